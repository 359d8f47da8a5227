import Derived.Test.YtifbomimeodibaaV4XD
import Derived.Test.YtifbomimeodibaaProg
import Derived.Test.YtifbomimeodibaaV4XW0
import Derived.Test.YtifbomimeodibaaV4XW2
import Derived.Test.YtifbomimeodibaaV4XW4
namespace Go.Proofs.Ytifbomimeodibaa
open Go Go.RowKit Go.Eng
set_option maxRecDepth 10000
set_option maxHeartbeats 4000000
set_option linter.unusedVariables false
set_option linter.unusedSimpArgs false
theorem Pm (F:Nat) (p0:law12_Thing) (res:volume_Item) (h:Fl F p0=some res) (μ:Frz) (w0:World) (hm:FrzAt μ w0) {ad1:Option Addr} {cap2:Nat} (hA3:ArrM μ 1 (fK .i16) ad1 cap2 p0.Numbers):Dd Try.prog 19 #[.agg #[.int .u8 p0.Kind,.int .u32 p0.Time,.int .u8 p0.Sides.1,.int .u8 p0.Sides.2.1,.int .u8 p0.Sides.2.2,sv ad1 p0.Numbers cap2]] w0 (fun e w=>∃(ν_:Frz) (d0:Option Addr) (d6:Nat) (dW:List (List Value)) (d1:Option Addr) (d7:Nat),μ.ext w0.heap.size ν_∧e=(.agg #[iv res.Kind,.string res.Name,iv res.Time,.string res.Sweep.Site.Name,iv res.Sweep.Site.X,iv res.Sweep.Site.Y,iv res.Sweep.Site.Z,iv res.Sweep.Site.Rose,iv res.Sweep.Site.Gates,iv res.Sweep.Site.Step,iv res.Sweep.Site.Width,iv res.Sweep.Tilt,iv res.Sweep.Time,sv d0 res.Sweep.Rays d6,iv res.Field.Grid.X,iv res.Field.Grid.Y,iv res.Field.Grid.Size,iv res.Field.Grid.Wide,iv res.Field.Grid.High,sv d1 res.Field.Vals d7,.string res.Text])∧ArrQ ν_ 1 Rp83 d0 d6 dW res.Sweep.Rays∧ArrM ν_ 2 api_Span.cells d1 d7 res.Field.Vals∧St w0 [fz w0 ν_] w):=by
 obtain ⟨hlow,hS⟩:=hm.init
 have hext:=Frz.ext_refl w0.heap.size μ
 rw [Fl] at h
 refine Aq Try.func19 rfl 168 [(0,.agg #[.int .u8 p0.Kind,.int .u32 p0.Time,.int .u8 p0.Sides.1,.int .u8 p0.Sides.2.1,.int .u8 p0.Sides.2.2,sv ad1 p0.Numbers cap2])] rfl rfl kr fun a w hw hF=>?_
 replace hS:=hS.cast hw
 clear hw
 refine esr ?_
 refine SK.wi (H4 (t:=58) (fun b4=>[(1,pb b4)]) (.agg #[.int .u8 p0.Kind,.int .u32 p0.Time,.int .u8 p0.Sides.1,.int .u8 p0.Sides.2.1,.int .u8 p0.Sides.2.2,sv ad1 p0.Numbers cap2]) #[.int .u8 p0.Kind,.int .u32 p0.Time,.int .u8 p0.Sides.1,.int .u8 p0.Sides.2.1,.int .u8 p0.Sides.2.2,sv ad1 p0.Numbers cap2] hF hS kr ⟨kr⟩ kr (fun _=>⟨kr⟩) fun b4 w a hF hS=>?_)
 refine SK.wi (Bs (t:=46) (fun b5=>[(1,pb b4),(2,pb b5)]) #[iv 0,.string ByteArray.empty,iv 0,.string ByteArray.empty,iv 0,iv 0,iv 0,iv 0,iv 0,iv 0,iv 0,iv 0,iv 0,.slice none 0 0,iv 0,iv 0,iv 0,iv 0,iv 0,.slice none 0 0,.string ByteArray.empty] hF hS kr ⟨kr⟩ kr (fun _=>⟨kr⟩) fun b5 w a hF hS=>?_)
 refine wfn rfl ?_
 refine esr ?_
 refine SK.wi (G0 (e:=9) (sz:=1) (f:=Ns) (t:=81) (len:=3) (fun b6=>[(1,pb b4),(2,pb b5),(13,sb b6 3)]) #[(0,.string (⟨#[97]⟩:ByteArray)),(1,.string (⟨#[98,95,49]⟩:ByteArray)),(2,.string (⟨#[122,122,122,122,122,122,122,122,122,122,122,122]⟩:ByteArray))] #[.string (⟨#[97]⟩:ByteArray),.string (⟨#[98,95,49]⟩:ByteArray),.string (⟨#[122,122,122,122,122,122,122,122,122,122,122,122]⟩:ByteArray)] ([(⟨#[97]⟩:ByteArray),(⟨#[98,95,49]⟩:ByteArray),(⟨#[122,122,122,122,122,122,122,122,122,122,122,122]⟩:ByteArray)]) hF hS kr ⟨kr⟩ kr Un rfl rfl kr (fun _=>⟨kr⟩) fun b6 w a hF hS=>?_)
 replace h:=A4 h
 obtain ⟨y7,hy7,h⟩:=h
 replace h:=A4 h
 obtain ⟨u8,hu8,h⟩:=h
 refine rx 5 [.run [] (Instr.loadAt 58 (pb b4)) (.agg #[.int .u8 p0.Kind,.int .u32 p0.Time,.int .u8 p0.Sides.1,.int .u8 p0.Sides.2.1,.int .u8 p0.Sides.2.2,sv ad1 p0.Numbers cap2]),.call [] 31 #[.agg #[.int .u8 p0.Kind,.int .u32 p0.Time,.int .u8 p0.Sides.1,.int .u8 p0.Sides.2.1,.int .u8 p0.Sides.2.2,sv ad1 p0.Numbers cap2],iv 0,iv 3] (iv y7),.run [] (Instr.indexAt 81 (sb b6 3) (iv y7)) (.pointer (some (Ag (some ⟨b6,0,none⟩) y7 1))),.run [] (Instr.loadAt 9 (.pointer (some (Ag (some ⟨b6,0,none⟩) y7 1)))) (.string u8)] 6 [(1,pb b4),(2,pb b5),(3,.string u8)] hF (A0 (obN (us:=[.int .u8 p0.Kind,.int .u32 p0.Time,.int .u8 p0.Sides.1,.int .u8 p0.Sides.2.1,.int .u8 p0.Sides.2.2,sv ad1 p0.Numbers cap2]) kr (fun _ hd=>((hS.later hd).blk (i:=2) rfl).cells rfl)) (A0 (show Ob.ok _ Ext _ _ from fun hk w2 hd=>A8 F (law12_Thing.mk p0.Kind p0.Time (p0.Sides.1,p0.Sides.2.1,p0.Sides.2.2) p0.Numbers) 0 3 _ ((fun _=>hy7) hk) _ w2 (A7 w2) (hA3.mono (FrzAt.le_mem ((hS.later hd).frz (i:=3) rfl hlow)))) (A0 (Bc (hS.arr (i:=0) rfl) kr (fun _=>hu8)) (A0 (Ey (i:=y7) 0 Un (fun _ hd=>((hS.later hd).arr (i:=0) rfl)) kr (fun _=>hu8) rfl) Aa)))) fun a w hF hx=>?_
 replace hS:=hS.later hx
 refine wfn rfl ?_
 refine esr ?_
 replace h:=A4 h
 obtain ⟨x9,hx9,h⟩:=h
 refine rno 4 [.run [] (Instr.loadAt 54 (.pointer (some ⟨b4,1,none⟩))) (.int .u32 p0.Time),.run [] (convert 54 3 (.int .u32 p0.Time)) (iv x9)] 4 [(1,pb b4),(2,pb b5),(3,.string u8),(4,iv x9)] hF (A0 (ob1 kr (fun _ hd=>(hS.at_ hd).cell (i:=2) (j:=1) rfl rfl)) (A0 (J4 kr kr (fun _=>hx9)) Aa)) fun a hF=>?_
 refine wfn rfl ?_
 refine Ei (fun a w=>Fr 168 [] [(1,pb b4),(2,pb b5),(4,iv x9)] a∧St w0 [arr 9 1 Ns (some ⟨b6,0,none⟩) ([(⟨#[97]⟩:ByteArray),(⟨#[98,95,49]⟩:ByteArray),(⟨#[122,122,122,122,122,122,122,122,122,122,122,122]⟩:ByteArray)]).length 3 ([(⟨#[97]⟩:ByteArray),(⟨#[98,95,49]⟩:ByteArray),(⟨#[122,122,122,122,122,122,122,122,122,122,122,122]⟩:ByteArray)]),blk b5 46 #[iv 0,.string ByteArray.empty,iv 0,.string ByteArray.empty,iv 0,iv 0,iv 0,iv 0,iv 0,iv 0,iv 0,iv 0,iv 0,.slice none 0 0,iv 0,iv 0,iv 0,iv 0,iv 0,.slice none 0 0,.string ByteArray.empty],blk b4 58 #[.int .u8 p0.Kind,.int .u32 p0.Time,.int .u8 p0.Sides.1,.int .u8 p0.Sides.2.1,.int .u8 p0.Sides.2.2,sv ad1 p0.Numbers cap2],fz w0 μ] w∧Gg F p0 u8 x9=some res) ?_ ?_
 ·skip
  refine esr ?_
  replace h:=A4 h
  obtain ⟨c7,e9,h⟩:=h
  refine rno 3 [.run [] (Instr.loadAt 5 (pb b4)) (.int .u8 p0.Kind),.run [] (binOp .rem 5 (.int .u8 p0.Kind) (.int .u8 3)) (.int .u8 c7)] 3 [(1,pb b4),(2,pb b5),(3,.string u8),(4,iv x9),(23,.int .u8 c7)] hF (A0 (ob1 kr (fun _ hd=>(hS.at_ hd).cell (i:=2) (j:=0) rfl rfl)) (A0 (A17 (fun _=>e9)) Aa)) fun a hF=>?_
  refine wfn rfl ?_
  refine wpIn_block ?_
  refine esr ?_
  refine rn 2 2 [(1,pb b4),(2,pb b5),(3,.string u8),(4,iv x9),(23,.int .u8 c7),(24,.bool (c7==0))] hF fun a hF=>?_
  refine wfn rfl ?_
  refine As hF rfl (fun hc=>?_) (fun hc=>?_)
  ·replace h:=Ao h hc
   refine B0 ?_
   replace h:=A4 h
   obtain ⟨dI,eA,h⟩:=h
   replace h:=A4 h
   obtain ⟨dJ,eB,h⟩:=h
   replace h:=A4 h
   obtain ⟨a1,eC,h⟩:=h
   replace h:=A4 h
   obtain ⟨dK,eD,h⟩:=h
   replace h:=A4 h
   obtain ⟨dL,eE,h⟩:=h
   replace h:=A4 h
   obtain ⟨a0,eF,h⟩:=h
   replace h:=A4 h
   obtain ⟨dM,eG,h⟩:=h
   replace h:=A4 h
   obtain ⟨a2,eH,h⟩:=h
   replace h:=A4 h
   obtain ⟨cN,dF,h⟩:=h
   replace h:=A4 h
   obtain ⟨a3,dC,h⟩:=h
   replace h:=A4 h
   obtain ⟨a4,cT,h⟩:=h
   replace h:=A4 h
   obtain ⟨a5,cI,h⟩:=h
   replace h:=A4 h
   obtain ⟨bE,c5,h⟩:=h
   replace h:=A4 h
   obtain ⟨a6,c4,h⟩:=h
   replace h:=A4 h
   obtain ⟨aD,bV,h⟩:=h
   refine Cz 35 [2,5,8,22,31,34] (fun a w=>∃(aB:Nat),Fr 168 [] [(1,pb b4),(2,pb b5),(5,pb aB),(59,.agg #[.string u8,iv a3,iv (IntKind.i64.wrap (0-a4)),iv a5,iv a1,iv a0,iv a6,iv a2,iv aD,iv x9,.slice none 0 0])] a∧St w0 [blk aB 39 #[.string ByteArray.empty,iv 0,iv 0,iv 0,iv 0,iv 0,iv 0,iv 0,iv 0,iv 0,.slice none 0 0],arr 9 1 Ns (some ⟨b6,0,none⟩) ([(⟨#[97]⟩:ByteArray),(⟨#[98,95,49]⟩:ByteArray),(⟨#[122,122,122,122,122,122,122,122,122,122,122,122]⟩:ByteArray)]).length 3 ([(⟨#[97]⟩:ByteArray),(⟨#[98,95,49]⟩:ByteArray),(⟨#[122,122,122,122,122,122,122,122,122,122,122,122]⟩:ByteArray)]),blk b5 46 #[iv 0,.string ByteArray.empty,iv 0,.string ByteArray.empty,iv 0,iv 0,iv 0,iv 0,iv 0,iv 0,iv 0,iv 0,iv 0,.slice none 0 0,iv 0,iv 0,iv 0,iv 0,iv 0,.slice none 0 0,.string ByteArray.empty],blk b4 58 #[.int .u8 p0.Kind,.int .u32 p0.Time,.int .u8 p0.Sides.1,.int .u8 p0.Sides.2.1,.int .u8 p0.Sides.2.2,sv ad1 p0.Numbers cap2],fz w0 μ] w) (D:=fun w=>St w0 [arr 9 1 Ns (some ⟨b6,0,none⟩) ([(⟨#[97]⟩:ByteArray),(⟨#[98,95,49]⟩:ByteArray),(⟨#[122,122,122,122,122,122,122,122,122,122,122,122]⟩:ByteArray)]).length 3 ([(⟨#[97]⟩:ByteArray),(⟨#[98,95,49]⟩:ByteArray),(⟨#[122,122,122,122,122,122,122,122,122,122,122,122]⟩:ByteArray)]),blk b5 46 #[iv 0,.string ByteArray.empty,iv 0,.string ByteArray.empty,iv 0,iv 0,iv 0,iv 0,iv 0,iv 0,iv 0,iv 0,iv 0,.slice none 0 0,iv 0,iv 0,iv 0,iv 0,iv 0,.slice none 0 0,.string ByteArray.empty],blk b4 58 #[.int .u8 p0.Kind,.int .u32 p0.Time,.int .u8 p0.Sides.1,.int .u8 p0.Sides.2.1,.int .u8 p0.Sides.2.2,sv ad1 p0.Numbers cap2]] w∧FrzAt μ w) kr kr hF.size (fun w hx=>?_) ?_
   ·skip
    replace hS:=hS.later hx
    refine ⟨⟨St.pick [0,1,2] (by decide) hS,hS.frz (i:=3) rfl hlow⟩,?_⟩
    have f5:=Frz.le_refl μ
    refine WT.s [0,1,4,7,9,10,11,12,13,14,15,16,17,18,19,20,21,24,25,26,27,28,30,32] [2,34] kr kr ?_
    refine Ek (rest:=[]) (obs:=[.run [] (Instr.loadAt 58 (pb b4)) (.agg #[.int .u8 p0.Kind,.int .u32 p0.Time,.int .u8 p0.Sides.1,.int .u8 p0.Sides.2.1,.int .u8 p0.Sides.2.2,sv ad1 p0.Numbers cap2]),.run [] (Instr.loadAt 58 (pb b4)) (.agg #[.int .u8 p0.Kind,.int .u32 p0.Time,.int .u8 p0.Sides.1,.int .u8 p0.Sides.2.1,.int .u8 p0.Sides.2.2,sv ad1 p0.Numbers cap2]),.run [] (Instr.loadAt 58 (pb b4)) (.agg #[.int .u8 p0.Kind,.int .u32 p0.Time,.int .u8 p0.Sides.1,.int .u8 p0.Sides.2.1,.int .u8 p0.Sides.2.2,sv ad1 p0.Numbers cap2]),.run [] (Instr.indexAt 55 (.pointer (some ⟨b4,2,none⟩)) (iv 0)) (.pointer (some ⟨b4,2,none⟩)),.run [] (Instr.loadAt 5 (.pointer (some ⟨b4,2,none⟩))) (.int .u8 p0.Sides.1),.run [] (convert 5 3 (.int .u8 p0.Sides.1)) (iv dI),.run [] (binOp .rem 3 (iv dI) (iv 2)) (iv dJ),.run [] (binOp .add 3 (iv 1) (iv dJ)) (iv a1),.run [] (Instr.indexAt 55 (.pointer (some ⟨b4,2,none⟩)) (iv 1)) (.pointer (some ⟨b4,3,none⟩)),.run [] (Instr.loadAt 5 (.pointer (some ⟨b4,3,none⟩))) (.int .u8 p0.Sides.2.1),.run [] (convert 5 3 (.int .u8 p0.Sides.2.1)) (iv dK),.run [] (binOp .rem 3 (iv dK) (iv 4)) (iv dL),.run [] (binOp .add 3 (iv 1) (iv dL)) (iv a0),.run [] (Instr.loadAt 58 (pb b4)) (.agg #[.int .u8 p0.Kind,.int .u32 p0.Time,.int .u8 p0.Sides.1,.int .u8 p0.Sides.2.1,.int .u8 p0.Sides.2.2,sv ad1 p0.Numbers cap2]),.run [] (Instr.indexAt 55 (.pointer (some ⟨b4,2,none⟩)) (iv 2)) (.pointer (some ⟨b4,4,none⟩)),.run [] (Instr.loadAt 5 (.pointer (some ⟨b4,4,none⟩))) (.int .u8 p0.Sides.2.2),.run [] (convert 5 3 (.int .u8 p0.Sides.2.2)) (iv dM),.run [] (binOp .rem 3 (iv dM) (iv 9)) (iv a2),.run [] (Instr.loadAt 58 (pb b4)) (.agg #[.int .u8 p0.Kind,.int .u32 p0.Time,.int .u8 p0.Sides.1,.int .u8 p0.Sides.2.1,.int .u8 p0.Sides.2.2,sv ad1 p0.Numbers cap2])]) [0,1,4,7,9,10,11,12,13,14,15,16,17,18,19,20,21,24,25,26,27,28,30,32] [(1,pb b4),(2,pb b5),(26,.string u8),(27,.agg #[.int .u8 p0.Kind,.int .u32 p0.Time,.int .u8 p0.Sides.1,.int .u8 p0.Sides.2.1,.int .u8 p0.Sides.2.2,sv ad1 p0.Numbers cap2]),(30,.agg #[.int .u8 p0.Kind,.int .u32 p0.Time,.int .u8 p0.Sides.1,.int .u8 p0.Sides.2.1,.int .u8 p0.Sides.2.2,sv ad1 p0.Numbers cap2]),(33,.agg #[.int .u8 p0.Kind,.int .u32 p0.Time,.int .u8 p0.Sides.1,.int .u8 p0.Sides.2.1,.int .u8 p0.Sides.2.2,sv ad1 p0.Numbers cap2]),(40,iv a1),(46,iv a0),(47,.agg #[.int .u8 p0.Kind,.int .u32 p0.Time,.int .u8 p0.Sides.1,.int .u8 p0.Sides.2.1,.int .u8 p0.Sides.2.2,sv ad1 p0.Numbers cap2]),(54,iv a2),(56,.agg #[.int .u8 p0.Kind,.int .u32 p0.Time,.int .u8 p0.Sides.1,.int .u8 p0.Sides.2.1,.int .u8 p0.Sides.2.2,sv ad1 p0.Numbers cap2]),(58,iv x9)] hF kr kr (A0 (obN (us:=[.int .u8 p0.Kind,.int .u32 p0.Time,.int .u8 p0.Sides.1,.int .u8 p0.Sides.2.1,.int .u8 p0.Sides.2.2,sv ad1 p0.Numbers cap2]) kr (fun _ hd=>(hd.1.blk (i:=2) rfl).cells rfl)) (A0 (obN (us:=[.int .u8 p0.Kind,.int .u32 p0.Time,.int .u8 p0.Sides.1,.int .u8 p0.Sides.2.1,.int .u8 p0.Sides.2.2,sv ad1 p0.Numbers cap2]) kr (fun _ hd=>(hd.1.blk (i:=2) rfl).cells rfl)) (A0 (obN (us:=[.int .u8 p0.Kind,.int .u32 p0.Time,.int .u8 p0.Sides.1,.int .u8 p0.Sides.2.1,.int .u8 p0.Sides.2.2,sv ad1 p0.Numbers cap2]) kr (fun _ hd=>(hd.1.blk (i:=2) rfl).cells rfl)) (A0 (Ca kr) (A0 (ob1 kr (fun _ hd=>hd.1.cell (i:=2) (j:=2) rfl rfl)) (A0 (J4 kr kr (fun _=>eA)) (A0 (Jj (fun _=>eB)) (A0 (Aw (fun _=>eC)) (A0 (Ca kr) (A0 (ob1 kr (fun _ hd=>hd.1.cell (i:=2) (j:=3) rfl rfl)) (A0 (J4 kr kr (fun _=>eD)) (A0 (Jj (fun _=>eE)) (A0 (Aw (fun _=>eF)) (A0 (obN (us:=[.int .u8 p0.Kind,.int .u32 p0.Time,.int .u8 p0.Sides.1,.int .u8 p0.Sides.2.1,.int .u8 p0.Sides.2.2,sv ad1 p0.Numbers cap2]) kr (fun _ hd=>(hd.1.blk (i:=2) rfl).cells rfl)) (A0 (Ca kr) (A0 (ob1 kr (fun _ hd=>hd.1.cell (i:=2) (j:=4) rfl rfl)) (A0 (J4 kr kr (fun _=>eG)) (A0 (Jj (fun _=>eH)) (A0 (obN (us:=[.int .u8 p0.Kind,.int .u32 p0.Time,.int .u8 p0.Sides.1,.int .u8 p0.Sides.2.1,.int .u8 p0.Sides.2.2,sv ad1 p0.Numbers cap2]) kr (fun _ hd=>(hd.1.blk (i:=2) rfl).cells rfl)) Aa))))))))))))))))))) ⟨kr⟩ fun a hF=>?_
    refine WRun.fin ?_
    refine all_cons ?_ (all_cons ?_ (Ay))
    ·skip
     refine F2 [(1,pb b4),(2,pb b5),(26,.string u8),(28,iv cN),(30,.agg #[.int .u8 p0.Kind,.int .u32 p0.Time,.int .u8 p0.Sides.1,.int .u8 p0.Sides.2.1,.int .u8 p0.Sides.2.2,sv ad1 p0.Numbers cap2]),(33,.agg #[.int .u8 p0.Kind,.int .u32 p0.Time,.int .u8 p0.Sides.1,.int .u8 p0.Sides.2.1,.int .u8 p0.Sides.2.2,sv ad1 p0.Numbers cap2]),(40,iv a1),(46,iv a0),(47,.agg #[.int .u8 p0.Kind,.int .u32 p0.Time,.int .u8 p0.Sides.1,.int .u8 p0.Sides.2.1,.int .u8 p0.Sides.2.2,sv ad1 p0.Numbers cap2]),(54,iv a2),(56,.agg #[.int .u8 p0.Kind,.int .u32 p0.Time,.int .u8 p0.Sides.1,.int .u8 p0.Sides.2.1,.int .u8 p0.Sides.2.2,sv ad1 p0.Numbers cap2]),(58,iv x9)] hF kr ⟨kr⟩ (A8 F _ _ _ _ dF (Bp w) w (A7 w) (hA3.mono (FrzAt.le_mem (hS.frz (i:=3) rfl hlow)))) ⟨kr⟩ ?_
     intro w a hx hF
     replace hS:=hS.later hx
     refine ⟨⟨St.pick [0,1,2] (by decide) hS,(hS.frz (i:=3) rfl hlow)⟩,?_⟩
     refine WT.s [3] [5,34] kr kr ?_
     refine Ek (rest:=[]) (obs:=[.run [] (binOp .sub 3 (iv cN) (iv 1000)) (iv a3)]) [3] [(1,pb b4),(2,pb b5),(26,.string u8),(29,iv a3),(30,.agg #[.int .u8 p0.Kind,.int .u32 p0.Time,.int .u8 p0.Sides.1,.int .u8 p0.Sides.2.1,.int .u8 p0.Sides.2.2,sv ad1 p0.Numbers cap2]),(33,.agg #[.int .u8 p0.Kind,.int .u32 p0.Time,.int .u8 p0.Sides.1,.int .u8 p0.Sides.2.1,.int .u8 p0.Sides.2.2,sv ad1 p0.Numbers cap2]),(40,iv a1),(46,iv a0),(47,.agg #[.int .u8 p0.Kind,.int .u32 p0.Time,.int .u8 p0.Sides.1,.int .u8 p0.Sides.2.1,.int .u8 p0.Sides.2.2,sv ad1 p0.Numbers cap2]),(54,iv a2),(56,.agg #[.int .u8 p0.Kind,.int .u32 p0.Time,.int .u8 p0.Sides.1,.int .u8 p0.Sides.2.1,.int .u8 p0.Sides.2.2,sv ad1 p0.Numbers cap2]),(58,iv x9)] hF kr kr (A0 (Jk (fun _=>dC)) Aa) ⟨kr⟩ fun a hF=>?_
     refine WRun.fin ?_
     refine all_cons ?_ (all_cons ?_ (Ay))
     ·skip
      refine F2 [(1,pb b4),(2,pb b5),(26,.string u8),(29,iv a3),(31,iv a4),(33,.agg #[.int .u8 p0.Kind,.int .u32 p0.Time,.int .u8 p0.Sides.1,.int .u8 p0.Sides.2.1,.int .u8 p0.Sides.2.2,sv ad1 p0.Numbers cap2]),(40,iv a1),(46,iv a0),(47,.agg #[.int .u8 p0.Kind,.int .u32 p0.Time,.int .u8 p0.Sides.1,.int .u8 p0.Sides.2.1,.int .u8 p0.Sides.2.2,sv ad1 p0.Numbers cap2]),(54,iv a2),(56,.agg #[.int .u8 p0.Kind,.int .u32 p0.Time,.int .u8 p0.Sides.1,.int .u8 p0.Sides.2.1,.int .u8 p0.Sides.2.2,sv ad1 p0.Numbers cap2]),(58,iv x9)] hF kr ⟨kr⟩ (A8 F _ _ _ _ cT (Bp w) w (A7 w) (hA3.mono (FrzAt.le_mem (hS.frz (i:=3) rfl hlow)))) ⟨kr⟩ ?_
      intro w a hx hF
      replace hS:=hS.later hx
      refine ⟨⟨St.pick [0,1,2] (by decide) hS,(hS.frz (i:=3) rfl hlow)⟩,?_⟩
      refine WT.s [6] [8,34] kr kr ?_
      refine Ek (rest:=[]) (obs:=[]) [6] [(1,pb b4),(2,pb b5),(26,.string u8),(29,iv a3),(32,iv (IntKind.i64.wrap (0-a4))),(33,.agg #[.int .u8 p0.Kind,.int .u32 p0.Time,.int .u8 p0.Sides.1,.int .u8 p0.Sides.2.1,.int .u8 p0.Sides.2.2,sv ad1 p0.Numbers cap2]),(40,iv a1),(46,iv a0),(47,.agg #[.int .u8 p0.Kind,.int .u32 p0.Time,.int .u8 p0.Sides.1,.int .u8 p0.Sides.2.1,.int .u8 p0.Sides.2.2,sv ad1 p0.Numbers cap2]),(54,iv a2),(56,.agg #[.int .u8 p0.Kind,.int .u32 p0.Time,.int .u8 p0.Sides.1,.int .u8 p0.Sides.2.1,.int .u8 p0.Sides.2.2,sv ad1 p0.Numbers cap2]),(58,iv x9)] hF kr kr Aa ⟨kr⟩ fun a hF=>?_
      refine WRun.fin ?_
      refine all_cons ?_ (all_cons ?_ (Ay))
      ·skip
       refine F2 [(1,pb b4),(2,pb b5),(26,.string u8),(29,iv a3),(32,iv (IntKind.i64.wrap (0-a4))),(34,iv a5),(40,iv a1),(46,iv a0),(47,.agg #[.int .u8 p0.Kind,.int .u32 p0.Time,.int .u8 p0.Sides.1,.int .u8 p0.Sides.2.1,.int .u8 p0.Sides.2.2,sv ad1 p0.Numbers cap2]),(54,iv a2),(56,.agg #[.int .u8 p0.Kind,.int .u32 p0.Time,.int .u8 p0.Sides.1,.int .u8 p0.Sides.2.1,.int .u8 p0.Sides.2.2,sv ad1 p0.Numbers cap2]),(58,iv x9)] hF kr ⟨kr⟩ (A8 F _ _ _ _ cI (Bp w) w (A7 w) (hA3.mono (FrzAt.le_mem (hS.frz (i:=3) rfl hlow)))) ⟨kr⟩ ?_
       intro w a hx hF
       replace hS:=hS.later hx
       refine ⟨⟨St.pick [0,1,2] (by decide) hS,(hS.frz (i:=3) rfl hlow)⟩,?_⟩
       refine WT.s [] [22,34] kr kr ?_
       refine WRun.fin ?_
       refine all_cons ?_ (all_cons ?_ (Ay))
       ·skip
        refine F2 [(1,pb b4),(2,pb b5),(26,.string u8),(29,iv a3),(32,iv (IntKind.i64.wrap (0-a4))),(34,iv a5),(40,iv a1),(46,iv a0),(48,iv bE),(54,iv a2),(56,.agg #[.int .u8 p0.Kind,.int .u32 p0.Time,.int .u8 p0.Sides.1,.int .u8 p0.Sides.2.1,.int .u8 p0.Sides.2.2,sv ad1 p0.Numbers cap2]),(58,iv x9)] hF kr ⟨kr⟩ (A8 F _ _ _ _ c5 (Bp w) w (A7 w) (hA3.mono (FrzAt.le_mem (hS.frz (i:=3) rfl hlow)))) ⟨kr⟩ ?_
        intro w a hx hF
        replace hS:=hS.later hx
        refine ⟨⟨St.pick [0,1,2] (by decide) hS,(hS.frz (i:=3) rfl hlow)⟩,?_⟩
        refine WT.s [23,29] [31,34] kr kr ?_
        refine Ek (rest:=[]) (obs:=[.run [] (binOp .add 3 (iv 50) (iv bE)) (iv a6)]) [23,29] [(1,pb b4),(2,pb b5),(55,.agg #[.string u8,iv a3,iv (IntKind.i64.wrap (0-a4)),iv a5,iv a1,iv a0,iv a6,iv a2]),(56,.agg #[.int .u8 p0.Kind,.int .u32 p0.Time,.int .u8 p0.Sides.1,.int .u8 p0.Sides.2.1,.int .u8 p0.Sides.2.2,sv ad1 p0.Numbers cap2]),(58,iv x9)] hF kr kr (A0 (Aw (fun _=>c4)) Aa) ⟨kr⟩ fun a hF=>?_
        refine WRun.fin ?_
        refine all_cons ?_ (all_cons ?_ (Ay))
        ·skip
         refine F2 [(1,pb b4),(2,pb b5),(55,.agg #[.string u8,iv a3,iv (IntKind.i64.wrap (0-a4)),iv a5,iv a1,iv a0,iv a6,iv a2]),(57,iv aD),(58,iv x9)] hF kr ⟨kr⟩ (A8 F _ _ _ _ bV (Bp w) w (A7 w) (hA3.mono (FrzAt.le_mem (hS.frz (i:=3) rfl hlow)))) ⟨kr⟩ ?_
         intro w a hx hF
         replace hS:=hS.later hx
         refine ⟨⟨St.pick [0,1,2] (by decide) hS,(hS.frz (i:=3) rfl hlow)⟩,?_⟩
         refine WT.s [33] [34] kr kr ?_
         refine Ek (rest:=[]) (obs:=[]) [33] [(1,pb b4),(2,pb b5),(59,.agg #[.string u8,iv a3,iv (IntKind.i64.wrap (0-a4)),iv a5,iv a1,iv a0,iv a6,iv a2,iv aD,iv x9,.slice none 0 0])] hF kr kr Aa ⟨kr⟩ fun a hF=>?_
         refine WRun.fin ?_
         refine all_cons ?_ (Ay)
         refine Bs (t:=39) (fun cP=>[(1,pb b4),(2,pb b5),(5,pb cP),(59,.agg #[.string u8,iv a3,iv (IntKind.i64.wrap (0-a4)),iv a5,iv a1,iv a0,iv a6,iv a2,iv aD,iv x9,.slice none 0 0])]) #[.string ByteArray.empty,iv 0,iv 0,iv 0,iv 0,iv 0,iv 0,iv 0,iv 0,iv 0,.slice none 0 0] hF hS kr ⟨kr⟩ kr (fun _=>⟨kr⟩) fun cP w a hF hS=>⟨⟨St.pick [1,2,3] (by decide) hS,(hS.frz (i:=4) rfl hlow)⟩,?_⟩
         refine WT.z [] kr ?_
         refine WRun.fin ?_
         exact ⟨cP,hF.sub kr,St.pick [0,1,2,3,4] (by decide) hS⟩
        ·skip
         refine Bs (t:=39) (fun c0=>[(1,pb b4),(2,pb b5),(5,pb c0),(55,.agg #[.string u8,iv a3,iv (IntKind.i64.wrap (0-a4)),iv a5,iv a1,iv a0,iv a6,iv a2]),(56,.agg #[.int .u8 p0.Kind,.int .u32 p0.Time,.int .u8 p0.Sides.1,.int .u8 p0.Sides.2.1,.int .u8 p0.Sides.2.2,sv ad1 p0.Numbers cap2]),(58,iv x9)]) #[.string ByteArray.empty,iv 0,iv 0,iv 0,iv 0,iv 0,iv 0,iv 0,iv 0,iv 0,.slice none 0 0] hF hS kr ⟨kr⟩ kr (fun _=>⟨kr⟩) fun c0 w a hF hS=>⟨⟨St.pick [1,2,3] (by decide) hS,(hS.frz (i:=4) rfl hlow)⟩,?_⟩
         refine WT.s [] [31] kr kr ?_
         refine WRun.fin ?_
         refine all_cons ?_ (Ay)
         refine F2 [(1,pb b4),(2,pb b5),(5,pb c0),(55,.agg #[.string u8,iv a3,iv (IntKind.i64.wrap (0-a4)),iv a5,iv a1,iv a0,iv a6,iv a2]),(57,iv aD),(58,iv x9)] hF kr ⟨kr⟩ (A8 F _ _ _ _ bV (Bp w) w (A7 w) (hA3.mono (FrzAt.le_mem (hS.frz (i:=4) rfl hlow)))) ⟨kr⟩ ?_
         intro w a hx hF
         replace hS:=hS.later hx
         refine ⟨⟨St.pick [1,2,3] (by decide) hS,(hS.frz (i:=4) rfl hlow)⟩,?_⟩
         refine WT.z [33] kr ?_
         refine Ek (rest:=[]) (obs:=[]) [33] [(1,pb b4),(2,pb b5),(5,pb c0),(59,.agg #[.string u8,iv a3,iv (IntKind.i64.wrap (0-a4)),iv a5,iv a1,iv a0,iv a6,iv a2,iv aD,iv x9,.slice none 0 0])] hF kr kr Aa ⟨kr⟩ fun a hF=>?_
         refine WRun.fin ?_
         exact ⟨c0,hF.sub kr,St.pick [0,1,2,3,4] (by decide) hS⟩
       ·skip
        refine Bs (t:=39) (fun bM=>[(1,pb b4),(2,pb b5),(5,pb bM),(26,.string u8),(29,iv a3),(32,iv (IntKind.i64.wrap (0-a4))),(34,iv a5),(40,iv a1),(46,iv a0),(47,.agg #[.int .u8 p0.Kind,.int .u32 p0.Time,.int .u8 p0.Sides.1,.int .u8 p0.Sides.2.1,.int .u8 p0.Sides.2.2,sv ad1 p0.Numbers cap2]),(54,iv a2),(56,.agg #[.int .u8 p0.Kind,.int .u32 p0.Time,.int .u8 p0.Sides.1,.int .u8 p0.Sides.2.1,.int .u8 p0.Sides.2.2,sv ad1 p0.Numbers cap2]),(58,iv x9)]) #[.string ByteArray.empty,iv 0,iv 0,iv 0,iv 0,iv 0,iv 0,iv 0,iv 0,iv 0,.slice none 0 0] hF hS kr ⟨kr⟩ kr (fun _=>⟨kr⟩) fun bM w a hF hS=>⟨⟨St.pick [1,2,3] (by decide) hS,(hS.frz (i:=4) rfl hlow)⟩,?_⟩
        refine WT.s [] [22] kr kr ?_
        refine WRun.fin ?_
        refine all_cons ?_ (Ay)
        refine F2 [(1,pb b4),(2,pb b5),(5,pb bM),(26,.string u8),(29,iv a3),(32,iv (IntKind.i64.wrap (0-a4))),(34,iv a5),(40,iv a1),(46,iv a0),(48,iv bE),(54,iv a2),(56,.agg #[.int .u8 p0.Kind,.int .u32 p0.Time,.int .u8 p0.Sides.1,.int .u8 p0.Sides.2.1,.int .u8 p0.Sides.2.2,sv ad1 p0.Numbers cap2]),(58,iv x9)] hF kr ⟨kr⟩ (A8 F _ _ _ _ c5 (Bp w) w (A7 w) (hA3.mono (FrzAt.le_mem (hS.frz (i:=4) rfl hlow)))) ⟨kr⟩ ?_
        intro w a hx hF
        replace hS:=hS.later hx
        refine ⟨⟨St.pick [1,2,3] (by decide) hS,(hS.frz (i:=4) rfl hlow)⟩,?_⟩
        refine WT.s [23,29] [31] kr kr ?_
        refine Ek (rest:=[]) (obs:=[.run [] (binOp .add 3 (iv 50) (iv bE)) (iv a6)]) [23,29] [(1,pb b4),(2,pb b5),(5,pb bM),(55,.agg #[.string u8,iv a3,iv (IntKind.i64.wrap (0-a4)),iv a5,iv a1,iv a0,iv a6,iv a2]),(56,.agg #[.int .u8 p0.Kind,.int .u32 p0.Time,.int .u8 p0.Sides.1,.int .u8 p0.Sides.2.1,.int .u8 p0.Sides.2.2,sv ad1 p0.Numbers cap2]),(58,iv x9)] hF kr kr (A0 (Aw (fun _=>c4)) Aa) ⟨kr⟩ fun a hF=>?_
        refine WRun.fin ?_
        refine all_cons ?_ (Ay)
        refine F2 [(1,pb b4),(2,pb b5),(5,pb bM),(55,.agg #[.string u8,iv a3,iv (IntKind.i64.wrap (0-a4)),iv a5,iv a1,iv a0,iv a6,iv a2]),(57,iv aD),(58,iv x9)] hF kr ⟨kr⟩ (A8 F _ _ _ _ bV (Bp w) w (A7 w) (hA3.mono (FrzAt.le_mem (hS.frz (i:=4) rfl hlow)))) ⟨kr⟩ ?_
        intro w a hx hF
        replace hS:=hS.later hx
        refine ⟨⟨St.pick [1,2,3] (by decide) hS,(hS.frz (i:=4) rfl hlow)⟩,?_⟩
        refine WT.z [33] kr ?_
        refine Ek (rest:=[]) (obs:=[]) [33] [(1,pb b4),(2,pb b5),(5,pb bM),(59,.agg #[.string u8,iv a3,iv (IntKind.i64.wrap (0-a4)),iv a5,iv a1,iv a0,iv a6,iv a2,iv aD,iv x9,.slice none 0 0])] hF kr kr Aa ⟨kr⟩ fun a hF=>?_
        refine WRun.fin ?_
        exact ⟨bM,hF.sub kr,St.pick [0,1,2,3,4] (by decide) hS⟩
      ·skip
       refine Bs (t:=39) (fun bH=>[(1,pb b4),(2,pb b5),(5,pb bH),(26,.string u8),(29,iv a3),(32,iv (IntKind.i64.wrap (0-a4))),(33,.agg #[.int .u8 p0.Kind,.int .u32 p0.Time,.int .u8 p0.Sides.1,.int .u8 p0.Sides.2.1,.int .u8 p0.Sides.2.2,sv ad1 p0.Numbers cap2]),(40,iv a1),(46,iv a0),(47,.agg #[.int .u8 p0.Kind,.int .u32 p0.Time,.int .u8 p0.Sides.1,.int .u8 p0.Sides.2.1,.int .u8 p0.Sides.2.2,sv ad1 p0.Numbers cap2]),(54,iv a2),(56,.agg #[.int .u8 p0.Kind,.int .u32 p0.Time,.int .u8 p0.Sides.1,.int .u8 p0.Sides.2.1,.int .u8 p0.Sides.2.2,sv ad1 p0.Numbers cap2]),(58,iv x9)]) #[.string ByteArray.empty,iv 0,iv 0,iv 0,iv 0,iv 0,iv 0,iv 0,iv 0,iv 0,.slice none 0 0] hF hS kr ⟨kr⟩ kr (fun _=>⟨kr⟩) fun bH w a hF hS=>⟨⟨St.pick [1,2,3] (by decide) hS,(hS.frz (i:=4) rfl hlow)⟩,?_⟩
       refine WT.s [] [8] kr kr ?_
       refine WRun.fin ?_
       refine all_cons ?_ (Ay)
       refine F2 [(1,pb b4),(2,pb b5),(5,pb bH),(26,.string u8),(29,iv a3),(32,iv (IntKind.i64.wrap (0-a4))),(34,iv a5),(40,iv a1),(46,iv a0),(47,.agg #[.int .u8 p0.Kind,.int .u32 p0.Time,.int .u8 p0.Sides.1,.int .u8 p0.Sides.2.1,.int .u8 p0.Sides.2.2,sv ad1 p0.Numbers cap2]),(54,iv a2),(56,.agg #[.int .u8 p0.Kind,.int .u32 p0.Time,.int .u8 p0.Sides.1,.int .u8 p0.Sides.2.1,.int .u8 p0.Sides.2.2,sv ad1 p0.Numbers cap2]),(58,iv x9)] hF kr ⟨kr⟩ (A8 F _ _ _ _ cI (Bp w) w (A7 w) (hA3.mono (FrzAt.le_mem (hS.frz (i:=4) rfl hlow)))) ⟨kr⟩ ?_
       intro w a hx hF
       replace hS:=hS.later hx
       refine ⟨⟨St.pick [1,2,3] (by decide) hS,(hS.frz (i:=4) rfl hlow)⟩,?_⟩
       refine WT.s [] [22] kr kr ?_
       refine WRun.fin ?_
       refine all_cons ?_ (Ay)
       refine F2 [(1,pb b4),(2,pb b5),(5,pb bH),(26,.string u8),(29,iv a3),(32,iv (IntKind.i64.wrap (0-a4))),(34,iv a5),(40,iv a1),(46,iv a0),(48,iv bE),(54,iv a2),(56,.agg #[.int .u8 p0.Kind,.int .u32 p0.Time,.int .u8 p0.Sides.1,.int .u8 p0.Sides.2.1,.int .u8 p0.Sides.2.2,sv ad1 p0.Numbers cap2]),(58,iv x9)] hF kr ⟨kr⟩ (A8 F _ _ _ _ c5 (Bp w) w (A7 w) (hA3.mono (FrzAt.le_mem (hS.frz (i:=4) rfl hlow)))) ⟨kr⟩ ?_
       intro w a hx hF
       replace hS:=hS.later hx
       refine ⟨⟨St.pick [1,2,3] (by decide) hS,(hS.frz (i:=4) rfl hlow)⟩,?_⟩
       refine WT.s [23,29] [31] kr kr ?_
       refine Ek (rest:=[]) (obs:=[.run [] (binOp .add 3 (iv 50) (iv bE)) (iv a6)]) [23,29] [(1,pb b4),(2,pb b5),(5,pb bH),(55,.agg #[.string u8,iv a3,iv (IntKind.i64.wrap (0-a4)),iv a5,iv a1,iv a0,iv a6,iv a2]),(56,.agg #[.int .u8 p0.Kind,.int .u32 p0.Time,.int .u8 p0.Sides.1,.int .u8 p0.Sides.2.1,.int .u8 p0.Sides.2.2,sv ad1 p0.Numbers cap2]),(58,iv x9)] hF kr kr (A0 (Aw (fun _=>c4)) Aa) ⟨kr⟩ fun a hF=>?_
       refine WRun.fin ?_
       refine all_cons ?_ (Ay)
       refine F2 [(1,pb b4),(2,pb b5),(5,pb bH),(55,.agg #[.string u8,iv a3,iv (IntKind.i64.wrap (0-a4)),iv a5,iv a1,iv a0,iv a6,iv a2]),(57,iv aD),(58,iv x9)] hF kr ⟨kr⟩ (A8 F _ _ _ _ bV (Bp w) w (A7 w) (hA3.mono (FrzAt.le_mem (hS.frz (i:=4) rfl hlow)))) ⟨kr⟩ ?_
       intro w a hx hF
       replace hS:=hS.later hx
       refine ⟨⟨St.pick [1,2,3] (by decide) hS,(hS.frz (i:=4) rfl hlow)⟩,?_⟩
       refine WT.z [33] kr ?_
       refine Ek (rest:=[]) (obs:=[]) [33] [(1,pb b4),(2,pb b5),(5,pb bH),(59,.agg #[.string u8,iv a3,iv (IntKind.i64.wrap (0-a4)),iv a5,iv a1,iv a0,iv a6,iv a2,iv aD,iv x9,.slice none 0 0])] hF kr kr Aa ⟨kr⟩ fun a hF=>?_
       refine WRun.fin ?_
       exact ⟨bH,hF.sub kr,St.pick [0,1,2,3,4] (by decide) hS⟩
     ·skip
      refine Bs (t:=39) (fun bC=>[(1,pb b4),(2,pb b5),(5,pb bC),(26,.string u8),(29,iv a3),(30,.agg #[.int .u8 p0.Kind,.int .u32 p0.Time,.int .u8 p0.Sides.1,.int .u8 p0.Sides.2.1,.int .u8 p0.Sides.2.2,sv ad1 p0.Numbers cap2]),(33,.agg #[.int .u8 p0.Kind,.int .u32 p0.Time,.int .u8 p0.Sides.1,.int .u8 p0.Sides.2.1,.int .u8 p0.Sides.2.2,sv ad1 p0.Numbers cap2]),(40,iv a1),(46,iv a0),(47,.agg #[.int .u8 p0.Kind,.int .u32 p0.Time,.int .u8 p0.Sides.1,.int .u8 p0.Sides.2.1,.int .u8 p0.Sides.2.2,sv ad1 p0.Numbers cap2]),(54,iv a2),(56,.agg #[.int .u8 p0.Kind,.int .u32 p0.Time,.int .u8 p0.Sides.1,.int .u8 p0.Sides.2.1,.int .u8 p0.Sides.2.2,sv ad1 p0.Numbers cap2]),(58,iv x9)]) #[.string ByteArray.empty,iv 0,iv 0,iv 0,iv 0,iv 0,iv 0,iv 0,iv 0,iv 0,.slice none 0 0] hF hS kr ⟨kr⟩ kr (fun _=>⟨kr⟩) fun bC w a hF hS=>⟨⟨St.pick [1,2,3] (by decide) hS,(hS.frz (i:=4) rfl hlow)⟩,?_⟩
      refine WT.s [] [5] kr kr ?_
      refine WRun.fin ?_
      refine all_cons ?_ (Ay)
      refine F2 [(1,pb b4),(2,pb b5),(5,pb bC),(26,.string u8),(29,iv a3),(31,iv a4),(33,.agg #[.int .u8 p0.Kind,.int .u32 p0.Time,.int .u8 p0.Sides.1,.int .u8 p0.Sides.2.1,.int .u8 p0.Sides.2.2,sv ad1 p0.Numbers cap2]),(40,iv a1),(46,iv a0),(47,.agg #[.int .u8 p0.Kind,.int .u32 p0.Time,.int .u8 p0.Sides.1,.int .u8 p0.Sides.2.1,.int .u8 p0.Sides.2.2,sv ad1 p0.Numbers cap2]),(54,iv a2),(56,.agg #[.int .u8 p0.Kind,.int .u32 p0.Time,.int .u8 p0.Sides.1,.int .u8 p0.Sides.2.1,.int .u8 p0.Sides.2.2,sv ad1 p0.Numbers cap2]),(58,iv x9)] hF kr ⟨kr⟩ (A8 F _ _ _ _ cT (Bp w) w (A7 w) (hA3.mono (FrzAt.le_mem (hS.frz (i:=4) rfl hlow)))) ⟨kr⟩ ?_
      intro w a hx hF
      replace hS:=hS.later hx
      refine ⟨⟨St.pick [1,2,3] (by decide) hS,(hS.frz (i:=4) rfl hlow)⟩,?_⟩
      refine WT.s [6] [8] kr kr ?_
      refine Ek (rest:=[]) (obs:=[]) [6] [(1,pb b4),(2,pb b5),(5,pb bC),(26,.string u8),(29,iv a3),(32,iv (IntKind.i64.wrap (0-a4))),(33,.agg #[.int .u8 p0.Kind,.int .u32 p0.Time,.int .u8 p0.Sides.1,.int .u8 p0.Sides.2.1,.int .u8 p0.Sides.2.2,sv ad1 p0.Numbers cap2]),(40,iv a1),(46,iv a0),(47,.agg #[.int .u8 p0.Kind,.int .u32 p0.Time,.int .u8 p0.Sides.1,.int .u8 p0.Sides.2.1,.int .u8 p0.Sides.2.2,sv ad1 p0.Numbers cap2]),(54,iv a2),(56,.agg #[.int .u8 p0.Kind,.int .u32 p0.Time,.int .u8 p0.Sides.1,.int .u8 p0.Sides.2.1,.int .u8 p0.Sides.2.2,sv ad1 p0.Numbers cap2]),(58,iv x9)] hF kr kr Aa ⟨kr⟩ fun a hF=>?_
      refine WRun.fin ?_
      refine all_cons ?_ (Ay)
      refine F2 [(1,pb b4),(2,pb b5),(5,pb bC),(26,.string u8),(29,iv a3),(32,iv (IntKind.i64.wrap (0-a4))),(34,iv a5),(40,iv a1),(46,iv a0),(47,.agg #[.int .u8 p0.Kind,.int .u32 p0.Time,.int .u8 p0.Sides.1,.int .u8 p0.Sides.2.1,.int .u8 p0.Sides.2.2,sv ad1 p0.Numbers cap2]),(54,iv a2),(56,.agg #[.int .u8 p0.Kind,.int .u32 p0.Time,.int .u8 p0.Sides.1,.int .u8 p0.Sides.2.1,.int .u8 p0.Sides.2.2,sv ad1 p0.Numbers cap2]),(58,iv x9)] hF kr ⟨kr⟩ (A8 F _ _ _ _ cI (Bp w) w (A7 w) (hA3.mono (FrzAt.le_mem (hS.frz (i:=4) rfl hlow)))) ⟨kr⟩ ?_
      intro w a hx hF
      replace hS:=hS.later hx
      refine ⟨⟨St.pick [1,2,3] (by decide) hS,(hS.frz (i:=4) rfl hlow)⟩,?_⟩
      refine WT.s [] [22] kr kr ?_
      refine WRun.fin ?_
      refine all_cons ?_ (Ay)
      refine F2 [(1,pb b4),(2,pb b5),(5,pb bC),(26,.string u8),(29,iv a3),(32,iv (IntKind.i64.wrap (0-a4))),(34,iv a5),(40,iv a1),(46,iv a0),(48,iv bE),(54,iv a2),(56,.agg #[.int .u8 p0.Kind,.int .u32 p0.Time,.int .u8 p0.Sides.1,.int .u8 p0.Sides.2.1,.int .u8 p0.Sides.2.2,sv ad1 p0.Numbers cap2]),(58,iv x9)] hF kr ⟨kr⟩ (A8 F _ _ _ _ c5 (Bp w) w (A7 w) (hA3.mono (FrzAt.le_mem (hS.frz (i:=4) rfl hlow)))) ⟨kr⟩ ?_
      intro w a hx hF
      replace hS:=hS.later hx
      refine ⟨⟨St.pick [1,2,3] (by decide) hS,(hS.frz (i:=4) rfl hlow)⟩,?_⟩
      refine WT.s [23,29] [31] kr kr ?_
      refine Ek (rest:=[]) (obs:=[.run [] (binOp .add 3 (iv 50) (iv bE)) (iv a6)]) [23,29] [(1,pb b4),(2,pb b5),(5,pb bC),(55,.agg #[.string u8,iv a3,iv (IntKind.i64.wrap (0-a4)),iv a5,iv a1,iv a0,iv a6,iv a2]),(56,.agg #[.int .u8 p0.Kind,.int .u32 p0.Time,.int .u8 p0.Sides.1,.int .u8 p0.Sides.2.1,.int .u8 p0.Sides.2.2,sv ad1 p0.Numbers cap2]),(58,iv x9)] hF kr kr (A0 (Aw (fun _=>c4)) Aa) ⟨kr⟩ fun a hF=>?_
      refine WRun.fin ?_
      refine all_cons ?_ (Ay)
      refine F2 [(1,pb b4),(2,pb b5),(5,pb bC),(55,.agg #[.string u8,iv a3,iv (IntKind.i64.wrap (0-a4)),iv a5,iv a1,iv a0,iv a6,iv a2]),(57,iv aD),(58,iv x9)] hF kr ⟨kr⟩ (A8 F _ _ _ _ bV (Bp w) w (A7 w) (hA3.mono (FrzAt.le_mem (hS.frz (i:=4) rfl hlow)))) ⟨kr⟩ ?_
      intro w a hx hF
      replace hS:=hS.later hx
      refine ⟨⟨St.pick [1,2,3] (by decide) hS,(hS.frz (i:=4) rfl hlow)⟩,?_⟩
      refine WT.z [33] kr ?_
      refine Ek (rest:=[]) (obs:=[]) [33] [(1,pb b4),(2,pb b5),(5,pb bC),(59,.agg #[.string u8,iv a3,iv (IntKind.i64.wrap (0-a4)),iv a5,iv a1,iv a0,iv a6,iv a2,iv aD,iv x9,.slice none 0 0])] hF kr kr Aa ⟨kr⟩ fun a hF=>?_
      refine WRun.fin ?_
      exact ⟨bC,hF.sub kr,St.pick [0,1,2,3,4] (by decide) hS⟩
    ·skip
     refine Bs (t:=39) (fun aU=>[(1,pb b4),(2,pb b5),(5,pb aU),(26,.string u8),(27,.agg #[.int .u8 p0.Kind,.int .u32 p0.Time,.int .u8 p0.Sides.1,.int .u8 p0.Sides.2.1,.int .u8 p0.Sides.2.2,sv ad1 p0.Numbers cap2]),(30,.agg #[.int .u8 p0.Kind,.int .u32 p0.Time,.int .u8 p0.Sides.1,.int .u8 p0.Sides.2.1,.int .u8 p0.Sides.2.2,sv ad1 p0.Numbers cap2]),(33,.agg #[.int .u8 p0.Kind,.int .u32 p0.Time,.int .u8 p0.Sides.1,.int .u8 p0.Sides.2.1,.int .u8 p0.Sides.2.2,sv ad1 p0.Numbers cap2]),(40,iv a1),(46,iv a0),(47,.agg #[.int .u8 p0.Kind,.int .u32 p0.Time,.int .u8 p0.Sides.1,.int .u8 p0.Sides.2.1,.int .u8 p0.Sides.2.2,sv ad1 p0.Numbers cap2]),(54,iv a2),(56,.agg #[.int .u8 p0.Kind,.int .u32 p0.Time,.int .u8 p0.Sides.1,.int .u8 p0.Sides.2.1,.int .u8 p0.Sides.2.2,sv ad1 p0.Numbers cap2]),(58,iv x9)]) #[.string ByteArray.empty,iv 0,iv 0,iv 0,iv 0,iv 0,iv 0,iv 0,iv 0,iv 0,.slice none 0 0] hF hS kr ⟨kr⟩ kr (fun _=>⟨kr⟩) fun aU w a hF hS=>⟨⟨St.pick [1,2,3] (by decide) hS,(hS.frz (i:=4) rfl hlow)⟩,?_⟩
     refine WT.s [] [2] kr kr ?_
     refine WRun.fin ?_
     refine all_cons ?_ (Ay)
     refine F2 [(1,pb b4),(2,pb b5),(5,pb aU),(26,.string u8),(28,iv cN),(30,.agg #[.int .u8 p0.Kind,.int .u32 p0.Time,.int .u8 p0.Sides.1,.int .u8 p0.Sides.2.1,.int .u8 p0.Sides.2.2,sv ad1 p0.Numbers cap2]),(33,.agg #[.int .u8 p0.Kind,.int .u32 p0.Time,.int .u8 p0.Sides.1,.int .u8 p0.Sides.2.1,.int .u8 p0.Sides.2.2,sv ad1 p0.Numbers cap2]),(40,iv a1),(46,iv a0),(47,.agg #[.int .u8 p0.Kind,.int .u32 p0.Time,.int .u8 p0.Sides.1,.int .u8 p0.Sides.2.1,.int .u8 p0.Sides.2.2,sv ad1 p0.Numbers cap2]),(54,iv a2),(56,.agg #[.int .u8 p0.Kind,.int .u32 p0.Time,.int .u8 p0.Sides.1,.int .u8 p0.Sides.2.1,.int .u8 p0.Sides.2.2,sv ad1 p0.Numbers cap2]),(58,iv x9)] hF kr ⟨kr⟩ (A8 F _ _ _ _ dF (Bp w) w (A7 w) (hA3.mono (FrzAt.le_mem (hS.frz (i:=4) rfl hlow)))) ⟨kr⟩ ?_
     intro w a hx hF
     replace hS:=hS.later hx
     refine ⟨⟨St.pick [1,2,3] (by decide) hS,(hS.frz (i:=4) rfl hlow)⟩,?_⟩
     refine WT.s [3] [5] kr kr ?_
     refine Ek (rest:=[]) (obs:=[.run [] (binOp .sub 3 (iv cN) (iv 1000)) (iv a3)]) [3] [(1,pb b4),(2,pb b5),(5,pb aU),(26,.string u8),(29,iv a3),(30,.agg #[.int .u8 p0.Kind,.int .u32 p0.Time,.int .u8 p0.Sides.1,.int .u8 p0.Sides.2.1,.int .u8 p0.Sides.2.2,sv ad1 p0.Numbers cap2]),(33,.agg #[.int .u8 p0.Kind,.int .u32 p0.Time,.int .u8 p0.Sides.1,.int .u8 p0.Sides.2.1,.int .u8 p0.Sides.2.2,sv ad1 p0.Numbers cap2]),(40,iv a1),(46,iv a0),(47,.agg #[.int .u8 p0.Kind,.int .u32 p0.Time,.int .u8 p0.Sides.1,.int .u8 p0.Sides.2.1,.int .u8 p0.Sides.2.2,sv ad1 p0.Numbers cap2]),(54,iv a2),(56,.agg #[.int .u8 p0.Kind,.int .u32 p0.Time,.int .u8 p0.Sides.1,.int .u8 p0.Sides.2.1,.int .u8 p0.Sides.2.2,sv ad1 p0.Numbers cap2]),(58,iv x9)] hF kr kr (A0 (Jk (fun _=>dC)) Aa) ⟨kr⟩ fun a hF=>?_
     refine WRun.fin ?_
     refine all_cons ?_ (Ay)
     refine F2 [(1,pb b4),(2,pb b5),(5,pb aU),(26,.string u8),(29,iv a3),(31,iv a4),(33,.agg #[.int .u8 p0.Kind,.int .u32 p0.Time,.int .u8 p0.Sides.1,.int .u8 p0.Sides.2.1,.int .u8 p0.Sides.2.2,sv ad1 p0.Numbers cap2]),(40,iv a1),(46,iv a0),(47,.agg #[.int .u8 p0.Kind,.int .u32 p0.Time,.int .u8 p0.Sides.1,.int .u8 p0.Sides.2.1,.int .u8 p0.Sides.2.2,sv ad1 p0.Numbers cap2]),(54,iv a2),(56,.agg #[.int .u8 p0.Kind,.int .u32 p0.Time,.int .u8 p0.Sides.1,.int .u8 p0.Sides.2.1,.int .u8 p0.Sides.2.2,sv ad1 p0.Numbers cap2]),(58,iv x9)] hF kr ⟨kr⟩ (A8 F _ _ _ _ cT (Bp w) w (A7 w) (hA3.mono (FrzAt.le_mem (hS.frz (i:=4) rfl hlow)))) ⟨kr⟩ ?_
     intro w a hx hF
     replace hS:=hS.later hx
     refine ⟨⟨St.pick [1,2,3] (by decide) hS,(hS.frz (i:=4) rfl hlow)⟩,?_⟩
     refine WT.s [6] [8] kr kr ?_
     refine Ek (rest:=[]) (obs:=[]) [6] [(1,pb b4),(2,pb b5),(5,pb aU),(26,.string u8),(29,iv a3),(32,iv (IntKind.i64.wrap (0-a4))),(33,.agg #[.int .u8 p0.Kind,.int .u32 p0.Time,.int .u8 p0.Sides.1,.int .u8 p0.Sides.2.1,.int .u8 p0.Sides.2.2,sv ad1 p0.Numbers cap2]),(40,iv a1),(46,iv a0),(47,.agg #[.int .u8 p0.Kind,.int .u32 p0.Time,.int .u8 p0.Sides.1,.int .u8 p0.Sides.2.1,.int .u8 p0.Sides.2.2,sv ad1 p0.Numbers cap2]),(54,iv a2),(56,.agg #[.int .u8 p0.Kind,.int .u32 p0.Time,.int .u8 p0.Sides.1,.int .u8 p0.Sides.2.1,.int .u8 p0.Sides.2.2,sv ad1 p0.Numbers cap2]),(58,iv x9)] hF kr kr Aa ⟨kr⟩ fun a hF=>?_
     refine WRun.fin ?_
     refine all_cons ?_ (Ay)
     refine F2 [(1,pb b4),(2,pb b5),(5,pb aU),(26,.string u8),(29,iv a3),(32,iv (IntKind.i64.wrap (0-a4))),(34,iv a5),(40,iv a1),(46,iv a0),(47,.agg #[.int .u8 p0.Kind,.int .u32 p0.Time,.int .u8 p0.Sides.1,.int .u8 p0.Sides.2.1,.int .u8 p0.Sides.2.2,sv ad1 p0.Numbers cap2]),(54,iv a2),(56,.agg #[.int .u8 p0.Kind,.int .u32 p0.Time,.int .u8 p0.Sides.1,.int .u8 p0.Sides.2.1,.int .u8 p0.Sides.2.2,sv ad1 p0.Numbers cap2]),(58,iv x9)] hF kr ⟨kr⟩ (A8 F _ _ _ _ cI (Bp w) w (A7 w) (hA3.mono (FrzAt.le_mem (hS.frz (i:=4) rfl hlow)))) ⟨kr⟩ ?_
     intro w a hx hF
     replace hS:=hS.later hx
     refine ⟨⟨St.pick [1,2,3] (by decide) hS,(hS.frz (i:=4) rfl hlow)⟩,?_⟩
     refine WT.s [] [22] kr kr ?_
     refine WRun.fin ?_
     refine all_cons ?_ (Ay)
     refine F2 [(1,pb b4),(2,pb b5),(5,pb aU),(26,.string u8),(29,iv a3),(32,iv (IntKind.i64.wrap (0-a4))),(34,iv a5),(40,iv a1),(46,iv a0),(48,iv bE),(54,iv a2),(56,.agg #[.int .u8 p0.Kind,.int .u32 p0.Time,.int .u8 p0.Sides.1,.int .u8 p0.Sides.2.1,.int .u8 p0.Sides.2.2,sv ad1 p0.Numbers cap2]),(58,iv x9)] hF kr ⟨kr⟩ (A8 F _ _ _ _ c5 (Bp w) w (A7 w) (hA3.mono (FrzAt.le_mem (hS.frz (i:=4) rfl hlow)))) ⟨kr⟩ ?_
     intro w a hx hF
     replace hS:=hS.later hx
     refine ⟨⟨St.pick [1,2,3] (by decide) hS,(hS.frz (i:=4) rfl hlow)⟩,?_⟩
     refine WT.s [23,29] [31] kr kr ?_
     refine Ek (rest:=[]) (obs:=[.run [] (binOp .add 3 (iv 50) (iv bE)) (iv a6)]) [23,29] [(1,pb b4),(2,pb b5),(5,pb aU),(55,.agg #[.string u8,iv a3,iv (IntKind.i64.wrap (0-a4)),iv a5,iv a1,iv a0,iv a6,iv a2]),(56,.agg #[.int .u8 p0.Kind,.int .u32 p0.Time,.int .u8 p0.Sides.1,.int .u8 p0.Sides.2.1,.int .u8 p0.Sides.2.2,sv ad1 p0.Numbers cap2]),(58,iv x9)] hF kr kr (A0 (Aw (fun _=>c4)) Aa) ⟨kr⟩ fun a hF=>?_
     refine WRun.fin ?_
     refine all_cons ?_ (Ay)
     refine F2 [(1,pb b4),(2,pb b5),(5,pb aU),(55,.agg #[.string u8,iv a3,iv (IntKind.i64.wrap (0-a4)),iv a5,iv a1,iv a0,iv a6,iv a2]),(57,iv aD),(58,iv x9)] hF kr ⟨kr⟩ (A8 F _ _ _ _ bV (Bp w) w (A7 w) (hA3.mono (FrzAt.le_mem (hS.frz (i:=4) rfl hlow)))) ⟨kr⟩ ?_
     intro w a hx hF
     replace hS:=hS.later hx
     refine ⟨⟨St.pick [1,2,3] (by decide) hS,(hS.frz (i:=4) rfl hlow)⟩,?_⟩
     refine WT.z [33] kr ?_
     refine Ek (rest:=[]) (obs:=[]) [33] [(1,pb b4),(2,pb b5),(5,pb aU),(59,.agg #[.string u8,iv a3,iv (IntKind.i64.wrap (0-a4)),iv a5,iv a1,iv a0,iv a6,iv a2,iv aD,iv x9,.slice none 0 0])] hF kr kr Aa ⟨kr⟩ fun a hF=>?_
     refine WRun.fin ?_
     exact ⟨aU,hF.sub kr,St.pick [0,1,2,3,4] (by decide) hS⟩
   rintro a w ⟨aB,hF,hS⟩
   refine SK.wi (Ap (t:=39) [(1,pb b4),(2,pb b5),(5,pb aB)] 0 0 (.agg #[.string u8,iv a3,iv (IntKind.i64.wrap (0-a4)),iv a5,iv a1,iv a0,iv a6,iv a2,iv aD,iv x9,.slice none 0 0]) #[.string u8,iv a3,iv (IntKind.i64.wrap (0-a4)),iv a5,iv a1,iv a0,iv a6,iv a2,iv aD,iv x9,.slice none 0 0] hF hS rfl kr ⟨kr⟩ kr kr kr kr ⟨kr⟩ fun w a hF hS=>?_)
   refine wfn rfl ?_
   have bI:=Frz.le_refl μ
   refine Ei (fun a w=>∃(aS:(List (List api_Echo))) (ν2102:Frz) (aZ:Option Addr) (b7:Nat) (cC:List (List Value)),Fr 168 [] [(2,pb b5),(5,pb aB)] a∧St w0 [arr 83 1 (fN 1) aZ aS.length b7 cC,blk aB 39 #[.string u8,iv a3,iv (IntKind.i64.wrap (0-a4)),iv a5,iv a1,iv a0,iv a6,iv a2,iv aD,iv x9,sv aZ aS b7],arr 9 1 Ns (some ⟨b6,0,none⟩) ([(⟨#[97]⟩:ByteArray),(⟨#[98,95,49]⟩:ByteArray),(⟨#[122,122,122,122,122,122,122,122,122,122,122,122]⟩:ByteArray)]).length 3 ([(⟨#[97]⟩:ByteArray),(⟨#[98,95,49]⟩:ByteArray),(⟨#[122,122,122,122,122,122,122,122,122,122,122,122]⟩:ByteArray)]),blk b5 46 #[iv 0,.string ByteArray.empty,iv 0,.string ByteArray.empty,iv 0,iv 0,iv 0,iv 0,iv 0,iv 0,iv 0,iv 0,iv 0,.slice none 0 0,iv 0,iv 0,iv 0,iv 0,iv 0,.slice none 0 0,.string ByteArray.empty],blk b4 58 #[.int .u8 p0.Kind,.int .u32 p0.Time,.int .u8 p0.Sides.1,.int .u8 p0.Sides.2.1,.int .u8 p0.Sides.2.2,sv ad1 p0.Numbers cap2],fz w0 ν2102] w∧(All2 (Rp83 ν2102) cC aS)∧(μ.le ν2102)∧(μ.ext w0.heap.size ν2102)∧(Ba w0 ν2102)∧F8 u8 x9 a1 a0 a2 a3 a4 a5 a6 aD aS=some res) ?_ ?_
   ·skip
    refine esr ?_
    replace h:=A4 h
    obtain ⟨aE,eI,h⟩:=h
    refine rno 5 [.run [] (Instr.loadAt 3 (.pointer (some ⟨aB,4,none⟩))) (iv a1),.run [] (binOp .mul 3 (iv 4) (iv a1)) (iv aE)] 5 [(1,pb b4),(2,pb b5),(5,pb aB),(63,iv aE),(64,iv 0)] hF (A0 (ob1 kr (fun _ hd=>(hS.at_ hd).cell (i:=0) (j:=4) rfl rfl)) (A0 (K8 (fun _=>eI)) Aa)) fun a hF=>?_
    refine wfn rfl ?_
    refine wpIn_block ?_
    have d8:=Frz.le_refl μ
    replace hS:=hS.nilarr 83 1 (fN 1)
    refine E4 (fun n_ a w=>∃(aI:(List (List api_Echo))) (a9:Int) (ν2489:Frz) (b0:Option Addr) (b8:Nat) (bG:List (List Value)),Fr 168 [] [(1,pb b4),(2,pb b5),(5,pb aB),(63,iv aE),(64,iv a9)] a∧St w0 [arr 83 1 (fN 1) b0 aI.length b8 bG,blk aB 39 #[.string u8,iv a3,iv (IntKind.i64.wrap (0-a4)),iv a5,iv a1,iv a0,iv a6,iv a2,iv aD,iv x9,sv b0 aI b8],arr 9 1 Ns (some ⟨b6,0,none⟩) ([(⟨#[97]⟩:ByteArray),(⟨#[98,95,49]⟩:ByteArray),(⟨#[122,122,122,122,122,122,122,122,122,122,122,122]⟩:ByteArray)]).length 3 ([(⟨#[97]⟩:ByteArray),(⟨#[98,95,49]⟩:ByteArray),(⟨#[122,122,122,122,122,122,122,122,122,122,122,122]⟩:ByteArray)]),blk b5 46 #[iv 0,.string ByteArray.empty,iv 0,.string ByteArray.empty,iv 0,iv 0,iv 0,iv 0,iv 0,iv 0,iv 0,iv 0,iv 0,.slice none 0 0,iv 0,iv 0,iv 0,iv 0,iv 0,.slice none 0 0,.string ByteArray.empty],blk b4 58 #[.int .u8 p0.Kind,.int .u32 p0.Time,.int .u8 p0.Sides.1,.int .u8 p0.Sides.2.1,.int .u8 p0.Sides.2.2,sv ad1 p0.Numbers cap2],fz w0 ν2489] w∧(All2 (Rp83 ν2489) bG aI)∧(μ.le ν2489)∧(μ.ext w0.heap.size ν2489)∧(Ba w0 ν2489)∧De F p0 u8 x9 a1 a0 a2 a3 a4 a5 a6 aD aE n_ aI a9=some res) F ⟨[],0,μ,none,0,[],hF.sub kr,St.pick [0,1,2,3,4,5] (by decide) hS,All2.nil,d8,hext,hlow,h⟩ ?_
    clear d8
    rintro nk5 a w ⟨aI,a9,ν2489,b0,b8,bG,hF,hS,bT,bO,hext,hlow,h⟩
    rcases nk5 with _|nk5
    ·cases (show (none:Option volume_Item)=some res from h)
    replace hA3:=hA3.mono bO
    replace bI:=Frz.le_trans bI bO
    obtain ⟨k5,hk5⟩:∃k,k=De F p0 u8 x9 a1 a0 a2 a3 a4 a5 a6 aD aE nk5:=⟨_,rfl⟩
    replace h:Ge F p0 u8 x9 a1 a0 a2 a3 a4 a5 a6 aD aE k5 aI a9=some res:=by rw [hk5];exact h
    rw [Ge] at h
    refine esr ?_
    refine rn 1 1 [(1,pb b4),(2,pb b5),(5,pb aB),(63,iv aE),(64,iv a9),(65,.bool (decide (a9<aE)))] hF fun a hF=>?_
    refine wfn rfl ?_
    refine B0 ?_
    refine As hF rfl (fun hc=>?_) (fun hc=>?_)
    ·replace h:=Ao h hc
     refine wpIn_skip (A1 ?_)
     have cE:=Frz.le_refl ν2489
     refine Ei (fun a w=>∃(bW:(List (List api_Echo))) (ν2585:Frz) (c9:Option Addr) (cB:Nat) (cD:List (List Value)),Fr 168 [] [(1,pb b4),(2,pb b5),(5,pb aB),(63,iv aE),(64,iv a9)] a∧St w0 [arr 83 1 (fN 1) c9 bW.length cB cD,blk aB 39 #[.string u8,iv a3,iv (IntKind.i64.wrap (0-a4)),iv a5,iv a1,iv a0,iv a6,iv a2,iv aD,iv x9,sv c9 bW cB],arr 9 1 Ns (some ⟨b6,0,none⟩) ([(⟨#[97]⟩:ByteArray),(⟨#[98,95,49]⟩:ByteArray),(⟨#[122,122,122,122,122,122,122,122,122,122,122,122]⟩:ByteArray)]).length 3 ([(⟨#[97]⟩:ByteArray),(⟨#[98,95,49]⟩:ByteArray),(⟨#[122,122,122,122,122,122,122,122,122,122,122,122]⟩:ByteArray)]),blk b5 46 #[iv 0,.string ByteArray.empty,iv 0,.string ByteArray.empty,iv 0,iv 0,iv 0,iv 0,iv 0,iv 0,iv 0,iv 0,iv 0,.slice none 0 0,iv 0,iv 0,iv 0,iv 0,iv 0,.slice none 0 0,.string ByteArray.empty],blk b4 58 #[.int .u8 p0.Kind,.int .u32 p0.Time,.int .u8 p0.Sides.1,.int .u8 p0.Sides.2.1,.int .u8 p0.Sides.2.2,sv ad1 p0.Numbers cap2],fz w0 ν2585] w∧(All2 (Rp83 ν2585) cD bW)∧(ν2489.le ν2585)∧(μ.ext w0.heap.size ν2585)∧(Ba w0 ν2585)∧Gh a9 k5 bW=some res) ?_ ?_
     ·skip
      refine wpIn_block ?_
      refine esr ?_
      refine rn 2 2 [(1,pb b4),(2,pb b5),(5,pb aB),(6,iv a9),(63,iv aE),(64,iv a9)] hF fun a hF=>?_
      refine wfn rfl ?_
      refine esr ?_
      refine rn 1 1 [(1,pb b4),(2,pb b5),(5,pb aB),(6,iv a9),(7,.slice none 0 0),(63,iv aE),(64,iv a9)] hF fun a hF=>?_
      refine wfn rfl ?_
      refine Ei (fun a w=>∃(aK:(List api_Echo)) (aT:Option Addr) (aV:Nat),Fr 168 [] [(1,pb b4),(2,pb b5),(5,pb aB),(7,sv aT aK aV),(63,iv aE),(64,iv a9)] a∧St w0 [arr 88 14 api_Echo.cells aT aK.length aV aK,arr 83 1 (fN 1) b0 aI.length b8 bG,blk aB 39 #[.string u8,iv a3,iv (IntKind.i64.wrap (0-a4)),iv a5,iv a1,iv a0,iv a6,iv a2,iv aD,iv x9,sv b0 aI b8],arr 9 1 Ns (some ⟨b6,0,none⟩) ([(⟨#[97]⟩:ByteArray),(⟨#[98,95,49]⟩:ByteArray),(⟨#[122,122,122,122,122,122,122,122,122,122,122,122]⟩:ByteArray)]).length 3 ([(⟨#[97]⟩:ByteArray),(⟨#[98,95,49]⟩:ByteArray),(⟨#[122,122,122,122,122,122,122,122,122,122,122,122]⟩:ByteArray)]),blk b5 46 #[iv 0,.string ByteArray.empty,iv 0,.string ByteArray.empty,iv 0,iv 0,iv 0,iv 0,iv 0,iv 0,iv 0,iv 0,iv 0,.slice none 0 0,iv 0,iv 0,iv 0,iv 0,iv 0,.slice none 0 0,.string ByteArray.empty],blk b4 58 #[.int .u8 p0.Kind,.int .u32 p0.Time,.int .u8 p0.Sides.1,.int .u8 p0.Sides.2.1,.int .u8 p0.Sides.2.2,sv ad1 p0.Numbers cap2],fz w0 ν2489] w∧Gi aI a9 k5 aK=some res) ?_ ?_
      ·skip
       refine esr ?_
       refine rno 4 [.run [] (Instr.loadAt 3 (.pointer (some ⟨aB,5,none⟩))) (iv a0)] 4 [(1,pb b4),(2,pb b5),(5,pb aB),(6,iv a9),(7,.slice none 0 0),(63,iv aE),(64,iv a9),(69,iv a0),(70,iv 0)] hF (A0 (ob1 kr (fun _ hd=>(hS.at_ hd).cell (i:=1) (j:=5) rfl rfl)) Aa) fun a hF=>?_
       refine wfn rfl ?_
       refine wpIn_block ?_
       replace hS:=hS.nilarr 88 14 api_Echo.cells
       refine E4 (fun n_ a w=>∃(aN:(List api_Echo)) (aR:Int) (b1:Option Addr) (b9:Nat),Fr 168 [] [(1,pb b4),(2,pb b5),(5,pb aB),(6,iv a9),(7,sv b1 aN b9),(63,iv aE),(64,iv a9),(69,iv a0),(70,iv aR)] a∧St w0 [arr 88 14 api_Echo.cells b1 aN.length b9 aN,arr 83 1 (fN 1) b0 aI.length b8 bG,blk aB 39 #[.string u8,iv a3,iv (IntKind.i64.wrap (0-a4)),iv a5,iv a1,iv a0,iv a6,iv a2,iv aD,iv x9,sv b0 aI b8],arr 9 1 Ns (some ⟨b6,0,none⟩) ([(⟨#[97]⟩:ByteArray),(⟨#[98,95,49]⟩:ByteArray),(⟨#[122,122,122,122,122,122,122,122,122,122,122,122]⟩:ByteArray)]).length 3 ([(⟨#[97]⟩:ByteArray),(⟨#[98,95,49]⟩:ByteArray),(⟨#[122,122,122,122,122,122,122,122,122,122,122,122]⟩:ByteArray)]),blk b5 46 #[iv 0,.string ByteArray.empty,iv 0,.string ByteArray.empty,iv 0,iv 0,iv 0,iv 0,iv 0,iv 0,iv 0,iv 0,iv 0,.slice none 0 0,iv 0,iv 0,iv 0,iv 0,iv 0,.slice none 0 0,.string ByteArray.empty],blk b4 58 #[.int .u8 p0.Kind,.int .u32 p0.Time,.int .u8 p0.Sides.1,.int .u8 p0.Sides.2.1,.int .u8 p0.Sides.2.2,sv ad1 p0.Numbers cap2],fz w0 ν2489] w∧Ec F p0 a0 aI a9 k5 n_ aN aR=some res) F ⟨[],0,none,0,hF.sub kr,St.pick [0,1,2,3,4,5,6] (by decide) hS,h⟩ ?_
       rintro nk8 a w ⟨aN,aR,b1,b9,hF,hS,h⟩
       rcases nk8 with _|nk8
       ·cases (show (none:Option volume_Item)=some res from h)
       obtain ⟨k8,hk8⟩:∃k,k=Ec F p0 a0 aI a9 k5 nk8:=⟨_,rfl⟩
       replace h:Gf F p0 a0 aI a9 k5 k8 aN aR=some res:=by rw [hk8];exact h
       rw [Gf] at h
       refine esr ?_
       refine rn 1 1 [(1,pb b4),(2,pb b5),(5,pb aB),(6,iv a9),(7,sv b1 aN b9),(63,iv aE),(64,iv a9),(69,iv a0),(70,iv aR),(71,.bool (decide (aR<a0)))] hF fun a hF=>?_
       refine wfn rfl ?_
       refine B0 ?_
       refine As hF rfl (fun hc=>?_) (fun hc=>?_)
       ·replace h:=Ao h hc
        refine wpIn_skip (A1 ?_)
        refine B0 ?_
        refine wpIn_block ?_
        refine esr ?_
        refine rn 2 2 [(1,pb b4),(2,pb b5),(5,pb aB),(6,iv a9),(7,sv b1 aN b9),(8,iv aR),(63,iv aE),(64,iv a9),(69,iv a0),(70,iv aR)] hF fun a hF=>?_
        refine wfn rfl ?_
        refine WI.region ?_
        replace h:=A4 h
        obtain ⟨dN,eK,h⟩:=h
        replace h:=A4 h
        obtain ⟨dO,eL,h⟩:=h
        replace h:=A4 h
        obtain ⟨cX,eM,h⟩:=h
        replace h:=A4 h
        obtain ⟨aH,eZ,h⟩:=h
        refine rx 11 [.run [] (Instr.loadAt 58 (pb b4)) (.agg #[.int .u8 p0.Kind,.int .u32 p0.Time,.int .u8 p0.Sides.1,.int .u8 p0.Sides.2.1,.int .u8 p0.Sides.2.2,sv ad1 p0.Numbers cap2]),.run [] (Instr.loadAt 3 (.pointer (some ⟨aB,5,none⟩))) (iv a0),.run [] (binOp .mul 3 (iv a9) (iv a0)) (iv dN),.run [] (binOp .add 3 (iv dN) (iv aR)) (iv dO),.run [] (binOp .quo 3 (iv dO) (iv 2)) (iv cX),.call [] 32 #[.agg #[.int .u8 p0.Kind,.int .u32 p0.Time,.int .u8 p0.Sides.1,.int .u8 p0.Sides.2.1,.int .u8 p0.Sides.2.2,sv ad1 p0.Numbers cap2],iv cX] (aH.ag)] 11 [(1,pb b4),(2,pb b5),(5,pb aB),(6,iv a9),(7,sv b1 aN b9),(63,iv aE),(64,iv a9),(69,iv a0),(70,iv aR),(73,sv b1 aN b9),(83,aH.ag)] hF (A0 (obN (us:=[.int .u8 p0.Kind,.int .u32 p0.Time,.int .u8 p0.Sides.1,.int .u8 p0.Sides.2.1,.int .u8 p0.Sides.2.2,sv ad1 p0.Numbers cap2]) kr (fun _ hd=>((hS.later hd).blk (i:=5) rfl).cells rfl)) (A0 (ob1 kr (fun _ hd=>(hS.later hd).cell (i:=2) (j:=5) rfl rfl)) (A0 (K8 (fun _=>eK)) (A0 (Aw (fun _=>eL)) (A0 (R5 (fun _=>eM)) (A0 (show Ob.ok _ Ext _ _ from fun hk w2 hd=>Pl F (law12_Thing.mk p0.Kind p0.Time (p0.Sides.1,p0.Sides.2.1,p0.Sides.2.2) p0.Numbers) cX _ ((fun _=>eZ) hk) _ w2 (A7 w2) (hA3.mono (FrzAt.le_mem ((hS.later hd).frz (i:=6) rfl hlow)))) Aa)))))) fun a w hF hx=>?_
        replace hS:=hS.later hx
        refine SK.wi (G0 (e:=88) (sz:=14) (f:=api_Echo.cells) (t:=83) (len:=1) (fun d4=>[(1,pb b4),(2,pb b5),(5,pb aB),(6,iv a9),(7,sv b1 aN b9),(63,iv aE),(64,iv a9),(69,iv a0),(70,iv aR),(73,sv b1 aN b9),(84,sb d4 1)]) #[(0,aH.ag)] aH.ar ([(api_Echo.mk aH.Kind aH.Power ((api_Span.mk aH.Steps.1.Lo aH.Steps.1.Hi),(api_Span.mk aH.Steps.2.Lo aH.Steps.2.Hi)) aH.Spread aH.Ratio aH.Match aH.Turn)]) hF hS kr ⟨kr⟩ kr api_Echo.cells_len rfl rfl kr (fun _=>⟨kr⟩) fun d4 w a hF hS=>?_)
        replace h:=A4 h
        obtain ⟨cL,e1,h⟩:=h
        refine SK.wi (S4 (t:=83) (ty:=83) (bytes:=112) (l:=aN) (l':=([(api_Echo.mk aH.Kind aH.Power ((api_Span.mk aH.Steps.1.Lo aH.Steps.1.Hi),(api_Span.mk aH.Steps.2.Lo aH.Steps.2.Hi)) aH.Spread aH.Ratio aH.Match aH.Turn)])) (fun bZ c3=>[(1,pb b4),(2,pb b5),(5,pb aB),(6,iv a9),(7,sv b1 aN b9),(63,iv aE),(64,iv a9),(69,iv a0),(70,iv aR),(85,sv bZ cL c3)]) 1 hF hS rfl kr ⟨kr⟩ kr (hS.arr (i:=0) rfl) (fun _ _=>rfl) e1 (fun _ _=>⟨kr⟩) fun bZ c3 w a hF hS=>?_)
        refine rn 1 14 [(1,pb b4),(2,pb b5),(5,pb aB),(6,iv a9),(7,sv bZ cL c3),(63,iv aE),(64,iv a9),(69,iv a0),(70,iv aR)] hF fun a hF=>?_
        refine WI.fin rfl (Ac<|A1<|?_)
        refine WI.region ?_
        replace h:=A4 h
        obtain ⟨cY,eN,h⟩:=h
        refine rno 2 [.run [] (binOp .add 3 (iv aR) (iv 1)) (iv cY)] 2 [(1,pb b4),(2,pb b5),(5,pb aB),(6,iv a9),(7,sv bZ cL c3),(63,iv aE),(64,iv a9),(69,iv a0),(70,iv cY)] hF (A0 (Aw (fun _=>eN)) Aa) fun a hF=>?_
        refine wfn rfl ?_
        rw [hk8] at h
        exact ⟨nk8,Nat.lt_succ_self _,cL,cY,bZ,c3,hF.sub kr,St.pick [1,2,3,4,5,6,7] (by decide) hS,h⟩
       ·replace h:=An h hc
        refine wpIn_exit (Ad<|Ad<|Bb<|A1 ?_)
        exact ⟨aN,b1,b9,hF.sub kr,St.pick [0,1,2,3,4,5,6] (by decide) hS,h⟩
      rintro a w ⟨aK,aT,aV,hF,hS,h⟩
      rw [Gi] at h
      refine WI.region ?_
      refine rno 3 [.run [] (Instr.loadAt 37 (.pointer (some ⟨aB,10,none⟩))) (sv b0 aI b8)] 3 [(1,pb b4),(2,pb b5),(5,pb aB),(63,iv aE),(64,iv a9),(88,sv b0 aI b8),(89,sv aT aK aV)] hF (A0 (ob1 kr (fun _ hd=>(hS.at_ hd).cell (i:=2) (j:=10) rfl rfl)) Aa) fun a hF=>?_
      obtain ⟨ν2634,bU,hlow,hS,f2⟩:=hS.freeze (i:=6) (j:=0) rfl rfl (by decide) hlow
      replace hA3:=hA3.mono bU.1
      replace bT:=All2.mono Rp83.mono bU.1 bT
      replace bI:=Frz.le_trans bI bU.1
      replace bO:=Frz.le_trans bO bU.1
      replace cE:=Frz.le_trans cE bU.1
      replace hext:=Frz.ext_trans hext bU
      have dY:=ArrM.of_arr f2
      have dB:All2 (Rp83 ν2634) ([[sv aT aK aV]]:List (List Value)) [aK]:=(All2.cons ⟨aT,aV,rfl,dY⟩ All2.nil)
      refine SK.wi (Sk (e:=83) (sz:=1) (f:=fN 1) (t:=37) (len:=1) (fun d3=>[(1,pb b4),(2,pb b5),(5,pb aB),(63,iv aE),(64,iv a9),(88,sv b0 aI b8),(90,sb d3 1)]) #[(0,sv aT aK aV)] #[sv aT aK aV] ([[sv aT aK aV]]:List (List Value)) ([aK]) hF hS kr ⟨kr⟩ kr (Dp 1) rfl rfl rfl kr (fun _=>⟨kr⟩) fun d3 w a hF hS=>?_)
      replace h:=A4 h
      obtain ⟨bX,dA,h⟩:=h
      have e4:All2 (Rp83 ν2634) (bG++([[sv aT aK aV]]:List (List Value))) bX:=by rw [(J7 dA).1];exact All2.app bT dB
      refine SK.wi (S5 (t:=37) (ty:=37) (bytes:=24) (c:=bG) (c':=([[sv aT aK aV]]:List (List Value))) (l:=aI) (l':=([aK])) (fun bP bR=>[(1,pb b4),(2,pb b5),(5,pb aB),(63,iv aE),(64,iv a9),(91,sv bP bX bR)]) 1 hF hS rfl kr ⟨kr⟩ kr (hS.arr (i:=0) rfl) (ArrQ.one dB Rp83.one) dA (fun _ _=>⟨kr⟩) fun bP bR w a hF hS=>?_)
      refine rn 1 6 [(1,pb b4),(2,pb b5),(5,pb aB),(63,iv aE),(64,iv a9),(91,sv bP bX bR),(92,.pointer (some ⟨aB,10,none⟩))] hF fun a hF=>?_
      refine SK.wi (Ap (t:=37) [(1,pb b4),(2,pb b5),(5,pb aB),(63,iv aE),(64,iv a9)] 2 10 (sv bP bX bR) #[.string u8,iv a3,iv (IntKind.i64.wrap (0-a4)),iv a5,iv a1,iv a0,iv a6,iv a2,iv aD,iv x9,sv bP bX bR] hF hS rfl kr ⟨kr⟩ kr kr kr kr ⟨kr⟩ fun w a hF hS=>?_)
      refine WI.fin rfl (Ac<|A1<|?_)
      exact ⟨bX,ν2634,bP,bR,(bG++([[sv aT aK aV]]:List (List Value))),hF.sub kr,St.pick [1,2,3,4,5,6] (by decide) hS,e4,cE,hext,hlow,h⟩
     clear cE
     rintro a w ⟨bW,ν2585,c9,cB,cD,hF,hS,e3,cF,hext,hlow,h⟩
     replace hA3:=hA3.mono cF
     replace bT:=All2.mono Rp83.mono cF bT
     replace bI:=Frz.le_trans bI cF
     replace bO:=Frz.le_trans bO cF
     rw [Gh] at h
     refine WI.region ?_
     replace h:=A4 h
     obtain ⟨cW,eJ,h⟩:=h
     refine rno 2 [.run [] (binOp .add 3 (iv a9) (iv 1)) (iv cW)] 2 [(1,pb b4),(2,pb b5),(5,pb aB),(63,iv aE),(64,iv cW)] hF (A0 (Aw (fun _=>eJ)) Aa) fun a hF=>?_
     refine wfn rfl ?_
     rw [hk5] at h
     exact ⟨nk5,Nat.lt_succ_self _,bW,cW,ν2585,c9,cB,cD,hF.sub kr,St.pick [0,1,2,3,4,5] (by decide) hS,e3,bO,hext,hlow,h⟩
    ·replace h:=An h hc
     refine wpIn_exit (Ad<|Ad<|Bb<|A1 ?_)
     exact ⟨aI,ν2489,b0,b8,bG,hF.sub kr,St.pick [0,1,2,3,4,5] (by decide) hS,bT,bI,hext,hlow,h⟩
   clear bI
   rintro a w ⟨aS,ν2102,aZ,b7,cC,hF,hS,cS,cR,hext,hlow,h⟩
   replace hA3:=hA3.mono cR
   rw [F8] at h
   refine esr ?_
   refine rno 2 [.run [] (Instr.loadAt 39 (pb aB)) (.agg #[.string u8,iv a3,iv (IntKind.i64.wrap (0-a4)),iv a5,iv a1,iv a0,iv a6,iv a2,iv aD,iv x9,sv aZ aS b7])] 2 [(2,pb b5),(95,.agg #[iv 1,.string ByteArray.empty,iv 0,.string u8,iv a3,iv (IntKind.i64.wrap (0-a4)),iv a5,iv a1,iv a0,iv a6,iv a2,iv aD,iv x9,sv aZ aS b7,iv 0,iv 0,iv 0,iv 0,iv 0,.slice none 0 0,.string ByteArray.empty])] hF (A0 (obN (us:=[.string u8,iv a3,iv (IntKind.i64.wrap (0-a4)),iv a5,iv a1,iv a0,iv a6,iv a2,iv aD,iv x9,sv aZ aS b7]) kr (fun _ hd=>((hS.at_ hd).blk (i:=1) rfl).cells rfl)) Aa) fun a hF=>?_
   refine SK.wi (Ap (t:=46) [(2,pb b5)] 3 0 (.agg #[iv 1,.string ByteArray.empty,iv 0,.string u8,iv a3,iv (IntKind.i64.wrap (0-a4)),iv a5,iv a1,iv a0,iv a6,iv a2,iv aD,iv x9,sv aZ aS b7,iv 0,iv 0,iv 0,iv 0,iv 0,.slice none 0 0,.string ByteArray.empty]) #[iv 1,.string ByteArray.empty,iv 0,.string u8,iv a3,iv (IntKind.i64.wrap (0-a4)),iv a5,iv a1,iv a0,iv a6,iv a2,iv aD,iv x9,sv aZ aS b7,iv 0,iv 0,iv 0,iv 0,iv 0,.slice none 0 0,.string ByteArray.empty] hF hS rfl kr ⟨kr⟩ kr kr kr kr ⟨kr⟩ fun w a hF hS=>?_)
   refine wfn rfl ?_
   refine wpIn_ret (Ar<|Ab<|Ak [.cell 2 46] [.agg #[iv 1,.string ByteArray.empty,iv 0,.string u8,iv a3,iv (IntKind.i64.wrap (0-a4)),iv a5,iv a1,iv a0,iv a6,iv a2,iv aD,iv x9,sv aZ aS b7,iv 0,iv 0,iv 0,iv 0,iv 0,.slice none 0 0,.string ByteArray.empty]] hF rfl ⟨⟨_,rfl,Fq (cs:=[iv 1,.string ByteArray.empty,iv 0,.string u8,iv a3,iv (IntKind.i64.wrap (0-a4)),iv a5,iv a1,iv a0,iv a6,iv a2,iv aD,iv x9,sv aZ aS b7,iv 0,iv 0,iv 0,iv 0,iv 0,.slice none 0 0,.string ByteArray.empty]) kr ((hS.blk (i:=3) rfl).cells rfl)⟩,trivial⟩ ?_)
   obtain ⟨ν2109,cG,hlow,hS,f1⟩:=hS.freeze (i:=5) (j:=0) rfl rfl (by decide) hlow
   replace hA3:=hA3.mono cG.1
   replace cS:=All2.mono Rp83.mono cG.1 cS
   replace cR:=Frz.le_trans cR cG.1
   replace hext:=Frz.ext_trans hext cG
   have dX:=ArrQ.of_arr (l:=aS) f1 cS Rp83.mono (Frz.le_refl _)
   have hr_:=Option.some.inj h
   subst hr_
   exact ⟨_,rfl,ν2109,aZ,b7,cC,none,0,hext,rfl,dX,ArrM.nil,St.pick [4] (by decide) hS⟩
  ·replace h:=An h hc
   refine esr ?_
   refine rn 2 2 [(1,pb b4),(2,pb b5),(3,.string u8),(4,iv x9),(96,.bool (c7==1))] hF fun a hF=>?_
   refine wfn rfl ?_
   refine As hF rfl (fun hc=>?_) (fun hc=>?_)
   ·replace h:=Ao h hc
    refine B0 ?_
    replace h:=A4 h
    obtain ⟨dP,eO,h⟩:=h
    replace h:=A4 h
    obtain ⟨dQ,eP,h⟩:=h
    replace h:=A4 h
    obtain ⟨a7,eQ,h⟩:=h
    replace h:=A4 h
    obtain ⟨dR,eR,h⟩:=h
    replace h:=A4 h
    obtain ⟨dS,eS,h⟩:=h
    replace h:=A4 h
    obtain ⟨a8,eT,h⟩:=h
    replace h:=A4 h
    obtain ⟨cO,dG,h⟩:=h
    replace h:=A4 h
    obtain ⟨aA,dD,h⟩:=h
    replace h:=A4 h
    obtain ⟨aC,cU,h⟩:=h
    replace h:=A4 h
    obtain ⟨bK,cJ,h⟩:=h
    replace h:=A4 h
    obtain ⟨aF,cH,h⟩:=h
    refine Cz 24 [1,4,7,23] (fun a w=>∃(aG:Nat),Fr 168 [] [(1,pb b4),(2,pb b5),(3,.string u8),(4,iv x9),(9,pb aG),(120,.agg #[iv aA,iv (IntKind.i64.wrap (0-aC)),iv aF,iv a7,iv a8,.slice none 0 0])] a∧St w0 [blk aG 44 #[iv 0,iv 0,iv 0,iv 0,iv 0,.slice none 0 0],arr 9 1 Ns (some ⟨b6,0,none⟩) ([(⟨#[97]⟩:ByteArray),(⟨#[98,95,49]⟩:ByteArray),(⟨#[122,122,122,122,122,122,122,122,122,122,122,122]⟩:ByteArray)]).length 3 ([(⟨#[97]⟩:ByteArray),(⟨#[98,95,49]⟩:ByteArray),(⟨#[122,122,122,122,122,122,122,122,122,122,122,122]⟩:ByteArray)]),blk b5 46 #[iv 0,.string ByteArray.empty,iv 0,.string ByteArray.empty,iv 0,iv 0,iv 0,iv 0,iv 0,iv 0,iv 0,iv 0,iv 0,.slice none 0 0,iv 0,iv 0,iv 0,iv 0,iv 0,.slice none 0 0,.string ByteArray.empty],blk b4 58 #[.int .u8 p0.Kind,.int .u32 p0.Time,.int .u8 p0.Sides.1,.int .u8 p0.Sides.2.1,.int .u8 p0.Sides.2.2,sv ad1 p0.Numbers cap2],fz w0 μ] w) (D:=fun w=>St w0 [arr 9 1 Ns (some ⟨b6,0,none⟩) ([(⟨#[97]⟩:ByteArray),(⟨#[98,95,49]⟩:ByteArray),(⟨#[122,122,122,122,122,122,122,122,122,122,122,122]⟩:ByteArray)]).length 3 ([(⟨#[97]⟩:ByteArray),(⟨#[98,95,49]⟩:ByteArray),(⟨#[122,122,122,122,122,122,122,122,122,122,122,122]⟩:ByteArray)]),blk b5 46 #[iv 0,.string ByteArray.empty,iv 0,.string ByteArray.empty,iv 0,iv 0,iv 0,iv 0,iv 0,iv 0,iv 0,iv 0,iv 0,.slice none 0 0,iv 0,iv 0,iv 0,iv 0,iv 0,.slice none 0 0,.string ByteArray.empty],blk b4 58 #[.int .u8 p0.Kind,.int .u32 p0.Time,.int .u8 p0.Sides.1,.int .u8 p0.Sides.2.1,.int .u8 p0.Sides.2.2,sv ad1 p0.Numbers cap2]] w∧FrzAt μ w) kr kr hF.size (fun w hx=>?_) ?_
    ·skip
     replace hS:=hS.later hx
     refine ⟨⟨St.pick [0,1,2] (by decide) hS,hS.frz (i:=3) rfl hlow⟩,?_⟩
     have f6:=Frz.le_refl μ
     refine WT.s [0,3,6,9,10,11,12,13,14,15,16,17,18,19,20] [1,23] kr kr ?_
     refine Ek (rest:=[]) (obs:=[.run [] (Instr.loadAt 58 (pb b4)) (.agg #[.int .u8 p0.Kind,.int .u32 p0.Time,.int .u8 p0.Sides.1,.int .u8 p0.Sides.2.1,.int .u8 p0.Sides.2.2,sv ad1 p0.Numbers cap2]),.run [] (Instr.loadAt 58 (pb b4)) (.agg #[.int .u8 p0.Kind,.int .u32 p0.Time,.int .u8 p0.Sides.1,.int .u8 p0.Sides.2.1,.int .u8 p0.Sides.2.2,sv ad1 p0.Numbers cap2]),.run [] (Instr.loadAt 58 (pb b4)) (.agg #[.int .u8 p0.Kind,.int .u32 p0.Time,.int .u8 p0.Sides.1,.int .u8 p0.Sides.2.1,.int .u8 p0.Sides.2.2,sv ad1 p0.Numbers cap2]),.run [] (Instr.indexAt 55 (.pointer (some ⟨b4,2,none⟩)) (iv 0)) (.pointer (some ⟨b4,2,none⟩)),.run [] (Instr.loadAt 5 (.pointer (some ⟨b4,2,none⟩))) (.int .u8 p0.Sides.1),.run [] (convert 5 3 (.int .u8 p0.Sides.1)) (iv dP),.run [] (binOp .rem 3 (iv dP) (iv 5)) (iv dQ),.run [] (binOp .add 3 (iv 1) (iv dQ)) (iv a7),.run [] (Instr.indexAt 55 (.pointer (some ⟨b4,2,none⟩)) (iv 1)) (.pointer (some ⟨b4,3,none⟩)),.run [] (Instr.loadAt 5 (.pointer (some ⟨b4,3,none⟩))) (.int .u8 p0.Sides.2.1),.run [] (convert 5 3 (.int .u8 p0.Sides.2.1)) (iv dR),.run [] (binOp .rem 3 (iv dR) (iv 4)) (iv dS),.run [] (binOp .add 3 (iv 1) (iv dS)) (iv a8)]) [0,3,6,9,10,11,12,13,14,15,16,17,18,19,20] [(1,pb b4),(2,pb b5),(3,.string u8),(4,iv x9),(98,.agg #[.int .u8 p0.Kind,.int .u32 p0.Time,.int .u8 p0.Sides.1,.int .u8 p0.Sides.2.1,.int .u8 p0.Sides.2.2,sv ad1 p0.Numbers cap2]),(101,.agg #[.int .u8 p0.Kind,.int .u32 p0.Time,.int .u8 p0.Sides.1,.int .u8 p0.Sides.2.1,.int .u8 p0.Sides.2.2,sv ad1 p0.Numbers cap2]),(104,.agg #[.int .u8 p0.Kind,.int .u32 p0.Time,.int .u8 p0.Sides.1,.int .u8 p0.Sides.2.1,.int .u8 p0.Sides.2.2,sv ad1 p0.Numbers cap2]),(112,iv a7),(118,iv a8)] hF kr kr (A0 (obN (us:=[.int .u8 p0.Kind,.int .u32 p0.Time,.int .u8 p0.Sides.1,.int .u8 p0.Sides.2.1,.int .u8 p0.Sides.2.2,sv ad1 p0.Numbers cap2]) kr (fun _ hd=>(hd.1.blk (i:=2) rfl).cells rfl)) (A0 (obN (us:=[.int .u8 p0.Kind,.int .u32 p0.Time,.int .u8 p0.Sides.1,.int .u8 p0.Sides.2.1,.int .u8 p0.Sides.2.2,sv ad1 p0.Numbers cap2]) kr (fun _ hd=>(hd.1.blk (i:=2) rfl).cells rfl)) (A0 (obN (us:=[.int .u8 p0.Kind,.int .u32 p0.Time,.int .u8 p0.Sides.1,.int .u8 p0.Sides.2.1,.int .u8 p0.Sides.2.2,sv ad1 p0.Numbers cap2]) kr (fun _ hd=>(hd.1.blk (i:=2) rfl).cells rfl)) (A0 (Ca kr) (A0 (ob1 kr (fun _ hd=>hd.1.cell (i:=2) (j:=2) rfl rfl)) (A0 (J4 kr kr (fun _=>eO)) (A0 (Jj (fun _=>eP)) (A0 (Aw (fun _=>eQ)) (A0 (Ca kr) (A0 (ob1 kr (fun _ hd=>hd.1.cell (i:=2) (j:=3) rfl rfl)) (A0 (J4 kr kr (fun _=>eR)) (A0 (Jj (fun _=>eS)) (A0 (Aw (fun _=>eT)) Aa))))))))))))) ⟨kr⟩ fun a hF=>?_
     refine WRun.fin ?_
     refine all_cons ?_ (all_cons ?_ (Ay))
     ·skip
      refine F2 [(1,pb b4),(2,pb b5),(3,.string u8),(4,iv x9),(99,iv cO),(101,.agg #[.int .u8 p0.Kind,.int .u32 p0.Time,.int .u8 p0.Sides.1,.int .u8 p0.Sides.2.1,.int .u8 p0.Sides.2.2,sv ad1 p0.Numbers cap2]),(104,.agg #[.int .u8 p0.Kind,.int .u32 p0.Time,.int .u8 p0.Sides.1,.int .u8 p0.Sides.2.1,.int .u8 p0.Sides.2.2,sv ad1 p0.Numbers cap2]),(112,iv a7),(118,iv a8)] hF kr ⟨kr⟩ (A8 F _ _ _ _ dG (Bp w) w (A7 w) (hA3.mono (FrzAt.le_mem (hS.frz (i:=3) rfl hlow)))) ⟨kr⟩ ?_
      intro w a hx hF
      replace hS:=hS.later hx
      refine ⟨⟨St.pick [0,1,2] (by decide) hS,(hS.frz (i:=3) rfl hlow)⟩,?_⟩
      refine WT.s [2] [4,23] kr kr ?_
      refine Ek (rest:=[]) (obs:=[.run [] (binOp .sub 3 (iv cO) (iv 1000)) (iv aA)]) [2] [(1,pb b4),(2,pb b5),(3,.string u8),(4,iv x9),(100,iv aA),(101,.agg #[.int .u8 p0.Kind,.int .u32 p0.Time,.int .u8 p0.Sides.1,.int .u8 p0.Sides.2.1,.int .u8 p0.Sides.2.2,sv ad1 p0.Numbers cap2]),(104,.agg #[.int .u8 p0.Kind,.int .u32 p0.Time,.int .u8 p0.Sides.1,.int .u8 p0.Sides.2.1,.int .u8 p0.Sides.2.2,sv ad1 p0.Numbers cap2]),(112,iv a7),(118,iv a8)] hF kr kr (A0 (Jk (fun _=>dD)) Aa) ⟨kr⟩ fun a hF=>?_
      refine WRun.fin ?_
      refine all_cons ?_ (all_cons ?_ (Ay))
      ·skip
       refine F2 [(1,pb b4),(2,pb b5),(3,.string u8),(4,iv x9),(100,iv aA),(102,iv aC),(104,.agg #[.int .u8 p0.Kind,.int .u32 p0.Time,.int .u8 p0.Sides.1,.int .u8 p0.Sides.2.1,.int .u8 p0.Sides.2.2,sv ad1 p0.Numbers cap2]),(112,iv a7),(118,iv a8)] hF kr ⟨kr⟩ (A8 F _ _ _ _ cU (Bp w) w (A7 w) (hA3.mono (FrzAt.le_mem (hS.frz (i:=3) rfl hlow)))) ⟨kr⟩ ?_
       intro w a hx hF
       replace hS:=hS.later hx
       refine ⟨⟨St.pick [0,1,2] (by decide) hS,(hS.frz (i:=3) rfl hlow)⟩,?_⟩
       refine WT.s [5] [7,23] kr kr ?_
       refine Ek (rest:=[]) (obs:=[]) [5] [(1,pb b4),(2,pb b5),(3,.string u8),(4,iv x9),(100,iv aA),(103,iv (IntKind.i64.wrap (0-aC))),(104,.agg #[.int .u8 p0.Kind,.int .u32 p0.Time,.int .u8 p0.Sides.1,.int .u8 p0.Sides.2.1,.int .u8 p0.Sides.2.2,sv ad1 p0.Numbers cap2]),(112,iv a7),(118,iv a8)] hF kr kr Aa ⟨kr⟩ fun a hF=>?_
       refine WRun.fin ?_
       refine all_cons ?_ (all_cons ?_ (Ay))
       ·skip
        refine F2 [(1,pb b4),(2,pb b5),(3,.string u8),(4,iv x9),(100,iv aA),(103,iv (IntKind.i64.wrap (0-aC))),(105,iv bK),(112,iv a7),(118,iv a8)] hF kr ⟨kr⟩ (A8 F _ _ _ _ cJ (Bp w) w (A7 w) (hA3.mono (FrzAt.le_mem (hS.frz (i:=3) rfl hlow)))) ⟨kr⟩ ?_
        intro w a hx hF
        replace hS:=hS.later hx
        refine ⟨⟨St.pick [0,1,2] (by decide) hS,(hS.frz (i:=3) rfl hlow)⟩,?_⟩
        refine WT.s [8,21,22] [23] kr kr ?_
        refine Ek (rest:=[]) (obs:=[.run [] (binOp .add 3 (iv 1) (iv bK)) (iv aF)]) [8,21,22] [(1,pb b4),(2,pb b5),(3,.string u8),(4,iv x9),(120,.agg #[iv aA,iv (IntKind.i64.wrap (0-aC)),iv aF,iv a7,iv a8,.slice none 0 0])] hF kr kr (A0 (Aw (fun _=>cH)) Aa) ⟨kr⟩ fun a hF=>?_
        refine WRun.fin ?_
        refine all_cons ?_ (Ay)
        refine Bs (t:=44) (fun cQ=>[(1,pb b4),(2,pb b5),(3,.string u8),(4,iv x9),(9,pb cQ),(120,.agg #[iv aA,iv (IntKind.i64.wrap (0-aC)),iv aF,iv a7,iv a8,.slice none 0 0])]) #[iv 0,iv 0,iv 0,iv 0,iv 0,.slice none 0 0] hF hS kr ⟨kr⟩ kr (fun _=>⟨kr⟩) fun cQ w a hF hS=>⟨⟨St.pick [1,2,3] (by decide) hS,(hS.frz (i:=4) rfl hlow)⟩,?_⟩
        refine WT.z [] kr ?_
        refine WRun.fin ?_
        exact ⟨cQ,hF.sub kr,St.pick [0,1,2,3,4] (by decide) hS⟩
       ·skip
        refine Bs (t:=44) (fun c1=>[(1,pb b4),(2,pb b5),(3,.string u8),(4,iv x9),(9,pb c1),(100,iv aA),(103,iv (IntKind.i64.wrap (0-aC))),(104,.agg #[.int .u8 p0.Kind,.int .u32 p0.Time,.int .u8 p0.Sides.1,.int .u8 p0.Sides.2.1,.int .u8 p0.Sides.2.2,sv ad1 p0.Numbers cap2]),(112,iv a7),(118,iv a8)]) #[iv 0,iv 0,iv 0,iv 0,iv 0,.slice none 0 0] hF hS kr ⟨kr⟩ kr (fun _=>⟨kr⟩) fun c1 w a hF hS=>⟨⟨St.pick [1,2,3] (by decide) hS,(hS.frz (i:=4) rfl hlow)⟩,?_⟩
        refine WT.s [] [7] kr kr ?_
        refine WRun.fin ?_
        refine all_cons ?_ (Ay)
        refine F2 [(1,pb b4),(2,pb b5),(3,.string u8),(4,iv x9),(9,pb c1),(100,iv aA),(103,iv (IntKind.i64.wrap (0-aC))),(105,iv bK),(112,iv a7),(118,iv a8)] hF kr ⟨kr⟩ (A8 F _ _ _ _ cJ (Bp w) w (A7 w) (hA3.mono (FrzAt.le_mem (hS.frz (i:=4) rfl hlow)))) ⟨kr⟩ ?_
        intro w a hx hF
        replace hS:=hS.later hx
        refine ⟨⟨St.pick [1,2,3] (by decide) hS,(hS.frz (i:=4) rfl hlow)⟩,?_⟩
        refine WT.z [8,21,22] kr ?_
        refine Ek (rest:=[]) (obs:=[.run [] (binOp .add 3 (iv 1) (iv bK)) (iv aF)]) [8,21,22] [(1,pb b4),(2,pb b5),(3,.string u8),(4,iv x9),(9,pb c1),(120,.agg #[iv aA,iv (IntKind.i64.wrap (0-aC)),iv aF,iv a7,iv a8,.slice none 0 0])] hF kr kr (A0 (Aw (fun _=>cH)) Aa) ⟨kr⟩ fun a hF=>?_
        refine WRun.fin ?_
        exact ⟨c1,hF.sub kr,St.pick [0,1,2,3,4] (by decide) hS⟩
      ·skip
       refine Bs (t:=44) (fun bN=>[(1,pb b4),(2,pb b5),(3,.string u8),(4,iv x9),(9,pb bN),(100,iv aA),(101,.agg #[.int .u8 p0.Kind,.int .u32 p0.Time,.int .u8 p0.Sides.1,.int .u8 p0.Sides.2.1,.int .u8 p0.Sides.2.2,sv ad1 p0.Numbers cap2]),(104,.agg #[.int .u8 p0.Kind,.int .u32 p0.Time,.int .u8 p0.Sides.1,.int .u8 p0.Sides.2.1,.int .u8 p0.Sides.2.2,sv ad1 p0.Numbers cap2]),(112,iv a7),(118,iv a8)]) #[iv 0,iv 0,iv 0,iv 0,iv 0,.slice none 0 0] hF hS kr ⟨kr⟩ kr (fun _=>⟨kr⟩) fun bN w a hF hS=>⟨⟨St.pick [1,2,3] (by decide) hS,(hS.frz (i:=4) rfl hlow)⟩,?_⟩
       refine WT.s [] [4] kr kr ?_
       refine WRun.fin ?_
       refine all_cons ?_ (Ay)
       refine F2 [(1,pb b4),(2,pb b5),(3,.string u8),(4,iv x9),(9,pb bN),(100,iv aA),(102,iv aC),(104,.agg #[.int .u8 p0.Kind,.int .u32 p0.Time,.int .u8 p0.Sides.1,.int .u8 p0.Sides.2.1,.int .u8 p0.Sides.2.2,sv ad1 p0.Numbers cap2]),(112,iv a7),(118,iv a8)] hF kr ⟨kr⟩ (A8 F _ _ _ _ cU (Bp w) w (A7 w) (hA3.mono (FrzAt.le_mem (hS.frz (i:=4) rfl hlow)))) ⟨kr⟩ ?_
       intro w a hx hF
       replace hS:=hS.later hx
       refine ⟨⟨St.pick [1,2,3] (by decide) hS,(hS.frz (i:=4) rfl hlow)⟩,?_⟩
       refine WT.s [5] [7] kr kr ?_
       refine Ek (rest:=[]) (obs:=[]) [5] [(1,pb b4),(2,pb b5),(3,.string u8),(4,iv x9),(9,pb bN),(100,iv aA),(103,iv (IntKind.i64.wrap (0-aC))),(104,.agg #[.int .u8 p0.Kind,.int .u32 p0.Time,.int .u8 p0.Sides.1,.int .u8 p0.Sides.2.1,.int .u8 p0.Sides.2.2,sv ad1 p0.Numbers cap2]),(112,iv a7),(118,iv a8)] hF kr kr Aa ⟨kr⟩ fun a hF=>?_
       refine WRun.fin ?_
       refine all_cons ?_ (Ay)
       refine F2 [(1,pb b4),(2,pb b5),(3,.string u8),(4,iv x9),(9,pb bN),(100,iv aA),(103,iv (IntKind.i64.wrap (0-aC))),(105,iv bK),(112,iv a7),(118,iv a8)] hF kr ⟨kr⟩ (A8 F _ _ _ _ cJ (Bp w) w (A7 w) (hA3.mono (FrzAt.le_mem (hS.frz (i:=4) rfl hlow)))) ⟨kr⟩ ?_
       intro w a hx hF
       replace hS:=hS.later hx
       refine ⟨⟨St.pick [1,2,3] (by decide) hS,(hS.frz (i:=4) rfl hlow)⟩,?_⟩
       refine WT.z [8,21,22] kr ?_
       refine Ek (rest:=[]) (obs:=[.run [] (binOp .add 3 (iv 1) (iv bK)) (iv aF)]) [8,21,22] [(1,pb b4),(2,pb b5),(3,.string u8),(4,iv x9),(9,pb bN),(120,.agg #[iv aA,iv (IntKind.i64.wrap (0-aC)),iv aF,iv a7,iv a8,.slice none 0 0])] hF kr kr (A0 (Aw (fun _=>cH)) Aa) ⟨kr⟩ fun a hF=>?_
       refine WRun.fin ?_
       exact ⟨bN,hF.sub kr,St.pick [0,1,2,3,4] (by decide) hS⟩
     ·skip
      refine Bs (t:=44) (fun bF=>[(1,pb b4),(2,pb b5),(3,.string u8),(4,iv x9),(9,pb bF),(98,.agg #[.int .u8 p0.Kind,.int .u32 p0.Time,.int .u8 p0.Sides.1,.int .u8 p0.Sides.2.1,.int .u8 p0.Sides.2.2,sv ad1 p0.Numbers cap2]),(101,.agg #[.int .u8 p0.Kind,.int .u32 p0.Time,.int .u8 p0.Sides.1,.int .u8 p0.Sides.2.1,.int .u8 p0.Sides.2.2,sv ad1 p0.Numbers cap2]),(104,.agg #[.int .u8 p0.Kind,.int .u32 p0.Time,.int .u8 p0.Sides.1,.int .u8 p0.Sides.2.1,.int .u8 p0.Sides.2.2,sv ad1 p0.Numbers cap2]),(112,iv a7),(118,iv a8)]) #[iv 0,iv 0,iv 0,iv 0,iv 0,.slice none 0 0] hF hS kr ⟨kr⟩ kr (fun _=>⟨kr⟩) fun bF w a hF hS=>⟨⟨St.pick [1,2,3] (by decide) hS,(hS.frz (i:=4) rfl hlow)⟩,?_⟩
      refine WT.s [] [1] kr kr ?_
      refine WRun.fin ?_
      refine all_cons ?_ (Ay)
      refine F2 [(1,pb b4),(2,pb b5),(3,.string u8),(4,iv x9),(9,pb bF),(99,iv cO),(101,.agg #[.int .u8 p0.Kind,.int .u32 p0.Time,.int .u8 p0.Sides.1,.int .u8 p0.Sides.2.1,.int .u8 p0.Sides.2.2,sv ad1 p0.Numbers cap2]),(104,.agg #[.int .u8 p0.Kind,.int .u32 p0.Time,.int .u8 p0.Sides.1,.int .u8 p0.Sides.2.1,.int .u8 p0.Sides.2.2,sv ad1 p0.Numbers cap2]),(112,iv a7),(118,iv a8)] hF kr ⟨kr⟩ (A8 F _ _ _ _ dG (Bp w) w (A7 w) (hA3.mono (FrzAt.le_mem (hS.frz (i:=4) rfl hlow)))) ⟨kr⟩ ?_
      intro w a hx hF
      replace hS:=hS.later hx
      refine ⟨⟨St.pick [1,2,3] (by decide) hS,(hS.frz (i:=4) rfl hlow)⟩,?_⟩
      refine WT.s [2] [4] kr kr ?_
      refine Ek (rest:=[]) (obs:=[.run [] (binOp .sub 3 (iv cO) (iv 1000)) (iv aA)]) [2] [(1,pb b4),(2,pb b5),(3,.string u8),(4,iv x9),(9,pb bF),(100,iv aA),(101,.agg #[.int .u8 p0.Kind,.int .u32 p0.Time,.int .u8 p0.Sides.1,.int .u8 p0.Sides.2.1,.int .u8 p0.Sides.2.2,sv ad1 p0.Numbers cap2]),(104,.agg #[.int .u8 p0.Kind,.int .u32 p0.Time,.int .u8 p0.Sides.1,.int .u8 p0.Sides.2.1,.int .u8 p0.Sides.2.2,sv ad1 p0.Numbers cap2]),(112,iv a7),(118,iv a8)] hF kr kr (A0 (Jk (fun _=>dD)) Aa) ⟨kr⟩ fun a hF=>?_
      refine WRun.fin ?_
      refine all_cons ?_ (Ay)
      refine F2 [(1,pb b4),(2,pb b5),(3,.string u8),(4,iv x9),(9,pb bF),(100,iv aA),(102,iv aC),(104,.agg #[.int .u8 p0.Kind,.int .u32 p0.Time,.int .u8 p0.Sides.1,.int .u8 p0.Sides.2.1,.int .u8 p0.Sides.2.2,sv ad1 p0.Numbers cap2]),(112,iv a7),(118,iv a8)] hF kr ⟨kr⟩ (A8 F _ _ _ _ cU (Bp w) w (A7 w) (hA3.mono (FrzAt.le_mem (hS.frz (i:=4) rfl hlow)))) ⟨kr⟩ ?_
      intro w a hx hF
      replace hS:=hS.later hx
      refine ⟨⟨St.pick [1,2,3] (by decide) hS,(hS.frz (i:=4) rfl hlow)⟩,?_⟩
      refine WT.s [5] [7] kr kr ?_
      refine Ek (rest:=[]) (obs:=[]) [5] [(1,pb b4),(2,pb b5),(3,.string u8),(4,iv x9),(9,pb bF),(100,iv aA),(103,iv (IntKind.i64.wrap (0-aC))),(104,.agg #[.int .u8 p0.Kind,.int .u32 p0.Time,.int .u8 p0.Sides.1,.int .u8 p0.Sides.2.1,.int .u8 p0.Sides.2.2,sv ad1 p0.Numbers cap2]),(112,iv a7),(118,iv a8)] hF kr kr Aa ⟨kr⟩ fun a hF=>?_
      refine WRun.fin ?_
      refine all_cons ?_ (Ay)
      refine F2 [(1,pb b4),(2,pb b5),(3,.string u8),(4,iv x9),(9,pb bF),(100,iv aA),(103,iv (IntKind.i64.wrap (0-aC))),(105,iv bK),(112,iv a7),(118,iv a8)] hF kr ⟨kr⟩ (A8 F _ _ _ _ cJ (Bp w) w (A7 w) (hA3.mono (FrzAt.le_mem (hS.frz (i:=4) rfl hlow)))) ⟨kr⟩ ?_
      intro w a hx hF
      replace hS:=hS.later hx
      refine ⟨⟨St.pick [1,2,3] (by decide) hS,(hS.frz (i:=4) rfl hlow)⟩,?_⟩
      refine WT.z [8,21,22] kr ?_
      refine Ek (rest:=[]) (obs:=[.run [] (binOp .add 3 (iv 1) (iv bK)) (iv aF)]) [8,21,22] [(1,pb b4),(2,pb b5),(3,.string u8),(4,iv x9),(9,pb bF),(120,.agg #[iv aA,iv (IntKind.i64.wrap (0-aC)),iv aF,iv a7,iv a8,.slice none 0 0])] hF kr kr (A0 (Aw (fun _=>cH)) Aa) ⟨kr⟩ fun a hF=>?_
      refine WRun.fin ?_
      exact ⟨bF,hF.sub kr,St.pick [0,1,2,3,4] (by decide) hS⟩
    rintro a w ⟨aG,hF,hS⟩
    refine SK.wi (Ap (t:=44) [(1,pb b4),(2,pb b5),(3,.string u8),(4,iv x9),(9,pb aG)] 0 0 (.agg #[iv aA,iv (IntKind.i64.wrap (0-aC)),iv aF,iv a7,iv a8,.slice none 0 0]) #[iv aA,iv (IntKind.i64.wrap (0-aC)),iv aF,iv a7,iv a8,.slice none 0 0] hF hS rfl kr ⟨kr⟩ kr kr kr kr ⟨kr⟩ fun w a hF hS=>?_)
    refine wfn rfl ?_
    refine Ei (fun a w=>∃(aX:(List api_Span)) (b2:Option Addr) (bA:Nat),Fr 168 [] [(2,pb b5),(3,.string u8),(4,iv x9),(9,pb aG)] a∧St w0 [arr 85 2 api_Span.cells b2 aX.length bA aX,blk aG 44 #[iv aA,iv (IntKind.i64.wrap (0-aC)),iv aF,iv a7,iv a8,sv b2 aX bA],arr 9 1 Ns (some ⟨b6,0,none⟩) ([(⟨#[97]⟩:ByteArray),(⟨#[98,95,49]⟩:ByteArray),(⟨#[122,122,122,122,122,122,122,122,122,122,122,122]⟩:ByteArray)]).length 3 ([(⟨#[97]⟩:ByteArray),(⟨#[98,95,49]⟩:ByteArray),(⟨#[122,122,122,122,122,122,122,122,122,122,122,122]⟩:ByteArray)]),blk b5 46 #[iv 0,.string ByteArray.empty,iv 0,.string ByteArray.empty,iv 0,iv 0,iv 0,iv 0,iv 0,iv 0,iv 0,iv 0,iv 0,.slice none 0 0,iv 0,iv 0,iv 0,iv 0,iv 0,.slice none 0 0,.string ByteArray.empty],blk b4 58 #[.int .u8 p0.Kind,.int .u32 p0.Time,.int .u8 p0.Sides.1,.int .u8 p0.Sides.2.1,.int .u8 p0.Sides.2.2,sv ad1 p0.Numbers cap2],fz w0 μ] w∧F9 u8 x9 a7 a8 aA aC aF aX=some res) ?_ ?_
    ·skip
     refine esr ?_
     replace h:=A4 h
     obtain ⟨aL,eU,h⟩:=h
     refine rno 8 [.run [] (Instr.loadAt 3 (.pointer (some ⟨aG,3,none⟩))) (iv a7),.run [] (Instr.loadAt 3 (.pointer (some ⟨aG,4,none⟩))) (iv a8),.run [] (binOp .mul 3 (iv a7) (iv a8)) (iv aL)] 8 [(1,pb b4),(2,pb b5),(3,.string u8),(4,iv x9),(9,pb aG),(127,iv aL),(128,iv 0)] hF (A0 (ob1 kr (fun _ hd=>(hS.at_ hd).cell (i:=0) (j:=3) rfl rfl)) (A0 (ob1 kr (fun _ hd=>(hS.at_ hd).cell (i:=0) (j:=4) rfl rfl)) (A0 (K8 (fun _=>eU)) Aa))) fun a hF=>?_
     refine wfn rfl ?_
     refine wpIn_block ?_
     replace hS:=hS.nilarr 85 2 api_Span.cells
     refine E4 (fun n_ a w=>∃(aO:(List api_Span)) (aJ:Int) (bB:Option Addr) (bD:Nat),Fr 168 [] [(1,pb b4),(2,pb b5),(3,.string u8),(4,iv x9),(9,pb aG),(127,iv aL),(128,iv aJ)] a∧St w0 [arr 85 2 api_Span.cells bB aO.length bD aO,blk aG 44 #[iv aA,iv (IntKind.i64.wrap (0-aC)),iv aF,iv a7,iv a8,sv bB aO bD],arr 9 1 Ns (some ⟨b6,0,none⟩) ([(⟨#[97]⟩:ByteArray),(⟨#[98,95,49]⟩:ByteArray),(⟨#[122,122,122,122,122,122,122,122,122,122,122,122]⟩:ByteArray)]).length 3 ([(⟨#[97]⟩:ByteArray),(⟨#[98,95,49]⟩:ByteArray),(⟨#[122,122,122,122,122,122,122,122,122,122,122,122]⟩:ByteArray)]),blk b5 46 #[iv 0,.string ByteArray.empty,iv 0,.string ByteArray.empty,iv 0,iv 0,iv 0,iv 0,iv 0,iv 0,iv 0,iv 0,iv 0,.slice none 0 0,iv 0,iv 0,iv 0,iv 0,iv 0,.slice none 0 0,.string ByteArray.empty],blk b4 58 #[.int .u8 p0.Kind,.int .u32 p0.Time,.int .u8 p0.Sides.1,.int .u8 p0.Sides.2.1,.int .u8 p0.Sides.2.2,sv ad1 p0.Numbers cap2],fz w0 μ] w∧Dw F p0 u8 x9 a7 a8 aA aC aF aL n_ aO aJ=some res) F ⟨[],0,none,0,hF.sub kr,St.pick [0,1,2,3,4,5] (by decide) hS,h⟩ ?_
     rintro cM a w ⟨aO,aJ,bB,bD,hF,hS,h⟩
     rcases cM with _|cM
     ·cases (show (none:Option volume_Item)=some res from h)
     obtain ⟨f4,d9⟩:∃k,k=Dw F p0 u8 x9 a7 a8 aA aC aF aL cM:=⟨_,rfl⟩
     replace h:G5 F p0 u8 x9 a7 a8 aA aC aF aL f4 aO aJ=some res:=by rw [d9];exact h
     rw [G5] at h
     refine esr ?_
     refine rn 1 1 [(1,pb b4),(2,pb b5),(3,.string u8),(4,iv x9),(9,pb aG),(127,iv aL),(128,iv aJ),(129,.bool (decide (aJ<aL)))] hF fun a hF=>?_
     refine wfn rfl ?_
     refine B0 ?_
     refine As hF rfl (fun hc=>?_) (fun hc=>?_)
     ·replace h:=Ao h hc
      refine wpIn_skip (A1 ?_)
      refine B0 ?_
      refine wpIn_block ?_
      refine esr ?_
      refine rn 2 2 [(1,pb b4),(2,pb b5),(3,.string u8),(4,iv x9),(9,pb aG),(10,iv aJ),(127,iv aL),(128,iv aJ)] hF fun a hF=>?_
      refine wfn rfl ?_
      replace h:=A4 h
      obtain ⟨dT,eV,h⟩:=h
      replace h:=A4 h
      obtain ⟨dU,eW,h⟩:=h
      replace h:=A4 h
      obtain ⟨bL,f0,h⟩:=h
      refine Cz 9 [7,8] _ (D:=fun w=>St w0 [arr 85 2 api_Span.cells bB aO.length bD aO,blk aG 44 #[iv aA,iv (IntKind.i64.wrap (0-aC)),iv aF,iv a7,iv a8,sv bB aO bD],arr 9 1 Ns (some ⟨b6,0,none⟩) ([(⟨#[97]⟩:ByteArray),(⟨#[98,95,49]⟩:ByteArray),(⟨#[122,122,122,122,122,122,122,122,122,122,122,122]⟩:ByteArray)]).length 3 ([(⟨#[97]⟩:ByteArray),(⟨#[98,95,49]⟩:ByteArray),(⟨#[122,122,122,122,122,122,122,122,122,122,122,122]⟩:ByteArray)]),blk b5 46 #[iv 0,.string ByteArray.empty,iv 0,.string ByteArray.empty,iv 0,iv 0,iv 0,iv 0,iv 0,iv 0,iv 0,iv 0,iv 0,.slice none 0 0,iv 0,iv 0,iv 0,iv 0,iv 0,.slice none 0 0,.string ByteArray.empty],blk b4 58 #[.int .u8 p0.Kind,.int .u32 p0.Time,.int .u8 p0.Sides.1,.int .u8 p0.Sides.2.1,.int .u8 p0.Sides.2.2,sv ad1 p0.Numbers cap2]] w∧FrzAt μ w) kr kr hF.size (fun w hx=>?_) (fun _ _ h=>h)
      replace hS:=hS.later hx
      refine ⟨⟨St.pick [0,1,2,3,4] (by decide) hS,hS.frz (i:=5) rfl hlow⟩,?_⟩
      have f7:=Frz.le_refl μ
      refine WT.s [0,1,2,3,4,5,6] [7] kr kr ?_
      refine Ek (rest:=[]) (obs:=[.run [] (Instr.loadAt 42 (.pointer (some ⟨aG,5,none⟩))) (sv bB aO bD),.run [] (Instr.loadAt 58 (pb b4)) (.agg #[.int .u8 p0.Kind,.int .u32 p0.Time,.int .u8 p0.Sides.1,.int .u8 p0.Sides.2.1,.int .u8 p0.Sides.2.2,sv ad1 p0.Numbers cap2]),.run [] (binOp .quo 3 (iv aJ) (iv 2)) (iv dT),.run [] (binOp .add 3 (iv 5) (iv aJ)) (iv dU)]) [0,1,2,3,4,5,6] [(1,pb b4),(2,pb b5),(3,.string u8),(4,iv x9),(9,pb aG),(127,iv aL),(128,iv aJ),(132,sv bB aO bD),(133,.agg #[.int .u8 p0.Kind,.int .u32 p0.Time,.int .u8 p0.Sides.1,.int .u8 p0.Sides.2.1,.int .u8 p0.Sides.2.2,sv ad1 p0.Numbers cap2]),(135,iv dT),(137,iv dU)] hF kr kr (A0 (ob1 kr (fun _ hd=>hd.1.cell (i:=1) (j:=5) rfl rfl)) (A0 (obN (us:=[.int .u8 p0.Kind,.int .u32 p0.Time,.int .u8 p0.Sides.1,.int .u8 p0.Sides.2.1,.int .u8 p0.Sides.2.2,sv ad1 p0.Numbers cap2]) kr (fun _ hd=>(hd.1.blk (i:=4) rfl).cells rfl)) (A0 (R5 (fun _=>eV)) (A0 (Aw (fun _=>eW)) Aa)))) ⟨kr⟩ fun a hF=>?_
      refine WRun.fin ?_
      refine all_cons ?_ (Ay)
      refine F2 [(1,pb b4),(2,pb b5),(3,.string u8),(4,iv x9),(9,pb aG),(127,iv aL),(128,iv aJ),(132,sv bB aO bD),(138,.agg #[iv bL.Lo,iv bL.Hi])] hF kr ⟨kr⟩ (Bt F _ _ _ _ _ f0 (Bp w) w (A7 w) (hA3.mono (FrzAt.le_mem (hS.frz (i:=5) rfl hlow)))) ⟨kr⟩ ?_
      intro w a hx hF
      replace hS:=hS.later hx
      refine ⟨⟨St.pick [0,1,2,3,4] (by decide) hS,(hS.frz (i:=5) rfl hlow)⟩,?_⟩
      refine WT.s [] [8] kr kr ?_
      refine WRun.fin ?_
      refine all_cons ?_ (Ay)
      refine G0 (e:=85) (sz:=2) (f:=api_Span.cells) (t:=42) (len:=1) (fun d5=>[(1,pb b4),(2,pb b5),(3,.string u8),(4,iv x9),(9,pb aG),(127,iv aL),(128,iv aJ),(132,sv bB aO bD),(139,sb d5 1)]) #[(0,.agg #[iv bL.Lo,iv bL.Hi])] #[iv bL.Lo,iv bL.Hi] ([bL]) hF hS kr ⟨kr⟩ kr api_Span.cells_len rfl rfl kr (fun _=>⟨kr⟩) fun d5 w a hF hS=>⟨⟨St.pick [1,2,3,4,5] (by decide) hS,(hS.frz (i:=6) rfl hlow)⟩,?_⟩
      refine WT.z [] kr ?_
      refine WRun.fin ?_
      replace h:=A4 h
      obtain ⟨c6,e2,h⟩:=h
      refine SK.wi (S4 (t:=42) (ty:=42) (bytes:=16) (l:=aO) (l':=([bL])) (fun bQ bS=>[(1,pb b4),(2,pb b5),(3,.string u8),(4,iv x9),(9,pb aG),(127,iv aL),(128,iv aJ),(140,sv bQ c6 bS)]) 1 hF hS rfl kr ⟨kr⟩ kr (hS.arr (i:=0) rfl) (fun _ _=>rfl) e2 (fun _ _=>⟨kr⟩) fun bQ bS w a hF hS=>?_)
      refine rn 1 11 [(1,pb b4),(2,pb b5),(3,.string u8),(4,iv x9),(9,pb aG),(127,iv aL),(128,iv aJ),(140,sv bQ c6 bS),(141,.pointer (some ⟨aG,5,none⟩))] hF fun a hF=>?_
      refine SK.wi (Ap (t:=42) [(1,pb b4),(2,pb b5),(3,.string u8),(4,iv x9),(9,pb aG),(127,iv aL),(128,iv aJ)] 2 5 (sv bQ c6 bS) #[iv aA,iv (IntKind.i64.wrap (0-aC)),iv aF,iv a7,iv a8,sv bQ c6 bS] hF hS rfl kr ⟨kr⟩ kr kr kr kr ⟨kr⟩ fun w a hF hS=>?_)
      refine WI.fin rfl (Ac<|A1<|?_)
      refine WI.region ?_
      replace h:=A4 h
      obtain ⟨cZ,eX,h⟩:=h
      refine rno 2 [.run [] (binOp .add 3 (iv aJ) (iv 1)) (iv cZ)] 2 [(1,pb b4),(2,pb b5),(3,.string u8),(4,iv x9),(9,pb aG),(127,iv aL),(128,iv cZ)] hF (A0 (Aw (fun _=>eX)) Aa) fun a hF=>?_
      refine wfn rfl ?_
      rw [d9] at h
      exact ⟨cM,Nat.lt_succ_self _,c6,cZ,bQ,bS,hF.sub kr,St.pick [1,2,3,4,5,6] (by decide) hS,h⟩
     ·replace h:=An h hc
      refine wpIn_exit (Ad<|Ad<|Bb<|A1 ?_)
      exact ⟨aO,bB,bD,hF.sub kr,St.pick [0,1,2,3,4,5] (by decide) hS,h⟩
    rintro a w ⟨aX,b2,bA,hF,hS,h⟩
    rw [F9] at h
    refine esr ?_
    refine rno 4 [.run [] (Instr.loadAt 44 (pb aG)) (.agg #[iv aA,iv (IntKind.i64.wrap (0-aC)),iv aF,iv a7,iv a8,sv b2 aX bA])] 4 [(2,pb b5),(146,.agg #[iv 2,.string u8,iv x9,.string ByteArray.empty,iv 0,iv 0,iv 0,iv 0,iv 0,iv 0,iv 0,iv 0,iv 0,.slice none 0 0,iv aA,iv (IntKind.i64.wrap (0-aC)),iv aF,iv a7,iv a8,sv b2 aX bA,.string ByteArray.empty])] hF (A0 (obN (us:=[iv aA,iv (IntKind.i64.wrap (0-aC)),iv aF,iv a7,iv a8,sv b2 aX bA]) kr (fun _ hd=>((hS.at_ hd).blk (i:=1) rfl).cells rfl)) Aa) fun a hF=>?_
    refine SK.wi (Ap (t:=46) [(2,pb b5)] 3 0 (.agg #[iv 2,.string u8,iv x9,.string ByteArray.empty,iv 0,iv 0,iv 0,iv 0,iv 0,iv 0,iv 0,iv 0,iv 0,.slice none 0 0,iv aA,iv (IntKind.i64.wrap (0-aC)),iv aF,iv a7,iv a8,sv b2 aX bA,.string ByteArray.empty]) #[iv 2,.string u8,iv x9,.string ByteArray.empty,iv 0,iv 0,iv 0,iv 0,iv 0,iv 0,iv 0,iv 0,iv 0,.slice none 0 0,iv aA,iv (IntKind.i64.wrap (0-aC)),iv aF,iv a7,iv a8,sv b2 aX bA,.string ByteArray.empty] hF hS rfl kr ⟨kr⟩ kr kr kr kr ⟨kr⟩ fun w a hF hS=>?_)
    refine wfn rfl ?_
    refine wpIn_ret (Ar<|Ab<|Ak [.cell 2 46] [.agg #[iv 2,.string u8,iv x9,.string ByteArray.empty,iv 0,iv 0,iv 0,iv 0,iv 0,iv 0,iv 0,iv 0,iv 0,.slice none 0 0,iv aA,iv (IntKind.i64.wrap (0-aC)),iv aF,iv a7,iv a8,sv b2 aX bA,.string ByteArray.empty]] hF rfl ⟨⟨_,rfl,Fq (cs:=[iv 2,.string u8,iv x9,.string ByteArray.empty,iv 0,iv 0,iv 0,iv 0,iv 0,iv 0,iv 0,iv 0,iv 0,.slice none 0 0,iv aA,iv (IntKind.i64.wrap (0-aC)),iv aF,iv a7,iv a8,sv b2 aX bA,.string ByteArray.empty]) kr ((hS.blk (i:=3) rfl).cells rfl)⟩,trivial⟩ ?_)
    obtain ⟨ν2780,dE,hlow,hS,f3⟩:=hS.freeze (i:=5) (j:=0) rfl rfl (by decide) hlow
    replace hA3:=hA3.mono dE.1
    replace hext:=Frz.ext_trans hext dE
    have dZ:=ArrM.of_arr f3
    have hr_:=Option.some.inj h
    subst hr_
    exact ⟨_,rfl,ν2780,none,0,[],b2,bA,hext,rfl,ArrQ.nil,dZ,St.pick [4] (by decide) hS⟩
   ·replace h:=An h hc
    refine wpIn_skip (Ac<|A1<|?_)
    exact ⟨hF.sub kr,St.pick [0,1,2,3] (by decide) hS,h⟩
 rintro a w ⟨hF,hS,h⟩
 rw [Gg] at h
 refine esr ?_
 refine rn 1 1 [(1,pb b4),(2,pb b5),(4,iv x9),(11,.slice none 0 0)] hF fun a hF=>?_
 refine wfn rfl ?_
 refine Ei (fun a w=>∃(aW:(List Int)) (c8:Option Addr) (cA:Nat),Fr 168 [] [(2,pb b5),(4,iv x9),(11,sv c8 aW cA)] a∧St w0 [arr 5 1 (fK .u8) c8 aW.length cA aW,arr 9 1 Ns (some ⟨b6,0,none⟩) ([(⟨#[97]⟩:ByteArray),(⟨#[98,95,49]⟩:ByteArray),(⟨#[122,122,122,122,122,122,122,122,122,122,122,122]⟩:ByteArray)]).length 3 ([(⟨#[97]⟩:ByteArray),(⟨#[98,95,49]⟩:ByteArray),(⟨#[122,122,122,122,122,122,122,122,122,122,122,122]⟩:ByteArray)]),blk b5 46 #[iv 0,.string ByteArray.empty,iv 0,.string ByteArray.empty,iv 0,iv 0,iv 0,iv 0,iv 0,iv 0,iv 0,iv 0,iv 0,.slice none 0 0,iv 0,iv 0,iv 0,iv 0,iv 0,.slice none 0 0,.string ByteArray.empty],blk b4 58 #[.int .u8 p0.Kind,.int .u32 p0.Time,.int .u8 p0.Sides.1,.int .u8 p0.Sides.2.1,.int .u8 p0.Sides.2.2,sv ad1 p0.Numbers cap2],fz w0 μ] w∧F7 x9 aW=some res) ?_ ?_
 ·skip
  refine esr ?_
  replace h:=A4 h
  obtain ⟨dH,e5,h⟩:=h
  replace h:=A4 h
  obtain ⟨aQ,e6,h⟩:=h
  refine rno 6 [.run [] (Instr.indexAt 55 (.pointer (some ⟨b4,2,none⟩)) (iv 0)) (.pointer (some ⟨b4,2,none⟩)),.run [] (Instr.loadAt 5 (.pointer (some ⟨b4,2,none⟩))) (.int .u8 p0.Sides.1),.run [] (convert 5 3 (.int .u8 p0.Sides.1)) (iv dH),.run [] (binOp .rem 3 (iv dH) (iv 201)) (iv aQ)] 6 [(1,pb b4),(2,pb b5),(4,iv x9),(11,.slice none 0 0),(151,iv aQ),(152,iv 0)] hF (A0 (Ca kr) (A0 (ob1 kr (fun _ hd=>(hS.at_ hd).cell (i:=2) (j:=2) rfl rfl)) (A0 (J4 kr kr (fun _=>e5)) (A0 (Jj (fun _=>e6)) Aa)))) fun a hF=>?_
  refine wfn rfl ?_
  refine wpIn_block ?_
  replace hS:=hS.nilarr 5 1 (fK .u8)
  refine E4 (fun n_ a w=>∃(aM:(List Int)) (aP:Int) (aY:Option Addr) (b3:Nat),Fr 168 [] [(1,pb b4),(2,pb b5),(4,iv x9),(11,sv aY aM b3),(151,iv aQ),(152,iv aP)] a∧St w0 [arr 5 1 (fK .u8) aY aM.length b3 aM,arr 9 1 Ns (some ⟨b6,0,none⟩) ([(⟨#[97]⟩:ByteArray),(⟨#[98,95,49]⟩:ByteArray),(⟨#[122,122,122,122,122,122,122,122,122,122,122,122]⟩:ByteArray)]).length 3 ([(⟨#[97]⟩:ByteArray),(⟨#[98,95,49]⟩:ByteArray),(⟨#[122,122,122,122,122,122,122,122,122,122,122,122]⟩:ByteArray)]),blk b5 46 #[iv 0,.string ByteArray.empty,iv 0,.string ByteArray.empty,iv 0,iv 0,iv 0,iv 0,iv 0,iv 0,iv 0,iv 0,iv 0,.slice none 0 0,iv 0,iv 0,iv 0,iv 0,iv 0,.slice none 0 0,.string ByteArray.empty],blk b4 58 #[.int .u8 p0.Kind,.int .u32 p0.Time,.int .u8 p0.Sides.1,.int .u8 p0.Sides.2.1,.int .u8 p0.Sides.2.2,sv ad1 p0.Numbers cap2],fz w0 μ] w∧Eb F p0 u8 x9 aQ n_ aM aP=some res) F ⟨[],0,none,0,hF.sub kr,St.pick [0,1,2,3,4] (by decide) hS,h⟩ ?_
  rintro nk3 a w ⟨aM,aP,aY,b3,hF,hS,h⟩
  rcases nk3 with _|nk3
  ·cases (show (none:Option volume_Item)=some res from h)
  obtain ⟨k3,hk3⟩:∃k,k=Eb F p0 u8 x9 aQ nk3:=⟨_,rfl⟩
  replace h:Gd F p0 u8 x9 aQ k3 aM aP=some res:=by rw [hk3];exact h
  rw [Gd] at h
  refine esr ?_
  refine rn 1 1 [(1,pb b4),(2,pb b5),(4,iv x9),(11,sv aY aM b3),(151,iv aQ),(152,iv aP),(153,.bool (decide (aP<aQ)))] hF fun a hF=>?_
  refine wfn rfl ?_
  refine B0 ?_
  refine As hF rfl (fun hc=>?_) (fun hc=>?_)
  ·replace h:=Ao h hc
   refine wpIn_skip (A1 ?_)
   refine B0 ?_
   refine wpIn_block ?_
   refine esr ?_
   refine rn 2 2 [(1,pb b4),(2,pb b5),(4,iv x9),(11,sv aY aM b3),(12,iv aP),(151,iv aQ),(152,iv aP)] hF fun a hF=>?_
   refine wfn rfl ?_
   refine WI.region ?_
   replace h:=A4 h
   obtain ⟨dV,eY,h⟩:=h
   replace h:=A4 h
   obtain ⟨bJ,e7,h⟩:=h
   refine rx 6 [.run [] (Instr.loadAt 58 (pb b4)) (.agg #[.int .u8 p0.Kind,.int .u32 p0.Time,.int .u8 p0.Sides.1,.int .u8 p0.Sides.2.1,.int .u8 p0.Sides.2.2,sv ad1 p0.Numbers cap2]),.call [] 31 #[.agg #[.int .u8 p0.Kind,.int .u32 p0.Time,.int .u8 p0.Sides.1,.int .u8 p0.Sides.2.1,.int .u8 p0.Sides.2.2,sv ad1 p0.Numbers cap2],iv aP,iv 95] (iv dV),.run [] (binOp .add 3 (iv 32) (iv dV)) (iv bJ),.run [] (convert 3 5 (iv bJ)) (.int .u8 (IntKind.u8.wrap bJ))] 6 [(1,pb b4),(2,pb b5),(4,iv x9),(11,sv aY aM b3),(151,iv aQ),(152,iv aP),(155,sv aY aM b3),(160,.int .u8 (IntKind.u8.wrap bJ))] hF (A0 (obN (us:=[.int .u8 p0.Kind,.int .u32 p0.Time,.int .u8 p0.Sides.1,.int .u8 p0.Sides.2.1,.int .u8 p0.Sides.2.2,sv ad1 p0.Numbers cap2]) kr (fun _ hd=>((hS.later hd).blk (i:=3) rfl).cells rfl)) (A0 (show Ob.ok _ Ext _ _ from fun hk w2 hd=>A8 F (law12_Thing.mk p0.Kind p0.Time (p0.Sides.1,p0.Sides.2.1,p0.Sides.2.2) p0.Numbers) aP 95 _ ((fun _=>eY) hk) _ w2 (A7 w2) (hA3.mono (FrzAt.le_mem ((hS.later hd).frz (i:=4) rfl hlow)))) (A0 (Aw (fun _=>e7)) (A0 (Ca kr) Aa)))) fun a w hF hx=>?_
   replace hS:=hS.later hx
   refine SK.wi (G0 (e:=5) (sz:=1) (f:=(fK .u8)) (t:=23) (len:=1) (fun d2=>[(1,pb b4),(2,pb b5),(4,iv x9),(11,sv aY aM b3),(151,iv aQ),(152,iv aP),(155,sv aY aM b3),(161,sb d2 1)]) #[(0,.int .u8 (IntKind.u8.wrap bJ))] #[.int .u8 (IntKind.u8.wrap bJ)] ([IntKind.u8.wrap bJ]) hF hS kr ⟨kr⟩ kr (Cf .u8) rfl rfl kr (fun _=>⟨kr⟩) fun d2 w a hF hS=>?_)
   replace h:=A4 h
   obtain ⟨cK,e0,h⟩:=h
   refine SK.wi (S4 (t:=23) (ty:=23) (bytes:=1) (l:=aM) (l':=([IntKind.u8.wrap bJ])) (fun bY c2=>[(1,pb b4),(2,pb b5),(4,iv x9),(11,sv aY aM b3),(151,iv aQ),(152,iv aP),(162,sv bY cK c2)]) 1 hF hS rfl kr ⟨kr⟩ kr (hS.arr (i:=0) rfl) (fun _ _=>rfl) e0 (fun _ _=>⟨kr⟩) fun bY c2 w a hF hS=>?_)
   refine rn 1 9 [(1,pb b4),(2,pb b5),(4,iv x9),(11,sv bY cK c2),(151,iv aQ),(152,iv aP)] hF fun a hF=>?_
   refine WI.fin rfl (Ac<|A1<|?_)
   refine WI.region ?_
   replace h:=A4 h
   obtain ⟨cV,e8,h⟩:=h
   refine rno 2 [.run [] (binOp .add 3 (iv aP) (iv 1)) (iv cV)] 2 [(1,pb b4),(2,pb b5),(4,iv x9),(11,sv bY cK c2),(151,iv aQ),(152,iv cV)] hF (A0 (Aw (fun _=>e8)) Aa) fun a hF=>?_
   refine wfn rfl ?_
   rw [hk3] at h
   exact ⟨nk3,Nat.lt_succ_self _,cK,cV,bY,c2,hF.sub kr,St.pick [1,2,3,4,5] (by decide) hS,h⟩
  ·replace h:=An h hc
   refine wpIn_exit (Ad<|Ad<|Bb<|A1 ?_)
   exact ⟨aM,aY,b3,hF.sub kr,St.pick [0,1,2,3,4] (by decide) hS,h⟩
 rintro a w ⟨aW,c8,cA,hF,hS,h⟩
 rw [F7] at h
 refine esr ?_
 refine rno 4 [.run [] (convert 23 9 (sv c8 aW cA)) (.string (bst aW))] 4 [(2,pb b5),(167,.agg #[iv 3,.string ByteArray.empty,iv x9,.string ByteArray.empty,iv 0,iv 0,iv 0,iv 0,iv 0,iv 0,iv 0,iv 0,iv 0,.slice none 0 0,iv 0,iv 0,iv 0,iv 0,iv 0,.slice none 0 0,.string (bst aW)])] hF (A0 (Wk kr kr (fun _ hd=>((hS.at_ hd).arr (i:=0) rfl))) Aa) fun a hF=>?_
 refine SK.wi (Ap (t:=46) [(2,pb b5)] 2 0 (.agg #[iv 3,.string ByteArray.empty,iv x9,.string ByteArray.empty,iv 0,iv 0,iv 0,iv 0,iv 0,iv 0,iv 0,iv 0,iv 0,.slice none 0 0,iv 0,iv 0,iv 0,iv 0,iv 0,.slice none 0 0,.string (bst aW)]) #[iv 3,.string ByteArray.empty,iv x9,.string ByteArray.empty,iv 0,iv 0,iv 0,iv 0,iv 0,iv 0,iv 0,iv 0,iv 0,.slice none 0 0,iv 0,iv 0,iv 0,iv 0,iv 0,.slice none 0 0,.string (bst aW)] hF hS rfl kr ⟨kr⟩ kr kr kr kr ⟨kr⟩ fun w a hF hS=>?_)
 refine wfn rfl ?_
 refine wpIn_ret (Ak [.cell 2 46] [.agg #[iv 3,.string ByteArray.empty,iv x9,.string ByteArray.empty,iv 0,iv 0,iv 0,iv 0,iv 0,iv 0,iv 0,iv 0,iv 0,.slice none 0 0,iv 0,iv 0,iv 0,iv 0,iv 0,.slice none 0 0,.string (bst aW)]] hF rfl ⟨⟨_,rfl,Fq (cs:=[iv 3,.string ByteArray.empty,iv x9,.string ByteArray.empty,iv 0,iv 0,iv 0,iv 0,iv 0,iv 0,iv 0,iv 0,iv 0,.slice none 0 0,iv 0,iv 0,iv 0,iv 0,iv 0,.slice none 0 0,.string (bst aW)]) kr ((hS.blk (i:=2) rfl).cells rfl)⟩,trivial⟩ ?_)
 have hr_:=Option.some.inj h
 subst hr_
 exact ⟨_,rfl,μ,none,0,[],none,0,hext,rfl,ArrQ.nil,ArrM.nil,St.pick [4] (by decide) hS⟩
end Go.Proofs.Ytifbomimeodibaa
