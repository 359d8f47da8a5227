import Derived.Test.YtifbomimeodibaaGreatV3XD
import Derived.Test.YtifbomimeodibaaGreatProg
import Derived.Test.YtifbomimeodibaaGreatV3XW0
import Derived.Test.YtifbomimeodibaaGreatV3XW1
import Derived.Test.YtifbomimeodibaaGreatV3XW2
import Derived.Test.YtifbomimeodibaaGreatV3XW13
namespace Go.Proofs.YtifbomimeodibaaGreat
open Go Go.RowKit Go.Eng
set_option maxRecDepth 10000
set_option maxHeartbeats 4000000
set_option linter.unusedVariables false
set_option linter.unusedSimpArgs false
theorem Q2 (F:Nat) (p0:(List Int)) (res:(ref12_Item×Int)) (h:Jz F p0=some res) (μ:Frz) (w0:World) (hm:FrzAt μ w0) {ad1:Option Addr} {cap2:Nat} (hA3:ArrM μ 1 (fK .u8) ad1 cap2 p0):Bu Tryz.prog 39 #[sv ad1 p0 cap2] w0 (fun e w=>∃(ν_:Frz) (aJ:Option Addr) (aM:Nat) (aX:List (List Value)) (aK:Option Addr) (aN:Nat),μ.ext w0.heap.size ν_∧e=(.tuple #[.agg #[iv res.1.Kind,.string res.1.Name,iv res.1.Time,.string res.1.Sweep.Site.Name,iv res.1.Sweep.Site.X,iv res.1.Sweep.Site.Y,iv res.1.Sweep.Site.Z,iv res.1.Sweep.Site.Rose,iv res.1.Sweep.Site.Gates,iv res.1.Sweep.Site.Step,iv res.1.Sweep.Site.Width,iv res.1.Sweep.Tilt,iv res.1.Sweep.Time,sv aJ res.1.Sweep.Rays aM,iv res.1.Field.Grid.X,iv res.1.Field.Grid.Y,iv res.1.Field.Grid.Size,iv res.1.Field.Grid.Wide,iv res.1.Field.Grid.High,sv aK res.1.Field.Vals aN,.string res.1.Text],iv res.2])∧ArrQ ν_ 1 Rp87 aJ aM aX res.1.Sweep.Rays∧ArrM ν_ 2 api_Span.cells aK aN res.1.Field.Vals∧St w0 [fz w0 ν_] w):=by
 obtain ⟨hlow,hS⟩:=hm.init
 have hext:=Frz.ext_refl w0.heap.size μ
 rw [Jz] at h
 refine Ah Tryz.func39 rfl 57 [(0,sv ad1 p0 cap2)] rfl rfl kr fun a w hw hF=>?_
 replace hS:=hS.cast hw
 clear hw
 refine esr ?_
 refine SK.wi (qA 49 #[iv 0,.string ByteArray.empty,iv 0,.string ByteArray.empty,iv 0,iv 0,iv 0,iv 0,iv 0,iv 0,iv 0,iv 0,iv 0,.slice none 0 0,iv 0,iv 0,iv 0,iv 0,iv 0,.slice none 0 0,.string ByteArray.empty] (fun b4=>[(2,pb b4)]) hF hS fun b4 w a hF hS=>?_)
 refine qn 1 2 [] hF fun a hF=>?_
 refine wfn rfl ?_
 refine esr ?_
 refine qn 2 2 [(9,.agg #[sv ad1 p0 cap2,.bool false])] hF fun a hF=>?_
 refine SK.wi (qB 135 (.agg #[sv ad1 p0 cap2,.bool false]) #[sv ad1 p0 cap2,.bool false] (fun b5=>[(10,pb b5)]) hF hS fun b5 w a hF hS=>?_)
 refine qn 1 4 [(4,pb b5)] hF fun a hF=>?_
 refine wfn rfl ?_
 refine esr ?_
 refine qn 1 1 [(11,pb b5)] hF fun a hF=>?_
 obtain ⟨y6,hy6,h⟩:=A1 h
 replace hS:=hS.s2
 refine SK.wi (qR (fun v9=>[(12,v9)]) hF (Ap F _ _ hy6 μ w0 w _ hlow hA3 hS) ?_)
 rintro v9 w a ⟨ν7,a8,a4,hx8,hlow,rfl,aB,hS⟩ hF
 replace hext:=Frz.ext_trans hext hx8
 replace hA3:=hA3.mono hx8.1
 refine qn 1 3 [(5,iv y6.1)] hF fun a hF=>?_
 refine wfn rfl ?_
 refine Ar ?_
 refine Ar ?_
 refine Cz 29 [25,26] _ (D:=fun w=>St w0 [blk b5 135 #[sv a8 y6.2.b a4,.bool y6.2.bad],blk b4 49 #[iv 0,.string ByteArray.empty,iv 0,.string ByteArray.empty,iv 0,iv 0,iv 0,iv 0,iv 0,iv 0,iv 0,iv 0,iv 0,.slice none 0 0,iv 0,iv 0,iv 0,iv 0,iv 0,.slice none 0 0,.string ByteArray.empty]] w∧FrzAt ν7 w) kr kr hF.size (fun w hx=>?_) (fun _ _ h=>h)
 replace hS:=hS.later hx
 refine ⟨⟨St.pick [1,2] (by decide) hS,hS.frz (i:=0) rfl hlow⟩,?_⟩
 have aO:=Frz.le_refl ν7
 refine WT.s [0,1,2,3,4,5,6,7,8,9,10,11,12,13,14,15,16,17,18,19,20,21,22,23,24] [25] kr kr ?_
 refine qC 5 [(17,.bool y6.2.bad)] hF (oL 4 0 1 (fun _ hd=>hd.1) rfl rfl<|A9) fun a hF=>?_
 rcases Bool.eq_false_or_eq_true (y6.2.bad) with a9|a9
 ·replace h:=Ag h a9
  rw [a9] at hF
  refine B4 [(0,sv ad1 p0 cap2),(2,pb b4),(4,pb b5),(5,iv y6.1),(17,.bool true),(18,undef)] hF kr kr ⟨kr⟩ ⟨kr⟩ fun a hF=>?_
  refine B4 [(0,sv ad1 p0 cap2),(2,pb b4),(4,pb b5),(5,iv y6.1),(17,.bool true),(19,undef)] hF kr kr ⟨kr⟩ ⟨kr⟩ fun a hF=>?_
  refine B4 [(0,sv ad1 p0 cap2),(2,pb b4),(4,pb b5),(5,iv y6.1),(17,.bool true),(20,undef)] hF kr kr ⟨kr⟩ ⟨kr⟩ fun a hF=>?_
  refine B4 [(0,sv ad1 p0 cap2),(2,pb b4),(4,pb b5),(5,iv y6.1),(17,.bool true),(21,undef)] hF kr kr ⟨kr⟩ ⟨kr⟩ fun a hF=>?_
  refine B4 [(0,sv ad1 p0 cap2),(2,pb b4),(4,pb b5),(5,iv y6.1),(17,.bool true),(22,undef)] hF kr kr ⟨kr⟩ ⟨kr⟩ fun a hF=>?_
  refine B4 [(0,sv ad1 p0 cap2),(2,pb b4),(4,pb b5),(5,iv y6.1),(17,.bool true),(22,undef),(23,undef)] hF kr kr ⟨kr⟩ ⟨kr⟩ fun a hF=>?_
  refine B4 [(0,sv ad1 p0 cap2),(2,pb b4),(4,pb b5),(5,iv y6.1),(17,.bool true),(22,undef),(24,undef)] hF kr kr ⟨kr⟩ ⟨kr⟩ fun a hF=>?_
  refine B4 [(0,sv ad1 p0 cap2),(2,pb b4),(4,pb b5),(5,iv y6.1),(17,.bool true),(25,undef)] hF kr kr ⟨kr⟩ ⟨kr⟩ fun a hF=>?_
  refine rC 2 [(0,sv ad1 p0 cap2),(2,pb b4),(4,pb b5),(5,iv y6.1),(27,.bool true)] hF A9 fun a hF=>?_
  refine B4 [(0,sv ad1 p0 cap2),(2,pb b4),(4,pb b5),(5,iv y6.1),(27,.bool true),(28,undef)] hF kr kr ⟨kr⟩ ⟨kr⟩ fun a hF=>?_
  refine B4 [(0,sv ad1 p0 cap2),(2,pb b4),(4,pb b5),(5,iv y6.1),(27,.bool true),(28,undef),(29,undef)] hF kr kr ⟨kr⟩ ⟨kr⟩ fun a hF=>?_
  refine B4 [(0,sv ad1 p0 cap2),(2,pb b4),(4,pb b5),(5,iv y6.1),(27,.bool true),(28,undef),(30,undef)] hF kr kr ⟨kr⟩ ⟨kr⟩ fun a hF=>?_
  refine B4 [(0,sv ad1 p0 cap2),(2,pb b4),(4,pb b5),(5,iv y6.1),(27,.bool true),(28,undef),(31,undef)] hF kr kr ⟨kr⟩ ⟨kr⟩ fun a hF=>?_
  refine B4 [(0,sv ad1 p0 cap2),(2,pb b4),(4,pb b5),(5,iv y6.1),(27,.bool true),(32,undef)] hF kr kr ⟨kr⟩ ⟨kr⟩ fun a hF=>?_
  refine B4 [(0,sv ad1 p0 cap2),(2,pb b4),(4,pb b5),(5,iv y6.1),(27,.bool true),(32,undef),(33,undef)] hF kr kr ⟨kr⟩ ⟨kr⟩ fun a hF=>?_
  refine B4 [(2,pb b4),(4,pb b5),(5,iv y6.1),(27,.bool true),(32,undef),(33,undef),(34,undef)] hF kr kr ⟨kr⟩ ⟨kr⟩ fun a hF=>?_
  refine B4 [(2,pb b4),(4,pb b5),(5,iv y6.1),(27,.bool true),(32,undef),(33,undef),(35,undef)] hF kr kr ⟨kr⟩ ⟨kr⟩ fun a hF=>?_
  refine B4 [(2,pb b4),(4,pb b5),(5,iv y6.1),(27,.bool true),(32,undef),(33,undef),(36,undef)] hF kr kr ⟨kr⟩ ⟨kr⟩ fun a hF=>?_
  refine B4 [(2,pb b4),(4,pb b5),(5,iv y6.1),(27,.bool true),(32,undef),(37,undef)] hF kr kr ⟨kr⟩ ⟨kr⟩ fun a hF=>?_
  refine WRun.fin ?_
  refine all_cons ?_ B8
  refine Gi [(2,pb b4),(4,pb b5),(5,iv y6.1),(27,.bool true),(32,undef),(38,undef)] hF kr ⟨kr⟩ ⟨kr⟩ fun a hF=>?_
  refine ⟨⟨St.pick [1,2] (by decide) hS,(hS.frz (i:=0) rfl hlow)⟩,?_⟩
  refine WT.s [] [26] kr kr ?_
  refine WRun.fin ?_
  refine all_cons ?_ B8
  refine Gi [(2,pb b4),(4,pb b5),(5,iv y6.1),(27,.bool true),(39,undef)] hF kr ⟨kr⟩ ⟨kr⟩ fun a hF=>?_
  refine ⟨⟨St.pick [1,2] (by decide) hS,(hS.frz (i:=0) rfl hlow)⟩,?_⟩
  refine WT.z [27,28] kr ?_
  refine B4 [(2,pb b4),(4,pb b5),(5,iv y6.1),(27,.bool true),(40,undef)] hF kr kr ⟨kr⟩ ⟨kr⟩ fun a hF=>?_
  refine rC 1 [(2,pb b4),(4,pb b5),(5,iv y6.1),(41,.bool true)] hF A9 fun a hF=>?_
  refine WRun.fin ?_
  refine wfn rfl ?_
  refine wpIn_cond_true (hF.get rfl) ?_
  refine esr ?_
  refine qn 1 1 [(42,.agg #[iv 0,.string ByteArray.empty,iv 0,.string ByteArray.empty,iv 0,iv 0,iv 0,iv 0,iv 0,iv 0,iv 0,iv 0,iv 0,.slice none 0 0,iv 0,iv 0,iv 0,iv 0,iv 0,.slice none 0 0,.string ByteArray.empty])] hF fun a hF=>?_
  refine SK.wi (qS 49 2 0 (.agg #[iv 0,.string ByteArray.empty,iv 0,.string ByteArray.empty,iv 0,iv 0,iv 0,iv 0,iv 0,iv 0,iv 0,iv 0,iv 0,.slice none 0 0,iv 0,iv 0,iv 0,iv 0,iv 0,.slice none 0 0,.string ByteArray.empty]) #[iv 0,.string ByteArray.empty,iv 0,.string ByteArray.empty,iv 0,iv 0,iv 0,iv 0,iv 0,iv 0,iv 0,iv 0,iv 0,.slice none 0 0,iv 0,iv 0,iv 0,iv 0,iv 0,.slice none 0 0,.string ByteArray.empty] hF hS rfl fun w a hF hS=>?_)
  refine qn 1 3 [(3,iv 15)] hF fun a hF=>?_
  refine wfn rfl ?_
  refine wpIn_ret (A5<|Ab [.cell 2 49,.tmp 3] [.agg #[iv 0,.string ByteArray.empty,iv 0,.string ByteArray.empty,iv 0,iv 0,iv 0,iv 0,iv 0,iv 0,iv 0,iv 0,iv 0,.slice none 0 0,iv 0,iv 0,iv 0,iv 0,iv 0,.slice none 0 0,.string ByteArray.empty],iv 15] hF rfl ⟨⟨_,rfl,De (cs:=[iv 0,.string ByteArray.empty,iv 0,.string ByteArray.empty,iv 0,iv 0,iv 0,iv 0,iv 0,iv 0,iv 0,iv 0,iv 0,.slice none 0 0,iv 0,iv 0,iv 0,iv 0,iv 0,.slice none 0 0,.string ByteArray.empty]) kr ((hS.blk (i:=2) rfl).cells rfl)⟩,rfl,trivial⟩ ?_)
  obtain rfl:=Ao h
  exact ⟨_,rfl,ν7,none,0,[],none,0,hext,rfl,ArrQ.nil,ArrM.nil,St.pick [0] (by decide) hS⟩
 ·replace h:=Af h a9
  rw [a9] at hF
  obtain ⟨aI,b0,h⟩:=A1 h
  refine qC 10 [(27,.bool ((ln y6.2.b) != aI))] hF (oX (.run [⟨17,false,false⟩] (Instr.loadAt 22 (pb b5)) (sv a8 y6.2.b a4)) (ob1 kr (fun _ hd=>hd.1.cell (i:=0) (j:=0) rfl rfl))<|oX (.run [⟨17,false,false⟩] (binOp .add 3 (iv y6.1) (iv 5)) (iv aI)) (Px (fun _=>b0))<|A9) fun a hF=>?_
  rcases Bool.eq_false_or_eq_true (((ln y6.2.b) != aI)) with aA|aA
  ·replace h:=Ag h aA
   rw [aA] at hF
   refine B4 [(0,sv ad1 p0 cap2),(2,pb b4),(4,pb b5),(5,iv y6.1),(27,.bool true),(28,undef)] hF kr kr ⟨kr⟩ ⟨kr⟩ fun a hF=>?_
   refine B4 [(0,sv ad1 p0 cap2),(2,pb b4),(4,pb b5),(5,iv y6.1),(27,.bool true),(28,undef),(29,undef)] hF kr kr ⟨kr⟩ ⟨kr⟩ fun a hF=>?_
   refine B4 [(0,sv ad1 p0 cap2),(2,pb b4),(4,pb b5),(5,iv y6.1),(27,.bool true),(28,undef),(30,undef)] hF kr kr ⟨kr⟩ ⟨kr⟩ fun a hF=>?_
   refine B4 [(0,sv ad1 p0 cap2),(2,pb b4),(4,pb b5),(5,iv y6.1),(27,.bool true),(28,undef),(31,undef)] hF kr kr ⟨kr⟩ ⟨kr⟩ fun a hF=>?_
   refine B4 [(0,sv ad1 p0 cap2),(2,pb b4),(4,pb b5),(5,iv y6.1),(27,.bool true),(32,undef)] hF kr kr ⟨kr⟩ ⟨kr⟩ fun a hF=>?_
   refine B4 [(0,sv ad1 p0 cap2),(2,pb b4),(4,pb b5),(5,iv y6.1),(27,.bool true),(32,undef),(33,undef)] hF kr kr ⟨kr⟩ ⟨kr⟩ fun a hF=>?_
   refine B4 [(2,pb b4),(4,pb b5),(5,iv y6.1),(27,.bool true),(32,undef),(33,undef),(34,undef)] hF kr kr ⟨kr⟩ ⟨kr⟩ fun a hF=>?_
   refine B4 [(2,pb b4),(4,pb b5),(5,iv y6.1),(27,.bool true),(32,undef),(33,undef),(35,undef)] hF kr kr ⟨kr⟩ ⟨kr⟩ fun a hF=>?_
   refine B4 [(2,pb b4),(4,pb b5),(5,iv y6.1),(27,.bool true),(32,undef),(33,undef),(36,undef)] hF kr kr ⟨kr⟩ ⟨kr⟩ fun a hF=>?_
   refine B4 [(2,pb b4),(4,pb b5),(5,iv y6.1),(27,.bool true),(32,undef),(37,undef)] hF kr kr ⟨kr⟩ ⟨kr⟩ fun a hF=>?_
   refine WRun.fin ?_
   refine all_cons ?_ B8
   refine Gi [(2,pb b4),(4,pb b5),(5,iv y6.1),(27,.bool true),(32,undef),(38,undef)] hF kr ⟨kr⟩ ⟨kr⟩ fun a hF=>?_
   refine ⟨⟨St.pick [1,2] (by decide) hS,(hS.frz (i:=0) rfl hlow)⟩,?_⟩
   refine WT.s [] [26] kr kr ?_
   refine WRun.fin ?_
   refine all_cons ?_ B8
   refine Gi [(2,pb b4),(4,pb b5),(5,iv y6.1),(27,.bool true),(39,undef)] hF kr ⟨kr⟩ ⟨kr⟩ fun a hF=>?_
   refine ⟨⟨St.pick [1,2] (by decide) hS,(hS.frz (i:=0) rfl hlow)⟩,?_⟩
   refine WT.z [27,28] kr ?_
   refine B4 [(2,pb b4),(4,pb b5),(5,iv y6.1),(27,.bool true),(40,undef)] hF kr kr ⟨kr⟩ ⟨kr⟩ fun a hF=>?_
   refine rC 1 [(2,pb b4),(4,pb b5),(5,iv y6.1),(41,.bool true)] hF A9 fun a hF=>?_
   refine WRun.fin ?_
   refine wfn rfl ?_
   refine wpIn_cond_true (hF.get rfl) ?_
   refine esr ?_
   refine qn 1 1 [(42,.agg #[iv 0,.string ByteArray.empty,iv 0,.string ByteArray.empty,iv 0,iv 0,iv 0,iv 0,iv 0,iv 0,iv 0,iv 0,iv 0,.slice none 0 0,iv 0,iv 0,iv 0,iv 0,iv 0,.slice none 0 0,.string ByteArray.empty])] hF fun a hF=>?_
   refine SK.wi (qS 49 2 0 (.agg #[iv 0,.string ByteArray.empty,iv 0,.string ByteArray.empty,iv 0,iv 0,iv 0,iv 0,iv 0,iv 0,iv 0,iv 0,iv 0,.slice none 0 0,iv 0,iv 0,iv 0,iv 0,iv 0,.slice none 0 0,.string ByteArray.empty]) #[iv 0,.string ByteArray.empty,iv 0,.string ByteArray.empty,iv 0,iv 0,iv 0,iv 0,iv 0,iv 0,iv 0,iv 0,iv 0,.slice none 0 0,iv 0,iv 0,iv 0,iv 0,iv 0,.slice none 0 0,.string ByteArray.empty] hF hS rfl fun w a hF hS=>?_)
   refine qn 1 3 [(3,iv 15)] hF fun a hF=>?_
   refine wfn rfl ?_
   refine wpIn_ret (A5<|Ab [.cell 2 49,.tmp 3] [.agg #[iv 0,.string ByteArray.empty,iv 0,.string ByteArray.empty,iv 0,iv 0,iv 0,iv 0,iv 0,iv 0,iv 0,iv 0,iv 0,.slice none 0 0,iv 0,iv 0,iv 0,iv 0,iv 0,.slice none 0 0,.string ByteArray.empty],iv 15] hF rfl ⟨⟨_,rfl,De (cs:=[iv 0,.string ByteArray.empty,iv 0,.string ByteArray.empty,iv 0,iv 0,iv 0,iv 0,iv 0,iv 0,iv 0,iv 0,iv 0,.slice none 0 0,iv 0,iv 0,iv 0,iv 0,iv 0,.slice none 0 0,.string ByteArray.empty]) kr ((hS.blk (i:=2) rfl).cells rfl)⟩,rfl,trivial⟩ ?_)
   obtain rfl:=Ao h
   exact ⟨_,rfl,ν7,none,0,[],none,0,hext,rfl,ArrQ.nil,ArrM.nil,St.pick [0] (by decide) hS⟩
  ·replace h:=Af h aA
   rw [aA] at hF
   obtain ⟨a1,b1,h⟩:=A1 h
   obtain ⟨aC,aP,h⟩:=A1 h
   have aE:ArrM ν7 1 (fK .u8) (Aq ad1 cap2 a1.toNat 1) (cap2-a1.toNat) aC:=fun w_ hw_=>(hA3 w_ hw_).cutD (Bc .u8) aP
   obtain ⟨aU,b2,h⟩:=A1 h
   obtain ⟨aD,aQ,h⟩:=A1 h
   have aF:ArrM ν7 1 (fK .u8) (Aq ad1 cap2 (0:Int).toNat 1) (cap2-(0:Int).toNat) aD:=fun w_ hw_=>(hA3 w_ hw_).cutD (Bc .u8) aQ
   refine Vp (rest:=[]) (obs:=[.run [⟨27,false,false⟩] (binOp .sub 3 (iv (ln p0)) (iv 5)) (iv a1),.run [⟨27,false,false⟩] (Instr.sliceAt 22 (sv ad1 p0 cap2) (some (iv a1)) none none) (.slice (Aq ad1 cap2 a1.toNat 1) aC.length (cap2-a1.toNat)),.run [⟨27,false,false⟩] (binOp .sub 3 (iv (ln p0)) (iv 5)) (iv aU),.run [⟨27,false,false⟩] (Instr.sliceAt 22 (sv ad1 p0 cap2) none (some (iv aU)) none) (.slice (Aq ad1 cap2 (0:Int).toNat 1) aD.length (cap2-(0:Int).toNat))]) [15,16,17,18,19,20,21,22,23,24] [(2,⟨[],pb b4⟩),(4,⟨[],pb b5⟩),(5,⟨[],iv y6.1⟩),(27,⟨[],.bool false⟩),(32,⟨[⟨27,false,false⟩],.slice (Aq ad1 cap2 a1.toNat 1) aC.length (cap2-a1.toNat)⟩),(37,⟨[⟨27,false,false⟩],.slice (Aq ad1 cap2 (0:Int).toNat 1) aD.length (cap2-(0:Int).toNat)⟩)] hF kr kr (G9 (R4 (fun _=>b1)) (G9 (Kq kr (hA3 _ (hS.frz (i:=0) rfl hlow)) (fun _=>aP)) (G9 (R4 (fun _=>b2)) (G9 (Nx kr (hA3 _ (hS.frz (i:=0) rfl hlow)) (fun _=>aQ)) A9)))) ⟨kr⟩ kr fun a hF=>?_
   replace hF:Fr 57 [] [(2,pb b4),(4,pb b5),(5,iv y6.1),(27,.bool false),(32,.slice (Aq ad1 cap2 a1.toNat 1) aC.length (cap2-a1.toNat)),(37,.slice (Aq ad1 cap2 (0:Int).toNat 1) aD.length (cap2-(0:Int).toNat))] a:=hF
   refine WRun.fin ?_
   refine all_cons ?_ B8
   obtain ⟨bA,b3,h⟩:=A1 h
   refine qR (fun aS=>[(38,aS)]) hF (Uv F _ _ b3 (Fs w) w (Ae w) (aF.mono (FrzAt.le_mem (hS.frz (i:=0) rfl hlow)))) ?_
   rintro aS w a ⟨b8,b9,rfl,hQ⟩ hF
   replace hS:=hS.madeL hQ
   refine ⟨⟨St.pick [2,3] (by decide) hS,(hS.frz (i:=1) rfl hlow)⟩,?_⟩
   refine WT.s [] [26] kr kr ?_
   refine WRun.fin ?_
   refine all_cons ?_ B8
   obtain ⟨aV,b6,h⟩:=A1 h
   refine V7 [(2,pb b4),(4,pb b5),(5,iv y6.1),(27,.bool false),(39,.bool aV)] hF kr ⟨kr⟩ (U1 F _ _ _ b6 (Fs w) w (Ae w) (aE.mono (FrzAt.le_mem (hS.frz (i:=1) rfl hlow))) (Arr.toM (hS.arr (i:=0) rfl))) ⟨kr⟩ ?_
   intro w a hx hF
   replace hS:=hS.later hx
   refine ⟨⟨St.pick [2,3] (by decide) hS,(hS.frz (i:=1) rfl hlow)⟩,?_⟩
   refine WT.z [27,28] kr ?_
   refine rC 2 [(2,pb b4),(4,pb b5),(5,iv y6.1),(41,.bool (!aV))] hF A9 fun a hF=>?_
   refine WRun.fin ?_
   refine wfn rfl ?_
   refine Ai hF rfl (fun hc=>?_) (fun hc=>?_)
   ·replace h:=Ag h hc
    refine esr ?_
    refine qn 1 1 [(42,.agg #[iv 0,.string ByteArray.empty,iv 0,.string ByteArray.empty,iv 0,iv 0,iv 0,iv 0,iv 0,iv 0,iv 0,iv 0,iv 0,.slice none 0 0,iv 0,iv 0,iv 0,iv 0,iv 0,.slice none 0 0,.string ByteArray.empty])] hF fun a hF=>?_
    refine SK.wi (qS 49 3 0 (.agg #[iv 0,.string ByteArray.empty,iv 0,.string ByteArray.empty,iv 0,iv 0,iv 0,iv 0,iv 0,iv 0,iv 0,iv 0,iv 0,.slice none 0 0,iv 0,iv 0,iv 0,iv 0,iv 0,.slice none 0 0,.string ByteArray.empty]) #[iv 0,.string ByteArray.empty,iv 0,.string ByteArray.empty,iv 0,iv 0,iv 0,iv 0,iv 0,iv 0,iv 0,iv 0,iv 0,.slice none 0 0,iv 0,iv 0,iv 0,iv 0,iv 0,.slice none 0 0,.string ByteArray.empty] hF hS rfl fun w a hF hS=>?_)
    refine qn 1 3 [(3,iv 15)] hF fun a hF=>?_
    refine wfn rfl ?_
    refine wpIn_ret (A5<|Ab [.cell 2 49,.tmp 3] [.agg #[iv 0,.string ByteArray.empty,iv 0,.string ByteArray.empty,iv 0,iv 0,iv 0,iv 0,iv 0,iv 0,iv 0,iv 0,iv 0,.slice none 0 0,iv 0,iv 0,iv 0,iv 0,iv 0,.slice none 0 0,.string ByteArray.empty],iv 15] hF rfl ⟨⟨_,rfl,De (cs:=[iv 0,.string ByteArray.empty,iv 0,.string ByteArray.empty,iv 0,iv 0,iv 0,iv 0,iv 0,iv 0,iv 0,iv 0,iv 0,.slice none 0 0,iv 0,iv 0,iv 0,iv 0,iv 0,.slice none 0 0,.string ByteArray.empty]) kr ((hS.blk (i:=3) rfl).cells rfl)⟩,rfl,trivial⟩ ?_)
    obtain rfl:=Ao h
    exact ⟨_,rfl,ν7,none,0,[],none,0,hext,rfl,ArrQ.nil,ArrM.nil,St.pick [1] (by decide) hS⟩
   ·replace h:=Af h hc
    refine wpIn_skip (A0 ?_)
    refine esr ?_
    obtain ⟨aH,aR,h⟩:=A1 h
    have aG:ArrM ν7 1 (fK .u8) (Aq a8 a4 (0:Int).toNat 1) (a4-(0:Int).toNat) aH:=fun w_ hw_=>(aB w_ hw_).cutD (Bc .u8) aR
    refine qo 6 6 [(49,.slice (Aq a8 a4 (0:Int).toNat 1) aH.length (a4-(0:Int).toNat))] hF (oL 22 2 0 hS.i rfl rfl<|oX (.run [] (Instr.sliceAt 22 (sv a8 y6.2.b a4) none (some (iv y6.1)) none) (.slice (Aq a8 a4 (0:Int).toNat 1) aH.length (a4-(0:Int).toNat))) (Nx kr (aB _ (hS.frz (i:=1) rfl hlow)) (fun _=>aR))<|A9) fun a hF=>?_
    obtain ⟨a0,b7,h⟩:=A1 h
    refine SK.wi (qR (fun aT=>[(50,aT)]) hF (U2 F _ _ b7 ν7 w (hS.frz (i:=1) rfl hlow) aG) ?_)
    rintro aT w a ⟨ν33,a2,a5,aW,a3,a6,a7,rfl,aY,aZ,hQ⟩ hF
    replace hext:=Frz.ext_trans hext (Frz.ext_mono a7 hS.ext.size)
    obtain ⟨hlow,hS⟩:=hS.frzMerge (i:=1) rfl hlow a7 hQ
    replace hA3:=hA3.mono a7.1
    replace aB:=aB.mono a7.1
    replace aE:=aE.mono a7.1
    replace aF:=aF.mono a7.1
    replace aG:=aG.mono a7.1
    replace aO:=Frz.le_trans aO a7.1
    refine qn 3 10 [(51,.agg #[iv a0.1.Kind,.string a0.1.Name,iv a0.1.Time,.string a0.1.Sweep.Site.Name,iv a0.1.Sweep.Site.X,iv a0.1.Sweep.Site.Y,iv a0.1.Sweep.Site.Z,iv a0.1.Sweep.Site.Rose,iv a0.1.Sweep.Site.Gates,iv a0.1.Sweep.Site.Step,iv a0.1.Sweep.Site.Width,iv a0.1.Sweep.Tilt,iv a0.1.Sweep.Time,sv a2 a0.1.Sweep.Rays a5,iv a0.1.Field.Grid.X,iv a0.1.Field.Grid.Y,iv a0.1.Field.Grid.Size,iv a0.1.Field.Grid.Wide,iv a0.1.Field.Grid.High,sv a3 a0.1.Field.Vals a6,.string a0.1.Text]),(52,.bool a0.2)] hF fun a hF=>?_
    refine SK.wi (qA 49 #[iv 0,.string ByteArray.empty,iv 0,.string ByteArray.empty,iv 0,iv 0,iv 0,iv 0,iv 0,iv 0,iv 0,iv 0,iv 0,.slice none 0 0,iv 0,iv 0,iv 0,iv 0,iv 0,.slice none 0 0,.string ByteArray.empty] (fun aL=>[(6,pb aL)]) hF hS fun aL w a hF hS=>?_)
    refine SK.wi (qS 49 0 0 (.agg #[iv a0.1.Kind,.string a0.1.Name,iv a0.1.Time,.string a0.1.Sweep.Site.Name,iv a0.1.Sweep.Site.X,iv a0.1.Sweep.Site.Y,iv a0.1.Sweep.Site.Z,iv a0.1.Sweep.Site.Rose,iv a0.1.Sweep.Site.Gates,iv a0.1.Sweep.Site.Step,iv a0.1.Sweep.Site.Width,iv a0.1.Sweep.Tilt,iv a0.1.Sweep.Time,sv a2 a0.1.Sweep.Rays a5,iv a0.1.Field.Grid.X,iv a0.1.Field.Grid.Y,iv a0.1.Field.Grid.Size,iv a0.1.Field.Grid.Wide,iv a0.1.Field.Grid.High,sv a3 a0.1.Field.Vals a6,.string a0.1.Text]) #[iv a0.1.Kind,.string a0.1.Name,iv a0.1.Time,.string a0.1.Sweep.Site.Name,iv a0.1.Sweep.Site.X,iv a0.1.Sweep.Site.Y,iv a0.1.Sweep.Site.Z,iv a0.1.Sweep.Site.Rose,iv a0.1.Sweep.Site.Gates,iv a0.1.Sweep.Site.Step,iv a0.1.Sweep.Site.Width,iv a0.1.Sweep.Tilt,iv a0.1.Sweep.Time,sv a2 a0.1.Sweep.Rays a5,iv a0.1.Field.Grid.X,iv a0.1.Field.Grid.Y,iv a0.1.Field.Grid.Size,iv a0.1.Field.Grid.Wide,iv a0.1.Field.Grid.High,sv a3 a0.1.Field.Vals a6,.string a0.1.Text] hF hS rfl fun w a hF hS=>?_)
    refine qn 1 13 [(7,.bool a0.2)] hF fun a hF=>?_
    refine wfn rfl ?_
    refine Ar ?_
    refine qnB [(54,.bool (!a0.2))] hF fun a hF=>?_
    refine Ai hF rfl (fun hc=>?_) (fun hc=>?_)
    ·replace h:=Ag h hc
     refine esr ?_
     refine qn 1 1 [(55,.agg #[iv 0,.string ByteArray.empty,iv 0,.string ByteArray.empty,iv 0,iv 0,iv 0,iv 0,iv 0,iv 0,iv 0,iv 0,iv 0,.slice none 0 0,iv 0,iv 0,iv 0,iv 0,iv 0,.slice none 0 0,.string ByteArray.empty])] hF fun a hF=>?_
     refine SK.wi (qS 49 4 0 (.agg #[iv 0,.string ByteArray.empty,iv 0,.string ByteArray.empty,iv 0,iv 0,iv 0,iv 0,iv 0,iv 0,iv 0,iv 0,iv 0,.slice none 0 0,iv 0,iv 0,iv 0,iv 0,iv 0,.slice none 0 0,.string ByteArray.empty]) #[iv 0,.string ByteArray.empty,iv 0,.string ByteArray.empty,iv 0,iv 0,iv 0,iv 0,iv 0,iv 0,iv 0,iv 0,iv 0,.slice none 0 0,iv 0,iv 0,iv 0,iv 0,iv 0,.slice none 0 0,.string ByteArray.empty] hF hS rfl fun w a hF hS=>?_)
     refine qn 1 3 [(3,iv 7)] hF fun a hF=>?_
     refine wfn rfl ?_
     refine wpIn_ret (A5<|Ab [.cell 2 49,.tmp 3] [.agg #[iv 0,.string ByteArray.empty,iv 0,.string ByteArray.empty,iv 0,iv 0,iv 0,iv 0,iv 0,iv 0,iv 0,iv 0,iv 0,.slice none 0 0,iv 0,iv 0,iv 0,iv 0,iv 0,.slice none 0 0,.string ByteArray.empty],iv 7] hF rfl ⟨⟨_,rfl,De (cs:=[iv 0,.string ByteArray.empty,iv 0,.string ByteArray.empty,iv 0,iv 0,iv 0,iv 0,iv 0,iv 0,iv 0,iv 0,iv 0,.slice none 0 0,iv 0,iv 0,iv 0,iv 0,iv 0,.slice none 0 0,.string ByteArray.empty]) kr ((hS.blk (i:=4) rfl).cells rfl)⟩,rfl,trivial⟩ ?_)
     obtain rfl:=Ao h
     exact ⟨_,rfl,ν33,none,0,[],none,0,hext,rfl,ArrQ.nil,ArrM.nil,St.pick [2] (by decide) hS⟩
    ·replace h:=Af h hc
     refine wpIn_skip (A0 ?_)
     refine esr ?_
     refine qo 1 1 [(56,.agg #[iv a0.1.Kind,.string a0.1.Name,iv a0.1.Time,.string a0.1.Sweep.Site.Name,iv a0.1.Sweep.Site.X,iv a0.1.Sweep.Site.Y,iv a0.1.Sweep.Site.Z,iv a0.1.Sweep.Site.Rose,iv a0.1.Sweep.Site.Gates,iv a0.1.Sweep.Site.Step,iv a0.1.Sweep.Site.Width,iv a0.1.Sweep.Tilt,iv a0.1.Sweep.Time,sv a2 a0.1.Sweep.Rays a5,iv a0.1.Field.Grid.X,iv a0.1.Field.Grid.Y,iv a0.1.Field.Grid.Size,iv a0.1.Field.Grid.Wide,iv a0.1.Field.Grid.High,sv a3 a0.1.Field.Vals a6,.string a0.1.Text])] hF (oN 49 0 0 21 hS.i rfl<|A9) fun a hF=>?_
     refine SK.wi (qS 49 4 0 (.agg #[iv a0.1.Kind,.string a0.1.Name,iv a0.1.Time,.string a0.1.Sweep.Site.Name,iv a0.1.Sweep.Site.X,iv a0.1.Sweep.Site.Y,iv a0.1.Sweep.Site.Z,iv a0.1.Sweep.Site.Rose,iv a0.1.Sweep.Site.Gates,iv a0.1.Sweep.Site.Step,iv a0.1.Sweep.Site.Width,iv a0.1.Sweep.Tilt,iv a0.1.Sweep.Time,sv a2 a0.1.Sweep.Rays a5,iv a0.1.Field.Grid.X,iv a0.1.Field.Grid.Y,iv a0.1.Field.Grid.Size,iv a0.1.Field.Grid.Wide,iv a0.1.Field.Grid.High,sv a3 a0.1.Field.Vals a6,.string a0.1.Text]) #[iv a0.1.Kind,.string a0.1.Name,iv a0.1.Time,.string a0.1.Sweep.Site.Name,iv a0.1.Sweep.Site.X,iv a0.1.Sweep.Site.Y,iv a0.1.Sweep.Site.Z,iv a0.1.Sweep.Site.Rose,iv a0.1.Sweep.Site.Gates,iv a0.1.Sweep.Site.Step,iv a0.1.Sweep.Site.Width,iv a0.1.Sweep.Tilt,iv a0.1.Sweep.Time,sv a2 a0.1.Sweep.Rays a5,iv a0.1.Field.Grid.X,iv a0.1.Field.Grid.Y,iv a0.1.Field.Grid.Size,iv a0.1.Field.Grid.Wide,iv a0.1.Field.Grid.High,sv a3 a0.1.Field.Vals a6,.string a0.1.Text] hF hS rfl fun w a hF hS=>?_)
     refine qn 1 3 [(3,iv 0)] hF fun a hF=>?_
     refine wfn rfl ?_
     refine wpIn_ret (Ab [.cell 2 49,.tmp 3] [.agg #[iv a0.1.Kind,.string a0.1.Name,iv a0.1.Time,.string a0.1.Sweep.Site.Name,iv a0.1.Sweep.Site.X,iv a0.1.Sweep.Site.Y,iv a0.1.Sweep.Site.Z,iv a0.1.Sweep.Site.Rose,iv a0.1.Sweep.Site.Gates,iv a0.1.Sweep.Site.Step,iv a0.1.Sweep.Site.Width,iv a0.1.Sweep.Tilt,iv a0.1.Sweep.Time,sv a2 a0.1.Sweep.Rays a5,iv a0.1.Field.Grid.X,iv a0.1.Field.Grid.Y,iv a0.1.Field.Grid.Size,iv a0.1.Field.Grid.Wide,iv a0.1.Field.Grid.High,sv a3 a0.1.Field.Vals a6,.string a0.1.Text],iv 0] hF rfl ⟨⟨_,rfl,De (cs:=[iv a0.1.Kind,.string a0.1.Name,iv a0.1.Time,.string a0.1.Sweep.Site.Name,iv a0.1.Sweep.Site.X,iv a0.1.Sweep.Site.Y,iv a0.1.Sweep.Site.Z,iv a0.1.Sweep.Site.Rose,iv a0.1.Sweep.Site.Gates,iv a0.1.Sweep.Site.Step,iv a0.1.Sweep.Site.Width,iv a0.1.Sweep.Tilt,iv a0.1.Sweep.Time,sv a2 a0.1.Sweep.Rays a5,iv a0.1.Field.Grid.X,iv a0.1.Field.Grid.Y,iv a0.1.Field.Grid.Size,iv a0.1.Field.Grid.Wide,iv a0.1.Field.Grid.High,sv a3 a0.1.Field.Vals a6,.string a0.1.Text]) kr ((hS.blk (i:=4) rfl).cells rfl)⟩,rfl,trivial⟩ ?_)
     obtain rfl:=Ao h
     exact ⟨_,rfl,ν33,a2,a5,aW,a3,a6,hext,rfl,aY,aZ,St.pick [2] (by decide) hS⟩
theorem U0 (F:Nat) (p0:(List Int)) (res:((List ref12_Item)×Int×Int)) (h:J6 F p0=some res) (μ:Frz) (w0:World) (hm:FrzAt μ w0) {ad1:Option Addr} {cap2:Nat} (hA3:ArrM μ 1 (fK .u8) ad1 cap2 p0):Bu Tryz.prog 10 #[sv ad1 p0 cap2] w0 (fun e w=>∃(ν_:Frz) (zad0:Option Addr) (zcap0:Nat) (zcss0:List (List Value)),μ.ext w0.heap.size ν_∧e=(.tuple #[sv zad0 res.1 zcap0,iv res.2.1,iv res.2.2])∧All2 (Rp49 ν_) zcss0 res.1∧St w0 [fz w0 ν_,arr 49 21 (fN 21) zad0 res.1.length zcap0 zcss0] w):=by
 obtain ⟨hlow,hS⟩:=hm.init
 have hext:=Frz.ext_refl w0.heap.size μ
 rw [J6] at h
 refine Ah Tryz.func10 rfl 91 [(0,sv ad1 p0 cap2)] rfl rfl kr fun a w hw hF=>?_
 replace hS:=hS.cast hw
 clear hw
 refine qnB [] hF fun a hF=>?_
 refine Ar ?_
 refine qnB [(14,.bool (decide ((ln p0)>16777216)))] hF fun a hF=>?_
 refine Ai hF rfl (fun hc=>?_) (fun hc=>?_)
 ·replace h:=Ag h hc
  refine rnB [(2,.slice none 0 0),(3,iv 0),(4,iv 8)] hF fun a hF=>?_
  refine wpIn_ret (A5<|Ab [.tmp 2,.tmp 3,.tmp 4] [.slice none 0 0,iv 0,iv 8] hF rfl ⟨rfl,rfl,rfl,trivial⟩ ?_)
  obtain rfl:=Ao h
  replace hS:=hS.nilarr 49 21 (fN 21)
  exact ⟨_,rfl,μ,_,_,_,hext,rfl,All2.nil,St.pick [1,0] (by decide) hS⟩
 ·replace h:=Af h hc
  refine wpIn_skip (A0 ?_)
  refine qnB [(5,iv 4)] hF fun a hF=>?_
  refine Ar ?_
  refine esr ?_
  refine qn 5 5 [(19,.bool (decide ((ln p0)<4)))] hF fun a hF=>?_
  rcases Bool.eq_false_or_eq_true ((decide ((ln p0)<4))) with hg4|hg4
  ·replace h:=Ag h hg4
   rw [hg4] at hF
   refine Be 6 [(0,sv ad1 p0 cap2),(5,iv 4),(19,.bool true),(20,undef)] hF kr ⟨kr⟩ ⟨kr⟩ rfl fun a hF=>?_
   refine Be 7 [(0,sv ad1 p0 cap2),(5,iv 4),(19,.bool true),(20,undef),(21,undef)] hF kr ⟨kr⟩ ⟨kr⟩ rfl fun a hF=>?_
   refine Be 8 [(0,sv ad1 p0 cap2),(5,iv 4),(19,.bool true),(22,undef)] hF kr ⟨kr⟩ ⟨kr⟩ rfl fun a hF=>?_
   refine Be 9 [(0,sv ad1 p0 cap2),(5,iv 4),(19,.bool true),(23,undef)] hF kr ⟨kr⟩ ⟨kr⟩ rfl fun a hF=>?_
   refine Be 10 [(0,sv ad1 p0 cap2),(5,iv 4),(19,.bool true),(24,undef)] hF kr ⟨kr⟩ ⟨kr⟩ rfl fun a hF=>?_
   obtain ⟨u5,hu5,h⟩:=A1 h
   refine ro 14 24 [(0,sv ad1 p0 cap2),(5,iv 4),(38,.bool true)] hF (oX (.run [⟨31,true,(decide ((ln p0)>4))⟩,⟨26,false,true⟩] (Instr.indexAt 22 (sv ad1 p0 cap2) (iv 4)) (.pointer (some (Bj ad1 4 1)))) (Hs (hA3 _ (hS.frz (i:=0) rfl hlow)) kr (fun hk=>C9 hu5 hk))<|oX (.run [⟨31,true,(decide ((ln p0)>4))⟩,⟨26,false,true⟩] (Instr.loadAt 5 (.pointer (some (Bj ad1 4 1)))) (.int .u8 u5)) (Mx (i:=4) 0 (Bc .u8) (fun _ hd=>(hA3 _ ((hS.at_ hd).frz (i:=0) rfl hlow))) kr (fun hk=>C9 hu5 hk) rfl)<|A9) fun a hF=>?_
   refine wfn rfl ?_
   refine wpIn_cond_true (hF.get rfl) ?_
   refine rnB [(2,.slice none 0 0),(3,iv 0),(4,iv 7)] hF fun a hF=>?_
   refine wpIn_ret (A5<|Ab [.tmp 2,.tmp 3,.tmp 4] [.slice none 0 0,iv 0,iv 7] hF rfl ⟨rfl,rfl,rfl,trivial⟩ ?_)
   obtain rfl:=Ao h
   replace hS:=hS.nilarr 49 21 (fN 21)
   exact ⟨_,rfl,μ,_,_,_,hext,rfl,All2.nil,St.pick [1,0] (by decide) hS⟩
  ·replace h:=Af h hg4
   rw [hg4] at hF
   obtain ⟨l6,hl6,h⟩:=A1 h
   have hA7:ArrM μ 1 (fK .u8) (Aq ad1 cap2 (0:Int).toNat 1) (cap2-(0:Int).toNat) l6:=fun w_ hw_=>(hA3 w_ hw_).cutD (Bc .u8) hl6
   obtain ⟨u8,hu8,h⟩:=A1 h
   refine qo 19 24 [(38,.bool (bif (!(sEq (bst l6) (⟨#[82,86,70,49]⟩:ByteArray))) then true else (bif (decide ((ln p0)>4)) then (u8 != 0) else false)))] hF (oX (.run [⟨19,false,false⟩] (Instr.sliceAt 22 (sv ad1 p0 cap2) none (some (iv 4)) none) (.slice (Aq ad1 cap2 (0:Int).toNat 1) l6.length (cap2-(0:Int).toNat))) (Nx kr (hA3 _ (hS.frz (i:=0) rfl hlow)) (fun _=>hl6))<|oX (.run [⟨19,false,false⟩] (convert 22 9 (.slice (Aq ad1 cap2 (0:Int).toNat 1) l6.length (cap2-(0:Int).toNat))) (.string (bst l6))) (Vh kr kr (fun _ hd=>(hA7 _ ((hS.at_ hd).frz (i:=0) rfl hlow))))<|oX (.run [⟨19,false,false⟩] (Pe .neq 9 (bst l6) (⟨#[82,86,70,49]⟩:ByteArray)) (.bool (!(sEq (bst l6) (⟨#[82,86,70,49]⟩:ByteArray))))) Qp<|oX (.run [⟨31,true,(decide ((ln p0)>4))⟩,⟨26,false,(!(sEq (bst l6) (⟨#[82,86,70,49]⟩:ByteArray)))⟩] (Instr.indexAt 22 (sv ad1 p0 cap2) (iv 4)) (.pointer (some (Bj ad1 4 1)))) (Hs (hA3 _ (hS.frz (i:=0) rfl hlow)) kr (fun hk=>C9 hu8 hk))<|oX (.run [⟨31,true,(decide ((ln p0)>4))⟩,⟨26,false,(!(sEq (bst l6) (⟨#[82,86,70,49]⟩:ByteArray)))⟩] (Instr.loadAt 5 (.pointer (some (Bj ad1 4 1)))) (.int .u8 u8)) (Mx (i:=4) 0 (Bc .u8) (fun _ hd=>(hA3 _ ((hS.at_ hd).frz (i:=0) rfl hlow))) kr (fun hk=>C9 hu8 hk) rfl)<|A9) fun a hF=>?_
   refine wfn rfl ?_
   refine Ai hF rfl (fun hc=>?_) (fun hc=>?_)
   ·replace h:=Ag h hc
    refine rnB [(2,.slice none 0 0),(3,iv 0),(4,iv 7)] hF fun a hF=>?_
    refine wpIn_ret (A5<|Ab [.tmp 2,.tmp 3,.tmp 4] [.slice none 0 0,iv 0,iv 7] hF rfl ⟨rfl,rfl,rfl,trivial⟩ ?_)
    obtain rfl:=Ao h
    replace hS:=hS.nilarr 49 21 (fN 21)
    exact ⟨_,rfl,μ,_,_,_,hext,rfl,All2.nil,St.pick [1,0] (by decide) hS⟩
   ·replace h:=Af h hc
    refine wpIn_skip (A0 ?_)
    refine qnB [(6,.slice none 0 0)] hF fun a hF=>?_
    refine qnB [(7,iv 4)] hF fun a hF=>?_
    refine qnB [(8,iv 0)] hF fun a hF=>?_
    have aI:=Frz.le_refl μ
    refine Dg (fun a w=>∃(aE:(List ref12_Item)) (aO:Int) (aP:Int) (ν136:Frz) (aK:Option Addr) (aL:Nat) (aU:List (List Value)),Fr 91 [] [(6,sv aK aE aL),(7,iv aO),(8,iv aP)] a∧St w0 [arr 49 21 (fN 21) aK aE.length aL aU,fz w0 ν136] w∧(All2 (Rp49 ν136) aU aE)∧(μ.le ν136)∧(μ.ext w0.heap.size ν136)∧(Ay w0 ν136)∧Gh aE aO aP=some res) ?_ ?_
    ·skip
     refine wpIn_block ?_
     have aY:=Frz.le_refl μ
     replace hS:=hS.nilarr 49 21 (fN 21)
     refine Cq (fun n_ a w=>∃(a1:(List ref12_Item)) (a5:Int) (aJ:Int) (ν227:Frz) (a2:Option Addr) (a3:Nat) (aC:List (List Value)),Fr 91 [] [(0,sv ad1 p0 cap2),(6,sv a2 a1 a3),(7,iv a5),(8,iv aJ)] a∧St w0 [arr 49 21 (fN 21) a2 a1.length a3 aC,fz w0 ν227] w∧(All2 (Rp49 ν227) aC a1)∧(μ.le ν227)∧(μ.ext w0.heap.size ν227)∧(Ay w0 ν227)∧Ew F p0 n_ a1 a5 aJ=some res) F ⟨[],4,0,μ,none,0,[],hF.sub kr,St.pick [0,1] (by decide) hS,All2.nil,aY,hext,hlow,h⟩ ?_
     clear aY
     rintro nk2 a w ⟨a1,a5,aJ,ν227,a2,a3,aC,hF,hS,aN,aG,hext,hlow,h⟩
     rcases nk2 with _|nk2
     ·cases (show (none:Option ((List ref12_Item)×Int×Int))=some res from h)
     replace hA3:=hA3.mono aG
     replace hA7:=hA7.mono aG
     replace aI:=Frz.le_trans aI aG
     obtain ⟨k2,hk2⟩:∃k,k=Ew F p0 nk2:=⟨_,rfl⟩
     replace h:Hl F p0 k2 a1 a5 aJ=some res:=by rw [hk2];exact h
     rw [Hl] at h
     refine Ar ?_
     refine qnB [(47,.bool (bif (decide (a5<(ln p0))) then (aJ==0) else false))] hF fun a hF=>?_
     refine Ai hF rfl (fun hc=>?_) (fun hc=>?_)
     ·replace h:=Ag h hc
      refine wpIn_skip (A0 ?_)
      refine wpIn_block ?_
      refine esr ?_
      obtain ⟨bI,bC,h⟩:=A1 h
      obtain ⟨a4,bF,h⟩:=A1 h
      refine rX 5 5 [(0,sv ad1 p0 cap2),(6,sv a2 a1 a3),(7,iv a5),(9,iv a4)] hF (oA 3 bC<|oC (fun w2 hd=>P6 F p0 bI _ bF _ w2 (Ae w2) (hA3.mono (FrzAt.le_mem ((hS.later hd).frz (i:=1) rfl hlow))))<|A9) fun a w hF hx=>?_
      replace hS:=hS.later hx
      refine wfn rfl ?_
      refine esr ?_
      obtain ⟨aH,bD,h⟩:=A1 h
      obtain ⟨aW,aZ,h⟩:=A1 h
      have aV:ArrM ν227 1 (fK .u8) (Aq ad1 cap2 aH.toNat 1) (cap2-aH.toNat) aW:=fun w_ hw_=>(hA3 w_ hw_).cutD (Bc .u8) aZ
      refine qo 5 5 [(57,.slice (Aq ad1 cap2 aH.toNat 1) aW.length (cap2-aH.toNat))] hF (oA 3 bD<|oX (.run [] (Instr.sliceAt 22 (sv ad1 p0 cap2) (some (iv aH)) (some (iv a4)) none) (.slice (Aq ad1 cap2 aH.toNat 1) aW.length (cap2-aH.toNat))) (Rs kr (hA3 _ (hS.frz (i:=1) rfl hlow)) (fun _=>aZ))<|A9) fun a hF=>?_
      obtain ⟨a0,bG,h⟩:=A1 h
      refine SK.wi (qR (fun b4=>[(58,b4)]) hF (Q2 F _ _ bG ν227 w (hS.frz (i:=1) rfl hlow) aV) ?_)
      rintro b4 w a ⟨ν244,a6,a9,b6,a7,aA,aD,rfl,b7,b8,hQ⟩ hF
      replace hext:=Frz.ext_trans hext (Frz.ext_mono aD hS.ext.size)
      obtain ⟨hlow,hS⟩:=hS.frzMerge (i:=1) rfl hlow aD hQ
      replace hA3:=hA3.mono aD.1
      replace hA7:=hA7.mono aD.1
      replace aN:=All2.mono Rp49.mono aD.1 aN
      replace aV:=aV.mono aD.1
      replace aI:=Frz.le_trans aI aD.1
      replace aG:=Frz.le_trans aG aD.1
      refine qn 3 9 [(59,.agg #[iv a0.1.Kind,.string a0.1.Name,iv a0.1.Time,.string a0.1.Sweep.Site.Name,iv a0.1.Sweep.Site.X,iv a0.1.Sweep.Site.Y,iv a0.1.Sweep.Site.Z,iv a0.1.Sweep.Site.Rose,iv a0.1.Sweep.Site.Gates,iv a0.1.Sweep.Site.Step,iv a0.1.Sweep.Site.Width,iv a0.1.Sweep.Tilt,iv a0.1.Sweep.Time,sv a6 a0.1.Sweep.Rays a9,iv a0.1.Field.Grid.X,iv a0.1.Field.Grid.Y,iv a0.1.Field.Grid.Size,iv a0.1.Field.Grid.Wide,iv a0.1.Field.Grid.High,sv a7 a0.1.Field.Vals aA,.string a0.1.Text]),(60,iv a0.2)] hF fun a hF=>?_
      refine SK.wi (qA 49 #[iv 0,.string ByteArray.empty,iv 0,.string ByteArray.empty,iv 0,iv 0,iv 0,iv 0,iv 0,iv 0,iv 0,iv 0,iv 0,.slice none 0 0,iv 0,iv 0,iv 0,iv 0,iv 0,.slice none 0 0,.string ByteArray.empty] (fun a8=>[(10,pb a8)]) hF hS fun a8 w a hF hS=>?_)
      refine SK.wi (qS 49 0 0 (.agg #[iv a0.1.Kind,.string a0.1.Name,iv a0.1.Time,.string a0.1.Sweep.Site.Name,iv a0.1.Sweep.Site.X,iv a0.1.Sweep.Site.Y,iv a0.1.Sweep.Site.Z,iv a0.1.Sweep.Site.Rose,iv a0.1.Sweep.Site.Gates,iv a0.1.Sweep.Site.Step,iv a0.1.Sweep.Site.Width,iv a0.1.Sweep.Tilt,iv a0.1.Sweep.Time,sv a6 a0.1.Sweep.Rays a9,iv a0.1.Field.Grid.X,iv a0.1.Field.Grid.Y,iv a0.1.Field.Grid.Size,iv a0.1.Field.Grid.Wide,iv a0.1.Field.Grid.High,sv a7 a0.1.Field.Vals aA,.string a0.1.Text]) #[iv a0.1.Kind,.string a0.1.Name,iv a0.1.Time,.string a0.1.Sweep.Site.Name,iv a0.1.Sweep.Site.X,iv a0.1.Sweep.Site.Y,iv a0.1.Sweep.Site.Z,iv a0.1.Sweep.Site.Rose,iv a0.1.Sweep.Site.Gates,iv a0.1.Sweep.Site.Step,iv a0.1.Sweep.Site.Width,iv a0.1.Sweep.Tilt,iv a0.1.Sweep.Time,sv a6 a0.1.Sweep.Rays a9,iv a0.1.Field.Grid.X,iv a0.1.Field.Grid.Y,iv a0.1.Field.Grid.Size,iv a0.1.Field.Grid.Wide,iv a0.1.Field.Grid.High,sv a7 a0.1.Field.Vals aA,.string a0.1.Text] hF hS rfl fun w a hF hS=>?_)
      refine qn 1 12 [(11,iv a0.2)] hF fun a hF=>?_
      refine wfn rfl ?_
      refine Dg (fun a w=>∃(aB:Int),Fr 91 [] [(0,sv ad1 p0 cap2),(6,sv a2 a1 a3),(7,iv a5),(9,iv a4),(10,pb a8),(11,iv aB)] a∧St w0 [blk a8 49 #[iv a0.1.Kind,.string a0.1.Name,iv a0.1.Time,.string a0.1.Sweep.Site.Name,iv a0.1.Sweep.Site.X,iv a0.1.Sweep.Site.Y,iv a0.1.Sweep.Site.Z,iv a0.1.Sweep.Site.Rose,iv a0.1.Sweep.Site.Gates,iv a0.1.Sweep.Site.Step,iv a0.1.Sweep.Site.Width,iv a0.1.Sweep.Tilt,iv a0.1.Sweep.Time,sv a6 a0.1.Sweep.Rays a9,iv a0.1.Field.Grid.X,iv a0.1.Field.Grid.Y,iv a0.1.Field.Grid.Size,iv a0.1.Field.Grid.Wide,iv a0.1.Field.Grid.High,sv a7 a0.1.Field.Vals aA,.string a0.1.Text],arr 49 21 (fN 21) a2 a1.length a3 aC,fz w0 ν244] w∧Fu a1 a5 k2 a4 a0 aB=some res) ?_ ?_
      ·skip
       refine esr ?_
       refine qn 9 9 [(69,.bool (bif (a0.2 != 0) then (a4==(ln p0)) else false))] hF fun a hF=>?_
       rcases Bool.eq_false_or_eq_true ((bif (a0.2 != 0) then (a4==(ln p0)) else false)) with aM|aM
       ·replace h:=Ag h aM
        rw [aM] at hF
        obtain ⟨aF,bE,h⟩:=A1 h
        obtain ⟨aT,b1,h⟩:=A1 h
        have b9:ArrM ν244 1 (fK .u8) (Aq ad1 cap2 aF.toNat 1) (cap2-aF.toNat) aT:=fun w_ hw_=>(hA3 w_ hw_).cutD (Bc .u8) b1
        obtain ⟨b5,bH,h⟩:=A1 h
        refine qx 7 16 [(76,.bool b5)] hF (oX (.run [⟨69,true,true⟩] (binOp .add 3 (iv a5) (iv 1)) (iv aF)) (Px (fun _=>bE))<|oX (.run [⟨69,true,true⟩] (Instr.sliceAt 22 (sv ad1 p0 cap2) (some (iv aF)) (some (iv a4)) none) (.slice (Aq ad1 cap2 aF.toNat 1) aT.length (cap2-aF.toNat))) (Rs kr (hA3 _ (hS.frz (i:=2) rfl hlow)) (fun _=>b1))<|oX (.call [⟨69,true,true⟩] 40 #[.slice (Aq ad1 cap2 aF.toNat 1) aT.length (cap2-aF.toNat)] (.bool b5)) (show Ob.ok _ Ext _ _ from fun hk w2 hd=>U3 F aT _ ((fun _=>bH) hk) _ w2 (Ae w2) (b9.mono (FrzAt.le_mem ((hS.later hd).frz (i:=2) rfl hlow))))<|A9) fun a w hF hx=>?_
        replace hS:=hS.later hx
        refine wfn rfl ?_
        refine Ai hF rfl (fun hc=>?_) (fun hc=>?_)
        ·replace h:=Ag h hc
         refine WI.region ?_
         refine rn 1 1 [(0,sv ad1 p0 cap2),(6,sv a2 a1 a3),(7,iv a5),(9,iv a4),(10,pb a8),(11,iv 16)] hF fun a hF=>?_
         refine wfn rfl ?_
         exact ⟨16,hF.sub kr,St.pick [0,1,2] (by decide) hS,h⟩
        ·replace h:=Af h hc
         refine wpIn_skip (A0 ?_)
         exact ⟨a0.2,hF.sub kr,St.pick [0,1,2] (by decide) hS,h⟩
       ·replace h:=Af h aM
        rw [aM] at hF
        refine Be 10 [(0,sv ad1 p0 cap2),(6,sv a2 a1 a3),(7,iv a5),(9,iv a4),(10,pb a8),(11,iv a0.2),(69,.bool false),(70,undef)] hF kr ⟨kr⟩ ⟨kr⟩ rfl fun a hF=>?_
        refine Be 11 [(0,sv ad1 p0 cap2),(6,sv a2 a1 a3),(7,iv a5),(9,iv a4),(10,pb a8),(11,iv a0.2),(69,.bool false),(70,undef),(71,undef)] hF kr ⟨kr⟩ ⟨kr⟩ rfl fun a hF=>?_
        refine Be 12 [(0,sv ad1 p0 cap2),(6,sv a2 a1 a3),(7,iv a5),(9,iv a4),(10,pb a8),(11,iv a0.2),(69,.bool false),(70,undef),(72,undef)] hF kr ⟨kr⟩ ⟨kr⟩ rfl fun a hF=>?_
        refine Be 13 [(0,sv ad1 p0 cap2),(6,sv a2 a1 a3),(7,iv a5),(9,iv a4),(10,pb a8),(11,iv a0.2),(69,.bool false),(70,undef),(72,undef),(73,undef)] hF kr ⟨kr⟩ ⟨kr⟩ rfl fun a hF=>?_
        refine Be 14 [(0,sv ad1 p0 cap2),(6,sv a2 a1 a3),(7,iv a5),(9,iv a4),(10,pb a8),(11,iv a0.2),(69,.bool false),(74,undef)] hF kr ⟨kr⟩ ⟨kr⟩ rfl fun a hF=>?_
        refine Be 15 [(0,sv ad1 p0 cap2),(6,sv a2 a1 a3),(7,iv a5),(9,iv a4),(10,pb a8),(11,iv a0.2),(69,.bool false),(75,undef)] hF kr ⟨kr⟩ ⟨kr⟩ rfl fun a hF=>?_
        refine rn 1 16 [(0,sv ad1 p0 cap2),(6,sv a2 a1 a3),(7,iv a5),(9,iv a4),(10,pb a8),(11,iv a0.2),(76,.bool false)] hF fun a hF=>?_
        refine wfn rfl ?_
        refine wpIn_cond_false (hF.get rfl) ?_
        refine wpIn_skip (A0 ?_)
        exact ⟨a0.2,hF.sub kr,St.pick [0,1,2] (by decide) hS,h⟩
      rintro a w ⟨aB,hF,hS,h⟩
      rw [Fu] at h
      refine qnB [(8,iv aB)] hF fun a hF=>?_
      refine rnB [(0,sv ad1 p0 cap2),(6,sv a2 a1 a3),(7,iv a5),(8,iv aB),(9,iv a4),(10,pb a8),(79,.bool (aB==0))] hF fun a hF=>?_
      refine Ai hF rfl (fun hc=>?_) (fun hc=>?_)
      ·replace h:=Ag h hc
       refine esr ?_
       refine ro 2 2 [(0,sv ad1 p0 cap2),(6,sv a2 a1 a3),(8,iv aB),(9,iv a4),(80,sv a2 a1 a3),(81,.agg #[iv a0.1.Kind,.string a0.1.Name,iv a0.1.Time,.string a0.1.Sweep.Site.Name,iv a0.1.Sweep.Site.X,iv a0.1.Sweep.Site.Y,iv a0.1.Sweep.Site.Z,iv a0.1.Sweep.Site.Rose,iv a0.1.Sweep.Site.Gates,iv a0.1.Sweep.Site.Step,iv a0.1.Sweep.Site.Width,iv a0.1.Sweep.Tilt,iv a0.1.Sweep.Time,sv a6 a0.1.Sweep.Rays a9,iv a0.1.Field.Grid.X,iv a0.1.Field.Grid.Y,iv a0.1.Field.Grid.Size,iv a0.1.Field.Grid.Wide,iv a0.1.Field.Grid.High,sv a7 a0.1.Field.Vals aA,.string a0.1.Text])] hF (oN 49 0 0 21 hS.i rfl<|A9) fun a hF=>?_
       have b3:All2 (Rp49 ν244) ([[iv a0.1.Kind,.string a0.1.Name,iv a0.1.Time,.string a0.1.Sweep.Site.Name,iv a0.1.Sweep.Site.X,iv a0.1.Sweep.Site.Y,iv a0.1.Sweep.Site.Z,iv a0.1.Sweep.Site.Rose,iv a0.1.Sweep.Site.Gates,iv a0.1.Sweep.Site.Step,iv a0.1.Sweep.Site.Width,iv a0.1.Sweep.Tilt,iv a0.1.Sweep.Time,sv a6 a0.1.Sweep.Rays a9,iv a0.1.Field.Grid.X,iv a0.1.Field.Grid.Y,iv a0.1.Field.Grid.Size,iv a0.1.Field.Grid.Wide,iv a0.1.Field.Grid.High,sv a7 a0.1.Field.Vals aA,.string a0.1.Text]]:List (List Value)) [(ref12_Item.mk a0.1.Kind a0.1.Name a0.1.Time (api_Sweep.mk (api_Site.mk a0.1.Sweep.Site.Name a0.1.Sweep.Site.X a0.1.Sweep.Site.Y a0.1.Sweep.Site.Z a0.1.Sweep.Site.Rose a0.1.Sweep.Site.Gates a0.1.Sweep.Site.Step a0.1.Sweep.Site.Width) a0.1.Sweep.Tilt a0.1.Sweep.Time a0.1.Sweep.Rays) (api_Field.mk (api_Grid.mk a0.1.Field.Grid.X a0.1.Field.Grid.Y a0.1.Field.Grid.Size a0.1.Field.Grid.Wide a0.1.Field.Grid.High) a0.1.Field.Vals) a0.1.Text)]:=(All2.cons ⟨a6,a9,b6,a7,aA,rfl,b7,b8⟩ All2.nil)
       refine SK.wi (Sj (e:=49) (sz:=21) (f:=fN 21) (t:=28) (len:=1) (fun aX=>[(0,sv ad1 p0 cap2),(6,sv a2 a1 a3),(8,iv aB),(9,iv a4),(80,sv a2 a1 a3),(82,sb aX 1)]) #[(0,.agg #[iv a0.1.Kind,.string a0.1.Name,iv a0.1.Time,.string a0.1.Sweep.Site.Name,iv a0.1.Sweep.Site.X,iv a0.1.Sweep.Site.Y,iv a0.1.Sweep.Site.Z,iv a0.1.Sweep.Site.Rose,iv a0.1.Sweep.Site.Gates,iv a0.1.Sweep.Site.Step,iv a0.1.Sweep.Site.Width,iv a0.1.Sweep.Tilt,iv a0.1.Sweep.Time,sv a6 a0.1.Sweep.Rays a9,iv a0.1.Field.Grid.X,iv a0.1.Field.Grid.Y,iv a0.1.Field.Grid.Size,iv a0.1.Field.Grid.Wide,iv a0.1.Field.Grid.High,sv a7 a0.1.Field.Vals aA,.string a0.1.Text])] #[iv a0.1.Kind,.string a0.1.Name,iv a0.1.Time,.string a0.1.Sweep.Site.Name,iv a0.1.Sweep.Site.X,iv a0.1.Sweep.Site.Y,iv a0.1.Sweep.Site.Z,iv a0.1.Sweep.Site.Rose,iv a0.1.Sweep.Site.Gates,iv a0.1.Sweep.Site.Step,iv a0.1.Sweep.Site.Width,iv a0.1.Sweep.Tilt,iv a0.1.Sweep.Time,sv a6 a0.1.Sweep.Rays a9,iv a0.1.Field.Grid.X,iv a0.1.Field.Grid.Y,iv a0.1.Field.Grid.Size,iv a0.1.Field.Grid.Wide,iv a0.1.Field.Grid.High,sv a7 a0.1.Field.Vals aA,.string a0.1.Text] ([[iv a0.1.Kind,.string a0.1.Name,iv a0.1.Time,.string a0.1.Sweep.Site.Name,iv a0.1.Sweep.Site.X,iv a0.1.Sweep.Site.Y,iv a0.1.Sweep.Site.Z,iv a0.1.Sweep.Site.Rose,iv a0.1.Sweep.Site.Gates,iv a0.1.Sweep.Site.Step,iv a0.1.Sweep.Site.Width,iv a0.1.Sweep.Tilt,iv a0.1.Sweep.Time,sv a6 a0.1.Sweep.Rays a9,iv a0.1.Field.Grid.X,iv a0.1.Field.Grid.Y,iv a0.1.Field.Grid.Size,iv a0.1.Field.Grid.Wide,iv a0.1.Field.Grid.High,sv a7 a0.1.Field.Vals aA,.string a0.1.Text]]:List (List Value)) ([(ref12_Item.mk a0.1.Kind a0.1.Name a0.1.Time (api_Sweep.mk (api_Site.mk a0.1.Sweep.Site.Name a0.1.Sweep.Site.X a0.1.Sweep.Site.Y a0.1.Sweep.Site.Z a0.1.Sweep.Site.Rose a0.1.Sweep.Site.Gates a0.1.Sweep.Site.Step a0.1.Sweep.Site.Width) a0.1.Sweep.Tilt a0.1.Sweep.Time a0.1.Sweep.Rays) (api_Field.mk (api_Grid.mk a0.1.Field.Grid.X a0.1.Field.Grid.Y a0.1.Field.Grid.Size a0.1.Field.Grid.Wide a0.1.Field.Grid.High) a0.1.Field.Vals) a0.1.Text)]) hF hS kr ⟨kr⟩ kr (Eg 21) rfl rfl rfl kr (fun _=>⟨kr⟩) fun aX w a hF hS=>?_)
       obtain ⟨aS,b0,h⟩:=A1 h
       have bB:All2 (Rp49 ν244) (aC++([[iv a0.1.Kind,.string a0.1.Name,iv a0.1.Time,.string a0.1.Sweep.Site.Name,iv a0.1.Sweep.Site.X,iv a0.1.Sweep.Site.Y,iv a0.1.Sweep.Site.Z,iv a0.1.Sweep.Site.Rose,iv a0.1.Sweep.Site.Gates,iv a0.1.Sweep.Site.Step,iv a0.1.Sweep.Site.Width,iv a0.1.Sweep.Tilt,iv a0.1.Sweep.Time,sv a6 a0.1.Sweep.Rays a9,iv a0.1.Field.Grid.X,iv a0.1.Field.Grid.Y,iv a0.1.Field.Grid.Size,iv a0.1.Field.Grid.Wide,iv a0.1.Field.Grid.High,sv a7 a0.1.Field.Vals aA,.string a0.1.Text]]:List (List Value))) aS:=by rw [(Ji b0).1];exact All2.app aN b3
       refine SK.wi (T1 (t:=28) (ty:=28) (bytes:=224) (c:=aC) (c':=([[iv a0.1.Kind,.string a0.1.Name,iv a0.1.Time,.string a0.1.Sweep.Site.Name,iv a0.1.Sweep.Site.X,iv a0.1.Sweep.Site.Y,iv a0.1.Sweep.Site.Z,iv a0.1.Sweep.Site.Rose,iv a0.1.Sweep.Site.Gates,iv a0.1.Sweep.Site.Step,iv a0.1.Sweep.Site.Width,iv a0.1.Sweep.Tilt,iv a0.1.Sweep.Time,sv a6 a0.1.Sweep.Rays a9,iv a0.1.Field.Grid.X,iv a0.1.Field.Grid.Y,iv a0.1.Field.Grid.Size,iv a0.1.Field.Grid.Wide,iv a0.1.Field.Grid.High,sv a7 a0.1.Field.Vals aA,.string a0.1.Text]]:List (List Value))) (l:=a1) (l':=([(ref12_Item.mk a0.1.Kind a0.1.Name a0.1.Time (api_Sweep.mk (api_Site.mk a0.1.Sweep.Site.Name a0.1.Sweep.Site.X a0.1.Sweep.Site.Y a0.1.Sweep.Site.Z a0.1.Sweep.Site.Rose a0.1.Sweep.Site.Gates a0.1.Sweep.Site.Step a0.1.Sweep.Site.Width) a0.1.Sweep.Tilt a0.1.Sweep.Time a0.1.Sweep.Rays) (api_Field.mk (api_Grid.mk a0.1.Field.Grid.X a0.1.Field.Grid.Y a0.1.Field.Grid.Size a0.1.Field.Grid.Wide a0.1.Field.Grid.High) a0.1.Field.Vals) a0.1.Text)])) (fun aQ aR=>[(0,sv ad1 p0 cap2),(6,sv a2 a1 a3),(8,iv aB),(9,iv a4),(83,sv aQ aS aR)]) 2 hF hS rfl kr ⟨kr⟩ kr (hS.arr (i:=0) rfl) (ArrQ.one b3 Rp49.one) b0 (fun _ _=>⟨kr⟩) fun aQ aR w a hF hS=>?_)
       refine rn 1 5 [(0,sv ad1 p0 cap2),(6,sv aQ aS aR),(8,iv aB),(9,iv a4)] hF fun a hF=>?_
       refine wfn rfl ?_
       refine WI.region ?_
       refine qn 2 2 [(7,iv a4)] hF fun a hF=>?_
       refine WI.fin rfl (Aa<|A0<|?_)
       rw [hk2] at h
       exact ⟨nk2,Nat.lt_succ_self _,aS,a4,aB,ν244,aQ,aR,(aC++([[iv a0.1.Kind,.string a0.1.Name,iv a0.1.Time,.string a0.1.Sweep.Site.Name,iv a0.1.Sweep.Site.X,iv a0.1.Sweep.Site.Y,iv a0.1.Sweep.Site.Z,iv a0.1.Sweep.Site.Rose,iv a0.1.Sweep.Site.Gates,iv a0.1.Sweep.Site.Step,iv a0.1.Sweep.Site.Width,iv a0.1.Sweep.Tilt,iv a0.1.Sweep.Time,sv a6 a0.1.Sweep.Rays a9,iv a0.1.Field.Grid.X,iv a0.1.Field.Grid.Y,iv a0.1.Field.Grid.Size,iv a0.1.Field.Grid.Wide,iv a0.1.Field.Grid.High,sv a7 a0.1.Field.Vals aA,.string a0.1.Text]]:List (List Value))),hF.sub kr,St.pick [2,3] (by decide) hS,bB,aG,hext,hlow,h⟩
      ·replace h:=Af h hc
       refine wpIn_skip (Aa<|A0<|?_)
       rw [hk2] at h
       exact ⟨nk2,Nat.lt_succ_self _,a1,a5,aB,ν244,a2,a3,aC,hF.sub kr,St.pick [1,2] (by decide) hS,aN,aG,hext,hlow,h⟩
     ·replace h:=Af h hc
      refine wpIn_exit (A7<|A7<|Av<|A0 ?_)
      exact ⟨a1,a5,aJ,ν227,a2,a3,aC,hF.sub kr,St.pick [0,1] (by decide) hS,aN,aI,hext,hlow,h⟩
    clear aI
    rintro a w ⟨aE,aO,aP,ν136,aK,aL,aU,hF,hS,bA,b2,hext,hlow,h⟩
    replace hA3:=hA3.mono b2
    replace hA7:=hA7.mono b2
    rw [Gh] at h
    refine Ar ?_
    refine qnB [(87,.bool (decide ((ln aE)>1000)))] hF fun a hF=>?_
    refine Ai hF rfl (fun hc=>?_) (fun hc=>?_)
    ·replace h:=Ag h hc
     refine rnB [(2,.slice none 0 0),(3,iv 0),(4,iv 9)] hF fun a hF=>?_
     refine wpIn_ret (A5<|Ab [.tmp 2,.tmp 3,.tmp 4] [.slice none 0 0,iv 0,iv 9] hF rfl ⟨rfl,rfl,rfl,trivial⟩ ?_)
     obtain rfl:=Ao h
     replace hS:=hS.nilarr 49 21 (fN 21)
     exact ⟨_,rfl,ν136,_,_,_,hext,rfl,All2.nil,St.pick [2,0] (by decide) hS⟩
    ·replace h:=Af h hc
     refine wpIn_skip (A0 ?_)
     refine rnB [(2,sv aK aE aL),(3,iv aO),(4,iv aP)] hF fun a hF=>?_
     refine wpIn_ret (Ab [.tmp 2,.tmp 3,.tmp 4] [sv aK aE aL,iv aO,iv aP] hF rfl ⟨rfl,rfl,rfl,trivial⟩ ?_)
     obtain rfl:=Ao h
     exact ⟨_,rfl,ν136,_,_,_,hext,rfl,bA,St.pick [1,0] (by decide) hS⟩
end Go.Proofs.YtifbomimeodibaaGreat
