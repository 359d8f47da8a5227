import Derived.Test.YtifbomimeodibaaGreatV4XD
import Derived.Test.YtifbomimeodibaaGreatProg
import Derived.Test.YtifbomimeodibaaGreatV4XW0
import Derived.Test.YtifbomimeodibaaGreatV4XW1
import Derived.Test.YtifbomimeodibaaGreatV4XW2
import Derived.Test.YtifbomimeodibaaGreatV4XW3
import Derived.Test.YtifbomimeodibaaGreatV4XW6
import Derived.Test.YtifbomimeodibaaGreatV4XW8
import Derived.Test.YtifbomimeodibaaGreatV4XW9
import Derived.Test.YtifbomimeodibaaGreatV4XW10
namespace Go.Proofs.YtifbomimeodibaaGreat
open Go Go.RowKit Go.Eng
set_option maxRecDepth 10000
set_option maxHeartbeats 4000000
set_option linter.unusedVariables false
set_option linter.unusedSimpArgs false
theorem Pg (F:Nat) (p0:volume_thing) (res:Int) (h:Da F p0=some res) (μ:Frz) (w0:World) (hm:FrzAt μ w0) {v:Value} (hv:volume_thing.R μ v p0):Zp Tryz.prog v "radome/volume.check" #[] (fun f gs=>Bj Tryz.prog f gs w0 (fun e w=>e=(iv res)∧Ext w0 w)):=by
 cases p0 with
 | nil_=>cases h
 | ic156 y =>
  obtain ⟨cs,rfl,hr⟩:=hv
  obtain ⟨ad1,cap2,css3,rfl,hA4⟩:=hr
  exact ⟨162,#[.agg #[.string y.Sweep.Site.Name,iv y.Sweep.Site.X,iv y.Sweep.Site.Y,iv y.Sweep.Site.Z,iv y.Sweep.Site.Rose,iv y.Sweep.Site.Gates,iv y.Sweep.Site.Step,iv y.Sweep.Site.Width,iv y.Sweep.Tilt,iv y.Sweep.Time,sv ad1 y.Sweep.Rays cap2]],by kernel_rfl,(Calls.toR (Ko F y _ h μ w0 hm hA4))⟩
 | ic158 y =>
  obtain ⟨cs,rfl,hr⟩:=hv
  obtain ⟨ad5,cap6,rfl,hA7⟩:=hr
  exact ⟨176,#[.agg #[.string y.key,iv y.time,iv y.Field.Grid.X,iv y.Field.Grid.Y,iv y.Field.Grid.Size,iv y.Field.Grid.Wide,iv y.Field.Grid.High,sv ad5 y.Field.Vals cap6]],by kernel_rfl,(Calls.toR (Kn F y _ h μ w0 hm hA7))⟩
 | ic160 y =>
  obtain ⟨cs,rfl,hr⟩:=hv
  obtain rfl:=hr
  exact ⟨184,#[.agg #[iv y.time,.string y.text]],by kernel_rfl,(Calls.toR (Lj F y _ h μ w0 hm))⟩
theorem Nj (F:Nat) (p0:(List Int)) (res:(volume_thing×Int)) (h:Le F p0=some res) (μ:Frz) (w0:World) (hm:FrzAt μ w0) {ad1:Option Addr} {cap2:Nat} (hA3:ArrM μ 1 (fK .u8) ad1 cap2 p0):Bj Tryz.prog 36 #[sv ad1 p0 cap2] w0 (fun e w=>∃(ν_:Frz) (aX:Value),μ.ext w0.heap.size ν_∧e=(.tuple #[aX,iv res.2])∧volume_thing.R ν_ aX res.1∧St w0 [fz w0 ν_] w):=by
 obtain ⟨hlow,hS⟩:=hm.init
 have hext:=Frz.ext_refl w0.heap.size μ
 rw [Le] at h
 refine Un Tryz.func36 rfl 64 [(0,sv ad1 p0 cap2)] rfl rfl kr fun a w hw hF=>?_
 replace hS:=hS.cast hw
 clear hw
 refine esr ?_
 refine SK.wi (Kp (t:=80) (fun b4=>[(0,sv ad1 p0 cap2),(2,pb b4)]) #[.nilIface] hF hS kr ⟨kr⟩ kr (fun _=>⟨kr⟩) fun b4 w a hF hS=>?_)
 refine SK.wi (Kp (t:=25) (fun b5=>[(0,sv ad1 p0 cap2),(2,pb b4),(3,pb b5)]) #[iv 0] hF hS kr ⟨kr⟩ kr (fun _=>⟨kr⟩) fun b5 w a hF hS=>?_)
 refine wfn rfl ?_
 refine esr ?_
 refine rn 2 2 [(0,sv ad1 p0 cap2),(2,pb b4),(3,pb b5),(8,.agg #[sv ad1 p0 cap2])] hF fun a hF=>?_
 refine SK.wi (qB 125 (.agg #[sv ad1 p0 cap2]) #[sv ad1 p0 cap2] (fun b6=>[(9,pb b6)]) hF hS fun b6 w a hF hS=>?_)
 refine qn 1 4 [(4,pb b6)] hF fun a hF=>?_
 refine wfn rfl ?_
 refine esr ?_
 refine qn 1 1 [(11,pb b6)] hF fun a hF=>?_
 obtain ⟨y7,hy7,h⟩:=A1 h
 replace hS:=hS.s3
 refine SK.wi (qR (fun aT=>[(12,aT)]) hF (J9 F _ _ hy7 μ w0 w _ hlow hA3 hS) ?_)
 rintro aT w a ⟨ν8,a4,a0,hx9,hlow,rfl,a8,hS⟩ hF
 replace hext:=Frz.ext_trans hext hx9
 replace hA3:=hA3.mono hx9.1
 refine qn 5 7 [(5,iv y7.1),(6,.bool y7.2.1)] hF fun a hF=>?_
 refine wfn rfl ?_
 refine Ar ?_
 refine Ar ?_
 refine Bt 27 [23,24] _ (D:=fun w=>St w0 [blk b6 125 #[sv a4 y7.2.2.b a0],blk b5 25 #[iv 0],blk b4 80 #[.nilIface]] w∧FrzAt ν8 w) kr kr hF.size (fun w hx=>?_) (fun _ _ h=>h)
 replace hS:=hS.later hx
 refine ⟨⟨St.pick [1,2,3] (by decide) hS,hS.frz (i:=0) rfl hlow⟩,?_⟩
 have aH:=Frz.le_refl ν8
 refine WT.s [0,1,2,3,4,5,6,7,8,9,10,11,12,13,14,15,16,17,18,19,20,21,22] [23] kr kr ?_
 refine qC 3 [(17,.bool (!y7.2.1))] hF A9 fun a hF=>?_
 rcases Bool.eq_false_or_eq_true ((!y7.2.1)) with aC|aC
 ·replace h:=Af h aC
  rw [aC] at hF
  refine C6 [(0,sv ad1 p0 cap2),(2,pb b4),(3,pb b5),(4,pb b6),(5,iv y7.1),(17,.bool true),(18,undef)] hF kr kr ⟨kr⟩ ⟨kr⟩ fun a hF=>?_
  refine C6 [(0,sv ad1 p0 cap2),(2,pb b4),(3,pb b5),(4,pb b6),(5,iv y7.1),(17,.bool true),(19,undef)] hF kr kr ⟨kr⟩ ⟨kr⟩ fun a hF=>?_
  refine C6 [(0,sv ad1 p0 cap2),(2,pb b4),(3,pb b5),(4,pb b6),(5,iv y7.1),(17,.bool true),(20,undef)] hF kr kr ⟨kr⟩ ⟨kr⟩ fun a hF=>?_
  refine C6 [(0,sv ad1 p0 cap2),(2,pb b4),(3,pb b5),(4,pb b6),(5,iv y7.1),(17,.bool true),(21,undef)] hF kr kr ⟨kr⟩ ⟨kr⟩ fun a hF=>?_
  refine C6 [(0,sv ad1 p0 cap2),(2,pb b4),(3,pb b5),(4,pb b6),(5,iv y7.1),(17,.bool true),(22,undef)] hF kr kr ⟨kr⟩ ⟨kr⟩ fun a hF=>?_
  refine C6 [(0,sv ad1 p0 cap2),(2,pb b4),(3,pb b5),(4,pb b6),(5,iv y7.1),(17,.bool true),(22,undef),(23,undef)] hF kr kr ⟨kr⟩ ⟨kr⟩ fun a hF=>?_
  refine C6 [(0,sv ad1 p0 cap2),(2,pb b4),(3,pb b5),(4,pb b6),(5,iv y7.1),(17,.bool true),(22,undef),(24,undef)] hF kr kr ⟨kr⟩ ⟨kr⟩ fun a hF=>?_
  refine C6 [(0,sv ad1 p0 cap2),(2,pb b4),(3,pb b5),(4,pb b6),(5,iv y7.1),(17,.bool true),(25,undef)] hF kr kr ⟨kr⟩ ⟨kr⟩ fun a hF=>?_
  refine rC 2 [(0,sv ad1 p0 cap2),(2,pb b4),(3,pb b5),(4,pb b6),(5,iv y7.1),(27,.bool true)] hF A9 fun a hF=>?_
  refine C6 [(0,sv ad1 p0 cap2),(2,pb b4),(3,pb b5),(4,pb b6),(5,iv y7.1),(27,.bool true),(28,undef)] hF kr kr ⟨kr⟩ ⟨kr⟩ fun a hF=>?_
  refine C6 [(0,sv ad1 p0 cap2),(2,pb b4),(3,pb b5),(4,pb b6),(5,iv y7.1),(27,.bool true),(28,undef),(29,undef)] hF kr kr ⟨kr⟩ ⟨kr⟩ fun a hF=>?_
  refine C6 [(0,sv ad1 p0 cap2),(2,pb b4),(3,pb b5),(4,pb b6),(5,iv y7.1),(27,.bool true),(28,undef),(30,undef)] hF kr kr ⟨kr⟩ ⟨kr⟩ fun a hF=>?_
  refine C6 [(0,sv ad1 p0 cap2),(2,pb b4),(3,pb b5),(4,pb b6),(5,iv y7.1),(27,.bool true),(28,undef),(31,undef)] hF kr kr ⟨kr⟩ ⟨kr⟩ fun a hF=>?_
  refine C6 [(0,sv ad1 p0 cap2),(2,pb b4),(3,pb b5),(4,pb b6),(5,iv y7.1),(27,.bool true),(32,undef)] hF kr kr ⟨kr⟩ ⟨kr⟩ fun a hF=>?_
  refine C6 [(0,sv ad1 p0 cap2),(2,pb b4),(3,pb b5),(4,pb b6),(5,iv y7.1),(27,.bool true),(32,undef),(33,undef)] hF kr kr ⟨kr⟩ ⟨kr⟩ fun a hF=>?_
  refine C6 [(2,pb b4),(3,pb b5),(4,pb b6),(5,iv y7.1),(27,.bool true),(32,undef),(33,undef),(34,undef)] hF kr kr ⟨kr⟩ ⟨kr⟩ fun a hF=>?_
  refine C6 [(2,pb b4),(3,pb b5),(4,pb b6),(5,iv y7.1),(27,.bool true),(32,undef),(33,undef),(35,undef)] hF kr kr ⟨kr⟩ ⟨kr⟩ fun a hF=>?_
  refine C6 [(2,pb b4),(3,pb b5),(4,pb b6),(5,iv y7.1),(27,.bool true),(32,undef),(33,undef),(36,undef)] hF kr kr ⟨kr⟩ ⟨kr⟩ fun a hF=>?_
  refine C6 [(2,pb b4),(3,pb b5),(4,pb b6),(5,iv y7.1),(27,.bool true),(32,undef),(37,undef)] hF kr kr ⟨kr⟩ ⟨kr⟩ fun a hF=>?_
  refine WRun.fin ?_
  refine all_cons ?_ At
  refine Ho [(2,pb b4),(3,pb b5),(4,pb b6),(5,iv y7.1),(27,.bool true),(32,undef),(38,undef)] hF kr ⟨kr⟩ ⟨kr⟩ fun a hF=>?_
  refine ⟨⟨St.pick [1,2,3] (by decide) hS,(hS.frz (i:=0) rfl hlow)⟩,?_⟩
  refine WT.s [] [24] kr kr ?_
  refine WRun.fin ?_
  refine all_cons ?_ At
  refine Ho [(2,pb b4),(3,pb b5),(4,pb b6),(5,iv y7.1),(27,.bool true),(39,undef)] hF kr ⟨kr⟩ ⟨kr⟩ fun a hF=>?_
  refine ⟨⟨St.pick [1,2,3] (by decide) hS,(hS.frz (i:=0) rfl hlow)⟩,?_⟩
  refine WT.z [25,26] kr ?_
  refine C6 [(2,pb b4),(3,pb b5),(4,pb b6),(5,iv y7.1),(27,.bool true),(40,undef)] hF kr kr ⟨kr⟩ ⟨kr⟩ fun a hF=>?_
  refine rC 1 [(2,pb b4),(3,pb b5),(4,pb b6),(5,iv y7.1),(41,.bool true)] hF A9 fun a hF=>?_
  refine WRun.fin ?_
  refine wfn rfl ?_
  refine wpIn_cond_true (hF.get rfl) ?_
  refine esr ?_
  refine SK.wi (qs 80 3 0 (.nilIface) hF hS rfl fun w a hF hS=>?_)
  refine SK.wi (qs 25 2 0 (iv 15) hF hS rfl fun w a hF hS=>?_)
  refine wfn rfl ?_
  refine wpIn_ret (A6<|Tg [.cell 2 80,.cell 3 25] [.nilIface,iv 15] hF rfl ⟨⟨_,rfl,Be kr (hS.cell (i:=3) (j:=0) rfl rfl)⟩,⟨_,rfl,Be kr (hS.cell (i:=2) (j:=0) rfl rfl)⟩,trivial⟩ ?_)
  obtain rfl:=Ao h
  exact ⟨_,rfl,ν8,.nilIface,hext,rfl,(show volume_thing.R _ .nilIface .nil_ from rfl),St.pick [0] (by decide) hS⟩
 ·replace h:=Ae h aC
  rw [aC] at hF
  obtain ⟨aN,b2,h⟩:=A1 h
  refine qC 10 [(27,.bool ((ln y7.2.2.b) != aN))] hF (oX (.run [⟨17,false,false⟩] (Instr.loadAt 22 (pb b6)) (sv a4 y7.2.2.b a0)) (ob1 kr (fun _ hd=>hd.1.cell (i:=0) (j:=0) rfl rfl))<|oX (.run [⟨17,false,false⟩] (binOp .add 3 (iv y7.1) (iv 5)) (iv aN)) (R2 (fun _=>b2))<|A9) fun a hF=>?_
  rcases Bool.eq_false_or_eq_true (((ln y7.2.2.b) != aN)) with aD|aD
  ·replace h:=Af h aD
   rw [aD] at hF
   refine C6 [(0,sv ad1 p0 cap2),(2,pb b4),(3,pb b5),(4,pb b6),(5,iv y7.1),(27,.bool true),(28,undef)] hF kr kr ⟨kr⟩ ⟨kr⟩ fun a hF=>?_
   refine C6 [(0,sv ad1 p0 cap2),(2,pb b4),(3,pb b5),(4,pb b6),(5,iv y7.1),(27,.bool true),(28,undef),(29,undef)] hF kr kr ⟨kr⟩ ⟨kr⟩ fun a hF=>?_
   refine C6 [(0,sv ad1 p0 cap2),(2,pb b4),(3,pb b5),(4,pb b6),(5,iv y7.1),(27,.bool true),(28,undef),(30,undef)] hF kr kr ⟨kr⟩ ⟨kr⟩ fun a hF=>?_
   refine C6 [(0,sv ad1 p0 cap2),(2,pb b4),(3,pb b5),(4,pb b6),(5,iv y7.1),(27,.bool true),(28,undef),(31,undef)] hF kr kr ⟨kr⟩ ⟨kr⟩ fun a hF=>?_
   refine C6 [(0,sv ad1 p0 cap2),(2,pb b4),(3,pb b5),(4,pb b6),(5,iv y7.1),(27,.bool true),(32,undef)] hF kr kr ⟨kr⟩ ⟨kr⟩ fun a hF=>?_
   refine C6 [(0,sv ad1 p0 cap2),(2,pb b4),(3,pb b5),(4,pb b6),(5,iv y7.1),(27,.bool true),(32,undef),(33,undef)] hF kr kr ⟨kr⟩ ⟨kr⟩ fun a hF=>?_
   refine C6 [(2,pb b4),(3,pb b5),(4,pb b6),(5,iv y7.1),(27,.bool true),(32,undef),(33,undef),(34,undef)] hF kr kr ⟨kr⟩ ⟨kr⟩ fun a hF=>?_
   refine C6 [(2,pb b4),(3,pb b5),(4,pb b6),(5,iv y7.1),(27,.bool true),(32,undef),(33,undef),(35,undef)] hF kr kr ⟨kr⟩ ⟨kr⟩ fun a hF=>?_
   refine C6 [(2,pb b4),(3,pb b5),(4,pb b6),(5,iv y7.1),(27,.bool true),(32,undef),(33,undef),(36,undef)] hF kr kr ⟨kr⟩ ⟨kr⟩ fun a hF=>?_
   refine C6 [(2,pb b4),(3,pb b5),(4,pb b6),(5,iv y7.1),(27,.bool true),(32,undef),(37,undef)] hF kr kr ⟨kr⟩ ⟨kr⟩ fun a hF=>?_
   refine WRun.fin ?_
   refine all_cons ?_ At
   refine Ho [(2,pb b4),(3,pb b5),(4,pb b6),(5,iv y7.1),(27,.bool true),(32,undef),(38,undef)] hF kr ⟨kr⟩ ⟨kr⟩ fun a hF=>?_
   refine ⟨⟨St.pick [1,2,3] (by decide) hS,(hS.frz (i:=0) rfl hlow)⟩,?_⟩
   refine WT.s [] [24] kr kr ?_
   refine WRun.fin ?_
   refine all_cons ?_ At
   refine Ho [(2,pb b4),(3,pb b5),(4,pb b6),(5,iv y7.1),(27,.bool true),(39,undef)] hF kr ⟨kr⟩ ⟨kr⟩ fun a hF=>?_
   refine ⟨⟨St.pick [1,2,3] (by decide) hS,(hS.frz (i:=0) rfl hlow)⟩,?_⟩
   refine WT.z [25,26] kr ?_
   refine C6 [(2,pb b4),(3,pb b5),(4,pb b6),(5,iv y7.1),(27,.bool true),(40,undef)] hF kr kr ⟨kr⟩ ⟨kr⟩ fun a hF=>?_
   refine rC 1 [(2,pb b4),(3,pb b5),(4,pb b6),(5,iv y7.1),(41,.bool true)] hF A9 fun a hF=>?_
   refine WRun.fin ?_
   refine wfn rfl ?_
   refine wpIn_cond_true (hF.get rfl) ?_
   refine esr ?_
   refine SK.wi (qs 80 3 0 (.nilIface) hF hS rfl fun w a hF hS=>?_)
   refine SK.wi (qs 25 2 0 (iv 15) hF hS rfl fun w a hF hS=>?_)
   refine wfn rfl ?_
   refine wpIn_ret (A6<|Tg [.cell 2 80,.cell 3 25] [.nilIface,iv 15] hF rfl ⟨⟨_,rfl,Be kr (hS.cell (i:=3) (j:=0) rfl rfl)⟩,⟨_,rfl,Be kr (hS.cell (i:=2) (j:=0) rfl rfl)⟩,trivial⟩ ?_)
   obtain rfl:=Ao h
   exact ⟨_,rfl,ν8,.nilIface,hext,rfl,(show volume_thing.R _ .nilIface .nil_ from rfl),St.pick [0] (by decide) hS⟩
  ·replace h:=Ae h aD
   rw [aD] at hF
   obtain ⟨a3,b3,h⟩:=A1 h
   obtain ⟨a7,aQ,h⟩:=A1 h
   have a9:ArrM ν8 1 (fK .u8) (Aw ad1 cap2 a3.toNat 1) (cap2-a3.toNat) a7:=fun w_ hw_=>(hA3 w_ hw_).cutD (Bx .u8) aQ
   obtain ⟨aY,b7,h⟩:=A1 h
   obtain ⟨aI,aR,h⟩:=A1 h
   have aA:ArrM ν8 1 (fK .u8) (Aw ad1 cap2 (0:Int).toNat 1) (cap2-(0:Int).toNat) aI:=fun w_ hw_=>(hA3 w_ hw_).cutD (Bx .u8) aR
   refine Xe (rest:=[]) (obs:=[.run [⟨27,false,false⟩] (binOp .sub 3 (iv (ln p0)) (iv 5)) (iv a3),.run [⟨27,false,false⟩] (Instr.sliceAt 22 (sv ad1 p0 cap2) (some (iv a3)) none none) (.slice (Aw ad1 cap2 a3.toNat 1) a7.length (cap2-a3.toNat)),.run [⟨27,false,false⟩] (binOp .sub 3 (iv (ln p0)) (iv 5)) (iv aY),.run [⟨27,false,false⟩] (Instr.sliceAt 22 (sv ad1 p0 cap2) none (some (iv aY)) none) (.slice (Aw ad1 cap2 (0:Int).toNat 1) aI.length (cap2-(0:Int).toNat))]) [13,14,15,16,17,18,19,20,21,22] [(2,⟨[],pb b4⟩),(3,⟨[],pb b5⟩),(4,⟨[],pb b6⟩),(5,⟨[],iv y7.1⟩),(27,⟨[],.bool false⟩),(32,⟨[⟨27,false,false⟩],.slice (Aw ad1 cap2 a3.toNat 1) a7.length (cap2-a3.toNat)⟩),(37,⟨[⟨27,false,false⟩],.slice (Aw ad1 cap2 (0:Int).toNat 1) aI.length (cap2-(0:Int).toNat)⟩)] hF kr kr (Ha (Ts (fun _=>b3)) (Ha (N5 kr (hA3 _ (hS.frz (i:=0) rfl hlow)) (fun _=>aQ)) (Ha (Ts (fun _=>b7)) (Ha (Tr kr (hA3 _ (hS.frz (i:=0) rfl hlow)) (fun _=>aR)) A9)))) ⟨kr⟩ kr fun a hF=>?_
   replace hF:Fr 64 [] [(2,pb b4),(3,pb b5),(4,pb b6),(5,iv y7.1),(27,.bool false),(32,.slice (Aw ad1 cap2 a3.toNat 1) a7.length (cap2-a3.toNat)),(37,.slice (Aw ad1 cap2 (0:Int).toNat 1) aI.length (cap2-(0:Int).toNat))] a:=hF
   refine WRun.fin ?_
   refine all_cons ?_ At
   obtain ⟨a2,b8,h⟩:=A1 h
   refine qR (fun aU=>[(38,aU)]) hF (Qt F _ _ b8 (Ay w) w (A5 w) (aA.mono (FrzAt.le_mem (hS.frz (i:=0) rfl hlow)))) ?_
   rintro aU w a ⟨aE,aF,rfl,hQ⟩ hF
   replace hS:=hS.madeL hQ
   refine ⟨⟨St.pick [2,3,4] (by decide) hS,(hS.frz (i:=1) rfl hlow)⟩,?_⟩
   refine WT.s [] [24] kr kr ?_
   refine WRun.fin ?_
   refine all_cons ?_ At
   refine X3 [(2,pb b4),(3,pb b5),(4,pb b6),(5,iv y7.1),(27,.bool false),(39,.bool (Fl a7 a2))] hF kr ⟨kr⟩ (Pi a7 a2 _ rfl (Ay w) w (A5 w) (a9.mono (FrzAt.le_mem (hS.frz (i:=1) rfl hlow))) (Arr.toM (hS.arr (i:=0) rfl))) ⟨kr⟩ ?_
   intro w a hx hF
   replace hS:=hS.later hx
   refine ⟨⟨St.pick [2,3,4] (by decide) hS,(hS.frz (i:=1) rfl hlow)⟩,?_⟩
   refine WT.z [25,26] kr ?_
   refine rC 2 [(2,pb b4),(3,pb b5),(4,pb b6),(5,iv y7.1),(41,.bool (!(Fl a7 a2)))] hF A9 fun a hF=>?_
   refine WRun.fin ?_
   refine wfn rfl ?_
   refine Aj hF rfl (fun hc=>?_) (fun hc=>?_)
   ·replace h:=Af h hc
    refine esr ?_
    refine SK.wi (qs 80 4 0 (.nilIface) hF hS rfl fun w a hF hS=>?_)
    refine SK.wi (qs 25 3 0 (iv 15) hF hS rfl fun w a hF hS=>?_)
    refine wfn rfl ?_
    refine wpIn_ret (A6<|Tg [.cell 2 80,.cell 3 25] [.nilIface,iv 15] hF rfl ⟨⟨_,rfl,Be kr (hS.cell (i:=4) (j:=0) rfl rfl)⟩,⟨_,rfl,Be kr (hS.cell (i:=3) (j:=0) rfl rfl)⟩,trivial⟩ ?_)
    obtain rfl:=Ao h
    exact ⟨_,rfl,ν8,.nilIface,hext,rfl,(show volume_thing.R _ .nilIface .nil_ from rfl),St.pick [1] (by decide) hS⟩
   ·replace h:=Ae h hc
    refine wpIn_skip (A0 ?_)
    refine esr ?_
    obtain ⟨aJ,aS,h⟩:=A1 h
    have aB:ArrM ν8 1 (fK .u8) (Aw a4 a0 (0:Int).toNat 1) (a0-(0:Int).toNat) aJ:=fun w_ hw_=>(a8 w_ hw_).cutD (Bx .u8) aS
    refine qo 9 9 [(48,.slice (Aw a4 a0 (0:Int).toNat 1) aJ.length (a0-(0:Int).toNat)),(50,pb b6)] hF (oL 22 2 0 hS.i rfl rfl<|oX (.run [] (Instr.sliceAt 22 (sv a4 y7.2.2.b a0) none (some (iv y7.1)) none) (.slice (Aw a4 a0 (0:Int).toNat 1) aJ.length (a0-(0:Int).toNat))) (Tr kr (a8 _ (hS.frz (i:=1) rfl hlow)) (fun _=>aS))<|A9) fun a hF=>?_
    refine SK.wi (qs 22 2 0 (.slice (Aw a4 a0 (0:Int).toNat 1) aJ.length (a0-(0:Int).toNat)) hF hS rfl fun w a hF hS=>?_)
    refine wfn rfl ?_
    refine esr ?_
    refine qn 1 1 [(51,.func (.func 69) #[] #[pb b4,pb b5])] hF fun a hF=>?_
    refine Yh 2 ⟨.fn (.func 69) #[pb b4,pb b5],#[]⟩ [(2,pb b4),(3,pb b5),(4,pb b6)] hF kr ⟨kr⟩ ⟨kr⟩ rfl fun a hF=>?_
    refine wfn rfl ?_
    refine esr ?_
    refine rn 1 1 [(2,pb b4),(3,pb b5),(4,pb b6),(52,pb b6)] hF fun a hF=>?_
    obtain ⟨bH,b9,h⟩:=A1 h
    replace hS:=hS.s2.s2
    refine Db (fun aV=>[(2,pb b4),(3,pb b5),(4,pb b6),(53,aV)]) hF kr ⟨kr⟩ (Nd F _ _ b9 ν8 w0 w _ hlow aB hS) (fun _=>⟨kr⟩) ?_ ?_
    ·rintro b1 w he_ ⟨ν42,aZ,b0,a6,hlow,bG,hS⟩
     replace h:=Fm h he_
     replace hext:=Frz.ext_trans hext a6
     replace hA3:=hA3.mono a6.1
     replace a8:=a8.mono a6.1
     replace a9:=a9.mono a6.1
     replace aA:=aA.mono a6.1
     replace aB:=aB.mono a6.1
     replace aH:=Frz.le_trans aH a6.1
     obtain ⟨aO,bC,h⟩:=A1 h
     rw [Wa bC]
     refine A7<|Qy [.cell 2 80,.cell 3 25] hF rfl (fun _=>by kernel_rfl) ?_
     refine CallsDIn.mono (Mv .nilIface 0 aO (by simpa using St.pick [4,3,0,1,2] (by decide) hS)) ?_
     rintro e u_ w ⟨rfl,hu_,hS⟩
     replace hS:St w0 [blk b4 80 #[.nilIface],blk b5 25 #[iv aO],fz w0 ν42,blk b6 125 #[sv aZ b1.2.b b0],arr 5 1 (fK .u8) aE a2.length aF a2] w:=hS
     refine ⟨_,rfl,hu_,[.nilIface,iv aO],⟨⟨_,rfl,Be kr (hS.cell (i:=0) (j:=0) rfl rfl)⟩,⟨_,rfl,Be kr (hS.cell (i:=1) (j:=0) rfl rfl)⟩,trivial⟩,?_⟩
     obtain rfl:=Ao h
     exact ⟨_,rfl,ν42,.nilIface,hext,rfl,(show volume_thing.R _ .nilIface .nil_ from rfl),St.pick [2] (by decide) hS⟩
    rintro aK aV w a he_ ⟨ν34,a1,aL,aM,a5,hlow,hv_,aG,bF,hS⟩ hF
    replace h:=Fo h he_
    try rw [hv_] at hF
    replace hext:=Frz.ext_trans hext a5
    replace hA3:=hA3.mono a5.1
    replace a8:=a8.mono a5.1
    replace a9:=a9.mono a5.1
    replace aA:=aA.mono a5.1
    replace aB:=aB.mono a5.1
    replace aH:=Frz.le_trans aH a5.1
    refine SK.wi (Xg (t:=80) [(2,pb b4),(3,pb b5),(4,pb b6)] 4 0 a1 #[a1] aG.one hF hS rfl kr ⟨kr⟩ kr kr kr ⟨kr⟩ fun w a hF hS=>?_)
    refine wfn rfl ?_
    refine esr ?_
    refine ro 1 1 [(2,pb b4),(3,pb b5),(4,pb b6),(54,a1)] hF (oL 80 4 0 hS.i rfl rfl<|A9) fun a hF=>?_
    obtain ⟨bI,bA,h⟩:=A1 h
    refine SK.wi (X4 (fun aW=>[(2,pb b4),(3,pb b5),(4,pb b6),(55,aW)]) hF kr ⟨kr⟩ (Pg F _ _ bA (Ay w) w (A5 w) (aG.mono (FrzAt.le_mem (hS.frz (i:=0) rfl hlow)))) (fun _=>⟨kr⟩) ?_)
    rintro aW w a ⟨rfl,hx⟩ hF
    replace hS:=hS.later hx
    obtain ⟨bJ,bB,h⟩:=A1 h
    refine Yd (fun bE=>[(2,pb b4),(3,pb b5),(4,pb b6)]) hF kr ⟨kr⟩ (Mq F _ _ bB (Ay w) w (A5 w)) (fun _=>⟨kr⟩) ?_ ?_
    ·intro v_ w he_ hx
     replace hS:=hS.later hx
     replace h:=Fm h he_
     obtain ⟨aP,bD,h⟩:=A1 h
     rw [Wa bD]
     refine A7<|Qy [.cell 2 80,.cell 3 25] hF rfl (fun _=>by kernel_rfl) ?_
     refine CallsDIn.mono (Mv a1 0 aP (by simpa using St.pick [4,3,0,1,2] (by decide) hS)) ?_
     rintro e u_ w ⟨rfl,hu_,hS⟩
     replace hS:St w0 [blk b4 80 #[.nilIface],blk b5 25 #[iv aP],fz w0 ν34,blk b6 125 #[sv aL aK.2.b aM],arr 5 1 (fK .u8) aE a2.length aF a2] w:=hS
     refine ⟨_,rfl,hu_,[.nilIface,iv aP],⟨⟨_,rfl,Be kr (hS.cell (i:=0) (j:=0) rfl rfl)⟩,⟨_,rfl,Be kr (hS.cell (i:=1) (j:=0) rfl rfl)⟩,trivial⟩,?_⟩
     obtain rfl:=Ao h
     exact ⟨_,rfl,ν34,.nilIface,hext,rfl,(show volume_thing.R _ .nilIface .nil_ from rfl),St.pick [2] (by decide) hS⟩
    rintro bK bE w a he_ ⟨rfl,hx⟩ hF
    replace h:=Fo h he_
    replace hS:=hS.later hx
    refine wfn rfl ?_
    refine Ar ?_
    refine roB [(2,pb b4),(3,pb b5),(62,.bool (decide ((ln aK.2.b)>0)))] hF (oL 22 1 0 hS.i rfl rfl<|A9) fun a hF=>?_
    refine Aj hF rfl (fun hc=>?_) (fun hc=>?_)
    ·replace h:=Af h hc
     refine esr ?_
     refine SK.wi (qs 80 4 0 (.nilIface) hF hS rfl fun w a hF hS=>?_)
     refine SK.wi (qs 25 3 0 (iv 7) hF hS rfl fun w a hF hS=>?_)
     refine wfn rfl ?_
     refine wpIn_ret (A6<|Th [.cell 2 80,.cell 3 25] hF rfl (fun _=>by kernel_rfl) ?_)
     refine CallsDIn.mono (Mu .nilIface 7 (by simpa using St.pick [4,3,0,1,2] (by decide) hS)) ?_
     rintro e u_ w ⟨rfl,hu_,hS⟩
     replace hS:St w0 [blk b4 80 #[.nilIface],blk b5 25 #[iv 7],fz w0 ν34,blk b6 125 #[sv aL aK.2.b aM],arr 5 1 (fK .u8) aE a2.length aF a2] w:=hS
     refine ⟨_,rfl,hu_,[.nilIface,iv 7],⟨⟨_,rfl,Be kr (hS.cell (i:=0) (j:=0) rfl rfl)⟩,⟨_,rfl,Be kr (hS.cell (i:=1) (j:=0) rfl rfl)⟩,trivial⟩,?_⟩
     obtain rfl:=Ao h
     exact ⟨_,rfl,ν34,.nilIface,hext,rfl,(show volume_thing.R _ .nilIface .nil_ from rfl),St.pick [2] (by decide) hS⟩
    ·replace h:=Ae h hc
     refine wpIn_skip (A0 ?_)
     refine esr ?_
     refine qo 1 1 [(63,a1)] hF (oL 80 4 0 hS.i rfl rfl<|A9) fun a hF=>?_
     refine SK.wi (Xg (t:=80) [(2,pb b4),(3,pb b5)] 4 0 a1 #[a1] aG.one hF hS rfl kr ⟨kr⟩ kr kr kr ⟨kr⟩ fun w a hF hS=>?_)
     refine SK.wi (Kc (t:=25) [(2,pb b4),(3,pb b5)] 3 0 (iv 0) #[iv 0] hF hS rfl kr ⟨kr⟩ kr kr kr kr ⟨kr⟩ fun w a hF hS=>?_)
     refine wfn rfl ?_
     refine wpIn_ret (Th [.cell 2 80,.cell 3 25] hF rfl (fun _=>by kernel_rfl) ?_)
     refine CallsDIn.mono (Mu a1 0 (by simpa using St.pick [4,3,0,1,2] (by decide) hS)) ?_
     rintro e u_ w ⟨rfl,hu_,hS⟩
     replace hS:St w0 [blk b4 80 #[a1],blk b5 25 #[iv 0],fz w0 ν34,blk b6 125 #[sv aL aK.2.b aM],arr 5 1 (fK .u8) aE a2.length aF a2] w:=hS
     refine ⟨_,rfl,hu_,[a1,iv 0],⟨⟨_,rfl,Be kr (hS.cell (i:=0) (j:=0) rfl rfl)⟩,⟨_,rfl,Be kr (hS.cell (i:=1) (j:=0) rfl rfl)⟩,trivial⟩,?_⟩
     obtain rfl:=Ao h
     exact ⟨_,rfl,ν34,a1,hext,rfl,aG,St.pick [2] (by decide) hS⟩
theorem N4 (F:Nat) (p0:volume_Item) (res:(volume_thing×Int)) (h:Di F p0=some res) (μ:Frz) (w0:World) (hm:FrzAt μ w0) {ad1:Option Addr} {cap2:Nat} {css3:List (List Value)} {ad4:Option Addr} {cap5:Nat} (hA6:ArrQ μ 1 Rp87 ad1 cap2 css3 p0.Sweep.Rays) (hA7:ArrM μ 2 api_Span.cells ad4 cap5 p0.Field.Vals):Bj Tryz.prog 41 #[.agg #[iv p0.Kind,.string p0.Name,iv p0.Time,.string p0.Sweep.Site.Name,iv p0.Sweep.Site.X,iv p0.Sweep.Site.Y,iv p0.Sweep.Site.Z,iv p0.Sweep.Site.Rose,iv p0.Sweep.Site.Gates,iv p0.Sweep.Site.Step,iv p0.Sweep.Site.Width,iv p0.Sweep.Tilt,iv p0.Sweep.Time,sv ad1 p0.Sweep.Rays cap2,iv p0.Field.Grid.X,iv p0.Field.Grid.Y,iv p0.Field.Grid.Size,iv p0.Field.Grid.Wide,iv p0.Field.Grid.High,sv ad4 p0.Field.Vals cap5,.string p0.Text]] w0 (fun e w=>∃(ν_:Frz) (aB:Value),μ.ext w0.heap.size ν_∧e=(.tuple #[aB,iv res.2])∧volume_thing.R ν_ aB res.1∧St w0 [fz w0 ν_] w):=by
 obtain ⟨hlow,hS⟩:=hm.init
 have hext:=Frz.ext_refl w0.heap.size μ
 rw [Di] at h
 refine Ag Tryz.func41 rfl 12 [(0,.agg #[iv p0.Kind,.string p0.Name,iv p0.Time,.string p0.Sweep.Site.Name,iv p0.Sweep.Site.X,iv p0.Sweep.Site.Y,iv p0.Sweep.Site.Z,iv p0.Sweep.Site.Rose,iv p0.Sweep.Site.Gates,iv p0.Sweep.Site.Step,iv p0.Sweep.Site.Width,iv p0.Sweep.Tilt,iv p0.Sweep.Time,sv ad1 p0.Sweep.Rays cap2,iv p0.Field.Grid.X,iv p0.Field.Grid.Y,iv p0.Field.Grid.Size,iv p0.Field.Grid.Wide,iv p0.Field.Grid.High,sv ad4 p0.Field.Vals cap5,.string p0.Text])] rfl rfl kr fun a w hw hF=>?_
 replace hS:=hS.cast hw
 clear hw
 refine esr ?_
 refine SK.wi (J6 (t:=48) (fun b8=>[(1,pb b8)]) (.agg #[iv p0.Kind,.string p0.Name,iv p0.Time,.string p0.Sweep.Site.Name,iv p0.Sweep.Site.X,iv p0.Sweep.Site.Y,iv p0.Sweep.Site.Z,iv p0.Sweep.Site.Rose,iv p0.Sweep.Site.Gates,iv p0.Sweep.Site.Step,iv p0.Sweep.Site.Width,iv p0.Sweep.Tilt,iv p0.Sweep.Time,sv ad1 p0.Sweep.Rays cap2,iv p0.Field.Grid.X,iv p0.Field.Grid.Y,iv p0.Field.Grid.Size,iv p0.Field.Grid.Wide,iv p0.Field.Grid.High,sv ad4 p0.Field.Vals cap5,.string p0.Text]) #[iv p0.Kind,.string p0.Name,iv p0.Time,.string p0.Sweep.Site.Name,iv p0.Sweep.Site.X,iv p0.Sweep.Site.Y,iv p0.Sweep.Site.Z,iv p0.Sweep.Site.Rose,iv p0.Sweep.Site.Gates,iv p0.Sweep.Site.Step,iv p0.Sweep.Site.Width,iv p0.Sweep.Tilt,iv p0.Sweep.Time,sv ad1 p0.Sweep.Rays cap2,iv p0.Field.Grid.X,iv p0.Field.Grid.Y,iv p0.Field.Grid.Size,iv p0.Field.Grid.Wide,iv p0.Field.Grid.High,sv ad4 p0.Field.Vals cap5,.string p0.Text] hF hS kr ⟨kr⟩ kr (fun _=>⟨kr⟩) fun b8 w a hF hS=>?_)
 refine rn 2 3 [(1,pb b8)] hF fun a hF=>?_
 refine wfn rfl ?_
 refine esr ?_
 refine ro 1 1 [(5,.agg #[iv p0.Kind,.string p0.Name,iv p0.Time,.string p0.Sweep.Site.Name,iv p0.Sweep.Site.X,iv p0.Sweep.Site.Y,iv p0.Sweep.Site.Z,iv p0.Sweep.Site.Rose,iv p0.Sweep.Site.Gates,iv p0.Sweep.Site.Step,iv p0.Sweep.Site.Width,iv p0.Sweep.Tilt,iv p0.Sweep.Time,sv ad1 p0.Sweep.Rays cap2,iv p0.Field.Grid.X,iv p0.Field.Grid.Y,iv p0.Field.Grid.Size,iv p0.Field.Grid.Wide,iv p0.Field.Grid.High,sv ad4 p0.Field.Vals cap5,.string p0.Text])] hF (oN 48 0 0 21 hS.i rfl<|A9) fun a hF=>?_
 refine SK.wi (rR (fun v9=>[(6,v9)]) hF (Vg p0 _ rfl μ w (hS.frz (i:=1) rfl hlow) hA6 hA7) ?_)
 rintro v9 w a ⟨ν10,aA,a7,hv_,a1,hQ⟩ hF
 try rw [hv_] at hF
 replace hext:=Frz.ext_trans hext (Frz.ext_mono a7 hS.ext.size)
 obtain ⟨hlow,hS⟩:=hS.frzMerge (i:=1) rfl hlow a7 hQ
 replace hA6:=hA6.mono Rp87.mono a7.1
 replace hA7:=hA7.mono a7.1
 refine rn 1 3 [(4,aA)] hF fun a hF=>?_
 refine wfn rfl ?_
 refine Ar ?_
 refine Ar ?_
 rcases a2:(Co p0) with _|a0|a0|a0
 ·replace h:=volume_thing.toNil a2 h
  rw [a2] at a1
  obtain rfl:aA=.nilIface:=a1
  refine WI.region ?_
  refine rn 2 2 [(4,.nilIface),(8,.bool true)] hF fun a hF=>?_
  refine wfn rfl ?_
  refine wpIn_cond_true (hF.get rfl) ?_
  refine rnB [(2,.nilIface),(3,iv 2)] hF fun a hF=>?_
  refine wpIn_ret (A6<|Ad [.tmp 2,.tmp 3] [.nilIface,iv 2] hF rfl ⟨rfl,rfl,trivial⟩ ?_)
  obtain rfl:=Ao h
  exact ⟨_,rfl,ν10,.nilIface,hext,rfl,(show volume_thing.R _ .nilIface .nil_ from rfl),St.pick [1] (by decide) hS⟩
 ·replace h:=volume_thing.to156 a2 h
  rw [a2] at a1
  obtain ⟨aN,rfl,aH⟩:=a1
  obtain ⟨a3,a5,aG,rfl,a8⟩:=aH
  refine WI.region ?_
  refine rn 2 2 [(4,.iface 156 (.agg #[.string a0.Sweep.Site.Name,iv a0.Sweep.Site.X,iv a0.Sweep.Site.Y,iv a0.Sweep.Site.Z,iv a0.Sweep.Site.Rose,iv a0.Sweep.Site.Gates,iv a0.Sweep.Site.Step,iv a0.Sweep.Site.Width,iv a0.Sweep.Tilt,iv a0.Sweep.Time,sv a3 a0.Sweep.Rays a5])),(8,.bool false)] hF fun a hF=>?_
  refine wfn rfl ?_
  refine wpIn_cond_false (hF.get rfl) ?_
  refine wpIn_skip (A0 ?_)
  refine esr ?_
  obtain ⟨aC,aK,h⟩:=A1 h
  refine rX 5 5 [(2,.iface 156 (.agg #[.string a0.Sweep.Site.Name,iv a0.Sweep.Site.X,iv a0.Sweep.Site.Y,iv a0.Sweep.Site.Z,iv a0.Sweep.Site.Rose,iv a0.Sweep.Site.Gates,iv a0.Sweep.Site.Step,iv a0.Sweep.Site.Width,iv a0.Sweep.Tilt,iv a0.Sweep.Time,sv a3 a0.Sweep.Rays a5])),(3,iv aC)] hF (oC (fun w2 hd=>Ko F a0 _ aK _ w2 (A5 w2) (a8.mono Rp87.mono (FrzAt.le_mem ((hS.later hd).frz (i:=1) rfl hlow))))<|A9) fun a w hF hx=>?_
  replace hS:=hS.later hx
  refine wfn rfl ?_
  refine wpIn_ret (Ad [.tmp 2,.tmp 3] [.iface 156 (.agg #[.string a0.Sweep.Site.Name,iv a0.Sweep.Site.X,iv a0.Sweep.Site.Y,iv a0.Sweep.Site.Z,iv a0.Sweep.Site.Rose,iv a0.Sweep.Site.Gates,iv a0.Sweep.Site.Step,iv a0.Sweep.Site.Width,iv a0.Sweep.Tilt,iv a0.Sweep.Time,sv a3 a0.Sweep.Rays a5]),iv aC] hF rfl ⟨rfl,rfl,trivial⟩ ?_)
  obtain rfl:=Ao h
  exact ⟨_,rfl,ν10,(.iface 156 (.agg #[.string a0.Sweep.Site.Name,iv a0.Sweep.Site.X,iv a0.Sweep.Site.Y,iv a0.Sweep.Site.Z,iv a0.Sweep.Site.Rose,iv a0.Sweep.Site.Gates,iv a0.Sweep.Site.Step,iv a0.Sweep.Site.Width,iv a0.Sweep.Tilt,iv a0.Sweep.Time,sv a3 a0.Sweep.Rays a5])),hext,rfl,(show volume_thing.R _ _ (.ic156 a0) from ⟨[.string a0.Sweep.Site.Name,iv a0.Sweep.Site.X,iv a0.Sweep.Site.Y,iv a0.Sweep.Site.Z,iv a0.Sweep.Site.Rose,iv a0.Sweep.Site.Gates,iv a0.Sweep.Site.Step,iv a0.Sweep.Site.Width,iv a0.Sweep.Tilt,iv a0.Sweep.Time,sv a3 a0.Sweep.Rays a5],rfl,⟨a3,a5,aG,rfl,a8⟩⟩),St.pick [1] (by decide) hS⟩
 ·replace h:=volume_thing.to158 a2 h
  rw [a2] at a1
  obtain ⟨aO,rfl,aI⟩:=a1
  obtain ⟨a4,a6,rfl,a9⟩:=aI
  refine WI.region ?_
  refine rn 2 2 [(4,.iface 158 (.agg #[.string a0.key,iv a0.time,iv a0.Field.Grid.X,iv a0.Field.Grid.Y,iv a0.Field.Grid.Size,iv a0.Field.Grid.Wide,iv a0.Field.Grid.High,sv a4 a0.Field.Vals a6])),(8,.bool false)] hF fun a hF=>?_
  refine wfn rfl ?_
  refine wpIn_cond_false (hF.get rfl) ?_
  refine wpIn_skip (A0 ?_)
  refine esr ?_
  obtain ⟨aD,aL,h⟩:=A1 h
  refine rX 5 5 [(2,.iface 158 (.agg #[.string a0.key,iv a0.time,iv a0.Field.Grid.X,iv a0.Field.Grid.Y,iv a0.Field.Grid.Size,iv a0.Field.Grid.Wide,iv a0.Field.Grid.High,sv a4 a0.Field.Vals a6])),(3,iv aD)] hF (oC (fun w2 hd=>Kn F a0 _ aL _ w2 (A5 w2) (a9.mono (FrzAt.le_mem ((hS.later hd).frz (i:=1) rfl hlow))))<|A9) fun a w hF hx=>?_
  replace hS:=hS.later hx
  refine wfn rfl ?_
  refine wpIn_ret (Ad [.tmp 2,.tmp 3] [.iface 158 (.agg #[.string a0.key,iv a0.time,iv a0.Field.Grid.X,iv a0.Field.Grid.Y,iv a0.Field.Grid.Size,iv a0.Field.Grid.Wide,iv a0.Field.Grid.High,sv a4 a0.Field.Vals a6]),iv aD] hF rfl ⟨rfl,rfl,trivial⟩ ?_)
  obtain rfl:=Ao h
  exact ⟨_,rfl,ν10,(.iface 158 (.agg #[.string a0.key,iv a0.time,iv a0.Field.Grid.X,iv a0.Field.Grid.Y,iv a0.Field.Grid.Size,iv a0.Field.Grid.Wide,iv a0.Field.Grid.High,sv a4 a0.Field.Vals a6])),hext,rfl,(show volume_thing.R _ _ (.ic158 a0) from ⟨[.string a0.key,iv a0.time,iv a0.Field.Grid.X,iv a0.Field.Grid.Y,iv a0.Field.Grid.Size,iv a0.Field.Grid.Wide,iv a0.Field.Grid.High,sv a4 a0.Field.Vals a6],rfl,⟨a4,a6,rfl,a9⟩⟩),St.pick [1] (by decide) hS⟩
 ·replace h:=volume_thing.to160 a2 h
  rw [a2] at a1
  obtain ⟨aF,rfl,aJ⟩:=a1
  obtain rfl:aF=_:=aJ
  refine WI.region ?_
  refine rn 2 2 [(4,.iface 160 (.agg #[iv a0.time,.string a0.text])),(8,.bool false)] hF fun a hF=>?_
  refine wfn rfl ?_
  refine wpIn_cond_false (hF.get rfl) ?_
  refine wpIn_skip (A0 ?_)
  refine esr ?_
  obtain ⟨aE,aM,h⟩:=A1 h
  refine rX 5 5 [(2,.iface 160 (.agg #[iv a0.time,.string a0.text])),(3,iv aE)] hF (oC (fun w2 hd=>Lj F a0 _ aM _ w2 (A5 w2))<|A9) fun a w hF hx=>?_
  replace hS:=hS.later hx
  refine wfn rfl ?_
  refine wpIn_ret (Ad [.tmp 2,.tmp 3] [.iface 160 (.agg #[iv a0.time,.string a0.text]),iv aE] hF rfl ⟨rfl,rfl,trivial⟩ ?_)
  obtain rfl:=Ao h
  exact ⟨_,rfl,ν10,(.iface 160 (.agg #[iv a0.time,.string a0.text])),hext,rfl,(show volume_thing.R _ _ (.ic160 a0) from ⟨[iv a0.time,.string a0.text],rfl,rfl⟩),St.pick [1] (by decide) hS⟩
theorem Ph (F:Nat) (p0:volume_thing) (p1:volume_writer) (res:volume_writer) (h:Jr F p0 p1=some res) (μ:Frz) (w0 w1:World) (T_:List Res) (hlow:B4 w0 μ) {v:Value} {cb1:Nat} {ad1:Option Addr} {cap2:Nat} (hv:volume_thing.R μ v p0) (hS:St w0 (fz w0 μ::blk cb1 138 #[sv ad1 p1.b cap2]::arrT 5 1 (fK .u8) ad1 p1.b.length cap2 p1.b::T_) w1):Zp Tryz.prog v "radome/volume.write" #[pb cb1] (fun f gs=>Bj Tryz.prog f gs w1 (fun e w=>∃(ν_:Frz) (ad3:Option Addr) (cap4:Nat),μ.ext w0.heap.size ν_∧B4 w0 ν_∧e=(.tuple #[])∧St w0 (fz w0 ν_::blk cb1 138 #[sv ad3 res.b cap4]::arrT 5 1 (fK .u8) ad3 res.b.length cap4 res.b::T_) w)):=by
 cases p0 with
 | nil_=>cases h
 | ic156 y =>
  obtain ⟨cs,rfl,hr⟩:=hv
  obtain ⟨ad5,cap6,css7,rfl,hA8⟩:=hr
  exact ⟨166,#[.agg #[.string y.Sweep.Site.Name,iv y.Sweep.Site.X,iv y.Sweep.Site.Y,iv y.Sweep.Site.Z,iv y.Sweep.Site.Rose,iv y.Sweep.Site.Gates,iv y.Sweep.Site.Step,iv y.Sweep.Site.Width,iv y.Sweep.Tilt,iv y.Sweep.Time,sv ad5 y.Sweep.Rays cap6],pb cb1],by kernel_rfl,Pf F y p1 _ h μ w0 w1 T_ hlow hA8 hS⟩
 | ic158 y =>
  obtain ⟨cs,rfl,hr⟩:=hv
  obtain ⟨ad9,a0,rfl,a1⟩:=hr
  exact ⟨180,#[.agg #[.string y.key,iv y.time,iv y.Field.Grid.X,iv y.Field.Grid.Y,iv y.Field.Grid.Size,iv y.Field.Grid.Wide,iv y.Field.Grid.High,sv ad9 y.Field.Vals a0],pb cb1],by kernel_rfl,Pe F y p1 _ h μ w0 w1 T_ hlow a1 hS⟩
 | ic160 y =>
  obtain ⟨cs,rfl,hr⟩:=hv
  obtain rfl:=hr
  exact ⟨188,#[.agg #[iv y.time,.string y.text],pb cb1],by kernel_rfl,Q5 F y p1 _ h μ w0 w1 T_ hlow hS⟩
theorem Sw (F:Nat) (p0:volume_thing) (res:(List Int)) (h:J1 F p0=some res) (μ:Frz) (w0:World) (hm:FrzAt μ w0) {v1:Value} (hA2:volume_thing.R μ v1 p0):Bj Tryz.prog 42 #[v1] w0 (fun e w=>∃zad0 zcap0,e=(sv zad0 res zcap0)∧St w0 [arr 5 1 (fK .u8) zad0 res.length zcap0 res] w):=by
 obtain ⟨hlow,hS⟩:=hm.init
 have hext:=Frz.ext_refl w0.heap.size μ
 rw [J1] at h
 refine Ag Tryz.func42 rfl 29 [(0,v1)] rfl rfl kr fun a w hw hF=>?_
 replace hS:=hS.cast hw
 clear hw
 refine rnB [(0,v1)] hF fun a hF=>?_
 refine esr ?_
 refine SK.wi (qA 138 #[.slice none 0 0] (fun b3=>[(3,pb b3)]) hF hS fun b3 w a hF hS=>?_)
 refine SK.wi (qA 138 #[.slice none 0 0] (fun b4=>[(4,pb b4)]) hF hS fun b4 w a hF hS=>?_)
 refine wfn rfl ?_
 refine esr ?_
 refine qn 1 1 [(5,v1)] hF fun a hF=>?_
 replace hS:=hS.nilT 5 1 (fK .u8)
 obtain ⟨y5,hy5,h⟩:=A1 h
 replace hS:=hS.s2.s3
 refine SK.wi (X4 (fun v8=>[(3,pb b3),(4,pb b4)]) hF kr ⟨kr⟩ (Ph F _ _ _ hy5 μ w0 w _ hlow hA2 hS) (fun _=>⟨kr⟩) ?_)
 rintro v8 w a ⟨ν6,ad9,a9,hx7,hlow,rfl,hS⟩ hF
 replace hext:=Frz.ext_trans hext hx7
 replace hA2:=hA2.mono hx7.1
 refine wfn rfl ?_
 refine esr ?_
 refine ro 3 3 [(3,pb b3),(4,pb b4),(9,iv (ln y5.b))] hF (oL 22 1 0 hS.i rfl rfl<|A9) fun a hF=>?_
 refine SK.wi (Fe (e:=3) (sz:=1) (f:=fI) (t:=69) (len:=1) (fun aD=>[(3,pb b3),(4,pb b4),(10,sb aD 1)]) #[(0,iv (ln y5.b))] #[iv (ln y5.b)] ([(ln y5.b)]) hF hS kr ⟨kr⟩ kr Fu rfl rfl kr (fun _=>⟨kr⟩) fun aD w a hF hS=>?_)
 replace hS:=hS.nilT 5 1 (fK .u8)
 obtain ⟨ν12,aE,hlow,hS,aO⟩:=hS.freeze (i:=2) (j:=1) rfl rfl (by decide) hlow
 replace hA2:=hA2.mono aE.1
 replace hext:=Frz.ext_trans hext aE
 have aA:=ArrM.of_arr aO
 obtain ⟨aG,aM,h⟩:=A1 h
 replace hS:=hS.s4.s2
 refine SK.wi (rR (fun aP=>[(3,pb b3),(4,pb b4)]) hF (As F _ _ _ aM ν12 w0 w _ hlow aA hS) ?_)
 rintro aP w a ⟨ν17,aH,aI,aB,hlow,rfl,hS⟩ hF
 replace hext:=Frz.ext_trans hext aB
 replace hA2:=hA2.mono aB.1
 replace aA:=aA.mono aB.1
 refine wfn rfl ?_
 refine esr ?_
 refine qo 4 4 [(13,sv aH aG.b aI),(15,sv ad9 y5.b a9)] hF (oL 22 1 0 hS.i rfl rfl<|oL 22 3 0 hS.i rfl rfl<|A9) fun a hF=>?_
 obtain ⟨a0,aJ,h⟩:=A1 h
 refine SK.wi (Ri (t:=22) (ty:=22) (bytes:=1) (l:=aG.b) (l':=y5.b) (fun a1 a2=>[(4,pb b4),(16,sv a1 a0 a2)]) 2 hF hS rfl kr ⟨kr⟩ kr (hS.arrT_ (i:=4) rfl) (fun _ _=>rfl) aJ (fun _ _=>⟨kr⟩) fun a1 a2 w a hF hS=>?_)
 refine rn 1 6 [(4,pb b4),(16,sv a1 a0 a2),(17,pb b4)] hF fun a hF=>?_
 refine SK.wi (qs 22 1 0 (sv a1 a0 a2) hF hS rfl fun w a hF hS=>?_)
 refine wfn rfl ?_
 refine Ar ?_
 obtain ⟨aQ,aN,h⟩:=A1 h
 refine Bt 5 [4] _ (D:=fun w=>St w0 [blk b4 138 #[sv a1 a0 a2],arrT 5 1 (fK .u8) a1 a0.length a2 a0,blk b3 138 #[sv ad9 y5.b a9],arrT 5 1 (fK .u8) ad9 y5.b.length a9 y5.b] w∧FrzAt ν17 w) kr kr hF.size (fun w hx=>?_) (fun _ _ h=>h)
 replace hS:=hS.later hx
 refine ⟨⟨St.pick [1,2,3,4] (by decide) hS,hS.frz (i:=0) rfl hlow⟩,?_⟩
 have aT:=Frz.le_refl ν17
 refine WT.s [0,1,2,3] [4] kr kr ?_
 refine qC 4 [(19,sv a1 a0 a2),(21,sv a1 a0 a2)] hF (oL 22 0 0 (fun _ hd=>hd.1) rfl rfl<|oL 22 0 0 (fun _ hd=>hd.1) rfl rfl<|A9) fun a hF=>?_
 refine WRun.fin ?_
 refine all_cons ?_ (At)
 refine qR (fun aF=>[(22,aF)]) hF (Qt F _ _ aN (Ay w) w (A5 w) (Arr.toM (hS.arrT_ (i:=2) rfl))) ?_
 rintro aF w a ⟨aR,aS,rfl,hQ⟩ hF
 replace hS:=hS.madeL hQ
 refine ⟨⟨St.pick [2,3,4,5] (by decide) hS,(hS.frz (i:=1) rfl hlow)⟩,?_⟩
 refine WT.z [] kr ?_
 refine WRun.fin ?_
 obtain ⟨a5,aK,h⟩:=A1 h
 refine SK.wi (Ri (t:=22) (ty:=22) (bytes:=1) (l:=a0) (l':=aQ) (fun a3 a4=>[(4,pb b4),(23,sv a3 a5 a4)]) 3 hF hS rfl kr ⟨kr⟩ kr (hS.arr (i:=0) rfl) (fun _ _=>rfl) aK (fun _ _=>⟨kr⟩) fun a3 a4 w a hF hS=>?_)
 refine rn 1 7 [(4,pb b4),(23,sv a3 a5 a4),(24,pb b4)] hF fun a hF=>?_
 refine SK.wi (qs 22 2 0 (sv a3 a5 a4) hF hS rfl fun w a hF hS=>?_)
 refine wfn rfl ?_
 refine esr ?_
 refine SK.wi (Fe (e:=5) (sz:=1) (f:=(fK .u8)) (t:=22) (len:=1) (fun a8=>[(4,pb b4),(25,sb a8 1)]) #[(0,.int .u8 0)] #[.int .u8 0] ([0]) hF hS kr ⟨kr⟩ kr (Bx .u8) rfl rfl kr (fun _=>⟨kr⟩) fun a8 w a hF hS=>?_)
 refine ro 2 3 [(25,sb a8 1),(27,sv a3 a5 a4)] hF (oL 22 3 0 hS.i rfl rfl<|A9) fun a hF=>?_
 obtain ⟨aC,aL,h⟩:=A1 h
 refine SK.wi (Lq (t:=22) (ty:=22) (bytes:=1) (l:=([0])) (l':=a5) (fun a6 a7=>[(28,sv a6 aC a7)]) 0 hF hS rfl kr ⟨kr⟩ kr (hS.arrT_ (i:=4) rfl) (fun _ _=>rfl) aL (fun _ _=>⟨kr⟩) fun a6 a7 w a hF hS=>?_)
 refine rn 1 5 [(2,sv a6 aC a7)] hF fun a hF=>?_
 refine wfn rfl ?_
 refine wpIn_ret (Ad [.tmp 2] [sv a6 aC a7] hF rfl ⟨rfl,trivial⟩ ?_)
 obtain rfl:=Ao h
 exact ⟨_,rfl,_,_,rfl,St.pick [0] (by decide) hS⟩
end Go.Proofs.YtifbomimeodibaaGreat
