import Derived.Test.YtifbomimeodibaaGreatV3XD
import Derived.Test.YtifbomimeodibaaGreatProg
import Derived.Test.YtifbomimeodibaaGreatV3XW0
import Derived.Test.YtifbomimeodibaaGreatV3XW6
namespace Go.Proofs.YtifbomimeodibaaGreat
open Go Go.RowKit Go.Eng
set_option maxRecDepth 10000
set_option maxHeartbeats 4000000
set_option linter.unusedVariables false
set_option linter.unusedSimpArgs false
theorem Q1 (F:Nat) (p0:ref12_Item) (res:Int) (h:Ef F p0=some res) (μ:Frz) (w0:World) (hm:FrzAt μ w0) {ad1:Option Addr} {cap2:Nat} {css3:List (List Value)} {ad4:Option Addr} {cap5:Nat} (hA6:ArrQ μ 1 Rp87 ad1 cap2 css3 p0.Sweep.Rays) (hA7:ArrM μ 2 api_Span.cells ad4 cap5 p0.Field.Vals):Calls Tryz.prog 20 #[.agg #[iv p0.Kind,.string p0.Name,iv p0.Time,.string p0.Sweep.Site.Name,iv p0.Sweep.Site.X,iv p0.Sweep.Site.Y,iv p0.Sweep.Site.Z,iv p0.Sweep.Site.Rose,iv p0.Sweep.Site.Gates,iv p0.Sweep.Site.Step,iv p0.Sweep.Site.Width,iv p0.Sweep.Tilt,iv p0.Sweep.Time,sv ad1 p0.Sweep.Rays cap2,iv p0.Field.Grid.X,iv p0.Field.Grid.Y,iv p0.Field.Grid.Size,iv p0.Field.Grid.Wide,iv p0.Field.Grid.High,sv ad4 p0.Field.Vals cap5,.string p0.Text]] w0 (fun e w=>e=.returned (iv res)∧Ext w0 w):=by
 obtain ⟨hlow,hS⟩:=hm.init
 have hext:=Frz.ext_refl w0.heap.size μ
 rw [Ef] at h
 refine Ah Tryz.func20 rfl 117 [(0,.agg #[iv p0.Kind,.string p0.Name,iv p0.Time,.string p0.Sweep.Site.Name,iv p0.Sweep.Site.X,iv p0.Sweep.Site.Y,iv p0.Sweep.Site.Z,iv p0.Sweep.Site.Rose,iv p0.Sweep.Site.Gates,iv p0.Sweep.Site.Step,iv p0.Sweep.Site.Width,iv p0.Sweep.Tilt,iv p0.Sweep.Time,sv ad1 p0.Sweep.Rays cap2,iv p0.Field.Grid.X,iv p0.Field.Grid.Y,iv p0.Field.Grid.Size,iv p0.Field.Grid.Wide,iv p0.Field.Grid.High,sv ad4 p0.Field.Vals cap5,.string p0.Text])] rfl rfl kr fun a w hw hF=>?_
 replace hS:=hS.cast hw
 clear hw
 refine esr ?_
 refine SK.wi (Ld (t:=49) (fun b8=>[(1,pb b8)]) (.agg #[iv p0.Kind,.string p0.Name,iv p0.Time,.string p0.Sweep.Site.Name,iv p0.Sweep.Site.X,iv p0.Sweep.Site.Y,iv p0.Sweep.Site.Z,iv p0.Sweep.Site.Rose,iv p0.Sweep.Site.Gates,iv p0.Sweep.Site.Step,iv p0.Sweep.Site.Width,iv p0.Sweep.Tilt,iv p0.Sweep.Time,sv ad1 p0.Sweep.Rays cap2,iv p0.Field.Grid.X,iv p0.Field.Grid.Y,iv p0.Field.Grid.Size,iv p0.Field.Grid.Wide,iv p0.Field.Grid.High,sv ad4 p0.Field.Vals cap5,.string p0.Text]) #[iv p0.Kind,.string p0.Name,iv p0.Time,.string p0.Sweep.Site.Name,iv p0.Sweep.Site.X,iv p0.Sweep.Site.Y,iv p0.Sweep.Site.Z,iv p0.Sweep.Site.Rose,iv p0.Sweep.Site.Gates,iv p0.Sweep.Site.Step,iv p0.Sweep.Site.Width,iv p0.Sweep.Tilt,iv p0.Sweep.Time,sv ad1 p0.Sweep.Rays cap2,iv p0.Field.Grid.X,iv p0.Field.Grid.Y,iv p0.Field.Grid.Size,iv p0.Field.Grid.Wide,iv p0.Field.Grid.High,sv ad4 p0.Field.Vals cap5,.string p0.Text] hF hS kr ⟨kr⟩ kr (fun _=>⟨kr⟩) fun b8 w a hF hS=>?_)
 refine rn 1 2 [(1,pb b8)] hF fun a hF=>?_
 refine wfn rfl ?_
 refine Ar ?_
 refine qoB [(17,.bool (bif (bif (p0.Kind != 1) then (p0.Kind != 2) else false) then (p0.Kind != 3) else false))] hF (oL 3 0 0 hS.i rfl rfl<|oX (.run [⟨8,true,(p0.Kind != 1)⟩] (Instr.loadAt 3 (pb b8)) (iv p0.Kind)) (ob1 kr (fun _ hd=>(hS.at_ hd).cell (i:=0) (j:=0) rfl rfl))<|oX (.run [⟨13,true,(bif (p0.Kind != 1) then (p0.Kind != 2) else false)⟩] (Instr.loadAt 3 (pb b8)) (iv p0.Kind)) (ob1 kr (fun _ hd=>(hS.at_ hd).cell (i:=0) (j:=0) rfl rfl))<|A9) fun a hF=>?_
 refine Ai hF rfl (fun hc=>?_) (fun hc=>?_)
 ·replace h:=Ag h hc
  refine rnB [(2,iv 2)] hF fun a hF=>?_
  refine wpIn_ret (A5<|Ab [.tmp 2] [iv 2] hF rfl ⟨rfl,trivial⟩ ?_)
  obtain rfl:=Ao h
  exact ⟨rfl,hS.ext⟩
 ·replace h:=Af h hc
  refine wpIn_skip (A0 ?_)
  refine Ar ?_
  refine esr ?_
  refine qx 45 45 [(62,.bool (bif (bif (bif (bif (p0.Kind != 1) then (!(Bi p0.Sweep)) else false) then true else (bif (p0.Kind != 2) then (bif (!(Bv p0.Field)) then true else (!(sEq p0.Name (⟨#[]⟩:ByteArray)))) else false)) then true else (bif (p0.Kind != 3) then (!(sEq p0.Text (⟨#[]⟩:ByteArray))) else false)) then true else (bif (p0.Kind==1) then (p0.Time != 0) else false)))] hF (oL 3 0 0 hS.e rfl rfl<|oX (.run [⟨21,true,(p0.Kind != 1)⟩] (Instr.loadAt 41 (.pointer (some ⟨b8,3,none⟩))) (.agg #[.string p0.Sweep.Site.Name,iv p0.Sweep.Site.X,iv p0.Sweep.Site.Y,iv p0.Sweep.Site.Z,iv p0.Sweep.Site.Rose,iv p0.Sweep.Site.Gates,iv p0.Sweep.Site.Step,iv p0.Sweep.Site.Width,iv p0.Sweep.Tilt,iv p0.Sweep.Time,sv ad1 p0.Sweep.Rays cap2])) (obN (us:=[.string p0.Sweep.Site.Name,iv p0.Sweep.Site.X,iv p0.Sweep.Site.Y,iv p0.Sweep.Site.Z,iv p0.Sweep.Site.Rose,iv p0.Sweep.Site.Gates,iv p0.Sweep.Site.Step,iv p0.Sweep.Site.Width,iv p0.Sweep.Tilt,iv p0.Sweep.Time,sv ad1 p0.Sweep.Rays cap2]) kr (fun _ hd=>((hS.later hd).blk (i:=0) rfl).cells rfl))<|oX (.call [⟨21,true,(p0.Kind != 1)⟩] 44 #[.agg #[.string p0.Sweep.Site.Name,iv p0.Sweep.Site.X,iv p0.Sweep.Site.Y,iv p0.Sweep.Site.Z,iv p0.Sweep.Site.Rose,iv p0.Sweep.Site.Gates,iv p0.Sweep.Site.Step,iv p0.Sweep.Site.Width,iv p0.Sweep.Tilt,iv p0.Sweep.Time,sv ad1 p0.Sweep.Rays cap2]] (.bool (Bi p0.Sweep))) (show Ob.ok _ Ext _ _ from fun hk w2 hd=>S9 p0.Sweep _ rfl _ w2 (Ae w2) (hA6.mono Rp87.mono (FrzAt.le_mem ((hS.later hd).frz (i:=1) rfl hlow))))<|oX (.run [⟨27,false,(bif (p0.Kind != 1) then (!(Bi p0.Sweep)) else false)⟩] (Instr.loadAt 3 (pb b8)) (iv p0.Kind)) (ob1 kr (fun _ hd=>(hS.later hd).cell (i:=0) (j:=0) rfl rfl))<|oX (.run [⟨31,true,(p0.Kind != 2)⟩,⟨27,false,(bif (p0.Kind != 1) then (!(Bi p0.Sweep)) else false)⟩] (Instr.loadAt 46 (.pointer (some ⟨b8,14,none⟩))) (.agg #[iv p0.Field.Grid.X,iv p0.Field.Grid.Y,iv p0.Field.Grid.Size,iv p0.Field.Grid.Wide,iv p0.Field.Grid.High,sv ad4 p0.Field.Vals cap5])) (obN (us:=[iv p0.Field.Grid.X,iv p0.Field.Grid.Y,iv p0.Field.Grid.Size,iv p0.Field.Grid.Wide,iv p0.Field.Grid.High,sv ad4 p0.Field.Vals cap5]) kr (fun _ hd=>((hS.later hd).blk (i:=0) rfl).cells rfl))<|oX (.call [⟨31,true,(p0.Kind != 2)⟩,⟨27,false,(bif (p0.Kind != 1) then (!(Bi p0.Sweep)) else false)⟩] 45 #[.agg #[iv p0.Field.Grid.X,iv p0.Field.Grid.Y,iv p0.Field.Grid.Size,iv p0.Field.Grid.Wide,iv p0.Field.Grid.High,sv ad4 p0.Field.Vals cap5]] (.bool (Bv p0.Field))) (show Ob.ok _ Ext _ _ from fun hk w2 hd=>S8 p0.Field _ rfl _ w2 (Ae w2) (hA7.mono (FrzAt.le_mem ((hS.later hd).frz (i:=1) rfl hlow))))<|oX (.run [⟨36,false,(!(Bv p0.Field))⟩,⟨31,true,(p0.Kind != 2)⟩,⟨27,false,(bif (p0.Kind != 1) then (!(Bi p0.Sweep)) else false)⟩] (Instr.loadAt 9 (.pointer (some ⟨b8,1,none⟩))) (.string p0.Name)) (ob1 kr (fun _ hd=>(hS.later hd).cell (i:=0) (j:=1) rfl rfl))<|oX (.run [⟨36,false,(!(Bv p0.Field))⟩,⟨31,true,(p0.Kind != 2)⟩,⟨27,false,(bif (p0.Kind != 1) then (!(Bi p0.Sweep)) else false)⟩] (Pe .neq 9 p0.Name (⟨#[]⟩:ByteArray)) (.bool (!(sEq p0.Name (⟨#[]⟩:ByteArray))))) Qp<|oX (.run [⟨43,false,(bif (bif (p0.Kind != 1) then (!(Bi p0.Sweep)) else false) then true else (bif (p0.Kind != 2) then (bif (!(Bv p0.Field)) then true else (!(sEq p0.Name (⟨#[]⟩:ByteArray)))) else false))⟩] (Instr.loadAt 3 (pb b8)) (iv p0.Kind)) (ob1 kr (fun _ hd=>(hS.later hd).cell (i:=0) (j:=0) rfl rfl))<|oX (.run [⟨47,true,(p0.Kind != 3)⟩,⟨43,false,(bif (bif (p0.Kind != 1) then (!(Bi p0.Sweep)) else false) then true else (bif (p0.Kind != 2) then (bif (!(Bv p0.Field)) then true else (!(sEq p0.Name (⟨#[]⟩:ByteArray)))) else false))⟩] (Instr.loadAt 9 (.pointer (some ⟨b8,20,none⟩))) (.string p0.Text)) (ob1 kr (fun _ hd=>(hS.later hd).cell (i:=0) (j:=20) rfl rfl))<|oX (.run [⟨47,true,(p0.Kind != 3)⟩,⟨43,false,(bif (bif (p0.Kind != 1) then (!(Bi p0.Sweep)) else false) then true else (bif (p0.Kind != 2) then (bif (!(Bv p0.Field)) then true else (!(sEq p0.Name (⟨#[]⟩:ByteArray)))) else false))⟩] (Pe .neq 9 p0.Text (⟨#[]⟩:ByteArray)) (.bool (!(sEq p0.Text (⟨#[]⟩:ByteArray))))) Qp<|oX (.run [⟨53,false,(bif (bif (bif (p0.Kind != 1) then (!(Bi p0.Sweep)) else false) then true else (bif (p0.Kind != 2) then (bif (!(Bv p0.Field)) then true else (!(sEq p0.Name (⟨#[]⟩:ByteArray)))) else false)) then true else (bif (p0.Kind != 3) then (!(sEq p0.Text (⟨#[]⟩:ByteArray))) else false))⟩] (Instr.loadAt 3 (pb b8)) (iv p0.Kind)) (ob1 kr (fun _ hd=>(hS.later hd).cell (i:=0) (j:=0) rfl rfl))<|oX (.run [⟨57,true,(p0.Kind==1)⟩,⟨53,false,(bif (bif (bif (p0.Kind != 1) then (!(Bi p0.Sweep)) else false) then true else (bif (p0.Kind != 2) then (bif (!(Bv p0.Field)) then true else (!(sEq p0.Name (⟨#[]⟩:ByteArray)))) else false)) then true else (bif (p0.Kind != 3) then (!(sEq p0.Text (⟨#[]⟩:ByteArray))) else false))⟩] (Instr.loadAt 3 (.pointer (some ⟨b8,2,none⟩))) (iv p0.Time)) (ob1 kr (fun _ hd=>(hS.later hd).cell (i:=0) (j:=2) rfl rfl))<|A9) fun a w hF hx=>?_
  replace hS:=hS.later hx
  refine wfn rfl ?_
  refine Ai hF rfl (fun hc=>?_) (fun hc=>?_)
  ·replace h:=Ag h hc
   refine rnB [(2,iv 2)] hF fun a hF=>?_
   refine wpIn_ret (A5<|Ab [.tmp 2] [iv 2] hF rfl ⟨rfl,trivial⟩ ?_)
   obtain rfl:=Ao h
   exact ⟨rfl,hS.ext⟩
  ·replace h:=Af h hc
   refine wpIn_skip (A0 ?_)
   refine esr ?_
   refine qx 4 4 [(3,.bool (A8 p0.Time 0 4294967296))] hF (oL 3 0 2 hS.e rfl rfl<|oC (fun w2 hd=>Ca p0.Time 0 4294967296 _ rfl _ w2 (Ae w2))<|A9) fun a w hF hx=>?_
   replace hS:=hS.later hx
   refine wfn rfl ?_
   refine Ar ?_
   refine wpIn_block ?_
   refine qoB [(66,.bool (p0.Kind==1))] hF (oL 3 0 0 hS.i rfl rfl<|A9) fun a hF=>?_
   refine Ai hF rfl (fun hc=>?_) (fun hc=>?_)
   ·replace h:=Ag h hc
    refine esr ?_
    obtain ⟨y9,hy9,h⟩:=A1 h
    refine rX 4 4 [(2,iv y9)] hF (oN 41 0 3 11 hS.e rfl<|oC (fun w2 hd=>Qk F p0.Sweep _ hy9 _ w2 (Ae w2) (hA6.mono Rp87.mono (FrzAt.le_mem ((hS.later hd).frz (i:=1) rfl hlow))))<|A9) fun a w hF hx=>?_
    replace hS:=hS.later hx
    refine wfn rfl ?_
    refine wpIn_ret (Al<|A5<|Ab [.tmp 2] [iv y9] hF rfl ⟨rfl,trivial⟩ ?_)
    obtain rfl:=Ao h
    exact ⟨rfl,hS.ext⟩
   ·replace h:=Af h hc
    refine esr ?_
    obtain ⟨a4,a9,h⟩:=A1 h
    refine qx 10 10 [(73,.bool (bif (p0.Kind==2) then (!a4) else false))] hF (oL 3 0 0 hS.e rfl rfl<|oX (.run [⟨77,true,(p0.Kind==2)⟩] (Instr.loadAt 9 (.pointer (some ⟨b8,1,none⟩))) (.string p0.Name)) (ob1 kr (fun _ hd=>(hS.later hd).cell (i:=0) (j:=1) rfl rfl))<|oX (.call [⟨77,true,(p0.Kind==2)⟩] 48 #[.string p0.Name] (.bool a4)) (show Ob.ok _ Ext _ _ from fun hk w2 hd=>Qr F p0.Name _ ((fun hk=>C9 a9 hk) hk) _ w2 (Ae w2))<|A9) fun a w hF hx=>?_
    replace hS:=hS.later hx
    refine wfn rfl ?_
    refine Ai hF rfl (fun hc=>?_) (fun hc=>?_)
    ·replace h:=Ag h hc
     refine rnB [(2,iv 10)] hF fun a hF=>?_
     refine wpIn_ret (Al<|A5<|Ab [.tmp 2] [iv 10] hF rfl ⟨rfl,trivial⟩ ?_)
     obtain rfl:=Ao h
     exact ⟨rfl,hS.ext⟩
    ·replace h:=Af h hc
     refine qnB [(83,.bool (!(A8 p0.Time 0 4294967296)))] hF fun a hF=>?_
     refine Ai hF rfl (fun hc=>?_) (fun hc=>?_)
     ·replace h:=Ag h hc
      refine rnB [(2,iv 3)] hF fun a hF=>?_
      refine wpIn_ret (Al<|A5<|Ab [.tmp 2] [iv 3] hF rfl ⟨rfl,trivial⟩ ?_)
      obtain rfl:=Ao h
      exact ⟨rfl,hS.ext⟩
     ·replace h:=Af h hc
      refine qoB [(86,.bool (p0.Kind==2))] hF (oL 3 0 0 hS.i rfl rfl<|A9) fun a hF=>?_
      refine Ai hF rfl (fun hc=>?_) (fun hc=>?_)
      ·replace h:=Ag h hc
       refine esr ?_
       obtain ⟨a5,aA,h⟩:=A1 h
       refine rX 4 4 [(2,iv a5)] hF (oN 46 0 14 6 hS.e rfl<|oC (fun w2 hd=>Qj F p0.Field _ aA _ w2 (Ae w2) (hA7.mono (FrzAt.le_mem ((hS.later hd).frz (i:=1) rfl hlow))))<|A9) fun a w hF hx=>?_
       replace hS:=hS.later hx
       refine wfn rfl ?_
       refine wpIn_ret (Al<|A5<|Ab [.tmp 2] [iv a5] hF rfl ⟨rfl,trivial⟩ ?_)
       obtain rfl:=Ao h
       exact ⟨rfl,hS.ext⟩
      ·replace h:=Af h hc
       refine qoB [(93,.bool (decide (((p0.Text.size:Nat):Int)>200)))] hF (oL 9 0 20 hS.i rfl rfl<|A9) fun a hF=>?_
       refine Ai hF rfl (fun hc=>?_) (fun hc=>?_)
       ·replace h:=Ag h hc
        refine rnB [(2,iv 8)] hF fun a hF=>?_
        refine wpIn_ret (Al<|A5<|Ab [.tmp 2] [iv 8] hF rfl ⟨rfl,trivial⟩ ?_)
        obtain rfl:=Ao h
        exact ⟨rfl,hS.ext⟩
       ·replace h:=Af h hc
        refine wpIn_skip (Aa<|A0<|?_)
        refine Dg (fun a w=>Fr 117 [] [] a∧St w0 [blk b8 49 #[iv p0.Kind,.string p0.Name,iv p0.Time,.string p0.Sweep.Site.Name,iv p0.Sweep.Site.X,iv p0.Sweep.Site.Y,iv p0.Sweep.Site.Z,iv p0.Sweep.Site.Rose,iv p0.Sweep.Site.Gates,iv p0.Sweep.Site.Step,iv p0.Sweep.Site.Width,iv p0.Sweep.Tilt,iv p0.Sweep.Time,sv ad1 p0.Sweep.Rays cap2,iv p0.Field.Grid.X,iv p0.Field.Grid.Y,iv p0.Field.Grid.Size,iv p0.Field.Grid.Wide,iv p0.Field.Grid.High,sv ad4 p0.Field.Vals cap5,.string p0.Text],fz w0 μ] w∧Mh=some res) ?_ ?_
        ·skip
         refine qnB [(4,iv 0)] hF fun a hF=>?_
         refine wpIn_block ?_
         refine Cq (fun n_ a w=>∃(a0:Int),Fr 117 [] [(1,pb b8),(4,iv a0)] a∧St w0 [blk b8 49 #[iv p0.Kind,.string p0.Name,iv p0.Time,.string p0.Sweep.Site.Name,iv p0.Sweep.Site.X,iv p0.Sweep.Site.Y,iv p0.Sweep.Site.Z,iv p0.Sweep.Site.Rose,iv p0.Sweep.Site.Gates,iv p0.Sweep.Site.Step,iv p0.Sweep.Site.Width,iv p0.Sweep.Tilt,iv p0.Sweep.Time,sv ad1 p0.Sweep.Rays cap2,iv p0.Field.Grid.X,iv p0.Field.Grid.Y,iv p0.Field.Grid.Size,iv p0.Field.Grid.Wide,iv p0.Field.Grid.High,sv ad4 p0.Field.Vals cap5,.string p0.Text],fz w0 μ] w∧F1 p0 n_ a0=some res) F ⟨0,hF.sub kr,St.pick [0,1] (by decide) hS,h⟩ ?_
         rintro nk2 a w ⟨a0,hF,hS,h⟩
         rcases nk2 with _|nk2
         ·cases (show (none:Option Int)=some res from h)
         obtain ⟨k2,hk2⟩:∃k,k=F1 p0 nk2:=⟨_,rfl⟩
         replace h:Kb p0 k2 a0=some res:=by rw [hk2];exact h
         rw [Kb] at h
         refine Ar ?_
         refine qoB [(102,.bool (decide (a0<((p0.Text.size:Nat):Int))))] hF (oL 9 0 20 hS.i rfl rfl<|A9) fun a hF=>?_
         refine Ai hF rfl (fun hc=>?_) (fun hc=>?_)
         ·replace h:=Ag h hc
          refine wpIn_skip (A0 ?_)
          refine Ar ?_
          refine wpIn_block ?_
          refine esr ?_
          obtain ⟨a1,a6,h⟩:=A1 h
          obtain ⟨a2,a7,h⟩:=A1 h
          refine qo 12 12 [(116,.bool (bif (decide (a1<32)) then true else (decide (a2>126))))] hF (oL 9 0 20 hS.i rfl rfl<|oX (.run [] (Instr.index 9 (.string p0.Text) (iv a0)) (.int .u8 a1)) (R3 kr (fun _=>a6))<|oX (.run [⟨110,false,(decide (a1<32))⟩] (Instr.loadAt 9 (.pointer (some ⟨b8,20,none⟩))) (.string p0.Text)) (ob1 kr (fun _ hd=>(hS.at_ hd).cell (i:=0) (j:=20) rfl rfl))<|oX (.run [⟨110,false,(decide (a1<32))⟩] (Instr.index 9 (.string p0.Text) (iv a0)) (.int .u8 a2)) (R3 kr (fun hk=>C9 a7 hk))<|A9) fun a hF=>?_
          refine wfn rfl ?_
          refine Ai hF rfl (fun hc=>?_) (fun hc=>?_)
          ·replace h:=Ag h hc
           refine rnB [(2,iv 7)] hF fun a hF=>?_
           refine wpIn_ret (Al<|A5<|A5<|Al<|A5<|Ab [.tmp 2] [iv 7] hF rfl ⟨rfl,trivial⟩ ?_)
           obtain rfl:=Ao h
           exact ⟨rfl,hS.ext⟩
          ·replace h:=Af h hc
           refine wpIn_skip (Aa<|A0<|?_)
           refine WI.region ?_
           obtain ⟨a3,a8,h⟩:=A1 h
           refine ro 3 3 [(1,pb b8),(4,iv a3)] hF (oA 3 a8<|A9) fun a hF=>?_
           refine wfn rfl ?_
           rw [hk2] at h
           exact ⟨nk2,Nat.lt_succ_self _,a3,hF.sub kr,St.pick [0,1] (by decide) hS,h⟩
         ·replace h:=Af h hc
          refine wpIn_exit (A7<|A7<|Av<|A0 ?_)
          exact ⟨hF.sub kr,St.pick [0,1] (by decide) hS,h⟩
        rintro a w ⟨hF,hS,h⟩
        rw [Mh] at h
        refine rnB [(2,iv 0)] hF fun a hF=>?_
        refine wpIn_ret (Ab [.tmp 2] [iv 0] hF rfl ⟨rfl,trivial⟩ ?_)
        obtain rfl:=Ao h
        exact ⟨rfl,hS.ext⟩
end Go.Proofs.YtifbomimeodibaaGreat
