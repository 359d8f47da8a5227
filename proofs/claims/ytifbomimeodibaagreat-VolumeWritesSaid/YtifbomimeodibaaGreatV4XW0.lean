import Derived.Test.YtifbomimeodibaaGreatV4XD
import Derived.Test.YtifbomimeodibaaGreatProg
namespace Go.Proofs.YtifbomimeodibaaGreat
open Go Go.RowKit Go.Eng
set_option maxRecDepth 10000
set_option maxHeartbeats 4000000
set_option linter.unusedVariables false
set_option linter.unusedSimpArgs false
theorem Pi (p0:(List Int)) (p1:(List Int)) (res:Bool) (h:Fl p0 p1=res) (μ:Frz) (w0:World) (hm:FrzAt μ w0) {ad1:Option Addr} {cap2:Nat} {ad4:Option Addr} {cap5:Nat} (hA3:ArrM μ 1 (fK .u8) ad1 cap2 p0) (hA6:ArrM μ 1 (fK .u8) ad4 cap5 p1):Calls Tryz.prog 59 #[sv ad1 p0 cap2,sv ad4 p1 cap5] w0 (fun e w=>e=.returned (.bool res)∧Ext w0 w):=by
 obtain ⟨hlow,hS⟩:=hm.init
 have hext:=Frz.ext_refl w0.heap.size μ
 rw [Fl] at h
 refine Ag Tryz.func59 rfl 10 [(0,sv ad1 p0 cap2),(1,sv ad4 p1 cap5)] rfl rfl kr fun a w hw hF=>?_
 replace hS:=hS.cast hw
 clear hw
 refine qnB [] hF fun a hF=>?_
 refine roB [(4,.bool (sEq (bst p0) (bst p1)))] hF (oX (.run [] (convert 22 9 (sv ad1 p0 cap2)) (.string (bst p0))) (Yw kr kr (fun _ hd=>(hA3 _ ((hS.at_ hd).frz (i:=0) rfl hlow))))<|oX (.run [] (convert 22 9 (sv ad4 p1 cap5)) (.string (bst p1))) (Yw kr kr (fun _ hd=>(hA6 _ ((hS.at_ hd).frz (i:=0) rfl hlow))))<|oX (.run [] (Pk .eql 9 (bst p0) (bst p1)) (.bool (sEq (bst p0) (bst p1)))) Yx<|A9) fun a hF=>?_
 refine wpIn_ret (Ad [.tmp 4] [.bool (sEq (bst p0) (bst p1))] hF rfl ⟨rfl,trivial⟩ ?_)
 subst h
 exact ⟨rfl,hS.ext⟩
theorem Hc (F:Nat) (p0:(List Int)) (p1:(List Int)) (res:Bool) (h:Gg F p0 p1=some res) (μ:Frz) (w0:World) (hm:FrzAt μ w0) {ad1:Option Addr} {cap2:Nat} {ad4:Option Addr} {cap5:Nat} (hA3:ArrM μ 1 (fK .u8) ad1 cap2 p0) (hA6:ArrM μ 1 (fK .u8) ad4 cap5 p1):Calls Tryz.prog 18 #[sv ad1 p0 cap2,sv ad4 p1 cap5] w0 (fun e w=>e=.returned (.bool res)∧Ext w0 w):=by
 obtain ⟨hlow,hS⟩:=hm.init
 have hext:=Frz.ext_refl w0.heap.size μ
 rw [Gg] at h
 refine Ag Tryz.func18 rfl 26 [(0,sv ad1 p0 cap2),(1,sv ad4 p1 cap5)] rfl rfl kr fun a w hw hF=>?_
 replace hS:=hS.cast hw
 clear hw
 refine qnB [] hF fun a hF=>?_
 refine Ar ?_
 refine qnB [(10,.bool ((ln p0) != (ln p1)))] hF fun a hF=>?_
 refine Aj hF rfl (fun hc=>?_) (fun hc=>?_)
 ·replace h:=Af h hc
  refine rnB [(4,.bool false)] hF fun a hF=>?_
  refine wpIn_ret (A6<|Ad [.tmp 4] [.bool false] hF rfl ⟨rfl,trivial⟩ ?_)
  obtain rfl:=Ao h
  exact ⟨rfl,hS.ext⟩
 ·replace h:=Ae h hc
  refine wpIn_skip (A0 ?_)
  refine D9 (fun a w=>Fr 26 [] [] a∧St w0 [fz w0 μ] w∧K0=some res) ?_ ?_
  ·skip
   refine qnB [(5,iv 0)] hF fun a hF=>?_
   refine wpIn_block ?_
   refine Ci (fun n_ a w=>∃(a0:Int),Fr 26 [] [(0,sv ad1 p0 cap2),(1,sv ad4 p1 cap5),(5,iv a0)] a∧St w0 [fz w0 μ] w∧G8 p0 p1 n_ a0=some res) F ⟨0,hF.sub kr,St.pick [0] (by decide) hS,h⟩ ?_
   rintro nk2 a w ⟨a0,hF,hS,h⟩
   rcases nk2 with _|nk2
   ·cases (show (none:Option Bool)=some res from h)
   obtain ⟨k2,hk2⟩:∃k,k=G8 p0 p1 nk2:=⟨_,rfl⟩
   replace h:Jz p0 p1 k2 a0=some res:=by rw [hk2];exact h
   rw [Jz] at h
   refine Ar ?_
   refine qnB [(14,.bool (decide (a0<(ln p0))))] hF fun a hF=>?_
   refine Aj hF rfl (fun hc=>?_) (fun hc=>?_)
   ·replace h:=Af h hc
    refine wpIn_skip (A0 ?_)
    refine Ar ?_
    refine wpIn_block ?_
    refine Ar ?_
    obtain ⟨a5,a1,h⟩:=A1 h
    obtain ⟨a6,a2,h⟩:=A1 h
    refine qD 9 [(25,.bool (a5 != a6))] hF (oI 22 (hA3 _ (hS.frz (i:=0) rfl hlow)) a1<|oE 5 0 (Bx .u8) (fun _ hd=>(hA3 _ ((hS.later hd).frz (i:=0) rfl hlow))) a1 rfl<|oI 22 (hA6 _ (hS.frz (i:=0) rfl hlow)) a2<|oE 5 0 (Bx .u8) (fun _ hd=>(hA6 _ ((hS.later hd).frz (i:=0) rfl hlow))) a2 rfl<|A9) fun a w hF hx=>?_
    replace hS:=hS.later hx
    refine wfn rfl ?_
    refine Aj hF rfl (fun hc=>?_) (fun hc=>?_)
    ·replace h:=Af h hc
     refine rnB [(4,.bool false)] hF fun a hF=>?_
     refine wpIn_ret (Ai<|A6<|A6<|Ai<|A6<|Ad [.tmp 4] [.bool false] hF rfl ⟨rfl,trivial⟩ ?_)
     obtain rfl:=Ao h
     exact ⟨rfl,hS.ext⟩
    ·replace h:=Ae h hc
     refine wpIn_skip (Ab<|A0<|?_)
     refine WI.region ?_
     obtain ⟨a3,a4,h⟩:=A1 h
     refine ro 3 3 [(0,sv ad1 p0 cap2),(1,sv ad4 p1 cap5),(5,iv a3)] hF (oA 3 a4<|A9) fun a hF=>?_
     refine wfn rfl ?_
     rw [hk2] at h
     exact ⟨nk2,Nat.lt_succ_self _,a3,hF.sub kr,St.pick [0] (by decide) hS,h⟩
   ·replace h:=Ae h hc
    refine wpIn_exit (Aa<|Aa<|Av<|A0 ?_)
    exact ⟨hF.sub kr,St.pick [0] (by decide) hS,h⟩
  rintro a w ⟨hF,hS,h⟩
  rw [K0] at h
  refine rnB [(4,.bool true)] hF fun a hF=>?_
  refine wpIn_ret (Ad [.tmp 4] [.bool true] hF rfl ⟨rfl,trivial⟩ ?_)
  obtain rfl:=Ao h
  exact ⟨rfl,hS.ext⟩
theorem Tl (F:Nat) (p0:api_Sweep) (p1:api_Sweep) (res:Bool) (h:Pn F p0 p1=some res) (μ:Frz) (w0:World) (hm:FrzAt μ w0) {ad1:Option Addr} {cap2:Nat} {css3:List (List Value)} {ad5:Option Addr} {cap6:Nat} {css7:List (List Value)} (hA4:ArrQ μ 1 Rp87 ad1 cap2 css3 p0.Rays) (hA8:ArrQ μ 1 Rp87 ad5 cap6 css7 p1.Rays):Calls Tryz.prog 60 #[.agg #[.string p0.Site.Name,iv p0.Site.X,iv p0.Site.Y,iv p0.Site.Z,iv p0.Site.Rose,iv p0.Site.Gates,iv p0.Site.Step,iv p0.Site.Width,iv p0.Tilt,iv p0.Time,sv ad1 p0.Rays cap2],.agg #[.string p1.Site.Name,iv p1.Site.X,iv p1.Site.Y,iv p1.Site.Z,iv p1.Site.Rose,iv p1.Site.Gates,iv p1.Site.Step,iv p1.Site.Width,iv p1.Tilt,iv p1.Time,sv ad5 p1.Rays cap6]] w0 (fun e w=>e=.returned (.bool res)∧Ext w0 w):=by
 obtain ⟨hlow,hS⟩:=hm.init
 have hext:=Frz.ext_refl w0.heap.size μ
 rw [Pn] at h
 refine Ag Tryz.func60 rfl 82 [(0,.agg #[.string p0.Site.Name,iv p0.Site.X,iv p0.Site.Y,iv p0.Site.Z,iv p0.Site.Rose,iv p0.Site.Gates,iv p0.Site.Step,iv p0.Site.Width,iv p0.Tilt,iv p0.Time,sv ad1 p0.Rays cap2]),(1,.agg #[.string p1.Site.Name,iv p1.Site.X,iv p1.Site.Y,iv p1.Site.Z,iv p1.Site.Rose,iv p1.Site.Gates,iv p1.Site.Step,iv p1.Site.Width,iv p1.Tilt,iv p1.Time,sv ad5 p1.Rays cap6])] rfl rfl kr fun a w hw hF=>?_
 replace hS:=hS.cast hw
 clear hw
 refine esr ?_
 refine SK.wi (qB 41 (.agg #[.string p0.Site.Name,iv p0.Site.X,iv p0.Site.Y,iv p0.Site.Z,iv p0.Site.Rose,iv p0.Site.Gates,iv p0.Site.Step,iv p0.Site.Width,iv p0.Tilt,iv p0.Time,sv ad1 p0.Rays cap2]) #[.string p0.Site.Name,iv p0.Site.X,iv p0.Site.Y,iv p0.Site.Z,iv p0.Site.Rose,iv p0.Site.Gates,iv p0.Site.Step,iv p0.Site.Width,iv p0.Tilt,iv p0.Time,sv ad1 p0.Rays cap2] (fun b9=>[(2,pb b9)]) hF hS fun b9 w a hF hS=>?_)
 refine SK.wi (qB 41 (.agg #[.string p1.Site.Name,iv p1.Site.X,iv p1.Site.Y,iv p1.Site.Z,iv p1.Site.Rose,iv p1.Site.Gates,iv p1.Site.Step,iv p1.Site.Width,iv p1.Tilt,iv p1.Time,sv ad5 p1.Rays cap6]) #[.string p1.Site.Name,iv p1.Site.X,iv p1.Site.Y,iv p1.Site.Z,iv p1.Site.Rose,iv p1.Site.Gates,iv p1.Site.Step,iv p1.Site.Width,iv p1.Tilt,iv p1.Time,sv ad5 p1.Rays cap6] (fun a2=>[(3,pb a2)]) hF hS fun a2 w a hF hS=>?_)
 refine qn 1 3 [] hF fun a hF=>?_
 refine wfn rfl ?_
 refine Ar ?_
 refine qoB [(34,.bool (bif (bif (bif (!((p0.Site.Name==p1.Site.Name)&&(((p0.Site.X:Int)==p1.Site.X)&&(((p0.Site.Y:Int)==p1.Site.Y)&&(((p0.Site.Z:Int)==p1.Site.Z)&&(((p0.Site.Rose:Int)==p1.Site.Rose)&&(((p0.Site.Gates:Int)==p1.Site.Gates)&&(((p0.Site.Step:Int)==p1.Site.Step)&&(((p0.Site.Width:Int)==p1.Site.Width)&&true))))))))) then true else (p0.Tilt != p1.Tilt)) then true else (p0.Time != p1.Time)) then true else ((ln p0.Rays) != (ln p1.Rays))))] hF (oN 38 1 0 8 hS.i rfl<|oN 38 0 0 8 hS.i rfl<|oX (.run [] (eqS .neq 38 p0.Site.ar p1.Site.ar) (.bool (!((p0.Site.Name==p1.Site.Name)&&(((p0.Site.X:Int)==p1.Site.X)&&(((p0.Site.Y:Int)==p1.Site.Y)&&(((p0.Site.Z:Int)==p1.Site.Z)&&(((p0.Site.Rose:Int)==p1.Site.Rose)&&(((p0.Site.Gates:Int)==p1.Site.Gates)&&(((p0.Site.Step:Int)==p1.Site.Step)&&(((p0.Site.Width:Int)==p1.Site.Width)&&true))))))))))) (Pa kr kr)<|oX (.run [⟨12,false,(!((p0.Site.Name==p1.Site.Name)&&(((p0.Site.X:Int)==p1.Site.X)&&(((p0.Site.Y:Int)==p1.Site.Y)&&(((p0.Site.Z:Int)==p1.Site.Z)&&(((p0.Site.Rose:Int)==p1.Site.Rose)&&(((p0.Site.Gates:Int)==p1.Site.Gates)&&(((p0.Site.Step:Int)==p1.Site.Step)&&(((p0.Site.Width:Int)==p1.Site.Width)&&true)))))))))⟩] (Instr.loadAt 3 (.pointer (some ⟨b9,8,none⟩))) (iv p0.Tilt)) (ob1 kr (fun _ hd=>(hS.at_ hd).cell (i:=1) (j:=8) rfl rfl))<|oX (.run [⟨12,false,(!((p0.Site.Name==p1.Site.Name)&&(((p0.Site.X:Int)==p1.Site.X)&&(((p0.Site.Y:Int)==p1.Site.Y)&&(((p0.Site.Z:Int)==p1.Site.Z)&&(((p0.Site.Rose:Int)==p1.Site.Rose)&&(((p0.Site.Gates:Int)==p1.Site.Gates)&&(((p0.Site.Step:Int)==p1.Site.Step)&&(((p0.Site.Width:Int)==p1.Site.Width)&&true)))))))))⟩] (Instr.loadAt 3 (.pointer (some ⟨a2,8,none⟩))) (iv p1.Tilt)) (ob1 kr (fun _ hd=>(hS.at_ hd).cell (i:=0) (j:=8) rfl rfl))<|oX (.run [⟨19,false,(bif (!((p0.Site.Name==p1.Site.Name)&&(((p0.Site.X:Int)==p1.Site.X)&&(((p0.Site.Y:Int)==p1.Site.Y)&&(((p0.Site.Z:Int)==p1.Site.Z)&&(((p0.Site.Rose:Int)==p1.Site.Rose)&&(((p0.Site.Gates:Int)==p1.Site.Gates)&&(((p0.Site.Step:Int)==p1.Site.Step)&&(((p0.Site.Width:Int)==p1.Site.Width)&&true))))))))) then true else (p0.Tilt != p1.Tilt))⟩] (Instr.loadAt 3 (.pointer (some ⟨b9,9,none⟩))) (iv p0.Time)) (ob1 kr (fun _ hd=>(hS.at_ hd).cell (i:=1) (j:=9) rfl rfl))<|oX (.run [⟨19,false,(bif (!((p0.Site.Name==p1.Site.Name)&&(((p0.Site.X:Int)==p1.Site.X)&&(((p0.Site.Y:Int)==p1.Site.Y)&&(((p0.Site.Z:Int)==p1.Site.Z)&&(((p0.Site.Rose:Int)==p1.Site.Rose)&&(((p0.Site.Gates:Int)==p1.Site.Gates)&&(((p0.Site.Step:Int)==p1.Site.Step)&&(((p0.Site.Width:Int)==p1.Site.Width)&&true))))))))) then true else (p0.Tilt != p1.Tilt))⟩] (Instr.loadAt 3 (.pointer (some ⟨a2,9,none⟩))) (iv p1.Time)) (ob1 kr (fun _ hd=>(hS.at_ hd).cell (i:=0) (j:=9) rfl rfl))<|oX (.run [⟨26,false,(bif (bif (!((p0.Site.Name==p1.Site.Name)&&(((p0.Site.X:Int)==p1.Site.X)&&(((p0.Site.Y:Int)==p1.Site.Y)&&(((p0.Site.Z:Int)==p1.Site.Z)&&(((p0.Site.Rose:Int)==p1.Site.Rose)&&(((p0.Site.Gates:Int)==p1.Site.Gates)&&(((p0.Site.Step:Int)==p1.Site.Step)&&(((p0.Site.Width:Int)==p1.Site.Width)&&true))))))))) then true else (p0.Tilt != p1.Tilt)) then true else (p0.Time != p1.Time))⟩] (Instr.loadAt 39 (.pointer (some ⟨b9,10,none⟩))) (sv ad1 p0.Rays cap2)) (ob1 kr (fun _ hd=>(hS.at_ hd).cell (i:=1) (j:=10) rfl rfl))<|oX (.run [⟨26,false,(bif (bif (!((p0.Site.Name==p1.Site.Name)&&(((p0.Site.X:Int)==p1.Site.X)&&(((p0.Site.Y:Int)==p1.Site.Y)&&(((p0.Site.Z:Int)==p1.Site.Z)&&(((p0.Site.Rose:Int)==p1.Site.Rose)&&(((p0.Site.Gates:Int)==p1.Site.Gates)&&(((p0.Site.Step:Int)==p1.Site.Step)&&(((p0.Site.Width:Int)==p1.Site.Width)&&true))))))))) then true else (p0.Tilt != p1.Tilt)) then true else (p0.Time != p1.Time))⟩] (Instr.loadAt 39 (.pointer (some ⟨a2,10,none⟩))) (sv ad5 p1.Rays cap6)) (ob1 kr (fun _ hd=>(hS.at_ hd).cell (i:=0) (j:=10) rfl rfl))<|A9) fun a hF=>?_
 refine Aj hF rfl (fun hc=>?_) (fun hc=>?_)
 ·replace h:=Af h hc
  refine rnB [(4,.bool false)] hF fun a hF=>?_
  refine wpIn_ret (A6<|Ad [.tmp 4] [.bool false] hF rfl ⟨rfl,trivial⟩ ?_)
  obtain rfl:=Ao h
  exact ⟨rfl,hS.ext⟩
 ·replace h:=Ae h hc
  refine wpIn_skip (A0 ?_)
  refine D9 (fun a w=>Fr 82 [] [] a∧St w0 [blk a2 41 #[.string p1.Site.Name,iv p1.Site.X,iv p1.Site.Y,iv p1.Site.Z,iv p1.Site.Rose,iv p1.Site.Gates,iv p1.Site.Step,iv p1.Site.Width,iv p1.Tilt,iv p1.Time,sv ad5 p1.Rays cap6],blk b9 41 #[.string p0.Site.Name,iv p0.Site.X,iv p0.Site.Y,iv p0.Site.Z,iv p0.Site.Rose,iv p0.Site.Gates,iv p0.Site.Step,iv p0.Site.Width,iv p0.Tilt,iv p0.Time,sv ad1 p0.Rays cap2],fz w0 μ] w∧Md=some res) ?_ ?_
  ·skip
   refine qnB [(5,iv 0)] hF fun a hF=>?_
   refine wpIn_block ?_
   refine Ci (fun n_ a w=>∃(a3:Int),Fr 82 [] [(2,pb b9),(3,pb a2),(5,iv a3)] a∧St w0 [blk a2 41 #[.string p1.Site.Name,iv p1.Site.X,iv p1.Site.Y,iv p1.Site.Z,iv p1.Site.Rose,iv p1.Site.Gates,iv p1.Site.Step,iv p1.Site.Width,iv p1.Tilt,iv p1.Time,sv ad5 p1.Rays cap6],blk b9 41 #[.string p0.Site.Name,iv p0.Site.X,iv p0.Site.Y,iv p0.Site.Z,iv p0.Site.Rose,iv p0.Site.Gates,iv p0.Site.Step,iv p0.Site.Width,iv p0.Tilt,iv p0.Time,sv ad1 p0.Rays cap2],fz w0 μ] w∧K3 F p0 p1 n_ a3=some res) F ⟨0,hF.sub kr,St.pick [0,1,2] (by decide) hS,h⟩ ?_
   rintro nk2 a w ⟨a3,hF,hS,h⟩
   rcases nk2 with _|nk2
   ·cases (show (none:Option Bool)=some res from h)
   obtain ⟨k2,hk2⟩:∃k,k=K3 F p0 p1 nk2:=⟨_,rfl⟩
   replace h:Mb F p0 p1 k2 a3=some res:=by rw [hk2];exact h
   rw [Mb] at h
   refine Ar ?_
   refine qoB [(39,.bool (decide (a3<(ln p0.Rays))))] hF (oL 39 1 10 hS.i rfl rfl<|A9) fun a hF=>?_
   refine Aj hF rfl (fun hc=>?_) (fun hc=>?_)
   ·replace h:=Af h hc
    refine wpIn_skip (A0 ?_)
    refine D9 (fun a w=>Fr 82 [] [(2,pb b9),(3,pb a2),(5,iv a3)] a∧St w0 [blk a2 41 #[.string p1.Site.Name,iv p1.Site.X,iv p1.Site.Y,iv p1.Site.Z,iv p1.Site.Rose,iv p1.Site.Gates,iv p1.Site.Step,iv p1.Site.Width,iv p1.Tilt,iv p1.Time,sv ad5 p1.Rays cap6],blk b9 41 #[.string p0.Site.Name,iv p0.Site.X,iv p0.Site.Y,iv p0.Site.Z,iv p0.Site.Rose,iv p0.Site.Gates,iv p0.Site.Step,iv p0.Site.Width,iv p0.Tilt,iv p0.Time,sv ad1 p0.Rays cap2],fz w0 μ] w∧Me a3 k2=some res) ?_ ?_
    ·skip
     refine wpIn_block ?_
     refine Ar ?_
     refine Ar ?_
     obtain ⟨aS,aL,h⟩:=A1 h
     obtain ⟨b5,a7,aG⟩:=Bd hA4.2 aL
     obtain ⟨aV,b0,rfl,bB⟩:=aG
     obtain ⟨aT,aM,h⟩:=A1 h
     obtain ⟨b6,a8,aH⟩:=Bd hA8.2 aM
     obtain ⟨aW,b1,rfl,bC⟩:=aH
     refine qD 13 [(54,.bool ((ln aS) != (ln aT)))] hF (oL 39 1 10 hS.e rfl rfl<|oI 39 (hA4.at (hS.frz (i:=2) rfl hlow)) a7<|oE 87 0 (Bz 1) (fun _ hd=>(hA4.at ((hS.later hd).frz (i:=2) rfl hlow))) a7 rfl<|oL 39 0 10 hS.e rfl rfl<|oI 39 (hA8.at (hS.frz (i:=2) rfl hlow)) a8<|oE 87 0 (Bz 1) (fun _ hd=>(hA8.at ((hS.later hd).frz (i:=2) rfl hlow))) a8 rfl<|A9) fun a w hF hx=>?_
     replace hS:=hS.later hx
     refine wfn rfl ?_
     refine Aj hF rfl (fun hc=>?_) (fun hc=>?_)
     ·replace h:=Af h hc
      refine rnB [(4,.bool false)] hF fun a hF=>?_
      refine wpIn_ret (A6<|Ai<|A6<|A6<|Ai<|A6<|Ad [.tmp 4] [.bool false] hF rfl ⟨rfl,trivial⟩ ?_)
      obtain rfl:=Ao h
      exact ⟨rfl,hS.ext⟩
     ·replace h:=Ae h hc
      refine wpIn_skip (A0 ?_)
      refine qnB [(6,iv 0)] hF fun a hF=>?_
      refine wpIn_block ?_
      refine Ci (fun n_ a w=>∃(a4:Int),Fr 82 [] [(2,pb b9),(3,pb a2),(5,iv a3),(6,iv a4)] a∧St w0 [blk a2 41 #[.string p1.Site.Name,iv p1.Site.X,iv p1.Site.Y,iv p1.Site.Z,iv p1.Site.Rose,iv p1.Site.Gates,iv p1.Site.Step,iv p1.Site.Width,iv p1.Tilt,iv p1.Time,sv ad5 p1.Rays cap6],blk b9 41 #[.string p0.Site.Name,iv p0.Site.X,iv p0.Site.Y,iv p0.Site.Z,iv p0.Site.Rose,iv p0.Site.Gates,iv p0.Site.Step,iv p0.Site.Width,iv p0.Tilt,iv p0.Time,sv ad1 p0.Rays cap2],fz w0 μ] w∧K4 p0 p1 a3 k2 n_ a4=some res) F ⟨0,hF.sub kr,St.pick [0,1,2] (by decide) hS,h⟩ ?_
      rintro nk4 a w ⟨a4,hF,hS,h⟩
      rcases nk4 with _|nk4
      ·cases (show (none:Option Bool)=some res from h)
      obtain ⟨k4,hk4⟩:∃k,k=K4 p0 p1 a3 k2 nk4:=⟨_,rfl⟩
      replace h:Mc p0 p1 a3 k2 k4 a4=some res:=by rw [hk4];exact h
      rw [Mc] at h
      refine Ar ?_
      refine esr ?_
      obtain ⟨aU,aN,h⟩:=A1 h
      obtain ⟨b7,a9,aI⟩:=Bd hA4.2 aN
      obtain ⟨aX,b2,rfl,bD⟩:=aI
      refine qo 8 8 [(62,.bool (decide (a4<(ln aU))))] hF (oL 39 1 10 hS.i rfl rfl<|oI 39 (hA4.at (hS.frz (i:=2) rfl hlow)) a9<|oE 87 0 (Bz 1) (fun _ hd=>(hA4.at ((hS.at_ hd).frz (i:=2) rfl hlow))) a9 rfl<|A9) fun a hF=>?_
      refine wfn rfl ?_
      refine Aj hF rfl (fun hc=>?_) (fun hc=>?_)
      ·replace h:=Af h hc
       refine wpIn_skip (A0 ?_)
       refine Ar ?_
       refine wpIn_block ?_
       refine Ar ?_
       obtain ⟨bE,aO,h⟩:=A1 h
       obtain ⟨b8,aA,aJ⟩:=Bd hA4.2 aO
       obtain ⟨aY,b3,rfl,a5⟩:=aJ
       obtain ⟨a0,aC,h⟩:=A1 h
       obtain ⟨bF,aP,h⟩:=A1 h
       obtain ⟨bA,aB,aK⟩:=Bd hA8.2 aP
       obtain ⟨aZ,b4,rfl,a6⟩:=aK
       obtain ⟨a1,aD,h⟩:=A1 h
       refine qD 17 [(81,.bool (!(((a0.Kind:Int)==a1.Kind)&&((((a0.Power.Lo:Int)==a1.Power.Lo)&&(((a0.Power.Hi:Int)==a1.Power.Hi)&&true))&&(((((a0.Steps.1.Lo:Int)==a1.Steps.1.Lo)&&(((a0.Steps.1.Hi:Int)==a1.Steps.1.Hi)&&true))&&((((a0.Steps.2.Lo:Int)==a1.Steps.2.Lo)&&(((a0.Steps.2.Hi:Int)==a1.Steps.2.Hi)&&true))&&true))&&(((a0.Spread:Int)==a1.Spread)&&((((a0.Ratio.Lo:Int)==a1.Ratio.Lo)&&(((a0.Ratio.Hi:Int)==a1.Ratio.Hi)&&true))&&((((a0.Match.Lo:Int)==a1.Match.Lo)&&(((a0.Match.Hi:Int)==a1.Match.Hi)&&true))&&((((a0.Turn.Lo:Int)==a1.Turn.Lo)&&(((a0.Turn.Hi:Int)==a1.Turn.Hi)&&true))&&true)))))))))] hF (oL 39 1 10 hS.e rfl rfl<|oI 39 (hA4.at (hS.frz (i:=2) rfl hlow)) aA<|oE 87 0 (Bz 1) (fun _ hd=>(hA4.at ((hS.later hd).frz (i:=2) rfl hlow))) aA rfl<|oI 87 (a5 _ (hS.frz (i:=2) rfl hlow)) aC<|oG 149 0 14 api_Echo.cells_len (fun _ hd=>(a5 _ ((hS.later hd).frz (i:=2) rfl hlow))) aC<|oL 39 0 10 hS.e rfl rfl<|oI 39 (hA8.at (hS.frz (i:=2) rfl hlow)) aB<|oE 87 0 (Bz 1) (fun _ hd=>(hA8.at ((hS.later hd).frz (i:=2) rfl hlow))) aB rfl<|oI 87 (a6 _ (hS.frz (i:=2) rfl hlow)) aD<|oG 149 0 14 api_Echo.cells_len (fun _ hd=>(a6 _ ((hS.later hd).frz (i:=2) rfl hlow))) aD<|oX (.run [] (eqS .neq 149 a0.ar a1.ar) (.bool (!(((a0.Kind:Int)==a1.Kind)&&((((a0.Power.Lo:Int)==a1.Power.Lo)&&(((a0.Power.Hi:Int)==a1.Power.Hi)&&true))&&(((((a0.Steps.1.Lo:Int)==a1.Steps.1.Lo)&&(((a0.Steps.1.Hi:Int)==a1.Steps.1.Hi)&&true))&&((((a0.Steps.2.Lo:Int)==a1.Steps.2.Lo)&&(((a0.Steps.2.Hi:Int)==a1.Steps.2.Hi)&&true))&&true))&&(((a0.Spread:Int)==a1.Spread)&&((((a0.Ratio.Lo:Int)==a1.Ratio.Lo)&&(((a0.Ratio.Hi:Int)==a1.Ratio.Hi)&&true))&&((((a0.Match.Lo:Int)==a1.Match.Lo)&&(((a0.Match.Hi:Int)==a1.Match.Hi)&&true))&&((((a0.Turn.Lo:Int)==a1.Turn.Lo)&&(((a0.Turn.Hi:Int)==a1.Turn.Hi)&&true))&&true)))))))))) (Pa kr kr)<|A9) fun a w hF hx=>?_
       replace hS:=hS.later hx
       refine wfn rfl ?_
       refine Aj hF rfl (fun hc=>?_) (fun hc=>?_)
       ·replace h:=Af h hc
        refine rnB [(4,.bool false)] hF fun a hF=>?_
        refine wpIn_ret (Ai<|A6<|A6<|Ai<|Ai<|A6<|A6<|Ai<|A6<|Ad [.tmp 4] [.bool false] hF rfl ⟨rfl,trivial⟩ ?_)
        obtain rfl:=Ao h
        exact ⟨rfl,hS.ext⟩
       ·replace h:=Ae h hc
        refine wpIn_skip (Ab<|A0<|?_)
        refine WI.region ?_
        obtain ⟨aF,aR,h⟩:=A1 h
        refine ro 3 3 [(2,pb b9),(3,pb a2),(5,iv a3),(6,iv aF)] hF (oA 3 aR<|A9) fun a hF=>?_
        refine wfn rfl ?_
        rw [hk4] at h
        exact ⟨nk4,Nat.lt_succ_self _,aF,hF.sub kr,St.pick [0,1,2] (by decide) hS,h⟩
      ·replace h:=Ae h hc
       refine wpIn_exit (Aa<|Aa<|Av<|Ab<|A0<|?_)
       exact ⟨hF.sub kr,St.pick [0,1,2] (by decide) hS,h⟩
    rintro a w ⟨hF,hS,h⟩
    rw [Me] at h
    refine WI.region ?_
    obtain ⟨aE,aQ,h⟩:=A1 h
    refine ro 3 3 [(2,pb b9),(3,pb a2),(5,iv aE)] hF (oA 3 aQ<|A9) fun a hF=>?_
    refine wfn rfl ?_
    rw [hk2] at h
    exact ⟨nk2,Nat.lt_succ_self _,aE,hF.sub kr,St.pick [0,1,2] (by decide) hS,h⟩
   ·replace h:=Ae h hc
    refine wpIn_exit (Aa<|Aa<|Av<|A0 ?_)
    exact ⟨hF.sub kr,St.pick [0,1,2] (by decide) hS,h⟩
  rintro a w ⟨hF,hS,h⟩
  rw [Md] at h
  refine rnB [(4,.bool true)] hF fun a hF=>?_
  refine wpIn_ret (Ad [.tmp 4] [.bool true] hF rfl ⟨rfl,trivial⟩ ?_)
  obtain rfl:=Ao h
  exact ⟨rfl,hS.ext⟩
theorem Sc (p0:api_Sweep) (res:Bool) (h:Bb p0=res) (μ:Frz) (w0:World) (hm:FrzAt μ w0) {ad1:Option Addr} {cap2:Nat} {css3:List (List Value)} (hA4:ArrQ μ 1 Rp87 ad1 cap2 css3 p0.Rays):Calls Tryz.prog 44 #[.agg #[.string p0.Site.Name,iv p0.Site.X,iv p0.Site.Y,iv p0.Site.Z,iv p0.Site.Rose,iv p0.Site.Gates,iv p0.Site.Step,iv p0.Site.Width,iv p0.Tilt,iv p0.Time,sv ad1 p0.Rays cap2]] w0 (fun e w=>e=.returned (.bool res)∧Ext w0 w):=by
 obtain ⟨hlow,hS⟩:=hm.init
 have hext:=Frz.ext_refl w0.heap.size μ
 rw [Bb] at h
 refine Ag Tryz.func44 rfl 23 [(0,.agg #[.string p0.Site.Name,iv p0.Site.X,iv p0.Site.Y,iv p0.Site.Z,iv p0.Site.Rose,iv p0.Site.Gates,iv p0.Site.Step,iv p0.Site.Width,iv p0.Tilt,iv p0.Time,sv ad1 p0.Rays cap2])] rfl rfl kr fun a w hw hF=>?_
 replace hS:=hS.cast hw
 clear hw
 refine esr ?_
 refine SK.wi (J6 (t:=41) (fun b5=>[(1,pb b5)]) (.agg #[.string p0.Site.Name,iv p0.Site.X,iv p0.Site.Y,iv p0.Site.Z,iv p0.Site.Rose,iv p0.Site.Gates,iv p0.Site.Step,iv p0.Site.Width,iv p0.Tilt,iv p0.Time,sv ad1 p0.Rays cap2]) #[.string p0.Site.Name,iv p0.Site.X,iv p0.Site.Y,iv p0.Site.Z,iv p0.Site.Rose,iv p0.Site.Gates,iv p0.Site.Step,iv p0.Site.Width,iv p0.Tilt,iv p0.Time,sv ad1 p0.Rays cap2] hF hS kr ⟨kr⟩ kr (fun _=>⟨kr⟩) fun b5 w a hF hS=>?_)
 refine rn 1 2 [(1,pb b5)] hF fun a hF=>?_
 refine wfn rfl ?_
 refine roB [(2,.bool (bif (bif (bif ((p0.Site.Name==ByteArray.empty)&&(((p0.Site.X:Int)==0)&&(((p0.Site.Y:Int)==0)&&(((p0.Site.Z:Int)==0)&&(((p0.Site.Rose:Int)==0)&&(((p0.Site.Gates:Int)==0)&&(((p0.Site.Step:Int)==0)&&(((p0.Site.Width:Int)==0)&&true)))))))) then (p0.Tilt==0) else false) then (p0.Time==0) else false) then ((ln p0.Rays)==0) else false))] hF (oN 38 0 0 8 hS.i rfl<|oX (.run [] (eqS .eql 38 p0.Site.ar #[.string ByteArray.empty,iv 0,iv 0,iv 0,iv 0,iv 0,iv 0,iv 0]) (.bool ((p0.Site.Name==ByteArray.empty)&&(((p0.Site.X:Int)==0)&&(((p0.Site.Y:Int)==0)&&(((p0.Site.Z:Int)==0)&&(((p0.Site.Rose:Int)==0)&&(((p0.Site.Gates:Int)==0)&&(((p0.Site.Step:Int)==0)&&(((p0.Site.Width:Int)==0)&&true)))))))))) (Lf kr kr)<|oX (.run [⟨7,true,((p0.Site.Name==ByteArray.empty)&&(((p0.Site.X:Int)==0)&&(((p0.Site.Y:Int)==0)&&(((p0.Site.Z:Int)==0)&&(((p0.Site.Rose:Int)==0)&&(((p0.Site.Gates:Int)==0)&&(((p0.Site.Step:Int)==0)&&(((p0.Site.Width:Int)==0)&&true))))))))⟩] (Instr.loadAt 3 (.pointer (some ⟨b5,8,none⟩))) (iv p0.Tilt)) (ob1 kr (fun _ hd=>(hS.at_ hd).cell (i:=0) (j:=8) rfl rfl))<|oX (.run [⟨12,true,(bif ((p0.Site.Name==ByteArray.empty)&&(((p0.Site.X:Int)==0)&&(((p0.Site.Y:Int)==0)&&(((p0.Site.Z:Int)==0)&&(((p0.Site.Rose:Int)==0)&&(((p0.Site.Gates:Int)==0)&&(((p0.Site.Step:Int)==0)&&(((p0.Site.Width:Int)==0)&&true)))))))) then (p0.Tilt==0) else false)⟩] (Instr.loadAt 3 (.pointer (some ⟨b5,9,none⟩))) (iv p0.Time)) (ob1 kr (fun _ hd=>(hS.at_ hd).cell (i:=0) (j:=9) rfl rfl))<|oX (.run [⟨17,true,(bif (bif ((p0.Site.Name==ByteArray.empty)&&(((p0.Site.X:Int)==0)&&(((p0.Site.Y:Int)==0)&&(((p0.Site.Z:Int)==0)&&(((p0.Site.Rose:Int)==0)&&(((p0.Site.Gates:Int)==0)&&(((p0.Site.Step:Int)==0)&&(((p0.Site.Width:Int)==0)&&true)))))))) then (p0.Tilt==0) else false) then (p0.Time==0) else false)⟩] (Instr.loadAt 39 (.pointer (some ⟨b5,10,none⟩))) (sv ad1 p0.Rays cap2)) (ob1 kr (fun _ hd=>(hS.at_ hd).cell (i:=0) (j:=10) rfl rfl))<|A9) fun a hF=>?_
 refine wpIn_ret (Ad [.tmp 2] [.bool (bif (bif (bif ((p0.Site.Name==ByteArray.empty)&&(((p0.Site.X:Int)==0)&&(((p0.Site.Y:Int)==0)&&(((p0.Site.Z:Int)==0)&&(((p0.Site.Rose:Int)==0)&&(((p0.Site.Gates:Int)==0)&&(((p0.Site.Step:Int)==0)&&(((p0.Site.Width:Int)==0)&&true)))))))) then (p0.Tilt==0) else false) then (p0.Time==0) else false) then ((ln p0.Rays)==0) else false)] hF rfl ⟨rfl,trivial⟩ ?_)
 subst h
 exact ⟨rfl,hS.ext⟩
theorem Sb (p0:api_Field) (res:Bool) (h:Bq p0=res) (μ:Frz) (w0:World) (hm:FrzAt μ w0) {ad1:Option Addr} {cap2:Nat} (hA3:ArrM μ 2 api_Span.cells ad1 cap2 p0.Vals):Calls Tryz.prog 45 #[.agg #[iv p0.Grid.X,iv p0.Grid.Y,iv p0.Grid.Size,iv p0.Grid.Wide,iv p0.Grid.High,sv ad1 p0.Vals cap2]] w0 (fun e w=>e=.returned (.bool res)∧Ext w0 w):=by
 obtain ⟨hlow,hS⟩:=hm.init
 have hext:=Frz.ext_refl w0.heap.size μ
 rw [Bq] at h
 refine Ag Tryz.func45 rfl 13 [(0,.agg #[iv p0.Grid.X,iv p0.Grid.Y,iv p0.Grid.Size,iv p0.Grid.Wide,iv p0.Grid.High,sv ad1 p0.Vals cap2])] rfl rfl kr fun a w hw hF=>?_
 replace hS:=hS.cast hw
 clear hw
 refine esr ?_
 refine SK.wi (J6 (t:=46) (fun b4=>[(1,pb b4)]) (.agg #[iv p0.Grid.X,iv p0.Grid.Y,iv p0.Grid.Size,iv p0.Grid.Wide,iv p0.Grid.High,sv ad1 p0.Vals cap2]) #[iv p0.Grid.X,iv p0.Grid.Y,iv p0.Grid.Size,iv p0.Grid.Wide,iv p0.Grid.High,sv ad1 p0.Vals cap2] hF hS kr ⟨kr⟩ kr (fun _=>⟨kr⟩) fun b4 w a hF hS=>?_)
 refine rn 1 2 [(1,pb b4)] hF fun a hF=>?_
 refine wfn rfl ?_
 refine roB [(2,.bool (bif (((p0.Grid.X:Int)==0)&&(((p0.Grid.Y:Int)==0)&&(((p0.Grid.Size:Int)==0)&&(((p0.Grid.Wide:Int)==0)&&(((p0.Grid.High:Int)==0)&&true))))) then ((ln p0.Vals)==0) else false))] hF (oN 43 0 0 5 hS.i rfl<|oX (.run [] (eqS .eql 43 p0.Grid.ar #[iv 0,iv 0,iv 0,iv 0,iv 0]) (.bool (((p0.Grid.X:Int)==0)&&(((p0.Grid.Y:Int)==0)&&(((p0.Grid.Size:Int)==0)&&(((p0.Grid.Wide:Int)==0)&&(((p0.Grid.High:Int)==0)&&true))))))) (Lf kr kr)<|oX (.run [⟨7,true,(((p0.Grid.X:Int)==0)&&(((p0.Grid.Y:Int)==0)&&(((p0.Grid.Size:Int)==0)&&(((p0.Grid.Wide:Int)==0)&&(((p0.Grid.High:Int)==0)&&true)))))⟩] (Instr.loadAt 44 (.pointer (some ⟨b4,5,none⟩))) (sv ad1 p0.Vals cap2)) (ob1 kr (fun _ hd=>(hS.at_ hd).cell (i:=0) (j:=5) rfl rfl))<|A9) fun a hF=>?_
 refine wpIn_ret (Ad [.tmp 2] [.bool (bif (((p0.Grid.X:Int)==0)&&(((p0.Grid.Y:Int)==0)&&(((p0.Grid.Size:Int)==0)&&(((p0.Grid.Wide:Int)==0)&&(((p0.Grid.High:Int)==0)&&true))))) then ((ln p0.Vals)==0) else false)] hF rfl ⟨rfl,trivial⟩ ?_)
 subst h
 exact ⟨rfl,hS.ext⟩
theorem C1 (p0:Int) (p1:Int) (p2:Int) (res:Bool) (h:A8 p0 p1 p2=res) (μ:Frz) (w0:World) (hm:FrzAt μ w0):Calls Tryz.prog 46 #[iv p0,iv p1,iv p2] w0 (fun e w=>e=.returned (.bool res)∧Ext w0 w):=by
 obtain ⟨hlow,hS⟩:=hm.init
 have hext:=Frz.ext_refl w0.heap.size μ
 rw [A8] at h
 refine Ag Tryz.func46 rfl 15 [(0,iv p0),(1,iv p1),(2,iv p2)] rfl rfl kr fun a w hw hF=>?_
 replace hS:=hS.cast hw
 clear hw
 refine qnB [] hF fun a hF=>?_
 refine rnB [(6,.bool (bif (decide (p0≥p1)) then (decide (p0≤p2)) else false))] hF fun a hF=>?_
 refine wpIn_ret (Ad [.tmp 6] [.bool (bif (decide (p0≥p1)) then (decide (p0≤p2)) else false)] hF rfl ⟨rfl,trivial⟩ ?_)
 subst h
 exact ⟨rfl,hS.ext⟩
theorem Qq (F:Nat) (p0:ByteArray) (res:Bool) (h:Hf F p0=some res) (μ:Frz) (w0:World) (hm:FrzAt μ w0):Calls Tryz.prog 48 #[.string p0] w0 (fun e w=>e=.returned (.bool res)∧Ext w0 w):=by
 obtain ⟨hlow,hS⟩:=hm.init
 have hext:=Frz.ext_refl w0.heap.size μ
 rw [Hf] at h
 refine Ag Tryz.func48 rfl 50 [(0,.string p0)] rfl rfl kr fun a w hw hF=>?_
 replace hS:=hS.cast hw
 clear hw
 refine qnB [] hF fun a hF=>?_
 refine Ar ?_
 refine esr ?_
 obtain ⟨u1,hu1,h⟩:=A1 h
 obtain ⟨u2,hu2,h⟩:=A1 h
 refine qo 18 18 [(22,.bool (bif (bif (bif (decide (((p0.size:Nat):Int)<1)) then true else (decide (((p0.size:Nat):Int)>12))) then true else (decide (u1<97))) then true else (decide (u2>122))))] hF (oX (.run [⟨13,false,(bif (decide (((p0.size:Nat):Int)<1)) then true else (decide (((p0.size:Nat):Int)>12)))⟩] (Instr.index 9 (.string p0) (iv 0)) (.int .u8 u1)) (R3 kr (fun hk=>Cx hu1 hk))<|oX (.run [⟨18,false,(bif (bif (decide (((p0.size:Nat):Int)<1)) then true else (decide (((p0.size:Nat):Int)>12))) then true else (decide (u1<97)))⟩] (Instr.index 9 (.string p0) (iv 0)) (.int .u8 u2)) (R3 kr (fun hk=>Cx hu2 hk))<|A9) fun a hF=>?_
 refine wfn rfl ?_
 refine Aj hF rfl (fun hc=>?_) (fun hc=>?_)
 ·replace h:=Af h hc
  refine rnB [(2,.bool false)] hF fun a hF=>?_
  refine wpIn_ret (A6<|Ad [.tmp 2] [.bool false] hF rfl ⟨rfl,trivial⟩ ?_)
  obtain rfl:=Ao h
  exact ⟨rfl,hS.ext⟩
 ·replace h:=Ae h hc
  refine wpIn_skip (A0 ?_)
  refine D9 (fun a w=>Fr 50 [] [] a∧St w0 [fz w0 μ] w∧L6=some res) ?_ ?_
  ·skip
   refine qnB [(3,iv 0)] hF fun a hF=>?_
   refine wpIn_block ?_
   refine Ci (fun n_ a w=>∃(a1:Int),Fr 50 [] [(0,.string p0),(3,iv a1)] a∧St w0 [fz w0 μ] w∧H4 p0 n_ a1=some res) F ⟨0,hF.sub kr,St.pick [0] (by decide) hS,h⟩ ?_
   rintro nk2 a w ⟨a1,hF,hS,h⟩
   rcases nk2 with _|nk2
   ·cases (show (none:Option Bool)=some res from h)
   obtain ⟨k2,hk2⟩:∃k,k=H4 p0 nk2:=⟨_,rfl⟩
   replace h:L5 p0 k2 a1=some res:=by rw [hk2];exact h
   rw [L5] at h
   refine Ar ?_
   refine qnB [(26,.bool (decide (a1<((p0.size:Nat):Int))))] hF fun a hF=>?_
   refine Aj hF rfl (fun hc=>?_) (fun hc=>?_)
   ·replace h:=Af h hc
    refine wpIn_skip (A0 ?_)
    refine Ar ?_
    refine wpIn_block ?_
    refine esr ?_
    obtain ⟨a0,a3,h⟩:=A1 h
    refine qo 4 4 [(4,.int .u8 a0)] hF (oX (.run [] (Instr.index 9 (.string p0) (iv a1)) (.int .u8 a0)) (R3 kr (fun _=>a3))<|A9) fun a hF=>?_
    refine wfn rfl ?_
    refine qnB [(49,.bool (bif (bif (bif (decide (a0<97)) then true else (decide (a0>122))) then (bif (decide (a0<48)) then true else (decide (a0>57))) else false) then (a0 != 95) else false))] hF fun a hF=>?_
    refine Aj hF rfl (fun hc=>?_) (fun hc=>?_)
    ·replace h:=Af h hc
     refine rnB [(2,.bool false)] hF fun a hF=>?_
     refine wpIn_ret (Ai<|A6<|A6<|Ai<|A6<|Ad [.tmp 2] [.bool false] hF rfl ⟨rfl,trivial⟩ ?_)
     obtain rfl:=Ao h
     exact ⟨rfl,hS.ext⟩
    ·replace h:=Ae h hc
     refine wpIn_skip (Ab<|A0<|?_)
     refine WI.region ?_
     obtain ⟨a2,a4,h⟩:=A1 h
     refine ro 3 3 [(0,.string p0),(3,iv a2)] hF (oA 3 a4<|A9) fun a hF=>?_
     refine wfn rfl ?_
     rw [hk2] at h
     exact ⟨nk2,Nat.lt_succ_self _,a2,hF.sub kr,St.pick [0] (by decide) hS,h⟩
   ·replace h:=Ae h hc
    refine wpIn_exit (Aa<|Aa<|Av<|A0 ?_)
    exact ⟨hF.sub kr,St.pick [0] (by decide) hS,h⟩
  rintro a w ⟨hF,hS,h⟩
  rw [L6] at h
  refine rnB [(2,.bool true)] hF fun a hF=>?_
  refine wpIn_ret (Ad [.tmp 2] [.bool true] hF rfl ⟨rfl,trivial⟩ ?_)
  obtain rfl:=Ao h
  exact ⟨rfl,hS.ext⟩
theorem U9 (F:Nat) (p0:(List ref12_Item)) (res:(List volume_Item)) (h:Ma F p0=some res) (μ:Frz) (w0:World) (hm:FrzAt μ w0) {ad1:Option Addr} {cap2:Nat} {css3:List (List Value)} (hA4:ArrQ μ 21 Rp49 ad1 cap2 css3 p0):Bj Tryz.prog 12 #[sv ad1 p0 cap2] w0 (fun e w=>∃(ν_:Frz) (zad0:Option Addr) (zcap0:Nat) (zcss0:List (List Value)),μ.ext w0.heap.size ν_∧e=(sv zad0 res zcap0)∧All2 (Rp48 ν_) zcss0 res∧St w0 [fz w0 ν_,arr 48 21 (fN 21) zad0 res.length zcap0 zcss0] w):=by
 obtain ⟨hlow,hS⟩:=hm.init
 have hext:=Frz.ext_refl w0.heap.size μ
 rw [Ma] at h
 refine Ag Tryz.func12 rfl 19 [(0,sv ad1 p0 cap2)] rfl rfl kr fun a w hw hF=>?_
 replace hS:=hS.cast hw
 clear hw
 refine qnB [] hF fun a hF=>?_
 refine qnB [(3,.slice none 0 0)] hF fun a hF=>?_
 refine D9 (fun a w=>∃(aA:(List volume_Item)) (aC:Option Addr) (aE:Nat) (aG:List (List Value)),Fr 19 [] [(3,sv aC aA aE)] a∧St w0 [arr 48 21 (fN 21) aC aA.length aE aG,fz w0 μ] w∧(All2 (Rp48 μ) aG aA)∧L4 aA=some res) ?_ ?_
 ·skip
  refine qnB [(4,iv 0)] hF fun a hF=>?_
  refine wpIn_block ?_
  replace hS:=hS.nilarr 48 21 (fN 21)
  refine Ci (fun n_ a w=>∃(a1:(List volume_Item)) (a8:Int) (a6:Option Addr) (a7:Nat) (a9:List (List Value)),Fr 19 [] [(0,sv ad1 p0 cap2),(3,sv a6 a1 a7),(4,iv a8)] a∧St w0 [arr 48 21 (fN 21) a6 a1.length a7 a9,fz w0 μ] w∧(All2 (Rp48 μ) a9 a1)∧H3 p0 n_ a1 a8=some res) F ⟨[],0,none,0,[],hF.sub kr,St.pick [0,1] (by decide) hS,All2.nil,h⟩ ?_
  rintro nk2 a w ⟨a1,a8,a6,a7,a9,hF,hS,aK,h⟩
  rcases nk2 with _|nk2
  ·cases (show (none:Option (List volume_Item))=some res from h)
  obtain ⟨k2,hk2⟩:∃k,k=H3 p0 nk2:=⟨_,rfl⟩
  replace h:L3 p0 k2 a1 a8=some res:=by rw [hk2];exact h
  rw [L3] at h
  refine Ar ?_
  refine qnB [(8,.bool (decide (a8<(ln p0))))] hF fun a hF=>?_
  refine Aj hF rfl (fun hc=>?_) (fun hc=>?_)
  ·replace h:=Af h hc
   refine wpIn_skip (A0 ?_)
   refine Ar ?_
   refine wpIn_block ?_
   refine WI.region ?_
   obtain ⟨a0,aT,h⟩:=A1 h
   obtain ⟨aV,aI,aQ⟩:=Bd hA4.2 aT
   obtain ⟨a2,a4,aN,a3,a5,rfl,aO,aP⟩:=aQ
   refine qo 5 5 [(11,sv a6 a1 a7),(15,.agg #[iv a0.Kind,.string a0.Name,iv a0.Time,.string a0.Sweep.Site.Name,iv a0.Sweep.Site.X,iv a0.Sweep.Site.Y,iv a0.Sweep.Site.Z,iv a0.Sweep.Site.Rose,iv a0.Sweep.Site.Gates,iv a0.Sweep.Site.Step,iv a0.Sweep.Site.Width,iv a0.Sweep.Tilt,iv a0.Sweep.Time,sv a2 a0.Sweep.Rays a4,iv a0.Field.Grid.X,iv a0.Field.Grid.Y,iv a0.Field.Grid.Size,iv a0.Field.Grid.Wide,iv a0.Field.Grid.High,sv a3 a0.Field.Vals a5,.string a0.Text])] hF (oI 28 (hA4.at (hS.frz (i:=1) rfl hlow)) aI<|oG 49 0 21 (Bz 21) (fun _ hd=>(hA4.at ((hS.at_ hd).frz (i:=1) rfl hlow))) aI<|A9) fun a hF=>?_
   have aL:All2 (Rp48 μ) ([[iv a0.Kind,.string a0.Name,iv a0.Time,.string a0.Sweep.Site.Name,iv a0.Sweep.Site.X,iv a0.Sweep.Site.Y,iv a0.Sweep.Site.Z,iv a0.Sweep.Site.Rose,iv a0.Sweep.Site.Gates,iv a0.Sweep.Site.Step,iv a0.Sweep.Site.Width,iv a0.Sweep.Tilt,iv a0.Sweep.Time,sv a2 a0.Sweep.Rays a4,iv a0.Field.Grid.X,iv a0.Field.Grid.Y,iv a0.Field.Grid.Size,iv a0.Field.Grid.Wide,iv a0.Field.Grid.High,sv a3 a0.Field.Vals a5,.string a0.Text]]:List (List Value)) [(volume_Item.mk a0.Kind a0.Name a0.Time a0.Sweep a0.Field a0.Text)]:=(All2.cons ⟨a2,a4,aN,a3,a5,rfl,aO,aP⟩ All2.nil)
   refine SK.wi (Qp (e:=48) (sz:=21) (f:=fN 21) (t:=24) (len:=1) (fun aH=>[(0,sv ad1 p0 cap2),(3,sv a6 a1 a7),(4,iv a8),(11,sv a6 a1 a7),(16,sb aH 1)]) #[(0,.agg #[iv a0.Kind,.string a0.Name,iv a0.Time,.string a0.Sweep.Site.Name,iv a0.Sweep.Site.X,iv a0.Sweep.Site.Y,iv a0.Sweep.Site.Z,iv a0.Sweep.Site.Rose,iv a0.Sweep.Site.Gates,iv a0.Sweep.Site.Step,iv a0.Sweep.Site.Width,iv a0.Sweep.Tilt,iv a0.Sweep.Time,sv a2 a0.Sweep.Rays a4,iv a0.Field.Grid.X,iv a0.Field.Grid.Y,iv a0.Field.Grid.Size,iv a0.Field.Grid.Wide,iv a0.Field.Grid.High,sv a3 a0.Field.Vals a5,.string a0.Text])] #[iv a0.Kind,.string a0.Name,iv a0.Time,.string a0.Sweep.Site.Name,iv a0.Sweep.Site.X,iv a0.Sweep.Site.Y,iv a0.Sweep.Site.Z,iv a0.Sweep.Site.Rose,iv a0.Sweep.Site.Gates,iv a0.Sweep.Site.Step,iv a0.Sweep.Site.Width,iv a0.Sweep.Tilt,iv a0.Sweep.Time,sv a2 a0.Sweep.Rays a4,iv a0.Field.Grid.X,iv a0.Field.Grid.Y,iv a0.Field.Grid.Size,iv a0.Field.Grid.Wide,iv a0.Field.Grid.High,sv a3 a0.Field.Vals a5,.string a0.Text] ([[iv a0.Kind,.string a0.Name,iv a0.Time,.string a0.Sweep.Site.Name,iv a0.Sweep.Site.X,iv a0.Sweep.Site.Y,iv a0.Sweep.Site.Z,iv a0.Sweep.Site.Rose,iv a0.Sweep.Site.Gates,iv a0.Sweep.Site.Step,iv a0.Sweep.Site.Width,iv a0.Sweep.Tilt,iv a0.Sweep.Time,sv a2 a0.Sweep.Rays a4,iv a0.Field.Grid.X,iv a0.Field.Grid.Y,iv a0.Field.Grid.Size,iv a0.Field.Grid.Wide,iv a0.Field.Grid.High,sv a3 a0.Field.Vals a5,.string a0.Text]]:List (List Value)) ([(volume_Item.mk a0.Kind a0.Name a0.Time a0.Sweep a0.Field a0.Text)]) hF hS kr ⟨kr⟩ kr (Bz 21) rfl rfl rfl kr (fun _=>⟨kr⟩) fun aH w a hF hS=>?_)
   obtain ⟨aF,aJ,h⟩:=A1 h
   have aR:All2 (Rp48 μ) (a9++([[iv a0.Kind,.string a0.Name,iv a0.Time,.string a0.Sweep.Site.Name,iv a0.Sweep.Site.X,iv a0.Sweep.Site.Y,iv a0.Sweep.Site.Z,iv a0.Sweep.Site.Rose,iv a0.Sweep.Site.Gates,iv a0.Sweep.Site.Step,iv a0.Sweep.Site.Width,iv a0.Sweep.Tilt,iv a0.Sweep.Time,sv a2 a0.Sweep.Rays a4,iv a0.Field.Grid.X,iv a0.Field.Grid.Y,iv a0.Field.Grid.Size,iv a0.Field.Grid.Wide,iv a0.Field.Grid.High,sv a3 a0.Field.Vals a5,.string a0.Text]]:List (List Value))) aF:=by rw [(M5 aJ).1];exact All2.app aK aL
   refine SK.wi (X1 (t:=24) (ty:=24) (bytes:=224) (c:=a9) (c':=([[iv a0.Kind,.string a0.Name,iv a0.Time,.string a0.Sweep.Site.Name,iv a0.Sweep.Site.X,iv a0.Sweep.Site.Y,iv a0.Sweep.Site.Z,iv a0.Sweep.Site.Rose,iv a0.Sweep.Site.Gates,iv a0.Sweep.Site.Step,iv a0.Sweep.Site.Width,iv a0.Sweep.Tilt,iv a0.Sweep.Time,sv a2 a0.Sweep.Rays a4,iv a0.Field.Grid.X,iv a0.Field.Grid.Y,iv a0.Field.Grid.Size,iv a0.Field.Grid.Wide,iv a0.Field.Grid.High,sv a3 a0.Field.Vals a5,.string a0.Text]]:List (List Value))) (l:=a1) (l':=([(volume_Item.mk a0.Kind a0.Name a0.Time a0.Sweep a0.Field a0.Text)])) (fun aB aD=>[(0,sv ad1 p0 cap2),(3,sv a6 a1 a7),(4,iv a8),(17,sv aB aF aD)]) 1 hF hS rfl kr ⟨kr⟩ kr (hS.arr (i:=0) rfl) (ArrQ.one aL Rp48.one) aJ (fun _ _=>⟨kr⟩) fun aB aD w a hF hS=>?_)
   refine rn 1 8 [(0,sv ad1 p0 cap2),(3,sv aB aF aD),(4,iv a8)] hF fun a hF=>?_
   refine WI.fin rfl (Ab<|A0<|?_)
   refine WI.region ?_
   obtain ⟨aM,aU,h⟩:=A1 h
   refine ro 3 3 [(0,sv ad1 p0 cap2),(3,sv aB aF aD),(4,iv aM)] hF (oA 3 aU<|A9) fun a hF=>?_
   refine wfn rfl ?_
   rw [hk2] at h
   exact ⟨nk2,Nat.lt_succ_self _,aF,aM,aB,aD,(a9++([[iv a0.Kind,.string a0.Name,iv a0.Time,.string a0.Sweep.Site.Name,iv a0.Sweep.Site.X,iv a0.Sweep.Site.Y,iv a0.Sweep.Site.Z,iv a0.Sweep.Site.Rose,iv a0.Sweep.Site.Gates,iv a0.Sweep.Site.Step,iv a0.Sweep.Site.Width,iv a0.Sweep.Tilt,iv a0.Sweep.Time,sv a2 a0.Sweep.Rays a4,iv a0.Field.Grid.X,iv a0.Field.Grid.Y,iv a0.Field.Grid.Size,iv a0.Field.Grid.Wide,iv a0.Field.Grid.High,sv a3 a0.Field.Vals a5,.string a0.Text]]:List (List Value))),hF.sub kr,St.pick [1,2] (by decide) hS,aR,h⟩
  ·replace h:=Ae h hc
   refine wpIn_exit (Aa<|Aa<|Av<|A0 ?_)
   exact ⟨a1,a6,a7,a9,hF.sub kr,St.pick [0,1] (by decide) hS,aK,h⟩
 rintro a w ⟨aA,aC,aE,aG,hF,hS,aS,h⟩
 rw [L4] at h
 refine rnB [(2,sv aC aA aE)] hF fun a hF=>?_
 refine wpIn_ret (Ad [.tmp 2] [sv aC aA aE] hF rfl ⟨rfl,trivial⟩ ?_)
 obtain rfl:=Ao h
 exact ⟨_,rfl,μ,_,_,_,hext,rfl,aS,St.pick [1,0] (by decide) hS⟩
theorem Sr (F:Nat) (p0:(List ref12_Item)) (res:Bool) (h:K2 F p0=some res) (μ:Frz) (w0:World) (hm:FrzAt μ w0) {ad1:Option Addr} {cap2:Nat} {css3:List (List Value)} (hA4:ArrQ μ 21 Rp49 ad1 cap2 css3 p0):Calls Tryz.prog 15 #[sv ad1 p0 cap2] w0 (fun e w=>e=.returned (.bool res)∧Ext w0 w):=by
 obtain ⟨hlow,hS⟩:=hm.init
 have hext:=Frz.ext_refl w0.heap.size μ
 rw [K2] at h
 refine Ag Tryz.func15 rfl 76 [(0,sv ad1 p0 cap2)] rfl rfl kr fun a w hw hF=>?_
 replace hS:=hS.cast hw
 clear hw
 refine qnB [] hF fun a hF=>?_
 refine Ar ?_
 refine qnB [(18,.bool (bif (bif (decide ((ln p0)>12)) then (decide ((ln p0)≤1000)) else false) then true else (decide ((ln p0)>1002))))] hF fun a hF=>?_
 refine Aj hF rfl (fun hc=>?_) (fun hc=>?_)
 ·replace h:=Af h hc
  refine rnB [(2,.bool false)] hF fun a hF=>?_
  refine wpIn_ret (A6<|Ad [.tmp 2] [.bool false] hF rfl ⟨rfl,trivial⟩ ?_)
  obtain rfl:=Ao h
  exact ⟨rfl,hS.ext⟩
 ·replace h:=Ae h hc
  refine wpIn_skip (A0 ?_)
  refine D9 (fun a w=>Fr 76 [] [] a∧St w0 [fz w0 μ] w∧Je=some res) ?_ ?_
  ·skip
   refine qnB [(3,iv 0)] hF fun a hF=>?_
   refine wpIn_block ?_
   refine Ci (fun n_ a w=>∃(a0:Int),Fr 76 [] [(0,sv ad1 p0 cap2),(3,iv a0)] a∧St w0 [fz w0 μ] w∧Fg F p0 n_ a0=some res) F ⟨0,hF.sub kr,St.pick [0] (by decide) hS,h⟩ ?_
   rintro nk2 a w ⟨a0,hF,hS,h⟩
   rcases nk2 with _|nk2
   ·cases (show (none:Option Bool)=some res from h)
   obtain ⟨k2,hk2⟩:∃k,k=Fg F p0 nk2:=⟨_,rfl⟩
   replace h:Jc F p0 k2 a0=some res:=by rw [hk2];exact h
   rw [Jc] at h
   refine Ar ?_
   refine qnB [(22,.bool (decide (a0<(ln p0))))] hF fun a hF=>?_
   refine Aj hF rfl (fun hc=>?_) (fun hc=>?_)
   ·replace h:=Af h hc
    refine wpIn_skip (A0 ?_)
    refine D9 (fun a w=>Fr 76 [] [(0,sv ad1 p0 cap2),(3,iv a0)] a∧St w0 [fz w0 μ] w∧Jf a0 k2=some res) ?_ ?_
    ·skip
     refine wpIn_block ?_
     refine esr ?_
     obtain ⟨aF,aR,h⟩:=A1 h
     obtain ⟨bK,a9,aL⟩:=Bd hA4.2 aR
     obtain ⟨b0,bA,bQ,b1,bB,rfl,bV,bW⟩:=aL
     refine qo 8 8 [(4,iv (ln aF.Field.Vals))] hF (oI 28 (hA4.at (hS.frz (i:=0) rfl hlow)) a9<|oE 44 19 (Bz 21) (fun _ hd=>(hA4.at ((hS.at_ hd).frz (i:=0) rfl hlow))) a9 rfl<|A9) fun a hF=>?_
     refine wfn rfl ?_
     refine D9 (fun a w=>∃(a6:Int),Fr 76 [] [(0,sv ad1 p0 cap2),(3,iv a0),(4,iv a6)] a∧St w0 [fz w0 μ] w∧Gr p0 a0 k2 a6=some res) ?_ ?_
     ·skip
      refine qnB [(5,iv 0)] hF fun a hF=>?_
      refine wpIn_block ?_
      refine Ci (fun n_ a w=>∃(a1:Int) (a2:Int),Fr 76 [] [(0,sv ad1 p0 cap2),(3,iv a0),(4,iv a1),(5,iv a2)] a∧St w0 [fz w0 μ] w∧Fh p0 a0 k2 n_ a1 a2=some res) F ⟨(ln aF.Field.Vals),0,hF.sub kr,St.pick [0] (by decide) hS,h⟩ ?_
      rintro nk5 a w ⟨a1,a2,hF,hS,h⟩
      rcases nk5 with _|nk5
      ·cases (show (none:Option Bool)=some res from h)
      obtain ⟨k5,hk5⟩:∃k,k=Fh p0 a0 k2 nk5:=⟨_,rfl⟩
      replace h:Jd p0 a0 k2 k5 a1 a2=some res:=by rw [hk5];exact h
      rw [Jd] at h
      refine Ar ?_
      refine esr ?_
      obtain ⟨aZ,aU,h⟩:=A1 h
      obtain ⟨bN,aC,aO⟩:=Bd hA4.2 aU
      obtain ⟨b5,bF,bT,b6,bG,rfl,c1,c2⟩:=aO
      refine qo 9 9 [(40,.bool (decide (a2<(ln aZ.Sweep.Rays))))] hF (oI 28 (hA4.at (hS.frz (i:=0) rfl hlow)) aC<|oE 39 13 (Bz 21) (fun _ hd=>(hA4.at ((hS.at_ hd).frz (i:=0) rfl hlow))) aC rfl<|A9) fun a hF=>?_
      refine wfn rfl ?_
      refine Aj hF rfl (fun hc=>?_) (fun hc=>?_)
      ·replace h:=Af h hc
       refine wpIn_skip (A0 ?_)
       refine Ar ?_
       refine wpIn_block ?_
       refine WI.region ?_
       obtain ⟨c5,aV,h⟩:=A1 h
       obtain ⟨bO,aD,aP⟩:=Bd hA4.2 aV
       obtain ⟨b7,bH,bU,b8,bI,rfl,a7,c3⟩:=aP
       obtain ⟨a5,aW,h⟩:=A1 h
       obtain ⟨bP,aE,aQ⟩:=Bd a7.2 aW
       obtain ⟨b9,bJ,rfl,c4⟩:=aQ
       refine ro 13 13 [(0,sv ad1 p0 cap2),(3,iv a0),(4,iv (IntKind.i64.wrap (a1+(ln a5)))),(5,iv a2)] hF (oI 28 (hA4.at (hS.frz (i:=0) rfl hlow)) aD<|oE 39 13 (Bz 21) (fun _ hd=>(hA4.at ((hS.at_ hd).frz (i:=0) rfl hlow))) aD rfl<|oI 39 (a7.at (hS.frz (i:=0) rfl hlow)) aE<|oE 87 0 (Bz 1) (fun _ hd=>(a7.at ((hS.at_ hd).frz (i:=0) rfl hlow))) aE rfl<|oX (.run [] (binOp .add 3 (iv a1) (iv (ln a5))) (iv (IntKind.i64.wrap (a1+(ln a5))))) (obW kr)<|A9) fun a hF=>?_
       refine WI.fin rfl (Ab<|A0<|?_)
       refine WI.region ?_
       obtain ⟨aI,aY,h⟩:=A1 h
       refine ro 3 3 [(0,sv ad1 p0 cap2),(3,iv a0),(4,iv (IntKind.i64.wrap (a1+(ln a5)))),(5,iv aI)] hF (oA 3 aY<|A9) fun a hF=>?_
       refine wfn rfl ?_
       rw [hk5] at h
       exact ⟨nk5,Nat.lt_succ_self _,IntKind.i64.wrap (a1+(ln a5)),aI,hF.sub kr,St.pick [0] (by decide) hS,h⟩
      ·replace h:=Ae h hc
       refine wpIn_exit (Aa<|Aa<|Av<|A0 ?_)
       exact ⟨a1,hF.sub kr,St.pick [0] (by decide) hS,h⟩
     rintro a w ⟨a6,hF,hS,h⟩
     rw [Gr] at h
     refine esr ?_
     refine rn 3 3 [(0,sv ad1 p0 cap2),(3,iv a0),(57,.bool (decide (a6>200)))] hF fun a hF=>?_
     rcases Bool.eq_false_or_eq_true ((decide (a6>200))) with a3|a3
     ·replace h:=Af h a3
      rw [a3] at hF
      refine Cr 4 [(0,sv ad1 p0 cap2),(3,iv a0),(57,.bool true),(58,undef)] hF kr ⟨kr⟩ ⟨kr⟩ rfl fun a hF=>?_
      refine Cr 5 [(0,sv ad1 p0 cap2),(3,iv a0),(57,.bool true),(58,undef),(59,undef)] hF kr ⟨kr⟩ ⟨kr⟩ rfl fun a hF=>?_
      refine Cr 6 [(0,sv ad1 p0 cap2),(3,iv a0),(57,.bool true),(60,undef)] hF kr ⟨kr⟩ ⟨kr⟩ rfl fun a hF=>?_
      refine Cr 7 [(0,sv ad1 p0 cap2),(3,iv a0),(57,.bool true),(61,undef)] hF kr ⟨kr⟩ ⟨kr⟩ rfl fun a hF=>?_
      refine Cr 8 [(0,sv ad1 p0 cap2),(3,iv a0),(57,.bool true),(62,undef)] hF kr ⟨kr⟩ ⟨kr⟩ rfl fun a hF=>?_
      refine Cr 9 [(0,sv ad1 p0 cap2),(3,iv a0),(57,.bool true),(63,undef)] hF kr ⟨kr⟩ ⟨kr⟩ rfl fun a hF=>?_
      refine Cr 10 [(0,sv ad1 p0 cap2),(3,iv a0),(57,.bool true),(64,undef)] hF kr ⟨kr⟩ ⟨kr⟩ rfl fun a hF=>?_
      refine Cr 11 [(0,sv ad1 p0 cap2),(3,iv a0),(57,.bool true),(65,undef)] hF kr ⟨kr⟩ ⟨kr⟩ rfl fun a hF=>?_
      refine rn 2 13 [(0,sv ad1 p0 cap2),(3,iv a0),(67,.bool true)] hF fun a hF=>?_
      refine Cr 14 [(0,sv ad1 p0 cap2),(3,iv a0),(67,.bool true),(68,undef)] hF kr ⟨kr⟩ ⟨kr⟩ rfl fun a hF=>?_
      refine Cr 15 [(0,sv ad1 p0 cap2),(3,iv a0),(67,.bool true),(68,undef),(69,undef)] hF kr ⟨kr⟩ ⟨kr⟩ rfl fun a hF=>?_
      refine Cr 16 [(0,sv ad1 p0 cap2),(3,iv a0),(67,.bool true),(70,undef)] hF kr ⟨kr⟩ ⟨kr⟩ rfl fun a hF=>?_
      refine Cr 17 [(0,sv ad1 p0 cap2),(3,iv a0),(67,.bool true),(71,undef)] hF kr ⟨kr⟩ ⟨kr⟩ rfl fun a hF=>?_
      refine Cr 18 [(0,sv ad1 p0 cap2),(3,iv a0),(67,.bool true),(72,undef)] hF kr ⟨kr⟩ ⟨kr⟩ rfl fun a hF=>?_
      refine Cr 19 [(0,sv ad1 p0 cap2),(3,iv a0),(67,.bool true),(73,undef)] hF kr ⟨kr⟩ ⟨kr⟩ rfl fun a hF=>?_
      refine Cr 20 [(0,sv ad1 p0 cap2),(3,iv a0),(67,.bool true),(74,undef)] hF kr ⟨kr⟩ ⟨kr⟩ rfl fun a hF=>?_
      refine rn 1 21 [(0,sv ad1 p0 cap2),(3,iv a0),(75,.bool true)] hF fun a hF=>?_
      refine wfn rfl ?_
      refine wpIn_cond_true (hF.get rfl) ?_
      refine rnB [(2,.bool false)] hF fun a hF=>?_
      refine wpIn_ret (Ai<|A6<|A6<|Ai<|A6<|Ad [.tmp 2] [.bool false] hF rfl ⟨rfl,trivial⟩ ?_)
      obtain rfl:=Ao h
      exact ⟨rfl,hS.ext⟩
     ·replace h:=Ae h a3
      rw [a3] at hF
      obtain ⟨a8,aS,h⟩:=A1 h
      obtain ⟨bL,aA,aM⟩:=Bd hA4.2 aS
      obtain ⟨aJ,aK,bR,b2,bC,rfl,bX,bY⟩:=aM
      refine qo 10 13 [(67,.bool (decide ((ln a8.Sweep.Rays)>100)))] hF (oX (.run [⟨57,false,false⟩] (Instr.indexAt 28 (sv ad1 p0 cap2) (iv a0)) (.pointer (some (Bc ad1 a0 21)))) (Gj (hA4.at (hS.frz (i:=0) rfl hlow)) kr (fun _=>aA))<|oX (.run [⟨57,false,false⟩] (Instr.loadAt 39 (.pointer (some ((Bc ad1 a0 21).add 13)))) (sv aJ a8.Sweep.Rays aK)) (Pr (i:=a0) 13 (Bz 21) (fun _ hd=>(hA4.at ((hS.at_ hd).frz (i:=0) rfl hlow))) kr (fun _=>aA) rfl)<|A9) fun a hF=>?_
      rcases Bool.eq_false_or_eq_true ((decide ((ln a8.Sweep.Rays)>100))) with a4|a4
      ·replace h:=Af h a4
       rw [a4] at hF
       refine Cr 14 [(0,sv ad1 p0 cap2),(3,iv a0),(67,.bool true),(68,undef)] hF kr ⟨kr⟩ ⟨kr⟩ rfl fun a hF=>?_
       refine Cr 15 [(0,sv ad1 p0 cap2),(3,iv a0),(67,.bool true),(68,undef),(69,undef)] hF kr ⟨kr⟩ ⟨kr⟩ rfl fun a hF=>?_
       refine Cr 16 [(0,sv ad1 p0 cap2),(3,iv a0),(67,.bool true),(70,undef)] hF kr ⟨kr⟩ ⟨kr⟩ rfl fun a hF=>?_
       refine Cr 17 [(0,sv ad1 p0 cap2),(3,iv a0),(67,.bool true),(71,undef)] hF kr ⟨kr⟩ ⟨kr⟩ rfl fun a hF=>?_
       refine Cr 18 [(0,sv ad1 p0 cap2),(3,iv a0),(67,.bool true),(72,undef)] hF kr ⟨kr⟩ ⟨kr⟩ rfl fun a hF=>?_
       refine Cr 19 [(0,sv ad1 p0 cap2),(3,iv a0),(67,.bool true),(73,undef)] hF kr ⟨kr⟩ ⟨kr⟩ rfl fun a hF=>?_
       refine Cr 20 [(0,sv ad1 p0 cap2),(3,iv a0),(67,.bool true),(74,undef)] hF kr ⟨kr⟩ ⟨kr⟩ rfl fun a hF=>?_
       refine rn 1 21 [(0,sv ad1 p0 cap2),(3,iv a0),(75,.bool true)] hF fun a hF=>?_
       refine wfn rfl ?_
       refine wpIn_cond_true (hF.get rfl) ?_
       refine rnB [(2,.bool false)] hF fun a hF=>?_
       refine wpIn_ret (Ai<|A6<|A6<|Ai<|A6<|Ad [.tmp 2] [.bool false] hF rfl ⟨rfl,trivial⟩ ?_)
       obtain rfl:=Ao h
       exact ⟨rfl,hS.ext⟩
      ·replace h:=Ae h a4
       rw [a4] at hF
       obtain ⟨aG,aT,h⟩:=A1 h
       obtain ⟨bM,aB,aN⟩:=Bd hA4.2 aT
       obtain ⟨b3,bD,bS,b4,bE,rfl,bZ,c0⟩:=aN
       refine qo 8 21 [(75,.bool (decide (((aG.Text.size:Nat):Int)>400)))] hF (oX (.run [⟨67,false,false⟩] (Instr.indexAt 28 (sv ad1 p0 cap2) (iv a0)) (.pointer (some (Bc ad1 a0 21)))) (Gj (hA4.at (hS.frz (i:=0) rfl hlow)) kr (fun _=>aB))<|oX (.run [⟨67,false,false⟩] (Instr.loadAt 9 (.pointer (some ((Bc ad1 a0 21).add 20)))) (.string aG.Text)) (Pr (i:=a0) 20 (Bz 21) (fun _ hd=>(hA4.at ((hS.at_ hd).frz (i:=0) rfl hlow))) kr (fun _=>aB) rfl)<|A9) fun a hF=>?_
       refine wfn rfl ?_
       refine Aj hF rfl (fun hc=>?_) (fun hc=>?_)
       ·replace h:=Af h hc
        refine rnB [(2,.bool false)] hF fun a hF=>?_
        refine wpIn_ret (Ai<|A6<|A6<|Ai<|A6<|Ad [.tmp 2] [.bool false] hF rfl ⟨rfl,trivial⟩ ?_)
        obtain rfl:=Ao h
        exact ⟨rfl,hS.ext⟩
       ·replace h:=Ae h hc
        refine wpIn_skip (Ab<|A0<|?_)
        exact ⟨hF.sub kr,St.pick [0] (by decide) hS,h⟩
    rintro a w ⟨hF,hS,h⟩
    rw [Jf] at h
    refine WI.region ?_
    obtain ⟨aH,aX,h⟩:=A1 h
    refine ro 3 3 [(0,sv ad1 p0 cap2),(3,iv aH)] hF (oA 3 aX<|A9) fun a hF=>?_
    refine wfn rfl ?_
    rw [hk2] at h
    exact ⟨nk2,Nat.lt_succ_self _,aH,hF.sub kr,St.pick [0] (by decide) hS,h⟩
   ·replace h:=Ae h hc
    refine wpIn_exit (Aa<|Aa<|Av<|A0 ?_)
    exact ⟨hF.sub kr,St.pick [0] (by decide) hS,h⟩
  rintro a w ⟨hF,hS,h⟩
  rw [Je] at h
  refine rnB [(2,.bool true)] hF fun a hF=>?_
  refine wpIn_ret (Ad [.tmp 2] [.bool true] hF rfl ⟨rfl,trivial⟩ ?_)
  obtain rfl:=Ao h
  exact ⟨rfl,hS.ext⟩
end Go.Proofs.YtifbomimeodibaaGreat
