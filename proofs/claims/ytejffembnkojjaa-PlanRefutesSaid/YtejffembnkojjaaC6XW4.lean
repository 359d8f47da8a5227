/- Walks, written by program (wip/gen/dec.py). -/
import Derived.Test.YtejffembnkojjaaC6XD
import Derived.Test.YtejffembnkojjaaProg
import Derived.Test.YtejffembnkojjaaC6XW0
import Derived.Test.YtejffembnkojjaaC6XW1
import Derived.Test.YtejffembnkojjaaC6XW2
namespace Go.Proofs.Ytejffembnkojjaa
open Go Go.RowKit Go.Eng
set_option maxRecDepth 10000
set_option maxHeartbeats 4000000
set_option linter.unusedVariables false
set_option linter.unusedSimpArgs false
theorem ref06_Check_ok (F : Nat) (p0 : ref06_Radar) (p1 : (List ref06_Job)) (res : Int) (h : ref06_Check F p0 p1 = some res) (μ : Frz) (w0 : World) (hm : FrzAt μ w0) {ad1 : Option Addr} {cap2 : Nat} (hA3 : ArrM μ 8 ref06_Job.cells ad1 cap2 p1) : Calls Try.prog 23 #[p0.ag, sv ad1 p1 cap2] w0 (fun e w => e = .returned (iv res) ∧ Ext w0 w) := by
 obtain ⟨hlow, hS⟩ := hm.init
 have hext := Frz.ext_refl w0.heap.size μ
 rw [ref06_Check] at h
 refine fn_enterW Try.func23 rfl 69 [(0, p0.ag), (1, sv ad1 p1 cap2)] rfl rfl (by kernel_rfl) fun a w hw hF => ?_
 replace hS : St w0 [fz w0 μ] w := by rw [hw]; exact hS
 clear hw
 refine esr ?_
 refine SK.wi (boxK (t := 23) (fun b4 => [(1, sv ad1 p1 cap2), (2, pb b4)]) (p0.ag) p0.ar hF hS (by kernel_rfl) ⟨by kernel_rfl⟩ (by kernel_rfl) (fun _ => ⟨by kernel_rfl⟩) fun b4 w a hF hS => ?_)
 refine rn 1 2 [(1, sv ad1 p1 cap2), (2, pb b4)] hF fun a hF => ?_
 refine wfn rfl ?_
 refine esr ?_
 refine rx 19 [.run [] (Instr.loadAt 3 (pb b4)) (iv p0.Rays), .call [] 48 #[iv p0.Rays, iv 1, iv 360] (.bool (ref01_In p0.Rays 1 360)), .run [⟨12, true, (ref01_In p0.Rays 1 360)⟩] (Instr.loadAt 3 (.pointer (some ⟨b4, 1, none⟩))) (iv p0.Turn), .call [⟨12, true, (ref01_In p0.Rays 1 360)⟩] 48 #[iv p0.Turn, iv 0, iv 600000] (.bool (ref01_In p0.Turn 0 600000)), .run [⟨17, true, (bif (ref01_In p0.Rays 1 360) then (ref01_In p0.Turn 0 600000) else false)⟩] (Instr.loadAt 3 (.pointer (some ⟨b4, 2, none⟩))) (iv p0.Move), .call [⟨17, true, (bif (ref01_In p0.Rays 1 360) then (ref01_In p0.Turn 0 600000) else false)⟩] 48 #[iv p0.Move, iv 0, iv 10000] (.bool (ref01_In p0.Move 0 10000)), .run [⟨22, true, (bif (bif (ref01_In p0.Rays 1 360) then (ref01_In p0.Turn 0 600000) else false) then (ref01_In p0.Move 0 10000) else false)⟩] (Instr.loadAt 3 (.pointer (some ⟨b4, 3, none⟩))) (iv p0.Duty), .call [⟨22, true, (bif (bif (ref01_In p0.Rays 1 360) then (ref01_In p0.Turn 0 600000) else false) then (ref01_In p0.Move 0 10000) else false)⟩] 48 #[iv p0.Duty, iv 1, iv 1000] (.bool (ref01_In p0.Duty 1 1000))] 19 [(1, sv ad1 p1 cap2), (5, .bool (bif (bif (bif (ref01_In p0.Rays 1 360) then (ref01_In p0.Turn 0 600000) else false) then (ref01_In p0.Move 0 10000) else false) then (ref01_In p0.Duty 1 1000) else false))] hF (ocons (ob1 (by kernel_rfl) (fun _ hd => (hS.later hd).cell (i := 0) (j := 0) rfl rfl)) (ocons (show Ob.ok _ Ext _ _ from fun hk w2 hd => ref01_In_ok p0.Rays 1 360 _ rfl _ w2 (memOf_at w2) ) (ocons (ob1 (by kernel_rfl) (fun _ hd => (hS.later hd).cell (i := 0) (j := 1) rfl rfl)) (ocons (show Ob.ok _ Ext _ _ from fun hk w2 hd => ref01_In_ok p0.Turn 0 600000 _ rfl _ w2 (memOf_at w2) ) (ocons (ob1 (by kernel_rfl) (fun _ hd => (hS.later hd).cell (i := 0) (j := 2) rfl rfl)) (ocons (show Ob.ok _ Ext _ _ from fun hk w2 hd => ref01_In_ok p0.Move 0 10000 _ rfl _ w2 (memOf_at w2) ) (ocons (ob1 (by kernel_rfl) (fun _ hd => (hS.later hd).cell (i := 0) (j := 3) rfl rfl)) (ocons (show Ob.ok _ Ext _ _ from fun hk w2 hd => ref01_In_ok p0.Duty 1 1000 _ rfl _ w2 (memOf_at w2) ) onil)))))))) fun a w hF hx => ?_
 replace hS := hS.later hx
 refine wfn rfl ?_
 refine eseq ?_
 refine esr ?_
 refine rn 2 2 [(1, sv ad1 p1 cap2), (28, .bool (!(bif (bif (bif (ref01_In p0.Rays 1 360) then (ref01_In p0.Turn 0 600000) else false) then (ref01_In p0.Move 0 10000) else false) then (ref01_In p0.Duty 1 1000) else false)))] hF fun a hF => ?_
 refine wfn rfl ?_
 refine econd hF rfl (fun hc => ?_) (fun hc => ?_)
 ·replace h := bif_t h hc
  refine esr ?_
  refine rn 1 1 [(4, iv 3)] hF fun a hF => ?_
  refine wfn rfl ?_
  refine wpIn_ret (ret_then <| fn_ret [.tmp 4] [iv 3] hF rfl ⟨rfl, trivial⟩ ?_)
  have hr_ := Option.some.inj h
  subst hr_
  exact ⟨rfl, hS.ext⟩
 ·replace h := bif_f h hc
  refine wpIn_skip (norm_then ?_)
  refine eseq ?_
  refine esr ?_
  refine rn 8 8 [(1, sv ad1 p1 cap2), (36, .bool (bif (decide ((ln p1) < 1)) then true else (decide ((ln p1) > 6))))] hF fun a hF => ?_
  refine wfn rfl ?_
  refine econd hF rfl (fun hc => ?_) (fun hc => ?_)
  ·replace h := bif_t h hc
   refine esr ?_
   refine rn 1 1 [(4, iv 9)] hF fun a hF => ?_
   refine wfn rfl ?_
   refine wpIn_ret (ret_then <| fn_ret [.tmp 4] [iv 9] hF rfl ⟨rfl, trivial⟩ ?_)
   have hr_ := Option.some.inj h
   subst hr_
   exact ⟨rfl, hS.ext⟩
  ·replace h := bif_f h hc
   refine wpIn_skip (norm_then ?_)
   refine ecut (fun a w => Fr 69 [] [] a ∧ St w0 [blk b4 23 p0.ar, fz w0 μ] w ∧ ref06_Check_K1 = some res) ?_ ?_
   ·skip
    refine esr ?_
    refine rn 1 1 [(1, sv ad1 p1 cap2), (6, iv 0)] hF fun a hF => ?_
    refine wfn rfl ?_
    refine wpIn_block ?_
    refine eloop (fun n_ a w => ∃ (x30 : Int), Fr 69 [] [(1, sv ad1 p1 cap2), (6, iv x30)] a ∧ St w0 [blk b4 23 p0.ar, fz w0 μ] w ∧ ref06_Check_L2 F p1 n_ x30 = some res) F ⟨0, hF.sub (by kernel_rfl), St.pick [0, 1] (by decide) hS, h⟩ ?_
    rintro n_ a w ⟨x30, hF, hS, h⟩
    rcases n_ with _ | n_
    ·cases (show (none : Option Int) = some res from h)
    obtain ⟨k2, hk2⟩ : ∃ k, k = ref06_Check_L2 F p1 n_ := ⟨_, rfl⟩
    replace h : ref06_Check_B2 F p1 k2 x30 = some res := by rw [hk2]; exact h
    rw [ref06_Check_B2] at h
    refine eseq ?_
    refine esr ?_
    refine rn 4 4 [(1, sv ad1 p1 cap2), (6, iv x30), (40, .bool (decide (x30 < (ln p1))))] hF fun a hF => ?_
    refine wfn rfl ?_
    refine econd hF rfl (fun hc => ?_) (fun hc => ?_)
    ·replace h := bif_t h hc
     refine wpIn_skip (norm_then ?_)
     refine eseq ?_
     refine wpIn_block ?_
     refine esr ?_
     replace h := bindS h
     obtain ⟨u32, hu32, h⟩ := h
     refine rno 4 [.run [] (Instr.indexAt 39 (sv ad1 p1 cap2) (iv x30)) (.pointer (some (slAddr ad1 x30 8))), .run [] (Instr.loadAt 27 (.pointer (some (slAddr ad1 x30 8)))) (u32.ag)] 4 [(1, sv ad1 p1 cap2), (6, iv x30), (46, u32.ag)] hF (ocons (obIdxQ (hA3 _ (hS.frz (i := 1) rfl hlow)) (by kernel_rfl) (fun _ => hu32)) (ocons (obElNQ (m := 8) (i := x30) (us := u32.cells) 0 ref06_Job.cells_len (fun _ hd => (hA3 _ ((hS.at_ hd).frz (i := 1) rfl hlow))) (by kernel_rfl) (fun _ => hu32) ⟨rfl, rfl⟩) onil)) fun a hF => ?_
     refine SK.wi (allocK (t := 27) (fun b33 => [(1, sv ad1 p1 cap2), (6, iv x30), (7, pb b33), (46, u32.ag)]) #[iv 0, iv 0, iv 0, iv 0, iv 0, iv 0, iv 0, iv 0] hF hS (by kernel_rfl) ⟨by kernel_rfl⟩ (by kernel_rfl) (fun _ => ⟨by kernel_rfl⟩) fun b33 w a hF hS => ?_)
     refine SK.wi (storeK (t := 27) [(1, sv ad1 p1 cap2), (6, iv x30), (7, pb b33)] 0 0 (u32.ag) u32.ar hF hS rfl (by kernel_rfl) ⟨by kernel_rfl⟩ (by kernel_rfl) (by kernel_rfl) (by kernel_rfl) (by kernel_rfl) ⟨by kernel_rfl⟩ fun w a hF hS => ?_)
     refine wfn rfl ?_
     refine eseq ?_
     refine esr ?_
     refine rx 16 [.run [] (Instr.loadAt 3 (pb b33)) (iv u32.Tilt), .call [] 48 #[iv u32.Tilt, iv 0, iv 256] (.bool (ref01_In u32.Tilt 0 256)), .run [⟨51, false, (!(ref01_In u32.Tilt 0 256))⟩] (Instr.loadAt 3 (.pointer (some ⟨b33, 6, none⟩))) (iv u32.Width), .call [⟨51, false, (!(ref01_In u32.Tilt 0 256))⟩] 48 #[iv u32.Width, iv 1, iv 1000] (.bool (ref01_In u32.Width 1 1000)), .run [⟨57, false, (bif (!(ref01_In u32.Tilt 0 256)) then true else (!(ref01_In u32.Width 1 1000)))⟩] (Instr.loadAt 3 (.pointer (some ⟨b33, 7, none⟩))) (iv u32.Every), .call [⟨57, false, (bif (!(ref01_In u32.Tilt 0 256)) then true else (!(ref01_In u32.Width 1 1000)))⟩] 48 #[iv u32.Every, iv 1, iv 100000000] (.bool (ref01_In u32.Every 1 100000000))] 16 [(1, sv ad1 p1 cap2), (6, iv x30), (7, pb b33), (62, .bool (bif (bif (!(ref01_In u32.Tilt 0 256)) then true else (!(ref01_In u32.Width 1 1000))) then true else (!(ref01_In u32.Every 1 100000000))))] hF (ocons (ob1 (by kernel_rfl) (fun _ hd => (hS.later hd).cell (i := 0) (j := 0) rfl rfl)) (ocons (show Ob.ok _ Ext _ _ from fun hk w2 hd => ref01_In_ok u32.Tilt 0 256 _ rfl _ w2 (memOf_at w2) ) (ocons (ob1 (by kernel_rfl) (fun _ hd => (hS.later hd).cell (i := 0) (j := 6) rfl rfl)) (ocons (show Ob.ok _ Ext _ _ from fun hk w2 hd => ref01_In_ok u32.Width 1 1000 _ rfl _ w2 (memOf_at w2) ) (ocons (ob1 (by kernel_rfl) (fun _ hd => (hS.later hd).cell (i := 0) (j := 7) rfl rfl)) (ocons (show Ob.ok _ Ext _ _ from fun hk w2 hd => ref01_In_ok u32.Every 1 100000000 _ rfl _ w2 (memOf_at w2) ) onil)))))) fun a w hF hx => ?_
     replace hS := hS.later hx
     refine wfn rfl ?_
     refine econd hF rfl (fun hc => ?_) (fun hc => ?_)
     ·replace h := bif_t h hc
      refine esr ?_
      refine rn 1 1 [(4, iv 3)] hF fun a hF => ?_
      refine wfn rfl ?_
      refine wpIn_ret (ret_then <| ret_block <| ret_then <| ret_then <| ret_block <| ret_then <| fn_ret [.tmp 4] [iv 3] hF rfl ⟨rfl, trivial⟩ ?_)
      have hr_ := Option.some.inj h
      subst hr_
      exact ⟨rfl, hS.ext⟩
     ·replace h := bif_f h hc
      refine wpIn_skip (norm_then ?_)
      refine esr ?_
      replace h := bindS h
      obtain ⟨y34, hy34, h⟩ := h
      refine rx 4 [.run [] (Instr.loadAt 25 (.pointer (some ⟨b33, 1, none⟩))) (u32.Train.ag), .call [] 52 #[u32.Train.ag] (iv y34)] 4 [(1, sv ad1 p1 cap2), (6, iv x30), (8, iv y34)] hF (ocons (obN (us := u32.Train.cells) (by kernel_rfl) (fun _ hd => ((hS.later hd).blk (i := 0) rfl).cells rfl)) (ocons (show Ob.ok _ Ext _ _ from fun hk w2 hd => ref02_CheckTrain_ok F u32.Train _ ((fun _ => hy34) hk) _ w2 (memOf_at w2) ) onil)) fun a w hF hx => ?_
      replace hS := hS.later hx
      refine wfn rfl ?_
      refine esr ?_
      refine rn 2 2 [(1, sv ad1 p1 cap2), (6, iv x30), (8, iv y34), (67, .bool (y34 != 0))] hF fun a hF => ?_
      refine wfn rfl ?_
      refine econd hF rfl (fun hc => ?_) (fun hc => ?_)
      ·replace h := bif_t h hc
       refine esr ?_
       refine rn 2 2 [(4, iv y34)] hF fun a hF => ?_
       refine wfn rfl ?_
       refine wpIn_ret (ret_block <| ret_then <| ret_then <| ret_block <| ret_then <| fn_ret [.tmp 4] [iv y34] hF rfl ⟨rfl, trivial⟩ ?_)
       have hr_ := Option.some.inj h
       subst hr_
       exact ⟨rfl, hS.ext⟩
      ·replace h := bif_f h hc
       refine wpIn_skip (norm_block <| norm_then <| ?_)
       refine WI.region ?_
       replace h := bindS h
       obtain ⟨x35, hx35, h⟩ := h
       refine rno 3 [.run [] (binOp .add 3 (iv x30) (iv 1)) (iv x35)] 3 [(1, sv ad1 p1 cap2), (6, iv x35)] hF (ocons (obAddC (fun _ => hx35)) onil) fun a hF => ?_
       refine wfn rfl ?_
       rw [hk2] at h
       exact ⟨n_, Nat.lt_succ_self _, x35, hF.sub (by kernel_rfl), St.pick [1, 2] (by decide) hS, h⟩
    ·replace h := bif_f h hc
     refine wpIn_exit (exit_then <| exit_then <| exit_hit <| norm_then ?_)
     exact ⟨hF.sub (by kernel_rfl), St.pick [0, 1] (by decide) hS, h⟩
   rintro a w ⟨hF, hS, h⟩
   rw [ref06_Check_K1] at h
   refine esr ?_
   refine rn 1 1 [(4, iv 0)] hF fun a hF => ?_
   refine wfn rfl ?_
   refine wpIn_ret (fn_ret [.tmp 4] [iv 0] hF rfl ⟨rfl, trivial⟩ ?_)
   have hr_ := Option.some.inj h
   subst hr_
   exact ⟨rfl, hS.ext⟩

theorem ref06_time_ok (F : Nat) (p0 : ref06_Radar) (p1 : ref06_Job) (res : Int) (h : ref06_time F p0 p1 = some res) (μ : Frz) (w0 : World) (hm : FrzAt μ w0) : Calls Try.prog 45 #[p0.ag, p1.ag] w0 (fun e w => e = .returned (iv res) ∧ Ext w0 w) := by
 obtain ⟨hlow, hS⟩ := hm.init
 have hext := Frz.ext_refl w0.heap.size μ
 rw [ref06_time] at h
 refine fn_enterW Try.func45 rfl 66 [(0, p0.ag), (1, p1.ag)] rfl rfl (by kernel_rfl) fun a w hw hF => ?_
 replace hS : St w0 [fz w0 μ] w := by rw [hw]; exact hS
 clear hw
 refine esr ?_
 refine SK.wi (boxK (t := 23) (fun b1 => [(1, p1.ag), (2, pb b1)]) (p0.ag) p0.ar hF hS (by kernel_rfl) ⟨by kernel_rfl⟩ (by kernel_rfl) (fun _ => ⟨by kernel_rfl⟩) fun b1 w a hF hS => ?_)
 refine SK.wi (boxK (t := 27) (fun b2 => [(2, pb b1), (3, pb b2)]) (p1.ag) p1.ar hF hS (by kernel_rfl) ⟨by kernel_rfl⟩ (by kernel_rfl) (fun _ => ⟨by kernel_rfl⟩) fun b2 w a hF hS => ?_)
 refine rn 1 3 [(2, pb b1), (3, pb b2)] hF fun a hF => ?_
 refine wfn rfl ?_
 refine esr ?_
 refine rno 2 [.run [] (Instr.loadAt 25 (.pointer (some ⟨b2, 1, none⟩))) (p1.Train.ag)] 2 [(2, pb b1), (3, pb b2), (11, p1.Train.ag)] hF (ocons (obN (us := p1.Train.cells) (by kernel_rfl) (fun _ hd => ((hS.at_ hd).blk (i := 0) rfl).cells rfl)) onil) fun a hF => ?_
 refine SK.wi (allocK (t := 25) (fun b3 => [(2, pb b1), (3, pb b2), (5, pb b3), (11, p1.Train.ag)]) #[iv 0, iv 0, iv 0, iv 0, iv 0] hF hS (by kernel_rfl) ⟨by kernel_rfl⟩ (by kernel_rfl) (fun _ => ⟨by kernel_rfl⟩) fun b3 w a hF hS => ?_)
 refine SK.wi (storeK (t := 25) [(2, pb b1), (3, pb b2), (5, pb b3)] 0 0 (p1.Train.ag) p1.Train.ar hF hS rfl (by kernel_rfl) ⟨by kernel_rfl⟩ (by kernel_rfl) (by kernel_rfl) (by kernel_rfl) (by kernel_rfl) ⟨by kernel_rfl⟩ fun w a hF hS => ?_)
 refine wfn rfl ?_
 refine esr ?_
 refine rn 1 1 [(2, pb b1), (3, pb b2), (5, pb b3), (6, iv 0)] hF fun a hF => ?_
 refine wfn rfl ?_
 refine ecut (fun a w => ∃ (x42 : Int), Fr 66 [] [(2, pb b1), (3, pb b2), (5, pb b3), (6, iv x42)] a ∧ St w0 [blk b3 25 p1.Train.ar, blk b2 27 p1.ar, blk b1 23 p0.ar, fz w0 μ] w ∧ ref06_time_K1 F p0 p1 x42 = some res) ?_ ?_
 ·skip
  refine esr ?_
  refine rn 1 1 [(2, pb b1), (3, pb b2), (5, pb b3), (6, iv 0), (7, iv 0)] hF fun a hF => ?_
  refine wfn rfl ?_
  refine wpIn_block ?_
  refine eloop (fun n_ a w => ∃ (x73 : Int) (x74 : Int), Fr 66 [] [(2, pb b1), (3, pb b2), (5, pb b3), (6, iv x73), (7, iv x74)] a ∧ St w0 [blk b3 25 p1.Train.ar, blk b2 27 p1.ar, blk b1 23 p0.ar, fz w0 μ] w ∧ ref06_time_L2 F p0 p1 n_ x73 x74 = some res) F ⟨0, 0, hF.sub (by kernel_rfl), St.pick [0, 1, 2, 3] (by decide) hS, h⟩ ?_
  rintro n_ a w ⟨x73, x74, hF, hS, h⟩
  rcases n_ with _ | n_
  ·cases (show (none : Option Int) = some res from h)
  obtain ⟨k2, hk2⟩ : ∃ k, k = ref06_time_L2 F p0 p1 n_ := ⟨_, rfl⟩
  replace h : ref06_time_B2 F p0 p1 k2 x73 x74 = some res := by rw [hk2]; exact h
  rw [ref06_time_B2] at h
  refine eseq ?_
  refine esr ?_
  refine rno 4 [.run [] (Instr.loadAt 3 (.pointer (some ⟨b3, 4, none⟩))) (iv p1.Train.Count)] 4 [(2, pb b1), (3, pb b2), (5, pb b3), (6, iv x73), (7, iv x74), (15, .bool (decide (x74 < p1.Train.Count)))] hF (ocons (ob1 (by kernel_rfl) (fun _ hd => (hS.at_ hd).cell (i := 0) (j := 4) rfl rfl)) onil) fun a hF => ?_
  refine wfn rfl ?_
  refine econd hF rfl (fun hc => ?_) (fun hc => ?_)
  ·replace h := bif_t h hc
   refine wpIn_skip (norm_then ?_)
   refine ecut (fun a w => ∃ (x80 : Int), Fr 66 [] [(2, pb b1), (3, pb b2), (5, pb b3), (6, iv x80), (7, iv x74)] a ∧ St w0 [blk b3 25 p1.Train.ar, blk b2 27 p1.ar, blk b1 23 p0.ar, fz w0 μ] w ∧ ref06_time_K3 x74 k2 x80 = some res) ?_ ?_
   ·skip
    refine wpIn_block ?_
    refine esr ?_
    replace h := bindS h
    obtain ⟨x83, hx83, h⟩ := h
    replace h := bindS h
    obtain ⟨x84, hx84, h⟩ := h
    refine rno 21 [.run [] (Instr.loadAt 3 (.pointer (some ⟨b3, 1, none⟩))) (iv p1.Train.Kind), .run [⟨21, true, (p1.Train.Kind == 2)⟩] (Instr.loadAt 3 (.pointer (some ⟨b3, 4, none⟩))) (iv p1.Train.Count), .run [⟨21, true, (p1.Train.Kind == 2)⟩] (binOp .quo 3 (iv p1.Train.Count) (iv 2)) (iv x83), .run [⟨28, false, (bif (p1.Train.Kind == 2) then (decide (x74 ≥ x83)) else false)⟩] (Instr.loadAt 3 (.pointer (some ⟨b3, 1, none⟩))) (iv p1.Train.Kind), .run [⟨32, true, (p1.Train.Kind == 3)⟩, ⟨28, false, (bif (p1.Train.Kind == 2) then (decide (x74 ≥ x83)) else false)⟩] (binOp .rem 3 (iv x74) (iv 2)) (iv x84)] 21 [(2, pb b1), (3, pb b2), (5, pb b3), (6, iv x73), (7, iv x74), (8, .bool (bif (bif (p1.Train.Kind == 2) then (decide (x74 ≥ x83)) else false) then true else (bif (p1.Train.Kind == 3) then (x84 == 1) else false)))] hF (ocons (ob1 (by kernel_rfl) (fun _ hd => (hS.at_ hd).cell (i := 0) (j := 1) rfl rfl)) (ocons (ob1 (by kernel_rfl) (fun _ hd => (hS.at_ hd).cell (i := 0) (j := 4) rfl rfl)) (ocons (obQuoC (fun hk => gd_some hx83 hk)) (ocons (ob1 (by kernel_rfl) (fun _ hd => (hS.at_ hd).cell (i := 0) (j := 1) rfl rfl)) (ocons (obRemC (fun hk => gd_some hx84 hk)) onil))))) fun a hF => ?_
    refine wfn rfl ?_
    refine esr ?_
    refine rn 1 1 [(2, pb b1), (3, pb b2), (5, pb b3), (6, iv x73), (7, iv x74), (38, .bool (bif (bif (p1.Train.Kind == 2) then (decide (x74 ≥ x83)) else false) then true else (bif (p1.Train.Kind == 3) then (x84 == 1) else false)))] hF fun a hF => ?_
    refine wfn rfl ?_
    refine econd hF rfl (fun hc => ?_) (fun hc => ?_)
    ·replace h := bif_t h hc
     refine WI.region ?_
     replace h := bindS h
     obtain ⟨x85, hx85, h⟩ := h
     refine rno 5 [.run [] (Instr.loadAt 3 (.pointer (some ⟨b3, 3, none⟩))) (iv p1.Train.Second), .run [] (binOp .add 3 (iv x73) (iv p1.Train.Second)) (iv x85)] 5 [(2, pb b1), (3, pb b2), (5, pb b3), (6, iv x85), (7, iv x74)] hF (ocons (ob1 (by kernel_rfl) (fun _ hd => (hS.at_ hd).cell (i := 0) (j := 3) rfl rfl)) (ocons (obAddC (fun _ => hx85)) onil)) fun a hF => ?_
     refine WI.fin rfl (norm_block <| norm_then <| ?_)
     exact ⟨x85, hF.sub (by kernel_rfl), St.pick [0, 1, 2, 3] (by decide) hS, h⟩
    ·replace h := bif_f h hc
     refine WI.region ?_
     replace h := bindS h
     obtain ⟨x86, hx86, h⟩ := h
     refine rno 5 [.run [] (Instr.loadAt 3 (.pointer (some ⟨b3, 2, none⟩))) (iv p1.Train.First), .run [] (binOp .add 3 (iv x73) (iv p1.Train.First)) (iv x86)] 5 [(2, pb b1), (3, pb b2), (5, pb b3), (6, iv x86), (7, iv x74)] hF (ocons (ob1 (by kernel_rfl) (fun _ hd => (hS.at_ hd).cell (i := 0) (j := 2) rfl rfl)) (ocons (obAddC (fun _ => hx86)) onil)) fun a hF => ?_
     refine WI.fin rfl (norm_block <| norm_then <| ?_)
     exact ⟨x86, hF.sub (by kernel_rfl), St.pick [0, 1, 2, 3] (by decide) hS, h⟩
   rintro a w ⟨x80, hF, hS, h⟩
   rw [ref06_time_K3] at h
   refine WI.region ?_
   replace h := bindS h
   obtain ⟨x81, hx81, h⟩ := h
   refine rno 3 [.run [] (binOp .add 3 (iv x74) (iv 1)) (iv x81)] 3 [(2, pb b1), (3, pb b2), (5, pb b3), (6, iv x80), (7, iv x81)] hF (ocons (obAddC (fun _ => hx81)) onil) fun a hF => ?_
   refine wfn rfl ?_
   rw [hk2] at h
   exact ⟨n_, Nat.lt_succ_self _, x80, x81, hF.sub (by kernel_rfl), St.pick [0, 1, 2, 3] (by decide) hS, h⟩
  ·replace h := bif_f h hc
   refine wpIn_exit (exit_then <| exit_then <| exit_hit <| norm_then ?_)
   exact ⟨x73, hF.sub (by kernel_rfl), St.pick [0, 1, 2, 3] (by decide) hS, h⟩
 rintro a w ⟨x42, hF, hS, h⟩
 rw [ref06_time_K1] at h
 refine esr ?_
 replace h := bindS h
 obtain ⟨x43, hx43, h⟩ := h
 replace h := bindS h
 obtain ⟨x44, hx44, h⟩ := h
 replace h := bindS h
 obtain ⟨y45, hy45, h⟩ := h
 refine rx 12 [.run [] (Instr.loadAt 3 (.pointer (some ⟨b3, 4, none⟩))) (iv p1.Train.Count), .run [] (binOp .mul 3 (iv 100) (iv p1.Train.Count)) (iv x43), .run [] (Instr.loadAt 3 (.pointer (some ⟨b2, 6, none⟩))) (iv p1.Width), .run [] (binOp .mul 3 (iv x43) (iv p1.Width)) (iv x44), .run [] (Instr.loadAt 3 (.pointer (some ⟨b1, 3, none⟩))) (iv p0.Duty), .call [] 75 #[iv x44, iv p0.Duty] (iv y45)] 12 [(2, pb b1), (9, iv (if y45 > x42 then y45 else x42))] hF (ocons (ob1 (by kernel_rfl) (fun _ hd => (hS.later hd).cell (i := 0) (j := 4) rfl rfl)) (ocons (obMulC (fun _ => hx43)) (ocons (ob1 (by kernel_rfl) (fun _ hd => (hS.later hd).cell (i := 1) (j := 6) rfl rfl)) (ocons (obMulC (fun _ => hx44)) (ocons (ob1 (by kernel_rfl) (fun _ hd => (hS.later hd).cell (i := 2) (j := 3) rfl rfl)) (ocons (show Ob.ok _ Ext _ _ from fun hk w2 hd => ref01_Up_ok F x44 p0.Duty _ ((fun _ => hy45) hk) _ w2 (memOf_at w2) ) onil)))))) fun a w hF hx => ?_
 replace hS := hS.later hx
 refine wfn rfl ?_
 refine eseq ?_
 replace h := bindS h
 obtain ⟨x46, hx46, h⟩ := h
 replace h := bindS h
 obtain ⟨y47, hy47, h⟩ := h
 refine runD (obs := [.run [] (Instr.loadAt 3 (.pointer (some ⟨b1, 1, none⟩))) (iv p0.Turn), .run [] (Instr.loadAt 3 (pb b1)) (iv p0.Rays), .run [] (binOp .mul 3 (iv p0.Rays) (iv (if y45 > x42 then y45 else x42))) (iv x46), .call [] 75 #[iv x46, iv 1000] (iv y47)]) 9 [(4, iv (if y47 > p0.Turn then y47 else p0.Turn))] (by kernel_rfl) hF (by kernel_rfl) (ocons (ob1 (by kernel_rfl) (fun _ hd => (hS.later hd).cell (i := 2) (j := 1) rfl rfl)) (ocons (ob1 (by kernel_rfl) (fun _ hd => (hS.later hd).cell (i := 2) (j := 0) rfl rfl)) (ocons (obMulC (fun _ => hx46)) (ocons (show Ob.ok _ Ext _ _ from fun hk w2 hd => ref01_Up_ok F x46 1000 _ ((fun _ => hy47) hk) _ w2 (memOf_at w2) ) onil)))) ⟨by kernel_rfl⟩ fun a w hF hx => ?_
 replace hS := hS.later hx
 refine wfn rfl ?_
 refine wpIn_ret (fn_ret [.tmp 4] [iv (if y47 > p0.Turn then y47 else p0.Turn)] hF rfl ⟨rfl, trivial⟩ ?_)
 have hr_ := Option.some.inj h
 subst hr_
 exact ⟨rfl, hS.ext⟩

theorem plan_newDesk_ok (F : Nat) (p0 : plan_Radar) (p1 : (List plan_Job)) (res : (Option plan_desk)) (h : plan_newDesk F p0 p1 = some res) (μ : Frz) (w0 : World) (hm : FrzAt μ w0) {ad1 : Option Addr} {cap2 : Nat} (hA3 : ArrM μ 8 plan_Job.cells ad1 cap2 p1) : Calls Try.prog 56 #[p0.ag, sv ad1 p1 cap2] w0 (fun e w => ∃ (ν_ : Frz) (pv1323 : Option Addr), μ.ext w0.heap.size ν_ ∧ e = .returned (.pointer pv1323) ∧ PtM ν_ 113 Rp113 pv1323 res ∧ St w0 [fz w0 ν_] w) := by
 obtain ⟨hlow, hS⟩ := hm.init
 have hext := Frz.ext_refl w0.heap.size μ
 rw [plan_newDesk] at h
 refine fn_enterW Try.func56 rfl 58 [(0, p0.ag), (1, sv ad1 p1 cap2)] rfl rfl (by kernel_rfl) fun a w hw hF => ?_
 replace hS : St w0 [fz w0 μ] w := by rw [hw]; exact hS
 clear hw
 refine esr ?_
 refine SK.wi (boxK (t := 31) (fun b4 => [(1, sv ad1 p1 cap2), (2, pb b4)]) (p0.ag) p0.ar hF hS (by kernel_rfl) ⟨by kernel_rfl⟩ (by kernel_rfl) (fun _ => ⟨by kernel_rfl⟩) fun b4 w a hF hS => ?_)
 refine rn 1 2 [(1, sv ad1 p1 cap2), (2, pb b4)] hF fun a hF => ?_
 refine wfn rfl ?_
 refine esr ?_
 refine rn 2 2 [(1, sv ad1 p1 cap2), (2, pb b4), (12, .agg #[sv ad1 p1 cap2, .slice none 0 0, .slice none 0 0])] hF fun a hF => ?_
 refine SK.wi (boxK (t := 113) (fun b5 => [(1, sv ad1 p1 cap2), (2, pb b4), (13, pb b5)]) (.agg #[sv ad1 p1 cap2, .slice none 0 0, .slice none 0 0]) #[sv ad1 p1 cap2, .slice none 0 0, .slice none 0 0] hF hS (by kernel_rfl) ⟨by kernel_rfl⟩ (by kernel_rfl) (fun _ => ⟨by kernel_rfl⟩) fun b5 w a hF hS => ?_)
 refine rn 1 4 [(1, sv ad1 p1 cap2), (2, pb b4), (5, pb b5)] hF fun a hF => ?_
 refine wfn rfl ?_
 have hj675 := Frz.le_refl μ
 refine ecut (fun a w => ∃ (l656 : (List Int)) (l659 : (List (List Int))) (ν653 : Frz) (ad654 : Option Addr) (cap655 : Nat) (ad657 : Option Addr) (cap658 : Nat) (css660 : List (List Value)), Fr 58 [] [(5, pb b5)] a ∧ St w0 [arr 40 1 (fN 1) ad657 l659.length cap658 css660, arr 3 1 fI ad654 l656.length cap655 l656, blk b5 113 #[sv ad1 p1 cap2, sv ad654 l656 cap655, sv ad657 l659 cap658], blk b4 31 p0.ar, fz w0 ν653] w ∧ (All2 (Rp40 ν653) css660 l659) ∧ (μ.le ν653) ∧ (μ.ext w0.heap.size ν653) ∧ (FrzIn w0 ν653) ∧ plan_newDesk_K1 p1 l656 l659 = some res) ?_ ?_
 ·skip
  refine esr ?_
  refine rn 3 3 [(1, sv ad1 p1 cap2), (2, pb b4), (5, pb b5), (14, sv ad1 p1 cap2), (15, iv (ln p1)), (16, iv 0)] hF fun a hF => ?_
  refine wfn rfl ?_
  refine wpIn_block ?_
  have hj1114 := Frz.le_refl μ
  replace hS := hS.nilarr 3 1 fI
  replace hS := hS.nilarr 40 1 (fN 1)
  refine eloop (fun n_ a w => ∃ (l1106 : (List Int)) (l1109 : (List (List Int))) (x1112 : Int) (ν1103 : Frz) (ad1104 : Option Addr) (cap1105 : Nat) (ad1107 : Option Addr) (cap1108 : Nat) (css1110 : List (List Value)), Fr 58 [] [(1, sv ad1 p1 cap2), (2, pb b4), (5, pb b5), (14, sv ad1 p1 cap2), (15, iv (ln p1)), (16, iv x1112)] a ∧ St w0 [arr 40 1 (fN 1) ad1107 l1109.length cap1108 css1110, arr 3 1 fI ad1104 l1106.length cap1105 l1106, blk b5 113 #[sv ad1 p1 cap2, sv ad1104 l1106 cap1105, sv ad1107 l1109 cap1108], blk b4 31 p0.ar, fz w0 ν1103] w ∧ (All2 (Rp40 ν1103) css1110 l1109) ∧ (μ.le ν1103) ∧ (μ.ext w0.heap.size ν1103) ∧ (FrzIn w0 ν1103) ∧ plan_newDesk_L2 F p0 p1 n_ l1106 l1109 x1112 = some res) F ⟨[], [], 0, μ, none, 0, none, 0, [], hF.sub (by kernel_rfl), St.pick [0, 1, 2, 3, 4] (by decide) hS, All2.nil, hj1114, hext, hlow, h⟩ ?_
  clear hj1114
  rintro n_ a w ⟨l1106, l1109, x1112, ν1103, ad1104, cap1105, ad1107, cap1108, css1110, hF, hS, hq1111, hle1113, hext, hlow, h⟩
  rcases n_ with _ | n_
  ·cases (show (none : Option (Option plan_desk)) = some res from h)
  replace hA3 := hA3.mono hle1113
  replace hj675 := Frz.le_trans hj675 hle1113
  obtain ⟨k2, hk2⟩ : ∃ k, k = plan_newDesk_L2 F p0 p1 n_ := ⟨_, rfl⟩
  replace h : plan_newDesk_B2 F p0 p1 k2 l1106 l1109 x1112 = some res := by rw [hk2]; exact h
  rw [plan_newDesk_B2] at h
  refine esr ?_
  refine rn 1 1 [(1, sv ad1 p1 cap2), (2, pb b4), (5, pb b5), (14, sv ad1 p1 cap2), (15, iv (ln p1)), (16, iv x1112), (17, .bool (decide (x1112 < (ln p1))))] hF fun a hF => ?_
  refine wfn rfl ?_
  refine eseq ?_
  refine econd hF rfl (fun hc => ?_) (fun hc => ?_)
  ·replace h := bif_t h hc
   refine wpIn_skip (norm_then ?_)
   have hj1224 := Frz.le_refl ν1103
   refine ecut (fun a w => ∃ (l1216 : (List Int)) (l1219 : (List (List Int))) (ν1213 : Frz) (ad1214 : Option Addr) (cap1215 : Nat) (ad1217 : Option Addr) (cap1218 : Nat) (css1220 : List (List Value)), Fr 58 [] [(1, sv ad1 p1 cap2), (2, pb b4), (5, pb b5), (14, sv ad1 p1 cap2), (15, iv (ln p1)), (16, iv x1112)] a ∧ St w0 [arr 40 1 (fN 1) ad1217 l1219.length cap1218 css1220, arr 3 1 fI ad1214 l1216.length cap1215 l1216, blk b5 113 #[sv ad1 p1 cap2, sv ad1214 l1216 cap1215, sv ad1217 l1219 cap1218], blk b4 31 p0.ar, fz w0 ν1213] w ∧ (All2 (Rp40 ν1213) css1220 l1219) ∧ (ν1103.le ν1213) ∧ (μ.ext w0.heap.size ν1213) ∧ (FrzIn w0 ν1213) ∧ plan_newDesk_K3 x1112 k2 l1216 l1219 = some res) ?_ ?_
   ·skip
    refine wpIn_block ?_
    refine esr ?_
    replace h := bindS h
    obtain ⟨u1225, hu1225, h⟩ := h
    refine rno 2 [.run [] (Instr.indexAt 43 (sv ad1 p1 cap2) (iv x1112)) (.pointer (some (slAddr ad1 x1112 8))), .run [] (Instr.loadAt 34 (.pointer (some (slAddr ad1 x1112 8)))) (u1225.ag)] 2 [(1, sv ad1 p1 cap2), (2, pb b4), (5, pb b5), (14, sv ad1 p1 cap2), (15, iv (ln p1)), (16, iv x1112), (19, u1225.ag)] hF (ocons (obIdxQ (hA3 _ (hS.frz (i := 4) rfl hlow)) (by kernel_rfl) (fun _ => hu1225)) (ocons (obElNQ (m := 8) (i := x1112) (us := u1225.cells) 0 plan_Job.cells_len (fun _ hd => (hA3 _ ((hS.at_ hd).frz (i := 4) rfl hlow))) (by kernel_rfl) (fun _ => hu1225) ⟨rfl, rfl⟩) onil)) fun a hF => ?_
    refine SK.wi (allocK (t := 34) (fun b1226 => [(1, sv ad1 p1 cap2), (2, pb b4), (5, pb b5), (7, pb b1226), (14, sv ad1 p1 cap2), (15, iv (ln p1)), (16, iv x1112), (19, u1225.ag)]) #[iv 0, iv 0, iv 0, iv 0, iv 0, iv 0, iv 0, iv 0] hF hS (by kernel_rfl) ⟨by kernel_rfl⟩ (by kernel_rfl) (fun _ => ⟨by kernel_rfl⟩) fun b1226 w a hF hS => ?_)
    refine SK.wi (storeK (t := 34) [(1, sv ad1 p1 cap2), (2, pb b4), (5, pb b5), (7, pb b1226), (14, sv ad1 p1 cap2), (15, iv (ln p1)), (16, iv x1112)] 0 0 (u1225.ag) u1225.ar hF hS rfl (by kernel_rfl) ⟨by kernel_rfl⟩ (by kernel_rfl) (by kernel_rfl) (by kernel_rfl) (by kernel_rfl) ⟨by kernel_rfl⟩ fun w a hF hS => ?_)
    refine wfn rfl ?_
    refine eseq ?_
    replace h := bindS h
    obtain ⟨y1228, hy1228, h⟩ := h
    replace h := bindS h
    obtain ⟨l1230, hl1230, h⟩ := h
    refine region_treeW 12 [7, 8, 9] _ (D := fun w => St w0 [blk b1226 34 u1225.ar, arr 40 1 (fN 1) ad1107 l1109.length cap1108 css1110, blk b5 113 #[sv ad1 p1 cap2, sv ad1104 l1106 cap1105, sv ad1107 l1109 cap1108], blk b4 31 p0.ar] w ∧ FrzAt ν1103 w) (by kernel_rfl) (by kernel_rfl) hF.size (fun w hx => ?_) (fun _ _ h => h)
    replace hS := hS.later hx
    refine ⟨⟨St.pick [0, 1, 3, 4] (by decide) hS, hS.frz (i := 5) rfl hlow⟩, ?_⟩
    have hcl1237 := Frz.le_refl ν1103
    refine WT.s [0, 1, 2, 3, 4, 5, 6] [7] (by kernel_rfl) (by kernel_rfl) ?_
    refine runC (rest := []) (obs := [.run [] (Instr.loadAt 40 (.pointer (some ⟨b5, 1, none⟩))) (sv ad1104 l1106 cap1105), .run [] (Instr.loadAt 31 (pb b4)) (p0.ag), .run [] (Instr.loadAt 34 (pb b1226)) (u1225.ag)]) [0, 1, 2, 3, 4, 5, 6] [(1, sv ad1 p1 cap2), (2, pb b4), (5, pb b5), (7, pb b1226), (14, sv ad1 p1 cap2), (15, iv (ln p1)), (16, iv x1112), (20, pb b5), (24, sv ad1104 l1106 cap1105), (25, p0.ag), (26, u1225.ag)] hF (by kernel_rfl) (by kernel_rfl) (ocons (ob1 (by kernel_rfl) (fun _ hd => hd.1.cell (i := 2) (j := 1) rfl rfl)) (ocons (obN (us := p0.cells) (by kernel_rfl) (fun _ hd => (hd.1.blk (i := 3) rfl).cells rfl)) (ocons (obN (us := u1225.cells) (by kernel_rfl) (fun _ hd => (hd.1.blk (i := 0) rfl).cells rfl)) onil))) ⟨by kernel_rfl⟩ fun a hF => ?_
    refine WRun.fin ?_
    refine all_cons ?_ (all_nil)
    refine callK (f := 44) (args := #[p0.ag, u1225.ag]) (R := fun v w2 => v = iv y1228 ∧ Ext w w2) (fun v1238 => [(1, sv ad1 p1 cap2), (2, pb b4), (5, pb b5), (7, pb b1226), (14, sv ad1 p1 cap2), (15, iv (ln p1)), (16, iv x1112), (20, pb b5), (24, sv ad1104 l1106 cap1105), (27, v1238)]) hF (by kernel_rfl) ⟨by kernel_rfl⟩ (Calls.mono (plan_Radar_time_ok F p0 u1225 _ hy1228 (memOf w) w (memOf_at w) ) (fun e w2 h => ⟨_, h.1, rfl, h.2⟩)) (fun _ => ⟨by kernel_rfl⟩) ?_
    rintro v1238 w a ⟨rfl, hx⟩ hF
    replace hS := hS.later hx
    refine ⟨⟨St.pick [0, 1, 3, 4] (by decide) hS, (hS.frz (i := 5) rfl hlow)⟩, ?_⟩
    refine WT.s [] [8] (by kernel_rfl) (by kernel_rfl) ?_
    refine WRun.fin ?_
    refine all_cons ?_ (all_nil)
    refine litK (e := 3) (sz := 1) (f := fI) (t := 40) (len := 1) (fun b1239 => [(1, sv ad1 p1 cap2), (2, pb b4), (5, pb b5), (7, pb b1226), (14, sv ad1 p1 cap2), (15, iv (ln p1)), (16, iv x1112), (20, pb b5), (24, sv ad1104 l1106 cap1105), (28, sb b1239 1)]) #[(0, iv y1228)] #[iv y1228] ([y1228]) hF hS (by kernel_rfl) ⟨by kernel_rfl⟩ (by kernel_rfl) fI_len rfl rfl (by kernel_rfl) (fun _ => ⟨by kernel_rfl⟩) fun b1239 w a hF hS => ⟨⟨St.pick [1, 2, 4, 5] (by decide) hS, (hS.frz (i := 6) rfl hlow)⟩, ?_⟩
    refine WT.s [] [9] (by kernel_rfl) (by kernel_rfl) ?_
    refine WRun.fin ?_
    refine all_cons ?_ (all_nil)
    refine appK (t := 40) (ty := 40) (bytes := 8) (l := l1106) (l' := ([y1228])) (fun ad1240 cap1241 => [(1, sv ad1 p1 cap2), (2, pb b4), (5, pb b5), (7, pb b1226), (14, sv ad1 p1 cap2), (15, iv (ln p1)), (16, iv x1112), (20, pb b5), (29, sv ad1240 l1230 cap1241)]) 3 hF hS rfl (by kernel_rfl) ⟨by kernel_rfl⟩ (by kernel_rfl) (hS.arr (i := 0) rfl) (fun _ _ => rfl) hl1230 (fun _ _ => ⟨by kernel_rfl⟩) fun ad1240 cap1241 w a hF hS => ⟨⟨St.pick [1, 2, 4, 5] (by decide) hS, (hS.frz (i := 6) rfl hlow)⟩, ?_⟩
    refine WT.z [10, 11] (by kernel_rfl) ?_
    refine runC (rest := []) (obs := []) [10, 11] [(1, sv ad1 p1 cap2), (2, pb b4), (5, pb b5), (7, pb b1226), (14, sv ad1 p1 cap2), (15, iv (ln p1)), (16, iv x1112), (29, sv ad1240 l1230 cap1241), (31, .pointer (some ⟨b5, 1, none⟩))] hF (by kernel_rfl) (by kernel_rfl) onil ⟨by kernel_rfl⟩ fun a hF => ?_
    refine WRun.fin ?_
    refine SK.wi (storeK (t := 40) [(1, sv ad1 p1 cap2), (2, pb b4), (5, pb b5), (7, pb b1226), (14, sv ad1 p1 cap2), (15, iv (ln p1)), (16, iv x1112)] 4 1 (sv ad1240 l1230 cap1241) #[sv ad1 p1 cap2, sv ad1240 l1230 cap1241, sv ad1107 l1109 cap1108] hF hS rfl (by kernel_rfl) ⟨by kernel_rfl⟩ (by kernel_rfl) (by kernel_rfl) (by kernel_rfl) (by kernel_rfl) ⟨by kernel_rfl⟩ fun w a hF hS => ?_)
    refine wfn rfl ?_
    refine esr ?_
    refine rn 1 1 [(1, sv ad1 p1 cap2), (2, pb b4), (5, pb b5), (7, pb b1226), (8, .slice none 0 0), (14, sv ad1 p1 cap2), (15, iv (ln p1)), (16, iv x1112)] hF fun a hF => ?_
    refine wfn rfl ?_
    refine ecut (fun a w => ∃ (l1277 : (List Int)) (ad1275 : Option Addr) (cap1276 : Nat), Fr 58 [] [(1, sv ad1 p1 cap2), (2, pb b4), (5, pb b5), (8, sv ad1275 l1277 cap1276), (14, sv ad1 p1 cap2), (15, iv (ln p1)), (16, iv x1112)] a ∧ St w0 [arr 3 1 fI ad1275 l1277.length cap1276 l1277, arr 3 1 fI (some ⟨b1239, 0, none⟩) ([y1228]).length 1 ([y1228]), blk b1226 34 u1225.ar, arr 40 1 (fN 1) ad1107 l1109.length cap1108 css1110, arr 3 1 fI ad1240 l1230.length cap1241 l1230, blk b5 113 #[sv ad1 p1 cap2, sv ad1240 l1230 cap1241, sv ad1107 l1109 cap1108], blk b4 31 p0.ar, fz w0 ν1103] w ∧ plan_newDesk_K4 l1109 x1112 k2 l1230 l1277 = some res) ?_ ?_
    ·skip
     refine esr ?_
     refine rn 3 3 [(1, sv ad1 p1 cap2), (2, pb b4), (5, pb b5), (7, pb b1226), (8, .slice none 0 0), (14, sv ad1 p1 cap2), (15, iv (ln p1)), (16, iv x1112), (32, sv ad1 p1 cap2), (33, iv (ln p1)), (34, iv 0)] hF fun a hF => ?_
     refine wfn rfl ?_
     refine wpIn_block ?_
     replace hS := hS.nilarr 3 1 fI
     refine eloop (fun n_ a w => ∃ (x1310 : Int) (l1313 : (List Int)) (ad1311 : Option Addr) (cap1312 : Nat), Fr 58 [] [(1, sv ad1 p1 cap2), (2, pb b4), (5, pb b5), (7, pb b1226), (8, sv ad1311 l1313 cap1312), (14, sv ad1 p1 cap2), (15, iv (ln p1)), (16, iv x1112), (32, sv ad1 p1 cap2), (33, iv (ln p1)), (34, iv x1310)] a ∧ St w0 [arr 3 1 fI ad1311 l1313.length cap1312 l1313, arr 3 1 fI (some ⟨b1239, 0, none⟩) ([y1228]).length 1 ([y1228]), blk b1226 34 u1225.ar, arr 40 1 (fN 1) ad1107 l1109.length cap1108 css1110, arr 3 1 fI ad1240 l1230.length cap1241 l1230, blk b5 113 #[sv ad1 p1 cap2, sv ad1240 l1230 cap1241, sv ad1107 l1109 cap1108], blk b4 31 p0.ar, fz w0 ν1103] w ∧ plan_newDesk_L5 F p0 p1 l1109 x1112 k2 u1225 l1230 n_ x1310 l1313 = some res) F ⟨0, [], none, 0, hF.sub (by kernel_rfl), St.pick [0, 1, 2, 3, 4, 5, 6, 7] (by decide) hS, h⟩ ?_
     rintro n_ a w ⟨x1310, l1313, ad1311, cap1312, hF, hS, h⟩
     rcases n_ with _ | n_
     ·cases (show (none : Option (Option plan_desk)) = some res from h)
     obtain ⟨k5, hk5⟩ : ∃ k, k = plan_newDesk_L5 F p0 p1 l1109 x1112 k2 u1225 l1230 n_ := ⟨_, rfl⟩
     replace h : plan_newDesk_B5 F p0 p1 l1109 x1112 k2 u1225 l1230 k5 x1310 l1313 = some res := by rw [hk5]; exact h
     rw [plan_newDesk_B5] at h
     refine esr ?_
     refine rn 1 1 [(1, sv ad1 p1 cap2), (2, pb b4), (5, pb b5), (7, pb b1226), (8, sv ad1311 l1313 cap1312), (14, sv ad1 p1 cap2), (15, iv (ln p1)), (16, iv x1112), (32, sv ad1 p1 cap2), (33, iv (ln p1)), (34, iv x1310), (35, .bool (decide (x1310 < (ln p1))))] hF fun a hF => ?_
     refine wfn rfl ?_
     refine eseq ?_
     refine econd hF rfl (fun hc => ?_) (fun hc => ?_)
     ·replace h := bif_t h hc
      refine wpIn_skip (norm_then ?_)
      refine eseq ?_
      refine wpIn_block ?_
      refine esr ?_
      replace h := bindS h
      obtain ⟨u1315, hu1315, h⟩ := h
      refine rno 2 [.run [] (Instr.indexAt 43 (sv ad1 p1 cap2) (iv x1310)) (.pointer (some (slAddr ad1 x1310 8))), .run [] (Instr.loadAt 34 (.pointer (some (slAddr ad1 x1310 8)))) (u1315.ag)] 2 [(1, sv ad1 p1 cap2), (2, pb b4), (5, pb b5), (7, pb b1226), (8, sv ad1311 l1313 cap1312), (14, sv ad1 p1 cap2), (15, iv (ln p1)), (16, iv x1112), (32, sv ad1 p1 cap2), (33, iv (ln p1)), (34, iv x1310), (37, u1315.ag)] hF (ocons (obIdxQ (hA3 _ (hS.frz (i := 7) rfl hlow)) (by kernel_rfl) (fun _ => hu1315)) (ocons (obElNQ (m := 8) (i := x1310) (us := u1315.cells) 0 plan_Job.cells_len (fun _ hd => (hA3 _ ((hS.at_ hd).frz (i := 7) rfl hlow))) (by kernel_rfl) (fun _ => hu1315) ⟨rfl, rfl⟩) onil)) fun a hF => ?_
      refine SK.wi (allocK (t := 34) (fun b1316 => [(1, sv ad1 p1 cap2), (2, pb b4), (5, pb b5), (7, pb b1226), (8, sv ad1311 l1313 cap1312), (10, pb b1316), (14, sv ad1 p1 cap2), (15, iv (ln p1)), (16, iv x1112), (32, sv ad1 p1 cap2), (33, iv (ln p1)), (34, iv x1310), (37, u1315.ag)]) #[iv 0, iv 0, iv 0, iv 0, iv 0, iv 0, iv 0, iv 0] hF hS (by kernel_rfl) ⟨by kernel_rfl⟩ (by kernel_rfl) (fun _ => ⟨by kernel_rfl⟩) fun b1316 w a hF hS => ?_)
      refine SK.wi (storeK (t := 34) [(1, sv ad1 p1 cap2), (2, pb b4), (5, pb b5), (7, pb b1226), (8, sv ad1311 l1313 cap1312), (10, pb b1316), (14, sv ad1 p1 cap2), (15, iv (ln p1)), (16, iv x1112), (32, sv ad1 p1 cap2), (33, iv (ln p1)), (34, iv x1310)] 0 0 (u1315.ag) u1315.ar hF hS rfl (by kernel_rfl) ⟨by kernel_rfl⟩ (by kernel_rfl) (by kernel_rfl) (by kernel_rfl) (by kernel_rfl) ⟨by kernel_rfl⟩ fun w a hF hS => ?_)
      refine wfn rfl ?_
      refine WI.region ?_
      replace h := bindS h
      obtain ⟨y1317, hy1317, h⟩ := h
      refine rx 5 [.run [] (Instr.loadAt 31 (pb b4)) (p0.ag), .run [] (Instr.loadAt 34 (pb b1226)) (u1225.ag), .run [] (Instr.loadAt 34 (pb b1316)) (u1315.ag), .call [] 69 #[p0.ag, u1225.ag, u1315.ag] (iv y1317)] 5 [(1, sv ad1 p1 cap2), (2, pb b4), (5, pb b5), (7, pb b1226), (8, sv ad1311 l1313 cap1312), (14, sv ad1 p1 cap2), (15, iv (ln p1)), (16, iv x1112), (32, sv ad1 p1 cap2), (33, iv (ln p1)), (34, iv x1310), (38, sv ad1311 l1313 cap1312), (42, iv y1317)] hF (ocons (obN (us := p0.cells) (by kernel_rfl) (fun _ hd => ((hS.later hd).blk (i := 7) rfl).cells rfl)) (ocons (obN (us := u1225.cells) (by kernel_rfl) (fun _ hd => ((hS.later hd).blk (i := 3) rfl).cells rfl)) (ocons (obN (us := u1315.cells) (by kernel_rfl) (fun _ hd => ((hS.later hd).blk (i := 0) rfl).cells rfl)) (ocons (show Ob.ok _ Ext _ _ from fun hk w2 hd => plan_Radar_move_ok F p0 u1225 u1315 _ ((fun _ => hy1317) hk) _ w2 (memOf_at w2) ) onil)))) fun a w hF hx => ?_
      replace hS := hS.later hx
      refine SK.wi (litK (e := 3) (sz := 1) (f := fI) (t := 40) (len := 1) (fun b1318 => [(1, sv ad1 p1 cap2), (2, pb b4), (5, pb b5), (7, pb b1226), (8, sv ad1311 l1313 cap1312), (14, sv ad1 p1 cap2), (15, iv (ln p1)), (16, iv x1112), (32, sv ad1 p1 cap2), (33, iv (ln p1)), (34, iv x1310), (38, sv ad1311 l1313 cap1312), (43, sb b1318 1)]) #[(0, iv y1317)] #[iv y1317] ([y1317]) hF hS (by kernel_rfl) ⟨by kernel_rfl⟩ (by kernel_rfl) fI_len rfl rfl (by kernel_rfl) (fun _ => ⟨by kernel_rfl⟩) fun b1318 w a hF hS => ?_)
      replace h := bindS h
      obtain ⟨l1319, hl1319, h⟩ := h
      refine SK.wi (appK (t := 40) (ty := 40) (bytes := 8) (l := l1313) (l' := ([y1317])) (fun ad1320 cap1321 => [(1, sv ad1 p1 cap2), (2, pb b4), (5, pb b5), (7, pb b1226), (8, sv ad1311 l1313 cap1312), (14, sv ad1 p1 cap2), (15, iv (ln p1)), (16, iv x1112), (32, sv ad1 p1 cap2), (33, iv (ln p1)), (34, iv x1310), (44, sv ad1320 l1319 cap1321)]) 2 hF hS rfl (by kernel_rfl) ⟨by kernel_rfl⟩ (by kernel_rfl) (hS.arr (i := 0) rfl) (fun _ _ => rfl) hl1319 (fun _ _ => ⟨by kernel_rfl⟩) fun ad1320 cap1321 w a hF hS => ?_)
      refine rn 1 8 [(1, sv ad1 p1 cap2), (2, pb b4), (5, pb b5), (7, pb b1226), (8, sv ad1320 l1319 cap1321), (14, sv ad1 p1 cap2), (15, iv (ln p1)), (16, iv x1112), (32, sv ad1 p1 cap2), (33, iv (ln p1)), (34, iv x1310)] hF fun a hF => ?_
      refine WI.fin rfl (norm_block <| norm_then <| ?_)
      refine WI.region ?_
      replace h := bindS h
      obtain ⟨x1322, hx1322, h⟩ := h
      refine rno 2 [.run [] (binOp .add 3 (iv x1310) (iv 1)) (iv x1322)] 2 [(1, sv ad1 p1 cap2), (2, pb b4), (5, pb b5), (7, pb b1226), (8, sv ad1320 l1319 cap1321), (14, sv ad1 p1 cap2), (15, iv (ln p1)), (16, iv x1112), (32, sv ad1 p1 cap2), (33, iv (ln p1)), (34, iv x1322)] hF (ocons (obAddC (fun _ => hx1322)) onil) fun a hF => ?_
      refine wfn rfl ?_
      rw [hk5] at h
      exact ⟨n_, Nat.lt_succ_self _, x1322, l1319, ad1320, cap1321, hF.sub (by kernel_rfl), St.pick [2, 3, 4, 5, 6, 7, 8, 9] (by decide) hS, h⟩
     ·replace h := bif_f h hc
      refine wpIn_exit (exit_then <| exit_then <| exit_hit <| norm_then ?_)
      exact ⟨l1313, ad1311, cap1312, hF.sub (by kernel_rfl), St.pick [0, 1, 2, 3, 4, 5, 6, 7] (by decide) hS, h⟩
    rintro a w ⟨l1277, ad1275, cap1276, hF, hS, h⟩
    rw [plan_newDesk_K4] at h
    refine WI.region ?_
    refine rno 6 [.run [] (Instr.loadAt 111 (.pointer (some ⟨b5, 2, none⟩))) (sv ad1107 l1109 cap1108)] 6 [(1, sv ad1 p1 cap2), (2, pb b4), (5, pb b5), (14, sv ad1 p1 cap2), (15, iv (ln p1)), (16, iv x1112), (46, pb b5), (50, sv ad1107 l1109 cap1108), (51, sv ad1275 l1277 cap1276)] hF (ocons (ob1 (by kernel_rfl) (fun _ hd => (hS.at_ hd).cell (i := 5) (j := 2) rfl rfl)) onil) fun a hF => ?_
    obtain ⟨ν1279, hx1280, hlow, hS, hz1281⟩ := hS.freeze (i := 7) (j := 0) rfl rfl (by decide) hlow
    replace hA3 := hA3.mono hx1280.1
    replace hq1111 := All2.mono Rp40.mono hx1280.1 hq1111
    replace hj675 := Frz.le_trans hj675 hx1280.1
    replace hle1113 := Frz.le_trans hle1113 hx1280.1
    replace hj1224 := Frz.le_trans hj1224 hx1280.1
    replace hext := Frz.ext_trans hext hx1280
    replace hS : St w0 [arr 3 1 fI (some ⟨b1239, 0, none⟩) ([y1228]).length 1 ([y1228]), blk b1226 34 u1225.ar, arr 40 1 (fN 1) ad1107 l1109.length cap1108 css1110, arr 3 1 fI ad1240 l1230.length cap1241 l1230, blk b5 113 #[sv ad1 p1 cap2, sv ad1240 l1230 cap1241, sv ad1107 l1109 cap1108], blk b4 31 p0.ar, fz w0 ν1279] w := hS
    have hA1282 := ArrM.of_arr hz1281
    have hq1283 : All2 (Rp40 ν1279) ([[sv ad1275 l1277 cap1276]] : List (List Value)) [l1277] := (All2.cons ⟨ad1275, cap1276, rfl, hA1282⟩ All2.nil)
    refine SK.wi (litQK (e := 40) (sz := 1) (f := fN 1) (t := 111) (len := 1) (fun b1278 => [(1, sv ad1 p1 cap2), (2, pb b4), (5, pb b5), (14, sv ad1 p1 cap2), (15, iv (ln p1)), (16, iv x1112), (46, pb b5), (50, sv ad1107 l1109 cap1108), (52, sb b1278 1)]) #[(0, sv ad1275 l1277 cap1276)] #[sv ad1275 l1277 cap1276] ([[sv ad1275 l1277 cap1276]] : List (List Value)) ([l1277]) hF hS (by kernel_rfl) ⟨by kernel_rfl⟩ (by kernel_rfl) (fN_len 1) rfl rfl rfl (by kernel_rfl) (fun _ => ⟨by kernel_rfl⟩) fun b1278 w a hF hS => ?_)
    replace h := bindS h
    obtain ⟨l1284, hl1284, h⟩ := h
    have hq1288 : All2 (Rp40 ν1279) (css1110 ++ ([[sv ad1275 l1277 cap1276]] : List (List Value))) l1284 := by rw [(apd_some hl1284).1]; exact All2.app hq1111 hq1283
    refine SK.wi (appQK (t := 111) (ty := 111) (bytes := 24) (c := css1110) (c' := ([[sv ad1275 l1277 cap1276]] : List (List Value))) (l := l1109) (l' := ([l1277])) (fun ad1285 cap1286 => [(1, sv ad1 p1 cap2), (2, pb b4), (5, pb b5), (14, sv ad1 p1 cap2), (15, iv (ln p1)), (16, iv x1112), (46, pb b5), (53, sv ad1285 l1284 cap1286)]) 3 hF hS rfl (by kernel_rfl) ⟨by kernel_rfl⟩ (by kernel_rfl) (hS.arr (i := 0) rfl) (ArrQ.one hq1283 Rp40.one) hl1284 (fun _ _ => ⟨by kernel_rfl⟩) fun ad1285 cap1286 w a hF hS => ?_)
    refine rn 2 10 [(1, sv ad1 p1 cap2), (2, pb b4), (5, pb b5), (14, sv ad1 p1 cap2), (15, iv (ln p1)), (16, iv x1112), (53, sv ad1285 l1284 cap1286), (55, .pointer (some ⟨b5, 2, none⟩))] hF fun a hF => ?_
    refine SK.wi (storeK (t := 111) [(1, sv ad1 p1 cap2), (2, pb b4), (5, pb b5), (14, sv ad1 p1 cap2), (15, iv (ln p1)), (16, iv x1112)] 5 2 (sv ad1285 l1284 cap1286) #[sv ad1 p1 cap2, sv ad1240 l1230 cap1241, sv ad1285 l1284 cap1286] hF hS rfl (by kernel_rfl) ⟨by kernel_rfl⟩ (by kernel_rfl) (by kernel_rfl) (by kernel_rfl) (by kernel_rfl) ⟨by kernel_rfl⟩ fun w a hF hS => ?_)
    refine WI.fin rfl (norm_block <| norm_then <| ?_)
    exact ⟨l1230, l1284, ν1279, ad1240, cap1241, ad1285, cap1286, (css1110 ++ ([[sv ad1275 l1277 cap1276]] : List (List Value))), hF.sub (by kernel_rfl), St.pick [3, 4, 5, 6, 7] (by decide) hS, hq1288, hj1224, hext, hlow, h⟩
   clear hj1224
   rintro a w ⟨l1216, l1219, ν1213, ad1214, cap1215, ad1217, cap1218, css1220, hF, hS, hq1221, hle1222, hext, hlow, h⟩
   replace hA3 := hA3.mono hle1222
   replace hq1111 := All2.mono Rp40.mono hle1222 hq1111
   replace hj675 := Frz.le_trans hj675 hle1222
   replace hle1113 := Frz.le_trans hle1113 hle1222
   rw [plan_newDesk_K3] at h
   refine WI.region ?_
   replace h := bindS h
   obtain ⟨x1223, hx1223, h⟩ := h
   refine rno 2 [.run [] (binOp .add 3 (iv x1112) (iv 1)) (iv x1223)] 2 [(1, sv ad1 p1 cap2), (2, pb b4), (5, pb b5), (14, sv ad1 p1 cap2), (15, iv (ln p1)), (16, iv x1223)] hF (ocons (obAddC (fun _ => hx1223)) onil) fun a hF => ?_
   refine wfn rfl ?_
   rw [hk2] at h
   exact ⟨n_, Nat.lt_succ_self _, l1216, l1219, x1223, ν1213, ad1214, cap1215, ad1217, cap1218, css1220, hF.sub (by kernel_rfl), St.pick [0, 1, 2, 3, 4] (by decide) hS, hq1221, hle1113, hext, hlow, h⟩
  ·replace h := bif_f h hc
   refine wpIn_exit (exit_then <| exit_then <| exit_hit <| norm_then ?_)
   exact ⟨l1106, l1109, ν1103, ad1104, cap1105, ad1107, cap1108, css1110, hF.sub (by kernel_rfl), St.pick [0, 1, 2, 3, 4] (by decide) hS, hq1111, hj675, hext, hlow, h⟩
 clear hj675
 rintro a w ⟨l656, l659, ν653, ad654, cap655, ad657, cap658, css660, hF, hS, hq661, hle662, hext, hlow, h⟩
 replace hA3 := hA3.mono hle662
 rw [plan_newDesk_K1] at h
 refine esr ?_
 refine rn 2 2 [(4, pb b5)] hF fun a hF => ?_
 refine wfn rfl ?_
 refine wpIn_ret (fn_ret [.tmp 4] [pb b5] hF rfl ⟨rfl, trivial⟩ ?_)
 obtain ⟨ν663, hx664, hlow, hS, hz665⟩ := hS.freeze (i := 4) (j := 1) rfl rfl (by decide) hlow
 replace hA3 := hA3.mono hx664.1
 replace hq661 := All2.mono Rp40.mono hx664.1 hq661
 replace hle662 := Frz.le_trans hle662 hx664.1
 replace hext := Frz.ext_trans hext hx664
 replace hS : St w0 [arr 40 1 (fN 1) ad657 l659.length cap658 css660, blk b5 113 #[sv ad1 p1 cap2, sv ad654 l656 cap655, sv ad657 l659 cap658], blk b4 31 p0.ar, fz w0 ν663] w := hS
 have hA666 := ArrM.of_arr hz665
 obtain ⟨ν667, hx668, hlow, hS, hz669⟩ := hS.freeze (i := 3) (j := 0) rfl rfl (by decide) hlow
 replace hA3 := hA3.mono hx668.1
 replace hq661 := All2.mono Rp40.mono hx668.1 hq661
 replace hA666 := hA666.mono hx668.1
 replace hle662 := Frz.le_trans hle662 hx668.1
 replace hext := Frz.ext_trans hext hx668
 replace hS : St w0 [blk b5 113 #[sv ad1 p1 cap2, sv ad654 l656 cap655, sv ad657 l659 cap658], blk b4 31 p0.ar, fz w0 ν667] w := hS
 have hA670 := ArrQ.of_arr (l := l659) hz669 hq661 Rp40.mono (Frz.le_refl _)
 obtain ⟨ν671, hx672, hlow, hS, hz673⟩ := hS.freeze (i := 2) (j := 0) rfl rfl (by decide) hlow
 replace hA3 := hA3.mono hx672.1
 replace hA666 := hA666.mono hx672.1
 replace hA670 := hA670.mono Rp40.mono hx672.1
 replace hle662 := Frz.le_trans hle662 hx672.1
 replace hext := Frz.ext_trans hext hx672
 replace hS : St w0 [blk b4 31 p0.ar, fz w0 ν671] w := hS
 have hB674 : BlkM ν671 b5 113 #[sv ad1 p1 cap2, sv ad654 l656 cap655, sv ad657 l659 cap658] := hz673
 have hr_ := Option.some.inj h
 subst hr_
 exact ⟨ν671, (some ⟨b5, 0, none⟩), hext, rfl, (PtM.mk (cs := [sv ad1 p1 cap2, sv ad654 l656 cap655, sv ad657 l659 cap658]) hB674 ⟨ad1, cap2, ad654, cap655, ad657, cap658, css660, rfl, hA3, hA666, hA670⟩), St.pick [1] (by decide) hS⟩

theorem slices_BinarySearch_int_int_ok (F : Nat) (p0 : (List Int)) (p1 : Int) (res : (Int × Bool)) (h : slices_BinarySearch_int_int F p0 p1 = some res) (μ : Frz) (w0 : World) (hm : FrzAt μ w0) {ad1 : Option Addr} {cap2 : Nat} (hA3 : ArrM μ 1 fI ad1 cap2 p0) : Calls Try.prog 54 #[sv ad1 p0 cap2, iv p1] w0 (fun e w => e = .returned (.tuple #[iv res.1, .bool res.2]) ∧ Ext w0 w) := by
 obtain ⟨hlow, hS⟩ := hm.init
 have hext := Frz.ext_refl w0.heap.size μ
 rw [slices_BinarySearch_int_int] at h
 refine fn_enterW Try.func54 rfl 54 [(0, sv ad1 p0 cap2), (1, iv p1)] rfl rfl (by kernel_rfl) fun a w hw hF => ?_
 replace hS : St w0 [fz w0 μ] w := by rw [hw]; exact hS
 clear hw
 refine esr ?_
 refine rn 2 2 [(0, sv ad1 p0 cap2), (1, iv p1)] hF fun a hF => ?_
 refine wfn rfl ?_
 refine esr ?_
 refine rn 3 3 [(0, sv ad1 p0 cap2), (1, iv p1), (6, iv (ln p0))] hF fun a hF => ?_
 refine wfn rfl ?_
 refine esr ?_
 refine rn 3 3 [(0, sv ad1 p0 cap2), (1, iv p1), (6, iv (ln p0)), (7, iv 0), (8, iv (ln p0))] hF fun a hF => ?_
 refine wfn rfl ?_
 refine ecut (fun a w => ∃ (x21 : Int), Fr 54 [] [(0, sv ad1 p0 cap2), (1, iv p1), (6, iv (ln p0)), (7, iv x21)] a ∧ St w0 [fz w0 μ] w ∧ slices_BinarySearch_int_int_K1 p0 p1 x21 = some res) ?_ ?_
 ·skip
  refine wpIn_block ?_
  refine eloop (fun n_ a w => ∃ (x35 : Int) (x36 : Int), Fr 54 [] [(0, sv ad1 p0 cap2), (1, iv p1), (6, iv (ln p0)), (7, iv x35), (8, iv x36)] a ∧ St w0 [fz w0 μ] w ∧ slices_BinarySearch_int_int_L2 p0 p1 n_ x35 x36 = some res) F ⟨0, (ln p0), hF.sub (by kernel_rfl), St.pick [0] (by decide) hS, h⟩ ?_
  rintro n_ a w ⟨x35, x36, hF, hS, h⟩
  rcases n_ with _ | n_
  ·cases (show (none : Option (Int × Bool)) = some res from h)
  obtain ⟨k2, hk2⟩ : ∃ k, k = slices_BinarySearch_int_int_L2 p0 p1 n_ := ⟨_, rfl⟩
  replace h : slices_BinarySearch_int_int_B2 p0 p1 k2 x35 x36 = some res := by rw [hk2]; exact h
  rw [slices_BinarySearch_int_int_B2] at h
  refine eseq ?_
  refine esr ?_
  refine rn 3 3 [(0, sv ad1 p0 cap2), (1, iv p1), (6, iv (ln p0)), (7, iv x35), (8, iv x36), (15, .bool (decide (x35 < x36)))] hF fun a hF => ?_
  refine wfn rfl ?_
  refine econd hF rfl (fun hc => ?_) (fun hc => ?_)
  ·replace h := bif_t h hc
   refine wpIn_skip (norm_then ?_)
   refine wpIn_block ?_
   refine esr ?_
   replace h := bindS h
   obtain ⟨x38, hx38, h⟩ := h
   replace h := bindS h
   obtain ⟨x39, hx39, h⟩ := h
   refine rno 7 [.run [] (binOp .add 3 (iv x35) (iv x36)) (iv x38), .run [] (convert 3 139 (iv x38)) (.int .u64 (IntKind.u64.wrap x38)), .run [] (convert 139 3 (.int .u64 (Int.fdiv (IntKind.u64.wrap x38) 2))) (iv x39)] 7 [(0, sv ad1 p0 cap2), (1, iv p1), (6, iv (ln p0)), (7, iv x35), (8, iv x36), (9, iv x39)] hF (ocons (obAddC (fun _ => hx38)) (ocons (obPureSem (by kernel_rfl)) (ocons (obConvC (by kernel_rfl) (by kernel_rfl) (fun _ => hx39)) onil))) fun a hF => ?_
   refine wfn rfl ?_
   refine esr ?_
   replace h := bindS h
   obtain ⟨u40, hu40, h⟩ := h
   refine rx 6 [.run [] (Instr.indexAt 40 (sv ad1 p0 cap2) (iv x39)) (.pointer (some (slAddr ad1 x39 1))), .run [] (Instr.loadAt 3 (.pointer (some (slAddr ad1 x39 1)))) (iv u40), .call [] 80 #[iv u40, iv p1] (.bool (cmp_Less_int u40 p1))] 6 [(0, sv ad1 p0 cap2), (1, iv p1), (6, iv (ln p0)), (7, iv x35), (8, iv x36), (9, iv x39), (27, .bool (cmp_Less_int u40 p1))] hF (ocons (obIdxQ (hA3 _ (hS.frz (i := 0) rfl hlow)) (by kernel_rfl) (fun _ => hu40)) (ocons (obElQ (i := x39) 0 fI_len (fun _ hd => (hA3 _ ((hS.later hd).frz (i := 0) rfl hlow))) (by kernel_rfl) (fun _ => hu40) rfl) (ocons (show Ob.ok _ Ext _ _ from fun hk w2 hd => cmp_Less_int_ok u40 p1 _ rfl _ w2 (memOf_at w2) ) onil))) fun a w hF hx => ?_
   replace hS := hS.later hx
   refine wfn rfl ?_
   refine econd hF rfl (fun hc => ?_) (fun hc => ?_)
   ·replace h := bif_t h hc
    refine WI.region ?_
    replace h := bindS h
    obtain ⟨x41, hx41, h⟩ := h
    refine rno 3 [.run [] (binOp .add 3 (iv x39) (iv 1)) (iv x41)] 3 [(0, sv ad1 p0 cap2), (1, iv p1), (6, iv (ln p0)), (7, iv x41), (8, iv x36)] hF (ocons (obAddC (fun _ => hx41)) onil) fun a hF => ?_
    refine WI.fin rfl (norm_block <| norm_then <| ?_)
    rw [hk2] at h
    exact ⟨n_, Nat.lt_succ_self _, x41, x36, hF.sub (by kernel_rfl), St.pick [0] (by decide) hS, h⟩
   ·replace h := bif_f h hc
    refine WI.region ?_
    refine rn 2 2 [(0, sv ad1 p0 cap2), (1, iv p1), (6, iv (ln p0)), (7, iv x35), (8, iv x39)] hF fun a hF => ?_
    refine WI.fin rfl (norm_block <| norm_then <| ?_)
    rw [hk2] at h
    exact ⟨n_, Nat.lt_succ_self _, x35, x39, hF.sub (by kernel_rfl), St.pick [0] (by decide) hS, h⟩
  ·replace h := bif_f h hc
   refine wpIn_exit (exit_then <| exit_then <| exit_hit <| norm_then ?_)
   exact ⟨x35, hF.sub (by kernel_rfl), St.pick [0] (by decide) hS, h⟩
 rintro a w ⟨x21, hF, hS, h⟩
 rw [slices_BinarySearch_int_int_K1] at h
 refine esr ?_
 replace h := bindS h
 obtain ⟨u22, hu22, h⟩ := h
 replace h := bindS h
 obtain ⟨u23, hu23, h⟩ := h
 refine rx 25 [.run [⟨35, true, (decide (x21 < (ln p0)))⟩] (Instr.indexAt 40 (sv ad1 p0 cap2) (iv x21)) (.pointer (some (slAddr ad1 x21 1))), .run [⟨35, true, (decide (x21 < (ln p0)))⟩] (Instr.loadAt 3 (.pointer (some (slAddr ad1 x21 1)))) (iv u22), .run [⟨42, false, (u22 == p1)⟩, ⟨35, true, (decide (x21 < (ln p0)))⟩] (Instr.indexAt 40 (sv ad1 p0 cap2) (iv x21)) (.pointer (some (slAddr ad1 x21 1))), .run [⟨42, false, (u22 == p1)⟩, ⟨35, true, (decide (x21 < (ln p0)))⟩] (Instr.loadAt 3 (.pointer (some (slAddr ad1 x21 1)))) (iv u23), .call [⟨42, false, (u22 == p1)⟩, ⟨35, true, (decide (x21 < (ln p0)))⟩] 81 #[iv u23] (.bool (slices_isNaN_int u23)), .call [⟨48, true, (slices_isNaN_int u23)⟩, ⟨42, false, (u22 == p1)⟩, ⟨35, true, (decide (x21 < (ln p0)))⟩] 81 #[iv p1] (.bool (slices_isNaN_int p1))] 25 [(4, iv x21), (5, .bool (bif (decide (x21 < (ln p0))) then (bif (u22 == p1) then true else (bif (slices_isNaN_int u23) then (slices_isNaN_int p1) else false)) else false))] hF (ocons (obIdxQ (hA3 _ (hS.frz (i := 0) rfl hlow)) (by kernel_rfl) (fun hk => gd_some hu22 hk)) (ocons (obElQ (i := x21) 0 fI_len (fun _ hd => (hA3 _ ((hS.later hd).frz (i := 0) rfl hlow))) (by kernel_rfl) (fun hk => gd_some hu22 hk) rfl) (ocons (obIdxQ (hA3 _ (hS.frz (i := 0) rfl hlow)) (by kernel_rfl) (fun hk => gd_some hu23 hk)) (ocons (obElQ (i := x21) 0 fI_len (fun _ hd => (hA3 _ ((hS.later hd).frz (i := 0) rfl hlow))) (by kernel_rfl) (fun hk => gd_some hu23 hk) rfl) (ocons (show Ob.ok _ Ext _ _ from fun hk w2 hd => slices_isNaN_int_ok u23 _ rfl _ w2 (memOf_at w2) ) (ocons (show Ob.ok _ Ext _ _ from fun hk w2 hd => slices_isNaN_int_ok p1 _ rfl _ w2 (memOf_at w2) ) onil)))))) fun a w hF hx => ?_
 replace hS := hS.later hx
 refine wfn rfl ?_
 refine wpIn_ret (fn_ret [.tmp 4, .tmp 5] [iv x21, .bool (bif (decide (x21 < (ln p0))) then (bif (u22 == p1) then true else (bif (slices_isNaN_int u23) then (slices_isNaN_int p1) else false)) else false)] hF rfl ⟨rfl, rfl, trivial⟩ ?_)
 have hr_ := Option.some.inj h
 subst hr_
 exact ⟨rfl, hS.ext⟩
end Go.Proofs.Ytejffembnkojjaa
