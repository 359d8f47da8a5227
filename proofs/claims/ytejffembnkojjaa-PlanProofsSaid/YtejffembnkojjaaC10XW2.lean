/- Walks, written by program (wip/gen/dec.py). -/
import Derived.Test.YtejffembnkojjaaC10XD
import Derived.Test.YtejffembnkojjaaProg
import Derived.Test.YtejffembnkojjaaC10XW0
import Derived.Test.YtejffembnkojjaaC10XW1
namespace Go.Proofs.Ytejffembnkojjaa
open Go Go.RowKit Go.Eng
set_option maxRecDepth 10000
set_option maxHeartbeats 4000000
set_option linter.unusedVariables false
set_option linter.unusedSimpArgs false
theorem plan_Check_ok (F : Nat) (p0 : plan_Radar) (p1 : (List plan_Job)) (res : Int) (h : plan_Check F p0 p1 = some res) (μ : Frz) (w0 : World) (hm : FrzAt μ w0) {ad1 : Option Addr} {cap2 : Nat} (hA3 : ArrM μ 8 plan_Job.cells ad1 cap2 p1) : Calls Try.prog 22 #[p0.ag, sv ad1 p1 cap2] w0 (fun e w => e = .returned (iv res) ∧ Ext w0 w) := by
 obtain ⟨hlow, hS⟩ := hm.init
 have hext := Frz.ext_refl w0.heap.size μ
 rw [plan_Check] at h
 refine fn_enterW Try.func22 rfl 63 [(0, p0.ag), (1, sv ad1 p1 cap2)] rfl rfl (by kernel_rfl) fun a w hw hF => ?_
 replace hS : St w0 [fz w0 μ] w := by rw [hw]; exact hS
 clear hw
 refine esr ?_
 refine SK.wi (boxK (t := 31) (fun b4 => [(1, sv ad1 p1 cap2), (2, pb b4)]) (p0.ag) p0.ar hF hS (by kernel_rfl) ⟨by kernel_rfl⟩ (by kernel_rfl) (fun _ => ⟨by kernel_rfl⟩) fun b4 w a hF hS => ?_)
 refine rn 1 2 [(1, sv ad1 p1 cap2), (2, pb b4)] hF fun a hF => ?_
 refine wfn rfl ?_
 refine eseq ?_
 refine esr ?_
 refine rx 22 [.run [] (Instr.loadAt 3 (pb b4)) (iv p0.Rays), .call [] 50 #[iv p0.Rays, iv 1, iv 360] (.bool (plan_in p0.Rays 1 360)), .run [⟨12, false, (!(plan_in p0.Rays 1 360))⟩] (Instr.loadAt 3 (.pointer (some ⟨b4, 1, none⟩))) (iv p0.Turn), .call [⟨12, false, (!(plan_in p0.Rays 1 360))⟩] 50 #[iv p0.Turn, iv 0, iv 600000] (.bool (plan_in p0.Turn 0 600000)), .run [⟨18, false, (bif (!(plan_in p0.Rays 1 360)) then true else (!(plan_in p0.Turn 0 600000)))⟩] (Instr.loadAt 3 (.pointer (some ⟨b4, 2, none⟩))) (iv p0.Move), .call [⟨18, false, (bif (!(plan_in p0.Rays 1 360)) then true else (!(plan_in p0.Turn 0 600000)))⟩] 50 #[iv p0.Move, iv 0, iv 10000] (.bool (plan_in p0.Move 0 10000)), .run [⟨24, false, (bif (bif (!(plan_in p0.Rays 1 360)) then true else (!(plan_in p0.Turn 0 600000))) then true else (!(plan_in p0.Move 0 10000)))⟩] (Instr.loadAt 3 (.pointer (some ⟨b4, 3, none⟩))) (iv p0.Duty), .call [⟨24, false, (bif (bif (!(plan_in p0.Rays 1 360)) then true else (!(plan_in p0.Turn 0 600000))) then true else (!(plan_in p0.Move 0 10000)))⟩] 50 #[iv p0.Duty, iv 1, iv 1000] (.bool (plan_in p0.Duty 1 1000))] 22 [(1, sv ad1 p1 cap2), (29, .bool (bif (bif (bif (!(plan_in p0.Rays 1 360)) then true else (!(plan_in p0.Turn 0 600000))) then true else (!(plan_in p0.Move 0 10000))) then true else (!(plan_in p0.Duty 1 1000))))] hF (ocons (ob1 (by kernel_rfl) (fun _ hd => (hS.later hd).cell (i := 0) (j := 0) rfl rfl)) (ocons (show Ob.ok _ Ext _ _ from fun hk w2 hd => plan_in_ok p0.Rays 1 360 _ rfl _ w2 (memOf_at w2) ) (ocons (ob1 (by kernel_rfl) (fun _ hd => (hS.later hd).cell (i := 0) (j := 1) rfl rfl)) (ocons (show Ob.ok _ Ext _ _ from fun hk w2 hd => plan_in_ok p0.Turn 0 600000 _ rfl _ w2 (memOf_at w2) ) (ocons (ob1 (by kernel_rfl) (fun _ hd => (hS.later hd).cell (i := 0) (j := 2) rfl rfl)) (ocons (show Ob.ok _ Ext _ _ from fun hk w2 hd => plan_in_ok p0.Move 0 10000 _ rfl _ w2 (memOf_at w2) ) (ocons (ob1 (by kernel_rfl) (fun _ hd => (hS.later hd).cell (i := 0) (j := 3) rfl rfl)) (ocons (show Ob.ok _ Ext _ _ from fun hk w2 hd => plan_in_ok p0.Duty 1 1000 _ rfl _ w2 (memOf_at w2) ) onil)))))))) fun a w hF hx => ?_
 replace hS := hS.later hx
 refine wfn rfl ?_
 refine econd hF rfl (fun hc => ?_) (fun hc => ?_)
 ·replace h := bif_t h hc
  refine esr ?_
  refine rn 1 1 [(4, iv 3)] hF fun a hF => ?_
  refine wfn rfl ?_
  refine wpIn_ret (ret_then <| fn_ret [.tmp 4] [iv 3] hF rfl ⟨rfl, trivial⟩ ?_)
  have hr_ := Option.some.inj h
  subst hr_
  exact ⟨rfl, hS.ext⟩
 ·replace h := bif_f h hc
  refine wpIn_skip (norm_then ?_)
  refine eseq ?_
  refine esr ?_
  refine rx 4 [.call [] 50 #[iv (ln p1), iv 1, iv 6] (.bool (plan_in (ln p1) 1 6))] 4 [(1, sv ad1 p1 cap2), (33, .bool (!(plan_in (ln p1) 1 6)))] hF (ocons (show Ob.ok _ Ext _ _ from fun hk w2 hd => plan_in_ok (ln p1) 1 6 _ rfl _ w2 (memOf_at w2) ) onil) fun a w hF hx => ?_
  replace hS := hS.later hx
  refine wfn rfl ?_
  refine econd hF rfl (fun hc => ?_) (fun hc => ?_)
  ·replace h := bif_t h hc
   refine esr ?_
   refine rn 1 1 [(4, iv 9)] hF fun a hF => ?_
   refine wfn rfl ?_
   refine wpIn_ret (ret_then <| fn_ret [.tmp 4] [iv 9] hF rfl ⟨rfl, trivial⟩ ?_)
   have hr_ := Option.some.inj h
   subst hr_
   exact ⟨rfl, hS.ext⟩
  ·replace h := bif_f h hc
   refine wpIn_skip (norm_then ?_)
   refine ecut (fun a w => Fr 63 [] [] a ∧ St w0 [blk b4 31 p0.ar, fz w0 μ] w ∧ plan_Check_K1 = some res) ?_ ?_
   ·skip
    refine esr ?_
    refine rn 3 3 [(34, sv ad1 p1 cap2), (35, iv (ln p1)), (36, iv 0)] hF fun a hF => ?_
    refine wfn rfl ?_
    refine wpIn_block ?_
    refine eloop (fun n_ a w => ∃ (x30 : Int), Fr 63 [] [(34, sv ad1 p1 cap2), (35, iv (ln p1)), (36, iv x30)] a ∧ St w0 [blk b4 31 p0.ar, fz w0 μ] w ∧ plan_Check_L2 F p1 n_ x30 = some res) F ⟨0, hF.sub (by kernel_rfl), St.pick [0, 1] (by decide) hS, h⟩ ?_
    rintro n_ a w ⟨x30, hF, hS, h⟩
    rcases n_ with _ | n_
    ·cases (show (none : Option Int) = some res from h)
    obtain ⟨k2, hk2⟩ : ∃ k, k = plan_Check_L2 F p1 n_ := ⟨_, rfl⟩
    replace h : plan_Check_B2 F p1 k2 x30 = some res := by rw [hk2]; exact h
    rw [plan_Check_B2] at h
    refine esr ?_
    refine rn 1 1 [(34, sv ad1 p1 cap2), (35, iv (ln p1)), (36, iv x30), (37, .bool (decide (x30 < (ln p1))))] hF fun a hF => ?_
    refine wfn rfl ?_
    refine eseq ?_
    refine econd hF rfl (fun hc => ?_) (fun hc => ?_)
    ·replace h := bif_t h hc
     refine wpIn_skip (norm_then ?_)
     refine eseq ?_
     refine wpIn_block ?_
     refine esr ?_
     replace h := bindS h
     obtain ⟨u32, hu32, h⟩ := h
     refine rno 2 [.run [] (Instr.indexAt 43 (sv ad1 p1 cap2) (iv x30)) (.pointer (some (slAddr ad1 x30 8))), .run [] (Instr.loadAt 34 (.pointer (some (slAddr ad1 x30 8)))) (u32.ag)] 2 [(34, sv ad1 p1 cap2), (35, iv (ln p1)), (36, iv x30), (39, u32.ag)] hF (ocons (obIdxQ (hA3 _ (hS.frz (i := 1) rfl hlow)) (by kernel_rfl) (fun _ => hu32)) (ocons (obElNQ (m := 8) (i := x30) (us := u32.cells) 0 plan_Job.cells_len (fun _ hd => (hA3 _ ((hS.at_ hd).frz (i := 1) rfl hlow))) (by kernel_rfl) (fun _ => hu32) ⟨rfl, rfl⟩) onil)) fun a hF => ?_
     refine SK.wi (allocK (t := 34) (fun b33 => [(6, pb b33), (34, sv ad1 p1 cap2), (35, iv (ln p1)), (36, iv x30), (39, u32.ag)]) #[iv 0, iv 0, iv 0, iv 0, iv 0, iv 0, iv 0, iv 0] hF hS (by kernel_rfl) ⟨by kernel_rfl⟩ (by kernel_rfl) (fun _ => ⟨by kernel_rfl⟩) fun b33 w a hF hS => ?_)
     refine SK.wi (storeK (t := 34) [(6, pb b33), (34, sv ad1 p1 cap2), (35, iv (ln p1)), (36, iv x30)] 0 0 (u32.ag) u32.ar hF hS rfl (by kernel_rfl) ⟨by kernel_rfl⟩ (by kernel_rfl) (by kernel_rfl) (by kernel_rfl) (by kernel_rfl) ⟨by kernel_rfl⟩ fun w a hF hS => ?_)
     refine wfn rfl ?_
     refine eseq ?_
     refine esr ?_
     refine rx 16 [.run [] (Instr.loadAt 3 (pb b33)) (iv u32.Tilt), .call [] 50 #[iv u32.Tilt, iv 0, iv 256] (.bool (plan_in u32.Tilt 0 256)), .run [⟨44, false, (!(plan_in u32.Tilt 0 256))⟩] (Instr.loadAt 3 (.pointer (some ⟨b33, 6, none⟩))) (iv u32.Width), .call [⟨44, false, (!(plan_in u32.Tilt 0 256))⟩] 50 #[iv u32.Width, iv 1, iv 1000] (.bool (plan_in u32.Width 1 1000)), .run [⟨50, false, (bif (!(plan_in u32.Tilt 0 256)) then true else (!(plan_in u32.Width 1 1000)))⟩] (Instr.loadAt 3 (.pointer (some ⟨b33, 7, none⟩))) (iv u32.Every), .call [⟨50, false, (bif (!(plan_in u32.Tilt 0 256)) then true else (!(plan_in u32.Width 1 1000)))⟩] 50 #[iv u32.Every, iv 1, iv 100000000] (.bool (plan_in u32.Every 1 100000000))] 16 [(6, pb b33), (34, sv ad1 p1 cap2), (35, iv (ln p1)), (36, iv x30), (55, .bool (bif (bif (!(plan_in u32.Tilt 0 256)) then true else (!(plan_in u32.Width 1 1000))) then true else (!(plan_in u32.Every 1 100000000))))] hF (ocons (ob1 (by kernel_rfl) (fun _ hd => (hS.later hd).cell (i := 0) (j := 0) rfl rfl)) (ocons (show Ob.ok _ Ext _ _ from fun hk w2 hd => plan_in_ok u32.Tilt 0 256 _ rfl _ w2 (memOf_at w2) ) (ocons (ob1 (by kernel_rfl) (fun _ hd => (hS.later hd).cell (i := 0) (j := 6) rfl rfl)) (ocons (show Ob.ok _ Ext _ _ from fun hk w2 hd => plan_in_ok u32.Width 1 1000 _ rfl _ w2 (memOf_at w2) ) (ocons (ob1 (by kernel_rfl) (fun _ hd => (hS.later hd).cell (i := 0) (j := 7) rfl rfl)) (ocons (show Ob.ok _ Ext _ _ from fun hk w2 hd => plan_in_ok u32.Every 1 100000000 _ rfl _ w2 (memOf_at w2) ) onil)))))) fun a w hF hx => ?_
     replace hS := hS.later hx
     refine wfn rfl ?_
     refine econd hF rfl (fun hc => ?_) (fun hc => ?_)
     ·replace h := bif_t h hc
      refine esr ?_
      refine rn 1 1 [(4, iv 3)] hF fun a hF => ?_
      refine wfn rfl ?_
      refine wpIn_ret (ret_then <| ret_block <| ret_then <| ret_then <| ret_block <| ret_then <| fn_ret [.tmp 4] [iv 3] hF rfl ⟨rfl, trivial⟩ ?_)
      have hr_ := Option.some.inj h
      subst hr_
      exact ⟨rfl, hS.ext⟩
     ·replace h := bif_f h hc
      refine wpIn_skip (norm_then ?_)
      refine esr ?_
      replace h := bindS h
      obtain ⟨y34, hy34, h⟩ := h
      refine rx 4 [.run [] (Instr.loadAt 32 (.pointer (some ⟨b33, 1, none⟩))) (u32.Train.ag), .call [] 51 #[u32.Train.ag] (iv y34)] 4 [(7, iv y34), (34, sv ad1 p1 cap2), (35, iv (ln p1)), (36, iv x30)] hF (ocons (obN (us := u32.Train.cells) (by kernel_rfl) (fun _ hd => ((hS.later hd).blk (i := 0) rfl).cells rfl)) (ocons (show Ob.ok _ Ext _ _ from fun hk w2 hd => pulse_CheckTrain_ok F u32.Train _ ((fun _ => hy34) hk) _ w2 (memOf_at w2) ) onil)) fun a w hF hx => ?_
      replace hS := hS.later hx
      refine wfn rfl ?_
      refine esr ?_
      refine rn 2 2 [(7, iv y34), (34, sv ad1 p1 cap2), (35, iv (ln p1)), (36, iv x30), (60, .bool (y34 != 0))] hF fun a hF => ?_
      refine wfn rfl ?_
      refine econd hF rfl (fun hc => ?_) (fun hc => ?_)
      ·replace h := bif_t h hc
       refine esr ?_
       refine rn 2 2 [(4, iv y34)] hF fun a hF => ?_
       refine wfn rfl ?_
       refine wpIn_ret (ret_block <| ret_then <| ret_then <| ret_block <| ret_then <| fn_ret [.tmp 4] [iv y34] hF rfl ⟨rfl, trivial⟩ ?_)
       have hr_ := Option.some.inj h
       subst hr_
       exact ⟨rfl, hS.ext⟩
      ·replace h := bif_f h hc
       refine wpIn_skip (norm_block <| norm_then <| ?_)
       refine WI.region ?_
       replace h := bindS h
       obtain ⟨x35, hx35, h⟩ := h
       refine rno 2 [.run [] (binOp .add 3 (iv x30) (iv 1)) (iv x35)] 2 [(34, sv ad1 p1 cap2), (35, iv (ln p1)), (36, iv x35)] hF (ocons (obAddC (fun _ => hx35)) onil) fun a hF => ?_
       refine wfn rfl ?_
       rw [hk2] at h
       exact ⟨n_, Nat.lt_succ_self _, x35, hF.sub (by kernel_rfl), St.pick [1, 2] (by decide) hS, h⟩
    ·replace h := bif_f h hc
     refine wpIn_exit (exit_then <| exit_then <| exit_hit <| norm_then ?_)
     exact ⟨hF.sub (by kernel_rfl), St.pick [0, 1] (by decide) hS, h⟩
   rintro a w ⟨hF, hS, h⟩
   rw [plan_Check_K1] at h
   refine esr ?_
   refine rn 1 1 [(4, iv 0)] hF fun a hF => ?_
   refine wfn rfl ?_
   refine wpIn_ret (fn_ret [.tmp 4] [iv 0] hF rfl ⟨rfl, trivial⟩ ?_)
   have hr_ := Option.some.inj h
   subst hr_
   exact ⟨rfl, hS.ext⟩

theorem plan_line_add_ok (F : Nat) (p0 : plan_line) (p1 : Int) (res : plan_line) (h : plan_line_add F p0 p1 = some res) (μ : Frz) (w0 : World) (hm : FrzAt μ w0) {pv1 : Option Addr} {ad2 : Option Addr} {cap3 : Nat} {ad4 : Option Addr} {cap5 : Nat} (hA6 : PtM μ 113 Rp113 pv1 p0.desk) (hA7 : ArrM μ 1 fI ad2 cap3 p0.jobs) (hA8 : ArrM μ 1 fI ad4 cap5 p0.at_) : Calls Try.prog 85 #[.agg #[.pointer pv1, sv ad2 p0.jobs cap3, sv ad4 p0.at_ cap5, iv p0.done], iv p1] w0 (fun e w => ∃ (ν_ : Frz) (pv273 : Option Addr) (ad274 : Option Addr) (cap275 : Nat) (ad276 : Option Addr) (cap277 : Nat), μ.ext w0.heap.size ν_ ∧ e = .returned (.agg #[.pointer pv273, sv ad274 res.jobs cap275, sv ad276 res.at_ cap277, iv res.done]) ∧ PtM ν_ 113 Rp113 pv273 res.desk ∧ ArrM ν_ 1 fI ad274 cap275 res.jobs ∧ ArrM ν_ 1 fI ad276 cap277 res.at_ ∧ St w0 [fz w0 ν_] w) := by
 obtain ⟨hlow, hS⟩ := hm.init
 have hext := Frz.ext_refl w0.heap.size μ
 rw [plan_line_add] at h
 refine fn_enterW Try.func85 rfl 56 [(0, .agg #[.pointer pv1, sv ad2 p0.jobs cap3, sv ad4 p0.at_ cap5, iv p0.done]), (1, iv p1)] rfl rfl (by kernel_rfl) fun a w hw hF => ?_
 replace hS : St w0 [fz w0 μ] w := by rw [hw]; exact hS
 clear hw
 refine esr ?_
 refine SK.wi (boxK (t := 102) (fun b9 => [(1, iv p1), (2, pb b9)]) (.agg #[.pointer pv1, sv ad2 p0.jobs cap3, sv ad4 p0.at_ cap5, iv p0.done]) #[.pointer pv1, sv ad2 p0.jobs cap3, sv ad4 p0.at_ cap5, iv p0.done] hF hS (by kernel_rfl) ⟨by kernel_rfl⟩ (by kernel_rfl) (fun _ => ⟨by kernel_rfl⟩) fun b9 w a hF hS => ?_)
 refine SK.wi (allocK (t := 102) (fun b10 => [(1, iv p1), (2, pb b9), (4, pb b10)]) #[.pointer none, .slice none 0 0, .slice none 0 0, iv 0] hF hS (by kernel_rfl) ⟨by kernel_rfl⟩ (by kernel_rfl) (fun _ => ⟨by kernel_rfl⟩) fun b10 w a hF hS => ?_)
 refine wfn rfl ?_
 refine esr ?_
 refine rn 1 1 [(1, iv p1), (2, pb b9), (4, pb b10), (5, iv 0)] hF fun a hF => ?_
 refine wfn rfl ?_
 refine ecut (fun a w => ∃ (x38 : Int), Fr 56 [] [(1, iv p1), (2, pb b9), (4, pb b10), (5, iv x38)] a ∧ St w0 [blk b10 102 #[.pointer none, .slice none 0 0, .slice none 0 0, iv 0], blk b9 102 #[.pointer pv1, sv ad2 p0.jobs cap3, sv ad4 p0.at_ cap5, iv p0.done], fz w0 μ] w ∧ plan_line_add_K1 F p0 p1 x38 = some res) ?_ ?_
 ·skip
  refine esr ?_
  refine rno 4 [.run [] (Instr.loadAt 40 (.pointer (some ⟨b9, 1, none⟩))) (sv ad2 p0.jobs cap3)] 4 [(1, iv p1), (2, pb b9), (4, pb b10), (5, iv 0), (6, iv (ln p0.jobs))] hF (ocons (ob1 (by kernel_rfl) (fun _ hd => (hS.at_ hd).cell (i := 1) (j := 1) rfl rfl)) onil) fun a hF => ?_
  refine wfn rfl ?_
  refine esr ?_
  refine rn 2 2 [(1, iv p1), (2, pb b9), (4, pb b10), (5, iv 0), (6, iv (ln p0.jobs)), (11, .bool (decide ((ln p0.jobs) > 0)))] hF fun a hF => ?_
  refine wfn rfl ?_
  refine econd hF rfl (fun hc => ?_) (fun hc => ?_)
  ·replace h := bif_t h hc
   replace h := bindS h
   obtain ⟨d246, hd246, h⟩ := h
   obtain ⟨b247, cs248, hp249, hB250, hR251⟩ := PtM.some hA6 hd246
   obtain ⟨ad252, cap253, ad254, cap255, ad256, cap257, css258, rfl, hA259, hA260, hA261⟩ := hR251
   try rw [hp249] at hF
   try rw [hp249] at hS
   try rw [hp249] at hB250
   replace h := bindS h
   obtain ⟨x262, hx262, h⟩ := h
   replace h := bindS h
   obtain ⟨u263, hu263, h⟩ := h
   replace h := bindS h
   obtain ⟨u264, hu264, h⟩ := h
   obtain ⟨cs265, hcs266, hR267⟩ := getI_all2 hA261.2 hu264
   obtain ⟨ad268, cap269, rfl, hA270⟩ := hR267
   replace h := bindS h
   obtain ⟨u271, hu271, h⟩ := h
   replace h := bindS h
   obtain ⟨x272, hx272, h⟩ := h
   refine runD (obs := [.run [] (Instr.loadAt 3 (.pointer (some ⟨b9, 3, none⟩))) (iv p0.done), .run [] (Instr.loadAt 100 (pb b9)) (pb b247), .run [] (Instr.loadAt 111 (.pointer (some ⟨b247, 2, none⟩))) (sv ad256 d246.moves cap257), .run [] (Instr.loadAt 40 (.pointer (some ⟨b9, 1, none⟩))) (sv ad2 p0.jobs cap3), .run [] (binOp .sub 3 (iv (ln p0.jobs)) (iv 1)) (iv x262), .run [] (Instr.indexAt 40 (sv ad2 p0.jobs cap3) (iv x262)) (.pointer (some (slAddr ad2 x262 1))), .run [] (Instr.loadAt 3 (.pointer (some (slAddr ad2 x262 1)))) (iv u263), .run [] (Instr.indexAt 111 (sv ad256 d246.moves cap257) (iv u263)) (.pointer (some (slAddr ad256 u263 1))), .run [] (Instr.loadAt 40 (.pointer (some (slAddr ad256 u263 1)))) (sv ad268 u264 cap269), .run [] (Instr.indexAt 40 (sv ad268 u264 cap269) (iv p1)) (.pointer (some (slAddr ad268 p1 1))), .run [] (Instr.loadAt 3 (.pointer (some (slAddr ad268 p1 1)))) (iv u271), .run [] (binOp .add 3 (iv p0.done) (iv u271)) (iv x272)]) 20 [(1, iv p1), (2, pb b9), (4, pb b10), (5, iv x272)] (by kernel_rfl) hF (by kernel_rfl) (ocons (ob1 (by kernel_rfl) (fun _ hd => (hS.later hd).cell (i := 1) (j := 3) rfl rfl)) (ocons (ob1 (by kernel_rfl) (fun _ hd => (hS.later hd).cell (i := 1) (j := 0) rfl rfl)) (ocons (ob1 (by kernel_rfl) (fun _ hd => (hB250.blk ((hS.later hd).frz (i := 2) rfl hlow)).cell1 (j := 2) rfl)) (ocons (ob1 (by kernel_rfl) (fun _ hd => (hS.later hd).cell (i := 1) (j := 1) rfl rfl)) (ocons (obSubC (fun _ => hx262)) (ocons (obIdxQ (hA7 _ (hS.frz (i := 2) rfl hlow)) (by kernel_rfl) (fun _ => hu263)) (ocons (obElQ (i := x262) 0 fI_len (fun _ hd => (hA7 _ ((hS.later hd).frz (i := 2) rfl hlow))) (by kernel_rfl) (fun _ => hu263) rfl) (ocons (obIdxQ (hA261.at (hS.frz (i := 2) rfl hlow)) (by kernel_rfl) (fun _ => hcs266)) (ocons (obElQ (i := u263) 0 (fN_len 1) (fun _ hd => (hA261.at ((hS.later hd).frz (i := 2) rfl hlow))) (by kernel_rfl) (fun _ => hcs266) rfl) (ocons (obIdxQ (hA270 _ (hS.frz (i := 2) rfl hlow)) (by kernel_rfl) (fun _ => hu271)) (ocons (obElQ (i := p1) 0 fI_len (fun _ hd => (hA270 _ ((hS.later hd).frz (i := 2) rfl hlow))) (by kernel_rfl) (fun _ => hu271) rfl) (ocons (obAddC (fun _ => hx272)) onil)))))))))))) ⟨by kernel_rfl⟩ fun a w hF hx => ?_
   replace hS := hS.later hx
   refine wfn rfl ?_
   try simp only [pb, ← hp249] at hF
   try simp only [pb, ← hp249] at hS
   exact ⟨x272, hF.sub (by kernel_rfl), St.pick [0, 1, 2] (by decide) hS, h⟩
  ·replace h := bif_f h hc
   refine wpIn_skip (norm_then ?_)
   exact ⟨0, hF.sub (by kernel_rfl), St.pick [0, 1, 2] (by decide) hS, h⟩
 rintro a w ⟨x38, hF, hS, h⟩
 rw [plan_line_add_K1] at h
 refine eseq ?_
 replace h := bindS h
 obtain ⟨d39, hd39, h⟩ := h
 obtain ⟨b40, cs41, hp42, hB43, hR44⟩ := PtM.some hA6 hd39
 obtain ⟨ad45, cap46, ad47, cap48, ad49, cap50, css51, rfl, hA52, hA53, hA54⟩ := hR44
 try rw [hp42] at hF
 try rw [hp42] at hS
 try rw [hp42] at hB43
 replace h := bindS h
 obtain ⟨u55, hu55, h⟩ := h
 replace h := bindS h
 obtain ⟨x56, hx56, h⟩ := h
 replace h := bindS h
 obtain ⟨y58, hy58, h⟩ := h
 replace h := bindS h
 obtain ⟨l61, hl61, h⟩ := h
 replace h := bindS h
 obtain ⟨y65, hy65, h⟩ := h
 replace h := bindS h
 obtain ⟨l68, hl68, h⟩ := h
 refine region_treeW 25 [4, 6, 7, 10, 12, 13] (fun a w => ∃ (ad152 : Option Addr) (cap153 : Nat) (ad154 : Option Addr) (cap155 : Nat), Fr 56 [] [(4, pb b10), (55, .agg #[pb b40, sv ad152 l61 cap153, sv ad154 l68 cap155, iv x56])] a ∧ St w0 [arr 3 1 fI ad152 l61.length cap153 l61, arr 3 1 fI ad154 l68.length cap155 l68, blk b10 102 #[.pointer none, .slice none 0 0, .slice none 0 0, iv 0], blk b9 102 #[pb b40, sv ad2 p0.jobs cap3, sv ad4 p0.at_ cap5, iv p0.done], fz w0 μ] w) (D := fun w => St w0 [blk b10 102 #[.pointer none, .slice none 0 0, .slice none 0 0, iv 0], blk b9 102 #[pb b40, sv ad2 p0.jobs cap3, sv ad4 p0.at_ cap5, iv p0.done]] w ∧ FrzAt μ w) (by kernel_rfl) (by kernel_rfl) hF.size (fun w hx => ?_) ?_
 ·skip
  replace hS := hS.later hx
  refine ⟨⟨St.pick [0, 1] (by decide) hS, hS.frz (i := 2) rfl hlow⟩, ?_⟩
  have hcl156 := Frz.le_refl μ
  refine WT.s [0, 1, 2, 3, 5, 8, 9, 11, 14, 15, 16, 17, 18, 19, 20, 21, 22, 23] [4, 6, 12] (by kernel_rfl) (by kernel_rfl) ?_
  refine runC (rest := []) (obs := [.run [] (Instr.loadAt 100 (pb b9)) (pb b40), .run [] (Instr.loadAt 40 (.pointer (some ⟨b9, 1, none⟩))) (sv ad2 p0.jobs cap3), .run [] (Instr.loadAt 40 (.pointer (some ⟨b9, 2, none⟩))) (sv ad4 p0.at_ cap5), .run [] (Instr.loadAt 100 (pb b9)) (pb b40), .run [] (Instr.loadAt 40 (.pointer (some ⟨b40, 1, none⟩))) (sv ad47 d39.takes cap48), .run [] (Instr.indexAt 40 (sv ad47 d39.takes cap48) (iv p1)) (.pointer (some (slAddr ad47 p1 1))), .run [] (Instr.loadAt 3 (.pointer (some (slAddr ad47 p1 1)))) (iv u55), .run [] (binOp .add 3 (iv x38) (iv u55)) (iv x56)]) [0, 1, 2, 3, 5, 8, 9, 11, 14, 15, 16, 17, 18, 19, 20, 21, 22, 23] [(4, pb b10), (32, pb b40), (34, sv ad2 p0.jobs cap3), (36, iv p1), (40, sv ad4 p0.at_ cap5), (42, iv x38), (54, iv x56)] hF (by kernel_rfl) (by kernel_rfl) (ocons (ob1 (by kernel_rfl) (fun _ hd => hd.1.cell (i := 1) (j := 0) rfl rfl)) (ocons (ob1 (by kernel_rfl) (fun _ hd => hd.1.cell (i := 1) (j := 1) rfl rfl)) (ocons (ob1 (by kernel_rfl) (fun _ hd => hd.1.cell (i := 1) (j := 2) rfl rfl)) (ocons (ob1 (by kernel_rfl) (fun _ hd => hd.1.cell (i := 1) (j := 0) rfl rfl)) (ocons (ob1 (by kernel_rfl) (fun _ hd => (hB43.blk hd.2).cell1 (j := 1) rfl)) (ocons (obIdxQ (hA53 _ (hS.frz (i := 2) rfl hlow)) (by kernel_rfl) (fun _ => hu55)) (ocons (obElQ (i := p1) 0 fI_len (fun _ hd => (hA53 _ hd.2)) (by kernel_rfl) (fun _ => hu55) rfl) (ocons (obAddC (fun _ => hx56)) onil)))))))) ⟨by kernel_rfl⟩ fun a hF => ?_
  refine WRun.fin ?_
  refine all_cons ?_ (all_cons ?_ (all_cons ?_ (all_nil)))
  ·skip
   refine callK (f := 93) (args := #[sv ad2 p0.jobs cap3]) (R := fun v w2 => v = .slice (slOff ad2 (ln p0.jobs).toNat (0 : Int).toNat 1) y58.length y58.length ∧ Ext w w2 ∧ ∀ w3, Arr w3 1 fI ad2 p0.jobs.length cap3 p0.jobs → Arr w3 1 fI (slOff ad2 (ln p0.jobs).toNat (0 : Int).toNat 1) y58.length y58.length y58) (fun v157 => [(4, pb b10), (32, pb b40), (35, v157), (36, iv p1), (40, sv ad4 p0.at_ cap5), (42, iv x38), (54, iv x56)]) hF (by kernel_rfl) ⟨by kernel_rfl⟩ (Calls.mono (slices_Clip_int_int_ok F p0.jobs _ hy58 (memOf w) w (memOf_at w) (hA7.mono (FrzAt.le_mem (hS.frz (i := 2) rfl hlow)))) (fun e w2 h => ⟨_, h.1, rfl, h.2.1, h.2.2⟩)) (fun _ => ⟨by kernel_rfl⟩) ?_
   rintro v157 w a ⟨rfl, hx, hv158⟩ hF
   replace hS := hS.later hx
   refine ⟨⟨St.pick [0, 1] (by decide) hS, (hS.frz (i := 2) rfl hlow)⟩, ?_⟩
   refine WT.s [] [6, 12] (by kernel_rfl) (by kernel_rfl) ?_
   refine WRun.fin ?_
   refine all_cons ?_ (all_cons ?_ (all_nil))
   ·skip
    refine litK (e := 3) (sz := 1) (f := fI) (t := 40) (len := 1) (fun b159 => [(4, pb b10), (32, pb b40), (35, .slice (slOff ad2 (ln p0.jobs).toNat (0 : Int).toNat 1) y58.length y58.length), (37, sb b159 1), (40, sv ad4 p0.at_ cap5), (42, iv x38), (54, iv x56)]) #[(0, iv p1)] #[iv p1] ([p1]) hF hS (by kernel_rfl) ⟨by kernel_rfl⟩ (by kernel_rfl) fI_len rfl rfl (by kernel_rfl) (fun _ => ⟨by kernel_rfl⟩) fun b159 w a hF hS => ⟨⟨St.pick [1, 2] (by decide) hS, (hS.frz (i := 3) rfl hlow)⟩, ?_⟩
    refine WT.s [] [7, 12] (by kernel_rfl) (by kernel_rfl) ?_
    refine WRun.fin ?_
    refine all_cons ?_ (all_cons ?_ (all_nil))
    ·skip
     refine appcK (e := 3) (t := 40) (ty := 40) (bytes := 8) (l := y58) (l' := ([p1])) (fun ad160 cap161 => [(4, pb b10), (32, pb b40), (38, sv ad160 l61 cap161), (40, sv ad4 p0.at_ cap5), (42, iv x38), (54, iv x56)]) hF hS (by kernel_rfl) ⟨by kernel_rfl⟩ (by kernel_rfl) (hv158 _ (hA7 _ (hS.frz (i := 3) rfl hlow))) (hS.arr (i := 0) rfl) fI_len hl61 (by simp) (fun _ _ => ⟨by kernel_rfl⟩) fun ad160 cap161 w a hF hS => ⟨⟨St.pick [2, 3] (by decide) hS, (hS.frz (i := 4) rfl hlow)⟩, ?_⟩
     refine WT.s [] [10, 12] (by kernel_rfl) (by kernel_rfl) ?_
     refine WRun.fin ?_
     refine all_cons ?_ (all_cons ?_ (all_nil))
     ·skip
      refine callK (f := 93) (args := #[sv ad4 p0.at_ cap5]) (R := fun v w2 => v = .slice (slOff ad4 (ln p0.at_).toNat (0 : Int).toNat 1) y65.length y65.length ∧ Ext w w2 ∧ ∀ w3, Arr w3 1 fI ad4 p0.at_.length cap5 p0.at_ → Arr w3 1 fI (slOff ad4 (ln p0.at_).toNat (0 : Int).toNat 1) y65.length y65.length y65) (fun v162 => [(4, pb b10), (32, pb b40), (38, sv ad160 l61 cap161), (41, v162), (42, iv x38), (54, iv x56)]) hF (by kernel_rfl) ⟨by kernel_rfl⟩ (Calls.mono (slices_Clip_int_int_ok F p0.at_ _ hy65 (memOf w) w (memOf_at w) (hA8.mono (FrzAt.le_mem (hS.frz (i := 4) rfl hlow)))) (fun e w2 h => ⟨_, h.1, rfl, h.2.1, h.2.2⟩)) (fun _ => ⟨by kernel_rfl⟩) ?_
      rintro v162 w a ⟨rfl, hx, hv163⟩ hF
      replace hS := hS.later hx
      refine ⟨⟨St.pick [2, 3] (by decide) hS, (hS.frz (i := 4) rfl hlow)⟩, ?_⟩
      refine WT.s [] [12] (by kernel_rfl) (by kernel_rfl) ?_
      refine WRun.fin ?_
      refine all_cons ?_ (all_nil)
      refine litK (e := 3) (sz := 1) (f := fI) (t := 40) (len := 1) (fun b164 => [(4, pb b10), (32, pb b40), (38, sv ad160 l61 cap161), (41, .slice (slOff ad4 (ln p0.at_).toNat (0 : Int).toNat 1) y65.length y65.length), (43, sb b164 1), (54, iv x56)]) #[(0, iv x38)] #[iv x38] ([x38]) hF hS (by kernel_rfl) ⟨by kernel_rfl⟩ (by kernel_rfl) fI_len rfl rfl (by kernel_rfl) (fun _ => ⟨by kernel_rfl⟩) fun b164 w a hF hS => ⟨⟨St.pick [3, 4] (by decide) hS, (hS.frz (i := 5) rfl hlow)⟩, ?_⟩
      refine WT.s [] [13] (by kernel_rfl) (by kernel_rfl) ?_
      refine WRun.fin ?_
      refine all_cons ?_ (all_nil)
      refine appcK (e := 3) (t := 40) (ty := 40) (bytes := 8) (l := y65) (l' := ([x38])) (fun ad165 cap166 => [(4, pb b10), (32, pb b40), (38, sv ad160 l61 cap161), (44, sv ad165 l68 cap166), (54, iv x56)]) hF hS (by kernel_rfl) ⟨by kernel_rfl⟩ (by kernel_rfl) (hv163 _ (hA8 _ (hS.frz (i := 5) rfl hlow))) (hS.arr (i := 0) rfl) fI_len hl68 (by simp) (fun _ _ => ⟨by kernel_rfl⟩) fun ad165 cap166 w a hF hS => ⟨⟨St.pick [4, 5] (by decide) hS, (hS.frz (i := 6) rfl hlow)⟩, ?_⟩
      refine WT.z [24] (by kernel_rfl) ?_
      refine runC (rest := []) (obs := []) [24] [(4, pb b10), (55, .agg #[pb b40, sv ad160 l61 cap161, sv ad165 l68 cap166, iv x56])] hF (by kernel_rfl) (by kernel_rfl) onil ⟨by kernel_rfl⟩ fun a hF => ?_
      refine WRun.fin ?_
      exact ⟨ad160, cap161, ad165, cap166, hF.sub (by kernel_rfl), St.pick [2, 0, 4, 5, 6] (by decide) hS⟩
     ·skip
      refine litK (e := 3) (sz := 1) (f := fI) (t := 40) (len := 1) (fun b167 => [(4, pb b10), (32, pb b40), (38, sv ad160 l61 cap161), (40, sv ad4 p0.at_ cap5), (43, sb b167 1), (54, iv x56)]) #[(0, iv x38)] #[iv x38] ([x38]) hF hS (by kernel_rfl) ⟨by kernel_rfl⟩ (by kernel_rfl) fI_len rfl rfl (by kernel_rfl) (fun _ => ⟨by kernel_rfl⟩) fun b167 w a hF hS => ⟨⟨St.pick [3, 4] (by decide) hS, (hS.frz (i := 5) rfl hlow)⟩, ?_⟩
      refine WT.s [] [10] (by kernel_rfl) (by kernel_rfl) ?_
      refine WRun.fin ?_
      refine all_cons ?_ (all_nil)
      refine callK (f := 93) (args := #[sv ad4 p0.at_ cap5]) (R := fun v w2 => v = .slice (slOff ad4 (ln p0.at_).toNat (0 : Int).toNat 1) y65.length y65.length ∧ Ext w w2 ∧ ∀ w3, Arr w3 1 fI ad4 p0.at_.length cap5 p0.at_ → Arr w3 1 fI (slOff ad4 (ln p0.at_).toNat (0 : Int).toNat 1) y65.length y65.length y65) (fun v168 => [(4, pb b10), (32, pb b40), (38, sv ad160 l61 cap161), (41, v168), (43, sb b167 1), (54, iv x56)]) hF (by kernel_rfl) ⟨by kernel_rfl⟩ (Calls.mono (slices_Clip_int_int_ok F p0.at_ _ hy65 (memOf w) w (memOf_at w) (hA8.mono (FrzAt.le_mem (hS.frz (i := 5) rfl hlow)))) (fun e w2 h => ⟨_, h.1, rfl, h.2.1, h.2.2⟩)) (fun _ => ⟨by kernel_rfl⟩) ?_
      rintro v168 w a ⟨rfl, hx, hv169⟩ hF
      replace hS := hS.later hx
      refine ⟨⟨St.pick [3, 4] (by decide) hS, (hS.frz (i := 5) rfl hlow)⟩, ?_⟩
      refine WT.s [] [13] (by kernel_rfl) (by kernel_rfl) ?_
      refine WRun.fin ?_
      refine all_cons ?_ (all_nil)
      refine appcK (e := 3) (t := 40) (ty := 40) (bytes := 8) (l := y65) (l' := ([x38])) (fun ad170 cap171 => [(4, pb b10), (32, pb b40), (38, sv ad160 l61 cap161), (44, sv ad170 l68 cap171), (54, iv x56)]) hF hS (by kernel_rfl) ⟨by kernel_rfl⟩ (by kernel_rfl) (hv169 _ (hA8 _ (hS.frz (i := 5) rfl hlow))) (hS.arr (i := 0) rfl) fI_len hl68 (by simp) (fun _ _ => ⟨by kernel_rfl⟩) fun ad170 cap171 w a hF hS => ⟨⟨St.pick [4, 5] (by decide) hS, (hS.frz (i := 6) rfl hlow)⟩, ?_⟩
      refine WT.z [24] (by kernel_rfl) ?_
      refine runC (rest := []) (obs := []) [24] [(4, pb b10), (55, .agg #[pb b40, sv ad160 l61 cap161, sv ad170 l68 cap171, iv x56])] hF (by kernel_rfl) (by kernel_rfl) onil ⟨by kernel_rfl⟩ fun a hF => ?_
      refine WRun.fin ?_
      exact ⟨ad160, cap161, ad170, cap171, hF.sub (by kernel_rfl), St.pick [2, 0, 4, 5, 6] (by decide) hS⟩
    ·skip
     refine litK (e := 3) (sz := 1) (f := fI) (t := 40) (len := 1) (fun b172 => [(4, pb b10), (32, pb b40), (35, .slice (slOff ad2 (ln p0.jobs).toNat (0 : Int).toNat 1) y58.length y58.length), (37, sb b159 1), (40, sv ad4 p0.at_ cap5), (43, sb b172 1), (54, iv x56)]) #[(0, iv x38)] #[iv x38] ([x38]) hF hS (by kernel_rfl) ⟨by kernel_rfl⟩ (by kernel_rfl) fI_len rfl rfl (by kernel_rfl) (fun _ => ⟨by kernel_rfl⟩) fun b172 w a hF hS => ⟨⟨St.pick [2, 3] (by decide) hS, (hS.frz (i := 4) rfl hlow)⟩, ?_⟩
     refine WT.s [] [7] (by kernel_rfl) (by kernel_rfl) ?_
     refine WRun.fin ?_
     refine all_cons ?_ (all_nil)
     refine appcK (e := 3) (t := 40) (ty := 40) (bytes := 8) (l := y58) (l' := ([p1])) (fun ad173 cap174 => [(4, pb b10), (32, pb b40), (38, sv ad173 l61 cap174), (40, sv ad4 p0.at_ cap5), (43, sb b172 1), (54, iv x56)]) hF hS (by kernel_rfl) ⟨by kernel_rfl⟩ (by kernel_rfl) (hv158 _ (hA7 _ (hS.frz (i := 4) rfl hlow))) (hS.arr (i := 1) rfl) fI_len hl61 (by simp) (fun _ _ => ⟨by kernel_rfl⟩) fun ad173 cap174 w a hF hS => ⟨⟨St.pick [3, 4] (by decide) hS, (hS.frz (i := 5) rfl hlow)⟩, ?_⟩
     refine WT.s [] [10] (by kernel_rfl) (by kernel_rfl) ?_
     refine WRun.fin ?_
     refine all_cons ?_ (all_nil)
     refine callK (f := 93) (args := #[sv ad4 p0.at_ cap5]) (R := fun v w2 => v = .slice (slOff ad4 (ln p0.at_).toNat (0 : Int).toNat 1) y65.length y65.length ∧ Ext w w2 ∧ ∀ w3, Arr w3 1 fI ad4 p0.at_.length cap5 p0.at_ → Arr w3 1 fI (slOff ad4 (ln p0.at_).toNat (0 : Int).toNat 1) y65.length y65.length y65) (fun v175 => [(4, pb b10), (32, pb b40), (38, sv ad173 l61 cap174), (41, v175), (43, sb b172 1), (54, iv x56)]) hF (by kernel_rfl) ⟨by kernel_rfl⟩ (Calls.mono (slices_Clip_int_int_ok F p0.at_ _ hy65 (memOf w) w (memOf_at w) (hA8.mono (FrzAt.le_mem (hS.frz (i := 5) rfl hlow)))) (fun e w2 h => ⟨_, h.1, rfl, h.2.1, h.2.2⟩)) (fun _ => ⟨by kernel_rfl⟩) ?_
     rintro v175 w a ⟨rfl, hx, hv176⟩ hF
     replace hS := hS.later hx
     refine ⟨⟨St.pick [3, 4] (by decide) hS, (hS.frz (i := 5) rfl hlow)⟩, ?_⟩
     refine WT.s [] [13] (by kernel_rfl) (by kernel_rfl) ?_
     refine WRun.fin ?_
     refine all_cons ?_ (all_nil)
     refine appcK (e := 3) (t := 40) (ty := 40) (bytes := 8) (l := y65) (l' := ([x38])) (fun ad177 cap178 => [(4, pb b10), (32, pb b40), (38, sv ad173 l61 cap174), (44, sv ad177 l68 cap178), (54, iv x56)]) hF hS (by kernel_rfl) ⟨by kernel_rfl⟩ (by kernel_rfl) (hv176 _ (hA8 _ (hS.frz (i := 5) rfl hlow))) (hS.arr (i := 1) rfl) fI_len hl68 (by simp) (fun _ _ => ⟨by kernel_rfl⟩) fun ad177 cap178 w a hF hS => ⟨⟨St.pick [4, 5] (by decide) hS, (hS.frz (i := 6) rfl hlow)⟩, ?_⟩
     refine WT.z [24] (by kernel_rfl) ?_
     refine runC (rest := []) (obs := []) [24] [(4, pb b10), (55, .agg #[pb b40, sv ad173 l61 cap174, sv ad177 l68 cap178, iv x56])] hF (by kernel_rfl) (by kernel_rfl) onil ⟨by kernel_rfl⟩ fun a hF => ?_
     refine WRun.fin ?_
     exact ⟨ad173, cap174, ad177, cap178, hF.sub (by kernel_rfl), St.pick [1, 0, 4, 5, 6] (by decide) hS⟩
   ·skip
    refine litK (e := 3) (sz := 1) (f := fI) (t := 40) (len := 1) (fun b179 => [(4, pb b10), (32, pb b40), (35, .slice (slOff ad2 (ln p0.jobs).toNat (0 : Int).toNat 1) y58.length y58.length), (36, iv p1), (40, sv ad4 p0.at_ cap5), (43, sb b179 1), (54, iv x56)]) #[(0, iv x38)] #[iv x38] ([x38]) hF hS (by kernel_rfl) ⟨by kernel_rfl⟩ (by kernel_rfl) fI_len rfl rfl (by kernel_rfl) (fun _ => ⟨by kernel_rfl⟩) fun b179 w a hF hS => ⟨⟨St.pick [1, 2] (by decide) hS, (hS.frz (i := 3) rfl hlow)⟩, ?_⟩
    refine WT.s [] [6] (by kernel_rfl) (by kernel_rfl) ?_
    refine WRun.fin ?_
    refine all_cons ?_ (all_nil)
    refine litK (e := 3) (sz := 1) (f := fI) (t := 40) (len := 1) (fun b180 => [(4, pb b10), (32, pb b40), (35, .slice (slOff ad2 (ln p0.jobs).toNat (0 : Int).toNat 1) y58.length y58.length), (37, sb b180 1), (40, sv ad4 p0.at_ cap5), (43, sb b179 1), (54, iv x56)]) #[(0, iv p1)] #[iv p1] ([p1]) hF hS (by kernel_rfl) ⟨by kernel_rfl⟩ (by kernel_rfl) fI_len rfl rfl (by kernel_rfl) (fun _ => ⟨by kernel_rfl⟩) fun b180 w a hF hS => ⟨⟨St.pick [2, 3] (by decide) hS, (hS.frz (i := 4) rfl hlow)⟩, ?_⟩
    refine WT.s [] [7] (by kernel_rfl) (by kernel_rfl) ?_
    refine WRun.fin ?_
    refine all_cons ?_ (all_nil)
    refine appcK (e := 3) (t := 40) (ty := 40) (bytes := 8) (l := y58) (l' := ([p1])) (fun ad181 cap182 => [(4, pb b10), (32, pb b40), (38, sv ad181 l61 cap182), (40, sv ad4 p0.at_ cap5), (43, sb b179 1), (54, iv x56)]) hF hS (by kernel_rfl) ⟨by kernel_rfl⟩ (by kernel_rfl) (hv158 _ (hA7 _ (hS.frz (i := 4) rfl hlow))) (hS.arr (i := 0) rfl) fI_len hl61 (by simp) (fun _ _ => ⟨by kernel_rfl⟩) fun ad181 cap182 w a hF hS => ⟨⟨St.pick [3, 4] (by decide) hS, (hS.frz (i := 5) rfl hlow)⟩, ?_⟩
    refine WT.s [] [10] (by kernel_rfl) (by kernel_rfl) ?_
    refine WRun.fin ?_
    refine all_cons ?_ (all_nil)
    refine callK (f := 93) (args := #[sv ad4 p0.at_ cap5]) (R := fun v w2 => v = .slice (slOff ad4 (ln p0.at_).toNat (0 : Int).toNat 1) y65.length y65.length ∧ Ext w w2 ∧ ∀ w3, Arr w3 1 fI ad4 p0.at_.length cap5 p0.at_ → Arr w3 1 fI (slOff ad4 (ln p0.at_).toNat (0 : Int).toNat 1) y65.length y65.length y65) (fun v183 => [(4, pb b10), (32, pb b40), (38, sv ad181 l61 cap182), (41, v183), (43, sb b179 1), (54, iv x56)]) hF (by kernel_rfl) ⟨by kernel_rfl⟩ (Calls.mono (slices_Clip_int_int_ok F p0.at_ _ hy65 (memOf w) w (memOf_at w) (hA8.mono (FrzAt.le_mem (hS.frz (i := 5) rfl hlow)))) (fun e w2 h => ⟨_, h.1, rfl, h.2.1, h.2.2⟩)) (fun _ => ⟨by kernel_rfl⟩) ?_
    rintro v183 w a ⟨rfl, hx, hv184⟩ hF
    replace hS := hS.later hx
    refine ⟨⟨St.pick [3, 4] (by decide) hS, (hS.frz (i := 5) rfl hlow)⟩, ?_⟩
    refine WT.s [] [13] (by kernel_rfl) (by kernel_rfl) ?_
    refine WRun.fin ?_
    refine all_cons ?_ (all_nil)
    refine appcK (e := 3) (t := 40) (ty := 40) (bytes := 8) (l := y65) (l' := ([x38])) (fun ad185 cap186 => [(4, pb b10), (32, pb b40), (38, sv ad181 l61 cap182), (44, sv ad185 l68 cap186), (54, iv x56)]) hF hS (by kernel_rfl) ⟨by kernel_rfl⟩ (by kernel_rfl) (hv184 _ (hA8 _ (hS.frz (i := 5) rfl hlow))) (hS.arr (i := 2) rfl) fI_len hl68 (by simp) (fun _ _ => ⟨by kernel_rfl⟩) fun ad185 cap186 w a hF hS => ⟨⟨St.pick [4, 5] (by decide) hS, (hS.frz (i := 6) rfl hlow)⟩, ?_⟩
    refine WT.z [24] (by kernel_rfl) ?_
    refine runC (rest := []) (obs := []) [24] [(4, pb b10), (55, .agg #[pb b40, sv ad181 l61 cap182, sv ad185 l68 cap186, iv x56])] hF (by kernel_rfl) (by kernel_rfl) onil ⟨by kernel_rfl⟩ fun a hF => ?_
    refine WRun.fin ?_
    exact ⟨ad181, cap182, ad185, cap186, hF.sub (by kernel_rfl), St.pick [1, 0, 4, 5, 6] (by decide) hS⟩
  ·skip
   refine litK (e := 3) (sz := 1) (f := fI) (t := 40) (len := 1) (fun b187 => [(4, pb b10), (32, pb b40), (34, sv ad2 p0.jobs cap3), (37, sb b187 1), (40, sv ad4 p0.at_ cap5), (42, iv x38), (54, iv x56)]) #[(0, iv p1)] #[iv p1] ([p1]) hF hS (by kernel_rfl) ⟨by kernel_rfl⟩ (by kernel_rfl) fI_len rfl rfl (by kernel_rfl) (fun _ => ⟨by kernel_rfl⟩) fun b187 w a hF hS => ⟨⟨St.pick [1, 2] (by decide) hS, (hS.frz (i := 3) rfl hlow)⟩, ?_⟩
   refine WT.s [] [4, 12] (by kernel_rfl) (by kernel_rfl) ?_
   refine WRun.fin ?_
   refine all_cons ?_ (all_cons ?_ (all_nil))
   ·skip
    refine callK (f := 93) (args := #[sv ad2 p0.jobs cap3]) (R := fun v w2 => v = .slice (slOff ad2 (ln p0.jobs).toNat (0 : Int).toNat 1) y58.length y58.length ∧ Ext w w2 ∧ ∀ w3, Arr w3 1 fI ad2 p0.jobs.length cap3 p0.jobs → Arr w3 1 fI (slOff ad2 (ln p0.jobs).toNat (0 : Int).toNat 1) y58.length y58.length y58) (fun v188 => [(4, pb b10), (32, pb b40), (35, v188), (37, sb b187 1), (40, sv ad4 p0.at_ cap5), (42, iv x38), (54, iv x56)]) hF (by kernel_rfl) ⟨by kernel_rfl⟩ (Calls.mono (slices_Clip_int_int_ok F p0.jobs _ hy58 (memOf w) w (memOf_at w) (hA7.mono (FrzAt.le_mem (hS.frz (i := 3) rfl hlow)))) (fun e w2 h => ⟨_, h.1, rfl, h.2.1, h.2.2⟩)) (fun _ => ⟨by kernel_rfl⟩) ?_
    rintro v188 w a ⟨rfl, hx, hv189⟩ hF
    replace hS := hS.later hx
    refine ⟨⟨St.pick [1, 2] (by decide) hS, (hS.frz (i := 3) rfl hlow)⟩, ?_⟩
    refine WT.s [] [7, 12] (by kernel_rfl) (by kernel_rfl) ?_
    refine WRun.fin ?_
    refine all_cons ?_ (all_cons ?_ (all_nil))
    ·skip
     refine appcK (e := 3) (t := 40) (ty := 40) (bytes := 8) (l := y58) (l' := ([p1])) (fun ad190 cap191 => [(4, pb b10), (32, pb b40), (38, sv ad190 l61 cap191), (40, sv ad4 p0.at_ cap5), (42, iv x38), (54, iv x56)]) hF hS (by kernel_rfl) ⟨by kernel_rfl⟩ (by kernel_rfl) (hv189 _ (hA7 _ (hS.frz (i := 3) rfl hlow))) (hS.arr (i := 0) rfl) fI_len hl61 (by simp) (fun _ _ => ⟨by kernel_rfl⟩) fun ad190 cap191 w a hF hS => ⟨⟨St.pick [2, 3] (by decide) hS, (hS.frz (i := 4) rfl hlow)⟩, ?_⟩
     refine WT.s [] [10, 12] (by kernel_rfl) (by kernel_rfl) ?_
     refine WRun.fin ?_
     refine all_cons ?_ (all_cons ?_ (all_nil))
     ·skip
      refine callK (f := 93) (args := #[sv ad4 p0.at_ cap5]) (R := fun v w2 => v = .slice (slOff ad4 (ln p0.at_).toNat (0 : Int).toNat 1) y65.length y65.length ∧ Ext w w2 ∧ ∀ w3, Arr w3 1 fI ad4 p0.at_.length cap5 p0.at_ → Arr w3 1 fI (slOff ad4 (ln p0.at_).toNat (0 : Int).toNat 1) y65.length y65.length y65) (fun v192 => [(4, pb b10), (32, pb b40), (38, sv ad190 l61 cap191), (41, v192), (42, iv x38), (54, iv x56)]) hF (by kernel_rfl) ⟨by kernel_rfl⟩ (Calls.mono (slices_Clip_int_int_ok F p0.at_ _ hy65 (memOf w) w (memOf_at w) (hA8.mono (FrzAt.le_mem (hS.frz (i := 4) rfl hlow)))) (fun e w2 h => ⟨_, h.1, rfl, h.2.1, h.2.2⟩)) (fun _ => ⟨by kernel_rfl⟩) ?_
      rintro v192 w a ⟨rfl, hx, hv193⟩ hF
      replace hS := hS.later hx
      refine ⟨⟨St.pick [2, 3] (by decide) hS, (hS.frz (i := 4) rfl hlow)⟩, ?_⟩
      refine WT.s [] [12] (by kernel_rfl) (by kernel_rfl) ?_
      refine WRun.fin ?_
      refine all_cons ?_ (all_nil)
      refine litK (e := 3) (sz := 1) (f := fI) (t := 40) (len := 1) (fun b194 => [(4, pb b10), (32, pb b40), (38, sv ad190 l61 cap191), (41, .slice (slOff ad4 (ln p0.at_).toNat (0 : Int).toNat 1) y65.length y65.length), (43, sb b194 1), (54, iv x56)]) #[(0, iv x38)] #[iv x38] ([x38]) hF hS (by kernel_rfl) ⟨by kernel_rfl⟩ (by kernel_rfl) fI_len rfl rfl (by kernel_rfl) (fun _ => ⟨by kernel_rfl⟩) fun b194 w a hF hS => ⟨⟨St.pick [3, 4] (by decide) hS, (hS.frz (i := 5) rfl hlow)⟩, ?_⟩
      refine WT.s [] [13] (by kernel_rfl) (by kernel_rfl) ?_
      refine WRun.fin ?_
      refine all_cons ?_ (all_nil)
      refine appcK (e := 3) (t := 40) (ty := 40) (bytes := 8) (l := y65) (l' := ([x38])) (fun ad195 cap196 => [(4, pb b10), (32, pb b40), (38, sv ad190 l61 cap191), (44, sv ad195 l68 cap196), (54, iv x56)]) hF hS (by kernel_rfl) ⟨by kernel_rfl⟩ (by kernel_rfl) (hv193 _ (hA8 _ (hS.frz (i := 5) rfl hlow))) (hS.arr (i := 0) rfl) fI_len hl68 (by simp) (fun _ _ => ⟨by kernel_rfl⟩) fun ad195 cap196 w a hF hS => ⟨⟨St.pick [4, 5] (by decide) hS, (hS.frz (i := 6) rfl hlow)⟩, ?_⟩
      refine WT.z [24] (by kernel_rfl) ?_
      refine runC (rest := []) (obs := []) [24] [(4, pb b10), (55, .agg #[pb b40, sv ad190 l61 cap191, sv ad195 l68 cap196, iv x56])] hF (by kernel_rfl) (by kernel_rfl) onil ⟨by kernel_rfl⟩ fun a hF => ?_
      refine WRun.fin ?_
      exact ⟨ad190, cap191, ad195, cap196, hF.sub (by kernel_rfl), St.pick [2, 0, 4, 5, 6] (by decide) hS⟩
     ·skip
      refine litK (e := 3) (sz := 1) (f := fI) (t := 40) (len := 1) (fun b197 => [(4, pb b10), (32, pb b40), (38, sv ad190 l61 cap191), (40, sv ad4 p0.at_ cap5), (43, sb b197 1), (54, iv x56)]) #[(0, iv x38)] #[iv x38] ([x38]) hF hS (by kernel_rfl) ⟨by kernel_rfl⟩ (by kernel_rfl) fI_len rfl rfl (by kernel_rfl) (fun _ => ⟨by kernel_rfl⟩) fun b197 w a hF hS => ⟨⟨St.pick [3, 4] (by decide) hS, (hS.frz (i := 5) rfl hlow)⟩, ?_⟩
      refine WT.s [] [10] (by kernel_rfl) (by kernel_rfl) ?_
      refine WRun.fin ?_
      refine all_cons ?_ (all_nil)
      refine callK (f := 93) (args := #[sv ad4 p0.at_ cap5]) (R := fun v w2 => v = .slice (slOff ad4 (ln p0.at_).toNat (0 : Int).toNat 1) y65.length y65.length ∧ Ext w w2 ∧ ∀ w3, Arr w3 1 fI ad4 p0.at_.length cap5 p0.at_ → Arr w3 1 fI (slOff ad4 (ln p0.at_).toNat (0 : Int).toNat 1) y65.length y65.length y65) (fun v198 => [(4, pb b10), (32, pb b40), (38, sv ad190 l61 cap191), (41, v198), (43, sb b197 1), (54, iv x56)]) hF (by kernel_rfl) ⟨by kernel_rfl⟩ (Calls.mono (slices_Clip_int_int_ok F p0.at_ _ hy65 (memOf w) w (memOf_at w) (hA8.mono (FrzAt.le_mem (hS.frz (i := 5) rfl hlow)))) (fun e w2 h => ⟨_, h.1, rfl, h.2.1, h.2.2⟩)) (fun _ => ⟨by kernel_rfl⟩) ?_
      rintro v198 w a ⟨rfl, hx, hv199⟩ hF
      replace hS := hS.later hx
      refine ⟨⟨St.pick [3, 4] (by decide) hS, (hS.frz (i := 5) rfl hlow)⟩, ?_⟩
      refine WT.s [] [13] (by kernel_rfl) (by kernel_rfl) ?_
      refine WRun.fin ?_
      refine all_cons ?_ (all_nil)
      refine appcK (e := 3) (t := 40) (ty := 40) (bytes := 8) (l := y65) (l' := ([x38])) (fun ad200 cap201 => [(4, pb b10), (32, pb b40), (38, sv ad190 l61 cap191), (44, sv ad200 l68 cap201), (54, iv x56)]) hF hS (by kernel_rfl) ⟨by kernel_rfl⟩ (by kernel_rfl) (hv199 _ (hA8 _ (hS.frz (i := 5) rfl hlow))) (hS.arr (i := 0) rfl) fI_len hl68 (by simp) (fun _ _ => ⟨by kernel_rfl⟩) fun ad200 cap201 w a hF hS => ⟨⟨St.pick [4, 5] (by decide) hS, (hS.frz (i := 6) rfl hlow)⟩, ?_⟩
      refine WT.z [24] (by kernel_rfl) ?_
      refine runC (rest := []) (obs := []) [24] [(4, pb b10), (55, .agg #[pb b40, sv ad190 l61 cap191, sv ad200 l68 cap201, iv x56])] hF (by kernel_rfl) (by kernel_rfl) onil ⟨by kernel_rfl⟩ fun a hF => ?_
      refine WRun.fin ?_
      exact ⟨ad190, cap191, ad200, cap201, hF.sub (by kernel_rfl), St.pick [2, 0, 4, 5, 6] (by decide) hS⟩
    ·skip
     refine litK (e := 3) (sz := 1) (f := fI) (t := 40) (len := 1) (fun b202 => [(4, pb b10), (32, pb b40), (35, .slice (slOff ad2 (ln p0.jobs).toNat (0 : Int).toNat 1) y58.length y58.length), (37, sb b187 1), (40, sv ad4 p0.at_ cap5), (43, sb b202 1), (54, iv x56)]) #[(0, iv x38)] #[iv x38] ([x38]) hF hS (by kernel_rfl) ⟨by kernel_rfl⟩ (by kernel_rfl) fI_len rfl rfl (by kernel_rfl) (fun _ => ⟨by kernel_rfl⟩) fun b202 w a hF hS => ⟨⟨St.pick [2, 3] (by decide) hS, (hS.frz (i := 4) rfl hlow)⟩, ?_⟩
     refine WT.s [] [7] (by kernel_rfl) (by kernel_rfl) ?_
     refine WRun.fin ?_
     refine all_cons ?_ (all_nil)
     refine appcK (e := 3) (t := 40) (ty := 40) (bytes := 8) (l := y58) (l' := ([p1])) (fun ad203 cap204 => [(4, pb b10), (32, pb b40), (38, sv ad203 l61 cap204), (40, sv ad4 p0.at_ cap5), (43, sb b202 1), (54, iv x56)]) hF hS (by kernel_rfl) ⟨by kernel_rfl⟩ (by kernel_rfl) (hv189 _ (hA7 _ (hS.frz (i := 4) rfl hlow))) (hS.arr (i := 1) rfl) fI_len hl61 (by simp) (fun _ _ => ⟨by kernel_rfl⟩) fun ad203 cap204 w a hF hS => ⟨⟨St.pick [3, 4] (by decide) hS, (hS.frz (i := 5) rfl hlow)⟩, ?_⟩
     refine WT.s [] [10] (by kernel_rfl) (by kernel_rfl) ?_
     refine WRun.fin ?_
     refine all_cons ?_ (all_nil)
     refine callK (f := 93) (args := #[sv ad4 p0.at_ cap5]) (R := fun v w2 => v = .slice (slOff ad4 (ln p0.at_).toNat (0 : Int).toNat 1) y65.length y65.length ∧ Ext w w2 ∧ ∀ w3, Arr w3 1 fI ad4 p0.at_.length cap5 p0.at_ → Arr w3 1 fI (slOff ad4 (ln p0.at_).toNat (0 : Int).toNat 1) y65.length y65.length y65) (fun v205 => [(4, pb b10), (32, pb b40), (38, sv ad203 l61 cap204), (41, v205), (43, sb b202 1), (54, iv x56)]) hF (by kernel_rfl) ⟨by kernel_rfl⟩ (Calls.mono (slices_Clip_int_int_ok F p0.at_ _ hy65 (memOf w) w (memOf_at w) (hA8.mono (FrzAt.le_mem (hS.frz (i := 5) rfl hlow)))) (fun e w2 h => ⟨_, h.1, rfl, h.2.1, h.2.2⟩)) (fun _ => ⟨by kernel_rfl⟩) ?_
     rintro v205 w a ⟨rfl, hx, hv206⟩ hF
     replace hS := hS.later hx
     refine ⟨⟨St.pick [3, 4] (by decide) hS, (hS.frz (i := 5) rfl hlow)⟩, ?_⟩
     refine WT.s [] [13] (by kernel_rfl) (by kernel_rfl) ?_
     refine WRun.fin ?_
     refine all_cons ?_ (all_nil)
     refine appcK (e := 3) (t := 40) (ty := 40) (bytes := 8) (l := y65) (l' := ([x38])) (fun ad207 cap208 => [(4, pb b10), (32, pb b40), (38, sv ad203 l61 cap204), (44, sv ad207 l68 cap208), (54, iv x56)]) hF hS (by kernel_rfl) ⟨by kernel_rfl⟩ (by kernel_rfl) (hv206 _ (hA8 _ (hS.frz (i := 5) rfl hlow))) (hS.arr (i := 1) rfl) fI_len hl68 (by simp) (fun _ _ => ⟨by kernel_rfl⟩) fun ad207 cap208 w a hF hS => ⟨⟨St.pick [4, 5] (by decide) hS, (hS.frz (i := 6) rfl hlow)⟩, ?_⟩
     refine WT.z [24] (by kernel_rfl) ?_
     refine runC (rest := []) (obs := []) [24] [(4, pb b10), (55, .agg #[pb b40, sv ad203 l61 cap204, sv ad207 l68 cap208, iv x56])] hF (by kernel_rfl) (by kernel_rfl) onil ⟨by kernel_rfl⟩ fun a hF => ?_
     refine WRun.fin ?_
     exact ⟨ad203, cap204, ad207, cap208, hF.sub (by kernel_rfl), St.pick [1, 0, 4, 5, 6] (by decide) hS⟩
   ·skip
    refine litK (e := 3) (sz := 1) (f := fI) (t := 40) (len := 1) (fun b209 => [(4, pb b10), (32, pb b40), (34, sv ad2 p0.jobs cap3), (37, sb b187 1), (40, sv ad4 p0.at_ cap5), (43, sb b209 1), (54, iv x56)]) #[(0, iv x38)] #[iv x38] ([x38]) hF hS (by kernel_rfl) ⟨by kernel_rfl⟩ (by kernel_rfl) fI_len rfl rfl (by kernel_rfl) (fun _ => ⟨by kernel_rfl⟩) fun b209 w a hF hS => ⟨⟨St.pick [2, 3] (by decide) hS, (hS.frz (i := 4) rfl hlow)⟩, ?_⟩
    refine WT.s [] [4] (by kernel_rfl) (by kernel_rfl) ?_
    refine WRun.fin ?_
    refine all_cons ?_ (all_nil)
    refine callK (f := 93) (args := #[sv ad2 p0.jobs cap3]) (R := fun v w2 => v = .slice (slOff ad2 (ln p0.jobs).toNat (0 : Int).toNat 1) y58.length y58.length ∧ Ext w w2 ∧ ∀ w3, Arr w3 1 fI ad2 p0.jobs.length cap3 p0.jobs → Arr w3 1 fI (slOff ad2 (ln p0.jobs).toNat (0 : Int).toNat 1) y58.length y58.length y58) (fun v210 => [(4, pb b10), (32, pb b40), (35, v210), (37, sb b187 1), (40, sv ad4 p0.at_ cap5), (43, sb b209 1), (54, iv x56)]) hF (by kernel_rfl) ⟨by kernel_rfl⟩ (Calls.mono (slices_Clip_int_int_ok F p0.jobs _ hy58 (memOf w) w (memOf_at w) (hA7.mono (FrzAt.le_mem (hS.frz (i := 4) rfl hlow)))) (fun e w2 h => ⟨_, h.1, rfl, h.2.1, h.2.2⟩)) (fun _ => ⟨by kernel_rfl⟩) ?_
    rintro v210 w a ⟨rfl, hx, hv211⟩ hF
    replace hS := hS.later hx
    refine ⟨⟨St.pick [2, 3] (by decide) hS, (hS.frz (i := 4) rfl hlow)⟩, ?_⟩
    refine WT.s [] [7] (by kernel_rfl) (by kernel_rfl) ?_
    refine WRun.fin ?_
    refine all_cons ?_ (all_nil)
    refine appcK (e := 3) (t := 40) (ty := 40) (bytes := 8) (l := y58) (l' := ([p1])) (fun ad212 cap213 => [(4, pb b10), (32, pb b40), (38, sv ad212 l61 cap213), (40, sv ad4 p0.at_ cap5), (43, sb b209 1), (54, iv x56)]) hF hS (by kernel_rfl) ⟨by kernel_rfl⟩ (by kernel_rfl) (hv211 _ (hA7 _ (hS.frz (i := 4) rfl hlow))) (hS.arr (i := 1) rfl) fI_len hl61 (by simp) (fun _ _ => ⟨by kernel_rfl⟩) fun ad212 cap213 w a hF hS => ⟨⟨St.pick [3, 4] (by decide) hS, (hS.frz (i := 5) rfl hlow)⟩, ?_⟩
    refine WT.s [] [10] (by kernel_rfl) (by kernel_rfl) ?_
    refine WRun.fin ?_
    refine all_cons ?_ (all_nil)
    refine callK (f := 93) (args := #[sv ad4 p0.at_ cap5]) (R := fun v w2 => v = .slice (slOff ad4 (ln p0.at_).toNat (0 : Int).toNat 1) y65.length y65.length ∧ Ext w w2 ∧ ∀ w3, Arr w3 1 fI ad4 p0.at_.length cap5 p0.at_ → Arr w3 1 fI (slOff ad4 (ln p0.at_).toNat (0 : Int).toNat 1) y65.length y65.length y65) (fun v214 => [(4, pb b10), (32, pb b40), (38, sv ad212 l61 cap213), (41, v214), (43, sb b209 1), (54, iv x56)]) hF (by kernel_rfl) ⟨by kernel_rfl⟩ (Calls.mono (slices_Clip_int_int_ok F p0.at_ _ hy65 (memOf w) w (memOf_at w) (hA8.mono (FrzAt.le_mem (hS.frz (i := 5) rfl hlow)))) (fun e w2 h => ⟨_, h.1, rfl, h.2.1, h.2.2⟩)) (fun _ => ⟨by kernel_rfl⟩) ?_
    rintro v214 w a ⟨rfl, hx, hv215⟩ hF
    replace hS := hS.later hx
    refine ⟨⟨St.pick [3, 4] (by decide) hS, (hS.frz (i := 5) rfl hlow)⟩, ?_⟩
    refine WT.s [] [13] (by kernel_rfl) (by kernel_rfl) ?_
    refine WRun.fin ?_
    refine all_cons ?_ (all_nil)
    refine appcK (e := 3) (t := 40) (ty := 40) (bytes := 8) (l := y65) (l' := ([x38])) (fun ad216 cap217 => [(4, pb b10), (32, pb b40), (38, sv ad212 l61 cap213), (44, sv ad216 l68 cap217), (54, iv x56)]) hF hS (by kernel_rfl) ⟨by kernel_rfl⟩ (by kernel_rfl) (hv215 _ (hA8 _ (hS.frz (i := 5) rfl hlow))) (hS.arr (i := 1) rfl) fI_len hl68 (by simp) (fun _ _ => ⟨by kernel_rfl⟩) fun ad216 cap217 w a hF hS => ⟨⟨St.pick [4, 5] (by decide) hS, (hS.frz (i := 6) rfl hlow)⟩, ?_⟩
    refine WT.z [24] (by kernel_rfl) ?_
    refine runC (rest := []) (obs := []) [24] [(4, pb b10), (55, .agg #[pb b40, sv ad212 l61 cap213, sv ad216 l68 cap217, iv x56])] hF (by kernel_rfl) (by kernel_rfl) onil ⟨by kernel_rfl⟩ fun a hF => ?_
    refine WRun.fin ?_
    exact ⟨ad212, cap213, ad216, cap217, hF.sub (by kernel_rfl), St.pick [1, 0, 4, 5, 6] (by decide) hS⟩
  ·skip
   refine litK (e := 3) (sz := 1) (f := fI) (t := 40) (len := 1) (fun b218 => [(4, pb b10), (32, pb b40), (34, sv ad2 p0.jobs cap3), (36, iv p1), (40, sv ad4 p0.at_ cap5), (43, sb b218 1), (54, iv x56)]) #[(0, iv x38)] #[iv x38] ([x38]) hF hS (by kernel_rfl) ⟨by kernel_rfl⟩ (by kernel_rfl) fI_len rfl rfl (by kernel_rfl) (fun _ => ⟨by kernel_rfl⟩) fun b218 w a hF hS => ⟨⟨St.pick [1, 2] (by decide) hS, (hS.frz (i := 3) rfl hlow)⟩, ?_⟩
   refine WT.s [] [4, 6] (by kernel_rfl) (by kernel_rfl) ?_
   refine WRun.fin ?_
   refine all_cons ?_ (all_cons ?_ (all_nil))
   ·skip
    refine callK (f := 93) (args := #[sv ad2 p0.jobs cap3]) (R := fun v w2 => v = .slice (slOff ad2 (ln p0.jobs).toNat (0 : Int).toNat 1) y58.length y58.length ∧ Ext w w2 ∧ ∀ w3, Arr w3 1 fI ad2 p0.jobs.length cap3 p0.jobs → Arr w3 1 fI (slOff ad2 (ln p0.jobs).toNat (0 : Int).toNat 1) y58.length y58.length y58) (fun v219 => [(4, pb b10), (32, pb b40), (35, v219), (36, iv p1), (40, sv ad4 p0.at_ cap5), (43, sb b218 1), (54, iv x56)]) hF (by kernel_rfl) ⟨by kernel_rfl⟩ (Calls.mono (slices_Clip_int_int_ok F p0.jobs _ hy58 (memOf w) w (memOf_at w) (hA7.mono (FrzAt.le_mem (hS.frz (i := 3) rfl hlow)))) (fun e w2 h => ⟨_, h.1, rfl, h.2.1, h.2.2⟩)) (fun _ => ⟨by kernel_rfl⟩) ?_
    rintro v219 w a ⟨rfl, hx, hv220⟩ hF
    replace hS := hS.later hx
    refine ⟨⟨St.pick [1, 2] (by decide) hS, (hS.frz (i := 3) rfl hlow)⟩, ?_⟩
    refine WT.s [] [6] (by kernel_rfl) (by kernel_rfl) ?_
    refine WRun.fin ?_
    refine all_cons ?_ (all_nil)
    refine litK (e := 3) (sz := 1) (f := fI) (t := 40) (len := 1) (fun b221 => [(4, pb b10), (32, pb b40), (35, .slice (slOff ad2 (ln p0.jobs).toNat (0 : Int).toNat 1) y58.length y58.length), (37, sb b221 1), (40, sv ad4 p0.at_ cap5), (43, sb b218 1), (54, iv x56)]) #[(0, iv p1)] #[iv p1] ([p1]) hF hS (by kernel_rfl) ⟨by kernel_rfl⟩ (by kernel_rfl) fI_len rfl rfl (by kernel_rfl) (fun _ => ⟨by kernel_rfl⟩) fun b221 w a hF hS => ⟨⟨St.pick [2, 3] (by decide) hS, (hS.frz (i := 4) rfl hlow)⟩, ?_⟩
    refine WT.s [] [7] (by kernel_rfl) (by kernel_rfl) ?_
    refine WRun.fin ?_
    refine all_cons ?_ (all_nil)
    refine appcK (e := 3) (t := 40) (ty := 40) (bytes := 8) (l := y58) (l' := ([p1])) (fun ad222 cap223 => [(4, pb b10), (32, pb b40), (38, sv ad222 l61 cap223), (40, sv ad4 p0.at_ cap5), (43, sb b218 1), (54, iv x56)]) hF hS (by kernel_rfl) ⟨by kernel_rfl⟩ (by kernel_rfl) (hv220 _ (hA7 _ (hS.frz (i := 4) rfl hlow))) (hS.arr (i := 0) rfl) fI_len hl61 (by simp) (fun _ _ => ⟨by kernel_rfl⟩) fun ad222 cap223 w a hF hS => ⟨⟨St.pick [3, 4] (by decide) hS, (hS.frz (i := 5) rfl hlow)⟩, ?_⟩
    refine WT.s [] [10] (by kernel_rfl) (by kernel_rfl) ?_
    refine WRun.fin ?_
    refine all_cons ?_ (all_nil)
    refine callK (f := 93) (args := #[sv ad4 p0.at_ cap5]) (R := fun v w2 => v = .slice (slOff ad4 (ln p0.at_).toNat (0 : Int).toNat 1) y65.length y65.length ∧ Ext w w2 ∧ ∀ w3, Arr w3 1 fI ad4 p0.at_.length cap5 p0.at_ → Arr w3 1 fI (slOff ad4 (ln p0.at_).toNat (0 : Int).toNat 1) y65.length y65.length y65) (fun v224 => [(4, pb b10), (32, pb b40), (38, sv ad222 l61 cap223), (41, v224), (43, sb b218 1), (54, iv x56)]) hF (by kernel_rfl) ⟨by kernel_rfl⟩ (Calls.mono (slices_Clip_int_int_ok F p0.at_ _ hy65 (memOf w) w (memOf_at w) (hA8.mono (FrzAt.le_mem (hS.frz (i := 5) rfl hlow)))) (fun e w2 h => ⟨_, h.1, rfl, h.2.1, h.2.2⟩)) (fun _ => ⟨by kernel_rfl⟩) ?_
    rintro v224 w a ⟨rfl, hx, hv225⟩ hF
    replace hS := hS.later hx
    refine ⟨⟨St.pick [3, 4] (by decide) hS, (hS.frz (i := 5) rfl hlow)⟩, ?_⟩
    refine WT.s [] [13] (by kernel_rfl) (by kernel_rfl) ?_
    refine WRun.fin ?_
    refine all_cons ?_ (all_nil)
    refine appcK (e := 3) (t := 40) (ty := 40) (bytes := 8) (l := y65) (l' := ([x38])) (fun ad226 cap227 => [(4, pb b10), (32, pb b40), (38, sv ad222 l61 cap223), (44, sv ad226 l68 cap227), (54, iv x56)]) hF hS (by kernel_rfl) ⟨by kernel_rfl⟩ (by kernel_rfl) (hv225 _ (hA8 _ (hS.frz (i := 5) rfl hlow))) (hS.arr (i := 2) rfl) fI_len hl68 (by simp) (fun _ _ => ⟨by kernel_rfl⟩) fun ad226 cap227 w a hF hS => ⟨⟨St.pick [4, 5] (by decide) hS, (hS.frz (i := 6) rfl hlow)⟩, ?_⟩
    refine WT.z [24] (by kernel_rfl) ?_
    refine runC (rest := []) (obs := []) [24] [(4, pb b10), (55, .agg #[pb b40, sv ad222 l61 cap223, sv ad226 l68 cap227, iv x56])] hF (by kernel_rfl) (by kernel_rfl) onil ⟨by kernel_rfl⟩ fun a hF => ?_
    refine WRun.fin ?_
    exact ⟨ad222, cap223, ad226, cap227, hF.sub (by kernel_rfl), St.pick [1, 0, 4, 5, 6] (by decide) hS⟩
   ·skip
    refine litK (e := 3) (sz := 1) (f := fI) (t := 40) (len := 1) (fun b228 => [(4, pb b10), (32, pb b40), (34, sv ad2 p0.jobs cap3), (37, sb b228 1), (40, sv ad4 p0.at_ cap5), (43, sb b218 1), (54, iv x56)]) #[(0, iv p1)] #[iv p1] ([p1]) hF hS (by kernel_rfl) ⟨by kernel_rfl⟩ (by kernel_rfl) fI_len rfl rfl (by kernel_rfl) (fun _ => ⟨by kernel_rfl⟩) fun b228 w a hF hS => ⟨⟨St.pick [2, 3] (by decide) hS, (hS.frz (i := 4) rfl hlow)⟩, ?_⟩
    refine WT.s [] [4] (by kernel_rfl) (by kernel_rfl) ?_
    refine WRun.fin ?_
    refine all_cons ?_ (all_nil)
    refine callK (f := 93) (args := #[sv ad2 p0.jobs cap3]) (R := fun v w2 => v = .slice (slOff ad2 (ln p0.jobs).toNat (0 : Int).toNat 1) y58.length y58.length ∧ Ext w w2 ∧ ∀ w3, Arr w3 1 fI ad2 p0.jobs.length cap3 p0.jobs → Arr w3 1 fI (slOff ad2 (ln p0.jobs).toNat (0 : Int).toNat 1) y58.length y58.length y58) (fun v229 => [(4, pb b10), (32, pb b40), (35, v229), (37, sb b228 1), (40, sv ad4 p0.at_ cap5), (43, sb b218 1), (54, iv x56)]) hF (by kernel_rfl) ⟨by kernel_rfl⟩ (Calls.mono (slices_Clip_int_int_ok F p0.jobs _ hy58 (memOf w) w (memOf_at w) (hA7.mono (FrzAt.le_mem (hS.frz (i := 4) rfl hlow)))) (fun e w2 h => ⟨_, h.1, rfl, h.2.1, h.2.2⟩)) (fun _ => ⟨by kernel_rfl⟩) ?_
    rintro v229 w a ⟨rfl, hx, hv230⟩ hF
    replace hS := hS.later hx
    refine ⟨⟨St.pick [2, 3] (by decide) hS, (hS.frz (i := 4) rfl hlow)⟩, ?_⟩
    refine WT.s [] [7] (by kernel_rfl) (by kernel_rfl) ?_
    refine WRun.fin ?_
    refine all_cons ?_ (all_nil)
    refine appcK (e := 3) (t := 40) (ty := 40) (bytes := 8) (l := y58) (l' := ([p1])) (fun ad231 cap232 => [(4, pb b10), (32, pb b40), (38, sv ad231 l61 cap232), (40, sv ad4 p0.at_ cap5), (43, sb b218 1), (54, iv x56)]) hF hS (by kernel_rfl) ⟨by kernel_rfl⟩ (by kernel_rfl) (hv230 _ (hA7 _ (hS.frz (i := 4) rfl hlow))) (hS.arr (i := 0) rfl) fI_len hl61 (by simp) (fun _ _ => ⟨by kernel_rfl⟩) fun ad231 cap232 w a hF hS => ⟨⟨St.pick [3, 4] (by decide) hS, (hS.frz (i := 5) rfl hlow)⟩, ?_⟩
    refine WT.s [] [10] (by kernel_rfl) (by kernel_rfl) ?_
    refine WRun.fin ?_
    refine all_cons ?_ (all_nil)
    refine callK (f := 93) (args := #[sv ad4 p0.at_ cap5]) (R := fun v w2 => v = .slice (slOff ad4 (ln p0.at_).toNat (0 : Int).toNat 1) y65.length y65.length ∧ Ext w w2 ∧ ∀ w3, Arr w3 1 fI ad4 p0.at_.length cap5 p0.at_ → Arr w3 1 fI (slOff ad4 (ln p0.at_).toNat (0 : Int).toNat 1) y65.length y65.length y65) (fun v233 => [(4, pb b10), (32, pb b40), (38, sv ad231 l61 cap232), (41, v233), (43, sb b218 1), (54, iv x56)]) hF (by kernel_rfl) ⟨by kernel_rfl⟩ (Calls.mono (slices_Clip_int_int_ok F p0.at_ _ hy65 (memOf w) w (memOf_at w) (hA8.mono (FrzAt.le_mem (hS.frz (i := 5) rfl hlow)))) (fun e w2 h => ⟨_, h.1, rfl, h.2.1, h.2.2⟩)) (fun _ => ⟨by kernel_rfl⟩) ?_
    rintro v233 w a ⟨rfl, hx, hv234⟩ hF
    replace hS := hS.later hx
    refine ⟨⟨St.pick [3, 4] (by decide) hS, (hS.frz (i := 5) rfl hlow)⟩, ?_⟩
    refine WT.s [] [13] (by kernel_rfl) (by kernel_rfl) ?_
    refine WRun.fin ?_
    refine all_cons ?_ (all_nil)
    refine appcK (e := 3) (t := 40) (ty := 40) (bytes := 8) (l := y65) (l' := ([x38])) (fun ad235 cap236 => [(4, pb b10), (32, pb b40), (38, sv ad231 l61 cap232), (44, sv ad235 l68 cap236), (54, iv x56)]) hF hS (by kernel_rfl) ⟨by kernel_rfl⟩ (by kernel_rfl) (hv234 _ (hA8 _ (hS.frz (i := 5) rfl hlow))) (hS.arr (i := 2) rfl) fI_len hl68 (by simp) (fun _ _ => ⟨by kernel_rfl⟩) fun ad235 cap236 w a hF hS => ⟨⟨St.pick [4, 5] (by decide) hS, (hS.frz (i := 6) rfl hlow)⟩, ?_⟩
    refine WT.z [24] (by kernel_rfl) ?_
    refine runC (rest := []) (obs := []) [24] [(4, pb b10), (55, .agg #[pb b40, sv ad231 l61 cap232, sv ad235 l68 cap236, iv x56])] hF (by kernel_rfl) (by kernel_rfl) onil ⟨by kernel_rfl⟩ fun a hF => ?_
    refine WRun.fin ?_
    exact ⟨ad231, cap232, ad235, cap236, hF.sub (by kernel_rfl), St.pick [1, 0, 4, 5, 6] (by decide) hS⟩
 rintro a w ⟨ad152, cap153, ad154, cap155, hF, hS⟩
 refine SK.wi (storeK (t := 102) [(4, pb b10)] 2 0 (.agg #[pb b40, sv ad152 l61 cap153, sv ad154 l68 cap155, iv x56]) #[pb b40, sv ad152 l61 cap153, sv ad154 l68 cap155, iv x56] hF hS rfl (by kernel_rfl) ⟨by kernel_rfl⟩ (by kernel_rfl) (by kernel_rfl) (by kernel_rfl) (by kernel_rfl) ⟨by kernel_rfl⟩ fun w a hF hS => ?_)
 refine wfn rfl ?_
 refine wpIn_ret (fn_ret [.cell 4 102] [.agg #[pb b40, sv ad152 l61 cap153, sv ad154 l68 cap155, iv x56]] hF rfl ⟨⟨_, rfl, loadVarN (cs := [pb b40, sv ad152 l61 cap153, sv ad154 l68 cap155, iv x56]) (by kernel_rfl) ((hS.blk (i := 2) rfl).cells rfl)⟩, trivial⟩ ?_)
 obtain ⟨ν237, hx238, hlow, hS, hz239⟩ := hS.freeze (i := 4) (j := 0) rfl rfl (by decide) hlow
 replace hA6 := hA6.mono Rp113.mono hx238.1
 replace hA7 := hA7.mono hx238.1
 replace hA8 := hA8.mono hx238.1
 replace hA52 := hA52.mono hx238.1
 replace hA53 := hA53.mono hx238.1
 replace hA54 := hA54.mono Rp40.mono hx238.1
 replace hB43 := hB43.mono hx238.1
 replace hext := Frz.ext_trans hext hx238
 replace hS : St w0 [arr 3 1 fI ad154 l68.length cap155 l68, blk b10 102 #[pb b40, sv ad152 l61 cap153, sv ad154 l68 cap155, iv x56], blk b9 102 #[pb b40, sv ad2 p0.jobs cap3, sv ad4 p0.at_ cap5, iv p0.done], fz w0 ν237] w := hS
 have hA240 := ArrM.of_arr hz239
 obtain ⟨ν241, hx242, hlow, hS, hz243⟩ := hS.freeze (i := 3) (j := 0) rfl rfl (by decide) hlow
 replace hA6 := hA6.mono Rp113.mono hx242.1
 replace hA7 := hA7.mono hx242.1
 replace hA8 := hA8.mono hx242.1
 replace hA52 := hA52.mono hx242.1
 replace hA53 := hA53.mono hx242.1
 replace hA54 := hA54.mono Rp40.mono hx242.1
 replace hB43 := hB43.mono hx242.1
 replace hA240 := hA240.mono hx242.1
 replace hext := Frz.ext_trans hext hx242
 replace hS : St w0 [blk b10 102 #[pb b40, sv ad152 l61 cap153, sv ad154 l68 cap155, iv x56], blk b9 102 #[pb b40, sv ad2 p0.jobs cap3, sv ad4 p0.at_ cap5, iv p0.done], fz w0 ν241] w := hS
 have hA244 := ArrM.of_arr hz243
 have hr_ := Option.some.inj h
 subst hr_
 exact ⟨ν241, (some ⟨b40, 0, none⟩), ad152, cap153, ad154, cap155, hext, rfl, (PtM.mk (cs := [sv ad45 d39.jobs cap46, sv ad47 d39.takes cap48, sv ad49 d39.moves cap50]) hB43 ⟨ad45, cap46, ad47, cap48, ad49, cap50, css51, rfl, hA52, hA53, hA54⟩), hA240, hA244, St.pick [2] (by decide) hS⟩

theorem slices_BinarySearch_int_int_ok (F : Nat) (p0 : (List Int)) (p1 : Int) (res : (Int × Bool)) (h : slices_BinarySearch_int_int F p0 p1 = some res) (μ : Frz) (w0 : World) (hm : FrzAt μ w0) {ad1 : Option Addr} {cap2 : Nat} (hA3 : ArrM μ 1 fI ad1 cap2 p0) : Calls Try.prog 54 #[sv ad1 p0 cap2, iv p1] w0 (fun e w => e = .returned (.tuple #[iv res.1, .bool res.2]) ∧ Ext w0 w) := by
 obtain ⟨hlow, hS⟩ := hm.init
 have hext := Frz.ext_refl w0.heap.size μ
 rw [slices_BinarySearch_int_int] at h
 refine fn_enterW Try.func54 rfl 54 [(0, sv ad1 p0 cap2), (1, iv p1)] rfl rfl (by kernel_rfl) fun a w hw hF => ?_
 replace hS : St w0 [fz w0 μ] w := by rw [hw]; exact hS
 clear hw
 refine esr ?_
 refine rn 2 2 [(0, sv ad1 p0 cap2), (1, iv p1)] hF fun a hF => ?_
 refine wfn rfl ?_
 refine esr ?_
 refine rn 3 3 [(0, sv ad1 p0 cap2), (1, iv p1), (6, iv (ln p0))] hF fun a hF => ?_
 refine wfn rfl ?_
 refine esr ?_
 refine rn 3 3 [(0, sv ad1 p0 cap2), (1, iv p1), (6, iv (ln p0)), (7, iv 0), (8, iv (ln p0))] hF fun a hF => ?_
 refine wfn rfl ?_
 refine ecut (fun a w => ∃ (x21 : Int), Fr 54 [] [(0, sv ad1 p0 cap2), (1, iv p1), (6, iv (ln p0)), (7, iv x21)] a ∧ St w0 [fz w0 μ] w ∧ slices_BinarySearch_int_int_K1 p0 p1 x21 = some res) ?_ ?_
 ·skip
  refine wpIn_block ?_
  refine eloop (fun n_ a w => ∃ (x35 : Int) (x36 : Int), Fr 54 [] [(0, sv ad1 p0 cap2), (1, iv p1), (6, iv (ln p0)), (7, iv x35), (8, iv x36)] a ∧ St w0 [fz w0 μ] w ∧ slices_BinarySearch_int_int_L2 p0 p1 n_ x35 x36 = some res) F ⟨0, (ln p0), hF.sub (by kernel_rfl), St.pick [0] (by decide) hS, h⟩ ?_
  rintro n_ a w ⟨x35, x36, hF, hS, h⟩
  rcases n_ with _ | n_
  ·cases (show (none : Option (Int × Bool)) = some res from h)
  obtain ⟨k2, hk2⟩ : ∃ k, k = slices_BinarySearch_int_int_L2 p0 p1 n_ := ⟨_, rfl⟩
  replace h : slices_BinarySearch_int_int_B2 p0 p1 k2 x35 x36 = some res := by rw [hk2]; exact h
  rw [slices_BinarySearch_int_int_B2] at h
  refine eseq ?_
  refine esr ?_
  refine rn 3 3 [(0, sv ad1 p0 cap2), (1, iv p1), (6, iv (ln p0)), (7, iv x35), (8, iv x36), (15, .bool (decide (x35 < x36)))] hF fun a hF => ?_
  refine wfn rfl ?_
  refine econd hF rfl (fun hc => ?_) (fun hc => ?_)
  ·replace h := bif_t h hc
   refine wpIn_skip (norm_then ?_)
   refine wpIn_block ?_
   refine esr ?_
   replace h := bindS h
   obtain ⟨x38, hx38, h⟩ := h
   replace h := bindS h
   obtain ⟨x39, hx39, h⟩ := h
   refine rno 7 [.run [] (binOp .add 3 (iv x35) (iv x36)) (iv x38), .run [] (convert 3 139 (iv x38)) (.int .u64 (IntKind.u64.wrap x38)), .run [] (convert 139 3 (.int .u64 (Int.fdiv (IntKind.u64.wrap x38) 2))) (iv x39)] 7 [(0, sv ad1 p0 cap2), (1, iv p1), (6, iv (ln p0)), (7, iv x35), (8, iv x36), (9, iv x39)] hF (ocons (obAddC (fun _ => hx38)) (ocons (obPureSem (by kernel_rfl)) (ocons (obConvC (by kernel_rfl) (by kernel_rfl) (fun _ => hx39)) onil))) fun a hF => ?_
   refine wfn rfl ?_
   refine esr ?_
   replace h := bindS h
   obtain ⟨u40, hu40, h⟩ := h
   refine rx 6 [.run [] (Instr.indexAt 40 (sv ad1 p0 cap2) (iv x39)) (.pointer (some (slAddr ad1 x39 1))), .run [] (Instr.loadAt 3 (.pointer (some (slAddr ad1 x39 1)))) (iv u40), .call [] 80 #[iv u40, iv p1] (.bool (cmp_Less_int u40 p1))] 6 [(0, sv ad1 p0 cap2), (1, iv p1), (6, iv (ln p0)), (7, iv x35), (8, iv x36), (9, iv x39), (27, .bool (cmp_Less_int u40 p1))] hF (ocons (obIdxQ (hA3 _ (hS.frz (i := 0) rfl hlow)) (by kernel_rfl) (fun _ => hu40)) (ocons (obElQ (i := x39) 0 fI_len (fun _ hd => (hA3 _ ((hS.later hd).frz (i := 0) rfl hlow))) (by kernel_rfl) (fun _ => hu40) rfl) (ocons (show Ob.ok _ Ext _ _ from fun hk w2 hd => cmp_Less_int_ok u40 p1 _ rfl _ w2 (memOf_at w2) ) onil))) fun a w hF hx => ?_
   replace hS := hS.later hx
   refine wfn rfl ?_
   refine econd hF rfl (fun hc => ?_) (fun hc => ?_)
   ·replace h := bif_t h hc
    refine WI.region ?_
    replace h := bindS h
    obtain ⟨x41, hx41, h⟩ := h
    refine rno 3 [.run [] (binOp .add 3 (iv x39) (iv 1)) (iv x41)] 3 [(0, sv ad1 p0 cap2), (1, iv p1), (6, iv (ln p0)), (7, iv x41), (8, iv x36)] hF (ocons (obAddC (fun _ => hx41)) onil) fun a hF => ?_
    refine WI.fin rfl (norm_block <| norm_then <| ?_)
    rw [hk2] at h
    exact ⟨n_, Nat.lt_succ_self _, x41, x36, hF.sub (by kernel_rfl), St.pick [0] (by decide) hS, h⟩
   ·replace h := bif_f h hc
    refine WI.region ?_
    refine rn 2 2 [(0, sv ad1 p0 cap2), (1, iv p1), (6, iv (ln p0)), (7, iv x35), (8, iv x39)] hF fun a hF => ?_
    refine WI.fin rfl (norm_block <| norm_then <| ?_)
    rw [hk2] at h
    exact ⟨n_, Nat.lt_succ_self _, x35, x39, hF.sub (by kernel_rfl), St.pick [0] (by decide) hS, h⟩
  ·replace h := bif_f h hc
   refine wpIn_exit (exit_then <| exit_then <| exit_hit <| norm_then ?_)
   exact ⟨x35, hF.sub (by kernel_rfl), St.pick [0] (by decide) hS, h⟩
 rintro a w ⟨x21, hF, hS, h⟩
 rw [slices_BinarySearch_int_int_K1] at h
 refine esr ?_
 replace h := bindS h
 obtain ⟨u22, hu22, h⟩ := h
 replace h := bindS h
 obtain ⟨u23, hu23, h⟩ := h
 refine rx 25 [.run [⟨35, true, (decide (x21 < (ln p0)))⟩] (Instr.indexAt 40 (sv ad1 p0 cap2) (iv x21)) (.pointer (some (slAddr ad1 x21 1))), .run [⟨35, true, (decide (x21 < (ln p0)))⟩] (Instr.loadAt 3 (.pointer (some (slAddr ad1 x21 1)))) (iv u22), .run [⟨42, false, (u22 == p1)⟩, ⟨35, true, (decide (x21 < (ln p0)))⟩] (Instr.indexAt 40 (sv ad1 p0 cap2) (iv x21)) (.pointer (some (slAddr ad1 x21 1))), .run [⟨42, false, (u22 == p1)⟩, ⟨35, true, (decide (x21 < (ln p0)))⟩] (Instr.loadAt 3 (.pointer (some (slAddr ad1 x21 1)))) (iv u23), .call [⟨42, false, (u22 == p1)⟩, ⟨35, true, (decide (x21 < (ln p0)))⟩] 81 #[iv u23] (.bool (slices_isNaN_int u23)), .call [⟨48, true, (slices_isNaN_int u23)⟩, ⟨42, false, (u22 == p1)⟩, ⟨35, true, (decide (x21 < (ln p0)))⟩] 81 #[iv p1] (.bool (slices_isNaN_int p1))] 25 [(4, iv x21), (5, .bool (bif (decide (x21 < (ln p0))) then (bif (u22 == p1) then true else (bif (slices_isNaN_int u23) then (slices_isNaN_int p1) else false)) else false))] hF (ocons (obIdxQ (hA3 _ (hS.frz (i := 0) rfl hlow)) (by kernel_rfl) (fun hk => gd_some hu22 hk)) (ocons (obElQ (i := x21) 0 fI_len (fun _ hd => (hA3 _ ((hS.later hd).frz (i := 0) rfl hlow))) (by kernel_rfl) (fun hk => gd_some hu22 hk) rfl) (ocons (obIdxQ (hA3 _ (hS.frz (i := 0) rfl hlow)) (by kernel_rfl) (fun hk => gd_some hu23 hk)) (ocons (obElQ (i := x21) 0 fI_len (fun _ hd => (hA3 _ ((hS.later hd).frz (i := 0) rfl hlow))) (by kernel_rfl) (fun hk => gd_some hu23 hk) rfl) (ocons (show Ob.ok _ Ext _ _ from fun hk w2 hd => slices_isNaN_int_ok u23 _ rfl _ w2 (memOf_at w2) ) (ocons (show Ob.ok _ Ext _ _ from fun hk w2 hd => slices_isNaN_int_ok p1 _ rfl _ w2 (memOf_at w2) ) onil)))))) fun a w hF hx => ?_
 replace hS := hS.later hx
 refine wfn rfl ?_
 refine wpIn_ret (fn_ret [.tmp 4, .tmp 5] [iv x21, .bool (bif (decide (x21 < (ln p0))) then (bif (u22 == p1) then true else (bif (slices_isNaN_int u23) then (slices_isNaN_int p1) else false)) else false)] hF rfl ⟨rfl, rfl, trivial⟩ ?_)
 have hr_ := Option.some.inj h
 subst hr_
 exact ⟨rfl, hS.ext⟩

theorem slices_Backward_int_int_ok (p0 : (List Int)) (res : Unit) (h : slices_Backward_int_int p0 = res) (μ : Frz) (w0 : World) (hm : FrzAt μ w0) {ad1 : Option Addr} {cap2 : Nat} (hA3 : ArrM μ 1 fI ad1 cap2 p0) : Calls Try.prog 94 #[sv ad1 p0 cap2] w0 (fun e w => ∃ zb0, e = .returned (.func (.func 95) #[] #[pb zb0]) ∧ St w0 [blk zb0 40 #[sv ad1 p0 cap2]] w) := by
 obtain ⟨hlow, hS⟩ := hm.init
 have hext := Frz.ext_refl w0.heap.size μ
 rw [slices_Backward_int_int] at h
 refine fn_enterW Try.func94 rfl 4 [(0, sv ad1 p0 cap2)] rfl rfl (by kernel_rfl) fun a w hw hF => ?_
 replace hS : St w0 [fz w0 μ] w := by rw [hw]; exact hS
 clear hw
 refine esr ?_
 refine SK.wi (boxK (t := 40) (fun b4 => [(1, pb b4)]) (sv ad1 p0 cap2) #[sv ad1 p0 cap2] hF hS (by kernel_rfl) ⟨by kernel_rfl⟩ (by kernel_rfl) (fun _ => ⟨by kernel_rfl⟩) fun b4 w a hF hS => ?_)
 refine rn 1 2 [(1, pb b4)] hF fun a hF => ?_
 refine wfn rfl ?_
 refine esr ?_
 refine rn 2 2 [(2, .func (.func 95) #[] #[pb b4])] hF fun a hF => ?_
 refine wfn rfl ?_
 refine wpIn_ret (fn_ret [.tmp 2] [.func (.func 95) #[] #[pb b4]] hF rfl ⟨rfl, trivial⟩ ?_)
 subst h
 exact ⟨b4, rfl, St.pick [0] (by decide) hS⟩
end Go.Proofs.Ytejffembnkojjaa
