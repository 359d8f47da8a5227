/- Walks, written by program (wip/gen/dec.py). -/
import Derived.Test.YtejffembnkojjaaC10XD
import Derived.Test.YtejffembnkojjaaProg
import Derived.Test.YtejffembnkojjaaC10XW0
namespace Go.Proofs.Ytejffembnkojjaa
open Go Go.RowKit Go.Eng
set_option maxRecDepth 10000
set_option maxHeartbeats 4000000
set_option linter.unusedVariables false
set_option linter.unusedSimpArgs false
theorem pulse_CheckTrain_ok (F : Nat) (p0 : pulse_Train) (res : Int) (h : pulse_CheckTrain F p0 = some res) (μ : Frz) (w0 : World) (hm : FrzAt μ w0) : Calls Try.prog 51 #[p0.ag] w0 (fun e w => e = .returned (iv res) ∧ Ext w0 w) := by
 obtain ⟨hlow, hS⟩ := hm.init
 have hext := Frz.ext_refl w0.heap.size μ
 rw [pulse_CheckTrain] at h
 refine fn_enterW Try.func51 rfl 57 [(0, p0.ag)] rfl rfl (by kernel_rfl) fun a w hw hF => ?_
 replace hS : St w0 [fz w0 μ] w := by rw [hw]; exact hS
 clear hw
 refine esr ?_
 refine SK.wi (boxK (t := 32) (fun b1 => [(1, pb b1)]) (p0.ag) p0.ar hF hS (by kernel_rfl) ⟨by kernel_rfl⟩ (by kernel_rfl) (fun _ => ⟨by kernel_rfl⟩) fun b1 w a hF hS => ?_)
 refine rn 1 2 [(1, pb b1)] hF fun a hF => ?_
 refine wfn rfl ?_
 refine esr ?_
 refine rn 2 2 [(1, pb b1), (4, .bool true)] hF fun a hF => ?_
 refine wfn rfl ?_
 refine ecut (fun a w => ∃ (x3 : Int) (c4 : Bool), Fr 57 [] [(1, pb b1), (3, iv x3), (4, .bool c4)] a ∧ St w0 [blk b1 32 p0.ar, fz w0 μ] w ∧ pulse_CheckTrain_K1 p0 x3 c4 = some res) ?_ ?_
 ·skip
  refine esr ?_
  refine rno 2 [.run [] (Instr.loadAt 3 (.pointer (some ⟨b1, 1, none⟩))) (iv p0.Kind)] 2 [(1, pb b1), (4, .bool true), (6, iv p0.Kind)] hF (ocons (ob1 (by kernel_rfl) (fun _ hd => (hS.at_ hd).cell (i := 0) (j := 1) rfl rfl)) onil) fun a hF => ?_
  refine wfn rfl ?_
  refine wpIn_block ?_
  refine esr ?_
  refine rn 2 2 [(1, pb b1), (4, .bool true), (6, iv p0.Kind), (7, .bool (p0.Kind == 1))] hF fun a hF => ?_
  refine wfn rfl ?_
  refine econd hF rfl (fun hc => ?_) (fun hc => ?_)
  ·replace h := bif_t h hc
   refine runD (obs := [.run [] (Instr.loadAt 3 (.pointer (some ⟨b1, 3, none⟩))) (iv p0.Second)]) 5 [(1, pb b1), (3, iv 2), (4, .bool (p0.Second == 0))] (by kernel_rfl) hF (by kernel_rfl) (ocons (ob1 (by kernel_rfl) (fun _ hd => (hS.later hd).cell (i := 0) (j := 3) rfl rfl)) onil) ⟨by kernel_rfl⟩ fun a w hF hx => ?_
   replace hS := hS.later hx
   refine WI.fin rfl (norm_block <| norm_then <| ?_)
   exact ⟨2, p0.Second == 0, hF.sub (by kernel_rfl), St.pick [0, 1] (by decide) hS, h⟩
  ·replace h := bif_f h hc
   refine esr ?_
   refine rn 2 2 [(1, pb b1), (4, .bool true), (6, iv p0.Kind), (12, .bool (p0.Kind == 2))] hF fun a hF => ?_
   refine wfn rfl ?_
   refine econd hF rfl (fun hc => ?_) (fun hc => ?_)
   ·replace h := bif_t h hc
    replace h := bindS h
    obtain ⟨x8, hx8, h⟩ := h
    refine runD (obs := [.run [] (Instr.loadAt 3 (.pointer (some ⟨b1, 4, none⟩))) (iv p0.Count), .run [] (binOp .rem 3 (iv p0.Count) (iv 2)) (iv x8)]) 6 [(1, pb b1), (3, iv 4), (4, .bool (x8 == 0))] (by kernel_rfl) hF (by kernel_rfl) (ocons (ob1 (by kernel_rfl) (fun _ hd => (hS.later hd).cell (i := 0) (j := 4) rfl rfl)) (ocons (obRemC (fun _ => hx8)) onil)) ⟨by kernel_rfl⟩ fun a w hF hx => ?_
    replace hS := hS.later hx
    refine WI.fin rfl (norm_block <| norm_then <| ?_)
    exact ⟨4, x8 == 0, hF.sub (by kernel_rfl), St.pick [0, 1] (by decide) hS, h⟩
   ·replace h := bif_f h hc
    refine esr ?_
    refine rn 2 2 [(1, pb b1), (4, .bool true), (18, .bool (p0.Kind == 3))] hF fun a hF => ?_
    refine wfn rfl ?_
    refine econd hF rfl (fun hc => ?_) (fun hc => ?_)
    ·replace h := bif_t h hc
     refine WI.region ?_
     refine rn 1 1 [(1, pb b1), (3, iv 3), (4, .bool true)] hF fun a hF => ?_
     refine WI.fin rfl (norm_block <| norm_then <| ?_)
     exact ⟨3, true, hF.sub (by kernel_rfl), St.pick [0, 1] (by decide) hS, h⟩
    ·replace h := bif_f h hc
     refine esr ?_
     refine rn 1 1 [(2, iv 2)] hF fun a hF => ?_
     refine wfn rfl ?_
     refine wpIn_ret (ret_block <| ret_then <| fn_ret [.tmp 2] [iv 2] hF rfl ⟨rfl, trivial⟩ ?_)
     have hr_ := Option.some.inj h
     subst hr_
     exact ⟨rfl, hS.ext⟩
 rintro a w ⟨x3, c4, hF, hS, h⟩
 rw [pulse_CheckTrain_K1] at h
 refine ecut (fun a w => ∃ (c5 : Bool), Fr 57 [] [(1, pb b1), (3, iv x3), (4, .bool c5)] a ∧ St w0 [blk b1 32 p0.ar, fz w0 μ] w ∧ pulse_CheckTrain_K2 p0 x3 c5 = some res) ?_ ?_
 ·skip
  refine esr ?_
  refine rno 3 [.run [] (Instr.loadAt 3 (.pointer (some ⟨b1, 1, none⟩))) (iv p0.Kind)] 3 [(1, pb b1), (3, iv x3), (4, .bool c4), (22, .bool (p0.Kind != 1))] hF (ocons (ob1 (by kernel_rfl) (fun _ hd => (hS.at_ hd).cell (i := 0) (j := 1) rfl rfl)) onil) fun a hF => ?_
  refine wfn rfl ?_
  refine econd hF rfl (fun hc => ?_) (fun hc => ?_)
  ·replace h := bif_t h hc
   refine WI.region ?_
   refine rx 14 [.run [⟨24, true, c4⟩] (Instr.loadAt 3 (.pointer (some ⟨b1, 3, none⟩))) (iv p0.Second), .call [⟨24, true, c4⟩] 78 #[iv p0.Second, iv 200, iv 5000] (.bool (pulse_within p0.Second 200 5000)), .run [⟨29, true, (bif c4 then (pulse_within p0.Second 200 5000) else false)⟩] (Instr.loadAt 3 (.pointer (some ⟨b1, 2, none⟩))) (iv p0.First), .run [⟨29, true, (bif c4 then (pulse_within p0.Second 200 5000) else false)⟩] (Instr.loadAt 3 (.pointer (some ⟨b1, 3, none⟩))) (iv p0.Second)] 14 [(1, pb b1), (3, iv x3), (4, .bool (bif (bif c4 then (pulse_within p0.Second 200 5000) else false) then (decide (p0.First < p0.Second)) else false))] hF (ocons (ob1 (by kernel_rfl) (fun _ hd => (hS.later hd).cell (i := 0) (j := 3) rfl rfl)) (ocons (show Ob.ok _ Ext _ _ from fun hk w2 hd => pulse_within_ok p0.Second 200 5000 _ rfl _ w2 (memOf_at w2) ) (ocons (ob1 (by kernel_rfl) (fun _ hd => (hS.later hd).cell (i := 0) (j := 2) rfl rfl)) (ocons (ob1 (by kernel_rfl) (fun _ hd => (hS.later hd).cell (i := 0) (j := 3) rfl rfl)) onil)))) fun a w hF hx => ?_
   replace hS := hS.later hx
   refine wfn rfl ?_
   exact ⟨bif (bif c4 then (pulse_within p0.Second 200 5000) else false) then (decide (p0.First < p0.Second)) else false, hF.sub (by kernel_rfl), St.pick [0, 1] (by decide) hS, h⟩
  ·replace h := bif_f h hc
   refine wpIn_skip (norm_then ?_)
   exact ⟨c4, hF.sub (by kernel_rfl), St.pick [0, 1] (by decide) hS, h⟩
 rintro a w ⟨c5, hF, hS, h⟩
 rw [pulse_CheckTrain_K2] at h
 refine eseq ?_
 refine esr ?_
 refine rx 21 [.run [⟨38, false, (!c5)⟩] (Instr.loadAt 3 (pb b1)) (iv p0.Lambda), .call [⟨38, false, (!c5)⟩] 78 #[iv p0.Lambda, iv 10000, iv 1000000] (.bool (pulse_within p0.Lambda 10000 1000000)), .run [⟨44, false, (bif (!c5) then true else (!(pulse_within p0.Lambda 10000 1000000)))⟩] (Instr.loadAt 3 (.pointer (some ⟨b1, 2, none⟩))) (iv p0.First), .call [⟨44, false, (bif (!c5) then true else (!(pulse_within p0.Lambda 10000 1000000)))⟩] 78 #[iv p0.First, iv 200, iv 5000] (.bool (pulse_within p0.First 200 5000)), .run [⟨50, false, (bif (bif (!c5) then true else (!(pulse_within p0.Lambda 10000 1000000))) then true else (!(pulse_within p0.First 200 5000)))⟩] (Instr.loadAt 3 (.pointer (some ⟨b1, 4, none⟩))) (iv p0.Count), .call [⟨50, false, (bif (bif (!c5) then true else (!(pulse_within p0.Lambda 10000 1000000))) then true else (!(pulse_within p0.First 200 5000)))⟩] 78 #[iv p0.Count, iv x3, iv 64] (.bool (pulse_within p0.Count x3 64))] 21 [(56, .bool (bif (bif (bif (!c5) then true else (!(pulse_within p0.Lambda 10000 1000000))) then true else (!(pulse_within p0.First 200 5000))) then true else (!(pulse_within p0.Count x3 64))))] hF (ocons (ob1 (by kernel_rfl) (fun _ hd => (hS.later hd).cell (i := 0) (j := 0) rfl rfl)) (ocons (show Ob.ok _ Ext _ _ from fun hk w2 hd => pulse_within_ok p0.Lambda 10000 1000000 _ rfl _ w2 (memOf_at w2) ) (ocons (ob1 (by kernel_rfl) (fun _ hd => (hS.later hd).cell (i := 0) (j := 2) rfl rfl)) (ocons (show Ob.ok _ Ext _ _ from fun hk w2 hd => pulse_within_ok p0.First 200 5000 _ rfl _ w2 (memOf_at w2) ) (ocons (ob1 (by kernel_rfl) (fun _ hd => (hS.later hd).cell (i := 0) (j := 4) rfl rfl)) (ocons (show Ob.ok _ Ext _ _ from fun hk w2 hd => pulse_within_ok p0.Count x3 64 _ rfl _ w2 (memOf_at w2) ) onil)))))) fun a w hF hx => ?_
 replace hS := hS.later hx
 refine wfn rfl ?_
 refine econd hF rfl (fun hc => ?_) (fun hc => ?_)
 ·replace h := bif_t h hc
  refine esr ?_
  refine rn 1 1 [(2, iv 3)] hF fun a hF => ?_
  refine wfn rfl ?_
  refine wpIn_ret (ret_then <| fn_ret [.tmp 2] [iv 3] hF rfl ⟨rfl, trivial⟩ ?_)
  have hr_ := Option.some.inj h
  subst hr_
  exact ⟨rfl, hS.ext⟩
 ·replace h := bif_f h hc
  refine wpIn_skip (norm_then ?_)
  refine esr ?_
  refine rn 1 1 [(2, iv 0)] hF fun a hF => ?_
  refine wfn rfl ?_
  refine wpIn_ret (fn_ret [.tmp 2] [iv 0] hF rfl ⟨rfl, trivial⟩ ?_)
  have hr_ := Option.some.inj h
  subst hr_
  exact ⟨rfl, hS.ext⟩

theorem plan_Radar_time_ok (F : Nat) (p0 : plan_Radar) (p1 : plan_Job) (res : Int) (h : plan_Radar_time F p0 p1 = some res) (μ : Frz) (w0 : World) (hm : FrzAt μ w0) : Calls Try.prog 44 #[p0.ag, p1.ag] w0 (fun e w => e = .returned (iv res) ∧ Ext w0 w) := by
 obtain ⟨hlow, hS⟩ := hm.init
 have hext := Frz.ext_refl w0.heap.size μ
 rw [plan_Radar_time] at h
 refine fn_enterW Try.func44 rfl 37 [(0, p0.ag), (1, p1.ag)] rfl rfl (by kernel_rfl) fun a w hw hF => ?_
 replace hS : St w0 [fz w0 μ] w := by rw [hw]; exact hS
 clear hw
 refine esr ?_
 refine SK.wi (boxK (t := 31) (fun b1 => [(1, p1.ag), (2, pb b1)]) (p0.ag) p0.ar hF hS (by kernel_rfl) ⟨by kernel_rfl⟩ (by kernel_rfl) (fun _ => ⟨by kernel_rfl⟩) fun b1 w a hF hS => ?_)
 refine SK.wi (boxK (t := 34) (fun b2 => [(2, pb b1), (3, pb b2)]) (p1.ag) p1.ar hF hS (by kernel_rfl) ⟨by kernel_rfl⟩ (by kernel_rfl) (fun _ => ⟨by kernel_rfl⟩) fun b2 w a hF hS => ?_)
 refine rn 1 3 [(2, pb b1), (3, pb b2)] hF fun a hF => ?_
 refine wfn rfl ?_
 refine esr ?_
 refine rno 2 [.run [] (Instr.loadAt 32 (.pointer (some ⟨b2, 1, none⟩))) (p1.Train.ag)] 2 [(2, pb b1), (3, pb b2), (9, p1.Train.ag)] hF (ocons (obN (us := p1.Train.cells) (by kernel_rfl) (fun _ hd => ((hS.at_ hd).blk (i := 0) rfl).cells rfl)) onil) fun a hF => ?_
 refine SK.wi (allocK (t := 32) (fun b3 => [(2, pb b1), (3, pb b2), (5, pb b3), (9, p1.Train.ag)]) #[iv 0, iv 0, iv 0, iv 0, iv 0] hF hS (by kernel_rfl) ⟨by kernel_rfl⟩ (by kernel_rfl) (fun _ => ⟨by kernel_rfl⟩) fun b3 w a hF hS => ?_)
 refine SK.wi (storeK (t := 32) [(2, pb b1), (3, pb b2), (5, pb b3)] 0 0 (p1.Train.ag) p1.Train.ar hF hS rfl (by kernel_rfl) ⟨by kernel_rfl⟩ (by kernel_rfl) (by kernel_rfl) (by kernel_rfl) (by kernel_rfl) ⟨by kernel_rfl⟩ fun w a hF hS => ?_)
 refine wfn rfl ?_
 refine esr ?_
 refine rn 4 4 [(2, pb b1), (3, pb b2), (5, pb b3), (13, .agg #[.nilFunc, .func (.func 71) #[] #[pb b3], .func (.func 72) #[] #[pb b3], .func (.func 73) #[] #[pb b3]])] hF fun a hF => ?_
 refine SK.wi (allocK (t := 134) (fun b4 => [(2, pb b1), (3, pb b2), (5, pb b3), (6, pb b4), (13, .agg #[.nilFunc, .func (.func 71) #[] #[pb b3], .func (.func 72) #[] #[pb b3], .func (.func 73) #[] #[pb b3]])]) #[.nilFunc, .nilFunc, .nilFunc, .nilFunc] hF hS (by kernel_rfl) ⟨by kernel_rfl⟩ (by kernel_rfl) (fun _ => ⟨by kernel_rfl⟩) fun b4 w a hF hS => ?_)
 refine SK.wi (storeK (t := 134) [(2, pb b1), (3, pb b2), (5, pb b3), (6, pb b4)] 0 0 (.agg #[.nilFunc, .func (.func 71) #[] #[pb b3], .func (.func 72) #[] #[pb b3], .func (.func 73) #[] #[pb b3]]) #[.nilFunc, .func (.func 71) #[] #[pb b3], .func (.func 72) #[] #[pb b3], .func (.func 73) #[] #[pb b3]] hF hS rfl (by kernel_rfl) ⟨by kernel_rfl⟩ (by kernel_rfl) (by kernel_rfl) (by kernel_rfl) (by kernel_rfl) ⟨by kernel_rfl⟩ fun w a hF hS => ?_)
 refine wfn rfl ?_
 refine eseq ?_
 rcases Bool.eq_false_or_eq_true ((p1.Train.Kind == 0)) with hg5 | hg5
 ·replace h := bif_t h hg5
  cases h
 ·replace h := bif_f h hg5
  rcases Bool.eq_false_or_eq_true ((p1.Train.Kind == 1)) with hg6 | hg6
  ·replace h := bif_t h hg6
   replace h := bindS h
   obtain ⟨x7, hx7, h⟩ := h
   replace h := bindS h
   obtain ⟨x8, hx8, h⟩ := h
   replace h := bindS h
   obtain ⟨y10, hy10, h⟩ := h
   replace h := bindS h
   obtain ⟨y12, hy12, h⟩ := h
   refine region_treeW 16 [4, 13] _ (D := fun w => St w0 [blk b4 134 #[.nilFunc, .func (.func 71) #[] #[pb b3], .func (.func 72) #[] #[pb b3], .func (.func 73) #[] #[pb b3]], blk b3 32 p1.Train.ar, blk b2 34 p1.ar, blk b1 31 p0.ar] w ∧ FrzAt μ w) (by kernel_rfl) (by kernel_rfl) hF.size (fun w hx => ?_) (fun _ _ h => h)
   replace hS := hS.later hx
   refine ⟨⟨St.pick [0, 1, 2, 3] (by decide) hS, hS.frz (i := 4) rfl hlow⟩, ?_⟩
   have hcl15 := Frz.le_refl μ
   refine WT.s [0, 1, 2, 3, 5, 6, 7, 8, 9, 10, 11, 12] [4] (by kernel_rfl) (by kernel_rfl) ?_
   refine runC (rest := []) (obs := [.run [] (Instr.loadAt 3 (.pointer (some ⟨b3, 1, none⟩))) (iv p1.Train.Kind), .run [] (Instr.indexAt 134 (pb b4) (iv p1.Train.Kind)) (.pointer (some ⟨b4, 1, none⟩)), .run [] (Instr.loadAt 108 (.pointer (some ⟨b4, 1, none⟩))) (.func (.func 71) #[] #[pb b3]), .run [] (Instr.loadAt 3 (.pointer (some ⟨b3, 4, none⟩))) (iv p1.Train.Count), .run [] (binOp .mul 3 (iv 100) (iv p1.Train.Count)) (iv x7), .run [] (Instr.loadAt 3 (.pointer (some ⟨b2, 6, none⟩))) (iv p1.Width), .run [] (binOp .mul 3 (iv x7) (iv p1.Width)) (iv x8), .run [] (Instr.loadAt 3 (.pointer (some ⟨b1, 3, none⟩))) (iv p0.Duty)]) [0, 1, 2, 3, 5, 6, 7, 8, 9, 10, 11, 12] [(2, pb b1), (17, .func (.func 71) #[] #[pb b3]), (24, iv x8), (26, iv p0.Duty)] hF (by kernel_rfl) (by kernel_rfl) (ocons (ob1 (by kernel_rfl) (fun _ hd => hd.1.cell (i := 1) (j := 1) rfl rfl)) (ocons (by rw [show p1.Train.Kind = (1 : Int) from eq_of_beq hg6]; exact obPureSem (by kernel_rfl)) (ocons (ob1 (by kernel_rfl) (fun _ hd => hd.1.cell (i := 0) (j := 1) rfl rfl)) (ocons (ob1 (by kernel_rfl) (fun _ hd => hd.1.cell (i := 1) (j := 4) rfl rfl)) (ocons (obMulC (fun _ => hx7)) (ocons (ob1 (by kernel_rfl) (fun _ hd => hd.1.cell (i := 2) (j := 6) rfl rfl)) (ocons (obMulC (fun _ => hx8)) (ocons (ob1 (by kernel_rfl) (fun _ hd => hd.1.cell (i := 3) (j := 3) rfl rfl)) onil)))))))) ⟨by kernel_rfl⟩ fun a hF => ?_
   refine WRun.fin ?_
   refine all_cons ?_ (all_nil)
   refine callK (f := 71) (args := #[pb b3]) (R := fun v w2 => v = iv y10 ∧ Ext w w2) (fun v16 => [(2, pb b1), (18, v16), (24, iv x8), (26, iv p0.Duty)]) hF (by kernel_rfl) ⟨by kernel_rfl⟩ (Calls.mono (plan_Radar_time_1_ok F p1.Train _ hy10 (memOf w) w (memOf_at w) (Blk.toM (hS.blk (i := 1) rfl))) (fun e w2 h => ⟨_, h.1, rfl, h.2⟩)) (fun _ => ⟨by kernel_rfl⟩) ?_
   rintro v16 w a ⟨rfl, hx⟩ hF
   replace hS := hS.later hx
   refine ⟨⟨St.pick [0, 1, 2, 3] (by decide) hS, (hS.frz (i := 4) rfl hlow)⟩, ?_⟩
   refine WT.s [] [13] (by kernel_rfl) (by kernel_rfl) ?_
   refine WRun.fin ?_
   refine all_cons ?_ (all_nil)
   refine callK (f := 74) (args := #[iv x8, iv p0.Duty]) (R := fun v w2 => v = iv y12 ∧ Ext w w2) (fun v17 => [(2, pb b1), (18, iv y10), (27, v17)]) hF (by kernel_rfl) ⟨by kernel_rfl⟩ (Calls.mono (plan_up_ok F x8 p0.Duty _ hy12 (memOf w) w (memOf_at w) ) (fun e w2 h => ⟨_, h.1, rfl, h.2⟩)) (fun _ => ⟨by kernel_rfl⟩) ?_
   rintro v17 w a ⟨rfl, hx⟩ hF
   replace hS := hS.later hx
   refine ⟨⟨St.pick [0, 1, 2, 3] (by decide) hS, (hS.frz (i := 4) rfl hlow)⟩, ?_⟩
   refine WT.z [14, 15] (by kernel_rfl) ?_
   refine runC (rest := []) (obs := []) [14, 15] [(2, pb b1), (7, iv (if y12 > y10 then y12 else y10))] hF (by kernel_rfl) (by kernel_rfl) onil ⟨by kernel_rfl⟩ fun a hF => ?_
   refine WRun.fin ?_
   refine wfn rfl ?_
   refine eseq ?_
   replace h := bindS h
   obtain ⟨x18, hx18, h⟩ := h
   replace h := bindS h
   obtain ⟨y19, hy19, h⟩ := h
   refine runD (obs := [.run [] (Instr.loadAt 3 (.pointer (some ⟨b1, 1, none⟩))) (iv p0.Turn), .run [] (Instr.loadAt 3 (pb b1)) (iv p0.Rays), .run [] (binOp .mul 3 (iv p0.Rays) (iv (if y12 > y10 then y12 else y10))) (iv x18), .call [] 74 #[iv x18, iv 1000] (iv y19)]) 9 [(4, iv (if y19 > p0.Turn then y19 else p0.Turn))] (by kernel_rfl) hF (by kernel_rfl) (ocons (ob1 (by kernel_rfl) (fun _ hd => (hS.later hd).cell (i := 3) (j := 1) rfl rfl)) (ocons (ob1 (by kernel_rfl) (fun _ hd => (hS.later hd).cell (i := 3) (j := 0) rfl rfl)) (ocons (obMulC (fun _ => hx18)) (ocons (show Ob.ok _ Ext _ _ from fun hk w2 hd => plan_up_ok F x18 1000 _ ((fun _ => hy19) hk) _ w2 (memOf_at w2) ) onil)))) ⟨by kernel_rfl⟩ fun a w hF hx => ?_
   replace hS := hS.later hx
   refine wfn rfl ?_
   refine wpIn_ret (fn_ret [.tmp 4] [iv (if y19 > p0.Turn then y19 else p0.Turn)] hF rfl ⟨rfl, trivial⟩ ?_)
   have hr_ := Option.some.inj h
   subst hr_
   exact ⟨rfl, hS.ext⟩
  ·replace h := bif_f h hg6
   rcases Bool.eq_false_or_eq_true ((p1.Train.Kind == 2)) with hg20 | hg20
   ·replace h := bif_t h hg20
    replace h := bindS h
    obtain ⟨x21, hx21, h⟩ := h
    replace h := bindS h
    obtain ⟨x22, hx22, h⟩ := h
    replace h := bindS h
    obtain ⟨y24, hy24, h⟩ := h
    replace h := bindS h
    obtain ⟨y26, hy26, h⟩ := h
    refine region_treeW 16 [4, 13] _ (D := fun w => St w0 [blk b4 134 #[.nilFunc, .func (.func 71) #[] #[pb b3], .func (.func 72) #[] #[pb b3], .func (.func 73) #[] #[pb b3]], blk b3 32 p1.Train.ar, blk b2 34 p1.ar, blk b1 31 p0.ar] w ∧ FrzAt μ w) (by kernel_rfl) (by kernel_rfl) hF.size (fun w hx => ?_) (fun _ _ h => h)
    replace hS := hS.later hx
    refine ⟨⟨St.pick [0, 1, 2, 3] (by decide) hS, hS.frz (i := 4) rfl hlow⟩, ?_⟩
    have hcl29 := Frz.le_refl μ
    refine WT.s [0, 1, 2, 3, 5, 6, 7, 8, 9, 10, 11, 12] [4] (by kernel_rfl) (by kernel_rfl) ?_
    refine runC (rest := []) (obs := [.run [] (Instr.loadAt 3 (.pointer (some ⟨b3, 1, none⟩))) (iv p1.Train.Kind), .run [] (Instr.indexAt 134 (pb b4) (iv p1.Train.Kind)) (.pointer (some ⟨b4, 2, none⟩)), .run [] (Instr.loadAt 108 (.pointer (some ⟨b4, 2, none⟩))) (.func (.func 72) #[] #[pb b3]), .run [] (Instr.loadAt 3 (.pointer (some ⟨b3, 4, none⟩))) (iv p1.Train.Count), .run [] (binOp .mul 3 (iv 100) (iv p1.Train.Count)) (iv x21), .run [] (Instr.loadAt 3 (.pointer (some ⟨b2, 6, none⟩))) (iv p1.Width), .run [] (binOp .mul 3 (iv x21) (iv p1.Width)) (iv x22), .run [] (Instr.loadAt 3 (.pointer (some ⟨b1, 3, none⟩))) (iv p0.Duty)]) [0, 1, 2, 3, 5, 6, 7, 8, 9, 10, 11, 12] [(2, pb b1), (17, .func (.func 72) #[] #[pb b3]), (24, iv x22), (26, iv p0.Duty)] hF (by kernel_rfl) (by kernel_rfl) (ocons (ob1 (by kernel_rfl) (fun _ hd => hd.1.cell (i := 1) (j := 1) rfl rfl)) (ocons (by rw [show p1.Train.Kind = (2 : Int) from eq_of_beq hg20]; exact obPureSem (by kernel_rfl)) (ocons (ob1 (by kernel_rfl) (fun _ hd => hd.1.cell (i := 0) (j := 2) rfl rfl)) (ocons (ob1 (by kernel_rfl) (fun _ hd => hd.1.cell (i := 1) (j := 4) rfl rfl)) (ocons (obMulC (fun _ => hx21)) (ocons (ob1 (by kernel_rfl) (fun _ hd => hd.1.cell (i := 2) (j := 6) rfl rfl)) (ocons (obMulC (fun _ => hx22)) (ocons (ob1 (by kernel_rfl) (fun _ hd => hd.1.cell (i := 3) (j := 3) rfl rfl)) onil)))))))) ⟨by kernel_rfl⟩ fun a hF => ?_
    refine WRun.fin ?_
    refine all_cons ?_ (all_nil)
    refine callK (f := 72) (args := #[pb b3]) (R := fun v w2 => v = iv y24 ∧ Ext w w2) (fun v30 => [(2, pb b1), (18, v30), (24, iv x22), (26, iv p0.Duty)]) hF (by kernel_rfl) ⟨by kernel_rfl⟩ (Calls.mono (plan_Radar_time_2_ok F p1.Train _ hy24 (memOf w) w (memOf_at w) (Blk.toM (hS.blk (i := 1) rfl))) (fun e w2 h => ⟨_, h.1, rfl, h.2⟩)) (fun _ => ⟨by kernel_rfl⟩) ?_
    rintro v30 w a ⟨rfl, hx⟩ hF
    replace hS := hS.later hx
    refine ⟨⟨St.pick [0, 1, 2, 3] (by decide) hS, (hS.frz (i := 4) rfl hlow)⟩, ?_⟩
    refine WT.s [] [13] (by kernel_rfl) (by kernel_rfl) ?_
    refine WRun.fin ?_
    refine all_cons ?_ (all_nil)
    refine callK (f := 74) (args := #[iv x22, iv p0.Duty]) (R := fun v w2 => v = iv y26 ∧ Ext w w2) (fun v31 => [(2, pb b1), (18, iv y24), (27, v31)]) hF (by kernel_rfl) ⟨by kernel_rfl⟩ (Calls.mono (plan_up_ok F x22 p0.Duty _ hy26 (memOf w) w (memOf_at w) ) (fun e w2 h => ⟨_, h.1, rfl, h.2⟩)) (fun _ => ⟨by kernel_rfl⟩) ?_
    rintro v31 w a ⟨rfl, hx⟩ hF
    replace hS := hS.later hx
    refine ⟨⟨St.pick [0, 1, 2, 3] (by decide) hS, (hS.frz (i := 4) rfl hlow)⟩, ?_⟩
    refine WT.z [14, 15] (by kernel_rfl) ?_
    refine runC (rest := []) (obs := []) [14, 15] [(2, pb b1), (7, iv (if y26 > y24 then y26 else y24))] hF (by kernel_rfl) (by kernel_rfl) onil ⟨by kernel_rfl⟩ fun a hF => ?_
    refine WRun.fin ?_
    refine wfn rfl ?_
    refine eseq ?_
    replace h := bindS h
    obtain ⟨x32, hx32, h⟩ := h
    replace h := bindS h
    obtain ⟨y33, hy33, h⟩ := h
    refine runD (obs := [.run [] (Instr.loadAt 3 (.pointer (some ⟨b1, 1, none⟩))) (iv p0.Turn), .run [] (Instr.loadAt 3 (pb b1)) (iv p0.Rays), .run [] (binOp .mul 3 (iv p0.Rays) (iv (if y26 > y24 then y26 else y24))) (iv x32), .call [] 74 #[iv x32, iv 1000] (iv y33)]) 9 [(4, iv (if y33 > p0.Turn then y33 else p0.Turn))] (by kernel_rfl) hF (by kernel_rfl) (ocons (ob1 (by kernel_rfl) (fun _ hd => (hS.later hd).cell (i := 3) (j := 1) rfl rfl)) (ocons (ob1 (by kernel_rfl) (fun _ hd => (hS.later hd).cell (i := 3) (j := 0) rfl rfl)) (ocons (obMulC (fun _ => hx32)) (ocons (show Ob.ok _ Ext _ _ from fun hk w2 hd => plan_up_ok F x32 1000 _ ((fun _ => hy33) hk) _ w2 (memOf_at w2) ) onil)))) ⟨by kernel_rfl⟩ fun a w hF hx => ?_
    replace hS := hS.later hx
    refine wfn rfl ?_
    refine wpIn_ret (fn_ret [.tmp 4] [iv (if y33 > p0.Turn then y33 else p0.Turn)] hF rfl ⟨rfl, trivial⟩ ?_)
    have hr_ := Option.some.inj h
    subst hr_
    exact ⟨rfl, hS.ext⟩
   ·replace h := bif_f h hg20
    rcases Bool.eq_false_or_eq_true ((p1.Train.Kind == 3)) with hg34 | hg34
    ·replace h := bif_t h hg34
     replace h := bindS h
     obtain ⟨x35, hx35, h⟩ := h
     replace h := bindS h
     obtain ⟨x36, hx36, h⟩ := h
     replace h := bindS h
     obtain ⟨y38, hy38, h⟩ := h
     replace h := bindS h
     obtain ⟨y40, hy40, h⟩ := h
     refine region_treeW 16 [4, 13] _ (D := fun w => St w0 [blk b4 134 #[.nilFunc, .func (.func 71) #[] #[pb b3], .func (.func 72) #[] #[pb b3], .func (.func 73) #[] #[pb b3]], blk b3 32 p1.Train.ar, blk b2 34 p1.ar, blk b1 31 p0.ar] w ∧ FrzAt μ w) (by kernel_rfl) (by kernel_rfl) hF.size (fun w hx => ?_) (fun _ _ h => h)
     replace hS := hS.later hx
     refine ⟨⟨St.pick [0, 1, 2, 3] (by decide) hS, hS.frz (i := 4) rfl hlow⟩, ?_⟩
     have hcl43 := Frz.le_refl μ
     refine WT.s [0, 1, 2, 3, 5, 6, 7, 8, 9, 10, 11, 12] [4] (by kernel_rfl) (by kernel_rfl) ?_
     refine runC (rest := []) (obs := [.run [] (Instr.loadAt 3 (.pointer (some ⟨b3, 1, none⟩))) (iv p1.Train.Kind), .run [] (Instr.indexAt 134 (pb b4) (iv p1.Train.Kind)) (.pointer (some ⟨b4, 3, none⟩)), .run [] (Instr.loadAt 108 (.pointer (some ⟨b4, 3, none⟩))) (.func (.func 73) #[] #[pb b3]), .run [] (Instr.loadAt 3 (.pointer (some ⟨b3, 4, none⟩))) (iv p1.Train.Count), .run [] (binOp .mul 3 (iv 100) (iv p1.Train.Count)) (iv x35), .run [] (Instr.loadAt 3 (.pointer (some ⟨b2, 6, none⟩))) (iv p1.Width), .run [] (binOp .mul 3 (iv x35) (iv p1.Width)) (iv x36), .run [] (Instr.loadAt 3 (.pointer (some ⟨b1, 3, none⟩))) (iv p0.Duty)]) [0, 1, 2, 3, 5, 6, 7, 8, 9, 10, 11, 12] [(2, pb b1), (17, .func (.func 73) #[] #[pb b3]), (24, iv x36), (26, iv p0.Duty)] hF (by kernel_rfl) (by kernel_rfl) (ocons (ob1 (by kernel_rfl) (fun _ hd => hd.1.cell (i := 1) (j := 1) rfl rfl)) (ocons (by rw [show p1.Train.Kind = (3 : Int) from eq_of_beq hg34]; exact obPureSem (by kernel_rfl)) (ocons (ob1 (by kernel_rfl) (fun _ hd => hd.1.cell (i := 0) (j := 3) rfl rfl)) (ocons (ob1 (by kernel_rfl) (fun _ hd => hd.1.cell (i := 1) (j := 4) rfl rfl)) (ocons (obMulC (fun _ => hx35)) (ocons (ob1 (by kernel_rfl) (fun _ hd => hd.1.cell (i := 2) (j := 6) rfl rfl)) (ocons (obMulC (fun _ => hx36)) (ocons (ob1 (by kernel_rfl) (fun _ hd => hd.1.cell (i := 3) (j := 3) rfl rfl)) onil)))))))) ⟨by kernel_rfl⟩ fun a hF => ?_
     refine WRun.fin ?_
     refine all_cons ?_ (all_nil)
     refine callK (f := 73) (args := #[pb b3]) (R := fun v w2 => v = iv y38 ∧ Ext w w2) (fun v44 => [(2, pb b1), (18, v44), (24, iv x36), (26, iv p0.Duty)]) hF (by kernel_rfl) ⟨by kernel_rfl⟩ (Calls.mono (plan_Radar_time_3_ok F p1.Train _ hy38 (memOf w) w (memOf_at w) (Blk.toM (hS.blk (i := 1) rfl))) (fun e w2 h => ⟨_, h.1, rfl, h.2⟩)) (fun _ => ⟨by kernel_rfl⟩) ?_
     rintro v44 w a ⟨rfl, hx⟩ hF
     replace hS := hS.later hx
     refine ⟨⟨St.pick [0, 1, 2, 3] (by decide) hS, (hS.frz (i := 4) rfl hlow)⟩, ?_⟩
     refine WT.s [] [13] (by kernel_rfl) (by kernel_rfl) ?_
     refine WRun.fin ?_
     refine all_cons ?_ (all_nil)
     refine callK (f := 74) (args := #[iv x36, iv p0.Duty]) (R := fun v w2 => v = iv y40 ∧ Ext w w2) (fun v45 => [(2, pb b1), (18, iv y38), (27, v45)]) hF (by kernel_rfl) ⟨by kernel_rfl⟩ (Calls.mono (plan_up_ok F x36 p0.Duty _ hy40 (memOf w) w (memOf_at w) ) (fun e w2 h => ⟨_, h.1, rfl, h.2⟩)) (fun _ => ⟨by kernel_rfl⟩) ?_
     rintro v45 w a ⟨rfl, hx⟩ hF
     replace hS := hS.later hx
     refine ⟨⟨St.pick [0, 1, 2, 3] (by decide) hS, (hS.frz (i := 4) rfl hlow)⟩, ?_⟩
     refine WT.z [14, 15] (by kernel_rfl) ?_
     refine runC (rest := []) (obs := []) [14, 15] [(2, pb b1), (7, iv (if y40 > y38 then y40 else y38))] hF (by kernel_rfl) (by kernel_rfl) onil ⟨by kernel_rfl⟩ fun a hF => ?_
     refine WRun.fin ?_
     refine wfn rfl ?_
     refine eseq ?_
     replace h := bindS h
     obtain ⟨x46, hx46, h⟩ := h
     replace h := bindS h
     obtain ⟨y47, hy47, h⟩ := h
     refine runD (obs := [.run [] (Instr.loadAt 3 (.pointer (some ⟨b1, 1, none⟩))) (iv p0.Turn), .run [] (Instr.loadAt 3 (pb b1)) (iv p0.Rays), .run [] (binOp .mul 3 (iv p0.Rays) (iv (if y40 > y38 then y40 else y38))) (iv x46), .call [] 74 #[iv x46, iv 1000] (iv y47)]) 9 [(4, iv (if y47 > p0.Turn then y47 else p0.Turn))] (by kernel_rfl) hF (by kernel_rfl) (ocons (ob1 (by kernel_rfl) (fun _ hd => (hS.later hd).cell (i := 3) (j := 1) rfl rfl)) (ocons (ob1 (by kernel_rfl) (fun _ hd => (hS.later hd).cell (i := 3) (j := 0) rfl rfl)) (ocons (obMulC (fun _ => hx46)) (ocons (show Ob.ok _ Ext _ _ from fun hk w2 hd => plan_up_ok F x46 1000 _ ((fun _ => hy47) hk) _ w2 (memOf_at w2) ) onil)))) ⟨by kernel_rfl⟩ fun a w hF hx => ?_
     replace hS := hS.later hx
     refine wfn rfl ?_
     refine wpIn_ret (fn_ret [.tmp 4] [iv (if y47 > p0.Turn then y47 else p0.Turn)] hF rfl ⟨rfl, trivial⟩ ?_)
     have hr_ := Option.some.inj h
     subst hr_
     exact ⟨rfl, hS.ext⟩
    ·replace h := bif_f h hg34
     cases h

theorem plan_line_all_ok (F : Nat) (p0 : plan_line) (res : Int) (h : plan_line_all F p0 = some res) (μ : Frz) (w0 : World) (hm : FrzAt μ w0) {pv1 : Option Addr} {ad2 : Option Addr} {cap3 : Nat} {ad4 : Option Addr} {cap5 : Nat} (hA6 : PtM μ 113 Rp113 pv1 p0.desk) (hA7 : ArrM μ 1 fI ad2 cap3 p0.jobs) (hA8 : ArrM μ 1 fI ad4 cap5 p0.at_) : Calls Try.prog 53 #[.agg #[.pointer pv1, sv ad2 p0.jobs cap3, sv ad4 p0.at_ cap5, iv p0.done]] w0 (fun e w => e = .returned (iv res) ∧ Ext w0 w) := by
 obtain ⟨hlow, hS⟩ := hm.init
 have hext := Frz.ext_refl w0.heap.size μ
 rw [plan_line_all] at h
 refine fn_enterW Try.func53 rfl 9 [(0, .agg #[.pointer pv1, sv ad2 p0.jobs cap3, sv ad4 p0.at_ cap5, iv p0.done])] rfl rfl (by kernel_rfl) fun a w hw hF => ?_
 replace hS : St w0 [fz w0 μ] w := by rw [hw]; exact hS
 clear hw
 refine esr ?_
 refine SK.wi (boxK (t := 102) (fun b9 => [(1, pb b9)]) (.agg #[.pointer pv1, sv ad2 p0.jobs cap3, sv ad4 p0.at_ cap5, iv p0.done]) #[.pointer pv1, sv ad2 p0.jobs cap3, sv ad4 p0.at_ cap5, iv p0.done] hF hS (by kernel_rfl) ⟨by kernel_rfl⟩ (by kernel_rfl) (fun _ => ⟨by kernel_rfl⟩) fun b9 w a hF hS => ?_)
 refine rn 1 2 [(1, pb b9)] hF fun a hF => ?_
 refine wfn rfl ?_
 refine eseq ?_
 replace h := bindS h
 obtain ⟨u10, hu10, h⟩ := h
 replace h := bindS h
 obtain ⟨y11, hy11, h⟩ := h
 refine runD (obs := [.run [] (Instr.loadAt 102 (pb b9)) (.agg #[.pointer pv1, sv ad2 p0.jobs cap3, sv ad4 p0.at_ cap5, iv p0.done]), .run [] (Instr.loadAt 40 (.pointer (some ⟨b9, 1, none⟩))) (sv ad2 p0.jobs cap3), .run [] (Instr.indexAt 40 (sv ad2 p0.jobs cap3) (iv 0)) (.pointer (some (slAddr ad2 0 1))), .run [] (Instr.loadAt 3 (.pointer (some (slAddr ad2 0 1)))) (iv u10), .call [] 79 #[.agg #[.pointer pv1, sv ad2 p0.jobs cap3, sv ad4 p0.at_ cap5, iv p0.done], iv u10] (iv y11)]) 7 [(2, iv y11)] (by kernel_rfl) hF (by kernel_rfl) (ocons (obN (us := [.pointer pv1, sv ad2 p0.jobs cap3, sv ad4 p0.at_ cap5, iv p0.done]) (by kernel_rfl) (fun _ hd => ((hS.later hd).blk (i := 0) rfl).cells rfl)) (ocons (ob1 (by kernel_rfl) (fun _ hd => (hS.later hd).cell (i := 0) (j := 1) rfl rfl)) (ocons (obIdxQ (hA7 _ (hS.frz (i := 1) rfl hlow)) (by kernel_rfl) (fun _ => hu10)) (ocons (obElQ (i := 0) 0 fI_len (fun _ hd => (hA7 _ ((hS.later hd).frz (i := 1) rfl hlow))) (by kernel_rfl) (fun _ => hu10) rfl) (ocons (show Ob.ok _ Ext _ _ from fun hk w2 hd => plan_line_next_ok F p0 u10 _ ((fun _ => hy11) hk) _ w2 (memOf_at w2) (hA6.mono Rp113.mono (FrzAt.le_mem ((hS.later hd).frz (i := 1) rfl hlow))) (hA7.mono (FrzAt.le_mem ((hS.later hd).frz (i := 1) rfl hlow))) (hA8.mono (FrzAt.le_mem ((hS.later hd).frz (i := 1) rfl hlow)))) onil))))) ⟨by kernel_rfl⟩ fun a w hF hx => ?_
 replace hS := hS.later hx
 refine wfn rfl ?_
 refine wpIn_ret (fn_ret [.tmp 2] [iv y11] hF rfl ⟨rfl, trivial⟩ ?_)
 have hr_ := Option.some.inj h
 subst hr_
 exact ⟨rfl, hS.ext⟩

theorem cmp_Less_int_ok (p0 : Int) (p1 : Int) (res : Bool) (h : cmp_Less_int p0 p1 = res) (μ : Frz) (w0 : World) (hm : FrzAt μ w0) : Calls Try.prog 80 #[iv p0, iv p1] w0 (fun e w => e = .returned (.bool res) ∧ Ext w0 w) := by
 obtain ⟨hlow, hS⟩ := hm.init
 have hext := Frz.ext_refl w0.heap.size μ
 rw [cmp_Less_int] at h
 refine fn_enterW Try.func80 rfl 17 [(0, iv p0), (1, iv p1)] rfl rfl (by kernel_rfl) fun a w hw hF => ?_
 replace hS : St w0 [fz w0 μ] w := by rw [hw]; exact hS
 clear hw
 refine esr ?_
 refine rn 1 1 [(0, iv p0), (1, iv p1)] hF fun a hF => ?_
 refine wfn rfl ?_
 refine esr ?_
 refine rx 13 [.call [] 92 #[iv p0] (.bool (cmp_isNaN_int p0)), .call [⟨7, true, (cmp_isNaN_int p0)⟩] 92 #[iv p1] (.bool (cmp_isNaN_int p1))] 13 [(4, .bool (bif (bif (cmp_isNaN_int p0) then (!(cmp_isNaN_int p1)) else false) then true else (decide (p0 < p1))))] hF (ocons (show Ob.ok _ Ext _ _ from fun hk w2 hd => cmp_isNaN_int_ok p0 _ rfl _ w2 (memOf_at w2) ) (ocons (show Ob.ok _ Ext _ _ from fun hk w2 hd => cmp_isNaN_int_ok p1 _ rfl _ w2 (memOf_at w2) ) onil)) fun a w hF hx => ?_
 replace hS := hS.later hx
 refine wfn rfl ?_
 refine wpIn_ret (fn_ret [.tmp 4] [.bool (bif (bif (cmp_isNaN_int p0) then (!(cmp_isNaN_int p1)) else false) then true else (decide (p0 < p1)))] hF rfl ⟨rfl, trivial⟩ ?_)
 subst h
 exact ⟨rfl, hS.ext⟩

theorem law06_Desk_jobs_ok (F : Nat) (p0 : law06_Desk) (res : (List plan_Job)) (h : law06_Desk_jobs F p0 = some res) (μ : Frz) (w0 : World) (hm : FrzAt μ w0) {ad1 : Option Addr} {cap2 : Nat} (hA3 : ArrM μ 6 law06_Wish.cells ad1 cap2 p0.Jobs) : Calls Try.prog 37 #[.agg #[.int .u8 p0.Rays, .int .u8 p0.Turn, .int .u8 p0.Move, .int .u8 p0.Duty, sv ad1 p0.Jobs cap2]] w0 (fun e w => ∃ zad0 zcap0, e = .returned (sv zad0 res zcap0) ∧ St w0 [arr 34 8 plan_Job.cells zad0 res.length zcap0 res] w) := by
 obtain ⟨hlow, hS⟩ := hm.init
 have hext := Frz.ext_refl w0.heap.size μ
 rw [law06_Desk_jobs] at h
 refine fn_enterW Try.func37 rfl 31 [(0, .agg #[.int .u8 p0.Rays, .int .u8 p0.Turn, .int .u8 p0.Move, .int .u8 p0.Duty, sv ad1 p0.Jobs cap2])] rfl rfl (by kernel_rfl) fun a w hw hF => ?_
 replace hS : St w0 [fz w0 μ] w := by rw [hw]; exact hS
 clear hw
 refine esr ?_
 refine SK.wi (boxK (t := 75) (fun b4 => [(1, pb b4)]) (.agg #[.int .u8 p0.Rays, .int .u8 p0.Turn, .int .u8 p0.Move, .int .u8 p0.Duty, sv ad1 p0.Jobs cap2]) #[.int .u8 p0.Rays, .int .u8 p0.Turn, .int .u8 p0.Move, .int .u8 p0.Duty, sv ad1 p0.Jobs cap2] hF hS (by kernel_rfl) ⟨by kernel_rfl⟩ (by kernel_rfl) (fun _ => ⟨by kernel_rfl⟩) fun b4 w a hF hS => ?_)
 refine rn 1 2 [(1, pb b4)] hF fun a hF => ?_
 refine wfn rfl ?_
 refine esr ?_
 refine rn 1 1 [(1, pb b4), (3, .slice none 0 0)] hF fun a hF => ?_
 refine wfn rfl ?_
 refine ecut (fun a w => ∃ (l73 : (List plan_Job)) (ad71 : Option Addr) (cap72 : Nat), Fr 31 [] [(3, sv ad71 l73 cap72)] a ∧ St w0 [arr 34 8 plan_Job.cells ad71 l73.length cap72 l73, blk b4 75 #[.int .u8 p0.Rays, .int .u8 p0.Turn, .int .u8 p0.Move, .int .u8 p0.Duty, sv ad1 p0.Jobs cap2], fz w0 μ] w ∧ law06_Desk_jobs_K1 F l73 = some res) ?_ ?_
 ·skip
  refine esr ?_
  refine rno 4 [.run [] (Instr.loadAt 73 (.pointer (some ⟨b4, 4, none⟩))) (sv ad1 p0.Jobs cap2)] 4 [(3, .slice none 0 0), (7, sv ad1 p0.Jobs cap2), (8, iv (ln p0.Jobs)), (9, iv 0)] hF (ocons (ob1 (by kernel_rfl) (fun _ hd => (hS.at_ hd).cell (i := 0) (j := 4) rfl rfl)) onil) fun a hF => ?_
  refine wfn rfl ?_
  refine wpIn_block ?_
  replace hS := hS.nilarr 34 8 plan_Job.cells
  refine eloop (fun n_ a w => ∃ (l124 : (List plan_Job)) (x125 : Int) (ad122 : Option Addr) (cap123 : Nat), Fr 31 [] [(3, sv ad122 l124 cap123), (7, sv ad1 p0.Jobs cap2), (8, iv (ln p0.Jobs)), (9, iv x125)] a ∧ St w0 [arr 34 8 plan_Job.cells ad122 l124.length cap123 l124, blk b4 75 #[.int .u8 p0.Rays, .int .u8 p0.Turn, .int .u8 p0.Move, .int .u8 p0.Duty, sv ad1 p0.Jobs cap2], fz w0 μ] w ∧ law06_Desk_jobs_L2 F p0 n_ l124 x125 = some res) F ⟨[], 0, none, 0, hF.sub (by kernel_rfl), St.pick [0, 1, 2] (by decide) hS, h⟩ ?_
  rintro n_ a w ⟨l124, x125, ad122, cap123, hF, hS, h⟩
  rcases n_ with _ | n_
  ·cases (show (none : Option (List plan_Job)) = some res from h)
  obtain ⟨k2, hk2⟩ : ∃ k, k = law06_Desk_jobs_L2 F p0 n_ := ⟨_, rfl⟩
  replace h : law06_Desk_jobs_B2 F p0 k2 l124 x125 = some res := by rw [hk2]; exact h
  rw [law06_Desk_jobs_B2] at h
  refine esr ?_
  refine rn 1 1 [(3, sv ad122 l124 cap123), (7, sv ad1 p0.Jobs cap2), (8, iv (ln p0.Jobs)), (9, iv x125), (10, .bool (decide (x125 < (ln p0.Jobs))))] hF fun a hF => ?_
  refine wfn rfl ?_
  refine eseq ?_
  refine econd hF rfl (fun hc => ?_) (fun hc => ?_)
  ·replace h := bif_t h hc
   refine wpIn_skip (norm_then ?_)
   refine ecut (fun a w => ∃ (l136 : (List plan_Job)) (ad134 : Option Addr) (cap135 : Nat), Fr 31 [] [(3, sv ad134 l136 cap135), (7, sv ad1 p0.Jobs cap2), (8, iv (ln p0.Jobs)), (9, iv x125)] a ∧ St w0 [arr 34 8 plan_Job.cells ad134 l136.length cap135 l136, blk b4 75 #[.int .u8 p0.Rays, .int .u8 p0.Turn, .int .u8 p0.Move, .int .u8 p0.Duty, sv ad1 p0.Jobs cap2], fz w0 μ] w ∧ law06_Desk_jobs_K3 x125 k2 l136 = some res) ?_ ?_
   ·skip
    refine wpIn_block ?_
    refine esr ?_
    replace h := bindS h
    obtain ⟨u139, hu139, h⟩ := h
    refine rno 3 [.run [] (Instr.indexAt 73 (sv ad1 p0.Jobs cap2) (iv x125)) (.pointer (some (slAddr ad1 x125 6))), .run [] (Instr.loadAt 90 (.pointer (some (slAddr ad1 x125 6)))) (u139.ag)] 3 [(3, sv ad122 l124 cap123), (7, sv ad1 p0.Jobs cap2), (8, iv (ln p0.Jobs)), (9, iv x125), (11, iv x125), (13, u139.ag)] hF (ocons (obIdxQ (hA3 _ (hS.frz (i := 2) rfl hlow)) (by kernel_rfl) (fun _ => hu139)) (ocons (obElNQ (m := 6) (i := x125) (us := u139.cells) 0 law06_Wish.cells_len (fun _ hd => (hA3 _ ((hS.at_ hd).frz (i := 2) rfl hlow))) (by kernel_rfl) (fun _ => hu139) ⟨rfl, rfl⟩) onil)) fun a hF => ?_
    refine SK.wi (allocK (t := 90) (fun b140 => [(3, sv ad122 l124 cap123), (5, pb b140), (7, sv ad1 p0.Jobs cap2), (8, iv (ln p0.Jobs)), (9, iv x125), (11, iv x125), (13, u139.ag)]) #[.int .u8 0, .int .u8 0, .int .u8 0, .int .u8 0, .int .u8 0, .int .u16 0] hF hS (by kernel_rfl) ⟨by kernel_rfl⟩ (by kernel_rfl) (fun _ => ⟨by kernel_rfl⟩) fun b140 w a hF hS => ?_)
    refine rn 1 5 [(3, sv ad122 l124 cap123), (4, iv x125), (5, pb b140), (7, sv ad1 p0.Jobs cap2), (8, iv (ln p0.Jobs)), (9, iv x125), (13, u139.ag)] hF fun a hF => ?_
    refine SK.wi (storeK (t := 90) [(3, sv ad122 l124 cap123), (4, iv x125), (5, pb b140), (7, sv ad1 p0.Jobs cap2), (8, iv (ln p0.Jobs)), (9, iv x125)] 0 0 (u139.ag) u139.ar hF hS rfl (by kernel_rfl) ⟨by kernel_rfl⟩ (by kernel_rfl) (by kernel_rfl) (by kernel_rfl) (by kernel_rfl) ⟨by kernel_rfl⟩ fun w a hF hS => ?_)
    refine wfn rfl ?_
    refine esr ?_
    refine rn 2 2 [(3, sv ad122 l124 cap123), (5, pb b140), (7, sv ad1 p0.Jobs cap2), (8, iv (ln p0.Jobs)), (9, iv x125), (15, .bool (decide (x125 < 4)))] hF fun a hF => ?_
    refine wfn rfl ?_
    refine econd hF rfl (fun hc => ?_) (fun hc => ?_)
    ·replace h := bif_t h hc
     refine WI.region ?_
     replace h := bindS h
     obtain ⟨y141, hy141, h⟩ := h
     refine rx 3 [.run [] (Instr.loadAt 90 (pb b140)) (u139.ag), .call [] 42 #[u139.ag] (y141.ag)] 3 [(3, sv ad122 l124 cap123), (7, sv ad1 p0.Jobs cap2), (8, iv (ln p0.Jobs)), (9, iv x125), (16, sv ad122 l124 cap123), (18, y141.ag)] hF (ocons (obN (us := u139.cells) (by kernel_rfl) (fun _ hd => ((hS.later hd).blk (i := 0) rfl).cells rfl)) (ocons (show Ob.ok _ Ext _ _ from fun hk w2 hd => law06_Wish_job_ok F u139 _ ((fun _ => hy141) hk) _ w2 (memOf_at w2) ) onil)) fun a w hF hx => ?_
     replace hS := hS.later hx
     refine SK.wi (litK (e := 34) (sz := 8) (f := plan_Job.cells) (t := 43) (len := 1) (fun b142 => [(3, sv ad122 l124 cap123), (7, sv ad1 p0.Jobs cap2), (8, iv (ln p0.Jobs)), (9, iv x125), (16, sv ad122 l124 cap123), (19, sb b142 1)]) #[(0, y141.ag)] y141.ar ([y141]) hF hS (by kernel_rfl) ⟨by kernel_rfl⟩ (by kernel_rfl) plan_Job.cells_len rfl rfl (by kernel_rfl) (fun _ => ⟨by kernel_rfl⟩) fun b142 w a hF hS => ?_)
     replace h := bindS h
     obtain ⟨l143, hl143, h⟩ := h
     refine SK.wi (appK (t := 43) (ty := 43) (bytes := 64) (l := l124) (l' := ([y141])) (fun ad144 cap145 => [(3, sv ad122 l124 cap123), (7, sv ad1 p0.Jobs cap2), (8, iv (ln p0.Jobs)), (9, iv x125), (20, sv ad144 l143 cap145)]) 2 hF hS rfl (by kernel_rfl) ⟨by kernel_rfl⟩ (by kernel_rfl) (hS.arr (i := 0) rfl) (fun _ _ => rfl) hl143 (fun _ _ => ⟨by kernel_rfl⟩) fun ad144 cap145 w a hF hS => ?_)
     refine rn 1 6 [(3, sv ad144 l143 cap145), (7, sv ad1 p0.Jobs cap2), (8, iv (ln p0.Jobs)), (9, iv x125)] hF fun a hF => ?_
     refine WI.fin rfl (norm_block <| norm_then <| ?_)
     exact ⟨l143, ad144, cap145, hF.sub (by kernel_rfl), St.pick [2, 3, 4] (by decide) hS, h⟩
    ·replace h := bif_f h hc
     refine wpIn_skip (norm_block <| norm_then <| ?_)
     exact ⟨l124, ad122, cap123, hF.sub (by kernel_rfl), St.pick [1, 2, 3] (by decide) hS, h⟩
   rintro a w ⟨l136, ad134, cap135, hF, hS, h⟩
   rw [law06_Desk_jobs_K3] at h
   refine WI.region ?_
   replace h := bindS h
   obtain ⟨x137, hx137, h⟩ := h
   refine rno 2 [.run [] (binOp .add 3 (iv x125) (iv 1)) (iv x137)] 2 [(3, sv ad134 l136 cap135), (7, sv ad1 p0.Jobs cap2), (8, iv (ln p0.Jobs)), (9, iv x137)] hF (ocons (obAddC (fun _ => hx137)) onil) fun a hF => ?_
   refine wfn rfl ?_
   rw [hk2] at h
   exact ⟨n_, Nat.lt_succ_self _, l136, x137, ad134, cap135, hF.sub (by kernel_rfl), St.pick [0, 1, 2] (by decide) hS, h⟩
  ·replace h := bif_f h hc
   refine wpIn_exit (exit_then <| exit_then <| exit_hit <| norm_then ?_)
   exact ⟨l124, ad122, cap123, hF.sub (by kernel_rfl), St.pick [0, 1, 2] (by decide) hS, h⟩
 rintro a w ⟨l73, ad71, cap72, hF, hS, h⟩
 rw [law06_Desk_jobs_K1] at h
 refine eseq ?_
 refine esr ?_
 refine rn 3 3 [(3, sv ad71 l73 cap72), (24, .bool ((ln l73) == 0))] hF fun a hF => ?_
 refine wfn rfl ?_
 refine econd hF rfl (fun hc => ?_) (fun hc => ?_)
 ·replace h := bif_t h hc
  refine WI.region ?_
  replace h := bindS h
  obtain ⟨y74, hy74, h⟩ := h
  refine rx 3 [.call [] 42 #[.agg #[.int .u8 0, .int .u8 0, .int .u8 0, .int .u8 0, .int .u8 0, .int .u16 0]] (y74.ag)] 3 [(3, sv ad71 l73 cap72), (25, sv ad71 l73 cap72), (27, y74.ag)] hF (ocons (show Ob.ok _ Ext _ _ from fun hk w2 hd => law06_Wish_job_ok F (law06_Wish.mk 0 0 0 0 0 0) _ ((fun _ => hy74) hk) _ w2 (memOf_at w2) ) onil) fun a w hF hx => ?_
  replace hS := hS.later hx
  refine SK.wi (litK (e := 34) (sz := 8) (f := plan_Job.cells) (t := 43) (len := 1) (fun b75 => [(3, sv ad71 l73 cap72), (25, sv ad71 l73 cap72), (28, sb b75 1)]) #[(0, y74.ag)] y74.ar ([y74]) hF hS (by kernel_rfl) ⟨by kernel_rfl⟩ (by kernel_rfl) plan_Job.cells_len rfl rfl (by kernel_rfl) (fun _ => ⟨by kernel_rfl⟩) fun b75 w a hF hS => ?_)
  replace h := bindS h
  obtain ⟨l76, hl76, h⟩ := h
  refine SK.wi (appK (t := 43) (ty := 43) (bytes := 64) (l := l73) (l' := ([y74])) (fun ad77 cap78 => [(3, sv ad71 l73 cap72), (29, sv ad77 l76 cap78)]) 1 hF hS rfl (by kernel_rfl) ⟨by kernel_rfl⟩ (by kernel_rfl) (hS.arr (i := 0) rfl) (fun _ _ => rfl) hl76 (fun _ _ => ⟨by kernel_rfl⟩) fun ad77 cap78 w a hF hS => ?_)
  refine rn 1 6 [(3, sv ad77 l76 cap78)] hF fun a hF => ?_
  refine wfn rfl ?_
  refine esr ?_
  refine rn 2 2 [(2, sv ad77 l76 cap78)] hF fun a hF => ?_
  refine wfn rfl ?_
  refine wpIn_ret (fn_ret [.tmp 2] [sv ad77 l76 cap78] hF rfl ⟨rfl, trivial⟩ ?_)
  have hr_ := Option.some.inj h
  subst hr_
  exact ⟨_, _, rfl, St.pick [1] (by decide) hS⟩
 ·replace h := bif_f h hc
  refine wpIn_skip (norm_then ?_)
  refine esr ?_
  refine rn 2 2 [(2, sv ad71 l73 cap72)] hF fun a hF => ?_
  refine wfn rfl ?_
  refine wpIn_ret (fn_ret [.tmp 2] [sv ad71 l73 cap72] hF rfl ⟨rfl, trivial⟩ ?_)
  have hr_ := Option.some.inj h
  subst hr_
  exact ⟨_, _, rfl, St.pick [0] (by decide) hS⟩
end Go.Proofs.Ytejffembnkojjaa
