/- Walks, written by program (wip/gen/dec.py). -/
import Derived.Test.YtejffembnkojjaaC6XD
import Derived.Test.YtejffembnkojjaaProg
import Derived.Test.YtejffembnkojjaaC6XW0
namespace Go.Proofs.Ytejffembnkojjaa
open Go Go.RowKit Go.Eng
set_option maxRecDepth 10000
set_option maxHeartbeats 4000000
set_option linter.unusedVariables false
set_option linter.unusedSimpArgs false
theorem pulse_CheckTrain_ok (F : Nat) (p0 : pulse_Train) (res : Int) (h : pulse_CheckTrain F p0 = some res) (μ : Frz) (w0 : World) (hm : FrzAt μ w0) : Calls Try.prog 51 #[p0.ag] w0 (fun e w => e = .returned (iv res) ∧ Ext w0 w) := by
 obtain ⟨hlow, hS⟩ := hm.init
 have hext := Frz.ext_refl w0.heap.size μ
 rw [pulse_CheckTrain] at h
 refine fn_enterW Try.func51 rfl 57 [(0, p0.ag)] rfl rfl (by kernel_rfl) fun a w hw hF => ?_
 replace hS : St w0 [fz w0 μ] w := by rw [hw]; exact hS
 clear hw
 refine esr ?_
 refine SK.wi (boxK (t := 32) (fun b1 => [(1, pb b1)]) (p0.ag) p0.ar hF hS (by kernel_rfl) ⟨by kernel_rfl⟩ (by kernel_rfl) (fun _ => ⟨by kernel_rfl⟩) fun b1 w a hF hS => ?_)
 refine rn 1 2 [(1, pb b1)] hF fun a hF => ?_
 refine wfn rfl ?_
 refine esr ?_
 refine rn 2 2 [(1, pb b1), (4, .bool true)] hF fun a hF => ?_
 refine wfn rfl ?_
 refine ecut (fun a w => ∃ (x3 : Int) (c4 : Bool), Fr 57 [] [(1, pb b1), (3, iv x3), (4, .bool c4)] a ∧ St w0 [blk b1 32 p0.ar, fz w0 μ] w ∧ pulse_CheckTrain_K1 p0 x3 c4 = some res) ?_ ?_
 ·skip
  refine esr ?_
  refine rno 2 [.run [] (Instr.loadAt 3 (.pointer (some ⟨b1, 1, none⟩))) (iv p0.Kind)] 2 [(1, pb b1), (4, .bool true), (6, iv p0.Kind)] hF (ocons (ob1 (by kernel_rfl) (fun _ hd => (hS.at_ hd).cell (i := 0) (j := 1) rfl rfl)) onil) fun a hF => ?_
  refine wfn rfl ?_
  refine wpIn_block ?_
  refine esr ?_
  refine rn 2 2 [(1, pb b1), (4, .bool true), (6, iv p0.Kind), (7, .bool (p0.Kind == 1))] hF fun a hF => ?_
  refine wfn rfl ?_
  refine econd hF rfl (fun hc => ?_) (fun hc => ?_)
  ·replace h := bif_t h hc
   refine runD (obs := [.run [] (Instr.loadAt 3 (.pointer (some ⟨b1, 3, none⟩))) (iv p0.Second)]) 5 [(1, pb b1), (3, iv 2), (4, .bool (p0.Second == 0))] (by kernel_rfl) hF (by kernel_rfl) (ocons (ob1 (by kernel_rfl) (fun _ hd => (hS.later hd).cell (i := 0) (j := 3) rfl rfl)) onil) ⟨by kernel_rfl⟩ fun a w hF hx => ?_
   replace hS := hS.later hx
   refine WI.fin rfl (norm_block <| norm_then <| ?_)
   exact ⟨2, p0.Second == 0, hF.sub (by kernel_rfl), St.pick [0, 1] (by decide) hS, h⟩
  ·replace h := bif_f h hc
   refine esr ?_
   refine rn 2 2 [(1, pb b1), (4, .bool true), (6, iv p0.Kind), (12, .bool (p0.Kind == 2))] hF fun a hF => ?_
   refine wfn rfl ?_
   refine econd hF rfl (fun hc => ?_) (fun hc => ?_)
   ·replace h := bif_t h hc
    replace h := bindS h
    obtain ⟨x8, hx8, h⟩ := h
    refine runD (obs := [.run [] (Instr.loadAt 3 (.pointer (some ⟨b1, 4, none⟩))) (iv p0.Count), .run [] (binOp .rem 3 (iv p0.Count) (iv 2)) (iv x8)]) 6 [(1, pb b1), (3, iv 4), (4, .bool (x8 == 0))] (by kernel_rfl) hF (by kernel_rfl) (ocons (ob1 (by kernel_rfl) (fun _ hd => (hS.later hd).cell (i := 0) (j := 4) rfl rfl)) (ocons (obRemC (fun _ => hx8)) onil)) ⟨by kernel_rfl⟩ fun a w hF hx => ?_
    replace hS := hS.later hx
    refine WI.fin rfl (norm_block <| norm_then <| ?_)
    exact ⟨4, x8 == 0, hF.sub (by kernel_rfl), St.pick [0, 1] (by decide) hS, h⟩
   ·replace h := bif_f h hc
    refine esr ?_
    refine rn 2 2 [(1, pb b1), (4, .bool true), (18, .bool (p0.Kind == 3))] hF fun a hF => ?_
    refine wfn rfl ?_
    refine econd hF rfl (fun hc => ?_) (fun hc => ?_)
    ·replace h := bif_t h hc
     refine WI.region ?_
     refine rn 1 1 [(1, pb b1), (3, iv 3), (4, .bool true)] hF fun a hF => ?_
     refine WI.fin rfl (norm_block <| norm_then <| ?_)
     exact ⟨3, true, hF.sub (by kernel_rfl), St.pick [0, 1] (by decide) hS, h⟩
    ·replace h := bif_f h hc
     refine esr ?_
     refine rn 1 1 [(2, iv 2)] hF fun a hF => ?_
     refine wfn rfl ?_
     refine wpIn_ret (ret_block <| ret_then <| fn_ret [.tmp 2] [iv 2] hF rfl ⟨rfl, trivial⟩ ?_)
     have hr_ := Option.some.inj h
     subst hr_
     exact ⟨rfl, hS.ext⟩
 rintro a w ⟨x3, c4, hF, hS, h⟩
 rw [pulse_CheckTrain_K1] at h
 refine ecut (fun a w => ∃ (c5 : Bool), Fr 57 [] [(1, pb b1), (3, iv x3), (4, .bool c5)] a ∧ St w0 [blk b1 32 p0.ar, fz w0 μ] w ∧ pulse_CheckTrain_K2 p0 x3 c5 = some res) ?_ ?_
 ·skip
  refine esr ?_
  refine rno 3 [.run [] (Instr.loadAt 3 (.pointer (some ⟨b1, 1, none⟩))) (iv p0.Kind)] 3 [(1, pb b1), (3, iv x3), (4, .bool c4), (22, .bool (p0.Kind != 1))] hF (ocons (ob1 (by kernel_rfl) (fun _ hd => (hS.at_ hd).cell (i := 0) (j := 1) rfl rfl)) onil) fun a hF => ?_
  refine wfn rfl ?_
  refine econd hF rfl (fun hc => ?_) (fun hc => ?_)
  ·replace h := bif_t h hc
   refine WI.region ?_
   refine rx 14 [.run [⟨24, true, c4⟩] (Instr.loadAt 3 (.pointer (some ⟨b1, 3, none⟩))) (iv p0.Second), .call [⟨24, true, c4⟩] 78 #[iv p0.Second, iv 200, iv 5000] (.bool (pulse_within p0.Second 200 5000)), .run [⟨29, true, (bif c4 then (pulse_within p0.Second 200 5000) else false)⟩] (Instr.loadAt 3 (.pointer (some ⟨b1, 2, none⟩))) (iv p0.First), .run [⟨29, true, (bif c4 then (pulse_within p0.Second 200 5000) else false)⟩] (Instr.loadAt 3 (.pointer (some ⟨b1, 3, none⟩))) (iv p0.Second)] 14 [(1, pb b1), (3, iv x3), (4, .bool (bif (bif c4 then (pulse_within p0.Second 200 5000) else false) then (decide (p0.First < p0.Second)) else false))] hF (ocons (ob1 (by kernel_rfl) (fun _ hd => (hS.later hd).cell (i := 0) (j := 3) rfl rfl)) (ocons (show Ob.ok _ Ext _ _ from fun hk w2 hd => pulse_within_ok p0.Second 200 5000 _ rfl _ w2 (memOf_at w2) ) (ocons (ob1 (by kernel_rfl) (fun _ hd => (hS.later hd).cell (i := 0) (j := 2) rfl rfl)) (ocons (ob1 (by kernel_rfl) (fun _ hd => (hS.later hd).cell (i := 0) (j := 3) rfl rfl)) onil)))) fun a w hF hx => ?_
   replace hS := hS.later hx
   refine wfn rfl ?_
   exact ⟨bif (bif c4 then (pulse_within p0.Second 200 5000) else false) then (decide (p0.First < p0.Second)) else false, hF.sub (by kernel_rfl), St.pick [0, 1] (by decide) hS, h⟩
  ·replace h := bif_f h hc
   refine wpIn_skip (norm_then ?_)
   exact ⟨c4, hF.sub (by kernel_rfl), St.pick [0, 1] (by decide) hS, h⟩
 rintro a w ⟨c5, hF, hS, h⟩
 rw [pulse_CheckTrain_K2] at h
 refine eseq ?_
 refine esr ?_
 refine rx 21 [.run [⟨38, false, (!c5)⟩] (Instr.loadAt 3 (pb b1)) (iv p0.Lambda), .call [⟨38, false, (!c5)⟩] 78 #[iv p0.Lambda, iv 10000, iv 1000000] (.bool (pulse_within p0.Lambda 10000 1000000)), .run [⟨44, false, (bif (!c5) then true else (!(pulse_within p0.Lambda 10000 1000000)))⟩] (Instr.loadAt 3 (.pointer (some ⟨b1, 2, none⟩))) (iv p0.First), .call [⟨44, false, (bif (!c5) then true else (!(pulse_within p0.Lambda 10000 1000000)))⟩] 78 #[iv p0.First, iv 200, iv 5000] (.bool (pulse_within p0.First 200 5000)), .run [⟨50, false, (bif (bif (!c5) then true else (!(pulse_within p0.Lambda 10000 1000000))) then true else (!(pulse_within p0.First 200 5000)))⟩] (Instr.loadAt 3 (.pointer (some ⟨b1, 4, none⟩))) (iv p0.Count), .call [⟨50, false, (bif (bif (!c5) then true else (!(pulse_within p0.Lambda 10000 1000000))) then true else (!(pulse_within p0.First 200 5000)))⟩] 78 #[iv p0.Count, iv x3, iv 64] (.bool (pulse_within p0.Count x3 64))] 21 [(56, .bool (bif (bif (bif (!c5) then true else (!(pulse_within p0.Lambda 10000 1000000))) then true else (!(pulse_within p0.First 200 5000))) then true else (!(pulse_within p0.Count x3 64))))] hF (ocons (ob1 (by kernel_rfl) (fun _ hd => (hS.later hd).cell (i := 0) (j := 0) rfl rfl)) (ocons (show Ob.ok _ Ext _ _ from fun hk w2 hd => pulse_within_ok p0.Lambda 10000 1000000 _ rfl _ w2 (memOf_at w2) ) (ocons (ob1 (by kernel_rfl) (fun _ hd => (hS.later hd).cell (i := 0) (j := 2) rfl rfl)) (ocons (show Ob.ok _ Ext _ _ from fun hk w2 hd => pulse_within_ok p0.First 200 5000 _ rfl _ w2 (memOf_at w2) ) (ocons (ob1 (by kernel_rfl) (fun _ hd => (hS.later hd).cell (i := 0) (j := 4) rfl rfl)) (ocons (show Ob.ok _ Ext _ _ from fun hk w2 hd => pulse_within_ok p0.Count x3 64 _ rfl _ w2 (memOf_at w2) ) onil)))))) fun a w hF hx => ?_
 replace hS := hS.later hx
 refine wfn rfl ?_
 refine econd hF rfl (fun hc => ?_) (fun hc => ?_)
 ·replace h := bif_t h hc
  refine esr ?_
  refine rn 1 1 [(2, iv 3)] hF fun a hF => ?_
  refine wfn rfl ?_
  refine wpIn_ret (ret_then <| fn_ret [.tmp 2] [iv 3] hF rfl ⟨rfl, trivial⟩ ?_)
  have hr_ := Option.some.inj h
  subst hr_
  exact ⟨rfl, hS.ext⟩
 ·replace h := bif_f h hc
  refine wpIn_skip (norm_then ?_)
  refine esr ?_
  refine rn 1 1 [(2, iv 0)] hF fun a hF => ?_
  refine wfn rfl ?_
  refine wpIn_ret (fn_ret [.tmp 2] [iv 0] hF rfl ⟨rfl, trivial⟩ ?_)
  have hr_ := Option.some.inj h
  subst hr_
  exact ⟨rfl, hS.ext⟩

theorem plan_Radar_time_ok (F : Nat) (p0 : plan_Radar) (p1 : plan_Job) (res : Int) (h : plan_Radar_time F p0 p1 = some res) (μ : Frz) (w0 : World) (hm : FrzAt μ w0) : Calls Try.prog 44 #[p0.ag, p1.ag] w0 (fun e w => e = .returned (iv res) ∧ Ext w0 w) := by
 obtain ⟨hlow, hS⟩ := hm.init
 have hext := Frz.ext_refl w0.heap.size μ
 rw [plan_Radar_time] at h
 refine fn_enterW Try.func44 rfl 37 [(0, p0.ag), (1, p1.ag)] rfl rfl (by kernel_rfl) fun a w hw hF => ?_
 replace hS : St w0 [fz w0 μ] w := by rw [hw]; exact hS
 clear hw
 refine esr ?_
 refine SK.wi (boxK (t := 31) (fun b1 => [(1, p1.ag), (2, pb b1)]) (p0.ag) p0.ar hF hS (by kernel_rfl) ⟨by kernel_rfl⟩ (by kernel_rfl) (fun _ => ⟨by kernel_rfl⟩) fun b1 w a hF hS => ?_)
 refine SK.wi (boxK (t := 34) (fun b2 => [(2, pb b1), (3, pb b2)]) (p1.ag) p1.ar hF hS (by kernel_rfl) ⟨by kernel_rfl⟩ (by kernel_rfl) (fun _ => ⟨by kernel_rfl⟩) fun b2 w a hF hS => ?_)
 refine rn 1 3 [(2, pb b1), (3, pb b2)] hF fun a hF => ?_
 refine wfn rfl ?_
 refine esr ?_
 refine rno 2 [.run [] (Instr.loadAt 32 (.pointer (some ⟨b2, 1, none⟩))) (p1.Train.ag)] 2 [(2, pb b1), (3, pb b2), (9, p1.Train.ag)] hF (ocons (obN (us := p1.Train.cells) (by kernel_rfl) (fun _ hd => ((hS.at_ hd).blk (i := 0) rfl).cells rfl)) onil) fun a hF => ?_
 refine SK.wi (allocK (t := 32) (fun b3 => [(2, pb b1), (3, pb b2), (5, pb b3), (9, p1.Train.ag)]) #[iv 0, iv 0, iv 0, iv 0, iv 0] hF hS (by kernel_rfl) ⟨by kernel_rfl⟩ (by kernel_rfl) (fun _ => ⟨by kernel_rfl⟩) fun b3 w a hF hS => ?_)
 refine SK.wi (storeK (t := 32) [(2, pb b1), (3, pb b2), (5, pb b3)] 0 0 (p1.Train.ag) p1.Train.ar hF hS rfl (by kernel_rfl) ⟨by kernel_rfl⟩ (by kernel_rfl) (by kernel_rfl) (by kernel_rfl) (by kernel_rfl) ⟨by kernel_rfl⟩ fun w a hF hS => ?_)
 refine wfn rfl ?_
 refine esr ?_
 refine rn 4 4 [(2, pb b1), (3, pb b2), (5, pb b3), (13, .agg #[.nilFunc, .func (.func 71) #[] #[pb b3], .func (.func 72) #[] #[pb b3], .func (.func 73) #[] #[pb b3]])] hF fun a hF => ?_
 refine SK.wi (allocK (t := 134) (fun b4 => [(2, pb b1), (3, pb b2), (5, pb b3), (6, pb b4), (13, .agg #[.nilFunc, .func (.func 71) #[] #[pb b3], .func (.func 72) #[] #[pb b3], .func (.func 73) #[] #[pb b3]])]) #[.nilFunc, .nilFunc, .nilFunc, .nilFunc] hF hS (by kernel_rfl) ⟨by kernel_rfl⟩ (by kernel_rfl) (fun _ => ⟨by kernel_rfl⟩) fun b4 w a hF hS => ?_)
 refine SK.wi (storeK (t := 134) [(2, pb b1), (3, pb b2), (5, pb b3), (6, pb b4)] 0 0 (.agg #[.nilFunc, .func (.func 71) #[] #[pb b3], .func (.func 72) #[] #[pb b3], .func (.func 73) #[] #[pb b3]]) #[.nilFunc, .func (.func 71) #[] #[pb b3], .func (.func 72) #[] #[pb b3], .func (.func 73) #[] #[pb b3]] hF hS rfl (by kernel_rfl) ⟨by kernel_rfl⟩ (by kernel_rfl) (by kernel_rfl) (by kernel_rfl) (by kernel_rfl) ⟨by kernel_rfl⟩ fun w a hF hS => ?_)
 refine wfn rfl ?_
 refine eseq ?_
 rcases Bool.eq_false_or_eq_true ((p1.Train.Kind == 0)) with hg5 | hg5
 ·replace h := bif_t h hg5
  cases h
 ·replace h := bif_f h hg5
  rcases Bool.eq_false_or_eq_true ((p1.Train.Kind == 1)) with hg6 | hg6
  ·replace h := bif_t h hg6
   replace h := bindS h
   obtain ⟨x7, hx7, h⟩ := h
   replace h := bindS h
   obtain ⟨x8, hx8, h⟩ := h
   replace h := bindS h
   obtain ⟨y10, hy10, h⟩ := h
   replace h := bindS h
   obtain ⟨y12, hy12, h⟩ := h
   refine region_treeW 16 [4, 13] _ (D := fun w => St w0 [blk b4 134 #[.nilFunc, .func (.func 71) #[] #[pb b3], .func (.func 72) #[] #[pb b3], .func (.func 73) #[] #[pb b3]], blk b3 32 p1.Train.ar, blk b2 34 p1.ar, blk b1 31 p0.ar] w ∧ FrzAt μ w) (by kernel_rfl) (by kernel_rfl) hF.size (fun w hx => ?_) (fun _ _ h => h)
   replace hS := hS.later hx
   refine ⟨⟨St.pick [0, 1, 2, 3] (by decide) hS, hS.frz (i := 4) rfl hlow⟩, ?_⟩
   have hcl15 := Frz.le_refl μ
   refine WT.s [0, 1, 2, 3, 5, 6, 7, 8, 9, 10, 11, 12] [4] (by kernel_rfl) (by kernel_rfl) ?_
   refine runC (rest := []) (obs := [.run [] (Instr.loadAt 3 (.pointer (some ⟨b3, 1, none⟩))) (iv p1.Train.Kind), .run [] (Instr.indexAt 134 (pb b4) (iv p1.Train.Kind)) (.pointer (some ⟨b4, 1, none⟩)), .run [] (Instr.loadAt 108 (.pointer (some ⟨b4, 1, none⟩))) (.func (.func 71) #[] #[pb b3]), .run [] (Instr.loadAt 3 (.pointer (some ⟨b3, 4, none⟩))) (iv p1.Train.Count), .run [] (binOp .mul 3 (iv 100) (iv p1.Train.Count)) (iv x7), .run [] (Instr.loadAt 3 (.pointer (some ⟨b2, 6, none⟩))) (iv p1.Width), .run [] (binOp .mul 3 (iv x7) (iv p1.Width)) (iv x8), .run [] (Instr.loadAt 3 (.pointer (some ⟨b1, 3, none⟩))) (iv p0.Duty)]) [0, 1, 2, 3, 5, 6, 7, 8, 9, 10, 11, 12] [(2, pb b1), (17, .func (.func 71) #[] #[pb b3]), (24, iv x8), (26, iv p0.Duty)] hF (by kernel_rfl) (by kernel_rfl) (ocons (ob1 (by kernel_rfl) (fun _ hd => hd.1.cell (i := 1) (j := 1) rfl rfl)) (ocons (by rw [show p1.Train.Kind = (1 : Int) from eq_of_beq hg6]; exact obPureSem (by kernel_rfl)) (ocons (ob1 (by kernel_rfl) (fun _ hd => hd.1.cell (i := 0) (j := 1) rfl rfl)) (ocons (ob1 (by kernel_rfl) (fun _ hd => hd.1.cell (i := 1) (j := 4) rfl rfl)) (ocons (obMulC (fun _ => hx7)) (ocons (ob1 (by kernel_rfl) (fun _ hd => hd.1.cell (i := 2) (j := 6) rfl rfl)) (ocons (obMulC (fun _ => hx8)) (ocons (ob1 (by kernel_rfl) (fun _ hd => hd.1.cell (i := 3) (j := 3) rfl rfl)) onil)))))))) ⟨by kernel_rfl⟩ fun a hF => ?_
   refine WRun.fin ?_
   refine all_cons ?_ (all_nil)
   refine callK (f := 71) (args := #[pb b3]) (R := fun v w2 => v = iv y10 ∧ Ext w w2) (fun v16 => [(2, pb b1), (18, v16), (24, iv x8), (26, iv p0.Duty)]) hF (by kernel_rfl) ⟨by kernel_rfl⟩ (Calls.mono (plan_Radar_time_1_ok F p1.Train _ hy10 (memOf w) w (memOf_at w) (Blk.toM (hS.blk (i := 1) rfl))) (fun e w2 h => ⟨_, h.1, rfl, h.2⟩)) (fun _ => ⟨by kernel_rfl⟩) ?_
   rintro v16 w a ⟨rfl, hx⟩ hF
   replace hS := hS.later hx
   refine ⟨⟨St.pick [0, 1, 2, 3] (by decide) hS, (hS.frz (i := 4) rfl hlow)⟩, ?_⟩
   refine WT.s [] [13] (by kernel_rfl) (by kernel_rfl) ?_
   refine WRun.fin ?_
   refine all_cons ?_ (all_nil)
   refine callK (f := 74) (args := #[iv x8, iv p0.Duty]) (R := fun v w2 => v = iv y12 ∧ Ext w w2) (fun v17 => [(2, pb b1), (18, iv y10), (27, v17)]) hF (by kernel_rfl) ⟨by kernel_rfl⟩ (Calls.mono (plan_up_ok F x8 p0.Duty _ hy12 (memOf w) w (memOf_at w) ) (fun e w2 h => ⟨_, h.1, rfl, h.2⟩)) (fun _ => ⟨by kernel_rfl⟩) ?_
   rintro v17 w a ⟨rfl, hx⟩ hF
   replace hS := hS.later hx
   refine ⟨⟨St.pick [0, 1, 2, 3] (by decide) hS, (hS.frz (i := 4) rfl hlow)⟩, ?_⟩
   refine WT.z [14, 15] (by kernel_rfl) ?_
   refine runC (rest := []) (obs := []) [14, 15] [(2, pb b1), (7, iv (if y12 > y10 then y12 else y10))] hF (by kernel_rfl) (by kernel_rfl) onil ⟨by kernel_rfl⟩ fun a hF => ?_
   refine WRun.fin ?_
   refine wfn rfl ?_
   refine eseq ?_
   replace h := bindS h
   obtain ⟨x18, hx18, h⟩ := h
   replace h := bindS h
   obtain ⟨y19, hy19, h⟩ := h
   refine runD (obs := [.run [] (Instr.loadAt 3 (.pointer (some ⟨b1, 1, none⟩))) (iv p0.Turn), .run [] (Instr.loadAt 3 (pb b1)) (iv p0.Rays), .run [] (binOp .mul 3 (iv p0.Rays) (iv (if y12 > y10 then y12 else y10))) (iv x18), .call [] 74 #[iv x18, iv 1000] (iv y19)]) 9 [(4, iv (if y19 > p0.Turn then y19 else p0.Turn))] (by kernel_rfl) hF (by kernel_rfl) (ocons (ob1 (by kernel_rfl) (fun _ hd => (hS.later hd).cell (i := 3) (j := 1) rfl rfl)) (ocons (ob1 (by kernel_rfl) (fun _ hd => (hS.later hd).cell (i := 3) (j := 0) rfl rfl)) (ocons (obMulC (fun _ => hx18)) (ocons (show Ob.ok _ Ext _ _ from fun hk w2 hd => plan_up_ok F x18 1000 _ ((fun _ => hy19) hk) _ w2 (memOf_at w2) ) onil)))) ⟨by kernel_rfl⟩ fun a w hF hx => ?_
   replace hS := hS.later hx
   refine wfn rfl ?_
   refine wpIn_ret (fn_ret [.tmp 4] [iv (if y19 > p0.Turn then y19 else p0.Turn)] hF rfl ⟨rfl, trivial⟩ ?_)
   have hr_ := Option.some.inj h
   subst hr_
   exact ⟨rfl, hS.ext⟩
  ·replace h := bif_f h hg6
   rcases Bool.eq_false_or_eq_true ((p1.Train.Kind == 2)) with hg20 | hg20
   ·replace h := bif_t h hg20
    replace h := bindS h
    obtain ⟨x21, hx21, h⟩ := h
    replace h := bindS h
    obtain ⟨x22, hx22, h⟩ := h
    replace h := bindS h
    obtain ⟨y24, hy24, h⟩ := h
    replace h := bindS h
    obtain ⟨y26, hy26, h⟩ := h
    refine region_treeW 16 [4, 13] _ (D := fun w => St w0 [blk b4 134 #[.nilFunc, .func (.func 71) #[] #[pb b3], .func (.func 72) #[] #[pb b3], .func (.func 73) #[] #[pb b3]], blk b3 32 p1.Train.ar, blk b2 34 p1.ar, blk b1 31 p0.ar] w ∧ FrzAt μ w) (by kernel_rfl) (by kernel_rfl) hF.size (fun w hx => ?_) (fun _ _ h => h)
    replace hS := hS.later hx
    refine ⟨⟨St.pick [0, 1, 2, 3] (by decide) hS, hS.frz (i := 4) rfl hlow⟩, ?_⟩
    have hcl29 := Frz.le_refl μ
    refine WT.s [0, 1, 2, 3, 5, 6, 7, 8, 9, 10, 11, 12] [4] (by kernel_rfl) (by kernel_rfl) ?_
    refine runC (rest := []) (obs := [.run [] (Instr.loadAt 3 (.pointer (some ⟨b3, 1, none⟩))) (iv p1.Train.Kind), .run [] (Instr.indexAt 134 (pb b4) (iv p1.Train.Kind)) (.pointer (some ⟨b4, 2, none⟩)), .run [] (Instr.loadAt 108 (.pointer (some ⟨b4, 2, none⟩))) (.func (.func 72) #[] #[pb b3]), .run [] (Instr.loadAt 3 (.pointer (some ⟨b3, 4, none⟩))) (iv p1.Train.Count), .run [] (binOp .mul 3 (iv 100) (iv p1.Train.Count)) (iv x21), .run [] (Instr.loadAt 3 (.pointer (some ⟨b2, 6, none⟩))) (iv p1.Width), .run [] (binOp .mul 3 (iv x21) (iv p1.Width)) (iv x22), .run [] (Instr.loadAt 3 (.pointer (some ⟨b1, 3, none⟩))) (iv p0.Duty)]) [0, 1, 2, 3, 5, 6, 7, 8, 9, 10, 11, 12] [(2, pb b1), (17, .func (.func 72) #[] #[pb b3]), (24, iv x22), (26, iv p0.Duty)] hF (by kernel_rfl) (by kernel_rfl) (ocons (ob1 (by kernel_rfl) (fun _ hd => hd.1.cell (i := 1) (j := 1) rfl rfl)) (ocons (by rw [show p1.Train.Kind = (2 : Int) from eq_of_beq hg20]; exact obPureSem (by kernel_rfl)) (ocons (ob1 (by kernel_rfl) (fun _ hd => hd.1.cell (i := 0) (j := 2) rfl rfl)) (ocons (ob1 (by kernel_rfl) (fun _ hd => hd.1.cell (i := 1) (j := 4) rfl rfl)) (ocons (obMulC (fun _ => hx21)) (ocons (ob1 (by kernel_rfl) (fun _ hd => hd.1.cell (i := 2) (j := 6) rfl rfl)) (ocons (obMulC (fun _ => hx22)) (ocons (ob1 (by kernel_rfl) (fun _ hd => hd.1.cell (i := 3) (j := 3) rfl rfl)) onil)))))))) ⟨by kernel_rfl⟩ fun a hF => ?_
    refine WRun.fin ?_
    refine all_cons ?_ (all_nil)
    refine callK (f := 72) (args := #[pb b3]) (R := fun v w2 => v = iv y24 ∧ Ext w w2) (fun v30 => [(2, pb b1), (18, v30), (24, iv x22), (26, iv p0.Duty)]) hF (by kernel_rfl) ⟨by kernel_rfl⟩ (Calls.mono (plan_Radar_time_2_ok F p1.Train _ hy24 (memOf w) w (memOf_at w) (Blk.toM (hS.blk (i := 1) rfl))) (fun e w2 h => ⟨_, h.1, rfl, h.2⟩)) (fun _ => ⟨by kernel_rfl⟩) ?_
    rintro v30 w a ⟨rfl, hx⟩ hF
    replace hS := hS.later hx
    refine ⟨⟨St.pick [0, 1, 2, 3] (by decide) hS, (hS.frz (i := 4) rfl hlow)⟩, ?_⟩
    refine WT.s [] [13] (by kernel_rfl) (by kernel_rfl) ?_
    refine WRun.fin ?_
    refine all_cons ?_ (all_nil)
    refine callK (f := 74) (args := #[iv x22, iv p0.Duty]) (R := fun v w2 => v = iv y26 ∧ Ext w w2) (fun v31 => [(2, pb b1), (18, iv y24), (27, v31)]) hF (by kernel_rfl) ⟨by kernel_rfl⟩ (Calls.mono (plan_up_ok F x22 p0.Duty _ hy26 (memOf w) w (memOf_at w) ) (fun e w2 h => ⟨_, h.1, rfl, h.2⟩)) (fun _ => ⟨by kernel_rfl⟩) ?_
    rintro v31 w a ⟨rfl, hx⟩ hF
    replace hS := hS.later hx
    refine ⟨⟨St.pick [0, 1, 2, 3] (by decide) hS, (hS.frz (i := 4) rfl hlow)⟩, ?_⟩
    refine WT.z [14, 15] (by kernel_rfl) ?_
    refine runC (rest := []) (obs := []) [14, 15] [(2, pb b1), (7, iv (if y26 > y24 then y26 else y24))] hF (by kernel_rfl) (by kernel_rfl) onil ⟨by kernel_rfl⟩ fun a hF => ?_
    refine WRun.fin ?_
    refine wfn rfl ?_
    refine eseq ?_
    replace h := bindS h
    obtain ⟨x32, hx32, h⟩ := h
    replace h := bindS h
    obtain ⟨y33, hy33, h⟩ := h
    refine runD (obs := [.run [] (Instr.loadAt 3 (.pointer (some ⟨b1, 1, none⟩))) (iv p0.Turn), .run [] (Instr.loadAt 3 (pb b1)) (iv p0.Rays), .run [] (binOp .mul 3 (iv p0.Rays) (iv (if y26 > y24 then y26 else y24))) (iv x32), .call [] 74 #[iv x32, iv 1000] (iv y33)]) 9 [(4, iv (if y33 > p0.Turn then y33 else p0.Turn))] (by kernel_rfl) hF (by kernel_rfl) (ocons (ob1 (by kernel_rfl) (fun _ hd => (hS.later hd).cell (i := 3) (j := 1) rfl rfl)) (ocons (ob1 (by kernel_rfl) (fun _ hd => (hS.later hd).cell (i := 3) (j := 0) rfl rfl)) (ocons (obMulC (fun _ => hx32)) (ocons (show Ob.ok _ Ext _ _ from fun hk w2 hd => plan_up_ok F x32 1000 _ ((fun _ => hy33) hk) _ w2 (memOf_at w2) ) onil)))) ⟨by kernel_rfl⟩ fun a w hF hx => ?_
    replace hS := hS.later hx
    refine wfn rfl ?_
    refine wpIn_ret (fn_ret [.tmp 4] [iv (if y33 > p0.Turn then y33 else p0.Turn)] hF rfl ⟨rfl, trivial⟩ ?_)
    have hr_ := Option.some.inj h
    subst hr_
    exact ⟨rfl, hS.ext⟩
   ·replace h := bif_f h hg20
    rcases Bool.eq_false_or_eq_true ((p1.Train.Kind == 3)) with hg34 | hg34
    ·replace h := bif_t h hg34
     replace h := bindS h
     obtain ⟨x35, hx35, h⟩ := h
     replace h := bindS h
     obtain ⟨x36, hx36, h⟩ := h
     replace h := bindS h
     obtain ⟨y38, hy38, h⟩ := h
     replace h := bindS h
     obtain ⟨y40, hy40, h⟩ := h
     refine region_treeW 16 [4, 13] _ (D := fun w => St w0 [blk b4 134 #[.nilFunc, .func (.func 71) #[] #[pb b3], .func (.func 72) #[] #[pb b3], .func (.func 73) #[] #[pb b3]], blk b3 32 p1.Train.ar, blk b2 34 p1.ar, blk b1 31 p0.ar] w ∧ FrzAt μ w) (by kernel_rfl) (by kernel_rfl) hF.size (fun w hx => ?_) (fun _ _ h => h)
     replace hS := hS.later hx
     refine ⟨⟨St.pick [0, 1, 2, 3] (by decide) hS, hS.frz (i := 4) rfl hlow⟩, ?_⟩
     have hcl43 := Frz.le_refl μ
     refine WT.s [0, 1, 2, 3, 5, 6, 7, 8, 9, 10, 11, 12] [4] (by kernel_rfl) (by kernel_rfl) ?_
     refine runC (rest := []) (obs := [.run [] (Instr.loadAt 3 (.pointer (some ⟨b3, 1, none⟩))) (iv p1.Train.Kind), .run [] (Instr.indexAt 134 (pb b4) (iv p1.Train.Kind)) (.pointer (some ⟨b4, 3, none⟩)), .run [] (Instr.loadAt 108 (.pointer (some ⟨b4, 3, none⟩))) (.func (.func 73) #[] #[pb b3]), .run [] (Instr.loadAt 3 (.pointer (some ⟨b3, 4, none⟩))) (iv p1.Train.Count), .run [] (binOp .mul 3 (iv 100) (iv p1.Train.Count)) (iv x35), .run [] (Instr.loadAt 3 (.pointer (some ⟨b2, 6, none⟩))) (iv p1.Width), .run [] (binOp .mul 3 (iv x35) (iv p1.Width)) (iv x36), .run [] (Instr.loadAt 3 (.pointer (some ⟨b1, 3, none⟩))) (iv p0.Duty)]) [0, 1, 2, 3, 5, 6, 7, 8, 9, 10, 11, 12] [(2, pb b1), (17, .func (.func 73) #[] #[pb b3]), (24, iv x36), (26, iv p0.Duty)] hF (by kernel_rfl) (by kernel_rfl) (ocons (ob1 (by kernel_rfl) (fun _ hd => hd.1.cell (i := 1) (j := 1) rfl rfl)) (ocons (by rw [show p1.Train.Kind = (3 : Int) from eq_of_beq hg34]; exact obPureSem (by kernel_rfl)) (ocons (ob1 (by kernel_rfl) (fun _ hd => hd.1.cell (i := 0) (j := 3) rfl rfl)) (ocons (ob1 (by kernel_rfl) (fun _ hd => hd.1.cell (i := 1) (j := 4) rfl rfl)) (ocons (obMulC (fun _ => hx35)) (ocons (ob1 (by kernel_rfl) (fun _ hd => hd.1.cell (i := 2) (j := 6) rfl rfl)) (ocons (obMulC (fun _ => hx36)) (ocons (ob1 (by kernel_rfl) (fun _ hd => hd.1.cell (i := 3) (j := 3) rfl rfl)) onil)))))))) ⟨by kernel_rfl⟩ fun a hF => ?_
     refine WRun.fin ?_
     refine all_cons ?_ (all_nil)
     refine callK (f := 73) (args := #[pb b3]) (R := fun v w2 => v = iv y38 ∧ Ext w w2) (fun v44 => [(2, pb b1), (18, v44), (24, iv x36), (26, iv p0.Duty)]) hF (by kernel_rfl) ⟨by kernel_rfl⟩ (Calls.mono (plan_Radar_time_3_ok F p1.Train _ hy38 (memOf w) w (memOf_at w) (Blk.toM (hS.blk (i := 1) rfl))) (fun e w2 h => ⟨_, h.1, rfl, h.2⟩)) (fun _ => ⟨by kernel_rfl⟩) ?_
     rintro v44 w a ⟨rfl, hx⟩ hF
     replace hS := hS.later hx
     refine ⟨⟨St.pick [0, 1, 2, 3] (by decide) hS, (hS.frz (i := 4) rfl hlow)⟩, ?_⟩
     refine WT.s [] [13] (by kernel_rfl) (by kernel_rfl) ?_
     refine WRun.fin ?_
     refine all_cons ?_ (all_nil)
     refine callK (f := 74) (args := #[iv x36, iv p0.Duty]) (R := fun v w2 => v = iv y40 ∧ Ext w w2) (fun v45 => [(2, pb b1), (18, iv y38), (27, v45)]) hF (by kernel_rfl) ⟨by kernel_rfl⟩ (Calls.mono (plan_up_ok F x36 p0.Duty _ hy40 (memOf w) w (memOf_at w) ) (fun e w2 h => ⟨_, h.1, rfl, h.2⟩)) (fun _ => ⟨by kernel_rfl⟩) ?_
     rintro v45 w a ⟨rfl, hx⟩ hF
     replace hS := hS.later hx
     refine ⟨⟨St.pick [0, 1, 2, 3] (by decide) hS, (hS.frz (i := 4) rfl hlow)⟩, ?_⟩
     refine WT.z [14, 15] (by kernel_rfl) ?_
     refine runC (rest := []) (obs := []) [14, 15] [(2, pb b1), (7, iv (if y40 > y38 then y40 else y38))] hF (by kernel_rfl) (by kernel_rfl) onil ⟨by kernel_rfl⟩ fun a hF => ?_
     refine WRun.fin ?_
     refine wfn rfl ?_
     refine eseq ?_
     replace h := bindS h
     obtain ⟨x46, hx46, h⟩ := h
     replace h := bindS h
     obtain ⟨y47, hy47, h⟩ := h
     refine runD (obs := [.run [] (Instr.loadAt 3 (.pointer (some ⟨b1, 1, none⟩))) (iv p0.Turn), .run [] (Instr.loadAt 3 (pb b1)) (iv p0.Rays), .run [] (binOp .mul 3 (iv p0.Rays) (iv (if y40 > y38 then y40 else y38))) (iv x46), .call [] 74 #[iv x46, iv 1000] (iv y47)]) 9 [(4, iv (if y47 > p0.Turn then y47 else p0.Turn))] (by kernel_rfl) hF (by kernel_rfl) (ocons (ob1 (by kernel_rfl) (fun _ hd => (hS.later hd).cell (i := 3) (j := 1) rfl rfl)) (ocons (ob1 (by kernel_rfl) (fun _ hd => (hS.later hd).cell (i := 3) (j := 0) rfl rfl)) (ocons (obMulC (fun _ => hx46)) (ocons (show Ob.ok _ Ext _ _ from fun hk w2 hd => plan_up_ok F x46 1000 _ ((fun _ => hy47) hk) _ w2 (memOf_at w2) ) onil)))) ⟨by kernel_rfl⟩ fun a w hF hx => ?_
     replace hS := hS.later hx
     refine wfn rfl ?_
     refine wpIn_ret (fn_ret [.tmp 4] [iv (if y47 > p0.Turn then y47 else p0.Turn)] hF rfl ⟨rfl, trivial⟩ ?_)
     have hr_ := Option.some.inj h
     subst hr_
     exact ⟨rfl, hS.ext⟩
    ·replace h := bif_f h hg34
     cases h

theorem ref02_CheckTrain_ok (F : Nat) (p0 : ref02_Train) (res : Int) (h : ref02_CheckTrain F p0 = some res) (μ : Frz) (w0 : World) (hm : FrzAt μ w0) : Calls Try.prog 52 #[p0.ag] w0 (fun e w => e = .returned (iv res) ∧ Ext w0 w) := by
 obtain ⟨hlow, hS⟩ := hm.init
 have hext := Frz.ext_refl w0.heap.size μ
 rw [ref02_CheckTrain] at h
 refine fn_enterW Try.func52 rfl 63 [(0, p0.ag)] rfl rfl (by kernel_rfl) fun a w hw hF => ?_
 replace hS : St w0 [fz w0 μ] w := by rw [hw]; exact hS
 clear hw
 refine esr ?_
 refine SK.wi (boxK (t := 25) (fun b1 => [(1, pb b1)]) (p0.ag) p0.ar hF hS (by kernel_rfl) ⟨by kernel_rfl⟩ (by kernel_rfl) (fun _ => ⟨by kernel_rfl⟩) fun b1 w a hF hS => ?_)
 refine rn 1 2 [(1, pb b1)] hF fun a hF => ?_
 refine wfn rfl ?_
 refine eseq ?_
 refine esr ?_
 refine rno 13 [.run [] (Instr.loadAt 3 (.pointer (some ⟨b1, 1, none⟩))) (iv p0.Kind), .run [⟨7, true, (p0.Kind != 1)⟩] (Instr.loadAt 3 (.pointer (some ⟨b1, 1, none⟩))) (iv p0.Kind), .run [⟨12, true, (bif (p0.Kind != 1) then (p0.Kind != 2) else false)⟩] (Instr.loadAt 3 (.pointer (some ⟨b1, 1, none⟩))) (iv p0.Kind)] 13 [(1, pb b1), (16, .bool (bif (bif (p0.Kind != 1) then (p0.Kind != 2) else false) then (p0.Kind != 3) else false))] hF (ocons (ob1 (by kernel_rfl) (fun _ hd => (hS.at_ hd).cell (i := 0) (j := 1) rfl rfl)) (ocons (ob1 (by kernel_rfl) (fun _ hd => (hS.at_ hd).cell (i := 0) (j := 1) rfl rfl)) (ocons (ob1 (by kernel_rfl) (fun _ hd => (hS.at_ hd).cell (i := 0) (j := 1) rfl rfl)) onil))) fun a hF => ?_
 refine wfn rfl ?_
 refine econd hF rfl (fun hc => ?_) (fun hc => ?_)
 ·replace h := bif_t h hc
  refine esr ?_
  refine rn 1 1 [(2, iv 2)] hF fun a hF => ?_
  refine wfn rfl ?_
  refine wpIn_ret (ret_then <| fn_ret [.tmp 2] [iv 2] hF rfl ⟨rfl, trivial⟩ ?_)
  have hr_ := Option.some.inj h
  subst hr_
  exact ⟨rfl, hS.ext⟩
 ·replace h := bif_f h hc
  refine wpIn_skip (norm_then ?_)
  refine eseq ?_
  refine esr ?_
  refine rx 10 [.run [] (Instr.loadAt 3 (pb b1)) (iv p0.Lambda), .call [] 48 #[iv p0.Lambda, iv 10000, iv 1000000] (.bool (ref01_In p0.Lambda 10000 1000000)), .run [⟨21, false, (!(ref01_In p0.Lambda 10000 1000000))⟩] (Instr.loadAt 3 (.pointer (some ⟨b1, 2, none⟩))) (iv p0.First), .call [⟨21, false, (!(ref01_In p0.Lambda 10000 1000000))⟩] 48 #[iv p0.First, iv 200, iv 5000] (.bool (ref01_In p0.First 200 5000))] 10 [(1, pb b1), (26, .bool (bif (!(ref01_In p0.Lambda 10000 1000000)) then true else (!(ref01_In p0.First 200 5000))))] hF (ocons (ob1 (by kernel_rfl) (fun _ hd => (hS.later hd).cell (i := 0) (j := 0) rfl rfl)) (ocons (show Ob.ok _ Ext _ _ from fun hk w2 hd => ref01_In_ok p0.Lambda 10000 1000000 _ rfl _ w2 (memOf_at w2) ) (ocons (ob1 (by kernel_rfl) (fun _ hd => (hS.later hd).cell (i := 0) (j := 2) rfl rfl)) (ocons (show Ob.ok _ Ext _ _ from fun hk w2 hd => ref01_In_ok p0.First 200 5000 _ rfl _ w2 (memOf_at w2) ) onil)))) fun a w hF hx => ?_
  replace hS := hS.later hx
  refine wfn rfl ?_
  refine econd hF rfl (fun hc => ?_) (fun hc => ?_)
  ·replace h := bif_t h hc
   refine esr ?_
   refine rn 1 1 [(2, iv 3)] hF fun a hF => ?_
   refine wfn rfl ?_
   refine wpIn_ret (ret_then <| fn_ret [.tmp 2] [iv 3] hF rfl ⟨rfl, trivial⟩ ?_)
   have hr_ := Option.some.inj h
   subst hr_
   exact ⟨rfl, hS.ext⟩
  ·replace h := bif_f h hc
   refine wpIn_skip (norm_then ?_)
   refine esr ?_
   refine rn 1 1 [(1, pb b1), (3, iv 2)] hF fun a hF => ?_
   refine wfn rfl ?_
   refine ecut (fun a w => ∃ (x3 : Int), Fr 63 [] [(1, pb b1), (3, iv x3)] a ∧ St w0 [blk b1 25 p0.ar, fz w0 μ] w ∧ ref02_CheckTrain_K1 p0 x3 = some res) ?_ ?_
   ·skip
    refine esr ?_
    refine rno 2 [.run [] (Instr.loadAt 3 (.pointer (some ⟨b1, 1, none⟩))) (iv p0.Kind)] 2 [(1, pb b1), (3, iv 2), (28, iv p0.Kind)] hF (ocons (ob1 (by kernel_rfl) (fun _ hd => (hS.at_ hd).cell (i := 0) (j := 1) rfl rfl)) onil) fun a hF => ?_
    refine wfn rfl ?_
    refine wpIn_block ?_
    refine esr ?_
    refine rn 2 2 [(1, pb b1), (3, iv 2), (28, iv p0.Kind), (29, .bool (p0.Kind == 1))] hF fun a hF => ?_
    refine wfn rfl ?_
    refine econd hF rfl (fun hc => ?_) (fun hc => ?_)
    ·replace h := bif_t h hc
     refine esr ?_
     refine rno 3 [.run [] (Instr.loadAt 3 (.pointer (some ⟨b1, 3, none⟩))) (iv p0.Second)] 3 [(1, pb b1), (3, iv 2), (33, .bool (p0.Second != 0))] hF (ocons (ob1 (by kernel_rfl) (fun _ hd => (hS.at_ hd).cell (i := 0) (j := 3) rfl rfl)) onil) fun a hF => ?_
     refine wfn rfl ?_
     refine econd hF rfl (fun hc => ?_) (fun hc => ?_)
     ·replace h := bif_t h hc
      refine esr ?_
      refine rn 1 1 [(2, iv 3)] hF fun a hF => ?_
      refine wfn rfl ?_
      refine wpIn_ret (ret_block <| ret_then <| fn_ret [.tmp 2] [iv 3] hF rfl ⟨rfl, trivial⟩ ?_)
      have hr_ := Option.some.inj h
      subst hr_
      exact ⟨rfl, hS.ext⟩
     ·replace h := bif_f h hc
      refine wpIn_skip (norm_block <| norm_then <| ?_)
      exact ⟨2, hF.sub (by kernel_rfl), St.pick [0, 1] (by decide) hS, h⟩
    ·replace h := bif_f h hc
     refine esr ?_
     refine rn 2 2 [(1, pb b1), (3, iv 2), (28, iv p0.Kind), (34, .bool (p0.Kind == 2))] hF fun a hF => ?_
     refine wfn rfl ?_
     refine econd hF rfl (fun hc => ?_) (fun hc => ?_)
     ·replace h := bif_t h hc
      refine esr ?_
      refine rn 1 1 [(1, pb b1), (3, iv 4)] hF fun a hF => ?_
      refine wfn rfl ?_
      refine esr ?_
      replace h := bindS h
      obtain ⟨x5, hx5, h⟩ := h
      refine rno 4 [.run [] (Instr.loadAt 3 (.pointer (some ⟨b1, 4, none⟩))) (iv p0.Count), .run [] (binOp .rem 3 (iv p0.Count) (iv 2)) (iv x5)] 4 [(1, pb b1), (3, iv 4), (39, .bool (x5 != 0))] hF (ocons (ob1 (by kernel_rfl) (fun _ hd => (hS.at_ hd).cell (i := 0) (j := 4) rfl rfl)) (ocons (obRemC (fun _ => hx5)) onil)) fun a hF => ?_
      refine wfn rfl ?_
      refine econd hF rfl (fun hc => ?_) (fun hc => ?_)
      ·replace h := bif_t h hc
       refine esr ?_
       refine rn 1 1 [(2, iv 3)] hF fun a hF => ?_
       refine wfn rfl ?_
       refine wpIn_ret (ret_block <| ret_then <| fn_ret [.tmp 2] [iv 3] hF rfl ⟨rfl, trivial⟩ ?_)
       have hr_ := Option.some.inj h
       subst hr_
       exact ⟨rfl, hS.ext⟩
      ·replace h := bif_f h hc
       refine wpIn_skip (norm_block <| norm_then <| ?_)
       exact ⟨4, hF.sub (by kernel_rfl), St.pick [0, 1] (by decide) hS, h⟩
     ·replace h := bif_f h hc
      refine esr ?_
      refine rn 2 2 [(1, pb b1), (3, iv 2), (40, .bool (p0.Kind == 3))] hF fun a hF => ?_
      refine wfn rfl ?_
      refine econd hF rfl (fun hc => ?_) (fun hc => ?_)
      ·replace h := bif_t h hc
       refine WI.region ?_
       refine rn 1 1 [(1, pb b1), (3, iv 3)] hF fun a hF => ?_
       refine WI.fin rfl (norm_block <| norm_then <| ?_)
       exact ⟨3, hF.sub (by kernel_rfl), St.pick [0, 1] (by decide) hS, h⟩
      ·replace h := bif_f h hc
       refine wpIn_skip (norm_block <| norm_then <| ?_)
       exact ⟨2, hF.sub (by kernel_rfl), St.pick [0, 1] (by decide) hS, h⟩
   rintro a w ⟨x3, hF, hS, h⟩
   rw [ref02_CheckTrain_K1] at h
   refine eseq ?_
   refine esr ?_
   refine rx 16 [.run [] (Instr.loadAt 3 (.pointer (some ⟨b1, 1, none⟩))) (iv p0.Kind), .run [⟨45, true, (p0.Kind != 1)⟩] (Instr.loadAt 3 (.pointer (some ⟨b1, 3, none⟩))) (iv p0.Second), .call [⟨45, true, (p0.Kind != 1)⟩] 48 #[iv p0.Second, iv 200, iv 5000] (.bool (ref01_In p0.Second 200 5000)), .run [⟨50, false, (!(ref01_In p0.Second 200 5000))⟩, ⟨45, true, (p0.Kind != 1)⟩] (Instr.loadAt 3 (.pointer (some ⟨b1, 2, none⟩))) (iv p0.First), .run [⟨50, false, (!(ref01_In p0.Second 200 5000))⟩, ⟨45, true, (p0.Kind != 1)⟩] (Instr.loadAt 3 (.pointer (some ⟨b1, 3, none⟩))) (iv p0.Second)] 16 [(1, pb b1), (3, iv x3), (57, .bool (bif (p0.Kind != 1) then (bif (!(ref01_In p0.Second 200 5000)) then true else (decide (p0.First ≥ p0.Second))) else false))] hF (ocons (ob1 (by kernel_rfl) (fun _ hd => (hS.later hd).cell (i := 0) (j := 1) rfl rfl)) (ocons (ob1 (by kernel_rfl) (fun _ hd => (hS.later hd).cell (i := 0) (j := 3) rfl rfl)) (ocons (show Ob.ok _ Ext _ _ from fun hk w2 hd => ref01_In_ok p0.Second 200 5000 _ rfl _ w2 (memOf_at w2) ) (ocons (ob1 (by kernel_rfl) (fun _ hd => (hS.later hd).cell (i := 0) (j := 2) rfl rfl)) (ocons (ob1 (by kernel_rfl) (fun _ hd => (hS.later hd).cell (i := 0) (j := 3) rfl rfl)) onil))))) fun a w hF hx => ?_
   replace hS := hS.later hx
   refine wfn rfl ?_
   refine econd hF rfl (fun hc => ?_) (fun hc => ?_)
   ·replace h := bif_t h hc
    refine esr ?_
    refine rn 1 1 [(2, iv 3)] hF fun a hF => ?_
    refine wfn rfl ?_
    refine wpIn_ret (ret_then <| fn_ret [.tmp 2] [iv 3] hF rfl ⟨rfl, trivial⟩ ?_)
    have hr_ := Option.some.inj h
    subst hr_
    exact ⟨rfl, hS.ext⟩
   ·replace h := bif_f h hc
    refine wpIn_skip (norm_then ?_)
    refine eseq ?_
    refine esr ?_
    refine rx 5 [.run [] (Instr.loadAt 3 (.pointer (some ⟨b1, 4, none⟩))) (iv p0.Count), .call [] 48 #[iv p0.Count, iv x3, iv 64] (.bool (ref01_In p0.Count x3 64))] 5 [(62, .bool (!(ref01_In p0.Count x3 64)))] hF (ocons (ob1 (by kernel_rfl) (fun _ hd => (hS.later hd).cell (i := 0) (j := 4) rfl rfl)) (ocons (show Ob.ok _ Ext _ _ from fun hk w2 hd => ref01_In_ok p0.Count x3 64 _ rfl _ w2 (memOf_at w2) ) onil)) fun a w hF hx => ?_
    replace hS := hS.later hx
    refine wfn rfl ?_
    refine econd hF rfl (fun hc => ?_) (fun hc => ?_)
    ·replace h := bif_t h hc
     refine esr ?_
     refine rn 1 1 [(2, iv 3)] hF fun a hF => ?_
     refine wfn rfl ?_
     refine wpIn_ret (ret_then <| fn_ret [.tmp 2] [iv 3] hF rfl ⟨rfl, trivial⟩ ?_)
     have hr_ := Option.some.inj h
     subst hr_
     exact ⟨rfl, hS.ext⟩
    ·replace h := bif_f h hc
     refine wpIn_skip (norm_then ?_)
     refine esr ?_
     refine rn 1 1 [(2, iv 0)] hF fun a hF => ?_
     refine wfn rfl ?_
     refine wpIn_ret (fn_ret [.tmp 2] [iv 0] hF rfl ⟨rfl, trivial⟩ ?_)
     have hr_ := Option.some.inj h
     subst hr_
     exact ⟨rfl, hS.ext⟩

theorem ref01_Down_ok (F : Nat) (p0 : Int) (p1 : Int) (res : Int) (h : ref01_Down F p0 p1 = some res) (μ : Frz) (w0 : World) (hm : FrzAt μ w0) : Calls Try.prog 91 #[iv p0, iv p1] w0 (fun e w => e = .returned (iv res) ∧ Ext w0 w) := by
 obtain ⟨hlow, hS⟩ := hm.init
 have hext := Frz.ext_refl w0.heap.size μ
 rw [ref01_Down] at h
 refine fn_enterW Try.func91 rfl 16 [(0, iv p0), (1, iv p1)] rfl rfl (by kernel_rfl) fun a w hw hF => ?_
 replace hS : St w0 [fz w0 μ] w := by rw [hw]; exact hS
 clear hw
 refine esr ?_
 refine rn 1 1 [(0, iv p0), (1, iv p1)] hF fun a hF => ?_
 refine wfn rfl ?_
 refine esr ?_
 replace h := bindS h
 obtain ⟨x1, hx1, h⟩ := h
 refine rno 4 [.run [] (binOp .quo 3 (iv p0) (iv p1)) (iv x1)] 4 [(0, iv p0), (1, iv p1), (5, iv x1)] hF (ocons (obQuoC (fun _ => hx1)) onil) fun a hF => ?_
 refine wfn rfl ?_
 refine eseq ?_
 refine esr ?_
 replace h := bindS h
 obtain ⟨x2, hx2, h⟩ := h
 refine rno 4 [.run [] (binOp .rem 3 (iv p0) (iv p1)) (iv x2)] 4 [(5, iv x1), (12, .bool (decide (x2 < 0)))] hF (ocons (obRemC (fun _ => hx2)) onil) fun a hF => ?_
 refine wfn rfl ?_
 refine econd hF rfl (fun hc => ?_) (fun hc => ?_)
 ·replace h := bif_t h hc
  refine WI.region ?_
  replace h := bindS h
  obtain ⟨x3, hx3, h⟩ := h
  refine rno 3 [.run [] (binOp .sub 3 (iv x1) (iv 1)) (iv x3)] 3 [(5, iv x3)] hF (ocons (obSubC (fun _ => hx3)) onil) fun a hF => ?_
  refine wfn rfl ?_
  refine esr ?_
  refine rn 2 2 [(4, iv x3)] hF fun a hF => ?_
  refine wfn rfl ?_
  refine wpIn_ret (fn_ret [.tmp 4] [iv x3] hF rfl ⟨rfl, trivial⟩ ?_)
  have hr_ := Option.some.inj h
  subst hr_
  exact ⟨rfl, hS.ext⟩
 ·replace h := bif_f h hc
  refine wpIn_skip (norm_then ?_)
  refine esr ?_
  refine rn 2 2 [(4, iv x1)] hF fun a hF => ?_
  refine wfn rfl ?_
  refine wpIn_ret (fn_ret [.tmp 4] [iv x1] hF rfl ⟨rfl, trivial⟩ ?_)
  have hr_ := Option.some.inj h
  subst hr_
  exact ⟨rfl, hS.ext⟩

theorem slices_Clip_int_int_ok (F : Nat) (p0 : (List Int)) (res : (List Int)) (h : slices_Clip_int_int F p0 = some res) (μ : Frz) (w0 : World) (hm : FrzAt μ w0) {ad1 : Option Addr} {cap2 : Nat} (hA3 : ArrM μ 1 fI ad1 cap2 p0) : Calls Try.prog 93 #[sv ad1 p0 cap2] w0 (fun e w => e = .returned (.slice (slOff ad1 (ln p0).toNat (0 : Int).toNat 1) res.length res.length) ∧ Ext w0 w ∧ ∀ w2, Arr w2 1 fI ad1 p0.length cap2 p0 → Arr w2 1 fI (slOff ad1 (ln p0).toNat (0 : Int).toNat 1) res.length res.length res) := by
 obtain ⟨hlow, hS⟩ := hm.init
 have hext := Frz.ext_refl w0.heap.size μ
 rw [slices_Clip_int_int] at h
 refine fn_enterW Try.func93 rfl 9 [(0, sv ad1 p0 cap2)] rfl rfl (by kernel_rfl) fun a w hw hF => ?_
 replace hS : St w0 [fz w0 μ] w := by rw [hw]; exact hS
 clear hw
 refine esr ?_
 refine rn 1 1 [(0, sv ad1 p0 cap2)] hF fun a hF => ?_
 refine wfn rfl ?_
 refine esr ?_
 replace h := bindS h
 obtain ⟨l4, hl4, h⟩ := h
 have hA5 : ArrM μ 1 fI (slOff ad1 (ln p0).toNat (0 : Int).toNat 1) l4.length l4 := fun w_ hw_ => (hA3 w_ hw_).cutMD fI_len hl4
 refine rno 7 [.run [] (Instr.sliceAt 40 (sv ad1 p0 cap2) none (some (iv (ln p0))) (some (iv (ln p0)))) (.slice (slOff ad1 (ln p0).toNat (0 : Int).toNat 1) l4.length l4.length)] 7 [(2, .slice (slOff ad1 (ln p0).toNat (0 : Int).toNat 1) l4.length l4.length)] hF (ocons (obCutHM (by kernel_rfl) (hA3 _ (hS.frz (i := 0) rfl hlow)) (fun _ => hl4)) onil) fun a hF => ?_
 refine wfn rfl ?_
 refine wpIn_ret (fn_ret [.tmp 2] [.slice (slOff ad1 (ln p0).toNat (0 : Int).toNat 1) l4.length l4.length] hF rfl ⟨rfl, trivial⟩ ?_)
 have hr_ := Option.some.inj h
 subst hr_
 exact ⟨rfl, hS.ext, fun w2 hw2 => hw2.cutMD fI_len hl4⟩

theorem plan_line_all_ok (F : Nat) (p0 : plan_line) (res : Int) (h : plan_line_all F p0 = some res) (μ : Frz) (w0 : World) (hm : FrzAt μ w0) {pv1 : Option Addr} {ad2 : Option Addr} {cap3 : Nat} {ad4 : Option Addr} {cap5 : Nat} (hA6 : PtM μ 113 Rp113 pv1 p0.desk) (hA7 : ArrM μ 1 fI ad2 cap3 p0.jobs) (hA8 : ArrM μ 1 fI ad4 cap5 p0.at_) : Calls Try.prog 53 #[.agg #[.pointer pv1, sv ad2 p0.jobs cap3, sv ad4 p0.at_ cap5, iv p0.done]] w0 (fun e w => e = .returned (iv res) ∧ Ext w0 w) := by
 obtain ⟨hlow, hS⟩ := hm.init
 have hext := Frz.ext_refl w0.heap.size μ
 rw [plan_line_all] at h
 refine fn_enterW Try.func53 rfl 9 [(0, .agg #[.pointer pv1, sv ad2 p0.jobs cap3, sv ad4 p0.at_ cap5, iv p0.done])] rfl rfl (by kernel_rfl) fun a w hw hF => ?_
 replace hS : St w0 [fz w0 μ] w := by rw [hw]; exact hS
 clear hw
 refine esr ?_
 refine SK.wi (boxK (t := 102) (fun b9 => [(1, pb b9)]) (.agg #[.pointer pv1, sv ad2 p0.jobs cap3, sv ad4 p0.at_ cap5, iv p0.done]) #[.pointer pv1, sv ad2 p0.jobs cap3, sv ad4 p0.at_ cap5, iv p0.done] hF hS (by kernel_rfl) ⟨by kernel_rfl⟩ (by kernel_rfl) (fun _ => ⟨by kernel_rfl⟩) fun b9 w a hF hS => ?_)
 refine rn 1 2 [(1, pb b9)] hF fun a hF => ?_
 refine wfn rfl ?_
 refine eseq ?_
 replace h := bindS h
 obtain ⟨u10, hu10, h⟩ := h
 replace h := bindS h
 obtain ⟨y11, hy11, h⟩ := h
 refine runD (obs := [.run [] (Instr.loadAt 102 (pb b9)) (.agg #[.pointer pv1, sv ad2 p0.jobs cap3, sv ad4 p0.at_ cap5, iv p0.done]), .run [] (Instr.loadAt 40 (.pointer (some ⟨b9, 1, none⟩))) (sv ad2 p0.jobs cap3), .run [] (Instr.indexAt 40 (sv ad2 p0.jobs cap3) (iv 0)) (.pointer (some (slAddr ad2 0 1))), .run [] (Instr.loadAt 3 (.pointer (some (slAddr ad2 0 1)))) (iv u10), .call [] 79 #[.agg #[.pointer pv1, sv ad2 p0.jobs cap3, sv ad4 p0.at_ cap5, iv p0.done], iv u10] (iv y11)]) 7 [(2, iv y11)] (by kernel_rfl) hF (by kernel_rfl) (ocons (obN (us := [.pointer pv1, sv ad2 p0.jobs cap3, sv ad4 p0.at_ cap5, iv p0.done]) (by kernel_rfl) (fun _ hd => ((hS.later hd).blk (i := 0) rfl).cells rfl)) (ocons (ob1 (by kernel_rfl) (fun _ hd => (hS.later hd).cell (i := 0) (j := 1) rfl rfl)) (ocons (obIdxQ (hA7 _ (hS.frz (i := 1) rfl hlow)) (by kernel_rfl) (fun _ => hu10)) (ocons (obElQ (i := 0) 0 fI_len (fun _ hd => (hA7 _ ((hS.later hd).frz (i := 1) rfl hlow))) (by kernel_rfl) (fun _ => hu10) rfl) (ocons (show Ob.ok _ Ext _ _ from fun hk w2 hd => plan_line_next_ok F p0 u10 _ ((fun _ => hy11) hk) _ w2 (memOf_at w2) (hA6.mono Rp113.mono (FrzAt.le_mem ((hS.later hd).frz (i := 1) rfl hlow))) (hA7.mono (FrzAt.le_mem ((hS.later hd).frz (i := 1) rfl hlow))) (hA8.mono (FrzAt.le_mem ((hS.later hd).frz (i := 1) rfl hlow)))) onil))))) ⟨by kernel_rfl⟩ fun a w hF hx => ?_
 replace hS := hS.later hx
 refine wfn rfl ?_
 refine wpIn_ret (fn_ret [.tmp 2] [iv y11] hF rfl ⟨rfl, trivial⟩ ?_)
 have hr_ := Option.some.inj h
 subst hr_
 exact ⟨rfl, hS.ext⟩

theorem cmp_isNaN_int_ok (p0 : Int) (res : Bool) (h : cmp_isNaN_int p0 = res) (μ : Frz) (w0 : World) (hm : FrzAt μ w0) : Calls Try.prog 92 #[iv p0] w0 (fun e w => e = .returned (.bool res) ∧ Ext w0 w) := by
 obtain ⟨hlow, hS⟩ := hm.init
 have hext := Frz.ext_refl w0.heap.size μ
 rw [cmp_isNaN_int] at h
 refine fn_enterW Try.func92 rfl 6 [(0, iv p0)] rfl rfl (by kernel_rfl) fun a w hw hF => ?_
 replace hS : St w0 [fz w0 μ] w := by rw [hw]; exact hS
 clear hw
 refine esr ?_
 refine rn 1 1 [(0, iv p0)] hF fun a hF => ?_
 refine wfn rfl ?_
 refine esr ?_
 refine rn 4 4 [(2, .bool (p0 != p0))] hF fun a hF => ?_
 refine wfn rfl ?_
 refine wpIn_ret (fn_ret [.tmp 2] [.bool (p0 != p0)] hF rfl ⟨rfl, trivial⟩ ?_)
 subst h
 exact ⟨rfl, hS.ext⟩

theorem slices_Backward_int_int_1_ok {σ γ : Type} (F : Nat) (c0_ : (List Int)) (body : σ → (Int × Int) → Option (σ × Bool)) (s_ : σ) (res : σ × Bool) (h : slices_Backward_int_int_1 F c0_ body s_ = some res) (l_ : Nat) (μ : Frz) (w0 w1 : World) (RC : σ → Bool → γ → List Res) (PC : σ → Bool → γ → Frz → Prop) (hPm : ∀ s b g μ ν, PC s b g μ → μ.le ν → PC s b g ν) (hy : ∀ (s : σ) (x : (Int × Int)) (q : σ × Bool), body s x = some q → ∀ (ν : Frz) (g : γ) (G : List Res) (w : World), μ.ext w0.heap.size ν → FrzIn w0 ν → PC s true g ν → St w0 (fz w0 ν :: (RC s true g ++ G)) w → Eng.Yields Try.prog l_ #[iv x.1, iv x.2] w (fun c w2 => c = q.2 ∧ ∃ ν2 g2, ν.ext w0.heap.size ν2 ∧ FrzIn w0 ν2 ∧ PC q.1 q.2 g2 ν2 ∧ St w0 (fz w0 ν2 :: (RC q.1 q.2 g2 ++ G)) w2)) (g_ : γ) (G_ : List Res) (hlow : FrzIn w0 μ) (hP : PC s_ true g_ μ) (hS : St w0 (fz w0 μ :: (RC s_ true g_ ++ G_)) w1) {cb1 : Nat} {ad1 : Option Addr} {cap2 : Nat} (hcb1 : BlkM μ cb1 40 #[sv ad1 c0_ cap2]) (hA3 : ArrM μ 1 fI ad1 cap2 c0_) : Calls Try.prog 95 #[.func (.yield l_) #[] #[], pb cb1] w1 (fun e w => ∃ (ν_ : Frz) (g2_ : γ), μ.ext w0.heap.size ν_ ∧ FrzIn w0 ν_ ∧ PC res.1 res.2 g2_ ν_ ∧ e = .returned (.tuple #[]) ∧ St w0 (fz w0 ν_ :: (RC res.1 res.2 g2_ ++ G_)) w) := by
 rw [slices_Backward_int_int_1] at h
 have hext := Frz.ext_refl w0.heap.size μ
 refine fn_enterW Try.func95 rfl 19 [(0, .func (.yield l_) #[] #[]), (1, pb cb1)] rfl rfl (by kernel_rfl) fun a w hw hF => ?_
 replace hS : St w0 (fz w0 μ :: (RC s_ true g_ ++ G_)) w := by rw [hw]; exact hS
 clear hw
 refine esr ?_
 replace h := bindS h
 obtain ⟨x4, hx4, h⟩ := h
 refine rno 4 [.run [] (Instr.loadAt 40 (pb cb1)) (sv ad1 c0_ cap2), .run [] (binOp .sub 3 (iv (ln c0_)) (iv 1)) (iv x4)] 4 [(0, .func (.yield l_) #[] #[]), (1, pb cb1), (3, iv x4)] hF (ocons (ob1 (by kernel_rfl) (fun _ hd => (hcb1.blk ((hS.at_ hd).frz (i := 0) rfl hlow)).cell1 (j := 0) rfl)) (ocons (obSubC (fun _ => hx4)) onil)) fun a hF => ?_
 refine wfn rfl ?_
 refine wpIn_block ?_
 have hj29 := Frz.le_refl μ
 refine eloop (fun n_ a w => ∃ (x25 : Int) (s26 : σ) (ν24 : Frz) (g27 : γ), Fr 19 [] [(0, .func (.yield l_) #[] #[]), (1, pb cb1), (3, iv x25)] a ∧ St w0 (fz w0 ν24 :: (RC s26 true g27 ++ G_)) w ∧ (PC s26 true g27 ν24) ∧ (μ.le ν24) ∧ (μ.ext w0.heap.size ν24) ∧ (FrzIn w0 ν24) ∧ slices_Backward_int_int_1_L1 body c0_ n_ x25 s26 = some res) F ⟨x4, s_, μ, g_, hF.sub (by kernel_rfl), St.pickT (A := [fz w0 μ]) (T := (RC s_ true g_ ++ G_)) [0] (by decide) hS, hP, hj29, hext, hlow, h⟩ ?_
 clear hj29
 rintro n_ a w ⟨x25, s26, ν24, g27, hF, hS, hP, hle28, hext, hlow, h⟩
 rcases n_ with _ | n_
 ·cases (show (none : Option (σ × Bool)) = some res from h)
 replace hcb1 := hcb1.mono hle28
 replace hA3 := hA3.mono hle28
 obtain ⟨k1, hk1⟩ : ∃ k, k = slices_Backward_int_int_1_L1 body c0_ n_ := ⟨_, rfl⟩
 replace h : slices_Backward_int_int_1_B1 body c0_ k1 x25 s26 = some res := by rw [hk1]; exact h
 rw [slices_Backward_int_int_1_B1] at h
 refine eseq ?_
 refine esr ?_
 refine rn 2 2 [(0, .func (.yield l_) #[] #[]), (1, pb cb1), (3, iv x25), (8, .bool (decide (x25 ≥ 0)))] hF fun a hF => ?_
 refine wfn rfl ?_
 refine econd hF rfl (fun hc => ?_) (fun hc => ?_)
 ·replace h := bif_t h hc
  refine wpIn_skip (norm_then ?_)
  refine eseq ?_
  refine wpIn_block ?_
  refine esr ?_
  replace h := bindS h
  obtain ⟨u30, hu30, h⟩ := h
  refine rno 6 [.run [] (Instr.loadAt 40 (pb cb1)) (sv ad1 c0_ cap2), .run [] (Instr.indexAt 40 (sv ad1 c0_ cap2) (iv x25)) (.pointer (some (slAddr ad1 x25 1))), .run [] (Instr.loadAt 3 (.pointer (some (slAddr ad1 x25 1)))) (iv u30)] 6 [(0, .func (.yield l_) #[] #[]), (1, pb cb1), (3, iv x25), (11, .func (.yield l_) #[] #[]), (12, iv x25), (16, iv u30)] hF (ocons (ob1 (by kernel_rfl) (fun _ hd => (hcb1.blk ((hS.at_ hd).frz (i := 0) rfl hlow)).cell1 (j := 0) rfl)) (ocons (obIdxQ (hA3 _ (hS.frz (i := 0) rfl hlow)) (by kernel_rfl) (fun _ => hu30)) (ocons (obElQ (i := x25) 0 fI_len (fun _ hd => (hA3 _ ((hS.at_ hd).frz (i := 0) rfl hlow))) (by kernel_rfl) (fun _ => hu30) rfl) onil))) fun a hF => ?_
  replace h := bindS h
  obtain ⟨q31, hq31, h⟩ := h
  refine yield_ (l := l_) (args := #[iv x25, iv u30]) 7 (fun bq_ => [(0, .func (.yield l_) #[] #[]), (1, pb cb1), (3, iv x25), (17, .bool bq_)]) hF (by kernel_rfl) ⟨by kernel_rfl⟩ (hy s26 (x25, u30) q31 hq31 ν24 g27 (G_ ++ []) w  hext hlow hP  (St.rot [] hS)) (fun _ => ⟨by kernel_rfl⟩) rfl ?_
  rintro bq_ w a ⟨hc_, ν32, g33, hx34, hlow, hP, hS⟩ hF
  subst hc_
  replace hS := St.unrot [] hS
  replace hext := Frz.ext_trans hext hx34
  replace hcb1 := hcb1.mono hx34.1
  replace hA3 := hA3.mono hx34.1
  replace hle28 := Frz.le_trans hle28 hx34.1
  replace hS : St w0 (fz w0 ν32 :: (RC q31.1 (q31.2) g33 ++ G_)) w := hS
  rcases Bool.eq_false_or_eq_true (q31.2) with hb35 | hb35
  ·replace h := bif_t h hb35
   rw [hb35] at hS hP
   rw [hb35] at hF
   replace hS : St w0 (fz w0 ν32 :: (RC q31.1 true g33 ++ G_)) w := hS
   refine rn 1 8 [(0, .func (.yield l_) #[] #[]), (1, pb cb1), (3, iv x25), (18, .bool false)] hF fun a hF => ?_
   refine wfn rfl ?_
   refine wpIn_cond_false (hF.get rfl) ?_
   refine wpIn_skip (norm_block <| norm_then <| ?_)
   refine WI.region ?_
   replace h := bindS h
   obtain ⟨x36, hx36, h⟩ := h
   refine rno 3 [.run [] (binOp .sub 3 (iv x25) (iv 1)) (iv x36)] 3 [(0, .func (.yield l_) #[] #[]), (1, pb cb1), (3, iv x36)] hF (ocons (obSubC (fun _ => hx36)) onil) fun a hF => ?_
   refine wfn rfl ?_
   rw [hk1] at h
   exact ⟨n_, Nat.lt_succ_self _, x36, q31.1, ν32, g33, hF.sub (by kernel_rfl), St.pickT (A := [fz w0 ν32]) (T := (RC q31.1 true g33 ++ G_)) [0] (by decide) hS, hP, hle28, hext, hlow, h⟩
  ·replace h := bif_f h hb35
   rw [hb35] at hS hP
   rw [hb35] at hF
   replace hS : St w0 (fz w0 ν32 :: (RC q31.1 false g33 ++ G_)) w := hS
   refine rn 1 8 [(0, .func (.yield l_) #[] #[]), (1, pb cb1), (3, iv x25), (18, .bool true)] hF fun a hF => ?_
   refine wfn rfl ?_
   refine wpIn_cond_true (hF.get rfl) ?_
   refine wpIn_ret (ret_block <| ret_then <| ret_then <| ret_block <| fn_ret [] [] hF rfl trivial ?_)
   have hr_ := Option.some.inj h
   subst hr_
   exact ⟨ν32, g33, hext, hlow, hP, rfl, hS⟩
 ·replace h := bif_f h hc
  refine wpIn_exit (exit_then <| exit_then <| exit_hit <| ?_)
  refine fn_end hF rfl ?_
  have hr_ := Option.some.inj h
  subst hr_
  exact ⟨ν24, g27, hext, hlow, hP, rfl, hS⟩

theorem slices_Equal_int_int_ok (F : Nat) (p0 : (List Int)) (p1 : (List Int)) (res : Bool) (h : slices_Equal_int_int F p0 p1 = some res) (μ : Frz) (w0 : World) (hm : FrzAt μ w0) {ad1 : Option Addr} {cap2 : Nat} {ad4 : Option Addr} {cap5 : Nat} (hA3 : ArrM μ 1 fI ad1 cap2 p0) (hA6 : ArrM μ 1 fI ad4 cap5 p1) : Calls Try.prog 89 #[sv ad1 p0 cap2, sv ad4 p1 cap5] w0 (fun e w => e = .returned (.bool res) ∧ Ext w0 w) := by
 obtain ⟨hlow, hS⟩ := hm.init
 have hext := Frz.ext_refl w0.heap.size μ
 rw [slices_Equal_int_int] at h
 refine fn_enterW Try.func89 rfl 26 [(0, sv ad1 p0 cap2), (1, sv ad4 p1 cap5)] rfl rfl (by kernel_rfl) fun a w hw hF => ?_
 replace hS : St w0 [fz w0 μ] w := by rw [hw]; exact hS
 clear hw
 refine esr ?_
 refine rn 1 1 [(0, sv ad1 p0 cap2), (1, sv ad4 p1 cap5)] hF fun a hF => ?_
 refine wfn rfl ?_
 refine eseq ?_
 refine esr ?_
 refine rn 5 5 [(0, sv ad1 p0 cap2), (1, sv ad4 p1 cap5), (10, .bool ((ln p0) != (ln p1)))] hF fun a hF => ?_
 refine wfn rfl ?_
 refine econd hF rfl (fun hc => ?_) (fun hc => ?_)
 ·replace h := bif_t h hc
  refine esr ?_
  refine rn 1 1 [(4, .bool false)] hF fun a hF => ?_
  refine wfn rfl ?_
  refine wpIn_ret (ret_then <| fn_ret [.tmp 4] [.bool false] hF rfl ⟨rfl, trivial⟩ ?_)
  have hr_ := Option.some.inj h
  subst hr_
  exact ⟨rfl, hS.ext⟩
 ·replace h := bif_f h hc
  refine wpIn_skip (norm_then ?_)
  refine ecut (fun a w => Fr 26 [] [] a ∧ St w0 [fz w0 μ] w ∧ slices_Equal_int_int_K1 = some res) ?_ ?_
  ·skip
   refine esr ?_
   refine rn 3 3 [(0, sv ad1 p0 cap2), (1, sv ad4 p1 cap5), (12, iv (ln p0)), (13, iv 0)] hF fun a hF => ?_
   refine wfn rfl ?_
   refine wpIn_block ?_
   refine eloop (fun n_ a w => ∃ (x27 : Int), Fr 26 [] [(0, sv ad1 p0 cap2), (1, sv ad4 p1 cap5), (12, iv (ln p0)), (13, iv x27)] a ∧ St w0 [fz w0 μ] w ∧ slices_Equal_int_int_L2 p0 p1 n_ x27 = some res) F ⟨0, hF.sub (by kernel_rfl), St.pick [0] (by decide) hS, h⟩ ?_
   rintro n_ a w ⟨x27, hF, hS, h⟩
   rcases n_ with _ | n_
   ·cases (show (none : Option Bool) = some res from h)
   obtain ⟨k2, hk2⟩ : ∃ k, k = slices_Equal_int_int_L2 p0 p1 n_ := ⟨_, rfl⟩
   replace h : slices_Equal_int_int_B2 p0 p1 k2 x27 = some res := by rw [hk2]; exact h
   rw [slices_Equal_int_int_B2] at h
   refine esr ?_
   refine rn 1 1 [(0, sv ad1 p0 cap2), (1, sv ad4 p1 cap5), (12, iv (ln p0)), (13, iv x27), (14, .bool (decide (x27 < (ln p0))))] hF fun a hF => ?_
   refine wfn rfl ?_
   refine eseq ?_
   refine econd hF rfl (fun hc => ?_) (fun hc => ?_)
   ·replace h := bif_t h hc
    refine wpIn_skip (norm_then ?_)
    refine eseq ?_
    refine wpIn_block ?_
    refine esr ?_
    refine rn 2 2 [(0, sv ad1 p0 cap2), (1, sv ad4 p1 cap5), (5, iv x27), (12, iv (ln p0)), (13, iv x27)] hF fun a hF => ?_
    refine wfn rfl ?_
    refine eseq ?_
    replace h := bindS h
    obtain ⟨u29, hu29, h⟩ := h
    replace h := bindS h
    obtain ⟨u30, hu30, h⟩ := h
    refine runD (obs := [.run [] (Instr.indexAt 40 (sv ad1 p0 cap2) (iv x27)) (.pointer (some (slAddr ad1 x27 1))), .run [] (Instr.loadAt 3 (.pointer (some (slAddr ad1 x27 1)))) (iv u29), .run [] (Instr.indexAt 40 (sv ad4 p1 cap5) (iv x27)) (.pointer (some (slAddr ad4 x27 1))), .run [] (Instr.loadAt 3 (.pointer (some (slAddr ad4 x27 1)))) (iv u30)]) 9 [(0, sv ad1 p0 cap2), (1, sv ad4 p1 cap5), (12, iv (ln p0)), (13, iv x27), (24, .bool (u29 != u30))] (by kernel_rfl) hF (by kernel_rfl) (ocons (obIdxQ (hA3 _ (hS.frz (i := 0) rfl hlow)) (by kernel_rfl) (fun _ => hu29)) (ocons (obElQ (i := x27) 0 fI_len (fun _ hd => (hA3 _ ((hS.later hd).frz (i := 0) rfl hlow))) (by kernel_rfl) (fun _ => hu29) rfl) (ocons (obIdxQ (hA6 _ (hS.frz (i := 0) rfl hlow)) (by kernel_rfl) (fun _ => hu30)) (ocons (obElQ (i := x27) 0 fI_len (fun _ hd => (hA6 _ ((hS.later hd).frz (i := 0) rfl hlow))) (by kernel_rfl) (fun _ => hu30) rfl) onil)))) ⟨by kernel_rfl⟩ fun a w hF hx => ?_
    replace hS := hS.later hx
    refine wfn rfl ?_
    refine econd hF rfl (fun hc => ?_) (fun hc => ?_)
    ·replace h := bif_t h hc
     refine esr ?_
     refine rn 1 1 [(4, .bool false)] hF fun a hF => ?_
     refine wfn rfl ?_
     refine wpIn_ret (ret_block <| ret_then <| ret_then <| ret_block <| ret_then <| fn_ret [.tmp 4] [.bool false] hF rfl ⟨rfl, trivial⟩ ?_)
     have hr_ := Option.some.inj h
     subst hr_
     exact ⟨rfl, hS.ext⟩
    ·replace h := bif_f h hc
     refine wpIn_skip (norm_block <| norm_then <| ?_)
     refine WI.region ?_
     replace h := bindS h
     obtain ⟨x31, hx31, h⟩ := h
     refine rno 2 [.run [] (binOp .add 3 (iv x27) (iv 1)) (iv x31)] 2 [(0, sv ad1 p0 cap2), (1, sv ad4 p1 cap5), (12, iv (ln p0)), (13, iv x31)] hF (ocons (obAddC (fun _ => hx31)) onil) fun a hF => ?_
     refine wfn rfl ?_
     rw [hk2] at h
     exact ⟨n_, Nat.lt_succ_self _, x31, hF.sub (by kernel_rfl), St.pick [0] (by decide) hS, h⟩
   ·replace h := bif_f h hc
    refine wpIn_exit (exit_then <| exit_then <| exit_hit <| norm_then ?_)
    exact ⟨hF.sub (by kernel_rfl), St.pick [0] (by decide) hS, h⟩
  rintro a w ⟨hF, hS, h⟩
  rw [slices_Equal_int_int_K1] at h
  refine esr ?_
  refine rn 1 1 [(4, .bool true)] hF fun a hF => ?_
  refine wfn rfl ?_
  refine wpIn_ret (fn_ret [.tmp 4] [.bool true] hF rfl ⟨rfl, trivial⟩ ?_)
  have hr_ := Option.some.inj h
  subst hr_
  exact ⟨rfl, hS.ext⟩

theorem law06_jobs_ok (F : Nat) (p0 : (List ref06_Job)) (res : (List plan_Job)) (h : law06_jobs F p0 = some res) (μ : Frz) (w0 : World) (hm : FrzAt μ w0) {ad1 : Option Addr} {cap2 : Nat} (hA3 : ArrM μ 8 ref06_Job.cells ad1 cap2 p0) : Calls Try.prog 19 #[sv ad1 p0 cap2] w0 (fun e w => ∃ zad0 zcap0, e = .returned (sv zad0 res zcap0) ∧ St w0 [arr 34 8 plan_Job.cells zad0 res.length zcap0 res] w) := by
 obtain ⟨hlow, hS⟩ := hm.init
 have hext := Frz.ext_refl w0.heap.size μ
 rw [law06_jobs] at h
 refine fn_enterW Try.func19 rfl 20 [(0, sv ad1 p0 cap2)] rfl rfl (by kernel_rfl) fun a w hw hF => ?_
 replace hS : St w0 [fz w0 μ] w := by rw [hw]; exact hS
 clear hw
 refine esr ?_
 refine rn 1 1 [(0, sv ad1 p0 cap2)] hF fun a hF => ?_
 refine wfn rfl ?_
 refine esr ?_
 refine rn 1 1 [(0, sv ad1 p0 cap2), (3, .slice none 0 0)] hF fun a hF => ?_
 refine wfn rfl ?_
 refine ecut (fun a w => ∃ (l33 : (List plan_Job)) (ad31 : Option Addr) (cap32 : Nat), Fr 20 [] [(3, sv ad31 l33 cap32)] a ∧ St w0 [arr 34 8 plan_Job.cells ad31 l33.length cap32 l33, fz w0 μ] w ∧ law06_jobs_K1 l33 = some res) ?_ ?_
 ·skip
  refine esr ?_
  refine rn 1 1 [(0, sv ad1 p0 cap2), (3, .slice none 0 0), (4, iv 0)] hF fun a hF => ?_
  refine wfn rfl ?_
  refine wpIn_block ?_
  replace hS := hS.nilarr 34 8 plan_Job.cells
  refine eloop (fun n_ a w => ∃ (l53 : (List plan_Job)) (x54 : Int) (ad51 : Option Addr) (cap52 : Nat), Fr 20 [] [(0, sv ad1 p0 cap2), (3, sv ad51 l53 cap52), (4, iv x54)] a ∧ St w0 [arr 34 8 plan_Job.cells ad51 l53.length cap52 l53, fz w0 μ] w ∧ law06_jobs_L2 p0 n_ l53 x54 = some res) F ⟨[], 0, none, 0, hF.sub (by kernel_rfl), St.pick [0, 1] (by decide) hS, h⟩ ?_
  rintro n_ a w ⟨l53, x54, ad51, cap52, hF, hS, h⟩
  rcases n_ with _ | n_
  ·cases (show (none : Option (List plan_Job)) = some res from h)
  obtain ⟨k2, hk2⟩ : ∃ k, k = law06_jobs_L2 p0 n_ := ⟨_, rfl⟩
  replace h : law06_jobs_B2 p0 k2 l53 x54 = some res := by rw [hk2]; exact h
  rw [law06_jobs_B2] at h
  refine eseq ?_
  refine esr ?_
  refine rn 4 4 [(0, sv ad1 p0 cap2), (3, sv ad51 l53 cap52), (4, iv x54), (8, .bool (decide (x54 < (ln p0))))] hF fun a hF => ?_
  refine wfn rfl ?_
  refine econd hF rfl (fun hc => ?_) (fun hc => ?_)
  ·replace h := bif_t h hc
   refine wpIn_skip (norm_then ?_)
   refine eseq ?_
   refine wpIn_block ?_
   refine WI.region ?_
   replace h := bindS h
   obtain ⟨u56, hu56, h⟩ := h
   refine rx 6 [.run [] (Instr.indexAt 39 (sv ad1 p0 cap2) (iv x54)) (.pointer (some (slAddr ad1 x54 8))), .run [] (Instr.loadAt 27 (.pointer (some (slAddr ad1 x54 8)))) (u56.ag), .call [] 15 #[u56.ag] ((law06_job u56).ag)] 6 [(0, sv ad1 p0 cap2), (3, sv ad51 l53 cap52), (4, iv x54), (11, sv ad51 l53 cap52), (16, (law06_job u56).ag)] hF (ocons (obIdxQ (hA3 _ (hS.frz (i := 1) rfl hlow)) (by kernel_rfl) (fun _ => hu56)) (ocons (obElNQ (m := 8) (i := x54) (us := u56.cells) 0 ref06_Job.cells_len (fun _ hd => (hA3 _ ((hS.later hd).frz (i := 1) rfl hlow))) (by kernel_rfl) (fun _ => hu56) ⟨rfl, rfl⟩) (ocons (show Ob.ok _ Ext _ _ from fun hk w2 hd => law06_job_ok u56 _ rfl _ w2 (memOf_at w2) ) onil))) fun a w hF hx => ?_
   replace hS := hS.later hx
   refine SK.wi (litK (e := 34) (sz := 8) (f := plan_Job.cells) (t := 43) (len := 1) (fun b57 => [(0, sv ad1 p0 cap2), (3, sv ad51 l53 cap52), (4, iv x54), (11, sv ad51 l53 cap52), (17, sb b57 1)]) #[(0, (law06_job u56).ag)] (law06_job u56).ar ([(law06_job u56)]) hF hS (by kernel_rfl) ⟨by kernel_rfl⟩ (by kernel_rfl) plan_Job.cells_len rfl rfl (by kernel_rfl) (fun _ => ⟨by kernel_rfl⟩) fun b57 w a hF hS => ?_)
   replace h := bindS h
   obtain ⟨l58, hl58, h⟩ := h
   refine SK.wi (appK (t := 43) (ty := 43) (bytes := 64) (l := l53) (l' := ([(law06_job u56)])) (fun ad59 cap60 => [(0, sv ad1 p0 cap2), (3, sv ad51 l53 cap52), (4, iv x54), (18, sv ad59 l58 cap60)]) 1 hF hS rfl (by kernel_rfl) ⟨by kernel_rfl⟩ (by kernel_rfl) (hS.arr (i := 0) rfl) (fun _ _ => rfl) hl58 (fun _ _ => ⟨by kernel_rfl⟩) fun ad59 cap60 w a hF hS => ?_)
   refine rn 1 9 [(0, sv ad1 p0 cap2), (3, sv ad59 l58 cap60), (4, iv x54)] hF fun a hF => ?_
   refine WI.fin rfl (norm_block <| norm_then <| ?_)
   refine WI.region ?_
   replace h := bindS h
   obtain ⟨x61, hx61, h⟩ := h
   refine rno 3 [.run [] (binOp .add 3 (iv x54) (iv 1)) (iv x61)] 3 [(0, sv ad1 p0 cap2), (3, sv ad59 l58 cap60), (4, iv x61)] hF (ocons (obAddC (fun _ => hx61)) onil) fun a hF => ?_
   refine wfn rfl ?_
   rw [hk2] at h
   exact ⟨n_, Nat.lt_succ_self _, l58, x61, ad59, cap60, hF.sub (by kernel_rfl), St.pick [1, 2] (by decide) hS, h⟩
  ·replace h := bif_f h hc
   refine wpIn_exit (exit_then <| exit_then <| exit_hit <| norm_then ?_)
   exact ⟨l53, ad51, cap52, hF.sub (by kernel_rfl), St.pick [0, 1] (by decide) hS, h⟩
 rintro a w ⟨l33, ad31, cap32, hF, hS, h⟩
 rw [law06_jobs_K1] at h
 refine esr ?_
 refine rn 2 2 [(2, sv ad31 l33 cap32)] hF fun a hF => ?_
 refine wfn rfl ?_
 refine wpIn_ret (fn_ret [.tmp 2] [sv ad31 l33 cap32] hF rfl ⟨rfl, trivial⟩ ?_)
 have hr_ := Option.some.inj h
 subst hr_
 exact ⟨_, _, rfl, St.pick [0] (by decide) hS⟩

theorem ref06_move_ok (F : Nat) (p0 : ref06_Radar) (p1 : ref06_Job) (p2 : ref06_Job) (res : Int) (h : ref06_move F p0 p1 p2 = some res) (μ : Frz) (w0 : World) (hm : FrzAt μ w0) : Calls Try.prog 82 #[p0.ag, p1.ag, p2.ag] w0 (fun e w => e = .returned (iv res) ∧ Ext w0 w) := by
 obtain ⟨hlow, hS⟩ := hm.init
 have hext := Frz.ext_refl w0.heap.size μ
 rw [ref06_move] at h
 refine fn_enterW Try.func82 rfl 21 [(0, p0.ag), (1, p1.ag), (2, p2.ag)] rfl rfl (by kernel_rfl) fun a w hw hF => ?_
 replace hS : St w0 [fz w0 μ] w := by rw [hw]; exact hS
 clear hw
 refine esr ?_
 refine SK.wi (boxK (t := 23) (fun b1 => [(1, p1.ag), (2, p2.ag), (3, pb b1)]) (p0.ag) p0.ar hF hS (by kernel_rfl) ⟨by kernel_rfl⟩ (by kernel_rfl) (fun _ => ⟨by kernel_rfl⟩) fun b1 w a hF hS => ?_)
 refine SK.wi (boxK (t := 27) (fun b2 => [(2, p2.ag), (3, pb b1), (4, pb b2)]) (p1.ag) p1.ar hF hS (by kernel_rfl) ⟨by kernel_rfl⟩ (by kernel_rfl) (fun _ => ⟨by kernel_rfl⟩) fun b2 w a hF hS => ?_)
 refine SK.wi (boxK (t := 27) (fun b3 => [(3, pb b1), (4, pb b2), (5, pb b3)]) (p2.ag) p2.ar hF hS (by kernel_rfl) ⟨by kernel_rfl⟩ (by kernel_rfl) (fun _ => ⟨by kernel_rfl⟩) fun b3 w a hF hS => ?_)
 refine rn 1 4 [(3, pb b1), (4, pb b2), (5, pb b3)] hF fun a hF => ?_
 refine wfn rfl ?_
 refine esr ?_
 replace h := bindS h
 obtain ⟨x4, hx4, h⟩ := h
 replace h := bindS h
 obtain ⟨x5, hx5, h⟩ := h
 replace h := bindS h
 obtain ⟨x6, hx6, h⟩ := h
 refine rno 15 [.run [] (Instr.loadAt 3 (.pointer (some ⟨b1, 2, none⟩))) (iv p0.Move), .run [] (Instr.loadAt 3 (pb b2)) (iv p1.Tilt), .run [] (Instr.loadAt 3 (pb b3)) (iv p2.Tilt), .run [] (binOp .sub 3 (iv p1.Tilt) (iv p2.Tilt)) (iv x4), .run [] (Instr.loadAt 3 (pb b3)) (iv p2.Tilt), .run [] (Instr.loadAt 3 (pb b2)) (iv p1.Tilt), .run [] (binOp .sub 3 (iv p2.Tilt) (iv p1.Tilt)) (iv x5), .run [] (binOp .mul 3 (iv p0.Move) (iv (if x5 > x4 then x5 else x4))) (iv x6)] 15 [(6, iv x6)] hF (ocons (ob1 (by kernel_rfl) (fun _ hd => (hS.at_ hd).cell (i := 2) (j := 2) rfl rfl)) (ocons (ob1 (by kernel_rfl) (fun _ hd => (hS.at_ hd).cell (i := 1) (j := 0) rfl rfl)) (ocons (ob1 (by kernel_rfl) (fun _ hd => (hS.at_ hd).cell (i := 0) (j := 0) rfl rfl)) (ocons (obSubC (fun _ => hx4)) (ocons (ob1 (by kernel_rfl) (fun _ hd => (hS.at_ hd).cell (i := 0) (j := 0) rfl rfl)) (ocons (ob1 (by kernel_rfl) (fun _ hd => (hS.at_ hd).cell (i := 1) (j := 0) rfl rfl)) (ocons (obSubC (fun _ => hx5)) (ocons (obMulC (fun _ => hx6)) onil)))))))) fun a hF => ?_
 refine wfn rfl ?_
 refine wpIn_ret (fn_ret [.tmp 6] [iv x6] hF rfl ⟨rfl, trivial⟩ ?_)
 have hr_ := Option.some.inj h
 subst hr_
 exact ⟨rfl, hS.ext⟩
end Go.Proofs.Ytejffembnkojjaa
