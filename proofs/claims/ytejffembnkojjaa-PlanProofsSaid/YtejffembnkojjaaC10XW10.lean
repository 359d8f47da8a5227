/- Walks, written by program (wip/gen/dec.py). -/
import Derived.Test.YtejffembnkojjaaC10XD
import Derived.Test.YtejffembnkojjaaProg
import Derived.Test.YtejffembnkojjaaC10XW0
import Derived.Test.YtejffembnkojjaaC10XW4
import Derived.Test.YtejffembnkojjaaC10XW6
import Derived.Test.YtejffembnkojjaaC10XW8
import Derived.Test.YtejffembnkojjaaC10XW9
namespace Go.Proofs.Ytejffembnkojjaa
open Go Go.RowKit Go.Eng
set_option maxRecDepth 10000
set_option maxHeartbeats 4000000
set_option linter.unusedVariables false
set_option linter.unusedSimpArgs false
theorem law06_works_ok (F : Nat) (res : Bool) (h : law06_works F = some res) (μ : Frz) (w0 : World) (hm : FrzAt μ w0) : Calls Try.prog 17 #[] w0 (fun e w => e = .returned (.bool res) ∧ Ext w0 w) := by
 obtain ⟨hlow, hS⟩ := hm.init
 have hext := Frz.ext_refl w0.heap.size μ
 rw [law06_works] at h
 refine fn_enterW Try.func17 rfl 260 [] rfl rfl (by kernel_rfl) fun a w hw hF => ?_
 replace hS : St w0 [fz w0 μ] w := by rw [hw]; exact hS
 clear hw
 refine esr ?_
 refine rn 1 1 [] hF fun a hF => ?_
 refine wfn rfl ?_
 refine esr ?_
 refine rn 1 1 [(24, .agg #[iv 4, iv 0, iv 1, iv 1000])] hF fun a hF => ?_
 refine SK.wi (allocK (t := 31) (fun b1 => [(1, pb b1), (24, .agg #[iv 4, iv 0, iv 1, iv 1000])]) #[iv 0, iv 0, iv 0, iv 0] hF hS (by kernel_rfl) ⟨by kernel_rfl⟩ (by kernel_rfl) (fun _ => ⟨by kernel_rfl⟩) fun b1 w a hF hS => ?_)
 refine SK.wi (storeK (t := 31) [(1, pb b1)] 0 0 (.agg #[iv 4, iv 0, iv 1, iv 1000]) #[iv 4, iv 0, iv 1, iv 1000] hF hS rfl (by kernel_rfl) ⟨by kernel_rfl⟩ (by kernel_rfl) (by kernel_rfl) (by kernel_rfl) (by kernel_rfl) ⟨by kernel_rfl⟩ fun w a hF hS => ?_)
 refine wfn rfl ?_
 refine esr ?_
 refine rx 3 [.call [] 46 #[iv 0, iv 60] ((law06_example 0 60).ag), .call [] 46 #[iv 2, iv 50] ((law06_example 2 50).ag), .call [] 46 #[iv 10, iv 40] ((law06_example 10 40).ag)] 3 [(1, pb b1), (25, (law06_example 0 60).ag), (26, (law06_example 2 50).ag), (27, (law06_example 10 40).ag)] hF (ocons (show Ob.ok _ Ext _ _ from fun hk w2 hd => law06_example_ok 0 60 _ rfl _ w2 (memOf_at w2) ) (ocons (show Ob.ok _ Ext _ _ from fun hk w2 hd => law06_example_ok 2 50 _ rfl _ w2 (memOf_at w2) ) (ocons (show Ob.ok _ Ext _ _ from fun hk w2 hd => law06_example_ok 10 40 _ rfl _ w2 (memOf_at w2) ) onil))) fun a w hF hx => ?_
 replace hS := hS.later hx
 refine SK.wi (allocK (t := 34) (fun b2 => [(1, pb b1), (2, pb b2), (25, (law06_example 0 60).ag), (26, (law06_example 2 50).ag), (27, (law06_example 10 40).ag)]) #[iv 0, iv 0, iv 0, iv 0, iv 0, iv 0, iv 0, iv 0] hF hS (by kernel_rfl) ⟨by kernel_rfl⟩ (by kernel_rfl) (fun _ => ⟨by kernel_rfl⟩) fun b2 w a hF hS => ?_)
 refine SK.wi (allocK (t := 34) (fun b3 => [(1, pb b1), (2, pb b2), (3, pb b3), (25, (law06_example 0 60).ag), (26, (law06_example 2 50).ag), (27, (law06_example 10 40).ag)]) #[iv 0, iv 0, iv 0, iv 0, iv 0, iv 0, iv 0, iv 0] hF hS (by kernel_rfl) ⟨by kernel_rfl⟩ (by kernel_rfl) (fun _ => ⟨by kernel_rfl⟩) fun b3 w a hF hS => ?_)
 refine SK.wi (allocK (t := 34) (fun b4 => [(1, pb b1), (2, pb b2), (3, pb b3), (4, pb b4), (25, (law06_example 0 60).ag), (26, (law06_example 2 50).ag), (27, (law06_example 10 40).ag)]) #[iv 0, iv 0, iv 0, iv 0, iv 0, iv 0, iv 0, iv 0] hF hS (by kernel_rfl) ⟨by kernel_rfl⟩ (by kernel_rfl) (fun _ => ⟨by kernel_rfl⟩) fun b4 w a hF hS => ?_)
 refine SK.wi (storeK (t := 34) [(1, pb b1), (2, pb b2), (3, pb b3), (4, pb b4), (26, (law06_example 2 50).ag), (27, (law06_example 10 40).ag)] 2 0 ((law06_example 0 60).ag) (law06_example 0 60).ar hF hS rfl (by kernel_rfl) ⟨by kernel_rfl⟩ (by kernel_rfl) (by kernel_rfl) (by kernel_rfl) (by kernel_rfl) ⟨by kernel_rfl⟩ fun w a hF hS => ?_)
 refine SK.wi (storeK (t := 34) [(1, pb b1), (2, pb b2), (3, pb b3), (4, pb b4), (27, (law06_example 10 40).ag)] 1 0 ((law06_example 2 50).ag) (law06_example 2 50).ar hF hS rfl (by kernel_rfl) ⟨by kernel_rfl⟩ (by kernel_rfl) (by kernel_rfl) (by kernel_rfl) (by kernel_rfl) ⟨by kernel_rfl⟩ fun w a hF hS => ?_)
 refine SK.wi (storeK (t := 34) [(1, pb b1), (2, pb b2), (3, pb b3), (4, pb b4)] 0 0 ((law06_example 10 40).ag) (law06_example 10 40).ar hF hS rfl (by kernel_rfl) ⟨by kernel_rfl⟩ (by kernel_rfl) (by kernel_rfl) (by kernel_rfl) (by kernel_rfl) ⟨by kernel_rfl⟩ fun w a hF hS => ?_)
 refine wfn rfl ?_
 refine esr ?_
 refine rno 1 [.run [] (Instr.loadAt 34 (pb b2)) ((law06_example 0 60).ag)] 1 [(1, pb b1), (2, pb b2), (3, pb b3), (4, pb b4), (28, (law06_example 0 60).ag)] hF (ocons (obN (us := (law06_example 0 60).cells) (by kernel_rfl) (fun _ hd => ((hS.at_ hd).blk (i := 2) rfl).cells rfl)) onil) fun a hF => ?_
 refine SK.wi (allocK (t := 34) (fun b5 => [(1, pb b1), (2, pb b2), (3, pb b3), (4, pb b4), (5, pb b5), (28, (law06_example 0 60).ag)]) #[iv 0, iv 0, iv 0, iv 0, iv 0, iv 0, iv 0, iv 0] hF hS (by kernel_rfl) ⟨by kernel_rfl⟩ (by kernel_rfl) (fun _ => ⟨by kernel_rfl⟩) fun b5 w a hF hS => ?_)
 refine SK.wi (storeK (t := 34) [(1, pb b1), (2, pb b2), (3, pb b3), (4, pb b4), (5, pb b5)] 0 0 ((law06_example 0 60).ag) (law06_example 0 60).ar hF hS rfl (by kernel_rfl) ⟨by kernel_rfl⟩ (by kernel_rfl) (by kernel_rfl) (by kernel_rfl) (by kernel_rfl) ⟨by kernel_rfl⟩ fun w a hF hS => ?_)
 refine wfn rfl ?_
 refine esr ?_
 refine rn 2 2 [(1, pb b1), (2, pb b2), (3, pb b3), (4, pb b4), (5, pb b5), (29, .agg #[iv 100000, iv 3, iv 1000, iv 2000, iv 3]), (30, .pointer (some ⟨b5, 1, none⟩))] hF fun a hF => ?_
 refine SK.wi (storeK (t := 32) [(1, pb b1), (2, pb b2), (3, pb b3), (4, pb b4), (5, pb b5)] 0 1 (.agg #[iv 100000, iv 3, iv 1000, iv 2000, iv 3]) #[iv ((law06_example 0 60).Tilt), iv 100000, iv 3, iv 1000, iv 2000, iv 3, iv ((law06_example 0 60).Width), iv ((law06_example 0 60).Every)] hF hS rfl (by kernel_rfl) ⟨by kernel_rfl⟩ (by kernel_rfl) (by kernel_rfl) (by kernel_rfl) (by kernel_rfl) ⟨by kernel_rfl⟩ fun w a hF hS => ?_)
 refine wfn rfl ?_
 refine esr ?_
 replace h := bindS h
 obtain ⟨y6, hy6, h⟩ := h
 refine rx 8 [.run [] (Instr.loadAt 31 (pb b1)) (.agg #[iv 4, iv 0, iv 1, iv 1000]), .run [] (Instr.loadAt 34 (pb b2)) ((law06_example 0 60).ag), .call [] 14 #[.agg #[iv 4, iv 0, iv 1, iv 1000], (law06_example 0 60).ag] (.tuple #[iv y6.1, iv y6.2])] 8 [(1, pb b1), (2, pb b2), (3, pb b3), (4, pb b4), (5, pb b5), (6, iv y6.1), (7, iv y6.2)] hF (ocons (obN (us := [iv 4, iv 0, iv 1, iv 1000]) (by kernel_rfl) (fun _ hd => ((hS.later hd).blk (i := 4) rfl).cells rfl)) (ocons (obN (us := (law06_example 0 60).cells) (by kernel_rfl) (fun _ hd => ((hS.later hd).blk (i := 3) rfl).cells rfl)) (ocons (show Ob.ok _ Ext _ _ from fun hk w2 hd => plan_Time_ok F (plan_Radar.mk 4 0 1 1000) (law06_example 0 60) _ ((fun _ => hy6) hk) _ w2 (memOf_at w2) ) onil))) fun a w hF hx => ?_
 replace hS := hS.later hx
 refine wfn rfl ?_
 refine esr ?_
 replace h := bindS h
 obtain ⟨y7, hy7, h⟩ := h
 refine rx 8 [.run [] (Instr.loadAt 31 (pb b1)) (.agg #[iv 4, iv 0, iv 1, iv 1000]), .run [] (Instr.loadAt 34 (pb b5)) (.agg #[iv ((law06_example 0 60).Tilt), iv 100000, iv 3, iv 1000, iv 2000, iv 3, iv ((law06_example 0 60).Width), iv ((law06_example 0 60).Every)]), .call [] 14 #[.agg #[iv 4, iv 0, iv 1, iv 1000], .agg #[iv ((law06_example 0 60).Tilt), iv 100000, iv 3, iv 1000, iv 2000, iv 3, iv ((law06_example 0 60).Width), iv ((law06_example 0 60).Every)]] (.tuple #[iv y7.1, iv y7.2])] 8 [(1, pb b1), (2, pb b2), (3, pb b3), (4, pb b4), (6, iv y6.1), (7, iv y6.2), (8, iv y7.1), (9, iv y7.2)] hF (ocons (obN (us := [iv 4, iv 0, iv 1, iv 1000]) (by kernel_rfl) (fun _ hd => ((hS.later hd).blk (i := 4) rfl).cells rfl)) (ocons (obN (us := [iv ((law06_example 0 60).Tilt), iv 100000, iv 3, iv 1000, iv 2000, iv 3, iv ((law06_example 0 60).Width), iv ((law06_example 0 60).Every)]) (by kernel_rfl) (fun _ hd => ((hS.later hd).blk (i := 0) rfl).cells rfl)) (ocons (show Ob.ok _ Ext _ _ from fun hk w2 hd => plan_Time_ok F (plan_Radar.mk 4 0 1 1000) (plan_Job.mk ((law06_example 0 60).Tilt) (pulse_Train.mk 100000 3 1000 2000 3) ((law06_example 0 60).Width) ((law06_example 0 60).Every)) _ ((fun _ => hy7) hk) _ w2 (memOf_at w2) ) onil))) fun a w hF hx => ?_
 replace hS := hS.later hx
 refine wfn rfl ?_
 refine eseq ?_
 refine region_treeW 9 [2, 6] (fun a w => ∃ (ad15 : Option Addr) (cap16 : Nat) (ad17 : Option Addr) (cap18 : Nat), Fr 260 [] [(1, pb b1), (2, pb b2), (6, iv y6.1), (7, iv y6.2), (8, iv y7.1), (9, iv y7.2), (10, .slice ad15 2 cap16), (11, .slice ad17 3 cap18)] a ∧ St w0 [arr 34 8 plan_Job.cells ad15 ([(law06_example 0 60), (law06_example 2 50)]).length cap16 ([(law06_example 0 60), (law06_example 2 50)]), arr 34 8 plan_Job.cells ad17 ([(law06_example 0 60), (law06_example 2 50), (law06_example 10 40)]).length cap18 ([(law06_example 0 60), (law06_example 2 50), (law06_example 10 40)]), blk b5 34 #[iv ((law06_example 0 60).Tilt), iv 100000, iv 3, iv 1000, iv 2000, iv 3, iv ((law06_example 0 60).Width), iv ((law06_example 0 60).Every)], blk b4 34 (law06_example 10 40).ar, blk b3 34 (law06_example 2 50).ar, blk b2 34 (law06_example 0 60).ar, blk b1 31 #[iv 4, iv 0, iv 1, iv 1000], fz w0 μ] w) (D := fun w => St w0 [blk b5 34 #[iv ((law06_example 0 60).Tilt), iv 100000, iv 3, iv 1000, iv 2000, iv 3, iv ((law06_example 0 60).Width), iv ((law06_example 0 60).Every)], blk b4 34 (law06_example 10 40).ar, blk b3 34 (law06_example 2 50).ar, blk b2 34 (law06_example 0 60).ar, blk b1 31 #[iv 4, iv 0, iv 1, iv 1000]] w ∧ FrzAt μ w) (by kernel_rfl) (by kernel_rfl) hF.size (fun w hx => ?_) ?_
 ·skip
  replace hS := hS.later hx
  refine ⟨⟨St.pick [0, 1, 2, 3, 4] (by decide) hS, hS.frz (i := 5) rfl hlow⟩, ?_⟩
  have hcl19 := Frz.le_refl μ
  refine WT.s [0, 1, 3, 4, 5] [2, 6] (by kernel_rfl) (by kernel_rfl) ?_
  refine runC (rest := []) (obs := [.run [] (Instr.loadAt 34 (pb b2)) ((law06_example 0 60).ag), .run [] (Instr.loadAt 34 (pb b3)) ((law06_example 2 50).ag), .run [] (Instr.loadAt 34 (pb b2)) ((law06_example 0 60).ag), .run [] (Instr.loadAt 34 (pb b3)) ((law06_example 2 50).ag), .run [] (Instr.loadAt 34 (pb b4)) ((law06_example 10 40).ag)]) [0, 1, 3, 4, 5] [(1, pb b1), (2, pb b2), (6, iv y6.1), (7, iv y6.2), (8, iv y7.1), (9, iv y7.2), (43, (law06_example 0 60).ag), (44, (law06_example 2 50).ag), (46, (law06_example 0 60).ag), (47, (law06_example 2 50).ag), (48, (law06_example 10 40).ag)] hF (by kernel_rfl) (by kernel_rfl) (ocons (obN (us := (law06_example 0 60).cells) (by kernel_rfl) (fun _ hd => (hd.1.blk (i := 3) rfl).cells rfl)) (ocons (obN (us := (law06_example 2 50).cells) (by kernel_rfl) (fun _ hd => (hd.1.blk (i := 2) rfl).cells rfl)) (ocons (obN (us := (law06_example 0 60).cells) (by kernel_rfl) (fun _ hd => (hd.1.blk (i := 3) rfl).cells rfl)) (ocons (obN (us := (law06_example 2 50).cells) (by kernel_rfl) (fun _ hd => (hd.1.blk (i := 2) rfl).cells rfl)) (ocons (obN (us := (law06_example 10 40).cells) (by kernel_rfl) (fun _ hd => (hd.1.blk (i := 1) rfl).cells rfl)) onil))))) ⟨by kernel_rfl⟩ fun a hF => ?_
  refine WRun.fin ?_
  refine all_cons ?_ (all_cons ?_ (all_nil))
  ·skip
   refine litK (e := 34) (sz := 8) (f := plan_Job.cells) (t := 43) (len := 2) (fun b20 => [(1, pb b1), (2, pb b2), (6, iv y6.1), (7, iv y6.2), (8, iv y7.1), (9, iv y7.2), (45, sb b20 2), (46, (law06_example 0 60).ag), (47, (law06_example 2 50).ag), (48, (law06_example 10 40).ag)]) #[(0, (law06_example 0 60).ag), (1, (law06_example 2 50).ag)] #[iv ((law06_example 0 60).Tilt), iv (((law06_example 0 60).Train).Lambda), iv (((law06_example 0 60).Train).Kind), iv (((law06_example 0 60).Train).First), iv (((law06_example 0 60).Train).Second), iv (((law06_example 0 60).Train).Count), iv ((law06_example 0 60).Width), iv ((law06_example 0 60).Every), iv ((law06_example 2 50).Tilt), iv (((law06_example 2 50).Train).Lambda), iv (((law06_example 2 50).Train).Kind), iv (((law06_example 2 50).Train).First), iv (((law06_example 2 50).Train).Second), iv (((law06_example 2 50).Train).Count), iv ((law06_example 2 50).Width), iv ((law06_example 2 50).Every)] ([(law06_example 0 60), (law06_example 2 50)]) hF hS (by kernel_rfl) ⟨by kernel_rfl⟩ (by kernel_rfl) plan_Job.cells_len rfl rfl (by kernel_rfl) (fun _ => ⟨by kernel_rfl⟩) fun b20 w a hF hS => ⟨⟨St.pick [1, 2, 3, 4, 5] (by decide) hS, (hS.frz (i := 6) rfl hlow)⟩, ?_⟩
   refine WT.s [7] [6] (by kernel_rfl) (by kernel_rfl) ?_
   refine runC (rest := []) (obs := []) [7] [(1, pb b1), (2, pb b2), (6, iv y6.1), (7, iv y6.2), (8, iv y7.1), (9, iv y7.2), (10, sb b20 2), (46, (law06_example 0 60).ag), (47, (law06_example 2 50).ag), (48, (law06_example 10 40).ag)] hF (by kernel_rfl) (by kernel_rfl) onil ⟨by kernel_rfl⟩ fun a hF => ?_
   refine WRun.fin ?_
   refine all_cons ?_ (all_nil)
   refine litK (e := 34) (sz := 8) (f := plan_Job.cells) (t := 43) (len := 3) (fun b21 => [(1, pb b1), (2, pb b2), (6, iv y6.1), (7, iv y6.2), (8, iv y7.1), (9, iv y7.2), (10, sb b20 2), (49, sb b21 3)]) #[(0, (law06_example 0 60).ag), (1, (law06_example 2 50).ag), (2, (law06_example 10 40).ag)] #[iv ((law06_example 0 60).Tilt), iv (((law06_example 0 60).Train).Lambda), iv (((law06_example 0 60).Train).Kind), iv (((law06_example 0 60).Train).First), iv (((law06_example 0 60).Train).Second), iv (((law06_example 0 60).Train).Count), iv ((law06_example 0 60).Width), iv ((law06_example 0 60).Every), iv ((law06_example 2 50).Tilt), iv (((law06_example 2 50).Train).Lambda), iv (((law06_example 2 50).Train).Kind), iv (((law06_example 2 50).Train).First), iv (((law06_example 2 50).Train).Second), iv (((law06_example 2 50).Train).Count), iv ((law06_example 2 50).Width), iv ((law06_example 2 50).Every), iv ((law06_example 10 40).Tilt), iv (((law06_example 10 40).Train).Lambda), iv (((law06_example 10 40).Train).Kind), iv (((law06_example 10 40).Train).First), iv (((law06_example 10 40).Train).Second), iv (((law06_example 10 40).Train).Count), iv ((law06_example 10 40).Width), iv ((law06_example 10 40).Every)] ([(law06_example 0 60), (law06_example 2 50), (law06_example 10 40)]) hF hS (by kernel_rfl) ⟨by kernel_rfl⟩ (by kernel_rfl) plan_Job.cells_len rfl rfl (by kernel_rfl) (fun _ => ⟨by kernel_rfl⟩) fun b21 w a hF hS => ⟨⟨St.pick [2, 3, 4, 5, 6] (by decide) hS, (hS.frz (i := 7) rfl hlow)⟩, ?_⟩
   refine WT.z [8] (by kernel_rfl) ?_
   refine runC (rest := []) (obs := []) [8] [(1, pb b1), (2, pb b2), (6, iv y6.1), (7, iv y6.2), (8, iv y7.1), (9, iv y7.2), (10, sb b20 2), (11, sb b21 3)] hF (by kernel_rfl) (by kernel_rfl) onil ⟨by kernel_rfl⟩ fun a hF => ?_
   refine WRun.fin ?_
   exact ⟨(some ⟨b20, 0, none⟩), 2, (some ⟨b21, 0, none⟩), 3, hF.sub (by kernel_rfl), St.pick [1, 0, 2, 3, 4, 5, 6, 7] (by decide) hS⟩
  ·skip
   refine litK (e := 34) (sz := 8) (f := plan_Job.cells) (t := 43) (len := 3) (fun b22 => [(1, pb b1), (2, pb b2), (6, iv y6.1), (7, iv y6.2), (8, iv y7.1), (9, iv y7.2), (43, (law06_example 0 60).ag), (44, (law06_example 2 50).ag), (49, sb b22 3)]) #[(0, (law06_example 0 60).ag), (1, (law06_example 2 50).ag), (2, (law06_example 10 40).ag)] #[iv ((law06_example 0 60).Tilt), iv (((law06_example 0 60).Train).Lambda), iv (((law06_example 0 60).Train).Kind), iv (((law06_example 0 60).Train).First), iv (((law06_example 0 60).Train).Second), iv (((law06_example 0 60).Train).Count), iv ((law06_example 0 60).Width), iv ((law06_example 0 60).Every), iv ((law06_example 2 50).Tilt), iv (((law06_example 2 50).Train).Lambda), iv (((law06_example 2 50).Train).Kind), iv (((law06_example 2 50).Train).First), iv (((law06_example 2 50).Train).Second), iv (((law06_example 2 50).Train).Count), iv ((law06_example 2 50).Width), iv ((law06_example 2 50).Every), iv ((law06_example 10 40).Tilt), iv (((law06_example 10 40).Train).Lambda), iv (((law06_example 10 40).Train).Kind), iv (((law06_example 10 40).Train).First), iv (((law06_example 10 40).Train).Second), iv (((law06_example 10 40).Train).Count), iv ((law06_example 10 40).Width), iv ((law06_example 10 40).Every)] ([(law06_example 0 60), (law06_example 2 50), (law06_example 10 40)]) hF hS (by kernel_rfl) ⟨by kernel_rfl⟩ (by kernel_rfl) plan_Job.cells_len rfl rfl (by kernel_rfl) (fun _ => ⟨by kernel_rfl⟩) fun b22 w a hF hS => ⟨⟨St.pick [1, 2, 3, 4, 5] (by decide) hS, (hS.frz (i := 6) rfl hlow)⟩, ?_⟩
   refine WT.s [] [2] (by kernel_rfl) (by kernel_rfl) ?_
   refine WRun.fin ?_
   refine all_cons ?_ (all_nil)
   refine litK (e := 34) (sz := 8) (f := plan_Job.cells) (t := 43) (len := 2) (fun b23 => [(1, pb b1), (2, pb b2), (6, iv y6.1), (7, iv y6.2), (8, iv y7.1), (9, iv y7.2), (45, sb b23 2), (49, sb b22 3)]) #[(0, (law06_example 0 60).ag), (1, (law06_example 2 50).ag)] #[iv ((law06_example 0 60).Tilt), iv (((law06_example 0 60).Train).Lambda), iv (((law06_example 0 60).Train).Kind), iv (((law06_example 0 60).Train).First), iv (((law06_example 0 60).Train).Second), iv (((law06_example 0 60).Train).Count), iv ((law06_example 0 60).Width), iv ((law06_example 0 60).Every), iv ((law06_example 2 50).Tilt), iv (((law06_example 2 50).Train).Lambda), iv (((law06_example 2 50).Train).Kind), iv (((law06_example 2 50).Train).First), iv (((law06_example 2 50).Train).Second), iv (((law06_example 2 50).Train).Count), iv ((law06_example 2 50).Width), iv ((law06_example 2 50).Every)] ([(law06_example 0 60), (law06_example 2 50)]) hF hS (by kernel_rfl) ⟨by kernel_rfl⟩ (by kernel_rfl) plan_Job.cells_len rfl rfl (by kernel_rfl) (fun _ => ⟨by kernel_rfl⟩) fun b23 w a hF hS => ⟨⟨St.pick [2, 3, 4, 5, 6] (by decide) hS, (hS.frz (i := 7) rfl hlow)⟩, ?_⟩
   refine WT.z [7, 8] (by kernel_rfl) ?_
   refine runC (rest := []) (obs := []) [7, 8] [(1, pb b1), (2, pb b2), (6, iv y6.1), (7, iv y6.2), (8, iv y7.1), (9, iv y7.2), (10, sb b23 2), (11, sb b22 3)] hF (by kernel_rfl) (by kernel_rfl) onil ⟨by kernel_rfl⟩ fun a hF => ?_
   refine WRun.fin ?_
   exact ⟨(some ⟨b23, 0, none⟩), 2, (some ⟨b22, 0, none⟩), 3, hF.sub (by kernel_rfl), St.pick [0, 1, 2, 3, 4, 5, 6, 7] (by decide) hS⟩
 rintro a w ⟨ad15, cap16, ad17, cap18, hF, hS⟩
 refine wfn rfl ?_
 refine esr ?_
 refine rno 2 [.run [] (Instr.loadAt 31 (pb b1)) (.agg #[iv 4, iv 0, iv 1, iv 1000])] 2 [(1, pb b1), (2, pb b2), (6, iv y6.1), (7, iv y6.2), (8, iv y7.1), (9, iv y7.2), (10, .slice ad15 2 cap16), (11, .slice ad17 3 cap18), (51, .agg #[iv 4, iv 0, iv 1, iv 1000]), (52, .slice ad15 2 cap16)] hF (ocons (obN (us := [iv 4, iv 0, iv 1, iv 1000]) (by kernel_rfl) (fun _ hd => ((hS.at_ hd).blk (i := 6) rfl).cells rfl)) onil) fun a hF => ?_
 refine SK.wi (litK (e := 3) (sz := 1) (f := fI) (t := 40) (len := 2) (fun b24 => [(1, pb b1), (2, pb b2), (6, iv y6.1), (7, iv y6.2), (8, iv y7.1), (9, iv y7.2), (10, .slice ad15 2 cap16), (11, .slice ad17 3 cap18), (51, .agg #[iv 4, iv 0, iv 1, iv 1000]), (52, .slice ad15 2 cap16), (53, sb b24 2)]) #[(0, iv 0), (1, iv 1)] #[iv 0, iv 1] ([0, 1]) hF hS (by kernel_rfl) ⟨by kernel_rfl⟩ (by kernel_rfl) fI_len rfl rfl (by kernel_rfl) (fun _ => ⟨by kernel_rfl⟩) fun b24 w a hF hS => ?_)
 obtain ⟨ν25, hx26, hlow, hS, hz27⟩ := hS.freeze (i := 8) (j := 1) rfl rfl (by decide) hlow
 replace hext := Frz.ext_trans hext hx26
 replace hS : St w0 [arr 3 1 fI (some ⟨b24, 0, none⟩) ([0, 1]).length 2 ([0, 1]), arr 34 8 plan_Job.cells ad17 ([(law06_example 0 60), (law06_example 2 50), (law06_example 10 40)]).length cap18 ([(law06_example 0 60), (law06_example 2 50), (law06_example 10 40)]), blk b5 34 #[iv ((law06_example 0 60).Tilt), iv 100000, iv 3, iv 1000, iv 2000, iv 3, iv ((law06_example 0 60).Width), iv ((law06_example 0 60).Every)], blk b4 34 (law06_example 10 40).ar, blk b3 34 (law06_example 2 50).ar, blk b2 34 (law06_example 0 60).ar, blk b1 31 #[iv 4, iv 0, iv 1, iv 1000], fz w0 ν25] w := hS
 have hA28 := ArrM.of_arr hz27
 obtain ⟨ν29, hx30, hlow, hS, hz31⟩ := hS.freeze (i := 7) (j := 0) rfl rfl (by decide) hlow
 replace hA28 := hA28.mono hx30.1
 replace hext := Frz.ext_trans hext hx30
 replace hS : St w0 [arr 34 8 plan_Job.cells ad17 ([(law06_example 0 60), (law06_example 2 50), (law06_example 10 40)]).length cap18 ([(law06_example 0 60), (law06_example 2 50), (law06_example 10 40)]), blk b5 34 #[iv ((law06_example 0 60).Tilt), iv 100000, iv 3, iv 1000, iv 2000, iv 3, iv ((law06_example 0 60).Width), iv ((law06_example 0 60).Every)], blk b4 34 (law06_example 10 40).ar, blk b3 34 (law06_example 2 50).ar, blk b2 34 (law06_example 0 60).ar, blk b1 31 #[iv 4, iv 0, iv 1, iv 1000], fz w0 ν29] w := hS
 have hA32 := ArrM.of_arr hz31
 replace h := bindS h
 obtain ⟨y34, hy34, h⟩ := h
 refine SK.wi (callK (f := 18) (args := #[.agg #[iv 4, iv 0, iv 1, iv 1000], .slice ad15 2 cap16, sb b24 2]) (R := fun v w2 => ∃ ν35 ad36 cap37, ν29.ext w.heap.size ν35 ∧ v = .tuple #[sv ad36 y34.1 cap37, iv y34.2] ∧ ArrM ν35 1 fI ad36 cap37 y34.1 ∧ St w [frzR w.heap.size ν35] w2) (fun v33 => [(1, pb b1), (2, pb b2), (6, iv y6.1), (7, iv y6.2), (8, iv y7.1), (9, iv y7.2), (10, .slice ad15 2 cap16), (11, .slice ad17 3 cap18), (54, v33)]) hF (by kernel_rfl) ⟨by kernel_rfl⟩ (Calls.mono (plan_Judge_ok F (plan_Radar.mk 4 0 1 1000) ([(law06_example 0 60), (law06_example 2 50)]) ([0, 1]) _ hy34 ν29 w (hS.frz (i := 6) rfl hlow) hA28 hA32) (by rintro e w2 ⟨ν35, ad36, cap37, hx39, rfl, hA38, h⟩; exact ⟨_, rfl, ν35, ad36, cap37, hx39, rfl, hA38, h⟩)) (fun _ => ⟨by kernel_rfl⟩) ?_)
 rintro v33 w a ⟨ν35, ad36, cap37, hx39, rfl, hA38, hQ⟩ hF
 replace hext := Frz.ext_trans hext (Frz.ext_mono hx39 hS.ext.size)
 obtain ⟨hlow, hS⟩ := hS.frzMerge (i := 6) rfl hlow hx39 hQ
 replace hA28 := hA28.mono hx39.1
 replace hA32 := hA32.mono hx39.1
 replace hS : St w0 [arr 34 8 plan_Job.cells ad17 ([(law06_example 0 60), (law06_example 2 50), (law06_example 10 40)]).length cap18 ([(law06_example 0 60), (law06_example 2 50), (law06_example 10 40)]), blk b5 34 #[iv ((law06_example 0 60).Tilt), iv 100000, iv 3, iv 1000, iv 2000, iv 3, iv ((law06_example 0 60).Width), iv ((law06_example 0 60).Every)], blk b4 34 (law06_example 10 40).ar, blk b3 34 (law06_example 2 50).ar, blk b2 34 (law06_example 0 60).ar, blk b1 31 #[iv 4, iv 0, iv 1, iv 1000], fz w0 ν35] w := hS
 refine rn 5 9 [(1, pb b1), (2, pb b2), (6, iv y6.1), (7, iv y6.2), (8, iv y7.1), (9, iv y7.2), (10, .slice ad15 2 cap16), (11, .slice ad17 3 cap18), (12, sv ad36 y34.1 cap37), (13, iv y34.2)] hF fun a hF => ?_
 refine wfn rfl ?_
 refine esr ?_
 refine rno 2 [.run [] (Instr.loadAt 31 (pb b1)) (.agg #[iv 4, iv 0, iv 1, iv 1000])] 2 [(1, pb b1), (2, pb b2), (6, iv y6.1), (7, iv y6.2), (8, iv y7.1), (9, iv y7.2), (10, .slice ad15 2 cap16), (11, .slice ad17 3 cap18), (12, sv ad36 y34.1 cap37), (13, iv y34.2), (58, .agg #[iv 4, iv 0, iv 1, iv 1000]), (59, .slice ad15 2 cap16)] hF (ocons (obN (us := [iv 4, iv 0, iv 1, iv 1000]) (by kernel_rfl) (fun _ hd => ((hS.at_ hd).blk (i := 5) rfl).cells rfl)) onil) fun a hF => ?_
 refine SK.wi (litK (e := 3) (sz := 1) (f := fI) (t := 40) (len := 3) (fun b40 => [(1, pb b1), (2, pb b2), (6, iv y6.1), (7, iv y6.2), (8, iv y7.1), (9, iv y7.2), (10, .slice ad15 2 cap16), (11, .slice ad17 3 cap18), (12, sv ad36 y34.1 cap37), (13, iv y34.2), (58, .agg #[iv 4, iv 0, iv 1, iv 1000]), (59, .slice ad15 2 cap16), (60, sb b40 3)]) #[(0, iv 0), (1, iv 0), (2, iv 1)] #[iv 0, iv 0, iv 1] ([0, 0, 1]) hF hS (by kernel_rfl) ⟨by kernel_rfl⟩ (by kernel_rfl) fI_len rfl rfl (by kernel_rfl) (fun _ => ⟨by kernel_rfl⟩) fun b40 w a hF hS => ?_)
 obtain ⟨ν41, hx42, hlow, hS, hz43⟩ := hS.freeze (i := 7) (j := 0) rfl rfl (by decide) hlow
 replace hA28 := hA28.mono hx42.1
 replace hA32 := hA32.mono hx42.1
 replace hA38 := hA38.mono hx42.1
 replace hext := Frz.ext_trans hext hx42
 replace hS : St w0 [arr 34 8 plan_Job.cells ad17 ([(law06_example 0 60), (law06_example 2 50), (law06_example 10 40)]).length cap18 ([(law06_example 0 60), (law06_example 2 50), (law06_example 10 40)]), blk b5 34 #[iv ((law06_example 0 60).Tilt), iv 100000, iv 3, iv 1000, iv 2000, iv 3, iv ((law06_example 0 60).Width), iv ((law06_example 0 60).Every)], blk b4 34 (law06_example 10 40).ar, blk b3 34 (law06_example 2 50).ar, blk b2 34 (law06_example 0 60).ar, blk b1 31 #[iv 4, iv 0, iv 1, iv 1000], fz w0 ν41] w := hS
 have hA44 := ArrM.of_arr hz43
 replace h := bindS h
 obtain ⟨y46, hy46, h⟩ := h
 refine SK.wi (callK (f := 18) (args := #[.agg #[iv 4, iv 0, iv 1, iv 1000], .slice ad15 2 cap16, sb b40 3]) (R := fun v w2 => ∃ ν47 ad48 cap49, ν41.ext w.heap.size ν47 ∧ v = .tuple #[sv ad48 y46.1 cap49, iv y46.2] ∧ ArrM ν47 1 fI ad48 cap49 y46.1 ∧ St w [frzR w.heap.size ν47] w2) (fun v45 => [(1, pb b1), (2, pb b2), (6, iv y6.1), (7, iv y6.2), (8, iv y7.1), (9, iv y7.2), (10, .slice ad15 2 cap16), (11, .slice ad17 3 cap18), (12, sv ad36 y34.1 cap37), (13, iv y34.2), (61, v45)]) hF (by kernel_rfl) ⟨by kernel_rfl⟩ (Calls.mono (plan_Judge_ok F (plan_Radar.mk 4 0 1 1000) ([(law06_example 0 60), (law06_example 2 50)]) ([0, 0, 1]) _ hy46 ν41 w (hS.frz (i := 6) rfl hlow) hA28 hA44) (by rintro e w2 ⟨ν47, ad48, cap49, hx51, rfl, hA50, h⟩; exact ⟨_, rfl, ν47, ad48, cap49, hx51, rfl, hA50, h⟩)) (fun _ => ⟨by kernel_rfl⟩) ?_)
 rintro v45 w a ⟨ν47, ad48, cap49, hx51, rfl, hA50, hQ⟩ hF
 replace hext := Frz.ext_trans hext (Frz.ext_mono hx51 hS.ext.size)
 obtain ⟨hlow, hS⟩ := hS.frzMerge (i := 6) rfl hlow hx51 hQ
 replace hA28 := hA28.mono hx51.1
 replace hA32 := hA32.mono hx51.1
 replace hA38 := hA38.mono hx51.1
 replace hA44 := hA44.mono hx51.1
 replace hS : St w0 [arr 34 8 plan_Job.cells ad17 ([(law06_example 0 60), (law06_example 2 50), (law06_example 10 40)]).length cap18 ([(law06_example 0 60), (law06_example 2 50), (law06_example 10 40)]), blk b5 34 #[iv ((law06_example 0 60).Tilt), iv 100000, iv 3, iv 1000, iv 2000, iv 3, iv ((law06_example 0 60).Width), iv ((law06_example 0 60).Every)], blk b4 34 (law06_example 10 40).ar, blk b3 34 (law06_example 2 50).ar, blk b2 34 (law06_example 0 60).ar, blk b1 31 #[iv 4, iv 0, iv 1, iv 1000], fz w0 ν47] w := hS
 refine rn 5 9 [(1, pb b1), (2, pb b2), (6, iv y6.1), (7, iv y6.2), (8, iv y7.1), (9, iv y7.2), (10, .slice ad15 2 cap16), (11, .slice ad17 3 cap18), (12, sv ad36 y34.1 cap37), (13, iv y34.2), (14, sv ad48 y46.1 cap49), (15, iv y46.2)] hF fun a hF => ?_
 refine wfn rfl ?_
 refine eseq ?_
 refine esr ?_
 refine rn 23 23 [(1, pb b1), (2, pb b2), (10, .slice ad15 2 cap16), (11, .slice ad17 3 cap18), (12, sv ad36 y34.1 cap37), (14, sv ad48 y46.1 cap49), (86, .bool (bif (bif (bif (bif (bif (y6.2 != 0) then true else (y7.2 != 0)) then true else (y34.2 != 0)) then true else (y46.2 != 0)) then true else (y6.1 != 20)) then true else (y7.1 != 16)))] hF fun a hF => ?_
 rcases Bool.eq_false_or_eq_true ((bif (bif (bif (bif (bif (y6.2 != 0) then true else (y7.2 != 0)) then true else (y34.2 != 0)) then true else (y46.2 != 0)) then true else (y6.1 != 20)) then true else (y7.1 != 16))) with hg52 | hg52
 ·replace h := bif_t h hg52
  rw [hg52] at hF
  refine skip_ 24 [(1, pb b1), (2, pb b2), (10, .slice ad15 2 cap16), (11, .slice ad17 3 cap18), (14, sv ad48 y46.1 cap49), (86, .bool true), (87, undef)] hF (by kernel_rfl) ⟨by kernel_rfl⟩ ⟨by kernel_rfl⟩ rfl fun a hF => ?_
  refine skip_ 25 [(1, pb b1), (2, pb b2), (10, .slice ad15 2 cap16), (11, .slice ad17 3 cap18), (14, sv ad48 y46.1 cap49), (86, .bool true), (87, undef), (88, undef)] hF (by kernel_rfl) ⟨by kernel_rfl⟩ ⟨by kernel_rfl⟩ rfl fun a hF => ?_
  refine skip_ 26 [(1, pb b1), (2, pb b2), (10, .slice ad15 2 cap16), (11, .slice ad17 3 cap18), (14, sv ad48 y46.1 cap49), (86, .bool true), (89, undef)] hF (by kernel_rfl) ⟨by kernel_rfl⟩ ⟨by kernel_rfl⟩ rfl fun a hF => ?_
  refine skip_ 27 [(1, pb b1), (2, pb b2), (10, .slice ad15 2 cap16), (11, .slice ad17 3 cap18), (14, sv ad48 y46.1 cap49), (86, .bool true), (90, undef)] hF (by kernel_rfl) ⟨by kernel_rfl⟩ ⟨by kernel_rfl⟩ rfl fun a hF => ?_
  refine rn 2 29 [(1, pb b1), (2, pb b2), (10, .slice ad15 2 cap16), (11, .slice ad17 3 cap18), (14, sv ad48 y46.1 cap49), (92, .bool true)] hF fun a hF => ?_
  refine skip_ 30 [(1, pb b1), (2, pb b2), (10, .slice ad15 2 cap16), (11, .slice ad17 3 cap18), (92, .bool true), (93, undef)] hF (by kernel_rfl) ⟨by kernel_rfl⟩ ⟨by kernel_rfl⟩ rfl fun a hF => ?_
  refine skip_ 31 [(1, pb b1), (2, pb b2), (10, .slice ad15 2 cap16), (11, .slice ad17 3 cap18), (92, .bool true), (93, undef), (94, undef)] hF (by kernel_rfl) ⟨by kernel_rfl⟩ ⟨by kernel_rfl⟩ rfl fun a hF => ?_
  refine skip_ 32 [(1, pb b1), (2, pb b2), (10, .slice ad15 2 cap16), (11, .slice ad17 3 cap18), (92, .bool true), (95, undef)] hF (by kernel_rfl) ⟨by kernel_rfl⟩ ⟨by kernel_rfl⟩ rfl fun a hF => ?_
  refine skip_ 33 [(1, pb b1), (2, pb b2), (10, .slice ad15 2 cap16), (11, .slice ad17 3 cap18), (92, .bool true), (96, undef)] hF (by kernel_rfl) ⟨by kernel_rfl⟩ ⟨by kernel_rfl⟩ rfl fun a hF => ?_
  refine rn 1 34 [(1, pb b1), (2, pb b2), (10, .slice ad15 2 cap16), (11, .slice ad17 3 cap18), (97, .bool true)] hF fun a hF => ?_
  refine wfn rfl ?_
  refine wpIn_cond_true (hF.get rfl) ?_
  refine esr ?_
  refine rn 1 1 [(0, .bool false)] hF fun a hF => ?_
  refine wfn rfl ?_
  refine wpIn_ret (ret_then <| fn_ret [.tmp 0] [.bool false] hF rfl ⟨rfl, trivial⟩ ?_)
  have hr_ := Option.some.inj h
  subst hr_
  exact ⟨rfl, hS.ext⟩
 ·replace h := bif_f h hg52
  rw [hg52] at hF
  refine run_C (n := 1) (obs := []) 24 [(1, ⟨[], pb b1⟩), (2, ⟨[], pb b2⟩), (10, ⟨[], .slice ad15 2 cap16⟩), (11, ⟨[], .slice ad17 3 cap18⟩), (14, ⟨[], sv ad48 y46.1 cap49⟩), (86, ⟨[], .bool false⟩), (87, ⟨[⟨86, false, false⟩], sv ad36 y34.1 cap37⟩)] hF (by kernel_rfl) onil ⟨by kernel_rfl⟩ (by kernel_rfl) rfl fun a hF => ?_
  replace hF : Fr 260 [] [(1, pb b1), (2, pb b2), (10, .slice ad15 2 cap16), (11, .slice ad17 3 cap18), (14, sv ad48 y46.1 cap49), (86, .bool false), (87, sv ad36 y34.1 cap37)] a := hF
  refine SK.wi (litK (e := 3) (sz := 1) (f := fI) (t := 40) (len := 2) (fun b53 => [(1, pb b1), (2, pb b2), (10, .slice ad15 2 cap16), (11, .slice ad17 3 cap18), (14, sv ad48 y46.1 cap49), (86, .bool false), (87, sv ad36 y34.1 cap37), (88, sb b53 2)]) #[(0, iv 16), (1, iv 6)] #[iv 16, iv 6] ([16, 6]) hF hS (by kernel_rfl) ⟨by kernel_rfl⟩ (by kernel_rfl) fI_len rfl rfl (by kernel_rfl) (fun _ => ⟨by kernel_rfl⟩) fun b53 w a hF hS => ?_)
  replace h := bindS h
  obtain ⟨y54, hy54, h⟩ := h
  refine rx 4 [.call [⟨86, false, false⟩] 21 #[sv ad36 y34.1 cap37, sb b53 2] (.bool y54)] 29 [(1, pb b1), (2, pb b2), (10, .slice ad15 2 cap16), (11, .slice ad17 3 cap18), (14, sv ad48 y46.1 cap49), (92, .bool (!y54))] hF (ocons (show Ob.ok _ Ext _ _ from fun hk w2 hd => law06_numbers_ok F y34.1 ([16, 6]) _ ((fun _ => hy54) hk) _ w2 (memOf_at w2) (hA38.mono (FrzAt.le_mem ((hS.later hd).frz (i := 7) rfl hlow))) (Arr.toM ((hS.later hd).arr (i := 0) rfl))) onil) fun a w hF hx => ?_
  replace hS := hS.later hx
  rcases Bool.eq_false_or_eq_true ((!y54)) with hg55 | hg55
  ·replace h := bif_t h hg55
   rw [hg55] at hF
   refine skip_ 30 [(1, pb b1), (2, pb b2), (10, .slice ad15 2 cap16), (11, .slice ad17 3 cap18), (92, .bool true), (93, undef)] hF (by kernel_rfl) ⟨by kernel_rfl⟩ ⟨by kernel_rfl⟩ rfl fun a hF => ?_
   refine skip_ 31 [(1, pb b1), (2, pb b2), (10, .slice ad15 2 cap16), (11, .slice ad17 3 cap18), (92, .bool true), (93, undef), (94, undef)] hF (by kernel_rfl) ⟨by kernel_rfl⟩ ⟨by kernel_rfl⟩ rfl fun a hF => ?_
   refine skip_ 32 [(1, pb b1), (2, pb b2), (10, .slice ad15 2 cap16), (11, .slice ad17 3 cap18), (92, .bool true), (95, undef)] hF (by kernel_rfl) ⟨by kernel_rfl⟩ ⟨by kernel_rfl⟩ rfl fun a hF => ?_
   refine skip_ 33 [(1, pb b1), (2, pb b2), (10, .slice ad15 2 cap16), (11, .slice ad17 3 cap18), (92, .bool true), (96, undef)] hF (by kernel_rfl) ⟨by kernel_rfl⟩ ⟨by kernel_rfl⟩ rfl fun a hF => ?_
   refine rn 1 34 [(1, pb b1), (2, pb b2), (10, .slice ad15 2 cap16), (11, .slice ad17 3 cap18), (97, .bool true)] hF fun a hF => ?_
   refine wfn rfl ?_
   refine wpIn_cond_true (hF.get rfl) ?_
   refine esr ?_
   refine rn 1 1 [(0, .bool false)] hF fun a hF => ?_
   refine wfn rfl ?_
   refine wpIn_ret (ret_then <| fn_ret [.tmp 0] [.bool false] hF rfl ⟨rfl, trivial⟩ ?_)
   have hr_ := Option.some.inj h
   subst hr_
   exact ⟨rfl, hS.ext⟩
  ·replace h := bif_f h hg55
   rw [hg55] at hF
   refine run_C (n := 1) (obs := []) 30 [(1, ⟨[], pb b1⟩), (2, ⟨[], pb b2⟩), (10, ⟨[], .slice ad15 2 cap16⟩), (11, ⟨[], .slice ad17 3 cap18⟩), (92, ⟨[], .bool false⟩), (93, ⟨[⟨92, false, false⟩], sv ad48 y46.1 cap49⟩)] hF (by kernel_rfl) onil ⟨by kernel_rfl⟩ (by kernel_rfl) rfl fun a hF => ?_
   replace hF : Fr 260 [] [(1, pb b1), (2, pb b2), (10, .slice ad15 2 cap16), (11, .slice ad17 3 cap18), (92, .bool false), (93, sv ad48 y46.1 cap49)] a := hF
   refine SK.wi (litK (e := 3) (sz := 1) (f := fI) (t := 40) (len := 2) (fun b56 => [(1, pb b1), (2, pb b2), (10, .slice ad15 2 cap16), (11, .slice ad17 3 cap18), (92, .bool false), (93, sv ad48 y46.1 cap49), (94, sb b56 2)]) #[(0, iv 16), (1, iv (-14))] #[iv 16, iv (-14)] ([16, -14]) hF hS (by kernel_rfl) ⟨by kernel_rfl⟩ (by kernel_rfl) fI_len rfl rfl (by kernel_rfl) (fun _ => ⟨by kernel_rfl⟩) fun b56 w a hF hS => ?_)
   replace h := bindS h
   obtain ⟨y57, hy57, h⟩ := h
   refine rx 3 [.call [⟨92, false, false⟩] 21 #[sv ad48 y46.1 cap49, sb b56 2] (.bool y57)] 34 [(1, pb b1), (2, pb b2), (10, .slice ad15 2 cap16), (11, .slice ad17 3 cap18), (97, .bool (!y57))] hF (ocons (show Ob.ok _ Ext _ _ from fun hk w2 hd => law06_numbers_ok F y46.1 ([16, -14]) _ ((fun _ => hy57) hk) _ w2 (memOf_at w2) (hA50.mono (FrzAt.le_mem ((hS.later hd).frz (i := 8) rfl hlow))) (Arr.toM ((hS.later hd).arr (i := 0) rfl))) onil) fun a w hF hx => ?_
   replace hS := hS.later hx
   refine wfn rfl ?_
   refine econd hF rfl (fun hc => ?_) (fun hc => ?_)
   ·replace h := bif_t h hc
    refine esr ?_
    refine rn 1 1 [(0, .bool false)] hF fun a hF => ?_
    refine wfn rfl ?_
    refine wpIn_ret (ret_then <| fn_ret [.tmp 0] [.bool false] hF rfl ⟨rfl, trivial⟩ ?_)
    have hr_ := Option.some.inj h
    subst hr_
    exact ⟨rfl, hS.ext⟩
   ·replace h := bif_f h hc
    refine wpIn_skip (norm_then ?_)
    refine esr ?_
    refine rno 2 [.run [] (Instr.loadAt 31 (pb b1)) (.agg #[iv 4, iv 0, iv 1, iv 1000])] 2 [(1, pb b1), (2, pb b2), (10, .slice ad15 2 cap16), (11, .slice ad17 3 cap18), (99, .agg #[iv 4, iv 0, iv 1, iv 1000]), (100, .slice ad15 2 cap16)] hF (ocons (obN (us := [iv 4, iv 0, iv 1, iv 1000]) (by kernel_rfl) (fun _ hd => ((hS.at_ hd).blk (i := 7) rfl).cells rfl)) onil) fun a hF => ?_
    replace h := bindS h
    obtain ⟨y59, hy59, h⟩ := h
    refine SK.wi (callK (f := 27) (args := #[.agg #[iv 4, iv 0, iv 1, iv 1000], .slice ad15 2 cap16, iv 3]) (R := fun v w2 => ∃ ν60 ad61 cap62, ν47.ext w.heap.size ν60 ∧ v = .tuple #[sv ad61 y59.1 cap62, iv y59.2] ∧ ArrM ν60 1 fI ad61 cap62 y59.1 ∧ St w [frzR w.heap.size ν60] w2) (fun v58 => [(1, pb b1), (2, pb b2), (10, .slice ad15 2 cap16), (11, .slice ad17 3 cap18), (101, v58)]) hF (by kernel_rfl) ⟨by kernel_rfl⟩ (Calls.mono (plan_Best_ok F (plan_Radar.mk 4 0 1 1000) ([(law06_example 0 60), (law06_example 2 50)]) 3 _ hy59 ν47 w (hS.frz (i := 8) rfl hlow) hA28) (by rintro e w2 ⟨ν60, ad61, cap62, hx64, rfl, hA63, h⟩; exact ⟨_, rfl, ν60, ad61, cap62, hx64, rfl, hA63, h⟩)) (fun _ => ⟨by kernel_rfl⟩) ?_)
    rintro v58 w a ⟨ν60, ad61, cap62, hx64, rfl, hA63, hQ⟩ hF
    replace hext := Frz.ext_trans hext (Frz.ext_mono hx64 hS.ext.size)
    obtain ⟨hlow, hS⟩ := hS.frzMerge (i := 8) rfl hlow hx64 hQ
    replace hA28 := hA28.mono hx64.1
    replace hA32 := hA32.mono hx64.1
    replace hA38 := hA38.mono hx64.1
    replace hA44 := hA44.mono hx64.1
    replace hA50 := hA50.mono hx64.1
    replace hS : St w0 [arr 3 1 fI (some ⟨b56, 0, none⟩) ([16, -14]).length 2 ([16, -14]), arr 3 1 fI (some ⟨b53, 0, none⟩) ([16, 6]).length 2 ([16, 6]), arr 34 8 plan_Job.cells ad17 ([(law06_example 0 60), (law06_example 2 50), (law06_example 10 40)]).length cap18 ([(law06_example 0 60), (law06_example 2 50), (law06_example 10 40)]), blk b5 34 #[iv ((law06_example 0 60).Tilt), iv 100000, iv 3, iv 1000, iv 2000, iv 3, iv ((law06_example 0 60).Width), iv ((law06_example 0 60).Every)], blk b4 34 (law06_example 10 40).ar, blk b3 34 (law06_example 2 50).ar, blk b2 34 (law06_example 0 60).ar, blk b1 31 #[iv 4, iv 0, iv 1, iv 1000], fz w0 ν60] w := hS
    refine rn 5 8 [(1, pb b1), (2, pb b2), (7, iv y59.2), (10, .slice ad15 2 cap16), (11, .slice ad17 3 cap18), (16, sv ad61 y59.1 cap62)] hF fun a hF => ?_
    refine wfn rfl ?_
    refine esr ?_
    refine rno 2 [.run [] (Instr.loadAt 31 (pb b1)) (.agg #[iv 4, iv 0, iv 1, iv 1000])] 2 [(1, pb b1), (2, pb b2), (7, iv y59.2), (10, .slice ad15 2 cap16), (11, .slice ad17 3 cap18), (16, sv ad61 y59.1 cap62), (105, .agg #[iv 4, iv 0, iv 1, iv 1000]), (106, .slice ad17 3 cap18)] hF (ocons (obN (us := [iv 4, iv 0, iv 1, iv 1000]) (by kernel_rfl) (fun _ hd => ((hS.at_ hd).blk (i := 7) rfl).cells rfl)) onil) fun a hF => ?_
    obtain ⟨ν65, hx66, hlow, hS, hz67⟩ := hS.freeze (i := 8) (j := 2) rfl rfl (by decide) hlow
    replace hA28 := hA28.mono hx66.1
    replace hA32 := hA32.mono hx66.1
    replace hA38 := hA38.mono hx66.1
    replace hA44 := hA44.mono hx66.1
    replace hA50 := hA50.mono hx66.1
    replace hA63 := hA63.mono hx66.1
    replace hext := Frz.ext_trans hext hx66
    replace hS : St w0 [arr 3 1 fI (some ⟨b56, 0, none⟩) ([16, -14]).length 2 ([16, -14]), arr 3 1 fI (some ⟨b53, 0, none⟩) ([16, 6]).length 2 ([16, 6]), blk b5 34 #[iv ((law06_example 0 60).Tilt), iv 100000, iv 3, iv 1000, iv 2000, iv 3, iv ((law06_example 0 60).Width), iv ((law06_example 0 60).Every)], blk b4 34 (law06_example 10 40).ar, blk b3 34 (law06_example 2 50).ar, blk b2 34 (law06_example 0 60).ar, blk b1 31 #[iv 4, iv 0, iv 1, iv 1000], fz w0 ν65] w := hS
    have hA68 := ArrM.of_arr hz67
    replace h := bindS h
    obtain ⟨y70, hy70, h⟩ := h
    refine SK.wi (callK (f := 27) (args := #[.agg #[iv 4, iv 0, iv 1, iv 1000], .slice ad17 3 cap18, iv 6]) (R := fun v w2 => ∃ ν71 ad72 cap73, ν65.ext w.heap.size ν71 ∧ v = .tuple #[sv ad72 y70.1 cap73, iv y70.2] ∧ ArrM ν71 1 fI ad72 cap73 y70.1 ∧ St w [frzR w.heap.size ν71] w2) (fun v69 => [(1, pb b1), (2, pb b2), (7, iv y59.2), (10, .slice ad15 2 cap16), (11, .slice ad17 3 cap18), (16, sv ad61 y59.1 cap62), (107, v69)]) hF (by kernel_rfl) ⟨by kernel_rfl⟩ (Calls.mono (plan_Best_ok F (plan_Radar.mk 4 0 1 1000) ([(law06_example 0 60), (law06_example 2 50), (law06_example 10 40)]) 6 _ hy70 ν65 w (hS.frz (i := 7) rfl hlow) hA68) (by rintro e w2 ⟨ν71, ad72, cap73, hx75, rfl, hA74, h⟩; exact ⟨_, rfl, ν71, ad72, cap73, hx75, rfl, hA74, h⟩)) (fun _ => ⟨by kernel_rfl⟩) ?_)
    rintro v69 w a ⟨ν71, ad72, cap73, hx75, rfl, hA74, hQ⟩ hF
    replace hext := Frz.ext_trans hext (Frz.ext_mono hx75 hS.ext.size)
    obtain ⟨hlow, hS⟩ := hS.frzMerge (i := 7) rfl hlow hx75 hQ
    replace hA28 := hA28.mono hx75.1
    replace hA32 := hA32.mono hx75.1
    replace hA38 := hA38.mono hx75.1
    replace hA44 := hA44.mono hx75.1
    replace hA50 := hA50.mono hx75.1
    replace hA63 := hA63.mono hx75.1
    replace hA68 := hA68.mono hx75.1
    replace hS : St w0 [arr 3 1 fI (some ⟨b56, 0, none⟩) ([16, -14]).length 2 ([16, -14]), arr 3 1 fI (some ⟨b53, 0, none⟩) ([16, 6]).length 2 ([16, 6]), blk b5 34 #[iv ((law06_example 0 60).Tilt), iv 100000, iv 3, iv 1000, iv 2000, iv 3, iv ((law06_example 0 60).Width), iv ((law06_example 0 60).Every)], blk b4 34 (law06_example 10 40).ar, blk b3 34 (law06_example 2 50).ar, blk b2 34 (law06_example 0 60).ar, blk b1 31 #[iv 4, iv 0, iv 1, iv 1000], fz w0 ν71] w := hS
    refine rn 4 7 [(1, pb b1), (2, pb b2), (7, iv y59.2), (9, iv y70.2), (10, .slice ad15 2 cap16), (11, .slice ad17 3 cap18), (16, sv ad61 y59.1 cap62)] hF fun a hF => ?_
    refine wfn rfl ?_
    refine esr ?_
    refine rno 2 [.run [] (Instr.loadAt 31 (pb b1)) (.agg #[iv 4, iv 0, iv 1, iv 1000])] 2 [(1, pb b1), (2, pb b2), (7, iv y59.2), (9, iv y70.2), (10, .slice ad15 2 cap16), (11, .slice ad17 3 cap18), (16, sv ad61 y59.1 cap62), (111, .agg #[iv 4, iv 0, iv 1, iv 1000]), (112, .slice ad17 3 cap18)] hF (ocons (obN (us := [iv 4, iv 0, iv 1, iv 1000]) (by kernel_rfl) (fun _ hd => ((hS.at_ hd).blk (i := 6) rfl).cells rfl)) onil) fun a hF => ?_
    replace h := bindS h
    obtain ⟨y77, hy77, h⟩ := h
    refine SK.wi (callK (f := 29) (args := #[.agg #[iv 4, iv 0, iv 1, iv 1000], .slice ad17 3 cap18, iv 2]) (R := fun v w2 => ∃ ν78 ad79 cap80 css81, ν71.ext w.heap.size ν78 ∧ v = .tuple #[sv ad79 y77.1 cap80, iv y77.2] ∧ ArrQ ν78 2 Rp65 ad79 cap80 css81 y77.1 ∧ St w [frzR w.heap.size ν78] w2) (fun v76 => [(1, pb b1), (2, pb b2), (7, iv y59.2), (9, iv y70.2), (10, .slice ad15 2 cap16), (11, .slice ad17 3 cap18), (16, sv ad61 y59.1 cap62), (113, v76)]) hF (by kernel_rfl) ⟨by kernel_rfl⟩ (Calls.mono (plan_Refute_ok F (plan_Radar.mk 4 0 1 1000) ([(law06_example 0 60), (law06_example 2 50), (law06_example 10 40)]) 2 _ hy77 ν71 w (hS.frz (i := 7) rfl hlow) hA68) (by rintro e w2 ⟨ν78, ad79, cap80, css81, hx83, rfl, hA82, h⟩; exact ⟨_, rfl, ν78, ad79, cap80, css81, hx83, rfl, hA82, h⟩)) (fun _ => ⟨by kernel_rfl⟩) ?_)
    rintro v76 w a ⟨ν78, ad79, cap80, css81, hx83, rfl, hA82, hQ⟩ hF
    replace hext := Frz.ext_trans hext (Frz.ext_mono hx83 hS.ext.size)
    obtain ⟨hlow, hS⟩ := hS.frzMerge (i := 7) rfl hlow hx83 hQ
    replace hA28 := hA28.mono hx83.1
    replace hA32 := hA32.mono hx83.1
    replace hA38 := hA38.mono hx83.1
    replace hA44 := hA44.mono hx83.1
    replace hA50 := hA50.mono hx83.1
    replace hA63 := hA63.mono hx83.1
    replace hA68 := hA68.mono hx83.1
    replace hA74 := hA74.mono hx83.1
    replace hS : St w0 [arr 3 1 fI (some ⟨b56, 0, none⟩) ([16, -14]).length 2 ([16, -14]), arr 3 1 fI (some ⟨b53, 0, none⟩) ([16, 6]).length 2 ([16, 6]), blk b5 34 #[iv ((law06_example 0 60).Tilt), iv 100000, iv 3, iv 1000, iv 2000, iv 3, iv ((law06_example 0 60).Width), iv ((law06_example 0 60).Every)], blk b4 34 (law06_example 10 40).ar, blk b3 34 (law06_example 2 50).ar, blk b2 34 (law06_example 0 60).ar, blk b1 31 #[iv 4, iv 0, iv 1, iv 1000], fz w0 ν78] w := hS
    refine rn 5 8 [(1, pb b1), (2, pb b2), (7, iv y59.2), (9, iv y70.2), (10, .slice ad15 2 cap16), (11, .slice ad17 3 cap18), (13, iv y77.2), (16, sv ad61 y59.1 cap62), (17, sv ad79 y77.1 cap80)] hF fun a hF => ?_
    refine wfn rfl ?_
    refine esr ?_
    refine rno 2 [.run [] (Instr.loadAt 31 (pb b1)) (.agg #[iv 4, iv 0, iv 1, iv 1000])] 2 [(1, pb b1), (2, pb b2), (7, iv y59.2), (9, iv y70.2), (10, .slice ad15 2 cap16), (11, .slice ad17 3 cap18), (13, iv y77.2), (16, sv ad61 y59.1 cap62), (17, sv ad79 y77.1 cap80), (117, .agg #[iv 4, iv 0, iv 1, iv 1000]), (118, .slice ad15 2 cap16)] hF (ocons (obN (us := [iv 4, iv 0, iv 1, iv 1000]) (by kernel_rfl) (fun _ hd => ((hS.at_ hd).blk (i := 6) rfl).cells rfl)) onil) fun a hF => ?_
    replace h := bindS h
    obtain ⟨y85, hy85, h⟩ := h
    refine SK.wi (callK (f := 29) (args := #[.agg #[iv 4, iv 0, iv 1, iv 1000], .slice ad15 2 cap16, iv 2]) (R := fun v w2 => ∃ ν86 ad87 cap88 css89, ν78.ext w.heap.size ν86 ∧ v = .tuple #[sv ad87 y85.1 cap88, iv y85.2] ∧ ArrQ ν86 2 Rp65 ad87 cap88 css89 y85.1 ∧ St w [frzR w.heap.size ν86] w2) (fun v84 => [(1, pb b1), (2, pb b2), (7, iv y59.2), (9, iv y70.2), (10, .slice ad15 2 cap16), (11, .slice ad17 3 cap18), (13, iv y77.2), (16, sv ad61 y59.1 cap62), (17, sv ad79 y77.1 cap80), (119, v84)]) hF (by kernel_rfl) ⟨by kernel_rfl⟩ (Calls.mono (plan_Refute_ok F (plan_Radar.mk 4 0 1 1000) ([(law06_example 0 60), (law06_example 2 50)]) 2 _ hy85 ν78 w (hS.frz (i := 7) rfl hlow) hA28) (by rintro e w2 ⟨ν86, ad87, cap88, css89, hx91, rfl, hA90, h⟩; exact ⟨_, rfl, ν86, ad87, cap88, css89, hx91, rfl, hA90, h⟩)) (fun _ => ⟨by kernel_rfl⟩) ?_)
    rintro v84 w a ⟨ν86, ad87, cap88, css89, hx91, rfl, hA90, hQ⟩ hF
    replace hext := Frz.ext_trans hext (Frz.ext_mono hx91 hS.ext.size)
    obtain ⟨hlow, hS⟩ := hS.frzMerge (i := 7) rfl hlow hx91 hQ
    replace hA28 := hA28.mono hx91.1
    replace hA32 := hA32.mono hx91.1
    replace hA38 := hA38.mono hx91.1
    replace hA44 := hA44.mono hx91.1
    replace hA50 := hA50.mono hx91.1
    replace hA63 := hA63.mono hx91.1
    replace hA68 := hA68.mono hx91.1
    replace hA74 := hA74.mono hx91.1
    replace hA82 := hA82.mono Rp65.mono hx91.1
    replace hS : St w0 [arr 3 1 fI (some ⟨b56, 0, none⟩) ([16, -14]).length 2 ([16, -14]), arr 3 1 fI (some ⟨b53, 0, none⟩) ([16, 6]).length 2 ([16, 6]), blk b5 34 #[iv ((law06_example 0 60).Tilt), iv 100000, iv 3, iv 1000, iv 2000, iv 3, iv ((law06_example 0 60).Width), iv ((law06_example 0 60).Every)], blk b4 34 (law06_example 10 40).ar, blk b3 34 (law06_example 2 50).ar, blk b2 34 (law06_example 0 60).ar, blk b1 31 #[iv 4, iv 0, iv 1, iv 1000], fz w0 ν86] w := hS
    refine rn 4 7 [(1, pb b1), (2, pb b2), (7, iv y59.2), (9, iv y70.2), (10, .slice ad15 2 cap16), (11, .slice ad17 3 cap18), (13, iv y77.2), (15, iv y85.2), (16, sv ad61 y59.1 cap62), (17, sv ad79 y77.1 cap80)] hF fun a hF => ?_
    refine wfn rfl ?_
    refine eseq ?_
    refine eseq ?_
    refine region_treeW 70 [16, 17, 51, 52, 59, 67] _ (D := fun w => St w0 [arr 3 1 fI (some ⟨b56, 0, none⟩) ([16, -14]).length 2 ([16, -14]), arr 3 1 fI (some ⟨b53, 0, none⟩) ([16, 6]).length 2 ([16, 6]), blk b5 34 #[iv ((law06_example 0 60).Tilt), iv 100000, iv 3, iv 1000, iv 2000, iv 3, iv ((law06_example 0 60).Width), iv ((law06_example 0 60).Every)], blk b4 34 (law06_example 10 40).ar, blk b3 34 (law06_example 2 50).ar, blk b2 34 (law06_example 0 60).ar, blk b1 31 #[iv 4, iv 0, iv 1, iv 1000]] w ∧ FrzAt ν86 w) (by kernel_rfl) (by kernel_rfl) hF.size (fun w hx => ?_) (fun _ _ h => h)
    replace hS := hS.later hx
    refine ⟨⟨St.pick [0, 1, 2, 3, 4, 5, 6] (by decide) hS, hS.frz (i := 7) rfl hlow⟩, ?_⟩
    have hcl92 := Frz.le_refl ν86
    refine WT.s [0, 1, 2, 3, 4, 5, 6, 7, 8, 9, 10, 11, 12, 13, 14, 15] [16] (by kernel_rfl) (by kernel_rfl) ?_
    refine runC (rest := [15]) (obs := []) [0, 1, 2, 3, 4, 5, 6, 7, 8, 9, 10, 11, 12, 13, 14] [(1, pb b1), (2, pb b2), (10, .slice ad15 2 cap16), (11, .slice ad17 3 cap18), (16, sv ad61 y59.1 cap62), (17, sv ad79 y77.1 cap80), (136, .bool (bif (bif (bif (y59.2 != 0) then true else (y70.2 != 4)) then true else (y77.2 != 0)) then true else (y85.2 != 4)))] hF (by kernel_rfl) (by kernel_rfl) onil ⟨by kernel_rfl⟩ fun a hF => ?_
    rcases Bool.eq_false_or_eq_true ((bif (bif (bif (y59.2 != 0) then true else (y70.2 != 4)) then true else (y77.2 != 0)) then true else (y85.2 != 4))) with hg93 | hg93
    ·replace h := bif_t h hg93
     rw [hg93] at hF
     refine skipW [(1, pb b1), (2, pb b2), (10, .slice ad15 2 cap16), (11, .slice ad17 3 cap18), (17, sv ad79 y77.1 cap80), (136, .bool true), (137, undef)] hF (by kernel_rfl) (by kernel_rfl) ⟨by kernel_rfl⟩ ⟨by kernel_rfl⟩ fun a hF => ?_
     refine WRun.fin ?_
     refine all_cons ?_ all_nil
     refine skipSK [(1, pb b1), (2, pb b2), (10, .slice ad15 2 cap16), (11, .slice ad17 3 cap18), (17, sv ad79 y77.1 cap80), (136, .bool true), (137, undef), (138, undef)] hF (by kernel_rfl) ⟨by kernel_rfl⟩ ⟨by kernel_rfl⟩ fun a hF => ?_
     refine ⟨⟨St.pick [0, 1, 2, 3, 4, 5, 6] (by decide) hS, (hS.frz (i := 7) rfl hlow)⟩, ?_⟩
     refine WT.s [] [17] (by kernel_rfl) (by kernel_rfl) ?_
     refine WRun.fin ?_
     refine all_cons ?_ all_nil
     refine skipSK [(1, pb b1), (2, pb b2), (10, .slice ad15 2 cap16), (11, .slice ad17 3 cap18), (17, sv ad79 y77.1 cap80), (136, .bool true), (139, undef)] hF (by kernel_rfl) ⟨by kernel_rfl⟩ ⟨by kernel_rfl⟩ fun a hF => ?_
     refine ⟨⟨St.pick [0, 1, 2, 3, 4, 5, 6] (by decide) hS, (hS.frz (i := 7) rfl hlow)⟩, ?_⟩
     refine WT.s [18, 19, 20, 21, 22, 23, 24, 25, 26, 27, 28, 29, 30, 31, 32, 33, 34, 35, 36, 37, 38, 39, 40, 41, 42, 43, 44, 45, 46, 47, 48, 49, 50] [51] (by kernel_rfl) (by kernel_rfl) ?_
     refine skipW [(1, pb b1), (2, pb b2), (10, .slice ad15 2 cap16), (11, .slice ad17 3 cap18), (17, sv ad79 y77.1 cap80), (136, .bool true), (140, undef)] hF (by kernel_rfl) (by kernel_rfl) ⟨by kernel_rfl⟩ ⟨by kernel_rfl⟩ fun a hF => ?_
     refine runC (rest := [26, 27, 28, 29, 30, 31, 32, 33, 34, 35, 36, 37, 38, 39, 40, 41, 42, 43, 44, 45, 46, 47, 48, 49, 50]) (obs := []) [19, 20, 21, 22, 23, 24, 25] [(1, pb b1), (2, pb b2), (10, .slice ad15 2 cap16), (11, .slice ad17 3 cap18), (17, sv ad79 y77.1 cap80), (147, .bool true)] hF (by kernel_rfl) (by kernel_rfl) onil ⟨by kernel_rfl⟩ fun a hF => ?_
     refine skipW [(1, pb b1), (2, pb b2), (10, .slice ad15 2 cap16), (11, .slice ad17 3 cap18), (17, sv ad79 y77.1 cap80), (147, .bool true), (148, undef)] hF (by kernel_rfl) (by kernel_rfl) ⟨by kernel_rfl⟩ ⟨by kernel_rfl⟩ fun a hF => ?_
     refine skipW [(1, pb b1), (2, pb b2), (10, .slice ad15 2 cap16), (11, .slice ad17 3 cap18), (17, sv ad79 y77.1 cap80), (147, .bool true), (149, undef)] hF (by kernel_rfl) (by kernel_rfl) ⟨by kernel_rfl⟩ ⟨by kernel_rfl⟩ fun a hF => ?_
     refine skipW [(1, pb b1), (2, pb b2), (10, .slice ad15 2 cap16), (11, .slice ad17 3 cap18), (17, sv ad79 y77.1 cap80), (147, .bool true), (150, undef)] hF (by kernel_rfl) (by kernel_rfl) ⟨by kernel_rfl⟩ ⟨by kernel_rfl⟩ fun a hF => ?_
     refine skipW [(1, pb b1), (2, pb b2), (10, .slice ad15 2 cap16), (11, .slice ad17 3 cap18), (17, sv ad79 y77.1 cap80), (147, .bool true), (151, undef)] hF (by kernel_rfl) (by kernel_rfl) ⟨by kernel_rfl⟩ ⟨by kernel_rfl⟩ fun a hF => ?_
     refine skipW [(1, pb b1), (2, pb b2), (10, .slice ad15 2 cap16), (11, .slice ad17 3 cap18), (17, sv ad79 y77.1 cap80), (147, .bool true), (152, undef)] hF (by kernel_rfl) (by kernel_rfl) ⟨by kernel_rfl⟩ ⟨by kernel_rfl⟩ fun a hF => ?_
     refine runC (rest := [33, 34, 35, 36, 37, 38, 39, 40, 41, 42, 43, 44, 45, 46, 47, 48, 49, 50]) (obs := []) [31, 32] [(1, pb b1), (2, pb b2), (10, .slice ad15 2 cap16), (11, .slice ad17 3 cap18), (17, sv ad79 y77.1 cap80), (154, .bool true)] hF (by kernel_rfl) (by kernel_rfl) onil ⟨by kernel_rfl⟩ fun a hF => ?_
     refine skipW [(1, pb b1), (2, pb b2), (10, .slice ad15 2 cap16), (11, .slice ad17 3 cap18), (17, sv ad79 y77.1 cap80), (154, .bool true), (155, undef)] hF (by kernel_rfl) (by kernel_rfl) ⟨by kernel_rfl⟩ ⟨by kernel_rfl⟩ fun a hF => ?_
     refine skipW [(1, pb b1), (2, pb b2), (10, .slice ad15 2 cap16), (11, .slice ad17 3 cap18), (17, sv ad79 y77.1 cap80), (154, .bool true), (156, undef)] hF (by kernel_rfl) (by kernel_rfl) ⟨by kernel_rfl⟩ ⟨by kernel_rfl⟩ fun a hF => ?_
     refine skipW [(1, pb b1), (2, pb b2), (10, .slice ad15 2 cap16), (11, .slice ad17 3 cap18), (17, sv ad79 y77.1 cap80), (154, .bool true), (157, undef)] hF (by kernel_rfl) (by kernel_rfl) ⟨by kernel_rfl⟩ ⟨by kernel_rfl⟩ fun a hF => ?_
     refine skipW [(1, pb b1), (2, pb b2), (10, .slice ad15 2 cap16), (11, .slice ad17 3 cap18), (17, sv ad79 y77.1 cap80), (154, .bool true), (158, undef)] hF (by kernel_rfl) (by kernel_rfl) ⟨by kernel_rfl⟩ ⟨by kernel_rfl⟩ fun a hF => ?_
     refine skipW [(1, pb b1), (2, pb b2), (10, .slice ad15 2 cap16), (11, .slice ad17 3 cap18), (17, sv ad79 y77.1 cap80), (154, .bool true), (159, undef)] hF (by kernel_rfl) (by kernel_rfl) ⟨by kernel_rfl⟩ ⟨by kernel_rfl⟩ fun a hF => ?_
     refine runC (rest := [40, 41, 42, 43, 44, 45, 46, 47, 48, 49, 50]) (obs := []) [38, 39] [(1, pb b1), (2, pb b2), (10, .slice ad15 2 cap16), (11, .slice ad17 3 cap18), (17, sv ad79 y77.1 cap80), (161, .bool true)] hF (by kernel_rfl) (by kernel_rfl) onil ⟨by kernel_rfl⟩ fun a hF => ?_
     refine skipW [(1, pb b1), (2, pb b2), (10, .slice ad15 2 cap16), (11, .slice ad17 3 cap18), (17, sv ad79 y77.1 cap80), (161, .bool true), (162, undef)] hF (by kernel_rfl) (by kernel_rfl) ⟨by kernel_rfl⟩ ⟨by kernel_rfl⟩ fun a hF => ?_
     refine skipW [(1, pb b1), (2, pb b2), (10, .slice ad15 2 cap16), (11, .slice ad17 3 cap18), (17, sv ad79 y77.1 cap80), (161, .bool true), (163, undef)] hF (by kernel_rfl) (by kernel_rfl) ⟨by kernel_rfl⟩ ⟨by kernel_rfl⟩ fun a hF => ?_
     refine skipW [(1, pb b1), (2, pb b2), (10, .slice ad15 2 cap16), (11, .slice ad17 3 cap18), (17, sv ad79 y77.1 cap80), (161, .bool true), (164, undef)] hF (by kernel_rfl) (by kernel_rfl) ⟨by kernel_rfl⟩ ⟨by kernel_rfl⟩ fun a hF => ?_
     refine skipW [(1, pb b1), (2, pb b2), (10, .slice ad15 2 cap16), (11, .slice ad17 3 cap18), (17, sv ad79 y77.1 cap80), (161, .bool true), (165, undef)] hF (by kernel_rfl) (by kernel_rfl) ⟨by kernel_rfl⟩ ⟨by kernel_rfl⟩ fun a hF => ?_
     refine skipW [(1, pb b1), (2, pb b2), (10, .slice ad15 2 cap16), (11, .slice ad17 3 cap18), (17, sv ad79 y77.1 cap80), (161, .bool true), (166, undef)] hF (by kernel_rfl) (by kernel_rfl) ⟨by kernel_rfl⟩ ⟨by kernel_rfl⟩ fun a hF => ?_
     refine runC (rest := [47, 48, 49, 50]) (obs := []) [45, 46] [(1, pb b1), (2, pb b2), (10, .slice ad15 2 cap16), (11, .slice ad17 3 cap18), (17, sv ad79 y77.1 cap80), (168, .bool true)] hF (by kernel_rfl) (by kernel_rfl) onil ⟨by kernel_rfl⟩ fun a hF => ?_
     refine skipW [(1, pb b1), (2, pb b2), (10, .slice ad15 2 cap16), (11, .slice ad17 3 cap18), (17, sv ad79 y77.1 cap80), (168, .bool true), (169, undef)] hF (by kernel_rfl) (by kernel_rfl) ⟨by kernel_rfl⟩ ⟨by kernel_rfl⟩ fun a hF => ?_
     refine skipW [(1, pb b1), (2, pb b2), (10, .slice ad15 2 cap16), (11, .slice ad17 3 cap18), (17, sv ad79 y77.1 cap80), (168, .bool true), (170, undef)] hF (by kernel_rfl) (by kernel_rfl) ⟨by kernel_rfl⟩ ⟨by kernel_rfl⟩ fun a hF => ?_
     refine skipW [(1, pb b1), (2, pb b2), (10, .slice ad15 2 cap16), (11, .slice ad17 3 cap18), (17, sv ad79 y77.1 cap80), (168, .bool true), (171, undef)] hF (by kernel_rfl) (by kernel_rfl) ⟨by kernel_rfl⟩ ⟨by kernel_rfl⟩ fun a hF => ?_
     refine skipW [(1, pb b1), (2, pb b2), (10, .slice ad15 2 cap16), (11, .slice ad17 3 cap18), (17, sv ad79 y77.1 cap80), (168, .bool true), (172, undef)] hF (by kernel_rfl) (by kernel_rfl) ⟨by kernel_rfl⟩ ⟨by kernel_rfl⟩ fun a hF => ?_
     refine WRun.fin ?_
     refine all_cons ?_ all_nil
     refine skipSK [(1, pb b1), (2, pb b2), (10, .slice ad15 2 cap16), (11, .slice ad17 3 cap18), (17, sv ad79 y77.1 cap80), (168, .bool true), (172, undef), (173, undef)] hF (by kernel_rfl) ⟨by kernel_rfl⟩ ⟨by kernel_rfl⟩ fun a hF => ?_
     refine ⟨⟨St.pick [0, 1, 2, 3, 4, 5, 6] (by decide) hS, (hS.frz (i := 7) rfl hlow)⟩, ?_⟩
     refine WT.s [] [52] (by kernel_rfl) (by kernel_rfl) ?_
     refine WRun.fin ?_
     refine all_cons ?_ all_nil
     refine skipSK [(1, pb b1), (2, pb b2), (10, .slice ad15 2 cap16), (11, .slice ad17 3 cap18), (17, sv ad79 y77.1 cap80), (168, .bool true), (174, undef)] hF (by kernel_rfl) ⟨by kernel_rfl⟩ ⟨by kernel_rfl⟩ fun a hF => ?_
     refine ⟨⟨St.pick [0, 1, 2, 3, 4, 5, 6] (by decide) hS, (hS.frz (i := 7) rfl hlow)⟩, ?_⟩
     refine WT.s [53, 54, 55, 56, 57, 58] [59] (by kernel_rfl) (by kernel_rfl) ?_
     refine skipW [(1, pb b1), (2, pb b2), (10, .slice ad15 2 cap16), (11, .slice ad17 3 cap18), (17, sv ad79 y77.1 cap80), (168, .bool true), (175, undef)] hF (by kernel_rfl) (by kernel_rfl) ⟨by kernel_rfl⟩ ⟨by kernel_rfl⟩ fun a hF => ?_
     refine runC (rest := [56, 57, 58]) (obs := []) [54, 55] [(1, pb b1), (2, pb b2), (10, .slice ad15 2 cap16), (11, .slice ad17 3 cap18), (17, sv ad79 y77.1 cap80), (177, .bool true)] hF (by kernel_rfl) (by kernel_rfl) onil ⟨by kernel_rfl⟩ fun a hF => ?_
     refine skipW [(1, pb b1), (2, pb b2), (10, .slice ad15 2 cap16), (11, .slice ad17 3 cap18), (17, sv ad79 y77.1 cap80), (177, .bool true), (178, undef)] hF (by kernel_rfl) (by kernel_rfl) ⟨by kernel_rfl⟩ ⟨by kernel_rfl⟩ fun a hF => ?_
     refine skipW [(1, pb b1), (2, pb b2), (10, .slice ad15 2 cap16), (11, .slice ad17 3 cap18), (17, sv ad79 y77.1 cap80), (177, .bool true), (178, undef), (179, undef)] hF (by kernel_rfl) (by kernel_rfl) ⟨by kernel_rfl⟩ ⟨by kernel_rfl⟩ fun a hF => ?_
     refine skipW [(1, pb b1), (2, pb b2), (10, .slice ad15 2 cap16), (11, .slice ad17 3 cap18), (17, sv ad79 y77.1 cap80), (177, .bool true), (178, undef), (179, undef), (180, undef)] hF (by kernel_rfl) (by kernel_rfl) ⟨by kernel_rfl⟩ ⟨by kernel_rfl⟩ fun a hF => ?_
     refine WRun.fin ?_
     refine all_cons ?_ all_nil
     refine skipSK [(1, pb b1), (2, pb b2), (10, .slice ad15 2 cap16), (11, .slice ad17 3 cap18), (17, sv ad79 y77.1 cap80), (177, .bool true), (181, undef)] hF (by kernel_rfl) ⟨by kernel_rfl⟩ ⟨by kernel_rfl⟩ fun a hF => ?_
     refine ⟨⟨St.pick [0, 1, 2, 3, 4, 5, 6] (by decide) hS, (hS.frz (i := 7) rfl hlow)⟩, ?_⟩
     refine WT.s [60, 61, 62, 63, 64, 65, 66] [67] (by kernel_rfl) (by kernel_rfl) ?_
     refine skipW [(1, pb b1), (2, pb b2), (10, .slice ad15 2 cap16), (11, .slice ad17 3 cap18), (17, sv ad79 y77.1 cap80), (177, .bool true), (182, undef)] hF (by kernel_rfl) (by kernel_rfl) ⟨by kernel_rfl⟩ ⟨by kernel_rfl⟩ fun a hF => ?_
     refine runC (rest := [63, 64, 65, 66]) (obs := []) [61, 62] [(1, pb b1), (2, pb b2), (10, .slice ad15 2 cap16), (11, .slice ad17 3 cap18), (17, sv ad79 y77.1 cap80), (184, .bool true)] hF (by kernel_rfl) (by kernel_rfl) onil ⟨by kernel_rfl⟩ fun a hF => ?_
     refine skipW [(1, pb b1), (2, pb b2), (10, .slice ad15 2 cap16), (11, .slice ad17 3 cap18), (17, sv ad79 y77.1 cap80), (184, .bool true), (185, undef)] hF (by kernel_rfl) (by kernel_rfl) ⟨by kernel_rfl⟩ ⟨by kernel_rfl⟩ fun a hF => ?_
     refine skipW [(1, pb b1), (2, pb b2), (10, .slice ad15 2 cap16), (17, sv ad79 y77.1 cap80), (184, .bool true), (185, undef), (186, undef)] hF (by kernel_rfl) (by kernel_rfl) ⟨by kernel_rfl⟩ ⟨by kernel_rfl⟩ fun a hF => ?_
     refine skipW [(1, pb b1), (2, pb b2), (10, .slice ad15 2 cap16), (184, .bool true), (185, undef), (186, undef), (187, undef)] hF (by kernel_rfl) (by kernel_rfl) ⟨by kernel_rfl⟩ ⟨by kernel_rfl⟩ fun a hF => ?_
     refine skipW [(1, pb b1), (2, pb b2), (10, .slice ad15 2 cap16), (184, .bool true), (185, undef), (186, undef), (188, undef)] hF (by kernel_rfl) (by kernel_rfl) ⟨by kernel_rfl⟩ ⟨by kernel_rfl⟩ fun a hF => ?_
     refine WRun.fin ?_
     refine all_cons ?_ all_nil
     refine skipSK [(1, pb b1), (2, pb b2), (10, .slice ad15 2 cap16), (184, .bool true), (189, undef)] hF (by kernel_rfl) ⟨by kernel_rfl⟩ ⟨by kernel_rfl⟩ fun a hF => ?_
     refine ⟨⟨St.pick [0, 1, 2, 3, 4, 5, 6] (by decide) hS, (hS.frz (i := 7) rfl hlow)⟩, ?_⟩
     refine WT.z [68, 69] (by kernel_rfl) ?_
     refine skipW [(1, pb b1), (2, pb b2), (10, .slice ad15 2 cap16), (184, .bool true), (190, undef)] hF (by kernel_rfl) (by kernel_rfl) ⟨by kernel_rfl⟩ ⟨by kernel_rfl⟩ fun a hF => ?_
     refine runC (rest := []) (obs := []) [69] [(1, pb b1), (2, pb b2), (10, .slice ad15 2 cap16), (191, .bool true)] hF (by kernel_rfl) (by kernel_rfl) onil ⟨by kernel_rfl⟩ fun a hF => ?_
     refine WRun.fin ?_
     refine wfn rfl ?_
     refine wpIn_cond_true (hF.get rfl) ?_
     refine esr ?_
     refine rn 1 1 [(0, .bool false)] hF fun a hF => ?_
     refine wfn rfl ?_
     refine wpIn_ret (ret_then <| fn_ret [.tmp 0] [.bool false] hF rfl ⟨rfl, trivial⟩ ?_)
     have hr_ := Option.some.inj h
     subst hr_
     exact ⟨rfl, hS.ext⟩
    ·replace h := bif_f h hg93
     rw [hg93] at hF
     refine runCC (rest := []) (obs := []) [15] [(1, ⟨[], pb b1⟩), (2, ⟨[], pb b2⟩), (10, ⟨[], .slice ad15 2 cap16⟩), (11, ⟨[], .slice ad17 3 cap18⟩), (17, ⟨[], sv ad79 y77.1 cap80⟩), (136, ⟨[], .bool false⟩), (137, ⟨[⟨136, false, false⟩], sv ad61 y59.1 cap62⟩)] hF (by kernel_rfl) (by kernel_rfl) onil ⟨by kernel_rfl⟩ (by kernel_rfl) fun a hF => ?_
     replace hF : Fr 260 [] [(1, pb b1), (2, pb b2), (10, .slice ad15 2 cap16), (11, .slice ad17 3 cap18), (17, sv ad79 y77.1 cap80), (136, .bool false), (137, sv ad61 y59.1 cap62)] a := hF
     refine WRun.fin ?_
     refine all_cons ?_ all_nil
     refine litK (e := 3) (sz := 1) (f := fI) (t := 40) (len := 2) (fun b94 => [(1, pb b1), (2, pb b2), (10, .slice ad15 2 cap16), (11, .slice ad17 3 cap18), (17, sv ad79 y77.1 cap80), (136, .bool false), (137, sv ad61 y59.1 cap62), (138, sb b94 2)]) #[(0, iv 0), (1, iv 1)] #[iv 0, iv 1] ([0, 1]) hF hS (by kernel_rfl) ⟨by kernel_rfl⟩ (by kernel_rfl) fI_len rfl rfl (by kernel_rfl) (fun _ => ⟨by kernel_rfl⟩) fun b94 w a hF hS => ⟨⟨St.pick [1, 2, 3, 4, 5, 6, 7] (by decide) hS, (hS.frz (i := 8) rfl hlow)⟩, ?_⟩
     refine WT.s [] [17] (by kernel_rfl) (by kernel_rfl) ?_
     refine WRun.fin ?_
     refine all_cons ?_ all_nil
     replace h := bindS h
     obtain ⟨y96, hy96, h⟩ := h
     refine callK (f := 21) (args := #[sv ad61 y59.1 cap62, sb b94 2]) (R := fun v w2 => v = .bool y96 ∧ Ext w w2) (fun v95 => [(1, pb b1), (2, pb b2), (10, .slice ad15 2 cap16), (11, .slice ad17 3 cap18), (17, sv ad79 y77.1 cap80), (136, .bool false), (139, v95)]) hF (by kernel_rfl) ⟨by kernel_rfl⟩ (Calls.mono (law06_numbers_ok F y59.1 ([0, 1]) _ hy96 (memOf w) w (memOf_at w) (hA63.mono (FrzAt.le_mem (hS.frz (i := 8) rfl hlow))) (Arr.toM (hS.arr (i := 0) rfl))) (fun e w2 h => ⟨_, h.1, rfl, h.2⟩)) (fun _ => ⟨by kernel_rfl⟩) ?_
     rintro v95 w a ⟨rfl, hx⟩ hF
     replace hS := hS.later hx
     refine ⟨⟨St.pick [1, 2, 3, 4, 5, 6, 7] (by decide) hS, (hS.frz (i := 8) rfl hlow)⟩, ?_⟩
     refine WT.s [18, 19, 20, 21, 22, 23, 24, 25, 26, 27, 28, 29, 30, 31, 32, 33, 34, 35, 36, 37, 38, 39, 40, 41, 42, 43, 44, 45, 46, 47, 48, 49, 50] [51] (by kernel_rfl) (by kernel_rfl) ?_
     refine runC (rest := [26, 27, 28, 29, 30, 31, 32, 33, 34, 35, 36, 37, 38, 39, 40, 41, 42, 43, 44, 45, 46, 47, 48, 49, 50]) (obs := []) [18, 19, 20, 21, 22, 23, 24, 25] [(1, pb b1), (2, pb b2), (10, .slice ad15 2 cap16), (11, .slice ad17 3 cap18), (17, sv ad79 y77.1 cap80), (147, .bool (bif (!y96) then true else ((ln y77.1) != 3)))] hF (by kernel_rfl) (by kernel_rfl) onil ⟨by kernel_rfl⟩ fun a hF => ?_
     rcases Bool.eq_false_or_eq_true ((bif (!y96) then true else ((ln y77.1) != 3))) with hg97 | hg97
     ·replace h := bif_t h hg97
      rw [hg97] at hF
      refine skipW [(1, pb b1), (2, pb b2), (10, .slice ad15 2 cap16), (11, .slice ad17 3 cap18), (17, sv ad79 y77.1 cap80), (147, .bool true), (148, undef)] hF (by kernel_rfl) (by kernel_rfl) ⟨by kernel_rfl⟩ ⟨by kernel_rfl⟩ fun a hF => ?_
      refine skipW [(1, pb b1), (2, pb b2), (10, .slice ad15 2 cap16), (11, .slice ad17 3 cap18), (17, sv ad79 y77.1 cap80), (147, .bool true), (149, undef)] hF (by kernel_rfl) (by kernel_rfl) ⟨by kernel_rfl⟩ ⟨by kernel_rfl⟩ fun a hF => ?_
      refine skipW [(1, pb b1), (2, pb b2), (10, .slice ad15 2 cap16), (11, .slice ad17 3 cap18), (17, sv ad79 y77.1 cap80), (147, .bool true), (150, undef)] hF (by kernel_rfl) (by kernel_rfl) ⟨by kernel_rfl⟩ ⟨by kernel_rfl⟩ fun a hF => ?_
      refine skipW [(1, pb b1), (2, pb b2), (10, .slice ad15 2 cap16), (11, .slice ad17 3 cap18), (17, sv ad79 y77.1 cap80), (147, .bool true), (151, undef)] hF (by kernel_rfl) (by kernel_rfl) ⟨by kernel_rfl⟩ ⟨by kernel_rfl⟩ fun a hF => ?_
      refine skipW [(1, pb b1), (2, pb b2), (10, .slice ad15 2 cap16), (11, .slice ad17 3 cap18), (17, sv ad79 y77.1 cap80), (147, .bool true), (152, undef)] hF (by kernel_rfl) (by kernel_rfl) ⟨by kernel_rfl⟩ ⟨by kernel_rfl⟩ fun a hF => ?_
      refine runC (rest := [33, 34, 35, 36, 37, 38, 39, 40, 41, 42, 43, 44, 45, 46, 47, 48, 49, 50]) (obs := []) [31, 32] [(1, pb b1), (2, pb b2), (10, .slice ad15 2 cap16), (11, .slice ad17 3 cap18), (17, sv ad79 y77.1 cap80), (154, .bool true)] hF (by kernel_rfl) (by kernel_rfl) onil ⟨by kernel_rfl⟩ fun a hF => ?_
      refine skipW [(1, pb b1), (2, pb b2), (10, .slice ad15 2 cap16), (11, .slice ad17 3 cap18), (17, sv ad79 y77.1 cap80), (154, .bool true), (155, undef)] hF (by kernel_rfl) (by kernel_rfl) ⟨by kernel_rfl⟩ ⟨by kernel_rfl⟩ fun a hF => ?_
      refine skipW [(1, pb b1), (2, pb b2), (10, .slice ad15 2 cap16), (11, .slice ad17 3 cap18), (17, sv ad79 y77.1 cap80), (154, .bool true), (156, undef)] hF (by kernel_rfl) (by kernel_rfl) ⟨by kernel_rfl⟩ ⟨by kernel_rfl⟩ fun a hF => ?_
      refine skipW [(1, pb b1), (2, pb b2), (10, .slice ad15 2 cap16), (11, .slice ad17 3 cap18), (17, sv ad79 y77.1 cap80), (154, .bool true), (157, undef)] hF (by kernel_rfl) (by kernel_rfl) ⟨by kernel_rfl⟩ ⟨by kernel_rfl⟩ fun a hF => ?_
      refine skipW [(1, pb b1), (2, pb b2), (10, .slice ad15 2 cap16), (11, .slice ad17 3 cap18), (17, sv ad79 y77.1 cap80), (154, .bool true), (158, undef)] hF (by kernel_rfl) (by kernel_rfl) ⟨by kernel_rfl⟩ ⟨by kernel_rfl⟩ fun a hF => ?_
      refine skipW [(1, pb b1), (2, pb b2), (10, .slice ad15 2 cap16), (11, .slice ad17 3 cap18), (17, sv ad79 y77.1 cap80), (154, .bool true), (159, undef)] hF (by kernel_rfl) (by kernel_rfl) ⟨by kernel_rfl⟩ ⟨by kernel_rfl⟩ fun a hF => ?_
      refine runC (rest := [40, 41, 42, 43, 44, 45, 46, 47, 48, 49, 50]) (obs := []) [38, 39] [(1, pb b1), (2, pb b2), (10, .slice ad15 2 cap16), (11, .slice ad17 3 cap18), (17, sv ad79 y77.1 cap80), (161, .bool true)] hF (by kernel_rfl) (by kernel_rfl) onil ⟨by kernel_rfl⟩ fun a hF => ?_
      refine skipW [(1, pb b1), (2, pb b2), (10, .slice ad15 2 cap16), (11, .slice ad17 3 cap18), (17, sv ad79 y77.1 cap80), (161, .bool true), (162, undef)] hF (by kernel_rfl) (by kernel_rfl) ⟨by kernel_rfl⟩ ⟨by kernel_rfl⟩ fun a hF => ?_
      refine skipW [(1, pb b1), (2, pb b2), (10, .slice ad15 2 cap16), (11, .slice ad17 3 cap18), (17, sv ad79 y77.1 cap80), (161, .bool true), (163, undef)] hF (by kernel_rfl) (by kernel_rfl) ⟨by kernel_rfl⟩ ⟨by kernel_rfl⟩ fun a hF => ?_
      refine skipW [(1, pb b1), (2, pb b2), (10, .slice ad15 2 cap16), (11, .slice ad17 3 cap18), (17, sv ad79 y77.1 cap80), (161, .bool true), (164, undef)] hF (by kernel_rfl) (by kernel_rfl) ⟨by kernel_rfl⟩ ⟨by kernel_rfl⟩ fun a hF => ?_
      refine skipW [(1, pb b1), (2, pb b2), (10, .slice ad15 2 cap16), (11, .slice ad17 3 cap18), (17, sv ad79 y77.1 cap80), (161, .bool true), (165, undef)] hF (by kernel_rfl) (by kernel_rfl) ⟨by kernel_rfl⟩ ⟨by kernel_rfl⟩ fun a hF => ?_
      refine skipW [(1, pb b1), (2, pb b2), (10, .slice ad15 2 cap16), (11, .slice ad17 3 cap18), (17, sv ad79 y77.1 cap80), (161, .bool true), (166, undef)] hF (by kernel_rfl) (by kernel_rfl) ⟨by kernel_rfl⟩ ⟨by kernel_rfl⟩ fun a hF => ?_
      refine runC (rest := [47, 48, 49, 50]) (obs := []) [45, 46] [(1, pb b1), (2, pb b2), (10, .slice ad15 2 cap16), (11, .slice ad17 3 cap18), (17, sv ad79 y77.1 cap80), (168, .bool true)] hF (by kernel_rfl) (by kernel_rfl) onil ⟨by kernel_rfl⟩ fun a hF => ?_
      refine skipW [(1, pb b1), (2, pb b2), (10, .slice ad15 2 cap16), (11, .slice ad17 3 cap18), (17, sv ad79 y77.1 cap80), (168, .bool true), (169, undef)] hF (by kernel_rfl) (by kernel_rfl) ⟨by kernel_rfl⟩ ⟨by kernel_rfl⟩ fun a hF => ?_
      refine skipW [(1, pb b1), (2, pb b2), (10, .slice ad15 2 cap16), (11, .slice ad17 3 cap18), (17, sv ad79 y77.1 cap80), (168, .bool true), (170, undef)] hF (by kernel_rfl) (by kernel_rfl) ⟨by kernel_rfl⟩ ⟨by kernel_rfl⟩ fun a hF => ?_
      refine skipW [(1, pb b1), (2, pb b2), (10, .slice ad15 2 cap16), (11, .slice ad17 3 cap18), (17, sv ad79 y77.1 cap80), (168, .bool true), (171, undef)] hF (by kernel_rfl) (by kernel_rfl) ⟨by kernel_rfl⟩ ⟨by kernel_rfl⟩ fun a hF => ?_
      refine skipW [(1, pb b1), (2, pb b2), (10, .slice ad15 2 cap16), (11, .slice ad17 3 cap18), (17, sv ad79 y77.1 cap80), (168, .bool true), (172, undef)] hF (by kernel_rfl) (by kernel_rfl) ⟨by kernel_rfl⟩ ⟨by kernel_rfl⟩ fun a hF => ?_
      refine WRun.fin ?_
      refine all_cons ?_ all_nil
      refine skipSK [(1, pb b1), (2, pb b2), (10, .slice ad15 2 cap16), (11, .slice ad17 3 cap18), (17, sv ad79 y77.1 cap80), (168, .bool true), (172, undef), (173, undef)] hF (by kernel_rfl) ⟨by kernel_rfl⟩ ⟨by kernel_rfl⟩ fun a hF => ?_
      refine ⟨⟨St.pick [1, 2, 3, 4, 5, 6, 7] (by decide) hS, (hS.frz (i := 8) rfl hlow)⟩, ?_⟩
      refine WT.s [] [52] (by kernel_rfl) (by kernel_rfl) ?_
      refine WRun.fin ?_
      refine all_cons ?_ all_nil
      refine skipSK [(1, pb b1), (2, pb b2), (10, .slice ad15 2 cap16), (11, .slice ad17 3 cap18), (17, sv ad79 y77.1 cap80), (168, .bool true), (174, undef)] hF (by kernel_rfl) ⟨by kernel_rfl⟩ ⟨by kernel_rfl⟩ fun a hF => ?_
      refine ⟨⟨St.pick [1, 2, 3, 4, 5, 6, 7] (by decide) hS, (hS.frz (i := 8) rfl hlow)⟩, ?_⟩
      refine WT.s [53, 54, 55, 56, 57, 58] [59] (by kernel_rfl) (by kernel_rfl) ?_
      refine skipW [(1, pb b1), (2, pb b2), (10, .slice ad15 2 cap16), (11, .slice ad17 3 cap18), (17, sv ad79 y77.1 cap80), (168, .bool true), (175, undef)] hF (by kernel_rfl) (by kernel_rfl) ⟨by kernel_rfl⟩ ⟨by kernel_rfl⟩ fun a hF => ?_
      refine runC (rest := [56, 57, 58]) (obs := []) [54, 55] [(1, pb b1), (2, pb b2), (10, .slice ad15 2 cap16), (11, .slice ad17 3 cap18), (17, sv ad79 y77.1 cap80), (177, .bool true)] hF (by kernel_rfl) (by kernel_rfl) onil ⟨by kernel_rfl⟩ fun a hF => ?_
      refine skipW [(1, pb b1), (2, pb b2), (10, .slice ad15 2 cap16), (11, .slice ad17 3 cap18), (17, sv ad79 y77.1 cap80), (177, .bool true), (178, undef)] hF (by kernel_rfl) (by kernel_rfl) ⟨by kernel_rfl⟩ ⟨by kernel_rfl⟩ fun a hF => ?_
      refine skipW [(1, pb b1), (2, pb b2), (10, .slice ad15 2 cap16), (11, .slice ad17 3 cap18), (17, sv ad79 y77.1 cap80), (177, .bool true), (178, undef), (179, undef)] hF (by kernel_rfl) (by kernel_rfl) ⟨by kernel_rfl⟩ ⟨by kernel_rfl⟩ fun a hF => ?_
      refine skipW [(1, pb b1), (2, pb b2), (10, .slice ad15 2 cap16), (11, .slice ad17 3 cap18), (17, sv ad79 y77.1 cap80), (177, .bool true), (178, undef), (179, undef), (180, undef)] hF (by kernel_rfl) (by kernel_rfl) ⟨by kernel_rfl⟩ ⟨by kernel_rfl⟩ fun a hF => ?_
      refine WRun.fin ?_
      refine all_cons ?_ all_nil
      refine skipSK [(1, pb b1), (2, pb b2), (10, .slice ad15 2 cap16), (11, .slice ad17 3 cap18), (17, sv ad79 y77.1 cap80), (177, .bool true), (181, undef)] hF (by kernel_rfl) ⟨by kernel_rfl⟩ ⟨by kernel_rfl⟩ fun a hF => ?_
      refine ⟨⟨St.pick [1, 2, 3, 4, 5, 6, 7] (by decide) hS, (hS.frz (i := 8) rfl hlow)⟩, ?_⟩
      refine WT.s [60, 61, 62, 63, 64, 65, 66] [67] (by kernel_rfl) (by kernel_rfl) ?_
      refine skipW [(1, pb b1), (2, pb b2), (10, .slice ad15 2 cap16), (11, .slice ad17 3 cap18), (17, sv ad79 y77.1 cap80), (177, .bool true), (182, undef)] hF (by kernel_rfl) (by kernel_rfl) ⟨by kernel_rfl⟩ ⟨by kernel_rfl⟩ fun a hF => ?_
      refine runC (rest := [63, 64, 65, 66]) (obs := []) [61, 62] [(1, pb b1), (2, pb b2), (10, .slice ad15 2 cap16), (11, .slice ad17 3 cap18), (17, sv ad79 y77.1 cap80), (184, .bool true)] hF (by kernel_rfl) (by kernel_rfl) onil ⟨by kernel_rfl⟩ fun a hF => ?_
      refine skipW [(1, pb b1), (2, pb b2), (10, .slice ad15 2 cap16), (11, .slice ad17 3 cap18), (17, sv ad79 y77.1 cap80), (184, .bool true), (185, undef)] hF (by kernel_rfl) (by kernel_rfl) ⟨by kernel_rfl⟩ ⟨by kernel_rfl⟩ fun a hF => ?_
      refine skipW [(1, pb b1), (2, pb b2), (10, .slice ad15 2 cap16), (17, sv ad79 y77.1 cap80), (184, .bool true), (185, undef), (186, undef)] hF (by kernel_rfl) (by kernel_rfl) ⟨by kernel_rfl⟩ ⟨by kernel_rfl⟩ fun a hF => ?_
      refine skipW [(1, pb b1), (2, pb b2), (10, .slice ad15 2 cap16), (184, .bool true), (185, undef), (186, undef), (187, undef)] hF (by kernel_rfl) (by kernel_rfl) ⟨by kernel_rfl⟩ ⟨by kernel_rfl⟩ fun a hF => ?_
      refine skipW [(1, pb b1), (2, pb b2), (10, .slice ad15 2 cap16), (184, .bool true), (185, undef), (186, undef), (188, undef)] hF (by kernel_rfl) (by kernel_rfl) ⟨by kernel_rfl⟩ ⟨by kernel_rfl⟩ fun a hF => ?_
      refine WRun.fin ?_
      refine all_cons ?_ all_nil
      refine skipSK [(1, pb b1), (2, pb b2), (10, .slice ad15 2 cap16), (184, .bool true), (189, undef)] hF (by kernel_rfl) ⟨by kernel_rfl⟩ ⟨by kernel_rfl⟩ fun a hF => ?_
      refine ⟨⟨St.pick [1, 2, 3, 4, 5, 6, 7] (by decide) hS, (hS.frz (i := 8) rfl hlow)⟩, ?_⟩
      refine WT.z [68, 69] (by kernel_rfl) ?_
      refine skipW [(1, pb b1), (2, pb b2), (10, .slice ad15 2 cap16), (184, .bool true), (190, undef)] hF (by kernel_rfl) (by kernel_rfl) ⟨by kernel_rfl⟩ ⟨by kernel_rfl⟩ fun a hF => ?_
      refine runC (rest := []) (obs := []) [69] [(1, pb b1), (2, pb b2), (10, .slice ad15 2 cap16), (191, .bool true)] hF (by kernel_rfl) (by kernel_rfl) onil ⟨by kernel_rfl⟩ fun a hF => ?_
      refine WRun.fin ?_
      refine wfn rfl ?_
      refine wpIn_cond_true (hF.get rfl) ?_
      refine esr ?_
      refine rn 1 1 [(0, .bool false)] hF fun a hF => ?_
      refine wfn rfl ?_
      refine wpIn_ret (ret_then <| fn_ret [.tmp 0] [.bool false] hF rfl ⟨rfl, trivial⟩ ?_)
      have hr_ := Option.some.inj h
      subst hr_
      exact ⟨rfl, hS.ext⟩
     ·replace h := bif_f h hg97
      rw [hg97] at hF
      replace h := bindS h
      obtain ⟨u98, hu98, h⟩ := h
      obtain ⟨cs99, hcs100, hR101⟩ := getI_all2 hA82.2 hu98
      obtain ⟨ad102, cap103, rfl, hA104⟩ := hR101
      refine runC (rest := [33, 34, 35, 36, 37, 38, 39, 40, 41, 42, 43, 44, 45, 46, 47, 48, 49, 50]) (obs := [.run [⟨147, false, false⟩] (Instr.indexAt 60 (sv ad79 y77.1 cap80) (iv 0)) (.pointer (some (slAddr ad79 0 2))), .run [⟨147, false, false⟩] (Instr.loadAt 3 (.pointer (some ((slAddr ad79 0 2).add 1)))) (iv u98.Late)]) [26, 27, 28, 29, 30, 31, 32] [(1, pb b1), (2, pb b2), (10, .slice ad15 2 cap16), (11, .slice ad17 3 cap18), (17, sv ad79 y77.1 cap80), (154, .bool (u98.Late != 2))] hF (by kernel_rfl) (by kernel_rfl) (ocons (obIdxQ (hA82.at (hS.frz (i := 8) rfl hlow)) (by kernel_rfl) (fun _ => hcs100)) (ocons (obElQ (i := 0) 1 (fN_len 2) (fun _ hd => (hA82.at hd.2)) (by kernel_rfl) (fun _ => hcs100) rfl) onil)) ⟨by kernel_rfl⟩ fun a hF => ?_
      rcases Bool.eq_false_or_eq_true ((u98.Late != 2)) with hg105 | hg105
      ·replace h := bif_t h hg105
       rw [hg105] at hF
       refine skipW [(1, pb b1), (2, pb b2), (10, .slice ad15 2 cap16), (11, .slice ad17 3 cap18), (17, sv ad79 y77.1 cap80), (154, .bool true), (155, undef)] hF (by kernel_rfl) (by kernel_rfl) ⟨by kernel_rfl⟩ ⟨by kernel_rfl⟩ fun a hF => ?_
       refine skipW [(1, pb b1), (2, pb b2), (10, .slice ad15 2 cap16), (11, .slice ad17 3 cap18), (17, sv ad79 y77.1 cap80), (154, .bool true), (156, undef)] hF (by kernel_rfl) (by kernel_rfl) ⟨by kernel_rfl⟩ ⟨by kernel_rfl⟩ fun a hF => ?_
       refine skipW [(1, pb b1), (2, pb b2), (10, .slice ad15 2 cap16), (11, .slice ad17 3 cap18), (17, sv ad79 y77.1 cap80), (154, .bool true), (157, undef)] hF (by kernel_rfl) (by kernel_rfl) ⟨by kernel_rfl⟩ ⟨by kernel_rfl⟩ fun a hF => ?_
       refine skipW [(1, pb b1), (2, pb b2), (10, .slice ad15 2 cap16), (11, .slice ad17 3 cap18), (17, sv ad79 y77.1 cap80), (154, .bool true), (158, undef)] hF (by kernel_rfl) (by kernel_rfl) ⟨by kernel_rfl⟩ ⟨by kernel_rfl⟩ fun a hF => ?_
       refine skipW [(1, pb b1), (2, pb b2), (10, .slice ad15 2 cap16), (11, .slice ad17 3 cap18), (17, sv ad79 y77.1 cap80), (154, .bool true), (159, undef)] hF (by kernel_rfl) (by kernel_rfl) ⟨by kernel_rfl⟩ ⟨by kernel_rfl⟩ fun a hF => ?_
       refine runC (rest := [40, 41, 42, 43, 44, 45, 46, 47, 48, 49, 50]) (obs := []) [38, 39] [(1, pb b1), (2, pb b2), (10, .slice ad15 2 cap16), (11, .slice ad17 3 cap18), (17, sv ad79 y77.1 cap80), (161, .bool true)] hF (by kernel_rfl) (by kernel_rfl) onil ⟨by kernel_rfl⟩ fun a hF => ?_
       refine skipW [(1, pb b1), (2, pb b2), (10, .slice ad15 2 cap16), (11, .slice ad17 3 cap18), (17, sv ad79 y77.1 cap80), (161, .bool true), (162, undef)] hF (by kernel_rfl) (by kernel_rfl) ⟨by kernel_rfl⟩ ⟨by kernel_rfl⟩ fun a hF => ?_
       refine skipW [(1, pb b1), (2, pb b2), (10, .slice ad15 2 cap16), (11, .slice ad17 3 cap18), (17, sv ad79 y77.1 cap80), (161, .bool true), (163, undef)] hF (by kernel_rfl) (by kernel_rfl) ⟨by kernel_rfl⟩ ⟨by kernel_rfl⟩ fun a hF => ?_
       refine skipW [(1, pb b1), (2, pb b2), (10, .slice ad15 2 cap16), (11, .slice ad17 3 cap18), (17, sv ad79 y77.1 cap80), (161, .bool true), (164, undef)] hF (by kernel_rfl) (by kernel_rfl) ⟨by kernel_rfl⟩ ⟨by kernel_rfl⟩ fun a hF => ?_
       refine skipW [(1, pb b1), (2, pb b2), (10, .slice ad15 2 cap16), (11, .slice ad17 3 cap18), (17, sv ad79 y77.1 cap80), (161, .bool true), (165, undef)] hF (by kernel_rfl) (by kernel_rfl) ⟨by kernel_rfl⟩ ⟨by kernel_rfl⟩ fun a hF => ?_
       refine skipW [(1, pb b1), (2, pb b2), (10, .slice ad15 2 cap16), (11, .slice ad17 3 cap18), (17, sv ad79 y77.1 cap80), (161, .bool true), (166, undef)] hF (by kernel_rfl) (by kernel_rfl) ⟨by kernel_rfl⟩ ⟨by kernel_rfl⟩ fun a hF => ?_
       refine runC (rest := [47, 48, 49, 50]) (obs := []) [45, 46] [(1, pb b1), (2, pb b2), (10, .slice ad15 2 cap16), (11, .slice ad17 3 cap18), (17, sv ad79 y77.1 cap80), (168, .bool true)] hF (by kernel_rfl) (by kernel_rfl) onil ⟨by kernel_rfl⟩ fun a hF => ?_
       refine skipW [(1, pb b1), (2, pb b2), (10, .slice ad15 2 cap16), (11, .slice ad17 3 cap18), (17, sv ad79 y77.1 cap80), (168, .bool true), (169, undef)] hF (by kernel_rfl) (by kernel_rfl) ⟨by kernel_rfl⟩ ⟨by kernel_rfl⟩ fun a hF => ?_
       refine skipW [(1, pb b1), (2, pb b2), (10, .slice ad15 2 cap16), (11, .slice ad17 3 cap18), (17, sv ad79 y77.1 cap80), (168, .bool true), (170, undef)] hF (by kernel_rfl) (by kernel_rfl) ⟨by kernel_rfl⟩ ⟨by kernel_rfl⟩ fun a hF => ?_
       refine skipW [(1, pb b1), (2, pb b2), (10, .slice ad15 2 cap16), (11, .slice ad17 3 cap18), (17, sv ad79 y77.1 cap80), (168, .bool true), (171, undef)] hF (by kernel_rfl) (by kernel_rfl) ⟨by kernel_rfl⟩ ⟨by kernel_rfl⟩ fun a hF => ?_
       refine skipW [(1, pb b1), (2, pb b2), (10, .slice ad15 2 cap16), (11, .slice ad17 3 cap18), (17, sv ad79 y77.1 cap80), (168, .bool true), (172, undef)] hF (by kernel_rfl) (by kernel_rfl) ⟨by kernel_rfl⟩ ⟨by kernel_rfl⟩ fun a hF => ?_
       refine WRun.fin ?_
       refine all_cons ?_ all_nil
       refine skipSK [(1, pb b1), (2, pb b2), (10, .slice ad15 2 cap16), (11, .slice ad17 3 cap18), (17, sv ad79 y77.1 cap80), (168, .bool true), (172, undef), (173, undef)] hF (by kernel_rfl) ⟨by kernel_rfl⟩ ⟨by kernel_rfl⟩ fun a hF => ?_
       refine ⟨⟨St.pick [1, 2, 3, 4, 5, 6, 7] (by decide) hS, (hS.frz (i := 8) rfl hlow)⟩, ?_⟩
       refine WT.s [] [52] (by kernel_rfl) (by kernel_rfl) ?_
       refine WRun.fin ?_
       refine all_cons ?_ all_nil
       refine skipSK [(1, pb b1), (2, pb b2), (10, .slice ad15 2 cap16), (11, .slice ad17 3 cap18), (17, sv ad79 y77.1 cap80), (168, .bool true), (174, undef)] hF (by kernel_rfl) ⟨by kernel_rfl⟩ ⟨by kernel_rfl⟩ fun a hF => ?_
       refine ⟨⟨St.pick [1, 2, 3, 4, 5, 6, 7] (by decide) hS, (hS.frz (i := 8) rfl hlow)⟩, ?_⟩
       refine WT.s [53, 54, 55, 56, 57, 58] [59] (by kernel_rfl) (by kernel_rfl) ?_
       refine skipW [(1, pb b1), (2, pb b2), (10, .slice ad15 2 cap16), (11, .slice ad17 3 cap18), (17, sv ad79 y77.1 cap80), (168, .bool true), (175, undef)] hF (by kernel_rfl) (by kernel_rfl) ⟨by kernel_rfl⟩ ⟨by kernel_rfl⟩ fun a hF => ?_
       refine runC (rest := [56, 57, 58]) (obs := []) [54, 55] [(1, pb b1), (2, pb b2), (10, .slice ad15 2 cap16), (11, .slice ad17 3 cap18), (17, sv ad79 y77.1 cap80), (177, .bool true)] hF (by kernel_rfl) (by kernel_rfl) onil ⟨by kernel_rfl⟩ fun a hF => ?_
       refine skipW [(1, pb b1), (2, pb b2), (10, .slice ad15 2 cap16), (11, .slice ad17 3 cap18), (17, sv ad79 y77.1 cap80), (177, .bool true), (178, undef)] hF (by kernel_rfl) (by kernel_rfl) ⟨by kernel_rfl⟩ ⟨by kernel_rfl⟩ fun a hF => ?_
       refine skipW [(1, pb b1), (2, pb b2), (10, .slice ad15 2 cap16), (11, .slice ad17 3 cap18), (17, sv ad79 y77.1 cap80), (177, .bool true), (178, undef), (179, undef)] hF (by kernel_rfl) (by kernel_rfl) ⟨by kernel_rfl⟩ ⟨by kernel_rfl⟩ fun a hF => ?_
       refine skipW [(1, pb b1), (2, pb b2), (10, .slice ad15 2 cap16), (11, .slice ad17 3 cap18), (17, sv ad79 y77.1 cap80), (177, .bool true), (178, undef), (179, undef), (180, undef)] hF (by kernel_rfl) (by kernel_rfl) ⟨by kernel_rfl⟩ ⟨by kernel_rfl⟩ fun a hF => ?_
       refine WRun.fin ?_
       refine all_cons ?_ all_nil
       refine skipSK [(1, pb b1), (2, pb b2), (10, .slice ad15 2 cap16), (11, .slice ad17 3 cap18), (17, sv ad79 y77.1 cap80), (177, .bool true), (181, undef)] hF (by kernel_rfl) ⟨by kernel_rfl⟩ ⟨by kernel_rfl⟩ fun a hF => ?_
       refine ⟨⟨St.pick [1, 2, 3, 4, 5, 6, 7] (by decide) hS, (hS.frz (i := 8) rfl hlow)⟩, ?_⟩
       refine WT.s [60, 61, 62, 63, 64, 65, 66] [67] (by kernel_rfl) (by kernel_rfl) ?_
       refine skipW [(1, pb b1), (2, pb b2), (10, .slice ad15 2 cap16), (11, .slice ad17 3 cap18), (17, sv ad79 y77.1 cap80), (177, .bool true), (182, undef)] hF (by kernel_rfl) (by kernel_rfl) ⟨by kernel_rfl⟩ ⟨by kernel_rfl⟩ fun a hF => ?_
       refine runC (rest := [63, 64, 65, 66]) (obs := []) [61, 62] [(1, pb b1), (2, pb b2), (10, .slice ad15 2 cap16), (11, .slice ad17 3 cap18), (17, sv ad79 y77.1 cap80), (184, .bool true)] hF (by kernel_rfl) (by kernel_rfl) onil ⟨by kernel_rfl⟩ fun a hF => ?_
       refine skipW [(1, pb b1), (2, pb b2), (10, .slice ad15 2 cap16), (11, .slice ad17 3 cap18), (17, sv ad79 y77.1 cap80), (184, .bool true), (185, undef)] hF (by kernel_rfl) (by kernel_rfl) ⟨by kernel_rfl⟩ ⟨by kernel_rfl⟩ fun a hF => ?_
       refine skipW [(1, pb b1), (2, pb b2), (10, .slice ad15 2 cap16), (17, sv ad79 y77.1 cap80), (184, .bool true), (185, undef), (186, undef)] hF (by kernel_rfl) (by kernel_rfl) ⟨by kernel_rfl⟩ ⟨by kernel_rfl⟩ fun a hF => ?_
       refine skipW [(1, pb b1), (2, pb b2), (10, .slice ad15 2 cap16), (184, .bool true), (185, undef), (186, undef), (187, undef)] hF (by kernel_rfl) (by kernel_rfl) ⟨by kernel_rfl⟩ ⟨by kernel_rfl⟩ fun a hF => ?_
       refine skipW [(1, pb b1), (2, pb b2), (10, .slice ad15 2 cap16), (184, .bool true), (185, undef), (186, undef), (188, undef)] hF (by kernel_rfl) (by kernel_rfl) ⟨by kernel_rfl⟩ ⟨by kernel_rfl⟩ fun a hF => ?_
       refine WRun.fin ?_
       refine all_cons ?_ all_nil
       refine skipSK [(1, pb b1), (2, pb b2), (10, .slice ad15 2 cap16), (184, .bool true), (189, undef)] hF (by kernel_rfl) ⟨by kernel_rfl⟩ ⟨by kernel_rfl⟩ fun a hF => ?_
       refine ⟨⟨St.pick [1, 2, 3, 4, 5, 6, 7] (by decide) hS, (hS.frz (i := 8) rfl hlow)⟩, ?_⟩
       refine WT.z [68, 69] (by kernel_rfl) ?_
       refine skipW [(1, pb b1), (2, pb b2), (10, .slice ad15 2 cap16), (184, .bool true), (190, undef)] hF (by kernel_rfl) (by kernel_rfl) ⟨by kernel_rfl⟩ ⟨by kernel_rfl⟩ fun a hF => ?_
       refine runC (rest := []) (obs := []) [69] [(1, pb b1), (2, pb b2), (10, .slice ad15 2 cap16), (191, .bool true)] hF (by kernel_rfl) (by kernel_rfl) onil ⟨by kernel_rfl⟩ fun a hF => ?_
       refine WRun.fin ?_
       refine wfn rfl ?_
       refine wpIn_cond_true (hF.get rfl) ?_
       refine esr ?_
       refine rn 1 1 [(0, .bool false)] hF fun a hF => ?_
       refine wfn rfl ?_
       refine wpIn_ret (ret_then <| fn_ret [.tmp 0] [.bool false] hF rfl ⟨rfl, trivial⟩ ?_)
       have hr_ := Option.some.inj h
       subst hr_
       exact ⟨rfl, hS.ext⟩
      ·replace h := bif_f h hg105
       rw [hg105] at hF
       replace h := bindS h
       obtain ⟨u106, hu106, h⟩ := h
       obtain ⟨cs107, hcs108, hR109⟩ := getI_all2 hA82.2 hu106
       obtain ⟨ad110, cap111, rfl, hA112⟩ := hR109
       refine runC (rest := [40, 41, 42, 43, 44, 45, 46, 47, 48, 49, 50]) (obs := [.run [⟨154, false, false⟩] (Instr.indexAt 60 (sv ad79 y77.1 cap80) (iv 1)) (.pointer (some (slAddr ad79 1 2))), .run [⟨154, false, false⟩] (Instr.loadAt 3 (.pointer (some ((slAddr ad79 1 2).add 1)))) (iv u106.Late)]) [33, 34, 35, 36, 37, 38, 39] [(1, pb b1), (2, pb b2), (10, .slice ad15 2 cap16), (11, .slice ad17 3 cap18), (17, sv ad79 y77.1 cap80), (161, .bool (u106.Late != 2))] hF (by kernel_rfl) (by kernel_rfl) (ocons (obIdxQ (hA82.at (hS.frz (i := 8) rfl hlow)) (by kernel_rfl) (fun _ => hcs108)) (ocons (obElQ (i := 1) 1 (fN_len 2) (fun _ hd => (hA82.at hd.2)) (by kernel_rfl) (fun _ => hcs108) rfl) onil)) ⟨by kernel_rfl⟩ fun a hF => ?_
       rcases Bool.eq_false_or_eq_true ((u106.Late != 2)) with hg113 | hg113
       ·replace h := bif_t h hg113
        rw [hg113] at hF
        refine skipW [(1, pb b1), (2, pb b2), (10, .slice ad15 2 cap16), (11, .slice ad17 3 cap18), (17, sv ad79 y77.1 cap80), (161, .bool true), (162, undef)] hF (by kernel_rfl) (by kernel_rfl) ⟨by kernel_rfl⟩ ⟨by kernel_rfl⟩ fun a hF => ?_
        refine skipW [(1, pb b1), (2, pb b2), (10, .slice ad15 2 cap16), (11, .slice ad17 3 cap18), (17, sv ad79 y77.1 cap80), (161, .bool true), (163, undef)] hF (by kernel_rfl) (by kernel_rfl) ⟨by kernel_rfl⟩ ⟨by kernel_rfl⟩ fun a hF => ?_
        refine skipW [(1, pb b1), (2, pb b2), (10, .slice ad15 2 cap16), (11, .slice ad17 3 cap18), (17, sv ad79 y77.1 cap80), (161, .bool true), (164, undef)] hF (by kernel_rfl) (by kernel_rfl) ⟨by kernel_rfl⟩ ⟨by kernel_rfl⟩ fun a hF => ?_
        refine skipW [(1, pb b1), (2, pb b2), (10, .slice ad15 2 cap16), (11, .slice ad17 3 cap18), (17, sv ad79 y77.1 cap80), (161, .bool true), (165, undef)] hF (by kernel_rfl) (by kernel_rfl) ⟨by kernel_rfl⟩ ⟨by kernel_rfl⟩ fun a hF => ?_
        refine skipW [(1, pb b1), (2, pb b2), (10, .slice ad15 2 cap16), (11, .slice ad17 3 cap18), (17, sv ad79 y77.1 cap80), (161, .bool true), (166, undef)] hF (by kernel_rfl) (by kernel_rfl) ⟨by kernel_rfl⟩ ⟨by kernel_rfl⟩ fun a hF => ?_
        refine runC (rest := [47, 48, 49, 50]) (obs := []) [45, 46] [(1, pb b1), (2, pb b2), (10, .slice ad15 2 cap16), (11, .slice ad17 3 cap18), (17, sv ad79 y77.1 cap80), (168, .bool true)] hF (by kernel_rfl) (by kernel_rfl) onil ⟨by kernel_rfl⟩ fun a hF => ?_
        refine skipW [(1, pb b1), (2, pb b2), (10, .slice ad15 2 cap16), (11, .slice ad17 3 cap18), (17, sv ad79 y77.1 cap80), (168, .bool true), (169, undef)] hF (by kernel_rfl) (by kernel_rfl) ⟨by kernel_rfl⟩ ⟨by kernel_rfl⟩ fun a hF => ?_
        refine skipW [(1, pb b1), (2, pb b2), (10, .slice ad15 2 cap16), (11, .slice ad17 3 cap18), (17, sv ad79 y77.1 cap80), (168, .bool true), (170, undef)] hF (by kernel_rfl) (by kernel_rfl) ⟨by kernel_rfl⟩ ⟨by kernel_rfl⟩ fun a hF => ?_
        refine skipW [(1, pb b1), (2, pb b2), (10, .slice ad15 2 cap16), (11, .slice ad17 3 cap18), (17, sv ad79 y77.1 cap80), (168, .bool true), (171, undef)] hF (by kernel_rfl) (by kernel_rfl) ⟨by kernel_rfl⟩ ⟨by kernel_rfl⟩ fun a hF => ?_
        refine skipW [(1, pb b1), (2, pb b2), (10, .slice ad15 2 cap16), (11, .slice ad17 3 cap18), (17, sv ad79 y77.1 cap80), (168, .bool true), (172, undef)] hF (by kernel_rfl) (by kernel_rfl) ⟨by kernel_rfl⟩ ⟨by kernel_rfl⟩ fun a hF => ?_
        refine WRun.fin ?_
        refine all_cons ?_ all_nil
        refine skipSK [(1, pb b1), (2, pb b2), (10, .slice ad15 2 cap16), (11, .slice ad17 3 cap18), (17, sv ad79 y77.1 cap80), (168, .bool true), (172, undef), (173, undef)] hF (by kernel_rfl) ⟨by kernel_rfl⟩ ⟨by kernel_rfl⟩ fun a hF => ?_
        refine ⟨⟨St.pick [1, 2, 3, 4, 5, 6, 7] (by decide) hS, (hS.frz (i := 8) rfl hlow)⟩, ?_⟩
        refine WT.s [] [52] (by kernel_rfl) (by kernel_rfl) ?_
        refine WRun.fin ?_
        refine all_cons ?_ all_nil
        refine skipSK [(1, pb b1), (2, pb b2), (10, .slice ad15 2 cap16), (11, .slice ad17 3 cap18), (17, sv ad79 y77.1 cap80), (168, .bool true), (174, undef)] hF (by kernel_rfl) ⟨by kernel_rfl⟩ ⟨by kernel_rfl⟩ fun a hF => ?_
        refine ⟨⟨St.pick [1, 2, 3, 4, 5, 6, 7] (by decide) hS, (hS.frz (i := 8) rfl hlow)⟩, ?_⟩
        refine WT.s [53, 54, 55, 56, 57, 58] [59] (by kernel_rfl) (by kernel_rfl) ?_
        refine skipW [(1, pb b1), (2, pb b2), (10, .slice ad15 2 cap16), (11, .slice ad17 3 cap18), (17, sv ad79 y77.1 cap80), (168, .bool true), (175, undef)] hF (by kernel_rfl) (by kernel_rfl) ⟨by kernel_rfl⟩ ⟨by kernel_rfl⟩ fun a hF => ?_
        refine runC (rest := [56, 57, 58]) (obs := []) [54, 55] [(1, pb b1), (2, pb b2), (10, .slice ad15 2 cap16), (11, .slice ad17 3 cap18), (17, sv ad79 y77.1 cap80), (177, .bool true)] hF (by kernel_rfl) (by kernel_rfl) onil ⟨by kernel_rfl⟩ fun a hF => ?_
        refine skipW [(1, pb b1), (2, pb b2), (10, .slice ad15 2 cap16), (11, .slice ad17 3 cap18), (17, sv ad79 y77.1 cap80), (177, .bool true), (178, undef)] hF (by kernel_rfl) (by kernel_rfl) ⟨by kernel_rfl⟩ ⟨by kernel_rfl⟩ fun a hF => ?_
        refine skipW [(1, pb b1), (2, pb b2), (10, .slice ad15 2 cap16), (11, .slice ad17 3 cap18), (17, sv ad79 y77.1 cap80), (177, .bool true), (178, undef), (179, undef)] hF (by kernel_rfl) (by kernel_rfl) ⟨by kernel_rfl⟩ ⟨by kernel_rfl⟩ fun a hF => ?_
        refine skipW [(1, pb b1), (2, pb b2), (10, .slice ad15 2 cap16), (11, .slice ad17 3 cap18), (17, sv ad79 y77.1 cap80), (177, .bool true), (178, undef), (179, undef), (180, undef)] hF (by kernel_rfl) (by kernel_rfl) ⟨by kernel_rfl⟩ ⟨by kernel_rfl⟩ fun a hF => ?_
        refine WRun.fin ?_
        refine all_cons ?_ all_nil
        refine skipSK [(1, pb b1), (2, pb b2), (10, .slice ad15 2 cap16), (11, .slice ad17 3 cap18), (17, sv ad79 y77.1 cap80), (177, .bool true), (181, undef)] hF (by kernel_rfl) ⟨by kernel_rfl⟩ ⟨by kernel_rfl⟩ fun a hF => ?_
        refine ⟨⟨St.pick [1, 2, 3, 4, 5, 6, 7] (by decide) hS, (hS.frz (i := 8) rfl hlow)⟩, ?_⟩
        refine WT.s [60, 61, 62, 63, 64, 65, 66] [67] (by kernel_rfl) (by kernel_rfl) ?_
        refine skipW [(1, pb b1), (2, pb b2), (10, .slice ad15 2 cap16), (11, .slice ad17 3 cap18), (17, sv ad79 y77.1 cap80), (177, .bool true), (182, undef)] hF (by kernel_rfl) (by kernel_rfl) ⟨by kernel_rfl⟩ ⟨by kernel_rfl⟩ fun a hF => ?_
        refine runC (rest := [63, 64, 65, 66]) (obs := []) [61, 62] [(1, pb b1), (2, pb b2), (10, .slice ad15 2 cap16), (11, .slice ad17 3 cap18), (17, sv ad79 y77.1 cap80), (184, .bool true)] hF (by kernel_rfl) (by kernel_rfl) onil ⟨by kernel_rfl⟩ fun a hF => ?_
        refine skipW [(1, pb b1), (2, pb b2), (10, .slice ad15 2 cap16), (11, .slice ad17 3 cap18), (17, sv ad79 y77.1 cap80), (184, .bool true), (185, undef)] hF (by kernel_rfl) (by kernel_rfl) ⟨by kernel_rfl⟩ ⟨by kernel_rfl⟩ fun a hF => ?_
        refine skipW [(1, pb b1), (2, pb b2), (10, .slice ad15 2 cap16), (17, sv ad79 y77.1 cap80), (184, .bool true), (185, undef), (186, undef)] hF (by kernel_rfl) (by kernel_rfl) ⟨by kernel_rfl⟩ ⟨by kernel_rfl⟩ fun a hF => ?_
        refine skipW [(1, pb b1), (2, pb b2), (10, .slice ad15 2 cap16), (184, .bool true), (185, undef), (186, undef), (187, undef)] hF (by kernel_rfl) (by kernel_rfl) ⟨by kernel_rfl⟩ ⟨by kernel_rfl⟩ fun a hF => ?_
        refine skipW [(1, pb b1), (2, pb b2), (10, .slice ad15 2 cap16), (184, .bool true), (185, undef), (186, undef), (188, undef)] hF (by kernel_rfl) (by kernel_rfl) ⟨by kernel_rfl⟩ ⟨by kernel_rfl⟩ fun a hF => ?_
        refine WRun.fin ?_
        refine all_cons ?_ all_nil
        refine skipSK [(1, pb b1), (2, pb b2), (10, .slice ad15 2 cap16), (184, .bool true), (189, undef)] hF (by kernel_rfl) ⟨by kernel_rfl⟩ ⟨by kernel_rfl⟩ fun a hF => ?_
        refine ⟨⟨St.pick [1, 2, 3, 4, 5, 6, 7] (by decide) hS, (hS.frz (i := 8) rfl hlow)⟩, ?_⟩
        refine WT.z [68, 69] (by kernel_rfl) ?_
        refine skipW [(1, pb b1), (2, pb b2), (10, .slice ad15 2 cap16), (184, .bool true), (190, undef)] hF (by kernel_rfl) (by kernel_rfl) ⟨by kernel_rfl⟩ ⟨by kernel_rfl⟩ fun a hF => ?_
        refine runC (rest := []) (obs := []) [69] [(1, pb b1), (2, pb b2), (10, .slice ad15 2 cap16), (191, .bool true)] hF (by kernel_rfl) (by kernel_rfl) onil ⟨by kernel_rfl⟩ fun a hF => ?_
        refine WRun.fin ?_
        refine wfn rfl ?_
        refine wpIn_cond_true (hF.get rfl) ?_
        refine esr ?_
        refine rn 1 1 [(0, .bool false)] hF fun a hF => ?_
        refine wfn rfl ?_
        refine wpIn_ret (ret_then <| fn_ret [.tmp 0] [.bool false] hF rfl ⟨rfl, trivial⟩ ?_)
        have hr_ := Option.some.inj h
        subst hr_
        exact ⟨rfl, hS.ext⟩
       ·replace h := bif_f h hg113
        rw [hg113] at hF
        replace h := bindS h
        obtain ⟨u114, hu114, h⟩ := h
        obtain ⟨cs115, hcs116, hR117⟩ := getI_all2 hA82.2 hu114
        obtain ⟨ad118, cap119, rfl, hA120⟩ := hR117
        refine runC (rest := [47, 48, 49, 50]) (obs := [.run [⟨161, false, false⟩] (Instr.indexAt 60 (sv ad79 y77.1 cap80) (iv 2)) (.pointer (some (slAddr ad79 2 2))), .run [⟨161, false, false⟩] (Instr.loadAt 3 (.pointer (some ((slAddr ad79 2 2).add 1)))) (iv u114.Late)]) [40, 41, 42, 43, 44, 45, 46] [(1, pb b1), (2, pb b2), (10, .slice ad15 2 cap16), (11, .slice ad17 3 cap18), (17, sv ad79 y77.1 cap80), (168, .bool (u114.Late != 1))] hF (by kernel_rfl) (by kernel_rfl) (ocons (obIdxQ (hA82.at (hS.frz (i := 8) rfl hlow)) (by kernel_rfl) (fun _ => hcs116)) (ocons (obElQ (i := 2) 1 (fN_len 2) (fun _ hd => (hA82.at hd.2)) (by kernel_rfl) (fun _ => hcs116) rfl) onil)) ⟨by kernel_rfl⟩ fun a hF => ?_
        rcases Bool.eq_false_or_eq_true ((u114.Late != 1)) with hg121 | hg121
        ·replace h := bif_t h hg121
         rw [hg121] at hF
         refine skipW [(1, pb b1), (2, pb b2), (10, .slice ad15 2 cap16), (11, .slice ad17 3 cap18), (17, sv ad79 y77.1 cap80), (168, .bool true), (169, undef)] hF (by kernel_rfl) (by kernel_rfl) ⟨by kernel_rfl⟩ ⟨by kernel_rfl⟩ fun a hF => ?_
         refine skipW [(1, pb b1), (2, pb b2), (10, .slice ad15 2 cap16), (11, .slice ad17 3 cap18), (17, sv ad79 y77.1 cap80), (168, .bool true), (170, undef)] hF (by kernel_rfl) (by kernel_rfl) ⟨by kernel_rfl⟩ ⟨by kernel_rfl⟩ fun a hF => ?_
         refine skipW [(1, pb b1), (2, pb b2), (10, .slice ad15 2 cap16), (11, .slice ad17 3 cap18), (17, sv ad79 y77.1 cap80), (168, .bool true), (171, undef)] hF (by kernel_rfl) (by kernel_rfl) ⟨by kernel_rfl⟩ ⟨by kernel_rfl⟩ fun a hF => ?_
         refine skipW [(1, pb b1), (2, pb b2), (10, .slice ad15 2 cap16), (11, .slice ad17 3 cap18), (17, sv ad79 y77.1 cap80), (168, .bool true), (172, undef)] hF (by kernel_rfl) (by kernel_rfl) ⟨by kernel_rfl⟩ ⟨by kernel_rfl⟩ fun a hF => ?_
         refine WRun.fin ?_
         refine all_cons ?_ all_nil
         refine skipSK [(1, pb b1), (2, pb b2), (10, .slice ad15 2 cap16), (11, .slice ad17 3 cap18), (17, sv ad79 y77.1 cap80), (168, .bool true), (172, undef), (173, undef)] hF (by kernel_rfl) ⟨by kernel_rfl⟩ ⟨by kernel_rfl⟩ fun a hF => ?_
         refine ⟨⟨St.pick [1, 2, 3, 4, 5, 6, 7] (by decide) hS, (hS.frz (i := 8) rfl hlow)⟩, ?_⟩
         refine WT.s [] [52] (by kernel_rfl) (by kernel_rfl) ?_
         refine WRun.fin ?_
         refine all_cons ?_ all_nil
         refine skipSK [(1, pb b1), (2, pb b2), (10, .slice ad15 2 cap16), (11, .slice ad17 3 cap18), (17, sv ad79 y77.1 cap80), (168, .bool true), (174, undef)] hF (by kernel_rfl) ⟨by kernel_rfl⟩ ⟨by kernel_rfl⟩ fun a hF => ?_
         refine ⟨⟨St.pick [1, 2, 3, 4, 5, 6, 7] (by decide) hS, (hS.frz (i := 8) rfl hlow)⟩, ?_⟩
         refine WT.s [53, 54, 55, 56, 57, 58] [59] (by kernel_rfl) (by kernel_rfl) ?_
         refine skipW [(1, pb b1), (2, pb b2), (10, .slice ad15 2 cap16), (11, .slice ad17 3 cap18), (17, sv ad79 y77.1 cap80), (168, .bool true), (175, undef)] hF (by kernel_rfl) (by kernel_rfl) ⟨by kernel_rfl⟩ ⟨by kernel_rfl⟩ fun a hF => ?_
         refine runC (rest := [56, 57, 58]) (obs := []) [54, 55] [(1, pb b1), (2, pb b2), (10, .slice ad15 2 cap16), (11, .slice ad17 3 cap18), (17, sv ad79 y77.1 cap80), (177, .bool true)] hF (by kernel_rfl) (by kernel_rfl) onil ⟨by kernel_rfl⟩ fun a hF => ?_
         refine skipW [(1, pb b1), (2, pb b2), (10, .slice ad15 2 cap16), (11, .slice ad17 3 cap18), (17, sv ad79 y77.1 cap80), (177, .bool true), (178, undef)] hF (by kernel_rfl) (by kernel_rfl) ⟨by kernel_rfl⟩ ⟨by kernel_rfl⟩ fun a hF => ?_
         refine skipW [(1, pb b1), (2, pb b2), (10, .slice ad15 2 cap16), (11, .slice ad17 3 cap18), (17, sv ad79 y77.1 cap80), (177, .bool true), (178, undef), (179, undef)] hF (by kernel_rfl) (by kernel_rfl) ⟨by kernel_rfl⟩ ⟨by kernel_rfl⟩ fun a hF => ?_
         refine skipW [(1, pb b1), (2, pb b2), (10, .slice ad15 2 cap16), (11, .slice ad17 3 cap18), (17, sv ad79 y77.1 cap80), (177, .bool true), (178, undef), (179, undef), (180, undef)] hF (by kernel_rfl) (by kernel_rfl) ⟨by kernel_rfl⟩ ⟨by kernel_rfl⟩ fun a hF => ?_
         refine WRun.fin ?_
         refine all_cons ?_ all_nil
         refine skipSK [(1, pb b1), (2, pb b2), (10, .slice ad15 2 cap16), (11, .slice ad17 3 cap18), (17, sv ad79 y77.1 cap80), (177, .bool true), (181, undef)] hF (by kernel_rfl) ⟨by kernel_rfl⟩ ⟨by kernel_rfl⟩ fun a hF => ?_
         refine ⟨⟨St.pick [1, 2, 3, 4, 5, 6, 7] (by decide) hS, (hS.frz (i := 8) rfl hlow)⟩, ?_⟩
         refine WT.s [60, 61, 62, 63, 64, 65, 66] [67] (by kernel_rfl) (by kernel_rfl) ?_
         refine skipW [(1, pb b1), (2, pb b2), (10, .slice ad15 2 cap16), (11, .slice ad17 3 cap18), (17, sv ad79 y77.1 cap80), (177, .bool true), (182, undef)] hF (by kernel_rfl) (by kernel_rfl) ⟨by kernel_rfl⟩ ⟨by kernel_rfl⟩ fun a hF => ?_
         refine runC (rest := [63, 64, 65, 66]) (obs := []) [61, 62] [(1, pb b1), (2, pb b2), (10, .slice ad15 2 cap16), (11, .slice ad17 3 cap18), (17, sv ad79 y77.1 cap80), (184, .bool true)] hF (by kernel_rfl) (by kernel_rfl) onil ⟨by kernel_rfl⟩ fun a hF => ?_
         refine skipW [(1, pb b1), (2, pb b2), (10, .slice ad15 2 cap16), (11, .slice ad17 3 cap18), (17, sv ad79 y77.1 cap80), (184, .bool true), (185, undef)] hF (by kernel_rfl) (by kernel_rfl) ⟨by kernel_rfl⟩ ⟨by kernel_rfl⟩ fun a hF => ?_
         refine skipW [(1, pb b1), (2, pb b2), (10, .slice ad15 2 cap16), (17, sv ad79 y77.1 cap80), (184, .bool true), (185, undef), (186, undef)] hF (by kernel_rfl) (by kernel_rfl) ⟨by kernel_rfl⟩ ⟨by kernel_rfl⟩ fun a hF => ?_
         refine skipW [(1, pb b1), (2, pb b2), (10, .slice ad15 2 cap16), (184, .bool true), (185, undef), (186, undef), (187, undef)] hF (by kernel_rfl) (by kernel_rfl) ⟨by kernel_rfl⟩ ⟨by kernel_rfl⟩ fun a hF => ?_
         refine skipW [(1, pb b1), (2, pb b2), (10, .slice ad15 2 cap16), (184, .bool true), (185, undef), (186, undef), (188, undef)] hF (by kernel_rfl) (by kernel_rfl) ⟨by kernel_rfl⟩ ⟨by kernel_rfl⟩ fun a hF => ?_
         refine WRun.fin ?_
         refine all_cons ?_ all_nil
         refine skipSK [(1, pb b1), (2, pb b2), (10, .slice ad15 2 cap16), (184, .bool true), (189, undef)] hF (by kernel_rfl) ⟨by kernel_rfl⟩ ⟨by kernel_rfl⟩ fun a hF => ?_
         refine ⟨⟨St.pick [1, 2, 3, 4, 5, 6, 7] (by decide) hS, (hS.frz (i := 8) rfl hlow)⟩, ?_⟩
         refine WT.z [68, 69] (by kernel_rfl) ?_
         refine skipW [(1, pb b1), (2, pb b2), (10, .slice ad15 2 cap16), (184, .bool true), (190, undef)] hF (by kernel_rfl) (by kernel_rfl) ⟨by kernel_rfl⟩ ⟨by kernel_rfl⟩ fun a hF => ?_
         refine runC (rest := []) (obs := []) [69] [(1, pb b1), (2, pb b2), (10, .slice ad15 2 cap16), (191, .bool true)] hF (by kernel_rfl) (by kernel_rfl) onil ⟨by kernel_rfl⟩ fun a hF => ?_
         refine WRun.fin ?_
         refine wfn rfl ?_
         refine wpIn_cond_true (hF.get rfl) ?_
         refine esr ?_
         refine rn 1 1 [(0, .bool false)] hF fun a hF => ?_
         refine wfn rfl ?_
         refine wpIn_ret (ret_then <| fn_ret [.tmp 0] [.bool false] hF rfl ⟨rfl, trivial⟩ ?_)
         have hr_ := Option.some.inj h
         subst hr_
         exact ⟨rfl, hS.ext⟩
        ·replace h := bif_f h hg121
         rw [hg121] at hF
         replace h := bindS h
         obtain ⟨u122, hu122, h⟩ := h
         obtain ⟨cs123, hcs124, hR125⟩ := getI_all2 hA82.2 hu122
         obtain ⟨ad126, cap127, rfl, hA128⟩ := hR125
         refine runCC (rest := []) (obs := [.run [⟨168, false, false⟩] (Instr.indexAt 60 (sv ad79 y77.1 cap80) (iv 2)) (.pointer (some (slAddr ad79 2 2))), .run [⟨168, false, false⟩] (Instr.loadAt 40 (.pointer (some (slAddr ad79 2 2)))) (sv ad126 u122.Begin cap127)]) [47, 48, 49, 50] [(1, ⟨[], pb b1⟩), (2, ⟨[], pb b2⟩), (10, ⟨[], .slice ad15 2 cap16⟩), (11, ⟨[], .slice ad17 3 cap18⟩), (17, ⟨[], sv ad79 y77.1 cap80⟩), (168, ⟨[], .bool false⟩), (172, ⟨[⟨168, false, false⟩], sv ad126 u122.Begin cap127⟩)] hF (by kernel_rfl) (by kernel_rfl) (ocons (obIdxQ (hA82.at (hS.frz (i := 8) rfl hlow)) (by kernel_rfl) (fun _ => hcs124)) (ocons (obElQ (i := 2) 0 (fN_len 2) (fun _ hd => (hA82.at hd.2)) (by kernel_rfl) (fun _ => hcs124) rfl) onil)) ⟨by kernel_rfl⟩ (by kernel_rfl) fun a hF => ?_
         replace hF : Fr 260 [] [(1, pb b1), (2, pb b2), (10, .slice ad15 2 cap16), (11, .slice ad17 3 cap18), (17, sv ad79 y77.1 cap80), (168, .bool false), (172, sv ad126 u122.Begin cap127)] a := hF
         refine WRun.fin ?_
         refine all_cons ?_ all_nil
         refine litK (e := 3) (sz := 1) (f := fI) (t := 40) (len := 1) (fun b129 => [(1, pb b1), (2, pb b2), (10, .slice ad15 2 cap16), (11, .slice ad17 3 cap18), (17, sv ad79 y77.1 cap80), (168, .bool false), (172, sv ad126 u122.Begin cap127), (173, sb b129 1)]) #[(0, iv 2)] #[iv 2] ([2]) hF hS (by kernel_rfl) ⟨by kernel_rfl⟩ (by kernel_rfl) fI_len rfl rfl (by kernel_rfl) (fun _ => ⟨by kernel_rfl⟩) fun b129 w a hF hS => ⟨⟨St.pick [2, 3, 4, 5, 6, 7, 8] (by decide) hS, (hS.frz (i := 9) rfl hlow)⟩, ?_⟩
         refine WT.s [] [52] (by kernel_rfl) (by kernel_rfl) ?_
         refine WRun.fin ?_
         refine all_cons ?_ all_nil
         replace h := bindS h
         obtain ⟨y131, hy131, h⟩ := h
         refine callK (f := 21) (args := #[sv ad126 u122.Begin cap127, sb b129 1]) (R := fun v w2 => v = .bool y131 ∧ Ext w w2) (fun v130 => [(1, pb b1), (2, pb b2), (10, .slice ad15 2 cap16), (11, .slice ad17 3 cap18), (17, sv ad79 y77.1 cap80), (168, .bool false), (174, v130)]) hF (by kernel_rfl) ⟨by kernel_rfl⟩ (Calls.mono (law06_numbers_ok F u122.Begin ([2]) _ hy131 (memOf w) w (memOf_at w) (hA128.mono (FrzAt.le_mem (hS.frz (i := 9) rfl hlow))) (Arr.toM (hS.arr (i := 0) rfl))) (fun e w2 h => ⟨_, h.1, rfl, h.2⟩)) (fun _ => ⟨by kernel_rfl⟩) ?_
         rintro v130 w a ⟨rfl, hx⟩ hF
         replace hS := hS.later hx
         refine ⟨⟨St.pick [2, 3, 4, 5, 6, 7, 8] (by decide) hS, (hS.frz (i := 9) rfl hlow)⟩, ?_⟩
         refine WT.s [53, 54, 55, 56, 57, 58] [59] (by kernel_rfl) (by kernel_rfl) ?_
         refine runC (rest := [56, 57, 58]) (obs := []) [53, 54, 55] [(1, pb b1), (2, pb b2), (10, .slice ad15 2 cap16), (11, .slice ad17 3 cap18), (17, sv ad79 y77.1 cap80), (177, .bool (!y131))] hF (by kernel_rfl) (by kernel_rfl) onil ⟨by kernel_rfl⟩ fun a hF => ?_
         rcases Bool.eq_false_or_eq_true ((!y131)) with hg132 | hg132
         ·replace h := bif_t h hg132
          rw [hg132] at hF
          refine skipW [(1, pb b1), (2, pb b2), (10, .slice ad15 2 cap16), (11, .slice ad17 3 cap18), (17, sv ad79 y77.1 cap80), (177, .bool true), (178, undef)] hF (by kernel_rfl) (by kernel_rfl) ⟨by kernel_rfl⟩ ⟨by kernel_rfl⟩ fun a hF => ?_
          refine skipW [(1, pb b1), (2, pb b2), (10, .slice ad15 2 cap16), (11, .slice ad17 3 cap18), (17, sv ad79 y77.1 cap80), (177, .bool true), (178, undef), (179, undef)] hF (by kernel_rfl) (by kernel_rfl) ⟨by kernel_rfl⟩ ⟨by kernel_rfl⟩ fun a hF => ?_
          refine skipW [(1, pb b1), (2, pb b2), (10, .slice ad15 2 cap16), (11, .slice ad17 3 cap18), (17, sv ad79 y77.1 cap80), (177, .bool true), (178, undef), (179, undef), (180, undef)] hF (by kernel_rfl) (by kernel_rfl) ⟨by kernel_rfl⟩ ⟨by kernel_rfl⟩ fun a hF => ?_
          refine WRun.fin ?_
          refine all_cons ?_ all_nil
          refine skipSK [(1, pb b1), (2, pb b2), (10, .slice ad15 2 cap16), (11, .slice ad17 3 cap18), (17, sv ad79 y77.1 cap80), (177, .bool true), (181, undef)] hF (by kernel_rfl) ⟨by kernel_rfl⟩ ⟨by kernel_rfl⟩ fun a hF => ?_
          refine ⟨⟨St.pick [2, 3, 4, 5, 6, 7, 8] (by decide) hS, (hS.frz (i := 9) rfl hlow)⟩, ?_⟩
          refine WT.s [60, 61, 62, 63, 64, 65, 66] [67] (by kernel_rfl) (by kernel_rfl) ?_
          refine skipW [(1, pb b1), (2, pb b2), (10, .slice ad15 2 cap16), (11, .slice ad17 3 cap18), (17, sv ad79 y77.1 cap80), (177, .bool true), (182, undef)] hF (by kernel_rfl) (by kernel_rfl) ⟨by kernel_rfl⟩ ⟨by kernel_rfl⟩ fun a hF => ?_
          refine runC (rest := [63, 64, 65, 66]) (obs := []) [61, 62] [(1, pb b1), (2, pb b2), (10, .slice ad15 2 cap16), (11, .slice ad17 3 cap18), (17, sv ad79 y77.1 cap80), (184, .bool true)] hF (by kernel_rfl) (by kernel_rfl) onil ⟨by kernel_rfl⟩ fun a hF => ?_
          refine skipW [(1, pb b1), (2, pb b2), (10, .slice ad15 2 cap16), (11, .slice ad17 3 cap18), (17, sv ad79 y77.1 cap80), (184, .bool true), (185, undef)] hF (by kernel_rfl) (by kernel_rfl) ⟨by kernel_rfl⟩ ⟨by kernel_rfl⟩ fun a hF => ?_
          refine skipW [(1, pb b1), (2, pb b2), (10, .slice ad15 2 cap16), (17, sv ad79 y77.1 cap80), (184, .bool true), (185, undef), (186, undef)] hF (by kernel_rfl) (by kernel_rfl) ⟨by kernel_rfl⟩ ⟨by kernel_rfl⟩ fun a hF => ?_
          refine skipW [(1, pb b1), (2, pb b2), (10, .slice ad15 2 cap16), (184, .bool true), (185, undef), (186, undef), (187, undef)] hF (by kernel_rfl) (by kernel_rfl) ⟨by kernel_rfl⟩ ⟨by kernel_rfl⟩ fun a hF => ?_
          refine skipW [(1, pb b1), (2, pb b2), (10, .slice ad15 2 cap16), (184, .bool true), (185, undef), (186, undef), (188, undef)] hF (by kernel_rfl) (by kernel_rfl) ⟨by kernel_rfl⟩ ⟨by kernel_rfl⟩ fun a hF => ?_
          refine WRun.fin ?_
          refine all_cons ?_ all_nil
          refine skipSK [(1, pb b1), (2, pb b2), (10, .slice ad15 2 cap16), (184, .bool true), (189, undef)] hF (by kernel_rfl) ⟨by kernel_rfl⟩ ⟨by kernel_rfl⟩ fun a hF => ?_
          refine ⟨⟨St.pick [2, 3, 4, 5, 6, 7, 8] (by decide) hS, (hS.frz (i := 9) rfl hlow)⟩, ?_⟩
          refine WT.z [68, 69] (by kernel_rfl) ?_
          refine skipW [(1, pb b1), (2, pb b2), (10, .slice ad15 2 cap16), (184, .bool true), (190, undef)] hF (by kernel_rfl) (by kernel_rfl) ⟨by kernel_rfl⟩ ⟨by kernel_rfl⟩ fun a hF => ?_
          refine runC (rest := []) (obs := []) [69] [(1, pb b1), (2, pb b2), (10, .slice ad15 2 cap16), (191, .bool true)] hF (by kernel_rfl) (by kernel_rfl) onil ⟨by kernel_rfl⟩ fun a hF => ?_
          refine WRun.fin ?_
          refine wfn rfl ?_
          refine wpIn_cond_true (hF.get rfl) ?_
          refine esr ?_
          refine rn 1 1 [(0, .bool false)] hF fun a hF => ?_
          refine wfn rfl ?_
          refine wpIn_ret (ret_then <| fn_ret [.tmp 0] [.bool false] hF rfl ⟨rfl, trivial⟩ ?_)
          have hr_ := Option.some.inj h
          subst hr_
          exact ⟨rfl, hS.ext⟩
         ·replace h := bif_f h hg132
          rw [hg132] at hF
          refine runCC (rest := []) (obs := [.run [⟨177, false, false⟩] (Instr.loadAt 31 (pb b1)) (.agg #[iv 4, iv 0, iv 1, iv 1000])]) [56, 57, 58] [(1, ⟨[], pb b1⟩), (2, ⟨[], pb b2⟩), (10, ⟨[], .slice ad15 2 cap16⟩), (11, ⟨[], .slice ad17 3 cap18⟩), (17, ⟨[], sv ad79 y77.1 cap80⟩), (177, ⟨[], .bool false⟩), (178, ⟨[⟨177, false, false⟩], .agg #[iv 4, iv 0, iv 1, iv 1000]⟩), (179, ⟨[⟨177, false, false⟩], .slice ad17 3 cap18⟩), (180, ⟨[⟨177, false, false⟩], sv ad79 y77.1 cap80⟩)] hF (by kernel_rfl) (by kernel_rfl) (ocons (obN (us := [iv 4, iv 0, iv 1, iv 1000]) (by kernel_rfl) (fun _ hd => (hd.1.blk (i := 6) rfl).cells rfl)) onil) ⟨by kernel_rfl⟩ (by kernel_rfl) fun a hF => ?_
          replace hF : Fr 260 [] [(1, pb b1), (2, pb b2), (10, .slice ad15 2 cap16), (11, .slice ad17 3 cap18), (17, sv ad79 y77.1 cap80), (177, .bool false), (178, .agg #[iv 4, iv 0, iv 1, iv 1000]), (179, .slice ad17 3 cap18), (180, sv ad79 y77.1 cap80)] a := hF
          refine WRun.fin ?_
          refine all_cons ?_ all_nil
          replace h := bindS h
          obtain ⟨y134, hy134, h⟩ := h
          refine callK (f := 31) (args := #[.agg #[iv 4, iv 0, iv 1, iv 1000], .slice ad17 3 cap18, sv ad79 y77.1 cap80]) (R := fun v w2 => v = iv y134 ∧ Ext w w2) (fun v133 => [(1, pb b1), (2, pb b2), (10, .slice ad15 2 cap16), (11, .slice ad17 3 cap18), (17, sv ad79 y77.1 cap80), (177, .bool false), (181, v133)]) hF (by kernel_rfl) ⟨by kernel_rfl⟩ (Calls.mono (plan_Verify_ok F (plan_Radar.mk 4 0 1 1000) ([(law06_example 0 60), (law06_example 2 50), (law06_example 10 40)]) y77.1 _ hy134 (memOf w) w (memOf_at w) (hA68.mono (FrzAt.le_mem (hS.frz (i := 9) rfl hlow))) (hA82.mono Rp65.mono (FrzAt.le_mem (hS.frz (i := 9) rfl hlow)))) (fun e w2 h => ⟨_, h.1, rfl, h.2⟩)) (fun _ => ⟨by kernel_rfl⟩) ?_
          rintro v133 w a ⟨rfl, hx⟩ hF
          replace hS := hS.later hx
          refine ⟨⟨St.pick [2, 3, 4, 5, 6, 7, 8] (by decide) hS, (hS.frz (i := 9) rfl hlow)⟩, ?_⟩
          refine WT.s [60, 61, 62, 63, 64, 65, 66] [67] (by kernel_rfl) (by kernel_rfl) ?_
          refine runC (rest := [63, 64, 65, 66]) (obs := []) [60, 61, 62] [(1, pb b1), (2, pb b2), (10, .slice ad15 2 cap16), (11, .slice ad17 3 cap18), (17, sv ad79 y77.1 cap80), (184, .bool (y134 != 0))] hF (by kernel_rfl) (by kernel_rfl) onil ⟨by kernel_rfl⟩ fun a hF => ?_
          rcases Bool.eq_false_or_eq_true ((y134 != 0)) with hg135 | hg135
          ·replace h := bif_t h hg135
           rw [hg135] at hF
           refine skipW [(1, pb b1), (2, pb b2), (10, .slice ad15 2 cap16), (11, .slice ad17 3 cap18), (17, sv ad79 y77.1 cap80), (184, .bool true), (185, undef)] hF (by kernel_rfl) (by kernel_rfl) ⟨by kernel_rfl⟩ ⟨by kernel_rfl⟩ fun a hF => ?_
           refine skipW [(1, pb b1), (2, pb b2), (10, .slice ad15 2 cap16), (17, sv ad79 y77.1 cap80), (184, .bool true), (185, undef), (186, undef)] hF (by kernel_rfl) (by kernel_rfl) ⟨by kernel_rfl⟩ ⟨by kernel_rfl⟩ fun a hF => ?_
           refine skipW [(1, pb b1), (2, pb b2), (10, .slice ad15 2 cap16), (184, .bool true), (185, undef), (186, undef), (187, undef)] hF (by kernel_rfl) (by kernel_rfl) ⟨by kernel_rfl⟩ ⟨by kernel_rfl⟩ fun a hF => ?_
           refine skipW [(1, pb b1), (2, pb b2), (10, .slice ad15 2 cap16), (184, .bool true), (185, undef), (186, undef), (188, undef)] hF (by kernel_rfl) (by kernel_rfl) ⟨by kernel_rfl⟩ ⟨by kernel_rfl⟩ fun a hF => ?_
           refine WRun.fin ?_
           refine all_cons ?_ all_nil
           refine skipSK [(1, pb b1), (2, pb b2), (10, .slice ad15 2 cap16), (184, .bool true), (189, undef)] hF (by kernel_rfl) ⟨by kernel_rfl⟩ ⟨by kernel_rfl⟩ fun a hF => ?_
           refine ⟨⟨St.pick [2, 3, 4, 5, 6, 7, 8] (by decide) hS, (hS.frz (i := 9) rfl hlow)⟩, ?_⟩
           refine WT.z [68, 69] (by kernel_rfl) ?_
           refine skipW [(1, pb b1), (2, pb b2), (10, .slice ad15 2 cap16), (184, .bool true), (190, undef)] hF (by kernel_rfl) (by kernel_rfl) ⟨by kernel_rfl⟩ ⟨by kernel_rfl⟩ fun a hF => ?_
           refine runC (rest := []) (obs := []) [69] [(1, pb b1), (2, pb b2), (10, .slice ad15 2 cap16), (191, .bool true)] hF (by kernel_rfl) (by kernel_rfl) onil ⟨by kernel_rfl⟩ fun a hF => ?_
           refine WRun.fin ?_
           refine wfn rfl ?_
           refine wpIn_cond_true (hF.get rfl) ?_
           refine esr ?_
           refine rn 1 1 [(0, .bool false)] hF fun a hF => ?_
           refine wfn rfl ?_
           refine wpIn_ret (ret_then <| fn_ret [.tmp 0] [.bool false] hF rfl ⟨rfl, trivial⟩ ?_)
           have hr_ := Option.some.inj h
           subst hr_
           exact ⟨rfl, hS.ext⟩
          ·replace h := bif_f h hg135
           rw [hg135] at hF
           replace h := bindS h
           obtain ⟨l136, hl136, h⟩ := h
           obtain ⟨css137, hcs138, hq139⟩ := cut_all2 hA82.2 hl136
           have hA140 : ArrQ ν86 2 Rp65 (slOff ad79 cap80 (1 : Int).toNat 2) (cap80 - (1 : Int).toNat) css137 l136 := ⟨fun w_ hw_ => (hA82.1 w_ hw_).cutD (fN_len 2) hcs138, hq139⟩
           refine runCC (rest := []) (obs := [.run [⟨184, false, false⟩] (Instr.loadAt 31 (pb b1)) (.agg #[iv 4, iv 0, iv 1, iv 1000]), .run [⟨184, false, false⟩] (Instr.sliceAt 60 (sv ad79 y77.1 cap80) (some (iv 1)) none none) (.slice (slOff ad79 cap80 (1 : Int).toNat 2) l136.length (cap80 - (1 : Int).toNat))]) [63, 64, 65, 66] [(1, ⟨[], pb b1⟩), (2, ⟨[], pb b2⟩), (10, ⟨[], .slice ad15 2 cap16⟩), (184, ⟨[], .bool false⟩), (185, ⟨[⟨184, false, false⟩], .agg #[iv 4, iv 0, iv 1, iv 1000]⟩), (186, ⟨[⟨184, false, false⟩], .slice ad17 3 cap18⟩), (188, ⟨[⟨184, false, false⟩], .slice (slOff ad79 cap80 (1 : Int).toNat 2) l136.length (cap80 - (1 : Int).toNat)⟩)] hF (by kernel_rfl) (by kernel_rfl) (ocons (obN (us := [iv 4, iv 0, iv 1, iv 1000]) (by kernel_rfl) (fun _ hd => (hd.1.blk (i := 6) rfl).cells rfl)) (ocons (obCutL (by kernel_rfl) (hA82.at (hS.frz (i := 9) rfl hlow)) (fun _ => hl136)) onil)) ⟨by kernel_rfl⟩ (by kernel_rfl) fun a hF => ?_
           replace hF : Fr 260 [] [(1, pb b1), (2, pb b2), (10, .slice ad15 2 cap16), (184, .bool false), (185, .agg #[iv 4, iv 0, iv 1, iv 1000]), (186, .slice ad17 3 cap18), (188, .slice (slOff ad79 cap80 (1 : Int).toNat 2) l136.length (cap80 - (1 : Int).toNat))] a := hF
           refine WRun.fin ?_
           refine all_cons ?_ all_nil
           replace h := bindS h
           obtain ⟨y142, hy142, h⟩ := h
           refine callK (f := 31) (args := #[.agg #[iv 4, iv 0, iv 1, iv 1000], .slice ad17 3 cap18, .slice (slOff ad79 cap80 (1 : Int).toNat 2) l136.length (cap80 - (1 : Int).toNat)]) (R := fun v w2 => v = iv y142 ∧ Ext w w2) (fun v141 => [(1, pb b1), (2, pb b2), (10, .slice ad15 2 cap16), (184, .bool false), (189, v141)]) hF (by kernel_rfl) ⟨by kernel_rfl⟩ (Calls.mono (plan_Verify_ok F (plan_Radar.mk 4 0 1 1000) ([(law06_example 0 60), (law06_example 2 50), (law06_example 10 40)]) l136 _ hy142 (memOf w) w (memOf_at w) (hA68.mono (FrzAt.le_mem (hS.frz (i := 9) rfl hlow))) (hA140.mono Rp65.mono (FrzAt.le_mem (hS.frz (i := 9) rfl hlow)))) (fun e w2 h => ⟨_, h.1, rfl, h.2⟩)) (fun _ => ⟨by kernel_rfl⟩) ?_
           rintro v141 w a ⟨rfl, hx⟩ hF
           replace hS := hS.later hx
           refine ⟨⟨St.pick [2, 3, 4, 5, 6, 7, 8] (by decide) hS, (hS.frz (i := 9) rfl hlow)⟩, ?_⟩
           refine WT.z [68, 69] (by kernel_rfl) ?_
           refine runC (rest := []) (obs := []) [68, 69] [(1, pb b1), (2, pb b2), (10, .slice ad15 2 cap16), (191, .bool (y142 != 20))] hF (by kernel_rfl) (by kernel_rfl) onil ⟨by kernel_rfl⟩ fun a hF => ?_
           refine WRun.fin ?_
           refine wfn rfl ?_
           refine econd hF rfl (fun hc => ?_) (fun hc => ?_)
           ·replace h := bif_t h hc
            refine esr ?_
            refine rn 1 1 [(0, .bool false)] hF fun a hF => ?_
            refine wfn rfl ?_
            refine wpIn_ret (ret_then <| fn_ret [.tmp 0] [.bool false] hF rfl ⟨rfl, trivial⟩ ?_)
            have hr_ := Option.some.inj h
            subst hr_
            exact ⟨rfl, hS.ext⟩
           ·replace h := bif_f h hc
            refine wpIn_skip (norm_then ?_)
            refine esr ?_
            refine rno 1 [.run [] (Instr.loadAt 34 (pb b2)) ((law06_example 0 60).ag)] 1 [(1, pb b1), (10, .slice ad15 2 cap16), (192, (law06_example 0 60).ag)] hF (ocons (obN (us := (law06_example 0 60).cells) (by kernel_rfl) (fun _ hd => ((hS.at_ hd).blk (i := 7) rfl).cells rfl)) onil) fun a hF => ?_
            refine SK.wi (allocK (t := 34) (fun b143 => [(1, pb b1), (10, .slice ad15 2 cap16), (18, pb b143), (192, (law06_example 0 60).ag)]) #[iv 0, iv 0, iv 0, iv 0, iv 0, iv 0, iv 0, iv 0] hF hS (by kernel_rfl) ⟨by kernel_rfl⟩ (by kernel_rfl) (fun _ => ⟨by kernel_rfl⟩) fun b143 w a hF hS => ?_)
            refine SK.wi (storeK (t := 34) [(1, pb b1), (10, .slice ad15 2 cap16), (18, pb b143)] 0 0 ((law06_example 0 60).ag) (law06_example 0 60).ar hF hS rfl (by kernel_rfl) ⟨by kernel_rfl⟩ (by kernel_rfl) (by kernel_rfl) (by kernel_rfl) (by kernel_rfl) ⟨by kernel_rfl⟩ fun w a hF hS => ?_)
            refine wfn rfl ?_
            refine esr ?_
            refine rn 1 1 [(1, pb b1), (10, .slice ad15 2 cap16), (18, pb b143), (193, pb b143)] hF fun a hF => ?_
            refine SK.wi (storeK (t := 3) [(1, pb b1), (10, .slice ad15 2 cap16), (18, pb b143)] 0 0 (iv 1) #[iv 1, iv (((law06_example 0 60).Train).Lambda), iv (((law06_example 0 60).Train).Kind), iv (((law06_example 0 60).Train).First), iv (((law06_example 0 60).Train).Second), iv (((law06_example 0 60).Train).Count), iv ((law06_example 0 60).Width), iv ((law06_example 0 60).Every)] hF hS rfl (by kernel_rfl) ⟨by kernel_rfl⟩ (by kernel_rfl) (by kernel_rfl) (by kernel_rfl) (by kernel_rfl) ⟨by kernel_rfl⟩ fun w a hF hS => ?_)
            refine rn 2 4 [(1, pb b1), (10, .slice ad15 2 cap16), (18, pb b143), (195, .pointer (some ⟨b143, 3, none⟩))] hF fun a hF => ?_
            refine SK.wi (storeK (t := 3) [(1, pb b1), (10, .slice ad15 2 cap16), (18, pb b143)] 0 3 (iv 500) #[iv 1, iv (((law06_example 0 60).Train).Lambda), iv (((law06_example 0 60).Train).Kind), iv 500, iv (((law06_example 0 60).Train).Second), iv (((law06_example 0 60).Train).Count), iv ((law06_example 0 60).Width), iv ((law06_example 0 60).Every)] hF hS rfl (by kernel_rfl) ⟨by kernel_rfl⟩ (by kernel_rfl) (by kernel_rfl) (by kernel_rfl) (by kernel_rfl) ⟨by kernel_rfl⟩ fun w a hF hS => ?_)
            refine rn 2 7 [(1, pb b1), (10, .slice ad15 2 cap16), (18, pb b143), (197, .pointer (some ⟨b143, 5, none⟩))] hF fun a hF => ?_
            refine SK.wi (storeK (t := 3) [(1, pb b1), (10, .slice ad15 2 cap16), (18, pb b143)] 0 5 (iv 2) #[iv 1, iv (((law06_example 0 60).Train).Lambda), iv (((law06_example 0 60).Train).Kind), iv 500, iv (((law06_example 0 60).Train).Second), iv 2, iv ((law06_example 0 60).Width), iv ((law06_example 0 60).Every)] hF hS rfl (by kernel_rfl) ⟨by kernel_rfl⟩ (by kernel_rfl) (by kernel_rfl) (by kernel_rfl) (by kernel_rfl) ⟨by kernel_rfl⟩ fun w a hF hS => ?_)
            refine wfn rfl ?_
            refine esr ?_
            refine rno 2 [.run [] (Instr.loadAt 31 (pb b1)) (.agg #[iv 4, iv 0, iv 1, iv 1000])] 2 [(1, pb b1), (10, .slice ad15 2 cap16), (18, pb b143), (199, .agg #[iv 4, iv 0, iv 1, iv 1000]), (200, .slice ad15 2 cap16)] hF (ocons (obN (us := [iv 4, iv 0, iv 1, iv 1000]) (by kernel_rfl) (fun _ hd => ((hS.at_ hd).blk (i := 9) rfl).cells rfl)) onil) fun a hF => ?_
            refine SK.wi (litK (e := 3) (sz := 1) (f := fI) (t := 40) (len := 2) (fun b144 => [(1, pb b1), (10, .slice ad15 2 cap16), (18, pb b143), (199, .agg #[iv 4, iv 0, iv 1, iv 1000]), (200, .slice ad15 2 cap16), (201, sb b144 2)]) #[(0, iv 0), (1, iv 1)] #[iv 0, iv 1] ([0, 1]) hF hS (by kernel_rfl) ⟨by kernel_rfl⟩ (by kernel_rfl) fI_len rfl rfl (by kernel_rfl) (fun _ => ⟨by kernel_rfl⟩) fun b144 w a hF hS => ?_)
            replace h := bindS h
            obtain ⟨y145, hy145, h⟩ := h
            refine rx 7 [.run [] (Instr.loadAt 34 (pb b143)) (.agg #[iv 1, iv (((law06_example 0 60).Train).Lambda), iv (((law06_example 0 60).Train).Kind), iv 500, iv (((law06_example 0 60).Train).Second), iv 2, iv ((law06_example 0 60).Width), iv ((law06_example 0 60).Every)]), .call [] 34 #[.agg #[iv 4, iv 0, iv 1, iv 1000], .slice ad15 2 cap16, sb b144 2, .agg #[iv 1, iv (((law06_example 0 60).Train).Lambda), iv (((law06_example 0 60).Train).Kind), iv 500, iv (((law06_example 0 60).Train).Second), iv 2, iv ((law06_example 0 60).Width), iv ((law06_example 0 60).Every)], iv 21] (.tuple #[iv y145.1, iv y145.2])] 10 [(1, pb b1), (7, iv y145.2), (10, .slice ad15 2 cap16), (18, pb b143), (19, iv y145.1)] hF (ocons (obN (us := [iv 1, iv (((law06_example 0 60).Train).Lambda), iv (((law06_example 0 60).Train).Kind), iv 500, iv (((law06_example 0 60).Train).Second), iv 2, iv ((law06_example 0 60).Width), iv ((law06_example 0 60).Every)]) (by kernel_rfl) (fun _ hd => ((hS.later hd).blk (i := 1) rfl).cells rfl)) (ocons (show Ob.ok _ Ext _ _ from fun hk w2 hd => plan_Insert_ok F (plan_Radar.mk 4 0 1 1000) ([(law06_example 0 60), (law06_example 2 50)]) ([0, 1]) (plan_Job.mk 1 (pulse_Train.mk (((law06_example 0 60).Train).Lambda) (((law06_example 0 60).Train).Kind) 500 (((law06_example 0 60).Train).Second) 2) ((law06_example 0 60).Width) ((law06_example 0 60).Every)) 21 _ ((fun _ => hy145) hk) _ w2 (memOf_at w2) (hA28.mono (FrzAt.le_mem ((hS.later hd).frz (i := 11) rfl hlow))) (Arr.toM ((hS.later hd).arr (i := 0) rfl))) onil)) fun a w hF hx => ?_
            replace hS := hS.later hx
            refine wfn rfl ?_
            refine esr ?_
            refine rno 2 [.run [] (Instr.loadAt 31 (pb b1)) (.agg #[iv 4, iv 0, iv 1, iv 1000])] 2 [(1, pb b1), (7, iv y145.2), (10, .slice ad15 2 cap16), (18, pb b143), (19, iv y145.1), (207, .agg #[iv 4, iv 0, iv 1, iv 1000]), (208, .slice ad15 2 cap16)] hF (ocons (obN (us := [iv 4, iv 0, iv 1, iv 1000]) (by kernel_rfl) (fun _ hd => ((hS.at_ hd).blk (i := 10) rfl).cells rfl)) onil) fun a hF => ?_
            refine SK.wi (litK (e := 3) (sz := 1) (f := fI) (t := 40) (len := 2) (fun b146 => [(1, pb b1), (7, iv y145.2), (10, .slice ad15 2 cap16), (18, pb b143), (19, iv y145.1), (207, .agg #[iv 4, iv 0, iv 1, iv 1000]), (208, .slice ad15 2 cap16), (209, sb b146 2)]) #[(0, iv 0), (1, iv 1)] #[iv 0, iv 1] ([0, 1]) hF hS (by kernel_rfl) ⟨by kernel_rfl⟩ (by kernel_rfl) fI_len rfl rfl (by kernel_rfl) (fun _ => ⟨by kernel_rfl⟩) fun b146 w a hF hS => ?_)
            replace h := bindS h
            obtain ⟨y147, hy147, h⟩ := h
            refine rx 6 [.run [] (Instr.loadAt 34 (pb b143)) (.agg #[iv 1, iv (((law06_example 0 60).Train).Lambda), iv (((law06_example 0 60).Train).Kind), iv 500, iv (((law06_example 0 60).Train).Second), iv 2, iv ((law06_example 0 60).Width), iv ((law06_example 0 60).Every)]), .call [] 34 #[.agg #[iv 4, iv 0, iv 1, iv 1000], .slice ad15 2 cap16, sb b146 2, .agg #[iv 1, iv (((law06_example 0 60).Train).Lambda), iv (((law06_example 0 60).Train).Kind), iv 500, iv (((law06_example 0 60).Train).Second), iv 2, iv ((law06_example 0 60).Width), iv ((law06_example 0 60).Every)], iv 20] (.tuple #[iv y147.1, iv y147.2])] 9 [(1, pb b1), (7, iv y145.2), (9, iv y147.2), (10, .slice ad15 2 cap16), (19, iv y145.1)] hF (ocons (obN (us := [iv 1, iv (((law06_example 0 60).Train).Lambda), iv (((law06_example 0 60).Train).Kind), iv 500, iv (((law06_example 0 60).Train).Second), iv 2, iv ((law06_example 0 60).Width), iv ((law06_example 0 60).Every)]) (by kernel_rfl) (fun _ hd => ((hS.later hd).blk (i := 2) rfl).cells rfl)) (ocons (show Ob.ok _ Ext _ _ from fun hk w2 hd => plan_Insert_ok F (plan_Radar.mk 4 0 1 1000) ([(law06_example 0 60), (law06_example 2 50)]) ([0, 1]) (plan_Job.mk 1 (pulse_Train.mk (((law06_example 0 60).Train).Lambda) (((law06_example 0 60).Train).Kind) 500 (((law06_example 0 60).Train).Second) 2) ((law06_example 0 60).Width) ((law06_example 0 60).Every)) 20 _ ((fun _ => hy147) hk) _ w2 (memOf_at w2) (hA28.mono (FrzAt.le_mem ((hS.later hd).frz (i := 12) rfl hlow))) (Arr.toM ((hS.later hd).arr (i := 0) rfl))) onil)) fun a w hF hx => ?_
            replace hS := hS.later hx
            refine wfn rfl ?_
            refine esr ?_
            refine rno 2 [.run [] (Instr.loadAt 31 (pb b1)) (.agg #[iv 4, iv 0, iv 1, iv 1000])] 2 [(1, pb b1), (7, iv y145.2), (9, iv y147.2), (10, .slice ad15 2 cap16), (19, iv y145.1), (215, .agg #[iv 4, iv 0, iv 1, iv 1000]), (216, .slice ad15 2 cap16)] hF (ocons (obN (us := [iv 4, iv 0, iv 1, iv 1000]) (by kernel_rfl) (fun _ hd => ((hS.at_ hd).blk (i := 11) rfl).cells rfl)) onil) fun a hF => ?_
            refine SK.wi (litK (e := 3) (sz := 1) (f := fI) (t := 40) (len := 2) (fun b148 => [(1, pb b1), (7, iv y145.2), (9, iv y147.2), (10, .slice ad15 2 cap16), (19, iv y145.1), (215, .agg #[iv 4, iv 0, iv 1, iv 1000]), (216, .slice ad15 2 cap16), (217, sb b148 2)]) #[(0, iv 0), (1, iv 1)] #[iv 0, iv 1] ([0, 1]) hF hS (by kernel_rfl) ⟨by kernel_rfl⟩ (by kernel_rfl) fI_len rfl rfl (by kernel_rfl) (fun _ => ⟨by kernel_rfl⟩) fun b148 w a hF hS => ?_)
            replace h := bindS h
            obtain ⟨y149, hy149, h⟩ := h
            refine rx 8 [.call [] 24 #[.agg #[iv 4, iv 0, iv 1, iv 1000], .slice ad15 2 cap16, sb b148 2, iv 7] (.tuple #[iv y149.1, iv y149.2.1, iv y149.2.2])] 11 [(1, pb b1), (7, iv y145.2), (9, iv y147.2), (10, .slice ad15 2 cap16), (13, iv y149.2.2), (19, iv y145.1), (20, iv y149.1), (21, iv y149.2.1)] hF (ocons (show Ob.ok _ Ext _ _ from fun hk w2 hd => plan_Where_ok F (plan_Radar.mk 4 0 1 1000) ([(law06_example 0 60), (law06_example 2 50)]) ([0, 1]) 7 _ ((fun _ => hy149) hk) _ w2 (memOf_at w2) (hA28.mono (FrzAt.le_mem ((hS.later hd).frz (i := 13) rfl hlow))) (Arr.toM ((hS.later hd).arr (i := 0) rfl))) onil) fun a w hF hx => ?_
            replace hS := hS.later hx
            refine wfn rfl ?_
            refine esr ?_
            refine rno 2 [.run [] (Instr.loadAt 31 (pb b1)) (.agg #[iv 4, iv 0, iv 1, iv 1000])] 2 [(7, iv y145.2), (9, iv y147.2), (13, iv y149.2.2), (19, iv y145.1), (20, iv y149.1), (21, iv y149.2.1), (223, .agg #[iv 4, iv 0, iv 1, iv 1000]), (224, .slice ad15 2 cap16)] hF (ocons (obN (us := [iv 4, iv 0, iv 1, iv 1000]) (by kernel_rfl) (fun _ hd => ((hS.at_ hd).blk (i := 12) rfl).cells rfl)) onil) fun a hF => ?_
            refine SK.wi (litK (e := 3) (sz := 1) (f := fI) (t := 40) (len := 2) (fun b150 => [(7, iv y145.2), (9, iv y147.2), (13, iv y149.2.2), (19, iv y145.1), (20, iv y149.1), (21, iv y149.2.1), (223, .agg #[iv 4, iv 0, iv 1, iv 1000]), (224, .slice ad15 2 cap16), (225, sb b150 2)]) #[(0, iv 0), (1, iv 1)] #[iv 0, iv 1] ([0, 1]) hF hS (by kernel_rfl) ⟨by kernel_rfl⟩ (by kernel_rfl) fI_len rfl rfl (by kernel_rfl) (fun _ => ⟨by kernel_rfl⟩) fun b150 w a hF hS => ?_)
            replace h := bindS h
            obtain ⟨y151, hy151, h⟩ := h
            refine rx 8 [.call [] 24 #[.agg #[iv 4, iv 0, iv 1, iv 1000], .slice ad15 2 cap16, sb b150 2, iv 21] (.tuple #[iv y151.1, iv y151.2.1, iv y151.2.2])] 11 [(7, iv y145.2), (9, iv y147.2), (13, iv y149.2.2), (15, iv y151.2.2), (19, iv y145.1), (20, iv y149.1), (21, iv y149.2.1), (23, iv y151.2.1)] hF (ocons (show Ob.ok _ Ext _ _ from fun hk w2 hd => plan_Where_ok F (plan_Radar.mk 4 0 1 1000) ([(law06_example 0 60), (law06_example 2 50)]) ([0, 1]) 21 _ ((fun _ => hy151) hk) _ w2 (memOf_at w2) (hA28.mono (FrzAt.le_mem ((hS.later hd).frz (i := 14) rfl hlow))) (Arr.toM ((hS.later hd).arr (i := 0) rfl))) onil) fun a w hF hx => ?_
            replace hS := hS.later hx
            refine wfn rfl ?_
            refine esr ?_
            refine rn 31 31 [(0, .bool (bif (bif (bif (bif (bif (bif (bif (y145.2 == 0) then (y147.2 == 28) else false) then (y149.2.2 == 0) else false) then (y151.2.2 == 0) else false) then (y145.1 == 0) else false) then (y149.1 == 0) else false) then (y149.2.1 == 1) else false) then (y151.2.1 == (-1)) else false))] hF fun a hF => ?_
            refine wfn rfl ?_
            refine wpIn_ret (fn_ret [.tmp 0] [.bool (bif (bif (bif (bif (bif (bif (bif (y145.2 == 0) then (y147.2 == 28) else false) then (y149.2.2 == 0) else false) then (y151.2.2 == 0) else false) then (y145.1 == 0) else false) then (y149.1 == 0) else false) then (y149.2.1 == 1) else false) then (y151.2.1 == (-1)) else false)] hF rfl ⟨rfl, trivial⟩ ?_)
            have hr_ := Option.some.inj h
            subst hr_
            exact ⟨rfl, hS.ext⟩
end Go.Proofs.Ytejffembnkojjaa
