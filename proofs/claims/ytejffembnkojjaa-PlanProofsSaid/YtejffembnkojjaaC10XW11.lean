/- Walks, written by program (wip/gen/dec.py). -/
import Derived.Test.YtejffembnkojjaaC10XD
import Derived.Test.YtejffembnkojjaaProg
import Derived.Test.YtejffembnkojjaaC10XW0
import Derived.Test.YtejffembnkojjaaC10XW1
import Derived.Test.YtejffembnkojjaaC10XW6
import Derived.Test.YtejffembnkojjaaC10XW9
import Derived.Test.YtejffembnkojjaaC10XW10
namespace Go.Proofs.Ytejffembnkojjaa
open Go Go.RowKit Go.Eng
set_option maxRecDepth 10000
set_option maxHeartbeats 4000000
set_option linter.unusedVariables false
set_option linter.unusedSimpArgs false
theorem law06_PlanProofs_ok (F : Nat) (p0 : law06_Desk) (p1 : Int) (p2 : Int) (p3 : Int) (res : Bool) (h : law06_PlanProofs F p0 p1 p2 p3 = some res) (μ : Frz) (w0 : World) (hm : FrzAt μ w0) {ad1 : Option Addr} {cap2 : Nat} (hA3 : ArrM μ 6 law06_Wish.cells ad1 cap2 p0.Jobs) : Calls Try.prog 10 #[.agg #[.int .u8 p0.Rays, .int .u8 p0.Turn, .int .u8 p0.Move, .int .u8 p0.Duty, sv ad1 p0.Jobs cap2], .int .u8 p1, .int .u8 p2, .int .u8 p3] w0 (fun e w => e = .returned (.bool res) ∧ Ext w0 w) := by
 obtain ⟨hlow, hS⟩ := hm.init
 have hext := Frz.ext_refl w0.heap.size μ
 rw [law06_PlanProofs] at h
 refine fn_enterW Try.func10 rfl 144 [(0, .agg #[.int .u8 p0.Rays, .int .u8 p0.Turn, .int .u8 p0.Move, .int .u8 p0.Duty, sv ad1 p0.Jobs cap2]), (1, .int .u8 p1), (2, .int .u8 p2), (3, .int .u8 p3)] rfl rfl (by kernel_rfl) fun a w hw hF => ?_
 replace hS : St w0 [fz w0 μ] w := by rw [hw]; exact hS
 clear hw
 refine esr ?_
 refine SK.wi (boxK (t := 75) (fun b4 => [(1, .int .u8 p1), (2, .int .u8 p2), (3, .int .u8 p3), (4, pb b4)]) (.agg #[.int .u8 p0.Rays, .int .u8 p0.Turn, .int .u8 p0.Move, .int .u8 p0.Duty, sv ad1 p0.Jobs cap2]) #[.int .u8 p0.Rays, .int .u8 p0.Turn, .int .u8 p0.Move, .int .u8 p0.Duty, sv ad1 p0.Jobs cap2] hF hS (by kernel_rfl) ⟨by kernel_rfl⟩ (by kernel_rfl) (fun _ => ⟨by kernel_rfl⟩) fun b4 w a hF hS => ?_)
 refine rn 1 2 [(1, .int .u8 p1), (2, .int .u8 p2), (3, .int .u8 p3), (4, pb b4)] hF fun a hF => ?_
 refine wfn rfl ?_
 refine eseq ?_
 replace h := bindS h
 obtain ⟨y6, hy6, h⟩ := h
 replace h := bindS h
 obtain ⟨y8, hy8, h⟩ := h
 refine region_treeW 5 [1, 3, 4] (fun a w => ∃ (b27 : Nat) (ad28 : Option Addr) (cap29 : Nat), Fr 144 [] [(1, .int .u8 p1), (2, .int .u8 p2), (3, .int .u8 p3), (9, pb b27), (20, y6.ag), (22, sv ad28 y8 cap29)] a ∧ St w0 [blk b27 31 #[iv 0, iv 0, iv 0, iv 0], arr 34 8 plan_Job.cells ad28 y8.length cap29 y8, blk b4 75 #[.int .u8 p0.Rays, .int .u8 p0.Turn, .int .u8 p0.Move, .int .u8 p0.Duty, sv ad1 p0.Jobs cap2], fz w0 μ] w) (D := fun w => St w0 [blk b4 75 #[.int .u8 p0.Rays, .int .u8 p0.Turn, .int .u8 p0.Move, .int .u8 p0.Duty, sv ad1 p0.Jobs cap2]] w ∧ FrzAt μ w) (by kernel_rfl) (by kernel_rfl) hF.size (fun w hx => ?_) ?_
 ·skip
  replace hS := hS.later hx
  refine ⟨⟨St.pick [0] (by decide) hS, hS.frz (i := 1) rfl hlow⟩, ?_⟩
  have hcl30 := Frz.le_refl μ
  refine WT.s [0, 2] [1, 4] (by kernel_rfl) (by kernel_rfl) ?_
  refine runC (rest := []) (obs := [.run [] (Instr.loadAt 75 (pb b4)) (.agg #[.int .u8 p0.Rays, .int .u8 p0.Turn, .int .u8 p0.Move, .int .u8 p0.Duty, sv ad1 p0.Jobs cap2]), .run [] (Instr.loadAt 75 (pb b4)) (.agg #[.int .u8 p0.Rays, .int .u8 p0.Turn, .int .u8 p0.Move, .int .u8 p0.Duty, sv ad1 p0.Jobs cap2])]) [0, 2] [(1, .int .u8 p1), (2, .int .u8 p2), (3, .int .u8 p3), (19, .agg #[.int .u8 p0.Rays, .int .u8 p0.Turn, .int .u8 p0.Move, .int .u8 p0.Duty, sv ad1 p0.Jobs cap2]), (21, .agg #[.int .u8 p0.Rays, .int .u8 p0.Turn, .int .u8 p0.Move, .int .u8 p0.Duty, sv ad1 p0.Jobs cap2])] hF (by kernel_rfl) (by kernel_rfl) (ocons (obN (us := [.int .u8 p0.Rays, .int .u8 p0.Turn, .int .u8 p0.Move, .int .u8 p0.Duty, sv ad1 p0.Jobs cap2]) (by kernel_rfl) (fun _ hd => (hd.1.blk (i := 0) rfl).cells rfl)) (ocons (obN (us := [.int .u8 p0.Rays, .int .u8 p0.Turn, .int .u8 p0.Move, .int .u8 p0.Duty, sv ad1 p0.Jobs cap2]) (by kernel_rfl) (fun _ hd => (hd.1.blk (i := 0) rfl).cells rfl)) onil)) ⟨by kernel_rfl⟩ fun a hF => ?_
  refine WRun.fin ?_
  refine all_cons ?_ (all_cons ?_ (all_nil))
  ·skip
   refine callK (f := 36) (args := #[.agg #[.int .u8 p0.Rays, .int .u8 p0.Turn, .int .u8 p0.Move, .int .u8 p0.Duty, sv ad1 p0.Jobs cap2]]) (R := fun v w2 => v = y6.ag ∧ Ext w w2) (fun v31 => [(1, .int .u8 p1), (2, .int .u8 p2), (3, .int .u8 p3), (20, v31), (21, .agg #[.int .u8 p0.Rays, .int .u8 p0.Turn, .int .u8 p0.Move, .int .u8 p0.Duty, sv ad1 p0.Jobs cap2])]) hF (by kernel_rfl) ⟨by kernel_rfl⟩ (Calls.mono (law06_Desk_radar_ok F p0 _ hy6 (memOf w) w (memOf_at w) (hA3.mono (FrzAt.le_mem (hS.frz (i := 1) rfl hlow)))) (fun e w2 h => ⟨_, h.1, rfl, h.2⟩)) (fun _ => ⟨by kernel_rfl⟩) ?_
   rintro v31 w a ⟨rfl, hx⟩ hF
   replace hS := hS.later hx
   refine ⟨⟨St.pick [0] (by decide) hS, (hS.frz (i := 1) rfl hlow)⟩, ?_⟩
   refine WT.s [] [3, 4] (by kernel_rfl) (by kernel_rfl) ?_
   refine WRun.fin ?_
   refine all_cons ?_ (all_cons ?_ (all_nil))
   ·skip
    refine callK (f := 37) (args := #[.agg #[.int .u8 p0.Rays, .int .u8 p0.Turn, .int .u8 p0.Move, .int .u8 p0.Duty, sv ad1 p0.Jobs cap2]]) (R := fun v w2 => ∃ ad33 cap34, v = sv ad33 y8 cap34 ∧ St w [arr 34 8 plan_Job.cells ad33 y8.length cap34 y8] w2) (fun v32 => [(1, .int .u8 p1), (2, .int .u8 p2), (3, .int .u8 p3), (20, y6.ag), (22, v32)]) hF (by kernel_rfl) ⟨by kernel_rfl⟩ (Calls.mono (law06_Desk_jobs_ok F p0 _ hy8 (memOf w) w (memOf_at w) (hA3.mono (FrzAt.le_mem (hS.frz (i := 1) rfl hlow)))) (by rintro e w2 ⟨ad33, cap34, rfl, h⟩; exact ⟨_, rfl, ad33, cap34, rfl, h⟩)) (fun _ => ⟨by kernel_rfl⟩) ?_
    rintro v32 w a ⟨ad33, cap34, rfl, hQ⟩ hF
    replace hS : St w0 [arr 34 8 plan_Job.cells ad33 y8.length cap34 y8, blk b4 75 #[.int .u8 p0.Rays, .int .u8 p0.Turn, .int .u8 p0.Move, .int .u8 p0.Duty, sv ad1 p0.Jobs cap2], fz w0 μ] w := hS.madeL hQ
    refine ⟨⟨St.pick [1] (by decide) hS, (hS.frz (i := 2) rfl hlow)⟩, ?_⟩
    refine WT.s [] [4] (by kernel_rfl) (by kernel_rfl) ?_
    refine WRun.fin ?_
    refine all_cons ?_ (all_nil)
    refine allocK (t := 31) (fun b35 => [(1, .int .u8 p1), (2, .int .u8 p2), (3, .int .u8 p3), (9, pb b35), (20, y6.ag), (22, sv ad33 y8 cap34)]) #[iv 0, iv 0, iv 0, iv 0] hF hS (by kernel_rfl) ⟨by kernel_rfl⟩ (by kernel_rfl) (fun _ => ⟨by kernel_rfl⟩) fun b35 w a hF hS => ⟨⟨St.pick [2] (by decide) hS, (hS.frz (i := 3) rfl hlow)⟩, ?_⟩
    refine WT.z [] (by kernel_rfl) ?_
    refine WRun.fin ?_
    exact ⟨b35, ad33, cap34, hF.sub (by kernel_rfl), St.pick [0, 1, 2, 3] (by decide) hS⟩
   ·skip
    refine allocK (t := 31) (fun b36 => [(1, .int .u8 p1), (2, .int .u8 p2), (3, .int .u8 p3), (9, pb b36), (20, y6.ag), (21, .agg #[.int .u8 p0.Rays, .int .u8 p0.Turn, .int .u8 p0.Move, .int .u8 p0.Duty, sv ad1 p0.Jobs cap2])]) #[iv 0, iv 0, iv 0, iv 0] hF hS (by kernel_rfl) ⟨by kernel_rfl⟩ (by kernel_rfl) (fun _ => ⟨by kernel_rfl⟩) fun b36 w a hF hS => ⟨⟨St.pick [1] (by decide) hS, (hS.frz (i := 2) rfl hlow)⟩, ?_⟩
    refine WT.s [] [3] (by kernel_rfl) (by kernel_rfl) ?_
    refine WRun.fin ?_
    refine all_cons ?_ (all_nil)
    refine callK (f := 37) (args := #[.agg #[.int .u8 p0.Rays, .int .u8 p0.Turn, .int .u8 p0.Move, .int .u8 p0.Duty, sv ad1 p0.Jobs cap2]]) (R := fun v w2 => ∃ ad38 cap39, v = sv ad38 y8 cap39 ∧ St w [arr 34 8 plan_Job.cells ad38 y8.length cap39 y8] w2) (fun v37 => [(1, .int .u8 p1), (2, .int .u8 p2), (3, .int .u8 p3), (9, pb b36), (20, y6.ag), (22, v37)]) hF (by kernel_rfl) ⟨by kernel_rfl⟩ (Calls.mono (law06_Desk_jobs_ok F p0 _ hy8 (memOf w) w (memOf_at w) (hA3.mono (FrzAt.le_mem (hS.frz (i := 2) rfl hlow)))) (by rintro e w2 ⟨ad38, cap39, rfl, h⟩; exact ⟨_, rfl, ad38, cap39, rfl, h⟩)) (fun _ => ⟨by kernel_rfl⟩) ?_
    rintro v37 w a ⟨ad38, cap39, rfl, hQ⟩ hF
    replace hS : St w0 [arr 34 8 plan_Job.cells ad38 y8.length cap39 y8, blk b36 31 #[iv 0, iv 0, iv 0, iv 0], blk b4 75 #[.int .u8 p0.Rays, .int .u8 p0.Turn, .int .u8 p0.Move, .int .u8 p0.Duty, sv ad1 p0.Jobs cap2], fz w0 μ] w := hS.madeL hQ
    refine ⟨⟨St.pick [2] (by decide) hS, (hS.frz (i := 3) rfl hlow)⟩, ?_⟩
    refine WT.z [] (by kernel_rfl) ?_
    refine WRun.fin ?_
    exact ⟨b36, ad38, cap39, hF.sub (by kernel_rfl), St.pick [1, 0, 2, 3] (by decide) hS⟩
  ·skip
   refine allocK (t := 31) (fun b40 => [(1, .int .u8 p1), (2, .int .u8 p2), (3, .int .u8 p3), (9, pb b40), (19, .agg #[.int .u8 p0.Rays, .int .u8 p0.Turn, .int .u8 p0.Move, .int .u8 p0.Duty, sv ad1 p0.Jobs cap2]), (21, .agg #[.int .u8 p0.Rays, .int .u8 p0.Turn, .int .u8 p0.Move, .int .u8 p0.Duty, sv ad1 p0.Jobs cap2])]) #[iv 0, iv 0, iv 0, iv 0] hF hS (by kernel_rfl) ⟨by kernel_rfl⟩ (by kernel_rfl) (fun _ => ⟨by kernel_rfl⟩) fun b40 w a hF hS => ⟨⟨St.pick [1] (by decide) hS, (hS.frz (i := 2) rfl hlow)⟩, ?_⟩
   refine WT.s [] [1] (by kernel_rfl) (by kernel_rfl) ?_
   refine WRun.fin ?_
   refine all_cons ?_ (all_nil)
   refine callK (f := 36) (args := #[.agg #[.int .u8 p0.Rays, .int .u8 p0.Turn, .int .u8 p0.Move, .int .u8 p0.Duty, sv ad1 p0.Jobs cap2]]) (R := fun v w2 => v = y6.ag ∧ Ext w w2) (fun v41 => [(1, .int .u8 p1), (2, .int .u8 p2), (3, .int .u8 p3), (9, pb b40), (20, v41), (21, .agg #[.int .u8 p0.Rays, .int .u8 p0.Turn, .int .u8 p0.Move, .int .u8 p0.Duty, sv ad1 p0.Jobs cap2])]) hF (by kernel_rfl) ⟨by kernel_rfl⟩ (Calls.mono (law06_Desk_radar_ok F p0 _ hy6 (memOf w) w (memOf_at w) (hA3.mono (FrzAt.le_mem (hS.frz (i := 2) rfl hlow)))) (fun e w2 h => ⟨_, h.1, rfl, h.2⟩)) (fun _ => ⟨by kernel_rfl⟩) ?_
   rintro v41 w a ⟨rfl, hx⟩ hF
   replace hS := hS.later hx
   refine ⟨⟨St.pick [1] (by decide) hS, (hS.frz (i := 2) rfl hlow)⟩, ?_⟩
   refine WT.s [] [3] (by kernel_rfl) (by kernel_rfl) ?_
   refine WRun.fin ?_
   refine all_cons ?_ (all_nil)
   refine callK (f := 37) (args := #[.agg #[.int .u8 p0.Rays, .int .u8 p0.Turn, .int .u8 p0.Move, .int .u8 p0.Duty, sv ad1 p0.Jobs cap2]]) (R := fun v w2 => ∃ ad43 cap44, v = sv ad43 y8 cap44 ∧ St w [arr 34 8 plan_Job.cells ad43 y8.length cap44 y8] w2) (fun v42 => [(1, .int .u8 p1), (2, .int .u8 p2), (3, .int .u8 p3), (9, pb b40), (20, y6.ag), (22, v42)]) hF (by kernel_rfl) ⟨by kernel_rfl⟩ (Calls.mono (law06_Desk_jobs_ok F p0 _ hy8 (memOf w) w (memOf_at w) (hA3.mono (FrzAt.le_mem (hS.frz (i := 2) rfl hlow)))) (by rintro e w2 ⟨ad43, cap44, rfl, h⟩; exact ⟨_, rfl, ad43, cap44, rfl, h⟩)) (fun _ => ⟨by kernel_rfl⟩) ?_
   rintro v42 w a ⟨ad43, cap44, rfl, hQ⟩ hF
   replace hS : St w0 [arr 34 8 plan_Job.cells ad43 y8.length cap44 y8, blk b40 31 #[iv 0, iv 0, iv 0, iv 0], blk b4 75 #[.int .u8 p0.Rays, .int .u8 p0.Turn, .int .u8 p0.Move, .int .u8 p0.Duty, sv ad1 p0.Jobs cap2], fz w0 μ] w := hS.madeL hQ
   refine ⟨⟨St.pick [2] (by decide) hS, (hS.frz (i := 3) rfl hlow)⟩, ?_⟩
   refine WT.z [] (by kernel_rfl) ?_
   refine WRun.fin ?_
   exact ⟨b40, ad43, cap44, hF.sub (by kernel_rfl), St.pick [1, 0, 2, 3] (by decide) hS⟩
 rintro a w ⟨b27, ad28, cap29, hF, hS⟩
 refine SK.wi (storeK (t := 31) [(1, .int .u8 p1), (2, .int .u8 p2), (3, .int .u8 p3), (9, pb b27), (22, sv ad28 y8 cap29)] 0 0 (y6.ag) y6.ar hF hS rfl (by kernel_rfl) ⟨by kernel_rfl⟩ (by kernel_rfl) (by kernel_rfl) (by kernel_rfl) (by kernel_rfl) ⟨by kernel_rfl⟩ fun w a hF hS => ?_)
 refine rn 1 7 [(1, .int .u8 p1), (2, .int .u8 p2), (3, .int .u8 p3), (9, pb b27), (10, sv ad28 y8 cap29)] hF fun a hF => ?_
 refine wfn rfl ?_
 refine esr ?_
 replace h := bindS h
 obtain ⟨x45, hx45, h⟩ := h
 replace h := bindS h
 obtain ⟨x46, hx46, h⟩ := h
 replace h := bindS h
 obtain ⟨x47, hx47, h⟩ := h
 refine rno 6 [.run [] (Instr.loadAt 31 (pb b27)) (y6.ag), .run [] (convert 5 3 (.int .u8 p1)) (iv x45), .run [] (binOp .rem 3 (iv x45) (iv 4)) (iv x46), .run [] (binOp .add 3 (iv 1) (iv x46)) (iv x47)] 6 [(2, .int .u8 p2), (3, .int .u8 p3), (9, pb b27), (10, sv ad28 y8 cap29), (24, y6.ag), (25, sv ad28 y8 cap29), (29, iv x47)] hF (ocons (obN (us := y6.cells) (by kernel_rfl) (fun _ hd => ((hS.at_ hd).blk (i := 0) rfl).cells rfl)) (ocons (obConvC (by kernel_rfl) (by kernel_rfl) (fun _ => hx45)) (ocons (obRemC (fun _ => hx46)) (ocons (obAddC (fun _ => hx47)) onil)))) fun a hF => ?_
 obtain ⟨ν48, hx49, hlow, hS, hz50⟩ := hS.freeze (i := 3) (j := 1) rfl rfl (by decide) hlow
 replace hA3 := hA3.mono hx49.1
 replace hext := Frz.ext_trans hext hx49
 replace hS : St w0 [blk b27 31 y6.ar, blk b4 75 #[.int .u8 p0.Rays, .int .u8 p0.Turn, .int .u8 p0.Move, .int .u8 p0.Duty, sv ad1 p0.Jobs cap2], fz w0 ν48] w := hS
 have hA51 := ArrM.of_arr hz50
 replace h := bindS h
 obtain ⟨y53, hy53, h⟩ := h
 refine SK.wi (callK (f := 29) (args := #[y6.ag, sv ad28 y8 cap29, iv x47]) (R := fun v w2 => ∃ ν54 ad55 cap56 css57, ν48.ext w.heap.size ν54 ∧ v = .tuple #[sv ad55 y53.1 cap56, iv y53.2] ∧ ArrQ ν54 2 Rp65 ad55 cap56 css57 y53.1 ∧ St w [frzR w.heap.size ν54] w2) (fun v52 => [(2, .int .u8 p2), (3, .int .u8 p3), (9, pb b27), (10, sv ad28 y8 cap29), (30, v52)]) hF (by kernel_rfl) ⟨by kernel_rfl⟩ (Calls.mono (plan_Refute_ok F y6 y8 x47 _ hy53 ν48 w (hS.frz (i := 2) rfl hlow) hA51) (by rintro e w2 ⟨ν54, ad55, cap56, css57, hx59, rfl, hA58, h⟩; exact ⟨_, rfl, ν54, ad55, cap56, css57, hx59, rfl, hA58, h⟩)) (fun _ => ⟨by kernel_rfl⟩) ?_)
 rintro v52 w a ⟨ν54, ad55, cap56, css57, hx59, rfl, hA58, hQ⟩ hF
 replace hext := Frz.ext_trans hext (Frz.ext_mono hx59 hS.ext.size)
 obtain ⟨hlow, hS⟩ := hS.frzMerge (i := 2) rfl hlow hx59 hQ
 replace hA3 := hA3.mono hx59.1
 replace hA51 := hA51.mono hx59.1
 replace hS : St w0 [blk b27 31 y6.ar, blk b4 75 #[.int .u8 p0.Rays, .int .u8 p0.Turn, .int .u8 p0.Move, .int .u8 p0.Duty, sv ad1 p0.Jobs cap2], fz w0 ν54] w := hS
 refine rn 5 12 [(2, .int .u8 p2), (3, .int .u8 p3), (9, pb b27), (10, sv ad28 y8 cap29), (11, sv ad55 y53.1 cap56), (12, iv y53.2)] hF fun a hF => ?_
 refine wfn rfl ?_
 refine eseq ?_
 refine esr ?_
 refine rn 2 2 [(2, .int .u8 p2), (3, .int .u8 p3), (9, pb b27), (10, sv ad28 y8 cap29), (11, sv ad55 y53.1 cap56), (12, iv y53.2), (34, .bool (y53.2 != 0))] hF fun a hF => ?_
 refine wfn rfl ?_
 refine econd hF rfl (fun hc => ?_) (fun hc => ?_)
 ·replace h := bif_t h hc
  refine esr ?_
  replace h := bindS h
  obtain ⟨y60, hy60, h⟩ := h
  refine rx 6 [.call [⟨37, true, (y53.2 == 4)⟩] 17 #[] (.bool y60)] 6 [(8, .bool (bif (y53.2 == 4) then y60 else false))] hF (ocons (show Ob.ok _ Ext _ _ from fun hk w2 hd => law06_works_ok F  _ ((fun hk => gd_some hy60 hk) hk) _ w2 (memOf_at w2) ) onil) fun a w hF hx => ?_
  replace hS := hS.later hx
  refine wfn rfl ?_
  refine wpIn_ret (ret_then <| fn_ret [.tmp 8] [.bool (bif (y53.2 == 4) then y60 else false)] hF rfl ⟨rfl, trivial⟩ ?_)
  have hr_ := Option.some.inj h
  subst hr_
  exact ⟨rfl, hS.ext⟩
 ·replace h := bif_f h hc
  refine wpIn_skip (norm_then ?_)
  refine eseq ?_
  refine esr ?_
  replace h := bindS h
  obtain ⟨y61, hy61, h⟩ := h
  refine rx 10 [.run [⟨43, false, (decide ((ln y53.1) < 1))⟩] (Instr.loadAt 31 (pb b27)) (y6.ag), .call [⟨43, false, (decide ((ln y53.1) < 1))⟩] 31 #[y6.ag, sv ad28 y8 cap29, sv ad55 y53.1 cap56] (iv y61)] 10 [(2, .int .u8 p2), (3, .int .u8 p3), (9, pb b27), (10, sv ad28 y8 cap29), (11, sv ad55 y53.1 cap56), (49, .bool (bif (decide ((ln y53.1) < 1)) then true else (y61 != 0)))] hF (ocons (obN (us := y6.cells) (by kernel_rfl) (fun _ hd => ((hS.later hd).blk (i := 0) rfl).cells rfl)) (ocons (show Ob.ok _ Ext _ _ from fun hk w2 hd => plan_Verify_ok F y6 y8 y53.1 _ ((fun hk => gd_some hy61 hk) hk) _ w2 (memOf_at w2) (hA51.mono (FrzAt.le_mem ((hS.later hd).frz (i := 2) rfl hlow))) (hA58.mono Rp65.mono (FrzAt.le_mem ((hS.later hd).frz (i := 2) rfl hlow)))) onil)) fun a w hF hx => ?_
  replace hS := hS.later hx
  refine wfn rfl ?_
  refine econd hF rfl (fun hc => ?_) (fun hc => ?_)
  ·replace h := bif_t h hc
   refine esr ?_
   refine rn 1 1 [(8, .bool false)] hF fun a hF => ?_
   refine wfn rfl ?_
   refine wpIn_ret (ret_then <| fn_ret [.tmp 8] [.bool false] hF rfl ⟨rfl, trivial⟩ ?_)
   have hr_ := Option.some.inj h
   subst hr_
   exact ⟨rfl, hS.ext⟩
  ·replace h := bif_f h hc
   refine wpIn_skip (norm_then ?_)
   refine eseq ?_
   replace h := bindS h
   obtain ⟨x62, hx62, h⟩ := h
   replace h := bindS h
   obtain ⟨x63, hx63, h⟩ := h
   replace h := bindS h
   obtain ⟨x64, hx64, h⟩ := h
   replace h := bindS h
   obtain ⟨x65, hx65, h⟩ := h
   refine runD (obs := [.run [] (convert 5 3 (.int .u8 p2)) (iv x62), .run [] (binOp .rem 3 (iv x62) (iv (ln y53.1))) (iv x63), .run [] (convert 5 3 (.int .u8 p3)) (iv x64), .run [] (binOp .rem 3 (iv x64) (iv (ln y8))) (iv x65)]) 12 [(9, pb b27), (10, sv ad28 y8 cap29), (11, sv ad55 y53.1 cap56), (13, iv x63), (14, iv x65)] (by kernel_rfl) hF (by kernel_rfl) (ocons (obConvC (by kernel_rfl) (by kernel_rfl) (fun _ => hx62)) (ocons (obRemC (fun _ => hx63)) (ocons (obConvC (by kernel_rfl) (by kernel_rfl) (fun _ => hx64)) (ocons (obRemC (fun _ => hx65)) onil)))) ⟨by kernel_rfl⟩ fun a w hF hx => ?_
   replace hS := hS.later hx
   refine wfn rfl ?_
   refine eseq ?_
   replace h := bindS h
   obtain ⟨l66, hl66, h⟩ := h
   replace h := bindS h
   obtain ⟨x71, hx71, h⟩ := h
   replace h := bindS h
   obtain ⟨l72, hl72, h⟩ := h
   replace h := bindS h
   obtain ⟨l79, hl79, h⟩ := h
   refine region_treeW 9 [0, 4] _ (D := fun w => St w0 [blk b27 31 y6.ar, blk b4 75 #[.int .u8 p0.Rays, .int .u8 p0.Turn, .int .u8 p0.Move, .int .u8 p0.Duty, sv ad1 p0.Jobs cap2]] w ∧ FrzAt ν54 w) (by kernel_rfl) (by kernel_rfl) hF.size (fun w hx => ?_) (fun _ _ h => h)
   replace hS := hS.later hx
   refine ⟨⟨St.pick [0, 1] (by decide) hS, hS.frz (i := 2) rfl hlow⟩, ?_⟩
   have hcl98 := Frz.le_refl ν54
   obtain ⟨css99, hcs100, hq101⟩ := cut_all2 hA58.2 hl66
   have hA102 : ArrQ ν54 2 Rp65 (slOff ad55 cap56 (0 : Int).toNat 2) (cap56 - (0 : Int).toNat) css99 l66 := ⟨fun w_ hw_ => (hA58.1 w_ hw_).cutD (fN_len 2) hcs100, hq101⟩
   obtain ⟨css103, hcs104, hq105⟩ := cut_all2 hA58.2 hl72
   have hA106 : ArrQ ν54 2 Rp65 (slOff ad55 cap56 x71.toNat 2) (cap56 - x71.toNat) css103 l72 := ⟨fun w_ hw_ => (hA58.1 w_ hw_).cutD (fN_len 2) hcs104, hq105⟩
   refine WT.s [1, 2, 3, 5, 6, 7, 8] [0] (by kernel_rfl) (by kernel_rfl) ?_
   refine runC (rest := []) (obs := [.run [] (Instr.sliceAt 60 (sv ad55 y53.1 cap56) none (some (iv x63)) none) (.slice (slOff ad55 cap56 (0 : Int).toNat 2) l66.length (cap56 - (0 : Int).toNat)), .run [] (binOp .add 3 (iv x63) (iv 1)) (iv x71), .run [] (Instr.sliceAt 60 (sv ad55 y53.1 cap56) (some (iv x71)) none none) (.slice (slOff ad55 cap56 x71.toNat 2) l72.length (cap56 - x71.toNat))]) [1, 2, 3, 5, 6, 7, 8] [(9, pb b27), (10, sv ad28 y8 cap29), (11, sv ad55 y53.1 cap56), (13, iv x63), (14, iv x65), (63, .slice (slOff ad55 cap56 (0 : Int).toNat 2) l66.length (cap56 - (0 : Int).toNat)), (68, .slice (slOff ad55 cap56 x71.toNat 2) l72.length (cap56 - x71.toNat))] hF (by kernel_rfl) (by kernel_rfl) (ocons (obCutH (by kernel_rfl) (hA58.at (hS.frz (i := 2) rfl hlow)) (fun _ => hl66)) (ocons (obAddC (fun _ => hx71)) (ocons (obCutL (by kernel_rfl) (hA58.at (hS.frz (i := 2) rfl hlow)) (fun _ => hl72)) onil))) ⟨by kernel_rfl⟩ fun a hF => ?_
   refine WRun.fin ?_
   refine all_cons ?_ (all_nil)
   have hq108 : All2 (Rp65 ν54) ([] : List (List Value)) ([] : List plan_Cut) := All2.nil
   refine litQK (e := 65) (sz := 2) (f := fN 2) (t := 60) (len := 0) (fun b107 => [(9, pb b27), (10, sv ad28 y8 cap29), (11, sv ad55 y53.1 cap56), (13, iv x63), (14, iv x65), (60, sb b107 0), (63, .slice (slOff ad55 cap56 (0 : Int).toNat 2) l66.length (cap56 - (0 : Int).toNat)), (68, .slice (slOff ad55 cap56 x71.toNat 2) l72.length (cap56 - x71.toNat))]) #[] #[] ([] : List (List Value)) ([] : List plan_Cut) hF hS (by kernel_rfl) ⟨by kernel_rfl⟩ (by kernel_rfl) (fN_len 2) rfl rfl rfl (by kernel_rfl) (fun _ => ⟨by kernel_rfl⟩) fun b107 w a hF hS => ⟨⟨St.pick [1, 2] (by decide) hS, (hS.frz (i := 3) rfl hlow)⟩, ?_⟩
   refine WT.s [] [4] (by kernel_rfl) (by kernel_rfl) ?_
   refine WRun.fin ?_
   refine all_cons ?_ (all_nil)
   have hq112 : All2 (Rp65 ν54) (([] : List (List Value)) ++ css99) l79 := by rw [(apd_some hl79).1]; exact All2.app hq108 hA102.2
   refine appQK (t := 60) (ty := 60) (bytes := 32) (c := ([] : List (List Value))) (c' := css99) (l := ([] : List plan_Cut)) (l' := l66) (fun ad109 cap110 => [(9, pb b27), (10, sv ad28 y8 cap29), (11, sv ad55 y53.1 cap56), (13, iv x63), (14, iv x65), (64, sv ad109 l79 cap110), (68, .slice (slOff ad55 cap56 x71.toNat 2) l72.length (cap56 - x71.toNat))]) 0 hF hS rfl (by kernel_rfl) ⟨by kernel_rfl⟩ (by kernel_rfl) (hA102.at (hS.frz (i := 3) rfl hlow)) (ArrQ.one hA102.2 Rp65.one) hl79 (fun _ _ => ⟨by kernel_rfl⟩) fun ad109 cap110 w a hF hS => ⟨⟨St.pick [1, 2] (by decide) hS, (hS.frz (i := 3) rfl hlow)⟩, ?_⟩
   refine WT.z [] (by kernel_rfl) ?_
   refine WRun.fin ?_
   replace h := bindS h
   obtain ⟨l113, hl113, h⟩ := h
   have hq117 : All2 (Rp65 ν54) ((([] : List (List Value)) ++ css99) ++ css103) l113 := by rw [(apd_some hl113).1]; exact All2.app hq112 hA106.2
   refine SK.wi (appQK (t := 60) (ty := 60) (bytes := 32) (c := (([] : List (List Value)) ++ css99)) (c' := css103) (l := l79) (l' := l72) (fun ad114 cap115 => [(9, pb b27), (10, sv ad28 y8 cap29), (11, sv ad55 y53.1 cap56), (13, iv x63), (14, iv x65), (69, sv ad114 l113 cap115)]) 0 hF hS rfl (by kernel_rfl) ⟨by kernel_rfl⟩ (by kernel_rfl) (hA106.at (hS.frz (i := 3) rfl hlow)) (ArrQ.one hA106.2 Rp65.one) hl113 (fun _ _ => ⟨by kernel_rfl⟩) fun ad114 cap115 w a hF hS => ?_)
   refine rn 1 11 [(9, pb b27), (10, sv ad28 y8 cap29), (11, sv ad55 y53.1 cap56), (13, iv x63), (14, iv x65), (15, sv ad114 l113 cap115)] hF fun a hF => ?_
   refine wfn rfl ?_
   refine eseq ?_
   replace h := bindS h
   obtain ⟨x118, hx118, h⟩ := h
   replace h := bindS h
   obtain ⟨l119, hl119, h⟩ := h
   replace h := bindS h
   obtain ⟨l124, hl124, h⟩ := h
   replace h := bindS h
   obtain ⟨l131, hl131, h⟩ := h
   refine region_treeW 9 [0, 5] _ (D := fun w => St w0 [arr 65 2 (fN 2) ad114 l113.length cap115 ((([] : List (List Value)) ++ css99) ++ css103), blk b27 31 y6.ar, blk b4 75 #[.int .u8 p0.Rays, .int .u8 p0.Turn, .int .u8 p0.Move, .int .u8 p0.Duty, sv ad1 p0.Jobs cap2]] w ∧ FrzAt ν54 w) (by kernel_rfl) (by kernel_rfl) hF.size (fun w hx => ?_) (fun _ _ h => h)
   replace hS := hS.later hx
   refine ⟨⟨St.pick [0, 1, 2] (by decide) hS, hS.frz (i := 3) rfl hlow⟩, ?_⟩
   have hcl150 := Frz.le_refl ν54
   obtain ⟨css151, hcs152, hq153⟩ := cut_all2 hA58.2 hl119
   have hA154 : ArrQ ν54 2 Rp65 (slOff ad55 cap56 (0 : Int).toNat 2) (cap56 - (0 : Int).toNat) css151 l119 := ⟨fun w_ hw_ => (hA58.1 w_ hw_).cutD (fN_len 2) hcs152, hq153⟩
   obtain ⟨css155, hcs156, hq157⟩ := cut_all2 hA58.2 hl124
   have hA158 : ArrQ ν54 2 Rp65 (slOff ad55 cap56 x63.toNat 2) (cap56 - x63.toNat) css155 l124 := ⟨fun w_ hw_ => (hA58.1 w_ hw_).cutD (fN_len 2) hcs156, hq157⟩
   refine WT.s [1, 2, 3, 4, 6, 7, 8] [0] (by kernel_rfl) (by kernel_rfl) ?_
   refine runC (rest := []) (obs := [.run [] (binOp .add 3 (iv x63) (iv 1)) (iv x118), .run [] (Instr.sliceAt 60 (sv ad55 y53.1 cap56) none (some (iv x118)) none) (.slice (slOff ad55 cap56 (0 : Int).toNat 2) l119.length (cap56 - (0 : Int).toNat)), .run [] (Instr.sliceAt 60 (sv ad55 y53.1 cap56) (some (iv x63)) none none) (.slice (slOff ad55 cap56 x63.toNat 2) l124.length (cap56 - x63.toNat))]) [1, 2, 3, 4, 6, 7, 8] [(9, pb b27), (10, sv ad28 y8 cap29), (11, sv ad55 y53.1 cap56), (13, iv x63), (14, iv x65), (15, sv ad114 l113 cap115), (74, .slice (slOff ad55 cap56 (0 : Int).toNat 2) l119.length (cap56 - (0 : Int).toNat)), (78, .slice (slOff ad55 cap56 x63.toNat 2) l124.length (cap56 - x63.toNat))] hF (by kernel_rfl) (by kernel_rfl) (ocons (obAddC (fun _ => hx118)) (ocons (obCutH (by kernel_rfl) (hA58.at (hS.frz (i := 3) rfl hlow)) (fun _ => hl119)) (ocons (obCutL (by kernel_rfl) (hA58.at (hS.frz (i := 3) rfl hlow)) (fun _ => hl124)) onil))) ⟨by kernel_rfl⟩ fun a hF => ?_
   refine WRun.fin ?_
   refine all_cons ?_ (all_nil)
   have hq160 : All2 (Rp65 ν54) ([] : List (List Value)) ([] : List plan_Cut) := All2.nil
   refine litQK (e := 65) (sz := 2) (f := fN 2) (t := 60) (len := 0) (fun b159 => [(9, pb b27), (10, sv ad28 y8 cap29), (11, sv ad55 y53.1 cap56), (13, iv x63), (14, iv x65), (15, sv ad114 l113 cap115), (70, sb b159 0), (74, .slice (slOff ad55 cap56 (0 : Int).toNat 2) l119.length (cap56 - (0 : Int).toNat)), (78, .slice (slOff ad55 cap56 x63.toNat 2) l124.length (cap56 - x63.toNat))]) #[] #[] ([] : List (List Value)) ([] : List plan_Cut) hF hS (by kernel_rfl) ⟨by kernel_rfl⟩ (by kernel_rfl) (fN_len 2) rfl rfl rfl (by kernel_rfl) (fun _ => ⟨by kernel_rfl⟩) fun b159 w a hF hS => ⟨⟨St.pick [1, 2, 3] (by decide) hS, (hS.frz (i := 4) rfl hlow)⟩, ?_⟩
   refine WT.s [] [5] (by kernel_rfl) (by kernel_rfl) ?_
   refine WRun.fin ?_
   refine all_cons ?_ (all_nil)
   have hq164 : All2 (Rp65 ν54) (([] : List (List Value)) ++ css151) l131 := by rw [(apd_some hl131).1]; exact All2.app hq160 hA154.2
   refine appQK (t := 60) (ty := 60) (bytes := 32) (c := ([] : List (List Value))) (c' := css151) (l := ([] : List plan_Cut)) (l' := l119) (fun ad161 cap162 => [(9, pb b27), (10, sv ad28 y8 cap29), (11, sv ad55 y53.1 cap56), (13, iv x63), (14, iv x65), (15, sv ad114 l113 cap115), (75, sv ad161 l131 cap162), (78, .slice (slOff ad55 cap56 x63.toNat 2) l124.length (cap56 - x63.toNat))]) 0 hF hS rfl (by kernel_rfl) ⟨by kernel_rfl⟩ (by kernel_rfl) (hA154.at (hS.frz (i := 4) rfl hlow)) (ArrQ.one hA154.2 Rp65.one) hl131 (fun _ _ => ⟨by kernel_rfl⟩) fun ad161 cap162 w a hF hS => ⟨⟨St.pick [1, 2, 3] (by decide) hS, (hS.frz (i := 4) rfl hlow)⟩, ?_⟩
   refine WT.z [] (by kernel_rfl) ?_
   refine WRun.fin ?_
   replace h := bindS h
   obtain ⟨l165, hl165, h⟩ := h
   have hq169 : All2 (Rp65 ν54) ((([] : List (List Value)) ++ css151) ++ css155) l165 := by rw [(apd_some hl165).1]; exact All2.app hq164 hA158.2
   refine SK.wi (appQK (t := 60) (ty := 60) (bytes := 32) (c := (([] : List (List Value)) ++ css151)) (c' := css155) (l := l131) (l' := l124) (fun ad166 cap167 => [(9, pb b27), (10, sv ad28 y8 cap29), (11, sv ad55 y53.1 cap56), (13, iv x63), (14, iv x65), (15, sv ad114 l113 cap115), (79, sv ad166 l165 cap167)]) 0 hF hS rfl (by kernel_rfl) ⟨by kernel_rfl⟩ (by kernel_rfl) (hA158.at (hS.frz (i := 4) rfl hlow)) (ArrQ.one hA158.2 Rp65.one) hl165 (fun _ _ => ⟨by kernel_rfl⟩) fun ad166 cap167 w a hF hS => ?_)
   refine rn 1 11 [(9, pb b27), (10, sv ad28 y8 cap29), (11, sv ad55 y53.1 cap56), (13, iv x63), (14, iv x65), (15, sv ad114 l113 cap115), (16, sv ad166 l165 cap167)] hF fun a hF => ?_
   refine wfn rfl ?_
   refine esr ?_
   have hq171 : All2 (Rp65 ν54) ([] : List (List Value)) ([] : List plan_Cut) := All2.nil
   refine SK.wi (litQK (e := 65) (sz := 2) (f := fN 2) (t := 60) (len := 0) (fun b170 => [(9, pb b27), (10, sv ad28 y8 cap29), (11, sv ad55 y53.1 cap56), (13, iv x63), (14, iv x65), (15, sv ad114 l113 cap115), (16, sv ad166 l165 cap167), (80, sb b170 0)]) #[] #[] ([] : List (List Value)) ([] : List plan_Cut) hF hS (by kernel_rfl) ⟨by kernel_rfl⟩ (by kernel_rfl) (fN_len 2) rfl rfl rfl (by kernel_rfl) (fun _ => ⟨by kernel_rfl⟩) fun b170 w a hF hS => ?_)
   refine rn 1 2 [(9, pb b27), (10, sv ad28 y8 cap29), (11, sv ad55 y53.1 cap56), (13, iv x63), (14, iv x65), (15, sv ad114 l113 cap115), (16, sv ad166 l165 cap167), (80, sb b170 0), (81, sv ad55 y53.1 cap56)] hF fun a hF => ?_
   replace h := bindS h
   obtain ⟨l172, hl172, h⟩ := h
   have hq176 : All2 (Rp65 ν54) (([] : List (List Value)) ++ css57) l172 := by rw [(apd_some hl172).1]; exact All2.app hq171 hA58.2
   refine SK.wi (appQK (t := 60) (ty := 60) (bytes := 32) (c := ([] : List (List Value))) (c' := css57) (l := ([] : List plan_Cut)) (l' := y53.1) (fun ad173 cap174 => [(9, pb b27), (10, sv ad28 y8 cap29), (11, sv ad55 y53.1 cap56), (13, iv x63), (14, iv x65), (15, sv ad114 l113 cap115), (16, sv ad166 l165 cap167), (82, sv ad173 l172 cap174)]) 0 hF hS rfl (by kernel_rfl) ⟨by kernel_rfl⟩ (by kernel_rfl) (hA58.at (hS.frz (i := 5) rfl hlow)) (ArrQ.one hA58.2 Rp65.one) hl172 (fun _ _ => ⟨by kernel_rfl⟩) fun ad173 cap174 w a hF hS => ?_)
   refine rn 1 4 [(9, pb b27), (10, sv ad28 y8 cap29), (11, sv ad55 y53.1 cap56), (13, iv x63), (14, iv x65), (15, sv ad114 l113 cap115), (16, sv ad166 l165 cap167), (17, sv ad173 l172 cap174)] hF fun a hF => ?_
   refine wfn rfl ?_
   refine esr ?_
   refine rn 2 2 [(9, pb b27), (10, sv ad28 y8 cap29), (11, sv ad55 y53.1 cap56), (13, iv x63), (14, iv x65), (15, sv ad114 l113 cap115), (16, sv ad166 l165 cap167), (17, sv ad173 l172 cap174), (83, sv ad173 l172 cap174), (84, iv x63)] hF fun a hF => ?_
   refine SK.wi (litK (e := 3) (sz := 1) (f := fI) (t := 40) (len := 0) (fun b177 => [(9, pb b27), (10, sv ad28 y8 cap29), (11, sv ad55 y53.1 cap56), (13, iv x63), (14, iv x65), (15, sv ad114 l113 cap115), (16, sv ad166 l165 cap167), (17, sv ad173 l172 cap174), (83, sv ad173 l172 cap174), (84, iv x63), (85, sb b177 0)]) #[] #[] ([] : List Int) hF hS (by kernel_rfl) ⟨by kernel_rfl⟩ (by kernel_rfl) fI_len rfl rfl (by kernel_rfl) (fun _ => ⟨by kernel_rfl⟩) fun b177 w a hF hS => ?_)
   replace h := bindS h
   obtain ⟨u178, hu178, h⟩ := h
   obtain ⟨cs179, hcs180, hR181⟩ := getI_all2 hA58.2 hu178
   obtain ⟨ad182, cap183, rfl, hA184⟩ := hR181
   refine rno 5 [.run [] (Instr.indexAt 60 (sv ad55 y53.1 cap56) (iv x63)) (.pointer (some (slAddr ad55 x63 2))), .run [] (Instr.loadAt 40 (.pointer (some (slAddr ad55 x63 2)))) (sv ad182 u178.Begin cap183)] 8 [(9, pb b27), (10, sv ad28 y8 cap29), (11, sv ad55 y53.1 cap56), (14, iv x65), (15, sv ad114 l113 cap115), (16, sv ad166 l165 cap167), (17, sv ad173 l172 cap174), (83, sv ad173 l172 cap174), (84, iv x63), (85, sb b177 0), (90, sv ad182 u178.Begin cap183)] hF (ocons (obIdxQ (hA58.at (hS.frz (i := 6) rfl hlow)) (by kernel_rfl) (fun _ => hcs180)) (ocons (obElQ (i := x63) 0 (fN_len 2) (fun _ hd => (hA58.at ((hS.at_ hd).frz (i := 6) rfl hlow))) (by kernel_rfl) (fun _ => hcs180) rfl) onil)) fun a hF => ?_
   replace h := bindS h
   obtain ⟨l185, hl185, h⟩ := h
   refine SK.wi (appK (t := 40) (ty := 40) (bytes := 8) (l := ([] : List Int)) (l' := u178.Begin) (fun ad186 cap187 => [(9, pb b27), (10, sv ad28 y8 cap29), (11, sv ad55 y53.1 cap56), (14, iv x65), (15, sv ad114 l113 cap115), (16, sv ad166 l165 cap167), (17, sv ad173 l172 cap174), (83, sv ad173 l172 cap174), (84, iv x63), (91, sv ad186 l185 cap187)]) 0 hF hS rfl (by kernel_rfl) ⟨by kernel_rfl⟩ (by kernel_rfl) (hA184 _ (hS.frz (i := 6) rfl hlow)) (fun _ _ => rfl) hl185 (fun _ _ => ⟨by kernel_rfl⟩) fun ad186 cap187 w a hF hS => ?_)
   refine rn 1 10 [(9, pb b27), (10, sv ad28 y8 cap29), (11, sv ad55 y53.1 cap56), (14, iv x65), (15, sv ad114 l113 cap115), (16, sv ad166 l165 cap167), (17, sv ad173 l172 cap174), (83, sv ad173 l172 cap174), (84, iv x63), (91, sv ad186 l185 cap187), (92, iv x65)] hF fun a hF => ?_
   refine SK.wi (litK (e := 3) (sz := 1) (f := fI) (t := 40) (len := 1) (fun b188 => [(9, pb b27), (10, sv ad28 y8 cap29), (11, sv ad55 y53.1 cap56), (14, iv x65), (15, sv ad114 l113 cap115), (16, sv ad166 l165 cap167), (17, sv ad173 l172 cap174), (83, sv ad173 l172 cap174), (84, iv x63), (91, sv ad186 l185 cap187), (93, sb b188 1)]) #[(0, iv x65)] #[iv x65] ([x65]) hF hS (by kernel_rfl) ⟨by kernel_rfl⟩ (by kernel_rfl) fI_len rfl rfl (by kernel_rfl) (fun _ => ⟨by kernel_rfl⟩) fun b188 w a hF hS => ?_)
   replace h := bindS h
   obtain ⟨l189, hl189, h⟩ := h
   refine SK.wi (appK (t := 40) (ty := 40) (bytes := 8) (l := l185) (l' := ([x65])) (fun ad190 cap191 => [(9, pb b27), (10, sv ad28 y8 cap29), (11, sv ad55 y53.1 cap56), (14, iv x65), (15, sv ad114 l113 cap115), (16, sv ad166 l165 cap167), (17, sv ad173 l172 cap174), (83, sv ad173 l172 cap174), (84, iv x63), (94, sv ad190 l189 cap191)]) 1 hF hS rfl (by kernel_rfl) ⟨by kernel_rfl⟩ (by kernel_rfl) (hS.arr (i := 0) rfl) (fun _ _ => rfl) hl189 (fun _ _ => ⟨by kernel_rfl⟩) fun ad190 cap191 w a hF hS => ?_)
   replace h := bindS h
   obtain ⟨u192, hu192, h⟩ := h
   obtain ⟨cs193, hcs194, hR195⟩ := getI_all2 hq176 hu192
   obtain ⟨ad196, cap197, rfl, hA198⟩ := hR195
   refine rno 2 [.run [] (Instr.indexAt 60 (sv ad173 l172 cap174) (iv x63)) (.pointer (some (slAddr ad173 x63 2)))] 14 [(9, pb b27), (10, sv ad28 y8 cap29), (11, sv ad55 y53.1 cap56), (14, iv x65), (15, sv ad114 l113 cap115), (16, sv ad166 l165 cap167), (17, sv ad173 l172 cap174), (94, sv ad190 l189 cap191), (96, .pointer (some (slAddr ad173 x63 2)))] hF (ocons (obIdxQ (hS.arr (i := 2) rfl) (by kernel_rfl) (fun _ => hcs194)) onil) fun a hF => ?_
   obtain ⟨ν199, hx200, hlow, hS, hz201⟩ := hS.freeze (i := 7) (j := 1) rfl rfl (by decide) hlow
   replace hA3 := hA3.mono hx200.1
   replace hA51 := hA51.mono hx200.1
   replace hA58 := hA58.mono Rp65.mono hx200.1
   replace hA102 := hA102.mono Rp65.mono hx200.1
   replace hA106 := hA106.mono Rp65.mono hx200.1
   replace hq108 := All2.mono Rp65.mono hx200.1 hq108
   replace hq112 := All2.mono Rp65.mono hx200.1 hq112
   replace hq117 := All2.mono Rp65.mono hx200.1 hq117
   replace hA154 := hA154.mono Rp65.mono hx200.1
   replace hA158 := hA158.mono Rp65.mono hx200.1
   replace hq160 := All2.mono Rp65.mono hx200.1 hq160
   replace hq164 := All2.mono Rp65.mono hx200.1 hq164
   replace hq169 := All2.mono Rp65.mono hx200.1 hq169
   replace hq171 := All2.mono Rp65.mono hx200.1 hq171
   replace hq176 := All2.mono Rp65.mono hx200.1 hq176
   replace hA184 := hA184.mono hx200.1
   replace hA198 := hA198.mono hx200.1
   replace hext := Frz.ext_trans hext hx200
   replace hS : St w0 [arr 3 1 fI (some ⟨b188, 0, none⟩) ([x65]).length 1 ([x65]), arr 65 2 (fN 2) ad173 l172.length cap174 (([] : List (List Value)) ++ css57), arr 65 2 (fN 2) ad166 l165.length cap167 ((([] : List (List Value)) ++ css151) ++ css155), arr 65 2 (fN 2) ad114 l113.length cap115 ((([] : List (List Value)) ++ css99) ++ css103), blk b27 31 y6.ar, blk b4 75 #[.int .u8 p0.Rays, .int .u8 p0.Turn, .int .u8 p0.Move, .int .u8 p0.Duty, sv ad1 p0.Jobs cap2], fz w0 ν199] w := hS
   have hA202 := ArrM.of_arr hz201
   replace h := bindS h
   obtain ⟨l203, hl203, h⟩ := h
   refine SK.wi (setQK (j := x63) (t := 40) [(9, pb b27), (10, sv ad28 y8 cap29), (11, sv ad55 y53.1 cap56), (14, iv x65), (15, sv ad114 l113 cap115), (16, sv ad166 l165 cap167), (17, sv ad173 l172 cap174)] 1 0 [sv ad196 u192.Begin cap197, iv u192.Late] [sv ad190 l189 cap191, iv u192.Late] (plan_Cut.mk l189 u192.Late) (sv ad190 l189 cap191) (S := Rp65 ν199) hq176 ⟨ad190, cap191, rfl, hA202⟩ hF hS rfl (by kernel_rfl) ⟨by kernel_rfl⟩ (fN_len 2) hcs194 rfl (by kernel_rfl) (by kernel_rfl) (by kernel_rfl) hl203 ⟨by kernel_rfl⟩ fun css204 w a hF hl hq205 hS => ?_)
   simp only [sv, ln, hl] at hF hS
   refine wfn rfl ?_
   refine eseq ?_
   refine esr ?_
   replace h := bindS h
   obtain ⟨y206, hy206, h⟩ := h
   replace h := bindS h
   obtain ⟨y207, hy207, h⟩ := h
   replace h := bindS h
   obtain ⟨y208, hy208, h⟩ := h
   refine rx 24 [.run [] (Instr.loadAt 31 (pb b27)) (y6.ag), .call [] 31 #[y6.ag, sv ad28 y8 cap29, sv ad114 l113 cap115] (iv y206), .run [⟨102, false, (y206 != 20)⟩] (Instr.loadAt 31 (pb b27)) (y6.ag), .call [⟨102, false, (y206 != 20)⟩] 31 #[y6.ag, sv ad28 y8 cap29, sv ad166 l165 cap167] (iv y207), .run [⟨113, true, (decide ((ln y8) > 1))⟩, ⟨109, false, (bif (y206 != 20) then true else (y207 != 20))⟩] (Instr.loadAt 31 (pb b27)) (y6.ag), .call [⟨113, true, (decide ((ln y8) > 1))⟩, ⟨109, false, (bif (y206 != 20) then true else (y207 != 20))⟩] 31 #[y6.ag, sv ad28 y8 cap29, sv ad173 l203 cap174] (iv y208)] 24 [(9, pb b27), (10, sv ad28 y8 cap29), (11, sv ad55 y53.1 cap56), (14, iv x65), (120, .bool (bif (bif (y206 != 20) then true else (y207 != 20)) then true else (bif (decide ((ln y8) > 1)) then (y208 != 20) else false)))] hF (ocons (obN (us := y6.cells) (by kernel_rfl) (fun _ hd => ((hS.later hd).blk (i := 4) rfl).cells rfl)) (ocons (show Ob.ok _ Ext _ _ from fun hk w2 hd => plan_Verify_ok F y6 y8 l113 _ ((fun _ => hy206) hk) _ w2 (memOf_at w2) (hA51.mono (FrzAt.le_mem ((hS.later hd).frz (i := 6) rfl hlow))) (ArrQ.of_own ((hS.later hd).arr (i := 3) rfl) hq117 Rp65.mono (FrzAt.le_mem ((hS.later hd).frz (i := 6) rfl hlow)))) (ocons (obN (us := y6.cells) (by kernel_rfl) (fun _ hd => ((hS.later hd).blk (i := 4) rfl).cells rfl)) (ocons (show Ob.ok _ Ext _ _ from fun hk w2 hd => plan_Verify_ok F y6 y8 l165 _ ((fun hk => gd_some hy207 hk) hk) _ w2 (memOf_at w2) (hA51.mono (FrzAt.le_mem ((hS.later hd).frz (i := 6) rfl hlow))) (ArrQ.of_own ((hS.later hd).arr (i := 2) rfl) hq169 Rp65.mono (FrzAt.le_mem ((hS.later hd).frz (i := 6) rfl hlow)))) (ocons (obN (us := y6.cells) (by kernel_rfl) (fun _ hd => ((hS.later hd).blk (i := 4) rfl).cells rfl)) (ocons (show Ob.ok _ Ext _ _ from fun hk w2 hd => plan_Verify_ok F y6 y8 l203 _ ((fun hk => gd_some hy208 hk) hk) _ w2 (memOf_at w2) (hA51.mono (FrzAt.le_mem ((hS.later hd).frz (i := 6) rfl hlow))) (ArrQ.of_own ((hS.later hd).arr (i := 1) rfl) hq205 Rp65.mono (FrzAt.le_mem ((hS.later hd).frz (i := 6) rfl hlow)))) onil)))))) fun a w hF hx => ?_
   replace hS := hS.later hx
   refine wfn rfl ?_
   refine econd hF rfl (fun hc => ?_) (fun hc => ?_)
   ·replace h := bif_t h hc
    refine esr ?_
    refine rn 1 1 [(8, .bool false)] hF fun a hF => ?_
    refine wfn rfl ?_
    refine wpIn_ret (ret_then <| fn_ret [.tmp 8] [.bool false] hF rfl ⟨rfl, trivial⟩ ?_)
    have hr_ := Option.some.inj h
    subst hr_
    exact ⟨rfl, hS.ext⟩
   ·replace h := bif_f h hc
    refine wpIn_skip (norm_then ?_)
    refine esr ?_
    refine SK.wi (litK (e := 34) (sz := 8) (f := plan_Job.cells) (t := 43) (len := 0) (fun b209 => [(9, pb b27), (10, sv ad28 y8 cap29), (11, sv ad55 y53.1 cap56), (14, iv x65), (121, sb b209 0)]) #[] #[] ([] : List plan_Job) hF hS (by kernel_rfl) ⟨by kernel_rfl⟩ (by kernel_rfl) plan_Job.cells_len rfl rfl (by kernel_rfl) (fun _ => ⟨by kernel_rfl⟩) fun b209 w a hF hS => ?_)
    refine rn 1 2 [(9, pb b27), (11, sv ad55 y53.1 cap56), (14, iv x65), (121, sb b209 0), (122, sv ad28 y8 cap29)] hF fun a hF => ?_
    replace h := bindS h
    obtain ⟨l210, hl210, h⟩ := h
    refine SK.wi (appK (t := 43) (ty := 43) (bytes := 64) (l := ([] : List plan_Job)) (l' := y8) (fun ad211 cap212 => [(9, pb b27), (11, sv ad55 y53.1 cap56), (14, iv x65), (123, sv ad211 l210 cap212)]) 0 hF hS rfl (by kernel_rfl) ⟨by kernel_rfl⟩ (by kernel_rfl) (hA51 _ (hS.frz (i := 7) rfl hlow)) (fun _ _ => rfl) hl210 (fun _ _ => ⟨by kernel_rfl⟩) fun ad211 cap212 w a hF hS => ?_)
    refine rn 1 4 [(9, pb b27), (11, sv ad55 y53.1 cap56), (14, iv x65), (18, sv ad211 l210 cap212)] hF fun a hF => ?_
    refine wfn rfl ?_
    refine esr ?_
    replace h := bindS h
    obtain ⟨u213, hu213, h⟩ := h
    replace h := bindS h
    obtain ⟨x214, hx214, h⟩ := h
    replace h := bindS h
    obtain ⟨x215, hx215, h⟩ := h
    replace h := bindS h
    obtain ⟨x216, hx216, h⟩ := h
    replace h := bindS h
    obtain ⟨u217, hu217, h⟩ := h
    refine rno 12 [.run [] (Instr.indexAt 43 (sv ad211 l210 cap212) (iv x65)) (.pointer (some (slAddr ad211 x65 8))), .run [] (Instr.loadAt 3 (.pointer (some ((slAddr ad211 x65 8).add 7)))) (iv u213.Every), .run [] (binOp .sub 3 (iv u213.Every) (iv 1)) (iv x214), .run [] (binOp .quo 3 (iv x214) (iv 2)) (iv x215), .run [] (binOp .add 3 (iv 1) (iv x215)) (iv x216), .run [] (Instr.indexAt 43 (sv ad211 l210 cap212) (iv x65)) (.pointer (some (slAddr ad211 x65 8)))] 12 [(9, pb b27), (11, sv ad55 y53.1 cap56), (18, sv ad211 l210 cap212), (133, iv x216), (135, .pointer (some ((slAddr ad211 x65 8).add 7)))] hF (ocons (obIdxQ (hS.arr (i := 0) rfl) (by kernel_rfl) (fun _ => hu213)) (ocons (obElQ (i := x65) 7 plan_Job.cells_len (fun _ hd => ((hS.at_ hd).arr (i := 0) rfl)) (by kernel_rfl) (fun _ => hu213) rfl) (ocons (obSubC (fun _ => hx214)) (ocons (obQuoC (fun _ => hx215)) (ocons (obAddC (fun _ => hx216)) (ocons (obIdxQ (hS.arr (i := 0) rfl) (by kernel_rfl) (fun _ => hu217)) onil)))))) fun a hF => ?_
    replace h := bindS h
    obtain ⟨l218, hl218, h⟩ := h
    refine SK.wi (setK (j := x65) (t := 3) [(9, pb b27), (11, sv ad55 y53.1 cap56), (18, sv ad211 l210 cap212)] 0 7 u217 (plan_Job.mk u217.Tilt u217.Train u217.Width x216) (iv x216) hF hS rfl (by kernel_rfl) ⟨by kernel_rfl⟩ plan_Job.cells_len hu217 rfl (by kernel_rfl) (by kernel_rfl) (by kernel_rfl) hl218 ⟨by kernel_rfl⟩ fun w a hF hl hS => ?_)
    simp only [sv, ln, hl] at hF hS
    refine wfn rfl ?_
    refine esr ?_
    replace h := bindS h
    obtain ⟨y219, hy219, h⟩ := h
    replace h := bindS h
    obtain ⟨y220, hy220, h⟩ := h
    refine rx 9 [.run [] (Instr.loadAt 31 (pb b27)) (y6.ag), .call [] 31 #[y6.ag, sv ad211 l218 cap212, sv ad55 y53.1 cap56] (iv y219), .call [⟨141, true, (y219 == 0)⟩] 17 #[] (.bool y220)] 9 [(8, .bool (bif (y219 == 0) then y220 else false))] hF (ocons (obN (us := y6.cells) (by kernel_rfl) (fun _ hd => ((hS.later hd).blk (i := 5) rfl).cells rfl)) (ocons (show Ob.ok _ Ext _ _ from fun hk w2 hd => plan_Verify_ok F y6 l218 y53.1 _ ((fun _ => hy219) hk) _ w2 (memOf_at w2) (Arr.toM ((hS.later hd).arr (i := 0) rfl)) (hA58.mono Rp65.mono (FrzAt.le_mem ((hS.later hd).frz (i := 7) rfl hlow)))) (ocons (show Ob.ok _ Ext _ _ from fun hk w2 hd => law06_works_ok F  _ ((fun hk => gd_some hy220 hk) hk) _ w2 (memOf_at w2) ) onil))) fun a w hF hx => ?_
    replace hS := hS.later hx
    refine wfn rfl ?_
    refine wpIn_ret (fn_ret [.tmp 8] [.bool (bif (y219 == 0) then y220 else false)] hF rfl ⟨rfl, trivial⟩ ?_)
    have hr_ := Option.some.inj h
    subst hr_
    exact ⟨rfl, hS.ext⟩
end Go.Proofs.Ytejffembnkojjaa
