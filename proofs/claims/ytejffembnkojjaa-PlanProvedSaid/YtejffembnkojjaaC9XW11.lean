/- Walks, written by program (wip/gen/dec.py). -/
import Derived.Test.YtejffembnkojjaaC9XD
import Derived.Test.YtejffembnkojjaaProg
import Derived.Test.YtejffembnkojjaaC9XW0
import Derived.Test.YtejffembnkojjaaC9XW1
import Derived.Test.YtejffembnkojjaaC9XW6
import Derived.Test.YtejffembnkojjaaC9XW8
import Derived.Test.YtejffembnkojjaaC9XW9
import Derived.Test.YtejffembnkojjaaC9XW10
namespace Go.Proofs.Ytejffembnkojjaa
open Go Go.RowKit Go.Eng
set_option maxRecDepth 10000
set_option maxHeartbeats 4000000
set_option linter.unusedVariables false
set_option linter.unusedSimpArgs false
theorem law06_PlanProved_ok (F : Nat) (p0 : law06_Desk) (p1 : Int) (p2 : (List Int)) (res : Bool) (h : law06_PlanProved F p0 p1 p2 = some res) (μ : Frz) (w0 : World) (hm : FrzAt μ w0) {ad1 : Option Addr} {cap2 : Nat} {ad4 : Option Addr} {cap5 : Nat} (hA3 : ArrM μ 6 law06_Wish.cells ad1 cap2 p0.Jobs) (hA6 : ArrM μ 1 (fK .u8) ad4 cap5 p2) : Calls Try.prog 9 #[.agg #[.int .u8 p0.Rays, .int .u8 p0.Turn, .int .u8 p0.Move, .int .u8 p0.Duty, sv ad1 p0.Jobs cap2], .int .u8 p1, sv ad4 p2 cap5] w0 (fun e w => e = .returned (.bool res) ∧ Ext w0 w) := by
 obtain ⟨hlow, hS⟩ := hm.init
 have hext := Frz.ext_refl w0.heap.size μ
 rw [law06_PlanProved] at h
 refine fn_enterW Try.func9 rfl 129 [(0, .agg #[.int .u8 p0.Rays, .int .u8 p0.Turn, .int .u8 p0.Move, .int .u8 p0.Duty, sv ad1 p0.Jobs cap2]), (1, .int .u8 p1), (2, sv ad4 p2 cap5)] rfl rfl (by kernel_rfl) fun a w hw hF => ?_
 replace hS : St w0 [fz w0 μ] w := by rw [hw]; exact hS
 clear hw
 refine esr ?_
 refine SK.wi (boxK (t := 75) (fun b7 => [(1, .int .u8 p1), (2, sv ad4 p2 cap5), (3, pb b7)]) (.agg #[.int .u8 p0.Rays, .int .u8 p0.Turn, .int .u8 p0.Move, .int .u8 p0.Duty, sv ad1 p0.Jobs cap2]) #[.int .u8 p0.Rays, .int .u8 p0.Turn, .int .u8 p0.Move, .int .u8 p0.Duty, sv ad1 p0.Jobs cap2] hF hS (by kernel_rfl) ⟨by kernel_rfl⟩ (by kernel_rfl) (fun _ => ⟨by kernel_rfl⟩) fun b7 w a hF hS => ?_)
 refine rn 1 2 [(1, .int .u8 p1), (2, sv ad4 p2 cap5), (3, pb b7)] hF fun a hF => ?_
 refine wfn rfl ?_
 refine eseq ?_
 refine esr ?_
 refine rn 8 8 [(1, .int .u8 p1), (2, sv ad4 p2 cap5), (3, pb b7), (24, .bool (bif (decide ((ln p2) < 1)) then true else (decide ((ln p2) > 12))))] hF fun a hF => ?_
 refine wfn rfl ?_
 refine econd hF rfl (fun hc => ?_) (fun hc => ?_)
 ·replace h := bif_t h hc
  refine esr ?_
  replace h := bindS h
  obtain ⟨y8, hy8, h⟩ := h
  refine rx 2 [.call [] 17 #[] (.bool y8)] 2 [(6, .bool y8)] hF (ocons (show Ob.ok _ Ext _ _ from fun hk w2 hd => law06_works_ok F  _ ((fun _ => hy8) hk) _ w2 (memOf_at w2) ) onil) fun a w hF hx => ?_
  replace hS := hS.later hx
  refine wfn rfl ?_
  refine wpIn_ret (ret_then <| fn_ret [.tmp 6] [.bool y8] hF rfl ⟨rfl, trivial⟩ ?_)
  have hr_ := Option.some.inj h
  subst hr_
  exact ⟨rfl, hS.ext⟩
 ·replace h := bif_f h hc
  refine wpIn_skip (norm_then ?_)
  refine eseq ?_
  replace h := bindS h
  obtain ⟨y10, hy10, h⟩ := h
  replace h := bindS h
  obtain ⟨y12, hy12, h⟩ := h
  refine region_treeW 5 [1, 3, 4] (fun a w => ∃ (b31 : Nat) (ad32 : Option Addr) (cap33 : Nat), Fr 129 [] [(1, .int .u8 p1), (2, sv ad4 p2 cap5), (7, pb b31), (27, y10.ag), (29, sv ad32 y12 cap33)] a ∧ St w0 [blk b31 31 #[iv 0, iv 0, iv 0, iv 0], arr 34 8 plan_Job.cells ad32 y12.length cap33 y12, blk b7 75 #[.int .u8 p0.Rays, .int .u8 p0.Turn, .int .u8 p0.Move, .int .u8 p0.Duty, sv ad1 p0.Jobs cap2], fz w0 μ] w) (D := fun w => St w0 [blk b7 75 #[.int .u8 p0.Rays, .int .u8 p0.Turn, .int .u8 p0.Move, .int .u8 p0.Duty, sv ad1 p0.Jobs cap2]] w ∧ FrzAt μ w) (by kernel_rfl) (by kernel_rfl) hF.size (fun w hx => ?_) ?_
  ·skip
   replace hS := hS.later hx
   refine ⟨⟨St.pick [0] (by decide) hS, hS.frz (i := 1) rfl hlow⟩, ?_⟩
   have hcl34 := Frz.le_refl μ
   refine WT.s [0, 2] [1, 4] (by kernel_rfl) (by kernel_rfl) ?_
   refine runC (rest := []) (obs := [.run [] (Instr.loadAt 75 (pb b7)) (.agg #[.int .u8 p0.Rays, .int .u8 p0.Turn, .int .u8 p0.Move, .int .u8 p0.Duty, sv ad1 p0.Jobs cap2]), .run [] (Instr.loadAt 75 (pb b7)) (.agg #[.int .u8 p0.Rays, .int .u8 p0.Turn, .int .u8 p0.Move, .int .u8 p0.Duty, sv ad1 p0.Jobs cap2])]) [0, 2] [(1, .int .u8 p1), (2, sv ad4 p2 cap5), (26, .agg #[.int .u8 p0.Rays, .int .u8 p0.Turn, .int .u8 p0.Move, .int .u8 p0.Duty, sv ad1 p0.Jobs cap2]), (28, .agg #[.int .u8 p0.Rays, .int .u8 p0.Turn, .int .u8 p0.Move, .int .u8 p0.Duty, sv ad1 p0.Jobs cap2])] hF (by kernel_rfl) (by kernel_rfl) (ocons (obN (us := [.int .u8 p0.Rays, .int .u8 p0.Turn, .int .u8 p0.Move, .int .u8 p0.Duty, sv ad1 p0.Jobs cap2]) (by kernel_rfl) (fun _ hd => (hd.1.blk (i := 0) rfl).cells rfl)) (ocons (obN (us := [.int .u8 p0.Rays, .int .u8 p0.Turn, .int .u8 p0.Move, .int .u8 p0.Duty, sv ad1 p0.Jobs cap2]) (by kernel_rfl) (fun _ hd => (hd.1.blk (i := 0) rfl).cells rfl)) onil)) ⟨by kernel_rfl⟩ fun a hF => ?_
   refine WRun.fin ?_
   refine all_cons ?_ (all_cons ?_ (all_nil))
   ·skip
    refine callK (f := 36) (args := #[.agg #[.int .u8 p0.Rays, .int .u8 p0.Turn, .int .u8 p0.Move, .int .u8 p0.Duty, sv ad1 p0.Jobs cap2]]) (R := fun v w2 => v = y10.ag ∧ Ext w w2) (fun v35 => [(1, .int .u8 p1), (2, sv ad4 p2 cap5), (27, v35), (28, .agg #[.int .u8 p0.Rays, .int .u8 p0.Turn, .int .u8 p0.Move, .int .u8 p0.Duty, sv ad1 p0.Jobs cap2])]) hF (by kernel_rfl) ⟨by kernel_rfl⟩ (Calls.mono (law06_Desk_radar_ok F p0 _ hy10 (memOf w) w (memOf_at w) (hA3.mono (FrzAt.le_mem (hS.frz (i := 1) rfl hlow)))) (fun e w2 h => ⟨_, h.1, rfl, h.2⟩)) (fun _ => ⟨by kernel_rfl⟩) ?_
    rintro v35 w a ⟨rfl, hx⟩ hF
    replace hS := hS.later hx
    refine ⟨⟨St.pick [0] (by decide) hS, (hS.frz (i := 1) rfl hlow)⟩, ?_⟩
    refine WT.s [] [3, 4] (by kernel_rfl) (by kernel_rfl) ?_
    refine WRun.fin ?_
    refine all_cons ?_ (all_cons ?_ (all_nil))
    ·skip
     refine callK (f := 37) (args := #[.agg #[.int .u8 p0.Rays, .int .u8 p0.Turn, .int .u8 p0.Move, .int .u8 p0.Duty, sv ad1 p0.Jobs cap2]]) (R := fun v w2 => ∃ ad37 cap38, v = sv ad37 y12 cap38 ∧ St w [arr 34 8 plan_Job.cells ad37 y12.length cap38 y12] w2) (fun v36 => [(1, .int .u8 p1), (2, sv ad4 p2 cap5), (27, y10.ag), (29, v36)]) hF (by kernel_rfl) ⟨by kernel_rfl⟩ (Calls.mono (law06_Desk_jobs_ok F p0 _ hy12 (memOf w) w (memOf_at w) (hA3.mono (FrzAt.le_mem (hS.frz (i := 1) rfl hlow)))) (by rintro e w2 ⟨ad37, cap38, rfl, h⟩; exact ⟨_, rfl, ad37, cap38, rfl, h⟩)) (fun _ => ⟨by kernel_rfl⟩) ?_
     rintro v36 w a ⟨ad37, cap38, rfl, hQ⟩ hF
     replace hS : St w0 [arr 34 8 plan_Job.cells ad37 y12.length cap38 y12, blk b7 75 #[.int .u8 p0.Rays, .int .u8 p0.Turn, .int .u8 p0.Move, .int .u8 p0.Duty, sv ad1 p0.Jobs cap2], fz w0 μ] w := hS.madeL hQ
     refine ⟨⟨St.pick [1] (by decide) hS, (hS.frz (i := 2) rfl hlow)⟩, ?_⟩
     refine WT.s [] [4] (by kernel_rfl) (by kernel_rfl) ?_
     refine WRun.fin ?_
     refine all_cons ?_ (all_nil)
     refine allocK (t := 31) (fun b39 => [(1, .int .u8 p1), (2, sv ad4 p2 cap5), (7, pb b39), (27, y10.ag), (29, sv ad37 y12 cap38)]) #[iv 0, iv 0, iv 0, iv 0] hF hS (by kernel_rfl) ⟨by kernel_rfl⟩ (by kernel_rfl) (fun _ => ⟨by kernel_rfl⟩) fun b39 w a hF hS => ⟨⟨St.pick [2] (by decide) hS, (hS.frz (i := 3) rfl hlow)⟩, ?_⟩
     refine WT.z [] (by kernel_rfl) ?_
     refine WRun.fin ?_
     exact ⟨b39, ad37, cap38, hF.sub (by kernel_rfl), St.pick [0, 1, 2, 3] (by decide) hS⟩
    ·skip
     refine allocK (t := 31) (fun b40 => [(1, .int .u8 p1), (2, sv ad4 p2 cap5), (7, pb b40), (27, y10.ag), (28, .agg #[.int .u8 p0.Rays, .int .u8 p0.Turn, .int .u8 p0.Move, .int .u8 p0.Duty, sv ad1 p0.Jobs cap2])]) #[iv 0, iv 0, iv 0, iv 0] hF hS (by kernel_rfl) ⟨by kernel_rfl⟩ (by kernel_rfl) (fun _ => ⟨by kernel_rfl⟩) fun b40 w a hF hS => ⟨⟨St.pick [1] (by decide) hS, (hS.frz (i := 2) rfl hlow)⟩, ?_⟩
     refine WT.s [] [3] (by kernel_rfl) (by kernel_rfl) ?_
     refine WRun.fin ?_
     refine all_cons ?_ (all_nil)
     refine callK (f := 37) (args := #[.agg #[.int .u8 p0.Rays, .int .u8 p0.Turn, .int .u8 p0.Move, .int .u8 p0.Duty, sv ad1 p0.Jobs cap2]]) (R := fun v w2 => ∃ ad42 cap43, v = sv ad42 y12 cap43 ∧ St w [arr 34 8 plan_Job.cells ad42 y12.length cap43 y12] w2) (fun v41 => [(1, .int .u8 p1), (2, sv ad4 p2 cap5), (7, pb b40), (27, y10.ag), (29, v41)]) hF (by kernel_rfl) ⟨by kernel_rfl⟩ (Calls.mono (law06_Desk_jobs_ok F p0 _ hy12 (memOf w) w (memOf_at w) (hA3.mono (FrzAt.le_mem (hS.frz (i := 2) rfl hlow)))) (by rintro e w2 ⟨ad42, cap43, rfl, h⟩; exact ⟨_, rfl, ad42, cap43, rfl, h⟩)) (fun _ => ⟨by kernel_rfl⟩) ?_
     rintro v41 w a ⟨ad42, cap43, rfl, hQ⟩ hF
     replace hS : St w0 [arr 34 8 plan_Job.cells ad42 y12.length cap43 y12, blk b40 31 #[iv 0, iv 0, iv 0, iv 0], blk b7 75 #[.int .u8 p0.Rays, .int .u8 p0.Turn, .int .u8 p0.Move, .int .u8 p0.Duty, sv ad1 p0.Jobs cap2], fz w0 μ] w := hS.madeL hQ
     refine ⟨⟨St.pick [2] (by decide) hS, (hS.frz (i := 3) rfl hlow)⟩, ?_⟩
     refine WT.z [] (by kernel_rfl) ?_
     refine WRun.fin ?_
     exact ⟨b40, ad42, cap43, hF.sub (by kernel_rfl), St.pick [1, 0, 2, 3] (by decide) hS⟩
   ·skip
    refine allocK (t := 31) (fun b44 => [(1, .int .u8 p1), (2, sv ad4 p2 cap5), (7, pb b44), (26, .agg #[.int .u8 p0.Rays, .int .u8 p0.Turn, .int .u8 p0.Move, .int .u8 p0.Duty, sv ad1 p0.Jobs cap2]), (28, .agg #[.int .u8 p0.Rays, .int .u8 p0.Turn, .int .u8 p0.Move, .int .u8 p0.Duty, sv ad1 p0.Jobs cap2])]) #[iv 0, iv 0, iv 0, iv 0] hF hS (by kernel_rfl) ⟨by kernel_rfl⟩ (by kernel_rfl) (fun _ => ⟨by kernel_rfl⟩) fun b44 w a hF hS => ⟨⟨St.pick [1] (by decide) hS, (hS.frz (i := 2) rfl hlow)⟩, ?_⟩
    refine WT.s [] [1] (by kernel_rfl) (by kernel_rfl) ?_
    refine WRun.fin ?_
    refine all_cons ?_ (all_nil)
    refine callK (f := 36) (args := #[.agg #[.int .u8 p0.Rays, .int .u8 p0.Turn, .int .u8 p0.Move, .int .u8 p0.Duty, sv ad1 p0.Jobs cap2]]) (R := fun v w2 => v = y10.ag ∧ Ext w w2) (fun v45 => [(1, .int .u8 p1), (2, sv ad4 p2 cap5), (7, pb b44), (27, v45), (28, .agg #[.int .u8 p0.Rays, .int .u8 p0.Turn, .int .u8 p0.Move, .int .u8 p0.Duty, sv ad1 p0.Jobs cap2])]) hF (by kernel_rfl) ⟨by kernel_rfl⟩ (Calls.mono (law06_Desk_radar_ok F p0 _ hy10 (memOf w) w (memOf_at w) (hA3.mono (FrzAt.le_mem (hS.frz (i := 2) rfl hlow)))) (fun e w2 h => ⟨_, h.1, rfl, h.2⟩)) (fun _ => ⟨by kernel_rfl⟩) ?_
    rintro v45 w a ⟨rfl, hx⟩ hF
    replace hS := hS.later hx
    refine ⟨⟨St.pick [1] (by decide) hS, (hS.frz (i := 2) rfl hlow)⟩, ?_⟩
    refine WT.s [] [3] (by kernel_rfl) (by kernel_rfl) ?_
    refine WRun.fin ?_
    refine all_cons ?_ (all_nil)
    refine callK (f := 37) (args := #[.agg #[.int .u8 p0.Rays, .int .u8 p0.Turn, .int .u8 p0.Move, .int .u8 p0.Duty, sv ad1 p0.Jobs cap2]]) (R := fun v w2 => ∃ ad47 cap48, v = sv ad47 y12 cap48 ∧ St w [arr 34 8 plan_Job.cells ad47 y12.length cap48 y12] w2) (fun v46 => [(1, .int .u8 p1), (2, sv ad4 p2 cap5), (7, pb b44), (27, y10.ag), (29, v46)]) hF (by kernel_rfl) ⟨by kernel_rfl⟩ (Calls.mono (law06_Desk_jobs_ok F p0 _ hy12 (memOf w) w (memOf_at w) (hA3.mono (FrzAt.le_mem (hS.frz (i := 2) rfl hlow)))) (by rintro e w2 ⟨ad47, cap48, rfl, h⟩; exact ⟨_, rfl, ad47, cap48, rfl, h⟩)) (fun _ => ⟨by kernel_rfl⟩) ?_
    rintro v46 w a ⟨ad47, cap48, rfl, hQ⟩ hF
    replace hS : St w0 [arr 34 8 plan_Job.cells ad47 y12.length cap48 y12, blk b44 31 #[iv 0, iv 0, iv 0, iv 0], blk b7 75 #[.int .u8 p0.Rays, .int .u8 p0.Turn, .int .u8 p0.Move, .int .u8 p0.Duty, sv ad1 p0.Jobs cap2], fz w0 μ] w := hS.madeL hQ
    refine ⟨⟨St.pick [2] (by decide) hS, (hS.frz (i := 3) rfl hlow)⟩, ?_⟩
    refine WT.z [] (by kernel_rfl) ?_
    refine WRun.fin ?_
    exact ⟨b44, ad47, cap48, hF.sub (by kernel_rfl), St.pick [1, 0, 2, 3] (by decide) hS⟩
  rintro a w ⟨b31, ad32, cap33, hF, hS⟩
  refine SK.wi (storeK (t := 31) [(1, .int .u8 p1), (2, sv ad4 p2 cap5), (7, pb b31), (29, sv ad32 y12 cap33)] 0 0 (y10.ag) y10.ar hF hS rfl (by kernel_rfl) ⟨by kernel_rfl⟩ (by kernel_rfl) (by kernel_rfl) (by kernel_rfl) (by kernel_rfl) ⟨by kernel_rfl⟩ fun w a hF hS => ?_)
  refine rn 1 7 [(1, .int .u8 p1), (2, sv ad4 p2 cap5), (7, pb b31), (8, sv ad32 y12 cap33)] hF fun a hF => ?_
  refine wfn rfl ?_
  refine esr ?_
  replace h := bindS h
  obtain ⟨x49, hx49, h⟩ := h
  replace h := bindS h
  obtain ⟨x50, hx50, h⟩ := h
  replace h := bindS h
  obtain ⟨x51, hx51, h⟩ := h
  refine rno 5 [.run [] (convert 5 3 (.int .u8 p1)) (iv x49), .run [] (binOp .rem 3 (iv x49) (iv 4)) (iv x50), .run [] (binOp .add 3 (iv 1) (iv x50)) (iv x51)] 5 [(2, sv ad4 p2 cap5), (7, pb b31), (8, sv ad32 y12 cap33), (9, iv x51)] hF (ocons (obConvC (by kernel_rfl) (by kernel_rfl) (fun _ => hx49)) (ocons (obRemC (fun _ => hx50)) (ocons (obAddC (fun _ => hx51)) onil))) fun a hF => ?_
  refine wfn rfl ?_
  refine esr ?_
  refine rn 3 3 [(7, pb b31), (8, sv ad32 y12 cap33), (9, iv x51), (34, sv ad4 p2 cap5), (36, iv (ln y12))] hF fun a hF => ?_
  replace h := bindS h
  obtain ⟨y53, hy53, h⟩ := h
  refine SK.wi (callK (f := 38) (args := #[sv ad4 p2 cap5, iv (ln y12)]) (R := fun v w2 => ∃ ad54 cap55, v = sv ad54 y53 cap55 ∧ St w [arr 3 1 fI ad54 y53.length cap55 y53] w2) (fun v52 => [(7, pb b31), (8, sv ad32 y12 cap33), (9, iv x51), (37, v52)]) hF (by kernel_rfl) ⟨by kernel_rfl⟩ (Calls.mono (law06_entries_ok F p2 (ln y12) _ hy53 (memOf w) w (memOf_at w) (hA6.mono (FrzAt.le_mem (hS.frz (i := 3) rfl hlow)))) (by rintro e w2 ⟨ad54, cap55, rfl, h⟩; exact ⟨_, rfl, ad54, cap55, rfl, h⟩)) (fun _ => ⟨by kernel_rfl⟩) ?_)
  rintro v52 w a ⟨ad54, cap55, rfl, hQ⟩ hF
  replace hS : St w0 [arr 3 1 fI ad54 y53.length cap55 y53, blk b31 31 y10.ar, arr 34 8 plan_Job.cells ad32 y12.length cap33 y12, blk b7 75 #[.int .u8 p0.Rays, .int .u8 p0.Turn, .int .u8 p0.Move, .int .u8 p0.Duty, sv ad1 p0.Jobs cap2], fz w0 μ] w := hS.madeL hQ
  refine rn 1 5 [(7, pb b31), (8, sv ad32 y12 cap33), (9, iv x51), (10, sv ad54 y53 cap55)] hF fun a hF => ?_
  refine wfn rfl ?_
  refine esr ?_
  refine rno 3 [.run [] (Instr.loadAt 31 (pb b31)) (y10.ag)] 3 [(7, pb b31), (8, sv ad32 y12 cap33), (9, iv x51), (10, sv ad54 y53 cap55), (39, y10.ag), (40, sv ad32 y12 cap33), (41, iv x51)] hF (ocons (obN (us := y10.cells) (by kernel_rfl) (fun _ hd => ((hS.at_ hd).blk (i := 1) rfl).cells rfl)) onil) fun a hF => ?_
  obtain ⟨ν56, hx57, hlow, hS, hz58⟩ := hS.freeze (i := 4) (j := 2) rfl rfl (by decide) hlow
  replace hA3 := hA3.mono hx57.1
  replace hA6 := hA6.mono hx57.1
  replace hext := Frz.ext_trans hext hx57
  replace hS : St w0 [arr 3 1 fI ad54 y53.length cap55 y53, blk b31 31 y10.ar, blk b7 75 #[.int .u8 p0.Rays, .int .u8 p0.Turn, .int .u8 p0.Move, .int .u8 p0.Duty, sv ad1 p0.Jobs cap2], fz w0 ν56] w := hS
  have hA59 := ArrM.of_arr hz58
  replace h := bindS h
  obtain ⟨y61, hy61, h⟩ := h
  refine SK.wi (callK (f := 27) (args := #[y10.ag, sv ad32 y12 cap33, iv x51]) (R := fun v w2 => ∃ ν62 ad63 cap64, ν56.ext w.heap.size ν62 ∧ v = .tuple #[sv ad63 y61.1 cap64, iv y61.2] ∧ ArrM ν62 1 fI ad63 cap64 y61.1 ∧ St w [frzR w.heap.size ν62] w2) (fun v60 => [(7, pb b31), (8, sv ad32 y12 cap33), (9, iv x51), (10, sv ad54 y53 cap55), (42, v60)]) hF (by kernel_rfl) ⟨by kernel_rfl⟩ (Calls.mono (plan_Best_ok F y10 y12 x51 _ hy61 ν56 w (hS.frz (i := 3) rfl hlow) hA59) (by rintro e w2 ⟨ν62, ad63, cap64, hx66, rfl, hA65, h⟩; exact ⟨_, rfl, ν62, ad63, cap64, hx66, rfl, hA65, h⟩)) (fun _ => ⟨by kernel_rfl⟩) ?_)
  rintro v60 w a ⟨ν62, ad63, cap64, hx66, rfl, hA65, hQ⟩ hF
  replace hext := Frz.ext_trans hext (Frz.ext_mono hx66 hS.ext.size)
  obtain ⟨hlow, hS⟩ := hS.frzMerge (i := 3) rfl hlow hx66 hQ
  replace hA3 := hA3.mono hx66.1
  replace hA6 := hA6.mono hx66.1
  replace hA59 := hA59.mono hx66.1
  replace hS : St w0 [arr 3 1 fI ad54 y53.length cap55 y53, blk b31 31 y10.ar, blk b7 75 #[.int .u8 p0.Rays, .int .u8 p0.Turn, .int .u8 p0.Move, .int .u8 p0.Duty, sv ad1 p0.Jobs cap2], fz w0 ν62] w := hS
  refine rn 5 9 [(7, pb b31), (8, sv ad32 y12 cap33), (9, iv x51), (10, sv ad54 y53 cap55), (11, sv ad63 y61.1 cap64), (12, iv y61.2)] hF fun a hF => ?_
  refine wfn rfl ?_
  refine esr ?_
  refine rno 3 [.run [] (Instr.loadAt 31 (pb b31)) (y10.ag)] 3 [(7, pb b31), (8, sv ad32 y12 cap33), (9, iv x51), (10, sv ad54 y53 cap55), (11, sv ad63 y61.1 cap64), (12, iv y61.2), (46, y10.ag), (47, sv ad32 y12 cap33), (48, iv x51)] hF (ocons (obN (us := y10.cells) (by kernel_rfl) (fun _ hd => ((hS.at_ hd).blk (i := 1) rfl).cells rfl)) onil) fun a hF => ?_
  replace h := bindS h
  obtain ⟨y68, hy68, h⟩ := h
  refine SK.wi (callK (f := 29) (args := #[y10.ag, sv ad32 y12 cap33, iv x51]) (R := fun v w2 => ∃ ν69 ad70 cap71 css72, ν62.ext w.heap.size ν69 ∧ v = .tuple #[sv ad70 y68.1 cap71, iv y68.2] ∧ ArrQ ν69 2 Rp65 ad70 cap71 css72 y68.1 ∧ St w [frzR w.heap.size ν69] w2) (fun v67 => [(7, pb b31), (8, sv ad32 y12 cap33), (9, iv x51), (10, sv ad54 y53 cap55), (11, sv ad63 y61.1 cap64), (12, iv y61.2), (49, v67)]) hF (by kernel_rfl) ⟨by kernel_rfl⟩ (Calls.mono (plan_Refute_ok F y10 y12 x51 _ hy68 ν62 w (hS.frz (i := 3) rfl hlow) hA59) (by rintro e w2 ⟨ν69, ad70, cap71, css72, hx74, rfl, hA73, h⟩; exact ⟨_, rfl, ν69, ad70, cap71, css72, hx74, rfl, hA73, h⟩)) (fun _ => ⟨by kernel_rfl⟩) ?_)
  rintro v67 w a ⟨ν69, ad70, cap71, css72, hx74, rfl, hA73, hQ⟩ hF
  replace hext := Frz.ext_trans hext (Frz.ext_mono hx74 hS.ext.size)
  obtain ⟨hlow, hS⟩ := hS.frzMerge (i := 3) rfl hlow hx74 hQ
  replace hA3 := hA3.mono hx74.1
  replace hA6 := hA6.mono hx74.1
  replace hA59 := hA59.mono hx74.1
  replace hA65 := hA65.mono hx74.1
  replace hS : St w0 [arr 3 1 fI ad54 y53.length cap55 y53, blk b31 31 y10.ar, blk b7 75 #[.int .u8 p0.Rays, .int .u8 p0.Turn, .int .u8 p0.Move, .int .u8 p0.Duty, sv ad1 p0.Jobs cap2], fz w0 ν69] w := hS
  refine rn 5 9 [(7, pb b31), (8, sv ad32 y12 cap33), (9, iv x51), (10, sv ad54 y53 cap55), (11, sv ad63 y61.1 cap64), (12, iv y61.2), (13, sv ad70 y68.1 cap71), (14, iv y68.2)] hF fun a hF => ?_
  refine wfn rfl ?_
  refine eseq ?_
  refine esr ?_
  refine rn 2 2 [(7, pb b31), (8, sv ad32 y12 cap33), (9, iv x51), (10, sv ad54 y53 cap55), (11, sv ad63 y61.1 cap64), (12, iv y61.2), (13, sv ad70 y68.1 cap71), (14, iv y68.2), (53, .bool (y61.2 == 0))] hF fun a hF => ?_
  refine wfn rfl ?_
  refine econd hF rfl (fun hc => ?_) (fun hc => ?_)
  ·replace h := bif_t h hc
   refine esr ?_
   replace h := bindS h
   obtain ⟨x75, hx75, h⟩ := h
   refine rno 4 [.run [] (Instr.loadAt 31 (pb b31)) (y10.ag), .run [] (binOp .add 3 (iv x51) (iv 1)) (iv x75)] 4 [(7, pb b31), (8, sv ad32 y12 cap33), (9, iv x51), (11, sv ad63 y61.1 cap64), (14, iv y68.2), (55, y10.ag), (56, sv ad32 y12 cap33), (58, iv x75)] hF (ocons (obN (us := y10.cells) (by kernel_rfl) (fun _ hd => ((hS.at_ hd).blk (i := 1) rfl).cells rfl)) (ocons (obAddC (fun _ => hx75)) onil)) fun a hF => ?_
   replace h := bindS h
   obtain ⟨y77, hy77, h⟩ := h
   refine SK.wi (callK (f := 27) (args := #[y10.ag, sv ad32 y12 cap33, iv x75]) (R := fun v w2 => ∃ ν78 ad79 cap80, ν69.ext w.heap.size ν78 ∧ v = .tuple #[sv ad79 y77.1 cap80, iv y77.2] ∧ ArrM ν78 1 fI ad79 cap80 y77.1 ∧ St w [frzR w.heap.size ν78] w2) (fun v76 => [(7, pb b31), (8, sv ad32 y12 cap33), (9, iv x51), (11, sv ad63 y61.1 cap64), (14, iv y68.2), (59, v76)]) hF (by kernel_rfl) ⟨by kernel_rfl⟩ (Calls.mono (plan_Best_ok F y10 y12 x75 _ hy77 ν69 w (hS.frz (i := 3) rfl hlow) hA59) (by rintro e w2 ⟨ν78, ad79, cap80, hx82, rfl, hA81, h⟩; exact ⟨_, rfl, ν78, ad79, cap80, hx82, rfl, hA81, h⟩)) (fun _ => ⟨by kernel_rfl⟩) ?_)
   rintro v76 w a ⟨ν78, ad79, cap80, hx82, rfl, hA81, hQ⟩ hF
   replace hext := Frz.ext_trans hext (Frz.ext_mono hx82 hS.ext.size)
   obtain ⟨hlow, hS⟩ := hS.frzMerge (i := 3) rfl hlow hx82 hQ
   replace hA3 := hA3.mono hx82.1
   replace hA6 := hA6.mono hx82.1
   replace hA59 := hA59.mono hx82.1
   replace hA65 := hA65.mono hx82.1
   replace hA73 := hA73.mono Rp65.mono hx82.1
   replace hS : St w0 [arr 3 1 fI ad54 y53.length cap55 y53, blk b31 31 y10.ar, blk b7 75 #[.int .u8 p0.Rays, .int .u8 p0.Turn, .int .u8 p0.Move, .int .u8 p0.Duty, sv ad1 p0.Jobs cap2], fz w0 ν78] w := hS
   refine rn 5 10 [(7, pb b31), (8, sv ad32 y12 cap33), (9, iv x51), (11, sv ad63 y61.1 cap64), (14, iv y68.2), (15, sv ad79 y77.1 cap80), (16, iv y77.2)] hF fun a hF => ?_
   refine wfn rfl ?_
   refine esr ?_
   replace h := bindS h
   obtain ⟨y83, hy83, h⟩ := h
   replace h := bindS h
   obtain ⟨y84, hy84, h⟩ := h
   replace h := bindS h
   obtain ⟨y85, hy85, h⟩ := h
   refine rx 27 [.run [⟨66, true, (decide ((ln y61.1) ≤ x51))⟩] (Instr.loadAt 31 (pb b31)) (y10.ag), .call [⟨66, true, (decide ((ln y61.1) ≤ x51))⟩] 41 #[y10.ag, sv ad32 y12 cap33, sv ad63 y61.1 cap64] (.bool y83), .call [⟨80, true, (bif (bif (bif (decide ((ln y61.1) ≤ x51)) then y83 else false) then (y68.2 == 4) else false) then (y77.2 == 0) else false)⟩] 21 #[sv ad63 y61.1 cap64, sv ad79 y77.1 cap80] (.bool y84), .call [⟨85, true, (bif (bif (bif (bif (decide ((ln y61.1) ≤ x51)) then y83 else false) then (y68.2 == 4) else false) then (y77.2 == 0) else false) then y84 else false)⟩] 17 #[] (.bool y85)] 27 [(6, .bool (bif (bif (bif (bif (bif (decide ((ln y61.1) ≤ x51)) then y83 else false) then (y68.2 == 4) else false) then (y77.2 == 0) else false) then y84 else false) then y85 else false))] hF (ocons (obN (us := y10.cells) (by kernel_rfl) (fun _ hd => ((hS.later hd).blk (i := 1) rfl).cells rfl)) (ocons (show Ob.ok _ Ext _ _ from fun hk w2 hd => law06_kept_ok F y10 y12 y61.1 _ ((fun hk => gd_some hy83 hk) hk) _ w2 (memOf_at w2) (hA59.mono (FrzAt.le_mem ((hS.later hd).frz (i := 3) rfl hlow))) (hA65.mono (FrzAt.le_mem ((hS.later hd).frz (i := 3) rfl hlow)))) (ocons (show Ob.ok _ Ext _ _ from fun hk w2 hd => law06_numbers_ok F y61.1 y77.1 _ ((fun hk => gd_some hy84 hk) hk) _ w2 (memOf_at w2) (hA65.mono (FrzAt.le_mem ((hS.later hd).frz (i := 3) rfl hlow))) (hA81.mono (FrzAt.le_mem ((hS.later hd).frz (i := 3) rfl hlow)))) (ocons (show Ob.ok _ Ext _ _ from fun hk w2 hd => law06_works_ok F  _ ((fun hk => gd_some hy85 hk) hk) _ w2 (memOf_at w2) ) onil)))) fun a w hF hx => ?_
   replace hS := hS.later hx
   refine wfn rfl ?_
   refine wpIn_ret (ret_then <| fn_ret [.tmp 6] [.bool (bif (bif (bif (bif (bif (decide ((ln y61.1) ≤ x51)) then y83 else false) then (y68.2 == 4) else false) then (y77.2 == 0) else false) then y84 else false) then y85 else false)] hF rfl ⟨rfl, trivial⟩ ?_)
   have hr_ := Option.some.inj h
   subst hr_
   exact ⟨rfl, hS.ext⟩
  ·replace h := bif_f h hc
   refine wpIn_skip (norm_then ?_)
   refine eseq ?_
   refine esr ?_
   replace h := bindS h
   obtain ⟨y86, hy86, h⟩ := h
   refine rx 14 [.run [⟨95, true, (decide ((ln y53) ≤ x51))⟩, ⟨90, false, (y61.2 != 4)⟩] (Instr.loadAt 31 (pb b31)) (y10.ag), .call [⟨95, true, (decide ((ln y53) ≤ x51))⟩, ⟨90, false, (y61.2 != 4)⟩] 41 #[y10.ag, sv ad32 y12 cap33, sv ad54 y53 cap55] (.bool y86)] 14 [(7, pb b31), (8, sv ad32 y12 cap33), (10, sv ad54 y53 cap55), (13, sv ad70 y68.1 cap71), (14, iv y68.2), (101, .bool (bif (y61.2 != 4) then true else (bif (decide ((ln y53) ≤ x51)) then y86 else false)))] hF (ocons (obN (us := y10.cells) (by kernel_rfl) (fun _ hd => ((hS.later hd).blk (i := 1) rfl).cells rfl)) (ocons (show Ob.ok _ Ext _ _ from fun hk w2 hd => law06_kept_ok F y10 y12 y53 _ ((fun hk => gd_some hy86 hk) hk) _ w2 (memOf_at w2) (hA59.mono (FrzAt.le_mem ((hS.later hd).frz (i := 3) rfl hlow))) (Arr.toM ((hS.later hd).arr (i := 0) rfl))) onil)) fun a w hF hx => ?_
   replace hS := hS.later hx
   refine wfn rfl ?_
   refine econd hF rfl (fun hc => ?_) (fun hc => ?_)
   ·replace h := bif_t h hc
    refine esr ?_
    refine rn 1 1 [(6, .bool false)] hF fun a hF => ?_
    refine wfn rfl ?_
    refine wpIn_ret (ret_then <| fn_ret [.tmp 6] [.bool false] hF rfl ⟨rfl, trivial⟩ ?_)
    have hr_ := Option.some.inj h
    subst hr_
    exact ⟨rfl, hS.ext⟩
   ·replace h := bif_f h hc
    refine wpIn_skip (norm_then ?_)
    refine eseq ?_
    refine esr ?_
    refine rn 2 2 [(7, pb b31), (8, sv ad32 y12 cap33), (10, sv ad54 y53 cap55), (13, sv ad70 y68.1 cap71), (14, iv y68.2), (103, .bool (y68.2 == 4))] hF fun a hF => ?_
    refine wfn rfl ?_
    refine econd hF rfl (fun hc => ?_) (fun hc => ?_)
    ·replace h := bif_t h hc
     refine esr ?_
     replace h := bindS h
     obtain ⟨y87, hy87, h⟩ := h
     refine rx 7 [.call [⟨107, true, ((ln y68.1) == 0)⟩] 17 #[] (.bool y87)] 7 [(6, .bool (bif ((ln y68.1) == 0) then y87 else false))] hF (ocons (show Ob.ok _ Ext _ _ from fun hk w2 hd => law06_works_ok F  _ ((fun hk => gd_some hy87 hk) hk) _ w2 (memOf_at w2) ) onil) fun a w hF hx => ?_
     replace hS := hS.later hx
     refine wfn rfl ?_
     refine wpIn_ret (ret_then <| fn_ret [.tmp 6] [.bool (bif ((ln y68.1) == 0) then y87 else false)] hF rfl ⟨rfl, trivial⟩ ?_)
     have hr_ := Option.some.inj h
     subst hr_
     exact ⟨rfl, hS.ext⟩
    ·replace h := bif_f h hc
     refine wpIn_skip (norm_then ?_)
     refine esr ?_
     replace h := bindS h
     obtain ⟨y88, hy88, h⟩ := h
     replace h := bindS h
     obtain ⟨y89, hy89, h⟩ := h
     replace h := bindS h
     obtain ⟨y90, hy90, h⟩ := h
     refine rx 20 [.run [⟨112, true, (y68.2 == 0)⟩] (Instr.loadAt 31 (pb b31)) (y10.ag), .call [⟨112, true, (y68.2 == 0)⟩] 31 #[y10.ag, sv ad32 y12 cap33, sv ad70 y68.1 cap71] (iv y88), .run [⟨119, true, (bif (y68.2 == 0) then (y88 == 0) else false)⟩] (Instr.loadAt 31 (pb b31)) (y10.ag), .call [⟨119, true, (bif (y68.2 == 0) then (y88 == 0) else false)⟩] 41 #[y10.ag, sv ad32 y12 cap33, sv ad54 y53 cap55] (.bool y89), .call [⟨126, true, (bif (bif (y68.2 == 0) then (y88 == 0) else false) then (!y89) else false)⟩] 17 #[] (.bool y90)] 20 [(6, .bool (bif (bif (bif (y68.2 == 0) then (y88 == 0) else false) then (!y89) else false) then y90 else false))] hF (ocons (obN (us := y10.cells) (by kernel_rfl) (fun _ hd => ((hS.later hd).blk (i := 1) rfl).cells rfl)) (ocons (show Ob.ok _ Ext _ _ from fun hk w2 hd => plan_Verify_ok F y10 y12 y68.1 _ ((fun hk => gd_some hy88 hk) hk) _ w2 (memOf_at w2) (hA59.mono (FrzAt.le_mem ((hS.later hd).frz (i := 3) rfl hlow))) (hA73.mono Rp65.mono (FrzAt.le_mem ((hS.later hd).frz (i := 3) rfl hlow)))) (ocons (obN (us := y10.cells) (by kernel_rfl) (fun _ hd => ((hS.later hd).blk (i := 1) rfl).cells rfl)) (ocons (show Ob.ok _ Ext _ _ from fun hk w2 hd => law06_kept_ok F y10 y12 y53 _ ((fun hk => gd_some hy89 hk) hk) _ w2 (memOf_at w2) (hA59.mono (FrzAt.le_mem ((hS.later hd).frz (i := 3) rfl hlow))) (Arr.toM ((hS.later hd).arr (i := 0) rfl))) (ocons (show Ob.ok _ Ext _ _ from fun hk w2 hd => law06_works_ok F  _ ((fun hk => gd_some hy90 hk) hk) _ w2 (memOf_at w2) ) onil))))) fun a w hF hx => ?_
     replace hS := hS.later hx
     refine wfn rfl ?_
     refine wpIn_ret (fn_ret [.tmp 6] [.bool (bif (bif (bif (y68.2 == 0) then (y88 == 0) else false) then (!y89) else false) then y90 else false)] hF rfl ⟨rfl, trivial⟩ ?_)
     have hr_ := Option.some.inj h
     subst hr_
     exact ⟨rfl, hS.ext⟩
end Go.Proofs.Ytejffembnkojjaa
