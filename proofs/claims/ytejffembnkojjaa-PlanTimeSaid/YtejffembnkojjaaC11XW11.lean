/- Walks, written by program (wip/gen/dec.py). -/
import Derived.Test.YtejffembnkojjaaC11XD
import Derived.Test.YtejffembnkojjaaProg
import Derived.Test.YtejffembnkojjaaC11XW0
import Derived.Test.YtejffembnkojjaaC11XW1
import Derived.Test.YtejffembnkojjaaC11XW6
import Derived.Test.YtejffembnkojjaaC11XW10
namespace Go.Proofs.Ytejffembnkojjaa
open Go Go.RowKit Go.Eng
set_option maxRecDepth 10000
set_option maxHeartbeats 4000000
set_option linter.unusedVariables false
set_option linter.unusedSimpArgs false
theorem law06_PlanTime_ok (F : Nat) (p0 : law06_Desk) (p1 : (List Int)) (p2 : Int) (p3 : Int) (p4 : Int) (p5 : Int) (p6 : Int) (res : Bool) (h : law06_PlanTime F p0 p1 p2 p3 p4 p5 p6 = some res) (μ : Frz) (w0 : World) (hm : FrzAt μ w0) {ad1 : Option Addr} {cap2 : Nat} {ad4 : Option Addr} {cap5 : Nat} (hA3 : ArrM μ 6 law06_Wish.cells ad1 cap2 p0.Jobs) (hA6 : ArrM μ 1 (fK .u8) ad4 cap5 p1) : Calls Try.prog 11 #[.agg #[.int .u8 p0.Rays, .int .u8 p0.Turn, .int .u8 p0.Move, .int .u8 p0.Duty, sv ad1 p0.Jobs cap2], sv ad4 p1 cap5, .int .u8 p2, .int .u8 p3, .int .u8 p4, .int .u8 p5, .int .u8 p6] w0 (fun e w => e = .returned (.bool res) ∧ Ext w0 w) := by
 obtain ⟨hlow, hS⟩ := hm.init
 have hext := Frz.ext_refl w0.heap.size μ
 rw [law06_PlanTime] at h
 refine fn_enterW Try.func11 rfl 153 [(0, .agg #[.int .u8 p0.Rays, .int .u8 p0.Turn, .int .u8 p0.Move, .int .u8 p0.Duty, sv ad1 p0.Jobs cap2]), (1, sv ad4 p1 cap5), (2, .int .u8 p2), (3, .int .u8 p3), (4, .int .u8 p4), (5, .int .u8 p5), (6, .int .u8 p6)] rfl rfl (by kernel_rfl) fun a w hw hF => ?_
 replace hS : St w0 [fz w0 μ] w := by rw [hw]; exact hS
 clear hw
 refine esr ?_
 refine SK.wi (boxK (t := 75) (fun b7 => [(1, sv ad4 p1 cap5), (2, .int .u8 p2), (3, .int .u8 p3), (4, .int .u8 p4), (5, .int .u8 p5), (6, .int .u8 p6), (7, pb b7)]) (.agg #[.int .u8 p0.Rays, .int .u8 p0.Turn, .int .u8 p0.Move, .int .u8 p0.Duty, sv ad1 p0.Jobs cap2]) #[.int .u8 p0.Rays, .int .u8 p0.Turn, .int .u8 p0.Move, .int .u8 p0.Duty, sv ad1 p0.Jobs cap2] hF hS (by kernel_rfl) ⟨by kernel_rfl⟩ (by kernel_rfl) (fun _ => ⟨by kernel_rfl⟩) fun b7 w a hF hS => ?_)
 refine rn 1 2 [(1, sv ad4 p1 cap5), (2, .int .u8 p2), (3, .int .u8 p3), (4, .int .u8 p4), (5, .int .u8 p5), (6, .int .u8 p6), (7, pb b7)] hF fun a hF => ?_
 refine wfn rfl ?_
 refine eseq ?_
 refine esr ?_
 refine rn 8 8 [(1, sv ad4 p1 cap5), (2, .int .u8 p2), (3, .int .u8 p3), (4, .int .u8 p4), (5, .int .u8 p5), (6, .int .u8 p6), (7, pb b7), (34, .bool (bif (decide ((ln p1) < 1)) then true else (decide ((ln p1) > 12))))] hF fun a hF => ?_
 refine wfn rfl ?_
 refine econd hF rfl (fun hc => ?_) (fun hc => ?_)
 ·replace h := bif_t h hc
  refine esr ?_
  replace h := bindS h
  obtain ⟨y8, hy8, h⟩ := h
  refine rx 2 [.call [] 17 #[] (.bool y8)] 2 [(14, .bool y8)] hF (ocons (show Ob.ok _ Ext _ _ from fun hk w2 hd => law06_works_ok F  _ ((fun _ => hy8) hk) _ w2 (memOf_at w2) ) onil) fun a w hF hx => ?_
  replace hS := hS.later hx
  refine wfn rfl ?_
  refine wpIn_ret (ret_then <| fn_ret [.tmp 14] [.bool y8] hF rfl ⟨rfl, trivial⟩ ?_)
  have hr_ := Option.some.inj h
  subst hr_
  exact ⟨rfl, hS.ext⟩
 ·replace h := bif_f h hc
  refine wpIn_skip (norm_then ?_)
  refine eseq ?_
  replace h := bindS h
  obtain ⟨y10, hy10, h⟩ := h
  replace h := bindS h
  obtain ⟨y12, hy12, h⟩ := h
  refine region_treeW 5 [1, 3, 4] (fun a w => ∃ (b31 : Nat) (ad32 : Option Addr) (cap33 : Nat), Fr 153 [] [(1, sv ad4 p1 cap5), (2, .int .u8 p2), (3, .int .u8 p3), (4, .int .u8 p4), (5, .int .u8 p5), (6, .int .u8 p6), (15, pb b31), (37, y10.ag), (39, sv ad32 y12 cap33)] a ∧ St w0 [blk b31 31 #[iv 0, iv 0, iv 0, iv 0], arr 34 8 plan_Job.cells ad32 y12.length cap33 y12, blk b7 75 #[.int .u8 p0.Rays, .int .u8 p0.Turn, .int .u8 p0.Move, .int .u8 p0.Duty, sv ad1 p0.Jobs cap2], fz w0 μ] w) (D := fun w => St w0 [blk b7 75 #[.int .u8 p0.Rays, .int .u8 p0.Turn, .int .u8 p0.Move, .int .u8 p0.Duty, sv ad1 p0.Jobs cap2]] w ∧ FrzAt μ w) (by kernel_rfl) (by kernel_rfl) hF.size (fun w hx => ?_) ?_
  ·skip
   replace hS := hS.later hx
   refine ⟨⟨St.pick [0] (by decide) hS, hS.frz (i := 1) rfl hlow⟩, ?_⟩
   have hcl34 := Frz.le_refl μ
   refine WT.s [0, 2] [1, 4] (by kernel_rfl) (by kernel_rfl) ?_
   refine runC (rest := []) (obs := [.run [] (Instr.loadAt 75 (pb b7)) (.agg #[.int .u8 p0.Rays, .int .u8 p0.Turn, .int .u8 p0.Move, .int .u8 p0.Duty, sv ad1 p0.Jobs cap2]), .run [] (Instr.loadAt 75 (pb b7)) (.agg #[.int .u8 p0.Rays, .int .u8 p0.Turn, .int .u8 p0.Move, .int .u8 p0.Duty, sv ad1 p0.Jobs cap2])]) [0, 2] [(1, sv ad4 p1 cap5), (2, .int .u8 p2), (3, .int .u8 p3), (4, .int .u8 p4), (5, .int .u8 p5), (6, .int .u8 p6), (36, .agg #[.int .u8 p0.Rays, .int .u8 p0.Turn, .int .u8 p0.Move, .int .u8 p0.Duty, sv ad1 p0.Jobs cap2]), (38, .agg #[.int .u8 p0.Rays, .int .u8 p0.Turn, .int .u8 p0.Move, .int .u8 p0.Duty, sv ad1 p0.Jobs cap2])] hF (by kernel_rfl) (by kernel_rfl) (ocons (obN (us := [.int .u8 p0.Rays, .int .u8 p0.Turn, .int .u8 p0.Move, .int .u8 p0.Duty, sv ad1 p0.Jobs cap2]) (by kernel_rfl) (fun _ hd => (hd.1.blk (i := 0) rfl).cells rfl)) (ocons (obN (us := [.int .u8 p0.Rays, .int .u8 p0.Turn, .int .u8 p0.Move, .int .u8 p0.Duty, sv ad1 p0.Jobs cap2]) (by kernel_rfl) (fun _ hd => (hd.1.blk (i := 0) rfl).cells rfl)) onil)) ⟨by kernel_rfl⟩ fun a hF => ?_
   refine WRun.fin ?_
   refine all_cons ?_ (all_cons ?_ (all_nil))
   ·skip
    refine callK (f := 36) (args := #[.agg #[.int .u8 p0.Rays, .int .u8 p0.Turn, .int .u8 p0.Move, .int .u8 p0.Duty, sv ad1 p0.Jobs cap2]]) (R := fun v w2 => v = y10.ag ∧ Ext w w2) (fun v35 => [(1, sv ad4 p1 cap5), (2, .int .u8 p2), (3, .int .u8 p3), (4, .int .u8 p4), (5, .int .u8 p5), (6, .int .u8 p6), (37, v35), (38, .agg #[.int .u8 p0.Rays, .int .u8 p0.Turn, .int .u8 p0.Move, .int .u8 p0.Duty, sv ad1 p0.Jobs cap2])]) hF (by kernel_rfl) ⟨by kernel_rfl⟩ (Calls.mono (law06_Desk_radar_ok F p0 _ hy10 (memOf w) w (memOf_at w) (hA3.mono (FrzAt.le_mem (hS.frz (i := 1) rfl hlow)))) (fun e w2 h => ⟨_, h.1, rfl, h.2⟩)) (fun _ => ⟨by kernel_rfl⟩) ?_
    rintro v35 w a ⟨rfl, hx⟩ hF
    replace hS := hS.later hx
    refine ⟨⟨St.pick [0] (by decide) hS, (hS.frz (i := 1) rfl hlow)⟩, ?_⟩
    refine WT.s [] [3, 4] (by kernel_rfl) (by kernel_rfl) ?_
    refine WRun.fin ?_
    refine all_cons ?_ (all_cons ?_ (all_nil))
    ·skip
     refine callK (f := 37) (args := #[.agg #[.int .u8 p0.Rays, .int .u8 p0.Turn, .int .u8 p0.Move, .int .u8 p0.Duty, sv ad1 p0.Jobs cap2]]) (R := fun v w2 => ∃ ad37 cap38, v = sv ad37 y12 cap38 ∧ St w [arr 34 8 plan_Job.cells ad37 y12.length cap38 y12] w2) (fun v36 => [(1, sv ad4 p1 cap5), (2, .int .u8 p2), (3, .int .u8 p3), (4, .int .u8 p4), (5, .int .u8 p5), (6, .int .u8 p6), (37, y10.ag), (39, v36)]) hF (by kernel_rfl) ⟨by kernel_rfl⟩ (Calls.mono (law06_Desk_jobs_ok F p0 _ hy12 (memOf w) w (memOf_at w) (hA3.mono (FrzAt.le_mem (hS.frz (i := 1) rfl hlow)))) (by rintro e w2 ⟨ad37, cap38, rfl, h⟩; exact ⟨_, rfl, ad37, cap38, rfl, h⟩)) (fun _ => ⟨by kernel_rfl⟩) ?_
     rintro v36 w a ⟨ad37, cap38, rfl, hQ⟩ hF
     replace hS : St w0 [arr 34 8 plan_Job.cells ad37 y12.length cap38 y12, blk b7 75 #[.int .u8 p0.Rays, .int .u8 p0.Turn, .int .u8 p0.Move, .int .u8 p0.Duty, sv ad1 p0.Jobs cap2], fz w0 μ] w := hS.madeL hQ
     refine ⟨⟨St.pick [1] (by decide) hS, (hS.frz (i := 2) rfl hlow)⟩, ?_⟩
     refine WT.s [] [4] (by kernel_rfl) (by kernel_rfl) ?_
     refine WRun.fin ?_
     refine all_cons ?_ (all_nil)
     refine allocK (t := 31) (fun b39 => [(1, sv ad4 p1 cap5), (2, .int .u8 p2), (3, .int .u8 p3), (4, .int .u8 p4), (5, .int .u8 p5), (6, .int .u8 p6), (15, pb b39), (37, y10.ag), (39, sv ad37 y12 cap38)]) #[iv 0, iv 0, iv 0, iv 0] hF hS (by kernel_rfl) ⟨by kernel_rfl⟩ (by kernel_rfl) (fun _ => ⟨by kernel_rfl⟩) fun b39 w a hF hS => ⟨⟨St.pick [2] (by decide) hS, (hS.frz (i := 3) rfl hlow)⟩, ?_⟩
     refine WT.z [] (by kernel_rfl) ?_
     refine WRun.fin ?_
     exact ⟨b39, ad37, cap38, hF.sub (by kernel_rfl), St.pick [0, 1, 2, 3] (by decide) hS⟩
    ·skip
     refine allocK (t := 31) (fun b40 => [(1, sv ad4 p1 cap5), (2, .int .u8 p2), (3, .int .u8 p3), (4, .int .u8 p4), (5, .int .u8 p5), (6, .int .u8 p6), (15, pb b40), (37, y10.ag), (38, .agg #[.int .u8 p0.Rays, .int .u8 p0.Turn, .int .u8 p0.Move, .int .u8 p0.Duty, sv ad1 p0.Jobs cap2])]) #[iv 0, iv 0, iv 0, iv 0] hF hS (by kernel_rfl) ⟨by kernel_rfl⟩ (by kernel_rfl) (fun _ => ⟨by kernel_rfl⟩) fun b40 w a hF hS => ⟨⟨St.pick [1] (by decide) hS, (hS.frz (i := 2) rfl hlow)⟩, ?_⟩
     refine WT.s [] [3] (by kernel_rfl) (by kernel_rfl) ?_
     refine WRun.fin ?_
     refine all_cons ?_ (all_nil)
     refine callK (f := 37) (args := #[.agg #[.int .u8 p0.Rays, .int .u8 p0.Turn, .int .u8 p0.Move, .int .u8 p0.Duty, sv ad1 p0.Jobs cap2]]) (R := fun v w2 => ∃ ad42 cap43, v = sv ad42 y12 cap43 ∧ St w [arr 34 8 plan_Job.cells ad42 y12.length cap43 y12] w2) (fun v41 => [(1, sv ad4 p1 cap5), (2, .int .u8 p2), (3, .int .u8 p3), (4, .int .u8 p4), (5, .int .u8 p5), (6, .int .u8 p6), (15, pb b40), (37, y10.ag), (39, v41)]) hF (by kernel_rfl) ⟨by kernel_rfl⟩ (Calls.mono (law06_Desk_jobs_ok F p0 _ hy12 (memOf w) w (memOf_at w) (hA3.mono (FrzAt.le_mem (hS.frz (i := 2) rfl hlow)))) (by rintro e w2 ⟨ad42, cap43, rfl, h⟩; exact ⟨_, rfl, ad42, cap43, rfl, h⟩)) (fun _ => ⟨by kernel_rfl⟩) ?_
     rintro v41 w a ⟨ad42, cap43, rfl, hQ⟩ hF
     replace hS : St w0 [arr 34 8 plan_Job.cells ad42 y12.length cap43 y12, blk b40 31 #[iv 0, iv 0, iv 0, iv 0], blk b7 75 #[.int .u8 p0.Rays, .int .u8 p0.Turn, .int .u8 p0.Move, .int .u8 p0.Duty, sv ad1 p0.Jobs cap2], fz w0 μ] w := hS.madeL hQ
     refine ⟨⟨St.pick [2] (by decide) hS, (hS.frz (i := 3) rfl hlow)⟩, ?_⟩
     refine WT.z [] (by kernel_rfl) ?_
     refine WRun.fin ?_
     exact ⟨b40, ad42, cap43, hF.sub (by kernel_rfl), St.pick [1, 0, 2, 3] (by decide) hS⟩
   ·skip
    refine allocK (t := 31) (fun b44 => [(1, sv ad4 p1 cap5), (2, .int .u8 p2), (3, .int .u8 p3), (4, .int .u8 p4), (5, .int .u8 p5), (6, .int .u8 p6), (15, pb b44), (36, .agg #[.int .u8 p0.Rays, .int .u8 p0.Turn, .int .u8 p0.Move, .int .u8 p0.Duty, sv ad1 p0.Jobs cap2]), (38, .agg #[.int .u8 p0.Rays, .int .u8 p0.Turn, .int .u8 p0.Move, .int .u8 p0.Duty, sv ad1 p0.Jobs cap2])]) #[iv 0, iv 0, iv 0, iv 0] hF hS (by kernel_rfl) ⟨by kernel_rfl⟩ (by kernel_rfl) (fun _ => ⟨by kernel_rfl⟩) fun b44 w a hF hS => ⟨⟨St.pick [1] (by decide) hS, (hS.frz (i := 2) rfl hlow)⟩, ?_⟩
    refine WT.s [] [1] (by kernel_rfl) (by kernel_rfl) ?_
    refine WRun.fin ?_
    refine all_cons ?_ (all_nil)
    refine callK (f := 36) (args := #[.agg #[.int .u8 p0.Rays, .int .u8 p0.Turn, .int .u8 p0.Move, .int .u8 p0.Duty, sv ad1 p0.Jobs cap2]]) (R := fun v w2 => v = y10.ag ∧ Ext w w2) (fun v45 => [(1, sv ad4 p1 cap5), (2, .int .u8 p2), (3, .int .u8 p3), (4, .int .u8 p4), (5, .int .u8 p5), (6, .int .u8 p6), (15, pb b44), (37, v45), (38, .agg #[.int .u8 p0.Rays, .int .u8 p0.Turn, .int .u8 p0.Move, .int .u8 p0.Duty, sv ad1 p0.Jobs cap2])]) hF (by kernel_rfl) ⟨by kernel_rfl⟩ (Calls.mono (law06_Desk_radar_ok F p0 _ hy10 (memOf w) w (memOf_at w) (hA3.mono (FrzAt.le_mem (hS.frz (i := 2) rfl hlow)))) (fun e w2 h => ⟨_, h.1, rfl, h.2⟩)) (fun _ => ⟨by kernel_rfl⟩) ?_
    rintro v45 w a ⟨rfl, hx⟩ hF
    replace hS := hS.later hx
    refine ⟨⟨St.pick [1] (by decide) hS, (hS.frz (i := 2) rfl hlow)⟩, ?_⟩
    refine WT.s [] [3] (by kernel_rfl) (by kernel_rfl) ?_
    refine WRun.fin ?_
    refine all_cons ?_ (all_nil)
    refine callK (f := 37) (args := #[.agg #[.int .u8 p0.Rays, .int .u8 p0.Turn, .int .u8 p0.Move, .int .u8 p0.Duty, sv ad1 p0.Jobs cap2]]) (R := fun v w2 => ∃ ad47 cap48, v = sv ad47 y12 cap48 ∧ St w [arr 34 8 plan_Job.cells ad47 y12.length cap48 y12] w2) (fun v46 => [(1, sv ad4 p1 cap5), (2, .int .u8 p2), (3, .int .u8 p3), (4, .int .u8 p4), (5, .int .u8 p5), (6, .int .u8 p6), (15, pb b44), (37, y10.ag), (39, v46)]) hF (by kernel_rfl) ⟨by kernel_rfl⟩ (Calls.mono (law06_Desk_jobs_ok F p0 _ hy12 (memOf w) w (memOf_at w) (hA3.mono (FrzAt.le_mem (hS.frz (i := 2) rfl hlow)))) (by rintro e w2 ⟨ad47, cap48, rfl, h⟩; exact ⟨_, rfl, ad47, cap48, rfl, h⟩)) (fun _ => ⟨by kernel_rfl⟩) ?_
    rintro v46 w a ⟨ad47, cap48, rfl, hQ⟩ hF
    replace hS : St w0 [arr 34 8 plan_Job.cells ad47 y12.length cap48 y12, blk b44 31 #[iv 0, iv 0, iv 0, iv 0], blk b7 75 #[.int .u8 p0.Rays, .int .u8 p0.Turn, .int .u8 p0.Move, .int .u8 p0.Duty, sv ad1 p0.Jobs cap2], fz w0 μ] w := hS.madeL hQ
    refine ⟨⟨St.pick [2] (by decide) hS, (hS.frz (i := 3) rfl hlow)⟩, ?_⟩
    refine WT.z [] (by kernel_rfl) ?_
    refine WRun.fin ?_
    exact ⟨b44, ad47, cap48, hF.sub (by kernel_rfl), St.pick [1, 0, 2, 3] (by decide) hS⟩
  rintro a w ⟨b31, ad32, cap33, hF, hS⟩
  refine SK.wi (storeK (t := 31) [(1, sv ad4 p1 cap5), (2, .int .u8 p2), (3, .int .u8 p3), (4, .int .u8 p4), (5, .int .u8 p5), (6, .int .u8 p6), (15, pb b31), (39, sv ad32 y12 cap33)] 0 0 (y10.ag) y10.ar hF hS rfl (by kernel_rfl) ⟨by kernel_rfl⟩ (by kernel_rfl) (by kernel_rfl) (by kernel_rfl) (by kernel_rfl) ⟨by kernel_rfl⟩ fun w a hF hS => ?_)
  refine rn 1 7 [(1, sv ad4 p1 cap5), (2, .int .u8 p2), (3, .int .u8 p3), (4, .int .u8 p4), (5, .int .u8 p5), (6, .int .u8 p6), (15, pb b31), (16, sv ad32 y12 cap33)] hF fun a hF => ?_
  refine wfn rfl ?_
  refine esr ?_
  refine rn 3 3 [(2, .int .u8 p2), (3, .int .u8 p3), (4, .int .u8 p4), (5, .int .u8 p5), (6, .int .u8 p6), (15, pb b31), (16, sv ad32 y12 cap33), (40, sv ad4 p1 cap5), (42, iv (ln y12))] hF fun a hF => ?_
  replace h := bindS h
  obtain ⟨y50, hy50, h⟩ := h
  refine SK.wi (callK (f := 38) (args := #[sv ad4 p1 cap5, iv (ln y12)]) (R := fun v w2 => ∃ ad51 cap52, v = sv ad51 y50 cap52 ∧ St w [arr 3 1 fI ad51 y50.length cap52 y50] w2) (fun v49 => [(2, .int .u8 p2), (3, .int .u8 p3), (4, .int .u8 p4), (5, .int .u8 p5), (6, .int .u8 p6), (15, pb b31), (16, sv ad32 y12 cap33), (43, v49)]) hF (by kernel_rfl) ⟨by kernel_rfl⟩ (Calls.mono (law06_entries_ok F p1 (ln y12) _ hy50 (memOf w) w (memOf_at w) (hA6.mono (FrzAt.le_mem (hS.frz (i := 3) rfl hlow)))) (by rintro e w2 ⟨ad51, cap52, rfl, h⟩; exact ⟨_, rfl, ad51, cap52, rfl, h⟩)) (fun _ => ⟨by kernel_rfl⟩) ?_)
  rintro v49 w a ⟨ad51, cap52, rfl, hQ⟩ hF
  replace hS : St w0 [arr 3 1 fI ad51 y50.length cap52 y50, blk b31 31 y10.ar, arr 34 8 plan_Job.cells ad32 y12.length cap33 y12, blk b7 75 #[.int .u8 p0.Rays, .int .u8 p0.Turn, .int .u8 p0.Move, .int .u8 p0.Duty, sv ad1 p0.Jobs cap2], fz w0 μ] w := hS.madeL hQ
  refine rn 1 5 [(2, .int .u8 p2), (3, .int .u8 p3), (4, .int .u8 p4), (5, .int .u8 p5), (6, .int .u8 p6), (15, pb b31), (16, sv ad32 y12 cap33), (17, sv ad51 y50 cap52)] hF fun a hF => ?_
  refine wfn rfl ?_
  refine esr ?_
  refine rno 3 [.run [] (Instr.loadAt 31 (pb b31)) (y10.ag)] 3 [(2, .int .u8 p2), (3, .int .u8 p3), (4, .int .u8 p4), (5, .int .u8 p5), (6, .int .u8 p6), (15, pb b31), (16, sv ad32 y12 cap33), (17, sv ad51 y50 cap52), (45, y10.ag), (46, sv ad32 y12 cap33), (47, sv ad51 y50 cap52)] hF (ocons (obN (us := y10.cells) (by kernel_rfl) (fun _ hd => ((hS.at_ hd).blk (i := 1) rfl).cells rfl)) onil) fun a hF => ?_
  obtain ⟨ν53, hx54, hlow, hS, hz55⟩ := hS.freeze (i := 4) (j := 2) rfl rfl (by decide) hlow
  replace hA3 := hA3.mono hx54.1
  replace hA6 := hA6.mono hx54.1
  replace hext := Frz.ext_trans hext hx54
  replace hS : St w0 [arr 3 1 fI ad51 y50.length cap52 y50, blk b31 31 y10.ar, blk b7 75 #[.int .u8 p0.Rays, .int .u8 p0.Turn, .int .u8 p0.Move, .int .u8 p0.Duty, sv ad1 p0.Jobs cap2], fz w0 ν53] w := hS
  have hA56 := ArrM.of_arr hz55
  obtain ⟨ν57, hx58, hlow, hS, hz59⟩ := hS.freeze (i := 3) (j := 0) rfl rfl (by decide) hlow
  replace hA3 := hA3.mono hx58.1
  replace hA6 := hA6.mono hx58.1
  replace hA56 := hA56.mono hx58.1
  replace hext := Frz.ext_trans hext hx58
  replace hS : St w0 [blk b31 31 y10.ar, blk b7 75 #[.int .u8 p0.Rays, .int .u8 p0.Turn, .int .u8 p0.Move, .int .u8 p0.Duty, sv ad1 p0.Jobs cap2], fz w0 ν57] w := hS
  have hA60 := ArrM.of_arr hz59
  replace h := bindS h
  obtain ⟨y62, hy62, h⟩ := h
  refine SK.wi (callK (f := 18) (args := #[y10.ag, sv ad32 y12 cap33, sv ad51 y50 cap52]) (R := fun v w2 => ∃ ν63 ad64 cap65, ν57.ext w.heap.size ν63 ∧ v = .tuple #[sv ad64 y62.1 cap65, iv y62.2] ∧ ArrM ν63 1 fI ad64 cap65 y62.1 ∧ St w [frzR w.heap.size ν63] w2) (fun v61 => [(2, .int .u8 p2), (3, .int .u8 p3), (4, .int .u8 p4), (5, .int .u8 p5), (6, .int .u8 p6), (15, pb b31), (16, sv ad32 y12 cap33), (17, sv ad51 y50 cap52), (48, v61)]) hF (by kernel_rfl) ⟨by kernel_rfl⟩ (Calls.mono (plan_Judge_ok F y10 y12 y50 _ hy62 ν57 w (hS.frz (i := 2) rfl hlow) hA56 hA60) (by rintro e w2 ⟨ν63, ad64, cap65, hx67, rfl, hA66, h⟩; exact ⟨_, rfl, ν63, ad64, cap65, hx67, rfl, hA66, h⟩)) (fun _ => ⟨by kernel_rfl⟩) ?_)
  rintro v61 w a ⟨ν63, ad64, cap65, hx67, rfl, hA66, hQ⟩ hF
  replace hext := Frz.ext_trans hext (Frz.ext_mono hx67 hS.ext.size)
  obtain ⟨hlow, hS⟩ := hS.frzMerge (i := 2) rfl hlow hx67 hQ
  replace hA3 := hA3.mono hx67.1
  replace hA6 := hA6.mono hx67.1
  replace hA56 := hA56.mono hx67.1
  replace hA60 := hA60.mono hx67.1
  replace hS : St w0 [blk b31 31 y10.ar, blk b7 75 #[.int .u8 p0.Rays, .int .u8 p0.Turn, .int .u8 p0.Move, .int .u8 p0.Duty, sv ad1 p0.Jobs cap2], fz w0 ν63] w := hS
  refine rn 5 9 [(2, .int .u8 p2), (3, .int .u8 p3), (4, .int .u8 p4), (5, .int .u8 p5), (6, .int .u8 p6), (15, pb b31), (16, sv ad32 y12 cap33), (17, sv ad51 y50 cap52), (18, sv ad64 y62.1 cap65), (19, iv y62.2)] hF fun a hF => ?_
  refine wfn rfl ?_
  refine esr ?_
  refine SK.wi (litK (e := 34) (sz := 8) (f := plan_Job.cells) (t := 43) (len := 0) (fun b68 => [(2, .int .u8 p2), (3, .int .u8 p3), (4, .int .u8 p4), (5, .int .u8 p5), (6, .int .u8 p6), (15, pb b31), (16, sv ad32 y12 cap33), (17, sv ad51 y50 cap52), (18, sv ad64 y62.1 cap65), (19, iv y62.2), (51, sb b68 0)]) #[] #[] ([] : List plan_Job) hF hS (by kernel_rfl) ⟨by kernel_rfl⟩ (by kernel_rfl) plan_Job.cells_len rfl rfl (by kernel_rfl) (fun _ => ⟨by kernel_rfl⟩) fun b68 w a hF hS => ?_)
  refine rn 1 2 [(2, .int .u8 p2), (3, .int .u8 p3), (4, .int .u8 p4), (5, .int .u8 p5), (6, .int .u8 p6), (15, pb b31), (16, sv ad32 y12 cap33), (17, sv ad51 y50 cap52), (18, sv ad64 y62.1 cap65), (19, iv y62.2), (51, sb b68 0), (52, sv ad32 y12 cap33)] hF fun a hF => ?_
  replace h := bindS h
  obtain ⟨l69, hl69, h⟩ := h
  refine SK.wi (appK (t := 43) (ty := 43) (bytes := 64) (l := ([] : List plan_Job)) (l' := y12) (fun ad70 cap71 => [(2, .int .u8 p2), (3, .int .u8 p3), (4, .int .u8 p4), (5, .int .u8 p5), (6, .int .u8 p6), (15, pb b31), (16, sv ad32 y12 cap33), (17, sv ad51 y50 cap52), (18, sv ad64 y62.1 cap65), (19, iv y62.2), (53, sv ad70 l69 cap71)]) 0 hF hS rfl (by kernel_rfl) ⟨by kernel_rfl⟩ (by kernel_rfl) (hA56 _ (hS.frz (i := 3) rfl hlow)) (fun _ _ => rfl) hl69 (fun _ _ => ⟨by kernel_rfl⟩) fun ad70 cap71 w a hF hS => ?_)
  refine rn 1 4 [(2, .int .u8 p2), (3, .int .u8 p3), (4, .int .u8 p4), (5, .int .u8 p5), (6, .int .u8 p6), (15, pb b31), (16, sv ad32 y12 cap33), (17, sv ad51 y50 cap52), (18, sv ad64 y62.1 cap65), (19, iv y62.2), (20, sv ad70 l69 cap71)] hF fun a hF => ?_
  refine wfn rfl ?_
  refine esr ?_
  replace h := bindS h
  obtain ⟨x72, hx72, h⟩ := h
  replace h := bindS h
  obtain ⟨x73, hx73, h⟩ := h
  replace h := bindS h
  obtain ⟨u74, hu74, h⟩ := h
  replace h := bindS h
  obtain ⟨x75, hx75, h⟩ := h
  replace h := bindS h
  obtain ⟨x76, hx76, h⟩ := h
  replace h := bindS h
  obtain ⟨u77, hu77, h⟩ := h
  refine rno 14 [.run [] (convert 5 3 (.int .u8 p2)) (iv x72), .run [] (binOp .rem 3 (iv x72) (iv (ln y12))) (iv x73), .run [] (Instr.indexAt 43 (sv ad70 l69 cap71) (iv x73)) (.pointer (some (slAddr ad70 x73 8))), .run [] (Instr.loadAt 3 (.pointer (some ((slAddr ad70 x73 8).add 7)))) (iv u74.Every), .run [] (convert 5 3 (.int .u8 p3)) (iv x75), .run [] (binOp .add 3 (iv u74.Every) (iv x75)) (iv x76), .run [] (Instr.indexAt 43 (sv ad70 l69 cap71) (iv x73)) (.pointer (some (slAddr ad70 x73 8)))] 14 [(4, .int .u8 p4), (5, .int .u8 p5), (6, .int .u8 p6), (15, pb b31), (16, sv ad32 y12 cap33), (17, sv ad51 y50 cap52), (18, sv ad64 y62.1 cap65), (19, iv y62.2), (20, sv ad70 l69 cap71), (65, iv x76), (67, .pointer (some ((slAddr ad70 x73 8).add 7)))] hF (ocons (obConvC (by kernel_rfl) (by kernel_rfl) (fun _ => hx72)) (ocons (obRemC (fun _ => hx73)) (ocons (obIdxQ (hS.arr (i := 0) rfl) (by kernel_rfl) (fun _ => hu74)) (ocons (obElQ (i := x73) 7 plan_Job.cells_len (fun _ hd => ((hS.at_ hd).arr (i := 0) rfl)) (by kernel_rfl) (fun _ => hu74) rfl) (ocons (obConvC (by kernel_rfl) (by kernel_rfl) (fun _ => hx75)) (ocons (obAddC (fun _ => hx76)) (ocons (obIdxQ (hS.arr (i := 0) rfl) (by kernel_rfl) (fun _ => hu77)) onil))))))) fun a hF => ?_
  replace h := bindS h
  obtain ⟨l78, hl78, h⟩ := h
  refine SK.wi (setK (j := x73) (t := 3) [(4, .int .u8 p4), (5, .int .u8 p5), (6, .int .u8 p6), (15, pb b31), (16, sv ad32 y12 cap33), (17, sv ad51 y50 cap52), (18, sv ad64 y62.1 cap65), (19, iv y62.2), (20, sv ad70 l69 cap71)] 0 7 u77 (plan_Job.mk u77.Tilt u77.Train u77.Width x76) (iv x76) hF hS rfl (by kernel_rfl) ⟨by kernel_rfl⟩ plan_Job.cells_len hu77 rfl (by kernel_rfl) (by kernel_rfl) (by kernel_rfl) hl78 ⟨by kernel_rfl⟩ fun w a hF hl hS => ?_)
  simp only [sv, ln, hl] at hF hS
  refine wfn rfl ?_
  refine esr ?_
  refine rno 1 [.run [] (Instr.loadAt 31 (pb b31)) (y10.ag)] 1 [(4, .int .u8 p4), (5, .int .u8 p5), (6, .int .u8 p6), (15, pb b31), (16, sv ad32 y12 cap33), (17, sv ad51 y50 cap52), (18, sv ad64 y62.1 cap65), (19, iv y62.2), (20, sv ad70 l78 cap71), (68, y10.ag)] hF (ocons (obN (us := y10.cells) (by kernel_rfl) (fun _ hd => ((hS.at_ hd).blk (i := 1) rfl).cells rfl)) onil) fun a hF => ?_
  refine SK.wi (allocK (t := 31) (fun b79 => [(4, .int .u8 p4), (5, .int .u8 p5), (6, .int .u8 p6), (15, pb b31), (16, sv ad32 y12 cap33), (17, sv ad51 y50 cap52), (18, sv ad64 y62.1 cap65), (19, iv y62.2), (20, sv ad70 l78 cap71), (21, pb b79), (68, y10.ag)]) #[iv 0, iv 0, iv 0, iv 0] hF hS (by kernel_rfl) ⟨by kernel_rfl⟩ (by kernel_rfl) (fun _ => ⟨by kernel_rfl⟩) fun b79 w a hF hS => ?_)
  refine SK.wi (storeK (t := 31) [(4, .int .u8 p4), (5, .int .u8 p5), (6, .int .u8 p6), (15, pb b31), (16, sv ad32 y12 cap33), (17, sv ad51 y50 cap52), (18, sv ad64 y62.1 cap65), (19, iv y62.2), (20, sv ad70 l78 cap71), (21, pb b79)] 0 0 (y10.ag) y10.ar hF hS rfl (by kernel_rfl) ⟨by kernel_rfl⟩ (by kernel_rfl) (by kernel_rfl) (by kernel_rfl) (by kernel_rfl) ⟨by kernel_rfl⟩ fun w a hF hS => ?_)
  refine wfn rfl ?_
  refine eseq ?_
  replace h := bindS h
  obtain ⟨x80, hx80, h⟩ := h
  replace h := bindS h
  obtain ⟨x81, hx81, h⟩ := h
  replace h := bindS h
  obtain ⟨x82, hx82, h⟩ := h
  replace h := bindS h
  obtain ⟨x83, hx83, h⟩ := h
  replace h := bindS h
  obtain ⟨x84, hx84, h⟩ := h
  replace h := bindS h
  obtain ⟨x85, hx85, h⟩ := h
  refine region_treeW 23 [19, 21] _ (D := fun w => St w0 [arr 34 8 plan_Job.cells ad70 l78.length cap71 l78, blk b31 31 y10.ar, blk b7 75 #[.int .u8 p0.Rays, .int .u8 p0.Turn, .int .u8 p0.Move, .int .u8 p0.Duty, sv ad1 p0.Jobs cap2]] w ∧ FrzAt ν63 w) (by kernel_rfl) (by kernel_rfl) hF.size (fun w hx => ?_) (fun _ _ h => h)
  replace hS := hS.later hx
  refine ⟨⟨St.pick [1, 2, 3] (by decide) hS, hS.frz (i := 4) rfl hlow⟩, ?_⟩
  have hcl86 := Frz.le_refl ν63
  refine WT.s [0, 1, 2, 3, 4, 5, 6, 7, 8, 9, 10, 11, 12, 13, 14, 15, 16, 17, 18] [19] (by kernel_rfl) (by kernel_rfl) ?_
  refine runC (rest := []) (obs := [.run [] (Instr.loadAt 3 (.pointer (some ⟨b31, 1, none⟩))) (iv y10.Turn), .run [] (convert 5 3 (.int .u8 p4)) (iv x80), .run [] (binOp .sub 3 (iv y10.Turn) (iv x80)) (iv x81), .run [] (Instr.loadAt 3 (.pointer (some ⟨b31, 2, none⟩))) (iv y10.Move), .run [] (convert 5 3 (.int .u8 p5)) (iv x82), .run [] (binOp .sub 3 (iv y10.Move) (iv x82)) (iv x83), .run [] (Instr.loadAt 3 (.pointer (some ⟨b31, 3, none⟩))) (iv y10.Duty), .run [] (convert 5 3 (.int .u8 p6)) (iv x84), .run [] (binOp .add 3 (iv y10.Duty) (iv x84)) (iv x85)]) [0, 1, 2, 3, 4, 5, 6, 7, 8, 9, 10, 11, 12, 13, 14, 15, 16, 17, 18] [(15, pb b31), (16, sv ad32 y12 cap33), (17, sv ad51 y50 cap52), (18, sv ad64 y62.1 cap65), (19, iv y62.2), (20, sv ad70 l78 cap71), (21, pb b79), (74, iv (if x81 > 0 then x81 else 0)), (80, iv (if x83 > 0 then x83 else 0)), (86, iv (if x85 < 1000 then x85 else 1000)), (87, .pointer (some ⟨b79, 1, none⟩))] hF (by kernel_rfl) (by kernel_rfl) (ocons (ob1 (by kernel_rfl) (fun _ hd => hd.1.cell (i := 1) (j := 1) rfl rfl)) (ocons (obConvC (by kernel_rfl) (by kernel_rfl) (fun _ => hx80)) (ocons (obSubC (fun _ => hx81)) (ocons (ob1 (by kernel_rfl) (fun _ hd => hd.1.cell (i := 1) (j := 2) rfl rfl)) (ocons (obConvC (by kernel_rfl) (by kernel_rfl) (fun _ => hx82)) (ocons (obSubC (fun _ => hx83)) (ocons (ob1 (by kernel_rfl) (fun _ hd => hd.1.cell (i := 1) (j := 3) rfl rfl)) (ocons (obConvC (by kernel_rfl) (by kernel_rfl) (fun _ => hx84)) (ocons (obAddC (fun _ => hx85)) onil))))))))) ⟨by kernel_rfl⟩ fun a hF => ?_
  refine WRun.fin ?_
  refine all_cons ?_ (all_nil)
  refine storeK (t := 3) [(15, pb b31), (16, sv ad32 y12 cap33), (17, sv ad51 y50 cap52), (18, sv ad64 y62.1 cap65), (19, iv y62.2), (20, sv ad70 l78 cap71), (21, pb b79), (80, iv (if x83 > 0 then x83 else 0)), (86, iv (if x85 < 1000 then x85 else 1000))] 0 1 (iv (if x81 > 0 then x81 else 0)) #[iv y10.Rays, iv (if x81 > 0 then x81 else 0), iv y10.Move, iv y10.Duty] hF hS rfl (by kernel_rfl) ⟨by kernel_rfl⟩ (by kernel_rfl) (by kernel_rfl) (by kernel_rfl) (by kernel_rfl) ⟨by kernel_rfl⟩ fun w a hF hS => ⟨⟨St.pick [1, 2, 3] (by decide) hS, (hS.frz (i := 4) rfl hlow)⟩, ?_⟩
  refine WT.s [20] [21] (by kernel_rfl) (by kernel_rfl) ?_
  refine runC (rest := []) (obs := []) [20] [(15, pb b31), (16, sv ad32 y12 cap33), (17, sv ad51 y50 cap52), (18, sv ad64 y62.1 cap65), (19, iv y62.2), (20, sv ad70 l78 cap71), (21, pb b79), (80, iv (if x83 > 0 then x83 else 0)), (86, iv (if x85 < 1000 then x85 else 1000)), (88, .pointer (some ⟨b79, 2, none⟩))] hF (by kernel_rfl) (by kernel_rfl) onil ⟨by kernel_rfl⟩ fun a hF => ?_
  refine WRun.fin ?_
  refine all_cons ?_ (all_nil)
  refine storeK (t := 3) [(15, pb b31), (16, sv ad32 y12 cap33), (17, sv ad51 y50 cap52), (18, sv ad64 y62.1 cap65), (19, iv y62.2), (20, sv ad70 l78 cap71), (21, pb b79), (86, iv (if x85 < 1000 then x85 else 1000))] 0 2 (iv (if x83 > 0 then x83 else 0)) #[iv y10.Rays, iv (if x81 > 0 then x81 else 0), iv (if x83 > 0 then x83 else 0), iv y10.Duty] hF hS rfl (by kernel_rfl) ⟨by kernel_rfl⟩ (by kernel_rfl) (by kernel_rfl) (by kernel_rfl) (by kernel_rfl) ⟨by kernel_rfl⟩ fun w a hF hS => ⟨⟨St.pick [1, 2, 3] (by decide) hS, (hS.frz (i := 4) rfl hlow)⟩, ?_⟩
  refine WT.z [22] (by kernel_rfl) ?_
  refine runC (rest := []) (obs := []) [22] [(15, pb b31), (16, sv ad32 y12 cap33), (17, sv ad51 y50 cap52), (18, sv ad64 y62.1 cap65), (19, iv y62.2), (20, sv ad70 l78 cap71), (21, pb b79), (86, iv (if x85 < 1000 then x85 else 1000)), (89, .pointer (some ⟨b79, 3, none⟩))] hF (by kernel_rfl) (by kernel_rfl) onil ⟨by kernel_rfl⟩ fun a hF => ?_
  refine WRun.fin ?_
  refine SK.wi (storeK (t := 3) [(15, pb b31), (16, sv ad32 y12 cap33), (17, sv ad51 y50 cap52), (18, sv ad64 y62.1 cap65), (19, iv y62.2), (20, sv ad70 l78 cap71), (21, pb b79)] 0 3 (iv (if x85 < 1000 then x85 else 1000)) #[iv y10.Rays, iv (if x81 > 0 then x81 else 0), iv (if x83 > 0 then x83 else 0), iv (if x85 < 1000 then x85 else 1000)] hF hS rfl (by kernel_rfl) ⟨by kernel_rfl⟩ (by kernel_rfl) (by kernel_rfl) (by kernel_rfl) (by kernel_rfl) ⟨by kernel_rfl⟩ fun w a hF hS => ?_)
  refine wfn rfl ?_
  refine esr ?_
  refine rno 3 [.run [] (Instr.loadAt 31 (pb b31)) (y10.ag)] 3 [(16, sv ad32 y12 cap33), (17, sv ad51 y50 cap52), (18, sv ad64 y62.1 cap65), (19, iv y62.2), (21, pb b79), (91, y10.ag), (92, sv ad70 l78 cap71), (93, sv ad51 y50 cap52)] hF (ocons (obN (us := y10.cells) (by kernel_rfl) (fun _ hd => ((hS.at_ hd).blk (i := 2) rfl).cells rfl)) onil) fun a hF => ?_
  obtain ⟨ν87, hx88, hlow, hS, hz89⟩ := hS.freeze (i := 4) (j := 1) rfl rfl (by decide) hlow
  replace hA3 := hA3.mono hx88.1
  replace hA6 := hA6.mono hx88.1
  replace hA56 := hA56.mono hx88.1
  replace hA60 := hA60.mono hx88.1
  replace hA66 := hA66.mono hx88.1
  replace hext := Frz.ext_trans hext hx88
  replace hS : St w0 [blk b79 31 #[iv y10.Rays, iv (if x81 > 0 then x81 else 0), iv (if x83 > 0 then x83 else 0), iv (if x85 < 1000 then x85 else 1000)], blk b31 31 y10.ar, blk b7 75 #[.int .u8 p0.Rays, .int .u8 p0.Turn, .int .u8 p0.Move, .int .u8 p0.Duty, sv ad1 p0.Jobs cap2], fz w0 ν87] w := hS
  have hA90 := ArrM.of_arr hz89
  replace h := bindS h
  obtain ⟨y92, hy92, h⟩ := h
  refine SK.wi (callK (f := 18) (args := #[y10.ag, sv ad70 l78 cap71, sv ad51 y50 cap52]) (R := fun v w2 => ∃ ν93 ad94 cap95, ν87.ext w.heap.size ν93 ∧ v = .tuple #[sv ad94 y92.1 cap95, iv y92.2] ∧ ArrM ν93 1 fI ad94 cap95 y92.1 ∧ St w [frzR w.heap.size ν93] w2) (fun v91 => [(16, sv ad32 y12 cap33), (17, sv ad51 y50 cap52), (18, sv ad64 y62.1 cap65), (19, iv y62.2), (21, pb b79), (94, v91)]) hF (by kernel_rfl) ⟨by kernel_rfl⟩ (Calls.mono (plan_Judge_ok F y10 l78 y50 _ hy92 ν87 w (hS.frz (i := 3) rfl hlow) hA90 hA60) (by rintro e w2 ⟨ν93, ad94, cap95, hx97, rfl, hA96, h⟩; exact ⟨_, rfl, ν93, ad94, cap95, hx97, rfl, hA96, h⟩)) (fun _ => ⟨by kernel_rfl⟩) ?_)
  rintro v91 w a ⟨ν93, ad94, cap95, hx97, rfl, hA96, hQ⟩ hF
  replace hext := Frz.ext_trans hext (Frz.ext_mono hx97 hS.ext.size)
  obtain ⟨hlow, hS⟩ := hS.frzMerge (i := 3) rfl hlow hx97 hQ
  replace hA3 := hA3.mono hx97.1
  replace hA6 := hA6.mono hx97.1
  replace hA56 := hA56.mono hx97.1
  replace hA60 := hA60.mono hx97.1
  replace hA66 := hA66.mono hx97.1
  replace hA90 := hA90.mono hx97.1
  replace hS : St w0 [blk b79 31 #[iv y10.Rays, iv (if x81 > 0 then x81 else 0), iv (if x83 > 0 then x83 else 0), iv (if x85 < 1000 then x85 else 1000)], blk b31 31 y10.ar, blk b7 75 #[.int .u8 p0.Rays, .int .u8 p0.Turn, .int .u8 p0.Move, .int .u8 p0.Duty, sv ad1 p0.Jobs cap2], fz w0 ν93] w := hS
  refine rn 5 9 [(16, sv ad32 y12 cap33), (17, sv ad51 y50 cap52), (18, sv ad64 y62.1 cap65), (19, iv y62.2), (21, pb b79), (22, sv ad94 y92.1 cap95), (23, iv y92.2)] hF fun a hF => ?_
  refine wfn rfl ?_
  refine esr ?_
  refine rno 3 [.run [] (Instr.loadAt 31 (pb b79)) (.agg #[iv y10.Rays, iv (if x81 > 0 then x81 else 0), iv (if x83 > 0 then x83 else 0), iv (if x85 < 1000 then x85 else 1000)])] 3 [(18, sv ad64 y62.1 cap65), (19, iv y62.2), (22, sv ad94 y92.1 cap95), (23, iv y92.2), (98, .agg #[iv y10.Rays, iv (if x81 > 0 then x81 else 0), iv (if x83 > 0 then x83 else 0), iv (if x85 < 1000 then x85 else 1000)]), (99, sv ad32 y12 cap33), (100, sv ad51 y50 cap52)] hF (ocons (obN (us := [iv y10.Rays, iv (if x81 > 0 then x81 else 0), iv (if x83 > 0 then x83 else 0), iv (if x85 < 1000 then x85 else 1000)]) (by kernel_rfl) (fun _ hd => ((hS.at_ hd).blk (i := 0) rfl).cells rfl)) onil) fun a hF => ?_
  replace h := bindS h
  obtain ⟨y99, hy99, h⟩ := h
  refine SK.wi (callK (f := 18) (args := #[.agg #[iv y10.Rays, iv (if x81 > 0 then x81 else 0), iv (if x83 > 0 then x83 else 0), iv (if x85 < 1000 then x85 else 1000)], sv ad32 y12 cap33, sv ad51 y50 cap52]) (R := fun v w2 => ∃ ν100 ad101 cap102, ν93.ext w.heap.size ν100 ∧ v = .tuple #[sv ad101 y99.1 cap102, iv y99.2] ∧ ArrM ν100 1 fI ad101 cap102 y99.1 ∧ St w [frzR w.heap.size ν100] w2) (fun v98 => [(18, sv ad64 y62.1 cap65), (19, iv y62.2), (22, sv ad94 y92.1 cap95), (23, iv y92.2), (101, v98)]) hF (by kernel_rfl) ⟨by kernel_rfl⟩ (Calls.mono (plan_Judge_ok F (plan_Radar.mk y10.Rays (if x81 > 0 then x81 else 0) (if x83 > 0 then x83 else 0) (if x85 < 1000 then x85 else 1000)) y12 y50 _ hy99 ν93 w (hS.frz (i := 3) rfl hlow) hA56 hA60) (by rintro e w2 ⟨ν100, ad101, cap102, hx104, rfl, hA103, h⟩; exact ⟨_, rfl, ν100, ad101, cap102, hx104, rfl, hA103, h⟩)) (fun _ => ⟨by kernel_rfl⟩) ?_)
  rintro v98 w a ⟨ν100, ad101, cap102, hx104, rfl, hA103, hQ⟩ hF
  replace hext := Frz.ext_trans hext (Frz.ext_mono hx104 hS.ext.size)
  obtain ⟨hlow, hS⟩ := hS.frzMerge (i := 3) rfl hlow hx104 hQ
  replace hA3 := hA3.mono hx104.1
  replace hA6 := hA6.mono hx104.1
  replace hA56 := hA56.mono hx104.1
  replace hA60 := hA60.mono hx104.1
  replace hA66 := hA66.mono hx104.1
  replace hA90 := hA90.mono hx104.1
  replace hA96 := hA96.mono hx104.1
  replace hS : St w0 [blk b79 31 #[iv y10.Rays, iv (if x81 > 0 then x81 else 0), iv (if x83 > 0 then x83 else 0), iv (if x85 < 1000 then x85 else 1000)], blk b31 31 y10.ar, blk b7 75 #[.int .u8 p0.Rays, .int .u8 p0.Turn, .int .u8 p0.Move, .int .u8 p0.Duty, sv ad1 p0.Jobs cap2], fz w0 ν100] w := hS
  refine rn 5 9 [(18, sv ad64 y62.1 cap65), (19, iv y62.2), (22, sv ad94 y92.1 cap95), (23, iv y92.2), (24, sv ad101 y99.1 cap102), (25, iv y99.2)] hF fun a hF => ?_
  refine wfn rfl ?_
  refine eseq ?_
  refine esr ?_
  refine rn 22 22 [(18, sv ad64 y62.1 cap65), (22, sv ad94 y92.1 cap95), (24, sv ad101 y99.1 cap102), (125, .bool (bif (bif (bif (y62.2 != y92.2) then true else (y62.2 != y99.2)) then true else ((ln y92.1) != (ln y62.1))) then true else ((ln y99.1) != (ln y62.1))))] hF fun a hF => ?_
  refine wfn rfl ?_
  refine econd hF rfl (fun hc => ?_) (fun hc => ?_)
  ·replace h := bif_t h hc
   refine esr ?_
   refine rn 1 1 [(14, .bool false)] hF fun a hF => ?_
   refine wfn rfl ?_
   refine wpIn_ret (ret_then <| fn_ret [.tmp 14] [.bool false] hF rfl ⟨rfl, trivial⟩ ?_)
   have hr_ := Option.some.inj h
   subst hr_
   exact ⟨rfl, hS.ext⟩
  ·replace h := bif_f h hc
   refine wpIn_skip (norm_then ?_)
   refine ecut (fun a w => Fr 153 [] [] a ∧ St w0 [blk b79 31 #[iv y10.Rays, iv (if x81 > 0 then x81 else 0), iv (if x83 > 0 then x83 else 0), iv (if x85 < 1000 then x85 else 1000)], blk b31 31 y10.ar, blk b7 75 #[.int .u8 p0.Rays, .int .u8 p0.Turn, .int .u8 p0.Move, .int .u8 p0.Duty, sv ad1 p0.Jobs cap2], fz w0 ν100] w ∧ law06_PlanTime_K1 F = some res) ?_ ?_
   ·skip
    refine esr ?_
    refine rn 3 3 [(18, sv ad64 y62.1 cap65), (22, sv ad94 y92.1 cap95), (24, sv ad101 y99.1 cap102), (127, iv (ln y62.1)), (128, iv 0)] hF fun a hF => ?_
    refine wfn rfl ?_
    refine wpIn_block ?_
    refine eloop (fun n_ a w => ∃ (x136 : Int), Fr 153 [] [(18, sv ad64 y62.1 cap65), (22, sv ad94 y92.1 cap95), (24, sv ad101 y99.1 cap102), (127, iv (ln y62.1)), (128, iv x136)] a ∧ St w0 [blk b79 31 #[iv y10.Rays, iv (if x81 > 0 then x81 else 0), iv (if x83 > 0 then x83 else 0), iv (if x85 < 1000 then x85 else 1000)], blk b31 31 y10.ar, blk b7 75 #[.int .u8 p0.Rays, .int .u8 p0.Turn, .int .u8 p0.Move, .int .u8 p0.Duty, sv ad1 p0.Jobs cap2], fz w0 ν100] w ∧ law06_PlanTime_L2 F y62 y92 y99 n_ x136 = some res) F ⟨0, hF.sub (by kernel_rfl), St.pick [0, 1, 2, 3] (by decide) hS, h⟩ ?_
    rintro n_ a w ⟨x136, hF, hS, h⟩
    rcases n_ with _ | n_
    ·cases (show (none : Option Bool) = some res from h)
    obtain ⟨k2, hk2⟩ : ∃ k, k = law06_PlanTime_L2 F y62 y92 y99 n_ := ⟨_, rfl⟩
    replace h : law06_PlanTime_B2 F y62 y92 y99 k2 x136 = some res := by rw [hk2]; exact h
    rw [law06_PlanTime_B2] at h
    refine esr ?_
    refine rn 1 1 [(18, sv ad64 y62.1 cap65), (22, sv ad94 y92.1 cap95), (24, sv ad101 y99.1 cap102), (127, iv (ln y62.1)), (128, iv x136), (129, .bool (decide (x136 < (ln y62.1))))] hF fun a hF => ?_
    refine wfn rfl ?_
    refine eseq ?_
    refine econd hF rfl (fun hc => ?_) (fun hc => ?_)
    ·replace h := bif_t h hc
     refine wpIn_skip (norm_then ?_)
     refine eseq ?_
     refine wpIn_block ?_
     refine esr ?_
     refine rn 2 2 [(18, sv ad64 y62.1 cap65), (22, sv ad94 y92.1 cap95), (24, sv ad101 y99.1 cap102), (26, iv x136), (127, iv (ln y62.1)), (128, iv x136)] hF fun a hF => ?_
     refine wfn rfl ?_
     refine eseq ?_
     replace h := bindS h
     obtain ⟨u138, hu138, h⟩ := h
     replace h := bindS h
     obtain ⟨u139, hu139, h⟩ := h
     replace h := bindS h
     obtain ⟨u140, hu140, h⟩ := h
     replace h := bindS h
     obtain ⟨u141, hu141, h⟩ := h
     refine runD (obs := [.run [] (Instr.indexAt 40 (sv ad94 y92.1 cap95) (iv x136)) (.pointer (some (slAddr ad94 x136 1))), .run [] (Instr.loadAt 3 (.pointer (some (slAddr ad94 x136 1)))) (iv u138), .run [] (Instr.indexAt 40 (sv ad64 y62.1 cap65) (iv x136)) (.pointer (some (slAddr ad64 x136 1))), .run [] (Instr.loadAt 3 (.pointer (some (slAddr ad64 x136 1)))) (iv u139), .run [⟨140, false, (decide (u138 < u139))⟩] (Instr.indexAt 40 (sv ad101 y99.1 cap102) (iv x136)) (.pointer (some (slAddr ad101 x136 1))), .run [⟨140, false, (decide (u138 < u139))⟩] (Instr.loadAt 3 (.pointer (some (slAddr ad101 x136 1)))) (iv u140), .run [⟨140, false, (decide (u138 < u139))⟩] (Instr.indexAt 40 (sv ad64 y62.1 cap65) (iv x136)) (.pointer (some (slAddr ad64 x136 1))), .run [⟨140, false, (decide (u138 < u139))⟩] (Instr.loadAt 3 (.pointer (some (slAddr ad64 x136 1)))) (iv u141)]) 20 [(18, sv ad64 y62.1 cap65), (22, sv ad94 y92.1 cap95), (24, sv ad101 y99.1 cap102), (127, iv (ln y62.1)), (128, iv x136), (150, .bool (bif (decide (u138 < u139)) then true else (decide (u140 < u141))))] (by kernel_rfl) hF (by kernel_rfl) (ocons (obIdxQ (hA96 _ (hS.frz (i := 3) rfl hlow)) (by kernel_rfl) (fun _ => hu138)) (ocons (obElQ (i := x136) 0 fI_len (fun _ hd => (hA96 _ ((hS.later hd).frz (i := 3) rfl hlow))) (by kernel_rfl) (fun _ => hu138) rfl) (ocons (obIdxQ (hA66 _ (hS.frz (i := 3) rfl hlow)) (by kernel_rfl) (fun _ => hu139)) (ocons (obElQ (i := x136) 0 fI_len (fun _ hd => (hA66 _ ((hS.later hd).frz (i := 3) rfl hlow))) (by kernel_rfl) (fun _ => hu139) rfl) (ocons (obIdxQ (hA103 _ (hS.frz (i := 3) rfl hlow)) (by kernel_rfl) (fun hk => gd_some hu140 hk)) (ocons (obElQ (i := x136) 0 fI_len (fun _ hd => (hA103 _ ((hS.later hd).frz (i := 3) rfl hlow))) (by kernel_rfl) (fun hk => gd_some hu140 hk) rfl) (ocons (obIdxQ (hA66 _ (hS.frz (i := 3) rfl hlow)) (by kernel_rfl) (fun hk => gd_some hu141 hk)) (ocons (obElQ (i := x136) 0 fI_len (fun _ hd => (hA66 _ ((hS.later hd).frz (i := 3) rfl hlow))) (by kernel_rfl) (fun hk => gd_some hu141 hk) rfl) onil)))))))) ⟨by kernel_rfl⟩ fun a w hF hx => ?_
     replace hS := hS.later hx
     refine wfn rfl ?_
     refine econd hF rfl (fun hc => ?_) (fun hc => ?_)
     ·replace h := bif_t h hc
      refine esr ?_
      refine rn 1 1 [(14, .bool false)] hF fun a hF => ?_
      refine wfn rfl ?_
      refine wpIn_ret (ret_block <| ret_then <| ret_then <| ret_block <| ret_then <| fn_ret [.tmp 14] [.bool false] hF rfl ⟨rfl, trivial⟩ ?_)
      have hr_ := Option.some.inj h
      subst hr_
      exact ⟨rfl, hS.ext⟩
     ·replace h := bif_f h hc
      refine wpIn_skip (norm_block <| norm_then <| ?_)
      refine WI.region ?_
      replace h := bindS h
      obtain ⟨x142, hx142, h⟩ := h
      refine rno 2 [.run [] (binOp .add 3 (iv x136) (iv 1)) (iv x142)] 2 [(18, sv ad64 y62.1 cap65), (22, sv ad94 y92.1 cap95), (24, sv ad101 y99.1 cap102), (127, iv (ln y62.1)), (128, iv x142)] hF (ocons (obAddC (fun _ => hx142)) onil) fun a hF => ?_
      refine wfn rfl ?_
      rw [hk2] at h
      exact ⟨n_, Nat.lt_succ_self _, x142, hF.sub (by kernel_rfl), St.pick [0, 1, 2, 3] (by decide) hS, h⟩
    ·replace h := bif_f h hc
     refine wpIn_exit (exit_then <| exit_then <| exit_hit <| norm_then ?_)
     exact ⟨hF.sub (by kernel_rfl), St.pick [0, 1, 2, 3] (by decide) hS, h⟩
   rintro a w ⟨hF, hS, h⟩
   rw [law06_PlanTime_K1] at h
   refine esr ?_
   replace h := bindS h
   obtain ⟨y123, hy123, h⟩ := h
   refine rx 2 [.call [] 17 #[] (.bool y123)] 2 [(14, .bool y123)] hF (ocons (show Ob.ok _ Ext _ _ from fun hk w2 hd => law06_works_ok F  _ ((fun _ => hy123) hk) _ w2 (memOf_at w2) ) onil) fun a w hF hx => ?_
   replace hS := hS.later hx
   refine wfn rfl ?_
   refine wpIn_ret (fn_ret [.tmp 14] [.bool y123] hF rfl ⟨rfl, trivial⟩ ?_)
   have hr_ := Option.some.inj h
   subst hr_
   exact ⟨rfl, hS.ext⟩
end Go.Proofs.Ytejffembnkojjaa
