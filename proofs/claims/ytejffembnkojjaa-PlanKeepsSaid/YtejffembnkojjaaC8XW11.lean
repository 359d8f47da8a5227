/- Walks, written by program (wip/gen/dec.py). -/
import Derived.Test.YtejffembnkojjaaC8XD
import Derived.Test.YtejffembnkojjaaProg
import Derived.Test.YtejffembnkojjaaC8XW0
import Derived.Test.YtejffembnkojjaaC8XW1
import Derived.Test.YtejffembnkojjaaC8XW6
import Derived.Test.YtejffembnkojjaaC8XW7
import Derived.Test.YtejffembnkojjaaC8XW10
namespace Go.Proofs.Ytejffembnkojjaa
open Go Go.RowKit Go.Eng
set_option maxRecDepth 10000
set_option maxHeartbeats 4000000
set_option linter.unusedVariables false
set_option linter.unusedSimpArgs false
theorem law06_PlanKeeps_ok (F : Nat) (p0 : law06_Desk) (p1 : (List Int)) (p2 : Int) (p3 : Int) (res : Bool) (h : law06_PlanKeeps F p0 p1 p2 p3 = some res) (μ : Frz) (w0 : World) (hm : FrzAt μ w0) {ad1 : Option Addr} {cap2 : Nat} {ad4 : Option Addr} {cap5 : Nat} (hA3 : ArrM μ 6 law06_Wish.cells ad1 cap2 p0.Jobs) (hA6 : ArrM μ 1 (fK .u8) ad4 cap5 p1) : Calls Try.prog 8 #[.agg #[.int .u8 p0.Rays, .int .u8 p0.Turn, .int .u8 p0.Move, .int .u8 p0.Duty, sv ad1 p0.Jobs cap2], sv ad4 p1 cap5, .int .u8 p2, .int .u8 p3] w0 (fun e w => e = .returned (.bool res) ∧ Ext w0 w) := by
 obtain ⟨hlow, hS⟩ := hm.init
 have hext := Frz.ext_refl w0.heap.size μ
 rw [law06_PlanKeeps] at h
 refine fn_enterW Try.func8 rfl 164 [(0, .agg #[.int .u8 p0.Rays, .int .u8 p0.Turn, .int .u8 p0.Move, .int .u8 p0.Duty, sv ad1 p0.Jobs cap2]), (1, sv ad4 p1 cap5), (2, .int .u8 p2), (3, .int .u8 p3)] rfl rfl (by kernel_rfl) fun a w hw hF => ?_
 replace hS : St w0 [fz w0 μ] w := by rw [hw]; exact hS
 clear hw
 refine esr ?_
 refine SK.wi (boxK (t := 75) (fun b7 => [(1, sv ad4 p1 cap5), (2, .int .u8 p2), (3, .int .u8 p3), (4, pb b7)]) (.agg #[.int .u8 p0.Rays, .int .u8 p0.Turn, .int .u8 p0.Move, .int .u8 p0.Duty, sv ad1 p0.Jobs cap2]) #[.int .u8 p0.Rays, .int .u8 p0.Turn, .int .u8 p0.Move, .int .u8 p0.Duty, sv ad1 p0.Jobs cap2] hF hS (by kernel_rfl) ⟨by kernel_rfl⟩ (by kernel_rfl) (fun _ => ⟨by kernel_rfl⟩) fun b7 w a hF hS => ?_)
 refine rn 1 2 [(1, sv ad4 p1 cap5), (2, .int .u8 p2), (3, .int .u8 p3), (4, pb b7)] hF fun a hF => ?_
 refine wfn rfl ?_
 refine eseq ?_
 refine esr ?_
 refine rn 8 8 [(1, sv ad4 p1 cap5), (2, .int .u8 p2), (3, .int .u8 p3), (4, pb b7), (34, .bool (bif (decide ((ln p1) < 1)) then true else (decide ((ln p1) > 12))))] hF fun a hF => ?_
 refine wfn rfl ?_
 refine econd hF rfl (fun hc => ?_) (fun hc => ?_)
 ·replace h := bif_t h hc
  refine esr ?_
  replace h := bindS h
  obtain ⟨y8, hy8, h⟩ := h
  refine rx 2 [.call [] 17 #[] (.bool y8)] 2 [(8, .bool y8)] hF (ocons (show Ob.ok _ Ext _ _ from fun hk w2 hd => law06_works_ok F  _ ((fun _ => hy8) hk) _ w2 (memOf_at w2) ) onil) fun a w hF hx => ?_
  replace hS := hS.later hx
  refine wfn rfl ?_
  refine wpIn_ret (ret_then <| fn_ret [.tmp 8] [.bool y8] hF rfl ⟨rfl, trivial⟩ ?_)
  have hr_ := Option.some.inj h
  subst hr_
  exact ⟨rfl, hS.ext⟩
 ·replace h := bif_f h hc
  refine wpIn_skip (norm_then ?_)
  refine eseq ?_
  replace h := bindS h
  obtain ⟨y10, hy10, h⟩ := h
  replace h := bindS h
  obtain ⟨y12, hy12, h⟩ := h
  refine region_treeW 5 [1, 3, 4] (fun a w => ∃ (b31 : Nat) (ad32 : Option Addr) (cap33 : Nat), Fr 164 [] [(1, sv ad4 p1 cap5), (2, .int .u8 p2), (3, .int .u8 p3), (9, pb b31), (37, y10.ag), (39, sv ad32 y12 cap33)] a ∧ St w0 [blk b31 31 #[iv 0, iv 0, iv 0, iv 0], arr 34 8 plan_Job.cells ad32 y12.length cap33 y12, blk b7 75 #[.int .u8 p0.Rays, .int .u8 p0.Turn, .int .u8 p0.Move, .int .u8 p0.Duty, sv ad1 p0.Jobs cap2], fz w0 μ] w) (D := fun w => St w0 [blk b7 75 #[.int .u8 p0.Rays, .int .u8 p0.Turn, .int .u8 p0.Move, .int .u8 p0.Duty, sv ad1 p0.Jobs cap2]] w ∧ FrzAt μ w) (by kernel_rfl) (by kernel_rfl) hF.size (fun w hx => ?_) ?_
  ·skip
   replace hS := hS.later hx
   refine ⟨⟨St.pick [0] (by decide) hS, hS.frz (i := 1) rfl hlow⟩, ?_⟩
   have hcl34 := Frz.le_refl μ
   refine WT.s [0, 2] [1, 4] (by kernel_rfl) (by kernel_rfl) ?_
   refine runC (rest := []) (obs := [.run [] (Instr.loadAt 75 (pb b7)) (.agg #[.int .u8 p0.Rays, .int .u8 p0.Turn, .int .u8 p0.Move, .int .u8 p0.Duty, sv ad1 p0.Jobs cap2]), .run [] (Instr.loadAt 75 (pb b7)) (.agg #[.int .u8 p0.Rays, .int .u8 p0.Turn, .int .u8 p0.Move, .int .u8 p0.Duty, sv ad1 p0.Jobs cap2])]) [0, 2] [(1, sv ad4 p1 cap5), (2, .int .u8 p2), (3, .int .u8 p3), (36, .agg #[.int .u8 p0.Rays, .int .u8 p0.Turn, .int .u8 p0.Move, .int .u8 p0.Duty, sv ad1 p0.Jobs cap2]), (38, .agg #[.int .u8 p0.Rays, .int .u8 p0.Turn, .int .u8 p0.Move, .int .u8 p0.Duty, sv ad1 p0.Jobs cap2])] hF (by kernel_rfl) (by kernel_rfl) (ocons (obN (us := [.int .u8 p0.Rays, .int .u8 p0.Turn, .int .u8 p0.Move, .int .u8 p0.Duty, sv ad1 p0.Jobs cap2]) (by kernel_rfl) (fun _ hd => (hd.1.blk (i := 0) rfl).cells rfl)) (ocons (obN (us := [.int .u8 p0.Rays, .int .u8 p0.Turn, .int .u8 p0.Move, .int .u8 p0.Duty, sv ad1 p0.Jobs cap2]) (by kernel_rfl) (fun _ hd => (hd.1.blk (i := 0) rfl).cells rfl)) onil)) ⟨by kernel_rfl⟩ fun a hF => ?_
   refine WRun.fin ?_
   refine all_cons ?_ (all_cons ?_ (all_nil))
   ·skip
    refine callK (f := 36) (args := #[.agg #[.int .u8 p0.Rays, .int .u8 p0.Turn, .int .u8 p0.Move, .int .u8 p0.Duty, sv ad1 p0.Jobs cap2]]) (R := fun v w2 => v = y10.ag ∧ Ext w w2) (fun v35 => [(1, sv ad4 p1 cap5), (2, .int .u8 p2), (3, .int .u8 p3), (37, v35), (38, .agg #[.int .u8 p0.Rays, .int .u8 p0.Turn, .int .u8 p0.Move, .int .u8 p0.Duty, sv ad1 p0.Jobs cap2])]) hF (by kernel_rfl) ⟨by kernel_rfl⟩ (Calls.mono (law06_Desk_radar_ok F p0 _ hy10 (memOf w) w (memOf_at w) (hA3.mono (FrzAt.le_mem (hS.frz (i := 1) rfl hlow)))) (fun e w2 h => ⟨_, h.1, rfl, h.2⟩)) (fun _ => ⟨by kernel_rfl⟩) ?_
    rintro v35 w a ⟨rfl, hx⟩ hF
    replace hS := hS.later hx
    refine ⟨⟨St.pick [0] (by decide) hS, (hS.frz (i := 1) rfl hlow)⟩, ?_⟩
    refine WT.s [] [3, 4] (by kernel_rfl) (by kernel_rfl) ?_
    refine WRun.fin ?_
    refine all_cons ?_ (all_cons ?_ (all_nil))
    ·skip
     refine callK (f := 37) (args := #[.agg #[.int .u8 p0.Rays, .int .u8 p0.Turn, .int .u8 p0.Move, .int .u8 p0.Duty, sv ad1 p0.Jobs cap2]]) (R := fun v w2 => ∃ ad37 cap38, v = sv ad37 y12 cap38 ∧ St w [arr 34 8 plan_Job.cells ad37 y12.length cap38 y12] w2) (fun v36 => [(1, sv ad4 p1 cap5), (2, .int .u8 p2), (3, .int .u8 p3), (37, y10.ag), (39, v36)]) hF (by kernel_rfl) ⟨by kernel_rfl⟩ (Calls.mono (law06_Desk_jobs_ok F p0 _ hy12 (memOf w) w (memOf_at w) (hA3.mono (FrzAt.le_mem (hS.frz (i := 1) rfl hlow)))) (by rintro e w2 ⟨ad37, cap38, rfl, h⟩; exact ⟨_, rfl, ad37, cap38, rfl, h⟩)) (fun _ => ⟨by kernel_rfl⟩) ?_
     rintro v36 w a ⟨ad37, cap38, rfl, hQ⟩ hF
     replace hS : St w0 [arr 34 8 plan_Job.cells ad37 y12.length cap38 y12, blk b7 75 #[.int .u8 p0.Rays, .int .u8 p0.Turn, .int .u8 p0.Move, .int .u8 p0.Duty, sv ad1 p0.Jobs cap2], fz w0 μ] w := hS.madeL hQ
     refine ⟨⟨St.pick [1] (by decide) hS, (hS.frz (i := 2) rfl hlow)⟩, ?_⟩
     refine WT.s [] [4] (by kernel_rfl) (by kernel_rfl) ?_
     refine WRun.fin ?_
     refine all_cons ?_ (all_nil)
     refine allocK (t := 31) (fun b39 => [(1, sv ad4 p1 cap5), (2, .int .u8 p2), (3, .int .u8 p3), (9, pb b39), (37, y10.ag), (39, sv ad37 y12 cap38)]) #[iv 0, iv 0, iv 0, iv 0] hF hS (by kernel_rfl) ⟨by kernel_rfl⟩ (by kernel_rfl) (fun _ => ⟨by kernel_rfl⟩) fun b39 w a hF hS => ⟨⟨St.pick [2] (by decide) hS, (hS.frz (i := 3) rfl hlow)⟩, ?_⟩
     refine WT.z [] (by kernel_rfl) ?_
     refine WRun.fin ?_
     exact ⟨b39, ad37, cap38, hF.sub (by kernel_rfl), St.pick [0, 1, 2, 3] (by decide) hS⟩
    ·skip
     refine allocK (t := 31) (fun b40 => [(1, sv ad4 p1 cap5), (2, .int .u8 p2), (3, .int .u8 p3), (9, pb b40), (37, y10.ag), (38, .agg #[.int .u8 p0.Rays, .int .u8 p0.Turn, .int .u8 p0.Move, .int .u8 p0.Duty, sv ad1 p0.Jobs cap2])]) #[iv 0, iv 0, iv 0, iv 0] hF hS (by kernel_rfl) ⟨by kernel_rfl⟩ (by kernel_rfl) (fun _ => ⟨by kernel_rfl⟩) fun b40 w a hF hS => ⟨⟨St.pick [1] (by decide) hS, (hS.frz (i := 2) rfl hlow)⟩, ?_⟩
     refine WT.s [] [3] (by kernel_rfl) (by kernel_rfl) ?_
     refine WRun.fin ?_
     refine all_cons ?_ (all_nil)
     refine callK (f := 37) (args := #[.agg #[.int .u8 p0.Rays, .int .u8 p0.Turn, .int .u8 p0.Move, .int .u8 p0.Duty, sv ad1 p0.Jobs cap2]]) (R := fun v w2 => ∃ ad42 cap43, v = sv ad42 y12 cap43 ∧ St w [arr 34 8 plan_Job.cells ad42 y12.length cap43 y12] w2) (fun v41 => [(1, sv ad4 p1 cap5), (2, .int .u8 p2), (3, .int .u8 p3), (9, pb b40), (37, y10.ag), (39, v41)]) hF (by kernel_rfl) ⟨by kernel_rfl⟩ (Calls.mono (law06_Desk_jobs_ok F p0 _ hy12 (memOf w) w (memOf_at w) (hA3.mono (FrzAt.le_mem (hS.frz (i := 2) rfl hlow)))) (by rintro e w2 ⟨ad42, cap43, rfl, h⟩; exact ⟨_, rfl, ad42, cap43, rfl, h⟩)) (fun _ => ⟨by kernel_rfl⟩) ?_
     rintro v41 w a ⟨ad42, cap43, rfl, hQ⟩ hF
     replace hS : St w0 [arr 34 8 plan_Job.cells ad42 y12.length cap43 y12, blk b40 31 #[iv 0, iv 0, iv 0, iv 0], blk b7 75 #[.int .u8 p0.Rays, .int .u8 p0.Turn, .int .u8 p0.Move, .int .u8 p0.Duty, sv ad1 p0.Jobs cap2], fz w0 μ] w := hS.madeL hQ
     refine ⟨⟨St.pick [2] (by decide) hS, (hS.frz (i := 3) rfl hlow)⟩, ?_⟩
     refine WT.z [] (by kernel_rfl) ?_
     refine WRun.fin ?_
     exact ⟨b40, ad42, cap43, hF.sub (by kernel_rfl), St.pick [1, 0, 2, 3] (by decide) hS⟩
   ·skip
    refine allocK (t := 31) (fun b44 => [(1, sv ad4 p1 cap5), (2, .int .u8 p2), (3, .int .u8 p3), (9, pb b44), (36, .agg #[.int .u8 p0.Rays, .int .u8 p0.Turn, .int .u8 p0.Move, .int .u8 p0.Duty, sv ad1 p0.Jobs cap2]), (38, .agg #[.int .u8 p0.Rays, .int .u8 p0.Turn, .int .u8 p0.Move, .int .u8 p0.Duty, sv ad1 p0.Jobs cap2])]) #[iv 0, iv 0, iv 0, iv 0] hF hS (by kernel_rfl) ⟨by kernel_rfl⟩ (by kernel_rfl) (fun _ => ⟨by kernel_rfl⟩) fun b44 w a hF hS => ⟨⟨St.pick [1] (by decide) hS, (hS.frz (i := 2) rfl hlow)⟩, ?_⟩
    refine WT.s [] [1] (by kernel_rfl) (by kernel_rfl) ?_
    refine WRun.fin ?_
    refine all_cons ?_ (all_nil)
    refine callK (f := 36) (args := #[.agg #[.int .u8 p0.Rays, .int .u8 p0.Turn, .int .u8 p0.Move, .int .u8 p0.Duty, sv ad1 p0.Jobs cap2]]) (R := fun v w2 => v = y10.ag ∧ Ext w w2) (fun v45 => [(1, sv ad4 p1 cap5), (2, .int .u8 p2), (3, .int .u8 p3), (9, pb b44), (37, v45), (38, .agg #[.int .u8 p0.Rays, .int .u8 p0.Turn, .int .u8 p0.Move, .int .u8 p0.Duty, sv ad1 p0.Jobs cap2])]) hF (by kernel_rfl) ⟨by kernel_rfl⟩ (Calls.mono (law06_Desk_radar_ok F p0 _ hy10 (memOf w) w (memOf_at w) (hA3.mono (FrzAt.le_mem (hS.frz (i := 2) rfl hlow)))) (fun e w2 h => ⟨_, h.1, rfl, h.2⟩)) (fun _ => ⟨by kernel_rfl⟩) ?_
    rintro v45 w a ⟨rfl, hx⟩ hF
    replace hS := hS.later hx
    refine ⟨⟨St.pick [1] (by decide) hS, (hS.frz (i := 2) rfl hlow)⟩, ?_⟩
    refine WT.s [] [3] (by kernel_rfl) (by kernel_rfl) ?_
    refine WRun.fin ?_
    refine all_cons ?_ (all_nil)
    refine callK (f := 37) (args := #[.agg #[.int .u8 p0.Rays, .int .u8 p0.Turn, .int .u8 p0.Move, .int .u8 p0.Duty, sv ad1 p0.Jobs cap2]]) (R := fun v w2 => ∃ ad47 cap48, v = sv ad47 y12 cap48 ∧ St w [arr 34 8 plan_Job.cells ad47 y12.length cap48 y12] w2) (fun v46 => [(1, sv ad4 p1 cap5), (2, .int .u8 p2), (3, .int .u8 p3), (9, pb b44), (37, y10.ag), (39, v46)]) hF (by kernel_rfl) ⟨by kernel_rfl⟩ (Calls.mono (law06_Desk_jobs_ok F p0 _ hy12 (memOf w) w (memOf_at w) (hA3.mono (FrzAt.le_mem (hS.frz (i := 2) rfl hlow)))) (by rintro e w2 ⟨ad47, cap48, rfl, h⟩; exact ⟨_, rfl, ad47, cap48, rfl, h⟩)) (fun _ => ⟨by kernel_rfl⟩) ?_
    rintro v46 w a ⟨ad47, cap48, rfl, hQ⟩ hF
    replace hS : St w0 [arr 34 8 plan_Job.cells ad47 y12.length cap48 y12, blk b44 31 #[iv 0, iv 0, iv 0, iv 0], blk b7 75 #[.int .u8 p0.Rays, .int .u8 p0.Turn, .int .u8 p0.Move, .int .u8 p0.Duty, sv ad1 p0.Jobs cap2], fz w0 μ] w := hS.madeL hQ
    refine ⟨⟨St.pick [2] (by decide) hS, (hS.frz (i := 3) rfl hlow)⟩, ?_⟩
    refine WT.z [] (by kernel_rfl) ?_
    refine WRun.fin ?_
    exact ⟨b44, ad47, cap48, hF.sub (by kernel_rfl), St.pick [1, 0, 2, 3] (by decide) hS⟩
  rintro a w ⟨b31, ad32, cap33, hF, hS⟩
  refine SK.wi (storeK (t := 31) [(1, sv ad4 p1 cap5), (2, .int .u8 p2), (3, .int .u8 p3), (9, pb b31), (39, sv ad32 y12 cap33)] 0 0 (y10.ag) y10.ar hF hS rfl (by kernel_rfl) ⟨by kernel_rfl⟩ (by kernel_rfl) (by kernel_rfl) (by kernel_rfl) (by kernel_rfl) ⟨by kernel_rfl⟩ fun w a hF hS => ?_)
  refine rn 1 7 [(1, sv ad4 p1 cap5), (2, .int .u8 p2), (3, .int .u8 p3), (9, pb b31), (10, sv ad32 y12 cap33)] hF fun a hF => ?_
  refine wfn rfl ?_
  refine esr ?_
  refine rn 3 3 [(2, .int .u8 p2), (3, .int .u8 p3), (9, pb b31), (10, sv ad32 y12 cap33), (40, sv ad4 p1 cap5), (42, iv (ln y12))] hF fun a hF => ?_
  replace h := bindS h
  obtain ⟨y50, hy50, h⟩ := h
  refine SK.wi (callK (f := 38) (args := #[sv ad4 p1 cap5, iv (ln y12)]) (R := fun v w2 => ∃ ad51 cap52, v = sv ad51 y50 cap52 ∧ St w [arr 3 1 fI ad51 y50.length cap52 y50] w2) (fun v49 => [(2, .int .u8 p2), (3, .int .u8 p3), (9, pb b31), (10, sv ad32 y12 cap33), (43, v49)]) hF (by kernel_rfl) ⟨by kernel_rfl⟩ (Calls.mono (law06_entries_ok F p1 (ln y12) _ hy50 (memOf w) w (memOf_at w) (hA6.mono (FrzAt.le_mem (hS.frz (i := 3) rfl hlow)))) (by rintro e w2 ⟨ad51, cap52, rfl, h⟩; exact ⟨_, rfl, ad51, cap52, rfl, h⟩)) (fun _ => ⟨by kernel_rfl⟩) ?_)
  rintro v49 w a ⟨ad51, cap52, rfl, hQ⟩ hF
  replace hS : St w0 [arr 3 1 fI ad51 y50.length cap52 y50, blk b31 31 y10.ar, arr 34 8 plan_Job.cells ad32 y12.length cap33 y12, blk b7 75 #[.int .u8 p0.Rays, .int .u8 p0.Turn, .int .u8 p0.Move, .int .u8 p0.Duty, sv ad1 p0.Jobs cap2], fz w0 μ] w := hS.madeL hQ
  refine rn 1 5 [(2, .int .u8 p2), (3, .int .u8 p3), (9, pb b31), (10, sv ad32 y12 cap33), (11, sv ad51 y50 cap52)] hF fun a hF => ?_
  refine wfn rfl ?_
  refine esr ?_
  refine rno 3 [.run [] (Instr.loadAt 31 (pb b31)) (y10.ag)] 3 [(2, .int .u8 p2), (3, .int .u8 p3), (9, pb b31), (10, sv ad32 y12 cap33), (11, sv ad51 y50 cap52), (45, y10.ag), (46, sv ad32 y12 cap33), (47, sv ad51 y50 cap52)] hF (ocons (obN (us := y10.cells) (by kernel_rfl) (fun _ hd => ((hS.at_ hd).blk (i := 1) rfl).cells rfl)) onil) fun a hF => ?_
  obtain ⟨ν53, hx54, hlow, hS, hz55⟩ := hS.freeze (i := 4) (j := 2) rfl rfl (by decide) hlow
  replace hA3 := hA3.mono hx54.1
  replace hA6 := hA6.mono hx54.1
  replace hext := Frz.ext_trans hext hx54
  replace hS : St w0 [arr 3 1 fI ad51 y50.length cap52 y50, blk b31 31 y10.ar, blk b7 75 #[.int .u8 p0.Rays, .int .u8 p0.Turn, .int .u8 p0.Move, .int .u8 p0.Duty, sv ad1 p0.Jobs cap2], fz w0 ν53] w := hS
  have hA56 := ArrM.of_arr hz55
  obtain ⟨ν57, hx58, hlow, hS, hz59⟩ := hS.freeze (i := 3) (j := 0) rfl rfl (by decide) hlow
  replace hA3 := hA3.mono hx58.1
  replace hA6 := hA6.mono hx58.1
  replace hA56 := hA56.mono hx58.1
  replace hext := Frz.ext_trans hext hx58
  replace hS : St w0 [blk b31 31 y10.ar, blk b7 75 #[.int .u8 p0.Rays, .int .u8 p0.Turn, .int .u8 p0.Move, .int .u8 p0.Duty, sv ad1 p0.Jobs cap2], fz w0 ν57] w := hS
  have hA60 := ArrM.of_arr hz59
  replace h := bindS h
  obtain ⟨y62, hy62, h⟩ := h
  refine SK.wi (callK (f := 18) (args := #[y10.ag, sv ad32 y12 cap33, sv ad51 y50 cap52]) (R := fun v w2 => ∃ ν63 ad64 cap65, ν57.ext w.heap.size ν63 ∧ v = .tuple #[sv ad64 y62.1 cap65, iv y62.2] ∧ ArrM ν63 1 fI ad64 cap65 y62.1 ∧ St w [frzR w.heap.size ν63] w2) (fun v61 => [(2, .int .u8 p2), (3, .int .u8 p3), (9, pb b31), (10, sv ad32 y12 cap33), (11, sv ad51 y50 cap52), (48, v61)]) hF (by kernel_rfl) ⟨by kernel_rfl⟩ (Calls.mono (plan_Judge_ok F y10 y12 y50 _ hy62 ν57 w (hS.frz (i := 2) rfl hlow) hA56 hA60) (by rintro e w2 ⟨ν63, ad64, cap65, hx67, rfl, hA66, h⟩; exact ⟨_, rfl, ν63, ad64, cap65, hx67, rfl, hA66, h⟩)) (fun _ => ⟨by kernel_rfl⟩) ?_)
  rintro v61 w a ⟨ν63, ad64, cap65, hx67, rfl, hA66, hQ⟩ hF
  replace hext := Frz.ext_trans hext (Frz.ext_mono hx67 hS.ext.size)
  obtain ⟨hlow, hS⟩ := hS.frzMerge (i := 2) rfl hlow hx67 hQ
  replace hA3 := hA3.mono hx67.1
  replace hA6 := hA6.mono hx67.1
  replace hA56 := hA56.mono hx67.1
  replace hA60 := hA60.mono hx67.1
  replace hS : St w0 [blk b31 31 y10.ar, blk b7 75 #[.int .u8 p0.Rays, .int .u8 p0.Turn, .int .u8 p0.Move, .int .u8 p0.Duty, sv ad1 p0.Jobs cap2], fz w0 ν63] w := hS
  refine rn 5 9 [(2, .int .u8 p2), (3, .int .u8 p3), (9, pb b31), (10, sv ad32 y12 cap33), (11, sv ad51 y50 cap52), (12, sv ad64 y62.1 cap65), (13, iv y62.2)] hF fun a hF => ?_
  refine wfn rfl ?_
  refine esr ?_
  replace h := bindS h
  obtain ⟨x68, hx68, h⟩ := h
  replace h := bindS h
  obtain ⟨x69, hx69, h⟩ := h
  refine rno 6 [.run [] (convert 5 3 (.int .u8 p3)) (iv x68), .run [] (binOp .rem 3 (iv x68) (iv (ln y50))) (iv x69)] 6 [(2, .int .u8 p2), (9, pb b31), (10, sv ad32 y12 cap33), (11, sv ad51 y50 cap52), (12, sv ad64 y62.1 cap65), (13, iv y62.2), (14, iv x69)] hF (ocons (obConvC (by kernel_rfl) (by kernel_rfl) (fun _ => hx68)) (ocons (obRemC (fun _ => hx69)) onil)) fun a hF => ?_
  refine wfn rfl ?_
  refine eseq ?_
  replace h := bindS h
  obtain ⟨l70, hl70, h⟩ := h
  replace h := bindS h
  obtain ⟨l72, hl72, h⟩ := h
  replace h := bindS h
  obtain ⟨l75, hl75, h⟩ := h
  replace h := bindS h
  obtain ⟨l78, hl78, h⟩ := h
  replace h := bindS h
  obtain ⟨y86, hy86, h⟩ := h
  refine region_treeW 17 [2, 6, 10, 11] _ (D := fun w => St w0 [blk b31 31 y10.ar, blk b7 75 #[.int .u8 p0.Rays, .int .u8 p0.Turn, .int .u8 p0.Move, .int .u8 p0.Duty, sv ad1 p0.Jobs cap2]] w ∧ FrzAt ν63 w) (by kernel_rfl) (by kernel_rfl) hF.size (fun w hx => ?_) (fun _ _ h => h)
  replace hS := hS.later hx
  refine ⟨⟨St.pick [0, 1] (by decide) hS, hS.frz (i := 2) rfl hlow⟩, ?_⟩
  have hcl109 := Frz.le_refl ν63
  have hA110 : ArrM ν63 1 fI (slOff ad51 cap52 x69.toNat 1) (cap52 - x69.toNat) l70 := fun w_ hw_ => (hA60 w_ hw_).cutD fI_len hl70
  have hA111 : ArrM ν63 1 fI (slOff ad51 cap52 (0 : Int).toNat 1) (cap52 - (0 : Int).toNat) l72 := fun w_ hw_ => (hA60 w_ hw_).cutD fI_len hl72
  refine WT.s [0, 1, 3, 4, 5, 7, 8, 9] [2] (by kernel_rfl) (by kernel_rfl) ?_
  refine runC (rest := []) (obs := [.run [] (Instr.loadAt 31 (pb b31)) (y10.ag), .run [] (Instr.sliceAt 40 (sv ad51 y50 cap52) (some (iv x69)) none none) (.slice (slOff ad51 cap52 x69.toNat 1) l70.length (cap52 - x69.toNat)), .run [] (Instr.sliceAt 40 (sv ad51 y50 cap52) none (some (iv x69)) none) (.slice (slOff ad51 cap52 (0 : Int).toNat 1) l72.length (cap52 - (0 : Int).toNat))]) [0, 1, 3, 4, 5, 7, 8, 9] [(2, .int .u8 p2), (9, pb b31), (10, sv ad32 y12 cap33), (11, sv ad51 y50 cap52), (12, sv ad64 y62.1 cap65), (13, iv y62.2), (57, y10.ag), (58, sv ad32 y12 cap33), (62, .slice (slOff ad51 cap52 x69.toNat 1) l70.length (cap52 - x69.toNat)), (66, .slice (slOff ad51 cap52 (0 : Int).toNat 1) l72.length (cap52 - (0 : Int).toNat))] hF (by kernel_rfl) (by kernel_rfl) (ocons (obN (us := y10.cells) (by kernel_rfl) (fun _ hd => (hd.1.blk (i := 0) rfl).cells rfl)) (ocons (obCutL (by kernel_rfl) (hA60 _ (hS.frz (i := 2) rfl hlow)) (fun _ => hl70)) (ocons (obCutH (by kernel_rfl) (hA60 _ (hS.frz (i := 2) rfl hlow)) (fun _ => hl72)) onil))) ⟨by kernel_rfl⟩ fun a hF => ?_
  refine WRun.fin ?_
  refine all_cons ?_ (all_nil)
  refine litK (e := 3) (sz := 1) (f := fI) (t := 40) (len := 0) (fun b112 => [(2, .int .u8 p2), (9, pb b31), (10, sv ad32 y12 cap33), (11, sv ad51 y50 cap52), (12, sv ad64 y62.1 cap65), (13, iv y62.2), (57, y10.ag), (58, sv ad32 y12 cap33), (59, sb b112 0), (62, .slice (slOff ad51 cap52 x69.toNat 1) l70.length (cap52 - x69.toNat)), (66, .slice (slOff ad51 cap52 (0 : Int).toNat 1) l72.length (cap52 - (0 : Int).toNat))]) #[] #[] ([] : List Int) hF hS (by kernel_rfl) ⟨by kernel_rfl⟩ (by kernel_rfl) fI_len rfl rfl (by kernel_rfl) (fun _ => ⟨by kernel_rfl⟩) fun b112 w a hF hS => ⟨⟨St.pick [1, 2] (by decide) hS, (hS.frz (i := 3) rfl hlow)⟩, ?_⟩
  refine WT.s [] [6] (by kernel_rfl) (by kernel_rfl) ?_
  refine WRun.fin ?_
  refine all_cons ?_ (all_nil)
  refine appK (t := 40) (ty := 40) (bytes := 8) (l := ([] : List Int)) (l' := l70) (fun ad113 cap114 => [(2, .int .u8 p2), (9, pb b31), (10, sv ad32 y12 cap33), (11, sv ad51 y50 cap52), (12, sv ad64 y62.1 cap65), (13, iv y62.2), (57, y10.ag), (58, sv ad32 y12 cap33), (63, sv ad113 l75 cap114), (66, .slice (slOff ad51 cap52 (0 : Int).toNat 1) l72.length (cap52 - (0 : Int).toNat))]) 0 hF hS rfl (by kernel_rfl) ⟨by kernel_rfl⟩ (by kernel_rfl) (hA110 _ (hS.frz (i := 3) rfl hlow)) (fun _ _ => rfl) hl75 (fun _ _ => ⟨by kernel_rfl⟩) fun ad113 cap114 w a hF hS => ⟨⟨St.pick [1, 2] (by decide) hS, (hS.frz (i := 3) rfl hlow)⟩, ?_⟩
  refine WT.s [] [10] (by kernel_rfl) (by kernel_rfl) ?_
  refine WRun.fin ?_
  refine all_cons ?_ (all_nil)
  refine appK (t := 40) (ty := 40) (bytes := 8) (l := l75) (l' := l72) (fun ad115 cap116 => [(2, .int .u8 p2), (9, pb b31), (10, sv ad32 y12 cap33), (11, sv ad51 y50 cap52), (12, sv ad64 y62.1 cap65), (13, iv y62.2), (57, y10.ag), (58, sv ad32 y12 cap33), (67, sv ad115 l78 cap116)]) 0 hF hS rfl (by kernel_rfl) ⟨by kernel_rfl⟩ (by kernel_rfl) (hA111 _ (hS.frz (i := 3) rfl hlow)) (fun _ _ => rfl) hl78 (fun _ _ => ⟨by kernel_rfl⟩) fun ad115 cap116 w a hF hS => ⟨⟨St.pick [1, 2] (by decide) hS, (hS.frz (i := 3) rfl hlow)⟩, ?_⟩
  refine WT.s [] [11] (by kernel_rfl) (by kernel_rfl) ?_
  refine WRun.fin ?_
  refine all_cons ?_ (all_nil)
  obtain ⟨ν117, hx118, hlow, hS, hz119⟩ := hS.freeze (i := 3) (j := 0) rfl rfl (by decide) hlow
  replace hA3 := hA3.mono hx118.1
  replace hA6 := hA6.mono hx118.1
  replace hA56 := hA56.mono hx118.1
  replace hA60 := hA60.mono hx118.1
  replace hA66 := hA66.mono hx118.1
  replace hA110 := hA110.mono hx118.1
  replace hA111 := hA111.mono hx118.1
  replace hcl109 := Frz.le_trans hcl109 hx118.1
  replace hext := Frz.ext_trans hext hx118
  replace hS : St w0 [blk b31 31 y10.ar, blk b7 75 #[.int .u8 p0.Rays, .int .u8 p0.Turn, .int .u8 p0.Move, .int .u8 p0.Duty, sv ad1 p0.Jobs cap2], fz w0 ν117] w := hS
  have hA120 := ArrM.of_arr hz119
  refine callK (f := 18) (args := #[y10.ag, sv ad32 y12 cap33, sv ad115 l78 cap116]) (R := fun v w2 => ∃ ν122 ad123 cap124, ν117.ext w.heap.size ν122 ∧ v = .tuple #[sv ad123 y86.1 cap124, iv y86.2] ∧ ArrM ν122 1 fI ad123 cap124 y86.1 ∧ St w [frzR w.heap.size ν122] w2) (fun v121 => [(2, .int .u8 p2), (9, pb b31), (10, sv ad32 y12 cap33), (11, sv ad51 y50 cap52), (12, sv ad64 y62.1 cap65), (13, iv y62.2), (68, v121)]) hF (by kernel_rfl) ⟨by kernel_rfl⟩ (Calls.mono (plan_Judge_ok F y10 y12 l78 _ hy86 ν117 w (hS.frz (i := 2) rfl hlow) hA56 hA120) (by rintro e w2 ⟨ν122, ad123, cap124, hx126, rfl, hA125, h⟩; exact ⟨_, rfl, ν122, ad123, cap124, hx126, rfl, hA125, h⟩)) (fun _ => ⟨by kernel_rfl⟩) ?_
  rintro v121 w a ⟨ν122, ad123, cap124, hx126, rfl, hA125, hQ⟩ hF
  replace hext := Frz.ext_trans hext (Frz.ext_mono hx126 hS.ext.size)
  obtain ⟨hlow, hS⟩ := hS.frzMerge (i := 2) rfl hlow hx126 hQ
  replace hA3 := hA3.mono hx126.1
  replace hA6 := hA6.mono hx126.1
  replace hA56 := hA56.mono hx126.1
  replace hA60 := hA60.mono hx126.1
  replace hA66 := hA66.mono hx126.1
  replace hA110 := hA110.mono hx126.1
  replace hA111 := hA111.mono hx126.1
  replace hA120 := hA120.mono hx126.1
  replace hcl109 := Frz.le_trans hcl109 hx126.1
  replace hS : St w0 [blk b31 31 y10.ar, blk b7 75 #[.int .u8 p0.Rays, .int .u8 p0.Turn, .int .u8 p0.Move, .int .u8 p0.Duty, sv ad1 p0.Jobs cap2], fz w0 ν122] w := hS
  refine ⟨⟨St.pick [0, 1] (by decide) hS, (hS.frz (i := 2) rfl hlow).low hcl109⟩, ?_⟩
  refine WT.z [12, 13, 14, 15, 16] (by kernel_rfl) ?_
  refine runC (rest := []) (obs := []) [12, 13, 14, 15, 16] [(2, .int .u8 p2), (9, pb b31), (10, sv ad32 y12 cap33), (11, sv ad51 y50 cap52), (12, sv ad64 y62.1 cap65), (13, iv y62.2), (15, sv ad123 y86.1 cap124), (16, iv y86.2)] hF (by kernel_rfl) (by kernel_rfl) onil ⟨by kernel_rfl⟩ fun a hF => ?_
  refine WRun.fin ?_
  refine wfn rfl ?_
  refine eseq ?_
  refine esr ?_
  replace h := bindS h
  obtain ⟨y127, hy127, h⟩ := h
  refine rx 9 [.call [⟨74, false, (y62.2 != y86.2)⟩] 21 #[sv ad64 y62.1 cap65, sv ad123 y86.1 cap124] (.bool y127)] 9 [(2, .int .u8 p2), (9, pb b31), (10, sv ad32 y12 cap33), (11, sv ad51 y50 cap52), (12, sv ad64 y62.1 cap65), (13, iv y62.2), (79, .bool (bif (y62.2 != y86.2) then true else (!y127)))] hF (ocons (show Ob.ok _ Ext _ _ from fun hk w2 hd => law06_numbers_ok F y62.1 y86.1 _ ((fun hk => gd_some hy127 hk) hk) _ w2 (memOf_at w2) (hA66.mono (FrzAt.le_mem ((hS.later hd).frz (i := 2) rfl hlow))) (hA125.mono (FrzAt.le_mem ((hS.later hd).frz (i := 2) rfl hlow)))) onil) fun a w hF hx => ?_
  replace hS := hS.later hx
  refine wfn rfl ?_
  refine econd hF rfl (fun hc => ?_) (fun hc => ?_)
  ·replace h := bif_t h hc
   refine esr ?_
   refine rn 1 1 [(8, .bool false)] hF fun a hF => ?_
   refine wfn rfl ?_
   refine wpIn_ret (ret_then <| fn_ret [.tmp 8] [.bool false] hF rfl ⟨rfl, trivial⟩ ?_)
   have hr_ := Option.some.inj h
   subst hr_
   exact ⟨rfl, hS.ext⟩
  ·replace h := bif_f h hc
   refine wpIn_skip (norm_then ?_)
   refine ecut (fun a w => Fr 164 [] [(2, .int .u8 p2), (9, pb b31), (10, sv ad32 y12 cap33), (11, sv ad51 y50 cap52), (12, sv ad64 y62.1 cap65)] a ∧ St w0 [blk b31 31 y10.ar, blk b7 75 #[.int .u8 p0.Rays, .int .u8 p0.Turn, .int .u8 p0.Move, .int .u8 p0.Duty, sv ad1 p0.Jobs cap2], fz w0 ν122] w ∧ law06_PlanKeeps_K1 F p2 y10 y12 y50 y62 = some res) ?_ ?_
   ·skip
    refine esr ?_
    refine rn 2 2 [(2, .int .u8 p2), (9, pb b31), (10, sv ad32 y12 cap33), (11, sv ad51 y50 cap52), (12, sv ad64 y62.1 cap65), (13, iv y62.2), (81, .bool (y62.2 != 0))] hF fun a hF => ?_
    refine wfn rfl ?_
    refine econd hF rfl (fun hc => ?_) (fun hc => ?_)
    ·replace h := bif_t h hc
     refine esr ?_
     refine rn 1 1 [(10, sv ad32 y12 cap33), (11, sv ad51 y50 cap52), (13, iv y62.2), (17, .bool false)] hF fun a hF => ?_
     refine wfn rfl ?_
     refine ecut (fun a w => ∃ (c708 : Bool), Fr 164 [] [(13, iv y62.2), (17, .bool c708)] a ∧ St w0 [blk b31 31 y10.ar, blk b7 75 #[.int .u8 p0.Rays, .int .u8 p0.Turn, .int .u8 p0.Move, .int .u8 p0.Duty, sv ad1 p0.Jobs cap2], fz w0 ν122] w ∧ law06_PlanKeeps_K6 F y62 c708 = some res) ?_ ?_
     ·skip
      refine esr ?_
      refine rn 3 3 [(11, sv ad51 y50 cap52), (13, iv y62.2), (17, .bool false), (83, iv (ln y12)), (84, iv 0)] hF fun a hF => ?_
      refine wfn rfl ?_
      refine wpIn_block ?_
      refine eloop (fun n_ a w => ∃ (c815 : Bool) (x816 : Int), Fr 164 [] [(11, sv ad51 y50 cap52), (13, iv y62.2), (17, .bool c815), (83, iv (ln y12)), (84, iv x816)] a ∧ St w0 [blk b31 31 y10.ar, blk b7 75 #[.int .u8 p0.Rays, .int .u8 p0.Turn, .int .u8 p0.Move, .int .u8 p0.Duty, sv ad1 p0.Jobs cap2], fz w0 ν122] w ∧ law06_PlanKeeps_L7 F y12 y50 y62 n_ c815 x816 = some res) F ⟨false, 0, hF.sub (by kernel_rfl), St.pick [0, 1, 2] (by decide) hS, h⟩ ?_
      rintro n_ a w ⟨c815, x816, hF, hS, h⟩
      rcases n_ with _ | n_
      ·cases (show (none : Option Bool) = some res from h)
      obtain ⟨k7, hk7⟩ : ∃ k, k = law06_PlanKeeps_L7 F y12 y50 y62 n_ := ⟨_, rfl⟩
      replace h : law06_PlanKeeps_B7 F y12 y50 y62 k7 c815 x816 = some res := by rw [hk7]; exact h
      rw [law06_PlanKeeps_B7] at h
      refine esr ?_
      refine rn 1 1 [(11, sv ad51 y50 cap52), (13, iv y62.2), (17, .bool c815), (83, iv (ln y12)), (84, iv x816), (85, .bool (decide (x816 < (ln y12))))] hF fun a hF => ?_
      refine wfn rfl ?_
      refine eseq ?_
      refine econd hF rfl (fun hc => ?_) (fun hc => ?_)
      ·replace h := bif_t h hc
       refine wpIn_skip (norm_then ?_)
       refine ecut (fun a w => ∃ (c842 : Bool), Fr 164 [] [(11, sv ad51 y50 cap52), (13, iv y62.2), (17, .bool c842), (83, iv (ln y12)), (84, iv x816)] a ∧ St w0 [blk b31 31 y10.ar, blk b7 75 #[.int .u8 p0.Rays, .int .u8 p0.Turn, .int .u8 p0.Move, .int .u8 p0.Duty, sv ad1 p0.Jobs cap2], fz w0 ν122] w ∧ law06_PlanKeeps_K8 x816 k7 c842 = some res) ?_ ?_
       ·skip
        refine wpIn_block ?_
        refine esr ?_
        refine rn 2 2 [(11, sv ad51 y50 cap52), (13, iv y62.2), (17, .bool c815), (18, iv x816), (83, iv (ln y12)), (84, iv x816)] hF fun a hF => ?_
        refine wfn rfl ?_
        refine esr ?_
        refine rn 1 1 [(11, sv ad51 y50 cap52), (13, iv y62.2), (17, .bool c815), (18, iv x816), (19, .bool false), (83, iv (ln y12)), (84, iv x816)] hF fun a hF => ?_
        refine wfn rfl ?_
        refine ecut (fun a w => ∃ (c856 : Bool), Fr 164 [] [(11, sv ad51 y50 cap52), (13, iv y62.2), (17, .bool c815), (19, .bool c856), (83, iv (ln y12)), (84, iv x816)] a ∧ St w0 [blk b31 31 y10.ar, blk b7 75 #[.int .u8 p0.Rays, .int .u8 p0.Turn, .int .u8 p0.Move, .int .u8 p0.Duty, sv ad1 p0.Jobs cap2], fz w0 ν122] w ∧ law06_PlanKeeps_K9 c815 x816 k7 c856 = some res) ?_ ?_
        ·skip
         refine esr ?_
         refine rn 3 3 [(11, sv ad51 y50 cap52), (13, iv y62.2), (17, .bool c815), (18, iv x816), (19, .bool false), (83, iv (ln y12)), (84, iv x816), (87, sv ad51 y50 cap52), (88, iv (ln y50)), (89, iv 0)] hF fun a hF => ?_
         refine wfn rfl ?_
         refine wpIn_block ?_
         refine eloop (fun n_ a w => ∃ (c864 : Bool) (x865 : Int), Fr 164 [] [(11, sv ad51 y50 cap52), (13, iv y62.2), (17, .bool c815), (18, iv x816), (19, .bool c864), (83, iv (ln y12)), (84, iv x816), (87, sv ad51 y50 cap52), (88, iv (ln y50)), (89, iv x865)] a ∧ St w0 [blk b31 31 y10.ar, blk b7 75 #[.int .u8 p0.Rays, .int .u8 p0.Turn, .int .u8 p0.Move, .int .u8 p0.Duty, sv ad1 p0.Jobs cap2], fz w0 ν122] w ∧ law06_PlanKeeps_L10 y50 c815 x816 k7 n_ c864 x865 = some res) F ⟨false, 0, hF.sub (by kernel_rfl), St.pick [0, 1, 2] (by decide) hS, h⟩ ?_
         rintro n_ a w ⟨c864, x865, hF, hS, h⟩
         rcases n_ with _ | n_
         ·cases (show (none : Option Bool) = some res from h)
         obtain ⟨k10, hk10⟩ : ∃ k, k = law06_PlanKeeps_L10 y50 c815 x816 k7 n_ := ⟨_, rfl⟩
         replace h : law06_PlanKeeps_B10 y50 c815 x816 k7 k10 c864 x865 = some res := by rw [hk10]; exact h
         rw [law06_PlanKeeps_B10] at h
         refine esr ?_
         refine rn 1 1 [(11, sv ad51 y50 cap52), (13, iv y62.2), (17, .bool c815), (18, iv x816), (19, .bool c864), (83, iv (ln y12)), (84, iv x816), (87, sv ad51 y50 cap52), (88, iv (ln y50)), (89, iv x865), (90, .bool (decide (x865 < (ln y50))))] hF fun a hF => ?_
         refine wfn rfl ?_
         refine eseq ?_
         refine econd hF rfl (fun hc => ?_) (fun hc => ?_)
         ·replace h := bif_t h hc
          refine wpIn_skip (norm_then ?_)
          refine eseq ?_
          refine wpIn_block ?_
          refine esr ?_
          replace h := bindS h
          obtain ⟨u867, hu867, h⟩ := h
          refine rno 3 [.run [] (Instr.indexAt 40 (sv ad51 y50 cap52) (iv x865)) (.pointer (some (slAddr ad51 x865 1))), .run [] (Instr.loadAt 3 (.pointer (some (slAddr ad51 x865 1)))) (iv u867)] 3 [(11, sv ad51 y50 cap52), (13, iv y62.2), (17, .bool c815), (18, iv x816), (19, .bool c864), (21, iv u867), (83, iv (ln y12)), (84, iv x816), (87, sv ad51 y50 cap52), (88, iv (ln y50)), (89, iv x865)] hF (ocons (obIdxQ (hA60 _ (hS.frz (i := 2) rfl hlow)) (by kernel_rfl) (fun _ => hu867)) (ocons (obElQ (i := x865) 0 fI_len (fun _ hd => (hA60 _ ((hS.at_ hd).frz (i := 2) rfl hlow))) (by kernel_rfl) (fun _ => hu867) rfl) onil)) fun a hF => ?_
          refine wfn rfl ?_
          refine WI.region ?_
          refine rn 7 7 [(11, sv ad51 y50 cap52), (13, iv y62.2), (17, .bool c815), (18, iv x816), (19, .bool (bif c864 then true else (u867 == x816))), (83, iv (ln y12)), (84, iv x816), (87, sv ad51 y50 cap52), (88, iv (ln y50)), (89, iv x865)] hF fun a hF => ?_
          refine WI.fin rfl (norm_block <| norm_then <| ?_)
          refine WI.region ?_
          replace h := bindS h
          obtain ⟨x868, hx868, h⟩ := h
          refine rno 2 [.run [] (binOp .add 3 (iv x865) (iv 1)) (iv x868)] 2 [(11, sv ad51 y50 cap52), (13, iv y62.2), (17, .bool c815), (18, iv x816), (19, .bool (bif c864 then true else (u867 == x816))), (83, iv (ln y12)), (84, iv x816), (87, sv ad51 y50 cap52), (88, iv (ln y50)), (89, iv x868)] hF (ocons (obAddC (fun _ => hx868)) onil) fun a hF => ?_
          refine wfn rfl ?_
          rw [hk10] at h
          exact ⟨n_, Nat.lt_succ_self _, bif c864 then true else (u867 == x816), x868, hF.sub (by kernel_rfl), St.pick [0, 1, 2] (by decide) hS, h⟩
         ·replace h := bif_f h hc
          refine wpIn_exit (exit_then <| exit_then <| exit_hit <| norm_then ?_)
          exact ⟨c864, hF.sub (by kernel_rfl), St.pick [0, 1, 2] (by decide) hS, h⟩
        rintro a w ⟨c856, hF, hS, h⟩
        rw [law06_PlanKeeps_K9] at h
        refine WI.region ?_
        refine rn 6 6 [(11, sv ad51 y50 cap52), (13, iv y62.2), (17, .bool (bif c815 then true else (!c856))), (83, iv (ln y12)), (84, iv x816)] hF fun a hF => ?_
        refine WI.fin rfl (norm_block <| norm_then <| ?_)
        exact ⟨bif c815 then true else (!c856), hF.sub (by kernel_rfl), St.pick [0, 1, 2] (by decide) hS, h⟩
       rintro a w ⟨c842, hF, hS, h⟩
       rw [law06_PlanKeeps_K8] at h
       refine WI.region ?_
       replace h := bindS h
       obtain ⟨x843, hx843, h⟩ := h
       refine rno 2 [.run [] (binOp .add 3 (iv x816) (iv 1)) (iv x843)] 2 [(11, sv ad51 y50 cap52), (13, iv y62.2), (17, .bool c842), (83, iv (ln y12)), (84, iv x843)] hF (ocons (obAddC (fun _ => hx843)) onil) fun a hF => ?_
       refine wfn rfl ?_
       rw [hk7] at h
       exact ⟨n_, Nat.lt_succ_self _, c842, x843, hF.sub (by kernel_rfl), St.pick [0, 1, 2] (by decide) hS, h⟩
      ·replace h := bif_f h hc
       refine wpIn_exit (exit_then <| exit_then <| exit_hit <| norm_then ?_)
       exact ⟨c815, hF.sub (by kernel_rfl), St.pick [0, 1, 2] (by decide) hS, h⟩
     rintro a w ⟨c708, hF, hS, h⟩
     rw [law06_PlanKeeps_K6] at h
     refine esr ?_
     replace h := bindS h
     obtain ⟨y709, hy709, h⟩ := h
     refine rx 9 [.call [⟨111, true, (bif (y62.2 == 23) then c708 else false)⟩] 17 #[] (.bool y709)] 9 [(8, .bool (bif (bif (y62.2 == 23) then c708 else false) then y709 else false))] hF (ocons (show Ob.ok _ Ext _ _ from fun hk w2 hd => law06_works_ok F  _ ((fun hk => gd_some hy709 hk) hk) _ w2 (memOf_at w2) ) onil) fun a w hF hx => ?_
     replace hS := hS.later hx
     refine wfn rfl ?_
     refine wpIn_ret (ret_then <| fn_ret [.tmp 8] [.bool (bif (bif (y62.2 == 23) then c708 else false) then y709 else false)] hF rfl ⟨rfl, trivial⟩ ?_)
     have hr_ := Option.some.inj h
     subst hr_
     exact ⟨rfl, hS.ext⟩
    ·replace h := bif_f h hc
     refine wpIn_skip (norm_then ?_)
     exact ⟨hF.sub (by kernel_rfl), St.pick [0, 1, 2] (by decide) hS, h⟩
   rintro a w ⟨hF, hS, h⟩
   rw [law06_PlanKeeps_K1] at h
   refine esr ?_
   refine rn 1 1 [(2, .int .u8 p2), (9, pb b31), (10, sv ad32 y12 cap33), (11, sv ad51 y50 cap52), (12, sv ad64 y62.1 cap65), (22, .slice none 0 0)] hF fun a hF => ?_
   refine wfn rfl ?_
   refine ecut (fun a w => ∃ (l473 : (List Int)) (ad471 : Option Addr) (cap472 : Nat), Fr 164 [] [(9, pb b31), (10, sv ad32 y12 cap33), (12, sv ad64 y62.1 cap65), (22, sv ad471 l473 cap472)] a ∧ St w0 [arr 3 1 fI ad471 l473.length cap472 l473, blk b31 31 y10.ar, blk b7 75 #[.int .u8 p0.Rays, .int .u8 p0.Turn, .int .u8 p0.Move, .int .u8 p0.Duty, sv ad1 p0.Jobs cap2], fz w0 ν122] w ∧ law06_PlanKeeps_K2 F y10 y12 y62 l473 = some res) ?_ ?_
   ·skip
    refine esr ?_
    replace h := bindS h
    obtain ⟨x525, hx525, h⟩ := h
    replace h := bindS h
    obtain ⟨x526, hx526, h⟩ := h
    replace h := bindS h
    obtain ⟨x527, hx527, h⟩ := h
    refine rno 5 [.run [] (convert 5 3 (.int .u8 p2)) (iv x525), .run [] (binOp .rem 3 (iv x525) (iv 4)) (iv x526), .run [] (binOp .add 3 (iv 2) (iv x526)) (iv x527)] 5 [(9, pb b31), (10, sv ad32 y12 cap33), (11, sv ad51 y50 cap52), (12, sv ad64 y62.1 cap65), (22, .slice none 0 0), (117, iv x527), (118, iv 0)] hF (ocons (obConvC (by kernel_rfl) (by kernel_rfl) (fun _ => hx525)) (ocons (obRemC (fun _ => hx526)) (ocons (obAddC (fun _ => hx527)) onil))) fun a hF => ?_
    refine wfn rfl ?_
    refine wpIn_block ?_
    replace hS := hS.nilarr 3 1 fI
    refine eloop (fun n_ a w => ∃ (x540 : Int) (l543 : (List Int)) (ad541 : Option Addr) (cap542 : Nat), Fr 164 [] [(9, pb b31), (10, sv ad32 y12 cap33), (11, sv ad51 y50 cap52), (12, sv ad64 y62.1 cap65), (22, sv ad541 l543 cap542), (117, iv x527), (118, iv x540)] a ∧ St w0 [arr 3 1 fI ad541 l543.length cap542 l543, blk b31 31 y10.ar, blk b7 75 #[.int .u8 p0.Rays, .int .u8 p0.Turn, .int .u8 p0.Move, .int .u8 p0.Duty, sv ad1 p0.Jobs cap2], fz w0 ν122] w ∧ law06_PlanKeeps_L5 F y10 y12 y50 y62 x527 n_ x540 l543 = some res) F ⟨0, [], none, 0, hF.sub (by kernel_rfl), St.pick [0, 1, 2, 3] (by decide) hS, h⟩ ?_
    rintro n_ a w ⟨x540, l543, ad541, cap542, hF, hS, h⟩
    rcases n_ with _ | n_
    ·cases (show (none : Option Bool) = some res from h)
    obtain ⟨k5, hk5⟩ : ∃ k, k = law06_PlanKeeps_L5 F y10 y12 y50 y62 x527 n_ := ⟨_, rfl⟩
    replace h : law06_PlanKeeps_B5 F y10 y12 y50 y62 x527 k5 x540 l543 = some res := by rw [hk5]; exact h
    rw [law06_PlanKeeps_B5] at h
    refine esr ?_
    refine rn 1 1 [(9, pb b31), (10, sv ad32 y12 cap33), (11, sv ad51 y50 cap52), (12, sv ad64 y62.1 cap65), (22, sv ad541 l543 cap542), (117, iv x527), (118, iv x540), (119, .bool (decide (x540 < x527)))] hF fun a hF => ?_
    refine wfn rfl ?_
    refine eseq ?_
    refine econd hF rfl (fun hc => ?_) (fun hc => ?_)
    ·replace h := bif_t h hc
     refine wpIn_skip (norm_then ?_)
     refine eseq ?_
     refine wpIn_block ?_
     refine WI.region ?_
     refine rn 2 2 [(9, pb b31), (10, sv ad32 y12 cap33), (11, sv ad51 y50 cap52), (12, sv ad64 y62.1 cap65), (22, sv ad541 l543 cap542), (117, iv x527), (118, iv x540), (120, sv ad541 l543 cap542), (121, sv ad51 y50 cap52)] hF fun a hF => ?_
     replace h := bindS h
     obtain ⟨l545, hl545, h⟩ := h
     refine SK.wi (appK (t := 40) (ty := 40) (bytes := 8) (l := l543) (l' := y50) (fun ad546 cap547 => [(9, pb b31), (10, sv ad32 y12 cap33), (11, sv ad51 y50 cap52), (12, sv ad64 y62.1 cap65), (22, sv ad541 l543 cap542), (117, iv x527), (118, iv x540), (122, sv ad546 l545 cap547)]) 0 hF hS rfl (by kernel_rfl) ⟨by kernel_rfl⟩ (by kernel_rfl) (hA60 _ (hS.frz (i := 3) rfl hlow)) (fun _ _ => rfl) hl545 (fun _ _ => ⟨by kernel_rfl⟩) fun ad546 cap547 w a hF hS => ?_)
     refine rn 1 4 [(9, pb b31), (10, sv ad32 y12 cap33), (11, sv ad51 y50 cap52), (12, sv ad64 y62.1 cap65), (22, sv ad546 l545 cap547), (117, iv x527), (118, iv x540)] hF fun a hF => ?_
     refine WI.fin rfl (norm_block <| norm_then <| ?_)
     refine WI.region ?_
     replace h := bindS h
     obtain ⟨x548, hx548, h⟩ := h
     refine rno 2 [.run [] (binOp .add 3 (iv x540) (iv 1)) (iv x548)] 2 [(9, pb b31), (10, sv ad32 y12 cap33), (11, sv ad51 y50 cap52), (12, sv ad64 y62.1 cap65), (22, sv ad546 l545 cap547), (117, iv x527), (118, iv x548)] hF (ocons (obAddC (fun _ => hx548)) onil) fun a hF => ?_
     refine wfn rfl ?_
     rw [hk5] at h
     exact ⟨n_, Nat.lt_succ_self _, x548, l545, ad546, cap547, hF.sub (by kernel_rfl), St.pick [0, 1, 2, 3] (by decide) hS, h⟩
    ·replace h := bif_f h hc
     refine wpIn_exit (exit_then <| exit_then <| exit_hit <| norm_then ?_)
     exact ⟨l543, ad541, cap542, hF.sub (by kernel_rfl), St.pick [0, 1, 2, 3] (by decide) hS, h⟩
   rintro a w ⟨l473, ad471, cap472, hF, hS, h⟩
   rw [law06_PlanKeeps_K2] at h
   refine esr ?_
   refine rno 3 [.run [] (Instr.loadAt 31 (pb b31)) (y10.ag)] 3 [(10, sv ad32 y12 cap33), (12, sv ad64 y62.1 cap65), (22, sv ad471 l473 cap472), (125, y10.ag), (126, sv ad32 y12 cap33), (127, sv ad471 l473 cap472)] hF (ocons (obN (us := y10.cells) (by kernel_rfl) (fun _ hd => ((hS.at_ hd).blk (i := 1) rfl).cells rfl)) onil) fun a hF => ?_
   replace h := bindS h
   obtain ⟨y475, hy475, h⟩ := h
   refine SK.wi (callK (f := 39) (args := #[y10.ag, sv ad32 y12 cap33, sv ad471 l473 cap472]) (R := fun v w2 => ∃ ad476 cap477, v = .tuple #[sv ad476 y475.1 cap477, .bool y475.2] ∧ St w [arr 3 1 fI ad476 y475.1.length cap477 y475.1] w2) (fun v474 => [(10, sv ad32 y12 cap33), (12, sv ad64 y62.1 cap65), (22, sv ad471 l473 cap472), (128, v474)]) hF (by kernel_rfl) ⟨by kernel_rfl⟩ (Calls.mono (law06_begins_ok F y10 y12 l473 _ hy475 (memOf w) w (memOf_at w) (hA56.mono (FrzAt.le_mem (hS.frz (i := 3) rfl hlow))) (Arr.toM (hS.arr (i := 0) rfl))) (by rintro e w2 ⟨ad476, cap477, rfl, h⟩; exact ⟨_, rfl, ad476, cap477, rfl, h⟩)) (fun _ => ⟨by kernel_rfl⟩) ?_)
   rintro v474 w a ⟨ad476, cap477, rfl, hQ⟩ hF
   replace hS : St w0 [arr 3 1 fI ad476 y475.1.length cap477 y475.1, arr 3 1 fI ad471 l473.length cap472 l473, blk b31 31 y10.ar, blk b7 75 #[.int .u8 p0.Rays, .int .u8 p0.Turn, .int .u8 p0.Move, .int .u8 p0.Duty, sv ad1 p0.Jobs cap2], fz w0 ν122] w := hS.madeL hQ
   refine rn 5 9 [(10, sv ad32 y12 cap33), (12, sv ad64 y62.1 cap65), (22, sv ad471 l473 cap472), (23, sv ad476 y475.1 cap477), (24, .bool y475.2)] hF fun a hF => ?_
   refine wfn rfl ?_
   refine eseq ?_
   refine esr ?_
   refine rn 9 9 [(10, sv ad32 y12 cap33), (12, sv ad64 y62.1 cap65), (22, sv ad471 l473 cap472), (23, sv ad476 y475.1 cap477), (139, .bool (bif (!y475.2) then true else ((ln y62.1) != (ln y12))))] hF fun a hF => ?_
   refine wfn rfl ?_
   refine econd hF rfl (fun hc => ?_) (fun hc => ?_)
   ·replace h := bif_t h hc
    refine esr ?_
    refine rn 1 1 [(8, .bool false)] hF fun a hF => ?_
    refine wfn rfl ?_
    refine wpIn_ret (ret_then <| fn_ret [.tmp 8] [.bool false] hF rfl ⟨rfl, trivial⟩ ?_)
    have hr_ := Option.some.inj h
    subst hr_
    exact ⟨rfl, hS.ext⟩
   ·replace h := bif_f h hc
    refine wpIn_skip (norm_then ?_)
    refine ecut (fun a w => Fr 164 [] [] a ∧ St w0 [arr 3 1 fI ad476 y475.1.length cap477 y475.1, arr 3 1 fI ad471 l473.length cap472 l473, blk b31 31 y10.ar, blk b7 75 #[.int .u8 p0.Rays, .int .u8 p0.Turn, .int .u8 p0.Move, .int .u8 p0.Duty, sv ad1 p0.Jobs cap2], fz w0 ν122] w ∧ law06_PlanKeeps_K3 F = some res) ?_ ?_
    ·skip
     refine esr ?_
     refine rn 3 3 [(10, sv ad32 y12 cap33), (12, sv ad64 y62.1 cap65), (140, sv ad32 y12 cap33), (141, sv ad471 l473 cap472), (142, sv ad476 y475.1 cap477)] hF fun a hF => ?_
     replace h := bindS h
     obtain ⟨y503, hy503, h⟩ := h
     refine SK.wi (callK (f := 40) (args := #[sv ad32 y12 cap33, sv ad471 l473 cap472, sv ad476 y475.1 cap477]) (R := fun v w2 => ∃ ad504 cap505, v = sv ad504 y503 cap505 ∧ St w [arr 3 1 fI ad504 y503.length cap505 y503] w2) (fun v502 => [(10, sv ad32 y12 cap33), (12, sv ad64 y62.1 cap65), (143, v502)]) hF (by kernel_rfl) ⟨by kernel_rfl⟩ (Calls.mono (law06_waits_ok F y12 l473 y475.1 _ hy503 (memOf w) w (memOf_at w) (hA56.mono (FrzAt.le_mem (hS.frz (i := 4) rfl hlow))) (Arr.toM (hS.arr (i := 1) rfl)) (Arr.toM (hS.arr (i := 0) rfl))) (by rintro e w2 ⟨ad504, cap505, rfl, h⟩; exact ⟨_, rfl, ad504, cap505, rfl, h⟩)) (fun _ => ⟨by kernel_rfl⟩) ?_)
     rintro v502 w a ⟨ad504, cap505, rfl, hQ⟩ hF
     replace hS : St w0 [arr 3 1 fI ad504 y503.length cap505 y503, arr 3 1 fI ad476 y475.1.length cap477 y475.1, arr 3 1 fI ad471 l473.length cap472 l473, blk b31 31 y10.ar, blk b7 75 #[.int .u8 p0.Rays, .int .u8 p0.Turn, .int .u8 p0.Move, .int .u8 p0.Duty, sv ad1 p0.Jobs cap2], fz w0 ν122] w := hS.madeL hQ
     refine rn 2 6 [(10, sv ad32 y12 cap33), (12, sv ad64 y62.1 cap65), (143, sv ad504 y503 cap505), (144, iv (ln y503)), (145, iv 0)] hF fun a hF => ?_
     refine wfn rfl ?_
     refine wpIn_block ?_
     refine eloop (fun n_ a w => ∃ (x517 : Int), Fr 164 [] [(10, sv ad32 y12 cap33), (12, sv ad64 y62.1 cap65), (143, sv ad504 y503 cap505), (144, iv (ln y503)), (145, iv x517)] a ∧ St w0 [arr 3 1 fI ad504 y503.length cap505 y503, arr 3 1 fI ad476 y475.1.length cap477 y475.1, arr 3 1 fI ad471 l473.length cap472 l473, blk b31 31 y10.ar, blk b7 75 #[.int .u8 p0.Rays, .int .u8 p0.Turn, .int .u8 p0.Move, .int .u8 p0.Duty, sv ad1 p0.Jobs cap2], fz w0 ν122] w ∧ law06_PlanKeeps_L4 F y12 y62 y503 n_ x517 = some res) F ⟨0, hF.sub (by kernel_rfl), St.pick [0, 1, 2, 3, 4, 5] (by decide) hS, h⟩ ?_
     rintro n_ a w ⟨x517, hF, hS, h⟩
     rcases n_ with _ | n_
     ·cases (show (none : Option Bool) = some res from h)
     obtain ⟨k4, hk4⟩ : ∃ k, k = law06_PlanKeeps_L4 F y12 y62 y503 n_ := ⟨_, rfl⟩
     replace h : law06_PlanKeeps_B4 F y12 y62 y503 k4 x517 = some res := by rw [hk4]; exact h
     rw [law06_PlanKeeps_B4] at h
     refine esr ?_
     refine rn 1 1 [(10, sv ad32 y12 cap33), (12, sv ad64 y62.1 cap65), (143, sv ad504 y503 cap505), (144, iv (ln y503)), (145, iv x517), (146, .bool (decide (x517 < (ln y503))))] hF fun a hF => ?_
     refine wfn rfl ?_
     refine eseq ?_
     refine econd hF rfl (fun hc => ?_) (fun hc => ?_)
     ·replace h := bif_t h hc
      refine wpIn_skip (norm_then ?_)
      refine eseq ?_
      refine wpIn_block ?_
      refine esr ?_
      replace h := bindS h
      obtain ⟨u519, hu519, h⟩ := h
      refine rno 5 [.run [] (Instr.indexAt 40 (sv ad504 y503 cap505) (iv x517)) (.pointer (some (slAddr ad504 x517 1))), .run [] (Instr.loadAt 3 (.pointer (some (slAddr ad504 x517 1)))) (iv u519)] 5 [(10, sv ad32 y12 cap33), (12, sv ad64 y62.1 cap65), (25, iv x517), (26, iv u519), (143, sv ad504 y503 cap505), (144, iv (ln y503)), (145, iv x517)] hF (ocons (obIdxQ (hS.arr (i := 0) rfl) (by kernel_rfl) (fun _ => hu519)) (ocons (obElQ (i := x517) 0 fI_len (fun _ hd => ((hS.at_ hd).arr (i := 0) rfl)) (by kernel_rfl) (fun _ => hu519) rfl) onil)) fun a hF => ?_
      refine wfn rfl ?_
      refine eseq ?_
      replace h := bindS h
      obtain ⟨u520, hu520, h⟩ := h
      replace h := bindS h
      obtain ⟨u521, hu521, h⟩ := h
      replace h := bindS h
      obtain ⟨x522, hx522, h⟩ := h
      refine runD (obs := [.run [] (Instr.indexAt 43 (sv ad32 y12 cap33) (iv x517)) (.pointer (some (slAddr ad32 x517 8))), .run [] (Instr.loadAt 3 (.pointer (some ((slAddr ad32 x517 8).add 7)))) (iv u520.Every), .run [] (Instr.indexAt 40 (sv ad64 y62.1 cap65) (iv x517)) (.pointer (some (slAddr ad64 x517 1))), .run [] (Instr.loadAt 3 (.pointer (some (slAddr ad64 x517 1)))) (iv u521), .run [] (binOp .sub 3 (iv u520.Every) (iv u521)) (iv x522)]) 12 [(10, sv ad32 y12 cap33), (12, sv ad64 y62.1 cap65), (143, sv ad504 y503 cap505), (144, iv (ln y503)), (145, iv x517), (161, .bool (u519 != x522))] (by kernel_rfl) hF (by kernel_rfl) (ocons (obIdxQ (hA56 _ (hS.frz (i := 5) rfl hlow)) (by kernel_rfl) (fun _ => hu520)) (ocons (obElQ (i := x517) 7 plan_Job.cells_len (fun _ hd => (hA56 _ ((hS.later hd).frz (i := 5) rfl hlow))) (by kernel_rfl) (fun _ => hu520) rfl) (ocons (obIdxQ (hA66 _ (hS.frz (i := 5) rfl hlow)) (by kernel_rfl) (fun _ => hu521)) (ocons (obElQ (i := x517) 0 fI_len (fun _ hd => (hA66 _ ((hS.later hd).frz (i := 5) rfl hlow))) (by kernel_rfl) (fun _ => hu521) rfl) (ocons (obSubC (fun _ => hx522)) onil))))) ⟨by kernel_rfl⟩ fun a w hF hx => ?_
      replace hS := hS.later hx
      refine wfn rfl ?_
      refine econd hF rfl (fun hc => ?_) (fun hc => ?_)
      ·replace h := bif_t h hc
       refine esr ?_
       refine rn 1 1 [(8, .bool false)] hF fun a hF => ?_
       refine wfn rfl ?_
       refine wpIn_ret (ret_block <| ret_then <| ret_then <| ret_block <| ret_then <| fn_ret [.tmp 8] [.bool false] hF rfl ⟨rfl, trivial⟩ ?_)
       have hr_ := Option.some.inj h
       subst hr_
       exact ⟨rfl, hS.ext⟩
      ·replace h := bif_f h hc
       refine wpIn_skip (norm_block <| norm_then <| ?_)
       refine WI.region ?_
       replace h := bindS h
       obtain ⟨x523, hx523, h⟩ := h
       refine rno 2 [.run [] (binOp .add 3 (iv x517) (iv 1)) (iv x523)] 2 [(10, sv ad32 y12 cap33), (12, sv ad64 y62.1 cap65), (143, sv ad504 y503 cap505), (144, iv (ln y503)), (145, iv x523)] hF (ocons (obAddC (fun _ => hx523)) onil) fun a hF => ?_
       refine wfn rfl ?_
       rw [hk4] at h
       exact ⟨n_, Nat.lt_succ_self _, x523, hF.sub (by kernel_rfl), St.pick [0, 1, 2, 3, 4, 5] (by decide) hS, h⟩
     ·replace h := bif_f h hc
      refine wpIn_exit (exit_then <| exit_then <| exit_hit <| norm_then ?_)
      exact ⟨hF.sub (by kernel_rfl), St.pick [1, 2, 3, 4, 5] (by decide) hS, h⟩
    rintro a w ⟨hF, hS, h⟩
    rw [law06_PlanKeeps_K3] at h
    refine esr ?_
    replace h := bindS h
    obtain ⟨y500, hy500, h⟩ := h
    refine rx 2 [.call [] 17 #[] (.bool y500)] 2 [(8, .bool y500)] hF (ocons (show Ob.ok _ Ext _ _ from fun hk w2 hd => law06_works_ok F  _ ((fun _ => hy500) hk) _ w2 (memOf_at w2) ) onil) fun a w hF hx => ?_
    replace hS := hS.later hx
    refine wfn rfl ?_
    refine wpIn_ret (fn_ret [.tmp 8] [.bool y500] hF rfl ⟨rfl, trivial⟩ ?_)
    have hr_ := Option.some.inj h
    subst hr_
    exact ⟨rfl, hS.ext⟩
end Go.Proofs.Ytejffembnkojjaa
