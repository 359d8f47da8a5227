/- Walks, written by program (wip/gen/dec.py). -/
import Derived.Test.YtejffembnkojjaaC13XD
import Derived.Test.YtejffembnkojjaaProg
import Derived.Test.YtejffembnkojjaaC13XW0
import Derived.Test.YtejffembnkojjaaC13XW1
import Derived.Test.YtejffembnkojjaaC13XW4
import Derived.Test.YtejffembnkojjaaC13XW6
import Derived.Test.YtejffembnkojjaaC13XW7
import Derived.Test.YtejffembnkojjaaC13XW10
namespace Go.Proofs.Ytejffembnkojjaa
open Go Go.RowKit Go.Eng
set_option maxRecDepth 10000
set_option maxHeartbeats 4000000
set_option linter.unusedVariables false
set_option linter.unusedSimpArgs false
theorem law06_PlanTells_ok (F : Nat) (p0 : law06_Desk) (p1 : (List Int)) (p2 : Int) (res : Bool) (h : law06_PlanTells F p0 p1 p2 = some res) (μ : Frz) (w0 : World) (hm : FrzAt μ w0) {ad1 : Option Addr} {cap2 : Nat} {ad4 : Option Addr} {cap5 : Nat} (hA3 : ArrM μ 6 law06_Wish.cells ad1 cap2 p0.Jobs) (hA6 : ArrM μ 1 (fK .u8) ad4 cap5 p1) : Calls Try.prog 13 #[.agg #[.int .u8 p0.Rays, .int .u8 p0.Turn, .int .u8 p0.Move, .int .u8 p0.Duty, sv ad1 p0.Jobs cap2], sv ad4 p1 cap5, .int .u8 p2] w0 (fun e w => e = .returned (.bool res) ∧ Ext w0 w) := by
 obtain ⟨hlow, hS⟩ := hm.init
 have hext := Frz.ext_refl w0.heap.size μ
 rw [law06_PlanTells] at h
 refine fn_enterW Try.func13 rfl 197 [(0, .agg #[.int .u8 p0.Rays, .int .u8 p0.Turn, .int .u8 p0.Move, .int .u8 p0.Duty, sv ad1 p0.Jobs cap2]), (1, sv ad4 p1 cap5), (2, .int .u8 p2)] rfl rfl (by kernel_rfl) fun a w hw hF => ?_
 replace hS : St w0 [fz w0 μ] w := by rw [hw]; exact hS
 clear hw
 refine esr ?_
 refine SK.wi (boxK (t := 75) (fun b7 => [(1, sv ad4 p1 cap5), (2, .int .u8 p2), (3, pb b7)]) (.agg #[.int .u8 p0.Rays, .int .u8 p0.Turn, .int .u8 p0.Move, .int .u8 p0.Duty, sv ad1 p0.Jobs cap2]) #[.int .u8 p0.Rays, .int .u8 p0.Turn, .int .u8 p0.Move, .int .u8 p0.Duty, sv ad1 p0.Jobs cap2] hF hS (by kernel_rfl) ⟨by kernel_rfl⟩ (by kernel_rfl) (fun _ => ⟨by kernel_rfl⟩) fun b7 w a hF hS => ?_)
 refine rn 1 2 [(1, sv ad4 p1 cap5), (2, .int .u8 p2), (3, pb b7)] hF fun a hF => ?_
 refine wfn rfl ?_
 refine eseq ?_
 refine esr ?_
 refine rn 8 8 [(1, sv ad4 p1 cap5), (2, .int .u8 p2), (3, pb b7), (34, .bool (bif (decide ((ln p1) < 1)) then true else (decide ((ln p1) > 12))))] hF fun a hF => ?_
 refine wfn rfl ?_
 refine econd hF rfl (fun hc => ?_) (fun hc => ?_)
 ·replace h := bif_t h hc
  refine esr ?_
  replace h := bindS h
  obtain ⟨y8, hy8, h⟩ := h
  refine rx 2 [.call [] 17 #[] (.bool y8)] 2 [(6, .bool y8)] hF (ocons (show Ob.ok _ Ext _ _ from fun hk w2 hd => law06_works_ok F  _ ((fun _ => hy8) hk) _ w2 (memOf_at w2) ) onil) fun a w hF hx => ?_
  replace hS := hS.later hx
  refine wfn rfl ?_
  refine wpIn_ret (ret_then <| fn_ret [.tmp 6] [.bool y8] hF rfl ⟨rfl, trivial⟩ ?_)
  have hr_ := Option.some.inj h
  subst hr_
  exact ⟨rfl, hS.ext⟩
 ·replace h := bif_f h hc
  refine wpIn_skip (norm_then ?_)
  refine eseq ?_
  replace h := bindS h
  obtain ⟨y10, hy10, h⟩ := h
  replace h := bindS h
  obtain ⟨y12, hy12, h⟩ := h
  refine region_treeW 5 [1, 3, 4] (fun a w => ∃ (b31 : Nat) (ad32 : Option Addr) (cap33 : Nat), Fr 197 [] [(1, sv ad4 p1 cap5), (2, .int .u8 p2), (7, pb b31), (37, y10.ag), (39, sv ad32 y12 cap33)] a ∧ St w0 [blk b31 31 #[iv 0, iv 0, iv 0, iv 0], arr 34 8 plan_Job.cells ad32 y12.length cap33 y12, blk b7 75 #[.int .u8 p0.Rays, .int .u8 p0.Turn, .int .u8 p0.Move, .int .u8 p0.Duty, sv ad1 p0.Jobs cap2], fz w0 μ] w) (D := fun w => St w0 [blk b7 75 #[.int .u8 p0.Rays, .int .u8 p0.Turn, .int .u8 p0.Move, .int .u8 p0.Duty, sv ad1 p0.Jobs cap2]] w ∧ FrzAt μ w) (by kernel_rfl) (by kernel_rfl) hF.size (fun w hx => ?_) ?_
  ·skip
   replace hS := hS.later hx
   refine ⟨⟨St.pick [0] (by decide) hS, hS.frz (i := 1) rfl hlow⟩, ?_⟩
   have hcl34 := Frz.le_refl μ
   refine WT.s [0, 2] [1, 4] (by kernel_rfl) (by kernel_rfl) ?_
   refine runC (rest := []) (obs := [.run [] (Instr.loadAt 75 (pb b7)) (.agg #[.int .u8 p0.Rays, .int .u8 p0.Turn, .int .u8 p0.Move, .int .u8 p0.Duty, sv ad1 p0.Jobs cap2]), .run [] (Instr.loadAt 75 (pb b7)) (.agg #[.int .u8 p0.Rays, .int .u8 p0.Turn, .int .u8 p0.Move, .int .u8 p0.Duty, sv ad1 p0.Jobs cap2])]) [0, 2] [(1, sv ad4 p1 cap5), (2, .int .u8 p2), (36, .agg #[.int .u8 p0.Rays, .int .u8 p0.Turn, .int .u8 p0.Move, .int .u8 p0.Duty, sv ad1 p0.Jobs cap2]), (38, .agg #[.int .u8 p0.Rays, .int .u8 p0.Turn, .int .u8 p0.Move, .int .u8 p0.Duty, sv ad1 p0.Jobs cap2])] hF (by kernel_rfl) (by kernel_rfl) (ocons (obN (us := [.int .u8 p0.Rays, .int .u8 p0.Turn, .int .u8 p0.Move, .int .u8 p0.Duty, sv ad1 p0.Jobs cap2]) (by kernel_rfl) (fun _ hd => (hd.1.blk (i := 0) rfl).cells rfl)) (ocons (obN (us := [.int .u8 p0.Rays, .int .u8 p0.Turn, .int .u8 p0.Move, .int .u8 p0.Duty, sv ad1 p0.Jobs cap2]) (by kernel_rfl) (fun _ hd => (hd.1.blk (i := 0) rfl).cells rfl)) onil)) ⟨by kernel_rfl⟩ fun a hF => ?_
   refine WRun.fin ?_
   refine all_cons ?_ (all_cons ?_ (all_nil))
   ·skip
    refine callK (f := 36) (args := #[.agg #[.int .u8 p0.Rays, .int .u8 p0.Turn, .int .u8 p0.Move, .int .u8 p0.Duty, sv ad1 p0.Jobs cap2]]) (R := fun v w2 => v = y10.ag ∧ Ext w w2) (fun v35 => [(1, sv ad4 p1 cap5), (2, .int .u8 p2), (37, v35), (38, .agg #[.int .u8 p0.Rays, .int .u8 p0.Turn, .int .u8 p0.Move, .int .u8 p0.Duty, sv ad1 p0.Jobs cap2])]) hF (by kernel_rfl) ⟨by kernel_rfl⟩ (Calls.mono (law06_Desk_radar_ok F p0 _ hy10 (memOf w) w (memOf_at w) (hA3.mono (FrzAt.le_mem (hS.frz (i := 1) rfl hlow)))) (fun e w2 h => ⟨_, h.1, rfl, h.2⟩)) (fun _ => ⟨by kernel_rfl⟩) ?_
    rintro v35 w a ⟨rfl, hx⟩ hF
    replace hS := hS.later hx
    refine ⟨⟨St.pick [0] (by decide) hS, (hS.frz (i := 1) rfl hlow)⟩, ?_⟩
    refine WT.s [] [3, 4] (by kernel_rfl) (by kernel_rfl) ?_
    refine WRun.fin ?_
    refine all_cons ?_ (all_cons ?_ (all_nil))
    ·skip
     refine callK (f := 37) (args := #[.agg #[.int .u8 p0.Rays, .int .u8 p0.Turn, .int .u8 p0.Move, .int .u8 p0.Duty, sv ad1 p0.Jobs cap2]]) (R := fun v w2 => ∃ ad37 cap38, v = sv ad37 y12 cap38 ∧ St w [arr 34 8 plan_Job.cells ad37 y12.length cap38 y12] w2) (fun v36 => [(1, sv ad4 p1 cap5), (2, .int .u8 p2), (37, y10.ag), (39, v36)]) hF (by kernel_rfl) ⟨by kernel_rfl⟩ (Calls.mono (law06_Desk_jobs_ok F p0 _ hy12 (memOf w) w (memOf_at w) (hA3.mono (FrzAt.le_mem (hS.frz (i := 1) rfl hlow)))) (by rintro e w2 ⟨ad37, cap38, rfl, h⟩; exact ⟨_, rfl, ad37, cap38, rfl, h⟩)) (fun _ => ⟨by kernel_rfl⟩) ?_
     rintro v36 w a ⟨ad37, cap38, rfl, hQ⟩ hF
     replace hS : St w0 [arr 34 8 plan_Job.cells ad37 y12.length cap38 y12, blk b7 75 #[.int .u8 p0.Rays, .int .u8 p0.Turn, .int .u8 p0.Move, .int .u8 p0.Duty, sv ad1 p0.Jobs cap2], fz w0 μ] w := hS.madeL hQ
     refine ⟨⟨St.pick [1] (by decide) hS, (hS.frz (i := 2) rfl hlow)⟩, ?_⟩
     refine WT.s [] [4] (by kernel_rfl) (by kernel_rfl) ?_
     refine WRun.fin ?_
     refine all_cons ?_ (all_nil)
     refine allocK (t := 31) (fun b39 => [(1, sv ad4 p1 cap5), (2, .int .u8 p2), (7, pb b39), (37, y10.ag), (39, sv ad37 y12 cap38)]) #[iv 0, iv 0, iv 0, iv 0] hF hS (by kernel_rfl) ⟨by kernel_rfl⟩ (by kernel_rfl) (fun _ => ⟨by kernel_rfl⟩) fun b39 w a hF hS => ⟨⟨St.pick [2] (by decide) hS, (hS.frz (i := 3) rfl hlow)⟩, ?_⟩
     refine WT.z [] (by kernel_rfl) ?_
     refine WRun.fin ?_
     exact ⟨b39, ad37, cap38, hF.sub (by kernel_rfl), St.pick [0, 1, 2, 3] (by decide) hS⟩
    ·skip
     refine allocK (t := 31) (fun b40 => [(1, sv ad4 p1 cap5), (2, .int .u8 p2), (7, pb b40), (37, y10.ag), (38, .agg #[.int .u8 p0.Rays, .int .u8 p0.Turn, .int .u8 p0.Move, .int .u8 p0.Duty, sv ad1 p0.Jobs cap2])]) #[iv 0, iv 0, iv 0, iv 0] hF hS (by kernel_rfl) ⟨by kernel_rfl⟩ (by kernel_rfl) (fun _ => ⟨by kernel_rfl⟩) fun b40 w a hF hS => ⟨⟨St.pick [1] (by decide) hS, (hS.frz (i := 2) rfl hlow)⟩, ?_⟩
     refine WT.s [] [3] (by kernel_rfl) (by kernel_rfl) ?_
     refine WRun.fin ?_
     refine all_cons ?_ (all_nil)
     refine callK (f := 37) (args := #[.agg #[.int .u8 p0.Rays, .int .u8 p0.Turn, .int .u8 p0.Move, .int .u8 p0.Duty, sv ad1 p0.Jobs cap2]]) (R := fun v w2 => ∃ ad42 cap43, v = sv ad42 y12 cap43 ∧ St w [arr 34 8 plan_Job.cells ad42 y12.length cap43 y12] w2) (fun v41 => [(1, sv ad4 p1 cap5), (2, .int .u8 p2), (7, pb b40), (37, y10.ag), (39, v41)]) hF (by kernel_rfl) ⟨by kernel_rfl⟩ (Calls.mono (law06_Desk_jobs_ok F p0 _ hy12 (memOf w) w (memOf_at w) (hA3.mono (FrzAt.le_mem (hS.frz (i := 2) rfl hlow)))) (by rintro e w2 ⟨ad42, cap43, rfl, h⟩; exact ⟨_, rfl, ad42, cap43, rfl, h⟩)) (fun _ => ⟨by kernel_rfl⟩) ?_
     rintro v41 w a ⟨ad42, cap43, rfl, hQ⟩ hF
     replace hS : St w0 [arr 34 8 plan_Job.cells ad42 y12.length cap43 y12, blk b40 31 #[iv 0, iv 0, iv 0, iv 0], blk b7 75 #[.int .u8 p0.Rays, .int .u8 p0.Turn, .int .u8 p0.Move, .int .u8 p0.Duty, sv ad1 p0.Jobs cap2], fz w0 μ] w := hS.madeL hQ
     refine ⟨⟨St.pick [2] (by decide) hS, (hS.frz (i := 3) rfl hlow)⟩, ?_⟩
     refine WT.z [] (by kernel_rfl) ?_
     refine WRun.fin ?_
     exact ⟨b40, ad42, cap43, hF.sub (by kernel_rfl), St.pick [1, 0, 2, 3] (by decide) hS⟩
   ·skip
    refine allocK (t := 31) (fun b44 => [(1, sv ad4 p1 cap5), (2, .int .u8 p2), (7, pb b44), (36, .agg #[.int .u8 p0.Rays, .int .u8 p0.Turn, .int .u8 p0.Move, .int .u8 p0.Duty, sv ad1 p0.Jobs cap2]), (38, .agg #[.int .u8 p0.Rays, .int .u8 p0.Turn, .int .u8 p0.Move, .int .u8 p0.Duty, sv ad1 p0.Jobs cap2])]) #[iv 0, iv 0, iv 0, iv 0] hF hS (by kernel_rfl) ⟨by kernel_rfl⟩ (by kernel_rfl) (fun _ => ⟨by kernel_rfl⟩) fun b44 w a hF hS => ⟨⟨St.pick [1] (by decide) hS, (hS.frz (i := 2) rfl hlow)⟩, ?_⟩
    refine WT.s [] [1] (by kernel_rfl) (by kernel_rfl) ?_
    refine WRun.fin ?_
    refine all_cons ?_ (all_nil)
    refine callK (f := 36) (args := #[.agg #[.int .u8 p0.Rays, .int .u8 p0.Turn, .int .u8 p0.Move, .int .u8 p0.Duty, sv ad1 p0.Jobs cap2]]) (R := fun v w2 => v = y10.ag ∧ Ext w w2) (fun v45 => [(1, sv ad4 p1 cap5), (2, .int .u8 p2), (7, pb b44), (37, v45), (38, .agg #[.int .u8 p0.Rays, .int .u8 p0.Turn, .int .u8 p0.Move, .int .u8 p0.Duty, sv ad1 p0.Jobs cap2])]) hF (by kernel_rfl) ⟨by kernel_rfl⟩ (Calls.mono (law06_Desk_radar_ok F p0 _ hy10 (memOf w) w (memOf_at w) (hA3.mono (FrzAt.le_mem (hS.frz (i := 2) rfl hlow)))) (fun e w2 h => ⟨_, h.1, rfl, h.2⟩)) (fun _ => ⟨by kernel_rfl⟩) ?_
    rintro v45 w a ⟨rfl, hx⟩ hF
    replace hS := hS.later hx
    refine ⟨⟨St.pick [1] (by decide) hS, (hS.frz (i := 2) rfl hlow)⟩, ?_⟩
    refine WT.s [] [3] (by kernel_rfl) (by kernel_rfl) ?_
    refine WRun.fin ?_
    refine all_cons ?_ (all_nil)
    refine callK (f := 37) (args := #[.agg #[.int .u8 p0.Rays, .int .u8 p0.Turn, .int .u8 p0.Move, .int .u8 p0.Duty, sv ad1 p0.Jobs cap2]]) (R := fun v w2 => ∃ ad47 cap48, v = sv ad47 y12 cap48 ∧ St w [arr 34 8 plan_Job.cells ad47 y12.length cap48 y12] w2) (fun v46 => [(1, sv ad4 p1 cap5), (2, .int .u8 p2), (7, pb b44), (37, y10.ag), (39, v46)]) hF (by kernel_rfl) ⟨by kernel_rfl⟩ (Calls.mono (law06_Desk_jobs_ok F p0 _ hy12 (memOf w) w (memOf_at w) (hA3.mono (FrzAt.le_mem (hS.frz (i := 2) rfl hlow)))) (by rintro e w2 ⟨ad47, cap48, rfl, h⟩; exact ⟨_, rfl, ad47, cap48, rfl, h⟩)) (fun _ => ⟨by kernel_rfl⟩) ?_
    rintro v46 w a ⟨ad47, cap48, rfl, hQ⟩ hF
    replace hS : St w0 [arr 34 8 plan_Job.cells ad47 y12.length cap48 y12, blk b44 31 #[iv 0, iv 0, iv 0, iv 0], blk b7 75 #[.int .u8 p0.Rays, .int .u8 p0.Turn, .int .u8 p0.Move, .int .u8 p0.Duty, sv ad1 p0.Jobs cap2], fz w0 μ] w := hS.madeL hQ
    refine ⟨⟨St.pick [2] (by decide) hS, (hS.frz (i := 3) rfl hlow)⟩, ?_⟩
    refine WT.z [] (by kernel_rfl) ?_
    refine WRun.fin ?_
    exact ⟨b44, ad47, cap48, hF.sub (by kernel_rfl), St.pick [1, 0, 2, 3] (by decide) hS⟩
  rintro a w ⟨b31, ad32, cap33, hF, hS⟩
  refine SK.wi (storeK (t := 31) [(1, sv ad4 p1 cap5), (2, .int .u8 p2), (7, pb b31), (39, sv ad32 y12 cap33)] 0 0 (y10.ag) y10.ar hF hS rfl (by kernel_rfl) ⟨by kernel_rfl⟩ (by kernel_rfl) (by kernel_rfl) (by kernel_rfl) (by kernel_rfl) ⟨by kernel_rfl⟩ fun w a hF hS => ?_)
  refine rn 1 7 [(1, sv ad4 p1 cap5), (2, .int .u8 p2), (7, pb b31), (8, sv ad32 y12 cap33)] hF fun a hF => ?_
  refine wfn rfl ?_
  refine esr ?_
  refine rn 3 3 [(2, .int .u8 p2), (7, pb b31), (8, sv ad32 y12 cap33), (40, sv ad4 p1 cap5), (42, iv (ln y12))] hF fun a hF => ?_
  replace h := bindS h
  obtain ⟨y50, hy50, h⟩ := h
  refine SK.wi (callK (f := 38) (args := #[sv ad4 p1 cap5, iv (ln y12)]) (R := fun v w2 => ∃ ad51 cap52, v = sv ad51 y50 cap52 ∧ St w [arr 3 1 fI ad51 y50.length cap52 y50] w2) (fun v49 => [(2, .int .u8 p2), (7, pb b31), (8, sv ad32 y12 cap33), (43, v49)]) hF (by kernel_rfl) ⟨by kernel_rfl⟩ (Calls.mono (law06_entries_ok F p1 (ln y12) _ hy50 (memOf w) w (memOf_at w) (hA6.mono (FrzAt.le_mem (hS.frz (i := 3) rfl hlow)))) (by rintro e w2 ⟨ad51, cap52, rfl, h⟩; exact ⟨_, rfl, ad51, cap52, rfl, h⟩)) (fun _ => ⟨by kernel_rfl⟩) ?_)
  rintro v49 w a ⟨ad51, cap52, rfl, hQ⟩ hF
  replace hS : St w0 [arr 3 1 fI ad51 y50.length cap52 y50, blk b31 31 y10.ar, arr 34 8 plan_Job.cells ad32 y12.length cap33 y12, blk b7 75 #[.int .u8 p0.Rays, .int .u8 p0.Turn, .int .u8 p0.Move, .int .u8 p0.Duty, sv ad1 p0.Jobs cap2], fz w0 μ] w := hS.madeL hQ
  refine rn 1 5 [(2, .int .u8 p2), (7, pb b31), (8, sv ad32 y12 cap33), (9, sv ad51 y50 cap52)] hF fun a hF => ?_
  refine wfn rfl ?_
  refine eseq ?_
  replace h := bindS h
  obtain ⟨u53, hu53, h⟩ := h
  replace h := bindS h
  obtain ⟨l55, hl55, h⟩ := h
  replace h := bindS h
  obtain ⟨l59, hl59, h⟩ := h
  replace h := bindS h
  obtain ⟨y63, hy63, h⟩ := h
  refine region_treeW 16 [2, 4, 8, 9, 10] (fun a w => ∃ (ad93 : Option Addr) (cap94 : Nat), Fr 197 [] [(2, .int .u8 p2), (7, pb b31), (8, sv ad32 y12 cap33), (9, sv ad51 y50 cap52), (10, sv ad93 y63.1 cap94), (11, .bool y63.2)] a ∧ St w0 [arr 3 1 fI ad93 y63.1.length cap94 y63.1, arr 3 1 fI ad51 y50.length cap52 y50, blk b31 31 y10.ar, arr 34 8 plan_Job.cells ad32 y12.length cap33 y12, blk b7 75 #[.int .u8 p0.Rays, .int .u8 p0.Turn, .int .u8 p0.Move, .int .u8 p0.Duty, sv ad1 p0.Jobs cap2], fz w0 μ] w) (D := fun w => St w0 [arr 3 1 fI ad51 y50.length cap52 y50, blk b31 31 y10.ar, arr 34 8 plan_Job.cells ad32 y12.length cap33 y12, blk b7 75 #[.int .u8 p0.Rays, .int .u8 p0.Turn, .int .u8 p0.Move, .int .u8 p0.Duty, sv ad1 p0.Jobs cap2]] w ∧ FrzAt μ w) (by kernel_rfl) (by kernel_rfl) hF.size (fun w hx => ?_) ?_
  ·skip
   replace hS := hS.later hx
   refine ⟨⟨St.pick [0, 1, 2, 3] (by decide) hS, hS.frz (i := 4) rfl hlow⟩, ?_⟩
   have hcl95 := Frz.le_refl μ
   refine WT.s [0, 1, 3, 5, 6, 7] [2, 8] (by kernel_rfl) (by kernel_rfl) ?_
   refine runC (rest := []) (obs := [.run [] (Instr.loadAt 31 (pb b31)) (y10.ag), .run [] (Instr.indexAt 40 (sv ad51 y50 cap52) (iv 0)) (.pointer (some (slAddr ad51 0 1))), .run [] (Instr.loadAt 3 (.pointer (some (slAddr ad51 0 1)))) (iv u53)]) [0, 1, 3, 5, 6, 7] [(2, .int .u8 p2), (7, pb b31), (8, sv ad32 y12 cap33), (9, sv ad51 y50 cap52), (45, y10.ag), (46, sv ad32 y12 cap33), (48, sv ad51 y50 cap52), (52, iv u53)] hF (by kernel_rfl) (by kernel_rfl) (ocons (obN (us := y10.cells) (by kernel_rfl) (fun _ hd => (hd.1.blk (i := 1) rfl).cells rfl)) (ocons (obIdxQ (hS.arr (i := 0) rfl) (by kernel_rfl) (fun _ => hu53)) (ocons (obElQ (i := 0) 0 fI_len (fun _ hd => (hd.1.arr (i := 0) rfl)) (by kernel_rfl) (fun _ => hu53) rfl) onil))) ⟨by kernel_rfl⟩ fun a hF => ?_
   refine WRun.fin ?_
   refine all_cons ?_ (all_cons ?_ (all_nil))
   ·skip
    refine litK (e := 3) (sz := 1) (f := fI) (t := 40) (len := 0) (fun b96 => [(2, .int .u8 p2), (7, pb b31), (8, sv ad32 y12 cap33), (9, sv ad51 y50 cap52), (45, y10.ag), (46, sv ad32 y12 cap33), (47, sb b96 0), (48, sv ad51 y50 cap52), (52, iv u53)]) #[] #[] ([] : List Int) hF hS (by kernel_rfl) ⟨by kernel_rfl⟩ (by kernel_rfl) fI_len rfl rfl (by kernel_rfl) (fun _ => ⟨by kernel_rfl⟩) fun b96 w a hF hS => ⟨⟨St.pick [1, 2, 3, 4] (by decide) hS, (hS.frz (i := 5) rfl hlow)⟩, ?_⟩
    refine WT.s [] [4, 8] (by kernel_rfl) (by kernel_rfl) ?_
    refine WRun.fin ?_
    refine all_cons ?_ (all_cons ?_ (all_nil))
    ·skip
     refine appK (t := 40) (ty := 40) (bytes := 8) (l := ([] : List Int)) (l' := y50) (fun ad97 cap98 => [(2, .int .u8 p2), (7, pb b31), (8, sv ad32 y12 cap33), (9, sv ad51 y50 cap52), (45, y10.ag), (46, sv ad32 y12 cap33), (49, sv ad97 l55 cap98), (52, iv u53)]) 0 hF hS rfl (by kernel_rfl) ⟨by kernel_rfl⟩ (by kernel_rfl) (hS.arr (i := 1) rfl) (fun _ _ => rfl) hl55 (fun _ _ => ⟨by kernel_rfl⟩) fun ad97 cap98 w a hF hS => ⟨⟨St.pick [1, 2, 3, 4] (by decide) hS, (hS.frz (i := 5) rfl hlow)⟩, ?_⟩
     refine WT.s [] [8] (by kernel_rfl) (by kernel_rfl) ?_
     refine WRun.fin ?_
     refine all_cons ?_ (all_nil)
     refine litK (e := 3) (sz := 1) (f := fI) (t := 40) (len := 1) (fun b99 => [(2, .int .u8 p2), (7, pb b31), (8, sv ad32 y12 cap33), (9, sv ad51 y50 cap52), (45, y10.ag), (46, sv ad32 y12 cap33), (49, sv ad97 l55 cap98), (53, sb b99 1)]) #[(0, iv u53)] #[iv u53] ([u53]) hF hS (by kernel_rfl) ⟨by kernel_rfl⟩ (by kernel_rfl) fI_len rfl rfl (by kernel_rfl) (fun _ => ⟨by kernel_rfl⟩) fun b99 w a hF hS => ⟨⟨St.pick [2, 3, 4, 5] (by decide) hS, (hS.frz (i := 6) rfl hlow)⟩, ?_⟩
     refine WT.s [] [9] (by kernel_rfl) (by kernel_rfl) ?_
     refine WRun.fin ?_
     refine all_cons ?_ (all_nil)
     refine appK (t := 40) (ty := 40) (bytes := 8) (l := l55) (l' := ([u53])) (fun ad100 cap101 => [(2, .int .u8 p2), (7, pb b31), (8, sv ad32 y12 cap33), (9, sv ad51 y50 cap52), (45, y10.ag), (46, sv ad32 y12 cap33), (54, sv ad100 l59 cap101)]) 1 hF hS rfl (by kernel_rfl) ⟨by kernel_rfl⟩ (by kernel_rfl) (hS.arr (i := 0) rfl) (fun _ _ => rfl) hl59 (fun _ _ => ⟨by kernel_rfl⟩) fun ad100 cap101 w a hF hS => ⟨⟨St.pick [2, 3, 4, 5] (by decide) hS, (hS.frz (i := 6) rfl hlow)⟩, ?_⟩
     refine WT.s [] [10] (by kernel_rfl) (by kernel_rfl) ?_
     refine WRun.fin ?_
     refine all_cons ?_ (all_nil)
     refine callK (f := 39) (args := #[y10.ag, sv ad32 y12 cap33, sv ad100 l59 cap101]) (R := fun v w2 => ∃ ad103 cap104, v = .tuple #[sv ad103 y63.1 cap104, .bool y63.2] ∧ St w [arr 3 1 fI ad103 y63.1.length cap104 y63.1] w2) (fun v102 => [(2, .int .u8 p2), (7, pb b31), (8, sv ad32 y12 cap33), (9, sv ad51 y50 cap52), (55, v102)]) hF (by kernel_rfl) ⟨by kernel_rfl⟩ (Calls.mono (law06_begins_ok F y10 y12 l59 _ hy63 (memOf w) w (memOf_at w) (Arr.toM (hS.arr (i := 4) rfl)) (Arr.toM (hS.arr (i := 1) rfl))) (by rintro e w2 ⟨ad103, cap104, rfl, h⟩; exact ⟨_, rfl, ad103, cap104, rfl, h⟩)) (fun _ => ⟨by kernel_rfl⟩) ?_
     rintro v102 w a ⟨ad103, cap104, rfl, hQ⟩ hF
     replace hS : St w0 [arr 3 1 fI ad103 y63.1.length cap104 y63.1, arr 3 1 fI (some ⟨b99, 0, none⟩) ([u53]).length 1 ([u53]), arr 3 1 fI ad100 l59.length cap101 l59, arr 3 1 fI ad51 y50.length cap52 y50, blk b31 31 y10.ar, arr 34 8 plan_Job.cells ad32 y12.length cap33 y12, blk b7 75 #[.int .u8 p0.Rays, .int .u8 p0.Turn, .int .u8 p0.Move, .int .u8 p0.Duty, sv ad1 p0.Jobs cap2], fz w0 μ] w := hS.madeL hQ
     refine ⟨⟨St.pick [3, 4, 5, 6] (by decide) hS, (hS.frz (i := 7) rfl hlow)⟩, ?_⟩
     refine WT.z [11, 12, 13, 14, 15] (by kernel_rfl) ?_
     refine runC (rest := []) (obs := []) [11, 12, 13, 14, 15] [(2, .int .u8 p2), (7, pb b31), (8, sv ad32 y12 cap33), (9, sv ad51 y50 cap52), (10, sv ad103 y63.1 cap104), (11, .bool y63.2)] hF (by kernel_rfl) (by kernel_rfl) onil ⟨by kernel_rfl⟩ fun a hF => ?_
     refine WRun.fin ?_
     exact ⟨ad103, cap104, hF.sub (by kernel_rfl), St.pick [0, 3, 4, 5, 6, 7] (by decide) hS⟩
    ·skip
     refine litK (e := 3) (sz := 1) (f := fI) (t := 40) (len := 1) (fun b105 => [(2, .int .u8 p2), (7, pb b31), (8, sv ad32 y12 cap33), (9, sv ad51 y50 cap52), (45, y10.ag), (46, sv ad32 y12 cap33), (47, sb b96 0), (48, sv ad51 y50 cap52), (53, sb b105 1)]) #[(0, iv u53)] #[iv u53] ([u53]) hF hS (by kernel_rfl) ⟨by kernel_rfl⟩ (by kernel_rfl) fI_len rfl rfl (by kernel_rfl) (fun _ => ⟨by kernel_rfl⟩) fun b105 w a hF hS => ⟨⟨St.pick [2, 3, 4, 5] (by decide) hS, (hS.frz (i := 6) rfl hlow)⟩, ?_⟩
     refine WT.s [] [4] (by kernel_rfl) (by kernel_rfl) ?_
     refine WRun.fin ?_
     refine all_cons ?_ (all_nil)
     refine appK (t := 40) (ty := 40) (bytes := 8) (l := ([] : List Int)) (l' := y50) (fun ad106 cap107 => [(2, .int .u8 p2), (7, pb b31), (8, sv ad32 y12 cap33), (9, sv ad51 y50 cap52), (45, y10.ag), (46, sv ad32 y12 cap33), (49, sv ad106 l55 cap107), (53, sb b105 1)]) 1 hF hS rfl (by kernel_rfl) ⟨by kernel_rfl⟩ (by kernel_rfl) (hS.arr (i := 2) rfl) (fun _ _ => rfl) hl55 (fun _ _ => ⟨by kernel_rfl⟩) fun ad106 cap107 w a hF hS => ⟨⟨St.pick [2, 3, 4, 5] (by decide) hS, (hS.frz (i := 6) rfl hlow)⟩, ?_⟩
     refine WT.s [] [9] (by kernel_rfl) (by kernel_rfl) ?_
     refine WRun.fin ?_
     refine all_cons ?_ (all_nil)
     refine appK (t := 40) (ty := 40) (bytes := 8) (l := l55) (l' := ([u53])) (fun ad108 cap109 => [(2, .int .u8 p2), (7, pb b31), (8, sv ad32 y12 cap33), (9, sv ad51 y50 cap52), (45, y10.ag), (46, sv ad32 y12 cap33), (54, sv ad108 l59 cap109)]) 1 hF hS rfl (by kernel_rfl) ⟨by kernel_rfl⟩ (by kernel_rfl) (hS.arr (i := 0) rfl) (fun _ _ => rfl) hl59 (fun _ _ => ⟨by kernel_rfl⟩) fun ad108 cap109 w a hF hS => ⟨⟨St.pick [2, 3, 4, 5] (by decide) hS, (hS.frz (i := 6) rfl hlow)⟩, ?_⟩
     refine WT.s [] [10] (by kernel_rfl) (by kernel_rfl) ?_
     refine WRun.fin ?_
     refine all_cons ?_ (all_nil)
     refine callK (f := 39) (args := #[y10.ag, sv ad32 y12 cap33, sv ad108 l59 cap109]) (R := fun v w2 => ∃ ad111 cap112, v = .tuple #[sv ad111 y63.1 cap112, .bool y63.2] ∧ St w [arr 3 1 fI ad111 y63.1.length cap112 y63.1] w2) (fun v110 => [(2, .int .u8 p2), (7, pb b31), (8, sv ad32 y12 cap33), (9, sv ad51 y50 cap52), (55, v110)]) hF (by kernel_rfl) ⟨by kernel_rfl⟩ (Calls.mono (law06_begins_ok F y10 y12 l59 _ hy63 (memOf w) w (memOf_at w) (Arr.toM (hS.arr (i := 4) rfl)) (Arr.toM (hS.arr (i := 1) rfl))) (by rintro e w2 ⟨ad111, cap112, rfl, h⟩; exact ⟨_, rfl, ad111, cap112, rfl, h⟩)) (fun _ => ⟨by kernel_rfl⟩) ?_
     rintro v110 w a ⟨ad111, cap112, rfl, hQ⟩ hF
     replace hS : St w0 [arr 3 1 fI ad111 y63.1.length cap112 y63.1, arr 3 1 fI (some ⟨b105, 0, none⟩) ([u53]).length 1 ([u53]), arr 3 1 fI ad108 l59.length cap109 l59, arr 3 1 fI ad51 y50.length cap52 y50, blk b31 31 y10.ar, arr 34 8 plan_Job.cells ad32 y12.length cap33 y12, blk b7 75 #[.int .u8 p0.Rays, .int .u8 p0.Turn, .int .u8 p0.Move, .int .u8 p0.Duty, sv ad1 p0.Jobs cap2], fz w0 μ] w := hS.madeL hQ
     refine ⟨⟨St.pick [3, 4, 5, 6] (by decide) hS, (hS.frz (i := 7) rfl hlow)⟩, ?_⟩
     refine WT.z [11, 12, 13, 14, 15] (by kernel_rfl) ?_
     refine runC (rest := []) (obs := []) [11, 12, 13, 14, 15] [(2, .int .u8 p2), (7, pb b31), (8, sv ad32 y12 cap33), (9, sv ad51 y50 cap52), (10, sv ad111 y63.1 cap112), (11, .bool y63.2)] hF (by kernel_rfl) (by kernel_rfl) onil ⟨by kernel_rfl⟩ fun a hF => ?_
     refine WRun.fin ?_
     exact ⟨ad111, cap112, hF.sub (by kernel_rfl), St.pick [0, 3, 4, 5, 6, 7] (by decide) hS⟩
   ·skip
    refine litK (e := 3) (sz := 1) (f := fI) (t := 40) (len := 1) (fun b113 => [(2, .int .u8 p2), (7, pb b31), (8, sv ad32 y12 cap33), (9, sv ad51 y50 cap52), (45, y10.ag), (46, sv ad32 y12 cap33), (48, sv ad51 y50 cap52), (53, sb b113 1)]) #[(0, iv u53)] #[iv u53] ([u53]) hF hS (by kernel_rfl) ⟨by kernel_rfl⟩ (by kernel_rfl) fI_len rfl rfl (by kernel_rfl) (fun _ => ⟨by kernel_rfl⟩) fun b113 w a hF hS => ⟨⟨St.pick [1, 2, 3, 4] (by decide) hS, (hS.frz (i := 5) rfl hlow)⟩, ?_⟩
    refine WT.s [] [2] (by kernel_rfl) (by kernel_rfl) ?_
    refine WRun.fin ?_
    refine all_cons ?_ (all_nil)
    refine litK (e := 3) (sz := 1) (f := fI) (t := 40) (len := 0) (fun b114 => [(2, .int .u8 p2), (7, pb b31), (8, sv ad32 y12 cap33), (9, sv ad51 y50 cap52), (45, y10.ag), (46, sv ad32 y12 cap33), (47, sb b114 0), (48, sv ad51 y50 cap52), (53, sb b113 1)]) #[] #[] ([] : List Int) hF hS (by kernel_rfl) ⟨by kernel_rfl⟩ (by kernel_rfl) fI_len rfl rfl (by kernel_rfl) (fun _ => ⟨by kernel_rfl⟩) fun b114 w a hF hS => ⟨⟨St.pick [2, 3, 4, 5] (by decide) hS, (hS.frz (i := 6) rfl hlow)⟩, ?_⟩
    refine WT.s [] [4] (by kernel_rfl) (by kernel_rfl) ?_
    refine WRun.fin ?_
    refine all_cons ?_ (all_nil)
    refine appK (t := 40) (ty := 40) (bytes := 8) (l := ([] : List Int)) (l' := y50) (fun ad115 cap116 => [(2, .int .u8 p2), (7, pb b31), (8, sv ad32 y12 cap33), (9, sv ad51 y50 cap52), (45, y10.ag), (46, sv ad32 y12 cap33), (49, sv ad115 l55 cap116), (53, sb b113 1)]) 0 hF hS rfl (by kernel_rfl) ⟨by kernel_rfl⟩ (by kernel_rfl) (hS.arr (i := 2) rfl) (fun _ _ => rfl) hl55 (fun _ _ => ⟨by kernel_rfl⟩) fun ad115 cap116 w a hF hS => ⟨⟨St.pick [2, 3, 4, 5] (by decide) hS, (hS.frz (i := 6) rfl hlow)⟩, ?_⟩
    refine WT.s [] [9] (by kernel_rfl) (by kernel_rfl) ?_
    refine WRun.fin ?_
    refine all_cons ?_ (all_nil)
    refine appK (t := 40) (ty := 40) (bytes := 8) (l := l55) (l' := ([u53])) (fun ad117 cap118 => [(2, .int .u8 p2), (7, pb b31), (8, sv ad32 y12 cap33), (9, sv ad51 y50 cap52), (45, y10.ag), (46, sv ad32 y12 cap33), (54, sv ad117 l59 cap118)]) 0 hF hS rfl (by kernel_rfl) ⟨by kernel_rfl⟩ (by kernel_rfl) (hS.arr (i := 1) rfl) (fun _ _ => rfl) hl59 (fun _ _ => ⟨by kernel_rfl⟩) fun ad117 cap118 w a hF hS => ⟨⟨St.pick [2, 3, 4, 5] (by decide) hS, (hS.frz (i := 6) rfl hlow)⟩, ?_⟩
    refine WT.s [] [10] (by kernel_rfl) (by kernel_rfl) ?_
    refine WRun.fin ?_
    refine all_cons ?_ (all_nil)
    refine callK (f := 39) (args := #[y10.ag, sv ad32 y12 cap33, sv ad117 l59 cap118]) (R := fun v w2 => ∃ ad120 cap121, v = .tuple #[sv ad120 y63.1 cap121, .bool y63.2] ∧ St w [arr 3 1 fI ad120 y63.1.length cap121 y63.1] w2) (fun v119 => [(2, .int .u8 p2), (7, pb b31), (8, sv ad32 y12 cap33), (9, sv ad51 y50 cap52), (55, v119)]) hF (by kernel_rfl) ⟨by kernel_rfl⟩ (Calls.mono (law06_begins_ok F y10 y12 l59 _ hy63 (memOf w) w (memOf_at w) (Arr.toM (hS.arr (i := 4) rfl)) (Arr.toM (hS.arr (i := 0) rfl))) (by rintro e w2 ⟨ad120, cap121, rfl, h⟩; exact ⟨_, rfl, ad120, cap121, rfl, h⟩)) (fun _ => ⟨by kernel_rfl⟩) ?_
    rintro v119 w a ⟨ad120, cap121, rfl, hQ⟩ hF
    replace hS : St w0 [arr 3 1 fI ad120 y63.1.length cap121 y63.1, arr 3 1 fI ad117 l59.length cap118 l59, arr 3 1 fI (some ⟨b113, 0, none⟩) ([u53]).length 1 ([u53]), arr 3 1 fI ad51 y50.length cap52 y50, blk b31 31 y10.ar, arr 34 8 plan_Job.cells ad32 y12.length cap33 y12, blk b7 75 #[.int .u8 p0.Rays, .int .u8 p0.Turn, .int .u8 p0.Move, .int .u8 p0.Duty, sv ad1 p0.Jobs cap2], fz w0 μ] w := hS.madeL hQ
    refine ⟨⟨St.pick [3, 4, 5, 6] (by decide) hS, (hS.frz (i := 7) rfl hlow)⟩, ?_⟩
    refine WT.z [11, 12, 13, 14, 15] (by kernel_rfl) ?_
    refine runC (rest := []) (obs := []) [11, 12, 13, 14, 15] [(2, .int .u8 p2), (7, pb b31), (8, sv ad32 y12 cap33), (9, sv ad51 y50 cap52), (10, sv ad120 y63.1 cap121), (11, .bool y63.2)] hF (by kernel_rfl) (by kernel_rfl) onil ⟨by kernel_rfl⟩ fun a hF => ?_
    refine WRun.fin ?_
    exact ⟨ad120, cap121, hF.sub (by kernel_rfl), St.pick [0, 3, 4, 5, 6, 7] (by decide) hS⟩
  rintro a w ⟨ad93, cap94, hF, hS⟩
  refine wfn rfl ?_
  refine eseq ?_
  refine esr ?_
  refine rno 3 [.run [] (Instr.loadAt 31 (pb b31)) (y10.ag)] 3 [(2, .int .u8 p2), (7, pb b31), (8, sv ad32 y12 cap33), (9, sv ad51 y50 cap52), (10, sv ad93 y63.1 cap94), (11, .bool y63.2), (59, y10.ag), (60, sv ad32 y12 cap33), (61, sv ad51 y50 cap52)] hF (ocons (obN (us := y10.cells) (by kernel_rfl) (fun _ hd => ((hS.at_ hd).blk (i := 2) rfl).cells rfl)) onil) fun a hF => ?_
  obtain ⟨ν122, hx123, hlow, hS, hz124⟩ := hS.freeze (i := 5) (j := 3) rfl rfl (by decide) hlow
  replace hA3 := hA3.mono hx123.1
  replace hA6 := hA6.mono hx123.1
  replace hext := Frz.ext_trans hext hx123
  replace hS : St w0 [arr 3 1 fI ad93 y63.1.length cap94 y63.1, arr 3 1 fI ad51 y50.length cap52 y50, blk b31 31 y10.ar, blk b7 75 #[.int .u8 p0.Rays, .int .u8 p0.Turn, .int .u8 p0.Move, .int .u8 p0.Duty, sv ad1 p0.Jobs cap2], fz w0 ν122] w := hS
  have hA125 := ArrM.of_arr hz124
  obtain ⟨ν126, hx127, hlow, hS, hz128⟩ := hS.freeze (i := 4) (j := 1) rfl rfl (by decide) hlow
  replace hA3 := hA3.mono hx127.1
  replace hA6 := hA6.mono hx127.1
  replace hA125 := hA125.mono hx127.1
  replace hext := Frz.ext_trans hext hx127
  replace hS : St w0 [arr 3 1 fI ad93 y63.1.length cap94 y63.1, blk b31 31 y10.ar, blk b7 75 #[.int .u8 p0.Rays, .int .u8 p0.Turn, .int .u8 p0.Move, .int .u8 p0.Duty, sv ad1 p0.Jobs cap2], fz w0 ν126] w := hS
  have hA129 := ArrM.of_arr hz128
  replace h := bindS h
  obtain ⟨y131, hy131, h⟩ := h
  refine SK.wi (callK (f := 18) (args := #[y10.ag, sv ad32 y12 cap33, sv ad51 y50 cap52]) (R := fun v w2 => ∃ ν132 ad133 cap134, ν126.ext w.heap.size ν132 ∧ v = .tuple #[sv ad133 y131.1 cap134, iv y131.2] ∧ ArrM ν132 1 fI ad133 cap134 y131.1 ∧ St w [frzR w.heap.size ν132] w2) (fun v130 => [(2, .int .u8 p2), (7, pb b31), (8, sv ad32 y12 cap33), (9, sv ad51 y50 cap52), (10, sv ad93 y63.1 cap94), (11, .bool y63.2), (62, v130)]) hF (by kernel_rfl) ⟨by kernel_rfl⟩ (Calls.mono (plan_Judge_ok F y10 y12 y50 _ hy131 ν126 w (hS.frz (i := 3) rfl hlow) hA125 hA129) (by rintro e w2 ⟨ν132, ad133, cap134, hx136, rfl, hA135, h⟩; exact ⟨_, rfl, ν132, ad133, cap134, hx136, rfl, hA135, h⟩)) (fun _ => ⟨by kernel_rfl⟩) ?_)
  rintro v130 w a ⟨ν132, ad133, cap134, hx136, rfl, hA135, hQ⟩ hF
  replace hext := Frz.ext_trans hext (Frz.ext_mono hx136 hS.ext.size)
  obtain ⟨hlow, hS⟩ := hS.frzMerge (i := 3) rfl hlow hx136 hQ
  replace hA3 := hA3.mono hx136.1
  replace hA6 := hA6.mono hx136.1
  replace hA125 := hA125.mono hx136.1
  replace hA129 := hA129.mono hx136.1
  replace hS : St w0 [arr 3 1 fI ad93 y63.1.length cap94 y63.1, blk b31 31 y10.ar, blk b7 75 #[.int .u8 p0.Rays, .int .u8 p0.Turn, .int .u8 p0.Move, .int .u8 p0.Duty, sv ad1 p0.Jobs cap2], fz w0 ν132] w := hS
  refine rn 5 9 [(2, .int .u8 p2), (7, pb b31), (8, sv ad32 y12 cap33), (9, sv ad51 y50 cap52), (10, sv ad93 y63.1 cap94), (11, .bool y63.2), (13, iv y131.2)] hF fun a hF => ?_
  refine wfn rfl ?_
  refine esr ?_
  refine rn 2 2 [(2, .int .u8 p2), (7, pb b31), (8, sv ad32 y12 cap33), (9, sv ad51 y50 cap52), (10, sv ad93 y63.1 cap94), (11, .bool y63.2), (13, iv y131.2), (66, .bool (y131.2 != 0))] hF fun a hF => ?_
  refine wfn rfl ?_
  refine econd hF rfl (fun hc => ?_) (fun hc => ?_)
  ·replace h := bif_t h hc
   refine esr ?_
   replace h := bindS h
   obtain ⟨y137, hy137, h⟩ := h
   refine rx 11 [.run [] (Instr.loadAt 31 (pb b31)) (y10.ag), .call [] 24 #[y10.ag, sv ad32 y12 cap33, sv ad51 y50 cap52, iv 0] (.tuple #[iv y137.1, iv y137.2.1, iv y137.2.2])] 11 [(13, iv y131.2), (16, iv y137.2.2)] hF (ocons (obN (us := y10.cells) (by kernel_rfl) (fun _ hd => ((hS.later hd).blk (i := 1) rfl).cells rfl)) (ocons (show Ob.ok _ Ext _ _ from fun hk w2 hd => plan_Where_ok F y10 y12 y50 0 _ ((fun _ => hy137) hk) _ w2 (memOf_at w2) (hA125.mono (FrzAt.le_mem ((hS.later hd).frz (i := 3) rfl hlow))) (hA129.mono (FrzAt.le_mem ((hS.later hd).frz (i := 3) rfl hlow)))) onil)) fun a w hF hx => ?_
   replace hS := hS.later hx
   refine wfn rfl ?_
   refine esr ?_
   replace h := bindS h
   obtain ⟨y138, hy138, h⟩ := h
   refine rx 7 [.call [⟨78, true, (y131.2 == y137.2.2)⟩] 17 #[] (.bool y138)] 7 [(6, .bool (bif (y131.2 == y137.2.2) then y138 else false))] hF (ocons (show Ob.ok _ Ext _ _ from fun hk w2 hd => law06_works_ok F  _ ((fun hk => gd_some hy138 hk) hk) _ w2 (memOf_at w2) ) onil) fun a w hF hx => ?_
   replace hS := hS.later hx
   refine wfn rfl ?_
   refine wpIn_ret (ret_then <| fn_ret [.tmp 6] [.bool (bif (y131.2 == y137.2.2) then y138 else false)] hF rfl ⟨rfl, trivial⟩ ?_)
   have hr_ := Option.some.inj h
   subst hr_
   exact ⟨rfl, hS.ext⟩
  ·replace h := bif_f h hc
   refine wpIn_skip (norm_then ?_)
   refine eseq ?_
   refine esr ?_
   refine rn 2 2 [(2, .int .u8 p2), (7, pb b31), (8, sv ad32 y12 cap33), (9, sv ad51 y50 cap52), (10, sv ad93 y63.1 cap94), (82, .bool (!y63.2))] hF fun a hF => ?_
   refine wfn rfl ?_
   refine econd hF rfl (fun hc => ?_) (fun hc => ?_)
   ·replace h := bif_t h hc
    refine esr ?_
    refine rn 1 1 [(6, .bool false)] hF fun a hF => ?_
    refine wfn rfl ?_
    refine wpIn_ret (ret_then <| fn_ret [.tmp 6] [.bool false] hF rfl ⟨rfl, trivial⟩ ?_)
    have hr_ := Option.some.inj h
    subst hr_
    exact ⟨rfl, hS.ext⟩
   ·replace h := bif_f h hc
    refine wpIn_skip (norm_then ?_)
    refine esr ?_
    replace h := bindS h
    obtain ⟨u139, hu139, h⟩ := h
    refine rno 6 [.run [] (Instr.indexAt 40 (sv ad93 y63.1 cap94) (iv (ln y50))) (.pointer (some (slAddr ad93 (ln y50) 1))), .run [] (Instr.loadAt 3 (.pointer (some (slAddr ad93 (ln y50) 1)))) (iv u139)] 6 [(2, .int .u8 p2), (7, pb b31), (8, sv ad32 y12 cap33), (9, sv ad51 y50 cap52), (10, sv ad93 y63.1 cap94), (17, iv u139)] hF (ocons (obIdxQ (hS.arr (i := 0) rfl) (by kernel_rfl) (fun _ => hu139)) (ocons (obElQ (i := (ln y50)) 0 fI_len (fun _ hd => ((hS.at_ hd).arr (i := 0) rfl)) (by kernel_rfl) (fun _ => hu139) rfl) onil)) fun a hF => ?_
    refine wfn rfl ?_
    refine ecut (fun a w => Fr 197 [] [] a ∧ St w0 [arr 3 1 fI ad93 y63.1.length cap94 y63.1, blk b31 31 y10.ar, blk b7 75 #[.int .u8 p0.Rays, .int .u8 p0.Turn, .int .u8 p0.Move, .int .u8 p0.Duty, sv ad1 p0.Jobs cap2], fz w0 ν132] w ∧ law06_PlanTells_K1 F = some res) ?_ ?_
    ·skip
     refine esr ?_
     refine rn 3 3 [(2, .int .u8 p2), (7, pb b31), (8, sv ad32 y12 cap33), (9, sv ad51 y50 cap52), (10, sv ad93 y63.1 cap94), (17, iv u139), (88, sv ad51 y50 cap52), (89, iv (ln y50)), (90, iv 0)] hF fun a hF => ?_
     refine wfn rfl ?_
     refine wpIn_block ?_
     refine eloop (fun n_ a w => ∃ (x986 : Int), Fr 197 [] [(2, .int .u8 p2), (7, pb b31), (8, sv ad32 y12 cap33), (9, sv ad51 y50 cap52), (10, sv ad93 y63.1 cap94), (17, iv u139), (88, sv ad51 y50 cap52), (89, iv (ln y50)), (90, iv x986)] a ∧ St w0 [arr 3 1 fI ad93 y63.1.length cap94 y63.1, blk b31 31 y10.ar, blk b7 75 #[.int .u8 p0.Rays, .int .u8 p0.Turn, .int .u8 p0.Move, .int .u8 p0.Duty, sv ad1 p0.Jobs cap2], fz w0 ν132] w ∧ law06_PlanTells_L2 F p2 y10 y12 y50 y63 u139 n_ x986 = some res) F ⟨0, hF.sub (by kernel_rfl), St.pick [0, 1, 2, 3] (by decide) hS, h⟩ ?_
     rintro n_ a w ⟨x986, hF, hS, h⟩
     rcases n_ with _ | n_
     ·cases (show (none : Option Bool) = some res from h)
     obtain ⟨k2, hk2⟩ : ∃ k, k = law06_PlanTells_L2 F p2 y10 y12 y50 y63 u139 n_ := ⟨_, rfl⟩
     replace h : law06_PlanTells_B2 F p2 y10 y12 y50 y63 u139 k2 x986 = some res := by rw [hk2]; exact h
     rw [law06_PlanTells_B2] at h
     refine esr ?_
     refine rn 1 1 [(2, .int .u8 p2), (7, pb b31), (8, sv ad32 y12 cap33), (9, sv ad51 y50 cap52), (10, sv ad93 y63.1 cap94), (17, iv u139), (88, sv ad51 y50 cap52), (89, iv (ln y50)), (90, iv x986), (91, .bool (decide (x986 < (ln y50))))] hF fun a hF => ?_
     refine wfn rfl ?_
     refine eseq ?_
     refine econd hF rfl (fun hc => ?_) (fun hc => ?_)
     ·replace h := bif_t h hc
      refine wpIn_skip (norm_then ?_)
      refine ecut (fun a w => Fr 197 [] [(2, .int .u8 p2), (7, pb b31), (8, sv ad32 y12 cap33), (9, sv ad51 y50 cap52), (10, sv ad93 y63.1 cap94), (17, iv u139), (88, sv ad51 y50 cap52), (89, iv (ln y50)), (90, iv x986)] a ∧ St w0 [arr 3 1 fI ad93 y63.1.length cap94 y63.1, blk b31 31 y10.ar, blk b7 75 #[.int .u8 p0.Rays, .int .u8 p0.Turn, .int .u8 p0.Move, .int .u8 p0.Duty, sv ad1 p0.Jobs cap2], fz w0 ν132] w ∧ law06_PlanTells_K3 x986 k2 = some res) ?_ ?_
      ·skip
       refine wpIn_block ?_
       refine esr ?_
       replace h := bindS h
       obtain ⟨u1073, hu1073, h⟩ := h
       refine rno 5 [.run [] (Instr.indexAt 40 (sv ad51 y50 cap52) (iv x986)) (.pointer (some (slAddr ad51 x986 1))), .run [] (Instr.loadAt 3 (.pointer (some (slAddr ad51 x986 1)))) (iv u1073)] 5 [(2, .int .u8 p2), (7, pb b31), (8, sv ad32 y12 cap33), (9, sv ad51 y50 cap52), (10, sv ad93 y63.1 cap94), (17, iv u139), (18, iv x986), (19, iv u1073), (88, sv ad51 y50 cap52), (89, iv (ln y50)), (90, iv x986)] hF (ocons (obIdxQ (hA129 _ (hS.frz (i := 3) rfl hlow)) (by kernel_rfl) (fun _ => hu1073)) (ocons (obElQ (i := x986) 0 fI_len (fun _ hd => (hA129 _ ((hS.at_ hd).frz (i := 3) rfl hlow))) (by kernel_rfl) (fun _ => hu1073) rfl) onil)) fun a hF => ?_
       refine wfn rfl ?_
       refine eseq ?_
       replace h := bindS h
       obtain ⟨u1074, hu1074, h⟩ := h
       replace h := bindS h
       obtain ⟨y1075, hy1075, h⟩ := h
       refine runD (obs := [.run [] (Instr.loadAt 31 (pb b31)) (y10.ag), .run [] (Instr.indexAt 43 (sv ad32 y12 cap33) (iv u1073)) (.pointer (some (slAddr ad32 u1073 8))), .run [] (Instr.loadAt 34 (.pointer (some (slAddr ad32 u1073 8)))) (u1074.ag), .call [] 14 #[y10.ag, u1074.ag] (.tuple #[iv y1075.1, iv y1075.2])]) 11 [(2, .int .u8 p2), (7, pb b31), (8, sv ad32 y12 cap33), (9, sv ad51 y50 cap52), (10, sv ad93 y63.1 cap94), (17, iv u139), (18, iv x986), (20, iv y1075.1), (21, iv y1075.2), (88, sv ad51 y50 cap52), (89, iv (ln y50)), (90, iv x986)] (by kernel_rfl) hF (by kernel_rfl) (ocons (obN (us := y10.cells) (by kernel_rfl) (fun _ hd => ((hS.later hd).blk (i := 1) rfl).cells rfl)) (ocons (obIdxQ (hA125 _ (hS.frz (i := 3) rfl hlow)) (by kernel_rfl) (fun _ => hu1074)) (ocons (obElNQ (m := 8) (i := u1073) (us := u1074.cells) 0 plan_Job.cells_len (fun _ hd => (hA125 _ ((hS.later hd).frz (i := 3) rfl hlow))) (by kernel_rfl) (fun _ => hu1074) ⟨rfl, rfl⟩) (ocons (show Ob.ok _ Ext _ _ from fun hk w2 hd => plan_Time_ok F y10 u1074 _ ((fun _ => hy1075) hk) _ w2 (memOf_at w2) ) onil)))) ⟨by kernel_rfl⟩ fun a w hF hx => ?_
       replace hS := hS.later hx
       refine wfn rfl ?_
       refine eseq ?_
       refine esr ?_
       refine rn 6 6 [(2, .int .u8 p2), (7, pb b31), (8, sv ad32 y12 cap33), (9, sv ad51 y50 cap52), (10, sv ad93 y63.1 cap94), (17, iv u139), (18, iv x986), (20, iv y1075.1), (88, sv ad51 y50 cap52), (89, iv (ln y50)), (90, iv x986), (109, .bool (bif (y1075.2 != 0) then true else (decide (y1075.1 < 1))))] hF fun a hF => ?_
       refine wfn rfl ?_
       refine econd hF rfl (fun hc => ?_) (fun hc => ?_)
       ·replace h := bif_t h hc
        refine esr ?_
        refine rn 1 1 [(6, .bool false)] hF fun a hF => ?_
        refine wfn rfl ?_
        refine wpIn_ret (ret_then <| ret_block <| ret_then <| ret_then <| ret_block <| ret_then <| fn_ret [.tmp 6] [.bool false] hF rfl ⟨rfl, trivial⟩ ?_)
        have hr_ := Option.some.inj h
        subst hr_
        exact ⟨rfl, hS.ext⟩
       ·replace h := bif_f h hc
        refine wpIn_skip (norm_then ?_)
        refine eseq ?_
        replace h := bindS h
        obtain ⟨x1076, hx1076, h⟩ := h
        replace h := bindS h
        obtain ⟨x1077, hx1077, h⟩ := h
        replace h := bindS h
        obtain ⟨x1078, hx1078, h⟩ := h
        replace h := bindS h
        obtain ⟨x1079, hx1079, h⟩ := h
        replace h := bindS h
        obtain ⟨x1080, hx1080, h⟩ := h
        replace h := bindS h
        obtain ⟨x1081, hx1081, h⟩ := h
        replace h := bindS h
        obtain ⟨x1082, hx1082, h⟩ := h
        replace h := bindS h
        obtain ⟨x1083, hx1083, h⟩ := h
        replace h := bindS h
        obtain ⟨x1084, hx1084, h⟩ := h
        replace h := bindS h
        obtain ⟨u1085, hu1085, h⟩ := h
        replace h := bindS h
        obtain ⟨u1086, hu1086, h⟩ := h
        replace h := bindS h
        obtain ⟨x1087, hx1087, h⟩ := h
        replace h := bindS h
        obtain ⟨x1088, hx1088, h⟩ := h
        refine region_treeW 38 [35] _ (D := fun w => St w0 [arr 3 1 fI ad93 y63.1.length cap94 y63.1, blk b31 31 y10.ar, blk b7 75 #[.int .u8 p0.Rays, .int .u8 p0.Turn, .int .u8 p0.Move, .int .u8 p0.Duty, sv ad1 p0.Jobs cap2]] w ∧ FrzAt ν132 w) (by kernel_rfl) (by kernel_rfl) hF.size (fun w hx => ?_) (fun _ _ h => h)
        replace hS := hS.later hx
        refine ⟨⟨St.pick [0, 1, 2] (by decide) hS, hS.frz (i := 3) rfl hlow⟩, ?_⟩
        have hcl1091 := Frz.le_refl ν132
        refine WT.s [0, 1, 2, 3, 4, 5, 6, 7, 8, 9, 10, 11, 12, 13, 14, 15, 16, 17, 18, 19, 20, 21, 22, 23, 24, 25, 26, 27, 28, 29, 30, 31, 32, 33, 34, 37] [35] (by kernel_rfl) (by kernel_rfl) ?_
        refine runC (rest := []) (obs := [.run [] (binOp .sub 3 (iv y1075.1) (iv 1)) (iv x1076), .run [] (binOp .sub 3 (iv y1075.1) (iv 1)) (iv x1077), .run [] (Instr.loadAt 3 (pb b31)) (iv y10.Rays), .run [] (binOp .mul 3 (iv x1077) (iv y10.Rays)) (iv x1078), .run [] (binOp .quo 3 (iv x1078) (iv y1075.1)) (iv x1079), .run [] (binOp .quo 3 (iv y1075.1) (iv 2)) (iv x1080), .run [] (binOp .quo 3 (iv y1075.1) (iv 2)) (iv x1081), .run [] (Instr.loadAt 3 (pb b31)) (iv y10.Rays), .run [] (binOp .mul 3 (iv x1081) (iv y10.Rays)) (iv x1082), .run [] (binOp .quo 3 (iv x1082) (iv y1075.1)) (iv x1083), .run [] (binOp .add 3 (iv x986) (iv 1)) (iv x1084), .run [] (Instr.indexAt 40 (sv ad93 y63.1 cap94) (iv x1084)) (.pointer (some (slAddr ad93 x1084 1))), .run [] (Instr.loadAt 3 (.pointer (some (slAddr ad93 x1084 1)))) (iv u1085), .run [] (Instr.indexAt 40 (sv ad93 y63.1 cap94) (iv x986)) (.pointer (some (slAddr ad93 x986 1))), .run [] (Instr.loadAt 3 (.pointer (some (slAddr ad93 x986 1)))) (iv u1086), .run [] (binOp .sub 3 (iv u1085) (iv u1086)) (iv x1087), .run [] (binOp .sub 3 (iv x1087) (iv 1)) (iv x1088)]) [0, 1, 2, 3, 4, 5, 6, 7, 8, 9, 10, 11, 12, 13, 14, 15, 16, 17, 18, 19, 20, 21, 22, 23, 24, 25, 26, 27, 28, 29, 30, 31, 32, 33, 34, 37] [(2, .int .u8 p2), (7, pb b31), (8, sv ad32 y12 cap33), (9, sv ad51 y50 cap52), (10, sv ad93 y63.1 cap94), (17, iv u139), (18, iv x986), (20, iv y1075.1), (88, sv ad51 y50 cap52), (89, iv (ln y50)), (90, iv x986), (110, .agg #[iv 0, iv 0]), (120, .agg #[iv x1076, iv x1079]), (130, .agg #[iv x1080, iv x1083]), (144, .agg #[iv (if x1088 < y1075.1 then x1088 else y1075.1), iv (-1)]), (147, iv 0)] hF (by kernel_rfl) (by kernel_rfl) (ocons (obSubC (fun _ => hx1076)) (ocons (obSubC (fun _ => hx1077)) (ocons (ob1 (by kernel_rfl) (fun _ hd => hd.1.cell (i := 1) (j := 0) rfl rfl)) (ocons (obMulC (fun _ => hx1078)) (ocons (obQuoC (fun _ => hx1079)) (ocons (obQuoC (fun _ => hx1080)) (ocons (obQuoC (fun _ => hx1081)) (ocons (ob1 (by kernel_rfl) (fun _ hd => hd.1.cell (i := 1) (j := 0) rfl rfl)) (ocons (obMulC (fun _ => hx1082)) (ocons (obQuoC (fun _ => hx1083)) (ocons (obAddC (fun _ => hx1084)) (ocons (obIdxQ (hS.arr (i := 0) rfl) (by kernel_rfl) (fun _ => hu1085)) (ocons (obElQ (i := x1084) 0 fI_len (fun _ hd => (hd.1.arr (i := 0) rfl)) (by kernel_rfl) (fun _ => hu1085) rfl) (ocons (obIdxQ (hS.arr (i := 0) rfl) (by kernel_rfl) (fun _ => hu1086)) (ocons (obElQ (i := x986) 0 fI_len (fun _ hd => (hd.1.arr (i := 0) rfl)) (by kernel_rfl) (fun _ => hu1086) rfl) (ocons (obSubC (fun _ => hx1087)) (ocons (obSubC (fun _ => hx1088)) onil))))))))))))))))) ⟨by kernel_rfl⟩ fun a hF => ?_
        refine WRun.fin ?_
        refine all_cons ?_ (all_nil)
        refine litK (e := 94) (sz := 2) (f := anon94.cells) (t := 95) (len := 4) (fun b1092 => [(2, .int .u8 p2), (7, pb b31), (8, sv ad32 y12 cap33), (9, sv ad51 y50 cap52), (10, sv ad93 y63.1 cap94), (17, iv u139), (18, iv x986), (20, iv y1075.1), (88, sv ad51 y50 cap52), (89, iv (ln y50)), (90, iv x986), (145, sb b1092 4), (147, iv 0)]) #[(0, .agg #[iv 0, iv 0]), (1, .agg #[iv x1076, iv x1079]), (2, .agg #[iv x1080, iv x1083]), (3, .agg #[iv (if x1088 < y1075.1 then x1088 else y1075.1), iv (-1)])] #[iv 0, iv 0, iv x1076, iv x1079, iv x1080, iv x1083, iv (if x1088 < y1075.1 then x1088 else y1075.1), iv (-1)] ([(anon94.mk 0 0), (anon94.mk x1076 x1079), (anon94.mk x1080 x1083), (anon94.mk (if x1088 < y1075.1 then x1088 else y1075.1) (-1))]) hF hS (by kernel_rfl) ⟨by kernel_rfl⟩ (by kernel_rfl) anon94.cells_len rfl rfl (by kernel_rfl) (fun _ => ⟨by kernel_rfl⟩) fun b1092 w a hF hS => ⟨⟨St.pick [1, 2, 3] (by decide) hS, (hS.frz (i := 4) rfl hlow)⟩, ?_⟩
        refine WT.z [36] (by kernel_rfl) ?_
        refine runC (rest := []) (obs := []) [36] [(2, .int .u8 p2), (7, pb b31), (8, sv ad32 y12 cap33), (9, sv ad51 y50 cap52), (10, sv ad93 y63.1 cap94), (17, iv u139), (18, iv x986), (20, iv y1075.1), (88, sv ad51 y50 cap52), (89, iv (ln y50)), (90, iv x986), (145, sb b1092 4), (146, iv ((4 : Nat) : Int)), (147, iv 0)] hF (by kernel_rfl) (by kernel_rfl) onil ⟨by kernel_rfl⟩ fun a hF => ?_
        refine WRun.fin ?_
        refine wfn rfl ?_
        refine wpIn_block ?_
        refine eloop (fun n_ a w => ∃ (x1134 : Int), Fr 197 [] [(2, .int .u8 p2), (7, pb b31), (8, sv ad32 y12 cap33), (9, sv ad51 y50 cap52), (10, sv ad93 y63.1 cap94), (17, iv u139), (18, iv x986), (20, iv y1075.1), (88, sv ad51 y50 cap52), (89, iv (ln y50)), (90, iv x986), (145, sb b1092 4), (146, iv ((4 : Nat) : Int)), (147, iv x1134)] a ∧ St w0 [arr 94 2 anon94.cells (some ⟨b1092, 0, none⟩) ([(anon94.mk 0 0), (anon94.mk x1076 x1079), (anon94.mk x1080 x1083), (anon94.mk (if x1088 < y1075.1 then x1088 else y1075.1) (-1))]).length 4 ([(anon94.mk 0 0), (anon94.mk x1076 x1079), (anon94.mk x1080 x1083), (anon94.mk (if x1088 < y1075.1 then x1088 else y1075.1) (-1))]), arr 3 1 fI ad93 y63.1.length cap94 y63.1, blk b31 31 y10.ar, blk b7 75 #[.int .u8 p0.Rays, .int .u8 p0.Turn, .int .u8 p0.Move, .int .u8 p0.Duty, sv ad1 p0.Jobs cap2], fz w0 ν132] w ∧ law06_PlanTells_L4 F p2 y10 y12 y50 y63 u139 x986 k2 y1075 x1076 x1079 x1080 x1083 x1088 n_ x1134 = some res) F ⟨0, hF.sub (by kernel_rfl), St.pick [0, 1, 2, 3, 4] (by decide) hS, h⟩ ?_
        rintro n_ a w ⟨x1134, hF, hS, h⟩
        rcases n_ with _ | n_
        ·cases (show (none : Option Bool) = some res from h)
        obtain ⟨k4, hk4⟩ : ∃ k, k = law06_PlanTells_L4 F p2 y10 y12 y50 y63 u139 x986 k2 y1075 x1076 x1079 x1080 x1083 x1088 n_ := ⟨_, rfl⟩
        replace h : law06_PlanTells_B4 F p2 y10 y12 y50 y63 u139 x986 k2 y1075 x1076 x1079 x1080 x1083 x1088 k4 x1134 = some res := by rw [hk4]; exact h
        rw [law06_PlanTells_B4] at h
        refine esr ?_
        refine rn 1 1 [(2, .int .u8 p2), (7, pb b31), (8, sv ad32 y12 cap33), (9, sv ad51 y50 cap52), (10, sv ad93 y63.1 cap94), (17, iv u139), (18, iv x986), (20, iv y1075.1), (88, sv ad51 y50 cap52), (89, iv (ln y50)), (90, iv x986), (145, sb b1092 4), (146, iv ((4 : Nat) : Int)), (147, iv x1134), (148, .bool (decide (x1134 < ((4 : Nat) : Int))))] hF fun a hF => ?_
        refine wfn rfl ?_
        refine eseq ?_
        refine econd hF rfl (fun hc => ?_) (fun hc => ?_)
        ·replace h := bif_t h hc
         refine wpIn_skip (norm_then ?_)
         refine ecut (fun a w => Fr 197 [] [(2, .int .u8 p2), (7, pb b31), (8, sv ad32 y12 cap33), (9, sv ad51 y50 cap52), (10, sv ad93 y63.1 cap94), (17, iv u139), (18, iv x986), (20, iv y1075.1), (88, sv ad51 y50 cap52), (89, iv (ln y50)), (90, iv x986), (145, sb b1092 4), (146, iv ((4 : Nat) : Int)), (147, iv x1134)] a ∧ St w0 [arr 94 2 anon94.cells (some ⟨b1092, 0, none⟩) ([(anon94.mk 0 0), (anon94.mk x1076 x1079), (anon94.mk x1080 x1083), (anon94.mk (if x1088 < y1075.1 then x1088 else y1075.1) (-1))]).length 4 ([(anon94.mk 0 0), (anon94.mk x1076 x1079), (anon94.mk x1080 x1083), (anon94.mk (if x1088 < y1075.1 then x1088 else y1075.1) (-1))]), arr 3 1 fI ad93 y63.1.length cap94 y63.1, blk b31 31 y10.ar, blk b7 75 #[.int .u8 p0.Rays, .int .u8 p0.Turn, .int .u8 p0.Move, .int .u8 p0.Duty, sv ad1 p0.Jobs cap2], fz w0 ν132] w ∧ law06_PlanTells_K5 x1134 k4 = some res) ?_ ?_
         ·skip
          refine wpIn_block ?_
          refine esr ?_
          replace h := bindS h
          obtain ⟨u1147, hu1147, h⟩ := h
          refine rno 2 [.run [] (Instr.indexAt 95 (sb b1092 4) (iv x1134)) (.pointer (some (slAddr (some ⟨b1092, 0, none⟩) x1134 2))), .run [] (Instr.loadAt 94 (.pointer (some (slAddr (some ⟨b1092, 0, none⟩) x1134 2)))) (.agg #[iv u1147.now, iv u1147.ray])] 2 [(2, .int .u8 p2), (7, pb b31), (8, sv ad32 y12 cap33), (9, sv ad51 y50 cap52), (10, sv ad93 y63.1 cap94), (17, iv u139), (18, iv x986), (20, iv y1075.1), (88, sv ad51 y50 cap52), (89, iv (ln y50)), (90, iv x986), (145, sb b1092 4), (146, iv ((4 : Nat) : Int)), (147, iv x1134), (150, .agg #[iv u1147.now, iv u1147.ray])] hF (ocons (obIdxQ (hS.arr (i := 0) rfl) (by kernel_rfl) (fun _ => hu1147)) (ocons (obElNQ (m := 2) (i := x1134) (us := [iv u1147.now, iv u1147.ray]) 0 anon94.cells_len (fun _ hd => ((hS.at_ hd).arr (i := 0) rfl)) (by kernel_rfl) (fun _ => hu1147) ⟨rfl, rfl⟩) onil)) fun a hF => ?_
          refine SK.wi (allocK (t := 94) (fun b1148 => [(2, .int .u8 p2), (7, pb b31), (8, sv ad32 y12 cap33), (9, sv ad51 y50 cap52), (10, sv ad93 y63.1 cap94), (17, iv u139), (18, iv x986), (20, iv y1075.1), (23, pb b1148), (88, sv ad51 y50 cap52), (89, iv (ln y50)), (90, iv x986), (145, sb b1092 4), (146, iv ((4 : Nat) : Int)), (147, iv x1134), (150, .agg #[iv u1147.now, iv u1147.ray])]) #[iv 0, iv 0] hF hS (by kernel_rfl) ⟨by kernel_rfl⟩ (by kernel_rfl) (fun _ => ⟨by kernel_rfl⟩) fun b1148 w a hF hS => ?_)
          refine SK.wi (storeK (t := 94) [(2, .int .u8 p2), (7, pb b31), (8, sv ad32 y12 cap33), (9, sv ad51 y50 cap52), (10, sv ad93 y63.1 cap94), (17, iv u139), (18, iv x986), (20, iv y1075.1), (23, pb b1148), (88, sv ad51 y50 cap52), (89, iv (ln y50)), (90, iv x986), (145, sb b1092 4), (146, iv ((4 : Nat) : Int)), (147, iv x1134)] 0 0 (.agg #[iv u1147.now, iv u1147.ray]) #[iv u1147.now, iv u1147.ray] hF hS rfl (by kernel_rfl) ⟨by kernel_rfl⟩ (by kernel_rfl) (by kernel_rfl) (by kernel_rfl) (by kernel_rfl) ⟨by kernel_rfl⟩ fun w a hF hS => ?_)
          refine wfn rfl ?_
          refine eseq ?_
          refine esr ?_
          refine rno 9 [.run [] (Instr.loadAt 3 (.pointer (some ⟨b1148, 1, none⟩))) (iv u1147.ray), .run [⟨154, true, (decide (u1147.ray < 0))⟩] (Instr.loadAt 3 (pb b1148)) (iv u1147.now)] 9 [(2, .int .u8 p2), (7, pb b31), (8, sv ad32 y12 cap33), (9, sv ad51 y50 cap52), (10, sv ad93 y63.1 cap94), (17, iv u139), (18, iv x986), (20, iv y1075.1), (23, pb b1148), (88, sv ad51 y50 cap52), (89, iv (ln y50)), (90, iv x986), (145, sb b1092 4), (146, iv ((4 : Nat) : Int)), (147, iv x1134), (159, .bool (bif (decide (u1147.ray < 0)) then (decide (u1147.now < y1075.1)) else false))] hF (ocons (ob1 (by kernel_rfl) (fun _ hd => (hS.at_ hd).cell (i := 0) (j := 1) rfl rfl)) (ocons (ob1 (by kernel_rfl) (fun _ hd => (hS.at_ hd).cell (i := 0) (j := 0) rfl rfl)) onil)) fun a hF => ?_
          refine wfn rfl ?_
          refine econd hF rfl (fun hc => ?_) (fun hc => ?_)
          ·replace h := bif_t h hc
           refine wpIn_exit (exit_then <| exit_hit <| norm_then ?_)
           exact ⟨hF.sub (by kernel_rfl), St.pick [1, 2, 3, 4, 5] (by decide) hS, h⟩
          ·replace h := bif_f h hc
           refine wpIn_skip (norm_then ?_)
           refine eseq ?_
           replace h := bindS h
           obtain ⟨u1149, hu1149, h⟩ := h
           replace h := bindS h
           obtain ⟨x1150, hx1150, h⟩ := h
           replace h := bindS h
           obtain ⟨x1151, hx1151, h⟩ := h
           replace h := bindS h
           obtain ⟨x1152, hx1152, h⟩ := h
           replace h := bindS h
           obtain ⟨x1153, hx1153, h⟩ := h
           replace h := bindS h
           obtain ⟨x1154, hx1154, h⟩ := h
           replace h := bindS h
           obtain ⟨y1155, hy1155, h⟩ := h
           refine runD (obs := [.run [] (Instr.loadAt 31 (pb b31)) (y10.ag), .run [] (Instr.indexAt 40 (sv ad93 y63.1 cap94) (iv x986)) (.pointer (some (slAddr ad93 x986 1))), .run [] (Instr.loadAt 3 (.pointer (some (slAddr ad93 x986 1)))) (iv u1149), .run [] (Instr.loadAt 3 (pb b1148)) (iv u1147.now), .run [] (binOp .add 3 (iv u1149) (iv u1147.now)) (iv x1150), .run [] (convert 5 3 (.int .u8 p2)) (iv x1151), .run [] (binOp .rem 3 (iv x1151) (iv 3)) (iv x1152), .run [] (binOp .mul 3 (iv u139) (iv x1152)) (iv x1153), .run [] (binOp .add 3 (iv x1150) (iv x1153)) (iv x1154), .call [] 24 #[y10.ag, sv ad32 y12 cap33, sv ad51 y50 cap52, iv x1154] (.tuple #[iv y1155.1, iv y1155.2.1, iv y1155.2.2])]) 24 [(2, .int .u8 p2), (7, pb b31), (8, sv ad32 y12 cap33), (9, sv ad51 y50 cap52), (10, sv ad93 y63.1 cap94), (17, iv u139), (18, iv x986), (20, iv y1075.1), (23, pb b1148), (24, iv y1155.1), (25, iv y1155.2.1), (26, iv y1155.2.2), (88, sv ad51 y50 cap52), (89, iv (ln y50)), (90, iv x986), (145, sb b1092 4), (146, iv ((4 : Nat) : Int)), (147, iv x1134)] (by kernel_rfl) hF (by kernel_rfl) (ocons (obN (us := y10.cells) (by kernel_rfl) (fun _ hd => ((hS.later hd).blk (i := 3) rfl).cells rfl)) (ocons (obIdxQ (hS.arr (i := 2) rfl) (by kernel_rfl) (fun _ => hu1149)) (ocons (obElQ (i := x986) 0 fI_len (fun _ hd => ((hS.later hd).arr (i := 2) rfl)) (by kernel_rfl) (fun _ => hu1149) rfl) (ocons (ob1 (by kernel_rfl) (fun _ hd => (hS.later hd).cell (i := 0) (j := 0) rfl rfl)) (ocons (obAddC (fun _ => hx1150)) (ocons (obConvC (by kernel_rfl) (by kernel_rfl) (fun _ => hx1151)) (ocons (obRemC (fun _ => hx1152)) (ocons (obMulC (fun _ => hx1153)) (ocons (obAddC (fun _ => hx1154)) (ocons (show Ob.ok _ Ext _ _ from fun hk w2 hd => plan_Where_ok F y10 y12 y50 x1154 _ ((fun _ => hy1155) hk) _ w2 (memOf_at w2) (hA125.mono (FrzAt.le_mem ((hS.later hd).frz (i := 5) rfl hlow))) (hA129.mono (FrzAt.le_mem ((hS.later hd).frz (i := 5) rfl hlow)))) onil)))))))))) ⟨by kernel_rfl⟩ fun a w hF hx => ?_
           replace hS := hS.later hx
           refine wfn rfl ?_
           refine esr ?_
           refine rno 13 [.run [⟨188, false, (bif (y1155.2.2 != 0) then true else (y1155.1 != x986))⟩] (Instr.loadAt 3 (.pointer (some ⟨b1148, 1, none⟩))) (iv u1147.ray)] 13 [(2, .int .u8 p2), (7, pb b31), (8, sv ad32 y12 cap33), (9, sv ad51 y50 cap52), (10, sv ad93 y63.1 cap94), (17, iv u139), (18, iv x986), (20, iv y1075.1), (88, sv ad51 y50 cap52), (89, iv (ln y50)), (90, iv x986), (145, sb b1092 4), (146, iv ((4 : Nat) : Int)), (147, iv x1134), (193, .bool (bif (bif (y1155.2.2 != 0) then true else (y1155.1 != x986)) then true else (y1155.2.1 != u1147.ray)))] hF (ocons (ob1 (by kernel_rfl) (fun _ hd => (hS.at_ hd).cell (i := 0) (j := 1) rfl rfl)) onil) fun a hF => ?_
           refine wfn rfl ?_
           refine econd hF rfl (fun hc => ?_) (fun hc => ?_)
           ·replace h := bif_t h hc
            refine esr ?_
            refine rn 1 1 [(6, .bool false)] hF fun a hF => ?_
            refine wfn rfl ?_
            refine wpIn_ret (ret_block <| ret_then <| ret_then <| ret_block <| ret_block <| ret_then <| ret_then <| ret_block <| ret_then <| fn_ret [.tmp 6] [.bool false] hF rfl ⟨rfl, trivial⟩ ?_)
            have hr_ := Option.some.inj h
            subst hr_
            exact ⟨rfl, hS.ext⟩
           ·replace h := bif_f h hc
            refine wpIn_skip (norm_block <| norm_then <| ?_)
            exact ⟨hF.sub (by kernel_rfl), St.pick [1, 2, 3, 4, 5] (by decide) hS, h⟩
         rintro a w ⟨hF, hS, h⟩
         rw [law06_PlanTells_K5] at h
         refine WI.region ?_
         replace h := bindS h
         obtain ⟨x1145, hx1145, h⟩ := h
         refine rno 2 [.run [] (binOp .add 3 (iv x1134) (iv 1)) (iv x1145)] 2 [(2, .int .u8 p2), (7, pb b31), (8, sv ad32 y12 cap33), (9, sv ad51 y50 cap52), (10, sv ad93 y63.1 cap94), (17, iv u139), (18, iv x986), (20, iv y1075.1), (88, sv ad51 y50 cap52), (89, iv (ln y50)), (90, iv x986), (145, sb b1092 4), (146, iv ((4 : Nat) : Int)), (147, iv x1145)] hF (ocons (obAddC (fun _ => hx1145)) onil) fun a hF => ?_
         refine wfn rfl ?_
         rw [hk4] at h
         exact ⟨n_, Nat.lt_succ_self _, x1145, hF.sub (by kernel_rfl), St.pick [0, 1, 2, 3, 4] (by decide) hS, h⟩
        ·replace h := bif_f h hc
         refine wpIn_exit (exit_then <| exit_then <| exit_hit <| norm_block <| norm_then <| ?_)
         exact ⟨hF.sub (by kernel_rfl), St.pick [1, 2, 3, 4] (by decide) hS, h⟩
      rintro a w ⟨hF, hS, h⟩
      rw [law06_PlanTells_K3] at h
      refine WI.region ?_
      replace h := bindS h
      obtain ⟨x1071, hx1071, h⟩ := h
      refine rno 2 [.run [] (binOp .add 3 (iv x986) (iv 1)) (iv x1071)] 2 [(2, .int .u8 p2), (7, pb b31), (8, sv ad32 y12 cap33), (9, sv ad51 y50 cap52), (10, sv ad93 y63.1 cap94), (17, iv u139), (88, sv ad51 y50 cap52), (89, iv (ln y50)), (90, iv x1071)] hF (ocons (obAddC (fun _ => hx1071)) onil) fun a hF => ?_
      refine wfn rfl ?_
      rw [hk2] at h
      exact ⟨n_, Nat.lt_succ_self _, x1071, hF.sub (by kernel_rfl), St.pick [0, 1, 2, 3] (by decide) hS, h⟩
     ·replace h := bif_f h hc
      refine wpIn_exit (exit_then <| exit_then <| exit_hit <| norm_then ?_)
      exact ⟨hF.sub (by kernel_rfl), St.pick [0, 1, 2, 3] (by decide) hS, h⟩
    rintro a w ⟨hF, hS, h⟩
    rw [law06_PlanTells_K1] at h
    refine esr ?_
    replace h := bindS h
    obtain ⟨y647, hy647, h⟩ := h
    refine rx 2 [.call [] 17 #[] (.bool y647)] 2 [(6, .bool y647)] hF (ocons (show Ob.ok _ Ext _ _ from fun hk w2 hd => law06_works_ok F  _ ((fun _ => hy647) hk) _ w2 (memOf_at w2) ) onil) fun a w hF hx => ?_
    replace hS := hS.later hx
    refine wfn rfl ?_
    refine wpIn_ret (fn_ret [.tmp 6] [.bool y647] hF rfl ⟨rfl, trivial⟩ ?_)
    have hr_ := Option.some.inj h
    subst hr_
    exact ⟨rfl, hS.ext⟩
end Go.Proofs.Ytejffembnkojjaa
