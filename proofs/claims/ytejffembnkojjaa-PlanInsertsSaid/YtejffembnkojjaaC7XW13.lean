/- Walks, written by program (wip/gen/dec.py). -/
import Derived.Test.YtejffembnkojjaaC7XD
import Derived.Test.YtejffembnkojjaaProg
import Derived.Test.YtejffembnkojjaaC7XW0
import Derived.Test.YtejffembnkojjaaC7XW7
import Derived.Test.YtejffembnkojjaaC7XW11
import Derived.Test.YtejffembnkojjaaC7XW12
namespace Go.Proofs.Ytejffembnkojjaa
open Go Go.RowKit Go.Eng
set_option maxRecDepth 10000
set_option maxHeartbeats 4000000
set_option linter.unusedVariables false
set_option linter.unusedSimpArgs false
theorem law06_PlanInserts_ok (F : Nat) (p0 : ref06_Radar) (p1 : (List ref06_Job)) (p2 : (List Int)) (p3 : ref06_Job) (p4 : Int) (res : Bool) (h : law06_PlanInserts F p0 p1 p2 p3 p4 = some res) (μ : Frz) (w0 : World) (hm : FrzAt μ w0) {ad1 : Option Addr} {cap2 : Nat} {ad4 : Option Addr} {cap5 : Nat} (hA3 : ArrM μ 8 ref06_Job.cells ad1 cap2 p1) (hA6 : ArrM μ 1 fI ad4 cap5 p2) : Calls Try.prog 7 #[p0.ag, sv ad1 p1 cap2, sv ad4 p2 cap5, p3.ag, iv p4] w0 (fun e w => e = .returned (.bool res) ∧ Ext w0 w) := by
 obtain ⟨hlow, hS⟩ := hm.init
 have hext := Frz.ext_refl w0.heap.size μ
 rw [law06_PlanInserts] at h
 refine fn_enterW Try.func7 rfl 55 [(0, p0.ag), (1, sv ad1 p1 cap2), (2, sv ad4 p2 cap5), (3, p3.ag), (4, iv p4)] rfl rfl (by kernel_rfl) fun a w hw hF => ?_
 replace hS : St w0 [fz w0 μ] w := by rw [hw]; exact hS
 clear hw
 refine esr ?_
 refine SK.wi (boxK (t := 23) (fun b7 => [(1, sv ad1 p1 cap2), (2, sv ad4 p2 cap5), (3, p3.ag), (4, iv p4), (5, pb b7)]) (p0.ag) p0.ar hF hS (by kernel_rfl) ⟨by kernel_rfl⟩ (by kernel_rfl) (fun _ => ⟨by kernel_rfl⟩) fun b7 w a hF hS => ?_)
 refine SK.wi (boxK (t := 27) (fun b8 => [(1, sv ad1 p1 cap2), (2, sv ad4 p2 cap5), (4, iv p4), (5, pb b7), (8, pb b8)]) (p3.ag) p3.ar hF hS (by kernel_rfl) ⟨by kernel_rfl⟩ (by kernel_rfl) (fun _ => ⟨by kernel_rfl⟩) fun b8 w a hF hS => ?_)
 refine rn 1 3 [(1, sv ad1 p1 cap2), (2, sv ad4 p2 cap5), (4, iv p4), (5, pb b7), (8, pb b8)] hF fun a hF => ?_
 refine wfn rfl ?_
 refine eseq ?_
 refine esr ?_
 refine rn 8 8 [(1, sv ad1 p1 cap2), (2, sv ad4 p2 cap5), (4, iv p4), (5, pb b7), (8, pb b8), (22, .bool (bif (decide ((ln p1) > 10)) then true else (decide ((ln p2) > 20))))] hF fun a hF => ?_
 refine wfn rfl ?_
 refine econd hF rfl (fun hc => ?_) (fun hc => ?_)
 ·replace h := bif_t h hc
  refine esr ?_
  replace h := bindS h
  obtain ⟨y9, hy9, h⟩ := h
  refine rx 2 [.call [] 17 #[] (.bool y9)] 2 [(10, .bool y9)] hF (ocons (show Ob.ok _ Ext _ _ from fun hk w2 hd => law06_works_ok F  _ ((fun _ => hy9) hk) _ w2 (memOf_at w2) ) onil) fun a w hF hx => ?_
  replace hS := hS.later hx
  refine wfn rfl ?_
  refine wpIn_ret (ret_then <| fn_ret [.tmp 10] [.bool y9] hF rfl ⟨rfl, trivial⟩ ?_)
  have hr_ := Option.some.inj h
  subst hr_
  exact ⟨rfl, hS.ext⟩
 ·replace h := bif_f h hc
  refine wpIn_skip (norm_then ?_)
  refine eseq ?_
  replace h := bindS h
  obtain ⟨y11, hy11, h⟩ := h
  replace h := bindS h
  obtain ⟨y16, hy16, h⟩ := h
  refine region_treeW 13 [2, 5, 7] _ (D := fun w => St w0 [blk b8 27 p3.ar, blk b7 23 p0.ar] w ∧ FrzAt μ w) (by kernel_rfl) (by kernel_rfl) hF.size (fun w hx => ?_) (fun _ _ h => h)
  replace hS := hS.later hx
  refine ⟨⟨St.pick [0, 1] (by decide) hS, hS.frz (i := 2) rfl hlow⟩, ?_⟩
  have hcl22 := Frz.le_refl μ
  refine WT.s [0, 1, 3, 4, 6] [2] (by kernel_rfl) (by kernel_rfl) ?_
  refine runC (rest := []) (obs := [.run [] (Instr.loadAt 23 (pb b7)) (p0.ag), .run [] (Instr.loadAt 27 (pb b8)) (p3.ag)]) [0, 1, 3, 4, 6] [(1, sv ad1 p1 cap2), (2, sv ad4 p2 cap5), (4, iv p4), (5, pb b7), (8, pb b8), (25, p0.ag), (26, sv ad1 p1 cap2), (28, sv ad4 p2 cap5), (29, p3.ag), (31, iv p4)] hF (by kernel_rfl) (by kernel_rfl) (ocons (obN (us := p0.cells) (by kernel_rfl) (fun _ hd => (hd.1.blk (i := 1) rfl).cells rfl)) (ocons (obN (us := p3.cells) (by kernel_rfl) (fun _ hd => (hd.1.blk (i := 0) rfl).cells rfl)) onil)) ⟨by kernel_rfl⟩ fun a hF => ?_
  refine WRun.fin ?_
  refine all_cons ?_ (all_nil)
  refine callK (f := 19) (args := #[sv ad1 p1 cap2]) (R := fun v w2 => ∃ ad24 cap25, v = sv ad24 y11 cap25 ∧ St w [arr 34 8 plan_Job.cells ad24 y11.length cap25 y11] w2) (fun v23 => [(1, sv ad1 p1 cap2), (2, sv ad4 p2 cap5), (4, iv p4), (5, pb b7), (8, pb b8), (25, p0.ag), (27, v23), (28, sv ad4 p2 cap5), (29, p3.ag), (31, iv p4)]) hF (by kernel_rfl) ⟨by kernel_rfl⟩ (Calls.mono (law06_jobs_ok F p1 _ hy11 (memOf w) w (memOf_at w) (hA3.mono (FrzAt.le_mem (hS.frz (i := 2) rfl hlow)))) (by rintro e w2 ⟨ad24, cap25, rfl, h⟩; exact ⟨_, rfl, ad24, cap25, rfl, h⟩)) (fun _ => ⟨by kernel_rfl⟩) ?_
  rintro v23 w a ⟨ad24, cap25, rfl, hQ⟩ hF
  replace hS : St w0 [arr 34 8 plan_Job.cells ad24 y11.length cap25 y11, blk b8 27 p3.ar, blk b7 23 p0.ar, fz w0 μ] w := hS.madeL hQ
  refine ⟨⟨St.pick [1, 2] (by decide) hS, (hS.frz (i := 3) rfl hlow)⟩, ?_⟩
  refine WT.s [] [5] (by kernel_rfl) (by kernel_rfl) ?_
  refine WRun.fin ?_
  refine all_cons ?_ (all_nil)
  refine callK (f := 15) (args := #[p3.ag]) (R := fun v w2 => v = (law06_job p3).ag ∧ Ext w w2) (fun v26 => [(1, sv ad1 p1 cap2), (2, sv ad4 p2 cap5), (4, iv p4), (5, pb b7), (8, pb b8), (25, p0.ag), (27, sv ad24 y11 cap25), (28, sv ad4 p2 cap5), (30, v26), (31, iv p4)]) hF (by kernel_rfl) ⟨by kernel_rfl⟩ (Calls.mono (law06_job_ok p3 _ rfl (memOf w) w (memOf_at w) ) (fun e w2 h => ⟨_, h.1, rfl, h.2⟩)) (fun _ => ⟨by kernel_rfl⟩) ?_
  rintro v26 w a ⟨rfl, hx⟩ hF
  replace hS := hS.later hx
  refine ⟨⟨St.pick [1, 2] (by decide) hS, (hS.frz (i := 3) rfl hlow)⟩, ?_⟩
  refine WT.s [] [7] (by kernel_rfl) (by kernel_rfl) ?_
  refine WRun.fin ?_
  refine all_cons ?_ (all_nil)
  refine callK (f := 34) (args := #[p0.ag, sv ad24 y11 cap25, sv ad4 p2 cap5, (law06_job p3).ag, iv p4]) (R := fun v w2 => v = .tuple #[iv y16.1, iv y16.2] ∧ Ext w w2) (fun v27 => [(1, sv ad1 p1 cap2), (2, sv ad4 p2 cap5), (4, iv p4), (5, pb b7), (8, pb b8), (32, v27)]) hF (by kernel_rfl) ⟨by kernel_rfl⟩ (Calls.mono (plan_Insert_ok F (plan_Radar.mk p0.Rays p0.Turn p0.Move p0.Duty) y11 p2 (law06_job p3) p4 _ hy16 (memOf w) w (memOf_at w) (Arr.toM (hS.arr (i := 0) rfl)) (hA6.mono (FrzAt.le_mem (hS.frz (i := 3) rfl hlow)))) (fun e w2 h => ⟨_, h.1, rfl, h.2⟩)) (fun _ => ⟨by kernel_rfl⟩) ?_
  rintro v27 w a ⟨rfl, hx⟩ hF
  replace hS := hS.later hx
  refine ⟨⟨St.pick [1, 2] (by decide) hS, (hS.frz (i := 3) rfl hlow)⟩, ?_⟩
  refine WT.z [8, 9, 10, 11, 12] (by kernel_rfl) ?_
  refine runC (rest := []) (obs := []) [8, 9, 10, 11, 12] [(1, sv ad1 p1 cap2), (2, sv ad4 p2 cap5), (4, iv p4), (5, pb b7), (8, pb b8), (11, iv y16.1), (12, iv y16.2)] hF (by kernel_rfl) (by kernel_rfl) onil ⟨by kernel_rfl⟩ fun a hF => ?_
  refine WRun.fin ?_
  refine wfn rfl ?_
  refine esr ?_
  replace h := bindS h
  obtain ⟨y28, hy28, h⟩ := h
  refine rx 11 [.run [] (Instr.loadAt 23 (pb b7)) (p0.ag), .run [] (Instr.loadAt 27 (pb b8)) (p3.ag), .call [] 35 #[p0.ag, sv ad1 p1 cap2, sv ad4 p2 cap5, p3.ag, iv p4] (.tuple #[iv y28.1, iv y28.2])] 11 [(11, iv y16.1), (12, iv y16.2), (13, iv y28.1), (14, iv y28.2)] hF (ocons (obN (us := p0.cells) (by kernel_rfl) (fun _ hd => ((hS.later hd).blk (i := 2) rfl).cells rfl)) (ocons (obN (us := p3.cells) (by kernel_rfl) (fun _ hd => ((hS.later hd).blk (i := 1) rfl).cells rfl)) (ocons (show Ob.ok _ Ext _ _ from fun hk w2 hd => ref06_Insert_ok F p0 p1 p2 p3 p4 _ ((fun _ => hy28) hk) _ w2 (memOf_at w2) (hA3.mono (FrzAt.le_mem ((hS.later hd).frz (i := 3) rfl hlow))) (hA6.mono (FrzAt.le_mem ((hS.later hd).frz (i := 3) rfl hlow)))) onil))) fun a w hF hx => ?_
  replace hS := hS.later hx
  refine wfn rfl ?_
  refine esr ?_
  replace h := bindS h
  obtain ⟨y29, hy29, h⟩ := h
  refine rx 12 [.call [⟨52, true, (bif (y16.1 == y28.1) then (y16.2 == y28.2) else false)⟩] 17 #[] (.bool y29)] 12 [(10, .bool (bif (bif (y16.1 == y28.1) then (y16.2 == y28.2) else false) then y29 else false))] hF (ocons (show Ob.ok _ Ext _ _ from fun hk w2 hd => law06_works_ok F  _ ((fun hk => gd_some hy29 hk) hk) _ w2 (memOf_at w2) ) onil) fun a w hF hx => ?_
  replace hS := hS.later hx
  refine wfn rfl ?_
  refine wpIn_ret (fn_ret [.tmp 10] [.bool (bif (bif (y16.1 == y28.1) then (y16.2 == y28.2) else false) then y29 else false)] hF rfl ⟨rfl, trivial⟩ ?_)
  have hr_ := Option.some.inj h
  subst hr_
  exact ⟨rfl, hS.ext⟩
end Go.Proofs.Ytejffembnkojjaa
