/- Walks, written by program (wip/gen/dec.py). -/
import Derived.Test.YtejffembnkojjaaC3XD
import Derived.Test.YtejffembnkojjaaProg
import Derived.Test.YtejffembnkojjaaC3XW0
import Derived.Test.YtejffembnkojjaaC3XW5
import Derived.Test.YtejffembnkojjaaC3XW11
namespace Go.Proofs.Ytejffembnkojjaa
open Go Go.RowKit Go.Eng
set_option maxRecDepth 10000
set_option maxHeartbeats 4000000
set_option linter.unusedVariables false
set_option linter.unusedSimpArgs false
theorem law06_PlanTimes_ok (F : Nat) (p0 : ref06_Radar) (p1 : ref06_Job) (res : Bool) (h : law06_PlanTimes F p0 p1 = some res) (μ : Frz) (w0 : World) (hm : FrzAt μ w0) : Calls Try.prog 3 #[p0.ag, p1.ag] w0 (fun e w => e = .returned (.bool res) ∧ Ext w0 w) := by
 obtain ⟨hlow, hS⟩ := hm.init
 have hext := Frz.ext_refl w0.heap.size μ
 rw [law06_PlanTimes] at h
 refine fn_enterW Try.func3 rfl 33 [(0, p0.ag), (1, p1.ag)] rfl rfl (by kernel_rfl) fun a w hw hF => ?_
 replace hS : St w0 [frzR w0.heap.size μ] w := by rw [hw]; exact hS
 clear hw
 refine esr ?_
 refine SK.wi (boxK (t := 23) (fun b1 => [(1, p1.ag), (2, pb b1)]) (p0.ag) p0.ar hF hS (by kernel_rfl) ⟨by kernel_rfl⟩ (by kernel_rfl) (fun _ => ⟨by kernel_rfl⟩) fun b1 w a hF hS => ?_)
 refine SK.wi (boxK (t := 27) (fun b2 => [(2, pb b1), (3, pb b2)]) (p1.ag) p1.ar hF hS (by kernel_rfl) ⟨by kernel_rfl⟩ (by kernel_rfl) (fun _ => ⟨by kernel_rfl⟩) fun b2 w a hF hS => ?_)
 refine rn 1 3 [(2, pb b1), (3, pb b2)] hF fun a hF => ?_
 refine wfn rfl ?_
 refine eseq ?_
 replace h := bindS h
 obtain ⟨y3, hy3, h⟩ := h
 refine runD (obs := [.run [] (Instr.loadAt 23 (pb b1)) (p0.ag), .run [] (Instr.loadAt 27 (pb b2)) (p1.ag), .call [] 15 #[p1.ag] ((law06_job p1).ag), .call [] 14 #[p0.ag, (law06_job p1).ag] (.tuple #[iv y3.1, iv y3.2])]) 9 [(2, pb b1), (3, pb b2), (5, iv y3.1), (6, iv y3.2)] (by kernel_rfl) hF (by kernel_rfl) (ocons (obN (us := p0.cells) (by kernel_rfl) (fun _ hd => ((hS.later hd).blk (i := 1) rfl).cells rfl)) (ocons (obN (us := p1.cells) (by kernel_rfl) (fun _ hd => ((hS.later hd).blk (i := 0) rfl).cells rfl)) (ocons (show Ob.ok _ Ext _ _ from fun hk w2 hd => law06_job_ok p1 _ rfl _ w2 (memOf_at w2) ) (ocons (show Ob.ok _ Ext _ _ from fun hk w2 hd => plan_Time_ok F (plan_Radar.mk p0.Rays p0.Turn p0.Move p0.Duty) (plan_Job.mk ((law06_job p1).Tilt) (pulse_Train.mk (((law06_job p1).Train).Lambda) (((law06_job p1).Train).Kind) (((law06_job p1).Train).First) (((law06_job p1).Train).Second) (((law06_job p1).Train).Count)) ((law06_job p1).Width) ((law06_job p1).Every)) _ ((fun _ => hy3) hk) _ w2 (memOf_at w2) ) onil)))) ⟨by kernel_rfl⟩ fun a w hF hx => ?_
 replace hS := hS.later hx
 refine wfn rfl ?_
 refine esr ?_
 replace h := bindS h
 obtain ⟨y4, hy4, h⟩ := h
 refine rx 8 [.run [] (Instr.loadAt 23 (pb b1)) (p0.ag), .run [] (Instr.loadAt 27 (pb b2)) (p1.ag), .call [] 16 #[p0.ag, p1.ag] (.tuple #[iv y4.1, iv y4.2])] 8 [(5, iv y3.1), (6, iv y3.2), (7, iv y4.1), (8, iv y4.2)] hF (ocons (obN (us := p0.cells) (by kernel_rfl) (fun _ hd => ((hS.later hd).blk (i := 1) rfl).cells rfl)) (ocons (obN (us := p1.cells) (by kernel_rfl) (fun _ hd => ((hS.later hd).blk (i := 0) rfl).cells rfl)) (ocons (show Ob.ok _ Ext _ _ from fun hk w2 hd => ref06_Time_ok F p0 p1 _ ((fun _ => hy4) hk) _ w2 (memOf_at w2) ) onil))) fun a w hF hx => ?_
 replace hS := hS.later hx
 refine wfn rfl ?_
 refine esr ?_
 replace h := bindS h
 obtain ⟨y5, hy5, h⟩ := h
 refine rx 12 [.call [⟨30, true, (bif (y3.1 == y4.1) then (y3.2 == y4.2) else false)⟩] 17 #[] (.bool y5)] 12 [(4, .bool (bif (bif (y3.1 == y4.1) then (y3.2 == y4.2) else false) then y5 else false))] hF (ocons (show Ob.ok _ Ext _ _ from fun hk w2 hd => law06_works_ok F  _ ((fun hk => gd_some hy5 hk) hk) _ w2 (memOf_at w2) ) onil) fun a w hF hx => ?_
 replace hS := hS.later hx
 refine wfn rfl ?_
 refine wpIn_ret (fn_ret [.tmp 4] [.bool (bif (bif (y3.1 == y4.1) then (y3.2 == y4.2) else false) then y5 else false)] hF rfl ⟨rfl, trivial⟩ ?_)
 have hr_ := Option.some.inj h
 subst hr_
 exact ⟨rfl, hS.ext⟩
end Go.Proofs.Ytejffembnkojjaa
