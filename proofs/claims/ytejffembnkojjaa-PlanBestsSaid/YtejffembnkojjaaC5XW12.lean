/- Walks, written by program (wip/gen/dec.py). -/
import Derived.Test.YtejffembnkojjaaC5XD
import Derived.Test.YtejffembnkojjaaProg
import Derived.Test.YtejffembnkojjaaC5XW0
import Derived.Test.YtejffembnkojjaaC5XW1
import Derived.Test.YtejffembnkojjaaC5XW9
import Derived.Test.YtejffembnkojjaaC5XW10
import Derived.Test.YtejffembnkojjaaC5XW11
namespace Go.Proofs.Ytejffembnkojjaa
open Go Go.RowKit Go.Eng
set_option maxRecDepth 10000
set_option maxHeartbeats 4000000
set_option linter.unusedVariables false
set_option linter.unusedSimpArgs false
theorem law06_PlanBests_ok (F : Nat) (p0 : ref06_Radar) (p1 : (List ref06_Job)) (p2 : Int) (res : Bool) (h : law06_PlanBests F p0 p1 p2 = some res) (μ : Frz) (w0 : World) (hm : FrzAt μ w0) {ad1 : Option Addr} {cap2 : Nat} (hA3 : ArrM μ 8 ref06_Job.cells ad1 cap2 p1) : Calls Try.prog 5 #[p0.ag, sv ad1 p1 cap2, iv p2] w0 (fun e w => e = .returned (.bool res) ∧ Ext w0 w) := by
 obtain ⟨hlow, hS⟩ := hm.init
 have hext := Frz.ext_refl w0.heap.size μ
 rw [law06_PlanBests] at h
 refine fn_enterW Try.func5 rfl 48 [(0, p0.ag), (1, sv ad1 p1 cap2), (2, iv p2)] rfl rfl (by kernel_rfl) fun a w hw hF => ?_
 replace hS : St w0 [fz w0 μ] w := by rw [hw]; exact hS
 clear hw
 refine esr ?_
 refine SK.wi (boxK (t := 23) (fun b4 => [(1, sv ad1 p1 cap2), (2, iv p2), (3, pb b4)]) (p0.ag) p0.ar hF hS (by kernel_rfl) ⟨by kernel_rfl⟩ (by kernel_rfl) (fun _ => ⟨by kernel_rfl⟩) fun b4 w a hF hS => ?_)
 refine rn 1 2 [(1, sv ad1 p1 cap2), (2, iv p2), (3, pb b4)] hF fun a hF => ?_
 refine wfn rfl ?_
 refine eseq ?_
 refine esr ?_
 replace h := bindS h
 obtain ⟨y5, hy5, h⟩ := h
 refine rx 10 [.call [⟨14, false, (decide ((ln p1) > 10))⟩] 26 #[iv (ln p1), iv p2, iv 250] (.bool y5)] 10 [(1, sv ad1 p1 cap2), (2, iv p2), (3, pb b4), (20, .bool (bif (decide ((ln p1) > 10)) then true else (!y5)))] hF (ocons (show Ob.ok _ Ext _ _ from fun hk w2 hd => law06_few_ok F (ln p1) p2 250 _ ((fun hk => gd_some hy5 hk) hk) _ w2 (memOf_at w2) ) onil) fun a w hF hx => ?_
 replace hS := hS.later hx
 refine wfn rfl ?_
 refine econd hF rfl (fun hc => ?_) (fun hc => ?_)
 ·replace h := bif_t h hc
  refine esr ?_
  replace h := bindS h
  obtain ⟨y6, hy6, h⟩ := h
  refine rx 2 [.call [] 17 #[] (.bool y6)] 2 [(6, .bool y6)] hF (ocons (show Ob.ok _ Ext _ _ from fun hk w2 hd => law06_works_ok F  _ ((fun _ => hy6) hk) _ w2 (memOf_at w2) ) onil) fun a w hF hx => ?_
  replace hS := hS.later hx
  refine wfn rfl ?_
  refine wpIn_ret (ret_then <| fn_ret [.tmp 6] [.bool y6] hF rfl ⟨rfl, trivial⟩ ?_)
  have hr_ := Option.some.inj h
  subst hr_
  exact ⟨rfl, hS.ext⟩
 ·replace h := bif_f h hc
  refine wpIn_skip (norm_then ?_)
  refine eseq ?_
  replace h := bindS h
  obtain ⟨y8, hy8, h⟩ := h
  replace h := bindS h
  obtain ⟨y16, hy16, h⟩ := h
  refine region_treeW 10 [2, 4] _ (D := fun w => St w0 [blk b4 23 p0.ar] w ∧ FrzAt μ w) (by kernel_rfl) (by kernel_rfl) hF.size (fun w hx => ?_) (fun _ _ h => h)
  replace hS := hS.later hx
  refine ⟨⟨St.pick [0] (by decide) hS, hS.frz (i := 1) rfl hlow⟩, ?_⟩
  have hcl35 := Frz.le_refl μ
  refine WT.s [0, 1, 3] [2] (by kernel_rfl) (by kernel_rfl) ?_
  refine runC (rest := []) (obs := [.run [] (Instr.loadAt 23 (pb b4)) (p0.ag)]) [0, 1, 3] [(1, sv ad1 p1 cap2), (2, iv p2), (3, pb b4), (23, p0.ag), (24, sv ad1 p1 cap2), (26, iv p2)] hF (by kernel_rfl) (by kernel_rfl) (ocons (obN (us := p0.cells) (by kernel_rfl) (fun _ hd => (hd.1.blk (i := 0) rfl).cells rfl)) onil) ⟨by kernel_rfl⟩ fun a hF => ?_
  refine WRun.fin ?_
  refine all_cons ?_ (all_nil)
  refine callK (f := 19) (args := #[sv ad1 p1 cap2]) (R := fun v w2 => ∃ ad37 cap38, v = sv ad37 y8 cap38 ∧ St w [arr 34 8 plan_Job.cells ad37 y8.length cap38 y8] w2) (fun v36 => [(1, sv ad1 p1 cap2), (2, iv p2), (3, pb b4), (23, p0.ag), (25, v36), (26, iv p2)]) hF (by kernel_rfl) ⟨by kernel_rfl⟩ (Calls.mono (law06_jobs_ok F p1 _ hy8 (memOf w) w (memOf_at w) (hA3.mono (FrzAt.le_mem (hS.frz (i := 1) rfl hlow)))) (by rintro e w2 ⟨ad37, cap38, rfl, h⟩; exact ⟨_, rfl, ad37, cap38, rfl, h⟩)) (fun _ => ⟨by kernel_rfl⟩) ?_
  rintro v36 w a ⟨ad37, cap38, rfl, hQ⟩ hF
  replace hS : St w0 [arr 34 8 plan_Job.cells ad37 y8.length cap38 y8, blk b4 23 p0.ar, fz w0 μ] w := hS.madeL hQ
  refine ⟨⟨St.pick [1] (by decide) hS, (hS.frz (i := 2) rfl hlow)⟩, ?_⟩
  refine WT.s [] [4] (by kernel_rfl) (by kernel_rfl) ?_
  refine WRun.fin ?_
  refine all_cons ?_ (all_nil)
  obtain ⟨ν39, hx40, hlow, hS, hz41⟩ := hS.freeze (i := 2) (j := 0) rfl rfl (by decide) hlow
  replace hA3 := hA3.mono hx40.1
  replace hcl35 := Frz.le_trans hcl35 hx40.1
  replace hext := Frz.ext_trans hext hx40
  replace hS : St w0 [blk b4 23 p0.ar, fz w0 ν39] w := hS
  have hA42 := ArrM.of_arr hz41
  refine callK (f := 27) (args := #[p0.ag, sv ad37 y8 cap38, iv p2]) (R := fun v w2 => ∃ ν44 ad45 cap46, ν39.ext w.heap.size ν44 ∧ v = .tuple #[sv ad45 y16.1 cap46, iv y16.2] ∧ ArrM ν44 1 fI ad45 cap46 y16.1 ∧ St w [frzR w.heap.size ν44] w2) (fun v43 => [(1, sv ad1 p1 cap2), (2, iv p2), (3, pb b4), (27, v43)]) hF (by kernel_rfl) ⟨by kernel_rfl⟩ (Calls.mono (plan_Best_ok F (plan_Radar.mk p0.Rays p0.Turn p0.Move p0.Duty) y8 p2 _ hy16 ν39 w (hS.frz (i := 1) rfl hlow) hA42) (by rintro e w2 ⟨ν44, ad45, cap46, hx48, rfl, hA47, h⟩; exact ⟨_, rfl, ν44, ad45, cap46, hx48, rfl, hA47, h⟩)) (fun _ => ⟨by kernel_rfl⟩) ?_
  rintro v43 w a ⟨ν44, ad45, cap46, hx48, rfl, hA47, hQ⟩ hF
  replace hext := Frz.ext_trans hext (Frz.ext_mono hx48 hS.ext.size)
  obtain ⟨hlow, hS⟩ := hS.frzMerge (i := 1) rfl hlow hx48 hQ
  replace hA3 := hA3.mono hx48.1
  replace hA42 := hA42.mono hx48.1
  replace hcl35 := Frz.le_trans hcl35 hx48.1
  replace hS : St w0 [blk b4 23 p0.ar, fz w0 ν44] w := hS
  refine ⟨⟨St.pick [0] (by decide) hS, (hS.frz (i := 1) rfl hlow).low hcl35⟩, ?_⟩
  refine WT.z [5, 6, 7, 8, 9] (by kernel_rfl) ?_
  refine runC (rest := []) (obs := []) [5, 6, 7, 8, 9] [(1, sv ad1 p1 cap2), (2, iv p2), (3, pb b4), (7, sv ad45 y16.1 cap46), (8, iv y16.2)] hF (by kernel_rfl) (by kernel_rfl) onil ⟨by kernel_rfl⟩ fun a hF => ?_
  refine WRun.fin ?_
  refine wfn rfl ?_
  refine esr ?_
  refine rno 3 [.run [] (Instr.loadAt 23 (pb b4)) (p0.ag)] 3 [(7, sv ad45 y16.1 cap46), (8, iv y16.2), (31, p0.ag), (32, sv ad1 p1 cap2), (33, iv p2)] hF (ocons (obN (us := p0.cells) (by kernel_rfl) (fun _ hd => ((hS.at_ hd).blk (i := 0) rfl).cells rfl)) onil) fun a hF => ?_
  replace h := bindS h
  obtain ⟨y50, hy50, h⟩ := h
  refine SK.wi (callK (f := 28) (args := #[p0.ag, sv ad1 p1 cap2, iv p2]) (R := fun v w2 => ∃ ν51 ad52 cap53, ν44.ext w.heap.size ν51 ∧ v = .tuple #[sv ad52 y50.1 cap53, iv y50.2] ∧ ArrM ν51 1 fI ad52 cap53 y50.1 ∧ St w [frzR w.heap.size ν51] w2) (fun v49 => [(7, sv ad45 y16.1 cap46), (8, iv y16.2), (34, v49)]) hF (by kernel_rfl) ⟨by kernel_rfl⟩ (Calls.mono (ref06_Best_ok F p0 p1 p2 _ hy50 ν44 w (hS.frz (i := 1) rfl hlow) hA3) (by rintro e w2 ⟨ν51, ad52, cap53, hx55, rfl, hA54, h⟩; exact ⟨_, rfl, ν51, ad52, cap53, hx55, rfl, hA54, h⟩)) (fun _ => ⟨by kernel_rfl⟩) ?_)
  rintro v49 w a ⟨ν51, ad52, cap53, hx55, rfl, hA54, hQ⟩ hF
  replace hext := Frz.ext_trans hext (Frz.ext_mono hx55 hS.ext.size)
  obtain ⟨hlow, hS⟩ := hS.frzMerge (i := 1) rfl hlow hx55 hQ
  replace hA3 := hA3.mono hx55.1
  replace hA42 := hA42.mono hx55.1
  replace hA47 := hA47.mono hx55.1
  replace hS : St w0 [blk b4 23 p0.ar, fz w0 ν51] w := hS
  refine rn 5 9 [(7, sv ad45 y16.1 cap46), (8, iv y16.2), (9, sv ad52 y50.1 cap53), (10, iv y50.2)] hF fun a hF => ?_
  refine wfn rfl ?_
  refine esr ?_
  replace h := bindS h
  obtain ⟨y56, hy56, h⟩ := h
  replace h := bindS h
  obtain ⟨y57, hy57, h⟩ := h
  refine rx 12 [.call [] 21 #[sv ad45 y16.1 cap46, sv ad52 y50.1 cap53] (.bool y56), .call [⟨45, true, (bif y56 then (y16.2 == y50.2) else false)⟩] 17 #[] (.bool y57)] 12 [(6, .bool (bif (bif y56 then (y16.2 == y50.2) else false) then y57 else false))] hF (ocons (show Ob.ok _ Ext _ _ from fun hk w2 hd => law06_numbers_ok F y16.1 y50.1 _ ((fun _ => hy56) hk) _ w2 (memOf_at w2) (hA47.mono (FrzAt.le_mem ((hS.later hd).frz (i := 1) rfl hlow))) (hA54.mono (FrzAt.le_mem ((hS.later hd).frz (i := 1) rfl hlow)))) (ocons (show Ob.ok _ Ext _ _ from fun hk w2 hd => law06_works_ok F  _ ((fun hk => gd_some hy57 hk) hk) _ w2 (memOf_at w2) ) onil)) fun a w hF hx => ?_
  replace hS := hS.later hx
  refine wfn rfl ?_
  refine wpIn_ret (fn_ret [.tmp 6] [.bool (bif (bif y56 then (y16.2 == y50.2) else false) then y57 else false)] hF rfl ⟨rfl, trivial⟩ ?_)
  have hr_ := Option.some.inj h
  subst hr_
  exact ⟨rfl, hS.ext⟩
end Go.Proofs.Ytejffembnkojjaa
