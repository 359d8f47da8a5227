/- Walks, written by program (wip/gen/dec.py). -/
import Derived.Test.YtejffembnkojjaaC6XD
import Derived.Test.YtejffembnkojjaaProg
import Derived.Test.YtejffembnkojjaaC6XW0
import Derived.Test.YtejffembnkojjaaC6XW1
import Derived.Test.YtejffembnkojjaaC6XW8
import Derived.Test.YtejffembnkojjaaC6XW10
import Derived.Test.YtejffembnkojjaaC6XW11
import Derived.Test.YtejffembnkojjaaC6XW12
import Derived.Test.YtejffembnkojjaaC6XW13
namespace Go.Proofs.Ytejffembnkojjaa
open Go Go.RowKit Go.Eng
set_option maxRecDepth 10000
set_option maxHeartbeats 4000000
set_option linter.unusedVariables false
set_option linter.unusedSimpArgs false
theorem law06_PlanRefutes_ok (F : Nat) (p0 : ref06_Radar) (p1 : (List ref06_Job)) (p2 : Int) (p3 : (List ref06_Cut)) (res : Bool) (h : law06_PlanRefutes F p0 p1 p2 p3 = some res) (μ : Frz) (w0 : World) (hm : FrzAt μ w0) {ad1 : Option Addr} {cap2 : Nat} {ad4 : Option Addr} {cap5 : Nat} {css6 : List (List Value)} (hA3 : ArrM μ 8 ref06_Job.cells ad1 cap2 p1) (hA7 : ArrQ μ 2 Rp59 ad4 cap5 css6 p3) : Calls Try.prog 6 #[p0.ag, sv ad1 p1 cap2, iv p2, sv ad4 p3 cap5] w0 (fun e w => e = .returned (.bool res) ∧ Ext w0 w) := by
 obtain ⟨hlow, hS⟩ := hm.init
 have hext := Frz.ext_refl w0.heap.size μ
 rw [law06_PlanRefutes] at h
 refine fn_enterW Try.func6 rfl 138 [(0, p0.ag), (1, sv ad1 p1 cap2), (2, iv p2), (3, sv ad4 p3 cap5)] rfl rfl (by kernel_rfl) fun a w hw hF => ?_
 replace hS : St w0 [fz w0 μ] w := by rw [hw]; exact hS
 clear hw
 refine esr ?_
 refine SK.wi (boxK (t := 23) (fun b8 => [(1, sv ad1 p1 cap2), (2, iv p2), (3, sv ad4 p3 cap5), (4, pb b8)]) (p0.ag) p0.ar hF hS (by kernel_rfl) ⟨by kernel_rfl⟩ (by kernel_rfl) (fun _ => ⟨by kernel_rfl⟩) fun b8 w a hF hS => ?_)
 refine rn 1 2 [(1, sv ad1 p1 cap2), (2, iv p2), (3, sv ad4 p3 cap5), (4, pb b8)] hF fun a hF => ?_
 refine wfn rfl ?_
 refine eseq ?_
 refine esr ?_
 replace h := bindS h
 obtain ⟨y9, hy9, h⟩ := h
 refine rx 25 [.call [⟨18, false, (decide ((ln p1) > 10))⟩] 26 #[iv (ln p1), iv p2, iv 250] (.bool y9)] 25 [(1, sv ad1 p1 cap2), (2, iv p2), (3, sv ad4 p3 cap5), (4, pb b8), (39, .bool (bif (bif (bif (decide ((ln p1) > 10)) then true else (!y9)) then true else (bif (decide ((ln p3) > 300)) then (decide ((ln p3) ≤ 5000)) else false)) then true else (decide ((ln p3) > 5010))))] hF (ocons (show Ob.ok _ Ext _ _ from fun hk w2 hd => law06_few_ok F (ln p1) p2 250 _ ((fun hk => gd_some hy9 hk) hk) _ w2 (memOf_at w2) ) onil) fun a w hF hx => ?_
 replace hS := hS.later hx
 refine wfn rfl ?_
 refine econd hF rfl (fun hc => ?_) (fun hc => ?_)
 ·replace h := bif_t h hc
  refine esr ?_
  replace h := bindS h
  obtain ⟨y10, hy10, h⟩ := h
  refine rx 2 [.call [] 17 #[] (.bool y10)] 2 [(8, .bool y10)] hF (ocons (show Ob.ok _ Ext _ _ from fun hk w2 hd => law06_works_ok F  _ ((fun _ => hy10) hk) _ w2 (memOf_at w2) ) onil) fun a w hF hx => ?_
  replace hS := hS.later hx
  refine wfn rfl ?_
  refine wpIn_ret (ret_then <| fn_ret [.tmp 8] [.bool y10] hF rfl ⟨rfl, trivial⟩ ?_)
  have hr_ := Option.some.inj h
  subst hr_
  exact ⟨rfl, hS.ext⟩
 ·replace h := bif_f h hc
  refine wpIn_skip (norm_then ?_)
  refine ecut (fun a w => Fr 138 [] [(1, sv ad1 p1 cap2), (2, iv p2), (3, sv ad4 p3 cap5), (4, pb b8)] a ∧ St w0 [blk b8 23 p0.ar, fz w0 μ] w ∧ law06_PlanRefutes_K1 F p0 p1 p2 p3 = some res) ?_ ?_
  ·skip
   refine esr ?_
   refine rn 1 1 [(1, sv ad1 p1 cap2), (2, iv p2), (3, sv ad4 p3 cap5), (4, pb b8), (9, iv 0)] hF fun a hF => ?_
   refine wfn rfl ?_
   refine wpIn_block ?_
   refine eloop (fun n_ a w => ∃ (x494 : Int), Fr 138 [] [(1, sv ad1 p1 cap2), (2, iv p2), (3, sv ad4 p3 cap5), (4, pb b8), (9, iv x494)] a ∧ St w0 [blk b8 23 p0.ar, fz w0 μ] w ∧ law06_PlanRefutes_L4 F p0 p1 p2 p3 n_ x494 = some res) F ⟨0, hF.sub (by kernel_rfl), St.pick [0, 1] (by decide) hS, h⟩ ?_
   rintro n_ a w ⟨x494, hF, hS, h⟩
   rcases n_ with _ | n_
   ·cases (show (none : Option Bool) = some res from h)
   obtain ⟨k4, hk4⟩ : ∃ k, k = law06_PlanRefutes_L4 F p0 p1 p2 p3 n_ := ⟨_, rfl⟩
   replace h : law06_PlanRefutes_B4 F p0 p1 p2 p3 k4 x494 = some res := by rw [hk4]; exact h
   rw [law06_PlanRefutes_B4] at h
   refine eseq ?_
   refine esr ?_
   refine rn 4 4 [(1, sv ad1 p1 cap2), (2, iv p2), (3, sv ad4 p3 cap5), (4, pb b8), (9, iv x494), (44, .bool (decide (x494 < (ln p3))))] hF fun a hF => ?_
   refine wfn rfl ?_
   refine econd hF rfl (fun hc => ?_) (fun hc => ?_)
   ·replace h := bif_t h hc
    refine wpIn_skip (norm_then ?_)
    refine eseq ?_
    refine wpIn_block ?_
    refine esr ?_
    replace h := bindS h
    obtain ⟨u496, hu496, h⟩ := h
    obtain ⟨cs497, hcs498, hR499⟩ := getI_all2 hA7.2 hu496
    obtain ⟨ad500, cap501, rfl, hA502⟩ := hR499
    refine rno 7 [.run [] (Instr.indexAt 57 (sv ad4 p3 cap5) (iv x494)) (.pointer (some (slAddr ad4 x494 2))), .run [] (Instr.loadAt 40 (.pointer (some (slAddr ad4 x494 2)))) (sv ad500 u496.Begin cap501)] 7 [(1, sv ad1 p1 cap2), (2, iv p2), (3, sv ad4 p3 cap5), (4, pb b8), (9, iv x494), (53, .bool (decide ((ln u496.Begin) > 20)))] hF (ocons (obIdxQ (hA7.at (hS.frz (i := 1) rfl hlow)) (by kernel_rfl) (fun _ => hcs498)) (ocons (obElQ (i := x494) 0 (fN_len 2) (fun _ hd => (hA7.at ((hS.at_ hd).frz (i := 1) rfl hlow))) (by kernel_rfl) (fun _ => hcs498) rfl) onil)) fun a hF => ?_
    refine wfn rfl ?_
    refine econd hF rfl (fun hc => ?_) (fun hc => ?_)
    ·replace h := bif_t h hc
     refine esr ?_
     replace h := bindS h
     obtain ⟨y503, hy503, h⟩ := h
     refine rx 2 [.call [] 17 #[] (.bool y503)] 2 [(8, .bool y503)] hF (ocons (show Ob.ok _ Ext _ _ from fun hk w2 hd => law06_works_ok F  _ ((fun _ => hy503) hk) _ w2 (memOf_at w2) ) onil) fun a w hF hx => ?_
     replace hS := hS.later hx
     refine wfn rfl ?_
     refine wpIn_ret (ret_block <| ret_then <| ret_then <| ret_block <| ret_then <| fn_ret [.tmp 8] [.bool y503] hF rfl ⟨rfl, trivial⟩ ?_)
     have hr_ := Option.some.inj h
     subst hr_
     exact ⟨rfl, hS.ext⟩
    ·replace h := bif_f h hc
     refine wpIn_skip (norm_block <| norm_then <| ?_)
     refine WI.region ?_
     replace h := bindS h
     obtain ⟨x504, hx504, h⟩ := h
     refine rno 3 [.run [] (binOp .add 3 (iv x494) (iv 1)) (iv x504)] 3 [(1, sv ad1 p1 cap2), (2, iv p2), (3, sv ad4 p3 cap5), (4, pb b8), (9, iv x504)] hF (ocons (obAddC (fun _ => hx504)) onil) fun a hF => ?_
     refine wfn rfl ?_
     rw [hk4] at h
     exact ⟨n_, Nat.lt_succ_self _, x504, hF.sub (by kernel_rfl), St.pick [0, 1] (by decide) hS, h⟩
   ·replace h := bif_f h hc
    refine wpIn_exit (exit_then <| exit_then <| exit_hit <| norm_then ?_)
    exact ⟨hF.sub (by kernel_rfl), St.pick [0, 1] (by decide) hS, h⟩
  rintro a w ⟨hF, hS, h⟩
  rw [law06_PlanRefutes_K1] at h
  refine eseq ?_
  replace h := bindS h
  obtain ⟨y42, hy42, h⟩ := h
  replace h := bindS h
  obtain ⟨y50, hy50, h⟩ := h
  refine region_treeW 10 [2, 4] _ (D := fun w => St w0 [blk b8 23 p0.ar] w ∧ FrzAt μ w) (by kernel_rfl) (by kernel_rfl) hF.size (fun w hx => ?_) (fun _ _ h => h)
  replace hS := hS.later hx
  refine ⟨⟨St.pick [0] (by decide) hS, hS.frz (i := 1) rfl hlow⟩, ?_⟩
  have hcl71 := Frz.le_refl μ
  refine WT.s [0, 1, 3] [2] (by kernel_rfl) (by kernel_rfl) ?_
  refine runC (rest := []) (obs := [.run [] (Instr.loadAt 23 (pb b8)) (p0.ag)]) [0, 1, 3] [(1, sv ad1 p1 cap2), (2, iv p2), (3, sv ad4 p3 cap5), (4, pb b8), (56, p0.ag), (57, sv ad1 p1 cap2), (59, iv p2)] hF (by kernel_rfl) (by kernel_rfl) (ocons (obN (us := p0.cells) (by kernel_rfl) (fun _ hd => (hd.1.blk (i := 0) rfl).cells rfl)) onil) ⟨by kernel_rfl⟩ fun a hF => ?_
  refine WRun.fin ?_
  refine all_cons ?_ (all_nil)
  refine callK (f := 19) (args := #[sv ad1 p1 cap2]) (R := fun v w2 => ∃ ad73 cap74, v = sv ad73 y42 cap74 ∧ St w [arr 34 8 plan_Job.cells ad73 y42.length cap74 y42] w2) (fun v72 => [(1, sv ad1 p1 cap2), (2, iv p2), (3, sv ad4 p3 cap5), (4, pb b8), (56, p0.ag), (58, v72), (59, iv p2)]) hF (by kernel_rfl) ⟨by kernel_rfl⟩ (Calls.mono (law06_jobs_ok F p1 _ hy42 (memOf w) w (memOf_at w) (hA3.mono (FrzAt.le_mem (hS.frz (i := 1) rfl hlow)))) (by rintro e w2 ⟨ad73, cap74, rfl, h⟩; exact ⟨_, rfl, ad73, cap74, rfl, h⟩)) (fun _ => ⟨by kernel_rfl⟩) ?_
  rintro v72 w a ⟨ad73, cap74, rfl, hQ⟩ hF
  replace hS : St w0 [arr 34 8 plan_Job.cells ad73 y42.length cap74 y42, blk b8 23 p0.ar, fz w0 μ] w := hS.madeL hQ
  refine ⟨⟨St.pick [1] (by decide) hS, (hS.frz (i := 2) rfl hlow)⟩, ?_⟩
  refine WT.s [] [4] (by kernel_rfl) (by kernel_rfl) ?_
  refine WRun.fin ?_
  refine all_cons ?_ (all_nil)
  obtain ⟨ν75, hx76, hlow, hS, hz77⟩ := hS.freeze (i := 2) (j := 0) rfl rfl (by decide) hlow
  replace hA3 := hA3.mono hx76.1
  replace hA7 := hA7.mono Rp59.mono hx76.1
  replace hcl71 := Frz.le_trans hcl71 hx76.1
  replace hext := Frz.ext_trans hext hx76
  replace hS : St w0 [blk b8 23 p0.ar, fz w0 ν75] w := hS
  have hA78 := ArrM.of_arr hz77
  refine callK (f := 29) (args := #[p0.ag, sv ad73 y42 cap74, iv p2]) (R := fun v w2 => ∃ ν80 ad81 cap82 css83, ν75.ext w.heap.size ν80 ∧ v = .tuple #[sv ad81 y50.1 cap82, iv y50.2] ∧ ArrQ ν80 2 Rp65 ad81 cap82 css83 y50.1 ∧ St w [frzR w.heap.size ν80] w2) (fun v79 => [(1, sv ad1 p1 cap2), (2, iv p2), (3, sv ad4 p3 cap5), (4, pb b8), (60, v79)]) hF (by kernel_rfl) ⟨by kernel_rfl⟩ (Calls.mono (plan_Refute_ok F (plan_Radar.mk p0.Rays p0.Turn p0.Move p0.Duty) y42 p2 _ hy50 ν75 w (hS.frz (i := 1) rfl hlow) hA78) (by rintro e w2 ⟨ν80, ad81, cap82, css83, hx85, rfl, hA84, h⟩; exact ⟨_, rfl, ν80, ad81, cap82, css83, hx85, rfl, hA84, h⟩)) (fun _ => ⟨by kernel_rfl⟩) ?_
  rintro v79 w a ⟨ν80, ad81, cap82, css83, hx85, rfl, hA84, hQ⟩ hF
  replace hext := Frz.ext_trans hext (Frz.ext_mono hx85 hS.ext.size)
  obtain ⟨hlow, hS⟩ := hS.frzMerge (i := 1) rfl hlow hx85 hQ
  replace hA3 := hA3.mono hx85.1
  replace hA7 := hA7.mono Rp59.mono hx85.1
  replace hA78 := hA78.mono hx85.1
  replace hcl71 := Frz.le_trans hcl71 hx85.1
  replace hS : St w0 [blk b8 23 p0.ar, fz w0 ν80] w := hS
  refine ⟨⟨St.pick [0] (by decide) hS, (hS.frz (i := 1) rfl hlow).low hcl71⟩, ?_⟩
  refine WT.z [5, 6, 7, 8, 9] (by kernel_rfl) ?_
  refine runC (rest := []) (obs := []) [5, 6, 7, 8, 9] [(1, sv ad1 p1 cap2), (2, iv p2), (3, sv ad4 p3 cap5), (4, pb b8), (10, sv ad81 y50.1 cap82), (11, iv y50.2)] hF (by kernel_rfl) (by kernel_rfl) onil ⟨by kernel_rfl⟩ fun a hF => ?_
  refine WRun.fin ?_
  refine wfn rfl ?_
  refine esr ?_
  refine rno 3 [.run [] (Instr.loadAt 23 (pb b8)) (p0.ag)] 3 [(1, sv ad1 p1 cap2), (3, sv ad4 p3 cap5), (4, pb b8), (10, sv ad81 y50.1 cap82), (11, iv y50.2), (64, p0.ag), (65, sv ad1 p1 cap2), (66, iv p2)] hF (ocons (obN (us := p0.cells) (by kernel_rfl) (fun _ hd => ((hS.at_ hd).blk (i := 0) rfl).cells rfl)) onil) fun a hF => ?_
  replace h := bindS h
  obtain ⟨y87, hy87, h⟩ := h
  refine SK.wi (callK (f := 30) (args := #[p0.ag, sv ad1 p1 cap2, iv p2]) (R := fun v w2 => ∃ ν88 ad89 cap90 css91, ν80.ext w.heap.size ν88 ∧ v = .tuple #[sv ad89 y87.1 cap90, iv y87.2] ∧ ArrQ ν88 2 Rp59 ad89 cap90 css91 y87.1 ∧ St w [frzR w.heap.size ν88] w2) (fun v86 => [(1, sv ad1 p1 cap2), (3, sv ad4 p3 cap5), (4, pb b8), (10, sv ad81 y50.1 cap82), (11, iv y50.2), (67, v86)]) hF (by kernel_rfl) ⟨by kernel_rfl⟩ (Calls.mono (ref06_Refute_ok F p0 p1 p2 _ hy87 ν80 w (hS.frz (i := 1) rfl hlow) hA3) (by rintro e w2 ⟨ν88, ad89, cap90, css91, hx93, rfl, hA92, h⟩; exact ⟨_, rfl, ν88, ad89, cap90, css91, hx93, rfl, hA92, h⟩)) (fun _ => ⟨by kernel_rfl⟩) ?_)
  rintro v86 w a ⟨ν88, ad89, cap90, css91, hx93, rfl, hA92, hQ⟩ hF
  replace hext := Frz.ext_trans hext (Frz.ext_mono hx93 hS.ext.size)
  obtain ⟨hlow, hS⟩ := hS.frzMerge (i := 1) rfl hlow hx93 hQ
  replace hA3 := hA3.mono hx93.1
  replace hA7 := hA7.mono Rp59.mono hx93.1
  replace hA78 := hA78.mono hx93.1
  replace hA84 := hA84.mono Rp65.mono hx93.1
  replace hS : St w0 [blk b8 23 p0.ar, fz w0 ν88] w := hS
  refine rn 5 9 [(1, sv ad1 p1 cap2), (3, sv ad4 p3 cap5), (4, pb b8), (10, sv ad81 y50.1 cap82), (11, iv y50.2), (12, sv ad89 y87.1 cap90), (13, iv y87.2)] hF fun a hF => ?_
  refine wfn rfl ?_
  refine eseq ?_
  refine esr ?_
  refine rn 10 10 [(1, sv ad1 p1 cap2), (3, sv ad4 p3 cap5), (4, pb b8), (10, sv ad81 y50.1 cap82), (12, sv ad89 y87.1 cap90), (79, .bool (bif ((ln y50.1) != (ln y87.1)) then true else (y50.2 != y87.2)))] hF fun a hF => ?_
  refine wfn rfl ?_
  refine econd hF rfl (fun hc => ?_) (fun hc => ?_)
  ·replace h := bif_t h hc
   refine esr ?_
   refine rn 1 1 [(8, .bool false)] hF fun a hF => ?_
   refine wfn rfl ?_
   refine wpIn_ret (ret_then <| fn_ret [.tmp 8] [.bool false] hF rfl ⟨rfl, trivial⟩ ?_)
   have hr_ := Option.some.inj h
   subst hr_
   exact ⟨rfl, hS.ext⟩
  ·replace h := bif_f h hc
   refine wpIn_skip (norm_then ?_)
   refine ecut (fun a w => Fr 138 [] [(1, sv ad1 p1 cap2), (3, sv ad4 p3 cap5), (4, pb b8), (12, sv ad89 y87.1 cap90)] a ∧ St w0 [blk b8 23 p0.ar, fz w0 ν88] w ∧ law06_PlanRefutes_K2 F p0 p1 p3 y87 = some res) ?_ ?_
   ·skip
    refine esr ?_
    refine rn 1 1 [(1, sv ad1 p1 cap2), (3, sv ad4 p3 cap5), (4, pb b8), (10, sv ad81 y50.1 cap82), (12, sv ad89 y87.1 cap90), (14, iv 0)] hF fun a hF => ?_
    refine wfn rfl ?_
    refine wpIn_block ?_
    refine eloop (fun n_ a w => ∃ (x416 : Int), Fr 138 [] [(1, sv ad1 p1 cap2), (3, sv ad4 p3 cap5), (4, pb b8), (10, sv ad81 y50.1 cap82), (12, sv ad89 y87.1 cap90), (14, iv x416)] a ∧ St w0 [blk b8 23 p0.ar, fz w0 ν88] w ∧ law06_PlanRefutes_L3 F p0 p1 p3 y50 y87 n_ x416 = some res) F ⟨0, hF.sub (by kernel_rfl), St.pick [0, 1] (by decide) hS, h⟩ ?_
    rintro n_ a w ⟨x416, hF, hS, h⟩
    rcases n_ with _ | n_
    ·cases (show (none : Option Bool) = some res from h)
    obtain ⟨k3, hk3⟩ : ∃ k, k = law06_PlanRefutes_L3 F p0 p1 p3 y50 y87 n_ := ⟨_, rfl⟩
    replace h : law06_PlanRefutes_B3 F p0 p1 p3 y50 y87 k3 x416 = some res := by rw [hk3]; exact h
    rw [law06_PlanRefutes_B3] at h
    refine eseq ?_
    refine esr ?_
    refine rn 4 4 [(1, sv ad1 p1 cap2), (3, sv ad4 p3 cap5), (4, pb b8), (10, sv ad81 y50.1 cap82), (12, sv ad89 y87.1 cap90), (14, iv x416), (83, .bool (decide (x416 < (ln y50.1))))] hF fun a hF => ?_
    refine wfn rfl ?_
    refine econd hF rfl (fun hc => ?_) (fun hc => ?_)
    ·replace h := bif_t h hc
     refine wpIn_skip (norm_then ?_)
     refine eseq ?_
     refine wpIn_block ?_
     refine eseq ?_
     replace h := bindS h
     obtain ⟨u418, hu418, h⟩ := h
     replace h := bindS h
     obtain ⟨u425, hu425, h⟩ := h
     rcases Bool.eq_false_or_eq_true ((u418.Late != u425.Late)) with hg432 | hg432
     ·replace h := bif_t h hg432
      obtain ⟨cs433, hcs434, hR435⟩ := getI_all2 hA84.2 hu418
      obtain ⟨ad436, cap437, rfl, hA438⟩ := hR435
      obtain ⟨cs439, hcs440, hR441⟩ := getI_all2 hA92.2 hu425
      obtain ⟨ad442, cap443, rfl, hA444⟩ := hR441
      refine runD (obs := [.run [] (Instr.indexAt 60 (sv ad81 y50.1 cap82) (iv x416)) (.pointer (some (slAddr ad81 x416 2))), .run [] (Instr.loadAt 3 (.pointer (some ((slAddr ad81 x416 2).add 1)))) (iv u418.Late), .run [] (Instr.indexAt 57 (sv ad89 y87.1 cap90) (iv x416)) (.pointer (some (slAddr ad89 x416 2))), .run [] (Instr.loadAt 3 (.pointer (some ((slAddr ad89 x416 2).add 1)))) (iv u425.Late), .run [⟨97, false, (u418.Late != u425.Late)⟩] (Instr.indexAt 60 (sv ad81 y50.1 cap82) (iv x416)) (pb 0), .run [⟨97, false, (u418.Late != u425.Late)⟩] (Instr.loadAt 40 (pb 0)) (.slice none 0 0), .run [⟨97, false, (u418.Late != u425.Late)⟩] (Instr.indexAt 57 (sv ad89 y87.1 cap90) (iv x416)) (pb 0), .run [⟨97, false, (u418.Late != u425.Late)⟩] (Instr.loadAt 40 (pb 0)) (.slice none 0 0), .call [⟨97, false, (u418.Late != u425.Late)⟩] 21 #[.slice none 0 0, .slice none 0 0] (.bool false)]) 25 [(1, sv ad1 p1 cap2), (3, sv ad4 p3 cap5), (4, pb b8), (10, sv ad81 y50.1 cap82), (12, sv ad89 y87.1 cap90), (14, iv x416), (110, .bool (bif (u418.Late != u425.Late) then true else true))] (by kernel_rfl) hF (by kernel_rfl) (ocons (obIdxQ (hA84.at (hS.frz (i := 1) rfl hlow)) (by kernel_rfl) (fun _ => hcs434)) (ocons (obElQ (i := x416) 1 (fN_len 2) (fun _ hd => (hA84.at ((hS.later hd).frz (i := 1) rfl hlow))) (by kernel_rfl) (fun _ => hcs434) rfl) (ocons (obIdxQ (hA92.at (hS.frz (i := 1) rfl hlow)) (by kernel_rfl) (fun _ => hcs440)) (ocons (obElQ (i := x416) 1 (fN_len 2) (fun _ hd => (hA92.at ((hS.later hd).frz (i := 1) rfl hlow))) (by kernel_rfl) (fun _ => hcs440) rfl) (ocons (obNo (conds_no (i := 0) (c := ⟨97, false, (u418.Late != u425.Late)⟩) rfl (show ((u418.Late != u425.Late) == false) = false by rw [hg432]; rfl))) (ocons (obNo (conds_no (i := 0) (c := ⟨97, false, (u418.Late != u425.Late)⟩) rfl (show ((u418.Late != u425.Late) == false) = false by rw [hg432]; rfl))) (ocons (obNo (conds_no (i := 0) (c := ⟨97, false, (u418.Late != u425.Late)⟩) rfl (show ((u418.Late != u425.Late) == false) = false by rw [hg432]; rfl))) (ocons (obNo (conds_no (i := 0) (c := ⟨97, false, (u418.Late != u425.Late)⟩) rfl (show ((u418.Late != u425.Late) == false) = false by rw [hg432]; rfl))) (ocons (obNoC (conds_no (i := 0) (c := ⟨97, false, (u418.Late != u425.Late)⟩) rfl (show ((u418.Late != u425.Late) == false) = false by rw [hg432]; rfl))) onil))))))))) ⟨by kernel_rfl⟩ fun a w hF hx => ?_
      replace hS := hS.later hx
      refine wfn rfl ?_
      refine econd hF rfl (fun hc => ?_) (fun hc => ?_)
      ·replace h := bif_t h hc
       refine esr ?_
       refine rn 1 1 [(8, .bool false)] hF fun a hF => ?_
       refine wfn rfl ?_
       refine wpIn_ret (ret_block <| ret_then <| ret_then <| ret_block <| ret_then <| fn_ret [.tmp 8] [.bool false] hF rfl ⟨rfl, trivial⟩ ?_)
       have hr_ := Option.some.inj h
       subst hr_
       exact ⟨rfl, hS.ext⟩
      ·replace h := bif_f h hc
       refine wpIn_skip (norm_block <| norm_then <| ?_)
       refine WI.region ?_
       replace h := bindS h
       obtain ⟨x445, hx445, h⟩ := h
       refine rno 3 [.run [] (binOp .add 3 (iv x416) (iv 1)) (iv x445)] 3 [(1, sv ad1 p1 cap2), (3, sv ad4 p3 cap5), (4, pb b8), (10, sv ad81 y50.1 cap82), (12, sv ad89 y87.1 cap90), (14, iv x445)] hF (ocons (obAddC (fun _ => hx445)) onil) fun a hF => ?_
       refine wfn rfl ?_
       rw [hk3] at h
       exact ⟨n_, Nat.lt_succ_self _, x445, hF.sub (by kernel_rfl), St.pick [0, 1] (by decide) hS, h⟩
     ·replace h := bif_f h hg432
      obtain ⟨cs446, hcs447, hR448⟩ := getI_all2 hA84.2 hu418
      obtain ⟨ad449, cap450, rfl, hA451⟩ := hR448
      obtain ⟨cs452, hcs453, hR454⟩ := getI_all2 hA92.2 hu425
      obtain ⟨ad455, cap456, rfl, hA457⟩ := hR454
      replace h := bindS h
      obtain ⟨u458, hu458, h⟩ := h
      obtain ⟨cs459, hcs460, hR461⟩ := getI_all2 hA84.2 hu458
      obtain ⟨ad462, cap463, rfl, hA464⟩ := hR461
      replace h := bindS h
      obtain ⟨u465, hu465, h⟩ := h
      obtain ⟨cs466, hcs467, hR468⟩ := getI_all2 hA92.2 hu465
      obtain ⟨ad469, cap470, rfl, hA471⟩ := hR468
      replace h := bindS h
      obtain ⟨y472, hy472, h⟩ := h
      refine runD (obs := [.run [] (Instr.indexAt 60 (sv ad81 y50.1 cap82) (iv x416)) (.pointer (some (slAddr ad81 x416 2))), .run [] (Instr.loadAt 3 (.pointer (some ((slAddr ad81 x416 2).add 1)))) (iv u418.Late), .run [] (Instr.indexAt 57 (sv ad89 y87.1 cap90) (iv x416)) (.pointer (some (slAddr ad89 x416 2))), .run [] (Instr.loadAt 3 (.pointer (some ((slAddr ad89 x416 2).add 1)))) (iv u425.Late), .run [⟨97, false, (u418.Late != u425.Late)⟩] (Instr.indexAt 60 (sv ad81 y50.1 cap82) (iv x416)) (.pointer (some (slAddr ad81 x416 2))), .run [⟨97, false, (u418.Late != u425.Late)⟩] (Instr.loadAt 40 (.pointer (some (slAddr ad81 x416 2)))) (sv ad462 u458.Begin cap463), .run [⟨97, false, (u418.Late != u425.Late)⟩] (Instr.indexAt 57 (sv ad89 y87.1 cap90) (iv x416)) (.pointer (some (slAddr ad89 x416 2))), .run [⟨97, false, (u418.Late != u425.Late)⟩] (Instr.loadAt 40 (.pointer (some (slAddr ad89 x416 2)))) (sv ad469 u465.Begin cap470), .call [⟨97, false, (u418.Late != u425.Late)⟩] 21 #[sv ad462 u458.Begin cap463, sv ad469 u465.Begin cap470] (.bool y472)]) 25 [(1, sv ad1 p1 cap2), (3, sv ad4 p3 cap5), (4, pb b8), (10, sv ad81 y50.1 cap82), (12, sv ad89 y87.1 cap90), (14, iv x416), (110, .bool (bif (u418.Late != u425.Late) then true else (!y472)))] (by kernel_rfl) hF (by kernel_rfl) (ocons (obIdxQ (hA84.at (hS.frz (i := 1) rfl hlow)) (by kernel_rfl) (fun _ => hcs447)) (ocons (obElQ (i := x416) 1 (fN_len 2) (fun _ hd => (hA84.at ((hS.later hd).frz (i := 1) rfl hlow))) (by kernel_rfl) (fun _ => hcs447) rfl) (ocons (obIdxQ (hA92.at (hS.frz (i := 1) rfl hlow)) (by kernel_rfl) (fun _ => hcs453)) (ocons (obElQ (i := x416) 1 (fN_len 2) (fun _ hd => (hA92.at ((hS.later hd).frz (i := 1) rfl hlow))) (by kernel_rfl) (fun _ => hcs453) rfl) (ocons (obIdxQ (hA84.at (hS.frz (i := 1) rfl hlow)) (by kernel_rfl) (fun _ => hcs460)) (ocons (obElQ (i := x416) 0 (fN_len 2) (fun _ hd => (hA84.at ((hS.later hd).frz (i := 1) rfl hlow))) (by kernel_rfl) (fun _ => hcs460) rfl) (ocons (obIdxQ (hA92.at (hS.frz (i := 1) rfl hlow)) (by kernel_rfl) (fun _ => hcs467)) (ocons (obElQ (i := x416) 0 (fN_len 2) (fun _ hd => (hA92.at ((hS.later hd).frz (i := 1) rfl hlow))) (by kernel_rfl) (fun _ => hcs467) rfl) (ocons (show Ob.ok _ Ext _ _ from fun hk w2 hd => law06_numbers_ok F u458.Begin u465.Begin _ ((fun _ => hy472) hk) _ w2 (memOf_at w2) (hA464.mono (FrzAt.le_mem ((hS.later hd).frz (i := 1) rfl hlow))) (hA471.mono (FrzAt.le_mem ((hS.later hd).frz (i := 1) rfl hlow)))) onil))))))))) ⟨by kernel_rfl⟩ fun a w hF hx => ?_
      replace hS := hS.later hx
      refine wfn rfl ?_
      refine econd hF rfl (fun hc => ?_) (fun hc => ?_)
      ·replace h := bif_t h hc
       refine esr ?_
       refine rn 1 1 [(8, .bool false)] hF fun a hF => ?_
       refine wfn rfl ?_
       refine wpIn_ret (ret_block <| ret_then <| ret_then <| ret_block <| ret_then <| fn_ret [.tmp 8] [.bool false] hF rfl ⟨rfl, trivial⟩ ?_)
       have hr_ := Option.some.inj h
       subst hr_
       exact ⟨rfl, hS.ext⟩
      ·replace h := bif_f h hc
       refine wpIn_skip (norm_block <| norm_then <| ?_)
       refine WI.region ?_
       replace h := bindS h
       obtain ⟨x473, hx473, h⟩ := h
       refine rno 3 [.run [] (binOp .add 3 (iv x416) (iv 1)) (iv x473)] 3 [(1, sv ad1 p1 cap2), (3, sv ad4 p3 cap5), (4, pb b8), (10, sv ad81 y50.1 cap82), (12, sv ad89 y87.1 cap90), (14, iv x473)] hF (ocons (obAddC (fun _ => hx473)) onil) fun a hF => ?_
       refine wfn rfl ?_
       rw [hk3] at h
       exact ⟨n_, Nat.lt_succ_self _, x473, hF.sub (by kernel_rfl), St.pick [0, 1] (by decide) hS, h⟩
    ·replace h := bif_f h hc
     refine wpIn_exit (exit_then <| exit_then <| exit_hit <| norm_then ?_)
     exact ⟨hF.sub (by kernel_rfl), St.pick [0, 1] (by decide) hS, h⟩
   rintro a w ⟨hF, hS, h⟩
   rw [law06_PlanRefutes_K2] at h
   refine eseq ?_
   refine region_treeW 28 [2, 4, 5, 9, 14, 16, 17, 21, 25] _ (D := fun w => St w0 [blk b8 23 p0.ar] w ∧ FrzAt ν88 w) (by kernel_rfl) (by kernel_rfl) hF.size (fun w hx => ?_) (fun _ _ h => h)
   replace hS := hS.later hx
   refine ⟨⟨St.pick [0] (by decide) hS, hS.frz (i := 1) rfl hlow⟩, ?_⟩
   have hcl265 := Frz.le_refl ν88
   refine WT.s [0, 1, 3, 6, 7, 8] [2] (by kernel_rfl) (by kernel_rfl) ?_
   refine runC (rest := []) (obs := [.run [] (Instr.loadAt 23 (pb b8)) (p0.ag), .run [] (Instr.loadAt 23 (pb b8)) (p0.ag)]) [0, 1, 3, 6, 7, 8] [(1, sv ad1 p1 cap2), (4, pb b8), (12, sv ad89 y87.1 cap90), (111, p0.ag), (112, sv ad1 p1 cap2), (114, sv ad4 p3 cap5), (117, p0.ag), (118, sv ad1 p1 cap2), (119, sv ad4 p3 cap5)] hF (by kernel_rfl) (by kernel_rfl) (ocons (obN (us := p0.cells) (by kernel_rfl) (fun _ hd => (hd.1.blk (i := 0) rfl).cells rfl)) (ocons (obN (us := p0.cells) (by kernel_rfl) (fun _ hd => (hd.1.blk (i := 0) rfl).cells rfl)) onil)) ⟨by kernel_rfl⟩ fun a hF => ?_
   refine WRun.fin ?_
   refine all_cons ?_ all_nil
   replace h := bindS h
   obtain ⟨y267, hy267, h⟩ := h
   refine callK (f := 19) (args := #[sv ad1 p1 cap2]) (R := fun v w2 => ∃ ad268 cap269, v = sv ad268 y267 cap269 ∧ St w [arr 34 8 plan_Job.cells ad268 y267.length cap269 y267] w2) (fun v266 => [(1, sv ad1 p1 cap2), (4, pb b8), (12, sv ad89 y87.1 cap90), (111, p0.ag), (113, v266), (114, sv ad4 p3 cap5), (117, p0.ag), (118, sv ad1 p1 cap2), (119, sv ad4 p3 cap5)]) hF (by kernel_rfl) ⟨by kernel_rfl⟩ (Calls.mono (law06_jobs_ok F p1 _ hy267 (memOf w) w (memOf_at w) (hA3.mono (FrzAt.le_mem (hS.frz (i := 1) rfl hlow)))) (by rintro e w2 ⟨ad268, cap269, rfl, h⟩; exact ⟨_, rfl, ad268, cap269, rfl, h⟩)) (fun _ => ⟨by kernel_rfl⟩) ?_
   rintro v266 w a ⟨ad268, cap269, rfl, hQ⟩ hF
   replace hS : St w0 [arr 34 8 plan_Job.cells ad268 y267.length cap269 y267, blk b8 23 p0.ar, fz w0 ν88] w := hS.madeL hQ
   refine ⟨⟨St.pick [1] (by decide) hS, (hS.frz (i := 2) rfl hlow)⟩, ?_⟩
   refine WT.s [] [4] (by kernel_rfl) (by kernel_rfl) ?_
   refine WRun.fin ?_
   refine all_cons ?_ all_nil
   replace h := bindS h
   obtain ⟨y271, hy271, h⟩ := h
   refine callK (f := 32) (args := #[sv ad4 p3 cap5]) (R := fun v w2 => ∃ ν272 ad273 cap274 css275, ν88.ext w.heap.size ν272 ∧ v = sv ad273 y271 cap274 ∧ ArrQ ν272 2 Rp65 ad273 cap274 css275 y271 ∧ St w [frzR w.heap.size ν272] w2) (fun v270 => [(1, sv ad1 p1 cap2), (4, pb b8), (12, sv ad89 y87.1 cap90), (111, p0.ag), (113, sv ad268 y267 cap269), (115, v270), (117, p0.ag), (118, sv ad1 p1 cap2), (119, sv ad4 p3 cap5)]) hF (by kernel_rfl) ⟨by kernel_rfl⟩ (Calls.mono (law06_cuts_ok F p3 _ hy271 ν88 w (hS.frz (i := 2) rfl hlow) hA7) (by rintro e w2 ⟨ν272, ad273, cap274, css275, hx277, rfl, hA276, h⟩; exact ⟨_, rfl, ν272, ad273, cap274, css275, hx277, rfl, hA276, h⟩)) (fun _ => ⟨by kernel_rfl⟩) ?_
   rintro v270 w a ⟨ν272, ad273, cap274, css275, hx277, rfl, hA276, hQ⟩ hF
   replace hext := Frz.ext_trans hext (Frz.ext_mono hx277 hS.ext.size)
   obtain ⟨hlow, hS⟩ := hS.frzMerge (i := 2) rfl hlow hx277 hQ
   replace hA3 := hA3.mono hx277.1
   replace hA7 := hA7.mono Rp59.mono hx277.1
   replace hA78 := hA78.mono hx277.1
   replace hA84 := hA84.mono Rp65.mono hx277.1
   replace hA92 := hA92.mono Rp59.mono hx277.1
   replace hcl265 := Frz.le_trans hcl265 hx277.1
   replace hS : St w0 [arr 34 8 plan_Job.cells ad268 y267.length cap269 y267, blk b8 23 p0.ar, fz w0 ν272] w := hS
   refine ⟨⟨St.pick [1] (by decide) hS, (hS.frz (i := 2) rfl hlow).low hcl265⟩, ?_⟩
   refine WT.s [] [5] (by kernel_rfl) (by kernel_rfl) ?_
   refine WRun.fin ?_
   refine all_cons ?_ all_nil
   replace h := bindS h
   obtain ⟨y279, hy279, h⟩ := h
   refine callK (f := 31) (args := #[p0.ag, sv ad268 y267 cap269, sv ad273 y271 cap274]) (R := fun v w2 => v = iv y279 ∧ Ext w w2) (fun v278 => [(1, sv ad1 p1 cap2), (4, pb b8), (12, sv ad89 y87.1 cap90), (116, v278), (117, p0.ag), (118, sv ad1 p1 cap2), (119, sv ad4 p3 cap5)]) hF (by kernel_rfl) ⟨by kernel_rfl⟩ (Calls.mono (plan_Verify_ok F (plan_Radar.mk p0.Rays p0.Turn p0.Move p0.Duty) y267 y271 _ hy279 (memOf w) w (memOf_at w) (Arr.toM (hS.arr (i := 0) rfl)) (hA276.mono Rp65.mono (FrzAt.le_mem (hS.frz (i := 2) rfl hlow)))) (fun e w2 h => ⟨_, h.1, rfl, h.2⟩)) (fun _ => ⟨by kernel_rfl⟩) ?_
   rintro v278 w a ⟨rfl, hx⟩ hF
   replace hS := hS.later hx
   refine ⟨⟨St.pick [1] (by decide) hS, (hS.frz (i := 2) rfl hlow).low hcl265⟩, ?_⟩
   refine WT.s [] [9] (by kernel_rfl) (by kernel_rfl) ?_
   refine WRun.fin ?_
   refine all_cons ?_ all_nil
   replace h := bindS h
   obtain ⟨y281, hy281, h⟩ := h
   refine callK (f := 33) (args := #[p0.ag, sv ad1 p1 cap2, sv ad4 p3 cap5]) (R := fun v w2 => v = iv y281 ∧ Ext w w2) (fun v280 => [(1, sv ad1 p1 cap2), (4, pb b8), (12, sv ad89 y87.1 cap90), (116, iv y279), (120, v280)]) hF (by kernel_rfl) ⟨by kernel_rfl⟩ (Calls.mono (ref06_Verify_ok F p0 p1 p3 _ hy281 (memOf w) w (memOf_at w) (hA3.mono (FrzAt.le_mem (hS.frz (i := 2) rfl hlow))) (hA7.mono Rp59.mono (FrzAt.le_mem (hS.frz (i := 2) rfl hlow)))) (fun e w2 h => ⟨_, h.1, rfl, h.2⟩)) (fun _ => ⟨by kernel_rfl⟩) ?_
   rintro v280 w a ⟨rfl, hx⟩ hF
   replace hS := hS.later hx
   refine ⟨⟨St.pick [1] (by decide) hS, (hS.frz (i := 2) rfl hlow).low hcl265⟩, ?_⟩
   refine WT.s [10, 11, 12, 13, 15, 18, 19, 20] [14] (by kernel_rfl) (by kernel_rfl) ?_
   refine runC (rest := [12, 13, 15, 18, 19, 20]) (obs := []) [10, 11] [(1, sv ad1 p1 cap2), (4, pb b8), (12, sv ad89 y87.1 cap90), (122, .bool (y279 == y281))] hF (by kernel_rfl) (by kernel_rfl) onil ⟨by kernel_rfl⟩ fun a hF => ?_
   rcases Bool.eq_false_or_eq_true ((y279 == y281)) with hg282 | hg282
   ·replace h := bif_t h hg282
    rw [hg282] at hF
    refine runCC (rest := []) (obs := [.run [⟨122, true, true⟩] (Instr.loadAt 23 (pb b8)) (p0.ag), .run [⟨122, true, true⟩] (Instr.loadAt 23 (pb b8)) (p0.ag)]) [12, 13, 15, 18, 19, 20] [(122, ⟨[], .bool true⟩), (123, ⟨[⟨122, true, true⟩], p0.ag⟩), (124, ⟨[⟨122, true, true⟩], sv ad1 p1 cap2⟩), (126, ⟨[⟨122, true, true⟩], sv ad89 y87.1 cap90⟩), (129, ⟨[⟨122, true, true⟩], p0.ag⟩), (130, ⟨[⟨122, true, true⟩], sv ad1 p1 cap2⟩), (131, ⟨[⟨122, true, true⟩], sv ad89 y87.1 cap90⟩)] hF (by kernel_rfl) (by kernel_rfl) (ocons (obN (us := p0.cells) (by kernel_rfl) (fun _ hd => (hd.1.blk (i := 0) rfl).cells rfl)) (ocons (obN (us := p0.cells) (by kernel_rfl) (fun _ hd => (hd.1.blk (i := 0) rfl).cells rfl)) onil)) ⟨by kernel_rfl⟩ (by kernel_rfl) fun a hF => ?_
    replace hF : Fr 138 [] [(122, .bool true), (123, p0.ag), (124, sv ad1 p1 cap2), (126, sv ad89 y87.1 cap90), (129, p0.ag), (130, sv ad1 p1 cap2), (131, sv ad89 y87.1 cap90)] a := hF
    refine WRun.fin ?_
    refine all_cons ?_ all_nil
    replace h := bindS h
    obtain ⟨y284, hy284, h⟩ := h
    refine callK (f := 19) (args := #[sv ad1 p1 cap2]) (R := fun v w2 => ∃ ad285 cap286, v = sv ad285 y284 cap286 ∧ St w [arr 34 8 plan_Job.cells ad285 y284.length cap286 y284] w2) (fun v283 => [(122, .bool true), (123, p0.ag), (125, v283), (126, sv ad89 y87.1 cap90), (129, p0.ag), (130, sv ad1 p1 cap2), (131, sv ad89 y87.1 cap90)]) hF (by kernel_rfl) ⟨by kernel_rfl⟩ (Calls.mono (law06_jobs_ok F p1 _ hy284 (memOf w) w (memOf_at w) (hA3.mono (FrzAt.le_mem (hS.frz (i := 2) rfl hlow)))) (by rintro e w2 ⟨ad285, cap286, rfl, h⟩; exact ⟨_, rfl, ad285, cap286, rfl, h⟩)) (fun _ => ⟨by kernel_rfl⟩) ?_
    rintro v283 w a ⟨ad285, cap286, rfl, hQ⟩ hF
    replace hS : St w0 [arr 34 8 plan_Job.cells ad285 y284.length cap286 y284, arr 34 8 plan_Job.cells ad268 y267.length cap269 y267, blk b8 23 p0.ar, fz w0 ν272] w := hS.madeL hQ
    refine ⟨⟨St.pick [2] (by decide) hS, (hS.frz (i := 3) rfl hlow).low hcl265⟩, ?_⟩
    refine WT.s [] [16] (by kernel_rfl) (by kernel_rfl) ?_
    refine WRun.fin ?_
    refine all_cons ?_ all_nil
    replace h := bindS h
    obtain ⟨y288, hy288, h⟩ := h
    refine callK (f := 32) (args := #[sv ad89 y87.1 cap90]) (R := fun v w2 => ∃ ν289 ad290 cap291 css292, ν272.ext w.heap.size ν289 ∧ v = sv ad290 y288 cap291 ∧ ArrQ ν289 2 Rp65 ad290 cap291 css292 y288 ∧ St w [frzR w.heap.size ν289] w2) (fun v287 => [(122, .bool true), (123, p0.ag), (125, sv ad285 y284 cap286), (127, v287), (129, p0.ag), (130, sv ad1 p1 cap2), (131, sv ad89 y87.1 cap90)]) hF (by kernel_rfl) ⟨by kernel_rfl⟩ (Calls.mono (law06_cuts_ok F y87.1 _ hy288 ν272 w (hS.frz (i := 3) rfl hlow) hA92) (by rintro e w2 ⟨ν289, ad290, cap291, css292, hx294, rfl, hA293, h⟩; exact ⟨_, rfl, ν289, ad290, cap291, css292, hx294, rfl, hA293, h⟩)) (fun _ => ⟨by kernel_rfl⟩) ?_
    rintro v287 w a ⟨ν289, ad290, cap291, css292, hx294, rfl, hA293, hQ⟩ hF
    replace hext := Frz.ext_trans hext (Frz.ext_mono hx294 hS.ext.size)
    obtain ⟨hlow, hS⟩ := hS.frzMerge (i := 3) rfl hlow hx294 hQ
    replace hA3 := hA3.mono hx294.1
    replace hA7 := hA7.mono Rp59.mono hx294.1
    replace hA78 := hA78.mono hx294.1
    replace hA84 := hA84.mono Rp65.mono hx294.1
    replace hA92 := hA92.mono Rp59.mono hx294.1
    replace hA276 := hA276.mono Rp65.mono hx294.1
    replace hcl265 := Frz.le_trans hcl265 hx294.1
    replace hS : St w0 [arr 34 8 plan_Job.cells ad285 y284.length cap286 y284, arr 34 8 plan_Job.cells ad268 y267.length cap269 y267, blk b8 23 p0.ar, fz w0 ν289] w := hS
    refine ⟨⟨St.pick [2] (by decide) hS, (hS.frz (i := 3) rfl hlow).low hcl265⟩, ?_⟩
    refine WT.s [] [17] (by kernel_rfl) (by kernel_rfl) ?_
    refine WRun.fin ?_
    refine all_cons ?_ all_nil
    replace h := bindS h
    obtain ⟨y296, hy296, h⟩ := h
    refine callK (f := 31) (args := #[p0.ag, sv ad285 y284 cap286, sv ad290 y288 cap291]) (R := fun v w2 => v = iv y296 ∧ Ext w w2) (fun v295 => [(122, .bool true), (128, v295), (129, p0.ag), (130, sv ad1 p1 cap2), (131, sv ad89 y87.1 cap90)]) hF (by kernel_rfl) ⟨by kernel_rfl⟩ (Calls.mono (plan_Verify_ok F (plan_Radar.mk p0.Rays p0.Turn p0.Move p0.Duty) y284 y288 _ hy296 (memOf w) w (memOf_at w) (Arr.toM (hS.arr (i := 0) rfl)) (hA293.mono Rp65.mono (FrzAt.le_mem (hS.frz (i := 3) rfl hlow)))) (fun e w2 h => ⟨_, h.1, rfl, h.2⟩)) (fun _ => ⟨by kernel_rfl⟩) ?_
    rintro v295 w a ⟨rfl, hx⟩ hF
    replace hS := hS.later hx
    refine ⟨⟨St.pick [2] (by decide) hS, (hS.frz (i := 3) rfl hlow).low hcl265⟩, ?_⟩
    refine WT.s [] [21] (by kernel_rfl) (by kernel_rfl) ?_
    refine WRun.fin ?_
    refine all_cons ?_ all_nil
    replace h := bindS h
    obtain ⟨y298, hy298, h⟩ := h
    refine callK (f := 33) (args := #[p0.ag, sv ad1 p1 cap2, sv ad89 y87.1 cap90]) (R := fun v w2 => v = iv y298 ∧ Ext w w2) (fun v297 => [(122, .bool true), (128, iv y296), (132, v297)]) hF (by kernel_rfl) ⟨by kernel_rfl⟩ (Calls.mono (ref06_Verify_ok F p0 p1 y87.1 _ hy298 (memOf w) w (memOf_at w) (hA3.mono (FrzAt.le_mem (hS.frz (i := 3) rfl hlow))) (hA92.mono Rp59.mono (FrzAt.le_mem (hS.frz (i := 3) rfl hlow)))) (fun e w2 h => ⟨_, h.1, rfl, h.2⟩)) (fun _ => ⟨by kernel_rfl⟩) ?_
    rintro v297 w a ⟨rfl, hx⟩ hF
    replace hS := hS.later hx
    refine ⟨⟨St.pick [2] (by decide) hS, (hS.frz (i := 3) rfl hlow).low hcl265⟩, ?_⟩
    refine WT.s [22, 23, 24] [25] (by kernel_rfl) (by kernel_rfl) ?_
    refine runC (rest := []) (obs := []) [22, 23, 24] [(135, .bool (y296 == y298))] hF (by kernel_rfl) (by kernel_rfl) onil ⟨by kernel_rfl⟩ fun a hF => ?_
    refine WRun.fin ?_
    refine all_cons ?_ all_nil
    rcases Bool.eq_false_or_eq_true ((y296 == y298)) with hg299 | hg299
    ·replace h := bif_t h hg299
     rw [hg299] at hF
     replace h := bindS h
     obtain ⟨y301, hy301, h⟩ := h
     refine callK (f := 17) (args := #[]) (R := fun v w2 => v = .bool y301 ∧ Ext w w2) (fun v300 => [(135, .bool true), (136, v300)]) hF (by kernel_rfl) ⟨by kernel_rfl⟩ (Calls.mono (law06_works_ok F  _ hy301 (memOf w) w (memOf_at w) ) (fun e w2 h => ⟨_, h.1, rfl, h.2⟩)) (fun _ => ⟨by kernel_rfl⟩) ?_
     rintro v300 w a ⟨rfl, hx⟩ hF
     replace hS := hS.later hx
     refine ⟨⟨St.pick [2] (by decide) hS, (hS.frz (i := 3) rfl hlow).low hcl265⟩, ?_⟩
     refine WT.z [26, 27] (by kernel_rfl) ?_
     refine runC (rest := []) (obs := []) [26, 27] [(8, .bool y301)] hF (by kernel_rfl) (by kernel_rfl) onil ⟨by kernel_rfl⟩ fun a hF => ?_
     refine WRun.fin ?_
     refine wfn rfl ?_
     refine wpIn_ret (fn_ret [.tmp 8] [.bool y301] hF rfl ⟨rfl, trivial⟩ ?_)
     have hr_ := Option.some.inj h
     subst hr_
     exact ⟨rfl, hS.ext⟩
    ·replace h := bif_f h hg299
     rw [hg299] at hF
     refine skipSK [(135, .bool false), (136, undef)] hF (by kernel_rfl) ⟨by kernel_rfl⟩ ⟨by kernel_rfl⟩ fun a hF => ?_
     refine ⟨⟨St.pick [2] (by decide) hS, (hS.frz (i := 3) rfl hlow).low hcl265⟩, ?_⟩
     refine WT.z [26, 27] (by kernel_rfl) ?_
     refine runC (rest := []) (obs := []) [26, 27] [(8, .bool false)] hF (by kernel_rfl) (by kernel_rfl) onil ⟨by kernel_rfl⟩ fun a hF => ?_
     refine WRun.fin ?_
     refine wfn rfl ?_
     refine wpIn_ret (fn_ret [.tmp 8] [.bool false] hF rfl ⟨rfl, trivial⟩ ?_)
     have hr_ := Option.some.inj h
     subst hr_
     exact ⟨rfl, hS.ext⟩
   ·replace h := bif_f h hg282
    rw [hg282] at hF
    refine skipW [(1, sv ad1 p1 cap2), (4, pb b8), (12, sv ad89 y87.1 cap90), (122, .bool false), (123, undef)] hF (by kernel_rfl) (by kernel_rfl) ⟨by kernel_rfl⟩ ⟨by kernel_rfl⟩ fun a hF => ?_
    refine skipW [(1, sv ad1 p1 cap2), (4, pb b8), (12, sv ad89 y87.1 cap90), (122, .bool false), (123, undef), (124, undef)] hF (by kernel_rfl) (by kernel_rfl) ⟨by kernel_rfl⟩ ⟨by kernel_rfl⟩ fun a hF => ?_
    refine skipW [(1, sv ad1 p1 cap2), (4, pb b8), (12, sv ad89 y87.1 cap90), (122, .bool false), (123, undef), (124, undef), (126, undef)] hF (by kernel_rfl) (by kernel_rfl) ⟨by kernel_rfl⟩ ⟨by kernel_rfl⟩ fun a hF => ?_
    refine skipW [(1, sv ad1 p1 cap2), (12, sv ad89 y87.1 cap90), (122, .bool false), (123, undef), (124, undef), (126, undef), (129, undef)] hF (by kernel_rfl) (by kernel_rfl) ⟨by kernel_rfl⟩ ⟨by kernel_rfl⟩ fun a hF => ?_
    refine skipW [(12, sv ad89 y87.1 cap90), (122, .bool false), (123, undef), (124, undef), (126, undef), (129, undef), (130, undef)] hF (by kernel_rfl) (by kernel_rfl) ⟨by kernel_rfl⟩ ⟨by kernel_rfl⟩ fun a hF => ?_
    refine skipW [(122, .bool false), (123, undef), (124, undef), (126, undef), (129, undef), (130, undef), (131, undef)] hF (by kernel_rfl) (by kernel_rfl) ⟨by kernel_rfl⟩ ⟨by kernel_rfl⟩ fun a hF => ?_
    refine WRun.fin ?_
    refine all_cons ?_ all_nil
    refine skipSK [(122, .bool false), (123, undef), (125, undef), (126, undef), (129, undef), (130, undef), (131, undef)] hF (by kernel_rfl) ⟨by kernel_rfl⟩ ⟨by kernel_rfl⟩ fun a hF => ?_
    refine ⟨⟨St.pick [1] (by decide) hS, (hS.frz (i := 2) rfl hlow).low hcl265⟩, ?_⟩
    refine WT.s [] [16] (by kernel_rfl) (by kernel_rfl) ?_
    refine WRun.fin ?_
    refine all_cons ?_ all_nil
    refine skipSK [(122, .bool false), (123, undef), (125, undef), (127, undef), (129, undef), (130, undef), (131, undef)] hF (by kernel_rfl) ⟨by kernel_rfl⟩ ⟨by kernel_rfl⟩ fun a hF => ?_
    refine ⟨⟨St.pick [1] (by decide) hS, (hS.frz (i := 2) rfl hlow).low hcl265⟩, ?_⟩
    refine WT.s [] [17] (by kernel_rfl) (by kernel_rfl) ?_
    refine WRun.fin ?_
    refine all_cons ?_ all_nil
    refine skipSK [(122, .bool false), (128, undef), (129, undef), (130, undef), (131, undef)] hF (by kernel_rfl) ⟨by kernel_rfl⟩ ⟨by kernel_rfl⟩ fun a hF => ?_
    refine ⟨⟨St.pick [1] (by decide) hS, (hS.frz (i := 2) rfl hlow).low hcl265⟩, ?_⟩
    refine WT.s [] [21] (by kernel_rfl) (by kernel_rfl) ?_
    refine WRun.fin ?_
    refine all_cons ?_ all_nil
    refine skipSK [(122, .bool false), (128, undef), (132, undef)] hF (by kernel_rfl) ⟨by kernel_rfl⟩ ⟨by kernel_rfl⟩ fun a hF => ?_
    refine ⟨⟨St.pick [1] (by decide) hS, (hS.frz (i := 2) rfl hlow).low hcl265⟩, ?_⟩
    refine WT.s [22, 23, 24] [25] (by kernel_rfl) (by kernel_rfl) ?_
    refine skipW [(122, .bool false), (133, undef)] hF (by kernel_rfl) (by kernel_rfl) ⟨by kernel_rfl⟩ ⟨by kernel_rfl⟩ fun a hF => ?_
    refine runC (rest := []) (obs := []) [23, 24] [(135, .bool false)] hF (by kernel_rfl) (by kernel_rfl) onil ⟨by kernel_rfl⟩ fun a hF => ?_
    refine WRun.fin ?_
    refine all_cons ?_ all_nil
    refine skipSK [(135, .bool false), (136, undef)] hF (by kernel_rfl) ⟨by kernel_rfl⟩ ⟨by kernel_rfl⟩ fun a hF => ?_
    refine ⟨⟨St.pick [1] (by decide) hS, (hS.frz (i := 2) rfl hlow).low hcl265⟩, ?_⟩
    refine WT.z [26, 27] (by kernel_rfl) ?_
    refine runC (rest := []) (obs := []) [26, 27] [(8, .bool false)] hF (by kernel_rfl) (by kernel_rfl) onil ⟨by kernel_rfl⟩ fun a hF => ?_
    refine WRun.fin ?_
    refine wfn rfl ?_
    refine wpIn_ret (fn_ret [.tmp 8] [.bool false] hF rfl ⟨rfl, trivial⟩ ?_)
    have hr_ := Option.some.inj h
    subst hr_
    exact ⟨rfl, hS.ext⟩
end Go.Proofs.Ytejffembnkojjaa
