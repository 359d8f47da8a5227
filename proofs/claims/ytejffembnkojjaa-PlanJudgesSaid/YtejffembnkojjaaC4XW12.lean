/- Walks, written by program (wip/gen/dec.py). -/
import Derived.Test.YtejffembnkojjaaC4XD
import Derived.Test.YtejffembnkojjaaProg
import Derived.Test.YtejffembnkojjaaC4XW0
import Derived.Test.YtejffembnkojjaaC4XW2
import Derived.Test.YtejffembnkojjaaC4XW3
import Derived.Test.YtejffembnkojjaaC4XW6
import Derived.Test.YtejffembnkojjaaC4XW7
import Derived.Test.YtejffembnkojjaaC4XW9
import Derived.Test.YtejffembnkojjaaC4XW11
namespace Go.Proofs.Ytejffembnkojjaa
open Go Go.RowKit Go.Eng
set_option maxRecDepth 10000
set_option maxHeartbeats 4000000
set_option linter.unusedVariables false
set_option linter.unusedSimpArgs false
theorem law06_PlanJudges_ok (F : Nat) (p0 : ref06_Radar) (p1 : (List ref06_Job)) (p2 : (List Int)) (p3 : Int) (res : Bool) (h : law06_PlanJudges F p0 p1 p2 p3 = some res) (μ : Frz) (w0 : World) (hm : FrzAt μ w0) {ad1 : Option Addr} {cap2 : Nat} {ad4 : Option Addr} {cap5 : Nat} (hA3 : ArrM μ 8 ref06_Job.cells ad1 cap2 p1) (hA6 : ArrM μ 1 fI ad4 cap5 p2) : Calls Try.prog 4 #[p0.ag, sv ad1 p1 cap2, sv ad4 p2 cap5, iv p3] w0 (fun e w => e = .returned (.bool res) ∧ Ext w0 w) := by
 obtain ⟨hlow, hS⟩ := hm.init
 have hext := Frz.ext_refl w0.heap.size μ
 rw [law06_PlanJudges] at h
 refine fn_enterW Try.func4 rfl 95 [(0, p0.ag), (1, sv ad1 p1 cap2), (2, sv ad4 p2 cap5), (3, iv p3)] rfl rfl (by kernel_rfl) fun a w hw hF => ?_
 replace hS : St w0 [fz w0 μ] w := by rw [hw]; exact hS
 clear hw
 refine esr ?_
 refine SK.wi (boxK (t := 23) (fun b7 => [(1, sv ad1 p1 cap2), (2, sv ad4 p2 cap5), (3, iv p3), (4, pb b7)]) (p0.ag) p0.ar hF hS (by kernel_rfl) ⟨by kernel_rfl⟩ (by kernel_rfl) (fun _ => ⟨by kernel_rfl⟩) fun b7 w a hF hS => ?_)
 refine rn 1 2 [(1, sv ad1 p1 cap2), (2, sv ad4 p2 cap5), (3, iv p3), (4, pb b7)] hF fun a hF => ?_
 refine wfn rfl ?_
 refine eseq ?_
 refine esr ?_
 refine rn 8 8 [(1, sv ad1 p1 cap2), (2, sv ad4 p2 cap5), (3, iv p3), (4, pb b7), (24, .bool (bif (decide ((ln p1) > 10)) then true else (decide ((ln p2) > 20))))] hF fun a hF => ?_
 refine wfn rfl ?_
 refine econd hF rfl (fun hc => ?_) (fun hc => ?_)
 ·replace h := bif_t h hc
  refine esr ?_
  replace h := bindS h
  obtain ⟨y8, hy8, h⟩ := h
  refine rx 2 [.call [] 17 #[] (.bool y8)] 2 [(8, .bool y8)] hF (ocons (show Ob.ok _ Ext _ _ from fun hk w2 hd => law06_works_ok F  _ ((fun _ => hy8) hk) _ w2 (memOf_at w2) ) onil) fun a w hF hx => ?_
  replace hS := hS.later hx
  refine wfn rfl ?_
  refine wpIn_ret (ret_then <| fn_ret [.tmp 8] [.bool y8] hF rfl ⟨rfl, trivial⟩ ?_)
  have hr_ := Option.some.inj h
  subst hr_
  exact ⟨rfl, hS.ext⟩
 ·replace h := bif_f h hc
  refine wpIn_skip (norm_then ?_)
  refine eseq ?_
  replace h := bindS h
  obtain ⟨y10, hy10, h⟩ := h
  replace h := bindS h
  obtain ⟨y18, hy18, h⟩ := h
  refine region_treeW 10 [2, 4] _ (D := fun w => St w0 [blk b7 23 p0.ar] w ∧ FrzAt μ w) (by kernel_rfl) (by kernel_rfl) hF.size (fun w hx => ?_) (fun _ _ h => h)
  replace hS := hS.later hx
  refine ⟨⟨St.pick [0] (by decide) hS, hS.frz (i := 1) rfl hlow⟩, ?_⟩
  have hcl37 := Frz.le_refl μ
  refine WT.s [0, 1, 3] [2] (by kernel_rfl) (by kernel_rfl) ?_
  refine runC (rest := []) (obs := [.run [] (Instr.loadAt 23 (pb b7)) (p0.ag)]) [0, 1, 3] [(1, sv ad1 p1 cap2), (2, sv ad4 p2 cap5), (3, iv p3), (4, pb b7), (27, p0.ag), (28, sv ad1 p1 cap2), (30, sv ad4 p2 cap5)] hF (by kernel_rfl) (by kernel_rfl) (ocons (obN (us := p0.cells) (by kernel_rfl) (fun _ hd => (hd.1.blk (i := 0) rfl).cells rfl)) onil) ⟨by kernel_rfl⟩ fun a hF => ?_
  refine WRun.fin ?_
  refine all_cons ?_ (all_nil)
  refine callK (f := 19) (args := #[sv ad1 p1 cap2]) (R := fun v w2 => ∃ ad39 cap40, v = sv ad39 y10 cap40 ∧ St w [arr 34 8 plan_Job.cells ad39 y10.length cap40 y10] w2) (fun v38 => [(1, sv ad1 p1 cap2), (2, sv ad4 p2 cap5), (3, iv p3), (4, pb b7), (27, p0.ag), (29, v38), (30, sv ad4 p2 cap5)]) hF (by kernel_rfl) ⟨by kernel_rfl⟩ (Calls.mono (law06_jobs_ok F p1 _ hy10 (memOf w) w (memOf_at w) (hA3.mono (FrzAt.le_mem (hS.frz (i := 1) rfl hlow)))) (by rintro e w2 ⟨ad39, cap40, rfl, h⟩; exact ⟨_, rfl, ad39, cap40, rfl, h⟩)) (fun _ => ⟨by kernel_rfl⟩) ?_
  rintro v38 w a ⟨ad39, cap40, rfl, hQ⟩ hF
  replace hS : St w0 [arr 34 8 plan_Job.cells ad39 y10.length cap40 y10, blk b7 23 p0.ar, fz w0 μ] w := hS.madeL hQ
  refine ⟨⟨St.pick [1] (by decide) hS, (hS.frz (i := 2) rfl hlow)⟩, ?_⟩
  refine WT.s [] [4] (by kernel_rfl) (by kernel_rfl) ?_
  refine WRun.fin ?_
  refine all_cons ?_ (all_nil)
  obtain ⟨ν41, hx42, hlow, hS, hz43⟩ := hS.freeze (i := 2) (j := 0) rfl rfl (by decide) hlow
  replace hA3 := hA3.mono hx42.1
  replace hA6 := hA6.mono hx42.1
  replace hcl37 := Frz.le_trans hcl37 hx42.1
  replace hext := Frz.ext_trans hext hx42
  replace hS : St w0 [blk b7 23 p0.ar, fz w0 ν41] w := hS
  have hA44 := ArrM.of_arr hz43
  refine callK (f := 18) (args := #[p0.ag, sv ad39 y10 cap40, sv ad4 p2 cap5]) (R := fun v w2 => ∃ ν46 ad47 cap48, ν41.ext w.heap.size ν46 ∧ v = .tuple #[sv ad47 y18.1 cap48, iv y18.2] ∧ ArrM ν46 1 fI ad47 cap48 y18.1 ∧ St w [frzR w.heap.size ν46] w2) (fun v45 => [(1, sv ad1 p1 cap2), (2, sv ad4 p2 cap5), (3, iv p3), (4, pb b7), (31, v45)]) hF (by kernel_rfl) ⟨by kernel_rfl⟩ (Calls.mono (plan_Judge_ok F (plan_Radar.mk p0.Rays p0.Turn p0.Move p0.Duty) y10 p2 _ hy18 ν41 w (hS.frz (i := 1) rfl hlow) hA44 hA6) (by rintro e w2 ⟨ν46, ad47, cap48, hx50, rfl, hA49, h⟩; exact ⟨_, rfl, ν46, ad47, cap48, hx50, rfl, hA49, h⟩)) (fun _ => ⟨by kernel_rfl⟩) ?_
  rintro v45 w a ⟨ν46, ad47, cap48, hx50, rfl, hA49, hQ⟩ hF
  replace hext := Frz.ext_trans hext (Frz.ext_mono hx50 hS.ext.size)
  obtain ⟨hlow, hS⟩ := hS.frzMerge (i := 1) rfl hlow hx50 hQ
  replace hA3 := hA3.mono hx50.1
  replace hA6 := hA6.mono hx50.1
  replace hA44 := hA44.mono hx50.1
  replace hcl37 := Frz.le_trans hcl37 hx50.1
  replace hS : St w0 [blk b7 23 p0.ar, fz w0 ν46] w := hS
  refine ⟨⟨St.pick [0] (by decide) hS, (hS.frz (i := 1) rfl hlow).low hcl37⟩, ?_⟩
  refine WT.z [5, 6, 7, 8, 9] (by kernel_rfl) ?_
  refine runC (rest := []) (obs := []) [5, 6, 7, 8, 9] [(1, sv ad1 p1 cap2), (2, sv ad4 p2 cap5), (3, iv p3), (4, pb b7), (9, sv ad47 y18.1 cap48), (10, iv y18.2)] hF (by kernel_rfl) (by kernel_rfl) onil ⟨by kernel_rfl⟩ fun a hF => ?_
  refine WRun.fin ?_
  refine wfn rfl ?_
  refine esr ?_
  refine rno 3 [.run [] (Instr.loadAt 23 (pb b7)) (p0.ag)] 3 [(1, sv ad1 p1 cap2), (2, sv ad4 p2 cap5), (3, iv p3), (4, pb b7), (9, sv ad47 y18.1 cap48), (10, iv y18.2), (35, p0.ag), (36, sv ad1 p1 cap2), (37, sv ad4 p2 cap5)] hF (ocons (obN (us := p0.cells) (by kernel_rfl) (fun _ hd => ((hS.at_ hd).blk (i := 0) rfl).cells rfl)) onil) fun a hF => ?_
  replace h := bindS h
  obtain ⟨y52, hy52, h⟩ := h
  refine SK.wi (callK (f := 20) (args := #[p0.ag, sv ad1 p1 cap2, sv ad4 p2 cap5]) (R := fun v w2 => ∃ ad53 cap54, v = .tuple #[sv ad53 y52.1 cap54, iv y52.2] ∧ St w [arr 3 1 fI ad53 y52.1.length cap54 y52.1] w2) (fun v51 => [(1, sv ad1 p1 cap2), (2, sv ad4 p2 cap5), (3, iv p3), (4, pb b7), (9, sv ad47 y18.1 cap48), (10, iv y18.2), (38, v51)]) hF (by kernel_rfl) ⟨by kernel_rfl⟩ (Calls.mono (ref06_Judge_ok F p0 p1 p2 _ hy52 (memOf w) w (memOf_at w) (hA3.mono (FrzAt.le_mem (hS.frz (i := 1) rfl hlow))) (hA6.mono (FrzAt.le_mem (hS.frz (i := 1) rfl hlow)))) (by rintro e w2 ⟨ad53, cap54, rfl, h⟩; exact ⟨_, rfl, ad53, cap54, rfl, h⟩)) (fun _ => ⟨by kernel_rfl⟩) ?_)
  rintro v51 w a ⟨ad53, cap54, rfl, hQ⟩ hF
  replace hS : St w0 [arr 3 1 fI ad53 y52.1.length cap54 y52.1, blk b7 23 p0.ar, fz w0 ν46] w := hS.madeL hQ
  refine rn 5 9 [(1, sv ad1 p1 cap2), (2, sv ad4 p2 cap5), (3, iv p3), (4, pb b7), (9, sv ad47 y18.1 cap48), (10, iv y18.2), (11, sv ad53 y52.1 cap54), (12, iv y52.2)] hF fun a hF => ?_
  refine wfn rfl ?_
  refine eseq ?_
  refine eseq ?_
  refine region_treeW 19 [2, 12, 13, 16] _ (D := fun w => St w0 [arr 3 1 fI ad53 y52.1.length cap54 y52.1, blk b7 23 p0.ar] w ∧ FrzAt ν46 w) (by kernel_rfl) (by kernel_rfl) hF.size (fun w hx => ?_) (fun _ _ h => h)
  replace hS := hS.later hx
  refine ⟨⟨St.pick [0, 1] (by decide) hS, hS.frz (i := 2) rfl hlow⟩, ?_⟩
  have hcl55 := Frz.le_refl ν46
  refine WT.s [0, 1] [2] (by kernel_rfl) (by kernel_rfl) ?_
  refine runC (rest := []) (obs := []) [0, 1] [(1, sv ad1 p1 cap2), (2, sv ad4 p2 cap5), (3, iv p3), (4, pb b7), (10, iv y18.2), (12, iv y52.2), (41, sv ad47 y18.1 cap48), (42, sv ad53 y52.1 cap54)] hF (by kernel_rfl) (by kernel_rfl) onil ⟨by kernel_rfl⟩ fun a hF => ?_
  refine WRun.fin ?_
  refine all_cons ?_ all_nil
  replace h := bindS h
  obtain ⟨y57, hy57, h⟩ := h
  refine callK (f := 21) (args := #[sv ad47 y18.1 cap48, sv ad53 y52.1 cap54]) (R := fun v w2 => v = .bool y57 ∧ Ext w w2) (fun v56 => [(1, sv ad1 p1 cap2), (2, sv ad4 p2 cap5), (3, iv p3), (4, pb b7), (10, iv y18.2), (12, iv y52.2), (43, v56)]) hF (by kernel_rfl) ⟨by kernel_rfl⟩ (Calls.mono (law06_numbers_ok F y18.1 y52.1 _ hy57 (memOf w) w (memOf_at w) (hA49.mono (FrzAt.le_mem (hS.frz (i := 2) rfl hlow))) (Arr.toM (hS.arr (i := 0) rfl))) (fun e w2 h => ⟨_, h.1, rfl, h.2⟩)) (fun _ => ⟨by kernel_rfl⟩) ?_
  rintro v56 w a ⟨rfl, hx⟩ hF
  replace hS := hS.later hx
  refine ⟨⟨St.pick [0, 1] (by decide) hS, (hS.frz (i := 2) rfl hlow)⟩, ?_⟩
  refine WT.s [3, 4, 5, 6, 7, 8, 9, 10, 11, 14, 15] [12] (by kernel_rfl) (by kernel_rfl) ?_
  refine runC (rest := [10, 11, 14, 15]) (obs := []) [3, 4, 5, 6, 7, 8, 9] [(1, sv ad1 p1 cap2), (2, sv ad4 p2 cap5), (3, iv p3), (4, pb b7), (50, .bool (bif (!y57) then true else (y18.2 != y52.2)))] hF (by kernel_rfl) (by kernel_rfl) onil ⟨by kernel_rfl⟩ fun a hF => ?_
  rcases Bool.eq_false_or_eq_true ((bif (!y57) then true else (y18.2 != y52.2))) with hg58 | hg58
  ·replace h := bif_t h hg58
   rw [hg58] at hF
   refine skipW [(1, sv ad1 p1 cap2), (2, sv ad4 p2 cap5), (3, iv p3), (4, pb b7), (50, .bool true), (51, undef)] hF (by kernel_rfl) (by kernel_rfl) ⟨by kernel_rfl⟩ ⟨by kernel_rfl⟩ fun a hF => ?_
   refine skipW [(1, sv ad1 p1 cap2), (2, sv ad4 p2 cap5), (3, iv p3), (4, pb b7), (50, .bool true), (51, undef), (52, undef)] hF (by kernel_rfl) (by kernel_rfl) ⟨by kernel_rfl⟩ ⟨by kernel_rfl⟩ fun a hF => ?_
   refine skipW [(1, sv ad1 p1 cap2), (2, sv ad4 p2 cap5), (3, iv p3), (4, pb b7), (50, .bool true), (51, undef), (52, undef), (55, undef)] hF (by kernel_rfl) (by kernel_rfl) ⟨by kernel_rfl⟩ ⟨by kernel_rfl⟩ fun a hF => ?_
   refine skipW [(1, sv ad1 p1 cap2), (2, sv ad4 p2 cap5), (3, iv p3), (4, pb b7), (50, .bool true), (51, undef), (52, undef), (55, undef), (56, undef)] hF (by kernel_rfl) (by kernel_rfl) ⟨by kernel_rfl⟩ ⟨by kernel_rfl⟩ fun a hF => ?_
   refine WRun.fin ?_
   refine all_cons ?_ all_nil
   refine skipSK [(1, sv ad1 p1 cap2), (2, sv ad4 p2 cap5), (3, iv p3), (4, pb b7), (50, .bool true), (51, undef), (53, undef), (55, undef), (56, undef)] hF (by kernel_rfl) ⟨by kernel_rfl⟩ ⟨by kernel_rfl⟩ fun a hF => ?_
   refine ⟨⟨St.pick [0, 1] (by decide) hS, (hS.frz (i := 2) rfl hlow)⟩, ?_⟩
   refine WT.s [] [13] (by kernel_rfl) (by kernel_rfl) ?_
   refine WRun.fin ?_
   refine all_cons ?_ all_nil
   refine skipSK [(1, sv ad1 p1 cap2), (2, sv ad4 p2 cap5), (3, iv p3), (4, pb b7), (50, .bool true), (54, undef), (55, undef), (56, undef)] hF (by kernel_rfl) ⟨by kernel_rfl⟩ ⟨by kernel_rfl⟩ fun a hF => ?_
   refine ⟨⟨St.pick [0, 1] (by decide) hS, (hS.frz (i := 2) rfl hlow)⟩, ?_⟩
   refine WT.s [] [16] (by kernel_rfl) (by kernel_rfl) ?_
   refine WRun.fin ?_
   refine all_cons ?_ all_nil
   refine skipSK [(1, sv ad1 p1 cap2), (2, sv ad4 p2 cap5), (3, iv p3), (4, pb b7), (50, .bool true), (54, undef), (57, undef)] hF (by kernel_rfl) ⟨by kernel_rfl⟩ ⟨by kernel_rfl⟩ fun a hF => ?_
   refine ⟨⟨St.pick [0, 1] (by decide) hS, (hS.frz (i := 2) rfl hlow)⟩, ?_⟩
   refine WT.z [17, 18] (by kernel_rfl) ?_
   refine skipW [(1, sv ad1 p1 cap2), (2, sv ad4 p2 cap5), (3, iv p3), (4, pb b7), (50, .bool true), (58, undef)] hF (by kernel_rfl) (by kernel_rfl) ⟨by kernel_rfl⟩ ⟨by kernel_rfl⟩ fun a hF => ?_
   refine runC (rest := []) (obs := []) [18] [(1, sv ad1 p1 cap2), (2, sv ad4 p2 cap5), (3, iv p3), (4, pb b7), (59, .bool true)] hF (by kernel_rfl) (by kernel_rfl) onil ⟨by kernel_rfl⟩ fun a hF => ?_
   refine WRun.fin ?_
   refine wfn rfl ?_
   refine wpIn_cond_true (hF.get rfl) ?_
   refine esr ?_
   refine rn 1 1 [(8, .bool false)] hF fun a hF => ?_
   refine wfn rfl ?_
   refine wpIn_ret (ret_then <| fn_ret [.tmp 8] [.bool false] hF rfl ⟨rfl, trivial⟩ ?_)
   have hr_ := Option.some.inj h
   subst hr_
   exact ⟨rfl, hS.ext⟩
  ·replace h := bif_f h hg58
   rw [hg58] at hF
   refine runCC (rest := []) (obs := [.run [⟨50, false, false⟩] (Instr.loadAt 23 (pb b7)) (p0.ag), .run [⟨50, false, false⟩] (Instr.loadAt 23 (pb b7)) (p0.ag)]) [10, 11, 14, 15] [(1, ⟨[], sv ad1 p1 cap2⟩), (2, ⟨[], sv ad4 p2 cap5⟩), (3, ⟨[], iv p3⟩), (4, ⟨[], pb b7⟩), (50, ⟨[], .bool false⟩), (51, ⟨[⟨50, false, false⟩], p0.ag⟩), (52, ⟨[⟨50, false, false⟩], sv ad1 p1 cap2⟩), (55, ⟨[⟨50, false, false⟩], p0.ag⟩), (56, ⟨[⟨50, false, false⟩], sv ad1 p1 cap2⟩)] hF (by kernel_rfl) (by kernel_rfl) (ocons (obN (us := p0.cells) (by kernel_rfl) (fun _ hd => (hd.1.blk (i := 1) rfl).cells rfl)) (ocons (obN (us := p0.cells) (by kernel_rfl) (fun _ hd => (hd.1.blk (i := 1) rfl).cells rfl)) onil)) ⟨by kernel_rfl⟩ (by kernel_rfl) fun a hF => ?_
   replace hF : Fr 95 [] [(1, sv ad1 p1 cap2), (2, sv ad4 p2 cap5), (3, iv p3), (4, pb b7), (50, .bool false), (51, p0.ag), (52, sv ad1 p1 cap2), (55, p0.ag), (56, sv ad1 p1 cap2)] a := hF
   refine WRun.fin ?_
   refine all_cons ?_ all_nil
   replace h := bindS h
   obtain ⟨y60, hy60, h⟩ := h
   refine callK (f := 19) (args := #[sv ad1 p1 cap2]) (R := fun v w2 => ∃ ad61 cap62, v = sv ad61 y60 cap62 ∧ St w [arr 34 8 plan_Job.cells ad61 y60.length cap62 y60] w2) (fun v59 => [(1, sv ad1 p1 cap2), (2, sv ad4 p2 cap5), (3, iv p3), (4, pb b7), (50, .bool false), (51, p0.ag), (53, v59), (55, p0.ag), (56, sv ad1 p1 cap2)]) hF (by kernel_rfl) ⟨by kernel_rfl⟩ (Calls.mono (law06_jobs_ok F p1 _ hy60 (memOf w) w (memOf_at w) (hA3.mono (FrzAt.le_mem (hS.frz (i := 2) rfl hlow)))) (by rintro e w2 ⟨ad61, cap62, rfl, h⟩; exact ⟨_, rfl, ad61, cap62, rfl, h⟩)) (fun _ => ⟨by kernel_rfl⟩) ?_
   rintro v59 w a ⟨ad61, cap62, rfl, hQ⟩ hF
   replace hS : St w0 [arr 34 8 plan_Job.cells ad61 y60.length cap62 y60, arr 3 1 fI ad53 y52.1.length cap54 y52.1, blk b7 23 p0.ar, fz w0 ν46] w := hS.madeL hQ
   refine ⟨⟨St.pick [1, 2] (by decide) hS, (hS.frz (i := 3) rfl hlow)⟩, ?_⟩
   refine WT.s [] [13] (by kernel_rfl) (by kernel_rfl) ?_
   refine WRun.fin ?_
   refine all_cons ?_ all_nil
   replace h := bindS h
   obtain ⟨y64, hy64, h⟩ := h
   refine callK (f := 22) (args := #[p0.ag, sv ad61 y60 cap62]) (R := fun v w2 => v = iv y64 ∧ Ext w w2) (fun v63 => [(1, sv ad1 p1 cap2), (2, sv ad4 p2 cap5), (3, iv p3), (4, pb b7), (50, .bool false), (54, v63), (55, p0.ag), (56, sv ad1 p1 cap2)]) hF (by kernel_rfl) ⟨by kernel_rfl⟩ (Calls.mono (plan_Check_ok F (plan_Radar.mk p0.Rays p0.Turn p0.Move p0.Duty) y60 _ hy64 (memOf w) w (memOf_at w) (Arr.toM (hS.arr (i := 0) rfl))) (fun e w2 h => ⟨_, h.1, rfl, h.2⟩)) (fun _ => ⟨by kernel_rfl⟩) ?_
   rintro v63 w a ⟨rfl, hx⟩ hF
   replace hS := hS.later hx
   refine ⟨⟨St.pick [1, 2] (by decide) hS, (hS.frz (i := 3) rfl hlow)⟩, ?_⟩
   refine WT.s [] [16] (by kernel_rfl) (by kernel_rfl) ?_
   refine WRun.fin ?_
   refine all_cons ?_ all_nil
   replace h := bindS h
   obtain ⟨y66, hy66, h⟩ := h
   refine callK (f := 23) (args := #[p0.ag, sv ad1 p1 cap2]) (R := fun v w2 => v = iv y66 ∧ Ext w w2) (fun v65 => [(1, sv ad1 p1 cap2), (2, sv ad4 p2 cap5), (3, iv p3), (4, pb b7), (50, .bool false), (54, iv y64), (57, v65)]) hF (by kernel_rfl) ⟨by kernel_rfl⟩ (Calls.mono (ref06_Check_ok F p0 p1 _ hy66 (memOf w) w (memOf_at w) (hA3.mono (FrzAt.le_mem (hS.frz (i := 3) rfl hlow)))) (fun e w2 h => ⟨_, h.1, rfl, h.2⟩)) (fun _ => ⟨by kernel_rfl⟩) ?_
   rintro v65 w a ⟨rfl, hx⟩ hF
   replace hS := hS.later hx
   refine ⟨⟨St.pick [1, 2] (by decide) hS, (hS.frz (i := 3) rfl hlow)⟩, ?_⟩
   refine WT.z [17, 18] (by kernel_rfl) ?_
   refine runC (rest := []) (obs := []) [17, 18] [(1, sv ad1 p1 cap2), (2, sv ad4 p2 cap5), (3, iv p3), (4, pb b7), (59, .bool (y64 != y66))] hF (by kernel_rfl) (by kernel_rfl) onil ⟨by kernel_rfl⟩ fun a hF => ?_
   refine WRun.fin ?_
   refine wfn rfl ?_
   refine econd hF rfl (fun hc => ?_) (fun hc => ?_)
   ·replace h := bif_t h hc
    refine esr ?_
    refine rn 1 1 [(8, .bool false)] hF fun a hF => ?_
    refine wfn rfl ?_
    refine wpIn_ret (ret_then <| fn_ret [.tmp 8] [.bool false] hF rfl ⟨rfl, trivial⟩ ?_)
    have hr_ := Option.some.inj h
    subst hr_
    exact ⟨rfl, hS.ext⟩
   ·replace h := bif_f h hc
    refine wpIn_skip (norm_then ?_)
    refine eseq ?_
    replace h := bindS h
    obtain ⟨y68, hy68, h⟩ := h
    replace h := bindS h
    obtain ⟨y72, hy72, h⟩ := h
    refine region_treeW 13 [2, 5] _ (D := fun w => St w0 [arr 34 8 plan_Job.cells ad61 y60.length cap62 y60, arr 3 1 fI ad53 y52.1.length cap54 y52.1, blk b7 23 p0.ar] w ∧ FrzAt ν46 w) (by kernel_rfl) (by kernel_rfl) hF.size (fun w hx => ?_) (fun _ _ h => h)
    replace hS := hS.later hx
    refine ⟨⟨St.pick [0, 1, 2] (by decide) hS, hS.frz (i := 3) rfl hlow⟩, ?_⟩
    have hcl77 := Frz.le_refl ν46
    refine WT.s [0, 1, 3, 4] [2] (by kernel_rfl) (by kernel_rfl) ?_
    refine runC (rest := []) (obs := [.run [] (Instr.loadAt 23 (pb b7)) (p0.ag)]) [0, 1, 3, 4] [(1, sv ad1 p1 cap2), (2, sv ad4 p2 cap5), (3, iv p3), (4, pb b7), (61, p0.ag), (62, sv ad1 p1 cap2), (64, sv ad4 p2 cap5), (65, iv p3)] hF (by kernel_rfl) (by kernel_rfl) (ocons (obN (us := p0.cells) (by kernel_rfl) (fun _ hd => (hd.1.blk (i := 2) rfl).cells rfl)) onil) ⟨by kernel_rfl⟩ fun a hF => ?_
    refine WRun.fin ?_
    refine all_cons ?_ (all_nil)
    refine callK (f := 19) (args := #[sv ad1 p1 cap2]) (R := fun v w2 => ∃ ad79 cap80, v = sv ad79 y68 cap80 ∧ St w [arr 34 8 plan_Job.cells ad79 y68.length cap80 y68] w2) (fun v78 => [(1, sv ad1 p1 cap2), (2, sv ad4 p2 cap5), (3, iv p3), (4, pb b7), (61, p0.ag), (63, v78), (64, sv ad4 p2 cap5), (65, iv p3)]) hF (by kernel_rfl) ⟨by kernel_rfl⟩ (Calls.mono (law06_jobs_ok F p1 _ hy68 (memOf w) w (memOf_at w) (hA3.mono (FrzAt.le_mem (hS.frz (i := 3) rfl hlow)))) (by rintro e w2 ⟨ad79, cap80, rfl, h⟩; exact ⟨_, rfl, ad79, cap80, rfl, h⟩)) (fun _ => ⟨by kernel_rfl⟩) ?_
    rintro v78 w a ⟨ad79, cap80, rfl, hQ⟩ hF
    replace hS : St w0 [arr 34 8 plan_Job.cells ad79 y68.length cap80 y68, arr 34 8 plan_Job.cells ad61 y60.length cap62 y60, arr 3 1 fI ad53 y52.1.length cap54 y52.1, blk b7 23 p0.ar, fz w0 ν46] w := hS.madeL hQ
    refine ⟨⟨St.pick [1, 2, 3] (by decide) hS, (hS.frz (i := 4) rfl hlow)⟩, ?_⟩
    refine WT.s [] [5] (by kernel_rfl) (by kernel_rfl) ?_
    refine WRun.fin ?_
    refine all_cons ?_ (all_nil)
    refine callK (f := 24) (args := #[p0.ag, sv ad79 y68 cap80, sv ad4 p2 cap5, iv p3]) (R := fun v w2 => v = .tuple #[iv y72.1, iv y72.2.1, iv y72.2.2] ∧ Ext w w2) (fun v81 => [(1, sv ad1 p1 cap2), (2, sv ad4 p2 cap5), (3, iv p3), (4, pb b7), (66, v81)]) hF (by kernel_rfl) ⟨by kernel_rfl⟩ (Calls.mono (plan_Where_ok F (plan_Radar.mk p0.Rays p0.Turn p0.Move p0.Duty) y68 p2 p3 _ hy72 (memOf w) w (memOf_at w) (Arr.toM (hS.arr (i := 0) rfl)) (hA6.mono (FrzAt.le_mem (hS.frz (i := 4) rfl hlow)))) (fun e w2 h => ⟨_, h.1, rfl, h.2⟩)) (fun _ => ⟨by kernel_rfl⟩) ?_
    rintro v81 w a ⟨rfl, hx⟩ hF
    replace hS := hS.later hx
    refine ⟨⟨St.pick [1, 2, 3] (by decide) hS, (hS.frz (i := 4) rfl hlow)⟩, ?_⟩
    refine WT.z [6, 7, 8, 9, 10, 11, 12] (by kernel_rfl) ?_
    refine runC (rest := []) (obs := []) [6, 7, 8, 9, 10, 11, 12] [(1, sv ad1 p1 cap2), (2, sv ad4 p2 cap5), (3, iv p3), (4, pb b7), (10, iv y72.2.2), (13, iv y72.1), (14, iv y72.2.1)] hF (by kernel_rfl) (by kernel_rfl) onil ⟨by kernel_rfl⟩ fun a hF => ?_
    refine WRun.fin ?_
    refine wfn rfl ?_
    refine esr ?_
    replace h := bindS h
    obtain ⟨y82, hy82, h⟩ := h
    refine rx 12 [.run [] (Instr.loadAt 23 (pb b7)) (p0.ag), .call [] 25 #[p0.ag, sv ad1 p1 cap2, sv ad4 p2 cap5, iv p3] (.tuple #[iv y82.1, iv y82.2.1, iv y82.2.2])] 12 [(10, iv y72.2.2), (12, iv y82.2.2), (13, iv y72.1), (14, iv y72.2.1), (15, iv y82.1), (16, iv y82.2.1)] hF (ocons (obN (us := p0.cells) (by kernel_rfl) (fun _ hd => ((hS.later hd).blk (i := 3) rfl).cells rfl)) (ocons (show Ob.ok _ Ext _ _ from fun hk w2 hd => ref06_Where_ok F p0 p1 p2 p3 _ ((fun _ => hy82) hk) _ w2 (memOf_at w2) (hA3.mono (FrzAt.le_mem ((hS.later hd).frz (i := 4) rfl hlow))) (hA6.mono (FrzAt.le_mem ((hS.later hd).frz (i := 4) rfl hlow)))) onil)) fun a w hF hx => ?_
    replace hS := hS.later hx
    refine wfn rfl ?_
    refine esr ?_
    replace h := bindS h
    obtain ⟨y83, hy83, h⟩ := h
    refine rx 17 [.call [⟨92, true, (bif (bif (y72.1 == y82.1) then (y72.2.1 == y82.2.1) else false) then (y72.2.2 == y82.2.2) else false)⟩] 17 #[] (.bool y83)] 17 [(8, .bool (bif (bif (bif (y72.1 == y82.1) then (y72.2.1 == y82.2.1) else false) then (y72.2.2 == y82.2.2) else false) then y83 else false))] hF (ocons (show Ob.ok _ Ext _ _ from fun hk w2 hd => law06_works_ok F  _ ((fun hk => gd_some hy83 hk) hk) _ w2 (memOf_at w2) ) onil) fun a w hF hx => ?_
    replace hS := hS.later hx
    refine wfn rfl ?_
    refine wpIn_ret (fn_ret [.tmp 8] [.bool (bif (bif (bif (y72.1 == y82.1) then (y72.2.1 == y82.2.1) else false) then (y72.2.2 == y82.2.2) else false) then y83 else false)] hF rfl ⟨rfl, trivial⟩ ?_)
    have hr_ := Option.some.inj h
    subst hr_
    exact ⟨rfl, hS.ext⟩
end Go.Proofs.Ytejffembnkojjaa
