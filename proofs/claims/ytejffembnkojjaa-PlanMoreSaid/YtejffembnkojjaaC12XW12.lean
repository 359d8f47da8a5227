/- Walks, written by program (wip/gen/dec.py). -/
import Derived.Test.YtejffembnkojjaaC12XD
import Derived.Test.YtejffembnkojjaaProg
import Derived.Test.YtejffembnkojjaaC12XW0
import Derived.Test.YtejffembnkojjaaC12XW1
import Derived.Test.YtejffembnkojjaaC12XW6
import Derived.Test.YtejffembnkojjaaC12XW8
import Derived.Test.YtejffembnkojjaaC12XW11
namespace Go.Proofs.Ytejffembnkojjaa
open Go Go.RowKit Go.Eng
set_option maxRecDepth 10000
set_option maxHeartbeats 4000000
set_option linter.unusedVariables false
set_option linter.unusedSimpArgs false
theorem law06_PlanMore_ok (F : Nat) (p0 : law06_Desk) (p1 : (List Int)) (p2 : law06_Wish) (p3 : Int) (res : Bool) (h : law06_PlanMore F p0 p1 p2 p3 = some res) (μ : Frz) (w0 : World) (hm : FrzAt μ w0) {ad1 : Option Addr} {cap2 : Nat} {ad4 : Option Addr} {cap5 : Nat} (hA3 : ArrM μ 6 law06_Wish.cells ad1 cap2 p0.Jobs) (hA6 : ArrM μ 1 (fK .u8) ad4 cap5 p1) : Calls Try.prog 12 #[.agg #[.int .u8 p0.Rays, .int .u8 p0.Turn, .int .u8 p0.Move, .int .u8 p0.Duty, sv ad1 p0.Jobs cap2], sv ad4 p1 cap5, p2.ag, .int .u16 p3] w0 (fun e w => e = .returned (.bool res) ∧ Ext w0 w) := by
 obtain ⟨hlow, hS⟩ := hm.init
 have hext := Frz.ext_refl w0.heap.size μ
 rw [law06_PlanMore] at h
 refine fn_enterW Try.func12 rfl 98 [(0, .agg #[.int .u8 p0.Rays, .int .u8 p0.Turn, .int .u8 p0.Move, .int .u8 p0.Duty, sv ad1 p0.Jobs cap2]), (1, sv ad4 p1 cap5), (2, p2.ag), (3, .int .u16 p3)] rfl rfl (by kernel_rfl) fun a w hw hF => ?_
 replace hS : St w0 [fz w0 μ] w := by rw [hw]; exact hS
 clear hw
 refine esr ?_
 refine SK.wi (boxK (t := 75) (fun b7 => [(1, sv ad4 p1 cap5), (2, p2.ag), (3, .int .u16 p3), (4, pb b7)]) (.agg #[.int .u8 p0.Rays, .int .u8 p0.Turn, .int .u8 p0.Move, .int .u8 p0.Duty, sv ad1 p0.Jobs cap2]) #[.int .u8 p0.Rays, .int .u8 p0.Turn, .int .u8 p0.Move, .int .u8 p0.Duty, sv ad1 p0.Jobs cap2] hF hS (by kernel_rfl) ⟨by kernel_rfl⟩ (by kernel_rfl) (fun _ => ⟨by kernel_rfl⟩) fun b7 w a hF hS => ?_)
 refine SK.wi (boxK (t := 90) (fun b8 => [(1, sv ad4 p1 cap5), (3, .int .u16 p3), (4, pb b7), (6, pb b8)]) (p2.ag) p2.ar hF hS (by kernel_rfl) ⟨by kernel_rfl⟩ (by kernel_rfl) (fun _ => ⟨by kernel_rfl⟩) fun b8 w a hF hS => ?_)
 refine SK.wi (boxK (t := 88) (fun b9 => [(1, sv ad4 p1 cap5), (4, pb b7), (6, pb b8), (7, pb b9)]) (.int .u16 p3) #[.int .u16 p3] hF hS (by kernel_rfl) ⟨by kernel_rfl⟩ (by kernel_rfl) (fun _ => ⟨by kernel_rfl⟩) fun b9 w a hF hS => ?_)
 refine rn 1 4 [(1, sv ad4 p1 cap5), (4, pb b7), (6, pb b8), (7, pb b9)] hF fun a hF => ?_
 refine wfn rfl ?_
 refine eseq ?_
 refine esr ?_
 refine rn 8 8 [(1, sv ad4 p1 cap5), (4, pb b7), (6, pb b8), (7, pb b9), (24, .bool (bif (decide ((ln p1) < 1)) then true else (decide ((ln p1) > 12))))] hF fun a hF => ?_
 refine wfn rfl ?_
 refine econd hF rfl (fun hc => ?_) (fun hc => ?_)
 ·replace h := bif_t h hc
  refine esr ?_
  replace h := bindS h
  obtain ⟨y10, hy10, h⟩ := h
  refine rx 2 [.call [] 17 #[] (.bool y10)] 2 [(8, .bool y10)] hF (ocons (show Ob.ok _ Ext _ _ from fun hk w2 hd => law06_works_ok F  _ ((fun _ => hy10) hk) _ w2 (memOf_at w2) ) onil) fun a w hF hx => ?_
  replace hS := hS.later hx
  refine wfn rfl ?_
  refine wpIn_ret (ret_then <| fn_ret [.tmp 8] [.bool y10] hF rfl ⟨rfl, trivial⟩ ?_)
  have hr_ := Option.some.inj h
  subst hr_
  exact ⟨rfl, hS.ext⟩
 ·replace h := bif_f h hc
  refine wpIn_skip (norm_then ?_)
  refine eseq ?_
  replace h := bindS h
  obtain ⟨y12, hy12, h⟩ := h
  replace h := bindS h
  obtain ⟨y14, hy14, h⟩ := h
  refine region_treeW 6 [1, 3, 4, 5] (fun a w => ∃ (b76 : Nat) (b77 : Nat) (ad78 : Option Addr) (cap79 : Nat), Fr 98 [] [(1, sv ad4 p1 cap5), (6, pb b8), (7, pb b9), (9, pb b76), (10, pb b77), (27, y12.ag), (29, sv ad78 y14 cap79)] a ∧ St w0 [blk b76 31 #[iv 0, iv 0, iv 0, iv 0], blk b77 43 #[.slice none 0 0], arr 34 8 plan_Job.cells ad78 y14.length cap79 y14, blk b9 88 #[.int .u16 p3], blk b8 90 p2.ar, blk b7 75 #[.int .u8 p0.Rays, .int .u8 p0.Turn, .int .u8 p0.Move, .int .u8 p0.Duty, sv ad1 p0.Jobs cap2], fz w0 μ] w) (D := fun w => St w0 [blk b9 88 #[.int .u16 p3], blk b8 90 p2.ar, blk b7 75 #[.int .u8 p0.Rays, .int .u8 p0.Turn, .int .u8 p0.Move, .int .u8 p0.Duty, sv ad1 p0.Jobs cap2]] w ∧ FrzAt μ w) (by kernel_rfl) (by kernel_rfl) hF.size (fun w hx => ?_) ?_
  ·skip
   replace hS := hS.later hx
   refine ⟨⟨St.pick [0, 1, 2] (by decide) hS, hS.frz (i := 3) rfl hlow⟩, ?_⟩
   have hcl80 := Frz.le_refl μ
   refine WT.s [0, 2] [1, 4, 5] (by kernel_rfl) (by kernel_rfl) ?_
   refine runC (rest := []) (obs := [.run [] (Instr.loadAt 75 (pb b7)) (.agg #[.int .u8 p0.Rays, .int .u8 p0.Turn, .int .u8 p0.Move, .int .u8 p0.Duty, sv ad1 p0.Jobs cap2]), .run [] (Instr.loadAt 75 (pb b7)) (.agg #[.int .u8 p0.Rays, .int .u8 p0.Turn, .int .u8 p0.Move, .int .u8 p0.Duty, sv ad1 p0.Jobs cap2])]) [0, 2] [(1, sv ad4 p1 cap5), (6, pb b8), (7, pb b9), (26, .agg #[.int .u8 p0.Rays, .int .u8 p0.Turn, .int .u8 p0.Move, .int .u8 p0.Duty, sv ad1 p0.Jobs cap2]), (28, .agg #[.int .u8 p0.Rays, .int .u8 p0.Turn, .int .u8 p0.Move, .int .u8 p0.Duty, sv ad1 p0.Jobs cap2])] hF (by kernel_rfl) (by kernel_rfl) (ocons (obN (us := [.int .u8 p0.Rays, .int .u8 p0.Turn, .int .u8 p0.Move, .int .u8 p0.Duty, sv ad1 p0.Jobs cap2]) (by kernel_rfl) (fun _ hd => (hd.1.blk (i := 2) rfl).cells rfl)) (ocons (obN (us := [.int .u8 p0.Rays, .int .u8 p0.Turn, .int .u8 p0.Move, .int .u8 p0.Duty, sv ad1 p0.Jobs cap2]) (by kernel_rfl) (fun _ hd => (hd.1.blk (i := 2) rfl).cells rfl)) onil)) ⟨by kernel_rfl⟩ fun a hF => ?_
   refine WRun.fin ?_
   refine all_cons ?_ (all_cons ?_ (all_cons ?_ (all_nil)))
   ·skip
    refine callK (f := 36) (args := #[.agg #[.int .u8 p0.Rays, .int .u8 p0.Turn, .int .u8 p0.Move, .int .u8 p0.Duty, sv ad1 p0.Jobs cap2]]) (R := fun v w2 => v = y12.ag ∧ Ext w w2) (fun v81 => [(1, sv ad4 p1 cap5), (6, pb b8), (7, pb b9), (27, v81), (28, .agg #[.int .u8 p0.Rays, .int .u8 p0.Turn, .int .u8 p0.Move, .int .u8 p0.Duty, sv ad1 p0.Jobs cap2])]) hF (by kernel_rfl) ⟨by kernel_rfl⟩ (Calls.mono (law06_Desk_radar_ok F p0 _ hy12 (memOf w) w (memOf_at w) (hA3.mono (FrzAt.le_mem (hS.frz (i := 3) rfl hlow)))) (fun e w2 h => ⟨_, h.1, rfl, h.2⟩)) (fun _ => ⟨by kernel_rfl⟩) ?_
    rintro v81 w a ⟨rfl, hx⟩ hF
    replace hS := hS.later hx
    refine ⟨⟨St.pick [0, 1, 2] (by decide) hS, (hS.frz (i := 3) rfl hlow)⟩, ?_⟩
    refine WT.s [] [3, 4, 5] (by kernel_rfl) (by kernel_rfl) ?_
    refine WRun.fin ?_
    refine all_cons ?_ (all_cons ?_ (all_cons ?_ (all_nil)))
    ·skip
     refine callK (f := 37) (args := #[.agg #[.int .u8 p0.Rays, .int .u8 p0.Turn, .int .u8 p0.Move, .int .u8 p0.Duty, sv ad1 p0.Jobs cap2]]) (R := fun v w2 => ∃ ad83 cap84, v = sv ad83 y14 cap84 ∧ St w [arr 34 8 plan_Job.cells ad83 y14.length cap84 y14] w2) (fun v82 => [(1, sv ad4 p1 cap5), (6, pb b8), (7, pb b9), (27, y12.ag), (29, v82)]) hF (by kernel_rfl) ⟨by kernel_rfl⟩ (Calls.mono (law06_Desk_jobs_ok F p0 _ hy14 (memOf w) w (memOf_at w) (hA3.mono (FrzAt.le_mem (hS.frz (i := 3) rfl hlow)))) (by rintro e w2 ⟨ad83, cap84, rfl, h⟩; exact ⟨_, rfl, ad83, cap84, rfl, h⟩)) (fun _ => ⟨by kernel_rfl⟩) ?_
     rintro v82 w a ⟨ad83, cap84, rfl, hQ⟩ hF
     replace hS : St w0 [arr 34 8 plan_Job.cells ad83 y14.length cap84 y14, blk b9 88 #[.int .u16 p3], blk b8 90 p2.ar, blk b7 75 #[.int .u8 p0.Rays, .int .u8 p0.Turn, .int .u8 p0.Move, .int .u8 p0.Duty, sv ad1 p0.Jobs cap2], fz w0 μ] w := hS.madeL hQ
     refine ⟨⟨St.pick [1, 2, 3] (by decide) hS, (hS.frz (i := 4) rfl hlow)⟩, ?_⟩
     refine WT.s [] [4, 5] (by kernel_rfl) (by kernel_rfl) ?_
     refine WRun.fin ?_
     refine all_cons ?_ (all_cons ?_ (all_nil))
     ·skip
      refine allocK (t := 31) (fun b85 => [(1, sv ad4 p1 cap5), (6, pb b8), (7, pb b9), (9, pb b85), (27, y12.ag), (29, sv ad83 y14 cap84)]) #[iv 0, iv 0, iv 0, iv 0] hF hS (by kernel_rfl) ⟨by kernel_rfl⟩ (by kernel_rfl) (fun _ => ⟨by kernel_rfl⟩) fun b85 w a hF hS => ⟨⟨St.pick [2, 3, 4] (by decide) hS, (hS.frz (i := 5) rfl hlow)⟩, ?_⟩
      refine WT.s [] [5] (by kernel_rfl) (by kernel_rfl) ?_
      refine WRun.fin ?_
      refine all_cons ?_ (all_nil)
      refine allocK (t := 43) (fun b86 => [(1, sv ad4 p1 cap5), (6, pb b8), (7, pb b9), (9, pb b85), (10, pb b86), (27, y12.ag), (29, sv ad83 y14 cap84)]) #[.slice none 0 0] hF hS (by kernel_rfl) ⟨by kernel_rfl⟩ (by kernel_rfl) (fun _ => ⟨by kernel_rfl⟩) fun b86 w a hF hS => ⟨⟨St.pick [3, 4, 5] (by decide) hS, (hS.frz (i := 6) rfl hlow)⟩, ?_⟩
      refine WT.z [] (by kernel_rfl) ?_
      refine WRun.fin ?_
      exact ⟨b85, b86, ad83, cap84, hF.sub (by kernel_rfl), St.pick [1, 0, 2, 3, 4, 5, 6] (by decide) hS⟩
     ·skip
      refine allocK (t := 43) (fun b87 => [(1, sv ad4 p1 cap5), (6, pb b8), (7, pb b9), (10, pb b87), (27, y12.ag), (29, sv ad83 y14 cap84)]) #[.slice none 0 0] hF hS (by kernel_rfl) ⟨by kernel_rfl⟩ (by kernel_rfl) (fun _ => ⟨by kernel_rfl⟩) fun b87 w a hF hS => ⟨⟨St.pick [2, 3, 4] (by decide) hS, (hS.frz (i := 5) rfl hlow)⟩, ?_⟩
      refine WT.s [] [4] (by kernel_rfl) (by kernel_rfl) ?_
      refine WRun.fin ?_
      refine all_cons ?_ (all_nil)
      refine allocK (t := 31) (fun b88 => [(1, sv ad4 p1 cap5), (6, pb b8), (7, pb b9), (9, pb b88), (10, pb b87), (27, y12.ag), (29, sv ad83 y14 cap84)]) #[iv 0, iv 0, iv 0, iv 0] hF hS (by kernel_rfl) ⟨by kernel_rfl⟩ (by kernel_rfl) (fun _ => ⟨by kernel_rfl⟩) fun b88 w a hF hS => ⟨⟨St.pick [3, 4, 5] (by decide) hS, (hS.frz (i := 6) rfl hlow)⟩, ?_⟩
      refine WT.z [] (by kernel_rfl) ?_
      refine WRun.fin ?_
      exact ⟨b88, b87, ad83, cap84, hF.sub (by kernel_rfl), St.pick [0, 1, 2, 3, 4, 5, 6] (by decide) hS⟩
    ·skip
     refine allocK (t := 31) (fun b89 => [(1, sv ad4 p1 cap5), (6, pb b8), (7, pb b9), (9, pb b89), (27, y12.ag), (28, .agg #[.int .u8 p0.Rays, .int .u8 p0.Turn, .int .u8 p0.Move, .int .u8 p0.Duty, sv ad1 p0.Jobs cap2])]) #[iv 0, iv 0, iv 0, iv 0] hF hS (by kernel_rfl) ⟨by kernel_rfl⟩ (by kernel_rfl) (fun _ => ⟨by kernel_rfl⟩) fun b89 w a hF hS => ⟨⟨St.pick [1, 2, 3] (by decide) hS, (hS.frz (i := 4) rfl hlow)⟩, ?_⟩
     refine WT.s [] [3, 5] (by kernel_rfl) (by kernel_rfl) ?_
     refine WRun.fin ?_
     refine all_cons ?_ (all_cons ?_ (all_nil))
     ·skip
      refine callK (f := 37) (args := #[.agg #[.int .u8 p0.Rays, .int .u8 p0.Turn, .int .u8 p0.Move, .int .u8 p0.Duty, sv ad1 p0.Jobs cap2]]) (R := fun v w2 => ∃ ad91 cap92, v = sv ad91 y14 cap92 ∧ St w [arr 34 8 plan_Job.cells ad91 y14.length cap92 y14] w2) (fun v90 => [(1, sv ad4 p1 cap5), (6, pb b8), (7, pb b9), (9, pb b89), (27, y12.ag), (29, v90)]) hF (by kernel_rfl) ⟨by kernel_rfl⟩ (Calls.mono (law06_Desk_jobs_ok F p0 _ hy14 (memOf w) w (memOf_at w) (hA3.mono (FrzAt.le_mem (hS.frz (i := 4) rfl hlow)))) (by rintro e w2 ⟨ad91, cap92, rfl, h⟩; exact ⟨_, rfl, ad91, cap92, rfl, h⟩)) (fun _ => ⟨by kernel_rfl⟩) ?_
      rintro v90 w a ⟨ad91, cap92, rfl, hQ⟩ hF
      replace hS : St w0 [arr 34 8 plan_Job.cells ad91 y14.length cap92 y14, blk b89 31 #[iv 0, iv 0, iv 0, iv 0], blk b9 88 #[.int .u16 p3], blk b8 90 p2.ar, blk b7 75 #[.int .u8 p0.Rays, .int .u8 p0.Turn, .int .u8 p0.Move, .int .u8 p0.Duty, sv ad1 p0.Jobs cap2], fz w0 μ] w := hS.madeL hQ
      refine ⟨⟨St.pick [2, 3, 4] (by decide) hS, (hS.frz (i := 5) rfl hlow)⟩, ?_⟩
      refine WT.s [] [5] (by kernel_rfl) (by kernel_rfl) ?_
      refine WRun.fin ?_
      refine all_cons ?_ (all_nil)
      refine allocK (t := 43) (fun b93 => [(1, sv ad4 p1 cap5), (6, pb b8), (7, pb b9), (9, pb b89), (10, pb b93), (27, y12.ag), (29, sv ad91 y14 cap92)]) #[.slice none 0 0] hF hS (by kernel_rfl) ⟨by kernel_rfl⟩ (by kernel_rfl) (fun _ => ⟨by kernel_rfl⟩) fun b93 w a hF hS => ⟨⟨St.pick [3, 4, 5] (by decide) hS, (hS.frz (i := 6) rfl hlow)⟩, ?_⟩
      refine WT.z [] (by kernel_rfl) ?_
      refine WRun.fin ?_
      exact ⟨b89, b93, ad91, cap92, hF.sub (by kernel_rfl), St.pick [2, 0, 1, 3, 4, 5, 6] (by decide) hS⟩
     ·skip
      refine allocK (t := 43) (fun b94 => [(1, sv ad4 p1 cap5), (6, pb b8), (7, pb b9), (9, pb b89), (10, pb b94), (27, y12.ag), (28, .agg #[.int .u8 p0.Rays, .int .u8 p0.Turn, .int .u8 p0.Move, .int .u8 p0.Duty, sv ad1 p0.Jobs cap2])]) #[.slice none 0 0] hF hS (by kernel_rfl) ⟨by kernel_rfl⟩ (by kernel_rfl) (fun _ => ⟨by kernel_rfl⟩) fun b94 w a hF hS => ⟨⟨St.pick [2, 3, 4] (by decide) hS, (hS.frz (i := 5) rfl hlow)⟩, ?_⟩
      refine WT.s [] [3] (by kernel_rfl) (by kernel_rfl) ?_
      refine WRun.fin ?_
      refine all_cons ?_ (all_nil)
      refine callK (f := 37) (args := #[.agg #[.int .u8 p0.Rays, .int .u8 p0.Turn, .int .u8 p0.Move, .int .u8 p0.Duty, sv ad1 p0.Jobs cap2]]) (R := fun v w2 => ∃ ad96 cap97, v = sv ad96 y14 cap97 ∧ St w [arr 34 8 plan_Job.cells ad96 y14.length cap97 y14] w2) (fun v95 => [(1, sv ad4 p1 cap5), (6, pb b8), (7, pb b9), (9, pb b89), (10, pb b94), (27, y12.ag), (29, v95)]) hF (by kernel_rfl) ⟨by kernel_rfl⟩ (Calls.mono (law06_Desk_jobs_ok F p0 _ hy14 (memOf w) w (memOf_at w) (hA3.mono (FrzAt.le_mem (hS.frz (i := 5) rfl hlow)))) (by rintro e w2 ⟨ad96, cap97, rfl, h⟩; exact ⟨_, rfl, ad96, cap97, rfl, h⟩)) (fun _ => ⟨by kernel_rfl⟩) ?_
      rintro v95 w a ⟨ad96, cap97, rfl, hQ⟩ hF
      replace hS : St w0 [arr 34 8 plan_Job.cells ad96 y14.length cap97 y14, blk b94 43 #[.slice none 0 0], blk b89 31 #[iv 0, iv 0, iv 0, iv 0], blk b9 88 #[.int .u16 p3], blk b8 90 p2.ar, blk b7 75 #[.int .u8 p0.Rays, .int .u8 p0.Turn, .int .u8 p0.Move, .int .u8 p0.Duty, sv ad1 p0.Jobs cap2], fz w0 μ] w := hS.madeL hQ
      refine ⟨⟨St.pick [3, 4, 5] (by decide) hS, (hS.frz (i := 6) rfl hlow)⟩, ?_⟩
      refine WT.z [] (by kernel_rfl) ?_
      refine WRun.fin ?_
      exact ⟨b89, b94, ad96, cap97, hF.sub (by kernel_rfl), St.pick [2, 1, 0, 3, 4, 5, 6] (by decide) hS⟩
    ·skip
     refine allocK (t := 43) (fun b98 => [(1, sv ad4 p1 cap5), (6, pb b8), (7, pb b9), (10, pb b98), (27, y12.ag), (28, .agg #[.int .u8 p0.Rays, .int .u8 p0.Turn, .int .u8 p0.Move, .int .u8 p0.Duty, sv ad1 p0.Jobs cap2])]) #[.slice none 0 0] hF hS (by kernel_rfl) ⟨by kernel_rfl⟩ (by kernel_rfl) (fun _ => ⟨by kernel_rfl⟩) fun b98 w a hF hS => ⟨⟨St.pick [1, 2, 3] (by decide) hS, (hS.frz (i := 4) rfl hlow)⟩, ?_⟩
     refine WT.s [] [3, 4] (by kernel_rfl) (by kernel_rfl) ?_
     refine WRun.fin ?_
     refine all_cons ?_ (all_cons ?_ (all_nil))
     ·skip
      refine callK (f := 37) (args := #[.agg #[.int .u8 p0.Rays, .int .u8 p0.Turn, .int .u8 p0.Move, .int .u8 p0.Duty, sv ad1 p0.Jobs cap2]]) (R := fun v w2 => ∃ ad100 cap101, v = sv ad100 y14 cap101 ∧ St w [arr 34 8 plan_Job.cells ad100 y14.length cap101 y14] w2) (fun v99 => [(1, sv ad4 p1 cap5), (6, pb b8), (7, pb b9), (10, pb b98), (27, y12.ag), (29, v99)]) hF (by kernel_rfl) ⟨by kernel_rfl⟩ (Calls.mono (law06_Desk_jobs_ok F p0 _ hy14 (memOf w) w (memOf_at w) (hA3.mono (FrzAt.le_mem (hS.frz (i := 4) rfl hlow)))) (by rintro e w2 ⟨ad100, cap101, rfl, h⟩; exact ⟨_, rfl, ad100, cap101, rfl, h⟩)) (fun _ => ⟨by kernel_rfl⟩) ?_
      rintro v99 w a ⟨ad100, cap101, rfl, hQ⟩ hF
      replace hS : St w0 [arr 34 8 plan_Job.cells ad100 y14.length cap101 y14, blk b98 43 #[.slice none 0 0], blk b9 88 #[.int .u16 p3], blk b8 90 p2.ar, blk b7 75 #[.int .u8 p0.Rays, .int .u8 p0.Turn, .int .u8 p0.Move, .int .u8 p0.Duty, sv ad1 p0.Jobs cap2], fz w0 μ] w := hS.madeL hQ
      refine ⟨⟨St.pick [2, 3, 4] (by decide) hS, (hS.frz (i := 5) rfl hlow)⟩, ?_⟩
      refine WT.s [] [4] (by kernel_rfl) (by kernel_rfl) ?_
      refine WRun.fin ?_
      refine all_cons ?_ (all_nil)
      refine allocK (t := 31) (fun b102 => [(1, sv ad4 p1 cap5), (6, pb b8), (7, pb b9), (9, pb b102), (10, pb b98), (27, y12.ag), (29, sv ad100 y14 cap101)]) #[iv 0, iv 0, iv 0, iv 0] hF hS (by kernel_rfl) ⟨by kernel_rfl⟩ (by kernel_rfl) (fun _ => ⟨by kernel_rfl⟩) fun b102 w a hF hS => ⟨⟨St.pick [3, 4, 5] (by decide) hS, (hS.frz (i := 6) rfl hlow)⟩, ?_⟩
      refine WT.z [] (by kernel_rfl) ?_
      refine WRun.fin ?_
      exact ⟨b102, b98, ad100, cap101, hF.sub (by kernel_rfl), St.pick [0, 2, 1, 3, 4, 5, 6] (by decide) hS⟩
     ·skip
      refine allocK (t := 31) (fun b103 => [(1, sv ad4 p1 cap5), (6, pb b8), (7, pb b9), (9, pb b103), (10, pb b98), (27, y12.ag), (28, .agg #[.int .u8 p0.Rays, .int .u8 p0.Turn, .int .u8 p0.Move, .int .u8 p0.Duty, sv ad1 p0.Jobs cap2])]) #[iv 0, iv 0, iv 0, iv 0] hF hS (by kernel_rfl) ⟨by kernel_rfl⟩ (by kernel_rfl) (fun _ => ⟨by kernel_rfl⟩) fun b103 w a hF hS => ⟨⟨St.pick [2, 3, 4] (by decide) hS, (hS.frz (i := 5) rfl hlow)⟩, ?_⟩
      refine WT.s [] [3] (by kernel_rfl) (by kernel_rfl) ?_
      refine WRun.fin ?_
      refine all_cons ?_ (all_nil)
      refine callK (f := 37) (args := #[.agg #[.int .u8 p0.Rays, .int .u8 p0.Turn, .int .u8 p0.Move, .int .u8 p0.Duty, sv ad1 p0.Jobs cap2]]) (R := fun v w2 => ∃ ad105 cap106, v = sv ad105 y14 cap106 ∧ St w [arr 34 8 plan_Job.cells ad105 y14.length cap106 y14] w2) (fun v104 => [(1, sv ad4 p1 cap5), (6, pb b8), (7, pb b9), (9, pb b103), (10, pb b98), (27, y12.ag), (29, v104)]) hF (by kernel_rfl) ⟨by kernel_rfl⟩ (Calls.mono (law06_Desk_jobs_ok F p0 _ hy14 (memOf w) w (memOf_at w) (hA3.mono (FrzAt.le_mem (hS.frz (i := 5) rfl hlow)))) (by rintro e w2 ⟨ad105, cap106, rfl, h⟩; exact ⟨_, rfl, ad105, cap106, rfl, h⟩)) (fun _ => ⟨by kernel_rfl⟩) ?_
      rintro v104 w a ⟨ad105, cap106, rfl, hQ⟩ hF
      replace hS : St w0 [arr 34 8 plan_Job.cells ad105 y14.length cap106 y14, blk b103 31 #[iv 0, iv 0, iv 0, iv 0], blk b98 43 #[.slice none 0 0], blk b9 88 #[.int .u16 p3], blk b8 90 p2.ar, blk b7 75 #[.int .u8 p0.Rays, .int .u8 p0.Turn, .int .u8 p0.Move, .int .u8 p0.Duty, sv ad1 p0.Jobs cap2], fz w0 μ] w := hS.madeL hQ
      refine ⟨⟨St.pick [3, 4, 5] (by decide) hS, (hS.frz (i := 6) rfl hlow)⟩, ?_⟩
      refine WT.z [] (by kernel_rfl) ?_
      refine WRun.fin ?_
      exact ⟨b103, b98, ad105, cap106, hF.sub (by kernel_rfl), St.pick [1, 2, 0, 3, 4, 5, 6] (by decide) hS⟩
   ·skip
    refine allocK (t := 31) (fun b107 => [(1, sv ad4 p1 cap5), (6, pb b8), (7, pb b9), (9, pb b107), (26, .agg #[.int .u8 p0.Rays, .int .u8 p0.Turn, .int .u8 p0.Move, .int .u8 p0.Duty, sv ad1 p0.Jobs cap2]), (28, .agg #[.int .u8 p0.Rays, .int .u8 p0.Turn, .int .u8 p0.Move, .int .u8 p0.Duty, sv ad1 p0.Jobs cap2])]) #[iv 0, iv 0, iv 0, iv 0] hF hS (by kernel_rfl) ⟨by kernel_rfl⟩ (by kernel_rfl) (fun _ => ⟨by kernel_rfl⟩) fun b107 w a hF hS => ⟨⟨St.pick [1, 2, 3] (by decide) hS, (hS.frz (i := 4) rfl hlow)⟩, ?_⟩
    refine WT.s [] [1, 5] (by kernel_rfl) (by kernel_rfl) ?_
    refine WRun.fin ?_
    refine all_cons ?_ (all_cons ?_ (all_nil))
    ·skip
     refine callK (f := 36) (args := #[.agg #[.int .u8 p0.Rays, .int .u8 p0.Turn, .int .u8 p0.Move, .int .u8 p0.Duty, sv ad1 p0.Jobs cap2]]) (R := fun v w2 => v = y12.ag ∧ Ext w w2) (fun v108 => [(1, sv ad4 p1 cap5), (6, pb b8), (7, pb b9), (9, pb b107), (27, v108), (28, .agg #[.int .u8 p0.Rays, .int .u8 p0.Turn, .int .u8 p0.Move, .int .u8 p0.Duty, sv ad1 p0.Jobs cap2])]) hF (by kernel_rfl) ⟨by kernel_rfl⟩ (Calls.mono (law06_Desk_radar_ok F p0 _ hy12 (memOf w) w (memOf_at w) (hA3.mono (FrzAt.le_mem (hS.frz (i := 4) rfl hlow)))) (fun e w2 h => ⟨_, h.1, rfl, h.2⟩)) (fun _ => ⟨by kernel_rfl⟩) ?_
     rintro v108 w a ⟨rfl, hx⟩ hF
     replace hS := hS.later hx
     refine ⟨⟨St.pick [1, 2, 3] (by decide) hS, (hS.frz (i := 4) rfl hlow)⟩, ?_⟩
     refine WT.s [] [3, 5] (by kernel_rfl) (by kernel_rfl) ?_
     refine WRun.fin ?_
     refine all_cons ?_ (all_cons ?_ (all_nil))
     ·skip
      refine callK (f := 37) (args := #[.agg #[.int .u8 p0.Rays, .int .u8 p0.Turn, .int .u8 p0.Move, .int .u8 p0.Duty, sv ad1 p0.Jobs cap2]]) (R := fun v w2 => ∃ ad110 cap111, v = sv ad110 y14 cap111 ∧ St w [arr 34 8 plan_Job.cells ad110 y14.length cap111 y14] w2) (fun v109 => [(1, sv ad4 p1 cap5), (6, pb b8), (7, pb b9), (9, pb b107), (27, y12.ag), (29, v109)]) hF (by kernel_rfl) ⟨by kernel_rfl⟩ (Calls.mono (law06_Desk_jobs_ok F p0 _ hy14 (memOf w) w (memOf_at w) (hA3.mono (FrzAt.le_mem (hS.frz (i := 4) rfl hlow)))) (by rintro e w2 ⟨ad110, cap111, rfl, h⟩; exact ⟨_, rfl, ad110, cap111, rfl, h⟩)) (fun _ => ⟨by kernel_rfl⟩) ?_
      rintro v109 w a ⟨ad110, cap111, rfl, hQ⟩ hF
      replace hS : St w0 [arr 34 8 plan_Job.cells ad110 y14.length cap111 y14, blk b107 31 #[iv 0, iv 0, iv 0, iv 0], blk b9 88 #[.int .u16 p3], blk b8 90 p2.ar, blk b7 75 #[.int .u8 p0.Rays, .int .u8 p0.Turn, .int .u8 p0.Move, .int .u8 p0.Duty, sv ad1 p0.Jobs cap2], fz w0 μ] w := hS.madeL hQ
      refine ⟨⟨St.pick [2, 3, 4] (by decide) hS, (hS.frz (i := 5) rfl hlow)⟩, ?_⟩
      refine WT.s [] [5] (by kernel_rfl) (by kernel_rfl) ?_
      refine WRun.fin ?_
      refine all_cons ?_ (all_nil)
      refine allocK (t := 43) (fun b112 => [(1, sv ad4 p1 cap5), (6, pb b8), (7, pb b9), (9, pb b107), (10, pb b112), (27, y12.ag), (29, sv ad110 y14 cap111)]) #[.slice none 0 0] hF hS (by kernel_rfl) ⟨by kernel_rfl⟩ (by kernel_rfl) (fun _ => ⟨by kernel_rfl⟩) fun b112 w a hF hS => ⟨⟨St.pick [3, 4, 5] (by decide) hS, (hS.frz (i := 6) rfl hlow)⟩, ?_⟩
      refine WT.z [] (by kernel_rfl) ?_
      refine WRun.fin ?_
      exact ⟨b107, b112, ad110, cap111, hF.sub (by kernel_rfl), St.pick [2, 0, 1, 3, 4, 5, 6] (by decide) hS⟩
     ·skip
      refine allocK (t := 43) (fun b113 => [(1, sv ad4 p1 cap5), (6, pb b8), (7, pb b9), (9, pb b107), (10, pb b113), (27, y12.ag), (28, .agg #[.int .u8 p0.Rays, .int .u8 p0.Turn, .int .u8 p0.Move, .int .u8 p0.Duty, sv ad1 p0.Jobs cap2])]) #[.slice none 0 0] hF hS (by kernel_rfl) ⟨by kernel_rfl⟩ (by kernel_rfl) (fun _ => ⟨by kernel_rfl⟩) fun b113 w a hF hS => ⟨⟨St.pick [2, 3, 4] (by decide) hS, (hS.frz (i := 5) rfl hlow)⟩, ?_⟩
      refine WT.s [] [3] (by kernel_rfl) (by kernel_rfl) ?_
      refine WRun.fin ?_
      refine all_cons ?_ (all_nil)
      refine callK (f := 37) (args := #[.agg #[.int .u8 p0.Rays, .int .u8 p0.Turn, .int .u8 p0.Move, .int .u8 p0.Duty, sv ad1 p0.Jobs cap2]]) (R := fun v w2 => ∃ ad115 cap116, v = sv ad115 y14 cap116 ∧ St w [arr 34 8 plan_Job.cells ad115 y14.length cap116 y14] w2) (fun v114 => [(1, sv ad4 p1 cap5), (6, pb b8), (7, pb b9), (9, pb b107), (10, pb b113), (27, y12.ag), (29, v114)]) hF (by kernel_rfl) ⟨by kernel_rfl⟩ (Calls.mono (law06_Desk_jobs_ok F p0 _ hy14 (memOf w) w (memOf_at w) (hA3.mono (FrzAt.le_mem (hS.frz (i := 5) rfl hlow)))) (by rintro e w2 ⟨ad115, cap116, rfl, h⟩; exact ⟨_, rfl, ad115, cap116, rfl, h⟩)) (fun _ => ⟨by kernel_rfl⟩) ?_
      rintro v114 w a ⟨ad115, cap116, rfl, hQ⟩ hF
      replace hS : St w0 [arr 34 8 plan_Job.cells ad115 y14.length cap116 y14, blk b113 43 #[.slice none 0 0], blk b107 31 #[iv 0, iv 0, iv 0, iv 0], blk b9 88 #[.int .u16 p3], blk b8 90 p2.ar, blk b7 75 #[.int .u8 p0.Rays, .int .u8 p0.Turn, .int .u8 p0.Move, .int .u8 p0.Duty, sv ad1 p0.Jobs cap2], fz w0 μ] w := hS.madeL hQ
      refine ⟨⟨St.pick [3, 4, 5] (by decide) hS, (hS.frz (i := 6) rfl hlow)⟩, ?_⟩
      refine WT.z [] (by kernel_rfl) ?_
      refine WRun.fin ?_
      exact ⟨b107, b113, ad115, cap116, hF.sub (by kernel_rfl), St.pick [2, 1, 0, 3, 4, 5, 6] (by decide) hS⟩
    ·skip
     refine allocK (t := 43) (fun b117 => [(1, sv ad4 p1 cap5), (6, pb b8), (7, pb b9), (9, pb b107), (10, pb b117), (26, .agg #[.int .u8 p0.Rays, .int .u8 p0.Turn, .int .u8 p0.Move, .int .u8 p0.Duty, sv ad1 p0.Jobs cap2]), (28, .agg #[.int .u8 p0.Rays, .int .u8 p0.Turn, .int .u8 p0.Move, .int .u8 p0.Duty, sv ad1 p0.Jobs cap2])]) #[.slice none 0 0] hF hS (by kernel_rfl) ⟨by kernel_rfl⟩ (by kernel_rfl) (fun _ => ⟨by kernel_rfl⟩) fun b117 w a hF hS => ⟨⟨St.pick [2, 3, 4] (by decide) hS, (hS.frz (i := 5) rfl hlow)⟩, ?_⟩
     refine WT.s [] [1] (by kernel_rfl) (by kernel_rfl) ?_
     refine WRun.fin ?_
     refine all_cons ?_ (all_nil)
     refine callK (f := 36) (args := #[.agg #[.int .u8 p0.Rays, .int .u8 p0.Turn, .int .u8 p0.Move, .int .u8 p0.Duty, sv ad1 p0.Jobs cap2]]) (R := fun v w2 => v = y12.ag ∧ Ext w w2) (fun v118 => [(1, sv ad4 p1 cap5), (6, pb b8), (7, pb b9), (9, pb b107), (10, pb b117), (27, v118), (28, .agg #[.int .u8 p0.Rays, .int .u8 p0.Turn, .int .u8 p0.Move, .int .u8 p0.Duty, sv ad1 p0.Jobs cap2])]) hF (by kernel_rfl) ⟨by kernel_rfl⟩ (Calls.mono (law06_Desk_radar_ok F p0 _ hy12 (memOf w) w (memOf_at w) (hA3.mono (FrzAt.le_mem (hS.frz (i := 5) rfl hlow)))) (fun e w2 h => ⟨_, h.1, rfl, h.2⟩)) (fun _ => ⟨by kernel_rfl⟩) ?_
     rintro v118 w a ⟨rfl, hx⟩ hF
     replace hS := hS.later hx
     refine ⟨⟨St.pick [2, 3, 4] (by decide) hS, (hS.frz (i := 5) rfl hlow)⟩, ?_⟩
     refine WT.s [] [3] (by kernel_rfl) (by kernel_rfl) ?_
     refine WRun.fin ?_
     refine all_cons ?_ (all_nil)
     refine callK (f := 37) (args := #[.agg #[.int .u8 p0.Rays, .int .u8 p0.Turn, .int .u8 p0.Move, .int .u8 p0.Duty, sv ad1 p0.Jobs cap2]]) (R := fun v w2 => ∃ ad120 cap121, v = sv ad120 y14 cap121 ∧ St w [arr 34 8 plan_Job.cells ad120 y14.length cap121 y14] w2) (fun v119 => [(1, sv ad4 p1 cap5), (6, pb b8), (7, pb b9), (9, pb b107), (10, pb b117), (27, y12.ag), (29, v119)]) hF (by kernel_rfl) ⟨by kernel_rfl⟩ (Calls.mono (law06_Desk_jobs_ok F p0 _ hy14 (memOf w) w (memOf_at w) (hA3.mono (FrzAt.le_mem (hS.frz (i := 5) rfl hlow)))) (by rintro e w2 ⟨ad120, cap121, rfl, h⟩; exact ⟨_, rfl, ad120, cap121, rfl, h⟩)) (fun _ => ⟨by kernel_rfl⟩) ?_
     rintro v119 w a ⟨ad120, cap121, rfl, hQ⟩ hF
     replace hS : St w0 [arr 34 8 plan_Job.cells ad120 y14.length cap121 y14, blk b117 43 #[.slice none 0 0], blk b107 31 #[iv 0, iv 0, iv 0, iv 0], blk b9 88 #[.int .u16 p3], blk b8 90 p2.ar, blk b7 75 #[.int .u8 p0.Rays, .int .u8 p0.Turn, .int .u8 p0.Move, .int .u8 p0.Duty, sv ad1 p0.Jobs cap2], fz w0 μ] w := hS.madeL hQ
     refine ⟨⟨St.pick [3, 4, 5] (by decide) hS, (hS.frz (i := 6) rfl hlow)⟩, ?_⟩
     refine WT.z [] (by kernel_rfl) ?_
     refine WRun.fin ?_
     exact ⟨b107, b117, ad120, cap121, hF.sub (by kernel_rfl), St.pick [2, 1, 0, 3, 4, 5, 6] (by decide) hS⟩
   ·skip
    refine allocK (t := 43) (fun b122 => [(1, sv ad4 p1 cap5), (6, pb b8), (7, pb b9), (10, pb b122), (26, .agg #[.int .u8 p0.Rays, .int .u8 p0.Turn, .int .u8 p0.Move, .int .u8 p0.Duty, sv ad1 p0.Jobs cap2]), (28, .agg #[.int .u8 p0.Rays, .int .u8 p0.Turn, .int .u8 p0.Move, .int .u8 p0.Duty, sv ad1 p0.Jobs cap2])]) #[.slice none 0 0] hF hS (by kernel_rfl) ⟨by kernel_rfl⟩ (by kernel_rfl) (fun _ => ⟨by kernel_rfl⟩) fun b122 w a hF hS => ⟨⟨St.pick [1, 2, 3] (by decide) hS, (hS.frz (i := 4) rfl hlow)⟩, ?_⟩
    refine WT.s [] [1, 4] (by kernel_rfl) (by kernel_rfl) ?_
    refine WRun.fin ?_
    refine all_cons ?_ (all_cons ?_ (all_nil))
    ·skip
     refine callK (f := 36) (args := #[.agg #[.int .u8 p0.Rays, .int .u8 p0.Turn, .int .u8 p0.Move, .int .u8 p0.Duty, sv ad1 p0.Jobs cap2]]) (R := fun v w2 => v = y12.ag ∧ Ext w w2) (fun v123 => [(1, sv ad4 p1 cap5), (6, pb b8), (7, pb b9), (10, pb b122), (27, v123), (28, .agg #[.int .u8 p0.Rays, .int .u8 p0.Turn, .int .u8 p0.Move, .int .u8 p0.Duty, sv ad1 p0.Jobs cap2])]) hF (by kernel_rfl) ⟨by kernel_rfl⟩ (Calls.mono (law06_Desk_radar_ok F p0 _ hy12 (memOf w) w (memOf_at w) (hA3.mono (FrzAt.le_mem (hS.frz (i := 4) rfl hlow)))) (fun e w2 h => ⟨_, h.1, rfl, h.2⟩)) (fun _ => ⟨by kernel_rfl⟩) ?_
     rintro v123 w a ⟨rfl, hx⟩ hF
     replace hS := hS.later hx
     refine ⟨⟨St.pick [1, 2, 3] (by decide) hS, (hS.frz (i := 4) rfl hlow)⟩, ?_⟩
     refine WT.s [] [3, 4] (by kernel_rfl) (by kernel_rfl) ?_
     refine WRun.fin ?_
     refine all_cons ?_ (all_cons ?_ (all_nil))
     ·skip
      refine callK (f := 37) (args := #[.agg #[.int .u8 p0.Rays, .int .u8 p0.Turn, .int .u8 p0.Move, .int .u8 p0.Duty, sv ad1 p0.Jobs cap2]]) (R := fun v w2 => ∃ ad125 cap126, v = sv ad125 y14 cap126 ∧ St w [arr 34 8 plan_Job.cells ad125 y14.length cap126 y14] w2) (fun v124 => [(1, sv ad4 p1 cap5), (6, pb b8), (7, pb b9), (10, pb b122), (27, y12.ag), (29, v124)]) hF (by kernel_rfl) ⟨by kernel_rfl⟩ (Calls.mono (law06_Desk_jobs_ok F p0 _ hy14 (memOf w) w (memOf_at w) (hA3.mono (FrzAt.le_mem (hS.frz (i := 4) rfl hlow)))) (by rintro e w2 ⟨ad125, cap126, rfl, h⟩; exact ⟨_, rfl, ad125, cap126, rfl, h⟩)) (fun _ => ⟨by kernel_rfl⟩) ?_
      rintro v124 w a ⟨ad125, cap126, rfl, hQ⟩ hF
      replace hS : St w0 [arr 34 8 plan_Job.cells ad125 y14.length cap126 y14, blk b122 43 #[.slice none 0 0], blk b9 88 #[.int .u16 p3], blk b8 90 p2.ar, blk b7 75 #[.int .u8 p0.Rays, .int .u8 p0.Turn, .int .u8 p0.Move, .int .u8 p0.Duty, sv ad1 p0.Jobs cap2], fz w0 μ] w := hS.madeL hQ
      refine ⟨⟨St.pick [2, 3, 4] (by decide) hS, (hS.frz (i := 5) rfl hlow)⟩, ?_⟩
      refine WT.s [] [4] (by kernel_rfl) (by kernel_rfl) ?_
      refine WRun.fin ?_
      refine all_cons ?_ (all_nil)
      refine allocK (t := 31) (fun b127 => [(1, sv ad4 p1 cap5), (6, pb b8), (7, pb b9), (9, pb b127), (10, pb b122), (27, y12.ag), (29, sv ad125 y14 cap126)]) #[iv 0, iv 0, iv 0, iv 0] hF hS (by kernel_rfl) ⟨by kernel_rfl⟩ (by kernel_rfl) (fun _ => ⟨by kernel_rfl⟩) fun b127 w a hF hS => ⟨⟨St.pick [3, 4, 5] (by decide) hS, (hS.frz (i := 6) rfl hlow)⟩, ?_⟩
      refine WT.z [] (by kernel_rfl) ?_
      refine WRun.fin ?_
      exact ⟨b127, b122, ad125, cap126, hF.sub (by kernel_rfl), St.pick [0, 2, 1, 3, 4, 5, 6] (by decide) hS⟩
     ·skip
      refine allocK (t := 31) (fun b128 => [(1, sv ad4 p1 cap5), (6, pb b8), (7, pb b9), (9, pb b128), (10, pb b122), (27, y12.ag), (28, .agg #[.int .u8 p0.Rays, .int .u8 p0.Turn, .int .u8 p0.Move, .int .u8 p0.Duty, sv ad1 p0.Jobs cap2])]) #[iv 0, iv 0, iv 0, iv 0] hF hS (by kernel_rfl) ⟨by kernel_rfl⟩ (by kernel_rfl) (fun _ => ⟨by kernel_rfl⟩) fun b128 w a hF hS => ⟨⟨St.pick [2, 3, 4] (by decide) hS, (hS.frz (i := 5) rfl hlow)⟩, ?_⟩
      refine WT.s [] [3] (by kernel_rfl) (by kernel_rfl) ?_
      refine WRun.fin ?_
      refine all_cons ?_ (all_nil)
      refine callK (f := 37) (args := #[.agg #[.int .u8 p0.Rays, .int .u8 p0.Turn, .int .u8 p0.Move, .int .u8 p0.Duty, sv ad1 p0.Jobs cap2]]) (R := fun v w2 => ∃ ad130 cap131, v = sv ad130 y14 cap131 ∧ St w [arr 34 8 plan_Job.cells ad130 y14.length cap131 y14] w2) (fun v129 => [(1, sv ad4 p1 cap5), (6, pb b8), (7, pb b9), (9, pb b128), (10, pb b122), (27, y12.ag), (29, v129)]) hF (by kernel_rfl) ⟨by kernel_rfl⟩ (Calls.mono (law06_Desk_jobs_ok F p0 _ hy14 (memOf w) w (memOf_at w) (hA3.mono (FrzAt.le_mem (hS.frz (i := 5) rfl hlow)))) (by rintro e w2 ⟨ad130, cap131, rfl, h⟩; exact ⟨_, rfl, ad130, cap131, rfl, h⟩)) (fun _ => ⟨by kernel_rfl⟩) ?_
      rintro v129 w a ⟨ad130, cap131, rfl, hQ⟩ hF
      replace hS : St w0 [arr 34 8 plan_Job.cells ad130 y14.length cap131 y14, blk b128 31 #[iv 0, iv 0, iv 0, iv 0], blk b122 43 #[.slice none 0 0], blk b9 88 #[.int .u16 p3], blk b8 90 p2.ar, blk b7 75 #[.int .u8 p0.Rays, .int .u8 p0.Turn, .int .u8 p0.Move, .int .u8 p0.Duty, sv ad1 p0.Jobs cap2], fz w0 μ] w := hS.madeL hQ
      refine ⟨⟨St.pick [3, 4, 5] (by decide) hS, (hS.frz (i := 6) rfl hlow)⟩, ?_⟩
      refine WT.z [] (by kernel_rfl) ?_
      refine WRun.fin ?_
      exact ⟨b128, b122, ad130, cap131, hF.sub (by kernel_rfl), St.pick [1, 2, 0, 3, 4, 5, 6] (by decide) hS⟩
    ·skip
     refine allocK (t := 31) (fun b132 => [(1, sv ad4 p1 cap5), (6, pb b8), (7, pb b9), (9, pb b132), (10, pb b122), (26, .agg #[.int .u8 p0.Rays, .int .u8 p0.Turn, .int .u8 p0.Move, .int .u8 p0.Duty, sv ad1 p0.Jobs cap2]), (28, .agg #[.int .u8 p0.Rays, .int .u8 p0.Turn, .int .u8 p0.Move, .int .u8 p0.Duty, sv ad1 p0.Jobs cap2])]) #[iv 0, iv 0, iv 0, iv 0] hF hS (by kernel_rfl) ⟨by kernel_rfl⟩ (by kernel_rfl) (fun _ => ⟨by kernel_rfl⟩) fun b132 w a hF hS => ⟨⟨St.pick [2, 3, 4] (by decide) hS, (hS.frz (i := 5) rfl hlow)⟩, ?_⟩
     refine WT.s [] [1] (by kernel_rfl) (by kernel_rfl) ?_
     refine WRun.fin ?_
     refine all_cons ?_ (all_nil)
     refine callK (f := 36) (args := #[.agg #[.int .u8 p0.Rays, .int .u8 p0.Turn, .int .u8 p0.Move, .int .u8 p0.Duty, sv ad1 p0.Jobs cap2]]) (R := fun v w2 => v = y12.ag ∧ Ext w w2) (fun v133 => [(1, sv ad4 p1 cap5), (6, pb b8), (7, pb b9), (9, pb b132), (10, pb b122), (27, v133), (28, .agg #[.int .u8 p0.Rays, .int .u8 p0.Turn, .int .u8 p0.Move, .int .u8 p0.Duty, sv ad1 p0.Jobs cap2])]) hF (by kernel_rfl) ⟨by kernel_rfl⟩ (Calls.mono (law06_Desk_radar_ok F p0 _ hy12 (memOf w) w (memOf_at w) (hA3.mono (FrzAt.le_mem (hS.frz (i := 5) rfl hlow)))) (fun e w2 h => ⟨_, h.1, rfl, h.2⟩)) (fun _ => ⟨by kernel_rfl⟩) ?_
     rintro v133 w a ⟨rfl, hx⟩ hF
     replace hS := hS.later hx
     refine ⟨⟨St.pick [2, 3, 4] (by decide) hS, (hS.frz (i := 5) rfl hlow)⟩, ?_⟩
     refine WT.s [] [3] (by kernel_rfl) (by kernel_rfl) ?_
     refine WRun.fin ?_
     refine all_cons ?_ (all_nil)
     refine callK (f := 37) (args := #[.agg #[.int .u8 p0.Rays, .int .u8 p0.Turn, .int .u8 p0.Move, .int .u8 p0.Duty, sv ad1 p0.Jobs cap2]]) (R := fun v w2 => ∃ ad135 cap136, v = sv ad135 y14 cap136 ∧ St w [arr 34 8 plan_Job.cells ad135 y14.length cap136 y14] w2) (fun v134 => [(1, sv ad4 p1 cap5), (6, pb b8), (7, pb b9), (9, pb b132), (10, pb b122), (27, y12.ag), (29, v134)]) hF (by kernel_rfl) ⟨by kernel_rfl⟩ (Calls.mono (law06_Desk_jobs_ok F p0 _ hy14 (memOf w) w (memOf_at w) (hA3.mono (FrzAt.le_mem (hS.frz (i := 5) rfl hlow)))) (by rintro e w2 ⟨ad135, cap136, rfl, h⟩; exact ⟨_, rfl, ad135, cap136, rfl, h⟩)) (fun _ => ⟨by kernel_rfl⟩) ?_
     rintro v134 w a ⟨ad135, cap136, rfl, hQ⟩ hF
     replace hS : St w0 [arr 34 8 plan_Job.cells ad135 y14.length cap136 y14, blk b132 31 #[iv 0, iv 0, iv 0, iv 0], blk b122 43 #[.slice none 0 0], blk b9 88 #[.int .u16 p3], blk b8 90 p2.ar, blk b7 75 #[.int .u8 p0.Rays, .int .u8 p0.Turn, .int .u8 p0.Move, .int .u8 p0.Duty, sv ad1 p0.Jobs cap2], fz w0 μ] w := hS.madeL hQ
     refine ⟨⟨St.pick [3, 4, 5] (by decide) hS, (hS.frz (i := 6) rfl hlow)⟩, ?_⟩
     refine WT.z [] (by kernel_rfl) ?_
     refine WRun.fin ?_
     exact ⟨b132, b122, ad135, cap136, hF.sub (by kernel_rfl), St.pick [1, 2, 0, 3, 4, 5, 6] (by decide) hS⟩
  rintro a w ⟨b76, b77, ad78, cap79, hF, hS⟩
  refine SK.wi (storeK (t := 31) [(1, sv ad4 p1 cap5), (6, pb b8), (7, pb b9), (9, pb b76), (10, pb b77), (29, sv ad78 y14 cap79)] 0 0 (y12.ag) y12.ar hF hS rfl (by kernel_rfl) ⟨by kernel_rfl⟩ (by kernel_rfl) (by kernel_rfl) (by kernel_rfl) (by kernel_rfl) ⟨by kernel_rfl⟩ fun w a hF hS => ?_)
  refine SK.wi (storeK (t := 43) [(1, sv ad4 p1 cap5), (6, pb b8), (7, pb b9), (9, pb b76), (10, pb b77)] 1 0 (sv ad78 y14 cap79) #[sv ad78 y14 cap79] hF hS rfl (by kernel_rfl) ⟨by kernel_rfl⟩ (by kernel_rfl) (by kernel_rfl) (by kernel_rfl) (by kernel_rfl) ⟨by kernel_rfl⟩ fun w a hF hS => ?_)
  refine wfn rfl ?_
  refine esr ?_
  refine rno 3 [.run [] (Instr.loadAt 43 (pb b77)) (sv ad78 y14 cap79)] 3 [(6, pb b8), (7, pb b9), (9, pb b76), (10, pb b77), (30, sv ad4 p1 cap5), (32, iv (ln y14))] hF (ocons (ob1 (by kernel_rfl) (fun _ hd => (hS.at_ hd).cell (i := 1) (j := 0) rfl rfl)) onil) fun a hF => ?_
  replace h := bindS h
  obtain ⟨y138, hy138, h⟩ := h
  refine SK.wi (callK (f := 38) (args := #[sv ad4 p1 cap5, iv (ln y14)]) (R := fun v w2 => ∃ ad139 cap140, v = sv ad139 y138 cap140 ∧ St w [arr 3 1 fI ad139 y138.length cap140 y138] w2) (fun v137 => [(6, pb b8), (7, pb b9), (9, pb b76), (10, pb b77), (33, v137)]) hF (by kernel_rfl) ⟨by kernel_rfl⟩ (Calls.mono (law06_entries_ok F p1 (ln y14) _ hy138 (memOf w) w (memOf_at w) (hA6.mono (FrzAt.le_mem (hS.frz (i := 6) rfl hlow)))) (by rintro e w2 ⟨ad139, cap140, rfl, h⟩; exact ⟨_, rfl, ad139, cap140, rfl, h⟩)) (fun _ => ⟨by kernel_rfl⟩) ?_)
  rintro v137 w a ⟨ad139, cap140, rfl, hQ⟩ hF
  replace hS : St w0 [arr 3 1 fI ad139 y138.length cap140 y138, blk b76 31 y12.ar, blk b77 43 #[sv ad78 y14 cap79], arr 34 8 plan_Job.cells ad78 y14.length cap79 y14, blk b9 88 #[.int .u16 p3], blk b8 90 p2.ar, blk b7 75 #[.int .u8 p0.Rays, .int .u8 p0.Turn, .int .u8 p0.Move, .int .u8 p0.Duty, sv ad1 p0.Jobs cap2], fz w0 μ] w := hS.madeL hQ
  refine SK.wi (allocK (t := 40) (fun b141 => [(6, pb b8), (7, pb b9), (9, pb b76), (10, pb b77), (11, pb b141), (33, sv ad139 y138 cap140)]) #[.slice none 0 0] hF hS (by kernel_rfl) ⟨by kernel_rfl⟩ (by kernel_rfl) (fun _ => ⟨by kernel_rfl⟩) fun b141 w a hF hS => ?_)
  refine SK.wi (storeK (t := 40) [(6, pb b8), (7, pb b9), (9, pb b76), (10, pb b77), (11, pb b141)] 0 0 (sv ad139 y138 cap140) #[sv ad139 y138 cap140] hF hS rfl (by kernel_rfl) ⟨by kernel_rfl⟩ (by kernel_rfl) (by kernel_rfl) (by kernel_rfl) (by kernel_rfl) ⟨by kernel_rfl⟩ fun w a hF hS => ?_)
  refine wfn rfl ?_
  refine eseq ?_
  replace h := bindS h
  obtain ⟨l143, hl143, h⟩ := h
  replace h := bindS h
  obtain ⟨y147, hy147, h⟩ := h
  replace h := bindS h
  obtain ⟨l149, hl149, h⟩ := h
  refine region_treeW 8 [0, 2, 4, 5, 6, 7] (fun a w => ∃ (b189 : Nat) (ad190 : Option Addr) (cap191 : Nat), Fr 98 [] [(6, pb b8), (7, pb b9), (9, pb b76), (10, pb b77), (11, pb b141), (12, pb b189), (40, sv ad190 l149 cap191)] a ∧ St w0 [blk b189 43 #[.slice none 0 0], arr 34 8 plan_Job.cells ad190 l149.length cap191 l149, blk b141 40 #[sv ad139 y138 cap140], arr 3 1 fI ad139 y138.length cap140 y138, blk b76 31 y12.ar, blk b77 43 #[sv ad78 y14 cap79], arr 34 8 plan_Job.cells ad78 y14.length cap79 y14, blk b9 88 #[.int .u16 p3], blk b8 90 p2.ar, blk b7 75 #[.int .u8 p0.Rays, .int .u8 p0.Turn, .int .u8 p0.Move, .int .u8 p0.Duty, sv ad1 p0.Jobs cap2], fz w0 μ] w) (D := fun w => St w0 [blk b141 40 #[sv ad139 y138 cap140], arr 3 1 fI ad139 y138.length cap140 y138, blk b76 31 y12.ar, blk b77 43 #[sv ad78 y14 cap79], arr 34 8 plan_Job.cells ad78 y14.length cap79 y14, blk b9 88 #[.int .u16 p3], blk b8 90 p2.ar, blk b7 75 #[.int .u8 p0.Rays, .int .u8 p0.Turn, .int .u8 p0.Move, .int .u8 p0.Duty, sv ad1 p0.Jobs cap2]] w ∧ FrzAt μ w) (by kernel_rfl) (by kernel_rfl) hF.size (fun w hx => ?_) ?_
  ·skip
   replace hS := hS.later hx
   refine ⟨⟨St.pick [0, 1, 2, 3, 4, 5, 6, 7] (by decide) hS, hS.frz (i := 8) rfl hlow⟩, ?_⟩
   have hcl192 := Frz.le_refl μ
   refine WT.s [1, 3] [0, 7] (by kernel_rfl) (by kernel_rfl) ?_
   refine runC (rest := []) (obs := [.run [] (Instr.loadAt 43 (pb b77)) (sv ad78 y14 cap79), .run [] (Instr.loadAt 90 (pb b8)) (p2.ag)]) [1, 3] [(6, pb b8), (7, pb b9), (9, pb b76), (10, pb b77), (11, pb b141), (35, sv ad78 y14 cap79), (37, p2.ag)] hF (by kernel_rfl) (by kernel_rfl) (ocons (ob1 (by kernel_rfl) (fun _ hd => hd.1.cell (i := 3) (j := 0) rfl rfl)) (ocons (obN (us := p2.cells) (by kernel_rfl) (fun _ hd => (hd.1.blk (i := 6) rfl).cells rfl)) onil)) ⟨by kernel_rfl⟩ fun a hF => ?_
   refine WRun.fin ?_
   refine all_cons ?_ (all_cons ?_ (all_nil))
   ·skip
    refine litK (e := 34) (sz := 8) (f := plan_Job.cells) (t := 43) (len := 0) (fun b193 => [(6, pb b8), (7, pb b9), (9, pb b76), (10, pb b77), (11, pb b141), (34, sb b193 0), (35, sv ad78 y14 cap79), (37, p2.ag)]) #[] #[] ([] : List plan_Job) hF hS (by kernel_rfl) ⟨by kernel_rfl⟩ (by kernel_rfl) plan_Job.cells_len rfl rfl (by kernel_rfl) (fun _ => ⟨by kernel_rfl⟩) fun b193 w a hF hS => ⟨⟨St.pick [1, 2, 3, 4, 5, 6, 7, 8] (by decide) hS, (hS.frz (i := 9) rfl hlow)⟩, ?_⟩
    refine WT.s [] [2, 7] (by kernel_rfl) (by kernel_rfl) ?_
    refine WRun.fin ?_
    refine all_cons ?_ (all_cons ?_ (all_nil))
    ·skip
     refine appK (t := 43) (ty := 43) (bytes := 64) (l := ([] : List plan_Job)) (l' := y14) (fun ad194 cap195 => [(6, pb b8), (7, pb b9), (9, pb b76), (10, pb b77), (11, pb b141), (36, sv ad194 l143 cap195), (37, p2.ag)]) 0 hF hS rfl (by kernel_rfl) ⟨by kernel_rfl⟩ (by kernel_rfl) (hS.arr (i := 5) rfl) (fun _ _ => rfl) hl143 (fun _ _ => ⟨by kernel_rfl⟩) fun ad194 cap195 w a hF hS => ⟨⟨St.pick [1, 2, 3, 4, 5, 6, 7, 8] (by decide) hS, (hS.frz (i := 9) rfl hlow)⟩, ?_⟩
     refine WT.s [] [4, 7] (by kernel_rfl) (by kernel_rfl) ?_
     refine WRun.fin ?_
     refine all_cons ?_ (all_cons ?_ (all_nil))
     ·skip
      refine callK (f := 42) (args := #[p2.ag]) (R := fun v w2 => v = y147.ag ∧ Ext w w2) (fun v196 => [(6, pb b8), (7, pb b9), (9, pb b76), (10, pb b77), (11, pb b141), (36, sv ad194 l143 cap195), (38, v196)]) hF (by kernel_rfl) ⟨by kernel_rfl⟩ (Calls.mono (law06_Wish_job_ok F p2 _ hy147 (memOf w) w (memOf_at w) ) (fun e w2 h => ⟨_, h.1, rfl, h.2⟩)) (fun _ => ⟨by kernel_rfl⟩) ?_
      rintro v196 w a ⟨rfl, hx⟩ hF
      replace hS := hS.later hx
      refine ⟨⟨St.pick [1, 2, 3, 4, 5, 6, 7, 8] (by decide) hS, (hS.frz (i := 9) rfl hlow)⟩, ?_⟩
      refine WT.s [] [5, 7] (by kernel_rfl) (by kernel_rfl) ?_
      refine WRun.fin ?_
      refine all_cons ?_ (all_cons ?_ (all_nil))
      ·skip
       refine litK (e := 34) (sz := 8) (f := plan_Job.cells) (t := 43) (len := 1) (fun b197 => [(6, pb b8), (7, pb b9), (9, pb b76), (10, pb b77), (11, pb b141), (36, sv ad194 l143 cap195), (39, sb b197 1)]) #[(0, y147.ag)] y147.ar ([y147]) hF hS (by kernel_rfl) ⟨by kernel_rfl⟩ (by kernel_rfl) plan_Job.cells_len rfl rfl (by kernel_rfl) (fun _ => ⟨by kernel_rfl⟩) fun b197 w a hF hS => ⟨⟨St.pick [2, 3, 4, 5, 6, 7, 8, 9] (by decide) hS, (hS.frz (i := 10) rfl hlow)⟩, ?_⟩
       refine WT.s [] [6, 7] (by kernel_rfl) (by kernel_rfl) ?_
       refine WRun.fin ?_
       refine all_cons ?_ (all_cons ?_ (all_nil))
       ·skip
        refine appK (t := 43) (ty := 43) (bytes := 64) (l := l143) (l' := ([y147])) (fun ad198 cap199 => [(6, pb b8), (7, pb b9), (9, pb b76), (10, pb b77), (11, pb b141), (40, sv ad198 l149 cap199)]) 1 hF hS rfl (by kernel_rfl) ⟨by kernel_rfl⟩ (by kernel_rfl) (hS.arr (i := 0) rfl) (fun _ _ => rfl) hl149 (fun _ _ => ⟨by kernel_rfl⟩) fun ad198 cap199 w a hF hS => ⟨⟨St.pick [2, 3, 4, 5, 6, 7, 8, 9] (by decide) hS, (hS.frz (i := 10) rfl hlow)⟩, ?_⟩
        refine WT.s [] [7] (by kernel_rfl) (by kernel_rfl) ?_
        refine WRun.fin ?_
        refine all_cons ?_ (all_nil)
        refine allocK (t := 43) (fun b200 => [(6, pb b8), (7, pb b9), (9, pb b76), (10, pb b77), (11, pb b141), (12, pb b200), (40, sv ad198 l149 cap199)]) #[.slice none 0 0] hF hS (by kernel_rfl) ⟨by kernel_rfl⟩ (by kernel_rfl) (fun _ => ⟨by kernel_rfl⟩) fun b200 w a hF hS => ⟨⟨St.pick [3, 4, 5, 6, 7, 8, 9, 10] (by decide) hS, (hS.frz (i := 11) rfl hlow)⟩, ?_⟩
        refine WT.z [] (by kernel_rfl) ?_
        refine WRun.fin ?_
        exact ⟨b200, ad198, cap199, hF.sub (by kernel_rfl), St.pick [0, 2, 3, 4, 5, 6, 7, 8, 9, 10, 11] (by decide) hS⟩
       ·skip
        refine allocK (t := 43) (fun b201 => [(6, pb b8), (7, pb b9), (9, pb b76), (10, pb b77), (11, pb b141), (12, pb b201), (36, sv ad194 l143 cap195), (39, sb b197 1)]) #[.slice none 0 0] hF hS (by kernel_rfl) ⟨by kernel_rfl⟩ (by kernel_rfl) (fun _ => ⟨by kernel_rfl⟩) fun b201 w a hF hS => ⟨⟨St.pick [3, 4, 5, 6, 7, 8, 9, 10] (by decide) hS, (hS.frz (i := 11) rfl hlow)⟩, ?_⟩
        refine WT.s [] [6] (by kernel_rfl) (by kernel_rfl) ?_
        refine WRun.fin ?_
        refine all_cons ?_ (all_nil)
        refine appK (t := 43) (ty := 43) (bytes := 64) (l := l143) (l' := ([y147])) (fun ad202 cap203 => [(6, pb b8), (7, pb b9), (9, pb b76), (10, pb b77), (11, pb b141), (12, pb b201), (40, sv ad202 l149 cap203)]) 2 hF hS rfl (by kernel_rfl) ⟨by kernel_rfl⟩ (by kernel_rfl) (hS.arr (i := 1) rfl) (fun _ _ => rfl) hl149 (fun _ _ => ⟨by kernel_rfl⟩) fun ad202 cap203 w a hF hS => ⟨⟨St.pick [3, 4, 5, 6, 7, 8, 9, 10] (by decide) hS, (hS.frz (i := 11) rfl hlow)⟩, ?_⟩
        refine WT.z [] (by kernel_rfl) ?_
        refine WRun.fin ?_
        exact ⟨b201, ad202, cap203, hF.sub (by kernel_rfl), St.pick [0, 2, 3, 4, 5, 6, 7, 8, 9, 10, 11] (by decide) hS⟩
      ·skip
       refine allocK (t := 43) (fun b204 => [(6, pb b8), (7, pb b9), (9, pb b76), (10, pb b77), (11, pb b141), (12, pb b204), (36, sv ad194 l143 cap195), (38, y147.ag)]) #[.slice none 0 0] hF hS (by kernel_rfl) ⟨by kernel_rfl⟩ (by kernel_rfl) (fun _ => ⟨by kernel_rfl⟩) fun b204 w a hF hS => ⟨⟨St.pick [2, 3, 4, 5, 6, 7, 8, 9] (by decide) hS, (hS.frz (i := 10) rfl hlow)⟩, ?_⟩
       refine WT.s [] [5] (by kernel_rfl) (by kernel_rfl) ?_
       refine WRun.fin ?_
       refine all_cons ?_ (all_nil)
       refine litK (e := 34) (sz := 8) (f := plan_Job.cells) (t := 43) (len := 1) (fun b205 => [(6, pb b8), (7, pb b9), (9, pb b76), (10, pb b77), (11, pb b141), (12, pb b204), (36, sv ad194 l143 cap195), (39, sb b205 1)]) #[(0, y147.ag)] y147.ar ([y147]) hF hS (by kernel_rfl) ⟨by kernel_rfl⟩ (by kernel_rfl) plan_Job.cells_len rfl rfl (by kernel_rfl) (fun _ => ⟨by kernel_rfl⟩) fun b205 w a hF hS => ⟨⟨St.pick [3, 4, 5, 6, 7, 8, 9, 10] (by decide) hS, (hS.frz (i := 11) rfl hlow)⟩, ?_⟩
       refine WT.s [] [6] (by kernel_rfl) (by kernel_rfl) ?_
       refine WRun.fin ?_
       refine all_cons ?_ (all_nil)
       refine appK (t := 43) (ty := 43) (bytes := 64) (l := l143) (l' := ([y147])) (fun ad206 cap207 => [(6, pb b8), (7, pb b9), (9, pb b76), (10, pb b77), (11, pb b141), (12, pb b204), (40, sv ad206 l149 cap207)]) 2 hF hS rfl (by kernel_rfl) ⟨by kernel_rfl⟩ (by kernel_rfl) (hS.arr (i := 0) rfl) (fun _ _ => rfl) hl149 (fun _ _ => ⟨by kernel_rfl⟩) fun ad206 cap207 w a hF hS => ⟨⟨St.pick [3, 4, 5, 6, 7, 8, 9, 10] (by decide) hS, (hS.frz (i := 11) rfl hlow)⟩, ?_⟩
       refine WT.z [] (by kernel_rfl) ?_
       refine WRun.fin ?_
       exact ⟨b204, ad206, cap207, hF.sub (by kernel_rfl), St.pick [1, 2, 3, 4, 5, 6, 7, 8, 9, 10, 11] (by decide) hS⟩
     ·skip
      refine allocK (t := 43) (fun b208 => [(6, pb b8), (7, pb b9), (9, pb b76), (10, pb b77), (11, pb b141), (12, pb b208), (36, sv ad194 l143 cap195), (37, p2.ag)]) #[.slice none 0 0] hF hS (by kernel_rfl) ⟨by kernel_rfl⟩ (by kernel_rfl) (fun _ => ⟨by kernel_rfl⟩) fun b208 w a hF hS => ⟨⟨St.pick [2, 3, 4, 5, 6, 7, 8, 9] (by decide) hS, (hS.frz (i := 10) rfl hlow)⟩, ?_⟩
      refine WT.s [] [4] (by kernel_rfl) (by kernel_rfl) ?_
      refine WRun.fin ?_
      refine all_cons ?_ (all_nil)
      refine callK (f := 42) (args := #[p2.ag]) (R := fun v w2 => v = y147.ag ∧ Ext w w2) (fun v209 => [(6, pb b8), (7, pb b9), (9, pb b76), (10, pb b77), (11, pb b141), (12, pb b208), (36, sv ad194 l143 cap195), (38, v209)]) hF (by kernel_rfl) ⟨by kernel_rfl⟩ (Calls.mono (law06_Wish_job_ok F p2 _ hy147 (memOf w) w (memOf_at w) ) (fun e w2 h => ⟨_, h.1, rfl, h.2⟩)) (fun _ => ⟨by kernel_rfl⟩) ?_
      rintro v209 w a ⟨rfl, hx⟩ hF
      replace hS := hS.later hx
      refine ⟨⟨St.pick [2, 3, 4, 5, 6, 7, 8, 9] (by decide) hS, (hS.frz (i := 10) rfl hlow)⟩, ?_⟩
      refine WT.s [] [5] (by kernel_rfl) (by kernel_rfl) ?_
      refine WRun.fin ?_
      refine all_cons ?_ (all_nil)
      refine litK (e := 34) (sz := 8) (f := plan_Job.cells) (t := 43) (len := 1) (fun b210 => [(6, pb b8), (7, pb b9), (9, pb b76), (10, pb b77), (11, pb b141), (12, pb b208), (36, sv ad194 l143 cap195), (39, sb b210 1)]) #[(0, y147.ag)] y147.ar ([y147]) hF hS (by kernel_rfl) ⟨by kernel_rfl⟩ (by kernel_rfl) plan_Job.cells_len rfl rfl (by kernel_rfl) (fun _ => ⟨by kernel_rfl⟩) fun b210 w a hF hS => ⟨⟨St.pick [3, 4, 5, 6, 7, 8, 9, 10] (by decide) hS, (hS.frz (i := 11) rfl hlow)⟩, ?_⟩
      refine WT.s [] [6] (by kernel_rfl) (by kernel_rfl) ?_
      refine WRun.fin ?_
      refine all_cons ?_ (all_nil)
      refine appK (t := 43) (ty := 43) (bytes := 64) (l := l143) (l' := ([y147])) (fun ad211 cap212 => [(6, pb b8), (7, pb b9), (9, pb b76), (10, pb b77), (11, pb b141), (12, pb b208), (40, sv ad211 l149 cap212)]) 2 hF hS rfl (by kernel_rfl) ⟨by kernel_rfl⟩ (by kernel_rfl) (hS.arr (i := 0) rfl) (fun _ _ => rfl) hl149 (fun _ _ => ⟨by kernel_rfl⟩) fun ad211 cap212 w a hF hS => ⟨⟨St.pick [3, 4, 5, 6, 7, 8, 9, 10] (by decide) hS, (hS.frz (i := 11) rfl hlow)⟩, ?_⟩
      refine WT.z [] (by kernel_rfl) ?_
      refine WRun.fin ?_
      exact ⟨b208, ad211, cap212, hF.sub (by kernel_rfl), St.pick [1, 2, 3, 4, 5, 6, 7, 8, 9, 10, 11] (by decide) hS⟩
    ·skip
     refine allocK (t := 43) (fun b213 => [(6, pb b8), (7, pb b9), (9, pb b76), (10, pb b77), (11, pb b141), (12, pb b213), (34, sb b193 0), (35, sv ad78 y14 cap79), (37, p2.ag)]) #[.slice none 0 0] hF hS (by kernel_rfl) ⟨by kernel_rfl⟩ (by kernel_rfl) (fun _ => ⟨by kernel_rfl⟩) fun b213 w a hF hS => ⟨⟨St.pick [2, 3, 4, 5, 6, 7, 8, 9] (by decide) hS, (hS.frz (i := 10) rfl hlow)⟩, ?_⟩
     refine WT.s [] [2] (by kernel_rfl) (by kernel_rfl) ?_
     refine WRun.fin ?_
     refine all_cons ?_ (all_nil)
     refine appK (t := 43) (ty := 43) (bytes := 64) (l := ([] : List plan_Job)) (l' := y14) (fun ad214 cap215 => [(6, pb b8), (7, pb b9), (9, pb b76), (10, pb b77), (11, pb b141), (12, pb b213), (36, sv ad214 l143 cap215), (37, p2.ag)]) 1 hF hS rfl (by kernel_rfl) ⟨by kernel_rfl⟩ (by kernel_rfl) (hS.arr (i := 6) rfl) (fun _ _ => rfl) hl143 (fun _ _ => ⟨by kernel_rfl⟩) fun ad214 cap215 w a hF hS => ⟨⟨St.pick [2, 3, 4, 5, 6, 7, 8, 9] (by decide) hS, (hS.frz (i := 10) rfl hlow)⟩, ?_⟩
     refine WT.s [] [4] (by kernel_rfl) (by kernel_rfl) ?_
     refine WRun.fin ?_
     refine all_cons ?_ (all_nil)
     refine callK (f := 42) (args := #[p2.ag]) (R := fun v w2 => v = y147.ag ∧ Ext w w2) (fun v216 => [(6, pb b8), (7, pb b9), (9, pb b76), (10, pb b77), (11, pb b141), (12, pb b213), (36, sv ad214 l143 cap215), (38, v216)]) hF (by kernel_rfl) ⟨by kernel_rfl⟩ (Calls.mono (law06_Wish_job_ok F p2 _ hy147 (memOf w) w (memOf_at w) ) (fun e w2 h => ⟨_, h.1, rfl, h.2⟩)) (fun _ => ⟨by kernel_rfl⟩) ?_
     rintro v216 w a ⟨rfl, hx⟩ hF
     replace hS := hS.later hx
     refine ⟨⟨St.pick [2, 3, 4, 5, 6, 7, 8, 9] (by decide) hS, (hS.frz (i := 10) rfl hlow)⟩, ?_⟩
     refine WT.s [] [5] (by kernel_rfl) (by kernel_rfl) ?_
     refine WRun.fin ?_
     refine all_cons ?_ (all_nil)
     refine litK (e := 34) (sz := 8) (f := plan_Job.cells) (t := 43) (len := 1) (fun b217 => [(6, pb b8), (7, pb b9), (9, pb b76), (10, pb b77), (11, pb b141), (12, pb b213), (36, sv ad214 l143 cap215), (39, sb b217 1)]) #[(0, y147.ag)] y147.ar ([y147]) hF hS (by kernel_rfl) ⟨by kernel_rfl⟩ (by kernel_rfl) plan_Job.cells_len rfl rfl (by kernel_rfl) (fun _ => ⟨by kernel_rfl⟩) fun b217 w a hF hS => ⟨⟨St.pick [3, 4, 5, 6, 7, 8, 9, 10] (by decide) hS, (hS.frz (i := 11) rfl hlow)⟩, ?_⟩
     refine WT.s [] [6] (by kernel_rfl) (by kernel_rfl) ?_
     refine WRun.fin ?_
     refine all_cons ?_ (all_nil)
     refine appK (t := 43) (ty := 43) (bytes := 64) (l := l143) (l' := ([y147])) (fun ad218 cap219 => [(6, pb b8), (7, pb b9), (9, pb b76), (10, pb b77), (11, pb b141), (12, pb b213), (40, sv ad218 l149 cap219)]) 2 hF hS rfl (by kernel_rfl) ⟨by kernel_rfl⟩ (by kernel_rfl) (hS.arr (i := 0) rfl) (fun _ _ => rfl) hl149 (fun _ _ => ⟨by kernel_rfl⟩) fun ad218 cap219 w a hF hS => ⟨⟨St.pick [3, 4, 5, 6, 7, 8, 9, 10] (by decide) hS, (hS.frz (i := 11) rfl hlow)⟩, ?_⟩
     refine WT.z [] (by kernel_rfl) ?_
     refine WRun.fin ?_
     exact ⟨b213, ad218, cap219, hF.sub (by kernel_rfl), St.pick [1, 2, 3, 4, 5, 6, 7, 8, 9, 10, 11] (by decide) hS⟩
   ·skip
    refine allocK (t := 43) (fun b220 => [(6, pb b8), (7, pb b9), (9, pb b76), (10, pb b77), (11, pb b141), (12, pb b220), (35, sv ad78 y14 cap79), (37, p2.ag)]) #[.slice none 0 0] hF hS (by kernel_rfl) ⟨by kernel_rfl⟩ (by kernel_rfl) (fun _ => ⟨by kernel_rfl⟩) fun b220 w a hF hS => ⟨⟨St.pick [1, 2, 3, 4, 5, 6, 7, 8] (by decide) hS, (hS.frz (i := 9) rfl hlow)⟩, ?_⟩
    refine WT.s [] [0] (by kernel_rfl) (by kernel_rfl) ?_
    refine WRun.fin ?_
    refine all_cons ?_ (all_nil)
    refine litK (e := 34) (sz := 8) (f := plan_Job.cells) (t := 43) (len := 0) (fun b221 => [(6, pb b8), (7, pb b9), (9, pb b76), (10, pb b77), (11, pb b141), (12, pb b220), (34, sb b221 0), (35, sv ad78 y14 cap79), (37, p2.ag)]) #[] #[] ([] : List plan_Job) hF hS (by kernel_rfl) ⟨by kernel_rfl⟩ (by kernel_rfl) plan_Job.cells_len rfl rfl (by kernel_rfl) (fun _ => ⟨by kernel_rfl⟩) fun b221 w a hF hS => ⟨⟨St.pick [2, 3, 4, 5, 6, 7, 8, 9] (by decide) hS, (hS.frz (i := 10) rfl hlow)⟩, ?_⟩
    refine WT.s [] [2] (by kernel_rfl) (by kernel_rfl) ?_
    refine WRun.fin ?_
    refine all_cons ?_ (all_nil)
    refine appK (t := 43) (ty := 43) (bytes := 64) (l := ([] : List plan_Job)) (l' := y14) (fun ad222 cap223 => [(6, pb b8), (7, pb b9), (9, pb b76), (10, pb b77), (11, pb b141), (12, pb b220), (36, sv ad222 l143 cap223), (37, p2.ag)]) 0 hF hS rfl (by kernel_rfl) ⟨by kernel_rfl⟩ (by kernel_rfl) (hS.arr (i := 6) rfl) (fun _ _ => rfl) hl143 (fun _ _ => ⟨by kernel_rfl⟩) fun ad222 cap223 w a hF hS => ⟨⟨St.pick [2, 3, 4, 5, 6, 7, 8, 9] (by decide) hS, (hS.frz (i := 10) rfl hlow)⟩, ?_⟩
    refine WT.s [] [4] (by kernel_rfl) (by kernel_rfl) ?_
    refine WRun.fin ?_
    refine all_cons ?_ (all_nil)
    refine callK (f := 42) (args := #[p2.ag]) (R := fun v w2 => v = y147.ag ∧ Ext w w2) (fun v224 => [(6, pb b8), (7, pb b9), (9, pb b76), (10, pb b77), (11, pb b141), (12, pb b220), (36, sv ad222 l143 cap223), (38, v224)]) hF (by kernel_rfl) ⟨by kernel_rfl⟩ (Calls.mono (law06_Wish_job_ok F p2 _ hy147 (memOf w) w (memOf_at w) ) (fun e w2 h => ⟨_, h.1, rfl, h.2⟩)) (fun _ => ⟨by kernel_rfl⟩) ?_
    rintro v224 w a ⟨rfl, hx⟩ hF
    replace hS := hS.later hx
    refine ⟨⟨St.pick [2, 3, 4, 5, 6, 7, 8, 9] (by decide) hS, (hS.frz (i := 10) rfl hlow)⟩, ?_⟩
    refine WT.s [] [5] (by kernel_rfl) (by kernel_rfl) ?_
    refine WRun.fin ?_
    refine all_cons ?_ (all_nil)
    refine litK (e := 34) (sz := 8) (f := plan_Job.cells) (t := 43) (len := 1) (fun b225 => [(6, pb b8), (7, pb b9), (9, pb b76), (10, pb b77), (11, pb b141), (12, pb b220), (36, sv ad222 l143 cap223), (39, sb b225 1)]) #[(0, y147.ag)] y147.ar ([y147]) hF hS (by kernel_rfl) ⟨by kernel_rfl⟩ (by kernel_rfl) plan_Job.cells_len rfl rfl (by kernel_rfl) (fun _ => ⟨by kernel_rfl⟩) fun b225 w a hF hS => ⟨⟨St.pick [3, 4, 5, 6, 7, 8, 9, 10] (by decide) hS, (hS.frz (i := 11) rfl hlow)⟩, ?_⟩
    refine WT.s [] [6] (by kernel_rfl) (by kernel_rfl) ?_
    refine WRun.fin ?_
    refine all_cons ?_ (all_nil)
    refine appK (t := 43) (ty := 43) (bytes := 64) (l := l143) (l' := ([y147])) (fun ad226 cap227 => [(6, pb b8), (7, pb b9), (9, pb b76), (10, pb b77), (11, pb b141), (12, pb b220), (40, sv ad226 l149 cap227)]) 1 hF hS rfl (by kernel_rfl) ⟨by kernel_rfl⟩ (by kernel_rfl) (hS.arr (i := 0) rfl) (fun _ _ => rfl) hl149 (fun _ _ => ⟨by kernel_rfl⟩) fun ad226 cap227 w a hF hS => ⟨⟨St.pick [3, 4, 5, 6, 7, 8, 9, 10] (by decide) hS, (hS.frz (i := 11) rfl hlow)⟩, ?_⟩
    refine WT.z [] (by kernel_rfl) ?_
    refine WRun.fin ?_
    exact ⟨b220, ad226, cap227, hF.sub (by kernel_rfl), St.pick [2, 1, 3, 4, 5, 6, 7, 8, 9, 10, 11] (by decide) hS⟩
  rintro a w ⟨b189, ad190, cap191, hF, hS⟩
  refine SK.wi (storeK (t := 43) [(6, pb b8), (7, pb b9), (9, pb b76), (10, pb b77), (11, pb b141), (12, pb b189)] 0 0 (sv ad190 l149 cap191) #[sv ad190 l149 cap191] hF hS rfl (by kernel_rfl) ⟨by kernel_rfl⟩ (by kernel_rfl) (by kernel_rfl) (by kernel_rfl) (by kernel_rfl) ⟨by kernel_rfl⟩ fun w a hF hS => ?_)
  refine wfn rfl ?_
  refine eseq ?_
  replace h := bindS h
  obtain ⟨y228, hy228, h⟩ := h
  replace h := bindS h
  obtain ⟨x229, hx229, h⟩ := h
  replace h := bindS h
  obtain ⟨y230, hy230, h⟩ := h
  refine runD (obs := [.run [] (Instr.loadAt 31 (pb b76)) (y12.ag), .run [] (Instr.loadAt 43 (pb b77)) (sv ad78 y14 cap79), .run [] (Instr.loadAt 40 (pb b141)) (sv ad139 y138 cap140), .run [] (Instr.loadAt 90 (pb b8)) (p2.ag), .call [] 42 #[p2.ag] (y228.ag), .run [] (Instr.loadAt 88 (pb b9)) (.int .u16 p3), .run [] (convert 88 3 (.int .u16 p3)) (iv x229), .call [] 34 #[y12.ag, sv ad78 y14 cap79, sv ad139 y138 cap140, y228.ag, iv x229] (.tuple #[iv y230.1, iv y230.2])]) 13 [(7, pb b9), (9, pb b76), (10, pb b77), (11, pb b141), (12, pb b189), (13, iv y230.1), (14, iv y230.2)] (by kernel_rfl) hF (by kernel_rfl) (ocons (obN (us := y12.cells) (by kernel_rfl) (fun _ hd => ((hS.later hd).blk (i := 4) rfl).cells rfl)) (ocons (ob1 (by kernel_rfl) (fun _ hd => (hS.later hd).cell (i := 5) (j := 0) rfl rfl)) (ocons (ob1 (by kernel_rfl) (fun _ hd => (hS.later hd).cell (i := 2) (j := 0) rfl rfl)) (ocons (obN (us := p2.cells) (by kernel_rfl) (fun _ hd => ((hS.later hd).blk (i := 8) rfl).cells rfl)) (ocons (show Ob.ok _ Ext _ _ from fun hk w2 hd => law06_Wish_job_ok F p2 _ ((fun _ => hy228) hk) _ w2 (memOf_at w2) ) (ocons (ob1 (by kernel_rfl) (fun _ hd => (hS.later hd).cell (i := 7) (j := 0) rfl rfl)) (ocons (obConvC (by kernel_rfl) (by kernel_rfl) (fun _ => hx229)) (ocons (show Ob.ok _ Ext _ _ from fun hk w2 hd => plan_Insert_ok F y12 y14 y138 y228 x229 _ ((fun _ => hy230) hk) _ w2 (memOf_at w2) (Arr.toM ((hS.later hd).arr (i := 6) rfl)) (Arr.toM ((hS.later hd).arr (i := 3) rfl))) onil)))))))) ⟨by kernel_rfl⟩ fun a w hF hx => ?_
  replace hS := hS.later hx
  refine wfn rfl ?_
  refine eseq ?_
  refine esr ?_
  replace h := bindS h
  obtain ⟨y231, hy231, h⟩ := h
  refine rx 5 [.run [] (Instr.loadAt 31 (pb b76)) (y12.ag), .run [] (Instr.loadAt 43 (pb b77)) (sv ad78 y14 cap79), .run [] (Instr.loadAt 40 (pb b141)) (sv ad139 y138 cap140), .call [] 41 #[y12.ag, sv ad78 y14 cap79, sv ad139 y138 cap140] (.bool y231)] 5 [(7, pb b9), (9, pb b76), (10, pb b77), (11, pb b141), (12, pb b189), (13, iv y230.1), (14, iv y230.2), (56, .bool (!y231))] hF (ocons (obN (us := y12.cells) (by kernel_rfl) (fun _ hd => ((hS.later hd).blk (i := 4) rfl).cells rfl)) (ocons (ob1 (by kernel_rfl) (fun _ hd => (hS.later hd).cell (i := 5) (j := 0) rfl rfl)) (ocons (ob1 (by kernel_rfl) (fun _ hd => (hS.later hd).cell (i := 2) (j := 0) rfl rfl)) (ocons (show Ob.ok _ Ext _ _ from fun hk w2 hd => law06_kept_ok F y12 y14 y138 _ ((fun _ => hy231) hk) _ w2 (memOf_at w2) (Arr.toM ((hS.later hd).arr (i := 6) rfl)) (Arr.toM ((hS.later hd).arr (i := 3) rfl))) onil)))) fun a w hF hx => ?_
  replace hS := hS.later hx
  refine wfn rfl ?_
  refine econd hF rfl (fun hc => ?_) (fun hc => ?_)
  ·replace h := bif_t h hc
   refine esr ?_
   replace h := bindS h
   obtain ⟨y232, hy232, h⟩ := h
   refine rx 10 [.call [⟨63, true, (bif (y230.2 == 23) then true else (y230.2 == 6))⟩] 17 #[] (.bool y232)] 10 [(8, .bool (bif (bif (y230.2 == 23) then true else (y230.2 == 6)) then y232 else false))] hF (ocons (show Ob.ok _ Ext _ _ from fun hk w2 hd => law06_works_ok F  _ ((fun hk => gd_some hy232 hk) hk) _ w2 (memOf_at w2) ) onil) fun a w hF hx => ?_
   replace hS := hS.later hx
   refine wfn rfl ?_
   refine wpIn_ret (ret_then <| fn_ret [.tmp 8] [.bool (bif (bif (y230.2 == 23) then true else (y230.2 == 6)) then y232 else false)] hF rfl ⟨rfl, trivial⟩ ?_)
   have hr_ := Option.some.inj h
   subst hr_
   exact ⟨rfl, hS.ext⟩
  ·replace h := bif_f h hc
   refine wpIn_skip (norm_then ?_)
   refine esr ?_
   refine rn 2 2 [(11, pb b141), (13, iv y230.1), (14, iv y230.2), (15, .func (.func 43) #[] #[pb b141, pb b77, pb b76, pb b189, pb b9])] hF fun a hF => ?_
   refine wfn rfl ?_
   refine ecut (fun a w => ∃ (x235 : Int), Fr 98 [] [(13, iv x235), (15, .func (.func 43) #[] #[pb b141, pb b77, pb b76, pb b189, pb b9])] a ∧ St w0 [blk b189 43 #[sv ad190 l149 cap191], arr 34 8 plan_Job.cells ad190 l149.length cap191 l149, blk b141 40 #[sv ad139 y138 cap140], arr 3 1 fI ad139 y138.length cap140 y138, blk b76 31 y12.ar, blk b77 43 #[sv ad78 y14 cap79], arr 34 8 plan_Job.cells ad78 y14.length cap79 y14, blk b9 88 #[.int .u16 p3], blk b8 90 p2.ar, blk b7 75 #[.int .u8 p0.Rays, .int .u8 p0.Turn, .int .u8 p0.Move, .int .u8 p0.Duty, sv ad1 p0.Jobs cap2], fz w0 μ] w ∧ law06_PlanMore_K1 F p3 y12 y14 y138 l149 x235 = some res) ?_ ?_
   ·skip
    refine esr ?_
    refine rn 2 2 [(11, pb b141), (13, iv y230.1), (14, iv y230.2), (15, .func (.func 43) #[] #[pb b141, pb b77, pb b76, pb b189, pb b9]), (68, .bool (y230.2 == 28))] hF fun a hF => ?_
    refine wfn rfl ?_
    refine econd hF rfl (fun hc => ?_) (fun hc => ?_)
    ·replace h := bif_t h hc
     refine WI.region ?_
     refine rno 3 [.run [] (Instr.loadAt 40 (pb b141)) (sv ad139 y138 cap140)] 3 [(13, iv (ln y138)), (15, .func (.func 43) #[] #[pb b141, pb b77, pb b76, pb b189, pb b9])] hF (ocons (ob1 (by kernel_rfl) (fun _ hd => (hS.at_ hd).cell (i := 2) (j := 0) rfl rfl)) onil) fun a hF => ?_
     refine wfn rfl ?_
     exact ⟨(ln y138), hF.sub (by kernel_rfl), St.pick [0, 1, 2, 3, 4, 5, 6, 7, 8, 9, 10] (by decide) hS, h⟩
    ·replace h := bif_f h hc
     refine esr ?_
     refine rno 13 [.run [⟨77, false, (bif (y230.2 != 0) then true else (decide (y230.1 < 0)))⟩] (Instr.loadAt 40 (pb b141)) (sv ad139 y138 cap140)] 13 [(13, iv y230.1), (15, .func (.func 43) #[] #[pb b141, pb b77, pb b76, pb b189, pb b9]), (83, .bool (bif (bif (y230.2 != 0) then true else (decide (y230.1 < 0))) then true else (decide (y230.1 ≥ (ln y138)))))] hF (ocons (ob1 (by kernel_rfl) (fun _ hd => (hS.at_ hd).cell (i := 2) (j := 0) rfl rfl)) onil) fun a hF => ?_
     rcases Bool.eq_false_or_eq_true ((bif (bif (y230.2 != 0) then true else (decide (y230.1 < 0))) then true else (decide (y230.1 ≥ (ln y138))))) with hg257 | hg257
     ·replace h := bif_t h hg257
      rw [hg257] at hF
      refine skip_ 14 [(13, iv y230.1), (15, .func (.func 43) #[] #[pb b141, pb b77, pb b76, pb b189, pb b9]), (83, .bool true), (84, undef)] hF (by kernel_rfl) ⟨by kernel_rfl⟩ ⟨by kernel_rfl⟩ rfl fun a hF => ?_
      refine skip_ 15 [(13, iv y230.1), (15, .func (.func 43) #[] #[pb b141, pb b77, pb b76, pb b189, pb b9]), (83, .bool true), (84, undef), (85, undef)] hF (by kernel_rfl) ⟨by kernel_rfl⟩ ⟨by kernel_rfl⟩ rfl fun a hF => ?_
      refine skip_ 16 [(13, iv y230.1), (15, .func (.func 43) #[] #[pb b141, pb b77, pb b76, pb b189, pb b9]), (83, .bool true), (86, undef)] hF (by kernel_rfl) ⟨by kernel_rfl⟩ ⟨by kernel_rfl⟩ rfl fun a hF => ?_
      refine skip_ 17 [(13, iv y230.1), (15, .func (.func 43) #[] #[pb b141, pb b77, pb b76, pb b189, pb b9]), (83, .bool true), (87, undef)] hF (by kernel_rfl) ⟨by kernel_rfl⟩ ⟨by kernel_rfl⟩ rfl fun a hF => ?_
      refine rn 1 18 [(13, iv y230.1), (15, .func (.func 43) #[] #[pb b141, pb b77, pb b76, pb b189, pb b9]), (88, .bool true)] hF fun a hF => ?_
      refine wfn rfl ?_
      refine wpIn_cond_true (hF.get rfl) ?_
      refine esr ?_
      refine rn 1 1 [(8, .bool false)] hF fun a hF => ?_
      refine wfn rfl ?_
      refine wpIn_ret (ret_then <| fn_ret [.tmp 8] [.bool false] hF rfl ⟨rfl, trivial⟩ ?_)
      have hr_ := Option.some.inj h
      subst hr_
      exact ⟨rfl, hS.ext⟩
     ·replace h := bif_f h hg257
      rw [hg257] at hF
      refine run_C (n := 2) (obs := []) 15 [(13, ⟨[], iv y230.1⟩), (15, ⟨[], .func (.func 43) #[] #[pb b141, pb b77, pb b76, pb b189, pb b9]⟩), (83, ⟨[], .bool false⟩), (84, ⟨[⟨83, false, false⟩], .func (.func 43) #[] #[pb b141, pb b77, pb b76, pb b189, pb b9]⟩), (85, ⟨[⟨83, false, false⟩], iv y230.1⟩)] hF (by kernel_rfl) onil ⟨by kernel_rfl⟩ (by kernel_rfl) rfl fun a hF => ?_
      replace hF : Fr 98 [] [(13, iv y230.1), (15, .func (.func 43) #[] #[pb b141, pb b77, pb b76, pb b189, pb b9]), (83, .bool false), (84, .func (.func 43) #[] #[pb b141, pb b77, pb b76, pb b189, pb b9]), (85, iv y230.1)] a := hF
      replace h := bindS h
      obtain ⟨y258, hy258, h⟩ := h
      refine rx 3 [.call [⟨83, false, false⟩] 43 #[iv y230.1, pb b141, pb b77, pb b76, pb b189, pb b9] (.bool y258)] 18 [(13, iv y230.1), (15, .func (.func 43) #[] #[pb b141, pb b77, pb b76, pb b189, pb b9]), (88, .bool (!y258))] hF (ocons (show Ob.ok _ Ext _ _ from fun hk w2 hd => law06_PlanMore_1_ok F y230.1 y138 y14 y12 l149 p3 _ ((fun _ => hy258) hk) _ w2 (memOf_at w2) (Blk.toM ((hS.later hd).blk (i := 2) rfl)) (Arr.toM ((hS.later hd).arr (i := 3) rfl)) (Blk.toM ((hS.later hd).blk (i := 5) rfl)) (Arr.toM ((hS.later hd).arr (i := 6) rfl)) (Blk.toM ((hS.later hd).blk (i := 4) rfl)) (Blk.toM ((hS.later hd).blk (i := 0) rfl)) (Arr.toM ((hS.later hd).arr (i := 1) rfl)) (Blk.toM ((hS.later hd).blk (i := 7) rfl))) onil) fun a w hF hx => ?_
      replace hS := hS.later hx
      refine wfn rfl ?_
      refine econd hF rfl (fun hc => ?_) (fun hc => ?_)
      ·replace h := bif_t h hc
       refine esr ?_
       refine rn 1 1 [(8, .bool false)] hF fun a hF => ?_
       refine wfn rfl ?_
       refine wpIn_ret (ret_then <| fn_ret [.tmp 8] [.bool false] hF rfl ⟨rfl, trivial⟩ ?_)
       have hr_ := Option.some.inj h
       subst hr_
       exact ⟨rfl, hS.ext⟩
      ·replace h := bif_f h hc
       refine wpIn_skip (norm_then ?_)
       exact ⟨y230.1, hF.sub (by kernel_rfl), St.pick [0, 1, 2, 3, 4, 5, 6, 7, 8, 9, 10] (by decide) hS, h⟩
   rintro a w ⟨x235, hF, hS, h⟩
   rw [law06_PlanMore_K1] at h
   refine ecut (fun a w => Fr 98 [] [] a ∧ St w0 [blk b189 43 #[sv ad190 l149 cap191], arr 34 8 plan_Job.cells ad190 l149.length cap191 l149, blk b141 40 #[sv ad139 y138 cap140], arr 3 1 fI ad139 y138.length cap140 y138, blk b76 31 y12.ar, blk b77 43 #[sv ad78 y14 cap79], arr 34 8 plan_Job.cells ad78 y14.length cap79 y14, blk b9 88 #[.int .u16 p3], blk b8 90 p2.ar, blk b7 75 #[.int .u8 p0.Rays, .int .u8 p0.Turn, .int .u8 p0.Move, .int .u8 p0.Duty, sv ad1 p0.Jobs cap2], fz w0 μ] w ∧ law06_PlanMore_K2 F = some res) ?_ ?_
   ·skip
    refine esr ?_
    refine rn 2 2 [(15, .func (.func 43) #[] #[pb b141, pb b77, pb b76, pb b189, pb b9]), (89, iv x235), (90, iv 0)] hF fun a hF => ?_
    refine wfn rfl ?_
    refine wpIn_block ?_
    refine eloop (fun n_ a w => ∃ (x252 : Int), Fr 98 [] [(15, .func (.func 43) #[] #[pb b141, pb b77, pb b76, pb b189, pb b9]), (89, iv x235), (90, iv x252)] a ∧ St w0 [blk b189 43 #[sv ad190 l149 cap191], arr 34 8 plan_Job.cells ad190 l149.length cap191 l149, blk b141 40 #[sv ad139 y138 cap140], arr 3 1 fI ad139 y138.length cap140 y138, blk b76 31 y12.ar, blk b77 43 #[sv ad78 y14 cap79], arr 34 8 plan_Job.cells ad78 y14.length cap79 y14, blk b9 88 #[.int .u16 p3], blk b8 90 p2.ar, blk b7 75 #[.int .u8 p0.Rays, .int .u8 p0.Turn, .int .u8 p0.Move, .int .u8 p0.Duty, sv ad1 p0.Jobs cap2], fz w0 μ] w ∧ law06_PlanMore_L3 F p3 y12 y14 y138 l149 x235 n_ x252 = some res) F ⟨0, hF.sub (by kernel_rfl), St.pick [0, 1, 2, 3, 4, 5, 6, 7, 8, 9, 10] (by decide) hS, h⟩ ?_
    rintro n_ a w ⟨x252, hF, hS, h⟩
    rcases n_ with _ | n_
    ·cases (show (none : Option Bool) = some res from h)
    obtain ⟨k3, hk3⟩ : ∃ k, k = law06_PlanMore_L3 F p3 y12 y14 y138 l149 x235 n_ := ⟨_, rfl⟩
    replace h : law06_PlanMore_B3 F p3 y12 y14 y138 l149 x235 k3 x252 = some res := by rw [hk3]; exact h
    rw [law06_PlanMore_B3] at h
    refine esr ?_
    refine rn 1 1 [(15, .func (.func 43) #[] #[pb b141, pb b77, pb b76, pb b189, pb b9]), (89, iv x235), (90, iv x252), (91, .bool (decide (x252 < x235)))] hF fun a hF => ?_
    refine wfn rfl ?_
    refine eseq ?_
    refine econd hF rfl (fun hc => ?_) (fun hc => ?_)
    ·replace h := bif_t h hc
     refine wpIn_skip (norm_then ?_)
     refine eseq ?_
     refine wpIn_block ?_
     refine esr ?_
     refine rn 2 2 [(15, .func (.func 43) #[] #[pb b141, pb b77, pb b76, pb b189, pb b9]), (16, iv x252), (89, iv x235), (90, iv x252)] hF fun a hF => ?_
     refine wfn rfl ?_
     refine esr ?_
     refine rn 2 2 [(15, .func (.func 43) #[] #[pb b141, pb b77, pb b76, pb b189, pb b9]), (89, iv x235), (90, iv x252), (93, .func (.func 43) #[] #[pb b141, pb b77, pb b76, pb b189, pb b9]), (94, iv x252)] hF fun a hF => ?_
     replace h := bindS h
     obtain ⟨y254, hy254, h⟩ := h
     refine rx 1 [.call [] 43 #[iv x252, pb b141, pb b77, pb b76, pb b189, pb b9] (.bool y254)] 3 [(15, .func (.func 43) #[] #[pb b141, pb b77, pb b76, pb b189, pb b9]), (89, iv x235), (90, iv x252), (95, .bool y254)] hF (ocons (show Ob.ok _ Ext _ _ from fun hk w2 hd => law06_PlanMore_1_ok F x252 y138 y14 y12 l149 p3 _ ((fun _ => hy254) hk) _ w2 (memOf_at w2) (Blk.toM ((hS.later hd).blk (i := 2) rfl)) (Arr.toM ((hS.later hd).arr (i := 3) rfl)) (Blk.toM ((hS.later hd).blk (i := 5) rfl)) (Arr.toM ((hS.later hd).arr (i := 6) rfl)) (Blk.toM ((hS.later hd).blk (i := 4) rfl)) (Blk.toM ((hS.later hd).blk (i := 0) rfl)) (Arr.toM ((hS.later hd).arr (i := 1) rfl)) (Blk.toM ((hS.later hd).blk (i := 7) rfl))) onil) fun a w hF hx => ?_
     replace hS := hS.later hx
     refine wfn rfl ?_
     refine econd hF rfl (fun hc => ?_) (fun hc => ?_)
     ·replace h := bif_t h hc
      refine esr ?_
      refine rn 1 1 [(8, .bool false)] hF fun a hF => ?_
      refine wfn rfl ?_
      refine wpIn_ret (ret_block <| ret_then <| ret_then <| ret_block <| ret_then <| fn_ret [.tmp 8] [.bool false] hF rfl ⟨rfl, trivial⟩ ?_)
      have hr_ := Option.some.inj h
      subst hr_
      exact ⟨rfl, hS.ext⟩
     ·replace h := bif_f h hc
      refine wpIn_skip (norm_block <| norm_then <| ?_)
      refine WI.region ?_
      replace h := bindS h
      obtain ⟨x255, hx255, h⟩ := h
      refine rno 2 [.run [] (binOp .add 3 (iv x252) (iv 1)) (iv x255)] 2 [(15, .func (.func 43) #[] #[pb b141, pb b77, pb b76, pb b189, pb b9]), (89, iv x235), (90, iv x255)] hF (ocons (obAddC (fun _ => hx255)) onil) fun a hF => ?_
      refine wfn rfl ?_
      rw [hk3] at h
      exact ⟨n_, Nat.lt_succ_self _, x255, hF.sub (by kernel_rfl), St.pick [0, 1, 2, 3, 4, 5, 6, 7, 8, 9, 10] (by decide) hS, h⟩
    ·replace h := bif_f h hc
     refine wpIn_exit (exit_then <| exit_then <| exit_hit <| norm_then ?_)
     exact ⟨hF.sub (by kernel_rfl), St.pick [0, 1, 2, 3, 4, 5, 6, 7, 8, 9, 10] (by decide) hS, h⟩
   rintro a w ⟨hF, hS, h⟩
   rw [law06_PlanMore_K2] at h
   refine esr ?_
   replace h := bindS h
   obtain ⟨y245, hy245, h⟩ := h
   refine rx 2 [.call [] 17 #[] (.bool y245)] 2 [(8, .bool y245)] hF (ocons (show Ob.ok _ Ext _ _ from fun hk w2 hd => law06_works_ok F  _ ((fun _ => hy245) hk) _ w2 (memOf_at w2) ) onil) fun a w hF hx => ?_
   replace hS := hS.later hx
   refine wfn rfl ?_
   refine wpIn_ret (fn_ret [.tmp 8] [.bool y245] hF rfl ⟨rfl, trivial⟩ ?_)
   have hr_ := Option.some.inj h
   subst hr_
   exact ⟨rfl, hS.ext⟩
end Go.Proofs.Ytejffembnkojjaa
