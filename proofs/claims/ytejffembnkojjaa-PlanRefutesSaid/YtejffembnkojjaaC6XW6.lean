/- Walks, written by program (wip/gen/dec.py). -/
import Derived.Test.YtejffembnkojjaaC6XD
import Derived.Test.YtejffembnkojjaaProg
import Derived.Test.YtejffembnkojjaaC6XW0
import Derived.Test.YtejffembnkojjaaC6XW1
import Derived.Test.YtejffembnkojjaaC6XW3
import Derived.Test.YtejffembnkojjaaC6XW4
import Derived.Test.YtejffembnkojjaaC6XW5
namespace Go.Proofs.Ytejffembnkojjaa
open Go Go.RowKit Go.Eng
set_option maxRecDepth 10000
set_option maxHeartbeats 4000000
set_option linter.unusedVariables false
set_option linter.unusedSimpArgs false
theorem plan_Time_ok (F : Nat) (p0 : plan_Radar) (p1 : plan_Job) (res : (Int × Int)) (h : plan_Time F p0 p1 = some res) (μ : Frz) (w0 : World) (hm : FrzAt μ w0) : Calls Try.prog 14 #[p0.ag, p1.ag] w0 (fun e w => e = .returned (.tuple #[iv res.1, iv res.2]) ∧ Ext w0 w) := by
 obtain ⟨hlow, hS⟩ := hm.init
 have hext := Frz.ext_refl w0.heap.size μ
 rw [plan_Time] at h
 refine fn_enterW Try.func14 rfl 17 [(0, p0.ag), (1, p1.ag)] rfl rfl (by kernel_rfl) fun a w hw hF => ?_
 replace hS : St w0 [fz w0 μ] w := by rw [hw]; exact hS
 clear hw
 refine esr ?_
 refine SK.wi (boxK (t := 31) (fun b1 => [(1, p1.ag), (2, pb b1)]) (p0.ag) p0.ar hF hS (by kernel_rfl) ⟨by kernel_rfl⟩ (by kernel_rfl) (fun _ => ⟨by kernel_rfl⟩) fun b1 w a hF hS => ?_)
 refine SK.wi (boxK (t := 34) (fun b2 => [(2, pb b1), (3, pb b2)]) (p1.ag) p1.ar hF hS (by kernel_rfl) ⟨by kernel_rfl⟩ (by kernel_rfl) (fun _ => ⟨by kernel_rfl⟩) fun b2 w a hF hS => ?_)
 refine rn 2 4 [(2, pb b1), (3, pb b2)] hF fun a hF => ?_
 refine wfn rfl ?_
 refine eseq ?_
 refine esr ?_
 refine rno 2 [.run [] (Instr.loadAt 31 (pb b1)) (p0.ag), .run [] (Instr.loadAt 34 (pb b2)) (p1.ag)] 2 [(2, pb b1), (3, pb b2), (7, p0.ag), (8, p1.ag)] hF (ocons (obN (us := p0.cells) (by kernel_rfl) (fun _ hd => ((hS.at_ hd).blk (i := 1) rfl).cells rfl)) (ocons (obN (us := p1.cells) (by kernel_rfl) (fun _ hd => ((hS.at_ hd).blk (i := 0) rfl).cells rfl)) onil)) fun a hF => ?_
 refine SK.wi (litK (e := 34) (sz := 8) (f := plan_Job.cells) (t := 43) (len := 1) (fun b3 => [(2, pb b1), (3, pb b2), (7, p0.ag), (9, sb b3 1)]) #[(0, p1.ag)] p1.ar ([p1]) hF hS (by kernel_rfl) ⟨by kernel_rfl⟩ (by kernel_rfl) plan_Job.cells_len rfl rfl (by kernel_rfl) (fun _ => ⟨by kernel_rfl⟩) fun b3 w a hF hS => ?_)
 replace h := bindS h
 obtain ⟨y4, hy4, h⟩ := h
 refine rx 2 [.call [] 22 #[p0.ag, sb b3 1] (iv y4)] 5 [(2, pb b1), (3, pb b2), (6, iv y4)] hF (ocons (show Ob.ok _ Ext _ _ from fun hk w2 hd => plan_Check_ok F p0 ([p1]) _ ((fun _ => hy4) hk) _ w2 (memOf_at w2) (Arr.toM ((hS.later hd).arr (i := 0) rfl))) onil) fun a w hF hx => ?_
 replace hS := hS.later hx
 refine wfn rfl ?_
 refine esr ?_
 refine rn 2 2 [(2, pb b1), (3, pb b2), (6, iv y4), (12, .bool (y4 != 0))] hF fun a hF => ?_
 refine wfn rfl ?_
 refine econd hF rfl (fun hc => ?_) (fun hc => ?_)
 ·replace h := bif_t h hc
  refine esr ?_
  refine rn 3 3 [(4, iv 0), (5, iv y4)] hF fun a hF => ?_
  refine wfn rfl ?_
  refine wpIn_ret (ret_then <| fn_ret [.tmp 4, .tmp 5] [iv 0, iv y4] hF rfl ⟨rfl, rfl, trivial⟩ ?_)
  have hr_ := Option.some.inj h
  subst hr_
  exact ⟨rfl, hS.ext⟩
 ·replace h := bif_f h hc
  refine wpIn_skip (norm_then ?_)
  refine esr ?_
  replace h := bindS h
  obtain ⟨y5, hy5, h⟩ := h
  refine rx 5 [.run [] (Instr.loadAt 31 (pb b1)) (p0.ag), .run [] (Instr.loadAt 34 (pb b2)) (p1.ag), .call [] 44 #[p0.ag, p1.ag] (iv y5)] 5 [(4, iv y5), (5, iv 0)] hF (ocons (obN (us := p0.cells) (by kernel_rfl) (fun _ hd => ((hS.later hd).blk (i := 2) rfl).cells rfl)) (ocons (obN (us := p1.cells) (by kernel_rfl) (fun _ hd => ((hS.later hd).blk (i := 1) rfl).cells rfl)) (ocons (show Ob.ok _ Ext _ _ from fun hk w2 hd => plan_Radar_time_ok F p0 p1 _ ((fun _ => hy5) hk) _ w2 (memOf_at w2) ) onil))) fun a w hF hx => ?_
  replace hS := hS.later hx
  refine wfn rfl ?_
  refine wpIn_ret (fn_ret [.tmp 4, .tmp 5] [iv y5, iv 0] hF rfl ⟨rfl, rfl, trivial⟩ ?_)
  have hr_ := Option.some.inj h
  subst hr_
  exact ⟨rfl, hS.ext⟩

theorem plan_judged_ok (F : Nat) (p0 : plan_Radar) (p1 : (List plan_Job)) (p2 : (List Int)) (res : (plan_line × (List Int) × Int)) (h : plan_judged F p0 p1 p2 = some res) (μ : Frz) (w0 : World) (hm : FrzAt μ w0) {ad1 : Option Addr} {cap2 : Nat} {ad4 : Option Addr} {cap5 : Nat} (hA3 : ArrM μ 8 plan_Job.cells ad1 cap2 p1) (hA6 : ArrM μ 1 fI ad4 cap5 p2) : Calls Try.prog 47 #[p0.ag, sv ad1 p1 cap2, sv ad4 p2 cap5] w0 (fun e w => ∃ (ν_ : Frz) (pv130 : Option Addr) (ad131 : Option Addr) (cap132 : Nat) (ad133 : Option Addr) (cap134 : Nat) (ad135 : Option Addr) (cap136 : Nat), μ.ext w0.heap.size ν_ ∧ e = .returned (.tuple #[.agg #[.pointer pv130, sv ad131 res.1.jobs cap132, sv ad133 res.1.at_ cap134, iv res.1.done], sv ad135 res.2.1 cap136, iv res.2.2]) ∧ PtM ν_ 113 Rp113 pv130 res.1.desk ∧ ArrM ν_ 1 fI ad131 cap132 res.1.jobs ∧ ArrM ν_ 1 fI ad133 cap134 res.1.at_ ∧ ArrM ν_ 1 fI ad135 cap136 res.2.1 ∧ St w0 [fz w0 ν_] w) := by
 obtain ⟨hlow, hS⟩ := hm.init
 have hext := Frz.ext_refl w0.heap.size μ
 rw [plan_judged] at h
 refine fn_enterW Try.func47 rfl 75 [(0, p0.ag), (1, sv ad1 p1 cap2), (2, sv ad4 p2 cap5)] rfl rfl (by kernel_rfl) fun a w hw hF => ?_
 replace hS : St w0 [fz w0 μ] w := by rw [hw]; exact hS
 clear hw
 refine esr ?_
 refine SK.wi (boxK (t := 31) (fun b7 => [(1, sv ad1 p1 cap2), (2, sv ad4 p2 cap5), (3, pb b7)]) (p0.ag) p0.ar hF hS (by kernel_rfl) ⟨by kernel_rfl⟩ (by kernel_rfl) (fun _ => ⟨by kernel_rfl⟩) fun b7 w a hF hS => ?_)
 refine SK.wi (allocK (t := 102) (fun b8 => [(1, sv ad1 p1 cap2), (2, sv ad4 p2 cap5), (3, pb b7), (6, pb b8)]) #[.pointer none, .slice none 0 0, .slice none 0 0, iv 0] hF hS (by kernel_rfl) ⟨by kernel_rfl⟩ (by kernel_rfl) (fun _ => ⟨by kernel_rfl⟩) fun b8 w a hF hS => ?_)
 refine rn 2 4 [(1, sv ad1 p1 cap2), (2, sv ad4 p2 cap5), (3, pb b7), (6, pb b8)] hF fun a hF => ?_
 refine wfn rfl ?_
 refine eseq ?_
 refine esr ?_
 replace h := bindS h
 obtain ⟨y9, hy9, h⟩ := h
 refine rx 4 [.run [] (Instr.loadAt 31 (pb b7)) (p0.ag), .call [] 22 #[p0.ag, sv ad1 p1 cap2] (iv y9)] 4 [(1, sv ad1 p1 cap2), (2, sv ad4 p2 cap5), (3, pb b7), (6, pb b8), (9, iv y9)] hF (ocons (obN (us := p0.cells) (by kernel_rfl) (fun _ hd => ((hS.later hd).blk (i := 1) rfl).cells rfl)) (ocons (show Ob.ok _ Ext _ _ from fun hk w2 hd => plan_Check_ok F p0 p1 _ ((fun _ => hy9) hk) _ w2 (memOf_at w2) (hA3.mono (FrzAt.le_mem ((hS.later hd).frz (i := 2) rfl hlow)))) onil)) fun a w hF hx => ?_
 replace hS := hS.later hx
 refine wfn rfl ?_
 refine esr ?_
 refine rn 2 2 [(1, sv ad1 p1 cap2), (2, sv ad4 p2 cap5), (3, pb b7), (6, pb b8), (9, iv y9), (19, .bool (y9 != 0))] hF fun a hF => ?_
 refine wfn rfl ?_
 refine econd hF rfl (fun hc => ?_) (fun hc => ?_)
 ·replace h := bif_t h hc
  refine esr ?_
  refine rn 2 2 [(6, pb b8), (20, .agg #[.pointer none, .slice none 0 0, .slice none 0 0, iv 0]), (21, iv y9)] hF fun a hF => ?_
  refine SK.wi (storeK (t := 102) [(6, pb b8), (21, iv y9)] 0 0 (.agg #[.pointer none, .slice none 0 0, .slice none 0 0, iv 0]) #[.pointer none, .slice none 0 0, .slice none 0 0, iv 0] hF hS rfl (by kernel_rfl) ⟨by kernel_rfl⟩ (by kernel_rfl) (by kernel_rfl) (by kernel_rfl) (by kernel_rfl) ⟨by kernel_rfl⟩ fun w a hF hS => ?_)
  refine rn 2 5 [(6, pb b8), (7, .slice none 0 0), (8, iv y9)] hF fun a hF => ?_
  refine wfn rfl ?_
  refine wpIn_ret (ret_then <| fn_ret [.cell 6 102, .tmp 7, .tmp 8] [.agg #[.pointer none, .slice none 0 0, .slice none 0 0, iv 0], .slice none 0 0, iv y9] hF rfl ⟨⟨_, rfl, loadVarN (cs := [.pointer none, .slice none 0 0, .slice none 0 0, iv 0]) (by kernel_rfl) ((hS.blk (i := 0) rfl).cells rfl)⟩, rfl, rfl, trivial⟩ ?_)
  have hr_ := Option.some.inj h
  subst hr_
  exact ⟨μ, none, none, 0, none, 0, none, 0, hext, rfl, PtM.nil, ArrM.nil, ArrM.nil, ArrM.nil, St.pick [2] (by decide) hS⟩
 ·replace h := bif_f h hc
  refine wpIn_skip (norm_then ?_)
  refine eseq ?_
  refine esr ?_
  refine rx 4 [.call [] 50 #[iv (ln p2), iv 1, iv 12] (.bool (plan_in (ln p2) 1 12))] 4 [(1, sv ad1 p1 cap2), (2, sv ad4 p2 cap5), (3, pb b7), (6, pb b8), (25, .bool (!(plan_in (ln p2) 1 12)))] hF (ocons (show Ob.ok _ Ext _ _ from fun hk w2 hd => plan_in_ok (ln p2) 1 12 _ rfl _ w2 (memOf_at w2) ) onil) fun a w hF hx => ?_
  replace hS := hS.later hx
  refine wfn rfl ?_
  refine econd hF rfl (fun hc => ?_) (fun hc => ?_)
  ·replace h := bif_t h hc
   refine esr ?_
   refine rn 1 1 [(6, pb b8), (26, .agg #[.pointer none, .slice none 0 0, .slice none 0 0, iv 0])] hF fun a hF => ?_
   refine SK.wi (storeK (t := 102) [(6, pb b8)] 0 0 (.agg #[.pointer none, .slice none 0 0, .slice none 0 0, iv 0]) #[.pointer none, .slice none 0 0, .slice none 0 0, iv 0] hF hS rfl (by kernel_rfl) ⟨by kernel_rfl⟩ (by kernel_rfl) (by kernel_rfl) (by kernel_rfl) (by kernel_rfl) ⟨by kernel_rfl⟩ fun w a hF hS => ?_)
   refine rn 2 4 [(6, pb b8), (7, .slice none 0 0), (8, iv 3)] hF fun a hF => ?_
   refine wfn rfl ?_
   refine wpIn_ret (ret_then <| fn_ret [.cell 6 102, .tmp 7, .tmp 8] [.agg #[.pointer none, .slice none 0 0, .slice none 0 0, iv 0], .slice none 0 0, iv 3] hF rfl ⟨⟨_, rfl, loadVarN (cs := [.pointer none, .slice none 0 0, .slice none 0 0, iv 0]) (by kernel_rfl) ((hS.blk (i := 0) rfl).cells rfl)⟩, rfl, rfl, trivial⟩ ?_)
   have hr_ := Option.some.inj h
   subst hr_
   exact ⟨μ, none, none, 0, none, 0, none, 0, hext, rfl, PtM.nil, ArrM.nil, ArrM.nil, ArrM.nil, St.pick [2] (by decide) hS⟩
  ·replace h := bif_f h hc
   refine wpIn_skip (norm_then ?_)
   refine ecut (fun a w => Fr 75 [] [(1, sv ad1 p1 cap2), (2, sv ad4 p2 cap5), (3, pb b7), (6, pb b8)] a ∧ St w0 [blk b8 102 #[.pointer none, .slice none 0 0, .slice none 0 0, iv 0], blk b7 31 p0.ar, fz w0 μ] w ∧ plan_judged_K1 F p0 p1 p2 = some res) ?_ ?_
   ·skip
    refine esr ?_
    refine rn 3 3 [(1, sv ad1 p1 cap2), (2, sv ad4 p2 cap5), (3, pb b7), (6, pb b8), (27, sv ad4 p2 cap5), (28, iv (ln p2)), (29, iv 0)] hF fun a hF => ?_
    refine wfn rfl ?_
    refine wpIn_block ?_
    refine eloop (fun n_ a w => ∃ (x125 : Int), Fr 75 [] [(1, sv ad1 p1 cap2), (2, sv ad4 p2 cap5), (3, pb b7), (6, pb b8), (27, sv ad4 p2 cap5), (28, iv (ln p2)), (29, iv x125)] a ∧ St w0 [blk b8 102 #[.pointer none, .slice none 0 0, .slice none 0 0, iv 0], blk b7 31 p0.ar, fz w0 μ] w ∧ plan_judged_L4 F p0 p1 p2 n_ x125 = some res) F ⟨0, hF.sub (by kernel_rfl), St.pick [0, 1, 2] (by decide) hS, h⟩ ?_
    rintro n_ a w ⟨x125, hF, hS, h⟩
    rcases n_ with _ | n_
    ·cases (show (none : Option (plan_line × (List Int) × Int)) = some res from h)
    obtain ⟨k4, hk4⟩ : ∃ k, k = plan_judged_L4 F p0 p1 p2 n_ := ⟨_, rfl⟩
    replace h : plan_judged_B4 F p0 p1 p2 k4 x125 = some res := by rw [hk4]; exact h
    rw [plan_judged_B4] at h
    refine esr ?_
    refine rn 1 1 [(1, sv ad1 p1 cap2), (2, sv ad4 p2 cap5), (3, pb b7), (6, pb b8), (27, sv ad4 p2 cap5), (28, iv (ln p2)), (29, iv x125), (30, .bool (decide (x125 < (ln p2))))] hF fun a hF => ?_
    refine wfn rfl ?_
    refine eseq ?_
    refine econd hF rfl (fun hc => ?_) (fun hc => ?_)
    ·replace h := bif_t h hc
     refine wpIn_skip (norm_then ?_)
     refine eseq ?_
     refine wpIn_block ?_
     refine esr ?_
     replace h := bindS h
     obtain ⟨u127, hu127, h⟩ := h
     refine rno 3 [.run [] (Instr.indexAt 40 (sv ad4 p2 cap5) (iv x125)) (.pointer (some (slAddr ad4 x125 1))), .run [] (Instr.loadAt 3 (.pointer (some (slAddr ad4 x125 1)))) (iv u127)] 3 [(1, sv ad1 p1 cap2), (2, sv ad4 p2 cap5), (3, pb b7), (6, pb b8), (11, iv u127), (27, sv ad4 p2 cap5), (28, iv (ln p2)), (29, iv x125)] hF (ocons (obIdxQ (hA6 _ (hS.frz (i := 2) rfl hlow)) (by kernel_rfl) (fun _ => hu127)) (ocons (obElQ (i := x125) 0 fI_len (fun _ hd => (hA6 _ ((hS.at_ hd).frz (i := 2) rfl hlow))) (by kernel_rfl) (fun _ => hu127) rfl) onil)) fun a hF => ?_
     refine wfn rfl ?_
     refine esr ?_
     replace h := bindS h
     obtain ⟨x128, hx128, h⟩ := h
     refine rx 6 [.run [] (binOp .sub 3 (iv (ln p1)) (iv 1)) (iv x128), .call [] 50 #[iv u127, iv 0, iv x128] (.bool (plan_in u127 0 x128))] 6 [(1, sv ad1 p1 cap2), (2, sv ad4 p2 cap5), (3, pb b7), (6, pb b8), (27, sv ad4 p2 cap5), (28, iv (ln p2)), (29, iv x125), (38, .bool (!(plan_in u127 0 x128)))] hF (ocons (obSubC (fun _ => hx128)) (ocons (show Ob.ok _ Ext _ _ from fun hk w2 hd => plan_in_ok u127 0 x128 _ rfl _ w2 (memOf_at w2) ) onil)) fun a w hF hx => ?_
     replace hS := hS.later hx
     refine wfn rfl ?_
     refine econd hF rfl (fun hc => ?_) (fun hc => ?_)
     ·replace h := bif_t h hc
      refine esr ?_
      refine rn 1 1 [(6, pb b8), (39, .agg #[.pointer none, .slice none 0 0, .slice none 0 0, iv 0])] hF fun a hF => ?_
      refine SK.wi (storeK (t := 102) [(6, pb b8)] 0 0 (.agg #[.pointer none, .slice none 0 0, .slice none 0 0, iv 0]) #[.pointer none, .slice none 0 0, .slice none 0 0, iv 0] hF hS rfl (by kernel_rfl) ⟨by kernel_rfl⟩ (by kernel_rfl) (by kernel_rfl) (by kernel_rfl) (by kernel_rfl) ⟨by kernel_rfl⟩ fun w a hF hS => ?_)
      refine rn 2 4 [(6, pb b8), (7, .slice none 0 0), (8, iv 4)] hF fun a hF => ?_
      refine wfn rfl ?_
      refine wpIn_ret (ret_block <| ret_then <| ret_then <| ret_block <| ret_then <| fn_ret [.cell 6 102, .tmp 7, .tmp 8] [.agg #[.pointer none, .slice none 0 0, .slice none 0 0, iv 0], .slice none 0 0, iv 4] hF rfl ⟨⟨_, rfl, loadVarN (cs := [.pointer none, .slice none 0 0, .slice none 0 0, iv 0]) (by kernel_rfl) ((hS.blk (i := 0) rfl).cells rfl)⟩, rfl, rfl, trivial⟩ ?_)
      have hr_ := Option.some.inj h
      subst hr_
      exact ⟨μ, none, none, 0, none, 0, none, 0, hext, rfl, PtM.nil, ArrM.nil, ArrM.nil, ArrM.nil, St.pick [2] (by decide) hS⟩
     ·replace h := bif_f h hc
      refine wpIn_skip (norm_block <| norm_then <| ?_)
      refine WI.region ?_
      replace h := bindS h
      obtain ⟨x129, hx129, h⟩ := h
      refine rno 2 [.run [] (binOp .add 3 (iv x125) (iv 1)) (iv x129)] 2 [(1, sv ad1 p1 cap2), (2, sv ad4 p2 cap5), (3, pb b7), (6, pb b8), (27, sv ad4 p2 cap5), (28, iv (ln p2)), (29, iv x129)] hF (ocons (obAddC (fun _ => hx129)) onil) fun a hF => ?_
      refine wfn rfl ?_
      rw [hk4] at h
      exact ⟨n_, Nat.lt_succ_self _, x129, hF.sub (by kernel_rfl), St.pick [0, 1, 2] (by decide) hS, h⟩
    ·replace h := bif_f h hc
     refine wpIn_exit (exit_then <| exit_then <| exit_hit <| norm_then ?_)
     exact ⟨hF.sub (by kernel_rfl), St.pick [0, 1, 2] (by decide) hS, h⟩
   rintro a w ⟨hF, hS, h⟩
   rw [plan_judged_K1] at h
   refine esr ?_
   refine rno 2 [.run [] (Instr.loadAt 31 (pb b7)) (p0.ag)] 2 [(1, sv ad1 p1 cap2), (2, sv ad4 p2 cap5), (6, pb b8), (41, p0.ag), (42, sv ad1 p1 cap2)] hF (ocons (obN (us := p0.cells) (by kernel_rfl) (fun _ hd => ((hS.at_ hd).blk (i := 1) rfl).cells rfl)) onil) fun a hF => ?_
   replace h := bindS h
   obtain ⟨y23, hy23, h⟩ := h
   refine SK.wi (callK (f := 56) (args := #[p0.ag, sv ad1 p1 cap2]) (R := fun v w2 => ∃ ν24 pv25, μ.ext w.heap.size ν24 ∧ v = .pointer pv25 ∧ PtM ν24 113 Rp113 pv25 y23 ∧ St w [frzR w.heap.size ν24] w2) (fun v22 => [(1, sv ad1 p1 cap2), (2, sv ad4 p2 cap5), (6, pb b8), (43, v22)]) hF (by kernel_rfl) ⟨by kernel_rfl⟩ (Calls.mono (plan_newDesk_ok F p0 p1 _ hy23 μ w (hS.frz (i := 2) rfl hlow) hA3) (by rintro e w2 ⟨ν24, pv25, hx27, rfl, hA26, h⟩; exact ⟨_, rfl, ν24, pv25, hx27, rfl, hA26, h⟩)) (fun _ => ⟨by kernel_rfl⟩) ?_)
   rintro v22 w a ⟨ν24, pv25, hx27, rfl, hA26, hQ⟩ hF
   replace hext := Frz.ext_trans hext (Frz.ext_mono hx27 hS.ext.size)
   obtain ⟨hlow, hS⟩ := hS.frzMerge (i := 2) rfl hlow hx27 hQ
   replace hA3 := hA3.mono hx27.1
   replace hA6 := hA6.mono hx27.1
   replace hS : St w0 [blk b8 102 #[.pointer none, .slice none 0 0, .slice none 0 0, iv 0], blk b7 31 p0.ar, fz w0 ν24] w := hS
   refine rn 1 4 [(1, sv ad1 p1 cap2), (6, pb b8), (43, .pointer pv25), (44, sv ad4 p2 cap5)] hF fun a hF => ?_
   replace h := bindS h
   obtain ⟨y29, hy29, h⟩ := h
   refine SK.wi (callK (f := 76) (args := #[.pointer pv25, sv ad4 p2 cap5]) (R := fun v w2 => ∃ ν30 pv31 ad32 cap33 ad34 cap35, ν24.ext w.heap.size ν30 ∧ v = .agg #[.pointer pv31, sv ad32 y29.jobs cap33, sv ad34 y29.at_ cap35, iv y29.done] ∧ PtM ν30 113 Rp113 pv31 y29.desk ∧ ArrM ν30 1 fI ad32 cap33 y29.jobs ∧ ArrM ν30 1 fI ad34 cap35 y29.at_ ∧ St w [frzR w.heap.size ν30] w2) (fun v28 => [(1, sv ad1 p1 cap2), (6, pb b8), (45, v28)]) hF (by kernel_rfl) ⟨by kernel_rfl⟩ (Calls.mono (pplan_desk_of_ok F y23 p2 _ hy29 ν24 w (hS.frz (i := 2) rfl hlow) hA26 hA6) (by rintro e w2 ⟨ν30, pv31, ad32, cap33, ad34, cap35, hx39, rfl, hA36, hA37, hA38, h⟩; exact ⟨_, rfl, ν30, pv31, ad32, cap33, ad34, cap35, hx39, rfl, hA36, hA37, hA38, h⟩)) (fun _ => ⟨by kernel_rfl⟩) ?_)
   rintro v28 w a ⟨ν30, pv31, ad32, cap33, ad34, cap35, hx39, rfl, hA36, hA37, hA38, hQ⟩ hF
   replace hext := Frz.ext_trans hext (Frz.ext_mono hx39 hS.ext.size)
   obtain ⟨hlow, hS⟩ := hS.frzMerge (i := 2) rfl hlow hx39 hQ
   replace hA3 := hA3.mono hx39.1
   replace hA6 := hA6.mono hx39.1
   replace hA26 := hA26.mono Rp113.mono hx39.1
   replace hS : St w0 [blk b8 102 #[.pointer none, .slice none 0 0, .slice none 0 0, iv 0], blk b7 31 p0.ar, fz w0 ν30] w := hS
   refine SK.wi (allocK (t := 102) (fun b40 => [(1, sv ad1 p1 cap2), (6, pb b8), (12, pb b40), (45, .agg #[.pointer pv31, sv ad32 y29.jobs cap33, sv ad34 y29.at_ cap35, iv y29.done])]) #[.pointer none, .slice none 0 0, .slice none 0 0, iv 0] hF hS (by kernel_rfl) ⟨by kernel_rfl⟩ (by kernel_rfl) (fun _ => ⟨by kernel_rfl⟩) fun b40 w a hF hS => ?_)
   refine SK.wi (storeK (t := 102) [(1, sv ad1 p1 cap2), (6, pb b8), (12, pb b40)] 0 0 (.agg #[.pointer pv31, sv ad32 y29.jobs cap33, sv ad34 y29.at_ cap35, iv y29.done]) #[.pointer pv31, sv ad32 y29.jobs cap33, sv ad34 y29.at_ cap35, iv y29.done] hF hS rfl (by kernel_rfl) ⟨by kernel_rfl⟩ (by kernel_rfl) (by kernel_rfl) (by kernel_rfl) (by kernel_rfl) ⟨by kernel_rfl⟩ fun w a hF hS => ?_)
   refine wfn rfl ?_
   refine esr ?_
   refine rno 1 [.run [] (Instr.loadAt 102 (pb b40)) (.agg #[.pointer pv31, sv ad32 y29.jobs cap33, sv ad34 y29.at_ cap35, iv y29.done])] 1 [(1, sv ad1 p1 cap2), (6, pb b8), (12, pb b40), (46, .agg #[.pointer pv31, sv ad32 y29.jobs cap33, sv ad34 y29.at_ cap35, iv y29.done])] hF (ocons (obN (us := [.pointer pv31, sv ad32 y29.jobs cap33, sv ad34 y29.at_ cap35, iv y29.done]) (by kernel_rfl) (fun _ hd => ((hS.at_ hd).blk (i := 0) rfl).cells rfl)) onil) fun a hF => ?_
   replace h := bindS h
   obtain ⟨y42, hy42, h⟩ := h
   refine SK.wi (callK (f := 77) (args := #[.agg #[.pointer pv31, sv ad32 y29.jobs cap33, sv ad34 y29.at_ cap35, iv y29.done]]) (R := fun v w2 => ∃ ad43 cap44, v = sv ad43 y42 cap44 ∧ St w [arr 3 1 fI ad43 y42.length cap44 y42] w2) (fun v41 => [(1, sv ad1 p1 cap2), (6, pb b8), (12, pb b40), (47, v41)]) hF (by kernel_rfl) ⟨by kernel_rfl⟩ (Calls.mono (plan_line_gaps_ok F y29 _ hy42 (memOf w) w (memOf_at w) (hA36.mono Rp113.mono (FrzAt.le_mem (hS.frz (i := 3) rfl hlow))) (hA37.mono (FrzAt.le_mem (hS.frz (i := 3) rfl hlow))) (hA38.mono (FrzAt.le_mem (hS.frz (i := 3) rfl hlow)))) (by rintro e w2 ⟨ad43, cap44, rfl, h⟩; exact ⟨_, rfl, ad43, cap44, rfl, h⟩)) (fun _ => ⟨by kernel_rfl⟩) ?_)
   rintro v41 w a ⟨ad43, cap44, rfl, hQ⟩ hF
   replace hS : St w0 [arr 3 1 fI ad43 y42.length cap44 y42, blk b40 102 #[.pointer pv31, sv ad32 y29.jobs cap33, sv ad34 y29.at_ cap35, iv y29.done], blk b8 102 #[.pointer none, .slice none 0 0, .slice none 0 0, iv 0], blk b7 31 p0.ar, fz w0 ν30] w := hS.madeL hQ
   refine rn 1 3 [(1, sv ad1 p1 cap2), (6, pb b8), (12, pb b40), (13, sv ad43 y42 cap44)] hF fun a hF => ?_
   refine wfn rfl ?_
   refine ecut (fun a w => ∃ (l79 : (List Int)) (ad77 : Option Addr) (cap78 : Nat), Fr 75 [] [(6, pb b8), (12, pb b40), (13, sv ad77 l79 cap78)] a ∧ St w0 [arr 3 1 fI ad77 l79.length cap78 l79, blk b40 102 #[.pointer pv31, sv ad32 y29.jobs cap33, sv ad34 y29.at_ cap35, iv y29.done], blk b8 102 #[.pointer none, .slice none 0 0, .slice none 0 0, iv 0], blk b7 31 p0.ar, fz w0 ν30] w ∧ plan_judged_K2 y29 l79 = some res) ?_ ?_
   ·skip
    refine esr ?_
    refine rn 3 3 [(1, sv ad1 p1 cap2), (6, pb b8), (12, pb b40), (13, sv ad43 y42 cap44), (49, iv (ln y42)), (50, iv 0)] hF fun a hF => ?_
    refine wfn rfl ?_
    refine wpIn_block ?_
    refine eloop (fun n_ a w => ∃ (l106 : (List Int)) (x107 : Int) (x108 : Int) (ad104 : Option Addr) (cap105 : Nat), Fr 75 [] [(1, sv ad1 p1 cap2), (6, pb b8), (12, pb b40), (13, sv ad104 l106 cap105), (49, iv x107), (50, iv x108)] a ∧ St w0 [arr 3 1 fI ad104 l106.length cap105 l106, blk b40 102 #[.pointer pv31, sv ad32 y29.jobs cap33, sv ad34 y29.at_ cap35, iv y29.done], blk b8 102 #[.pointer none, .slice none 0 0, .slice none 0 0, iv 0], blk b7 31 p0.ar, fz w0 ν30] w ∧ plan_judged_L3 p1 y29 n_ l106 x107 x108 = some res) F ⟨y42, (ln y42), 0, ad43, cap44, hF.sub (by kernel_rfl), St.pick [0, 1, 2, 3, 4] (by decide) hS, h⟩ ?_
    rintro n_ a w ⟨l106, x107, x108, ad104, cap105, hF, hS, h⟩
    rcases n_ with _ | n_
    ·cases (show (none : Option (plan_line × (List Int) × Int)) = some res from h)
    obtain ⟨k3, hk3⟩ : ∃ k, k = plan_judged_L3 p1 y29 n_ := ⟨_, rfl⟩
    replace h : plan_judged_B3 p1 y29 k3 l106 x107 x108 = some res := by rw [hk3]; exact h
    rw [plan_judged_B3] at h
    refine esr ?_
    refine rn 1 1 [(1, sv ad1 p1 cap2), (6, pb b8), (12, pb b40), (13, sv ad104 l106 cap105), (49, iv x107), (50, iv x108), (51, .bool (decide (x108 < x107)))] hF fun a hF => ?_
    refine wfn rfl ?_
    refine eseq ?_
    refine econd hF rfl (fun hc => ?_) (fun hc => ?_)
    ·replace h := bif_t h hc
     refine wpIn_skip (norm_then ?_)
     refine eseq ?_
     refine wpIn_block ?_
     refine esr ?_
     refine rn 2 2 [(1, sv ad1 p1 cap2), (6, pb b8), (12, pb b40), (13, sv ad104 l106 cap105), (14, iv x108), (49, iv x107), (50, iv x108)] hF fun a hF => ?_
     refine wfn rfl ?_
     refine eseq ?_
     refine esr ?_
     replace h := bindS h
     obtain ⟨u110, hu110, h⟩ := h
     refine rno 5 [.run [] (Instr.indexAt 40 (sv ad104 l106 cap105) (iv x108)) (.pointer (some (slAddr ad104 x108 1))), .run [] (Instr.loadAt 3 (.pointer (some (slAddr ad104 x108 1)))) (iv u110)] 5 [(1, sv ad1 p1 cap2), (6, pb b8), (12, pb b40), (13, sv ad104 l106 cap105), (14, iv x108), (49, iv x107), (50, iv x108), (57, .bool (u110 == 0))] hF (ocons (obIdxQ (hS.arr (i := 0) rfl) (by kernel_rfl) (fun _ => hu110)) (ocons (obElQ (i := x108) 0 fI_len (fun _ hd => ((hS.at_ hd).arr (i := 0) rfl)) (by kernel_rfl) (fun _ => hu110) rfl) onil)) fun a hF => ?_
     refine wfn rfl ?_
     refine econd hF rfl (fun hc => ?_) (fun hc => ?_)
     ·replace h := bif_t h hc
      refine esr ?_
      refine rn 1 1 [(6, pb b8), (58, .agg #[.pointer none, .slice none 0 0, .slice none 0 0, iv 0])] hF fun a hF => ?_
      refine SK.wi (storeK (t := 102) [(6, pb b8)] 2 0 (.agg #[.pointer none, .slice none 0 0, .slice none 0 0, iv 0]) #[.pointer none, .slice none 0 0, .slice none 0 0, iv 0] hF hS rfl (by kernel_rfl) ⟨by kernel_rfl⟩ (by kernel_rfl) (by kernel_rfl) (by kernel_rfl) (by kernel_rfl) ⟨by kernel_rfl⟩ fun w a hF hS => ?_)
      refine rn 2 4 [(6, pb b8), (7, .slice none 0 0), (8, iv 23)] hF fun a hF => ?_
      refine wfn rfl ?_
      refine wpIn_ret (ret_then <| ret_block <| ret_then <| ret_then <| ret_block <| ret_then <| fn_ret [.cell 6 102, .tmp 7, .tmp 8] [.agg #[.pointer none, .slice none 0 0, .slice none 0 0, iv 0], .slice none 0 0, iv 23] hF rfl ⟨⟨_, rfl, loadVarN (cs := [.pointer none, .slice none 0 0, .slice none 0 0, iv 0]) (by kernel_rfl) ((hS.blk (i := 2) rfl).cells rfl)⟩, rfl, rfl, trivial⟩ ?_)
      have hr_ := Option.some.inj h
      subst hr_
      exact ⟨ν30, none, none, 0, none, 0, none, 0, hext, rfl, PtM.nil, ArrM.nil, ArrM.nil, ArrM.nil, St.pick [4] (by decide) hS⟩
     ·replace h := bif_f h hc
      refine wpIn_skip (norm_then ?_)
      replace h := bindS h
      obtain ⟨u111, hu111, h⟩ := h
      replace h := bindS h
      obtain ⟨u112, hu112, h⟩ := h
      replace h := bindS h
      obtain ⟨x113, hx113, h⟩ := h
      replace h := bindS h
      obtain ⟨u114, hu114, h⟩ := h
      refine runD (obs := [.run [] (Instr.indexAt 43 (sv ad1 p1 cap2) (iv x108)) (.pointer (some (slAddr ad1 x108 8))), .run [] (Instr.loadAt 3 (.pointer (some ((slAddr ad1 x108 8).add 7)))) (iv u111.Every), .run [] (Instr.indexAt 40 (sv ad104 l106 cap105) (iv x108)) (.pointer (some (slAddr ad104 x108 1))), .run [] (Instr.loadAt 3 (.pointer (some (slAddr ad104 x108 1)))) (iv u112), .run [] (binOp .sub 3 (iv u111.Every) (iv u112)) (iv x113), .run [] (Instr.indexAt 40 (sv ad104 l106 cap105) (iv x108)) (.pointer (some (slAddr ad104 x108 1)))]) 13 [(1, sv ad1 p1 cap2), (6, pb b8), (12, pb b40), (13, sv ad104 l106 cap105), (49, iv x107), (50, iv x108), (70, iv x113), (71, .pointer (some (slAddr ad104 x108 1)))] (by kernel_rfl) hF (by kernel_rfl) (ocons (obIdxQ (hA3 _ (hS.frz (i := 4) rfl hlow)) (by kernel_rfl) (fun _ => hu111)) (ocons (obElQ (i := x108) 7 plan_Job.cells_len (fun _ hd => (hA3 _ ((hS.later hd).frz (i := 4) rfl hlow))) (by kernel_rfl) (fun _ => hu111) rfl) (ocons (obIdxQ (hS.arr (i := 0) rfl) (by kernel_rfl) (fun _ => hu112)) (ocons (obElQ (i := x108) 0 fI_len (fun _ hd => ((hS.later hd).arr (i := 0) rfl)) (by kernel_rfl) (fun _ => hu112) rfl) (ocons (obSubC (fun _ => hx113)) (ocons (obIdxQ (hS.arr (i := 0) rfl) (by kernel_rfl) (fun _ => hu114)) onil)))))) ⟨by kernel_rfl⟩ fun a w hF hx => ?_
      replace hS := hS.later hx
      replace h := bindS h
      obtain ⟨l115, hl115, h⟩ := h
      refine SK.wi (setK (j := x108) (t := 3) [(1, sv ad1 p1 cap2), (6, pb b8), (12, pb b40), (13, sv ad104 l106 cap105), (49, iv x107), (50, iv x108)] 0 0 u114 x113 (iv x113) hF hS rfl (by kernel_rfl) ⟨by kernel_rfl⟩ fI_len hu114 rfl (by kernel_rfl) (by kernel_rfl) (by kernel_rfl) hl115 ⟨by kernel_rfl⟩ fun w a hF hl hS => ?_)
      simp only [sv, ln, hl] at hF hS
      refine WI.fin rfl (norm_block <| norm_then <| ?_)
      refine WI.region ?_
      replace h := bindS h
      obtain ⟨x116, hx116, h⟩ := h
      refine rno 2 [.run [] (binOp .add 3 (iv x108) (iv 1)) (iv x116)] 2 [(1, sv ad1 p1 cap2), (6, pb b8), (12, pb b40), (13, sv ad104 l115 cap105), (49, iv x107), (50, iv x116)] hF (ocons (obAddC (fun _ => hx116)) onil) fun a hF => ?_
      refine wfn rfl ?_
      rw [hk3] at h
      exact ⟨n_, Nat.lt_succ_self _, l115, x107, x116, ad104, cap105, hF.sub (by kernel_rfl), St.pick [0, 1, 2, 3, 4] (by decide) hS, h⟩
    ·replace h := bif_f h hc
     refine wpIn_exit (exit_then <| exit_then <| exit_hit <| norm_then ?_)
     exact ⟨l106, ad104, cap105, hF.sub (by kernel_rfl), St.pick [0, 1, 2, 3, 4] (by decide) hS, h⟩
   rintro a w ⟨l79, ad77, cap78, hF, hS, h⟩
   rw [plan_judged_K2] at h
   refine esr ?_
   refine rno 2 [.run [] (Instr.loadAt 102 (pb b40)) (.agg #[.pointer pv31, sv ad32 y29.jobs cap33, sv ad34 y29.at_ cap35, iv y29.done])] 2 [(6, pb b8), (73, .agg #[.pointer pv31, sv ad32 y29.jobs cap33, sv ad34 y29.at_ cap35, iv y29.done]), (74, sv ad77 l79 cap78)] hF (ocons (obN (us := [.pointer pv31, sv ad32 y29.jobs cap33, sv ad34 y29.at_ cap35, iv y29.done]) (by kernel_rfl) (fun _ hd => ((hS.at_ hd).blk (i := 1) rfl).cells rfl)) onil) fun a hF => ?_
   refine SK.wi (storeK (t := 102) [(6, pb b8), (74, sv ad77 l79 cap78)] 2 0 (.agg #[.pointer pv31, sv ad32 y29.jobs cap33, sv ad34 y29.at_ cap35, iv y29.done]) #[.pointer pv31, sv ad32 y29.jobs cap33, sv ad34 y29.at_ cap35, iv y29.done] hF hS rfl (by kernel_rfl) ⟨by kernel_rfl⟩ (by kernel_rfl) (by kernel_rfl) (by kernel_rfl) (by kernel_rfl) ⟨by kernel_rfl⟩ fun w a hF hS => ?_)
   refine rn 2 5 [(6, pb b8), (7, sv ad77 l79 cap78), (8, iv 0)] hF fun a hF => ?_
   refine wfn rfl ?_
   refine wpIn_ret (fn_ret [.cell 6 102, .tmp 7, .tmp 8] [.agg #[.pointer pv31, sv ad32 y29.jobs cap33, sv ad34 y29.at_ cap35, iv y29.done], sv ad77 l79 cap78, iv 0] hF rfl ⟨⟨_, rfl, loadVarN (cs := [.pointer pv31, sv ad32 y29.jobs cap33, sv ad34 y29.at_ cap35, iv y29.done]) (by kernel_rfl) ((hS.blk (i := 2) rfl).cells rfl)⟩, rfl, rfl, trivial⟩ ?_)
   obtain ⟨ν80, hx81, hlow, hS, hz82⟩ := hS.freeze (i := 4) (j := 0) rfl rfl (by decide) hlow
   replace hA3 := hA3.mono hx81.1
   replace hA6 := hA6.mono hx81.1
   replace hA26 := hA26.mono Rp113.mono hx81.1
   replace hA36 := hA36.mono Rp113.mono hx81.1
   replace hA37 := hA37.mono hx81.1
   replace hA38 := hA38.mono hx81.1
   replace hext := Frz.ext_trans hext hx81
   replace hS : St w0 [blk b40 102 #[.pointer pv31, sv ad32 y29.jobs cap33, sv ad34 y29.at_ cap35, iv y29.done], blk b8 102 #[.pointer pv31, sv ad32 y29.jobs cap33, sv ad34 y29.at_ cap35, iv y29.done], blk b7 31 p0.ar, fz w0 ν80] w := hS
   have hA83 := ArrM.of_arr hz82
   have hr_ := Option.some.inj h
   subst hr_
   exact ⟨ν80, pv31, ad32, cap33, ad34, cap35, ad77, cap78, hext, rfl, hA36, hA37, hA38, hA83, St.pick [3] (by decide) hS⟩

theorem plan_line_late_ok (F : Nat) (p0 : plan_line) (p1 : Int) (res : Bool) (h : plan_line_late F p0 p1 = some res) (μ : Frz) (w0 : World) (hm : FrzAt μ w0) {pv1 : Option Addr} {ad2 : Option Addr} {cap3 : Nat} {ad4 : Option Addr} {cap5 : Nat} (hA6 : PtM μ 113 Rp113 pv1 p0.desk) (hA7 : ArrM μ 1 fI ad2 cap3 p0.jobs) (hA8 : ArrM μ 1 fI ad4 cap5 p0.at_) : Calls Try.prog 90 #[.agg #[.pointer pv1, sv ad2 p0.jobs cap3, sv ad4 p0.at_ cap5, iv p0.done], iv p1] w0 (fun e w => e = .returned (.bool res) ∧ Ext w0 w) := by
 obtain ⟨hlow, hS⟩ := hm.init
 have hext := Frz.ext_refl w0.heap.size μ
 rw [plan_line_late] at h
 refine fn_enterMW Try.func90 rfl 71 [(0, .agg #[.pointer pv1, sv ad2 p0.jobs cap3, sv ad4 p0.at_ cap5, iv p0.done]), (1, iv p1)] rfl rfl (by kernel_rfl) fun a w hw hF => ?_
 replace hS : St w0 [fz w0 μ] w := by rw [hw]; exact hS
 clear hw
 replace hS := hS.noMarks
 refine esr ?_
 refine SK.wi (boxK (t := 102) (fun b9 => [(1, iv p1), (2, pb b9)]) (.agg #[.pointer pv1, sv ad2 p0.jobs cap3, sv ad4 p0.at_ cap5, iv p0.done]) #[.pointer pv1, sv ad2 p0.jobs cap3, sv ad4 p0.at_ cap5, iv p0.done] hF hS (by kernel_rfl) ⟨by kernel_rfl⟩ (by kernel_rfl) (fun _ => ⟨by kernel_rfl⟩) fun b9 w a hF hS => ?_)
 refine SK.wi (boxK (t := 3) (fun b10 => [(2, pb b9), (3, pb b10)]) (iv p1) #[iv p1] hF hS (by kernel_rfl) ⟨by kernel_rfl⟩ (by kernel_rfl) (fun _ => ⟨by kernel_rfl⟩) fun b10 w a hF hS => ?_)
 refine SK.wi (allocK (t := 4) (fun b11 => [(2, pb b9), (3, pb b10), (4, pb b11)]) #[.bool false] hF hS (by kernel_rfl) ⟨by kernel_rfl⟩ (by kernel_rfl) (fun _ => ⟨by kernel_rfl⟩) fun b11 w a hF hS => ?_)
 refine wfn rfl ?_
 refine esr ?_
 replace h := bindS h
 obtain ⟨y12, hy12, h⟩ := h
 refine rx 3 [.run [] (Instr.loadAt 102 (pb b9)) (.agg #[.pointer pv1, sv ad2 p0.jobs cap3, sv ad4 p0.at_ cap5, iv p0.done]), .run [] (Instr.loadAt 3 (pb b10)) (iv p1), .call [] 79 #[.agg #[.pointer pv1, sv ad2 p0.jobs cap3, sv ad4 p0.at_ cap5, iv p0.done], iv p1] (iv y12)] 3 [(2, pb b9), (3, pb b10), (4, pb b11), (10, iv y12)] hF (ocons (obN (us := [.pointer pv1, sv ad2 p0.jobs cap3, sv ad4 p0.at_ cap5, iv p0.done]) (by kernel_rfl) (fun _ hd => ((hS.later hd).blk (i := 2) rfl).cells rfl)) (ocons (ob1 (by kernel_rfl) (fun _ hd => (hS.later hd).cell (i := 1) (j := 0) rfl rfl)) (ocons (show Ob.ok _ Ext _ _ from fun hk w2 hd => plan_line_next_ok F p0 p1 _ ((fun _ => hy12) hk) _ w2 (memOf_at w2) (hA6.mono Rp113.mono (FrzAt.le_mem ((hS.later hd).frz (i := 4) rfl hlow))) (hA7.mono (FrzAt.le_mem ((hS.later hd).frz (i := 4) rfl hlow))) (hA8.mono (FrzAt.le_mem ((hS.later hd).frz (i := 4) rfl hlow)))) onil))) fun a w hF hx => ?_
 replace hS := hS.later hx
 refine SK.wi (allocK (t := 3) (fun b13 => [(2, pb b9), (3, pb b10), (4, pb b11), (5, pb b13), (10, iv y12)]) #[iv 0] hF hS (by kernel_rfl) ⟨by kernel_rfl⟩ (by kernel_rfl) (fun _ => ⟨by kernel_rfl⟩) fun b13 w a hF hS => ?_)
 refine SK.wi (storeK (t := 3) [(2, pb b9), (3, pb b10), (4, pb b11), (5, pb b13)] 0 0 (iv y12) #[iv y12] hF hS rfl (by kernel_rfl) ⟨by kernel_rfl⟩ (by kernel_rfl) (by kernel_rfl) (by kernel_rfl) (by kernel_rfl) ⟨by kernel_rfl⟩ fun w a hF hS => ?_)
 refine wfn rfl ?_
 refine eseq ?_
 refine esr ?_
 refine rno 2 [.run [] (Instr.loadAt 40 (.pointer (some ⟨b9, 1, none⟩))) (sv ad2 p0.jobs cap3)] 2 [(2, pb b9), (3, pb b10), (4, pb b11), (5, pb b13), (12, sv ad2 p0.jobs cap3)] hF (ocons (ob1 (by kernel_rfl) (fun _ hd => (hS.at_ hd).cell (i := 3) (j := 1) rfl rfl)) onil) fun a hF => ?_
 refine SK.wi (callK (f := 94) (args := #[sv ad2 p0.jobs cap3]) (R := fun v w2 => ∃ b15, v = .func (.func 95) #[] #[pb b15] ∧ St w [blk b15 40 #[sv ad2 p0.jobs cap3]] w2) (fun v14 => [(2, pb b9), (3, pb b10), (4, pb b11), (5, pb b13), (13, v14)]) hF (by kernel_rfl) ⟨by kernel_rfl⟩ (Calls.mono (slices_Backward_int_int_ok p0.jobs _ rfl (memOf w) w (memOf_at w) (hA7.mono (FrzAt.le_mem (hS.frz (i := 5) rfl hlow)))) (by rintro e w2 ⟨b15, rfl, h⟩; exact ⟨_, rfl, b15, rfl, h⟩)) (fun _ => ⟨by kernel_rfl⟩) ?_)
 rintro v14 w a ⟨b15, rfl, hQ⟩ hF
 replace hS : St w0 [blk b15 40 #[sv ad2 p0.jobs cap3], blk b13 3 #[iv y12], blk b11 4 #[.bool false], blk b10 3 #[iv p1], blk b9 102 #[.pointer pv1, sv ad2 p0.jobs cap3, sv ad4 p0.at_ cap5, iv p0.done], markR ([]), fz w0 μ] w := hS.madeL hQ
 refine wfn rfl ?_
 refine wpIn_block ?_
 obtain ⟨ν16, hx17, hlow, hS, hz18⟩ := hS.freeze (i := 6) (j := 0) rfl rfl (by decide) hlow
 replace hA6 := hA6.mono Rp113.mono hx17.1
 replace hA7 := hA7.mono hx17.1
 replace hA8 := hA8.mono hx17.1
 replace hext := Frz.ext_trans hext hx17
 replace hS : St w0 [blk b13 3 #[iv y12], blk b11 4 #[.bool false], blk b10 3 #[iv p1], blk b9 102 #[.pointer pv1, sv ad2 p0.jobs cap3, sv ad4 p0.at_ cap5, iv p0.done], markR ([]), fz w0 ν16] w := hS
 have hB19 : BlkM ν16 b15 40 #[sv ad2 p0.jobs cap3] := hz18
 replace h := bindS h
 obtain ⟨r85, hr85, h⟩ := h
 refine rangeG (gf := 95) (lb := #[pb b15]) (fun l => #[.func (.yield l) #[] #[], pb b15]) (fun H1 => ∃ (ν_n : Frz) (g_n : (Unit)), H1 = [blk b13 3 #[iv y12], blk b11 4 #[.bool r85.1.1], blk b10 3 #[iv p1], blk b9 102 #[.pointer pv1, sv ad2 p0.jobs cap3, sv ad4 p0.at_ cap5, iv p0.done], markR ([]), fz w0 ν_n] ∧ ν16.ext w0.heap.size ν_n ∧ FrzIn w0 ν_n ∧ r85.2 = true) (fun c H1 => ∃ (ν_n : Frz) (g_n : (Unit)), H1 = [blk b13 3 #[iv y12], blk b11 4 #[.bool r85.1.1], blk b10 3 #[iv p1], blk b9 102 #[.pointer pv1, sv ad2 p0.jobs cap3, sv ad4 p0.at_ cap5, iv p0.done], markR ([]), fz w0 ν_n] ∧ ν16.ext w0.heap.size ν_n ∧ FrzIn w0 ν_n ∧ r85.2 = false ∧ c = plan_line_late_c1 (r85.1.2)) (M := [(2, pb b9), (3, pb b10), (4, pb b11), (5, pb b13), (13, .func (.func 95) #[] #[pb b15])]) (hF.sub (by kernel_rfl)) rfl hS (fun _ => rfl) (fun _ => by kernel_rfl) ?_ ?_ ?_
 ·replace hF : Fr 71 (marks ([])) [(2, pb b9), (3, pb b10), (4, pb b11), (5, pb b13), (13, .func (.func 95) #[] #[pb b15])] a := hF.sub (by kernel_rfl)
  intro fn_ l1_ D1_ rec1 w hrec1 hS
  replace hS : St w0 [objR l1_ (rec1 .ready none), objR D1_ (.deferred (some [])), blk b13 3 #[iv y12], blk b11 4 #[.bool false], blk b10 3 #[iv p1], blk b9 102 #[.pointer pv1, sv ad2 p0.jobs cap3, sv ad4 p0.at_ cap5, iv p0.done], markR ([]), fz w0 ν16] w := hS
  refine Calls.mono (slices_Backward_int_int_1_ok F p0.jobs (plan_line_late_Y1 p0 p1 y12) (false, 0) _ hr85 l1_ ν16 w0 w (fun (s_r : (Bool × Nat)) (b_r : Bool) (g_r : (Unit)) => [objR l1_ (rec1 (bif b_r then .ready else .done) (bif b_r then none else some (plan_line_late_c1 (s_r.2)))), objR D1_ (.deferred (some [])), blk b13 3 #[iv y12], blk b11 4 #[.bool s_r.1], blk b10 3 #[iv p1], blk b9 102 #[.pointer pv1, sv ad2 p0.jobs cap3, sv ad4 p0.at_ cap5, iv p0.done], markR ([])]) (fun (s_r : (Bool × Nat)) (b_r : Bool) (g_r : (Unit)) (ν_r : Frz) => True) (fun _ _ _ _ _ h hle => trivial) ?_ (()) [] hlow trivial (St.pickT (A := [objR l1_ (rec1 .ready none), objR D1_ (.deferred (some [])), blk b13 3 #[iv y12], blk b11 4 #[.bool false], blk b10 3 #[iv p1], blk b9 102 #[.pointer pv1, sv ad2 p0.jobs cap3, sv ad4 p0.at_ cap5, iv p0.done], markR ([]), fz w0 ν16]) (T := []) [7, 0, 1, 2, 3, 4, 5, 6] (by decide) (by simpa using hS)) hB19 hA7) ?_
  ·rintro s_r x_ q_r h ν_r g_r G_r w  hxv hlow hP  hS
   replace hA6 := hA6.mono Rp113.mono hxv.1
   replace hA7 := hA7.mono hxv.1
   replace hA8 := hA8.mono hxv.1
   replace hB19 := hB19.mono hxv.1
   have hxr := Frz.ext_refl w0.heap.size ν_r
   replace hext := Frz.ext_trans hext hxv
   replace hS : St w0 (objR l1_ (rec1 .ready none) :: objR D1_ (.deferred (some [])) :: blk b13 3 #[iv y12] :: blk b11 4 #[.bool s_r.1] :: blk b10 3 #[iv p1] :: blk b9 102 #[.pointer pv1, sv ad2 p0.jobs cap3, sv ad4 p0.at_ cap5, iv p0.done] :: markR ([]) :: fz w0 ν_r :: G_r) w := St.pickT (A := [fz w0 ν_r, objR l1_ (rec1 .ready none), objR D1_ (.deferred (some [])), blk b13 3 #[iv y12], blk b11 4 #[.bool s_r.1], blk b10 3 #[iv p1], blk b9 102 #[.pointer pv1, sv ad2 p0.jobs cap3, sv ad4 p0.at_ cap5, iv p0.done], markR ([])]) (T := G_r) [1, 2, 3, 4, 5, 6, 7, 0] (by decide) hS
   rw [plan_line_late_Y1] at h
   refine round_ (rec := rec1) hrec1 [(14, iv x_.1), (15, iv x_.2)] [(2, pb b9), (3, pb b10), (4, pb b11), (5, pb b13), (14, iv x_.1), (15, iv x_.2)] hF (by simp) rfl rfl (by kernel_rfl) hS ?_
   intro a hF
   refine esr ?_
   refine rn 1 1 [(2, pb b9), (3, pb b10), (4, pb b11), (5, pb b13), (6, iv x_.1), (15, iv x_.2)] hF fun a hF => ?_
   refine wfn rfl ?_
   refine WI.region ?_
   refine rn 1 1 [(2, pb b9), (3, pb b10), (4, pb b11), (5, pb b13), (6, iv x_.1), (7, iv x_.2)] hF fun a hF => ?_
   refine wfn rfl ?_
   refine ⟨_, St.pickT (A := [objR l1_ (rec1 .ready none), objR D1_ (.deferred (some [])), blk b13 3 #[iv y12], blk b11 4 #[.bool s_r.1], blk b10 3 #[iv p1], blk b9 102 #[.pointer pv1, sv ad2 p0.jobs cap3, sv ad4 p0.at_ cap5, iv p0.done], markR ([]), fz w0 ν_r]) (T := G_r) [0, 1, 2, 3, 4, 5, 6, 7] (by decide) hS, fun w hS => ?_⟩
   refine wpIn_block ?_
   refine esr ?_
   refine rno 3 [.run [] (Instr.loadAt 3 (pb b10)) (iv p1)] 3 [(2, pb b9), (3, pb b10), (4, pb b11), (5, pb b13), (6, iv x_.1), (18, .bool (x_.2 == p1))] hF (ocons (ob1 (by kernel_rfl) (fun _ hd => (hS.at_ hd).cell (i := 4) (j := 0) rfl rfl)) onil) fun a hF => ?_
   refine wfn rfl ?_
   refine econd hF rfl (fun hc => ?_) (fun hc => ?_)
   ·replace h := bif_t h hc
    refine eseq ?_
    replace h := bindS h
    obtain ⟨u66, hu66, h⟩ := h
    replace h := bindS h
    obtain ⟨x67, hx67, h⟩ := h
    replace h := bindS h
    obtain ⟨d68, hd68, h⟩ := h
    obtain ⟨b69, cs70, hp71, hB72, hR73⟩ := PtM.some hA6 hd68
    obtain ⟨ad74, cap75, ad76, cap77, ad78, cap79, css80, rfl, hA81, hA82, hA83⟩ := hR73
    try rw [hp71] at hF
    try rw [hp71] at hS
    try rw [hp71] at hB72
    try rw [hp71] at hB19
    replace h := bindS h
    obtain ⟨u84, hu84, h⟩ := h
    refine runD (obs := [.run [] (Instr.loadAt 3 (pb b13)) (iv y12), .run [] (Instr.loadAt 40 (.pointer (some ⟨b9, 2, none⟩))) (sv ad4 p0.at_ cap5), .run [] (Instr.indexAt 40 (sv ad4 p0.at_ cap5) (iv x_.1)) (.pointer (some (slAddr ad4 x_.1 1))), .run [] (Instr.loadAt 3 (.pointer (some (slAddr ad4 x_.1 1)))) (iv u66), .run [] (binOp .sub 3 (iv y12) (iv u66)) (iv x67), .run [] (Instr.loadAt 100 (pb b9)) (pb b69), .run [] (Instr.loadAt 43 (pb b69)) (sv ad74 d68.jobs cap75), .run [] (Instr.loadAt 3 (pb b10)) (iv p1), .run [] (Instr.indexAt 43 (sv ad74 d68.jobs cap75) (iv p1)) (.pointer (some (slAddr ad74 p1 8))), .run [] (Instr.loadAt 3 (.pointer (some ((slAddr ad74 p1 8).add 7)))) (iv u84.Every)]) 17 [(4, pb b11), (35, .bool (decide (x67 > u84.Every)))] (by kernel_rfl) hF (by kernel_rfl) (ocons (ob1 (by kernel_rfl) (fun _ hd => (hS.later hd).cell (i := 2) (j := 0) rfl rfl)) (ocons (ob1 (by kernel_rfl) (fun _ hd => (hS.later hd).cell (i := 5) (j := 2) rfl rfl)) (ocons (obIdxQ (hA8 _ (hS.frz (i := 7) rfl hlow)) (by kernel_rfl) (fun _ => hu66)) (ocons (obElQ (i := x_.1) 0 fI_len (fun _ hd => (hA8 _ ((hS.later hd).frz (i := 7) rfl hlow))) (by kernel_rfl) (fun _ => hu66) rfl) (ocons (obSubC (fun _ => hx67)) (ocons (ob1 (by kernel_rfl) (fun _ hd => (hS.later hd).cell (i := 5) (j := 0) rfl rfl)) (ocons (ob1 (by kernel_rfl) (fun _ hd => (hB72.blk ((hS.later hd).frz (i := 7) rfl hlow)).cell1 (j := 0) rfl)) (ocons (ob1 (by kernel_rfl) (fun _ hd => (hS.later hd).cell (i := 4) (j := 0) rfl rfl)) (ocons (obIdxQ (hA81 _ (hS.frz (i := 7) rfl hlow)) (by kernel_rfl) (fun _ => hu84)) (ocons (obElQ (i := p1) 7 plan_Job.cells_len (fun _ hd => (hA81 _ ((hS.later hd).frz (i := 7) rfl hlow))) (by kernel_rfl) (fun _ => hu84) rfl) onil)))))))))) ⟨by kernel_rfl⟩ fun a w hF hx => ?_
    replace hS := hS.later hx
    refine SK.wi (storeK (t := 4) [(4, pb b11)] 3 0 (.bool (decide (x67 > u84.Every))) #[.bool (decide (x67 > u84.Every))] hF hS rfl (by kernel_rfl) ⟨by kernel_rfl⟩ (by kernel_rfl) (by kernel_rfl) (by kernel_rfl) (by kernel_rfl) ⟨by kernel_rfl⟩ fun w a hF hS => ?_)
    refine wfn rfl ?_
    refine wpIn_ret (ret_block ?_)
    try simp only [pb, ← hp71] at hF
    try simp only [pb, ← hp71] at hS
    have hr_ := Option.some.inj h
    subst hr_
    refine ⟨_, St.pickT (A := [objR l1_ (rec1 .busy none), objR D1_ (.deferred (some [])), blk b13 3 #[iv y12], blk b11 4 #[.bool (decide (x67 > u84.Every))], blk b10 3 #[iv p1], blk b9 102 #[.pointer pv1, sv ad2 p0.jobs cap3, sv ad4 p0.at_ cap5, iv p0.done], markR ([]), fz w0 ν_r]) (T := G_r) [0, 1, 2, 3, 4, 5, 6, 7] (by decide) hS, fun w hS => ⟨rfl, ν_r, (()), hxr, hlow, trivial, St.pickT (A := [objR l1_ (rec1 .done (some (Code.ret))), objR D1_ (.deferred (some [])), blk b13 3 #[iv y12], blk b11 4 #[.bool (decide (x67 > u84.Every))], blk b10 3 #[iv p1], blk b9 102 #[.pointer pv1, sv ad2 p0.jobs cap3, sv ad4 p0.at_ cap5, iv p0.done], markR ([]), fz w0 ν_r]) (T := G_r) [7, 0, 1, 2, 3, 4, 5, 6] (by decide) hS⟩⟩
   ·replace h := bif_f h hc
    refine wpIn_skip (norm_block ?_)
    have hr_ := Option.some.inj h
    subst hr_
    refine ⟨_, St.pickT (A := [objR l1_ (rec1 .busy none), objR D1_ (.deferred (some [])), blk b13 3 #[iv y12], blk b11 4 #[.bool s_r.1], blk b10 3 #[iv p1], blk b9 102 #[.pointer pv1, sv ad2 p0.jobs cap3, sv ad4 p0.at_ cap5, iv p0.done], markR ([]), fz w0 ν_r]) (T := G_r) [0, 1, 2, 3, 4, 5, 6, 7] (by decide) hS, fun w hS => ⟨rfl, ν_r, (()), hxr, hlow, trivial, St.pickT (A := [objR l1_ (rec1 .ready none), objR D1_ (.deferred (some [])), blk b13 3 #[iv y12], blk b11 4 #[.bool s_r.1], blk b10 3 #[iv p1], blk b9 102 #[.pointer pv1, sv ad2 p0.jobs cap3, sv ad4 p0.at_ cap5, iv p0.done], markR ([]), fz w0 ν_r]) (T := G_r) [7, 0, 1, 2, 3, 4, 5, 6] (by decide) hS⟩⟩
  ·rintro e w2 ⟨ν_n, g_n, hxn, hlown, hPn, rfl, hSn⟩
   refine ⟨_, rfl, ?_⟩
   rcases Bool.eq_false_or_eq_true r85.2 with hb_ | hb_
   ·rw [hb_] at hSn
    refine .inl ⟨_, ⟨ν_n, g_n, rfl, hxn, hlown, hb_⟩, (by have := St.pickT (A := [fz w0 ν_n, objR l1_ (rec1 .ready none), objR D1_ (.deferred (some [])), blk b13 3 #[iv y12], blk b11 4 #[.bool r85.1.1], blk b10 3 #[iv p1], blk b9 102 #[.pointer pv1, sv ad2 p0.jobs cap3, sv ad4 p0.at_ cap5, iv p0.done], markR ([])]) (T := []) [1, 2, 3, 4, 5, 6, 7, 0] (by decide) hSn; simpa using this)⟩
   ·rw [hb_] at hSn
    refine .inr ⟨_, _, ⟨ν_n, g_n, rfl, hxn, hlown, hb_, rfl⟩, (by have := St.pickT (A := [fz w0 ν_n, objR l1_ (rec1 .done (some (plan_line_late_c1 (r85.1.2)))), objR D1_ (.deferred (some [])), blk b13 3 #[iv y12], blk b11 4 #[.bool r85.1.1], blk b10 3 #[iv p1], blk b9 102 #[.pointer pv1, sv ad2 p0.jobs cap3, sv ad4 p0.at_ cap5, iv p0.done], markR ([])]) (T := []) [1, 2, 3, 4, 5, 6, 7, 0] (by decide) hSn; simpa using this)⟩
 ·rintro D88 a w _ ⟨ν87, g86, rfl, hxn, hlow, hb_⟩ hF hS
  replace hA6 := hA6.mono Rp113.mono hxn.1
  replace hA7 := hA7.mono hxn.1
  replace hA8 := hA8.mono hxn.1
  replace hB19 := hB19.mono hxn.1
  replace hext := Frz.ext_trans hext hxn
  replace hS : St w0 [objR D88 (.deferred (some [])), blk b13 3 #[iv y12], blk b11 4 #[.bool r85.1.1], blk b10 3 #[iv p1], blk b9 102 #[.pointer pv1, sv ad2 p0.jobs cap3, sv ad4 p0.at_ cap5, iv p0.done], markR ([]), fz w0 ν87] w := hS
  replace hS := St.mark (St.pick [0, 5, 1, 2, 3, 4, 6] (by decide) hS)
  replace hS : St w0 [markR (D88 :: []), blk b13 3 #[iv y12], blk b11 4 #[.bool r85.1.1], blk b10 3 #[iv p1], blk b9 102 #[.pointer pv1, sv ad2 p0.jobs cap3, sv ad4 p0.at_ cap5, iv p0.done], fz w0 ν87] w := hS
  replace hF : Fr 71 (marks (D88 :: [])) [(2, pb b9), (3, pb b10), (4, pb b11), (5, pb b13), (13, .func (.func 95) #[] #[pb b15])] a := hF
  replace h := bif_t h hb_
  refine norm_block <| norm_then <| ?_
  replace hF : Fr 71 (marks (D88 :: [])) [(2, pb b9), (3, pb b10), (4, pb b11), (5, pb b13)] a := hF.sub (by kernel_rfl)
  refine eseq ?_
  replace h := bindS h
  obtain ⟨d89, hd89, h⟩ := h
  obtain ⟨b90, cs91, hp92, hB93, hR94⟩ := PtM.some hA6 hd89
  obtain ⟨ad95, cap96, ad97, cap98, ad99, cap100, css101, rfl, hA102, hA103, hA104⟩ := hR94
  try rw [hp92] at hF
  try rw [hp92] at hS
  try rw [hp92] at hB93
  try rw [hp92] at hB19
  replace h := bindS h
  obtain ⟨u105, hu105, h⟩ := h
  replace h := bindS h
  obtain ⟨x106, hx106, h⟩ := h
  replace h := bindS h
  obtain ⟨u107, hu107, h⟩ := h
  obtain ⟨cs108, hcs109, hR110⟩ := getI_all2 hA104.2 hu107
  obtain ⟨ad111, cap112, rfl, hA113⟩ := hR110
  replace h := bindS h
  obtain ⟨u114, hu114, h⟩ := h
  replace h := bindS h
  obtain ⟨u115, hu115, h⟩ := h
  replace h := bindS h
  obtain ⟨x116, hx116, h⟩ := h
  replace h := bindS h
  obtain ⟨u117, hu117, h⟩ := h
  refine runD (obs := [.run [] (Instr.loadAt 3 (pb b13)) (iv y12), .run [] (Instr.loadAt 100 (pb b9)) (pb b90), .run [] (Instr.loadAt 40 (.pointer (some ⟨b90, 1, none⟩))) (sv ad97 d89.takes cap98), .run [] (Instr.loadAt 3 (pb b10)) (iv p1), .run [] (Instr.indexAt 40 (sv ad97 d89.takes cap98) (iv p1)) (.pointer (some (slAddr ad97 p1 1))), .run [] (Instr.loadAt 3 (.pointer (some (slAddr ad97 p1 1)))) (iv u105), .run [] (binOp .add 3 (iv y12) (iv u105)) (iv x106), .run [] (Instr.loadAt 100 (pb b9)) (pb b90), .run [] (Instr.loadAt 111 (.pointer (some ⟨b90, 2, none⟩))) (sv ad99 d89.moves cap100), .run [] (Instr.loadAt 3 (pb b10)) (iv p1), .run [] (Instr.indexAt 111 (sv ad99 d89.moves cap100) (iv p1)) (.pointer (some (slAddr ad99 p1 1))), .run [] (Instr.loadAt 40 (.pointer (some (slAddr ad99 p1 1)))) (sv ad111 u107 cap112), .run [] (Instr.loadAt 40 (.pointer (some ⟨b9, 1, none⟩))) (sv ad2 p0.jobs cap3), .run [] (Instr.indexAt 40 (sv ad2 p0.jobs cap3) (iv 0)) (.pointer (some (slAddr ad2 0 1))), .run [] (Instr.loadAt 3 (.pointer (some (slAddr ad2 0 1)))) (iv u114), .run [] (Instr.indexAt 40 (sv ad111 u107 cap112) (iv u114)) (.pointer (some (slAddr ad111 u114 1))), .run [] (Instr.loadAt 3 (.pointer (some (slAddr ad111 u114 1)))) (iv u115), .run [] (binOp .add 3 (iv x106) (iv u115)) (iv x116), .run [] (Instr.loadAt 100 (pb b9)) (pb b90), .run [] (Instr.loadAt 43 (pb b90)) (sv ad95 d89.jobs cap96), .run [] (Instr.loadAt 3 (pb b10)) (iv p1), .run [] (Instr.indexAt 43 (sv ad95 d89.jobs cap96) (iv p1)) (.pointer (some (slAddr ad95 p1 8))), .run [] (Instr.loadAt 3 (.pointer (some ((slAddr ad95 p1 8).add 7)))) (iv u117.Every)]) 35 [(4, pb b11), (70, .bool (decide (x116 > u117.Every)))] (by kernel_rfl) hF (by kernel_rfl) (ocons (ob1 (by kernel_rfl) (fun _ hd => (hS.later hd).cell (i := 1) (j := 0) rfl rfl)) (ocons (ob1 (by kernel_rfl) (fun _ hd => (hS.later hd).cell (i := 4) (j := 0) rfl rfl)) (ocons (ob1 (by kernel_rfl) (fun _ hd => (hB93.blk ((hS.later hd).frz (i := 5) rfl hlow)).cell1 (j := 1) rfl)) (ocons (ob1 (by kernel_rfl) (fun _ hd => (hS.later hd).cell (i := 3) (j := 0) rfl rfl)) (ocons (obIdxQ (hA103 _ (hS.frz (i := 5) rfl hlow)) (by kernel_rfl) (fun _ => hu105)) (ocons (obElQ (i := p1) 0 fI_len (fun _ hd => (hA103 _ ((hS.later hd).frz (i := 5) rfl hlow))) (by kernel_rfl) (fun _ => hu105) rfl) (ocons (obAddC (fun _ => hx106)) (ocons (ob1 (by kernel_rfl) (fun _ hd => (hS.later hd).cell (i := 4) (j := 0) rfl rfl)) (ocons (ob1 (by kernel_rfl) (fun _ hd => (hB93.blk ((hS.later hd).frz (i := 5) rfl hlow)).cell1 (j := 2) rfl)) (ocons (ob1 (by kernel_rfl) (fun _ hd => (hS.later hd).cell (i := 3) (j := 0) rfl rfl)) (ocons (obIdxQ (hA104.at (hS.frz (i := 5) rfl hlow)) (by kernel_rfl) (fun _ => hcs109)) (ocons (obElQ (i := p1) 0 (fN_len 1) (fun _ hd => (hA104.at ((hS.later hd).frz (i := 5) rfl hlow))) (by kernel_rfl) (fun _ => hcs109) rfl) (ocons (ob1 (by kernel_rfl) (fun _ hd => (hS.later hd).cell (i := 4) (j := 1) rfl rfl)) (ocons (obIdxQ (hA7 _ (hS.frz (i := 5) rfl hlow)) (by kernel_rfl) (fun _ => hu114)) (ocons (obElQ (i := 0) 0 fI_len (fun _ hd => (hA7 _ ((hS.later hd).frz (i := 5) rfl hlow))) (by kernel_rfl) (fun _ => hu114) rfl) (ocons (obIdxQ (hA113 _ (hS.frz (i := 5) rfl hlow)) (by kernel_rfl) (fun _ => hu115)) (ocons (obElQ (i := u114) 0 fI_len (fun _ hd => (hA113 _ ((hS.later hd).frz (i := 5) rfl hlow))) (by kernel_rfl) (fun _ => hu115) rfl) (ocons (obAddC (fun _ => hx116)) (ocons (ob1 (by kernel_rfl) (fun _ hd => (hS.later hd).cell (i := 4) (j := 0) rfl rfl)) (ocons (ob1 (by kernel_rfl) (fun _ hd => (hB93.blk ((hS.later hd).frz (i := 5) rfl hlow)).cell1 (j := 0) rfl)) (ocons (ob1 (by kernel_rfl) (fun _ hd => (hS.later hd).cell (i := 3) (j := 0) rfl rfl)) (ocons (obIdxQ (hA102 _ (hS.frz (i := 5) rfl hlow)) (by kernel_rfl) (fun _ => hu117)) (ocons (obElQ (i := p1) 7 plan_Job.cells_len (fun _ hd => (hA102 _ ((hS.later hd).frz (i := 5) rfl hlow))) (by kernel_rfl) (fun _ => hu117) rfl) onil))))))))))))))))))))))) ⟨by kernel_rfl⟩ fun a w hF hx => ?_
  replace hS := hS.later hx
  refine SK.wi (storeK (t := 4) [(4, pb b11)] 2 0 (.bool (decide (x116 > u117.Every))) #[.bool (decide (x116 > u117.Every))] hF hS rfl (by kernel_rfl) ⟨by kernel_rfl⟩ (by kernel_rfl) (by kernel_rfl) (by kernel_rfl) (by kernel_rfl) ⟨by kernel_rfl⟩ fun w a hF hS => ?_)
  refine wfn rfl ?_
  refine wpIn_ret (fn_retM (H := [blk b13 3 #[iv y12], blk b11 4 #[.bool (decide (x116 > u117.Every))], blk b10 3 #[iv p1], blk b9 102 #[pb b90, sv ad2 p0.jobs cap3, sv ad4 p0.at_ cap5, iv p0.done], fz w0 ν87]) [.cell 4 4] [.bool (decide (x116 > u117.Every))] hF (St.pick [0, 1, 2, 3, 4, 5] (by decide) hS) rfl fun w hS => ⟨⟨⟨_, rfl, loadVar1 (by kernel_rfl) (hS.cell (i := 1) (j := 0) rfl rfl)⟩, trivial⟩, ?_⟩)
  have hr_ := Option.some.inj h
  subst hr_
  exact ⟨rfl, hS.ext⟩
 rintro D88 _ a w _ ⟨ν87, g86, rfl, hxn, hlow, hb_, rfl⟩ hF hS
 replace hA6 := hA6.mono Rp113.mono hxn.1
 replace hA7 := hA7.mono hxn.1
 replace hA8 := hA8.mono hxn.1
 replace hB19 := hB19.mono hxn.1
 replace hext := Frz.ext_trans hext hxn
 replace hS : St w0 [objR D88 (.deferred (some [])), blk b13 3 #[iv y12], blk b11 4 #[.bool r85.1.1], blk b10 3 #[iv p1], blk b9 102 #[.pointer pv1, sv ad2 p0.jobs cap3, sv ad4 p0.at_ cap5, iv p0.done], markR ([]), fz w0 ν87] w := hS
 replace hS := St.mark (St.pick [0, 5, 1, 2, 3, 4, 6] (by decide) hS)
 replace hS : St w0 [markR (D88 :: []), blk b13 3 #[iv y12], blk b11 4 #[.bool r85.1.1], blk b10 3 #[iv p1], blk b9 102 #[.pointer pv1, sv ad2 p0.jobs cap3, sv ad4 p0.at_ cap5, iv p0.done], fz w0 ν87] w := hS
 replace hF : Fr 71 (marks (D88 :: [])) [(2, pb b9), (3, pb b10), (4, pb b11), (5, pb b13), (13, .func (.func 95) #[] #[pb b15])] a := hF
 replace h := bif_f h hb_
 show WP _ _ Code.ret _ a w
 refine wpIn_ret (ret_block <| ret_then <| fn_retM (H := [blk b13 3 #[iv y12], blk b11 4 #[.bool r85.1.1], blk b10 3 #[iv p1], blk b9 102 #[.pointer pv1, sv ad2 p0.jobs cap3, sv ad4 p0.at_ cap5, iv p0.done], fz w0 ν87]) [.cell 4 4] [.bool r85.1.1] hF (St.pick [0, 1, 2, 3, 4, 5] (by decide) hS) rfl fun w hS => ⟨⟨⟨_, rfl, loadVar1 (by kernel_rfl) (hS.cell (i := 1) (j := 0) rfl rfl)⟩, trivial⟩, ?_⟩)
 have hr_ := Option.some.inj h
 subst hr_
 exact ⟨rfl, hS.ext⟩
end Go.Proofs.Ytejffembnkojjaa
