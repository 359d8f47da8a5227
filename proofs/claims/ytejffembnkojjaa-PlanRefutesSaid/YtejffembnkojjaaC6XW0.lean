/- Walks, written by program (wip/gen/dec.py). -/
import Derived.Test.YtejffembnkojjaaC6XD
import Derived.Test.YtejffembnkojjaaProg
namespace Go.Proofs.Ytejffembnkojjaa
open Go Go.RowKit Go.Eng
set_option maxRecDepth 10000
set_option maxHeartbeats 4000000
set_option linter.unusedVariables false
set_option linter.unusedSimpArgs false
theorem plan_in_ok (p0 : Int) (p1 : Int) (p2 : Int) (res : Bool) (h : plan_in p0 p1 p2 = res) (μ : Frz) (w0 : World) (hm : FrzAt μ w0) : Calls Try.prog 50 #[iv p0, iv p1, iv p2] w0 (fun e w => e = .returned (.bool res) ∧ Ext w0 w) := by
 obtain ⟨hlow, hS⟩ := hm.init
 have hext := Frz.ext_refl w0.heap.size μ
 rw [plan_in] at h
 refine fn_enterW Try.func50 rfl 15 [(0, iv p0), (1, iv p1), (2, iv p2)] rfl rfl (by kernel_rfl) fun a w hw hF => ?_
 replace hS : St w0 [fz w0 μ] w := by rw [hw]; exact hS
 clear hw
 refine esr ?_
 refine rn 1 1 [(0, iv p0), (1, iv p1), (2, iv p2)] hF fun a hF => ?_
 refine wfn rfl ?_
 refine esr ?_
 refine rn 9 9 [(6, .bool (bif (decide (p0 ≥ p1)) then (decide (p0 ≤ p2)) else false))] hF fun a hF => ?_
 refine wfn rfl ?_
 refine wpIn_ret (fn_ret [.tmp 6] [.bool (bif (decide (p0 ≥ p1)) then (decide (p0 ≤ p2)) else false)] hF rfl ⟨rfl, trivial⟩ ?_)
 subst h
 exact ⟨rfl, hS.ext⟩

theorem pulse_within_ok (p0 : Int) (p1 : Int) (p2 : Int) (res : Bool) (h : pulse_within p0 p1 p2 = res) (μ : Frz) (w0 : World) (hm : FrzAt μ w0) : Calls Try.prog 78 #[iv p0, iv p1, iv p2] w0 (fun e w => e = .returned (.bool res) ∧ Ext w0 w) := by
 obtain ⟨hlow, hS⟩ := hm.init
 have hext := Frz.ext_refl w0.heap.size μ
 rw [pulse_within] at h
 refine fn_enterW Try.func78 rfl 15 [(0, iv p0), (1, iv p1), (2, iv p2)] rfl rfl (by kernel_rfl) fun a w hw hF => ?_
 replace hS : St w0 [fz w0 μ] w := by rw [hw]; exact hS
 clear hw
 refine esr ?_
 refine rn 1 1 [(0, iv p0), (1, iv p1), (2, iv p2)] hF fun a hF => ?_
 refine wfn rfl ?_
 refine esr ?_
 refine rn 9 9 [(6, .bool (bif (decide (p1 ≤ p0)) then (decide (p0 ≤ p2)) else false))] hF fun a hF => ?_
 refine wfn rfl ?_
 refine wpIn_ret (fn_ret [.tmp 6] [.bool (bif (decide (p1 ≤ p0)) then (decide (p0 ≤ p2)) else false)] hF rfl ⟨rfl, trivial⟩ ?_)
 subst h
 exact ⟨rfl, hS.ext⟩

theorem plan_Radar_time_1_ok (F : Nat) (c0_ : pulse_Train) (res : Int) (h : plan_Radar_time_1 F c0_ = some res) (μ : Frz) (w0 : World) (hm : FrzAt μ w0) {cb0 : Nat} (hcb0 : BlkM μ cb0 32 c0_.ar) : Calls Try.prog 71 #[pb cb0] w0 (fun e w => e = .returned (iv res) ∧ Ext w0 w) := by
 obtain ⟨hlow, hS⟩ := hm.init
 have hext := Frz.ext_refl w0.heap.size μ
 rw [plan_Radar_time_1] at h
 refine fn_enterW Try.func71 rfl 7 [(0, pb cb0)] rfl rfl (by kernel_rfl) fun a w hw hF => ?_
 replace hS : St w0 [fz w0 μ] w := by rw [hw]; exact hS
 clear hw
 refine esr ?_
 refine rn 1 1 [(0, pb cb0)] hF fun a hF => ?_
 refine wfn rfl ?_
 refine esr ?_
 replace h := bindS h
 obtain ⟨x1, hx1, h⟩ := h
 refine rno 6 [.run [] (Instr.loadAt 3 (.pointer (some ⟨cb0, 4, none⟩))) (iv c0_.Count), .run [] (Instr.loadAt 3 (.pointer (some ⟨cb0, 2, none⟩))) (iv c0_.First), .run [] (binOp .mul 3 (iv c0_.Count) (iv c0_.First)) (iv x1)] 6 [(1, iv x1)] hF (ocons (ob1 (by kernel_rfl) (fun _ hd => (hcb0.blk ((hS.at_ hd).frz (i := 0) rfl hlow)).cell1 (j := 4) rfl)) (ocons (ob1 (by kernel_rfl) (fun _ hd => (hcb0.blk ((hS.at_ hd).frz (i := 0) rfl hlow)).cell1 (j := 2) rfl)) (ocons (obMulC (fun _ => hx1)) onil))) fun a hF => ?_
 refine wfn rfl ?_
 refine wpIn_ret (fn_ret [.tmp 1] [iv x1] hF rfl ⟨rfl, trivial⟩ ?_)
 have hr_ := Option.some.inj h
 subst hr_
 exact ⟨rfl, hS.ext⟩

theorem plan_Radar_time_2_ok (F : Nat) (c0_ : pulse_Train) (res : Int) (h : plan_Radar_time_2 F c0_ = some res) (μ : Frz) (w0 : World) (hm : FrzAt μ w0) {cb0 : Nat} (hcb0 : BlkM μ cb0 32 c0_.ar) : Calls Try.prog 72 #[pb cb0] w0 (fun e w => e = .returned (iv res) ∧ Ext w0 w) := by
 obtain ⟨hlow, hS⟩ := hm.init
 have hext := Frz.ext_refl w0.heap.size μ
 rw [plan_Radar_time_2] at h
 refine fn_enterW Try.func72 rfl 11 [(0, pb cb0)] rfl rfl (by kernel_rfl) fun a w hw hF => ?_
 replace hS : St w0 [fz w0 μ] w := by rw [hw]; exact hS
 clear hw
 refine esr ?_
 refine rn 1 1 [(0, pb cb0)] hF fun a hF => ?_
 refine wfn rfl ?_
 refine esr ?_
 replace h := bindS h
 obtain ⟨x1, hx1, h⟩ := h
 replace h := bindS h
 obtain ⟨x2, hx2, h⟩ := h
 replace h := bindS h
 obtain ⟨x3, hx3, h⟩ := h
 refine rno 10 [.run [] (Instr.loadAt 3 (.pointer (some ⟨cb0, 4, none⟩))) (iv c0_.Count), .run [] (binOp .quo 3 (iv c0_.Count) (iv 2)) (iv x1), .run [] (Instr.loadAt 3 (.pointer (some ⟨cb0, 2, none⟩))) (iv c0_.First), .run [] (Instr.loadAt 3 (.pointer (some ⟨cb0, 3, none⟩))) (iv c0_.Second), .run [] (binOp .add 3 (iv c0_.First) (iv c0_.Second)) (iv x2), .run [] (binOp .mul 3 (iv x1) (iv x2)) (iv x3)] 10 [(1, iv x3)] hF (ocons (ob1 (by kernel_rfl) (fun _ hd => (hcb0.blk ((hS.at_ hd).frz (i := 0) rfl hlow)).cell1 (j := 4) rfl)) (ocons (obQuoC (fun _ => hx1)) (ocons (ob1 (by kernel_rfl) (fun _ hd => (hcb0.blk ((hS.at_ hd).frz (i := 0) rfl hlow)).cell1 (j := 2) rfl)) (ocons (ob1 (by kernel_rfl) (fun _ hd => (hcb0.blk ((hS.at_ hd).frz (i := 0) rfl hlow)).cell1 (j := 3) rfl)) (ocons (obAddC (fun _ => hx2)) (ocons (obMulC (fun _ => hx3)) onil)))))) fun a hF => ?_
 refine wfn rfl ?_
 refine wpIn_ret (fn_ret [.tmp 1] [iv x3] hF rfl ⟨rfl, trivial⟩ ?_)
 have hr_ := Option.some.inj h
 subst hr_
 exact ⟨rfl, hS.ext⟩

theorem plan_Radar_time_3_ok (F : Nat) (c0_ : pulse_Train) (res : Int) (h : plan_Radar_time_3 F c0_ = some res) (μ : Frz) (w0 : World) (hm : FrzAt μ w0) {cb0 : Nat} (hcb0 : BlkM μ cb0 32 c0_.ar) : Calls Try.prog 73 #[pb cb0] w0 (fun e w => e = .returned (iv res) ∧ Ext w0 w) := by
 obtain ⟨hlow, hS⟩ := hm.init
 have hext := Frz.ext_refl w0.heap.size μ
 rw [plan_Radar_time_3] at h
 refine fn_enterW Try.func73 rfl 16 [(0, pb cb0)] rfl rfl (by kernel_rfl) fun a w hw hF => ?_
 replace hS : St w0 [fz w0 μ] w := by rw [hw]; exact hS
 clear hw
 refine esr ?_
 refine rn 1 1 [(0, pb cb0)] hF fun a hF => ?_
 refine wfn rfl ?_
 refine esr ?_
 replace h := bindS h
 obtain ⟨x1, hx1, h⟩ := h
 replace h := bindS h
 obtain ⟨x2, hx2, h⟩ := h
 replace h := bindS h
 obtain ⟨x3, hx3, h⟩ := h
 replace h := bindS h
 obtain ⟨x4, hx4, h⟩ := h
 replace h := bindS h
 obtain ⟨x5, hx5, h⟩ := h
 replace h := bindS h
 obtain ⟨x6, hx6, h⟩ := h
 refine rno 15 [.run [] (Instr.loadAt 3 (.pointer (some ⟨cb0, 4, none⟩))) (iv c0_.Count), .run [] (binOp .add 3 (iv c0_.Count) (iv 1)) (iv x1), .run [] (binOp .quo 3 (iv x1) (iv 2)) (iv x2), .run [] (Instr.loadAt 3 (.pointer (some ⟨cb0, 2, none⟩))) (iv c0_.First), .run [] (binOp .mul 3 (iv x2) (iv c0_.First)) (iv x3), .run [] (Instr.loadAt 3 (.pointer (some ⟨cb0, 4, none⟩))) (iv c0_.Count), .run [] (binOp .quo 3 (iv c0_.Count) (iv 2)) (iv x4), .run [] (Instr.loadAt 3 (.pointer (some ⟨cb0, 3, none⟩))) (iv c0_.Second), .run [] (binOp .mul 3 (iv x4) (iv c0_.Second)) (iv x5), .run [] (binOp .add 3 (iv x3) (iv x5)) (iv x6)] 15 [(1, iv x6)] hF (ocons (ob1 (by kernel_rfl) (fun _ hd => (hcb0.blk ((hS.at_ hd).frz (i := 0) rfl hlow)).cell1 (j := 4) rfl)) (ocons (obAddC (fun _ => hx1)) (ocons (obQuoC (fun _ => hx2)) (ocons (ob1 (by kernel_rfl) (fun _ hd => (hcb0.blk ((hS.at_ hd).frz (i := 0) rfl hlow)).cell1 (j := 2) rfl)) (ocons (obMulC (fun _ => hx3)) (ocons (ob1 (by kernel_rfl) (fun _ hd => (hcb0.blk ((hS.at_ hd).frz (i := 0) rfl hlow)).cell1 (j := 4) rfl)) (ocons (obQuoC (fun _ => hx4)) (ocons (ob1 (by kernel_rfl) (fun _ hd => (hcb0.blk ((hS.at_ hd).frz (i := 0) rfl hlow)).cell1 (j := 3) rfl)) (ocons (obMulC (fun _ => hx5)) (ocons (obAddC (fun _ => hx6)) onil)))))))))) fun a hF => ?_
 refine wfn rfl ?_
 refine wpIn_ret (fn_ret [.tmp 1] [iv x6] hF rfl ⟨rfl, trivial⟩ ?_)
 have hr_ := Option.some.inj h
 subst hr_
 exact ⟨rfl, hS.ext⟩

theorem plan_up_ok (F : Nat) (p0 : Int) (p1 : Int) (res : Int) (h : plan_up F p0 p1 = some res) (μ : Frz) (w0 : World) (hm : FrzAt μ w0) : Calls Try.prog 74 #[iv p0, iv p1] w0 (fun e w => e = .returned (iv res) ∧ Ext w0 w) := by
 obtain ⟨hlow, hS⟩ := hm.init
 have hext := Frz.ext_refl w0.heap.size μ
 rw [plan_up] at h
 refine fn_enterW Try.func74 rfl 11 [(0, iv p0), (1, iv p1)] rfl rfl (by kernel_rfl) fun a w hw hF => ?_
 replace hS : St w0 [fz w0 μ] w := by rw [hw]; exact hS
 clear hw
 refine esr ?_
 refine rn 1 1 [(0, iv p0), (1, iv p1)] hF fun a hF => ?_
 refine wfn rfl ?_
 refine esr ?_
 replace h := bindS h
 obtain ⟨x1, hx1, h⟩ := h
 replace h := bindS h
 obtain ⟨x2, hx2, h⟩ := h
 replace h := bindS h
 obtain ⟨x3, hx3, h⟩ := h
 refine rno 7 [.run [] (binOp .add 3 (iv p0) (iv p1)) (iv x1), .run [] (binOp .sub 3 (iv x1) (iv 1)) (iv x2), .run [] (binOp .quo 3 (iv x2) (iv p1)) (iv x3)] 7 [(4, iv x3)] hF (ocons (obAddC (fun _ => hx1)) (ocons (obSubC (fun _ => hx2)) (ocons (obQuoC (fun _ => hx3)) onil))) fun a hF => ?_
 refine wfn rfl ?_
 refine wpIn_ret (fn_ret [.tmp 4] [iv x3] hF rfl ⟨rfl, trivial⟩ ?_)
 have hr_ := Option.some.inj h
 subst hr_
 exact ⟨rfl, hS.ext⟩

theorem law06_job_ok (p0 : ref06_Job) (res : plan_Job) (h : law06_job p0 = res) (μ : Frz) (w0 : World) (hm : FrzAt μ w0) : Calls Try.prog 15 #[p0.ag] w0 (fun e w => e = .returned (res.ag) ∧ Ext w0 w) := by
 obtain ⟨hlow, hS⟩ := hm.init
 have hext := Frz.ext_refl w0.heap.size μ
 rw [law06_job] at h
 refine fn_enterW Try.func15 rfl 12 [(0, p0.ag)] rfl rfl (by kernel_rfl) fun a w hw hF => ?_
 replace hS : St w0 [fz w0 μ] w := by rw [hw]; exact hS
 clear hw
 refine esr ?_
 refine SK.wi (boxK (t := 27) (fun b1 => [(1, pb b1)]) (p0.ag) p0.ar hF hS (by kernel_rfl) ⟨by kernel_rfl⟩ (by kernel_rfl) (fun _ => ⟨by kernel_rfl⟩) fun b1 w a hF hS => ?_)
 refine SK.wi (allocK (t := 34) (fun b2 => [(1, pb b1), (2, pb b2)]) #[iv 0, iv 0, iv 0, iv 0, iv 0, iv 0, iv 0, iv 0] hF hS (by kernel_rfl) ⟨by kernel_rfl⟩ (by kernel_rfl) (fun _ => ⟨by kernel_rfl⟩) fun b2 w a hF hS => ?_)
 refine wfn rfl ?_
 refine esr ?_
 refine rno 9 [.run [] (Instr.loadAt 3 (pb b1)) (iv p0.Tilt), .run [] (Instr.loadAt 25 (.pointer (some ⟨b1, 1, none⟩))) (p0.Train.ag), .run [] (Instr.loadAt 3 (.pointer (some ⟨b1, 6, none⟩))) (iv p0.Width), .run [] (Instr.loadAt 3 (.pointer (some ⟨b1, 7, none⟩))) (iv p0.Every)] 9 [(2, pb b2), (11, p0.ag)] hF (ocons (ob1 (by kernel_rfl) (fun _ hd => (hS.at_ hd).cell (i := 1) (j := 0) rfl rfl)) (ocons (obN (us := p0.Train.cells) (by kernel_rfl) (fun _ hd => ((hS.at_ hd).blk (i := 1) rfl).cells rfl)) (ocons (ob1 (by kernel_rfl) (fun _ hd => (hS.at_ hd).cell (i := 1) (j := 6) rfl rfl)) (ocons (ob1 (by kernel_rfl) (fun _ hd => (hS.at_ hd).cell (i := 1) (j := 7) rfl rfl)) onil)))) fun a hF => ?_
 refine SK.wi (storeK (t := 34) [(2, pb b2)] 0 0 (p0.ag) p0.ar hF hS rfl (by kernel_rfl) ⟨by kernel_rfl⟩ (by kernel_rfl) (by kernel_rfl) (by kernel_rfl) (by kernel_rfl) ⟨by kernel_rfl⟩ fun w a hF hS => ?_)
 refine wfn rfl ?_
 refine wpIn_ret (fn_ret [.cell 2 34] [p0.ag] hF rfl ⟨⟨_, rfl, loadVarN (cs := p0.cells) (by kernel_rfl) ((hS.blk (i := 0) rfl).cells rfl)⟩, trivial⟩ ?_)
 subst h
 exact ⟨rfl, hS.ext⟩

theorem ref01_In_ok (p0 : Int) (p1 : Int) (p2 : Int) (res : Bool) (h : ref01_In p0 p1 p2 = res) (μ : Frz) (w0 : World) (hm : FrzAt μ w0) : Calls Try.prog 48 #[iv p0, iv p1, iv p2] w0 (fun e w => e = .returned (.bool res) ∧ Ext w0 w) := by
 obtain ⟨hlow, hS⟩ := hm.init
 have hext := Frz.ext_refl w0.heap.size μ
 rw [ref01_In] at h
 refine fn_enterW Try.func48 rfl 15 [(0, iv p0), (1, iv p1), (2, iv p2)] rfl rfl (by kernel_rfl) fun a w hw hF => ?_
 replace hS : St w0 [fz w0 μ] w := by rw [hw]; exact hS
 clear hw
 refine esr ?_
 refine rn 1 1 [(0, iv p0), (1, iv p1), (2, iv p2)] hF fun a hF => ?_
 refine wfn rfl ?_
 refine esr ?_
 refine rn 9 9 [(6, .bool (bif (decide (p0 ≥ p1)) then (decide (p0 ≤ p2)) else false))] hF fun a hF => ?_
 refine wfn rfl ?_
 refine wpIn_ret (fn_ret [.tmp 6] [.bool (bif (decide (p0 ≥ p1)) then (decide (p0 ≤ p2)) else false)] hF rfl ⟨rfl, trivial⟩ ?_)
 subst h
 exact ⟨rfl, hS.ext⟩

theorem plan_Radar_move_ok (F : Nat) (p0 : plan_Radar) (p1 : plan_Job) (p2 : plan_Job) (res : Int) (h : plan_Radar_move F p0 p1 p2 = some res) (μ : Frz) (w0 : World) (hm : FrzAt μ w0) : Calls Try.prog 69 #[p0.ag, p1.ag, p2.ag] w0 (fun e w => e = .returned (iv res) ∧ Ext w0 w) := by
 obtain ⟨hlow, hS⟩ := hm.init
 have hext := Frz.ext_refl w0.heap.size μ
 rw [plan_Radar_move] at h
 refine fn_enterW Try.func69 rfl 21 [(0, p0.ag), (1, p1.ag), (2, p2.ag)] rfl rfl (by kernel_rfl) fun a w hw hF => ?_
 replace hS : St w0 [fz w0 μ] w := by rw [hw]; exact hS
 clear hw
 refine esr ?_
 refine SK.wi (boxK (t := 31) (fun b1 => [(1, p1.ag), (2, p2.ag), (3, pb b1)]) (p0.ag) p0.ar hF hS (by kernel_rfl) ⟨by kernel_rfl⟩ (by kernel_rfl) (fun _ => ⟨by kernel_rfl⟩) fun b1 w a hF hS => ?_)
 refine SK.wi (boxK (t := 34) (fun b2 => [(2, p2.ag), (3, pb b1), (4, pb b2)]) (p1.ag) p1.ar hF hS (by kernel_rfl) ⟨by kernel_rfl⟩ (by kernel_rfl) (fun _ => ⟨by kernel_rfl⟩) fun b2 w a hF hS => ?_)
 refine SK.wi (boxK (t := 34) (fun b3 => [(3, pb b1), (4, pb b2), (5, pb b3)]) (p2.ag) p2.ar hF hS (by kernel_rfl) ⟨by kernel_rfl⟩ (by kernel_rfl) (fun _ => ⟨by kernel_rfl⟩) fun b3 w a hF hS => ?_)
 refine rn 1 4 [(3, pb b1), (4, pb b2), (5, pb b3)] hF fun a hF => ?_
 refine wfn rfl ?_
 refine esr ?_
 replace h := bindS h
 obtain ⟨x4, hx4, h⟩ := h
 replace h := bindS h
 obtain ⟨x5, hx5, h⟩ := h
 replace h := bindS h
 obtain ⟨x6, hx6, h⟩ := h
 refine rno 15 [.run [] (Instr.loadAt 3 (.pointer (some ⟨b1, 2, none⟩))) (iv p0.Move), .run [] (Instr.loadAt 3 (pb b2)) (iv p1.Tilt), .run [] (Instr.loadAt 3 (pb b3)) (iv p2.Tilt), .run [] (binOp .sub 3 (iv p1.Tilt) (iv p2.Tilt)) (iv x4), .run [] (Instr.loadAt 3 (pb b3)) (iv p2.Tilt), .run [] (Instr.loadAt 3 (pb b2)) (iv p1.Tilt), .run [] (binOp .sub 3 (iv p2.Tilt) (iv p1.Tilt)) (iv x5), .run [] (binOp .mul 3 (iv p0.Move) (iv (if x5 > x4 then x5 else x4))) (iv x6)] 15 [(6, iv x6)] hF (ocons (ob1 (by kernel_rfl) (fun _ hd => (hS.at_ hd).cell (i := 2) (j := 2) rfl rfl)) (ocons (ob1 (by kernel_rfl) (fun _ hd => (hS.at_ hd).cell (i := 1) (j := 0) rfl rfl)) (ocons (ob1 (by kernel_rfl) (fun _ hd => (hS.at_ hd).cell (i := 0) (j := 0) rfl rfl)) (ocons (obSubC (fun _ => hx4)) (ocons (ob1 (by kernel_rfl) (fun _ hd => (hS.at_ hd).cell (i := 0) (j := 0) rfl rfl)) (ocons (ob1 (by kernel_rfl) (fun _ hd => (hS.at_ hd).cell (i := 1) (j := 0) rfl rfl)) (ocons (obSubC (fun _ => hx5)) (ocons (obMulC (fun _ => hx6)) onil)))))))) fun a hF => ?_
 refine wfn rfl ?_
 refine wpIn_ret (fn_ret [.tmp 6] [iv x6] hF rfl ⟨rfl, trivial⟩ ?_)
 have hr_ := Option.some.inj h
 subst hr_
 exact ⟨rfl, hS.ext⟩

theorem plan_line_next_ok (F : Nat) (p0 : plan_line) (p1 : Int) (res : Int) (h : plan_line_next F p0 p1 = some res) (μ : Frz) (w0 : World) (hm : FrzAt μ w0) {pv1 : Option Addr} {ad2 : Option Addr} {cap3 : Nat} {ad4 : Option Addr} {cap5 : Nat} (hA6 : PtM μ 113 Rp113 pv1 p0.desk) (hA7 : ArrM μ 1 fI ad2 cap3 p0.jobs) (hA8 : ArrM μ 1 fI ad4 cap5 p0.at_) : Calls Try.prog 79 #[.agg #[.pointer pv1, sv ad2 p0.jobs cap3, sv ad4 p0.at_ cap5, iv p0.done], iv p1] w0 (fun e w => e = .returned (iv res) ∧ Ext w0 w) := by
 obtain ⟨hlow, hS⟩ := hm.init
 have hext := Frz.ext_refl w0.heap.size μ
 rw [plan_line_next] at h
 refine fn_enterW Try.func79 rfl 26 [(0, .agg #[.pointer pv1, sv ad2 p0.jobs cap3, sv ad4 p0.at_ cap5, iv p0.done]), (1, iv p1)] rfl rfl (by kernel_rfl) fun a w hw hF => ?_
 replace hS : St w0 [fz w0 μ] w := by rw [hw]; exact hS
 clear hw
 refine esr ?_
 refine SK.wi (boxK (t := 102) (fun b9 => [(1, iv p1), (2, pb b9)]) (.agg #[.pointer pv1, sv ad2 p0.jobs cap3, sv ad4 p0.at_ cap5, iv p0.done]) #[.pointer pv1, sv ad2 p0.jobs cap3, sv ad4 p0.at_ cap5, iv p0.done] hF hS (by kernel_rfl) ⟨by kernel_rfl⟩ (by kernel_rfl) (fun _ => ⟨by kernel_rfl⟩) fun b9 w a hF hS => ?_)
 refine rn 1 2 [(1, iv p1), (2, pb b9)] hF fun a hF => ?_
 refine wfn rfl ?_
 refine eseq ?_
 replace h := bindS h
 obtain ⟨d10, hd10, h⟩ := h
 obtain ⟨b11, cs12, hp13, hB14, hR15⟩ := PtM.some hA6 hd10
 obtain ⟨ad16, cap17, ad18, cap19, ad20, cap21, css22, rfl, hA23, hA24, hA25⟩ := hR15
 try rw [hp13] at hF
 try rw [hp13] at hS
 try rw [hp13] at hB14
 replace h := bindS h
 obtain ⟨x26, hx26, h⟩ := h
 replace h := bindS h
 obtain ⟨u27, hu27, h⟩ := h
 replace h := bindS h
 obtain ⟨u28, hu28, h⟩ := h
 obtain ⟨cs29, hcs30, hR31⟩ := getI_all2 hA25.2 hu28
 obtain ⟨ad32, cap33, rfl, hA34⟩ := hR31
 replace h := bindS h
 obtain ⟨u35, hu35, h⟩ := h
 replace h := bindS h
 obtain ⟨x36, hx36, h⟩ := h
 refine runD (obs := [.run [] (Instr.loadAt 3 (.pointer (some ⟨b9, 3, none⟩))) (iv p0.done), .run [] (Instr.loadAt 100 (pb b9)) (pb b11), .run [] (Instr.loadAt 111 (.pointer (some ⟨b11, 2, none⟩))) (sv ad20 d10.moves cap21), .run [] (Instr.loadAt 40 (.pointer (some ⟨b9, 1, none⟩))) (sv ad2 p0.jobs cap3), .run [] (Instr.loadAt 40 (.pointer (some ⟨b9, 1, none⟩))) (sv ad2 p0.jobs cap3), .run [] (binOp .sub 3 (iv (ln p0.jobs)) (iv 1)) (iv x26), .run [] (Instr.indexAt 40 (sv ad2 p0.jobs cap3) (iv x26)) (.pointer (some (slAddr ad2 x26 1))), .run [] (Instr.loadAt 3 (.pointer (some (slAddr ad2 x26 1)))) (iv u27), .run [] (Instr.indexAt 111 (sv ad20 d10.moves cap21) (iv u27)) (.pointer (some (slAddr ad20 u27 1))), .run [] (Instr.loadAt 40 (.pointer (some (slAddr ad20 u27 1)))) (sv ad32 u28 cap33), .run [] (Instr.indexAt 40 (sv ad32 u28 cap33) (iv p1)) (.pointer (some (slAddr ad32 p1 1))), .run [] (Instr.loadAt 3 (.pointer (some (slAddr ad32 p1 1)))) (iv u35), .run [] (binOp .add 3 (iv p0.done) (iv u35)) (iv x36)]) 22 [(4, iv x36)] (by kernel_rfl) hF (by kernel_rfl) (ocons (ob1 (by kernel_rfl) (fun _ hd => (hS.later hd).cell (i := 0) (j := 3) rfl rfl)) (ocons (ob1 (by kernel_rfl) (fun _ hd => (hS.later hd).cell (i := 0) (j := 0) rfl rfl)) (ocons (ob1 (by kernel_rfl) (fun _ hd => (hB14.blk ((hS.later hd).frz (i := 1) rfl hlow)).cell1 (j := 2) rfl)) (ocons (ob1 (by kernel_rfl) (fun _ hd => (hS.later hd).cell (i := 0) (j := 1) rfl rfl)) (ocons (ob1 (by kernel_rfl) (fun _ hd => (hS.later hd).cell (i := 0) (j := 1) rfl rfl)) (ocons (obSubC (fun _ => hx26)) (ocons (obIdxQ (hA7 _ (hS.frz (i := 1) rfl hlow)) (by kernel_rfl) (fun _ => hu27)) (ocons (obElQ (i := x26) 0 fI_len (fun _ hd => (hA7 _ ((hS.later hd).frz (i := 1) rfl hlow))) (by kernel_rfl) (fun _ => hu27) rfl) (ocons (obIdxQ (hA25.at (hS.frz (i := 1) rfl hlow)) (by kernel_rfl) (fun _ => hcs30)) (ocons (obElQ (i := u27) 0 (fN_len 1) (fun _ hd => (hA25.at ((hS.later hd).frz (i := 1) rfl hlow))) (by kernel_rfl) (fun _ => hcs30) rfl) (ocons (obIdxQ (hA34 _ (hS.frz (i := 1) rfl hlow)) (by kernel_rfl) (fun _ => hu35)) (ocons (obElQ (i := p1) 0 fI_len (fun _ hd => (hA34 _ ((hS.later hd).frz (i := 1) rfl hlow))) (by kernel_rfl) (fun _ => hu35) rfl) (ocons (obAddC (fun _ => hx36)) onil))))))))))))) ⟨by kernel_rfl⟩ fun a w hF hx => ?_
 replace hS := hS.later hx
 refine wfn rfl ?_
 refine wpIn_ret (fn_ret [.tmp 4] [iv x36] hF rfl ⟨rfl, trivial⟩ ?_)
 have hr_ := Option.some.inj h
 subst hr_
 exact ⟨rfl, hS.ext⟩

theorem law06_numbers_ok (F : Nat) (p0 : (List Int)) (p1 : (List Int)) (res : Bool) (h : law06_numbers F p0 p1 = some res) (μ : Frz) (w0 : World) (hm : FrzAt μ w0) {ad1 : Option Addr} {cap2 : Nat} {ad4 : Option Addr} {cap5 : Nat} (hA3 : ArrM μ 1 fI ad1 cap2 p0) (hA6 : ArrM μ 1 fI ad4 cap5 p1) : Calls Try.prog 21 #[sv ad1 p0 cap2, sv ad4 p1 cap5] w0 (fun e w => e = .returned (.bool res) ∧ Ext w0 w) := by
 obtain ⟨hlow, hS⟩ := hm.init
 have hext := Frz.ext_refl w0.heap.size μ
 rw [law06_numbers] at h
 refine fn_enterW Try.func21 rfl 26 [(0, sv ad1 p0 cap2), (1, sv ad4 p1 cap5)] rfl rfl (by kernel_rfl) fun a w hw hF => ?_
 replace hS : St w0 [fz w0 μ] w := by rw [hw]; exact hS
 clear hw
 refine esr ?_
 refine rn 1 1 [(0, sv ad1 p0 cap2), (1, sv ad4 p1 cap5)] hF fun a hF => ?_
 refine wfn rfl ?_
 refine eseq ?_
 refine esr ?_
 refine rn 5 5 [(0, sv ad1 p0 cap2), (1, sv ad4 p1 cap5), (10, .bool ((ln p0) != (ln p1)))] hF fun a hF => ?_
 refine wfn rfl ?_
 refine econd hF rfl (fun hc => ?_) (fun hc => ?_)
 ·replace h := bif_t h hc
  refine esr ?_
  refine rn 1 1 [(4, .bool false)] hF fun a hF => ?_
  refine wfn rfl ?_
  refine wpIn_ret (ret_then <| fn_ret [.tmp 4] [.bool false] hF rfl ⟨rfl, trivial⟩ ?_)
  have hr_ := Option.some.inj h
  subst hr_
  exact ⟨rfl, hS.ext⟩
 ·replace h := bif_f h hc
  refine wpIn_skip (norm_then ?_)
  refine ecut (fun a w => Fr 26 [] [] a ∧ St w0 [fz w0 μ] w ∧ law06_numbers_K1 = some res) ?_ ?_
  ·skip
   refine esr ?_
   refine rn 1 1 [(0, sv ad1 p0 cap2), (1, sv ad4 p1 cap5), (5, iv 0)] hF fun a hF => ?_
   refine wfn rfl ?_
   refine wpIn_block ?_
   refine eloop (fun n_ a w => ∃ (x27 : Int), Fr 26 [] [(0, sv ad1 p0 cap2), (1, sv ad4 p1 cap5), (5, iv x27)] a ∧ St w0 [fz w0 μ] w ∧ law06_numbers_L2 p0 p1 n_ x27 = some res) F ⟨0, hF.sub (by kernel_rfl), St.pick [0] (by decide) hS, h⟩ ?_
   rintro n_ a w ⟨x27, hF, hS, h⟩
   rcases n_ with _ | n_
   ·cases (show (none : Option Bool) = some res from h)
   obtain ⟨k2, hk2⟩ : ∃ k, k = law06_numbers_L2 p0 p1 n_ := ⟨_, rfl⟩
   replace h : law06_numbers_B2 p0 p1 k2 x27 = some res := by rw [hk2]; exact h
   rw [law06_numbers_B2] at h
   refine eseq ?_
   refine esr ?_
   refine rn 4 4 [(0, sv ad1 p0 cap2), (1, sv ad4 p1 cap5), (5, iv x27), (14, .bool (decide (x27 < (ln p0))))] hF fun a hF => ?_
   refine wfn rfl ?_
   refine econd hF rfl (fun hc => ?_) (fun hc => ?_)
   ·replace h := bif_t h hc
    refine wpIn_skip (norm_then ?_)
    refine eseq ?_
    refine wpIn_block ?_
    refine eseq ?_
    replace h := bindS h
    obtain ⟨u29, hu29, h⟩ := h
    replace h := bindS h
    obtain ⟨u30, hu30, h⟩ := h
    refine runD (obs := [.run [] (Instr.indexAt 40 (sv ad1 p0 cap2) (iv x27)) (.pointer (some (slAddr ad1 x27 1))), .run [] (Instr.loadAt 3 (.pointer (some (slAddr ad1 x27 1)))) (iv u29), .run [] (Instr.indexAt 40 (sv ad4 p1 cap5) (iv x27)) (.pointer (some (slAddr ad4 x27 1))), .run [] (Instr.loadAt 3 (.pointer (some (slAddr ad4 x27 1)))) (iv u30)]) 9 [(0, sv ad1 p0 cap2), (1, sv ad4 p1 cap5), (5, iv x27), (25, .bool (u29 != u30))] (by kernel_rfl) hF (by kernel_rfl) (ocons (obIdxQ (hA3 _ (hS.frz (i := 0) rfl hlow)) (by kernel_rfl) (fun _ => hu29)) (ocons (obElQ (i := x27) 0 fI_len (fun _ hd => (hA3 _ ((hS.later hd).frz (i := 0) rfl hlow))) (by kernel_rfl) (fun _ => hu29) rfl) (ocons (obIdxQ (hA6 _ (hS.frz (i := 0) rfl hlow)) (by kernel_rfl) (fun _ => hu30)) (ocons (obElQ (i := x27) 0 fI_len (fun _ hd => (hA6 _ ((hS.later hd).frz (i := 0) rfl hlow))) (by kernel_rfl) (fun _ => hu30) rfl) onil)))) ⟨by kernel_rfl⟩ fun a w hF hx => ?_
    replace hS := hS.later hx
    refine wfn rfl ?_
    refine econd hF rfl (fun hc => ?_) (fun hc => ?_)
    ·replace h := bif_t h hc
     refine esr ?_
     refine rn 1 1 [(4, .bool false)] hF fun a hF => ?_
     refine wfn rfl ?_
     refine wpIn_ret (ret_block <| ret_then <| ret_then <| ret_block <| ret_then <| fn_ret [.tmp 4] [.bool false] hF rfl ⟨rfl, trivial⟩ ?_)
     have hr_ := Option.some.inj h
     subst hr_
     exact ⟨rfl, hS.ext⟩
    ·replace h := bif_f h hc
     refine wpIn_skip (norm_block <| norm_then <| ?_)
     refine WI.region ?_
     replace h := bindS h
     obtain ⟨x31, hx31, h⟩ := h
     refine rno 3 [.run [] (binOp .add 3 (iv x27) (iv 1)) (iv x31)] 3 [(0, sv ad1 p0 cap2), (1, sv ad4 p1 cap5), (5, iv x31)] hF (ocons (obAddC (fun _ => hx31)) onil) fun a hF => ?_
     refine wfn rfl ?_
     rw [hk2] at h
     exact ⟨n_, Nat.lt_succ_self _, x31, hF.sub (by kernel_rfl), St.pick [0] (by decide) hS, h⟩
   ·replace h := bif_f h hc
    refine wpIn_exit (exit_then <| exit_then <| exit_hit <| norm_then ?_)
    exact ⟨hF.sub (by kernel_rfl), St.pick [0] (by decide) hS, h⟩
  rintro a w ⟨hF, hS, h⟩
  rw [law06_numbers_K1] at h
  refine esr ?_
  refine rn 1 1 [(4, .bool true)] hF fun a hF => ?_
  refine wfn rfl ?_
  refine wpIn_ret (fn_ret [.tmp 4] [.bool true] hF rfl ⟨rfl, trivial⟩ ?_)
  have hr_ := Option.some.inj h
  subst hr_
  exact ⟨rfl, hS.ext⟩

theorem slices_isNaN_int_ok (p0 : Int) (res : Bool) (h : slices_isNaN_int p0 = res) (μ : Frz) (w0 : World) (hm : FrzAt μ w0) : Calls Try.prog 81 #[iv p0] w0 (fun e w => e = .returned (.bool res) ∧ Ext w0 w) := by
 obtain ⟨hlow, hS⟩ := hm.init
 have hext := Frz.ext_refl w0.heap.size μ
 rw [slices_isNaN_int] at h
 refine fn_enterW Try.func81 rfl 6 [(0, iv p0)] rfl rfl (by kernel_rfl) fun a w hw hF => ?_
 replace hS : St w0 [fz w0 μ] w := by rw [hw]; exact hS
 clear hw
 refine esr ?_
 refine rn 1 1 [(0, iv p0)] hF fun a hF => ?_
 refine wfn rfl ?_
 refine esr ?_
 refine rn 4 4 [(2, .bool (p0 != p0))] hF fun a hF => ?_
 refine wfn rfl ?_
 refine wpIn_ret (fn_ret [.tmp 2] [.bool (p0 != p0)] hF rfl ⟨rfl, trivial⟩ ?_)
 subst h
 exact ⟨rfl, hS.ext⟩

theorem plan_Verify_1_D0 (x0 : Int) {b0 : Nat} {w0 w : World} {H : List Res} (hS : St w0 (blk b0 28 #[iv x0] :: H) w) : CallsDIn (F0 none) 0 Try.prog 64 #[pb b0] .returning w (fun e u_ w => e = .returned (.tuple #[]) ∧ settle u_ = .returning ∧ St w0 (blk b0 28 #[iv x0] :: H) w) := by
 refine callsD_recover Try.func64 rfl 9 [(0, pb b0)] [(0, pb b0), (4, .nilIface)] rfl rfl (by kernel_rfl) (by kernel_rfl) ⟨by kernel_rfl⟩ ⟨by kernel_rfl⟩ fun a hF => ?_
 refine rn 4 5 [(0, pb b0), (6, .agg #[]), (7, .bool false)] hF fun a hF => ?_
 refine SK.wi (allocK (t := 127) (fun b1 => [(0, pb b0), (1, pb b1), (6, .agg #[]), (7, .bool false)]) #[] hF hS (by kernel_rfl) ⟨by kernel_rfl⟩ (by kernel_rfl) (fun _ => ⟨by kernel_rfl⟩) fun b1 w a hF hS => ?_)
 refine SK.wi (storeK (t := 127) [(0, pb b0), (7, .bool false)] 0 0 (.agg #[]) #[] hF hS rfl (by kernel_rfl) ⟨by kernel_rfl⟩ (by kernel_rfl) (by kernel_rfl) (by kernel_rfl) (by kernel_rfl) ⟨by kernel_rfl⟩ fun w a hF hS => ?_)
 refine rn 1 8 [(0, pb b0), (2, .bool false)] hF fun a hF => ?_
 refine wfn rfl ?_
 refine esr ?_
 refine rn 1 1 [(0, pb b0), (8, .bool false)] hF fun a hF => ?_
 refine wfn rfl ?_
 refine wpIn_cond_false (hF.get rfl) ?_
 refine wpIn_skip ?_
 refine fn_end hF rfl ?_
 exact ⟨rfl, rfl, hS.drop1⟩

theorem plan_Verify_1_D1 (x0 : Int) {b0 : Nat} {w0 w : World} {H : List Res} (hS : St w0 (blk b0 28 #[iv x0] :: H) w) : CallsDIn (F0 none) 0 Try.prog 64 #[pb b0] (.panicking [{ v := .iface 127 (.agg #[]), recovered := false }]) w (fun e u_ w => e = .returned (.tuple #[]) ∧ settle u_ = .returning ∧ St w0 (blk b0 28 #[iv 20] :: H) w) := by
 refine callsD_recover Try.func64 rfl 9 [(0, pb b0)] [(0, pb b0), (4, .iface 127 (.agg #[]))] rfl rfl (by kernel_rfl) (by kernel_rfl) ⟨by kernel_rfl⟩ ⟨by kernel_rfl⟩ fun a hF => ?_
 refine rn 4 5 [(0, pb b0), (6, .agg #[]), (7, .bool true)] hF fun a hF => ?_
 refine SK.wi (allocK (t := 127) (fun b1 => [(0, pb b0), (1, pb b1), (6, .agg #[]), (7, .bool true)]) #[] hF hS (by kernel_rfl) ⟨by kernel_rfl⟩ (by kernel_rfl) (fun _ => ⟨by kernel_rfl⟩) fun b1 w a hF hS => ?_)
 refine SK.wi (storeK (t := 127) [(0, pb b0), (7, .bool true)] 0 0 (.agg #[]) #[] hF hS rfl (by kernel_rfl) ⟨by kernel_rfl⟩ (by kernel_rfl) (by kernel_rfl) (by kernel_rfl) (by kernel_rfl) ⟨by kernel_rfl⟩ fun w a hF hS => ?_)
 refine rn 1 8 [(0, pb b0), (2, .bool true)] hF fun a hF => ?_
 refine wfn rfl ?_
 refine esr ?_
 refine rn 1 1 [(0, pb b0), (8, .bool true)] hF fun a hF => ?_
 refine wfn rfl ?_
 refine wpIn_cond_true (hF.get rfl) ?_
 refine WI.region ?_
 refine SK.wi (storeK (t := 28) [] 1 0 (iv 20) #[iv 20] hF hS rfl (by kernel_rfl) ⟨by kernel_rfl⟩ (by kernel_rfl) (by kernel_rfl) (by kernel_rfl) (by kernel_rfl) ⟨by kernel_rfl⟩ fun w a hF hS => ?_)
 refine WI.fin rfl ?_
 refine fn_end hF rfl ?_
 exact ⟨rfl, rfl, hS.drop1⟩


theorem slices_Min_int_int_ok (F : Nat) (p0 : (List Int)) (res : Int) (h : slices_Min_int_int F p0 = some res) (μ : Frz) (w0 : World) (hm : FrzAt μ w0) {ad1 : Option Addr} {cap2 : Nat} (hA3 : ArrM μ 1 fI ad1 cap2 p0) : Calls Try.prog 68 #[sv ad1 p0 cap2] w0 (fun e w => e = .returned (iv res) ∧ Ext w0 w) := by
 obtain ⟨hlow, hS⟩ := hm.init
 have hext := Frz.ext_refl w0.heap.size μ
 rw [slices_Min_int_int] at h
 refine fn_enterW Try.func68 rfl 25 [(0, sv ad1 p0 cap2)] rfl rfl (by kernel_rfl) fun a w hw hF => ?_
 replace hS : St w0 [fz w0 μ] w := by rw [hw]; exact hS
 clear hw
 refine esr ?_
 refine rn 1 1 [(0, sv ad1 p0 cap2)] hF fun a hF => ?_
 refine wfn rfl ?_
 refine ecut (fun a w => Fr 25 [] [(0, sv ad1 p0 cap2)] a ∧ St w0 [fz w0 μ] w ∧ slices_Min_int_int_K1 F p0 = some res) ?_ ?_
 ·skip
  refine esr ?_
  refine rn 3 3 [(0, sv ad1 p0 cap2), (7, .bool (decide ((ln p0) < 1)))] hF fun a hF => ?_
  refine wfn rfl ?_
  refine econd hF rfl (fun hc => ?_) (fun hc => ?_)
  ·replace h := bif_t h hc
   cases h
  ·replace h := bif_f h hc
   refine wpIn_skip (norm_then ?_)
   exact ⟨hF.sub (by kernel_rfl), St.pick [0] (by decide) hS, h⟩
 rintro a w ⟨hF, hS, h⟩
 rw [slices_Min_int_int_K1] at h
 refine esr ?_
 replace h := bindS h
 obtain ⟨u4, hu4, h⟩ := h
 refine rno 4 [.run [] (Instr.indexAt 40 (sv ad1 p0 cap2) (iv 0)) (.pointer (some (slAddr ad1 0 1))), .run [] (Instr.loadAt 3 (.pointer (some (slAddr ad1 0 1)))) (iv u4)] 4 [(0, sv ad1 p0 cap2), (3, iv u4)] hF (ocons (obIdxQ (hA3 _ (hS.frz (i := 0) rfl hlow)) (by kernel_rfl) (fun _ => hu4)) (ocons (obElQ (i := 0) 0 fI_len (fun _ hd => (hA3 _ ((hS.at_ hd).frz (i := 0) rfl hlow))) (by kernel_rfl) (fun _ => hu4) rfl) onil)) fun a hF => ?_
 refine wfn rfl ?_
 refine ecut (fun a w => ∃ (x16 : Int), Fr 25 [] [(3, iv x16)] a ∧ St w0 [fz w0 μ] w ∧ slices_Min_int_int_K2 x16 = some res) ?_ ?_
 ·skip
  refine esr ?_
  refine rn 1 1 [(0, sv ad1 p0 cap2), (3, iv u4), (4, iv 1)] hF fun a hF => ?_
  refine wfn rfl ?_
  refine wpIn_block ?_
  refine eloop (fun n_ a w => ∃ (x24 : Int) (x25 : Int), Fr 25 [] [(0, sv ad1 p0 cap2), (3, iv x24), (4, iv x25)] a ∧ St w0 [fz w0 μ] w ∧ slices_Min_int_int_L3 p0 n_ x24 x25 = some res) F ⟨u4, 1, hF.sub (by kernel_rfl), St.pick [0] (by decide) hS, h⟩ ?_
  rintro n_ a w ⟨x24, x25, hF, hS, h⟩
  rcases n_ with _ | n_
  ·cases (show (none : Option Int) = some res from h)
  obtain ⟨k3, hk3⟩ : ∃ k, k = slices_Min_int_int_L3 p0 n_ := ⟨_, rfl⟩
  replace h : slices_Min_int_int_B3 p0 k3 x24 x25 = some res := by rw [hk3]; exact h
  rw [slices_Min_int_int_B3] at h
  refine eseq ?_
  refine esr ?_
  refine rn 4 4 [(0, sv ad1 p0 cap2), (3, iv x24), (4, iv x25), (15, .bool (decide (x25 < (ln p0))))] hF fun a hF => ?_
  refine wfn rfl ?_
  refine econd hF rfl (fun hc => ?_) (fun hc => ?_)
  ·replace h := bif_t h hc
   refine wpIn_skip (norm_then ?_)
   refine eseq ?_
   refine wpIn_block ?_
   refine WI.region ?_
   replace h := bindS h
   obtain ⟨u27, hu27, h⟩ := h
   refine rno 7 [.run [] (Instr.indexAt 40 (sv ad1 p0 cap2) (iv x25)) (.pointer (some (slAddr ad1 x25 1))), .run [] (Instr.loadAt 3 (.pointer (some (slAddr ad1 x25 1)))) (iv u27)] 7 [(0, sv ad1 p0 cap2), (3, iv (if u27 < x24 then u27 else x24)), (4, iv x25)] hF (ocons (obIdxQ (hA3 _ (hS.frz (i := 0) rfl hlow)) (by kernel_rfl) (fun _ => hu27)) (ocons (obElQ (i := x25) 0 fI_len (fun _ hd => (hA3 _ ((hS.at_ hd).frz (i := 0) rfl hlow))) (by kernel_rfl) (fun _ => hu27) rfl) onil)) fun a hF => ?_
   refine WI.fin rfl (norm_block <| norm_then <| ?_)
   refine WI.region ?_
   replace h := bindS h
   obtain ⟨x28, hx28, h⟩ := h
   refine rno 3 [.run [] (binOp .add 3 (iv x25) (iv 1)) (iv x28)] 3 [(0, sv ad1 p0 cap2), (3, iv (if u27 < x24 then u27 else x24)), (4, iv x28)] hF (ocons (obAddC (fun _ => hx28)) onil) fun a hF => ?_
   refine wfn rfl ?_
   rw [hk3] at h
   exact ⟨n_, Nat.lt_succ_self _, if u27 < x24 then u27 else x24, x28, hF.sub (by kernel_rfl), St.pick [0] (by decide) hS, h⟩
  ·replace h := bif_f h hc
   refine wpIn_exit (exit_then <| exit_then <| exit_hit <| norm_then ?_)
   exact ⟨x24, hF.sub (by kernel_rfl), St.pick [0] (by decide) hS, h⟩
 rintro a w ⟨x16, hF, hS, h⟩
 rw [slices_Min_int_int_K2] at h
 refine esr ?_
 refine rn 2 2 [(2, iv x16)] hF fun a hF => ?_
 refine wfn rfl ?_
 refine wpIn_ret (fn_ret [.tmp 2] [iv x16] hF rfl ⟨rfl, trivial⟩ ?_)
 have hr_ := Option.some.inj h
 subst hr_
 exact ⟨rfl, hS.ext⟩

theorem law06_example_ok (p0 : Int) (p1 : Int) (res : plan_Job) (h : law06_example p0 p1 = res) (μ : Frz) (w0 : World) (hm : FrzAt μ w0) : Calls Try.prog 46 #[iv p0, iv p1] w0 (fun e w => e = .returned (res.ag) ∧ Ext w0 w) := by
 obtain ⟨hlow, hS⟩ := hm.init
 have hext := Frz.ext_refl w0.heap.size μ
 rw [law06_example] at h
 refine fn_enterW Try.func46 rfl 9 [(0, iv p0), (1, iv p1)] rfl rfl (by kernel_rfl) fun a w hw hF => ?_
 replace hS : St w0 [fz w0 μ] w := by rw [hw]; exact hS
 clear hw
 refine esr ?_
 refine SK.wi (allocK (t := 34) (fun b1 => [(0, iv p0), (1, iv p1), (4, pb b1)]) #[iv 0, iv 0, iv 0, iv 0, iv 0, iv 0, iv 0, iv 0] hF hS (by kernel_rfl) ⟨by kernel_rfl⟩ (by kernel_rfl) (fun _ => ⟨by kernel_rfl⟩) fun b1 w a hF hS => ?_)
 refine wfn rfl ?_
 refine esr ?_
 refine rn 4 4 [(4, pb b1), (8, .agg #[iv p0, iv 100000, iv 1, iv 1000, iv 0, iv 5, iv 10, iv p1])] hF fun a hF => ?_
 refine SK.wi (storeK (t := 34) [(4, pb b1)] 0 0 (.agg #[iv p0, iv 100000, iv 1, iv 1000, iv 0, iv 5, iv 10, iv p1]) #[iv p0, iv 100000, iv 1, iv 1000, iv 0, iv 5, iv 10, iv p1] hF hS rfl (by kernel_rfl) ⟨by kernel_rfl⟩ (by kernel_rfl) (by kernel_rfl) (by kernel_rfl) (by kernel_rfl) ⟨by kernel_rfl⟩ fun w a hF hS => ?_)
 refine wfn rfl ?_
 refine wpIn_ret (fn_ret [.cell 4 34] [.agg #[iv p0, iv 100000, iv 1, iv 1000, iv 0, iv 5, iv 10, iv p1]] hF rfl ⟨⟨_, rfl, loadVarN (cs := [iv p0, iv 100000, iv 1, iv 1000, iv 0, iv 5, iv 10, iv p1]) (by kernel_rfl) ((hS.blk (i := 0) rfl).cells rfl)⟩, trivial⟩ ?_)
 subst h
 exact ⟨rfl, hS.ext⟩

theorem law06_few_ok (F : Nat) (p0 : Int) (p1 : Int) (p2 : Int) (res : Bool) (h : law06_few F p0 p1 p2 = some res) (μ : Frz) (w0 : World) (hm : FrzAt μ w0) : Calls Try.prog 26 #[iv p0, iv p1, iv p2] w0 (fun e w => e = .returned (.bool res) ∧ Ext w0 w) := by
 obtain ⟨hlow, hS⟩ := hm.init
 have hext := Frz.ext_refl w0.heap.size μ
 rw [law06_few] at h
 refine fn_enterW Try.func26 rfl 26 [(0, iv p0), (1, iv p1), (2, iv p2)] rfl rfl (by kernel_rfl) fun a w hw hF => ?_
 replace hS : St w0 [fz w0 μ] w := by rw [hw]; exact hS
 clear hw
 refine esr ?_
 refine rn 1 1 [(0, iv p0), (1, iv p1), (2, iv p2)] hF fun a hF => ?_
 refine wfn rfl ?_
 refine eseq ?_
 refine esr ?_
 refine rn 6 6 [(0, iv p0), (1, iv p1), (2, iv p2), (14, .bool (bif (decide (p1 < 1)) then true else (decide (p1 > 8))))] hF fun a hF => ?_
 refine wfn rfl ?_
 refine econd hF rfl (fun hc => ?_) (fun hc => ?_)
 ·replace h := bif_t h hc
  refine esr ?_
  refine rn 1 1 [(6, .bool true)] hF fun a hF => ?_
  refine wfn rfl ?_
  refine wpIn_ret (ret_then <| fn_ret [.tmp 6] [.bool true] hF rfl ⟨rfl, trivial⟩ ?_)
  have hr_ := Option.some.inj h
  subst hr_
  exact ⟨rfl, hS.ext⟩
 ·replace h := bif_f h hc
  refine wpIn_skip (norm_then ?_)
  refine esr ?_
  refine rn 1 1 [(0, iv p0), (1, iv p1), (2, iv p2), (7, iv 1)] hF fun a hF => ?_
  refine wfn rfl ?_
  refine ecut (fun a w => Fr 26 [] [] a ∧ St w0 [fz w0 μ] w ∧ law06_few_K1 = some res) ?_ ?_
  ·skip
   refine esr ?_
   refine rn 1 1 [(0, iv p0), (1, iv p1), (2, iv p2), (7, iv 1), (8, iv 0)] hF fun a hF => ?_
   refine wfn rfl ?_
   refine wpIn_block ?_
   refine eloop (fun n_ a w => ∃ (x19 : Int) (x20 : Int), Fr 26 [] [(0, iv p0), (1, iv p1), (2, iv p2), (7, iv x19), (8, iv x20)] a ∧ St w0 [fz w0 μ] w ∧ law06_few_L2 p0 p1 p2 n_ x19 x20 = some res) F ⟨1, 0, hF.sub (by kernel_rfl), St.pick [0] (by decide) hS, h⟩ ?_
   rintro n_ a w ⟨x19, x20, hF, hS, h⟩
   rcases n_ with _ | n_
   ·cases (show (none : Option Bool) = some res from h)
   obtain ⟨k2, hk2⟩ : ∃ k, k = law06_few_L2 p0 p1 p2 n_ := ⟨_, rfl⟩
   replace h : law06_few_B2 p0 p1 p2 k2 x19 x20 = some res := by rw [hk2]; exact h
   rw [law06_few_B2] at h
   refine eseq ?_
   refine esr ?_
   refine rn 3 3 [(0, iv p0), (1, iv p1), (2, iv p2), (7, iv x19), (8, iv x20), (17, .bool (decide (x20 < p1)))] hF fun a hF => ?_
   refine wfn rfl ?_
   refine econd hF rfl (fun hc => ?_) (fun hc => ?_)
   ·replace h := bif_t h hc
    refine wpIn_skip (norm_then ?_)
    refine eseq ?_
    refine wpIn_block ?_
    refine esr ?_
    replace h := bindS h
    obtain ⟨x22, hx22, h⟩ := h
    refine rno 4 [.run [] (binOp .mul 3 (iv x19) (iv p0)) (iv x22)] 4 [(0, iv p0), (1, iv p1), (2, iv p2), (7, iv x22), (8, iv x20)] hF (ocons (obMulC (fun _ => hx22)) onil) fun a hF => ?_
    refine wfn rfl ?_
    refine esr ?_
    refine rn 3 3 [(0, iv p0), (1, iv p1), (2, iv p2), (7, iv x22), (8, iv x20), (25, .bool (decide (x22 > p2)))] hF fun a hF => ?_
    refine wfn rfl ?_
    refine econd hF rfl (fun hc => ?_) (fun hc => ?_)
    ·replace h := bif_t h hc
     refine esr ?_
     refine rn 1 1 [(6, .bool false)] hF fun a hF => ?_
     refine wfn rfl ?_
     refine wpIn_ret (ret_block <| ret_then <| ret_then <| ret_block <| ret_then <| fn_ret [.tmp 6] [.bool false] hF rfl ⟨rfl, trivial⟩ ?_)
     have hr_ := Option.some.inj h
     subst hr_
     exact ⟨rfl, hS.ext⟩
    ·replace h := bif_f h hc
     refine wpIn_skip (norm_block <| norm_then <| ?_)
     refine WI.region ?_
     replace h := bindS h
     obtain ⟨x23, hx23, h⟩ := h
     refine rno 3 [.run [] (binOp .add 3 (iv x20) (iv 1)) (iv x23)] 3 [(0, iv p0), (1, iv p1), (2, iv p2), (7, iv x22), (8, iv x23)] hF (ocons (obAddC (fun _ => hx23)) onil) fun a hF => ?_
     refine wfn rfl ?_
     rw [hk2] at h
     exact ⟨n_, Nat.lt_succ_self _, x22, x23, hF.sub (by kernel_rfl), St.pick [0] (by decide) hS, h⟩
   ·replace h := bif_f h hc
    refine wpIn_exit (exit_then <| exit_then <| exit_hit <| norm_then ?_)
    exact ⟨hF.sub (by kernel_rfl), St.pick [0] (by decide) hS, h⟩
  rintro a w ⟨hF, hS, h⟩
  rw [law06_few_K1] at h
  refine esr ?_
  refine rn 1 1 [(6, .bool true)] hF fun a hF => ?_
  refine wfn rfl ?_
  refine wpIn_ret (fn_ret [.tmp 6] [.bool true] hF rfl ⟨rfl, trivial⟩ ?_)
  have hr_ := Option.some.inj h
  subst hr_
  exact ⟨rfl, hS.ext⟩

theorem ref06_sequences_ok : ∀ (F : Nat) (p0 : Int) (p1 : Int) (res : (List (List Int))) (h : ref06_sequences F p0 p1 = some res) (μ : Frz) (w0 : World) (hm : FrzAt μ w0), Calls Try.prog 59 #[iv p0, iv p1] w0 (fun e w => ∃ (ν_ : Frz) (ad1148 : Option Addr) (cap1149 : Nat) (css1150 : List (List Value)), μ.ext w0.heap.size ν_ ∧ e = .returned (sv ad1148 res cap1149) ∧ ArrQ ν_ 1 Rp40 ad1148 cap1149 css1150 res ∧ St w0 [fz w0 ν_] w) := by
 intro F
 induction F with
 | zero =>
  intro p0 p1 res h
  cases (show (none : Option (List (List Int))) = some res from h)
 | succ F ih =>
  intro p0 p1 res h μ w0 hm 
  obtain ⟨hlow, hS⟩ := hm.init
  have hext := Frz.ext_refl w0.heap.size μ
  replace h : ref06_sequences_R F (ref06_sequences F) p0 p1 = some res := h
  obtain ⟨self_, hself⟩ : ∃ s, s = ref06_sequences F := ⟨_, rfl⟩
  rw [← hself, ref06_sequences_R] at h
  refine fn_enterW Try.func59 rfl 38 [(0, iv p0), (1, iv p1)] rfl rfl (by kernel_rfl) fun a w hw hF => ?_
  replace hS : St w0 [fz w0 μ] w := by rw [hw]; exact hS
  clear hw
  refine esr ?_
  refine rn 1 1 [(0, iv p0), (1, iv p1)] hF fun a hF => ?_
  refine wfn rfl ?_
  refine eseq ?_
  refine esr ?_
  refine rn 2 2 [(0, iv p0), (1, iv p1), (10, .bool (p1 == 0))] hF fun a hF => ?_
  refine wfn rfl ?_
  refine econd hF rfl (fun hc => ?_) (fun hc => ?_)
  ·replace h := bif_t h hc
   refine esr ?_
   have hq2 : All2 (Rp40 μ) ([[.slice none 0 0]] : List (List Value)) [([] : (List Int))] := (All2.cons ⟨none, 0, rfl, ArrM.nil⟩ All2.nil)
   refine SK.wi (litQK (e := 40) (sz := 1) (f := fN 1) (t := 111) (len := 1) (fun b1 => [(11, sb b1 1)]) #[(0, .slice none 0 0)] #[.slice none 0 0] ([[.slice none 0 0]] : List (List Value)) ([([] : (List Int))]) hF hS (by kernel_rfl) ⟨by kernel_rfl⟩ (by kernel_rfl) (fN_len 1) rfl rfl rfl (by kernel_rfl) (fun _ => ⟨by kernel_rfl⟩) fun b1 w a hF hS => ?_)
   refine rn 1 2 [(4, sb b1 1)] hF fun a hF => ?_
   refine wfn rfl ?_
   refine wpIn_ret (ret_then <| fn_ret [.tmp 4] [sb b1 1] hF rfl ⟨rfl, trivial⟩ ?_)
   obtain ⟨ν3, hx4, hlow, hS, hz5⟩ := hS.freeze (i := 1) (j := 0) rfl rfl (by decide) hlow
   replace hq2 := All2.mono Rp40.mono hx4.1 hq2
   replace hext := Frz.ext_trans hext hx4
   replace hS : St w0 [fz w0 ν3] w := hS
   have hA6 := ArrQ.of_arr (l := ([([] : (List Int))])) hz5 hq2 Rp40.mono (Frz.le_refl _)
   have hr_ := Option.some.inj h
   subst hr_
   exact ⟨ν3, (some ⟨b1, 0, none⟩), 1, ([[.slice none 0 0]] : List (List Value)), hext, rfl, hA6, St.pick [0] (by decide) hS⟩
  ·replace h := bif_f h hc
   refine wpIn_skip (norm_then ?_)
   refine esr ?_
   refine rn 1 1 [(0, iv p0), (1, iv p1), (5, .slice none 0 0)] hF fun a hF => ?_
   refine wfn rfl ?_
   refine esr ?_
   replace h := bindS h
   obtain ⟨x7, hx7, h⟩ := h
   refine rno 3 [.run [] (binOp .sub 3 (iv p1) (iv 1)) (iv x7)] 3 [(0, iv p0), (5, .slice none 0 0), (12, iv p0), (14, iv x7)] hF (ocons (obSubC (fun _ => hx7)) onil) fun a hF => ?_
   replace h := bindS h
   obtain ⟨y9, hy9, h⟩ := h
   refine SK.wi (callK (f := 59) (args := #[iv p0, iv x7]) (R := fun v w2 => ∃ ν10 ad11 cap12 css13, μ.ext w.heap.size ν10 ∧ v = sv ad11 y9 cap12 ∧ ArrQ ν10 1 Rp40 ad11 cap12 css13 y9 ∧ St w [frzR w.heap.size ν10] w2) (fun v8 => [(0, iv p0), (5, .slice none 0 0), (15, v8)]) hF (by kernel_rfl) ⟨by kernel_rfl⟩ (Calls.mono (ih p0 x7 _ (by rw [← hself]; exact hy9) μ w (hS.frz (i := 0) rfl hlow) ) (by rintro e w2 ⟨ν10, ad11, cap12, css13, hx15, rfl, hA14, h⟩; exact ⟨_, rfl, ν10, ad11, cap12, css13, hx15, rfl, hA14, h⟩)) (fun _ => ⟨by kernel_rfl⟩) ?_)
   rintro v8 w a ⟨ν10, ad11, cap12, css13, hx15, rfl, hA14, hQ⟩ hF
   replace hext := Frz.ext_trans hext (Frz.ext_mono hx15 hS.ext.size)
   obtain ⟨hlow, hS⟩ := hS.frzMerge (i := 0) rfl hlow hx15 hQ
   replace hS : St w0 [fz w0 ν10] w := hS
   refine rn 1 5 [(0, iv p0), (5, .slice none 0 0), (6, sv ad11 y9 cap12)] hF fun a hF => ?_
   refine wfn rfl ?_
   have hj587 := Frz.le_refl ν10
   refine ecut (fun a w => ∃ (l579 : (List (List Int))) (ν576 : Frz) (ad577 : Option Addr) (cap578 : Nat) (css580 : List (List Value)), Fr 38 [] [(5, sv ad577 l579 cap578)] a ∧ St w0 [arr 40 1 (fN 1) ad577 l579.length cap578 css580, fz w0 ν576] w ∧ (All2 (Rp40 ν576) css580 l579) ∧ (ν10.le ν576) ∧ (μ.ext w0.heap.size ν576) ∧ (FrzIn w0 ν576) ∧ ref06_sequences_K1 l579 = some res) ?_ ?_
   ·skip
    refine esr ?_
    refine rn 1 1 [(0, iv p0), (5, .slice none 0 0), (6, sv ad11 y9 cap12), (7, iv 0)] hF fun a hF => ?_
    refine wfn rfl ?_
    refine wpIn_block ?_
    have hj966 := Frz.le_refl ν10
    replace hS := hS.nilarr 40 1 (fN 1)
    refine eloop (fun n_ a w => ∃ (l961 : (List (List Int))) (x964 : Int) (ν958 : Frz) (ad959 : Option Addr) (cap960 : Nat) (css962 : List (List Value)), Fr 38 [] [(0, iv p0), (5, sv ad959 l961 cap960), (6, sv ad11 y9 cap12), (7, iv x964)] a ∧ St w0 [arr 40 1 (fN 1) ad959 l961.length cap960 css962, fz w0 ν958] w ∧ (All2 (Rp40 ν958) css962 l961) ∧ (ν10.le ν958) ∧ (μ.ext w0.heap.size ν958) ∧ (FrzIn w0 ν958) ∧ ref06_sequences_L2 F p0 y9 n_ l961 x964 = some res) F ⟨[], 0, ν10, none, 0, [], hF.sub (by kernel_rfl), St.pick [0, 1] (by decide) hS, All2.nil, hj966, hext, hlow, h⟩ ?_
    clear hj966
    rintro n_ a w ⟨l961, x964, ν958, ad959, cap960, css962, hF, hS, hq963, hle965, hext, hlow, h⟩
    rcases n_ with _ | n_
    ·cases (show (none : Option (List (List Int))) = some res from h)
    replace hA14 := hA14.mono Rp40.mono hle965
    replace hj587 := Frz.le_trans hj587 hle965
    obtain ⟨k2, hk2⟩ : ∃ k, k = ref06_sequences_L2 F p0 y9 n_ := ⟨_, rfl⟩
    replace h : ref06_sequences_B2 F p0 y9 k2 l961 x964 = some res := by rw [hk2]; exact h
    rw [ref06_sequences_B2] at h
    refine eseq ?_
    refine esr ?_
    refine rn 3 3 [(0, iv p0), (5, sv ad959 l961 cap960), (6, sv ad11 y9 cap12), (7, iv x964), (18, .bool (decide (x964 < p0)))] hF fun a hF => ?_
    refine wfn rfl ?_
    refine econd hF rfl (fun hc => ?_) (fun hc => ?_)
    ·replace h := bif_t h hc
     refine wpIn_skip (norm_then ?_)
     have hj1061 := Frz.le_refl ν958
     refine ecut (fun a w => ∃ (l1056 : (List (List Int))) (ν1053 : Frz) (ad1054 : Option Addr) (cap1055 : Nat) (css1057 : List (List Value)), Fr 38 [] [(0, iv p0), (5, sv ad1054 l1056 cap1055), (6, sv ad11 y9 cap12), (7, iv x964)] a ∧ St w0 [arr 40 1 (fN 1) ad1054 l1056.length cap1055 css1057, fz w0 ν1053] w ∧ (All2 (Rp40 ν1053) css1057 l1056) ∧ (ν958.le ν1053) ∧ (μ.ext w0.heap.size ν1053) ∧ (FrzIn w0 ν1053) ∧ ref06_sequences_K3 x964 k2 l1056 = some res) ?_ ?_
     ·skip
      refine wpIn_block ?_
      refine esr ?_
      refine rn 1 1 [(0, iv p0), (5, sv ad959 l961 cap960), (6, sv ad11 y9 cap12), (7, iv x964), (8, iv 0)] hF fun a hF => ?_
      refine wfn rfl ?_
      refine wpIn_block ?_
      have hj1124 := Frz.le_refl ν958
      refine eloop (fun n_ a w => ∃ (l1119 : (List (List Int))) (x1122 : Int) (ν1116 : Frz) (ad1117 : Option Addr) (cap1118 : Nat) (css1120 : List (List Value)), Fr 38 [] [(0, iv p0), (5, sv ad1117 l1119 cap1118), (6, sv ad11 y9 cap12), (7, iv x964), (8, iv x1122)] a ∧ St w0 [arr 40 1 (fN 1) ad1117 l1119.length cap1118 css1120, fz w0 ν1116] w ∧ (All2 (Rp40 ν1116) css1120 l1119) ∧ (ν958.le ν1116) ∧ (μ.ext w0.heap.size ν1116) ∧ (FrzIn w0 ν1116) ∧ ref06_sequences_L4 y9 x964 k2 n_ l1119 x1122 = some res) F ⟨l961, 0, ν958, ad959, cap960, css962, hF.sub (by kernel_rfl), St.pick [0, 1] (by decide) hS, hq963, hj1124, hext, hlow, h⟩ ?_
      clear hj1124
      rintro n_ a w ⟨l1119, x1122, ν1116, ad1117, cap1118, css1120, hF, hS, hq1121, hle1123, hext, hlow, h⟩
      rcases n_ with _ | n_
      ·cases (show (none : Option (List (List Int))) = some res from h)
      replace hA14 := hA14.mono Rp40.mono hle1123
      replace hq963 := All2.mono Rp40.mono hle1123 hq963
      replace hj587 := Frz.le_trans hj587 hle1123
      replace hle965 := Frz.le_trans hle965 hle1123
      replace hj1061 := Frz.le_trans hj1061 hle1123
      obtain ⟨k4, hk4⟩ : ∃ k, k = ref06_sequences_L4 y9 x964 k2 n_ := ⟨_, rfl⟩
      replace h : ref06_sequences_B4 y9 x964 k2 k4 l1119 x1122 = some res := by rw [hk4]; exact h
      rw [ref06_sequences_B4] at h
      refine eseq ?_
      refine esr ?_
      refine rn 4 4 [(0, iv p0), (5, sv ad1117 l1119 cap1118), (6, sv ad11 y9 cap12), (7, iv x964), (8, iv x1122), (24, .bool (decide (x1122 < (ln y9))))] hF fun a hF => ?_
      refine wfn rfl ?_
      refine econd hF rfl (fun hc => ?_) (fun hc => ?_)
      ·replace h := bif_t h hc
       refine wpIn_skip (norm_then ?_)
       refine eseq ?_
       refine wpIn_block ?_
       refine WI.region ?_
       refine rn 2 2 [(0, iv p0), (5, sv ad1117 l1119 cap1118), (6, sv ad11 y9 cap12), (7, iv x964), (8, iv x1122), (27, sv ad1117 l1119 cap1118), (28, iv x964)] hF fun a hF => ?_
       refine SK.wi (litK (e := 3) (sz := 1) (f := fI) (t := 40) (len := 1) (fun b1125 => [(0, iv p0), (5, sv ad1117 l1119 cap1118), (6, sv ad11 y9 cap12), (7, iv x964), (8, iv x1122), (27, sv ad1117 l1119 cap1118), (29, sb b1125 1)]) #[(0, iv x964)] #[iv x964] ([x964]) hF hS (by kernel_rfl) ⟨by kernel_rfl⟩ (by kernel_rfl) fI_len rfl rfl (by kernel_rfl) (fun _ => ⟨by kernel_rfl⟩) fun b1125 w a hF hS => ?_)
       replace h := bindS h
       obtain ⟨u1126, hu1126, h⟩ := h
       obtain ⟨cs1127, hcs1128, hR1129⟩ := getI_all2 hA14.2 hu1126
       obtain ⟨ad1130, cap1131, rfl, hA1132⟩ := hR1129
       refine rno 4 [.run [] (Instr.indexAt 111 (sv ad11 y9 cap12) (iv x1122)) (.pointer (some (slAddr ad11 x1122 1))), .run [] (Instr.loadAt 40 (.pointer (some (slAddr ad11 x1122 1)))) (sv ad1130 u1126 cap1131)] 7 [(0, iv p0), (5, sv ad1117 l1119 cap1118), (6, sv ad11 y9 cap12), (7, iv x964), (8, iv x1122), (27, sv ad1117 l1119 cap1118), (29, sb b1125 1), (33, sv ad1130 u1126 cap1131)] hF (ocons (obIdxQ (hA14.at (hS.frz (i := 2) rfl hlow)) (by kernel_rfl) (fun _ => hcs1128)) (ocons (obElQ (i := x1122) 0 (fN_len 1) (fun _ hd => (hA14.at ((hS.at_ hd).frz (i := 2) rfl hlow))) (by kernel_rfl) (fun _ => hcs1128) rfl) onil)) fun a hF => ?_
       replace h := bindS h
       obtain ⟨l1133, hl1133, h⟩ := h
       refine SK.wi (appK (t := 40) (ty := 40) (bytes := 8) (l := ([x964])) (l' := u1126) (fun ad1134 cap1135 => [(0, iv p0), (5, sv ad1117 l1119 cap1118), (6, sv ad11 y9 cap12), (7, iv x964), (8, iv x1122), (27, sv ad1117 l1119 cap1118), (34, sv ad1134 l1133 cap1135)]) 0 hF hS rfl (by kernel_rfl) ⟨by kernel_rfl⟩ (by kernel_rfl) (hA1132 _ (hS.frz (i := 2) rfl hlow)) (fun _ _ => rfl) hl1133 (fun _ _ => ⟨by kernel_rfl⟩) fun ad1134 cap1135 w a hF hS => ?_)
       obtain ⟨ν1137, hx1138, hlow, hS, hz1139⟩ := hS.freeze (i := 2) (j := 0) rfl rfl (by decide) hlow
       replace hA14 := hA14.mono Rp40.mono hx1138.1
       replace hq963 := All2.mono Rp40.mono hx1138.1 hq963
       replace hq1121 := All2.mono Rp40.mono hx1138.1 hq1121
       replace hA1132 := hA1132.mono hx1138.1
       replace hj587 := Frz.le_trans hj587 hx1138.1
       replace hle965 := Frz.le_trans hle965 hx1138.1
       replace hj1061 := Frz.le_trans hj1061 hx1138.1
       replace hle1123 := Frz.le_trans hle1123 hx1138.1
       replace hext := Frz.ext_trans hext hx1138
       replace hS : St w0 [arr 40 1 (fN 1) ad1117 l1119.length cap1118 css1120, fz w0 ν1137] w := hS
       have hA1140 := ArrM.of_arr hz1139
       have hq1141 : All2 (Rp40 ν1137) ([[sv ad1134 l1133 cap1135]] : List (List Value)) [l1133] := (All2.cons ⟨ad1134, cap1135, rfl, hA1140⟩ All2.nil)
       refine SK.wi (litQK (e := 40) (sz := 1) (f := fN 1) (t := 111) (len := 1) (fun b1136 => [(0, iv p0), (5, sv ad1117 l1119 cap1118), (6, sv ad11 y9 cap12), (7, iv x964), (8, iv x1122), (27, sv ad1117 l1119 cap1118), (35, sb b1136 1)]) #[(0, sv ad1134 l1133 cap1135)] #[sv ad1134 l1133 cap1135] ([[sv ad1134 l1133 cap1135]] : List (List Value)) ([l1133]) hF hS (by kernel_rfl) ⟨by kernel_rfl⟩ (by kernel_rfl) (fN_len 1) rfl rfl rfl (by kernel_rfl) (fun _ => ⟨by kernel_rfl⟩) fun b1136 w a hF hS => ?_)
       replace h := bindS h
       obtain ⟨l1142, hl1142, h⟩ := h
       have hq1146 : All2 (Rp40 ν1137) (css1120 ++ ([[sv ad1134 l1133 cap1135]] : List (List Value))) l1142 := by rw [(apd_some hl1142).1]; exact All2.app hq1121 hq1141
       refine SK.wi (appQK (t := 111) (ty := 111) (bytes := 24) (c := css1120) (c' := ([[sv ad1134 l1133 cap1135]] : List (List Value))) (l := l1119) (l' := ([l1133])) (fun ad1143 cap1144 => [(0, iv p0), (5, sv ad1117 l1119 cap1118), (6, sv ad11 y9 cap12), (7, iv x964), (8, iv x1122), (36, sv ad1143 l1142 cap1144)]) 1 hF hS rfl (by kernel_rfl) ⟨by kernel_rfl⟩ (by kernel_rfl) (hS.arr (i := 0) rfl) (ArrQ.one hq1141 Rp40.one) hl1142 (fun _ _ => ⟨by kernel_rfl⟩) fun ad1143 cap1144 w a hF hS => ?_)
       refine rn 1 11 [(0, iv p0), (5, sv ad1143 l1142 cap1144), (6, sv ad11 y9 cap12), (7, iv x964), (8, iv x1122)] hF fun a hF => ?_
       refine WI.fin rfl (norm_block <| norm_then <| ?_)
       refine WI.region ?_
       replace h := bindS h
       obtain ⟨x1147, hx1147, h⟩ := h
       refine rno 3 [.run [] (binOp .add 3 (iv x1122) (iv 1)) (iv x1147)] 3 [(0, iv p0), (5, sv ad1143 l1142 cap1144), (6, sv ad11 y9 cap12), (7, iv x964), (8, iv x1147)] hF (ocons (obAddC (fun _ => hx1147)) onil) fun a hF => ?_
       refine wfn rfl ?_
       rw [hk4] at h
       exact ⟨n_, Nat.lt_succ_self _, l1142, x1147, ν1137, ad1143, cap1144, (css1120 ++ ([[sv ad1134 l1133 cap1135]] : List (List Value))), hF.sub (by kernel_rfl), St.pick [1, 2] (by decide) hS, hq1146, hle1123, hext, hlow, h⟩
      ·replace h := bif_f h hc
       refine wpIn_exit (exit_then <| exit_then <| exit_hit <| norm_block <| norm_then <| ?_)
       exact ⟨l1119, ν1116, ad1117, cap1118, css1120, hF.sub (by kernel_rfl), St.pick [0, 1] (by decide) hS, hq1121, hj1061, hext, hlow, h⟩
     clear hj1061
     rintro a w ⟨l1056, ν1053, ad1054, cap1055, css1057, hF, hS, hq1058, hle1059, hext, hlow, h⟩
     replace hA14 := hA14.mono Rp40.mono hle1059
     replace hq963 := All2.mono Rp40.mono hle1059 hq963
     replace hj587 := Frz.le_trans hj587 hle1059
     replace hle965 := Frz.le_trans hle965 hle1059
     rw [ref06_sequences_K3] at h
     refine WI.region ?_
     replace h := bindS h
     obtain ⟨x1060, hx1060, h⟩ := h
     refine rno 3 [.run [] (binOp .add 3 (iv x964) (iv 1)) (iv x1060)] 3 [(0, iv p0), (5, sv ad1054 l1056 cap1055), (6, sv ad11 y9 cap12), (7, iv x1060)] hF (ocons (obAddC (fun _ => hx1060)) onil) fun a hF => ?_
     refine wfn rfl ?_
     rw [hk2] at h
     exact ⟨n_, Nat.lt_succ_self _, l1056, x1060, ν1053, ad1054, cap1055, css1057, hF.sub (by kernel_rfl), St.pick [0, 1] (by decide) hS, hq1058, hle965, hext, hlow, h⟩
    ·replace h := bif_f h hc
     refine wpIn_exit (exit_then <| exit_then <| exit_hit <| norm_then ?_)
     exact ⟨l961, ν958, ad959, cap960, css962, hF.sub (by kernel_rfl), St.pick [0, 1] (by decide) hS, hq963, hj587, hext, hlow, h⟩
   clear hj587
   rintro a w ⟨l579, ν576, ad577, cap578, css580, hF, hS, hq581, hle582, hext, hlow, h⟩
   replace hA14 := hA14.mono Rp40.mono hle582
   rw [ref06_sequences_K1] at h
   refine esr ?_
   refine rn 2 2 [(4, sv ad577 l579 cap578)] hF fun a hF => ?_
   refine wfn rfl ?_
   refine wpIn_ret (fn_ret [.tmp 4] [sv ad577 l579 cap578] hF rfl ⟨rfl, trivial⟩ ?_)
   obtain ⟨ν583, hx584, hlow, hS, hz585⟩ := hS.freeze (i := 1) (j := 0) rfl rfl (by decide) hlow
   replace hA14 := hA14.mono Rp40.mono hx584.1
   replace hq581 := All2.mono Rp40.mono hx584.1 hq581
   replace hle582 := Frz.le_trans hle582 hx584.1
   replace hext := Frz.ext_trans hext hx584
   replace hS : St w0 [fz w0 ν583] w := hS
   have hA586 := ArrQ.of_arr (l := l579) hz585 hq581 Rp40.mono (Frz.le_refl _)
   have hr_ := Option.some.inj h
   subst hr_
   exact ⟨ν583, ad577, cap578, css580, hext, rfl, hA586, St.pick [0] (by decide) hS⟩

theorem ref06_Starts_ok (F : Nat) (p0 : (List Int)) (p1 : (List Int)) (res : Bool) (h : ref06_Starts F p0 p1 = some res) (μ : Frz) (w0 : World) (hm : FrzAt μ w0) {ad1 : Option Addr} {cap2 : Nat} {ad4 : Option Addr} {cap5 : Nat} (hA3 : ArrM μ 1 fI ad1 cap2 p0) (hA6 : ArrM μ 1 fI ad4 cap5 p1) : Calls Try.prog 63 #[sv ad1 p0 cap2, sv ad4 p1 cap5] w0 (fun e w => e = .returned (.bool res) ∧ Ext w0 w) := by
 obtain ⟨hlow, hS⟩ := hm.init
 have hext := Frz.ext_refl w0.heap.size μ
 rw [ref06_Starts] at h
 refine fn_enterW Try.func63 rfl 26 [(0, sv ad1 p0 cap2), (1, sv ad4 p1 cap5)] rfl rfl (by kernel_rfl) fun a w hw hF => ?_
 replace hS : St w0 [fz w0 μ] w := by rw [hw]; exact hS
 clear hw
 refine esr ?_
 refine rn 1 1 [(0, sv ad1 p0 cap2), (1, sv ad4 p1 cap5)] hF fun a hF => ?_
 refine wfn rfl ?_
 refine eseq ?_
 refine esr ?_
 refine rn 5 5 [(0, sv ad1 p0 cap2), (1, sv ad4 p1 cap5), (10, .bool (decide ((ln p1) > (ln p0))))] hF fun a hF => ?_
 refine wfn rfl ?_
 refine econd hF rfl (fun hc => ?_) (fun hc => ?_)
 ·replace h := bif_t h hc
  refine esr ?_
  refine rn 1 1 [(4, .bool false)] hF fun a hF => ?_
  refine wfn rfl ?_
  refine wpIn_ret (ret_then <| fn_ret [.tmp 4] [.bool false] hF rfl ⟨rfl, trivial⟩ ?_)
  have hr_ := Option.some.inj h
  subst hr_
  exact ⟨rfl, hS.ext⟩
 ·replace h := bif_f h hc
  refine wpIn_skip (norm_then ?_)
  refine ecut (fun a w => Fr 26 [] [] a ∧ St w0 [fz w0 μ] w ∧ ref06_Starts_K1 = some res) ?_ ?_
  ·skip
   refine esr ?_
   refine rn 1 1 [(0, sv ad1 p0 cap2), (1, sv ad4 p1 cap5), (5, iv 0)] hF fun a hF => ?_
   refine wfn rfl ?_
   refine wpIn_block ?_
   refine eloop (fun n_ a w => ∃ (x27 : Int), Fr 26 [] [(0, sv ad1 p0 cap2), (1, sv ad4 p1 cap5), (5, iv x27)] a ∧ St w0 [fz w0 μ] w ∧ ref06_Starts_L2 p0 p1 n_ x27 = some res) F ⟨0, hF.sub (by kernel_rfl), St.pick [0] (by decide) hS, h⟩ ?_
   rintro n_ a w ⟨x27, hF, hS, h⟩
   rcases n_ with _ | n_
   ·cases (show (none : Option Bool) = some res from h)
   obtain ⟨k2, hk2⟩ : ∃ k, k = ref06_Starts_L2 p0 p1 n_ := ⟨_, rfl⟩
   replace h : ref06_Starts_B2 p0 p1 k2 x27 = some res := by rw [hk2]; exact h
   rw [ref06_Starts_B2] at h
   refine eseq ?_
   refine esr ?_
   refine rn 4 4 [(0, sv ad1 p0 cap2), (1, sv ad4 p1 cap5), (5, iv x27), (14, .bool (decide (x27 < (ln p1))))] hF fun a hF => ?_
   refine wfn rfl ?_
   refine econd hF rfl (fun hc => ?_) (fun hc => ?_)
   ·replace h := bif_t h hc
    refine wpIn_skip (norm_then ?_)
    refine eseq ?_
    refine wpIn_block ?_
    refine eseq ?_
    replace h := bindS h
    obtain ⟨u29, hu29, h⟩ := h
    replace h := bindS h
    obtain ⟨u30, hu30, h⟩ := h
    refine runD (obs := [.run [] (Instr.indexAt 40 (sv ad1 p0 cap2) (iv x27)) (.pointer (some (slAddr ad1 x27 1))), .run [] (Instr.loadAt 3 (.pointer (some (slAddr ad1 x27 1)))) (iv u29), .run [] (Instr.indexAt 40 (sv ad4 p1 cap5) (iv x27)) (.pointer (some (slAddr ad4 x27 1))), .run [] (Instr.loadAt 3 (.pointer (some (slAddr ad4 x27 1)))) (iv u30)]) 9 [(0, sv ad1 p0 cap2), (1, sv ad4 p1 cap5), (5, iv x27), (25, .bool (u29 != u30))] (by kernel_rfl) hF (by kernel_rfl) (ocons (obIdxQ (hA3 _ (hS.frz (i := 0) rfl hlow)) (by kernel_rfl) (fun _ => hu29)) (ocons (obElQ (i := x27) 0 fI_len (fun _ hd => (hA3 _ ((hS.later hd).frz (i := 0) rfl hlow))) (by kernel_rfl) (fun _ => hu29) rfl) (ocons (obIdxQ (hA6 _ (hS.frz (i := 0) rfl hlow)) (by kernel_rfl) (fun _ => hu30)) (ocons (obElQ (i := x27) 0 fI_len (fun _ hd => (hA6 _ ((hS.later hd).frz (i := 0) rfl hlow))) (by kernel_rfl) (fun _ => hu30) rfl) onil)))) ⟨by kernel_rfl⟩ fun a w hF hx => ?_
    replace hS := hS.later hx
    refine wfn rfl ?_
    refine econd hF rfl (fun hc => ?_) (fun hc => ?_)
    ·replace h := bif_t h hc
     refine esr ?_
     refine rn 1 1 [(4, .bool false)] hF fun a hF => ?_
     refine wfn rfl ?_
     refine wpIn_ret (ret_block <| ret_then <| ret_then <| ret_block <| ret_then <| fn_ret [.tmp 4] [.bool false] hF rfl ⟨rfl, trivial⟩ ?_)
     have hr_ := Option.some.inj h
     subst hr_
     exact ⟨rfl, hS.ext⟩
    ·replace h := bif_f h hc
     refine wpIn_skip (norm_block <| norm_then <| ?_)
     refine WI.region ?_
     replace h := bindS h
     obtain ⟨x31, hx31, h⟩ := h
     refine rno 3 [.run [] (binOp .add 3 (iv x27) (iv 1)) (iv x31)] 3 [(0, sv ad1 p0 cap2), (1, sv ad4 p1 cap5), (5, iv x31)] hF (ocons (obAddC (fun _ => hx31)) onil) fun a hF => ?_
     refine wfn rfl ?_
     rw [hk2] at h
     exact ⟨n_, Nat.lt_succ_self _, x31, hF.sub (by kernel_rfl), St.pick [0] (by decide) hS, h⟩
   ·replace h := bif_f h hc
    refine wpIn_exit (exit_then <| exit_then <| exit_hit <| norm_then ?_)
    exact ⟨hF.sub (by kernel_rfl), St.pick [0] (by decide) hS, h⟩
  rintro a w ⟨hF, hS, h⟩
  rw [ref06_Starts_K1] at h
  refine esr ?_
  refine rn 1 1 [(4, .bool true)] hF fun a hF => ?_
  refine wfn rfl ?_
  refine wpIn_ret (fn_ret [.tmp 4] [.bool true] hF rfl ⟨rfl, trivial⟩ ?_)
  have hr_ := Option.some.inj h
  subst hr_
  exact ⟨rfl, hS.ext⟩

theorem law06_cuts_ok (F : Nat) (p0 : (List ref06_Cut)) (res : (List plan_Cut)) (h : law06_cuts F p0 = some res) (μ : Frz) (w0 : World) (hm : FrzAt μ w0) {ad1 : Option Addr} {cap2 : Nat} {css3 : List (List Value)} (hA4 : ArrQ μ 2 Rp59 ad1 cap2 css3 p0) : Calls Try.prog 32 #[sv ad1 p0 cap2] w0 (fun e w => ∃ (ν_ : Frz) (ad347 : Option Addr) (cap348 : Nat) (css349 : List (List Value)), μ.ext w0.heap.size ν_ ∧ e = .returned (sv ad347 res cap348) ∧ ArrQ ν_ 2 Rp65 ad347 cap348 css349 res ∧ St w0 [fz w0 ν_] w) := by
 obtain ⟨hlow, hS⟩ := hm.init
 have hext := Frz.ext_refl w0.heap.size μ
 rw [law06_cuts] at h
 refine fn_enterW Try.func32 rfl 26 [(0, sv ad1 p0 cap2)] rfl rfl (by kernel_rfl) fun a w hw hF => ?_
 replace hS : St w0 [fz w0 μ] w := by rw [hw]; exact hS
 clear hw
 refine esr ?_
 refine rn 1 1 [(0, sv ad1 p0 cap2)] hF fun a hF => ?_
 refine wfn rfl ?_
 refine esr ?_
 refine rn 1 1 [(0, sv ad1 p0 cap2), (3, .slice none 0 0)] hF fun a hF => ?_
 refine wfn rfl ?_
 refine ecut (fun a w => ∃ (l173 : (List plan_Cut)) (ad171 : Option Addr) (cap172 : Nat) (css174 : List (List Value)), Fr 26 [] [(3, sv ad171 l173 cap172)] a ∧ St w0 [arr 65 2 (fN 2) ad171 l173.length cap172 css174, fz w0 μ] w ∧ (All2 (Rp65 μ) css174 l173) ∧ law06_cuts_K1 l173 = some res) ?_ ?_
 ·skip
  refine esr ?_
  refine rn 1 1 [(0, sv ad1 p0 cap2), (3, .slice none 0 0), (4, iv 0)] hF fun a hF => ?_
  refine wfn rfl ?_
  refine wpIn_block ?_
  replace hS := hS.nilarr 65 2 (fN 2)
  refine eloop (fun n_ a w => ∃ (l291 : (List plan_Cut)) (x294 : Int) (ad289 : Option Addr) (cap290 : Nat) (css292 : List (List Value)), Fr 26 [] [(0, sv ad1 p0 cap2), (3, sv ad289 l291 cap290), (4, iv x294)] a ∧ St w0 [arr 65 2 (fN 2) ad289 l291.length cap290 css292, fz w0 μ] w ∧ (All2 (Rp65 μ) css292 l291) ∧ law06_cuts_L2 p0 n_ l291 x294 = some res) F ⟨[], 0, none, 0, [], hF.sub (by kernel_rfl), St.pick [0, 1] (by decide) hS, All2.nil, h⟩ ?_
  rintro n_ a w ⟨l291, x294, ad289, cap290, css292, hF, hS, hq293, h⟩
  rcases n_ with _ | n_
  ·cases (show (none : Option (List plan_Cut)) = some res from h)
  obtain ⟨k2, hk2⟩ : ∃ k, k = law06_cuts_L2 p0 n_ := ⟨_, rfl⟩
  replace h : law06_cuts_B2 p0 k2 l291 x294 = some res := by rw [hk2]; exact h
  rw [law06_cuts_B2] at h
  refine eseq ?_
  refine esr ?_
  refine rn 4 4 [(0, sv ad1 p0 cap2), (3, sv ad289 l291 cap290), (4, iv x294), (8, .bool (decide (x294 < (ln p0))))] hF fun a hF => ?_
  refine wfn rfl ?_
  refine econd hF rfl (fun hc => ?_) (fun hc => ?_)
  ·replace h := bif_t h hc
   refine wpIn_skip (norm_then ?_)
   refine eseq ?_
   refine wpIn_block ?_
   replace h := bindS h
   obtain ⟨u296, hu296, h⟩ := h
   replace h := bindS h
   obtain ⟨u303, hu303, h⟩ := h
   refine region_treeW 13 [12] _ (D := fun w => St w0 [arr 65 2 (fN 2) ad289 l291.length cap290 css292] w ∧ FrzAt μ w) (by kernel_rfl) (by kernel_rfl) hF.size (fun w hx => ?_) (fun _ _ h => h)
   replace hS := hS.later hx
   refine ⟨⟨St.pick [0] (by decide) hS, hS.frz (i := 1) rfl hlow⟩, ?_⟩
   have hcl326 := Frz.le_refl μ
   obtain ⟨cs327, hcs328, hR329⟩ := getI_all2 hA4.2 hu296
   obtain ⟨ad330, cap331, rfl, hA332⟩ := hR329
   obtain ⟨cs333, hcs334, hR335⟩ := getI_all2 hA4.2 hu303
   obtain ⟨ad336, cap337, rfl, hA338⟩ := hR335
   refine WT.s [0, 1, 2, 3, 4, 5, 6, 7, 8, 9, 10, 11] [12] (by kernel_rfl) (by kernel_rfl) ?_
   refine runC (rest := []) (obs := [.run [] (Instr.indexAt 57 (sv ad1 p0 cap2) (iv x294)) (.pointer (some (slAddr ad1 x294 2))), .run [] (Instr.loadAt 40 (.pointer (some (slAddr ad1 x294 2)))) (sv ad330 u296.Begin cap331), .run [] (Instr.indexAt 57 (sv ad1 p0 cap2) (iv x294)) (.pointer (some (slAddr ad1 x294 2))), .run [] (Instr.loadAt 3 (.pointer (some ((slAddr ad1 x294 2).add 1)))) (iv u303.Late)]) [0, 1, 2, 3, 4, 5, 6, 7, 8, 9, 10, 11] [(0, sv ad1 p0 cap2), (3, sv ad289 l291 cap290), (4, iv x294), (11, sv ad289 l291 cap290), (22, .agg #[sv ad330 u296.Begin cap331, iv u303.Late])] hF (by kernel_rfl) (by kernel_rfl) (ocons (obIdxQ (hA4.at (hS.frz (i := 1) rfl hlow)) (by kernel_rfl) (fun _ => hcs328)) (ocons (obElQ (i := x294) 0 (fN_len 2) (fun _ hd => (hA4.at hd.2)) (by kernel_rfl) (fun _ => hcs328) rfl) (ocons (obIdxQ (hA4.at (hS.frz (i := 1) rfl hlow)) (by kernel_rfl) (fun _ => hcs334)) (ocons (obElQ (i := x294) 1 (fN_len 2) (fun _ hd => (hA4.at hd.2)) (by kernel_rfl) (fun _ => hcs334) rfl) onil)))) ⟨by kernel_rfl⟩ fun a hF => ?_
   refine WRun.fin ?_
   refine all_cons ?_ (all_nil)
   have hq340 : All2 (Rp65 μ) ([[sv ad330 u296.Begin cap331, iv u303.Late]] : List (List Value)) [(plan_Cut.mk u296.Begin u303.Late)] := (All2.cons ⟨ad330, cap331, rfl, hA332⟩ All2.nil)
   refine litQK (e := 65) (sz := 2) (f := fN 2) (t := 60) (len := 1) (fun b339 => [(0, sv ad1 p0 cap2), (3, sv ad289 l291 cap290), (4, iv x294), (11, sv ad289 l291 cap290), (23, sb b339 1)]) #[(0, .agg #[sv ad330 u296.Begin cap331, iv u303.Late])] #[sv ad330 u296.Begin cap331, iv u303.Late] ([[sv ad330 u296.Begin cap331, iv u303.Late]] : List (List Value)) ([(plan_Cut.mk u296.Begin u303.Late)]) hF hS (by kernel_rfl) ⟨by kernel_rfl⟩ (by kernel_rfl) (fN_len 2) rfl rfl rfl (by kernel_rfl) (fun _ => ⟨by kernel_rfl⟩) fun b339 w a hF hS => ⟨⟨St.pick [1] (by decide) hS, (hS.frz (i := 2) rfl hlow)⟩, ?_⟩
   refine WT.z [] (by kernel_rfl) ?_
   refine WRun.fin ?_
   replace h := bindS h
   obtain ⟨l341, hl341, h⟩ := h
   have hq345 : All2 (Rp65 μ) (css292 ++ ([[sv ad330 u296.Begin cap331, iv u303.Late]] : List (List Value))) l341 := by rw [(apd_some hl341).1]; exact All2.app hq293 hq340
   refine SK.wi (appQK (t := 60) (ty := 60) (bytes := 32) (c := css292) (c' := ([[sv ad330 u296.Begin cap331, iv u303.Late]] : List (List Value))) (l := l291) (l' := ([(plan_Cut.mk u296.Begin u303.Late)])) (fun ad342 cap343 => [(0, sv ad1 p0 cap2), (3, sv ad289 l291 cap290), (4, iv x294), (24, sv ad342 l341 cap343)]) 1 hF hS rfl (by kernel_rfl) ⟨by kernel_rfl⟩ (by kernel_rfl) (hS.arr (i := 0) rfl) (ArrQ.one hq340 Rp65.one) hl341 (fun _ _ => ⟨by kernel_rfl⟩) fun ad342 cap343 w a hF hS => ?_)
   refine rn 1 15 [(0, sv ad1 p0 cap2), (3, sv ad342 l341 cap343), (4, iv x294)] hF fun a hF => ?_
   refine WI.fin rfl (norm_block <| norm_then <| ?_)
   refine WI.region ?_
   replace h := bindS h
   obtain ⟨x346, hx346, h⟩ := h
   refine rno 3 [.run [] (binOp .add 3 (iv x294) (iv 1)) (iv x346)] 3 [(0, sv ad1 p0 cap2), (3, sv ad342 l341 cap343), (4, iv x346)] hF (ocons (obAddC (fun _ => hx346)) onil) fun a hF => ?_
   refine wfn rfl ?_
   rw [hk2] at h
   exact ⟨n_, Nat.lt_succ_self _, l341, x346, ad342, cap343, (css292 ++ ([[sv ad330 u296.Begin cap331, iv u303.Late]] : List (List Value))), hF.sub (by kernel_rfl), St.pick [1, 2] (by decide) hS, hq345, h⟩
  ·replace h := bif_f h hc
   refine wpIn_exit (exit_then <| exit_then <| exit_hit <| norm_then ?_)
   exact ⟨l291, ad289, cap290, css292, hF.sub (by kernel_rfl), St.pick [0, 1] (by decide) hS, hq293, h⟩
 rintro a w ⟨l173, ad171, cap172, css174, hF, hS, hq175, h⟩
 rw [law06_cuts_K1] at h
 refine esr ?_
 refine rn 2 2 [(2, sv ad171 l173 cap172)] hF fun a hF => ?_
 refine wfn rfl ?_
 refine wpIn_ret (fn_ret [.tmp 2] [sv ad171 l173 cap172] hF rfl ⟨rfl, trivial⟩ ?_)
 obtain ⟨ν176, hx177, hlow, hS, hz178⟩ := hS.freeze (i := 1) (j := 0) rfl rfl (by decide) hlow
 replace hA4 := hA4.mono Rp59.mono hx177.1
 replace hq175 := All2.mono Rp65.mono hx177.1 hq175
 replace hext := Frz.ext_trans hext hx177
 replace hS : St w0 [fz w0 ν176] w := hS
 have hA179 := ArrQ.of_arr (l := l173) hz178 hq175 Rp65.mono (Frz.le_refl _)
 have hr_ := Option.some.inj h
 subst hr_
 exact ⟨ν176, ad171, cap172, css174, hext, rfl, hA179, St.pick [0] (by decide) hS⟩
end Go.Proofs.Ytejffembnkojjaa
