/- Walks, written by program (wip/gen/dec.py). -/
import Derived.Test.YtejffembnkojjaaC10XD
import Derived.Test.YtejffembnkojjaaProg
namespace Go.Proofs.Ytejffembnkojjaa
open Go Go.RowKit Go.Eng
set_option maxRecDepth 10000
set_option maxHeartbeats 4000000
set_option linter.unusedVariables false
set_option linter.unusedSimpArgs false
theorem plan_in_ok (p0 : Int) (p1 : Int) (p2 : Int) (res : Bool) (h : plan_in p0 p1 p2 = res) (μ : Frz) (w0 : World) (hm : FrzAt μ w0) : Calls Try.prog 50 #[iv p0, iv p1, iv p2] w0 (fun e w => e = .returned (.bool res) ∧ Ext w0 w) := by
 obtain ⟨hlow, hS⟩ := hm.init
 have hext := Frz.ext_refl w0.heap.size μ
 rw [plan_in] at h
 refine fn_enterW Try.func50 rfl 15 [(0, iv p0), (1, iv p1), (2, iv p2)] rfl rfl (by kernel_rfl) fun a w hw hF => ?_
 replace hS : St w0 [fz w0 μ] w := by rw [hw]; exact hS
 clear hw
 refine esr ?_
 refine rn 1 1 [(0, iv p0), (1, iv p1), (2, iv p2)] hF fun a hF => ?_
 refine wfn rfl ?_
 refine esr ?_
 refine rn 9 9 [(6, .bool (bif (decide (p0 ≥ p1)) then (decide (p0 ≤ p2)) else false))] hF fun a hF => ?_
 refine wfn rfl ?_
 refine wpIn_ret (fn_ret [.tmp 6] [.bool (bif (decide (p0 ≥ p1)) then (decide (p0 ≤ p2)) else false)] hF rfl ⟨rfl, trivial⟩ ?_)
 subst h
 exact ⟨rfl, hS.ext⟩

theorem pulse_within_ok (p0 : Int) (p1 : Int) (p2 : Int) (res : Bool) (h : pulse_within p0 p1 p2 = res) (μ : Frz) (w0 : World) (hm : FrzAt μ w0) : Calls Try.prog 78 #[iv p0, iv p1, iv p2] w0 (fun e w => e = .returned (.bool res) ∧ Ext w0 w) := by
 obtain ⟨hlow, hS⟩ := hm.init
 have hext := Frz.ext_refl w0.heap.size μ
 rw [pulse_within] at h
 refine fn_enterW Try.func78 rfl 15 [(0, iv p0), (1, iv p1), (2, iv p2)] rfl rfl (by kernel_rfl) fun a w hw hF => ?_
 replace hS : St w0 [fz w0 μ] w := by rw [hw]; exact hS
 clear hw
 refine esr ?_
 refine rn 1 1 [(0, iv p0), (1, iv p1), (2, iv p2)] hF fun a hF => ?_
 refine wfn rfl ?_
 refine esr ?_
 refine rn 9 9 [(6, .bool (bif (decide (p1 ≤ p0)) then (decide (p0 ≤ p2)) else false))] hF fun a hF => ?_
 refine wfn rfl ?_
 refine wpIn_ret (fn_ret [.tmp 6] [.bool (bif (decide (p1 ≤ p0)) then (decide (p0 ≤ p2)) else false)] hF rfl ⟨rfl, trivial⟩ ?_)
 subst h
 exact ⟨rfl, hS.ext⟩

theorem plan_Radar_time_1_ok (F : Nat) (c0_ : pulse_Train) (res : Int) (h : plan_Radar_time_1 F c0_ = some res) (μ : Frz) (w0 : World) (hm : FrzAt μ w0) {cb0 : Nat} (hcb0 : BlkM μ cb0 32 c0_.ar) : Calls Try.prog 71 #[pb cb0] w0 (fun e w => e = .returned (iv res) ∧ Ext w0 w) := by
 obtain ⟨hlow, hS⟩ := hm.init
 have hext := Frz.ext_refl w0.heap.size μ
 rw [plan_Radar_time_1] at h
 refine fn_enterW Try.func71 rfl 7 [(0, pb cb0)] rfl rfl (by kernel_rfl) fun a w hw hF => ?_
 replace hS : St w0 [fz w0 μ] w := by rw [hw]; exact hS
 clear hw
 refine esr ?_
 refine rn 1 1 [(0, pb cb0)] hF fun a hF => ?_
 refine wfn rfl ?_
 refine esr ?_
 replace h := bindS h
 obtain ⟨x1, hx1, h⟩ := h
 refine rno 6 [.run [] (Instr.loadAt 3 (.pointer (some ⟨cb0, 4, none⟩))) (iv c0_.Count), .run [] (Instr.loadAt 3 (.pointer (some ⟨cb0, 2, none⟩))) (iv c0_.First), .run [] (binOp .mul 3 (iv c0_.Count) (iv c0_.First)) (iv x1)] 6 [(1, iv x1)] hF (ocons (ob1 (by kernel_rfl) (fun _ hd => (hcb0.blk ((hS.at_ hd).frz (i := 0) rfl hlow)).cell1 (j := 4) rfl)) (ocons (ob1 (by kernel_rfl) (fun _ hd => (hcb0.blk ((hS.at_ hd).frz (i := 0) rfl hlow)).cell1 (j := 2) rfl)) (ocons (obMulC (fun _ => hx1)) onil))) fun a hF => ?_
 refine wfn rfl ?_
 refine wpIn_ret (fn_ret [.tmp 1] [iv x1] hF rfl ⟨rfl, trivial⟩ ?_)
 have hr_ := Option.some.inj h
 subst hr_
 exact ⟨rfl, hS.ext⟩

theorem plan_Radar_time_2_ok (F : Nat) (c0_ : pulse_Train) (res : Int) (h : plan_Radar_time_2 F c0_ = some res) (μ : Frz) (w0 : World) (hm : FrzAt μ w0) {cb0 : Nat} (hcb0 : BlkM μ cb0 32 c0_.ar) : Calls Try.prog 72 #[pb cb0] w0 (fun e w => e = .returned (iv res) ∧ Ext w0 w) := by
 obtain ⟨hlow, hS⟩ := hm.init
 have hext := Frz.ext_refl w0.heap.size μ
 rw [plan_Radar_time_2] at h
 refine fn_enterW Try.func72 rfl 11 [(0, pb cb0)] rfl rfl (by kernel_rfl) fun a w hw hF => ?_
 replace hS : St w0 [fz w0 μ] w := by rw [hw]; exact hS
 clear hw
 refine esr ?_
 refine rn 1 1 [(0, pb cb0)] hF fun a hF => ?_
 refine wfn rfl ?_
 refine esr ?_
 replace h := bindS h
 obtain ⟨x1, hx1, h⟩ := h
 replace h := bindS h
 obtain ⟨x2, hx2, h⟩ := h
 replace h := bindS h
 obtain ⟨x3, hx3, h⟩ := h
 refine rno 10 [.run [] (Instr.loadAt 3 (.pointer (some ⟨cb0, 4, none⟩))) (iv c0_.Count), .run [] (binOp .quo 3 (iv c0_.Count) (iv 2)) (iv x1), .run [] (Instr.loadAt 3 (.pointer (some ⟨cb0, 2, none⟩))) (iv c0_.First), .run [] (Instr.loadAt 3 (.pointer (some ⟨cb0, 3, none⟩))) (iv c0_.Second), .run [] (binOp .add 3 (iv c0_.First) (iv c0_.Second)) (iv x2), .run [] (binOp .mul 3 (iv x1) (iv x2)) (iv x3)] 10 [(1, iv x3)] hF (ocons (ob1 (by kernel_rfl) (fun _ hd => (hcb0.blk ((hS.at_ hd).frz (i := 0) rfl hlow)).cell1 (j := 4) rfl)) (ocons (obQuoC (fun _ => hx1)) (ocons (ob1 (by kernel_rfl) (fun _ hd => (hcb0.blk ((hS.at_ hd).frz (i := 0) rfl hlow)).cell1 (j := 2) rfl)) (ocons (ob1 (by kernel_rfl) (fun _ hd => (hcb0.blk ((hS.at_ hd).frz (i := 0) rfl hlow)).cell1 (j := 3) rfl)) (ocons (obAddC (fun _ => hx2)) (ocons (obMulC (fun _ => hx3)) onil)))))) fun a hF => ?_
 refine wfn rfl ?_
 refine wpIn_ret (fn_ret [.tmp 1] [iv x3] hF rfl ⟨rfl, trivial⟩ ?_)
 have hr_ := Option.some.inj h
 subst hr_
 exact ⟨rfl, hS.ext⟩

theorem plan_Radar_time_3_ok (F : Nat) (c0_ : pulse_Train) (res : Int) (h : plan_Radar_time_3 F c0_ = some res) (μ : Frz) (w0 : World) (hm : FrzAt μ w0) {cb0 : Nat} (hcb0 : BlkM μ cb0 32 c0_.ar) : Calls Try.prog 73 #[pb cb0] w0 (fun e w => e = .returned (iv res) ∧ Ext w0 w) := by
 obtain ⟨hlow, hS⟩ := hm.init
 have hext := Frz.ext_refl w0.heap.size μ
 rw [plan_Radar_time_3] at h
 refine fn_enterW Try.func73 rfl 16 [(0, pb cb0)] rfl rfl (by kernel_rfl) fun a w hw hF => ?_
 replace hS : St w0 [fz w0 μ] w := by rw [hw]; exact hS
 clear hw
 refine esr ?_
 refine rn 1 1 [(0, pb cb0)] hF fun a hF => ?_
 refine wfn rfl ?_
 refine esr ?_
 replace h := bindS h
 obtain ⟨x1, hx1, h⟩ := h
 replace h := bindS h
 obtain ⟨x2, hx2, h⟩ := h
 replace h := bindS h
 obtain ⟨x3, hx3, h⟩ := h
 replace h := bindS h
 obtain ⟨x4, hx4, h⟩ := h
 replace h := bindS h
 obtain ⟨x5, hx5, h⟩ := h
 replace h := bindS h
 obtain ⟨x6, hx6, h⟩ := h
 refine rno 15 [.run [] (Instr.loadAt 3 (.pointer (some ⟨cb0, 4, none⟩))) (iv c0_.Count), .run [] (binOp .add 3 (iv c0_.Count) (iv 1)) (iv x1), .run [] (binOp .quo 3 (iv x1) (iv 2)) (iv x2), .run [] (Instr.loadAt 3 (.pointer (some ⟨cb0, 2, none⟩))) (iv c0_.First), .run [] (binOp .mul 3 (iv x2) (iv c0_.First)) (iv x3), .run [] (Instr.loadAt 3 (.pointer (some ⟨cb0, 4, none⟩))) (iv c0_.Count), .run [] (binOp .quo 3 (iv c0_.Count) (iv 2)) (iv x4), .run [] (Instr.loadAt 3 (.pointer (some ⟨cb0, 3, none⟩))) (iv c0_.Second), .run [] (binOp .mul 3 (iv x4) (iv c0_.Second)) (iv x5), .run [] (binOp .add 3 (iv x3) (iv x5)) (iv x6)] 15 [(1, iv x6)] hF (ocons (ob1 (by kernel_rfl) (fun _ hd => (hcb0.blk ((hS.at_ hd).frz (i := 0) rfl hlow)).cell1 (j := 4) rfl)) (ocons (obAddC (fun _ => hx1)) (ocons (obQuoC (fun _ => hx2)) (ocons (ob1 (by kernel_rfl) (fun _ hd => (hcb0.blk ((hS.at_ hd).frz (i := 0) rfl hlow)).cell1 (j := 2) rfl)) (ocons (obMulC (fun _ => hx3)) (ocons (ob1 (by kernel_rfl) (fun _ hd => (hcb0.blk ((hS.at_ hd).frz (i := 0) rfl hlow)).cell1 (j := 4) rfl)) (ocons (obQuoC (fun _ => hx4)) (ocons (ob1 (by kernel_rfl) (fun _ hd => (hcb0.blk ((hS.at_ hd).frz (i := 0) rfl hlow)).cell1 (j := 3) rfl)) (ocons (obMulC (fun _ => hx5)) (ocons (obAddC (fun _ => hx6)) onil)))))))))) fun a hF => ?_
 refine wfn rfl ?_
 refine wpIn_ret (fn_ret [.tmp 1] [iv x6] hF rfl ⟨rfl, trivial⟩ ?_)
 have hr_ := Option.some.inj h
 subst hr_
 exact ⟨rfl, hS.ext⟩

theorem plan_up_ok (F : Nat) (p0 : Int) (p1 : Int) (res : Int) (h : plan_up F p0 p1 = some res) (μ : Frz) (w0 : World) (hm : FrzAt μ w0) : Calls Try.prog 74 #[iv p0, iv p1] w0 (fun e w => e = .returned (iv res) ∧ Ext w0 w) := by
 obtain ⟨hlow, hS⟩ := hm.init
 have hext := Frz.ext_refl w0.heap.size μ
 rw [plan_up] at h
 refine fn_enterW Try.func74 rfl 11 [(0, iv p0), (1, iv p1)] rfl rfl (by kernel_rfl) fun a w hw hF => ?_
 replace hS : St w0 [fz w0 μ] w := by rw [hw]; exact hS
 clear hw
 refine esr ?_
 refine rn 1 1 [(0, iv p0), (1, iv p1)] hF fun a hF => ?_
 refine wfn rfl ?_
 refine esr ?_
 replace h := bindS h
 obtain ⟨x1, hx1, h⟩ := h
 replace h := bindS h
 obtain ⟨x2, hx2, h⟩ := h
 replace h := bindS h
 obtain ⟨x3, hx3, h⟩ := h
 refine rno 7 [.run [] (binOp .add 3 (iv p0) (iv p1)) (iv x1), .run [] (binOp .sub 3 (iv x1) (iv 1)) (iv x2), .run [] (binOp .quo 3 (iv x2) (iv p1)) (iv x3)] 7 [(4, iv x3)] hF (ocons (obAddC (fun _ => hx1)) (ocons (obSubC (fun _ => hx2)) (ocons (obQuoC (fun _ => hx3)) onil))) fun a hF => ?_
 refine wfn rfl ?_
 refine wpIn_ret (fn_ret [.tmp 4] [iv x3] hF rfl ⟨rfl, trivial⟩ ?_)
 have hr_ := Option.some.inj h
 subst hr_
 exact ⟨rfl, hS.ext⟩

theorem plan_Radar_move_ok (F : Nat) (p0 : plan_Radar) (p1 : plan_Job) (p2 : plan_Job) (res : Int) (h : plan_Radar_move F p0 p1 p2 = some res) (μ : Frz) (w0 : World) (hm : FrzAt μ w0) : Calls Try.prog 69 #[p0.ag, p1.ag, p2.ag] w0 (fun e w => e = .returned (iv res) ∧ Ext w0 w) := by
 obtain ⟨hlow, hS⟩ := hm.init
 have hext := Frz.ext_refl w0.heap.size μ
 rw [plan_Radar_move] at h
 refine fn_enterW Try.func69 rfl 21 [(0, p0.ag), (1, p1.ag), (2, p2.ag)] rfl rfl (by kernel_rfl) fun a w hw hF => ?_
 replace hS : St w0 [fz w0 μ] w := by rw [hw]; exact hS
 clear hw
 refine esr ?_
 refine SK.wi (boxK (t := 31) (fun b1 => [(1, p1.ag), (2, p2.ag), (3, pb b1)]) (p0.ag) p0.ar hF hS (by kernel_rfl) ⟨by kernel_rfl⟩ (by kernel_rfl) (fun _ => ⟨by kernel_rfl⟩) fun b1 w a hF hS => ?_)
 refine SK.wi (boxK (t := 34) (fun b2 => [(2, p2.ag), (3, pb b1), (4, pb b2)]) (p1.ag) p1.ar hF hS (by kernel_rfl) ⟨by kernel_rfl⟩ (by kernel_rfl) (fun _ => ⟨by kernel_rfl⟩) fun b2 w a hF hS => ?_)
 refine SK.wi (boxK (t := 34) (fun b3 => [(3, pb b1), (4, pb b2), (5, pb b3)]) (p2.ag) p2.ar hF hS (by kernel_rfl) ⟨by kernel_rfl⟩ (by kernel_rfl) (fun _ => ⟨by kernel_rfl⟩) fun b3 w a hF hS => ?_)
 refine rn 1 4 [(3, pb b1), (4, pb b2), (5, pb b3)] hF fun a hF => ?_
 refine wfn rfl ?_
 refine esr ?_
 replace h := bindS h
 obtain ⟨x4, hx4, h⟩ := h
 replace h := bindS h
 obtain ⟨x5, hx5, h⟩ := h
 replace h := bindS h
 obtain ⟨x6, hx6, h⟩ := h
 refine rno 15 [.run [] (Instr.loadAt 3 (.pointer (some ⟨b1, 2, none⟩))) (iv p0.Move), .run [] (Instr.loadAt 3 (pb b2)) (iv p1.Tilt), .run [] (Instr.loadAt 3 (pb b3)) (iv p2.Tilt), .run [] (binOp .sub 3 (iv p1.Tilt) (iv p2.Tilt)) (iv x4), .run [] (Instr.loadAt 3 (pb b3)) (iv p2.Tilt), .run [] (Instr.loadAt 3 (pb b2)) (iv p1.Tilt), .run [] (binOp .sub 3 (iv p2.Tilt) (iv p1.Tilt)) (iv x5), .run [] (binOp .mul 3 (iv p0.Move) (iv (if x5 > x4 then x5 else x4))) (iv x6)] 15 [(6, iv x6)] hF (ocons (ob1 (by kernel_rfl) (fun _ hd => (hS.at_ hd).cell (i := 2) (j := 2) rfl rfl)) (ocons (ob1 (by kernel_rfl) (fun _ hd => (hS.at_ hd).cell (i := 1) (j := 0) rfl rfl)) (ocons (ob1 (by kernel_rfl) (fun _ hd => (hS.at_ hd).cell (i := 0) (j := 0) rfl rfl)) (ocons (obSubC (fun _ => hx4)) (ocons (ob1 (by kernel_rfl) (fun _ hd => (hS.at_ hd).cell (i := 0) (j := 0) rfl rfl)) (ocons (ob1 (by kernel_rfl) (fun _ hd => (hS.at_ hd).cell (i := 1) (j := 0) rfl rfl)) (ocons (obSubC (fun _ => hx5)) (ocons (obMulC (fun _ => hx6)) onil)))))))) fun a hF => ?_
 refine wfn rfl ?_
 refine wpIn_ret (fn_ret [.tmp 6] [iv x6] hF rfl ⟨rfl, trivial⟩ ?_)
 have hr_ := Option.some.inj h
 subst hr_
 exact ⟨rfl, hS.ext⟩

theorem slices_Clip_int_int_ok (F : Nat) (p0 : (List Int)) (res : (List Int)) (h : slices_Clip_int_int F p0 = some res) (μ : Frz) (w0 : World) (hm : FrzAt μ w0) {ad1 : Option Addr} {cap2 : Nat} (hA3 : ArrM μ 1 fI ad1 cap2 p0) : Calls Try.prog 93 #[sv ad1 p0 cap2] w0 (fun e w => e = .returned (.slice (slOff ad1 (ln p0).toNat (0 : Int).toNat 1) res.length res.length) ∧ Ext w0 w ∧ ∀ w2, Arr w2 1 fI ad1 p0.length cap2 p0 → Arr w2 1 fI (slOff ad1 (ln p0).toNat (0 : Int).toNat 1) res.length res.length res) := by
 obtain ⟨hlow, hS⟩ := hm.init
 have hext := Frz.ext_refl w0.heap.size μ
 rw [slices_Clip_int_int] at h
 refine fn_enterW Try.func93 rfl 9 [(0, sv ad1 p0 cap2)] rfl rfl (by kernel_rfl) fun a w hw hF => ?_
 replace hS : St w0 [fz w0 μ] w := by rw [hw]; exact hS
 clear hw
 refine esr ?_
 refine rn 1 1 [(0, sv ad1 p0 cap2)] hF fun a hF => ?_
 refine wfn rfl ?_
 refine esr ?_
 replace h := bindS h
 obtain ⟨l4, hl4, h⟩ := h
 have hA5 : ArrM μ 1 fI (slOff ad1 (ln p0).toNat (0 : Int).toNat 1) l4.length l4 := fun w_ hw_ => (hA3 w_ hw_).cutMD fI_len hl4
 refine rno 7 [.run [] (Instr.sliceAt 40 (sv ad1 p0 cap2) none (some (iv (ln p0))) (some (iv (ln p0)))) (.slice (slOff ad1 (ln p0).toNat (0 : Int).toNat 1) l4.length l4.length)] 7 [(2, .slice (slOff ad1 (ln p0).toNat (0 : Int).toNat 1) l4.length l4.length)] hF (ocons (obCutHM (by kernel_rfl) (hA3 _ (hS.frz (i := 0) rfl hlow)) (fun _ => hl4)) onil) fun a hF => ?_
 refine wfn rfl ?_
 refine wpIn_ret (fn_ret [.tmp 2] [.slice (slOff ad1 (ln p0).toNat (0 : Int).toNat 1) l4.length l4.length] hF rfl ⟨rfl, trivial⟩ ?_)
 have hr_ := Option.some.inj h
 subst hr_
 exact ⟨rfl, hS.ext, fun w2 hw2 => hw2.cutMD fI_len hl4⟩

theorem plan_line_next_ok (F : Nat) (p0 : plan_line) (p1 : Int) (res : Int) (h : plan_line_next F p0 p1 = some res) (μ : Frz) (w0 : World) (hm : FrzAt μ w0) {pv1 : Option Addr} {ad2 : Option Addr} {cap3 : Nat} {ad4 : Option Addr} {cap5 : Nat} (hA6 : PtM μ 113 Rp113 pv1 p0.desk) (hA7 : ArrM μ 1 fI ad2 cap3 p0.jobs) (hA8 : ArrM μ 1 fI ad4 cap5 p0.at_) : Calls Try.prog 79 #[.agg #[.pointer pv1, sv ad2 p0.jobs cap3, sv ad4 p0.at_ cap5, iv p0.done], iv p1] w0 (fun e w => e = .returned (iv res) ∧ Ext w0 w) := by
 obtain ⟨hlow, hS⟩ := hm.init
 have hext := Frz.ext_refl w0.heap.size μ
 rw [plan_line_next] at h
 refine fn_enterW Try.func79 rfl 26 [(0, .agg #[.pointer pv1, sv ad2 p0.jobs cap3, sv ad4 p0.at_ cap5, iv p0.done]), (1, iv p1)] rfl rfl (by kernel_rfl) fun a w hw hF => ?_
 replace hS : St w0 [fz w0 μ] w := by rw [hw]; exact hS
 clear hw
 refine esr ?_
 refine SK.wi (boxK (t := 102) (fun b9 => [(1, iv p1), (2, pb b9)]) (.agg #[.pointer pv1, sv ad2 p0.jobs cap3, sv ad4 p0.at_ cap5, iv p0.done]) #[.pointer pv1, sv ad2 p0.jobs cap3, sv ad4 p0.at_ cap5, iv p0.done] hF hS (by kernel_rfl) ⟨by kernel_rfl⟩ (by kernel_rfl) (fun _ => ⟨by kernel_rfl⟩) fun b9 w a hF hS => ?_)
 refine rn 1 2 [(1, iv p1), (2, pb b9)] hF fun a hF => ?_
 refine wfn rfl ?_
 refine eseq ?_
 replace h := bindS h
 obtain ⟨d10, hd10, h⟩ := h
 obtain ⟨b11, cs12, hp13, hB14, hR15⟩ := PtM.some hA6 hd10
 obtain ⟨ad16, cap17, ad18, cap19, ad20, cap21, css22, rfl, hA23, hA24, hA25⟩ := hR15
 try rw [hp13] at hF
 try rw [hp13] at hS
 try rw [hp13] at hB14
 replace h := bindS h
 obtain ⟨x26, hx26, h⟩ := h
 replace h := bindS h
 obtain ⟨u27, hu27, h⟩ := h
 replace h := bindS h
 obtain ⟨u28, hu28, h⟩ := h
 obtain ⟨cs29, hcs30, hR31⟩ := getI_all2 hA25.2 hu28
 obtain ⟨ad32, cap33, rfl, hA34⟩ := hR31
 replace h := bindS h
 obtain ⟨u35, hu35, h⟩ := h
 replace h := bindS h
 obtain ⟨x36, hx36, h⟩ := h
 refine runD (obs := [.run [] (Instr.loadAt 3 (.pointer (some ⟨b9, 3, none⟩))) (iv p0.done), .run [] (Instr.loadAt 100 (pb b9)) (pb b11), .run [] (Instr.loadAt 111 (.pointer (some ⟨b11, 2, none⟩))) (sv ad20 d10.moves cap21), .run [] (Instr.loadAt 40 (.pointer (some ⟨b9, 1, none⟩))) (sv ad2 p0.jobs cap3), .run [] (Instr.loadAt 40 (.pointer (some ⟨b9, 1, none⟩))) (sv ad2 p0.jobs cap3), .run [] (binOp .sub 3 (iv (ln p0.jobs)) (iv 1)) (iv x26), .run [] (Instr.indexAt 40 (sv ad2 p0.jobs cap3) (iv x26)) (.pointer (some (slAddr ad2 x26 1))), .run [] (Instr.loadAt 3 (.pointer (some (slAddr ad2 x26 1)))) (iv u27), .run [] (Instr.indexAt 111 (sv ad20 d10.moves cap21) (iv u27)) (.pointer (some (slAddr ad20 u27 1))), .run [] (Instr.loadAt 40 (.pointer (some (slAddr ad20 u27 1)))) (sv ad32 u28 cap33), .run [] (Instr.indexAt 40 (sv ad32 u28 cap33) (iv p1)) (.pointer (some (slAddr ad32 p1 1))), .run [] (Instr.loadAt 3 (.pointer (some (slAddr ad32 p1 1)))) (iv u35), .run [] (binOp .add 3 (iv p0.done) (iv u35)) (iv x36)]) 22 [(4, iv x36)] (by kernel_rfl) hF (by kernel_rfl) (ocons (ob1 (by kernel_rfl) (fun _ hd => (hS.later hd).cell (i := 0) (j := 3) rfl rfl)) (ocons (ob1 (by kernel_rfl) (fun _ hd => (hS.later hd).cell (i := 0) (j := 0) rfl rfl)) (ocons (ob1 (by kernel_rfl) (fun _ hd => (hB14.blk ((hS.later hd).frz (i := 1) rfl hlow)).cell1 (j := 2) rfl)) (ocons (ob1 (by kernel_rfl) (fun _ hd => (hS.later hd).cell (i := 0) (j := 1) rfl rfl)) (ocons (ob1 (by kernel_rfl) (fun _ hd => (hS.later hd).cell (i := 0) (j := 1) rfl rfl)) (ocons (obSubC (fun _ => hx26)) (ocons (obIdxQ (hA7 _ (hS.frz (i := 1) rfl hlow)) (by kernel_rfl) (fun _ => hu27)) (ocons (obElQ (i := x26) 0 fI_len (fun _ hd => (hA7 _ ((hS.later hd).frz (i := 1) rfl hlow))) (by kernel_rfl) (fun _ => hu27) rfl) (ocons (obIdxQ (hA25.at (hS.frz (i := 1) rfl hlow)) (by kernel_rfl) (fun _ => hcs30)) (ocons (obElQ (i := u27) 0 (fN_len 1) (fun _ hd => (hA25.at ((hS.later hd).frz (i := 1) rfl hlow))) (by kernel_rfl) (fun _ => hcs30) rfl) (ocons (obIdxQ (hA34 _ (hS.frz (i := 1) rfl hlow)) (by kernel_rfl) (fun _ => hu35)) (ocons (obElQ (i := p1) 0 fI_len (fun _ hd => (hA34 _ ((hS.later hd).frz (i := 1) rfl hlow))) (by kernel_rfl) (fun _ => hu35) rfl) (ocons (obAddC (fun _ => hx36)) onil))))))))))))) ⟨by kernel_rfl⟩ fun a w hF hx => ?_
 replace hS := hS.later hx
 refine wfn rfl ?_
 refine wpIn_ret (fn_ret [.tmp 4] [iv x36] hF rfl ⟨rfl, trivial⟩ ?_)
 have hr_ := Option.some.inj h
 subst hr_
 exact ⟨rfl, hS.ext⟩

theorem law06_numbers_ok (F : Nat) (p0 : (List Int)) (p1 : (List Int)) (res : Bool) (h : law06_numbers F p0 p1 = some res) (μ : Frz) (w0 : World) (hm : FrzAt μ w0) {ad1 : Option Addr} {cap2 : Nat} {ad4 : Option Addr} {cap5 : Nat} (hA3 : ArrM μ 1 fI ad1 cap2 p0) (hA6 : ArrM μ 1 fI ad4 cap5 p1) : Calls Try.prog 21 #[sv ad1 p0 cap2, sv ad4 p1 cap5] w0 (fun e w => e = .returned (.bool res) ∧ Ext w0 w) := by
 obtain ⟨hlow, hS⟩ := hm.init
 have hext := Frz.ext_refl w0.heap.size μ
 rw [law06_numbers] at h
 refine fn_enterW Try.func21 rfl 26 [(0, sv ad1 p0 cap2), (1, sv ad4 p1 cap5)] rfl rfl (by kernel_rfl) fun a w hw hF => ?_
 replace hS : St w0 [fz w0 μ] w := by rw [hw]; exact hS
 clear hw
 refine esr ?_
 refine rn 1 1 [(0, sv ad1 p0 cap2), (1, sv ad4 p1 cap5)] hF fun a hF => ?_
 refine wfn rfl ?_
 refine eseq ?_
 refine esr ?_
 refine rn 5 5 [(0, sv ad1 p0 cap2), (1, sv ad4 p1 cap5), (10, .bool ((ln p0) != (ln p1)))] hF fun a hF => ?_
 refine wfn rfl ?_
 refine econd hF rfl (fun hc => ?_) (fun hc => ?_)
 ·replace h := bif_t h hc
  refine esr ?_
  refine rn 1 1 [(4, .bool false)] hF fun a hF => ?_
  refine wfn rfl ?_
  refine wpIn_ret (ret_then <| fn_ret [.tmp 4] [.bool false] hF rfl ⟨rfl, trivial⟩ ?_)
  have hr_ := Option.some.inj h
  subst hr_
  exact ⟨rfl, hS.ext⟩
 ·replace h := bif_f h hc
  refine wpIn_skip (norm_then ?_)
  refine ecut (fun a w => Fr 26 [] [] a ∧ St w0 [fz w0 μ] w ∧ law06_numbers_K1 = some res) ?_ ?_
  ·skip
   refine esr ?_
   refine rn 1 1 [(0, sv ad1 p0 cap2), (1, sv ad4 p1 cap5), (5, iv 0)] hF fun a hF => ?_
   refine wfn rfl ?_
   refine wpIn_block ?_
   refine eloop (fun n_ a w => ∃ (x27 : Int), Fr 26 [] [(0, sv ad1 p0 cap2), (1, sv ad4 p1 cap5), (5, iv x27)] a ∧ St w0 [fz w0 μ] w ∧ law06_numbers_L2 p0 p1 n_ x27 = some res) F ⟨0, hF.sub (by kernel_rfl), St.pick [0] (by decide) hS, h⟩ ?_
   rintro n_ a w ⟨x27, hF, hS, h⟩
   rcases n_ with _ | n_
   ·cases (show (none : Option Bool) = some res from h)
   obtain ⟨k2, hk2⟩ : ∃ k, k = law06_numbers_L2 p0 p1 n_ := ⟨_, rfl⟩
   replace h : law06_numbers_B2 p0 p1 k2 x27 = some res := by rw [hk2]; exact h
   rw [law06_numbers_B2] at h
   refine eseq ?_
   refine esr ?_
   refine rn 4 4 [(0, sv ad1 p0 cap2), (1, sv ad4 p1 cap5), (5, iv x27), (14, .bool (decide (x27 < (ln p0))))] hF fun a hF => ?_
   refine wfn rfl ?_
   refine econd hF rfl (fun hc => ?_) (fun hc => ?_)
   ·replace h := bif_t h hc
    refine wpIn_skip (norm_then ?_)
    refine eseq ?_
    refine wpIn_block ?_
    refine eseq ?_
    replace h := bindS h
    obtain ⟨u29, hu29, h⟩ := h
    replace h := bindS h
    obtain ⟨u30, hu30, h⟩ := h
    refine runD (obs := [.run [] (Instr.indexAt 40 (sv ad1 p0 cap2) (iv x27)) (.pointer (some (slAddr ad1 x27 1))), .run [] (Instr.loadAt 3 (.pointer (some (slAddr ad1 x27 1)))) (iv u29), .run [] (Instr.indexAt 40 (sv ad4 p1 cap5) (iv x27)) (.pointer (some (slAddr ad4 x27 1))), .run [] (Instr.loadAt 3 (.pointer (some (slAddr ad4 x27 1)))) (iv u30)]) 9 [(0, sv ad1 p0 cap2), (1, sv ad4 p1 cap5), (5, iv x27), (25, .bool (u29 != u30))] (by kernel_rfl) hF (by kernel_rfl) (ocons (obIdxQ (hA3 _ (hS.frz (i := 0) rfl hlow)) (by kernel_rfl) (fun _ => hu29)) (ocons (obElQ (i := x27) 0 fI_len (fun _ hd => (hA3 _ ((hS.later hd).frz (i := 0) rfl hlow))) (by kernel_rfl) (fun _ => hu29) rfl) (ocons (obIdxQ (hA6 _ (hS.frz (i := 0) rfl hlow)) (by kernel_rfl) (fun _ => hu30)) (ocons (obElQ (i := x27) 0 fI_len (fun _ hd => (hA6 _ ((hS.later hd).frz (i := 0) rfl hlow))) (by kernel_rfl) (fun _ => hu30) rfl) onil)))) ⟨by kernel_rfl⟩ fun a w hF hx => ?_
    replace hS := hS.later hx
    refine wfn rfl ?_
    refine econd hF rfl (fun hc => ?_) (fun hc => ?_)
    ·replace h := bif_t h hc
     refine esr ?_
     refine rn 1 1 [(4, .bool false)] hF fun a hF => ?_
     refine wfn rfl ?_
     refine wpIn_ret (ret_block <| ret_then <| ret_then <| ret_block <| ret_then <| fn_ret [.tmp 4] [.bool false] hF rfl ⟨rfl, trivial⟩ ?_)
     have hr_ := Option.some.inj h
     subst hr_
     exact ⟨rfl, hS.ext⟩
    ·replace h := bif_f h hc
     refine wpIn_skip (norm_block <| norm_then <| ?_)
     refine WI.region ?_
     replace h := bindS h
     obtain ⟨x31, hx31, h⟩ := h
     refine rno 3 [.run [] (binOp .add 3 (iv x27) (iv 1)) (iv x31)] 3 [(0, sv ad1 p0 cap2), (1, sv ad4 p1 cap5), (5, iv x31)] hF (ocons (obAddC (fun _ => hx31)) onil) fun a hF => ?_
     refine wfn rfl ?_
     rw [hk2] at h
     exact ⟨n_, Nat.lt_succ_self _, x31, hF.sub (by kernel_rfl), St.pick [0] (by decide) hS, h⟩
   ·replace h := bif_f h hc
    refine wpIn_exit (exit_then <| exit_then <| exit_hit <| norm_then ?_)
    exact ⟨hF.sub (by kernel_rfl), St.pick [0] (by decide) hS, h⟩
  rintro a w ⟨hF, hS, h⟩
  rw [law06_numbers_K1] at h
  refine esr ?_
  refine rn 1 1 [(4, .bool true)] hF fun a hF => ?_
  refine wfn rfl ?_
  refine wpIn_ret (fn_ret [.tmp 4] [.bool true] hF rfl ⟨rfl, trivial⟩ ?_)
  have hr_ := Option.some.inj h
  subst hr_
  exact ⟨rfl, hS.ext⟩

theorem cmp_isNaN_int_ok (p0 : Int) (res : Bool) (h : cmp_isNaN_int p0 = res) (μ : Frz) (w0 : World) (hm : FrzAt μ w0) : Calls Try.prog 92 #[iv p0] w0 (fun e w => e = .returned (.bool res) ∧ Ext w0 w) := by
 obtain ⟨hlow, hS⟩ := hm.init
 have hext := Frz.ext_refl w0.heap.size μ
 rw [cmp_isNaN_int] at h
 refine fn_enterW Try.func92 rfl 6 [(0, iv p0)] rfl rfl (by kernel_rfl) fun a w hw hF => ?_
 replace hS : St w0 [fz w0 μ] w := by rw [hw]; exact hS
 clear hw
 refine esr ?_
 refine rn 1 1 [(0, iv p0)] hF fun a hF => ?_
 refine wfn rfl ?_
 refine esr ?_
 refine rn 4 4 [(2, .bool (p0 != p0))] hF fun a hF => ?_
 refine wfn rfl ?_
 refine wpIn_ret (fn_ret [.tmp 2] [.bool (p0 != p0)] hF rfl ⟨rfl, trivial⟩ ?_)
 subst h
 exact ⟨rfl, hS.ext⟩

theorem slices_isNaN_int_ok (p0 : Int) (res : Bool) (h : slices_isNaN_int p0 = res) (μ : Frz) (w0 : World) (hm : FrzAt μ w0) : Calls Try.prog 81 #[iv p0] w0 (fun e w => e = .returned (.bool res) ∧ Ext w0 w) := by
 obtain ⟨hlow, hS⟩ := hm.init
 have hext := Frz.ext_refl w0.heap.size μ
 rw [slices_isNaN_int] at h
 refine fn_enterW Try.func81 rfl 6 [(0, iv p0)] rfl rfl (by kernel_rfl) fun a w hw hF => ?_
 replace hS : St w0 [fz w0 μ] w := by rw [hw]; exact hS
 clear hw
 refine esr ?_
 refine rn 1 1 [(0, iv p0)] hF fun a hF => ?_
 refine wfn rfl ?_
 refine esr ?_
 refine rn 4 4 [(2, .bool (p0 != p0))] hF fun a hF => ?_
 refine wfn rfl ?_
 refine wpIn_ret (fn_ret [.tmp 2] [.bool (p0 != p0)] hF rfl ⟨rfl, trivial⟩ ?_)
 subst h
 exact ⟨rfl, hS.ext⟩

theorem slices_Backward_int_int_1_ok {σ γ : Type} (F : Nat) (c0_ : (List Int)) (body : σ → (Int × Int) → Option (σ × Bool)) (s_ : σ) (res : σ × Bool) (h : slices_Backward_int_int_1 F c0_ body s_ = some res) (l_ : Nat) (μ : Frz) (w0 w1 : World) (RC : σ → Bool → γ → List Res) (PC : σ → Bool → γ → Frz → Prop) (hPm : ∀ s b g μ ν, PC s b g μ → μ.le ν → PC s b g ν) (hy : ∀ (s : σ) (x : (Int × Int)) (q : σ × Bool), body s x = some q → ∀ (ν : Frz) (g : γ) (G : List Res) (w : World), μ.ext w0.heap.size ν → FrzIn w0 ν → PC s true g ν → St w0 (fz w0 ν :: (RC s true g ++ G)) w → Eng.Yields Try.prog l_ #[iv x.1, iv x.2] w (fun c w2 => c = q.2 ∧ ∃ ν2 g2, ν.ext w0.heap.size ν2 ∧ FrzIn w0 ν2 ∧ PC q.1 q.2 g2 ν2 ∧ St w0 (fz w0 ν2 :: (RC q.1 q.2 g2 ++ G)) w2)) (g_ : γ) (G_ : List Res) (hlow : FrzIn w0 μ) (hP : PC s_ true g_ μ) (hS : St w0 (fz w0 μ :: (RC s_ true g_ ++ G_)) w1) {cb1 : Nat} {ad1 : Option Addr} {cap2 : Nat} (hcb1 : BlkM μ cb1 40 #[sv ad1 c0_ cap2]) (hA3 : ArrM μ 1 fI ad1 cap2 c0_) : Calls Try.prog 95 #[.func (.yield l_) #[] #[], pb cb1] w1 (fun e w => ∃ (ν_ : Frz) (g2_ : γ), μ.ext w0.heap.size ν_ ∧ FrzIn w0 ν_ ∧ PC res.1 res.2 g2_ ν_ ∧ e = .returned (.tuple #[]) ∧ St w0 (fz w0 ν_ :: (RC res.1 res.2 g2_ ++ G_)) w) := by
 rw [slices_Backward_int_int_1] at h
 have hext := Frz.ext_refl w0.heap.size μ
 refine fn_enterW Try.func95 rfl 19 [(0, .func (.yield l_) #[] #[]), (1, pb cb1)] rfl rfl (by kernel_rfl) fun a w hw hF => ?_
 replace hS : St w0 (fz w0 μ :: (RC s_ true g_ ++ G_)) w := by rw [hw]; exact hS
 clear hw
 refine esr ?_
 replace h := bindS h
 obtain ⟨x4, hx4, h⟩ := h
 refine rno 4 [.run [] (Instr.loadAt 40 (pb cb1)) (sv ad1 c0_ cap2), .run [] (binOp .sub 3 (iv (ln c0_)) (iv 1)) (iv x4)] 4 [(0, .func (.yield l_) #[] #[]), (1, pb cb1), (3, iv x4)] hF (ocons (ob1 (by kernel_rfl) (fun _ hd => (hcb1.blk ((hS.at_ hd).frz (i := 0) rfl hlow)).cell1 (j := 0) rfl)) (ocons (obSubC (fun _ => hx4)) onil)) fun a hF => ?_
 refine wfn rfl ?_
 refine wpIn_block ?_
 have hj29 := Frz.le_refl μ
 refine eloop (fun n_ a w => ∃ (x25 : Int) (s26 : σ) (ν24 : Frz) (g27 : γ), Fr 19 [] [(0, .func (.yield l_) #[] #[]), (1, pb cb1), (3, iv x25)] a ∧ St w0 (fz w0 ν24 :: (RC s26 true g27 ++ G_)) w ∧ (PC s26 true g27 ν24) ∧ (μ.le ν24) ∧ (μ.ext w0.heap.size ν24) ∧ (FrzIn w0 ν24) ∧ slices_Backward_int_int_1_L1 body c0_ n_ x25 s26 = some res) F ⟨x4, s_, μ, g_, hF.sub (by kernel_rfl), St.pickT (A := [fz w0 μ]) (T := (RC s_ true g_ ++ G_)) [0] (by decide) hS, hP, hj29, hext, hlow, h⟩ ?_
 clear hj29
 rintro n_ a w ⟨x25, s26, ν24, g27, hF, hS, hP, hle28, hext, hlow, h⟩
 rcases n_ with _ | n_
 ·cases (show (none : Option (σ × Bool)) = some res from h)
 replace hcb1 := hcb1.mono hle28
 replace hA3 := hA3.mono hle28
 obtain ⟨k1, hk1⟩ : ∃ k, k = slices_Backward_int_int_1_L1 body c0_ n_ := ⟨_, rfl⟩
 replace h : slices_Backward_int_int_1_B1 body c0_ k1 x25 s26 = some res := by rw [hk1]; exact h
 rw [slices_Backward_int_int_1_B1] at h
 refine eseq ?_
 refine esr ?_
 refine rn 2 2 [(0, .func (.yield l_) #[] #[]), (1, pb cb1), (3, iv x25), (8, .bool (decide (x25 ≥ 0)))] hF fun a hF => ?_
 refine wfn rfl ?_
 refine econd hF rfl (fun hc => ?_) (fun hc => ?_)
 ·replace h := bif_t h hc
  refine wpIn_skip (norm_then ?_)
  refine eseq ?_
  refine wpIn_block ?_
  refine esr ?_
  replace h := bindS h
  obtain ⟨u30, hu30, h⟩ := h
  refine rno 6 [.run [] (Instr.loadAt 40 (pb cb1)) (sv ad1 c0_ cap2), .run [] (Instr.indexAt 40 (sv ad1 c0_ cap2) (iv x25)) (.pointer (some (slAddr ad1 x25 1))), .run [] (Instr.loadAt 3 (.pointer (some (slAddr ad1 x25 1)))) (iv u30)] 6 [(0, .func (.yield l_) #[] #[]), (1, pb cb1), (3, iv x25), (11, .func (.yield l_) #[] #[]), (12, iv x25), (16, iv u30)] hF (ocons (ob1 (by kernel_rfl) (fun _ hd => (hcb1.blk ((hS.at_ hd).frz (i := 0) rfl hlow)).cell1 (j := 0) rfl)) (ocons (obIdxQ (hA3 _ (hS.frz (i := 0) rfl hlow)) (by kernel_rfl) (fun _ => hu30)) (ocons (obElQ (i := x25) 0 fI_len (fun _ hd => (hA3 _ ((hS.at_ hd).frz (i := 0) rfl hlow))) (by kernel_rfl) (fun _ => hu30) rfl) onil))) fun a hF => ?_
  replace h := bindS h
  obtain ⟨q31, hq31, h⟩ := h
  refine yield_ (l := l_) (args := #[iv x25, iv u30]) 7 (fun bq_ => [(0, .func (.yield l_) #[] #[]), (1, pb cb1), (3, iv x25), (17, .bool bq_)]) hF (by kernel_rfl) ⟨by kernel_rfl⟩ (hy s26 (x25, u30) q31 hq31 ν24 g27 (G_ ++ []) w  hext hlow hP  (St.rot [] hS)) (fun _ => ⟨by kernel_rfl⟩) rfl ?_
  rintro bq_ w a ⟨hc_, ν32, g33, hx34, hlow, hP, hS⟩ hF
  subst hc_
  replace hS := St.unrot [] hS
  replace hext := Frz.ext_trans hext hx34
  replace hcb1 := hcb1.mono hx34.1
  replace hA3 := hA3.mono hx34.1
  replace hle28 := Frz.le_trans hle28 hx34.1
  replace hS : St w0 (fz w0 ν32 :: (RC q31.1 (q31.2) g33 ++ G_)) w := hS
  rcases Bool.eq_false_or_eq_true (q31.2) with hb35 | hb35
  ·replace h := bif_t h hb35
   rw [hb35] at hS hP
   rw [hb35] at hF
   replace hS : St w0 (fz w0 ν32 :: (RC q31.1 true g33 ++ G_)) w := hS
   refine rn 1 8 [(0, .func (.yield l_) #[] #[]), (1, pb cb1), (3, iv x25), (18, .bool false)] hF fun a hF => ?_
   refine wfn rfl ?_
   refine wpIn_cond_false (hF.get rfl) ?_
   refine wpIn_skip (norm_block <| norm_then <| ?_)
   refine WI.region ?_
   replace h := bindS h
   obtain ⟨x36, hx36, h⟩ := h
   refine rno 3 [.run [] (binOp .sub 3 (iv x25) (iv 1)) (iv x36)] 3 [(0, .func (.yield l_) #[] #[]), (1, pb cb1), (3, iv x36)] hF (ocons (obSubC (fun _ => hx36)) onil) fun a hF => ?_
   refine wfn rfl ?_
   rw [hk1] at h
   exact ⟨n_, Nat.lt_succ_self _, x36, q31.1, ν32, g33, hF.sub (by kernel_rfl), St.pickT (A := [fz w0 ν32]) (T := (RC q31.1 true g33 ++ G_)) [0] (by decide) hS, hP, hle28, hext, hlow, h⟩
  ·replace h := bif_f h hb35
   rw [hb35] at hS hP
   rw [hb35] at hF
   replace hS : St w0 (fz w0 ν32 :: (RC q31.1 false g33 ++ G_)) w := hS
   refine rn 1 8 [(0, .func (.yield l_) #[] #[]), (1, pb cb1), (3, iv x25), (18, .bool true)] hF fun a hF => ?_
   refine wfn rfl ?_
   refine wpIn_cond_true (hF.get rfl) ?_
   refine wpIn_ret (ret_block <| ret_then <| ret_then <| ret_block <| fn_ret [] [] hF rfl trivial ?_)
   have hr_ := Option.some.inj h
   subst hr_
   exact ⟨ν32, g33, hext, hlow, hP, rfl, hS⟩
 ·replace h := bif_f h hc
  refine wpIn_exit (exit_then <| exit_then <| exit_hit <| ?_)
  refine fn_end hF rfl ?_
  have hr_ := Option.some.inj h
  subst hr_
  exact ⟨ν24, g27, hext, hlow, hP, rfl, hS⟩

theorem plan_Verify_1_D0 (x0 : Int) {b0 : Nat} {w0 w : World} {H : List Res} (hS : St w0 (blk b0 28 #[iv x0] :: H) w) : CallsDIn (F0 none) 0 Try.prog 64 #[pb b0] .returning w (fun e u_ w => e = .returned (.tuple #[]) ∧ settle u_ = .returning ∧ St w0 (blk b0 28 #[iv x0] :: H) w) := by
 refine callsD_recover Try.func64 rfl 9 [(0, pb b0)] [(0, pb b0), (4, .nilIface)] rfl rfl (by kernel_rfl) (by kernel_rfl) ⟨by kernel_rfl⟩ ⟨by kernel_rfl⟩ fun a hF => ?_
 refine rn 4 5 [(0, pb b0), (6, .agg #[]), (7, .bool false)] hF fun a hF => ?_
 refine SK.wi (allocK (t := 127) (fun b1 => [(0, pb b0), (1, pb b1), (6, .agg #[]), (7, .bool false)]) #[] hF hS (by kernel_rfl) ⟨by kernel_rfl⟩ (by kernel_rfl) (fun _ => ⟨by kernel_rfl⟩) fun b1 w a hF hS => ?_)
 refine SK.wi (storeK (t := 127) [(0, pb b0), (7, .bool false)] 0 0 (.agg #[]) #[] hF hS rfl (by kernel_rfl) ⟨by kernel_rfl⟩ (by kernel_rfl) (by kernel_rfl) (by kernel_rfl) (by kernel_rfl) ⟨by kernel_rfl⟩ fun w a hF hS => ?_)
 refine rn 1 8 [(0, pb b0), (2, .bool false)] hF fun a hF => ?_
 refine wfn rfl ?_
 refine esr ?_
 refine rn 1 1 [(0, pb b0), (8, .bool false)] hF fun a hF => ?_
 refine wfn rfl ?_
 refine wpIn_cond_false (hF.get rfl) ?_
 refine wpIn_skip ?_
 refine fn_end hF rfl ?_
 exact ⟨rfl, rfl, hS.drop1⟩

theorem plan_Verify_1_D1 (x0 : Int) {b0 : Nat} {w0 w : World} {H : List Res} (hS : St w0 (blk b0 28 #[iv x0] :: H) w) : CallsDIn (F0 none) 0 Try.prog 64 #[pb b0] (.panicking [{ v := .iface 127 (.agg #[]), recovered := false }]) w (fun e u_ w => e = .returned (.tuple #[]) ∧ settle u_ = .returning ∧ St w0 (blk b0 28 #[iv 20] :: H) w) := by
 refine callsD_recover Try.func64 rfl 9 [(0, pb b0)] [(0, pb b0), (4, .iface 127 (.agg #[]))] rfl rfl (by kernel_rfl) (by kernel_rfl) ⟨by kernel_rfl⟩ ⟨by kernel_rfl⟩ fun a hF => ?_
 refine rn 4 5 [(0, pb b0), (6, .agg #[]), (7, .bool true)] hF fun a hF => ?_
 refine SK.wi (allocK (t := 127) (fun b1 => [(0, pb b0), (1, pb b1), (6, .agg #[]), (7, .bool true)]) #[] hF hS (by kernel_rfl) ⟨by kernel_rfl⟩ (by kernel_rfl) (fun _ => ⟨by kernel_rfl⟩) fun b1 w a hF hS => ?_)
 refine SK.wi (storeK (t := 127) [(0, pb b0), (7, .bool true)] 0 0 (.agg #[]) #[] hF hS rfl (by kernel_rfl) ⟨by kernel_rfl⟩ (by kernel_rfl) (by kernel_rfl) (by kernel_rfl) (by kernel_rfl) ⟨by kernel_rfl⟩ fun w a hF hS => ?_)
 refine rn 1 8 [(0, pb b0), (2, .bool true)] hF fun a hF => ?_
 refine wfn rfl ?_
 refine esr ?_
 refine rn 1 1 [(0, pb b0), (8, .bool true)] hF fun a hF => ?_
 refine wfn rfl ?_
 refine wpIn_cond_true (hF.get rfl) ?_
 refine WI.region ?_
 refine SK.wi (storeK (t := 28) [] 1 0 (iv 20) #[iv 20] hF hS rfl (by kernel_rfl) ⟨by kernel_rfl⟩ (by kernel_rfl) (by kernel_rfl) (by kernel_rfl) (by kernel_rfl) ⟨by kernel_rfl⟩ fun w a hF hS => ?_)
 refine WI.fin rfl ?_
 refine fn_end hF rfl ?_
 exact ⟨rfl, rfl, hS.drop1⟩


theorem slices_Equal_int_int_ok (F : Nat) (p0 : (List Int)) (p1 : (List Int)) (res : Bool) (h : slices_Equal_int_int F p0 p1 = some res) (μ : Frz) (w0 : World) (hm : FrzAt μ w0) {ad1 : Option Addr} {cap2 : Nat} {ad4 : Option Addr} {cap5 : Nat} (hA3 : ArrM μ 1 fI ad1 cap2 p0) (hA6 : ArrM μ 1 fI ad4 cap5 p1) : Calls Try.prog 89 #[sv ad1 p0 cap2, sv ad4 p1 cap5] w0 (fun e w => e = .returned (.bool res) ∧ Ext w0 w) := by
 obtain ⟨hlow, hS⟩ := hm.init
 have hext := Frz.ext_refl w0.heap.size μ
 rw [slices_Equal_int_int] at h
 refine fn_enterW Try.func89 rfl 26 [(0, sv ad1 p0 cap2), (1, sv ad4 p1 cap5)] rfl rfl (by kernel_rfl) fun a w hw hF => ?_
 replace hS : St w0 [fz w0 μ] w := by rw [hw]; exact hS
 clear hw
 refine esr ?_
 refine rn 1 1 [(0, sv ad1 p0 cap2), (1, sv ad4 p1 cap5)] hF fun a hF => ?_
 refine wfn rfl ?_
 refine eseq ?_
 refine esr ?_
 refine rn 5 5 [(0, sv ad1 p0 cap2), (1, sv ad4 p1 cap5), (10, .bool ((ln p0) != (ln p1)))] hF fun a hF => ?_
 refine wfn rfl ?_
 refine econd hF rfl (fun hc => ?_) (fun hc => ?_)
 ·replace h := bif_t h hc
  refine esr ?_
  refine rn 1 1 [(4, .bool false)] hF fun a hF => ?_
  refine wfn rfl ?_
  refine wpIn_ret (ret_then <| fn_ret [.tmp 4] [.bool false] hF rfl ⟨rfl, trivial⟩ ?_)
  have hr_ := Option.some.inj h
  subst hr_
  exact ⟨rfl, hS.ext⟩
 ·replace h := bif_f h hc
  refine wpIn_skip (norm_then ?_)
  refine ecut (fun a w => Fr 26 [] [] a ∧ St w0 [fz w0 μ] w ∧ slices_Equal_int_int_K1 = some res) ?_ ?_
  ·skip
   refine esr ?_
   refine rn 3 3 [(0, sv ad1 p0 cap2), (1, sv ad4 p1 cap5), (12, iv (ln p0)), (13, iv 0)] hF fun a hF => ?_
   refine wfn rfl ?_
   refine wpIn_block ?_
   refine eloop (fun n_ a w => ∃ (x27 : Int), Fr 26 [] [(0, sv ad1 p0 cap2), (1, sv ad4 p1 cap5), (12, iv (ln p0)), (13, iv x27)] a ∧ St w0 [fz w0 μ] w ∧ slices_Equal_int_int_L2 p0 p1 n_ x27 = some res) F ⟨0, hF.sub (by kernel_rfl), St.pick [0] (by decide) hS, h⟩ ?_
   rintro n_ a w ⟨x27, hF, hS, h⟩
   rcases n_ with _ | n_
   ·cases (show (none : Option Bool) = some res from h)
   obtain ⟨k2, hk2⟩ : ∃ k, k = slices_Equal_int_int_L2 p0 p1 n_ := ⟨_, rfl⟩
   replace h : slices_Equal_int_int_B2 p0 p1 k2 x27 = some res := by rw [hk2]; exact h
   rw [slices_Equal_int_int_B2] at h
   refine esr ?_
   refine rn 1 1 [(0, sv ad1 p0 cap2), (1, sv ad4 p1 cap5), (12, iv (ln p0)), (13, iv x27), (14, .bool (decide (x27 < (ln p0))))] hF fun a hF => ?_
   refine wfn rfl ?_
   refine eseq ?_
   refine econd hF rfl (fun hc => ?_) (fun hc => ?_)
   ·replace h := bif_t h hc
    refine wpIn_skip (norm_then ?_)
    refine eseq ?_
    refine wpIn_block ?_
    refine esr ?_
    refine rn 2 2 [(0, sv ad1 p0 cap2), (1, sv ad4 p1 cap5), (5, iv x27), (12, iv (ln p0)), (13, iv x27)] hF fun a hF => ?_
    refine wfn rfl ?_
    refine eseq ?_
    replace h := bindS h
    obtain ⟨u29, hu29, h⟩ := h
    replace h := bindS h
    obtain ⟨u30, hu30, h⟩ := h
    refine runD (obs := [.run [] (Instr.indexAt 40 (sv ad1 p0 cap2) (iv x27)) (.pointer (some (slAddr ad1 x27 1))), .run [] (Instr.loadAt 3 (.pointer (some (slAddr ad1 x27 1)))) (iv u29), .run [] (Instr.indexAt 40 (sv ad4 p1 cap5) (iv x27)) (.pointer (some (slAddr ad4 x27 1))), .run [] (Instr.loadAt 3 (.pointer (some (slAddr ad4 x27 1)))) (iv u30)]) 9 [(0, sv ad1 p0 cap2), (1, sv ad4 p1 cap5), (12, iv (ln p0)), (13, iv x27), (24, .bool (u29 != u30))] (by kernel_rfl) hF (by kernel_rfl) (ocons (obIdxQ (hA3 _ (hS.frz (i := 0) rfl hlow)) (by kernel_rfl) (fun _ => hu29)) (ocons (obElQ (i := x27) 0 fI_len (fun _ hd => (hA3 _ ((hS.later hd).frz (i := 0) rfl hlow))) (by kernel_rfl) (fun _ => hu29) rfl) (ocons (obIdxQ (hA6 _ (hS.frz (i := 0) rfl hlow)) (by kernel_rfl) (fun _ => hu30)) (ocons (obElQ (i := x27) 0 fI_len (fun _ hd => (hA6 _ ((hS.later hd).frz (i := 0) rfl hlow))) (by kernel_rfl) (fun _ => hu30) rfl) onil)))) ⟨by kernel_rfl⟩ fun a w hF hx => ?_
    replace hS := hS.later hx
    refine wfn rfl ?_
    refine econd hF rfl (fun hc => ?_) (fun hc => ?_)
    ·replace h := bif_t h hc
     refine esr ?_
     refine rn 1 1 [(4, .bool false)] hF fun a hF => ?_
     refine wfn rfl ?_
     refine wpIn_ret (ret_block <| ret_then <| ret_then <| ret_block <| ret_then <| fn_ret [.tmp 4] [.bool false] hF rfl ⟨rfl, trivial⟩ ?_)
     have hr_ := Option.some.inj h
     subst hr_
     exact ⟨rfl, hS.ext⟩
    ·replace h := bif_f h hc
     refine wpIn_skip (norm_block <| norm_then <| ?_)
     refine WI.region ?_
     replace h := bindS h
     obtain ⟨x31, hx31, h⟩ := h
     refine rno 2 [.run [] (binOp .add 3 (iv x27) (iv 1)) (iv x31)] 2 [(0, sv ad1 p0 cap2), (1, sv ad4 p1 cap5), (12, iv (ln p0)), (13, iv x31)] hF (ocons (obAddC (fun _ => hx31)) onil) fun a hF => ?_
     refine wfn rfl ?_
     rw [hk2] at h
     exact ⟨n_, Nat.lt_succ_self _, x31, hF.sub (by kernel_rfl), St.pick [0] (by decide) hS, h⟩
   ·replace h := bif_f h hc
    refine wpIn_exit (exit_then <| exit_then <| exit_hit <| norm_then ?_)
    exact ⟨hF.sub (by kernel_rfl), St.pick [0] (by decide) hS, h⟩
  rintro a w ⟨hF, hS, h⟩
  rw [slices_Equal_int_int_K1] at h
  refine esr ?_
  refine rn 1 1 [(4, .bool true)] hF fun a hF => ?_
  refine wfn rfl ?_
  refine wpIn_ret (fn_ret [.tmp 4] [.bool true] hF rfl ⟨rfl, trivial⟩ ?_)
  have hr_ := Option.some.inj h
  subst hr_
  exact ⟨rfl, hS.ext⟩

theorem slices_Min_int_int_ok (F : Nat) (p0 : (List Int)) (res : Int) (h : slices_Min_int_int F p0 = some res) (μ : Frz) (w0 : World) (hm : FrzAt μ w0) {ad1 : Option Addr} {cap2 : Nat} (hA3 : ArrM μ 1 fI ad1 cap2 p0) : Calls Try.prog 68 #[sv ad1 p0 cap2] w0 (fun e w => e = .returned (iv res) ∧ Ext w0 w) := by
 obtain ⟨hlow, hS⟩ := hm.init
 have hext := Frz.ext_refl w0.heap.size μ
 rw [slices_Min_int_int] at h
 refine fn_enterW Try.func68 rfl 25 [(0, sv ad1 p0 cap2)] rfl rfl (by kernel_rfl) fun a w hw hF => ?_
 replace hS : St w0 [fz w0 μ] w := by rw [hw]; exact hS
 clear hw
 refine esr ?_
 refine rn 1 1 [(0, sv ad1 p0 cap2)] hF fun a hF => ?_
 refine wfn rfl ?_
 refine ecut (fun a w => Fr 25 [] [(0, sv ad1 p0 cap2)] a ∧ St w0 [fz w0 μ] w ∧ slices_Min_int_int_K1 F p0 = some res) ?_ ?_
 ·skip
  refine esr ?_
  refine rn 3 3 [(0, sv ad1 p0 cap2), (7, .bool (decide ((ln p0) < 1)))] hF fun a hF => ?_
  refine wfn rfl ?_
  refine econd hF rfl (fun hc => ?_) (fun hc => ?_)
  ·replace h := bif_t h hc
   cases h
  ·replace h := bif_f h hc
   refine wpIn_skip (norm_then ?_)
   exact ⟨hF.sub (by kernel_rfl), St.pick [0] (by decide) hS, h⟩
 rintro a w ⟨hF, hS, h⟩
 rw [slices_Min_int_int_K1] at h
 refine esr ?_
 replace h := bindS h
 obtain ⟨u4, hu4, h⟩ := h
 refine rno 4 [.run [] (Instr.indexAt 40 (sv ad1 p0 cap2) (iv 0)) (.pointer (some (slAddr ad1 0 1))), .run [] (Instr.loadAt 3 (.pointer (some (slAddr ad1 0 1)))) (iv u4)] 4 [(0, sv ad1 p0 cap2), (3, iv u4)] hF (ocons (obIdxQ (hA3 _ (hS.frz (i := 0) rfl hlow)) (by kernel_rfl) (fun _ => hu4)) (ocons (obElQ (i := 0) 0 fI_len (fun _ hd => (hA3 _ ((hS.at_ hd).frz (i := 0) rfl hlow))) (by kernel_rfl) (fun _ => hu4) rfl) onil)) fun a hF => ?_
 refine wfn rfl ?_
 refine ecut (fun a w => ∃ (x16 : Int), Fr 25 [] [(3, iv x16)] a ∧ St w0 [fz w0 μ] w ∧ slices_Min_int_int_K2 x16 = some res) ?_ ?_
 ·skip
  refine esr ?_
  refine rn 1 1 [(0, sv ad1 p0 cap2), (3, iv u4), (4, iv 1)] hF fun a hF => ?_
  refine wfn rfl ?_
  refine wpIn_block ?_
  refine eloop (fun n_ a w => ∃ (x24 : Int) (x25 : Int), Fr 25 [] [(0, sv ad1 p0 cap2), (3, iv x24), (4, iv x25)] a ∧ St w0 [fz w0 μ] w ∧ slices_Min_int_int_L3 p0 n_ x24 x25 = some res) F ⟨u4, 1, hF.sub (by kernel_rfl), St.pick [0] (by decide) hS, h⟩ ?_
  rintro n_ a w ⟨x24, x25, hF, hS, h⟩
  rcases n_ with _ | n_
  ·cases (show (none : Option Int) = some res from h)
  obtain ⟨k3, hk3⟩ : ∃ k, k = slices_Min_int_int_L3 p0 n_ := ⟨_, rfl⟩
  replace h : slices_Min_int_int_B3 p0 k3 x24 x25 = some res := by rw [hk3]; exact h
  rw [slices_Min_int_int_B3] at h
  refine eseq ?_
  refine esr ?_
  refine rn 4 4 [(0, sv ad1 p0 cap2), (3, iv x24), (4, iv x25), (15, .bool (decide (x25 < (ln p0))))] hF fun a hF => ?_
  refine wfn rfl ?_
  refine econd hF rfl (fun hc => ?_) (fun hc => ?_)
  ·replace h := bif_t h hc
   refine wpIn_skip (norm_then ?_)
   refine eseq ?_
   refine wpIn_block ?_
   refine WI.region ?_
   replace h := bindS h
   obtain ⟨u27, hu27, h⟩ := h
   refine rno 7 [.run [] (Instr.indexAt 40 (sv ad1 p0 cap2) (iv x25)) (.pointer (some (slAddr ad1 x25 1))), .run [] (Instr.loadAt 3 (.pointer (some (slAddr ad1 x25 1)))) (iv u27)] 7 [(0, sv ad1 p0 cap2), (3, iv (if u27 < x24 then u27 else x24)), (4, iv x25)] hF (ocons (obIdxQ (hA3 _ (hS.frz (i := 0) rfl hlow)) (by kernel_rfl) (fun _ => hu27)) (ocons (obElQ (i := x25) 0 fI_len (fun _ hd => (hA3 _ ((hS.at_ hd).frz (i := 0) rfl hlow))) (by kernel_rfl) (fun _ => hu27) rfl) onil)) fun a hF => ?_
   refine WI.fin rfl (norm_block <| norm_then <| ?_)
   refine WI.region ?_
   replace h := bindS h
   obtain ⟨x28, hx28, h⟩ := h
   refine rno 3 [.run [] (binOp .add 3 (iv x25) (iv 1)) (iv x28)] 3 [(0, sv ad1 p0 cap2), (3, iv (if u27 < x24 then u27 else x24)), (4, iv x28)] hF (ocons (obAddC (fun _ => hx28)) onil) fun a hF => ?_
   refine wfn rfl ?_
   rw [hk3] at h
   exact ⟨n_, Nat.lt_succ_self _, if u27 < x24 then u27 else x24, x28, hF.sub (by kernel_rfl), St.pick [0] (by decide) hS, h⟩
  ·replace h := bif_f h hc
   refine wpIn_exit (exit_then <| exit_then <| exit_hit <| norm_then ?_)
   exact ⟨x24, hF.sub (by kernel_rfl), St.pick [0] (by decide) hS, h⟩
 rintro a w ⟨x16, hF, hS, h⟩
 rw [slices_Min_int_int_K2] at h
 refine esr ?_
 refine rn 2 2 [(2, iv x16)] hF fun a hF => ?_
 refine wfn rfl ?_
 refine wpIn_ret (fn_ret [.tmp 2] [iv x16] hF rfl ⟨rfl, trivial⟩ ?_)
 have hr_ := Option.some.inj h
 subst hr_
 exact ⟨rfl, hS.ext⟩

theorem law06_example_ok (p0 : Int) (p1 : Int) (res : plan_Job) (h : law06_example p0 p1 = res) (μ : Frz) (w0 : World) (hm : FrzAt μ w0) : Calls Try.prog 46 #[iv p0, iv p1] w0 (fun e w => e = .returned (res.ag) ∧ Ext w0 w) := by
 obtain ⟨hlow, hS⟩ := hm.init
 have hext := Frz.ext_refl w0.heap.size μ
 rw [law06_example] at h
 refine fn_enterW Try.func46 rfl 9 [(0, iv p0), (1, iv p1)] rfl rfl (by kernel_rfl) fun a w hw hF => ?_
 replace hS : St w0 [fz w0 μ] w := by rw [hw]; exact hS
 clear hw
 refine esr ?_
 refine SK.wi (allocK (t := 34) (fun b1 => [(0, iv p0), (1, iv p1), (4, pb b1)]) #[iv 0, iv 0, iv 0, iv 0, iv 0, iv 0, iv 0, iv 0] hF hS (by kernel_rfl) ⟨by kernel_rfl⟩ (by kernel_rfl) (fun _ => ⟨by kernel_rfl⟩) fun b1 w a hF hS => ?_)
 refine wfn rfl ?_
 refine esr ?_
 refine rn 4 4 [(4, pb b1), (8, .agg #[iv p0, iv 100000, iv 1, iv 1000, iv 0, iv 5, iv 10, iv p1])] hF fun a hF => ?_
 refine SK.wi (storeK (t := 34) [(4, pb b1)] 0 0 (.agg #[iv p0, iv 100000, iv 1, iv 1000, iv 0, iv 5, iv 10, iv p1]) #[iv p0, iv 100000, iv 1, iv 1000, iv 0, iv 5, iv 10, iv p1] hF hS rfl (by kernel_rfl) ⟨by kernel_rfl⟩ (by kernel_rfl) (by kernel_rfl) (by kernel_rfl) (by kernel_rfl) ⟨by kernel_rfl⟩ fun w a hF hS => ?_)
 refine wfn rfl ?_
 refine wpIn_ret (fn_ret [.cell 4 34] [.agg #[iv p0, iv 100000, iv 1, iv 1000, iv 0, iv 5, iv 10, iv p1]] hF rfl ⟨⟨_, rfl, loadVarN (cs := [iv p0, iv 100000, iv 1, iv 1000, iv 0, iv 5, iv 10, iv p1]) (by kernel_rfl) ((hS.blk (i := 0) rfl).cells rfl)⟩, trivial⟩ ?_)
 subst h
 exact ⟨rfl, hS.ext⟩

theorem law06_Desk_radar_ok (F : Nat) (p0 : law06_Desk) (res : plan_Radar) (h : law06_Desk_radar F p0 = some res) (μ : Frz) (w0 : World) (hm : FrzAt μ w0) {ad1 : Option Addr} {cap2 : Nat} (hA3 : ArrM μ 6 law06_Wish.cells ad1 cap2 p0.Jobs) : Calls Try.prog 36 #[.agg #[.int .u8 p0.Rays, .int .u8 p0.Turn, .int .u8 p0.Move, .int .u8 p0.Duty, sv ad1 p0.Jobs cap2]] w0 (fun e w => e = .returned (res.ag) ∧ Ext w0 w) := by
 obtain ⟨hlow, hS⟩ := hm.init
 have hext := Frz.ext_refl w0.heap.size μ
 rw [law06_Desk_radar] at h
 refine fn_enterW Try.func36 rfl 22 [(0, .agg #[.int .u8 p0.Rays, .int .u8 p0.Turn, .int .u8 p0.Move, .int .u8 p0.Duty, sv ad1 p0.Jobs cap2])] rfl rfl (by kernel_rfl) fun a w hw hF => ?_
 replace hS : St w0 [fz w0 μ] w := by rw [hw]; exact hS
 clear hw
 refine esr ?_
 refine SK.wi (boxK (t := 75) (fun b4 => [(1, pb b4)]) (.agg #[.int .u8 p0.Rays, .int .u8 p0.Turn, .int .u8 p0.Move, .int .u8 p0.Duty, sv ad1 p0.Jobs cap2]) #[.int .u8 p0.Rays, .int .u8 p0.Turn, .int .u8 p0.Move, .int .u8 p0.Duty, sv ad1 p0.Jobs cap2] hF hS (by kernel_rfl) ⟨by kernel_rfl⟩ (by kernel_rfl) (fun _ => ⟨by kernel_rfl⟩) fun b4 w a hF hS => ?_)
 refine SK.wi (allocK (t := 31) (fun b5 => [(1, pb b4), (2, pb b5)]) #[iv 0, iv 0, iv 0, iv 0] hF hS (by kernel_rfl) ⟨by kernel_rfl⟩ (by kernel_rfl) (fun _ => ⟨by kernel_rfl⟩) fun b5 w a hF hS => ?_)
 refine wfn rfl ?_
 refine esr ?_
 replace h := bindS h
 obtain ⟨x6, hx6, h⟩ := h
 replace h := bindS h
 obtain ⟨x7, hx7, h⟩ := h
 replace h := bindS h
 obtain ⟨x8, hx8, h⟩ := h
 replace h := bindS h
 obtain ⟨x9, hx9, h⟩ := h
 replace h := bindS h
 obtain ⟨x10, hx10, h⟩ := h
 replace h := bindS h
 obtain ⟨x11, hx11, h⟩ := h
 replace h := bindS h
 obtain ⟨x12, hx12, h⟩ := h
 replace h := bindS h
 obtain ⟨x13, hx13, h⟩ := h
 replace h := bindS h
 obtain ⟨x14, hx14, h⟩ := h
 replace h := bindS h
 obtain ⟨x15, hx15, h⟩ := h
 refine rno 19 [.run [] (Instr.loadAt 5 (pb b4)) (.int .u8 p0.Rays), .run [] (convert 5 3 (.int .u8 p0.Rays)) (iv x6), .run [] (binOp .rem 3 (iv x6) (iv 8)) (iv x7), .run [] (binOp .add 3 (iv 1) (iv x7)) (iv x8), .run [] (Instr.loadAt 5 (.pointer (some ⟨b4, 1, none⟩))) (.int .u8 p0.Turn), .run [] (convert 5 3 (.int .u8 p0.Turn)) (iv x9), .run [] (binOp .rem 3 (iv x9) (iv 30)) (iv x10), .run [] (Instr.loadAt 5 (.pointer (some ⟨b4, 2, none⟩))) (.int .u8 p0.Move), .run [] (convert 5 3 (.int .u8 p0.Move)) (iv x11), .run [] (binOp .rem 3 (iv x11) (iv 4)) (iv x12), .run [] (Instr.loadAt 5 (.pointer (some ⟨b4, 3, none⟩))) (.int .u8 p0.Duty), .run [] (convert 5 3 (.int .u8 p0.Duty)) (iv x13), .run [] (binOp .mul 3 (iv x13) (iv 3)) (iv x14), .run [] (binOp .add 3 (iv 1) (iv x14)) (iv x15)] 19 [(2, pb b5), (21, .agg #[iv x8, iv x10, iv x12, iv x15])] hF (ocons (ob1 (by kernel_rfl) (fun _ hd => (hS.at_ hd).cell (i := 1) (j := 0) rfl rfl)) (ocons (obConvC (by kernel_rfl) (by kernel_rfl) (fun _ => hx6)) (ocons (obRemC (fun _ => hx7)) (ocons (obAddC (fun _ => hx8)) (ocons (ob1 (by kernel_rfl) (fun _ hd => (hS.at_ hd).cell (i := 1) (j := 1) rfl rfl)) (ocons (obConvC (by kernel_rfl) (by kernel_rfl) (fun _ => hx9)) (ocons (obRemC (fun _ => hx10)) (ocons (ob1 (by kernel_rfl) (fun _ hd => (hS.at_ hd).cell (i := 1) (j := 2) rfl rfl)) (ocons (obConvC (by kernel_rfl) (by kernel_rfl) (fun _ => hx11)) (ocons (obRemC (fun _ => hx12)) (ocons (ob1 (by kernel_rfl) (fun _ hd => (hS.at_ hd).cell (i := 1) (j := 3) rfl rfl)) (ocons (obConvC (by kernel_rfl) (by kernel_rfl) (fun _ => hx13)) (ocons (obMulC (fun _ => hx14)) (ocons (obAddC (fun _ => hx15)) onil)))))))))))))) fun a hF => ?_
 refine SK.wi (storeK (t := 31) [(2, pb b5)] 0 0 (.agg #[iv x8, iv x10, iv x12, iv x15]) #[iv x8, iv x10, iv x12, iv x15] hF hS rfl (by kernel_rfl) ⟨by kernel_rfl⟩ (by kernel_rfl) (by kernel_rfl) (by kernel_rfl) (by kernel_rfl) ⟨by kernel_rfl⟩ fun w a hF hS => ?_)
 refine wfn rfl ?_
 refine wpIn_ret (fn_ret [.cell 2 31] [.agg #[iv x8, iv x10, iv x12, iv x15]] hF rfl ⟨⟨_, rfl, loadVarN (cs := [iv x8, iv x10, iv x12, iv x15]) (by kernel_rfl) ((hS.blk (i := 0) rfl).cells rfl)⟩, trivial⟩ ?_)
 have hr_ := Option.some.inj h
 subst hr_
 exact ⟨rfl, hS.ext⟩

theorem law06_Wish_job_ok (F : Nat) (p0 : law06_Wish) (res : plan_Job) (h : law06_Wish_job F p0 = some res) (μ : Frz) (w0 : World) (hm : FrzAt μ w0) : Calls Try.prog 42 #[p0.ag] w0 (fun e w => e = .returned (res.ag) ∧ Ext w0 w) := by
 obtain ⟨hlow, hS⟩ := hm.init
 have hext := Frz.ext_refl w0.heap.size μ
 rw [law06_Wish_job] at h
 refine fn_enterW Try.func42 rfl 50 [(0, p0.ag)] rfl rfl (by kernel_rfl) fun a w hw hF => ?_
 replace hS : St w0 [fz w0 μ] w := by rw [hw]; exact hS
 clear hw
 refine esr ?_
 refine SK.wi (boxK (t := 90) (fun b1 => [(1, pb b1)]) (p0.ag) p0.ar hF hS (by kernel_rfl) ⟨by kernel_rfl⟩ (by kernel_rfl) (fun _ => ⟨by kernel_rfl⟩) fun b1 w a hF hS => ?_)
 refine SK.wi (allocK (t := 34) (fun b2 => [(1, pb b1), (2, pb b2)]) #[iv 0, iv 0, iv 0, iv 0, iv 0, iv 0, iv 0, iv 0] hF hS (by kernel_rfl) ⟨by kernel_rfl⟩ (by kernel_rfl) (fun _ => ⟨by kernel_rfl⟩) fun b2 w a hF hS => ?_)
 refine wfn rfl ?_
 refine esr ?_
 replace h := bindS h
 obtain ⟨x3, hx3, h⟩ := h
 replace h := bindS h
 obtain ⟨x4, hx4, h⟩ := h
 replace h := bindS h
 obtain ⟨x5, hx5, h⟩ := h
 replace h := bindS h
 obtain ⟨x6, hx6, h⟩ := h
 replace h := bindS h
 obtain ⟨x7, hx7, h⟩ := h
 replace h := bindS h
 obtain ⟨x8, hx8, h⟩ := h
 replace h := bindS h
 obtain ⟨x9, hx9, h⟩ := h
 replace h := bindS h
 obtain ⟨x10, hx10, h⟩ := h
 replace h := bindS h
 obtain ⟨x11, hx11, h⟩ := h
 replace h := bindS h
 obtain ⟨x12, hx12, h⟩ := h
 refine rno 17 [.run [] (Instr.loadAt 5 (.pointer (some ⟨b1, 2, none⟩))) (.int .u8 p0.Kind), .run [] (convert 5 3 (.int .u8 p0.Kind)) (iv x3), .run [] (binOp .rem 3 (iv x3) (iv 3)) (iv x4), .run [] (binOp .add 3 (iv 1) (iv x4)) (iv x5), .run [] (Instr.loadAt 5 (.pointer (some ⟨b1, 4, none⟩))) (.int .u8 p0.First), .run [] (convert 5 3 (.int .u8 p0.First)) (iv x6), .run [] (binOp .mul 3 (iv 10) (iv x6)) (iv x7), .run [] (binOp .add 3 (iv 200) (iv x7)) (iv x8), .run [] (Instr.loadAt 5 (.pointer (some ⟨b1, 1, none⟩))) (.int .u8 p0.Count), .run [] (convert 5 3 (.int .u8 p0.Count)) (iv x9), .run [] (binOp .rem 3 (iv x9) (iv 4)) (iv x10), .run [] (binOp .mul 3 (iv 2) (iv x10)) (iv x11), .run [] (binOp .add 3 (iv 4) (iv x11)) (iv x12)] 17 [(1, pb b1), (2, pb b2), (20, .agg #[iv 100000, iv x5, iv x8, iv 0, iv x12])] hF (ocons (ob1 (by kernel_rfl) (fun _ hd => (hS.at_ hd).cell (i := 1) (j := 2) rfl rfl)) (ocons (obConvC (by kernel_rfl) (by kernel_rfl) (fun _ => hx3)) (ocons (obRemC (fun _ => hx4)) (ocons (obAddC (fun _ => hx5)) (ocons (ob1 (by kernel_rfl) (fun _ hd => (hS.at_ hd).cell (i := 1) (j := 4) rfl rfl)) (ocons (obConvC (by kernel_rfl) (by kernel_rfl) (fun _ => hx6)) (ocons (obMulC (fun _ => hx7)) (ocons (obAddC (fun _ => hx8)) (ocons (ob1 (by kernel_rfl) (fun _ hd => (hS.at_ hd).cell (i := 1) (j := 1) rfl rfl)) (ocons (obConvC (by kernel_rfl) (by kernel_rfl) (fun _ => hx9)) (ocons (obRemC (fun _ => hx10)) (ocons (obMulC (fun _ => hx11)) (ocons (obAddC (fun _ => hx12)) onil))))))))))))) fun a hF => ?_
 refine SK.wi (allocK (t := 32) (fun b13 => [(1, pb b1), (2, pb b2), (3, pb b13), (20, .agg #[iv 100000, iv x5, iv x8, iv 0, iv x12])]) #[iv 0, iv 0, iv 0, iv 0, iv 0] hF hS (by kernel_rfl) ⟨by kernel_rfl⟩ (by kernel_rfl) (fun _ => ⟨by kernel_rfl⟩) fun b13 w a hF hS => ?_)
 refine SK.wi (storeK (t := 32) [(1, pb b1), (2, pb b2), (3, pb b13)] 0 0 (.agg #[iv 100000, iv x5, iv x8, iv 0, iv x12]) #[iv 100000, iv x5, iv x8, iv 0, iv x12] hF hS rfl (by kernel_rfl) ⟨by kernel_rfl⟩ (by kernel_rfl) (by kernel_rfl) (by kernel_rfl) (by kernel_rfl) ⟨by kernel_rfl⟩ fun w a hF hS => ?_)
 refine wfn rfl ?_
 refine ecut (fun a w => ∃ (x15 : Int), Fr 50 [] [(1, pb b1), (2, pb b2), (3, pb b13)] a ∧ St w0 [blk b13 32 #[iv 100000, iv x5, iv x8, iv x15, iv x12], blk b2 34 #[iv 0, iv 0, iv 0, iv 0, iv 0, iv 0, iv 0, iv 0], blk b1 90 p0.ar, fz w0 μ] w ∧ law06_Wish_job_K1 p0 x5 x8 x12 x15 = some res) ?_ ?_
 ·skip
  refine esr ?_
  refine rno 3 [.run [] (Instr.loadAt 3 (.pointer (some ⟨b13, 1, none⟩))) (iv x5)] 3 [(1, pb b1), (2, pb b2), (3, pb b13), (23, .bool (x5 != 1))] hF (ocons (ob1 (by kernel_rfl) (fun _ hd => (hS.at_ hd).cell (i := 0) (j := 1) rfl rfl)) onil) fun a hF => ?_
  refine wfn rfl ?_
  refine econd hF rfl (fun hc => ?_) (fun hc => ?_)
  ·replace h := bif_t h hc
   refine WI.region ?_
   replace h := bindS h
   obtain ⟨x28, hx28, h⟩ := h
   refine rno 4 [.run [] (Instr.loadAt 3 (.pointer (some ⟨b13, 2, none⟩))) (iv x8), .run [] (binOp .add 3 (iv x8) (iv 100)) (iv x28)] 4 [(1, pb b1), (2, pb b2), (3, pb b13), (26, iv x28), (27, .pointer (some ⟨b13, 3, none⟩))] hF (ocons (ob1 (by kernel_rfl) (fun _ hd => (hS.at_ hd).cell (i := 0) (j := 2) rfl rfl)) (ocons (obAddC (fun _ => hx28)) onil)) fun a hF => ?_
   refine SK.wi (storeK (t := 3) [(1, pb b1), (2, pb b2), (3, pb b13)] 0 3 (iv x28) #[iv 100000, iv x5, iv x8, iv x28, iv x12] hF hS rfl (by kernel_rfl) ⟨by kernel_rfl⟩ (by kernel_rfl) (by kernel_rfl) (by kernel_rfl) (by kernel_rfl) ⟨by kernel_rfl⟩ fun w a hF hS => ?_)
   refine wfn rfl ?_
   exact ⟨x28, hF.sub (by kernel_rfl), St.pick [0, 1, 2, 3] (by decide) hS, h⟩
  ·replace h := bif_f h hc
   refine wpIn_skip (norm_then ?_)
   exact ⟨0, hF.sub (by kernel_rfl), St.pick [0, 1, 2, 3] (by decide) hS, h⟩
 rintro a w ⟨x15, hF, hS, h⟩
 rw [law06_Wish_job_K1] at h
 refine ecut (fun a w => ∃ (x17 : Int), Fr 50 [] [(1, pb b1), (2, pb b2), (3, pb b13)] a ∧ St w0 [blk b13 32 #[iv 100000, iv x5, iv x8, iv x15, iv x17], blk b2 34 #[iv 0, iv 0, iv 0, iv 0, iv 0, iv 0, iv 0, iv 0], blk b1 90 p0.ar, fz w0 μ] w ∧ law06_Wish_job_K2 p0 x5 x8 x15 x17 = some res) ?_ ?_
 ·skip
  refine esr ?_
  refine rno 3 [.run [] (Instr.loadAt 3 (.pointer (some ⟨b13, 1, none⟩))) (iv x5)] 3 [(1, pb b1), (2, pb b2), (3, pb b13), (30, .bool (x5 == 3))] hF (ocons (ob1 (by kernel_rfl) (fun _ hd => (hS.at_ hd).cell (i := 0) (j := 1) rfl rfl)) onil) fun a hF => ?_
  refine wfn rfl ?_
  refine econd hF rfl (fun hc => ?_) (fun hc => ?_)
  ·replace h := bif_t h hc
   refine WI.region ?_
   replace h := bindS h
   obtain ⟨x26, hx26, h⟩ := h
   refine rno 4 [.run [] (Instr.loadAt 3 (.pointer (some ⟨b13, 4, none⟩))) (iv x12), .run [] (binOp .sub 3 (iv x12) (iv 1)) (iv x26)] 4 [(1, pb b1), (2, pb b2), (3, pb b13), (33, iv x26), (34, .pointer (some ⟨b13, 4, none⟩))] hF (ocons (ob1 (by kernel_rfl) (fun _ hd => (hS.at_ hd).cell (i := 0) (j := 4) rfl rfl)) (ocons (obSubC (fun _ => hx26)) onil)) fun a hF => ?_
   refine SK.wi (storeK (t := 3) [(1, pb b1), (2, pb b2), (3, pb b13)] 0 4 (iv x26) #[iv 100000, iv x5, iv x8, iv x15, iv x26] hF hS rfl (by kernel_rfl) ⟨by kernel_rfl⟩ (by kernel_rfl) (by kernel_rfl) (by kernel_rfl) (by kernel_rfl) ⟨by kernel_rfl⟩ fun w a hF hS => ?_)
   refine wfn rfl ?_
   exact ⟨x26, hF.sub (by kernel_rfl), St.pick [0, 1, 2, 3] (by decide) hS, h⟩
  ·replace h := bif_f h hc
   refine wpIn_skip (norm_then ?_)
   exact ⟨x12, hF.sub (by kernel_rfl), St.pick [0, 1, 2, 3] (by decide) hS, h⟩
 rintro a w ⟨x17, hF, hS, h⟩
 rw [law06_Wish_job_K2] at h
 refine esr ?_
 replace h := bindS h
 obtain ⟨x18, hx18, h⟩ := h
 replace h := bindS h
 obtain ⟨x19, hx19, h⟩ := h
 replace h := bindS h
 obtain ⟨x20, hx20, h⟩ := h
 replace h := bindS h
 obtain ⟨x21, hx21, h⟩ := h
 replace h := bindS h
 obtain ⟨x22, hx22, h⟩ := h
 replace h := bindS h
 obtain ⟨x23, hx23, h⟩ := h
 replace h := bindS h
 obtain ⟨x24, hx24, h⟩ := h
 refine rno 15 [.run [] (Instr.loadAt 5 (pb b1)) (.int .u8 p0.Tilt), .run [] (convert 5 3 (.int .u8 p0.Tilt)) (iv x18), .run [] (binOp .rem 3 (iv x18) (iv 12)) (iv x19), .run [] (Instr.loadAt 32 (pb b13)) (.agg #[iv 100000, iv x5, iv x8, iv x15, iv x17]), .run [] (Instr.loadAt 5 (.pointer (some ⟨b1, 3, none⟩))) (.int .u8 p0.Width), .run [] (convert 5 3 (.int .u8 p0.Width)) (iv x20), .run [] (binOp .add 3 (iv 1) (iv x20)) (iv x21), .run [] (Instr.loadAt 88 (.pointer (some ⟨b1, 5, none⟩))) (.int .u16 p0.Every), .run [] (convert 88 3 (.int .u16 p0.Every)) (iv x22), .run [] (binOp .rem 3 (iv x22) (iv 400)) (iv x23), .run [] (binOp .add 3 (iv 1) (iv x23)) (iv x24)] 15 [(2, pb b2), (49, .agg #[iv x19, iv 100000, iv x5, iv x8, iv x15, iv x17, iv x21, iv x24])] hF (ocons (ob1 (by kernel_rfl) (fun _ hd => (hS.at_ hd).cell (i := 2) (j := 0) rfl rfl)) (ocons (obConvC (by kernel_rfl) (by kernel_rfl) (fun _ => hx18)) (ocons (obRemC (fun _ => hx19)) (ocons (obN (us := [iv 100000, iv x5, iv x8, iv x15, iv x17]) (by kernel_rfl) (fun _ hd => ((hS.at_ hd).blk (i := 0) rfl).cells rfl)) (ocons (ob1 (by kernel_rfl) (fun _ hd => (hS.at_ hd).cell (i := 2) (j := 3) rfl rfl)) (ocons (obConvC (by kernel_rfl) (by kernel_rfl) (fun _ => hx20)) (ocons (obAddC (fun _ => hx21)) (ocons (ob1 (by kernel_rfl) (fun _ hd => (hS.at_ hd).cell (i := 2) (j := 5) rfl rfl)) (ocons (obConvC (by kernel_rfl) (by kernel_rfl) (fun _ => hx22)) (ocons (obRemC (fun _ => hx23)) (ocons (obAddC (fun _ => hx24)) onil))))))))))) fun a hF => ?_
 refine SK.wi (storeK (t := 34) [(2, pb b2)] 1 0 (.agg #[iv x19, iv 100000, iv x5, iv x8, iv x15, iv x17, iv x21, iv x24]) #[iv x19, iv 100000, iv x5, iv x8, iv x15, iv x17, iv x21, iv x24] hF hS rfl (by kernel_rfl) ⟨by kernel_rfl⟩ (by kernel_rfl) (by kernel_rfl) (by kernel_rfl) (by kernel_rfl) ⟨by kernel_rfl⟩ fun w a hF hS => ?_)
 refine wfn rfl ?_
 refine wpIn_ret (fn_ret [.cell 2 34] [.agg #[iv x19, iv 100000, iv x5, iv x8, iv x15, iv x17, iv x21, iv x24]] hF rfl ⟨⟨_, rfl, loadVarN (cs := [iv x19, iv 100000, iv x5, iv x8, iv x15, iv x17, iv x21, iv x24]) (by kernel_rfl) ((hS.blk (i := 1) rfl).cells rfl)⟩, trivial⟩ ?_)
 have hr_ := Option.some.inj h
 subst hr_
 exact ⟨rfl, hS.ext⟩
end Go.Proofs.Ytejffembnkojjaa
