/- Walks, written by program (wip/gen/dec.py). -/
import Derived.Test.YtbhjgebjojdohaaF3XD
import Derived.Test.YtbhjgebjojdohaaProg
import Derived.Test.YtbhjgebjojdohaaF3XW0
import Derived.Test.YtbhjgebjojdohaaF3XW1
namespace Go.Proofs.Ytbhjgebjojdohaa
open Go Go.RowKit Go.Eng
set_option maxRecDepth 10000
set_option maxHeartbeats 4000000
set_option linter.unusedVariables false
set_option linter.unusedSimpArgs false
theorem pulse_Speed_1_at141_ok (F : Nat) (p0 : Int) (c0_ : pulse_Train) (c1_ : Int) (c2_ : Int) (res : Int) (h : pulse_Speed_1_at141 F p0 c0_ c1_ c2_ = some res) (μ : Frz) (w0 : World) (hm : FrzAt μ w0) {cb2 : Nat} {cb3 : Nat} {cb4 : Nat} (hcb2 : BlkM μ cb2 33 c0_.ar) (hcb3 : BlkM μ cb3 3 #[iv c1_]) (hcb4 : BlkM μ cb4 3 #[iv c2_]) : Calls Try.prog 140 #[iv p0, .func (.func 141) #[] #[], pb cb2, pb cb3, pb cb4] w0 (fun e w => e = .returned (iv res) ∧ Ext w0 w) := by
 obtain ⟨hlow, hS⟩ := hm.init
 have hext := Frz.ext_refl w0.heap.size μ
 rw [pulse_Speed_1_at141] at h
 refine fn_enterW Try.func140 rfl 20 [(0, iv p0), (1, .func (.func 141) #[] #[]), (2, pb cb2), (3, pb cb3), (4, pb cb4)] rfl rfl (by kernel_rfl) fun a w hw hF => ?_
 replace hS : St w0 [fz w0 μ] w := by rw [hw]; exact hS
 clear hw
 refine esr ?_
 refine rn 1 1 [(0, iv p0), (1, .func (.func 141) #[] #[]), (2, pb cb2), (3, pb cb3), (4, pb cb4)] hF fun a hF => ?_
 refine wfn rfl ?_
 refine esr ?_
 replace h := bindS h
 obtain ⟨x1, hx1, h⟩ := h
 replace h := bindS h
 obtain ⟨x2, hx2, h⟩ := h
 replace h := bindS h
 obtain ⟨x3, hx3, h⟩ := h
 replace h := bindS h
 obtain ⟨x4, hx4, h⟩ := h
 replace h := bindS h
 obtain ⟨x5, hx5, h⟩ := h
 refine rno 11 [.run [] (Instr.loadAt 3 (pb cb2)) (iv c0_.Lambda), .run [] (binOp .mul 3 (iv 500) (iv c0_.Lambda)) (iv x1), .run [] (Instr.loadAt 3 (pb cb3)) (iv c1_), .run [] (binOp .mul 3 (iv c1_) (iv 65536)) (iv x2), .run [] (binOp .add 3 (iv p0) (iv x2)) (iv x3), .run [] (binOp .mul 3 (iv x1) (iv x3)) (iv x4), .run [] (Instr.loadAt 3 (pb cb4)) (iv c2_), .run [] (binOp .mul 3 (iv 65536) (iv c2_)) (iv x5)] 11 [(8, .func (.func 141) #[] #[]), (16, iv x4), (18, iv x5)] hF (ocons (ob1 (by kernel_rfl) (fun _ hd => (hcb2.blk ((hS.at_ hd).frz (i := 0) rfl hlow)).cell1 (j := 0) rfl)) (ocons (obMulC (fun _ => hx1)) (ocons (ob1 (by kernel_rfl) (fun _ hd => (hcb3.blk ((hS.at_ hd).frz (i := 0) rfl hlow)).cell1 (j := 0) rfl)) (ocons (obMulC (fun _ => hx2)) (ocons (obAddC (fun _ => hx3)) (ocons (obMulC (fun _ => hx4)) (ocons (ob1 (by kernel_rfl) (fun _ hd => (hcb4.blk ((hS.at_ hd).frz (i := 0) rfl hlow)).cell1 (j := 0) rfl)) (ocons (obMulC (fun _ => hx5)) onil)))))))) fun a hF => ?_
 replace h := bindS h
 obtain ⟨y6, hy6, h⟩ := h
 refine rx 2 [.call [] 141 #[iv x4, iv x5] (iv y6)] 13 [(7, iv y6)] hF (ocons (show Ob.ok _ Ext _ _ from fun hk w2 hd => pulse_down_ok F x4 x5 _ ((fun _ => hy6) hk) _ w2 (memOf_at w2) ) onil) fun a w hF hx => ?_
 replace hS := hS.later hx
 refine wfn rfl ?_
 refine wpIn_ret (fn_ret [.tmp 7] [iv y6] hF rfl ⟨rfl, trivial⟩ ?_)
 have hr_ := Option.some.inj h
 subst hr_
 exact ⟨rfl, hS.ext⟩

theorem pulse_Speed_1_at142_ok (F : Nat) (p0 : Int) (c0_ : pulse_Train) (c1_ : Int) (c2_ : Int) (res : Int) (h : pulse_Speed_1_at142 F p0 c0_ c1_ c2_ = some res) (μ : Frz) (w0 : World) (hm : FrzAt μ w0) {cb2 : Nat} {cb3 : Nat} {cb4 : Nat} (hcb2 : BlkM μ cb2 33 c0_.ar) (hcb3 : BlkM μ cb3 3 #[iv c1_]) (hcb4 : BlkM μ cb4 3 #[iv c2_]) : Calls Try.prog 140 #[iv p0, .func (.func 142) #[] #[], pb cb2, pb cb3, pb cb4] w0 (fun e w => e = .returned (iv res) ∧ Ext w0 w) := by
 obtain ⟨hlow, hS⟩ := hm.init
 have hext := Frz.ext_refl w0.heap.size μ
 rw [pulse_Speed_1_at142] at h
 refine fn_enterW Try.func140 rfl 20 [(0, iv p0), (1, .func (.func 142) #[] #[]), (2, pb cb2), (3, pb cb3), (4, pb cb4)] rfl rfl (by kernel_rfl) fun a w hw hF => ?_
 replace hS : St w0 [fz w0 μ] w := by rw [hw]; exact hS
 clear hw
 refine esr ?_
 refine rn 1 1 [(0, iv p0), (1, .func (.func 142) #[] #[]), (2, pb cb2), (3, pb cb3), (4, pb cb4)] hF fun a hF => ?_
 refine wfn rfl ?_
 refine esr ?_
 replace h := bindS h
 obtain ⟨x1, hx1, h⟩ := h
 replace h := bindS h
 obtain ⟨x2, hx2, h⟩ := h
 replace h := bindS h
 obtain ⟨x3, hx3, h⟩ := h
 replace h := bindS h
 obtain ⟨x4, hx4, h⟩ := h
 replace h := bindS h
 obtain ⟨x5, hx5, h⟩ := h
 refine rno 11 [.run [] (Instr.loadAt 3 (pb cb2)) (iv c0_.Lambda), .run [] (binOp .mul 3 (iv 500) (iv c0_.Lambda)) (iv x1), .run [] (Instr.loadAt 3 (pb cb3)) (iv c1_), .run [] (binOp .mul 3 (iv c1_) (iv 65536)) (iv x2), .run [] (binOp .add 3 (iv p0) (iv x2)) (iv x3), .run [] (binOp .mul 3 (iv x1) (iv x3)) (iv x4), .run [] (Instr.loadAt 3 (pb cb4)) (iv c2_), .run [] (binOp .mul 3 (iv 65536) (iv c2_)) (iv x5)] 11 [(8, .func (.func 142) #[] #[]), (16, iv x4), (18, iv x5)] hF (ocons (ob1 (by kernel_rfl) (fun _ hd => (hcb2.blk ((hS.at_ hd).frz (i := 0) rfl hlow)).cell1 (j := 0) rfl)) (ocons (obMulC (fun _ => hx1)) (ocons (ob1 (by kernel_rfl) (fun _ hd => (hcb3.blk ((hS.at_ hd).frz (i := 0) rfl hlow)).cell1 (j := 0) rfl)) (ocons (obMulC (fun _ => hx2)) (ocons (obAddC (fun _ => hx3)) (ocons (obMulC (fun _ => hx4)) (ocons (ob1 (by kernel_rfl) (fun _ hd => (hcb4.blk ((hS.at_ hd).frz (i := 0) rfl hlow)).cell1 (j := 0) rfl)) (ocons (obMulC (fun _ => hx5)) onil)))))))) fun a hF => ?_
 replace h := bindS h
 obtain ⟨y6, hy6, h⟩ := h
 refine rx 2 [.call [] 142 #[iv x4, iv x5] (iv y6)] 13 [(7, iv y6)] hF (ocons (show Ob.ok _ Ext _ _ from fun hk w2 hd => pulse_up_ok F x4 x5 _ ((fun _ => hy6) hk) _ w2 (memOf_at w2) ) onil) fun a w hF hx => ?_
 replace hS := hS.later hx
 refine wfn rfl ?_
 refine wpIn_ret (fn_ret [.tmp 7] [iv y6] hF rfl ⟨rfl, trivial⟩ ?_)
 have hr_ := Option.some.inj h
 subst hr_
 exact ⟨rfl, hS.ext⟩

theorem pulse_Speed_ok (F : Nat) (p0 : pulse_Train) (p1 : Int) (p2 : api_Span) (p3 : Int) (res : (api_Span × Int)) (h : pulse_Speed F p0 p1 p2 p3 = some res) (μ : Frz) (w0 : World) (hm : FrzAt μ w0) : Calls Try.prog 125 #[p0.ag, iv p1, .agg #[iv p2.Lo, iv p2.Hi], iv p3] w0 (fun e w => e = .returned (.tuple #[.agg #[iv res.1.Lo, iv res.1.Hi], iv res.2]) ∧ Ext w0 w) := by
 obtain ⟨hlow, hS⟩ := hm.init
 have hext := Frz.ext_refl w0.heap.size μ
 rw [pulse_Speed] at h
 refine fn_enterW Try.func125 rfl 44 [(0, p0.ag), (1, iv p1), (2, .agg #[iv p2.Lo, iv p2.Hi]), (3, iv p3)] rfl rfl (by kernel_rfl) fun a w hw hF => ?_
 replace hS : St w0 [fz w0 μ] w := by rw [hw]; exact hS
 clear hw
 refine esr ?_
 refine SK.wi (boxK (t := 33) (fun b1 => [(1, iv p1), (2, .agg #[iv p2.Lo, iv p2.Hi]), (3, iv p3), (4, pb b1)]) (p0.ag) p0.ar hF hS (by kernel_rfl) ⟨by kernel_rfl⟩ (by kernel_rfl) (fun _ => ⟨by kernel_rfl⟩) fun b1 w a hF hS => ?_)
 refine SK.wi (boxK (t := 25) (fun b2 => [(1, iv p1), (3, iv p3), (4, pb b1), (6, pb b2)]) (.agg #[iv p2.Lo, iv p2.Hi]) #[iv p2.Lo, iv p2.Hi] hF hS (by kernel_rfl) ⟨by kernel_rfl⟩ (by kernel_rfl) (fun _ => ⟨by kernel_rfl⟩) fun b2 w a hF hS => ?_)
 refine SK.wi (boxK (t := 3) (fun b3 => [(1, iv p1), (4, pb b1), (6, pb b2), (7, pb b3)]) (iv p3) #[iv p3] hF hS (by kernel_rfl) ⟨by kernel_rfl⟩ (by kernel_rfl) (fun _ => ⟨by kernel_rfl⟩) fun b3 w a hF hS => ?_)
 refine SK.wi (allocK (t := 25) (fun b4 => [(1, iv p1), (4, pb b1), (6, pb b2), (7, pb b3), (8, pb b4)]) #[iv 0, iv 0] hF hS (by kernel_rfl) ⟨by kernel_rfl⟩ (by kernel_rfl) (fun _ => ⟨by kernel_rfl⟩) fun b4 w a hF hS => ?_)
 refine rn 1 5 [(1, iv p1), (4, pb b1), (6, pb b2), (7, pb b3), (8, pb b4)] hF fun a hF => ?_
 refine wfn rfl ?_
 refine esr ?_
 replace h := bindS h
 obtain ⟨y5, hy5, h⟩ := h
 refine rx 6 [.run [] (Instr.loadAt 33 (pb b1)) (p0.ag), .call [] 97 #[p0.ag, iv p1] (.tuple #[iv y5.1, iv y5.2])] 6 [(4, pb b1), (6, pb b2), (7, pb b3), (8, pb b4), (17, iv y5.1), (18, iv y5.2)] hF (ocons (obN (us := p0.cells) (by kernel_rfl) (fun _ hd => ((hS.later hd).blk (i := 3) rfl).cells rfl)) (ocons (show Ob.ok _ Ext _ _ from fun hk w2 hd => pulse_Train_time_ok F p0 p1 _ ((fun _ => hy5) hk) _ w2 (memOf_at w2) ) onil)) fun a w hF hx => ?_
 replace hS := hS.later hx
 refine SK.wi (allocK (t := 3) (fun b6 => [(4, pb b1), (6, pb b2), (7, pb b3), (8, pb b4), (10, pb b6), (17, iv y5.1), (18, iv y5.2)]) #[iv 0] hF hS (by kernel_rfl) ⟨by kernel_rfl⟩ (by kernel_rfl) (fun _ => ⟨by kernel_rfl⟩) fun b6 w a hF hS => ?_)
 refine SK.wi (storeK (t := 3) [(4, pb b1), (6, pb b2), (7, pb b3), (8, pb b4), (10, pb b6), (18, iv y5.2)] 0 0 (iv y5.1) #[iv y5.1] hF hS rfl (by kernel_rfl) ⟨by kernel_rfl⟩ (by kernel_rfl) (by kernel_rfl) (by kernel_rfl) (by kernel_rfl) ⟨by kernel_rfl⟩ fun w a hF hS => ?_)
 refine rn 1 9 [(4, pb b1), (6, pb b2), (7, pb b3), (8, pb b4), (10, pb b6), (11, iv y5.2)] hF fun a hF => ?_
 refine wfn rfl ?_
 refine eseq ?_
 refine wpIn_block ?_
 refine esr ?_
 refine rn 3 3 [(4, pb b1), (6, pb b2), (7, pb b3), (8, pb b4), (10, pb b6), (11, iv y5.2), (19, .bool (y5.2 != 0))] hF fun a hF => ?_
 refine wfn rfl ?_
 refine econd hF rfl (fun hc => ?_) (fun hc => ?_)
 ·replace h := bif_t h hc
  refine esr ?_
  refine rn 2 2 [(8, pb b4), (22, .agg #[iv 0, iv 0]), (23, iv y5.2)] hF fun a hF => ?_
  refine SK.wi (storeK (t := 25) [(8, pb b4), (23, iv y5.2)] 1 0 (.agg #[iv 0, iv 0]) #[iv 0, iv 0] hF hS rfl (by kernel_rfl) ⟨by kernel_rfl⟩ (by kernel_rfl) (by kernel_rfl) (by kernel_rfl) (by kernel_rfl) ⟨by kernel_rfl⟩ fun w a hF hS => ?_)
  refine rn 1 4 [(8, pb b4), (9, iv y5.2)] hF fun a hF => ?_
  refine wfn rfl ?_
  refine wpIn_ret (ret_block <| ret_then <| fn_ret [.cell 8 25, .tmp 9] [.agg #[iv 0, iv 0], iv y5.2] hF rfl ⟨⟨_, rfl, loadVarN (cs := [iv 0, iv 0]) (by kernel_rfl) ((hS.blk (i := 1) rfl).cells rfl)⟩, rfl, trivial⟩ ?_)
  have hr_ := Option.some.inj h
  subst hr_
  exact ⟨rfl, hS.ext⟩
 ·replace h := bif_f h hc
  refine esr ?_
  refine rx 9 [.run [] (Instr.loadAt 25 (pb b2)) (.agg #[iv p2.Lo, iv p2.Hi]), .call [] 89 #[.agg #[iv p2.Lo, iv p2.Hi], iv (-131072), iv 131072] (.bool (pulse_inside p2 (-131072) 131072)), .run [⟨28, false, (!(pulse_inside p2 (-131072) 131072))⟩] (Instr.loadAt 3 (pb b3)) (iv p3), .call [⟨28, false, (!(pulse_inside p2 (-131072) 131072))⟩] 88 #[iv p3, iv (-64), iv 64] (.bool (pulse_within p3 (-64) 64))] 9 [(4, pb b1), (6, pb b2), (7, pb b3), (8, pb b4), (10, pb b6), (24, .bool (bif (!(pulse_inside p2 (-131072) 131072)) then true else (!(pulse_within p3 (-64) 64))))] hF (ocons (obN (us := [iv p2.Lo, iv p2.Hi]) (by kernel_rfl) (fun _ hd => ((hS.later hd).blk (i := 3) rfl).cells rfl)) (ocons (show Ob.ok _ Ext _ _ from fun hk w2 hd => pulse_inside_ok p2 (-131072) 131072 _ rfl _ w2 (memOf_at w2) ) (ocons (ob1 (by kernel_rfl) (fun _ hd => (hS.later hd).cell (i := 2) (j := 0) rfl rfl)) (ocons (show Ob.ok _ Ext _ _ from fun hk w2 hd => pulse_within_ok p3 (-64) 64 _ rfl _ w2 (memOf_at w2) ) onil)))) fun a w hF hx => ?_
  replace hS := hS.later hx
  refine wfn rfl ?_
  refine econd hF rfl (fun hc => ?_) (fun hc => ?_)
  ·replace h := bif_t h hc
   refine esr ?_
   refine rn 1 1 [(8, pb b4), (33, .agg #[iv 0, iv 0])] hF fun a hF => ?_
   refine SK.wi (storeK (t := 25) [(8, pb b4)] 1 0 (.agg #[iv 0, iv 0]) #[iv 0, iv 0] hF hS rfl (by kernel_rfl) ⟨by kernel_rfl⟩ (by kernel_rfl) (by kernel_rfl) (by kernel_rfl) (by kernel_rfl) ⟨by kernel_rfl⟩ fun w a hF hS => ?_)
   refine rn 1 3 [(8, pb b4), (9, iv 3)] hF fun a hF => ?_
   refine wfn rfl ?_
   refine wpIn_ret (ret_block <| ret_then <| fn_ret [.cell 8 25, .tmp 9] [.agg #[iv 0, iv 0], iv 3] hF rfl ⟨⟨_, rfl, loadVarN (cs := [iv 0, iv 0]) (by kernel_rfl) ((hS.blk (i := 1) rfl).cells rfl)⟩, rfl, trivial⟩ ?_)
   have hr_ := Option.some.inj h
   subst hr_
   exact ⟨rfl, hS.ext⟩
  ·replace h := bif_f h hc
   refine wpIn_skip (norm_block <| norm_then <| ?_)
   refine esr ?_
   refine rn 2 2 [(6, pb b2), (8, pb b4), (12, .func (.func 140) #[] #[pb b1, pb b3, pb b6])] hF fun a hF => ?_
   refine wfn rfl ?_
   refine eseq ?_
   replace h := bindS h
   obtain ⟨y8, hy8, h⟩ := h
   refine region_treeW 7 [3] _ (D := fun w => St w0 [blk b6 3 #[iv y5.1], blk b4 25 #[iv 0, iv 0], blk b3 3 #[iv p3], blk b2 25 #[iv p2.Lo, iv p2.Hi], blk b1 33 p0.ar] w ∧ FrzAt μ w) (by kernel_rfl) (by kernel_rfl) hF.size (fun w hx => ?_) (fun _ _ h => h)
   replace hS := hS.later hx
   refine ⟨⟨St.pick [0, 1, 2, 3, 4] (by decide) hS, hS.frz (i := 5) rfl hlow⟩, ?_⟩
   have hcl10 := Frz.le_refl μ
   refine WT.s [0, 1, 2, 4, 5, 6] [3] (by kernel_rfl) (by kernel_rfl) ?_
   refine runC (rest := []) (obs := [.run [] (Instr.loadAt 3 (pb b2)) (iv p2.Lo), .run [] (Instr.loadAt 3 (.pointer (some ⟨b2, 1, none⟩))) (iv p2.Hi)]) [0, 1, 2, 4, 5, 6] [(8, pb b4), (35, .func (.func 140) #[] #[pb b1, pb b3, pb b6]), (37, iv p2.Lo), (39, .func (.func 140) #[] #[pb b1, pb b3, pb b6]), (41, iv p2.Hi)] hF (by kernel_rfl) (by kernel_rfl) (ocons (ob1 (by kernel_rfl) (fun _ hd => hd.1.cell (i := 3) (j := 0) rfl rfl)) (ocons (ob1 (by kernel_rfl) (fun _ hd => hd.1.cell (i := 3) (j := 1) rfl rfl)) onil)) ⟨by kernel_rfl⟩ fun a hF => ?_
   refine WRun.fin ?_
   refine all_cons ?_ (all_nil)
   refine callK (f := 140) (args := #[iv p2.Lo, .func (.func 141) #[] #[], pb b1, pb b3, pb b6]) (R := fun v w2 => v = iv y8 ∧ Ext w w2) (fun v11 => [(8, pb b4), (38, v11), (39, .func (.func 140) #[] #[pb b1, pb b3, pb b6]), (41, iv p2.Hi)]) hF (by kernel_rfl) ⟨by kernel_rfl⟩ (Calls.mono (pulse_Speed_1_at141_ok F p2.Lo p0 p3 y5.1 _ hy8 (memOf w) w (memOf_at w) (Blk.toM (hS.blk (i := 4) rfl)) (Blk.toM (hS.blk (i := 2) rfl)) (Blk.toM (hS.blk (i := 0) rfl))) (fun e w2 h => ⟨_, h.1, rfl, h.2⟩)) (fun _ => ⟨by kernel_rfl⟩) ?_
   rintro v11 w a ⟨rfl, hx⟩ hF
   replace hS := hS.later hx
   refine ⟨⟨St.pick [0, 1, 2, 3, 4] (by decide) hS, (hS.frz (i := 5) rfl hlow)⟩, ?_⟩
   refine WT.z [] (by kernel_rfl) ?_
   refine WRun.fin ?_
   replace h := bindS h
   obtain ⟨y12, hy12, h⟩ := h
   refine rx 2 [.call [] 140 #[iv p2.Hi, .func (.func 142) #[] #[], pb b1, pb b3, pb b6] (iv y12)] 9 [(8, pb b4), (43, .agg #[iv y8, iv y12])] hF (ocons (show Ob.ok _ Ext _ _ from fun hk w2 hd => pulse_Speed_1_at142_ok F p2.Hi p0 p3 y5.1 _ ((fun _ => hy12) hk) _ w2 (memOf_at w2) (Blk.toM ((hS.later hd).blk (i := 4) rfl)) (Blk.toM ((hS.later hd).blk (i := 2) rfl)) (Blk.toM ((hS.later hd).blk (i := 0) rfl))) onil) fun a w hF hx => ?_
   replace hS := hS.later hx
   refine SK.wi (storeK (t := 25) [(8, pb b4)] 1 0 (.agg #[iv y8, iv y12]) #[iv y8, iv y12] hF hS rfl (by kernel_rfl) ⟨by kernel_rfl⟩ (by kernel_rfl) (by kernel_rfl) (by kernel_rfl) (by kernel_rfl) ⟨by kernel_rfl⟩ fun w a hF hS => ?_)
   refine rn 1 11 [(8, pb b4), (9, iv 0)] hF fun a hF => ?_
   refine wfn rfl ?_
   refine wpIn_ret (fn_ret [.cell 8 25, .tmp 9] [.agg #[iv y8, iv y12], iv 0] hF rfl ⟨⟨_, rfl, loadVarN (cs := [iv y8, iv y12]) (by kernel_rfl) ((hS.blk (i := 1) rfl).cells rfl)⟩, rfl, trivial⟩ ?_)
   have hr_ := Option.some.inj h
   subst hr_
   exact ⟨rfl, hS.ext⟩

theorem ref02_Speed_ok (F : Nat) (p0 : ref02_Train) (p1 : Int) (p2 : api_Span) (p3 : Int) (res : (api_Span × Int)) (h : ref02_Speed F p0 p1 p2 p3 = some res) (μ : Frz) (w0 : World) (hm : FrzAt μ w0) : Calls Try.prog 96 #[p0.ag, iv p1, .agg #[iv p2.Lo, iv p2.Hi], iv p3] w0 (fun e w => e = .returned (.tuple #[.agg #[iv res.1.Lo, iv res.1.Hi], iv res.2]) ∧ Ext w0 w) := by
 obtain ⟨hlow, hS⟩ := hm.init
 have hext := Frz.ext_refl w0.heap.size μ
 rw [ref02_Speed] at h
 refine fn_enterW Try.func96 rfl 56 [(0, p0.ag), (1, iv p1), (2, .agg #[iv p2.Lo, iv p2.Hi]), (3, iv p3)] rfl rfl (by kernel_rfl) fun a w hw hF => ?_
 replace hS : St w0 [fz w0 μ] w := by rw [hw]; exact hS
 clear hw
 refine esr ?_
 refine SK.wi (boxK (t := 23) (fun b1 => [(1, iv p1), (2, .agg #[iv p2.Lo, iv p2.Hi]), (3, iv p3), (4, pb b1)]) (p0.ag) p0.ar hF hS (by kernel_rfl) ⟨by kernel_rfl⟩ (by kernel_rfl) (fun _ => ⟨by kernel_rfl⟩) fun b1 w a hF hS => ?_)
 refine SK.wi (boxK (t := 25) (fun b2 => [(1, iv p1), (3, iv p3), (4, pb b1), (6, pb b2)]) (.agg #[iv p2.Lo, iv p2.Hi]) #[iv p2.Lo, iv p2.Hi] hF hS (by kernel_rfl) ⟨by kernel_rfl⟩ (by kernel_rfl) (fun _ => ⟨by kernel_rfl⟩) fun b2 w a hF hS => ?_)
 refine SK.wi (allocK (t := 25) (fun b3 => [(1, iv p1), (3, iv p3), (4, pb b1), (6, pb b2), (8, pb b3)]) #[iv 0, iv 0] hF hS (by kernel_rfl) ⟨by kernel_rfl⟩ (by kernel_rfl) (fun _ => ⟨by kernel_rfl⟩) fun b3 w a hF hS => ?_)
 refine rn 1 4 [(1, iv p1), (3, iv p3), (4, pb b1), (6, pb b2), (8, pb b3)] hF fun a hF => ?_
 refine wfn rfl ?_
 refine esr ?_
 replace h := bindS h
 obtain ⟨y4, hy4, h⟩ := h
 refine rx 8 [.run [] (Instr.loadAt 23 (pb b1)) (p0.ag), .call [] 98 #[p0.ag, iv p1] (.tuple #[iv y4.1, iv y4.2])] 8 [(3, iv p3), (4, pb b1), (6, pb b2), (8, pb b3), (10, iv y4.1), (11, iv y4.2)] hF (ocons (obN (us := p0.cells) (by kernel_rfl) (fun _ hd => ((hS.later hd).blk (i := 2) rfl).cells rfl)) (ocons (show Ob.ok _ Ext _ _ from fun hk w2 hd => ref02_time_ok F p0 p1 _ ((fun _ => hy4) hk) _ w2 (memOf_at w2) ) onil)) fun a w hF hx => ?_
 replace hS := hS.later hx
 refine wfn rfl ?_
 refine eseq ?_
 refine esr ?_
 refine rn 2 2 [(3, iv p3), (4, pb b1), (6, pb b2), (8, pb b3), (10, iv y4.1), (11, iv y4.2), (19, .bool (y4.2 != 0))] hF fun a hF => ?_
 refine wfn rfl ?_
 refine econd hF rfl (fun hc => ?_) (fun hc => ?_)
 ·replace h := bif_t h hc
  refine esr ?_
  refine rn 2 2 [(8, pb b3), (20, .agg #[iv 0, iv 0]), (21, iv y4.2)] hF fun a hF => ?_
  refine SK.wi (storeK (t := 25) [(8, pb b3), (21, iv y4.2)] 0 0 (.agg #[iv 0, iv 0]) #[iv 0, iv 0] hF hS rfl (by kernel_rfl) ⟨by kernel_rfl⟩ (by kernel_rfl) (by kernel_rfl) (by kernel_rfl) (by kernel_rfl) ⟨by kernel_rfl⟩ fun w a hF hS => ?_)
  refine rn 1 4 [(8, pb b3), (9, iv y4.2)] hF fun a hF => ?_
  refine wfn rfl ?_
  refine wpIn_ret (ret_then <| fn_ret [.cell 8 25, .tmp 9] [.agg #[iv 0, iv 0], iv y4.2] hF rfl ⟨⟨_, rfl, loadVarN (cs := [iv 0, iv 0]) (by kernel_rfl) ((hS.blk (i := 0) rfl).cells rfl)⟩, rfl, trivial⟩ ?_)
  have hr_ := Option.some.inj h
  subst hr_
  exact ⟨rfl, hS.ext⟩
 ·replace h := bif_f h hc
  refine wpIn_skip (norm_then ?_)
  refine eseq ?_
  refine esr ?_
  refine rx 8 [.run [] (Instr.loadAt 25 (pb b2)) (.agg #[iv p2.Lo, iv p2.Hi]), .call [] 94 #[.agg #[iv p2.Lo, iv p2.Hi], iv (-131072), iv 131072] (.bool (ref01_Valid p2 (-131072) 131072)), .call [⟨25, false, (!(ref01_Valid p2 (-131072) 131072))⟩] 93 #[iv p3, iv (-64), iv 64] (.bool (ref01_In p3 (-64) 64))] 8 [(3, iv p3), (4, pb b1), (6, pb b2), (8, pb b3), (10, iv y4.1), (29, .bool (bif (!(ref01_Valid p2 (-131072) 131072)) then true else (!(ref01_In p3 (-64) 64))))] hF (ocons (obN (us := [iv p2.Lo, iv p2.Hi]) (by kernel_rfl) (fun _ hd => ((hS.later hd).blk (i := 1) rfl).cells rfl)) (ocons (show Ob.ok _ Ext _ _ from fun hk w2 hd => ref01_Valid_ok p2 (-131072) 131072 _ rfl _ w2 (memOf_at w2) ) (ocons (show Ob.ok _ Ext _ _ from fun hk w2 hd => ref01_In_ok p3 (-64) 64 _ rfl _ w2 (memOf_at w2) ) onil))) fun a w hF hx => ?_
  replace hS := hS.later hx
  refine wfn rfl ?_
  refine econd hF rfl (fun hc => ?_) (fun hc => ?_)
  ·replace h := bif_t h hc
   refine esr ?_
   refine rn 1 1 [(8, pb b3), (30, .agg #[iv 0, iv 0])] hF fun a hF => ?_
   refine SK.wi (storeK (t := 25) [(8, pb b3)] 0 0 (.agg #[iv 0, iv 0]) #[iv 0, iv 0] hF hS rfl (by kernel_rfl) ⟨by kernel_rfl⟩ (by kernel_rfl) (by kernel_rfl) (by kernel_rfl) (by kernel_rfl) ⟨by kernel_rfl⟩ fun w a hF hS => ?_)
   refine rn 1 3 [(8, pb b3), (9, iv 3)] hF fun a hF => ?_
   refine wfn rfl ?_
   refine wpIn_ret (ret_then <| fn_ret [.cell 8 25, .tmp 9] [.agg #[iv 0, iv 0], iv 3] hF rfl ⟨⟨_, rfl, loadVarN (cs := [iv 0, iv 0]) (by kernel_rfl) ((hS.blk (i := 0) rfl).cells rfl)⟩, rfl, trivial⟩ ?_)
   have hr_ := Option.some.inj h
   subst hr_
   exact ⟨rfl, hS.ext⟩
  ·replace h := bif_f h hc
   refine wpIn_skip (norm_then ?_)
   refine eseq ?_
   replace h := bindS h
   obtain ⟨x5, hx5, h⟩ := h
   replace h := bindS h
   obtain ⟨x6, hx6, h⟩ := h
   replace h := bindS h
   obtain ⟨x7, hx7, h⟩ := h
   replace h := bindS h
   obtain ⟨x8, hx8, h⟩ := h
   replace h := bindS h
   obtain ⟨x9, hx9, h⟩ := h
   replace h := bindS h
   obtain ⟨y10, hy10, h⟩ := h
   replace h := bindS h
   obtain ⟨x11, hx11, h⟩ := h
   replace h := bindS h
   obtain ⟨x12, hx12, h⟩ := h
   replace h := bindS h
   obtain ⟨x13, hx13, h⟩ := h
   replace h := bindS h
   obtain ⟨x14, hx14, h⟩ := h
   replace h := bindS h
   obtain ⟨x15, hx15, h⟩ := h
   replace h := bindS h
   obtain ⟨y16, hy16, h⟩ := h
   refine runD (obs := [.run [] (Instr.loadAt 3 (pb b1)) (iv p0.Lambda), .run [] (binOp .mul 3 (iv 500) (iv p0.Lambda)) (iv x5), .run [] (Instr.loadAt 3 (pb b2)) (iv p2.Lo), .run [] (binOp .mul 3 (iv p3) (iv 65536)) (iv x6), .run [] (binOp .add 3 (iv p2.Lo) (iv x6)) (iv x7), .run [] (binOp .mul 3 (iv x5) (iv x7)) (iv x8), .run [] (binOp .mul 3 (iv 65536) (iv y4.1)) (iv x9), .call [] 114 #[iv x8, iv x9] (iv y10), .run [] (Instr.loadAt 3 (pb b1)) (iv p0.Lambda), .run [] (binOp .mul 3 (iv 500) (iv p0.Lambda)) (iv x11), .run [] (Instr.loadAt 3 (.pointer (some ⟨b2, 1, none⟩))) (iv p2.Hi), .run [] (binOp .mul 3 (iv p3) (iv 65536)) (iv x12), .run [] (binOp .add 3 (iv p2.Hi) (iv x12)) (iv x13), .run [] (binOp .mul 3 (iv x11) (iv x13)) (iv x14), .run [] (binOp .mul 3 (iv 65536) (iv y4.1)) (iv x15), .call [] 115 #[iv x14, iv x15] (iv y16)]) 25 [(8, pb b3), (55, .agg #[iv y10, iv y16])] (by kernel_rfl) hF (by kernel_rfl) (ocons (ob1 (by kernel_rfl) (fun _ hd => (hS.later hd).cell (i := 2) (j := 0) rfl rfl)) (ocons (obMulC (fun _ => hx5)) (ocons (ob1 (by kernel_rfl) (fun _ hd => (hS.later hd).cell (i := 1) (j := 0) rfl rfl)) (ocons (obMulC (fun _ => hx6)) (ocons (obAddC (fun _ => hx7)) (ocons (obMulC (fun _ => hx8)) (ocons (obMulC (fun _ => hx9)) (ocons (show Ob.ok _ Ext _ _ from fun hk w2 hd => ref01_Down_ok F x8 x9 _ ((fun _ => hy10) hk) _ w2 (memOf_at w2) ) (ocons (ob1 (by kernel_rfl) (fun _ hd => (hS.later hd).cell (i := 2) (j := 0) rfl rfl)) (ocons (obMulC (fun _ => hx11)) (ocons (ob1 (by kernel_rfl) (fun _ hd => (hS.later hd).cell (i := 1) (j := 1) rfl rfl)) (ocons (obMulC (fun _ => hx12)) (ocons (obAddC (fun _ => hx13)) (ocons (obMulC (fun _ => hx14)) (ocons (obMulC (fun _ => hx15)) (ocons (show Ob.ok _ Ext _ _ from fun hk w2 hd => ref01_Up_ok F x14 x15 _ ((fun _ => hy16) hk) _ w2 (memOf_at w2) ) onil)))))))))))))))) ⟨by kernel_rfl⟩ fun a w hF hx => ?_
   replace hS := hS.later hx
   refine SK.wi (storeK (t := 25) [(8, pb b3)] 0 0 (.agg #[iv y10, iv y16]) #[iv y10, iv y16] hF hS rfl (by kernel_rfl) ⟨by kernel_rfl⟩ (by kernel_rfl) (by kernel_rfl) (by kernel_rfl) (by kernel_rfl) ⟨by kernel_rfl⟩ fun w a hF hS => ?_)
   refine rn 1 27 [(8, pb b3), (9, iv 0)] hF fun a hF => ?_
   refine wfn rfl ?_
   refine wpIn_ret (fn_ret [.cell 8 25, .tmp 9] [.agg #[iv y10, iv y16], iv 0] hF rfl ⟨⟨_, rfl, loadVarN (cs := [iv y10, iv y16]) (by kernel_rfl) ((hS.blk (i := 0) rfl).cells rfl)⟩, rfl, trivial⟩ ?_)
   have hr_ := Option.some.inj h
   subst hr_
   exact ⟨rfl, hS.ext⟩

theorem ref03_speed_ok (F : Nat) (p0 : ref02_Train) (p1 : api_Echo) (p2 : Int) (p3 : Int) (p4 : Int) (res : (api_Span × Bool)) (h : ref03_speed F p0 p1 p2 p3 p4 = some res) (μ : Frz) (w0 : World) (hm : FrzAt μ w0) : Calls Try.prog 57 #[p0.ag, p1.ag, iv p2, iv p3, iv p4] w0 (fun e w => e = .returned (.tuple #[.agg #[iv res.1.Lo, iv res.1.Hi], .bool res.2]) ∧ Ext w0 w) := by
 obtain ⟨hlow, hS⟩ := hm.init
 have hext := Frz.ext_refl w0.heap.size μ
 rw [ref03_speed] at h
 refine fn_enterW Try.func57 rfl 33 [(0, p0.ag), (1, p1.ag), (2, iv p2), (3, iv p3), (4, iv p4)] rfl rfl (by kernel_rfl) fun a w hw hF => ?_
 replace hS : St w0 [fz w0 μ] w := by rw [hw]; exact hS
 clear hw
 refine esr ?_
 refine SK.wi (boxK (t := 23) (fun b1 => [(1, p1.ag), (2, iv p2), (3, iv p3), (4, iv p4), (5, pb b1)]) (p0.ag) p0.ar hF hS (by kernel_rfl) ⟨by kernel_rfl⟩ (by kernel_rfl) (fun _ => ⟨by kernel_rfl⟩) fun b1 w a hF hS => ?_)
 refine SK.wi (boxK (t := 28) (fun b2 => [(2, iv p2), (3, iv p3), (4, iv p4), (5, pb b1), (6, pb b2)]) (p1.ag) p1.ar hF hS (by kernel_rfl) ⟨by kernel_rfl⟩ (by kernel_rfl) (fun _ => ⟨by kernel_rfl⟩) fun b2 w a hF hS => ?_)
 refine SK.wi (allocK (t := 25) (fun b3 => [(2, iv p2), (3, iv p3), (4, iv p4), (5, pb b1), (6, pb b2), (10, pb b3)]) #[iv 0, iv 0] hF hS (by kernel_rfl) ⟨by kernel_rfl⟩ (by kernel_rfl) (fun _ => ⟨by kernel_rfl⟩) fun b3 w a hF hS => ?_)
 refine rn 1 4 [(2, iv p2), (3, iv p3), (4, iv p4), (5, pb b1), (6, pb b2), (10, pb b3)] hF fun a hF => ?_
 refine wfn rfl ?_
 refine eseq ?_
 rcases Bool.eq_false_or_eq_true ((p2 == 0)) with hg4 | hg4
 ·replace h := bif_t h hg4
  replace h := bindS h
  obtain ⟨y6, hy6, h⟩ := h
  refine region_treeW 14 [7, 11, 12] (fun a w => ∃ (b13 : Nat), Fr 33 [] [(4, iv p4), (10, pb b3), (12, pb b13)] a ∧ St w0 [blk b13 25 #[iv y6.1.Lo, iv y6.1.Hi], blk b3 25 #[iv 0, iv 0], blk b2 28 p1.ar, blk b1 23 p0.ar, fz w0 μ] w) (D := fun w => St w0 [blk b3 25 #[iv 0, iv 0], blk b2 28 p1.ar, blk b1 23 p0.ar] w ∧ FrzAt μ w) (by kernel_rfl) (by kernel_rfl) hF.size (fun w hx => ?_) ?_
  ·skip
   replace hS := hS.later hx
   refine ⟨⟨St.pick [0, 1, 2] (by decide) hS, hS.frz (i := 3) rfl hlow⟩, ?_⟩
   have hcl14 := Frz.le_refl μ
   refine WT.s [0, 1, 2, 3, 4, 5, 6] [7, 11] (by kernel_rfl) (by kernel_rfl) ?_
   refine runC (rest := []) (obs := [.run [] (Instr.loadAt 23 (pb b1)) (p0.ag), .run [] (Instr.indexAt 26 (.pointer (some ⟨b2, 3, none⟩)) (iv p2)) (.pointer (some ⟨b2, 3, none⟩)), .run [] (Instr.loadAt 25 (.pointer (some ⟨b2, 3, none⟩))) (.agg #[iv p1.Steps.1.Lo, iv p1.Steps.1.Hi])]) [0, 1, 2, 3, 4, 5, 6] [(4, iv p4), (10, pb b3), (15, p0.ag), (16, iv p2), (20, .agg #[iv p1.Steps.1.Lo, iv p1.Steps.1.Hi]), (21, iv p3)] hF (by kernel_rfl) (by kernel_rfl) (ocons (obN (us := p0.cells) (by kernel_rfl) (fun _ hd => (hd.1.blk (i := 2) rfl).cells rfl)) (ocons (by rw [show p2 = (0 : Int) from eq_of_beq hg4]; exact obPureSem (by kernel_rfl)) (ocons (obN (us := [iv p1.Steps.1.Lo, iv p1.Steps.1.Hi]) (by kernel_rfl) (fun _ hd => (hd.1.blk (i := 1) rfl).cells rfl)) onil))) ⟨by kernel_rfl⟩ fun a hF => ?_
   refine WRun.fin ?_
   refine all_cons ?_ (all_cons ?_ (all_nil))
   ·skip
    refine callK (f := 96) (args := #[p0.ag, iv p2, .agg #[iv p1.Steps.1.Lo, iv p1.Steps.1.Hi], iv p3]) (R := fun v w2 => v = .tuple #[.agg #[iv y6.1.Lo, iv y6.1.Hi], iv y6.2] ∧ Ext w w2) (fun v15 => [(4, iv p4), (10, pb b3), (22, v15)]) hF (by kernel_rfl) ⟨by kernel_rfl⟩ (Calls.mono (ref02_Speed_ok F p0 p2 (api_Span.mk p1.Steps.1.Lo p1.Steps.1.Hi) p3 _ hy6 (memOf w) w (memOf_at w) ) (fun e w2 h => ⟨_, h.1, rfl, h.2⟩)) (fun _ => ⟨by kernel_rfl⟩) ?_
    rintro v15 w a ⟨rfl, hx⟩ hF
    replace hS := hS.later hx
    refine ⟨⟨St.pick [0, 1, 2] (by decide) hS, (hS.frz (i := 3) rfl hlow)⟩, ?_⟩
    refine WT.s [8, 9, 10] [11] (by kernel_rfl) (by kernel_rfl) ?_
    refine runC (rest := []) (obs := []) [8, 9, 10] [(4, iv p4), (10, pb b3), (23, .agg #[iv y6.1.Lo, iv y6.1.Hi]), (24, iv y6.2)] hF (by kernel_rfl) (by kernel_rfl) onil ⟨by kernel_rfl⟩ fun a hF => ?_
    refine WRun.fin ?_
    refine all_cons ?_ (all_nil)
    refine allocK (t := 25) (fun b16 => [(4, iv p4), (10, pb b3), (12, pb b16), (23, .agg #[iv y6.1.Lo, iv y6.1.Hi]), (24, iv y6.2)]) #[iv 0, iv 0] hF hS (by kernel_rfl) ⟨by kernel_rfl⟩ (by kernel_rfl) (fun _ => ⟨by kernel_rfl⟩) fun b16 w a hF hS => ⟨⟨St.pick [1, 2, 3] (by decide) hS, (hS.frz (i := 4) rfl hlow)⟩, ?_⟩
    refine WT.s [] [12] (by kernel_rfl) (by kernel_rfl) ?_
    refine WRun.fin ?_
    refine all_cons ?_ (all_nil)
    refine storeK (t := 25) [(4, iv p4), (10, pb b3), (12, pb b16), (24, iv y6.2)] 0 0 (.agg #[iv y6.1.Lo, iv y6.1.Hi]) #[iv y6.1.Lo, iv y6.1.Hi] hF hS rfl (by kernel_rfl) ⟨by kernel_rfl⟩ (by kernel_rfl) (by kernel_rfl) (by kernel_rfl) (by kernel_rfl) ⟨by kernel_rfl⟩ fun w a hF hS => ⟨⟨St.pick [1, 2, 3] (by decide) hS, (hS.frz (i := 4) rfl hlow)⟩, ?_⟩
    refine WT.z [13] (by kernel_rfl) ?_
    refine runC (rest := []) (obs := []) [13] [(4, iv p4), (10, pb b3), (12, pb b16)] hF (by kernel_rfl) (by kernel_rfl) onil ⟨by kernel_rfl⟩ fun a hF => ?_
    refine WRun.fin ?_
    exact ⟨b16, hF.sub (by kernel_rfl), St.pick [0, 1, 2, 3, 4] (by decide) hS⟩
   ·skip
    refine allocK (t := 25) (fun b17 => [(4, iv p4), (10, pb b3), (12, pb b17), (15, p0.ag), (16, iv p2), (20, .agg #[iv p1.Steps.1.Lo, iv p1.Steps.1.Hi]), (21, iv p3)]) #[iv 0, iv 0] hF hS (by kernel_rfl) ⟨by kernel_rfl⟩ (by kernel_rfl) (fun _ => ⟨by kernel_rfl⟩) fun b17 w a hF hS => ⟨⟨St.pick [1, 2, 3] (by decide) hS, (hS.frz (i := 4) rfl hlow)⟩, ?_⟩
    refine WT.s [] [7] (by kernel_rfl) (by kernel_rfl) ?_
    refine WRun.fin ?_
    refine all_cons ?_ (all_nil)
    refine callK (f := 96) (args := #[p0.ag, iv p2, .agg #[iv p1.Steps.1.Lo, iv p1.Steps.1.Hi], iv p3]) (R := fun v w2 => v = .tuple #[.agg #[iv y6.1.Lo, iv y6.1.Hi], iv y6.2] ∧ Ext w w2) (fun v18 => [(4, iv p4), (10, pb b3), (12, pb b17), (22, v18)]) hF (by kernel_rfl) ⟨by kernel_rfl⟩ (Calls.mono (ref02_Speed_ok F p0 p2 (api_Span.mk p1.Steps.1.Lo p1.Steps.1.Hi) p3 _ hy6 (memOf w) w (memOf_at w) ) (fun e w2 h => ⟨_, h.1, rfl, h.2⟩)) (fun _ => ⟨by kernel_rfl⟩) ?_
    rintro v18 w a ⟨rfl, hx⟩ hF
    replace hS := hS.later hx
    refine ⟨⟨St.pick [1, 2, 3] (by decide) hS, (hS.frz (i := 4) rfl hlow)⟩, ?_⟩
    refine WT.s [8, 9, 10] [12] (by kernel_rfl) (by kernel_rfl) ?_
    refine runC (rest := []) (obs := []) [8, 9, 10] [(4, iv p4), (10, pb b3), (12, pb b17), (23, .agg #[iv y6.1.Lo, iv y6.1.Hi]), (24, iv y6.2)] hF (by kernel_rfl) (by kernel_rfl) onil ⟨by kernel_rfl⟩ fun a hF => ?_
    refine WRun.fin ?_
    refine all_cons ?_ (all_nil)
    refine storeK (t := 25) [(4, iv p4), (10, pb b3), (12, pb b17), (24, iv y6.2)] 0 0 (.agg #[iv y6.1.Lo, iv y6.1.Hi]) #[iv y6.1.Lo, iv y6.1.Hi] hF hS rfl (by kernel_rfl) ⟨by kernel_rfl⟩ (by kernel_rfl) (by kernel_rfl) (by kernel_rfl) (by kernel_rfl) ⟨by kernel_rfl⟩ fun w a hF hS => ⟨⟨St.pick [1, 2, 3] (by decide) hS, (hS.frz (i := 4) rfl hlow)⟩, ?_⟩
    refine WT.z [13] (by kernel_rfl) ?_
    refine runC (rest := []) (obs := []) [13] [(4, iv p4), (10, pb b3), (12, pb b17)] hF (by kernel_rfl) (by kernel_rfl) onil ⟨by kernel_rfl⟩ fun a hF => ?_
    refine WRun.fin ?_
    exact ⟨b17, hF.sub (by kernel_rfl), St.pick [0, 1, 2, 3, 4] (by decide) hS⟩
  rintro a w ⟨b13, hF, hS⟩
  refine wfn rfl ?_
  refine esr ?_
  refine rx 8 [.run [] (Instr.loadAt 25 (pb b13)) (.agg #[iv y6.1.Lo, iv y6.1.Hi]), .call [] 58 #[.agg #[iv y6.1.Lo, iv y6.1.Hi], .agg #[iv (IntKind.i64.wrap (0 - p4)), iv p4]] (.tuple #[.agg #[iv (((ref03_common (api_Span.mk y6.1.Lo y6.1.Hi) (api_Span.mk (IntKind.i64.wrap (0 - p4)) p4)).1).Lo), iv (((ref03_common (api_Span.mk y6.1.Lo y6.1.Hi) (api_Span.mk (IntKind.i64.wrap (0 - p4)) p4)).1).Hi)], .bool ((ref03_common (api_Span.mk y6.1.Lo y6.1.Hi) (api_Span.mk (IntKind.i64.wrap (0 - p4)) p4)).2)])] 8 [(10, pb b3), (31, .agg #[iv (((ref03_common (api_Span.mk y6.1.Lo y6.1.Hi) (api_Span.mk (IntKind.i64.wrap (0 - p4)) p4)).1).Lo), iv (((ref03_common (api_Span.mk y6.1.Lo y6.1.Hi) (api_Span.mk (IntKind.i64.wrap (0 - p4)) p4)).1).Hi)]), (32, .bool ((ref03_common (api_Span.mk y6.1.Lo y6.1.Hi) (api_Span.mk (IntKind.i64.wrap (0 - p4)) p4)).2))] hF (ocons (obN (us := [iv y6.1.Lo, iv y6.1.Hi]) (by kernel_rfl) (fun _ hd => ((hS.later hd).blk (i := 0) rfl).cells rfl)) (ocons (show Ob.ok _ Ext _ _ from fun hk w2 hd => ref03_common_ok (api_Span.mk y6.1.Lo y6.1.Hi) (api_Span.mk (IntKind.i64.wrap (0 - p4)) p4) _ rfl _ w2 (memOf_at w2) ) onil)) fun a w hF hx => ?_
  replace hS := hS.later hx
  refine SK.wi (storeK (t := 25) [(10, pb b3), (32, .bool ((ref03_common (api_Span.mk y6.1.Lo y6.1.Hi) (api_Span.mk (IntKind.i64.wrap (0 - p4)) p4)).2))] 1 0 (.agg #[iv (((ref03_common (api_Span.mk y6.1.Lo y6.1.Hi) (api_Span.mk (IntKind.i64.wrap (0 - p4)) p4)).1).Lo), iv (((ref03_common (api_Span.mk y6.1.Lo y6.1.Hi) (api_Span.mk (IntKind.i64.wrap (0 - p4)) p4)).1).Hi)]) #[iv (((ref03_common (api_Span.mk y6.1.Lo y6.1.Hi) (api_Span.mk (IntKind.i64.wrap (0 - p4)) p4)).1).Lo), iv (((ref03_common (api_Span.mk y6.1.Lo y6.1.Hi) (api_Span.mk (IntKind.i64.wrap (0 - p4)) p4)).1).Hi)] hF hS rfl (by kernel_rfl) ⟨by kernel_rfl⟩ (by kernel_rfl) (by kernel_rfl) (by kernel_rfl) (by kernel_rfl) ⟨by kernel_rfl⟩ fun w a hF hS => ?_)
  refine rn 1 10 [(10, pb b3), (11, .bool ((ref03_common (api_Span.mk y6.1.Lo y6.1.Hi) (api_Span.mk (IntKind.i64.wrap (0 - p4)) p4)).2))] hF fun a hF => ?_
  refine wfn rfl ?_
  refine wpIn_ret (fn_ret [.cell 10 25, .tmp 11] [.agg #[iv (((ref03_common (api_Span.mk y6.1.Lo y6.1.Hi) (api_Span.mk (IntKind.i64.wrap (0 - p4)) p4)).1).Lo), iv (((ref03_common (api_Span.mk y6.1.Lo y6.1.Hi) (api_Span.mk (IntKind.i64.wrap (0 - p4)) p4)).1).Hi)], .bool ((ref03_common (api_Span.mk y6.1.Lo y6.1.Hi) (api_Span.mk (IntKind.i64.wrap (0 - p4)) p4)).2)] hF rfl ⟨⟨_, rfl, loadVarN (cs := [iv (((ref03_common (api_Span.mk y6.1.Lo y6.1.Hi) (api_Span.mk (IntKind.i64.wrap (0 - p4)) p4)).1).Lo), iv (((ref03_common (api_Span.mk y6.1.Lo y6.1.Hi) (api_Span.mk (IntKind.i64.wrap (0 - p4)) p4)).1).Hi)]) (by kernel_rfl) ((hS.blk (i := 1) rfl).cells rfl)⟩, rfl, trivial⟩ ?_)
  have hr_ := Option.some.inj h
  subst hr_
  exact ⟨rfl, hS.ext⟩
 ·replace h := bif_f h hg4
  rcases Bool.eq_false_or_eq_true ((p2 == 1)) with hg19 | hg19
  ·replace h := bif_t h hg19
   replace h := bindS h
   obtain ⟨y21, hy21, h⟩ := h
   refine region_treeW 14 [7, 11, 12] (fun a w => ∃ (b28 : Nat), Fr 33 [] [(4, iv p4), (10, pb b3), (12, pb b28)] a ∧ St w0 [blk b28 25 #[iv y21.1.Lo, iv y21.1.Hi], blk b3 25 #[iv 0, iv 0], blk b2 28 p1.ar, blk b1 23 p0.ar, fz w0 μ] w) (D := fun w => St w0 [blk b3 25 #[iv 0, iv 0], blk b2 28 p1.ar, blk b1 23 p0.ar] w ∧ FrzAt μ w) (by kernel_rfl) (by kernel_rfl) hF.size (fun w hx => ?_) ?_
   ·skip
    replace hS := hS.later hx
    refine ⟨⟨St.pick [0, 1, 2] (by decide) hS, hS.frz (i := 3) rfl hlow⟩, ?_⟩
    have hcl29 := Frz.le_refl μ
    refine WT.s [0, 1, 2, 3, 4, 5, 6] [7, 11] (by kernel_rfl) (by kernel_rfl) ?_
    refine runC (rest := []) (obs := [.run [] (Instr.loadAt 23 (pb b1)) (p0.ag), .run [] (Instr.indexAt 26 (.pointer (some ⟨b2, 3, none⟩)) (iv p2)) (.pointer (some ⟨b2, 5, none⟩)), .run [] (Instr.loadAt 25 (.pointer (some ⟨b2, 5, none⟩))) (.agg #[iv p1.Steps.2.Lo, iv p1.Steps.2.Hi])]) [0, 1, 2, 3, 4, 5, 6] [(4, iv p4), (10, pb b3), (15, p0.ag), (16, iv p2), (20, .agg #[iv p1.Steps.2.Lo, iv p1.Steps.2.Hi]), (21, iv p3)] hF (by kernel_rfl) (by kernel_rfl) (ocons (obN (us := p0.cells) (by kernel_rfl) (fun _ hd => (hd.1.blk (i := 2) rfl).cells rfl)) (ocons (by rw [show p2 = (1 : Int) from eq_of_beq hg19]; exact obPureSem (by kernel_rfl)) (ocons (obN (us := [iv p1.Steps.2.Lo, iv p1.Steps.2.Hi]) (by kernel_rfl) (fun _ hd => (hd.1.blk (i := 1) rfl).cells rfl)) onil))) ⟨by kernel_rfl⟩ fun a hF => ?_
    refine WRun.fin ?_
    refine all_cons ?_ (all_cons ?_ (all_nil))
    ·skip
     refine callK (f := 96) (args := #[p0.ag, iv p2, .agg #[iv p1.Steps.2.Lo, iv p1.Steps.2.Hi], iv p3]) (R := fun v w2 => v = .tuple #[.agg #[iv y21.1.Lo, iv y21.1.Hi], iv y21.2] ∧ Ext w w2) (fun v30 => [(4, iv p4), (10, pb b3), (22, v30)]) hF (by kernel_rfl) ⟨by kernel_rfl⟩ (Calls.mono (ref02_Speed_ok F p0 p2 (api_Span.mk p1.Steps.2.Lo p1.Steps.2.Hi) p3 _ hy21 (memOf w) w (memOf_at w) ) (fun e w2 h => ⟨_, h.1, rfl, h.2⟩)) (fun _ => ⟨by kernel_rfl⟩) ?_
     rintro v30 w a ⟨rfl, hx⟩ hF
     replace hS := hS.later hx
     refine ⟨⟨St.pick [0, 1, 2] (by decide) hS, (hS.frz (i := 3) rfl hlow)⟩, ?_⟩
     refine WT.s [8, 9, 10] [11] (by kernel_rfl) (by kernel_rfl) ?_
     refine runC (rest := []) (obs := []) [8, 9, 10] [(4, iv p4), (10, pb b3), (23, .agg #[iv y21.1.Lo, iv y21.1.Hi]), (24, iv y21.2)] hF (by kernel_rfl) (by kernel_rfl) onil ⟨by kernel_rfl⟩ fun a hF => ?_
     refine WRun.fin ?_
     refine all_cons ?_ (all_nil)
     refine allocK (t := 25) (fun b31 => [(4, iv p4), (10, pb b3), (12, pb b31), (23, .agg #[iv y21.1.Lo, iv y21.1.Hi]), (24, iv y21.2)]) #[iv 0, iv 0] hF hS (by kernel_rfl) ⟨by kernel_rfl⟩ (by kernel_rfl) (fun _ => ⟨by kernel_rfl⟩) fun b31 w a hF hS => ⟨⟨St.pick [1, 2, 3] (by decide) hS, (hS.frz (i := 4) rfl hlow)⟩, ?_⟩
     refine WT.s [] [12] (by kernel_rfl) (by kernel_rfl) ?_
     refine WRun.fin ?_
     refine all_cons ?_ (all_nil)
     refine storeK (t := 25) [(4, iv p4), (10, pb b3), (12, pb b31), (24, iv y21.2)] 0 0 (.agg #[iv y21.1.Lo, iv y21.1.Hi]) #[iv y21.1.Lo, iv y21.1.Hi] hF hS rfl (by kernel_rfl) ⟨by kernel_rfl⟩ (by kernel_rfl) (by kernel_rfl) (by kernel_rfl) (by kernel_rfl) ⟨by kernel_rfl⟩ fun w a hF hS => ⟨⟨St.pick [1, 2, 3] (by decide) hS, (hS.frz (i := 4) rfl hlow)⟩, ?_⟩
     refine WT.z [13] (by kernel_rfl) ?_
     refine runC (rest := []) (obs := []) [13] [(4, iv p4), (10, pb b3), (12, pb b31)] hF (by kernel_rfl) (by kernel_rfl) onil ⟨by kernel_rfl⟩ fun a hF => ?_
     refine WRun.fin ?_
     exact ⟨b31, hF.sub (by kernel_rfl), St.pick [0, 1, 2, 3, 4] (by decide) hS⟩
    ·skip
     refine allocK (t := 25) (fun b32 => [(4, iv p4), (10, pb b3), (12, pb b32), (15, p0.ag), (16, iv p2), (20, .agg #[iv p1.Steps.2.Lo, iv p1.Steps.2.Hi]), (21, iv p3)]) #[iv 0, iv 0] hF hS (by kernel_rfl) ⟨by kernel_rfl⟩ (by kernel_rfl) (fun _ => ⟨by kernel_rfl⟩) fun b32 w a hF hS => ⟨⟨St.pick [1, 2, 3] (by decide) hS, (hS.frz (i := 4) rfl hlow)⟩, ?_⟩
     refine WT.s [] [7] (by kernel_rfl) (by kernel_rfl) ?_
     refine WRun.fin ?_
     refine all_cons ?_ (all_nil)
     refine callK (f := 96) (args := #[p0.ag, iv p2, .agg #[iv p1.Steps.2.Lo, iv p1.Steps.2.Hi], iv p3]) (R := fun v w2 => v = .tuple #[.agg #[iv y21.1.Lo, iv y21.1.Hi], iv y21.2] ∧ Ext w w2) (fun v33 => [(4, iv p4), (10, pb b3), (12, pb b32), (22, v33)]) hF (by kernel_rfl) ⟨by kernel_rfl⟩ (Calls.mono (ref02_Speed_ok F p0 p2 (api_Span.mk p1.Steps.2.Lo p1.Steps.2.Hi) p3 _ hy21 (memOf w) w (memOf_at w) ) (fun e w2 h => ⟨_, h.1, rfl, h.2⟩)) (fun _ => ⟨by kernel_rfl⟩) ?_
     rintro v33 w a ⟨rfl, hx⟩ hF
     replace hS := hS.later hx
     refine ⟨⟨St.pick [1, 2, 3] (by decide) hS, (hS.frz (i := 4) rfl hlow)⟩, ?_⟩
     refine WT.s [8, 9, 10] [12] (by kernel_rfl) (by kernel_rfl) ?_
     refine runC (rest := []) (obs := []) [8, 9, 10] [(4, iv p4), (10, pb b3), (12, pb b32), (23, .agg #[iv y21.1.Lo, iv y21.1.Hi]), (24, iv y21.2)] hF (by kernel_rfl) (by kernel_rfl) onil ⟨by kernel_rfl⟩ fun a hF => ?_
     refine WRun.fin ?_
     refine all_cons ?_ (all_nil)
     refine storeK (t := 25) [(4, iv p4), (10, pb b3), (12, pb b32), (24, iv y21.2)] 0 0 (.agg #[iv y21.1.Lo, iv y21.1.Hi]) #[iv y21.1.Lo, iv y21.1.Hi] hF hS rfl (by kernel_rfl) ⟨by kernel_rfl⟩ (by kernel_rfl) (by kernel_rfl) (by kernel_rfl) (by kernel_rfl) ⟨by kernel_rfl⟩ fun w a hF hS => ⟨⟨St.pick [1, 2, 3] (by decide) hS, (hS.frz (i := 4) rfl hlow)⟩, ?_⟩
     refine WT.z [13] (by kernel_rfl) ?_
     refine runC (rest := []) (obs := []) [13] [(4, iv p4), (10, pb b3), (12, pb b32)] hF (by kernel_rfl) (by kernel_rfl) onil ⟨by kernel_rfl⟩ fun a hF => ?_
     refine WRun.fin ?_
     exact ⟨b32, hF.sub (by kernel_rfl), St.pick [0, 1, 2, 3, 4] (by decide) hS⟩
   rintro a w ⟨b28, hF, hS⟩
   refine wfn rfl ?_
   refine esr ?_
   refine rx 8 [.run [] (Instr.loadAt 25 (pb b28)) (.agg #[iv y21.1.Lo, iv y21.1.Hi]), .call [] 58 #[.agg #[iv y21.1.Lo, iv y21.1.Hi], .agg #[iv (IntKind.i64.wrap (0 - p4)), iv p4]] (.tuple #[.agg #[iv (((ref03_common (api_Span.mk y21.1.Lo y21.1.Hi) (api_Span.mk (IntKind.i64.wrap (0 - p4)) p4)).1).Lo), iv (((ref03_common (api_Span.mk y21.1.Lo y21.1.Hi) (api_Span.mk (IntKind.i64.wrap (0 - p4)) p4)).1).Hi)], .bool ((ref03_common (api_Span.mk y21.1.Lo y21.1.Hi) (api_Span.mk (IntKind.i64.wrap (0 - p4)) p4)).2)])] 8 [(10, pb b3), (31, .agg #[iv (((ref03_common (api_Span.mk y21.1.Lo y21.1.Hi) (api_Span.mk (IntKind.i64.wrap (0 - p4)) p4)).1).Lo), iv (((ref03_common (api_Span.mk y21.1.Lo y21.1.Hi) (api_Span.mk (IntKind.i64.wrap (0 - p4)) p4)).1).Hi)]), (32, .bool ((ref03_common (api_Span.mk y21.1.Lo y21.1.Hi) (api_Span.mk (IntKind.i64.wrap (0 - p4)) p4)).2))] hF (ocons (obN (us := [iv y21.1.Lo, iv y21.1.Hi]) (by kernel_rfl) (fun _ hd => ((hS.later hd).blk (i := 0) rfl).cells rfl)) (ocons (show Ob.ok _ Ext _ _ from fun hk w2 hd => ref03_common_ok (api_Span.mk y21.1.Lo y21.1.Hi) (api_Span.mk (IntKind.i64.wrap (0 - p4)) p4) _ rfl _ w2 (memOf_at w2) ) onil)) fun a w hF hx => ?_
   replace hS := hS.later hx
   refine SK.wi (storeK (t := 25) [(10, pb b3), (32, .bool ((ref03_common (api_Span.mk y21.1.Lo y21.1.Hi) (api_Span.mk (IntKind.i64.wrap (0 - p4)) p4)).2))] 1 0 (.agg #[iv (((ref03_common (api_Span.mk y21.1.Lo y21.1.Hi) (api_Span.mk (IntKind.i64.wrap (0 - p4)) p4)).1).Lo), iv (((ref03_common (api_Span.mk y21.1.Lo y21.1.Hi) (api_Span.mk (IntKind.i64.wrap (0 - p4)) p4)).1).Hi)]) #[iv (((ref03_common (api_Span.mk y21.1.Lo y21.1.Hi) (api_Span.mk (IntKind.i64.wrap (0 - p4)) p4)).1).Lo), iv (((ref03_common (api_Span.mk y21.1.Lo y21.1.Hi) (api_Span.mk (IntKind.i64.wrap (0 - p4)) p4)).1).Hi)] hF hS rfl (by kernel_rfl) ⟨by kernel_rfl⟩ (by kernel_rfl) (by kernel_rfl) (by kernel_rfl) (by kernel_rfl) ⟨by kernel_rfl⟩ fun w a hF hS => ?_)
   refine rn 1 10 [(10, pb b3), (11, .bool ((ref03_common (api_Span.mk y21.1.Lo y21.1.Hi) (api_Span.mk (IntKind.i64.wrap (0 - p4)) p4)).2))] hF fun a hF => ?_
   refine wfn rfl ?_
   refine wpIn_ret (fn_ret [.cell 10 25, .tmp 11] [.agg #[iv (((ref03_common (api_Span.mk y21.1.Lo y21.1.Hi) (api_Span.mk (IntKind.i64.wrap (0 - p4)) p4)).1).Lo), iv (((ref03_common (api_Span.mk y21.1.Lo y21.1.Hi) (api_Span.mk (IntKind.i64.wrap (0 - p4)) p4)).1).Hi)], .bool ((ref03_common (api_Span.mk y21.1.Lo y21.1.Hi) (api_Span.mk (IntKind.i64.wrap (0 - p4)) p4)).2)] hF rfl ⟨⟨_, rfl, loadVarN (cs := [iv (((ref03_common (api_Span.mk y21.1.Lo y21.1.Hi) (api_Span.mk (IntKind.i64.wrap (0 - p4)) p4)).1).Lo), iv (((ref03_common (api_Span.mk y21.1.Lo y21.1.Hi) (api_Span.mk (IntKind.i64.wrap (0 - p4)) p4)).1).Hi)]) (by kernel_rfl) ((hS.blk (i := 1) rfl).cells rfl)⟩, rfl, trivial⟩ ?_)
   have hr_ := Option.some.inj h
   subst hr_
   exact ⟨rfl, hS.ext⟩
  ·replace h := bif_f h hg19
   cases h

theorem fold_Window_ok (F : Nat) (p0 : pulse_Train) (p1 : Int) (p2 : Int) (res : (Int × Int)) (h : fold_Window F p0 p1 p2 = some res) (μ : Frz) (w0 : World) (hm : FrzAt μ w0) : Calls Try.prog 17 #[p0.ag, iv p1, iv p2] w0 (fun e w => e = .returned (.tuple #[iv res.1, iv res.2]) ∧ Ext w0 w) := by
 obtain ⟨hlow, hS⟩ := hm.init
 have hext := Frz.ext_refl w0.heap.size μ
 rw [fold_Window] at h
 refine fn_enterW Try.func17 rfl 30 [(0, p0.ag), (1, iv p1), (2, iv p2)] rfl rfl (by kernel_rfl) fun a w hw hF => ?_
 replace hS : St w0 [fz w0 μ] w := by rw [hw]; exact hS
 clear hw
 refine esr ?_
 refine SK.wi (boxK (t := 33) (fun b1 => [(1, iv p1), (2, iv p2), (3, pb b1)]) (p0.ag) p0.ar hF hS (by kernel_rfl) ⟨by kernel_rfl⟩ (by kernel_rfl) (fun _ => ⟨by kernel_rfl⟩) fun b1 w a hF hS => ?_)
 refine rn 2 3 [(1, iv p1), (2, iv p2), (3, pb b1)] hF fun a hF => ?_
 refine wfn rfl ?_
 refine esr ?_
 replace h := bindS h
 obtain ⟨y2, hy2, h⟩ := h
 refine rx 8 [.run [] (Instr.loadAt 33 (pb b1)) (p0.ag), .call [] 59 #[p0.ag, iv p1] (.tuple #[iv y2.1, iv y2.2])] 8 [(2, iv p2), (8, iv y2.1), (9, iv y2.2)] hF (ocons (obN (us := p0.cells) (by kernel_rfl) (fun _ hd => ((hS.later hd).blk (i := 0) rfl).cells rfl)) (ocons (show Ob.ok _ Ext _ _ from fun hk w2 hd => pulse_Reach_ok F p0 p1 _ ((fun _ => hy2) hk) _ w2 (memOf_at w2) ) onil)) fun a w hF hx => ?_
 replace hS := hS.later hx
 refine wfn rfl ?_
 refine eseq ?_
 refine wpIn_block ?_
 refine esr ?_
 refine rn 3 3 [(2, iv p2), (8, iv y2.1), (9, iv y2.2), (16, .bool (y2.2 != 0))] hF fun a hF => ?_
 refine wfn rfl ?_
 refine econd hF rfl (fun hc => ?_) (fun hc => ?_)
 ·replace h := bif_t h hc
  refine esr ?_
  refine rn 3 3 [(6, iv 0), (7, iv y2.2)] hF fun a hF => ?_
  refine wfn rfl ?_
  refine wpIn_ret (ret_block <| ret_then <| fn_ret [.tmp 6, .tmp 7] [iv 0, iv y2.2] hF rfl ⟨rfl, rfl, trivial⟩ ?_)
  have hr_ := Option.some.inj h
  subst hr_
  exact ⟨rfl, hS.ext⟩
 ·replace h := bif_f h hc
  refine esr ?_
  refine rn 7 7 [(2, iv p2), (8, iv y2.1), (20, .bool (bif (decide (p2 < 1)) then true else (decide (p2 > 2000))))] hF fun a hF => ?_
  refine wfn rfl ?_
  refine econd hF rfl (fun hc => ?_) (fun hc => ?_)
  ·replace h := bif_t h hc
   refine esr ?_
   refine rn 2 2 [(6, iv 0), (7, iv 3)] hF fun a hF => ?_
   refine wfn rfl ?_
   refine wpIn_ret (ret_block <| ret_then <| fn_ret [.tmp 6, .tmp 7] [iv 0, iv 3] hF rfl ⟨rfl, rfl, trivial⟩ ?_)
   have hr_ := Option.some.inj h
   subst hr_
   exact ⟨rfl, hS.ext⟩
  ·replace h := bif_f h hc
   refine wpIn_skip (norm_block <| norm_then <| ?_)
   refine esr ?_
   replace h := bindS h
   obtain ⟨x3, hx3, h⟩ := h
   refine rno 5 [.run [] (binOp .quo 3 (iv y2.1) (iv p2)) (iv x3)] 5 [(6, iv x3), (7, iv 0)] hF (ocons (obQuoC (fun _ => hx3)) onil) fun a hF => ?_
   refine wfn rfl ?_
   refine wpIn_ret (fn_ret [.tmp 6, .tmp 7] [iv x3, iv 0] hF rfl ⟨rfl, rfl, trivial⟩ ?_)
   have hr_ := Option.some.inj h
   subst hr_
   exact ⟨rfl, hS.ext⟩

theorem ref03_Window_ok (F : Nat) (p0 : ref02_Train) (p1 : Int) (p2 : Int) (res : (Int × Int)) (h : ref03_Window F p0 p1 p2 = some res) (μ : Frz) (w0 : World) (hm : FrzAt μ w0) : Calls Try.prog 18 #[p0.ag, iv p1, iv p2] w0 (fun e w => e = .returned (.tuple #[iv res.1, iv res.2]) ∧ Ext w0 w) := by
 obtain ⟨hlow, hS⟩ := hm.init
 have hext := Frz.ext_refl w0.heap.size μ
 rw [ref03_Window] at h
 refine fn_enterW Try.func18 rfl 28 [(0, p0.ag), (1, iv p1), (2, iv p2)] rfl rfl (by kernel_rfl) fun a w hw hF => ?_
 replace hS : St w0 [fz w0 μ] w := by rw [hw]; exact hS
 clear hw
 refine esr ?_
 refine SK.wi (boxK (t := 23) (fun b1 => [(1, iv p1), (2, iv p2), (3, pb b1)]) (p0.ag) p0.ar hF hS (by kernel_rfl) ⟨by kernel_rfl⟩ (by kernel_rfl) (fun _ => ⟨by kernel_rfl⟩) fun b1 w a hF hS => ?_)
 refine rn 2 3 [(1, iv p1), (2, iv p2), (3, pb b1)] hF fun a hF => ?_
 refine wfn rfl ?_
 refine esr ?_
 replace h := bindS h
 obtain ⟨y2, hy2, h⟩ := h
 refine rx 8 [.run [] (Instr.loadAt 23 (pb b1)) (p0.ag), .call [] 60 #[p0.ag, iv p1] (.tuple #[iv y2.1, iv y2.2])] 8 [(2, iv p2), (8, iv y2.1), (9, iv y2.2)] hF (ocons (obN (us := p0.cells) (by kernel_rfl) (fun _ hd => ((hS.later hd).blk (i := 0) rfl).cells rfl)) (ocons (show Ob.ok _ Ext _ _ from fun hk w2 hd => ref02_Reach_ok F p0 p1 _ ((fun _ => hy2) hk) _ w2 (memOf_at w2) ) onil)) fun a w hF hx => ?_
 replace hS := hS.later hx
 refine wfn rfl ?_
 refine eseq ?_
 refine esr ?_
 refine rn 2 2 [(2, iv p2), (8, iv y2.1), (9, iv y2.2), (17, .bool (y2.2 != 0))] hF fun a hF => ?_
 refine wfn rfl ?_
 refine econd hF rfl (fun hc => ?_) (fun hc => ?_)
 ·replace h := bif_t h hc
  refine esr ?_
  refine rn 3 3 [(6, iv 0), (7, iv y2.2)] hF fun a hF => ?_
  refine wfn rfl ?_
  refine wpIn_ret (ret_then <| fn_ret [.tmp 6, .tmp 7] [iv 0, iv y2.2] hF rfl ⟨rfl, rfl, trivial⟩ ?_)
  have hr_ := Option.some.inj h
  subst hr_
  exact ⟨rfl, hS.ext⟩
 ·replace h := bif_f h hc
  refine wpIn_skip (norm_then ?_)
  refine eseq ?_
  refine esr ?_
  refine rn 6 6 [(2, iv p2), (8, iv y2.1), (24, .bool (bif (decide (p2 < 1)) then true else (decide (p2 > 2000))))] hF fun a hF => ?_
  refine wfn rfl ?_
  refine econd hF rfl (fun hc => ?_) (fun hc => ?_)
  ·replace h := bif_t h hc
   refine esr ?_
   refine rn 2 2 [(6, iv 0), (7, iv 3)] hF fun a hF => ?_
   refine wfn rfl ?_
   refine wpIn_ret (ret_then <| fn_ret [.tmp 6, .tmp 7] [iv 0, iv 3] hF rfl ⟨rfl, rfl, trivial⟩ ?_)
   have hr_ := Option.some.inj h
   subst hr_
   exact ⟨rfl, hS.ext⟩
  ·replace h := bif_f h hc
   refine wpIn_skip (norm_then ?_)
   refine esr ?_
   replace h := bindS h
   obtain ⟨x3, hx3, h⟩ := h
   refine rno 5 [.run [] (binOp .quo 3 (iv y2.1) (iv p2)) (iv x3)] 5 [(6, iv x3), (7, iv 0)] hF (ocons (obQuoC (fun _ => hx3)) onil) fun a hF => ?_
   refine wfn rfl ?_
   refine wpIn_ret (fn_ret [.tmp 6, .tmp 7] [iv x3, iv 0] hF rfl ⟨rfl, rfl, trivial⟩ ?_)
   have hr_ := Option.some.inj h
   subst hr_
   exact ⟨rfl, hS.ext⟩
end Go.Proofs.Ytbhjgebjojdohaa
