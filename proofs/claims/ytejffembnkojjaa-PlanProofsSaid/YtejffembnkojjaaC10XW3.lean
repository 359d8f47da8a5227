/- Walks, written by program (wip/gen/dec.py). -/
import Derived.Test.YtejffembnkojjaaC10XD
import Derived.Test.YtejffembnkojjaaProg
import Derived.Test.YtejffembnkojjaaC10XW0
import Derived.Test.YtejffembnkojjaaC10XW1
import Derived.Test.YtejffembnkojjaaC10XW2
namespace Go.Proofs.Ytejffembnkojjaa
open Go Go.RowKit Go.Eng
set_option maxRecDepth 10000
set_option maxHeartbeats 4000000
set_option linter.unusedVariables false
set_option linter.unusedSimpArgs false
theorem plan_newDesk_ok (F : Nat) (p0 : plan_Radar) (p1 : (List plan_Job)) (res : (Option plan_desk)) (h : plan_newDesk F p0 p1 = some res) (μ : Frz) (w0 : World) (hm : FrzAt μ w0) {ad1 : Option Addr} {cap2 : Nat} (hA3 : ArrM μ 8 plan_Job.cells ad1 cap2 p1) : Calls Try.prog 56 #[p0.ag, sv ad1 p1 cap2] w0 (fun e w => ∃ (ν_ : Frz) (pv1323 : Option Addr), μ.ext w0.heap.size ν_ ∧ e = .returned (.pointer pv1323) ∧ PtM ν_ 113 Rp113 pv1323 res ∧ St w0 [fz w0 ν_] w) := by
 obtain ⟨hlow, hS⟩ := hm.init
 have hext := Frz.ext_refl w0.heap.size μ
 rw [plan_newDesk] at h
 refine fn_enterW Try.func56 rfl 58 [(0, p0.ag), (1, sv ad1 p1 cap2)] rfl rfl (by kernel_rfl) fun a w hw hF => ?_
 replace hS : St w0 [fz w0 μ] w := by rw [hw]; exact hS
 clear hw
 refine esr ?_
 refine SK.wi (boxK (t := 31) (fun b4 => [(1, sv ad1 p1 cap2), (2, pb b4)]) (p0.ag) p0.ar hF hS (by kernel_rfl) ⟨by kernel_rfl⟩ (by kernel_rfl) (fun _ => ⟨by kernel_rfl⟩) fun b4 w a hF hS => ?_)
 refine rn 1 2 [(1, sv ad1 p1 cap2), (2, pb b4)] hF fun a hF => ?_
 refine wfn rfl ?_
 refine esr ?_
 refine rn 2 2 [(1, sv ad1 p1 cap2), (2, pb b4), (12, .agg #[sv ad1 p1 cap2, .slice none 0 0, .slice none 0 0])] hF fun a hF => ?_
 refine SK.wi (boxK (t := 113) (fun b5 => [(1, sv ad1 p1 cap2), (2, pb b4), (13, pb b5)]) (.agg #[sv ad1 p1 cap2, .slice none 0 0, .slice none 0 0]) #[sv ad1 p1 cap2, .slice none 0 0, .slice none 0 0] hF hS (by kernel_rfl) ⟨by kernel_rfl⟩ (by kernel_rfl) (fun _ => ⟨by kernel_rfl⟩) fun b5 w a hF hS => ?_)
 refine rn 1 4 [(1, sv ad1 p1 cap2), (2, pb b4), (5, pb b5)] hF fun a hF => ?_
 refine wfn rfl ?_
 have hj675 := Frz.le_refl μ
 refine ecut (fun a w => ∃ (l656 : (List Int)) (l659 : (List (List Int))) (ν653 : Frz) (ad654 : Option Addr) (cap655 : Nat) (ad657 : Option Addr) (cap658 : Nat) (css660 : List (List Value)), Fr 58 [] [(5, pb b5)] a ∧ St w0 [arr 40 1 (fN 1) ad657 l659.length cap658 css660, arr 3 1 fI ad654 l656.length cap655 l656, blk b5 113 #[sv ad1 p1 cap2, sv ad654 l656 cap655, sv ad657 l659 cap658], blk b4 31 p0.ar, fz w0 ν653] w ∧ (All2 (Rp40 ν653) css660 l659) ∧ (μ.le ν653) ∧ (μ.ext w0.heap.size ν653) ∧ (FrzIn w0 ν653) ∧ plan_newDesk_K1 p1 l656 l659 = some res) ?_ ?_
 ·skip
  refine esr ?_
  refine rn 3 3 [(1, sv ad1 p1 cap2), (2, pb b4), (5, pb b5), (14, sv ad1 p1 cap2), (15, iv (ln p1)), (16, iv 0)] hF fun a hF => ?_
  refine wfn rfl ?_
  refine wpIn_block ?_
  have hj1114 := Frz.le_refl μ
  replace hS := hS.nilarr 3 1 fI
  replace hS := hS.nilarr 40 1 (fN 1)
  refine eloop (fun n_ a w => ∃ (l1106 : (List Int)) (l1109 : (List (List Int))) (x1112 : Int) (ν1103 : Frz) (ad1104 : Option Addr) (cap1105 : Nat) (ad1107 : Option Addr) (cap1108 : Nat) (css1110 : List (List Value)), Fr 58 [] [(1, sv ad1 p1 cap2), (2, pb b4), (5, pb b5), (14, sv ad1 p1 cap2), (15, iv (ln p1)), (16, iv x1112)] a ∧ St w0 [arr 40 1 (fN 1) ad1107 l1109.length cap1108 css1110, arr 3 1 fI ad1104 l1106.length cap1105 l1106, blk b5 113 #[sv ad1 p1 cap2, sv ad1104 l1106 cap1105, sv ad1107 l1109 cap1108], blk b4 31 p0.ar, fz w0 ν1103] w ∧ (All2 (Rp40 ν1103) css1110 l1109) ∧ (μ.le ν1103) ∧ (μ.ext w0.heap.size ν1103) ∧ (FrzIn w0 ν1103) ∧ plan_newDesk_L2 F p0 p1 n_ l1106 l1109 x1112 = some res) F ⟨[], [], 0, μ, none, 0, none, 0, [], hF.sub (by kernel_rfl), St.pick [0, 1, 2, 3, 4] (by decide) hS, All2.nil, hj1114, hext, hlow, h⟩ ?_
  clear hj1114
  rintro n_ a w ⟨l1106, l1109, x1112, ν1103, ad1104, cap1105, ad1107, cap1108, css1110, hF, hS, hq1111, hle1113, hext, hlow, h⟩
  rcases n_ with _ | n_
  ·cases (show (none : Option (Option plan_desk)) = some res from h)
  replace hA3 := hA3.mono hle1113
  replace hj675 := Frz.le_trans hj675 hle1113
  obtain ⟨k2, hk2⟩ : ∃ k, k = plan_newDesk_L2 F p0 p1 n_ := ⟨_, rfl⟩
  replace h : plan_newDesk_B2 F p0 p1 k2 l1106 l1109 x1112 = some res := by rw [hk2]; exact h
  rw [plan_newDesk_B2] at h
  refine esr ?_
  refine rn 1 1 [(1, sv ad1 p1 cap2), (2, pb b4), (5, pb b5), (14, sv ad1 p1 cap2), (15, iv (ln p1)), (16, iv x1112), (17, .bool (decide (x1112 < (ln p1))))] hF fun a hF => ?_
  refine wfn rfl ?_
  refine eseq ?_
  refine econd hF rfl (fun hc => ?_) (fun hc => ?_)
  ·replace h := bif_t h hc
   refine wpIn_skip (norm_then ?_)
   have hj1224 := Frz.le_refl ν1103
   refine ecut (fun a w => ∃ (l1216 : (List Int)) (l1219 : (List (List Int))) (ν1213 : Frz) (ad1214 : Option Addr) (cap1215 : Nat) (ad1217 : Option Addr) (cap1218 : Nat) (css1220 : List (List Value)), Fr 58 [] [(1, sv ad1 p1 cap2), (2, pb b4), (5, pb b5), (14, sv ad1 p1 cap2), (15, iv (ln p1)), (16, iv x1112)] a ∧ St w0 [arr 40 1 (fN 1) ad1217 l1219.length cap1218 css1220, arr 3 1 fI ad1214 l1216.length cap1215 l1216, blk b5 113 #[sv ad1 p1 cap2, sv ad1214 l1216 cap1215, sv ad1217 l1219 cap1218], blk b4 31 p0.ar, fz w0 ν1213] w ∧ (All2 (Rp40 ν1213) css1220 l1219) ∧ (ν1103.le ν1213) ∧ (μ.ext w0.heap.size ν1213) ∧ (FrzIn w0 ν1213) ∧ plan_newDesk_K3 x1112 k2 l1216 l1219 = some res) ?_ ?_
   ·skip
    refine wpIn_block ?_
    refine esr ?_
    replace h := bindS h
    obtain ⟨u1225, hu1225, h⟩ := h
    refine rno 2 [.run [] (Instr.indexAt 43 (sv ad1 p1 cap2) (iv x1112)) (.pointer (some (slAddr ad1 x1112 8))), .run [] (Instr.loadAt 34 (.pointer (some (slAddr ad1 x1112 8)))) (u1225.ag)] 2 [(1, sv ad1 p1 cap2), (2, pb b4), (5, pb b5), (14, sv ad1 p1 cap2), (15, iv (ln p1)), (16, iv x1112), (19, u1225.ag)] hF (ocons (obIdxQ (hA3 _ (hS.frz (i := 4) rfl hlow)) (by kernel_rfl) (fun _ => hu1225)) (ocons (obElNQ (m := 8) (i := x1112) (us := u1225.cells) 0 plan_Job.cells_len (fun _ hd => (hA3 _ ((hS.at_ hd).frz (i := 4) rfl hlow))) (by kernel_rfl) (fun _ => hu1225) ⟨rfl, rfl⟩) onil)) fun a hF => ?_
    refine SK.wi (allocK (t := 34) (fun b1226 => [(1, sv ad1 p1 cap2), (2, pb b4), (5, pb b5), (7, pb b1226), (14, sv ad1 p1 cap2), (15, iv (ln p1)), (16, iv x1112), (19, u1225.ag)]) #[iv 0, iv 0, iv 0, iv 0, iv 0, iv 0, iv 0, iv 0] hF hS (by kernel_rfl) ⟨by kernel_rfl⟩ (by kernel_rfl) (fun _ => ⟨by kernel_rfl⟩) fun b1226 w a hF hS => ?_)
    refine SK.wi (storeK (t := 34) [(1, sv ad1 p1 cap2), (2, pb b4), (5, pb b5), (7, pb b1226), (14, sv ad1 p1 cap2), (15, iv (ln p1)), (16, iv x1112)] 0 0 (u1225.ag) u1225.ar hF hS rfl (by kernel_rfl) ⟨by kernel_rfl⟩ (by kernel_rfl) (by kernel_rfl) (by kernel_rfl) (by kernel_rfl) ⟨by kernel_rfl⟩ fun w a hF hS => ?_)
    refine wfn rfl ?_
    refine eseq ?_
    replace h := bindS h
    obtain ⟨y1228, hy1228, h⟩ := h
    replace h := bindS h
    obtain ⟨l1230, hl1230, h⟩ := h
    refine region_treeW 12 [7, 8, 9] _ (D := fun w => St w0 [blk b1226 34 u1225.ar, arr 40 1 (fN 1) ad1107 l1109.length cap1108 css1110, blk b5 113 #[sv ad1 p1 cap2, sv ad1104 l1106 cap1105, sv ad1107 l1109 cap1108], blk b4 31 p0.ar] w ∧ FrzAt ν1103 w) (by kernel_rfl) (by kernel_rfl) hF.size (fun w hx => ?_) (fun _ _ h => h)
    replace hS := hS.later hx
    refine ⟨⟨St.pick [0, 1, 3, 4] (by decide) hS, hS.frz (i := 5) rfl hlow⟩, ?_⟩
    have hcl1237 := Frz.le_refl ν1103
    refine WT.s [0, 1, 2, 3, 4, 5, 6] [7] (by kernel_rfl) (by kernel_rfl) ?_
    refine runC (rest := []) (obs := [.run [] (Instr.loadAt 40 (.pointer (some ⟨b5, 1, none⟩))) (sv ad1104 l1106 cap1105), .run [] (Instr.loadAt 31 (pb b4)) (p0.ag), .run [] (Instr.loadAt 34 (pb b1226)) (u1225.ag)]) [0, 1, 2, 3, 4, 5, 6] [(1, sv ad1 p1 cap2), (2, pb b4), (5, pb b5), (7, pb b1226), (14, sv ad1 p1 cap2), (15, iv (ln p1)), (16, iv x1112), (20, pb b5), (24, sv ad1104 l1106 cap1105), (25, p0.ag), (26, u1225.ag)] hF (by kernel_rfl) (by kernel_rfl) (ocons (ob1 (by kernel_rfl) (fun _ hd => hd.1.cell (i := 2) (j := 1) rfl rfl)) (ocons (obN (us := p0.cells) (by kernel_rfl) (fun _ hd => (hd.1.blk (i := 3) rfl).cells rfl)) (ocons (obN (us := u1225.cells) (by kernel_rfl) (fun _ hd => (hd.1.blk (i := 0) rfl).cells rfl)) onil))) ⟨by kernel_rfl⟩ fun a hF => ?_
    refine WRun.fin ?_
    refine all_cons ?_ (all_nil)
    refine callK (f := 44) (args := #[p0.ag, u1225.ag]) (R := fun v w2 => v = iv y1228 ∧ Ext w w2) (fun v1238 => [(1, sv ad1 p1 cap2), (2, pb b4), (5, pb b5), (7, pb b1226), (14, sv ad1 p1 cap2), (15, iv (ln p1)), (16, iv x1112), (20, pb b5), (24, sv ad1104 l1106 cap1105), (27, v1238)]) hF (by kernel_rfl) ⟨by kernel_rfl⟩ (Calls.mono (plan_Radar_time_ok F p0 u1225 _ hy1228 (memOf w) w (memOf_at w) ) (fun e w2 h => ⟨_, h.1, rfl, h.2⟩)) (fun _ => ⟨by kernel_rfl⟩) ?_
    rintro v1238 w a ⟨rfl, hx⟩ hF
    replace hS := hS.later hx
    refine ⟨⟨St.pick [0, 1, 3, 4] (by decide) hS, (hS.frz (i := 5) rfl hlow)⟩, ?_⟩
    refine WT.s [] [8] (by kernel_rfl) (by kernel_rfl) ?_
    refine WRun.fin ?_
    refine all_cons ?_ (all_nil)
    refine litK (e := 3) (sz := 1) (f := fI) (t := 40) (len := 1) (fun b1239 => [(1, sv ad1 p1 cap2), (2, pb b4), (5, pb b5), (7, pb b1226), (14, sv ad1 p1 cap2), (15, iv (ln p1)), (16, iv x1112), (20, pb b5), (24, sv ad1104 l1106 cap1105), (28, sb b1239 1)]) #[(0, iv y1228)] #[iv y1228] ([y1228]) hF hS (by kernel_rfl) ⟨by kernel_rfl⟩ (by kernel_rfl) fI_len rfl rfl (by kernel_rfl) (fun _ => ⟨by kernel_rfl⟩) fun b1239 w a hF hS => ⟨⟨St.pick [1, 2, 4, 5] (by decide) hS, (hS.frz (i := 6) rfl hlow)⟩, ?_⟩
    refine WT.s [] [9] (by kernel_rfl) (by kernel_rfl) ?_
    refine WRun.fin ?_
    refine all_cons ?_ (all_nil)
    refine appK (t := 40) (ty := 40) (bytes := 8) (l := l1106) (l' := ([y1228])) (fun ad1240 cap1241 => [(1, sv ad1 p1 cap2), (2, pb b4), (5, pb b5), (7, pb b1226), (14, sv ad1 p1 cap2), (15, iv (ln p1)), (16, iv x1112), (20, pb b5), (29, sv ad1240 l1230 cap1241)]) 3 hF hS rfl (by kernel_rfl) ⟨by kernel_rfl⟩ (by kernel_rfl) (hS.arr (i := 0) rfl) (fun _ _ => rfl) hl1230 (fun _ _ => ⟨by kernel_rfl⟩) fun ad1240 cap1241 w a hF hS => ⟨⟨St.pick [1, 2, 4, 5] (by decide) hS, (hS.frz (i := 6) rfl hlow)⟩, ?_⟩
    refine WT.z [10, 11] (by kernel_rfl) ?_
    refine runC (rest := []) (obs := []) [10, 11] [(1, sv ad1 p1 cap2), (2, pb b4), (5, pb b5), (7, pb b1226), (14, sv ad1 p1 cap2), (15, iv (ln p1)), (16, iv x1112), (29, sv ad1240 l1230 cap1241), (31, .pointer (some ⟨b5, 1, none⟩))] hF (by kernel_rfl) (by kernel_rfl) onil ⟨by kernel_rfl⟩ fun a hF => ?_
    refine WRun.fin ?_
    refine SK.wi (storeK (t := 40) [(1, sv ad1 p1 cap2), (2, pb b4), (5, pb b5), (7, pb b1226), (14, sv ad1 p1 cap2), (15, iv (ln p1)), (16, iv x1112)] 4 1 (sv ad1240 l1230 cap1241) #[sv ad1 p1 cap2, sv ad1240 l1230 cap1241, sv ad1107 l1109 cap1108] hF hS rfl (by kernel_rfl) ⟨by kernel_rfl⟩ (by kernel_rfl) (by kernel_rfl) (by kernel_rfl) (by kernel_rfl) ⟨by kernel_rfl⟩ fun w a hF hS => ?_)
    refine wfn rfl ?_
    refine esr ?_
    refine rn 1 1 [(1, sv ad1 p1 cap2), (2, pb b4), (5, pb b5), (7, pb b1226), (8, .slice none 0 0), (14, sv ad1 p1 cap2), (15, iv (ln p1)), (16, iv x1112)] hF fun a hF => ?_
    refine wfn rfl ?_
    refine ecut (fun a w => ∃ (l1277 : (List Int)) (ad1275 : Option Addr) (cap1276 : Nat), Fr 58 [] [(1, sv ad1 p1 cap2), (2, pb b4), (5, pb b5), (8, sv ad1275 l1277 cap1276), (14, sv ad1 p1 cap2), (15, iv (ln p1)), (16, iv x1112)] a ∧ St w0 [arr 3 1 fI ad1275 l1277.length cap1276 l1277, arr 3 1 fI (some ⟨b1239, 0, none⟩) ([y1228]).length 1 ([y1228]), blk b1226 34 u1225.ar, arr 40 1 (fN 1) ad1107 l1109.length cap1108 css1110, arr 3 1 fI ad1240 l1230.length cap1241 l1230, blk b5 113 #[sv ad1 p1 cap2, sv ad1240 l1230 cap1241, sv ad1107 l1109 cap1108], blk b4 31 p0.ar, fz w0 ν1103] w ∧ plan_newDesk_K4 l1109 x1112 k2 l1230 l1277 = some res) ?_ ?_
    ·skip
     refine esr ?_
     refine rn 3 3 [(1, sv ad1 p1 cap2), (2, pb b4), (5, pb b5), (7, pb b1226), (8, .slice none 0 0), (14, sv ad1 p1 cap2), (15, iv (ln p1)), (16, iv x1112), (32, sv ad1 p1 cap2), (33, iv (ln p1)), (34, iv 0)] hF fun a hF => ?_
     refine wfn rfl ?_
     refine wpIn_block ?_
     replace hS := hS.nilarr 3 1 fI
     refine eloop (fun n_ a w => ∃ (x1310 : Int) (l1313 : (List Int)) (ad1311 : Option Addr) (cap1312 : Nat), Fr 58 [] [(1, sv ad1 p1 cap2), (2, pb b4), (5, pb b5), (7, pb b1226), (8, sv ad1311 l1313 cap1312), (14, sv ad1 p1 cap2), (15, iv (ln p1)), (16, iv x1112), (32, sv ad1 p1 cap2), (33, iv (ln p1)), (34, iv x1310)] a ∧ St w0 [arr 3 1 fI ad1311 l1313.length cap1312 l1313, arr 3 1 fI (some ⟨b1239, 0, none⟩) ([y1228]).length 1 ([y1228]), blk b1226 34 u1225.ar, arr 40 1 (fN 1) ad1107 l1109.length cap1108 css1110, arr 3 1 fI ad1240 l1230.length cap1241 l1230, blk b5 113 #[sv ad1 p1 cap2, sv ad1240 l1230 cap1241, sv ad1107 l1109 cap1108], blk b4 31 p0.ar, fz w0 ν1103] w ∧ plan_newDesk_L5 F p0 p1 l1109 x1112 k2 u1225 l1230 n_ x1310 l1313 = some res) F ⟨0, [], none, 0, hF.sub (by kernel_rfl), St.pick [0, 1, 2, 3, 4, 5, 6, 7] (by decide) hS, h⟩ ?_
     rintro n_ a w ⟨x1310, l1313, ad1311, cap1312, hF, hS, h⟩
     rcases n_ with _ | n_
     ·cases (show (none : Option (Option plan_desk)) = some res from h)
     obtain ⟨k5, hk5⟩ : ∃ k, k = plan_newDesk_L5 F p0 p1 l1109 x1112 k2 u1225 l1230 n_ := ⟨_, rfl⟩
     replace h : plan_newDesk_B5 F p0 p1 l1109 x1112 k2 u1225 l1230 k5 x1310 l1313 = some res := by rw [hk5]; exact h
     rw [plan_newDesk_B5] at h
     refine esr ?_
     refine rn 1 1 [(1, sv ad1 p1 cap2), (2, pb b4), (5, pb b5), (7, pb b1226), (8, sv ad1311 l1313 cap1312), (14, sv ad1 p1 cap2), (15, iv (ln p1)), (16, iv x1112), (32, sv ad1 p1 cap2), (33, iv (ln p1)), (34, iv x1310), (35, .bool (decide (x1310 < (ln p1))))] hF fun a hF => ?_
     refine wfn rfl ?_
     refine eseq ?_
     refine econd hF rfl (fun hc => ?_) (fun hc => ?_)
     ·replace h := bif_t h hc
      refine wpIn_skip (norm_then ?_)
      refine eseq ?_
      refine wpIn_block ?_
      refine esr ?_
      replace h := bindS h
      obtain ⟨u1315, hu1315, h⟩ := h
      refine rno 2 [.run [] (Instr.indexAt 43 (sv ad1 p1 cap2) (iv x1310)) (.pointer (some (slAddr ad1 x1310 8))), .run [] (Instr.loadAt 34 (.pointer (some (slAddr ad1 x1310 8)))) (u1315.ag)] 2 [(1, sv ad1 p1 cap2), (2, pb b4), (5, pb b5), (7, pb b1226), (8, sv ad1311 l1313 cap1312), (14, sv ad1 p1 cap2), (15, iv (ln p1)), (16, iv x1112), (32, sv ad1 p1 cap2), (33, iv (ln p1)), (34, iv x1310), (37, u1315.ag)] hF (ocons (obIdxQ (hA3 _ (hS.frz (i := 7) rfl hlow)) (by kernel_rfl) (fun _ => hu1315)) (ocons (obElNQ (m := 8) (i := x1310) (us := u1315.cells) 0 plan_Job.cells_len (fun _ hd => (hA3 _ ((hS.at_ hd).frz (i := 7) rfl hlow))) (by kernel_rfl) (fun _ => hu1315) ⟨rfl, rfl⟩) onil)) fun a hF => ?_
      refine SK.wi (allocK (t := 34) (fun b1316 => [(1, sv ad1 p1 cap2), (2, pb b4), (5, pb b5), (7, pb b1226), (8, sv ad1311 l1313 cap1312), (10, pb b1316), (14, sv ad1 p1 cap2), (15, iv (ln p1)), (16, iv x1112), (32, sv ad1 p1 cap2), (33, iv (ln p1)), (34, iv x1310), (37, u1315.ag)]) #[iv 0, iv 0, iv 0, iv 0, iv 0, iv 0, iv 0, iv 0] hF hS (by kernel_rfl) ⟨by kernel_rfl⟩ (by kernel_rfl) (fun _ => ⟨by kernel_rfl⟩) fun b1316 w a hF hS => ?_)
      refine SK.wi (storeK (t := 34) [(1, sv ad1 p1 cap2), (2, pb b4), (5, pb b5), (7, pb b1226), (8, sv ad1311 l1313 cap1312), (10, pb b1316), (14, sv ad1 p1 cap2), (15, iv (ln p1)), (16, iv x1112), (32, sv ad1 p1 cap2), (33, iv (ln p1)), (34, iv x1310)] 0 0 (u1315.ag) u1315.ar hF hS rfl (by kernel_rfl) ⟨by kernel_rfl⟩ (by kernel_rfl) (by kernel_rfl) (by kernel_rfl) (by kernel_rfl) ⟨by kernel_rfl⟩ fun w a hF hS => ?_)
      refine wfn rfl ?_
      refine WI.region ?_
      replace h := bindS h
      obtain ⟨y1317, hy1317, h⟩ := h
      refine rx 5 [.run [] (Instr.loadAt 31 (pb b4)) (p0.ag), .run [] (Instr.loadAt 34 (pb b1226)) (u1225.ag), .run [] (Instr.loadAt 34 (pb b1316)) (u1315.ag), .call [] 69 #[p0.ag, u1225.ag, u1315.ag] (iv y1317)] 5 [(1, sv ad1 p1 cap2), (2, pb b4), (5, pb b5), (7, pb b1226), (8, sv ad1311 l1313 cap1312), (14, sv ad1 p1 cap2), (15, iv (ln p1)), (16, iv x1112), (32, sv ad1 p1 cap2), (33, iv (ln p1)), (34, iv x1310), (38, sv ad1311 l1313 cap1312), (42, iv y1317)] hF (ocons (obN (us := p0.cells) (by kernel_rfl) (fun _ hd => ((hS.later hd).blk (i := 7) rfl).cells rfl)) (ocons (obN (us := u1225.cells) (by kernel_rfl) (fun _ hd => ((hS.later hd).blk (i := 3) rfl).cells rfl)) (ocons (obN (us := u1315.cells) (by kernel_rfl) (fun _ hd => ((hS.later hd).blk (i := 0) rfl).cells rfl)) (ocons (show Ob.ok _ Ext _ _ from fun hk w2 hd => plan_Radar_move_ok F p0 u1225 u1315 _ ((fun _ => hy1317) hk) _ w2 (memOf_at w2) ) onil)))) fun a w hF hx => ?_
      replace hS := hS.later hx
      refine SK.wi (litK (e := 3) (sz := 1) (f := fI) (t := 40) (len := 1) (fun b1318 => [(1, sv ad1 p1 cap2), (2, pb b4), (5, pb b5), (7, pb b1226), (8, sv ad1311 l1313 cap1312), (14, sv ad1 p1 cap2), (15, iv (ln p1)), (16, iv x1112), (32, sv ad1 p1 cap2), (33, iv (ln p1)), (34, iv x1310), (38, sv ad1311 l1313 cap1312), (43, sb b1318 1)]) #[(0, iv y1317)] #[iv y1317] ([y1317]) hF hS (by kernel_rfl) ⟨by kernel_rfl⟩ (by kernel_rfl) fI_len rfl rfl (by kernel_rfl) (fun _ => ⟨by kernel_rfl⟩) fun b1318 w a hF hS => ?_)
      replace h := bindS h
      obtain ⟨l1319, hl1319, h⟩ := h
      refine SK.wi (appK (t := 40) (ty := 40) (bytes := 8) (l := l1313) (l' := ([y1317])) (fun ad1320 cap1321 => [(1, sv ad1 p1 cap2), (2, pb b4), (5, pb b5), (7, pb b1226), (8, sv ad1311 l1313 cap1312), (14, sv ad1 p1 cap2), (15, iv (ln p1)), (16, iv x1112), (32, sv ad1 p1 cap2), (33, iv (ln p1)), (34, iv x1310), (44, sv ad1320 l1319 cap1321)]) 2 hF hS rfl (by kernel_rfl) ⟨by kernel_rfl⟩ (by kernel_rfl) (hS.arr (i := 0) rfl) (fun _ _ => rfl) hl1319 (fun _ _ => ⟨by kernel_rfl⟩) fun ad1320 cap1321 w a hF hS => ?_)
      refine rn 1 8 [(1, sv ad1 p1 cap2), (2, pb b4), (5, pb b5), (7, pb b1226), (8, sv ad1320 l1319 cap1321), (14, sv ad1 p1 cap2), (15, iv (ln p1)), (16, iv x1112), (32, sv ad1 p1 cap2), (33, iv (ln p1)), (34, iv x1310)] hF fun a hF => ?_
      refine WI.fin rfl (norm_block <| norm_then <| ?_)
      refine WI.region ?_
      replace h := bindS h
      obtain ⟨x1322, hx1322, h⟩ := h
      refine rno 2 [.run [] (binOp .add 3 (iv x1310) (iv 1)) (iv x1322)] 2 [(1, sv ad1 p1 cap2), (2, pb b4), (5, pb b5), (7, pb b1226), (8, sv ad1320 l1319 cap1321), (14, sv ad1 p1 cap2), (15, iv (ln p1)), (16, iv x1112), (32, sv ad1 p1 cap2), (33, iv (ln p1)), (34, iv x1322)] hF (ocons (obAddC (fun _ => hx1322)) onil) fun a hF => ?_
      refine wfn rfl ?_
      rw [hk5] at h
      exact ⟨n_, Nat.lt_succ_self _, x1322, l1319, ad1320, cap1321, hF.sub (by kernel_rfl), St.pick [2, 3, 4, 5, 6, 7, 8, 9] (by decide) hS, h⟩
     ·replace h := bif_f h hc
      refine wpIn_exit (exit_then <| exit_then <| exit_hit <| norm_then ?_)
      exact ⟨l1313, ad1311, cap1312, hF.sub (by kernel_rfl), St.pick [0, 1, 2, 3, 4, 5, 6, 7] (by decide) hS, h⟩
    rintro a w ⟨l1277, ad1275, cap1276, hF, hS, h⟩
    rw [plan_newDesk_K4] at h
    refine WI.region ?_
    refine rno 6 [.run [] (Instr.loadAt 111 (.pointer (some ⟨b5, 2, none⟩))) (sv ad1107 l1109 cap1108)] 6 [(1, sv ad1 p1 cap2), (2, pb b4), (5, pb b5), (14, sv ad1 p1 cap2), (15, iv (ln p1)), (16, iv x1112), (46, pb b5), (50, sv ad1107 l1109 cap1108), (51, sv ad1275 l1277 cap1276)] hF (ocons (ob1 (by kernel_rfl) (fun _ hd => (hS.at_ hd).cell (i := 5) (j := 2) rfl rfl)) onil) fun a hF => ?_
    obtain ⟨ν1279, hx1280, hlow, hS, hz1281⟩ := hS.freeze (i := 7) (j := 0) rfl rfl (by decide) hlow
    replace hA3 := hA3.mono hx1280.1
    replace hq1111 := All2.mono Rp40.mono hx1280.1 hq1111
    replace hj675 := Frz.le_trans hj675 hx1280.1
    replace hle1113 := Frz.le_trans hle1113 hx1280.1
    replace hj1224 := Frz.le_trans hj1224 hx1280.1
    replace hext := Frz.ext_trans hext hx1280
    replace hS : St w0 [arr 3 1 fI (some ⟨b1239, 0, none⟩) ([y1228]).length 1 ([y1228]), blk b1226 34 u1225.ar, arr 40 1 (fN 1) ad1107 l1109.length cap1108 css1110, arr 3 1 fI ad1240 l1230.length cap1241 l1230, blk b5 113 #[sv ad1 p1 cap2, sv ad1240 l1230 cap1241, sv ad1107 l1109 cap1108], blk b4 31 p0.ar, fz w0 ν1279] w := hS
    have hA1282 := ArrM.of_arr hz1281
    have hq1283 : All2 (Rp40 ν1279) ([[sv ad1275 l1277 cap1276]] : List (List Value)) [l1277] := (All2.cons ⟨ad1275, cap1276, rfl, hA1282⟩ All2.nil)
    refine SK.wi (litQK (e := 40) (sz := 1) (f := fN 1) (t := 111) (len := 1) (fun b1278 => [(1, sv ad1 p1 cap2), (2, pb b4), (5, pb b5), (14, sv ad1 p1 cap2), (15, iv (ln p1)), (16, iv x1112), (46, pb b5), (50, sv ad1107 l1109 cap1108), (52, sb b1278 1)]) #[(0, sv ad1275 l1277 cap1276)] #[sv ad1275 l1277 cap1276] ([[sv ad1275 l1277 cap1276]] : List (List Value)) ([l1277]) hF hS (by kernel_rfl) ⟨by kernel_rfl⟩ (by kernel_rfl) (fN_len 1) rfl rfl rfl (by kernel_rfl) (fun _ => ⟨by kernel_rfl⟩) fun b1278 w a hF hS => ?_)
    replace h := bindS h
    obtain ⟨l1284, hl1284, h⟩ := h
    have hq1288 : All2 (Rp40 ν1279) (css1110 ++ ([[sv ad1275 l1277 cap1276]] : List (List Value))) l1284 := by rw [(apd_some hl1284).1]; exact All2.app hq1111 hq1283
    refine SK.wi (appQK (t := 111) (ty := 111) (bytes := 24) (c := css1110) (c' := ([[sv ad1275 l1277 cap1276]] : List (List Value))) (l := l1109) (l' := ([l1277])) (fun ad1285 cap1286 => [(1, sv ad1 p1 cap2), (2, pb b4), (5, pb b5), (14, sv ad1 p1 cap2), (15, iv (ln p1)), (16, iv x1112), (46, pb b5), (53, sv ad1285 l1284 cap1286)]) 3 hF hS rfl (by kernel_rfl) ⟨by kernel_rfl⟩ (by kernel_rfl) (hS.arr (i := 0) rfl) (ArrQ.one hq1283 Rp40.one) hl1284 (fun _ _ => ⟨by kernel_rfl⟩) fun ad1285 cap1286 w a hF hS => ?_)
    refine rn 2 10 [(1, sv ad1 p1 cap2), (2, pb b4), (5, pb b5), (14, sv ad1 p1 cap2), (15, iv (ln p1)), (16, iv x1112), (53, sv ad1285 l1284 cap1286), (55, .pointer (some ⟨b5, 2, none⟩))] hF fun a hF => ?_
    refine SK.wi (storeK (t := 111) [(1, sv ad1 p1 cap2), (2, pb b4), (5, pb b5), (14, sv ad1 p1 cap2), (15, iv (ln p1)), (16, iv x1112)] 5 2 (sv ad1285 l1284 cap1286) #[sv ad1 p1 cap2, sv ad1240 l1230 cap1241, sv ad1285 l1284 cap1286] hF hS rfl (by kernel_rfl) ⟨by kernel_rfl⟩ (by kernel_rfl) (by kernel_rfl) (by kernel_rfl) (by kernel_rfl) ⟨by kernel_rfl⟩ fun w a hF hS => ?_)
    refine WI.fin rfl (norm_block <| norm_then <| ?_)
    exact ⟨l1230, l1284, ν1279, ad1240, cap1241, ad1285, cap1286, (css1110 ++ ([[sv ad1275 l1277 cap1276]] : List (List Value))), hF.sub (by kernel_rfl), St.pick [3, 4, 5, 6, 7] (by decide) hS, hq1288, hj1224, hext, hlow, h⟩
   clear hj1224
   rintro a w ⟨l1216, l1219, ν1213, ad1214, cap1215, ad1217, cap1218, css1220, hF, hS, hq1221, hle1222, hext, hlow, h⟩
   replace hA3 := hA3.mono hle1222
   replace hq1111 := All2.mono Rp40.mono hle1222 hq1111
   replace hj675 := Frz.le_trans hj675 hle1222
   replace hle1113 := Frz.le_trans hle1113 hle1222
   rw [plan_newDesk_K3] at h
   refine WI.region ?_
   replace h := bindS h
   obtain ⟨x1223, hx1223, h⟩ := h
   refine rno 2 [.run [] (binOp .add 3 (iv x1112) (iv 1)) (iv x1223)] 2 [(1, sv ad1 p1 cap2), (2, pb b4), (5, pb b5), (14, sv ad1 p1 cap2), (15, iv (ln p1)), (16, iv x1223)] hF (ocons (obAddC (fun _ => hx1223)) onil) fun a hF => ?_
   refine wfn rfl ?_
   rw [hk2] at h
   exact ⟨n_, Nat.lt_succ_self _, l1216, l1219, x1223, ν1213, ad1214, cap1215, ad1217, cap1218, css1220, hF.sub (by kernel_rfl), St.pick [0, 1, 2, 3, 4] (by decide) hS, hq1221, hle1113, hext, hlow, h⟩
  ·replace h := bif_f h hc
   refine wpIn_exit (exit_then <| exit_then <| exit_hit <| norm_then ?_)
   exact ⟨l1106, l1109, ν1103, ad1104, cap1105, ad1107, cap1108, css1110, hF.sub (by kernel_rfl), St.pick [0, 1, 2, 3, 4] (by decide) hS, hq1111, hj675, hext, hlow, h⟩
 clear hj675
 rintro a w ⟨l656, l659, ν653, ad654, cap655, ad657, cap658, css660, hF, hS, hq661, hle662, hext, hlow, h⟩
 replace hA3 := hA3.mono hle662
 rw [plan_newDesk_K1] at h
 refine esr ?_
 refine rn 2 2 [(4, pb b5)] hF fun a hF => ?_
 refine wfn rfl ?_
 refine wpIn_ret (fn_ret [.tmp 4] [pb b5] hF rfl ⟨rfl, trivial⟩ ?_)
 obtain ⟨ν663, hx664, hlow, hS, hz665⟩ := hS.freeze (i := 4) (j := 1) rfl rfl (by decide) hlow
 replace hA3 := hA3.mono hx664.1
 replace hq661 := All2.mono Rp40.mono hx664.1 hq661
 replace hle662 := Frz.le_trans hle662 hx664.1
 replace hext := Frz.ext_trans hext hx664
 replace hS : St w0 [arr 40 1 (fN 1) ad657 l659.length cap658 css660, blk b5 113 #[sv ad1 p1 cap2, sv ad654 l656 cap655, sv ad657 l659 cap658], blk b4 31 p0.ar, fz w0 ν663] w := hS
 have hA666 := ArrM.of_arr hz665
 obtain ⟨ν667, hx668, hlow, hS, hz669⟩ := hS.freeze (i := 3) (j := 0) rfl rfl (by decide) hlow
 replace hA3 := hA3.mono hx668.1
 replace hq661 := All2.mono Rp40.mono hx668.1 hq661
 replace hA666 := hA666.mono hx668.1
 replace hle662 := Frz.le_trans hle662 hx668.1
 replace hext := Frz.ext_trans hext hx668
 replace hS : St w0 [blk b5 113 #[sv ad1 p1 cap2, sv ad654 l656 cap655, sv ad657 l659 cap658], blk b4 31 p0.ar, fz w0 ν667] w := hS
 have hA670 := ArrQ.of_arr (l := l659) hz669 hq661 Rp40.mono (Frz.le_refl _)
 obtain ⟨ν671, hx672, hlow, hS, hz673⟩ := hS.freeze (i := 2) (j := 0) rfl rfl (by decide) hlow
 replace hA3 := hA3.mono hx672.1
 replace hA666 := hA666.mono hx672.1
 replace hA670 := hA670.mono Rp40.mono hx672.1
 replace hle662 := Frz.le_trans hle662 hx672.1
 replace hext := Frz.ext_trans hext hx672
 replace hS : St w0 [blk b4 31 p0.ar, fz w0 ν671] w := hS
 have hB674 : BlkM ν671 b5 113 #[sv ad1 p1 cap2, sv ad654 l656 cap655, sv ad657 l659 cap658] := hz673
 have hr_ := Option.some.inj h
 subst hr_
 exact ⟨ν671, (some ⟨b5, 0, none⟩), hext, rfl, (PtM.mk (cs := [sv ad1 p1 cap2, sv ad654 l656 cap655, sv ad657 l659 cap658]) hB674 ⟨ad1, cap2, ad654, cap655, ad657, cap658, css660, rfl, hA3, hA666, hA670⟩), St.pick [1] (by decide) hS⟩

theorem pplan_desk_of_ok (F : Nat) (p0 : (Option plan_desk)) (p1 : (List Int)) (res : plan_line) (h : pplan_desk_of F p0 p1 = some res) (μ : Frz) (w0 : World) (hm : FrzAt μ w0) {pv1 : Option Addr} {ad3 : Option Addr} {cap4 : Nat} (hA2 : PtM μ 113 Rp113 pv1 p0) (hA5 : ArrM μ 1 fI ad3 cap4 p1) : Calls Try.prog 76 #[.pointer pv1, sv ad3 p1 cap4] w0 (fun e w => ∃ (ν_ : Frz) (pv169 : Option Addr) (ad170 : Option Addr) (cap171 : Nat) (ad172 : Option Addr) (cap173 : Nat), μ.ext w0.heap.size ν_ ∧ e = .returned (.agg #[.pointer pv169, sv ad170 res.jobs cap171, sv ad172 res.at_ cap173, iv res.done]) ∧ PtM ν_ 113 Rp113 pv169 res.desk ∧ ArrM ν_ 1 fI ad170 cap171 res.jobs ∧ ArrM ν_ 1 fI ad172 cap173 res.at_ ∧ St w0 [fz w0 ν_] w) := by
 obtain ⟨hlow, hS⟩ := hm.init
 have hext := Frz.ext_refl w0.heap.size μ
 rw [pplan_desk_of] at h
 refine fn_enterW Try.func76 rfl 21 [(0, .pointer pv1), (1, sv ad3 p1 cap4)] rfl rfl (by kernel_rfl) fun a w hw hF => ?_
 replace hS : St w0 [fz w0 μ] w := by rw [hw]; exact hS
 clear hw
 refine esr ?_
 refine SK.wi (allocK (t := 102) (fun b6 => [(0, .pointer pv1), (1, sv ad3 p1 cap4), (4, pb b6)]) #[.pointer none, .slice none 0 0, .slice none 0 0, iv 0] hF hS (by kernel_rfl) ⟨by kernel_rfl⟩ (by kernel_rfl) (fun _ => ⟨by kernel_rfl⟩) fun b6 w a hF hS => ?_)
 refine wfn rfl ?_
 refine esr ?_
 refine rn 2 2 [(1, sv ad3 p1 cap4), (4, pb b6), (9, .agg #[.pointer pv1, .slice none 0 0, .slice none 0 0, iv 0])] hF fun a hF => ?_
 refine SK.wi (allocK (t := 102) (fun b7 => [(1, sv ad3 p1 cap4), (4, pb b6), (5, pb b7), (9, .agg #[.pointer pv1, .slice none 0 0, .slice none 0 0, iv 0])]) #[.pointer none, .slice none 0 0, .slice none 0 0, iv 0] hF hS (by kernel_rfl) ⟨by kernel_rfl⟩ (by kernel_rfl) (fun _ => ⟨by kernel_rfl⟩) fun b7 w a hF hS => ?_)
 refine SK.wi (storeK (t := 102) [(1, sv ad3 p1 cap4), (4, pb b6), (5, pb b7)] 0 0 (.agg #[.pointer pv1, .slice none 0 0, .slice none 0 0, iv 0]) #[.pointer pv1, .slice none 0 0, .slice none 0 0, iv 0] hF hS rfl (by kernel_rfl) ⟨by kernel_rfl⟩ (by kernel_rfl) (by kernel_rfl) (by kernel_rfl) (by kernel_rfl) ⟨by kernel_rfl⟩ fun w a hF hS => ?_)
 refine wfn rfl ?_
 have hj95 := Frz.le_refl μ
 refine ecut (fun a w => ∃ (q83 : (Option plan_desk)) (l87 : (List Int)) (l91 : (List Int)) (x93 : Int) (ν81 : Frz) (pv82 : Option Addr) (ad85 : Option Addr) (cap86 : Nat) (ad89 : Option Addr) (cap90 : Nat), Fr 21 [] [(4, pb b6), (5, pb b7)] a ∧ St w0 [blk b7 102 #[.pointer pv82, sv ad85 l87 cap86, sv ad89 l91 cap90, iv x93], blk b6 102 #[.pointer none, .slice none 0 0, .slice none 0 0, iv 0], fz w0 ν81] w ∧ (PtM ν81 113 Rp113 pv82 q83) ∧ (ArrM ν81 1 fI ad85 cap86 l87) ∧ (ArrM ν81 1 fI ad89 cap90 l91) ∧ (μ.le ν81) ∧ (μ.ext w0.heap.size ν81) ∧ (FrzIn w0 ν81) ∧ pplan_desk_of_K1 q83 l87 l91 x93 = some res) ?_ ?_
 ·skip
  refine esr ?_
  refine rn 3 3 [(4, pb b6), (5, pb b7), (10, sv ad3 p1 cap4), (11, iv (ln p1)), (12, iv 0)] hF fun a hF => ?_
  refine wfn rfl ?_
  refine wpIn_block ?_
  have hj154 := Frz.le_refl μ
  refine eloop (fun n_ a w => ∃ (q141 : (Option plan_desk)) (l145 : (List Int)) (l149 : (List Int)) (x151 : Int) (x152 : Int) (ν139 : Frz) (pv140 : Option Addr) (ad143 : Option Addr) (cap144 : Nat) (ad147 : Option Addr) (cap148 : Nat), Fr 21 [] [(4, pb b6), (5, pb b7), (10, sv ad3 p1 cap4), (11, iv (ln p1)), (12, iv x152)] a ∧ St w0 [blk b7 102 #[.pointer pv140, sv ad143 l145 cap144, sv ad147 l149 cap148, iv x151], blk b6 102 #[.pointer none, .slice none 0 0, .slice none 0 0, iv 0], fz w0 ν139] w ∧ (PtM ν139 113 Rp113 pv140 q141) ∧ (ArrM ν139 1 fI ad143 cap144 l145) ∧ (ArrM ν139 1 fI ad147 cap148 l149) ∧ (μ.le ν139) ∧ (μ.ext w0.heap.size ν139) ∧ (FrzIn w0 ν139) ∧ pplan_desk_of_L2 F p1 n_ q141 l145 l149 x151 x152 = some res) F ⟨p0, [], [], 0, 0, μ, pv1, none, 0, none, 0, hF.sub (by kernel_rfl), St.pick [0, 1, 2] (by decide) hS, hA2, ArrM.nil, ArrM.nil, hj154, hext, hlow, h⟩ ?_
  clear hj154
  rintro n_ a w ⟨q141, l145, l149, x151, x152, ν139, pv140, ad143, cap144, ad147, cap148, hF, hS, hA142, hA146, hA150, hle153, hext, hlow, h⟩
  rcases n_ with _ | n_
  ·cases (show (none : Option plan_line) = some res from h)
  replace hA2 := hA2.mono Rp113.mono hle153
  replace hA5 := hA5.mono hle153
  replace hj95 := Frz.le_trans hj95 hle153
  obtain ⟨k2, hk2⟩ : ∃ k, k = pplan_desk_of_L2 F p1 n_ := ⟨_, rfl⟩
  replace h : pplan_desk_of_B2 F p1 k2 q141 l145 l149 x151 x152 = some res := by rw [hk2]; exact h
  rw [pplan_desk_of_B2] at h
  refine esr ?_
  refine rn 1 1 [(4, pb b6), (5, pb b7), (10, sv ad3 p1 cap4), (11, iv (ln p1)), (12, iv x152), (13, .bool (decide (x152 < (ln p1))))] hF fun a hF => ?_
  refine wfn rfl ?_
  refine eseq ?_
  refine econd hF rfl (fun hc => ?_) (fun hc => ?_)
  ·replace h := bif_t h hc
   refine wpIn_skip (norm_then ?_)
   refine eseq ?_
   refine wpIn_block ?_
   refine esr ?_
   replace h := bindS h
   obtain ⟨u155, hu155, h⟩ := h
   refine rno 3 [.run [] (Instr.indexAt 40 (sv ad3 p1 cap4) (iv x152)) (.pointer (some (slAddr ad3 x152 1))), .run [] (Instr.loadAt 3 (.pointer (some (slAddr ad3 x152 1)))) (iv u155)] 3 [(4, pb b6), (5, pb b7), (7, iv u155), (10, sv ad3 p1 cap4), (11, iv (ln p1)), (12, iv x152)] hF (ocons (obIdxQ (hA5 _ (hS.frz (i := 2) rfl hlow)) (by kernel_rfl) (fun _ => hu155)) (ocons (obElQ (i := x152) 0 fI_len (fun _ hd => (hA5 _ ((hS.at_ hd).frz (i := 2) rfl hlow))) (by kernel_rfl) (fun _ => hu155) rfl) onil)) fun a hF => ?_
   refine wfn rfl ?_
   refine WI.region ?_
   refine rno 2 [.run [] (Instr.loadAt 102 (pb b7)) (.agg #[.pointer pv140, sv ad143 l145 cap144, sv ad147 l149 cap148, iv x151])] 2 [(4, pb b6), (5, pb b7), (10, sv ad3 p1 cap4), (11, iv (ln p1)), (12, iv x152), (16, .agg #[.pointer pv140, sv ad143 l145 cap144, sv ad147 l149 cap148, iv x151]), (17, iv u155)] hF (ocons (obN (us := [.pointer pv140, sv ad143 l145 cap144, sv ad147 l149 cap148, iv x151]) (by kernel_rfl) (fun _ hd => ((hS.at_ hd).blk (i := 0) rfl).cells rfl)) onil) fun a hF => ?_
   replace h := bindS h
   obtain ⟨y157, hy157, h⟩ := h
   refine SK.wi (callK (f := 85) (args := #[.agg #[.pointer pv140, sv ad143 l145 cap144, sv ad147 l149 cap148, iv x151], iv u155]) (R := fun v w2 => ∃ ν158 pv159 ad160 cap161 ad162 cap163, ν139.ext w.heap.size ν158 ∧ v = .agg #[.pointer pv159, sv ad160 y157.jobs cap161, sv ad162 y157.at_ cap163, iv y157.done] ∧ PtM ν158 113 Rp113 pv159 y157.desk ∧ ArrM ν158 1 fI ad160 cap161 y157.jobs ∧ ArrM ν158 1 fI ad162 cap163 y157.at_ ∧ St w [frzR w.heap.size ν158] w2) (fun v156 => [(4, pb b6), (5, pb b7), (10, sv ad3 p1 cap4), (11, iv (ln p1)), (12, iv x152), (18, v156)]) hF (by kernel_rfl) ⟨by kernel_rfl⟩ (Calls.mono (plan_line_add_ok F (plan_line.mk q141 l145 l149 x151) u155 _ hy157 ν139 w (hS.frz (i := 2) rfl hlow) hA142 hA146 hA150) (by rintro e w2 ⟨ν158, pv159, ad160, cap161, ad162, cap163, hx167, rfl, hA164, hA165, hA166, h⟩; exact ⟨_, rfl, ν158, pv159, ad160, cap161, ad162, cap163, hx167, rfl, hA164, hA165, hA166, h⟩)) (fun _ => ⟨by kernel_rfl⟩) ?_)
   rintro v156 w a ⟨ν158, pv159, ad160, cap161, ad162, cap163, hx167, rfl, hA164, hA165, hA166, hQ⟩ hF
   replace hext := Frz.ext_trans hext (Frz.ext_mono hx167 hS.ext.size)
   obtain ⟨hlow, hS⟩ := hS.frzMerge (i := 2) rfl hlow hx167 hQ
   replace hA2 := hA2.mono Rp113.mono hx167.1
   replace hA5 := hA5.mono hx167.1
   replace hA142 := hA142.mono Rp113.mono hx167.1
   replace hA146 := hA146.mono hx167.1
   replace hA150 := hA150.mono hx167.1
   replace hj95 := Frz.le_trans hj95 hx167.1
   replace hle153 := Frz.le_trans hle153 hx167.1
   replace hS : St w0 [blk b7 102 #[.pointer pv140, sv ad143 l145 cap144, sv ad147 l149 cap148, iv x151], blk b6 102 #[.pointer none, .slice none 0 0, .slice none 0 0, iv 0], fz w0 ν158] w := hS
   refine SK.wi (storeK (t := 102) [(4, pb b6), (5, pb b7), (10, sv ad3 p1 cap4), (11, iv (ln p1)), (12, iv x152)] 0 0 (.agg #[.pointer pv159, sv ad160 y157.jobs cap161, sv ad162 y157.at_ cap163, iv y157.done]) #[.pointer pv159, sv ad160 y157.jobs cap161, sv ad162 y157.at_ cap163, iv y157.done] hF hS rfl (by kernel_rfl) ⟨by kernel_rfl⟩ (by kernel_rfl) (by kernel_rfl) (by kernel_rfl) (by kernel_rfl) ⟨by kernel_rfl⟩ fun w a hF hS => ?_)
   refine WI.fin rfl (norm_block <| norm_then <| ?_)
   refine WI.region ?_
   replace h := bindS h
   obtain ⟨x168, hx168, h⟩ := h
   refine rno 2 [.run [] (binOp .add 3 (iv x152) (iv 1)) (iv x168)] 2 [(4, pb b6), (5, pb b7), (10, sv ad3 p1 cap4), (11, iv (ln p1)), (12, iv x168)] hF (ocons (obAddC (fun _ => hx168)) onil) fun a hF => ?_
   refine wfn rfl ?_
   rw [hk2] at h
   exact ⟨n_, Nat.lt_succ_self _, y157.desk, y157.jobs, y157.at_, y157.done, x168, ν158, pv159, ad160, cap161, ad162, cap163, hF.sub (by kernel_rfl), St.pick [0, 1, 2] (by decide) hS, hA164, hA165, hA166, hle153, hext, hlow, h⟩
  ·replace h := bif_f h hc
   refine wpIn_exit (exit_then <| exit_then <| exit_hit <| norm_then ?_)
   exact ⟨q141, l145, l149, x151, ν139, pv140, ad143, cap144, ad147, cap148, hF.sub (by kernel_rfl), St.pick [0, 1, 2] (by decide) hS, hA142, hA146, hA150, hj95, hext, hlow, h⟩
 clear hj95
 rintro a w ⟨q83, l87, l91, x93, ν81, pv82, ad85, cap86, ad89, cap90, hF, hS, hA84, hA88, hA92, hle94, hext, hlow, h⟩
 replace hA2 := hA2.mono Rp113.mono hle94
 replace hA5 := hA5.mono hle94
 rw [pplan_desk_of_K1] at h
 refine esr ?_
 refine rno 1 [.run [] (Instr.loadAt 102 (pb b7)) (.agg #[.pointer pv82, sv ad85 l87 cap86, sv ad89 l91 cap90, iv x93])] 1 [(4, pb b6), (20, .agg #[.pointer pv82, sv ad85 l87 cap86, sv ad89 l91 cap90, iv x93])] hF (ocons (obN (us := [.pointer pv82, sv ad85 l87 cap86, sv ad89 l91 cap90, iv x93]) (by kernel_rfl) (fun _ hd => ((hS.at_ hd).blk (i := 0) rfl).cells rfl)) onil) fun a hF => ?_
 refine SK.wi (storeK (t := 102) [(4, pb b6)] 1 0 (.agg #[.pointer pv82, sv ad85 l87 cap86, sv ad89 l91 cap90, iv x93]) #[.pointer pv82, sv ad85 l87 cap86, sv ad89 l91 cap90, iv x93] hF hS rfl (by kernel_rfl) ⟨by kernel_rfl⟩ (by kernel_rfl) (by kernel_rfl) (by kernel_rfl) (by kernel_rfl) ⟨by kernel_rfl⟩ fun w a hF hS => ?_)
 refine wfn rfl ?_
 refine wpIn_ret (fn_ret [.cell 4 102] [.agg #[.pointer pv82, sv ad85 l87 cap86, sv ad89 l91 cap90, iv x93]] hF rfl ⟨⟨_, rfl, loadVarN (cs := [.pointer pv82, sv ad85 l87 cap86, sv ad89 l91 cap90, iv x93]) (by kernel_rfl) ((hS.blk (i := 1) rfl).cells rfl)⟩, trivial⟩ ?_)
 have hr_ := Option.some.inj h
 subst hr_
 exact ⟨ν81, pv82, ad85, cap86, ad89, cap90, hext, rfl, hA84, hA88, hA92, St.pick [2] (by decide) hS⟩

theorem plan_line_bears_ok (F : Nat) (p0 : plan_line) (p1 : Int) (p2 : Int) (res : Bool) (h : plan_line_bears F p0 p1 p2 = some res) (μ : Frz) (w0 : World) (hm : FrzAt μ w0) {pv1 : Option Addr} {ad2 : Option Addr} {cap3 : Nat} {ad4 : Option Addr} {cap5 : Nat} (hA6 : PtM μ 113 Rp113 pv1 p0.desk) (hA7 : ArrM μ 1 fI ad2 cap3 p0.jobs) (hA8 : ArrM μ 1 fI ad4 cap5 p0.at_) : Calls Try.prog 70 #[.agg #[.pointer pv1, sv ad2 p0.jobs cap3, sv ad4 p0.at_ cap5, iv p0.done], iv p1, iv p2] w0 (fun e w => e = .returned (.bool res) ∧ Ext w0 w) := by
 obtain ⟨hlow, hS⟩ := hm.init
 have hext := Frz.ext_refl w0.heap.size μ
 rw [plan_line_bears] at h
 refine fn_enterW Try.func70 rfl 97 [(0, .agg #[.pointer pv1, sv ad2 p0.jobs cap3, sv ad4 p0.at_ cap5, iv p0.done]), (1, iv p1), (2, iv p2)] rfl rfl (by kernel_rfl) fun a w hw hF => ?_
 replace hS : St w0 [fz w0 μ] w := by rw [hw]; exact hS
 clear hw
 refine esr ?_
 refine SK.wi (boxK (t := 102) (fun b9 => [(1, iv p1), (2, iv p2), (3, pb b9)]) (.agg #[.pointer pv1, sv ad2 p0.jobs cap3, sv ad4 p0.at_ cap5, iv p0.done]) #[.pointer pv1, sv ad2 p0.jobs cap3, sv ad4 p0.at_ cap5, iv p0.done] hF hS (by kernel_rfl) ⟨by kernel_rfl⟩ (by kernel_rfl) (fun _ => ⟨by kernel_rfl⟩) fun b9 w a hF hS => ?_)
 refine rn 1 2 [(1, iv p1), (2, iv p2), (3, pb b9)] hF fun a hF => ?_
 refine wfn rfl ?_
 refine esr ?_
 refine rno 4 [.run [] (Instr.loadAt 40 (.pointer (some ⟨b9, 1, none⟩))) (sv ad2 p0.jobs cap3)] 4 [(1, iv p1), (2, iv p2), (3, pb b9), (7, iv (ln p0.jobs))] hF (ocons (ob1 (by kernel_rfl) (fun _ hd => (hS.at_ hd).cell (i := 0) (j := 1) rfl rfl)) onil) fun a hF => ?_
 refine wfn rfl ?_
 refine ecut (fun a w => Fr 97 [] [] a ∧ St w0 [blk b9 102 #[.pointer pv1, sv ad2 p0.jobs cap3, sv ad4 p0.at_ cap5, iv p0.done], fz w0 μ] w ∧ plan_line_bears_K1 = some res) ?_ ?_
 ·skip
  refine esr ?_
  replace h := bindS h
  obtain ⟨d510, hd510, h⟩ := h
  obtain ⟨b511, cs512, hp513, hB514, hR515⟩ := PtM.some hA6 hd510
  obtain ⟨ad516, cap517, ad518, cap519, ad520, cap521, css522, rfl, hA523, hA524, hA525⟩ := hR515
  try rw [hp513] at hF
  try rw [hp513] at hS
  try rw [hp513] at hB514
  refine rno 7 [.run [] (Instr.loadAt 100 (pb b9)) (pb b511), .run [] (Instr.loadAt 40 (.pointer (some ⟨b511, 1, none⟩))) (sv ad518 d510.takes cap519)] 7 [(1, iv p1), (2, iv p2), (3, pb b9), (7, iv (ln p0.jobs)), (21, iv (ln d510.takes)), (22, iv 0)] hF (ocons (ob1 (by kernel_rfl) (fun _ hd => (hS.at_ hd).cell (i := 0) (j := 0) rfl rfl)) (ocons (ob1 (by kernel_rfl) (fun _ hd => (hB514.blk ((hS.at_ hd).frz (i := 1) rfl hlow)).cell1 (j := 1) rfl)) onil)) fun a hF => ?_
  refine wfn rfl ?_
  refine wpIn_block ?_
  refine eloop (fun n_ a w => ∃ (x847 : Int), Fr 97 [] [(1, iv p1), (2, iv p2), (3, pb b9), (7, iv (ln p0.jobs)), (21, iv (ln d510.takes)), (22, iv x847)] a ∧ St w0 [blk b9 102 #[pb b511, sv ad2 p0.jobs cap3, sv ad4 p0.at_ cap5, iv p0.done], fz w0 μ] w ∧ plan_line_bears_L2 F p0 p1 p2 d510 n_ x847 = some res) F ⟨0, hF.sub (by kernel_rfl), St.pick [0, 1] (by decide) hS, h⟩ ?_
  rintro n_ a w ⟨x847, hF, hS, h⟩
  rcases n_ with _ | n_
  ·cases (show (none : Option Bool) = some res from h)
  obtain ⟨k2, hk2⟩ : ∃ k, k = plan_line_bears_L2 F p0 p1 p2 d510 n_ := ⟨_, rfl⟩
  replace h : plan_line_bears_B2 F p0 p1 p2 d510 k2 x847 = some res := by rw [hk2]; exact h
  rw [plan_line_bears_B2] at h
  refine esr ?_
  refine rn 1 1 [(1, iv p1), (2, iv p2), (3, pb b9), (7, iv (ln p0.jobs)), (21, iv (ln d510.takes)), (22, iv x847), (23, .bool (decide (x847 < (ln d510.takes))))] hF fun a hF => ?_
  refine wfn rfl ?_
  refine eseq ?_
  refine econd hF rfl (fun hc => ?_) (fun hc => ?_)
  ·replace h := bif_t h hc
   refine wpIn_skip (norm_then ?_)
   refine ecut (fun a w => Fr 97 [] [(1, iv p1), (2, iv p2), (3, pb b9), (7, iv (ln p0.jobs)), (21, iv (ln d510.takes)), (22, iv x847)] a ∧ St w0 [blk b9 102 #[pb b511, sv ad2 p0.jobs cap3, sv ad4 p0.at_ cap5, iv p0.done], fz w0 μ] w ∧ plan_line_bears_K3 x847 k2 = some res) ?_ ?_
   ·skip
    refine wpIn_block ?_
    refine esr ?_
    refine rn 2 2 [(1, iv p1), (2, iv p2), (3, pb b9), (7, iv (ln p0.jobs)), (8, iv x847), (21, iv (ln d510.takes)), (22, iv x847)] hF fun a hF => ?_
    refine wfn rfl ?_
    refine esr ?_
    replace h := bindS h
    obtain ⟨x930, hx930, h⟩ := h
    refine rno 5 [.run [] (binOp .add 3 (iv p1) (iv 1)) (iv x930)] 5 [(1, iv p1), (2, iv p2), (3, pb b9), (7, iv (ln p0.jobs)), (8, iv x847), (9, iv p1), (10, iv x930), (21, iv (ln d510.takes)), (22, iv x847)] hF (ocons (obAddC (fun _ => hx930)) onil) fun a hF => ?_
    refine wfn rfl ?_
    refine ecut (fun a w => ∃ (x946 : Int), Fr 97 [] [(1, iv p1), (2, iv p2), (3, pb b9), (7, iv (ln p0.jobs)), (8, iv x847), (9, iv x946), (10, iv x930), (21, iv (ln d510.takes)), (22, iv x847)] a ∧ St w0 [blk b9 102 #[pb b511, sv ad2 p0.jobs cap3, sv ad4 p0.at_ cap5, iv p0.done], fz w0 μ] w ∧ plan_line_bears_K4 F p0 p2 d510 x847 k2 x930 x946 = some res) ?_ ?_
    ·skip
     refine wpIn_block ?_
     refine eloop (fun n_ a w => ∃ (x1003 : Int), Fr 97 [] [(1, iv p1), (2, iv p2), (3, pb b9), (7, iv (ln p0.jobs)), (8, iv x847), (9, iv x1003), (10, iv x930), (21, iv (ln d510.takes)), (22, iv x847)] a ∧ St w0 [blk b9 102 #[pb b511, sv ad2 p0.jobs cap3, sv ad4 p0.at_ cap5, iv p0.done], fz w0 μ] w ∧ plan_line_bears_L9 F p0 p2 d510 x847 k2 x930 n_ x1003 = some res) F ⟨p1, hF.sub (by kernel_rfl), St.pick [0, 1] (by decide) hS, h⟩ ?_
     rintro n_ a w ⟨x1003, hF, hS, h⟩
     rcases n_ with _ | n_
     ·cases (show (none : Option Bool) = some res from h)
     obtain ⟨k9, hk9⟩ : ∃ k, k = plan_line_bears_L9 F p0 p2 d510 x847 k2 x930 n_ := ⟨_, rfl⟩
     replace h : plan_line_bears_B9 F p0 p2 d510 x847 k2 x930 k9 x1003 = some res := by rw [hk9]; exact h
     rw [plan_line_bears_B9] at h
     refine eseq ?_
     refine eseq ?_
     replace h := bindS h
     obtain ⟨x1005, hx1005, h⟩ := h
     replace h := bindS h
     obtain ⟨x1006, hx1006, h⟩ := h
     replace h := bindS h
     obtain ⟨u1007, hu1007, h⟩ := h
     refine runD (obs := [.run [] (Instr.loadAt 40 (.pointer (some ⟨b9, 1, none⟩))) (sv ad2 p0.jobs cap3), .run [] (binOp .add 3 (iv x1003) (iv (ln p0.jobs))) (iv x1005), .run [] (binOp .rem 3 (iv x1005) (iv (ln p0.jobs))) (iv x1006), .run [] (Instr.indexAt 40 (sv ad2 p0.jobs cap3) (iv x1006)) (.pointer (some (slAddr ad2 x1006 1))), .run [] (Instr.loadAt 3 (.pointer (some (slAddr ad2 x1006 1)))) (iv u1007)]) 11 [(1, iv p1), (2, iv p2), (3, pb b9), (7, iv (ln p0.jobs)), (8, iv x847), (9, iv x1003), (10, iv x930), (21, iv (ln d510.takes)), (22, iv x847), (38, .bool (u1007 != x847))] (by kernel_rfl) hF (by kernel_rfl) (ocons (ob1 (by kernel_rfl) (fun _ hd => (hS.later hd).cell (i := 0) (j := 1) rfl rfl)) (ocons (obAddC (fun _ => hx1005)) (ocons (obRemC (fun _ => hx1006)) (ocons (obIdxQ (hA7 _ (hS.frz (i := 1) rfl hlow)) (by kernel_rfl) (fun _ => hu1007)) (ocons (obElQ (i := x1006) 0 fI_len (fun _ hd => (hA7 _ ((hS.later hd).frz (i := 1) rfl hlow))) (by kernel_rfl) (fun _ => hu1007) rfl) onil))))) ⟨by kernel_rfl⟩ fun a w hF hx => ?_
     replace hS := hS.later hx
     refine wfn rfl ?_
     refine econd hF rfl (fun hc => ?_) (fun hc => ?_)
     ·replace h := bif_t h hc
      refine wpIn_skip (norm_then ?_)
      refine wpIn_block ?_
      refine WI.region ?_
      replace h := bindS h
      obtain ⟨x1008, hx1008, h⟩ := h
      refine rno 3 [.run [] (binOp .sub 3 (iv x1003) (iv 1)) (iv x1008)] 3 [(1, iv p1), (2, iv p2), (3, pb b9), (7, iv (ln p0.jobs)), (8, iv x847), (9, iv x1008), (10, iv x930), (21, iv (ln d510.takes)), (22, iv x847)] hF (ocons (obSubC (fun _ => hx1008)) onil) fun a hF => ?_
      refine WI.fin rfl (norm_block <| norm_then <| ?_)
      rw [hk9] at h
      exact ⟨n_, Nat.lt_succ_self _, x1008, hF.sub (by kernel_rfl), St.pick [0, 1] (by decide) hS, h⟩
     ·replace h := bif_f h hc
      refine wpIn_exit (exit_then <| exit_then <| exit_hit <| norm_then ?_)
      exact ⟨x1003, hF.sub (by kernel_rfl), St.pick [0, 1] (by decide) hS, h⟩
    rintro a w ⟨x946, hF, hS, h⟩
    rw [plan_line_bears_K4] at h
    refine ecut (fun a w => ∃ (x959 : Int), Fr 97 [] [(1, iv p1), (2, iv p2), (3, pb b9), (7, iv (ln p0.jobs)), (8, iv x847), (9, iv x946), (10, iv x959), (21, iv (ln d510.takes)), (22, iv x847)] a ∧ St w0 [blk b9 102 #[pb b511, sv ad2 p0.jobs cap3, sv ad4 p0.at_ cap5, iv p0.done], fz w0 μ] w ∧ plan_line_bears_K5 F p0 p2 d510 x847 k2 x946 x959 = some res) ?_ ?_
    ·skip
     refine wpIn_block ?_
     refine eloop (fun n_ a w => ∃ (x988 : Int), Fr 97 [] [(1, iv p1), (2, iv p2), (3, pb b9), (7, iv (ln p0.jobs)), (8, iv x847), (9, iv x946), (10, iv x988), (21, iv (ln d510.takes)), (22, iv x847)] a ∧ St w0 [blk b9 102 #[pb b511, sv ad2 p0.jobs cap3, sv ad4 p0.at_ cap5, iv p0.done], fz w0 μ] w ∧ plan_line_bears_L8 F p0 p2 d510 x847 k2 x946 n_ x988 = some res) F ⟨x930, hF.sub (by kernel_rfl), St.pick [0, 1] (by decide) hS, h⟩ ?_
     rintro n_ a w ⟨x988, hF, hS, h⟩
     rcases n_ with _ | n_
     ·cases (show (none : Option Bool) = some res from h)
     obtain ⟨k8, hk8⟩ : ∃ k, k = plan_line_bears_L8 F p0 p2 d510 x847 k2 x946 n_ := ⟨_, rfl⟩
     replace h : plan_line_bears_B8 F p0 p2 d510 x847 k2 x946 k8 x988 = some res := by rw [hk8]; exact h
     rw [plan_line_bears_B8] at h
     refine eseq ?_
     refine eseq ?_
     replace h := bindS h
     obtain ⟨x990, hx990, h⟩ := h
     replace h := bindS h
     obtain ⟨u991, hu991, h⟩ := h
     refine runD (obs := [.run [] (Instr.loadAt 40 (.pointer (some ⟨b9, 1, none⟩))) (sv ad2 p0.jobs cap3), .run [] (binOp .rem 3 (iv x988) (iv (ln p0.jobs))) (iv x990), .run [] (Instr.indexAt 40 (sv ad2 p0.jobs cap3) (iv x990)) (.pointer (some (slAddr ad2 x990 1))), .run [] (Instr.loadAt 3 (.pointer (some (slAddr ad2 x990 1)))) (iv u991)]) 9 [(1, iv p1), (2, iv p2), (3, pb b9), (7, iv (ln p0.jobs)), (8, iv x847), (9, iv x946), (10, iv x988), (21, iv (ln d510.takes)), (22, iv x847), (49, .bool (u991 != x847))] (by kernel_rfl) hF (by kernel_rfl) (ocons (ob1 (by kernel_rfl) (fun _ hd => (hS.later hd).cell (i := 0) (j := 1) rfl rfl)) (ocons (obRemC (fun _ => hx990)) (ocons (obIdxQ (hA7 _ (hS.frz (i := 1) rfl hlow)) (by kernel_rfl) (fun _ => hu991)) (ocons (obElQ (i := x990) 0 fI_len (fun _ hd => (hA7 _ ((hS.later hd).frz (i := 1) rfl hlow))) (by kernel_rfl) (fun _ => hu991) rfl) onil)))) ⟨by kernel_rfl⟩ fun a w hF hx => ?_
     replace hS := hS.later hx
     refine wfn rfl ?_
     refine econd hF rfl (fun hc => ?_) (fun hc => ?_)
     ·replace h := bif_t h hc
      refine wpIn_skip (norm_then ?_)
      refine wpIn_block ?_
      refine WI.region ?_
      replace h := bindS h
      obtain ⟨x992, hx992, h⟩ := h
      refine rno 3 [.run [] (binOp .add 3 (iv x988) (iv 1)) (iv x992)] 3 [(1, iv p1), (2, iv p2), (3, pb b9), (7, iv (ln p0.jobs)), (8, iv x847), (9, iv x946), (10, iv x992), (21, iv (ln d510.takes)), (22, iv x847)] hF (ocons (obAddC (fun _ => hx992)) onil) fun a hF => ?_
      refine WI.fin rfl (norm_block <| norm_then <| ?_)
      rw [hk8] at h
      exact ⟨n_, Nat.lt_succ_self _, x992, hF.sub (by kernel_rfl), St.pick [0, 1] (by decide) hS, h⟩
     ·replace h := bif_f h hc
      refine wpIn_exit (exit_then <| exit_then <| exit_hit <| norm_then ?_)
      exact ⟨x988, hF.sub (by kernel_rfl), St.pick [0, 1] (by decide) hS, h⟩
    rintro a w ⟨x959, hF, hS, h⟩
    rw [plan_line_bears_K5] at h
    refine eseq ?_
    replace h := bindS h
    obtain ⟨x960, hx960, h⟩ := h
    replace h := bindS h
    obtain ⟨x961, hx961, h⟩ := h
    replace h := bindS h
    obtain ⟨u962, hu962, h⟩ := h
    replace h := bindS h
    obtain ⟨x963, hx963, h⟩ := h
    replace h := bindS h
    obtain ⟨u964, hu964, h⟩ := h
    refine runD (obs := [.run [] (Instr.loadAt 40 (.pointer (some ⟨b9, 2, none⟩))) (sv ad4 p0.at_ cap5), .run [] (binOp .add 3 (iv x946) (iv (ln p0.jobs))) (iv x960), .run [] (binOp .rem 3 (iv x960) (iv (ln p0.jobs))) (iv x961), .run [] (Instr.indexAt 40 (sv ad4 p0.at_ cap5) (iv x961)) (.pointer (some (slAddr ad4 x961 1))), .run [] (Instr.loadAt 3 (.pointer (some (slAddr ad4 x961 1)))) (iv u962), .run [] (Instr.loadAt 40 (.pointer (some ⟨b9, 2, none⟩))) (sv ad4 p0.at_ cap5), .run [] (binOp .rem 3 (iv x959) (iv (ln p0.jobs))) (iv x963), .run [] (Instr.indexAt 40 (sv ad4 p0.at_ cap5) (iv x963)) (.pointer (some (slAddr ad4 x963 1))), .run [] (Instr.loadAt 3 (.pointer (some (slAddr ad4 x963 1)))) (iv u964)]) 18 [(1, iv p1), (2, iv p2), (3, pb b9), (7, iv (ln p0.jobs)), (8, iv x847), (9, iv x946), (10, iv x959), (11, iv u962), (12, iv u964), (21, iv (ln d510.takes)), (22, iv x847)] (by kernel_rfl) hF (by kernel_rfl) (ocons (ob1 (by kernel_rfl) (fun _ hd => (hS.later hd).cell (i := 0) (j := 2) rfl rfl)) (ocons (obAddC (fun _ => hx960)) (ocons (obRemC (fun _ => hx961)) (ocons (obIdxQ (hA8 _ (hS.frz (i := 1) rfl hlow)) (by kernel_rfl) (fun _ => hu962)) (ocons (obElQ (i := x961) 0 fI_len (fun _ hd => (hA8 _ ((hS.later hd).frz (i := 1) rfl hlow))) (by kernel_rfl) (fun _ => hu962) rfl) (ocons (ob1 (by kernel_rfl) (fun _ hd => (hS.later hd).cell (i := 0) (j := 2) rfl rfl)) (ocons (obRemC (fun _ => hx963)) (ocons (obIdxQ (hA8 _ (hS.frz (i := 1) rfl hlow)) (by kernel_rfl) (fun _ => hu964)) (ocons (obElQ (i := x963) 0 fI_len (fun _ hd => (hA8 _ ((hS.later hd).frz (i := 1) rfl hlow))) (by kernel_rfl) (fun _ => hu964) rfl) onil))))))))) ⟨by kernel_rfl⟩ fun a w hF hx => ?_
    replace hS := hS.later hx
    refine wfn rfl ?_
    refine ecut (fun a w => ∃ (x967 : Int), Fr 97 [] [(1, iv p1), (2, iv p2), (3, pb b9), (7, iv (ln p0.jobs)), (8, iv x847), (10, iv x959), (11, iv x967), (12, iv u964), (21, iv (ln d510.takes)), (22, iv x847)] a ∧ St w0 [blk b9 102 #[pb b511, sv ad2 p0.jobs cap3, sv ad4 p0.at_ cap5, iv p0.done], fz w0 μ] w ∧ plan_line_bears_K6 F p0 p2 d510 x847 k2 x959 u964 x967 = some res) ?_ ?_
    ·skip
     refine esr ?_
     refine rn 2 2 [(1, iv p1), (2, iv p2), (3, pb b9), (7, iv (ln p0.jobs)), (8, iv x847), (10, iv x959), (11, iv u962), (12, iv u964), (21, iv (ln d510.takes)), (22, iv x847), (69, .bool (decide (x946 < 0)))] hF fun a hF => ?_
     refine wfn rfl ?_
     refine econd hF rfl (fun hc => ?_) (fun hc => ?_)
     ·replace h := bif_t h hc
      refine WI.region ?_
      replace h := bindS h
      obtain ⟨y978, hy978, h⟩ := h
      replace h := bindS h
      obtain ⟨x979, hx979, h⟩ := h
      refine rx 5 [.run [] (Instr.loadAt 102 (pb b9)) (.agg #[pb b511, sv ad2 p0.jobs cap3, sv ad4 p0.at_ cap5, iv p0.done]), .call [] 53 #[.agg #[pb b511, sv ad2 p0.jobs cap3, sv ad4 p0.at_ cap5, iv p0.done]] (iv y978), .run [] (binOp .sub 3 (iv u962) (iv y978)) (iv x979)] 5 [(1, iv p1), (2, iv p2), (3, pb b9), (7, iv (ln p0.jobs)), (8, iv x847), (10, iv x959), (11, iv x979), (12, iv u964), (21, iv (ln d510.takes)), (22, iv x847)] hF (ocons (obN (us := [pb b511, sv ad2 p0.jobs cap3, sv ad4 p0.at_ cap5, iv p0.done]) (by kernel_rfl) (fun _ hd => ((hS.later hd).blk (i := 0) rfl).cells rfl)) (ocons (show Ob.ok _ Ext _ _ from fun hk w2 hd => plan_line_all_ok F (plan_line.mk (some d510) p0.jobs p0.at_ p0.done) _ ((fun _ => hy978) hk) _ w2 (memOf_at w2) (PtM.mk (cs := [sv ad516 d510.jobs cap517, sv ad518 d510.takes cap519, sv ad520 d510.moves cap521]) (hB514.mono (FrzAt.le_mem ((hS.later hd).frz (i := 1) rfl hlow))) ⟨ad516, cap517, ad518, cap519, ad520, cap521, css522, rfl, (hA523.mono (FrzAt.le_mem ((hS.later hd).frz (i := 1) rfl hlow))), (hA524.mono (FrzAt.le_mem ((hS.later hd).frz (i := 1) rfl hlow))), (hA525.mono Rp40.mono (FrzAt.le_mem ((hS.later hd).frz (i := 1) rfl hlow)))⟩) (hA7.mono (FrzAt.le_mem ((hS.later hd).frz (i := 1) rfl hlow))) (hA8.mono (FrzAt.le_mem ((hS.later hd).frz (i := 1) rfl hlow)))) (ocons (obSubC (fun _ => hx979)) onil))) fun a w hF hx => ?_
      replace hS := hS.later hx
      refine wfn rfl ?_
      exact ⟨x979, hF.sub (by kernel_rfl), St.pick [0, 1] (by decide) hS, h⟩
     ·replace h := bif_f h hc
      refine wpIn_skip (norm_then ?_)
      exact ⟨u962, hF.sub (by kernel_rfl), St.pick [0, 1] (by decide) hS, h⟩
    rintro a w ⟨x967, hF, hS, h⟩
    rw [plan_line_bears_K6] at h
    refine ecut (fun a w => ∃ (x970 : Int), Fr 97 [] [(1, iv p1), (2, iv p2), (3, pb b9), (7, iv (ln p0.jobs)), (8, iv x847), (11, iv x967), (12, iv x970), (21, iv (ln d510.takes)), (22, iv x847)] a ∧ St w0 [blk b9 102 #[pb b511, sv ad2 p0.jobs cap3, sv ad4 p0.at_ cap5, iv p0.done], fz w0 μ] w ∧ plan_line_bears_K7 p2 d510 x847 k2 x967 x970 = some res) ?_ ?_
    ·skip
     refine esr ?_
     refine rn 3 3 [(1, iv p1), (2, iv p2), (3, pb b9), (7, iv (ln p0.jobs)), (8, iv x847), (11, iv x967), (12, iv u964), (21, iv (ln d510.takes)), (22, iv x847), (76, .bool (decide (x959 ≥ (ln p0.jobs))))] hF fun a hF => ?_
     refine wfn rfl ?_
     refine econd hF rfl (fun hc => ?_) (fun hc => ?_)
     ·replace h := bif_t h hc
      refine WI.region ?_
      replace h := bindS h
      obtain ⟨y975, hy975, h⟩ := h
      replace h := bindS h
      obtain ⟨x976, hx976, h⟩ := h
      refine rx 5 [.run [] (Instr.loadAt 102 (pb b9)) (.agg #[pb b511, sv ad2 p0.jobs cap3, sv ad4 p0.at_ cap5, iv p0.done]), .call [] 53 #[.agg #[pb b511, sv ad2 p0.jobs cap3, sv ad4 p0.at_ cap5, iv p0.done]] (iv y975), .run [] (binOp .add 3 (iv u964) (iv y975)) (iv x976)] 5 [(1, iv p1), (2, iv p2), (3, pb b9), (7, iv (ln p0.jobs)), (8, iv x847), (11, iv x967), (12, iv x976), (21, iv (ln d510.takes)), (22, iv x847)] hF (ocons (obN (us := [pb b511, sv ad2 p0.jobs cap3, sv ad4 p0.at_ cap5, iv p0.done]) (by kernel_rfl) (fun _ hd => ((hS.later hd).blk (i := 0) rfl).cells rfl)) (ocons (show Ob.ok _ Ext _ _ from fun hk w2 hd => plan_line_all_ok F (plan_line.mk (some d510) p0.jobs p0.at_ p0.done) _ ((fun _ => hy975) hk) _ w2 (memOf_at w2) (PtM.mk (cs := [sv ad516 d510.jobs cap517, sv ad518 d510.takes cap519, sv ad520 d510.moves cap521]) (hB514.mono (FrzAt.le_mem ((hS.later hd).frz (i := 1) rfl hlow))) ⟨ad516, cap517, ad518, cap519, ad520, cap521, css522, rfl, (hA523.mono (FrzAt.le_mem ((hS.later hd).frz (i := 1) rfl hlow))), (hA524.mono (FrzAt.le_mem ((hS.later hd).frz (i := 1) rfl hlow))), (hA525.mono Rp40.mono (FrzAt.le_mem ((hS.later hd).frz (i := 1) rfl hlow)))⟩) (hA7.mono (FrzAt.le_mem ((hS.later hd).frz (i := 1) rfl hlow))) (hA8.mono (FrzAt.le_mem ((hS.later hd).frz (i := 1) rfl hlow)))) (ocons (obAddC (fun _ => hx976)) onil))) fun a w hF hx => ?_
      replace hS := hS.later hx
      refine wfn rfl ?_
      exact ⟨x976, hF.sub (by kernel_rfl), St.pick [0, 1] (by decide) hS, h⟩
     ·replace h := bif_f h hc
      refine wpIn_skip (norm_then ?_)
      exact ⟨u964, hF.sub (by kernel_rfl), St.pick [0, 1] (by decide) hS, h⟩
    rintro a w ⟨x970, hF, hS, h⟩
    rw [plan_line_bears_K7] at h
    refine esr ?_
    replace h := bindS h
    obtain ⟨x971, hx971, h⟩ := h
    replace h := bindS h
    obtain ⟨x972, hx972, h⟩ := h
    replace h := bindS h
    obtain ⟨u973, hu973, h⟩ := h
    refine rno 15 [.run [] (binOp .sub 3 (iv x970) (iv x967)) (iv x971), .run [] (binOp .add 3 (iv x971) (iv p2)) (iv x972), .run [] (Instr.loadAt 100 (pb b9)) (pb b511), .run [] (Instr.loadAt 43 (pb b511)) (sv ad516 d510.jobs cap517), .run [] (Instr.indexAt 43 (sv ad516 d510.jobs cap517) (iv x847)) (.pointer (some (slAddr ad516 x847 8))), .run [] (Instr.loadAt 3 (.pointer (some ((slAddr ad516 x847 8).add 7)))) (iv u973.Every)] 15 [(1, iv p1), (2, iv p2), (3, pb b9), (7, iv (ln p0.jobs)), (21, iv (ln d510.takes)), (22, iv x847), (95, .bool (decide (x972 > u973.Every)))] hF (ocons (obSubC (fun _ => hx971)) (ocons (obAddC (fun _ => hx972)) (ocons (ob1 (by kernel_rfl) (fun _ hd => (hS.at_ hd).cell (i := 0) (j := 0) rfl rfl)) (ocons (ob1 (by kernel_rfl) (fun _ hd => (hB514.blk ((hS.at_ hd).frz (i := 1) rfl hlow)).cell1 (j := 0) rfl)) (ocons (obIdxQ (hA523 _ (hS.frz (i := 1) rfl hlow)) (by kernel_rfl) (fun _ => hu973)) (ocons (obElQ (i := x847) 7 plan_Job.cells_len (fun _ hd => (hA523 _ ((hS.at_ hd).frz (i := 1) rfl hlow))) (by kernel_rfl) (fun _ => hu973) rfl) onil)))))) fun a hF => ?_
    refine wfn rfl ?_
    refine econd hF rfl (fun hc => ?_) (fun hc => ?_)
    ·replace h := bif_t h hc
     refine esr ?_
     refine rn 1 1 [(6, .bool false)] hF fun a hF => ?_
     refine wfn rfl ?_
     refine wpIn_ret (ret_block <| ret_then <| ret_then <| ret_block <| ret_then <| fn_ret [.tmp 6] [.bool false] hF rfl ⟨rfl, trivial⟩ ?_)
     have hr_ := Option.some.inj h
     subst hr_
     exact ⟨rfl, hS.ext⟩
    ·replace h := bif_f h hc
     refine wpIn_skip (norm_block <| norm_then <| ?_)
     exact ⟨hF.sub (by kernel_rfl), St.pick [0, 1] (by decide) hS, h⟩
   rintro a w ⟨hF, hS, h⟩
   rw [plan_line_bears_K3] at h
   refine WI.region ?_
   replace h := bindS h
   obtain ⟨x928, hx928, h⟩ := h
   refine rno 2 [.run [] (binOp .add 3 (iv x847) (iv 1)) (iv x928)] 2 [(1, iv p1), (2, iv p2), (3, pb b9), (7, iv (ln p0.jobs)), (21, iv (ln d510.takes)), (22, iv x928)] hF (ocons (obAddC (fun _ => hx928)) onil) fun a hF => ?_
   refine wfn rfl ?_
   rw [hk2] at h
   exact ⟨n_, Nat.lt_succ_self _, x928, hF.sub (by kernel_rfl), St.pick [0, 1] (by decide) hS, h⟩
  ·replace h := bif_f h hc
   refine wpIn_exit (exit_then <| exit_then <| exit_hit <| norm_then ?_)
   try simp only [pb, ← hp513] at hF
   try simp only [pb, ← hp513] at hS
   exact ⟨hF.sub (by kernel_rfl), St.pick [0, 1] (by decide) hS, h⟩
 rintro a w ⟨hF, hS, h⟩
 rw [plan_line_bears_K1] at h
 refine esr ?_
 refine rn 1 1 [(6, .bool true)] hF fun a hF => ?_
 refine wfn rfl ?_
 refine wpIn_ret (fn_ret [.tmp 6] [.bool true] hF rfl ⟨rfl, trivial⟩ ?_)
 have hr_ := Option.some.inj h
 subst hr_
 exact ⟨rfl, hS.ext⟩
end Go.Proofs.Ytejffembnkojjaa
