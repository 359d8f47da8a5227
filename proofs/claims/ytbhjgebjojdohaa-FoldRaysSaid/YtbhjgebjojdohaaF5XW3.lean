/- Walks, written by program (wip/gen/dec.py). -/
import Derived.Test.YtbhjgebjojdohaaF5XD
import Derived.Test.YtbhjgebjojdohaaProg
import Derived.Test.YtbhjgebjojdohaaF5XW0
import Derived.Test.YtbhjgebjojdohaaF5XW1
import Derived.Test.YtbhjgebjojdohaaF5XW2
namespace Go.Proofs.Ytbhjgebjojdohaa
open Go Go.RowKit Go.Eng
set_option maxRecDepth 10000
set_option maxHeartbeats 4000000
set_option linter.unusedVariables false
set_option linter.unusedSimpArgs false
theorem fold_speeds_near_ok (F : Nat) (p0 : (List api_Span)) (p1 : (List api_Span)) (p2 : Int) (res : (List api_Span)) (h : fold_speeds_near F p0 p1 p2 = some res) (μ : Frz) (w0 : World) (hm : FrzAt μ w0) {ad1 : Option Addr} {cap2 : Nat} {ad4 : Option Addr} {cap5 : Nat} (hA3 : ArrM μ 2 api_Span.cells ad1 cap2 p0) (hA6 : ArrM μ 2 api_Span.cells ad4 cap5 p1) : Calls Try.prog 69 #[sv ad1 p0 cap2, sv ad4 p1 cap5, iv p2] w0 (fun e w => ∃ zad0 zcap0, e = .returned (sv zad0 res zcap0) ∧ St w0 [arr 25 2 api_Span.cells zad0 res.length zcap0 res] w) := by
 obtain ⟨hlow, hS⟩ := hm.init
 have hext := Frz.ext_refl w0.heap.size μ
 rw [fold_speeds_near] at h
 refine fn_enterW Try.func69 rfl 12 [(0, sv ad1 p0 cap2), (1, sv ad4 p1 cap5), (2, iv p2)] rfl rfl (by kernel_rfl) fun a w hw hF => ?_
 replace hS : St w0 [fz w0 μ] w := by rw [hw]; exact hS
 clear hw
 refine esr ?_
 refine rn 1 1 [(0, sv ad1 p0 cap2), (1, sv ad4 p1 cap5), (2, iv p2)] hF fun a hF => ?_
 refine wfn rfl ?_
 refine esr ?_
 refine rn 3 3 [(7, sv ad1 p0 cap2), (8, sv ad4 p1 cap5), (9, iv p2)] hF fun a hF => ?_
 replace h := bindS h
 obtain ⟨y8, hy8, h⟩ := h
 refine SK.wi (callK (f := 103) (args := #[sv ad4 p1 cap5, iv p2]) (R := fun v w2 => ∃ ad9 cap10, v = sv ad9 y8 cap10 ∧ St w [arr 25 2 api_Span.cells ad9 y8.length cap10 y8] w2) (fun v7 => [(7, sv ad1 p0 cap2), (10, v7)]) hF (by kernel_rfl) ⟨by kernel_rfl⟩ (Calls.mono (fold_speeds_wide_ok F p1 p2 _ hy8 (memOf w) w (memOf_at w) (hA6.mono (FrzAt.le_mem (hS.frz (i := 0) rfl hlow)))) (by rintro e w2 ⟨ad9, cap10, rfl, h⟩; exact ⟨_, rfl, ad9, cap10, rfl, h⟩)) (fun _ => ⟨by kernel_rfl⟩) ?_)
 rintro v7 w a ⟨ad9, cap10, rfl, hQ⟩ hF
 replace hS : St w0 [arr 25 2 api_Span.cells ad9 y8.length cap10 y8, fz w0 μ] w := hS.madeL hQ
 replace h := bindS h
 obtain ⟨y12, hy12, h⟩ := h
 refine SK.wi (callK (f := 102) (args := #[sv ad1 p0 cap2, sv ad9 y8 cap10]) (R := fun v w2 => ∃ ad13 cap14, v = sv ad13 y12 cap14 ∧ St w [arr 25 2 api_Span.cells ad13 y12.length cap14 y12] w2) (fun v11 => [(11, v11)]) hF (by kernel_rfl) ⟨by kernel_rfl⟩ (Calls.mono (fold_speeds_meet_ok F p0 y8 _ hy12 (memOf w) w (memOf_at w) (hA3.mono (FrzAt.le_mem (hS.frz (i := 1) rfl hlow))) (Arr.toM (hS.arr (i := 0) rfl))) (by rintro e w2 ⟨ad13, cap14, rfl, h⟩; exact ⟨_, rfl, ad13, cap14, rfl, h⟩)) (fun _ => ⟨by kernel_rfl⟩) ?_)
 rintro v11 w a ⟨ad13, cap14, rfl, hQ⟩ hF
 replace hS : St w0 [arr 25 2 api_Span.cells ad13 y12.length cap14 y12, arr 25 2 api_Span.cells ad9 y8.length cap10 y8, fz w0 μ] w := hS.madeL hQ
 refine rn 1 6 [(6, sv ad13 y12 cap14)] hF fun a hF => ?_
 refine wfn rfl ?_
 refine wpIn_ret (fn_ret [.tmp 6] [sv ad13 y12 cap14] hF rfl ⟨rfl, trivial⟩ ?_)
 have hr_ := Option.some.inj h
 subst hr_
 exact ⟨_, _, rfl, St.pick [0] (by decide) hS⟩

theorem fold_Ray_1_ok (F : Nat) (p0 : Int) (p1 : Int) (c0_ : (List Int)) (c1_ : Int) (c2_ : (List (List api_Span))) (c3_ : Int) (res : (List (List api_Span))) (h : fold_Ray_1 F p0 p1 c0_ c1_ c2_ c3_ = some res) (μ : Frz) (w0 w1 : World) (T_ : List Res) (hlow : FrzIn w0 μ) {ad1 : Option Addr} {cap2 : Nat} {cb2 : Nat} {cb3 : Nat} {ad4 : Option Addr} {cap5 : Nat} {css6 : List (List Value)} {cb4 : Nat} {cb5 : Nat} (hcb2 : BlkM μ cb2 60 #[sv ad1 c0_ cap2]) (hA3 : ArrM μ 1 fI ad1 cap2 c0_) (hcb3 : BlkM μ cb3 3 #[iv c1_]) (hq7 : All2 (Rp132 μ) css6 c2_) (hcb5 : BlkM μ cb5 3 #[iv c3_]) (hS : St w0 (fz w0 μ :: blk cb4 135 #[sv ad4 c2_ cap5] :: arr 132 1 (fN 1) ad4 c2_.length cap5 css6 :: T_) w1) : Calls Try.prog 68 #[iv p0, iv p1, pb cb2, pb cb3, pb cb4, pb cb5] w1 (fun e w => ∃ (ν_ : Frz) (css_0 : List (List Value)), μ.ext w0.heap.size ν_ ∧ FrzIn w0 ν_ ∧ e = .returned (.tuple #[]) ∧ c2_.length = res.length ∧ All2 (Rp132 ν_) css_0 res ∧ St w0 (fz w0 ν_ :: blk cb4 135 #[sv ad4 res cap5] :: arr 132 1 (fN 1) ad4 res.length cap5 css_0 :: T_) w) := by
 rw [fold_Ray_1] at h
 have hext := Frz.ext_refl w0.heap.size μ
 have hle4 : c2_.length = c2_.length := rfl
 refine fn_enterW Try.func68 rfl 55 [(0, iv p0), (1, iv p1), (2, pb cb2), (3, pb cb3), (4, pb cb4), (5, pb cb5)] rfl rfl (by kernel_rfl) fun a w hw hF => ?_
 replace hS : St w0 (fz w0 μ :: blk cb4 135 #[sv ad4 c2_ cap5] :: arr 132 1 (fN 1) ad4 c2_.length cap5 css6 :: T_) w := by rw [hw]; exact hS
 clear hw
 refine eseq ?_
 replace h := bindS h
 obtain ⟨u8, hu8, h⟩ := h
 replace h := bindS h
 obtain ⟨u9, hu9, h⟩ := h
 replace h := bindS h
 obtain ⟨x10, hx10, h⟩ := h
 replace h := bindS h
 obtain ⟨u11, hu11, h⟩ := h
 replace h := bindS h
 obtain ⟨u12, hu12, h⟩ := h
 replace h := bindS h
 obtain ⟨x13, hx13, h⟩ := h
 refine runD (obs := [.run [] (Instr.loadAt 60 (pb cb2)) (sv ad1 c0_ cap2), .run [] (Instr.indexAt 60 (sv ad1 c0_ cap2) (iv p0)) (.pointer (some (slAddr ad1 p0 1))), .run [] (Instr.loadAt 3 (.pointer (some (slAddr ad1 p0 1)))) (iv u8), .run [] (Instr.loadAt 60 (pb cb2)) (sv ad1 c0_ cap2), .run [] (Instr.indexAt 60 (sv ad1 c0_ cap2) (iv p1)) (.pointer (some (slAddr ad1 p1 1))), .run [] (Instr.loadAt 3 (.pointer (some (slAddr ad1 p1 1)))) (iv u9), .run [] (binOp .sub 3 (iv u8) (iv u9)) (iv x10), .run [] (Instr.loadAt 60 (pb cb2)) (sv ad1 c0_ cap2), .run [] (Instr.indexAt 60 (sv ad1 c0_ cap2) (iv p1)) (.pointer (some (slAddr ad1 p1 1))), .run [] (Instr.loadAt 3 (.pointer (some (slAddr ad1 p1 1)))) (iv u11), .run [] (Instr.loadAt 60 (pb cb2)) (sv ad1 c0_ cap2), .run [] (Instr.indexAt 60 (sv ad1 c0_ cap2) (iv p0)) (.pointer (some (slAddr ad1 p0 1))), .run [] (Instr.loadAt 3 (.pointer (some (slAddr ad1 p0 1)))) (iv u12), .run [] (binOp .sub 3 (iv u11) (iv u12)) (iv x13)]) 20 [(0, iv p0), (1, iv p1), (2, pb cb2), (3, pb cb3), (4, pb cb4), (5, pb cb5), (8, iv (if x13 > x10 then x13 else x10))] (by kernel_rfl) hF (by kernel_rfl) (ocons (ob1 (by kernel_rfl) (fun _ hd => (hcb2.blk ((hS.later hd).frz (i := 0) rfl hlow)).cell1 (j := 0) rfl)) (ocons (obIdxQ (hA3 _ (hS.frz (i := 0) rfl hlow)) (by kernel_rfl) (fun _ => hu8)) (ocons (obElQ (i := p0) 0 fI_len (fun _ hd => (hA3 _ ((hS.later hd).frz (i := 0) rfl hlow))) (by kernel_rfl) (fun _ => hu8) rfl) (ocons (ob1 (by kernel_rfl) (fun _ hd => (hcb2.blk ((hS.later hd).frz (i := 0) rfl hlow)).cell1 (j := 0) rfl)) (ocons (obIdxQ (hA3 _ (hS.frz (i := 0) rfl hlow)) (by kernel_rfl) (fun _ => hu9)) (ocons (obElQ (i := p1) 0 fI_len (fun _ hd => (hA3 _ ((hS.later hd).frz (i := 0) rfl hlow))) (by kernel_rfl) (fun _ => hu9) rfl) (ocons (obSubC (fun _ => hx10)) (ocons (ob1 (by kernel_rfl) (fun _ hd => (hcb2.blk ((hS.later hd).frz (i := 0) rfl hlow)).cell1 (j := 0) rfl)) (ocons (obIdxQ (hA3 _ (hS.frz (i := 0) rfl hlow)) (by kernel_rfl) (fun _ => hu11)) (ocons (obElQ (i := p1) 0 fI_len (fun _ hd => (hA3 _ ((hS.later hd).frz (i := 0) rfl hlow))) (by kernel_rfl) (fun _ => hu11) rfl) (ocons (ob1 (by kernel_rfl) (fun _ hd => (hcb2.blk ((hS.later hd).frz (i := 0) rfl hlow)).cell1 (j := 0) rfl)) (ocons (obIdxQ (hA3 _ (hS.frz (i := 0) rfl hlow)) (by kernel_rfl) (fun _ => hu12)) (ocons (obElQ (i := p0) 0 fI_len (fun _ hd => (hA3 _ ((hS.later hd).frz (i := 0) rfl hlow))) (by kernel_rfl) (fun _ => hu12) rfl) (ocons (obSubC (fun _ => hx13)) onil)))))))))))))) ⟨by kernel_rfl⟩ fun a w hF hx => ?_
 replace hS := hS.later hx
 refine wfn rfl ?_
 refine esr ?_
 refine rno 3 [.run [] (Instr.loadAt 3 (pb cb3)) (iv c1_)] 3 [(0, iv p0), (1, iv p1), (2, pb cb2), (4, pb cb4), (5, pb cb5), (8, iv (if x13 > x10 then x13 else x10)), (30, .bool (decide ((if x13 > x10 then x13 else x10) ≤ c1_)))] hF (ocons (ob1 (by kernel_rfl) (fun _ hd => (hcb3.blk ((hS.at_ hd).frz (i := 0) rfl hlow)).cell1 (j := 0) rfl)) onil) fun a hF => ?_
 refine wfn rfl ?_
 refine econd hF rfl (fun hc => ?_) (fun hc => ?_)
 ·replace h := bif_t h hc
  replace h := bindS h
  obtain ⟨u14, hu14, h⟩ := h
  replace h := bindS h
  obtain ⟨u15, hu15, h⟩ := h
  replace h := bindS h
  obtain ⟨u16, hu16, h⟩ := h
  replace h := bindS h
  obtain ⟨u23, hu23, h⟩ := h
  replace h := bindS h
  obtain ⟨u24, hu24, h⟩ := h
  replace h := bindS h
  obtain ⟨x31, hx31, h⟩ := h
  replace h := bindS h
  obtain ⟨y33, hy33, h⟩ := h
  replace h := bindS h
  obtain ⟨u36, hu36, h⟩ := h
  refine region_treeW 24 [22] _ (D := fun w => St w0 [blk cb4 135 #[sv ad4 c2_ cap5], arr 132 1 (fN 1) ad4 c2_.length cap5 css6] w ∧ FrzAt μ w) (by kernel_rfl) (by kernel_rfl) hF.size (fun w hx => ?_) (fun _ _ h => h)
  replace hS := hS.later hx
  refine ⟨⟨St.pick [1, 2] (by decide) hS, hS.frz (i := 0) rfl hlow⟩, ?_⟩
  have hcl64 := Frz.le_refl μ
  obtain ⟨cs65, hcs66, hR67⟩ := getI_all2 hq7 hu16
  obtain ⟨ad68, cap69, rfl, hA70⟩ := hR67
  obtain ⟨cs71, hcs72, hR73⟩ := getI_all2 hq7 hu24
  obtain ⟨ad74, cap75, rfl, hA76⟩ := hR73
  refine WT.s [0, 1, 2, 3, 4, 5, 6, 7, 8, 9, 10, 11, 12, 13, 14, 15, 16, 17, 18, 19, 20, 21] [22] (by kernel_rfl) (by kernel_rfl) ?_
  refine runC (rest := []) (obs := [.run [] (Instr.loadAt 135 (pb cb4)) (sv ad4 c2_ cap5), .run [] (Instr.loadAt 60 (pb cb2)) (sv ad1 c0_ cap2), .run [] (Instr.indexAt 60 (sv ad1 c0_ cap2) (iv p1)) (.pointer (some (slAddr ad1 p1 1))), .run [] (Instr.loadAt 3 (.pointer (some (slAddr ad1 p1 1)))) (iv u14), .run [] (Instr.loadAt 135 (pb cb4)) (sv ad4 c2_ cap5), .run [] (Instr.loadAt 60 (pb cb2)) (sv ad1 c0_ cap2), .run [] (Instr.indexAt 60 (sv ad1 c0_ cap2) (iv p1)) (.pointer (some (slAddr ad1 p1 1))), .run [] (Instr.loadAt 3 (.pointer (some (slAddr ad1 p1 1)))) (iv u15), .run [] (Instr.indexAt 135 (sv ad4 c2_ cap5) (iv u15)) (.pointer (some (slAddr ad4 u15 1))), .run [] (Instr.loadAt 132 (.pointer (some (slAddr ad4 u15 1)))) (sv ad68 u16 cap69), .run [] (Instr.loadAt 135 (pb cb4)) (sv ad4 c2_ cap5), .run [] (Instr.loadAt 60 (pb cb2)) (sv ad1 c0_ cap2), .run [] (Instr.indexAt 60 (sv ad1 c0_ cap2) (iv p0)) (.pointer (some (slAddr ad1 p0 1))), .run [] (Instr.loadAt 3 (.pointer (some (slAddr ad1 p0 1)))) (iv u23), .run [] (Instr.indexAt 135 (sv ad4 c2_ cap5) (iv u23)) (.pointer (some (slAddr ad4 u23 1))), .run [] (Instr.loadAt 132 (.pointer (some (slAddr ad4 u23 1)))) (sv ad74 u24 cap75), .run [] (Instr.loadAt 3 (pb cb5)) (iv c3_), .run [] (binOp .mul 3 (iv c3_) (iv (if x13 > x10 then x13 else x10))) (iv x31)]) [0, 1, 2, 3, 4, 5, 6, 7, 8, 9, 10, 11, 12, 13, 14, 15, 16, 17, 18, 19, 20, 21] [(31, sv ad4 c2_ cap5), (35, iv u14), (42, sv ad68 u16 cap69), (49, sv ad74 u24 cap75), (52, iv x31)] hF (by kernel_rfl) (by kernel_rfl) (ocons (ob1 (by kernel_rfl) (fun _ hd => hd.1.cell (i := 0) (j := 0) rfl rfl)) (ocons (ob1 (by kernel_rfl) (fun _ hd => (hcb2.blk hd.2).cell1 (j := 0) rfl)) (ocons (obIdxQ (hA3 _ (hS.frz (i := 0) rfl hlow)) (by kernel_rfl) (fun _ => hu14)) (ocons (obElQ (i := p1) 0 fI_len (fun _ hd => (hA3 _ hd.2)) (by kernel_rfl) (fun _ => hu14) rfl) (ocons (ob1 (by kernel_rfl) (fun _ hd => hd.1.cell (i := 0) (j := 0) rfl rfl)) (ocons (ob1 (by kernel_rfl) (fun _ hd => (hcb2.blk hd.2).cell1 (j := 0) rfl)) (ocons (obIdxQ (hA3 _ (hS.frz (i := 0) rfl hlow)) (by kernel_rfl) (fun _ => hu15)) (ocons (obElQ (i := p1) 0 fI_len (fun _ hd => (hA3 _ hd.2)) (by kernel_rfl) (fun _ => hu15) rfl) (ocons (obIdxQ (hS.arr (i := 2) rfl) (by kernel_rfl) (fun _ => hcs66)) (ocons (obElQ (i := u15) 0 (fN_len 1) (fun _ hd => (hd.1.arr (i := 1) rfl)) (by kernel_rfl) (fun _ => hcs66) rfl) (ocons (ob1 (by kernel_rfl) (fun _ hd => hd.1.cell (i := 0) (j := 0) rfl rfl)) (ocons (ob1 (by kernel_rfl) (fun _ hd => (hcb2.blk hd.2).cell1 (j := 0) rfl)) (ocons (obIdxQ (hA3 _ (hS.frz (i := 0) rfl hlow)) (by kernel_rfl) (fun _ => hu23)) (ocons (obElQ (i := p0) 0 fI_len (fun _ hd => (hA3 _ hd.2)) (by kernel_rfl) (fun _ => hu23) rfl) (ocons (obIdxQ (hS.arr (i := 2) rfl) (by kernel_rfl) (fun _ => hcs72)) (ocons (obElQ (i := u23) 0 (fN_len 1) (fun _ hd => (hd.1.arr (i := 1) rfl)) (by kernel_rfl) (fun _ => hcs72) rfl) (ocons (ob1 (by kernel_rfl) (fun _ hd => (hcb5.blk hd.2).cell1 (j := 0) rfl)) (ocons (obMulC (fun _ => hx31)) onil)))))))))))))))))) ⟨by kernel_rfl⟩ fun a hF => ?_
  refine WRun.fin ?_
  refine all_cons ?_ (all_nil)
  refine callK (f := 69) (args := #[sv ad68 u16 cap69, sv ad74 u24 cap75, iv x31]) (R := fun v w2 => ∃ ad78 cap79, v = sv ad78 y33 cap79 ∧ St w [arr 25 2 api_Span.cells ad78 y33.length cap79 y33] w2) (fun v77 => [(31, sv ad4 c2_ cap5), (35, iv u14), (53, v77)]) hF (by kernel_rfl) ⟨by kernel_rfl⟩ (Calls.mono (fold_speeds_near_ok F u16 u24 x31 _ hy33 (memOf w) w (memOf_at w) (hA70.mono (FrzAt.le_mem (hS.frz (i := 0) rfl hlow))) (hA76.mono (FrzAt.le_mem (hS.frz (i := 0) rfl hlow)))) (by rintro e w2 ⟨ad78, cap79, rfl, h⟩; exact ⟨_, rfl, ad78, cap79, rfl, h⟩)) (fun _ => ⟨by kernel_rfl⟩) ?_
  rintro v77 w a ⟨ad78, cap79, rfl, hQ⟩ hF
  replace hS : St w0 (arr 25 2 api_Span.cells ad78 y33.length cap79 y33 :: fz w0 μ :: blk cb4 135 #[sv ad4 c2_ cap5] :: arr 132 1 (fN 1) ad4 c2_.length cap5 css6 :: T_) w := hS.madeL hQ
  refine ⟨⟨St.pick [2, 3] (by decide) hS, (hS.frz (i := 1) rfl hlow)⟩, ?_⟩
  obtain ⟨cs80, hcs81, hR82⟩ := getI_all2 hq7 hu36
  obtain ⟨ad83, cap84, rfl, hA85⟩ := hR82
  refine WT.z [23] (by kernel_rfl) ?_
  refine runC (rest := []) (obs := [.run [] (Instr.indexAt 135 (sv ad4 c2_ cap5) (iv u14)) (.pointer (some (slAddr ad4 u14 1)))]) [23] [(53, sv ad78 y33 cap79), (54, .pointer (some (slAddr ad4 u14 1)))] hF (by kernel_rfl) (by kernel_rfl) (ocons (obIdxQ (hS.arr (i := 3) rfl) (by kernel_rfl) (fun _ => hcs81)) onil) ⟨by kernel_rfl⟩ fun a hF => ?_
  refine WRun.fin ?_
  obtain ⟨ν86, hx87, hlow, hS, hz88⟩ := hS.freeze (i := 1) (j := 0) rfl rfl (by decide) hlow
  replace hcb2 := hcb2.mono hx87.1
  replace hA3 := hA3.mono hx87.1
  replace hcb3 := hcb3.mono hx87.1
  replace hq7 := All2.mono Rp132.mono hx87.1 hq7
  replace hcb5 := hcb5.mono hx87.1
  replace hA70 := hA70.mono hx87.1
  replace hA76 := hA76.mono hx87.1
  replace hA85 := hA85.mono hx87.1
  replace hext := Frz.ext_trans hext hx87
  replace hS : St w0 (fz w0 ν86 :: blk cb4 135 #[sv ad4 c2_ cap5] :: arr 132 1 (fN 1) ad4 c2_.length cap5 css6 :: T_) w := hS
  have hA89 := ArrM.of_arr hz88
  replace h := bindS h
  obtain ⟨l90, hl90, h⟩ := h
  refine SK.wi (setQK (j := u14) (t := 132) [] 2 0 [sv ad83 u36 cap84] [sv ad78 y33 cap79] y33 (sv ad78 y33 cap79) (S := Rp132 ν86) hq7 ⟨ad78, cap79, rfl, hA89⟩ hF hS rfl (by kernel_rfl) ⟨by kernel_rfl⟩ (fN_len 1) hcs81 rfl (by kernel_rfl) (by kernel_rfl) (by kernel_rfl) hl90 ⟨by kernel_rfl⟩ fun css91 w a hF hl hq92 hS => ?_)
  replace hle4 := hle4.trans hl
  simp only [sv, ln, hl] at hF hS
  refine WI.fin rfl ?_
  refine fn_end hF rfl ?_
  have hr_ := Option.some.inj h
  subst hr_
  replace hS : St w0 (fz w0 ν86 :: blk cb4 135 #[sv ad4 l90 cap5] :: arr 132 1 (fN 1) ad4 l90.length cap5 css91 :: T_) w := hS
  replace hS := St.pickT (A := [fz w0 ν86, blk cb4 135 #[sv ad4 l90 cap5], arr 132 1 (fN 1) ad4 l90.length cap5 css91]) (T := T_) [0, 1, 2] (by decide) hS
  exact ⟨ν86, _, hext, hlow, rfl, hle4, hq92, hS⟩
 ·replace h := bif_f h hc
  refine wpIn_skip ?_
  refine fn_end hF rfl ?_
  have hr_ := Option.some.inj h
  subst hr_
  replace hS : St w0 (fz w0 μ :: blk cb4 135 #[sv ad4 c2_ cap5] :: arr 132 1 (fN 1) ad4 c2_.length cap5 css6 :: T_) w := hS
  replace hS := St.pickT (A := [fz w0 μ, blk cb4 135 #[sv ad4 c2_ cap5], arr 132 1 (fN 1) ad4 c2_.length cap5 css6]) (T := T_) [0, 1, 2] (by decide) hS
  exact ⟨μ, _, hext, hlow, rfl, hle4, hq7, hS⟩

theorem ref03_Ray_ok (F : Nat) (p0 : (List (List api_Span))) (p1 : Int) (p2 : Int) (res : ((List (List api_Span)) × Int)) (h : ref03_Ray F p0 p1 p2 = some res) (μ : Frz) (w0 : World) (hm : FrzAt μ w0) {ad1 : Option Addr} {cap2 : Nat} {css3 : List (List Value)} (hA4 : ArrQ μ 1 Rp43 ad1 cap2 css3 p0) : Calls Try.prog 25 #[sv ad1 p0 cap2, iv p1, iv p2] w0 (fun e w => ∃ (ν_ : Frz) (zad0 : Option Addr) (zcap0 : Nat) (zcss0 : List (List Value)), μ.ext w0.heap.size ν_ ∧ e = .returned (.tuple #[sv zad0 res.1 zcap0, iv res.2]) ∧ All2 (Rp43 ν_) zcss0 res.1 ∧ St w0 [fz w0 ν_, arr 43 1 (fN 1) zad0 res.1.length zcap0 zcss0] w) := by
 obtain ⟨hlow, hS⟩ := hm.init
 have hext := Frz.ext_refl w0.heap.size μ
 rw [ref03_Ray] at h
 refine fn_enterW Try.func25 rfl 136 [(0, sv ad1 p0 cap2), (1, iv p1), (2, iv p2)] rfl rfl (by kernel_rfl) fun a w hw hF => ?_
 replace hS : St w0 [fz w0 μ] w := by rw [hw]; exact hS
 clear hw
 refine esr ?_
 refine rn 2 2 [(0, sv ad1 p0 cap2), (1, iv p1), (2, iv p2)] hF fun a hF => ?_
 refine wfn rfl ?_
 refine esr ?_
 replace h := bindS h
 obtain ⟨y5, hy5, h⟩ := h
 refine rx 3 [.call [] 71 #[sv ad1 p0 cap2] (iv y5)] 3 [(0, sv ad1 p0 cap2), (1, iv p1), (2, iv p2), (8, iv y5)] hF (ocons (show Ob.ok _ Ext _ _ from fun hk w2 hd => ref03_ray_ok F p0 _ ((fun _ => hy5) hk) _ w2 (memOf_at w2) (hA4.mono Rp43.mono (FrzAt.le_mem ((hS.later hd).frz (i := 0) rfl hlow)))) onil) fun a w hF hx => ?_
 replace hS := hS.later hx
 refine wfn rfl ?_
 refine ecut (fun a w => ∃ (x6 : Int), Fr 136 [] [(0, sv ad1 p0 cap2), (1, iv p1), (2, iv p2), (8, iv x6)] a ∧ St w0 [fz w0 μ] w ∧ ref03_Ray_K1 F p0 p1 p2 x6 = some res) ?_ ?_
 ·skip
  refine esr ?_
  refine rn 2 2 [(0, sv ad1 p0 cap2), (1, iv p1), (2, iv p2), (8, iv y5), (21, .bool (y5 == 0))] hF fun a hF => ?_
  refine wfn rfl ?_
  refine econd hF rfl (fun hc => ?_) (fun hc => ?_)
  ·replace h := bif_t h hc
   refine WI.region ?_
   refine rx 4 [.call [] 72 #[iv p1, iv p2] (iv (ref03_limits p1 p2))] 4 [(0, sv ad1 p0 cap2), (1, iv p1), (2, iv p2), (8, iv (ref03_limits p1 p2))] hF (ocons (show Ob.ok _ Ext _ _ from fun hk w2 hd => ref03_limits_ok p1 p2 _ rfl _ w2 (memOf_at w2) ) onil) fun a w hF hx => ?_
   replace hS := hS.later hx
   refine wfn rfl ?_
   exact ⟨(ref03_limits p1 p2), hF.sub (by kernel_rfl), St.pick [0] (by decide) hS, h⟩
  ·replace h := bif_f h hc
   refine wpIn_skip (norm_then ?_)
   exact ⟨y5, hF.sub (by kernel_rfl), St.pick [0] (by decide) hS, h⟩
 rintro a w ⟨x6, hF, hS, h⟩
 rw [ref03_Ray_K1] at h
 refine eseq ?_
 refine esr ?_
 refine rn 2 2 [(0, sv ad1 p0 cap2), (1, iv p1), (2, iv p2), (8, iv x6), (26, .bool (x6 != 0))] hF fun a hF => ?_
 refine wfn rfl ?_
 refine econd hF rfl (fun hc => ?_) (fun hc => ?_)
 ·replace h := bif_t h hc
  refine esr ?_
  refine rn 3 3 [(6, .slice none 0 0), (7, iv x6)] hF fun a hF => ?_
  refine wfn rfl ?_
  refine wpIn_ret (ret_then <| fn_ret [.tmp 6, .tmp 7] [.slice none 0 0, iv x6] hF rfl ⟨rfl, rfl, trivial⟩ ?_)
  have hr_ := Option.some.inj h
  subst hr_
  replace hS := hS.nilarr 43 1 (fN 1)
  exact ⟨μ, _, _, _, hext, rfl, All2.nil, St.pick [1, 0] (by decide) hS⟩
 ·replace h := bif_f h hc
  refine wpIn_skip (norm_then ?_)
  refine eseq ?_
  replace h := bindS h
  obtain ⟨l8, hl8, h⟩ := h
  replace h := bindS h
  obtain ⟨l12, hl12, h⟩ := h
  refine region_treeW 8 [2, 5] (fun a w => ∃ (ad28 : Option Addr) (cap29 : Nat) (css30 : List (List Value)) (ad32 : Option Addr) (cap33 : Nat) (css34 : List (List Value)), Fr 136 [] [(0, sv ad1 p0 cap2), (1, iv p1), (2, iv p2), (9, sv ad28 l8 cap29), (10, sv ad32 l12 cap33)] a ∧ St w0 [arr 43 1 (fN 1) ad28 l8.length cap29 css30, arr 43 1 (fN 1) ad32 l12.length cap33 css34, fz w0 μ] w ∧ (All2 (Rp43 μ) css30 l8) ∧ (All2 (Rp43 μ) css34 l12)) (D := fun w => St w0 [] w ∧ FrzAt μ w) (by kernel_rfl) (by kernel_rfl) hF.size (fun w hx => ?_) ?_
  ·skip
   replace hS := hS.later hx
   refine ⟨⟨St.pick [] (by decide) hS, hS.frz (i := 0) rfl hlow⟩, ?_⟩
   have hcl36 := Frz.le_refl μ
   refine WT.s [0, 1, 3, 4] [2, 5] (by kernel_rfl) (by kernel_rfl) ?_
   refine runC (rest := []) (obs := []) [0, 1, 3, 4] [(0, sv ad1 p0 cap2), (1, iv p1), (2, iv p2), (29, iv (ln p0)), (32, iv (ln p0))] hF (by kernel_rfl) (by kernel_rfl) onil ⟨by kernel_rfl⟩ fun a hF => ?_
   refine WRun.fin ?_
   refine all_cons ?_ (all_cons ?_ (all_nil))
   ·skip
    refine makeQK (e := 43) (sz := 1) (z := .slice none 0 0) (t := 48) (bytes := 24) (fun b37 => [(0, sv ad1 p0 cap2), (1, iv p1), (2, iv p2), (30, .slice (some ⟨b37, 0, none⟩) l8.length l8.length), (32, iv (ln p0))]) [.slice none 0 0] ([] : (List api_Span)) (S := Rp43 μ) ⟨none, 0, rfl, ArrM.nil⟩ hF hS (by kernel_rfl) ⟨by kernel_rfl⟩ (by kernel_rfl) (by kernel_rfl) rfl hl8 (fun _ => ⟨by kernel_rfl⟩) fun b37 css38 w a hF hq39 hS => ⟨⟨St.pick [] (by decide) hS, (hS.frz (i := 1) rfl hlow)⟩, ?_⟩
    refine WT.s [6] [5] (by kernel_rfl) (by kernel_rfl) ?_
    refine runC (rest := []) (obs := []) [6] [(0, sv ad1 p0 cap2), (1, iv p1), (2, iv p2), (9, .slice (some ⟨b37, 0, none⟩) l8.length l8.length), (32, iv (ln p0))] hF (by kernel_rfl) (by kernel_rfl) onil ⟨by kernel_rfl⟩ fun a hF => ?_
    refine WRun.fin ?_
    refine all_cons ?_ (all_nil)
    refine makeQK (e := 43) (sz := 1) (z := .slice none 0 0) (t := 48) (bytes := 24) (fun b40 => [(0, sv ad1 p0 cap2), (1, iv p1), (2, iv p2), (9, .slice (some ⟨b37, 0, none⟩) l8.length l8.length), (33, .slice (some ⟨b40, 0, none⟩) l12.length l12.length)]) [.slice none 0 0] ([] : (List api_Span)) (S := Rp43 μ) ⟨none, 0, rfl, ArrM.nil⟩ hF hS (by kernel_rfl) ⟨by kernel_rfl⟩ (by kernel_rfl) (by kernel_rfl) rfl hl12 (fun _ => ⟨by kernel_rfl⟩) fun b40 css41 w a hF hq42 hS => ⟨⟨St.pick [] (by decide) hS, (hS.frz (i := 2) rfl hlow)⟩, ?_⟩
    refine WT.z [7] (by kernel_rfl) ?_
    refine runC (rest := []) (obs := []) [7] [(0, sv ad1 p0 cap2), (1, iv p1), (2, iv p2), (9, .slice (some ⟨b37, 0, none⟩) l8.length l8.length), (10, .slice (some ⟨b40, 0, none⟩) l12.length l12.length)] hF (by kernel_rfl) (by kernel_rfl) onil ⟨by kernel_rfl⟩ fun a hF => ?_
    refine WRun.fin ?_
    exact ⟨(some ⟨b37, 0, none⟩), l8.length, css38, (some ⟨b40, 0, none⟩), l12.length, css41, hF.sub (by kernel_rfl), St.pick [1, 0, 2] (by decide) hS, hq39, hq42⟩
   ·skip
    refine makeQK (e := 43) (sz := 1) (z := .slice none 0 0) (t := 48) (bytes := 24) (fun b43 => [(0, sv ad1 p0 cap2), (1, iv p1), (2, iv p2), (29, iv (ln p0)), (33, .slice (some ⟨b43, 0, none⟩) l12.length l12.length)]) [.slice none 0 0] ([] : (List api_Span)) (S := Rp43 μ) ⟨none, 0, rfl, ArrM.nil⟩ hF hS (by kernel_rfl) ⟨by kernel_rfl⟩ (by kernel_rfl) (by kernel_rfl) rfl hl12 (fun _ => ⟨by kernel_rfl⟩) fun b43 css44 w a hF hq45 hS => ⟨⟨St.pick [] (by decide) hS, (hS.frz (i := 1) rfl hlow)⟩, ?_⟩
    refine WT.s [] [2] (by kernel_rfl) (by kernel_rfl) ?_
    refine WRun.fin ?_
    refine all_cons ?_ (all_nil)
    refine makeQK (e := 43) (sz := 1) (z := .slice none 0 0) (t := 48) (bytes := 24) (fun b46 => [(0, sv ad1 p0 cap2), (1, iv p1), (2, iv p2), (30, .slice (some ⟨b46, 0, none⟩) l8.length l8.length), (33, .slice (some ⟨b43, 0, none⟩) l12.length l12.length)]) [.slice none 0 0] ([] : (List api_Span)) (S := Rp43 μ) ⟨none, 0, rfl, ArrM.nil⟩ hF hS (by kernel_rfl) ⟨by kernel_rfl⟩ (by kernel_rfl) (by kernel_rfl) rfl hl8 (fun _ => ⟨by kernel_rfl⟩) fun b46 css47 w a hF hq48 hS => ⟨⟨St.pick [] (by decide) hS, (hS.frz (i := 2) rfl hlow)⟩, ?_⟩
    refine WT.z [6, 7] (by kernel_rfl) ?_
    refine runC (rest := []) (obs := []) [6, 7] [(0, sv ad1 p0 cap2), (1, iv p1), (2, iv p2), (9, .slice (some ⟨b46, 0, none⟩) l8.length l8.length), (10, .slice (some ⟨b43, 0, none⟩) l12.length l12.length)] hF (by kernel_rfl) (by kernel_rfl) onil ⟨by kernel_rfl⟩ fun a hF => ?_
    refine WRun.fin ?_
    exact ⟨(some ⟨b46, 0, none⟩), l8.length, css47, (some ⟨b43, 0, none⟩), l12.length, css44, hF.sub (by kernel_rfl), St.pick [0, 1, 2] (by decide) hS, hq48, hq45⟩
  rintro a w ⟨ad28, cap29, css30, ad32, cap33, css34, hF, hS, hq31, hq35⟩
  refine wfn rfl ?_
  have hj3246 := Frz.le_refl μ
  refine ecut (fun a w => ∃ (l451 : (List (List api_Span))) (l456 : (List (List api_Span))) (ν448 : Frz) (ad449 : Option Addr) (cap450 : Nat) (css452 : List (List Value)) (ad454 : Option Addr) (cap455 : Nat) (css457 : List (List Value)), Fr 136 [] [(0, sv ad1 p0 cap2), (1, iv p1), (2, iv p2), (9, sv ad454 l456 cap455), (10, sv ad449 l451 cap450)] a ∧ St w0 [arr 43 1 (fN 1) ad454 l456.length cap455 css457, arr 43 1 (fN 1) ad449 l451.length cap450 css452, fz w0 ν448] w ∧ (All2 (Rp43 ν448) css452 l451) ∧ (All2 (Rp43 ν448) css457 l456) ∧ (μ.le ν448) ∧ (μ.ext w0.heap.size ν448) ∧ (FrzIn w0 ν448) ∧ ref03_Ray_K2 F p0 p1 p2 l451 l456 = some res) ?_ ?_
  ·skip
   refine esr ?_
   refine rn 1 1 [(0, sv ad1 p0 cap2), (1, iv p1), (2, iv p2), (9, sv ad28 l8 cap29), (10, sv ad32 l12 cap33), (11, iv 0)] hF fun a hF => ?_
   refine wfn rfl ?_
   refine wpIn_block ?_
   have hj3521 := Frz.le_refl μ
   refine eloop (fun n_ a w => ∃ (l3511 : (List (List api_Span))) (x3514 : Int) (l3517 : (List (List api_Span))) (ν3508 : Frz) (ad3509 : Option Addr) (cap3510 : Nat) (css3512 : List (List Value)) (ad3515 : Option Addr) (cap3516 : Nat) (css3518 : List (List Value)), Fr 136 [] [(0, sv ad1 p0 cap2), (1, iv p1), (2, iv p2), (9, sv ad3515 l3517 cap3516), (10, sv ad3509 l3511 cap3510), (11, iv x3514)] a ∧ St w0 [arr 43 1 (fN 1) ad3515 l3517.length cap3516 css3518, arr 43 1 (fN 1) ad3509 l3511.length cap3510 css3512, fz w0 ν3508] w ∧ (All2 (Rp43 ν3508) css3512 l3511) ∧ (All2 (Rp43 ν3508) css3518 l3517) ∧ (μ.le ν3508) ∧ (μ.ext w0.heap.size ν3508) ∧ (FrzIn w0 ν3508) ∧ ref03_Ray_L11 F p0 p1 p2 n_ l3511 x3514 l3517 = some res) F ⟨l12, 0, l8, μ, ad32, cap33, css34, ad28, cap29, css30, hF.sub (by kernel_rfl), St.pick [0, 1, 2] (by decide) hS, hq35, hq31, hj3521, hext, hlow, h⟩ ?_
   clear hj3521
   rintro nk11 a w ⟨l3511, x3514, l3517, ν3508, ad3509, cap3510, css3512, ad3515, cap3516, css3518, hF, hS, hq3513, hq3519, hle3520, hext, hlow, h⟩
   rcases nk11 with _ | nk11
   ·cases (show (none : Option ((List (List api_Span)) × Int)) = some res from h)
   replace hA4 := hA4.mono Rp43.mono hle3520
   replace hq31 := All2.mono Rp43.mono hle3520 hq31
   replace hq35 := All2.mono Rp43.mono hle3520 hq35
   replace hj3246 := Frz.le_trans hj3246 hle3520
   obtain ⟨k11, hk11⟩ : ∃ k, k = ref03_Ray_L11 F p0 p1 p2 nk11 := ⟨_, rfl⟩
   replace h : ref03_Ray_B11 F p0 p1 p2 k11 l3511 x3514 l3517 = some res := by rw [hk11]; exact h
   rw [ref03_Ray_B11] at h
   refine eseq ?_
   refine esr ?_
   refine rn 4 4 [(0, sv ad1 p0 cap2), (1, iv p1), (2, iv p2), (9, sv ad3515 l3517 cap3516), (10, sv ad3509 l3511 cap3510), (11, iv x3514), (37, .bool (decide (x3514 < (ln p0))))] hF fun a hF => ?_
   refine wfn rfl ?_
   refine econd hF rfl (fun hc => ?_) (fun hc => ?_)
   ·replace h := bif_t h hc
    refine wpIn_skip (norm_then ?_)
    refine eseq ?_
    refine wpIn_block ?_
    replace h := bindS h
    obtain ⟨u3522, hu3522, h⟩ := h
    replace h := bindS h
    obtain ⟨u3529, hu3529, h⟩ := h
    replace h := bindS h
    obtain ⟨y3537, hy3537, h⟩ := h
    replace h := bindS h
    obtain ⟨y3541, hy3541, h⟩ := h
    replace h := bindS h
    obtain ⟨u3544, hu3544, h⟩ := h
    replace h := bindS h
    obtain ⟨l3555, hl3555, h⟩ := h
    replace h := bindS h
    obtain ⟨u3558, hu3558, h⟩ := h
    refine region_treeW 17 [8, 13, 15] _ (D := fun w => St w0 [arr 43 1 (fN 1) ad3509 l3511.length cap3510 css3512] w ∧ FrzAt ν3508 w) (by kernel_rfl) (by kernel_rfl) hF.size (fun w hx => ?_) (fun _ _ h => h)
    replace hS := hS.later hx
    refine ⟨⟨St.pick [1] (by decide) hS, hS.frz (i := 2) rfl hlow⟩, ?_⟩
    have hcl3601 := Frz.le_refl ν3508
    obtain ⟨cs3602, hcs3603, hR3604⟩ := getI_all2 hA4.2 hu3522
    obtain ⟨ad3605, cap3606, rfl, hA3607⟩ := hR3604
    obtain ⟨cs3608, hcs3609, hR3610⟩ := getI_all2 hA4.2 hu3529
    obtain ⟨ad3611, cap3612, rfl, hA3613⟩ := hR3610
    refine WT.s [0, 1, 2, 3, 4, 5, 6, 7, 9, 10, 11, 12] [8] (by kernel_rfl) (by kernel_rfl) ?_
    refine runC (rest := []) (obs := [.run [] (Instr.indexAt 48 (sv ad1 p0 cap2) (iv x3514)) (.pointer (some (slAddr ad1 x3514 1))), .run [] (Instr.loadAt 43 (.pointer (some (slAddr ad1 x3514 1)))) (sv ad3605 u3522 cap3606), .run [] (Instr.indexAt 48 (sv ad1 p0 cap2) (iv x3514)) (.pointer (some (slAddr ad1 x3514 1))), .run [] (Instr.loadAt 43 (.pointer (some (slAddr ad1 x3514 1)))) (sv ad3611 u3529 cap3612)]) [0, 1, 2, 3, 4, 5, 6, 7, 9, 10, 11, 12] [(0, sv ad1 p0 cap2), (1, iv p1), (2, iv p2), (9, sv ad3515 l3517 cap3516), (10, sv ad3509 l3511 cap3510), (11, iv x3514), (40, sv ad3515 l3517 cap3516), (41, iv x3514), (42, sv ad3509 l3511 cap3510), (43, iv x3514), (47, sv ad3605 u3522 cap3606), (52, sv ad3611 u3529 cap3612)] hF (by kernel_rfl) (by kernel_rfl) (ocons (obIdxQ (hA4.at (hS.frz (i := 2) rfl hlow)) (by kernel_rfl) (fun _ => hcs3603)) (ocons (obElQ (i := x3514) 0 (fN_len 1) (fun _ hd => (hA4.at hd.2)) (by kernel_rfl) (fun _ => hcs3603) rfl) (ocons (obIdxQ (hA4.at (hS.frz (i := 2) rfl hlow)) (by kernel_rfl) (fun _ => hcs3609)) (ocons (obElQ (i := x3514) 0 (fN_len 1) (fun _ hd => (hA4.at hd.2)) (by kernel_rfl) (fun _ => hcs3609) rfl) onil)))) ⟨by kernel_rfl⟩ fun a hF => ?_
    refine WRun.fin ?_
    refine all_cons ?_ (all_nil)
    refine callK (f := 64) (args := #[sv ad3605 u3522 cap3606]) (R := fun v w2 => ∃ ad3615 cap3616, v = sv ad3615 y3537 cap3616 ∧ St w [arr 25 2 api_Span.cells ad3615 y3537.length cap3616 y3537] w2) (fun v3614 => [(0, sv ad1 p0 cap2), (1, iv p1), (2, iv p2), (9, sv ad3515 l3517 cap3516), (10, sv ad3509 l3511 cap3510), (11, iv x3514), (40, sv ad3515 l3517 cap3516), (41, iv x3514), (42, sv ad3509 l3511 cap3510), (43, iv x3514), (48, v3614), (52, sv ad3611 u3529 cap3612)]) hF (by kernel_rfl) ⟨by kernel_rfl⟩ (Calls.mono (ref03_united_ok F u3522 _ hy3537 (memOf w) w (memOf_at w) (hA3607.mono (FrzAt.le_mem (hS.frz (i := 2) rfl hlow)))) (by rintro e w2 ⟨ad3615, cap3616, rfl, h⟩; exact ⟨_, rfl, ad3615, cap3616, rfl, h⟩)) (fun _ => ⟨by kernel_rfl⟩) ?_
    rintro v3614 w a ⟨ad3615, cap3616, rfl, hQ⟩ hF
    replace hS : St w0 [arr 25 2 api_Span.cells ad3615 y3537.length cap3616 y3537, arr 43 1 (fN 1) ad3515 l3517.length cap3516 css3518, arr 43 1 (fN 1) ad3509 l3511.length cap3510 css3512, fz w0 ν3508] w := hS.madeL hQ
    refine ⟨⟨St.pick [2] (by decide) hS, (hS.frz (i := 3) rfl hlow)⟩, ?_⟩
    refine WT.s [] [13] (by kernel_rfl) (by kernel_rfl) ?_
    refine WRun.fin ?_
    refine all_cons ?_ (all_nil)
    refine callK (f := 64) (args := #[sv ad3611 u3529 cap3612]) (R := fun v w2 => ∃ ad3618 cap3619, v = sv ad3618 y3541 cap3619 ∧ St w [arr 25 2 api_Span.cells ad3618 y3541.length cap3619 y3541] w2) (fun v3617 => [(0, sv ad1 p0 cap2), (1, iv p1), (2, iv p2), (9, sv ad3515 l3517 cap3516), (10, sv ad3509 l3511 cap3510), (11, iv x3514), (40, sv ad3515 l3517 cap3516), (41, iv x3514), (42, sv ad3509 l3511 cap3510), (43, iv x3514), (48, sv ad3615 y3537 cap3616), (53, v3617)]) hF (by kernel_rfl) ⟨by kernel_rfl⟩ (Calls.mono (ref03_united_ok F u3529 _ hy3541 (memOf w) w (memOf_at w) (hA3613.mono (FrzAt.le_mem (hS.frz (i := 3) rfl hlow)))) (by rintro e w2 ⟨ad3618, cap3619, rfl, h⟩; exact ⟨_, rfl, ad3618, cap3619, rfl, h⟩)) (fun _ => ⟨by kernel_rfl⟩) ?_
    rintro v3617 w a ⟨ad3618, cap3619, rfl, hQ⟩ hF
    replace hS : St w0 [arr 25 2 api_Span.cells ad3618 y3541.length cap3619 y3541, arr 25 2 api_Span.cells ad3615 y3537.length cap3616 y3537, arr 43 1 (fN 1) ad3515 l3517.length cap3516 css3518, arr 43 1 (fN 1) ad3509 l3511.length cap3510 css3512, fz w0 ν3508] w := hS.madeL hQ
    refine ⟨⟨St.pick [3] (by decide) hS, (hS.frz (i := 4) rfl hlow)⟩, ?_⟩
    obtain ⟨cs3620, hcs3621, hR3622⟩ := getI_all2 hq3519 hu3544
    obtain ⟨ad3623, cap3624, rfl, hA3625⟩ := hR3622
    refine WT.s [14] [15] (by kernel_rfl) (by kernel_rfl) ?_
    refine runC (rest := []) (obs := [.run [] (Instr.indexAt 48 (sv ad3515 l3517 cap3516) (iv x3514)) (.pointer (some (slAddr ad3515 x3514 1)))]) [14] [(0, sv ad1 p0 cap2), (1, iv p1), (2, iv p2), (9, sv ad3515 l3517 cap3516), (10, sv ad3509 l3511 cap3510), (11, iv x3514), (42, sv ad3509 l3511 cap3510), (43, iv x3514), (48, sv ad3615 y3537 cap3616), (53, sv ad3618 y3541 cap3619), (54, .pointer (some (slAddr ad3515 x3514 1)))] hF (by kernel_rfl) (by kernel_rfl) (ocons (obIdxQ (hS.arr (i := 2) rfl) (by kernel_rfl) (fun _ => hcs3621)) onil) ⟨by kernel_rfl⟩ fun a hF => ?_
    refine WRun.fin ?_
    refine all_cons ?_ (all_nil)
    obtain ⟨ν3626, hx3627, hlow, hS, hz3628⟩ := hS.freeze (i := 4) (j := 1) rfl rfl (by decide) hlow
    replace hA4 := hA4.mono Rp43.mono hx3627.1
    replace hq31 := All2.mono Rp43.mono hx3627.1 hq31
    replace hq35 := All2.mono Rp43.mono hx3627.1 hq35
    replace hq3513 := All2.mono Rp43.mono hx3627.1 hq3513
    replace hq3519 := All2.mono Rp43.mono hx3627.1 hq3519
    replace hA3607 := hA3607.mono hx3627.1
    replace hA3613 := hA3613.mono hx3627.1
    replace hA3625 := hA3625.mono hx3627.1
    replace hj3246 := Frz.le_trans hj3246 hx3627.1
    replace hle3520 := Frz.le_trans hle3520 hx3627.1
    replace hcl3601 := Frz.le_trans hcl3601 hx3627.1
    replace hext := Frz.ext_trans hext hx3627
    replace hS : St w0 [arr 25 2 api_Span.cells ad3618 y3541.length cap3619 y3541, arr 43 1 (fN 1) ad3515 l3517.length cap3516 css3518, arr 43 1 (fN 1) ad3509 l3511.length cap3510 css3512, fz w0 ν3626] w := hS
    have hA3629 := ArrM.of_arr hz3628
    refine setQK (j := x3514) (t := 43) [(0, sv ad1 p0 cap2), (1, iv p1), (2, iv p2), (9, sv ad3515 l3517 cap3516), (10, sv ad3509 l3511 cap3510), (11, iv x3514), (42, sv ad3509 l3511 cap3510), (43, iv x3514), (53, sv ad3618 y3541 cap3619)] 1 0 [sv ad3623 u3544 cap3624] [sv ad3615 y3537 cap3616] y3537 (sv ad3615 y3537 cap3616) (S := Rp43 ν3626) hq3519 ⟨ad3615, cap3616, rfl, hA3629⟩ hF hS rfl (by kernel_rfl) ⟨by kernel_rfl⟩ (fN_len 1) hcs3621 rfl (by kernel_rfl) (by kernel_rfl) (by kernel_rfl) hl3555 ⟨by kernel_rfl⟩ fun css3630 w a hF hl hq3631 hS => ⟨⟨St.pick [2] (by decide) hS, (hS.frz (i := 3) rfl hlow).low hcl3601⟩, ?_⟩
    simp only [sv, ln, hl] at hF hS
    obtain ⟨cs3632, hcs3633, hR3634⟩ := getI_all2 hq3513 hu3558
    obtain ⟨ad3635, cap3636, rfl, hA3637⟩ := hR3634
    refine WT.z [16] (by kernel_rfl) ?_
    refine runC (rest := []) (obs := [.run [] (Instr.indexAt 48 (sv ad3509 l3511 cap3510) (iv x3514)) (.pointer (some (slAddr ad3509 x3514 1)))]) [16] [(0, sv ad1 p0 cap2), (1, iv p1), (2, iv p2), (9, sv ad3515 l3555 cap3516), (10, sv ad3509 l3511 cap3510), (11, iv x3514), (53, sv ad3618 y3541 cap3619), (55, .pointer (some (slAddr ad3509 x3514 1)))] hF (by kernel_rfl) (by kernel_rfl) (ocons (obIdxQ (hS.arr (i := 2) rfl) (by kernel_rfl) (fun _ => hcs3633)) onil) ⟨by kernel_rfl⟩ fun a hF => ?_
    refine WRun.fin ?_
    obtain ⟨ν3638, hx3639, hlow, hS, hz3640⟩ := hS.freeze (i := 3) (j := 0) rfl rfl (by decide) hlow
    replace hA4 := hA4.mono Rp43.mono hx3639.1
    replace hq31 := All2.mono Rp43.mono hx3639.1 hq31
    replace hq35 := All2.mono Rp43.mono hx3639.1 hq35
    replace hq3513 := All2.mono Rp43.mono hx3639.1 hq3513
    replace hA3607 := hA3607.mono hx3639.1
    replace hA3613 := hA3613.mono hx3639.1
    replace hA3625 := hA3625.mono hx3639.1
    replace hA3629 := hA3629.mono hx3639.1
    replace hq3631 := All2.mono Rp43.mono hx3639.1 hq3631
    replace hA3637 := hA3637.mono hx3639.1
    replace hj3246 := Frz.le_trans hj3246 hx3639.1
    replace hle3520 := Frz.le_trans hle3520 hx3639.1
    replace hext := Frz.ext_trans hext hx3639
    replace hS : St w0 [arr 43 1 (fN 1) ad3515 l3555.length cap3516 css3630, arr 43 1 (fN 1) ad3509 l3511.length cap3510 css3512, fz w0 ν3638] w := hS
    have hA3641 := ArrM.of_arr hz3640
    replace h := bindS h
    obtain ⟨l3642, hl3642, h⟩ := h
    refine SK.wi (setQK (j := x3514) (t := 43) [(0, sv ad1 p0 cap2), (1, iv p1), (2, iv p2), (9, sv ad3515 l3555 cap3516), (10, sv ad3509 l3511 cap3510), (11, iv x3514)] 1 0 [sv ad3635 u3558 cap3636] [sv ad3618 y3541 cap3619] y3541 (sv ad3618 y3541 cap3619) (S := Rp43 ν3638) hq3513 ⟨ad3618, cap3619, rfl, hA3641⟩ hF hS rfl (by kernel_rfl) ⟨by kernel_rfl⟩ (fN_len 1) hcs3633 rfl (by kernel_rfl) (by kernel_rfl) (by kernel_rfl) hl3642 ⟨by kernel_rfl⟩ fun css3643 w a hF hl hq3644 hS => ?_)
    simp only [sv, ln, hl] at hF hS
    refine WI.fin rfl (norm_block <| norm_then <| ?_)
    refine WI.region ?_
    replace h := bindS h
    obtain ⟨x3645, hx3645, h⟩ := h
    refine rno 3 [.run [] (binOp .add 3 (iv x3514) (iv 1)) (iv x3645)] 3 [(0, sv ad1 p0 cap2), (1, iv p1), (2, iv p2), (9, sv ad3515 l3555 cap3516), (10, sv ad3509 l3642 cap3510), (11, iv x3645)] hF (ocons (obAddC (fun _ => hx3645)) onil) fun a hF => ?_
    refine wfn rfl ?_
    rw [hk11] at h
    exact ⟨nk11, Nat.lt_succ_self _, l3642, x3645, l3555, ν3638, ad3509, cap3510, css3643, ad3515, cap3516, css3630, hF.sub (by kernel_rfl), St.pick [0, 1, 2] (by decide) hS, hq3644, hq3631, hle3520, hext, hlow, h⟩
   ·replace h := bif_f h hc
    refine wpIn_exit (exit_then <| exit_then <| exit_hit <| norm_then ?_)
    exact ⟨l3511, l3517, ν3508, ad3509, cap3510, css3512, ad3515, cap3516, css3518, hF.sub (by kernel_rfl), St.pick [0, 1, 2] (by decide) hS, hq3513, hq3519, hj3246, hext, hlow, h⟩
  clear hj3246
  rintro a w ⟨l451, l456, ν448, ad449, cap450, css452, ad454, cap455, css457, hF, hS, hq453, hq458, hle459, hext, hlow, h⟩
  replace hA4 := hA4.mono Rp43.mono hle459
  replace hq31 := All2.mono Rp43.mono hle459 hq31
  replace hq35 := All2.mono Rp43.mono hle459 hq35
  rw [ref03_Ray_K2] at h
  have hj2673 := Frz.le_refl ν448
  refine ecut (fun a w => ∃ (l1035 : (List (List api_Span))) (ν1032 : Frz) (ad1033 : Option Addr) (cap1034 : Nat) (css1036 : List (List Value)), Fr 136 [] [(0, sv ad1 p0 cap2), (1, iv p1), (2, iv p2), (9, sv ad1033 l1035 cap1034), (10, sv ad449 l451 cap450)] a ∧ St w0 [arr 43 1 (fN 1) ad1033 l1035.length cap1034 css1036, arr 43 1 (fN 1) ad449 l451.length cap450 css452, fz w0 ν1032] w ∧ (All2 (Rp43 ν1032) css1036 l1035) ∧ (ν448.le ν1032) ∧ (μ.ext w0.heap.size ν1032) ∧ (FrzIn w0 ν1032) ∧ ref03_Ray_K3 F p0 p1 p2 l451 l1035 = some res) ?_ ?_
  ·skip
   refine esr ?_
   refine rn 1 1 [(0, sv ad1 p0 cap2), (1, iv p1), (2, iv p2), (9, sv ad454 l456 cap455), (10, sv ad449 l451 cap450), (12, iv 0)] hF fun a hF => ?_
   refine wfn rfl ?_
   refine wpIn_block ?_
   have hj3060 := Frz.le_refl ν448
   refine eloop (fun n_ a w => ∃ (x3053 : Int) (l3056 : (List (List api_Span))) (ν3052 : Frz) (ad3054 : Option Addr) (cap3055 : Nat) (css3057 : List (List Value)), Fr 136 [] [(0, sv ad1 p0 cap2), (1, iv p1), (2, iv p2), (9, sv ad3054 l3056 cap3055), (10, sv ad449 l451 cap450), (12, iv x3053)] a ∧ St w0 [arr 43 1 (fN 1) ad3054 l3056.length cap3055 css3057, arr 43 1 (fN 1) ad449 l451.length cap450 css452, fz w0 ν3052] w ∧ (All2 (Rp43 ν3052) css3057 l3056) ∧ (ν448.le ν3052) ∧ (μ.ext w0.heap.size ν3052) ∧ (FrzIn w0 ν3052) ∧ ref03_Ray_L9 F p0 p1 p2 l451 n_ x3053 l3056 = some res) F ⟨0, l456, ν448, ad454, cap455, css457, hF.sub (by kernel_rfl), St.pick [0, 1, 2] (by decide) hS, hq458, hj3060, hext, hlow, h⟩ ?_
   clear hj3060
   rintro nk9 a w ⟨x3053, l3056, ν3052, ad3054, cap3055, css3057, hF, hS, hq3058, hle3059, hext, hlow, h⟩
   rcases nk9 with _ | nk9
   ·cases (show (none : Option ((List (List api_Span)) × Int)) = some res from h)
   replace hA4 := hA4.mono Rp43.mono hle3059
   replace hq31 := All2.mono Rp43.mono hle3059 hq31
   replace hq35 := All2.mono Rp43.mono hle3059 hq35
   replace hq453 := All2.mono Rp43.mono hle3059 hq453
   replace hq458 := All2.mono Rp43.mono hle3059 hq458
   replace hle459 := Frz.le_trans hle459 hle3059
   replace hj2673 := Frz.le_trans hj2673 hle3059
   obtain ⟨k9, hk9⟩ : ∃ k, k = ref03_Ray_L9 F p0 p1 p2 l451 nk9 := ⟨_, rfl⟩
   replace h : ref03_Ray_B9 F p0 p1 p2 l451 k9 x3053 l3056 = some res := by rw [hk9]; exact h
   rw [ref03_Ray_B9] at h
   refine eseq ?_
   refine esr ?_
   refine rn 4 4 [(0, sv ad1 p0 cap2), (1, iv p1), (2, iv p2), (9, sv ad3054 l3056 cap3055), (10, sv ad449 l451 cap450), (12, iv x3053), (59, .bool (decide (x3053 < (ln p0))))] hF fun a hF => ?_
   refine wfn rfl ?_
   refine econd hF rfl (fun hc => ?_) (fun hc => ?_)
   ·replace h := bif_t h hc
    refine wpIn_skip (norm_then ?_)
    have hj3157 := Frz.le_refl ν3052
    refine ecut (fun a w => ∃ (l3152 : (List (List api_Span))) (ν3149 : Frz) (ad3150 : Option Addr) (cap3151 : Nat) (css3153 : List (List Value)), Fr 136 [] [(0, sv ad1 p0 cap2), (1, iv p1), (2, iv p2), (9, sv ad3150 l3152 cap3151), (10, sv ad449 l451 cap450), (12, iv x3053)] a ∧ St w0 [arr 43 1 (fN 1) ad3150 l3152.length cap3151 css3153, arr 43 1 (fN 1) ad449 l451.length cap450 css452, fz w0 ν3149] w ∧ (All2 (Rp43 ν3149) css3153 l3152) ∧ (ν3052.le ν3149) ∧ (μ.ext w0.heap.size ν3149) ∧ (FrzIn w0 ν3149) ∧ ref03_Ray_K10 x3053 k9 l3152 = some res) ?_ ?_
    ·skip
     refine wpIn_block ?_
     refine esr ?_
     replace h := bindS h
     obtain ⟨y3158, hy3158, h⟩ := h
     refine rx 5 [.call [] 73 #[sv ad1 p0 cap2, iv x3053, iv p2] (iv y3158)] 5 [(0, sv ad1 p0 cap2), (1, iv p1), (2, iv p2), (9, sv ad3054 l3056 cap3055), (10, sv ad449 l451 cap450), (12, iv x3053), (13, iv y3158)] hF (ocons (show Ob.ok _ Ext _ _ from fun hk w2 hd => ref03_Next_ok F p0 x3053 p2 _ ((fun _ => hy3158) hk) _ w2 (memOf_at w2) (hA4.mono Rp43.mono (FrzAt.le_mem ((hS.later hd).frz (i := 2) rfl hlow)))) onil) fun a w hF hx => ?_
     replace hS := hS.later hx
     refine wfn rfl ?_
     refine esr ?_
     refine rn 2 2 [(0, sv ad1 p0 cap2), (1, iv p1), (2, iv p2), (9, sv ad3054 l3056 cap3055), (10, sv ad449 l451 cap450), (12, iv x3053), (13, iv y3158), (67, .bool (decide (y3158 ≥ 0)))] hF fun a hF => ?_
     refine wfn rfl ?_
     refine econd hF rfl (fun hc => ?_) (fun hc => ?_)
     ·replace h := bif_t h hc
      replace h := bindS h
      obtain ⟨u3159, hu3159, h⟩ := h
      replace h := bindS h
      obtain ⟨u3166, hu3166, h⟩ := h
      replace h := bindS h
      obtain ⟨x3173, hx3173, h⟩ := h
      replace h := bindS h
      obtain ⟨x3174, hx3174, h⟩ := h
      replace h := bindS h
      obtain ⟨y3176, hy3176, h⟩ := h
      replace h := bindS h
      obtain ⟨y3180, hy3180, h⟩ := h
      replace h := bindS h
      obtain ⟨u3183, hu3183, h⟩ := h
      refine region_treeW 18 [15, 16] _ (D := fun w => St w0 [arr 43 1 (fN 1) ad3054 l3056.length cap3055 css3057, arr 43 1 (fN 1) ad449 l451.length cap450 css452] w ∧ FrzAt ν3052 w) (by kernel_rfl) (by kernel_rfl) hF.size (fun w hx => ?_) (fun _ _ h => h)
      replace hS := hS.later hx
      refine ⟨⟨St.pick [0, 1] (by decide) hS, hS.frz (i := 2) rfl hlow⟩, ?_⟩
      have hcl3214 := Frz.le_refl ν3052
      obtain ⟨cs3215, hcs3216, hR3217⟩ := getI_all2 hA4.2 hu3159
      obtain ⟨ad3218, cap3219, rfl, hA3220⟩ := hR3217
      obtain ⟨cs3221, hcs3222, hR3223⟩ := getI_all2 hq3058 hu3166
      obtain ⟨ad3224, cap3225, rfl, hA3226⟩ := hR3223
      refine WT.s [0, 1, 2, 3, 4, 5, 6, 7, 8, 9, 10, 11, 12, 13, 14] [15] (by kernel_rfl) (by kernel_rfl) ?_
      refine runC (rest := []) (obs := [.run [] (Instr.indexAt 48 (sv ad1 p0 cap2) (iv y3158)) (.pointer (some (slAddr ad1 y3158 1))), .run [] (Instr.loadAt 43 (.pointer (some (slAddr ad1 y3158 1)))) (sv ad3218 u3159 cap3219), .run [] (Instr.indexAt 48 (sv ad3054 l3056 cap3055) (iv x3053)) (.pointer (some (slAddr ad3054 x3053 1))), .run [] (Instr.loadAt 43 (.pointer (some (slAddr ad3054 x3053 1)))) (sv ad3224 u3166 cap3225), .run [] (binOp .sub 3 (iv y3158) (iv x3053)) (iv x3173), .run [] (binOp .mul 3 (iv p1) (iv x3173)) (iv x3174)]) [0, 1, 2, 3, 4, 5, 6, 7, 8, 9, 10, 11, 12, 13, 14] [(0, sv ad1 p0 cap2), (1, iv p1), (2, iv p2), (9, sv ad3054 l3056 cap3055), (10, sv ad449 l451 cap450), (12, iv x3053), (68, sv ad3054 l3056 cap3055), (69, iv y3158), (73, sv ad3218 u3159 cap3219), (77, sv ad3224 u3166 cap3225), (82, iv x3174)] hF (by kernel_rfl) (by kernel_rfl) (ocons (obIdxQ (hA4.at (hS.frz (i := 2) rfl hlow)) (by kernel_rfl) (fun _ => hcs3216)) (ocons (obElQ (i := y3158) 0 (fN_len 1) (fun _ hd => (hA4.at hd.2)) (by kernel_rfl) (fun _ => hcs3216) rfl) (ocons (obIdxQ (hS.arr (i := 0) rfl) (by kernel_rfl) (fun _ => hcs3222)) (ocons (obElQ (i := x3053) 0 (fN_len 1) (fun _ hd => (hd.1.arr (i := 0) rfl)) (by kernel_rfl) (fun _ => hcs3222) rfl) (ocons (obSubC (fun _ => hx3173)) (ocons (obMulC (fun _ => hx3174)) onil)))))) ⟨by kernel_rfl⟩ fun a hF => ?_
      refine WRun.fin ?_
      refine all_cons ?_ (all_nil)
      refine callK (f := 75) (args := #[sv ad3224 u3166 cap3225, iv x3174]) (R := fun v w2 => ∃ ad3228 cap3229, v = sv ad3228 y3176 cap3229 ∧ St w [arr 25 2 api_Span.cells ad3228 y3176.length cap3229 y3176] w2) (fun v3227 => [(0, sv ad1 p0 cap2), (1, iv p1), (2, iv p2), (9, sv ad3054 l3056 cap3055), (10, sv ad449 l451 cap450), (12, iv x3053), (68, sv ad3054 l3056 cap3055), (69, iv y3158), (73, sv ad3218 u3159 cap3219), (83, v3227)]) hF (by kernel_rfl) ⟨by kernel_rfl⟩ (Calls.mono (ref03_wide_ok F u3166 x3174 _ hy3176 (memOf w) w (memOf_at w) (hA3226.mono (FrzAt.le_mem (hS.frz (i := 2) rfl hlow)))) (by rintro e w2 ⟨ad3228, cap3229, rfl, h⟩; exact ⟨_, rfl, ad3228, cap3229, rfl, h⟩)) (fun _ => ⟨by kernel_rfl⟩) ?_
      rintro v3227 w a ⟨ad3228, cap3229, rfl, hQ⟩ hF
      replace hS : St w0 [arr 25 2 api_Span.cells ad3228 y3176.length cap3229 y3176, arr 43 1 (fN 1) ad3054 l3056.length cap3055 css3057, arr 43 1 (fN 1) ad449 l451.length cap450 css452, fz w0 ν3052] w := hS.madeL hQ
      refine ⟨⟨St.pick [1, 2] (by decide) hS, (hS.frz (i := 3) rfl hlow)⟩, ?_⟩
      refine WT.s [] [16] (by kernel_rfl) (by kernel_rfl) ?_
      refine WRun.fin ?_
      refine all_cons ?_ (all_nil)
      refine callK (f := 74) (args := #[sv ad3218 u3159 cap3219, sv ad3228 y3176 cap3229]) (R := fun v w2 => ∃ ad3231 cap3232, v = sv ad3231 y3180 cap3232 ∧ St w [arr 25 2 api_Span.cells ad3231 y3180.length cap3232 y3180] w2) (fun v3230 => [(0, sv ad1 p0 cap2), (1, iv p1), (2, iv p2), (9, sv ad3054 l3056 cap3055), (10, sv ad449 l451 cap450), (12, iv x3053), (68, sv ad3054 l3056 cap3055), (69, iv y3158), (84, v3230)]) hF (by kernel_rfl) ⟨by kernel_rfl⟩ (Calls.mono (ref03_meet_ok F u3159 y3176 _ hy3180 (memOf w) w (memOf_at w) (hA3220.mono (FrzAt.le_mem (hS.frz (i := 3) rfl hlow))) (Arr.toM (hS.arr (i := 0) rfl))) (by rintro e w2 ⟨ad3231, cap3232, rfl, h⟩; exact ⟨_, rfl, ad3231, cap3232, rfl, h⟩)) (fun _ => ⟨by kernel_rfl⟩) ?_
      rintro v3230 w a ⟨ad3231, cap3232, rfl, hQ⟩ hF
      replace hS : St w0 [arr 25 2 api_Span.cells ad3231 y3180.length cap3232 y3180, arr 25 2 api_Span.cells ad3228 y3176.length cap3229 y3176, arr 43 1 (fN 1) ad3054 l3056.length cap3055 css3057, arr 43 1 (fN 1) ad449 l451.length cap450 css452, fz w0 ν3052] w := hS.madeL hQ
      refine ⟨⟨St.pick [2, 3] (by decide) hS, (hS.frz (i := 4) rfl hlow)⟩, ?_⟩
      obtain ⟨cs3233, hcs3234, hR3235⟩ := getI_all2 hq3058 hu3183
      obtain ⟨ad3236, cap3237, rfl, hA3238⟩ := hR3235
      refine WT.z [17] (by kernel_rfl) ?_
      refine runC (rest := []) (obs := [.run [] (Instr.indexAt 48 (sv ad3054 l3056 cap3055) (iv y3158)) (.pointer (some (slAddr ad3054 y3158 1)))]) [17] [(0, sv ad1 p0 cap2), (1, iv p1), (2, iv p2), (9, sv ad3054 l3056 cap3055), (10, sv ad449 l451 cap450), (12, iv x3053), (84, sv ad3231 y3180 cap3232), (85, .pointer (some (slAddr ad3054 y3158 1)))] hF (by kernel_rfl) (by kernel_rfl) (ocons (obIdxQ (hS.arr (i := 2) rfl) (by kernel_rfl) (fun _ => hcs3234)) onil) ⟨by kernel_rfl⟩ fun a hF => ?_
      refine WRun.fin ?_
      obtain ⟨ν3239, hx3240, hlow, hS, hz3241⟩ := hS.freeze (i := 4) (j := 0) rfl rfl (by decide) hlow
      replace hA4 := hA4.mono Rp43.mono hx3240.1
      replace hq31 := All2.mono Rp43.mono hx3240.1 hq31
      replace hq35 := All2.mono Rp43.mono hx3240.1 hq35
      replace hq453 := All2.mono Rp43.mono hx3240.1 hq453
      replace hq458 := All2.mono Rp43.mono hx3240.1 hq458
      replace hq3058 := All2.mono Rp43.mono hx3240.1 hq3058
      replace hA3220 := hA3220.mono hx3240.1
      replace hA3226 := hA3226.mono hx3240.1
      replace hA3238 := hA3238.mono hx3240.1
      replace hle459 := Frz.le_trans hle459 hx3240.1
      replace hj2673 := Frz.le_trans hj2673 hx3240.1
      replace hle3059 := Frz.le_trans hle3059 hx3240.1
      replace hj3157 := Frz.le_trans hj3157 hx3240.1
      replace hext := Frz.ext_trans hext hx3240
      replace hS : St w0 [arr 25 2 api_Span.cells ad3228 y3176.length cap3229 y3176, arr 43 1 (fN 1) ad3054 l3056.length cap3055 css3057, arr 43 1 (fN 1) ad449 l451.length cap450 css452, fz w0 ν3239] w := hS
      have hA3242 := ArrM.of_arr hz3241
      replace h := bindS h
      obtain ⟨l3243, hl3243, h⟩ := h
      refine SK.wi (setQK (j := y3158) (t := 43) [(0, sv ad1 p0 cap2), (1, iv p1), (2, iv p2), (9, sv ad3054 l3056 cap3055), (10, sv ad449 l451 cap450), (12, iv x3053)] 1 0 [sv ad3236 u3183 cap3237] [sv ad3231 y3180 cap3232] y3180 (sv ad3231 y3180 cap3232) (S := Rp43 ν3239) hq3058 ⟨ad3231, cap3232, rfl, hA3242⟩ hF hS rfl (by kernel_rfl) ⟨by kernel_rfl⟩ (fN_len 1) hcs3234 rfl (by kernel_rfl) (by kernel_rfl) (by kernel_rfl) hl3243 ⟨by kernel_rfl⟩ fun css3244 w a hF hl hq3245 hS => ?_)
      simp only [sv, ln, hl] at hF hS
      refine WI.fin rfl (norm_block <| norm_then <| ?_)
      exact ⟨l3243, ν3239, ad3054, cap3055, css3244, hF.sub (by kernel_rfl), St.pick [1, 2, 3] (by decide) hS, hq3245, hj3157, hext, hlow, h⟩
     ·replace h := bif_f h hc
      refine wpIn_skip (norm_block <| norm_then <| ?_)
      exact ⟨l3056, ν3052, ad3054, cap3055, css3057, hF.sub (by kernel_rfl), St.pick [0, 1, 2] (by decide) hS, hq3058, hj3157, hext, hlow, h⟩
    clear hj3157
    rintro a w ⟨l3152, ν3149, ad3150, cap3151, css3153, hF, hS, hq3154, hle3155, hext, hlow, h⟩
    replace hA4 := hA4.mono Rp43.mono hle3155
    replace hq31 := All2.mono Rp43.mono hle3155 hq31
    replace hq35 := All2.mono Rp43.mono hle3155 hq35
    replace hq453 := All2.mono Rp43.mono hle3155 hq453
    replace hq458 := All2.mono Rp43.mono hle3155 hq458
    replace hq3058 := All2.mono Rp43.mono hle3155 hq3058
    replace hle459 := Frz.le_trans hle459 hle3155
    replace hj2673 := Frz.le_trans hj2673 hle3155
    replace hle3059 := Frz.le_trans hle3059 hle3155
    rw [ref03_Ray_K10] at h
    refine WI.region ?_
    replace h := bindS h
    obtain ⟨x3156, hx3156, h⟩ := h
    refine rno 3 [.run [] (binOp .add 3 (iv x3053) (iv 1)) (iv x3156)] 3 [(0, sv ad1 p0 cap2), (1, iv p1), (2, iv p2), (9, sv ad3150 l3152 cap3151), (10, sv ad449 l451 cap450), (12, iv x3156)] hF (ocons (obAddC (fun _ => hx3156)) onil) fun a hF => ?_
    refine wfn rfl ?_
    rw [hk9] at h
    exact ⟨nk9, Nat.lt_succ_self _, x3156, l3152, ν3149, ad3150, cap3151, css3153, hF.sub (by kernel_rfl), St.pick [0, 1, 2] (by decide) hS, hq3154, hle3059, hext, hlow, h⟩
   ·replace h := bif_f h hc
    refine wpIn_exit (exit_then <| exit_then <| exit_hit <| norm_then ?_)
    exact ⟨l3056, ν3052, ad3054, cap3055, css3057, hF.sub (by kernel_rfl), St.pick [0, 1, 2] (by decide) hS, hq3058, hj2673, hext, hlow, h⟩
  clear hj2673
  rintro a w ⟨l1035, ν1032, ad1033, cap1034, css1036, hF, hS, hq1037, hle1038, hext, hlow, h⟩
  replace hA4 := hA4.mono Rp43.mono hle1038
  replace hq31 := All2.mono Rp43.mono hle1038 hq31
  replace hq35 := All2.mono Rp43.mono hle1038 hq35
  replace hq453 := All2.mono Rp43.mono hle1038 hq453
  replace hq458 := All2.mono Rp43.mono hle1038 hq458
  replace hle459 := Frz.le_trans hle459 hle1038
  rw [ref03_Ray_K3] at h
  have hj2099 := Frz.le_refl ν1032
  refine ecut (fun a w => ∃ (l1615 : (List (List api_Span))) (ν1612 : Frz) (ad1613 : Option Addr) (cap1614 : Nat) (css1616 : List (List Value)), Fr 136 [] [(0, sv ad1 p0 cap2), (9, sv ad1033 l1035 cap1034), (10, sv ad1613 l1615 cap1614)] a ∧ St w0 [arr 43 1 (fN 1) ad1613 l1615.length cap1614 css1616, arr 43 1 (fN 1) ad1033 l1035.length cap1034 css1036, fz w0 ν1612] w ∧ (All2 (Rp43 ν1612) css1616 l1615) ∧ (ν1032.le ν1612) ∧ (μ.ext w0.heap.size ν1612) ∧ (FrzIn w0 ν1612) ∧ ref03_Ray_K4 F p0 l1035 l1615 = some res) ?_ ?_
  ·skip
   refine esr ?_
   replace h := bindS h
   obtain ⟨x2100, hx2100, h⟩ := h
   refine rno 4 [.run [] (binOp .sub 3 (iv (ln p0)) (iv 1)) (iv x2100)] 4 [(0, sv ad1 p0 cap2), (1, iv p1), (2, iv p2), (9, sv ad1033 l1035 cap1034), (10, sv ad449 l451 cap450), (14, iv x2100)] hF (ocons (obSubC (fun _ => hx2100)) onil) fun a hF => ?_
   refine wfn rfl ?_
   refine wpIn_block ?_
   have hj2487 := Frz.le_refl ν1032
   refine eloop (fun n_ a w => ∃ (l2482 : (List (List api_Span))) (x2485 : Int) (ν2479 : Frz) (ad2480 : Option Addr) (cap2481 : Nat) (css2483 : List (List Value)), Fr 136 [] [(0, sv ad1 p0 cap2), (1, iv p1), (2, iv p2), (9, sv ad1033 l1035 cap1034), (10, sv ad2480 l2482 cap2481), (14, iv x2485)] a ∧ St w0 [arr 43 1 (fN 1) ad2480 l2482.length cap2481 css2483, arr 43 1 (fN 1) ad1033 l1035.length cap1034 css1036, fz w0 ν2479] w ∧ (All2 (Rp43 ν2479) css2483 l2482) ∧ (ν1032.le ν2479) ∧ (μ.ext w0.heap.size ν2479) ∧ (FrzIn w0 ν2479) ∧ ref03_Ray_L7 F p0 p1 p2 l1035 n_ l2482 x2485 = some res) F ⟨l451, x2100, ν1032, ad449, cap450, css452, hF.sub (by kernel_rfl), St.pick [1, 0, 2] (by decide) hS, hq453, hj2487, hext, hlow, h⟩ ?_
   clear hj2487
   rintro nk7 a w ⟨l2482, x2485, ν2479, ad2480, cap2481, css2483, hF, hS, hq2484, hle2486, hext, hlow, h⟩
   rcases nk7 with _ | nk7
   ·cases (show (none : Option ((List (List api_Span)) × Int)) = some res from h)
   replace hA4 := hA4.mono Rp43.mono hle2486
   replace hq31 := All2.mono Rp43.mono hle2486 hq31
   replace hq35 := All2.mono Rp43.mono hle2486 hq35
   replace hq453 := All2.mono Rp43.mono hle2486 hq453
   replace hq458 := All2.mono Rp43.mono hle2486 hq458
   replace hq1037 := All2.mono Rp43.mono hle2486 hq1037
   replace hle459 := Frz.le_trans hle459 hle2486
   replace hle1038 := Frz.le_trans hle1038 hle2486
   replace hj2099 := Frz.le_trans hj2099 hle2486
   obtain ⟨k7, hk7⟩ : ∃ k, k = ref03_Ray_L7 F p0 p1 p2 l1035 nk7 := ⟨_, rfl⟩
   replace h : ref03_Ray_B7 F p0 p1 p2 l1035 k7 l2482 x2485 = some res := by rw [hk7]; exact h
   rw [ref03_Ray_B7] at h
   refine eseq ?_
   refine esr ?_
   refine rn 2 2 [(0, sv ad1 p0 cap2), (1, iv p1), (2, iv p2), (9, sv ad1033 l1035 cap1034), (10, sv ad2480 l2482 cap2481), (14, iv x2485), (90, .bool (decide (x2485 ≥ 0)))] hF fun a hF => ?_
   refine wfn rfl ?_
   refine econd hF rfl (fun hc => ?_) (fun hc => ?_)
   ·replace h := bif_t h hc
    refine wpIn_skip (norm_then ?_)
    have hj2584 := Frz.le_refl ν2479
    refine ecut (fun a w => ∃ (l2579 : (List (List api_Span))) (ν2576 : Frz) (ad2577 : Option Addr) (cap2578 : Nat) (css2580 : List (List Value)), Fr 136 [] [(0, sv ad1 p0 cap2), (1, iv p1), (2, iv p2), (9, sv ad1033 l1035 cap1034), (10, sv ad2577 l2579 cap2578), (14, iv x2485)] a ∧ St w0 [arr 43 1 (fN 1) ad2577 l2579.length cap2578 css2580, arr 43 1 (fN 1) ad1033 l1035.length cap1034 css1036, fz w0 ν2576] w ∧ (All2 (Rp43 ν2576) css2580 l2579) ∧ (ν2479.le ν2576) ∧ (μ.ext w0.heap.size ν2576) ∧ (FrzIn w0 ν2576) ∧ ref03_Ray_K8 x2485 k7 l2579 = some res) ?_ ?_
    ·skip
     refine wpIn_block ?_
     refine esr ?_
     replace h := bindS h
     obtain ⟨y2585, hy2585, h⟩ := h
     refine rx 5 [.call [] 73 #[sv ad1 p0 cap2, iv x2485, iv p2] (iv y2585)] 5 [(0, sv ad1 p0 cap2), (1, iv p1), (2, iv p2), (9, sv ad1033 l1035 cap1034), (10, sv ad2480 l2482 cap2481), (14, iv x2485), (15, iv y2585)] hF (ocons (show Ob.ok _ Ext _ _ from fun hk w2 hd => ref03_Next_ok F p0 x2485 p2 _ ((fun _ => hy2585) hk) _ w2 (memOf_at w2) (hA4.mono Rp43.mono (FrzAt.le_mem ((hS.later hd).frz (i := 2) rfl hlow)))) onil) fun a w hF hx => ?_
     replace hS := hS.later hx
     refine wfn rfl ?_
     refine esr ?_
     refine rn 2 2 [(0, sv ad1 p0 cap2), (1, iv p1), (2, iv p2), (9, sv ad1033 l1035 cap1034), (10, sv ad2480 l2482 cap2481), (14, iv x2485), (15, iv y2585), (98, .bool (decide (y2585 ≥ 0)))] hF fun a hF => ?_
     refine wfn rfl ?_
     refine econd hF rfl (fun hc => ?_) (fun hc => ?_)
     ·replace h := bif_t h hc
      replace h := bindS h
      obtain ⟨u2586, hu2586, h⟩ := h
      replace h := bindS h
      obtain ⟨u2593, hu2593, h⟩ := h
      replace h := bindS h
      obtain ⟨x2600, hx2600, h⟩ := h
      replace h := bindS h
      obtain ⟨x2601, hx2601, h⟩ := h
      replace h := bindS h
      obtain ⟨y2603, hy2603, h⟩ := h
      replace h := bindS h
      obtain ⟨y2607, hy2607, h⟩ := h
      replace h := bindS h
      obtain ⟨u2610, hu2610, h⟩ := h
      refine region_treeW 18 [15, 16] _ (D := fun w => St w0 [arr 43 1 (fN 1) ad2480 l2482.length cap2481 css2483, arr 43 1 (fN 1) ad1033 l1035.length cap1034 css1036] w ∧ FrzAt ν2479 w) (by kernel_rfl) (by kernel_rfl) hF.size (fun w hx => ?_) (fun _ _ h => h)
      replace hS := hS.later hx
      refine ⟨⟨St.pick [0, 1] (by decide) hS, hS.frz (i := 2) rfl hlow⟩, ?_⟩
      have hcl2641 := Frz.le_refl ν2479
      obtain ⟨cs2642, hcs2643, hR2644⟩ := getI_all2 hA4.2 hu2586
      obtain ⟨ad2645, cap2646, rfl, hA2647⟩ := hR2644
      obtain ⟨cs2648, hcs2649, hR2650⟩ := getI_all2 hq2484 hu2593
      obtain ⟨ad2651, cap2652, rfl, hA2653⟩ := hR2650
      refine WT.s [0, 1, 2, 3, 4, 5, 6, 7, 8, 9, 10, 11, 12, 13, 14] [15] (by kernel_rfl) (by kernel_rfl) ?_
      refine runC (rest := []) (obs := [.run [] (Instr.indexAt 48 (sv ad1 p0 cap2) (iv x2485)) (.pointer (some (slAddr ad1 x2485 1))), .run [] (Instr.loadAt 43 (.pointer (some (slAddr ad1 x2485 1)))) (sv ad2645 u2586 cap2646), .run [] (Instr.indexAt 48 (sv ad2480 l2482 cap2481) (iv y2585)) (.pointer (some (slAddr ad2480 y2585 1))), .run [] (Instr.loadAt 43 (.pointer (some (slAddr ad2480 y2585 1)))) (sv ad2651 u2593 cap2652), .run [] (binOp .sub 3 (iv y2585) (iv x2485)) (iv x2600), .run [] (binOp .mul 3 (iv p1) (iv x2600)) (iv x2601)]) [0, 1, 2, 3, 4, 5, 6, 7, 8, 9, 10, 11, 12, 13, 14] [(0, sv ad1 p0 cap2), (1, iv p1), (2, iv p2), (9, sv ad1033 l1035 cap1034), (10, sv ad2480 l2482 cap2481), (14, iv x2485), (99, sv ad2480 l2482 cap2481), (100, iv x2485), (104, sv ad2645 u2586 cap2646), (108, sv ad2651 u2593 cap2652), (113, iv x2601)] hF (by kernel_rfl) (by kernel_rfl) (ocons (obIdxQ (hA4.at (hS.frz (i := 2) rfl hlow)) (by kernel_rfl) (fun _ => hcs2643)) (ocons (obElQ (i := x2485) 0 (fN_len 1) (fun _ hd => (hA4.at hd.2)) (by kernel_rfl) (fun _ => hcs2643) rfl) (ocons (obIdxQ (hS.arr (i := 0) rfl) (by kernel_rfl) (fun _ => hcs2649)) (ocons (obElQ (i := y2585) 0 (fN_len 1) (fun _ hd => (hd.1.arr (i := 0) rfl)) (by kernel_rfl) (fun _ => hcs2649) rfl) (ocons (obSubC (fun _ => hx2600)) (ocons (obMulC (fun _ => hx2601)) onil)))))) ⟨by kernel_rfl⟩ fun a hF => ?_
      refine WRun.fin ?_
      refine all_cons ?_ (all_nil)
      refine callK (f := 75) (args := #[sv ad2651 u2593 cap2652, iv x2601]) (R := fun v w2 => ∃ ad2655 cap2656, v = sv ad2655 y2603 cap2656 ∧ St w [arr 25 2 api_Span.cells ad2655 y2603.length cap2656 y2603] w2) (fun v2654 => [(0, sv ad1 p0 cap2), (1, iv p1), (2, iv p2), (9, sv ad1033 l1035 cap1034), (10, sv ad2480 l2482 cap2481), (14, iv x2485), (99, sv ad2480 l2482 cap2481), (100, iv x2485), (104, sv ad2645 u2586 cap2646), (114, v2654)]) hF (by kernel_rfl) ⟨by kernel_rfl⟩ (Calls.mono (ref03_wide_ok F u2593 x2601 _ hy2603 (memOf w) w (memOf_at w) (hA2653.mono (FrzAt.le_mem (hS.frz (i := 2) rfl hlow)))) (by rintro e w2 ⟨ad2655, cap2656, rfl, h⟩; exact ⟨_, rfl, ad2655, cap2656, rfl, h⟩)) (fun _ => ⟨by kernel_rfl⟩) ?_
      rintro v2654 w a ⟨ad2655, cap2656, rfl, hQ⟩ hF
      replace hS : St w0 [arr 25 2 api_Span.cells ad2655 y2603.length cap2656 y2603, arr 43 1 (fN 1) ad2480 l2482.length cap2481 css2483, arr 43 1 (fN 1) ad1033 l1035.length cap1034 css1036, fz w0 ν2479] w := hS.madeL hQ
      refine ⟨⟨St.pick [1, 2] (by decide) hS, (hS.frz (i := 3) rfl hlow)⟩, ?_⟩
      refine WT.s [] [16] (by kernel_rfl) (by kernel_rfl) ?_
      refine WRun.fin ?_
      refine all_cons ?_ (all_nil)
      refine callK (f := 74) (args := #[sv ad2645 u2586 cap2646, sv ad2655 y2603 cap2656]) (R := fun v w2 => ∃ ad2658 cap2659, v = sv ad2658 y2607 cap2659 ∧ St w [arr 25 2 api_Span.cells ad2658 y2607.length cap2659 y2607] w2) (fun v2657 => [(0, sv ad1 p0 cap2), (1, iv p1), (2, iv p2), (9, sv ad1033 l1035 cap1034), (10, sv ad2480 l2482 cap2481), (14, iv x2485), (99, sv ad2480 l2482 cap2481), (100, iv x2485), (115, v2657)]) hF (by kernel_rfl) ⟨by kernel_rfl⟩ (Calls.mono (ref03_meet_ok F u2586 y2603 _ hy2607 (memOf w) w (memOf_at w) (hA2647.mono (FrzAt.le_mem (hS.frz (i := 3) rfl hlow))) (Arr.toM (hS.arr (i := 0) rfl))) (by rintro e w2 ⟨ad2658, cap2659, rfl, h⟩; exact ⟨_, rfl, ad2658, cap2659, rfl, h⟩)) (fun _ => ⟨by kernel_rfl⟩) ?_
      rintro v2657 w a ⟨ad2658, cap2659, rfl, hQ⟩ hF
      replace hS : St w0 [arr 25 2 api_Span.cells ad2658 y2607.length cap2659 y2607, arr 25 2 api_Span.cells ad2655 y2603.length cap2656 y2603, arr 43 1 (fN 1) ad2480 l2482.length cap2481 css2483, arr 43 1 (fN 1) ad1033 l1035.length cap1034 css1036, fz w0 ν2479] w := hS.madeL hQ
      refine ⟨⟨St.pick [2, 3] (by decide) hS, (hS.frz (i := 4) rfl hlow)⟩, ?_⟩
      obtain ⟨cs2660, hcs2661, hR2662⟩ := getI_all2 hq2484 hu2610
      obtain ⟨ad2663, cap2664, rfl, hA2665⟩ := hR2662
      refine WT.z [17] (by kernel_rfl) ?_
      refine runC (rest := []) (obs := [.run [] (Instr.indexAt 48 (sv ad2480 l2482 cap2481) (iv x2485)) (.pointer (some (slAddr ad2480 x2485 1)))]) [17] [(0, sv ad1 p0 cap2), (1, iv p1), (2, iv p2), (9, sv ad1033 l1035 cap1034), (10, sv ad2480 l2482 cap2481), (14, iv x2485), (115, sv ad2658 y2607 cap2659), (116, .pointer (some (slAddr ad2480 x2485 1)))] hF (by kernel_rfl) (by kernel_rfl) (ocons (obIdxQ (hS.arr (i := 2) rfl) (by kernel_rfl) (fun _ => hcs2661)) onil) ⟨by kernel_rfl⟩ fun a hF => ?_
      refine WRun.fin ?_
      obtain ⟨ν2666, hx2667, hlow, hS, hz2668⟩ := hS.freeze (i := 4) (j := 0) rfl rfl (by decide) hlow
      replace hA4 := hA4.mono Rp43.mono hx2667.1
      replace hq31 := All2.mono Rp43.mono hx2667.1 hq31
      replace hq35 := All2.mono Rp43.mono hx2667.1 hq35
      replace hq453 := All2.mono Rp43.mono hx2667.1 hq453
      replace hq458 := All2.mono Rp43.mono hx2667.1 hq458
      replace hq1037 := All2.mono Rp43.mono hx2667.1 hq1037
      replace hq2484 := All2.mono Rp43.mono hx2667.1 hq2484
      replace hA2647 := hA2647.mono hx2667.1
      replace hA2653 := hA2653.mono hx2667.1
      replace hA2665 := hA2665.mono hx2667.1
      replace hle459 := Frz.le_trans hle459 hx2667.1
      replace hle1038 := Frz.le_trans hle1038 hx2667.1
      replace hj2099 := Frz.le_trans hj2099 hx2667.1
      replace hle2486 := Frz.le_trans hle2486 hx2667.1
      replace hj2584 := Frz.le_trans hj2584 hx2667.1
      replace hext := Frz.ext_trans hext hx2667
      replace hS : St w0 [arr 25 2 api_Span.cells ad2655 y2603.length cap2656 y2603, arr 43 1 (fN 1) ad2480 l2482.length cap2481 css2483, arr 43 1 (fN 1) ad1033 l1035.length cap1034 css1036, fz w0 ν2666] w := hS
      have hA2669 := ArrM.of_arr hz2668
      replace h := bindS h
      obtain ⟨l2670, hl2670, h⟩ := h
      refine SK.wi (setQK (j := x2485) (t := 43) [(0, sv ad1 p0 cap2), (1, iv p1), (2, iv p2), (9, sv ad1033 l1035 cap1034), (10, sv ad2480 l2482 cap2481), (14, iv x2485)] 1 0 [sv ad2663 u2610 cap2664] [sv ad2658 y2607 cap2659] y2607 (sv ad2658 y2607 cap2659) (S := Rp43 ν2666) hq2484 ⟨ad2658, cap2659, rfl, hA2669⟩ hF hS rfl (by kernel_rfl) ⟨by kernel_rfl⟩ (fN_len 1) hcs2661 rfl (by kernel_rfl) (by kernel_rfl) (by kernel_rfl) hl2670 ⟨by kernel_rfl⟩ fun css2671 w a hF hl hq2672 hS => ?_)
      simp only [sv, ln, hl] at hF hS
      refine WI.fin rfl (norm_block <| norm_then <| ?_)
      exact ⟨l2670, ν2666, ad2480, cap2481, css2671, hF.sub (by kernel_rfl), St.pick [1, 2, 3] (by decide) hS, hq2672, hj2584, hext, hlow, h⟩
     ·replace h := bif_f h hc
      refine wpIn_skip (norm_block <| norm_then <| ?_)
      exact ⟨l2482, ν2479, ad2480, cap2481, css2483, hF.sub (by kernel_rfl), St.pick [0, 1, 2] (by decide) hS, hq2484, hj2584, hext, hlow, h⟩
    clear hj2584
    rintro a w ⟨l2579, ν2576, ad2577, cap2578, css2580, hF, hS, hq2581, hle2582, hext, hlow, h⟩
    replace hA4 := hA4.mono Rp43.mono hle2582
    replace hq31 := All2.mono Rp43.mono hle2582 hq31
    replace hq35 := All2.mono Rp43.mono hle2582 hq35
    replace hq453 := All2.mono Rp43.mono hle2582 hq453
    replace hq458 := All2.mono Rp43.mono hle2582 hq458
    replace hq1037 := All2.mono Rp43.mono hle2582 hq1037
    replace hq2484 := All2.mono Rp43.mono hle2582 hq2484
    replace hle459 := Frz.le_trans hle459 hle2582
    replace hle1038 := Frz.le_trans hle1038 hle2582
    replace hj2099 := Frz.le_trans hj2099 hle2582
    replace hle2486 := Frz.le_trans hle2486 hle2582
    rw [ref03_Ray_K8] at h
    refine WI.region ?_
    replace h := bindS h
    obtain ⟨x2583, hx2583, h⟩ := h
    refine rno 3 [.run [] (binOp .sub 3 (iv x2485) (iv 1)) (iv x2583)] 3 [(0, sv ad1 p0 cap2), (1, iv p1), (2, iv p2), (9, sv ad1033 l1035 cap1034), (10, sv ad2577 l2579 cap2578), (14, iv x2583)] hF (ocons (obSubC (fun _ => hx2583)) onil) fun a hF => ?_
    refine wfn rfl ?_
    rw [hk7] at h
    exact ⟨nk7, Nat.lt_succ_self _, l2579, x2583, ν2576, ad2577, cap2578, css2580, hF.sub (by kernel_rfl), St.pick [0, 1, 2] (by decide) hS, hq2581, hle2486, hext, hlow, h⟩
   ·replace h := bif_f h hc
    refine wpIn_exit (exit_then <| exit_then <| exit_hit <| norm_then ?_)
    exact ⟨l2482, ν2479, ad2480, cap2481, css2483, hF.sub (by kernel_rfl), St.pick [0, 1, 2] (by decide) hS, hq2484, hj2099, hext, hlow, h⟩
  clear hj2099
  rintro a w ⟨l1615, ν1612, ad1613, cap1614, css1616, hF, hS, hq1617, hle1618, hext, hlow, h⟩
  replace hA4 := hA4.mono Rp43.mono hle1618
  replace hq31 := All2.mono Rp43.mono hle1618 hq31
  replace hq35 := All2.mono Rp43.mono hle1618 hq35
  replace hq453 := All2.mono Rp43.mono hle1618 hq453
  replace hq458 := All2.mono Rp43.mono hle1618 hq458
  replace hq1037 := All2.mono Rp43.mono hle1618 hq1037
  replace hle459 := Frz.le_trans hle459 hle1618
  replace hle1038 := Frz.le_trans hle1038 hle1618
  rw [ref03_Ray_K4] at h
  refine esr ?_
  refine rn 1 1 [(0, sv ad1 p0 cap2), (9, sv ad1033 l1035 cap1034), (10, sv ad1613 l1615 cap1614), (16, .slice none 0 0)] hF fun a hF => ?_
  refine wfn rfl ?_
  have hj1862 := Frz.le_refl ν1612
  refine ecut (fun a w => ∃ (l1858 : (List (List api_Span))) (ν1855 : Frz) (ad1856 : Option Addr) (cap1857 : Nat) (css1859 : List (List Value)), Fr 136 [] [(16, sv ad1856 l1858 cap1857)] a ∧ St w0 [arr 43 1 (fN 1) ad1856 l1858.length cap1857 css1859, arr 43 1 (fN 1) ad1613 l1615.length cap1614 css1616, arr 43 1 (fN 1) ad1033 l1035.length cap1034 css1036, fz w0 ν1855] w ∧ (All2 (Rp43 ν1855) css1859 l1858) ∧ (ν1612.le ν1855) ∧ (μ.ext w0.heap.size ν1855) ∧ (FrzIn w0 ν1855) ∧ ref03_Ray_K5 l1858 = some res) ?_ ?_
  ·skip
   refine esr ?_
   refine rn 1 1 [(0, sv ad1 p0 cap2), (9, sv ad1033 l1035 cap1034), (10, sv ad1613 l1615 cap1614), (16, .slice none 0 0), (17, iv 0)] hF fun a hF => ?_
   refine wfn rfl ?_
   refine wpIn_block ?_
   have hj2025 := Frz.le_refl ν1612
   replace hS := hS.nilarr 43 1 (fN 1)
   refine eloop (fun n_ a w => ∃ (l2020 : (List (List api_Span))) (x2023 : Int) (ν2017 : Frz) (ad2018 : Option Addr) (cap2019 : Nat) (css2021 : List (List Value)), Fr 136 [] [(0, sv ad1 p0 cap2), (9, sv ad1033 l1035 cap1034), (10, sv ad1613 l1615 cap1614), (16, sv ad2018 l2020 cap2019), (17, iv x2023)] a ∧ St w0 [arr 43 1 (fN 1) ad2018 l2020.length cap2019 css2021, arr 43 1 (fN 1) ad1613 l1615.length cap1614 css1616, arr 43 1 (fN 1) ad1033 l1035.length cap1034 css1036, fz w0 ν2017] w ∧ (All2 (Rp43 ν2017) css2021 l2020) ∧ (ν1612.le ν2017) ∧ (μ.ext w0.heap.size ν2017) ∧ (FrzIn w0 ν2017) ∧ ref03_Ray_L6 F p0 l1035 l1615 n_ l2020 x2023 = some res) F ⟨[], 0, ν1612, none, 0, [], hF.sub (by kernel_rfl), St.pick [0, 1, 2, 3] (by decide) hS, All2.nil, hj2025, hext, hlow, h⟩ ?_
   clear hj2025
   rintro nk6 a w ⟨l2020, x2023, ν2017, ad2018, cap2019, css2021, hF, hS, hq2022, hle2024, hext, hlow, h⟩
   rcases nk6 with _ | nk6
   ·cases (show (none : Option ((List (List api_Span)) × Int)) = some res from h)
   replace hA4 := hA4.mono Rp43.mono hle2024
   replace hq31 := All2.mono Rp43.mono hle2024 hq31
   replace hq35 := All2.mono Rp43.mono hle2024 hq35
   replace hq453 := All2.mono Rp43.mono hle2024 hq453
   replace hq458 := All2.mono Rp43.mono hle2024 hq458
   replace hq1037 := All2.mono Rp43.mono hle2024 hq1037
   replace hq1617 := All2.mono Rp43.mono hle2024 hq1617
   replace hle459 := Frz.le_trans hle459 hle2024
   replace hle1038 := Frz.le_trans hle1038 hle2024
   replace hle1618 := Frz.le_trans hle1618 hle2024
   replace hj1862 := Frz.le_trans hj1862 hle2024
   obtain ⟨k6, hk6⟩ : ∃ k, k = ref03_Ray_L6 F p0 l1035 l1615 nk6 := ⟨_, rfl⟩
   replace h : ref03_Ray_B6 F p0 l1035 l1615 k6 l2020 x2023 = some res := by rw [hk6]; exact h
   rw [ref03_Ray_B6] at h
   refine eseq ?_
   refine esr ?_
   refine rn 4 4 [(0, sv ad1 p0 cap2), (9, sv ad1033 l1035 cap1034), (10, sv ad1613 l1615 cap1614), (16, sv ad2018 l2020 cap2019), (17, iv x2023), (120, .bool (decide (x2023 < (ln p0))))] hF fun a hF => ?_
   refine wfn rfl ?_
   refine econd hF rfl (fun hc => ?_) (fun hc => ?_)
   ·replace h := bif_t h hc
    refine wpIn_skip (norm_then ?_)
    refine eseq ?_
    refine wpIn_block ?_
    replace h := bindS h
    obtain ⟨u2026, hu2026, h⟩ := h
    replace h := bindS h
    obtain ⟨u2033, hu2033, h⟩ := h
    replace h := bindS h
    obtain ⟨y2041, hy2041, h⟩ := h
    refine region_treeW 11 [9, 10] _ (D := fun w => St w0 [arr 43 1 (fN 1) ad2018 l2020.length cap2019 css2021, arr 43 1 (fN 1) ad1613 l1615.length cap1614 css1616, arr 43 1 (fN 1) ad1033 l1035.length cap1034 css1036] w ∧ FrzAt ν2017 w) (by kernel_rfl) (by kernel_rfl) hF.size (fun w hx => ?_) (fun _ _ h => h)
    replace hS := hS.later hx
    refine ⟨⟨St.pick [0, 1, 2] (by decide) hS, hS.frz (i := 3) rfl hlow⟩, ?_⟩
    have hcl2071 := Frz.le_refl ν2017
    obtain ⟨cs2072, hcs2073, hR2074⟩ := getI_all2 hq1037 hu2026
    obtain ⟨ad2075, cap2076, rfl, hA2077⟩ := hR2074
    obtain ⟨cs2078, hcs2079, hR2080⟩ := getI_all2 hq1617 hu2033
    obtain ⟨ad2081, cap2082, rfl, hA2083⟩ := hR2080
    refine WT.s [0, 1, 2, 3, 4, 5, 6, 7, 8] [9] (by kernel_rfl) (by kernel_rfl) ?_
    refine runC (rest := []) (obs := [.run [] (Instr.indexAt 48 (sv ad1033 l1035 cap1034) (iv x2023)) (.pointer (some (slAddr ad1033 x2023 1))), .run [] (Instr.loadAt 43 (.pointer (some (slAddr ad1033 x2023 1)))) (sv ad2075 u2026 cap2076), .run [] (Instr.indexAt 48 (sv ad1613 l1615 cap1614) (iv x2023)) (.pointer (some (slAddr ad1613 x2023 1))), .run [] (Instr.loadAt 43 (.pointer (some (slAddr ad1613 x2023 1)))) (sv ad2081 u2033 cap2082)]) [0, 1, 2, 3, 4, 5, 6, 7, 8] [(0, sv ad1 p0 cap2), (9, sv ad1033 l1035 cap1034), (10, sv ad1613 l1615 cap1614), (16, sv ad2018 l2020 cap2019), (17, iv x2023), (123, sv ad2018 l2020 cap2019), (127, sv ad2075 u2026 cap2076), (131, sv ad2081 u2033 cap2082)] hF (by kernel_rfl) (by kernel_rfl) (ocons (obIdxQ (hS.arr (i := 2) rfl) (by kernel_rfl) (fun _ => hcs2073)) (ocons (obElQ (i := x2023) 0 (fN_len 1) (fun _ hd => (hd.1.arr (i := 2) rfl)) (by kernel_rfl) (fun _ => hcs2073) rfl) (ocons (obIdxQ (hS.arr (i := 1) rfl) (by kernel_rfl) (fun _ => hcs2079)) (ocons (obElQ (i := x2023) 0 (fN_len 1) (fun _ hd => (hd.1.arr (i := 1) rfl)) (by kernel_rfl) (fun _ => hcs2079) rfl) onil)))) ⟨by kernel_rfl⟩ fun a hF => ?_
    refine WRun.fin ?_
    refine all_cons ?_ (all_nil)
    refine callK (f := 74) (args := #[sv ad2075 u2026 cap2076, sv ad2081 u2033 cap2082]) (R := fun v w2 => ∃ ad2085 cap2086, v = sv ad2085 y2041 cap2086 ∧ St w [arr 25 2 api_Span.cells ad2085 y2041.length cap2086 y2041] w2) (fun v2084 => [(0, sv ad1 p0 cap2), (9, sv ad1033 l1035 cap1034), (10, sv ad1613 l1615 cap1614), (16, sv ad2018 l2020 cap2019), (17, iv x2023), (123, sv ad2018 l2020 cap2019), (132, v2084)]) hF (by kernel_rfl) ⟨by kernel_rfl⟩ (Calls.mono (ref03_meet_ok F u2026 u2033 _ hy2041 (memOf w) w (memOf_at w) (hA2077.mono (FrzAt.le_mem (hS.frz (i := 3) rfl hlow))) (hA2083.mono (FrzAt.le_mem (hS.frz (i := 3) rfl hlow)))) (by rintro e w2 ⟨ad2085, cap2086, rfl, h⟩; exact ⟨_, rfl, ad2085, cap2086, rfl, h⟩)) (fun _ => ⟨by kernel_rfl⟩) ?_
    rintro v2084 w a ⟨ad2085, cap2086, rfl, hQ⟩ hF
    replace hS : St w0 [arr 25 2 api_Span.cells ad2085 y2041.length cap2086 y2041, arr 43 1 (fN 1) ad2018 l2020.length cap2019 css2021, arr 43 1 (fN 1) ad1613 l1615.length cap1614 css1616, arr 43 1 (fN 1) ad1033 l1035.length cap1034 css1036, fz w0 ν2017] w := hS.madeL hQ
    refine ⟨⟨St.pick [1, 2, 3] (by decide) hS, (hS.frz (i := 4) rfl hlow)⟩, ?_⟩
    refine WT.s [] [10] (by kernel_rfl) (by kernel_rfl) ?_
    refine WRun.fin ?_
    refine all_cons ?_ (all_nil)
    obtain ⟨ν2088, hx2089, hlow, hS, hz2090⟩ := hS.freeze (i := 4) (j := 0) rfl rfl (by decide) hlow
    replace hA4 := hA4.mono Rp43.mono hx2089.1
    replace hq31 := All2.mono Rp43.mono hx2089.1 hq31
    replace hq35 := All2.mono Rp43.mono hx2089.1 hq35
    replace hq453 := All2.mono Rp43.mono hx2089.1 hq453
    replace hq458 := All2.mono Rp43.mono hx2089.1 hq458
    replace hq1037 := All2.mono Rp43.mono hx2089.1 hq1037
    replace hq1617 := All2.mono Rp43.mono hx2089.1 hq1617
    replace hq2022 := All2.mono Rp43.mono hx2089.1 hq2022
    replace hA2077 := hA2077.mono hx2089.1
    replace hA2083 := hA2083.mono hx2089.1
    replace hle459 := Frz.le_trans hle459 hx2089.1
    replace hle1038 := Frz.le_trans hle1038 hx2089.1
    replace hle1618 := Frz.le_trans hle1618 hx2089.1
    replace hj1862 := Frz.le_trans hj1862 hx2089.1
    replace hle2024 := Frz.le_trans hle2024 hx2089.1
    replace hcl2071 := Frz.le_trans hcl2071 hx2089.1
    replace hext := Frz.ext_trans hext hx2089
    replace hS : St w0 [arr 43 1 (fN 1) ad2018 l2020.length cap2019 css2021, arr 43 1 (fN 1) ad1613 l1615.length cap1614 css1616, arr 43 1 (fN 1) ad1033 l1035.length cap1034 css1036, fz w0 ν2088] w := hS
    have hA2091 := ArrM.of_arr hz2090
    have hq2092 : All2 (Rp43 ν2088) ([[sv ad2085 y2041 cap2086]] : List (List Value)) [y2041] := (All2.cons ⟨ad2085, cap2086, rfl, hA2091⟩ All2.nil)
    refine litQK (e := 43) (sz := 1) (f := fN 1) (t := 48) (len := 1) (fun b2087 => [(0, sv ad1 p0 cap2), (9, sv ad1033 l1035 cap1034), (10, sv ad1613 l1615 cap1614), (16, sv ad2018 l2020 cap2019), (17, iv x2023), (123, sv ad2018 l2020 cap2019), (133, sb b2087 1)]) #[(0, sv ad2085 y2041 cap2086)] #[sv ad2085 y2041 cap2086] ([[sv ad2085 y2041 cap2086]] : List (List Value)) ([y2041]) hF hS (by kernel_rfl) ⟨by kernel_rfl⟩ (by kernel_rfl) (fN_len 1) rfl rfl rfl (by kernel_rfl) (fun _ => ⟨by kernel_rfl⟩) fun b2087 w a hF hS => ⟨⟨St.pick [1, 2, 3] (by decide) hS, (hS.frz (i := 4) rfl hlow).low hcl2071⟩, ?_⟩
    refine WT.z [] (by kernel_rfl) ?_
    refine WRun.fin ?_
    replace h := bindS h
    obtain ⟨l2093, hl2093, h⟩ := h
    have hq2097 : All2 (Rp43 ν2088) (css2021 ++ ([[sv ad2085 y2041 cap2086]] : List (List Value))) l2093 := by rw [(apd_some hl2093).1]; exact All2.app hq2022 hq2092
    refine SK.wi (appQK (t := 48) (ty := 48) (bytes := 24) (c := css2021) (c' := ([[sv ad2085 y2041 cap2086]] : List (List Value))) (l := l2020) (l' := ([y2041])) (fun ad2094 cap2095 => [(0, sv ad1 p0 cap2), (9, sv ad1033 l1035 cap1034), (10, sv ad1613 l1615 cap1614), (16, sv ad2018 l2020 cap2019), (17, iv x2023), (134, sv ad2094 l2093 cap2095)]) 1 hF hS rfl (by kernel_rfl) ⟨by kernel_rfl⟩ (by kernel_rfl) (hS.arr (i := 0) rfl) (ArrQ.one hq2092 Rp43.one) hl2093 (fun _ _ => ⟨by kernel_rfl⟩) fun ad2094 cap2095 w a hF hS => ?_)
    refine rn 1 13 [(0, sv ad1 p0 cap2), (9, sv ad1033 l1035 cap1034), (10, sv ad1613 l1615 cap1614), (16, sv ad2094 l2093 cap2095), (17, iv x2023)] hF fun a hF => ?_
    refine WI.fin rfl (norm_block <| norm_then <| ?_)
    refine WI.region ?_
    replace h := bindS h
    obtain ⟨x2098, hx2098, h⟩ := h
    refine rno 3 [.run [] (binOp .add 3 (iv x2023) (iv 1)) (iv x2098)] 3 [(0, sv ad1 p0 cap2), (9, sv ad1033 l1035 cap1034), (10, sv ad1613 l1615 cap1614), (16, sv ad2094 l2093 cap2095), (17, iv x2098)] hF (ocons (obAddC (fun _ => hx2098)) onil) fun a hF => ?_
    refine wfn rfl ?_
    rw [hk6] at h
    exact ⟨nk6, Nat.lt_succ_self _, l2093, x2098, ν2088, ad2094, cap2095, (css2021 ++ ([[sv ad2085 y2041 cap2086]] : List (List Value))), hF.sub (by kernel_rfl), St.pick [1, 2, 3, 4] (by decide) hS, hq2097, hle2024, hext, hlow, h⟩
   ·replace h := bif_f h hc
    refine wpIn_exit (exit_then <| exit_then <| exit_hit <| norm_then ?_)
    exact ⟨l2020, ν2017, ad2018, cap2019, css2021, hF.sub (by kernel_rfl), St.pick [0, 1, 2, 3] (by decide) hS, hq2022, hj1862, hext, hlow, h⟩
  clear hj1862
  rintro a w ⟨l1858, ν1855, ad1856, cap1857, css1859, hF, hS, hq1860, hle1861, hext, hlow, h⟩
  replace hA4 := hA4.mono Rp43.mono hle1861
  replace hq31 := All2.mono Rp43.mono hle1861 hq31
  replace hq35 := All2.mono Rp43.mono hle1861 hq35
  replace hq453 := All2.mono Rp43.mono hle1861 hq453
  replace hq458 := All2.mono Rp43.mono hle1861 hq458
  replace hq1037 := All2.mono Rp43.mono hle1861 hq1037
  replace hq1617 := All2.mono Rp43.mono hle1861 hq1617
  replace hle459 := Frz.le_trans hle459 hle1861
  replace hle1038 := Frz.le_trans hle1038 hle1861
  replace hle1618 := Frz.le_trans hle1618 hle1861
  rw [ref03_Ray_K5] at h
  refine esr ?_
  refine rn 3 3 [(6, sv ad1856 l1858 cap1857), (7, iv 0)] hF fun a hF => ?_
  refine wfn rfl ?_
  refine wpIn_ret (fn_ret [.tmp 6, .tmp 7] [sv ad1856 l1858 cap1857, iv 0] hF rfl ⟨rfl, rfl, trivial⟩ ?_)
  have hr_ := Option.some.inj h
  subst hr_
  exact ⟨ν1855, _, _, _, hext, rfl, hq1860, St.pick [3, 0] (by decide) hS⟩
end Go.Proofs.Ytbhjgebjojdohaa
