/- Walks, written by program (wip/gen/dec.py). -/
import Derived.Test.YtbhjgebjojdohaaF9XD
import Derived.Test.YtbhjgebjojdohaaProg
import Derived.Test.YtbhjgebjojdohaaF9XW0
import Derived.Test.YtbhjgebjojdohaaF9XW1
namespace Go.Proofs.Ytbhjgebjojdohaa
open Go Go.RowKit Go.Eng
set_option maxRecDepth 10000
set_option maxHeartbeats 4000000
set_option linter.unusedVariables false
set_option linter.unusedSimpArgs false
theorem fold_speeds_wide_ok (F : Nat) (p0 : (List api_Span)) (p1 : Int) (res : (List api_Span)) (h : fold_speeds_wide F p0 p1 = some res) (μ : Frz) (w0 : World) (hm : FrzAt μ w0) {ad1 : Option Addr} {cap2 : Nat} (hA3 : ArrM μ 2 api_Span.cells ad1 cap2 p0) : Calls Try.prog 103 #[sv ad1 p0 cap2, iv p1] w0 (fun e w => ∃ zad0 zcap0, e = .returned (sv zad0 res zcap0) ∧ St w0 [arr 25 2 api_Span.cells zad0 res.length zcap0 res] w) := by
 obtain ⟨hlow, hS⟩ := hm.init
 have hext := Frz.ext_refl w0.heap.size μ
 rw [fold_speeds_wide] at h
 refine fn_enterW Try.func103 rfl 29 [(0, sv ad1 p0 cap2), (1, iv p1)] rfl rfl (by kernel_rfl) fun a w hw hF => ?_
 replace hS : St w0 [fz w0 μ] w := by rw [hw]; exact hS
 clear hw
 refine esr ?_
 refine rn 1 1 [(0, sv ad1 p0 cap2), (1, iv p1)] hF fun a hF => ?_
 refine wfn rfl ?_
 refine esr ?_
 refine rn 1 1 [(0, sv ad1 p0 cap2), (1, iv p1), (5, .slice none 0 0)] hF fun a hF => ?_
 refine wfn rfl ?_
 refine ecut (fun a w => ∃ (l42 : (List api_Span)) (ad40 : Option Addr) (cap41 : Nat), Fr 29 [] [(5, sv ad40 l42 cap41)] a ∧ St w0 [arr 25 2 api_Span.cells ad40 l42.length cap41 l42, fz w0 μ] w ∧ fold_speeds_wide_K1 F l42 = some res) ?_ ?_
 ·skip
  refine esr ?_
  refine rn 3 3 [(1, iv p1), (5, .slice none 0 0), (8, sv ad1 p0 cap2), (9, iv (ln p0)), (10, iv 0)] hF fun a hF => ?_
  refine wfn rfl ?_
  refine wpIn_block ?_
  replace hS := hS.nilarr 25 2 api_Span.cells
  refine eloop (fun n_ a w => ∃ (x70 : Int) (l73 : (List api_Span)) (ad71 : Option Addr) (cap72 : Nat), Fr 29 [] [(1, iv p1), (5, sv ad71 l73 cap72), (8, sv ad1 p0 cap2), (9, iv (ln p0)), (10, iv x70)] a ∧ St w0 [arr 25 2 api_Span.cells ad71 l73.length cap72 l73, fz w0 μ] w ∧ fold_speeds_wide_L2 F p0 p1 n_ x70 l73 = some res) F ⟨0, [], none, 0, hF.sub (by kernel_rfl), St.pick [0, 1] (by decide) hS, h⟩ ?_
  rintro nk2 a w ⟨x70, l73, ad71, cap72, hF, hS, h⟩
  rcases nk2 with _ | nk2
  ·cases (show (none : Option (List api_Span)) = some res from h)
  obtain ⟨k2, hk2⟩ : ∃ k, k = fold_speeds_wide_L2 F p0 p1 nk2 := ⟨_, rfl⟩
  replace h : fold_speeds_wide_B2 F p0 p1 k2 x70 l73 = some res := by rw [hk2]; exact h
  rw [fold_speeds_wide_B2] at h
  refine esr ?_
  refine rn 1 1 [(1, iv p1), (5, sv ad71 l73 cap72), (8, sv ad1 p0 cap2), (9, iv (ln p0)), (10, iv x70), (11, .bool (decide (x70 < (ln p0))))] hF fun a hF => ?_
  refine wfn rfl ?_
  refine eseq ?_
  refine econd hF rfl (fun hc => ?_) (fun hc => ?_)
  ·replace h := bif_t h hc
   refine wpIn_skip (norm_then ?_)
   refine eseq ?_
   refine wpIn_block ?_
   refine esr ?_
   replace h := bindS h
   obtain ⟨u75, hu75, h⟩ := h
   refine rno 2 [.run [] (Instr.indexAt 132 (sv ad1 p0 cap2) (iv x70)) (.pointer (some (slAddr ad1 x70 2))), .run [] (Instr.loadAt 25 (.pointer (some (slAddr ad1 x70 2)))) (.agg #[iv u75.Lo, iv u75.Hi])] 2 [(1, iv p1), (5, sv ad71 l73 cap72), (8, sv ad1 p0 cap2), (9, iv (ln p0)), (10, iv x70), (13, .agg #[iv u75.Lo, iv u75.Hi])] hF (ocons (obIdxQ (hA3 _ (hS.frz (i := 1) rfl hlow)) (by kernel_rfl) (fun _ => hu75)) (ocons (obElNQ (m := 2) (i := x70) (us := [iv u75.Lo, iv u75.Hi]) 0 api_Span.cells_len (fun _ hd => (hA3 _ ((hS.at_ hd).frz (i := 1) rfl hlow))) (by kernel_rfl) (fun _ => hu75) ⟨rfl, rfl⟩) onil)) fun a hF => ?_
   refine SK.wi (allocK (t := 25) (fun b76 => [(1, iv p1), (5, sv ad71 l73 cap72), (7, pb b76), (8, sv ad1 p0 cap2), (9, iv (ln p0)), (10, iv x70), (13, .agg #[iv u75.Lo, iv u75.Hi])]) #[iv 0, iv 0] hF hS (by kernel_rfl) ⟨by kernel_rfl⟩ (by kernel_rfl) (fun _ => ⟨by kernel_rfl⟩) fun b76 w a hF hS => ?_)
   refine SK.wi (storeK (t := 25) [(1, iv p1), (5, sv ad71 l73 cap72), (7, pb b76), (8, sv ad1 p0 cap2), (9, iv (ln p0)), (10, iv x70)] 0 0 (.agg #[iv u75.Lo, iv u75.Hi]) #[iv u75.Lo, iv u75.Hi] hF hS rfl (by kernel_rfl) ⟨by kernel_rfl⟩ (by kernel_rfl) (by kernel_rfl) (by kernel_rfl) (by kernel_rfl) ⟨by kernel_rfl⟩ fun w a hF hS => ?_)
   refine wfn rfl ?_
   refine WI.region ?_
   replace h := bindS h
   obtain ⟨x77, hx77, h⟩ := h
   replace h := bindS h
   obtain ⟨x78, hx78, h⟩ := h
   refine rno 10 [.run [] (Instr.loadAt 3 (pb b76)) (iv u75.Lo), .run [] (binOp .sub 3 (iv u75.Lo) (iv p1)) (iv x77), .run [] (Instr.loadAt 3 (.pointer (some ⟨b76, 1, none⟩))) (iv u75.Hi), .run [] (binOp .add 3 (iv u75.Hi) (iv p1)) (iv x78)] 10 [(1, iv p1), (5, sv ad71 l73 cap72), (8, sv ad1 p0 cap2), (9, iv (ln p0)), (10, iv x70), (14, sv ad71 l73 cap72), (23, .agg #[iv x77, iv x78])] hF (ocons (ob1 (by kernel_rfl) (fun _ hd => (hS.at_ hd).cell (i := 0) (j := 0) rfl rfl)) (ocons (obSubC (fun _ => hx77)) (ocons (ob1 (by kernel_rfl) (fun _ hd => (hS.at_ hd).cell (i := 0) (j := 1) rfl rfl)) (ocons (obAddC (fun _ => hx78)) onil)))) fun a hF => ?_
   refine SK.wi (litK (e := 25) (sz := 2) (f := api_Span.cells) (t := 132) (len := 1) (fun b79 => [(1, iv p1), (5, sv ad71 l73 cap72), (8, sv ad1 p0 cap2), (9, iv (ln p0)), (10, iv x70), (14, sv ad71 l73 cap72), (24, sb b79 1)]) #[(0, .agg #[iv x77, iv x78])] #[iv x77, iv x78] ([(api_Span.mk x77 x78)]) hF hS (by kernel_rfl) ⟨by kernel_rfl⟩ (by kernel_rfl) api_Span.cells_len rfl rfl (by kernel_rfl) (fun _ => ⟨by kernel_rfl⟩) fun b79 w a hF hS => ?_)
   replace h := bindS h
   obtain ⟨l80, hl80, h⟩ := h
   refine SK.wi (appK (t := 132) (ty := 132) (bytes := 16) (l := l73) (l' := ([(api_Span.mk x77 x78)])) (fun ad81 cap82 => [(1, iv p1), (5, sv ad71 l73 cap72), (8, sv ad1 p0 cap2), (9, iv (ln p0)), (10, iv x70), (25, sv ad81 l80 cap82)]) 2 hF hS rfl (by kernel_rfl) ⟨by kernel_rfl⟩ (by kernel_rfl) (hS.arr (i := 0) rfl) (fun _ _ => rfl) hl80 (fun _ _ => ⟨by kernel_rfl⟩) fun ad81 cap82 w a hF hS => ?_)
   refine rn 1 13 [(1, iv p1), (5, sv ad81 l80 cap82), (8, sv ad1 p0 cap2), (9, iv (ln p0)), (10, iv x70)] hF fun a hF => ?_
   refine WI.fin rfl (norm_block <| norm_then <| ?_)
   refine WI.region ?_
   replace h := bindS h
   obtain ⟨x83, hx83, h⟩ := h
   refine rno 2 [.run [] (binOp .add 3 (iv x70) (iv 1)) (iv x83)] 2 [(1, iv p1), (5, sv ad81 l80 cap82), (8, sv ad1 p0 cap2), (9, iv (ln p0)), (10, iv x83)] hF (ocons (obAddC (fun _ => hx83)) onil) fun a hF => ?_
   refine wfn rfl ?_
   rw [hk2] at h
   exact ⟨nk2, Nat.lt_succ_self _, x83, l80, ad81, cap82, hF.sub (by kernel_rfl), St.pick [2, 3] (by decide) hS, h⟩
  ·replace h := bif_f h hc
   refine wpIn_exit (exit_then <| exit_then <| exit_hit <| norm_then ?_)
   exact ⟨l73, ad71, cap72, hF.sub (by kernel_rfl), St.pick [0, 1] (by decide) hS, h⟩
 rintro a w ⟨l42, ad40, cap41, hF, hS, h⟩
 rw [fold_speeds_wide_K1] at h
 refine esr ?_
 refine rn 1 1 [(27, sv ad40 l42 cap41)] hF fun a hF => ?_
 replace h := bindS h
 obtain ⟨y44, hy44, h⟩ := h
 refine SK.wi (callK (f := 62) (args := #[sv ad40 l42 cap41]) (R := fun v w2 => ∃ ad45 cap46, v = sv ad45 y44 cap46 ∧ St w [arr 25 2 api_Span.cells ad45 y44.length cap46 y44] w2) (fun v43 => [(28, v43)]) hF (by kernel_rfl) ⟨by kernel_rfl⟩ (Calls.mono (fold_speeds_united_ok F l42 _ hy44 (memOf w) w (memOf_at w) (Arr.toM (hS.arr (i := 0) rfl))) (by rintro e w2 ⟨ad45, cap46, rfl, h⟩; exact ⟨_, rfl, ad45, cap46, rfl, h⟩)) (fun _ => ⟨by kernel_rfl⟩) ?_)
 rintro v43 w a ⟨ad45, cap46, rfl, hQ⟩ hF
 replace hS : St w0 [arr 25 2 api_Span.cells ad45 y44.length cap46 y44, arr 25 2 api_Span.cells ad40 l42.length cap41 l42, fz w0 μ] w := hS.madeL hQ
 refine rn 1 3 [(4, sv ad45 y44 cap46)] hF fun a hF => ?_
 refine wfn rfl ?_
 refine wpIn_ret (fn_ret [.tmp 4] [sv ad45 y44 cap46] hF rfl ⟨rfl, trivial⟩ ?_)
 have hr_ := Option.some.inj h
 subst hr_
 exact ⟨_, _, rfl, St.pick [0] (by decide) hS⟩

theorem fold_speeds_near_ok (F : Nat) (p0 : (List api_Span)) (p1 : (List api_Span)) (p2 : Int) (res : (List api_Span)) (h : fold_speeds_near F p0 p1 p2 = some res) (μ : Frz) (w0 : World) (hm : FrzAt μ w0) {ad1 : Option Addr} {cap2 : Nat} {ad4 : Option Addr} {cap5 : Nat} (hA3 : ArrM μ 2 api_Span.cells ad1 cap2 p0) (hA6 : ArrM μ 2 api_Span.cells ad4 cap5 p1) : Calls Try.prog 69 #[sv ad1 p0 cap2, sv ad4 p1 cap5, iv p2] w0 (fun e w => ∃ zad0 zcap0, e = .returned (sv zad0 res zcap0) ∧ St w0 [arr 25 2 api_Span.cells zad0 res.length zcap0 res] w) := by
 obtain ⟨hlow, hS⟩ := hm.init
 have hext := Frz.ext_refl w0.heap.size μ
 rw [fold_speeds_near] at h
 refine fn_enterW Try.func69 rfl 12 [(0, sv ad1 p0 cap2), (1, sv ad4 p1 cap5), (2, iv p2)] rfl rfl (by kernel_rfl) fun a w hw hF => ?_
 replace hS : St w0 [fz w0 μ] w := by rw [hw]; exact hS
 clear hw
 refine esr ?_
 refine rn 1 1 [(0, sv ad1 p0 cap2), (1, sv ad4 p1 cap5), (2, iv p2)] hF fun a hF => ?_
 refine wfn rfl ?_
 refine esr ?_
 refine rn 3 3 [(7, sv ad1 p0 cap2), (8, sv ad4 p1 cap5), (9, iv p2)] hF fun a hF => ?_
 replace h := bindS h
 obtain ⟨y8, hy8, h⟩ := h
 refine SK.wi (callK (f := 103) (args := #[sv ad4 p1 cap5, iv p2]) (R := fun v w2 => ∃ ad9 cap10, v = sv ad9 y8 cap10 ∧ St w [arr 25 2 api_Span.cells ad9 y8.length cap10 y8] w2) (fun v7 => [(7, sv ad1 p0 cap2), (10, v7)]) hF (by kernel_rfl) ⟨by kernel_rfl⟩ (Calls.mono (fold_speeds_wide_ok F p1 p2 _ hy8 (memOf w) w (memOf_at w) (hA6.mono (FrzAt.le_mem (hS.frz (i := 0) rfl hlow)))) (by rintro e w2 ⟨ad9, cap10, rfl, h⟩; exact ⟨_, rfl, ad9, cap10, rfl, h⟩)) (fun _ => ⟨by kernel_rfl⟩) ?_)
 rintro v7 w a ⟨ad9, cap10, rfl, hQ⟩ hF
 replace hS : St w0 [arr 25 2 api_Span.cells ad9 y8.length cap10 y8, fz w0 μ] w := hS.madeL hQ
 replace h := bindS h
 obtain ⟨y12, hy12, h⟩ := h
 refine SK.wi (callK (f := 102) (args := #[sv ad1 p0 cap2, sv ad9 y8 cap10]) (R := fun v w2 => ∃ ad13 cap14, v = sv ad13 y12 cap14 ∧ St w [arr 25 2 api_Span.cells ad13 y12.length cap14 y12] w2) (fun v11 => [(11, v11)]) hF (by kernel_rfl) ⟨by kernel_rfl⟩ (Calls.mono (fold_speeds_meet_ok F p0 y8 _ hy12 (memOf w) w (memOf_at w) (hA3.mono (FrzAt.le_mem (hS.frz (i := 1) rfl hlow))) (Arr.toM (hS.arr (i := 0) rfl))) (by rintro e w2 ⟨ad13, cap14, rfl, h⟩; exact ⟨_, rfl, ad13, cap14, rfl, h⟩)) (fun _ => ⟨by kernel_rfl⟩) ?_)
 rintro v11 w a ⟨ad13, cap14, rfl, hQ⟩ hF
 replace hS : St w0 [arr 25 2 api_Span.cells ad13 y12.length cap14 y12, arr 25 2 api_Span.cells ad9 y8.length cap10 y8, fz w0 μ] w := hS.madeL hQ
 refine rn 1 6 [(6, sv ad13 y12 cap14)] hF fun a hF => ?_
 refine wfn rfl ?_
 refine wpIn_ret (fn_ret [.tmp 6] [sv ad13 y12 cap14] hF rfl ⟨rfl, trivial⟩ ?_)
 have hr_ := Option.some.inj h
 subst hr_
 exact ⟨_, _, rfl, St.pick [0] (by decide) hS⟩

theorem fold_Ray_1_ok (F : Nat) (p0 : Int) (p1 : Int) (c0_ : (List Int)) (c1_ : Int) (c2_ : (List (List api_Span))) (c3_ : Int) (res : (List (List api_Span))) (h : fold_Ray_1 F p0 p1 c0_ c1_ c2_ c3_ = some res) (μ : Frz) (w0 w1 : World) (T_ : List Res) (hlow : FrzIn w0 μ) {ad1 : Option Addr} {cap2 : Nat} {cb2 : Nat} {cb3 : Nat} {ad4 : Option Addr} {cap5 : Nat} {css6 : List (List Value)} {cb4 : Nat} {cb5 : Nat} (hcb2 : BlkM μ cb2 60 #[sv ad1 c0_ cap2]) (hA3 : ArrM μ 1 fI ad1 cap2 c0_) (hcb3 : BlkM μ cb3 3 #[iv c1_]) (hq7 : All2 (Rp132 μ) css6 c2_) (hcb5 : BlkM μ cb5 3 #[iv c3_]) (hS : St w0 (fz w0 μ :: blk cb4 135 #[sv ad4 c2_ cap5] :: arr 132 1 (fN 1) ad4 c2_.length cap5 css6 :: T_) w1) : Calls Try.prog 68 #[iv p0, iv p1, pb cb2, pb cb3, pb cb4, pb cb5] w1 (fun e w => ∃ (ν_ : Frz) (css_0 : List (List Value)), μ.ext w0.heap.size ν_ ∧ FrzIn w0 ν_ ∧ e = .returned (.tuple #[]) ∧ c2_.length = res.length ∧ All2 (Rp132 ν_) css_0 res ∧ St w0 (fz w0 ν_ :: blk cb4 135 #[sv ad4 res cap5] :: arr 132 1 (fN 1) ad4 res.length cap5 css_0 :: T_) w) := by
 rw [fold_Ray_1] at h
 have hext := Frz.ext_refl w0.heap.size μ
 have hle4 : c2_.length = c2_.length := rfl
 refine fn_enterW Try.func68 rfl 55 [(0, iv p0), (1, iv p1), (2, pb cb2), (3, pb cb3), (4, pb cb4), (5, pb cb5)] rfl rfl (by kernel_rfl) fun a w hw hF => ?_
 replace hS : St w0 (fz w0 μ :: blk cb4 135 #[sv ad4 c2_ cap5] :: arr 132 1 (fN 1) ad4 c2_.length cap5 css6 :: T_) w := by rw [hw]; exact hS
 clear hw
 refine eseq ?_
 replace h := bindS h
 obtain ⟨u8, hu8, h⟩ := h
 replace h := bindS h
 obtain ⟨u9, hu9, h⟩ := h
 replace h := bindS h
 obtain ⟨x10, hx10, h⟩ := h
 replace h := bindS h
 obtain ⟨u11, hu11, h⟩ := h
 replace h := bindS h
 obtain ⟨u12, hu12, h⟩ := h
 replace h := bindS h
 obtain ⟨x13, hx13, h⟩ := h
 refine runD (obs := [.run [] (Instr.loadAt 60 (pb cb2)) (sv ad1 c0_ cap2), .run [] (Instr.indexAt 60 (sv ad1 c0_ cap2) (iv p0)) (.pointer (some (slAddr ad1 p0 1))), .run [] (Instr.loadAt 3 (.pointer (some (slAddr ad1 p0 1)))) (iv u8), .run [] (Instr.loadAt 60 (pb cb2)) (sv ad1 c0_ cap2), .run [] (Instr.indexAt 60 (sv ad1 c0_ cap2) (iv p1)) (.pointer (some (slAddr ad1 p1 1))), .run [] (Instr.loadAt 3 (.pointer (some (slAddr ad1 p1 1)))) (iv u9), .run [] (binOp .sub 3 (iv u8) (iv u9)) (iv x10), .run [] (Instr.loadAt 60 (pb cb2)) (sv ad1 c0_ cap2), .run [] (Instr.indexAt 60 (sv ad1 c0_ cap2) (iv p1)) (.pointer (some (slAddr ad1 p1 1))), .run [] (Instr.loadAt 3 (.pointer (some (slAddr ad1 p1 1)))) (iv u11), .run [] (Instr.loadAt 60 (pb cb2)) (sv ad1 c0_ cap2), .run [] (Instr.indexAt 60 (sv ad1 c0_ cap2) (iv p0)) (.pointer (some (slAddr ad1 p0 1))), .run [] (Instr.loadAt 3 (.pointer (some (slAddr ad1 p0 1)))) (iv u12), .run [] (binOp .sub 3 (iv u11) (iv u12)) (iv x13)]) 20 [(0, iv p0), (1, iv p1), (2, pb cb2), (3, pb cb3), (4, pb cb4), (5, pb cb5), (8, iv (if x13 > x10 then x13 else x10))] (by kernel_rfl) hF (by kernel_rfl) (ocons (ob1 (by kernel_rfl) (fun _ hd => (hcb2.blk ((hS.later hd).frz (i := 0) rfl hlow)).cell1 (j := 0) rfl)) (ocons (obIdxQ (hA3 _ (hS.frz (i := 0) rfl hlow)) (by kernel_rfl) (fun _ => hu8)) (ocons (obElQ (i := p0) 0 fI_len (fun _ hd => (hA3 _ ((hS.later hd).frz (i := 0) rfl hlow))) (by kernel_rfl) (fun _ => hu8) rfl) (ocons (ob1 (by kernel_rfl) (fun _ hd => (hcb2.blk ((hS.later hd).frz (i := 0) rfl hlow)).cell1 (j := 0) rfl)) (ocons (obIdxQ (hA3 _ (hS.frz (i := 0) rfl hlow)) (by kernel_rfl) (fun _ => hu9)) (ocons (obElQ (i := p1) 0 fI_len (fun _ hd => (hA3 _ ((hS.later hd).frz (i := 0) rfl hlow))) (by kernel_rfl) (fun _ => hu9) rfl) (ocons (obSubC (fun _ => hx10)) (ocons (ob1 (by kernel_rfl) (fun _ hd => (hcb2.blk ((hS.later hd).frz (i := 0) rfl hlow)).cell1 (j := 0) rfl)) (ocons (obIdxQ (hA3 _ (hS.frz (i := 0) rfl hlow)) (by kernel_rfl) (fun _ => hu11)) (ocons (obElQ (i := p1) 0 fI_len (fun _ hd => (hA3 _ ((hS.later hd).frz (i := 0) rfl hlow))) (by kernel_rfl) (fun _ => hu11) rfl) (ocons (ob1 (by kernel_rfl) (fun _ hd => (hcb2.blk ((hS.later hd).frz (i := 0) rfl hlow)).cell1 (j := 0) rfl)) (ocons (obIdxQ (hA3 _ (hS.frz (i := 0) rfl hlow)) (by kernel_rfl) (fun _ => hu12)) (ocons (obElQ (i := p0) 0 fI_len (fun _ hd => (hA3 _ ((hS.later hd).frz (i := 0) rfl hlow))) (by kernel_rfl) (fun _ => hu12) rfl) (ocons (obSubC (fun _ => hx13)) onil)))))))))))))) ⟨by kernel_rfl⟩ fun a w hF hx => ?_
 replace hS := hS.later hx
 refine wfn rfl ?_
 refine esr ?_
 refine rno 3 [.run [] (Instr.loadAt 3 (pb cb3)) (iv c1_)] 3 [(0, iv p0), (1, iv p1), (2, pb cb2), (4, pb cb4), (5, pb cb5), (8, iv (if x13 > x10 then x13 else x10)), (30, .bool (decide ((if x13 > x10 then x13 else x10) ≤ c1_)))] hF (ocons (ob1 (by kernel_rfl) (fun _ hd => (hcb3.blk ((hS.at_ hd).frz (i := 0) rfl hlow)).cell1 (j := 0) rfl)) onil) fun a hF => ?_
 refine wfn rfl ?_
 refine econd hF rfl (fun hc => ?_) (fun hc => ?_)
 ·replace h := bif_t h hc
  replace h := bindS h
  obtain ⟨u14, hu14, h⟩ := h
  replace h := bindS h
  obtain ⟨u15, hu15, h⟩ := h
  replace h := bindS h
  obtain ⟨u16, hu16, h⟩ := h
  replace h := bindS h
  obtain ⟨u23, hu23, h⟩ := h
  replace h := bindS h
  obtain ⟨u24, hu24, h⟩ := h
  replace h := bindS h
  obtain ⟨x31, hx31, h⟩ := h
  replace h := bindS h
  obtain ⟨y33, hy33, h⟩ := h
  replace h := bindS h
  obtain ⟨u36, hu36, h⟩ := h
  refine region_treeW 24 [22] _ (D := fun w => St w0 [blk cb4 135 #[sv ad4 c2_ cap5], arr 132 1 (fN 1) ad4 c2_.length cap5 css6] w ∧ FrzAt μ w) (by kernel_rfl) (by kernel_rfl) hF.size (fun w hx => ?_) (fun _ _ h => h)
  replace hS := hS.later hx
  refine ⟨⟨St.pick [1, 2] (by decide) hS, hS.frz (i := 0) rfl hlow⟩, ?_⟩
  have hcl64 := Frz.le_refl μ
  obtain ⟨cs65, hcs66, hR67⟩ := getI_all2 hq7 hu16
  obtain ⟨ad68, cap69, rfl, hA70⟩ := hR67
  obtain ⟨cs71, hcs72, hR73⟩ := getI_all2 hq7 hu24
  obtain ⟨ad74, cap75, rfl, hA76⟩ := hR73
  refine WT.s [0, 1, 2, 3, 4, 5, 6, 7, 8, 9, 10, 11, 12, 13, 14, 15, 16, 17, 18, 19, 20, 21] [22] (by kernel_rfl) (by kernel_rfl) ?_
  refine runC (rest := []) (obs := [.run [] (Instr.loadAt 135 (pb cb4)) (sv ad4 c2_ cap5), .run [] (Instr.loadAt 60 (pb cb2)) (sv ad1 c0_ cap2), .run [] (Instr.indexAt 60 (sv ad1 c0_ cap2) (iv p1)) (.pointer (some (slAddr ad1 p1 1))), .run [] (Instr.loadAt 3 (.pointer (some (slAddr ad1 p1 1)))) (iv u14), .run [] (Instr.loadAt 135 (pb cb4)) (sv ad4 c2_ cap5), .run [] (Instr.loadAt 60 (pb cb2)) (sv ad1 c0_ cap2), .run [] (Instr.indexAt 60 (sv ad1 c0_ cap2) (iv p1)) (.pointer (some (slAddr ad1 p1 1))), .run [] (Instr.loadAt 3 (.pointer (some (slAddr ad1 p1 1)))) (iv u15), .run [] (Instr.indexAt 135 (sv ad4 c2_ cap5) (iv u15)) (.pointer (some (slAddr ad4 u15 1))), .run [] (Instr.loadAt 132 (.pointer (some (slAddr ad4 u15 1)))) (sv ad68 u16 cap69), .run [] (Instr.loadAt 135 (pb cb4)) (sv ad4 c2_ cap5), .run [] (Instr.loadAt 60 (pb cb2)) (sv ad1 c0_ cap2), .run [] (Instr.indexAt 60 (sv ad1 c0_ cap2) (iv p0)) (.pointer (some (slAddr ad1 p0 1))), .run [] (Instr.loadAt 3 (.pointer (some (slAddr ad1 p0 1)))) (iv u23), .run [] (Instr.indexAt 135 (sv ad4 c2_ cap5) (iv u23)) (.pointer (some (slAddr ad4 u23 1))), .run [] (Instr.loadAt 132 (.pointer (some (slAddr ad4 u23 1)))) (sv ad74 u24 cap75), .run [] (Instr.loadAt 3 (pb cb5)) (iv c3_), .run [] (binOp .mul 3 (iv c3_) (iv (if x13 > x10 then x13 else x10))) (iv x31)]) [0, 1, 2, 3, 4, 5, 6, 7, 8, 9, 10, 11, 12, 13, 14, 15, 16, 17, 18, 19, 20, 21] [(31, sv ad4 c2_ cap5), (35, iv u14), (42, sv ad68 u16 cap69), (49, sv ad74 u24 cap75), (52, iv x31)] hF (by kernel_rfl) (by kernel_rfl) (ocons (ob1 (by kernel_rfl) (fun _ hd => hd.1.cell (i := 0) (j := 0) rfl rfl)) (ocons (ob1 (by kernel_rfl) (fun _ hd => (hcb2.blk hd.2).cell1 (j := 0) rfl)) (ocons (obIdxQ (hA3 _ (hS.frz (i := 0) rfl hlow)) (by kernel_rfl) (fun _ => hu14)) (ocons (obElQ (i := p1) 0 fI_len (fun _ hd => (hA3 _ hd.2)) (by kernel_rfl) (fun _ => hu14) rfl) (ocons (ob1 (by kernel_rfl) (fun _ hd => hd.1.cell (i := 0) (j := 0) rfl rfl)) (ocons (ob1 (by kernel_rfl) (fun _ hd => (hcb2.blk hd.2).cell1 (j := 0) rfl)) (ocons (obIdxQ (hA3 _ (hS.frz (i := 0) rfl hlow)) (by kernel_rfl) (fun _ => hu15)) (ocons (obElQ (i := p1) 0 fI_len (fun _ hd => (hA3 _ hd.2)) (by kernel_rfl) (fun _ => hu15) rfl) (ocons (obIdxQ (hS.arr (i := 2) rfl) (by kernel_rfl) (fun _ => hcs66)) (ocons (obElQ (i := u15) 0 (fN_len 1) (fun _ hd => (hd.1.arr (i := 1) rfl)) (by kernel_rfl) (fun _ => hcs66) rfl) (ocons (ob1 (by kernel_rfl) (fun _ hd => hd.1.cell (i := 0) (j := 0) rfl rfl)) (ocons (ob1 (by kernel_rfl) (fun _ hd => (hcb2.blk hd.2).cell1 (j := 0) rfl)) (ocons (obIdxQ (hA3 _ (hS.frz (i := 0) rfl hlow)) (by kernel_rfl) (fun _ => hu23)) (ocons (obElQ (i := p0) 0 fI_len (fun _ hd => (hA3 _ hd.2)) (by kernel_rfl) (fun _ => hu23) rfl) (ocons (obIdxQ (hS.arr (i := 2) rfl) (by kernel_rfl) (fun _ => hcs72)) (ocons (obElQ (i := u23) 0 (fN_len 1) (fun _ hd => (hd.1.arr (i := 1) rfl)) (by kernel_rfl) (fun _ => hcs72) rfl) (ocons (ob1 (by kernel_rfl) (fun _ hd => (hcb5.blk hd.2).cell1 (j := 0) rfl)) (ocons (obMulC (fun _ => hx31)) onil)))))))))))))))))) ⟨by kernel_rfl⟩ fun a hF => ?_
  refine WRun.fin ?_
  refine all_cons ?_ (all_nil)
  refine callK (f := 69) (args := #[sv ad68 u16 cap69, sv ad74 u24 cap75, iv x31]) (R := fun v w2 => ∃ ad78 cap79, v = sv ad78 y33 cap79 ∧ St w [arr 25 2 api_Span.cells ad78 y33.length cap79 y33] w2) (fun v77 => [(31, sv ad4 c2_ cap5), (35, iv u14), (53, v77)]) hF (by kernel_rfl) ⟨by kernel_rfl⟩ (Calls.mono (fold_speeds_near_ok F u16 u24 x31 _ hy33 (memOf w) w (memOf_at w) (hA70.mono (FrzAt.le_mem (hS.frz (i := 0) rfl hlow))) (hA76.mono (FrzAt.le_mem (hS.frz (i := 0) rfl hlow)))) (by rintro e w2 ⟨ad78, cap79, rfl, h⟩; exact ⟨_, rfl, ad78, cap79, rfl, h⟩)) (fun _ => ⟨by kernel_rfl⟩) ?_
  rintro v77 w a ⟨ad78, cap79, rfl, hQ⟩ hF
  replace hS : St w0 (arr 25 2 api_Span.cells ad78 y33.length cap79 y33 :: fz w0 μ :: blk cb4 135 #[sv ad4 c2_ cap5] :: arr 132 1 (fN 1) ad4 c2_.length cap5 css6 :: T_) w := hS.madeL hQ
  refine ⟨⟨St.pick [2, 3] (by decide) hS, (hS.frz (i := 1) rfl hlow)⟩, ?_⟩
  obtain ⟨cs80, hcs81, hR82⟩ := getI_all2 hq7 hu36
  obtain ⟨ad83, cap84, rfl, hA85⟩ := hR82
  refine WT.z [23] (by kernel_rfl) ?_
  refine runC (rest := []) (obs := [.run [] (Instr.indexAt 135 (sv ad4 c2_ cap5) (iv u14)) (.pointer (some (slAddr ad4 u14 1)))]) [23] [(53, sv ad78 y33 cap79), (54, .pointer (some (slAddr ad4 u14 1)))] hF (by kernel_rfl) (by kernel_rfl) (ocons (obIdxQ (hS.arr (i := 3) rfl) (by kernel_rfl) (fun _ => hcs81)) onil) ⟨by kernel_rfl⟩ fun a hF => ?_
  refine WRun.fin ?_
  obtain ⟨ν86, hx87, hlow, hS, hz88⟩ := hS.freeze (i := 1) (j := 0) rfl rfl (by decide) hlow
  replace hcb2 := hcb2.mono hx87.1
  replace hA3 := hA3.mono hx87.1
  replace hcb3 := hcb3.mono hx87.1
  replace hq7 := All2.mono Rp132.mono hx87.1 hq7
  replace hcb5 := hcb5.mono hx87.1
  replace hA70 := hA70.mono hx87.1
  replace hA76 := hA76.mono hx87.1
  replace hA85 := hA85.mono hx87.1
  replace hext := Frz.ext_trans hext hx87
  replace hS : St w0 (fz w0 ν86 :: blk cb4 135 #[sv ad4 c2_ cap5] :: arr 132 1 (fN 1) ad4 c2_.length cap5 css6 :: T_) w := hS
  have hA89 := ArrM.of_arr hz88
  replace h := bindS h
  obtain ⟨l90, hl90, h⟩ := h
  refine SK.wi (setQK (j := u14) (t := 132) [] 2 0 [sv ad83 u36 cap84] [sv ad78 y33 cap79] y33 (sv ad78 y33 cap79) (S := Rp132 ν86) hq7 ⟨ad78, cap79, rfl, hA89⟩ hF hS rfl (by kernel_rfl) ⟨by kernel_rfl⟩ (fN_len 1) hcs81 rfl (by kernel_rfl) (by kernel_rfl) (by kernel_rfl) hl90 ⟨by kernel_rfl⟩ fun css91 w a hF hl hq92 hS => ?_)
  replace hle4 := hle4.trans hl
  simp only [sv, ln, hl] at hF hS
  refine WI.fin rfl ?_
  refine fn_end hF rfl ?_
  have hr_ := Option.some.inj h
  subst hr_
  replace hS : St w0 (fz w0 ν86 :: blk cb4 135 #[sv ad4 l90 cap5] :: arr 132 1 (fN 1) ad4 l90.length cap5 css91 :: T_) w := hS
  replace hS := St.pickT (A := [fz w0 ν86, blk cb4 135 #[sv ad4 l90 cap5], arr 132 1 (fN 1) ad4 l90.length cap5 css91]) (T := T_) [0, 1, 2] (by decide) hS
  exact ⟨ν86, _, hext, hlow, rfl, hle4, hq92, hS⟩
 ·replace h := bif_f h hc
  refine wpIn_skip ?_
  refine fn_end hF rfl ?_
  have hr_ := Option.some.inj h
  subst hr_
  replace hS : St w0 (fz w0 μ :: blk cb4 135 #[sv ad4 c2_ cap5] :: arr 132 1 (fN 1) ad4 c2_.length cap5 css6 :: T_) w := hS
  replace hS := St.pickT (A := [fz w0 μ, blk cb4 135 #[sv ad4 c2_ cap5], arr 132 1 (fN 1) ad4 c2_.length cap5 css6]) (T := T_) [0, 1, 2] (by decide) hS
  exact ⟨μ, _, hext, hlow, rfl, hle4, hq7, hS⟩

theorem fold_Ray_ok (F : Nat) (p0 : (List (List api_Span))) (p1 : Int) (p2 : Int) (res : ((List (List api_Span)) × Int)) (h : fold_Ray F p0 p1 p2 = some res) (μ : Frz) (w0 : World) (hm : FrzAt μ w0) {ad1 : Option Addr} {cap2 : Nat} {css3 : List (List Value)} (hA4 : ArrQ μ 1 Rp43 ad1 cap2 css3 p0) : Calls Try.prog 24 #[sv ad1 p0 cap2, iv p1, iv p2] w0 (fun e w => ∃ (ν_ : Frz) (zad0 : Option Addr) (zcap0 : Nat) (zcss0 : List (List Value)), μ.ext w0.heap.size ν_ ∧ e = .returned (.tuple #[sv zad0 res.1 zcap0, iv res.2]) ∧ All2 (Rp43 ν_) zcss0 res.1 ∧ St w0 [fz w0 ν_, arr 43 1 (fN 1) zad0 res.1.length zcap0 zcss0] w) := by
 obtain ⟨hlow, hS⟩ := hm.init
 have hext := Frz.ext_refl w0.heap.size μ
 rw [fold_Ray] at h
 refine fn_enterW Try.func24 rfl 55 [(0, sv ad1 p0 cap2), (1, iv p1), (2, iv p2)] rfl rfl (by kernel_rfl) fun a w hw hF => ?_
 replace hS : St w0 [fz w0 μ] w := by rw [hw]; exact hS
 clear hw
 refine esr ?_
 refine SK.wi (boxK (t := 3) (fun b5 => [(0, sv ad1 p0 cap2), (2, iv p2), (4, pb b5)]) (iv p1) #[iv p1] hF hS (by kernel_rfl) ⟨by kernel_rfl⟩ (by kernel_rfl) (fun _ => ⟨by kernel_rfl⟩) fun b5 w a hF hS => ?_)
 refine SK.wi (boxK (t := 3) (fun b6 => [(0, sv ad1 p0 cap2), (4, pb b5), (5, pb b6)]) (iv p2) #[iv p2] hF hS (by kernel_rfl) ⟨by kernel_rfl⟩ (by kernel_rfl) (fun _ => ⟨by kernel_rfl⟩) fun b6 w a hF hS => ?_)
 refine rn 2 4 [(0, sv ad1 p0 cap2), (4, pb b5), (5, pb b6)] hF fun a hF => ?_
 refine wfn rfl ?_
 refine esr ?_
 refine rn 1 1 [(4, pb b5), (5, pb b6), (15, sv ad1 p0 cap2)] hF fun a hF => ?_
 replace h := bindS h
 obtain ⟨y8, hy8, h⟩ := h
 refine SK.wi (callK (f := 65) (args := #[sv ad1 p0 cap2]) (R := fun v w2 => ∃ ν9 ad11 cap12 css13, μ.ext w.heap.size ν9 ∧ v = .tuple #[sv ad11 y8.1 cap12, iv y8.2] ∧ All2 (Rp132 ν9) css13 y8.1 ∧ St w [frzR w.heap.size ν9, arr 132 1 (fN 1) ad11 y8.1.length cap12 css13] w2) (fun v7 => [(4, pb b5), (5, pb b6), (16, v7)]) hF (by kernel_rfl) ⟨by kernel_rfl⟩ (Calls.mono (fold_row_ok F p0 _ hy8 μ w (hS.frz (i := 2) rfl hlow) hA4) (by rintro e w2 ⟨ν9, ad11, cap12, css13, hx10, rfl, hq14, h⟩; exact ⟨_, rfl, ν9, ad11, cap12, css13, hx10, rfl, hq14, h⟩)) (fun _ => ⟨by kernel_rfl⟩) ?_)
 rintro v7 w a ⟨ν9, ad11, cap12, css13, hx10, rfl, hq14, hQ⟩ hF
 replace hext := Frz.ext_trans hext (Frz.ext_mono hx10 hS.ext.size)
 obtain ⟨hlow, hS⟩ := hS.frzMerge (i := 2) rfl hlow hx10 hQ
 replace hA4 := hA4.mono Rp43.mono hx10.1
 replace hS : St w0 [arr 132 1 (fN 1) ad11 y8.1.length cap12 css13, blk b6 3 #[iv p2], blk b5 3 #[iv p1], fz w0 ν9] w := hS
 refine rn 3 5 [(4, pb b5), (5, pb b6), (17, sv ad11 y8.1 cap12), (18, iv y8.2)] hF fun a hF => ?_
 refine SK.wi (allocK (t := 135) (fun b15 => [(4, pb b5), (5, pb b6), (8, pb b15), (17, sv ad11 y8.1 cap12), (18, iv y8.2)]) #[.slice none 0 0] hF hS (by kernel_rfl) ⟨by kernel_rfl⟩ (by kernel_rfl) (fun _ => ⟨by kernel_rfl⟩) fun b15 w a hF hS => ?_)
 refine SK.wi (storeK (t := 135) [(4, pb b5), (5, pb b6), (8, pb b15), (18, iv y8.2)] 0 0 (sv ad11 y8.1 cap12) #[sv ad11 y8.1 cap12] hF hS rfl (by kernel_rfl) ⟨by kernel_rfl⟩ (by kernel_rfl) (by kernel_rfl) (by kernel_rfl) (by kernel_rfl) ⟨by kernel_rfl⟩ fun w a hF hS => ?_)
 refine rn 1 8 [(4, pb b5), (5, pb b6), (8, pb b15), (9, iv y8.2)] hF fun a hF => ?_
 refine wfn rfl ?_
 refine ecut (fun a w => ∃ (x16 : Int), Fr 55 [] [(4, pb b5), (5, pb b6), (8, pb b15), (9, iv x16)] a ∧ St w0 [blk b15 135 #[sv ad11 y8.1 cap12], arr 132 1 (fN 1) ad11 y8.1.length cap12 css13, blk b6 3 #[iv p2], blk b5 3 #[iv p1], fz w0 ν9] w ∧ fold_Ray_K1 F p1 p2 y8 x16 = some res) ?_ ?_
 ·skip
  refine esr ?_
  refine rn 2 2 [(4, pb b5), (5, pb b6), (8, pb b15), (9, iv y8.2), (20, .bool (y8.2 == 0))] hF fun a hF => ?_
  refine wfn rfl ?_
  refine econd hF rfl (fun hc => ?_) (fun hc => ?_)
  ·replace h := bif_t h hc
   refine WI.region ?_
   refine rx 4 [.run [] (Instr.loadAt 3 (pb b5)) (iv p1), .run [] (Instr.loadAt 3 (pb b6)) (iv p2), .call [] 66 #[iv p1, iv p2] (iv (fold_limited p1 p2))] 4 [(4, pb b5), (5, pb b6), (8, pb b15), (9, iv (fold_limited p1 p2))] hF (ocons (ob1 (by kernel_rfl) (fun _ hd => (hS.later hd).cell (i := 3) (j := 0) rfl rfl)) (ocons (ob1 (by kernel_rfl) (fun _ hd => (hS.later hd).cell (i := 2) (j := 0) rfl rfl)) (ocons (show Ob.ok _ Ext _ _ from fun hk w2 hd => fold_limited_ok p1 p2 _ rfl _ w2 (memOf_at w2) ) onil))) fun a w hF hx => ?_
   replace hS := hS.later hx
   refine wfn rfl ?_
   exact ⟨(fold_limited p1 p2), hF.sub (by kernel_rfl), St.pick [0, 1, 2, 3, 4] (by decide) hS, h⟩
  ·replace h := bif_f h hc
   refine wpIn_skip (norm_then ?_)
   exact ⟨y8.2, hF.sub (by kernel_rfl), St.pick [0, 1, 2, 3, 4] (by decide) hS, h⟩
 rintro a w ⟨x16, hF, hS, h⟩
 rw [fold_Ray_K1] at h
 refine eseq ?_
 refine esr ?_
 refine rn 2 2 [(4, pb b5), (5, pb b6), (8, pb b15), (9, iv x16), (25, .bool (x16 != 0))] hF fun a hF => ?_
 refine wfn rfl ?_
 refine econd hF rfl (fun hc => ?_) (fun hc => ?_)
 ·replace h := bif_t h hc
  refine esr ?_
  refine rn 3 3 [(6, .slice none 0 0), (7, iv x16)] hF fun a hF => ?_
  refine wfn rfl ?_
  refine wpIn_ret (ret_then <| fn_ret [.tmp 6, .tmp 7] [.slice none 0 0, iv x16] hF rfl ⟨rfl, rfl, trivial⟩ ?_)
  have hr_ := Option.some.inj h
  subst hr_
  replace hS := hS.nilarr 43 1 (fN 1)
  exact ⟨ν9, _, _, _, hext, rfl, All2.nil, St.pick [5, 0] (by decide) hS⟩
 ·replace h := bif_f h hc
  refine wpIn_skip (norm_then ?_)
  refine esr ?_
  refine rno 1 [.run [] (Instr.loadAt 135 (pb b15)) (sv ad11 y8.1 cap12)] 1 [(4, pb b5), (5, pb b6), (8, pb b15), (27, sv ad11 y8.1 cap12)] hF (ocons (ob1 (by kernel_rfl) (fun _ hd => (hS.at_ hd).cell (i := 0) (j := 0) rfl rfl)) onil) fun a hF => ?_
  replace h := bindS h
  obtain ⟨y18, hy18, h⟩ := h
  refine SK.wi (callK (f := 67) (args := #[sv ad11 y8.1 cap12]) (R := fun v w2 => ∃ ad19 cap20, v = sv ad19 y18 cap20 ∧ St w [arr 3 1 fI ad19 y18.length cap20 y18] w2) (fun v17 => [(4, pb b5), (5, pb b6), (8, pb b15), (28, v17)]) hF (by kernel_rfl) ⟨by kernel_rfl⟩ (Calls.mono (fold_known_ok F y8.1 _ hy18 (memOf w) w (memOf_at w) (ArrQ.of_own (hS.arr (i := 1) rfl) hq14 Rp132.mono (FrzAt.le_mem (hS.frz (i := 4) rfl hlow)))) (by rintro e w2 ⟨ad19, cap20, rfl, h⟩; exact ⟨_, rfl, ad19, cap20, rfl, h⟩)) (fun _ => ⟨by kernel_rfl⟩) ?_)
  rintro v17 w a ⟨ad19, cap20, rfl, hQ⟩ hF
  replace hS : St w0 [arr 3 1 fI ad19 y18.length cap20 y18, blk b15 135 #[sv ad11 y8.1 cap12], arr 132 1 (fN 1) ad11 y8.1.length cap12 css13, blk b6 3 #[iv p2], blk b5 3 #[iv p1], fz w0 ν9] w := hS.madeL hQ
  refine SK.wi (allocK (t := 60) (fun b21 => [(4, pb b5), (5, pb b6), (8, pb b15), (10, pb b21), (28, sv ad19 y18 cap20)]) #[.slice none 0 0] hF hS (by kernel_rfl) ⟨by kernel_rfl⟩ (by kernel_rfl) (fun _ => ⟨by kernel_rfl⟩) fun b21 w a hF hS => ?_)
  refine SK.wi (storeK (t := 60) [(4, pb b5), (5, pb b6), (8, pb b15), (10, pb b21)] 0 0 (sv ad19 y18 cap20) #[sv ad19 y18 cap20] hF hS rfl (by kernel_rfl) ⟨by kernel_rfl⟩ (by kernel_rfl) (by kernel_rfl) (by kernel_rfl) (by kernel_rfl) ⟨by kernel_rfl⟩ fun w a hF hS => ?_)
  refine wfn rfl ?_
  refine esr ?_
  obtain ⟨ν22, hx23, hlow, hS, hz24⟩ := hS.freeze (i := 6) (j := 1) rfl rfl (by decide) hlow
  replace hA4 := hA4.mono Rp43.mono hx23.1
  replace hq14 := All2.mono Rp132.mono hx23.1 hq14
  replace hext := Frz.ext_trans hext hx23
  replace hS : St w0 [blk b21 60 #[sv ad19 y18 cap20], blk b15 135 #[sv ad11 y8.1 cap12], arr 132 1 (fN 1) ad11 y8.1.length cap12 css13, blk b6 3 #[iv p2], blk b5 3 #[iv p1], fz w0 ν22] w := hS
  have hA25 := ArrM.of_arr hz24
  obtain ⟨ν26, hx27, hlow, hS, hz28⟩ := hS.freeze (i := 5) (j := 0) rfl rfl (by decide) hlow
  replace hA4 := hA4.mono Rp43.mono hx27.1
  replace hq14 := All2.mono Rp132.mono hx27.1 hq14
  replace hA25 := hA25.mono hx27.1
  replace hext := Frz.ext_trans hext hx27
  replace hS : St w0 [blk b15 135 #[sv ad11 y8.1 cap12], arr 132 1 (fN 1) ad11 y8.1.length cap12 css13, blk b6 3 #[iv p2], blk b5 3 #[iv p1], fz w0 ν26] w := hS
  have hB29 : BlkM ν26 b21 60 #[sv ad19 y18 cap20] := hz28
  obtain ⟨ν30, hx31, hlow, hS, hz32⟩ := hS.freeze (i := 4) (j := 2) rfl rfl (by decide) hlow
  replace hA4 := hA4.mono Rp43.mono hx31.1
  replace hq14 := All2.mono Rp132.mono hx31.1 hq14
  replace hA25 := hA25.mono hx31.1
  replace hB29 := hB29.mono hx31.1
  replace hext := Frz.ext_trans hext hx31
  replace hS : St w0 [blk b15 135 #[sv ad11 y8.1 cap12], arr 132 1 (fN 1) ad11 y8.1.length cap12 css13, blk b5 3 #[iv p1], fz w0 ν30] w := hS
  have hB33 : BlkM ν30 b6 3 #[iv p2] := hz32
  obtain ⟨ν34, hx35, hlow, hS, hz36⟩ := hS.freeze (i := 3) (j := 2) rfl rfl (by decide) hlow
  replace hA4 := hA4.mono Rp43.mono hx35.1
  replace hq14 := All2.mono Rp132.mono hx35.1 hq14
  replace hA25 := hA25.mono hx35.1
  replace hB29 := hB29.mono hx35.1
  replace hB33 := hB33.mono hx35.1
  replace hext := Frz.ext_trans hext hx35
  replace hS : St w0 [blk b15 135 #[sv ad11 y8.1 cap12], arr 132 1 (fN 1) ad11 y8.1.length cap12 css13, fz w0 ν34] w := hS
  have hB37 : BlkM ν34 b5 3 #[iv p1] := hz36
  refine rn 2 2 [(8, pb b15), (10, pb b21), (11, .func (.func 68) #[] #[pb b21, pb b6, pb b15, pb b5])] hF fun a hF => ?_
  refine wfn rfl ?_
  have hj199 := Frz.le_refl ν34
  refine ecut (fun a w => ∃ (l85 : (List (List api_Span))) (ν82 : Frz) (ad83 : Option Addr) (cap84 : Nat) (css86 : List (List Value)), Fr 55 [] [(8, pb b15), (10, pb b21), (11, .func (.func 68) #[] #[pb b21, pb b6, pb b15, pb b5])] a ∧ St w0 [arr 132 1 (fN 1) ad83 l85.length cap84 css86, blk b15 135 #[sv ad83 l85 cap84], fz w0 ν82] w ∧ (All2 (Rp132 ν82) css86 l85) ∧ (ν34.le ν82) ∧ (μ.ext w0.heap.size ν82) ∧ (FrzIn w0 ν82) ∧ fold_Ray_K2 F p1 p2 y18 l85 = some res) ?_ ?_
  ·skip
   refine esr ?_
   refine rn 1 1 [(8, pb b15), (10, pb b21), (11, .func (.func 68) #[] #[pb b21, pb b6, pb b15, pb b5]), (12, iv 1)] hF fun a hF => ?_
   refine wfn rfl ?_
   refine wpIn_block ?_
   have hj234 := Frz.le_refl ν34
   refine eloop (fun n_ a w => ∃ (l229 : (List (List api_Span))) (x232 : Int) (ν226 : Frz) (ad227 : Option Addr) (cap228 : Nat) (css230 : List (List Value)), Fr 55 [] [(8, pb b15), (10, pb b21), (11, .func (.func 68) #[] #[pb b21, pb b6, pb b15, pb b5]), (12, iv x232)] a ∧ St w0 [arr 132 1 (fN 1) ad227 l229.length cap228 css230, blk b15 135 #[sv ad227 l229 cap228], fz w0 ν226] w ∧ (All2 (Rp132 ν226) css230 l229) ∧ (ν34.le ν226) ∧ (μ.ext w0.heap.size ν226) ∧ (FrzIn w0 ν226) ∧ fold_Ray_L5 F p1 p2 y18 n_ l229 x232 = some res) F ⟨y8.1, 1, ν34, ad11, cap12, css13, hF.sub (by kernel_rfl), St.pick [1, 0, 2] (by decide) hS, hq14, hj234, hext, hlow, h⟩ ?_
   clear hj234
   rintro nk5 a w ⟨l229, x232, ν226, ad227, cap228, css230, hF, hS, hq231, hle233, hext, hlow, h⟩
   rcases nk5 with _ | nk5
   ·cases (show (none : Option ((List (List api_Span)) × Int)) = some res from h)
   replace hA4 := hA4.mono Rp43.mono hle233
   replace hq14 := All2.mono Rp132.mono hle233 hq14
   replace hA25 := hA25.mono hle233
   replace hB29 := hB29.mono hle233
   replace hB33 := hB33.mono hle233
   replace hB37 := hB37.mono hle233
   replace hj199 := Frz.le_trans hj199 hle233
   obtain ⟨k5, hk5⟩ : ∃ k, k = fold_Ray_L5 F p1 p2 y18 nk5 := ⟨_, rfl⟩
   replace h : fold_Ray_B5 F p1 p2 y18 k5 l229 x232 = some res := by rw [hk5]; exact h
   rw [fold_Ray_B5] at h
   refine eseq ?_
   refine esr ?_
   refine rno 4 [.run [] (Instr.loadAt 60 (pb b21)) (sv ad19 y18 cap20)] 4 [(8, pb b15), (10, pb b21), (11, .func (.func 68) #[] #[pb b21, pb b6, pb b15, pb b5]), (12, iv x232), (33, .bool (decide (x232 < (ln y18))))] hF (ocons (ob1 (by kernel_rfl) (fun _ hd => (hB29.blk ((hS.at_ hd).frz (i := 2) rfl hlow)).cell1 (j := 0) rfl)) onil) fun a hF => ?_
   refine wfn rfl ?_
   refine econd hF rfl (fun hc => ?_) (fun hc => ?_)
   ·replace h := bif_t h hc
    refine wpIn_skip (norm_then ?_)
    refine eseq ?_
    refine wpIn_block ?_
    refine WI.region ?_
    replace h := bindS h
    obtain ⟨x235, hx235, h⟩ := h
    refine rno 4 [.run [] (binOp .sub 3 (iv x232) (iv 1)) (iv x235)] 4 [(8, pb b15), (10, pb b21), (11, .func (.func 68) #[] #[pb b21, pb b6, pb b15, pb b5]), (12, iv x232), (36, .func (.func 68) #[] #[pb b21, pb b6, pb b15, pb b5]), (38, iv x235), (39, iv x232)] hF (ocons (obSubC (fun _ => hx235)) onil) fun a hF => ?_
    replace h := bindS h
    obtain ⟨y236, hy236, h⟩ := h
    replace hS : St w0 [arr 132 1 (fN 1) ad227 l229.length cap228 css230, blk b15 135 #[sv ad227 l229 cap228], fz w0 ν226] w := hS
    replace hS : St w0 [fz w0 ν226, blk b15 135 #[sv ad227 l229 cap228], arr 132 1 (fN 1) ad227 l229.length cap228 css230] w := St.pick [2, 1, 0] (by decide) hS
    refine SK.wi (callK (f := 68) (args := #[iv x235, iv x232, pb b21, pb b6, pb b15, pb b5]) (R := fun v w2 => ∃ ν237 css241, ν226.ext w0.heap.size ν237 ∧ FrzIn w0 ν237 ∧ v = .tuple #[] ∧ l229.length = y236.length ∧ All2 (Rp132 ν237) css241 y236 ∧ St w0 [fz w0 ν237, blk b15 135 #[sv ad227 y236 cap228], arr 132 1 (fN 1) ad227 y236.length cap228 css241] w2) (fun v239 => [(8, pb b15), (10, pb b21), (11, .func (.func 68) #[] #[pb b21, pb b6, pb b15, pb b5]), (12, iv x232)]) hF (by kernel_rfl) ⟨by kernel_rfl⟩ (Calls.mono (fold_Ray_1_ok F x235 x232 y18 p2 l229 p1 _ hy236 ν226 w0 w _ hlow hB29 hA25 hB33 hq231 hB37 hS) (by rintro e w2 ⟨ν237, css241, hx238, hlow_, rfl, hl240, hq242, h⟩; exact ⟨_, rfl, ν237, css241, hx238, hlow_, rfl, hl240, hq242, h⟩)) (fun _ => ⟨by kernel_rfl⟩) ?_)
    rintro v239 w a ⟨ν237, css241, hx238, hlow, rfl, hl240, hq242, hS⟩ hF
    replace hext := Frz.ext_trans hext hx238
    replace hA4 := hA4.mono Rp43.mono hx238.1
    replace hq14 := All2.mono Rp132.mono hx238.1 hq14
    replace hA25 := hA25.mono hx238.1
    replace hB29 := hB29.mono hx238.1
    replace hB33 := hB33.mono hx238.1
    replace hB37 := hB37.mono hx238.1
    replace hq231 := All2.mono Rp132.mono hx238.1 hq231
    replace hj199 := Frz.le_trans hj199 hx238.1
    replace hle233 := Frz.le_trans hle233 hx238.1
    try simp only [sv, ln, hl240] at hF hS
    replace hS : St w0 [fz w0 ν237, blk b15 135 #[sv ad227 y236 cap228], arr 132 1 (fN 1) ad227 y236.length cap228 css241] w := hS
    refine WI.fin rfl (norm_block <| norm_then <| ?_)
    refine WI.region ?_
    replace h := bindS h
    obtain ⟨x243, hx243, h⟩ := h
    refine rno 3 [.run [] (binOp .add 3 (iv x232) (iv 1)) (iv x243)] 3 [(8, pb b15), (10, pb b21), (11, .func (.func 68) #[] #[pb b21, pb b6, pb b15, pb b5]), (12, iv x243)] hF (ocons (obAddC (fun _ => hx243)) onil) fun a hF => ?_
    refine wfn rfl ?_
    rw [hk5] at h
    exact ⟨nk5, Nat.lt_succ_self _, y236, x243, ν237, ad227, cap228, css241, hF.sub (by kernel_rfl), St.pick [2, 1, 0] (by decide) hS, hq242, hle233, hext, hlow, h⟩
   ·replace h := bif_f h hc
    refine wpIn_exit (exit_then <| exit_then <| exit_hit <| norm_then ?_)
    exact ⟨l229, ν226, ad227, cap228, css230, hF.sub (by kernel_rfl), St.pick [0, 1, 2] (by decide) hS, hq231, hj199, hext, hlow, h⟩
  clear hj199
  rintro a w ⟨l85, ν82, ad83, cap84, css86, hF, hS, hq87, hle88, hext, hlow, h⟩
  replace hA4 := hA4.mono Rp43.mono hle88
  replace hq14 := All2.mono Rp132.mono hle88 hq14
  replace hA25 := hA25.mono hle88
  replace hB29 := hB29.mono hle88
  replace hB33 := hB33.mono hle88
  replace hB37 := hB37.mono hle88
  rw [fold_Ray_K2] at h
  have hj153 := Frz.le_refl ν82
  refine ecut (fun a w => ∃ (l137 : (List (List api_Span))) (ν134 : Frz) (ad135 : Option Addr) (cap136 : Nat) (css138 : List (List Value)), Fr 55 [] [(8, pb b15)] a ∧ St w0 [arr 132 1 (fN 1) ad135 l137.length cap136 css138, blk b15 135 #[sv ad135 l137 cap136], fz w0 ν134] w ∧ (All2 (Rp132 ν134) css138 l137) ∧ (ν82.le ν134) ∧ (μ.ext w0.heap.size ν134) ∧ (FrzIn w0 ν134) ∧ fold_Ray_K3 F l137 = some res) ?_ ?_
  ·skip
   refine esr ?_
   replace h := bindS h
   obtain ⟨x154, hx154, h⟩ := h
   refine rno 4 [.run [] (Instr.loadAt 60 (pb b21)) (sv ad19 y18 cap20), .run [] (binOp .sub 3 (iv (ln y18)) (iv 1)) (iv x154)] 4 [(8, pb b15), (11, .func (.func 68) #[] #[pb b21, pb b6, pb b15, pb b5]), (13, iv x154)] hF (ocons (ob1 (by kernel_rfl) (fun _ hd => (hB29.blk ((hS.at_ hd).frz (i := 2) rfl hlow)).cell1 (j := 0) rfl)) (ocons (obSubC (fun _ => hx154)) onil)) fun a hF => ?_
   refine wfn rfl ?_
   refine wpIn_block ?_
   have hj189 := Frz.le_refl ν82
   refine eloop (fun n_ a w => ∃ (l184 : (List (List api_Span))) (x187 : Int) (ν181 : Frz) (ad182 : Option Addr) (cap183 : Nat) (css185 : List (List Value)), Fr 55 [] [(8, pb b15), (11, .func (.func 68) #[] #[pb b21, pb b6, pb b15, pb b5]), (13, iv x187)] a ∧ St w0 [arr 132 1 (fN 1) ad182 l184.length cap183 css185, blk b15 135 #[sv ad182 l184 cap183], fz w0 ν181] w ∧ (All2 (Rp132 ν181) css185 l184) ∧ (ν82.le ν181) ∧ (μ.ext w0.heap.size ν181) ∧ (FrzIn w0 ν181) ∧ fold_Ray_L4 F p1 p2 y18 n_ l184 x187 = some res) F ⟨l85, x154, ν82, ad83, cap84, css86, hF.sub (by kernel_rfl), St.pick [0, 1, 2] (by decide) hS, hq87, hj189, hext, hlow, h⟩ ?_
   clear hj189
   rintro nk4 a w ⟨l184, x187, ν181, ad182, cap183, css185, hF, hS, hq186, hle188, hext, hlow, h⟩
   rcases nk4 with _ | nk4
   ·cases (show (none : Option ((List (List api_Span)) × Int)) = some res from h)
   replace hA4 := hA4.mono Rp43.mono hle188
   replace hq14 := All2.mono Rp132.mono hle188 hq14
   replace hA25 := hA25.mono hle188
   replace hB29 := hB29.mono hle188
   replace hB33 := hB33.mono hle188
   replace hB37 := hB37.mono hle188
   replace hq87 := All2.mono Rp132.mono hle188 hq87
   replace hle88 := Frz.le_trans hle88 hle188
   replace hj153 := Frz.le_trans hj153 hle188
   obtain ⟨k4, hk4⟩ : ∃ k, k = fold_Ray_L4 F p1 p2 y18 nk4 := ⟨_, rfl⟩
   replace h : fold_Ray_B4 F p1 p2 y18 k4 l184 x187 = some res := by rw [hk4]; exact h
   rw [fold_Ray_B4] at h
   refine eseq ?_
   refine esr ?_
   refine rn 2 2 [(8, pb b15), (11, .func (.func 68) #[] #[pb b21, pb b6, pb b15, pb b5]), (13, iv x187), (45, .bool (decide (x187 > 0)))] hF fun a hF => ?_
   refine wfn rfl ?_
   refine econd hF rfl (fun hc => ?_) (fun hc => ?_)
   ·replace h := bif_t h hc
    refine wpIn_skip (norm_then ?_)
    refine eseq ?_
    refine wpIn_block ?_
    refine WI.region ?_
    replace h := bindS h
    obtain ⟨x190, hx190, h⟩ := h
    refine rno 4 [.run [] (binOp .sub 3 (iv x187) (iv 1)) (iv x190)] 4 [(8, pb b15), (11, .func (.func 68) #[] #[pb b21, pb b6, pb b15, pb b5]), (13, iv x187), (48, .func (.func 68) #[] #[pb b21, pb b6, pb b15, pb b5]), (49, iv x187), (51, iv x190)] hF (ocons (obSubC (fun _ => hx190)) onil) fun a hF => ?_
    replace h := bindS h
    obtain ⟨y191, hy191, h⟩ := h
    replace hS : St w0 [arr 132 1 (fN 1) ad182 l184.length cap183 css185, blk b15 135 #[sv ad182 l184 cap183], fz w0 ν181] w := hS
    replace hS : St w0 [fz w0 ν181, blk b15 135 #[sv ad182 l184 cap183], arr 132 1 (fN 1) ad182 l184.length cap183 css185] w := St.pick [2, 1, 0] (by decide) hS
    refine SK.wi (callK (f := 68) (args := #[iv x187, iv x190, pb b21, pb b6, pb b15, pb b5]) (R := fun v w2 => ∃ ν192 css196, ν181.ext w0.heap.size ν192 ∧ FrzIn w0 ν192 ∧ v = .tuple #[] ∧ l184.length = y191.length ∧ All2 (Rp132 ν192) css196 y191 ∧ St w0 [fz w0 ν192, blk b15 135 #[sv ad182 y191 cap183], arr 132 1 (fN 1) ad182 y191.length cap183 css196] w2) (fun v194 => [(8, pb b15), (11, .func (.func 68) #[] #[pb b21, pb b6, pb b15, pb b5]), (13, iv x187)]) hF (by kernel_rfl) ⟨by kernel_rfl⟩ (Calls.mono (fold_Ray_1_ok F x187 x190 y18 p2 l184 p1 _ hy191 ν181 w0 w _ hlow hB29 hA25 hB33 hq186 hB37 hS) (by rintro e w2 ⟨ν192, css196, hx193, hlow_, rfl, hl195, hq197, h⟩; exact ⟨_, rfl, ν192, css196, hx193, hlow_, rfl, hl195, hq197, h⟩)) (fun _ => ⟨by kernel_rfl⟩) ?_)
    rintro v194 w a ⟨ν192, css196, hx193, hlow, rfl, hl195, hq197, hS⟩ hF
    replace hext := Frz.ext_trans hext hx193
    replace hA4 := hA4.mono Rp43.mono hx193.1
    replace hq14 := All2.mono Rp132.mono hx193.1 hq14
    replace hA25 := hA25.mono hx193.1
    replace hB29 := hB29.mono hx193.1
    replace hB33 := hB33.mono hx193.1
    replace hB37 := hB37.mono hx193.1
    replace hq87 := All2.mono Rp132.mono hx193.1 hq87
    replace hq186 := All2.mono Rp132.mono hx193.1 hq186
    replace hle88 := Frz.le_trans hle88 hx193.1
    replace hj153 := Frz.le_trans hj153 hx193.1
    replace hle188 := Frz.le_trans hle188 hx193.1
    try simp only [sv, ln, hl195] at hF hS
    replace hS : St w0 [fz w0 ν192, blk b15 135 #[sv ad182 y191 cap183], arr 132 1 (fN 1) ad182 y191.length cap183 css196] w := hS
    refine WI.fin rfl (norm_block <| norm_then <| ?_)
    refine WI.region ?_
    replace h := bindS h
    obtain ⟨x198, hx198, h⟩ := h
    refine rno 3 [.run [] (binOp .sub 3 (iv x187) (iv 1)) (iv x198)] 3 [(8, pb b15), (11, .func (.func 68) #[] #[pb b21, pb b6, pb b15, pb b5]), (13, iv x198)] hF (ocons (obSubC (fun _ => hx198)) onil) fun a hF => ?_
    refine wfn rfl ?_
    rw [hk4] at h
    exact ⟨nk4, Nat.lt_succ_self _, y191, x198, ν192, ad182, cap183, css196, hF.sub (by kernel_rfl), St.pick [2, 1, 0] (by decide) hS, hq197, hle188, hext, hlow, h⟩
   ·replace h := bif_f h hc
    refine wpIn_exit (exit_then <| exit_then <| exit_hit <| norm_then ?_)
    exact ⟨l184, ν181, ad182, cap183, css185, hF.sub (by kernel_rfl), St.pick [0, 1, 2] (by decide) hS, hq186, hj153, hext, hlow, h⟩
  clear hj153
  rintro a w ⟨l137, ν134, ad135, cap136, css138, hF, hS, hq139, hle140, hext, hlow, h⟩
  replace hA4 := hA4.mono Rp43.mono hle140
  replace hq14 := All2.mono Rp132.mono hle140 hq14
  replace hA25 := hA25.mono hle140
  replace hB29 := hB29.mono hle140
  replace hB33 := hB33.mono hle140
  replace hB37 := hB37.mono hle140
  replace hq87 := All2.mono Rp132.mono hle140 hq87
  replace hle88 := Frz.le_trans hle88 hle140
  rw [fold_Ray_K3] at h
  refine esr ?_
  refine rno 1 [.run [] (Instr.loadAt 135 (pb b15)) (sv ad135 l137 cap136)] 1 [(53, sv ad135 l137 cap136)] hF (ocons (ob1 (by kernel_rfl) (fun _ hd => (hS.at_ hd).cell (i := 1) (j := 0) rfl rfl)) onil) fun a hF => ?_
  obtain ⟨ν141, hx142, hlow, hS, hz143⟩ := hS.freeze (i := 2) (j := 0) rfl rfl (by decide) hlow
  replace hA4 := hA4.mono Rp43.mono hx142.1
  replace hq14 := All2.mono Rp132.mono hx142.1 hq14
  replace hA25 := hA25.mono hx142.1
  replace hB29 := hB29.mono hx142.1
  replace hB33 := hB33.mono hx142.1
  replace hB37 := hB37.mono hx142.1
  replace hq87 := All2.mono Rp132.mono hx142.1 hq87
  replace hq139 := All2.mono Rp132.mono hx142.1 hq139
  replace hle88 := Frz.le_trans hle88 hx142.1
  replace hle140 := Frz.le_trans hle140 hx142.1
  replace hext := Frz.ext_trans hext hx142
  replace hS : St w0 [blk b15 135 #[sv ad135 l137 cap136], fz w0 ν141] w := hS
  have hA144 := ArrQ.of_arr (l := l137) hz143 hq139 Rp132.mono (Frz.le_refl _)
  replace h := bindS h
  obtain ⟨y146, hy146, h⟩ := h
  refine SK.wi (callK (f := 70) (args := #[sv ad135 l137 cap136]) (R := fun v w2 => ∃ ν147 ad149 cap150 css151, ν141.ext w.heap.size ν147 ∧ v = sv ad149 y146 cap150 ∧ All2 (Rp43 ν147) css151 y146 ∧ St w [frzR w.heap.size ν147, arr 43 1 (fN 1) ad149 y146.length cap150 css151] w2) (fun v145 => [(54, v145)]) hF (by kernel_rfl) ⟨by kernel_rfl⟩ (Calls.mono (fold_back_ok F l137 _ hy146 ν141 w (hS.frz (i := 1) rfl hlow) hA144) (by rintro e w2 ⟨ν147, ad149, cap150, css151, hx148, rfl, hq152, h⟩; exact ⟨_, rfl, ν147, ad149, cap150, css151, hx148, rfl, hq152, h⟩)) (fun _ => ⟨by kernel_rfl⟩) ?_)
  rintro v145 w a ⟨ν147, ad149, cap150, css151, hx148, rfl, hq152, hQ⟩ hF
  replace hext := Frz.ext_trans hext (Frz.ext_mono hx148 hS.ext.size)
  obtain ⟨hlow, hS⟩ := hS.frzMerge (i := 1) rfl hlow hx148 hQ
  replace hA4 := hA4.mono Rp43.mono hx148.1
  replace hq14 := All2.mono Rp132.mono hx148.1 hq14
  replace hA25 := hA25.mono hx148.1
  replace hB29 := hB29.mono hx148.1
  replace hB33 := hB33.mono hx148.1
  replace hB37 := hB37.mono hx148.1
  replace hq87 := All2.mono Rp132.mono hx148.1 hq87
  replace hA144 := hA144.mono Rp132.mono hx148.1
  replace hle88 := Frz.le_trans hle88 hx148.1
  replace hle140 := Frz.le_trans hle140 hx148.1
  replace hS : St w0 [arr 43 1 (fN 1) ad149 y146.length cap150 css151, blk b15 135 #[sv ad135 l137 cap136], fz w0 ν147] w := hS
  refine rn 2 4 [(6, sv ad149 y146 cap150), (7, iv 0)] hF fun a hF => ?_
  refine wfn rfl ?_
  refine wpIn_ret (fn_ret [.tmp 6, .tmp 7] [sv ad149 y146 cap150, iv 0] hF rfl ⟨rfl, rfl, trivial⟩ ?_)
  have hr_ := Option.some.inj h
  subst hr_
  exact ⟨ν147, _, _, _, hext, rfl, hq152, St.pick [2, 0] (by decide) hS⟩
end Go.Proofs.Ytbhjgebjojdohaa
