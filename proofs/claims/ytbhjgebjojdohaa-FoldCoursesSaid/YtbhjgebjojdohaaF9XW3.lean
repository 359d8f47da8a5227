/- Walks, written by program (wip/gen/dec.py). -/
import Derived.Test.YtbhjgebjojdohaaF9XD
import Derived.Test.YtbhjgebjojdohaaProg
import Derived.Test.YtbhjgebjojdohaaF9XW0
import Derived.Test.YtbhjgebjojdohaaF9XW1
import Derived.Test.YtbhjgebjojdohaaF9XW2
import Derived.Test.YtbhjgebjojdohaaF9WkG
namespace Go.Proofs.Ytbhjgebjojdohaa
open Go Go.RowKit Go.Eng
set_option maxRecDepth 10000
set_option maxHeartbeats 4000000
set_option linter.unusedVariables false
set_option linter.unusedSimpArgs false
theorem law03_FoldCourses_ok (F : Nat) (p0 : (List (List Int))) (p1 : Int) (p2 : Int) (res : Bool) (h : law03_FoldCourses F p0 p1 p2 = some res) (μ : Frz) (w0 : World) (hm : FrzAt μ w0) {ad1 : Option Addr} {cap2 : Nat} {css3 : List (List Value)} (hA4 : ArrQ μ 1 Rp91 ad1 cap2 css3 p0) : Calls Try.prog 9 #[sv ad1 p0 cap2, .int .u8 p1, .int .u8 p2] w0 (fun e w => e = .returned (.bool res) ∧ Ext w0 w) := by
 obtain ⟨hlow, hS⟩ := hm.init
 have hext := Frz.ext_refl w0.heap.size μ
 rw [law03_FoldCourses] at h
 refine fn_enterW Try.func9 rfl 194 [(0, sv ad1 p0 cap2), (1, .int .u8 p1), (2, .int .u8 p2)] rfl rfl (by kernel_rfl) fun a w hw hF => ?_
 replace hS : St w0 [fz w0 μ] w := by rw [hw]; exact hS
 clear hw
 refine esr ?_
 refine rn 1 1 [(0, sv ad1 p0 cap2), (1, .int .u8 p1), (2, .int .u8 p2)] hF fun a hF => ?_
 refine wfn rfl ?_
 refine eseq ?_
 refine esr ?_
 refine rn 3 3 [(0, sv ad1 p0 cap2), (1, .int .u8 p1), (2, .int .u8 p2), (22, .bool (decide ((ln p0) > 7)))] hF fun a hF => ?_
 refine wfn rfl ?_
 refine econd hF rfl (fun hc => ?_) (fun hc => ?_)
 ·replace h := bif_t h hc
  refine esr ?_
  refine rx 2 [.call [] 19 #[] (.bool law03_works)] 2 [(6, .bool law03_works)] hF (ocons (show Ob.ok _ Ext _ _ from fun hk w2 hd => law03_works_ok  _ rfl _ w2 (memOf_at w2) ) onil) fun a w hF hx => ?_
  replace hS := hS.later hx
  refine wfn rfl ?_
  refine wpIn_ret (ret_then <| fn_ret [.tmp 6] [.bool law03_works] hF rfl ⟨rfl, trivial⟩ ?_)
  have hr_ := Option.some.inj h
  subst hr_
  exact ⟨rfl, hS.ext⟩
 ·replace h := bif_f h hc
  refine wpIn_skip (norm_then ?_)
  refine esr ?_
  refine rn 1 1 [(1, .int .u8 p1), (2, .int .u8 p2), (24, sv ad1 p0 cap2)] hF fun a hF => ?_
  replace h := bindS h
  obtain ⟨y6, hy6, h⟩ := h
  refine SK.wi (callK (f := 39) (args := #[sv ad1 p0 cap2]) (R := fun v w2 => ∃ ν7 ad9 cap10 css11, μ.ext w.heap.size ν7 ∧ v = sv ad9 y6 cap10 ∧ All2 (Rp43 ν7) css11 y6 ∧ St w [frzR w.heap.size ν7, arr 43 1 (fN 1) ad9 y6.length cap10 css11] w2) (fun v5 => [(1, .int .u8 p1), (2, .int .u8 p2), (25, v5)]) hF (by kernel_rfl) ⟨by kernel_rfl⟩ (Calls.mono (law03_made_ok F p0 _ hy6 μ w (hS.frz (i := 0) rfl hlow) hA4) (by rintro e w2 ⟨ν7, ad9, cap10, css11, hx8, rfl, hq12, h⟩; exact ⟨_, rfl, ν7, ad9, cap10, css11, hx8, rfl, hq12, h⟩)) (fun _ => ⟨by kernel_rfl⟩) ?_)
  rintro v5 w a ⟨ν7, ad9, cap10, css11, hx8, rfl, hq12, hQ⟩ hF
  replace hext := Frz.ext_trans hext (Frz.ext_mono hx8 hS.ext.size)
  obtain ⟨hlow, hS⟩ := hS.frzMerge (i := 0) rfl hlow hx8 hQ
  replace hA4 := hA4.mono Rp91.mono hx8.1
  replace hS : St w0 [arr 43 1 (fN 1) ad9 y6.length cap10 css11, fz w0 ν7] w := hS
  replace h := bindS h
  obtain ⟨x13, hx13, h⟩ := h
  replace h := bindS h
  obtain ⟨x14, hx14, h⟩ := h
  replace h := bindS h
  obtain ⟨x15, hx15, h⟩ := h
  replace h := bindS h
  obtain ⟨x16, hx16, h⟩ := h
  replace h := bindS h
  obtain ⟨x17, hx17, h⟩ := h
  refine rno 10 [.run [] (convert 5 3 (.int .u8 p1)) (iv x13), .run [] (binOp .rem 3 (iv x13) (iv 13)) (iv x14), .run [] (convert 5 3 (.int .u8 p2)) (iv x15), .run [] (binOp .rem 3 (iv x15) (iv 3)) (iv x16), .run [] (binOp .add 3 (iv 1) (iv x16)) (iv x17)] 12 [(7, sv ad9 y6 cap10), (8, iv x14), (9, iv x17)] hF (ocons (obConvC (by kernel_rfl) (by kernel_rfl) (fun _ => hx13)) (ocons (obRemC (fun _ => hx14)) (ocons (obConvC (by kernel_rfl) (by kernel_rfl) (fun _ => hx15)) (ocons (obRemC (fun _ => hx16)) (ocons (obAddC (fun _ => hx17)) onil))))) fun a hF => ?_
  refine wfn rfl ?_
  refine esr ?_
  refine rn 3 3 [(7, sv ad9 y6 cap10), (8, iv x14), (9, iv x17), (34, sv ad9 y6 cap10), (35, iv x14), (36, iv x17)] hF fun a hF => ?_
  obtain ⟨ν18, hx19, hlow, hS, hz20⟩ := hS.freeze (i := 1) (j := 0) rfl rfl (by decide) hlow
  replace hA4 := hA4.mono Rp91.mono hx19.1
  replace hq12 := All2.mono Rp43.mono hx19.1 hq12
  replace hext := Frz.ext_trans hext hx19
  replace hS : St w0 [fz w0 ν18] w := hS
  have hA21 := ArrQ.of_arr (l := y6) hz20 hq12 Rp43.mono (Frz.le_refl _)
  replace h := bindS h
  obtain ⟨y23, hy23, h⟩ := h
  refine SK.wi (callK (f := 24) (args := #[sv ad9 y6 cap10, iv x14, iv x17]) (R := fun v w2 => ∃ ν24 ad26 cap27 css28, ν18.ext w.heap.size ν24 ∧ v = .tuple #[sv ad26 y23.1 cap27, iv y23.2] ∧ All2 (Rp43 ν24) css28 y23.1 ∧ St w [frzR w.heap.size ν24, arr 43 1 (fN 1) ad26 y23.1.length cap27 css28] w2) (fun v22 => [(7, sv ad9 y6 cap10), (8, iv x14), (9, iv x17), (37, v22)]) hF (by kernel_rfl) ⟨by kernel_rfl⟩ (Calls.mono (fold_Ray_ok F y6 x14 x17 _ hy23 ν18 w (hS.frz (i := 0) rfl hlow) hA21) (by rintro e w2 ⟨ν24, ad26, cap27, css28, hx25, rfl, hq29, h⟩; exact ⟨_, rfl, ν24, ad26, cap27, css28, hx25, rfl, hq29, h⟩)) (fun _ => ⟨by kernel_rfl⟩) ?_)
  rintro v22 w a ⟨ν24, ad26, cap27, css28, hx25, rfl, hq29, hQ⟩ hF
  replace hext := Frz.ext_trans hext (Frz.ext_mono hx25 hS.ext.size)
  obtain ⟨hlow, hS⟩ := hS.frzMerge (i := 0) rfl hlow hx25 hQ
  replace hA4 := hA4.mono Rp91.mono hx25.1
  replace hA21 := hA21.mono Rp43.mono hx25.1
  replace hS : St w0 [arr 43 1 (fN 1) ad26 y23.1.length cap27 css28, fz w0 ν24] w := hS
  refine rn 5 9 [(7, sv ad9 y6 cap10), (8, iv x14), (9, iv x17), (10, sv ad26 y23.1 cap27), (11, iv y23.2)] hF fun a hF => ?_
  refine wfn rfl ?_
  refine eseq ?_
  refine esr ?_
  refine rn 9 9 [(7, sv ad9 y6 cap10), (8, iv x14), (9, iv x17), (10, sv ad26 y23.1 cap27), (48, .bool (bif (y23.2 != 0) then true else ((ln y23.1) != (ln y6))))] hF fun a hF => ?_
  refine wfn rfl ?_
  refine econd hF rfl (fun hc => ?_) (fun hc => ?_)
  ·replace h := bif_t h hc
   refine esr ?_
   refine rn 1 1 [(6, .bool false)] hF fun a hF => ?_
   refine wfn rfl ?_
   refine wpIn_ret (ret_then <| fn_ret [.tmp 6] [.bool false] hF rfl ⟨rfl, trivial⟩ ?_)
   have hr_ := Option.some.inj h
   subst hr_
   exact ⟨rfl, hS.ext⟩
  ·replace h := bif_f h hc
   refine wpIn_skip (norm_then ?_)
   refine eseq ?_
   replace h := bindS h
   obtain ⟨l31, hl31, h⟩ := h
   replace h := bindS h
   obtain ⟨l33, hl33, h⟩ := h
   refine region_treeW 8 [2, 5] (fun a w => ∃ (ad39 : Option Addr) (cap40 : Nat) (ad41 : Option Addr) (cap42 : Nat), Fr 194 [] [(7, sv ad9 y6 cap10), (8, iv x14), (9, iv x17), (10, sv ad26 y23.1 cap27), (12, sv ad39 l31 cap40), (13, sv ad41 l33 cap42)] a ∧ St w0 [arr 85 80 (vF Value.bool) ad39 l31.length cap40 l31, arr 85 80 (vF Value.bool) ad41 l33.length cap42 l33, arr 43 1 (fN 1) ad26 y23.1.length cap27 css28, fz w0 ν24] w) (D := fun w => St w0 [arr 43 1 (fN 1) ad26 y23.1.length cap27 css28] w ∧ FrzAt ν24 w) (by kernel_rfl) (by kernel_rfl) hF.size (fun w hx => ?_) ?_
   ·skip
    replace hS := hS.later hx
    refine ⟨⟨St.pick [0] (by decide) hS, hS.frz (i := 1) rfl hlow⟩, ?_⟩
    have hcl43 := Frz.le_refl ν24
    refine WT.s [0, 1, 3, 4] [2, 5] (by kernel_rfl) (by kernel_rfl) ?_
    refine runC (rest := []) (obs := []) [0, 1, 3, 4] [(7, sv ad9 y6 cap10), (8, iv x14), (9, iv x17), (10, sv ad26 y23.1 cap27), (50, iv (ln y6)), (53, iv (ln y6))] hF (by kernel_rfl) (by kernel_rfl) onil ⟨by kernel_rfl⟩ fun a hF => ?_
    refine WRun.fin ?_
    refine all_cons ?_ (all_cons ?_ (all_nil))
    ·skip
     refine makeK (e := 85) (sz := 80) (f := (vF Value.bool)) (z := .agg (vF Value.bool (default : VecN Bool 80)).toArray) (t := 84) (bytes := 80) (fun b44 => [(7, sv ad9 y6 cap10), (8, iv x14), (9, iv x17), (10, sv ad26 y23.1 cap27), (51, .slice (some ⟨b44, 0, none⟩) l31.length l31.length), (53, iv (ln y6))]) (default : VecN Bool 80) hF hS (by kernel_rfl) ⟨by kernel_rfl⟩ (by kernel_rfl) (by kernel_rfl) rfl hl31 (fun _ => ⟨by kernel_rfl⟩) fun b44 w a hF hS => ⟨⟨St.pick [1] (by decide) hS, (hS.frz (i := 2) rfl hlow)⟩, ?_⟩
     refine WT.s [6] [5] (by kernel_rfl) (by kernel_rfl) ?_
     refine runC (rest := []) (obs := []) [6] [(7, sv ad9 y6 cap10), (8, iv x14), (9, iv x17), (10, sv ad26 y23.1 cap27), (12, .slice (some ⟨b44, 0, none⟩) l31.length l31.length), (53, iv (ln y6))] hF (by kernel_rfl) (by kernel_rfl) onil ⟨by kernel_rfl⟩ fun a hF => ?_
     refine WRun.fin ?_
     refine all_cons ?_ (all_nil)
     refine makeK (e := 85) (sz := 80) (f := (vF Value.bool)) (z := .agg (vF Value.bool (default : VecN Bool 80)).toArray) (t := 84) (bytes := 80) (fun b45 => [(7, sv ad9 y6 cap10), (8, iv x14), (9, iv x17), (10, sv ad26 y23.1 cap27), (12, .slice (some ⟨b44, 0, none⟩) l31.length l31.length), (54, .slice (some ⟨b45, 0, none⟩) l33.length l33.length)]) (default : VecN Bool 80) hF hS (by kernel_rfl) ⟨by kernel_rfl⟩ (by kernel_rfl) (by kernel_rfl) rfl hl33 (fun _ => ⟨by kernel_rfl⟩) fun b45 w a hF hS => ⟨⟨St.pick [2] (by decide) hS, (hS.frz (i := 3) rfl hlow)⟩, ?_⟩
     refine WT.z [7] (by kernel_rfl) ?_
     refine runC (rest := []) (obs := []) [7] [(7, sv ad9 y6 cap10), (8, iv x14), (9, iv x17), (10, sv ad26 y23.1 cap27), (12, .slice (some ⟨b44, 0, none⟩) l31.length l31.length), (13, .slice (some ⟨b45, 0, none⟩) l33.length l33.length)] hF (by kernel_rfl) (by kernel_rfl) onil ⟨by kernel_rfl⟩ fun a hF => ?_
     refine WRun.fin ?_
     exact ⟨(some ⟨b44, 0, none⟩), l31.length, (some ⟨b45, 0, none⟩), l33.length, hF.sub (by kernel_rfl), St.pick [1, 0, 2, 3] (by decide) hS⟩
    ·skip
     refine makeK (e := 85) (sz := 80) (f := (vF Value.bool)) (z := .agg (vF Value.bool (default : VecN Bool 80)).toArray) (t := 84) (bytes := 80) (fun b46 => [(7, sv ad9 y6 cap10), (8, iv x14), (9, iv x17), (10, sv ad26 y23.1 cap27), (50, iv (ln y6)), (54, .slice (some ⟨b46, 0, none⟩) l33.length l33.length)]) (default : VecN Bool 80) hF hS (by kernel_rfl) ⟨by kernel_rfl⟩ (by kernel_rfl) (by kernel_rfl) rfl hl33 (fun _ => ⟨by kernel_rfl⟩) fun b46 w a hF hS => ⟨⟨St.pick [1] (by decide) hS, (hS.frz (i := 2) rfl hlow)⟩, ?_⟩
     refine WT.s [] [2] (by kernel_rfl) (by kernel_rfl) ?_
     refine WRun.fin ?_
     refine all_cons ?_ (all_nil)
     refine makeK (e := 85) (sz := 80) (f := (vF Value.bool)) (z := .agg (vF Value.bool (default : VecN Bool 80)).toArray) (t := 84) (bytes := 80) (fun b47 => [(7, sv ad9 y6 cap10), (8, iv x14), (9, iv x17), (10, sv ad26 y23.1 cap27), (51, .slice (some ⟨b47, 0, none⟩) l31.length l31.length), (54, .slice (some ⟨b46, 0, none⟩) l33.length l33.length)]) (default : VecN Bool 80) hF hS (by kernel_rfl) ⟨by kernel_rfl⟩ (by kernel_rfl) (by kernel_rfl) rfl hl31 (fun _ => ⟨by kernel_rfl⟩) fun b47 w a hF hS => ⟨⟨St.pick [2] (by decide) hS, (hS.frz (i := 3) rfl hlow)⟩, ?_⟩
     refine WT.z [6, 7] (by kernel_rfl) ?_
     refine runC (rest := []) (obs := []) [6, 7] [(7, sv ad9 y6 cap10), (8, iv x14), (9, iv x17), (10, sv ad26 y23.1 cap27), (12, .slice (some ⟨b47, 0, none⟩) l31.length l31.length), (13, .slice (some ⟨b46, 0, none⟩) l33.length l33.length)] hF (by kernel_rfl) (by kernel_rfl) onil ⟨by kernel_rfl⟩ fun a hF => ?_
     refine WRun.fin ?_
     exact ⟨(some ⟨b47, 0, none⟩), l31.length, (some ⟨b46, 0, none⟩), l33.length, hF.sub (by kernel_rfl), St.pick [0, 1, 2, 3] (by decide) hS⟩
   rintro a w ⟨ad39, cap40, ad41, cap42, hF, hS⟩
   refine wfn rfl ?_
   refine esr ?_
   refine rn 1 1 [(7, sv ad9 y6 cap10), (8, iv x14), (9, iv x17), (10, sv ad26 y23.1 cap27), (12, sv ad39 l31 cap40), (13, sv ad41 l33 cap42), (14, iv (-1))] hF fun a hF => ?_
   refine wfn rfl ?_
   refine ecut (fun a w => ∃ (l301 : (List (VecN Bool 80))) (ad299 : Option Addr) (cap300 : Nat), Fr 194 [] [(7, sv ad9 y6 cap10), (8, iv x14), (9, iv x17), (10, sv ad26 y23.1 cap27), (12, sv ad299 l301 cap300), (13, sv ad41 l33 cap42)] a ∧ St w0 [arr 85 80 (vF Value.bool) ad299 l301.length cap300 l301, arr 85 80 (vF Value.bool) ad41 l33.length cap42 l33, arr 43 1 (fN 1) ad26 y23.1.length cap27 css28, fz w0 ν24] w ∧ law03_FoldCourses_K1 F y6 x14 x17 y23 l33 l301 = some res) ?_ ?_
   ·skip
    refine esr ?_
    refine rn 3 3 [(7, sv ad9 y6 cap10), (8, iv x14), (9, iv x17), (10, sv ad26 y23.1 cap27), (12, sv ad39 l31 cap40), (13, sv ad41 l33 cap42), (14, iv (-1)), (56, iv (ln y6)), (57, iv 0)] hF fun a hF => ?_
    refine wfn rfl ?_
    refine wpIn_block ?_
    refine eloop (fun n_ a w => ∃ (l1945 : (List (VecN Bool 80))) (x1946 : Int) (x1947 : Int) (ad1943 : Option Addr) (cap1944 : Nat), Fr 194 [] [(7, sv ad9 y6 cap10), (8, iv x14), (9, iv x17), (10, sv ad26 y23.1 cap27), (12, sv ad1943 l1945 cap1944), (13, sv ad41 l33 cap42), (14, iv x1946), (56, iv (ln y6)), (57, iv x1947)] a ∧ St w0 [arr 85 80 (vF Value.bool) ad1943 l1945.length cap1944 l1945, arr 85 80 (vF Value.bool) ad41 l33.length cap42 l33, arr 43 1 (fN 1) ad26 y23.1.length cap27 css28, fz w0 ν24] w ∧ law03_FoldCourses_L11 F y6 x14 x17 y23 l33 n_ l1945 x1946 x1947 = some res) F ⟨l31, -1, 0, ad39, cap40, hF.sub (by kernel_rfl), St.pick [0, 1, 2, 3] (by decide) hS, h⟩ ?_
    rintro nk11 a w ⟨l1945, x1946, x1947, ad1943, cap1944, hF, hS, h⟩
    rcases nk11 with _ | nk11
    ·cases (show (none : Option Bool) = some res from h)
    obtain ⟨k11, hk11⟩ : ∃ k, k = law03_FoldCourses_L11 F y6 x14 x17 y23 l33 nk11 := ⟨_, rfl⟩
    replace h : law03_FoldCourses_B11 F y6 x14 x17 y23 l33 k11 l1945 x1946 x1947 = some res := by rw [hk11]; exact h
    rw [law03_FoldCourses_B11] at h
    refine esr ?_
    refine rn 1 1 [(7, sv ad9 y6 cap10), (8, iv x14), (9, iv x17), (10, sv ad26 y23.1 cap27), (12, sv ad1943 l1945 cap1944), (13, sv ad41 l33 cap42), (14, iv x1946), (56, iv (ln y6)), (57, iv x1947), (58, .bool (decide (x1947 < (ln y6))))] hF fun a hF => ?_
    refine wfn rfl ?_
    refine eseq ?_
    refine econd hF rfl (fun hc => ?_) (fun hc => ?_)
    ·replace h := bif_t h hc
     refine wpIn_skip (norm_then ?_)
     refine ecut (fun a w => ∃ (l1988 : (List (VecN Bool 80))) (x1989 : Int) (ad1986 : Option Addr) (cap1987 : Nat), Fr 194 [] [(7, sv ad9 y6 cap10), (8, iv x14), (9, iv x17), (10, sv ad26 y23.1 cap27), (12, sv ad1986 l1988 cap1987), (13, sv ad41 l33 cap42), (14, iv x1989), (56, iv (ln y6)), (57, iv x1947)] a ∧ St w0 [arr 85 80 (vF Value.bool) ad1986 l1988.length cap1987 l1988, arr 85 80 (vF Value.bool) ad41 l33.length cap42 l33, arr 43 1 (fN 1) ad26 y23.1.length cap27 css28, fz w0 ν24] w ∧ law03_FoldCourses_K12 x1947 k11 l1988 x1989 = some res) ?_ ?_
     ·skip
      refine wpIn_block ?_
      refine esr ?_
      refine rn 2 2 [(7, sv ad9 y6 cap10), (8, iv x14), (9, iv x17), (10, sv ad26 y23.1 cap27), (12, sv ad1943 l1945 cap1944), (13, sv ad41 l33 cap42), (14, iv x1946), (15, iv x1947), (56, iv (ln y6)), (57, iv x1947)] hF fun a hF => ?_
      refine wfn rfl ?_
      refine esr ?_
      replace h := bindS h
      obtain ⟨u1992, hu1992, h⟩ := h
      obtain ⟨cs1993, hcs1994, hR1995⟩ := getI_all2 hA21.2 hu1992
      obtain ⟨ad1996, cap1997, rfl, hA1998⟩ := hR1995
      replace h := bindS h
      obtain ⟨y1999, hy1999, h⟩ := h
      replace h := bindS h
      obtain ⟨u2000, hu2000, h⟩ := h
      refine rx 8 [.run [] (Instr.indexAt 48 (sv ad9 y6 cap10) (iv x1947)) (.pointer (some (slAddr ad9 x1947 1))), .run [] (Instr.loadAt 43 (.pointer (some (slAddr ad9 x1947 1)))) (sv ad1996 u1992 cap1997), .call [] 40 #[sv ad1996 u1992 cap1997] (.agg (vF Value.bool y1999).toArray), .run [] (Instr.indexAt 84 (sv ad1943 l1945 cap1944) (iv x1947)) (.pointer (some (slAddr ad1943 x1947 80)))] 8 [(7, sv ad9 y6 cap10), (8, iv x14), (9, iv x17), (10, sv ad26 y23.1 cap27), (12, sv ad1943 l1945 cap1944), (13, sv ad41 l33 cap42), (14, iv x1946), (15, iv x1947), (56, iv (ln y6)), (57, iv x1947), (66, .agg (vF Value.bool y1999).toArray), (67, .pointer (some (slAddr ad1943 x1947 80)))] hF (ocons (obIdxQ (hA21.at (hS.frz (i := 3) rfl hlow)) (by kernel_rfl) (fun _ => hcs1994)) (ocons (obElQ (i := x1947) 0 (fN_len 1) (fun _ hd => (hA21.at ((hS.later hd).frz (i := 3) rfl hlow))) (by kernel_rfl) (fun _ => hcs1994) rfl) (ocons (show Ob.ok _ Ext _ _ from fun hk w2 hd => law03_dots_ok F u1992 _ ((fun _ => hy1999) hk) _ w2 (memOf_at w2) (hA1998.mono (FrzAt.le_mem ((hS.later hd).frz (i := 3) rfl hlow)))) (ocons (obIdxQ (hS.arr (i := 0) rfl) (by kernel_rfl) (fun _ => hu2000)) onil)))) fun a w hF hx => ?_
      replace hS := hS.later hx
      replace h := bindS h
      obtain ⟨l2001, hl2001, h⟩ := h
      refine SK.wi (elVK (f := Value.bool) (y := y1999) (q := x1947) (t := 85) [(7, sv ad9 y6 cap10), (8, iv x14), (9, iv x17), (10, sv ad26 y23.1 cap27), (12, sv ad1943 l1945 cap1944), (13, sv ad41 l33 cap42), (14, iv x1946), (15, iv x1947), (56, iv (ln y6)), (57, iv x1947)] 0 u2000 (fun _ => rfl) hF hS rfl (by kernel_rfl) ⟨by kernel_rfl⟩ hu2000 (by kernel_rfl) hl2001 ⟨by kernel_rfl⟩ fun w a hF hl hS => ?_)
      simp only [sv, ln, hl] at hF hS
      refine wfn rfl ?_
      refine esr ?_
      replace h := bindS h
      obtain ⟨u2002, hu2002, h⟩ := h
      obtain ⟨cs2003, hcs2004, hR2005⟩ := getI_all2 hA21.2 hu2002
      obtain ⟨ad2006, cap2007, rfl, hA2008⟩ := hR2005
      refine rno 6 [.run [] (Instr.indexAt 48 (sv ad9 y6 cap10) (iv x1947)) (.pointer (some (slAddr ad9 x1947 1))), .run [] (Instr.loadAt 43 (.pointer (some (slAddr ad9 x1947 1)))) (sv ad2006 u2002 cap2007)] 6 [(7, sv ad9 y6 cap10), (8, iv x14), (9, iv x17), (10, sv ad26 y23.1 cap27), (12, sv ad1943 l2001 cap1944), (13, sv ad41 l33 cap42), (14, iv x1946), (15, iv x1947), (56, iv (ln y6)), (57, iv x1947), (73, .bool (decide ((ln u2002) > 0)))] hF (ocons (obIdxQ (hA21.at (hS.frz (i := 3) rfl hlow)) (by kernel_rfl) (fun _ => hcs2004)) (ocons (obElQ (i := x1947) 0 (fN_len 1) (fun _ hd => (hA21.at ((hS.at_ hd).frz (i := 3) rfl hlow))) (by kernel_rfl) (fun _ => hcs2004) rfl) onil)) fun a hF => ?_
      refine wfn rfl ?_
      refine econd hF rfl (fun hc => ?_) (fun hc => ?_)
      ·replace h := bif_t h hc
       refine ecut (fun a w => ∃ (l2019 : (List (VecN Bool 80))) (ad2017 : Option Addr) (cap2018 : Nat), Fr 194 [] [(7, sv ad9 y6 cap10), (8, iv x14), (9, iv x17), (10, sv ad26 y23.1 cap27), (12, sv ad2017 l2019 cap2018), (13, sv ad41 l33 cap42), (15, iv x1947), (56, iv (ln y6)), (57, iv x1947)] a ∧ St w0 [arr 85 80 (vF Value.bool) ad2017 l2019.length cap2018 l2019, arr 85 80 (vF Value.bool) ad41 l33.length cap42 l33, arr 43 1 (fN 1) ad26 y23.1.length cap27 css28, fz w0 ν24] w ∧ law03_FoldCourses_K13 x1947 k11 l2019 = some res) ?_ ?_
       ·skip
        refine esr ?_
        replace h := bindS h
        obtain ⟨x2021, hx2021, h⟩ := h
        refine rno 9 [.run [⟨76, true, (decide (x1946 ≥ 0))⟩] (binOp .sub 3 (iv x1947) (iv x1946)) (iv x2021)] 9 [(7, sv ad9 y6 cap10), (8, iv x14), (9, iv x17), (10, sv ad26 y23.1 cap27), (12, sv ad1943 l2001 cap1944), (13, sv ad41 l33 cap42), (14, iv x1946), (15, iv x1947), (56, iv (ln y6)), (57, iv x1947), (82, .bool (bif (decide (x1946 ≥ 0)) then (decide (x2021 ≤ x17)) else false))] hF (ocons (obSubC (fun hk => gd_some hx2021 hk)) onil) fun a hF => ?_
        refine wfn rfl ?_
        refine econd hF rfl (fun hc => ?_) (fun hc => ?_)
        ·replace h := bif_t h hc
         replace h := bindS h
         obtain ⟨u2022, hu2022, h⟩ := h
         replace h := bindS h
         obtain ⟨u2023, hu2023, h⟩ := h
         replace h := bindS h
         obtain ⟨x2024, hx2024, h⟩ := h
         replace h := bindS h
         obtain ⟨x2025, hx2025, h⟩ := h
         replace h := bindS h
         obtain ⟨y2026, hy2026, h⟩ := h
         replace h := bindS h
         obtain ⟨u2027, hu2027, h⟩ := h
         refine runD (obs := [.run [] (Instr.indexAt 84 (sv ad1943 l2001 cap1944) (iv x1947)) (.pointer (some (slAddr ad1943 x1947 80))), .run [] (Instr.loadAt 85 (.pointer (some (slAddr ad1943 x1947 80)))) (.agg (vF Value.bool u2022).toArray), .run [] (Instr.indexAt 84 (sv ad1943 l2001 cap1944) (iv x1946)) (.pointer (some (slAddr ad1943 x1946 80))), .run [] (Instr.loadAt 85 (.pointer (some (slAddr ad1943 x1946 80)))) (.agg (vF Value.bool u2023).toArray), .run [] (binOp .sub 3 (iv x1947) (iv x1946)) (iv x2024), .run [] (binOp .mul 3 (iv x14) (iv x2024)) (iv x2025), .call [] 41 #[.agg (vF Value.bool u2022).toArray, .agg (vF Value.bool u2023).toArray, iv x2025] (.agg (vF Value.bool y2026).toArray), .run [] (Instr.indexAt 84 (sv ad1943 l2001 cap1944) (iv x1947)) (.pointer (some (slAddr ad1943 x1947 80)))]) 17 [(7, sv ad9 y6 cap10), (8, iv x14), (9, iv x17), (10, sv ad26 y23.1 cap27), (12, sv ad1943 l2001 cap1944), (13, sv ad41 l33 cap42), (15, iv x1947), (56, iv (ln y6)), (57, iv x1947), (98, .agg (vF Value.bool y2026).toArray), (99, .pointer (some (slAddr ad1943 x1947 80)))] (by kernel_rfl) hF (by kernel_rfl) (ocons (obIdxQ (hS.arr (i := 0) rfl) (by kernel_rfl) (fun _ => hu2022)) (ocons (obElNQ (m := 80) (i := x1947) (us := vF Value.bool u2022) 0 (vF_len Value.bool) (fun _ hd => ((hS.later hd).arr (i := 0) rfl)) (by kernel_rfl) (fun _ => hu2022) ⟨vF_len _ _, vF_take _ _⟩) (ocons (obIdxQ (hS.arr (i := 0) rfl) (by kernel_rfl) (fun _ => hu2023)) (ocons (obElNQ (m := 80) (i := x1946) (us := vF Value.bool u2023) 0 (vF_len Value.bool) (fun _ hd => ((hS.later hd).arr (i := 0) rfl)) (by kernel_rfl) (fun _ => hu2023) ⟨vF_len _ _, vF_take _ _⟩) (ocons (obSubC (fun _ => hx2024)) (ocons (obMulC (fun _ => hx2025)) (ocons (show Ob.ok _ Ext _ _ from fun hk w2 hd => law03_beside_ok F u2022 u2023 x2025 _ ((fun _ => hy2026) hk) _ w2 (memOf_at w2) ) (ocons (obIdxQ (hS.arr (i := 0) rfl) (by kernel_rfl) (fun _ => hu2027)) onil)))))))) ⟨by kernel_rfl⟩ fun a w hF hx => ?_
         replace hS := hS.later hx
         replace h := bindS h
         obtain ⟨l2028, hl2028, h⟩ := h
         refine SK.wi (elVK (f := Value.bool) (y := y2026) (q := x1947) (t := 85) [(7, sv ad9 y6 cap10), (8, iv x14), (9, iv x17), (10, sv ad26 y23.1 cap27), (12, sv ad1943 l2001 cap1944), (13, sv ad41 l33 cap42), (15, iv x1947), (56, iv (ln y6)), (57, iv x1947)] 0 u2027 (fun _ => rfl) hF hS rfl (by kernel_rfl) ⟨by kernel_rfl⟩ hu2027 (by kernel_rfl) hl2028 ⟨by kernel_rfl⟩ fun w a hF hl hS => ?_)
         simp only [sv, ln, hl] at hF hS
         refine wfn rfl ?_
         exact ⟨l2028, ad1943, cap1944, hF.sub (by kernel_rfl), St.pick [0, 1, 2, 3] (by decide) hS, h⟩
        ·replace h := bif_f h hc
         refine wpIn_skip (norm_then ?_)
         exact ⟨l2001, ad1943, cap1944, hF.sub (by kernel_rfl), St.pick [0, 1, 2, 3] (by decide) hS, h⟩
       rintro a w ⟨l2019, ad2017, cap2018, hF, hS, h⟩
       rw [law03_FoldCourses_K13] at h
       refine WI.region ?_
       refine rn 2 2 [(7, sv ad9 y6 cap10), (8, iv x14), (9, iv x17), (10, sv ad26 y23.1 cap27), (12, sv ad2017 l2019 cap2018), (13, sv ad41 l33 cap42), (14, iv x1947), (56, iv (ln y6)), (57, iv x1947)] hF fun a hF => ?_
       refine WI.fin rfl (norm_block <| norm_then <| ?_)
       exact ⟨l2019, x1947, ad2017, cap2018, hF.sub (by kernel_rfl), St.pick [0, 1, 2, 3] (by decide) hS, h⟩
      ·replace h := bif_f h hc
       refine wpIn_skip (norm_block <| norm_then <| ?_)
       exact ⟨l2001, x1946, ad1943, cap1944, hF.sub (by kernel_rfl), St.pick [0, 1, 2, 3] (by decide) hS, h⟩
     rintro a w ⟨l1988, x1989, ad1986, cap1987, hF, hS, h⟩
     rw [law03_FoldCourses_K12] at h
     refine WI.region ?_
     replace h := bindS h
     obtain ⟨x1990, hx1990, h⟩ := h
     refine rno 2 [.run [] (binOp .add 3 (iv x1947) (iv 1)) (iv x1990)] 2 [(7, sv ad9 y6 cap10), (8, iv x14), (9, iv x17), (10, sv ad26 y23.1 cap27), (12, sv ad1986 l1988 cap1987), (13, sv ad41 l33 cap42), (14, iv x1989), (56, iv (ln y6)), (57, iv x1990)] hF (ocons (obAddC (fun _ => hx1990)) onil) fun a hF => ?_
     refine wfn rfl ?_
     rw [hk11] at h
     exact ⟨nk11, Nat.lt_succ_self _, l1988, x1989, x1990, ad1986, cap1987, hF.sub (by kernel_rfl), St.pick [0, 1, 2, 3] (by decide) hS, h⟩
    ·replace h := bif_f h hc
     refine wpIn_exit (exit_then <| exit_then <| exit_hit <| norm_then ?_)
     exact ⟨l1945, ad1943, cap1944, hF.sub (by kernel_rfl), St.pick [0, 1, 2, 3] (by decide) hS, h⟩
   rintro a w ⟨l301, ad299, cap300, hF, hS, h⟩
   rw [law03_FoldCourses_K1] at h
   refine esr ?_
   refine rn 1 1 [(7, sv ad9 y6 cap10), (8, iv x14), (9, iv x17), (10, sv ad26 y23.1 cap27), (12, sv ad299 l301 cap300), (13, sv ad41 l33 cap42), (14, iv (-1))] hF fun a hF => ?_
   refine wfn rfl ?_
   refine ecut (fun a w => ∃ (l556 : (List (VecN Bool 80))) (ad554 : Option Addr) (cap555 : Nat), Fr 194 [] [(7, sv ad9 y6 cap10), (10, sv ad26 y23.1 cap27), (12, sv ad299 l301 cap300), (13, sv ad554 l556 cap555)] a ∧ St w0 [arr 85 80 (vF Value.bool) ad554 l556.length cap555 l556, arr 85 80 (vF Value.bool) ad299 l301.length cap300 l301, arr 43 1 (fN 1) ad26 y23.1.length cap27 css28, fz w0 ν24] w ∧ law03_FoldCourses_K2 F y6 y23 l301 l556 = some res) ?_ ?_
   ·skip
    refine esr ?_
    replace h := bindS h
    obtain ⟨x1525, hx1525, h⟩ := h
    refine rno 4 [.run [] (binOp .sub 3 (iv (ln y6)) (iv 1)) (iv x1525)] 4 [(7, sv ad9 y6 cap10), (8, iv x14), (9, iv x17), (10, sv ad26 y23.1 cap27), (12, sv ad299 l301 cap300), (13, sv ad41 l33 cap42), (14, iv (-1)), (16, iv x1525)] hF (ocons (obSubC (fun _ => hx1525)) onil) fun a hF => ?_
    refine wfn rfl ?_
    refine wpIn_block ?_
    refine eloop (fun n_ a w => ∃ (l1693 : (List (VecN Bool 80))) (x1694 : Int) (x1695 : Int) (ad1691 : Option Addr) (cap1692 : Nat), Fr 194 [] [(7, sv ad9 y6 cap10), (8, iv x14), (9, iv x17), (10, sv ad26 y23.1 cap27), (12, sv ad299 l301 cap300), (13, sv ad1691 l1693 cap1692), (14, iv x1694), (16, iv x1695)] a ∧ St w0 [arr 85 80 (vF Value.bool) ad1691 l1693.length cap1692 l1693, arr 85 80 (vF Value.bool) ad299 l301.length cap300 l301, arr 43 1 (fN 1) ad26 y23.1.length cap27 css28, fz w0 ν24] w ∧ law03_FoldCourses_L8 F y6 x14 x17 y23 l301 n_ l1693 x1694 x1695 = some res) F ⟨l33, -1, x1525, ad41, cap42, hF.sub (by kernel_rfl), St.pick [1, 0, 2, 3] (by decide) hS, h⟩ ?_
    rintro nk8 a w ⟨l1693, x1694, x1695, ad1691, cap1692, hF, hS, h⟩
    rcases nk8 with _ | nk8
    ·cases (show (none : Option Bool) = some res from h)
    obtain ⟨k8, hk8⟩ : ∃ k, k = law03_FoldCourses_L8 F y6 x14 x17 y23 l301 nk8 := ⟨_, rfl⟩
    replace h : law03_FoldCourses_B8 F y6 x14 x17 y23 l301 k8 l1693 x1694 x1695 = some res := by rw [hk8]; exact h
    rw [law03_FoldCourses_B8] at h
    refine eseq ?_
    refine esr ?_
    refine rn 2 2 [(7, sv ad9 y6 cap10), (8, iv x14), (9, iv x17), (10, sv ad26 y23.1 cap27), (12, sv ad299 l301 cap300), (13, sv ad1691 l1693 cap1692), (14, iv x1694), (16, iv x1695), (106, .bool (decide (x1695 ≥ 0)))] hF fun a hF => ?_
    refine wfn rfl ?_
    refine econd hF rfl (fun hc => ?_) (fun hc => ?_)
    ·replace h := bif_t h hc
     refine wpIn_skip (norm_then ?_)
     refine ecut (fun a w => ∃ (l1736 : (List (VecN Bool 80))) (x1737 : Int) (ad1734 : Option Addr) (cap1735 : Nat), Fr 194 [] [(7, sv ad9 y6 cap10), (8, iv x14), (9, iv x17), (10, sv ad26 y23.1 cap27), (12, sv ad299 l301 cap300), (13, sv ad1734 l1736 cap1735), (14, iv x1737), (16, iv x1695)] a ∧ St w0 [arr 85 80 (vF Value.bool) ad1734 l1736.length cap1735 l1736, arr 85 80 (vF Value.bool) ad299 l301.length cap300 l301, arr 43 1 (fN 1) ad26 y23.1.length cap27 css28, fz w0 ν24] w ∧ law03_FoldCourses_K9 x1695 k8 l1736 x1737 = some res) ?_ ?_
     ·skip
      refine wpIn_block ?_
      refine esr ?_
      replace h := bindS h
      obtain ⟨u1740, hu1740, h⟩ := h
      obtain ⟨cs1741, hcs1742, hR1743⟩ := getI_all2 hA21.2 hu1740
      obtain ⟨ad1744, cap1745, rfl, hA1746⟩ := hR1743
      replace h := bindS h
      obtain ⟨y1747, hy1747, h⟩ := h
      replace h := bindS h
      obtain ⟨u1748, hu1748, h⟩ := h
      refine rx 8 [.run [] (Instr.indexAt 48 (sv ad9 y6 cap10) (iv x1695)) (.pointer (some (slAddr ad9 x1695 1))), .run [] (Instr.loadAt 43 (.pointer (some (slAddr ad9 x1695 1)))) (sv ad1744 u1740 cap1745), .call [] 40 #[sv ad1744 u1740 cap1745] (.agg (vF Value.bool y1747).toArray), .run [] (Instr.indexAt 84 (sv ad1691 l1693 cap1692) (iv x1695)) (.pointer (some (slAddr ad1691 x1695 80)))] 8 [(7, sv ad9 y6 cap10), (8, iv x14), (9, iv x17), (10, sv ad26 y23.1 cap27), (12, sv ad299 l301 cap300), (13, sv ad1691 l1693 cap1692), (14, iv x1694), (16, iv x1695), (115, .agg (vF Value.bool y1747).toArray), (116, .pointer (some (slAddr ad1691 x1695 80)))] hF (ocons (obIdxQ (hA21.at (hS.frz (i := 3) rfl hlow)) (by kernel_rfl) (fun _ => hcs1742)) (ocons (obElQ (i := x1695) 0 (fN_len 1) (fun _ hd => (hA21.at ((hS.later hd).frz (i := 3) rfl hlow))) (by kernel_rfl) (fun _ => hcs1742) rfl) (ocons (show Ob.ok _ Ext _ _ from fun hk w2 hd => law03_dots_ok F u1740 _ ((fun _ => hy1747) hk) _ w2 (memOf_at w2) (hA1746.mono (FrzAt.le_mem ((hS.later hd).frz (i := 3) rfl hlow)))) (ocons (obIdxQ (hS.arr (i := 0) rfl) (by kernel_rfl) (fun _ => hu1748)) onil)))) fun a w hF hx => ?_
      replace hS := hS.later hx
      replace h := bindS h
      obtain ⟨l1749, hl1749, h⟩ := h
      refine SK.wi (elVK (f := Value.bool) (y := y1747) (q := x1695) (t := 85) [(7, sv ad9 y6 cap10), (8, iv x14), (9, iv x17), (10, sv ad26 y23.1 cap27), (12, sv ad299 l301 cap300), (13, sv ad1691 l1693 cap1692), (14, iv x1694), (16, iv x1695)] 0 u1748 (fun _ => rfl) hF hS rfl (by kernel_rfl) ⟨by kernel_rfl⟩ hu1748 (by kernel_rfl) hl1749 ⟨by kernel_rfl⟩ fun w a hF hl hS => ?_)
      simp only [sv, ln, hl] at hF hS
      refine wfn rfl ?_
      refine esr ?_
      replace h := bindS h
      obtain ⟨u1750, hu1750, h⟩ := h
      obtain ⟨cs1751, hcs1752, hR1753⟩ := getI_all2 hA21.2 hu1750
      obtain ⟨ad1754, cap1755, rfl, hA1756⟩ := hR1753
      refine rno 6 [.run [] (Instr.indexAt 48 (sv ad9 y6 cap10) (iv x1695)) (.pointer (some (slAddr ad9 x1695 1))), .run [] (Instr.loadAt 43 (.pointer (some (slAddr ad9 x1695 1)))) (sv ad1754 u1750 cap1755)] 6 [(7, sv ad9 y6 cap10), (8, iv x14), (9, iv x17), (10, sv ad26 y23.1 cap27), (12, sv ad299 l301 cap300), (13, sv ad1691 l1749 cap1692), (14, iv x1694), (16, iv x1695), (122, .bool (decide ((ln u1750) > 0)))] hF (ocons (obIdxQ (hA21.at (hS.frz (i := 3) rfl hlow)) (by kernel_rfl) (fun _ => hcs1752)) (ocons (obElQ (i := x1695) 0 (fN_len 1) (fun _ hd => (hA21.at ((hS.at_ hd).frz (i := 3) rfl hlow))) (by kernel_rfl) (fun _ => hcs1752) rfl) onil)) fun a hF => ?_
      refine wfn rfl ?_
      refine econd hF rfl (fun hc => ?_) (fun hc => ?_)
      ·replace h := bif_t h hc
       refine ecut (fun a w => ∃ (l1767 : (List (VecN Bool 80))) (ad1765 : Option Addr) (cap1766 : Nat), Fr 194 [] [(7, sv ad9 y6 cap10), (8, iv x14), (9, iv x17), (10, sv ad26 y23.1 cap27), (12, sv ad299 l301 cap300), (13, sv ad1765 l1767 cap1766), (16, iv x1695)] a ∧ St w0 [arr 85 80 (vF Value.bool) ad1765 l1767.length cap1766 l1767, arr 85 80 (vF Value.bool) ad299 l301.length cap300 l301, arr 43 1 (fN 1) ad26 y23.1.length cap27 css28, fz w0 ν24] w ∧ law03_FoldCourses_K10 x1695 k8 l1767 = some res) ?_ ?_
       ·skip
        refine esr ?_
        replace h := bindS h
        obtain ⟨x1769, hx1769, h⟩ := h
        refine rno 9 [.run [⟨125, true, (decide (x1694 ≥ 0))⟩] (binOp .sub 3 (iv x1694) (iv x1695)) (iv x1769)] 9 [(7, sv ad9 y6 cap10), (8, iv x14), (9, iv x17), (10, sv ad26 y23.1 cap27), (12, sv ad299 l301 cap300), (13, sv ad1691 l1749 cap1692), (14, iv x1694), (16, iv x1695), (131, .bool (bif (decide (x1694 ≥ 0)) then (decide (x1769 ≤ x17)) else false))] hF (ocons (obSubC (fun hk => gd_some hx1769 hk)) onil) fun a hF => ?_
        refine wfn rfl ?_
        refine econd hF rfl (fun hc => ?_) (fun hc => ?_)
        ·replace h := bif_t h hc
         replace h := bindS h
         obtain ⟨u1770, hu1770, h⟩ := h
         replace h := bindS h
         obtain ⟨u1771, hu1771, h⟩ := h
         replace h := bindS h
         obtain ⟨x1772, hx1772, h⟩ := h
         replace h := bindS h
         obtain ⟨x1773, hx1773, h⟩ := h
         replace h := bindS h
         obtain ⟨y1774, hy1774, h⟩ := h
         replace h := bindS h
         obtain ⟨u1775, hu1775, h⟩ := h
         refine runD (obs := [.run [] (Instr.indexAt 84 (sv ad1691 l1749 cap1692) (iv x1695)) (.pointer (some (slAddr ad1691 x1695 80))), .run [] (Instr.loadAt 85 (.pointer (some (slAddr ad1691 x1695 80)))) (.agg (vF Value.bool u1770).toArray), .run [] (Instr.indexAt 84 (sv ad1691 l1749 cap1692) (iv x1694)) (.pointer (some (slAddr ad1691 x1694 80))), .run [] (Instr.loadAt 85 (.pointer (some (slAddr ad1691 x1694 80)))) (.agg (vF Value.bool u1771).toArray), .run [] (binOp .sub 3 (iv x1694) (iv x1695)) (iv x1772), .run [] (binOp .mul 3 (iv x14) (iv x1772)) (iv x1773), .call [] 41 #[.agg (vF Value.bool u1770).toArray, .agg (vF Value.bool u1771).toArray, iv x1773] (.agg (vF Value.bool y1774).toArray), .run [] (Instr.indexAt 84 (sv ad1691 l1749 cap1692) (iv x1695)) (.pointer (some (slAddr ad1691 x1695 80)))]) 17 [(7, sv ad9 y6 cap10), (8, iv x14), (9, iv x17), (10, sv ad26 y23.1 cap27), (12, sv ad299 l301 cap300), (13, sv ad1691 l1749 cap1692), (16, iv x1695), (147, .agg (vF Value.bool y1774).toArray), (148, .pointer (some (slAddr ad1691 x1695 80)))] (by kernel_rfl) hF (by kernel_rfl) (ocons (obIdxQ (hS.arr (i := 0) rfl) (by kernel_rfl) (fun _ => hu1770)) (ocons (obElNQ (m := 80) (i := x1695) (us := vF Value.bool u1770) 0 (vF_len Value.bool) (fun _ hd => ((hS.later hd).arr (i := 0) rfl)) (by kernel_rfl) (fun _ => hu1770) ⟨vF_len _ _, vF_take _ _⟩) (ocons (obIdxQ (hS.arr (i := 0) rfl) (by kernel_rfl) (fun _ => hu1771)) (ocons (obElNQ (m := 80) (i := x1694) (us := vF Value.bool u1771) 0 (vF_len Value.bool) (fun _ hd => ((hS.later hd).arr (i := 0) rfl)) (by kernel_rfl) (fun _ => hu1771) ⟨vF_len _ _, vF_take _ _⟩) (ocons (obSubC (fun _ => hx1772)) (ocons (obMulC (fun _ => hx1773)) (ocons (show Ob.ok _ Ext _ _ from fun hk w2 hd => law03_beside_ok F u1770 u1771 x1773 _ ((fun _ => hy1774) hk) _ w2 (memOf_at w2) ) (ocons (obIdxQ (hS.arr (i := 0) rfl) (by kernel_rfl) (fun _ => hu1775)) onil)))))))) ⟨by kernel_rfl⟩ fun a w hF hx => ?_
         replace hS := hS.later hx
         replace h := bindS h
         obtain ⟨l1776, hl1776, h⟩ := h
         refine SK.wi (elVK (f := Value.bool) (y := y1774) (q := x1695) (t := 85) [(7, sv ad9 y6 cap10), (8, iv x14), (9, iv x17), (10, sv ad26 y23.1 cap27), (12, sv ad299 l301 cap300), (13, sv ad1691 l1749 cap1692), (16, iv x1695)] 0 u1775 (fun _ => rfl) hF hS rfl (by kernel_rfl) ⟨by kernel_rfl⟩ hu1775 (by kernel_rfl) hl1776 ⟨by kernel_rfl⟩ fun w a hF hl hS => ?_)
         simp only [sv, ln, hl] at hF hS
         refine wfn rfl ?_
         exact ⟨l1776, ad1691, cap1692, hF.sub (by kernel_rfl), St.pick [0, 1, 2, 3] (by decide) hS, h⟩
        ·replace h := bif_f h hc
         refine wpIn_skip (norm_then ?_)
         exact ⟨l1749, ad1691, cap1692, hF.sub (by kernel_rfl), St.pick [0, 1, 2, 3] (by decide) hS, h⟩
       rintro a w ⟨l1767, ad1765, cap1766, hF, hS, h⟩
       rw [law03_FoldCourses_K10] at h
       refine WI.region ?_
       refine rn 2 2 [(7, sv ad9 y6 cap10), (8, iv x14), (9, iv x17), (10, sv ad26 y23.1 cap27), (12, sv ad299 l301 cap300), (13, sv ad1765 l1767 cap1766), (14, iv x1695), (16, iv x1695)] hF fun a hF => ?_
       refine WI.fin rfl (norm_block <| norm_then <| ?_)
       exact ⟨l1767, x1695, ad1765, cap1766, hF.sub (by kernel_rfl), St.pick [0, 1, 2, 3] (by decide) hS, h⟩
      ·replace h := bif_f h hc
       refine wpIn_skip (norm_block <| norm_then <| ?_)
       exact ⟨l1749, x1694, ad1691, cap1692, hF.sub (by kernel_rfl), St.pick [0, 1, 2, 3] (by decide) hS, h⟩
     rintro a w ⟨l1736, x1737, ad1734, cap1735, hF, hS, h⟩
     rw [law03_FoldCourses_K9] at h
     refine WI.region ?_
     replace h := bindS h
     obtain ⟨x1738, hx1738, h⟩ := h
     refine rno 3 [.run [] (binOp .sub 3 (iv x1695) (iv 1)) (iv x1738)] 3 [(7, sv ad9 y6 cap10), (8, iv x14), (9, iv x17), (10, sv ad26 y23.1 cap27), (12, sv ad299 l301 cap300), (13, sv ad1734 l1736 cap1735), (14, iv x1737), (16, iv x1738)] hF (ocons (obSubC (fun _ => hx1738)) onil) fun a hF => ?_
     refine wfn rfl ?_
     rw [hk8] at h
     exact ⟨nk8, Nat.lt_succ_self _, l1736, x1737, x1738, ad1734, cap1735, hF.sub (by kernel_rfl), St.pick [0, 1, 2, 3] (by decide) hS, h⟩
    ·replace h := bif_f h hc
     refine wpIn_exit (exit_then <| exit_then <| exit_hit <| norm_then ?_)
     exact ⟨l1693, ad1691, cap1692, hF.sub (by kernel_rfl), St.pick [0, 1, 2, 3] (by decide) hS, h⟩
   rintro a w ⟨l556, ad554, cap555, hF, hS, h⟩
   rw [law03_FoldCourses_K2] at h
   refine ecut (fun a w => Fr 194 [] [] a ∧ St w0 [arr 85 80 (vF Value.bool) ad554 l556.length cap555 l556, arr 85 80 (vF Value.bool) ad299 l301.length cap300 l301, arr 43 1 (fN 1) ad26 y23.1.length cap27 css28, fz w0 ν24] w ∧ law03_FoldCourses_K3 = some res) ?_ ?_
   ·skip
    refine esr ?_
    refine rn 3 3 [(10, sv ad26 y23.1 cap27), (12, sv ad299 l301 cap300), (13, sv ad554 l556 cap555), (151, iv (ln y6)), (152, iv 0)] hF fun a hF => ?_
    refine wfn rfl ?_
    refine wpIn_block ?_
    refine eloop (fun n_ a w => ∃ (x1362 : Int), Fr 194 [] [(10, sv ad26 y23.1 cap27), (12, sv ad299 l301 cap300), (13, sv ad554 l556 cap555), (151, iv (ln y6)), (152, iv x1362)] a ∧ St w0 [arr 85 80 (vF Value.bool) ad554 l556.length cap555 l556, arr 85 80 (vF Value.bool) ad299 l301.length cap300 l301, arr 43 1 (fN 1) ad26 y23.1.length cap27 css28, fz w0 ν24] w ∧ law03_FoldCourses_L4 F y6 y23 l301 l556 n_ x1362 = some res) F ⟨0, hF.sub (by kernel_rfl), St.pick [0, 1, 2, 3] (by decide) hS, h⟩ ?_
    rintro nk4 a w ⟨x1362, hF, hS, h⟩
    rcases nk4 with _ | nk4
    ·cases (show (none : Option Bool) = some res from h)
    obtain ⟨k4, hk4⟩ : ∃ k, k = law03_FoldCourses_L4 F y6 y23 l301 l556 nk4 := ⟨_, rfl⟩
    replace h : law03_FoldCourses_B4 F y6 y23 l301 l556 k4 x1362 = some res := by rw [hk4]; exact h
    rw [law03_FoldCourses_B4] at h
    refine esr ?_
    refine rn 1 1 [(10, sv ad26 y23.1 cap27), (12, sv ad299 l301 cap300), (13, sv ad554 l556 cap555), (151, iv (ln y6)), (152, iv x1362), (153, .bool (decide (x1362 < (ln y6))))] hF fun a hF => ?_
    refine wfn rfl ?_
    refine eseq ?_
    refine econd hF rfl (fun hc => ?_) (fun hc => ?_)
    ·replace h := bif_t h hc
     refine wpIn_skip (norm_then ?_)
     refine ecut (fun a w => Fr 194 [] [(10, sv ad26 y23.1 cap27), (12, sv ad299 l301 cap300), (13, sv ad554 l556 cap555), (151, iv (ln y6)), (152, iv x1362)] a ∧ St w0 [arr 85 80 (vF Value.bool) ad554 l556.length cap555 l556, arr 85 80 (vF Value.bool) ad299 l301.length cap300 l301, arr 43 1 (fN 1) ad26 y23.1.length cap27 css28, fz w0 ν24] w ∧ law03_FoldCourses_K5 x1362 k4 = some res) ?_ ?_
     ·skip
      refine wpIn_block ?_
      refine esr ?_
      refine rn 2 2 [(10, sv ad26 y23.1 cap27), (12, sv ad299 l301 cap300), (13, sv ad554 l556 cap555), (17, iv x1362), (151, iv (ln y6)), (152, iv x1362)] hF fun a hF => ?_
      refine wfn rfl ?_
      refine esr ?_
      replace h := bindS h
      obtain ⟨u1445, hu1445, h⟩ := h
      refine rno 4 [.run [] (Instr.indexAt 84 (sv ad299 l301 cap300) (iv x1362)) (.pointer (some (slAddr ad299 x1362 80))), .run [] (Instr.loadAt 85 (.pointer (some (slAddr ad299 x1362 80)))) (.agg (vF Value.bool u1445).toArray)] 4 [(10, sv ad26 y23.1 cap27), (12, sv ad299 l301 cap300), (13, sv ad554 l556 cap555), (17, iv x1362), (151, iv (ln y6)), (152, iv x1362), (158, .agg (vF Value.bool u1445).toArray)] hF (ocons (obIdxQ (hS.arr (i := 1) rfl) (by kernel_rfl) (fun _ => hu1445)) (ocons (obElNQ (m := 80) (i := x1362) (us := vF Value.bool u1445) 0 (vF_len Value.bool) (fun _ hd => ((hS.at_ hd).arr (i := 1) rfl)) (by kernel_rfl) (fun _ => hu1445) ⟨vF_len _ _, vF_take _ _⟩) onil)) fun a hF => ?_
      refine SK.wi (allocK (t := 85) (fun b1446 => [(10, sv ad26 y23.1 cap27), (12, sv ad299 l301 cap300), (13, sv ad554 l556 cap555), (17, iv x1362), (18, pb b1446), (151, iv (ln y6)), (152, iv x1362), (158, .agg (vF Value.bool u1445).toArray)]) (vF Value.bool (default : VecN Bool 80)).toArray hF hS (by kernel_rfl) ⟨by kernel_rfl⟩ (by kernel_rfl) (fun _ => ⟨by kernel_rfl⟩) fun b1446 w a hF hS => ?_)
      refine SK.wi (allVK (f := Value.bool) (y := u1445) (t := 85) [(10, sv ad26 y23.1 cap27), (12, sv ad299 l301 cap300), (13, sv ad554 l556 cap555), (17, iv x1362), (18, pb b1446), (151, iv (ln y6)), (152, iv x1362)] 0 (fun _ => rfl) hF hS rfl (by kernel_rfl) ⟨by kernel_rfl⟩ (by kernel_rfl) ⟨by kernel_rfl⟩ fun w a hF hS => ?_)
      refine wfn rfl ?_
      refine ecut (fun a w => ∃ (v1470 : (VecN Bool 80)), Fr 194 [] [(10, sv ad26 y23.1 cap27), (12, sv ad299 l301 cap300), (13, sv ad554 l556 cap555), (17, iv x1362), (18, pb b1446), (151, iv (ln y6)), (152, iv x1362)] a ∧ St w0 [blk b1446 85 (vF Value.bool v1470).toArray, arr 85 80 (vF Value.bool) ad554 l556.length cap555 l556, arr 85 80 (vF Value.bool) ad299 l301.length cap300 l301, arr 43 1 (fN 1) ad26 y23.1.length cap27 css28, fz w0 ν24] w ∧ law03_FoldCourses_K6 F y23 x1362 k4 v1470 = some res) ?_ ?_
      ·skip
       refine esr ?_
       refine rn 1 1 [(10, sv ad26 y23.1 cap27), (12, sv ad299 l301 cap300), (13, sv ad554 l556 cap555), (17, iv x1362), (18, pb b1446), (151, iv (ln y6)), (152, iv x1362), (159, iv 0)] hF fun a hF => ?_
       refine wfn rfl ?_
       refine wpIn_block ?_
       refine eloop (fun n_ a w => ∃ (v1515 : (VecN Bool 80)) (x1516 : Int), Fr 194 [] [(10, sv ad26 y23.1 cap27), (12, sv ad299 l301 cap300), (13, sv ad554 l556 cap555), (17, iv x1362), (18, pb b1446), (151, iv (ln y6)), (152, iv x1362), (159, iv x1516)] a ∧ St w0 [blk b1446 85 (vF Value.bool v1515).toArray, arr 85 80 (vF Value.bool) ad554 l556.length cap555 l556, arr 85 80 (vF Value.bool) ad299 l301.length cap300 l301, arr 43 1 (fN 1) ad26 y23.1.length cap27 css28, fz w0 ν24] w ∧ law03_FoldCourses_L7 F y23 l556 x1362 k4 n_ v1515 x1516 = some res) F ⟨u1445, 0, hF.sub (by kernel_rfl), St.pick [0, 1, 2, 3, 4] (by decide) hS, h⟩ ?_
       rintro nk7 a w ⟨v1515, x1516, hF, hS, h⟩
       rcases nk7 with _ | nk7
       ·cases (show (none : Option Bool) = some res from h)
       obtain ⟨k7, hk7⟩ : ∃ k, k = law03_FoldCourses_L7 F y23 l556 x1362 k4 nk7 := ⟨_, rfl⟩
       replace h : law03_FoldCourses_B7 F y23 l556 x1362 k4 k7 v1515 x1516 = some res := by rw [hk7]; exact h
       rw [law03_FoldCourses_B7] at h
       refine esr ?_
       refine rn 1 1 [(10, sv ad26 y23.1 cap27), (12, sv ad299 l301 cap300), (13, sv ad554 l556 cap555), (17, iv x1362), (18, pb b1446), (151, iv (ln y6)), (152, iv x1362), (159, iv x1516), (160, .bool (decide (x1516 < 80)))] hF fun a hF => ?_
       refine wfn rfl ?_
       refine eseq ?_
       refine econd hF rfl (fun hc => ?_) (fun hc => ?_)
       ·replace h := bif_t h hc
        refine wpIn_skip (norm_then ?_)
        refine eseq ?_
        refine wpIn_block ?_
        refine esr ?_
        refine rn 2 2 [(10, sv ad26 y23.1 cap27), (12, sv ad299 l301 cap300), (13, sv ad554 l556 cap555), (17, iv x1362), (18, pb b1446), (19, iv x1516), (151, iv (ln y6)), (152, iv x1362), (159, iv x1516)] hF fun a hF => ?_
        refine wfn rfl ?_
        refine WI.region ?_
        replace h := bindS h
        obtain ⟨u1518, hu1518, h⟩ := h
        replace h := bindS h
        obtain ⟨u1519, hu1519, h⟩ := h
        replace h := bindS h
        obtain ⟨u1520, hu1520, h⟩ := h
        replace h := bindS h
        obtain ⟨u1521, hu1521, h⟩ := h
        refine rno 13 [.run [] (Instr.indexAt 85 (pb b1446) (iv x1516)) (.pointer (some ((⟨b1446, 0, none⟩ : Addr).add x1516.toNat))), .run [] (Instr.loadAt 4 (.pointer (some ((⟨b1446, 0, none⟩ : Addr).add x1516.toNat)))) (.bool u1518), .run [⟨166, true, u1518⟩] (Instr.indexAt 84 (sv ad554 l556 cap555) (iv x1362)) (.pointer (some (slAddr ad554 x1362 80))), .run [⟨166, true, u1518⟩] (Instr.indexAt 85 (.pointer (some (slAddr ad554 x1362 80))) (iv x1516)) (.pointer (some ((slAddr ad554 x1362 80).add x1516.toNat))), .run [⟨166, true, u1518⟩] (Instr.loadAt 4 (.pointer (some ((slAddr ad554 x1362 80).add x1516.toNat)))) (.bool u1520), .run [] (Instr.indexAt 85 (pb b1446) (iv x1516)) (.pointer (some ((⟨b1446, 0, none⟩ : Addr).add x1516.toNat)))] 13 [(10, sv ad26 y23.1 cap27), (12, sv ad299 l301 cap300), (13, sv ad554 l556 cap555), (17, iv x1362), (18, pb b1446), (151, iv (ln y6)), (152, iv x1362), (159, iv x1516), (173, .bool (bif u1518 then u1520 else false)), (174, .pointer (some ((⟨b1446, 0, none⟩ : Addr).add x1516.toNat)))] hF (ocons (obIdxV (by kernel_rfl) (fun _ => hu1518)) (ocons (ob1V (f := Value.bool) (tt := 85) (by kernel_rfl) (fun _ => hu1518) (fun _ hd => ((hS.at_ hd).blk (i := 0) rfl))) (ocons (obIdxQ (hS.arr (i := 1) rfl) (by kernel_rfl) (fun hk => gd_some hu1519 hk)) (ocons (obIdxV (by kernel_rfl) (fun hk => gd_some hu1520 hk)) (ocons (obElV (f := Value.bool) (fun _ hd => ((hS.at_ hd).arr (i := 1) rfl)) (by kernel_rfl) (fun hk => gd_some hu1519 hk) (fun hk => gd_some hu1520 hk)) (ocons (obIdxV (by kernel_rfl) (fun _ => hu1521)) onil)))))) fun a hF => ?_
        replace h := bindS h
        obtain ⟨l1522, hl1522, h⟩ := h
        refine SK.wi (setVK (f := Value.bool) (u := bif u1518 then u1520 else false) (t := 4) [(10, sv ad26 y23.1 cap27), (12, sv ad299 l301 cap300), (13, sv ad554 l556 cap555), (17, iv x1362), (18, pb b1446), (151, iv (ln y6)), (152, iv x1362), (159, iv x1516)] 0 hF hS rfl (by kernel_rfl) ⟨by kernel_rfl⟩ (by kernel_rfl) rfl rfl hl1522 ⟨by kernel_rfl⟩ fun w a hF hS => ?_)
        refine WI.fin rfl (norm_block <| norm_then <| ?_)
        refine WI.region ?_
        replace h := bindS h
        obtain ⟨x1523, hx1523, h⟩ := h
        refine rno 2 [.run [] (binOp .add 3 (iv x1516) (iv 1)) (iv x1523)] 2 [(10, sv ad26 y23.1 cap27), (12, sv ad299 l301 cap300), (13, sv ad554 l556 cap555), (17, iv x1362), (18, pb b1446), (151, iv (ln y6)), (152, iv x1362), (159, iv x1523)] hF (ocons (obAddC (fun _ => hx1523)) onil) fun a hF => ?_
        refine wfn rfl ?_
        rw [hk7] at h
        exact ⟨nk7, Nat.lt_succ_self _, l1522, x1523, hF.sub (by kernel_rfl), St.pick [0, 1, 2, 3, 4] (by decide) hS, h⟩
       ·replace h := bif_f h hc
        refine wpIn_exit (exit_then <| exit_then <| exit_hit <| norm_then ?_)
        exact ⟨v1515, hF.sub (by kernel_rfl), St.pick [0, 1, 2, 3, 4] (by decide) hS, h⟩
      rintro a w ⟨v1470, hF, hS, h⟩
      rw [law03_FoldCourses_K6] at h
      refine eseq ?_
      replace h := bindS h
      obtain ⟨u1471, hu1471, h⟩ := h
      replace h := bindS h
      obtain ⟨y1478, hy1478, h⟩ := h
      rcases Bool.eq_false_or_eq_true ((!decide (y1478 = v1470))) with hg1479 | hg1479
      ·replace h := bif_t h hg1479
       obtain ⟨cs1480, hcs1481, hR1482⟩ := getI_all2 hq29 hu1471
       obtain ⟨ad1483, cap1484, rfl, hA1485⟩ := hR1482
       refine runD (obs := [.run [] (Instr.indexAt 48 (sv ad26 y23.1 cap27) (iv x1362)) (.pointer (some (slAddr ad26 x1362 1))), .run [] (Instr.loadAt 43 (.pointer (some (slAddr ad26 x1362 1)))) (sv ad1483 u1471 cap1484), .call [] 40 #[sv ad1483 u1471 cap1484] (.agg (vF Value.bool y1478).toArray), .run [] (Instr.loadAt 85 (pb b1446)) (.agg (vF Value.bool v1470).toArray), .run [] (eqS .neq 85 (vF Value.bool y1478).toArray (vF Value.bool v1470).toArray) (.bool (!decide (y1478 = v1470))), .run [⟨183, false, (!decide (y1478 = v1470))⟩] (Instr.indexAt 48 (sv ad26 y23.1 cap27) (iv x1362)) (pb 0), .run [⟨183, false, (!decide (y1478 = v1470))⟩] (Instr.loadAt 43 (pb 0)) (.slice none 0 0), .run [⟨183, false, (!decide (y1478 = v1470))⟩] (Instr.loadAt 85 (pb b1446)) (.agg (vF Value.bool (default : VecN Bool 80)).toArray), .call [⟨183, false, (!decide (y1478 = v1470))⟩] 42 #[.slice none 0 0, .agg (vF Value.bool (default : VecN Bool 80)).toArray] (.bool false)]) 16 [(10, sv ad26 y23.1 cap27), (12, sv ad299 l301 cap300), (13, sv ad554 l556 cap555), (151, iv (ln y6)), (152, iv x1362), (191, .bool (bif (!decide (y1478 = v1470)) then true else true))] (by kernel_rfl) hF (by kernel_rfl) (ocons (obIdxQ (hS.arr (i := 3) rfl) (by kernel_rfl) (fun _ => hcs1481)) (ocons (obElQ (i := x1362) 0 (fN_len 1) (fun _ hd => ((hS.later hd).arr (i := 3) rfl)) (by kernel_rfl) (fun _ => hcs1481) rfl) (ocons (show Ob.ok _ Ext _ _ from fun hk w2 hd => law03_dots_ok F u1471 _ ((fun _ => hy1478) hk) _ w2 (memOf_at w2) (hA1485.mono (FrzAt.le_mem ((hS.later hd).frz (i := 4) rfl hlow)))) (ocons (obNV (f := Value.bool) (tt := 85) (by kernel_rfl) (fun _ hd => ((hS.later hd).blk (i := 0) rfl))) (ocons (obNeV (e := 4) (by kernel_rfl) (by kernel_rfl) (by kernel_rfl) (by kernel_rfl) (by kernel_rfl)) (ocons (obNo (conds_no (i := 0) (c := ⟨183, false, (!decide (y1478 = v1470))⟩) rfl (show ((!decide (y1478 = v1470)) == false) = false by rw [hg1479]; rfl))) (ocons (obNo (conds_no (i := 0) (c := ⟨183, false, (!decide (y1478 = v1470))⟩) rfl (show ((!decide (y1478 = v1470)) == false) = false by rw [hg1479]; rfl))) (ocons (obNo (conds_no (i := 0) (c := ⟨183, false, (!decide (y1478 = v1470))⟩) rfl (show ((!decide (y1478 = v1470)) == false) = false by rw [hg1479]; rfl))) (ocons (obNoC (conds_no (i := 0) (c := ⟨183, false, (!decide (y1478 = v1470))⟩) rfl (show ((!decide (y1478 = v1470)) == false) = false by rw [hg1479]; rfl))) onil))))))))) ⟨by kernel_rfl⟩ fun a w hF hx => ?_
       replace hS := hS.later hx
       refine wfn rfl ?_
       refine econd hF rfl (fun hc => ?_) (fun hc => ?_)
       ·replace h := bif_t h hc
        refine esr ?_
        refine rn 1 1 [(6, .bool false)] hF fun a hF => ?_
        refine wfn rfl ?_
        refine wpIn_ret (ret_block <| ret_then <| ret_then <| ret_block <| ret_then <| fn_ret [.tmp 6] [.bool false] hF rfl ⟨rfl, trivial⟩ ?_)
        have hr_ := Option.some.inj h
        subst hr_
        exact ⟨rfl, hS.ext⟩
       ·replace h := bif_f h hc
        refine wpIn_skip (norm_block <| norm_then <| ?_)
        exact ⟨hF.sub (by kernel_rfl), St.pick [1, 2, 3, 4] (by decide) hS, h⟩
      ·replace h := bif_f h hg1479
       obtain ⟨cs1486, hcs1487, hR1488⟩ := getI_all2 hq29 hu1471
       obtain ⟨ad1489, cap1490, rfl, hA1491⟩ := hR1488
       replace h := bindS h
       obtain ⟨u1492, hu1492, h⟩ := h
       obtain ⟨cs1493, hcs1494, hR1495⟩ := getI_all2 hq29 hu1492
       obtain ⟨ad1496, cap1497, rfl, hA1498⟩ := hR1495
       replace h := bindS h
       obtain ⟨y1499, hy1499, h⟩ := h
       refine runD (obs := [.run [] (Instr.indexAt 48 (sv ad26 y23.1 cap27) (iv x1362)) (.pointer (some (slAddr ad26 x1362 1))), .run [] (Instr.loadAt 43 (.pointer (some (slAddr ad26 x1362 1)))) (sv ad1489 u1471 cap1490), .call [] 40 #[sv ad1489 u1471 cap1490] (.agg (vF Value.bool y1478).toArray), .run [] (Instr.loadAt 85 (pb b1446)) (.agg (vF Value.bool v1470).toArray), .run [] (eqS .neq 85 (vF Value.bool y1478).toArray (vF Value.bool v1470).toArray) (.bool (!decide (y1478 = v1470))), .run [⟨183, false, (!decide (y1478 = v1470))⟩] (Instr.indexAt 48 (sv ad26 y23.1 cap27) (iv x1362)) (.pointer (some (slAddr ad26 x1362 1))), .run [⟨183, false, (!decide (y1478 = v1470))⟩] (Instr.loadAt 43 (.pointer (some (slAddr ad26 x1362 1)))) (sv ad1496 u1492 cap1497), .run [⟨183, false, (!decide (y1478 = v1470))⟩] (Instr.loadAt 85 (pb b1446)) (.agg (vF Value.bool v1470).toArray), .call [⟨183, false, (!decide (y1478 = v1470))⟩] 42 #[sv ad1496 u1492 cap1497, .agg (vF Value.bool v1470).toArray] (.bool y1499)]) 16 [(10, sv ad26 y23.1 cap27), (12, sv ad299 l301 cap300), (13, sv ad554 l556 cap555), (151, iv (ln y6)), (152, iv x1362), (191, .bool (bif (!decide (y1478 = v1470)) then true else (!y1499)))] (by kernel_rfl) hF (by kernel_rfl) (ocons (obIdxQ (hS.arr (i := 3) rfl) (by kernel_rfl) (fun _ => hcs1487)) (ocons (obElQ (i := x1362) 0 (fN_len 1) (fun _ hd => ((hS.later hd).arr (i := 3) rfl)) (by kernel_rfl) (fun _ => hcs1487) rfl) (ocons (show Ob.ok _ Ext _ _ from fun hk w2 hd => law03_dots_ok F u1471 _ ((fun _ => hy1478) hk) _ w2 (memOf_at w2) (hA1491.mono (FrzAt.le_mem ((hS.later hd).frz (i := 4) rfl hlow)))) (ocons (obNV (f := Value.bool) (tt := 85) (by kernel_rfl) (fun _ hd => ((hS.later hd).blk (i := 0) rfl))) (ocons (obNeV (e := 4) (by kernel_rfl) (by kernel_rfl) (by kernel_rfl) (by kernel_rfl) (by kernel_rfl)) (ocons (obIdxQ (hS.arr (i := 3) rfl) (by kernel_rfl) (fun _ => hcs1494)) (ocons (obElQ (i := x1362) 0 (fN_len 1) (fun _ hd => ((hS.later hd).arr (i := 3) rfl)) (by kernel_rfl) (fun _ => hcs1494) rfl) (ocons (obNV (f := Value.bool) (tt := 85) (by kernel_rfl) (fun _ hd => ((hS.later hd).blk (i := 0) rfl))) (ocons (show Ob.ok _ Ext _ _ from fun hk w2 hd => law03_formed_ok F u1492 v1470 _ ((fun _ => hy1499) hk) _ w2 (memOf_at w2) (hA1498.mono (FrzAt.le_mem ((hS.later hd).frz (i := 4) rfl hlow)))) onil))))))))) ⟨by kernel_rfl⟩ fun a w hF hx => ?_
       replace hS := hS.later hx
       refine wfn rfl ?_
       refine econd hF rfl (fun hc => ?_) (fun hc => ?_)
       ·replace h := bif_t h hc
        refine esr ?_
        refine rn 1 1 [(6, .bool false)] hF fun a hF => ?_
        refine wfn rfl ?_
        refine wpIn_ret (ret_block <| ret_then <| ret_then <| ret_block <| ret_then <| fn_ret [.tmp 6] [.bool false] hF rfl ⟨rfl, trivial⟩ ?_)
        have hr_ := Option.some.inj h
        subst hr_
        exact ⟨rfl, hS.ext⟩
       ·replace h := bif_f h hc
        refine wpIn_skip (norm_block <| norm_then <| ?_)
        exact ⟨hF.sub (by kernel_rfl), St.pick [1, 2, 3, 4] (by decide) hS, h⟩
     rintro a w ⟨hF, hS, h⟩
     rw [law03_FoldCourses_K5] at h
     refine WI.region ?_
     replace h := bindS h
     obtain ⟨x1443, hx1443, h⟩ := h
     refine rno 2 [.run [] (binOp .add 3 (iv x1362) (iv 1)) (iv x1443)] 2 [(10, sv ad26 y23.1 cap27), (12, sv ad299 l301 cap300), (13, sv ad554 l556 cap555), (151, iv (ln y6)), (152, iv x1443)] hF (ocons (obAddC (fun _ => hx1443)) onil) fun a hF => ?_
     refine wfn rfl ?_
     rw [hk4] at h
     exact ⟨nk4, Nat.lt_succ_self _, x1443, hF.sub (by kernel_rfl), St.pick [0, 1, 2, 3] (by decide) hS, h⟩
    ·replace h := bif_f h hc
     refine wpIn_exit (exit_then <| exit_then <| exit_hit <| norm_then ?_)
     exact ⟨hF.sub (by kernel_rfl), St.pick [0, 1, 2, 3] (by decide) hS, h⟩
   rintro a w ⟨hF, hS, h⟩
   rw [law03_FoldCourses_K3] at h
   refine esr ?_
   refine rx 2 [.call [] 19 #[] (.bool law03_works)] 2 [(6, .bool law03_works)] hF (ocons (show Ob.ok _ Ext _ _ from fun hk w2 hd => law03_works_ok  _ rfl _ w2 (memOf_at w2) ) onil) fun a w hF hx => ?_
   replace hS := hS.later hx
   refine wfn rfl ?_
   refine wpIn_ret (fn_ret [.tmp 6] [.bool law03_works] hF rfl ⟨rfl, trivial⟩ ?_)
   have hr_ := Option.some.inj h
   subst hr_
   exact ⟨rfl, hS.ext⟩
end Go.Proofs.Ytbhjgebjojdohaa
