/- Walks, written by program (wip/gen/dec.py). -/
import Derived.Test.YtbhjgebjojdohaaF5XD
import Derived.Test.YtbhjgebjojdohaaProg
import Derived.Test.YtbhjgebjojdohaaF5XW0
import Derived.Test.YtbhjgebjojdohaaF5XW1
namespace Go.Proofs.Ytbhjgebjojdohaa
open Go Go.RowKit Go.Eng
set_option maxRecDepth 10000
set_option maxHeartbeats 4000000
set_option linter.unusedVariables false
set_option linter.unusedSimpArgs false
theorem fold_row_ok (F : Nat) (p0 : (List (List api_Span))) (res : ((List (List api_Span)) × Int)) (h : fold_row F p0 = some res) (μ : Frz) (w0 : World) (hm : FrzAt μ w0) {ad1 : Option Addr} {cap2 : Nat} {css3 : List (List Value)} (hA4 : ArrQ μ 1 Rp43 ad1 cap2 css3 p0) : Calls Try.prog 65 #[sv ad1 p0 cap2] w0 (fun e w => ∃ (ν_ : Frz) (zad0 : Option Addr) (zcap0 : Nat) (zcss0 : List (List Value)), μ.ext w0.heap.size ν_ ∧ e = .returned (.tuple #[sv zad0 res.1 zcap0, iv res.2]) ∧ All2 (Rp132 ν_) zcss0 res.1 ∧ St w0 [fz w0 ν_, arr 132 1 (fN 1) zad0 res.1.length zcap0 zcss0] w) := by
 obtain ⟨hlow, hS⟩ := hm.init
 have hext := Frz.ext_refl w0.heap.size μ
 rw [fold_row] at h
 refine fn_enterW Try.func65 rfl 29 [(0, sv ad1 p0 cap2)] rfl rfl (by kernel_rfl) fun a w hw hF => ?_
 replace hS : St w0 [fz w0 μ] w := by rw [hw]; exact hS
 clear hw
 refine esr ?_
 refine rn 2 2 [(0, sv ad1 p0 cap2)] hF fun a hF => ?_
 refine wfn rfl ?_
 refine eseq ?_
 refine esr ?_
 refine rn 3 3 [(0, sv ad1 p0 cap2), (10, .bool (decide ((ln p0) > 200)))] hF fun a hF => ?_
 refine wfn rfl ?_
 refine econd hF rfl (fun hc => ?_) (fun hc => ?_)
 ·replace h := bif_t h hc
  refine esr ?_
  refine rn 2 2 [(2, .slice none 0 0), (3, iv 9)] hF fun a hF => ?_
  refine wfn rfl ?_
  refine wpIn_ret (ret_then <| fn_ret [.tmp 2, .tmp 3] [.slice none 0 0, iv 9] hF rfl ⟨rfl, rfl, trivial⟩ ?_)
  have hr_ := Option.some.inj h
  subst hr_
  replace hS := hS.nilarr 132 1 (fN 1)
  exact ⟨μ, _, _, _, hext, rfl, All2.nil, St.pick [1, 0] (by decide) hS⟩
 ·replace h := bif_f h hc
  refine wpIn_skip (norm_then ?_)
  refine esr ?_
  refine rn 1 1 [(0, sv ad1 p0 cap2), (4, .slice none 0 0)] hF fun a hF => ?_
  refine wfn rfl ?_
  have hj101 := Frz.le_refl μ
  refine ecut (fun a w => ∃ (l97 : (List (List api_Span))) (ν94 : Frz) (ad95 : Option Addr) (cap96 : Nat) (css98 : List (List Value)), Fr 29 [] [(4, sv ad95 l97 cap96)] a ∧ St w0 [arr 132 1 (fN 1) ad95 l97.length cap96 css98, fz w0 ν94] w ∧ (All2 (Rp132 ν94) css98 l97) ∧ (μ.le ν94) ∧ (μ.ext w0.heap.size ν94) ∧ (FrzIn w0 ν94) ∧ fold_row_K1 l97 = some res) ?_ ?_
  ·skip
   refine esr ?_
   refine rn 3 3 [(4, .slice none 0 0), (11, sv ad1 p0 cap2), (12, iv (ln p0)), (13, iv 0)] hF fun a hF => ?_
   refine wfn rfl ?_
   refine wpIn_block ?_
   have hj166 := Frz.le_refl μ
   replace hS := hS.nilarr 132 1 (fN 1)
   refine eloop (fun n_ a w => ∃ (x159 : Int) (l162 : (List (List api_Span))) (ν158 : Frz) (ad160 : Option Addr) (cap161 : Nat) (css163 : List (List Value)), Fr 29 [] [(4, sv ad160 l162 cap161), (11, sv ad1 p0 cap2), (12, iv (ln p0)), (13, iv x159)] a ∧ St w0 [arr 132 1 (fN 1) ad160 l162.length cap161 css163, fz w0 ν158] w ∧ (All2 (Rp132 ν158) css163 l162) ∧ (μ.le ν158) ∧ (μ.ext w0.heap.size ν158) ∧ (FrzIn w0 ν158) ∧ fold_row_L2 F p0 n_ x159 l162 = some res) F ⟨0, [], μ, none, 0, [], hF.sub (by kernel_rfl), St.pick [0, 1] (by decide) hS, All2.nil, hj166, hext, hlow, h⟩ ?_
   clear hj166
   rintro nk2 a w ⟨x159, l162, ν158, ad160, cap161, css163, hF, hS, hq164, hle165, hext, hlow, h⟩
   rcases nk2 with _ | nk2
   ·cases (show (none : Option ((List (List api_Span)) × Int)) = some res from h)
   replace hA4 := hA4.mono Rp43.mono hle165
   replace hj101 := Frz.le_trans hj101 hle165
   obtain ⟨k2, hk2⟩ : ∃ k, k = fold_row_L2 F p0 nk2 := ⟨_, rfl⟩
   replace h : fold_row_B2 F p0 k2 x159 l162 = some res := by rw [hk2]; exact h
   rw [fold_row_B2] at h
   refine esr ?_
   refine rn 1 1 [(4, sv ad160 l162 cap161), (11, sv ad1 p0 cap2), (12, iv (ln p0)), (13, iv x159), (14, .bool (decide (x159 < (ln p0))))] hF fun a hF => ?_
   refine wfn rfl ?_
   refine eseq ?_
   refine econd hF rfl (fun hc => ?_) (fun hc => ?_)
   ·replace h := bif_t h hc
    refine wpIn_skip (norm_then ?_)
    refine eseq ?_
    refine wpIn_block ?_
    refine esr ?_
    replace h := bindS h
    obtain ⟨u167, hu167, h⟩ := h
    obtain ⟨cs168, hcs169, hR170⟩ := getI_all2 hA4.2 hu167
    obtain ⟨ad171, cap172, rfl, hA173⟩ := hR170
    refine rno 3 [.run [] (Instr.indexAt 48 (sv ad1 p0 cap2) (iv x159)) (.pointer (some (slAddr ad1 x159 1))), .run [] (Instr.loadAt 43 (.pointer (some (slAddr ad1 x159 1)))) (sv ad171 u167 cap172)] 3 [(4, sv ad160 l162 cap161), (6, sv ad171 u167 cap172), (11, sv ad1 p0 cap2), (12, iv (ln p0)), (13, iv x159)] hF (ocons (obIdxQ (hA4.at (hS.frz (i := 1) rfl hlow)) (by kernel_rfl) (fun _ => hcs169)) (ocons (obElQ (i := x159) 0 (fN_len 1) (fun _ hd => (hA4.at ((hS.at_ hd).frz (i := 1) rfl hlow))) (by kernel_rfl) (fun _ => hcs169) rfl) onil)) fun a hF => ?_
    refine wfn rfl ?_
    refine eseq ?_
    refine esr ?_
    replace h := bindS h
    obtain ⟨y174, hy174, h⟩ := h
    refine rx 3 [.call [] 61 #[sv ad171 u167 cap172, .bool true] (iv y174)] 3 [(4, sv ad160 l162 cap161), (6, sv ad171 u167 cap172), (7, iv y174), (11, sv ad1 p0 cap2), (12, iv (ln p0)), (13, iv x159)] hF (ocons (show Ob.ok _ Ext _ _ from fun hk w2 hd => fold_checked_ok F u167 true _ ((fun _ => hy174) hk) _ w2 (memOf_at w2) (hA173.mono (FrzAt.le_mem ((hS.later hd).frz (i := 1) rfl hlow)))) onil) fun a w hF hx => ?_
    replace hS := hS.later hx
    refine wfn rfl ?_
    refine esr ?_
    refine rn 2 2 [(4, sv ad160 l162 cap161), (6, sv ad171 u167 cap172), (7, iv y174), (11, sv ad1 p0 cap2), (12, iv (ln p0)), (13, iv x159), (20, .bool (y174 != 0))] hF fun a hF => ?_
    refine wfn rfl ?_
    refine econd hF rfl (fun hc => ?_) (fun hc => ?_)
    ·replace h := bif_t h hc
     refine esr ?_
     refine rn 3 3 [(2, .slice none 0 0), (3, iv y174)] hF fun a hF => ?_
     refine wfn rfl ?_
     refine wpIn_ret (ret_then <| ret_block <| ret_then <| ret_then <| ret_block <| ret_then <| fn_ret [.tmp 2, .tmp 3] [.slice none 0 0, iv y174] hF rfl ⟨rfl, rfl, trivial⟩ ?_)
     have hr_ := Option.some.inj h
     subst hr_
     replace hS := hS.nilarr 132 1 (fN 1)
     exact ⟨ν158, _, _, _, hext, rfl, All2.nil, St.pick [2, 0] (by decide) hS⟩
    ·replace h := bif_f h hc
     refine wpIn_skip (norm_then ?_)
     refine WI.region ?_
     refine rn 2 2 [(4, sv ad160 l162 cap161), (11, sv ad1 p0 cap2), (12, iv (ln p0)), (13, iv x159), (22, sv ad160 l162 cap161), (23, sv ad171 u167 cap172)] hF fun a hF => ?_
     replace h := bindS h
     obtain ⟨y176, hy176, h⟩ := h
     refine SK.wi (callK (f := 62) (args := #[sv ad171 u167 cap172]) (R := fun v w2 => ∃ ad177 cap178, v = sv ad177 y176 cap178 ∧ St w [arr 25 2 api_Span.cells ad177 y176.length cap178 y176] w2) (fun v175 => [(4, sv ad160 l162 cap161), (11, sv ad1 p0 cap2), (12, iv (ln p0)), (13, iv x159), (22, sv ad160 l162 cap161), (24, v175)]) hF (by kernel_rfl) ⟨by kernel_rfl⟩ (Calls.mono (fold_speeds_united_ok F u167 _ hy176 (memOf w) w (memOf_at w) (hA173.mono (FrzAt.le_mem (hS.frz (i := 1) rfl hlow)))) (by rintro e w2 ⟨ad177, cap178, rfl, h⟩; exact ⟨_, rfl, ad177, cap178, rfl, h⟩)) (fun _ => ⟨by kernel_rfl⟩) ?_)
     rintro v175 w a ⟨ad177, cap178, rfl, hQ⟩ hF
     replace hS : St w0 [arr 25 2 api_Span.cells ad177 y176.length cap178 y176, arr 132 1 (fN 1) ad160 l162.length cap161 css163, fz w0 ν158] w := hS.madeL hQ
     obtain ⟨ν180, hx181, hlow, hS, hz182⟩ := hS.freeze (i := 2) (j := 0) rfl rfl (by decide) hlow
     replace hA4 := hA4.mono Rp43.mono hx181.1
     replace hq164 := All2.mono Rp132.mono hx181.1 hq164
     replace hA173 := hA173.mono hx181.1
     replace hj101 := Frz.le_trans hj101 hx181.1
     replace hle165 := Frz.le_trans hle165 hx181.1
     replace hext := Frz.ext_trans hext hx181
     replace hS : St w0 [arr 132 1 (fN 1) ad160 l162.length cap161 css163, fz w0 ν180] w := hS
     have hA183 := ArrM.of_arr hz182
     have hq184 : All2 (Rp132 ν180) ([[sv ad177 y176 cap178]] : List (List Value)) [y176] := (All2.cons ⟨ad177, cap178, rfl, hA183⟩ All2.nil)
     refine SK.wi (litQK (e := 132) (sz := 1) (f := fN 1) (t := 135) (len := 1) (fun b179 => [(4, sv ad160 l162 cap161), (11, sv ad1 p0 cap2), (12, iv (ln p0)), (13, iv x159), (22, sv ad160 l162 cap161), (25, sb b179 1)]) #[(0, sv ad177 y176 cap178)] #[sv ad177 y176 cap178] ([[sv ad177 y176 cap178]] : List (List Value)) ([y176]) hF hS (by kernel_rfl) ⟨by kernel_rfl⟩ (by kernel_rfl) (fN_len 1) rfl rfl rfl (by kernel_rfl) (fun _ => ⟨by kernel_rfl⟩) fun b179 w a hF hS => ?_)
     replace h := bindS h
     obtain ⟨l185, hl185, h⟩ := h
     have hq189 : All2 (Rp132 ν180) (css163 ++ ([[sv ad177 y176 cap178]] : List (List Value))) l185 := by rw [(apd_some hl185).1]; exact All2.app hq164 hq184
     refine SK.wi (appQK (t := 135) (ty := 135) (bytes := 24) (c := css163) (c' := ([[sv ad177 y176 cap178]] : List (List Value))) (l := l162) (l' := ([y176])) (fun ad186 cap187 => [(4, sv ad160 l162 cap161), (11, sv ad1 p0 cap2), (12, iv (ln p0)), (13, iv x159), (26, sv ad186 l185 cap187)]) 1 hF hS rfl (by kernel_rfl) ⟨by kernel_rfl⟩ (by kernel_rfl) (hS.arr (i := 0) rfl) (ArrQ.one hq184 Rp132.one) hl185 (fun _ _ => ⟨by kernel_rfl⟩) fun ad186 cap187 w a hF hS => ?_)
     refine rn 1 6 [(4, sv ad186 l185 cap187), (11, sv ad1 p0 cap2), (12, iv (ln p0)), (13, iv x159)] hF fun a hF => ?_
     refine WI.fin rfl (norm_block <| norm_then <| ?_)
     refine WI.region ?_
     replace h := bindS h
     obtain ⟨x190, hx190, h⟩ := h
     refine rno 2 [.run [] (binOp .add 3 (iv x159) (iv 1)) (iv x190)] 2 [(4, sv ad186 l185 cap187), (11, sv ad1 p0 cap2), (12, iv (ln p0)), (13, iv x190)] hF (ocons (obAddC (fun _ => hx190)) onil) fun a hF => ?_
     refine wfn rfl ?_
     rw [hk2] at h
     exact ⟨nk2, Nat.lt_succ_self _, x190, l185, ν180, ad186, cap187, (css163 ++ ([[sv ad177 y176 cap178]] : List (List Value))), hF.sub (by kernel_rfl), St.pick [1, 2] (by decide) hS, hq189, hle165, hext, hlow, h⟩
   ·replace h := bif_f h hc
    refine wpIn_exit (exit_then <| exit_then <| exit_hit <| norm_then ?_)
    exact ⟨l162, ν158, ad160, cap161, css163, hF.sub (by kernel_rfl), St.pick [0, 1] (by decide) hS, hq164, hj101, hext, hlow, h⟩
  clear hj101
  rintro a w ⟨l97, ν94, ad95, cap96, css98, hF, hS, hq99, hle100, hext, hlow, h⟩
  replace hA4 := hA4.mono Rp43.mono hle100
  rw [fold_row_K1] at h
  refine esr ?_
  refine rn 3 3 [(2, sv ad95 l97 cap96), (3, iv 0)] hF fun a hF => ?_
  refine wfn rfl ?_
  refine wpIn_ret (fn_ret [.tmp 2, .tmp 3] [sv ad95 l97 cap96, iv 0] hF rfl ⟨rfl, rfl, trivial⟩ ?_)
  have hr_ := Option.some.inj h
  subst hr_
  exact ⟨ν94, _, _, _, hext, rfl, hq99, St.pick [1, 0] (by decide) hS⟩

theorem fold_speeds_meet_ok (F : Nat) (p0 : (List api_Span)) (p1 : (List api_Span)) (res : (List api_Span)) (h : fold_speeds_meet F p0 p1 = some res) (μ : Frz) (w0 : World) (hm : FrzAt μ w0) {ad1 : Option Addr} {cap2 : Nat} {ad4 : Option Addr} {cap5 : Nat} (hA3 : ArrM μ 2 api_Span.cells ad1 cap2 p0) (hA6 : ArrM μ 2 api_Span.cells ad4 cap5 p1) : Calls Try.prog 102 #[sv ad1 p0 cap2, sv ad4 p1 cap5] w0 (fun e w => ∃ zad0 zcap0, e = .returned (sv zad0 res zcap0) ∧ St w0 [arr 25 2 api_Span.cells zad0 res.length zcap0 res] w) := by
 obtain ⟨hlow, hS⟩ := hm.init
 have hext := Frz.ext_refl w0.heap.size μ
 rw [fold_speeds_meet] at h
 refine fn_enterW Try.func102 rfl 54 [(0, sv ad1 p0 cap2), (1, sv ad4 p1 cap5)] rfl rfl (by kernel_rfl) fun a w hw hF => ?_
 replace hS : St w0 [fz w0 μ] w := by rw [hw]; exact hS
 clear hw
 refine esr ?_
 refine rn 1 1 [(0, sv ad1 p0 cap2), (1, sv ad4 p1 cap5)] hF fun a hF => ?_
 refine wfn rfl ?_
 refine esr ?_
 refine rn 1 1 [(0, sv ad1 p0 cap2), (1, sv ad4 p1 cap5), (5, .slice none 0 0)] hF fun a hF => ?_
 refine wfn rfl ?_
 refine ecut (fun a w => ∃ (l158 : (List api_Span)) (ad156 : Option Addr) (cap157 : Nat), Fr 54 [] [(5, sv ad156 l158 cap157)] a ∧ St w0 [arr 25 2 api_Span.cells ad156 l158.length cap157 l158, fz w0 μ] w ∧ fold_speeds_meet_K1 F l158 = some res) ?_ ?_
 ·skip
  refine esr ?_
  refine rn 2 2 [(0, sv ad1 p0 cap2), (1, sv ad4 p1 cap5), (5, .slice none 0 0), (6, iv 0), (7, iv 0)] hF fun a hF => ?_
  refine wfn rfl ?_
  refine wpIn_block ?_
  replace hS := hS.nilarr 25 2 api_Span.cells
  refine eloop (fun n_ a w => ∃ (l263 : (List api_Span)) (x264 : Int) (x265 : Int) (ad261 : Option Addr) (cap262 : Nat), Fr 54 [] [(0, sv ad1 p0 cap2), (1, sv ad4 p1 cap5), (5, sv ad261 l263 cap262), (6, iv x264), (7, iv x265)] a ∧ St w0 [arr 25 2 api_Span.cells ad261 l263.length cap262 l263, fz w0 μ] w ∧ fold_speeds_meet_L2 F p0 p1 n_ l263 x264 x265 = some res) F ⟨[], 0, 0, none, 0, hF.sub (by kernel_rfl), St.pick [0, 1] (by decide) hS, h⟩ ?_
  rintro nk2 a w ⟨l263, x264, x265, ad261, cap262, hF, hS, h⟩
  rcases nk2 with _ | nk2
  ·cases (show (none : Option (List api_Span)) = some res from h)
  obtain ⟨k2, hk2⟩ : ∃ k, k = fold_speeds_meet_L2 F p0 p1 nk2 := ⟨_, rfl⟩
  replace h : fold_speeds_meet_B2 F p0 p1 k2 l263 x264 x265 = some res := by rw [hk2]; exact h
  rw [fold_speeds_meet_B2] at h
  refine eseq ?_
  refine esr ?_
  refine rn 10 10 [(0, sv ad1 p0 cap2), (1, sv ad4 p1 cap5), (5, sv ad261 l263 cap262), (6, iv x264), (7, iv x265), (19, .bool (bif (decide (x264 < (ln p0))) then (decide (x265 < (ln p1))) else false))] hF fun a hF => ?_
  refine wfn rfl ?_
  refine econd hF rfl (fun hc => ?_) (fun hc => ?_)
  ·replace h := bif_t h hc
   refine wpIn_skip (norm_then ?_)
   refine wpIn_block ?_
   refine ecut (fun a w => ∃ (l288 : (List api_Span)) (ad286 : Option Addr) (cap287 : Nat), Fr 54 [] [(0, sv ad1 p0 cap2), (1, sv ad4 p1 cap5), (5, sv ad286 l288 cap287), (6, iv x264), (7, iv x265)] a ∧ St w0 [arr 25 2 api_Span.cells ad286 l288.length cap287 l288, fz w0 μ] w ∧ fold_speeds_meet_K3 p0 p1 x264 x265 k2 l288 = some res) ?_ ?_
   ·skip
    refine eseq ?_
    replace h := bindS h
    obtain ⟨u294, hu294, h⟩ := h
    replace h := bindS h
    obtain ⟨u295, hu295, h⟩ := h
    refine region_treeW 15 [8, 12, 13] (fun a w => ∃ (b303 : Nat), Fr 54 [] [(0, sv ad1 p0 cap2), (1, sv ad4 p1 cap5), (5, sv ad261 l263 cap262), (6, iv x264), (7, iv x265), (8, pb b303), (9, .bool ((fold_common u294 u295).2))] a ∧ St w0 [blk b303 25 #[iv (((fold_common u294 u295).1).Lo), iv (((fold_common u294 u295).1).Hi)], arr 25 2 api_Span.cells ad261 l263.length cap262 l263, fz w0 μ] w) (D := fun w => St w0 [arr 25 2 api_Span.cells ad261 l263.length cap262 l263] w ∧ FrzAt μ w) (by kernel_rfl) (by kernel_rfl) hF.size (fun w hx => ?_) ?_
    ·skip
     replace hS := hS.later hx
     refine ⟨⟨St.pick [0] (by decide) hS, hS.frz (i := 1) rfl hlow⟩, ?_⟩
     have hcl304 := Frz.le_refl μ
     refine WT.s [0, 1, 2, 3, 4, 5, 6, 7] [8, 12] (by kernel_rfl) (by kernel_rfl) ?_
     refine runC (rest := []) (obs := [.run [] (Instr.indexAt 132 (sv ad1 p0 cap2) (iv x264)) (.pointer (some (slAddr ad1 x264 2))), .run [] (Instr.loadAt 25 (.pointer (some (slAddr ad1 x264 2)))) (.agg #[iv u294.Lo, iv u294.Hi]), .run [] (Instr.indexAt 132 (sv ad4 p1 cap5) (iv x265)) (.pointer (some (slAddr ad4 x265 2))), .run [] (Instr.loadAt 25 (.pointer (some (slAddr ad4 x265 2)))) (.agg #[iv u295.Lo, iv u295.Hi])]) [0, 1, 2, 3, 4, 5, 6, 7] [(0, sv ad1 p0 cap2), (1, sv ad4 p1 cap5), (5, sv ad261 l263 cap262), (6, iv x264), (7, iv x265), (24, .agg #[iv u294.Lo, iv u294.Hi]), (28, .agg #[iv u295.Lo, iv u295.Hi])] hF (by kernel_rfl) (by kernel_rfl) (ocons (obIdxQ (hA3 _ (hS.frz (i := 1) rfl hlow)) (by kernel_rfl) (fun _ => hu294)) (ocons (obElNQ (m := 2) (i := x264) (us := [iv u294.Lo, iv u294.Hi]) 0 api_Span.cells_len (fun _ hd => (hA3 _ hd.2)) (by kernel_rfl) (fun _ => hu294) ⟨rfl, rfl⟩) (ocons (obIdxQ (hA6 _ (hS.frz (i := 1) rfl hlow)) (by kernel_rfl) (fun _ => hu295)) (ocons (obElNQ (m := 2) (i := x265) (us := [iv u295.Lo, iv u295.Hi]) 0 api_Span.cells_len (fun _ hd => (hA6 _ hd.2)) (by kernel_rfl) (fun _ => hu295) ⟨rfl, rfl⟩) onil)))) ⟨by kernel_rfl⟩ fun a hF => ?_
     refine WRun.fin ?_
     refine all_cons ?_ (all_cons ?_ (all_nil))
     ·skip
      refine callK (f := 92) (args := #[.agg #[iv u294.Lo, iv u294.Hi], .agg #[iv u295.Lo, iv u295.Hi]]) (R := fun v w2 => v = .tuple #[.agg #[iv (((fold_common u294 u295).1).Lo), iv (((fold_common u294 u295).1).Hi)], .bool ((fold_common u294 u295).2)] ∧ Ext w w2) (fun v305 => [(0, sv ad1 p0 cap2), (1, sv ad4 p1 cap5), (5, sv ad261 l263 cap262), (6, iv x264), (7, iv x265), (29, v305)]) hF (by kernel_rfl) ⟨by kernel_rfl⟩ (Calls.mono (fold_common_ok u294 u295 _ rfl (memOf w) w (memOf_at w) ) (fun e w2 h => ⟨_, h.1, rfl, h.2⟩)) (fun _ => ⟨by kernel_rfl⟩) ?_
      rintro v305 w a ⟨rfl, hx⟩ hF
      replace hS := hS.later hx
      refine ⟨⟨St.pick [0] (by decide) hS, (hS.frz (i := 1) rfl hlow)⟩, ?_⟩
      refine WT.s [9, 10, 11] [12] (by kernel_rfl) (by kernel_rfl) ?_
      refine runC (rest := []) (obs := []) [9, 10, 11] [(0, sv ad1 p0 cap2), (1, sv ad4 p1 cap5), (5, sv ad261 l263 cap262), (6, iv x264), (7, iv x265), (30, .agg #[iv (((fold_common u294 u295).1).Lo), iv (((fold_common u294 u295).1).Hi)]), (31, .bool ((fold_common u294 u295).2))] hF (by kernel_rfl) (by kernel_rfl) onil ⟨by kernel_rfl⟩ fun a hF => ?_
      refine WRun.fin ?_
      refine all_cons ?_ (all_nil)
      refine allocK (t := 25) (fun b306 => [(0, sv ad1 p0 cap2), (1, sv ad4 p1 cap5), (5, sv ad261 l263 cap262), (6, iv x264), (7, iv x265), (8, pb b306), (30, .agg #[iv (((fold_common u294 u295).1).Lo), iv (((fold_common u294 u295).1).Hi)]), (31, .bool ((fold_common u294 u295).2))]) #[iv 0, iv 0] hF hS (by kernel_rfl) ⟨by kernel_rfl⟩ (by kernel_rfl) (fun _ => ⟨by kernel_rfl⟩) fun b306 w a hF hS => ⟨⟨St.pick [1] (by decide) hS, (hS.frz (i := 2) rfl hlow)⟩, ?_⟩
      refine WT.s [] [13] (by kernel_rfl) (by kernel_rfl) ?_
      refine WRun.fin ?_
      refine all_cons ?_ (all_nil)
      refine storeK (t := 25) [(0, sv ad1 p0 cap2), (1, sv ad4 p1 cap5), (5, sv ad261 l263 cap262), (6, iv x264), (7, iv x265), (8, pb b306), (31, .bool ((fold_common u294 u295).2))] 0 0 (.agg #[iv (((fold_common u294 u295).1).Lo), iv (((fold_common u294 u295).1).Hi)]) #[iv (((fold_common u294 u295).1).Lo), iv (((fold_common u294 u295).1).Hi)] hF hS rfl (by kernel_rfl) ⟨by kernel_rfl⟩ (by kernel_rfl) (by kernel_rfl) (by kernel_rfl) (by kernel_rfl) ⟨by kernel_rfl⟩ fun w a hF hS => ⟨⟨St.pick [1] (by decide) hS, (hS.frz (i := 2) rfl hlow)⟩, ?_⟩
      refine WT.z [14] (by kernel_rfl) ?_
      refine runC (rest := []) (obs := []) [14] [(0, sv ad1 p0 cap2), (1, sv ad4 p1 cap5), (5, sv ad261 l263 cap262), (6, iv x264), (7, iv x265), (8, pb b306), (9, .bool ((fold_common u294 u295).2))] hF (by kernel_rfl) (by kernel_rfl) onil ⟨by kernel_rfl⟩ fun a hF => ?_
      refine WRun.fin ?_
      exact ⟨b306, hF.sub (by kernel_rfl), St.pick [0, 1, 2] (by decide) hS⟩
     ·skip
      refine allocK (t := 25) (fun b307 => [(0, sv ad1 p0 cap2), (1, sv ad4 p1 cap5), (5, sv ad261 l263 cap262), (6, iv x264), (7, iv x265), (8, pb b307), (24, .agg #[iv u294.Lo, iv u294.Hi]), (28, .agg #[iv u295.Lo, iv u295.Hi])]) #[iv 0, iv 0] hF hS (by kernel_rfl) ⟨by kernel_rfl⟩ (by kernel_rfl) (fun _ => ⟨by kernel_rfl⟩) fun b307 w a hF hS => ⟨⟨St.pick [1] (by decide) hS, (hS.frz (i := 2) rfl hlow)⟩, ?_⟩
      refine WT.s [] [8] (by kernel_rfl) (by kernel_rfl) ?_
      refine WRun.fin ?_
      refine all_cons ?_ (all_nil)
      refine callK (f := 92) (args := #[.agg #[iv u294.Lo, iv u294.Hi], .agg #[iv u295.Lo, iv u295.Hi]]) (R := fun v w2 => v = .tuple #[.agg #[iv (((fold_common u294 u295).1).Lo), iv (((fold_common u294 u295).1).Hi)], .bool ((fold_common u294 u295).2)] ∧ Ext w w2) (fun v308 => [(0, sv ad1 p0 cap2), (1, sv ad4 p1 cap5), (5, sv ad261 l263 cap262), (6, iv x264), (7, iv x265), (8, pb b307), (29, v308)]) hF (by kernel_rfl) ⟨by kernel_rfl⟩ (Calls.mono (fold_common_ok u294 u295 _ rfl (memOf w) w (memOf_at w) ) (fun e w2 h => ⟨_, h.1, rfl, h.2⟩)) (fun _ => ⟨by kernel_rfl⟩) ?_
      rintro v308 w a ⟨rfl, hx⟩ hF
      replace hS := hS.later hx
      refine ⟨⟨St.pick [1] (by decide) hS, (hS.frz (i := 2) rfl hlow)⟩, ?_⟩
      refine WT.s [9, 10, 11] [13] (by kernel_rfl) (by kernel_rfl) ?_
      refine runC (rest := []) (obs := []) [9, 10, 11] [(0, sv ad1 p0 cap2), (1, sv ad4 p1 cap5), (5, sv ad261 l263 cap262), (6, iv x264), (7, iv x265), (8, pb b307), (30, .agg #[iv (((fold_common u294 u295).1).Lo), iv (((fold_common u294 u295).1).Hi)]), (31, .bool ((fold_common u294 u295).2))] hF (by kernel_rfl) (by kernel_rfl) onil ⟨by kernel_rfl⟩ fun a hF => ?_
      refine WRun.fin ?_
      refine all_cons ?_ (all_nil)
      refine storeK (t := 25) [(0, sv ad1 p0 cap2), (1, sv ad4 p1 cap5), (5, sv ad261 l263 cap262), (6, iv x264), (7, iv x265), (8, pb b307), (31, .bool ((fold_common u294 u295).2))] 0 0 (.agg #[iv (((fold_common u294 u295).1).Lo), iv (((fold_common u294 u295).1).Hi)]) #[iv (((fold_common u294 u295).1).Lo), iv (((fold_common u294 u295).1).Hi)] hF hS rfl (by kernel_rfl) ⟨by kernel_rfl⟩ (by kernel_rfl) (by kernel_rfl) (by kernel_rfl) (by kernel_rfl) ⟨by kernel_rfl⟩ fun w a hF hS => ⟨⟨St.pick [1] (by decide) hS, (hS.frz (i := 2) rfl hlow)⟩, ?_⟩
      refine WT.z [14] (by kernel_rfl) ?_
      refine runC (rest := []) (obs := []) [14] [(0, sv ad1 p0 cap2), (1, sv ad4 p1 cap5), (5, sv ad261 l263 cap262), (6, iv x264), (7, iv x265), (8, pb b307), (9, .bool ((fold_common u294 u295).2))] hF (by kernel_rfl) (by kernel_rfl) onil ⟨by kernel_rfl⟩ fun a hF => ?_
      refine WRun.fin ?_
      exact ⟨b307, hF.sub (by kernel_rfl), St.pick [0, 1, 2] (by decide) hS⟩
    rintro a w ⟨b303, hF, hS⟩
    refine wfn rfl ?_
    refine esr ?_
    refine rn 1 1 [(0, sv ad1 p0 cap2), (1, sv ad4 p1 cap5), (5, sv ad261 l263 cap262), (6, iv x264), (7, iv x265), (8, pb b303), (32, .bool ((fold_common u294 u295).2))] hF fun a hF => ?_
    refine wfn rfl ?_
    refine econd hF rfl (fun hc => ?_) (fun hc => ?_)
    ·replace h := bif_t h hc
     refine WI.region ?_
     refine rno 2 [.run [] (Instr.loadAt 25 (pb b303)) (.agg #[iv (((fold_common u294 u295).1).Lo), iv (((fold_common u294 u295).1).Hi)])] 2 [(0, sv ad1 p0 cap2), (1, sv ad4 p1 cap5), (5, sv ad261 l263 cap262), (6, iv x264), (7, iv x265), (33, sv ad261 l263 cap262), (34, .agg #[iv (((fold_common u294 u295).1).Lo), iv (((fold_common u294 u295).1).Hi)])] hF (ocons (obN (us := [iv (((fold_common u294 u295).1).Lo), iv (((fold_common u294 u295).1).Hi)]) (by kernel_rfl) (fun _ hd => ((hS.at_ hd).blk (i := 0) rfl).cells rfl)) onil) fun a hF => ?_
     refine SK.wi (litK (e := 25) (sz := 2) (f := api_Span.cells) (t := 132) (len := 1) (fun b309 => [(0, sv ad1 p0 cap2), (1, sv ad4 p1 cap5), (5, sv ad261 l263 cap262), (6, iv x264), (7, iv x265), (33, sv ad261 l263 cap262), (35, sb b309 1)]) #[(0, .agg #[iv (((fold_common u294 u295).1).Lo), iv (((fold_common u294 u295).1).Hi)])] #[iv (((fold_common u294 u295).1).Lo), iv (((fold_common u294 u295).1).Hi)] ([(api_Span.mk (((fold_common u294 u295).1).Lo) (((fold_common u294 u295).1).Hi))]) hF hS (by kernel_rfl) ⟨by kernel_rfl⟩ (by kernel_rfl) api_Span.cells_len rfl rfl (by kernel_rfl) (fun _ => ⟨by kernel_rfl⟩) fun b309 w a hF hS => ?_)
     replace h := bindS h
     obtain ⟨l310, hl310, h⟩ := h
     refine SK.wi (appK (t := 132) (ty := 132) (bytes := 16) (l := l263) (l' := ([(api_Span.mk (((fold_common u294 u295).1).Lo) (((fold_common u294 u295).1).Hi))])) (fun ad311 cap312 => [(0, sv ad1 p0 cap2), (1, sv ad4 p1 cap5), (5, sv ad261 l263 cap262), (6, iv x264), (7, iv x265), (36, sv ad311 l310 cap312)]) 2 hF hS rfl (by kernel_rfl) ⟨by kernel_rfl⟩ (by kernel_rfl) (hS.arr (i := 0) rfl) (fun _ _ => rfl) hl310 (fun _ _ => ⟨by kernel_rfl⟩) fun ad311 cap312 w a hF hS => ?_)
     refine rn 1 5 [(0, sv ad1 p0 cap2), (1, sv ad4 p1 cap5), (5, sv ad311 l310 cap312), (6, iv x264), (7, iv x265)] hF fun a hF => ?_
     refine wfn rfl ?_
     exact ⟨l310, ad311, cap312, hF.sub (by kernel_rfl), St.pick [2, 3] (by decide) hS, h⟩
    ·replace h := bif_f h hc
     refine wpIn_skip (norm_then ?_)
     exact ⟨l263, ad261, cap262, hF.sub (by kernel_rfl), St.pick [1, 2] (by decide) hS, h⟩
   rintro a w ⟨l288, ad286, cap287, hF, hS, h⟩
   rw [fold_speeds_meet_K3] at h
   refine eseq ?_
   replace h := bindS h
   obtain ⟨u289, hu289, h⟩ := h
   replace h := bindS h
   obtain ⟨u290, hu290, h⟩ := h
   refine runD (obs := [.run [] (Instr.indexAt 132 (sv ad1 p0 cap2) (iv x264)) (.pointer (some (slAddr ad1 x264 2))), .run [] (Instr.loadAt 3 (.pointer (some ((slAddr ad1 x264 2).add 1)))) (iv u289.Hi), .run [] (Instr.indexAt 132 (sv ad4 p1 cap5) (iv x265)) (.pointer (some (slAddr ad4 x265 2))), .run [] (Instr.loadAt 3 (.pointer (some ((slAddr ad4 x265 2).add 1)))) (iv u290.Hi)]) 11 [(0, sv ad1 p0 cap2), (1, sv ad4 p1 cap5), (5, sv ad286 l288 cap287), (6, iv x264), (7, iv x265), (47, .bool (decide (u289.Hi < u290.Hi)))] (by kernel_rfl) hF (by kernel_rfl) (ocons (obIdxQ (hA3 _ (hS.frz (i := 1) rfl hlow)) (by kernel_rfl) (fun _ => hu289)) (ocons (obElQ (i := x264) 1 api_Span.cells_len (fun _ hd => (hA3 _ ((hS.later hd).frz (i := 1) rfl hlow))) (by kernel_rfl) (fun _ => hu289) rfl) (ocons (obIdxQ (hA6 _ (hS.frz (i := 1) rfl hlow)) (by kernel_rfl) (fun _ => hu290)) (ocons (obElQ (i := x265) 1 api_Span.cells_len (fun _ hd => (hA6 _ ((hS.later hd).frz (i := 1) rfl hlow))) (by kernel_rfl) (fun _ => hu290) rfl) onil)))) ⟨by kernel_rfl⟩ fun a w hF hx => ?_
   replace hS := hS.later hx
   refine wfn rfl ?_
   refine econd hF rfl (fun hc => ?_) (fun hc => ?_)
   ·replace h := bif_t h hc
    refine WI.region ?_
    replace h := bindS h
    obtain ⟨x291, hx291, h⟩ := h
    refine rno 3 [.run [] (binOp .add 3 (iv x264) (iv 1)) (iv x291)] 3 [(0, sv ad1 p0 cap2), (1, sv ad4 p1 cap5), (5, sv ad286 l288 cap287), (6, iv x291), (7, iv x265)] hF (ocons (obAddC (fun _ => hx291)) onil) fun a hF => ?_
    refine WI.fin rfl (norm_block <| norm_then <| ?_)
    rw [hk2] at h
    exact ⟨nk2, Nat.lt_succ_self _, l288, x291, x265, ad286, cap287, hF.sub (by kernel_rfl), St.pick [0, 1] (by decide) hS, h⟩
   ·replace h := bif_f h hc
    refine WI.region ?_
    replace h := bindS h
    obtain ⟨x292, hx292, h⟩ := h
    refine rno 3 [.run [] (binOp .add 3 (iv x265) (iv 1)) (iv x292)] 3 [(0, sv ad1 p0 cap2), (1, sv ad4 p1 cap5), (5, sv ad286 l288 cap287), (6, iv x264), (7, iv x292)] hF (ocons (obAddC (fun _ => hx292)) onil) fun a hF => ?_
    refine WI.fin rfl (norm_block <| norm_then <| ?_)
    rw [hk2] at h
    exact ⟨nk2, Nat.lt_succ_self _, l288, x264, x292, ad286, cap287, hF.sub (by kernel_rfl), St.pick [0, 1] (by decide) hS, h⟩
  ·replace h := bif_f h hc
   refine wpIn_exit (exit_then <| exit_then <| exit_hit <| norm_then ?_)
   exact ⟨l263, ad261, cap262, hF.sub (by kernel_rfl), St.pick [0, 1] (by decide) hS, h⟩
 rintro a w ⟨l158, ad156, cap157, hF, hS, h⟩
 rw [fold_speeds_meet_K1] at h
 refine esr ?_
 refine rn 1 1 [(52, sv ad156 l158 cap157)] hF fun a hF => ?_
 replace h := bindS h
 obtain ⟨y160, hy160, h⟩ := h
 refine SK.wi (callK (f := 62) (args := #[sv ad156 l158 cap157]) (R := fun v w2 => ∃ ad161 cap162, v = sv ad161 y160 cap162 ∧ St w [arr 25 2 api_Span.cells ad161 y160.length cap162 y160] w2) (fun v159 => [(53, v159)]) hF (by kernel_rfl) ⟨by kernel_rfl⟩ (Calls.mono (fold_speeds_united_ok F l158 _ hy160 (memOf w) w (memOf_at w) (Arr.toM (hS.arr (i := 0) rfl))) (by rintro e w2 ⟨ad161, cap162, rfl, h⟩; exact ⟨_, rfl, ad161, cap162, rfl, h⟩)) (fun _ => ⟨by kernel_rfl⟩) ?_)
 rintro v159 w a ⟨ad161, cap162, rfl, hQ⟩ hF
 replace hS : St w0 [arr 25 2 api_Span.cells ad161 y160.length cap162 y160, arr 25 2 api_Span.cells ad156 l158.length cap157 l158, fz w0 μ] w := hS.madeL hQ
 refine rn 1 3 [(4, sv ad161 y160 cap162)] hF fun a hF => ?_
 refine wfn rfl ?_
 refine wpIn_ret (fn_ret [.tmp 4] [sv ad161 y160 cap162] hF rfl ⟨rfl, trivial⟩ ?_)
 have hr_ := Option.some.inj h
 subst hr_
 exact ⟨_, _, rfl, St.pick [0] (by decide) hS⟩

theorem fold_speeds_wide_ok (F : Nat) (p0 : (List api_Span)) (p1 : Int) (res : (List api_Span)) (h : fold_speeds_wide F p0 p1 = some res) (μ : Frz) (w0 : World) (hm : FrzAt μ w0) {ad1 : Option Addr} {cap2 : Nat} (hA3 : ArrM μ 2 api_Span.cells ad1 cap2 p0) : Calls Try.prog 103 #[sv ad1 p0 cap2, iv p1] w0 (fun e w => ∃ zad0 zcap0, e = .returned (sv zad0 res zcap0) ∧ St w0 [arr 25 2 api_Span.cells zad0 res.length zcap0 res] w) := by
 obtain ⟨hlow, hS⟩ := hm.init
 have hext := Frz.ext_refl w0.heap.size μ
 rw [fold_speeds_wide] at h
 refine fn_enterW Try.func103 rfl 29 [(0, sv ad1 p0 cap2), (1, iv p1)] rfl rfl (by kernel_rfl) fun a w hw hF => ?_
 replace hS : St w0 [fz w0 μ] w := by rw [hw]; exact hS
 clear hw
 refine esr ?_
 refine rn 1 1 [(0, sv ad1 p0 cap2), (1, iv p1)] hF fun a hF => ?_
 refine wfn rfl ?_
 refine esr ?_
 refine rn 1 1 [(0, sv ad1 p0 cap2), (1, iv p1), (5, .slice none 0 0)] hF fun a hF => ?_
 refine wfn rfl ?_
 refine ecut (fun a w => ∃ (l42 : (List api_Span)) (ad40 : Option Addr) (cap41 : Nat), Fr 29 [] [(5, sv ad40 l42 cap41)] a ∧ St w0 [arr 25 2 api_Span.cells ad40 l42.length cap41 l42, fz w0 μ] w ∧ fold_speeds_wide_K1 F l42 = some res) ?_ ?_
 ·skip
  refine esr ?_
  refine rn 3 3 [(1, iv p1), (5, .slice none 0 0), (8, sv ad1 p0 cap2), (9, iv (ln p0)), (10, iv 0)] hF fun a hF => ?_
  refine wfn rfl ?_
  refine wpIn_block ?_
  replace hS := hS.nilarr 25 2 api_Span.cells
  refine eloop (fun n_ a w => ∃ (x70 : Int) (l73 : (List api_Span)) (ad71 : Option Addr) (cap72 : Nat), Fr 29 [] [(1, iv p1), (5, sv ad71 l73 cap72), (8, sv ad1 p0 cap2), (9, iv (ln p0)), (10, iv x70)] a ∧ St w0 [arr 25 2 api_Span.cells ad71 l73.length cap72 l73, fz w0 μ] w ∧ fold_speeds_wide_L2 F p0 p1 n_ x70 l73 = some res) F ⟨0, [], none, 0, hF.sub (by kernel_rfl), St.pick [0, 1] (by decide) hS, h⟩ ?_
  rintro nk2 a w ⟨x70, l73, ad71, cap72, hF, hS, h⟩
  rcases nk2 with _ | nk2
  ·cases (show (none : Option (List api_Span)) = some res from h)
  obtain ⟨k2, hk2⟩ : ∃ k, k = fold_speeds_wide_L2 F p0 p1 nk2 := ⟨_, rfl⟩
  replace h : fold_speeds_wide_B2 F p0 p1 k2 x70 l73 = some res := by rw [hk2]; exact h
  rw [fold_speeds_wide_B2] at h
  refine esr ?_
  refine rn 1 1 [(1, iv p1), (5, sv ad71 l73 cap72), (8, sv ad1 p0 cap2), (9, iv (ln p0)), (10, iv x70), (11, .bool (decide (x70 < (ln p0))))] hF fun a hF => ?_
  refine wfn rfl ?_
  refine eseq ?_
  refine econd hF rfl (fun hc => ?_) (fun hc => ?_)
  ·replace h := bif_t h hc
   refine wpIn_skip (norm_then ?_)
   refine eseq ?_
   refine wpIn_block ?_
   refine esr ?_
   replace h := bindS h
   obtain ⟨u75, hu75, h⟩ := h
   refine rno 2 [.run [] (Instr.indexAt 132 (sv ad1 p0 cap2) (iv x70)) (.pointer (some (slAddr ad1 x70 2))), .run [] (Instr.loadAt 25 (.pointer (some (slAddr ad1 x70 2)))) (.agg #[iv u75.Lo, iv u75.Hi])] 2 [(1, iv p1), (5, sv ad71 l73 cap72), (8, sv ad1 p0 cap2), (9, iv (ln p0)), (10, iv x70), (13, .agg #[iv u75.Lo, iv u75.Hi])] hF (ocons (obIdxQ (hA3 _ (hS.frz (i := 1) rfl hlow)) (by kernel_rfl) (fun _ => hu75)) (ocons (obElNQ (m := 2) (i := x70) (us := [iv u75.Lo, iv u75.Hi]) 0 api_Span.cells_len (fun _ hd => (hA3 _ ((hS.at_ hd).frz (i := 1) rfl hlow))) (by kernel_rfl) (fun _ => hu75) ⟨rfl, rfl⟩) onil)) fun a hF => ?_
   refine SK.wi (allocK (t := 25) (fun b76 => [(1, iv p1), (5, sv ad71 l73 cap72), (7, pb b76), (8, sv ad1 p0 cap2), (9, iv (ln p0)), (10, iv x70), (13, .agg #[iv u75.Lo, iv u75.Hi])]) #[iv 0, iv 0] hF hS (by kernel_rfl) ⟨by kernel_rfl⟩ (by kernel_rfl) (fun _ => ⟨by kernel_rfl⟩) fun b76 w a hF hS => ?_)
   refine SK.wi (storeK (t := 25) [(1, iv p1), (5, sv ad71 l73 cap72), (7, pb b76), (8, sv ad1 p0 cap2), (9, iv (ln p0)), (10, iv x70)] 0 0 (.agg #[iv u75.Lo, iv u75.Hi]) #[iv u75.Lo, iv u75.Hi] hF hS rfl (by kernel_rfl) ⟨by kernel_rfl⟩ (by kernel_rfl) (by kernel_rfl) (by kernel_rfl) (by kernel_rfl) ⟨by kernel_rfl⟩ fun w a hF hS => ?_)
   refine wfn rfl ?_
   refine WI.region ?_
   replace h := bindS h
   obtain ⟨x77, hx77, h⟩ := h
   replace h := bindS h
   obtain ⟨x78, hx78, h⟩ := h
   refine rno 10 [.run [] (Instr.loadAt 3 (pb b76)) (iv u75.Lo), .run [] (binOp .sub 3 (iv u75.Lo) (iv p1)) (iv x77), .run [] (Instr.loadAt 3 (.pointer (some ⟨b76, 1, none⟩))) (iv u75.Hi), .run [] (binOp .add 3 (iv u75.Hi) (iv p1)) (iv x78)] 10 [(1, iv p1), (5, sv ad71 l73 cap72), (8, sv ad1 p0 cap2), (9, iv (ln p0)), (10, iv x70), (14, sv ad71 l73 cap72), (23, .agg #[iv x77, iv x78])] hF (ocons (ob1 (by kernel_rfl) (fun _ hd => (hS.at_ hd).cell (i := 0) (j := 0) rfl rfl)) (ocons (obSubC (fun _ => hx77)) (ocons (ob1 (by kernel_rfl) (fun _ hd => (hS.at_ hd).cell (i := 0) (j := 1) rfl rfl)) (ocons (obAddC (fun _ => hx78)) onil)))) fun a hF => ?_
   refine SK.wi (litK (e := 25) (sz := 2) (f := api_Span.cells) (t := 132) (len := 1) (fun b79 => [(1, iv p1), (5, sv ad71 l73 cap72), (8, sv ad1 p0 cap2), (9, iv (ln p0)), (10, iv x70), (14, sv ad71 l73 cap72), (24, sb b79 1)]) #[(0, .agg #[iv x77, iv x78])] #[iv x77, iv x78] ([(api_Span.mk x77 x78)]) hF hS (by kernel_rfl) ⟨by kernel_rfl⟩ (by kernel_rfl) api_Span.cells_len rfl rfl (by kernel_rfl) (fun _ => ⟨by kernel_rfl⟩) fun b79 w a hF hS => ?_)
   replace h := bindS h
   obtain ⟨l80, hl80, h⟩ := h
   refine SK.wi (appK (t := 132) (ty := 132) (bytes := 16) (l := l73) (l' := ([(api_Span.mk x77 x78)])) (fun ad81 cap82 => [(1, iv p1), (5, sv ad71 l73 cap72), (8, sv ad1 p0 cap2), (9, iv (ln p0)), (10, iv x70), (25, sv ad81 l80 cap82)]) 2 hF hS rfl (by kernel_rfl) ⟨by kernel_rfl⟩ (by kernel_rfl) (hS.arr (i := 0) rfl) (fun _ _ => rfl) hl80 (fun _ _ => ⟨by kernel_rfl⟩) fun ad81 cap82 w a hF hS => ?_)
   refine rn 1 13 [(1, iv p1), (5, sv ad81 l80 cap82), (8, sv ad1 p0 cap2), (9, iv (ln p0)), (10, iv x70)] hF fun a hF => ?_
   refine WI.fin rfl (norm_block <| norm_then <| ?_)
   refine WI.region ?_
   replace h := bindS h
   obtain ⟨x83, hx83, h⟩ := h
   refine rno 2 [.run [] (binOp .add 3 (iv x70) (iv 1)) (iv x83)] 2 [(1, iv p1), (5, sv ad81 l80 cap82), (8, sv ad1 p0 cap2), (9, iv (ln p0)), (10, iv x83)] hF (ocons (obAddC (fun _ => hx83)) onil) fun a hF => ?_
   refine wfn rfl ?_
   rw [hk2] at h
   exact ⟨nk2, Nat.lt_succ_self _, x83, l80, ad81, cap82, hF.sub (by kernel_rfl), St.pick [2, 3] (by decide) hS, h⟩
  ·replace h := bif_f h hc
   refine wpIn_exit (exit_then <| exit_then <| exit_hit <| norm_then ?_)
   exact ⟨l73, ad71, cap72, hF.sub (by kernel_rfl), St.pick [0, 1] (by decide) hS, h⟩
 rintro a w ⟨l42, ad40, cap41, hF, hS, h⟩
 rw [fold_speeds_wide_K1] at h
 refine esr ?_
 refine rn 1 1 [(27, sv ad40 l42 cap41)] hF fun a hF => ?_
 replace h := bindS h
 obtain ⟨y44, hy44, h⟩ := h
 refine SK.wi (callK (f := 62) (args := #[sv ad40 l42 cap41]) (R := fun v w2 => ∃ ad45 cap46, v = sv ad45 y44 cap46 ∧ St w [arr 25 2 api_Span.cells ad45 y44.length cap46 y44] w2) (fun v43 => [(28, v43)]) hF (by kernel_rfl) ⟨by kernel_rfl⟩ (Calls.mono (fold_speeds_united_ok F l42 _ hy44 (memOf w) w (memOf_at w) (Arr.toM (hS.arr (i := 0) rfl))) (by rintro e w2 ⟨ad45, cap46, rfl, h⟩; exact ⟨_, rfl, ad45, cap46, rfl, h⟩)) (fun _ => ⟨by kernel_rfl⟩) ?_)
 rintro v43 w a ⟨ad45, cap46, rfl, hQ⟩ hF
 replace hS : St w0 [arr 25 2 api_Span.cells ad45 y44.length cap46 y44, arr 25 2 api_Span.cells ad40 l42.length cap41 l42, fz w0 μ] w := hS.madeL hQ
 refine rn 1 3 [(4, sv ad45 y44 cap46)] hF fun a hF => ?_
 refine wfn rfl ?_
 refine wpIn_ret (fn_ret [.tmp 4] [sv ad45 y44 cap46] hF rfl ⟨rfl, trivial⟩ ?_)
 have hr_ := Option.some.inj h
 subst hr_
 exact ⟨_, _, rfl, St.pick [0] (by decide) hS⟩

theorem ref03_ray_ok (F : Nat) (p0 : (List (List api_Span))) (res : Int) (h : ref03_ray F p0 = some res) (μ : Frz) (w0 : World) (hm : FrzAt μ w0) {ad1 : Option Addr} {cap2 : Nat} {css3 : List (List Value)} (hA4 : ArrQ μ 1 Rp43 ad1 cap2 css3 p0) : Calls Try.prog 71 #[sv ad1 p0 cap2] w0 (fun e w => e = .returned (iv res) ∧ Ext w0 w) := by
 obtain ⟨hlow, hS⟩ := hm.init
 have hext := Frz.ext_refl w0.heap.size μ
 rw [ref03_ray] at h
 refine fn_enterW Try.func71 rfl 22 [(0, sv ad1 p0 cap2)] rfl rfl (by kernel_rfl) fun a w hw hF => ?_
 replace hS : St w0 [fz w0 μ] w := by rw [hw]; exact hS
 clear hw
 refine esr ?_
 refine rn 1 1 [(0, sv ad1 p0 cap2)] hF fun a hF => ?_
 refine wfn rfl ?_
 refine eseq ?_
 refine esr ?_
 refine rn 3 3 [(0, sv ad1 p0 cap2), (7, .bool (decide ((ln p0) > 200)))] hF fun a hF => ?_
 refine wfn rfl ?_
 refine econd hF rfl (fun hc => ?_) (fun hc => ?_)
 ·replace h := bif_t h hc
  refine esr ?_
  refine rn 1 1 [(2, iv 9)] hF fun a hF => ?_
  refine wfn rfl ?_
  refine wpIn_ret (ret_then <| fn_ret [.tmp 2] [iv 9] hF rfl ⟨rfl, trivial⟩ ?_)
  have hr_ := Option.some.inj h
  subst hr_
  exact ⟨rfl, hS.ext⟩
 ·replace h := bif_f h hc
  refine wpIn_skip (norm_then ?_)
  refine ecut (fun a w => Fr 22 [] [] a ∧ St w0 [fz w0 μ] w ∧ ref03_ray_K1 = some res) ?_ ?_
  ·skip
   refine esr ?_
   refine rn 1 1 [(0, sv ad1 p0 cap2), (3, iv 0)] hF fun a hF => ?_
   refine wfn rfl ?_
   refine wpIn_block ?_
   refine eloop (fun n_ a w => ∃ (x55 : Int), Fr 22 [] [(0, sv ad1 p0 cap2), (3, iv x55)] a ∧ St w0 [fz w0 μ] w ∧ ref03_ray_L2 F p0 n_ x55 = some res) F ⟨0, hF.sub (by kernel_rfl), St.pick [0] (by decide) hS, h⟩ ?_
   rintro nk2 a w ⟨x55, hF, hS, h⟩
   rcases nk2 with _ | nk2
   ·cases (show (none : Option Int) = some res from h)
   obtain ⟨k2, hk2⟩ : ∃ k, k = ref03_ray_L2 F p0 nk2 := ⟨_, rfl⟩
   replace h : ref03_ray_B2 F p0 k2 x55 = some res := by rw [hk2]; exact h
   rw [ref03_ray_B2] at h
   refine eseq ?_
   refine esr ?_
   refine rn 4 4 [(0, sv ad1 p0 cap2), (3, iv x55), (11, .bool (decide (x55 < (ln p0))))] hF fun a hF => ?_
   refine wfn rfl ?_
   refine econd hF rfl (fun hc => ?_) (fun hc => ?_)
   ·replace h := bif_t h hc
    refine wpIn_skip (norm_then ?_)
    refine eseq ?_
    refine wpIn_block ?_
    refine esr ?_
    replace h := bindS h
    obtain ⟨u57, hu57, h⟩ := h
    obtain ⟨cs58, hcs59, hR60⟩ := getI_all2 hA4.2 hu57
    obtain ⟨ad61, cap62, rfl, hA63⟩ := hR60
    replace h := bindS h
    obtain ⟨y64, hy64, h⟩ := h
    refine rx 6 [.run [] (Instr.indexAt 48 (sv ad1 p0 cap2) (iv x55)) (.pointer (some (slAddr ad1 x55 1))), .run [] (Instr.loadAt 43 (.pointer (some (slAddr ad1 x55 1)))) (sv ad61 u57 cap62), .call [] 63 #[sv ad61 u57 cap62, .bool true] (iv y64)] 6 [(0, sv ad1 p0 cap2), (3, iv x55), (4, iv y64)] hF (ocons (obIdxQ (hA4.at (hS.frz (i := 0) rfl hlow)) (by kernel_rfl) (fun _ => hcs59)) (ocons (obElQ (i := x55) 0 (fN_len 1) (fun _ hd => (hA4.at ((hS.later hd).frz (i := 0) rfl hlow))) (by kernel_rfl) (fun _ => hcs59) rfl) (ocons (show Ob.ok _ Ext _ _ from fun hk w2 hd => ref03_spans_ok F u57 true _ ((fun _ => hy64) hk) _ w2 (memOf_at w2) (hA63.mono (FrzAt.le_mem ((hS.later hd).frz (i := 0) rfl hlow)))) onil))) fun a w hF hx => ?_
    replace hS := hS.later hx
    refine wfn rfl ?_
    refine esr ?_
    refine rn 2 2 [(0, sv ad1 p0 cap2), (3, iv x55), (4, iv y64), (20, .bool (y64 != 0))] hF fun a hF => ?_
    refine wfn rfl ?_
    refine econd hF rfl (fun hc => ?_) (fun hc => ?_)
    ·replace h := bif_t h hc
     refine esr ?_
     refine rn 2 2 [(2, iv y64)] hF fun a hF => ?_
     refine wfn rfl ?_
     refine wpIn_ret (ret_block <| ret_then <| ret_then <| ret_block <| ret_then <| fn_ret [.tmp 2] [iv y64] hF rfl ⟨rfl, trivial⟩ ?_)
     have hr_ := Option.some.inj h
     subst hr_
     exact ⟨rfl, hS.ext⟩
    ·replace h := bif_f h hc
     refine wpIn_skip (norm_block <| norm_then <| ?_)
     refine WI.region ?_
     replace h := bindS h
     obtain ⟨x65, hx65, h⟩ := h
     refine rno 3 [.run [] (binOp .add 3 (iv x55) (iv 1)) (iv x65)] 3 [(0, sv ad1 p0 cap2), (3, iv x65)] hF (ocons (obAddC (fun _ => hx65)) onil) fun a hF => ?_
     refine wfn rfl ?_
     rw [hk2] at h
     exact ⟨nk2, Nat.lt_succ_self _, x65, hF.sub (by kernel_rfl), St.pick [0] (by decide) hS, h⟩
   ·replace h := bif_f h hc
    refine wpIn_exit (exit_then <| exit_then <| exit_hit <| norm_then ?_)
    exact ⟨hF.sub (by kernel_rfl), St.pick [0] (by decide) hS, h⟩
  rintro a w ⟨hF, hS, h⟩
  rw [ref03_ray_K1] at h
  refine esr ?_
  refine rn 1 1 [(2, iv 0)] hF fun a hF => ?_
  refine wfn rfl ?_
  refine wpIn_ret (fn_ret [.tmp 2] [iv 0] hF rfl ⟨rfl, trivial⟩ ?_)
  have hr_ := Option.some.inj h
  subst hr_
  exact ⟨rfl, hS.ext⟩

theorem ref03_wide_ok (F : Nat) (p0 : (List api_Span)) (p1 : Int) (res : (List api_Span)) (h : ref03_wide F p0 p1 = some res) (μ : Frz) (w0 : World) (hm : FrzAt μ w0) {ad1 : Option Addr} {cap2 : Nat} (hA3 : ArrM μ 2 api_Span.cells ad1 cap2 p0) : Calls Try.prog 75 #[sv ad1 p0 cap2, iv p1] w0 (fun e w => ∃ zad0 zcap0, e = .returned (sv zad0 res zcap0) ∧ St w0 [arr 25 2 api_Span.cells zad0 res.length zcap0 res] w) := by
 obtain ⟨hlow, hS⟩ := hm.init
 have hext := Frz.ext_refl w0.heap.size μ
 rw [ref03_wide] at h
 refine fn_enterW Try.func75 rfl 33 [(0, sv ad1 p0 cap2), (1, iv p1)] rfl rfl (by kernel_rfl) fun a w hw hF => ?_
 replace hS : St w0 [fz w0 μ] w := by rw [hw]; exact hS
 clear hw
 refine esr ?_
 refine rn 1 1 [(0, sv ad1 p0 cap2), (1, iv p1)] hF fun a hF => ?_
 refine wfn rfl ?_
 refine esr ?_
 refine rn 1 1 [(0, sv ad1 p0 cap2), (1, iv p1), (5, .slice none 0 0)] hF fun a hF => ?_
 refine wfn rfl ?_
 refine ecut (fun a w => ∃ (l51 : (List api_Span)) (ad49 : Option Addr) (cap50 : Nat), Fr 33 [] [(5, sv ad49 l51 cap50)] a ∧ St w0 [arr 25 2 api_Span.cells ad49 l51.length cap50 l51, fz w0 μ] w ∧ ref03_wide_K1 F l51 = some res) ?_ ?_
 ·skip
  refine esr ?_
  refine rn 1 1 [(0, sv ad1 p0 cap2), (1, iv p1), (5, .slice none 0 0), (6, iv 0)] hF fun a hF => ?_
  refine wfn rfl ?_
  refine wpIn_block ?_
  replace hS := hS.nilarr 25 2 api_Span.cells
  refine eloop (fun n_ a w => ∃ (l87 : (List api_Span)) (x88 : Int) (ad85 : Option Addr) (cap86 : Nat), Fr 33 [] [(0, sv ad1 p0 cap2), (1, iv p1), (5, sv ad85 l87 cap86), (6, iv x88)] a ∧ St w0 [arr 25 2 api_Span.cells ad85 l87.length cap86 l87, fz w0 μ] w ∧ ref03_wide_L2 F p0 p1 n_ l87 x88 = some res) F ⟨[], 0, none, 0, hF.sub (by kernel_rfl), St.pick [0, 1] (by decide) hS, h⟩ ?_
  rintro nk2 a w ⟨l87, x88, ad85, cap86, hF, hS, h⟩
  rcases nk2 with _ | nk2
  ·cases (show (none : Option (List api_Span)) = some res from h)
  obtain ⟨k2, hk2⟩ : ∃ k, k = ref03_wide_L2 F p0 p1 nk2 := ⟨_, rfl⟩
  replace h : ref03_wide_B2 F p0 p1 k2 l87 x88 = some res := by rw [hk2]; exact h
  rw [ref03_wide_B2] at h
  refine eseq ?_
  refine esr ?_
  refine rn 4 4 [(0, sv ad1 p0 cap2), (1, iv p1), (5, sv ad85 l87 cap86), (6, iv x88), (10, .bool (decide (x88 < (ln p0))))] hF fun a hF => ?_
  refine wfn rfl ?_
  refine econd hF rfl (fun hc => ?_) (fun hc => ?_)
  ·replace h := bif_t h hc
   refine wpIn_skip (norm_then ?_)
   refine eseq ?_
   refine wpIn_block ?_
   replace h := bindS h
   obtain ⟨u90, hu90, h⟩ := h
   replace h := bindS h
   obtain ⟨x91, hx91, h⟩ := h
   replace h := bindS h
   obtain ⟨u92, hu92, h⟩ := h
   replace h := bindS h
   obtain ⟨x93, hx93, h⟩ := h
   refine region_treeW 17 [16] _ (D := fun w => St w0 [arr 25 2 api_Span.cells ad85 l87.length cap86 l87] w ∧ FrzAt μ w) (by kernel_rfl) (by kernel_rfl) hF.size (fun w hx => ?_) (fun _ _ h => h)
   replace hS := hS.later hx
   refine ⟨⟨St.pick [0] (by decide) hS, hS.frz (i := 1) rfl hlow⟩, ?_⟩
   have hcl96 := Frz.le_refl μ
   refine WT.s [0, 1, 2, 3, 4, 5, 6, 7, 8, 9, 10, 11, 12, 13, 14, 15] [16] (by kernel_rfl) (by kernel_rfl) ?_
   refine runC (rest := []) (obs := [.run [] (Instr.indexAt 43 (sv ad1 p0 cap2) (iv x88)) (.pointer (some (slAddr ad1 x88 2))), .run [] (Instr.loadAt 3 (.pointer (some (slAddr ad1 x88 2)))) (iv u90.Lo), .run [] (binOp .sub 3 (iv u90.Lo) (iv p1)) (iv x91), .run [] (Instr.indexAt 43 (sv ad1 p0 cap2) (iv x88)) (.pointer (some (slAddr ad1 x88 2))), .run [] (Instr.loadAt 3 (.pointer (some ((slAddr ad1 x88 2).add 1)))) (iv u92.Hi), .run [] (binOp .add 3 (iv u92.Hi) (iv p1)) (iv x93)]) [0, 1, 2, 3, 4, 5, 6, 7, 8, 9, 10, 11, 12, 13, 14, 15] [(0, sv ad1 p0 cap2), (1, iv p1), (5, sv ad85 l87 cap86), (6, iv x88), (13, sv ad85 l87 cap86), (28, .agg #[iv x91, iv x93])] hF (by kernel_rfl) (by kernel_rfl) (ocons (obIdxQ (hA3 _ (hS.frz (i := 1) rfl hlow)) (by kernel_rfl) (fun _ => hu90)) (ocons (obElQ (i := x88) 0 api_Span.cells_len (fun _ hd => (hA3 _ hd.2)) (by kernel_rfl) (fun _ => hu90) rfl) (ocons (obSubC (fun _ => hx91)) (ocons (obIdxQ (hA3 _ (hS.frz (i := 1) rfl hlow)) (by kernel_rfl) (fun _ => hu92)) (ocons (obElQ (i := x88) 1 api_Span.cells_len (fun _ hd => (hA3 _ hd.2)) (by kernel_rfl) (fun _ => hu92) rfl) (ocons (obAddC (fun _ => hx93)) onil)))))) ⟨by kernel_rfl⟩ fun a hF => ?_
   refine WRun.fin ?_
   refine all_cons ?_ (all_nil)
   refine litK (e := 25) (sz := 2) (f := api_Span.cells) (t := 43) (len := 1) (fun b97 => [(0, sv ad1 p0 cap2), (1, iv p1), (5, sv ad85 l87 cap86), (6, iv x88), (13, sv ad85 l87 cap86), (29, sb b97 1)]) #[(0, .agg #[iv x91, iv x93])] #[iv x91, iv x93] ([(api_Span.mk x91 x93)]) hF hS (by kernel_rfl) ⟨by kernel_rfl⟩ (by kernel_rfl) api_Span.cells_len rfl rfl (by kernel_rfl) (fun _ => ⟨by kernel_rfl⟩) fun b97 w a hF hS => ⟨⟨St.pick [1] (by decide) hS, (hS.frz (i := 2) rfl hlow)⟩, ?_⟩
   refine WT.z [] (by kernel_rfl) ?_
   refine WRun.fin ?_
   replace h := bindS h
   obtain ⟨l98, hl98, h⟩ := h
   refine SK.wi (appK (t := 43) (ty := 43) (bytes := 16) (l := l87) (l' := ([(api_Span.mk x91 x93)])) (fun ad99 cap100 => [(0, sv ad1 p0 cap2), (1, iv p1), (5, sv ad85 l87 cap86), (6, iv x88), (30, sv ad99 l98 cap100)]) 1 hF hS rfl (by kernel_rfl) ⟨by kernel_rfl⟩ (by kernel_rfl) (hS.arr (i := 0) rfl) (fun _ _ => rfl) hl98 (fun _ _ => ⟨by kernel_rfl⟩) fun ad99 cap100 w a hF hS => ?_)
   refine rn 1 19 [(0, sv ad1 p0 cap2), (1, iv p1), (5, sv ad99 l98 cap100), (6, iv x88)] hF fun a hF => ?_
   refine WI.fin rfl (norm_block <| norm_then <| ?_)
   refine WI.region ?_
   replace h := bindS h
   obtain ⟨x101, hx101, h⟩ := h
   refine rno 3 [.run [] (binOp .add 3 (iv x88) (iv 1)) (iv x101)] 3 [(0, sv ad1 p0 cap2), (1, iv p1), (5, sv ad99 l98 cap100), (6, iv x101)] hF (ocons (obAddC (fun _ => hx101)) onil) fun a hF => ?_
   refine wfn rfl ?_
   rw [hk2] at h
   exact ⟨nk2, Nat.lt_succ_self _, l98, x101, ad99, cap100, hF.sub (by kernel_rfl), St.pick [1, 2] (by decide) hS, h⟩
  ·replace h := bif_f h hc
   refine wpIn_exit (exit_then <| exit_then <| exit_hit <| norm_then ?_)
   exact ⟨l87, ad85, cap86, hF.sub (by kernel_rfl), St.pick [0, 1] (by decide) hS, h⟩
 rintro a w ⟨l51, ad49, cap50, hF, hS, h⟩
 rw [ref03_wide_K1] at h
 refine esr ?_
 refine rn 1 1 [(31, sv ad49 l51 cap50)] hF fun a hF => ?_
 replace h := bindS h
 obtain ⟨y53, hy53, h⟩ := h
 refine SK.wi (callK (f := 64) (args := #[sv ad49 l51 cap50]) (R := fun v w2 => ∃ ad54 cap55, v = sv ad54 y53 cap55 ∧ St w [arr 25 2 api_Span.cells ad54 y53.length cap55 y53] w2) (fun v52 => [(32, v52)]) hF (by kernel_rfl) ⟨by kernel_rfl⟩ (Calls.mono (ref03_united_ok F l51 _ hy53 (memOf w) w (memOf_at w) (Arr.toM (hS.arr (i := 0) rfl))) (by rintro e w2 ⟨ad54, cap55, rfl, h⟩; exact ⟨_, rfl, ad54, cap55, rfl, h⟩)) (fun _ => ⟨by kernel_rfl⟩) ?_)
 rintro v52 w a ⟨ad54, cap55, rfl, hQ⟩ hF
 replace hS : St w0 [arr 25 2 api_Span.cells ad54 y53.length cap55 y53, arr 25 2 api_Span.cells ad49 l51.length cap50 l51, fz w0 μ] w := hS.madeL hQ
 refine rn 1 3 [(4, sv ad54 y53 cap55)] hF fun a hF => ?_
 refine wfn rfl ?_
 refine wpIn_ret (fn_ret [.tmp 4] [sv ad54 y53 cap55] hF rfl ⟨rfl, trivial⟩ ?_)
 have hr_ := Option.some.inj h
 subst hr_
 exact ⟨_, _, rfl, St.pick [0] (by decide) hS⟩
end Go.Proofs.Ytbhjgebjojdohaa
