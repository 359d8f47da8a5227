/- Walks, written by program (wip/gen/dec.py). -/
import Derived.Test.YtbhjgebjojdohaaF5XD
import Derived.Test.YtbhjgebjojdohaaProg
import Derived.Test.YtbhjgebjojdohaaF5XW0
import Derived.Test.YtbhjgebjojdohaaF5XW1
import Derived.Test.YtbhjgebjojdohaaF5XW2
import Derived.Test.YtbhjgebjojdohaaF5XW3
import Derived.Test.YtbhjgebjojdohaaF5WkG
namespace Go.Proofs.Ytbhjgebjojdohaa
open Go Go.RowKit Go.Eng
set_option maxRecDepth 10000
set_option maxHeartbeats 4000000
set_option linter.unusedVariables false
set_option linter.unusedSimpArgs false
theorem fold_Ray_ok (F : Nat) (p0 : (List (List api_Span))) (p1 : Int) (p2 : Int) (res : ((List (List api_Span)) × Int)) (h : fold_Ray F p0 p1 p2 = some res) (μ : Frz) (w0 : World) (hm : FrzAt μ w0) {ad1 : Option Addr} {cap2 : Nat} {css3 : List (List Value)} (hA4 : ArrQ μ 1 Rp43 ad1 cap2 css3 p0) : Calls Try.prog 24 #[sv ad1 p0 cap2, iv p1, iv p2] w0 (fun e w => ∃ (ν_ : Frz) (zad0 : Option Addr) (zcap0 : Nat) (zcss0 : List (List Value)), μ.ext w0.heap.size ν_ ∧ e = .returned (.tuple #[sv zad0 res.1 zcap0, iv res.2]) ∧ All2 (Rp43 ν_) zcss0 res.1 ∧ St w0 [fz w0 ν_, arr 43 1 (fN 1) zad0 res.1.length zcap0 zcss0] w) := by
 obtain ⟨hlow, hS⟩ := hm.init
 have hext := Frz.ext_refl w0.heap.size μ
 rw [fold_Ray] at h
 refine fn_enterW Try.func24 rfl 55 [(0, sv ad1 p0 cap2), (1, iv p1), (2, iv p2)] rfl rfl (by kernel_rfl) fun a w hw hF => ?_
 replace hS : St w0 [fz w0 μ] w := by rw [hw]; exact hS
 clear hw
 refine esr ?_
 refine SK.wi (boxK (t := 3) (fun b5 => [(0, sv ad1 p0 cap2), (2, iv p2), (4, pb b5)]) (iv p1) #[iv p1] hF hS (by kernel_rfl) ⟨by kernel_rfl⟩ (by kernel_rfl) (fun _ => ⟨by kernel_rfl⟩) fun b5 w a hF hS => ?_)
 refine SK.wi (boxK (t := 3) (fun b6 => [(0, sv ad1 p0 cap2), (4, pb b5), (5, pb b6)]) (iv p2) #[iv p2] hF hS (by kernel_rfl) ⟨by kernel_rfl⟩ (by kernel_rfl) (fun _ => ⟨by kernel_rfl⟩) fun b6 w a hF hS => ?_)
 refine rn 2 4 [(0, sv ad1 p0 cap2), (4, pb b5), (5, pb b6)] hF fun a hF => ?_
 refine wfn rfl ?_
 refine esr ?_
 refine rn 1 1 [(4, pb b5), (5, pb b6), (15, sv ad1 p0 cap2)] hF fun a hF => ?_
 replace h := bindS h
 obtain ⟨y8, hy8, h⟩ := h
 refine SK.wi (callK (f := 65) (args := #[sv ad1 p0 cap2]) (R := fun v w2 => ∃ ν9 ad11 cap12 css13, μ.ext w.heap.size ν9 ∧ v = .tuple #[sv ad11 y8.1 cap12, iv y8.2] ∧ All2 (Rp132 ν9) css13 y8.1 ∧ St w [frzR w.heap.size ν9, arr 132 1 (fN 1) ad11 y8.1.length cap12 css13] w2) (fun v7 => [(4, pb b5), (5, pb b6), (16, v7)]) hF (by kernel_rfl) ⟨by kernel_rfl⟩ (Calls.mono (fold_row_ok F p0 _ hy8 μ w (hS.frz (i := 2) rfl hlow) hA4) (by rintro e w2 ⟨ν9, ad11, cap12, css13, hx10, rfl, hq14, h⟩; exact ⟨_, rfl, ν9, ad11, cap12, css13, hx10, rfl, hq14, h⟩)) (fun _ => ⟨by kernel_rfl⟩) ?_)
 rintro v7 w a ⟨ν9, ad11, cap12, css13, hx10, rfl, hq14, hQ⟩ hF
 replace hext := Frz.ext_trans hext (Frz.ext_mono hx10 hS.ext.size)
 obtain ⟨hlow, hS⟩ := hS.frzMerge (i := 2) rfl hlow hx10 hQ
 replace hA4 := hA4.mono Rp43.mono hx10.1
 replace hS : St w0 [arr 132 1 (fN 1) ad11 y8.1.length cap12 css13, blk b6 3 #[iv p2], blk b5 3 #[iv p1], fz w0 ν9] w := hS
 refine rn 3 5 [(4, pb b5), (5, pb b6), (17, sv ad11 y8.1 cap12), (18, iv y8.2)] hF fun a hF => ?_
 refine SK.wi (allocK (t := 135) (fun b15 => [(4, pb b5), (5, pb b6), (8, pb b15), (17, sv ad11 y8.1 cap12), (18, iv y8.2)]) #[.slice none 0 0] hF hS (by kernel_rfl) ⟨by kernel_rfl⟩ (by kernel_rfl) (fun _ => ⟨by kernel_rfl⟩) fun b15 w a hF hS => ?_)
 refine SK.wi (storeK (t := 135) [(4, pb b5), (5, pb b6), (8, pb b15), (18, iv y8.2)] 0 0 (sv ad11 y8.1 cap12) #[sv ad11 y8.1 cap12] hF hS rfl (by kernel_rfl) ⟨by kernel_rfl⟩ (by kernel_rfl) (by kernel_rfl) (by kernel_rfl) (by kernel_rfl) ⟨by kernel_rfl⟩ fun w a hF hS => ?_)
 refine rn 1 8 [(4, pb b5), (5, pb b6), (8, pb b15), (9, iv y8.2)] hF fun a hF => ?_
 refine wfn rfl ?_
 refine ecut (fun a w => ∃ (x16 : Int), Fr 55 [] [(4, pb b5), (5, pb b6), (8, pb b15), (9, iv x16)] a ∧ St w0 [blk b15 135 #[sv ad11 y8.1 cap12], arr 132 1 (fN 1) ad11 y8.1.length cap12 css13, blk b6 3 #[iv p2], blk b5 3 #[iv p1], fz w0 ν9] w ∧ fold_Ray_K1 F p1 p2 y8 x16 = some res) ?_ ?_
 ·skip
  refine esr ?_
  refine rn 2 2 [(4, pb b5), (5, pb b6), (8, pb b15), (9, iv y8.2), (20, .bool (y8.2 == 0))] hF fun a hF => ?_
  refine wfn rfl ?_
  refine econd hF rfl (fun hc => ?_) (fun hc => ?_)
  ·replace h := bif_t h hc
   refine WI.region ?_
   refine rx 4 [.run [] (Instr.loadAt 3 (pb b5)) (iv p1), .run [] (Instr.loadAt 3 (pb b6)) (iv p2), .call [] 66 #[iv p1, iv p2] (iv (fold_limited p1 p2))] 4 [(4, pb b5), (5, pb b6), (8, pb b15), (9, iv (fold_limited p1 p2))] hF (ocons (ob1 (by kernel_rfl) (fun _ hd => (hS.later hd).cell (i := 3) (j := 0) rfl rfl)) (ocons (ob1 (by kernel_rfl) (fun _ hd => (hS.later hd).cell (i := 2) (j := 0) rfl rfl)) (ocons (show Ob.ok _ Ext _ _ from fun hk w2 hd => fold_limited_ok p1 p2 _ rfl _ w2 (memOf_at w2) ) onil))) fun a w hF hx => ?_
   replace hS := hS.later hx
   refine wfn rfl ?_
   exact ⟨(fold_limited p1 p2), hF.sub (by kernel_rfl), St.pick [0, 1, 2, 3, 4] (by decide) hS, h⟩
  ·replace h := bif_f h hc
   refine wpIn_skip (norm_then ?_)
   exact ⟨y8.2, hF.sub (by kernel_rfl), St.pick [0, 1, 2, 3, 4] (by decide) hS, h⟩
 rintro a w ⟨x16, hF, hS, h⟩
 rw [fold_Ray_K1] at h
 refine eseq ?_
 refine esr ?_
 refine rn 2 2 [(4, pb b5), (5, pb b6), (8, pb b15), (9, iv x16), (25, .bool (x16 != 0))] hF fun a hF => ?_
 refine wfn rfl ?_
 refine econd hF rfl (fun hc => ?_) (fun hc => ?_)
 ·replace h := bif_t h hc
  refine esr ?_
  refine rn 3 3 [(6, .slice none 0 0), (7, iv x16)] hF fun a hF => ?_
  refine wfn rfl ?_
  refine wpIn_ret (ret_then <| fn_ret [.tmp 6, .tmp 7] [.slice none 0 0, iv x16] hF rfl ⟨rfl, rfl, trivial⟩ ?_)
  have hr_ := Option.some.inj h
  subst hr_
  replace hS := hS.nilarr 43 1 (fN 1)
  exact ⟨ν9, _, _, _, hext, rfl, All2.nil, St.pick [5, 0] (by decide) hS⟩
 ·replace h := bif_f h hc
  refine wpIn_skip (norm_then ?_)
  refine esr ?_
  refine rno 1 [.run [] (Instr.loadAt 135 (pb b15)) (sv ad11 y8.1 cap12)] 1 [(4, pb b5), (5, pb b6), (8, pb b15), (27, sv ad11 y8.1 cap12)] hF (ocons (ob1 (by kernel_rfl) (fun _ hd => (hS.at_ hd).cell (i := 0) (j := 0) rfl rfl)) onil) fun a hF => ?_
  replace h := bindS h
  obtain ⟨y18, hy18, h⟩ := h
  refine SK.wi (callK (f := 67) (args := #[sv ad11 y8.1 cap12]) (R := fun v w2 => ∃ ad19 cap20, v = sv ad19 y18 cap20 ∧ St w [arr 3 1 fI ad19 y18.length cap20 y18] w2) (fun v17 => [(4, pb b5), (5, pb b6), (8, pb b15), (28, v17)]) hF (by kernel_rfl) ⟨by kernel_rfl⟩ (Calls.mono (fold_known_ok F y8.1 _ hy18 (memOf w) w (memOf_at w) (ArrQ.of_own (hS.arr (i := 1) rfl) hq14 Rp132.mono (FrzAt.le_mem (hS.frz (i := 4) rfl hlow)))) (by rintro e w2 ⟨ad19, cap20, rfl, h⟩; exact ⟨_, rfl, ad19, cap20, rfl, h⟩)) (fun _ => ⟨by kernel_rfl⟩) ?_)
  rintro v17 w a ⟨ad19, cap20, rfl, hQ⟩ hF
  replace hS : St w0 [arr 3 1 fI ad19 y18.length cap20 y18, blk b15 135 #[sv ad11 y8.1 cap12], arr 132 1 (fN 1) ad11 y8.1.length cap12 css13, blk b6 3 #[iv p2], blk b5 3 #[iv p1], fz w0 ν9] w := hS.madeL hQ
  refine SK.wi (allocK (t := 60) (fun b21 => [(4, pb b5), (5, pb b6), (8, pb b15), (10, pb b21), (28, sv ad19 y18 cap20)]) #[.slice none 0 0] hF hS (by kernel_rfl) ⟨by kernel_rfl⟩ (by kernel_rfl) (fun _ => ⟨by kernel_rfl⟩) fun b21 w a hF hS => ?_)
  refine SK.wi (storeK (t := 60) [(4, pb b5), (5, pb b6), (8, pb b15), (10, pb b21)] 0 0 (sv ad19 y18 cap20) #[sv ad19 y18 cap20] hF hS rfl (by kernel_rfl) ⟨by kernel_rfl⟩ (by kernel_rfl) (by kernel_rfl) (by kernel_rfl) (by kernel_rfl) ⟨by kernel_rfl⟩ fun w a hF hS => ?_)
  refine wfn rfl ?_
  refine esr ?_
  obtain ⟨ν22, hx23, hlow, hS, hz24⟩ := hS.freeze (i := 6) (j := 1) rfl rfl (by decide) hlow
  replace hA4 := hA4.mono Rp43.mono hx23.1
  replace hq14 := All2.mono Rp132.mono hx23.1 hq14
  replace hext := Frz.ext_trans hext hx23
  replace hS : St w0 [blk b21 60 #[sv ad19 y18 cap20], blk b15 135 #[sv ad11 y8.1 cap12], arr 132 1 (fN 1) ad11 y8.1.length cap12 css13, blk b6 3 #[iv p2], blk b5 3 #[iv p1], fz w0 ν22] w := hS
  have hA25 := ArrM.of_arr hz24
  obtain ⟨ν26, hx27, hlow, hS, hz28⟩ := hS.freeze (i := 5) (j := 0) rfl rfl (by decide) hlow
  replace hA4 := hA4.mono Rp43.mono hx27.1
  replace hq14 := All2.mono Rp132.mono hx27.1 hq14
  replace hA25 := hA25.mono hx27.1
  replace hext := Frz.ext_trans hext hx27
  replace hS : St w0 [blk b15 135 #[sv ad11 y8.1 cap12], arr 132 1 (fN 1) ad11 y8.1.length cap12 css13, blk b6 3 #[iv p2], blk b5 3 #[iv p1], fz w0 ν26] w := hS
  have hB29 : BlkM ν26 b21 60 #[sv ad19 y18 cap20] := hz28
  obtain ⟨ν30, hx31, hlow, hS, hz32⟩ := hS.freeze (i := 4) (j := 2) rfl rfl (by decide) hlow
  replace hA4 := hA4.mono Rp43.mono hx31.1
  replace hq14 := All2.mono Rp132.mono hx31.1 hq14
  replace hA25 := hA25.mono hx31.1
  replace hB29 := hB29.mono hx31.1
  replace hext := Frz.ext_trans hext hx31
  replace hS : St w0 [blk b15 135 #[sv ad11 y8.1 cap12], arr 132 1 (fN 1) ad11 y8.1.length cap12 css13, blk b5 3 #[iv p1], fz w0 ν30] w := hS
  have hB33 : BlkM ν30 b6 3 #[iv p2] := hz32
  obtain ⟨ν34, hx35, hlow, hS, hz36⟩ := hS.freeze (i := 3) (j := 2) rfl rfl (by decide) hlow
  replace hA4 := hA4.mono Rp43.mono hx35.1
  replace hq14 := All2.mono Rp132.mono hx35.1 hq14
  replace hA25 := hA25.mono hx35.1
  replace hB29 := hB29.mono hx35.1
  replace hB33 := hB33.mono hx35.1
  replace hext := Frz.ext_trans hext hx35
  replace hS : St w0 [blk b15 135 #[sv ad11 y8.1 cap12], arr 132 1 (fN 1) ad11 y8.1.length cap12 css13, fz w0 ν34] w := hS
  have hB37 : BlkM ν34 b5 3 #[iv p1] := hz36
  refine rn 2 2 [(8, pb b15), (10, pb b21), (11, .func (.func 68) #[] #[pb b21, pb b6, pb b15, pb b5])] hF fun a hF => ?_
  refine wfn rfl ?_
  have hj199 := Frz.le_refl ν34
  refine ecut (fun a w => ∃ (l85 : (List (List api_Span))) (ν82 : Frz) (ad83 : Option Addr) (cap84 : Nat) (css86 : List (List Value)), Fr 55 [] [(8, pb b15), (10, pb b21), (11, .func (.func 68) #[] #[pb b21, pb b6, pb b15, pb b5])] a ∧ St w0 [arr 132 1 (fN 1) ad83 l85.length cap84 css86, blk b15 135 #[sv ad83 l85 cap84], fz w0 ν82] w ∧ (All2 (Rp132 ν82) css86 l85) ∧ (ν34.le ν82) ∧ (μ.ext w0.heap.size ν82) ∧ (FrzIn w0 ν82) ∧ fold_Ray_K2 F p1 p2 y18 l85 = some res) ?_ ?_
  ·skip
   refine esr ?_
   refine rn 1 1 [(8, pb b15), (10, pb b21), (11, .func (.func 68) #[] #[pb b21, pb b6, pb b15, pb b5]), (12, iv 1)] hF fun a hF => ?_
   refine wfn rfl ?_
   refine wpIn_block ?_
   have hj234 := Frz.le_refl ν34
   refine eloop (fun n_ a w => ∃ (l229 : (List (List api_Span))) (x232 : Int) (ν226 : Frz) (ad227 : Option Addr) (cap228 : Nat) (css230 : List (List Value)), Fr 55 [] [(8, pb b15), (10, pb b21), (11, .func (.func 68) #[] #[pb b21, pb b6, pb b15, pb b5]), (12, iv x232)] a ∧ St w0 [arr 132 1 (fN 1) ad227 l229.length cap228 css230, blk b15 135 #[sv ad227 l229 cap228], fz w0 ν226] w ∧ (All2 (Rp132 ν226) css230 l229) ∧ (ν34.le ν226) ∧ (μ.ext w0.heap.size ν226) ∧ (FrzIn w0 ν226) ∧ fold_Ray_L5 F p1 p2 y18 n_ l229 x232 = some res) F ⟨y8.1, 1, ν34, ad11, cap12, css13, hF.sub (by kernel_rfl), St.pick [1, 0, 2] (by decide) hS, hq14, hj234, hext, hlow, h⟩ ?_
   clear hj234
   rintro nk5 a w ⟨l229, x232, ν226, ad227, cap228, css230, hF, hS, hq231, hle233, hext, hlow, h⟩
   rcases nk5 with _ | nk5
   ·cases (show (none : Option ((List (List api_Span)) × Int)) = some res from h)
   replace hA4 := hA4.mono Rp43.mono hle233
   replace hq14 := All2.mono Rp132.mono hle233 hq14
   replace hA25 := hA25.mono hle233
   replace hB29 := hB29.mono hle233
   replace hB33 := hB33.mono hle233
   replace hB37 := hB37.mono hle233
   replace hj199 := Frz.le_trans hj199 hle233
   obtain ⟨k5, hk5⟩ : ∃ k, k = fold_Ray_L5 F p1 p2 y18 nk5 := ⟨_, rfl⟩
   replace h : fold_Ray_B5 F p1 p2 y18 k5 l229 x232 = some res := by rw [hk5]; exact h
   rw [fold_Ray_B5] at h
   refine eseq ?_
   refine esr ?_
   refine rno 4 [.run [] (Instr.loadAt 60 (pb b21)) (sv ad19 y18 cap20)] 4 [(8, pb b15), (10, pb b21), (11, .func (.func 68) #[] #[pb b21, pb b6, pb b15, pb b5]), (12, iv x232), (33, .bool (decide (x232 < (ln y18))))] hF (ocons (ob1 (by kernel_rfl) (fun _ hd => (hB29.blk ((hS.at_ hd).frz (i := 2) rfl hlow)).cell1 (j := 0) rfl)) onil) fun a hF => ?_
   refine wfn rfl ?_
   refine econd hF rfl (fun hc => ?_) (fun hc => ?_)
   ·replace h := bif_t h hc
    refine wpIn_skip (norm_then ?_)
    refine eseq ?_
    refine wpIn_block ?_
    refine WI.region ?_
    replace h := bindS h
    obtain ⟨x235, hx235, h⟩ := h
    refine rno 4 [.run [] (binOp .sub 3 (iv x232) (iv 1)) (iv x235)] 4 [(8, pb b15), (10, pb b21), (11, .func (.func 68) #[] #[pb b21, pb b6, pb b15, pb b5]), (12, iv x232), (36, .func (.func 68) #[] #[pb b21, pb b6, pb b15, pb b5]), (38, iv x235), (39, iv x232)] hF (ocons (obSubC (fun _ => hx235)) onil) fun a hF => ?_
    replace h := bindS h
    obtain ⟨y236, hy236, h⟩ := h
    replace hS : St w0 [arr 132 1 (fN 1) ad227 l229.length cap228 css230, blk b15 135 #[sv ad227 l229 cap228], fz w0 ν226] w := hS
    replace hS : St w0 [fz w0 ν226, blk b15 135 #[sv ad227 l229 cap228], arr 132 1 (fN 1) ad227 l229.length cap228 css230] w := St.pick [2, 1, 0] (by decide) hS
    refine SK.wi (callK (f := 68) (args := #[iv x235, iv x232, pb b21, pb b6, pb b15, pb b5]) (R := fun v w2 => ∃ ν237 css241, ν226.ext w0.heap.size ν237 ∧ FrzIn w0 ν237 ∧ v = .tuple #[] ∧ l229.length = y236.length ∧ All2 (Rp132 ν237) css241 y236 ∧ St w0 [fz w0 ν237, blk b15 135 #[sv ad227 y236 cap228], arr 132 1 (fN 1) ad227 y236.length cap228 css241] w2) (fun v239 => [(8, pb b15), (10, pb b21), (11, .func (.func 68) #[] #[pb b21, pb b6, pb b15, pb b5]), (12, iv x232)]) hF (by kernel_rfl) ⟨by kernel_rfl⟩ (Calls.mono (fold_Ray_1_ok F x235 x232 y18 p2 l229 p1 _ hy236 ν226 w0 w _ hlow hB29 hA25 hB33 hq231 hB37 hS) (by rintro e w2 ⟨ν237, css241, hx238, hlow_, rfl, hl240, hq242, h⟩; exact ⟨_, rfl, ν237, css241, hx238, hlow_, rfl, hl240, hq242, h⟩)) (fun _ => ⟨by kernel_rfl⟩) ?_)
    rintro v239 w a ⟨ν237, css241, hx238, hlow, rfl, hl240, hq242, hS⟩ hF
    replace hext := Frz.ext_trans hext hx238
    replace hA4 := hA4.mono Rp43.mono hx238.1
    replace hq14 := All2.mono Rp132.mono hx238.1 hq14
    replace hA25 := hA25.mono hx238.1
    replace hB29 := hB29.mono hx238.1
    replace hB33 := hB33.mono hx238.1
    replace hB37 := hB37.mono hx238.1
    replace hq231 := All2.mono Rp132.mono hx238.1 hq231
    replace hj199 := Frz.le_trans hj199 hx238.1
    replace hle233 := Frz.le_trans hle233 hx238.1
    try simp only [sv, ln, hl240] at hF hS
    replace hS : St w0 [fz w0 ν237, blk b15 135 #[sv ad227 y236 cap228], arr 132 1 (fN 1) ad227 y236.length cap228 css241] w := hS
    refine WI.fin rfl (norm_block <| norm_then <| ?_)
    refine WI.region ?_
    replace h := bindS h
    obtain ⟨x243, hx243, h⟩ := h
    refine rno 3 [.run [] (binOp .add 3 (iv x232) (iv 1)) (iv x243)] 3 [(8, pb b15), (10, pb b21), (11, .func (.func 68) #[] #[pb b21, pb b6, pb b15, pb b5]), (12, iv x243)] hF (ocons (obAddC (fun _ => hx243)) onil) fun a hF => ?_
    refine wfn rfl ?_
    rw [hk5] at h
    exact ⟨nk5, Nat.lt_succ_self _, y236, x243, ν237, ad227, cap228, css241, hF.sub (by kernel_rfl), St.pick [2, 1, 0] (by decide) hS, hq242, hle233, hext, hlow, h⟩
   ·replace h := bif_f h hc
    refine wpIn_exit (exit_then <| exit_then <| exit_hit <| norm_then ?_)
    exact ⟨l229, ν226, ad227, cap228, css230, hF.sub (by kernel_rfl), St.pick [0, 1, 2] (by decide) hS, hq231, hj199, hext, hlow, h⟩
  clear hj199
  rintro a w ⟨l85, ν82, ad83, cap84, css86, hF, hS, hq87, hle88, hext, hlow, h⟩
  replace hA4 := hA4.mono Rp43.mono hle88
  replace hq14 := All2.mono Rp132.mono hle88 hq14
  replace hA25 := hA25.mono hle88
  replace hB29 := hB29.mono hle88
  replace hB33 := hB33.mono hle88
  replace hB37 := hB37.mono hle88
  rw [fold_Ray_K2] at h
  have hj153 := Frz.le_refl ν82
  refine ecut (fun a w => ∃ (l137 : (List (List api_Span))) (ν134 : Frz) (ad135 : Option Addr) (cap136 : Nat) (css138 : List (List Value)), Fr 55 [] [(8, pb b15)] a ∧ St w0 [arr 132 1 (fN 1) ad135 l137.length cap136 css138, blk b15 135 #[sv ad135 l137 cap136], fz w0 ν134] w ∧ (All2 (Rp132 ν134) css138 l137) ∧ (ν82.le ν134) ∧ (μ.ext w0.heap.size ν134) ∧ (FrzIn w0 ν134) ∧ fold_Ray_K3 F l137 = some res) ?_ ?_
  ·skip
   refine esr ?_
   replace h := bindS h
   obtain ⟨x154, hx154, h⟩ := h
   refine rno 4 [.run [] (Instr.loadAt 60 (pb b21)) (sv ad19 y18 cap20), .run [] (binOp .sub 3 (iv (ln y18)) (iv 1)) (iv x154)] 4 [(8, pb b15), (11, .func (.func 68) #[] #[pb b21, pb b6, pb b15, pb b5]), (13, iv x154)] hF (ocons (ob1 (by kernel_rfl) (fun _ hd => (hB29.blk ((hS.at_ hd).frz (i := 2) rfl hlow)).cell1 (j := 0) rfl)) (ocons (obSubC (fun _ => hx154)) onil)) fun a hF => ?_
   refine wfn rfl ?_
   refine wpIn_block ?_
   have hj189 := Frz.le_refl ν82
   refine eloop (fun n_ a w => ∃ (l184 : (List (List api_Span))) (x187 : Int) (ν181 : Frz) (ad182 : Option Addr) (cap183 : Nat) (css185 : List (List Value)), Fr 55 [] [(8, pb b15), (11, .func (.func 68) #[] #[pb b21, pb b6, pb b15, pb b5]), (13, iv x187)] a ∧ St w0 [arr 132 1 (fN 1) ad182 l184.length cap183 css185, blk b15 135 #[sv ad182 l184 cap183], fz w0 ν181] w ∧ (All2 (Rp132 ν181) css185 l184) ∧ (ν82.le ν181) ∧ (μ.ext w0.heap.size ν181) ∧ (FrzIn w0 ν181) ∧ fold_Ray_L4 F p1 p2 y18 n_ l184 x187 = some res) F ⟨l85, x154, ν82, ad83, cap84, css86, hF.sub (by kernel_rfl), St.pick [0, 1, 2] (by decide) hS, hq87, hj189, hext, hlow, h⟩ ?_
   clear hj189
   rintro nk4 a w ⟨l184, x187, ν181, ad182, cap183, css185, hF, hS, hq186, hle188, hext, hlow, h⟩
   rcases nk4 with _ | nk4
   ·cases (show (none : Option ((List (List api_Span)) × Int)) = some res from h)
   replace hA4 := hA4.mono Rp43.mono hle188
   replace hq14 := All2.mono Rp132.mono hle188 hq14
   replace hA25 := hA25.mono hle188
   replace hB29 := hB29.mono hle188
   replace hB33 := hB33.mono hle188
   replace hB37 := hB37.mono hle188
   replace hq87 := All2.mono Rp132.mono hle188 hq87
   replace hle88 := Frz.le_trans hle88 hle188
   replace hj153 := Frz.le_trans hj153 hle188
   obtain ⟨k4, hk4⟩ : ∃ k, k = fold_Ray_L4 F p1 p2 y18 nk4 := ⟨_, rfl⟩
   replace h : fold_Ray_B4 F p1 p2 y18 k4 l184 x187 = some res := by rw [hk4]; exact h
   rw [fold_Ray_B4] at h
   refine eseq ?_
   refine esr ?_
   refine rn 2 2 [(8, pb b15), (11, .func (.func 68) #[] #[pb b21, pb b6, pb b15, pb b5]), (13, iv x187), (45, .bool (decide (x187 > 0)))] hF fun a hF => ?_
   refine wfn rfl ?_
   refine econd hF rfl (fun hc => ?_) (fun hc => ?_)
   ·replace h := bif_t h hc
    refine wpIn_skip (norm_then ?_)
    refine eseq ?_
    refine wpIn_block ?_
    refine WI.region ?_
    replace h := bindS h
    obtain ⟨x190, hx190, h⟩ := h
    refine rno 4 [.run [] (binOp .sub 3 (iv x187) (iv 1)) (iv x190)] 4 [(8, pb b15), (11, .func (.func 68) #[] #[pb b21, pb b6, pb b15, pb b5]), (13, iv x187), (48, .func (.func 68) #[] #[pb b21, pb b6, pb b15, pb b5]), (49, iv x187), (51, iv x190)] hF (ocons (obSubC (fun _ => hx190)) onil) fun a hF => ?_
    replace h := bindS h
    obtain ⟨y191, hy191, h⟩ := h
    replace hS : St w0 [arr 132 1 (fN 1) ad182 l184.length cap183 css185, blk b15 135 #[sv ad182 l184 cap183], fz w0 ν181] w := hS
    replace hS : St w0 [fz w0 ν181, blk b15 135 #[sv ad182 l184 cap183], arr 132 1 (fN 1) ad182 l184.length cap183 css185] w := St.pick [2, 1, 0] (by decide) hS
    refine SK.wi (callK (f := 68) (args := #[iv x187, iv x190, pb b21, pb b6, pb b15, pb b5]) (R := fun v w2 => ∃ ν192 css196, ν181.ext w0.heap.size ν192 ∧ FrzIn w0 ν192 ∧ v = .tuple #[] ∧ l184.length = y191.length ∧ All2 (Rp132 ν192) css196 y191 ∧ St w0 [fz w0 ν192, blk b15 135 #[sv ad182 y191 cap183], arr 132 1 (fN 1) ad182 y191.length cap183 css196] w2) (fun v194 => [(8, pb b15), (11, .func (.func 68) #[] #[pb b21, pb b6, pb b15, pb b5]), (13, iv x187)]) hF (by kernel_rfl) ⟨by kernel_rfl⟩ (Calls.mono (fold_Ray_1_ok F x187 x190 y18 p2 l184 p1 _ hy191 ν181 w0 w _ hlow hB29 hA25 hB33 hq186 hB37 hS) (by rintro e w2 ⟨ν192, css196, hx193, hlow_, rfl, hl195, hq197, h⟩; exact ⟨_, rfl, ν192, css196, hx193, hlow_, rfl, hl195, hq197, h⟩)) (fun _ => ⟨by kernel_rfl⟩) ?_)
    rintro v194 w a ⟨ν192, css196, hx193, hlow, rfl, hl195, hq197, hS⟩ hF
    replace hext := Frz.ext_trans hext hx193
    replace hA4 := hA4.mono Rp43.mono hx193.1
    replace hq14 := All2.mono Rp132.mono hx193.1 hq14
    replace hA25 := hA25.mono hx193.1
    replace hB29 := hB29.mono hx193.1
    replace hB33 := hB33.mono hx193.1
    replace hB37 := hB37.mono hx193.1
    replace hq87 := All2.mono Rp132.mono hx193.1 hq87
    replace hq186 := All2.mono Rp132.mono hx193.1 hq186
    replace hle88 := Frz.le_trans hle88 hx193.1
    replace hj153 := Frz.le_trans hj153 hx193.1
    replace hle188 := Frz.le_trans hle188 hx193.1
    try simp only [sv, ln, hl195] at hF hS
    replace hS : St w0 [fz w0 ν192, blk b15 135 #[sv ad182 y191 cap183], arr 132 1 (fN 1) ad182 y191.length cap183 css196] w := hS
    refine WI.fin rfl (norm_block <| norm_then <| ?_)
    refine WI.region ?_
    replace h := bindS h
    obtain ⟨x198, hx198, h⟩ := h
    refine rno 3 [.run [] (binOp .sub 3 (iv x187) (iv 1)) (iv x198)] 3 [(8, pb b15), (11, .func (.func 68) #[] #[pb b21, pb b6, pb b15, pb b5]), (13, iv x198)] hF (ocons (obSubC (fun _ => hx198)) onil) fun a hF => ?_
    refine wfn rfl ?_
    rw [hk4] at h
    exact ⟨nk4, Nat.lt_succ_self _, y191, x198, ν192, ad182, cap183, css196, hF.sub (by kernel_rfl), St.pick [2, 1, 0] (by decide) hS, hq197, hle188, hext, hlow, h⟩
   ·replace h := bif_f h hc
    refine wpIn_exit (exit_then <| exit_then <| exit_hit <| norm_then ?_)
    exact ⟨l184, ν181, ad182, cap183, css185, hF.sub (by kernel_rfl), St.pick [0, 1, 2] (by decide) hS, hq186, hj153, hext, hlow, h⟩
  clear hj153
  rintro a w ⟨l137, ν134, ad135, cap136, css138, hF, hS, hq139, hle140, hext, hlow, h⟩
  replace hA4 := hA4.mono Rp43.mono hle140
  replace hq14 := All2.mono Rp132.mono hle140 hq14
  replace hA25 := hA25.mono hle140
  replace hB29 := hB29.mono hle140
  replace hB33 := hB33.mono hle140
  replace hB37 := hB37.mono hle140
  replace hq87 := All2.mono Rp132.mono hle140 hq87
  replace hle88 := Frz.le_trans hle88 hle140
  rw [fold_Ray_K3] at h
  refine esr ?_
  refine rno 1 [.run [] (Instr.loadAt 135 (pb b15)) (sv ad135 l137 cap136)] 1 [(53, sv ad135 l137 cap136)] hF (ocons (ob1 (by kernel_rfl) (fun _ hd => (hS.at_ hd).cell (i := 1) (j := 0) rfl rfl)) onil) fun a hF => ?_
  obtain ⟨ν141, hx142, hlow, hS, hz143⟩ := hS.freeze (i := 2) (j := 0) rfl rfl (by decide) hlow
  replace hA4 := hA4.mono Rp43.mono hx142.1
  replace hq14 := All2.mono Rp132.mono hx142.1 hq14
  replace hA25 := hA25.mono hx142.1
  replace hB29 := hB29.mono hx142.1
  replace hB33 := hB33.mono hx142.1
  replace hB37 := hB37.mono hx142.1
  replace hq87 := All2.mono Rp132.mono hx142.1 hq87
  replace hq139 := All2.mono Rp132.mono hx142.1 hq139
  replace hle88 := Frz.le_trans hle88 hx142.1
  replace hle140 := Frz.le_trans hle140 hx142.1
  replace hext := Frz.ext_trans hext hx142
  replace hS : St w0 [blk b15 135 #[sv ad135 l137 cap136], fz w0 ν141] w := hS
  have hA144 := ArrQ.of_arr (l := l137) hz143 hq139 Rp132.mono (Frz.le_refl _)
  replace h := bindS h
  obtain ⟨y146, hy146, h⟩ := h
  refine SK.wi (callK (f := 70) (args := #[sv ad135 l137 cap136]) (R := fun v w2 => ∃ ν147 ad149 cap150 css151, ν141.ext w.heap.size ν147 ∧ v = sv ad149 y146 cap150 ∧ All2 (Rp43 ν147) css151 y146 ∧ St w [frzR w.heap.size ν147, arr 43 1 (fN 1) ad149 y146.length cap150 css151] w2) (fun v145 => [(54, v145)]) hF (by kernel_rfl) ⟨by kernel_rfl⟩ (Calls.mono (fold_back_ok F l137 _ hy146 ν141 w (hS.frz (i := 1) rfl hlow) hA144) (by rintro e w2 ⟨ν147, ad149, cap150, css151, hx148, rfl, hq152, h⟩; exact ⟨_, rfl, ν147, ad149, cap150, css151, hx148, rfl, hq152, h⟩)) (fun _ => ⟨by kernel_rfl⟩) ?_)
  rintro v145 w a ⟨ν147, ad149, cap150, css151, hx148, rfl, hq152, hQ⟩ hF
  replace hext := Frz.ext_trans hext (Frz.ext_mono hx148 hS.ext.size)
  obtain ⟨hlow, hS⟩ := hS.frzMerge (i := 1) rfl hlow hx148 hQ
  replace hA4 := hA4.mono Rp43.mono hx148.1
  replace hq14 := All2.mono Rp132.mono hx148.1 hq14
  replace hA25 := hA25.mono hx148.1
  replace hB29 := hB29.mono hx148.1
  replace hB33 := hB33.mono hx148.1
  replace hB37 := hB37.mono hx148.1
  replace hq87 := All2.mono Rp132.mono hx148.1 hq87
  replace hA144 := hA144.mono Rp132.mono hx148.1
  replace hle88 := Frz.le_trans hle88 hx148.1
  replace hle140 := Frz.le_trans hle140 hx148.1
  replace hS : St w0 [arr 43 1 (fN 1) ad149 y146.length cap150 css151, blk b15 135 #[sv ad135 l137 cap136], fz w0 ν147] w := hS
  refine rn 2 4 [(6, sv ad149 y146 cap150), (7, iv 0)] hF fun a hF => ?_
  refine wfn rfl ?_
  refine wpIn_ret (fn_ret [.tmp 6, .tmp 7] [sv ad149 y146 cap150, iv 0] hF rfl ⟨rfl, rfl, trivial⟩ ?_)
  have hr_ := Option.some.inj h
  subst hr_
  exact ⟨ν147, _, _, _, hext, rfl, hq152, St.pick [2, 0] (by decide) hS⟩

theorem law03_FoldRays_ok (F : Nat) (p0 : (List (List api_Span))) (p1 : Int) (p2 : Int) (res : Bool) (h : law03_FoldRays F p0 p1 p2 = some res) (μ : Frz) (w0 : World) (hm : FrzAt μ w0) {ad1 : Option Addr} {cap2 : Nat} {css3 : List (List Value)} (hA4 : ArrQ μ 1 Rp43 ad1 cap2 css3 p0) : Calls Try.prog 5 #[sv ad1 p0 cap2, iv p1, iv p2] w0 (fun e w => e = .returned (.bool res) ∧ Ext w0 w) := by
 obtain ⟨hlow, hS⟩ := hm.init
 have hext := Frz.ext_refl w0.heap.size μ
 rw [law03_FoldRays] at h
 refine fn_enterW Try.func5 rfl 55 [(0, sv ad1 p0 cap2), (1, iv p1), (2, iv p2)] rfl rfl (by kernel_rfl) fun a w hw hF => ?_
 replace hS : St w0 [fz w0 μ] w := by rw [hw]; exact hS
 clear hw
 refine esr ?_
 refine rn 1 1 [(0, sv ad1 p0 cap2), (1, iv p1), (2, iv p2)] hF fun a hF => ?_
 refine wfn rfl ?_
 refine eseq ?_
 refine esr ?_
 replace h := bindS h
 obtain ⟨y5, hy5, h⟩ := h
 refine rx 18 [.call [⟨24, false, (bif (bif (decide ((ln p0) > 12)) then (decide ((ln p0) ≤ 200)) else false) then true else (decide ((ln p0) > 205)))⟩] 23 #[sv ad1 p0 cap2, iv 12] (.bool y5)] 18 [(0, sv ad1 p0 cap2), (1, iv p1), (2, iv p2), (28, .bool (bif (bif (bif (decide ((ln p0) > 12)) then (decide ((ln p0) ≤ 200)) else false) then true else (decide ((ln p0) > 205))) then true else (!y5)))] hF (ocons (show Ob.ok _ Ext _ _ from fun hk w2 hd => law03_few_ok F p0 12 _ ((fun hk => gd_some hy5 hk) hk) _ w2 (memOf_at w2) (hA4.mono Rp43.mono (FrzAt.le_mem ((hS.later hd).frz (i := 0) rfl hlow)))) onil) fun a w hF hx => ?_
 replace hS := hS.later hx
 refine wfn rfl ?_
 refine econd hF rfl (fun hc => ?_) (fun hc => ?_)
 ·replace h := bif_t h hc
  refine esr ?_
  refine rx 2 [.call [] 19 #[] (.bool law03_works)] 2 [(6, .bool law03_works)] hF (ocons (show Ob.ok _ Ext _ _ from fun hk w2 hd => law03_works_ok  _ rfl _ w2 (memOf_at w2) ) onil) fun a w hF hx => ?_
  replace hS := hS.later hx
  refine wfn rfl ?_
  refine wpIn_ret (ret_then <| fn_ret [.tmp 6] [.bool law03_works] hF rfl ⟨rfl, trivial⟩ ?_)
  have hr_ := Option.some.inj h
  subst hr_
  exact ⟨rfl, hS.ext⟩
 ·replace h := bif_f h hc
  refine wpIn_skip (norm_then ?_)
  refine esr ?_
  refine rn 3 3 [(0, sv ad1 p0 cap2), (1, iv p1), (2, iv p2), (31, sv ad1 p0 cap2), (32, iv p1), (33, iv p2)] hF fun a hF => ?_
  replace h := bindS h
  obtain ⟨y7, hy7, h⟩ := h
  refine SK.wi (callK (f := 24) (args := #[sv ad1 p0 cap2, iv p1, iv p2]) (R := fun v w2 => ∃ ν8 ad10 cap11 css12, μ.ext w.heap.size ν8 ∧ v = .tuple #[sv ad10 y7.1 cap11, iv y7.2] ∧ All2 (Rp43 ν8) css12 y7.1 ∧ St w [frzR w.heap.size ν8, arr 43 1 (fN 1) ad10 y7.1.length cap11 css12] w2) (fun v6 => [(0, sv ad1 p0 cap2), (1, iv p1), (2, iv p2), (34, v6)]) hF (by kernel_rfl) ⟨by kernel_rfl⟩ (Calls.mono (fold_Ray_ok F p0 p1 p2 _ hy7 μ w (hS.frz (i := 0) rfl hlow) hA4) (by rintro e w2 ⟨ν8, ad10, cap11, css12, hx9, rfl, hq13, h⟩; exact ⟨_, rfl, ν8, ad10, cap11, css12, hx9, rfl, hq13, h⟩)) (fun _ => ⟨by kernel_rfl⟩) ?_)
  rintro v6 w a ⟨ν8, ad10, cap11, css12, hx9, rfl, hq13, hQ⟩ hF
  replace hext := Frz.ext_trans hext (Frz.ext_mono hx9 hS.ext.size)
  obtain ⟨hlow, hS⟩ := hS.frzMerge (i := 0) rfl hlow hx9 hQ
  replace hA4 := hA4.mono Rp43.mono hx9.1
  replace hS : St w0 [arr 43 1 (fN 1) ad10 y7.1.length cap11 css12, fz w0 ν8] w := hS
  refine rn 5 9 [(0, sv ad1 p0 cap2), (1, iv p1), (2, iv p2), (7, sv ad10 y7.1 cap11), (8, iv y7.2)] hF fun a hF => ?_
  refine wfn rfl ?_
  refine esr ?_
  refine rn 3 3 [(7, sv ad10 y7.1 cap11), (8, iv y7.2), (38, sv ad1 p0 cap2), (39, iv p1), (40, iv p2)] hF fun a hF => ?_
  replace h := bindS h
  obtain ⟨y15, hy15, h⟩ := h
  refine SK.wi (callK (f := 25) (args := #[sv ad1 p0 cap2, iv p1, iv p2]) (R := fun v w2 => ∃ ν16 ad18 cap19 css20, ν8.ext w.heap.size ν16 ∧ v = .tuple #[sv ad18 y15.1 cap19, iv y15.2] ∧ All2 (Rp43 ν16) css20 y15.1 ∧ St w [frzR w.heap.size ν16, arr 43 1 (fN 1) ad18 y15.1.length cap19 css20] w2) (fun v14 => [(7, sv ad10 y7.1 cap11), (8, iv y7.2), (41, v14)]) hF (by kernel_rfl) ⟨by kernel_rfl⟩ (Calls.mono (ref03_Ray_ok F p0 p1 p2 _ hy15 ν8 w (hS.frz (i := 1) rfl hlow) hA4) (by rintro e w2 ⟨ν16, ad18, cap19, css20, hx17, rfl, hq21, h⟩; exact ⟨_, rfl, ν16, ad18, cap19, css20, hx17, rfl, hq21, h⟩)) (fun _ => ⟨by kernel_rfl⟩) ?_)
  rintro v14 w a ⟨ν16, ad18, cap19, css20, hx17, rfl, hq21, hQ⟩ hF
  replace hext := Frz.ext_trans hext (Frz.ext_mono hx17 hS.ext.size)
  obtain ⟨hlow, hS⟩ := hS.frzMerge (i := 1) rfl hlow hx17 hQ
  replace hA4 := hA4.mono Rp43.mono hx17.1
  replace hq13 := All2.mono Rp43.mono hx17.1 hq13
  replace hS : St w0 [arr 43 1 (fN 1) ad18 y15.1.length cap19 css20, arr 43 1 (fN 1) ad10 y7.1.length cap11 css12, fz w0 ν16] w := hS
  refine rn 5 9 [(7, sv ad10 y7.1 cap11), (8, iv y7.2), (9, sv ad18 y15.1 cap19), (10, iv y15.2)] hF fun a hF => ?_
  refine wfn rfl ?_
  refine esr ?_
  replace h := bindS h
  obtain ⟨y22, hy22, h⟩ := h
  refine rx 12 [.call [] 26 #[sv ad10 y7.1 cap11, sv ad18 y15.1 cap19] (.bool y22), .call [⟨52, true, (bif y22 then (y7.2 == y15.2) else false)⟩] 19 #[] (.bool law03_works)] 12 [(6, .bool (bif (bif y22 then (y7.2 == y15.2) else false) then law03_works else false))] hF (ocons (show Ob.ok _ Ext _ _ from fun hk w2 hd => law03_sets_ok F y7.1 y15.1 _ ((fun _ => hy22) hk) _ w2 (memOf_at w2) (ArrQ.of_own ((hS.later hd).arr (i := 1) rfl) hq13 Rp43.mono (FrzAt.le_mem ((hS.later hd).frz (i := 2) rfl hlow))) (ArrQ.of_own ((hS.later hd).arr (i := 0) rfl) hq21 Rp43.mono (FrzAt.le_mem ((hS.later hd).frz (i := 2) rfl hlow)))) (ocons (show Ob.ok _ Ext _ _ from fun hk w2 hd => law03_works_ok  _ rfl _ w2 (memOf_at w2) ) onil)) fun a w hF hx => ?_
  replace hS := hS.later hx
  refine wfn rfl ?_
  refine wpIn_ret (fn_ret [.tmp 6] [.bool (bif (bif y22 then (y7.2 == y15.2) else false) then law03_works else false)] hF rfl ⟨rfl, trivial⟩ ?_)
  have hr_ := Option.some.inj h
  subst hr_
  exact ⟨rfl, hS.ext⟩
end Go.Proofs.Ytbhjgebjojdohaa
