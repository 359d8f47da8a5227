/- Walks, written by program (wip/gen/dec.py). -/
import Derived.Test.YtejffembnkojjaaC10XD
import Derived.Test.YtejffembnkojjaaProg
import Derived.Test.YtejffembnkojjaaC10XW0
import Derived.Test.YtejffembnkojjaaC10XW1
import Derived.Test.YtejffembnkojjaaC10XW2
import Derived.Test.YtejffembnkojjaaC10XW3
import Derived.Test.YtejffembnkojjaaC10XW4
import Derived.Test.YtejffembnkojjaaC10XW5
namespace Go.Proofs.Ytejffembnkojjaa
open Go Go.RowKit Go.Eng
set_option maxRecDepth 10000
set_option maxHeartbeats 4000000
set_option linter.unusedVariables false
set_option linter.unusedSimpArgs false
theorem plan_Judge_ok (F : Nat) (p0 : plan_Radar) (p1 : (List plan_Job)) (p2 : (List Int)) (res : ((List Int) × Int)) (h : plan_Judge F p0 p1 p2 = some res) (μ : Frz) (w0 : World) (hm : FrzAt μ w0) {ad1 : Option Addr} {cap2 : Nat} {ad4 : Option Addr} {cap5 : Nat} (hA3 : ArrM μ 8 plan_Job.cells ad1 cap2 p1) (hA6 : ArrM μ 1 fI ad4 cap5 p2) : Calls Try.prog 18 #[p0.ag, sv ad1 p1 cap2, sv ad4 p2 cap5] w0 (fun e w => ∃ (ν_ : Frz) (ad24 : Option Addr) (cap25 : Nat), μ.ext w0.heap.size ν_ ∧ e = .returned (.tuple #[sv ad24 res.1 cap25, iv res.2]) ∧ ArrM ν_ 1 fI ad24 cap25 res.1 ∧ St w0 [fz w0 ν_] w) := by
 obtain ⟨hlow, hS⟩ := hm.init
 have hext := Frz.ext_refl w0.heap.size μ
 rw [plan_Judge] at h
 refine fn_enterW Try.func18 rfl 21 [(0, p0.ag), (1, sv ad1 p1 cap2), (2, sv ad4 p2 cap5)] rfl rfl (by kernel_rfl) fun a w hw hF => ?_
 replace hS : St w0 [fz w0 μ] w := by rw [hw]; exact hS
 clear hw
 refine esr ?_
 refine SK.wi (boxK (t := 31) (fun b7 => [(1, sv ad1 p1 cap2), (2, sv ad4 p2 cap5), (3, pb b7)]) (p0.ag) p0.ar hF hS (by kernel_rfl) ⟨by kernel_rfl⟩ (by kernel_rfl) (fun _ => ⟨by kernel_rfl⟩) fun b7 w a hF hS => ?_)
 refine rn 2 3 [(1, sv ad1 p1 cap2), (2, sv ad4 p2 cap5), (3, pb b7)] hF fun a hF => ?_
 refine wfn rfl ?_
 refine esr ?_
 refine rno 3 [.run [] (Instr.loadAt 31 (pb b7)) (p0.ag)] 3 [(12, p0.ag), (13, sv ad1 p1 cap2), (14, sv ad4 p2 cap5)] hF (ocons (obN (us := p0.cells) (by kernel_rfl) (fun _ hd => ((hS.at_ hd).blk (i := 0) rfl).cells rfl)) onil) fun a hF => ?_
 replace h := bindS h
 obtain ⟨y9, hy9, h⟩ := h
 refine SK.wi (callK (f := 47) (args := #[p0.ag, sv ad1 p1 cap2, sv ad4 p2 cap5]) (R := fun v w2 => ∃ ν10 pv11 ad12 cap13 ad14 cap15 ad16 cap17, μ.ext w.heap.size ν10 ∧ v = .tuple #[.agg #[.pointer pv11, sv ad12 y9.1.jobs cap13, sv ad14 y9.1.at_ cap15, iv y9.1.done], sv ad16 y9.2.1 cap17, iv y9.2.2] ∧ PtM ν10 113 Rp113 pv11 y9.1.desk ∧ ArrM ν10 1 fI ad12 cap13 y9.1.jobs ∧ ArrM ν10 1 fI ad14 cap15 y9.1.at_ ∧ ArrM ν10 1 fI ad16 cap17 y9.2.1 ∧ St w [frzR w.heap.size ν10] w2) (fun v8 => [(15, v8)]) hF (by kernel_rfl) ⟨by kernel_rfl⟩ (Calls.mono (plan_judged_ok F p0 p1 p2 _ hy9 μ w (hS.frz (i := 1) rfl hlow) hA3 hA6) (by rintro e w2 ⟨ν10, pv11, ad12, cap13, ad14, cap15, ad16, cap17, hx22, rfl, hA18, hA19, hA20, hA21, h⟩; exact ⟨_, rfl, ν10, pv11, ad12, cap13, ad14, cap15, ad16, cap17, hx22, rfl, hA18, hA19, hA20, hA21, h⟩)) (fun _ => ⟨by kernel_rfl⟩) ?_)
 rintro v8 w a ⟨ν10, pv11, ad12, cap13, ad14, cap15, ad16, cap17, hx22, rfl, hA18, hA19, hA20, hA21, hQ⟩ hF
 replace hext := Frz.ext_trans hext (Frz.ext_mono hx22 hS.ext.size)
 obtain ⟨hlow, hS⟩ := hS.frzMerge (i := 1) rfl hlow hx22 hQ
 replace hA3 := hA3.mono hx22.1
 replace hA6 := hA6.mono hx22.1
 replace hS : St w0 [blk b7 31 p0.ar, fz w0 ν10] w := hS
 refine rn 4 8 [(16, .agg #[.pointer pv11, sv ad12 y9.1.jobs cap13, sv ad14 y9.1.at_ cap15, iv y9.1.done]), (17, sv ad16 y9.2.1 cap17), (18, iv y9.2.2)] hF fun a hF => ?_
 refine SK.wi (allocK (t := 102) (fun b23 => [(8, pb b23), (16, .agg #[.pointer pv11, sv ad12 y9.1.jobs cap13, sv ad14 y9.1.at_ cap15, iv y9.1.done]), (17, sv ad16 y9.2.1 cap17), (18, iv y9.2.2)]) #[.pointer none, .slice none 0 0, .slice none 0 0, iv 0] hF hS (by kernel_rfl) ⟨by kernel_rfl⟩ (by kernel_rfl) (fun _ => ⟨by kernel_rfl⟩) fun b23 w a hF hS => ?_)
 refine SK.wi (storeK (t := 102) [(17, sv ad16 y9.2.1 cap17), (18, iv y9.2.2)] 0 0 (.agg #[.pointer pv11, sv ad12 y9.1.jobs cap13, sv ad14 y9.1.at_ cap15, iv y9.1.done]) #[.pointer pv11, sv ad12 y9.1.jobs cap13, sv ad14 y9.1.at_ cap15, iv y9.1.done] hF hS rfl (by kernel_rfl) ⟨by kernel_rfl⟩ (by kernel_rfl) (by kernel_rfl) (by kernel_rfl) (by kernel_rfl) ⟨by kernel_rfl⟩ fun w a hF hS => ?_)
 refine rn 2 12 [(9, sv ad16 y9.2.1 cap17), (10, iv y9.2.2)] hF fun a hF => ?_
 refine wfn rfl ?_
 refine esr ?_
 refine rn 4 4 [(6, sv ad16 y9.2.1 cap17), (7, iv y9.2.2)] hF fun a hF => ?_
 refine wfn rfl ?_
 refine wpIn_ret (fn_ret [.tmp 6, .tmp 7] [sv ad16 y9.2.1 cap17, iv y9.2.2] hF rfl ⟨rfl, rfl, trivial⟩ ?_)
 have hr_ := Option.some.inj h
 subst hr_
 exact ⟨ν10, ad16, cap17, hext, rfl, hA21, St.pick [2] (by decide) hS⟩

theorem plan_Where_ok (F : Nat) (p0 : plan_Radar) (p1 : (List plan_Job)) (p2 : (List Int)) (p3 : Int) (res : (Int × Int × Int)) (h : plan_Where F p0 p1 p2 p3 = some res) (μ : Frz) (w0 : World) (hm : FrzAt μ w0) {ad1 : Option Addr} {cap2 : Nat} {ad4 : Option Addr} {cap5 : Nat} (hA3 : ArrM μ 8 plan_Job.cells ad1 cap2 p1) (hA6 : ArrM μ 1 fI ad4 cap5 p2) : Calls Try.prog 24 #[p0.ag, sv ad1 p1 cap2, sv ad4 p2 cap5, iv p3] w0 (fun e w => e = .returned (.tuple #[iv res.1, iv res.2.1, iv res.2.2]) ∧ Ext w0 w) := by
 obtain ⟨hlow, hS⟩ := hm.init
 have hext := Frz.ext_refl w0.heap.size μ
 rw [plan_Where] at h
 refine fn_enterW Try.func24 rfl 75 [(0, p0.ag), (1, sv ad1 p1 cap2), (2, sv ad4 p2 cap5), (3, iv p3)] rfl rfl (by kernel_rfl) fun a w hw hF => ?_
 replace hS : St w0 [fz w0 μ] w := by rw [hw]; exact hS
 clear hw
 refine esr ?_
 refine SK.wi (boxK (t := 31) (fun b7 => [(1, sv ad1 p1 cap2), (2, sv ad4 p2 cap5), (3, iv p3), (4, pb b7)]) (p0.ag) p0.ar hF hS (by kernel_rfl) ⟨by kernel_rfl⟩ (by kernel_rfl) (fun _ => ⟨by kernel_rfl⟩) fun b7 w a hF hS => ?_)
 refine rn 3 4 [(1, sv ad1 p1 cap2), (2, sv ad4 p2 cap5), (3, iv p3), (4, pb b7)] hF fun a hF => ?_
 refine wfn rfl ?_
 refine esr ?_
 refine rno 3 [.run [] (Instr.loadAt 31 (pb b7)) (p0.ag)] 3 [(3, iv p3), (4, pb b7), (17, p0.ag), (18, sv ad1 p1 cap2), (19, sv ad4 p2 cap5)] hF (ocons (obN (us := p0.cells) (by kernel_rfl) (fun _ hd => ((hS.at_ hd).blk (i := 0) rfl).cells rfl)) onil) fun a hF => ?_
 replace h := bindS h
 obtain ⟨y9, hy9, h⟩ := h
 refine SK.wi (callK (f := 47) (args := #[p0.ag, sv ad1 p1 cap2, sv ad4 p2 cap5]) (R := fun v w2 => ∃ ν10 pv11 ad12 cap13 ad14 cap15 ad16 cap17, μ.ext w.heap.size ν10 ∧ v = .tuple #[.agg #[.pointer pv11, sv ad12 y9.1.jobs cap13, sv ad14 y9.1.at_ cap15, iv y9.1.done], sv ad16 y9.2.1 cap17, iv y9.2.2] ∧ PtM ν10 113 Rp113 pv11 y9.1.desk ∧ ArrM ν10 1 fI ad12 cap13 y9.1.jobs ∧ ArrM ν10 1 fI ad14 cap15 y9.1.at_ ∧ ArrM ν10 1 fI ad16 cap17 y9.2.1 ∧ St w [frzR w.heap.size ν10] w2) (fun v8 => [(3, iv p3), (4, pb b7), (20, v8)]) hF (by kernel_rfl) ⟨by kernel_rfl⟩ (Calls.mono (plan_judged_ok F p0 p1 p2 _ hy9 μ w (hS.frz (i := 1) rfl hlow) hA3 hA6) (by rintro e w2 ⟨ν10, pv11, ad12, cap13, ad14, cap15, ad16, cap17, hx22, rfl, hA18, hA19, hA20, hA21, h⟩; exact ⟨_, rfl, ν10, pv11, ad12, cap13, ad14, cap15, ad16, cap17, hx22, rfl, hA18, hA19, hA20, hA21, h⟩)) (fun _ => ⟨by kernel_rfl⟩) ?_)
 rintro v8 w a ⟨ν10, pv11, ad12, cap13, ad14, cap15, ad16, cap17, hx22, rfl, hA18, hA19, hA20, hA21, hQ⟩ hF
 replace hext := Frz.ext_trans hext (Frz.ext_mono hx22 hS.ext.size)
 obtain ⟨hlow, hS⟩ := hS.frzMerge (i := 1) rfl hlow hx22 hQ
 replace hA3 := hA3.mono hx22.1
 replace hA6 := hA6.mono hx22.1
 replace hS : St w0 [blk b7 31 p0.ar, fz w0 ν10] w := hS
 refine rn 4 8 [(3, iv p3), (4, pb b7), (21, .agg #[.pointer pv11, sv ad12 y9.1.jobs cap13, sv ad14 y9.1.at_ cap15, iv y9.1.done]), (22, sv ad16 y9.2.1 cap17), (23, iv y9.2.2)] hF fun a hF => ?_
 refine SK.wi (allocK (t := 102) (fun b23 => [(3, iv p3), (4, pb b7), (11, pb b23), (21, .agg #[.pointer pv11, sv ad12 y9.1.jobs cap13, sv ad14 y9.1.at_ cap15, iv y9.1.done]), (22, sv ad16 y9.2.1 cap17), (23, iv y9.2.2)]) #[.pointer none, .slice none 0 0, .slice none 0 0, iv 0] hF hS (by kernel_rfl) ⟨by kernel_rfl⟩ (by kernel_rfl) (fun _ => ⟨by kernel_rfl⟩) fun b23 w a hF hS => ?_)
 refine SK.wi (storeK (t := 102) [(3, iv p3), (4, pb b7), (11, pb b23), (22, sv ad16 y9.2.1 cap17), (23, iv y9.2.2)] 0 0 (.agg #[.pointer pv11, sv ad12 y9.1.jobs cap13, sv ad14 y9.1.at_ cap15, iv y9.1.done]) #[.pointer pv11, sv ad12 y9.1.jobs cap13, sv ad14 y9.1.at_ cap15, iv y9.1.done] hF hS rfl (by kernel_rfl) ⟨by kernel_rfl⟩ (by kernel_rfl) (by kernel_rfl) (by kernel_rfl) (by kernel_rfl) ⟨by kernel_rfl⟩ fun w a hF hS => ?_)
 refine rn 2 12 [(3, iv p3), (4, pb b7), (10, iv y9.2.2), (11, pb b23)] hF fun a hF => ?_
 refine wfn rfl ?_
 refine eseq ?_
 refine esr ?_
 refine rn 2 2 [(3, iv p3), (4, pb b7), (10, iv y9.2.2), (11, pb b23), (25, .bool (y9.2.2 != 0))] hF fun a hF => ?_
 refine wfn rfl ?_
 refine econd hF rfl (fun hc => ?_) (fun hc => ?_)
 ·replace h := bif_t h hc
  refine esr ?_
  refine rn 4 4 [(8, iv 0), (9, iv 0), (10, iv y9.2.2)] hF fun a hF => ?_
  refine wfn rfl ?_
  refine wpIn_ret (ret_then <| fn_ret [.tmp 8, .tmp 9, .tmp 10] [iv 0, iv 0, iv y9.2.2] hF rfl ⟨rfl, rfl, rfl, trivial⟩ ?_)
  have hr_ := Option.some.inj h
  subst hr_
  exact ⟨rfl, hS.ext⟩
 ·replace h := bif_f h hc
  refine wpIn_skip (norm_then ?_)
  refine eseq ?_
  refine esr ?_
  refine rx 3 [.call [] 50 #[iv p3, iv 0, iv 4294967296] (.bool (plan_in p3 0 4294967296))] 3 [(3, iv p3), (4, pb b7), (11, pb b23), (29, .bool (!(plan_in p3 0 4294967296)))] hF (ocons (show Ob.ok _ Ext _ _ from fun hk w2 hd => plan_in_ok p3 0 4294967296 _ rfl _ w2 (memOf_at w2) ) onil) fun a w hF hx => ?_
  replace hS := hS.later hx
  refine wfn rfl ?_
  refine econd hF rfl (fun hc => ?_) (fun hc => ?_)
  ·replace h := bif_t h hc
   refine esr ?_
   refine rn 3 3 [(8, iv 0), (9, iv 0), (10, iv 3)] hF fun a hF => ?_
   refine wfn rfl ?_
   refine wpIn_ret (ret_then <| fn_ret [.tmp 8, .tmp 9, .tmp 10] [iv 0, iv 0, iv 3] hF rfl ⟨rfl, rfl, rfl, trivial⟩ ?_)
   have hr_ := Option.some.inj h
   subst hr_
   exact ⟨rfl, hS.ext⟩
  ·replace h := bif_f h hc
   refine wpIn_skip (norm_then ?_)
   refine esr ?_
   replace h := bindS h
   obtain ⟨y24, hy24, h⟩ := h
   replace h := bindS h
   obtain ⟨x25, hx25, h⟩ := h
   refine rx 5 [.run [] (Instr.loadAt 102 (pb b23)) (.agg #[.pointer pv11, sv ad12 y9.1.jobs cap13, sv ad14 y9.1.at_ cap15, iv y9.1.done]), .call [] 53 #[.agg #[.pointer pv11, sv ad12 y9.1.jobs cap13, sv ad14 y9.1.at_ cap15, iv y9.1.done]] (iv y24), .run [] (binOp .rem 3 (iv p3) (iv y24)) (iv x25)] 5 [(3, iv x25), (4, pb b7), (11, pb b23)] hF (ocons (obN (us := [.pointer pv11, sv ad12 y9.1.jobs cap13, sv ad14 y9.1.at_ cap15, iv y9.1.done]) (by kernel_rfl) (fun _ hd => ((hS.later hd).blk (i := 0) rfl).cells rfl)) (ocons (show Ob.ok _ Ext _ _ from fun hk w2 hd => plan_line_all_ok F (plan_line.mk y9.1.desk y9.1.jobs y9.1.at_ y9.1.done) _ ((fun _ => hy24) hk) _ w2 (memOf_at w2) (hA18.mono Rp113.mono (FrzAt.le_mem ((hS.later hd).frz (i := 2) rfl hlow))) (hA19.mono (FrzAt.le_mem ((hS.later hd).frz (i := 2) rfl hlow))) (hA20.mono (FrzAt.le_mem ((hS.later hd).frz (i := 2) rfl hlow)))) (ocons (obRemC (fun _ => hx25)) onil))) fun a w hF hx => ?_
   replace hS := hS.later hx
   refine wfn rfl ?_
   refine esr ?_
   replace h := bindS h
   obtain ⟨y26, hy26, h⟩ := h
   refine rx 9 [.run [] (Instr.loadAt 40 (.pointer (some ⟨b23, 2, none⟩))) (sv ad14 y9.1.at_ cap15), .call [] 54 #[sv ad14 y9.1.at_ cap15, iv x25] (.tuple #[iv y26.1, .bool y26.2])] 9 [(3, iv x25), (4, pb b7), (8, iv y26.1), (11, pb b23), (13, .bool y26.2)] hF (ocons (ob1 (by kernel_rfl) (fun _ hd => (hS.later hd).cell (i := 0) (j := 2) rfl rfl)) (ocons (show Ob.ok _ Ext _ _ from fun hk w2 hd => slices_BinarySearch_int_int_ok F y9.1.at_ x25 _ ((fun _ => hy26) hk) _ w2 (memOf_at w2) (hA20.mono (FrzAt.le_mem ((hS.later hd).frz (i := 2) rfl hlow)))) onil)) fun a w hF hx => ?_
   replace hS := hS.later hx
   refine wfn rfl ?_
   refine ecut (fun a w => ∃ (x28 : Int), Fr 75 [] [(3, iv x25), (4, pb b7), (8, iv x28), (11, pb b23)] a ∧ St w0 [blk b23 102 #[.pointer pv11, sv ad12 y9.1.jobs cap13, sv ad14 y9.1.at_ cap15, iv y9.1.done], blk b7 31 p0.ar, fz w0 ν10] w ∧ plan_Where_K1 p0 y9 x25 x28 = some res) ?_ ?_
   ·skip
    refine esr ?_
    refine rn 2 2 [(3, iv x25), (4, pb b7), (8, iv y26.1), (11, pb b23), (42, .bool (!y26.2))] hF fun a hF => ?_
    refine wfn rfl ?_
    refine econd hF rfl (fun hc => ?_) (fun hc => ?_)
    ·replace h := bif_t h hc
     refine WI.region ?_
     replace h := bindS h
     obtain ⟨x52, hx52, h⟩ := h
     refine rno 3 [.run [] (binOp .sub 3 (iv y26.1) (iv 1)) (iv x52)] 3 [(3, iv x25), (4, pb b7), (8, iv x52), (11, pb b23)] hF (ocons (obSubC (fun _ => hx52)) onil) fun a hF => ?_
     refine wfn rfl ?_
     exact ⟨x52, hF.sub (by kernel_rfl), St.pick [0, 1, 2] (by decide) hS, h⟩
    ·replace h := bif_f h hc
     refine wpIn_skip (norm_then ?_)
     exact ⟨y26.1, hF.sub (by kernel_rfl), St.pick [0, 1, 2] (by decide) hS, h⟩
   rintro a w ⟨x28, hF, hS, h⟩
   rw [plan_Where_K1] at h
   refine eseq ?_
   replace h := bindS h
   obtain ⟨u29, hu29, h⟩ := h
   replace h := bindS h
   obtain ⟨x30, hx30, h⟩ := h
   replace h := bindS h
   obtain ⟨d31, hd31, h⟩ := h
   obtain ⟨b32, cs33, hp34, hB35, hR36⟩ := PtM.some hA18 hd31
   obtain ⟨ad37, cap38, ad39, cap40, ad41, cap42, css43, rfl, hA44, hA45, hA46⟩ := hR36
   try rw [hp34] at hF
   try rw [hp34] at hS
   try rw [hp34] at hB35
   replace h := bindS h
   obtain ⟨u47, hu47, h⟩ := h
   replace h := bindS h
   obtain ⟨u48, hu48, h⟩ := h
   refine runD (obs := [.run [] (Instr.loadAt 40 (.pointer (some ⟨b23, 2, none⟩))) (sv ad14 y9.1.at_ cap15), .run [] (Instr.indexAt 40 (sv ad14 y9.1.at_ cap15) (iv x28)) (.pointer (some (slAddr ad14 x28 1))), .run [] (Instr.loadAt 3 (.pointer (some (slAddr ad14 x28 1)))) (iv u29), .run [] (binOp .sub 3 (iv x25) (iv u29)) (iv x30), .run [] (Instr.loadAt 100 (pb b23)) (pb b32), .run [] (Instr.loadAt 40 (.pointer (some ⟨b32, 1, none⟩))) (sv ad39 d31.takes cap40), .run [] (Instr.loadAt 40 (.pointer (some ⟨b23, 1, none⟩))) (sv ad12 y9.1.jobs cap13), .run [] (Instr.indexAt 40 (sv ad12 y9.1.jobs cap13) (iv x28)) (.pointer (some (slAddr ad12 x28 1))), .run [] (Instr.loadAt 3 (.pointer (some (slAddr ad12 x28 1)))) (iv u47), .run [] (Instr.indexAt 40 (sv ad39 d31.takes cap40) (iv u47)) (.pointer (some (slAddr ad39 u47 1))), .run [] (Instr.loadAt 3 (.pointer (some (slAddr ad39 u47 1)))) (iv u48)]) 21 [(4, pb b7), (8, iv x28), (14, iv x30), (15, iv u48)] (by kernel_rfl) hF (by kernel_rfl) (ocons (ob1 (by kernel_rfl) (fun _ hd => (hS.later hd).cell (i := 0) (j := 2) rfl rfl)) (ocons (obIdxQ (hA20 _ (hS.frz (i := 2) rfl hlow)) (by kernel_rfl) (fun _ => hu29)) (ocons (obElQ (i := x28) 0 fI_len (fun _ hd => (hA20 _ ((hS.later hd).frz (i := 2) rfl hlow))) (by kernel_rfl) (fun _ => hu29) rfl) (ocons (obSubC (fun _ => hx30)) (ocons (ob1 (by kernel_rfl) (fun _ hd => (hS.later hd).cell (i := 0) (j := 0) rfl rfl)) (ocons (ob1 (by kernel_rfl) (fun _ hd => (hB35.blk ((hS.later hd).frz (i := 2) rfl hlow)).cell1 (j := 1) rfl)) (ocons (ob1 (by kernel_rfl) (fun _ hd => (hS.later hd).cell (i := 0) (j := 1) rfl rfl)) (ocons (obIdxQ (hA19 _ (hS.frz (i := 2) rfl hlow)) (by kernel_rfl) (fun _ => hu47)) (ocons (obElQ (i := x28) 0 fI_len (fun _ hd => (hA19 _ ((hS.later hd).frz (i := 2) rfl hlow))) (by kernel_rfl) (fun _ => hu47) rfl) (ocons (obIdxQ (hA45 _ (hS.frz (i := 2) rfl hlow)) (by kernel_rfl) (fun _ => hu48)) (ocons (obElQ (i := u47) 0 fI_len (fun _ hd => (hA45 _ ((hS.later hd).frz (i := 2) rfl hlow))) (by kernel_rfl) (fun _ => hu48) rfl) onil))))))))))) ⟨by kernel_rfl⟩ fun a w hF hx => ?_
   replace hS := hS.later hx
   refine wfn rfl ?_
   refine eseq ?_
   refine esr ?_
   refine rn 3 3 [(4, pb b7), (8, iv x28), (14, iv x30), (15, iv u48), (66, .bool (decide (x30 ≥ u48)))] hF fun a hF => ?_
   refine wfn rfl ?_
   refine econd hF rfl (fun hc => ?_) (fun hc => ?_)
   ·replace h := bif_t h hc
    refine esr ?_
    refine rn 4 4 [(8, iv x28), (9, iv (-1)), (10, iv 0)] hF fun a hF => ?_
    refine wfn rfl ?_
    refine wpIn_ret (ret_then <| fn_ret [.tmp 8, .tmp 9, .tmp 10] [iv x28, iv (-1), iv 0] hF rfl ⟨rfl, rfl, rfl, trivial⟩ ?_)
    have hr_ := Option.some.inj h
    subst hr_
    exact ⟨rfl, hS.ext⟩
   ·replace h := bif_f h hc
    refine wpIn_skip (norm_then ?_)
    refine eseq ?_
    replace h := bindS h
    obtain ⟨x49, hx49, h⟩ := h
    replace h := bindS h
    obtain ⟨x50, hx50, h⟩ := h
    refine runD (obs := [.run [] (Instr.loadAt 3 (pb b7)) (iv p0.Rays), .run [] (binOp .mul 3 (iv x30) (iv p0.Rays)) (iv x49), .run [] (binOp .quo 3 (iv x49) (iv u48)) (iv x50)]) 10 [(8, iv x28), (9, iv x50), (10, iv 0)] (by kernel_rfl) hF (by kernel_rfl) (ocons (ob1 (by kernel_rfl) (fun _ hd => (hS.later hd).cell (i := 1) (j := 0) rfl rfl)) (ocons (obMulC (fun _ => hx49)) (ocons (obQuoC (fun _ => hx50)) onil))) ⟨by kernel_rfl⟩ fun a w hF hx => ?_
    replace hS := hS.later hx
    refine wfn rfl ?_
    refine wpIn_ret (fn_ret [.tmp 8, .tmp 9, .tmp 10] [iv x28, iv x50, iv 0] hF rfl ⟨rfl, rfl, rfl, trivial⟩ ?_)
    have hr_ := Option.some.inj h
    subst hr_
    exact ⟨rfl, hS.ext⟩

theorem plan_line_first_ok (F : Nat) (p0 : plan_line) (res : (Int × Bool)) (h : plan_line_first F p0 = some res) (μ : Frz) (w0 : World) (hm : FrzAt μ w0) {pv1 : Option Addr} {ad2 : Option Addr} {cap3 : Nat} {ad4 : Option Addr} {cap5 : Nat} (hA6 : PtM μ 113 Rp113 pv1 p0.desk) (hA7 : ArrM μ 1 fI ad2 cap3 p0.jobs) (hA8 : ArrM μ 1 fI ad4 cap5 p0.at_) : Calls Try.prog 86 #[.agg #[.pointer pv1, sv ad2 p0.jobs cap3, sv ad4 p0.at_ cap5, iv p0.done]] w0 (fun e w => e = .returned (.tuple #[iv res.1, .bool res.2]) ∧ Ext w0 w) := by
 obtain ⟨hlow, hS⟩ := hm.init
 have hext := Frz.ext_refl w0.heap.size μ
 rw [plan_line_first] at h
 refine fn_enterW Try.func86 rfl 19 [(0, .agg #[.pointer pv1, sv ad2 p0.jobs cap3, sv ad4 p0.at_ cap5, iv p0.done])] rfl rfl (by kernel_rfl) fun a w hw hF => ?_
 replace hS : St w0 [fz w0 μ] w := by rw [hw]; exact hS
 clear hw
 refine esr ?_
 refine SK.wi (boxK (t := 102) (fun b9 => [(1, pb b9)]) (.agg #[.pointer pv1, sv ad2 p0.jobs cap3, sv ad4 p0.at_ cap5, iv p0.done]) #[.pointer pv1, sv ad2 p0.jobs cap3, sv ad4 p0.at_ cap5, iv p0.done] hF hS (by kernel_rfl) ⟨by kernel_rfl⟩ (by kernel_rfl) (fun _ => ⟨by kernel_rfl⟩) fun b9 w a hF hS => ?_)
 refine rn 2 3 [(1, pb b9)] hF fun a hF => ?_
 refine wfn rfl ?_
 refine ecut (fun a w => Fr 19 [] [] a ∧ St w0 [blk b9 102 #[.pointer pv1, sv ad2 p0.jobs cap3, sv ad4 p0.at_ cap5, iv p0.done], fz w0 μ] w ∧ plan_line_first_K1 = some res) ?_ ?_
 ·skip
  refine esr ?_
  replace h := bindS h
  obtain ⟨d36, hd36, h⟩ := h
  obtain ⟨b37, cs38, hp39, hB40, hR41⟩ := PtM.some hA6 hd36
  obtain ⟨ad42, cap43, ad44, cap45, ad46, cap47, css48, rfl, hA49, hA50, hA51⟩ := hR41
  try rw [hp39] at hF
  try rw [hp39] at hS
  try rw [hp39] at hB40
  refine rno 7 [.run [] (Instr.loadAt 100 (pb b9)) (pb b37), .run [] (Instr.loadAt 40 (.pointer (some ⟨b37, 1, none⟩))) (sv ad44 d36.takes cap45)] 7 [(1, pb b9), (10, iv (ln d36.takes)), (11, iv 0)] hF (ocons (ob1 (by kernel_rfl) (fun _ hd => (hS.at_ hd).cell (i := 0) (j := 0) rfl rfl)) (ocons (ob1 (by kernel_rfl) (fun _ hd => (hB40.blk ((hS.at_ hd).frz (i := 1) rfl hlow)).cell1 (j := 1) rfl)) onil)) fun a hF => ?_
  refine wfn rfl ?_
  refine wpIn_block ?_
  refine eloop (fun n_ a w => ∃ (x57 : Int), Fr 19 [] [(1, pb b9), (10, iv (ln d36.takes)), (11, iv x57)] a ∧ St w0 [blk b9 102 #[pb b37, sv ad2 p0.jobs cap3, sv ad4 p0.at_ cap5, iv p0.done], fz w0 μ] w ∧ plan_line_first_L2 F p0 d36 n_ x57 = some res) F ⟨0, hF.sub (by kernel_rfl), St.pick [0, 1] (by decide) hS, h⟩ ?_
  rintro n_ a w ⟨x57, hF, hS, h⟩
  rcases n_ with _ | n_
  ·cases (show (none : Option (Int × Bool)) = some res from h)
  obtain ⟨k2, hk2⟩ : ∃ k, k = plan_line_first_L2 F p0 d36 n_ := ⟨_, rfl⟩
  replace h : plan_line_first_B2 F p0 d36 k2 x57 = some res := by rw [hk2]; exact h
  rw [plan_line_first_B2] at h
  refine esr ?_
  refine rn 1 1 [(1, pb b9), (10, iv (ln d36.takes)), (11, iv x57), (12, .bool (decide (x57 < (ln d36.takes))))] hF fun a hF => ?_
  refine wfn rfl ?_
  refine eseq ?_
  refine econd hF rfl (fun hc => ?_) (fun hc => ?_)
  ·replace h := bif_t h hc
   refine wpIn_skip (norm_then ?_)
   refine eseq ?_
   refine wpIn_block ?_
   refine esr ?_
   refine rn 2 2 [(1, pb b9), (4, iv x57), (10, iv (ln d36.takes)), (11, iv x57)] hF fun a hF => ?_
   refine wfn rfl ?_
   refine esr ?_
   replace h := bindS h
   obtain ⟨y59, hy59, h⟩ := h
   refine rx 3 [.run [] (Instr.loadAt 102 (pb b9)) (.agg #[pb b37, sv ad2 p0.jobs cap3, sv ad4 p0.at_ cap5, iv p0.done]), .call [] 90 #[.agg #[pb b37, sv ad2 p0.jobs cap3, sv ad4 p0.at_ cap5, iv p0.done], iv x57] (.bool y59)] 3 [(1, pb b9), (4, iv x57), (10, iv (ln d36.takes)), (11, iv x57), (16, .bool y59)] hF (ocons (obN (us := [pb b37, sv ad2 p0.jobs cap3, sv ad4 p0.at_ cap5, iv p0.done]) (by kernel_rfl) (fun _ hd => ((hS.later hd).blk (i := 0) rfl).cells rfl)) (ocons (show Ob.ok _ Ext _ _ from fun hk w2 hd => plan_line_late_ok F (plan_line.mk (some d36) p0.jobs p0.at_ p0.done) x57 _ ((fun _ => hy59) hk) _ w2 (memOf_at w2) (PtM.mk (cs := [sv ad42 d36.jobs cap43, sv ad44 d36.takes cap45, sv ad46 d36.moves cap47]) (hB40.mono (FrzAt.le_mem ((hS.later hd).frz (i := 1) rfl hlow))) ⟨ad42, cap43, ad44, cap45, ad46, cap47, css48, rfl, (hA49.mono (FrzAt.le_mem ((hS.later hd).frz (i := 1) rfl hlow))), (hA50.mono (FrzAt.le_mem ((hS.later hd).frz (i := 1) rfl hlow))), (hA51.mono Rp40.mono (FrzAt.le_mem ((hS.later hd).frz (i := 1) rfl hlow)))⟩) (hA7.mono (FrzAt.le_mem ((hS.later hd).frz (i := 1) rfl hlow))) (hA8.mono (FrzAt.le_mem ((hS.later hd).frz (i := 1) rfl hlow)))) onil)) fun a w hF hx => ?_
   replace hS := hS.later hx
   refine wfn rfl ?_
   refine econd hF rfl (fun hc => ?_) (fun hc => ?_)
   ·replace h := bif_t h hc
    refine esr ?_
    refine rn 3 3 [(2, iv x57), (3, .bool true)] hF fun a hF => ?_
    refine wfn rfl ?_
    refine wpIn_ret (ret_block <| ret_then <| ret_then <| ret_block <| ret_then <| fn_ret [.tmp 2, .tmp 3] [iv x57, .bool true] hF rfl ⟨rfl, rfl, trivial⟩ ?_)
    have hr_ := Option.some.inj h
    subst hr_
    exact ⟨rfl, hS.ext⟩
   ·replace h := bif_f h hc
    refine wpIn_skip (norm_block <| norm_then <| ?_)
    refine WI.region ?_
    replace h := bindS h
    obtain ⟨x60, hx60, h⟩ := h
    refine rno 2 [.run [] (binOp .add 3 (iv x57) (iv 1)) (iv x60)] 2 [(1, pb b9), (10, iv (ln d36.takes)), (11, iv x60)] hF (ocons (obAddC (fun _ => hx60)) onil) fun a hF => ?_
    refine wfn rfl ?_
    rw [hk2] at h
    exact ⟨n_, Nat.lt_succ_self _, x60, hF.sub (by kernel_rfl), St.pick [0, 1] (by decide) hS, h⟩
  ·replace h := bif_f h hc
   refine wpIn_exit (exit_then <| exit_then <| exit_hit <| norm_then ?_)
   try simp only [pb, ← hp39] at hF
   try simp only [pb, ← hp39] at hS
   exact ⟨hF.sub (by kernel_rfl), St.pick [0, 1] (by decide) hS, h⟩
 rintro a w ⟨hF, hS, h⟩
 rw [plan_line_first_K1] at h
 refine esr ?_
 refine rn 2 2 [(2, iv 0), (3, .bool false)] hF fun a hF => ?_
 refine wfn rfl ?_
 refine wpIn_ret (fn_ret [.tmp 2, .tmp 3] [iv 0, .bool false] hF rfl ⟨rfl, rfl, trivial⟩ ?_)
 have hr_ := Option.some.inj h
 subst hr_
 exact ⟨rfl, hS.ext⟩

theorem plan_Verify_ok (F : Nat) (p0 : plan_Radar) (p1 : (List plan_Job)) (p2 : (List plan_Cut)) (res : Int) (h : plan_Verify F p0 p1 p2 = some res) (μ : Frz) (w0 : World) (hm : FrzAt μ w0) {ad1 : Option Addr} {cap2 : Nat} {ad4 : Option Addr} {cap5 : Nat} {css6 : List (List Value)} (hA3 : ArrM μ 8 plan_Job.cells ad1 cap2 p1) (hA7 : ArrQ μ 2 Rp65 ad4 cap5 css6 p2) : Calls Try.prog 31 #[p0.ag, sv ad1 p1 cap2, sv ad4 p2 cap5] w0 (fun e w => e = .returned (iv res) ∧ Ext w0 w) := by
 obtain ⟨hlow, hS⟩ := hm.init
 have hext := Frz.ext_refl w0.heap.size μ
 rw [plan_Verify] at h
 refine fn_enterD Try.func31 rfl 28 [(0, p0.ag), (1, sv ad1 p1 cap2), (2, sv ad4 p2 cap5)] rfl rfl (by kernel_rfl) fun a w hw hF => ?_
 replace hS : St w0 [fz w0 μ] w := by rw [hw]; exact hS
 clear hw
 refine esr ?_
 refine SK.wi (boxK (t := 31) (fun b8 => [(1, sv ad1 p1 cap2), (2, sv ad4 p2 cap5), (3, pb b8)]) (p0.ag) p0.ar hF hS (by kernel_rfl) ⟨by kernel_rfl⟩ (by kernel_rfl) (fun _ => ⟨by kernel_rfl⟩) fun b8 w a hF hS => ?_)
 refine SK.wi (allocK (t := 28) (fun b9 => [(1, sv ad1 p1 cap2), (2, sv ad4 p2 cap5), (3, pb b8), (6, pb b9)]) #[iv 0] hF hS (by kernel_rfl) ⟨by kernel_rfl⟩ (by kernel_rfl) (fun _ => ⟨by kernel_rfl⟩) fun b9 w a hF hS => ?_)
 refine wfn rfl ?_
 refine eseq ?_
 refine esr ?_
 replace h := bindS h
 obtain ⟨y10, hy10, h⟩ := h
 refine rx 4 [.run [] (Instr.loadAt 31 (pb b8)) (p0.ag), .call [] 22 #[p0.ag, sv ad1 p1 cap2] (iv y10)] 4 [(1, sv ad1 p1 cap2), (2, sv ad4 p2 cap5), (3, pb b8), (6, pb b9), (7, iv y10)] hF (ocons (obN (us := p0.cells) (by kernel_rfl) (fun _ hd => ((hS.later hd).blk (i := 1) rfl).cells rfl)) (ocons (show Ob.ok _ Ext _ _ from fun hk w2 hd => plan_Check_ok F p0 p1 _ ((fun _ => hy10) hk) _ w2 (memOf_at w2) (hA3.mono (FrzAt.le_mem ((hS.later hd).frz (i := 2) rfl hlow)))) onil)) fun a w hF hx => ?_
 replace hS := hS.later hx
 refine wfn rfl ?_
 refine esr ?_
 refine rn 2 2 [(1, sv ad1 p1 cap2), (2, sv ad4 p2 cap5), (3, pb b8), (6, pb b9), (7, iv y10), (13, .bool (y10 != 0))] hF fun a hF => ?_
 refine wfn rfl ?_
 refine econd hF rfl (fun hc => ?_) (fun hc => ?_)
 ·replace h := bif_t h hc
  refine esr ?_
  refine rn 1 1 [(6, pb b9), (14, iv y10)] hF fun a hF => ?_
  refine SK.wi (storeK (t := 28) [(6, pb b9)] 0 0 (iv y10) #[iv y10] hF hS rfl (by kernel_rfl) ⟨by kernel_rfl⟩ (by kernel_rfl) (by kernel_rfl) (by kernel_rfl) (by kernel_rfl) ⟨by kernel_rfl⟩ fun w a hF hS => ?_)
  refine wfn rfl ?_
  refine wpIn_ret (ret_then <| fn_retD0 [.cell 6 28] [iv y10] hF rfl ⟨⟨_, rfl, loadVar1 (by kernel_rfl) (hS.cell (i := 0) (j := 0) rfl rfl)⟩, trivial⟩ ?_)
  have hr_ := Option.some.inj h
  subst hr_
  exact ⟨rfl, hS.ext⟩
 ·replace h := bif_f h hc
  refine wpIn_skip (norm_then ?_)
  refine eseq ?_
  refine esr ?_
  refine rn 3 3 [(1, sv ad1 p1 cap2), (2, sv ad4 p2 cap5), (3, pb b8), (6, pb b9), (17, .bool (decide ((ln p2) > 5000)))] hF fun a hF => ?_
  refine wfn rfl ?_
  refine econd hF rfl (fun hc => ?_) (fun hc => ?_)
  ·replace h := bif_t h hc
   refine esr ?_
   refine SK.wi (storeK (t := 28) [(6, pb b9)] 0 0 (iv 9) #[iv 9] hF hS rfl (by kernel_rfl) ⟨by kernel_rfl⟩ (by kernel_rfl) (by kernel_rfl) (by kernel_rfl) (by kernel_rfl) ⟨by kernel_rfl⟩ fun w a hF hS => ?_)
   refine wfn rfl ?_
   refine wpIn_ret (ret_then <| fn_retD0 [.cell 6 28] [iv 9] hF rfl ⟨⟨_, rfl, loadVar1 (by kernel_rfl) (hS.cell (i := 0) (j := 0) rfl rfl)⟩, trivial⟩ ?_)
   have hr_ := Option.some.inj h
   subst hr_
   exact ⟨rfl, hS.ext⟩
  ·replace h := bif_f h hc
   refine wpIn_skip (norm_then ?_)
   refine esr ?_
   refine rn 1 1 [(1, sv ad1 p1 cap2), (2, sv ad4 p2 cap5), (3, pb b8), (6, pb b9), (18, .func (.func 64) #[] #[pb b9])] hF fun a hF => ?_
   refine defer_ 2 ⟨.fn (.func 64) #[pb b9], #[]⟩ [(1, sv ad1 p1 cap2), (2, sv ad4 p2 cap5), (3, pb b8), (6, pb b9)] hF (by kernel_rfl) ⟨by kernel_rfl⟩ ⟨by kernel_rfl⟩ rfl fun a hF => ?_
   refine wfn rfl ?_
   refine eseq ?_
   refine esr ?_
   refine rno 2 [.run [] (Instr.loadAt 31 (pb b8)) (p0.ag)] 2 [(2, sv ad4 p2 cap5), (6, pb b9), (19, p0.ag), (20, sv ad1 p1 cap2)] hF (ocons (obN (us := p0.cells) (by kernel_rfl) (fun _ hd => ((hS.at_ hd).blk (i := 1) rfl).cells rfl)) onil) fun a hF => ?_
   replace h := bindS h
   obtain ⟨y12, hy12, h⟩ := h
   refine SK.wi (callK (f := 56) (args := #[p0.ag, sv ad1 p1 cap2]) (R := fun v w2 => ∃ ν13 pv14, μ.ext w.heap.size ν13 ∧ v = .pointer pv14 ∧ PtM ν13 113 Rp113 pv14 y12 ∧ St w [frzR w.heap.size ν13] w2) (fun v11 => [(2, sv ad4 p2 cap5), (6, pb b9), (21, v11)]) hF (by kernel_rfl) ⟨by kernel_rfl⟩ (Calls.mono (plan_newDesk_ok F p0 p1 _ hy12 μ w (hS.frz (i := 2) rfl hlow) hA3) (by rintro e w2 ⟨ν13, pv14, hx16, rfl, hA15, h⟩; exact ⟨_, rfl, ν13, pv14, hx16, rfl, hA15, h⟩)) (fun _ => ⟨by kernel_rfl⟩) ?_)
   rintro v11 w a ⟨ν13, pv14, hx16, rfl, hA15, hQ⟩ hF
   replace hext := Frz.ext_trans hext (Frz.ext_mono hx16 hS.ext.size)
   obtain ⟨hlow, hS⟩ := hS.frzMerge (i := 2) rfl hlow hx16 hQ
   replace hA3 := hA3.mono hx16.1
   replace hA7 := hA7.mono Rp65.mono hx16.1
   replace hS : St w0 [blk b9 28 #[iv 0], blk b8 31 p0.ar, fz w0 ν13] w := hS
   refine rn 2 5 [(6, pb b9), (22, .agg #[.pointer pv14, .slice none 0 0, .slice none 0 0, iv 0]), (23, sv ad4 p2 cap5)] hF fun a hF => ?_
   replace h := bindS h
   obtain ⟨y18, hy18, h⟩ := h
   refine callP (f := 65) (args := #[.agg #[.pointer pv14, .slice none 0 0, .slice none 0 0, iv 0], sv ad4 p2 cap5]) (R := fun v w2 => ∃ y19, y18 = .ok y19 ∧ (fun v w2 => ∃ ν20 ad21 cap22 css23, ν13.ext w.heap.size ν20 ∧ v = sv ad21 y19 cap22 ∧ ArrQ ν20 2 Rp65 ad21 cap22 css23 y19 ∧ St w [frzR w.heap.size ν20] w2) v w2) (Rp := fun ch w2 => ∃ v_, y18 = .error v_ ∧ ch = [{ v := v_, recovered := false }] ∧ Ext w w2) (fun v17 => [(6, pb b9), (24, v17)]) hF (by kernel_rfl) ⟨by kernel_rfl⟩ (Calls.mono (plan_line_cover_ok F (plan_line.mk y12 ([] : (List Int)) ([] : (List Int)) 0) p2 _ hy18 ν13 w (hS.frz (i := 2) rfl hlow) hA15 ArrM.nil ArrM.nil hA7) (by rintro e w2 (⟨y19, he_, ν20, ad21, cap22, css23, hx25, rfl, hA24, hQ⟩ | ⟨v_, he_, rfl, hx_⟩); exact .inl ⟨_, rfl, y19, he_, ν20, ad21, cap22, css23, hx25, rfl, hA24, hQ⟩; exact .inr ⟨_, rfl, v_, he_, rfl, hx_⟩)) (fun _ => ⟨by kernel_rfl⟩) ?_ ?_
   ·rintro ch w ⟨v_, he_, rfl, hx⟩
    replace hS := hS.later hx
    replace h := excE h he_
    rcases Bool.eq_false_or_eq_true (isI 127 v_) with hg26 | hg26
    ·replace h := bif_t h hg26
     obtain rfl := isI_eq hg26
     refine panic_then <| panic_then <| fn_panicD1 [.cell 6 28] hF rfl (fun _ => by kernel_rfl) ?_
     refine CallsDIn.mono (plan_Verify_1_D1 0 (by simpa using St.pick [0, 1, 2] (by decide) hS)) ?_
     rintro e u_ w ⟨rfl, hu_, hS⟩
     replace hS : St w0 [blk b9 28 #[iv 20], blk b8 31 p0.ar, fz w0 ν13] w := hS
     refine ⟨_, rfl, hu_, [iv 20], ⟨⟨_, rfl, loadVar1 (by kernel_rfl) (hS.cell (i := 0) (j := 0) rfl rfl)⟩, trivial⟩, ?_⟩
     have hr_ := Option.some.inj h
     subst hr_
     exact ⟨rfl, hS.ext⟩
    ·replace h := bif_f h hg26
     cases h
   rintro v17 w a ⟨y19, he_, ν20, ad21, cap22, css23, hx25, rfl, hA24, hQ⟩ hF
   replace h := excO h he_
   replace hext := Frz.ext_trans hext (Frz.ext_mono hx25 hS.ext.size)
   obtain ⟨hlow, hS⟩ := hS.frzMerge (i := 2) rfl hlow hx25 hQ
   replace hA3 := hA3.mono hx25.1
   replace hA7 := hA7.mono Rp65.mono hx25.1
   replace hA15 := hA15.mono Rp113.mono hx25.1
   replace hS : St w0 [blk b9 28 #[iv 0], blk b8 31 p0.ar, fz w0 ν20] w := hS
   refine rn 1 7 [(6, pb b9), (8, sv ad21 y19 cap22)] hF fun a hF => ?_
   refine wfn rfl ?_
   refine esr ?_
   refine rn 3 3 [(6, pb b9), (27, .bool (decide ((ln y19) > 0)))] hF fun a hF => ?_
   refine wfn rfl ?_
   refine econd hF rfl (fun hc => ?_) (fun hc => ?_)
   ·replace h := bif_t h hc
    refine esr ?_
    refine SK.wi (storeK (t := 28) [(6, pb b9)] 0 0 (iv 20) #[iv 20] hF hS rfl (by kernel_rfl) ⟨by kernel_rfl⟩ (by kernel_rfl) (by kernel_rfl) (by kernel_rfl) (by kernel_rfl) ⟨by kernel_rfl⟩ fun w a hF hS => ?_)
    refine wfn rfl ?_
    refine wpIn_ret (ret_then <| fn_retD1 [.cell 6 28] hF rfl (fun _ => by kernel_rfl) ?_)
    refine CallsDIn.mono (plan_Verify_1_D0 20 (by simpa using St.pick [0, 1, 2] (by decide) hS)) ?_
    rintro e u_ w ⟨rfl, hu_, hS⟩
    replace hS : St w0 [blk b9 28 #[iv 20], blk b8 31 p0.ar, fz w0 ν20] w := hS
    refine ⟨_, rfl, hu_, [iv 20], ⟨⟨_, rfl, loadVar1 (by kernel_rfl) (hS.cell (i := 0) (j := 0) rfl rfl)⟩, trivial⟩, ?_⟩
    have hr_ := Option.some.inj h
    subst hr_
    exact ⟨rfl, hS.ext⟩
   ·replace h := bif_f h hc
    refine wpIn_skip (norm_then ?_)
    refine esr ?_
    refine SK.wi (storeK (t := 28) [(6, pb b9)] 0 0 (iv 0) #[iv 0] hF hS rfl (by kernel_rfl) ⟨by kernel_rfl⟩ (by kernel_rfl) (by kernel_rfl) (by kernel_rfl) (by kernel_rfl) ⟨by kernel_rfl⟩ fun w a hF hS => ?_)
    refine wfn rfl ?_
    refine wpIn_ret (fn_retD1 [.cell 6 28] hF rfl (fun _ => by kernel_rfl) ?_)
    refine CallsDIn.mono (plan_Verify_1_D0 0 (by simpa using St.pick [0, 1, 2] (by decide) hS)) ?_
    rintro e u_ w ⟨rfl, hu_, hS⟩
    replace hS : St w0 [blk b9 28 #[iv 0], blk b8 31 p0.ar, fz w0 ν20] w := hS
    refine ⟨_, rfl, hu_, [iv 0], ⟨⟨_, rfl, loadVar1 (by kernel_rfl) (hS.cell (i := 0) (j := 0) rfl rfl)⟩, trivial⟩, ?_⟩
    have hr_ := Option.some.inj h
    subst hr_
    exact ⟨rfl, hS.ext⟩

theorem plan_Insert_ok (F : Nat) (p0 : plan_Radar) (p1 : (List plan_Job)) (p2 : (List Int)) (p3 : plan_Job) (p4 : Int) (res : (Int × Int)) (h : plan_Insert F p0 p1 p2 p3 p4 = some res) (μ : Frz) (w0 : World) (hm : FrzAt μ w0) {ad1 : Option Addr} {cap2 : Nat} {ad4 : Option Addr} {cap5 : Nat} (hA3 : ArrM μ 8 plan_Job.cells ad1 cap2 p1) (hA6 : ArrM μ 1 fI ad4 cap5 p2) : Calls Try.prog 34 #[p0.ag, sv ad1 p1 cap2, sv ad4 p2 cap5, p3.ag, iv p4] w0 (fun e w => e = .returned (.tuple #[iv res.1, iv res.2]) ∧ Ext w0 w) := by
 obtain ⟨hlow, hS⟩ := hm.init
 have hext := Frz.ext_refl w0.heap.size μ
 rw [plan_Insert] at h
 refine fn_enterW Try.func34 rfl 126 [(0, p0.ag), (1, sv ad1 p1 cap2), (2, sv ad4 p2 cap5), (3, p3.ag), (4, iv p4)] rfl rfl (by kernel_rfl) fun a w hw hF => ?_
 replace hS : St w0 [fz w0 μ] w := by rw [hw]; exact hS
 clear hw
 refine esr ?_
 refine SK.wi (boxK (t := 31) (fun b7 => [(1, sv ad1 p1 cap2), (2, sv ad4 p2 cap5), (3, p3.ag), (4, iv p4), (5, pb b7)]) (p0.ag) p0.ar hF hS (by kernel_rfl) ⟨by kernel_rfl⟩ (by kernel_rfl) (fun _ => ⟨by kernel_rfl⟩) fun b7 w a hF hS => ?_)
 refine SK.wi (boxK (t := 34) (fun b8 => [(1, sv ad1 p1 cap2), (2, sv ad4 p2 cap5), (4, iv p4), (5, pb b7), (8, pb b8)]) (p3.ag) p3.ar hF hS (by kernel_rfl) ⟨by kernel_rfl⟩ (by kernel_rfl) (fun _ => ⟨by kernel_rfl⟩) fun b8 w a hF hS => ?_)
 refine rn 2 4 [(1, sv ad1 p1 cap2), (2, sv ad4 p2 cap5), (4, iv p4), (5, pb b7), (8, pb b8)] hF fun a hF => ?_
 refine wfn rfl ?_
 refine esr ?_
 refine rno 3 [.run [] (Instr.loadAt 31 (pb b7)) (p0.ag)] 3 [(1, sv ad1 p1 cap2), (2, sv ad4 p2 cap5), (4, iv p4), (5, pb b7), (8, pb b8), (23, p0.ag), (24, sv ad1 p1 cap2), (25, sv ad4 p2 cap5)] hF (ocons (obN (us := p0.cells) (by kernel_rfl) (fun _ hd => ((hS.at_ hd).blk (i := 1) rfl).cells rfl)) onil) fun a hF => ?_
 replace h := bindS h
 obtain ⟨y10, hy10, h⟩ := h
 refine SK.wi (callK (f := 47) (args := #[p0.ag, sv ad1 p1 cap2, sv ad4 p2 cap5]) (R := fun v w2 => ∃ ν11 pv12 ad13 cap14 ad15 cap16 ad17 cap18, μ.ext w.heap.size ν11 ∧ v = .tuple #[.agg #[.pointer pv12, sv ad13 y10.1.jobs cap14, sv ad15 y10.1.at_ cap16, iv y10.1.done], sv ad17 y10.2.1 cap18, iv y10.2.2] ∧ PtM ν11 113 Rp113 pv12 y10.1.desk ∧ ArrM ν11 1 fI ad13 cap14 y10.1.jobs ∧ ArrM ν11 1 fI ad15 cap16 y10.1.at_ ∧ ArrM ν11 1 fI ad17 cap18 y10.2.1 ∧ St w [frzR w.heap.size ν11] w2) (fun v9 => [(1, sv ad1 p1 cap2), (2, sv ad4 p2 cap5), (4, iv p4), (5, pb b7), (8, pb b8), (26, v9)]) hF (by kernel_rfl) ⟨by kernel_rfl⟩ (Calls.mono (plan_judged_ok F p0 p1 p2 _ hy10 μ w (hS.frz (i := 2) rfl hlow) hA3 hA6) (by rintro e w2 ⟨ν11, pv12, ad13, cap14, ad15, cap16, ad17, cap18, hx23, rfl, hA19, hA20, hA21, hA22, h⟩; exact ⟨_, rfl, ν11, pv12, ad13, cap14, ad15, cap16, ad17, cap18, hx23, rfl, hA19, hA20, hA21, hA22, h⟩)) (fun _ => ⟨by kernel_rfl⟩) ?_)
 rintro v9 w a ⟨ν11, pv12, ad13, cap14, ad15, cap16, ad17, cap18, hx23, rfl, hA19, hA20, hA21, hA22, hQ⟩ hF
 replace hext := Frz.ext_trans hext (Frz.ext_mono hx23 hS.ext.size)
 obtain ⟨hlow, hS⟩ := hS.frzMerge (i := 2) rfl hlow hx23 hQ
 replace hA3 := hA3.mono hx23.1
 replace hA6 := hA6.mono hx23.1
 replace hS : St w0 [blk b8 34 p3.ar, blk b7 31 p0.ar, fz w0 ν11] w := hS
 refine rn 4 8 [(1, sv ad1 p1 cap2), (2, sv ad4 p2 cap5), (4, iv p4), (5, pb b7), (8, pb b8), (27, .agg #[.pointer pv12, sv ad13 y10.1.jobs cap14, sv ad15 y10.1.at_ cap16, iv y10.1.done]), (28, sv ad17 y10.2.1 cap18), (29, iv y10.2.2)] hF fun a hF => ?_
 refine SK.wi (allocK (t := 102) (fun b24 => [(1, sv ad1 p1 cap2), (2, sv ad4 p2 cap5), (4, iv p4), (5, pb b7), (8, pb b8), (12, pb b24), (27, .agg #[.pointer pv12, sv ad13 y10.1.jobs cap14, sv ad15 y10.1.at_ cap16, iv y10.1.done]), (28, sv ad17 y10.2.1 cap18), (29, iv y10.2.2)]) #[.pointer none, .slice none 0 0, .slice none 0 0, iv 0] hF hS (by kernel_rfl) ⟨by kernel_rfl⟩ (by kernel_rfl) (fun _ => ⟨by kernel_rfl⟩) fun b24 w a hF hS => ?_)
 refine SK.wi (storeK (t := 102) [(1, sv ad1 p1 cap2), (2, sv ad4 p2 cap5), (4, iv p4), (5, pb b7), (8, pb b8), (12, pb b24), (28, sv ad17 y10.2.1 cap18), (29, iv y10.2.2)] 0 0 (.agg #[.pointer pv12, sv ad13 y10.1.jobs cap14, sv ad15 y10.1.at_ cap16, iv y10.1.done]) #[.pointer pv12, sv ad13 y10.1.jobs cap14, sv ad15 y10.1.at_ cap16, iv y10.1.done] hF hS rfl (by kernel_rfl) ⟨by kernel_rfl⟩ (by kernel_rfl) (by kernel_rfl) (by kernel_rfl) (by kernel_rfl) ⟨by kernel_rfl⟩ fun w a hF hS => ?_)
 refine rn 2 12 [(1, sv ad1 p1 cap2), (2, sv ad4 p2 cap5), (4, iv p4), (5, pb b7), (8, pb b8), (12, pb b24), (13, sv ad17 y10.2.1 cap18), (14, iv y10.2.2)] hF fun a hF => ?_
 refine wfn rfl ?_
 refine eseq ?_
 refine esr ?_
 refine rn 2 2 [(1, sv ad1 p1 cap2), (2, sv ad4 p2 cap5), (4, iv p4), (5, pb b7), (8, pb b8), (12, pb b24), (13, sv ad17 y10.2.1 cap18), (14, iv y10.2.2), (31, .bool (y10.2.2 != 0))] hF fun a hF => ?_
 refine wfn rfl ?_
 refine econd hF rfl (fun hc => ?_) (fun hc => ?_)
 ·replace h := bif_t h hc
  refine esr ?_
  refine rn 3 3 [(10, iv 0), (11, iv y10.2.2)] hF fun a hF => ?_
  refine wfn rfl ?_
  refine wpIn_ret (ret_then <| fn_ret [.tmp 10, .tmp 11] [iv 0, iv y10.2.2] hF rfl ⟨rfl, rfl, trivial⟩ ?_)
  have hr_ := Option.some.inj h
  subst hr_
  exact ⟨rfl, hS.ext⟩
 ·replace h := bif_f h hc
  refine wpIn_skip (norm_then ?_)
  refine eseq ?_
  refine esr ?_
  refine rno 2 [.run [] (Instr.loadAt 31 (pb b7)) (p0.ag), .run [] (Instr.loadAt 34 (pb b8)) (p3.ag)] 2 [(1, sv ad1 p1 cap2), (2, sv ad4 p2 cap5), (4, iv p4), (5, pb b7), (8, pb b8), (12, pb b24), (13, sv ad17 y10.2.1 cap18), (33, p0.ag), (34, p3.ag)] hF (ocons (obN (us := p0.cells) (by kernel_rfl) (fun _ hd => ((hS.at_ hd).blk (i := 2) rfl).cells rfl)) (ocons (obN (us := p3.cells) (by kernel_rfl) (fun _ hd => ((hS.at_ hd).blk (i := 1) rfl).cells rfl)) onil)) fun a hF => ?_
  refine SK.wi (litK (e := 34) (sz := 8) (f := plan_Job.cells) (t := 43) (len := 1) (fun b25 => [(1, sv ad1 p1 cap2), (2, sv ad4 p2 cap5), (4, iv p4), (5, pb b7), (8, pb b8), (12, pb b24), (13, sv ad17 y10.2.1 cap18), (33, p0.ag), (35, sb b25 1)]) #[(0, p3.ag)] p3.ar ([p3]) hF hS (by kernel_rfl) ⟨by kernel_rfl⟩ (by kernel_rfl) plan_Job.cells_len rfl rfl (by kernel_rfl) (fun _ => ⟨by kernel_rfl⟩) fun b25 w a hF hS => ?_)
  replace h := bindS h
  obtain ⟨y26, hy26, h⟩ := h
  refine rx 2 [.call [] 22 #[p0.ag, sb b25 1] (iv y26)] 5 [(1, sv ad1 p1 cap2), (2, sv ad4 p2 cap5), (4, iv p4), (5, pb b7), (8, pb b8), (12, pb b24), (13, sv ad17 y10.2.1 cap18), (15, iv y26)] hF (ocons (show Ob.ok _ Ext _ _ from fun hk w2 hd => plan_Check_ok F p0 ([p3]) _ ((fun _ => hy26) hk) _ w2 (memOf_at w2) (Arr.toM ((hS.later hd).arr (i := 0) rfl))) onil) fun a w hF hx => ?_
  replace hS := hS.later hx
  refine wfn rfl ?_
  refine esr ?_
  refine rn 2 2 [(1, sv ad1 p1 cap2), (2, sv ad4 p2 cap5), (4, iv p4), (5, pb b7), (8, pb b8), (12, pb b24), (13, sv ad17 y10.2.1 cap18), (15, iv y26), (38, .bool (y26 != 0))] hF fun a hF => ?_
  refine wfn rfl ?_
  refine econd hF rfl (fun hc => ?_) (fun hc => ?_)
  ·replace h := bif_t h hc
   refine esr ?_
   refine rn 3 3 [(10, iv 0), (11, iv y26)] hF fun a hF => ?_
   refine wfn rfl ?_
   refine wpIn_ret (ret_then <| fn_ret [.tmp 10, .tmp 11] [iv 0, iv y26] hF rfl ⟨rfl, rfl, trivial⟩ ?_)
   have hr_ := Option.some.inj h
   subst hr_
   exact ⟨rfl, hS.ext⟩
  ·replace h := bif_f h hc
   refine wpIn_skip (norm_then ?_)
   refine eseq ?_
   refine esr ?_
   replace h := bindS h
   obtain ⟨y27, hy27, h⟩ := h
   refine rx 3 [.call [] 68 #[sv ad17 y10.2.1 cap18] (iv y27)] 3 [(1, sv ad1 p1 cap2), (2, sv ad4 p2 cap5), (4, iv p4), (5, pb b7), (8, pb b8), (12, pb b24), (42, .bool (decide (y27 < 0)))] hF (ocons (show Ob.ok _ Ext _ _ from fun hk w2 hd => slices_Min_int_int_ok F y10.2.1 _ ((fun _ => hy27) hk) _ w2 (memOf_at w2) (hA22.mono (FrzAt.le_mem ((hS.later hd).frz (i := 4) rfl hlow)))) onil) fun a w hF hx => ?_
   replace hS := hS.later hx
   refine wfn rfl ?_
   refine econd hF rfl (fun hc => ?_) (fun hc => ?_)
   ·replace h := bif_t h hc
    refine esr ?_
    refine rn 2 2 [(10, iv 0), (11, iv 6)] hF fun a hF => ?_
    refine wfn rfl ?_
    refine wpIn_ret (ret_then <| fn_ret [.tmp 10, .tmp 11] [iv 0, iv 6] hF rfl ⟨rfl, rfl, trivial⟩ ?_)
    have hr_ := Option.some.inj h
    subst hr_
    exact ⟨rfl, hS.ext⟩
   ·replace h := bif_f h hc
    refine wpIn_skip (norm_then ?_)
    refine eseq ?_
    refine esr ?_
    refine rx 3 [.call [] 50 #[iv p4, iv 0, iv 4294967296] (.bool (plan_in p4 0 4294967296))] 3 [(1, sv ad1 p1 cap2), (2, sv ad4 p2 cap5), (4, iv p4), (5, pb b7), (8, pb b8), (12, pb b24), (45, .bool (!(plan_in p4 0 4294967296)))] hF (ocons (show Ob.ok _ Ext _ _ from fun hk w2 hd => plan_in_ok p4 0 4294967296 _ rfl _ w2 (memOf_at w2) ) onil) fun a w hF hx => ?_
    replace hS := hS.later hx
    refine wfn rfl ?_
    refine econd hF rfl (fun hc => ?_) (fun hc => ?_)
    ·replace h := bif_t h hc
     refine esr ?_
     refine rn 2 2 [(10, iv 0), (11, iv 3)] hF fun a hF => ?_
     refine wfn rfl ?_
     refine wpIn_ret (ret_then <| fn_ret [.tmp 10, .tmp 11] [iv 0, iv 3] hF rfl ⟨rfl, rfl, trivial⟩ ?_)
     have hr_ := Option.some.inj h
     subst hr_
     exact ⟨rfl, hS.ext⟩
    ·replace h := bif_f h hc
     refine wpIn_skip (norm_then ?_)
     refine esr ?_
     refine rn 3 3 [(1, sv ad1 p1 cap2), (2, sv ad4 p2 cap5), (4, iv p4), (5, pb b7), (8, pb b8), (12, pb b24), (16, iv (ln p2))] hF fun a hF => ?_
     refine wfn rfl ?_
     refine ecut (fun a w => Fr 126 [] [] a ∧ St w0 [arr 34 8 plan_Job.cells (some ⟨b25, 0, none⟩) ([p3]).length 1 ([p3]), blk b24 102 #[.pointer pv12, sv ad13 y10.1.jobs cap14, sv ad15 y10.1.at_ cap16, iv y10.1.done], blk b8 34 p3.ar, blk b7 31 p0.ar, fz w0 ν11] w ∧ plan_Insert_K1 = some res) ?_ ?_
     ·skip
      refine esr ?_
      refine rn 3 3 [(1, sv ad1 p1 cap2), (2, sv ad4 p2 cap5), (4, iv p4), (5, pb b7), (8, pb b8), (12, pb b24), (16, iv (ln p2)), (48, sv ad4 p2 cap5), (49, iv (ln p2)), (50, iv 0)] hF fun a hF => ?_
      refine wfn rfl ?_
      refine wpIn_block ?_
      refine eloop (fun n_ a w => ∃ (x253 : Int), Fr 126 [] [(1, sv ad1 p1 cap2), (2, sv ad4 p2 cap5), (4, iv p4), (5, pb b7), (8, pb b8), (12, pb b24), (16, iv (ln p2)), (48, sv ad4 p2 cap5), (49, iv (ln p2)), (50, iv x253)] a ∧ St w0 [arr 34 8 plan_Job.cells (some ⟨b25, 0, none⟩) ([p3]).length 1 ([p3]), blk b24 102 #[.pointer pv12, sv ad13 y10.1.jobs cap14, sv ad15 y10.1.at_ cap16, iv y10.1.done], blk b8 34 p3.ar, blk b7 31 p0.ar, fz w0 ν11] w ∧ plan_Insert_L2 F p0 p1 p2 p3 p4 y10 n_ x253 = some res) F ⟨0, hF.sub (by kernel_rfl), St.pick [0, 1, 2, 3, 4] (by decide) hS, h⟩ ?_
      rintro n_ a w ⟨x253, hF, hS, h⟩
      rcases n_ with _ | n_
      ·cases (show (none : Option (Int × Int)) = some res from h)
      obtain ⟨k2, hk2⟩ : ∃ k, k = plan_Insert_L2 F p0 p1 p2 p3 p4 y10 n_ := ⟨_, rfl⟩
      replace h : plan_Insert_B2 F p0 p1 p2 p3 p4 y10 k2 x253 = some res := by rw [hk2]; exact h
      rw [plan_Insert_B2] at h
      refine esr ?_
      refine rn 1 1 [(1, sv ad1 p1 cap2), (2, sv ad4 p2 cap5), (4, iv p4), (5, pb b7), (8, pb b8), (12, pb b24), (16, iv (ln p2)), (48, sv ad4 p2 cap5), (49, iv (ln p2)), (50, iv x253), (51, .bool (decide (x253 < (ln p2))))] hF fun a hF => ?_
      refine wfn rfl ?_
      refine eseq ?_
      refine econd hF rfl (fun hc => ?_) (fun hc => ?_)
      ·replace h := bif_t h hc
       refine wpIn_skip (norm_then ?_)
       refine eseq ?_
       refine wpIn_block ?_
       refine esr ?_
       replace h := bindS h
       obtain ⟨u255, hu255, h⟩ := h
       refine rno 5 [.run [] (Instr.indexAt 40 (sv ad4 p2 cap5) (iv x253)) (.pointer (some (slAddr ad4 x253 1))), .run [] (Instr.loadAt 3 (.pointer (some (slAddr ad4 x253 1)))) (iv u255)] 5 [(1, sv ad1 p1 cap2), (2, sv ad4 p2 cap5), (4, iv p4), (5, pb b7), (8, pb b8), (12, pb b24), (16, iv (ln p2)), (17, iv x253), (18, iv u255), (48, sv ad4 p2 cap5), (49, iv (ln p2)), (50, iv x253)] hF (ocons (obIdxQ (hA6 _ (hS.frz (i := 4) rfl hlow)) (by kernel_rfl) (fun _ => hu255)) (ocons (obElQ (i := x253) 0 fI_len (fun _ hd => (hA6 _ ((hS.at_ hd).frz (i := 4) rfl hlow))) (by kernel_rfl) (fun _ => hu255) rfl) onil)) fun a hF => ?_
       refine wfn rfl ?_
       refine esr ?_
       replace h := bindS h
       obtain ⟨x256, hx256, h⟩ := h
       replace h := bindS h
       obtain ⟨x257, hx257, h⟩ := h
       replace h := bindS h
       obtain ⟨u258, hu258, h⟩ := h
       refine rno 8 [.run [] (binOp .add 3 (iv x253) (iv 1)) (iv x256), .run [] (binOp .rem 3 (iv x256) (iv (ln p2))) (iv x257), .run [] (Instr.indexAt 40 (sv ad4 p2 cap5) (iv x257)) (.pointer (some (slAddr ad4 x257 1))), .run [] (Instr.loadAt 3 (.pointer (some (slAddr ad4 x257 1)))) (iv u258)] 8 [(1, sv ad1 p1 cap2), (2, sv ad4 p2 cap5), (4, iv p4), (5, pb b7), (8, pb b8), (12, pb b24), (16, iv (ln p2)), (17, iv x253), (18, iv u255), (19, iv u258), (48, sv ad4 p2 cap5), (49, iv (ln p2)), (50, iv x253)] hF (ocons (obAddC (fun _ => hx256)) (ocons (obRemC (fun _ => hx257)) (ocons (obIdxQ (hA6 _ (hS.frz (i := 4) rfl hlow)) (by kernel_rfl) (fun _ => hu258)) (ocons (obElQ (i := x257) 0 fI_len (fun _ hd => (hA6 _ ((hS.at_ hd).frz (i := 4) rfl hlow))) (by kernel_rfl) (fun _ => hu258) rfl) onil)))) fun a hF => ?_
       refine wfn rfl ?_
       refine eseq ?_
       replace h := bindS h
       obtain ⟨u259, hu259, h⟩ := h
       replace h := bindS h
       obtain ⟨d260, hd260, h⟩ := h
       obtain ⟨b261, cs262, hp263, hB264, hR265⟩ := PtM.some hA19 hd260
       obtain ⟨ad266, cap267, ad268, cap269, ad270, cap271, css272, rfl, hA273, hA274, hA275⟩ := hR265
       try rw [hp263] at hF
       try rw [hp263] at hS
       try rw [hp263] at hB264
       replace h := bindS h
       obtain ⟨u276, hu276, h⟩ := h
       replace h := bindS h
       obtain ⟨x277, hx277, h⟩ := h
       replace h := bindS h
       obtain ⟨u278, hu278, h⟩ := h
       replace h := bindS h
       obtain ⟨y279, hy279, h⟩ := h
       replace h := bindS h
       obtain ⟨x280, hx280, h⟩ := h
       refine runD (obs := [.run [] (Instr.loadAt 40 (.pointer (some ⟨b24, 2, none⟩))) (sv ad15 y10.1.at_ cap16), .run [] (Instr.indexAt 40 (sv ad15 y10.1.at_ cap16) (iv x253)) (.pointer (some (slAddr ad15 x253 1))), .run [] (Instr.loadAt 3 (.pointer (some (slAddr ad15 x253 1)))) (iv u259), .run [] (Instr.loadAt 100 (pb b24)) (pb b261), .run [] (Instr.loadAt 40 (.pointer (some ⟨b261, 1, none⟩))) (sv ad268 d260.takes cap269), .run [] (Instr.indexAt 40 (sv ad268 d260.takes cap269) (iv u255)) (.pointer (some (slAddr ad268 u255 1))), .run [] (Instr.loadAt 3 (.pointer (some (slAddr ad268 u255 1)))) (iv u276), .run [] (binOp .add 3 (iv u259) (iv u276)) (iv x277), .run [] (Instr.loadAt 31 (pb b7)) (p0.ag), .run [] (Instr.indexAt 43 (sv ad1 p1 cap2) (iv u255)) (.pointer (some (slAddr ad1 u255 8))), .run [] (Instr.loadAt 34 (.pointer (some (slAddr ad1 u255 8)))) (u278.ag), .run [] (Instr.loadAt 34 (pb b8)) (p3.ag), .call [] 69 #[p0.ag, u278.ag, p3.ag] (iv y279), .run [] (binOp .add 3 (iv x277) (iv y279)) (iv x280)]) 23 [(1, sv ad1 p1 cap2), (2, sv ad4 p2 cap5), (4, iv p4), (5, pb b7), (8, pb b8), (12, pb b24), (16, iv (ln p2)), (17, iv x253), (18, iv u255), (19, iv u258), (20, iv x280), (48, sv ad4 p2 cap5), (49, iv (ln p2)), (50, iv x253)] (by kernel_rfl) hF (by kernel_rfl) (ocons (ob1 (by kernel_rfl) (fun _ hd => (hS.later hd).cell (i := 1) (j := 2) rfl rfl)) (ocons (obIdxQ (hA21 _ (hS.frz (i := 4) rfl hlow)) (by kernel_rfl) (fun _ => hu259)) (ocons (obElQ (i := x253) 0 fI_len (fun _ hd => (hA21 _ ((hS.later hd).frz (i := 4) rfl hlow))) (by kernel_rfl) (fun _ => hu259) rfl) (ocons (ob1 (by kernel_rfl) (fun _ hd => (hS.later hd).cell (i := 1) (j := 0) rfl rfl)) (ocons (ob1 (by kernel_rfl) (fun _ hd => (hB264.blk ((hS.later hd).frz (i := 4) rfl hlow)).cell1 (j := 1) rfl)) (ocons (obIdxQ (hA274 _ (hS.frz (i := 4) rfl hlow)) (by kernel_rfl) (fun _ => hu276)) (ocons (obElQ (i := u255) 0 fI_len (fun _ hd => (hA274 _ ((hS.later hd).frz (i := 4) rfl hlow))) (by kernel_rfl) (fun _ => hu276) rfl) (ocons (obAddC (fun _ => hx277)) (ocons (obN (us := p0.cells) (by kernel_rfl) (fun _ hd => ((hS.later hd).blk (i := 3) rfl).cells rfl)) (ocons (obIdxQ (hA3 _ (hS.frz (i := 4) rfl hlow)) (by kernel_rfl) (fun _ => hu278)) (ocons (obElNQ (m := 8) (i := u255) (us := u278.cells) 0 plan_Job.cells_len (fun _ hd => (hA3 _ ((hS.later hd).frz (i := 4) rfl hlow))) (by kernel_rfl) (fun _ => hu278) ⟨rfl, rfl⟩) (ocons (obN (us := p3.cells) (by kernel_rfl) (fun _ hd => ((hS.later hd).blk (i := 2) rfl).cells rfl)) (ocons (show Ob.ok _ Ext _ _ from fun hk w2 hd => plan_Radar_move_ok F p0 u278 p3 _ ((fun _ => hy279) hk) _ w2 (memOf_at w2) ) (ocons (obAddC (fun _ => hx280)) onil)))))))))))))) ⟨by kernel_rfl⟩ fun a w hF hx => ?_
       replace hS := hS.later hx
       refine wfn rfl ?_
       refine eseq ?_
       replace h := bindS h
       obtain ⟨u281, hu281, h⟩ := h
       replace h := bindS h
       obtain ⟨y282, hy282, h⟩ := h
       replace h := bindS h
       obtain ⟨y283, hy283, h⟩ := h
       replace h := bindS h
       obtain ⟨x284, hx284, h⟩ := h
       replace h := bindS h
       obtain ⟨u285, hu285, h⟩ := h
       replace h := bindS h
       obtain ⟨y286, hy286, h⟩ := h
       replace h := bindS h
       obtain ⟨x287, hx287, h⟩ := h
       replace h := bindS h
       obtain ⟨u288, hu288, h⟩ := h
       obtain ⟨cs289, hcs290, hR291⟩ := getI_all2 hA275.2 hu288
       obtain ⟨ad292, cap293, rfl, hA294⟩ := hR291
       replace h := bindS h
       obtain ⟨u295, hu295, h⟩ := h
       replace h := bindS h
       obtain ⟨x296, hx296, h⟩ := h
       refine runD (obs := [.run [] (Instr.loadAt 31 (pb b7)) (p0.ag), .run [] (Instr.indexAt 43 (sv ad1 p1 cap2) (iv u255)) (.pointer (some (slAddr ad1 u255 8))), .run [] (Instr.loadAt 34 (.pointer (some (slAddr ad1 u255 8)))) (u281.ag), .run [] (Instr.loadAt 34 (pb b8)) (p3.ag), .call [] 69 #[p0.ag, u281.ag, p3.ag] (iv y282), .run [] (Instr.loadAt 31 (pb b7)) (p0.ag), .run [] (Instr.loadAt 34 (pb b8)) (p3.ag), .call [] 44 #[p0.ag, p3.ag] (iv y283), .run [] (binOp .add 3 (iv y282) (iv y283)) (iv x284), .run [] (Instr.loadAt 31 (pb b7)) (p0.ag), .run [] (Instr.loadAt 34 (pb b8)) (p3.ag), .run [] (Instr.indexAt 43 (sv ad1 p1 cap2) (iv u258)) (.pointer (some (slAddr ad1 u258 8))), .run [] (Instr.loadAt 34 (.pointer (some (slAddr ad1 u258 8)))) (u285.ag), .call [] 69 #[p0.ag, p3.ag, u285.ag] (iv y286), .run [] (binOp .add 3 (iv x284) (iv y286)) (iv x287), .run [] (Instr.loadAt 100 (pb b24)) (pb b261), .run [] (Instr.loadAt 111 (.pointer (some ⟨b261, 2, none⟩))) (sv ad270 d260.moves cap271), .run [] (Instr.indexAt 111 (sv ad270 d260.moves cap271) (iv u255)) (.pointer (some (slAddr ad270 u255 1))), .run [] (Instr.loadAt 40 (.pointer (some (slAddr ad270 u255 1)))) (sv ad292 u288 cap293), .run [] (Instr.indexAt 40 (sv ad292 u288 cap293) (iv u258)) (.pointer (some (slAddr ad292 u258 1))), .run [] (Instr.loadAt 3 (.pointer (some (slAddr ad292 u258 1)))) (iv u295), .run [] (binOp .sub 3 (iv x287) (iv u295)) (iv x296)]) 32 [(1, sv ad1 p1 cap2), (2, sv ad4 p2 cap5), (4, iv p4), (5, pb b7), (8, pb b8), (12, pb b24), (16, iv (ln p2)), (17, iv x253), (20, iv x280), (21, iv x296), (48, sv ad4 p2 cap5), (49, iv (ln p2)), (50, iv x253)] (by kernel_rfl) hF (by kernel_rfl) (ocons (obN (us := p0.cells) (by kernel_rfl) (fun _ hd => ((hS.later hd).blk (i := 3) rfl).cells rfl)) (ocons (obIdxQ (hA3 _ (hS.frz (i := 4) rfl hlow)) (by kernel_rfl) (fun _ => hu281)) (ocons (obElNQ (m := 8) (i := u255) (us := u281.cells) 0 plan_Job.cells_len (fun _ hd => (hA3 _ ((hS.later hd).frz (i := 4) rfl hlow))) (by kernel_rfl) (fun _ => hu281) ⟨rfl, rfl⟩) (ocons (obN (us := p3.cells) (by kernel_rfl) (fun _ hd => ((hS.later hd).blk (i := 2) rfl).cells rfl)) (ocons (show Ob.ok _ Ext _ _ from fun hk w2 hd => plan_Radar_move_ok F p0 u281 p3 _ ((fun _ => hy282) hk) _ w2 (memOf_at w2) ) (ocons (obN (us := p0.cells) (by kernel_rfl) (fun _ hd => ((hS.later hd).blk (i := 3) rfl).cells rfl)) (ocons (obN (us := p3.cells) (by kernel_rfl) (fun _ hd => ((hS.later hd).blk (i := 2) rfl).cells rfl)) (ocons (show Ob.ok _ Ext _ _ from fun hk w2 hd => plan_Radar_time_ok F p0 p3 _ ((fun _ => hy283) hk) _ w2 (memOf_at w2) ) (ocons (obAddC (fun _ => hx284)) (ocons (obN (us := p0.cells) (by kernel_rfl) (fun _ hd => ((hS.later hd).blk (i := 3) rfl).cells rfl)) (ocons (obN (us := p3.cells) (by kernel_rfl) (fun _ hd => ((hS.later hd).blk (i := 2) rfl).cells rfl)) (ocons (obIdxQ (hA3 _ (hS.frz (i := 4) rfl hlow)) (by kernel_rfl) (fun _ => hu285)) (ocons (obElNQ (m := 8) (i := u258) (us := u285.cells) 0 plan_Job.cells_len (fun _ hd => (hA3 _ ((hS.later hd).frz (i := 4) rfl hlow))) (by kernel_rfl) (fun _ => hu285) ⟨rfl, rfl⟩) (ocons (show Ob.ok _ Ext _ _ from fun hk w2 hd => plan_Radar_move_ok F p0 p3 u285 _ ((fun _ => hy286) hk) _ w2 (memOf_at w2) ) (ocons (obAddC (fun _ => hx287)) (ocons (ob1 (by kernel_rfl) (fun _ hd => (hS.later hd).cell (i := 1) (j := 0) rfl rfl)) (ocons (ob1 (by kernel_rfl) (fun _ hd => (hB264.blk ((hS.later hd).frz (i := 4) rfl hlow)).cell1 (j := 2) rfl)) (ocons (obIdxQ (hA275.at (hS.frz (i := 4) rfl hlow)) (by kernel_rfl) (fun _ => hcs290)) (ocons (obElQ (i := u255) 0 (fN_len 1) (fun _ hd => (hA275.at ((hS.later hd).frz (i := 4) rfl hlow))) (by kernel_rfl) (fun _ => hcs290) rfl) (ocons (obIdxQ (hA294 _ (hS.frz (i := 4) rfl hlow)) (by kernel_rfl) (fun _ => hu295)) (ocons (obElQ (i := u258) 0 fI_len (fun _ hd => (hA294 _ ((hS.later hd).frz (i := 4) rfl hlow))) (by kernel_rfl) (fun _ => hu295) rfl) (ocons (obSubC (fun _ => hx296)) onil)))))))))))))))))))))) ⟨by kernel_rfl⟩ fun a w hF hx => ?_
       replace hS := hS.later hx
       refine wfn rfl ?_
       refine esr ?_
       replace h := bindS h
       obtain ⟨y297, hy297, h⟩ := h
       refine rx 9 [.run [⟨118, true, (decide (x280 ≤ p4))⟩] (Instr.loadAt 102 (pb b24)) (.agg #[pb b261, sv ad13 y10.1.jobs cap14, sv ad15 y10.1.at_ cap16, iv y10.1.done]), .call [⟨118, true, (decide (x280 ≤ p4))⟩] 70 #[.agg #[pb b261, sv ad13 y10.1.jobs cap14, sv ad15 y10.1.at_ cap16, iv y10.1.done], iv x253, iv x296] (.bool y297)] 9 [(1, sv ad1 p1 cap2), (2, sv ad4 p2 cap5), (4, iv p4), (5, pb b7), (8, pb b8), (12, pb b24), (16, iv (ln p2)), (17, iv x253), (48, sv ad4 p2 cap5), (49, iv (ln p2)), (50, iv x253), (123, .bool (bif (decide (x280 ≤ p4)) then y297 else false))] hF (ocons (obN (us := [pb b261, sv ad13 y10.1.jobs cap14, sv ad15 y10.1.at_ cap16, iv y10.1.done]) (by kernel_rfl) (fun _ hd => ((hS.later hd).blk (i := 1) rfl).cells rfl)) (ocons (show Ob.ok _ Ext _ _ from fun hk w2 hd => plan_line_bears_ok F (plan_line.mk (some d260) y10.1.jobs y10.1.at_ y10.1.done) x253 x296 _ ((fun hk => gd_some hy297 hk) hk) _ w2 (memOf_at w2) (PtM.mk (cs := [sv ad266 d260.jobs cap267, sv ad268 d260.takes cap269, sv ad270 d260.moves cap271]) (hB264.mono (FrzAt.le_mem ((hS.later hd).frz (i := 4) rfl hlow))) ⟨ad266, cap267, ad268, cap269, ad270, cap271, css272, rfl, (hA273.mono (FrzAt.le_mem ((hS.later hd).frz (i := 4) rfl hlow))), (hA274.mono (FrzAt.le_mem ((hS.later hd).frz (i := 4) rfl hlow))), (hA275.mono Rp40.mono (FrzAt.le_mem ((hS.later hd).frz (i := 4) rfl hlow)))⟩) (hA20.mono (FrzAt.le_mem ((hS.later hd).frz (i := 4) rfl hlow))) (hA21.mono (FrzAt.le_mem ((hS.later hd).frz (i := 4) rfl hlow)))) onil)) fun a w hF hx => ?_
       replace hS := hS.later hx
       refine wfn rfl ?_
       refine econd hF rfl (fun hc => ?_) (fun hc => ?_)
       ·replace h := bif_t h hc
        refine esr ?_
        refine rn 3 3 [(10, iv x253), (11, iv 0)] hF fun a hF => ?_
        refine wfn rfl ?_
        refine wpIn_ret (ret_block <| ret_then <| ret_then <| ret_block <| ret_then <| fn_ret [.tmp 10, .tmp 11] [iv x253, iv 0] hF rfl ⟨rfl, rfl, trivial⟩ ?_)
        have hr_ := Option.some.inj h
        subst hr_
        exact ⟨rfl, hS.ext⟩
       ·replace h := bif_f h hc
        refine wpIn_skip (norm_block <| norm_then <| ?_)
        refine WI.region ?_
        replace h := bindS h
        obtain ⟨x298, hx298, h⟩ := h
        refine rno 2 [.run [] (binOp .add 3 (iv x253) (iv 1)) (iv x298)] 2 [(1, sv ad1 p1 cap2), (2, sv ad4 p2 cap5), (4, iv p4), (5, pb b7), (8, pb b8), (12, pb b24), (16, iv (ln p2)), (48, sv ad4 p2 cap5), (49, iv (ln p2)), (50, iv x298)] hF (ocons (obAddC (fun _ => hx298)) onil) fun a hF => ?_
        refine wfn rfl ?_
        try simp only [pb, ← hp263] at hF
        try simp only [pb, ← hp263] at hS
        rw [hk2] at h
        exact ⟨n_, Nat.lt_succ_self _, x298, hF.sub (by kernel_rfl), St.pick [0, 1, 2, 3, 4] (by decide) hS, h⟩
      ·replace h := bif_f h hc
       refine wpIn_exit (exit_then <| exit_then <| exit_hit <| norm_then ?_)
       exact ⟨hF.sub (by kernel_rfl), St.pick [0, 1, 2, 3, 4] (by decide) hS, h⟩
     rintro a w ⟨hF, hS, h⟩
     rw [plan_Insert_K1] at h
     refine esr ?_
     refine rn 2 2 [(10, iv 0), (11, iv 28)] hF fun a hF => ?_
     refine wfn rfl ?_
     refine wpIn_ret (fn_ret [.tmp 10, .tmp 11] [iv 0, iv 28] hF rfl ⟨rfl, rfl, trivial⟩ ?_)
     have hr_ := Option.some.inj h
     subst hr_
     exact ⟨rfl, hS.ext⟩
end Go.Proofs.Ytejffembnkojjaa
