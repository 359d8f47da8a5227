/- Walks, written by program (wip/gen/dec.py). -/
import Derived.Test.YtejffembnkojjaaC10XD
import Derived.Test.YtejffembnkojjaaProg
import Derived.Test.YtejffembnkojjaaC10XW0
import Derived.Test.YtejffembnkojjaaC10XW2
import Derived.Test.YtejffembnkojjaaC10XW3
import Derived.Test.YtejffembnkojjaaC10XW4
namespace Go.Proofs.Ytejffembnkojjaa
open Go Go.RowKit Go.Eng
set_option maxRecDepth 10000
set_option maxHeartbeats 4000000
set_option linter.unusedVariables false
set_option linter.unusedSimpArgs false
theorem plan_judged_ok (F : Nat) (p0 : plan_Radar) (p1 : (List plan_Job)) (p2 : (List Int)) (res : (plan_line × (List Int) × Int)) (h : plan_judged F p0 p1 p2 = some res) (μ : Frz) (w0 : World) (hm : FrzAt μ w0) {ad1 : Option Addr} {cap2 : Nat} {ad4 : Option Addr} {cap5 : Nat} (hA3 : ArrM μ 8 plan_Job.cells ad1 cap2 p1) (hA6 : ArrM μ 1 fI ad4 cap5 p2) : Calls Try.prog 47 #[p0.ag, sv ad1 p1 cap2, sv ad4 p2 cap5] w0 (fun e w => ∃ (ν_ : Frz) (pv130 : Option Addr) (ad131 : Option Addr) (cap132 : Nat) (ad133 : Option Addr) (cap134 : Nat) (ad135 : Option Addr) (cap136 : Nat), μ.ext w0.heap.size ν_ ∧ e = .returned (.tuple #[.agg #[.pointer pv130, sv ad131 res.1.jobs cap132, sv ad133 res.1.at_ cap134, iv res.1.done], sv ad135 res.2.1 cap136, iv res.2.2]) ∧ PtM ν_ 113 Rp113 pv130 res.1.desk ∧ ArrM ν_ 1 fI ad131 cap132 res.1.jobs ∧ ArrM ν_ 1 fI ad133 cap134 res.1.at_ ∧ ArrM ν_ 1 fI ad135 cap136 res.2.1 ∧ St w0 [fz w0 ν_] w) := by
 obtain ⟨hlow, hS⟩ := hm.init
 have hext := Frz.ext_refl w0.heap.size μ
 rw [plan_judged] at h
 refine fn_enterW Try.func47 rfl 75 [(0, p0.ag), (1, sv ad1 p1 cap2), (2, sv ad4 p2 cap5)] rfl rfl (by kernel_rfl) fun a w hw hF => ?_
 replace hS : St w0 [fz w0 μ] w := by rw [hw]; exact hS
 clear hw
 refine esr ?_
 refine SK.wi (boxK (t := 31) (fun b7 => [(1, sv ad1 p1 cap2), (2, sv ad4 p2 cap5), (3, pb b7)]) (p0.ag) p0.ar hF hS (by kernel_rfl) ⟨by kernel_rfl⟩ (by kernel_rfl) (fun _ => ⟨by kernel_rfl⟩) fun b7 w a hF hS => ?_)
 refine SK.wi (allocK (t := 102) (fun b8 => [(1, sv ad1 p1 cap2), (2, sv ad4 p2 cap5), (3, pb b7), (6, pb b8)]) #[.pointer none, .slice none 0 0, .slice none 0 0, iv 0] hF hS (by kernel_rfl) ⟨by kernel_rfl⟩ (by kernel_rfl) (fun _ => ⟨by kernel_rfl⟩) fun b8 w a hF hS => ?_)
 refine rn 2 4 [(1, sv ad1 p1 cap2), (2, sv ad4 p2 cap5), (3, pb b7), (6, pb b8)] hF fun a hF => ?_
 refine wfn rfl ?_
 refine eseq ?_
 refine esr ?_
 replace h := bindS h
 obtain ⟨y9, hy9, h⟩ := h
 refine rx 4 [.run [] (Instr.loadAt 31 (pb b7)) (p0.ag), .call [] 22 #[p0.ag, sv ad1 p1 cap2] (iv y9)] 4 [(1, sv ad1 p1 cap2), (2, sv ad4 p2 cap5), (3, pb b7), (6, pb b8), (9, iv y9)] hF (ocons (obN (us := p0.cells) (by kernel_rfl) (fun _ hd => ((hS.later hd).blk (i := 1) rfl).cells rfl)) (ocons (show Ob.ok _ Ext _ _ from fun hk w2 hd => plan_Check_ok F p0 p1 _ ((fun _ => hy9) hk) _ w2 (memOf_at w2) (hA3.mono (FrzAt.le_mem ((hS.later hd).frz (i := 2) rfl hlow)))) onil)) fun a w hF hx => ?_
 replace hS := hS.later hx
 refine wfn rfl ?_
 refine esr ?_
 refine rn 2 2 [(1, sv ad1 p1 cap2), (2, sv ad4 p2 cap5), (3, pb b7), (6, pb b8), (9, iv y9), (19, .bool (y9 != 0))] hF fun a hF => ?_
 refine wfn rfl ?_
 refine econd hF rfl (fun hc => ?_) (fun hc => ?_)
 ·replace h := bif_t h hc
  refine esr ?_
  refine rn 2 2 [(6, pb b8), (20, .agg #[.pointer none, .slice none 0 0, .slice none 0 0, iv 0]), (21, iv y9)] hF fun a hF => ?_
  refine SK.wi (storeK (t := 102) [(6, pb b8), (21, iv y9)] 0 0 (.agg #[.pointer none, .slice none 0 0, .slice none 0 0, iv 0]) #[.pointer none, .slice none 0 0, .slice none 0 0, iv 0] hF hS rfl (by kernel_rfl) ⟨by kernel_rfl⟩ (by kernel_rfl) (by kernel_rfl) (by kernel_rfl) (by kernel_rfl) ⟨by kernel_rfl⟩ fun w a hF hS => ?_)
  refine rn 2 5 [(6, pb b8), (7, .slice none 0 0), (8, iv y9)] hF fun a hF => ?_
  refine wfn rfl ?_
  refine wpIn_ret (ret_then <| fn_ret [.cell 6 102, .tmp 7, .tmp 8] [.agg #[.pointer none, .slice none 0 0, .slice none 0 0, iv 0], .slice none 0 0, iv y9] hF rfl ⟨⟨_, rfl, loadVarN (cs := [.pointer none, .slice none 0 0, .slice none 0 0, iv 0]) (by kernel_rfl) ((hS.blk (i := 0) rfl).cells rfl)⟩, rfl, rfl, trivial⟩ ?_)
  have hr_ := Option.some.inj h
  subst hr_
  exact ⟨μ, none, none, 0, none, 0, none, 0, hext, rfl, PtM.nil, ArrM.nil, ArrM.nil, ArrM.nil, St.pick [2] (by decide) hS⟩
 ·replace h := bif_f h hc
  refine wpIn_skip (norm_then ?_)
  refine eseq ?_
  refine esr ?_
  refine rx 4 [.call [] 50 #[iv (ln p2), iv 1, iv 12] (.bool (plan_in (ln p2) 1 12))] 4 [(1, sv ad1 p1 cap2), (2, sv ad4 p2 cap5), (3, pb b7), (6, pb b8), (25, .bool (!(plan_in (ln p2) 1 12)))] hF (ocons (show Ob.ok _ Ext _ _ from fun hk w2 hd => plan_in_ok (ln p2) 1 12 _ rfl _ w2 (memOf_at w2) ) onil) fun a w hF hx => ?_
  replace hS := hS.later hx
  refine wfn rfl ?_
  refine econd hF rfl (fun hc => ?_) (fun hc => ?_)
  ·replace h := bif_t h hc
   refine esr ?_
   refine rn 1 1 [(6, pb b8), (26, .agg #[.pointer none, .slice none 0 0, .slice none 0 0, iv 0])] hF fun a hF => ?_
   refine SK.wi (storeK (t := 102) [(6, pb b8)] 0 0 (.agg #[.pointer none, .slice none 0 0, .slice none 0 0, iv 0]) #[.pointer none, .slice none 0 0, .slice none 0 0, iv 0] hF hS rfl (by kernel_rfl) ⟨by kernel_rfl⟩ (by kernel_rfl) (by kernel_rfl) (by kernel_rfl) (by kernel_rfl) ⟨by kernel_rfl⟩ fun w a hF hS => ?_)
   refine rn 2 4 [(6, pb b8), (7, .slice none 0 0), (8, iv 3)] hF fun a hF => ?_
   refine wfn rfl ?_
   refine wpIn_ret (ret_then <| fn_ret [.cell 6 102, .tmp 7, .tmp 8] [.agg #[.pointer none, .slice none 0 0, .slice none 0 0, iv 0], .slice none 0 0, iv 3] hF rfl ⟨⟨_, rfl, loadVarN (cs := [.pointer none, .slice none 0 0, .slice none 0 0, iv 0]) (by kernel_rfl) ((hS.blk (i := 0) rfl).cells rfl)⟩, rfl, rfl, trivial⟩ ?_)
   have hr_ := Option.some.inj h
   subst hr_
   exact ⟨μ, none, none, 0, none, 0, none, 0, hext, rfl, PtM.nil, ArrM.nil, ArrM.nil, ArrM.nil, St.pick [2] (by decide) hS⟩
  ·replace h := bif_f h hc
   refine wpIn_skip (norm_then ?_)
   refine ecut (fun a w => Fr 75 [] [(1, sv ad1 p1 cap2), (2, sv ad4 p2 cap5), (3, pb b7), (6, pb b8)] a ∧ St w0 [blk b8 102 #[.pointer none, .slice none 0 0, .slice none 0 0, iv 0], blk b7 31 p0.ar, fz w0 μ] w ∧ plan_judged_K1 F p0 p1 p2 = some res) ?_ ?_
   ·skip
    refine esr ?_
    refine rn 3 3 [(1, sv ad1 p1 cap2), (2, sv ad4 p2 cap5), (3, pb b7), (6, pb b8), (27, sv ad4 p2 cap5), (28, iv (ln p2)), (29, iv 0)] hF fun a hF => ?_
    refine wfn rfl ?_
    refine wpIn_block ?_
    refine eloop (fun n_ a w => ∃ (x125 : Int), Fr 75 [] [(1, sv ad1 p1 cap2), (2, sv ad4 p2 cap5), (3, pb b7), (6, pb b8), (27, sv ad4 p2 cap5), (28, iv (ln p2)), (29, iv x125)] a ∧ St w0 [blk b8 102 #[.pointer none, .slice none 0 0, .slice none 0 0, iv 0], blk b7 31 p0.ar, fz w0 μ] w ∧ plan_judged_L4 F p0 p1 p2 n_ x125 = some res) F ⟨0, hF.sub (by kernel_rfl), St.pick [0, 1, 2] (by decide) hS, h⟩ ?_
    rintro n_ a w ⟨x125, hF, hS, h⟩
    rcases n_ with _ | n_
    ·cases (show (none : Option (plan_line × (List Int) × Int)) = some res from h)
    obtain ⟨k4, hk4⟩ : ∃ k, k = plan_judged_L4 F p0 p1 p2 n_ := ⟨_, rfl⟩
    replace h : plan_judged_B4 F p0 p1 p2 k4 x125 = some res := by rw [hk4]; exact h
    rw [plan_judged_B4] at h
    refine esr ?_
    refine rn 1 1 [(1, sv ad1 p1 cap2), (2, sv ad4 p2 cap5), (3, pb b7), (6, pb b8), (27, sv ad4 p2 cap5), (28, iv (ln p2)), (29, iv x125), (30, .bool (decide (x125 < (ln p2))))] hF fun a hF => ?_
    refine wfn rfl ?_
    refine eseq ?_
    refine econd hF rfl (fun hc => ?_) (fun hc => ?_)
    ·replace h := bif_t h hc
     refine wpIn_skip (norm_then ?_)
     refine eseq ?_
     refine wpIn_block ?_
     refine esr ?_
     replace h := bindS h
     obtain ⟨u127, hu127, h⟩ := h
     refine rno 3 [.run [] (Instr.indexAt 40 (sv ad4 p2 cap5) (iv x125)) (.pointer (some (slAddr ad4 x125 1))), .run [] (Instr.loadAt 3 (.pointer (some (slAddr ad4 x125 1)))) (iv u127)] 3 [(1, sv ad1 p1 cap2), (2, sv ad4 p2 cap5), (3, pb b7), (6, pb b8), (11, iv u127), (27, sv ad4 p2 cap5), (28, iv (ln p2)), (29, iv x125)] hF (ocons (obIdxQ (hA6 _ (hS.frz (i := 2) rfl hlow)) (by kernel_rfl) (fun _ => hu127)) (ocons (obElQ (i := x125) 0 fI_len (fun _ hd => (hA6 _ ((hS.at_ hd).frz (i := 2) rfl hlow))) (by kernel_rfl) (fun _ => hu127) rfl) onil)) fun a hF => ?_
     refine wfn rfl ?_
     refine esr ?_
     replace h := bindS h
     obtain ⟨x128, hx128, h⟩ := h
     refine rx 6 [.run [] (binOp .sub 3 (iv (ln p1)) (iv 1)) (iv x128), .call [] 50 #[iv u127, iv 0, iv x128] (.bool (plan_in u127 0 x128))] 6 [(1, sv ad1 p1 cap2), (2, sv ad4 p2 cap5), (3, pb b7), (6, pb b8), (27, sv ad4 p2 cap5), (28, iv (ln p2)), (29, iv x125), (38, .bool (!(plan_in u127 0 x128)))] hF (ocons (obSubC (fun _ => hx128)) (ocons (show Ob.ok _ Ext _ _ from fun hk w2 hd => plan_in_ok u127 0 x128 _ rfl _ w2 (memOf_at w2) ) onil)) fun a w hF hx => ?_
     replace hS := hS.later hx
     refine wfn rfl ?_
     refine econd hF rfl (fun hc => ?_) (fun hc => ?_)
     ·replace h := bif_t h hc
      refine esr ?_
      refine rn 1 1 [(6, pb b8), (39, .agg #[.pointer none, .slice none 0 0, .slice none 0 0, iv 0])] hF fun a hF => ?_
      refine SK.wi (storeK (t := 102) [(6, pb b8)] 0 0 (.agg #[.pointer none, .slice none 0 0, .slice none 0 0, iv 0]) #[.pointer none, .slice none 0 0, .slice none 0 0, iv 0] hF hS rfl (by kernel_rfl) ⟨by kernel_rfl⟩ (by kernel_rfl) (by kernel_rfl) (by kernel_rfl) (by kernel_rfl) ⟨by kernel_rfl⟩ fun w a hF hS => ?_)
      refine rn 2 4 [(6, pb b8), (7, .slice none 0 0), (8, iv 4)] hF fun a hF => ?_
      refine wfn rfl ?_
      refine wpIn_ret (ret_block <| ret_then <| ret_then <| ret_block <| ret_then <| fn_ret [.cell 6 102, .tmp 7, .tmp 8] [.agg #[.pointer none, .slice none 0 0, .slice none 0 0, iv 0], .slice none 0 0, iv 4] hF rfl ⟨⟨_, rfl, loadVarN (cs := [.pointer none, .slice none 0 0, .slice none 0 0, iv 0]) (by kernel_rfl) ((hS.blk (i := 0) rfl).cells rfl)⟩, rfl, rfl, trivial⟩ ?_)
      have hr_ := Option.some.inj h
      subst hr_
      exact ⟨μ, none, none, 0, none, 0, none, 0, hext, rfl, PtM.nil, ArrM.nil, ArrM.nil, ArrM.nil, St.pick [2] (by decide) hS⟩
     ·replace h := bif_f h hc
      refine wpIn_skip (norm_block <| norm_then <| ?_)
      refine WI.region ?_
      replace h := bindS h
      obtain ⟨x129, hx129, h⟩ := h
      refine rno 2 [.run [] (binOp .add 3 (iv x125) (iv 1)) (iv x129)] 2 [(1, sv ad1 p1 cap2), (2, sv ad4 p2 cap5), (3, pb b7), (6, pb b8), (27, sv ad4 p2 cap5), (28, iv (ln p2)), (29, iv x129)] hF (ocons (obAddC (fun _ => hx129)) onil) fun a hF => ?_
      refine wfn rfl ?_
      rw [hk4] at h
      exact ⟨n_, Nat.lt_succ_self _, x129, hF.sub (by kernel_rfl), St.pick [0, 1, 2] (by decide) hS, h⟩
    ·replace h := bif_f h hc
     refine wpIn_exit (exit_then <| exit_then <| exit_hit <| norm_then ?_)
     exact ⟨hF.sub (by kernel_rfl), St.pick [0, 1, 2] (by decide) hS, h⟩
   rintro a w ⟨hF, hS, h⟩
   rw [plan_judged_K1] at h
   refine esr ?_
   refine rno 2 [.run [] (Instr.loadAt 31 (pb b7)) (p0.ag)] 2 [(1, sv ad1 p1 cap2), (2, sv ad4 p2 cap5), (6, pb b8), (41, p0.ag), (42, sv ad1 p1 cap2)] hF (ocons (obN (us := p0.cells) (by kernel_rfl) (fun _ hd => ((hS.at_ hd).blk (i := 1) rfl).cells rfl)) onil) fun a hF => ?_
   replace h := bindS h
   obtain ⟨y23, hy23, h⟩ := h
   refine SK.wi (callK (f := 56) (args := #[p0.ag, sv ad1 p1 cap2]) (R := fun v w2 => ∃ ν24 pv25, μ.ext w.heap.size ν24 ∧ v = .pointer pv25 ∧ PtM ν24 113 Rp113 pv25 y23 ∧ St w [frzR w.heap.size ν24] w2) (fun v22 => [(1, sv ad1 p1 cap2), (2, sv ad4 p2 cap5), (6, pb b8), (43, v22)]) hF (by kernel_rfl) ⟨by kernel_rfl⟩ (Calls.mono (plan_newDesk_ok F p0 p1 _ hy23 μ w (hS.frz (i := 2) rfl hlow) hA3) (by rintro e w2 ⟨ν24, pv25, hx27, rfl, hA26, h⟩; exact ⟨_, rfl, ν24, pv25, hx27, rfl, hA26, h⟩)) (fun _ => ⟨by kernel_rfl⟩) ?_)
   rintro v22 w a ⟨ν24, pv25, hx27, rfl, hA26, hQ⟩ hF
   replace hext := Frz.ext_trans hext (Frz.ext_mono hx27 hS.ext.size)
   obtain ⟨hlow, hS⟩ := hS.frzMerge (i := 2) rfl hlow hx27 hQ
   replace hA3 := hA3.mono hx27.1
   replace hA6 := hA6.mono hx27.1
   replace hS : St w0 [blk b8 102 #[.pointer none, .slice none 0 0, .slice none 0 0, iv 0], blk b7 31 p0.ar, fz w0 ν24] w := hS
   refine rn 1 4 [(1, sv ad1 p1 cap2), (6, pb b8), (43, .pointer pv25), (44, sv ad4 p2 cap5)] hF fun a hF => ?_
   replace h := bindS h
   obtain ⟨y29, hy29, h⟩ := h
   refine SK.wi (callK (f := 76) (args := #[.pointer pv25, sv ad4 p2 cap5]) (R := fun v w2 => ∃ ν30 pv31 ad32 cap33 ad34 cap35, ν24.ext w.heap.size ν30 ∧ v = .agg #[.pointer pv31, sv ad32 y29.jobs cap33, sv ad34 y29.at_ cap35, iv y29.done] ∧ PtM ν30 113 Rp113 pv31 y29.desk ∧ ArrM ν30 1 fI ad32 cap33 y29.jobs ∧ ArrM ν30 1 fI ad34 cap35 y29.at_ ∧ St w [frzR w.heap.size ν30] w2) (fun v28 => [(1, sv ad1 p1 cap2), (6, pb b8), (45, v28)]) hF (by kernel_rfl) ⟨by kernel_rfl⟩ (Calls.mono (pplan_desk_of_ok F y23 p2 _ hy29 ν24 w (hS.frz (i := 2) rfl hlow) hA26 hA6) (by rintro e w2 ⟨ν30, pv31, ad32, cap33, ad34, cap35, hx39, rfl, hA36, hA37, hA38, h⟩; exact ⟨_, rfl, ν30, pv31, ad32, cap33, ad34, cap35, hx39, rfl, hA36, hA37, hA38, h⟩)) (fun _ => ⟨by kernel_rfl⟩) ?_)
   rintro v28 w a ⟨ν30, pv31, ad32, cap33, ad34, cap35, hx39, rfl, hA36, hA37, hA38, hQ⟩ hF
   replace hext := Frz.ext_trans hext (Frz.ext_mono hx39 hS.ext.size)
   obtain ⟨hlow, hS⟩ := hS.frzMerge (i := 2) rfl hlow hx39 hQ
   replace hA3 := hA3.mono hx39.1
   replace hA6 := hA6.mono hx39.1
   replace hA26 := hA26.mono Rp113.mono hx39.1
   replace hS : St w0 [blk b8 102 #[.pointer none, .slice none 0 0, .slice none 0 0, iv 0], blk b7 31 p0.ar, fz w0 ν30] w := hS
   refine SK.wi (allocK (t := 102) (fun b40 => [(1, sv ad1 p1 cap2), (6, pb b8), (12, pb b40), (45, .agg #[.pointer pv31, sv ad32 y29.jobs cap33, sv ad34 y29.at_ cap35, iv y29.done])]) #[.pointer none, .slice none 0 0, .slice none 0 0, iv 0] hF hS (by kernel_rfl) ⟨by kernel_rfl⟩ (by kernel_rfl) (fun _ => ⟨by kernel_rfl⟩) fun b40 w a hF hS => ?_)
   refine SK.wi (storeK (t := 102) [(1, sv ad1 p1 cap2), (6, pb b8), (12, pb b40)] 0 0 (.agg #[.pointer pv31, sv ad32 y29.jobs cap33, sv ad34 y29.at_ cap35, iv y29.done]) #[.pointer pv31, sv ad32 y29.jobs cap33, sv ad34 y29.at_ cap35, iv y29.done] hF hS rfl (by kernel_rfl) ⟨by kernel_rfl⟩ (by kernel_rfl) (by kernel_rfl) (by kernel_rfl) (by kernel_rfl) ⟨by kernel_rfl⟩ fun w a hF hS => ?_)
   refine wfn rfl ?_
   refine esr ?_
   refine rno 1 [.run [] (Instr.loadAt 102 (pb b40)) (.agg #[.pointer pv31, sv ad32 y29.jobs cap33, sv ad34 y29.at_ cap35, iv y29.done])] 1 [(1, sv ad1 p1 cap2), (6, pb b8), (12, pb b40), (46, .agg #[.pointer pv31, sv ad32 y29.jobs cap33, sv ad34 y29.at_ cap35, iv y29.done])] hF (ocons (obN (us := [.pointer pv31, sv ad32 y29.jobs cap33, sv ad34 y29.at_ cap35, iv y29.done]) (by kernel_rfl) (fun _ hd => ((hS.at_ hd).blk (i := 0) rfl).cells rfl)) onil) fun a hF => ?_
   replace h := bindS h
   obtain ⟨y42, hy42, h⟩ := h
   refine SK.wi (callK (f := 77) (args := #[.agg #[.pointer pv31, sv ad32 y29.jobs cap33, sv ad34 y29.at_ cap35, iv y29.done]]) (R := fun v w2 => ∃ ad43 cap44, v = sv ad43 y42 cap44 ∧ St w [arr 3 1 fI ad43 y42.length cap44 y42] w2) (fun v41 => [(1, sv ad1 p1 cap2), (6, pb b8), (12, pb b40), (47, v41)]) hF (by kernel_rfl) ⟨by kernel_rfl⟩ (Calls.mono (plan_line_gaps_ok F y29 _ hy42 (memOf w) w (memOf_at w) (hA36.mono Rp113.mono (FrzAt.le_mem (hS.frz (i := 3) rfl hlow))) (hA37.mono (FrzAt.le_mem (hS.frz (i := 3) rfl hlow))) (hA38.mono (FrzAt.le_mem (hS.frz (i := 3) rfl hlow)))) (by rintro e w2 ⟨ad43, cap44, rfl, h⟩; exact ⟨_, rfl, ad43, cap44, rfl, h⟩)) (fun _ => ⟨by kernel_rfl⟩) ?_)
   rintro v41 w a ⟨ad43, cap44, rfl, hQ⟩ hF
   replace hS : St w0 [arr 3 1 fI ad43 y42.length cap44 y42, blk b40 102 #[.pointer pv31, sv ad32 y29.jobs cap33, sv ad34 y29.at_ cap35, iv y29.done], blk b8 102 #[.pointer none, .slice none 0 0, .slice none 0 0, iv 0], blk b7 31 p0.ar, fz w0 ν30] w := hS.madeL hQ
   refine rn 1 3 [(1, sv ad1 p1 cap2), (6, pb b8), (12, pb b40), (13, sv ad43 y42 cap44)] hF fun a hF => ?_
   refine wfn rfl ?_
   refine ecut (fun a w => ∃ (l79 : (List Int)) (ad77 : Option Addr) (cap78 : Nat), Fr 75 [] [(6, pb b8), (12, pb b40), (13, sv ad77 l79 cap78)] a ∧ St w0 [arr 3 1 fI ad77 l79.length cap78 l79, blk b40 102 #[.pointer pv31, sv ad32 y29.jobs cap33, sv ad34 y29.at_ cap35, iv y29.done], blk b8 102 #[.pointer none, .slice none 0 0, .slice none 0 0, iv 0], blk b7 31 p0.ar, fz w0 ν30] w ∧ plan_judged_K2 y29 l79 = some res) ?_ ?_
   ·skip
    refine esr ?_
    refine rn 3 3 [(1, sv ad1 p1 cap2), (6, pb b8), (12, pb b40), (13, sv ad43 y42 cap44), (49, iv (ln y42)), (50, iv 0)] hF fun a hF => ?_
    refine wfn rfl ?_
    refine wpIn_block ?_
    refine eloop (fun n_ a w => ∃ (l106 : (List Int)) (x107 : Int) (x108 : Int) (ad104 : Option Addr) (cap105 : Nat), Fr 75 [] [(1, sv ad1 p1 cap2), (6, pb b8), (12, pb b40), (13, sv ad104 l106 cap105), (49, iv x107), (50, iv x108)] a ∧ St w0 [arr 3 1 fI ad104 l106.length cap105 l106, blk b40 102 #[.pointer pv31, sv ad32 y29.jobs cap33, sv ad34 y29.at_ cap35, iv y29.done], blk b8 102 #[.pointer none, .slice none 0 0, .slice none 0 0, iv 0], blk b7 31 p0.ar, fz w0 ν30] w ∧ plan_judged_L3 p1 y29 n_ l106 x107 x108 = some res) F ⟨y42, (ln y42), 0, ad43, cap44, hF.sub (by kernel_rfl), St.pick [0, 1, 2, 3, 4] (by decide) hS, h⟩ ?_
    rintro n_ a w ⟨l106, x107, x108, ad104, cap105, hF, hS, h⟩
    rcases n_ with _ | n_
    ·cases (show (none : Option (plan_line × (List Int) × Int)) = some res from h)
    obtain ⟨k3, hk3⟩ : ∃ k, k = plan_judged_L3 p1 y29 n_ := ⟨_, rfl⟩
    replace h : plan_judged_B3 p1 y29 k3 l106 x107 x108 = some res := by rw [hk3]; exact h
    rw [plan_judged_B3] at h
    refine esr ?_
    refine rn 1 1 [(1, sv ad1 p1 cap2), (6, pb b8), (12, pb b40), (13, sv ad104 l106 cap105), (49, iv x107), (50, iv x108), (51, .bool (decide (x108 < x107)))] hF fun a hF => ?_
    refine wfn rfl ?_
    refine eseq ?_
    refine econd hF rfl (fun hc => ?_) (fun hc => ?_)
    ·replace h := bif_t h hc
     refine wpIn_skip (norm_then ?_)
     refine eseq ?_
     refine wpIn_block ?_
     refine esr ?_
     refine rn 2 2 [(1, sv ad1 p1 cap2), (6, pb b8), (12, pb b40), (13, sv ad104 l106 cap105), (14, iv x108), (49, iv x107), (50, iv x108)] hF fun a hF => ?_
     refine wfn rfl ?_
     refine eseq ?_
     refine esr ?_
     replace h := bindS h
     obtain ⟨u110, hu110, h⟩ := h
     refine rno 5 [.run [] (Instr.indexAt 40 (sv ad104 l106 cap105) (iv x108)) (.pointer (some (slAddr ad104 x108 1))), .run [] (Instr.loadAt 3 (.pointer (some (slAddr ad104 x108 1)))) (iv u110)] 5 [(1, sv ad1 p1 cap2), (6, pb b8), (12, pb b40), (13, sv ad104 l106 cap105), (14, iv x108), (49, iv x107), (50, iv x108), (57, .bool (u110 == 0))] hF (ocons (obIdxQ (hS.arr (i := 0) rfl) (by kernel_rfl) (fun _ => hu110)) (ocons (obElQ (i := x108) 0 fI_len (fun _ hd => ((hS.at_ hd).arr (i := 0) rfl)) (by kernel_rfl) (fun _ => hu110) rfl) onil)) fun a hF => ?_
     refine wfn rfl ?_
     refine econd hF rfl (fun hc => ?_) (fun hc => ?_)
     ·replace h := bif_t h hc
      refine esr ?_
      refine rn 1 1 [(6, pb b8), (58, .agg #[.pointer none, .slice none 0 0, .slice none 0 0, iv 0])] hF fun a hF => ?_
      refine SK.wi (storeK (t := 102) [(6, pb b8)] 2 0 (.agg #[.pointer none, .slice none 0 0, .slice none 0 0, iv 0]) #[.pointer none, .slice none 0 0, .slice none 0 0, iv 0] hF hS rfl (by kernel_rfl) ⟨by kernel_rfl⟩ (by kernel_rfl) (by kernel_rfl) (by kernel_rfl) (by kernel_rfl) ⟨by kernel_rfl⟩ fun w a hF hS => ?_)
      refine rn 2 4 [(6, pb b8), (7, .slice none 0 0), (8, iv 23)] hF fun a hF => ?_
      refine wfn rfl ?_
      refine wpIn_ret (ret_then <| ret_block <| ret_then <| ret_then <| ret_block <| ret_then <| fn_ret [.cell 6 102, .tmp 7, .tmp 8] [.agg #[.pointer none, .slice none 0 0, .slice none 0 0, iv 0], .slice none 0 0, iv 23] hF rfl ⟨⟨_, rfl, loadVarN (cs := [.pointer none, .slice none 0 0, .slice none 0 0, iv 0]) (by kernel_rfl) ((hS.blk (i := 2) rfl).cells rfl)⟩, rfl, rfl, trivial⟩ ?_)
      have hr_ := Option.some.inj h
      subst hr_
      exact ⟨ν30, none, none, 0, none, 0, none, 0, hext, rfl, PtM.nil, ArrM.nil, ArrM.nil, ArrM.nil, St.pick [4] (by decide) hS⟩
     ·replace h := bif_f h hc
      refine wpIn_skip (norm_then ?_)
      replace h := bindS h
      obtain ⟨u111, hu111, h⟩ := h
      replace h := bindS h
      obtain ⟨u112, hu112, h⟩ := h
      replace h := bindS h
      obtain ⟨x113, hx113, h⟩ := h
      replace h := bindS h
      obtain ⟨u114, hu114, h⟩ := h
      refine runD (obs := [.run [] (Instr.indexAt 43 (sv ad1 p1 cap2) (iv x108)) (.pointer (some (slAddr ad1 x108 8))), .run [] (Instr.loadAt 3 (.pointer (some ((slAddr ad1 x108 8).add 7)))) (iv u111.Every), .run [] (Instr.indexAt 40 (sv ad104 l106 cap105) (iv x108)) (.pointer (some (slAddr ad104 x108 1))), .run [] (Instr.loadAt 3 (.pointer (some (slAddr ad104 x108 1)))) (iv u112), .run [] (binOp .sub 3 (iv u111.Every) (iv u112)) (iv x113), .run [] (Instr.indexAt 40 (sv ad104 l106 cap105) (iv x108)) (.pointer (some (slAddr ad104 x108 1)))]) 13 [(1, sv ad1 p1 cap2), (6, pb b8), (12, pb b40), (13, sv ad104 l106 cap105), (49, iv x107), (50, iv x108), (70, iv x113), (71, .pointer (some (slAddr ad104 x108 1)))] (by kernel_rfl) hF (by kernel_rfl) (ocons (obIdxQ (hA3 _ (hS.frz (i := 4) rfl hlow)) (by kernel_rfl) (fun _ => hu111)) (ocons (obElQ (i := x108) 7 plan_Job.cells_len (fun _ hd => (hA3 _ ((hS.later hd).frz (i := 4) rfl hlow))) (by kernel_rfl) (fun _ => hu111) rfl) (ocons (obIdxQ (hS.arr (i := 0) rfl) (by kernel_rfl) (fun _ => hu112)) (ocons (obElQ (i := x108) 0 fI_len (fun _ hd => ((hS.later hd).arr (i := 0) rfl)) (by kernel_rfl) (fun _ => hu112) rfl) (ocons (obSubC (fun _ => hx113)) (ocons (obIdxQ (hS.arr (i := 0) rfl) (by kernel_rfl) (fun _ => hu114)) onil)))))) ⟨by kernel_rfl⟩ fun a w hF hx => ?_
      replace hS := hS.later hx
      replace h := bindS h
      obtain ⟨l115, hl115, h⟩ := h
      refine SK.wi (setK (j := x108) (t := 3) [(1, sv ad1 p1 cap2), (6, pb b8), (12, pb b40), (13, sv ad104 l106 cap105), (49, iv x107), (50, iv x108)] 0 0 u114 x113 (iv x113) hF hS rfl (by kernel_rfl) ⟨by kernel_rfl⟩ fI_len hu114 rfl (by kernel_rfl) (by kernel_rfl) (by kernel_rfl) hl115 ⟨by kernel_rfl⟩ fun w a hF hl hS => ?_)
      simp only [sv, ln, hl] at hF hS
      refine WI.fin rfl (norm_block <| norm_then <| ?_)
      refine WI.region ?_
      replace h := bindS h
      obtain ⟨x116, hx116, h⟩ := h
      refine rno 2 [.run [] (binOp .add 3 (iv x108) (iv 1)) (iv x116)] 2 [(1, sv ad1 p1 cap2), (6, pb b8), (12, pb b40), (13, sv ad104 l115 cap105), (49, iv x107), (50, iv x116)] hF (ocons (obAddC (fun _ => hx116)) onil) fun a hF => ?_
      refine wfn rfl ?_
      rw [hk3] at h
      exact ⟨n_, Nat.lt_succ_self _, l115, x107, x116, ad104, cap105, hF.sub (by kernel_rfl), St.pick [0, 1, 2, 3, 4] (by decide) hS, h⟩
    ·replace h := bif_f h hc
     refine wpIn_exit (exit_then <| exit_then <| exit_hit <| norm_then ?_)
     exact ⟨l106, ad104, cap105, hF.sub (by kernel_rfl), St.pick [0, 1, 2, 3, 4] (by decide) hS, h⟩
   rintro a w ⟨l79, ad77, cap78, hF, hS, h⟩
   rw [plan_judged_K2] at h
   refine esr ?_
   refine rno 2 [.run [] (Instr.loadAt 102 (pb b40)) (.agg #[.pointer pv31, sv ad32 y29.jobs cap33, sv ad34 y29.at_ cap35, iv y29.done])] 2 [(6, pb b8), (73, .agg #[.pointer pv31, sv ad32 y29.jobs cap33, sv ad34 y29.at_ cap35, iv y29.done]), (74, sv ad77 l79 cap78)] hF (ocons (obN (us := [.pointer pv31, sv ad32 y29.jobs cap33, sv ad34 y29.at_ cap35, iv y29.done]) (by kernel_rfl) (fun _ hd => ((hS.at_ hd).blk (i := 1) rfl).cells rfl)) onil) fun a hF => ?_
   refine SK.wi (storeK (t := 102) [(6, pb b8), (74, sv ad77 l79 cap78)] 2 0 (.agg #[.pointer pv31, sv ad32 y29.jobs cap33, sv ad34 y29.at_ cap35, iv y29.done]) #[.pointer pv31, sv ad32 y29.jobs cap33, sv ad34 y29.at_ cap35, iv y29.done] hF hS rfl (by kernel_rfl) ⟨by kernel_rfl⟩ (by kernel_rfl) (by kernel_rfl) (by kernel_rfl) (by kernel_rfl) ⟨by kernel_rfl⟩ fun w a hF hS => ?_)
   refine rn 2 5 [(6, pb b8), (7, sv ad77 l79 cap78), (8, iv 0)] hF fun a hF => ?_
   refine wfn rfl ?_
   refine wpIn_ret (fn_ret [.cell 6 102, .tmp 7, .tmp 8] [.agg #[.pointer pv31, sv ad32 y29.jobs cap33, sv ad34 y29.at_ cap35, iv y29.done], sv ad77 l79 cap78, iv 0] hF rfl ⟨⟨_, rfl, loadVarN (cs := [.pointer pv31, sv ad32 y29.jobs cap33, sv ad34 y29.at_ cap35, iv y29.done]) (by kernel_rfl) ((hS.blk (i := 2) rfl).cells rfl)⟩, rfl, rfl, trivial⟩ ?_)
   obtain ⟨ν80, hx81, hlow, hS, hz82⟩ := hS.freeze (i := 4) (j := 0) rfl rfl (by decide) hlow
   replace hA3 := hA3.mono hx81.1
   replace hA6 := hA6.mono hx81.1
   replace hA26 := hA26.mono Rp113.mono hx81.1
   replace hA36 := hA36.mono Rp113.mono hx81.1
   replace hA37 := hA37.mono hx81.1
   replace hA38 := hA38.mono hx81.1
   replace hext := Frz.ext_trans hext hx81
   replace hS : St w0 [blk b40 102 #[.pointer pv31, sv ad32 y29.jobs cap33, sv ad34 y29.at_ cap35, iv y29.done], blk b8 102 #[.pointer pv31, sv ad32 y29.jobs cap33, sv ad34 y29.at_ cap35, iv y29.done], blk b7 31 p0.ar, fz w0 ν80] w := hS
   have hA83 := ArrM.of_arr hz82
   have hr_ := Option.some.inj h
   subst hr_
   exact ⟨ν80, pv31, ad32, cap33, ad34, cap35, ad77, cap78, hext, rfl, hA36, hA37, hA38, hA83, St.pick [3] (by decide) hS⟩

theorem plan_line_kept_ok (F : Nat) (p0 : plan_line) (res : Bool) (h : plan_line_kept F p0 = some res) (μ : Frz) (w0 : World) (hm : FrzAt μ w0) {pv1 : Option Addr} {ad2 : Option Addr} {cap3 : Nat} {ad4 : Option Addr} {cap5 : Nat} (hA6 : PtM μ 113 Rp113 pv1 p0.desk) (hA7 : ArrM μ 1 fI ad2 cap3 p0.jobs) (hA8 : ArrM μ 1 fI ad4 cap5 p0.at_) : Calls Try.prog 58 #[.agg #[.pointer pv1, sv ad2 p0.jobs cap3, sv ad4 p0.at_ cap5, iv p0.done]] w0 (fun e w => e = .returned (.bool res) ∧ Ext w0 w) := by
 obtain ⟨hlow, hS⟩ := hm.init
 have hext := Frz.ext_refl w0.heap.size μ
 rw [plan_line_kept] at h
 refine fn_enterW Try.func58 rfl 29 [(0, .agg #[.pointer pv1, sv ad2 p0.jobs cap3, sv ad4 p0.at_ cap5, iv p0.done])] rfl rfl (by kernel_rfl) fun a w hw hF => ?_
 replace hS : St w0 [fz w0 μ] w := by rw [hw]; exact hS
 clear hw
 refine esr ?_
 refine SK.wi (boxK (t := 102) (fun b9 => [(1, pb b9)]) (.agg #[.pointer pv1, sv ad2 p0.jobs cap3, sv ad4 p0.at_ cap5, iv p0.done]) #[.pointer pv1, sv ad2 p0.jobs cap3, sv ad4 p0.at_ cap5, iv p0.done] hF hS (by kernel_rfl) ⟨by kernel_rfl⟩ (by kernel_rfl) (fun _ => ⟨by kernel_rfl⟩) fun b9 w a hF hS => ?_)
 refine rn 1 2 [(1, pb b9)] hF fun a hF => ?_
 refine wfn rfl ?_
 refine ecut (fun a w => Fr 29 [] [] a ∧ St w0 [blk b9 102 #[.pointer pv1, sv ad2 p0.jobs cap3, sv ad4 p0.at_ cap5, iv p0.done], fz w0 μ] w ∧ plan_line_kept_K1 = some res) ?_ ?_
 ·skip
  refine esr ?_
  refine rno 1 [.run [] (Instr.loadAt 102 (pb b9)) (.agg #[.pointer pv1, sv ad2 p0.jobs cap3, sv ad4 p0.at_ cap5, iv p0.done])] 1 [(1, pb b9), (5, .agg #[.pointer pv1, sv ad2 p0.jobs cap3, sv ad4 p0.at_ cap5, iv p0.done])] hF (ocons (obN (us := [.pointer pv1, sv ad2 p0.jobs cap3, sv ad4 p0.at_ cap5, iv p0.done]) (by kernel_rfl) (fun _ hd => ((hS.at_ hd).blk (i := 0) rfl).cells rfl)) onil) fun a hF => ?_
  replace h := bindS h
  obtain ⟨y79, hy79, h⟩ := h
  refine SK.wi (callK (f := 77) (args := #[.agg #[.pointer pv1, sv ad2 p0.jobs cap3, sv ad4 p0.at_ cap5, iv p0.done]]) (R := fun v w2 => ∃ ad80 cap81, v = sv ad80 y79 cap81 ∧ St w [arr 3 1 fI ad80 y79.length cap81 y79] w2) (fun v78 => [(1, pb b9), (6, v78)]) hF (by kernel_rfl) ⟨by kernel_rfl⟩ (Calls.mono (plan_line_gaps_ok F p0 _ hy79 (memOf w) w (memOf_at w) (hA6.mono Rp113.mono (FrzAt.le_mem (hS.frz (i := 1) rfl hlow))) (hA7.mono (FrzAt.le_mem (hS.frz (i := 1) rfl hlow))) (hA8.mono (FrzAt.le_mem (hS.frz (i := 1) rfl hlow)))) (by rintro e w2 ⟨ad80, cap81, rfl, h⟩; exact ⟨_, rfl, ad80, cap81, rfl, h⟩)) (fun _ => ⟨by kernel_rfl⟩) ?_)
  rintro v78 w a ⟨ad80, cap81, rfl, hQ⟩ hF
  replace hS : St w0 [arr 3 1 fI ad80 y79.length cap81 y79, blk b9 102 #[.pointer pv1, sv ad2 p0.jobs cap3, sv ad4 p0.at_ cap5, iv p0.done], fz w0 μ] w := hS.madeL hQ
  refine rn 2 4 [(1, pb b9), (6, sv ad80 y79 cap81), (7, iv (ln y79)), (8, iv 0)] hF fun a hF => ?_
  refine wfn rfl ?_
  refine wpIn_block ?_
  refine eloop (fun n_ a w => ∃ (x123 : Int), Fr 29 [] [(1, pb b9), (6, sv ad80 y79 cap81), (7, iv (ln y79)), (8, iv x123)] a ∧ St w0 [arr 3 1 fI ad80 y79.length cap81 y79, blk b9 102 #[.pointer pv1, sv ad2 p0.jobs cap3, sv ad4 p0.at_ cap5, iv p0.done], fz w0 μ] w ∧ plan_line_kept_L2 p0 y79 n_ x123 = some res) F ⟨0, hF.sub (by kernel_rfl), St.pick [0, 1, 2] (by decide) hS, h⟩ ?_
  rintro n_ a w ⟨x123, hF, hS, h⟩
  rcases n_ with _ | n_
  ·cases (show (none : Option Bool) = some res from h)
  obtain ⟨k2, hk2⟩ : ∃ k, k = plan_line_kept_L2 p0 y79 n_ := ⟨_, rfl⟩
  replace h : plan_line_kept_B2 p0 y79 k2 x123 = some res := by rw [hk2]; exact h
  rw [plan_line_kept_B2] at h
  refine esr ?_
  refine rn 1 1 [(1, pb b9), (6, sv ad80 y79 cap81), (7, iv (ln y79)), (8, iv x123), (9, .bool (decide (x123 < (ln y79))))] hF fun a hF => ?_
  refine wfn rfl ?_
  refine eseq ?_
  refine econd hF rfl (fun hc => ?_) (fun hc => ?_)
  ·replace h := bif_t h hc
   refine wpIn_skip (norm_then ?_)
   refine eseq ?_
   refine wpIn_block ?_
   refine esr ?_
   replace h := bindS h
   obtain ⟨u125, hu125, h⟩ := h
   refine rno 5 [.run [] (Instr.indexAt 40 (sv ad80 y79 cap81) (iv x123)) (.pointer (some (slAddr ad80 x123 1))), .run [] (Instr.loadAt 3 (.pointer (some (slAddr ad80 x123 1)))) (iv u125)] 5 [(1, pb b9), (3, iv x123), (4, iv u125), (6, sv ad80 y79 cap81), (7, iv (ln y79)), (8, iv x123)] hF (ocons (obIdxQ (hS.arr (i := 0) rfl) (by kernel_rfl) (fun _ => hu125)) (ocons (obElQ (i := x123) 0 fI_len (fun _ hd => ((hS.at_ hd).arr (i := 0) rfl)) (by kernel_rfl) (fun _ => hu125) rfl) onil)) fun a hF => ?_
   refine wfn rfl ?_
   refine esr ?_
   refine rn 3 3 [(1, pb b9), (3, iv x123), (4, iv u125), (6, sv ad80 y79 cap81), (7, iv (ln y79)), (8, iv x123), (15, .bool (u125 == 0))] hF fun a hF => ?_
   rcases Bool.eq_false_or_eq_true ((u125 == 0)) with hg126 | hg126
   ·replace h := bif_t h hg126
    rw [hg126] at hF
    refine skip_ 4 [(1, pb b9), (3, iv x123), (6, sv ad80 y79 cap81), (7, iv (ln y79)), (8, iv x123), (15, .bool true), (16, undef)] hF (by kernel_rfl) ⟨by kernel_rfl⟩ ⟨by kernel_rfl⟩ rfl fun a hF => ?_
    refine skip_ 5 [(1, pb b9), (3, iv x123), (6, sv ad80 y79 cap81), (7, iv (ln y79)), (8, iv x123), (15, .bool true), (16, undef), (17, undef)] hF (by kernel_rfl) ⟨by kernel_rfl⟩ ⟨by kernel_rfl⟩ rfl fun a hF => ?_
    refine skip_ 6 [(1, pb b9), (3, iv x123), (6, sv ad80 y79 cap81), (7, iv (ln y79)), (8, iv x123), (15, .bool true), (16, undef), (18, undef)] hF (by kernel_rfl) ⟨by kernel_rfl⟩ ⟨by kernel_rfl⟩ rfl fun a hF => ?_
    refine skip_ 7 [(1, pb b9), (3, iv x123), (6, sv ad80 y79 cap81), (7, iv (ln y79)), (8, iv x123), (15, .bool true), (16, undef), (19, undef)] hF (by kernel_rfl) ⟨by kernel_rfl⟩ ⟨by kernel_rfl⟩ rfl fun a hF => ?_
    refine skip_ 8 [(1, pb b9), (3, iv x123), (6, sv ad80 y79 cap81), (7, iv (ln y79)), (8, iv x123), (15, .bool true), (16, undef), (20, undef)] hF (by kernel_rfl) ⟨by kernel_rfl⟩ ⟨by kernel_rfl⟩ rfl fun a hF => ?_
    refine skip_ 9 [(1, pb b9), (3, iv x123), (6, sv ad80 y79 cap81), (7, iv (ln y79)), (8, iv x123), (15, .bool true), (16, undef), (21, undef)] hF (by kernel_rfl) ⟨by kernel_rfl⟩ ⟨by kernel_rfl⟩ rfl fun a hF => ?_
    refine skip_ 10 [(1, pb b9), (6, sv ad80 y79 cap81), (7, iv (ln y79)), (8, iv x123), (15, .bool true), (16, undef), (21, undef), (22, undef)] hF (by kernel_rfl) ⟨by kernel_rfl⟩ ⟨by kernel_rfl⟩ rfl fun a hF => ?_
    refine skip_ 11 [(1, pb b9), (6, sv ad80 y79 cap81), (7, iv (ln y79)), (8, iv x123), (15, .bool true), (16, undef), (23, undef)] hF (by kernel_rfl) ⟨by kernel_rfl⟩ ⟨by kernel_rfl⟩ rfl fun a hF => ?_
    refine skip_ 12 [(1, pb b9), (6, sv ad80 y79 cap81), (7, iv (ln y79)), (8, iv x123), (15, .bool true), (16, undef), (24, undef)] hF (by kernel_rfl) ⟨by kernel_rfl⟩ ⟨by kernel_rfl⟩ rfl fun a hF => ?_
    refine skip_ 13 [(1, pb b9), (6, sv ad80 y79 cap81), (7, iv (ln y79)), (8, iv x123), (15, .bool true), (16, undef), (25, undef)] hF (by kernel_rfl) ⟨by kernel_rfl⟩ ⟨by kernel_rfl⟩ rfl fun a hF => ?_
    refine skip_ 14 [(1, pb b9), (6, sv ad80 y79 cap81), (7, iv (ln y79)), (8, iv x123), (15, .bool true), (26, undef)] hF (by kernel_rfl) ⟨by kernel_rfl⟩ ⟨by kernel_rfl⟩ rfl fun a hF => ?_
    refine rn 1 15 [(1, pb b9), (6, sv ad80 y79 cap81), (7, iv (ln y79)), (8, iv x123), (27, .bool true)] hF fun a hF => ?_
    refine wfn rfl ?_
    refine wpIn_cond_true (hF.get rfl) ?_
    refine esr ?_
    refine rn 1 1 [(2, .bool false)] hF fun a hF => ?_
    refine wfn rfl ?_
    refine wpIn_ret (ret_block <| ret_then <| ret_then <| ret_block <| ret_then <| fn_ret [.tmp 2] [.bool false] hF rfl ⟨rfl, trivial⟩ ?_)
    have hr_ := Option.some.inj h
    subst hr_
    exact ⟨rfl, hS.ext⟩
   ·replace h := bif_f h hg126
    rw [hg126] at hF
    replace h := bindS h
    obtain ⟨d127, hd127, h⟩ := h
    obtain ⟨b128, cs129, hp130, hB131, hR132⟩ := PtM.some hA6 hd127
    obtain ⟨ad133, cap134, ad135, cap136, ad137, cap138, css139, rfl, hA140, hA141, hA142⟩ := hR132
    try rw [hp130] at hF
    try rw [hp130] at hS
    try rw [hp130] at hB131
    replace h := bindS h
    obtain ⟨u143, hu143, h⟩ := h
    refine rno 12 [.run [⟨15, false, false⟩] (Instr.loadAt 100 (pb b9)) (pb b128), .run [⟨15, false, false⟩] (Instr.loadAt 43 (pb b128)) (sv ad133 d127.jobs cap134), .run [⟨15, false, false⟩] (Instr.indexAt 43 (sv ad133 d127.jobs cap134) (iv x123)) (.pointer (some (slAddr ad133 x123 8))), .run [⟨15, false, false⟩] (Instr.loadAt 3 (.pointer (some ((slAddr ad133 x123 8).add 7)))) (iv u143.Every)] 15 [(1, pb b9), (6, sv ad80 y79 cap81), (7, iv (ln y79)), (8, iv x123), (27, .bool (decide (u125 > u143.Every)))] hF (ocons (ob1 (by kernel_rfl) (fun _ hd => (hS.at_ hd).cell (i := 1) (j := 0) rfl rfl)) (ocons (ob1 (by kernel_rfl) (fun _ hd => (hB131.blk ((hS.at_ hd).frz (i := 2) rfl hlow)).cell1 (j := 0) rfl)) (ocons (obIdxQ (hA140 _ (hS.frz (i := 2) rfl hlow)) (by kernel_rfl) (fun _ => hu143)) (ocons (obElQ (i := x123) 7 plan_Job.cells_len (fun _ hd => (hA140 _ ((hS.at_ hd).frz (i := 2) rfl hlow))) (by kernel_rfl) (fun _ => hu143) rfl) onil)))) fun a hF => ?_
    refine wfn rfl ?_
    refine econd hF rfl (fun hc => ?_) (fun hc => ?_)
    ·replace h := bif_t h hc
     refine esr ?_
     refine rn 1 1 [(2, .bool false)] hF fun a hF => ?_
     refine wfn rfl ?_
     refine wpIn_ret (ret_block <| ret_then <| ret_then <| ret_block <| ret_then <| fn_ret [.tmp 2] [.bool false] hF rfl ⟨rfl, trivial⟩ ?_)
     have hr_ := Option.some.inj h
     subst hr_
     exact ⟨rfl, hS.ext⟩
    ·replace h := bif_f h hc
     refine wpIn_skip (norm_block <| norm_then <| ?_)
     refine WI.region ?_
     replace h := bindS h
     obtain ⟨x144, hx144, h⟩ := h
     refine rno 2 [.run [] (binOp .add 3 (iv x123) (iv 1)) (iv x144)] 2 [(1, pb b9), (6, sv ad80 y79 cap81), (7, iv (ln y79)), (8, iv x144)] hF (ocons (obAddC (fun _ => hx144)) onil) fun a hF => ?_
     refine wfn rfl ?_
     try simp only [pb, ← hp130] at hF
     try simp only [pb, ← hp130] at hS
     rw [hk2] at h
     exact ⟨n_, Nat.lt_succ_self _, x144, hF.sub (by kernel_rfl), St.pick [0, 1, 2] (by decide) hS, h⟩
  ·replace h := bif_f h hc
   refine wpIn_exit (exit_then <| exit_then <| exit_hit <| norm_then ?_)
   exact ⟨hF.sub (by kernel_rfl), St.pick [1, 2] (by decide) hS, h⟩
 rintro a w ⟨hF, hS, h⟩
 rw [plan_line_kept_K1] at h
 refine esr ?_
 refine rn 1 1 [(2, .bool true)] hF fun a hF => ?_
 refine wfn rfl ?_
 refine wpIn_ret (fn_ret [.tmp 2] [.bool true] hF rfl ⟨rfl, trivial⟩ ?_)
 have hr_ := Option.some.inj h
 subst hr_
 exact ⟨rfl, hS.ext⟩

theorem plan_line_cover_ok : ∀ (F : Nat) (p0 : plan_line) (p1 : (List plan_Cut)) (res : Except Value (List plan_Cut)) (h : plan_line_cover F p0 p1 = some res) (μ : Frz) (w0 : World) (hm : FrzAt μ w0) {pv1 : Option Addr} {ad2 : Option Addr} {cap3 : Nat} {ad4 : Option Addr} {cap5 : Nat} {ad9 : Option Addr} {cap10 : Nat} {css11 : List (List Value)} (hA6 : PtM μ 113 Rp113 pv1 p0.desk) (hA7 : ArrM μ 1 fI ad2 cap3 p0.jobs) (hA8 : ArrM μ 1 fI ad4 cap5 p0.at_) (hA12 : ArrQ μ 2 Rp65 ad9 cap10 css11 p1), Calls Try.prog 65 #[.agg #[.pointer pv1, sv ad2 p0.jobs cap3, sv ad4 p0.at_ cap5, iv p0.done], sv ad9 p1 cap10] w0 (fun e w => (∃ r_, res = .ok r_ ∧ ∃ (ν_ : Frz) (ad322 : Option Addr) (cap323 : Nat) (css324 : List (List Value)), μ.ext w0.heap.size ν_ ∧ e = .returned (sv ad322 r_ cap323) ∧ ArrQ ν_ 2 Rp65 ad322 cap323 css324 r_ ∧ St w0 [fz w0 ν_] w) ∨ ∃ v_, res = .error v_ ∧ e = .panicked [{ v := v_, recovered := false }] ∧ Ext w0 w) := by
 intro F
 induction F with
 | zero =>
  intro p0 p1 res h
  cases (show (none : Option (Except Value (List plan_Cut))) = some res from h)
 | succ F ih =>
  intro p0 p1 res h μ w0 hm pv1 ad2 cap3 ad4 cap5 ad9 cap10 css11 hA6 hA7 hA8 hA12
  obtain ⟨hlow, hS⟩ := hm.init
  have hext := Frz.ext_refl w0.heap.size μ
  replace h : plan_line_cover_R F (plan_line_cover F) p0 p1 = some res := h
  obtain ⟨self_, hself⟩ : ∃ s, s = plan_line_cover F := ⟨_, rfl⟩
  rw [← hself, plan_line_cover_R] at h
  refine fn_enterW Try.func65 rfl 89 [(0, .agg #[.pointer pv1, sv ad2 p0.jobs cap3, sv ad4 p0.at_ cap5, iv p0.done]), (1, sv ad9 p1 cap10)] rfl rfl (by kernel_rfl) fun a w hw hF => ?_
  replace hS : St w0 [fz w0 μ] w := by rw [hw]; exact hS
  clear hw
  refine esr ?_
  refine SK.wi (boxK (t := 102) (fun b13 => [(1, sv ad9 p1 cap10), (2, pb b13)]) (.agg #[.pointer pv1, sv ad2 p0.jobs cap3, sv ad4 p0.at_ cap5, iv p0.done]) #[.pointer pv1, sv ad2 p0.jobs cap3, sv ad4 p0.at_ cap5, iv p0.done] hF hS (by kernel_rfl) ⟨by kernel_rfl⟩ (by kernel_rfl) (fun _ => ⟨by kernel_rfl⟩) fun b13 w a hF hS => ?_)
  refine rn 1 2 [(1, sv ad9 p1 cap10), (2, pb b13)] hF fun a hF => ?_
  refine wfn rfl ?_
  refine ecut (fun a w => Fr 89 [] [(1, sv ad9 p1 cap10), (2, pb b13)] a ∧ St w0 [blk b13 102 #[.pointer pv1, sv ad2 p0.jobs cap3, sv ad4 p0.at_ cap5, iv p0.done], fz w0 μ] w ∧ plan_line_cover_K1 F self_ p0 p1 = some res) ?_ ?_
  ·skip
   refine esr ?_
   refine rn 3 3 [(1, sv ad9 p1 cap10), (2, pb b13), (10, .bool ((ln p1) == 0))] hF fun a hF => ?_
   refine wfn rfl ?_
   refine econd hF rfl (fun hc => ?_) (fun hc => ?_)
   ·replace h := bif_t h hc
    refine WI.region ?_
    refine rn 2 2 [(1, sv ad9 p1 cap10), (2, pb b13), (12, .iface 127 (.agg #[]))] hF fun a hF => ?_
    refine panic_ (t := 127) (v := .agg #[]) hF ⟨by kernel_rfl⟩ (panic_then <| fn_panic hF ?_)
    have hr_ := Option.some.inj h
    subst hr_
    exact .inr ⟨_, rfl, rfl, hS.ext⟩
   ·replace h := bif_f h hc
    refine wpIn_skip (norm_then ?_)
    exact ⟨hF.sub (by kernel_rfl), St.pick [0, 1] (by decide) hS, h⟩
  rintro a w ⟨hF, hS, h⟩
  rw [plan_line_cover_K1] at h
  refine esr ?_
  refine rno 4 [.run [] (Instr.loadAt 40 (.pointer (some ⟨b13, 1, none⟩))) (sv ad2 p0.jobs cap3)] 4 [(1, sv ad9 p1 cap10), (2, pb b13), (5, iv (ln p0.jobs))] hF (ocons (ob1 (by kernel_rfl) (fun _ hd => (hS.at_ hd).cell (i := 0) (j := 1) rfl rfl)) onil) fun a hF => ?_
  refine wfn rfl ?_
  refine esr ?_
  replace h := bindS h
  obtain ⟨u14, hu14, h⟩ := h
  obtain ⟨cs15, hcs16, hR17⟩ := getI_all2 hA12.2 hu14
  obtain ⟨ad18, cap19, rfl, hA20⟩ := hR17
  refine rno 5 [.run [] (Instr.indexAt 60 (sv ad9 p1 cap10) (iv 0)) (.pointer (some (slAddr ad9 0 2))), .run [] (Instr.loadAt 40 (.pointer (some (slAddr ad9 0 2)))) (sv ad18 u14.Begin cap19)] 5 [(1, sv ad9 p1 cap10), (2, pb b13), (5, iv (ln p0.jobs)), (6, sv ad18 u14.Begin cap19)] hF (ocons (obIdxQ (hA12.at (hS.frz (i := 1) rfl hlow)) (by kernel_rfl) (fun _ => hcs16)) (ocons (obElQ (i := 0) 0 (fN_len 2) (fun _ hd => (hA12.at ((hS.at_ hd).frz (i := 1) rfl hlow))) (by kernel_rfl) (fun _ => hcs16) rfl) onil)) fun a hF => ?_
  refine wfn rfl ?_
  refine ecut (fun a w => Fr 89 [] [(1, sv ad9 p1 cap10), (2, pb b13), (5, iv (ln p0.jobs)), (6, sv ad18 u14.Begin cap19)] a ∧ St w0 [blk b13 102 #[.pointer pv1, sv ad2 p0.jobs cap3, sv ad4 p0.at_ cap5, iv p0.done], fz w0 μ] w ∧ plan_line_cover_K2 F self_ p0 p1 u14 = some res) ?_ ?_
  ·skip
   refine eseq ?_
   rcases Bool.eq_false_or_eq_true ((bif (decide ((ln u14.Begin) < (ln p0.jobs))) then true else (decide ((ln p0.jobs) > 16)))) with hg317 | hg317
   ·replace h := bif_t h hg317
    refine runD (obs := [.run [⟨28, false, (bif (decide ((ln u14.Begin) < (ln p0.jobs))) then true else (decide ((ln p0.jobs) > 16)))⟩] (Instr.sliceAt 40 (sv ad18 u14.Begin cap19) none (some (iv (ln p0.jobs))) none) (.slice none 0 0), .run [⟨28, false, (bif (decide ((ln u14.Begin) < (ln p0.jobs))) then true else (decide ((ln p0.jobs) > 16)))⟩] (Instr.loadAt 40 (.pointer (some ⟨b13, 1, none⟩))) (.slice none 0 0), .call [⟨28, false, (bif (decide ((ln u14.Begin) < (ln p0.jobs))) then true else (decide ((ln p0.jobs) > 16)))⟩] 89 #[.slice none 0 0, .slice none 0 0] (.bool false)]) 17 [(1, sv ad9 p1 cap10), (2, pb b13), (5, iv (ln p0.jobs)), (6, sv ad18 u14.Begin cap19), (36, .bool (bif (bif (decide ((ln u14.Begin) < (ln p0.jobs))) then true else (decide ((ln p0.jobs) > 16))) then true else true))] (by kernel_rfl) hF (by kernel_rfl) (ocons (obNo (conds_no (i := 0) (c := ⟨28, false, (bif (decide ((ln u14.Begin) < (ln p0.jobs))) then true else (decide ((ln p0.jobs) > 16)))⟩) rfl (show ((bif (decide ((ln u14.Begin) < (ln p0.jobs))) then true else (decide ((ln p0.jobs) > 16))) == false) = false by rw [hg317]; rfl))) (ocons (obNo (conds_no (i := 0) (c := ⟨28, false, (bif (decide ((ln u14.Begin) < (ln p0.jobs))) then true else (decide ((ln p0.jobs) > 16)))⟩) rfl (show ((bif (decide ((ln u14.Begin) < (ln p0.jobs))) then true else (decide ((ln p0.jobs) > 16))) == false) = false by rw [hg317]; rfl))) (ocons (obNoC (conds_no (i := 0) (c := ⟨28, false, (bif (decide ((ln u14.Begin) < (ln p0.jobs))) then true else (decide ((ln p0.jobs) > 16)))⟩) rfl (show ((bif (decide ((ln u14.Begin) < (ln p0.jobs))) then true else (decide ((ln p0.jobs) > 16))) == false) = false by rw [hg317]; rfl))) onil))) ⟨by kernel_rfl⟩ fun a w hF hx => ?_
    replace hS := hS.later hx
    refine wfn rfl ?_
    refine econd hF rfl (fun hc => ?_) (fun hc => ?_)
    ·replace h := bif_t h hc
     refine WI.region ?_
     refine rn 2 2 [(1, sv ad9 p1 cap10), (2, pb b13), (5, iv (ln p0.jobs)), (6, sv ad18 u14.Begin cap19), (38, .iface 127 (.agg #[]))] hF fun a hF => ?_
     refine panic_ (t := 127) (v := .agg #[]) hF ⟨by kernel_rfl⟩ (panic_then <| fn_panic hF ?_)
     have hr_ := Option.some.inj h
     subst hr_
     exact .inr ⟨_, rfl, rfl, hS.ext⟩
    ·replace h := bif_f h hc
     refine wpIn_skip (norm_then ?_)
     exact ⟨hF.sub (by kernel_rfl), St.pick [0, 1] (by decide) hS, h⟩
   ·replace h := bif_f h hg317
    replace h := bindS h
    obtain ⟨l318, hl318, h⟩ := h
    have hA319 : ArrM μ 1 fI (slOff ad18 cap19 (0 : Int).toNat 1) (cap19 - (0 : Int).toNat) l318 := fun w_ hw_ => (hA20 w_ hw_).cutD fI_len hl318
    replace h := bindS h
    obtain ⟨y320, hy320, h⟩ := h
    refine runD (obs := [.run [⟨28, false, (bif (decide ((ln u14.Begin) < (ln p0.jobs))) then true else (decide ((ln p0.jobs) > 16)))⟩] (Instr.sliceAt 40 (sv ad18 u14.Begin cap19) none (some (iv (ln p0.jobs))) none) (.slice (slOff ad18 cap19 (0 : Int).toNat 1) l318.length (cap19 - (0 : Int).toNat)), .run [⟨28, false, (bif (decide ((ln u14.Begin) < (ln p0.jobs))) then true else (decide ((ln p0.jobs) > 16)))⟩] (Instr.loadAt 40 (.pointer (some ⟨b13, 1, none⟩))) (sv ad2 p0.jobs cap3), .call [⟨28, false, (bif (decide ((ln u14.Begin) < (ln p0.jobs))) then true else (decide ((ln p0.jobs) > 16)))⟩] 89 #[.slice (slOff ad18 cap19 (0 : Int).toNat 1) l318.length (cap19 - (0 : Int).toNat), sv ad2 p0.jobs cap3] (.bool y320)]) 17 [(1, sv ad9 p1 cap10), (2, pb b13), (5, iv (ln p0.jobs)), (6, sv ad18 u14.Begin cap19), (36, .bool (bif (bif (decide ((ln u14.Begin) < (ln p0.jobs))) then true else (decide ((ln p0.jobs) > 16))) then true else (!y320)))] (by kernel_rfl) hF (by kernel_rfl) (ocons (obCutH (by kernel_rfl) (hA20 _ (hS.frz (i := 1) rfl hlow)) (fun _ => hl318)) (ocons (ob1 (by kernel_rfl) (fun _ hd => (hS.later hd).cell (i := 0) (j := 1) rfl rfl)) (ocons (show Ob.ok _ Ext _ _ from fun hk w2 hd => slices_Equal_int_int_ok F l318 p0.jobs _ ((fun _ => hy320) hk) _ w2 (memOf_at w2) (hA319.mono (FrzAt.le_mem ((hS.later hd).frz (i := 1) rfl hlow))) (hA7.mono (FrzAt.le_mem ((hS.later hd).frz (i := 1) rfl hlow)))) onil))) ⟨by kernel_rfl⟩ fun a w hF hx => ?_
    replace hS := hS.later hx
    refine wfn rfl ?_
    refine econd hF rfl (fun hc => ?_) (fun hc => ?_)
    ·replace h := bif_t h hc
     refine WI.region ?_
     refine rn 2 2 [(1, sv ad9 p1 cap10), (2, pb b13), (5, iv (ln p0.jobs)), (6, sv ad18 u14.Begin cap19), (38, .iface 127 (.agg #[]))] hF fun a hF => ?_
     refine panic_ (t := 127) (v := .agg #[]) hF ⟨by kernel_rfl⟩ (panic_then <| fn_panic hF ?_)
     have hr_ := Option.some.inj h
     subst hr_
     exact .inr ⟨_, rfl, rfl, hS.ext⟩
    ·replace h := bif_f h hc
     refine wpIn_skip (norm_then ?_)
     exact ⟨hF.sub (by kernel_rfl), St.pick [0, 1] (by decide) hS, h⟩
  rintro a w ⟨hF, hS, h⟩
  rw [plan_line_cover_K2] at h
  refine eseq ?_
  refine esr ?_
  refine rn 8 8 [(1, sv ad9 p1 cap10), (2, pb b13), (46, .bool (bif (decide ((ln p0.jobs) > 0)) then ((ln u14.Begin) == (ln p0.jobs)) else false))] hF fun a hF => ?_
  refine wfn rfl ?_
  refine econd hF rfl (fun hc => ?_) (fun hc => ?_)
  ·replace h := bif_t h hc
   refine eseq ?_
   refine eseq ?_
   replace h := bindS h
   obtain ⟨u25, hu25, h⟩ := h
   replace h := bindS h
   obtain ⟨d32, hd32, h⟩ := h
   replace h := bindS h
   obtain ⟨x48, hx48, h⟩ := h
   rcases Bool.eq_false_or_eq_true ((!(plan_in u25.Late 0 x48))) with hg49 | hg49
   ·replace h := bif_t h hg49
    obtain ⟨cs50, hcs51, hR52⟩ := getI_all2 hA12.2 hu25
    obtain ⟨ad53, cap54, rfl, hA55⟩ := hR52
    obtain ⟨b56, cs57, hp58, hB59, hR60⟩ := PtM.some hA6 hd32
    obtain ⟨ad61, cap62, ad63, cap64, ad65, cap66, css67, rfl, hA68, hA69, hA70⟩ := hR60
    try rw [hp58] at hF
    try rw [hp58] at hS
    try rw [hp58] at hB59
    refine runD (obs := [.run [] (Instr.indexAt 60 (sv ad9 p1 cap10) (iv 0)) (.pointer (some (slAddr ad9 0 2))), .run [] (Instr.loadAt 3 (.pointer (some ((slAddr ad9 0 2).add 1)))) (iv u25.Late), .run [] (Instr.loadAt 100 (pb b13)) (pb b56), .run [] (Instr.loadAt 40 (.pointer (some ⟨b56, 1, none⟩))) (sv ad63 d32.takes cap64), .run [] (binOp .sub 3 (iv (ln d32.takes)) (iv 1)) (iv x48), .call [] 50 #[iv u25.Late, iv 0, iv x48] (.bool (plan_in u25.Late 0 x48)), .run [⟨60, false, (!(plan_in u25.Late 0 x48))⟩] (Instr.loadAt 102 (pb b13)) (.agg #[.pointer none, .slice none 0 0, .slice none 0 0, iv 0]), .run [⟨60, false, (!(plan_in u25.Late 0 x48))⟩] (Instr.indexAt 60 (sv ad9 p1 cap10) (iv 0)) (pb 0), .run [⟨60, false, (!(plan_in u25.Late 0 x48))⟩] (Instr.loadAt 3 (.pointer (some ⟨0, 1, none⟩))) (iv 0), .call [⟨60, false, (!(plan_in u25.Late 0 x48))⟩] 90 #[.agg #[.pointer none, .slice none 0 0, .slice none 0 0, iv 0], iv 0] (.bool false)]) 22 [(1, sv ad9 p1 cap10), (68, .bool (bif (!(plan_in u25.Late 0 x48)) then true else true))] (by kernel_rfl) hF (by kernel_rfl) (ocons (obIdxQ (hA12.at (hS.frz (i := 1) rfl hlow)) (by kernel_rfl) (fun _ => hcs51)) (ocons (obElQ (i := 0) 1 (fN_len 2) (fun _ hd => (hA12.at ((hS.later hd).frz (i := 1) rfl hlow))) (by kernel_rfl) (fun _ => hcs51) rfl) (ocons (ob1 (by kernel_rfl) (fun _ hd => (hS.later hd).cell (i := 0) (j := 0) rfl rfl)) (ocons (ob1 (by kernel_rfl) (fun _ hd => (hB59.blk ((hS.later hd).frz (i := 1) rfl hlow)).cell1 (j := 1) rfl)) (ocons (obSubC (fun _ => hx48)) (ocons (show Ob.ok _ Ext _ _ from fun hk w2 hd => plan_in_ok u25.Late 0 x48 _ rfl _ w2 (memOf_at w2) ) (ocons (obNo (conds_no (i := 0) (c := ⟨60, false, (!(plan_in u25.Late 0 x48))⟩) rfl (show ((!(plan_in u25.Late 0 x48)) == false) = false by rw [hg49]; rfl))) (ocons (obNo (conds_no (i := 0) (c := ⟨60, false, (!(plan_in u25.Late 0 x48))⟩) rfl (show ((!(plan_in u25.Late 0 x48)) == false) = false by rw [hg49]; rfl))) (ocons (obNo (conds_no (i := 0) (c := ⟨60, false, (!(plan_in u25.Late 0 x48))⟩) rfl (show ((!(plan_in u25.Late 0 x48)) == false) = false by rw [hg49]; rfl))) (ocons (obNoC (conds_no (i := 0) (c := ⟨60, false, (!(plan_in u25.Late 0 x48))⟩) rfl (show ((!(plan_in u25.Late 0 x48)) == false) = false by rw [hg49]; rfl))) onil)))))))))) ⟨by kernel_rfl⟩ fun a w hF hx => ?_
    replace hS := hS.later hx
    refine wfn rfl ?_
    refine econd hF rfl (fun hc => ?_) (fun hc => ?_)
    ·replace h := bif_t h hc
     refine WI.region ?_
     refine rn 2 2 [(1, sv ad9 p1 cap10), (70, .iface 127 (.agg #[]))] hF fun a hF => ?_
     refine panic_ (t := 127) (v := .agg #[]) hF ⟨by kernel_rfl⟩ (panic_then <| panic_then <| fn_panic hF ?_)
     have hr_ := Option.some.inj h
     subst hr_
     exact .inr ⟨_, rfl, rfl, hS.ext⟩
    ·replace h := bif_f h hc
     refine wpIn_skip (norm_then ?_)
     refine esr ?_
     replace h := bindS h
     obtain ⟨l71, hl71, h⟩ := h
     obtain ⟨css72, hcs73, hq74⟩ := cut_all2 hA12.2 hl71
     have hA75 : ArrQ μ 2 Rp65 (slOff ad9 cap10 (1 : Int).toNat 2) (cap10 - (1 : Int).toNat) css72 l71 := ⟨fun w_ hw_ => (hA12.1 w_ hw_).cutD (fN_len 2) hcs73, hq74⟩
     refine rno 3 [.run [] (Instr.sliceAt 60 (sv ad9 p1 cap10) (some (iv 1)) none none) (.slice (slOff ad9 cap10 (1 : Int).toNat 2) l71.length (cap10 - (1 : Int).toNat))] 3 [(4, .slice (slOff ad9 cap10 (1 : Int).toNat 2) l71.length (cap10 - (1 : Int).toNat))] hF (ocons (obCutL (by kernel_rfl) (hA12.at (hS.frz (i := 1) rfl hlow)) (fun _ => hl71)) onil) fun a hF => ?_
     refine wfn rfl ?_
     refine wpIn_ret (ret_then <| fn_ret [.tmp 4] [.slice (slOff ad9 cap10 (1 : Int).toNat 2) l71.length (cap10 - (1 : Int).toNat)] hF rfl ⟨rfl, trivial⟩ ?_)
     have hr_ := Option.some.inj h
     subst hr_
     exact .inl ⟨_, rfl, μ, (slOff ad9 cap10 (1 : Int).toNat 2), (cap10 - (1 : Int).toNat), css72, hext, rfl, hA75, St.pick [1] (by decide) hS⟩
   ·replace h := bif_f h hg49
    obtain ⟨cs76, hcs77, hR78⟩ := getI_all2 hA12.2 hu25
    obtain ⟨ad79, cap80, rfl, hA81⟩ := hR78
    obtain ⟨b82, cs83, hp84, hB85, hR86⟩ := PtM.some hA6 hd32
    obtain ⟨ad87, cap88, ad89, cap90, ad91, cap92, css93, rfl, hA94, hA95, hA96⟩ := hR86
    try rw [hp84] at hF
    try rw [hp84] at hS
    try rw [hp84] at hB85
    replace h := bindS h
    obtain ⟨u97, hu97, h⟩ := h
    obtain ⟨cs98, hcs99, hR100⟩ := getI_all2 hA12.2 hu97
    obtain ⟨ad101, cap102, rfl, hA103⟩ := hR100
    replace h := bindS h
    obtain ⟨y104, hy104, h⟩ := h
    refine runD (obs := [.run [] (Instr.indexAt 60 (sv ad9 p1 cap10) (iv 0)) (.pointer (some (slAddr ad9 0 2))), .run [] (Instr.loadAt 3 (.pointer (some ((slAddr ad9 0 2).add 1)))) (iv u25.Late), .run [] (Instr.loadAt 100 (pb b13)) (pb b82), .run [] (Instr.loadAt 40 (.pointer (some ⟨b82, 1, none⟩))) (sv ad89 d32.takes cap90), .run [] (binOp .sub 3 (iv (ln d32.takes)) (iv 1)) (iv x48), .call [] 50 #[iv u25.Late, iv 0, iv x48] (.bool (plan_in u25.Late 0 x48)), .run [⟨60, false, (!(plan_in u25.Late 0 x48))⟩] (Instr.loadAt 102 (pb b13)) (.agg #[pb b82, sv ad2 p0.jobs cap3, sv ad4 p0.at_ cap5, iv p0.done]), .run [⟨60, false, (!(plan_in u25.Late 0 x48))⟩] (Instr.indexAt 60 (sv ad9 p1 cap10) (iv 0)) (.pointer (some (slAddr ad9 0 2))), .run [⟨60, false, (!(plan_in u25.Late 0 x48))⟩] (Instr.loadAt 3 (.pointer (some ((slAddr ad9 0 2).add 1)))) (iv u97.Late), .call [⟨60, false, (!(plan_in u25.Late 0 x48))⟩] 90 #[.agg #[pb b82, sv ad2 p0.jobs cap3, sv ad4 p0.at_ cap5, iv p0.done], iv u97.Late] (.bool y104)]) 22 [(1, sv ad9 p1 cap10), (68, .bool (bif (!(plan_in u25.Late 0 x48)) then true else (!y104)))] (by kernel_rfl) hF (by kernel_rfl) (ocons (obIdxQ (hA12.at (hS.frz (i := 1) rfl hlow)) (by kernel_rfl) (fun _ => hcs77)) (ocons (obElQ (i := 0) 1 (fN_len 2) (fun _ hd => (hA12.at ((hS.later hd).frz (i := 1) rfl hlow))) (by kernel_rfl) (fun _ => hcs77) rfl) (ocons (ob1 (by kernel_rfl) (fun _ hd => (hS.later hd).cell (i := 0) (j := 0) rfl rfl)) (ocons (ob1 (by kernel_rfl) (fun _ hd => (hB85.blk ((hS.later hd).frz (i := 1) rfl hlow)).cell1 (j := 1) rfl)) (ocons (obSubC (fun _ => hx48)) (ocons (show Ob.ok _ Ext _ _ from fun hk w2 hd => plan_in_ok u25.Late 0 x48 _ rfl _ w2 (memOf_at w2) ) (ocons (obN (us := [pb b82, sv ad2 p0.jobs cap3, sv ad4 p0.at_ cap5, iv p0.done]) (by kernel_rfl) (fun _ hd => ((hS.later hd).blk (i := 0) rfl).cells rfl)) (ocons (obIdxQ (hA12.at (hS.frz (i := 1) rfl hlow)) (by kernel_rfl) (fun _ => hcs99)) (ocons (obElQ (i := 0) 1 (fN_len 2) (fun _ hd => (hA12.at ((hS.later hd).frz (i := 1) rfl hlow))) (by kernel_rfl) (fun _ => hcs99) rfl) (ocons (show Ob.ok _ Ext _ _ from fun hk w2 hd => plan_line_late_ok F (plan_line.mk (some d32) p0.jobs p0.at_ p0.done) u97.Late _ ((fun _ => hy104) hk) _ w2 (memOf_at w2) (PtM.mk (cs := [sv ad87 d32.jobs cap88, sv ad89 d32.takes cap90, sv ad91 d32.moves cap92]) (hB85.mono (FrzAt.le_mem ((hS.later hd).frz (i := 1) rfl hlow))) ⟨ad87, cap88, ad89, cap90, ad91, cap92, css93, rfl, (hA94.mono (FrzAt.le_mem ((hS.later hd).frz (i := 1) rfl hlow))), (hA95.mono (FrzAt.le_mem ((hS.later hd).frz (i := 1) rfl hlow))), (hA96.mono Rp40.mono (FrzAt.le_mem ((hS.later hd).frz (i := 1) rfl hlow)))⟩) (hA7.mono (FrzAt.le_mem ((hS.later hd).frz (i := 1) rfl hlow))) (hA8.mono (FrzAt.le_mem ((hS.later hd).frz (i := 1) rfl hlow)))) onil)))))))))) ⟨by kernel_rfl⟩ fun a w hF hx => ?_
    replace hS := hS.later hx
    refine wfn rfl ?_
    refine econd hF rfl (fun hc => ?_) (fun hc => ?_)
    ·replace h := bif_t h hc
     refine WI.region ?_
     refine rn 2 2 [(1, sv ad9 p1 cap10), (70, .iface 127 (.agg #[]))] hF fun a hF => ?_
     refine panic_ (t := 127) (v := .agg #[]) hF ⟨by kernel_rfl⟩ (panic_then <| panic_then <| fn_panic hF ?_)
     have hr_ := Option.some.inj h
     subst hr_
     exact .inr ⟨_, rfl, rfl, hS.ext⟩
    ·replace h := bif_f h hc
     refine wpIn_skip (norm_then ?_)
     refine esr ?_
     replace h := bindS h
     obtain ⟨l105, hl105, h⟩ := h
     obtain ⟨css106, hcs107, hq108⟩ := cut_all2 hA12.2 hl105
     have hA109 : ArrQ μ 2 Rp65 (slOff ad9 cap10 (1 : Int).toNat 2) (cap10 - (1 : Int).toNat) css106 l105 := ⟨fun w_ hw_ => (hA12.1 w_ hw_).cutD (fN_len 2) hcs107, hq108⟩
     refine rno 3 [.run [] (Instr.sliceAt 60 (sv ad9 p1 cap10) (some (iv 1)) none none) (.slice (slOff ad9 cap10 (1 : Int).toNat 2) l105.length (cap10 - (1 : Int).toNat))] 3 [(4, .slice (slOff ad9 cap10 (1 : Int).toNat 2) l105.length (cap10 - (1 : Int).toNat))] hF (ocons (obCutL (by kernel_rfl) (hA12.at (hS.frz (i := 1) rfl hlow)) (fun _ => hl105)) onil) fun a hF => ?_
     refine wfn rfl ?_
     refine wpIn_ret (ret_then <| fn_ret [.tmp 4] [.slice (slOff ad9 cap10 (1 : Int).toNat 2) l105.length (cap10 - (1 : Int).toNat)] hF rfl ⟨rfl, trivial⟩ ?_)
     have hr_ := Option.some.inj h
     subst hr_
     exact .inl ⟨_, rfl, μ, (slOff ad9 cap10 (1 : Int).toNat 2), (cap10 - (1 : Int).toNat), css106, hext, rfl, hA109, St.pick [1] (by decide) hS⟩
  ·replace h := bif_f h hc
   refine wpIn_skip (norm_then ?_)
   have hj216 := Frz.le_refl μ
   refine ecut (fun a w => ∃ (l212 : (List plan_Cut)) (ν209 : Frz) (ad210 : Option Addr) (cap211 : Nat) (css213 : List (List Value)), Fr 89 [] [(1, sv ad210 l212 cap211)] a ∧ St w0 [blk b13 102 #[.pointer pv1, sv ad2 p0.jobs cap3, sv ad4 p0.at_ cap5, iv p0.done], fz w0 ν209] w ∧ (ArrQ ν209 2 Rp65 ad210 cap211 css213 l212) ∧ (μ.le ν209) ∧ (μ.ext w0.heap.size ν209) ∧ (FrzIn w0 ν209) ∧ plan_line_cover_K3 l212 = some res) ?_ ?_
   ·skip
    refine esr ?_
    replace h := bindS h
    obtain ⟨d217, hd217, h⟩ := h
    obtain ⟨b218, cs219, hp220, hB221, hR222⟩ := PtM.some hA6 hd217
    obtain ⟨ad223, cap224, ad225, cap226, ad227, cap228, css229, rfl, hA230, hA231, hA232⟩ := hR222
    try rw [hp220] at hF
    try rw [hp220] at hS
    try rw [hp220] at hB221
    refine rno 7 [.run [] (Instr.loadAt 100 (pb b13)) (pb b218), .run [] (Instr.loadAt 40 (.pointer (some ⟨b218, 1, none⟩))) (sv ad225 d217.takes cap226)] 7 [(1, sv ad9 p1 cap10), (2, pb b13), (78, iv (ln d217.takes)), (79, iv 0)] hF (ocons (ob1 (by kernel_rfl) (fun _ hd => (hS.at_ hd).cell (i := 0) (j := 0) rfl rfl)) (ocons (ob1 (by kernel_rfl) (fun _ hd => (hB221.blk ((hS.at_ hd).frz (i := 1) rfl hlow)).cell1 (j := 1) rfl)) onil)) fun a hF => ?_
    refine wfn rfl ?_
    refine wpIn_block ?_
    have hj293 := Frz.le_refl μ
    refine eloop (fun n_ a w => ∃ (l288 : (List plan_Cut)) (x291 : Int) (ν285 : Frz) (ad286 : Option Addr) (cap287 : Nat) (css289 : List (List Value)), Fr 89 [] [(1, sv ad286 l288 cap287), (2, pb b13), (78, iv (ln d217.takes)), (79, iv x291)] a ∧ St w0 [blk b13 102 #[pb b218, sv ad2 p0.jobs cap3, sv ad4 p0.at_ cap5, iv p0.done], fz w0 ν285] w ∧ (ArrQ ν285 2 Rp65 ad286 cap287 css289 l288) ∧ (μ.le ν285) ∧ (μ.ext w0.heap.size ν285) ∧ (FrzIn w0 ν285) ∧ plan_line_cover_L4 F self_ p0 d217 n_ l288 x291 = some res) F ⟨p1, 0, μ, ad9, cap10, css11, hF.sub (by kernel_rfl), St.pick [0, 1] (by decide) hS, hA12, hj293, hext, hlow, h⟩ ?_
    clear hj293
    rintro n_ a w ⟨l288, x291, ν285, ad286, cap287, css289, hF, hS, hA290, hle292, hext, hlow, h⟩
    rcases n_ with _ | n_
    ·cases (show (none : Option (Except Value (List plan_Cut))) = some res from h)
    replace hA6 := hA6.mono Rp113.mono hle292
    replace hA7 := hA7.mono hle292
    replace hA8 := hA8.mono hle292
    replace hA12 := hA12.mono Rp65.mono hle292
    replace hA20 := hA20.mono hle292
    replace hA230 := hA230.mono hle292
    replace hA231 := hA231.mono hle292
    replace hA232 := hA232.mono Rp40.mono hle292
    replace hB221 := hB221.mono hle292
    replace hj216 := Frz.le_trans hj216 hle292
    obtain ⟨k4, hk4⟩ : ∃ k, k = plan_line_cover_L4 F self_ p0 d217 n_ := ⟨_, rfl⟩
    replace h : plan_line_cover_B4 F self_ p0 d217 k4 l288 x291 = some res := by rw [hk4]; exact h
    rw [plan_line_cover_B4] at h
    refine esr ?_
    refine rn 1 1 [(1, sv ad286 l288 cap287), (2, pb b13), (78, iv (ln d217.takes)), (79, iv x291), (80, .bool (decide (x291 < (ln d217.takes))))] hF fun a hF => ?_
    refine wfn rfl ?_
    refine eseq ?_
    refine econd hF rfl (fun hc => ?_) (fun hc => ?_)
    ·replace h := bif_t h hc
     refine wpIn_skip (norm_then ?_)
     refine eseq ?_
     refine wpIn_block ?_
     refine esr ?_
     refine rn 2 2 [(1, sv ad286 l288 cap287), (2, pb b13), (7, iv x291), (78, iv (ln d217.takes)), (79, iv x291)] hF fun a hF => ?_
     refine wfn rfl ?_
     refine WI.region ?_
     refine rno 2 [.run [] (Instr.loadAt 102 (pb b13)) (.agg #[pb b218, sv ad2 p0.jobs cap3, sv ad4 p0.at_ cap5, iv p0.done])] 2 [(1, sv ad286 l288 cap287), (2, pb b13), (78, iv (ln d217.takes)), (79, iv x291), (82, .agg #[pb b218, sv ad2 p0.jobs cap3, sv ad4 p0.at_ cap5, iv p0.done]), (83, iv x291)] hF (ocons (obN (us := [pb b218, sv ad2 p0.jobs cap3, sv ad4 p0.at_ cap5, iv p0.done]) (by kernel_rfl) (fun _ hd => ((hS.at_ hd).blk (i := 0) rfl).cells rfl)) onil) fun a hF => ?_
     replace h := bindS h
     obtain ⟨y295, hy295, h⟩ := h
     refine SK.wi (callK (f := 85) (args := #[.agg #[pb b218, sv ad2 p0.jobs cap3, sv ad4 p0.at_ cap5, iv p0.done], iv x291]) (R := fun v w2 => ∃ ν296 pv297 ad298 cap299 ad300 cap301, ν285.ext w.heap.size ν296 ∧ v = .agg #[.pointer pv297, sv ad298 y295.jobs cap299, sv ad300 y295.at_ cap301, iv y295.done] ∧ PtM ν296 113 Rp113 pv297 y295.desk ∧ ArrM ν296 1 fI ad298 cap299 y295.jobs ∧ ArrM ν296 1 fI ad300 cap301 y295.at_ ∧ St w [frzR w.heap.size ν296] w2) (fun v294 => [(1, sv ad286 l288 cap287), (2, pb b13), (78, iv (ln d217.takes)), (79, iv x291), (84, v294)]) hF (by kernel_rfl) ⟨by kernel_rfl⟩ (Calls.mono (plan_line_add_ok F (plan_line.mk (some d217) p0.jobs p0.at_ p0.done) x291 _ hy295 ν285 w (hS.frz (i := 1) rfl hlow) (PtM.mk (cs := [sv ad223 d217.jobs cap224, sv ad225 d217.takes cap226, sv ad227 d217.moves cap228]) hB221 ⟨ad223, cap224, ad225, cap226, ad227, cap228, css229, rfl, hA230, hA231, hA232⟩) hA7 hA8) (by rintro e w2 ⟨ν296, pv297, ad298, cap299, ad300, cap301, hx305, rfl, hA302, hA303, hA304, h⟩; exact ⟨_, rfl, ν296, pv297, ad298, cap299, ad300, cap301, hx305, rfl, hA302, hA303, hA304, h⟩)) (fun _ => ⟨by kernel_rfl⟩) ?_)
     rintro v294 w a ⟨ν296, pv297, ad298, cap299, ad300, cap301, hx305, rfl, hA302, hA303, hA304, hQ⟩ hF
     replace hext := Frz.ext_trans hext (Frz.ext_mono hx305 hS.ext.size)
     obtain ⟨hlow, hS⟩ := hS.frzMerge (i := 1) rfl hlow hx305 hQ
     replace hA6 := hA6.mono Rp113.mono hx305.1
     replace hA7 := hA7.mono hx305.1
     replace hA8 := hA8.mono hx305.1
     replace hA12 := hA12.mono Rp65.mono hx305.1
     replace hA20 := hA20.mono hx305.1
     replace hA230 := hA230.mono hx305.1
     replace hA231 := hA231.mono hx305.1
     replace hA232 := hA232.mono Rp40.mono hx305.1
     replace hB221 := hB221.mono hx305.1
     replace hA290 := hA290.mono Rp65.mono hx305.1
     replace hj216 := Frz.le_trans hj216 hx305.1
     replace hle292 := Frz.le_trans hle292 hx305.1
     replace hS : St w0 [blk b13 102 #[pb b218, sv ad2 p0.jobs cap3, sv ad4 p0.at_ cap5, iv p0.done], fz w0 ν296] w := hS
     refine rn 1 4 [(1, sv ad286 l288 cap287), (2, pb b13), (78, iv (ln d217.takes)), (79, iv x291), (84, .agg #[.pointer pv297, sv ad298 y295.jobs cap299, sv ad300 y295.at_ cap301, iv y295.done]), (85, sv ad286 l288 cap287)] hF fun a hF => ?_
     replace h := bindS h
     obtain ⟨y307, hy307, h⟩ := h
     refine callP (f := 65) (args := #[.agg #[.pointer pv297, sv ad298 y295.jobs cap299, sv ad300 y295.at_ cap301, iv y295.done], sv ad286 l288 cap287]) (R := fun v w2 => ∃ y308, y307 = .ok y308 ∧ (fun v w2 => ∃ ν309 ad310 cap311 css312, ν296.ext w.heap.size ν309 ∧ v = sv ad310 y308 cap311 ∧ ArrQ ν309 2 Rp65 ad310 cap311 css312 y308 ∧ St w [frzR w.heap.size ν309] w2) v w2) (Rp := fun ch w2 => ∃ v_, y307 = .error v_ ∧ ch = [{ v := v_, recovered := false }] ∧ Ext w w2) (fun v306 => [(1, sv ad286 l288 cap287), (2, pb b13), (78, iv (ln d217.takes)), (79, iv x291), (86, v306)]) hF (by kernel_rfl) ⟨by kernel_rfl⟩ (Calls.mono (ih y295 l288 _ (by rw [← hself]; exact hy307) ν296 w (hS.frz (i := 1) rfl hlow) hA302 hA303 hA304 hA290) (by rintro e w2 (⟨y308, he_, ν309, ad310, cap311, css312, hx314, rfl, hA313, hQ⟩ | ⟨v_, he_, rfl, hx_⟩); exact .inl ⟨_, rfl, y308, he_, ν309, ad310, cap311, css312, hx314, rfl, hA313, hQ⟩; exact .inr ⟨_, rfl, v_, he_, rfl, hx_⟩)) (fun _ => ⟨by kernel_rfl⟩) ?_ ?_
     ·rintro ch w ⟨v_, he_, rfl, hx⟩
      replace hS := hS.later hx
      replace h := excE h he_
      refine panic_block <| panic_then <| panic_then <| panic_block <| panic_then <| fn_panic hF ?_
      have hr_ := Option.some.inj h
      subst hr_
      exact .inr ⟨_, rfl, rfl, hS.ext⟩
     rintro v306 w a ⟨y308, he_, ν309, ad310, cap311, css312, hx314, rfl, hA313, hQ⟩ hF
     replace h := excO h he_
     replace hext := Frz.ext_trans hext (Frz.ext_mono hx314 hS.ext.size)
     obtain ⟨hlow, hS⟩ := hS.frzMerge (i := 1) rfl hlow hx314 hQ
     replace hA6 := hA6.mono Rp113.mono hx314.1
     replace hA7 := hA7.mono hx314.1
     replace hA8 := hA8.mono hx314.1
     replace hA12 := hA12.mono Rp65.mono hx314.1
     replace hA20 := hA20.mono hx314.1
     replace hA230 := hA230.mono hx314.1
     replace hA231 := hA231.mono hx314.1
     replace hA232 := hA232.mono Rp40.mono hx314.1
     replace hB221 := hB221.mono hx314.1
     replace hA290 := hA290.mono Rp65.mono hx314.1
     replace hA302 := hA302.mono Rp113.mono hx314.1
     replace hA303 := hA303.mono hx314.1
     replace hA304 := hA304.mono hx314.1
     replace hj216 := Frz.le_trans hj216 hx314.1
     replace hle292 := Frz.le_trans hle292 hx314.1
     replace hS : St w0 [blk b13 102 #[pb b218, sv ad2 p0.jobs cap3, sv ad4 p0.at_ cap5, iv p0.done], fz w0 ν309] w := hS
     refine rn 1 6 [(1, sv ad310 y308 cap311), (2, pb b13), (78, iv (ln d217.takes)), (79, iv x291)] hF fun a hF => ?_
     refine WI.fin rfl (norm_block <| norm_then <| ?_)
     refine WI.region ?_
     replace h := bindS h
     obtain ⟨x315, hx315, h⟩ := h
     refine rno 2 [.run [] (binOp .add 3 (iv x291) (iv 1)) (iv x315)] 2 [(1, sv ad310 y308 cap311), (2, pb b13), (78, iv (ln d217.takes)), (79, iv x315)] hF (ocons (obAddC (fun _ => hx315)) onil) fun a hF => ?_
     refine wfn rfl ?_
     rw [hk4] at h
     exact ⟨n_, Nat.lt_succ_self _, y308, x315, ν309, ad310, cap311, css312, hF.sub (by kernel_rfl), St.pick [0, 1] (by decide) hS, hA313, hle292, hext, hlow, h⟩
    ·replace h := bif_f h hc
     refine wpIn_exit (exit_then <| exit_then <| exit_hit <| norm_then ?_)
     try simp only [pb, ← hp220] at hF
     try simp only [pb, ← hp220] at hS
     exact ⟨l288, ν285, ad286, cap287, css289, hF.sub (by kernel_rfl), St.pick [0, 1] (by decide) hS, hA290, hj216, hext, hlow, h⟩
   clear hj216
   rintro a w ⟨l212, ν209, ad210, cap211, css213, hF, hS, hA214, hle215, hext, hlow, h⟩
   replace hA6 := hA6.mono Rp113.mono hle215
   replace hA7 := hA7.mono hle215
   replace hA8 := hA8.mono hle215
   replace hA12 := hA12.mono Rp65.mono hle215
   replace hA20 := hA20.mono hle215
   rw [plan_line_cover_K3] at h
   refine esr ?_
   refine rn 2 2 [(4, sv ad210 l212 cap211)] hF fun a hF => ?_
   refine wfn rfl ?_
   refine wpIn_ret (fn_ret [.tmp 4] [sv ad210 l212 cap211] hF rfl ⟨rfl, trivial⟩ ?_)
   have hr_ := Option.some.inj h
   subst hr_
   exact .inl ⟨_, rfl, ν209, ad210, cap211, css213, hext, rfl, hA214, St.pick [1] (by decide) hS⟩
end Go.Proofs.Ytejffembnkojjaa
