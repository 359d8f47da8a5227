/- Walks, written by program (wip/gen/dec.py). -/
import Derived.Test.YtbhjgebjojdohaaF5XD
import Derived.Test.YtbhjgebjojdohaaProg
namespace Go.Proofs.Ytbhjgebjojdohaa
open Go Go.RowKit Go.Eng
set_option maxRecDepth 10000
set_option maxHeartbeats 4000000
set_option linter.unusedVariables false
set_option linter.unusedSimpArgs false
theorem ref03_common_ok (p0 : api_Span) (p1 : api_Span) (res : (api_Span × Bool)) (h : ref03_common p0 p1 = res) (μ : Frz) (w0 : World) (hm : FrzAt μ w0) : Calls Try.prog 58 #[.agg #[iv p0.Lo, iv p0.Hi], .agg #[iv p1.Lo, iv p1.Hi]] w0 (fun e w => e = .returned (.tuple #[.agg #[iv res.1.Lo, iv res.1.Hi], .bool res.2]) ∧ Ext w0 w) := by
 obtain ⟨hlow, hS⟩ := hm.init
 have hext := Frz.ext_refl w0.heap.size μ
 rw [ref03_common] at h
 refine fn_enterW Try.func58 rfl 24 [(0, .agg #[iv p0.Lo, iv p0.Hi]), (1, .agg #[iv p1.Lo, iv p1.Hi])] rfl rfl (by kernel_rfl) fun a w hw hF => ?_
 replace hS : St w0 [fz w0 μ] w := by rw [hw]; exact hS
 clear hw
 refine esr ?_
 refine SK.wi (boxK (t := 25) (fun b1 => [(1, .agg #[iv p1.Lo, iv p1.Hi]), (2, pb b1)]) (.agg #[iv p0.Lo, iv p0.Hi]) #[iv p0.Lo, iv p0.Hi] hF hS (by kernel_rfl) ⟨by kernel_rfl⟩ (by kernel_rfl) (fun _ => ⟨by kernel_rfl⟩) fun b1 w a hF hS => ?_)
 refine SK.wi (boxK (t := 25) (fun b2 => [(2, pb b1), (3, pb b2)]) (.agg #[iv p1.Lo, iv p1.Hi]) #[iv p1.Lo, iv p1.Hi] hF hS (by kernel_rfl) ⟨by kernel_rfl⟩ (by kernel_rfl) (fun _ => ⟨by kernel_rfl⟩) fun b2 w a hF hS => ?_)
 refine SK.wi (allocK (t := 25) (fun b3 => [(2, pb b1), (3, pb b2), (4, pb b3)]) #[iv 0, iv 0] hF hS (by kernel_rfl) ⟨by kernel_rfl⟩ (by kernel_rfl) (fun _ => ⟨by kernel_rfl⟩) fun b3 w a hF hS => ?_)
 refine rn 1 4 [(2, pb b1), (3, pb b2), (4, pb b3)] hF fun a hF => ?_
 refine wfn rfl ?_
 refine esr ?_
 refine rno 11 [.run [] (Instr.loadAt 3 (pb b1)) (iv p0.Lo), .run [] (Instr.loadAt 3 (pb b2)) (iv p1.Lo), .run [] (Instr.loadAt 3 (.pointer (some ⟨b1, 1, none⟩))) (iv p0.Hi), .run [] (Instr.loadAt 3 (.pointer (some ⟨b2, 1, none⟩))) (iv p1.Hi)] 11 [(4, pb b3), (17, .agg #[iv (if p1.Lo > p0.Lo then p1.Lo else p0.Lo), iv (if p1.Hi < p0.Hi then p1.Hi else p0.Hi)])] hF (ocons (ob1 (by kernel_rfl) (fun _ hd => (hS.at_ hd).cell (i := 2) (j := 0) rfl rfl)) (ocons (ob1 (by kernel_rfl) (fun _ hd => (hS.at_ hd).cell (i := 1) (j := 0) rfl rfl)) (ocons (ob1 (by kernel_rfl) (fun _ hd => (hS.at_ hd).cell (i := 2) (j := 1) rfl rfl)) (ocons (ob1 (by kernel_rfl) (fun _ hd => (hS.at_ hd).cell (i := 1) (j := 1) rfl rfl)) onil)))) fun a hF => ?_
 refine SK.wi (allocK (t := 25) (fun b4 => [(4, pb b3), (6, pb b4), (17, .agg #[iv (if p1.Lo > p0.Lo then p1.Lo else p0.Lo), iv (if p1.Hi < p0.Hi then p1.Hi else p0.Hi)])]) #[iv 0, iv 0] hF hS (by kernel_rfl) ⟨by kernel_rfl⟩ (by kernel_rfl) (fun _ => ⟨by kernel_rfl⟩) fun b4 w a hF hS => ?_)
 refine SK.wi (storeK (t := 25) [(4, pb b3), (6, pb b4)] 0 0 (.agg #[iv (if p1.Lo > p0.Lo then p1.Lo else p0.Lo), iv (if p1.Hi < p0.Hi then p1.Hi else p0.Hi)]) #[iv (if p1.Lo > p0.Lo then p1.Lo else p0.Lo), iv (if p1.Hi < p0.Hi then p1.Hi else p0.Hi)] hF hS rfl (by kernel_rfl) ⟨by kernel_rfl⟩ (by kernel_rfl) (by kernel_rfl) (by kernel_rfl) (by kernel_rfl) ⟨by kernel_rfl⟩ fun w a hF hS => ?_)
 refine wfn rfl ?_
 refine eseq ?_
 refine region_treeW 8 [6] _ (D := fun w => St w0 [blk b4 25 #[iv (if p1.Lo > p0.Lo then p1.Lo else p0.Lo), iv (if p1.Hi < p0.Hi then p1.Hi else p0.Hi)], blk b2 25 #[iv p1.Lo, iv p1.Hi], blk b1 25 #[iv p0.Lo, iv p0.Hi]] w ∧ FrzAt μ w) (by kernel_rfl) (by kernel_rfl) hF.size (fun w hx => ?_) (fun _ _ h => h)
 replace hS := hS.later hx
 refine ⟨⟨St.pick [0, 2, 3] (by decide) hS, hS.frz (i := 4) rfl hlow⟩, ?_⟩
 have hcl5 := Frz.le_refl μ
 refine WT.s [0, 1, 2, 3, 4, 5] [6] (by kernel_rfl) (by kernel_rfl) ?_
 refine runC (rest := []) (obs := [.run [] (Instr.loadAt 25 (pb b4)) (.agg #[iv (if p1.Lo > p0.Lo then p1.Lo else p0.Lo), iv (if p1.Hi < p0.Hi then p1.Hi else p0.Hi)]), .run [] (Instr.loadAt 3 (pb b4)) (iv (if p1.Lo > p0.Lo then p1.Lo else p0.Lo)), .run [] (Instr.loadAt 3 (.pointer (some ⟨b4, 1, none⟩))) (iv (if p1.Hi < p0.Hi then p1.Hi else p0.Hi))]) [0, 1, 2, 3, 4, 5] [(4, pb b3), (18, .agg #[iv (if p1.Lo > p0.Lo then p1.Lo else p0.Lo), iv (if p1.Hi < p0.Hi then p1.Hi else p0.Hi)]), (23, .bool (decide ((if p1.Lo > p0.Lo then p1.Lo else p0.Lo) ≤ (if p1.Hi < p0.Hi then p1.Hi else p0.Hi))))] hF (by kernel_rfl) (by kernel_rfl) (ocons (obN (us := [iv (if p1.Lo > p0.Lo then p1.Lo else p0.Lo), iv (if p1.Hi < p0.Hi then p1.Hi else p0.Hi)]) (by kernel_rfl) (fun _ hd => (hd.1.blk (i := 0) rfl).cells rfl)) (ocons (ob1 (by kernel_rfl) (fun _ hd => hd.1.cell (i := 0) (j := 0) rfl rfl)) (ocons (ob1 (by kernel_rfl) (fun _ hd => hd.1.cell (i := 0) (j := 1) rfl rfl)) onil))) ⟨by kernel_rfl⟩ fun a hF => ?_
 refine WRun.fin ?_
 refine all_cons ?_ (all_nil)
 refine storeK (t := 25) [(4, pb b3), (23, .bool (decide ((if p1.Lo > p0.Lo then p1.Lo else p0.Lo) ≤ (if p1.Hi < p0.Hi then p1.Hi else p0.Hi))))] 1 0 (.agg #[iv (if p1.Lo > p0.Lo then p1.Lo else p0.Lo), iv (if p1.Hi < p0.Hi then p1.Hi else p0.Hi)]) #[iv (if p1.Lo > p0.Lo then p1.Lo else p0.Lo), iv (if p1.Hi < p0.Hi then p1.Hi else p0.Hi)] hF hS rfl (by kernel_rfl) ⟨by kernel_rfl⟩ (by kernel_rfl) (by kernel_rfl) (by kernel_rfl) (by kernel_rfl) ⟨by kernel_rfl⟩ fun w a hF hS => ⟨⟨St.pick [0, 2, 3] (by decide) hS, (hS.frz (i := 4) rfl hlow)⟩, ?_⟩
 refine WT.z [7] (by kernel_rfl) ?_
 refine runC (rest := []) (obs := []) [7] [(4, pb b3), (5, .bool (decide ((if p1.Lo > p0.Lo then p1.Lo else p0.Lo) ≤ (if p1.Hi < p0.Hi then p1.Hi else p0.Hi))))] hF (by kernel_rfl) (by kernel_rfl) onil ⟨by kernel_rfl⟩ fun a hF => ?_
 refine WRun.fin ?_
 refine wfn rfl ?_
 refine wpIn_ret (fn_ret [.cell 4 25, .tmp 5] [.agg #[iv (if p1.Lo > p0.Lo then p1.Lo else p0.Lo), iv (if p1.Hi < p0.Hi then p1.Hi else p0.Hi)], .bool (decide ((if p1.Lo > p0.Lo then p1.Lo else p0.Lo) ≤ (if p1.Hi < p0.Hi then p1.Hi else p0.Hi)))] hF rfl ⟨⟨_, rfl, loadVarN (cs := [iv (if p1.Lo > p0.Lo then p1.Lo else p0.Lo), iv (if p1.Hi < p0.Hi then p1.Hi else p0.Hi)]) (by kernel_rfl) ((hS.blk (i := 1) rfl).cells rfl)⟩, rfl, trivial⟩ ?_)
 subst h
 exact ⟨rfl, hS.ext⟩

theorem fold_checked_ok (F : Nat) (p0 : (List api_Span)) (p1 : Bool) (res : Int) (h : fold_checked F p0 p1 = some res) (μ : Frz) (w0 : World) (hm : FrzAt μ w0) {ad1 : Option Addr} {cap2 : Nat} (hA3 : ArrM μ 2 api_Span.cells ad1 cap2 p0) : Calls Try.prog 61 #[sv ad1 p0 cap2, .bool p1] w0 (fun e w => e = .returned (iv res) ∧ Ext w0 w) := by
 obtain ⟨hlow, hS⟩ := hm.init
 have hext := Frz.ext_refl w0.heap.size μ
 rw [fold_checked] at h
 refine fn_enterW Try.func61 rfl 51 [(0, sv ad1 p0 cap2), (1, .bool p1)] rfl rfl (by kernel_rfl) fun a w hw hF => ?_
 replace hS : St w0 [fz w0 μ] w := by rw [hw]; exact hS
 clear hw
 refine esr ?_
 refine rn 1 1 [(0, sv ad1 p0 cap2), (1, .bool p1)] hF fun a hF => ?_
 refine wfn rfl ?_
 refine eseq ?_
 refine esr ?_
 refine rn 3 3 [(0, sv ad1 p0 cap2), (1, .bool p1), (9, .bool (decide ((ln p0) > 256)))] hF fun a hF => ?_
 refine wfn rfl ?_
 refine econd hF rfl (fun hc => ?_) (fun hc => ?_)
 ·replace h := bif_t h hc
  refine esr ?_
  refine rn 1 1 [(4, iv 9)] hF fun a hF => ?_
  refine wfn rfl ?_
  refine wpIn_ret (ret_then <| fn_ret [.tmp 4] [iv 9] hF rfl ⟨rfl, trivial⟩ ?_)
  have hr_ := Option.some.inj h
  subst hr_
  exact ⟨rfl, hS.ext⟩
 ·replace h := bif_f h hc
  refine wpIn_skip (norm_then ?_)
  refine ecut (fun a w => Fr 51 [] [] a ∧ St w0 [fz w0 μ] w ∧ fold_checked_K1 = some res) ?_ ?_
  ·skip
   refine esr ?_
   refine rn 3 3 [(0, sv ad1 p0 cap2), (1, .bool p1), (10, sv ad1 p0 cap2), (11, iv (ln p0)), (12, iv 0)] hF fun a hF => ?_
   refine wfn rfl ?_
   refine wpIn_block ?_
   refine eloop (fun n_ a w => ∃ (x34 : Int), Fr 51 [] [(0, sv ad1 p0 cap2), (1, .bool p1), (10, sv ad1 p0 cap2), (11, iv (ln p0)), (12, iv x34)] a ∧ St w0 [fz w0 μ] w ∧ fold_checked_L2 p0 p1 n_ x34 = some res) F ⟨0, hF.sub (by kernel_rfl), St.pick [0] (by decide) hS, h⟩ ?_
   rintro nk2 a w ⟨x34, hF, hS, h⟩
   rcases nk2 with _ | nk2
   ·cases (show (none : Option Int) = some res from h)
   obtain ⟨k2, hk2⟩ : ∃ k, k = fold_checked_L2 p0 p1 nk2 := ⟨_, rfl⟩
   replace h : fold_checked_B2 p0 p1 k2 x34 = some res := by rw [hk2]; exact h
   rw [fold_checked_B2] at h
   refine esr ?_
   refine rn 1 1 [(0, sv ad1 p0 cap2), (1, .bool p1), (10, sv ad1 p0 cap2), (11, iv (ln p0)), (12, iv x34), (13, .bool (decide (x34 < (ln p0))))] hF fun a hF => ?_
   refine wfn rfl ?_
   refine eseq ?_
   refine econd hF rfl (fun hc => ?_) (fun hc => ?_)
   ·replace h := bif_t h hc
    refine wpIn_skip (norm_then ?_)
    refine eseq ?_
    refine wpIn_block ?_
    refine esr ?_
    replace h := bindS h
    obtain ⟨u36, hu36, h⟩ := h
    refine rno 3 [.run [] (Instr.indexAt 43 (sv ad1 p0 cap2) (iv x34)) (.pointer (some (slAddr ad1 x34 2))), .run [] (Instr.loadAt 25 (.pointer (some (slAddr ad1 x34 2)))) (.agg #[iv u36.Lo, iv u36.Hi])] 3 [(0, sv ad1 p0 cap2), (1, .bool p1), (10, sv ad1 p0 cap2), (11, iv (ln p0)), (12, iv x34), (14, iv x34), (16, .agg #[iv u36.Lo, iv u36.Hi])] hF (ocons (obIdxQ (hA3 _ (hS.frz (i := 0) rfl hlow)) (by kernel_rfl) (fun _ => hu36)) (ocons (obElNQ (m := 2) (i := x34) (us := [iv u36.Lo, iv u36.Hi]) 0 api_Span.cells_len (fun _ hd => (hA3 _ ((hS.at_ hd).frz (i := 0) rfl hlow))) (by kernel_rfl) (fun _ => hu36) ⟨rfl, rfl⟩) onil)) fun a hF => ?_
    refine SK.wi (allocK (t := 25) (fun b37 => [(0, sv ad1 p0 cap2), (1, .bool p1), (6, pb b37), (10, sv ad1 p0 cap2), (11, iv (ln p0)), (12, iv x34), (14, iv x34), (16, .agg #[iv u36.Lo, iv u36.Hi])]) #[iv 0, iv 0] hF hS (by kernel_rfl) ⟨by kernel_rfl⟩ (by kernel_rfl) (fun _ => ⟨by kernel_rfl⟩) fun b37 w a hF hS => ?_)
    refine rn 1 5 [(0, sv ad1 p0 cap2), (1, .bool p1), (5, iv x34), (6, pb b37), (10, sv ad1 p0 cap2), (11, iv (ln p0)), (12, iv x34), (16, .agg #[iv u36.Lo, iv u36.Hi])] hF fun a hF => ?_
    refine SK.wi (storeK (t := 25) [(0, sv ad1 p0 cap2), (1, .bool p1), (5, iv x34), (6, pb b37), (10, sv ad1 p0 cap2), (11, iv (ln p0)), (12, iv x34)] 0 0 (.agg #[iv u36.Lo, iv u36.Hi]) #[iv u36.Lo, iv u36.Hi] hF hS rfl (by kernel_rfl) ⟨by kernel_rfl⟩ (by kernel_rfl) (by kernel_rfl) (by kernel_rfl) (by kernel_rfl) ⟨by kernel_rfl⟩ fun w a hF hS => ?_)
    refine wfn rfl ?_
    refine wpIn_block ?_
    refine esr ?_
    refine rno 16 [.run [] (Instr.loadAt 3 (pb b37)) (iv u36.Lo), .run [] (Instr.loadAt 3 (.pointer (some ⟨b37, 1, none⟩))) (iv u36.Hi), .run [⟨23, false, (decide (u36.Lo > u36.Hi))⟩] (Instr.loadAt 3 (pb b37)) (iv u36.Lo), .run [⟨28, false, (bif (decide (u36.Lo > u36.Hi)) then true else (decide (u36.Lo < (-200000))))⟩] (Instr.loadAt 3 (.pointer (some ⟨b37, 1, none⟩))) (iv u36.Hi)] 16 [(0, sv ad1 p0 cap2), (1, .bool p1), (5, iv x34), (6, pb b37), (10, sv ad1 p0 cap2), (11, iv (ln p0)), (12, iv x34), (17, .bool (bif (bif (decide (u36.Lo > u36.Hi)) then true else (decide (u36.Lo < (-200000)))) then true else (decide (u36.Hi > 200000))))] hF (ocons (ob1 (by kernel_rfl) (fun _ hd => (hS.at_ hd).cell (i := 0) (j := 0) rfl rfl)) (ocons (ob1 (by kernel_rfl) (fun _ hd => (hS.at_ hd).cell (i := 0) (j := 1) rfl rfl)) (ocons (ob1 (by kernel_rfl) (fun _ hd => (hS.at_ hd).cell (i := 0) (j := 0) rfl rfl)) (ocons (ob1 (by kernel_rfl) (fun _ hd => (hS.at_ hd).cell (i := 0) (j := 1) rfl rfl)) onil)))) fun a hF => ?_
    refine wfn rfl ?_
    refine econd hF rfl (fun hc => ?_) (fun hc => ?_)
    ·replace h := bif_t h hc
     refine esr ?_
     refine rn 1 1 [(4, iv 3)] hF fun a hF => ?_
     refine wfn rfl ?_
     refine wpIn_ret (ret_block <| ret_block <| ret_then <| ret_then <| ret_block <| ret_then <| fn_ret [.tmp 4] [iv 3] hF rfl ⟨rfl, trivial⟩ ?_)
     have hr_ := Option.some.inj h
     subst hr_
     exact ⟨rfl, hS.ext⟩
    ·replace h := bif_f h hc
     refine eseq ?_
     replace h := bindS h
     obtain ⟨x38, hx38, h⟩ := h
     replace h := bindS h
     obtain ⟨u39, hu39, h⟩ := h
     refine runD (obs := [.run [⟨39, true, (bif p1 then (decide (x34 > 0)) else false)⟩] (Instr.loadAt 3 (pb b37)) (iv u36.Lo), .run [⟨39, true, (bif p1 then (decide (x34 > 0)) else false)⟩] (binOp .sub 3 (iv x34) (iv 1)) (iv x38), .run [⟨39, true, (bif p1 then (decide (x34 > 0)) else false)⟩] (Instr.indexAt 43 (sv ad1 p0 cap2) (iv x38)) (.pointer (some (slAddr ad1 x38 2))), .run [⟨39, true, (bif p1 then (decide (x34 > 0)) else false)⟩] (Instr.loadAt 3 (.pointer (some ((slAddr ad1 x38 2).add 1)))) (iv u39.Hi)]) 17 [(0, sv ad1 p0 cap2), (1, .bool p1), (10, sv ad1 p0 cap2), (11, iv (ln p0)), (12, iv x34), (33, .bool (bif (bif p1 then (decide (x34 > 0)) else false) then (decide (u36.Lo ≤ u39.Hi)) else false))] (by kernel_rfl) hF (by kernel_rfl) (ocons (ob1 (by kernel_rfl) (fun _ hd => (hS.later hd).cell (i := 0) (j := 0) rfl rfl)) (ocons (obSubC (fun hk => gd_some hx38 hk)) (ocons (obIdxQ (hA3 _ (hS.frz (i := 1) rfl hlow)) (by kernel_rfl) (fun hk => gd_some hu39 hk)) (ocons (obElQ (i := x38) 1 api_Span.cells_len (fun _ hd => (hA3 _ ((hS.later hd).frz (i := 1) rfl hlow))) (by kernel_rfl) (fun hk => gd_some hu39 hk) rfl) onil)))) ⟨by kernel_rfl⟩ fun a w hF hx => ?_
     replace hS := hS.later hx
     refine wfn rfl ?_
     refine econd hF rfl (fun hc => ?_) (fun hc => ?_)
     ·replace h := bif_t h hc
      refine esr ?_
      refine rn 1 1 [(4, iv 12)] hF fun a hF => ?_
      refine wfn rfl ?_
      refine wpIn_ret (ret_block <| ret_block <| ret_then <| ret_then <| ret_block <| ret_then <| fn_ret [.tmp 4] [iv 12] hF rfl ⟨rfl, trivial⟩ ?_)
      have hr_ := Option.some.inj h
      subst hr_
      exact ⟨rfl, hS.ext⟩
     ·replace h := bif_f h hc
      refine wpIn_skip (norm_block <| norm_block <| norm_then <| ?_)
      refine WI.region ?_
      replace h := bindS h
      obtain ⟨x40, hx40, h⟩ := h
      refine rno 2 [.run [] (binOp .add 3 (iv x34) (iv 1)) (iv x40)] 2 [(0, sv ad1 p0 cap2), (1, .bool p1), (10, sv ad1 p0 cap2), (11, iv (ln p0)), (12, iv x40)] hF (ocons (obAddC (fun _ => hx40)) onil) fun a hF => ?_
      refine wfn rfl ?_
      rw [hk2] at h
      exact ⟨nk2, Nat.lt_succ_self _, x40, hF.sub (by kernel_rfl), St.pick [1] (by decide) hS, h⟩
   ·replace h := bif_f h hc
    refine wpIn_exit (exit_then <| exit_then <| exit_hit <| norm_then ?_)
    exact ⟨hF.sub (by kernel_rfl), St.pick [0] (by decide) hS, h⟩
  rintro a w ⟨hF, hS, h⟩
  rw [fold_checked_K1] at h
  refine esr ?_
  refine rn 1 1 [(4, iv 0)] hF fun a hF => ?_
  refine wfn rfl ?_
  refine wpIn_ret (fn_ret [.tmp 4] [iv 0] hF rfl ⟨rfl, trivial⟩ ?_)
  have hr_ := Option.some.inj h
  subst hr_
  exact ⟨rfl, hS.ext⟩

theorem law03_spans_ok (F : Nat) (p0 : (List api_Span)) (p1 : (List api_Span)) (res : Bool) (h : law03_spans F p0 p1 = some res) (μ : Frz) (w0 : World) (hm : FrzAt μ w0) {ad1 : Option Addr} {cap2 : Nat} {ad4 : Option Addr} {cap5 : Nat} (hA3 : ArrM μ 2 api_Span.cells ad1 cap2 p0) (hA6 : ArrM μ 2 api_Span.cells ad4 cap5 p1) : Calls Try.prog 22 #[sv ad1 p0 cap2, sv ad4 p1 cap5] w0 (fun e w => e = .returned (.bool res) ∧ Ext w0 w) := by
 obtain ⟨hlow, hS⟩ := hm.init
 have hext := Frz.ext_refl w0.heap.size μ
 rw [law03_spans] at h
 refine fn_enterW Try.func22 rfl 26 [(0, sv ad1 p0 cap2), (1, sv ad4 p1 cap5)] rfl rfl (by kernel_rfl) fun a w hw hF => ?_
 replace hS : St w0 [fz w0 μ] w := by rw [hw]; exact hS
 clear hw
 refine esr ?_
 refine rn 1 1 [(0, sv ad1 p0 cap2), (1, sv ad4 p1 cap5)] hF fun a hF => ?_
 refine wfn rfl ?_
 refine eseq ?_
 refine esr ?_
 refine rn 5 5 [(0, sv ad1 p0 cap2), (1, sv ad4 p1 cap5), (10, .bool ((ln p0) != (ln p1)))] hF fun a hF => ?_
 refine wfn rfl ?_
 refine econd hF rfl (fun hc => ?_) (fun hc => ?_)
 ·replace h := bif_t h hc
  refine esr ?_
  refine rn 1 1 [(4, .bool false)] hF fun a hF => ?_
  refine wfn rfl ?_
  refine wpIn_ret (ret_then <| fn_ret [.tmp 4] [.bool false] hF rfl ⟨rfl, trivial⟩ ?_)
  have hr_ := Option.some.inj h
  subst hr_
  exact ⟨rfl, hS.ext⟩
 ·replace h := bif_f h hc
  refine wpIn_skip (norm_then ?_)
  refine ecut (fun a w => Fr 26 [] [] a ∧ St w0 [fz w0 μ] w ∧ law03_spans_K1 = some res) ?_ ?_
  ·skip
   refine esr ?_
   refine rn 1 1 [(0, sv ad1 p0 cap2), (1, sv ad4 p1 cap5), (5, iv 0)] hF fun a hF => ?_
   refine wfn rfl ?_
   refine wpIn_block ?_
   refine eloop (fun n_ a w => ∃ (x27 : Int), Fr 26 [] [(0, sv ad1 p0 cap2), (1, sv ad4 p1 cap5), (5, iv x27)] a ∧ St w0 [fz w0 μ] w ∧ law03_spans_L2 p0 p1 n_ x27 = some res) F ⟨0, hF.sub (by kernel_rfl), St.pick [0] (by decide) hS, h⟩ ?_
   rintro nk2 a w ⟨x27, hF, hS, h⟩
   rcases nk2 with _ | nk2
   ·cases (show (none : Option Bool) = some res from h)
   obtain ⟨k2, hk2⟩ : ∃ k, k = law03_spans_L2 p0 p1 nk2 := ⟨_, rfl⟩
   replace h : law03_spans_B2 p0 p1 k2 x27 = some res := by rw [hk2]; exact h
   rw [law03_spans_B2] at h
   refine eseq ?_
   refine esr ?_
   refine rn 4 4 [(0, sv ad1 p0 cap2), (1, sv ad4 p1 cap5), (5, iv x27), (14, .bool (decide (x27 < (ln p0))))] hF fun a hF => ?_
   refine wfn rfl ?_
   refine econd hF rfl (fun hc => ?_) (fun hc => ?_)
   ·replace h := bif_t h hc
    refine wpIn_skip (norm_then ?_)
    refine eseq ?_
    refine wpIn_block ?_
    refine eseq ?_
    replace h := bindS h
    obtain ⟨u29, hu29, h⟩ := h
    replace h := bindS h
    obtain ⟨u30, hu30, h⟩ := h
    refine runD (obs := [.run [] (Instr.indexAt 43 (sv ad1 p0 cap2) (iv x27)) (.pointer (some (slAddr ad1 x27 2))), .run [] (Instr.loadAt 25 (.pointer (some (slAddr ad1 x27 2)))) (.agg #[iv u29.Lo, iv u29.Hi]), .run [] (Instr.indexAt 43 (sv ad4 p1 cap5) (iv x27)) (.pointer (some (slAddr ad4 x27 2))), .run [] (Instr.loadAt 25 (.pointer (some (slAddr ad4 x27 2)))) (.agg #[iv u30.Lo, iv u30.Hi]), .run [] (eqS .neq 25 #[iv u29.Lo, iv u29.Hi] #[iv u30.Lo, iv u30.Hi]) (.bool (!(((u29.Lo : Int) == u30.Lo) && (((u29.Hi : Int) == u30.Hi) && true))))]) 9 [(0, sv ad1 p0 cap2), (1, sv ad4 p1 cap5), (5, iv x27), (25, .bool (!(((u29.Lo : Int) == u30.Lo) && (((u29.Hi : Int) == u30.Hi) && true))))] (by kernel_rfl) hF (by kernel_rfl) (ocons (obIdxQ (hA3 _ (hS.frz (i := 0) rfl hlow)) (by kernel_rfl) (fun _ => hu29)) (ocons (obElNQ (m := 2) (i := x27) (us := [iv u29.Lo, iv u29.Hi]) 0 api_Span.cells_len (fun _ hd => (hA3 _ ((hS.later hd).frz (i := 0) rfl hlow))) (by kernel_rfl) (fun _ => hu29) ⟨rfl, rfl⟩) (ocons (obIdxQ (hA6 _ (hS.frz (i := 0) rfl hlow)) (by kernel_rfl) (fun _ => hu30)) (ocons (obElNQ (m := 2) (i := x27) (us := [iv u30.Lo, iv u30.Hi]) 0 api_Span.cells_len (fun _ hd => (hA6 _ ((hS.later hd).frz (i := 0) rfl hlow))) (by kernel_rfl) (fun _ => hu30) ⟨rfl, rfl⟩) (ocons (obNeC (by kernel_rfl) (by kernel_rfl)) onil))))) ⟨by kernel_rfl⟩ fun a w hF hx => ?_
    replace hS := hS.later hx
    refine wfn rfl ?_
    refine econd hF rfl (fun hc => ?_) (fun hc => ?_)
    ·replace h := bif_t h hc
     refine esr ?_
     refine rn 1 1 [(4, .bool false)] hF fun a hF => ?_
     refine wfn rfl ?_
     refine wpIn_ret (ret_block <| ret_then <| ret_then <| ret_block <| ret_then <| fn_ret [.tmp 4] [.bool false] hF rfl ⟨rfl, trivial⟩ ?_)
     have hr_ := Option.some.inj h
     subst hr_
     exact ⟨rfl, hS.ext⟩
    ·replace h := bif_f h hc
     refine wpIn_skip (norm_block <| norm_then <| ?_)
     refine WI.region ?_
     replace h := bindS h
     obtain ⟨x31, hx31, h⟩ := h
     refine rno 3 [.run [] (binOp .add 3 (iv x27) (iv 1)) (iv x31)] 3 [(0, sv ad1 p0 cap2), (1, sv ad4 p1 cap5), (5, iv x31)] hF (ocons (obAddC (fun _ => hx31)) onil) fun a hF => ?_
     refine wfn rfl ?_
     rw [hk2] at h
     exact ⟨nk2, Nat.lt_succ_self _, x31, hF.sub (by kernel_rfl), St.pick [0] (by decide) hS, h⟩
   ·replace h := bif_f h hc
    refine wpIn_exit (exit_then <| exit_then <| exit_hit <| norm_then ?_)
    exact ⟨hF.sub (by kernel_rfl), St.pick [0] (by decide) hS, h⟩
  rintro a w ⟨hF, hS, h⟩
  rw [law03_spans_K1] at h
  refine esr ?_
  refine rn 1 1 [(4, .bool true)] hF fun a hF => ?_
  refine wfn rfl ?_
  refine wpIn_ret (fn_ret [.tmp 4] [.bool true] hF rfl ⟨rfl, trivial⟩ ?_)
  have hr_ := Option.some.inj h
  subst hr_
  exact ⟨rfl, hS.ext⟩

theorem fold_limited_ok (p0 : Int) (p1 : Int) (res : Int) (h : fold_limited p0 p1 = res) (μ : Frz) (w0 : World) (hm : FrzAt μ w0) : Calls Try.prog 66 #[iv p0, iv p1] w0 (fun e w => e = .returned (iv res) ∧ Ext w0 w) := by
 obtain ⟨hlow, hS⟩ := hm.init
 have hext := Frz.ext_refl w0.heap.size μ
 rw [fold_limited] at h
 refine fn_enterW Try.func66 rfl 19 [(0, iv p0), (1, iv p1)] rfl rfl (by kernel_rfl) fun a w hw hF => ?_
 replace hS : St w0 [fz w0 μ] w := by rw [hw]; exact hS
 clear hw
 refine esr ?_
 refine rn 1 1 [(0, iv p0), (1, iv p1)] hF fun a hF => ?_
 refine wfn rfl ?_
 refine eseq ?_
 refine esr ?_
 refine rn 14 14 [(18, .bool (bif (bif (bif (decide (p0 < 0)) then true else (decide (p0 > 400000))) then true else (decide (p1 < 1))) then true else (decide (p1 > 16))))] hF fun a hF => ?_
 refine wfn rfl ?_
 refine econd hF rfl (fun hc => ?_) (fun hc => ?_)
 ·replace h := bif_t h hc
  refine esr ?_
  refine rn 1 1 [(4, iv 3)] hF fun a hF => ?_
  refine wfn rfl ?_
  refine wpIn_ret (ret_then <| fn_ret [.tmp 4] [iv 3] hF rfl ⟨rfl, trivial⟩ ?_)
  subst h
  exact ⟨rfl, hS.ext⟩
 ·replace h := bif_f h hc
  refine wpIn_skip (norm_then ?_)
  refine esr ?_
  refine rn 1 1 [(4, iv 0)] hF fun a hF => ?_
  refine wfn rfl ?_
  refine wpIn_ret (fn_ret [.tmp 4] [iv 0] hF rfl ⟨rfl, trivial⟩ ?_)
  subst h
  exact ⟨rfl, hS.ext⟩

theorem fold_known_ok (F : Nat) (p0 : (List (List api_Span))) (res : (List Int)) (h : fold_known F p0 = some res) (μ : Frz) (w0 : World) (hm : FrzAt μ w0) {ad1 : Option Addr} {cap2 : Nat} {css3 : List (List Value)} (hA4 : ArrQ μ 1 Rp132 ad1 cap2 css3 p0) : Calls Try.prog 67 #[sv ad1 p0 cap2] w0 (fun e w => ∃ zad0 zcap0, e = .returned (sv zad0 res zcap0) ∧ St w0 [arr 3 1 fI zad0 res.length zcap0 res] w) := by
 obtain ⟨hlow, hS⟩ := hm.init
 have hext := Frz.ext_refl w0.heap.size μ
 rw [fold_known] at h
 refine fn_enterW Try.func67 rfl 22 [(0, sv ad1 p0 cap2)] rfl rfl (by kernel_rfl) fun a w hw hF => ?_
 replace hS : St w0 [fz w0 μ] w := by rw [hw]; exact hS
 clear hw
 refine esr ?_
 refine rn 1 1 [(0, sv ad1 p0 cap2)] hF fun a hF => ?_
 refine wfn rfl ?_
 refine esr ?_
 refine rn 1 1 [(0, sv ad1 p0 cap2), (3, .slice none 0 0)] hF fun a hF => ?_
 refine wfn rfl ?_
 refine ecut (fun a w => ∃ (l97 : (List Int)) (ad95 : Option Addr) (cap96 : Nat), Fr 22 [] [(3, sv ad95 l97 cap96)] a ∧ St w0 [arr 3 1 fI ad95 l97.length cap96 l97, fz w0 μ] w ∧ fold_known_K1 l97 = some res) ?_ ?_
 ·skip
  refine esr ?_
  refine rn 3 3 [(3, .slice none 0 0), (6, sv ad1 p0 cap2), (7, iv (ln p0)), (8, iv 0)] hF fun a hF => ?_
  refine wfn rfl ?_
  refine wpIn_block ?_
  replace hS := hS.nilarr 3 1 fI
  refine eloop (fun n_ a w => ∃ (l159 : (List Int)) (x160 : Int) (ad157 : Option Addr) (cap158 : Nat), Fr 22 [] [(3, sv ad157 l159 cap158), (6, sv ad1 p0 cap2), (7, iv (ln p0)), (8, iv x160)] a ∧ St w0 [arr 3 1 fI ad157 l159.length cap158 l159, fz w0 μ] w ∧ fold_known_L2 p0 n_ l159 x160 = some res) F ⟨[], 0, none, 0, hF.sub (by kernel_rfl), St.pick [0, 1] (by decide) hS, h⟩ ?_
  rintro nk2 a w ⟨l159, x160, ad157, cap158, hF, hS, h⟩
  rcases nk2 with _ | nk2
  ·cases (show (none : Option (List Int)) = some res from h)
  obtain ⟨k2, hk2⟩ : ∃ k, k = fold_known_L2 p0 nk2 := ⟨_, rfl⟩
  replace h : fold_known_B2 p0 k2 l159 x160 = some res := by rw [hk2]; exact h
  rw [fold_known_B2] at h
  refine esr ?_
  refine rn 1 1 [(3, sv ad157 l159 cap158), (6, sv ad1 p0 cap2), (7, iv (ln p0)), (8, iv x160), (9, .bool (decide (x160 < (ln p0))))] hF fun a hF => ?_
  refine wfn rfl ?_
  refine eseq ?_
  refine econd hF rfl (fun hc => ?_) (fun hc => ?_)
  ·replace h := bif_t h hc
   refine wpIn_skip (norm_then ?_)
   refine ecut (fun a w => ∃ (l175 : (List Int)) (ad173 : Option Addr) (cap174 : Nat), Fr 22 [] [(3, sv ad173 l175 cap174), (6, sv ad1 p0 cap2), (7, iv (ln p0)), (8, iv x160)] a ∧ St w0 [arr 3 1 fI ad173 l175.length cap174 l175, fz w0 μ] w ∧ fold_known_K3 x160 k2 l175 = some res) ?_ ?_
   ·skip
    refine wpIn_block ?_
    refine esr ?_
    replace h := bindS h
    obtain ⟨u178, hu178, h⟩ := h
    obtain ⟨cs179, hcs180, hR181⟩ := getI_all2 hA4.2 hu178
    obtain ⟨ad182, cap183, rfl, hA184⟩ := hR181
    refine rno 5 [.run [] (Instr.indexAt 135 (sv ad1 p0 cap2) (iv x160)) (.pointer (some (slAddr ad1 x160 1))), .run [] (Instr.loadAt 132 (.pointer (some (slAddr ad1 x160 1)))) (sv ad182 u178 cap183)] 5 [(3, sv ad157 l159 cap158), (4, iv x160), (5, sv ad182 u178 cap183), (6, sv ad1 p0 cap2), (7, iv (ln p0)), (8, iv x160)] hF (ocons (obIdxQ (hA4.at (hS.frz (i := 1) rfl hlow)) (by kernel_rfl) (fun _ => hcs180)) (ocons (obElQ (i := x160) 0 (fN_len 1) (fun _ hd => (hA4.at ((hS.at_ hd).frz (i := 1) rfl hlow))) (by kernel_rfl) (fun _ => hcs180) rfl) onil)) fun a hF => ?_
    refine wfn rfl ?_
    refine esr ?_
    refine rn 3 3 [(3, sv ad157 l159 cap158), (4, iv x160), (6, sv ad1 p0 cap2), (7, iv (ln p0)), (8, iv x160), (15, .bool (decide ((ln u178) > 0)))] hF fun a hF => ?_
    refine wfn rfl ?_
    refine econd hF rfl (fun hc => ?_) (fun hc => ?_)
    ·replace h := bif_t h hc
     refine WI.region ?_
     refine rn 2 2 [(3, sv ad157 l159 cap158), (6, sv ad1 p0 cap2), (7, iv (ln p0)), (8, iv x160), (16, sv ad157 l159 cap158), (17, iv x160)] hF fun a hF => ?_
     refine SK.wi (litK (e := 3) (sz := 1) (f := fI) (t := 60) (len := 1) (fun b185 => [(3, sv ad157 l159 cap158), (6, sv ad1 p0 cap2), (7, iv (ln p0)), (8, iv x160), (16, sv ad157 l159 cap158), (18, sb b185 1)]) #[(0, iv x160)] #[iv x160] ([x160]) hF hS (by kernel_rfl) ⟨by kernel_rfl⟩ (by kernel_rfl) fI_len rfl rfl (by kernel_rfl) (fun _ => ⟨by kernel_rfl⟩) fun b185 w a hF hS => ?_)
     replace h := bindS h
     obtain ⟨l186, hl186, h⟩ := h
     refine SK.wi (appK (t := 60) (ty := 60) (bytes := 8) (l := l159) (l' := ([x160])) (fun ad187 cap188 => [(3, sv ad157 l159 cap158), (6, sv ad1 p0 cap2), (7, iv (ln p0)), (8, iv x160), (19, sv ad187 l186 cap188)]) 1 hF hS rfl (by kernel_rfl) ⟨by kernel_rfl⟩ (by kernel_rfl) (hS.arr (i := 0) rfl) (fun _ _ => rfl) hl186 (fun _ _ => ⟨by kernel_rfl⟩) fun ad187 cap188 w a hF hS => ?_)
     refine rn 1 5 [(3, sv ad187 l186 cap188), (6, sv ad1 p0 cap2), (7, iv (ln p0)), (8, iv x160)] hF fun a hF => ?_
     refine WI.fin rfl (norm_block <| norm_then <| ?_)
     exact ⟨l186, ad187, cap188, hF.sub (by kernel_rfl), St.pick [1, 2] (by decide) hS, h⟩
    ·replace h := bif_f h hc
     refine wpIn_skip (norm_block <| norm_then <| ?_)
     exact ⟨l159, ad157, cap158, hF.sub (by kernel_rfl), St.pick [0, 1] (by decide) hS, h⟩
   rintro a w ⟨l175, ad173, cap174, hF, hS, h⟩
   rw [fold_known_K3] at h
   refine WI.region ?_
   replace h := bindS h
   obtain ⟨x176, hx176, h⟩ := h
   refine rno 2 [.run [] (binOp .add 3 (iv x160) (iv 1)) (iv x176)] 2 [(3, sv ad173 l175 cap174), (6, sv ad1 p0 cap2), (7, iv (ln p0)), (8, iv x176)] hF (ocons (obAddC (fun _ => hx176)) onil) fun a hF => ?_
   refine wfn rfl ?_
   rw [hk2] at h
   exact ⟨nk2, Nat.lt_succ_self _, l175, x176, ad173, cap174, hF.sub (by kernel_rfl), St.pick [0, 1] (by decide) hS, h⟩
  ·replace h := bif_f h hc
   refine wpIn_exit (exit_then <| exit_then <| exit_hit <| norm_then ?_)
   exact ⟨l159, ad157, cap158, hF.sub (by kernel_rfl), St.pick [0, 1] (by decide) hS, h⟩
 rintro a w ⟨l97, ad95, cap96, hF, hS, h⟩
 rw [fold_known_K1] at h
 refine esr ?_
 refine rn 2 2 [(2, sv ad95 l97 cap96)] hF fun a hF => ?_
 refine wfn rfl ?_
 refine wpIn_ret (fn_ret [.tmp 2] [sv ad95 l97 cap96] hF rfl ⟨rfl, trivial⟩ ?_)
 have hr_ := Option.some.inj h
 subst hr_
 exact ⟨_, _, rfl, St.pick [0] (by decide) hS⟩

theorem ref03_united_ok (F : Nat) (p0 : (List api_Span)) (res : (List api_Span)) (h : ref03_united F p0 = some res) (μ : Frz) (w0 : World) (hm : FrzAt μ w0) {ad1 : Option Addr} {cap2 : Nat} (hA3 : ArrM μ 2 api_Span.cells ad1 cap2 p0) : Calls Try.prog 64 #[sv ad1 p0 cap2] w0 (fun e w => ∃ zad0 zcap0, e = .returned (sv zad0 res zcap0) ∧ St w0 [arr 25 2 api_Span.cells zad0 res.length zcap0 res] w) := by
 obtain ⟨hlow, hS⟩ := hm.init
 have hext := Frz.ext_refl w0.heap.size μ
 rw [ref03_united] at h
 refine fn_enterW Try.func64 rfl 96 [(0, sv ad1 p0 cap2)] rfl rfl (by kernel_rfl) fun a w hw hF => ?_
 replace hS : St w0 [fz w0 μ] w := by rw [hw]; exact hS
 clear hw
 refine esr ?_
 refine rn 1 1 [(0, sv ad1 p0 cap2)] hF fun a hF => ?_
 refine wfn rfl ?_
 refine esr ?_
 refine rn 1 1 [(0, sv ad1 p0 cap2), (3, .slice none 0 0)] hF fun a hF => ?_
 refine wfn rfl ?_
 refine esr ?_
 refine SK.wi (litK (e := 25) (sz := 2) (f := api_Span.cells) (t := 43) (len := 0) (fun b4 => [(0, sv ad1 p0 cap2), (3, .slice none 0 0), (11, sb b4 0)]) #[] #[] ([] : List api_Span) hF hS (by kernel_rfl) ⟨by kernel_rfl⟩ (by kernel_rfl) api_Span.cells_len rfl rfl (by kernel_rfl) (fun _ => ⟨by kernel_rfl⟩) fun b4 w a hF hS => ?_)
 refine rn 1 2 [(3, .slice none 0 0), (11, sb b4 0), (12, sv ad1 p0 cap2)] hF fun a hF => ?_
 replace h := bindS h
 obtain ⟨l5, hl5, h⟩ := h
 refine SK.wi (appK (t := 43) (ty := 43) (bytes := 16) (l := ([] : List api_Span)) (l' := p0) (fun ad6 cap7 => [(3, .slice none 0 0), (13, sv ad6 l5 cap7)]) 0 hF hS rfl (by kernel_rfl) ⟨by kernel_rfl⟩ (by kernel_rfl) (hA3 _ (hS.frz (i := 1) rfl hlow)) (fun _ _ => rfl) hl5 (fun _ _ => ⟨by kernel_rfl⟩) fun ad6 cap7 w a hF hS => ?_)
 refine rn 1 4 [(3, .slice none 0 0), (4, sv ad6 l5 cap7)] hF fun a hF => ?_
 refine wfn rfl ?_
 refine ecut (fun a w => ∃ (l1310 : (List api_Span)) (ad1308 : Option Addr) (cap1309 : Nat), Fr 96 [] [(3, sv ad1308 l1310 cap1309)] a ∧ St w0 [arr 25 2 api_Span.cells ad1308 l1310.length cap1309 l1310, fz w0 μ] w ∧ ref03_united_K1 l1310 = some res) ?_ ?_
 ·skip
  refine wpIn_block ?_
  replace hS := hS.nilarr 25 2 api_Span.cells
  refine eloop (fun n_ a w => ∃ (l2178 : (List api_Span)) (l2181 : (List api_Span)) (ad2176 : Option Addr) (cap2177 : Nat) (ad2179 : Option Addr) (cap2180 : Nat), Fr 96 [] [(3, sv ad2176 l2178 cap2177), (4, sv ad2179 l2181 cap2180)] a ∧ St w0 [arr 25 2 api_Span.cells ad2179 l2181.length cap2180 l2181, arr 25 2 api_Span.cells ad2176 l2178.length cap2177 l2178, fz w0 μ] w ∧ ref03_united_L2 F n_ l2178 l2181 = some res) F ⟨[], l5, none, 0, ad6, cap7, hF.sub (by kernel_rfl), St.pick [1, 0, 2] (by decide) hS, h⟩ ?_
  rintro nk2 a w ⟨l2178, l2181, ad2176, cap2177, ad2179, cap2180, hF, hS, h⟩
  rcases nk2 with _ | nk2
  ·cases (show (none : Option (List api_Span)) = some res from h)
  obtain ⟨k2, hk2⟩ : ∃ k, k = ref03_united_L2 F nk2 := ⟨_, rfl⟩
  replace h : ref03_united_B2 F k2 l2178 l2181 = some res := by rw [hk2]; exact h
  rw [ref03_united_B2] at h
  refine eseq ?_
  refine esr ?_
  refine rn 3 3 [(3, sv ad2176 l2178 cap2177), (4, sv ad2179 l2181 cap2180), (16, .bool (decide ((ln l2181) > 0)))] hF fun a hF => ?_
  refine wfn rfl ?_
  refine econd hF rfl (fun hc => ?_) (fun hc => ?_)
  ·replace h := bif_t h hc
   refine wpIn_skip (norm_then ?_)
   refine wpIn_block ?_
   refine esr ?_
   replace h := bindS h
   obtain ⟨u2183, hu2183, h⟩ := h
   refine rno 3 [.run [] (Instr.indexAt 43 (sv ad2179 l2181 cap2180) (iv 0)) (.pointer (some (slAddr ad2179 0 2))), .run [] (Instr.loadAt 25 (.pointer (some (slAddr ad2179 0 2)))) (.agg #[iv u2183.Lo, iv u2183.Hi])] 3 [(3, sv ad2176 l2178 cap2177), (4, sv ad2179 l2181 cap2180), (19, .agg #[iv u2183.Lo, iv u2183.Hi])] hF (ocons (obIdxQ (hS.arr (i := 0) rfl) (by kernel_rfl) (fun _ => hu2183)) (ocons (obElNQ (m := 2) (i := 0) (us := [iv u2183.Lo, iv u2183.Hi]) 0 api_Span.cells_len (fun _ hd => ((hS.at_ hd).arr (i := 0) rfl)) (by kernel_rfl) (fun _ => hu2183) ⟨rfl, rfl⟩) onil)) fun a hF => ?_
   refine SK.wi (allocK (t := 25) (fun b2184 => [(3, sv ad2176 l2178 cap2177), (4, sv ad2179 l2181 cap2180), (5, pb b2184), (19, .agg #[iv u2183.Lo, iv u2183.Hi])]) #[iv 0, iv 0] hF hS (by kernel_rfl) ⟨by kernel_rfl⟩ (by kernel_rfl) (fun _ => ⟨by kernel_rfl⟩) fun b2184 w a hF hS => ?_)
   refine SK.wi (storeK (t := 25) [(3, sv ad2176 l2178 cap2177), (4, sv ad2179 l2181 cap2180), (5, pb b2184)] 0 0 (.agg #[iv u2183.Lo, iv u2183.Hi]) #[iv u2183.Lo, iv u2183.Hi] hF hS rfl (by kernel_rfl) ⟨by kernel_rfl⟩ (by kernel_rfl) (by kernel_rfl) (by kernel_rfl) (by kernel_rfl) ⟨by kernel_rfl⟩ fun w a hF hS => ?_)
   refine wfn rfl ?_
   refine ecut (fun a w => ∃ (x2216 : Int) (x2217 : Int), Fr 96 [] [(3, sv ad2176 l2178 cap2177), (4, sv ad2179 l2181 cap2180), (5, pb b2184)] a ∧ St w0 [blk b2184 25 #[iv x2216, iv x2217], arr 25 2 api_Span.cells ad2179 l2181.length cap2180 l2181, arr 25 2 api_Span.cells ad2176 l2178.length cap2177 l2178, fz w0 μ] w ∧ ref03_united_K3 F l2178 l2181 k2 x2216 x2217 = some res) ?_ ?_
   ·skip
    refine esr ?_
    refine rn 1 1 [(3, sv ad2176 l2178 cap2177), (4, sv ad2179 l2181 cap2180), (5, pb b2184), (6, iv 0)] hF fun a hF => ?_
    refine wfn rfl ?_
    refine wpIn_block ?_
    refine eloop (fun n_ a w => ∃ (x2600 : Int) (x2601 : Int) (x2602 : Int), Fr 96 [] [(3, sv ad2176 l2178 cap2177), (4, sv ad2179 l2181 cap2180), (5, pb b2184), (6, iv x2602)] a ∧ St w0 [blk b2184 25 #[iv x2600, iv x2601], arr 25 2 api_Span.cells ad2179 l2181.length cap2180 l2181, arr 25 2 api_Span.cells ad2176 l2178.length cap2177 l2178, fz w0 μ] w ∧ ref03_united_L11 F l2178 l2181 k2 n_ x2600 x2601 x2602 = some res) F ⟨u2183.Lo, u2183.Hi, 0, hF.sub (by kernel_rfl), St.pick [0, 1, 2, 3] (by decide) hS, h⟩ ?_
    rintro nk11 a w ⟨x2600, x2601, x2602, hF, hS, h⟩
    rcases nk11 with _ | nk11
    ·cases (show (none : Option (List api_Span)) = some res from h)
    obtain ⟨k11, hk11⟩ : ∃ k, k = ref03_united_L11 F l2178 l2181 k2 nk11 := ⟨_, rfl⟩
    replace h : ref03_united_B11 F l2178 l2181 k2 k11 x2600 x2601 x2602 = some res := by rw [hk11]; exact h
    rw [ref03_united_B11] at h
    refine eseq ?_
    refine esr ?_
    refine rn 4 4 [(3, sv ad2176 l2178 cap2177), (4, sv ad2179 l2181 cap2180), (5, pb b2184), (6, iv x2602), (23, .bool (decide (x2602 < (ln l2181))))] hF fun a hF => ?_
    refine wfn rfl ?_
    refine econd hF rfl (fun hc => ?_) (fun hc => ?_)
    ·replace h := bif_t h hc
     refine wpIn_skip (norm_then ?_)
     refine ecut (fun a w => ∃ (x2606 : Int) (x2607 : Int), Fr 96 [] [(3, sv ad2176 l2178 cap2177), (4, sv ad2179 l2181 cap2180), (5, pb b2184), (6, iv x2602)] a ∧ St w0 [blk b2184 25 #[iv x2606, iv x2607], arr 25 2 api_Span.cells ad2179 l2181.length cap2180 l2181, arr 25 2 api_Span.cells ad2176 l2178.length cap2177 l2178, fz w0 μ] w ∧ ref03_united_K12 x2602 k11 x2606 x2607 = some res) ?_ ?_
     ·skip
      refine wpIn_block ?_
      refine eseq ?_
      replace h := bindS h
      obtain ⟨u2610, hu2610, h⟩ := h
      refine runD (obs := [.run [] (Instr.indexAt 43 (sv ad2179 l2181 cap2180) (iv x2602)) (.pointer (some (slAddr ad2179 x2602 2))), .run [] (Instr.loadAt 3 (.pointer (some (slAddr ad2179 x2602 2)))) (iv u2610.Lo), .run [] (Instr.loadAt 3 (pb b2184)) (iv x2600)]) 8 [(3, sv ad2176 l2178 cap2177), (4, sv ad2179 l2181 cap2180), (5, pb b2184), (6, iv x2602), (33, .bool (decide (u2610.Lo < x2600)))] (by kernel_rfl) hF (by kernel_rfl) (ocons (obIdxQ (hS.arr (i := 1) rfl) (by kernel_rfl) (fun _ => hu2610)) (ocons (obElQ (i := x2602) 0 api_Span.cells_len (fun _ hd => ((hS.later hd).arr (i := 1) rfl)) (by kernel_rfl) (fun _ => hu2610) rfl) (ocons (ob1 (by kernel_rfl) (fun _ hd => (hS.later hd).cell (i := 0) (j := 0) rfl rfl)) onil))) ⟨by kernel_rfl⟩ fun a w hF hx => ?_
      replace hS := hS.later hx
      refine wfn rfl ?_
      refine econd hF rfl (fun hc => ?_) (fun hc => ?_)
      ·replace h := bif_t h hc
       refine WI.region ?_
       replace h := bindS h
       obtain ⟨u2611, hu2611, h⟩ := h
       refine rno 4 [.run [] (Instr.indexAt 43 (sv ad2179 l2181 cap2180) (iv x2602)) (.pointer (some (slAddr ad2179 x2602 2))), .run [] (Instr.loadAt 25 (.pointer (some (slAddr ad2179 x2602 2)))) (.agg #[iv u2611.Lo, iv u2611.Hi])] 4 [(3, sv ad2176 l2178 cap2177), (4, sv ad2179 l2181 cap2180), (5, pb b2184), (6, iv x2602), (37, .agg #[iv u2611.Lo, iv u2611.Hi])] hF (ocons (obIdxQ (hS.arr (i := 1) rfl) (by kernel_rfl) (fun _ => hu2611)) (ocons (obElNQ (m := 2) (i := x2602) (us := [iv u2611.Lo, iv u2611.Hi]) 0 api_Span.cells_len (fun _ hd => ((hS.at_ hd).arr (i := 1) rfl)) (by kernel_rfl) (fun _ => hu2611) ⟨rfl, rfl⟩) onil)) fun a hF => ?_
       refine SK.wi (storeK (t := 25) [(3, sv ad2176 l2178 cap2177), (4, sv ad2179 l2181 cap2180), (5, pb b2184), (6, iv x2602)] 0 0 (.agg #[iv u2611.Lo, iv u2611.Hi]) #[iv u2611.Lo, iv u2611.Hi] hF hS rfl (by kernel_rfl) ⟨by kernel_rfl⟩ (by kernel_rfl) (by kernel_rfl) (by kernel_rfl) (by kernel_rfl) ⟨by kernel_rfl⟩ fun w a hF hS => ?_)
       refine WI.fin rfl (norm_block <| norm_then <| ?_)
       exact ⟨u2611.Lo, u2611.Hi, hF.sub (by kernel_rfl), St.pick [0, 1, 2, 3] (by decide) hS, h⟩
      ·replace h := bif_f h hc
       refine wpIn_skip (norm_block <| norm_then <| ?_)
       exact ⟨x2600, x2601, hF.sub (by kernel_rfl), St.pick [0, 1, 2, 3] (by decide) hS, h⟩
     rintro a w ⟨x2606, x2607, hF, hS, h⟩
     rw [ref03_united_K12] at h
     refine WI.region ?_
     replace h := bindS h
     obtain ⟨x2608, hx2608, h⟩ := h
     refine rno 3 [.run [] (binOp .add 3 (iv x2602) (iv 1)) (iv x2608)] 3 [(3, sv ad2176 l2178 cap2177), (4, sv ad2179 l2181 cap2180), (5, pb b2184), (6, iv x2608)] hF (ocons (obAddC (fun _ => hx2608)) onil) fun a hF => ?_
     refine wfn rfl ?_
     rw [hk11] at h
     exact ⟨nk11, Nat.lt_succ_self _, x2606, x2607, x2608, hF.sub (by kernel_rfl), St.pick [0, 1, 2, 3] (by decide) hS, h⟩
    ·replace h := bif_f h hc
     refine wpIn_exit (exit_then <| exit_then <| exit_hit <| norm_then ?_)
     exact ⟨x2600, x2601, hF.sub (by kernel_rfl), St.pick [0, 1, 2, 3] (by decide) hS, h⟩
   rintro a w ⟨x2216, x2217, hF, hS, h⟩
   rw [ref03_united_K3] at h
   refine ecut (fun a w => ∃ (x2334 : Int), Fr 96 [] [(3, sv ad2176 l2178 cap2177), (4, sv ad2179 l2181 cap2180), (5, pb b2184)] a ∧ St w0 [blk b2184 25 #[iv x2216, iv x2334], arr 25 2 api_Span.cells ad2179 l2181.length cap2180 l2181, arr 25 2 api_Span.cells ad2176 l2178.length cap2177 l2178, fz w0 μ] w ∧ ref03_united_K4 F l2178 l2181 k2 x2216 x2334 = some res) ?_ ?_
   ·skip
    refine esr ?_
    refine rn 1 1 [(3, sv ad2176 l2178 cap2177), (4, sv ad2179 l2181 cap2180), (5, pb b2184), (7, .bool true)] hF fun a hF => ?_
    refine wfn rfl ?_
    refine wpIn_block ?_
    refine eloop (fun n_ a w => ∃ (x2540 : Int) (c2541 : Bool), Fr 96 [] [(3, sv ad2176 l2178 cap2177), (4, sv ad2179 l2181 cap2180), (5, pb b2184), (7, .bool c2541)] a ∧ St w0 [blk b2184 25 #[iv x2216, iv x2540], arr 25 2 api_Span.cells ad2179 l2181.length cap2180 l2181, arr 25 2 api_Span.cells ad2176 l2178.length cap2177 l2178, fz w0 μ] w ∧ ref03_united_L8 F l2178 l2181 k2 x2216 n_ x2540 c2541 = some res) F ⟨x2217, true, hF.sub (by kernel_rfl), St.pick [0, 1, 2, 3] (by decide) hS, h⟩ ?_
    rintro nk8 a w ⟨x2540, c2541, hF, hS, h⟩
    rcases nk8 with _ | nk8
    ·cases (show (none : Option (List api_Span)) = some res from h)
    obtain ⟨k8, hk8⟩ : ∃ k, k = ref03_united_L8 F l2178 l2181 k2 x2216 nk8 := ⟨_, rfl⟩
    replace h : ref03_united_B8 F l2178 l2181 k2 x2216 k8 x2540 c2541 = some res := by rw [hk8]; exact h
    rw [ref03_united_B8] at h
    refine eseq ?_
    refine esr ?_
    refine rn 1 1 [(3, sv ad2176 l2178 cap2177), (4, sv ad2179 l2181 cap2180), (5, pb b2184), (38, .bool c2541)] hF fun a hF => ?_
    refine wfn rfl ?_
    refine econd hF rfl (fun hc => ?_) (fun hc => ?_)
    ·replace h := bif_t h hc
     refine wpIn_skip (norm_then ?_)
     refine wpIn_block ?_
     refine esr ?_
     refine rn 1 1 [(3, sv ad2176 l2178 cap2177), (4, sv ad2179 l2181 cap2180), (5, pb b2184), (7, .bool false)] hF fun a hF => ?_
     refine wfn rfl ?_
     refine esr ?_
     refine rn 1 1 [(3, sv ad2176 l2178 cap2177), (4, sv ad2179 l2181 cap2180), (5, pb b2184), (7, .bool false), (8, iv 0)] hF fun a hF => ?_
     refine wfn rfl ?_
     refine wpIn_block ?_
     refine eloop (fun n_ a w => ∃ (x2566 : Int) (c2567 : Bool) (x2568 : Int), Fr 96 [] [(3, sv ad2176 l2178 cap2177), (4, sv ad2179 l2181 cap2180), (5, pb b2184), (7, .bool c2567), (8, iv x2568)] a ∧ St w0 [blk b2184 25 #[iv x2216, iv x2566], arr 25 2 api_Span.cells ad2179 l2181.length cap2180 l2181, arr 25 2 api_Span.cells ad2176 l2178.length cap2177 l2178, fz w0 μ] w ∧ ref03_united_L9 l2181 k8 n_ x2566 c2567 x2568 = some res) F ⟨x2540, false, 0, hF.sub (by kernel_rfl), St.pick [0, 1, 2, 3] (by decide) hS, h⟩ ?_
     rintro nk9 a w ⟨x2566, c2567, x2568, hF, hS, h⟩
     rcases nk9 with _ | nk9
     ·cases (show (none : Option (List api_Span)) = some res from h)
     obtain ⟨k9, hk9⟩ : ∃ k, k = ref03_united_L9 l2181 k8 nk9 := ⟨_, rfl⟩
     replace h : ref03_united_B9 l2181 k8 k9 x2566 c2567 x2568 = some res := by rw [hk9]; exact h
     rw [ref03_united_B9] at h
     refine eseq ?_
     refine esr ?_
     refine rn 4 4 [(3, sv ad2176 l2178 cap2177), (4, sv ad2179 l2181 cap2180), (5, pb b2184), (7, .bool c2567), (8, iv x2568), (42, .bool (decide (x2568 < (ln l2181))))] hF fun a hF => ?_
     refine wfn rfl ?_
     refine econd hF rfl (fun hc => ?_) (fun hc => ?_)
     ·replace h := bif_t h hc
      refine wpIn_skip (norm_then ?_)
      refine ecut (fun a w => ∃ (x2573 : Int) (c2574 : Bool), Fr 96 [] [(3, sv ad2176 l2178 cap2177), (4, sv ad2179 l2181 cap2180), (5, pb b2184), (7, .bool c2574), (8, iv x2568)] a ∧ St w0 [blk b2184 25 #[iv x2216, iv x2573], arr 25 2 api_Span.cells ad2179 l2181.length cap2180 l2181, arr 25 2 api_Span.cells ad2176 l2178.length cap2177 l2178, fz w0 μ] w ∧ ref03_united_K10 x2568 k9 x2573 c2574 = some res) ?_ ?_
      ·skip
       refine wpIn_block ?_
       refine eseq ?_
       replace h := bindS h
       obtain ⟨u2577, hu2577, h⟩ := h
       replace h := bindS h
       obtain ⟨u2578, hu2578, h⟩ := h
       refine runD (obs := [.run [] (Instr.indexAt 43 (sv ad2179 l2181 cap2180) (iv x2568)) (.pointer (some (slAddr ad2179 x2568 2))), .run [] (Instr.loadAt 3 (.pointer (some (slAddr ad2179 x2568 2)))) (iv u2577.Lo), .run [] (Instr.loadAt 3 (.pointer (some ⟨b2184, 1, none⟩))) (iv x2566), .run [⟨53, true, (decide (u2577.Lo ≤ x2566))⟩] (Instr.indexAt 43 (sv ad2179 l2181 cap2180) (iv x2568)) (.pointer (some (slAddr ad2179 x2568 2))), .run [⟨53, true, (decide (u2577.Lo ≤ x2566))⟩] (Instr.loadAt 3 (.pointer (some ((slAddr ad2179 x2568 2).add 1)))) (iv u2578.Hi), .run [⟨53, true, (decide (u2577.Lo ≤ x2566))⟩] (Instr.loadAt 3 (.pointer (some ⟨b2184, 1, none⟩))) (iv x2566)]) 18 [(3, sv ad2176 l2178 cap2177), (4, sv ad2179 l2181 cap2180), (5, pb b2184), (7, .bool c2567), (8, iv x2568), (62, .bool (bif (decide (u2577.Lo ≤ x2566)) then (decide (u2578.Hi > x2566)) else false))] (by kernel_rfl) hF (by kernel_rfl) (ocons (obIdxQ (hS.arr (i := 1) rfl) (by kernel_rfl) (fun _ => hu2577)) (ocons (obElQ (i := x2568) 0 api_Span.cells_len (fun _ hd => ((hS.later hd).arr (i := 1) rfl)) (by kernel_rfl) (fun _ => hu2577) rfl) (ocons (ob1 (by kernel_rfl) (fun _ hd => (hS.later hd).cell (i := 0) (j := 1) rfl rfl)) (ocons (obIdxQ (hS.arr (i := 1) rfl) (by kernel_rfl) (fun hk => gd_some hu2578 hk)) (ocons (obElQ (i := x2568) 1 api_Span.cells_len (fun _ hd => ((hS.later hd).arr (i := 1) rfl)) (by kernel_rfl) (fun hk => gd_some hu2578 hk) rfl) (ocons (ob1 (by kernel_rfl) (fun _ hd => (hS.later hd).cell (i := 0) (j := 1) rfl rfl)) onil)))))) ⟨by kernel_rfl⟩ fun a w hF hx => ?_
       replace hS := hS.later hx
       refine wfn rfl ?_
       refine econd hF rfl (fun hc => ?_) (fun hc => ?_)
       ·replace h := bif_t h hc
        refine esr ?_
        replace h := bindS h
        obtain ⟨u2579, hu2579, h⟩ := h
        refine rno 6 [.run [] (Instr.indexAt 43 (sv ad2179 l2181 cap2180) (iv x2568)) (.pointer (some (slAddr ad2179 x2568 2))), .run [] (Instr.loadAt 3 (.pointer (some ((slAddr ad2179 x2568 2).add 1)))) (iv u2579.Hi)] 6 [(3, sv ad2176 l2178 cap2177), (4, sv ad2179 l2181 cap2180), (5, pb b2184), (8, iv x2568), (67, iv u2579.Hi), (68, .pointer (some ⟨b2184, 1, none⟩))] hF (ocons (obIdxQ (hS.arr (i := 1) rfl) (by kernel_rfl) (fun _ => hu2579)) (ocons (obElQ (i := x2568) 1 api_Span.cells_len (fun _ hd => ((hS.at_ hd).arr (i := 1) rfl)) (by kernel_rfl) (fun _ => hu2579) rfl) onil)) fun a hF => ?_
        refine SK.wi (storeK (t := 3) [(3, sv ad2176 l2178 cap2177), (4, sv ad2179 l2181 cap2180), (5, pb b2184), (8, iv x2568)] 0 1 (iv u2579.Hi) #[iv x2216, iv u2579.Hi] hF hS rfl (by kernel_rfl) ⟨by kernel_rfl⟩ (by kernel_rfl) (by kernel_rfl) (by kernel_rfl) (by kernel_rfl) ⟨by kernel_rfl⟩ fun w a hF hS => ?_)
        refine wfn rfl ?_
        refine WI.region ?_
        refine rn 1 1 [(3, sv ad2176 l2178 cap2177), (4, sv ad2179 l2181 cap2180), (5, pb b2184), (7, .bool true), (8, iv x2568)] hF fun a hF => ?_
        refine WI.fin rfl (norm_block <| norm_then <| ?_)
        exact ⟨u2579.Hi, true, hF.sub (by kernel_rfl), St.pick [0, 1, 2, 3] (by decide) hS, h⟩
       ·replace h := bif_f h hc
        refine wpIn_skip (norm_block <| norm_then <| ?_)
        exact ⟨x2566, c2567, hF.sub (by kernel_rfl), St.pick [0, 1, 2, 3] (by decide) hS, h⟩
      rintro a w ⟨x2573, c2574, hF, hS, h⟩
      rw [ref03_united_K10] at h
      refine WI.region ?_
      replace h := bindS h
      obtain ⟨x2575, hx2575, h⟩ := h
      refine rno 3 [.run [] (binOp .add 3 (iv x2568) (iv 1)) (iv x2575)] 3 [(3, sv ad2176 l2178 cap2177), (4, sv ad2179 l2181 cap2180), (5, pb b2184), (7, .bool c2574), (8, iv x2575)] hF (ocons (obAddC (fun _ => hx2575)) onil) fun a hF => ?_
      refine wfn rfl ?_
      rw [hk9] at h
      exact ⟨nk9, Nat.lt_succ_self _, x2573, c2574, x2575, hF.sub (by kernel_rfl), St.pick [0, 1, 2, 3] (by decide) hS, h⟩
     ·replace h := bif_f h hc
      refine wpIn_exit (exit_then <| exit_then <| exit_hit <| norm_block <| norm_then <| ?_)
      rw [hk8] at h
      exact ⟨nk8, Nat.lt_succ_self _, x2566, c2567, hF.sub (by kernel_rfl), St.pick [0, 1, 2, 3] (by decide) hS, h⟩
    ·replace h := bif_f h hc
     refine wpIn_exit (exit_then <| exit_then <| exit_hit <| norm_then ?_)
     exact ⟨x2540, hF.sub (by kernel_rfl), St.pick [0, 1, 2, 3] (by decide) hS, h⟩
   rintro a w ⟨x2334, hF, hS, h⟩
   rw [ref03_united_K4] at h
   refine esr ?_
   refine rn 1 1 [(3, sv ad2176 l2178 cap2177), (4, sv ad2179 l2181 cap2180), (5, pb b2184), (9, .slice none 0 0)] hF fun a hF => ?_
   refine wfn rfl ?_
   refine ecut (fun a w => ∃ (l2397 : (List api_Span)) (ad2395 : Option Addr) (cap2396 : Nat), Fr 96 [] [(3, sv ad2176 l2178 cap2177), (5, pb b2184), (9, sv ad2395 l2397 cap2396)] a ∧ St w0 [arr 25 2 api_Span.cells ad2395 l2397.length cap2396 l2397, blk b2184 25 #[iv x2216, iv x2334], arr 25 2 api_Span.cells ad2179 l2181.length cap2180 l2181, arr 25 2 api_Span.cells ad2176 l2178.length cap2177 l2178, fz w0 μ] w ∧ ref03_united_K5 l2178 k2 x2216 x2334 l2397 = some res) ?_ ?_
   ·skip
    refine esr ?_
    refine rn 1 1 [(3, sv ad2176 l2178 cap2177), (4, sv ad2179 l2181 cap2180), (5, pb b2184), (9, .slice none 0 0), (10, iv 0)] hF fun a hF => ?_
    refine wfn rfl ?_
    refine wpIn_block ?_
    replace hS := hS.nilarr 25 2 api_Span.cells
    refine eloop (fun n_ a w => ∃ (x2441 : Int) (l2444 : (List api_Span)) (ad2442 : Option Addr) (cap2443 : Nat), Fr 96 [] [(3, sv ad2176 l2178 cap2177), (4, sv ad2179 l2181 cap2180), (5, pb b2184), (9, sv ad2442 l2444 cap2443), (10, iv x2441)] a ∧ St w0 [arr 25 2 api_Span.cells ad2442 l2444.length cap2443 l2444, blk b2184 25 #[iv x2216, iv x2334], arr 25 2 api_Span.cells ad2179 l2181.length cap2180 l2181, arr 25 2 api_Span.cells ad2176 l2178.length cap2177 l2178, fz w0 μ] w ∧ ref03_united_L6 l2178 l2181 k2 x2216 x2334 n_ x2441 l2444 = some res) F ⟨0, [], none, 0, hF.sub (by kernel_rfl), St.pick [0, 1, 2, 3, 4] (by decide) hS, h⟩ ?_
    rintro nk6 a w ⟨x2441, l2444, ad2442, cap2443, hF, hS, h⟩
    rcases nk6 with _ | nk6
    ·cases (show (none : Option (List api_Span)) = some res from h)
    obtain ⟨k6, hk6⟩ : ∃ k, k = ref03_united_L6 l2178 l2181 k2 x2216 x2334 nk6 := ⟨_, rfl⟩
    replace h : ref03_united_B6 l2178 l2181 k2 x2216 x2334 k6 x2441 l2444 = some res := by rw [hk6]; exact h
    rw [ref03_united_B6] at h
    refine eseq ?_
    refine esr ?_
    refine rn 4 4 [(3, sv ad2176 l2178 cap2177), (4, sv ad2179 l2181 cap2180), (5, pb b2184), (9, sv ad2442 l2444 cap2443), (10, iv x2441), (72, .bool (decide (x2441 < (ln l2181))))] hF fun a hF => ?_
    refine wfn rfl ?_
    refine econd hF rfl (fun hc => ?_) (fun hc => ?_)
    ·replace h := bif_t h hc
     refine wpIn_skip (norm_then ?_)
     refine ecut (fun a w => ∃ (l2454 : (List api_Span)) (ad2452 : Option Addr) (cap2453 : Nat), Fr 96 [] [(3, sv ad2176 l2178 cap2177), (4, sv ad2179 l2181 cap2180), (5, pb b2184), (9, sv ad2452 l2454 cap2453), (10, iv x2441)] a ∧ St w0 [arr 25 2 api_Span.cells ad2452 l2454.length cap2453 l2454, blk b2184 25 #[iv x2216, iv x2334], arr 25 2 api_Span.cells ad2179 l2181.length cap2180 l2181, arr 25 2 api_Span.cells ad2176 l2178.length cap2177 l2178, fz w0 μ] w ∧ ref03_united_K7 x2441 k6 l2454 = some res) ?_ ?_
     ·skip
      refine wpIn_block ?_
      refine eseq ?_
      replace h := bindS h
      obtain ⟨u2457, hu2457, h⟩ := h
      refine runD (obs := [.run [] (Instr.indexAt 43 (sv ad2179 l2181 cap2180) (iv x2441)) (.pointer (some (slAddr ad2179 x2441 2))), .run [] (Instr.loadAt 3 (.pointer (some (slAddr ad2179 x2441 2)))) (iv u2457.Lo), .run [] (Instr.loadAt 3 (.pointer (some ⟨b2184, 1, none⟩))) (iv x2334)]) 8 [(3, sv ad2176 l2178 cap2177), (4, sv ad2179 l2181 cap2180), (5, pb b2184), (9, sv ad2442 l2444 cap2443), (10, iv x2441), (82, .bool (decide (u2457.Lo > x2334)))] (by kernel_rfl) hF (by kernel_rfl) (ocons (obIdxQ (hS.arr (i := 2) rfl) (by kernel_rfl) (fun _ => hu2457)) (ocons (obElQ (i := x2441) 0 api_Span.cells_len (fun _ hd => ((hS.later hd).arr (i := 2) rfl)) (by kernel_rfl) (fun _ => hu2457) rfl) (ocons (ob1 (by kernel_rfl) (fun _ hd => (hS.later hd).cell (i := 1) (j := 1) rfl rfl)) onil))) ⟨by kernel_rfl⟩ fun a w hF hx => ?_
      replace hS := hS.later hx
      refine wfn rfl ?_
      refine econd hF rfl (fun hc => ?_) (fun hc => ?_)
      ·replace h := bif_t h hc
       refine WI.region ?_
       replace h := bindS h
       obtain ⟨u2458, hu2458, h⟩ := h
       refine rno 5 [.run [] (Instr.indexAt 43 (sv ad2179 l2181 cap2180) (iv x2441)) (.pointer (some (slAddr ad2179 x2441 2))), .run [] (Instr.loadAt 25 (.pointer (some (slAddr ad2179 x2441 2)))) (.agg #[iv u2458.Lo, iv u2458.Hi])] 5 [(3, sv ad2176 l2178 cap2177), (4, sv ad2179 l2181 cap2180), (5, pb b2184), (9, sv ad2442 l2444 cap2443), (10, iv x2441), (83, sv ad2442 l2444 cap2443), (87, .agg #[iv u2458.Lo, iv u2458.Hi])] hF (ocons (obIdxQ (hS.arr (i := 2) rfl) (by kernel_rfl) (fun _ => hu2458)) (ocons (obElNQ (m := 2) (i := x2441) (us := [iv u2458.Lo, iv u2458.Hi]) 0 api_Span.cells_len (fun _ hd => ((hS.at_ hd).arr (i := 2) rfl)) (by kernel_rfl) (fun _ => hu2458) ⟨rfl, rfl⟩) onil)) fun a hF => ?_
       refine SK.wi (litK (e := 25) (sz := 2) (f := api_Span.cells) (t := 43) (len := 1) (fun b2459 => [(3, sv ad2176 l2178 cap2177), (4, sv ad2179 l2181 cap2180), (5, pb b2184), (9, sv ad2442 l2444 cap2443), (10, iv x2441), (83, sv ad2442 l2444 cap2443), (88, sb b2459 1)]) #[(0, .agg #[iv u2458.Lo, iv u2458.Hi])] #[iv u2458.Lo, iv u2458.Hi] ([u2458]) hF hS (by kernel_rfl) ⟨by kernel_rfl⟩ (by kernel_rfl) api_Span.cells_len rfl rfl (by kernel_rfl) (fun _ => ⟨by kernel_rfl⟩) fun b2459 w a hF hS => ?_)
       replace h := bindS h
       obtain ⟨l2460, hl2460, h⟩ := h
       refine SK.wi (appK (t := 43) (ty := 43) (bytes := 16) (l := l2444) (l' := ([u2458])) (fun ad2461 cap2462 => [(3, sv ad2176 l2178 cap2177), (4, sv ad2179 l2181 cap2180), (5, pb b2184), (9, sv ad2442 l2444 cap2443), (10, iv x2441), (89, sv ad2461 l2460 cap2462)]) 1 hF hS rfl (by kernel_rfl) ⟨by kernel_rfl⟩ (by kernel_rfl) (hS.arr (i := 0) rfl) (fun _ _ => rfl) hl2460 (fun _ _ => ⟨by kernel_rfl⟩) fun ad2461 cap2462 w a hF hS => ?_)
       refine rn 1 8 [(3, sv ad2176 l2178 cap2177), (4, sv ad2179 l2181 cap2180), (5, pb b2184), (9, sv ad2461 l2460 cap2462), (10, iv x2441)] hF fun a hF => ?_
       refine WI.fin rfl (norm_block <| norm_then <| ?_)
       exact ⟨l2460, ad2461, cap2462, hF.sub (by kernel_rfl), St.pick [1, 2, 3, 4, 5] (by decide) hS, h⟩
      ·replace h := bif_f h hc
       refine wpIn_skip (norm_block <| norm_then <| ?_)
       exact ⟨l2444, ad2442, cap2443, hF.sub (by kernel_rfl), St.pick [0, 1, 2, 3, 4] (by decide) hS, h⟩
     rintro a w ⟨l2454, ad2452, cap2453, hF, hS, h⟩
     rw [ref03_united_K7] at h
     refine WI.region ?_
     replace h := bindS h
     obtain ⟨x2455, hx2455, h⟩ := h
     refine rno 3 [.run [] (binOp .add 3 (iv x2441) (iv 1)) (iv x2455)] 3 [(3, sv ad2176 l2178 cap2177), (4, sv ad2179 l2181 cap2180), (5, pb b2184), (9, sv ad2452 l2454 cap2453), (10, iv x2455)] hF (ocons (obAddC (fun _ => hx2455)) onil) fun a hF => ?_
     refine wfn rfl ?_
     rw [hk6] at h
     exact ⟨nk6, Nat.lt_succ_self _, x2455, l2454, ad2452, cap2453, hF.sub (by kernel_rfl), St.pick [0, 1, 2, 3, 4] (by decide) hS, h⟩
    ·replace h := bif_f h hc
     refine wpIn_exit (exit_then <| exit_then <| exit_hit <| norm_then ?_)
     exact ⟨l2444, ad2442, cap2443, hF.sub (by kernel_rfl), St.pick [0, 1, 2, 3, 4] (by decide) hS, h⟩
   rintro a w ⟨l2397, ad2395, cap2396, hF, hS, h⟩
   rw [ref03_united_K5] at h
   refine esr ?_
   refine rno 2 [.run [] (Instr.loadAt 25 (pb b2184)) (.agg #[iv x2216, iv x2334])] 2 [(3, sv ad2176 l2178 cap2177), (9, sv ad2395 l2397 cap2396), (90, sv ad2176 l2178 cap2177), (91, .agg #[iv x2216, iv x2334])] hF (ocons (obN (us := [iv x2216, iv x2334]) (by kernel_rfl) (fun _ hd => ((hS.at_ hd).blk (i := 1) rfl).cells rfl)) onil) fun a hF => ?_
   refine SK.wi (litK (e := 25) (sz := 2) (f := api_Span.cells) (t := 43) (len := 1) (fun b2398 => [(3, sv ad2176 l2178 cap2177), (9, sv ad2395 l2397 cap2396), (90, sv ad2176 l2178 cap2177), (92, sb b2398 1)]) #[(0, .agg #[iv x2216, iv x2334])] #[iv x2216, iv x2334] ([(api_Span.mk x2216 x2334)]) hF hS (by kernel_rfl) ⟨by kernel_rfl⟩ (by kernel_rfl) api_Span.cells_len rfl rfl (by kernel_rfl) (fun _ => ⟨by kernel_rfl⟩) fun b2398 w a hF hS => ?_)
   replace h := bindS h
   obtain ⟨l2399, hl2399, h⟩ := h
   refine SK.wi (appK (t := 43) (ty := 43) (bytes := 16) (l := l2178) (l' := ([(api_Span.mk x2216 x2334)])) (fun ad2400 cap2401 => [(3, sv ad2176 l2178 cap2177), (9, sv ad2395 l2397 cap2396), (93, sv ad2400 l2399 cap2401)]) 4 hF hS rfl (by kernel_rfl) ⟨by kernel_rfl⟩ (by kernel_rfl) (hS.arr (i := 0) rfl) (fun _ _ => rfl) hl2399 (fun _ _ => ⟨by kernel_rfl⟩) fun ad2400 cap2401 w a hF hS => ?_)
   refine rn 1 5 [(3, sv ad2400 l2399 cap2401), (9, sv ad2395 l2397 cap2396)] hF fun a hF => ?_
   refine wfn rfl ?_
   refine WI.region ?_
   refine rn 2 2 [(3, sv ad2400 l2399 cap2401), (4, sv ad2395 l2397 cap2396)] hF fun a hF => ?_
   refine WI.fin rfl (norm_block <| norm_then <| ?_)
   rw [hk2] at h
   exact ⟨nk2, Nat.lt_succ_self _, l2399, l2397, ad2400, cap2401, ad2395, cap2396, hF.sub (by kernel_rfl), St.pick [1, 4, 5] (by decide) hS, h⟩
  ·replace h := bif_f h hc
   refine wpIn_exit (exit_then <| exit_then <| exit_hit <| norm_then ?_)
   exact ⟨l2178, ad2176, cap2177, hF.sub (by kernel_rfl), St.pick [1, 2] (by decide) hS, h⟩
 rintro a w ⟨l1310, ad1308, cap1309, hF, hS, h⟩
 rw [ref03_united_K1] at h
 refine esr ?_
 refine rn 2 2 [(2, sv ad1308 l1310 cap1309)] hF fun a hF => ?_
 refine wfn rfl ?_
 refine wpIn_ret (fn_ret [.tmp 2] [sv ad1308 l1310 cap1309] hF rfl ⟨rfl, trivial⟩ ?_)
 have hr_ := Option.some.inj h
 subst hr_
 exact ⟨_, _, rfl, St.pick [0] (by decide) hS⟩

theorem law03_few_ok (F : Nat) (p0 : (List (List api_Span))) (p1 : Int) (res : Bool) (h : law03_few F p0 p1 = some res) (μ : Frz) (w0 : World) (hm : FrzAt μ w0) {ad1 : Option Addr} {cap2 : Nat} {css3 : List (List Value)} (hA4 : ArrQ μ 1 Rp43 ad1 cap2 css3 p0) : Calls Try.prog 23 #[sv ad1 p0 cap2, iv p1] w0 (fun e w => e = .returned (.bool res) ∧ Ext w0 w) := by
 obtain ⟨hlow, hS⟩ := hm.init
 have hext := Frz.ext_refl w0.heap.size μ
 rw [law03_few] at h
 refine fn_enterW Try.func23 rfl 35 [(0, sv ad1 p0 cap2), (1, iv p1)] rfl rfl (by kernel_rfl) fun a w hw hF => ?_
 replace hS : St w0 [fz w0 μ] w := by rw [hw]; exact hS
 clear hw
 refine esr ?_
 refine rn 1 1 [(0, sv ad1 p0 cap2), (1, iv p1)] hF fun a hF => ?_
 refine wfn rfl ?_
 refine ecut (fun a w => Fr 35 [] [] a ∧ St w0 [fz w0 μ] w ∧ law03_few_K1 = some res) ?_ ?_
 ·skip
  refine esr ?_
  refine rn 1 1 [(0, sv ad1 p0 cap2), (1, iv p1), (5, iv 0)] hF fun a hF => ?_
  refine wfn rfl ?_
  refine wpIn_block ?_
  refine eloop (fun n_ a w => ∃ (x170 : Int), Fr 35 [] [(0, sv ad1 p0 cap2), (1, iv p1), (5, iv x170)] a ∧ St w0 [fz w0 μ] w ∧ law03_few_L2 p0 p1 n_ x170 = some res) F ⟨0, hF.sub (by kernel_rfl), St.pick [0] (by decide) hS, h⟩ ?_
  rintro nk2 a w ⟨x170, hF, hS, h⟩
  rcases nk2 with _ | nk2
  ·cases (show (none : Option Bool) = some res from h)
  obtain ⟨k2, hk2⟩ : ∃ k, k = law03_few_L2 p0 p1 nk2 := ⟨_, rfl⟩
  replace h : law03_few_B2 p0 p1 k2 x170 = some res := by rw [hk2]; exact h
  rw [law03_few_B2] at h
  refine eseq ?_
  refine esr ?_
  refine rn 4 4 [(0, sv ad1 p0 cap2), (1, iv p1), (5, iv x170), (9, .bool (decide (x170 < (ln p0))))] hF fun a hF => ?_
  refine wfn rfl ?_
  refine econd hF rfl (fun hc => ?_) (fun hc => ?_)
  ·replace h := bif_t h hc
   refine wpIn_skip (norm_then ?_)
   refine eseq ?_
   refine wpIn_block ?_
   refine esr ?_
   replace h := bindS h
   obtain ⟨u172, hu172, h⟩ := h
   obtain ⟨cs173, hcs174, hR175⟩ := getI_all2 hA4.2 hu172
   obtain ⟨ad176, cap177, rfl, hA178⟩ := hR175
   refine rno 8 [.run [] (Instr.indexAt 48 (sv ad1 p0 cap2) (iv x170)) (.pointer (some (slAddr ad1 x170 1))), .run [] (Instr.loadAt 43 (.pointer (some (slAddr ad1 x170 1)))) (sv ad176 u172 cap177)] 8 [(0, sv ad1 p0 cap2), (1, iv p1), (5, iv x170), (19, .bool (decide ((ln u172) > p1)))] hF (ocons (obIdxQ (hA4.at (hS.frz (i := 0) rfl hlow)) (by kernel_rfl) (fun _ => hcs174)) (ocons (obElQ (i := x170) 0 (fN_len 1) (fun _ hd => (hA4.at ((hS.at_ hd).frz (i := 0) rfl hlow))) (by kernel_rfl) (fun _ => hcs174) rfl) onil)) fun a hF => ?_
   rcases Bool.eq_false_or_eq_true ((decide ((ln u172) > p1))) with hg179 | hg179
   ·replace h := bif_t h hg179
    rw [hg179] at hF
    replace h := bindS h
    obtain ⟨u180, hu180, h⟩ := h
    obtain ⟨cs181, hcs182, hR183⟩ := getI_all2 hA4.2 hu180
    obtain ⟨ad184, cap185, rfl, hA186⟩ := hR183
    refine rno 8 [.run [⟨19, true, true⟩] (Instr.indexAt 48 (sv ad1 p0 cap2) (iv x170)) (.pointer (some (slAddr ad1 x170 1))), .run [⟨19, true, true⟩] (Instr.loadAt 43 (.pointer (some (slAddr ad1 x170 1)))) (sv ad184 u180 cap185)] 16 [(0, sv ad1 p0 cap2), (1, iv p1), (5, iv x170), (27, .bool (decide ((ln u180) ≤ 256)))] hF (ocons (obIdxQ (hA4.at (hS.frz (i := 0) rfl hlow)) (by kernel_rfl) (fun _ => hcs182)) (ocons (obElQ (i := x170) 0 (fN_len 1) (fun _ hd => (hA4.at ((hS.at_ hd).frz (i := 0) rfl hlow))) (by kernel_rfl) (fun _ => hcs182) rfl) onil)) fun a hF => ?_
    rcases Bool.eq_false_or_eq_true ((decide ((ln u180) ≤ 256))) with hg187 | hg187
    ·replace h := bif_t h hg187
     rw [hg187] at hF
     refine skip_ 17 [(0, sv ad1 p0 cap2), (1, iv p1), (5, iv x170), (27, .bool true), (28, undef)] hF (by kernel_rfl) ⟨by kernel_rfl⟩ ⟨by kernel_rfl⟩ rfl fun a hF => ?_
     refine skip_ 18 [(0, sv ad1 p0 cap2), (1, iv p1), (5, iv x170), (27, .bool true), (28, undef), (29, undef)] hF (by kernel_rfl) ⟨by kernel_rfl⟩ ⟨by kernel_rfl⟩ rfl fun a hF => ?_
     refine skip_ 19 [(0, sv ad1 p0 cap2), (1, iv p1), (5, iv x170), (27, .bool true), (30, undef)] hF (by kernel_rfl) ⟨by kernel_rfl⟩ ⟨by kernel_rfl⟩ rfl fun a hF => ?_
     refine skip_ 20 [(0, sv ad1 p0 cap2), (1, iv p1), (5, iv x170), (27, .bool true), (31, undef)] hF (by kernel_rfl) ⟨by kernel_rfl⟩ ⟨by kernel_rfl⟩ rfl fun a hF => ?_
     refine skip_ 21 [(0, sv ad1 p0 cap2), (1, iv p1), (5, iv x170), (27, .bool true), (32, undef)] hF (by kernel_rfl) ⟨by kernel_rfl⟩ ⟨by kernel_rfl⟩ rfl fun a hF => ?_
     refine skip_ 22 [(0, sv ad1 p0 cap2), (1, iv p1), (5, iv x170), (27, .bool true), (33, undef)] hF (by kernel_rfl) ⟨by kernel_rfl⟩ ⟨by kernel_rfl⟩ rfl fun a hF => ?_
     refine rn 1 23 [(0, sv ad1 p0 cap2), (1, iv p1), (5, iv x170), (34, .bool true)] hF fun a hF => ?_
     refine wfn rfl ?_
     refine wpIn_cond_true (hF.get rfl) ?_
     refine esr ?_
     refine rn 1 1 [(4, .bool false)] hF fun a hF => ?_
     refine wfn rfl ?_
     refine wpIn_ret (ret_block <| ret_then <| ret_then <| ret_block <| ret_then <| fn_ret [.tmp 4] [.bool false] hF rfl ⟨rfl, trivial⟩ ?_)
     have hr_ := Option.some.inj h
     subst hr_
     exact ⟨rfl, hS.ext⟩
    ·replace h := bif_f h hg187
     rw [hg187] at hF
     replace h := bindS h
     obtain ⟨u188, hu188, h⟩ := h
     obtain ⟨cs189, hcs190, hR191⟩ := getI_all2 hA4.2 hu188
     obtain ⟨ad192, cap193, rfl, hA194⟩ := hR191
     refine rno 7 [.run [⟨27, false, false⟩] (Instr.indexAt 48 (sv ad1 p0 cap2) (iv x170)) (.pointer (some (slAddr ad1 x170 1))), .run [⟨27, false, false⟩] (Instr.loadAt 43 (.pointer (some (slAddr ad1 x170 1)))) (sv ad192 u188 cap193)] 23 [(0, sv ad1 p0 cap2), (1, iv p1), (5, iv x170), (34, .bool (decide ((ln u188) > 260)))] hF (ocons (obIdxQ (hA4.at (hS.frz (i := 0) rfl hlow)) (by kernel_rfl) (fun _ => hcs190)) (ocons (obElQ (i := x170) 0 (fN_len 1) (fun _ hd => (hA4.at ((hS.at_ hd).frz (i := 0) rfl hlow))) (by kernel_rfl) (fun _ => hcs190) rfl) onil)) fun a hF => ?_
     refine wfn rfl ?_
     refine econd hF rfl (fun hc => ?_) (fun hc => ?_)
     ·replace h := bif_t h hc
      refine esr ?_
      refine rn 1 1 [(4, .bool false)] hF fun a hF => ?_
      refine wfn rfl ?_
      refine wpIn_ret (ret_block <| ret_then <| ret_then <| ret_block <| ret_then <| fn_ret [.tmp 4] [.bool false] hF rfl ⟨rfl, trivial⟩ ?_)
      have hr_ := Option.some.inj h
      subst hr_
      exact ⟨rfl, hS.ext⟩
     ·replace h := bif_f h hc
      refine wpIn_skip (norm_block <| norm_then <| ?_)
      refine WI.region ?_
      replace h := bindS h
      obtain ⟨x195, hx195, h⟩ := h
      refine rno 3 [.run [] (binOp .add 3 (iv x170) (iv 1)) (iv x195)] 3 [(0, sv ad1 p0 cap2), (1, iv p1), (5, iv x195)] hF (ocons (obAddC (fun _ => hx195)) onil) fun a hF => ?_
      refine wfn rfl ?_
      rw [hk2] at h
      exact ⟨nk2, Nat.lt_succ_self _, x195, hF.sub (by kernel_rfl), St.pick [0] (by decide) hS, h⟩
   ·replace h := bif_f h hg179
    rw [hg179] at hF
    refine skip_ 9 [(0, sv ad1 p0 cap2), (1, iv p1), (5, iv x170), (19, .bool false), (20, undef)] hF (by kernel_rfl) ⟨by kernel_rfl⟩ ⟨by kernel_rfl⟩ rfl fun a hF => ?_
    refine skip_ 10 [(0, sv ad1 p0 cap2), (1, iv p1), (5, iv x170), (19, .bool false), (20, undef), (21, undef)] hF (by kernel_rfl) ⟨by kernel_rfl⟩ ⟨by kernel_rfl⟩ rfl fun a hF => ?_
    refine skip_ 11 [(0, sv ad1 p0 cap2), (1, iv p1), (5, iv x170), (19, .bool false), (22, undef)] hF (by kernel_rfl) ⟨by kernel_rfl⟩ ⟨by kernel_rfl⟩ rfl fun a hF => ?_
    refine skip_ 12 [(0, sv ad1 p0 cap2), (1, iv p1), (5, iv x170), (19, .bool false), (23, undef)] hF (by kernel_rfl) ⟨by kernel_rfl⟩ ⟨by kernel_rfl⟩ rfl fun a hF => ?_
    refine skip_ 13 [(0, sv ad1 p0 cap2), (1, iv p1), (5, iv x170), (19, .bool false), (24, undef)] hF (by kernel_rfl) ⟨by kernel_rfl⟩ ⟨by kernel_rfl⟩ rfl fun a hF => ?_
    refine skip_ 14 [(0, sv ad1 p0 cap2), (1, iv p1), (5, iv x170), (19, .bool false), (25, undef)] hF (by kernel_rfl) ⟨by kernel_rfl⟩ ⟨by kernel_rfl⟩ rfl fun a hF => ?_
    refine rn 2 16 [(0, sv ad1 p0 cap2), (1, iv p1), (5, iv x170), (27, .bool false)] hF fun a hF => ?_
    replace h := bindS h
    obtain ⟨u196, hu196, h⟩ := h
    obtain ⟨cs197, hcs198, hR199⟩ := getI_all2 hA4.2 hu196
    obtain ⟨ad200, cap201, rfl, hA202⟩ := hR199
    refine rno 7 [.run [⟨27, false, false⟩] (Instr.indexAt 48 (sv ad1 p0 cap2) (iv x170)) (.pointer (some (slAddr ad1 x170 1))), .run [⟨27, false, false⟩] (Instr.loadAt 43 (.pointer (some (slAddr ad1 x170 1)))) (sv ad200 u196 cap201)] 23 [(0, sv ad1 p0 cap2), (1, iv p1), (5, iv x170), (34, .bool (decide ((ln u196) > 260)))] hF (ocons (obIdxQ (hA4.at (hS.frz (i := 0) rfl hlow)) (by kernel_rfl) (fun _ => hcs198)) (ocons (obElQ (i := x170) 0 (fN_len 1) (fun _ hd => (hA4.at ((hS.at_ hd).frz (i := 0) rfl hlow))) (by kernel_rfl) (fun _ => hcs198) rfl) onil)) fun a hF => ?_
    refine wfn rfl ?_
    refine econd hF rfl (fun hc => ?_) (fun hc => ?_)
    ·replace h := bif_t h hc
     refine esr ?_
     refine rn 1 1 [(4, .bool false)] hF fun a hF => ?_
     refine wfn rfl ?_
     refine wpIn_ret (ret_block <| ret_then <| ret_then <| ret_block <| ret_then <| fn_ret [.tmp 4] [.bool false] hF rfl ⟨rfl, trivial⟩ ?_)
     have hr_ := Option.some.inj h
     subst hr_
     exact ⟨rfl, hS.ext⟩
    ·replace h := bif_f h hc
     refine wpIn_skip (norm_block <| norm_then <| ?_)
     refine WI.region ?_
     replace h := bindS h
     obtain ⟨x203, hx203, h⟩ := h
     refine rno 3 [.run [] (binOp .add 3 (iv x170) (iv 1)) (iv x203)] 3 [(0, sv ad1 p0 cap2), (1, iv p1), (5, iv x203)] hF (ocons (obAddC (fun _ => hx203)) onil) fun a hF => ?_
     refine wfn rfl ?_
     rw [hk2] at h
     exact ⟨nk2, Nat.lt_succ_self _, x203, hF.sub (by kernel_rfl), St.pick [0] (by decide) hS, h⟩
  ·replace h := bif_f h hc
   refine wpIn_exit (exit_then <| exit_then <| exit_hit <| norm_then ?_)
   exact ⟨hF.sub (by kernel_rfl), St.pick [0] (by decide) hS, h⟩
 rintro a w ⟨hF, hS, h⟩
 rw [law03_few_K1] at h
 refine esr ?_
 refine rn 1 1 [(4, .bool true)] hF fun a hF => ?_
 refine wfn rfl ?_
 refine wpIn_ret (fn_ret [.tmp 4] [.bool true] hF rfl ⟨rfl, trivial⟩ ?_)
 have hr_ := Option.some.inj h
 subst hr_
 exact ⟨rfl, hS.ext⟩

theorem ref03_limits_ok (p0 : Int) (p1 : Int) (res : Int) (h : ref03_limits p0 p1 = res) (μ : Frz) (w0 : World) (hm : FrzAt μ w0) : Calls Try.prog 72 #[iv p0, iv p1] w0 (fun e w => e = .returned (iv res) ∧ Ext w0 w) := by
 obtain ⟨hlow, hS⟩ := hm.init
 have hext := Frz.ext_refl w0.heap.size μ
 rw [ref03_limits] at h
 refine fn_enterW Try.func72 rfl 19 [(0, iv p0), (1, iv p1)] rfl rfl (by kernel_rfl) fun a w hw hF => ?_
 replace hS : St w0 [fz w0 μ] w := by rw [hw]; exact hS
 clear hw
 refine esr ?_
 refine rn 1 1 [(0, iv p0), (1, iv p1)] hF fun a hF => ?_
 refine wfn rfl ?_
 refine eseq ?_
 refine esr ?_
 refine rn 14 14 [(18, .bool (bif (bif (bif (decide (p0 < 0)) then true else (decide (p0 > 400000))) then true else (decide (p1 < 1))) then true else (decide (p1 > 16))))] hF fun a hF => ?_
 refine wfn rfl ?_
 refine econd hF rfl (fun hc => ?_) (fun hc => ?_)
 ·replace h := bif_t h hc
  refine esr ?_
  refine rn 1 1 [(4, iv 3)] hF fun a hF => ?_
  refine wfn rfl ?_
  refine wpIn_ret (ret_then <| fn_ret [.tmp 4] [iv 3] hF rfl ⟨rfl, trivial⟩ ?_)
  subst h
  exact ⟨rfl, hS.ext⟩
 ·replace h := bif_f h hc
  refine wpIn_skip (norm_then ?_)
  refine esr ?_
  refine rn 1 1 [(4, iv 0)] hF fun a hF => ?_
  refine wfn rfl ?_
  refine wpIn_ret (fn_ret [.tmp 4] [iv 0] hF rfl ⟨rfl, trivial⟩ ?_)
  subst h
  exact ⟨rfl, hS.ext⟩
end Go.Proofs.Ytbhjgebjojdohaa
