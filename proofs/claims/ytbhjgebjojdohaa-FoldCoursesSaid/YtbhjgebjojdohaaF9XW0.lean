/- Walks, written by program (wip/gen/dec.py). -/
import Derived.Test.YtbhjgebjojdohaaF9XD
import Derived.Test.YtbhjgebjojdohaaProg
namespace Go.Proofs.Ytbhjgebjojdohaa
open Go Go.RowKit Go.Eng
set_option maxRecDepth 10000
set_option maxHeartbeats 4000000
set_option linter.unusedVariables false
set_option linter.unusedSimpArgs false
theorem fold_common_ok (p0 : api_Span) (p1 : api_Span) (res : (api_Span × Bool)) (h : fold_common p0 p1 = res) (μ : Frz) (w0 : World) (hm : FrzAt μ w0) : Calls Try.prog 92 #[.agg #[iv p0.Lo, iv p0.Hi], .agg #[iv p1.Lo, iv p1.Hi]] w0 (fun e w => e = .returned (.tuple #[.agg #[iv res.1.Lo, iv res.1.Hi], .bool res.2]) ∧ Ext w0 w) := by
 obtain ⟨hlow, hS⟩ := hm.init
 have hext := Frz.ext_refl w0.heap.size μ
 rw [fold_common] at h
 refine fn_enterW Try.func92 rfl 24 [(0, .agg #[iv p0.Lo, iv p0.Hi]), (1, .agg #[iv p1.Lo, iv p1.Hi])] rfl rfl (by kernel_rfl) fun a w hw hF => ?_
 replace hS : St w0 [fz w0 μ] w := by rw [hw]; exact hS
 clear hw
 refine esr ?_
 refine SK.wi (boxK (t := 25) (fun b1 => [(1, .agg #[iv p1.Lo, iv p1.Hi]), (2, pb b1)]) (.agg #[iv p0.Lo, iv p0.Hi]) #[iv p0.Lo, iv p0.Hi] hF hS (by kernel_rfl) ⟨by kernel_rfl⟩ (by kernel_rfl) (fun _ => ⟨by kernel_rfl⟩) fun b1 w a hF hS => ?_)
 refine SK.wi (boxK (t := 25) (fun b2 => [(2, pb b1), (3, pb b2)]) (.agg #[iv p1.Lo, iv p1.Hi]) #[iv p1.Lo, iv p1.Hi] hF hS (by kernel_rfl) ⟨by kernel_rfl⟩ (by kernel_rfl) (fun _ => ⟨by kernel_rfl⟩) fun b2 w a hF hS => ?_)
 refine SK.wi (allocK (t := 25) (fun b3 => [(2, pb b1), (3, pb b2), (4, pb b3)]) #[iv 0, iv 0] hF hS (by kernel_rfl) ⟨by kernel_rfl⟩ (by kernel_rfl) (fun _ => ⟨by kernel_rfl⟩) fun b3 w a hF hS => ?_)
 refine rn 1 4 [(2, pb b1), (3, pb b2), (4, pb b3)] hF fun a hF => ?_
 refine wfn rfl ?_
 refine esr ?_
 refine rno 11 [.run [] (Instr.loadAt 3 (pb b1)) (iv p0.Lo), .run [] (Instr.loadAt 3 (pb b2)) (iv p1.Lo), .run [] (Instr.loadAt 3 (.pointer (some ⟨b1, 1, none⟩))) (iv p0.Hi), .run [] (Instr.loadAt 3 (.pointer (some ⟨b2, 1, none⟩))) (iv p1.Hi)] 11 [(4, pb b3), (17, .agg #[iv (if p1.Lo > p0.Lo then p1.Lo else p0.Lo), iv (if p1.Hi < p0.Hi then p1.Hi else p0.Hi)])] hF (ocons (ob1 (by kernel_rfl) (fun _ hd => (hS.at_ hd).cell (i := 2) (j := 0) rfl rfl)) (ocons (ob1 (by kernel_rfl) (fun _ hd => (hS.at_ hd).cell (i := 1) (j := 0) rfl rfl)) (ocons (ob1 (by kernel_rfl) (fun _ hd => (hS.at_ hd).cell (i := 2) (j := 1) rfl rfl)) (ocons (ob1 (by kernel_rfl) (fun _ hd => (hS.at_ hd).cell (i := 1) (j := 1) rfl rfl)) onil)))) fun a hF => ?_
 refine SK.wi (allocK (t := 25) (fun b4 => [(4, pb b3), (6, pb b4), (17, .agg #[iv (if p1.Lo > p0.Lo then p1.Lo else p0.Lo), iv (if p1.Hi < p0.Hi then p1.Hi else p0.Hi)])]) #[iv 0, iv 0] hF hS (by kernel_rfl) ⟨by kernel_rfl⟩ (by kernel_rfl) (fun _ => ⟨by kernel_rfl⟩) fun b4 w a hF hS => ?_)
 refine SK.wi (storeK (t := 25) [(4, pb b3), (6, pb b4)] 0 0 (.agg #[iv (if p1.Lo > p0.Lo then p1.Lo else p0.Lo), iv (if p1.Hi < p0.Hi then p1.Hi else p0.Hi)]) #[iv (if p1.Lo > p0.Lo then p1.Lo else p0.Lo), iv (if p1.Hi < p0.Hi then p1.Hi else p0.Hi)] hF hS rfl (by kernel_rfl) ⟨by kernel_rfl⟩ (by kernel_rfl) (by kernel_rfl) (by kernel_rfl) (by kernel_rfl) ⟨by kernel_rfl⟩ fun w a hF hS => ?_)
 refine wfn rfl ?_
 refine eseq ?_
 refine region_treeW 8 [6] _ (D := fun w => St w0 [blk b4 25 #[iv (if p1.Lo > p0.Lo then p1.Lo else p0.Lo), iv (if p1.Hi < p0.Hi then p1.Hi else p0.Hi)], blk b2 25 #[iv p1.Lo, iv p1.Hi], blk b1 25 #[iv p0.Lo, iv p0.Hi]] w ∧ FrzAt μ w) (by kernel_rfl) (by kernel_rfl) hF.size (fun w hx => ?_) (fun _ _ h => h)
 replace hS := hS.later hx
 refine ⟨⟨St.pick [0, 2, 3] (by decide) hS, hS.frz (i := 4) rfl hlow⟩, ?_⟩
 have hcl5 := Frz.le_refl μ
 refine WT.s [0, 1, 2, 3, 4, 5] [6] (by kernel_rfl) (by kernel_rfl) ?_
 refine runC (rest := []) (obs := [.run [] (Instr.loadAt 25 (pb b4)) (.agg #[iv (if p1.Lo > p0.Lo then p1.Lo else p0.Lo), iv (if p1.Hi < p0.Hi then p1.Hi else p0.Hi)]), .run [] (Instr.loadAt 3 (pb b4)) (iv (if p1.Lo > p0.Lo then p1.Lo else p0.Lo)), .run [] (Instr.loadAt 3 (.pointer (some ⟨b4, 1, none⟩))) (iv (if p1.Hi < p0.Hi then p1.Hi else p0.Hi))]) [0, 1, 2, 3, 4, 5] [(4, pb b3), (18, .agg #[iv (if p1.Lo > p0.Lo then p1.Lo else p0.Lo), iv (if p1.Hi < p0.Hi then p1.Hi else p0.Hi)]), (23, .bool (decide ((if p1.Lo > p0.Lo then p1.Lo else p0.Lo) ≤ (if p1.Hi < p0.Hi then p1.Hi else p0.Hi))))] hF (by kernel_rfl) (by kernel_rfl) (ocons (obN (us := [iv (if p1.Lo > p0.Lo then p1.Lo else p0.Lo), iv (if p1.Hi < p0.Hi then p1.Hi else p0.Hi)]) (by kernel_rfl) (fun _ hd => (hd.1.blk (i := 0) rfl).cells rfl)) (ocons (ob1 (by kernel_rfl) (fun _ hd => hd.1.cell (i := 0) (j := 0) rfl rfl)) (ocons (ob1 (by kernel_rfl) (fun _ hd => hd.1.cell (i := 0) (j := 1) rfl rfl)) onil))) ⟨by kernel_rfl⟩ fun a hF => ?_
 refine WRun.fin ?_
 refine all_cons ?_ (all_nil)
 refine storeK (t := 25) [(4, pb b3), (23, .bool (decide ((if p1.Lo > p0.Lo then p1.Lo else p0.Lo) ≤ (if p1.Hi < p0.Hi then p1.Hi else p0.Hi))))] 1 0 (.agg #[iv (if p1.Lo > p0.Lo then p1.Lo else p0.Lo), iv (if p1.Hi < p0.Hi then p1.Hi else p0.Hi)]) #[iv (if p1.Lo > p0.Lo then p1.Lo else p0.Lo), iv (if p1.Hi < p0.Hi then p1.Hi else p0.Hi)] hF hS rfl (by kernel_rfl) ⟨by kernel_rfl⟩ (by kernel_rfl) (by kernel_rfl) (by kernel_rfl) (by kernel_rfl) ⟨by kernel_rfl⟩ fun w a hF hS => ⟨⟨St.pick [0, 2, 3] (by decide) hS, (hS.frz (i := 4) rfl hlow)⟩, ?_⟩
 refine WT.z [7] (by kernel_rfl) ?_
 refine runC (rest := []) (obs := []) [7] [(4, pb b3), (5, .bool (decide ((if p1.Lo > p0.Lo then p1.Lo else p0.Lo) ≤ (if p1.Hi < p0.Hi then p1.Hi else p0.Hi))))] hF (by kernel_rfl) (by kernel_rfl) onil ⟨by kernel_rfl⟩ fun a hF => ?_
 refine WRun.fin ?_
 refine wfn rfl ?_
 refine wpIn_ret (fn_ret [.cell 4 25, .tmp 5] [.agg #[iv (if p1.Lo > p0.Lo then p1.Lo else p0.Lo), iv (if p1.Hi < p0.Hi then p1.Hi else p0.Hi)], .bool (decide ((if p1.Lo > p0.Lo then p1.Lo else p0.Lo) ≤ (if p1.Hi < p0.Hi then p1.Hi else p0.Hi)))] hF rfl ⟨⟨_, rfl, loadVarN (cs := [iv (if p1.Lo > p0.Lo then p1.Lo else p0.Lo), iv (if p1.Hi < p0.Hi then p1.Hi else p0.Hi)]) (by kernel_rfl) ((hS.blk (i := 1) rfl).cells rfl)⟩, rfl, trivial⟩ ?_)
 subst h
 exact ⟨rfl, hS.ext⟩

theorem fold_checked_ok (F : Nat) (p0 : (List api_Span)) (p1 : Bool) (res : Int) (h : fold_checked F p0 p1 = some res) (μ : Frz) (w0 : World) (hm : FrzAt μ w0) {ad1 : Option Addr} {cap2 : Nat} (hA3 : ArrM μ 2 api_Span.cells ad1 cap2 p0) : Calls Try.prog 61 #[sv ad1 p0 cap2, .bool p1] w0 (fun e w => e = .returned (iv res) ∧ Ext w0 w) := by
 obtain ⟨hlow, hS⟩ := hm.init
 have hext := Frz.ext_refl w0.heap.size μ
 rw [fold_checked] at h
 refine fn_enterW Try.func61 rfl 51 [(0, sv ad1 p0 cap2), (1, .bool p1)] rfl rfl (by kernel_rfl) fun a w hw hF => ?_
 replace hS : St w0 [fz w0 μ] w := by rw [hw]; exact hS
 clear hw
 refine esr ?_
 refine rn 1 1 [(0, sv ad1 p0 cap2), (1, .bool p1)] hF fun a hF => ?_
 refine wfn rfl ?_
 refine eseq ?_
 refine esr ?_
 refine rn 3 3 [(0, sv ad1 p0 cap2), (1, .bool p1), (9, .bool (decide ((ln p0) > 256)))] hF fun a hF => ?_
 refine wfn rfl ?_
 refine econd hF rfl (fun hc => ?_) (fun hc => ?_)
 ·replace h := bif_t h hc
  refine esr ?_
  refine rn 1 1 [(4, iv 9)] hF fun a hF => ?_
  refine wfn rfl ?_
  refine wpIn_ret (ret_then <| fn_ret [.tmp 4] [iv 9] hF rfl ⟨rfl, trivial⟩ ?_)
  have hr_ := Option.some.inj h
  subst hr_
  exact ⟨rfl, hS.ext⟩
 ·replace h := bif_f h hc
  refine wpIn_skip (norm_then ?_)
  refine ecut (fun a w => Fr 51 [] [] a ∧ St w0 [fz w0 μ] w ∧ fold_checked_K1 = some res) ?_ ?_
  ·skip
   refine esr ?_
   refine rn 3 3 [(0, sv ad1 p0 cap2), (1, .bool p1), (10, sv ad1 p0 cap2), (11, iv (ln p0)), (12, iv 0)] hF fun a hF => ?_
   refine wfn rfl ?_
   refine wpIn_block ?_
   refine eloop (fun n_ a w => ∃ (x34 : Int), Fr 51 [] [(0, sv ad1 p0 cap2), (1, .bool p1), (10, sv ad1 p0 cap2), (11, iv (ln p0)), (12, iv x34)] a ∧ St w0 [fz w0 μ] w ∧ fold_checked_L2 p0 p1 n_ x34 = some res) F ⟨0, hF.sub (by kernel_rfl), St.pick [0] (by decide) hS, h⟩ ?_
   rintro nk2 a w ⟨x34, hF, hS, h⟩
   rcases nk2 with _ | nk2
   ·cases (show (none : Option Int) = some res from h)
   obtain ⟨k2, hk2⟩ : ∃ k, k = fold_checked_L2 p0 p1 nk2 := ⟨_, rfl⟩
   replace h : fold_checked_B2 p0 p1 k2 x34 = some res := by rw [hk2]; exact h
   rw [fold_checked_B2] at h
   refine esr ?_
   refine rn 1 1 [(0, sv ad1 p0 cap2), (1, .bool p1), (10, sv ad1 p0 cap2), (11, iv (ln p0)), (12, iv x34), (13, .bool (decide (x34 < (ln p0))))] hF fun a hF => ?_
   refine wfn rfl ?_
   refine eseq ?_
   refine econd hF rfl (fun hc => ?_) (fun hc => ?_)
   ·replace h := bif_t h hc
    refine wpIn_skip (norm_then ?_)
    refine eseq ?_
    refine wpIn_block ?_
    refine esr ?_
    replace h := bindS h
    obtain ⟨u36, hu36, h⟩ := h
    refine rno 3 [.run [] (Instr.indexAt 43 (sv ad1 p0 cap2) (iv x34)) (.pointer (some (slAddr ad1 x34 2))), .run [] (Instr.loadAt 25 (.pointer (some (slAddr ad1 x34 2)))) (.agg #[iv u36.Lo, iv u36.Hi])] 3 [(0, sv ad1 p0 cap2), (1, .bool p1), (10, sv ad1 p0 cap2), (11, iv (ln p0)), (12, iv x34), (14, iv x34), (16, .agg #[iv u36.Lo, iv u36.Hi])] hF (ocons (obIdxQ (hA3 _ (hS.frz (i := 0) rfl hlow)) (by kernel_rfl) (fun _ => hu36)) (ocons (obElNQ (m := 2) (i := x34) (us := [iv u36.Lo, iv u36.Hi]) 0 api_Span.cells_len (fun _ hd => (hA3 _ ((hS.at_ hd).frz (i := 0) rfl hlow))) (by kernel_rfl) (fun _ => hu36) ⟨rfl, rfl⟩) onil)) fun a hF => ?_
    refine SK.wi (allocK (t := 25) (fun b37 => [(0, sv ad1 p0 cap2), (1, .bool p1), (6, pb b37), (10, sv ad1 p0 cap2), (11, iv (ln p0)), (12, iv x34), (14, iv x34), (16, .agg #[iv u36.Lo, iv u36.Hi])]) #[iv 0, iv 0] hF hS (by kernel_rfl) ⟨by kernel_rfl⟩ (by kernel_rfl) (fun _ => ⟨by kernel_rfl⟩) fun b37 w a hF hS => ?_)
    refine rn 1 5 [(0, sv ad1 p0 cap2), (1, .bool p1), (5, iv x34), (6, pb b37), (10, sv ad1 p0 cap2), (11, iv (ln p0)), (12, iv x34), (16, .agg #[iv u36.Lo, iv u36.Hi])] hF fun a hF => ?_
    refine SK.wi (storeK (t := 25) [(0, sv ad1 p0 cap2), (1, .bool p1), (5, iv x34), (6, pb b37), (10, sv ad1 p0 cap2), (11, iv (ln p0)), (12, iv x34)] 0 0 (.agg #[iv u36.Lo, iv u36.Hi]) #[iv u36.Lo, iv u36.Hi] hF hS rfl (by kernel_rfl) ⟨by kernel_rfl⟩ (by kernel_rfl) (by kernel_rfl) (by kernel_rfl) (by kernel_rfl) ⟨by kernel_rfl⟩ fun w a hF hS => ?_)
    refine wfn rfl ?_
    refine wpIn_block ?_
    refine esr ?_
    refine rno 16 [.run [] (Instr.loadAt 3 (pb b37)) (iv u36.Lo), .run [] (Instr.loadAt 3 (.pointer (some ⟨b37, 1, none⟩))) (iv u36.Hi), .run [⟨23, false, (decide (u36.Lo > u36.Hi))⟩] (Instr.loadAt 3 (pb b37)) (iv u36.Lo), .run [⟨28, false, (bif (decide (u36.Lo > u36.Hi)) then true else (decide (u36.Lo < (-200000))))⟩] (Instr.loadAt 3 (.pointer (some ⟨b37, 1, none⟩))) (iv u36.Hi)] 16 [(0, sv ad1 p0 cap2), (1, .bool p1), (5, iv x34), (6, pb b37), (10, sv ad1 p0 cap2), (11, iv (ln p0)), (12, iv x34), (17, .bool (bif (bif (decide (u36.Lo > u36.Hi)) then true else (decide (u36.Lo < (-200000)))) then true else (decide (u36.Hi > 200000))))] hF (ocons (ob1 (by kernel_rfl) (fun _ hd => (hS.at_ hd).cell (i := 0) (j := 0) rfl rfl)) (ocons (ob1 (by kernel_rfl) (fun _ hd => (hS.at_ hd).cell (i := 0) (j := 1) rfl rfl)) (ocons (ob1 (by kernel_rfl) (fun _ hd => (hS.at_ hd).cell (i := 0) (j := 0) rfl rfl)) (ocons (ob1 (by kernel_rfl) (fun _ hd => (hS.at_ hd).cell (i := 0) (j := 1) rfl rfl)) onil)))) fun a hF => ?_
    refine wfn rfl ?_
    refine econd hF rfl (fun hc => ?_) (fun hc => ?_)
    ·replace h := bif_t h hc
     refine esr ?_
     refine rn 1 1 [(4, iv 3)] hF fun a hF => ?_
     refine wfn rfl ?_
     refine wpIn_ret (ret_block <| ret_block <| ret_then <| ret_then <| ret_block <| ret_then <| fn_ret [.tmp 4] [iv 3] hF rfl ⟨rfl, trivial⟩ ?_)
     have hr_ := Option.some.inj h
     subst hr_
     exact ⟨rfl, hS.ext⟩
    ·replace h := bif_f h hc
     refine eseq ?_
     replace h := bindS h
     obtain ⟨x38, hx38, h⟩ := h
     replace h := bindS h
     obtain ⟨u39, hu39, h⟩ := h
     refine runD (obs := [.run [⟨39, true, (bif p1 then (decide (x34 > 0)) else false)⟩] (Instr.loadAt 3 (pb b37)) (iv u36.Lo), .run [⟨39, true, (bif p1 then (decide (x34 > 0)) else false)⟩] (binOp .sub 3 (iv x34) (iv 1)) (iv x38), .run [⟨39, true, (bif p1 then (decide (x34 > 0)) else false)⟩] (Instr.indexAt 43 (sv ad1 p0 cap2) (iv x38)) (.pointer (some (slAddr ad1 x38 2))), .run [⟨39, true, (bif p1 then (decide (x34 > 0)) else false)⟩] (Instr.loadAt 3 (.pointer (some ((slAddr ad1 x38 2).add 1)))) (iv u39.Hi)]) 17 [(0, sv ad1 p0 cap2), (1, .bool p1), (10, sv ad1 p0 cap2), (11, iv (ln p0)), (12, iv x34), (33, .bool (bif (bif p1 then (decide (x34 > 0)) else false) then (decide (u36.Lo ≤ u39.Hi)) else false))] (by kernel_rfl) hF (by kernel_rfl) (ocons (ob1 (by kernel_rfl) (fun _ hd => (hS.later hd).cell (i := 0) (j := 0) rfl rfl)) (ocons (obSubC (fun hk => gd_some hx38 hk)) (ocons (obIdxQ (hA3 _ (hS.frz (i := 1) rfl hlow)) (by kernel_rfl) (fun hk => gd_some hu39 hk)) (ocons (obElQ (i := x38) 1 api_Span.cells_len (fun _ hd => (hA3 _ ((hS.later hd).frz (i := 1) rfl hlow))) (by kernel_rfl) (fun hk => gd_some hu39 hk) rfl) onil)))) ⟨by kernel_rfl⟩ fun a w hF hx => ?_
     replace hS := hS.later hx
     refine wfn rfl ?_
     refine econd hF rfl (fun hc => ?_) (fun hc => ?_)
     ·replace h := bif_t h hc
      refine esr ?_
      refine rn 1 1 [(4, iv 12)] hF fun a hF => ?_
      refine wfn rfl ?_
      refine wpIn_ret (ret_block <| ret_block <| ret_then <| ret_then <| ret_block <| ret_then <| fn_ret [.tmp 4] [iv 12] hF rfl ⟨rfl, trivial⟩ ?_)
      have hr_ := Option.some.inj h
      subst hr_
      exact ⟨rfl, hS.ext⟩
     ·replace h := bif_f h hc
      refine wpIn_skip (norm_block <| norm_block <| norm_then <| ?_)
      refine WI.region ?_
      replace h := bindS h
      obtain ⟨x40, hx40, h⟩ := h
      refine rno 2 [.run [] (binOp .add 3 (iv x34) (iv 1)) (iv x40)] 2 [(0, sv ad1 p0 cap2), (1, .bool p1), (10, sv ad1 p0 cap2), (11, iv (ln p0)), (12, iv x40)] hF (ocons (obAddC (fun _ => hx40)) onil) fun a hF => ?_
      refine wfn rfl ?_
      rw [hk2] at h
      exact ⟨nk2, Nat.lt_succ_self _, x40, hF.sub (by kernel_rfl), St.pick [1] (by decide) hS, h⟩
   ·replace h := bif_f h hc
    refine wpIn_exit (exit_then <| exit_then <| exit_hit <| norm_then ?_)
    exact ⟨hF.sub (by kernel_rfl), St.pick [0] (by decide) hS, h⟩
  rintro a w ⟨hF, hS, h⟩
  rw [fold_checked_K1] at h
  refine esr ?_
  refine rn 1 1 [(4, iv 0)] hF fun a hF => ?_
  refine wfn rfl ?_
  refine wpIn_ret (fn_ret [.tmp 4] [iv 0] hF rfl ⟨rfl, trivial⟩ ?_)
  have hr_ := Option.some.inj h
  subst hr_
  exact ⟨rfl, hS.ext⟩

theorem slices_Clone_fold_speeds_api_Span_okS (F : Nat) (p0 : (List api_Span)) (res : (List api_Span)) (h : slices_Clone_fold_speeds_api_Span F p0 = some res) (μ : Frz) (w0 : World) (hm : FrzAt μ w0) {ad1x : Addr} {cap2 : Nat} (hA3 : ArrM μ 2 api_Span.cells (some ad1x) cap2 p0) : Calls Try.prog 99 #[.slice (some ad1x) p0.length cap2] w0 (fun e w => ∃ zad0 zcap0, e = .returned (sv zad0 res zcap0) ∧ St w0 [arr 25 2 api_Span.cells zad0 res.length zcap0 res] w) := by
 obtain ⟨hlow, hS⟩ := hm.init
 have hext := Frz.ext_refl w0.heap.size μ
 rw [slices_Clone_fold_speeds_api_Span] at h
 refine fn_enterW Try.func99 rfl 8 [(0, .slice (some ad1x) p0.length cap2)] rfl rfl (by kernel_rfl) fun a w hw hF => ?_
 replace hS : St w0 [fz w0 μ] w := by rw [hw]; exact hS
 clear hw
 refine esr ?_
 refine rn 1 1 [(0, .slice (some ad1x) p0.length cap2)] hF fun a hF => ?_
 refine wfn rfl ?_
 refine eseq ?_
 refine esr ?_
 refine rn 2 2 [(0, .slice (some ad1x) p0.length cap2), (4, .bool false)] hF fun a hF => ?_
 refine wfn rfl ?_
 refine wpIn_cond_false (hF.get rfl) ?_
 refine wpIn_skip (norm_then ?_)
 refine esr ?_
 refine SK.wi (litK (e := 25) (sz := 2) (f := api_Span.cells) (t := 132) (len := 0) (fun b4 => [(0, .slice (some ad1x) p0.length cap2), (5, sb b4 0)]) #[] #[] ([] : List api_Span) hF hS (by kernel_rfl) ⟨by kernel_rfl⟩ (by kernel_rfl) api_Span.cells_len rfl rfl (by kernel_rfl) (fun _ => ⟨by kernel_rfl⟩) fun b4 w a hF hS => ?_)
 refine rn 1 2 [(5, sb b4 0), (6, .slice (some ad1x) p0.length cap2)] hF fun a hF => ?_
 replace h := bindS h
 obtain ⟨l5, hl5, h⟩ := h
 refine SK.wi (appK (t := 132) (ty := 132) (bytes := 16) (l := ([] : List api_Span)) (l' := p0) (fun ad6 cap7 => [(7, sv ad6 l5 cap7)]) 0 hF hS rfl (by kernel_rfl) ⟨by kernel_rfl⟩ (by kernel_rfl) (hA3 _ (hS.frz (i := 1) rfl hlow)) (fun _ _ => rfl) hl5 (fun _ _ => ⟨by kernel_rfl⟩) fun ad6 cap7 w a hF hS => ?_)
 refine rn 1 4 [(2, sv ad6 l5 cap7)] hF fun a hF => ?_
 refine wfn rfl ?_
 refine wpIn_ret (fn_ret [.tmp 2] [sv ad6 l5 cap7] hF rfl ⟨rfl, trivial⟩ ?_)
 have hr_ := Option.some.inj h
 subst hr_
 exact ⟨_, _, rfl, St.pick [0] (by decide) hS⟩

theorem slices_Clone_fold_speeds_api_Span_okN (res : (List api_Span)) (h : ([] : List api_Span) = res) (μ : Frz) (w0 : World) (hm : FrzAt μ w0) {cap2 : Nat} : Calls Try.prog 99 #[.slice none 0 cap2] w0 (fun e w => ∃ zad0 zcap0, e = .returned (sv zad0 res zcap0) ∧ St w0 [arr 25 2 api_Span.cells zad0 res.length zcap0 res] w) := by
 obtain ⟨hlow, hS⟩ := hm.init
 have hext := Frz.ext_refl w0.heap.size μ
 refine fn_enterW Try.func99 rfl 8 [(0, .slice none 0 cap2)] rfl rfl (by kernel_rfl) fun a w hw hF => ?_
 replace hS : St w0 [fz w0 μ] w := by rw [hw]; exact hS
 clear hw
 refine esr ?_
 refine rn 1 1 [(0, .slice none 0 cap2)] hF fun a hF => ?_
 refine wfn rfl ?_
 refine eseq ?_
 refine esr ?_
 refine rn 2 2 [(0, .slice none 0 cap2), (4, .bool true)] hF fun a hF => ?_
 refine wfn rfl ?_
 refine wpIn_cond_true (hF.get rfl) ?_
 refine esr ?_
 refine rn 1 1 [(2, .slice none 0 0)] hF fun a hF => ?_
 refine wfn rfl ?_
 refine wpIn_ret (ret_then <| fn_ret [.tmp 2] [.slice none 0 0] hF rfl ⟨rfl, trivial⟩ ?_)
 subst h
 replace hS := hS.nilarr 25 2 api_Span.cells
 exact ⟨_, _, rfl, St.pick [0] (by decide) hS⟩

theorem slices_Clone_fold_speeds_api_Span_ok (F : Nat) (p0 : List api_Span) (res : List api_Span) (h : slices_Clone_fold_speeds_api_Span F p0 = some res) (μ : Frz) (w0 : World) (hm : FrzAt μ w0) {ad1 : Option Addr} {cap2 : Nat} (hA3 : ArrM μ 2 api_Span.cells ad1 cap2 p0) : Calls Try.prog 99 #[sv ad1 p0 cap2] w0 (fun e w => ∃ zad0 zcap0, e = .returned (sv zad0 res zcap0) ∧ St w0 [arr 25 2 api_Span.cells zad0 res.length zcap0 res] w) := by
 cases ad1 with
 | some a => exact slices_Clone_fold_speeds_api_Span_okS F p0 res h μ w0 hm hA3
 | none =>
  obtain rfl := hA3.none_nil hm
  have hr : [] = res := Option.some.inj (show some ([] : List api_Span) = some res from h)
  exact slices_Clone_fold_speeds_api_Span_okN res hr μ w0 hm

theorem fold_limited_ok (p0 : Int) (p1 : Int) (res : Int) (h : fold_limited p0 p1 = res) (μ : Frz) (w0 : World) (hm : FrzAt μ w0) : Calls Try.prog 66 #[iv p0, iv p1] w0 (fun e w => e = .returned (iv res) ∧ Ext w0 w) := by
 obtain ⟨hlow, hS⟩ := hm.init
 have hext := Frz.ext_refl w0.heap.size μ
 rw [fold_limited] at h
 refine fn_enterW Try.func66 rfl 19 [(0, iv p0), (1, iv p1)] rfl rfl (by kernel_rfl) fun a w hw hF => ?_
 replace hS : St w0 [fz w0 μ] w := by rw [hw]; exact hS
 clear hw
 refine esr ?_
 refine rn 1 1 [(0, iv p0), (1, iv p1)] hF fun a hF => ?_
 refine wfn rfl ?_
 refine eseq ?_
 refine esr ?_
 refine rn 14 14 [(18, .bool (bif (bif (bif (decide (p0 < 0)) then true else (decide (p0 > 400000))) then true else (decide (p1 < 1))) then true else (decide (p1 > 16))))] hF fun a hF => ?_
 refine wfn rfl ?_
 refine econd hF rfl (fun hc => ?_) (fun hc => ?_)
 ·replace h := bif_t h hc
  refine esr ?_
  refine rn 1 1 [(4, iv 3)] hF fun a hF => ?_
  refine wfn rfl ?_
  refine wpIn_ret (ret_then <| fn_ret [.tmp 4] [iv 3] hF rfl ⟨rfl, trivial⟩ ?_)
  subst h
  exact ⟨rfl, hS.ext⟩
 ·replace h := bif_f h hc
  refine wpIn_skip (norm_then ?_)
  refine esr ?_
  refine rn 1 1 [(4, iv 0)] hF fun a hF => ?_
  refine wfn rfl ?_
  refine wpIn_ret (fn_ret [.tmp 4] [iv 0] hF rfl ⟨rfl, trivial⟩ ?_)
  subst h
  exact ⟨rfl, hS.ext⟩

theorem fold_known_ok (F : Nat) (p0 : (List (List api_Span))) (res : (List Int)) (h : fold_known F p0 = some res) (μ : Frz) (w0 : World) (hm : FrzAt μ w0) {ad1 : Option Addr} {cap2 : Nat} {css3 : List (List Value)} (hA4 : ArrQ μ 1 Rp132 ad1 cap2 css3 p0) : Calls Try.prog 67 #[sv ad1 p0 cap2] w0 (fun e w => ∃ zad0 zcap0, e = .returned (sv zad0 res zcap0) ∧ St w0 [arr 3 1 fI zad0 res.length zcap0 res] w) := by
 obtain ⟨hlow, hS⟩ := hm.init
 have hext := Frz.ext_refl w0.heap.size μ
 rw [fold_known] at h
 refine fn_enterW Try.func67 rfl 22 [(0, sv ad1 p0 cap2)] rfl rfl (by kernel_rfl) fun a w hw hF => ?_
 replace hS : St w0 [fz w0 μ] w := by rw [hw]; exact hS
 clear hw
 refine esr ?_
 refine rn 1 1 [(0, sv ad1 p0 cap2)] hF fun a hF => ?_
 refine wfn rfl ?_
 refine esr ?_
 refine rn 1 1 [(0, sv ad1 p0 cap2), (3, .slice none 0 0)] hF fun a hF => ?_
 refine wfn rfl ?_
 refine ecut (fun a w => ∃ (l97 : (List Int)) (ad95 : Option Addr) (cap96 : Nat), Fr 22 [] [(3, sv ad95 l97 cap96)] a ∧ St w0 [arr 3 1 fI ad95 l97.length cap96 l97, fz w0 μ] w ∧ fold_known_K1 l97 = some res) ?_ ?_
 ·skip
  refine esr ?_
  refine rn 3 3 [(3, .slice none 0 0), (6, sv ad1 p0 cap2), (7, iv (ln p0)), (8, iv 0)] hF fun a hF => ?_
  refine wfn rfl ?_
  refine wpIn_block ?_
  replace hS := hS.nilarr 3 1 fI
  refine eloop (fun n_ a w => ∃ (l159 : (List Int)) (x160 : Int) (ad157 : Option Addr) (cap158 : Nat), Fr 22 [] [(3, sv ad157 l159 cap158), (6, sv ad1 p0 cap2), (7, iv (ln p0)), (8, iv x160)] a ∧ St w0 [arr 3 1 fI ad157 l159.length cap158 l159, fz w0 μ] w ∧ fold_known_L2 p0 n_ l159 x160 = some res) F ⟨[], 0, none, 0, hF.sub (by kernel_rfl), St.pick [0, 1] (by decide) hS, h⟩ ?_
  rintro nk2 a w ⟨l159, x160, ad157, cap158, hF, hS, h⟩
  rcases nk2 with _ | nk2
  ·cases (show (none : Option (List Int)) = some res from h)
  obtain ⟨k2, hk2⟩ : ∃ k, k = fold_known_L2 p0 nk2 := ⟨_, rfl⟩
  replace h : fold_known_B2 p0 k2 l159 x160 = some res := by rw [hk2]; exact h
  rw [fold_known_B2] at h
  refine esr ?_
  refine rn 1 1 [(3, sv ad157 l159 cap158), (6, sv ad1 p0 cap2), (7, iv (ln p0)), (8, iv x160), (9, .bool (decide (x160 < (ln p0))))] hF fun a hF => ?_
  refine wfn rfl ?_
  refine eseq ?_
  refine econd hF rfl (fun hc => ?_) (fun hc => ?_)
  ·replace h := bif_t h hc
   refine wpIn_skip (norm_then ?_)
   refine ecut (fun a w => ∃ (l175 : (List Int)) (ad173 : Option Addr) (cap174 : Nat), Fr 22 [] [(3, sv ad173 l175 cap174), (6, sv ad1 p0 cap2), (7, iv (ln p0)), (8, iv x160)] a ∧ St w0 [arr 3 1 fI ad173 l175.length cap174 l175, fz w0 μ] w ∧ fold_known_K3 x160 k2 l175 = some res) ?_ ?_
   ·skip
    refine wpIn_block ?_
    refine esr ?_
    replace h := bindS h
    obtain ⟨u178, hu178, h⟩ := h
    obtain ⟨cs179, hcs180, hR181⟩ := getI_all2 hA4.2 hu178
    obtain ⟨ad182, cap183, rfl, hA184⟩ := hR181
    refine rno 5 [.run [] (Instr.indexAt 135 (sv ad1 p0 cap2) (iv x160)) (.pointer (some (slAddr ad1 x160 1))), .run [] (Instr.loadAt 132 (.pointer (some (slAddr ad1 x160 1)))) (sv ad182 u178 cap183)] 5 [(3, sv ad157 l159 cap158), (4, iv x160), (5, sv ad182 u178 cap183), (6, sv ad1 p0 cap2), (7, iv (ln p0)), (8, iv x160)] hF (ocons (obIdxQ (hA4.at (hS.frz (i := 1) rfl hlow)) (by kernel_rfl) (fun _ => hcs180)) (ocons (obElQ (i := x160) 0 (fN_len 1) (fun _ hd => (hA4.at ((hS.at_ hd).frz (i := 1) rfl hlow))) (by kernel_rfl) (fun _ => hcs180) rfl) onil)) fun a hF => ?_
    refine wfn rfl ?_
    refine esr ?_
    refine rn 3 3 [(3, sv ad157 l159 cap158), (4, iv x160), (6, sv ad1 p0 cap2), (7, iv (ln p0)), (8, iv x160), (15, .bool (decide ((ln u178) > 0)))] hF fun a hF => ?_
    refine wfn rfl ?_
    refine econd hF rfl (fun hc => ?_) (fun hc => ?_)
    ·replace h := bif_t h hc
     refine WI.region ?_
     refine rn 2 2 [(3, sv ad157 l159 cap158), (6, sv ad1 p0 cap2), (7, iv (ln p0)), (8, iv x160), (16, sv ad157 l159 cap158), (17, iv x160)] hF fun a hF => ?_
     refine SK.wi (litK (e := 3) (sz := 1) (f := fI) (t := 60) (len := 1) (fun b185 => [(3, sv ad157 l159 cap158), (6, sv ad1 p0 cap2), (7, iv (ln p0)), (8, iv x160), (16, sv ad157 l159 cap158), (18, sb b185 1)]) #[(0, iv x160)] #[iv x160] ([x160]) hF hS (by kernel_rfl) ⟨by kernel_rfl⟩ (by kernel_rfl) fI_len rfl rfl (by kernel_rfl) (fun _ => ⟨by kernel_rfl⟩) fun b185 w a hF hS => ?_)
     replace h := bindS h
     obtain ⟨l186, hl186, h⟩ := h
     refine SK.wi (appK (t := 60) (ty := 60) (bytes := 8) (l := l159) (l' := ([x160])) (fun ad187 cap188 => [(3, sv ad157 l159 cap158), (6, sv ad1 p0 cap2), (7, iv (ln p0)), (8, iv x160), (19, sv ad187 l186 cap188)]) 1 hF hS rfl (by kernel_rfl) ⟨by kernel_rfl⟩ (by kernel_rfl) (hS.arr (i := 0) rfl) (fun _ _ => rfl) hl186 (fun _ _ => ⟨by kernel_rfl⟩) fun ad187 cap188 w a hF hS => ?_)
     refine rn 1 5 [(3, sv ad187 l186 cap188), (6, sv ad1 p0 cap2), (7, iv (ln p0)), (8, iv x160)] hF fun a hF => ?_
     refine WI.fin rfl (norm_block <| norm_then <| ?_)
     exact ⟨l186, ad187, cap188, hF.sub (by kernel_rfl), St.pick [1, 2] (by decide) hS, h⟩
    ·replace h := bif_f h hc
     refine wpIn_skip (norm_block <| norm_then <| ?_)
     exact ⟨l159, ad157, cap158, hF.sub (by kernel_rfl), St.pick [0, 1] (by decide) hS, h⟩
   rintro a w ⟨l175, ad173, cap174, hF, hS, h⟩
   rw [fold_known_K3] at h
   refine WI.region ?_
   replace h := bindS h
   obtain ⟨x176, hx176, h⟩ := h
   refine rno 2 [.run [] (binOp .add 3 (iv x160) (iv 1)) (iv x176)] 2 [(3, sv ad173 l175 cap174), (6, sv ad1 p0 cap2), (7, iv (ln p0)), (8, iv x176)] hF (ocons (obAddC (fun _ => hx176)) onil) fun a hF => ?_
   refine wfn rfl ?_
   rw [hk2] at h
   exact ⟨nk2, Nat.lt_succ_self _, l175, x176, ad173, cap174, hF.sub (by kernel_rfl), St.pick [0, 1] (by decide) hS, h⟩
  ·replace h := bif_f h hc
   refine wpIn_exit (exit_then <| exit_then <| exit_hit <| norm_then ?_)
   exact ⟨l159, ad157, cap158, hF.sub (by kernel_rfl), St.pick [0, 1] (by decide) hS, h⟩
 rintro a w ⟨l97, ad95, cap96, hF, hS, h⟩
 rw [fold_known_K1] at h
 refine esr ?_
 refine rn 2 2 [(2, sv ad95 l97 cap96)] hF fun a hF => ?_
 refine wfn rfl ?_
 refine wpIn_ret (fn_ret [.tmp 2] [sv ad95 l97 cap96] hF rfl ⟨rfl, trivial⟩ ?_)
 have hr_ := Option.some.inj h
 subst hr_
 exact ⟨_, _, rfl, St.pick [0] (by decide) hS⟩

theorem law03_span_ok (p0 : Int) (p1 : Int) (res : api_Span) (h : law03_span p0 p1 = res) (μ : Frz) (w0 : World) (hm : FrzAt μ w0) : Calls Try.prog 46 #[iv p0, iv p1] w0 (fun e w => e = .returned (.agg #[iv res.Lo, iv res.Hi]) ∧ Ext w0 w) := by
 obtain ⟨hlow, hS⟩ := hm.init
 have hext := Frz.ext_refl w0.heap.size μ
 rw [law03_span] at h
 refine fn_enterW Try.func46 rfl 8 [(0, iv p0), (1, iv p1)] rfl rfl (by kernel_rfl) fun a w hw hF => ?_
 replace hS : St w0 [fz w0 μ] w := by rw [hw]; exact hS
 clear hw
 refine esr ?_
 refine SK.wi (allocK (t := 25) (fun b1 => [(0, iv p0), (1, iv p1), (4, pb b1)]) #[iv 0, iv 0] hF hS (by kernel_rfl) ⟨by kernel_rfl⟩ (by kernel_rfl) (fun _ => ⟨by kernel_rfl⟩) fun b1 w a hF hS => ?_)
 refine wfn rfl ?_
 refine esr ?_
 refine rn 3 3 [(4, pb b1), (7, .agg #[iv p0, iv p1])] hF fun a hF => ?_
 refine SK.wi (storeK (t := 25) [(4, pb b1)] 0 0 (.agg #[iv p0, iv p1]) #[iv p0, iv p1] hF hS rfl (by kernel_rfl) ⟨by kernel_rfl⟩ (by kernel_rfl) (by kernel_rfl) (by kernel_rfl) (by kernel_rfl) ⟨by kernel_rfl⟩ fun w a hF hS => ?_)
 refine wfn rfl ?_
 refine wpIn_ret (fn_ret [.cell 4 25] [.agg #[iv p0, iv p1]] hF rfl ⟨⟨_, rfl, loadVarN (cs := [iv p0, iv p1]) (by kernel_rfl) ((hS.blk (i := 0) rfl).cells rfl)⟩, trivial⟩ ?_)
 subst h
 exact ⟨rfl, hS.ext⟩

theorem law03_dots_ok (F : Nat) (p0 : (List api_Span)) (res : (VecN Bool 80)) (h : law03_dots F p0 = some res) (μ : Frz) (w0 : World) (hm : FrzAt μ w0) {ad1 : Option Addr} {cap2 : Nat} (hA3 : ArrM μ 2 api_Span.cells ad1 cap2 p0) : Calls Try.prog 40 #[sv ad1 p0 cap2] w0 (fun e w => e = .returned (.agg (vF Value.bool res).toArray) ∧ Ext w0 w) := by
 obtain ⟨hlow, hS⟩ := hm.init
 have hext := Frz.ext_refl w0.heap.size μ
 rw [law03_dots] at h
 refine fn_enterW Try.func40 rfl 32 [(0, sv ad1 p0 cap2)] rfl rfl (by kernel_rfl) fun a w hw hF => ?_
 replace hS : St w0 [fz w0 μ] w := by rw [hw]; exact hS
 clear hw
 refine esr ?_
 refine SK.wi (allocK (t := 85) (fun b4 => [(0, sv ad1 p0 cap2), (2, pb b4)]) (vF Value.bool (default : VecN Bool 80)).toArray hF hS (by kernel_rfl) ⟨by kernel_rfl⟩ (by kernel_rfl) (fun _ => ⟨by kernel_rfl⟩) fun b4 w a hF hS => ?_)
 refine wfn rfl ?_
 refine esr ?_
 refine SK.wi (allocK (t := 85) (fun b5 => [(0, sv ad1 p0 cap2), (2, pb b4), (3, pb b5)]) (vF Value.bool (default : VecN Bool 80)).toArray hF hS (by kernel_rfl) ⟨by kernel_rfl⟩ (by kernel_rfl) (fun _ => ⟨by kernel_rfl⟩) fun b5 w a hF hS => ?_)
 refine wfn rfl ?_
 refine ecut (fun a w => ∃ (v224 : (VecN Bool 80)), Fr 32 [] [(2, pb b4), (3, pb b5)] a ∧ St w0 [blk b5 85 (vF Value.bool v224).toArray, blk b4 85 (vF Value.bool (default : VecN Bool 80)).toArray, fz w0 μ] w ∧ law03_dots_K1 v224 = some res) ?_ ?_
 ·skip
  refine esr ?_
  refine rn 3 3 [(2, pb b4), (3, pb b5), (7, sv ad1 p0 cap2), (8, iv (ln p0)), (9, iv 0)] hF fun a hF => ?_
  refine wfn rfl ?_
  refine wpIn_block ?_
  refine eloop (fun n_ a w => ∃ (v370 : (VecN Bool 80)) (x371 : Int), Fr 32 [] [(2, pb b4), (3, pb b5), (7, sv ad1 p0 cap2), (8, iv (ln p0)), (9, iv x371)] a ∧ St w0 [blk b5 85 (vF Value.bool v370).toArray, blk b4 85 (vF Value.bool (default : VecN Bool 80)).toArray, fz w0 μ] w ∧ law03_dots_L2 F p0 n_ v370 x371 = some res) F ⟨(default : VecN Bool 80), 0, hF.sub (by kernel_rfl), St.pick [0, 1, 2] (by decide) hS, h⟩ ?_
  rintro nk2 a w ⟨v370, x371, hF, hS, h⟩
  rcases nk2 with _ | nk2
  ·cases (show (none : Option (VecN Bool 80)) = some res from h)
  obtain ⟨k2, hk2⟩ : ∃ k, k = law03_dots_L2 F p0 nk2 := ⟨_, rfl⟩
  replace h : law03_dots_B2 F p0 k2 v370 x371 = some res := by rw [hk2]; exact h
  rw [law03_dots_B2] at h
  refine esr ?_
  refine rn 1 1 [(2, pb b4), (3, pb b5), (7, sv ad1 p0 cap2), (8, iv (ln p0)), (9, iv x371), (10, .bool (decide (x371 < (ln p0))))] hF fun a hF => ?_
  refine wfn rfl ?_
  refine eseq ?_
  refine econd hF rfl (fun hc => ?_) (fun hc => ?_)
  ·replace h := bif_t h hc
   refine wpIn_skip (norm_then ?_)
   refine ecut (fun a w => ∃ (v407 : (VecN Bool 80)), Fr 32 [] [(2, pb b4), (3, pb b5), (7, sv ad1 p0 cap2), (8, iv (ln p0)), (9, iv x371)] a ∧ St w0 [blk b5 85 (vF Value.bool v407).toArray, blk b4 85 (vF Value.bool (default : VecN Bool 80)).toArray, fz w0 μ] w ∧ law03_dots_K3 x371 k2 v407 = some res) ?_ ?_
   ·skip
    refine wpIn_block ?_
    refine esr ?_
    replace h := bindS h
    obtain ⟨u410, hu410, h⟩ := h
    refine rno 2 [.run [] (Instr.indexAt 43 (sv ad1 p0 cap2) (iv x371)) (.pointer (some (slAddr ad1 x371 2))), .run [] (Instr.loadAt 25 (.pointer (some (slAddr ad1 x371 2)))) (.agg #[iv u410.Lo, iv u410.Hi])] 2 [(2, pb b4), (3, pb b5), (7, sv ad1 p0 cap2), (8, iv (ln p0)), (9, iv x371), (12, .agg #[iv u410.Lo, iv u410.Hi])] hF (ocons (obIdxQ (hA3 _ (hS.frz (i := 2) rfl hlow)) (by kernel_rfl) (fun _ => hu410)) (ocons (obElNQ (m := 2) (i := x371) (us := [iv u410.Lo, iv u410.Hi]) 0 api_Span.cells_len (fun _ hd => (hA3 _ ((hS.at_ hd).frz (i := 2) rfl hlow))) (by kernel_rfl) (fun _ => hu410) ⟨rfl, rfl⟩) onil)) fun a hF => ?_
    refine SK.wi (allocK (t := 25) (fun b411 => [(2, pb b4), (3, pb b5), (5, pb b411), (7, sv ad1 p0 cap2), (8, iv (ln p0)), (9, iv x371), (12, .agg #[iv u410.Lo, iv u410.Hi])]) #[iv 0, iv 0] hF hS (by kernel_rfl) ⟨by kernel_rfl⟩ (by kernel_rfl) (fun _ => ⟨by kernel_rfl⟩) fun b411 w a hF hS => ?_)
    refine SK.wi (storeK (t := 25) [(2, pb b4), (3, pb b5), (5, pb b411), (7, sv ad1 p0 cap2), (8, iv (ln p0)), (9, iv x371)] 0 0 (.agg #[iv u410.Lo, iv u410.Hi]) #[iv u410.Lo, iv u410.Hi] hF hS rfl (by kernel_rfl) ⟨by kernel_rfl⟩ (by kernel_rfl) (by kernel_rfl) (by kernel_rfl) (by kernel_rfl) ⟨by kernel_rfl⟩ fun w a hF hS => ?_)
    refine wfn rfl ?_
    refine esr ?_
    refine rno 3 [.run [] (Instr.loadAt 3 (pb b411)) (iv u410.Lo)] 3 [(2, pb b4), (3, pb b5), (5, pb b411), (6, iv u410.Lo), (7, sv ad1 p0 cap2), (8, iv (ln p0)), (9, iv x371)] hF (ocons (ob1 (by kernel_rfl) (fun _ hd => (hS.at_ hd).cell (i := 0) (j := 0) rfl rfl)) onil) fun a hF => ?_
    refine wfn rfl ?_
    refine wpIn_block ?_
    refine eloop (fun n_ a w => ∃ (v432 : (VecN Bool 80)) (x433 : Int), Fr 32 [] [(2, pb b4), (3, pb b5), (5, pb b411), (6, iv x433), (7, sv ad1 p0 cap2), (8, iv (ln p0)), (9, iv x371)] a ∧ St w0 [blk b411 25 #[iv u410.Lo, iv u410.Hi], blk b5 85 (vF Value.bool v432).toArray, blk b4 85 (vF Value.bool (default : VecN Bool 80)).toArray, fz w0 μ] w ∧ law03_dots_L4 x371 k2 u410 n_ v432 x433 = some res) F ⟨v370, u410.Lo, hF.sub (by kernel_rfl), St.pick [0, 1, 2, 3] (by decide) hS, h⟩ ?_
    rintro nk4 a w ⟨v432, x433, hF, hS, h⟩
    rcases nk4 with _ | nk4
    ·cases (show (none : Option (VecN Bool 80)) = some res from h)
    obtain ⟨k4, hk4⟩ : ∃ k, k = law03_dots_L4 x371 k2 u410 nk4 := ⟨_, rfl⟩
    replace h : law03_dots_B4 x371 k2 u410 k4 v432 x433 = some res := by rw [hk4]; exact h
    rw [law03_dots_B4] at h
    refine eseq ?_
    refine esr ?_
    refine rno 8 [.run [] (Instr.loadAt 3 (.pointer (some ⟨b411, 1, none⟩))) (iv u410.Hi)] 8 [(2, pb b4), (3, pb b5), (5, pb b411), (6, iv x433), (7, sv ad1 p0 cap2), (8, iv (ln p0)), (9, iv x371), (22, .bool (bif (decide (x433 ≤ u410.Hi)) then (decide (x433 < 60)) else false))] hF (ocons (ob1 (by kernel_rfl) (fun _ hd => (hS.at_ hd).cell (i := 0) (j := 1) rfl rfl)) onil) fun a hF => ?_
    refine wfn rfl ?_
    refine econd hF rfl (fun hc => ?_) (fun hc => ?_)
    ·replace h := bif_t h hc
     refine wpIn_skip (norm_then ?_)
     refine ecut (fun a w => ∃ (v438 : (VecN Bool 80)), Fr 32 [] [(2, pb b4), (3, pb b5), (5, pb b411), (6, iv x433), (7, sv ad1 p0 cap2), (8, iv (ln p0)), (9, iv x371)] a ∧ St w0 [blk b411 25 #[iv u410.Lo, iv u410.Hi], blk b5 85 (vF Value.bool v438).toArray, blk b4 85 (vF Value.bool (default : VecN Bool 80)).toArray, fz w0 μ] w ∧ law03_dots_K5 x433 k4 v438 = some res) ?_ ?_
     ·skip
      refine wpIn_block ?_
      refine esr ?_
      refine rn 2 2 [(2, pb b4), (3, pb b5), (5, pb b411), (6, iv x433), (7, sv ad1 p0 cap2), (8, iv (ln p0)), (9, iv x371), (26, .bool (decide (x433 ≥ (-20))))] hF fun a hF => ?_
      refine wfn rfl ?_
      refine econd hF rfl (fun hc => ?_) (fun hc => ?_)
      ·replace h := bif_t h hc
       refine WI.region ?_
       replace h := bindS h
       obtain ⟨x441, hx441, h⟩ := h
       replace h := bindS h
       obtain ⟨u442, hu442, h⟩ := h
       refine rno 3 [.run [] (binOp .sub 3 (iv x433) (iv (-20))) (iv x441), .run [] (Instr.indexAt 85 (pb b5) (iv x441)) (.pointer (some ((⟨b5, 0, none⟩ : Addr).add x441.toNat)))] 3 [(2, pb b4), (3, pb b5), (5, pb b411), (6, iv x433), (7, sv ad1 p0 cap2), (8, iv (ln p0)), (9, iv x371), (29, .pointer (some ((⟨b5, 0, none⟩ : Addr).add x441.toNat)))] hF (ocons (obSubC (fun _ => hx441)) (ocons (obIdxV (by kernel_rfl) (fun _ => hu442)) onil)) fun a hF => ?_
       replace h := bindS h
       obtain ⟨l443, hl443, h⟩ := h
       refine SK.wi (setVK (f := Value.bool) (u := true) (t := 4) [(2, pb b4), (3, pb b5), (5, pb b411), (6, iv x433), (7, sv ad1 p0 cap2), (8, iv (ln p0)), (9, iv x371)] 1 hF hS rfl (by kernel_rfl) ⟨by kernel_rfl⟩ (by kernel_rfl) rfl rfl hl443 ⟨by kernel_rfl⟩ fun w a hF hS => ?_)
       refine WI.fin rfl (norm_block <| norm_then <| ?_)
       exact ⟨l443, hF.sub (by kernel_rfl), St.pick [0, 1, 2, 3] (by decide) hS, h⟩
      ·replace h := bif_f h hc
       refine wpIn_skip (norm_block <| norm_then <| ?_)
       exact ⟨v432, hF.sub (by kernel_rfl), St.pick [0, 1, 2, 3] (by decide) hS, h⟩
     rintro a w ⟨v438, hF, hS, h⟩
     rw [law03_dots_K5] at h
     refine WI.region ?_
     replace h := bindS h
     obtain ⟨x439, hx439, h⟩ := h
     refine rno 3 [.run [] (binOp .add 3 (iv x433) (iv 1)) (iv x439)] 3 [(2, pb b4), (3, pb b5), (5, pb b411), (6, iv x439), (7, sv ad1 p0 cap2), (8, iv (ln p0)), (9, iv x371)] hF (ocons (obAddC (fun _ => hx439)) onil) fun a hF => ?_
     refine wfn rfl ?_
     rw [hk4] at h
     exact ⟨nk4, Nat.lt_succ_self _, v438, x439, hF.sub (by kernel_rfl), St.pick [0, 1, 2, 3] (by decide) hS, h⟩
    ·replace h := bif_f h hc
     refine wpIn_exit (exit_then <| exit_then <| exit_hit <| norm_block <| norm_then <| ?_)
     exact ⟨v432, hF.sub (by kernel_rfl), St.pick [1, 2, 3] (by decide) hS, h⟩
   rintro a w ⟨v407, hF, hS, h⟩
   rw [law03_dots_K3] at h
   refine WI.region ?_
   replace h := bindS h
   obtain ⟨x408, hx408, h⟩ := h
   refine rno 2 [.run [] (binOp .add 3 (iv x371) (iv 1)) (iv x408)] 2 [(2, pb b4), (3, pb b5), (7, sv ad1 p0 cap2), (8, iv (ln p0)), (9, iv x408)] hF (ocons (obAddC (fun _ => hx408)) onil) fun a hF => ?_
   refine wfn rfl ?_
   rw [hk2] at h
   exact ⟨nk2, Nat.lt_succ_self _, v407, x408, hF.sub (by kernel_rfl), St.pick [0, 1, 2] (by decide) hS, h⟩
  ·replace h := bif_f h hc
   refine wpIn_exit (exit_then <| exit_then <| exit_hit <| norm_then ?_)
   exact ⟨v370, hF.sub (by kernel_rfl), St.pick [0, 1, 2] (by decide) hS, h⟩
 rintro a w ⟨v224, hF, hS, h⟩
 rw [law03_dots_K1] at h
 refine esr ?_
 refine rno 1 [.run [] (Instr.loadAt 85 (pb b5)) (.agg (vF Value.bool v224).toArray)] 1 [(2, pb b4), (31, .agg (vF Value.bool v224).toArray)] hF (ocons (obNV (f := Value.bool) (tt := 85) (by kernel_rfl) (fun _ hd => ((hS.at_ hd).blk (i := 0) rfl))) onil) fun a hF => ?_
 refine SK.wi (allVK (f := Value.bool) (y := v224) (t := 85) [(2, pb b4)] 1 (fun _ => rfl) hF hS rfl (by kernel_rfl) ⟨by kernel_rfl⟩ (by kernel_rfl) ⟨by kernel_rfl⟩ fun w a hF hS => ?_)
 refine wfn rfl ?_
 refine wpIn_ret (fn_ret [.cell 2 85] [.agg (vF Value.bool v224).toArray] hF rfl ⟨⟨_, rfl, loadVarNV (f := Value.bool) (by kernel_rfl) (hS.blk (i := 1) rfl)⟩, trivial⟩ ?_)
 have hr_ := Option.some.inj h
 subst hr_
 exact ⟨rfl, hS.ext⟩

theorem law03_beside_ok (F : Nat) (p0 : (VecN Bool 80)) (p1 : (VecN Bool 80)) (p2 : Int) (res : (VecN Bool 80)) (h : law03_beside F p0 p1 p2 = some res) (μ : Frz) (w0 : World) (hm : FrzAt μ w0) : Calls Try.prog 41 #[.agg (vF Value.bool p0).toArray, .agg (vF Value.bool p1).toArray, iv p2] w0 (fun e w => e = .returned (.agg (vF Value.bool res).toArray) ∧ Ext w0 w) := by
 obtain ⟨hlow, hS⟩ := hm.init
 have hext := Frz.ext_refl w0.heap.size μ
 rw [law03_beside] at h
 refine fn_enterW Try.func41 rfl 45 [(0, .agg (vF Value.bool p0).toArray), (1, .agg (vF Value.bool p1).toArray), (2, iv p2)] rfl rfl (by kernel_rfl) fun a w hw hF => ?_
 replace hS : St w0 [fz w0 μ] w := by rw [hw]; exact hS
 clear hw
 refine esr ?_
 refine SK.wi (boxK (t := 85) (fun b1 => [(1, .agg (vF Value.bool p1).toArray), (2, iv p2), (3, pb b1)]) (.agg (vF Value.bool p0).toArray) (vF Value.bool p0).toArray hF hS (by kernel_rfl) ⟨by kernel_rfl⟩ (by kernel_rfl) (fun _ => ⟨by kernel_rfl⟩) fun b1 w a hF hS => ?_)
 refine SK.wi (boxK (t := 85) (fun b2 => [(2, iv p2), (3, pb b1), (4, pb b2)]) (.agg (vF Value.bool p1).toArray) (vF Value.bool p1).toArray hF hS (by kernel_rfl) ⟨by kernel_rfl⟩ (by kernel_rfl) (fun _ => ⟨by kernel_rfl⟩) fun b2 w a hF hS => ?_)
 refine SK.wi (allocK (t := 85) (fun b3 => [(2, iv p2), (3, pb b1), (4, pb b2), (6, pb b3)]) (vF Value.bool (default : VecN Bool 80)).toArray hF hS (by kernel_rfl) ⟨by kernel_rfl⟩ (by kernel_rfl) (fun _ => ⟨by kernel_rfl⟩) fun b3 w a hF hS => ?_)
 refine wfn rfl ?_
 refine esr ?_
 refine SK.wi (allocK (t := 85) (fun b4 => [(2, iv p2), (3, pb b1), (4, pb b2), (6, pb b3), (7, pb b4)]) (vF Value.bool (default : VecN Bool 80)).toArray hF hS (by kernel_rfl) ⟨by kernel_rfl⟩ (by kernel_rfl) (fun _ => ⟨by kernel_rfl⟩) fun b4 w a hF hS => ?_)
 refine wfn rfl ?_
 refine ecut (fun a w => ∃ (v181 : (VecN Bool 80)), Fr 45 [] [(6, pb b3), (7, pb b4)] a ∧ St w0 [blk b4 85 (vF Value.bool v181).toArray, blk b3 85 (vF Value.bool (default : VecN Bool 80)).toArray, blk b2 85 (vF Value.bool p1).toArray, blk b1 85 (vF Value.bool p0).toArray, fz w0 μ] w ∧ law03_beside_K1 v181 = some res) ?_ ?_
 ·skip
  refine esr ?_
  refine rn 1 1 [(2, iv p2), (3, pb b1), (4, pb b2), (6, pb b3), (7, pb b4), (10, iv 0)] hF fun a hF => ?_
  refine wfn rfl ?_
  refine wpIn_block ?_
  refine eloop (fun n_ a w => ∃ (v299 : (VecN Bool 80)) (x300 : Int), Fr 45 [] [(2, iv p2), (3, pb b1), (4, pb b2), (6, pb b3), (7, pb b4), (10, iv x300)] a ∧ St w0 [blk b4 85 (vF Value.bool v299).toArray, blk b3 85 (vF Value.bool (default : VecN Bool 80)).toArray, blk b2 85 (vF Value.bool p1).toArray, blk b1 85 (vF Value.bool p0).toArray, fz w0 μ] w ∧ law03_beside_L2 F p0 p1 p2 n_ v299 x300 = some res) F ⟨(default : VecN Bool 80), 0, hF.sub (by kernel_rfl), St.pick [0, 1, 2, 3, 4] (by decide) hS, h⟩ ?_
  rintro nk2 a w ⟨v299, x300, hF, hS, h⟩
  rcases nk2 with _ | nk2
  ·cases (show (none : Option (VecN Bool 80)) = some res from h)
  obtain ⟨k2, hk2⟩ : ∃ k, k = law03_beside_L2 F p0 p1 p2 nk2 := ⟨_, rfl⟩
  replace h : law03_beside_B2 F p0 p1 p2 k2 v299 x300 = some res := by rw [hk2]; exact h
  rw [law03_beside_B2] at h
  refine esr ?_
  refine rn 1 1 [(2, iv p2), (3, pb b1), (4, pb b2), (6, pb b3), (7, pb b4), (10, iv x300), (11, .bool (decide (x300 < 80)))] hF fun a hF => ?_
  refine wfn rfl ?_
  refine eseq ?_
  refine econd hF rfl (fun hc => ?_) (fun hc => ?_)
  ·replace h := bif_t h hc
   refine wpIn_skip (norm_then ?_)
   refine ecut (fun a w => ∃ (v329 : (VecN Bool 80)), Fr 45 [] [(2, iv p2), (3, pb b1), (4, pb b2), (6, pb b3), (7, pb b4), (10, iv x300)] a ∧ St w0 [blk b4 85 (vF Value.bool v329).toArray, blk b3 85 (vF Value.bool (default : VecN Bool 80)).toArray, blk b2 85 (vF Value.bool p1).toArray, blk b1 85 (vF Value.bool p0).toArray, fz w0 μ] w ∧ law03_beside_K3 x300 k2 v329 = some res) ?_ ?_
   ·skip
    refine wpIn_block ?_
    refine esr ?_
    refine rn 2 2 [(2, iv p2), (3, pb b1), (4, pb b2), (6, pb b3), (7, pb b4), (8, iv x300), (10, iv x300)] hF fun a hF => ?_
    refine wfn rfl ?_
    refine esr ?_
    replace h := bindS h
    obtain ⟨x332, hx332, h⟩ := h
    refine rno 5 [.run [] (binOp .sub 3 (iv x300) (iv p2)) (iv x332)] 5 [(2, iv p2), (3, pb b1), (4, pb b2), (6, pb b3), (7, pb b4), (8, iv x300), (9, iv (if x332 > 0 then x332 else 0)), (10, iv x300)] hF (ocons (obSubC (fun _ => hx332)) onil) fun a hF => ?_
    refine wfn rfl ?_
    refine wpIn_block ?_
    refine eloop (fun n_ a w => ∃ (v349 : (VecN Bool 80)) (x350 : Int), Fr 45 [] [(2, iv p2), (3, pb b1), (4, pb b2), (6, pb b3), (7, pb b4), (8, iv x300), (9, iv x350), (10, iv x300)] a ∧ St w0 [blk b4 85 (vF Value.bool v349).toArray, blk b3 85 (vF Value.bool (default : VecN Bool 80)).toArray, blk b2 85 (vF Value.bool p1).toArray, blk b1 85 (vF Value.bool p0).toArray, fz w0 μ] w ∧ law03_beside_L4 p0 p1 p2 x300 k2 n_ v349 x350 = some res) F ⟨v299, if x332 > 0 then x332 else 0, hF.sub (by kernel_rfl), St.pick [0, 1, 2, 3, 4] (by decide) hS, h⟩ ?_
    rintro nk4 a w ⟨v349, x350, hF, hS, h⟩
    rcases nk4 with _ | nk4
    ·cases (show (none : Option (VecN Bool 80)) = some res from h)
    obtain ⟨k4, hk4⟩ : ∃ k, k = law03_beside_L4 p0 p1 p2 x300 k2 nk4 := ⟨_, rfl⟩
    replace h : law03_beside_B4 p0 p1 p2 x300 k2 k4 v349 x350 = some res := by rw [hk4]; exact h
    rw [law03_beside_B4] at h
    refine eseq ?_
    refine esr ?_
    replace h := bindS h
    obtain ⟨x352, hx352, h⟩ := h
    replace h := bindS h
    obtain ⟨u353, hu353, h⟩ := h
    refine rno 14 [.run [] (binOp .add 3 (iv x300) (iv p2)) (iv x352), .run [⟨26, true, (bif (decide (x350 ≤ x352)) then (decide (x350 < 80)) else false)⟩] (Instr.indexAt 85 (pb b1) (iv x300)) (.pointer (some ((⟨b1, 0, none⟩ : Addr).add x300.toNat))), .run [⟨26, true, (bif (decide (x350 ≤ x352)) then (decide (x350 < 80)) else false)⟩] (Instr.loadAt 4 (.pointer (some ((⟨b1, 0, none⟩ : Addr).add x300.toNat)))) (.bool u353)] 14 [(2, iv p2), (3, pb b1), (4, pb b2), (6, pb b3), (7, pb b4), (8, iv x300), (9, iv x350), (10, iv x300), (30, .bool (bif (bif (decide (x350 ≤ x352)) then (decide (x350 < 80)) else false) then u353 else false))] hF (ocons (obAddC (fun _ => hx352)) (ocons (obIdxV (by kernel_rfl) (fun hk => gd_some hu353 hk)) (ocons (ob1V (f := Value.bool) (tt := 85) (by kernel_rfl) (fun hk => gd_some hu353 hk) (fun _ hd => ((hS.at_ hd).blk (i := 3) rfl))) onil))) fun a hF => ?_
    refine wfn rfl ?_
    refine econd hF rfl (fun hc => ?_) (fun hc => ?_)
    ·replace h := bif_t h hc
     refine wpIn_skip (norm_then ?_)
     refine eseq ?_
     refine wpIn_block ?_
     refine WI.region ?_
     replace h := bindS h
     obtain ⟨u354, hu354, h⟩ := h
     replace h := bindS h
     obtain ⟨u355, hu355, h⟩ := h
     replace h := bindS h
     obtain ⟨u356, hu356, h⟩ := h
     refine rno 10 [.run [] (Instr.indexAt 85 (pb b4) (iv x300)) (.pointer (some ((⟨b4, 0, none⟩ : Addr).add x300.toNat))), .run [] (Instr.loadAt 4 (.pointer (some ((⟨b4, 0, none⟩ : Addr).add x300.toNat)))) (.bool u354), .run [⟨37, false, u354⟩] (Instr.indexAt 85 (pb b2) (iv x350)) (.pointer (some ((⟨b2, 0, none⟩ : Addr).add x350.toNat))), .run [⟨37, false, u354⟩] (Instr.loadAt 4 (.pointer (some ((⟨b2, 0, none⟩ : Addr).add x350.toNat)))) (.bool u355), .run [] (Instr.indexAt 85 (pb b4) (iv x300)) (.pointer (some ((⟨b4, 0, none⟩ : Addr).add x300.toNat)))] 10 [(2, iv p2), (3, pb b1), (4, pb b2), (6, pb b3), (7, pb b4), (8, iv x300), (9, iv x350), (10, iv x300), (41, .bool (bif u354 then true else u355)), (42, .pointer (some ((⟨b4, 0, none⟩ : Addr).add x300.toNat)))] hF (ocons (obIdxV (by kernel_rfl) (fun _ => hu354)) (ocons (ob1V (f := Value.bool) (tt := 85) (by kernel_rfl) (fun _ => hu354) (fun _ hd => ((hS.at_ hd).blk (i := 0) rfl))) (ocons (obIdxV (by kernel_rfl) (fun hk => gd_some hu355 hk)) (ocons (ob1V (f := Value.bool) (tt := 85) (by kernel_rfl) (fun hk => gd_some hu355 hk) (fun _ hd => ((hS.at_ hd).blk (i := 2) rfl))) (ocons (obIdxV (by kernel_rfl) (fun _ => hu356)) onil))))) fun a hF => ?_
     replace h := bindS h
     obtain ⟨l357, hl357, h⟩ := h
     refine SK.wi (setVK (f := Value.bool) (u := bif u354 then true else u355) (t := 4) [(2, iv p2), (3, pb b1), (4, pb b2), (6, pb b3), (7, pb b4), (8, iv x300), (9, iv x350), (10, iv x300)] 0 hF hS rfl (by kernel_rfl) ⟨by kernel_rfl⟩ (by kernel_rfl) rfl rfl hl357 ⟨by kernel_rfl⟩ fun w a hF hS => ?_)
     refine WI.fin rfl (norm_block <| norm_then <| ?_)
     refine WI.region ?_
     replace h := bindS h
     obtain ⟨x358, hx358, h⟩ := h
     refine rno 3 [.run [] (binOp .add 3 (iv x350) (iv 1)) (iv x358)] 3 [(2, iv p2), (3, pb b1), (4, pb b2), (6, pb b3), (7, pb b4), (8, iv x300), (9, iv x358), (10, iv x300)] hF (ocons (obAddC (fun _ => hx358)) onil) fun a hF => ?_
     refine wfn rfl ?_
     rw [hk4] at h
     exact ⟨nk4, Nat.lt_succ_self _, l357, x358, hF.sub (by kernel_rfl), St.pick [0, 1, 2, 3, 4] (by decide) hS, h⟩
    ·replace h := bif_f h hc
     refine wpIn_exit (exit_then <| exit_then <| exit_hit <| norm_block <| norm_then <| ?_)
     exact ⟨v349, hF.sub (by kernel_rfl), St.pick [0, 1, 2, 3, 4] (by decide) hS, h⟩
   rintro a w ⟨v329, hF, hS, h⟩
   rw [law03_beside_K3] at h
   refine WI.region ?_
   replace h := bindS h
   obtain ⟨x330, hx330, h⟩ := h
   refine rno 2 [.run [] (binOp .add 3 (iv x300) (iv 1)) (iv x330)] 2 [(2, iv p2), (3, pb b1), (4, pb b2), (6, pb b3), (7, pb b4), (10, iv x330)] hF (ocons (obAddC (fun _ => hx330)) onil) fun a hF => ?_
   refine wfn rfl ?_
   rw [hk2] at h
   exact ⟨nk2, Nat.lt_succ_self _, v329, x330, hF.sub (by kernel_rfl), St.pick [0, 1, 2, 3, 4] (by decide) hS, h⟩
  ·replace h := bif_f h hc
   refine wpIn_exit (exit_then <| exit_then <| exit_hit <| norm_then ?_)
   exact ⟨v299, hF.sub (by kernel_rfl), St.pick [0, 1, 2, 3, 4] (by decide) hS, h⟩
 rintro a w ⟨v181, hF, hS, h⟩
 rw [law03_beside_K1] at h
 refine esr ?_
 refine rno 1 [.run [] (Instr.loadAt 85 (pb b4)) (.agg (vF Value.bool v181).toArray)] 1 [(6, pb b3), (44, .agg (vF Value.bool v181).toArray)] hF (ocons (obNV (f := Value.bool) (tt := 85) (by kernel_rfl) (fun _ hd => ((hS.at_ hd).blk (i := 0) rfl))) onil) fun a hF => ?_
 refine SK.wi (allVK (f := Value.bool) (y := v181) (t := 85) [(6, pb b3)] 1 (fun _ => rfl) hF hS rfl (by kernel_rfl) ⟨by kernel_rfl⟩ (by kernel_rfl) ⟨by kernel_rfl⟩ fun w a hF hS => ?_)
 refine wfn rfl ?_
 refine wpIn_ret (fn_ret [.cell 6 85] [.agg (vF Value.bool v181).toArray] hF rfl ⟨⟨_, rfl, loadVarNV (f := Value.bool) (by kernel_rfl) (hS.blk (i := 1) rfl)⟩, trivial⟩ ?_)
 have hr_ := Option.some.inj h
 subst hr_
 exact ⟨rfl, hS.ext⟩

theorem law03_formed_ok (F : Nat) (p0 : (List api_Span)) (p1 : (VecN Bool 80)) (res : Bool) (h : law03_formed F p0 p1 = some res) (μ : Frz) (w0 : World) (hm : FrzAt μ w0) {ad1 : Option Addr} {cap2 : Nat} (hA3 : ArrM μ 2 api_Span.cells ad1 cap2 p0) : Calls Try.prog 42 #[sv ad1 p0 cap2, .agg (vF Value.bool p1).toArray] w0 (fun e w => e = .returned (.bool res) ∧ Ext w0 w) := by
 obtain ⟨hlow, hS⟩ := hm.init
 have hext := Frz.ext_refl w0.heap.size μ
 rw [law03_formed] at h
 refine fn_enterW Try.func42 rfl 61 [(0, sv ad1 p0 cap2), (1, .agg (vF Value.bool p1).toArray)] rfl rfl (by kernel_rfl) fun a w hw hF => ?_
 replace hS : St w0 [fz w0 μ] w := by rw [hw]; exact hS
 clear hw
 refine esr ?_
 refine SK.wi (boxK (t := 85) (fun b4 => [(0, sv ad1 p0 cap2), (3, pb b4)]) (.agg (vF Value.bool p1).toArray) (vF Value.bool p1).toArray hF hS (by kernel_rfl) ⟨by kernel_rfl⟩ (by kernel_rfl) (fun _ => ⟨by kernel_rfl⟩) fun b4 w a hF hS => ?_)
 refine rn 1 2 [(0, sv ad1 p0 cap2), (3, pb b4)] hF fun a hF => ?_
 refine wfn rfl ?_
 refine ecut (fun a w => Fr 61 [] [] a ∧ St w0 [blk b4 85 (vF Value.bool p1).toArray, fz w0 μ] w ∧ law03_formed_K1 = some res) ?_ ?_
 ·skip
  refine esr ?_
  refine rn 3 3 [(0, sv ad1 p0 cap2), (3, pb b4), (7, sv ad1 p0 cap2), (8, iv (ln p0)), (9, iv 0)] hF fun a hF => ?_
  refine wfn rfl ?_
  refine wpIn_block ?_
  refine eloop (fun n_ a w => ∃ (x55 : Int), Fr 61 [] [(0, sv ad1 p0 cap2), (3, pb b4), (7, sv ad1 p0 cap2), (8, iv (ln p0)), (9, iv x55)] a ∧ St w0 [blk b4 85 (vF Value.bool p1).toArray, fz w0 μ] w ∧ law03_formed_L2 p0 p1 n_ x55 = some res) F ⟨0, hF.sub (by kernel_rfl), St.pick [0, 1] (by decide) hS, h⟩ ?_
  rintro nk2 a w ⟨x55, hF, hS, h⟩
  rcases nk2 with _ | nk2
  ·cases (show (none : Option Bool) = some res from h)
  obtain ⟨k2, hk2⟩ : ∃ k, k = law03_formed_L2 p0 p1 nk2 := ⟨_, rfl⟩
  replace h : law03_formed_B2 p0 p1 k2 x55 = some res := by rw [hk2]; exact h
  rw [law03_formed_B2] at h
  refine esr ?_
  refine rn 1 1 [(0, sv ad1 p0 cap2), (3, pb b4), (7, sv ad1 p0 cap2), (8, iv (ln p0)), (9, iv x55), (10, .bool (decide (x55 < (ln p0))))] hF fun a hF => ?_
  refine wfn rfl ?_
  refine eseq ?_
  refine econd hF rfl (fun hc => ?_) (fun hc => ?_)
  ·replace h := bif_t h hc
   refine wpIn_skip (norm_then ?_)
   refine eseq ?_
   refine wpIn_block ?_
   refine esr ?_
   replace h := bindS h
   obtain ⟨u57, hu57, h⟩ := h
   refine rno 3 [.run [] (Instr.indexAt 43 (sv ad1 p0 cap2) (iv x55)) (.pointer (some (slAddr ad1 x55 2))), .run [] (Instr.loadAt 25 (.pointer (some (slAddr ad1 x55 2)))) (.agg #[iv u57.Lo, iv u57.Hi])] 3 [(0, sv ad1 p0 cap2), (3, pb b4), (7, sv ad1 p0 cap2), (8, iv (ln p0)), (9, iv x55), (11, iv x55), (13, .agg #[iv u57.Lo, iv u57.Hi])] hF (ocons (obIdxQ (hA3 _ (hS.frz (i := 1) rfl hlow)) (by kernel_rfl) (fun _ => hu57)) (ocons (obElNQ (m := 2) (i := x55) (us := [iv u57.Lo, iv u57.Hi]) 0 api_Span.cells_len (fun _ hd => (hA3 _ ((hS.at_ hd).frz (i := 1) rfl hlow))) (by kernel_rfl) (fun _ => hu57) ⟨rfl, rfl⟩) onil)) fun a hF => ?_
   refine SK.wi (allocK (t := 25) (fun b58 => [(0, sv ad1 p0 cap2), (3, pb b4), (6, pb b58), (7, sv ad1 p0 cap2), (8, iv (ln p0)), (9, iv x55), (11, iv x55), (13, .agg #[iv u57.Lo, iv u57.Hi])]) #[iv 0, iv 0] hF hS (by kernel_rfl) ⟨by kernel_rfl⟩ (by kernel_rfl) (fun _ => ⟨by kernel_rfl⟩) fun b58 w a hF hS => ?_)
   refine rn 1 5 [(0, sv ad1 p0 cap2), (3, pb b4), (5, iv x55), (6, pb b58), (7, sv ad1 p0 cap2), (8, iv (ln p0)), (9, iv x55), (13, .agg #[iv u57.Lo, iv u57.Hi])] hF fun a hF => ?_
   refine SK.wi (storeK (t := 25) [(0, sv ad1 p0 cap2), (3, pb b4), (5, iv x55), (6, pb b58), (7, sv ad1 p0 cap2), (8, iv (ln p0)), (9, iv x55)] 0 0 (.agg #[iv u57.Lo, iv u57.Hi]) #[iv u57.Lo, iv u57.Hi] hF hS rfl (by kernel_rfl) ⟨by kernel_rfl⟩ (by kernel_rfl) (by kernel_rfl) (by kernel_rfl) (by kernel_rfl) ⟨by kernel_rfl⟩ fun w a hF hS => ?_)
   refine wfn rfl ?_
   refine eseq ?_
   replace h := bindS h
   obtain ⟨x59, hx59, h⟩ := h
   replace h := bindS h
   obtain ⟨u60, hu60, h⟩ := h
   replace h := bindS h
   obtain ⟨x61, hx61, h⟩ := h
   replace h := bindS h
   obtain ⟨u62, hu62, h⟩ := h
   replace h := bindS h
   obtain ⟨x63, hx63, h⟩ := h
   replace h := bindS h
   obtain ⟨u64, hu64, h⟩ := h
   refine runD (obs := [.run [] (Instr.loadAt 3 (pb b58)) (iv u57.Lo), .run [] (Instr.loadAt 3 (.pointer (some ⟨b58, 1, none⟩))) (iv u57.Hi), .run [⟨22, true, (decide (x55 > 0))⟩, ⟨19, false, (decide (u57.Lo > u57.Hi))⟩] (Instr.loadAt 3 (pb b58)) (iv u57.Lo), .run [⟨22, true, (decide (x55 > 0))⟩, ⟨19, false, (decide (u57.Lo > u57.Hi))⟩] (binOp .sub 3 (iv x55) (iv 1)) (iv x59), .run [⟨22, true, (decide (x55 > 0))⟩, ⟨19, false, (decide (u57.Lo > u57.Hi))⟩] (Instr.indexAt 43 (sv ad1 p0 cap2) (iv x59)) (.pointer (some (slAddr ad1 x59 2))), .run [⟨22, true, (decide (x55 > 0))⟩, ⟨19, false, (decide (u57.Lo > u57.Hi))⟩] (Instr.loadAt 3 (.pointer (some ((slAddr ad1 x59 2).add 1)))) (iv u60.Hi), .run [⟨34, false, (bif (decide (u57.Lo > u57.Hi)) then true else (bif (decide (x55 > 0)) then (decide (u57.Lo ≤ u60.Hi)) else false))⟩] (Instr.loadAt 3 (pb b58)) (iv u57.Lo), .run [⟨39, false, (bif (bif (decide (u57.Lo > u57.Hi)) then true else (bif (decide (x55 > 0)) then (decide (u57.Lo ≤ u60.Hi)) else false)) then true else (decide (u57.Lo < (-20))))⟩] (Instr.loadAt 3 (.pointer (some ⟨b58, 1, none⟩))) (iv u57.Hi), .run [⟨44, false, (bif (bif (bif (decide (u57.Lo > u57.Hi)) then true else (bif (decide (x55 > 0)) then (decide (u57.Lo ≤ u60.Hi)) else false)) then true else (decide (u57.Lo < (-20)))) then true else (decide (u57.Hi ≥ 60)))⟩] (Instr.loadAt 3 (pb b58)) (iv u57.Lo), .run [⟨44, false, (bif (bif (bif (decide (u57.Lo > u57.Hi)) then true else (bif (decide (x55 > 0)) then (decide (u57.Lo ≤ u60.Hi)) else false)) then true else (decide (u57.Lo < (-20)))) then true else (decide (u57.Hi ≥ 60)))⟩] (binOp .sub 3 (iv u57.Lo) (iv (-20))) (iv x61), .run [⟨44, false, (bif (bif (bif (decide (u57.Lo > u57.Hi)) then true else (bif (decide (x55 > 0)) then (decide (u57.Lo ≤ u60.Hi)) else false)) then true else (decide (u57.Lo < (-20)))) then true else (decide (u57.Hi ≥ 60)))⟩] (Instr.indexAt 85 (pb b4) (iv x61)) (.pointer (some ((⟨b4, 0, none⟩ : Addr).add x61.toNat))), .run [⟨44, false, (bif (bif (bif (decide (u57.Lo > u57.Hi)) then true else (bif (decide (x55 > 0)) then (decide (u57.Lo ≤ u60.Hi)) else false)) then true else (decide (u57.Lo < (-20)))) then true else (decide (u57.Hi ≥ 60)))⟩] (Instr.loadAt 4 (.pointer (some ((⟨b4, 0, none⟩ : Addr).add x61.toNat)))) (.bool u62), .run [⟨52, false, (bif (bif (bif (bif (decide (u57.Lo > u57.Hi)) then true else (bif (decide (x55 > 0)) then (decide (u57.Lo ≤ u60.Hi)) else false)) then true else (decide (u57.Lo < (-20)))) then true else (decide (u57.Hi ≥ 60))) then true else (!u62))⟩] (Instr.loadAt 3 (.pointer (some ⟨b58, 1, none⟩))) (iv u57.Hi), .run [⟨52, false, (bif (bif (bif (bif (decide (u57.Lo > u57.Hi)) then true else (bif (decide (x55 > 0)) then (decide (u57.Lo ≤ u60.Hi)) else false)) then true else (decide (u57.Lo < (-20)))) then true else (decide (u57.Hi ≥ 60))) then true else (!u62))⟩] (binOp .sub 3 (iv u57.Hi) (iv (-20))) (iv x63), .run [⟨52, false, (bif (bif (bif (bif (decide (u57.Lo > u57.Hi)) then true else (bif (decide (x55 > 0)) then (decide (u57.Lo ≤ u60.Hi)) else false)) then true else (decide (u57.Lo < (-20)))) then true else (decide (u57.Hi ≥ 60))) then true else (!u62))⟩] (Instr.indexAt 85 (pb b4) (iv x63)) (.pointer (some ((⟨b4, 0, none⟩ : Addr).add x63.toNat))), .run [⟨52, false, (bif (bif (bif (bif (decide (u57.Lo > u57.Hi)) then true else (bif (decide (x55 > 0)) then (decide (u57.Lo ≤ u60.Hi)) else false)) then true else (decide (u57.Lo < (-20)))) then true else (decide (u57.Hi ≥ 60))) then true else (!u62))⟩] (Instr.loadAt 4 (.pointer (some ((⟨b4, 0, none⟩ : Addr).add x63.toNat)))) (.bool u64)]) 46 [(0, sv ad1 p0 cap2), (3, pb b4), (7, sv ad1 p0 cap2), (8, iv (ln p0)), (9, iv x55), (59, .bool (bif (bif (bif (bif (bif (decide (u57.Lo > u57.Hi)) then true else (bif (decide (x55 > 0)) then (decide (u57.Lo ≤ u60.Hi)) else false)) then true else (decide (u57.Lo < (-20)))) then true else (decide (u57.Hi ≥ 60))) then true else (!u62)) then true else (!u64)))] (by kernel_rfl) hF (by kernel_rfl) (ocons (ob1 (by kernel_rfl) (fun _ hd => (hS.later hd).cell (i := 0) (j := 0) rfl rfl)) (ocons (ob1 (by kernel_rfl) (fun _ hd => (hS.later hd).cell (i := 0) (j := 1) rfl rfl)) (ocons (ob1 (by kernel_rfl) (fun _ hd => (hS.later hd).cell (i := 0) (j := 0) rfl rfl)) (ocons (obSubC (fun hk => gd_some hx59 hk)) (ocons (obIdxQ (hA3 _ (hS.frz (i := 2) rfl hlow)) (by kernel_rfl) (fun hk => gd_some hu60 hk)) (ocons (obElQ (i := x59) 1 api_Span.cells_len (fun _ hd => (hA3 _ ((hS.later hd).frz (i := 2) rfl hlow))) (by kernel_rfl) (fun hk => gd_some hu60 hk) rfl) (ocons (ob1 (by kernel_rfl) (fun _ hd => (hS.later hd).cell (i := 0) (j := 0) rfl rfl)) (ocons (ob1 (by kernel_rfl) (fun _ hd => (hS.later hd).cell (i := 0) (j := 1) rfl rfl)) (ocons (ob1 (by kernel_rfl) (fun _ hd => (hS.later hd).cell (i := 0) (j := 0) rfl rfl)) (ocons (obSubC (fun hk => gd_some hx61 hk)) (ocons (obIdxV (by kernel_rfl) (fun hk => gd_some hu62 hk)) (ocons (ob1V (f := Value.bool) (tt := 85) (by kernel_rfl) (fun hk => gd_some hu62 hk) (fun _ hd => ((hS.later hd).blk (i := 1) rfl))) (ocons (ob1 (by kernel_rfl) (fun _ hd => (hS.later hd).cell (i := 0) (j := 1) rfl rfl)) (ocons (obSubC (fun hk => gd_some hx63 hk)) (ocons (obIdxV (by kernel_rfl) (fun hk => gd_some hu64 hk)) (ocons (ob1V (f := Value.bool) (tt := 85) (by kernel_rfl) (fun hk => gd_some hu64 hk) (fun _ hd => ((hS.later hd).blk (i := 1) rfl))) onil)))))))))))))))) ⟨by kernel_rfl⟩ fun a w hF hx => ?_
   replace hS := hS.later hx
   refine wfn rfl ?_
   refine econd hF rfl (fun hc => ?_) (fun hc => ?_)
   ·replace h := bif_t h hc
    refine esr ?_
    refine rn 1 1 [(4, .bool false)] hF fun a hF => ?_
    refine wfn rfl ?_
    refine wpIn_ret (ret_block <| ret_then <| ret_then <| ret_block <| ret_then <| fn_ret [.tmp 4] [.bool false] hF rfl ⟨rfl, trivial⟩ ?_)
    have hr_ := Option.some.inj h
    subst hr_
    exact ⟨rfl, hS.ext⟩
   ·replace h := bif_f h hc
    refine wpIn_skip (norm_block <| norm_then <| ?_)
    refine WI.region ?_
    replace h := bindS h
    obtain ⟨x65, hx65, h⟩ := h
    refine rno 2 [.run [] (binOp .add 3 (iv x55) (iv 1)) (iv x65)] 2 [(0, sv ad1 p0 cap2), (3, pb b4), (7, sv ad1 p0 cap2), (8, iv (ln p0)), (9, iv x65)] hF (ocons (obAddC (fun _ => hx65)) onil) fun a hF => ?_
    refine wfn rfl ?_
    rw [hk2] at h
    exact ⟨nk2, Nat.lt_succ_self _, x65, hF.sub (by kernel_rfl), St.pick [1, 2] (by decide) hS, h⟩
  ·replace h := bif_f h hc
   refine wpIn_exit (exit_then <| exit_then <| exit_hit <| norm_then ?_)
   exact ⟨hF.sub (by kernel_rfl), St.pick [0, 1] (by decide) hS, h⟩
 rintro a w ⟨hF, hS, h⟩
 rw [law03_formed_K1] at h
 refine esr ?_
 refine rn 1 1 [(4, .bool true)] hF fun a hF => ?_
 refine wfn rfl ?_
 refine wpIn_ret (fn_ret [.tmp 4] [.bool true] hF rfl ⟨rfl, trivial⟩ ?_)
 have hr_ := Option.some.inj h
 subst hr_
 exact ⟨rfl, hS.ext⟩
end Go.Proofs.Ytbhjgebjojdohaa
