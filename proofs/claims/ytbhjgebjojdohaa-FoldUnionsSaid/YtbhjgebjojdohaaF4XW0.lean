/- Walks, written by program (wip/gen/dec.py). -/
import Derived.Test.YtbhjgebjojdohaaF4XD
import Derived.Test.YtbhjgebjojdohaaProg
import Derived.Test.YtbhjgebjojdohaaF4WkS
namespace Go.Proofs.Ytbhjgebjojdohaa
open Go Go.RowKit Go.Eng
set_option maxRecDepth 10000
set_option maxHeartbeats 4000000
set_option linter.unusedVariables false
set_option linter.unusedSimpArgs false
theorem ref01_Valid_ok (p0 : api_Span) (p1 : Int) (p2 : Int) (res : Bool) (h : ref01_Valid p0 p1 p2 = res) (μ : Frz) (w0 : World) (hm : FrzAt μ w0) : Calls Try.prog 94 #[.agg #[iv p0.Lo, iv p0.Hi], iv p1, iv p2] w0 (fun e w => e = .returned (.bool res) ∧ Ext w0 w) := by
 obtain ⟨hlow, hS⟩ := hm.init
 have hext := Frz.ext_refl w0.heap.size μ
 rw [ref01_Valid] at h
 refine fn_enterW Try.func94 rfl 24 [(0, .agg #[iv p0.Lo, iv p0.Hi]), (1, iv p1), (2, iv p2)] rfl rfl (by kernel_rfl) fun a w hw hF => ?_
 replace hS : St w0 [fz w0 μ] w := by rw [hw]; exact hS
 clear hw
 refine esr ?_
 refine SK.wi (boxK (t := 25) (fun b1 => [(1, iv p1), (2, iv p2), (3, pb b1)]) (.agg #[iv p0.Lo, iv p0.Hi]) #[iv p0.Lo, iv p0.Hi] hF hS (by kernel_rfl) ⟨by kernel_rfl⟩ (by kernel_rfl) (fun _ => ⟨by kernel_rfl⟩) fun b1 w a hF hS => ?_)
 refine rn 1 2 [(1, iv p1), (2, iv p2), (3, pb b1)] hF fun a hF => ?_
 refine wfn rfl ?_
 refine esr ?_
 refine rno 18 [.run [] (Instr.loadAt 3 (pb b1)) (iv p0.Lo), .run [] (Instr.loadAt 3 (.pointer (some ⟨b1, 1, none⟩))) (iv p0.Hi), .run [⟨12, true, (decide (p0.Lo ≤ p0.Hi))⟩] (Instr.loadAt 3 (pb b1)) (iv p0.Lo), .run [⟨18, true, (bif (decide (p0.Lo ≤ p0.Hi)) then (decide (p0.Lo ≥ p1)) else false)⟩] (Instr.loadAt 3 (.pointer (some ⟨b1, 1, none⟩))) (iv p0.Hi)] 18 [(6, .bool (bif (bif (decide (p0.Lo ≤ p0.Hi)) then (decide (p0.Lo ≥ p1)) else false) then (decide (p0.Hi ≤ p2)) else false))] hF (ocons (ob1 (by kernel_rfl) (fun _ hd => (hS.at_ hd).cell (i := 0) (j := 0) rfl rfl)) (ocons (ob1 (by kernel_rfl) (fun _ hd => (hS.at_ hd).cell (i := 0) (j := 1) rfl rfl)) (ocons (ob1 (by kernel_rfl) (fun _ hd => (hS.at_ hd).cell (i := 0) (j := 0) rfl rfl)) (ocons (ob1 (by kernel_rfl) (fun _ hd => (hS.at_ hd).cell (i := 0) (j := 1) rfl rfl)) onil)))) fun a hF => ?_
 refine wfn rfl ?_
 refine wpIn_ret (fn_ret [.tmp 6] [.bool (bif (bif (decide (p0.Lo ≤ p0.Hi)) then (decide (p0.Lo ≥ p1)) else false) then (decide (p0.Hi ≤ p2)) else false)] hF rfl ⟨rfl, trivial⟩ ?_)
 subst h
 exact ⟨rfl, hS.ext⟩

theorem fold_checked_ok (F : Nat) (p0 : (List api_Span)) (p1 : Bool) (res : Int) (h : fold_checked F p0 p1 = some res) (μ : Frz) (w0 : World) (hm : FrzAt μ w0) {ad1 : Option Addr} {cap2 : Nat} (hA3 : ArrM μ 2 api_Span.cells ad1 cap2 p0) : Calls Try.prog 61 #[sv ad1 p0 cap2, .bool p1] w0 (fun e w => e = .returned (iv res) ∧ Ext w0 w) := by
 obtain ⟨hlow, hS⟩ := hm.init
 have hext := Frz.ext_refl w0.heap.size μ
 rw [fold_checked] at h
 refine fn_enterW Try.func61 rfl 51 [(0, sv ad1 p0 cap2), (1, .bool p1)] rfl rfl (by kernel_rfl) fun a w hw hF => ?_
 replace hS : St w0 [fz w0 μ] w := by rw [hw]; exact hS
 clear hw
 refine esr ?_
 refine rn 1 1 [(0, sv ad1 p0 cap2), (1, .bool p1)] hF fun a hF => ?_
 refine wfn rfl ?_
 refine eseq ?_
 refine esr ?_
 refine rn 3 3 [(0, sv ad1 p0 cap2), (1, .bool p1), (9, .bool (decide ((ln p0) > 256)))] hF fun a hF => ?_
 refine wfn rfl ?_
 refine econd hF rfl (fun hc => ?_) (fun hc => ?_)
 ·replace h := bif_t h hc
  refine esr ?_
  refine rn 1 1 [(4, iv 9)] hF fun a hF => ?_
  refine wfn rfl ?_
  refine wpIn_ret (ret_then <| fn_ret [.tmp 4] [iv 9] hF rfl ⟨rfl, trivial⟩ ?_)
  have hr_ := Option.some.inj h
  subst hr_
  exact ⟨rfl, hS.ext⟩
 ·replace h := bif_f h hc
  refine wpIn_skip (norm_then ?_)
  refine ecut (fun a w => Fr 51 [] [] a ∧ St w0 [fz w0 μ] w ∧ fold_checked_K1 = some res) ?_ ?_
  ·skip
   refine esr ?_
   refine rn 3 3 [(0, sv ad1 p0 cap2), (1, .bool p1), (10, sv ad1 p0 cap2), (11, iv (ln p0)), (12, iv 0)] hF fun a hF => ?_
   refine wfn rfl ?_
   refine wpIn_block ?_
   refine eloop (fun n_ a w => ∃ (x34 : Int), Fr 51 [] [(0, sv ad1 p0 cap2), (1, .bool p1), (10, sv ad1 p0 cap2), (11, iv (ln p0)), (12, iv x34)] a ∧ St w0 [fz w0 μ] w ∧ fold_checked_L2 p0 p1 n_ x34 = some res) F ⟨0, hF.sub (by kernel_rfl), St.pick [0] (by decide) hS, h⟩ ?_
   rintro nk2 a w ⟨x34, hF, hS, h⟩
   rcases nk2 with _ | nk2
   ·cases (show (none : Option Int) = some res from h)
   obtain ⟨k2, hk2⟩ : ∃ k, k = fold_checked_L2 p0 p1 nk2 := ⟨_, rfl⟩
   replace h : fold_checked_B2 p0 p1 k2 x34 = some res := by rw [hk2]; exact h
   rw [fold_checked_B2] at h
   refine esr ?_
   refine rn 1 1 [(0, sv ad1 p0 cap2), (1, .bool p1), (10, sv ad1 p0 cap2), (11, iv (ln p0)), (12, iv x34), (13, .bool (decide (x34 < (ln p0))))] hF fun a hF => ?_
   refine wfn rfl ?_
   refine eseq ?_
   refine econd hF rfl (fun hc => ?_) (fun hc => ?_)
   ·replace h := bif_t h hc
    refine wpIn_skip (norm_then ?_)
    refine eseq ?_
    refine wpIn_block ?_
    refine esr ?_
    replace h := bindS h
    obtain ⟨u36, hu36, h⟩ := h
    refine rno 3 [.run [] (Instr.indexAt 43 (sv ad1 p0 cap2) (iv x34)) (.pointer (some (slAddr ad1 x34 2))), .run [] (Instr.loadAt 25 (.pointer (some (slAddr ad1 x34 2)))) (.agg #[iv u36.Lo, iv u36.Hi])] 3 [(0, sv ad1 p0 cap2), (1, .bool p1), (10, sv ad1 p0 cap2), (11, iv (ln p0)), (12, iv x34), (14, iv x34), (16, .agg #[iv u36.Lo, iv u36.Hi])] hF (ocons (obIdxQ (hA3 _ (hS.frz (i := 0) rfl hlow)) (by kernel_rfl) (fun _ => hu36)) (ocons (obElNQ (m := 2) (i := x34) (us := [iv u36.Lo, iv u36.Hi]) 0 api_Span.cells_len (fun _ hd => (hA3 _ ((hS.at_ hd).frz (i := 0) rfl hlow))) (by kernel_rfl) (fun _ => hu36) ⟨rfl, rfl⟩) onil)) fun a hF => ?_
    refine SK.wi (allocK (t := 25) (fun b37 => [(0, sv ad1 p0 cap2), (1, .bool p1), (6, pb b37), (10, sv ad1 p0 cap2), (11, iv (ln p0)), (12, iv x34), (14, iv x34), (16, .agg #[iv u36.Lo, iv u36.Hi])]) #[iv 0, iv 0] hF hS (by kernel_rfl) ⟨by kernel_rfl⟩ (by kernel_rfl) (fun _ => ⟨by kernel_rfl⟩) fun b37 w a hF hS => ?_)
    refine rn 1 5 [(0, sv ad1 p0 cap2), (1, .bool p1), (5, iv x34), (6, pb b37), (10, sv ad1 p0 cap2), (11, iv (ln p0)), (12, iv x34), (16, .agg #[iv u36.Lo, iv u36.Hi])] hF fun a hF => ?_
    refine SK.wi (storeK (t := 25) [(0, sv ad1 p0 cap2), (1, .bool p1), (5, iv x34), (6, pb b37), (10, sv ad1 p0 cap2), (11, iv (ln p0)), (12, iv x34)] 0 0 (.agg #[iv u36.Lo, iv u36.Hi]) #[iv u36.Lo, iv u36.Hi] hF hS rfl (by kernel_rfl) ⟨by kernel_rfl⟩ (by kernel_rfl) (by kernel_rfl) (by kernel_rfl) (by kernel_rfl) ⟨by kernel_rfl⟩ fun w a hF hS => ?_)
    refine wfn rfl ?_
    refine wpIn_block ?_
    refine esr ?_
    refine rno 16 [.run [] (Instr.loadAt 3 (pb b37)) (iv u36.Lo), .run [] (Instr.loadAt 3 (.pointer (some ⟨b37, 1, none⟩))) (iv u36.Hi), .run [⟨23, false, (decide (u36.Lo > u36.Hi))⟩] (Instr.loadAt 3 (pb b37)) (iv u36.Lo), .run [⟨28, false, (bif (decide (u36.Lo > u36.Hi)) then true else (decide (u36.Lo < (-200000))))⟩] (Instr.loadAt 3 (.pointer (some ⟨b37, 1, none⟩))) (iv u36.Hi)] 16 [(0, sv ad1 p0 cap2), (1, .bool p1), (5, iv x34), (6, pb b37), (10, sv ad1 p0 cap2), (11, iv (ln p0)), (12, iv x34), (17, .bool (bif (bif (decide (u36.Lo > u36.Hi)) then true else (decide (u36.Lo < (-200000)))) then true else (decide (u36.Hi > 200000))))] hF (ocons (ob1 (by kernel_rfl) (fun _ hd => (hS.at_ hd).cell (i := 0) (j := 0) rfl rfl)) (ocons (ob1 (by kernel_rfl) (fun _ hd => (hS.at_ hd).cell (i := 0) (j := 1) rfl rfl)) (ocons (ob1 (by kernel_rfl) (fun _ hd => (hS.at_ hd).cell (i := 0) (j := 0) rfl rfl)) (ocons (ob1 (by kernel_rfl) (fun _ hd => (hS.at_ hd).cell (i := 0) (j := 1) rfl rfl)) onil)))) fun a hF => ?_
    refine wfn rfl ?_
    refine econd hF rfl (fun hc => ?_) (fun hc => ?_)
    ·replace h := bif_t h hc
     refine esr ?_
     refine rn 1 1 [(4, iv 3)] hF fun a hF => ?_
     refine wfn rfl ?_
     refine wpIn_ret (ret_block <| ret_block <| ret_then <| ret_then <| ret_block <| ret_then <| fn_ret [.tmp 4] [iv 3] hF rfl ⟨rfl, trivial⟩ ?_)
     have hr_ := Option.some.inj h
     subst hr_
     exact ⟨rfl, hS.ext⟩
    ·replace h := bif_f h hc
     refine eseq ?_
     replace h := bindS h
     obtain ⟨x38, hx38, h⟩ := h
     replace h := bindS h
     obtain ⟨u39, hu39, h⟩ := h
     refine runD (obs := [.run [⟨39, true, (bif p1 then (decide (x34 > 0)) else false)⟩] (Instr.loadAt 3 (pb b37)) (iv u36.Lo), .run [⟨39, true, (bif p1 then (decide (x34 > 0)) else false)⟩] (binOp .sub 3 (iv x34) (iv 1)) (iv x38), .run [⟨39, true, (bif p1 then (decide (x34 > 0)) else false)⟩] (Instr.indexAt 43 (sv ad1 p0 cap2) (iv x38)) (.pointer (some (slAddr ad1 x38 2))), .run [⟨39, true, (bif p1 then (decide (x34 > 0)) else false)⟩] (Instr.loadAt 3 (.pointer (some ((slAddr ad1 x38 2).add 1)))) (iv u39.Hi)]) 17 [(0, sv ad1 p0 cap2), (1, .bool p1), (10, sv ad1 p0 cap2), (11, iv (ln p0)), (12, iv x34), (33, .bool (bif (bif p1 then (decide (x34 > 0)) else false) then (decide (u36.Lo ≤ u39.Hi)) else false))] (by kernel_rfl) hF (by kernel_rfl) (ocons (ob1 (by kernel_rfl) (fun _ hd => (hS.later hd).cell (i := 0) (j := 0) rfl rfl)) (ocons (obSubC (fun hk => gd_some hx38 hk)) (ocons (obIdxQ (hA3 _ (hS.frz (i := 1) rfl hlow)) (by kernel_rfl) (fun hk => gd_some hu39 hk)) (ocons (obElQ (i := x38) 1 api_Span.cells_len (fun _ hd => (hA3 _ ((hS.later hd).frz (i := 1) rfl hlow))) (by kernel_rfl) (fun hk => gd_some hu39 hk) rfl) onil)))) ⟨by kernel_rfl⟩ fun a w hF hx => ?_
     replace hS := hS.later hx
     refine wfn rfl ?_
     refine econd hF rfl (fun hc => ?_) (fun hc => ?_)
     ·replace h := bif_t h hc
      refine esr ?_
      refine rn 1 1 [(4, iv 12)] hF fun a hF => ?_
      refine wfn rfl ?_
      refine wpIn_ret (ret_block <| ret_block <| ret_then <| ret_then <| ret_block <| ret_then <| fn_ret [.tmp 4] [iv 12] hF rfl ⟨rfl, trivial⟩ ?_)
      have hr_ := Option.some.inj h
      subst hr_
      exact ⟨rfl, hS.ext⟩
     ·replace h := bif_f h hc
      refine wpIn_skip (norm_block <| norm_block <| norm_then <| ?_)
      refine WI.region ?_
      replace h := bindS h
      obtain ⟨x40, hx40, h⟩ := h
      refine rno 2 [.run [] (binOp .add 3 (iv x34) (iv 1)) (iv x40)] 2 [(0, sv ad1 p0 cap2), (1, .bool p1), (10, sv ad1 p0 cap2), (11, iv (ln p0)), (12, iv x40)] hF (ocons (obAddC (fun _ => hx40)) onil) fun a hF => ?_
      refine wfn rfl ?_
      rw [hk2] at h
      exact ⟨nk2, Nat.lt_succ_self _, x40, hF.sub (by kernel_rfl), St.pick [1] (by decide) hS, h⟩
   ·replace h := bif_f h hc
    refine wpIn_exit (exit_then <| exit_then <| exit_hit <| norm_then ?_)
    exact ⟨hF.sub (by kernel_rfl), St.pick [0] (by decide) hS, h⟩
  rintro a w ⟨hF, hS, h⟩
  rw [fold_checked_K1] at h
  refine esr ?_
  refine rn 1 1 [(4, iv 0)] hF fun a hF => ?_
  refine wfn rfl ?_
  refine wpIn_ret (fn_ret [.tmp 4] [iv 0] hF rfl ⟨rfl, trivial⟩ ?_)
  have hr_ := Option.some.inj h
  subst hr_
  exact ⟨rfl, hS.ext⟩

theorem slices_Clone_fold_speeds_api_Span_okS (F : Nat) (p0 : (List api_Span)) (res : (List api_Span)) (h : slices_Clone_fold_speeds_api_Span F p0 = some res) (μ : Frz) (w0 : World) (hm : FrzAt μ w0) {ad1x : Addr} {cap2 : Nat} (hA3 : ArrM μ 2 api_Span.cells (some ad1x) cap2 p0) : Calls Try.prog 99 #[.slice (some ad1x) p0.length cap2] w0 (fun e w => ∃ zad0 zcap0, e = .returned (sv zad0 res zcap0) ∧ St w0 [arr 25 2 api_Span.cells zad0 res.length zcap0 res] w) := by
 obtain ⟨hlow, hS⟩ := hm.init
 have hext := Frz.ext_refl w0.heap.size μ
 rw [slices_Clone_fold_speeds_api_Span] at h
 refine fn_enterW Try.func99 rfl 8 [(0, .slice (some ad1x) p0.length cap2)] rfl rfl (by kernel_rfl) fun a w hw hF => ?_
 replace hS : St w0 [fz w0 μ] w := by rw [hw]; exact hS
 clear hw
 refine esr ?_
 refine rn 1 1 [(0, .slice (some ad1x) p0.length cap2)] hF fun a hF => ?_
 refine wfn rfl ?_
 refine eseq ?_
 refine esr ?_
 refine rn 2 2 [(0, .slice (some ad1x) p0.length cap2), (4, .bool false)] hF fun a hF => ?_
 refine wfn rfl ?_
 refine wpIn_cond_false (hF.get rfl) ?_
 refine wpIn_skip (norm_then ?_)
 refine esr ?_
 refine SK.wi (litK (e := 25) (sz := 2) (f := api_Span.cells) (t := 132) (len := 0) (fun b4 => [(0, .slice (some ad1x) p0.length cap2), (5, sb b4 0)]) #[] #[] ([] : List api_Span) hF hS (by kernel_rfl) ⟨by kernel_rfl⟩ (by kernel_rfl) api_Span.cells_len rfl rfl (by kernel_rfl) (fun _ => ⟨by kernel_rfl⟩) fun b4 w a hF hS => ?_)
 refine rn 1 2 [(5, sb b4 0), (6, .slice (some ad1x) p0.length cap2)] hF fun a hF => ?_
 replace h := bindS h
 obtain ⟨l5, hl5, h⟩ := h
 refine SK.wi (appK (t := 132) (ty := 132) (bytes := 16) (l := ([] : List api_Span)) (l' := p0) (fun ad6 cap7 => [(7, sv ad6 l5 cap7)]) 0 hF hS rfl (by kernel_rfl) ⟨by kernel_rfl⟩ (by kernel_rfl) (hA3 _ (hS.frz (i := 1) rfl hlow)) (fun _ _ => rfl) hl5 (fun _ _ => ⟨by kernel_rfl⟩) fun ad6 cap7 w a hF hS => ?_)
 refine rn 1 4 [(2, sv ad6 l5 cap7)] hF fun a hF => ?_
 refine wfn rfl ?_
 refine wpIn_ret (fn_ret [.tmp 2] [sv ad6 l5 cap7] hF rfl ⟨rfl, trivial⟩ ?_)
 have hr_ := Option.some.inj h
 subst hr_
 exact ⟨_, _, rfl, St.pick [0] (by decide) hS⟩

theorem slices_Clone_fold_speeds_api_Span_okN (res : (List api_Span)) (h : ([] : List api_Span) = res) (μ : Frz) (w0 : World) (hm : FrzAt μ w0) {cap2 : Nat} : Calls Try.prog 99 #[.slice none 0 cap2] w0 (fun e w => ∃ zad0 zcap0, e = .returned (sv zad0 res zcap0) ∧ St w0 [arr 25 2 api_Span.cells zad0 res.length zcap0 res] w) := by
 obtain ⟨hlow, hS⟩ := hm.init
 have hext := Frz.ext_refl w0.heap.size μ
 refine fn_enterW Try.func99 rfl 8 [(0, .slice none 0 cap2)] rfl rfl (by kernel_rfl) fun a w hw hF => ?_
 replace hS : St w0 [fz w0 μ] w := by rw [hw]; exact hS
 clear hw
 refine esr ?_
 refine rn 1 1 [(0, .slice none 0 cap2)] hF fun a hF => ?_
 refine wfn rfl ?_
 refine eseq ?_
 refine esr ?_
 refine rn 2 2 [(0, .slice none 0 cap2), (4, .bool true)] hF fun a hF => ?_
 refine wfn rfl ?_
 refine wpIn_cond_true (hF.get rfl) ?_
 refine esr ?_
 refine rn 1 1 [(2, .slice none 0 0)] hF fun a hF => ?_
 refine wfn rfl ?_
 refine wpIn_ret (ret_then <| fn_ret [.tmp 2] [.slice none 0 0] hF rfl ⟨rfl, trivial⟩ ?_)
 subst h
 replace hS := hS.nilarr 25 2 api_Span.cells
 exact ⟨_, _, rfl, St.pick [0] (by decide) hS⟩

theorem slices_Clone_fold_speeds_api_Span_ok (F : Nat) (p0 : List api_Span) (res : List api_Span) (h : slices_Clone_fold_speeds_api_Span F p0 = some res) (μ : Frz) (w0 : World) (hm : FrzAt μ w0) {ad1 : Option Addr} {cap2 : Nat} (hA3 : ArrM μ 2 api_Span.cells ad1 cap2 p0) : Calls Try.prog 99 #[sv ad1 p0 cap2] w0 (fun e w => ∃ zad0 zcap0, e = .returned (sv zad0 res zcap0) ∧ St w0 [arr 25 2 api_Span.cells zad0 res.length zcap0 res] w) := by
 cases ad1 with
 | some a => exact slices_Clone_fold_speeds_api_Span_okS F p0 res h μ w0 hm hA3
 | none =>
  obtain rfl := hA3.none_nil hm
  have hr : [] = res := Option.some.inj (show some ([] : List api_Span) = some res from h)
  exact slices_Clone_fold_speeds_api_Span_okN res hr μ w0 hm

theorem fold_speeds_united_ok (F : Nat) (p0 : (List api_Span)) (res : (List api_Span)) (h : fold_speeds_united F p0 = some res) (μ : Frz) (w0 : World) (hm : FrzAt μ w0) {ad1 : Option Addr} {cap2 : Nat} (hA3 : ArrM μ 2 api_Span.cells ad1 cap2 p0) : Calls Try.prog 62 #[sv ad1 p0 cap2] w0 (fun e w => ∃ zad0 zcap0, e = .returned (sv zad0 res zcap0) ∧ St w0 [arr 25 2 api_Span.cells zad0 res.length zcap0 res] w) := by
 obtain ⟨hlow, hS⟩ := hm.init
 have hext := Frz.ext_refl w0.heap.size μ
 rw [fold_speeds_united] at h
 refine fn_enterW Try.func62 rfl 53 [(0, sv ad1 p0 cap2)] rfl rfl (by kernel_rfl) fun a w hw hF => ?_
 replace hS : St w0 [fz w0 μ] w := by rw [hw]; exact hS
 clear hw
 refine esr ?_
 refine rn 1 1 [(0, sv ad1 p0 cap2)] hF fun a hF => ?_
 refine wfn rfl ?_
 refine esr ?_
 refine rn 1 1 [(8, sv ad1 p0 cap2)] hF fun a hF => ?_
 replace h := bindS h
 obtain ⟨y5, hy5, h⟩ := h
 refine SK.wi (callK (f := 99) (args := #[sv ad1 p0 cap2]) (R := fun v w2 => ∃ ad6 cap7, v = sv ad6 y5 cap7 ∧ St w [arr 25 2 api_Span.cells ad6 y5.length cap7 y5] w2) (fun v4 => [(9, v4)]) hF (by kernel_rfl) ⟨by kernel_rfl⟩ (Calls.mono (slices_Clone_fold_speeds_api_Span_ok F p0 _ hy5 (memOf w) w (memOf_at w) (hA3.mono (FrzAt.le_mem (hS.frz (i := 0) rfl hlow)))) (by rintro e w2 ⟨ad6, cap7, rfl, h⟩; exact ⟨_, rfl, ad6, cap7, rfl, h⟩)) (fun _ => ⟨by kernel_rfl⟩) ?_)
 rintro v4 w a ⟨ad6, cap7, rfl, hQ⟩ hF
 replace hS : St w0 [arr 25 2 api_Span.cells ad6 y5.length cap7 y5, fz w0 μ] w := hS.madeL hQ
 refine rn 1 3 [(3, sv ad6 y5 cap7)] hF fun a hF => ?_
 refine wfn rfl ?_
 refine esr ?_
 refine rn 1 1 [(3, sv ad6 y5 cap7), (10, sv ad6 y5 cap7)] hF fun a hF => ?_
 replace h := bindS h
 obtain ⟨y9, hy9, h⟩ := h
 refine SK.wi (callK (f := 100) (args := #[sv ad6 y5 cap7, .func (.func 101) #[] #[]]) (R := fun v w2 => v = .tuple #[] ∧ y5.length = y9.length ∧ St w0 [arr 25 2 api_Span.cells ad6 y9.length cap7 y9, fz w0 μ] w2) (fun v8 => [(3, sv ad6 y5 cap7)]) hF (by kernel_rfl) ⟨by kernel_rfl⟩ (Calls.mono (slices_SortFunc100_ok F y5 _ hy9 hS (i := 0) rfl) (fun e w2 h => ⟨_, h.1, rfl, h.2.1, h.2.2⟩)) (fun _ => ⟨by kernel_rfl⟩) ?_)
 rintro v8 w a ⟨rfl, hl, hS⟩ hF
 simp only [sv, ln, hl] at hF hS
 refine wfn rfl ?_
 refine esr ?_
 refine rn 1 1 [(3, sv ad6 y9 cap7), (4, .slice none 0 0)] hF fun a hF => ?_
 refine wfn rfl ?_
 refine ecut (fun a w => ∃ (l102 : (List api_Span)) (ad100 : Option Addr) (cap101 : Nat), Fr 53 [] [(4, sv ad100 l102 cap101)] a ∧ St w0 [arr 25 2 api_Span.cells ad100 l102.length cap101 l102, arr 25 2 api_Span.cells ad6 y9.length cap7 y9, fz w0 μ] w ∧ fold_speeds_united_K1 l102 = some res) ?_ ?_
 ·skip
  refine esr ?_
  refine rn 3 3 [(4, .slice none 0 0), (12, sv ad6 y9 cap7), (13, iv (ln y9)), (14, iv 0)] hF fun a hF => ?_
  refine wfn rfl ?_
  refine wpIn_block ?_
  replace hS := hS.nilarr 25 2 api_Span.cells
  refine eloop (fun n_ a w => ∃ (x158 : Int) (l161 : (List api_Span)) (ad159 : Option Addr) (cap160 : Nat), Fr 53 [] [(4, sv ad159 l161 cap160), (12, sv ad6 y9 cap7), (13, iv (ln y9)), (14, iv x158)] a ∧ St w0 [arr 25 2 api_Span.cells ad159 l161.length cap160 l161, arr 25 2 api_Span.cells ad6 y9.length cap7 y9, fz w0 μ] w ∧ fold_speeds_united_L2 y9 n_ x158 l161 = some res) F ⟨0, [], none, 0, hF.sub (by kernel_rfl), St.pick [0, 1, 2] (by decide) hS, h⟩ ?_
  rintro nk2 a w ⟨x158, l161, ad159, cap160, hF, hS, h⟩
  rcases nk2 with _ | nk2
  ·cases (show (none : Option (List api_Span)) = some res from h)
  obtain ⟨k2, hk2⟩ : ∃ k, k = fold_speeds_united_L2 y9 nk2 := ⟨_, rfl⟩
  replace h : fold_speeds_united_B2 y9 k2 x158 l161 = some res := by rw [hk2]; exact h
  rw [fold_speeds_united_B2] at h
  refine esr ?_
  refine rn 1 1 [(4, sv ad159 l161 cap160), (12, sv ad6 y9 cap7), (13, iv (ln y9)), (14, iv x158), (15, .bool (decide (x158 < (ln y9))))] hF fun a hF => ?_
  refine wfn rfl ?_
  refine eseq ?_
  refine econd hF rfl (fun hc => ?_) (fun hc => ?_)
  ·replace h := bif_t h hc
   refine wpIn_skip (norm_then ?_)
   refine ecut (fun a w => ∃ (l178 : (List api_Span)) (ad176 : Option Addr) (cap177 : Nat), Fr 53 [] [(4, sv ad176 l178 cap177), (12, sv ad6 y9 cap7), (13, iv (ln y9)), (14, iv x158)] a ∧ St w0 [arr 25 2 api_Span.cells ad176 l178.length cap177 l178, arr 25 2 api_Span.cells ad6 y9.length cap7 y9, fz w0 μ] w ∧ fold_speeds_united_K3 x158 k2 l178 = some res) ?_ ?_
   ·skip
    refine wpIn_block ?_
    refine esr ?_
    replace h := bindS h
    obtain ⟨u181, hu181, h⟩ := h
    refine rno 2 [.run [] (Instr.indexAt 132 (sv ad6 y9 cap7) (iv x158)) (.pointer (some (slAddr ad6 x158 2))), .run [] (Instr.loadAt 25 (.pointer (some (slAddr ad6 x158 2)))) (.agg #[iv u181.Lo, iv u181.Hi])] 2 [(4, sv ad159 l161 cap160), (12, sv ad6 y9 cap7), (13, iv (ln y9)), (14, iv x158), (17, .agg #[iv u181.Lo, iv u181.Hi])] hF (ocons (obIdxQ (hS.arr (i := 1) rfl) (by kernel_rfl) (fun _ => hu181)) (ocons (obElNQ (m := 2) (i := x158) (us := [iv u181.Lo, iv u181.Hi]) 0 api_Span.cells_len (fun _ hd => ((hS.at_ hd).arr (i := 1) rfl)) (by kernel_rfl) (fun _ => hu181) ⟨rfl, rfl⟩) onil)) fun a hF => ?_
    refine SK.wi (allocK (t := 25) (fun b182 => [(4, sv ad159 l161 cap160), (6, pb b182), (12, sv ad6 y9 cap7), (13, iv (ln y9)), (14, iv x158), (17, .agg #[iv u181.Lo, iv u181.Hi])]) #[iv 0, iv 0] hF hS (by kernel_rfl) ⟨by kernel_rfl⟩ (by kernel_rfl) (fun _ => ⟨by kernel_rfl⟩) fun b182 w a hF hS => ?_)
    refine SK.wi (storeK (t := 25) [(4, sv ad159 l161 cap160), (6, pb b182), (12, sv ad6 y9 cap7), (13, iv (ln y9)), (14, iv x158)] 0 0 (.agg #[iv u181.Lo, iv u181.Hi]) #[iv u181.Lo, iv u181.Hi] hF hS rfl (by kernel_rfl) ⟨by kernel_rfl⟩ (by kernel_rfl) (by kernel_rfl) (by kernel_rfl) (by kernel_rfl) ⟨by kernel_rfl⟩ fun w a hF hS => ?_)
    refine wfn rfl ?_
    refine esr ?_
    refine rn 3 3 [(4, sv ad159 l161 cap160), (6, pb b182), (7, iv (ln l161)), (12, sv ad6 y9 cap7), (13, iv (ln y9)), (14, iv x158)] hF fun a hF => ?_
    refine wfn rfl ?_
    refine eseq ?_
    replace h := bindS h
    obtain ⟨x183, hx183, h⟩ := h
    replace h := bindS h
    obtain ⟨u184, hu184, h⟩ := h
    refine runD (obs := [.run [⟨22, true, (decide ((ln l161) > 0))⟩] (Instr.loadAt 3 (pb b182)) (iv u181.Lo), .run [⟨22, true, (decide ((ln l161) > 0))⟩] (binOp .sub 3 (iv (ln l161)) (iv 1)) (iv x183), .run [⟨22, true, (decide ((ln l161) > 0))⟩] (Instr.indexAt 132 (sv ad159 l161 cap160) (iv x183)) (.pointer (some (slAddr ad159 x183 2))), .run [⟨22, true, (decide ((ln l161) > 0))⟩] (Instr.loadAt 3 (.pointer (some ((slAddr ad159 x183 2).add 1)))) (iv u184.Hi)]) 13 [(4, sv ad159 l161 cap160), (6, pb b182), (7, iv (ln l161)), (12, sv ad6 y9 cap7), (13, iv (ln y9)), (14, iv x158), (32, .bool (bif (decide ((ln l161) > 0)) then (decide (u181.Lo ≤ u184.Hi)) else false))] (by kernel_rfl) hF (by kernel_rfl) (ocons (ob1 (by kernel_rfl) (fun _ hd => (hS.later hd).cell (i := 0) (j := 0) rfl rfl)) (ocons (obSubC (fun hk => gd_some hx183 hk)) (ocons (obIdxQ (hS.arr (i := 1) rfl) (by kernel_rfl) (fun hk => gd_some hu184 hk)) (ocons (obElQ (i := x183) 1 api_Span.cells_len (fun _ hd => ((hS.later hd).arr (i := 1) rfl)) (by kernel_rfl) (fun hk => gd_some hu184 hk) rfl) onil)))) ⟨by kernel_rfl⟩ fun a w hF hx => ?_
    replace hS := hS.later hx
    refine wfn rfl ?_
    refine econd hF rfl (fun hc => ?_) (fun hc => ?_)
    ·replace h := bif_t h hc
     replace h := bindS h
     obtain ⟨x185, hx185, h⟩ := h
     replace h := bindS h
     obtain ⟨x186, hx186, h⟩ := h
     replace h := bindS h
     obtain ⟨u187, hu187, h⟩ := h
     replace h := bindS h
     obtain ⟨u188, hu188, h⟩ := h
     refine runD (obs := [.run [] (binOp .sub 3 (iv (ln l161)) (iv 1)) (iv x185), .run [] (binOp .sub 3 (iv (ln l161)) (iv 1)) (iv x186), .run [] (Instr.indexAt 132 (sv ad159 l161 cap160) (iv x186)) (.pointer (some (slAddr ad159 x186 2))), .run [] (Instr.loadAt 3 (.pointer (some ((slAddr ad159 x186 2).add 1)))) (iv u187.Hi), .run [] (Instr.loadAt 3 (.pointer (some ⟨b182, 1, none⟩))) (iv u181.Hi), .run [] (Instr.indexAt 132 (sv ad159 l161 cap160) (iv x185)) (.pointer (some (slAddr ad159 x185 2)))]) 14 [(4, sv ad159 l161 cap160), (12, sv ad6 y9 cap7), (13, iv (ln y9)), (14, iv x158), (44, iv (if u181.Hi > u187.Hi then u181.Hi else u187.Hi)), (46, .pointer (some ((slAddr ad159 x185 2).add 1)))] (by kernel_rfl) hF (by kernel_rfl) (ocons (obSubC (fun _ => hx185)) (ocons (obSubC (fun _ => hx186)) (ocons (obIdxQ (hS.arr (i := 1) rfl) (by kernel_rfl) (fun _ => hu187)) (ocons (obElQ (i := x186) 1 api_Span.cells_len (fun _ hd => ((hS.later hd).arr (i := 1) rfl)) (by kernel_rfl) (fun _ => hu187) rfl) (ocons (ob1 (by kernel_rfl) (fun _ hd => (hS.later hd).cell (i := 0) (j := 1) rfl rfl)) (ocons (obIdxQ (hS.arr (i := 1) rfl) (by kernel_rfl) (fun _ => hu188)) onil)))))) ⟨by kernel_rfl⟩ fun a w hF hx => ?_
     replace hS := hS.later hx
     replace h := bindS h
     obtain ⟨l189, hl189, h⟩ := h
     refine SK.wi (setK (j := x185) (t := 3) [(4, sv ad159 l161 cap160), (12, sv ad6 y9 cap7), (13, iv (ln y9)), (14, iv x158)] 1 1 u188 (api_Span.mk u188.Lo (if u181.Hi > u187.Hi then u181.Hi else u187.Hi)) (iv (if u181.Hi > u187.Hi then u181.Hi else u187.Hi)) hF hS rfl (by kernel_rfl) ⟨by kernel_rfl⟩ api_Span.cells_len hu188 rfl (by kernel_rfl) (by kernel_rfl) (by kernel_rfl) hl189 ⟨by kernel_rfl⟩ fun w a hF hl hS => ?_)
     simp only [sv, ln, hl] at hF hS
     refine WI.fin rfl (norm_block <| norm_then <| ?_)
     exact ⟨l189, ad159, cap160, hF.sub (by kernel_rfl), St.pick [1, 2, 3] (by decide) hS, h⟩
    ·replace h := bif_f h hc
     refine WI.region ?_
     refine rno 2 [.run [] (Instr.loadAt 25 (pb b182)) (.agg #[iv u181.Lo, iv u181.Hi])] 2 [(4, sv ad159 l161 cap160), (12, sv ad6 y9 cap7), (13, iv (ln y9)), (14, iv x158), (47, sv ad159 l161 cap160), (48, .agg #[iv u181.Lo, iv u181.Hi])] hF (ocons (obN (us := [iv u181.Lo, iv u181.Hi]) (by kernel_rfl) (fun _ hd => ((hS.at_ hd).blk (i := 0) rfl).cells rfl)) onil) fun a hF => ?_
     refine SK.wi (litK (e := 25) (sz := 2) (f := api_Span.cells) (t := 132) (len := 1) (fun b190 => [(4, sv ad159 l161 cap160), (12, sv ad6 y9 cap7), (13, iv (ln y9)), (14, iv x158), (47, sv ad159 l161 cap160), (49, sb b190 1)]) #[(0, .agg #[iv u181.Lo, iv u181.Hi])] #[iv u181.Lo, iv u181.Hi] ([u181]) hF hS (by kernel_rfl) ⟨by kernel_rfl⟩ (by kernel_rfl) api_Span.cells_len rfl rfl (by kernel_rfl) (fun _ => ⟨by kernel_rfl⟩) fun b190 w a hF hS => ?_)
     replace h := bindS h
     obtain ⟨l191, hl191, h⟩ := h
     refine SK.wi (appK (t := 132) (ty := 132) (bytes := 16) (l := l161) (l' := ([u181])) (fun ad192 cap193 => [(4, sv ad159 l161 cap160), (12, sv ad6 y9 cap7), (13, iv (ln y9)), (14, iv x158), (50, sv ad192 l191 cap193)]) 2 hF hS rfl (by kernel_rfl) ⟨by kernel_rfl⟩ (by kernel_rfl) (hS.arr (i := 0) rfl) (fun _ _ => rfl) hl191 (fun _ _ => ⟨by kernel_rfl⟩) fun ad192 cap193 w a hF hS => ?_)
     refine rn 1 5 [(4, sv ad192 l191 cap193), (12, sv ad6 y9 cap7), (13, iv (ln y9)), (14, iv x158)] hF fun a hF => ?_
     refine WI.fin rfl (norm_block <| norm_then <| ?_)
     exact ⟨l191, ad192, cap193, hF.sub (by kernel_rfl), St.pick [2, 3, 4] (by decide) hS, h⟩
   rintro a w ⟨l178, ad176, cap177, hF, hS, h⟩
   rw [fold_speeds_united_K3] at h
   refine WI.region ?_
   replace h := bindS h
   obtain ⟨x179, hx179, h⟩ := h
   refine rno 2 [.run [] (binOp .add 3 (iv x158) (iv 1)) (iv x179)] 2 [(4, sv ad176 l178 cap177), (12, sv ad6 y9 cap7), (13, iv (ln y9)), (14, iv x179)] hF (ocons (obAddC (fun _ => hx179)) onil) fun a hF => ?_
   refine wfn rfl ?_
   rw [hk2] at h
   exact ⟨nk2, Nat.lt_succ_self _, x179, l178, ad176, cap177, hF.sub (by kernel_rfl), St.pick [0, 1, 2] (by decide) hS, h⟩
  ·replace h := bif_f h hc
   refine wpIn_exit (exit_then <| exit_then <| exit_hit <| norm_then ?_)
   exact ⟨l161, ad159, cap160, hF.sub (by kernel_rfl), St.pick [0, 1, 2] (by decide) hS, h⟩
 rintro a w ⟨l102, ad100, cap101, hF, hS, h⟩
 rw [fold_speeds_united_K1] at h
 refine esr ?_
 refine rn 2 2 [(2, sv ad100 l102 cap101)] hF fun a hF => ?_
 refine wfn rfl ?_
 refine wpIn_ret (fn_ret [.tmp 2] [sv ad100 l102 cap101] hF rfl ⟨rfl, trivial⟩ ?_)
 have hr_ := Option.some.inj h
 subst hr_
 exact ⟨_, _, rfl, St.pick [0] (by decide) hS⟩

theorem law03_spans_ok (F : Nat) (p0 : (List api_Span)) (p1 : (List api_Span)) (res : Bool) (h : law03_spans F p0 p1 = some res) (μ : Frz) (w0 : World) (hm : FrzAt μ w0) {ad1 : Option Addr} {cap2 : Nat} {ad4 : Option Addr} {cap5 : Nat} (hA3 : ArrM μ 2 api_Span.cells ad1 cap2 p0) (hA6 : ArrM μ 2 api_Span.cells ad4 cap5 p1) : Calls Try.prog 22 #[sv ad1 p0 cap2, sv ad4 p1 cap5] w0 (fun e w => e = .returned (.bool res) ∧ Ext w0 w) := by
 obtain ⟨hlow, hS⟩ := hm.init
 have hext := Frz.ext_refl w0.heap.size μ
 rw [law03_spans] at h
 refine fn_enterW Try.func22 rfl 26 [(0, sv ad1 p0 cap2), (1, sv ad4 p1 cap5)] rfl rfl (by kernel_rfl) fun a w hw hF => ?_
 replace hS : St w0 [fz w0 μ] w := by rw [hw]; exact hS
 clear hw
 refine esr ?_
 refine rn 1 1 [(0, sv ad1 p0 cap2), (1, sv ad4 p1 cap5)] hF fun a hF => ?_
 refine wfn rfl ?_
 refine eseq ?_
 refine esr ?_
 refine rn 5 5 [(0, sv ad1 p0 cap2), (1, sv ad4 p1 cap5), (10, .bool ((ln p0) != (ln p1)))] hF fun a hF => ?_
 refine wfn rfl ?_
 refine econd hF rfl (fun hc => ?_) (fun hc => ?_)
 ·replace h := bif_t h hc
  refine esr ?_
  refine rn 1 1 [(4, .bool false)] hF fun a hF => ?_
  refine wfn rfl ?_
  refine wpIn_ret (ret_then <| fn_ret [.tmp 4] [.bool false] hF rfl ⟨rfl, trivial⟩ ?_)
  have hr_ := Option.some.inj h
  subst hr_
  exact ⟨rfl, hS.ext⟩
 ·replace h := bif_f h hc
  refine wpIn_skip (norm_then ?_)
  refine ecut (fun a w => Fr 26 [] [] a ∧ St w0 [fz w0 μ] w ∧ law03_spans_K1 = some res) ?_ ?_
  ·skip
   refine esr ?_
   refine rn 1 1 [(0, sv ad1 p0 cap2), (1, sv ad4 p1 cap5), (5, iv 0)] hF fun a hF => ?_
   refine wfn rfl ?_
   refine wpIn_block ?_
   refine eloop (fun n_ a w => ∃ (x27 : Int), Fr 26 [] [(0, sv ad1 p0 cap2), (1, sv ad4 p1 cap5), (5, iv x27)] a ∧ St w0 [fz w0 μ] w ∧ law03_spans_L2 p0 p1 n_ x27 = some res) F ⟨0, hF.sub (by kernel_rfl), St.pick [0] (by decide) hS, h⟩ ?_
   rintro nk2 a w ⟨x27, hF, hS, h⟩
   rcases nk2 with _ | nk2
   ·cases (show (none : Option Bool) = some res from h)
   obtain ⟨k2, hk2⟩ : ∃ k, k = law03_spans_L2 p0 p1 nk2 := ⟨_, rfl⟩
   replace h : law03_spans_B2 p0 p1 k2 x27 = some res := by rw [hk2]; exact h
   rw [law03_spans_B2] at h
   refine eseq ?_
   refine esr ?_
   refine rn 4 4 [(0, sv ad1 p0 cap2), (1, sv ad4 p1 cap5), (5, iv x27), (14, .bool (decide (x27 < (ln p0))))] hF fun a hF => ?_
   refine wfn rfl ?_
   refine econd hF rfl (fun hc => ?_) (fun hc => ?_)
   ·replace h := bif_t h hc
    refine wpIn_skip (norm_then ?_)
    refine eseq ?_
    refine wpIn_block ?_
    refine eseq ?_
    replace h := bindS h
    obtain ⟨u29, hu29, h⟩ := h
    replace h := bindS h
    obtain ⟨u30, hu30, h⟩ := h
    refine runD (obs := [.run [] (Instr.indexAt 43 (sv ad1 p0 cap2) (iv x27)) (.pointer (some (slAddr ad1 x27 2))), .run [] (Instr.loadAt 25 (.pointer (some (slAddr ad1 x27 2)))) (.agg #[iv u29.Lo, iv u29.Hi]), .run [] (Instr.indexAt 43 (sv ad4 p1 cap5) (iv x27)) (.pointer (some (slAddr ad4 x27 2))), .run [] (Instr.loadAt 25 (.pointer (some (slAddr ad4 x27 2)))) (.agg #[iv u30.Lo, iv u30.Hi]), .run [] (eqS .neq 25 #[iv u29.Lo, iv u29.Hi] #[iv u30.Lo, iv u30.Hi]) (.bool (!(((u29.Lo : Int) == u30.Lo) && (((u29.Hi : Int) == u30.Hi) && true))))]) 9 [(0, sv ad1 p0 cap2), (1, sv ad4 p1 cap5), (5, iv x27), (25, .bool (!(((u29.Lo : Int) == u30.Lo) && (((u29.Hi : Int) == u30.Hi) && true))))] (by kernel_rfl) hF (by kernel_rfl) (ocons (obIdxQ (hA3 _ (hS.frz (i := 0) rfl hlow)) (by kernel_rfl) (fun _ => hu29)) (ocons (obElNQ (m := 2) (i := x27) (us := [iv u29.Lo, iv u29.Hi]) 0 api_Span.cells_len (fun _ hd => (hA3 _ ((hS.later hd).frz (i := 0) rfl hlow))) (by kernel_rfl) (fun _ => hu29) ⟨rfl, rfl⟩) (ocons (obIdxQ (hA6 _ (hS.frz (i := 0) rfl hlow)) (by kernel_rfl) (fun _ => hu30)) (ocons (obElNQ (m := 2) (i := x27) (us := [iv u30.Lo, iv u30.Hi]) 0 api_Span.cells_len (fun _ hd => (hA6 _ ((hS.later hd).frz (i := 0) rfl hlow))) (by kernel_rfl) (fun _ => hu30) ⟨rfl, rfl⟩) (ocons (obNeC (by kernel_rfl) (by kernel_rfl)) onil))))) ⟨by kernel_rfl⟩ fun a w hF hx => ?_
    replace hS := hS.later hx
    refine wfn rfl ?_
    refine econd hF rfl (fun hc => ?_) (fun hc => ?_)
    ·replace h := bif_t h hc
     refine esr ?_
     refine rn 1 1 [(4, .bool false)] hF fun a hF => ?_
     refine wfn rfl ?_
     refine wpIn_ret (ret_block <| ret_then <| ret_then <| ret_block <| ret_then <| fn_ret [.tmp 4] [.bool false] hF rfl ⟨rfl, trivial⟩ ?_)
     have hr_ := Option.some.inj h
     subst hr_
     exact ⟨rfl, hS.ext⟩
    ·replace h := bif_f h hc
     refine wpIn_skip (norm_block <| norm_then <| ?_)
     refine WI.region ?_
     replace h := bindS h
     obtain ⟨x31, hx31, h⟩ := h
     refine rno 3 [.run [] (binOp .add 3 (iv x27) (iv 1)) (iv x31)] 3 [(0, sv ad1 p0 cap2), (1, sv ad4 p1 cap5), (5, iv x31)] hF (ocons (obAddC (fun _ => hx31)) onil) fun a hF => ?_
     refine wfn rfl ?_
     rw [hk2] at h
     exact ⟨nk2, Nat.lt_succ_self _, x31, hF.sub (by kernel_rfl), St.pick [0] (by decide) hS, h⟩
   ·replace h := bif_f h hc
    refine wpIn_exit (exit_then <| exit_then <| exit_hit <| norm_then ?_)
    exact ⟨hF.sub (by kernel_rfl), St.pick [0] (by decide) hS, h⟩
  rintro a w ⟨hF, hS, h⟩
  rw [law03_spans_K1] at h
  refine esr ?_
  refine rn 1 1 [(4, .bool true)] hF fun a hF => ?_
  refine wfn rfl ?_
  refine wpIn_ret (fn_ret [.tmp 4] [.bool true] hF rfl ⟨rfl, trivial⟩ ?_)
  have hr_ := Option.some.inj h
  subst hr_
  exact ⟨rfl, hS.ext⟩

theorem ref03_spans_ok (F : Nat) (p0 : (List api_Span)) (p1 : Bool) (res : Int) (h : ref03_spans F p0 p1 = some res) (μ : Frz) (w0 : World) (hm : FrzAt μ w0) {ad1 : Option Addr} {cap2 : Nat} (hA3 : ArrM μ 2 api_Span.cells ad1 cap2 p0) : Calls Try.prog 63 #[sv ad1 p0 cap2, .bool p1] w0 (fun e w => e = .returned (iv res) ∧ Ext w0 w) := by
 obtain ⟨hlow, hS⟩ := hm.init
 have hext := Frz.ext_refl w0.heap.size μ
 rw [ref03_spans] at h
 refine fn_enterW Try.func63 rfl 40 [(0, sv ad1 p0 cap2), (1, .bool p1)] rfl rfl (by kernel_rfl) fun a w hw hF => ?_
 replace hS : St w0 [fz w0 μ] w := by rw [hw]; exact hS
 clear hw
 refine esr ?_
 refine rn 1 1 [(0, sv ad1 p0 cap2), (1, .bool p1)] hF fun a hF => ?_
 refine wfn rfl ?_
 refine eseq ?_
 refine esr ?_
 refine rn 3 3 [(0, sv ad1 p0 cap2), (1, .bool p1), (8, .bool (decide ((ln p0) > 256)))] hF fun a hF => ?_
 refine wfn rfl ?_
 refine econd hF rfl (fun hc => ?_) (fun hc => ?_)
 ·replace h := bif_t h hc
  refine esr ?_
  refine rn 1 1 [(4, iv 9)] hF fun a hF => ?_
  refine wfn rfl ?_
  refine wpIn_ret (ret_then <| fn_ret [.tmp 4] [iv 9] hF rfl ⟨rfl, trivial⟩ ?_)
  have hr_ := Option.some.inj h
  subst hr_
  exact ⟨rfl, hS.ext⟩
 ·replace h := bif_f h hc
  refine wpIn_skip (norm_then ?_)
  refine ecut (fun a w => Fr 40 [] [] a ∧ St w0 [fz w0 μ] w ∧ ref03_spans_K1 = some res) ?_ ?_
  ·skip
   refine esr ?_
   refine rn 1 1 [(0, sv ad1 p0 cap2), (1, .bool p1), (5, iv 0)] hF fun a hF => ?_
   refine wfn rfl ?_
   refine wpIn_block ?_
   refine eloop (fun n_ a w => ∃ (x34 : Int), Fr 40 [] [(0, sv ad1 p0 cap2), (1, .bool p1), (5, iv x34)] a ∧ St w0 [fz w0 μ] w ∧ ref03_spans_L2 p0 p1 n_ x34 = some res) F ⟨0, hF.sub (by kernel_rfl), St.pick [0] (by decide) hS, h⟩ ?_
   rintro nk2 a w ⟨x34, hF, hS, h⟩
   rcases nk2 with _ | nk2
   ·cases (show (none : Option Int) = some res from h)
   obtain ⟨k2, hk2⟩ : ∃ k, k = ref03_spans_L2 p0 p1 nk2 := ⟨_, rfl⟩
   replace h : ref03_spans_B2 p0 p1 k2 x34 = some res := by rw [hk2]; exact h
   rw [ref03_spans_B2] at h
   refine eseq ?_
   refine esr ?_
   refine rn 4 4 [(0, sv ad1 p0 cap2), (1, .bool p1), (5, iv x34), (12, .bool (decide (x34 < (ln p0))))] hF fun a hF => ?_
   refine wfn rfl ?_
   refine econd hF rfl (fun hc => ?_) (fun hc => ?_)
   ·replace h := bif_t h hc
    refine wpIn_skip (norm_then ?_)
    refine eseq ?_
    refine wpIn_block ?_
    refine eseq ?_
    refine esr ?_
    replace h := bindS h
    obtain ⟨u36, hu36, h⟩ := h
    refine rx 6 [.run [] (Instr.indexAt 43 (sv ad1 p0 cap2) (iv x34)) (.pointer (some (slAddr ad1 x34 2))), .run [] (Instr.loadAt 25 (.pointer (some (slAddr ad1 x34 2)))) (.agg #[iv u36.Lo, iv u36.Hi]), .call [] 94 #[.agg #[iv u36.Lo, iv u36.Hi], iv (-200000), iv 200000] (.bool (ref01_Valid u36 (-200000) 200000))] 6 [(0, sv ad1 p0 cap2), (1, .bool p1), (5, iv x34), (20, .bool (!(ref01_Valid u36 (-200000) 200000)))] hF (ocons (obIdxQ (hA3 _ (hS.frz (i := 0) rfl hlow)) (by kernel_rfl) (fun _ => hu36)) (ocons (obElNQ (m := 2) (i := x34) (us := [iv u36.Lo, iv u36.Hi]) 0 api_Span.cells_len (fun _ hd => (hA3 _ ((hS.later hd).frz (i := 0) rfl hlow))) (by kernel_rfl) (fun _ => hu36) ⟨rfl, rfl⟩) (ocons (show Ob.ok _ Ext _ _ from fun hk w2 hd => ref01_Valid_ok u36 (-200000) 200000 _ rfl _ w2 (memOf_at w2) ) onil))) fun a w hF hx => ?_
    replace hS := hS.later hx
    refine wfn rfl ?_
    refine econd hF rfl (fun hc => ?_) (fun hc => ?_)
    ·replace h := bif_t h hc
     refine esr ?_
     refine rn 1 1 [(4, iv 3)] hF fun a hF => ?_
     refine wfn rfl ?_
     refine wpIn_ret (ret_then <| ret_block <| ret_then <| ret_then <| ret_block <| ret_then <| fn_ret [.tmp 4] [iv 3] hF rfl ⟨rfl, trivial⟩ ?_)
     have hr_ := Option.some.inj h
     subst hr_
     exact ⟨rfl, hS.ext⟩
    ·replace h := bif_f h hc
     refine wpIn_skip (norm_then ?_)
     refine eseq ?_
     replace h := bindS h
     obtain ⟨u37, hu37, h⟩ := h
     replace h := bindS h
     obtain ⟨x38, hx38, h⟩ := h
     replace h := bindS h
     obtain ⟨u39, hu39, h⟩ := h
     refine runD (obs := [.run [⟨26, true, (bif p1 then (decide (x34 > 0)) else false)⟩] (Instr.indexAt 43 (sv ad1 p0 cap2) (iv x34)) (.pointer (some (slAddr ad1 x34 2))), .run [⟨26, true, (bif p1 then (decide (x34 > 0)) else false)⟩] (Instr.loadAt 3 (.pointer (some (slAddr ad1 x34 2)))) (iv u37.Lo), .run [⟨26, true, (bif p1 then (decide (x34 > 0)) else false)⟩] (binOp .sub 3 (iv x34) (iv 1)) (iv x38), .run [⟨26, true, (bif p1 then (decide (x34 > 0)) else false)⟩] (Instr.indexAt 43 (sv ad1 p0 cap2) (iv x38)) (.pointer (some (slAddr ad1 x38 2))), .run [⟨26, true, (bif p1 then (decide (x34 > 0)) else false)⟩] (Instr.loadAt 3 (.pointer (some ((slAddr ad1 x38 2).add 1)))) (iv u39.Hi)]) 19 [(0, sv ad1 p0 cap2), (1, .bool p1), (5, iv x34), (39, .bool (bif (bif p1 then (decide (x34 > 0)) else false) then (decide (u37.Lo ≤ u39.Hi)) else false))] (by kernel_rfl) hF (by kernel_rfl) (ocons (obIdxQ (hA3 _ (hS.frz (i := 0) rfl hlow)) (by kernel_rfl) (fun hk => gd_some hu37 hk)) (ocons (obElQ (i := x34) 0 api_Span.cells_len (fun _ hd => (hA3 _ ((hS.later hd).frz (i := 0) rfl hlow))) (by kernel_rfl) (fun hk => gd_some hu37 hk) rfl) (ocons (obSubC (fun hk => gd_some hx38 hk)) (ocons (obIdxQ (hA3 _ (hS.frz (i := 0) rfl hlow)) (by kernel_rfl) (fun hk => gd_some hu39 hk)) (ocons (obElQ (i := x38) 1 api_Span.cells_len (fun _ hd => (hA3 _ ((hS.later hd).frz (i := 0) rfl hlow))) (by kernel_rfl) (fun hk => gd_some hu39 hk) rfl) onil))))) ⟨by kernel_rfl⟩ fun a w hF hx => ?_
     replace hS := hS.later hx
     refine wfn rfl ?_
     refine econd hF rfl (fun hc => ?_) (fun hc => ?_)
     ·replace h := bif_t h hc
      refine esr ?_
      refine rn 1 1 [(4, iv 12)] hF fun a hF => ?_
      refine wfn rfl ?_
      refine wpIn_ret (ret_block <| ret_then <| ret_then <| ret_block <| ret_then <| fn_ret [.tmp 4] [iv 12] hF rfl ⟨rfl, trivial⟩ ?_)
      have hr_ := Option.some.inj h
      subst hr_
      exact ⟨rfl, hS.ext⟩
     ·replace h := bif_f h hc
      refine wpIn_skip (norm_block <| norm_then <| ?_)
      refine WI.region ?_
      replace h := bindS h
      obtain ⟨x40, hx40, h⟩ := h
      refine rno 3 [.run [] (binOp .add 3 (iv x34) (iv 1)) (iv x40)] 3 [(0, sv ad1 p0 cap2), (1, .bool p1), (5, iv x40)] hF (ocons (obAddC (fun _ => hx40)) onil) fun a hF => ?_
      refine wfn rfl ?_
      rw [hk2] at h
      exact ⟨nk2, Nat.lt_succ_self _, x40, hF.sub (by kernel_rfl), St.pick [0] (by decide) hS, h⟩
   ·replace h := bif_f h hc
    refine wpIn_exit (exit_then <| exit_then <| exit_hit <| norm_then ?_)
    exact ⟨hF.sub (by kernel_rfl), St.pick [0] (by decide) hS, h⟩
  rintro a w ⟨hF, hS, h⟩
  rw [ref03_spans_K1] at h
  refine esr ?_
  refine rn 1 1 [(4, iv 0)] hF fun a hF => ?_
  refine wfn rfl ?_
  refine wpIn_ret (fn_ret [.tmp 4] [iv 0] hF rfl ⟨rfl, trivial⟩ ?_)
  have hr_ := Option.some.inj h
  subst hr_
  exact ⟨rfl, hS.ext⟩

theorem ref03_united_ok (F : Nat) (p0 : (List api_Span)) (res : (List api_Span)) (h : ref03_united F p0 = some res) (μ : Frz) (w0 : World) (hm : FrzAt μ w0) {ad1 : Option Addr} {cap2 : Nat} (hA3 : ArrM μ 2 api_Span.cells ad1 cap2 p0) : Calls Try.prog 64 #[sv ad1 p0 cap2] w0 (fun e w => ∃ zad0 zcap0, e = .returned (sv zad0 res zcap0) ∧ St w0 [arr 25 2 api_Span.cells zad0 res.length zcap0 res] w) := by
 obtain ⟨hlow, hS⟩ := hm.init
 have hext := Frz.ext_refl w0.heap.size μ
 rw [ref03_united] at h
 refine fn_enterW Try.func64 rfl 96 [(0, sv ad1 p0 cap2)] rfl rfl (by kernel_rfl) fun a w hw hF => ?_
 replace hS : St w0 [fz w0 μ] w := by rw [hw]; exact hS
 clear hw
 refine esr ?_
 refine rn 1 1 [(0, sv ad1 p0 cap2)] hF fun a hF => ?_
 refine wfn rfl ?_
 refine esr ?_
 refine rn 1 1 [(0, sv ad1 p0 cap2), (3, .slice none 0 0)] hF fun a hF => ?_
 refine wfn rfl ?_
 refine esr ?_
 refine SK.wi (litK (e := 25) (sz := 2) (f := api_Span.cells) (t := 43) (len := 0) (fun b4 => [(0, sv ad1 p0 cap2), (3, .slice none 0 0), (11, sb b4 0)]) #[] #[] ([] : List api_Span) hF hS (by kernel_rfl) ⟨by kernel_rfl⟩ (by kernel_rfl) api_Span.cells_len rfl rfl (by kernel_rfl) (fun _ => ⟨by kernel_rfl⟩) fun b4 w a hF hS => ?_)
 refine rn 1 2 [(3, .slice none 0 0), (11, sb b4 0), (12, sv ad1 p0 cap2)] hF fun a hF => ?_
 replace h := bindS h
 obtain ⟨l5, hl5, h⟩ := h
 refine SK.wi (appK (t := 43) (ty := 43) (bytes := 16) (l := ([] : List api_Span)) (l' := p0) (fun ad6 cap7 => [(3, .slice none 0 0), (13, sv ad6 l5 cap7)]) 0 hF hS rfl (by kernel_rfl) ⟨by kernel_rfl⟩ (by kernel_rfl) (hA3 _ (hS.frz (i := 1) rfl hlow)) (fun _ _ => rfl) hl5 (fun _ _ => ⟨by kernel_rfl⟩) fun ad6 cap7 w a hF hS => ?_)
 refine rn 1 4 [(3, .slice none 0 0), (4, sv ad6 l5 cap7)] hF fun a hF => ?_
 refine wfn rfl ?_
 refine ecut (fun a w => ∃ (l1310 : (List api_Span)) (ad1308 : Option Addr) (cap1309 : Nat), Fr 96 [] [(3, sv ad1308 l1310 cap1309)] a ∧ St w0 [arr 25 2 api_Span.cells ad1308 l1310.length cap1309 l1310, fz w0 μ] w ∧ ref03_united_K1 l1310 = some res) ?_ ?_
 ·skip
  refine wpIn_block ?_
  replace hS := hS.nilarr 25 2 api_Span.cells
  refine eloop (fun n_ a w => ∃ (l2178 : (List api_Span)) (l2181 : (List api_Span)) (ad2176 : Option Addr) (cap2177 : Nat) (ad2179 : Option Addr) (cap2180 : Nat), Fr 96 [] [(3, sv ad2176 l2178 cap2177), (4, sv ad2179 l2181 cap2180)] a ∧ St w0 [arr 25 2 api_Span.cells ad2179 l2181.length cap2180 l2181, arr 25 2 api_Span.cells ad2176 l2178.length cap2177 l2178, fz w0 μ] w ∧ ref03_united_L2 F n_ l2178 l2181 = some res) F ⟨[], l5, none, 0, ad6, cap7, hF.sub (by kernel_rfl), St.pick [1, 0, 2] (by decide) hS, h⟩ ?_
  rintro nk2 a w ⟨l2178, l2181, ad2176, cap2177, ad2179, cap2180, hF, hS, h⟩
  rcases nk2 with _ | nk2
  ·cases (show (none : Option (List api_Span)) = some res from h)
  obtain ⟨k2, hk2⟩ : ∃ k, k = ref03_united_L2 F nk2 := ⟨_, rfl⟩
  replace h : ref03_united_B2 F k2 l2178 l2181 = some res := by rw [hk2]; exact h
  rw [ref03_united_B2] at h
  refine eseq ?_
  refine esr ?_
  refine rn 3 3 [(3, sv ad2176 l2178 cap2177), (4, sv ad2179 l2181 cap2180), (16, .bool (decide ((ln l2181) > 0)))] hF fun a hF => ?_
  refine wfn rfl ?_
  refine econd hF rfl (fun hc => ?_) (fun hc => ?_)
  ·replace h := bif_t h hc
   refine wpIn_skip (norm_then ?_)
   refine wpIn_block ?_
   refine esr ?_
   replace h := bindS h
   obtain ⟨u2183, hu2183, h⟩ := h
   refine rno 3 [.run [] (Instr.indexAt 43 (sv ad2179 l2181 cap2180) (iv 0)) (.pointer (some (slAddr ad2179 0 2))), .run [] (Instr.loadAt 25 (.pointer (some (slAddr ad2179 0 2)))) (.agg #[iv u2183.Lo, iv u2183.Hi])] 3 [(3, sv ad2176 l2178 cap2177), (4, sv ad2179 l2181 cap2180), (19, .agg #[iv u2183.Lo, iv u2183.Hi])] hF (ocons (obIdxQ (hS.arr (i := 0) rfl) (by kernel_rfl) (fun _ => hu2183)) (ocons (obElNQ (m := 2) (i := 0) (us := [iv u2183.Lo, iv u2183.Hi]) 0 api_Span.cells_len (fun _ hd => ((hS.at_ hd).arr (i := 0) rfl)) (by kernel_rfl) (fun _ => hu2183) ⟨rfl, rfl⟩) onil)) fun a hF => ?_
   refine SK.wi (allocK (t := 25) (fun b2184 => [(3, sv ad2176 l2178 cap2177), (4, sv ad2179 l2181 cap2180), (5, pb b2184), (19, .agg #[iv u2183.Lo, iv u2183.Hi])]) #[iv 0, iv 0] hF hS (by kernel_rfl) ⟨by kernel_rfl⟩ (by kernel_rfl) (fun _ => ⟨by kernel_rfl⟩) fun b2184 w a hF hS => ?_)
   refine SK.wi (storeK (t := 25) [(3, sv ad2176 l2178 cap2177), (4, sv ad2179 l2181 cap2180), (5, pb b2184)] 0 0 (.agg #[iv u2183.Lo, iv u2183.Hi]) #[iv u2183.Lo, iv u2183.Hi] hF hS rfl (by kernel_rfl) ⟨by kernel_rfl⟩ (by kernel_rfl) (by kernel_rfl) (by kernel_rfl) (by kernel_rfl) ⟨by kernel_rfl⟩ fun w a hF hS => ?_)
   refine wfn rfl ?_
   refine ecut (fun a w => ∃ (x2216 : Int) (x2217 : Int), Fr 96 [] [(3, sv ad2176 l2178 cap2177), (4, sv ad2179 l2181 cap2180), (5, pb b2184)] a ∧ St w0 [blk b2184 25 #[iv x2216, iv x2217], arr 25 2 api_Span.cells ad2179 l2181.length cap2180 l2181, arr 25 2 api_Span.cells ad2176 l2178.length cap2177 l2178, fz w0 μ] w ∧ ref03_united_K3 F l2178 l2181 k2 x2216 x2217 = some res) ?_ ?_
   ·skip
    refine esr ?_
    refine rn 1 1 [(3, sv ad2176 l2178 cap2177), (4, sv ad2179 l2181 cap2180), (5, pb b2184), (6, iv 0)] hF fun a hF => ?_
    refine wfn rfl ?_
    refine wpIn_block ?_
    refine eloop (fun n_ a w => ∃ (x2600 : Int) (x2601 : Int) (x2602 : Int), Fr 96 [] [(3, sv ad2176 l2178 cap2177), (4, sv ad2179 l2181 cap2180), (5, pb b2184), (6, iv x2602)] a ∧ St w0 [blk b2184 25 #[iv x2600, iv x2601], arr 25 2 api_Span.cells ad2179 l2181.length cap2180 l2181, arr 25 2 api_Span.cells ad2176 l2178.length cap2177 l2178, fz w0 μ] w ∧ ref03_united_L11 F l2178 l2181 k2 n_ x2600 x2601 x2602 = some res) F ⟨u2183.Lo, u2183.Hi, 0, hF.sub (by kernel_rfl), St.pick [0, 1, 2, 3] (by decide) hS, h⟩ ?_
    rintro nk11 a w ⟨x2600, x2601, x2602, hF, hS, h⟩
    rcases nk11 with _ | nk11
    ·cases (show (none : Option (List api_Span)) = some res from h)
    obtain ⟨k11, hk11⟩ : ∃ k, k = ref03_united_L11 F l2178 l2181 k2 nk11 := ⟨_, rfl⟩
    replace h : ref03_united_B11 F l2178 l2181 k2 k11 x2600 x2601 x2602 = some res := by rw [hk11]; exact h
    rw [ref03_united_B11] at h
    refine eseq ?_
    refine esr ?_
    refine rn 4 4 [(3, sv ad2176 l2178 cap2177), (4, sv ad2179 l2181 cap2180), (5, pb b2184), (6, iv x2602), (23, .bool (decide (x2602 < (ln l2181))))] hF fun a hF => ?_
    refine wfn rfl ?_
    refine econd hF rfl (fun hc => ?_) (fun hc => ?_)
    ·replace h := bif_t h hc
     refine wpIn_skip (norm_then ?_)
     refine ecut (fun a w => ∃ (x2606 : Int) (x2607 : Int), Fr 96 [] [(3, sv ad2176 l2178 cap2177), (4, sv ad2179 l2181 cap2180), (5, pb b2184), (6, iv x2602)] a ∧ St w0 [blk b2184 25 #[iv x2606, iv x2607], arr 25 2 api_Span.cells ad2179 l2181.length cap2180 l2181, arr 25 2 api_Span.cells ad2176 l2178.length cap2177 l2178, fz w0 μ] w ∧ ref03_united_K12 x2602 k11 x2606 x2607 = some res) ?_ ?_
     ·skip
      refine wpIn_block ?_
      refine eseq ?_
      replace h := bindS h
      obtain ⟨u2610, hu2610, h⟩ := h
      refine runD (obs := [.run [] (Instr.indexAt 43 (sv ad2179 l2181 cap2180) (iv x2602)) (.pointer (some (slAddr ad2179 x2602 2))), .run [] (Instr.loadAt 3 (.pointer (some (slAddr ad2179 x2602 2)))) (iv u2610.Lo), .run [] (Instr.loadAt 3 (pb b2184)) (iv x2600)]) 8 [(3, sv ad2176 l2178 cap2177), (4, sv ad2179 l2181 cap2180), (5, pb b2184), (6, iv x2602), (33, .bool (decide (u2610.Lo < x2600)))] (by kernel_rfl) hF (by kernel_rfl) (ocons (obIdxQ (hS.arr (i := 1) rfl) (by kernel_rfl) (fun _ => hu2610)) (ocons (obElQ (i := x2602) 0 api_Span.cells_len (fun _ hd => ((hS.later hd).arr (i := 1) rfl)) (by kernel_rfl) (fun _ => hu2610) rfl) (ocons (ob1 (by kernel_rfl) (fun _ hd => (hS.later hd).cell (i := 0) (j := 0) rfl rfl)) onil))) ⟨by kernel_rfl⟩ fun a w hF hx => ?_
      replace hS := hS.later hx
      refine wfn rfl ?_
      refine econd hF rfl (fun hc => ?_) (fun hc => ?_)
      ·replace h := bif_t h hc
       refine WI.region ?_
       replace h := bindS h
       obtain ⟨u2611, hu2611, h⟩ := h
       refine rno 4 [.run [] (Instr.indexAt 43 (sv ad2179 l2181 cap2180) (iv x2602)) (.pointer (some (slAddr ad2179 x2602 2))), .run [] (Instr.loadAt 25 (.pointer (some (slAddr ad2179 x2602 2)))) (.agg #[iv u2611.Lo, iv u2611.Hi])] 4 [(3, sv ad2176 l2178 cap2177), (4, sv ad2179 l2181 cap2180), (5, pb b2184), (6, iv x2602), (37, .agg #[iv u2611.Lo, iv u2611.Hi])] hF (ocons (obIdxQ (hS.arr (i := 1) rfl) (by kernel_rfl) (fun _ => hu2611)) (ocons (obElNQ (m := 2) (i := x2602) (us := [iv u2611.Lo, iv u2611.Hi]) 0 api_Span.cells_len (fun _ hd => ((hS.at_ hd).arr (i := 1) rfl)) (by kernel_rfl) (fun _ => hu2611) ⟨rfl, rfl⟩) onil)) fun a hF => ?_
       refine SK.wi (storeK (t := 25) [(3, sv ad2176 l2178 cap2177), (4, sv ad2179 l2181 cap2180), (5, pb b2184), (6, iv x2602)] 0 0 (.agg #[iv u2611.Lo, iv u2611.Hi]) #[iv u2611.Lo, iv u2611.Hi] hF hS rfl (by kernel_rfl) ⟨by kernel_rfl⟩ (by kernel_rfl) (by kernel_rfl) (by kernel_rfl) (by kernel_rfl) ⟨by kernel_rfl⟩ fun w a hF hS => ?_)
       refine WI.fin rfl (norm_block <| norm_then <| ?_)
       exact ⟨u2611.Lo, u2611.Hi, hF.sub (by kernel_rfl), St.pick [0, 1, 2, 3] (by decide) hS, h⟩
      ·replace h := bif_f h hc
       refine wpIn_skip (norm_block <| norm_then <| ?_)
       exact ⟨x2600, x2601, hF.sub (by kernel_rfl), St.pick [0, 1, 2, 3] (by decide) hS, h⟩
     rintro a w ⟨x2606, x2607, hF, hS, h⟩
     rw [ref03_united_K12] at h
     refine WI.region ?_
     replace h := bindS h
     obtain ⟨x2608, hx2608, h⟩ := h
     refine rno 3 [.run [] (binOp .add 3 (iv x2602) (iv 1)) (iv x2608)] 3 [(3, sv ad2176 l2178 cap2177), (4, sv ad2179 l2181 cap2180), (5, pb b2184), (6, iv x2608)] hF (ocons (obAddC (fun _ => hx2608)) onil) fun a hF => ?_
     refine wfn rfl ?_
     rw [hk11] at h
     exact ⟨nk11, Nat.lt_succ_self _, x2606, x2607, x2608, hF.sub (by kernel_rfl), St.pick [0, 1, 2, 3] (by decide) hS, h⟩
    ·replace h := bif_f h hc
     refine wpIn_exit (exit_then <| exit_then <| exit_hit <| norm_then ?_)
     exact ⟨x2600, x2601, hF.sub (by kernel_rfl), St.pick [0, 1, 2, 3] (by decide) hS, h⟩
   rintro a w ⟨x2216, x2217, hF, hS, h⟩
   rw [ref03_united_K3] at h
   refine ecut (fun a w => ∃ (x2334 : Int), Fr 96 [] [(3, sv ad2176 l2178 cap2177), (4, sv ad2179 l2181 cap2180), (5, pb b2184)] a ∧ St w0 [blk b2184 25 #[iv x2216, iv x2334], arr 25 2 api_Span.cells ad2179 l2181.length cap2180 l2181, arr 25 2 api_Span.cells ad2176 l2178.length cap2177 l2178, fz w0 μ] w ∧ ref03_united_K4 F l2178 l2181 k2 x2216 x2334 = some res) ?_ ?_
   ·skip
    refine esr ?_
    refine rn 1 1 [(3, sv ad2176 l2178 cap2177), (4, sv ad2179 l2181 cap2180), (5, pb b2184), (7, .bool true)] hF fun a hF => ?_
    refine wfn rfl ?_
    refine wpIn_block ?_
    refine eloop (fun n_ a w => ∃ (x2540 : Int) (c2541 : Bool), Fr 96 [] [(3, sv ad2176 l2178 cap2177), (4, sv ad2179 l2181 cap2180), (5, pb b2184), (7, .bool c2541)] a ∧ St w0 [blk b2184 25 #[iv x2216, iv x2540], arr 25 2 api_Span.cells ad2179 l2181.length cap2180 l2181, arr 25 2 api_Span.cells ad2176 l2178.length cap2177 l2178, fz w0 μ] w ∧ ref03_united_L8 F l2178 l2181 k2 x2216 n_ x2540 c2541 = some res) F ⟨x2217, true, hF.sub (by kernel_rfl), St.pick [0, 1, 2, 3] (by decide) hS, h⟩ ?_
    rintro nk8 a w ⟨x2540, c2541, hF, hS, h⟩
    rcases nk8 with _ | nk8
    ·cases (show (none : Option (List api_Span)) = some res from h)
    obtain ⟨k8, hk8⟩ : ∃ k, k = ref03_united_L8 F l2178 l2181 k2 x2216 nk8 := ⟨_, rfl⟩
    replace h : ref03_united_B8 F l2178 l2181 k2 x2216 k8 x2540 c2541 = some res := by rw [hk8]; exact h
    rw [ref03_united_B8] at h
    refine eseq ?_
    refine esr ?_
    refine rn 1 1 [(3, sv ad2176 l2178 cap2177), (4, sv ad2179 l2181 cap2180), (5, pb b2184), (38, .bool c2541)] hF fun a hF => ?_
    refine wfn rfl ?_
    refine econd hF rfl (fun hc => ?_) (fun hc => ?_)
    ·replace h := bif_t h hc
     refine wpIn_skip (norm_then ?_)
     refine wpIn_block ?_
     refine esr ?_
     refine rn 1 1 [(3, sv ad2176 l2178 cap2177), (4, sv ad2179 l2181 cap2180), (5, pb b2184), (7, .bool false)] hF fun a hF => ?_
     refine wfn rfl ?_
     refine esr ?_
     refine rn 1 1 [(3, sv ad2176 l2178 cap2177), (4, sv ad2179 l2181 cap2180), (5, pb b2184), (7, .bool false), (8, iv 0)] hF fun a hF => ?_
     refine wfn rfl ?_
     refine wpIn_block ?_
     refine eloop (fun n_ a w => ∃ (x2566 : Int) (c2567 : Bool) (x2568 : Int), Fr 96 [] [(3, sv ad2176 l2178 cap2177), (4, sv ad2179 l2181 cap2180), (5, pb b2184), (7, .bool c2567), (8, iv x2568)] a ∧ St w0 [blk b2184 25 #[iv x2216, iv x2566], arr 25 2 api_Span.cells ad2179 l2181.length cap2180 l2181, arr 25 2 api_Span.cells ad2176 l2178.length cap2177 l2178, fz w0 μ] w ∧ ref03_united_L9 l2181 k8 n_ x2566 c2567 x2568 = some res) F ⟨x2540, false, 0, hF.sub (by kernel_rfl), St.pick [0, 1, 2, 3] (by decide) hS, h⟩ ?_
     rintro nk9 a w ⟨x2566, c2567, x2568, hF, hS, h⟩
     rcases nk9 with _ | nk9
     ·cases (show (none : Option (List api_Span)) = some res from h)
     obtain ⟨k9, hk9⟩ : ∃ k, k = ref03_united_L9 l2181 k8 nk9 := ⟨_, rfl⟩
     replace h : ref03_united_B9 l2181 k8 k9 x2566 c2567 x2568 = some res := by rw [hk9]; exact h
     rw [ref03_united_B9] at h
     refine eseq ?_
     refine esr ?_
     refine rn 4 4 [(3, sv ad2176 l2178 cap2177), (4, sv ad2179 l2181 cap2180), (5, pb b2184), (7, .bool c2567), (8, iv x2568), (42, .bool (decide (x2568 < (ln l2181))))] hF fun a hF => ?_
     refine wfn rfl ?_
     refine econd hF rfl (fun hc => ?_) (fun hc => ?_)
     ·replace h := bif_t h hc
      refine wpIn_skip (norm_then ?_)
      refine ecut (fun a w => ∃ (x2573 : Int) (c2574 : Bool), Fr 96 [] [(3, sv ad2176 l2178 cap2177), (4, sv ad2179 l2181 cap2180), (5, pb b2184), (7, .bool c2574), (8, iv x2568)] a ∧ St w0 [blk b2184 25 #[iv x2216, iv x2573], arr 25 2 api_Span.cells ad2179 l2181.length cap2180 l2181, arr 25 2 api_Span.cells ad2176 l2178.length cap2177 l2178, fz w0 μ] w ∧ ref03_united_K10 x2568 k9 x2573 c2574 = some res) ?_ ?_
      ·skip
       refine wpIn_block ?_
       refine eseq ?_
       replace h := bindS h
       obtain ⟨u2577, hu2577, h⟩ := h
       replace h := bindS h
       obtain ⟨u2578, hu2578, h⟩ := h
       refine runD (obs := [.run [] (Instr.indexAt 43 (sv ad2179 l2181 cap2180) (iv x2568)) (.pointer (some (slAddr ad2179 x2568 2))), .run [] (Instr.loadAt 3 (.pointer (some (slAddr ad2179 x2568 2)))) (iv u2577.Lo), .run [] (Instr.loadAt 3 (.pointer (some ⟨b2184, 1, none⟩))) (iv x2566), .run [⟨53, true, (decide (u2577.Lo ≤ x2566))⟩] (Instr.indexAt 43 (sv ad2179 l2181 cap2180) (iv x2568)) (.pointer (some (slAddr ad2179 x2568 2))), .run [⟨53, true, (decide (u2577.Lo ≤ x2566))⟩] (Instr.loadAt 3 (.pointer (some ((slAddr ad2179 x2568 2).add 1)))) (iv u2578.Hi), .run [⟨53, true, (decide (u2577.Lo ≤ x2566))⟩] (Instr.loadAt 3 (.pointer (some ⟨b2184, 1, none⟩))) (iv x2566)]) 18 [(3, sv ad2176 l2178 cap2177), (4, sv ad2179 l2181 cap2180), (5, pb b2184), (7, .bool c2567), (8, iv x2568), (62, .bool (bif (decide (u2577.Lo ≤ x2566)) then (decide (u2578.Hi > x2566)) else false))] (by kernel_rfl) hF (by kernel_rfl) (ocons (obIdxQ (hS.arr (i := 1) rfl) (by kernel_rfl) (fun _ => hu2577)) (ocons (obElQ (i := x2568) 0 api_Span.cells_len (fun _ hd => ((hS.later hd).arr (i := 1) rfl)) (by kernel_rfl) (fun _ => hu2577) rfl) (ocons (ob1 (by kernel_rfl) (fun _ hd => (hS.later hd).cell (i := 0) (j := 1) rfl rfl)) (ocons (obIdxQ (hS.arr (i := 1) rfl) (by kernel_rfl) (fun hk => gd_some hu2578 hk)) (ocons (obElQ (i := x2568) 1 api_Span.cells_len (fun _ hd => ((hS.later hd).arr (i := 1) rfl)) (by kernel_rfl) (fun hk => gd_some hu2578 hk) rfl) (ocons (ob1 (by kernel_rfl) (fun _ hd => (hS.later hd).cell (i := 0) (j := 1) rfl rfl)) onil)))))) ⟨by kernel_rfl⟩ fun a w hF hx => ?_
       replace hS := hS.later hx
       refine wfn rfl ?_
       refine econd hF rfl (fun hc => ?_) (fun hc => ?_)
       ·replace h := bif_t h hc
        refine esr ?_
        replace h := bindS h
        obtain ⟨u2579, hu2579, h⟩ := h
        refine rno 6 [.run [] (Instr.indexAt 43 (sv ad2179 l2181 cap2180) (iv x2568)) (.pointer (some (slAddr ad2179 x2568 2))), .run [] (Instr.loadAt 3 (.pointer (some ((slAddr ad2179 x2568 2).add 1)))) (iv u2579.Hi)] 6 [(3, sv ad2176 l2178 cap2177), (4, sv ad2179 l2181 cap2180), (5, pb b2184), (8, iv x2568), (67, iv u2579.Hi), (68, .pointer (some ⟨b2184, 1, none⟩))] hF (ocons (obIdxQ (hS.arr (i := 1) rfl) (by kernel_rfl) (fun _ => hu2579)) (ocons (obElQ (i := x2568) 1 api_Span.cells_len (fun _ hd => ((hS.at_ hd).arr (i := 1) rfl)) (by kernel_rfl) (fun _ => hu2579) rfl) onil)) fun a hF => ?_
        refine SK.wi (storeK (t := 3) [(3, sv ad2176 l2178 cap2177), (4, sv ad2179 l2181 cap2180), (5, pb b2184), (8, iv x2568)] 0 1 (iv u2579.Hi) #[iv x2216, iv u2579.Hi] hF hS rfl (by kernel_rfl) ⟨by kernel_rfl⟩ (by kernel_rfl) (by kernel_rfl) (by kernel_rfl) (by kernel_rfl) ⟨by kernel_rfl⟩ fun w a hF hS => ?_)
        refine wfn rfl ?_
        refine WI.region ?_
        refine rn 1 1 [(3, sv ad2176 l2178 cap2177), (4, sv ad2179 l2181 cap2180), (5, pb b2184), (7, .bool true), (8, iv x2568)] hF fun a hF => ?_
        refine WI.fin rfl (norm_block <| norm_then <| ?_)
        exact ⟨u2579.Hi, true, hF.sub (by kernel_rfl), St.pick [0, 1, 2, 3] (by decide) hS, h⟩
       ·replace h := bif_f h hc
        refine wpIn_skip (norm_block <| norm_then <| ?_)
        exact ⟨x2566, c2567, hF.sub (by kernel_rfl), St.pick [0, 1, 2, 3] (by decide) hS, h⟩
      rintro a w ⟨x2573, c2574, hF, hS, h⟩
      rw [ref03_united_K10] at h
      refine WI.region ?_
      replace h := bindS h
      obtain ⟨x2575, hx2575, h⟩ := h
      refine rno 3 [.run [] (binOp .add 3 (iv x2568) (iv 1)) (iv x2575)] 3 [(3, sv ad2176 l2178 cap2177), (4, sv ad2179 l2181 cap2180), (5, pb b2184), (7, .bool c2574), (8, iv x2575)] hF (ocons (obAddC (fun _ => hx2575)) onil) fun a hF => ?_
      refine wfn rfl ?_
      rw [hk9] at h
      exact ⟨nk9, Nat.lt_succ_self _, x2573, c2574, x2575, hF.sub (by kernel_rfl), St.pick [0, 1, 2, 3] (by decide) hS, h⟩
     ·replace h := bif_f h hc
      refine wpIn_exit (exit_then <| exit_then <| exit_hit <| norm_block <| norm_then <| ?_)
      rw [hk8] at h
      exact ⟨nk8, Nat.lt_succ_self _, x2566, c2567, hF.sub (by kernel_rfl), St.pick [0, 1, 2, 3] (by decide) hS, h⟩
    ·replace h := bif_f h hc
     refine wpIn_exit (exit_then <| exit_then <| exit_hit <| norm_then ?_)
     exact ⟨x2540, hF.sub (by kernel_rfl), St.pick [0, 1, 2, 3] (by decide) hS, h⟩
   rintro a w ⟨x2334, hF, hS, h⟩
   rw [ref03_united_K4] at h
   refine esr ?_
   refine rn 1 1 [(3, sv ad2176 l2178 cap2177), (4, sv ad2179 l2181 cap2180), (5, pb b2184), (9, .slice none 0 0)] hF fun a hF => ?_
   refine wfn rfl ?_
   refine ecut (fun a w => ∃ (l2397 : (List api_Span)) (ad2395 : Option Addr) (cap2396 : Nat), Fr 96 [] [(3, sv ad2176 l2178 cap2177), (5, pb b2184), (9, sv ad2395 l2397 cap2396)] a ∧ St w0 [arr 25 2 api_Span.cells ad2395 l2397.length cap2396 l2397, blk b2184 25 #[iv x2216, iv x2334], arr 25 2 api_Span.cells ad2179 l2181.length cap2180 l2181, arr 25 2 api_Span.cells ad2176 l2178.length cap2177 l2178, fz w0 μ] w ∧ ref03_united_K5 l2178 k2 x2216 x2334 l2397 = some res) ?_ ?_
   ·skip
    refine esr ?_
    refine rn 1 1 [(3, sv ad2176 l2178 cap2177), (4, sv ad2179 l2181 cap2180), (5, pb b2184), (9, .slice none 0 0), (10, iv 0)] hF fun a hF => ?_
    refine wfn rfl ?_
    refine wpIn_block ?_
    replace hS := hS.nilarr 25 2 api_Span.cells
    refine eloop (fun n_ a w => ∃ (x2441 : Int) (l2444 : (List api_Span)) (ad2442 : Option Addr) (cap2443 : Nat), Fr 96 [] [(3, sv ad2176 l2178 cap2177), (4, sv ad2179 l2181 cap2180), (5, pb b2184), (9, sv ad2442 l2444 cap2443), (10, iv x2441)] a ∧ St w0 [arr 25 2 api_Span.cells ad2442 l2444.length cap2443 l2444, blk b2184 25 #[iv x2216, iv x2334], arr 25 2 api_Span.cells ad2179 l2181.length cap2180 l2181, arr 25 2 api_Span.cells ad2176 l2178.length cap2177 l2178, fz w0 μ] w ∧ ref03_united_L6 l2178 l2181 k2 x2216 x2334 n_ x2441 l2444 = some res) F ⟨0, [], none, 0, hF.sub (by kernel_rfl), St.pick [0, 1, 2, 3, 4] (by decide) hS, h⟩ ?_
    rintro nk6 a w ⟨x2441, l2444, ad2442, cap2443, hF, hS, h⟩
    rcases nk6 with _ | nk6
    ·cases (show (none : Option (List api_Span)) = some res from h)
    obtain ⟨k6, hk6⟩ : ∃ k, k = ref03_united_L6 l2178 l2181 k2 x2216 x2334 nk6 := ⟨_, rfl⟩
    replace h : ref03_united_B6 l2178 l2181 k2 x2216 x2334 k6 x2441 l2444 = some res := by rw [hk6]; exact h
    rw [ref03_united_B6] at h
    refine eseq ?_
    refine esr ?_
    refine rn 4 4 [(3, sv ad2176 l2178 cap2177), (4, sv ad2179 l2181 cap2180), (5, pb b2184), (9, sv ad2442 l2444 cap2443), (10, iv x2441), (72, .bool (decide (x2441 < (ln l2181))))] hF fun a hF => ?_
    refine wfn rfl ?_
    refine econd hF rfl (fun hc => ?_) (fun hc => ?_)
    ·replace h := bif_t h hc
     refine wpIn_skip (norm_then ?_)
     refine ecut (fun a w => ∃ (l2454 : (List api_Span)) (ad2452 : Option Addr) (cap2453 : Nat), Fr 96 [] [(3, sv ad2176 l2178 cap2177), (4, sv ad2179 l2181 cap2180), (5, pb b2184), (9, sv ad2452 l2454 cap2453), (10, iv x2441)] a ∧ St w0 [arr 25 2 api_Span.cells ad2452 l2454.length cap2453 l2454, blk b2184 25 #[iv x2216, iv x2334], arr 25 2 api_Span.cells ad2179 l2181.length cap2180 l2181, arr 25 2 api_Span.cells ad2176 l2178.length cap2177 l2178, fz w0 μ] w ∧ ref03_united_K7 x2441 k6 l2454 = some res) ?_ ?_
     ·skip
      refine wpIn_block ?_
      refine eseq ?_
      replace h := bindS h
      obtain ⟨u2457, hu2457, h⟩ := h
      refine runD (obs := [.run [] (Instr.indexAt 43 (sv ad2179 l2181 cap2180) (iv x2441)) (.pointer (some (slAddr ad2179 x2441 2))), .run [] (Instr.loadAt 3 (.pointer (some (slAddr ad2179 x2441 2)))) (iv u2457.Lo), .run [] (Instr.loadAt 3 (.pointer (some ⟨b2184, 1, none⟩))) (iv x2334)]) 8 [(3, sv ad2176 l2178 cap2177), (4, sv ad2179 l2181 cap2180), (5, pb b2184), (9, sv ad2442 l2444 cap2443), (10, iv x2441), (82, .bool (decide (u2457.Lo > x2334)))] (by kernel_rfl) hF (by kernel_rfl) (ocons (obIdxQ (hS.arr (i := 2) rfl) (by kernel_rfl) (fun _ => hu2457)) (ocons (obElQ (i := x2441) 0 api_Span.cells_len (fun _ hd => ((hS.later hd).arr (i := 2) rfl)) (by kernel_rfl) (fun _ => hu2457) rfl) (ocons (ob1 (by kernel_rfl) (fun _ hd => (hS.later hd).cell (i := 1) (j := 1) rfl rfl)) onil))) ⟨by kernel_rfl⟩ fun a w hF hx => ?_
      replace hS := hS.later hx
      refine wfn rfl ?_
      refine econd hF rfl (fun hc => ?_) (fun hc => ?_)
      ·replace h := bif_t h hc
       refine WI.region ?_
       replace h := bindS h
       obtain ⟨u2458, hu2458, h⟩ := h
       refine rno 5 [.run [] (Instr.indexAt 43 (sv ad2179 l2181 cap2180) (iv x2441)) (.pointer (some (slAddr ad2179 x2441 2))), .run [] (Instr.loadAt 25 (.pointer (some (slAddr ad2179 x2441 2)))) (.agg #[iv u2458.Lo, iv u2458.Hi])] 5 [(3, sv ad2176 l2178 cap2177), (4, sv ad2179 l2181 cap2180), (5, pb b2184), (9, sv ad2442 l2444 cap2443), (10, iv x2441), (83, sv ad2442 l2444 cap2443), (87, .agg #[iv u2458.Lo, iv u2458.Hi])] hF (ocons (obIdxQ (hS.arr (i := 2) rfl) (by kernel_rfl) (fun _ => hu2458)) (ocons (obElNQ (m := 2) (i := x2441) (us := [iv u2458.Lo, iv u2458.Hi]) 0 api_Span.cells_len (fun _ hd => ((hS.at_ hd).arr (i := 2) rfl)) (by kernel_rfl) (fun _ => hu2458) ⟨rfl, rfl⟩) onil)) fun a hF => ?_
       refine SK.wi (litK (e := 25) (sz := 2) (f := api_Span.cells) (t := 43) (len := 1) (fun b2459 => [(3, sv ad2176 l2178 cap2177), (4, sv ad2179 l2181 cap2180), (5, pb b2184), (9, sv ad2442 l2444 cap2443), (10, iv x2441), (83, sv ad2442 l2444 cap2443), (88, sb b2459 1)]) #[(0, .agg #[iv u2458.Lo, iv u2458.Hi])] #[iv u2458.Lo, iv u2458.Hi] ([u2458]) hF hS (by kernel_rfl) ⟨by kernel_rfl⟩ (by kernel_rfl) api_Span.cells_len rfl rfl (by kernel_rfl) (fun _ => ⟨by kernel_rfl⟩) fun b2459 w a hF hS => ?_)
       replace h := bindS h
       obtain ⟨l2460, hl2460, h⟩ := h
       refine SK.wi (appK (t := 43) (ty := 43) (bytes := 16) (l := l2444) (l' := ([u2458])) (fun ad2461 cap2462 => [(3, sv ad2176 l2178 cap2177), (4, sv ad2179 l2181 cap2180), (5, pb b2184), (9, sv ad2442 l2444 cap2443), (10, iv x2441), (89, sv ad2461 l2460 cap2462)]) 1 hF hS rfl (by kernel_rfl) ⟨by kernel_rfl⟩ (by kernel_rfl) (hS.arr (i := 0) rfl) (fun _ _ => rfl) hl2460 (fun _ _ => ⟨by kernel_rfl⟩) fun ad2461 cap2462 w a hF hS => ?_)
       refine rn 1 8 [(3, sv ad2176 l2178 cap2177), (4, sv ad2179 l2181 cap2180), (5, pb b2184), (9, sv ad2461 l2460 cap2462), (10, iv x2441)] hF fun a hF => ?_
       refine WI.fin rfl (norm_block <| norm_then <| ?_)
       exact ⟨l2460, ad2461, cap2462, hF.sub (by kernel_rfl), St.pick [1, 2, 3, 4, 5] (by decide) hS, h⟩
      ·replace h := bif_f h hc
       refine wpIn_skip (norm_block <| norm_then <| ?_)
       exact ⟨l2444, ad2442, cap2443, hF.sub (by kernel_rfl), St.pick [0, 1, 2, 3, 4] (by decide) hS, h⟩
     rintro a w ⟨l2454, ad2452, cap2453, hF, hS, h⟩
     rw [ref03_united_K7] at h
     refine WI.region ?_
     replace h := bindS h
     obtain ⟨x2455, hx2455, h⟩ := h
     refine rno 3 [.run [] (binOp .add 3 (iv x2441) (iv 1)) (iv x2455)] 3 [(3, sv ad2176 l2178 cap2177), (4, sv ad2179 l2181 cap2180), (5, pb b2184), (9, sv ad2452 l2454 cap2453), (10, iv x2455)] hF (ocons (obAddC (fun _ => hx2455)) onil) fun a hF => ?_
     refine wfn rfl ?_
     rw [hk6] at h
     exact ⟨nk6, Nat.lt_succ_self _, x2455, l2454, ad2452, cap2453, hF.sub (by kernel_rfl), St.pick [0, 1, 2, 3, 4] (by decide) hS, h⟩
    ·replace h := bif_f h hc
     refine wpIn_exit (exit_then <| exit_then <| exit_hit <| norm_then ?_)
     exact ⟨l2444, ad2442, cap2443, hF.sub (by kernel_rfl), St.pick [0, 1, 2, 3, 4] (by decide) hS, h⟩
   rintro a w ⟨l2397, ad2395, cap2396, hF, hS, h⟩
   rw [ref03_united_K5] at h
   refine esr ?_
   refine rno 2 [.run [] (Instr.loadAt 25 (pb b2184)) (.agg #[iv x2216, iv x2334])] 2 [(3, sv ad2176 l2178 cap2177), (9, sv ad2395 l2397 cap2396), (90, sv ad2176 l2178 cap2177), (91, .agg #[iv x2216, iv x2334])] hF (ocons (obN (us := [iv x2216, iv x2334]) (by kernel_rfl) (fun _ hd => ((hS.at_ hd).blk (i := 1) rfl).cells rfl)) onil) fun a hF => ?_
   refine SK.wi (litK (e := 25) (sz := 2) (f := api_Span.cells) (t := 43) (len := 1) (fun b2398 => [(3, sv ad2176 l2178 cap2177), (9, sv ad2395 l2397 cap2396), (90, sv ad2176 l2178 cap2177), (92, sb b2398 1)]) #[(0, .agg #[iv x2216, iv x2334])] #[iv x2216, iv x2334] ([(api_Span.mk x2216 x2334)]) hF hS (by kernel_rfl) ⟨by kernel_rfl⟩ (by kernel_rfl) api_Span.cells_len rfl rfl (by kernel_rfl) (fun _ => ⟨by kernel_rfl⟩) fun b2398 w a hF hS => ?_)
   replace h := bindS h
   obtain ⟨l2399, hl2399, h⟩ := h
   refine SK.wi (appK (t := 43) (ty := 43) (bytes := 16) (l := l2178) (l' := ([(api_Span.mk x2216 x2334)])) (fun ad2400 cap2401 => [(3, sv ad2176 l2178 cap2177), (9, sv ad2395 l2397 cap2396), (93, sv ad2400 l2399 cap2401)]) 4 hF hS rfl (by kernel_rfl) ⟨by kernel_rfl⟩ (by kernel_rfl) (hS.arr (i := 0) rfl) (fun _ _ => rfl) hl2399 (fun _ _ => ⟨by kernel_rfl⟩) fun ad2400 cap2401 w a hF hS => ?_)
   refine rn 1 5 [(3, sv ad2400 l2399 cap2401), (9, sv ad2395 l2397 cap2396)] hF fun a hF => ?_
   refine wfn rfl ?_
   refine WI.region ?_
   refine rn 2 2 [(3, sv ad2400 l2399 cap2401), (4, sv ad2395 l2397 cap2396)] hF fun a hF => ?_
   refine WI.fin rfl (norm_block <| norm_then <| ?_)
   rw [hk2] at h
   exact ⟨nk2, Nat.lt_succ_self _, l2399, l2397, ad2400, cap2401, ad2395, cap2396, hF.sub (by kernel_rfl), St.pick [1, 4, 5] (by decide) hS, h⟩
  ·replace h := bif_f h hc
   refine wpIn_exit (exit_then <| exit_then <| exit_hit <| norm_then ?_)
   exact ⟨l2178, ad2176, cap2177, hF.sub (by kernel_rfl), St.pick [1, 2] (by decide) hS, h⟩
 rintro a w ⟨l1310, ad1308, cap1309, hF, hS, h⟩
 rw [ref03_united_K1] at h
 refine esr ?_
 refine rn 2 2 [(2, sv ad1308 l1310 cap1309)] hF fun a hF => ?_
 refine wfn rfl ?_
 refine wpIn_ret (fn_ret [.tmp 2] [sv ad1308 l1310 cap1309] hF rfl ⟨rfl, trivial⟩ ?_)
 have hr_ := Option.some.inj h
 subst hr_
 exact ⟨_, _, rfl, St.pick [0] (by decide) hS⟩
end Go.Proofs.Ytbhjgebjojdohaa
