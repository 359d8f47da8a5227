/- Walks, written by program (wip/gen/dec.py). -/
import Derived.Test.YtbhjgebjojdohaaF3XD
import Derived.Test.YtbhjgebjojdohaaProg
namespace Go.Proofs.Ytbhjgebjojdohaa
open Go Go.RowKit Go.Eng
set_option maxRecDepth 10000
set_option maxHeartbeats 4000000
set_option linter.unusedVariables false
set_option linter.unusedSimpArgs false
theorem pulse_within_ok (p0 : Int) (p1 : Int) (p2 : Int) (res : Bool) (h : pulse_within p0 p1 p2 = res) (μ : Frz) (w0 : World) (hm : FrzAt μ w0) : Calls Try.prog 88 #[iv p0, iv p1, iv p2] w0 (fun e w => e = .returned (.bool res) ∧ Ext w0 w) := by
 obtain ⟨hlow, hS⟩ := hm.init
 have hext := Frz.ext_refl w0.heap.size μ
 rw [pulse_within] at h
 refine fn_enterW Try.func88 rfl 15 [(0, iv p0), (1, iv p1), (2, iv p2)] rfl rfl (by kernel_rfl) fun a w hw hF => ?_
 replace hS : St w0 [fz w0 μ] w := by rw [hw]; exact hS
 clear hw
 refine esr ?_
 refine rn 1 1 [(0, iv p0), (1, iv p1), (2, iv p2)] hF fun a hF => ?_
 refine wfn rfl ?_
 refine esr ?_
 refine rn 9 9 [(6, .bool (bif (decide (p1 ≤ p0)) then (decide (p0 ≤ p2)) else false))] hF fun a hF => ?_
 refine wfn rfl ?_
 refine wpIn_ret (fn_ret [.tmp 6] [.bool (bif (decide (p1 ≤ p0)) then (decide (p0 ≤ p2)) else false)] hF rfl ⟨rfl, trivial⟩ ?_)
 subst h
 exact ⟨rfl, hS.ext⟩

theorem pulse_CheckTrain_ok (F : Nat) (p0 : pulse_Train) (res : Int) (h : pulse_CheckTrain F p0 = some res) (μ : Frz) (w0 : World) (hm : FrzAt μ w0) : Calls Try.prog 50 #[p0.ag] w0 (fun e w => e = .returned (iv res) ∧ Ext w0 w) := by
 obtain ⟨hlow, hS⟩ := hm.init
 have hext := Frz.ext_refl w0.heap.size μ
 rw [pulse_CheckTrain] at h
 refine fn_enterW Try.func50 rfl 57 [(0, p0.ag)] rfl rfl (by kernel_rfl) fun a w hw hF => ?_
 replace hS : St w0 [fz w0 μ] w := by rw [hw]; exact hS
 clear hw
 refine esr ?_
 refine SK.wi (boxK (t := 33) (fun b1 => [(1, pb b1)]) (p0.ag) p0.ar hF hS (by kernel_rfl) ⟨by kernel_rfl⟩ (by kernel_rfl) (fun _ => ⟨by kernel_rfl⟩) fun b1 w a hF hS => ?_)
 refine rn 1 2 [(1, pb b1)] hF fun a hF => ?_
 refine wfn rfl ?_
 refine esr ?_
 refine rn 2 2 [(1, pb b1), (4, .bool true)] hF fun a hF => ?_
 refine wfn rfl ?_
 refine ecut (fun a w => ∃ (x3 : Int) (c4 : Bool), Fr 57 [] [(1, pb b1), (3, iv x3), (4, .bool c4)] a ∧ St w0 [blk b1 33 p0.ar, fz w0 μ] w ∧ pulse_CheckTrain_K1 p0 x3 c4 = some res) ?_ ?_
 ·skip
  refine esr ?_
  refine rno 2 [.run [] (Instr.loadAt 3 (.pointer (some ⟨b1, 1, none⟩))) (iv p0.Kind)] 2 [(1, pb b1), (4, .bool true), (6, iv p0.Kind)] hF (ocons (ob1 (by kernel_rfl) (fun _ hd => (hS.at_ hd).cell (i := 0) (j := 1) rfl rfl)) onil) fun a hF => ?_
  refine wfn rfl ?_
  refine wpIn_block ?_
  refine esr ?_
  refine rn 2 2 [(1, pb b1), (4, .bool true), (6, iv p0.Kind), (7, .bool (p0.Kind == 1))] hF fun a hF => ?_
  refine wfn rfl ?_
  refine econd hF rfl (fun hc => ?_) (fun hc => ?_)
  ·replace h := bif_t h hc
   refine runD (obs := [.run [] (Instr.loadAt 3 (.pointer (some ⟨b1, 3, none⟩))) (iv p0.Second)]) 5 [(1, pb b1), (3, iv 2), (4, .bool (p0.Second == 0))] (by kernel_rfl) hF (by kernel_rfl) (ocons (ob1 (by kernel_rfl) (fun _ hd => (hS.later hd).cell (i := 0) (j := 3) rfl rfl)) onil) ⟨by kernel_rfl⟩ fun a w hF hx => ?_
   replace hS := hS.later hx
   refine WI.fin rfl (norm_block <| norm_then <| ?_)
   exact ⟨2, p0.Second == 0, hF.sub (by kernel_rfl), St.pick [0, 1] (by decide) hS, h⟩
  ·replace h := bif_f h hc
   refine esr ?_
   refine rn 2 2 [(1, pb b1), (4, .bool true), (6, iv p0.Kind), (12, .bool (p0.Kind == 2))] hF fun a hF => ?_
   refine wfn rfl ?_
   refine econd hF rfl (fun hc => ?_) (fun hc => ?_)
   ·replace h := bif_t h hc
    replace h := bindS h
    obtain ⟨x8, hx8, h⟩ := h
    refine runD (obs := [.run [] (Instr.loadAt 3 (.pointer (some ⟨b1, 4, none⟩))) (iv p0.Count), .run [] (binOp .rem 3 (iv p0.Count) (iv 2)) (iv x8)]) 6 [(1, pb b1), (3, iv 4), (4, .bool (x8 == 0))] (by kernel_rfl) hF (by kernel_rfl) (ocons (ob1 (by kernel_rfl) (fun _ hd => (hS.later hd).cell (i := 0) (j := 4) rfl rfl)) (ocons (obRemC (fun _ => hx8)) onil)) ⟨by kernel_rfl⟩ fun a w hF hx => ?_
    replace hS := hS.later hx
    refine WI.fin rfl (norm_block <| norm_then <| ?_)
    exact ⟨4, x8 == 0, hF.sub (by kernel_rfl), St.pick [0, 1] (by decide) hS, h⟩
   ·replace h := bif_f h hc
    refine esr ?_
    refine rn 2 2 [(1, pb b1), (4, .bool true), (18, .bool (p0.Kind == 3))] hF fun a hF => ?_
    refine wfn rfl ?_
    refine econd hF rfl (fun hc => ?_) (fun hc => ?_)
    ·replace h := bif_t h hc
     refine WI.region ?_
     refine rn 1 1 [(1, pb b1), (3, iv 3), (4, .bool true)] hF fun a hF => ?_
     refine WI.fin rfl (norm_block <| norm_then <| ?_)
     exact ⟨3, true, hF.sub (by kernel_rfl), St.pick [0, 1] (by decide) hS, h⟩
    ·replace h := bif_f h hc
     refine esr ?_
     refine rn 1 1 [(2, iv 2)] hF fun a hF => ?_
     refine wfn rfl ?_
     refine wpIn_ret (ret_block <| ret_then <| fn_ret [.tmp 2] [iv 2] hF rfl ⟨rfl, trivial⟩ ?_)
     have hr_ := Option.some.inj h
     subst hr_
     exact ⟨rfl, hS.ext⟩
 rintro a w ⟨x3, c4, hF, hS, h⟩
 rw [pulse_CheckTrain_K1] at h
 refine ecut (fun a w => ∃ (c5 : Bool), Fr 57 [] [(1, pb b1), (3, iv x3), (4, .bool c5)] a ∧ St w0 [blk b1 33 p0.ar, fz w0 μ] w ∧ pulse_CheckTrain_K2 p0 x3 c5 = some res) ?_ ?_
 ·skip
  refine esr ?_
  refine rno 3 [.run [] (Instr.loadAt 3 (.pointer (some ⟨b1, 1, none⟩))) (iv p0.Kind)] 3 [(1, pb b1), (3, iv x3), (4, .bool c4), (22, .bool (p0.Kind != 1))] hF (ocons (ob1 (by kernel_rfl) (fun _ hd => (hS.at_ hd).cell (i := 0) (j := 1) rfl rfl)) onil) fun a hF => ?_
  refine wfn rfl ?_
  refine econd hF rfl (fun hc => ?_) (fun hc => ?_)
  ·replace h := bif_t h hc
   refine WI.region ?_
   refine rx 14 [.run [⟨24, true, c4⟩] (Instr.loadAt 3 (.pointer (some ⟨b1, 3, none⟩))) (iv p0.Second), .call [⟨24, true, c4⟩] 88 #[iv p0.Second, iv 200, iv 5000] (.bool (pulse_within p0.Second 200 5000)), .run [⟨29, true, (bif c4 then (pulse_within p0.Second 200 5000) else false)⟩] (Instr.loadAt 3 (.pointer (some ⟨b1, 2, none⟩))) (iv p0.First), .run [⟨29, true, (bif c4 then (pulse_within p0.Second 200 5000) else false)⟩] (Instr.loadAt 3 (.pointer (some ⟨b1, 3, none⟩))) (iv p0.Second)] 14 [(1, pb b1), (3, iv x3), (4, .bool (bif (bif c4 then (pulse_within p0.Second 200 5000) else false) then (decide (p0.First < p0.Second)) else false))] hF (ocons (ob1 (by kernel_rfl) (fun _ hd => (hS.later hd).cell (i := 0) (j := 3) rfl rfl)) (ocons (show Ob.ok _ Ext _ _ from fun hk w2 hd => pulse_within_ok p0.Second 200 5000 _ rfl _ w2 (memOf_at w2) ) (ocons (ob1 (by kernel_rfl) (fun _ hd => (hS.later hd).cell (i := 0) (j := 2) rfl rfl)) (ocons (ob1 (by kernel_rfl) (fun _ hd => (hS.later hd).cell (i := 0) (j := 3) rfl rfl)) onil)))) fun a w hF hx => ?_
   replace hS := hS.later hx
   refine wfn rfl ?_
   exact ⟨bif (bif c4 then (pulse_within p0.Second 200 5000) else false) then (decide (p0.First < p0.Second)) else false, hF.sub (by kernel_rfl), St.pick [0, 1] (by decide) hS, h⟩
  ·replace h := bif_f h hc
   refine wpIn_skip (norm_then ?_)
   exact ⟨c4, hF.sub (by kernel_rfl), St.pick [0, 1] (by decide) hS, h⟩
 rintro a w ⟨c5, hF, hS, h⟩
 rw [pulse_CheckTrain_K2] at h
 refine eseq ?_
 refine esr ?_
 refine rx 21 [.run [⟨38, false, (!c5)⟩] (Instr.loadAt 3 (pb b1)) (iv p0.Lambda), .call [⟨38, false, (!c5)⟩] 88 #[iv p0.Lambda, iv 10000, iv 1000000] (.bool (pulse_within p0.Lambda 10000 1000000)), .run [⟨44, false, (bif (!c5) then true else (!(pulse_within p0.Lambda 10000 1000000)))⟩] (Instr.loadAt 3 (.pointer (some ⟨b1, 2, none⟩))) (iv p0.First), .call [⟨44, false, (bif (!c5) then true else (!(pulse_within p0.Lambda 10000 1000000)))⟩] 88 #[iv p0.First, iv 200, iv 5000] (.bool (pulse_within p0.First 200 5000)), .run [⟨50, false, (bif (bif (!c5) then true else (!(pulse_within p0.Lambda 10000 1000000))) then true else (!(pulse_within p0.First 200 5000)))⟩] (Instr.loadAt 3 (.pointer (some ⟨b1, 4, none⟩))) (iv p0.Count), .call [⟨50, false, (bif (bif (!c5) then true else (!(pulse_within p0.Lambda 10000 1000000))) then true else (!(pulse_within p0.First 200 5000)))⟩] 88 #[iv p0.Count, iv x3, iv 64] (.bool (pulse_within p0.Count x3 64))] 21 [(56, .bool (bif (bif (bif (!c5) then true else (!(pulse_within p0.Lambda 10000 1000000))) then true else (!(pulse_within p0.First 200 5000))) then true else (!(pulse_within p0.Count x3 64))))] hF (ocons (ob1 (by kernel_rfl) (fun _ hd => (hS.later hd).cell (i := 0) (j := 0) rfl rfl)) (ocons (show Ob.ok _ Ext _ _ from fun hk w2 hd => pulse_within_ok p0.Lambda 10000 1000000 _ rfl _ w2 (memOf_at w2) ) (ocons (ob1 (by kernel_rfl) (fun _ hd => (hS.later hd).cell (i := 0) (j := 2) rfl rfl)) (ocons (show Ob.ok _ Ext _ _ from fun hk w2 hd => pulse_within_ok p0.First 200 5000 _ rfl _ w2 (memOf_at w2) ) (ocons (ob1 (by kernel_rfl) (fun _ hd => (hS.later hd).cell (i := 0) (j := 4) rfl rfl)) (ocons (show Ob.ok _ Ext _ _ from fun hk w2 hd => pulse_within_ok p0.Count x3 64 _ rfl _ w2 (memOf_at w2) ) onil)))))) fun a w hF hx => ?_
 replace hS := hS.later hx
 refine wfn rfl ?_
 refine econd hF rfl (fun hc => ?_) (fun hc => ?_)
 ·replace h := bif_t h hc
  refine esr ?_
  refine rn 1 1 [(2, iv 3)] hF fun a hF => ?_
  refine wfn rfl ?_
  refine wpIn_ret (ret_then <| fn_ret [.tmp 2] [iv 3] hF rfl ⟨rfl, trivial⟩ ?_)
  have hr_ := Option.some.inj h
  subst hr_
  exact ⟨rfl, hS.ext⟩
 ·replace h := bif_f h hc
  refine wpIn_skip (norm_then ?_)
  refine esr ?_
  refine rn 1 1 [(2, iv 0)] hF fun a hF => ?_
  refine wfn rfl ?_
  refine wpIn_ret (fn_ret [.tmp 2] [iv 0] hF rfl ⟨rfl, trivial⟩ ?_)
  have hr_ := Option.some.inj h
  subst hr_
  exact ⟨rfl, hS.ext⟩

theorem pulse_inside_ok (p0 : api_Span) (p1 : Int) (p2 : Int) (res : Bool) (h : pulse_inside p0 p1 p2 = res) (μ : Frz) (w0 : World) (hm : FrzAt μ w0) : Calls Try.prog 89 #[.agg #[iv p0.Lo, iv p0.Hi], iv p1, iv p2] w0 (fun e w => e = .returned (.bool res) ∧ Ext w0 w) := by
 obtain ⟨hlow, hS⟩ := hm.init
 have hext := Frz.ext_refl w0.heap.size μ
 rw [pulse_inside] at h
 refine fn_enterW Try.func89 rfl 24 [(0, .agg #[iv p0.Lo, iv p0.Hi]), (1, iv p1), (2, iv p2)] rfl rfl (by kernel_rfl) fun a w hw hF => ?_
 replace hS : St w0 [fz w0 μ] w := by rw [hw]; exact hS
 clear hw
 refine esr ?_
 refine SK.wi (boxK (t := 25) (fun b1 => [(1, iv p1), (2, iv p2), (3, pb b1)]) (.agg #[iv p0.Lo, iv p0.Hi]) #[iv p0.Lo, iv p0.Hi] hF hS (by kernel_rfl) ⟨by kernel_rfl⟩ (by kernel_rfl) (fun _ => ⟨by kernel_rfl⟩) fun b1 w a hF hS => ?_)
 refine rn 1 2 [(1, iv p1), (2, iv p2), (3, pb b1)] hF fun a hF => ?_
 refine wfn rfl ?_
 refine esr ?_
 refine rno 18 [.run [] (Instr.loadAt 3 (pb b1)) (iv p0.Lo), .run [⟨11, true, (decide (p1 ≤ p0.Lo))⟩] (Instr.loadAt 3 (pb b1)) (iv p0.Lo), .run [⟨11, true, (decide (p1 ≤ p0.Lo))⟩] (Instr.loadAt 3 (.pointer (some ⟨b1, 1, none⟩))) (iv p0.Hi), .run [⟨18, true, (bif (decide (p1 ≤ p0.Lo)) then (decide (p0.Lo ≤ p0.Hi)) else false)⟩] (Instr.loadAt 3 (.pointer (some ⟨b1, 1, none⟩))) (iv p0.Hi)] 18 [(6, .bool (bif (bif (decide (p1 ≤ p0.Lo)) then (decide (p0.Lo ≤ p0.Hi)) else false) then (decide (p0.Hi ≤ p2)) else false))] hF (ocons (ob1 (by kernel_rfl) (fun _ hd => (hS.at_ hd).cell (i := 0) (j := 0) rfl rfl)) (ocons (ob1 (by kernel_rfl) (fun _ hd => (hS.at_ hd).cell (i := 0) (j := 0) rfl rfl)) (ocons (ob1 (by kernel_rfl) (fun _ hd => (hS.at_ hd).cell (i := 0) (j := 1) rfl rfl)) (ocons (ob1 (by kernel_rfl) (fun _ hd => (hS.at_ hd).cell (i := 0) (j := 1) rfl rfl)) onil)))) fun a hF => ?_
 refine wfn rfl ?_
 refine wpIn_ret (fn_ret [.tmp 6] [.bool (bif (bif (decide (p1 ≤ p0.Lo)) then (decide (p0.Lo ≤ p0.Hi)) else false) then (decide (p0.Hi ≤ p2)) else false)] hF rfl ⟨rfl, trivial⟩ ?_)
 subst h
 exact ⟨rfl, hS.ext⟩

theorem pulse_turning_ok (F : Nat) (p0 : (List api_Span)) (res : Bool) (h : pulse_turning F p0 = some res) (μ : Frz) (w0 : World) (hm : FrzAt μ w0) {ad1 : Option Addr} {cap2 : Nat} (hA3 : ArrM μ 2 api_Span.cells ad1 cap2 p0) : Calls Try.prog 90 #[sv ad1 p0 cap2] w0 (fun e w => e = .returned (.bool res) ∧ Ext w0 w) := by
 obtain ⟨hlow, hS⟩ := hm.init
 have hext := Frz.ext_refl w0.heap.size μ
 rw [pulse_turning] at h
 refine fn_enterW Try.func90 rfl 28 [(0, sv ad1 p0 cap2)] rfl rfl (by kernel_rfl) fun a w hw hF => ?_
 replace hS : St w0 [fz w0 μ] w := by rw [hw]; exact hS
 clear hw
 refine esr ?_
 refine rn 1 1 [(0, sv ad1 p0 cap2)] hF fun a hF => ?_
 refine wfn rfl ?_
 refine ecut (fun a w => Fr 28 [] [] a ∧ St w0 [fz w0 μ] w ∧ pulse_turning_K1 = some res) ?_ ?_
 ·skip
  refine esr ?_
  refine rn 3 3 [(5, sv ad1 p0 cap2), (6, iv (ln p0)), (7, iv 0)] hF fun a hF => ?_
  refine wfn rfl ?_
  refine wpIn_block ?_
  refine eloop (fun n_ a w => ∃ (x34 : Int), Fr 28 [] [(5, sv ad1 p0 cap2), (6, iv (ln p0)), (7, iv x34)] a ∧ St w0 [fz w0 μ] w ∧ pulse_turning_L2 p0 n_ x34 = some res) F ⟨0, hF.sub (by kernel_rfl), St.pick [0] (by decide) hS, h⟩ ?_
  rintro n_ a w ⟨x34, hF, hS, h⟩
  rcases n_ with _ | n_
  ·cases (show (none : Option Bool) = some res from h)
  obtain ⟨k2, hk2⟩ : ∃ k, k = pulse_turning_L2 p0 n_ := ⟨_, rfl⟩
  replace h : pulse_turning_B2 p0 k2 x34 = some res := by rw [hk2]; exact h
  rw [pulse_turning_B2] at h
  refine esr ?_
  refine rn 1 1 [(5, sv ad1 p0 cap2), (6, iv (ln p0)), (7, iv x34), (8, .bool (decide (x34 < (ln p0))))] hF fun a hF => ?_
  refine wfn rfl ?_
  refine eseq ?_
  refine econd hF rfl (fun hc => ?_) (fun hc => ?_)
  ·replace h := bif_t h hc
   refine wpIn_skip (norm_then ?_)
   refine eseq ?_
   refine wpIn_block ?_
   refine esr ?_
   replace h := bindS h
   obtain ⟨u36, hu36, h⟩ := h
   refine rno 2 [.run [] (Instr.indexAt 43 (sv ad1 p0 cap2) (iv x34)) (.pointer (some (slAddr ad1 x34 2))), .run [] (Instr.loadAt 25 (.pointer (some (slAddr ad1 x34 2)))) (.agg #[iv u36.Lo, iv u36.Hi])] 2 [(5, sv ad1 p0 cap2), (6, iv (ln p0)), (7, iv x34), (10, .agg #[iv u36.Lo, iv u36.Hi])] hF (ocons (obIdxQ (hA3 _ (hS.frz (i := 0) rfl hlow)) (by kernel_rfl) (fun _ => hu36)) (ocons (obElNQ (m := 2) (i := x34) (us := [iv u36.Lo, iv u36.Hi]) 0 api_Span.cells_len (fun _ hd => (hA3 _ ((hS.at_ hd).frz (i := 0) rfl hlow))) (by kernel_rfl) (fun _ => hu36) ⟨rfl, rfl⟩) onil)) fun a hF => ?_
   refine SK.wi (allocK (t := 25) (fun b37 => [(4, pb b37), (5, sv ad1 p0 cap2), (6, iv (ln p0)), (7, iv x34), (10, .agg #[iv u36.Lo, iv u36.Hi])]) #[iv 0, iv 0] hF hS (by kernel_rfl) ⟨by kernel_rfl⟩ (by kernel_rfl) (fun _ => ⟨by kernel_rfl⟩) fun b37 w a hF hS => ?_)
   refine SK.wi (storeK (t := 25) [(4, pb b37), (5, sv ad1 p0 cap2), (6, iv (ln p0)), (7, iv x34)] 0 0 (.agg #[iv u36.Lo, iv u36.Hi]) #[iv u36.Lo, iv u36.Hi] hF hS rfl (by kernel_rfl) ⟨by kernel_rfl⟩ (by kernel_rfl) (by kernel_rfl) (by kernel_rfl) (by kernel_rfl) ⟨by kernel_rfl⟩ fun w a hF hS => ?_)
   refine wfn rfl ?_
   refine esr ?_
   replace h := bindS h
   obtain ⟨x38, hx38, h⟩ := h
   replace h := bindS h
   obtain ⟨x39, hx39, h⟩ := h
   refine rx 16 [.run [] (Instr.loadAt 3 (pb b37)) (iv u36.Lo), .call [] 88 #[iv u36.Lo, iv (-32768), iv 32767] (.bool (pulse_within u36.Lo (-32768) 32767)), .run [⟨15, false, (!(pulse_within u36.Lo (-32768) 32767))⟩] (Instr.loadAt 3 (.pointer (some ⟨b37, 1, none⟩))) (iv u36.Hi), .run [⟨15, false, (!(pulse_within u36.Lo (-32768) 32767))⟩] (Instr.loadAt 3 (pb b37)) (iv u36.Lo), .run [⟨15, false, (!(pulse_within u36.Lo (-32768) 32767))⟩] (Instr.loadAt 3 (pb b37)) (iv u36.Lo), .run [⟨15, false, (!(pulse_within u36.Lo (-32768) 32767))⟩] (binOp .add 3 (iv u36.Lo) (iv 65536)) (iv x38), .run [⟨15, false, (!(pulse_within u36.Lo (-32768) 32767))⟩] (binOp .sub 3 (iv x38) (iv 1)) (iv x39), .call [⟨15, false, (!(pulse_within u36.Lo (-32768) 32767))⟩] 88 #[iv u36.Hi, iv u36.Lo, iv x39] (.bool (pulse_within u36.Hi u36.Lo x39))] 16 [(5, sv ad1 p0 cap2), (6, iv (ln p0)), (7, iv x34), (26, .bool (bif (!(pulse_within u36.Lo (-32768) 32767)) then true else (!(pulse_within u36.Hi u36.Lo x39))))] hF (ocons (ob1 (by kernel_rfl) (fun _ hd => (hS.later hd).cell (i := 0) (j := 0) rfl rfl)) (ocons (show Ob.ok _ Ext _ _ from fun hk w2 hd => pulse_within_ok u36.Lo (-32768) 32767 _ rfl _ w2 (memOf_at w2) ) (ocons (ob1 (by kernel_rfl) (fun _ hd => (hS.later hd).cell (i := 0) (j := 1) rfl rfl)) (ocons (ob1 (by kernel_rfl) (fun _ hd => (hS.later hd).cell (i := 0) (j := 0) rfl rfl)) (ocons (ob1 (by kernel_rfl) (fun _ hd => (hS.later hd).cell (i := 0) (j := 0) rfl rfl)) (ocons (obAddC (fun hk => gd_some hx38 hk)) (ocons (obSubC (fun hk => gd_some hx39 hk)) (ocons (show Ob.ok _ Ext _ _ from fun hk w2 hd => pulse_within_ok u36.Hi u36.Lo x39 _ rfl _ w2 (memOf_at w2) ) onil)))))))) fun a w hF hx => ?_
   replace hS := hS.later hx
   refine wfn rfl ?_
   refine econd hF rfl (fun hc => ?_) (fun hc => ?_)
   ·replace h := bif_t h hc
    refine esr ?_
    refine rn 1 1 [(2, .bool false)] hF fun a hF => ?_
    refine wfn rfl ?_
    refine wpIn_ret (ret_block <| ret_then <| ret_then <| ret_block <| ret_then <| fn_ret [.tmp 2] [.bool false] hF rfl ⟨rfl, trivial⟩ ?_)
    have hr_ := Option.some.inj h
    subst hr_
    exact ⟨rfl, hS.ext⟩
   ·replace h := bif_f h hc
    refine wpIn_skip (norm_block <| norm_then <| ?_)
    refine WI.region ?_
    replace h := bindS h
    obtain ⟨x40, hx40, h⟩ := h
    refine rno 2 [.run [] (binOp .add 3 (iv x34) (iv 1)) (iv x40)] 2 [(5, sv ad1 p0 cap2), (6, iv (ln p0)), (7, iv x40)] hF (ocons (obAddC (fun _ => hx40)) onil) fun a hF => ?_
    refine wfn rfl ?_
    rw [hk2] at h
    exact ⟨n_, Nat.lt_succ_self _, x40, hF.sub (by kernel_rfl), St.pick [1] (by decide) hS, h⟩
  ·replace h := bif_f h hc
   refine wpIn_exit (exit_then <| exit_then <| exit_hit <| norm_then ?_)
   exact ⟨hF.sub (by kernel_rfl), St.pick [0] (by decide) hS, h⟩
 rintro a w ⟨hF, hS, h⟩
 rw [pulse_turning_K1] at h
 refine esr ?_
 refine rn 1 1 [(2, .bool true)] hF fun a hF => ?_
 refine wfn rfl ?_
 refine wpIn_ret (fn_ret [.tmp 2] [.bool true] hF rfl ⟨rfl, trivial⟩ ?_)
 have hr_ := Option.some.inj h
 subst hr_
 exact ⟨rfl, hS.ext⟩

theorem fold_bound_ok (p0 : Int) (res : Bool) (h : fold_bound p0 = res) (μ : Frz) (w0 : World) (hm : FrzAt μ w0) : Calls Try.prog 52 #[iv p0] w0 (fun e w => e = .returned (.bool res) ∧ Ext w0 w) := by
 obtain ⟨hlow, hS⟩ := hm.init
 have hext := Frz.ext_refl w0.heap.size μ
 rw [fold_bound] at h
 refine fn_enterW Try.func52 rfl 9 [(0, iv p0)] rfl rfl (by kernel_rfl) fun a w hw hF => ?_
 replace hS : St w0 [fz w0 μ] w := by rw [hw]; exact hS
 clear hw
 refine esr ?_
 refine rn 1 1 [(0, iv p0)] hF fun a hF => ?_
 refine wfn rfl ?_
 refine esr ?_
 refine rn 7 7 [(2, .bool (bif (decide (p0 ≥ 1)) then (decide (p0 ≤ 200000)) else false))] hF fun a hF => ?_
 refine wfn rfl ?_
 refine wpIn_ret (fn_ret [.tmp 2] [.bool (bif (decide (p0 ≥ 1)) then (decide (p0 ≤ 200000)) else false)] hF rfl ⟨rfl, trivial⟩ ?_)
 subst h
 exact ⟨rfl, hS.ext⟩

theorem fold_common_ok (p0 : api_Span) (p1 : api_Span) (res : (api_Span × Bool)) (h : fold_common p0 p1 = res) (μ : Frz) (w0 : World) (hm : FrzAt μ w0) : Calls Try.prog 92 #[.agg #[iv p0.Lo, iv p0.Hi], .agg #[iv p1.Lo, iv p1.Hi]] w0 (fun e w => e = .returned (.tuple #[.agg #[iv res.1.Lo, iv res.1.Hi], .bool res.2]) ∧ Ext w0 w) := by
 obtain ⟨hlow, hS⟩ := hm.init
 have hext := Frz.ext_refl w0.heap.size μ
 rw [fold_common] at h
 refine fn_enterW Try.func92 rfl 24 [(0, .agg #[iv p0.Lo, iv p0.Hi]), (1, .agg #[iv p1.Lo, iv p1.Hi])] rfl rfl (by kernel_rfl) fun a w hw hF => ?_
 replace hS : St w0 [fz w0 μ] w := by rw [hw]; exact hS
 clear hw
 refine esr ?_
 refine SK.wi (boxK (t := 25) (fun b1 => [(1, .agg #[iv p1.Lo, iv p1.Hi]), (2, pb b1)]) (.agg #[iv p0.Lo, iv p0.Hi]) #[iv p0.Lo, iv p0.Hi] hF hS (by kernel_rfl) ⟨by kernel_rfl⟩ (by kernel_rfl) (fun _ => ⟨by kernel_rfl⟩) fun b1 w a hF hS => ?_)
 refine SK.wi (boxK (t := 25) (fun b2 => [(2, pb b1), (3, pb b2)]) (.agg #[iv p1.Lo, iv p1.Hi]) #[iv p1.Lo, iv p1.Hi] hF hS (by kernel_rfl) ⟨by kernel_rfl⟩ (by kernel_rfl) (fun _ => ⟨by kernel_rfl⟩) fun b2 w a hF hS => ?_)
 refine SK.wi (allocK (t := 25) (fun b3 => [(2, pb b1), (3, pb b2), (4, pb b3)]) #[iv 0, iv 0] hF hS (by kernel_rfl) ⟨by kernel_rfl⟩ (by kernel_rfl) (fun _ => ⟨by kernel_rfl⟩) fun b3 w a hF hS => ?_)
 refine rn 1 4 [(2, pb b1), (3, pb b2), (4, pb b3)] hF fun a hF => ?_
 refine wfn rfl ?_
 refine esr ?_
 refine rno 11 [.run [] (Instr.loadAt 3 (pb b1)) (iv p0.Lo), .run [] (Instr.loadAt 3 (pb b2)) (iv p1.Lo), .run [] (Instr.loadAt 3 (.pointer (some ⟨b1, 1, none⟩))) (iv p0.Hi), .run [] (Instr.loadAt 3 (.pointer (some ⟨b2, 1, none⟩))) (iv p1.Hi)] 11 [(4, pb b3), (17, .agg #[iv (if p1.Lo > p0.Lo then p1.Lo else p0.Lo), iv (if p1.Hi < p0.Hi then p1.Hi else p0.Hi)])] hF (ocons (ob1 (by kernel_rfl) (fun _ hd => (hS.at_ hd).cell (i := 2) (j := 0) rfl rfl)) (ocons (ob1 (by kernel_rfl) (fun _ hd => (hS.at_ hd).cell (i := 1) (j := 0) rfl rfl)) (ocons (ob1 (by kernel_rfl) (fun _ hd => (hS.at_ hd).cell (i := 2) (j := 1) rfl rfl)) (ocons (ob1 (by kernel_rfl) (fun _ hd => (hS.at_ hd).cell (i := 1) (j := 1) rfl rfl)) onil)))) fun a hF => ?_
 refine SK.wi (allocK (t := 25) (fun b4 => [(4, pb b3), (6, pb b4), (17, .agg #[iv (if p1.Lo > p0.Lo then p1.Lo else p0.Lo), iv (if p1.Hi < p0.Hi then p1.Hi else p0.Hi)])]) #[iv 0, iv 0] hF hS (by kernel_rfl) ⟨by kernel_rfl⟩ (by kernel_rfl) (fun _ => ⟨by kernel_rfl⟩) fun b4 w a hF hS => ?_)
 refine SK.wi (storeK (t := 25) [(4, pb b3), (6, pb b4)] 0 0 (.agg #[iv (if p1.Lo > p0.Lo then p1.Lo else p0.Lo), iv (if p1.Hi < p0.Hi then p1.Hi else p0.Hi)]) #[iv (if p1.Lo > p0.Lo then p1.Lo else p0.Lo), iv (if p1.Hi < p0.Hi then p1.Hi else p0.Hi)] hF hS rfl (by kernel_rfl) ⟨by kernel_rfl⟩ (by kernel_rfl) (by kernel_rfl) (by kernel_rfl) (by kernel_rfl) ⟨by kernel_rfl⟩ fun w a hF hS => ?_)
 refine wfn rfl ?_
 refine eseq ?_
 refine region_treeW 8 [6] _ (D := fun w => St w0 [blk b4 25 #[iv (if p1.Lo > p0.Lo then p1.Lo else p0.Lo), iv (if p1.Hi < p0.Hi then p1.Hi else p0.Hi)], blk b2 25 #[iv p1.Lo, iv p1.Hi], blk b1 25 #[iv p0.Lo, iv p0.Hi]] w ∧ FrzAt μ w) (by kernel_rfl) (by kernel_rfl) hF.size (fun w hx => ?_) (fun _ _ h => h)
 replace hS := hS.later hx
 refine ⟨⟨St.pick [0, 2, 3] (by decide) hS, hS.frz (i := 4) rfl hlow⟩, ?_⟩
 have hcl5 := Frz.le_refl μ
 refine WT.s [0, 1, 2, 3, 4, 5] [6] (by kernel_rfl) (by kernel_rfl) ?_
 refine runC (rest := []) (obs := [.run [] (Instr.loadAt 25 (pb b4)) (.agg #[iv (if p1.Lo > p0.Lo then p1.Lo else p0.Lo), iv (if p1.Hi < p0.Hi then p1.Hi else p0.Hi)]), .run [] (Instr.loadAt 3 (pb b4)) (iv (if p1.Lo > p0.Lo then p1.Lo else p0.Lo)), .run [] (Instr.loadAt 3 (.pointer (some ⟨b4, 1, none⟩))) (iv (if p1.Hi < p0.Hi then p1.Hi else p0.Hi))]) [0, 1, 2, 3, 4, 5] [(4, pb b3), (18, .agg #[iv (if p1.Lo > p0.Lo then p1.Lo else p0.Lo), iv (if p1.Hi < p0.Hi then p1.Hi else p0.Hi)]), (23, .bool (decide ((if p1.Lo > p0.Lo then p1.Lo else p0.Lo) ≤ (if p1.Hi < p0.Hi then p1.Hi else p0.Hi))))] hF (by kernel_rfl) (by kernel_rfl) (ocons (obN (us := [iv (if p1.Lo > p0.Lo then p1.Lo else p0.Lo), iv (if p1.Hi < p0.Hi then p1.Hi else p0.Hi)]) (by kernel_rfl) (fun _ hd => (hd.1.blk (i := 0) rfl).cells rfl)) (ocons (ob1 (by kernel_rfl) (fun _ hd => hd.1.cell (i := 0) (j := 0) rfl rfl)) (ocons (ob1 (by kernel_rfl) (fun _ hd => hd.1.cell (i := 0) (j := 1) rfl rfl)) onil))) ⟨by kernel_rfl⟩ fun a hF => ?_
 refine WRun.fin ?_
 refine all_cons ?_ (all_nil)
 refine storeK (t := 25) [(4, pb b3), (23, .bool (decide ((if p1.Lo > p0.Lo then p1.Lo else p0.Lo) ≤ (if p1.Hi < p0.Hi then p1.Hi else p0.Hi))))] 1 0 (.agg #[iv (if p1.Lo > p0.Lo then p1.Lo else p0.Lo), iv (if p1.Hi < p0.Hi then p1.Hi else p0.Hi)]) #[iv (if p1.Lo > p0.Lo then p1.Lo else p0.Lo), iv (if p1.Hi < p0.Hi then p1.Hi else p0.Hi)] hF hS rfl (by kernel_rfl) ⟨by kernel_rfl⟩ (by kernel_rfl) (by kernel_rfl) (by kernel_rfl) (by kernel_rfl) ⟨by kernel_rfl⟩ fun w a hF hS => ⟨⟨St.pick [0, 2, 3] (by decide) hS, (hS.frz (i := 4) rfl hlow)⟩, ?_⟩
 refine WT.z [7] (by kernel_rfl) ?_
 refine runC (rest := []) (obs := []) [7] [(4, pb b3), (5, .bool (decide ((if p1.Lo > p0.Lo then p1.Lo else p0.Lo) ≤ (if p1.Hi < p0.Hi then p1.Hi else p0.Hi))))] hF (by kernel_rfl) (by kernel_rfl) onil ⟨by kernel_rfl⟩ fun a hF => ?_
 refine WRun.fin ?_
 refine wfn rfl ?_
 refine wpIn_ret (fn_ret [.cell 4 25, .tmp 5] [.agg #[iv (if p1.Lo > p0.Lo then p1.Lo else p0.Lo), iv (if p1.Hi < p0.Hi then p1.Hi else p0.Hi)], .bool (decide ((if p1.Lo > p0.Lo then p1.Lo else p0.Lo) ≤ (if p1.Hi < p0.Hi then p1.Hi else p0.Hi)))] hF rfl ⟨⟨_, rfl, loadVarN (cs := [iv (if p1.Lo > p0.Lo then p1.Lo else p0.Lo), iv (if p1.Hi < p0.Hi then p1.Hi else p0.Hi)]) (by kernel_rfl) ((hS.blk (i := 1) rfl).cells rfl)⟩, rfl, trivial⟩ ?_)
 subst h
 exact ⟨rfl, hS.ext⟩

theorem pulse_down_ok (F : Nat) (p0 : Int) (p1 : Int) (res : Int) (h : pulse_down F p0 p1 = some res) (μ : Frz) (w0 : World) (hm : FrzAt μ w0) : Calls Try.prog 141 #[iv p0, iv p1] w0 (fun e w => e = .returned (iv res) ∧ Ext w0 w) := by
 obtain ⟨hlow, hS⟩ := hm.init
 have hext := Frz.ext_refl w0.heap.size μ
 rw [pulse_down] at h
 refine fn_enterW Try.func141 rfl 17 [(0, iv p0), (1, iv p1)] rfl rfl (by kernel_rfl) fun a w hw hF => ?_
 replace hS : St w0 [fz w0 μ] w := by rw [hw]; exact hS
 clear hw
 refine esr ?_
 refine rn 1 1 [(0, iv p0), (1, iv p1)] hF fun a hF => ?_
 refine wfn rfl ?_
 refine esr ?_
 replace h := bindS h
 obtain ⟨x1, hx1, h⟩ := h
 refine rno 4 [.run [] (binOp .quo 3 (iv p0) (iv p1)) (iv x1)] 4 [(0, iv p0), (1, iv p1), (5, iv x1)] hF (ocons (obQuoC (fun _ => hx1)) onil) fun a hF => ?_
 refine wfn rfl ?_
 refine eseq ?_
 refine esr ?_
 replace h := bindS h
 obtain ⟨x2, hx2, h⟩ := h
 refine rno 5 [.run [] (binOp .mul 3 (iv x1) (iv p1)) (iv x2)] 5 [(5, iv x1), (13, .bool (decide (x2 > p0)))] hF (ocons (obMulC (fun _ => hx2)) onil) fun a hF => ?_
 refine wfn rfl ?_
 refine econd hF rfl (fun hc => ?_) (fun hc => ?_)
 ·replace h := bif_t h hc
  refine WI.region ?_
  replace h := bindS h
  obtain ⟨x3, hx3, h⟩ := h
  refine rno 3 [.run [] (binOp .sub 3 (iv x1) (iv 1)) (iv x3)] 3 [(5, iv x3)] hF (ocons (obSubC (fun _ => hx3)) onil) fun a hF => ?_
  refine wfn rfl ?_
  refine esr ?_
  refine rn 2 2 [(4, iv x3)] hF fun a hF => ?_
  refine wfn rfl ?_
  refine wpIn_ret (fn_ret [.tmp 4] [iv x3] hF rfl ⟨rfl, trivial⟩ ?_)
  have hr_ := Option.some.inj h
  subst hr_
  exact ⟨rfl, hS.ext⟩
 ·replace h := bif_f h hc
  refine wpIn_skip (norm_then ?_)
  refine esr ?_
  refine rn 2 2 [(4, iv x1)] hF fun a hF => ?_
  refine wfn rfl ?_
  refine wpIn_ret (fn_ret [.tmp 4] [iv x1] hF rfl ⟨rfl, trivial⟩ ?_)
  have hr_ := Option.some.inj h
  subst hr_
  exact ⟨rfl, hS.ext⟩

theorem pulse_up_ok (F : Nat) (p0 : Int) (p1 : Int) (res : Int) (h : pulse_up F p0 p1 = some res) (μ : Frz) (w0 : World) (hm : FrzAt μ w0) : Calls Try.prog 142 #[iv p0, iv p1] w0 (fun e w => e = .returned (iv res) ∧ Ext w0 w) := by
 obtain ⟨hlow, hS⟩ := hm.init
 have hext := Frz.ext_refl w0.heap.size μ
 rw [pulse_up] at h
 refine fn_enterW Try.func142 rfl 10 [(0, iv p0), (1, iv p1)] rfl rfl (by kernel_rfl) fun a w hw hF => ?_
 replace hS : St w0 [fz w0 μ] w := by rw [hw]; exact hS
 clear hw
 refine esr ?_
 refine rn 1 1 [(0, iv p0), (1, iv p1)] hF fun a hF => ?_
 refine wfn rfl ?_
 refine esr ?_
 replace h := bindS h
 obtain ⟨y1, hy1, h⟩ := h
 refine rx 6 [.call [] 141 #[iv (IntKind.i64.wrap (0 - p0)), iv p1] (iv y1)] 6 [(4, iv (IntKind.i64.wrap (0 - y1)))] hF (ocons (show Ob.ok _ Ext _ _ from fun hk w2 hd => pulse_down_ok F (IntKind.i64.wrap (0 - p0)) p1 _ ((fun _ => hy1) hk) _ w2 (memOf_at w2) ) onil) fun a w hF hx => ?_
 replace hS := hS.later hx
 refine wfn rfl ?_
 refine wpIn_ret (fn_ret [.tmp 4] [iv (IntKind.i64.wrap (0 - y1))] hF rfl ⟨rfl, trivial⟩ ?_)
 have hr_ := Option.some.inj h
 subst hr_
 exact ⟨rfl, hS.ext⟩

theorem ref01_In_ok (p0 : Int) (p1 : Int) (p2 : Int) (res : Bool) (h : ref01_In p0 p1 p2 = res) (μ : Frz) (w0 : World) (hm : FrzAt μ w0) : Calls Try.prog 93 #[iv p0, iv p1, iv p2] w0 (fun e w => e = .returned (.bool res) ∧ Ext w0 w) := by
 obtain ⟨hlow, hS⟩ := hm.init
 have hext := Frz.ext_refl w0.heap.size μ
 rw [ref01_In] at h
 refine fn_enterW Try.func93 rfl 15 [(0, iv p0), (1, iv p1), (2, iv p2)] rfl rfl (by kernel_rfl) fun a w hw hF => ?_
 replace hS : St w0 [fz w0 μ] w := by rw [hw]; exact hS
 clear hw
 refine esr ?_
 refine rn 1 1 [(0, iv p0), (1, iv p1), (2, iv p2)] hF fun a hF => ?_
 refine wfn rfl ?_
 refine esr ?_
 refine rn 9 9 [(6, .bool (bif (decide (p0 ≥ p1)) then (decide (p0 ≤ p2)) else false))] hF fun a hF => ?_
 refine wfn rfl ?_
 refine wpIn_ret (fn_ret [.tmp 6] [.bool (bif (decide (p0 ≥ p1)) then (decide (p0 ≤ p2)) else false)] hF rfl ⟨rfl, trivial⟩ ?_)
 subst h
 exact ⟨rfl, hS.ext⟩

theorem ref02_CheckTrain_ok (F : Nat) (p0 : ref02_Train) (res : Int) (h : ref02_CheckTrain F p0 = some res) (μ : Frz) (w0 : World) (hm : FrzAt μ w0) : Calls Try.prog 54 #[p0.ag] w0 (fun e w => e = .returned (iv res) ∧ Ext w0 w) := by
 obtain ⟨hlow, hS⟩ := hm.init
 have hext := Frz.ext_refl w0.heap.size μ
 rw [ref02_CheckTrain] at h
 refine fn_enterW Try.func54 rfl 63 [(0, p0.ag)] rfl rfl (by kernel_rfl) fun a w hw hF => ?_
 replace hS : St w0 [fz w0 μ] w := by rw [hw]; exact hS
 clear hw
 refine esr ?_
 refine SK.wi (boxK (t := 23) (fun b1 => [(1, pb b1)]) (p0.ag) p0.ar hF hS (by kernel_rfl) ⟨by kernel_rfl⟩ (by kernel_rfl) (fun _ => ⟨by kernel_rfl⟩) fun b1 w a hF hS => ?_)
 refine rn 1 2 [(1, pb b1)] hF fun a hF => ?_
 refine wfn rfl ?_
 refine eseq ?_
 refine esr ?_
 refine rno 13 [.run [] (Instr.loadAt 3 (.pointer (some ⟨b1, 1, none⟩))) (iv p0.Kind), .run [⟨7, true, (p0.Kind != 1)⟩] (Instr.loadAt 3 (.pointer (some ⟨b1, 1, none⟩))) (iv p0.Kind), .run [⟨12, true, (bif (p0.Kind != 1) then (p0.Kind != 2) else false)⟩] (Instr.loadAt 3 (.pointer (some ⟨b1, 1, none⟩))) (iv p0.Kind)] 13 [(1, pb b1), (16, .bool (bif (bif (p0.Kind != 1) then (p0.Kind != 2) else false) then (p0.Kind != 3) else false))] hF (ocons (ob1 (by kernel_rfl) (fun _ hd => (hS.at_ hd).cell (i := 0) (j := 1) rfl rfl)) (ocons (ob1 (by kernel_rfl) (fun _ hd => (hS.at_ hd).cell (i := 0) (j := 1) rfl rfl)) (ocons (ob1 (by kernel_rfl) (fun _ hd => (hS.at_ hd).cell (i := 0) (j := 1) rfl rfl)) onil))) fun a hF => ?_
 refine wfn rfl ?_
 refine econd hF rfl (fun hc => ?_) (fun hc => ?_)
 ·replace h := bif_t h hc
  refine esr ?_
  refine rn 1 1 [(2, iv 2)] hF fun a hF => ?_
  refine wfn rfl ?_
  refine wpIn_ret (ret_then <| fn_ret [.tmp 2] [iv 2] hF rfl ⟨rfl, trivial⟩ ?_)
  have hr_ := Option.some.inj h
  subst hr_
  exact ⟨rfl, hS.ext⟩
 ·replace h := bif_f h hc
  refine wpIn_skip (norm_then ?_)
  refine eseq ?_
  refine esr ?_
  refine rx 10 [.run [] (Instr.loadAt 3 (pb b1)) (iv p0.Lambda), .call [] 93 #[iv p0.Lambda, iv 10000, iv 1000000] (.bool (ref01_In p0.Lambda 10000 1000000)), .run [⟨21, false, (!(ref01_In p0.Lambda 10000 1000000))⟩] (Instr.loadAt 3 (.pointer (some ⟨b1, 2, none⟩))) (iv p0.First), .call [⟨21, false, (!(ref01_In p0.Lambda 10000 1000000))⟩] 93 #[iv p0.First, iv 200, iv 5000] (.bool (ref01_In p0.First 200 5000))] 10 [(1, pb b1), (26, .bool (bif (!(ref01_In p0.Lambda 10000 1000000)) then true else (!(ref01_In p0.First 200 5000))))] hF (ocons (ob1 (by kernel_rfl) (fun _ hd => (hS.later hd).cell (i := 0) (j := 0) rfl rfl)) (ocons (show Ob.ok _ Ext _ _ from fun hk w2 hd => ref01_In_ok p0.Lambda 10000 1000000 _ rfl _ w2 (memOf_at w2) ) (ocons (ob1 (by kernel_rfl) (fun _ hd => (hS.later hd).cell (i := 0) (j := 2) rfl rfl)) (ocons (show Ob.ok _ Ext _ _ from fun hk w2 hd => ref01_In_ok p0.First 200 5000 _ rfl _ w2 (memOf_at w2) ) onil)))) fun a w hF hx => ?_
  replace hS := hS.later hx
  refine wfn rfl ?_
  refine econd hF rfl (fun hc => ?_) (fun hc => ?_)
  ·replace h := bif_t h hc
   refine esr ?_
   refine rn 1 1 [(2, iv 3)] hF fun a hF => ?_
   refine wfn rfl ?_
   refine wpIn_ret (ret_then <| fn_ret [.tmp 2] [iv 3] hF rfl ⟨rfl, trivial⟩ ?_)
   have hr_ := Option.some.inj h
   subst hr_
   exact ⟨rfl, hS.ext⟩
  ·replace h := bif_f h hc
   refine wpIn_skip (norm_then ?_)
   refine esr ?_
   refine rn 1 1 [(1, pb b1), (3, iv 2)] hF fun a hF => ?_
   refine wfn rfl ?_
   refine ecut (fun a w => ∃ (x3 : Int), Fr 63 [] [(1, pb b1), (3, iv x3)] a ∧ St w0 [blk b1 23 p0.ar, fz w0 μ] w ∧ ref02_CheckTrain_K1 p0 x3 = some res) ?_ ?_
   ·skip
    refine esr ?_
    refine rno 2 [.run [] (Instr.loadAt 3 (.pointer (some ⟨b1, 1, none⟩))) (iv p0.Kind)] 2 [(1, pb b1), (3, iv 2), (28, iv p0.Kind)] hF (ocons (ob1 (by kernel_rfl) (fun _ hd => (hS.at_ hd).cell (i := 0) (j := 1) rfl rfl)) onil) fun a hF => ?_
    refine wfn rfl ?_
    refine wpIn_block ?_
    refine esr ?_
    refine rn 2 2 [(1, pb b1), (3, iv 2), (28, iv p0.Kind), (29, .bool (p0.Kind == 1))] hF fun a hF => ?_
    refine wfn rfl ?_
    refine econd hF rfl (fun hc => ?_) (fun hc => ?_)
    ·replace h := bif_t h hc
     refine esr ?_
     refine rno 3 [.run [] (Instr.loadAt 3 (.pointer (some ⟨b1, 3, none⟩))) (iv p0.Second)] 3 [(1, pb b1), (3, iv 2), (33, .bool (p0.Second != 0))] hF (ocons (ob1 (by kernel_rfl) (fun _ hd => (hS.at_ hd).cell (i := 0) (j := 3) rfl rfl)) onil) fun a hF => ?_
     refine wfn rfl ?_
     refine econd hF rfl (fun hc => ?_) (fun hc => ?_)
     ·replace h := bif_t h hc
      refine esr ?_
      refine rn 1 1 [(2, iv 3)] hF fun a hF => ?_
      refine wfn rfl ?_
      refine wpIn_ret (ret_block <| ret_then <| fn_ret [.tmp 2] [iv 3] hF rfl ⟨rfl, trivial⟩ ?_)
      have hr_ := Option.some.inj h
      subst hr_
      exact ⟨rfl, hS.ext⟩
     ·replace h := bif_f h hc
      refine wpIn_skip (norm_block <| norm_then <| ?_)
      exact ⟨2, hF.sub (by kernel_rfl), St.pick [0, 1] (by decide) hS, h⟩
    ·replace h := bif_f h hc
     refine esr ?_
     refine rn 2 2 [(1, pb b1), (3, iv 2), (28, iv p0.Kind), (34, .bool (p0.Kind == 2))] hF fun a hF => ?_
     refine wfn rfl ?_
     refine econd hF rfl (fun hc => ?_) (fun hc => ?_)
     ·replace h := bif_t h hc
      refine esr ?_
      refine rn 1 1 [(1, pb b1), (3, iv 4)] hF fun a hF => ?_
      refine wfn rfl ?_
      refine esr ?_
      replace h := bindS h
      obtain ⟨x5, hx5, h⟩ := h
      refine rno 4 [.run [] (Instr.loadAt 3 (.pointer (some ⟨b1, 4, none⟩))) (iv p0.Count), .run [] (binOp .rem 3 (iv p0.Count) (iv 2)) (iv x5)] 4 [(1, pb b1), (3, iv 4), (39, .bool (x5 != 0))] hF (ocons (ob1 (by kernel_rfl) (fun _ hd => (hS.at_ hd).cell (i := 0) (j := 4) rfl rfl)) (ocons (obRemC (fun _ => hx5)) onil)) fun a hF => ?_
      refine wfn rfl ?_
      refine econd hF rfl (fun hc => ?_) (fun hc => ?_)
      ·replace h := bif_t h hc
       refine esr ?_
       refine rn 1 1 [(2, iv 3)] hF fun a hF => ?_
       refine wfn rfl ?_
       refine wpIn_ret (ret_block <| ret_then <| fn_ret [.tmp 2] [iv 3] hF rfl ⟨rfl, trivial⟩ ?_)
       have hr_ := Option.some.inj h
       subst hr_
       exact ⟨rfl, hS.ext⟩
      ·replace h := bif_f h hc
       refine wpIn_skip (norm_block <| norm_then <| ?_)
       exact ⟨4, hF.sub (by kernel_rfl), St.pick [0, 1] (by decide) hS, h⟩
     ·replace h := bif_f h hc
      refine esr ?_
      refine rn 2 2 [(1, pb b1), (3, iv 2), (40, .bool (p0.Kind == 3))] hF fun a hF => ?_
      refine wfn rfl ?_
      refine econd hF rfl (fun hc => ?_) (fun hc => ?_)
      ·replace h := bif_t h hc
       refine WI.region ?_
       refine rn 1 1 [(1, pb b1), (3, iv 3)] hF fun a hF => ?_
       refine WI.fin rfl (norm_block <| norm_then <| ?_)
       exact ⟨3, hF.sub (by kernel_rfl), St.pick [0, 1] (by decide) hS, h⟩
      ·replace h := bif_f h hc
       refine wpIn_skip (norm_block <| norm_then <| ?_)
       exact ⟨2, hF.sub (by kernel_rfl), St.pick [0, 1] (by decide) hS, h⟩
   rintro a w ⟨x3, hF, hS, h⟩
   rw [ref02_CheckTrain_K1] at h
   refine eseq ?_
   refine esr ?_
   refine rx 16 [.run [] (Instr.loadAt 3 (.pointer (some ⟨b1, 1, none⟩))) (iv p0.Kind), .run [⟨45, true, (p0.Kind != 1)⟩] (Instr.loadAt 3 (.pointer (some ⟨b1, 3, none⟩))) (iv p0.Second), .call [⟨45, true, (p0.Kind != 1)⟩] 93 #[iv p0.Second, iv 200, iv 5000] (.bool (ref01_In p0.Second 200 5000)), .run [⟨50, false, (!(ref01_In p0.Second 200 5000))⟩, ⟨45, true, (p0.Kind != 1)⟩] (Instr.loadAt 3 (.pointer (some ⟨b1, 2, none⟩))) (iv p0.First), .run [⟨50, false, (!(ref01_In p0.Second 200 5000))⟩, ⟨45, true, (p0.Kind != 1)⟩] (Instr.loadAt 3 (.pointer (some ⟨b1, 3, none⟩))) (iv p0.Second)] 16 [(1, pb b1), (3, iv x3), (57, .bool (bif (p0.Kind != 1) then (bif (!(ref01_In p0.Second 200 5000)) then true else (decide (p0.First ≥ p0.Second))) else false))] hF (ocons (ob1 (by kernel_rfl) (fun _ hd => (hS.later hd).cell (i := 0) (j := 1) rfl rfl)) (ocons (ob1 (by kernel_rfl) (fun _ hd => (hS.later hd).cell (i := 0) (j := 3) rfl rfl)) (ocons (show Ob.ok _ Ext _ _ from fun hk w2 hd => ref01_In_ok p0.Second 200 5000 _ rfl _ w2 (memOf_at w2) ) (ocons (ob1 (by kernel_rfl) (fun _ hd => (hS.later hd).cell (i := 0) (j := 2) rfl rfl)) (ocons (ob1 (by kernel_rfl) (fun _ hd => (hS.later hd).cell (i := 0) (j := 3) rfl rfl)) onil))))) fun a w hF hx => ?_
   replace hS := hS.later hx
   refine wfn rfl ?_
   refine econd hF rfl (fun hc => ?_) (fun hc => ?_)
   ·replace h := bif_t h hc
    refine esr ?_
    refine rn 1 1 [(2, iv 3)] hF fun a hF => ?_
    refine wfn rfl ?_
    refine wpIn_ret (ret_then <| fn_ret [.tmp 2] [iv 3] hF rfl ⟨rfl, trivial⟩ ?_)
    have hr_ := Option.some.inj h
    subst hr_
    exact ⟨rfl, hS.ext⟩
   ·replace h := bif_f h hc
    refine wpIn_skip (norm_then ?_)
    refine eseq ?_
    refine esr ?_
    refine rx 5 [.run [] (Instr.loadAt 3 (.pointer (some ⟨b1, 4, none⟩))) (iv p0.Count), .call [] 93 #[iv p0.Count, iv x3, iv 64] (.bool (ref01_In p0.Count x3 64))] 5 [(62, .bool (!(ref01_In p0.Count x3 64)))] hF (ocons (ob1 (by kernel_rfl) (fun _ hd => (hS.later hd).cell (i := 0) (j := 4) rfl rfl)) (ocons (show Ob.ok _ Ext _ _ from fun hk w2 hd => ref01_In_ok p0.Count x3 64 _ rfl _ w2 (memOf_at w2) ) onil)) fun a w hF hx => ?_
    replace hS := hS.later hx
    refine wfn rfl ?_
    refine econd hF rfl (fun hc => ?_) (fun hc => ?_)
    ·replace h := bif_t h hc
     refine esr ?_
     refine rn 1 1 [(2, iv 3)] hF fun a hF => ?_
     refine wfn rfl ?_
     refine wpIn_ret (ret_then <| fn_ret [.tmp 2] [iv 3] hF rfl ⟨rfl, trivial⟩ ?_)
     have hr_ := Option.some.inj h
     subst hr_
     exact ⟨rfl, hS.ext⟩
    ·replace h := bif_f h hc
     refine wpIn_skip (norm_then ?_)
     refine esr ?_
     refine rn 1 1 [(2, iv 0)] hF fun a hF => ?_
     refine wfn rfl ?_
     refine wpIn_ret (fn_ret [.tmp 2] [iv 0] hF rfl ⟨rfl, trivial⟩ ?_)
     have hr_ := Option.some.inj h
     subst hr_
     exact ⟨rfl, hS.ext⟩

theorem ref01_Valid_ok (p0 : api_Span) (p1 : Int) (p2 : Int) (res : Bool) (h : ref01_Valid p0 p1 p2 = res) (μ : Frz) (w0 : World) (hm : FrzAt μ w0) : Calls Try.prog 94 #[.agg #[iv p0.Lo, iv p0.Hi], iv p1, iv p2] w0 (fun e w => e = .returned (.bool res) ∧ Ext w0 w) := by
 obtain ⟨hlow, hS⟩ := hm.init
 have hext := Frz.ext_refl w0.heap.size μ
 rw [ref01_Valid] at h
 refine fn_enterW Try.func94 rfl 24 [(0, .agg #[iv p0.Lo, iv p0.Hi]), (1, iv p1), (2, iv p2)] rfl rfl (by kernel_rfl) fun a w hw hF => ?_
 replace hS : St w0 [fz w0 μ] w := by rw [hw]; exact hS
 clear hw
 refine esr ?_
 refine SK.wi (boxK (t := 25) (fun b1 => [(1, iv p1), (2, iv p2), (3, pb b1)]) (.agg #[iv p0.Lo, iv p0.Hi]) #[iv p0.Lo, iv p0.Hi] hF hS (by kernel_rfl) ⟨by kernel_rfl⟩ (by kernel_rfl) (fun _ => ⟨by kernel_rfl⟩) fun b1 w a hF hS => ?_)
 refine rn 1 2 [(1, iv p1), (2, iv p2), (3, pb b1)] hF fun a hF => ?_
 refine wfn rfl ?_
 refine esr ?_
 refine rno 18 [.run [] (Instr.loadAt 3 (pb b1)) (iv p0.Lo), .run [] (Instr.loadAt 3 (.pointer (some ⟨b1, 1, none⟩))) (iv p0.Hi), .run [⟨12, true, (decide (p0.Lo ≤ p0.Hi))⟩] (Instr.loadAt 3 (pb b1)) (iv p0.Lo), .run [⟨18, true, (bif (decide (p0.Lo ≤ p0.Hi)) then (decide (p0.Lo ≥ p1)) else false)⟩] (Instr.loadAt 3 (.pointer (some ⟨b1, 1, none⟩))) (iv p0.Hi)] 18 [(6, .bool (bif (bif (decide (p0.Lo ≤ p0.Hi)) then (decide (p0.Lo ≥ p1)) else false) then (decide (p0.Hi ≤ p2)) else false))] hF (ocons (ob1 (by kernel_rfl) (fun _ hd => (hS.at_ hd).cell (i := 0) (j := 0) rfl rfl)) (ocons (ob1 (by kernel_rfl) (fun _ hd => (hS.at_ hd).cell (i := 0) (j := 1) rfl rfl)) (ocons (ob1 (by kernel_rfl) (fun _ hd => (hS.at_ hd).cell (i := 0) (j := 0) rfl rfl)) (ocons (ob1 (by kernel_rfl) (fun _ hd => (hS.at_ hd).cell (i := 0) (j := 1) rfl rfl)) onil)))) fun a hF => ?_
 refine wfn rfl ?_
 refine wpIn_ret (fn_ret [.tmp 6] [.bool (bif (bif (decide (p0.Lo ≤ p0.Hi)) then (decide (p0.Lo ≥ p1)) else false) then (decide (p0.Hi ≤ p2)) else false)] hF rfl ⟨rfl, trivial⟩ ?_)
 subst h
 exact ⟨rfl, hS.ext⟩

theorem ref02_turns_ok (F : Nat) (p0 : api_Span) (res : Bool) (h : ref02_turns F p0 = some res) (μ : Frz) (w0 : World) (hm : FrzAt μ w0) : Calls Try.prog 95 #[.agg #[iv p0.Lo, iv p0.Hi]] w0 (fun e w => e = .returned (.bool res) ∧ Ext w0 w) := by
 obtain ⟨hlow, hS⟩ := hm.init
 have hext := Frz.ext_refl w0.heap.size μ
 rw [ref02_turns] at h
 refine fn_enterW Try.func95 rfl 17 [(0, .agg #[iv p0.Lo, iv p0.Hi])] rfl rfl (by kernel_rfl) fun a w hw hF => ?_
 replace hS : St w0 [fz w0 μ] w := by rw [hw]; exact hS
 clear hw
 refine esr ?_
 refine SK.wi (boxK (t := 25) (fun b1 => [(1, pb b1)]) (.agg #[iv p0.Lo, iv p0.Hi]) #[iv p0.Lo, iv p0.Hi] hF hS (by kernel_rfl) ⟨by kernel_rfl⟩ (by kernel_rfl) (fun _ => ⟨by kernel_rfl⟩) fun b1 w a hF hS => ?_)
 refine rn 1 2 [(1, pb b1)] hF fun a hF => ?_
 refine wfn rfl ?_
 refine esr ?_
 replace h := bindS h
 obtain ⟨x2, hx2, h⟩ := h
 replace h := bindS h
 obtain ⟨x3, hx3, h⟩ := h
 refine rx 15 [.run [] (Instr.loadAt 3 (pb b1)) (iv p0.Lo), .call [] 93 #[iv p0.Lo, iv (-32768), iv 32767] (.bool (ref01_In p0.Lo (-32768) 32767)), .run [⟨6, true, (ref01_In p0.Lo (-32768) 32767)⟩] (Instr.loadAt 3 (.pointer (some ⟨b1, 1, none⟩))) (iv p0.Hi), .run [⟨6, true, (ref01_In p0.Lo (-32768) 32767)⟩] (Instr.loadAt 3 (pb b1)) (iv p0.Lo), .run [⟨6, true, (ref01_In p0.Lo (-32768) 32767)⟩] (Instr.loadAt 3 (pb b1)) (iv p0.Lo), .run [⟨6, true, (ref01_In p0.Lo (-32768) 32767)⟩] (binOp .add 3 (iv p0.Lo) (iv 65536)) (iv x2), .run [⟨6, true, (ref01_In p0.Lo (-32768) 32767)⟩] (binOp .sub 3 (iv x2) (iv 1)) (iv x3), .call [⟨6, true, (ref01_In p0.Lo (-32768) 32767)⟩] 93 #[iv p0.Hi, iv p0.Lo, iv x3] (.bool (ref01_In p0.Hi p0.Lo x3))] 15 [(2, .bool (bif (ref01_In p0.Lo (-32768) 32767) then (ref01_In p0.Hi p0.Lo x3) else false))] hF (ocons (ob1 (by kernel_rfl) (fun _ hd => (hS.later hd).cell (i := 0) (j := 0) rfl rfl)) (ocons (show Ob.ok _ Ext _ _ from fun hk w2 hd => ref01_In_ok p0.Lo (-32768) 32767 _ rfl _ w2 (memOf_at w2) ) (ocons (ob1 (by kernel_rfl) (fun _ hd => (hS.later hd).cell (i := 0) (j := 1) rfl rfl)) (ocons (ob1 (by kernel_rfl) (fun _ hd => (hS.later hd).cell (i := 0) (j := 0) rfl rfl)) (ocons (ob1 (by kernel_rfl) (fun _ hd => (hS.later hd).cell (i := 0) (j := 0) rfl rfl)) (ocons (obAddC (fun hk => gd_some hx2 hk)) (ocons (obSubC (fun hk => gd_some hx3 hk)) (ocons (show Ob.ok _ Ext _ _ from fun hk w2 hd => ref01_In_ok p0.Hi p0.Lo x3 _ rfl _ w2 (memOf_at w2) ) onil)))))))) fun a w hF hx => ?_
 replace hS := hS.later hx
 refine wfn rfl ?_
 refine wpIn_ret (fn_ret [.tmp 2] [.bool (bif (ref01_In p0.Lo (-32768) 32767) then (ref01_In p0.Hi p0.Lo x3) else false)] hF rfl ⟨rfl, trivial⟩ ?_)
 have hr_ := Option.some.inj h
 subst hr_
 exact ⟨rfl, hS.ext⟩

theorem ref03_times_ok (p0 : ref02_Train) (res : Int) (h : ref03_times p0 = res) (μ : Frz) (w0 : World) (hm : FrzAt μ w0) : Calls Try.prog 56 #[p0.ag] w0 (fun e w => e = .returned (iv res) ∧ Ext w0 w) := by
 obtain ⟨hlow, hS⟩ := hm.init
 have hext := Frz.ext_refl w0.heap.size μ
 rw [ref03_times] at h
 refine fn_enterW Try.func56 rfl 6 [(0, p0.ag)] rfl rfl (by kernel_rfl) fun a w hw hF => ?_
 replace hS : St w0 [fz w0 μ] w := by rw [hw]; exact hS
 clear hw
 refine esr ?_
 refine SK.wi (boxK (t := 23) (fun b1 => [(1, pb b1)]) (p0.ag) p0.ar hF hS (by kernel_rfl) ⟨by kernel_rfl⟩ (by kernel_rfl) (fun _ => ⟨by kernel_rfl⟩) fun b1 w a hF hS => ?_)
 refine rn 1 2 [(1, pb b1)] hF fun a hF => ?_
 refine wfn rfl ?_
 refine eseq ?_
 refine esr ?_
 refine rno 3 [.run [] (Instr.loadAt 3 (.pointer (some ⟨b1, 1, none⟩))) (iv p0.Kind)] 3 [(5, .bool (p0.Kind == 1))] hF (ocons (ob1 (by kernel_rfl) (fun _ hd => (hS.at_ hd).cell (i := 0) (j := 1) rfl rfl)) onil) fun a hF => ?_
 refine wfn rfl ?_
 refine econd hF rfl (fun hc => ?_) (fun hc => ?_)
 ·replace h := bif_t h hc
  refine esr ?_
  refine rn 1 1 [(2, iv 1)] hF fun a hF => ?_
  refine wfn rfl ?_
  refine wpIn_ret (ret_then <| fn_ret [.tmp 2] [iv 1] hF rfl ⟨rfl, trivial⟩ ?_)
  subst h
  exact ⟨rfl, hS.ext⟩
 ·replace h := bif_f h hc
  refine wpIn_skip (norm_then ?_)
  refine esr ?_
  refine rn 1 1 [(2, iv 2)] hF fun a hF => ?_
  refine wfn rfl ?_
  refine wpIn_ret (fn_ret [.tmp 2] [iv 2] hF rfl ⟨rfl, trivial⟩ ?_)
  subst h
  exact ⟨rfl, hS.ext⟩

theorem ref03_common_ok (p0 : api_Span) (p1 : api_Span) (res : (api_Span × Bool)) (h : ref03_common p0 p1 = res) (μ : Frz) (w0 : World) (hm : FrzAt μ w0) : Calls Try.prog 58 #[.agg #[iv p0.Lo, iv p0.Hi], .agg #[iv p1.Lo, iv p1.Hi]] w0 (fun e w => e = .returned (.tuple #[.agg #[iv res.1.Lo, iv res.1.Hi], .bool res.2]) ∧ Ext w0 w) := by
 obtain ⟨hlow, hS⟩ := hm.init
 have hext := Frz.ext_refl w0.heap.size μ
 rw [ref03_common] at h
 refine fn_enterW Try.func58 rfl 24 [(0, .agg #[iv p0.Lo, iv p0.Hi]), (1, .agg #[iv p1.Lo, iv p1.Hi])] rfl rfl (by kernel_rfl) fun a w hw hF => ?_
 replace hS : St w0 [fz w0 μ] w := by rw [hw]; exact hS
 clear hw
 refine esr ?_
 refine SK.wi (boxK (t := 25) (fun b1 => [(1, .agg #[iv p1.Lo, iv p1.Hi]), (2, pb b1)]) (.agg #[iv p0.Lo, iv p0.Hi]) #[iv p0.Lo, iv p0.Hi] hF hS (by kernel_rfl) ⟨by kernel_rfl⟩ (by kernel_rfl) (fun _ => ⟨by kernel_rfl⟩) fun b1 w a hF hS => ?_)
 refine SK.wi (boxK (t := 25) (fun b2 => [(2, pb b1), (3, pb b2)]) (.agg #[iv p1.Lo, iv p1.Hi]) #[iv p1.Lo, iv p1.Hi] hF hS (by kernel_rfl) ⟨by kernel_rfl⟩ (by kernel_rfl) (fun _ => ⟨by kernel_rfl⟩) fun b2 w a hF hS => ?_)
 refine SK.wi (allocK (t := 25) (fun b3 => [(2, pb b1), (3, pb b2), (4, pb b3)]) #[iv 0, iv 0] hF hS (by kernel_rfl) ⟨by kernel_rfl⟩ (by kernel_rfl) (fun _ => ⟨by kernel_rfl⟩) fun b3 w a hF hS => ?_)
 refine rn 1 4 [(2, pb b1), (3, pb b2), (4, pb b3)] hF fun a hF => ?_
 refine wfn rfl ?_
 refine esr ?_
 refine rno 11 [.run [] (Instr.loadAt 3 (pb b1)) (iv p0.Lo), .run [] (Instr.loadAt 3 (pb b2)) (iv p1.Lo), .run [] (Instr.loadAt 3 (.pointer (some ⟨b1, 1, none⟩))) (iv p0.Hi), .run [] (Instr.loadAt 3 (.pointer (some ⟨b2, 1, none⟩))) (iv p1.Hi)] 11 [(4, pb b3), (17, .agg #[iv (if p1.Lo > p0.Lo then p1.Lo else p0.Lo), iv (if p1.Hi < p0.Hi then p1.Hi else p0.Hi)])] hF (ocons (ob1 (by kernel_rfl) (fun _ hd => (hS.at_ hd).cell (i := 2) (j := 0) rfl rfl)) (ocons (ob1 (by kernel_rfl) (fun _ hd => (hS.at_ hd).cell (i := 1) (j := 0) rfl rfl)) (ocons (ob1 (by kernel_rfl) (fun _ hd => (hS.at_ hd).cell (i := 2) (j := 1) rfl rfl)) (ocons (ob1 (by kernel_rfl) (fun _ hd => (hS.at_ hd).cell (i := 1) (j := 1) rfl rfl)) onil)))) fun a hF => ?_
 refine SK.wi (allocK (t := 25) (fun b4 => [(4, pb b3), (6, pb b4), (17, .agg #[iv (if p1.Lo > p0.Lo then p1.Lo else p0.Lo), iv (if p1.Hi < p0.Hi then p1.Hi else p0.Hi)])]) #[iv 0, iv 0] hF hS (by kernel_rfl) ⟨by kernel_rfl⟩ (by kernel_rfl) (fun _ => ⟨by kernel_rfl⟩) fun b4 w a hF hS => ?_)
 refine SK.wi (storeK (t := 25) [(4, pb b3), (6, pb b4)] 0 0 (.agg #[iv (if p1.Lo > p0.Lo then p1.Lo else p0.Lo), iv (if p1.Hi < p0.Hi then p1.Hi else p0.Hi)]) #[iv (if p1.Lo > p0.Lo then p1.Lo else p0.Lo), iv (if p1.Hi < p0.Hi then p1.Hi else p0.Hi)] hF hS rfl (by kernel_rfl) ⟨by kernel_rfl⟩ (by kernel_rfl) (by kernel_rfl) (by kernel_rfl) (by kernel_rfl) ⟨by kernel_rfl⟩ fun w a hF hS => ?_)
 refine wfn rfl ?_
 refine eseq ?_
 refine region_treeW 8 [6] _ (D := fun w => St w0 [blk b4 25 #[iv (if p1.Lo > p0.Lo then p1.Lo else p0.Lo), iv (if p1.Hi < p0.Hi then p1.Hi else p0.Hi)], blk b2 25 #[iv p1.Lo, iv p1.Hi], blk b1 25 #[iv p0.Lo, iv p0.Hi]] w ∧ FrzAt μ w) (by kernel_rfl) (by kernel_rfl) hF.size (fun w hx => ?_) (fun _ _ h => h)
 replace hS := hS.later hx
 refine ⟨⟨St.pick [0, 2, 3] (by decide) hS, hS.frz (i := 4) rfl hlow⟩, ?_⟩
 have hcl5 := Frz.le_refl μ
 refine WT.s [0, 1, 2, 3, 4, 5] [6] (by kernel_rfl) (by kernel_rfl) ?_
 refine runC (rest := []) (obs := [.run [] (Instr.loadAt 25 (pb b4)) (.agg #[iv (if p1.Lo > p0.Lo then p1.Lo else p0.Lo), iv (if p1.Hi < p0.Hi then p1.Hi else p0.Hi)]), .run [] (Instr.loadAt 3 (pb b4)) (iv (if p1.Lo > p0.Lo then p1.Lo else p0.Lo)), .run [] (Instr.loadAt 3 (.pointer (some ⟨b4, 1, none⟩))) (iv (if p1.Hi < p0.Hi then p1.Hi else p0.Hi))]) [0, 1, 2, 3, 4, 5] [(4, pb b3), (18, .agg #[iv (if p1.Lo > p0.Lo then p1.Lo else p0.Lo), iv (if p1.Hi < p0.Hi then p1.Hi else p0.Hi)]), (23, .bool (decide ((if p1.Lo > p0.Lo then p1.Lo else p0.Lo) ≤ (if p1.Hi < p0.Hi then p1.Hi else p0.Hi))))] hF (by kernel_rfl) (by kernel_rfl) (ocons (obN (us := [iv (if p1.Lo > p0.Lo then p1.Lo else p0.Lo), iv (if p1.Hi < p0.Hi then p1.Hi else p0.Hi)]) (by kernel_rfl) (fun _ hd => (hd.1.blk (i := 0) rfl).cells rfl)) (ocons (ob1 (by kernel_rfl) (fun _ hd => hd.1.cell (i := 0) (j := 0) rfl rfl)) (ocons (ob1 (by kernel_rfl) (fun _ hd => hd.1.cell (i := 0) (j := 1) rfl rfl)) onil))) ⟨by kernel_rfl⟩ fun a hF => ?_
 refine WRun.fin ?_
 refine all_cons ?_ (all_nil)
 refine storeK (t := 25) [(4, pb b3), (23, .bool (decide ((if p1.Lo > p0.Lo then p1.Lo else p0.Lo) ≤ (if p1.Hi < p0.Hi then p1.Hi else p0.Hi))))] 1 0 (.agg #[iv (if p1.Lo > p0.Lo then p1.Lo else p0.Lo), iv (if p1.Hi < p0.Hi then p1.Hi else p0.Hi)]) #[iv (if p1.Lo > p0.Lo then p1.Lo else p0.Lo), iv (if p1.Hi < p0.Hi then p1.Hi else p0.Hi)] hF hS rfl (by kernel_rfl) ⟨by kernel_rfl⟩ (by kernel_rfl) (by kernel_rfl) (by kernel_rfl) (by kernel_rfl) ⟨by kernel_rfl⟩ fun w a hF hS => ⟨⟨St.pick [0, 2, 3] (by decide) hS, (hS.frz (i := 4) rfl hlow)⟩, ?_⟩
 refine WT.z [7] (by kernel_rfl) ?_
 refine runC (rest := []) (obs := []) [7] [(4, pb b3), (5, .bool (decide ((if p1.Lo > p0.Lo then p1.Lo else p0.Lo) ≤ (if p1.Hi < p0.Hi then p1.Hi else p0.Hi))))] hF (by kernel_rfl) (by kernel_rfl) onil ⟨by kernel_rfl⟩ fun a hF => ?_
 refine WRun.fin ?_
 refine wfn rfl ?_
 refine wpIn_ret (fn_ret [.cell 4 25, .tmp 5] [.agg #[iv (if p1.Lo > p0.Lo then p1.Lo else p0.Lo), iv (if p1.Hi < p0.Hi then p1.Hi else p0.Hi)], .bool (decide ((if p1.Lo > p0.Lo then p1.Lo else p0.Lo) ≤ (if p1.Hi < p0.Hi then p1.Hi else p0.Hi)))] hF rfl ⟨⟨_, rfl, loadVarN (cs := [iv (if p1.Lo > p0.Lo then p1.Lo else p0.Lo), iv (if p1.Hi < p0.Hi then p1.Hi else p0.Hi)]) (by kernel_rfl) ((hS.blk (i := 1) rfl).cells rfl)⟩, rfl, trivial⟩ ?_)
 subst h
 exact ⟨rfl, hS.ext⟩

theorem ref01_Down_ok (F : Nat) (p0 : Int) (p1 : Int) (res : Int) (h : ref01_Down F p0 p1 = some res) (μ : Frz) (w0 : World) (hm : FrzAt μ w0) : Calls Try.prog 114 #[iv p0, iv p1] w0 (fun e w => e = .returned (iv res) ∧ Ext w0 w) := by
 obtain ⟨hlow, hS⟩ := hm.init
 have hext := Frz.ext_refl w0.heap.size μ
 rw [ref01_Down] at h
 refine fn_enterW Try.func114 rfl 16 [(0, iv p0), (1, iv p1)] rfl rfl (by kernel_rfl) fun a w hw hF => ?_
 replace hS : St w0 [fz w0 μ] w := by rw [hw]; exact hS
 clear hw
 refine esr ?_
 refine rn 1 1 [(0, iv p0), (1, iv p1)] hF fun a hF => ?_
 refine wfn rfl ?_
 refine esr ?_
 replace h := bindS h
 obtain ⟨x1, hx1, h⟩ := h
 refine rno 4 [.run [] (binOp .quo 3 (iv p0) (iv p1)) (iv x1)] 4 [(0, iv p0), (1, iv p1), (5, iv x1)] hF (ocons (obQuoC (fun _ => hx1)) onil) fun a hF => ?_
 refine wfn rfl ?_
 refine eseq ?_
 refine esr ?_
 replace h := bindS h
 obtain ⟨x2, hx2, h⟩ := h
 refine rno 4 [.run [] (binOp .rem 3 (iv p0) (iv p1)) (iv x2)] 4 [(5, iv x1), (12, .bool (decide (x2 < 0)))] hF (ocons (obRemC (fun _ => hx2)) onil) fun a hF => ?_
 refine wfn rfl ?_
 refine econd hF rfl (fun hc => ?_) (fun hc => ?_)
 ·replace h := bif_t h hc
  refine WI.region ?_
  replace h := bindS h
  obtain ⟨x3, hx3, h⟩ := h
  refine rno 3 [.run [] (binOp .sub 3 (iv x1) (iv 1)) (iv x3)] 3 [(5, iv x3)] hF (ocons (obSubC (fun _ => hx3)) onil) fun a hF => ?_
  refine wfn rfl ?_
  refine esr ?_
  refine rn 2 2 [(4, iv x3)] hF fun a hF => ?_
  refine wfn rfl ?_
  refine wpIn_ret (fn_ret [.tmp 4] [iv x3] hF rfl ⟨rfl, trivial⟩ ?_)
  have hr_ := Option.some.inj h
  subst hr_
  exact ⟨rfl, hS.ext⟩
 ·replace h := bif_f h hc
  refine wpIn_skip (norm_then ?_)
  refine esr ?_
  refine rn 2 2 [(4, iv x1)] hF fun a hF => ?_
  refine wfn rfl ?_
  refine wpIn_ret (fn_ret [.tmp 4] [iv x1] hF rfl ⟨rfl, trivial⟩ ?_)
  have hr_ := Option.some.inj h
  subst hr_
  exact ⟨rfl, hS.ext⟩

theorem ref01_Up_ok (F : Nat) (p0 : Int) (p1 : Int) (res : Int) (h : ref01_Up F p0 p1 = some res) (μ : Frz) (w0 : World) (hm : FrzAt μ w0) : Calls Try.prog 115 #[iv p0, iv p1] w0 (fun e w => e = .returned (iv res) ∧ Ext w0 w) := by
 obtain ⟨hlow, hS⟩ := hm.init
 have hext := Frz.ext_refl w0.heap.size μ
 rw [ref01_Up] at h
 refine fn_enterW Try.func115 rfl 10 [(0, iv p0), (1, iv p1)] rfl rfl (by kernel_rfl) fun a w hw hF => ?_
 replace hS : St w0 [fz w0 μ] w := by rw [hw]; exact hS
 clear hw
 refine esr ?_
 refine rn 1 1 [(0, iv p0), (1, iv p1)] hF fun a hF => ?_
 refine wfn rfl ?_
 refine esr ?_
 replace h := bindS h
 obtain ⟨y1, hy1, h⟩ := h
 refine rx 6 [.call [] 114 #[iv (IntKind.i64.wrap (0 - p0)), iv p1] (iv y1)] 6 [(4, iv (IntKind.i64.wrap (0 - y1)))] hF (ocons (show Ob.ok _ Ext _ _ from fun hk w2 hd => ref01_Down_ok F (IntKind.i64.wrap (0 - p0)) p1 _ ((fun _ => hy1) hk) _ w2 (memOf_at w2) ) onil) fun a w hF hx => ?_
 replace hS := hS.later hx
 refine wfn rfl ?_
 refine wpIn_ret (fn_ret [.tmp 4] [iv (IntKind.i64.wrap (0 - y1))] hF rfl ⟨rfl, trivial⟩ ?_)
 have hr_ := Option.some.inj h
 subst hr_
 exact ⟨rfl, hS.ext⟩

theorem law03_guesses_ok (F : Nat) (p0 : (List fold_Guess)) (p1 : (List ref03_Guess)) (res : Bool) (h : law03_guesses F p0 p1 = some res) (μ : Frz) (w0 : World) (hm : FrzAt μ w0) {ad1 : Option Addr} {cap2 : Nat} {ad4 : Option Addr} {cap5 : Nat} (hA3 : ArrM μ 4 fold_Guess.cells ad1 cap2 p0) (hA6 : ArrM μ 4 ref03_Guess.cells ad4 cap5 p1) : Calls Try.prog 16 #[sv ad1 p0 cap2, sv ad4 p1 cap5] w0 (fun e w => e = .returned (.bool res) ∧ Ext w0 w) := by
 obtain ⟨hlow, hS⟩ := hm.init
 have hext := Frz.ext_refl w0.heap.size μ
 rw [law03_guesses] at h
 refine fn_enterW Try.func16 rfl 41 [(0, sv ad1 p0 cap2), (1, sv ad4 p1 cap5)] rfl rfl (by kernel_rfl) fun a w hw hF => ?_
 replace hS : St w0 [fz w0 μ] w := by rw [hw]; exact hS
 clear hw
 refine esr ?_
 refine rn 1 1 [(0, sv ad1 p0 cap2), (1, sv ad4 p1 cap5)] hF fun a hF => ?_
 refine wfn rfl ?_
 refine eseq ?_
 refine esr ?_
 refine rn 5 5 [(0, sv ad1 p0 cap2), (1, sv ad4 p1 cap5), (10, .bool ((ln p0) != (ln p1)))] hF fun a hF => ?_
 refine wfn rfl ?_
 refine econd hF rfl (fun hc => ?_) (fun hc => ?_)
 ·replace h := bif_t h hc
  refine esr ?_
  refine rn 1 1 [(4, .bool false)] hF fun a hF => ?_
  refine wfn rfl ?_
  refine wpIn_ret (ret_then <| fn_ret [.tmp 4] [.bool false] hF rfl ⟨rfl, trivial⟩ ?_)
  have hr_ := Option.some.inj h
  subst hr_
  exact ⟨rfl, hS.ext⟩
 ·replace h := bif_f h hc
  refine wpIn_skip (norm_then ?_)
  refine ecut (fun a w => Fr 41 [] [] a ∧ St w0 [fz w0 μ] w ∧ law03_guesses_K1 = some res) ?_ ?_
  ·skip
   refine esr ?_
   refine rn 1 1 [(0, sv ad1 p0 cap2), (1, sv ad4 p1 cap5), (5, iv 0)] hF fun a hF => ?_
   refine wfn rfl ?_
   refine wpIn_block ?_
   refine eloop (fun n_ a w => ∃ (x37 : Int), Fr 41 [] [(0, sv ad1 p0 cap2), (1, sv ad4 p1 cap5), (5, iv x37)] a ∧ St w0 [fz w0 μ] w ∧ law03_guesses_L2 p0 p1 n_ x37 = some res) F ⟨0, hF.sub (by kernel_rfl), St.pick [0] (by decide) hS, h⟩ ?_
   rintro n_ a w ⟨x37, hF, hS, h⟩
   rcases n_ with _ | n_
   ·cases (show (none : Option Bool) = some res from h)
   obtain ⟨k2, hk2⟩ : ∃ k, k = law03_guesses_L2 p0 p1 n_ := ⟨_, rfl⟩
   replace h : law03_guesses_B2 p0 p1 k2 x37 = some res := by rw [hk2]; exact h
   rw [law03_guesses_B2] at h
   refine eseq ?_
   refine esr ?_
   refine rn 4 4 [(0, sv ad1 p0 cap2), (1, sv ad4 p1 cap5), (5, iv x37), (14, .bool (decide (x37 < (ln p0))))] hF fun a hF => ?_
   refine wfn rfl ?_
   refine econd hF rfl (fun hc => ?_) (fun hc => ?_)
   ·replace h := bif_t h hc
    refine wpIn_skip (norm_then ?_)
    refine eseq ?_
    refine wpIn_block ?_
    refine eseq ?_
    replace h := bindS h
    obtain ⟨u39, hu39, h⟩ := h
    replace h := bindS h
    obtain ⟨u40, hu40, h⟩ := h
    replace h := bindS h
    obtain ⟨u41, hu41, h⟩ := h
    replace h := bindS h
    obtain ⟨u42, hu42, h⟩ := h
    refine runD (obs := [.run [] (Instr.indexAt 29 (sv ad1 p0 cap2) (iv x37)) (.pointer (some (slAddr ad1 x37 4))), .run [] (Instr.loadAt 77 (.pointer (some (slAddr ad1 x37 4)))) (.agg #[iv u39.Whole.1, iv u39.Whole.2]), .run [] (Instr.indexAt 34 (sv ad4 p1 cap5) (iv x37)) (.pointer (some (slAddr ad4 x37 4))), .run [] (Instr.loadAt 77 (.pointer (some (slAddr ad4 x37 4)))) (.agg #[iv u40.Whole.1, iv u40.Whole.2]), .run [] (eqS .neq 77 #[iv u39.Whole.1, iv u39.Whole.2] #[iv u40.Whole.1, iv u40.Whole.2]) (.bool (!(((u39.Whole.1 : Int) == u40.Whole.1) && (((u39.Whole.2 : Int) == u40.Whole.2) && true)))), .run [⟨28, false, (!(((u39.Whole.1 : Int) == u40.Whole.1) && (((u39.Whole.2 : Int) == u40.Whole.2) && true)))⟩] (Instr.indexAt 29 (sv ad1 p0 cap2) (iv x37)) (.pointer (some (slAddr ad1 x37 4))), .run [⟨28, false, (!(((u39.Whole.1 : Int) == u40.Whole.1) && (((u39.Whole.2 : Int) == u40.Whole.2) && true)))⟩] (Instr.loadAt 25 (.pointer (some ((slAddr ad1 x37 4).add 2)))) (.agg #[iv u41.Speed.Lo, iv u41.Speed.Hi]), .run [⟨28, false, (!(((u39.Whole.1 : Int) == u40.Whole.1) && (((u39.Whole.2 : Int) == u40.Whole.2) && true)))⟩] (Instr.indexAt 34 (sv ad4 p1 cap5) (iv x37)) (.pointer (some (slAddr ad4 x37 4))), .run [⟨28, false, (!(((u39.Whole.1 : Int) == u40.Whole.1) && (((u39.Whole.2 : Int) == u40.Whole.2) && true)))⟩] (Instr.loadAt 25 (.pointer (some ((slAddr ad4 x37 4).add 2)))) (.agg #[iv u42.Speed.Lo, iv u42.Speed.Hi]), .run [⟨28, false, (!(((u39.Whole.1 : Int) == u40.Whole.1) && (((u39.Whole.2 : Int) == u40.Whole.2) && true)))⟩] (eqS .neq 25 #[iv u41.Speed.Lo, iv u41.Speed.Hi] #[iv u42.Speed.Lo, iv u42.Speed.Hi]) (.bool (!(((u41.Speed.Lo : Int) == u42.Speed.Lo) && (((u41.Speed.Hi : Int) == u42.Speed.Hi) && true))))]) 24 [(0, sv ad1 p0 cap2), (1, sv ad4 p1 cap5), (5, iv x37), (40, .bool (bif (!(((u39.Whole.1 : Int) == u40.Whole.1) && (((u39.Whole.2 : Int) == u40.Whole.2) && true))) then true else (!(((u41.Speed.Lo : Int) == u42.Speed.Lo) && (((u41.Speed.Hi : Int) == u42.Speed.Hi) && true)))))] (by kernel_rfl) hF (by kernel_rfl) (ocons (obIdxQ (hA3 _ (hS.frz (i := 0) rfl hlow)) (by kernel_rfl) (fun _ => hu39)) (ocons (obElNQ (m := 2) (i := x37) (us := [iv u39.Whole.1, iv u39.Whole.2]) 0 fold_Guess.cells_len (fun _ hd => (hA3 _ ((hS.later hd).frz (i := 0) rfl hlow))) (by kernel_rfl) (fun _ => hu39) ⟨rfl, rfl⟩) (ocons (obIdxQ (hA6 _ (hS.frz (i := 0) rfl hlow)) (by kernel_rfl) (fun _ => hu40)) (ocons (obElNQ (m := 2) (i := x37) (us := [iv u40.Whole.1, iv u40.Whole.2]) 0 ref03_Guess.cells_len (fun _ hd => (hA6 _ ((hS.later hd).frz (i := 0) rfl hlow))) (by kernel_rfl) (fun _ => hu40) ⟨rfl, rfl⟩) (ocons (obNeC (by kernel_rfl) (by kernel_rfl)) (ocons (obIdxQ (hA3 _ (hS.frz (i := 0) rfl hlow)) (by kernel_rfl) (fun hk => gd_some hu41 hk)) (ocons (obElNQ (m := 2) (i := x37) (us := [iv u41.Speed.Lo, iv u41.Speed.Hi]) 2 fold_Guess.cells_len (fun _ hd => (hA3 _ ((hS.later hd).frz (i := 0) rfl hlow))) (by kernel_rfl) (fun hk => gd_some hu41 hk) ⟨rfl, rfl⟩) (ocons (obIdxQ (hA6 _ (hS.frz (i := 0) rfl hlow)) (by kernel_rfl) (fun hk => gd_some hu42 hk)) (ocons (obElNQ (m := 2) (i := x37) (us := [iv u42.Speed.Lo, iv u42.Speed.Hi]) 2 ref03_Guess.cells_len (fun _ hd => (hA6 _ ((hS.later hd).frz (i := 0) rfl hlow))) (by kernel_rfl) (fun hk => gd_some hu42 hk) ⟨rfl, rfl⟩) (ocons (obNeC (by kernel_rfl) (by kernel_rfl)) onil)))))))))) ⟨by kernel_rfl⟩ fun a w hF hx => ?_
    replace hS := hS.later hx
    refine wfn rfl ?_
    refine econd hF rfl (fun hc => ?_) (fun hc => ?_)
    ·replace h := bif_t h hc
     refine esr ?_
     refine rn 1 1 [(4, .bool false)] hF fun a hF => ?_
     refine wfn rfl ?_
     refine wpIn_ret (ret_block <| ret_then <| ret_then <| ret_block <| ret_then <| fn_ret [.tmp 4] [.bool false] hF rfl ⟨rfl, trivial⟩ ?_)
     have hr_ := Option.some.inj h
     subst hr_
     exact ⟨rfl, hS.ext⟩
    ·replace h := bif_f h hc
     refine wpIn_skip (norm_block <| norm_then <| ?_)
     refine WI.region ?_
     replace h := bindS h
     obtain ⟨x43, hx43, h⟩ := h
     refine rno 3 [.run [] (binOp .add 3 (iv x37) (iv 1)) (iv x43)] 3 [(0, sv ad1 p0 cap2), (1, sv ad4 p1 cap5), (5, iv x43)] hF (ocons (obAddC (fun _ => hx43)) onil) fun a hF => ?_
     refine wfn rfl ?_
     rw [hk2] at h
     exact ⟨n_, Nat.lt_succ_self _, x43, hF.sub (by kernel_rfl), St.pick [0] (by decide) hS, h⟩
   ·replace h := bif_f h hc
    refine wpIn_exit (exit_then <| exit_then <| exit_hit <| norm_then ?_)
    exact ⟨hF.sub (by kernel_rfl), St.pick [0] (by decide) hS, h⟩
  rintro a w ⟨hF, hS, h⟩
  rw [law03_guesses_K1] at h
  refine esr ?_
  refine rn 1 1 [(4, .bool true)] hF fun a hF => ?_
  refine wfn rfl ?_
  refine wpIn_ret (fn_ret [.tmp 4] [.bool true] hF rfl ⟨rfl, trivial⟩ ?_)
  have hr_ := Option.some.inj h
  subst hr_
  exact ⟨rfl, hS.ext⟩
end Go.Proofs.Ytbhjgebjojdohaa
