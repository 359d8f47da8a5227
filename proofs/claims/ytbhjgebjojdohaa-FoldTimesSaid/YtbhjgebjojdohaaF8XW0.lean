/- Walks, written by program (wip/gen/dec.py). -/
import Derived.Test.YtbhjgebjojdohaaF8XD
import Derived.Test.YtbhjgebjojdohaaProg
namespace Go.Proofs.Ytbhjgebjojdohaa
open Go Go.RowKit Go.Eng
set_option maxRecDepth 10000
set_option maxHeartbeats 4000000
set_option linter.unusedVariables false
set_option linter.unusedSimpArgs false
theorem pulse_within_ok (p0 : Int) (p1 : Int) (p2 : Int) (res : Bool) (h : pulse_within p0 p1 p2 = res) (μ : Frz) (w0 : World) (hm : FrzAt μ w0) : Calls Try.prog 88 #[iv p0, iv p1, iv p2] w0 (fun e w => e = .returned (.bool res) ∧ Ext w0 w) := by
 obtain ⟨hlow, hS⟩ := hm.init
 have hext := Frz.ext_refl w0.heap.size μ
 rw [pulse_within] at h
 refine fn_enterW Try.func88 rfl 15 [(0, iv p0), (1, iv p1), (2, iv p2)] rfl rfl (by kernel_rfl) fun a w hw hF => ?_
 replace hS : St w0 [fz w0 μ] w := by rw [hw]; exact hS
 clear hw
 refine esr ?_
 refine rn 1 1 [(0, iv p0), (1, iv p1), (2, iv p2)] hF fun a hF => ?_
 refine wfn rfl ?_
 refine esr ?_
 refine rn 9 9 [(6, .bool (bif (decide (p1 ≤ p0)) then (decide (p0 ≤ p2)) else false))] hF fun a hF => ?_
 refine wfn rfl ?_
 refine wpIn_ret (fn_ret [.tmp 6] [.bool (bif (decide (p1 ≤ p0)) then (decide (p0 ≤ p2)) else false)] hF rfl ⟨rfl, trivial⟩ ?_)
 subst h
 exact ⟨rfl, hS.ext⟩

theorem pulse_CheckTrain_ok (F : Nat) (p0 : pulse_Train) (res : Int) (h : pulse_CheckTrain F p0 = some res) (μ : Frz) (w0 : World) (hm : FrzAt μ w0) : Calls Try.prog 50 #[p0.ag] w0 (fun e w => e = .returned (iv res) ∧ Ext w0 w) := by
 obtain ⟨hlow, hS⟩ := hm.init
 have hext := Frz.ext_refl w0.heap.size μ
 rw [pulse_CheckTrain] at h
 refine fn_enterW Try.func50 rfl 57 [(0, p0.ag)] rfl rfl (by kernel_rfl) fun a w hw hF => ?_
 replace hS : St w0 [fz w0 μ] w := by rw [hw]; exact hS
 clear hw
 refine esr ?_
 refine SK.wi (boxK (t := 33) (fun b1 => [(1, pb b1)]) (p0.ag) p0.ar hF hS (by kernel_rfl) ⟨by kernel_rfl⟩ (by kernel_rfl) (fun _ => ⟨by kernel_rfl⟩) fun b1 w a hF hS => ?_)
 refine rn 1 2 [(1, pb b1)] hF fun a hF => ?_
 refine wfn rfl ?_
 refine esr ?_
 refine rn 2 2 [(1, pb b1), (4, .bool true)] hF fun a hF => ?_
 refine wfn rfl ?_
 refine ecut (fun a w => ∃ (x3 : Int) (c4 : Bool), Fr 57 [] [(1, pb b1), (3, iv x3), (4, .bool c4)] a ∧ St w0 [blk b1 33 p0.ar, fz w0 μ] w ∧ pulse_CheckTrain_K1 p0 x3 c4 = some res) ?_ ?_
 ·skip
  refine esr ?_
  refine rno 2 [.run [] (Instr.loadAt 3 (.pointer (some ⟨b1, 1, none⟩))) (iv p0.Kind)] 2 [(1, pb b1), (4, .bool true), (6, iv p0.Kind)] hF (ocons (ob1 (by kernel_rfl) (fun _ hd => (hS.at_ hd).cell (i := 0) (j := 1) rfl rfl)) onil) fun a hF => ?_
  refine wfn rfl ?_
  refine wpIn_block ?_
  refine esr ?_
  refine rn 2 2 [(1, pb b1), (4, .bool true), (6, iv p0.Kind), (7, .bool (p0.Kind == 1))] hF fun a hF => ?_
  refine wfn rfl ?_
  refine econd hF rfl (fun hc => ?_) (fun hc => ?_)
  ·replace h := bif_t h hc
   refine runD (obs := [.run [] (Instr.loadAt 3 (.pointer (some ⟨b1, 3, none⟩))) (iv p0.Second)]) 5 [(1, pb b1), (3, iv 2), (4, .bool (p0.Second == 0))] (by kernel_rfl) hF (by kernel_rfl) (ocons (ob1 (by kernel_rfl) (fun _ hd => (hS.later hd).cell (i := 0) (j := 3) rfl rfl)) onil) ⟨by kernel_rfl⟩ fun a w hF hx => ?_
   replace hS := hS.later hx
   refine WI.fin rfl (norm_block <| norm_then <| ?_)
   exact ⟨2, p0.Second == 0, hF.sub (by kernel_rfl), St.pick [0, 1] (by decide) hS, h⟩
  ·replace h := bif_f h hc
   refine esr ?_
   refine rn 2 2 [(1, pb b1), (4, .bool true), (6, iv p0.Kind), (12, .bool (p0.Kind == 2))] hF fun a hF => ?_
   refine wfn rfl ?_
   refine econd hF rfl (fun hc => ?_) (fun hc => ?_)
   ·replace h := bif_t h hc
    replace h := bindS h
    obtain ⟨x8, hx8, h⟩ := h
    refine runD (obs := [.run [] (Instr.loadAt 3 (.pointer (some ⟨b1, 4, none⟩))) (iv p0.Count), .run [] (binOp .rem 3 (iv p0.Count) (iv 2)) (iv x8)]) 6 [(1, pb b1), (3, iv 4), (4, .bool (x8 == 0))] (by kernel_rfl) hF (by kernel_rfl) (ocons (ob1 (by kernel_rfl) (fun _ hd => (hS.later hd).cell (i := 0) (j := 4) rfl rfl)) (ocons (obRemC (fun _ => hx8)) onil)) ⟨by kernel_rfl⟩ fun a w hF hx => ?_
    replace hS := hS.later hx
    refine WI.fin rfl (norm_block <| norm_then <| ?_)
    exact ⟨4, x8 == 0, hF.sub (by kernel_rfl), St.pick [0, 1] (by decide) hS, h⟩
   ·replace h := bif_f h hc
    refine esr ?_
    refine rn 2 2 [(1, pb b1), (4, .bool true), (18, .bool (p0.Kind == 3))] hF fun a hF => ?_
    refine wfn rfl ?_
    refine econd hF rfl (fun hc => ?_) (fun hc => ?_)
    ·replace h := bif_t h hc
     refine WI.region ?_
     refine rn 1 1 [(1, pb b1), (3, iv 3), (4, .bool true)] hF fun a hF => ?_
     refine WI.fin rfl (norm_block <| norm_then <| ?_)
     exact ⟨3, true, hF.sub (by kernel_rfl), St.pick [0, 1] (by decide) hS, h⟩
    ·replace h := bif_f h hc
     refine esr ?_
     refine rn 1 1 [(2, iv 2)] hF fun a hF => ?_
     refine wfn rfl ?_
     refine wpIn_ret (ret_block <| ret_then <| fn_ret [.tmp 2] [iv 2] hF rfl ⟨rfl, trivial⟩ ?_)
     have hr_ := Option.some.inj h
     subst hr_
     exact ⟨rfl, hS.ext⟩
 rintro a w ⟨x3, c4, hF, hS, h⟩
 rw [pulse_CheckTrain_K1] at h
 refine ecut (fun a w => ∃ (c5 : Bool), Fr 57 [] [(1, pb b1), (3, iv x3), (4, .bool c5)] a ∧ St w0 [blk b1 33 p0.ar, fz w0 μ] w ∧ pulse_CheckTrain_K2 p0 x3 c5 = some res) ?_ ?_
 ·skip
  refine esr ?_
  refine rno 3 [.run [] (Instr.loadAt 3 (.pointer (some ⟨b1, 1, none⟩))) (iv p0.Kind)] 3 [(1, pb b1), (3, iv x3), (4, .bool c4), (22, .bool (p0.Kind != 1))] hF (ocons (ob1 (by kernel_rfl) (fun _ hd => (hS.at_ hd).cell (i := 0) (j := 1) rfl rfl)) onil) fun a hF => ?_
  refine wfn rfl ?_
  refine econd hF rfl (fun hc => ?_) (fun hc => ?_)
  ·replace h := bif_t h hc
   refine WI.region ?_
   refine rx 14 [.run [⟨24, true, c4⟩] (Instr.loadAt 3 (.pointer (some ⟨b1, 3, none⟩))) (iv p0.Second), .call [⟨24, true, c4⟩] 88 #[iv p0.Second, iv 200, iv 5000] (.bool (pulse_within p0.Second 200 5000)), .run [⟨29, true, (bif c4 then (pulse_within p0.Second 200 5000) else false)⟩] (Instr.loadAt 3 (.pointer (some ⟨b1, 2, none⟩))) (iv p0.First), .run [⟨29, true, (bif c4 then (pulse_within p0.Second 200 5000) else false)⟩] (Instr.loadAt 3 (.pointer (some ⟨b1, 3, none⟩))) (iv p0.Second)] 14 [(1, pb b1), (3, iv x3), (4, .bool (bif (bif c4 then (pulse_within p0.Second 200 5000) else false) then (decide (p0.First < p0.Second)) else false))] hF (ocons (ob1 (by kernel_rfl) (fun _ hd => (hS.later hd).cell (i := 0) (j := 3) rfl rfl)) (ocons (show Ob.ok _ Ext _ _ from fun hk w2 hd => pulse_within_ok p0.Second 200 5000 _ rfl _ w2 (memOf_at w2) ) (ocons (ob1 (by kernel_rfl) (fun _ hd => (hS.later hd).cell (i := 0) (j := 2) rfl rfl)) (ocons (ob1 (by kernel_rfl) (fun _ hd => (hS.later hd).cell (i := 0) (j := 3) rfl rfl)) onil)))) fun a w hF hx => ?_
   replace hS := hS.later hx
   refine wfn rfl ?_
   exact ⟨bif (bif c4 then (pulse_within p0.Second 200 5000) else false) then (decide (p0.First < p0.Second)) else false, hF.sub (by kernel_rfl), St.pick [0, 1] (by decide) hS, h⟩
  ·replace h := bif_f h hc
   refine wpIn_skip (norm_then ?_)
   exact ⟨c4, hF.sub (by kernel_rfl), St.pick [0, 1] (by decide) hS, h⟩
 rintro a w ⟨c5, hF, hS, h⟩
 rw [pulse_CheckTrain_K2] at h
 refine eseq ?_
 refine esr ?_
 refine rx 21 [.run [⟨38, false, (!c5)⟩] (Instr.loadAt 3 (pb b1)) (iv p0.Lambda), .call [⟨38, false, (!c5)⟩] 88 #[iv p0.Lambda, iv 10000, iv 1000000] (.bool (pulse_within p0.Lambda 10000 1000000)), .run [⟨44, false, (bif (!c5) then true else (!(pulse_within p0.Lambda 10000 1000000)))⟩] (Instr.loadAt 3 (.pointer (some ⟨b1, 2, none⟩))) (iv p0.First), .call [⟨44, false, (bif (!c5) then true else (!(pulse_within p0.Lambda 10000 1000000)))⟩] 88 #[iv p0.First, iv 200, iv 5000] (.bool (pulse_within p0.First 200 5000)), .run [⟨50, false, (bif (bif (!c5) then true else (!(pulse_within p0.Lambda 10000 1000000))) then true else (!(pulse_within p0.First 200 5000)))⟩] (Instr.loadAt 3 (.pointer (some ⟨b1, 4, none⟩))) (iv p0.Count), .call [⟨50, false, (bif (bif (!c5) then true else (!(pulse_within p0.Lambda 10000 1000000))) then true else (!(pulse_within p0.First 200 5000)))⟩] 88 #[iv p0.Count, iv x3, iv 64] (.bool (pulse_within p0.Count x3 64))] 21 [(56, .bool (bif (bif (bif (!c5) then true else (!(pulse_within p0.Lambda 10000 1000000))) then true else (!(pulse_within p0.First 200 5000))) then true else (!(pulse_within p0.Count x3 64))))] hF (ocons (ob1 (by kernel_rfl) (fun _ hd => (hS.later hd).cell (i := 0) (j := 0) rfl rfl)) (ocons (show Ob.ok _ Ext _ _ from fun hk w2 hd => pulse_within_ok p0.Lambda 10000 1000000 _ rfl _ w2 (memOf_at w2) ) (ocons (ob1 (by kernel_rfl) (fun _ hd => (hS.later hd).cell (i := 0) (j := 2) rfl rfl)) (ocons (show Ob.ok _ Ext _ _ from fun hk w2 hd => pulse_within_ok p0.First 200 5000 _ rfl _ w2 (memOf_at w2) ) (ocons (ob1 (by kernel_rfl) (fun _ hd => (hS.later hd).cell (i := 0) (j := 4) rfl rfl)) (ocons (show Ob.ok _ Ext _ _ from fun hk w2 hd => pulse_within_ok p0.Count x3 64 _ rfl _ w2 (memOf_at w2) ) onil)))))) fun a w hF hx => ?_
 replace hS := hS.later hx
 refine wfn rfl ?_
 refine econd hF rfl (fun hc => ?_) (fun hc => ?_)
 ·replace h := bif_t h hc
  refine esr ?_
  refine rn 1 1 [(2, iv 3)] hF fun a hF => ?_
  refine wfn rfl ?_
  refine wpIn_ret (ret_then <| fn_ret [.tmp 2] [iv 3] hF rfl ⟨rfl, trivial⟩ ?_)
  have hr_ := Option.some.inj h
  subst hr_
  exact ⟨rfl, hS.ext⟩
 ·replace h := bif_f h hc
  refine wpIn_skip (norm_then ?_)
  refine esr ?_
  refine rn 1 1 [(2, iv 0)] hF fun a hF => ?_
  refine wfn rfl ?_
  refine wpIn_ret (fn_ret [.tmp 2] [iv 0] hF rfl ⟨rfl, trivial⟩ ?_)
  have hr_ := Option.some.inj h
  subst hr_
  exact ⟨rfl, hS.ext⟩

theorem pulse_inside_ok (p0 : api_Span) (p1 : Int) (p2 : Int) (res : Bool) (h : pulse_inside p0 p1 p2 = res) (μ : Frz) (w0 : World) (hm : FrzAt μ w0) : Calls Try.prog 89 #[.agg #[iv p0.Lo, iv p0.Hi], iv p1, iv p2] w0 (fun e w => e = .returned (.bool res) ∧ Ext w0 w) := by
 obtain ⟨hlow, hS⟩ := hm.init
 have hext := Frz.ext_refl w0.heap.size μ
 rw [pulse_inside] at h
 refine fn_enterW Try.func89 rfl 24 [(0, .agg #[iv p0.Lo, iv p0.Hi]), (1, iv p1), (2, iv p2)] rfl rfl (by kernel_rfl) fun a w hw hF => ?_
 replace hS : St w0 [fz w0 μ] w := by rw [hw]; exact hS
 clear hw
 refine esr ?_
 refine SK.wi (boxK (t := 25) (fun b1 => [(1, iv p1), (2, iv p2), (3, pb b1)]) (.agg #[iv p0.Lo, iv p0.Hi]) #[iv p0.Lo, iv p0.Hi] hF hS (by kernel_rfl) ⟨by kernel_rfl⟩ (by kernel_rfl) (fun _ => ⟨by kernel_rfl⟩) fun b1 w a hF hS => ?_)
 refine rn 1 2 [(1, iv p1), (2, iv p2), (3, pb b1)] hF fun a hF => ?_
 refine wfn rfl ?_
 refine esr ?_
 refine rno 18 [.run [] (Instr.loadAt 3 (pb b1)) (iv p0.Lo), .run [⟨11, true, (decide (p1 ≤ p0.Lo))⟩] (Instr.loadAt 3 (pb b1)) (iv p0.Lo), .run [⟨11, true, (decide (p1 ≤ p0.Lo))⟩] (Instr.loadAt 3 (.pointer (some ⟨b1, 1, none⟩))) (iv p0.Hi), .run [⟨18, true, (bif (decide (p1 ≤ p0.Lo)) then (decide (p0.Lo ≤ p0.Hi)) else false)⟩] (Instr.loadAt 3 (.pointer (some ⟨b1, 1, none⟩))) (iv p0.Hi)] 18 [(6, .bool (bif (bif (decide (p1 ≤ p0.Lo)) then (decide (p0.Lo ≤ p0.Hi)) else false) then (decide (p0.Hi ≤ p2)) else false))] hF (ocons (ob1 (by kernel_rfl) (fun _ hd => (hS.at_ hd).cell (i := 0) (j := 0) rfl rfl)) (ocons (ob1 (by kernel_rfl) (fun _ hd => (hS.at_ hd).cell (i := 0) (j := 0) rfl rfl)) (ocons (ob1 (by kernel_rfl) (fun _ hd => (hS.at_ hd).cell (i := 0) (j := 1) rfl rfl)) (ocons (ob1 (by kernel_rfl) (fun _ hd => (hS.at_ hd).cell (i := 0) (j := 1) rfl rfl)) onil)))) fun a hF => ?_
 refine wfn rfl ?_
 refine wpIn_ret (fn_ret [.tmp 6] [.bool (bif (bif (decide (p1 ≤ p0.Lo)) then (decide (p0.Lo ≤ p0.Hi)) else false) then (decide (p0.Hi ≤ p2)) else false)] hF rfl ⟨rfl, trivial⟩ ?_)
 subst h
 exact ⟨rfl, hS.ext⟩

theorem pulse_turning_ok (F : Nat) (p0 : (List api_Span)) (res : Bool) (h : pulse_turning F p0 = some res) (μ : Frz) (w0 : World) (hm : FrzAt μ w0) {ad1 : Option Addr} {cap2 : Nat} (hA3 : ArrM μ 2 api_Span.cells ad1 cap2 p0) : Calls Try.prog 90 #[sv ad1 p0 cap2] w0 (fun e w => e = .returned (.bool res) ∧ Ext w0 w) := by
 obtain ⟨hlow, hS⟩ := hm.init
 have hext := Frz.ext_refl w0.heap.size μ
 rw [pulse_turning] at h
 refine fn_enterW Try.func90 rfl 28 [(0, sv ad1 p0 cap2)] rfl rfl (by kernel_rfl) fun a w hw hF => ?_
 replace hS : St w0 [fz w0 μ] w := by rw [hw]; exact hS
 clear hw
 refine esr ?_
 refine rn 1 1 [(0, sv ad1 p0 cap2)] hF fun a hF => ?_
 refine wfn rfl ?_
 refine ecut (fun a w => Fr 28 [] [] a ∧ St w0 [fz w0 μ] w ∧ pulse_turning_K1 = some res) ?_ ?_
 ·skip
  refine esr ?_
  refine rn 3 3 [(5, sv ad1 p0 cap2), (6, iv (ln p0)), (7, iv 0)] hF fun a hF => ?_
  refine wfn rfl ?_
  refine wpIn_block ?_
  refine eloop (fun n_ a w => ∃ (x34 : Int), Fr 28 [] [(5, sv ad1 p0 cap2), (6, iv (ln p0)), (7, iv x34)] a ∧ St w0 [fz w0 μ] w ∧ pulse_turning_L2 p0 n_ x34 = some res) F ⟨0, hF.sub (by kernel_rfl), St.pick [0] (by decide) hS, h⟩ ?_
  rintro n_ a w ⟨x34, hF, hS, h⟩
  rcases n_ with _ | n_
  ·cases (show (none : Option Bool) = some res from h)
  obtain ⟨k2, hk2⟩ : ∃ k, k = pulse_turning_L2 p0 n_ := ⟨_, rfl⟩
  replace h : pulse_turning_B2 p0 k2 x34 = some res := by rw [hk2]; exact h
  rw [pulse_turning_B2] at h
  refine esr ?_
  refine rn 1 1 [(5, sv ad1 p0 cap2), (6, iv (ln p0)), (7, iv x34), (8, .bool (decide (x34 < (ln p0))))] hF fun a hF => ?_
  refine wfn rfl ?_
  refine eseq ?_
  refine econd hF rfl (fun hc => ?_) (fun hc => ?_)
  ·replace h := bif_t h hc
   refine wpIn_skip (norm_then ?_)
   refine eseq ?_
   refine wpIn_block ?_
   refine esr ?_
   replace h := bindS h
   obtain ⟨u36, hu36, h⟩ := h
   refine rno 2 [.run [] (Instr.indexAt 43 (sv ad1 p0 cap2) (iv x34)) (.pointer (some (slAddr ad1 x34 2))), .run [] (Instr.loadAt 25 (.pointer (some (slAddr ad1 x34 2)))) (.agg #[iv u36.Lo, iv u36.Hi])] 2 [(5, sv ad1 p0 cap2), (6, iv (ln p0)), (7, iv x34), (10, .agg #[iv u36.Lo, iv u36.Hi])] hF (ocons (obIdxQ (hA3 _ (hS.frz (i := 0) rfl hlow)) (by kernel_rfl) (fun _ => hu36)) (ocons (obElNQ (m := 2) (i := x34) (us := [iv u36.Lo, iv u36.Hi]) 0 api_Span.cells_len (fun _ hd => (hA3 _ ((hS.at_ hd).frz (i := 0) rfl hlow))) (by kernel_rfl) (fun _ => hu36) ⟨rfl, rfl⟩) onil)) fun a hF => ?_
   refine SK.wi (allocK (t := 25) (fun b37 => [(4, pb b37), (5, sv ad1 p0 cap2), (6, iv (ln p0)), (7, iv x34), (10, .agg #[iv u36.Lo, iv u36.Hi])]) #[iv 0, iv 0] hF hS (by kernel_rfl) ⟨by kernel_rfl⟩ (by kernel_rfl) (fun _ => ⟨by kernel_rfl⟩) fun b37 w a hF hS => ?_)
   refine SK.wi (storeK (t := 25) [(4, pb b37), (5, sv ad1 p0 cap2), (6, iv (ln p0)), (7, iv x34)] 0 0 (.agg #[iv u36.Lo, iv u36.Hi]) #[iv u36.Lo, iv u36.Hi] hF hS rfl (by kernel_rfl) ⟨by kernel_rfl⟩ (by kernel_rfl) (by kernel_rfl) (by kernel_rfl) (by kernel_rfl) ⟨by kernel_rfl⟩ fun w a hF hS => ?_)
   refine wfn rfl ?_
   refine esr ?_
   replace h := bindS h
   obtain ⟨x38, hx38, h⟩ := h
   replace h := bindS h
   obtain ⟨x39, hx39, h⟩ := h
   refine rx 16 [.run [] (Instr.loadAt 3 (pb b37)) (iv u36.Lo), .call [] 88 #[iv u36.Lo, iv (-32768), iv 32767] (.bool (pulse_within u36.Lo (-32768) 32767)), .run [⟨15, false, (!(pulse_within u36.Lo (-32768) 32767))⟩] (Instr.loadAt 3 (.pointer (some ⟨b37, 1, none⟩))) (iv u36.Hi), .run [⟨15, false, (!(pulse_within u36.Lo (-32768) 32767))⟩] (Instr.loadAt 3 (pb b37)) (iv u36.Lo), .run [⟨15, false, (!(pulse_within u36.Lo (-32768) 32767))⟩] (Instr.loadAt 3 (pb b37)) (iv u36.Lo), .run [⟨15, false, (!(pulse_within u36.Lo (-32768) 32767))⟩] (binOp .add 3 (iv u36.Lo) (iv 65536)) (iv x38), .run [⟨15, false, (!(pulse_within u36.Lo (-32768) 32767))⟩] (binOp .sub 3 (iv x38) (iv 1)) (iv x39), .call [⟨15, false, (!(pulse_within u36.Lo (-32768) 32767))⟩] 88 #[iv u36.Hi, iv u36.Lo, iv x39] (.bool (pulse_within u36.Hi u36.Lo x39))] 16 [(5, sv ad1 p0 cap2), (6, iv (ln p0)), (7, iv x34), (26, .bool (bif (!(pulse_within u36.Lo (-32768) 32767)) then true else (!(pulse_within u36.Hi u36.Lo x39))))] hF (ocons (ob1 (by kernel_rfl) (fun _ hd => (hS.later hd).cell (i := 0) (j := 0) rfl rfl)) (ocons (show Ob.ok _ Ext _ _ from fun hk w2 hd => pulse_within_ok u36.Lo (-32768) 32767 _ rfl _ w2 (memOf_at w2) ) (ocons (ob1 (by kernel_rfl) (fun _ hd => (hS.later hd).cell (i := 0) (j := 1) rfl rfl)) (ocons (ob1 (by kernel_rfl) (fun _ hd => (hS.later hd).cell (i := 0) (j := 0) rfl rfl)) (ocons (ob1 (by kernel_rfl) (fun _ hd => (hS.later hd).cell (i := 0) (j := 0) rfl rfl)) (ocons (obAddC (fun hk => gd_some hx38 hk)) (ocons (obSubC (fun hk => gd_some hx39 hk)) (ocons (show Ob.ok _ Ext _ _ from fun hk w2 hd => pulse_within_ok u36.Hi u36.Lo x39 _ rfl _ w2 (memOf_at w2) ) onil)))))))) fun a w hF hx => ?_
   replace hS := hS.later hx
   refine wfn rfl ?_
   refine econd hF rfl (fun hc => ?_) (fun hc => ?_)
   ·replace h := bif_t h hc
    refine esr ?_
    refine rn 1 1 [(2, .bool false)] hF fun a hF => ?_
    refine wfn rfl ?_
    refine wpIn_ret (ret_block <| ret_then <| ret_then <| ret_block <| ret_then <| fn_ret [.tmp 2] [.bool false] hF rfl ⟨rfl, trivial⟩ ?_)
    have hr_ := Option.some.inj h
    subst hr_
    exact ⟨rfl, hS.ext⟩
   ·replace h := bif_f h hc
    refine wpIn_skip (norm_block <| norm_then <| ?_)
    refine WI.region ?_
    replace h := bindS h
    obtain ⟨x40, hx40, h⟩ := h
    refine rno 2 [.run [] (binOp .add 3 (iv x34) (iv 1)) (iv x40)] 2 [(5, sv ad1 p0 cap2), (6, iv (ln p0)), (7, iv x40)] hF (ocons (obAddC (fun _ => hx40)) onil) fun a hF => ?_
    refine wfn rfl ?_
    rw [hk2] at h
    exact ⟨n_, Nat.lt_succ_self _, x40, hF.sub (by kernel_rfl), St.pick [1] (by decide) hS, h⟩
  ·replace h := bif_f h hc
   refine wpIn_exit (exit_then <| exit_then <| exit_hit <| norm_then ?_)
   exact ⟨hF.sub (by kernel_rfl), St.pick [0] (by decide) hS, h⟩
 rintro a w ⟨hF, hS, h⟩
 rw [pulse_turning_K1] at h
 refine esr ?_
 refine rn 1 1 [(2, .bool true)] hF fun a hF => ?_
 refine wfn rfl ?_
 refine wpIn_ret (fn_ret [.tmp 2] [.bool true] hF rfl ⟨rfl, trivial⟩ ?_)
 have hr_ := Option.some.inj h
 subst hr_
 exact ⟨rfl, hS.ext⟩

theorem fold_bound_ok (p0 : Int) (res : Bool) (h : fold_bound p0 = res) (μ : Frz) (w0 : World) (hm : FrzAt μ w0) : Calls Try.prog 52 #[iv p0] w0 (fun e w => e = .returned (.bool res) ∧ Ext w0 w) := by
 obtain ⟨hlow, hS⟩ := hm.init
 have hext := Frz.ext_refl w0.heap.size μ
 rw [fold_bound] at h
 refine fn_enterW Try.func52 rfl 9 [(0, iv p0)] rfl rfl (by kernel_rfl) fun a w hw hF => ?_
 replace hS : St w0 [fz w0 μ] w := by rw [hw]; exact hS
 clear hw
 refine esr ?_
 refine rn 1 1 [(0, iv p0)] hF fun a hF => ?_
 refine wfn rfl ?_
 refine esr ?_
 refine rn 7 7 [(2, .bool (bif (decide (p0 ≥ 1)) then (decide (p0 ≤ 200000)) else false))] hF fun a hF => ?_
 refine wfn rfl ?_
 refine wpIn_ret (fn_ret [.tmp 2] [.bool (bif (decide (p0 ≥ 1)) then (decide (p0 ≤ 200000)) else false)] hF rfl ⟨rfl, trivial⟩ ?_)
 subst h
 exact ⟨rfl, hS.ext⟩

theorem fold_common_ok (p0 : api_Span) (p1 : api_Span) (res : (api_Span × Bool)) (h : fold_common p0 p1 = res) (μ : Frz) (w0 : World) (hm : FrzAt μ w0) : Calls Try.prog 92 #[.agg #[iv p0.Lo, iv p0.Hi], .agg #[iv p1.Lo, iv p1.Hi]] w0 (fun e w => e = .returned (.tuple #[.agg #[iv res.1.Lo, iv res.1.Hi], .bool res.2]) ∧ Ext w0 w) := by
 obtain ⟨hlow, hS⟩ := hm.init
 have hext := Frz.ext_refl w0.heap.size μ
 rw [fold_common] at h
 refine fn_enterW Try.func92 rfl 24 [(0, .agg #[iv p0.Lo, iv p0.Hi]), (1, .agg #[iv p1.Lo, iv p1.Hi])] rfl rfl (by kernel_rfl) fun a w hw hF => ?_
 replace hS : St w0 [fz w0 μ] w := by rw [hw]; exact hS
 clear hw
 refine esr ?_
 refine SK.wi (boxK (t := 25) (fun b1 => [(1, .agg #[iv p1.Lo, iv p1.Hi]), (2, pb b1)]) (.agg #[iv p0.Lo, iv p0.Hi]) #[iv p0.Lo, iv p0.Hi] hF hS (by kernel_rfl) ⟨by kernel_rfl⟩ (by kernel_rfl) (fun _ => ⟨by kernel_rfl⟩) fun b1 w a hF hS => ?_)
 refine SK.wi (boxK (t := 25) (fun b2 => [(2, pb b1), (3, pb b2)]) (.agg #[iv p1.Lo, iv p1.Hi]) #[iv p1.Lo, iv p1.Hi] hF hS (by kernel_rfl) ⟨by kernel_rfl⟩ (by kernel_rfl) (fun _ => ⟨by kernel_rfl⟩) fun b2 w a hF hS => ?_)
 refine SK.wi (allocK (t := 25) (fun b3 => [(2, pb b1), (3, pb b2), (4, pb b3)]) #[iv 0, iv 0] hF hS (by kernel_rfl) ⟨by kernel_rfl⟩ (by kernel_rfl) (fun _ => ⟨by kernel_rfl⟩) fun b3 w a hF hS => ?_)
 refine rn 1 4 [(2, pb b1), (3, pb b2), (4, pb b3)] hF fun a hF => ?_
 refine wfn rfl ?_
 refine esr ?_
 refine rno 11 [.run [] (Instr.loadAt 3 (pb b1)) (iv p0.Lo), .run [] (Instr.loadAt 3 (pb b2)) (iv p1.Lo), .run [] (Instr.loadAt 3 (.pointer (some ⟨b1, 1, none⟩))) (iv p0.Hi), .run [] (Instr.loadAt 3 (.pointer (some ⟨b2, 1, none⟩))) (iv p1.Hi)] 11 [(4, pb b3), (17, .agg #[iv (if p1.Lo > p0.Lo then p1.Lo else p0.Lo), iv (if p1.Hi < p0.Hi then p1.Hi else p0.Hi)])] hF (ocons (ob1 (by kernel_rfl) (fun _ hd => (hS.at_ hd).cell (i := 2) (j := 0) rfl rfl)) (ocons (ob1 (by kernel_rfl) (fun _ hd => (hS.at_ hd).cell (i := 1) (j := 0) rfl rfl)) (ocons (ob1 (by kernel_rfl) (fun _ hd => (hS.at_ hd).cell (i := 2) (j := 1) rfl rfl)) (ocons (ob1 (by kernel_rfl) (fun _ hd => (hS.at_ hd).cell (i := 1) (j := 1) rfl rfl)) onil)))) fun a hF => ?_
 refine SK.wi (allocK (t := 25) (fun b4 => [(4, pb b3), (6, pb b4), (17, .agg #[iv (if p1.Lo > p0.Lo then p1.Lo else p0.Lo), iv (if p1.Hi < p0.Hi then p1.Hi else p0.Hi)])]) #[iv 0, iv 0] hF hS (by kernel_rfl) ⟨by kernel_rfl⟩ (by kernel_rfl) (fun _ => ⟨by kernel_rfl⟩) fun b4 w a hF hS => ?_)
 refine SK.wi (storeK (t := 25) [(4, pb b3), (6, pb b4)] 0 0 (.agg #[iv (if p1.Lo > p0.Lo then p1.Lo else p0.Lo), iv (if p1.Hi < p0.Hi then p1.Hi else p0.Hi)]) #[iv (if p1.Lo > p0.Lo then p1.Lo else p0.Lo), iv (if p1.Hi < p0.Hi then p1.Hi else p0.Hi)] hF hS rfl (by kernel_rfl) ⟨by kernel_rfl⟩ (by kernel_rfl) (by kernel_rfl) (by kernel_rfl) (by kernel_rfl) ⟨by kernel_rfl⟩ fun w a hF hS => ?_)
 refine wfn rfl ?_
 refine eseq ?_
 refine region_treeW 8 [6] _ (D := fun w => St w0 [blk b4 25 #[iv (if p1.Lo > p0.Lo then p1.Lo else p0.Lo), iv (if p1.Hi < p0.Hi then p1.Hi else p0.Hi)], blk b2 25 #[iv p1.Lo, iv p1.Hi], blk b1 25 #[iv p0.Lo, iv p0.Hi]] w ∧ FrzAt μ w) (by kernel_rfl) (by kernel_rfl) hF.size (fun w hx => ?_) (fun _ _ h => h)
 replace hS := hS.later hx
 refine ⟨⟨St.pick [0, 2, 3] (by decide) hS, hS.frz (i := 4) rfl hlow⟩, ?_⟩
 have hcl5 := Frz.le_refl μ
 refine WT.s [0, 1, 2, 3, 4, 5] [6] (by kernel_rfl) (by kernel_rfl) ?_
 refine runC (rest := []) (obs := [.run [] (Instr.loadAt 25 (pb b4)) (.agg #[iv (if p1.Lo > p0.Lo then p1.Lo else p0.Lo), iv (if p1.Hi < p0.Hi then p1.Hi else p0.Hi)]), .run [] (Instr.loadAt 3 (pb b4)) (iv (if p1.Lo > p0.Lo then p1.Lo else p0.Lo)), .run [] (Instr.loadAt 3 (.pointer (some ⟨b4, 1, none⟩))) (iv (if p1.Hi < p0.Hi then p1.Hi else p0.Hi))]) [0, 1, 2, 3, 4, 5] [(4, pb b3), (18, .agg #[iv (if p1.Lo > p0.Lo then p1.Lo else p0.Lo), iv (if p1.Hi < p0.Hi then p1.Hi else p0.Hi)]), (23, .bool (decide ((if p1.Lo > p0.Lo then p1.Lo else p0.Lo) ≤ (if p1.Hi < p0.Hi then p1.Hi else p0.Hi))))] hF (by kernel_rfl) (by kernel_rfl) (ocons (obN (us := [iv (if p1.Lo > p0.Lo then p1.Lo else p0.Lo), iv (if p1.Hi < p0.Hi then p1.Hi else p0.Hi)]) (by kernel_rfl) (fun _ hd => (hd.1.blk (i := 0) rfl).cells rfl)) (ocons (ob1 (by kernel_rfl) (fun _ hd => hd.1.cell (i := 0) (j := 0) rfl rfl)) (ocons (ob1 (by kernel_rfl) (fun _ hd => hd.1.cell (i := 0) (j := 1) rfl rfl)) onil))) ⟨by kernel_rfl⟩ fun a hF => ?_
 refine WRun.fin ?_
 refine all_cons ?_ (all_nil)
 refine storeK (t := 25) [(4, pb b3), (23, .bool (decide ((if p1.Lo > p0.Lo then p1.Lo else p0.Lo) ≤ (if p1.Hi < p0.Hi then p1.Hi else p0.Hi))))] 1 0 (.agg #[iv (if p1.Lo > p0.Lo then p1.Lo else p0.Lo), iv (if p1.Hi < p0.Hi then p1.Hi else p0.Hi)]) #[iv (if p1.Lo > p0.Lo then p1.Lo else p0.Lo), iv (if p1.Hi < p0.Hi then p1.Hi else p0.Hi)] hF hS rfl (by kernel_rfl) ⟨by kernel_rfl⟩ (by kernel_rfl) (by kernel_rfl) (by kernel_rfl) (by kernel_rfl) ⟨by kernel_rfl⟩ fun w a hF hS => ⟨⟨St.pick [0, 2, 3] (by decide) hS, (hS.frz (i := 4) rfl hlow)⟩, ?_⟩
 refine WT.z [7] (by kernel_rfl) ?_
 refine runC (rest := []) (obs := []) [7] [(4, pb b3), (5, .bool (decide ((if p1.Lo > p0.Lo then p1.Lo else p0.Lo) ≤ (if p1.Hi < p0.Hi then p1.Hi else p0.Hi))))] hF (by kernel_rfl) (by kernel_rfl) onil ⟨by kernel_rfl⟩ fun a hF => ?_
 refine WRun.fin ?_
 refine wfn rfl ?_
 refine wpIn_ret (fn_ret [.cell 4 25, .tmp 5] [.agg #[iv (if p1.Lo > p0.Lo then p1.Lo else p0.Lo), iv (if p1.Hi < p0.Hi then p1.Hi else p0.Hi)], .bool (decide ((if p1.Lo > p0.Lo then p1.Lo else p0.Lo) ≤ (if p1.Hi < p0.Hi then p1.Hi else p0.Hi)))] hF rfl ⟨⟨_, rfl, loadVarN (cs := [iv (if p1.Lo > p0.Lo then p1.Lo else p0.Lo), iv (if p1.Hi < p0.Hi then p1.Hi else p0.Hi)]) (by kernel_rfl) ((hS.blk (i := 1) rfl).cells rfl)⟩, rfl, trivial⟩ ?_)
 subst h
 exact ⟨rfl, hS.ext⟩

theorem pulse_down_ok (F : Nat) (p0 : Int) (p1 : Int) (res : Int) (h : pulse_down F p0 p1 = some res) (μ : Frz) (w0 : World) (hm : FrzAt μ w0) : Calls Try.prog 141 #[iv p0, iv p1] w0 (fun e w => e = .returned (iv res) ∧ Ext w0 w) := by
 obtain ⟨hlow, hS⟩ := hm.init
 have hext := Frz.ext_refl w0.heap.size μ
 rw [pulse_down] at h
 refine fn_enterW Try.func141 rfl 17 [(0, iv p0), (1, iv p1)] rfl rfl (by kernel_rfl) fun a w hw hF => ?_
 replace hS : St w0 [fz w0 μ] w := by rw [hw]; exact hS
 clear hw
 refine esr ?_
 refine rn 1 1 [(0, iv p0), (1, iv p1)] hF fun a hF => ?_
 refine wfn rfl ?_
 refine esr ?_
 replace h := bindS h
 obtain ⟨x1, hx1, h⟩ := h
 refine rno 4 [.run [] (binOp .quo 3 (iv p0) (iv p1)) (iv x1)] 4 [(0, iv p0), (1, iv p1), (5, iv x1)] hF (ocons (obQuoC (fun _ => hx1)) onil) fun a hF => ?_
 refine wfn rfl ?_
 refine eseq ?_
 refine esr ?_
 replace h := bindS h
 obtain ⟨x2, hx2, h⟩ := h
 refine rno 5 [.run [] (binOp .mul 3 (iv x1) (iv p1)) (iv x2)] 5 [(5, iv x1), (13, .bool (decide (x2 > p0)))] hF (ocons (obMulC (fun _ => hx2)) onil) fun a hF => ?_
 refine wfn rfl ?_
 refine econd hF rfl (fun hc => ?_) (fun hc => ?_)
 ·replace h := bif_t h hc
  refine WI.region ?_
  replace h := bindS h
  obtain ⟨x3, hx3, h⟩ := h
  refine rno 3 [.run [] (binOp .sub 3 (iv x1) (iv 1)) (iv x3)] 3 [(5, iv x3)] hF (ocons (obSubC (fun _ => hx3)) onil) fun a hF => ?_
  refine wfn rfl ?_
  refine esr ?_
  refine rn 2 2 [(4, iv x3)] hF fun a hF => ?_
  refine wfn rfl ?_
  refine wpIn_ret (fn_ret [.tmp 4] [iv x3] hF rfl ⟨rfl, trivial⟩ ?_)
  have hr_ := Option.some.inj h
  subst hr_
  exact ⟨rfl, hS.ext⟩
 ·replace h := bif_f h hc
  refine wpIn_skip (norm_then ?_)
  refine esr ?_
  refine rn 2 2 [(4, iv x1)] hF fun a hF => ?_
  refine wfn rfl ?_
  refine wpIn_ret (fn_ret [.tmp 4] [iv x1] hF rfl ⟨rfl, trivial⟩ ?_)
  have hr_ := Option.some.inj h
  subst hr_
  exact ⟨rfl, hS.ext⟩

theorem pulse_up_ok (F : Nat) (p0 : Int) (p1 : Int) (res : Int) (h : pulse_up F p0 p1 = some res) (μ : Frz) (w0 : World) (hm : FrzAt μ w0) : Calls Try.prog 142 #[iv p0, iv p1] w0 (fun e w => e = .returned (iv res) ∧ Ext w0 w) := by
 obtain ⟨hlow, hS⟩ := hm.init
 have hext := Frz.ext_refl w0.heap.size μ
 rw [pulse_up] at h
 refine fn_enterW Try.func142 rfl 10 [(0, iv p0), (1, iv p1)] rfl rfl (by kernel_rfl) fun a w hw hF => ?_
 replace hS : St w0 [fz w0 μ] w := by rw [hw]; exact hS
 clear hw
 refine esr ?_
 refine rn 1 1 [(0, iv p0), (1, iv p1)] hF fun a hF => ?_
 refine wfn rfl ?_
 refine esr ?_
 replace h := bindS h
 obtain ⟨y1, hy1, h⟩ := h
 refine rx 6 [.call [] 141 #[iv (IntKind.i64.wrap (0 - p0)), iv p1] (iv y1)] 6 [(4, iv (IntKind.i64.wrap (0 - y1)))] hF (ocons (show Ob.ok _ Ext _ _ from fun hk w2 hd => pulse_down_ok F (IntKind.i64.wrap (0 - p0)) p1 _ ((fun _ => hy1) hk) _ w2 (memOf_at w2) ) onil) fun a w hF hx => ?_
 replace hS := hS.later hx
 refine wfn rfl ?_
 refine wpIn_ret (fn_ret [.tmp 4] [iv (IntKind.i64.wrap (0 - y1))] hF rfl ⟨rfl, trivial⟩ ?_)
 have hr_ := Option.some.inj h
 subst hr_
 exact ⟨rfl, hS.ext⟩

theorem law03_span_ok (p0 : Int) (p1 : Int) (res : api_Span) (h : law03_span p0 p1 = res) (μ : Frz) (w0 : World) (hm : FrzAt μ w0) : Calls Try.prog 46 #[iv p0, iv p1] w0 (fun e w => e = .returned (.agg #[iv res.Lo, iv res.Hi]) ∧ Ext w0 w) := by
 obtain ⟨hlow, hS⟩ := hm.init
 have hext := Frz.ext_refl w0.heap.size μ
 rw [law03_span] at h
 refine fn_enterW Try.func46 rfl 8 [(0, iv p0), (1, iv p1)] rfl rfl (by kernel_rfl) fun a w hw hF => ?_
 replace hS : St w0 [fz w0 μ] w := by rw [hw]; exact hS
 clear hw
 refine esr ?_
 refine SK.wi (allocK (t := 25) (fun b1 => [(0, iv p0), (1, iv p1), (4, pb b1)]) #[iv 0, iv 0] hF hS (by kernel_rfl) ⟨by kernel_rfl⟩ (by kernel_rfl) (fun _ => ⟨by kernel_rfl⟩) fun b1 w a hF hS => ?_)
 refine wfn rfl ?_
 refine esr ?_
 refine rn 3 3 [(4, pb b1), (7, .agg #[iv p0, iv p1])] hF fun a hF => ?_
 refine SK.wi (storeK (t := 25) [(4, pb b1)] 0 0 (.agg #[iv p0, iv p1]) #[iv p0, iv p1] hF hS rfl (by kernel_rfl) ⟨by kernel_rfl⟩ (by kernel_rfl) (by kernel_rfl) (by kernel_rfl) (by kernel_rfl) ⟨by kernel_rfl⟩ fun w a hF hS => ?_)
 refine wfn rfl ?_
 refine wpIn_ret (fn_ret [.cell 4 25] [.agg #[iv p0, iv p1]] hF rfl ⟨⟨_, rfl, loadVarN (cs := [iv p0, iv p1]) (by kernel_rfl) ((hS.blk (i := 0) rfl).cells rfl)⟩, trivial⟩ ?_)
 subst h
 exact ⟨rfl, hS.ext⟩

theorem law03_echo_ok (p0 : api_Span) (p1 : api_Span) (res : api_Echo) (h : law03_echo p0 p1 = res) (μ : Frz) (w0 : World) (hm : FrzAt μ w0) : Calls Try.prog 36 #[.agg #[iv p0.Lo, iv p0.Hi], .agg #[iv p1.Lo, iv p1.Hi]] w0 (fun e w => e = .returned (res.ag) ∧ Ext w0 w) := by
 obtain ⟨hlow, hS⟩ := hm.init
 have hext := Frz.ext_refl w0.heap.size μ
 rw [law03_echo] at h
 refine fn_enterW Try.func36 rfl 10 [(0, .agg #[iv p0.Lo, iv p0.Hi]), (1, .agg #[iv p1.Lo, iv p1.Hi])] rfl rfl (by kernel_rfl) fun a w hw hF => ?_
 replace hS : St w0 [fz w0 μ] w := by rw [hw]; exact hS
 clear hw
 refine esr ?_
 refine SK.wi (boxK (t := 25) (fun b1 => [(1, .agg #[iv p1.Lo, iv p1.Hi]), (2, pb b1)]) (.agg #[iv p0.Lo, iv p0.Hi]) #[iv p0.Lo, iv p0.Hi] hF hS (by kernel_rfl) ⟨by kernel_rfl⟩ (by kernel_rfl) (fun _ => ⟨by kernel_rfl⟩) fun b1 w a hF hS => ?_)
 refine SK.wi (boxK (t := 25) (fun b2 => [(2, pb b1), (3, pb b2)]) (.agg #[iv p1.Lo, iv p1.Hi]) #[iv p1.Lo, iv p1.Hi] hF hS (by kernel_rfl) ⟨by kernel_rfl⟩ (by kernel_rfl) (fun _ => ⟨by kernel_rfl⟩) fun b2 w a hF hS => ?_)
 refine SK.wi (allocK (t := 28) (fun b3 => [(2, pb b1), (3, pb b2), (4, pb b3)]) #[iv 0, iv 0, iv 0, iv 0, iv 0, iv 0, iv 0, iv 0, iv 0, iv 0, iv 0, iv 0, iv 0, iv 0] hF hS (by kernel_rfl) ⟨by kernel_rfl⟩ (by kernel_rfl) (fun _ => ⟨by kernel_rfl⟩) fun b3 w a hF hS => ?_)
 refine wfn rfl ?_
 refine eseq ?_
 refine runD (obs := [.call [] 46 #[iv 1, iv 1] (.agg #[iv ((law03_span 1 1).Lo), iv ((law03_span 1 1).Hi)]), .run [] (Instr.loadAt 25 (pb b1)) (.agg #[iv p0.Lo, iv p0.Hi]), .run [] (Instr.loadAt 25 (pb b2)) (.agg #[iv p1.Lo, iv p1.Hi])]) 5 [(4, pb b3), (9, .agg #[iv 3, iv ((law03_span 1 1).Lo), iv ((law03_span 1 1).Hi), iv p0.Lo, iv p0.Hi, iv p1.Lo, iv p1.Hi, iv 0, iv 0, iv 0, iv 0, iv 0, iv 0, iv 0])] (by kernel_rfl) hF (by kernel_rfl) (ocons (show Ob.ok _ Ext _ _ from fun hk w2 hd => law03_span_ok 1 1 _ rfl _ w2 (memOf_at w2) ) (ocons (obN (us := [iv p0.Lo, iv p0.Hi]) (by kernel_rfl) (fun _ hd => ((hS.later hd).blk (i := 2) rfl).cells rfl)) (ocons (obN (us := [iv p1.Lo, iv p1.Hi]) (by kernel_rfl) (fun _ hd => ((hS.later hd).blk (i := 1) rfl).cells rfl)) onil))) ⟨by kernel_rfl⟩ fun a w hF hx => ?_
 replace hS := hS.later hx
 refine SK.wi (storeK (t := 28) [(4, pb b3)] 0 0 (.agg #[iv 3, iv ((law03_span 1 1).Lo), iv ((law03_span 1 1).Hi), iv p0.Lo, iv p0.Hi, iv p1.Lo, iv p1.Hi, iv 0, iv 0, iv 0, iv 0, iv 0, iv 0, iv 0]) #[iv 3, iv ((law03_span 1 1).Lo), iv ((law03_span 1 1).Hi), iv p0.Lo, iv p0.Hi, iv p1.Lo, iv p1.Hi, iv 0, iv 0, iv 0, iv 0, iv 0, iv 0, iv 0] hF hS rfl (by kernel_rfl) ⟨by kernel_rfl⟩ (by kernel_rfl) (by kernel_rfl) (by kernel_rfl) (by kernel_rfl) ⟨by kernel_rfl⟩ fun w a hF hS => ?_)
 refine wfn rfl ?_
 refine wpIn_ret (fn_ret [.cell 4 28] [.agg #[iv 3, iv ((law03_span 1 1).Lo), iv ((law03_span 1 1).Hi), iv p0.Lo, iv p0.Hi, iv p1.Lo, iv p1.Hi, iv 0, iv 0, iv 0, iv 0, iv 0, iv 0, iv 0]] hF rfl ⟨⟨_, rfl, loadVarN (cs := [iv 3, iv ((law03_span 1 1).Lo), iv ((law03_span 1 1).Hi), iv p0.Lo, iv p0.Hi, iv p1.Lo, iv p1.Hi, iv 0, iv 0, iv 0, iv 0, iv 0, iv 0, iv 0]) (by kernel_rfl) ((hS.blk (i := 0) rfl).cells rfl)⟩, trivial⟩ ?_)
 subst h
 exact ⟨rfl, hS.ext⟩

theorem law03_Air_train_ok (F : Nat) (p0 : law03_Air) (res : pulse_Train) (h : law03_Air_train F p0 = some res) (μ : Frz) (w0 : World) (hm : FrzAt μ w0) {ad1 : Option Addr} {cap2 : Nat} {ad3 : Option Addr} {cap4 : Nat} {ad5 : Option Addr} {cap6 : Nat} (hA7 : ArrM μ 1 (fK .i16) ad1 cap2 p0.Speeds) (hA8 : ArrM μ 1 (fK .u16) ad3 cap4 p0.Less) (hA9 : ArrM μ 1 (fK .u16) ad5 cap6 p0.More) : Calls Try.prog 35 #[.agg #[.int .u8 p0.Kind, .int .u8 p0.Lambda, .int .u16 p0.First, .int .u16 p0.Second, .int .u8 p0.Rose, .int .u8 p0.Gates, .int .i16 p0.Base, sv ad1 p0.Speeds cap2, .int .u32 p0.Blank, sv ad3 p0.Less cap4, sv ad5 p0.More cap6, .int .u16 p0.Jump]] w0 (fun e w => e = .returned (res.ag) ∧ Ext w0 w) := by
 obtain ⟨hlow, hS⟩ := hm.init
 have hext := Frz.ext_refl w0.heap.size μ
 rw [law03_Air_train] at h
 refine fn_enterW Try.func35 rfl 33 [(0, .agg #[.int .u8 p0.Kind, .int .u8 p0.Lambda, .int .u16 p0.First, .int .u16 p0.Second, .int .u8 p0.Rose, .int .u8 p0.Gates, .int .i16 p0.Base, sv ad1 p0.Speeds cap2, .int .u32 p0.Blank, sv ad3 p0.Less cap4, sv ad5 p0.More cap6, .int .u16 p0.Jump])] rfl rfl (by kernel_rfl) fun a w hw hF => ?_
 replace hS : St w0 [fz w0 μ] w := by rw [hw]; exact hS
 clear hw
 refine esr ?_
 refine SK.wi (boxK (t := 72) (fun b10 => [(1, pb b10)]) (.agg #[.int .u8 p0.Kind, .int .u8 p0.Lambda, .int .u16 p0.First, .int .u16 p0.Second, .int .u8 p0.Rose, .int .u8 p0.Gates, .int .i16 p0.Base, sv ad1 p0.Speeds cap2, .int .u32 p0.Blank, sv ad3 p0.Less cap4, sv ad5 p0.More cap6, .int .u16 p0.Jump]) #[.int .u8 p0.Kind, .int .u8 p0.Lambda, .int .u16 p0.First, .int .u16 p0.Second, .int .u8 p0.Rose, .int .u8 p0.Gates, .int .i16 p0.Base, sv ad1 p0.Speeds cap2, .int .u32 p0.Blank, sv ad3 p0.Less cap4, sv ad5 p0.More cap6, .int .u16 p0.Jump] hF hS (by kernel_rfl) ⟨by kernel_rfl⟩ (by kernel_rfl) (fun _ => ⟨by kernel_rfl⟩) fun b10 w a hF hS => ?_)
 refine SK.wi (allocK (t := 33) (fun b11 => [(1, pb b10), (2, pb b11)]) #[iv 0, iv 0, iv 0, iv 0, iv 0] hF hS (by kernel_rfl) ⟨by kernel_rfl⟩ (by kernel_rfl) (fun _ => ⟨by kernel_rfl⟩) fun b11 w a hF hS => ?_)
 refine wfn rfl ?_
 refine esr ?_
 replace h := bindS h
 obtain ⟨x12, hx12, h⟩ := h
 replace h := bindS h
 obtain ⟨x13, hx13, h⟩ := h
 replace h := bindS h
 obtain ⟨x14, hx14, h⟩ := h
 replace h := bindS h
 obtain ⟨x15, hx15, h⟩ := h
 replace h := bindS h
 obtain ⟨x16, hx16, h⟩ := h
 replace h := bindS h
 obtain ⟨x17, hx17, h⟩ := h
 replace h := bindS h
 obtain ⟨x18, hx18, h⟩ := h
 replace h := bindS h
 obtain ⟨x19, hx19, h⟩ := h
 replace h := bindS h
 obtain ⟨x20, hx20, h⟩ := h
 refine rno 16 [.run [] (Instr.loadAt 5 (.pointer (some ⟨b10, 1, none⟩))) (.int .u8 p0.Lambda), .run [] (convert 5 3 (.int .u8 p0.Lambda)) (iv x12), .run [] (binOp .mul 3 (iv 400) (iv x12)) (iv x13), .run [] (binOp .add 3 (iv 30000) (iv x13)) (iv x14), .run [] (Instr.loadAt 5 (pb b10)) (.int .u8 p0.Kind), .run [] (convert 5 3 (.int .u8 p0.Kind)) (iv x15), .run [] (binOp .rem 3 (iv x15) (iv 3)) (iv x16), .run [] (binOp .add 3 (iv 1) (iv x16)) (iv x17), .run [] (Instr.loadAt 66 (.pointer (some ⟨b10, 2, none⟩))) (.int .u16 p0.First), .run [] (convert 66 3 (.int .u16 p0.First)) (iv x18), .run [] (binOp .rem 3 (iv x18) (iv 1000)) (iv x19), .run [] (binOp .add 3 (iv 500) (iv x19)) (iv x20)] 16 [(1, pb b10), (2, pb b11), (19, .agg #[iv x14, iv x17, iv x20, iv 0, iv 4])] hF (ocons (ob1 (by kernel_rfl) (fun _ hd => (hS.at_ hd).cell (i := 1) (j := 1) rfl rfl)) (ocons (obConvC (by kernel_rfl) (by kernel_rfl) (fun _ => hx12)) (ocons (obMulC (fun _ => hx13)) (ocons (obAddC (fun _ => hx14)) (ocons (ob1 (by kernel_rfl) (fun _ hd => (hS.at_ hd).cell (i := 1) (j := 0) rfl rfl)) (ocons (obConvC (by kernel_rfl) (by kernel_rfl) (fun _ => hx15)) (ocons (obRemC (fun _ => hx16)) (ocons (obAddC (fun _ => hx17)) (ocons (ob1 (by kernel_rfl) (fun _ hd => (hS.at_ hd).cell (i := 1) (j := 2) rfl rfl)) (ocons (obConvC (by kernel_rfl) (by kernel_rfl) (fun _ => hx18)) (ocons (obRemC (fun _ => hx19)) (ocons (obAddC (fun _ => hx20)) onil)))))))))))) fun a hF => ?_
 refine SK.wi (allocK (t := 33) (fun b21 => [(1, pb b10), (2, pb b11), (3, pb b21), (19, .agg #[iv x14, iv x17, iv x20, iv 0, iv 4])]) #[iv 0, iv 0, iv 0, iv 0, iv 0] hF hS (by kernel_rfl) ⟨by kernel_rfl⟩ (by kernel_rfl) (fun _ => ⟨by kernel_rfl⟩) fun b21 w a hF hS => ?_)
 refine SK.wi (storeK (t := 33) [(1, pb b10), (2, pb b11), (3, pb b21)] 0 0 (.agg #[iv x14, iv x17, iv x20, iv 0, iv 4]) #[iv x14, iv x17, iv x20, iv 0, iv 4] hF hS rfl (by kernel_rfl) ⟨by kernel_rfl⟩ (by kernel_rfl) (by kernel_rfl) (by kernel_rfl) (by kernel_rfl) ⟨by kernel_rfl⟩ fun w a hF hS => ?_)
 refine wfn rfl ?_
 refine eseq ?_
 refine esr ?_
 refine rno 3 [.run [] (Instr.loadAt 3 (.pointer (some ⟨b21, 1, none⟩))) (iv x17)] 3 [(1, pb b10), (2, pb b11), (3, pb b21), (22, .bool (x17 != 1))] hF (ocons (ob1 (by kernel_rfl) (fun _ hd => (hS.at_ hd).cell (i := 0) (j := 1) rfl rfl)) onil) fun a hF => ?_
 refine wfn rfl ?_
 refine econd hF rfl (fun hc => ?_) (fun hc => ?_)
 ·replace h := bif_t h hc
  refine WI.region ?_
  replace h := bindS h
  obtain ⟨x22, hx22, h⟩ := h
  replace h := bindS h
  obtain ⟨x23, hx23, h⟩ := h
  replace h := bindS h
  obtain ⟨x24, hx24, h⟩ := h
  replace h := bindS h
  obtain ⟨x25, hx25, h⟩ := h
  refine rno 9 [.run [] (Instr.loadAt 3 (.pointer (some ⟨b21, 2, none⟩))) (iv x20), .run [] (binOp .add 3 (iv x20) (iv 1)) (iv x22), .run [] (Instr.loadAt 66 (.pointer (some ⟨b10, 3, none⟩))) (.int .u16 p0.Second), .run [] (convert 66 3 (.int .u16 p0.Second)) (iv x23), .run [] (binOp .rem 3 (iv x23) (iv 1500)) (iv x24), .run [] (binOp .add 3 (iv x22) (iv x24)) (iv x25)] 9 [(2, pb b11), (3, pb b21), (30, iv x25), (31, .pointer (some ⟨b21, 3, none⟩))] hF (ocons (ob1 (by kernel_rfl) (fun _ hd => (hS.at_ hd).cell (i := 0) (j := 2) rfl rfl)) (ocons (obAddC (fun _ => hx22)) (ocons (ob1 (by kernel_rfl) (fun _ hd => (hS.at_ hd).cell (i := 2) (j := 3) rfl rfl)) (ocons (obConvC (by kernel_rfl) (by kernel_rfl) (fun _ => hx23)) (ocons (obRemC (fun _ => hx24)) (ocons (obAddC (fun _ => hx25)) onil)))))) fun a hF => ?_
  refine SK.wi (storeK (t := 3) [(2, pb b11), (3, pb b21)] 0 3 (iv x25) #[iv x14, iv x17, iv x20, iv x25, iv 4] hF hS rfl (by kernel_rfl) ⟨by kernel_rfl⟩ (by kernel_rfl) (by kernel_rfl) (by kernel_rfl) (by kernel_rfl) ⟨by kernel_rfl⟩ fun w a hF hS => ?_)
  refine wfn rfl ?_
  refine esr ?_
  refine rno 1 [.run [] (Instr.loadAt 33 (pb b21)) (.agg #[iv x14, iv x17, iv x20, iv x25, iv 4])] 1 [(2, pb b11), (32, .agg #[iv x14, iv x17, iv x20, iv x25, iv 4])] hF (ocons (obN (us := [iv x14, iv x17, iv x20, iv x25, iv 4]) (by kernel_rfl) (fun _ hd => ((hS.at_ hd).blk (i := 0) rfl).cells rfl)) onil) fun a hF => ?_
  refine SK.wi (storeK (t := 33) [(2, pb b11)] 1 0 (.agg #[iv x14, iv x17, iv x20, iv x25, iv 4]) #[iv x14, iv x17, iv x20, iv x25, iv 4] hF hS rfl (by kernel_rfl) ⟨by kernel_rfl⟩ (by kernel_rfl) (by kernel_rfl) (by kernel_rfl) (by kernel_rfl) ⟨by kernel_rfl⟩ fun w a hF hS => ?_)
  refine wfn rfl ?_
  refine wpIn_ret (fn_ret [.cell 2 33] [.agg #[iv x14, iv x17, iv x20, iv x25, iv 4]] hF rfl ⟨⟨_, rfl, loadVarN (cs := [iv x14, iv x17, iv x20, iv x25, iv 4]) (by kernel_rfl) ((hS.blk (i := 1) rfl).cells rfl)⟩, trivial⟩ ?_)
  have hr_ := Option.some.inj h
  subst hr_
  exact ⟨rfl, hS.ext⟩
 ·replace h := bif_f h hc
  refine wpIn_skip (norm_then ?_)
  refine esr ?_
  refine rno 1 [.run [] (Instr.loadAt 33 (pb b21)) (.agg #[iv x14, iv x17, iv x20, iv 0, iv 4])] 1 [(2, pb b11), (32, .agg #[iv x14, iv x17, iv x20, iv 0, iv 4])] hF (ocons (obN (us := [iv x14, iv x17, iv x20, iv 0, iv 4]) (by kernel_rfl) (fun _ hd => ((hS.at_ hd).blk (i := 0) rfl).cells rfl)) onil) fun a hF => ?_
  refine SK.wi (storeK (t := 33) [(2, pb b11)] 1 0 (.agg #[iv x14, iv x17, iv x20, iv 0, iv 4]) #[iv x14, iv x17, iv x20, iv 0, iv 4] hF hS rfl (by kernel_rfl) ⟨by kernel_rfl⟩ (by kernel_rfl) (by kernel_rfl) (by kernel_rfl) (by kernel_rfl) ⟨by kernel_rfl⟩ fun w a hF hS => ?_)
  refine wfn rfl ?_
  refine wpIn_ret (fn_ret [.cell 2 33] [.agg #[iv x14, iv x17, iv x20, iv 0, iv 4]] hF rfl ⟨⟨_, rfl, loadVarN (cs := [iv x14, iv x17, iv x20, iv 0, iv 4]) (by kernel_rfl) ((hS.blk (i := 1) rfl).cells rfl)⟩, trivial⟩ ?_)
  have hr_ := Option.some.inj h
  subst hr_
  exact ⟨rfl, hS.ext⟩

theorem law03_down_ok (F : Nat) (p0 : Int) (p1 : Int) (res : Int) (h : law03_down F p0 p1 = some res) (μ : Frz) (w0 : World) (hm : FrzAt μ w0) : Calls Try.prog 84 #[iv p0, iv p1] w0 (fun e w => e = .returned (iv res) ∧ Ext w0 w) := by
 obtain ⟨hlow, hS⟩ := hm.init
 have hext := Frz.ext_refl w0.heap.size μ
 rw [law03_down] at h
 refine fn_enterW Try.func84 rfl 16 [(0, iv p0), (1, iv p1)] rfl rfl (by kernel_rfl) fun a w hw hF => ?_
 replace hS : St w0 [fz w0 μ] w := by rw [hw]; exact hS
 clear hw
 refine esr ?_
 refine rn 1 1 [(0, iv p0), (1, iv p1)] hF fun a hF => ?_
 refine wfn rfl ?_
 refine esr ?_
 replace h := bindS h
 obtain ⟨x1, hx1, h⟩ := h
 refine rno 4 [.run [] (binOp .quo 3 (iv p0) (iv p1)) (iv x1)] 4 [(0, iv p0), (1, iv p1), (5, iv x1)] hF (ocons (obQuoC (fun _ => hx1)) onil) fun a hF => ?_
 refine wfn rfl ?_
 refine eseq ?_
 refine esr ?_
 replace h := bindS h
 obtain ⟨x2, hx2, h⟩ := h
 refine rno 4 [.run [] (binOp .rem 3 (iv p0) (iv p1)) (iv x2)] 4 [(5, iv x1), (12, .bool (decide (x2 < 0)))] hF (ocons (obRemC (fun _ => hx2)) onil) fun a hF => ?_
 refine wfn rfl ?_
 refine econd hF rfl (fun hc => ?_) (fun hc => ?_)
 ·replace h := bif_t h hc
  refine WI.region ?_
  replace h := bindS h
  obtain ⟨x3, hx3, h⟩ := h
  refine rno 3 [.run [] (binOp .sub 3 (iv x1) (iv 1)) (iv x3)] 3 [(5, iv x3)] hF (ocons (obSubC (fun _ => hx3)) onil) fun a hF => ?_
  refine wfn rfl ?_
  refine esr ?_
  refine rn 2 2 [(4, iv x3)] hF fun a hF => ?_
  refine wfn rfl ?_
  refine wpIn_ret (fn_ret [.tmp 4] [iv x3] hF rfl ⟨rfl, trivial⟩ ?_)
  have hr_ := Option.some.inj h
  subst hr_
  exact ⟨rfl, hS.ext⟩
 ·replace h := bif_f h hc
  refine wpIn_skip (norm_then ?_)
  refine esr ?_
  refine rn 2 2 [(4, iv x1)] hF fun a hF => ?_
  refine wfn rfl ?_
  refine wpIn_ret (fn_ret [.tmp 4] [iv x1] hF rfl ⟨rfl, trivial⟩ ?_)
  have hr_ := Option.some.inj h
  subst hr_
  exact ⟨rfl, hS.ext⟩

theorem law03_step_ok (F : Nat) (p0 : pulse_Train) (p1 : Int) (p2 : Int) (p3 : Int) (p4 : Int) (res : api_Span) (h : law03_step F p0 p1 p2 p3 p4 = some res) (μ : Frz) (w0 : World) (hm : FrzAt μ w0) : Calls Try.prog 37 #[p0.ag, iv p1, iv p2, iv p3, iv p4] w0 (fun e w => e = .returned (.agg #[iv res.Lo, iv res.Hi]) ∧ Ext w0 w) := by
 obtain ⟨hlow, hS⟩ := hm.init
 have hext := Frz.ext_refl w0.heap.size μ
 rw [law03_step] at h
 refine fn_enterW Try.func37 rfl 49 [(0, p0.ag), (1, iv p1), (2, iv p2), (3, iv p3), (4, iv p4)] rfl rfl (by kernel_rfl) fun a w hw hF => ?_
 replace hS : St w0 [fz w0 μ] w := by rw [hw]; exact hS
 clear hw
 refine esr ?_
 refine SK.wi (boxK (t := 33) (fun b1 => [(1, iv p1), (2, iv p2), (3, iv p3), (4, iv p4), (5, pb b1)]) (p0.ag) p0.ar hF hS (by kernel_rfl) ⟨by kernel_rfl⟩ (by kernel_rfl) (fun _ => ⟨by kernel_rfl⟩) fun b1 w a hF hS => ?_)
 refine SK.wi (allocK (t := 25) (fun b2 => [(1, iv p1), (2, iv p2), (3, iv p3), (4, iv p4), (5, pb b1), (10, pb b2)]) #[iv 0, iv 0] hF hS (by kernel_rfl) ⟨by kernel_rfl⟩ (by kernel_rfl) (fun _ => ⟨by kernel_rfl⟩) fun b2 w a hF hS => ?_)
 refine wfn rfl ?_
 refine eseq ?_
 replace h := bindS h
 obtain ⟨x3, hx3, h⟩ := h
 replace h := bindS h
 obtain ⟨x4, hx4, h⟩ := h
 replace h := bindS h
 obtain ⟨x5, hx5, h⟩ := h
 refine runD (obs := [.run [] (binOp .mul 3 (iv p2) (iv 65536)) (iv x3), .run [] (binOp .mul 3 (iv x3) (iv p1)) (iv x4), .run [] (Instr.loadAt 3 (pb b1)) (iv p0.Lambda), .run [] (binOp .mul 3 (iv 500) (iv p0.Lambda)) (iv x5)]) 9 [(3, iv p3), (4, iv p4), (10, pb b2), (11, iv x4), (12, iv x5)] (by kernel_rfl) hF (by kernel_rfl) (ocons (obMulC (fun _ => hx3)) (ocons (obMulC (fun _ => hx4)) (ocons (ob1 (by kernel_rfl) (fun _ hd => (hS.later hd).cell (i := 1) (j := 0) rfl rfl)) (ocons (obMulC (fun _ => hx5)) onil)))) ⟨by kernel_rfl⟩ fun a w hF hx => ?_
 replace hS := hS.later hx
 refine wfn rfl ?_
 refine esr ?_
 replace h := bindS h
 obtain ⟨y6, hy6, h⟩ := h
 replace h := bindS h
 obtain ⟨x7, hx7, h⟩ := h
 replace h := bindS h
 obtain ⟨y8, hy8, h⟩ := h
 replace h := bindS h
 obtain ⟨x9, hx9, h⟩ := h
 refine rx 13 [.call [] 84 #[iv x4, iv x5] (iv y6), .run [] (binOp .sub 3 (iv y6) (iv p3)) (iv x7), .call [] 84 #[iv (IntKind.i64.wrap (0 - x4)), iv x5] (iv y8), .run [] (binOp .add 3 (iv (IntKind.i64.wrap (0 - y8))) (iv p4)) (iv x9), .call [] 46 #[iv x7, iv x9] (.agg #[iv ((law03_span x7 x9).Lo), iv ((law03_span x7 x9).Hi)])] 13 [(10, pb b2), (34, .agg #[iv ((law03_span x7 x9).Lo), iv ((law03_span x7 x9).Hi)])] hF (ocons (show Ob.ok _ Ext _ _ from fun hk w2 hd => law03_down_ok F x4 x5 _ ((fun _ => hy6) hk) _ w2 (memOf_at w2) ) (ocons (obSubC (fun _ => hx7)) (ocons (show Ob.ok _ Ext _ _ from fun hk w2 hd => law03_down_ok F (IntKind.i64.wrap (0 - x4)) x5 _ ((fun _ => hy8) hk) _ w2 (memOf_at w2) ) (ocons (obAddC (fun _ => hx9)) (ocons (show Ob.ok _ Ext _ _ from fun hk w2 hd => law03_span_ok x7 x9 _ rfl _ w2 (memOf_at w2) ) onil))))) fun a w hF hx => ?_
 replace hS := hS.later hx
 refine SK.wi (allocK (t := 25) (fun b10 => [(10, pb b2), (13, pb b10), (34, .agg #[iv ((law03_span x7 x9).Lo), iv ((law03_span x7 x9).Hi)])]) #[iv 0, iv 0] hF hS (by kernel_rfl) ⟨by kernel_rfl⟩ (by kernel_rfl) (fun _ => ⟨by kernel_rfl⟩) fun b10 w a hF hS => ?_)
 refine SK.wi (storeK (t := 25) [(10, pb b2), (13, pb b10)] 0 0 (.agg #[iv ((law03_span x7 x9).Lo), iv ((law03_span x7 x9).Hi)]) #[iv ((law03_span x7 x9).Lo), iv ((law03_span x7 x9).Hi)] hF hS rfl (by kernel_rfl) ⟨by kernel_rfl⟩ (by kernel_rfl) (by kernel_rfl) (by kernel_rfl) (by kernel_rfl) ⟨by kernel_rfl⟩ fun w a hF hS => ?_)
 refine wfn rfl ?_
 refine esr ?_
 replace h := bindS h
 obtain ⟨x11, hx11, h⟩ := h
 replace h := bindS h
 obtain ⟨y12, hy12, h⟩ := h
 replace h := bindS h
 obtain ⟨x13, hx13, h⟩ := h
 refine rx 6 [.run [] (Instr.loadAt 3 (pb b10)) (iv ((law03_span x7 x9).Lo)), .run [] (binOp .add 3 (iv ((law03_span x7 x9).Lo)) (iv 32768)) (iv x11), .call [] 84 #[iv x11, iv 65536] (iv y12), .run [] (binOp .mul 3 (iv y12) (iv 65536)) (iv x13)] 6 [(10, pb b2), (13, pb b10), (14, iv x13)] hF (ocons (ob1 (by kernel_rfl) (fun _ hd => (hS.later hd).cell (i := 0) (j := 0) rfl rfl)) (ocons (obAddC (fun _ => hx11)) (ocons (show Ob.ok _ Ext _ _ from fun hk w2 hd => law03_down_ok F x11 65536 _ ((fun _ => hy12) hk) _ w2 (memOf_at w2) ) (ocons (obMulC (fun _ => hx13)) onil)))) fun a w hF hx => ?_
 replace hS := hS.later hx
 refine wfn rfl ?_
 refine esr ?_
 replace h := bindS h
 obtain ⟨x14, hx14, h⟩ := h
 replace h := bindS h
 obtain ⟨x15, hx15, h⟩ := h
 refine rx 9 [.run [] (Instr.loadAt 3 (pb b10)) (iv ((law03_span x7 x9).Lo)), .run [] (binOp .sub 3 (iv ((law03_span x7 x9).Lo)) (iv x13)) (iv x14), .run [] (Instr.loadAt 3 (.pointer (some ⟨b10, 1, none⟩))) (iv ((law03_span x7 x9).Hi)), .run [] (binOp .sub 3 (iv ((law03_span x7 x9).Hi)) (iv x13)) (iv x15), .call [] 46 #[iv x14, iv x15] (.agg #[iv ((law03_span x14 x15).Lo), iv ((law03_span x14 x15).Hi)])] 9 [(10, pb b2), (48, .agg #[iv ((law03_span x14 x15).Lo), iv ((law03_span x14 x15).Hi)])] hF (ocons (ob1 (by kernel_rfl) (fun _ hd => (hS.later hd).cell (i := 0) (j := 0) rfl rfl)) (ocons (obSubC (fun _ => hx14)) (ocons (ob1 (by kernel_rfl) (fun _ hd => (hS.later hd).cell (i := 0) (j := 1) rfl rfl)) (ocons (obSubC (fun _ => hx15)) (ocons (show Ob.ok _ Ext _ _ from fun hk w2 hd => law03_span_ok x14 x15 _ rfl _ w2 (memOf_at w2) ) onil))))) fun a w hF hx => ?_
 replace hS := hS.later hx
 refine SK.wi (storeK (t := 25) [(10, pb b2)] 1 0 (.agg #[iv ((law03_span x14 x15).Lo), iv ((law03_span x14 x15).Hi)]) #[iv ((law03_span x14 x15).Lo), iv ((law03_span x14 x15).Hi)] hF hS rfl (by kernel_rfl) ⟨by kernel_rfl⟩ (by kernel_rfl) (by kernel_rfl) (by kernel_rfl) (by kernel_rfl) ⟨by kernel_rfl⟩ fun w a hF hS => ?_)
 refine wfn rfl ?_
 refine wpIn_ret (fn_ret [.cell 10 25] [.agg #[iv ((law03_span x14 x15).Lo), iv ((law03_span x14 x15).Hi)]] hF rfl ⟨⟨_, rfl, loadVarN (cs := [iv ((law03_span x14 x15).Lo), iv ((law03_span x14 x15).Hi)]) (by kernel_rfl) ((hS.blk (i := 1) rfl).cells rfl)⟩, trivial⟩ ?_)
 have hr_ := Option.some.inj h
 subst hr_
 exact ⟨rfl, hS.ext⟩

theorem law03_among_ok (F : Nat) (p0 : (List fold_Guess)) (p1 : Int) (p2 : api_Span) (res : Bool) (h : law03_among F p0 p1 p2 = some res) (μ : Frz) (w0 : World) (hm : FrzAt μ w0) {ad1 : Option Addr} {cap2 : Nat} (hA3 : ArrM μ 4 fold_Guess.cells ad1 cap2 p0) : Calls Try.prog 38 #[sv ad1 p0 cap2, iv p1, .agg #[iv p2.Lo, iv p2.Hi]] w0 (fun e w => e = .returned (.bool res) ∧ Ext w0 w) := by
 obtain ⟨hlow, hS⟩ := hm.init
 have hext := Frz.ext_refl w0.heap.size μ
 rw [law03_among] at h
 refine fn_enterW Try.func38 rfl 35 [(0, sv ad1 p0 cap2), (1, iv p1), (2, .agg #[iv p2.Lo, iv p2.Hi])] rfl rfl (by kernel_rfl) fun a w hw hF => ?_
 replace hS : St w0 [fz w0 μ] w := by rw [hw]; exact hS
 clear hw
 refine esr ?_
 refine SK.wi (boxK (t := 25) (fun b4 => [(0, sv ad1 p0 cap2), (1, iv p1), (5, pb b4)]) (.agg #[iv p2.Lo, iv p2.Hi]) #[iv p2.Lo, iv p2.Hi] hF hS (by kernel_rfl) ⟨by kernel_rfl⟩ (by kernel_rfl) (fun _ => ⟨by kernel_rfl⟩) fun b4 w a hF hS => ?_)
 refine rn 1 2 [(0, sv ad1 p0 cap2), (1, iv p1), (5, pb b4)] hF fun a hF => ?_
 refine wfn rfl ?_
 refine ecut (fun a w => Fr 35 [] [] a ∧ St w0 [blk b4 25 #[iv p2.Lo, iv p2.Hi], fz w0 μ] w ∧ law03_among_K1 = some res) ?_ ?_
 ·skip
  refine esr ?_
  refine rn 3 3 [(1, iv p1), (5, pb b4), (9, sv ad1 p0 cap2), (10, iv (ln p0)), (11, iv 0)] hF fun a hF => ?_
  refine wfn rfl ?_
  refine wpIn_block ?_
  refine eloop (fun n_ a w => ∃ (x25 : Int), Fr 35 [] [(1, iv p1), (5, pb b4), (9, sv ad1 p0 cap2), (10, iv (ln p0)), (11, iv x25)] a ∧ St w0 [blk b4 25 #[iv p2.Lo, iv p2.Hi], fz w0 μ] w ∧ law03_among_L2 p0 p1 p2 n_ x25 = some res) F ⟨0, hF.sub (by kernel_rfl), St.pick [0, 1] (by decide) hS, h⟩ ?_
  rintro n_ a w ⟨x25, hF, hS, h⟩
  rcases n_ with _ | n_
  ·cases (show (none : Option Bool) = some res from h)
  obtain ⟨k2, hk2⟩ : ∃ k, k = law03_among_L2 p0 p1 p2 n_ := ⟨_, rfl⟩
  replace h : law03_among_B2 p0 p1 p2 k2 x25 = some res := by rw [hk2]; exact h
  rw [law03_among_B2] at h
  refine esr ?_
  refine rn 1 1 [(1, iv p1), (5, pb b4), (9, sv ad1 p0 cap2), (10, iv (ln p0)), (11, iv x25), (12, .bool (decide (x25 < (ln p0))))] hF fun a hF => ?_
  refine wfn rfl ?_
  refine eseq ?_
  refine econd hF rfl (fun hc => ?_) (fun hc => ?_)
  ·replace h := bif_t h hc
   refine wpIn_skip (norm_then ?_)
   refine eseq ?_
   refine wpIn_block ?_
   refine esr ?_
   replace h := bindS h
   obtain ⟨u27, hu27, h⟩ := h
   refine rno 2 [.run [] (Instr.indexAt 29 (sv ad1 p0 cap2) (iv x25)) (.pointer (some (slAddr ad1 x25 4))), .run [] (Instr.loadAt 79 (.pointer (some (slAddr ad1 x25 4)))) (u27.ag)] 2 [(1, iv p1), (5, pb b4), (9, sv ad1 p0 cap2), (10, iv (ln p0)), (11, iv x25), (14, u27.ag)] hF (ocons (obIdxQ (hA3 _ (hS.frz (i := 1) rfl hlow)) (by kernel_rfl) (fun _ => hu27)) (ocons (obElNQ (m := 4) (i := x25) (us := u27.cells) 0 fold_Guess.cells_len (fun _ hd => (hA3 _ ((hS.at_ hd).frz (i := 1) rfl hlow))) (by kernel_rfl) (fun _ => hu27) ⟨rfl, rfl⟩) onil)) fun a hF => ?_
   refine SK.wi (allocK (t := 79) (fun b28 => [(1, iv p1), (5, pb b4), (8, pb b28), (9, sv ad1 p0 cap2), (10, iv (ln p0)), (11, iv x25), (14, u27.ag)]) #[iv 0, iv 0, iv 0, iv 0] hF hS (by kernel_rfl) ⟨by kernel_rfl⟩ (by kernel_rfl) (fun _ => ⟨by kernel_rfl⟩) fun b28 w a hF hS => ?_)
   refine SK.wi (storeK (t := 79) [(1, iv p1), (5, pb b4), (8, pb b28), (9, sv ad1 p0 cap2), (10, iv (ln p0)), (11, iv x25)] 0 0 (u27.ag) u27.ar hF hS rfl (by kernel_rfl) ⟨by kernel_rfl⟩ (by kernel_rfl) (by kernel_rfl) (by kernel_rfl) (by kernel_rfl) ⟨by kernel_rfl⟩ fun w a hF hS => ?_)
   refine wfn rfl ?_
   refine esr ?_
   refine rno 5 [.run [] (Instr.indexAt 77 (pb b28) (iv 0)) (pb b28), .run [] (Instr.loadAt 3 (pb b28)) (iv u27.Whole.1)] 5 [(1, iv p1), (5, pb b4), (8, pb b28), (9, sv ad1 p0 cap2), (10, iv (ln p0)), (11, iv x25), (19, .bool (u27.Whole.1 == p1))] hF (ocons (obPureSem (by kernel_rfl)) (ocons (ob1 (by kernel_rfl) (fun _ hd => (hS.at_ hd).cell (i := 0) (j := 0) rfl rfl)) onil)) fun a hF => ?_
   refine wfn rfl ?_
   refine econd hF rfl (fun hc => ?_) (fun hc => ?_)
   ·replace h := bif_t h hc
    refine esr ?_
    refine rno 15 [.run [] (Instr.loadAt 3 (.pointer (some ⟨b28, 2, none⟩))) (iv u27.Speed.Lo), .run [] (Instr.loadAt 3 (pb b4)) (iv p2.Lo), .run [⟨26, true, (decide (u27.Speed.Lo ≤ p2.Lo))⟩] (Instr.loadAt 3 (.pointer (some ⟨b28, 3, none⟩))) (iv u27.Speed.Hi), .run [⟨26, true, (decide (u27.Speed.Lo ≤ p2.Lo))⟩] (Instr.loadAt 3 (.pointer (some ⟨b4, 1, none⟩))) (iv p2.Hi)] 15 [(6, .bool (bif (decide (u27.Speed.Lo ≤ p2.Lo)) then (decide (u27.Speed.Hi ≥ p2.Hi)) else false))] hF (ocons (ob1 (by kernel_rfl) (fun _ hd => (hS.at_ hd).cell (i := 0) (j := 2) rfl rfl)) (ocons (ob1 (by kernel_rfl) (fun _ hd => (hS.at_ hd).cell (i := 1) (j := 0) rfl rfl)) (ocons (ob1 (by kernel_rfl) (fun _ hd => (hS.at_ hd).cell (i := 0) (j := 3) rfl rfl)) (ocons (ob1 (by kernel_rfl) (fun _ hd => (hS.at_ hd).cell (i := 1) (j := 1) rfl rfl)) onil)))) fun a hF => ?_
    refine wfn rfl ?_
    refine wpIn_ret (ret_block <| ret_then <| ret_then <| ret_block <| ret_then <| fn_ret [.tmp 6] [.bool (bif (decide (u27.Speed.Lo ≤ p2.Lo)) then (decide (u27.Speed.Hi ≥ p2.Hi)) else false)] hF rfl ⟨rfl, trivial⟩ ?_)
    have hr_ := Option.some.inj h
    subst hr_
    exact ⟨rfl, hS.ext⟩
   ·replace h := bif_f h hc
    refine wpIn_skip (norm_block <| norm_then <| ?_)
    refine WI.region ?_
    replace h := bindS h
    obtain ⟨x29, hx29, h⟩ := h
    refine rno 2 [.run [] (binOp .add 3 (iv x25) (iv 1)) (iv x29)] 2 [(1, iv p1), (5, pb b4), (9, sv ad1 p0 cap2), (10, iv (ln p0)), (11, iv x29)] hF (ocons (obAddC (fun _ => hx29)) onil) fun a hF => ?_
    refine wfn rfl ?_
    rw [hk2] at h
    exact ⟨n_, Nat.lt_succ_self _, x29, hF.sub (by kernel_rfl), St.pick [1, 2] (by decide) hS, h⟩
  ·replace h := bif_f h hc
   refine wpIn_exit (exit_then <| exit_then <| exit_hit <| norm_then ?_)
   exact ⟨hF.sub (by kernel_rfl), St.pick [0, 1] (by decide) hS, h⟩
 rintro a w ⟨hF, hS, h⟩
 rw [law03_among_K1] at h
 refine esr ?_
 refine rn 1 1 [(6, .bool false)] hF fun a hF => ?_
 refine wfn rfl ?_
 refine wpIn_ret (fn_ret [.tmp 6] [.bool false] hF rfl ⟨rfl, trivial⟩ ?_)
 have hr_ := Option.some.inj h
 subst hr_
 exact ⟨rfl, hS.ext⟩
end Go.Proofs.Ytbhjgebjojdohaa
