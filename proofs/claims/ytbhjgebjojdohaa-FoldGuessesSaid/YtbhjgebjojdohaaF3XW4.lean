/- Walks, written by program (wip/gen/dec.py). -/
import Derived.Test.YtbhjgebjojdohaaF3XD
import Derived.Test.YtbhjgebjojdohaaProg
import Derived.Test.YtbhjgebjojdohaaF3XW0
import Derived.Test.YtbhjgebjojdohaaF3XW1
import Derived.Test.YtbhjgebjojdohaaF3XW2
import Derived.Test.YtbhjgebjojdohaaF3XW3
namespace Go.Proofs.Ytbhjgebjojdohaa
open Go Go.RowKit Go.Eng
set_option maxRecDepth 10000
set_option maxHeartbeats 4000000
set_option linter.unusedVariables false
set_option linter.unusedSimpArgs false
theorem fold_options_ok (p0 : pulse_Train) (p1 : api_Echo) (p2 : Int) (p3 : Int) (res : Unit) (h : fold_options p0 p1 p2 p3 = res) (μ : Frz) (w0 : World) (hm : FrzAt μ w0) : Calls Try.prog 113 #[p0.ag, p1.ag, iv p2, iv p3] w0 (fun e w => ∃ zb0 zb1 zb2 zb3, e = .returned (.func (.func 124) #[] #[pb zb0, pb zb1, pb zb2, pb zb3]) ∧ St w0 [blk zb0 33 p0.ar, blk zb1 3 #[iv p2], blk zb2 28 p1.ar, blk zb3 3 #[iv p3]] w) := by
 obtain ⟨hlow, hS⟩ := hm.init
 have hext := Frz.ext_refl w0.heap.size μ
 rw [fold_options] at h
 refine fn_enterW Try.func113 rfl 10 [(0, p0.ag), (1, p1.ag), (2, iv p2), (3, iv p3)] rfl rfl (by kernel_rfl) fun a w hw hF => ?_
 replace hS : St w0 [fz w0 μ] w := by rw [hw]; exact hS
 clear hw
 refine esr ?_
 refine SK.wi (boxK (t := 33) (fun b1 => [(1, p1.ag), (2, iv p2), (3, iv p3), (4, pb b1)]) (p0.ag) p0.ar hF hS (by kernel_rfl) ⟨by kernel_rfl⟩ (by kernel_rfl) (fun _ => ⟨by kernel_rfl⟩) fun b1 w a hF hS => ?_)
 refine SK.wi (boxK (t := 28) (fun b2 => [(2, iv p2), (3, iv p3), (4, pb b1), (5, pb b2)]) (p1.ag) p1.ar hF hS (by kernel_rfl) ⟨by kernel_rfl⟩ (by kernel_rfl) (fun _ => ⟨by kernel_rfl⟩) fun b2 w a hF hS => ?_)
 refine SK.wi (boxK (t := 3) (fun b3 => [(3, iv p3), (4, pb b1), (5, pb b2), (6, pb b3)]) (iv p2) #[iv p2] hF hS (by kernel_rfl) ⟨by kernel_rfl⟩ (by kernel_rfl) (fun _ => ⟨by kernel_rfl⟩) fun b3 w a hF hS => ?_)
 refine SK.wi (boxK (t := 3) (fun b4 => [(4, pb b1), (5, pb b2), (6, pb b3), (7, pb b4)]) (iv p3) #[iv p3] hF hS (by kernel_rfl) ⟨by kernel_rfl⟩ (by kernel_rfl) (fun _ => ⟨by kernel_rfl⟩) fun b4 w a hF hS => ?_)
 refine rn 1 5 [(4, pb b1), (5, pb b2), (6, pb b3), (7, pb b4)] hF fun a hF => ?_
 refine wfn rfl ?_
 refine esr ?_
 refine rn 2 2 [(8, .func (.func 124) #[] #[pb b1, pb b3, pb b2, pb b4])] hF fun a hF => ?_
 refine wfn rfl ?_
 refine wpIn_ret (fn_ret [.tmp 8] [.func (.func 124) #[] #[pb b1, pb b3, pb b2, pb b4]] hF rfl ⟨rfl, trivial⟩ ?_)
 subst h
 exact ⟨b1, b3, b2, b4, rfl, St.pick [3, 1, 2, 0] (by decide) hS⟩

theorem ref03_Guesses_ok (F : Nat) (p0 : ref02_Train) (p1 : api_Echo) (p2 : Int) (res : ((List ref03_Guess) × Int)) (h : ref03_Guesses F p0 p1 p2 = some res) (μ : Frz) (w0 : World) (hm : FrzAt μ w0) : Calls Try.prog 15 #[p0.ag, p1.ag, iv p2] w0 (fun e w => ∃ zad0 zcap0, e = .returned (.tuple #[sv zad0 res.1 zcap0, iv res.2]) ∧ St w0 [arr 127 4 ref03_Guess.cells zad0 res.1.length zcap0 res.1] w) := by
 obtain ⟨hlow, hS⟩ := hm.init
 have hext := Frz.ext_refl w0.heap.size μ
 rw [ref03_Guesses] at h
 refine fn_enterW Try.func15 rfl 131 [(0, p0.ag), (1, p1.ag), (2, iv p2)] rfl rfl (by kernel_rfl) fun a w hw hF => ?_
 replace hS : St w0 [fz w0 μ] w := by rw [hw]; exact hS
 clear hw
 refine esr ?_
 refine SK.wi (boxK (t := 23) (fun b1 => [(1, p1.ag), (2, iv p2), (3, pb b1)]) (p0.ag) p0.ar hF hS (by kernel_rfl) ⟨by kernel_rfl⟩ (by kernel_rfl) (fun _ => ⟨by kernel_rfl⟩) fun b1 w a hF hS => ?_)
 refine SK.wi (boxK (t := 28) (fun b2 => [(2, iv p2), (3, pb b1), (4, pb b2)]) (p1.ag) p1.ar hF hS (by kernel_rfl) ⟨by kernel_rfl⟩ (by kernel_rfl) (fun _ => ⟨by kernel_rfl⟩) fun b2 w a hF hS => ?_)
 refine rn 2 4 [(2, iv p2), (3, pb b1), (4, pb b2)] hF fun a hF => ?_
 refine wfn rfl ?_
 refine esr ?_
 replace h := bindS h
 obtain ⟨y3, hy3, h⟩ := h
 refine rx 3 [.run [] (Instr.loadAt 23 (pb b1)) (p0.ag), .call [] 54 #[p0.ag] (iv y3)] 3 [(2, iv p2), (3, pb b1), (4, pb b2), (8, iv y3)] hF (ocons (obN (us := p0.cells) (by kernel_rfl) (fun _ hd => ((hS.later hd).blk (i := 1) rfl).cells rfl)) (ocons (show Ob.ok _ Ext _ _ from fun hk w2 hd => ref02_CheckTrain_ok F p0 _ ((fun _ => hy3) hk) _ w2 (memOf_at w2) ) onil)) fun a w hF hx => ?_
 replace hS := hS.later hx
 refine wfn rfl ?_
 refine ecut (fun a w => ∃ (x5 : Int), Fr 131 [] [(2, iv p2), (3, pb b1), (4, pb b2), (8, iv x5)] a ∧ St w0 [blk b2 28 p1.ar, blk b1 23 p0.ar, fz w0 μ] w ∧ ref03_Guesses_K1 F p0 p1 p2 x5 = some res) ?_ ?_
 ·skip
  refine esr ?_
  refine rn 2 2 [(2, iv p2), (3, pb b1), (4, pb b2), (8, iv y3), (26, .bool (y3 == 0))] hF fun a hF => ?_
  refine wfn rfl ?_
  refine econd hF rfl (fun hc => ?_) (fun hc => ?_)
  ·replace h := bif_t h hc
   refine WI.region ?_
   replace h := bindS h
   obtain ⟨y1056, hy1056, h⟩ := h
   refine rx 3 [.run [] (Instr.loadAt 28 (pb b2)) (p1.ag), .call [] 55 #[p1.ag] (iv y1056)] 3 [(2, iv p2), (3, pb b1), (4, pb b2), (8, iv y1056)] hF (ocons (obN (us := p1.cells) (by kernel_rfl) (fun _ hd => ((hS.later hd).blk (i := 0) rfl).cells rfl)) (ocons (show Ob.ok _ Ext _ _ from fun hk w2 hd => ref02_CheckEcho_ok F (api_Echo.mk p1.Kind p1.Power ((api_Span.mk p1.Steps.1.Lo p1.Steps.1.Hi), (api_Span.mk p1.Steps.2.Lo p1.Steps.2.Hi)) p1.Spread p1.Ratio p1.Match p1.Turn) _ ((fun _ => hy1056) hk) _ w2 (memOf_at w2) ) onil)) fun a w hF hx => ?_
   replace hS := hS.later hx
   refine wfn rfl ?_
   exact ⟨y1056, hF.sub (by kernel_rfl), St.pick [0, 1, 2] (by decide) hS, h⟩
  ·replace h := bif_f h hc
   refine wpIn_skip (norm_then ?_)
   exact ⟨y3, hF.sub (by kernel_rfl), St.pick [0, 1, 2] (by decide) hS, h⟩
 rintro a w ⟨x5, hF, hS, h⟩
 rw [ref03_Guesses_K1] at h
 refine eseq ?_
 refine esr ?_
 refine rn 2 2 [(2, iv p2), (3, pb b1), (4, pb b2), (8, iv x5), (30, .bool (x5 != 0))] hF fun a hF => ?_
 refine wfn rfl ?_
 refine econd hF rfl (fun hc => ?_) (fun hc => ?_)
 ·replace h := bif_t h hc
  refine esr ?_
  refine rn 3 3 [(6, .slice none 0 0), (7, iv x5)] hF fun a hF => ?_
  refine wfn rfl ?_
  refine wpIn_ret (ret_then <| fn_ret [.tmp 6, .tmp 7] [.slice none 0 0, iv x5] hF rfl ⟨rfl, rfl, trivial⟩ ?_)
  have hr_ := Option.some.inj h
  subst hr_
  replace hS := hS.nilarr 127 4 ref03_Guess.cells
  exact ⟨_, _, rfl, St.pick [0] (by decide) hS⟩
 ·replace h := bif_f h hc
  refine wpIn_skip (norm_then ?_)
  refine eseq ?_
  refine esr ?_
  refine rn 6 6 [(2, iv p2), (3, pb b1), (4, pb b2), (37, .bool (bif (decide (p2 < 1)) then true else (decide (p2 > 200000))))] hF fun a hF => ?_
  refine wfn rfl ?_
  refine econd hF rfl (fun hc => ?_) (fun hc => ?_)
  ·replace h := bif_t h hc
   refine esr ?_
   refine rn 2 2 [(6, .slice none 0 0), (7, iv 3)] hF fun a hF => ?_
   refine wfn rfl ?_
   refine wpIn_ret (ret_then <| fn_ret [.tmp 6, .tmp 7] [.slice none 0 0, iv 3] hF rfl ⟨rfl, rfl, trivial⟩ ?_)
   have hr_ := Option.some.inj h
   subst hr_
   replace hS := hS.nilarr 127 4 ref03_Guess.cells
   exact ⟨_, _, rfl, St.pick [0] (by decide) hS⟩
  ·replace h := bif_f h hc
   refine wpIn_skip (norm_then ?_)
   refine eseq ?_
   refine esr ?_
   refine rno 3 [.run [] (Instr.loadAt 3 (pb b2)) (iv p1.Kind)] 3 [(2, iv p2), (3, pb b1), (4, pb b2), (40, .bool (p1.Kind != 3))] hF (ocons (ob1 (by kernel_rfl) (fun _ hd => (hS.at_ hd).cell (i := 0) (j := 0) rfl rfl)) onil) fun a hF => ?_
   refine wfn rfl ?_
   refine econd hF rfl (fun hc => ?_) (fun hc => ?_)
   ·replace h := bif_t h hc
    refine esr ?_
    refine rn 2 2 [(6, .slice none 0 0), (7, iv 18)] hF fun a hF => ?_
    refine wfn rfl ?_
    refine wpIn_ret (ret_then <| fn_ret [.tmp 6, .tmp 7] [.slice none 0 0, iv 18] hF rfl ⟨rfl, rfl, trivial⟩ ?_)
    have hr_ := Option.some.inj h
    subst hr_
    replace hS := hS.nilarr 127 4 ref03_Guess.cells
    exact ⟨_, _, rfl, St.pick [0] (by decide) hS⟩
   ·replace h := bif_f h hc
    refine wpIn_skip (norm_then ?_)
    refine ecut (fun a w => Fr 131 [] [(2, iv p2), (3, pb b1), (4, pb b2)] a ∧ St w0 [blk b2 28 p1.ar, blk b1 23 p0.ar, fz w0 μ] w ∧ ref03_Guesses_K2 F p0 p1 p2 = some res) ?_ ?_
    ·skip
     refine esr ?_
     refine rn 1 1 [(2, iv p2), (3, pb b1), (4, pb b2), (9, iv 0)] hF fun a hF => ?_
     refine wfn rfl ?_
     refine wpIn_block ?_
     refine eloop (fun n_ a w => ∃ (x1048 : Int), Fr 131 [] [(2, iv p2), (3, pb b1), (4, pb b2), (9, iv x1048)] a ∧ St w0 [blk b2 28 p1.ar, blk b1 23 p0.ar, fz w0 μ] w ∧ ref03_Guesses_L9 F p0 p1 p2 n_ x1048 = some res) F ⟨0, hF.sub (by kernel_rfl), St.pick [0, 1, 2] (by decide) hS, h⟩ ?_
     rintro n_ a w ⟨x1048, hF, hS, h⟩
     rcases n_ with _ | n_
     ·cases (show (none : Option ((List ref03_Guess) × Int)) = some res from h)
     obtain ⟨k9, hk9⟩ : ∃ k, k = ref03_Guesses_L9 F p0 p1 p2 n_ := ⟨_, rfl⟩
     replace h : ref03_Guesses_B9 F p0 p1 p2 k9 x1048 = some res := by rw [hk9]; exact h
     rw [ref03_Guesses_B9] at h
     refine eseq ?_
     refine esr ?_
     refine rx 4 [.run [] (Instr.loadAt 23 (pb b1)) (p0.ag), .call [] 56 #[p0.ag] (iv (ref03_times p0))] 4 [(2, iv p2), (3, pb b1), (4, pb b2), (9, iv x1048), (44, .bool (decide (x1048 < (ref03_times p0))))] hF (ocons (obN (us := p0.cells) (by kernel_rfl) (fun _ hd => ((hS.later hd).blk (i := 1) rfl).cells rfl)) (ocons (show Ob.ok _ Ext _ _ from fun hk w2 hd => ref03_times_ok p0 _ rfl _ w2 (memOf_at w2) ) onil)) fun a w hF hx => ?_
     replace hS := hS.later hx
     refine wfn rfl ?_
     refine econd hF rfl (fun hc => ?_) (fun hc => ?_)
     ·replace h := bif_t h hc
      refine wpIn_skip (norm_then ?_)
      refine eseq ?_
      refine wpIn_block ?_
      refine esr ?_
      replace h := bindS h
      obtain ⟨y1050, hy1050, h⟩ := h
      refine rx 8 [.run [] (Instr.loadAt 23 (pb b1)) (p0.ag), .run [] (Instr.loadAt 28 (pb b2)) (p1.ag), .call [] 57 #[p0.ag, p1.ag, iv x1048, iv (-64), iv p2] (.tuple #[.agg #[iv y1050.1.Lo, iv y1050.1.Hi], .bool y1050.2])] 8 [(2, iv p2), (3, pb b1), (4, pb b2), (9, iv x1048), (53, .agg #[iv y1050.1.Lo, iv y1050.1.Hi]), (54, .bool y1050.2)] hF (ocons (obN (us := p0.cells) (by kernel_rfl) (fun _ hd => ((hS.later hd).blk (i := 1) rfl).cells rfl)) (ocons (obN (us := p1.cells) (by kernel_rfl) (fun _ hd => ((hS.later hd).blk (i := 0) rfl).cells rfl)) (ocons (show Ob.ok _ Ext _ _ from fun hk w2 hd => ref03_speed_ok F p0 (api_Echo.mk p1.Kind p1.Power ((api_Span.mk p1.Steps.1.Lo p1.Steps.1.Hi), (api_Span.mk p1.Steps.2.Lo p1.Steps.2.Hi)) p1.Spread p1.Ratio p1.Match p1.Turn) x1048 (-64) p2 _ ((fun _ => hy1050) hk) _ w2 (memOf_at w2) ) onil))) fun a w hF hx => ?_
      replace hS := hS.later hx
      refine SK.wi (allocK (t := 25) (fun b1051 => [(2, iv p2), (3, pb b1), (4, pb b2), (9, iv x1048), (10, pb b1051), (53, .agg #[iv y1050.1.Lo, iv y1050.1.Hi]), (54, .bool y1050.2)]) #[iv 0, iv 0] hF hS (by kernel_rfl) ⟨by kernel_rfl⟩ (by kernel_rfl) (fun _ => ⟨by kernel_rfl⟩) fun b1051 w a hF hS => ?_)
      refine SK.wi (storeK (t := 25) [(2, iv p2), (3, pb b1), (4, pb b2), (9, iv x1048), (54, .bool y1050.2)] 0 0 (.agg #[iv y1050.1.Lo, iv y1050.1.Hi]) #[iv y1050.1.Lo, iv y1050.1.Hi] hF hS rfl (by kernel_rfl) ⟨by kernel_rfl⟩ (by kernel_rfl) (by kernel_rfl) (by kernel_rfl) (by kernel_rfl) ⟨by kernel_rfl⟩ fun w a hF hS => ?_)
      refine rn 1 11 [(2, iv p2), (3, pb b1), (4, pb b2), (9, iv x1048), (11, .bool y1050.2)] hF fun a hF => ?_
      refine wfn rfl ?_
      refine esr ?_
      replace h := bindS h
      obtain ⟨y1052, hy1052, h⟩ := h
      refine rx 8 [.run [] (Instr.loadAt 23 (pb b1)) (p0.ag), .run [] (Instr.loadAt 28 (pb b2)) (p1.ag), .call [] 57 #[p0.ag, p1.ag, iv x1048, iv 64, iv p2] (.tuple #[.agg #[iv y1052.1.Lo, iv y1052.1.Hi], .bool y1052.2])] 8 [(2, iv p2), (3, pb b1), (4, pb b2), (9, iv x1048), (11, .bool y1050.2), (61, .agg #[iv y1052.1.Lo, iv y1052.1.Hi]), (62, .bool y1052.2)] hF (ocons (obN (us := p0.cells) (by kernel_rfl) (fun _ hd => ((hS.later hd).blk (i := 2) rfl).cells rfl)) (ocons (obN (us := p1.cells) (by kernel_rfl) (fun _ hd => ((hS.later hd).blk (i := 1) rfl).cells rfl)) (ocons (show Ob.ok _ Ext _ _ from fun hk w2 hd => ref03_speed_ok F p0 (api_Echo.mk p1.Kind p1.Power ((api_Span.mk p1.Steps.1.Lo p1.Steps.1.Hi), (api_Span.mk p1.Steps.2.Lo p1.Steps.2.Hi)) p1.Spread p1.Ratio p1.Match p1.Turn) x1048 64 p2 _ ((fun _ => hy1052) hk) _ w2 (memOf_at w2) ) onil))) fun a w hF hx => ?_
      replace hS := hS.later hx
      refine SK.wi (allocK (t := 25) (fun b1053 => [(2, iv p2), (3, pb b1), (4, pb b2), (9, iv x1048), (11, .bool y1050.2), (12, pb b1053), (61, .agg #[iv y1052.1.Lo, iv y1052.1.Hi]), (62, .bool y1052.2)]) #[iv 0, iv 0] hF hS (by kernel_rfl) ⟨by kernel_rfl⟩ (by kernel_rfl) (fun _ => ⟨by kernel_rfl⟩) fun b1053 w a hF hS => ?_)
      refine SK.wi (storeK (t := 25) [(2, iv p2), (3, pb b1), (4, pb b2), (9, iv x1048), (11, .bool y1050.2), (62, .bool y1052.2)] 0 0 (.agg #[iv y1052.1.Lo, iv y1052.1.Hi]) #[iv y1052.1.Lo, iv y1052.1.Hi] hF hS rfl (by kernel_rfl) ⟨by kernel_rfl⟩ (by kernel_rfl) (by kernel_rfl) (by kernel_rfl) (by kernel_rfl) ⟨by kernel_rfl⟩ fun w a hF hS => ?_)
      refine rn 1 11 [(2, iv p2), (3, pb b1), (4, pb b2), (9, iv x1048), (11, .bool y1050.2), (13, .bool y1052.2)] hF fun a hF => ?_
      refine wfn rfl ?_
      refine esr ?_
      refine rn 4 4 [(2, iv p2), (3, pb b1), (4, pb b2), (9, iv x1048), (66, .bool (bif y1050.2 then true else y1052.2))] hF fun a hF => ?_
      refine wfn rfl ?_
      refine econd hF rfl (fun hc => ?_) (fun hc => ?_)
      ·replace h := bif_t h hc
       refine esr ?_
       refine rn 2 2 [(6, .slice none 0 0), (7, iv 9)] hF fun a hF => ?_
       refine wfn rfl ?_
       refine wpIn_ret (ret_block <| ret_then <| ret_then <| ret_block <| ret_then <| fn_ret [.tmp 6, .tmp 7] [.slice none 0 0, iv 9] hF rfl ⟨rfl, rfl, trivial⟩ ?_)
       have hr_ := Option.some.inj h
       subst hr_
       replace hS := hS.nilarr 127 4 ref03_Guess.cells
       exact ⟨_, _, rfl, St.pick [0] (by decide) hS⟩
      ·replace h := bif_f h hc
       refine wpIn_skip (norm_block <| norm_then <| ?_)
       refine WI.region ?_
       replace h := bindS h
       obtain ⟨x1054, hx1054, h⟩ := h
       refine rno 3 [.run [] (binOp .add 3 (iv x1048) (iv 1)) (iv x1054)] 3 [(2, iv p2), (3, pb b1), (4, pb b2), (9, iv x1054)] hF (ocons (obAddC (fun _ => hx1054)) onil) fun a hF => ?_
       refine wfn rfl ?_
       rw [hk9] at h
       exact ⟨n_, Nat.lt_succ_self _, x1054, hF.sub (by kernel_rfl), St.pick [2, 3, 4] (by decide) hS, h⟩
     ·replace h := bif_f h hc
      refine wpIn_exit (exit_then <| exit_then <| exit_hit <| norm_then ?_)
      exact ⟨hF.sub (by kernel_rfl), St.pick [0, 1, 2] (by decide) hS, h⟩
    rintro a w ⟨hF, hS, h⟩
    rw [ref03_Guesses_K2] at h
    refine esr ?_
    refine rn 1 1 [(2, iv p2), (3, pb b1), (4, pb b2), (14, .slice none 0 0)] hF fun a hF => ?_
    refine wfn rfl ?_
    refine ecut (fun a w => ∃ (l530 : (List ref03_Guess)) (ad528 : Option Addr) (cap529 : Nat), Fr 131 [] [(14, sv ad528 l530 cap529)] a ∧ St w0 [arr 127 4 ref03_Guess.cells ad528 l530.length cap529 l530, blk b2 28 p1.ar, blk b1 23 p0.ar, fz w0 μ] w ∧ ref03_Guesses_K3 l530 = some res) ?_ ?_
    ·skip
     refine esr ?_
     refine rn 1 1 [(2, iv p2), (3, pb b1), (4, pb b2), (14, .slice none 0 0), (15, iv (-64))] hF fun a hF => ?_
     refine wfn rfl ?_
     refine wpIn_block ?_
     replace hS := hS.nilarr 127 4 ref03_Guess.cells
     refine eloop (fun n_ a w => ∃ (l868 : (List ref03_Guess)) (x869 : Int) (ad866 : Option Addr) (cap867 : Nat), Fr 131 [] [(2, iv p2), (3, pb b1), (4, pb b2), (14, sv ad866 l868 cap867), (15, iv x869)] a ∧ St w0 [arr 127 4 ref03_Guess.cells ad866 l868.length cap867 l868, blk b2 28 p1.ar, blk b1 23 p0.ar, fz w0 μ] w ∧ ref03_Guesses_L4 F p0 p1 p2 n_ l868 x869 = some res) F ⟨[], -64, none, 0, hF.sub (by kernel_rfl), St.pick [0, 1, 2, 3] (by decide) hS, h⟩ ?_
     rintro n_ a w ⟨l868, x869, ad866, cap867, hF, hS, h⟩
     rcases n_ with _ | n_
     ·cases (show (none : Option ((List ref03_Guess) × Int)) = some res from h)
     obtain ⟨k4, hk4⟩ : ∃ k, k = ref03_Guesses_L4 F p0 p1 p2 n_ := ⟨_, rfl⟩
     replace h : ref03_Guesses_B4 F p0 p1 p2 k4 l868 x869 = some res := by rw [hk4]; exact h
     rw [ref03_Guesses_B4] at h
     refine eseq ?_
     refine esr ?_
     refine rn 2 2 [(2, iv p2), (3, pb b1), (4, pb b2), (14, sv ad866 l868 cap867), (15, iv x869), (68, .bool (decide (x869 ≤ 64)))] hF fun a hF => ?_
     refine wfn rfl ?_
     refine econd hF rfl (fun hc => ?_) (fun hc => ?_)
     ·replace h := bif_t h hc
      refine wpIn_skip (norm_then ?_)
      refine ecut (fun a w => ∃ (l953 : (List ref03_Guess)) (ad951 : Option Addr) (cap952 : Nat), Fr 131 [] [(2, iv p2), (3, pb b1), (4, pb b2), (14, sv ad951 l953 cap952), (15, iv x869)] a ∧ St w0 [arr 127 4 ref03_Guess.cells ad951 l953.length cap952 l953, blk b2 28 p1.ar, blk b1 23 p0.ar, fz w0 μ] w ∧ ref03_Guesses_K5 x869 k4 l953 = some res) ?_ ?_
      ·skip
       refine wpIn_block ?_
       refine esr ?_
       replace h := bindS h
       obtain ⟨y956, hy956, h⟩ := h
       refine rx 8 [.run [] (Instr.loadAt 23 (pb b1)) (p0.ag), .run [] (Instr.loadAt 28 (pb b2)) (p1.ag), .call [] 57 #[p0.ag, p1.ag, iv 0, iv x869, iv p2] (.tuple #[.agg #[iv y956.1.Lo, iv y956.1.Hi], .bool y956.2])] 8 [(2, iv p2), (3, pb b1), (4, pb b2), (14, sv ad866 l868 cap867), (15, iv x869), (77, .agg #[iv y956.1.Lo, iv y956.1.Hi]), (78, .bool y956.2)] hF (ocons (obN (us := p0.cells) (by kernel_rfl) (fun _ hd => ((hS.later hd).blk (i := 2) rfl).cells rfl)) (ocons (obN (us := p1.cells) (by kernel_rfl) (fun _ hd => ((hS.later hd).blk (i := 1) rfl).cells rfl)) (ocons (show Ob.ok _ Ext _ _ from fun hk w2 hd => ref03_speed_ok F p0 (api_Echo.mk p1.Kind p1.Power ((api_Span.mk p1.Steps.1.Lo p1.Steps.1.Hi), (api_Span.mk p1.Steps.2.Lo p1.Steps.2.Hi)) p1.Spread p1.Ratio p1.Match p1.Turn) 0 x869 p2 _ ((fun _ => hy956) hk) _ w2 (memOf_at w2) ) onil))) fun a w hF hx => ?_
       replace hS := hS.later hx
       refine SK.wi (allocK (t := 25) (fun b957 => [(2, iv p2), (3, pb b1), (4, pb b2), (14, sv ad866 l868 cap867), (15, iv x869), (16, pb b957), (77, .agg #[iv y956.1.Lo, iv y956.1.Hi]), (78, .bool y956.2)]) #[iv 0, iv 0] hF hS (by kernel_rfl) ⟨by kernel_rfl⟩ (by kernel_rfl) (fun _ => ⟨by kernel_rfl⟩) fun b957 w a hF hS => ?_)
       refine SK.wi (storeK (t := 25) [(2, iv p2), (3, pb b1), (4, pb b2), (14, sv ad866 l868 cap867), (15, iv x869), (16, pb b957), (78, .bool y956.2)] 0 0 (.agg #[iv y956.1.Lo, iv y956.1.Hi]) #[iv y956.1.Lo, iv y956.1.Hi] hF hS rfl (by kernel_rfl) ⟨by kernel_rfl⟩ (by kernel_rfl) (by kernel_rfl) (by kernel_rfl) (by kernel_rfl) ⟨by kernel_rfl⟩ fun w a hF hS => ?_)
       refine rn 1 11 [(2, iv p2), (3, pb b1), (4, pb b2), (14, sv ad866 l868 cap867), (15, iv x869), (16, pb b957), (17, .bool y956.2)] hF fun a hF => ?_
       refine wfn rfl ?_
       refine ecut (fun a w => ∃ (l964 : (List ref03_Guess)) (ad962 : Option Addr) (cap963 : Nat), Fr 131 [] [(2, iv p2), (3, pb b1), (4, pb b2), (14, sv ad962 l964 cap963), (15, iv x869), (16, pb b957), (17, .bool y956.2)] a ∧ St w0 [arr 127 4 ref03_Guess.cells ad962 l964.length cap963 l964, blk b957 25 #[iv y956.1.Lo, iv y956.1.Hi], blk b2 28 p1.ar, blk b1 23 p0.ar, fz w0 μ] w ∧ ref03_Guesses_K6 F p0 p1 p2 x869 k4 y956 l964 = some res) ?_ ?_
       ·skip
        refine esr ?_
        refine rx 6 [.run [⟨80, true, y956.2⟩] (Instr.loadAt 23 (pb b1)) (p0.ag), .call [⟨80, true, y956.2⟩] 56 #[p0.ag] (iv (ref03_times p0))] 6 [(2, iv p2), (3, pb b1), (4, pb b2), (14, sv ad866 l868 cap867), (15, iv x869), (16, pb b957), (17, .bool y956.2), (84, .bool (bif y956.2 then ((ref03_times p0) == 1) else false))] hF (ocons (obN (us := p0.cells) (by kernel_rfl) (fun _ hd => ((hS.later hd).blk (i := 3) rfl).cells rfl)) (ocons (show Ob.ok _ Ext _ _ from fun hk w2 hd => ref03_times_ok p0 _ rfl _ w2 (memOf_at w2) ) onil)) fun a w hF hx => ?_
        replace hS := hS.later hx
        refine wfn rfl ?_
        refine econd hF rfl (fun hc => ?_) (fun hc => ?_)
        ·replace h := bif_t h hc
         refine WI.region ?_
         refine rno 5 [.run [] (Instr.loadAt 25 (pb b957)) (.agg #[iv y956.1.Lo, iv y956.1.Hi])] 5 [(2, iv p2), (3, pb b1), (4, pb b2), (14, sv ad866 l868 cap867), (15, iv x869), (16, pb b957), (17, .bool y956.2), (85, sv ad866 l868 cap867), (89, .agg #[iv x869, iv 0, iv y956.1.Lo, iv y956.1.Hi])] hF (ocons (obN (us := [iv y956.1.Lo, iv y956.1.Hi]) (by kernel_rfl) (fun _ hd => ((hS.at_ hd).blk (i := 0) rfl).cells rfl)) onil) fun a hF => ?_
         refine SK.wi (litK (e := 127) (sz := 4) (f := ref03_Guess.cells) (t := 34) (len := 1) (fun b1032 => [(2, iv p2), (3, pb b1), (4, pb b2), (14, sv ad866 l868 cap867), (15, iv x869), (16, pb b957), (17, .bool y956.2), (85, sv ad866 l868 cap867), (90, sb b1032 1)]) #[(0, .agg #[iv x869, iv 0, iv y956.1.Lo, iv y956.1.Hi])] #[iv x869, iv 0, iv y956.1.Lo, iv y956.1.Hi] ([(ref03_Guess.mk (x869, 0) (api_Span.mk y956.1.Lo y956.1.Hi))]) hF hS (by kernel_rfl) ⟨by kernel_rfl⟩ (by kernel_rfl) ref03_Guess.cells_len rfl rfl (by kernel_rfl) (fun _ => ⟨by kernel_rfl⟩) fun b1032 w a hF hS => ?_)
         replace h := bindS h
         obtain ⟨l1033, hl1033, h⟩ := h
         refine SK.wi (appK (t := 34) (ty := 34) (bytes := 32) (l := l868) (l' := ([(ref03_Guess.mk (x869, 0) (api_Span.mk y956.1.Lo y956.1.Hi))])) (fun ad1034 cap1035 => [(2, iv p2), (3, pb b1), (4, pb b2), (14, sv ad866 l868 cap867), (15, iv x869), (16, pb b957), (17, .bool y956.2), (91, sv ad1034 l1033 cap1035)]) 2 hF hS rfl (by kernel_rfl) ⟨by kernel_rfl⟩ (by kernel_rfl) (hS.arr (i := 0) rfl) (fun _ _ => rfl) hl1033 (fun _ _ => ⟨by kernel_rfl⟩) fun ad1034 cap1035 w a hF hS => ?_)
         refine rn 1 8 [(2, iv p2), (3, pb b1), (4, pb b2), (14, sv ad1034 l1033 cap1035), (15, iv x869), (16, pb b957), (17, .bool y956.2)] hF fun a hF => ?_
         refine wfn rfl ?_
         exact ⟨l1033, ad1034, cap1035, hF.sub (by kernel_rfl), St.pick [2, 1, 3, 4, 5] (by decide) hS, h⟩
        ·replace h := bif_f h hc
         refine wpIn_skip (norm_then ?_)
         exact ⟨l868, ad866, cap867, hF.sub (by kernel_rfl), St.pick [1, 0, 2, 3, 4] (by decide) hS, h⟩
       rintro a w ⟨l964, ad962, cap963, hF, hS, h⟩
       rw [ref03_Guesses_K6] at h
       refine esr ?_
       refine rn 1 1 [(2, iv p2), (3, pb b1), (4, pb b2), (14, sv ad962 l964 cap963), (15, iv x869), (16, pb b957), (17, .bool y956.2), (18, iv (-64))] hF fun a hF => ?_
       refine wfn rfl ?_
       refine wpIn_block ?_
       refine eloop (fun n_ a w => ∃ (l1009 : (List ref03_Guess)) (x1010 : Int) (ad1007 : Option Addr) (cap1008 : Nat), Fr 131 [] [(2, iv p2), (3, pb b1), (4, pb b2), (14, sv ad1007 l1009 cap1008), (15, iv x869), (16, pb b957), (17, .bool y956.2), (18, iv x1010)] a ∧ St w0 [arr 127 4 ref03_Guess.cells ad1007 l1009.length cap1008 l1009, blk b957 25 #[iv y956.1.Lo, iv y956.1.Hi], blk b2 28 p1.ar, blk b1 23 p0.ar, fz w0 μ] w ∧ ref03_Guesses_L7 F p0 p1 p2 x869 k4 y956 n_ l1009 x1010 = some res) F ⟨l964, -64, ad962, cap963, hF.sub (by kernel_rfl), St.pick [0, 1, 2, 3, 4] (by decide) hS, h⟩ ?_
       rintro n_ a w ⟨l1009, x1010, ad1007, cap1008, hF, hS, h⟩
       rcases n_ with _ | n_
       ·cases (show (none : Option ((List ref03_Guess) × Int)) = some res from h)
       obtain ⟨k7, hk7⟩ : ∃ k, k = ref03_Guesses_L7 F p0 p1 p2 x869 k4 y956 n_ := ⟨_, rfl⟩
       replace h : ref03_Guesses_B7 F p0 p1 p2 x869 k4 y956 k7 l1009 x1010 = some res := by rw [hk7]; exact h
       rw [ref03_Guesses_B7] at h
       refine eseq ?_
       refine esr ?_
       refine rx 10 [.run [⟨93, true, y956.2⟩] (Instr.loadAt 23 (pb b1)) (p0.ag), .call [⟨93, true, y956.2⟩] 56 #[p0.ag] (iv (ref03_times p0))] 10 [(2, iv p2), (3, pb b1), (4, pb b2), (14, sv ad1007 l1009 cap1008), (15, iv x869), (16, pb b957), (17, .bool y956.2), (18, iv x1010), (101, .bool (bif (bif y956.2 then ((ref03_times p0) == 2) else false) then (decide (x1010 ≤ 64)) else false))] hF (ocons (obN (us := p0.cells) (by kernel_rfl) (fun _ hd => ((hS.later hd).blk (i := 3) rfl).cells rfl)) (ocons (show Ob.ok _ Ext _ _ from fun hk w2 hd => ref03_times_ok p0 _ rfl _ w2 (memOf_at w2) ) onil)) fun a w hF hx => ?_
       replace hS := hS.later hx
       refine wfn rfl ?_
       refine econd hF rfl (fun hc => ?_) (fun hc => ?_)
       ·replace h := bif_t h hc
        refine wpIn_skip (norm_then ?_)
        refine ecut (fun a w => ∃ (l1021 : (List ref03_Guess)) (ad1019 : Option Addr) (cap1020 : Nat), Fr 131 [] [(2, iv p2), (3, pb b1), (4, pb b2), (14, sv ad1019 l1021 cap1020), (15, iv x869), (16, pb b957), (17, .bool y956.2), (18, iv x1010)] a ∧ St w0 [arr 127 4 ref03_Guess.cells ad1019 l1021.length cap1020 l1021, blk b957 25 #[iv y956.1.Lo, iv y956.1.Hi], blk b2 28 p1.ar, blk b1 23 p0.ar, fz w0 μ] w ∧ ref03_Guesses_K8 x1010 k7 l1021 = some res) ?_ ?_
        ·skip
         refine wpIn_block ?_
         refine esr ?_
         replace h := bindS h
         obtain ⟨y1024, hy1024, h⟩ := h
         refine rx 8 [.run [] (Instr.loadAt 23 (pb b1)) (p0.ag), .run [] (Instr.loadAt 28 (pb b2)) (p1.ag), .call [] 57 #[p0.ag, p1.ag, iv 1, iv x1010, iv p2] (.tuple #[.agg #[iv y1024.1.Lo, iv y1024.1.Hi], .bool y1024.2])] 8 [(2, iv p2), (3, pb b1), (4, pb b2), (14, sv ad1007 l1009 cap1008), (15, iv x869), (16, pb b957), (17, .bool y956.2), (18, iv x1010), (110, .agg #[iv y1024.1.Lo, iv y1024.1.Hi]), (111, .bool y1024.2)] hF (ocons (obN (us := p0.cells) (by kernel_rfl) (fun _ hd => ((hS.later hd).blk (i := 3) rfl).cells rfl)) (ocons (obN (us := p1.cells) (by kernel_rfl) (fun _ hd => ((hS.later hd).blk (i := 2) rfl).cells rfl)) (ocons (show Ob.ok _ Ext _ _ from fun hk w2 hd => ref03_speed_ok F p0 (api_Echo.mk p1.Kind p1.Power ((api_Span.mk p1.Steps.1.Lo p1.Steps.1.Hi), (api_Span.mk p1.Steps.2.Lo p1.Steps.2.Hi)) p1.Spread p1.Ratio p1.Match p1.Turn) 1 x1010 p2 _ ((fun _ => hy1024) hk) _ w2 (memOf_at w2) ) onil))) fun a w hF hx => ?_
         replace hS := hS.later hx
         refine SK.wi (allocK (t := 25) (fun b1025 => [(2, iv p2), (3, pb b1), (4, pb b2), (14, sv ad1007 l1009 cap1008), (15, iv x869), (16, pb b957), (17, .bool y956.2), (18, iv x1010), (19, pb b1025), (110, .agg #[iv y1024.1.Lo, iv y1024.1.Hi]), (111, .bool y1024.2)]) #[iv 0, iv 0] hF hS (by kernel_rfl) ⟨by kernel_rfl⟩ (by kernel_rfl) (fun _ => ⟨by kernel_rfl⟩) fun b1025 w a hF hS => ?_)
         refine SK.wi (storeK (t := 25) [(2, iv p2), (3, pb b1), (4, pb b2), (14, sv ad1007 l1009 cap1008), (15, iv x869), (16, pb b957), (17, .bool y956.2), (18, iv x1010), (19, pb b1025), (111, .bool y1024.2)] 0 0 (.agg #[iv y1024.1.Lo, iv y1024.1.Hi]) #[iv y1024.1.Lo, iv y1024.1.Hi] hF hS rfl (by kernel_rfl) ⟨by kernel_rfl⟩ (by kernel_rfl) (by kernel_rfl) (by kernel_rfl) (by kernel_rfl) ⟨by kernel_rfl⟩ fun w a hF hS => ?_)
         refine rn 1 11 [(2, iv p2), (3, pb b1), (4, pb b2), (14, sv ad1007 l1009 cap1008), (15, iv x869), (16, pb b957), (17, .bool y956.2), (18, iv x1010), (19, pb b1025), (20, .bool y1024.2)] hF fun a hF => ?_
         refine wfn rfl ?_
         refine esr ?_
         refine rx 6 [.run [] (Instr.loadAt 25 (pb b957)) (.agg #[iv y956.1.Lo, iv y956.1.Hi]), .run [] (Instr.loadAt 25 (pb b1025)) (.agg #[iv y1024.1.Lo, iv y1024.1.Hi]), .call [] 58 #[.agg #[iv y956.1.Lo, iv y956.1.Hi], .agg #[iv y1024.1.Lo, iv y1024.1.Hi]] (.tuple #[.agg #[iv (((ref03_common (api_Span.mk y956.1.Lo y956.1.Hi) (api_Span.mk y1024.1.Lo y1024.1.Hi)).1).Lo), iv (((ref03_common (api_Span.mk y956.1.Lo y956.1.Hi) (api_Span.mk y1024.1.Lo y1024.1.Hi)).1).Hi)], .bool ((ref03_common (api_Span.mk y956.1.Lo y956.1.Hi) (api_Span.mk y1024.1.Lo y1024.1.Hi)).2)])] 6 [(2, iv p2), (3, pb b1), (4, pb b2), (14, sv ad1007 l1009 cap1008), (15, iv x869), (16, pb b957), (17, .bool y956.2), (18, iv x1010), (20, .bool y1024.2), (116, .agg #[iv (((ref03_common (api_Span.mk y956.1.Lo y956.1.Hi) (api_Span.mk y1024.1.Lo y1024.1.Hi)).1).Lo), iv (((ref03_common (api_Span.mk y956.1.Lo y956.1.Hi) (api_Span.mk y1024.1.Lo y1024.1.Hi)).1).Hi)]), (117, .bool ((ref03_common (api_Span.mk y956.1.Lo y956.1.Hi) (api_Span.mk y1024.1.Lo y1024.1.Hi)).2))] hF (ocons (obN (us := [iv y956.1.Lo, iv y956.1.Hi]) (by kernel_rfl) (fun _ hd => ((hS.later hd).blk (i := 2) rfl).cells rfl)) (ocons (obN (us := [iv y1024.1.Lo, iv y1024.1.Hi]) (by kernel_rfl) (fun _ hd => ((hS.later hd).blk (i := 0) rfl).cells rfl)) (ocons (show Ob.ok _ Ext _ _ from fun hk w2 hd => ref03_common_ok (api_Span.mk y956.1.Lo y956.1.Hi) (api_Span.mk y1024.1.Lo y1024.1.Hi) _ rfl _ w2 (memOf_at w2) ) onil))) fun a w hF hx => ?_
         replace hS := hS.later hx
         refine SK.wi (allocK (t := 25) (fun b1026 => [(2, iv p2), (3, pb b1), (4, pb b2), (14, sv ad1007 l1009 cap1008), (15, iv x869), (16, pb b957), (17, .bool y956.2), (18, iv x1010), (20, .bool y1024.2), (21, pb b1026), (116, .agg #[iv (((ref03_common (api_Span.mk y956.1.Lo y956.1.Hi) (api_Span.mk y1024.1.Lo y1024.1.Hi)).1).Lo), iv (((ref03_common (api_Span.mk y956.1.Lo y956.1.Hi) (api_Span.mk y1024.1.Lo y1024.1.Hi)).1).Hi)]), (117, .bool ((ref03_common (api_Span.mk y956.1.Lo y956.1.Hi) (api_Span.mk y1024.1.Lo y1024.1.Hi)).2))]) #[iv 0, iv 0] hF hS (by kernel_rfl) ⟨by kernel_rfl⟩ (by kernel_rfl) (fun _ => ⟨by kernel_rfl⟩) fun b1026 w a hF hS => ?_)
         refine SK.wi (storeK (t := 25) [(2, iv p2), (3, pb b1), (4, pb b2), (14, sv ad1007 l1009 cap1008), (15, iv x869), (16, pb b957), (17, .bool y956.2), (18, iv x1010), (20, .bool y1024.2), (21, pb b1026), (117, .bool ((ref03_common (api_Span.mk y956.1.Lo y956.1.Hi) (api_Span.mk y1024.1.Lo y1024.1.Hi)).2))] 0 0 (.agg #[iv (((ref03_common (api_Span.mk y956.1.Lo y956.1.Hi) (api_Span.mk y1024.1.Lo y1024.1.Hi)).1).Lo), iv (((ref03_common (api_Span.mk y956.1.Lo y956.1.Hi) (api_Span.mk y1024.1.Lo y1024.1.Hi)).1).Hi)]) #[iv (((ref03_common (api_Span.mk y956.1.Lo y956.1.Hi) (api_Span.mk y1024.1.Lo y1024.1.Hi)).1).Lo), iv (((ref03_common (api_Span.mk y956.1.Lo y956.1.Hi) (api_Span.mk y1024.1.Lo y1024.1.Hi)).1).Hi)] hF hS rfl (by kernel_rfl) ⟨by kernel_rfl⟩ (by kernel_rfl) (by kernel_rfl) (by kernel_rfl) (by kernel_rfl) ⟨by kernel_rfl⟩ fun w a hF hS => ?_)
         refine rn 1 9 [(2, iv p2), (3, pb b1), (4, pb b2), (14, sv ad1007 l1009 cap1008), (15, iv x869), (16, pb b957), (17, .bool y956.2), (18, iv x1010), (20, .bool y1024.2), (21, pb b1026), (22, .bool ((ref03_common (api_Span.mk y956.1.Lo y956.1.Hi) (api_Span.mk y1024.1.Lo y1024.1.Hi)).2))] hF fun a hF => ?_
         refine wfn rfl ?_
         refine esr ?_
         refine rn 4 4 [(2, iv p2), (3, pb b1), (4, pb b2), (14, sv ad1007 l1009 cap1008), (15, iv x869), (16, pb b957), (17, .bool y956.2), (18, iv x1010), (21, pb b1026), (121, .bool (bif y1024.2 then ((ref03_common (api_Span.mk y956.1.Lo y956.1.Hi) (api_Span.mk y1024.1.Lo y1024.1.Hi)).2) else false))] hF fun a hF => ?_
         refine wfn rfl ?_
         refine econd hF rfl (fun hc => ?_) (fun hc => ?_)
         ·replace h := bif_t h hc
          refine WI.region ?_
          refine rno 6 [.run [] (Instr.loadAt 25 (pb b1026)) (.agg #[iv (((ref03_common (api_Span.mk y956.1.Lo y956.1.Hi) (api_Span.mk y1024.1.Lo y1024.1.Hi)).1).Lo), iv (((ref03_common (api_Span.mk y956.1.Lo y956.1.Hi) (api_Span.mk y1024.1.Lo y1024.1.Hi)).1).Hi)])] 6 [(2, iv p2), (3, pb b1), (4, pb b2), (14, sv ad1007 l1009 cap1008), (15, iv x869), (16, pb b957), (17, .bool y956.2), (18, iv x1010), (122, sv ad1007 l1009 cap1008), (127, .agg #[iv x869, iv x1010, iv (((ref03_common (api_Span.mk y956.1.Lo y956.1.Hi) (api_Span.mk y1024.1.Lo y1024.1.Hi)).1).Lo), iv (((ref03_common (api_Span.mk y956.1.Lo y956.1.Hi) (api_Span.mk y1024.1.Lo y1024.1.Hi)).1).Hi)])] hF (ocons (obN (us := [iv (((ref03_common (api_Span.mk y956.1.Lo y956.1.Hi) (api_Span.mk y1024.1.Lo y1024.1.Hi)).1).Lo), iv (((ref03_common (api_Span.mk y956.1.Lo y956.1.Hi) (api_Span.mk y1024.1.Lo y1024.1.Hi)).1).Hi)]) (by kernel_rfl) (fun _ hd => ((hS.at_ hd).blk (i := 0) rfl).cells rfl)) onil) fun a hF => ?_
          refine SK.wi (litK (e := 127) (sz := 4) (f := ref03_Guess.cells) (t := 34) (len := 1) (fun b1027 => [(2, iv p2), (3, pb b1), (4, pb b2), (14, sv ad1007 l1009 cap1008), (15, iv x869), (16, pb b957), (17, .bool y956.2), (18, iv x1010), (122, sv ad1007 l1009 cap1008), (128, sb b1027 1)]) #[(0, .agg #[iv x869, iv x1010, iv (((ref03_common (api_Span.mk y956.1.Lo y956.1.Hi) (api_Span.mk y1024.1.Lo y1024.1.Hi)).1).Lo), iv (((ref03_common (api_Span.mk y956.1.Lo y956.1.Hi) (api_Span.mk y1024.1.Lo y1024.1.Hi)).1).Hi)])] #[iv x869, iv x1010, iv (((ref03_common (api_Span.mk y956.1.Lo y956.1.Hi) (api_Span.mk y1024.1.Lo y1024.1.Hi)).1).Lo), iv (((ref03_common (api_Span.mk y956.1.Lo y956.1.Hi) (api_Span.mk y1024.1.Lo y1024.1.Hi)).1).Hi)] ([(ref03_Guess.mk (x869, x1010) (api_Span.mk (((ref03_common (api_Span.mk y956.1.Lo y956.1.Hi) (api_Span.mk y1024.1.Lo y1024.1.Hi)).1).Lo) (((ref03_common (api_Span.mk y956.1.Lo y956.1.Hi) (api_Span.mk y1024.1.Lo y1024.1.Hi)).1).Hi)))]) hF hS (by kernel_rfl) ⟨by kernel_rfl⟩ (by kernel_rfl) ref03_Guess.cells_len rfl rfl (by kernel_rfl) (fun _ => ⟨by kernel_rfl⟩) fun b1027 w a hF hS => ?_)
          replace h := bindS h
          obtain ⟨l1028, hl1028, h⟩ := h
          refine SK.wi (appK (t := 34) (ty := 34) (bytes := 32) (l := l1009) (l' := ([(ref03_Guess.mk (x869, x1010) (api_Span.mk (((ref03_common (api_Span.mk y956.1.Lo y956.1.Hi) (api_Span.mk y1024.1.Lo y1024.1.Hi)).1).Lo) (((ref03_common (api_Span.mk y956.1.Lo y956.1.Hi) (api_Span.mk y1024.1.Lo y1024.1.Hi)).1).Hi)))])) (fun ad1029 cap1030 => [(2, iv p2), (3, pb b1), (4, pb b2), (14, sv ad1007 l1009 cap1008), (15, iv x869), (16, pb b957), (17, .bool y956.2), (18, iv x1010), (129, sv ad1029 l1028 cap1030)]) 3 hF hS rfl (by kernel_rfl) ⟨by kernel_rfl⟩ (by kernel_rfl) (hS.arr (i := 0) rfl) (fun _ _ => rfl) hl1028 (fun _ _ => ⟨by kernel_rfl⟩) fun ad1029 cap1030 w a hF hS => ?_)
          refine rn 1 9 [(2, iv p2), (3, pb b1), (4, pb b2), (14, sv ad1029 l1028 cap1030), (15, iv x869), (16, pb b957), (17, .bool y956.2), (18, iv x1010)] hF fun a hF => ?_
          refine WI.fin rfl (norm_block <| norm_then <| ?_)
          exact ⟨l1028, ad1029, cap1030, hF.sub (by kernel_rfl), St.pick [3, 4, 5, 6, 7] (by decide) hS, h⟩
         ·replace h := bif_f h hc
          refine wpIn_skip (norm_block <| norm_then <| ?_)
          exact ⟨l1009, ad1007, cap1008, hF.sub (by kernel_rfl), St.pick [2, 3, 4, 5, 6] (by decide) hS, h⟩
        rintro a w ⟨l1021, ad1019, cap1020, hF, hS, h⟩
        rw [ref03_Guesses_K8] at h
        refine WI.region ?_
        replace h := bindS h
        obtain ⟨x1022, hx1022, h⟩ := h
        refine rno 3 [.run [] (binOp .add 3 (iv x1010) (iv 1)) (iv x1022)] 3 [(2, iv p2), (3, pb b1), (4, pb b2), (14, sv ad1019 l1021 cap1020), (15, iv x869), (16, pb b957), (17, .bool y956.2), (18, iv x1022)] hF (ocons (obAddC (fun _ => hx1022)) onil) fun a hF => ?_
        refine wfn rfl ?_
        rw [hk7] at h
        exact ⟨n_, Nat.lt_succ_self _, l1021, x1022, ad1019, cap1020, hF.sub (by kernel_rfl), St.pick [0, 1, 2, 3, 4] (by decide) hS, h⟩
       ·replace h := bif_f h hc
        refine wpIn_exit (exit_then <| exit_then <| exit_hit <| norm_block <| norm_then <| ?_)
        exact ⟨l1009, ad1007, cap1008, hF.sub (by kernel_rfl), St.pick [0, 2, 3, 4] (by decide) hS, h⟩
      rintro a w ⟨l953, ad951, cap952, hF, hS, h⟩
      rw [ref03_Guesses_K5] at h
      refine WI.region ?_
      replace h := bindS h
      obtain ⟨x954, hx954, h⟩ := h
      refine rno 3 [.run [] (binOp .add 3 (iv x869) (iv 1)) (iv x954)] 3 [(2, iv p2), (3, pb b1), (4, pb b2), (14, sv ad951 l953 cap952), (15, iv x954)] hF (ocons (obAddC (fun _ => hx954)) onil) fun a hF => ?_
      refine wfn rfl ?_
      rw [hk4] at h
      exact ⟨n_, Nat.lt_succ_self _, l953, x954, ad951, cap952, hF.sub (by kernel_rfl), St.pick [0, 1, 2, 3] (by decide) hS, h⟩
     ·replace h := bif_f h hc
      refine wpIn_exit (exit_then <| exit_then <| exit_hit <| norm_then ?_)
      exact ⟨l868, ad866, cap867, hF.sub (by kernel_rfl), St.pick [0, 1, 2, 3] (by decide) hS, h⟩
    rintro a w ⟨l530, ad528, cap529, hF, hS, h⟩
    rw [ref03_Guesses_K3] at h
    refine esr ?_
    refine rn 3 3 [(6, sv ad528 l530 cap529), (7, iv 0)] hF fun a hF => ?_
    refine wfn rfl ?_
    refine wpIn_ret (fn_ret [.tmp 6, .tmp 7] [sv ad528 l530 cap529, iv 0] hF rfl ⟨rfl, rfl, trivial⟩ ?_)
    have hr_ := Option.some.inj h
    subst hr_
    exact ⟨_, _, rfl, St.pick [0] (by decide) hS⟩
end Go.Proofs.Ytbhjgebjojdohaa
