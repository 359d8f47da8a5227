/- Walks, written by program (wip/gen/dec.py). -/
import Derived.Test.YtbhjgebjojdohaaF3XD
import Derived.Test.YtbhjgebjojdohaaProg
import Derived.Test.YtbhjgebjojdohaaF3XW0
import Derived.Test.YtbhjgebjojdohaaF3XW1
import Derived.Test.YtbhjgebjojdohaaF3XW2
import Derived.Test.YtbhjgebjojdohaaF3XW4
import Derived.Test.YtbhjgebjojdohaaF3XW5
import Derived.Test.YtbhjgebjojdohaaF3WkG
namespace Go.Proofs.Ytbhjgebjojdohaa
open Go Go.RowKit Go.Eng
set_option maxRecDepth 10000
set_option maxHeartbeats 4000000
set_option linter.unusedVariables false
set_option linter.unusedSimpArgs false
theorem fold_Guesses_ok (F : Nat) (p0 : pulse_Train) (p1 : api_Echo) (p2 : Int) (res : ((List fold_Guess) × Int)) (h : fold_Guesses F p0 p1 p2 = some res) (μ : Frz) (w0 : World) (hm : FrzAt μ w0) : Calls Try.prog 14 #[p0.ag, p1.ag, iv p2] w0 (fun e w => ∃ zad0 zcap0, e = .returned (.tuple #[sv zad0 res.1 zcap0, iv res.2]) ∧ St w0 [arr 79 4 fold_Guess.cells zad0 res.1.length zcap0 res.1] w) := by
 obtain ⟨hlow, hS⟩ := hm.init
 have hext := Frz.ext_refl w0.heap.size μ
 rw [fold_Guesses] at h
 refine fn_enterW Try.func14 rfl 40 [(0, p0.ag), (1, p1.ag), (2, iv p2)] rfl rfl (by kernel_rfl) fun a w hw hF => ?_
 replace hS : St w0 [fz w0 μ] w := by rw [hw]; exact hS
 clear hw
 refine esr ?_
 refine SK.wi (boxK (t := 33) (fun b1 => [(1, p1.ag), (2, iv p2), (3, pb b1)]) (p0.ag) p0.ar hF hS (by kernel_rfl) ⟨by kernel_rfl⟩ (by kernel_rfl) (fun _ => ⟨by kernel_rfl⟩) fun b1 w a hF hS => ?_)
 refine SK.wi (boxK (t := 28) (fun b2 => [(2, iv p2), (3, pb b1), (4, pb b2)]) (p1.ag) p1.ar hF hS (by kernel_rfl) ⟨by kernel_rfl⟩ (by kernel_rfl) (fun _ => ⟨by kernel_rfl⟩) fun b2 w a hF hS => ?_)
 refine rn 2 4 [(2, iv p2), (3, pb b1), (4, pb b2)] hF fun a hF => ?_
 refine wfn rfl ?_
 refine eseq ?_
 refine esr ?_
 replace h := bindS h
 obtain ⟨y3, hy3, h⟩ := h
 refine rx 3 [.run [] (Instr.loadAt 33 (pb b1)) (p0.ag), .call [] 50 #[p0.ag] (iv y3)] 3 [(2, iv p2), (3, pb b1), (4, pb b2), (8, iv y3)] hF (ocons (obN (us := p0.cells) (by kernel_rfl) (fun _ hd => ((hS.later hd).blk (i := 1) rfl).cells rfl)) (ocons (show Ob.ok _ Ext _ _ from fun hk w2 hd => pulse_CheckTrain_ok F p0 _ ((fun _ => hy3) hk) _ w2 (memOf_at w2) ) onil)) fun a w hF hx => ?_
 replace hS := hS.later hx
 refine wfn rfl ?_
 refine esr ?_
 refine rn 2 2 [(2, iv p2), (3, pb b1), (4, pb b2), (8, iv y3), (15, .bool (y3 != 0))] hF fun a hF => ?_
 refine wfn rfl ?_
 refine econd hF rfl (fun hc => ?_) (fun hc => ?_)
 ·replace h := bif_t h hc
  refine esr ?_
  refine rn 3 3 [(6, .slice none 0 0), (7, iv y3)] hF fun a hF => ?_
  refine wfn rfl ?_
  refine wpIn_ret (ret_then <| fn_ret [.tmp 6, .tmp 7] [.slice none 0 0, iv y3] hF rfl ⟨rfl, rfl, trivial⟩ ?_)
  have hr_ := Option.some.inj h
  subst hr_
  replace hS := hS.nilarr 79 4 fold_Guess.cells
  exact ⟨_, _, rfl, St.pick [0] (by decide) hS⟩
 ·replace h := bif_f h hc
  refine wpIn_skip (norm_then ?_)
  refine eseq ?_
  refine esr ?_
  replace h := bindS h
  obtain ⟨y4, hy4, h⟩ := h
  refine rx 3 [.run [] (Instr.loadAt 28 (pb b2)) (p1.ag), .call [] 51 #[p1.ag] (iv y4)] 3 [(2, iv p2), (3, pb b1), (4, pb b2), (9, iv y4)] hF (ocons (obN (us := p1.cells) (by kernel_rfl) (fun _ hd => ((hS.later hd).blk (i := 0) rfl).cells rfl)) (ocons (show Ob.ok _ Ext _ _ from fun hk w2 hd => pulse_CheckEcho_ok F (api_Echo.mk p1.Kind p1.Power ((api_Span.mk p1.Steps.1.Lo p1.Steps.1.Hi), (api_Span.mk p1.Steps.2.Lo p1.Steps.2.Hi)) p1.Spread p1.Ratio p1.Match p1.Turn) _ ((fun _ => hy4) hk) _ w2 (memOf_at w2) ) onil)) fun a w hF hx => ?_
  replace hS := hS.later hx
  refine wfn rfl ?_
  refine esr ?_
  refine rn 2 2 [(2, iv p2), (3, pb b1), (4, pb b2), (9, iv y4), (20, .bool (y4 != 0))] hF fun a hF => ?_
  refine wfn rfl ?_
  refine econd hF rfl (fun hc => ?_) (fun hc => ?_)
  ·replace h := bif_t h hc
   refine esr ?_
   refine rn 3 3 [(6, .slice none 0 0), (7, iv y4)] hF fun a hF => ?_
   refine wfn rfl ?_
   refine wpIn_ret (ret_then <| fn_ret [.tmp 6, .tmp 7] [.slice none 0 0, iv y4] hF rfl ⟨rfl, rfl, trivial⟩ ?_)
   have hr_ := Option.some.inj h
   subst hr_
   replace hS := hS.nilarr 79 4 fold_Guess.cells
   exact ⟨_, _, rfl, St.pick [0] (by decide) hS⟩
  ·replace h := bif_f h hc
   refine wpIn_skip (norm_then ?_)
   refine eseq ?_
   refine wpIn_block ?_
   refine esr ?_
   refine rx 4 [.call [] 52 #[iv p2] (.bool (fold_bound p2))] 4 [(2, iv p2), (3, pb b1), (4, pb b2), (22, .bool (!(fold_bound p2)))] hF (ocons (show Ob.ok _ Ext _ _ from fun hk w2 hd => fold_bound_ok p2 _ rfl _ w2 (memOf_at w2) ) onil) fun a w hF hx => ?_
   replace hS := hS.later hx
   refine wfn rfl ?_
   refine econd hF rfl (fun hc => ?_) (fun hc => ?_)
   ·replace h := bif_t h hc
    refine esr ?_
    refine rn 2 2 [(6, .slice none 0 0), (7, iv 3)] hF fun a hF => ?_
    refine wfn rfl ?_
    refine wpIn_ret (ret_block <| ret_then <| fn_ret [.tmp 6, .tmp 7] [.slice none 0 0, iv 3] hF rfl ⟨rfl, rfl, trivial⟩ ?_)
    have hr_ := Option.some.inj h
    subst hr_
    replace hS := hS.nilarr 79 4 fold_Guess.cells
    exact ⟨_, _, rfl, St.pick [0] (by decide) hS⟩
   ·replace h := bif_f h hc
    refine esr ?_
    refine rno 4 [.run [] (Instr.loadAt 3 (pb b2)) (iv p1.Kind)] 4 [(2, iv p2), (3, pb b1), (4, pb b2), (26, .bool (p1.Kind != 3))] hF (ocons (ob1 (by kernel_rfl) (fun _ hd => (hS.at_ hd).cell (i := 0) (j := 0) rfl rfl)) onil) fun a hF => ?_
    refine wfn rfl ?_
    refine econd hF rfl (fun hc => ?_) (fun hc => ?_)
    ·replace h := bif_t h hc
     refine esr ?_
     refine rn 2 2 [(6, .slice none 0 0), (7, iv 18)] hF fun a hF => ?_
     refine wfn rfl ?_
     refine wpIn_ret (ret_block <| ret_then <| fn_ret [.tmp 6, .tmp 7] [.slice none 0 0, iv 18] hF rfl ⟨rfl, rfl, trivial⟩ ?_)
     have hr_ := Option.some.inj h
     subst hr_
     replace hS := hS.nilarr 79 4 fold_Guess.cells
     exact ⟨_, _, rfl, St.pick [0] (by decide) hS⟩
    ·replace h := bif_f h hc
     refine wpIn_skip (norm_block <| norm_then <| ?_)
     refine esr ?_
     refine rno 3 [.run [] (Instr.loadAt 33 (pb b1)) (p0.ag), .run [] (Instr.loadAt 28 (pb b2)) (p1.ag)] 3 [(31, p0.ag), (32, p1.ag), (33, iv p2)] hF (ocons (obN (us := p0.cells) (by kernel_rfl) (fun _ hd => ((hS.at_ hd).blk (i := 1) rfl).cells rfl)) (ocons (obN (us := p1.cells) (by kernel_rfl) (fun _ hd => ((hS.at_ hd).blk (i := 0) rfl).cells rfl)) onil)) fun a hF => ?_
     replace h := bindS h
     obtain ⟨y6, hy6, h⟩ := h
     refine SK.wi (callK (f := 53) (args := #[p0.ag, p1.ag, iv p2]) (R := fun v w2 => ∃ ad7 cap8, v = .tuple #[sv ad7 y6.1 cap8, .bool y6.2] ∧ St w [arr 79 4 fold_Guess.cells ad7 y6.1.length cap8 y6.1] w2) (fun v5 => [(34, v5)]) hF (by kernel_rfl) ⟨by kernel_rfl⟩ (Calls.mono (fold_guesses_ok F p0 (api_Echo.mk p1.Kind p1.Power ((api_Span.mk p1.Steps.1.Lo p1.Steps.1.Hi), (api_Span.mk p1.Steps.2.Lo p1.Steps.2.Hi)) p1.Spread p1.Ratio p1.Match p1.Turn) p2 _ hy6 (memOf w) w (memOf_at w) ) (by rintro e w2 ⟨ad7, cap8, rfl, h⟩; exact ⟨_, rfl, ad7, cap8, rfl, h⟩)) (fun _ => ⟨by kernel_rfl⟩) ?_)
     rintro v5 w a ⟨ad7, cap8, rfl, hQ⟩ hF
     replace hS : St w0 [arr 79 4 fold_Guess.cells ad7 y6.1.length cap8 y6.1, blk b2 28 p1.ar, blk b1 33 p0.ar, fz w0 μ] w := hS.madeL hQ
     refine rn 5 9 [(10, sv ad7 y6.1 cap8), (11, .bool y6.2)] hF fun a hF => ?_
     refine wfn rfl ?_
     refine eseq ?_
     refine esr ?_
     refine rn 2 2 [(10, sv ad7 y6.1 cap8), (38, .bool (!y6.2))] hF fun a hF => ?_
     refine wfn rfl ?_
     refine econd hF rfl (fun hc => ?_) (fun hc => ?_)
     ·replace h := bif_t h hc
      refine esr ?_
      refine rn 2 2 [(6, .slice none 0 0), (7, iv 9)] hF fun a hF => ?_
      refine wfn rfl ?_
      refine wpIn_ret (ret_then <| fn_ret [.tmp 6, .tmp 7] [.slice none 0 0, iv 9] hF rfl ⟨rfl, rfl, trivial⟩ ?_)
      have hr_ := Option.some.inj h
      subst hr_
      replace hS := hS.nilarr 79 4 fold_Guess.cells
      exact ⟨_, _, rfl, St.pick [0] (by decide) hS⟩
     ·replace h := bif_f h hc
      refine wpIn_skip (norm_then ?_)
      refine esr ?_
      refine rn 3 3 [(6, sv ad7 y6.1 cap8), (7, iv 0)] hF fun a hF => ?_
      refine wfn rfl ?_
      refine wpIn_ret (fn_ret [.tmp 6, .tmp 7] [sv ad7 y6.1 cap8, iv 0] hF rfl ⟨rfl, rfl, trivial⟩ ?_)
      have hr_ := Option.some.inj h
      subst hr_
      exact ⟨_, _, rfl, St.pick [0] (by decide) hS⟩

theorem law03_FoldGuesses_ok (F : Nat) (p0 : ref02_Train) (p1 : api_Echo) (p2 : Int) (p3 : Int) (p4 : Int) (res : Bool) (h : law03_FoldGuesses F p0 p1 p2 p3 p4 = some res) (μ : Frz) (w0 : World) (hm : FrzAt μ w0) : Calls Try.prog 3 #[p0.ag, p1.ag, iv p2, iv p3, iv p4] w0 (fun e w => e = .returned (.bool res) ∧ Ext w0 w) := by
 obtain ⟨hlow, hS⟩ := hm.init
 have hext := Frz.ext_refl w0.heap.size μ
 rw [law03_FoldGuesses] at h
 refine fn_enterW Try.func3 rfl 65 [(0, p0.ag), (1, p1.ag), (2, iv p2), (3, iv p3), (4, iv p4)] rfl rfl (by kernel_rfl) fun a w hw hF => ?_
 replace hS : St w0 [fz w0 μ] w := by rw [hw]; exact hS
 clear hw
 refine esr ?_
 refine SK.wi (boxK (t := 23) (fun b1 => [(1, p1.ag), (2, iv p2), (3, iv p3), (4, iv p4), (5, pb b1)]) (p0.ag) p0.ar hF hS (by kernel_rfl) ⟨by kernel_rfl⟩ (by kernel_rfl) (fun _ => ⟨by kernel_rfl⟩) fun b1 w a hF hS => ?_)
 refine SK.wi (boxK (t := 28) (fun b2 => [(2, iv p2), (3, iv p3), (4, iv p4), (5, pb b1), (6, pb b2)]) (p1.ag) p1.ar hF hS (by kernel_rfl) ⟨by kernel_rfl⟩ (by kernel_rfl) (fun _ => ⟨by kernel_rfl⟩) fun b2 w a hF hS => ?_)
 refine rn 1 3 [(2, iv p2), (3, iv p3), (4, iv p4), (5, pb b1), (6, pb b2)] hF fun a hF => ?_
 refine wfn rfl ?_
 refine esr ?_
 refine rno 3 [.run [] (Instr.loadAt 23 (pb b1)) (p0.ag), .run [] (Instr.loadAt 28 (pb b2)) (p1.ag)] 3 [(2, iv p2), (3, iv p3), (4, iv p4), (5, pb b1), (6, pb b2), (18, p0.ag), (19, p1.ag), (20, iv p2)] hF (ocons (obN (us := p0.cells) (by kernel_rfl) (fun _ hd => ((hS.at_ hd).blk (i := 1) rfl).cells rfl)) (ocons (obN (us := p1.cells) (by kernel_rfl) (fun _ hd => ((hS.at_ hd).blk (i := 0) rfl).cells rfl)) onil)) fun a hF => ?_
 replace h := bindS h
 obtain ⟨y4, hy4, h⟩ := h
 refine SK.wi (callK (f := 14) (args := #[p0.ag, p1.ag, iv p2]) (R := fun v w2 => ∃ ad5 cap6, v = .tuple #[sv ad5 y4.1 cap6, iv y4.2] ∧ St w [arr 79 4 fold_Guess.cells ad5 y4.1.length cap6 y4.1] w2) (fun v3 => [(2, iv p2), (3, iv p3), (4, iv p4), (5, pb b1), (6, pb b2), (21, v3)]) hF (by kernel_rfl) ⟨by kernel_rfl⟩ (Calls.mono (fold_Guesses_ok F (pulse_Train.mk p0.Lambda p0.Kind p0.First p0.Second p0.Count) (api_Echo.mk p1.Kind p1.Power ((api_Span.mk p1.Steps.1.Lo p1.Steps.1.Hi), (api_Span.mk p1.Steps.2.Lo p1.Steps.2.Hi)) p1.Spread p1.Ratio p1.Match p1.Turn) p2 _ hy4 (memOf w) w (memOf_at w) ) (by rintro e w2 ⟨ad5, cap6, rfl, h⟩; exact ⟨_, rfl, ad5, cap6, rfl, h⟩)) (fun _ => ⟨by kernel_rfl⟩) ?_)
 rintro v3 w a ⟨ad5, cap6, rfl, hQ⟩ hF
 replace hS : St w0 [arr 79 4 fold_Guess.cells ad5 y4.1.length cap6 y4.1, blk b2 28 p1.ar, blk b1 23 p0.ar, fz w0 μ] w := hS.madeL hQ
 refine rn 5 9 [(2, iv p2), (3, iv p3), (4, iv p4), (5, pb b1), (6, pb b2), (11, sv ad5 y4.1 cap6), (12, iv y4.2)] hF fun a hF => ?_
 refine wfn rfl ?_
 refine esr ?_
 refine rno 3 [.run [] (Instr.loadAt 23 (pb b1)) (p0.ag), .run [] (Instr.loadAt 28 (pb b2)) (p1.ag)] 3 [(3, iv p3), (4, iv p4), (5, pb b1), (11, sv ad5 y4.1 cap6), (12, iv y4.2), (25, p0.ag), (26, p1.ag), (27, iv p2)] hF (ocons (obN (us := p0.cells) (by kernel_rfl) (fun _ hd => ((hS.at_ hd).blk (i := 2) rfl).cells rfl)) (ocons (obN (us := p1.cells) (by kernel_rfl) (fun _ hd => ((hS.at_ hd).blk (i := 1) rfl).cells rfl)) onil)) fun a hF => ?_
 replace h := bindS h
 obtain ⟨y8, hy8, h⟩ := h
 refine SK.wi (callK (f := 15) (args := #[p0.ag, p1.ag, iv p2]) (R := fun v w2 => ∃ ad9 cap10, v = .tuple #[sv ad9 y8.1 cap10, iv y8.2] ∧ St w [arr 127 4 ref03_Guess.cells ad9 y8.1.length cap10 y8.1] w2) (fun v7 => [(3, iv p3), (4, iv p4), (5, pb b1), (11, sv ad5 y4.1 cap6), (12, iv y4.2), (28, v7)]) hF (by kernel_rfl) ⟨by kernel_rfl⟩ (Calls.mono (ref03_Guesses_ok F p0 (api_Echo.mk p1.Kind p1.Power ((api_Span.mk p1.Steps.1.Lo p1.Steps.1.Hi), (api_Span.mk p1.Steps.2.Lo p1.Steps.2.Hi)) p1.Spread p1.Ratio p1.Match p1.Turn) p2 _ hy8 (memOf w) w (memOf_at w) ) (by rintro e w2 ⟨ad9, cap10, rfl, h⟩; exact ⟨_, rfl, ad9, cap10, rfl, h⟩)) (fun _ => ⟨by kernel_rfl⟩) ?_)
 rintro v7 w a ⟨ad9, cap10, rfl, hQ⟩ hF
 replace hS : St w0 [arr 127 4 ref03_Guess.cells ad9 y8.1.length cap10 y8.1, arr 79 4 fold_Guess.cells ad5 y4.1.length cap6 y4.1, blk b2 28 p1.ar, blk b1 23 p0.ar, fz w0 μ] w := hS.madeL hQ
 refine rn 5 9 [(3, iv p3), (4, iv p4), (5, pb b1), (11, sv ad5 y4.1 cap6), (12, iv y4.2), (13, sv ad9 y8.1 cap10), (14, iv y8.2)] hF fun a hF => ?_
 refine wfn rfl ?_
 refine eseq ?_
 refine esr ?_
 replace h := bindS h
 obtain ⟨y11, hy11, h⟩ := h
 refine rx 9 [.call [] 16 #[sv ad5 y4.1 cap6, sv ad9 y8.1 cap10] (.bool y11)] 9 [(3, iv p3), (4, iv p4), (5, pb b1), (39, .bool (bif (!y11) then true else (y4.2 != y8.2)))] hF (ocons (show Ob.ok _ Ext _ _ from fun hk w2 hd => law03_guesses_ok F y4.1 y8.1 _ ((fun _ => hy11) hk) _ w2 (memOf_at w2) (Arr.toM ((hS.later hd).arr (i := 1) rfl)) (Arr.toM ((hS.later hd).arr (i := 0) rfl))) onil) fun a w hF hx => ?_
 replace hS := hS.later hx
 refine wfn rfl ?_
 refine econd hF rfl (fun hc => ?_) (fun hc => ?_)
 ·replace h := bif_t h hc
  refine esr ?_
  refine rn 1 1 [(10, .bool false)] hF fun a hF => ?_
  refine wfn rfl ?_
  refine wpIn_ret (ret_then <| fn_ret [.tmp 10] [.bool false] hF rfl ⟨rfl, trivial⟩ ?_)
  have hr_ := Option.some.inj h
  subst hr_
  exact ⟨rfl, hS.ext⟩
 ·replace h := bif_f h hc
  refine wpIn_skip (norm_then ?_)
  refine esr ?_
  replace h := bindS h
  obtain ⟨y12, hy12, h⟩ := h
  refine rx 9 [.run [] (Instr.loadAt 23 (pb b1)) (p0.ag), .call [] 17 #[p0.ag, iv p3, iv p4] (.tuple #[iv y12.1, iv y12.2])] 9 [(3, iv p3), (4, iv p4), (5, pb b1), (12, iv y12.2), (15, iv y12.1)] hF (ocons (obN (us := p0.cells) (by kernel_rfl) (fun _ hd => ((hS.later hd).blk (i := 3) rfl).cells rfl)) (ocons (show Ob.ok _ Ext _ _ from fun hk w2 hd => fold_Window_ok F (pulse_Train.mk p0.Lambda p0.Kind p0.First p0.Second p0.Count) p3 p4 _ ((fun _ => hy12) hk) _ w2 (memOf_at w2) ) onil)) fun a w hF hx => ?_
  replace hS := hS.later hx
  refine wfn rfl ?_
  refine esr ?_
  replace h := bindS h
  obtain ⟨y13, hy13, h⟩ := h
  refine rx 9 [.run [] (Instr.loadAt 23 (pb b1)) (p0.ag), .call [] 18 #[p0.ag, iv p3, iv p4] (.tuple #[iv y13.1, iv y13.2])] 9 [(12, iv y12.2), (14, iv y13.2), (15, iv y12.1), (16, iv y13.1)] hF (ocons (obN (us := p0.cells) (by kernel_rfl) (fun _ hd => ((hS.later hd).blk (i := 3) rfl).cells rfl)) (ocons (show Ob.ok _ Ext _ _ from fun hk w2 hd => ref03_Window_ok F p0 p3 p4 _ ((fun _ => hy13) hk) _ w2 (memOf_at w2) ) onil)) fun a w hF hx => ?_
  replace hS := hS.later hx
  refine wfn rfl ?_
  refine esr ?_
  refine rx 12 [.call [⟨62, true, (bif (y12.1 == y13.1) then (y12.2 == y13.2) else false)⟩] 19 #[] (.bool law03_works)] 12 [(10, .bool (bif (bif (y12.1 == y13.1) then (y12.2 == y13.2) else false) then law03_works else false))] hF (ocons (show Ob.ok _ Ext _ _ from fun hk w2 hd => law03_works_ok  _ rfl _ w2 (memOf_at w2) ) onil) fun a w hF hx => ?_
  replace hS := hS.later hx
  refine wfn rfl ?_
  refine wpIn_ret (fn_ret [.tmp 10] [.bool (bif (bif (y12.1 == y13.1) then (y12.2 == y13.2) else false) then law03_works else false)] hF rfl ⟨rfl, trivial⟩ ?_)
  have hr_ := Option.some.inj h
  subst hr_
  exact ⟨rfl, hS.ext⟩
end Go.Proofs.Ytbhjgebjojdohaa
