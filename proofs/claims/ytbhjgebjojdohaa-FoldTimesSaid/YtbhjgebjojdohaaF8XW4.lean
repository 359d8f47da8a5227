/- Walks, written by program (wip/gen/dec.py). -/
import Derived.Test.YtbhjgebjojdohaaF8XD
import Derived.Test.YtbhjgebjojdohaaProg
import Derived.Test.YtbhjgebjojdohaaF8XW0
import Derived.Test.YtbhjgebjojdohaaF8XW1
import Derived.Test.YtbhjgebjojdohaaF8XW3
namespace Go.Proofs.Ytbhjgebjojdohaa
open Go Go.RowKit Go.Eng
set_option maxRecDepth 10000
set_option maxHeartbeats 4000000
set_option linter.unusedVariables false
set_option linter.unusedSimpArgs false
theorem fold_Guesses_ok (F : Nat) (p0 : pulse_Train) (p1 : api_Echo) (p2 : Int) (res : ((List fold_Guess) × Int)) (h : fold_Guesses F p0 p1 p2 = some res) (μ : Frz) (w0 : World) (hm : FrzAt μ w0) : Calls Try.prog 14 #[p0.ag, p1.ag, iv p2] w0 (fun e w => ∃ zad0 zcap0, e = .returned (.tuple #[sv zad0 res.1 zcap0, iv res.2]) ∧ St w0 [arr 79 4 fold_Guess.cells zad0 res.1.length zcap0 res.1] w) := by
 obtain ⟨hlow, hS⟩ := hm.init
 have hext := Frz.ext_refl w0.heap.size μ
 rw [fold_Guesses] at h
 refine fn_enterW Try.func14 rfl 40 [(0, p0.ag), (1, p1.ag), (2, iv p2)] rfl rfl (by kernel_rfl) fun a w hw hF => ?_
 replace hS : St w0 [fz w0 μ] w := by rw [hw]; exact hS
 clear hw
 refine esr ?_
 refine SK.wi (boxK (t := 33) (fun b1 => [(1, p1.ag), (2, iv p2), (3, pb b1)]) (p0.ag) p0.ar hF hS (by kernel_rfl) ⟨by kernel_rfl⟩ (by kernel_rfl) (fun _ => ⟨by kernel_rfl⟩) fun b1 w a hF hS => ?_)
 refine SK.wi (boxK (t := 28) (fun b2 => [(2, iv p2), (3, pb b1), (4, pb b2)]) (p1.ag) p1.ar hF hS (by kernel_rfl) ⟨by kernel_rfl⟩ (by kernel_rfl) (fun _ => ⟨by kernel_rfl⟩) fun b2 w a hF hS => ?_)
 refine rn 2 4 [(2, iv p2), (3, pb b1), (4, pb b2)] hF fun a hF => ?_
 refine wfn rfl ?_
 refine eseq ?_
 refine esr ?_
 replace h := bindS h
 obtain ⟨y3, hy3, h⟩ := h
 refine rx 3 [.run [] (Instr.loadAt 33 (pb b1)) (p0.ag), .call [] 50 #[p0.ag] (iv y3)] 3 [(2, iv p2), (3, pb b1), (4, pb b2), (8, iv y3)] hF (ocons (obN (us := p0.cells) (by kernel_rfl) (fun _ hd => ((hS.later hd).blk (i := 1) rfl).cells rfl)) (ocons (show Ob.ok _ Ext _ _ from fun hk w2 hd => pulse_CheckTrain_ok F p0 _ ((fun _ => hy3) hk) _ w2 (memOf_at w2) ) onil)) fun a w hF hx => ?_
 replace hS := hS.later hx
 refine wfn rfl ?_
 refine esr ?_
 refine rn 2 2 [(2, iv p2), (3, pb b1), (4, pb b2), (8, iv y3), (15, .bool (y3 != 0))] hF fun a hF => ?_
 refine wfn rfl ?_
 refine econd hF rfl (fun hc => ?_) (fun hc => ?_)
 ·replace h := bif_t h hc
  refine esr ?_
  refine rn 3 3 [(6, .slice none 0 0), (7, iv y3)] hF fun a hF => ?_
  refine wfn rfl ?_
  refine wpIn_ret (ret_then <| fn_ret [.tmp 6, .tmp 7] [.slice none 0 0, iv y3] hF rfl ⟨rfl, rfl, trivial⟩ ?_)
  have hr_ := Option.some.inj h
  subst hr_
  replace hS := hS.nilarr 79 4 fold_Guess.cells
  exact ⟨_, _, rfl, St.pick [0] (by decide) hS⟩
 ·replace h := bif_f h hc
  refine wpIn_skip (norm_then ?_)
  refine eseq ?_
  refine esr ?_
  replace h := bindS h
  obtain ⟨y4, hy4, h⟩ := h
  refine rx 3 [.run [] (Instr.loadAt 28 (pb b2)) (p1.ag), .call [] 51 #[p1.ag] (iv y4)] 3 [(2, iv p2), (3, pb b1), (4, pb b2), (9, iv y4)] hF (ocons (obN (us := p1.cells) (by kernel_rfl) (fun _ hd => ((hS.later hd).blk (i := 0) rfl).cells rfl)) (ocons (show Ob.ok _ Ext _ _ from fun hk w2 hd => pulse_CheckEcho_ok F (api_Echo.mk p1.Kind p1.Power ((api_Span.mk p1.Steps.1.Lo p1.Steps.1.Hi), (api_Span.mk p1.Steps.2.Lo p1.Steps.2.Hi)) p1.Spread p1.Ratio p1.Match p1.Turn) _ ((fun _ => hy4) hk) _ w2 (memOf_at w2) ) onil)) fun a w hF hx => ?_
  replace hS := hS.later hx
  refine wfn rfl ?_
  refine esr ?_
  refine rn 2 2 [(2, iv p2), (3, pb b1), (4, pb b2), (9, iv y4), (20, .bool (y4 != 0))] hF fun a hF => ?_
  refine wfn rfl ?_
  refine econd hF rfl (fun hc => ?_) (fun hc => ?_)
  ·replace h := bif_t h hc
   refine esr ?_
   refine rn 3 3 [(6, .slice none 0 0), (7, iv y4)] hF fun a hF => ?_
   refine wfn rfl ?_
   refine wpIn_ret (ret_then <| fn_ret [.tmp 6, .tmp 7] [.slice none 0 0, iv y4] hF rfl ⟨rfl, rfl, trivial⟩ ?_)
   have hr_ := Option.some.inj h
   subst hr_
   replace hS := hS.nilarr 79 4 fold_Guess.cells
   exact ⟨_, _, rfl, St.pick [0] (by decide) hS⟩
  ·replace h := bif_f h hc
   refine wpIn_skip (norm_then ?_)
   refine eseq ?_
   refine wpIn_block ?_
   refine esr ?_
   refine rx 4 [.call [] 52 #[iv p2] (.bool (fold_bound p2))] 4 [(2, iv p2), (3, pb b1), (4, pb b2), (22, .bool (!(fold_bound p2)))] hF (ocons (show Ob.ok _ Ext _ _ from fun hk w2 hd => fold_bound_ok p2 _ rfl _ w2 (memOf_at w2) ) onil) fun a w hF hx => ?_
   replace hS := hS.later hx
   refine wfn rfl ?_
   refine econd hF rfl (fun hc => ?_) (fun hc => ?_)
   ·replace h := bif_t h hc
    refine esr ?_
    refine rn 2 2 [(6, .slice none 0 0), (7, iv 3)] hF fun a hF => ?_
    refine wfn rfl ?_
    refine wpIn_ret (ret_block <| ret_then <| fn_ret [.tmp 6, .tmp 7] [.slice none 0 0, iv 3] hF rfl ⟨rfl, rfl, trivial⟩ ?_)
    have hr_ := Option.some.inj h
    subst hr_
    replace hS := hS.nilarr 79 4 fold_Guess.cells
    exact ⟨_, _, rfl, St.pick [0] (by decide) hS⟩
   ·replace h := bif_f h hc
    refine esr ?_
    refine rno 4 [.run [] (Instr.loadAt 3 (pb b2)) (iv p1.Kind)] 4 [(2, iv p2), (3, pb b1), (4, pb b2), (26, .bool (p1.Kind != 3))] hF (ocons (ob1 (by kernel_rfl) (fun _ hd => (hS.at_ hd).cell (i := 0) (j := 0) rfl rfl)) onil) fun a hF => ?_
    refine wfn rfl ?_
    refine econd hF rfl (fun hc => ?_) (fun hc => ?_)
    ·replace h := bif_t h hc
     refine esr ?_
     refine rn 2 2 [(6, .slice none 0 0), (7, iv 18)] hF fun a hF => ?_
     refine wfn rfl ?_
     refine wpIn_ret (ret_block <| ret_then <| fn_ret [.tmp 6, .tmp 7] [.slice none 0 0, iv 18] hF rfl ⟨rfl, rfl, trivial⟩ ?_)
     have hr_ := Option.some.inj h
     subst hr_
     replace hS := hS.nilarr 79 4 fold_Guess.cells
     exact ⟨_, _, rfl, St.pick [0] (by decide) hS⟩
    ·replace h := bif_f h hc
     refine wpIn_skip (norm_block <| norm_then <| ?_)
     refine esr ?_
     refine rno 3 [.run [] (Instr.loadAt 33 (pb b1)) (p0.ag), .run [] (Instr.loadAt 28 (pb b2)) (p1.ag)] 3 [(31, p0.ag), (32, p1.ag), (33, iv p2)] hF (ocons (obN (us := p0.cells) (by kernel_rfl) (fun _ hd => ((hS.at_ hd).blk (i := 1) rfl).cells rfl)) (ocons (obN (us := p1.cells) (by kernel_rfl) (fun _ hd => ((hS.at_ hd).blk (i := 0) rfl).cells rfl)) onil)) fun a hF => ?_
     replace h := bindS h
     obtain ⟨y6, hy6, h⟩ := h
     refine SK.wi (callK (f := 53) (args := #[p0.ag, p1.ag, iv p2]) (R := fun v w2 => ∃ ad7 cap8, v = .tuple #[sv ad7 y6.1 cap8, .bool y6.2] ∧ St w [arr 79 4 fold_Guess.cells ad7 y6.1.length cap8 y6.1] w2) (fun v5 => [(34, v5)]) hF (by kernel_rfl) ⟨by kernel_rfl⟩ (Calls.mono (fold_guesses_ok F p0 (api_Echo.mk p1.Kind p1.Power ((api_Span.mk p1.Steps.1.Lo p1.Steps.1.Hi), (api_Span.mk p1.Steps.2.Lo p1.Steps.2.Hi)) p1.Spread p1.Ratio p1.Match p1.Turn) p2 _ hy6 (memOf w) w (memOf_at w) ) (by rintro e w2 ⟨ad7, cap8, rfl, h⟩; exact ⟨_, rfl, ad7, cap8, rfl, h⟩)) (fun _ => ⟨by kernel_rfl⟩) ?_)
     rintro v5 w a ⟨ad7, cap8, rfl, hQ⟩ hF
     replace hS : St w0 [arr 79 4 fold_Guess.cells ad7 y6.1.length cap8 y6.1, blk b2 28 p1.ar, blk b1 33 p0.ar, fz w0 μ] w := hS.madeL hQ
     refine rn 5 9 [(10, sv ad7 y6.1 cap8), (11, .bool y6.2)] hF fun a hF => ?_
     refine wfn rfl ?_
     refine eseq ?_
     refine esr ?_
     refine rn 2 2 [(10, sv ad7 y6.1 cap8), (38, .bool (!y6.2))] hF fun a hF => ?_
     refine wfn rfl ?_
     refine econd hF rfl (fun hc => ?_) (fun hc => ?_)
     ·replace h := bif_t h hc
      refine esr ?_
      refine rn 2 2 [(6, .slice none 0 0), (7, iv 9)] hF fun a hF => ?_
      refine wfn rfl ?_
      refine wpIn_ret (ret_then <| fn_ret [.tmp 6, .tmp 7] [.slice none 0 0, iv 9] hF rfl ⟨rfl, rfl, trivial⟩ ?_)
      have hr_ := Option.some.inj h
      subst hr_
      replace hS := hS.nilarr 79 4 fold_Guess.cells
      exact ⟨_, _, rfl, St.pick [0] (by decide) hS⟩
     ·replace h := bif_f h hc
      refine wpIn_skip (norm_then ?_)
      refine esr ?_
      refine rn 3 3 [(6, sv ad7 y6.1 cap8), (7, iv 0)] hF fun a hF => ?_
      refine wfn rfl ?_
      refine wpIn_ret (fn_ret [.tmp 6, .tmp 7] [sv ad7 y6.1 cap8, iv 0] hF rfl ⟨rfl, rfl, trivial⟩ ?_)
      have hr_ := Option.some.inj h
      subst hr_
      exact ⟨_, _, rfl, St.pick [0] (by decide) hS⟩
end Go.Proofs.Ytbhjgebjojdohaa
