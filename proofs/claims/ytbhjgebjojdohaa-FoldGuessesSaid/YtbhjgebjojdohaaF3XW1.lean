/- Walks, written by program (wip/gen/dec.py). -/
import Derived.Test.YtbhjgebjojdohaaF3XD
import Derived.Test.YtbhjgebjojdohaaProg
import Derived.Test.YtbhjgebjojdohaaF3XW0
namespace Go.Proofs.Ytbhjgebjojdohaa
open Go Go.RowKit Go.Eng
set_option maxRecDepth 10000
set_option maxHeartbeats 4000000
set_option linter.unusedVariables false
set_option linter.unusedSimpArgs false
theorem pulse_CheckEcho_ok (F : Nat) (p0 : api_Echo) (res : Int) (h : pulse_CheckEcho F p0 = some res) (μ : Frz) (w0 : World) (hm : FrzAt μ w0) : Calls Try.prog 51 #[p0.ag] w0 (fun e w => e = .returned (iv res) ∧ Ext w0 w) := by
 obtain ⟨hlow, hS⟩ := hm.init
 have hext := Frz.ext_refl w0.heap.size μ
 rw [pulse_CheckEcho] at h
 refine fn_enterW Try.func51 rfl 77 [(0, p0.ag)] rfl rfl (by kernel_rfl) fun a w hw hF => ?_
 replace hS : St w0 [fz w0 μ] w := by rw [hw]; exact hS
 clear hw
 refine esr ?_
 refine SK.wi (boxK (t := 28) (fun b1 => [(1, pb b1)]) (p0.ag) p0.ar hF hS (by kernel_rfl) ⟨by kernel_rfl⟩ (by kernel_rfl) (fun _ => ⟨by kernel_rfl⟩) fun b1 w a hF hS => ?_)
 refine rn 1 2 [(1, pb b1)] hF fun a hF => ?_
 refine wfn rfl ?_
 refine esr ?_
 refine rx 4 [.run [] (Instr.loadAt 25 (.pointer (some ⟨b1, 1, none⟩))) (.agg #[iv p0.Power.Lo, iv p0.Power.Hi]), .call [] 89 #[.agg #[iv p0.Power.Lo, iv p0.Power.Hi], iv 0, iv 1073741824] (.bool (pulse_inside p0.Power 0 1073741824))] 4 [(1, pb b1), (3, .bool (pulse_inside p0.Power 0 1073741824))] hF (ocons (obN (us := [iv p0.Power.Lo, iv p0.Power.Hi]) (by kernel_rfl) (fun _ hd => ((hS.later hd).blk (i := 0) rfl).cells rfl)) (ocons (show Ob.ok _ Ext _ _ from fun hk w2 hd => pulse_inside_ok p0.Power 0 1073741824 _ rfl _ w2 (memOf_at w2) ) onil)) fun a w hF hx => ?_
 replace hS := hS.later hx
 refine wfn rfl ?_
 refine ecut (fun a w => ∃ (c7 : Bool), Fr 77 [] [(3, .bool c7)] a ∧ St w0 [blk b1 28 p0.ar, fz w0 μ] w ∧ pulse_CheckEcho_K1 c7 = some res) ?_ ?_
 ·skip
  refine esr ?_
  refine rno 2 [.run [] (Instr.loadAt 3 (pb b1)) (iv p0.Kind)] 2 [(1, pb b1), (3, .bool (pulse_inside p0.Power 0 1073741824)), (8, iv p0.Kind)] hF (ocons (ob1 (by kernel_rfl) (fun _ hd => (hS.at_ hd).cell (i := 0) (j := 0) rfl rfl)) onil) fun a hF => ?_
  refine wfn rfl ?_
  refine wpIn_block ?_
  refine esr ?_
  refine rn 2 2 [(1, pb b1), (3, .bool (pulse_inside p0.Power 0 1073741824)), (8, iv p0.Kind), (9, .bool (p0.Kind == 1))] hF fun a hF => ?_
  refine wfn rfl ?_
  refine econd hF rfl (fun hc => ?_) (fun hc => ?_)
  ·replace h := bif_t h hc
   refine WI.region ?_
   refine rno 11 [.run [⟨12, true, (pulse_inside p0.Power 0 1073741824)⟩] (Instr.loadAt 28 (pb b1)) (p0.ag), .run [⟨12, true, (pulse_inside p0.Power 0 1073741824)⟩] (Instr.loadAt 3 (.pointer (some ⟨b1, 2, none⟩))) (iv p0.Power.Hi), .run [⟨12, true, (pulse_inside p0.Power 0 1073741824)⟩] (eqS .eql 28 p0.ar #[iv 1, iv 0, iv p0.Power.Hi, iv 0, iv 0, iv 0, iv 0, iv 0, iv 0, iv 0, iv 0, iv 0, iv 0, iv 0]) (.bool (((p0.Kind : Int) == 1) && ((((p0.Power.Lo : Int) == 0) && (((p0.Power.Hi : Int) == p0.Power.Hi) && true)) && (((((p0.Steps.1.Lo : Int) == 0) && (((p0.Steps.1.Hi : Int) == 0) && true)) && ((((p0.Steps.2.Lo : Int) == 0) && (((p0.Steps.2.Hi : Int) == 0) && true)) && true)) && (((p0.Spread : Int) == 0) && ((((p0.Ratio.Lo : Int) == 0) && (((p0.Ratio.Hi : Int) == 0) && true)) && ((((p0.Match.Lo : Int) == 0) && (((p0.Match.Hi : Int) == 0) && true)) && ((((p0.Turn.Lo : Int) == 0) && (((p0.Turn.Hi : Int) == 0) && true)) && true))))))))] 11 [(3, .bool (bif (pulse_inside p0.Power 0 1073741824) then (((p0.Kind : Int) == 1) && ((((p0.Power.Lo : Int) == 0) && (((p0.Power.Hi : Int) == p0.Power.Hi) && true)) && (((((p0.Steps.1.Lo : Int) == 0) && (((p0.Steps.1.Hi : Int) == 0) && true)) && ((((p0.Steps.2.Lo : Int) == 0) && (((p0.Steps.2.Hi : Int) == 0) && true)) && true)) && (((p0.Spread : Int) == 0) && ((((p0.Ratio.Lo : Int) == 0) && (((p0.Ratio.Hi : Int) == 0) && true)) && ((((p0.Match.Lo : Int) == 0) && (((p0.Match.Hi : Int) == 0) && true)) && ((((p0.Turn.Lo : Int) == 0) && (((p0.Turn.Hi : Int) == 0) && true)) && true))))))) else false))] hF (ocons (obN (us := p0.cells) (by kernel_rfl) (fun _ hd => ((hS.at_ hd).blk (i := 0) rfl).cells rfl)) (ocons (ob1 (by kernel_rfl) (fun _ hd => (hS.at_ hd).cell (i := 0) (j := 2) rfl rfl)) (ocons (obEqC (by kernel_rfl) (by kernel_rfl)) onil))) fun a hF => ?_
   refine WI.fin rfl (norm_block <| norm_then <| ?_)
   exact ⟨bif (pulse_inside p0.Power 0 1073741824) then (((p0.Kind : Int) == 1) && ((((p0.Power.Lo : Int) == 0) && (((p0.Power.Hi : Int) == p0.Power.Hi) && true)) && (((((p0.Steps.1.Lo : Int) == 0) && (((p0.Steps.1.Hi : Int) == 0) && true)) && ((((p0.Steps.2.Lo : Int) == 0) && (((p0.Steps.2.Hi : Int) == 0) && true)) && true)) && (((p0.Spread : Int) == 0) && ((((p0.Ratio.Lo : Int) == 0) && (((p0.Ratio.Hi : Int) == 0) && true)) && ((((p0.Match.Lo : Int) == 0) && (((p0.Match.Hi : Int) == 0) && true)) && ((((p0.Turn.Lo : Int) == 0) && (((p0.Turn.Hi : Int) == 0) && true)) && true))))))) else false, hF.sub (by kernel_rfl), St.pick [0, 1] (by decide) hS, h⟩
  ·replace h := bif_f h hc
   refine ecut (fun a w => ∃ (c9 : Bool), Fr 77 [] [(1, pb b1), (3, .bool (pulse_inside p0.Power 0 1073741824)), (21, .bool c9)] a ∧ St w0 [blk b1 28 p0.ar, fz w0 μ] w ∧ pulse_CheckEcho_K2 F p0 c9 = some res) ?_ ?_
   ·skip
    refine esr ?_
    refine rn 2 2 [(1, pb b1), (3, .bool (pulse_inside p0.Power 0 1073741824)), (8, iv p0.Kind), (21, .bool (p0.Kind == 2))] hF fun a hF => ?_
    refine wfn rfl ?_
    refine econd hF rfl (fun hc => ?_) (fun hc => ?_)
    ·replace h := bif_t h hc
     refine wpIn_skip (norm_then ?_)
     exact ⟨p0.Kind == 2, hF.sub (by kernel_rfl), St.pick [0, 1] (by decide) hS, h⟩
    ·replace h := bif_f h hc
     refine WI.region ?_
     refine rn 2 2 [(1, pb b1), (3, .bool (pulse_inside p0.Power 0 1073741824)), (21, .bool (p0.Kind == 3))] hF fun a hF => ?_
     refine wfn rfl ?_
     exact ⟨p0.Kind == 3, hF.sub (by kernel_rfl), St.pick [0, 1] (by decide) hS, h⟩
   rintro a w ⟨c9, hF, hS, h⟩
   rw [pulse_CheckEcho_K2] at h
   refine econd hF rfl (fun hc => ?_) (fun hc => ?_)
   ·replace h := bif_t h hc
    refine esr ?_
    refine rx 23 [.run [⟨25, true, (pulse_inside p0.Power 0 1073741824)⟩] (Instr.loadAt 3 (.pointer (some ⟨b1, 1, none⟩))) (iv p0.Power.Lo), .run [⟨31, true, (bif (pulse_inside p0.Power 0 1073741824) then (decide (p0.Power.Lo > 0)) else false)⟩] (Instr.loadAt 25 (.pointer (some ⟨b1, 8, none⟩))) (.agg #[iv p0.Ratio.Lo, iv p0.Ratio.Hi]), .call [⟨31, true, (bif (pulse_inside p0.Power 0 1073741824) then (decide (p0.Power.Lo > 0)) else false)⟩] 89 #[.agg #[iv p0.Ratio.Lo, iv p0.Ratio.Hi], iv 0, iv 1000000] (.bool (pulse_inside p0.Ratio 0 1000000)), .run [⟨36, true, (bif (bif (pulse_inside p0.Power 0 1073741824) then (decide (p0.Power.Lo > 0)) else false) then (pulse_inside p0.Ratio 0 1000000) else false)⟩] (Instr.loadAt 25 (.pointer (some ⟨b1, 10, none⟩))) (.agg #[iv p0.Match.Lo, iv p0.Match.Hi]), .call [⟨36, true, (bif (bif (pulse_inside p0.Power 0 1073741824) then (decide (p0.Power.Lo > 0)) else false) then (pulse_inside p0.Ratio 0 1000000) else false)⟩] 89 #[.agg #[iv p0.Match.Lo, iv p0.Match.Hi], iv 0, iv 1000] (.bool (pulse_inside p0.Match 0 1000)), .run [⟨41, true, (bif (bif (bif (pulse_inside p0.Power 0 1073741824) then (decide (p0.Power.Lo > 0)) else false) then (pulse_inside p0.Ratio 0 1000000) else false) then (pulse_inside p0.Match 0 1000) else false)⟩] (Instr.loadAt 3 (.pointer (some ⟨b1, 7, none⟩))) (iv p0.Spread), .call [⟨41, true, (bif (bif (bif (pulse_inside p0.Power 0 1073741824) then (decide (p0.Power.Lo > 0)) else false) then (pulse_inside p0.Ratio 0 1000000) else false) then (pulse_inside p0.Match 0 1000) else false)⟩] 88 #[iv p0.Spread, iv 0, iv 65535] (.bool (pulse_within p0.Spread 0 65535))] 23 [(1, pb b1), (3, .bool (bif (bif (bif (bif (pulse_inside p0.Power 0 1073741824) then (decide (p0.Power.Lo > 0)) else false) then (pulse_inside p0.Ratio 0 1000000) else false) then (pulse_inside p0.Match 0 1000) else false) then (pulse_within p0.Spread 0 65535) else false))] hF (ocons (ob1 (by kernel_rfl) (fun _ hd => (hS.later hd).cell (i := 0) (j := 1) rfl rfl)) (ocons (obN (us := [iv p0.Ratio.Lo, iv p0.Ratio.Hi]) (by kernel_rfl) (fun _ hd => ((hS.later hd).blk (i := 0) rfl).cells rfl)) (ocons (show Ob.ok _ Ext _ _ from fun hk w2 hd => pulse_inside_ok p0.Ratio 0 1000000 _ rfl _ w2 (memOf_at w2) ) (ocons (obN (us := [iv p0.Match.Lo, iv p0.Match.Hi]) (by kernel_rfl) (fun _ hd => ((hS.later hd).blk (i := 0) rfl).cells rfl)) (ocons (show Ob.ok _ Ext _ _ from fun hk w2 hd => pulse_inside_ok p0.Match 0 1000 _ rfl _ w2 (memOf_at w2) ) (ocons (ob1 (by kernel_rfl) (fun _ hd => (hS.later hd).cell (i := 0) (j := 7) rfl rfl)) (ocons (show Ob.ok _ Ext _ _ from fun hk w2 hd => pulse_within_ok p0.Spread 0 65535 _ rfl _ w2 (memOf_at w2) ) onil))))))) fun a w hF hx => ?_
    replace hS := hS.later hx
    refine wfn rfl ?_
    refine esr ?_
    refine rno 3 [.run [] (Instr.loadAt 3 (pb b1)) (iv p0.Kind)] 3 [(1, pb b1), (3, .bool (bif (bif (bif (bif (pulse_inside p0.Power 0 1073741824) then (decide (p0.Power.Lo > 0)) else false) then (pulse_inside p0.Ratio 0 1000000) else false) then (pulse_inside p0.Match 0 1000) else false) then (pulse_within p0.Spread 0 65535) else false)), (48, .bool (p0.Kind == 2))] hF (ocons (ob1 (by kernel_rfl) (fun _ hd => (hS.at_ hd).cell (i := 0) (j := 0) rfl rfl)) onil) fun a hF => ?_
    refine wfn rfl ?_
    refine econd hF rfl (fun hc => ?_) (fun hc => ?_)
    ·replace h := bif_t h hc
     refine WI.region ?_
     refine rno 14 [.run [⟨50, true, (bif (bif (bif (bif (pulse_inside p0.Power 0 1073741824) then (decide (p0.Power.Lo > 0)) else false) then (pulse_inside p0.Ratio 0 1000000) else false) then (pulse_inside p0.Match 0 1000) else false) then (pulse_within p0.Spread 0 65535) else false)⟩] (Instr.loadAt 26 (.pointer (some ⟨b1, 3, none⟩))) (.agg #[iv p0.Steps.1.Lo, iv p0.Steps.1.Hi, iv p0.Steps.2.Lo, iv p0.Steps.2.Hi]), .run [⟨50, true, (bif (bif (bif (bif (pulse_inside p0.Power 0 1073741824) then (decide (p0.Power.Lo > 0)) else false) then (pulse_inside p0.Ratio 0 1000000) else false) then (pulse_inside p0.Match 0 1000) else false) then (pulse_within p0.Spread 0 65535) else false)⟩] (eqS .eql 26 #[iv p0.Steps.1.Lo, iv p0.Steps.1.Hi, iv p0.Steps.2.Lo, iv p0.Steps.2.Hi] #[iv 0, iv 0, iv 0, iv 0]) (.bool ((((p0.Steps.1.Lo : Int) == 0) && (((p0.Steps.1.Hi : Int) == 0) && true)) && ((((p0.Steps.2.Lo : Int) == 0) && (((p0.Steps.2.Hi : Int) == 0) && true)) && true))), .run [⟨56, true, (bif (bif (bif (bif (bif (pulse_inside p0.Power 0 1073741824) then (decide (p0.Power.Lo > 0)) else false) then (pulse_inside p0.Ratio 0 1000000) else false) then (pulse_inside p0.Match 0 1000) else false) then (pulse_within p0.Spread 0 65535) else false) then ((((p0.Steps.1.Lo : Int) == 0) && (((p0.Steps.1.Hi : Int) == 0) && true)) && ((((p0.Steps.2.Lo : Int) == 0) && (((p0.Steps.2.Hi : Int) == 0) && true)) && true)) else false)⟩] (Instr.loadAt 25 (.pointer (some ⟨b1, 12, none⟩))) (.agg #[iv p0.Turn.Lo, iv p0.Turn.Hi]), .run [⟨56, true, (bif (bif (bif (bif (bif (pulse_inside p0.Power 0 1073741824) then (decide (p0.Power.Lo > 0)) else false) then (pulse_inside p0.Ratio 0 1000000) else false) then (pulse_inside p0.Match 0 1000) else false) then (pulse_within p0.Spread 0 65535) else false) then ((((p0.Steps.1.Lo : Int) == 0) && (((p0.Steps.1.Hi : Int) == 0) && true)) && ((((p0.Steps.2.Lo : Int) == 0) && (((p0.Steps.2.Hi : Int) == 0) && true)) && true)) else false)⟩] (eqS .eql 25 #[iv p0.Turn.Lo, iv p0.Turn.Hi] #[iv 0, iv 0]) (.bool (((p0.Turn.Lo : Int) == 0) && (((p0.Turn.Hi : Int) == 0) && true)))] 14 [(3, .bool (bif (bif (bif (bif (bif (bif (pulse_inside p0.Power 0 1073741824) then (decide (p0.Power.Lo > 0)) else false) then (pulse_inside p0.Ratio 0 1000000) else false) then (pulse_inside p0.Match 0 1000) else false) then (pulse_within p0.Spread 0 65535) else false) then ((((p0.Steps.1.Lo : Int) == 0) && (((p0.Steps.1.Hi : Int) == 0) && true)) && ((((p0.Steps.2.Lo : Int) == 0) && (((p0.Steps.2.Hi : Int) == 0) && true)) && true)) else false) then (((p0.Turn.Lo : Int) == 0) && (((p0.Turn.Hi : Int) == 0) && true)) else false))] hF (ocons (obN (us := [iv p0.Steps.1.Lo, iv p0.Steps.1.Hi, iv p0.Steps.2.Lo, iv p0.Steps.2.Hi]) (by kernel_rfl) (fun _ hd => ((hS.at_ hd).blk (i := 0) rfl).cells rfl)) (ocons (obEqC (by kernel_rfl) (by kernel_rfl)) (ocons (obN (us := [iv p0.Turn.Lo, iv p0.Turn.Hi]) (by kernel_rfl) (fun _ hd => ((hS.at_ hd).blk (i := 0) rfl).cells rfl)) (ocons (obEqC (by kernel_rfl) (by kernel_rfl)) onil)))) fun a hF => ?_
     refine WI.fin rfl (norm_block <| norm_then <| ?_)
     exact ⟨bif (bif (bif (bif (bif (bif (pulse_inside p0.Power 0 1073741824) then (decide (p0.Power.Lo > 0)) else false) then (pulse_inside p0.Ratio 0 1000000) else false) then (pulse_inside p0.Match 0 1000) else false) then (pulse_within p0.Spread 0 65535) else false) then ((((p0.Steps.1.Lo : Int) == 0) && (((p0.Steps.1.Hi : Int) == 0) && true)) && ((((p0.Steps.2.Lo : Int) == 0) && (((p0.Steps.2.Hi : Int) == 0) && true)) && true)) else false) then (((p0.Turn.Lo : Int) == 0) && (((p0.Turn.Hi : Int) == 0) && true)) else false, hF.sub (by kernel_rfl), St.pick [0, 1] (by decide) hS, h⟩
    ·replace h := bif_f h hc
     refine WI.region ?_
     refine rn 2 2 [(1, pb b1), (3, .bool (bif (bif (bif (bif (pulse_inside p0.Power 0 1073741824) then (decide (p0.Power.Lo > 0)) else false) then (pulse_inside p0.Ratio 0 1000000) else false) then (pulse_inside p0.Match 0 1000) else false) then (pulse_within p0.Spread 0 65535) else false)), (63, .bool (bif (bif (bif (bif (pulse_inside p0.Power 0 1073741824) then (decide (p0.Power.Lo > 0)) else false) then (pulse_inside p0.Ratio 0 1000000) else false) then (pulse_inside p0.Match 0 1000) else false) then (pulse_within p0.Spread 0 65535) else false))] hF fun a hF => ?_
     rcases Bool.eq_false_or_eq_true ((bif (bif (bif (bif (pulse_inside p0.Power 0 1073741824) then (decide (p0.Power.Lo > 0)) else false) then (pulse_inside p0.Ratio 0 1000000) else false) then (pulse_inside p0.Match 0 1000) else false) then (pulse_within p0.Spread 0 65535) else false)) with hg10 | hg10
     ·replace h := bif_t h hg10
      rw [hg10] at hF
      refine run_C (n := 8) (obs := [.run [⟨63, true, true⟩] (Instr.indexAt 26 (.pointer (some ⟨b1, 3, none⟩)) (iv 0)) (.pointer (some ⟨b1, 3, none⟩)), .run [⟨63, true, true⟩] (Instr.loadAt 25 (.pointer (some ⟨b1, 3, none⟩))) (.agg #[iv p0.Steps.1.Lo, iv p0.Steps.1.Hi]), .run [⟨63, true, true⟩] (Instr.indexAt 26 (.pointer (some ⟨b1, 3, none⟩)) (iv 1)) (.pointer (some ⟨b1, 5, none⟩)), .run [⟨63, true, true⟩] (Instr.loadAt 25 (.pointer (some ⟨b1, 5, none⟩))) (.agg #[iv p0.Steps.2.Lo, iv p0.Steps.2.Hi]), .run [⟨63, true, true⟩] (Instr.loadAt 25 (.pointer (some ⟨b1, 12, none⟩))) (.agg #[iv p0.Turn.Lo, iv p0.Turn.Hi])]) 10 [(3, ⟨[], .bool true⟩), (63, ⟨[], .bool true⟩), (66, ⟨[⟨63, true, true⟩], .agg #[iv p0.Steps.1.Lo, iv p0.Steps.1.Hi]⟩), (69, ⟨[⟨63, true, true⟩], .agg #[iv p0.Steps.2.Lo, iv p0.Steps.2.Hi]⟩), (71, ⟨[⟨63, true, true⟩], .agg #[iv p0.Turn.Lo, iv p0.Turn.Hi]⟩)] hF (by kernel_rfl) (ocons (obPureSem (by kernel_rfl)) (ocons (obN (us := [iv p0.Steps.1.Lo, iv p0.Steps.1.Hi]) (by kernel_rfl) (fun _ hd => ((hS.at_ hd).blk (i := 0) rfl).cells rfl)) (ocons (obPureSem (by kernel_rfl)) (ocons (obN (us := [iv p0.Steps.2.Lo, iv p0.Steps.2.Hi]) (by kernel_rfl) (fun _ hd => ((hS.at_ hd).blk (i := 0) rfl).cells rfl)) (ocons (obN (us := [iv p0.Turn.Lo, iv p0.Turn.Hi]) (by kernel_rfl) (fun _ hd => ((hS.at_ hd).blk (i := 0) rfl).cells rfl)) onil))))) ⟨by kernel_rfl⟩ (by kernel_rfl) rfl fun a hF => ?_
      replace hF : Fr 77 [] [(3, .bool true), (63, .bool true), (66, .agg #[iv p0.Steps.1.Lo, iv p0.Steps.1.Hi]), (69, .agg #[iv p0.Steps.2.Lo, iv p0.Steps.2.Hi]), (71, .agg #[iv p0.Turn.Lo, iv p0.Turn.Hi])] a := hF
      refine SK.wi (litK (e := 25) (sz := 2) (f := api_Span.cells) (t := 43) (len := 3) (fun b11 => [(3, .bool true), (63, .bool true), (72, sb b11 3)]) #[(0, .agg #[iv p0.Steps.1.Lo, iv p0.Steps.1.Hi]), (1, .agg #[iv p0.Steps.2.Lo, iv p0.Steps.2.Hi]), (2, .agg #[iv p0.Turn.Lo, iv p0.Turn.Hi])] #[iv p0.Steps.1.Lo, iv p0.Steps.1.Hi, iv p0.Steps.2.Lo, iv p0.Steps.2.Hi, iv p0.Turn.Lo, iv p0.Turn.Hi] ([(api_Span.mk p0.Steps.1.Lo p0.Steps.1.Hi), (api_Span.mk p0.Steps.2.Lo p0.Steps.2.Hi), p0.Turn]) hF hS (by kernel_rfl) ⟨by kernel_rfl⟩ (by kernel_rfl) api_Span.cells_len rfl rfl (by kernel_rfl) (fun _ => ⟨by kernel_rfl⟩) fun b11 w a hF hS => ?_)
      replace h := bindS h
      obtain ⟨y12, hy12, h⟩ := h
      refine rx 3 [.call [⟨63, true, true⟩] 90 #[sb b11 3] (.bool y12)] 14 [(3, .bool y12)] hF (ocons (show Ob.ok _ Ext _ _ from fun hk w2 hd => pulse_turning_ok F ([(api_Span.mk p0.Steps.1.Lo p0.Steps.1.Hi), (api_Span.mk p0.Steps.2.Lo p0.Steps.2.Hi), p0.Turn]) _ ((fun _ => hy12) hk) _ w2 (memOf_at w2) (Arr.toM ((hS.later hd).arr (i := 0) rfl))) onil) fun a w hF hx => ?_
      replace hS := hS.later hx
      refine WI.fin rfl (norm_block <| norm_then <| ?_)
      exact ⟨y12, hF.sub (by kernel_rfl), St.pick [1, 2] (by decide) hS, h⟩
     ·replace h := bif_f h hg10
      rw [hg10] at hF
      refine skip_ 3 [(1, pb b1), (3, .bool false), (63, .bool false), (64, undef)] hF (by kernel_rfl) ⟨by kernel_rfl⟩ ⟨by kernel_rfl⟩ rfl fun a hF => ?_
      refine skip_ 4 [(1, pb b1), (3, .bool false), (63, .bool false), (65, undef)] hF (by kernel_rfl) ⟨by kernel_rfl⟩ ⟨by kernel_rfl⟩ rfl fun a hF => ?_
      refine skip_ 5 [(1, pb b1), (3, .bool false), (63, .bool false), (66, undef)] hF (by kernel_rfl) ⟨by kernel_rfl⟩ ⟨by kernel_rfl⟩ rfl fun a hF => ?_
      refine skip_ 6 [(1, pb b1), (3, .bool false), (63, .bool false), (66, undef), (67, undef)] hF (by kernel_rfl) ⟨by kernel_rfl⟩ ⟨by kernel_rfl⟩ rfl fun a hF => ?_
      refine skip_ 7 [(1, pb b1), (3, .bool false), (63, .bool false), (66, undef), (68, undef)] hF (by kernel_rfl) ⟨by kernel_rfl⟩ ⟨by kernel_rfl⟩ rfl fun a hF => ?_
      refine skip_ 8 [(1, pb b1), (3, .bool false), (63, .bool false), (66, undef), (69, undef)] hF (by kernel_rfl) ⟨by kernel_rfl⟩ ⟨by kernel_rfl⟩ rfl fun a hF => ?_
      refine skip_ 9 [(3, .bool false), (63, .bool false), (66, undef), (69, undef), (70, undef)] hF (by kernel_rfl) ⟨by kernel_rfl⟩ ⟨by kernel_rfl⟩ rfl fun a hF => ?_
      refine skip_ 10 [(3, .bool false), (63, .bool false), (66, undef), (69, undef), (71, undef)] hF (by kernel_rfl) ⟨by kernel_rfl⟩ ⟨by kernel_rfl⟩ rfl fun a hF => ?_
      refine skip_ 11 [(3, .bool false), (63, .bool false), (72, undef)] hF (by kernel_rfl) ⟨by kernel_rfl⟩ ⟨by kernel_rfl⟩ rfl fun a hF => ?_
      refine skip_ 12 [(3, .bool false), (63, .bool false), (73, undef)] hF (by kernel_rfl) ⟨by kernel_rfl⟩ ⟨by kernel_rfl⟩ rfl fun a hF => ?_
      refine rn 2 14 [(3, .bool false)] hF fun a hF => ?_
      refine WI.fin rfl (norm_block <| norm_then <| ?_)
      exact ⟨false, hF.sub (by kernel_rfl), St.pick [0, 1] (by decide) hS, h⟩
   ·replace h := bif_f h hc
    refine esr ?_
    refine rn 1 1 [(2, iv 2)] hF fun a hF => ?_
    refine wfn rfl ?_
    refine wpIn_ret (ret_block <| ret_then <| fn_ret [.tmp 2] [iv 2] hF rfl ⟨rfl, trivial⟩ ?_)
    have hr_ := Option.some.inj h
    subst hr_
    exact ⟨rfl, hS.ext⟩
 rintro a w ⟨c7, hF, hS, h⟩
 rw [pulse_CheckEcho_K1] at h
 refine eseq ?_
 refine esr ?_
 refine rn 2 2 [(76, .bool (!c7))] hF fun a hF => ?_
 refine wfn rfl ?_
 refine econd hF rfl (fun hc => ?_) (fun hc => ?_)
 ·replace h := bif_t h hc
  refine esr ?_
  refine rn 1 1 [(2, iv 3)] hF fun a hF => ?_
  refine wfn rfl ?_
  refine wpIn_ret (ret_then <| fn_ret [.tmp 2] [iv 3] hF rfl ⟨rfl, trivial⟩ ?_)
  have hr_ := Option.some.inj h
  subst hr_
  exact ⟨rfl, hS.ext⟩
 ·replace h := bif_f h hc
  refine wpIn_skip (norm_then ?_)
  refine esr ?_
  refine rn 1 1 [(2, iv 0)] hF fun a hF => ?_
  refine wfn rfl ?_
  refine wpIn_ret (fn_ret [.tmp 2] [iv 0] hF rfl ⟨rfl, trivial⟩ ?_)
  have hr_ := Option.some.inj h
  subst hr_
  exact ⟨rfl, hS.ext⟩

theorem pulse_Train_time_ok (F : Nat) (p0 : pulse_Train) (p1 : Int) (res : (Int × Int)) (h : pulse_Train_time F p0 p1 = some res) (μ : Frz) (w0 : World) (hm : FrzAt μ w0) : Calls Try.prog 97 #[p0.ag, iv p1] w0 (fun e w => e = .returned (.tuple #[iv res.1, iv res.2]) ∧ Ext w0 w) := by
 obtain ⟨hlow, hS⟩ := hm.init
 have hext := Frz.ext_refl w0.heap.size μ
 rw [pulse_Train_time] at h
 refine fn_enterW Try.func97 rfl 30 [(0, p0.ag), (1, iv p1)] rfl rfl (by kernel_rfl) fun a w hw hF => ?_
 replace hS : St w0 [fz w0 μ] w := by rw [hw]; exact hS
 clear hw
 refine esr ?_
 refine SK.wi (boxK (t := 33) (fun b1 => [(1, iv p1), (2, pb b1)]) (p0.ag) p0.ar hF hS (by kernel_rfl) ⟨by kernel_rfl⟩ (by kernel_rfl) (fun _ => ⟨by kernel_rfl⟩) fun b1 w a hF hS => ?_)
 refine rn 2 3 [(1, iv p1), (2, pb b1)] hF fun a hF => ?_
 refine wfn rfl ?_
 refine eseq ?_
 refine esr ?_
 replace h := bindS h
 obtain ⟨y2, hy2, h⟩ := h
 refine rx 3 [.run [] (Instr.loadAt 33 (pb b1)) (p0.ag), .call [] 50 #[p0.ag] (iv y2)] 3 [(1, iv p1), (2, pb b1), (6, iv y2)] hF (ocons (obN (us := p0.cells) (by kernel_rfl) (fun _ hd => ((hS.later hd).blk (i := 0) rfl).cells rfl)) (ocons (show Ob.ok _ Ext _ _ from fun hk w2 hd => pulse_CheckTrain_ok F p0 _ ((fun _ => hy2) hk) _ w2 (memOf_at w2) ) onil)) fun a w hF hx => ?_
 replace hS := hS.later hx
 refine wfn rfl ?_
 refine esr ?_
 refine rn 2 2 [(1, iv p1), (2, pb b1), (6, iv y2), (11, .bool (y2 != 0))] hF fun a hF => ?_
 refine wfn rfl ?_
 refine econd hF rfl (fun hc => ?_) (fun hc => ?_)
 ·replace h := bif_t h hc
  refine esr ?_
  refine rn 3 3 [(4, iv 0), (5, iv y2)] hF fun a hF => ?_
  refine wfn rfl ?_
  refine wpIn_ret (ret_then <| fn_ret [.tmp 4, .tmp 5] [iv 0, iv y2] hF rfl ⟨rfl, rfl, trivial⟩ ?_)
  have hr_ := Option.some.inj h
  subst hr_
  exact ⟨rfl, hS.ext⟩
 ·replace h := bif_f h hc
  refine wpIn_skip (norm_then ?_)
  refine esr ?_
  refine rno 5 [.run [] (Instr.loadAt 3 (.pointer (some ⟨b1, 2, none⟩))) (iv p0.First), .run [] (Instr.loadAt 3 (.pointer (some ⟨b1, 3, none⟩))) (iv p0.Second)] 5 [(1, iv p1), (17, .agg #[iv p0.First, iv p0.Second])] hF (ocons (ob1 (by kernel_rfl) (fun _ hd => (hS.at_ hd).cell (i := 0) (j := 2) rfl rfl)) (ocons (ob1 (by kernel_rfl) (fun _ hd => (hS.at_ hd).cell (i := 0) (j := 3) rfl rfl)) onil)) fun a hF => ?_
  refine SK.wi (allocK (t := 77) (fun b3 => [(1, iv p1), (7, pb b3), (17, .agg #[iv p0.First, iv p0.Second])]) #[iv 0, iv 0] hF hS (by kernel_rfl) ⟨by kernel_rfl⟩ (by kernel_rfl) (fun _ => ⟨by kernel_rfl⟩) fun b3 w a hF hS => ?_)
  refine SK.wi (storeK (t := 77) [(1, iv p1), (7, pb b3)] 0 0 (.agg #[iv p0.First, iv p0.Second]) #[iv p0.First, iv p0.Second] hF hS rfl (by kernel_rfl) ⟨by kernel_rfl⟩ (by kernel_rfl) (by kernel_rfl) (by kernel_rfl) (by kernel_rfl) ⟨by kernel_rfl⟩ fun w a hF hS => ?_)
  refine wfn rfl ?_
  refine eseq ?_
  refine eseq ?_
  rcases Bool.eq_false_or_eq_true ((!(pulse_within p1 0 1))) with hg4 | hg4
  ·replace h := bif_t h hg4
   refine WI.region ?_
   refine rx 9 [.call [] 88 #[iv p1, iv 0, iv 1] (.bool (pulse_within p1 0 1)), .run [⟨21, false, (!(pulse_within p1 0 1))⟩] (Instr.indexAt 77 (pb b3) (iv p1)) (pb 0), .run [⟨21, false, (!(pulse_within p1 0 1))⟩] (Instr.loadAt 3 (pb 0)) (iv 0)] 9 [(1, iv p1), (7, pb b3), (26, .bool (bif (!(pulse_within p1 0 1)) then true else (0 == 0)))] hF (ocons (show Ob.ok _ Ext _ _ from fun hk w2 hd => pulse_within_ok p1 0 1 _ rfl _ w2 (memOf_at w2) ) (ocons (obNo (conds_no (i := 0) (c := ⟨21, false, (!(pulse_within p1 0 1))⟩) rfl (show ((!(pulse_within p1 0 1)) == false) = false by rw [hg4]; rfl))) (ocons (obNo (conds_no (i := 0) (c := ⟨21, false, (!(pulse_within p1 0 1))⟩) rfl (show ((!(pulse_within p1 0 1)) == false) = false by rw [hg4]; rfl))) onil))) fun a w hF hx => ?_
   replace hS := hS.later hx
   refine wfn rfl ?_
   refine econd hF rfl (fun hc => ?_) (fun hc => ?_)
   ·replace h := bif_t h hc
    refine esr ?_
    refine rn 2 2 [(4, iv 0), (5, iv 2)] hF fun a hF => ?_
    refine wfn rfl ?_
    refine wpIn_ret (ret_then <| fn_ret [.tmp 4, .tmp 5] [iv 0, iv 2] hF rfl ⟨rfl, rfl, trivial⟩ ?_)
    have hr_ := Option.some.inj h
    subst hr_
    exact ⟨rfl, hS.ext⟩
   ·replace h := bif_f h hc
    refine wpIn_skip (norm_then ?_)
    refine eseq ?_
    rcases Bool.eq_false_or_eq_true ((p1 == 0)) with hg5 | hg5
    ·replace h := bif_t h hg5
     refine WI.region ?_
     refine rno 5 [.run [] (Instr.indexAt 77 (pb b3) (iv p1)) (pb b3), .run [] (Instr.loadAt 3 (pb b3)) (iv p0.First)] 5 [(4, iv p0.First), (5, iv 0)] hF (ocons (by rw [show p1 = (0 : Int) from eq_of_beq hg5]; exact obPureSem (by kernel_rfl)) (ocons (ob1 (by kernel_rfl) (fun _ hd => (hS.at_ hd).cell (i := 0) (j := 0) rfl rfl)) onil)) fun a hF => ?_
     refine wfn rfl ?_
     refine wpIn_ret (fn_ret [.tmp 4, .tmp 5] [iv p0.First, iv 0] hF rfl ⟨rfl, rfl, trivial⟩ ?_)
     have hr_ := Option.some.inj h
     subst hr_
     exact ⟨rfl, hS.ext⟩
    ·replace h := bif_f h hg5
     rcases Bool.eq_false_or_eq_true ((p1 == 1)) with hg6 | hg6
     ·replace h := bif_t h hg6
      refine WI.region ?_
      refine rno 5 [.run [] (Instr.indexAt 77 (pb b3) (iv p1)) (.pointer (some ⟨b3, 1, none⟩)), .run [] (Instr.loadAt 3 (.pointer (some ⟨b3, 1, none⟩))) (iv p0.Second)] 5 [(4, iv p0.Second), (5, iv 0)] hF (ocons (by rw [show p1 = (1 : Int) from eq_of_beq hg6]; exact obPureSem (by kernel_rfl)) (ocons (ob1 (by kernel_rfl) (fun _ hd => (hS.at_ hd).cell (i := 0) (j := 1) rfl rfl)) onil)) fun a hF => ?_
      refine wfn rfl ?_
      refine wpIn_ret (fn_ret [.tmp 4, .tmp 5] [iv p0.Second, iv 0] hF rfl ⟨rfl, rfl, trivial⟩ ?_)
      have hr_ := Option.some.inj h
      subst hr_
      exact ⟨rfl, hS.ext⟩
     ·replace h := bif_f h hg6
      cases h
  ·replace h := bif_f h hg4
   rcases Bool.eq_false_or_eq_true ((p1 == 0)) with hg7 | hg7
   ·replace h := bif_t h hg7
    refine WI.region ?_
    refine rx 9 [.call [] 88 #[iv p1, iv 0, iv 1] (.bool (pulse_within p1 0 1)), .run [⟨21, false, (!(pulse_within p1 0 1))⟩] (Instr.indexAt 77 (pb b3) (iv p1)) (pb b3), .run [⟨21, false, (!(pulse_within p1 0 1))⟩] (Instr.loadAt 3 (pb b3)) (iv p0.First)] 9 [(1, iv p1), (7, pb b3), (26, .bool (bif (!(pulse_within p1 0 1)) then true else (p0.First == 0)))] hF (ocons (show Ob.ok _ Ext _ _ from fun hk w2 hd => pulse_within_ok p1 0 1 _ rfl _ w2 (memOf_at w2) ) (ocons (by rw [show p1 = (0 : Int) from eq_of_beq hg7]; exact obPureSem (by kernel_rfl)) (ocons (ob1 (by kernel_rfl) (fun _ hd => (hS.later hd).cell (i := 0) (j := 0) rfl rfl)) onil))) fun a w hF hx => ?_
    replace hS := hS.later hx
    refine wfn rfl ?_
    refine econd hF rfl (fun hc => ?_) (fun hc => ?_)
    ·replace h := bif_t h hc
     refine esr ?_
     refine rn 2 2 [(4, iv 0), (5, iv 2)] hF fun a hF => ?_
     refine wfn rfl ?_
     refine wpIn_ret (ret_then <| fn_ret [.tmp 4, .tmp 5] [iv 0, iv 2] hF rfl ⟨rfl, rfl, trivial⟩ ?_)
     have hr_ := Option.some.inj h
     subst hr_
     exact ⟨rfl, hS.ext⟩
    ·replace h := bif_f h hc
     refine wpIn_skip (norm_then ?_)
     refine esr ?_
     refine rno 5 [.run [] (Instr.indexAt 77 (pb b3) (iv p1)) (pb b3), .run [] (Instr.loadAt 3 (pb b3)) (iv p0.First)] 5 [(4, iv p0.First), (5, iv 0)] hF (ocons (by rw [show p1 = (0 : Int) from eq_of_beq hg7]; exact obPureSem (by kernel_rfl)) (ocons (ob1 (by kernel_rfl) (fun _ hd => (hS.at_ hd).cell (i := 0) (j := 0) rfl rfl)) onil)) fun a hF => ?_
     refine wfn rfl ?_
     refine wpIn_ret (fn_ret [.tmp 4, .tmp 5] [iv p0.First, iv 0] hF rfl ⟨rfl, rfl, trivial⟩ ?_)
     have hr_ := Option.some.inj h
     subst hr_
     exact ⟨rfl, hS.ext⟩
   ·replace h := bif_f h hg7
    rcases Bool.eq_false_or_eq_true ((p1 == 1)) with hg8 | hg8
    ·replace h := bif_t h hg8
     refine WI.region ?_
     refine rx 9 [.call [] 88 #[iv p1, iv 0, iv 1] (.bool (pulse_within p1 0 1)), .run [⟨21, false, (!(pulse_within p1 0 1))⟩] (Instr.indexAt 77 (pb b3) (iv p1)) (.pointer (some ⟨b3, 1, none⟩)), .run [⟨21, false, (!(pulse_within p1 0 1))⟩] (Instr.loadAt 3 (.pointer (some ⟨b3, 1, none⟩))) (iv p0.Second)] 9 [(1, iv p1), (7, pb b3), (26, .bool (bif (!(pulse_within p1 0 1)) then true else (p0.Second == 0)))] hF (ocons (show Ob.ok _ Ext _ _ from fun hk w2 hd => pulse_within_ok p1 0 1 _ rfl _ w2 (memOf_at w2) ) (ocons (by rw [show p1 = (1 : Int) from eq_of_beq hg8]; exact obPureSem (by kernel_rfl)) (ocons (ob1 (by kernel_rfl) (fun _ hd => (hS.later hd).cell (i := 0) (j := 1) rfl rfl)) onil))) fun a w hF hx => ?_
     replace hS := hS.later hx
     refine wfn rfl ?_
     refine econd hF rfl (fun hc => ?_) (fun hc => ?_)
     ·replace h := bif_t h hc
      refine esr ?_
      refine rn 2 2 [(4, iv 0), (5, iv 2)] hF fun a hF => ?_
      refine wfn rfl ?_
      refine wpIn_ret (ret_then <| fn_ret [.tmp 4, .tmp 5] [iv 0, iv 2] hF rfl ⟨rfl, rfl, trivial⟩ ?_)
      have hr_ := Option.some.inj h
      subst hr_
      exact ⟨rfl, hS.ext⟩
     ·replace h := bif_f h hc
      refine wpIn_skip (norm_then ?_)
      refine esr ?_
      refine rno 5 [.run [] (Instr.indexAt 77 (pb b3) (iv p1)) (.pointer (some ⟨b3, 1, none⟩)), .run [] (Instr.loadAt 3 (.pointer (some ⟨b3, 1, none⟩))) (iv p0.Second)] 5 [(4, iv p0.Second), (5, iv 0)] hF (ocons (by rw [show p1 = (1 : Int) from eq_of_beq hg8]; exact obPureSem (by kernel_rfl)) (ocons (ob1 (by kernel_rfl) (fun _ hd => (hS.at_ hd).cell (i := 0) (j := 1) rfl rfl)) onil)) fun a hF => ?_
      refine wfn rfl ?_
      refine wpIn_ret (fn_ret [.tmp 4, .tmp 5] [iv p0.Second, iv 0] hF rfl ⟨rfl, rfl, trivial⟩ ?_)
      have hr_ := Option.some.inj h
      subst hr_
      exact ⟨rfl, hS.ext⟩
    ·replace h := bif_f h hg8
     cases h

theorem ref02_CheckEcho_ok (F : Nat) (p0 : api_Echo) (res : Int) (h : ref02_CheckEcho F p0 = some res) (μ : Frz) (w0 : World) (hm : FrzAt μ w0) : Calls Try.prog 55 #[p0.ag] w0 (fun e w => e = .returned (iv res) ∧ Ext w0 w) := by
 obtain ⟨hlow, hS⟩ := hm.init
 have hext := Frz.ext_refl w0.heap.size μ
 rw [ref02_CheckEcho] at h
 refine fn_enterW Try.func55 rfl 129 [(0, p0.ag)] rfl rfl (by kernel_rfl) fun a w hw hF => ?_
 replace hS : St w0 [fz w0 μ] w := by rw [hw]; exact hS
 clear hw
 refine esr ?_
 refine SK.wi (boxK (t := 28) (fun b1 => [(1, pb b1)]) (p0.ag) p0.ar hF hS (by kernel_rfl) ⟨by kernel_rfl⟩ (by kernel_rfl) (fun _ => ⟨by kernel_rfl⟩) fun b1 w a hF hS => ?_)
 refine rn 1 2 [(1, pb b1)] hF fun a hF => ?_
 refine wfn rfl ?_
 refine eseq ?_
 refine esr ?_
 refine rno 13 [.run [] (Instr.loadAt 3 (pb b1)) (iv p0.Kind), .run [⟨8, true, (p0.Kind != 1)⟩] (Instr.loadAt 3 (pb b1)) (iv p0.Kind), .run [⟨13, true, (bif (p0.Kind != 1) then (p0.Kind != 2) else false)⟩] (Instr.loadAt 3 (pb b1)) (iv p0.Kind)] 13 [(1, pb b1), (17, .bool (bif (bif (p0.Kind != 1) then (p0.Kind != 2) else false) then (p0.Kind != 3) else false))] hF (ocons (ob1 (by kernel_rfl) (fun _ hd => (hS.at_ hd).cell (i := 0) (j := 0) rfl rfl)) (ocons (ob1 (by kernel_rfl) (fun _ hd => (hS.at_ hd).cell (i := 0) (j := 0) rfl rfl)) (ocons (ob1 (by kernel_rfl) (fun _ hd => (hS.at_ hd).cell (i := 0) (j := 0) rfl rfl)) onil))) fun a hF => ?_
 refine wfn rfl ?_
 refine econd hF rfl (fun hc => ?_) (fun hc => ?_)
 ·replace h := bif_t h hc
  refine esr ?_
  refine rn 1 1 [(2, iv 2)] hF fun a hF => ?_
  refine wfn rfl ?_
  refine wpIn_ret (ret_then <| fn_ret [.tmp 2] [iv 2] hF rfl ⟨rfl, trivial⟩ ?_)
  have hr_ := Option.some.inj h
  subst hr_
  exact ⟨rfl, hS.ext⟩
 ·replace h := bif_f h hc
  refine wpIn_skip (norm_then ?_)
  refine eseq ?_
  refine esr ?_
  refine rx 4 [.run [] (Instr.loadAt 25 (.pointer (some ⟨b1, 1, none⟩))) (.agg #[iv p0.Power.Lo, iv p0.Power.Hi]), .call [] 94 #[.agg #[iv p0.Power.Lo, iv p0.Power.Hi], iv 0, iv 1073741824] (.bool (ref01_Valid p0.Power 0 1073741824))] 4 [(1, pb b1), (21, .bool (!(ref01_Valid p0.Power 0 1073741824)))] hF (ocons (obN (us := [iv p0.Power.Lo, iv p0.Power.Hi]) (by kernel_rfl) (fun _ hd => ((hS.later hd).blk (i := 0) rfl).cells rfl)) (ocons (show Ob.ok _ Ext _ _ from fun hk w2 hd => ref01_Valid_ok p0.Power 0 1073741824 _ rfl _ w2 (memOf_at w2) ) onil)) fun a w hF hx => ?_
  replace hS := hS.later hx
  refine wfn rfl ?_
  refine econd hF rfl (fun hc => ?_) (fun hc => ?_)
  ·replace h := bif_t h hc
   refine esr ?_
   refine rn 1 1 [(2, iv 3)] hF fun a hF => ?_
   refine wfn rfl ?_
   refine wpIn_ret (ret_then <| fn_ret [.tmp 2] [iv 3] hF rfl ⟨rfl, trivial⟩ ?_)
   have hr_ := Option.some.inj h
   subst hr_
   exact ⟨rfl, hS.ext⟩
  ·replace h := bif_f h hc
   refine wpIn_skip (norm_then ?_)
   refine eseq ?_
   refine esr ?_
   refine rno 3 [.run [] (Instr.loadAt 3 (pb b1)) (iv p0.Kind)] 3 [(1, pb b1), (24, .bool (p0.Kind == 1))] hF (ocons (ob1 (by kernel_rfl) (fun _ hd => (hS.at_ hd).cell (i := 0) (j := 0) rfl rfl)) onil) fun a hF => ?_
   refine wfn rfl ?_
   refine econd hF rfl (fun hc => ?_) (fun hc => ?_)
   ·replace h := bif_t h hc
    refine esr ?_
    refine rn 1 1 [(1, pb b1), (25, .agg #[iv 0, iv 0])] hF fun a hF => ?_
    refine SK.wi (allocK (t := 25) (fun b2 => [(1, pb b1), (3, pb b2), (25, .agg #[iv 0, iv 0])]) #[iv 0, iv 0] hF hS (by kernel_rfl) ⟨by kernel_rfl⟩ (by kernel_rfl) (fun _ => ⟨by kernel_rfl⟩) fun b2 w a hF hS => ?_)
    refine SK.wi (storeK (t := 25) [(1, pb b1), (3, pb b2)] 0 0 (.agg #[iv 0, iv 0]) #[iv 0, iv 0] hF hS rfl (by kernel_rfl) ⟨by kernel_rfl⟩ (by kernel_rfl) (by kernel_rfl) (by kernel_rfl) (by kernel_rfl) ⟨by kernel_rfl⟩ fun w a hF hS => ?_)
    refine wfn rfl ?_
    refine eseq ?_
    refine esr ?_
    refine rno 41 [.run [] (Instr.loadAt 3 (.pointer (some ⟨b1, 1, none⟩))) (iv p0.Power.Lo), .run [⟨30, false, (p0.Power.Lo != 0)⟩] (Instr.indexAt 26 (.pointer (some ⟨b1, 3, none⟩)) (iv 0)) (.pointer (some ⟨b1, 3, none⟩)), .run [⟨30, false, (p0.Power.Lo != 0)⟩] (Instr.loadAt 25 (.pointer (some ⟨b1, 3, none⟩))) (.agg #[iv p0.Steps.1.Lo, iv p0.Steps.1.Hi]), .run [⟨30, false, (p0.Power.Lo != 0)⟩] (Instr.loadAt 25 (pb b2)) (.agg #[iv 0, iv 0]), .run [⟨30, false, (p0.Power.Lo != 0)⟩] (eqS .neq 25 #[iv p0.Steps.1.Lo, iv p0.Steps.1.Hi] #[iv 0, iv 0]) (.bool (!(((p0.Steps.1.Lo : Int) == 0) && (((p0.Steps.1.Hi : Int) == 0) && true)))), .run [⟨37, false, (bif (p0.Power.Lo != 0) then true else (!(((p0.Steps.1.Lo : Int) == 0) && (((p0.Steps.1.Hi : Int) == 0) && true))))⟩] (Instr.indexAt 26 (.pointer (some ⟨b1, 3, none⟩)) (iv 1)) (.pointer (some ⟨b1, 5, none⟩)), .run [⟨37, false, (bif (p0.Power.Lo != 0) then true else (!(((p0.Steps.1.Lo : Int) == 0) && (((p0.Steps.1.Hi : Int) == 0) && true))))⟩] (Instr.loadAt 25 (.pointer (some ⟨b1, 5, none⟩))) (.agg #[iv p0.Steps.2.Lo, iv p0.Steps.2.Hi]), .run [⟨37, false, (bif (p0.Power.Lo != 0) then true else (!(((p0.Steps.1.Lo : Int) == 0) && (((p0.Steps.1.Hi : Int) == 0) && true))))⟩] (Instr.loadAt 25 (pb b2)) (.agg #[iv 0, iv 0]), .run [⟨37, false, (bif (p0.Power.Lo != 0) then true else (!(((p0.Steps.1.Lo : Int) == 0) && (((p0.Steps.1.Hi : Int) == 0) && true))))⟩] (eqS .neq 25 #[iv p0.Steps.2.Lo, iv p0.Steps.2.Hi] #[iv 0, iv 0]) (.bool (!(((p0.Steps.2.Lo : Int) == 0) && (((p0.Steps.2.Hi : Int) == 0) && true)))), .run [⟨44, false, (bif (bif (p0.Power.Lo != 0) then true else (!(((p0.Steps.1.Lo : Int) == 0) && (((p0.Steps.1.Hi : Int) == 0) && true)))) then true else (!(((p0.Steps.2.Lo : Int) == 0) && (((p0.Steps.2.Hi : Int) == 0) && true))))⟩] (Instr.loadAt 3 (.pointer (some ⟨b1, 7, none⟩))) (iv p0.Spread), .run [⟨49, false, (bif (bif (bif (p0.Power.Lo != 0) then true else (!(((p0.Steps.1.Lo : Int) == 0) && (((p0.Steps.1.Hi : Int) == 0) && true)))) then true else (!(((p0.Steps.2.Lo : Int) == 0) && (((p0.Steps.2.Hi : Int) == 0) && true)))) then true else (p0.Spread != 0))⟩] (Instr.loadAt 25 (.pointer (some ⟨b1, 8, none⟩))) (.agg #[iv p0.Ratio.Lo, iv p0.Ratio.Hi]), .run [⟨49, false, (bif (bif (bif (p0.Power.Lo != 0) then true else (!(((p0.Steps.1.Lo : Int) == 0) && (((p0.Steps.1.Hi : Int) == 0) && true)))) then true else (!(((p0.Steps.2.Lo : Int) == 0) && (((p0.Steps.2.Hi : Int) == 0) && true)))) then true else (p0.Spread != 0))⟩] (Instr.loadAt 25 (pb b2)) (.agg #[iv 0, iv 0]), .run [⟨49, false, (bif (bif (bif (p0.Power.Lo != 0) then true else (!(((p0.Steps.1.Lo : Int) == 0) && (((p0.Steps.1.Hi : Int) == 0) && true)))) then true else (!(((p0.Steps.2.Lo : Int) == 0) && (((p0.Steps.2.Hi : Int) == 0) && true)))) then true else (p0.Spread != 0))⟩] (eqS .neq 25 #[iv p0.Ratio.Lo, iv p0.Ratio.Hi] #[iv 0, iv 0]) (.bool (!(((p0.Ratio.Lo : Int) == 0) && (((p0.Ratio.Hi : Int) == 0) && true)))), .run [⟨55, false, (bif (bif (bif (bif (p0.Power.Lo != 0) then true else (!(((p0.Steps.1.Lo : Int) == 0) && (((p0.Steps.1.Hi : Int) == 0) && true)))) then true else (!(((p0.Steps.2.Lo : Int) == 0) && (((p0.Steps.2.Hi : Int) == 0) && true)))) then true else (p0.Spread != 0)) then true else (!(((p0.Ratio.Lo : Int) == 0) && (((p0.Ratio.Hi : Int) == 0) && true))))⟩] (Instr.loadAt 25 (.pointer (some ⟨b1, 10, none⟩))) (.agg #[iv p0.Match.Lo, iv p0.Match.Hi]), .run [⟨55, false, (bif (bif (bif (bif (p0.Power.Lo != 0) then true else (!(((p0.Steps.1.Lo : Int) == 0) && (((p0.Steps.1.Hi : Int) == 0) && true)))) then true else (!(((p0.Steps.2.Lo : Int) == 0) && (((p0.Steps.2.Hi : Int) == 0) && true)))) then true else (p0.Spread != 0)) then true else (!(((p0.Ratio.Lo : Int) == 0) && (((p0.Ratio.Hi : Int) == 0) && true))))⟩] (Instr.loadAt 25 (pb b2)) (.agg #[iv 0, iv 0]), .run [⟨55, false, (bif (bif (bif (bif (p0.Power.Lo != 0) then true else (!(((p0.Steps.1.Lo : Int) == 0) && (((p0.Steps.1.Hi : Int) == 0) && true)))) then true else (!(((p0.Steps.2.Lo : Int) == 0) && (((p0.Steps.2.Hi : Int) == 0) && true)))) then true else (p0.Spread != 0)) then true else (!(((p0.Ratio.Lo : Int) == 0) && (((p0.Ratio.Hi : Int) == 0) && true))))⟩] (eqS .neq 25 #[iv p0.Match.Lo, iv p0.Match.Hi] #[iv 0, iv 0]) (.bool (!(((p0.Match.Lo : Int) == 0) && (((p0.Match.Hi : Int) == 0) && true)))), .run [⟨61, false, (bif (bif (bif (bif (bif (p0.Power.Lo != 0) then true else (!(((p0.Steps.1.Lo : Int) == 0) && (((p0.Steps.1.Hi : Int) == 0) && true)))) then true else (!(((p0.Steps.2.Lo : Int) == 0) && (((p0.Steps.2.Hi : Int) == 0) && true)))) then true else (p0.Spread != 0)) then true else (!(((p0.Ratio.Lo : Int) == 0) && (((p0.Ratio.Hi : Int) == 0) && true)))) then true else (!(((p0.Match.Lo : Int) == 0) && (((p0.Match.Hi : Int) == 0) && true))))⟩] (Instr.loadAt 25 (.pointer (some ⟨b1, 12, none⟩))) (.agg #[iv p0.Turn.Lo, iv p0.Turn.Hi]), .run [⟨61, false, (bif (bif (bif (bif (bif (p0.Power.Lo != 0) then true else (!(((p0.Steps.1.Lo : Int) == 0) && (((p0.Steps.1.Hi : Int) == 0) && true)))) then true else (!(((p0.Steps.2.Lo : Int) == 0) && (((p0.Steps.2.Hi : Int) == 0) && true)))) then true else (p0.Spread != 0)) then true else (!(((p0.Ratio.Lo : Int) == 0) && (((p0.Ratio.Hi : Int) == 0) && true)))) then true else (!(((p0.Match.Lo : Int) == 0) && (((p0.Match.Hi : Int) == 0) && true))))⟩] (Instr.loadAt 25 (pb b2)) (.agg #[iv 0, iv 0]), .run [⟨61, false, (bif (bif (bif (bif (bif (p0.Power.Lo != 0) then true else (!(((p0.Steps.1.Lo : Int) == 0) && (((p0.Steps.1.Hi : Int) == 0) && true)))) then true else (!(((p0.Steps.2.Lo : Int) == 0) && (((p0.Steps.2.Hi : Int) == 0) && true)))) then true else (p0.Spread != 0)) then true else (!(((p0.Ratio.Lo : Int) == 0) && (((p0.Ratio.Hi : Int) == 0) && true)))) then true else (!(((p0.Match.Lo : Int) == 0) && (((p0.Match.Hi : Int) == 0) && true))))⟩] (eqS .neq 25 #[iv p0.Turn.Lo, iv p0.Turn.Hi] #[iv 0, iv 0]) (.bool (!(((p0.Turn.Lo : Int) == 0) && (((p0.Turn.Hi : Int) == 0) && true))))] 41 [(66, .bool (bif (bif (bif (bif (bif (bif (p0.Power.Lo != 0) then true else (!(((p0.Steps.1.Lo : Int) == 0) && (((p0.Steps.1.Hi : Int) == 0) && true)))) then true else (!(((p0.Steps.2.Lo : Int) == 0) && (((p0.Steps.2.Hi : Int) == 0) && true)))) then true else (p0.Spread != 0)) then true else (!(((p0.Ratio.Lo : Int) == 0) && (((p0.Ratio.Hi : Int) == 0) && true)))) then true else (!(((p0.Match.Lo : Int) == 0) && (((p0.Match.Hi : Int) == 0) && true)))) then true else (!(((p0.Turn.Lo : Int) == 0) && (((p0.Turn.Hi : Int) == 0) && true)))))] hF (ocons (ob1 (by kernel_rfl) (fun _ hd => (hS.at_ hd).cell (i := 1) (j := 1) rfl rfl)) (ocons (obPureSem (by kernel_rfl)) (ocons (obN (us := [iv p0.Steps.1.Lo, iv p0.Steps.1.Hi]) (by kernel_rfl) (fun _ hd => ((hS.at_ hd).blk (i := 1) rfl).cells rfl)) (ocons (obN (us := [iv 0, iv 0]) (by kernel_rfl) (fun _ hd => ((hS.at_ hd).blk (i := 0) rfl).cells rfl)) (ocons (obNeC (by kernel_rfl) (by kernel_rfl)) (ocons (obPureSem (by kernel_rfl)) (ocons (obN (us := [iv p0.Steps.2.Lo, iv p0.Steps.2.Hi]) (by kernel_rfl) (fun _ hd => ((hS.at_ hd).blk (i := 1) rfl).cells rfl)) (ocons (obN (us := [iv 0, iv 0]) (by kernel_rfl) (fun _ hd => ((hS.at_ hd).blk (i := 0) rfl).cells rfl)) (ocons (obNeC (by kernel_rfl) (by kernel_rfl)) (ocons (ob1 (by kernel_rfl) (fun _ hd => (hS.at_ hd).cell (i := 1) (j := 7) rfl rfl)) (ocons (obN (us := [iv p0.Ratio.Lo, iv p0.Ratio.Hi]) (by kernel_rfl) (fun _ hd => ((hS.at_ hd).blk (i := 1) rfl).cells rfl)) (ocons (obN (us := [iv 0, iv 0]) (by kernel_rfl) (fun _ hd => ((hS.at_ hd).blk (i := 0) rfl).cells rfl)) (ocons (obNeC (by kernel_rfl) (by kernel_rfl)) (ocons (obN (us := [iv p0.Match.Lo, iv p0.Match.Hi]) (by kernel_rfl) (fun _ hd => ((hS.at_ hd).blk (i := 1) rfl).cells rfl)) (ocons (obN (us := [iv 0, iv 0]) (by kernel_rfl) (fun _ hd => ((hS.at_ hd).blk (i := 0) rfl).cells rfl)) (ocons (obNeC (by kernel_rfl) (by kernel_rfl)) (ocons (obN (us := [iv p0.Turn.Lo, iv p0.Turn.Hi]) (by kernel_rfl) (fun _ hd => ((hS.at_ hd).blk (i := 1) rfl).cells rfl)) (ocons (obN (us := [iv 0, iv 0]) (by kernel_rfl) (fun _ hd => ((hS.at_ hd).blk (i := 0) rfl).cells rfl)) (ocons (obNeC (by kernel_rfl) (by kernel_rfl)) onil))))))))))))))))))) fun a hF => ?_
    refine wfn rfl ?_
    refine econd hF rfl (fun hc => ?_) (fun hc => ?_)
    ·replace h := bif_t h hc
     refine esr ?_
     refine rn 1 1 [(2, iv 3)] hF fun a hF => ?_
     refine wfn rfl ?_
     refine wpIn_ret (ret_then <| ret_then <| fn_ret [.tmp 2] [iv 3] hF rfl ⟨rfl, trivial⟩ ?_)
     have hr_ := Option.some.inj h
     subst hr_
     exact ⟨rfl, hS.ext⟩
    ·replace h := bif_f h hc
     refine wpIn_skip (norm_then ?_)
     refine esr ?_
     refine rn 1 1 [(2, iv 0)] hF fun a hF => ?_
     refine wfn rfl ?_
     refine wpIn_ret (ret_then <| fn_ret [.tmp 2] [iv 0] hF rfl ⟨rfl, trivial⟩ ?_)
     have hr_ := Option.some.inj h
     subst hr_
     exact ⟨rfl, hS.ext⟩
   ·replace h := bif_f h hc
    refine wpIn_skip (norm_then ?_)
    refine eseq ?_
    refine esr ?_
    refine rx 22 [.run [] (Instr.loadAt 3 (.pointer (some ⟨b1, 1, none⟩))) (iv p0.Power.Lo), .run [⟨71, false, (decide (p0.Power.Lo < 1))⟩] (Instr.loadAt 25 (.pointer (some ⟨b1, 8, none⟩))) (.agg #[iv p0.Ratio.Lo, iv p0.Ratio.Hi]), .call [⟨71, false, (decide (p0.Power.Lo < 1))⟩] 94 #[.agg #[iv p0.Ratio.Lo, iv p0.Ratio.Hi], iv 0, iv 1000000] (.bool (ref01_Valid p0.Ratio 0 1000000)), .run [⟨77, false, (bif (decide (p0.Power.Lo < 1)) then true else (!(ref01_Valid p0.Ratio 0 1000000)))⟩] (Instr.loadAt 25 (.pointer (some ⟨b1, 10, none⟩))) (.agg #[iv p0.Match.Lo, iv p0.Match.Hi]), .call [⟨77, false, (bif (decide (p0.Power.Lo < 1)) then true else (!(ref01_Valid p0.Ratio 0 1000000)))⟩] 94 #[.agg #[iv p0.Match.Lo, iv p0.Match.Hi], iv 0, iv 1000] (.bool (ref01_Valid p0.Match 0 1000)), .run [⟨83, false, (bif (bif (decide (p0.Power.Lo < 1)) then true else (!(ref01_Valid p0.Ratio 0 1000000))) then true else (!(ref01_Valid p0.Match 0 1000)))⟩] (Instr.loadAt 3 (.pointer (some ⟨b1, 7, none⟩))) (iv p0.Spread), .call [⟨83, false, (bif (bif (decide (p0.Power.Lo < 1)) then true else (!(ref01_Valid p0.Ratio 0 1000000))) then true else (!(ref01_Valid p0.Match 0 1000)))⟩] 93 #[iv p0.Spread, iv 0, iv 65535] (.bool (ref01_In p0.Spread 0 65535))] 22 [(1, pb b1), (88, .bool (bif (bif (bif (decide (p0.Power.Lo < 1)) then true else (!(ref01_Valid p0.Ratio 0 1000000))) then true else (!(ref01_Valid p0.Match 0 1000))) then true else (!(ref01_In p0.Spread 0 65535))))] hF (ocons (ob1 (by kernel_rfl) (fun _ hd => (hS.later hd).cell (i := 0) (j := 1) rfl rfl)) (ocons (obN (us := [iv p0.Ratio.Lo, iv p0.Ratio.Hi]) (by kernel_rfl) (fun _ hd => ((hS.later hd).blk (i := 0) rfl).cells rfl)) (ocons (show Ob.ok _ Ext _ _ from fun hk w2 hd => ref01_Valid_ok p0.Ratio 0 1000000 _ rfl _ w2 (memOf_at w2) ) (ocons (obN (us := [iv p0.Match.Lo, iv p0.Match.Hi]) (by kernel_rfl) (fun _ hd => ((hS.later hd).blk (i := 0) rfl).cells rfl)) (ocons (show Ob.ok _ Ext _ _ from fun hk w2 hd => ref01_Valid_ok p0.Match 0 1000 _ rfl _ w2 (memOf_at w2) ) (ocons (ob1 (by kernel_rfl) (fun _ hd => (hS.later hd).cell (i := 0) (j := 7) rfl rfl)) (ocons (show Ob.ok _ Ext _ _ from fun hk w2 hd => ref01_In_ok p0.Spread 0 65535 _ rfl _ w2 (memOf_at w2) ) onil))))))) fun a w hF hx => ?_
    replace hS := hS.later hx
    refine wfn rfl ?_
    refine econd hF rfl (fun hc => ?_) (fun hc => ?_)
    ·replace h := bif_t h hc
     refine esr ?_
     refine rn 1 1 [(2, iv 3)] hF fun a hF => ?_
     refine wfn rfl ?_
     refine wpIn_ret (ret_then <| fn_ret [.tmp 2] [iv 3] hF rfl ⟨rfl, trivial⟩ ?_)
     have hr_ := Option.some.inj h
     subst hr_
     exact ⟨rfl, hS.ext⟩
    ·replace h := bif_f h hc
     refine wpIn_skip (norm_then ?_)
     refine eseq ?_
     refine esr ?_
     refine rno 3 [.run [] (Instr.loadAt 3 (pb b1)) (iv p0.Kind)] 3 [(1, pb b1), (91, .bool (p0.Kind == 2))] hF (ocons (ob1 (by kernel_rfl) (fun _ hd => (hS.at_ hd).cell (i := 0) (j := 0) rfl rfl)) onil) fun a hF => ?_
     refine wfn rfl ?_
     refine econd hF rfl (fun hc => ?_) (fun hc => ?_)
     ·replace h := bif_t h hc
      refine esr ?_
      refine rn 1 1 [(1, pb b1), (92, .agg #[iv 0, iv 0])] hF fun a hF => ?_
      refine SK.wi (allocK (t := 25) (fun b3 => [(1, pb b1), (4, pb b3), (92, .agg #[iv 0, iv 0])]) #[iv 0, iv 0] hF hS (by kernel_rfl) ⟨by kernel_rfl⟩ (by kernel_rfl) (fun _ => ⟨by kernel_rfl⟩) fun b3 w a hF hS => ?_)
      refine SK.wi (storeK (t := 25) [(1, pb b1), (4, pb b3)] 0 0 (.agg #[iv 0, iv 0]) #[iv 0, iv 0] hF hS rfl (by kernel_rfl) ⟨by kernel_rfl⟩ (by kernel_rfl) (by kernel_rfl) (by kernel_rfl) (by kernel_rfl) ⟨by kernel_rfl⟩ fun w a hF hS => ?_)
      refine wfn rfl ?_
      refine eseq ?_
      refine esr ?_
      refine rno 18 [.run [] (Instr.indexAt 26 (.pointer (some ⟨b1, 3, none⟩)) (iv 0)) (.pointer (some ⟨b1, 3, none⟩)), .run [] (Instr.loadAt 25 (.pointer (some ⟨b1, 3, none⟩))) (.agg #[iv p0.Steps.1.Lo, iv p0.Steps.1.Hi]), .run [] (Instr.loadAt 25 (pb b3)) (.agg #[iv 0, iv 0]), .run [] (eqS .neq 25 #[iv p0.Steps.1.Lo, iv p0.Steps.1.Hi] #[iv 0, iv 0]) (.bool (!(((p0.Steps.1.Lo : Int) == 0) && (((p0.Steps.1.Hi : Int) == 0) && true)))), .run [⟨98, false, (!(((p0.Steps.1.Lo : Int) == 0) && (((p0.Steps.1.Hi : Int) == 0) && true)))⟩] (Instr.indexAt 26 (.pointer (some ⟨b1, 3, none⟩)) (iv 1)) (.pointer (some ⟨b1, 5, none⟩)), .run [⟨98, false, (!(((p0.Steps.1.Lo : Int) == 0) && (((p0.Steps.1.Hi : Int) == 0) && true)))⟩] (Instr.loadAt 25 (.pointer (some ⟨b1, 5, none⟩))) (.agg #[iv p0.Steps.2.Lo, iv p0.Steps.2.Hi]), .run [⟨98, false, (!(((p0.Steps.1.Lo : Int) == 0) && (((p0.Steps.1.Hi : Int) == 0) && true)))⟩] (Instr.loadAt 25 (pb b3)) (.agg #[iv 0, iv 0]), .run [⟨98, false, (!(((p0.Steps.1.Lo : Int) == 0) && (((p0.Steps.1.Hi : Int) == 0) && true)))⟩] (eqS .neq 25 #[iv p0.Steps.2.Lo, iv p0.Steps.2.Hi] #[iv 0, iv 0]) (.bool (!(((p0.Steps.2.Lo : Int) == 0) && (((p0.Steps.2.Hi : Int) == 0) && true)))), .run [⟨105, false, (bif (!(((p0.Steps.1.Lo : Int) == 0) && (((p0.Steps.1.Hi : Int) == 0) && true))) then true else (!(((p0.Steps.2.Lo : Int) == 0) && (((p0.Steps.2.Hi : Int) == 0) && true))))⟩] (Instr.loadAt 25 (.pointer (some ⟨b1, 12, none⟩))) (.agg #[iv p0.Turn.Lo, iv p0.Turn.Hi]), .run [⟨105, false, (bif (!(((p0.Steps.1.Lo : Int) == 0) && (((p0.Steps.1.Hi : Int) == 0) && true))) then true else (!(((p0.Steps.2.Lo : Int) == 0) && (((p0.Steps.2.Hi : Int) == 0) && true))))⟩] (Instr.loadAt 25 (pb b3)) (.agg #[iv 0, iv 0]), .run [⟨105, false, (bif (!(((p0.Steps.1.Lo : Int) == 0) && (((p0.Steps.1.Hi : Int) == 0) && true))) then true else (!(((p0.Steps.2.Lo : Int) == 0) && (((p0.Steps.2.Hi : Int) == 0) && true))))⟩] (eqS .neq 25 #[iv p0.Turn.Lo, iv p0.Turn.Hi] #[iv 0, iv 0]) (.bool (!(((p0.Turn.Lo : Int) == 0) && (((p0.Turn.Hi : Int) == 0) && true))))] 18 [(110, .bool (bif (bif (!(((p0.Steps.1.Lo : Int) == 0) && (((p0.Steps.1.Hi : Int) == 0) && true))) then true else (!(((p0.Steps.2.Lo : Int) == 0) && (((p0.Steps.2.Hi : Int) == 0) && true)))) then true else (!(((p0.Turn.Lo : Int) == 0) && (((p0.Turn.Hi : Int) == 0) && true)))))] hF (ocons (obPureSem (by kernel_rfl)) (ocons (obN (us := [iv p0.Steps.1.Lo, iv p0.Steps.1.Hi]) (by kernel_rfl) (fun _ hd => ((hS.at_ hd).blk (i := 1) rfl).cells rfl)) (ocons (obN (us := [iv 0, iv 0]) (by kernel_rfl) (fun _ hd => ((hS.at_ hd).blk (i := 0) rfl).cells rfl)) (ocons (obNeC (by kernel_rfl) (by kernel_rfl)) (ocons (obPureSem (by kernel_rfl)) (ocons (obN (us := [iv p0.Steps.2.Lo, iv p0.Steps.2.Hi]) (by kernel_rfl) (fun _ hd => ((hS.at_ hd).blk (i := 1) rfl).cells rfl)) (ocons (obN (us := [iv 0, iv 0]) (by kernel_rfl) (fun _ hd => ((hS.at_ hd).blk (i := 0) rfl).cells rfl)) (ocons (obNeC (by kernel_rfl) (by kernel_rfl)) (ocons (obN (us := [iv p0.Turn.Lo, iv p0.Turn.Hi]) (by kernel_rfl) (fun _ hd => ((hS.at_ hd).blk (i := 1) rfl).cells rfl)) (ocons (obN (us := [iv 0, iv 0]) (by kernel_rfl) (fun _ hd => ((hS.at_ hd).blk (i := 0) rfl).cells rfl)) (ocons (obNeC (by kernel_rfl) (by kernel_rfl)) onil))))))))))) fun a hF => ?_
      refine wfn rfl ?_
      refine econd hF rfl (fun hc => ?_) (fun hc => ?_)
      ·replace h := bif_t h hc
       refine esr ?_
       refine rn 1 1 [(2, iv 3)] hF fun a hF => ?_
       refine wfn rfl ?_
       refine wpIn_ret (ret_then <| ret_then <| fn_ret [.tmp 2] [iv 3] hF rfl ⟨rfl, trivial⟩ ?_)
       have hr_ := Option.some.inj h
       subst hr_
       exact ⟨rfl, hS.ext⟩
      ·replace h := bif_f h hc
       refine wpIn_skip (norm_then ?_)
       refine esr ?_
       refine rn 1 1 [(2, iv 0)] hF fun a hF => ?_
       refine wfn rfl ?_
       refine wpIn_ret (ret_then <| fn_ret [.tmp 2] [iv 0] hF rfl ⟨rfl, trivial⟩ ?_)
       have hr_ := Option.some.inj h
       subst hr_
       exact ⟨rfl, hS.ext⟩
     ·replace h := bif_f h hc
      refine wpIn_skip (norm_then ?_)
      refine eseq ?_
      refine esr ?_
      replace h := bindS h
      obtain ⟨y4, hy4, h⟩ := h
      replace h := bindS h
      obtain ⟨y5, hy5, h⟩ := h
      replace h := bindS h
      obtain ⟨y6, hy6, h⟩ := h
      refine rx 18 [.run [] (Instr.indexAt 26 (.pointer (some ⟨b1, 3, none⟩)) (iv 0)) (.pointer (some ⟨b1, 3, none⟩)), .run [] (Instr.loadAt 25 (.pointer (some ⟨b1, 3, none⟩))) (.agg #[iv p0.Steps.1.Lo, iv p0.Steps.1.Hi]), .call [] 95 #[.agg #[iv p0.Steps.1.Lo, iv p0.Steps.1.Hi]] (.bool y4), .run [⟨116, false, (!y4)⟩] (Instr.indexAt 26 (.pointer (some ⟨b1, 3, none⟩)) (iv 1)) (.pointer (some ⟨b1, 5, none⟩)), .run [⟨116, false, (!y4)⟩] (Instr.loadAt 25 (.pointer (some ⟨b1, 5, none⟩))) (.agg #[iv p0.Steps.2.Lo, iv p0.Steps.2.Hi]), .call [⟨116, false, (!y4)⟩] 95 #[.agg #[iv p0.Steps.2.Lo, iv p0.Steps.2.Hi]] (.bool y5), .run [⟨123, false, (bif (!y4) then true else (!y5))⟩] (Instr.loadAt 25 (.pointer (some ⟨b1, 12, none⟩))) (.agg #[iv p0.Turn.Lo, iv p0.Turn.Hi]), .call [⟨123, false, (bif (!y4) then true else (!y5))⟩] 95 #[.agg #[iv p0.Turn.Lo, iv p0.Turn.Hi]] (.bool y6)] 18 [(128, .bool (bif (bif (!y4) then true else (!y5)) then true else (!y6)))] hF (ocons (obPureSem (by kernel_rfl)) (ocons (obN (us := [iv p0.Steps.1.Lo, iv p0.Steps.1.Hi]) (by kernel_rfl) (fun _ hd => ((hS.later hd).blk (i := 0) rfl).cells rfl)) (ocons (show Ob.ok _ Ext _ _ from fun hk w2 hd => ref02_turns_ok F (api_Span.mk p0.Steps.1.Lo p0.Steps.1.Hi) _ ((fun _ => hy4) hk) _ w2 (memOf_at w2) ) (ocons (obPureSem (by kernel_rfl)) (ocons (obN (us := [iv p0.Steps.2.Lo, iv p0.Steps.2.Hi]) (by kernel_rfl) (fun _ hd => ((hS.later hd).blk (i := 0) rfl).cells rfl)) (ocons (show Ob.ok _ Ext _ _ from fun hk w2 hd => ref02_turns_ok F (api_Span.mk p0.Steps.2.Lo p0.Steps.2.Hi) _ ((fun hk => gd_some hy5 hk) hk) _ w2 (memOf_at w2) ) (ocons (obN (us := [iv p0.Turn.Lo, iv p0.Turn.Hi]) (by kernel_rfl) (fun _ hd => ((hS.later hd).blk (i := 0) rfl).cells rfl)) (ocons (show Ob.ok _ Ext _ _ from fun hk w2 hd => ref02_turns_ok F p0.Turn _ ((fun hk => gd_some hy6 hk) hk) _ w2 (memOf_at w2) ) onil)))))))) fun a w hF hx => ?_
      replace hS := hS.later hx
      refine wfn rfl ?_
      refine econd hF rfl (fun hc => ?_) (fun hc => ?_)
      ·replace h := bif_t h hc
       refine esr ?_
       refine rn 1 1 [(2, iv 3)] hF fun a hF => ?_
       refine wfn rfl ?_
       refine wpIn_ret (ret_then <| fn_ret [.tmp 2] [iv 3] hF rfl ⟨rfl, trivial⟩ ?_)
       have hr_ := Option.some.inj h
       subst hr_
       exact ⟨rfl, hS.ext⟩
      ·replace h := bif_f h hc
       refine wpIn_skip (norm_then ?_)
       refine esr ?_
       refine rn 1 1 [(2, iv 0)] hF fun a hF => ?_
       refine wfn rfl ?_
       refine wpIn_ret (fn_ret [.tmp 2] [iv 0] hF rfl ⟨rfl, trivial⟩ ?_)
       have hr_ := Option.some.inj h
       subst hr_
       exact ⟨rfl, hS.ext⟩

theorem ref02_time_ok (F : Nat) (p0 : ref02_Train) (p1 : Int) (res : (Int × Int)) (h : ref02_time F p0 p1 = some res) (μ : Frz) (w0 : World) (hm : FrzAt μ w0) : Calls Try.prog 98 #[p0.ag, iv p1] w0 (fun e w => e = .returned (.tuple #[iv res.1, iv res.2]) ∧ Ext w0 w) := by
 obtain ⟨hlow, hS⟩ := hm.init
 have hext := Frz.ext_refl w0.heap.size μ
 rw [ref02_time] at h
 refine fn_enterW Try.func98 rfl 25 [(0, p0.ag), (1, iv p1)] rfl rfl (by kernel_rfl) fun a w hw hF => ?_
 replace hS : St w0 [fz w0 μ] w := by rw [hw]; exact hS
 clear hw
 refine esr ?_
 refine SK.wi (boxK (t := 23) (fun b1 => [(1, iv p1), (2, pb b1)]) (p0.ag) p0.ar hF hS (by kernel_rfl) ⟨by kernel_rfl⟩ (by kernel_rfl) (fun _ => ⟨by kernel_rfl⟩) fun b1 w a hF hS => ?_)
 refine rn 2 3 [(1, iv p1), (2, pb b1)] hF fun a hF => ?_
 refine wfn rfl ?_
 refine esr ?_
 replace h := bindS h
 obtain ⟨y2, hy2, h⟩ := h
 refine rx 3 [.run [] (Instr.loadAt 23 (pb b1)) (p0.ag), .call [] 54 #[p0.ag] (iv y2)] 3 [(1, iv p1), (2, pb b1), (6, iv y2)] hF (ocons (obN (us := p0.cells) (by kernel_rfl) (fun _ hd => ((hS.later hd).blk (i := 0) rfl).cells rfl)) (ocons (show Ob.ok _ Ext _ _ from fun hk w2 hd => ref02_CheckTrain_ok F p0 _ ((fun _ => hy2) hk) _ w2 (memOf_at w2) ) onil)) fun a w hF hx => ?_
 replace hS := hS.later hx
 refine wfn rfl ?_
 refine eseq ?_
 refine esr ?_
 refine rn 2 2 [(1, iv p1), (2, pb b1), (6, iv y2), (10, .bool (y2 != 0))] hF fun a hF => ?_
 refine wfn rfl ?_
 refine econd hF rfl (fun hc => ?_) (fun hc => ?_)
 ·replace h := bif_t h hc
  refine esr ?_
  refine rn 3 3 [(4, iv 0), (5, iv y2)] hF fun a hF => ?_
  refine wfn rfl ?_
  refine wpIn_ret (ret_then <| fn_ret [.tmp 4, .tmp 5] [iv 0, iv y2] hF rfl ⟨rfl, rfl, trivial⟩ ?_)
  have hr_ := Option.some.inj h
  subst hr_
  exact ⟨rfl, hS.ext⟩
 ·replace h := bif_f h hc
  refine wpIn_skip (norm_then ?_)
  refine eseq ?_
  refine esr ?_
  refine rn 2 2 [(1, iv p1), (2, pb b1), (13, .bool (p1 == 0))] hF fun a hF => ?_
  refine wfn rfl ?_
  refine econd hF rfl (fun hc => ?_) (fun hc => ?_)
  ·replace h := bif_t h hc
   refine esr ?_
   refine rno 4 [.run [] (Instr.loadAt 3 (.pointer (some ⟨b1, 2, none⟩))) (iv p0.First)] 4 [(4, iv p0.First), (5, iv 0)] hF (ocons (ob1 (by kernel_rfl) (fun _ hd => (hS.at_ hd).cell (i := 0) (j := 2) rfl rfl)) onil) fun a hF => ?_
   refine wfn rfl ?_
   refine wpIn_ret (ret_then <| fn_ret [.tmp 4, .tmp 5] [iv p0.First, iv 0] hF rfl ⟨rfl, rfl, trivial⟩ ?_)
   have hr_ := Option.some.inj h
   subst hr_
   exact ⟨rfl, hS.ext⟩
  ·replace h := bif_f h hc
   refine wpIn_skip (norm_then ?_)
   refine eseq ?_
   refine esr ?_
   refine rno 7 [.run [⟨18, false, (p1 != 1)⟩] (Instr.loadAt 3 (.pointer (some ⟨b1, 1, none⟩))) (iv p0.Kind)] 7 [(2, pb b1), (22, .bool (bif (p1 != 1) then true else (p0.Kind == 1)))] hF (ocons (ob1 (by kernel_rfl) (fun _ hd => (hS.at_ hd).cell (i := 0) (j := 1) rfl rfl)) onil) fun a hF => ?_
   refine wfn rfl ?_
   refine econd hF rfl (fun hc => ?_) (fun hc => ?_)
   ·replace h := bif_t h hc
    refine esr ?_
    refine rn 2 2 [(4, iv 0), (5, iv 2)] hF fun a hF => ?_
    refine wfn rfl ?_
    refine wpIn_ret (ret_then <| fn_ret [.tmp 4, .tmp 5] [iv 0, iv 2] hF rfl ⟨rfl, rfl, trivial⟩ ?_)
    have hr_ := Option.some.inj h
    subst hr_
    exact ⟨rfl, hS.ext⟩
   ·replace h := bif_f h hc
    refine wpIn_skip (norm_then ?_)
    refine esr ?_
    refine rno 4 [.run [] (Instr.loadAt 3 (.pointer (some ⟨b1, 3, none⟩))) (iv p0.Second)] 4 [(4, iv p0.Second), (5, iv 0)] hF (ocons (ob1 (by kernel_rfl) (fun _ hd => (hS.at_ hd).cell (i := 0) (j := 3) rfl rfl)) onil) fun a hF => ?_
    refine wfn rfl ?_
    refine wpIn_ret (fn_ret [.tmp 4, .tmp 5] [iv p0.Second, iv 0] hF rfl ⟨rfl, rfl, trivial⟩ ?_)
    have hr_ := Option.some.inj h
    subst hr_
    exact ⟨rfl, hS.ext⟩

theorem pulse_Reach_ok (F : Nat) (p0 : pulse_Train) (p1 : Int) (res : (Int × Int)) (h : pulse_Reach F p0 p1 = some res) (μ : Frz) (w0 : World) (hm : FrzAt μ w0) : Calls Try.prog 59 #[p0.ag, iv p1] w0 (fun e w => e = .returned (.tuple #[iv res.1, iv res.2]) ∧ Ext w0 w) := by
 obtain ⟨hlow, hS⟩ := hm.init
 have hext := Frz.ext_refl w0.heap.size μ
 rw [pulse_Reach] at h
 refine fn_enterW Try.func59 rfl 17 [(0, p0.ag), (1, iv p1)] rfl rfl (by kernel_rfl) fun a w hw hF => ?_
 replace hS : St w0 [fz w0 μ] w := by rw [hw]; exact hS
 clear hw
 refine esr ?_
 refine SK.wi (boxK (t := 33) (fun b1 => [(1, iv p1), (2, pb b1)]) (p0.ag) p0.ar hF hS (by kernel_rfl) ⟨by kernel_rfl⟩ (by kernel_rfl) (fun _ => ⟨by kernel_rfl⟩) fun b1 w a hF hS => ?_)
 refine rn 2 3 [(1, iv p1), (2, pb b1)] hF fun a hF => ?_
 refine wfn rfl ?_
 refine esr ?_
 replace h := bindS h
 obtain ⟨y2, hy2, h⟩ := h
 refine rx 8 [.run [] (Instr.loadAt 33 (pb b1)) (p0.ag), .call [] 97 #[p0.ag, iv p1] (.tuple #[iv y2.1, iv y2.2])] 8 [(6, iv y2.1), (7, iv y2.2)] hF (ocons (obN (us := p0.cells) (by kernel_rfl) (fun _ hd => ((hS.later hd).blk (i := 0) rfl).cells rfl)) (ocons (show Ob.ok _ Ext _ _ from fun hk w2 hd => pulse_Train_time_ok F p0 p1 _ ((fun _ => hy2) hk) _ w2 (memOf_at w2) ) onil)) fun a w hF hx => ?_
 replace hS := hS.later hx
 refine wfn rfl ?_
 refine esr ?_
 replace h := bindS h
 obtain ⟨x3, hx3, h⟩ := h
 refine rno 5 [.run [] (binOp .mul 3 (iv 150) (iv y2.1)) (iv x3)] 5 [(4, iv x3), (5, iv y2.2)] hF (ocons (obMulC (fun _ => hx3)) onil) fun a hF => ?_
 refine wfn rfl ?_
 refine wpIn_ret (fn_ret [.tmp 4, .tmp 5] [iv x3, iv y2.2] hF rfl ⟨rfl, rfl, trivial⟩ ?_)
 have hr_ := Option.some.inj h
 subst hr_
 exact ⟨rfl, hS.ext⟩

theorem ref02_Reach_ok (F : Nat) (p0 : ref02_Train) (p1 : Int) (res : (Int × Int)) (h : ref02_Reach F p0 p1 = some res) (μ : Frz) (w0 : World) (hm : FrzAt μ w0) : Calls Try.prog 60 #[p0.ag, iv p1] w0 (fun e w => e = .returned (.tuple #[iv res.1, iv res.2]) ∧ Ext w0 w) := by
 obtain ⟨hlow, hS⟩ := hm.init
 have hext := Frz.ext_refl w0.heap.size μ
 rw [ref02_Reach] at h
 refine fn_enterW Try.func60 rfl 17 [(0, p0.ag), (1, iv p1)] rfl rfl (by kernel_rfl) fun a w hw hF => ?_
 replace hS : St w0 [fz w0 μ] w := by rw [hw]; exact hS
 clear hw
 refine esr ?_
 refine SK.wi (boxK (t := 23) (fun b1 => [(1, iv p1), (2, pb b1)]) (p0.ag) p0.ar hF hS (by kernel_rfl) ⟨by kernel_rfl⟩ (by kernel_rfl) (fun _ => ⟨by kernel_rfl⟩) fun b1 w a hF hS => ?_)
 refine rn 2 3 [(1, iv p1), (2, pb b1)] hF fun a hF => ?_
 refine wfn rfl ?_
 refine esr ?_
 replace h := bindS h
 obtain ⟨y2, hy2, h⟩ := h
 refine rx 8 [.run [] (Instr.loadAt 23 (pb b1)) (p0.ag), .call [] 98 #[p0.ag, iv p1] (.tuple #[iv y2.1, iv y2.2])] 8 [(6, iv y2.1), (7, iv y2.2)] hF (ocons (obN (us := p0.cells) (by kernel_rfl) (fun _ hd => ((hS.later hd).blk (i := 0) rfl).cells rfl)) (ocons (show Ob.ok _ Ext _ _ from fun hk w2 hd => ref02_time_ok F p0 p1 _ ((fun _ => hy2) hk) _ w2 (memOf_at w2) ) onil)) fun a w hF hx => ?_
 replace hS := hS.later hx
 refine wfn rfl ?_
 refine esr ?_
 replace h := bindS h
 obtain ⟨x3, hx3, h⟩ := h
 refine rno 5 [.run [] (binOp .mul 3 (iv 150) (iv y2.1)) (iv x3)] 5 [(4, iv x3), (5, iv y2.2)] hF (ocons (obMulC (fun _ => hx3)) onil) fun a hF => ?_
 refine wfn rfl ?_
 refine wpIn_ret (fn_ret [.tmp 4, .tmp 5] [iv x3, iv y2.2] hF rfl ⟨rfl, rfl, trivial⟩ ?_)
 have hr_ := Option.some.inj h
 subst hr_
 exact ⟨rfl, hS.ext⟩
end Go.Proofs.Ytbhjgebjojdohaa
