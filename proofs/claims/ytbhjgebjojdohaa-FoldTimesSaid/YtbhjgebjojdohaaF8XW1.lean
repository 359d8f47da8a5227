/- Walks, written by program (wip/gen/dec.py). -/
import Derived.Test.YtbhjgebjojdohaaF8XD
import Derived.Test.YtbhjgebjojdohaaProg
import Derived.Test.YtbhjgebjojdohaaF8XW0
namespace Go.Proofs.Ytbhjgebjojdohaa
open Go Go.RowKit Go.Eng
set_option maxRecDepth 10000
set_option maxHeartbeats 4000000
set_option linter.unusedVariables false
set_option linter.unusedSimpArgs false
theorem pulse_CheckEcho_ok (F : Nat) (p0 : api_Echo) (res : Int) (h : pulse_CheckEcho F p0 = some res) (μ : Frz) (w0 : World) (hm : FrzAt μ w0) : Calls Try.prog 51 #[p0.ag] w0 (fun e w => e = .returned (iv res) ∧ Ext w0 w) := by
 obtain ⟨hlow, hS⟩ := hm.init
 have hext := Frz.ext_refl w0.heap.size μ
 rw [pulse_CheckEcho] at h
 refine fn_enterW Try.func51 rfl 77 [(0, p0.ag)] rfl rfl (by kernel_rfl) fun a w hw hF => ?_
 replace hS : St w0 [fz w0 μ] w := by rw [hw]; exact hS
 clear hw
 refine esr ?_
 refine SK.wi (boxK (t := 28) (fun b1 => [(1, pb b1)]) (p0.ag) p0.ar hF hS (by kernel_rfl) ⟨by kernel_rfl⟩ (by kernel_rfl) (fun _ => ⟨by kernel_rfl⟩) fun b1 w a hF hS => ?_)
 refine rn 1 2 [(1, pb b1)] hF fun a hF => ?_
 refine wfn rfl ?_
 refine esr ?_
 refine rx 4 [.run [] (Instr.loadAt 25 (.pointer (some ⟨b1, 1, none⟩))) (.agg #[iv p0.Power.Lo, iv p0.Power.Hi]), .call [] 89 #[.agg #[iv p0.Power.Lo, iv p0.Power.Hi], iv 0, iv 1073741824] (.bool (pulse_inside p0.Power 0 1073741824))] 4 [(1, pb b1), (3, .bool (pulse_inside p0.Power 0 1073741824))] hF (ocons (obN (us := [iv p0.Power.Lo, iv p0.Power.Hi]) (by kernel_rfl) (fun _ hd => ((hS.later hd).blk (i := 0) rfl).cells rfl)) (ocons (show Ob.ok _ Ext _ _ from fun hk w2 hd => pulse_inside_ok p0.Power 0 1073741824 _ rfl _ w2 (memOf_at w2) ) onil)) fun a w hF hx => ?_
 replace hS := hS.later hx
 refine wfn rfl ?_
 refine ecut (fun a w => ∃ (c7 : Bool), Fr 77 [] [(3, .bool c7)] a ∧ St w0 [blk b1 28 p0.ar, fz w0 μ] w ∧ pulse_CheckEcho_K1 c7 = some res) ?_ ?_
 ·skip
  refine esr ?_
  refine rno 2 [.run [] (Instr.loadAt 3 (pb b1)) (iv p0.Kind)] 2 [(1, pb b1), (3, .bool (pulse_inside p0.Power 0 1073741824)), (8, iv p0.Kind)] hF (ocons (ob1 (by kernel_rfl) (fun _ hd => (hS.at_ hd).cell (i := 0) (j := 0) rfl rfl)) onil) fun a hF => ?_
  refine wfn rfl ?_
  refine wpIn_block ?_
  refine esr ?_
  refine rn 2 2 [(1, pb b1), (3, .bool (pulse_inside p0.Power 0 1073741824)), (8, iv p0.Kind), (9, .bool (p0.Kind == 1))] hF fun a hF => ?_
  refine wfn rfl ?_
  refine econd hF rfl (fun hc => ?_) (fun hc => ?_)
  ·replace h := bif_t h hc
   refine WI.region ?_
   refine rno 11 [.run [⟨12, true, (pulse_inside p0.Power 0 1073741824)⟩] (Instr.loadAt 28 (pb b1)) (p0.ag), .run [⟨12, true, (pulse_inside p0.Power 0 1073741824)⟩] (Instr.loadAt 3 (.pointer (some ⟨b1, 2, none⟩))) (iv p0.Power.Hi), .run [⟨12, true, (pulse_inside p0.Power 0 1073741824)⟩] (eqS .eql 28 p0.ar #[iv 1, iv 0, iv p0.Power.Hi, iv 0, iv 0, iv 0, iv 0, iv 0, iv 0, iv 0, iv 0, iv 0, iv 0, iv 0]) (.bool (((p0.Kind : Int) == 1) && ((((p0.Power.Lo : Int) == 0) && (((p0.Power.Hi : Int) == p0.Power.Hi) && true)) && (((((p0.Steps.1.Lo : Int) == 0) && (((p0.Steps.1.Hi : Int) == 0) && true)) && ((((p0.Steps.2.Lo : Int) == 0) && (((p0.Steps.2.Hi : Int) == 0) && true)) && true)) && (((p0.Spread : Int) == 0) && ((((p0.Ratio.Lo : Int) == 0) && (((p0.Ratio.Hi : Int) == 0) && true)) && ((((p0.Match.Lo : Int) == 0) && (((p0.Match.Hi : Int) == 0) && true)) && ((((p0.Turn.Lo : Int) == 0) && (((p0.Turn.Hi : Int) == 0) && true)) && true))))))))] 11 [(3, .bool (bif (pulse_inside p0.Power 0 1073741824) then (((p0.Kind : Int) == 1) && ((((p0.Power.Lo : Int) == 0) && (((p0.Power.Hi : Int) == p0.Power.Hi) && true)) && (((((p0.Steps.1.Lo : Int) == 0) && (((p0.Steps.1.Hi : Int) == 0) && true)) && ((((p0.Steps.2.Lo : Int) == 0) && (((p0.Steps.2.Hi : Int) == 0) && true)) && true)) && (((p0.Spread : Int) == 0) && ((((p0.Ratio.Lo : Int) == 0) && (((p0.Ratio.Hi : Int) == 0) && true)) && ((((p0.Match.Lo : Int) == 0) && (((p0.Match.Hi : Int) == 0) && true)) && ((((p0.Turn.Lo : Int) == 0) && (((p0.Turn.Hi : Int) == 0) && true)) && true))))))) else false))] hF (ocons (obN (us := p0.cells) (by kernel_rfl) (fun _ hd => ((hS.at_ hd).blk (i := 0) rfl).cells rfl)) (ocons (ob1 (by kernel_rfl) (fun _ hd => (hS.at_ hd).cell (i := 0) (j := 2) rfl rfl)) (ocons (obEqC (by kernel_rfl) (by kernel_rfl)) onil))) fun a hF => ?_
   refine WI.fin rfl (norm_block <| norm_then <| ?_)
   exact ⟨bif (pulse_inside p0.Power 0 1073741824) then (((p0.Kind : Int) == 1) && ((((p0.Power.Lo : Int) == 0) && (((p0.Power.Hi : Int) == p0.Power.Hi) && true)) && (((((p0.Steps.1.Lo : Int) == 0) && (((p0.Steps.1.Hi : Int) == 0) && true)) && ((((p0.Steps.2.Lo : Int) == 0) && (((p0.Steps.2.Hi : Int) == 0) && true)) && true)) && (((p0.Spread : Int) == 0) && ((((p0.Ratio.Lo : Int) == 0) && (((p0.Ratio.Hi : Int) == 0) && true)) && ((((p0.Match.Lo : Int) == 0) && (((p0.Match.Hi : Int) == 0) && true)) && ((((p0.Turn.Lo : Int) == 0) && (((p0.Turn.Hi : Int) == 0) && true)) && true))))))) else false, hF.sub (by kernel_rfl), St.pick [0, 1] (by decide) hS, h⟩
  ·replace h := bif_f h hc
   refine ecut (fun a w => ∃ (c9 : Bool), Fr 77 [] [(1, pb b1), (3, .bool (pulse_inside p0.Power 0 1073741824)), (21, .bool c9)] a ∧ St w0 [blk b1 28 p0.ar, fz w0 μ] w ∧ pulse_CheckEcho_K2 F p0 c9 = some res) ?_ ?_
   ·skip
    refine esr ?_
    refine rn 2 2 [(1, pb b1), (3, .bool (pulse_inside p0.Power 0 1073741824)), (8, iv p0.Kind), (21, .bool (p0.Kind == 2))] hF fun a hF => ?_
    refine wfn rfl ?_
    refine econd hF rfl (fun hc => ?_) (fun hc => ?_)
    ·replace h := bif_t h hc
     refine wpIn_skip (norm_then ?_)
     exact ⟨p0.Kind == 2, hF.sub (by kernel_rfl), St.pick [0, 1] (by decide) hS, h⟩
    ·replace h := bif_f h hc
     refine WI.region ?_
     refine rn 2 2 [(1, pb b1), (3, .bool (pulse_inside p0.Power 0 1073741824)), (21, .bool (p0.Kind == 3))] hF fun a hF => ?_
     refine wfn rfl ?_
     exact ⟨p0.Kind == 3, hF.sub (by kernel_rfl), St.pick [0, 1] (by decide) hS, h⟩
   rintro a w ⟨c9, hF, hS, h⟩
   rw [pulse_CheckEcho_K2] at h
   refine econd hF rfl (fun hc => ?_) (fun hc => ?_)
   ·replace h := bif_t h hc
    refine esr ?_
    refine rx 23 [.run [⟨25, true, (pulse_inside p0.Power 0 1073741824)⟩] (Instr.loadAt 3 (.pointer (some ⟨b1, 1, none⟩))) (iv p0.Power.Lo), .run [⟨31, true, (bif (pulse_inside p0.Power 0 1073741824) then (decide (p0.Power.Lo > 0)) else false)⟩] (Instr.loadAt 25 (.pointer (some ⟨b1, 8, none⟩))) (.agg #[iv p0.Ratio.Lo, iv p0.Ratio.Hi]), .call [⟨31, true, (bif (pulse_inside p0.Power 0 1073741824) then (decide (p0.Power.Lo > 0)) else false)⟩] 89 #[.agg #[iv p0.Ratio.Lo, iv p0.Ratio.Hi], iv 0, iv 1000000] (.bool (pulse_inside p0.Ratio 0 1000000)), .run [⟨36, true, (bif (bif (pulse_inside p0.Power 0 1073741824) then (decide (p0.Power.Lo > 0)) else false) then (pulse_inside p0.Ratio 0 1000000) else false)⟩] (Instr.loadAt 25 (.pointer (some ⟨b1, 10, none⟩))) (.agg #[iv p0.Match.Lo, iv p0.Match.Hi]), .call [⟨36, true, (bif (bif (pulse_inside p0.Power 0 1073741824) then (decide (p0.Power.Lo > 0)) else false) then (pulse_inside p0.Ratio 0 1000000) else false)⟩] 89 #[.agg #[iv p0.Match.Lo, iv p0.Match.Hi], iv 0, iv 1000] (.bool (pulse_inside p0.Match 0 1000)), .run [⟨41, true, (bif (bif (bif (pulse_inside p0.Power 0 1073741824) then (decide (p0.Power.Lo > 0)) else false) then (pulse_inside p0.Ratio 0 1000000) else false) then (pulse_inside p0.Match 0 1000) else false)⟩] (Instr.loadAt 3 (.pointer (some ⟨b1, 7, none⟩))) (iv p0.Spread), .call [⟨41, true, (bif (bif (bif (pulse_inside p0.Power 0 1073741824) then (decide (p0.Power.Lo > 0)) else false) then (pulse_inside p0.Ratio 0 1000000) else false) then (pulse_inside p0.Match 0 1000) else false)⟩] 88 #[iv p0.Spread, iv 0, iv 65535] (.bool (pulse_within p0.Spread 0 65535))] 23 [(1, pb b1), (3, .bool (bif (bif (bif (bif (pulse_inside p0.Power 0 1073741824) then (decide (p0.Power.Lo > 0)) else false) then (pulse_inside p0.Ratio 0 1000000) else false) then (pulse_inside p0.Match 0 1000) else false) then (pulse_within p0.Spread 0 65535) else false))] hF (ocons (ob1 (by kernel_rfl) (fun _ hd => (hS.later hd).cell (i := 0) (j := 1) rfl rfl)) (ocons (obN (us := [iv p0.Ratio.Lo, iv p0.Ratio.Hi]) (by kernel_rfl) (fun _ hd => ((hS.later hd).blk (i := 0) rfl).cells rfl)) (ocons (show Ob.ok _ Ext _ _ from fun hk w2 hd => pulse_inside_ok p0.Ratio 0 1000000 _ rfl _ w2 (memOf_at w2) ) (ocons (obN (us := [iv p0.Match.Lo, iv p0.Match.Hi]) (by kernel_rfl) (fun _ hd => ((hS.later hd).blk (i := 0) rfl).cells rfl)) (ocons (show Ob.ok _ Ext _ _ from fun hk w2 hd => pulse_inside_ok p0.Match 0 1000 _ rfl _ w2 (memOf_at w2) ) (ocons (ob1 (by kernel_rfl) (fun _ hd => (hS.later hd).cell (i := 0) (j := 7) rfl rfl)) (ocons (show Ob.ok _ Ext _ _ from fun hk w2 hd => pulse_within_ok p0.Spread 0 65535 _ rfl _ w2 (memOf_at w2) ) onil))))))) fun a w hF hx => ?_
    replace hS := hS.later hx
    refine wfn rfl ?_
    refine esr ?_
    refine rno 3 [.run [] (Instr.loadAt 3 (pb b1)) (iv p0.Kind)] 3 [(1, pb b1), (3, .bool (bif (bif (bif (bif (pulse_inside p0.Power 0 1073741824) then (decide (p0.Power.Lo > 0)) else false) then (pulse_inside p0.Ratio 0 1000000) else false) then (pulse_inside p0.Match 0 1000) else false) then (pulse_within p0.Spread 0 65535) else false)), (48, .bool (p0.Kind == 2))] hF (ocons (ob1 (by kernel_rfl) (fun _ hd => (hS.at_ hd).cell (i := 0) (j := 0) rfl rfl)) onil) fun a hF => ?_
    refine wfn rfl ?_
    refine econd hF rfl (fun hc => ?_) (fun hc => ?_)
    ·replace h := bif_t h hc
     refine WI.region ?_
     refine rno 14 [.run [⟨50, true, (bif (bif (bif (bif (pulse_inside p0.Power 0 1073741824) then (decide (p0.Power.Lo > 0)) else false) then (pulse_inside p0.Ratio 0 1000000) else false) then (pulse_inside p0.Match 0 1000) else false) then (pulse_within p0.Spread 0 65535) else false)⟩] (Instr.loadAt 26 (.pointer (some ⟨b1, 3, none⟩))) (.agg #[iv p0.Steps.1.Lo, iv p0.Steps.1.Hi, iv p0.Steps.2.Lo, iv p0.Steps.2.Hi]), .run [⟨50, true, (bif (bif (bif (bif (pulse_inside p0.Power 0 1073741824) then (decide (p0.Power.Lo > 0)) else false) then (pulse_inside p0.Ratio 0 1000000) else false) then (pulse_inside p0.Match 0 1000) else false) then (pulse_within p0.Spread 0 65535) else false)⟩] (eqS .eql 26 #[iv p0.Steps.1.Lo, iv p0.Steps.1.Hi, iv p0.Steps.2.Lo, iv p0.Steps.2.Hi] #[iv 0, iv 0, iv 0, iv 0]) (.bool ((((p0.Steps.1.Lo : Int) == 0) && (((p0.Steps.1.Hi : Int) == 0) && true)) && ((((p0.Steps.2.Lo : Int) == 0) && (((p0.Steps.2.Hi : Int) == 0) && true)) && true))), .run [⟨56, true, (bif (bif (bif (bif (bif (pulse_inside p0.Power 0 1073741824) then (decide (p0.Power.Lo > 0)) else false) then (pulse_inside p0.Ratio 0 1000000) else false) then (pulse_inside p0.Match 0 1000) else false) then (pulse_within p0.Spread 0 65535) else false) then ((((p0.Steps.1.Lo : Int) == 0) && (((p0.Steps.1.Hi : Int) == 0) && true)) && ((((p0.Steps.2.Lo : Int) == 0) && (((p0.Steps.2.Hi : Int) == 0) && true)) && true)) else false)⟩] (Instr.loadAt 25 (.pointer (some ⟨b1, 12, none⟩))) (.agg #[iv p0.Turn.Lo, iv p0.Turn.Hi]), .run [⟨56, true, (bif (bif (bif (bif (bif (pulse_inside p0.Power 0 1073741824) then (decide (p0.Power.Lo > 0)) else false) then (pulse_inside p0.Ratio 0 1000000) else false) then (pulse_inside p0.Match 0 1000) else false) then (pulse_within p0.Spread 0 65535) else false) then ((((p0.Steps.1.Lo : Int) == 0) && (((p0.Steps.1.Hi : Int) == 0) && true)) && ((((p0.Steps.2.Lo : Int) == 0) && (((p0.Steps.2.Hi : Int) == 0) && true)) && true)) else false)⟩] (eqS .eql 25 #[iv p0.Turn.Lo, iv p0.Turn.Hi] #[iv 0, iv 0]) (.bool (((p0.Turn.Lo : Int) == 0) && (((p0.Turn.Hi : Int) == 0) && true)))] 14 [(3, .bool (bif (bif (bif (bif (bif (bif (pulse_inside p0.Power 0 1073741824) then (decide (p0.Power.Lo > 0)) else false) then (pulse_inside p0.Ratio 0 1000000) else false) then (pulse_inside p0.Match 0 1000) else false) then (pulse_within p0.Spread 0 65535) else false) then ((((p0.Steps.1.Lo : Int) == 0) && (((p0.Steps.1.Hi : Int) == 0) && true)) && ((((p0.Steps.2.Lo : Int) == 0) && (((p0.Steps.2.Hi : Int) == 0) && true)) && true)) else false) then (((p0.Turn.Lo : Int) == 0) && (((p0.Turn.Hi : Int) == 0) && true)) else false))] hF (ocons (obN (us := [iv p0.Steps.1.Lo, iv p0.Steps.1.Hi, iv p0.Steps.2.Lo, iv p0.Steps.2.Hi]) (by kernel_rfl) (fun _ hd => ((hS.at_ hd).blk (i := 0) rfl).cells rfl)) (ocons (obEqC (by kernel_rfl) (by kernel_rfl)) (ocons (obN (us := [iv p0.Turn.Lo, iv p0.Turn.Hi]) (by kernel_rfl) (fun _ hd => ((hS.at_ hd).blk (i := 0) rfl).cells rfl)) (ocons (obEqC (by kernel_rfl) (by kernel_rfl)) onil)))) fun a hF => ?_
     refine WI.fin rfl (norm_block <| norm_then <| ?_)
     exact ⟨bif (bif (bif (bif (bif (bif (pulse_inside p0.Power 0 1073741824) then (decide (p0.Power.Lo > 0)) else false) then (pulse_inside p0.Ratio 0 1000000) else false) then (pulse_inside p0.Match 0 1000) else false) then (pulse_within p0.Spread 0 65535) else false) then ((((p0.Steps.1.Lo : Int) == 0) && (((p0.Steps.1.Hi : Int) == 0) && true)) && ((((p0.Steps.2.Lo : Int) == 0) && (((p0.Steps.2.Hi : Int) == 0) && true)) && true)) else false) then (((p0.Turn.Lo : Int) == 0) && (((p0.Turn.Hi : Int) == 0) && true)) else false, hF.sub (by kernel_rfl), St.pick [0, 1] (by decide) hS, h⟩
    ·replace h := bif_f h hc
     refine WI.region ?_
     refine rn 2 2 [(1, pb b1), (3, .bool (bif (bif (bif (bif (pulse_inside p0.Power 0 1073741824) then (decide (p0.Power.Lo > 0)) else false) then (pulse_inside p0.Ratio 0 1000000) else false) then (pulse_inside p0.Match 0 1000) else false) then (pulse_within p0.Spread 0 65535) else false)), (63, .bool (bif (bif (bif (bif (pulse_inside p0.Power 0 1073741824) then (decide (p0.Power.Lo > 0)) else false) then (pulse_inside p0.Ratio 0 1000000) else false) then (pulse_inside p0.Match 0 1000) else false) then (pulse_within p0.Spread 0 65535) else false))] hF fun a hF => ?_
     rcases Bool.eq_false_or_eq_true ((bif (bif (bif (bif (pulse_inside p0.Power 0 1073741824) then (decide (p0.Power.Lo > 0)) else false) then (pulse_inside p0.Ratio 0 1000000) else false) then (pulse_inside p0.Match 0 1000) else false) then (pulse_within p0.Spread 0 65535) else false)) with hg10 | hg10
     ·replace h := bif_t h hg10
      rw [hg10] at hF
      refine run_C (n := 8) (obs := [.run [⟨63, true, true⟩] (Instr.indexAt 26 (.pointer (some ⟨b1, 3, none⟩)) (iv 0)) (.pointer (some ⟨b1, 3, none⟩)), .run [⟨63, true, true⟩] (Instr.loadAt 25 (.pointer (some ⟨b1, 3, none⟩))) (.agg #[iv p0.Steps.1.Lo, iv p0.Steps.1.Hi]), .run [⟨63, true, true⟩] (Instr.indexAt 26 (.pointer (some ⟨b1, 3, none⟩)) (iv 1)) (.pointer (some ⟨b1, 5, none⟩)), .run [⟨63, true, true⟩] (Instr.loadAt 25 (.pointer (some ⟨b1, 5, none⟩))) (.agg #[iv p0.Steps.2.Lo, iv p0.Steps.2.Hi]), .run [⟨63, true, true⟩] (Instr.loadAt 25 (.pointer (some ⟨b1, 12, none⟩))) (.agg #[iv p0.Turn.Lo, iv p0.Turn.Hi])]) 10 [(3, ⟨[], .bool true⟩), (63, ⟨[], .bool true⟩), (66, ⟨[⟨63, true, true⟩], .agg #[iv p0.Steps.1.Lo, iv p0.Steps.1.Hi]⟩), (69, ⟨[⟨63, true, true⟩], .agg #[iv p0.Steps.2.Lo, iv p0.Steps.2.Hi]⟩), (71, ⟨[⟨63, true, true⟩], .agg #[iv p0.Turn.Lo, iv p0.Turn.Hi]⟩)] hF (by kernel_rfl) (ocons (obPureSem (by kernel_rfl)) (ocons (obN (us := [iv p0.Steps.1.Lo, iv p0.Steps.1.Hi]) (by kernel_rfl) (fun _ hd => ((hS.at_ hd).blk (i := 0) rfl).cells rfl)) (ocons (obPureSem (by kernel_rfl)) (ocons (obN (us := [iv p0.Steps.2.Lo, iv p0.Steps.2.Hi]) (by kernel_rfl) (fun _ hd => ((hS.at_ hd).blk (i := 0) rfl).cells rfl)) (ocons (obN (us := [iv p0.Turn.Lo, iv p0.Turn.Hi]) (by kernel_rfl) (fun _ hd => ((hS.at_ hd).blk (i := 0) rfl).cells rfl)) onil))))) ⟨by kernel_rfl⟩ (by kernel_rfl) rfl fun a hF => ?_
      replace hF : Fr 77 [] [(3, .bool true), (63, .bool true), (66, .agg #[iv p0.Steps.1.Lo, iv p0.Steps.1.Hi]), (69, .agg #[iv p0.Steps.2.Lo, iv p0.Steps.2.Hi]), (71, .agg #[iv p0.Turn.Lo, iv p0.Turn.Hi])] a := hF
      refine SK.wi (litK (e := 25) (sz := 2) (f := api_Span.cells) (t := 43) (len := 3) (fun b11 => [(3, .bool true), (63, .bool true), (72, sb b11 3)]) #[(0, .agg #[iv p0.Steps.1.Lo, iv p0.Steps.1.Hi]), (1, .agg #[iv p0.Steps.2.Lo, iv p0.Steps.2.Hi]), (2, .agg #[iv p0.Turn.Lo, iv p0.Turn.Hi])] #[iv p0.Steps.1.Lo, iv p0.Steps.1.Hi, iv p0.Steps.2.Lo, iv p0.Steps.2.Hi, iv p0.Turn.Lo, iv p0.Turn.Hi] ([(api_Span.mk p0.Steps.1.Lo p0.Steps.1.Hi), (api_Span.mk p0.Steps.2.Lo p0.Steps.2.Hi), p0.Turn]) hF hS (by kernel_rfl) ⟨by kernel_rfl⟩ (by kernel_rfl) api_Span.cells_len rfl rfl (by kernel_rfl) (fun _ => ⟨by kernel_rfl⟩) fun b11 w a hF hS => ?_)
      replace h := bindS h
      obtain ⟨y12, hy12, h⟩ := h
      refine rx 3 [.call [⟨63, true, true⟩] 90 #[sb b11 3] (.bool y12)] 14 [(3, .bool y12)] hF (ocons (show Ob.ok _ Ext _ _ from fun hk w2 hd => pulse_turning_ok F ([(api_Span.mk p0.Steps.1.Lo p0.Steps.1.Hi), (api_Span.mk p0.Steps.2.Lo p0.Steps.2.Hi), p0.Turn]) _ ((fun _ => hy12) hk) _ w2 (memOf_at w2) (Arr.toM ((hS.later hd).arr (i := 0) rfl))) onil) fun a w hF hx => ?_
      replace hS := hS.later hx
      refine WI.fin rfl (norm_block <| norm_then <| ?_)
      exact ⟨y12, hF.sub (by kernel_rfl), St.pick [1, 2] (by decide) hS, h⟩
     ·replace h := bif_f h hg10
      rw [hg10] at hF
      refine skip_ 3 [(1, pb b1), (3, .bool false), (63, .bool false), (64, undef)] hF (by kernel_rfl) ⟨by kernel_rfl⟩ ⟨by kernel_rfl⟩ rfl fun a hF => ?_
      refine skip_ 4 [(1, pb b1), (3, .bool false), (63, .bool false), (65, undef)] hF (by kernel_rfl) ⟨by kernel_rfl⟩ ⟨by kernel_rfl⟩ rfl fun a hF => ?_
      refine skip_ 5 [(1, pb b1), (3, .bool false), (63, .bool false), (66, undef)] hF (by kernel_rfl) ⟨by kernel_rfl⟩ ⟨by kernel_rfl⟩ rfl fun a hF => ?_
      refine skip_ 6 [(1, pb b1), (3, .bool false), (63, .bool false), (66, undef), (67, undef)] hF (by kernel_rfl) ⟨by kernel_rfl⟩ ⟨by kernel_rfl⟩ rfl fun a hF => ?_
      refine skip_ 7 [(1, pb b1), (3, .bool false), (63, .bool false), (66, undef), (68, undef)] hF (by kernel_rfl) ⟨by kernel_rfl⟩ ⟨by kernel_rfl⟩ rfl fun a hF => ?_
      refine skip_ 8 [(1, pb b1), (3, .bool false), (63, .bool false), (66, undef), (69, undef)] hF (by kernel_rfl) ⟨by kernel_rfl⟩ ⟨by kernel_rfl⟩ rfl fun a hF => ?_
      refine skip_ 9 [(3, .bool false), (63, .bool false), (66, undef), (69, undef), (70, undef)] hF (by kernel_rfl) ⟨by kernel_rfl⟩ ⟨by kernel_rfl⟩ rfl fun a hF => ?_
      refine skip_ 10 [(3, .bool false), (63, .bool false), (66, undef), (69, undef), (71, undef)] hF (by kernel_rfl) ⟨by kernel_rfl⟩ ⟨by kernel_rfl⟩ rfl fun a hF => ?_
      refine skip_ 11 [(3, .bool false), (63, .bool false), (72, undef)] hF (by kernel_rfl) ⟨by kernel_rfl⟩ ⟨by kernel_rfl⟩ rfl fun a hF => ?_
      refine skip_ 12 [(3, .bool false), (63, .bool false), (73, undef)] hF (by kernel_rfl) ⟨by kernel_rfl⟩ ⟨by kernel_rfl⟩ rfl fun a hF => ?_
      refine rn 2 14 [(3, .bool false)] hF fun a hF => ?_
      refine WI.fin rfl (norm_block <| norm_then <| ?_)
      exact ⟨false, hF.sub (by kernel_rfl), St.pick [0, 1] (by decide) hS, h⟩
   ·replace h := bif_f h hc
    refine esr ?_
    refine rn 1 1 [(2, iv 2)] hF fun a hF => ?_
    refine wfn rfl ?_
    refine wpIn_ret (ret_block <| ret_then <| fn_ret [.tmp 2] [iv 2] hF rfl ⟨rfl, trivial⟩ ?_)
    have hr_ := Option.some.inj h
    subst hr_
    exact ⟨rfl, hS.ext⟩
 rintro a w ⟨c7, hF, hS, h⟩
 rw [pulse_CheckEcho_K1] at h
 refine eseq ?_
 refine esr ?_
 refine rn 2 2 [(76, .bool (!c7))] hF fun a hF => ?_
 refine wfn rfl ?_
 refine econd hF rfl (fun hc => ?_) (fun hc => ?_)
 ·replace h := bif_t h hc
  refine esr ?_
  refine rn 1 1 [(2, iv 3)] hF fun a hF => ?_
  refine wfn rfl ?_
  refine wpIn_ret (ret_then <| fn_ret [.tmp 2] [iv 3] hF rfl ⟨rfl, trivial⟩ ?_)
  have hr_ := Option.some.inj h
  subst hr_
  exact ⟨rfl, hS.ext⟩
 ·replace h := bif_f h hc
  refine wpIn_skip (norm_then ?_)
  refine esr ?_
  refine rn 1 1 [(2, iv 0)] hF fun a hF => ?_
  refine wfn rfl ?_
  refine wpIn_ret (fn_ret [.tmp 2] [iv 0] hF rfl ⟨rfl, trivial⟩ ?_)
  have hr_ := Option.some.inj h
  subst hr_
  exact ⟨rfl, hS.ext⟩

theorem pulse_Train_time_ok (F : Nat) (p0 : pulse_Train) (p1 : Int) (res : (Int × Int)) (h : pulse_Train_time F p0 p1 = some res) (μ : Frz) (w0 : World) (hm : FrzAt μ w0) : Calls Try.prog 97 #[p0.ag, iv p1] w0 (fun e w => e = .returned (.tuple #[iv res.1, iv res.2]) ∧ Ext w0 w) := by
 obtain ⟨hlow, hS⟩ := hm.init
 have hext := Frz.ext_refl w0.heap.size μ
 rw [pulse_Train_time] at h
 refine fn_enterW Try.func97 rfl 30 [(0, p0.ag), (1, iv p1)] rfl rfl (by kernel_rfl) fun a w hw hF => ?_
 replace hS : St w0 [fz w0 μ] w := by rw [hw]; exact hS
 clear hw
 refine esr ?_
 refine SK.wi (boxK (t := 33) (fun b1 => [(1, iv p1), (2, pb b1)]) (p0.ag) p0.ar hF hS (by kernel_rfl) ⟨by kernel_rfl⟩ (by kernel_rfl) (fun _ => ⟨by kernel_rfl⟩) fun b1 w a hF hS => ?_)
 refine rn 2 3 [(1, iv p1), (2, pb b1)] hF fun a hF => ?_
 refine wfn rfl ?_
 refine eseq ?_
 refine esr ?_
 replace h := bindS h
 obtain ⟨y2, hy2, h⟩ := h
 refine rx 3 [.run [] (Instr.loadAt 33 (pb b1)) (p0.ag), .call [] 50 #[p0.ag] (iv y2)] 3 [(1, iv p1), (2, pb b1), (6, iv y2)] hF (ocons (obN (us := p0.cells) (by kernel_rfl) (fun _ hd => ((hS.later hd).blk (i := 0) rfl).cells rfl)) (ocons (show Ob.ok _ Ext _ _ from fun hk w2 hd => pulse_CheckTrain_ok F p0 _ ((fun _ => hy2) hk) _ w2 (memOf_at w2) ) onil)) fun a w hF hx => ?_
 replace hS := hS.later hx
 refine wfn rfl ?_
 refine esr ?_
 refine rn 2 2 [(1, iv p1), (2, pb b1), (6, iv y2), (11, .bool (y2 != 0))] hF fun a hF => ?_
 refine wfn rfl ?_
 refine econd hF rfl (fun hc => ?_) (fun hc => ?_)
 ·replace h := bif_t h hc
  refine esr ?_
  refine rn 3 3 [(4, iv 0), (5, iv y2)] hF fun a hF => ?_
  refine wfn rfl ?_
  refine wpIn_ret (ret_then <| fn_ret [.tmp 4, .tmp 5] [iv 0, iv y2] hF rfl ⟨rfl, rfl, trivial⟩ ?_)
  have hr_ := Option.some.inj h
  subst hr_
  exact ⟨rfl, hS.ext⟩
 ·replace h := bif_f h hc
  refine wpIn_skip (norm_then ?_)
  refine esr ?_
  refine rno 5 [.run [] (Instr.loadAt 3 (.pointer (some ⟨b1, 2, none⟩))) (iv p0.First), .run [] (Instr.loadAt 3 (.pointer (some ⟨b1, 3, none⟩))) (iv p0.Second)] 5 [(1, iv p1), (17, .agg #[iv p0.First, iv p0.Second])] hF (ocons (ob1 (by kernel_rfl) (fun _ hd => (hS.at_ hd).cell (i := 0) (j := 2) rfl rfl)) (ocons (ob1 (by kernel_rfl) (fun _ hd => (hS.at_ hd).cell (i := 0) (j := 3) rfl rfl)) onil)) fun a hF => ?_
  refine SK.wi (allocK (t := 77) (fun b3 => [(1, iv p1), (7, pb b3), (17, .agg #[iv p0.First, iv p0.Second])]) #[iv 0, iv 0] hF hS (by kernel_rfl) ⟨by kernel_rfl⟩ (by kernel_rfl) (fun _ => ⟨by kernel_rfl⟩) fun b3 w a hF hS => ?_)
  refine SK.wi (storeK (t := 77) [(1, iv p1), (7, pb b3)] 0 0 (.agg #[iv p0.First, iv p0.Second]) #[iv p0.First, iv p0.Second] hF hS rfl (by kernel_rfl) ⟨by kernel_rfl⟩ (by kernel_rfl) (by kernel_rfl) (by kernel_rfl) (by kernel_rfl) ⟨by kernel_rfl⟩ fun w a hF hS => ?_)
  refine wfn rfl ?_
  refine eseq ?_
  refine eseq ?_
  rcases Bool.eq_false_or_eq_true ((!(pulse_within p1 0 1))) with hg4 | hg4
  ·replace h := bif_t h hg4
   refine WI.region ?_
   refine rx 9 [.call [] 88 #[iv p1, iv 0, iv 1] (.bool (pulse_within p1 0 1)), .run [⟨21, false, (!(pulse_within p1 0 1))⟩] (Instr.indexAt 77 (pb b3) (iv p1)) (pb 0), .run [⟨21, false, (!(pulse_within p1 0 1))⟩] (Instr.loadAt 3 (pb 0)) (iv 0)] 9 [(1, iv p1), (7, pb b3), (26, .bool (bif (!(pulse_within p1 0 1)) then true else (0 == 0)))] hF (ocons (show Ob.ok _ Ext _ _ from fun hk w2 hd => pulse_within_ok p1 0 1 _ rfl _ w2 (memOf_at w2) ) (ocons (obNo (conds_no (i := 0) (c := ⟨21, false, (!(pulse_within p1 0 1))⟩) rfl (show ((!(pulse_within p1 0 1)) == false) = false by rw [hg4]; rfl))) (ocons (obNo (conds_no (i := 0) (c := ⟨21, false, (!(pulse_within p1 0 1))⟩) rfl (show ((!(pulse_within p1 0 1)) == false) = false by rw [hg4]; rfl))) onil))) fun a w hF hx => ?_
   replace hS := hS.later hx
   refine wfn rfl ?_
   refine econd hF rfl (fun hc => ?_) (fun hc => ?_)
   ·replace h := bif_t h hc
    refine esr ?_
    refine rn 2 2 [(4, iv 0), (5, iv 2)] hF fun a hF => ?_
    refine wfn rfl ?_
    refine wpIn_ret (ret_then <| fn_ret [.tmp 4, .tmp 5] [iv 0, iv 2] hF rfl ⟨rfl, rfl, trivial⟩ ?_)
    have hr_ := Option.some.inj h
    subst hr_
    exact ⟨rfl, hS.ext⟩
   ·replace h := bif_f h hc
    refine wpIn_skip (norm_then ?_)
    refine eseq ?_
    rcases Bool.eq_false_or_eq_true ((p1 == 0)) with hg5 | hg5
    ·replace h := bif_t h hg5
     refine WI.region ?_
     refine rno 5 [.run [] (Instr.indexAt 77 (pb b3) (iv p1)) (pb b3), .run [] (Instr.loadAt 3 (pb b3)) (iv p0.First)] 5 [(4, iv p0.First), (5, iv 0)] hF (ocons (by rw [show p1 = (0 : Int) from eq_of_beq hg5]; exact obPureSem (by kernel_rfl)) (ocons (ob1 (by kernel_rfl) (fun _ hd => (hS.at_ hd).cell (i := 0) (j := 0) rfl rfl)) onil)) fun a hF => ?_
     refine wfn rfl ?_
     refine wpIn_ret (fn_ret [.tmp 4, .tmp 5] [iv p0.First, iv 0] hF rfl ⟨rfl, rfl, trivial⟩ ?_)
     have hr_ := Option.some.inj h
     subst hr_
     exact ⟨rfl, hS.ext⟩
    ·replace h := bif_f h hg5
     rcases Bool.eq_false_or_eq_true ((p1 == 1)) with hg6 | hg6
     ·replace h := bif_t h hg6
      refine WI.region ?_
      refine rno 5 [.run [] (Instr.indexAt 77 (pb b3) (iv p1)) (.pointer (some ⟨b3, 1, none⟩)), .run [] (Instr.loadAt 3 (.pointer (some ⟨b3, 1, none⟩))) (iv p0.Second)] 5 [(4, iv p0.Second), (5, iv 0)] hF (ocons (by rw [show p1 = (1 : Int) from eq_of_beq hg6]; exact obPureSem (by kernel_rfl)) (ocons (ob1 (by kernel_rfl) (fun _ hd => (hS.at_ hd).cell (i := 0) (j := 1) rfl rfl)) onil)) fun a hF => ?_
      refine wfn rfl ?_
      refine wpIn_ret (fn_ret [.tmp 4, .tmp 5] [iv p0.Second, iv 0] hF rfl ⟨rfl, rfl, trivial⟩ ?_)
      have hr_ := Option.some.inj h
      subst hr_
      exact ⟨rfl, hS.ext⟩
     ·replace h := bif_f h hg6
      cases h
  ·replace h := bif_f h hg4
   rcases Bool.eq_false_or_eq_true ((p1 == 0)) with hg7 | hg7
   ·replace h := bif_t h hg7
    refine WI.region ?_
    refine rx 9 [.call [] 88 #[iv p1, iv 0, iv 1] (.bool (pulse_within p1 0 1)), .run [⟨21, false, (!(pulse_within p1 0 1))⟩] (Instr.indexAt 77 (pb b3) (iv p1)) (pb b3), .run [⟨21, false, (!(pulse_within p1 0 1))⟩] (Instr.loadAt 3 (pb b3)) (iv p0.First)] 9 [(1, iv p1), (7, pb b3), (26, .bool (bif (!(pulse_within p1 0 1)) then true else (p0.First == 0)))] hF (ocons (show Ob.ok _ Ext _ _ from fun hk w2 hd => pulse_within_ok p1 0 1 _ rfl _ w2 (memOf_at w2) ) (ocons (by rw [show p1 = (0 : Int) from eq_of_beq hg7]; exact obPureSem (by kernel_rfl)) (ocons (ob1 (by kernel_rfl) (fun _ hd => (hS.later hd).cell (i := 0) (j := 0) rfl rfl)) onil))) fun a w hF hx => ?_
    replace hS := hS.later hx
    refine wfn rfl ?_
    refine econd hF rfl (fun hc => ?_) (fun hc => ?_)
    ·replace h := bif_t h hc
     refine esr ?_
     refine rn 2 2 [(4, iv 0), (5, iv 2)] hF fun a hF => ?_
     refine wfn rfl ?_
     refine wpIn_ret (ret_then <| fn_ret [.tmp 4, .tmp 5] [iv 0, iv 2] hF rfl ⟨rfl, rfl, trivial⟩ ?_)
     have hr_ := Option.some.inj h
     subst hr_
     exact ⟨rfl, hS.ext⟩
    ·replace h := bif_f h hc
     refine wpIn_skip (norm_then ?_)
     refine esr ?_
     refine rno 5 [.run [] (Instr.indexAt 77 (pb b3) (iv p1)) (pb b3), .run [] (Instr.loadAt 3 (pb b3)) (iv p0.First)] 5 [(4, iv p0.First), (5, iv 0)] hF (ocons (by rw [show p1 = (0 : Int) from eq_of_beq hg7]; exact obPureSem (by kernel_rfl)) (ocons (ob1 (by kernel_rfl) (fun _ hd => (hS.at_ hd).cell (i := 0) (j := 0) rfl rfl)) onil)) fun a hF => ?_
     refine wfn rfl ?_
     refine wpIn_ret (fn_ret [.tmp 4, .tmp 5] [iv p0.First, iv 0] hF rfl ⟨rfl, rfl, trivial⟩ ?_)
     have hr_ := Option.some.inj h
     subst hr_
     exact ⟨rfl, hS.ext⟩
   ·replace h := bif_f h hg7
    rcases Bool.eq_false_or_eq_true ((p1 == 1)) with hg8 | hg8
    ·replace h := bif_t h hg8
     refine WI.region ?_
     refine rx 9 [.call [] 88 #[iv p1, iv 0, iv 1] (.bool (pulse_within p1 0 1)), .run [⟨21, false, (!(pulse_within p1 0 1))⟩] (Instr.indexAt 77 (pb b3) (iv p1)) (.pointer (some ⟨b3, 1, none⟩)), .run [⟨21, false, (!(pulse_within p1 0 1))⟩] (Instr.loadAt 3 (.pointer (some ⟨b3, 1, none⟩))) (iv p0.Second)] 9 [(1, iv p1), (7, pb b3), (26, .bool (bif (!(pulse_within p1 0 1)) then true else (p0.Second == 0)))] hF (ocons (show Ob.ok _ Ext _ _ from fun hk w2 hd => pulse_within_ok p1 0 1 _ rfl _ w2 (memOf_at w2) ) (ocons (by rw [show p1 = (1 : Int) from eq_of_beq hg8]; exact obPureSem (by kernel_rfl)) (ocons (ob1 (by kernel_rfl) (fun _ hd => (hS.later hd).cell (i := 0) (j := 1) rfl rfl)) onil))) fun a w hF hx => ?_
     replace hS := hS.later hx
     refine wfn rfl ?_
     refine econd hF rfl (fun hc => ?_) (fun hc => ?_)
     ·replace h := bif_t h hc
      refine esr ?_
      refine rn 2 2 [(4, iv 0), (5, iv 2)] hF fun a hF => ?_
      refine wfn rfl ?_
      refine wpIn_ret (ret_then <| fn_ret [.tmp 4, .tmp 5] [iv 0, iv 2] hF rfl ⟨rfl, rfl, trivial⟩ ?_)
      have hr_ := Option.some.inj h
      subst hr_
      exact ⟨rfl, hS.ext⟩
     ·replace h := bif_f h hc
      refine wpIn_skip (norm_then ?_)
      refine esr ?_
      refine rno 5 [.run [] (Instr.indexAt 77 (pb b3) (iv p1)) (.pointer (some ⟨b3, 1, none⟩)), .run [] (Instr.loadAt 3 (.pointer (some ⟨b3, 1, none⟩))) (iv p0.Second)] 5 [(4, iv p0.Second), (5, iv 0)] hF (ocons (by rw [show p1 = (1 : Int) from eq_of_beq hg8]; exact obPureSem (by kernel_rfl)) (ocons (ob1 (by kernel_rfl) (fun _ hd => (hS.at_ hd).cell (i := 0) (j := 1) rfl rfl)) onil)) fun a hF => ?_
      refine wfn rfl ?_
      refine wpIn_ret (fn_ret [.tmp 4, .tmp 5] [iv p0.Second, iv 0] hF rfl ⟨rfl, rfl, trivial⟩ ?_)
      have hr_ := Option.some.inj h
      subst hr_
      exact ⟨rfl, hS.ext⟩
    ·replace h := bif_f h hg8
     cases h

theorem pulse_Speed_1_at141_ok (F : Nat) (p0 : Int) (c0_ : pulse_Train) (c1_ : Int) (c2_ : Int) (res : Int) (h : pulse_Speed_1_at141 F p0 c0_ c1_ c2_ = some res) (μ : Frz) (w0 : World) (hm : FrzAt μ w0) {cb2 : Nat} {cb3 : Nat} {cb4 : Nat} (hcb2 : BlkM μ cb2 33 c0_.ar) (hcb3 : BlkM μ cb3 3 #[iv c1_]) (hcb4 : BlkM μ cb4 3 #[iv c2_]) : Calls Try.prog 140 #[iv p0, .func (.func 141) #[] #[], pb cb2, pb cb3, pb cb4] w0 (fun e w => e = .returned (iv res) ∧ Ext w0 w) := by
 obtain ⟨hlow, hS⟩ := hm.init
 have hext := Frz.ext_refl w0.heap.size μ
 rw [pulse_Speed_1_at141] at h
 refine fn_enterW Try.func140 rfl 20 [(0, iv p0), (1, .func (.func 141) #[] #[]), (2, pb cb2), (3, pb cb3), (4, pb cb4)] rfl rfl (by kernel_rfl) fun a w hw hF => ?_
 replace hS : St w0 [fz w0 μ] w := by rw [hw]; exact hS
 clear hw
 refine esr ?_
 refine rn 1 1 [(0, iv p0), (1, .func (.func 141) #[] #[]), (2, pb cb2), (3, pb cb3), (4, pb cb4)] hF fun a hF => ?_
 refine wfn rfl ?_
 refine esr ?_
 replace h := bindS h
 obtain ⟨x1, hx1, h⟩ := h
 replace h := bindS h
 obtain ⟨x2, hx2, h⟩ := h
 replace h := bindS h
 obtain ⟨x3, hx3, h⟩ := h
 replace h := bindS h
 obtain ⟨x4, hx4, h⟩ := h
 replace h := bindS h
 obtain ⟨x5, hx5, h⟩ := h
 refine rno 11 [.run [] (Instr.loadAt 3 (pb cb2)) (iv c0_.Lambda), .run [] (binOp .mul 3 (iv 500) (iv c0_.Lambda)) (iv x1), .run [] (Instr.loadAt 3 (pb cb3)) (iv c1_), .run [] (binOp .mul 3 (iv c1_) (iv 65536)) (iv x2), .run [] (binOp .add 3 (iv p0) (iv x2)) (iv x3), .run [] (binOp .mul 3 (iv x1) (iv x3)) (iv x4), .run [] (Instr.loadAt 3 (pb cb4)) (iv c2_), .run [] (binOp .mul 3 (iv 65536) (iv c2_)) (iv x5)] 11 [(8, .func (.func 141) #[] #[]), (16, iv x4), (18, iv x5)] hF (ocons (ob1 (by kernel_rfl) (fun _ hd => (hcb2.blk ((hS.at_ hd).frz (i := 0) rfl hlow)).cell1 (j := 0) rfl)) (ocons (obMulC (fun _ => hx1)) (ocons (ob1 (by kernel_rfl) (fun _ hd => (hcb3.blk ((hS.at_ hd).frz (i := 0) rfl hlow)).cell1 (j := 0) rfl)) (ocons (obMulC (fun _ => hx2)) (ocons (obAddC (fun _ => hx3)) (ocons (obMulC (fun _ => hx4)) (ocons (ob1 (by kernel_rfl) (fun _ hd => (hcb4.blk ((hS.at_ hd).frz (i := 0) rfl hlow)).cell1 (j := 0) rfl)) (ocons (obMulC (fun _ => hx5)) onil)))))))) fun a hF => ?_
 replace h := bindS h
 obtain ⟨y6, hy6, h⟩ := h
 refine rx 2 [.call [] 141 #[iv x4, iv x5] (iv y6)] 13 [(7, iv y6)] hF (ocons (show Ob.ok _ Ext _ _ from fun hk w2 hd => pulse_down_ok F x4 x5 _ ((fun _ => hy6) hk) _ w2 (memOf_at w2) ) onil) fun a w hF hx => ?_
 replace hS := hS.later hx
 refine wfn rfl ?_
 refine wpIn_ret (fn_ret [.tmp 7] [iv y6] hF rfl ⟨rfl, trivial⟩ ?_)
 have hr_ := Option.some.inj h
 subst hr_
 exact ⟨rfl, hS.ext⟩

theorem pulse_Speed_1_at142_ok (F : Nat) (p0 : Int) (c0_ : pulse_Train) (c1_ : Int) (c2_ : Int) (res : Int) (h : pulse_Speed_1_at142 F p0 c0_ c1_ c2_ = some res) (μ : Frz) (w0 : World) (hm : FrzAt μ w0) {cb2 : Nat} {cb3 : Nat} {cb4 : Nat} (hcb2 : BlkM μ cb2 33 c0_.ar) (hcb3 : BlkM μ cb3 3 #[iv c1_]) (hcb4 : BlkM μ cb4 3 #[iv c2_]) : Calls Try.prog 140 #[iv p0, .func (.func 142) #[] #[], pb cb2, pb cb3, pb cb4] w0 (fun e w => e = .returned (iv res) ∧ Ext w0 w) := by
 obtain ⟨hlow, hS⟩ := hm.init
 have hext := Frz.ext_refl w0.heap.size μ
 rw [pulse_Speed_1_at142] at h
 refine fn_enterW Try.func140 rfl 20 [(0, iv p0), (1, .func (.func 142) #[] #[]), (2, pb cb2), (3, pb cb3), (4, pb cb4)] rfl rfl (by kernel_rfl) fun a w hw hF => ?_
 replace hS : St w0 [fz w0 μ] w := by rw [hw]; exact hS
 clear hw
 refine esr ?_
 refine rn 1 1 [(0, iv p0), (1, .func (.func 142) #[] #[]), (2, pb cb2), (3, pb cb3), (4, pb cb4)] hF fun a hF => ?_
 refine wfn rfl ?_
 refine esr ?_
 replace h := bindS h
 obtain ⟨x1, hx1, h⟩ := h
 replace h := bindS h
 obtain ⟨x2, hx2, h⟩ := h
 replace h := bindS h
 obtain ⟨x3, hx3, h⟩ := h
 replace h := bindS h
 obtain ⟨x4, hx4, h⟩ := h
 replace h := bindS h
 obtain ⟨x5, hx5, h⟩ := h
 refine rno 11 [.run [] (Instr.loadAt 3 (pb cb2)) (iv c0_.Lambda), .run [] (binOp .mul 3 (iv 500) (iv c0_.Lambda)) (iv x1), .run [] (Instr.loadAt 3 (pb cb3)) (iv c1_), .run [] (binOp .mul 3 (iv c1_) (iv 65536)) (iv x2), .run [] (binOp .add 3 (iv p0) (iv x2)) (iv x3), .run [] (binOp .mul 3 (iv x1) (iv x3)) (iv x4), .run [] (Instr.loadAt 3 (pb cb4)) (iv c2_), .run [] (binOp .mul 3 (iv 65536) (iv c2_)) (iv x5)] 11 [(8, .func (.func 142) #[] #[]), (16, iv x4), (18, iv x5)] hF (ocons (ob1 (by kernel_rfl) (fun _ hd => (hcb2.blk ((hS.at_ hd).frz (i := 0) rfl hlow)).cell1 (j := 0) rfl)) (ocons (obMulC (fun _ => hx1)) (ocons (ob1 (by kernel_rfl) (fun _ hd => (hcb3.blk ((hS.at_ hd).frz (i := 0) rfl hlow)).cell1 (j := 0) rfl)) (ocons (obMulC (fun _ => hx2)) (ocons (obAddC (fun _ => hx3)) (ocons (obMulC (fun _ => hx4)) (ocons (ob1 (by kernel_rfl) (fun _ hd => (hcb4.blk ((hS.at_ hd).frz (i := 0) rfl hlow)).cell1 (j := 0) rfl)) (ocons (obMulC (fun _ => hx5)) onil)))))))) fun a hF => ?_
 replace h := bindS h
 obtain ⟨y6, hy6, h⟩ := h
 refine rx 2 [.call [] 142 #[iv x4, iv x5] (iv y6)] 13 [(7, iv y6)] hF (ocons (show Ob.ok _ Ext _ _ from fun hk w2 hd => pulse_up_ok F x4 x5 _ ((fun _ => hy6) hk) _ w2 (memOf_at w2) ) onil) fun a w hF hx => ?_
 replace hS := hS.later hx
 refine wfn rfl ?_
 refine wpIn_ret (fn_ret [.tmp 7] [iv y6] hF rfl ⟨rfl, trivial⟩ ?_)
 have hr_ := Option.some.inj h
 subst hr_
 exact ⟨rfl, hS.ext⟩

theorem pulse_Speed_ok (F : Nat) (p0 : pulse_Train) (p1 : Int) (p2 : api_Span) (p3 : Int) (res : (api_Span × Int)) (h : pulse_Speed F p0 p1 p2 p3 = some res) (μ : Frz) (w0 : World) (hm : FrzAt μ w0) : Calls Try.prog 125 #[p0.ag, iv p1, .agg #[iv p2.Lo, iv p2.Hi], iv p3] w0 (fun e w => e = .returned (.tuple #[.agg #[iv res.1.Lo, iv res.1.Hi], iv res.2]) ∧ Ext w0 w) := by
 obtain ⟨hlow, hS⟩ := hm.init
 have hext := Frz.ext_refl w0.heap.size μ
 rw [pulse_Speed] at h
 refine fn_enterW Try.func125 rfl 44 [(0, p0.ag), (1, iv p1), (2, .agg #[iv p2.Lo, iv p2.Hi]), (3, iv p3)] rfl rfl (by kernel_rfl) fun a w hw hF => ?_
 replace hS : St w0 [fz w0 μ] w := by rw [hw]; exact hS
 clear hw
 refine esr ?_
 refine SK.wi (boxK (t := 33) (fun b1 => [(1, iv p1), (2, .agg #[iv p2.Lo, iv p2.Hi]), (3, iv p3), (4, pb b1)]) (p0.ag) p0.ar hF hS (by kernel_rfl) ⟨by kernel_rfl⟩ (by kernel_rfl) (fun _ => ⟨by kernel_rfl⟩) fun b1 w a hF hS => ?_)
 refine SK.wi (boxK (t := 25) (fun b2 => [(1, iv p1), (3, iv p3), (4, pb b1), (6, pb b2)]) (.agg #[iv p2.Lo, iv p2.Hi]) #[iv p2.Lo, iv p2.Hi] hF hS (by kernel_rfl) ⟨by kernel_rfl⟩ (by kernel_rfl) (fun _ => ⟨by kernel_rfl⟩) fun b2 w a hF hS => ?_)
 refine SK.wi (boxK (t := 3) (fun b3 => [(1, iv p1), (4, pb b1), (6, pb b2), (7, pb b3)]) (iv p3) #[iv p3] hF hS (by kernel_rfl) ⟨by kernel_rfl⟩ (by kernel_rfl) (fun _ => ⟨by kernel_rfl⟩) fun b3 w a hF hS => ?_)
 refine SK.wi (allocK (t := 25) (fun b4 => [(1, iv p1), (4, pb b1), (6, pb b2), (7, pb b3), (8, pb b4)]) #[iv 0, iv 0] hF hS (by kernel_rfl) ⟨by kernel_rfl⟩ (by kernel_rfl) (fun _ => ⟨by kernel_rfl⟩) fun b4 w a hF hS => ?_)
 refine rn 1 5 [(1, iv p1), (4, pb b1), (6, pb b2), (7, pb b3), (8, pb b4)] hF fun a hF => ?_
 refine wfn rfl ?_
 refine esr ?_
 replace h := bindS h
 obtain ⟨y5, hy5, h⟩ := h
 refine rx 6 [.run [] (Instr.loadAt 33 (pb b1)) (p0.ag), .call [] 97 #[p0.ag, iv p1] (.tuple #[iv y5.1, iv y5.2])] 6 [(4, pb b1), (6, pb b2), (7, pb b3), (8, pb b4), (17, iv y5.1), (18, iv y5.2)] hF (ocons (obN (us := p0.cells) (by kernel_rfl) (fun _ hd => ((hS.later hd).blk (i := 3) rfl).cells rfl)) (ocons (show Ob.ok _ Ext _ _ from fun hk w2 hd => pulse_Train_time_ok F p0 p1 _ ((fun _ => hy5) hk) _ w2 (memOf_at w2) ) onil)) fun a w hF hx => ?_
 replace hS := hS.later hx
 refine SK.wi (allocK (t := 3) (fun b6 => [(4, pb b1), (6, pb b2), (7, pb b3), (8, pb b4), (10, pb b6), (17, iv y5.1), (18, iv y5.2)]) #[iv 0] hF hS (by kernel_rfl) ⟨by kernel_rfl⟩ (by kernel_rfl) (fun _ => ⟨by kernel_rfl⟩) fun b6 w a hF hS => ?_)
 refine SK.wi (storeK (t := 3) [(4, pb b1), (6, pb b2), (7, pb b3), (8, pb b4), (10, pb b6), (18, iv y5.2)] 0 0 (iv y5.1) #[iv y5.1] hF hS rfl (by kernel_rfl) ⟨by kernel_rfl⟩ (by kernel_rfl) (by kernel_rfl) (by kernel_rfl) (by kernel_rfl) ⟨by kernel_rfl⟩ fun w a hF hS => ?_)
 refine rn 1 9 [(4, pb b1), (6, pb b2), (7, pb b3), (8, pb b4), (10, pb b6), (11, iv y5.2)] hF fun a hF => ?_
 refine wfn rfl ?_
 refine eseq ?_
 refine wpIn_block ?_
 refine esr ?_
 refine rn 3 3 [(4, pb b1), (6, pb b2), (7, pb b3), (8, pb b4), (10, pb b6), (11, iv y5.2), (19, .bool (y5.2 != 0))] hF fun a hF => ?_
 refine wfn rfl ?_
 refine econd hF rfl (fun hc => ?_) (fun hc => ?_)
 ·replace h := bif_t h hc
  refine esr ?_
  refine rn 2 2 [(8, pb b4), (22, .agg #[iv 0, iv 0]), (23, iv y5.2)] hF fun a hF => ?_
  refine SK.wi (storeK (t := 25) [(8, pb b4), (23, iv y5.2)] 1 0 (.agg #[iv 0, iv 0]) #[iv 0, iv 0] hF hS rfl (by kernel_rfl) ⟨by kernel_rfl⟩ (by kernel_rfl) (by kernel_rfl) (by kernel_rfl) (by kernel_rfl) ⟨by kernel_rfl⟩ fun w a hF hS => ?_)
  refine rn 1 4 [(8, pb b4), (9, iv y5.2)] hF fun a hF => ?_
  refine wfn rfl ?_
  refine wpIn_ret (ret_block <| ret_then <| fn_ret [.cell 8 25, .tmp 9] [.agg #[iv 0, iv 0], iv y5.2] hF rfl ⟨⟨_, rfl, loadVarN (cs := [iv 0, iv 0]) (by kernel_rfl) ((hS.blk (i := 1) rfl).cells rfl)⟩, rfl, trivial⟩ ?_)
  have hr_ := Option.some.inj h
  subst hr_
  exact ⟨rfl, hS.ext⟩
 ·replace h := bif_f h hc
  refine esr ?_
  refine rx 9 [.run [] (Instr.loadAt 25 (pb b2)) (.agg #[iv p2.Lo, iv p2.Hi]), .call [] 89 #[.agg #[iv p2.Lo, iv p2.Hi], iv (-131072), iv 131072] (.bool (pulse_inside p2 (-131072) 131072)), .run [⟨28, false, (!(pulse_inside p2 (-131072) 131072))⟩] (Instr.loadAt 3 (pb b3)) (iv p3), .call [⟨28, false, (!(pulse_inside p2 (-131072) 131072))⟩] 88 #[iv p3, iv (-64), iv 64] (.bool (pulse_within p3 (-64) 64))] 9 [(4, pb b1), (6, pb b2), (7, pb b3), (8, pb b4), (10, pb b6), (24, .bool (bif (!(pulse_inside p2 (-131072) 131072)) then true else (!(pulse_within p3 (-64) 64))))] hF (ocons (obN (us := [iv p2.Lo, iv p2.Hi]) (by kernel_rfl) (fun _ hd => ((hS.later hd).blk (i := 3) rfl).cells rfl)) (ocons (show Ob.ok _ Ext _ _ from fun hk w2 hd => pulse_inside_ok p2 (-131072) 131072 _ rfl _ w2 (memOf_at w2) ) (ocons (ob1 (by kernel_rfl) (fun _ hd => (hS.later hd).cell (i := 2) (j := 0) rfl rfl)) (ocons (show Ob.ok _ Ext _ _ from fun hk w2 hd => pulse_within_ok p3 (-64) 64 _ rfl _ w2 (memOf_at w2) ) onil)))) fun a w hF hx => ?_
  replace hS := hS.later hx
  refine wfn rfl ?_
  refine econd hF rfl (fun hc => ?_) (fun hc => ?_)
  ·replace h := bif_t h hc
   refine esr ?_
   refine rn 1 1 [(8, pb b4), (33, .agg #[iv 0, iv 0])] hF fun a hF => ?_
   refine SK.wi (storeK (t := 25) [(8, pb b4)] 1 0 (.agg #[iv 0, iv 0]) #[iv 0, iv 0] hF hS rfl (by kernel_rfl) ⟨by kernel_rfl⟩ (by kernel_rfl) (by kernel_rfl) (by kernel_rfl) (by kernel_rfl) ⟨by kernel_rfl⟩ fun w a hF hS => ?_)
   refine rn 1 3 [(8, pb b4), (9, iv 3)] hF fun a hF => ?_
   refine wfn rfl ?_
   refine wpIn_ret (ret_block <| ret_then <| fn_ret [.cell 8 25, .tmp 9] [.agg #[iv 0, iv 0], iv 3] hF rfl ⟨⟨_, rfl, loadVarN (cs := [iv 0, iv 0]) (by kernel_rfl) ((hS.blk (i := 1) rfl).cells rfl)⟩, rfl, trivial⟩ ?_)
   have hr_ := Option.some.inj h
   subst hr_
   exact ⟨rfl, hS.ext⟩
  ·replace h := bif_f h hc
   refine wpIn_skip (norm_block <| norm_then <| ?_)
   refine esr ?_
   refine rn 2 2 [(6, pb b2), (8, pb b4), (12, .func (.func 140) #[] #[pb b1, pb b3, pb b6])] hF fun a hF => ?_
   refine wfn rfl ?_
   refine eseq ?_
   replace h := bindS h
   obtain ⟨y8, hy8, h⟩ := h
   refine region_treeW 7 [3] _ (D := fun w => St w0 [blk b6 3 #[iv y5.1], blk b4 25 #[iv 0, iv 0], blk b3 3 #[iv p3], blk b2 25 #[iv p2.Lo, iv p2.Hi], blk b1 33 p0.ar] w ∧ FrzAt μ w) (by kernel_rfl) (by kernel_rfl) hF.size (fun w hx => ?_) (fun _ _ h => h)
   replace hS := hS.later hx
   refine ⟨⟨St.pick [0, 1, 2, 3, 4] (by decide) hS, hS.frz (i := 5) rfl hlow⟩, ?_⟩
   have hcl10 := Frz.le_refl μ
   refine WT.s [0, 1, 2, 4, 5, 6] [3] (by kernel_rfl) (by kernel_rfl) ?_
   refine runC (rest := []) (obs := [.run [] (Instr.loadAt 3 (pb b2)) (iv p2.Lo), .run [] (Instr.loadAt 3 (.pointer (some ⟨b2, 1, none⟩))) (iv p2.Hi)]) [0, 1, 2, 4, 5, 6] [(8, pb b4), (35, .func (.func 140) #[] #[pb b1, pb b3, pb b6]), (37, iv p2.Lo), (39, .func (.func 140) #[] #[pb b1, pb b3, pb b6]), (41, iv p2.Hi)] hF (by kernel_rfl) (by kernel_rfl) (ocons (ob1 (by kernel_rfl) (fun _ hd => hd.1.cell (i := 3) (j := 0) rfl rfl)) (ocons (ob1 (by kernel_rfl) (fun _ hd => hd.1.cell (i := 3) (j := 1) rfl rfl)) onil)) ⟨by kernel_rfl⟩ fun a hF => ?_
   refine WRun.fin ?_
   refine all_cons ?_ (all_nil)
   refine callK (f := 140) (args := #[iv p2.Lo, .func (.func 141) #[] #[], pb b1, pb b3, pb b6]) (R := fun v w2 => v = iv y8 ∧ Ext w w2) (fun v11 => [(8, pb b4), (38, v11), (39, .func (.func 140) #[] #[pb b1, pb b3, pb b6]), (41, iv p2.Hi)]) hF (by kernel_rfl) ⟨by kernel_rfl⟩ (Calls.mono (pulse_Speed_1_at141_ok F p2.Lo p0 p3 y5.1 _ hy8 (memOf w) w (memOf_at w) (Blk.toM (hS.blk (i := 4) rfl)) (Blk.toM (hS.blk (i := 2) rfl)) (Blk.toM (hS.blk (i := 0) rfl))) (fun e w2 h => ⟨_, h.1, rfl, h.2⟩)) (fun _ => ⟨by kernel_rfl⟩) ?_
   rintro v11 w a ⟨rfl, hx⟩ hF
   replace hS := hS.later hx
   refine ⟨⟨St.pick [0, 1, 2, 3, 4] (by decide) hS, (hS.frz (i := 5) rfl hlow)⟩, ?_⟩
   refine WT.z [] (by kernel_rfl) ?_
   refine WRun.fin ?_
   replace h := bindS h
   obtain ⟨y12, hy12, h⟩ := h
   refine rx 2 [.call [] 140 #[iv p2.Hi, .func (.func 142) #[] #[], pb b1, pb b3, pb b6] (iv y12)] 9 [(8, pb b4), (43, .agg #[iv y8, iv y12])] hF (ocons (show Ob.ok _ Ext _ _ from fun hk w2 hd => pulse_Speed_1_at142_ok F p2.Hi p0 p3 y5.1 _ ((fun _ => hy12) hk) _ w2 (memOf_at w2) (Blk.toM ((hS.later hd).blk (i := 4) rfl)) (Blk.toM ((hS.later hd).blk (i := 2) rfl)) (Blk.toM ((hS.later hd).blk (i := 0) rfl))) onil) fun a w hF hx => ?_
   replace hS := hS.later hx
   refine SK.wi (storeK (t := 25) [(8, pb b4)] 1 0 (.agg #[iv y8, iv y12]) #[iv y8, iv y12] hF hS rfl (by kernel_rfl) ⟨by kernel_rfl⟩ (by kernel_rfl) (by kernel_rfl) (by kernel_rfl) (by kernel_rfl) ⟨by kernel_rfl⟩ fun w a hF hS => ?_)
   refine rn 1 11 [(8, pb b4), (9, iv 0)] hF fun a hF => ?_
   refine wfn rfl ?_
   refine wpIn_ret (fn_ret [.cell 8 25, .tmp 9] [.agg #[iv y8, iv y12], iv 0] hF rfl ⟨⟨_, rfl, loadVarN (cs := [iv y8, iv y12]) (by kernel_rfl) ((hS.blk (i := 1) rfl).cells rfl)⟩, rfl, trivial⟩ ?_)
   have hr_ := Option.some.inj h
   subst hr_
   exact ⟨rfl, hS.ext⟩
end Go.Proofs.Ytbhjgebjojdohaa
