/- Walks, written by program (wip/gen/dec.py). -/
import Derived.Test.YtbhjgebjojdohaaF5XD
import Derived.Test.YtbhjgebjojdohaaProg
import Derived.Test.YtbhjgebjojdohaaF5XW0
import Derived.Test.YtbhjgebjojdohaaF5WkS
namespace Go.Proofs.Ytbhjgebjojdohaa
open Go Go.RowKit Go.Eng
set_option maxRecDepth 10000
set_option maxHeartbeats 4000000
set_option linter.unusedVariables false
set_option linter.unusedSimpArgs false
theorem fold_common_ok (p0 : api_Span) (p1 : api_Span) (res : (api_Span × Bool)) (h : fold_common p0 p1 = res) (μ : Frz) (w0 : World) (hm : FrzAt μ w0) : Calls Try.prog 92 #[.agg #[iv p0.Lo, iv p0.Hi], .agg #[iv p1.Lo, iv p1.Hi]] w0 (fun e w => e = .returned (.tuple #[.agg #[iv res.1.Lo, iv res.1.Hi], .bool res.2]) ∧ Ext w0 w) := by
 obtain ⟨hlow, hS⟩ := hm.init
 have hext := Frz.ext_refl w0.heap.size μ
 rw [fold_common] at h
 refine fn_enterW Try.func92 rfl 24 [(0, .agg #[iv p0.Lo, iv p0.Hi]), (1, .agg #[iv p1.Lo, iv p1.Hi])] rfl rfl (by kernel_rfl) fun a w hw hF => ?_
 replace hS : St w0 [fz w0 μ] w := by rw [hw]; exact hS
 clear hw
 refine esr ?_
 refine SK.wi (boxK (t := 25) (fun b1 => [(1, .agg #[iv p1.Lo, iv p1.Hi]), (2, pb b1)]) (.agg #[iv p0.Lo, iv p0.Hi]) #[iv p0.Lo, iv p0.Hi] hF hS (by kernel_rfl) ⟨by kernel_rfl⟩ (by kernel_rfl) (fun _ => ⟨by kernel_rfl⟩) fun b1 w a hF hS => ?_)
 refine SK.wi (boxK (t := 25) (fun b2 => [(2, pb b1), (3, pb b2)]) (.agg #[iv p1.Lo, iv p1.Hi]) #[iv p1.Lo, iv p1.Hi] hF hS (by kernel_rfl) ⟨by kernel_rfl⟩ (by kernel_rfl) (fun _ => ⟨by kernel_rfl⟩) fun b2 w a hF hS => ?_)
 refine SK.wi (allocK (t := 25) (fun b3 => [(2, pb b1), (3, pb b2), (4, pb b3)]) #[iv 0, iv 0] hF hS (by kernel_rfl) ⟨by kernel_rfl⟩ (by kernel_rfl) (fun _ => ⟨by kernel_rfl⟩) fun b3 w a hF hS => ?_)
 refine rn 1 4 [(2, pb b1), (3, pb b2), (4, pb b3)] hF fun a hF => ?_
 refine wfn rfl ?_
 refine esr ?_
 refine rno 11 [.run [] (Instr.loadAt 3 (pb b1)) (iv p0.Lo), .run [] (Instr.loadAt 3 (pb b2)) (iv p1.Lo), .run [] (Instr.loadAt 3 (.pointer (some ⟨b1, 1, none⟩))) (iv p0.Hi), .run [] (Instr.loadAt 3 (.pointer (some ⟨b2, 1, none⟩))) (iv p1.Hi)] 11 [(4, pb b3), (17, .agg #[iv (if p1.Lo > p0.Lo then p1.Lo else p0.Lo), iv (if p1.Hi < p0.Hi then p1.Hi else p0.Hi)])] hF (ocons (ob1 (by kernel_rfl) (fun _ hd => (hS.at_ hd).cell (i := 2) (j := 0) rfl rfl)) (ocons (ob1 (by kernel_rfl) (fun _ hd => (hS.at_ hd).cell (i := 1) (j := 0) rfl rfl)) (ocons (ob1 (by kernel_rfl) (fun _ hd => (hS.at_ hd).cell (i := 2) (j := 1) rfl rfl)) (ocons (ob1 (by kernel_rfl) (fun _ hd => (hS.at_ hd).cell (i := 1) (j := 1) rfl rfl)) onil)))) fun a hF => ?_
 refine SK.wi (allocK (t := 25) (fun b4 => [(4, pb b3), (6, pb b4), (17, .agg #[iv (if p1.Lo > p0.Lo then p1.Lo else p0.Lo), iv (if p1.Hi < p0.Hi then p1.Hi else p0.Hi)])]) #[iv 0, iv 0] hF hS (by kernel_rfl) ⟨by kernel_rfl⟩ (by kernel_rfl) (fun _ => ⟨by kernel_rfl⟩) fun b4 w a hF hS => ?_)
 refine SK.wi (storeK (t := 25) [(4, pb b3), (6, pb b4)] 0 0 (.agg #[iv (if p1.Lo > p0.Lo then p1.Lo else p0.Lo), iv (if p1.Hi < p0.Hi then p1.Hi else p0.Hi)]) #[iv (if p1.Lo > p0.Lo then p1.Lo else p0.Lo), iv (if p1.Hi < p0.Hi then p1.Hi else p0.Hi)] hF hS rfl (by kernel_rfl) ⟨by kernel_rfl⟩ (by kernel_rfl) (by kernel_rfl) (by kernel_rfl) (by kernel_rfl) ⟨by kernel_rfl⟩ fun w a hF hS => ?_)
 refine wfn rfl ?_
 refine eseq ?_
 refine region_treeW 8 [6] _ (D := fun w => St w0 [blk b4 25 #[iv (if p1.Lo > p0.Lo then p1.Lo else p0.Lo), iv (if p1.Hi < p0.Hi then p1.Hi else p0.Hi)], blk b2 25 #[iv p1.Lo, iv p1.Hi], blk b1 25 #[iv p0.Lo, iv p0.Hi]] w ∧ FrzAt μ w) (by kernel_rfl) (by kernel_rfl) hF.size (fun w hx => ?_) (fun _ _ h => h)
 replace hS := hS.later hx
 refine ⟨⟨St.pick [0, 2, 3] (by decide) hS, hS.frz (i := 4) rfl hlow⟩, ?_⟩
 have hcl5 := Frz.le_refl μ
 refine WT.s [0, 1, 2, 3, 4, 5] [6] (by kernel_rfl) (by kernel_rfl) ?_
 refine runC (rest := []) (obs := [.run [] (Instr.loadAt 25 (pb b4)) (.agg #[iv (if p1.Lo > p0.Lo then p1.Lo else p0.Lo), iv (if p1.Hi < p0.Hi then p1.Hi else p0.Hi)]), .run [] (Instr.loadAt 3 (pb b4)) (iv (if p1.Lo > p0.Lo then p1.Lo else p0.Lo)), .run [] (Instr.loadAt 3 (.pointer (some ⟨b4, 1, none⟩))) (iv (if p1.Hi < p0.Hi then p1.Hi else p0.Hi))]) [0, 1, 2, 3, 4, 5] [(4, pb b3), (18, .agg #[iv (if p1.Lo > p0.Lo then p1.Lo else p0.Lo), iv (if p1.Hi < p0.Hi then p1.Hi else p0.Hi)]), (23, .bool (decide ((if p1.Lo > p0.Lo then p1.Lo else p0.Lo) ≤ (if p1.Hi < p0.Hi then p1.Hi else p0.Hi))))] hF (by kernel_rfl) (by kernel_rfl) (ocons (obN (us := [iv (if p1.Lo > p0.Lo then p1.Lo else p0.Lo), iv (if p1.Hi < p0.Hi then p1.Hi else p0.Hi)]) (by kernel_rfl) (fun _ hd => (hd.1.blk (i := 0) rfl).cells rfl)) (ocons (ob1 (by kernel_rfl) (fun _ hd => hd.1.cell (i := 0) (j := 0) rfl rfl)) (ocons (ob1 (by kernel_rfl) (fun _ hd => hd.1.cell (i := 0) (j := 1) rfl rfl)) onil))) ⟨by kernel_rfl⟩ fun a hF => ?_
 refine WRun.fin ?_
 refine all_cons ?_ (all_nil)
 refine storeK (t := 25) [(4, pb b3), (23, .bool (decide ((if p1.Lo > p0.Lo then p1.Lo else p0.Lo) ≤ (if p1.Hi < p0.Hi then p1.Hi else p0.Hi))))] 1 0 (.agg #[iv (if p1.Lo > p0.Lo then p1.Lo else p0.Lo), iv (if p1.Hi < p0.Hi then p1.Hi else p0.Hi)]) #[iv (if p1.Lo > p0.Lo then p1.Lo else p0.Lo), iv (if p1.Hi < p0.Hi then p1.Hi else p0.Hi)] hF hS rfl (by kernel_rfl) ⟨by kernel_rfl⟩ (by kernel_rfl) (by kernel_rfl) (by kernel_rfl) (by kernel_rfl) ⟨by kernel_rfl⟩ fun w a hF hS => ⟨⟨St.pick [0, 2, 3] (by decide) hS, (hS.frz (i := 4) rfl hlow)⟩, ?_⟩
 refine WT.z [7] (by kernel_rfl) ?_
 refine runC (rest := []) (obs := []) [7] [(4, pb b3), (5, .bool (decide ((if p1.Lo > p0.Lo then p1.Lo else p0.Lo) ≤ (if p1.Hi < p0.Hi then p1.Hi else p0.Hi))))] hF (by kernel_rfl) (by kernel_rfl) onil ⟨by kernel_rfl⟩ fun a hF => ?_
 refine WRun.fin ?_
 refine wfn rfl ?_
 refine wpIn_ret (fn_ret [.cell 4 25, .tmp 5] [.agg #[iv (if p1.Lo > p0.Lo then p1.Lo else p0.Lo), iv (if p1.Hi < p0.Hi then p1.Hi else p0.Hi)], .bool (decide ((if p1.Lo > p0.Lo then p1.Lo else p0.Lo) ≤ (if p1.Hi < p0.Hi then p1.Hi else p0.Hi)))] hF rfl ⟨⟨_, rfl, loadVarN (cs := [iv (if p1.Lo > p0.Lo then p1.Lo else p0.Lo), iv (if p1.Hi < p0.Hi then p1.Hi else p0.Hi)]) (by kernel_rfl) ((hS.blk (i := 1) rfl).cells rfl)⟩, rfl, trivial⟩ ?_)
 subst h
 exact ⟨rfl, hS.ext⟩

theorem ref01_Valid_ok (p0 : api_Span) (p1 : Int) (p2 : Int) (res : Bool) (h : ref01_Valid p0 p1 p2 = res) (μ : Frz) (w0 : World) (hm : FrzAt μ w0) : Calls Try.prog 94 #[.agg #[iv p0.Lo, iv p0.Hi], iv p1, iv p2] w0 (fun e w => e = .returned (.bool res) ∧ Ext w0 w) := by
 obtain ⟨hlow, hS⟩ := hm.init
 have hext := Frz.ext_refl w0.heap.size μ
 rw [ref01_Valid] at h
 refine fn_enterW Try.func94 rfl 24 [(0, .agg #[iv p0.Lo, iv p0.Hi]), (1, iv p1), (2, iv p2)] rfl rfl (by kernel_rfl) fun a w hw hF => ?_
 replace hS : St w0 [fz w0 μ] w := by rw [hw]; exact hS
 clear hw
 refine esr ?_
 refine SK.wi (boxK (t := 25) (fun b1 => [(1, iv p1), (2, iv p2), (3, pb b1)]) (.agg #[iv p0.Lo, iv p0.Hi]) #[iv p0.Lo, iv p0.Hi] hF hS (by kernel_rfl) ⟨by kernel_rfl⟩ (by kernel_rfl) (fun _ => ⟨by kernel_rfl⟩) fun b1 w a hF hS => ?_)
 refine rn 1 2 [(1, iv p1), (2, iv p2), (3, pb b1)] hF fun a hF => ?_
 refine wfn rfl ?_
 refine esr ?_
 refine rno 18 [.run [] (Instr.loadAt 3 (pb b1)) (iv p0.Lo), .run [] (Instr.loadAt 3 (.pointer (some ⟨b1, 1, none⟩))) (iv p0.Hi), .run [⟨12, true, (decide (p0.Lo ≤ p0.Hi))⟩] (Instr.loadAt 3 (pb b1)) (iv p0.Lo), .run [⟨18, true, (bif (decide (p0.Lo ≤ p0.Hi)) then (decide (p0.Lo ≥ p1)) else false)⟩] (Instr.loadAt 3 (.pointer (some ⟨b1, 1, none⟩))) (iv p0.Hi)] 18 [(6, .bool (bif (bif (decide (p0.Lo ≤ p0.Hi)) then (decide (p0.Lo ≥ p1)) else false) then (decide (p0.Hi ≤ p2)) else false))] hF (ocons (ob1 (by kernel_rfl) (fun _ hd => (hS.at_ hd).cell (i := 0) (j := 0) rfl rfl)) (ocons (ob1 (by kernel_rfl) (fun _ hd => (hS.at_ hd).cell (i := 0) (j := 1) rfl rfl)) (ocons (ob1 (by kernel_rfl) (fun _ hd => (hS.at_ hd).cell (i := 0) (j := 0) rfl rfl)) (ocons (ob1 (by kernel_rfl) (fun _ hd => (hS.at_ hd).cell (i := 0) (j := 1) rfl rfl)) onil)))) fun a hF => ?_
 refine wfn rfl ?_
 refine wpIn_ret (fn_ret [.tmp 6] [.bool (bif (bif (decide (p0.Lo ≤ p0.Hi)) then (decide (p0.Lo ≥ p1)) else false) then (decide (p0.Hi ≤ p2)) else false)] hF rfl ⟨rfl, trivial⟩ ?_)
 subst h
 exact ⟨rfl, hS.ext⟩

theorem slices_Clone_fold_speeds_api_Span_okS (F : Nat) (p0 : (List api_Span)) (res : (List api_Span)) (h : slices_Clone_fold_speeds_api_Span F p0 = some res) (μ : Frz) (w0 : World) (hm : FrzAt μ w0) {ad1x : Addr} {cap2 : Nat} (hA3 : ArrM μ 2 api_Span.cells (some ad1x) cap2 p0) : Calls Try.prog 99 #[.slice (some ad1x) p0.length cap2] w0 (fun e w => ∃ zad0 zcap0, e = .returned (sv zad0 res zcap0) ∧ St w0 [arr 25 2 api_Span.cells zad0 res.length zcap0 res] w) := by
 obtain ⟨hlow, hS⟩ := hm.init
 have hext := Frz.ext_refl w0.heap.size μ
 rw [slices_Clone_fold_speeds_api_Span] at h
 refine fn_enterW Try.func99 rfl 8 [(0, .slice (some ad1x) p0.length cap2)] rfl rfl (by kernel_rfl) fun a w hw hF => ?_
 replace hS : St w0 [fz w0 μ] w := by rw [hw]; exact hS
 clear hw
 refine esr ?_
 refine rn 1 1 [(0, .slice (some ad1x) p0.length cap2)] hF fun a hF => ?_
 refine wfn rfl ?_
 refine eseq ?_
 refine esr ?_
 refine rn 2 2 [(0, .slice (some ad1x) p0.length cap2), (4, .bool false)] hF fun a hF => ?_
 refine wfn rfl ?_
 refine wpIn_cond_false (hF.get rfl) ?_
 refine wpIn_skip (norm_then ?_)
 refine esr ?_
 refine SK.wi (litK (e := 25) (sz := 2) (f := api_Span.cells) (t := 132) (len := 0) (fun b4 => [(0, .slice (some ad1x) p0.length cap2), (5, sb b4 0)]) #[] #[] ([] : List api_Span) hF hS (by kernel_rfl) ⟨by kernel_rfl⟩ (by kernel_rfl) api_Span.cells_len rfl rfl (by kernel_rfl) (fun _ => ⟨by kernel_rfl⟩) fun b4 w a hF hS => ?_)
 refine rn 1 2 [(5, sb b4 0), (6, .slice (some ad1x) p0.length cap2)] hF fun a hF => ?_
 replace h := bindS h
 obtain ⟨l5, hl5, h⟩ := h
 refine SK.wi (appK (t := 132) (ty := 132) (bytes := 16) (l := ([] : List api_Span)) (l' := p0) (fun ad6 cap7 => [(7, sv ad6 l5 cap7)]) 0 hF hS rfl (by kernel_rfl) ⟨by kernel_rfl⟩ (by kernel_rfl) (hA3 _ (hS.frz (i := 1) rfl hlow)) (fun _ _ => rfl) hl5 (fun _ _ => ⟨by kernel_rfl⟩) fun ad6 cap7 w a hF hS => ?_)
 refine rn 1 4 [(2, sv ad6 l5 cap7)] hF fun a hF => ?_
 refine wfn rfl ?_
 refine wpIn_ret (fn_ret [.tmp 2] [sv ad6 l5 cap7] hF rfl ⟨rfl, trivial⟩ ?_)
 have hr_ := Option.some.inj h
 subst hr_
 exact ⟨_, _, rfl, St.pick [0] (by decide) hS⟩

theorem slices_Clone_fold_speeds_api_Span_okN (res : (List api_Span)) (h : ([] : List api_Span) = res) (μ : Frz) (w0 : World) (hm : FrzAt μ w0) {cap2 : Nat} : Calls Try.prog 99 #[.slice none 0 cap2] w0 (fun e w => ∃ zad0 zcap0, e = .returned (sv zad0 res zcap0) ∧ St w0 [arr 25 2 api_Span.cells zad0 res.length zcap0 res] w) := by
 obtain ⟨hlow, hS⟩ := hm.init
 have hext := Frz.ext_refl w0.heap.size μ
 refine fn_enterW Try.func99 rfl 8 [(0, .slice none 0 cap2)] rfl rfl (by kernel_rfl) fun a w hw hF => ?_
 replace hS : St w0 [fz w0 μ] w := by rw [hw]; exact hS
 clear hw
 refine esr ?_
 refine rn 1 1 [(0, .slice none 0 cap2)] hF fun a hF => ?_
 refine wfn rfl ?_
 refine eseq ?_
 refine esr ?_
 refine rn 2 2 [(0, .slice none 0 cap2), (4, .bool true)] hF fun a hF => ?_
 refine wfn rfl ?_
 refine wpIn_cond_true (hF.get rfl) ?_
 refine esr ?_
 refine rn 1 1 [(2, .slice none 0 0)] hF fun a hF => ?_
 refine wfn rfl ?_
 refine wpIn_ret (ret_then <| fn_ret [.tmp 2] [.slice none 0 0] hF rfl ⟨rfl, trivial⟩ ?_)
 subst h
 replace hS := hS.nilarr 25 2 api_Span.cells
 exact ⟨_, _, rfl, St.pick [0] (by decide) hS⟩

theorem slices_Clone_fold_speeds_api_Span_ok (F : Nat) (p0 : List api_Span) (res : List api_Span) (h : slices_Clone_fold_speeds_api_Span F p0 = some res) (μ : Frz) (w0 : World) (hm : FrzAt μ w0) {ad1 : Option Addr} {cap2 : Nat} (hA3 : ArrM μ 2 api_Span.cells ad1 cap2 p0) : Calls Try.prog 99 #[sv ad1 p0 cap2] w0 (fun e w => ∃ zad0 zcap0, e = .returned (sv zad0 res zcap0) ∧ St w0 [arr 25 2 api_Span.cells zad0 res.length zcap0 res] w) := by
 cases ad1 with
 | some a => exact slices_Clone_fold_speeds_api_Span_okS F p0 res h μ w0 hm hA3
 | none =>
  obtain rfl := hA3.none_nil hm
  have hr : [] = res := Option.some.inj (show some ([] : List api_Span) = some res from h)
  exact slices_Clone_fold_speeds_api_Span_okN res hr μ w0 hm

theorem fold_speeds_united_ok (F : Nat) (p0 : (List api_Span)) (res : (List api_Span)) (h : fold_speeds_united F p0 = some res) (μ : Frz) (w0 : World) (hm : FrzAt μ w0) {ad1 : Option Addr} {cap2 : Nat} (hA3 : ArrM μ 2 api_Span.cells ad1 cap2 p0) : Calls Try.prog 62 #[sv ad1 p0 cap2] w0 (fun e w => ∃ zad0 zcap0, e = .returned (sv zad0 res zcap0) ∧ St w0 [arr 25 2 api_Span.cells zad0 res.length zcap0 res] w) := by
 obtain ⟨hlow, hS⟩ := hm.init
 have hext := Frz.ext_refl w0.heap.size μ
 rw [fold_speeds_united] at h
 refine fn_enterW Try.func62 rfl 53 [(0, sv ad1 p0 cap2)] rfl rfl (by kernel_rfl) fun a w hw hF => ?_
 replace hS : St w0 [fz w0 μ] w := by rw [hw]; exact hS
 clear hw
 refine esr ?_
 refine rn 1 1 [(0, sv ad1 p0 cap2)] hF fun a hF => ?_
 refine wfn rfl ?_
 refine esr ?_
 refine rn 1 1 [(8, sv ad1 p0 cap2)] hF fun a hF => ?_
 replace h := bindS h
 obtain ⟨y5, hy5, h⟩ := h
 refine SK.wi (callK (f := 99) (args := #[sv ad1 p0 cap2]) (R := fun v w2 => ∃ ad6 cap7, v = sv ad6 y5 cap7 ∧ St w [arr 25 2 api_Span.cells ad6 y5.length cap7 y5] w2) (fun v4 => [(9, v4)]) hF (by kernel_rfl) ⟨by kernel_rfl⟩ (Calls.mono (slices_Clone_fold_speeds_api_Span_ok F p0 _ hy5 (memOf w) w (memOf_at w) (hA3.mono (FrzAt.le_mem (hS.frz (i := 0) rfl hlow)))) (by rintro e w2 ⟨ad6, cap7, rfl, h⟩; exact ⟨_, rfl, ad6, cap7, rfl, h⟩)) (fun _ => ⟨by kernel_rfl⟩) ?_)
 rintro v4 w a ⟨ad6, cap7, rfl, hQ⟩ hF
 replace hS : St w0 [arr 25 2 api_Span.cells ad6 y5.length cap7 y5, fz w0 μ] w := hS.madeL hQ
 refine rn 1 3 [(3, sv ad6 y5 cap7)] hF fun a hF => ?_
 refine wfn rfl ?_
 refine esr ?_
 refine rn 1 1 [(3, sv ad6 y5 cap7), (10, sv ad6 y5 cap7)] hF fun a hF => ?_
 replace h := bindS h
 obtain ⟨y9, hy9, h⟩ := h
 refine SK.wi (callK (f := 100) (args := #[sv ad6 y5 cap7, .func (.func 101) #[] #[]]) (R := fun v w2 => v = .tuple #[] ∧ y5.length = y9.length ∧ St w0 [arr 25 2 api_Span.cells ad6 y9.length cap7 y9, fz w0 μ] w2) (fun v8 => [(3, sv ad6 y5 cap7)]) hF (by kernel_rfl) ⟨by kernel_rfl⟩ (Calls.mono (slices_SortFunc100_ok F y5 _ hy9 hS (i := 0) rfl) (fun e w2 h => ⟨_, h.1, rfl, h.2.1, h.2.2⟩)) (fun _ => ⟨by kernel_rfl⟩) ?_)
 rintro v8 w a ⟨rfl, hl, hS⟩ hF
 simp only [sv, ln, hl] at hF hS
 refine wfn rfl ?_
 refine esr ?_
 refine rn 1 1 [(3, sv ad6 y9 cap7), (4, .slice none 0 0)] hF fun a hF => ?_
 refine wfn rfl ?_
 refine ecut (fun a w => ∃ (l102 : (List api_Span)) (ad100 : Option Addr) (cap101 : Nat), Fr 53 [] [(4, sv ad100 l102 cap101)] a ∧ St w0 [arr 25 2 api_Span.cells ad100 l102.length cap101 l102, arr 25 2 api_Span.cells ad6 y9.length cap7 y9, fz w0 μ] w ∧ fold_speeds_united_K1 l102 = some res) ?_ ?_
 ·skip
  refine esr ?_
  refine rn 3 3 [(4, .slice none 0 0), (12, sv ad6 y9 cap7), (13, iv (ln y9)), (14, iv 0)] hF fun a hF => ?_
  refine wfn rfl ?_
  refine wpIn_block ?_
  replace hS := hS.nilarr 25 2 api_Span.cells
  refine eloop (fun n_ a w => ∃ (x158 : Int) (l161 : (List api_Span)) (ad159 : Option Addr) (cap160 : Nat), Fr 53 [] [(4, sv ad159 l161 cap160), (12, sv ad6 y9 cap7), (13, iv (ln y9)), (14, iv x158)] a ∧ St w0 [arr 25 2 api_Span.cells ad159 l161.length cap160 l161, arr 25 2 api_Span.cells ad6 y9.length cap7 y9, fz w0 μ] w ∧ fold_speeds_united_L2 y9 n_ x158 l161 = some res) F ⟨0, [], none, 0, hF.sub (by kernel_rfl), St.pick [0, 1, 2] (by decide) hS, h⟩ ?_
  rintro nk2 a w ⟨x158, l161, ad159, cap160, hF, hS, h⟩
  rcases nk2 with _ | nk2
  ·cases (show (none : Option (List api_Span)) = some res from h)
  obtain ⟨k2, hk2⟩ : ∃ k, k = fold_speeds_united_L2 y9 nk2 := ⟨_, rfl⟩
  replace h : fold_speeds_united_B2 y9 k2 x158 l161 = some res := by rw [hk2]; exact h
  rw [fold_speeds_united_B2] at h
  refine esr ?_
  refine rn 1 1 [(4, sv ad159 l161 cap160), (12, sv ad6 y9 cap7), (13, iv (ln y9)), (14, iv x158), (15, .bool (decide (x158 < (ln y9))))] hF fun a hF => ?_
  refine wfn rfl ?_
  refine eseq ?_
  refine econd hF rfl (fun hc => ?_) (fun hc => ?_)
  ·replace h := bif_t h hc
   refine wpIn_skip (norm_then ?_)
   refine ecut (fun a w => ∃ (l178 : (List api_Span)) (ad176 : Option Addr) (cap177 : Nat), Fr 53 [] [(4, sv ad176 l178 cap177), (12, sv ad6 y9 cap7), (13, iv (ln y9)), (14, iv x158)] a ∧ St w0 [arr 25 2 api_Span.cells ad176 l178.length cap177 l178, arr 25 2 api_Span.cells ad6 y9.length cap7 y9, fz w0 μ] w ∧ fold_speeds_united_K3 x158 k2 l178 = some res) ?_ ?_
   ·skip
    refine wpIn_block ?_
    refine esr ?_
    replace h := bindS h
    obtain ⟨u181, hu181, h⟩ := h
    refine rno 2 [.run [] (Instr.indexAt 132 (sv ad6 y9 cap7) (iv x158)) (.pointer (some (slAddr ad6 x158 2))), .run [] (Instr.loadAt 25 (.pointer (some (slAddr ad6 x158 2)))) (.agg #[iv u181.Lo, iv u181.Hi])] 2 [(4, sv ad159 l161 cap160), (12, sv ad6 y9 cap7), (13, iv (ln y9)), (14, iv x158), (17, .agg #[iv u181.Lo, iv u181.Hi])] hF (ocons (obIdxQ (hS.arr (i := 1) rfl) (by kernel_rfl) (fun _ => hu181)) (ocons (obElNQ (m := 2) (i := x158) (us := [iv u181.Lo, iv u181.Hi]) 0 api_Span.cells_len (fun _ hd => ((hS.at_ hd).arr (i := 1) rfl)) (by kernel_rfl) (fun _ => hu181) ⟨rfl, rfl⟩) onil)) fun a hF => ?_
    refine SK.wi (allocK (t := 25) (fun b182 => [(4, sv ad159 l161 cap160), (6, pb b182), (12, sv ad6 y9 cap7), (13, iv (ln y9)), (14, iv x158), (17, .agg #[iv u181.Lo, iv u181.Hi])]) #[iv 0, iv 0] hF hS (by kernel_rfl) ⟨by kernel_rfl⟩ (by kernel_rfl) (fun _ => ⟨by kernel_rfl⟩) fun b182 w a hF hS => ?_)
    refine SK.wi (storeK (t := 25) [(4, sv ad159 l161 cap160), (6, pb b182), (12, sv ad6 y9 cap7), (13, iv (ln y9)), (14, iv x158)] 0 0 (.agg #[iv u181.Lo, iv u181.Hi]) #[iv u181.Lo, iv u181.Hi] hF hS rfl (by kernel_rfl) ⟨by kernel_rfl⟩ (by kernel_rfl) (by kernel_rfl) (by kernel_rfl) (by kernel_rfl) ⟨by kernel_rfl⟩ fun w a hF hS => ?_)
    refine wfn rfl ?_
    refine esr ?_
    refine rn 3 3 [(4, sv ad159 l161 cap160), (6, pb b182), (7, iv (ln l161)), (12, sv ad6 y9 cap7), (13, iv (ln y9)), (14, iv x158)] hF fun a hF => ?_
    refine wfn rfl ?_
    refine eseq ?_
    replace h := bindS h
    obtain ⟨x183, hx183, h⟩ := h
    replace h := bindS h
    obtain ⟨u184, hu184, h⟩ := h
    refine runD (obs := [.run [⟨22, true, (decide ((ln l161) > 0))⟩] (Instr.loadAt 3 (pb b182)) (iv u181.Lo), .run [⟨22, true, (decide ((ln l161) > 0))⟩] (binOp .sub 3 (iv (ln l161)) (iv 1)) (iv x183), .run [⟨22, true, (decide ((ln l161) > 0))⟩] (Instr.indexAt 132 (sv ad159 l161 cap160) (iv x183)) (.pointer (some (slAddr ad159 x183 2))), .run [⟨22, true, (decide ((ln l161) > 0))⟩] (Instr.loadAt 3 (.pointer (some ((slAddr ad159 x183 2).add 1)))) (iv u184.Hi)]) 13 [(4, sv ad159 l161 cap160), (6, pb b182), (7, iv (ln l161)), (12, sv ad6 y9 cap7), (13, iv (ln y9)), (14, iv x158), (32, .bool (bif (decide ((ln l161) > 0)) then (decide (u181.Lo ≤ u184.Hi)) else false))] (by kernel_rfl) hF (by kernel_rfl) (ocons (ob1 (by kernel_rfl) (fun _ hd => (hS.later hd).cell (i := 0) (j := 0) rfl rfl)) (ocons (obSubC (fun hk => gd_some hx183 hk)) (ocons (obIdxQ (hS.arr (i := 1) rfl) (by kernel_rfl) (fun hk => gd_some hu184 hk)) (ocons (obElQ (i := x183) 1 api_Span.cells_len (fun _ hd => ((hS.later hd).arr (i := 1) rfl)) (by kernel_rfl) (fun hk => gd_some hu184 hk) rfl) onil)))) ⟨by kernel_rfl⟩ fun a w hF hx => ?_
    replace hS := hS.later hx
    refine wfn rfl ?_
    refine econd hF rfl (fun hc => ?_) (fun hc => ?_)
    ·replace h := bif_t h hc
     replace h := bindS h
     obtain ⟨x185, hx185, h⟩ := h
     replace h := bindS h
     obtain ⟨x186, hx186, h⟩ := h
     replace h := bindS h
     obtain ⟨u187, hu187, h⟩ := h
     replace h := bindS h
     obtain ⟨u188, hu188, h⟩ := h
     refine runD (obs := [.run [] (binOp .sub 3 (iv (ln l161)) (iv 1)) (iv x185), .run [] (binOp .sub 3 (iv (ln l161)) (iv 1)) (iv x186), .run [] (Instr.indexAt 132 (sv ad159 l161 cap160) (iv x186)) (.pointer (some (slAddr ad159 x186 2))), .run [] (Instr.loadAt 3 (.pointer (some ((slAddr ad159 x186 2).add 1)))) (iv u187.Hi), .run [] (Instr.loadAt 3 (.pointer (some ⟨b182, 1, none⟩))) (iv u181.Hi), .run [] (Instr.indexAt 132 (sv ad159 l161 cap160) (iv x185)) (.pointer (some (slAddr ad159 x185 2)))]) 14 [(4, sv ad159 l161 cap160), (12, sv ad6 y9 cap7), (13, iv (ln y9)), (14, iv x158), (44, iv (if u181.Hi > u187.Hi then u181.Hi else u187.Hi)), (46, .pointer (some ((slAddr ad159 x185 2).add 1)))] (by kernel_rfl) hF (by kernel_rfl) (ocons (obSubC (fun _ => hx185)) (ocons (obSubC (fun _ => hx186)) (ocons (obIdxQ (hS.arr (i := 1) rfl) (by kernel_rfl) (fun _ => hu187)) (ocons (obElQ (i := x186) 1 api_Span.cells_len (fun _ hd => ((hS.later hd).arr (i := 1) rfl)) (by kernel_rfl) (fun _ => hu187) rfl) (ocons (ob1 (by kernel_rfl) (fun _ hd => (hS.later hd).cell (i := 0) (j := 1) rfl rfl)) (ocons (obIdxQ (hS.arr (i := 1) rfl) (by kernel_rfl) (fun _ => hu188)) onil)))))) ⟨by kernel_rfl⟩ fun a w hF hx => ?_
     replace hS := hS.later hx
     replace h := bindS h
     obtain ⟨l189, hl189, h⟩ := h
     refine SK.wi (setK (j := x185) (t := 3) [(4, sv ad159 l161 cap160), (12, sv ad6 y9 cap7), (13, iv (ln y9)), (14, iv x158)] 1 1 u188 (api_Span.mk u188.Lo (if u181.Hi > u187.Hi then u181.Hi else u187.Hi)) (iv (if u181.Hi > u187.Hi then u181.Hi else u187.Hi)) hF hS rfl (by kernel_rfl) ⟨by kernel_rfl⟩ api_Span.cells_len hu188 rfl (by kernel_rfl) (by kernel_rfl) (by kernel_rfl) hl189 ⟨by kernel_rfl⟩ fun w a hF hl hS => ?_)
     simp only [sv, ln, hl] at hF hS
     refine WI.fin rfl (norm_block <| norm_then <| ?_)
     exact ⟨l189, ad159, cap160, hF.sub (by kernel_rfl), St.pick [1, 2, 3] (by decide) hS, h⟩
    ·replace h := bif_f h hc
     refine WI.region ?_
     refine rno 2 [.run [] (Instr.loadAt 25 (pb b182)) (.agg #[iv u181.Lo, iv u181.Hi])] 2 [(4, sv ad159 l161 cap160), (12, sv ad6 y9 cap7), (13, iv (ln y9)), (14, iv x158), (47, sv ad159 l161 cap160), (48, .agg #[iv u181.Lo, iv u181.Hi])] hF (ocons (obN (us := [iv u181.Lo, iv u181.Hi]) (by kernel_rfl) (fun _ hd => ((hS.at_ hd).blk (i := 0) rfl).cells rfl)) onil) fun a hF => ?_
     refine SK.wi (litK (e := 25) (sz := 2) (f := api_Span.cells) (t := 132) (len := 1) (fun b190 => [(4, sv ad159 l161 cap160), (12, sv ad6 y9 cap7), (13, iv (ln y9)), (14, iv x158), (47, sv ad159 l161 cap160), (49, sb b190 1)]) #[(0, .agg #[iv u181.Lo, iv u181.Hi])] #[iv u181.Lo, iv u181.Hi] ([u181]) hF hS (by kernel_rfl) ⟨by kernel_rfl⟩ (by kernel_rfl) api_Span.cells_len rfl rfl (by kernel_rfl) (fun _ => ⟨by kernel_rfl⟩) fun b190 w a hF hS => ?_)
     replace h := bindS h
     obtain ⟨l191, hl191, h⟩ := h
     refine SK.wi (appK (t := 132) (ty := 132) (bytes := 16) (l := l161) (l' := ([u181])) (fun ad192 cap193 => [(4, sv ad159 l161 cap160), (12, sv ad6 y9 cap7), (13, iv (ln y9)), (14, iv x158), (50, sv ad192 l191 cap193)]) 2 hF hS rfl (by kernel_rfl) ⟨by kernel_rfl⟩ (by kernel_rfl) (hS.arr (i := 0) rfl) (fun _ _ => rfl) hl191 (fun _ _ => ⟨by kernel_rfl⟩) fun ad192 cap193 w a hF hS => ?_)
     refine rn 1 5 [(4, sv ad192 l191 cap193), (12, sv ad6 y9 cap7), (13, iv (ln y9)), (14, iv x158)] hF fun a hF => ?_
     refine WI.fin rfl (norm_block <| norm_then <| ?_)
     exact ⟨l191, ad192, cap193, hF.sub (by kernel_rfl), St.pick [2, 3, 4] (by decide) hS, h⟩
   rintro a w ⟨l178, ad176, cap177, hF, hS, h⟩
   rw [fold_speeds_united_K3] at h
   refine WI.region ?_
   replace h := bindS h
   obtain ⟨x179, hx179, h⟩ := h
   refine rno 2 [.run [] (binOp .add 3 (iv x158) (iv 1)) (iv x179)] 2 [(4, sv ad176 l178 cap177), (12, sv ad6 y9 cap7), (13, iv (ln y9)), (14, iv x179)] hF (ocons (obAddC (fun _ => hx179)) onil) fun a hF => ?_
   refine wfn rfl ?_
   rw [hk2] at h
   exact ⟨nk2, Nat.lt_succ_self _, x179, l178, ad176, cap177, hF.sub (by kernel_rfl), St.pick [0, 1, 2] (by decide) hS, h⟩
  ·replace h := bif_f h hc
   refine wpIn_exit (exit_then <| exit_then <| exit_hit <| norm_then ?_)
   exact ⟨l161, ad159, cap160, hF.sub (by kernel_rfl), St.pick [0, 1, 2] (by decide) hS, h⟩
 rintro a w ⟨l102, ad100, cap101, hF, hS, h⟩
 rw [fold_speeds_united_K1] at h
 refine esr ?_
 refine rn 2 2 [(2, sv ad100 l102 cap101)] hF fun a hF => ?_
 refine wfn rfl ?_
 refine wpIn_ret (fn_ret [.tmp 2] [sv ad100 l102 cap101] hF rfl ⟨rfl, trivial⟩ ?_)
 have hr_ := Option.some.inj h
 subst hr_
 exact ⟨_, _, rfl, St.pick [0] (by decide) hS⟩

theorem fold_back_ok (F : Nat) (p0 : (List (List api_Span))) (res : (List (List api_Span))) (h : fold_back F p0 = some res) (μ : Frz) (w0 : World) (hm : FrzAt μ w0) {ad1 : Option Addr} {cap2 : Nat} {css3 : List (List Value)} (hA4 : ArrQ μ 1 Rp132 ad1 cap2 css3 p0) : Calls Try.prog 70 #[sv ad1 p0 cap2] w0 (fun e w => ∃ (ν_ : Frz) (zad0 : Option Addr) (zcap0 : Nat) (zcss0 : List (List Value)), μ.ext w0.heap.size ν_ ∧ e = .returned (sv zad0 res zcap0) ∧ All2 (Rp43 ν_) zcss0 res ∧ St w0 [fz w0 ν_, arr 43 1 (fN 1) zad0 res.length zcap0 zcss0] w) := by
 obtain ⟨hlow, hS⟩ := hm.init
 have hext := Frz.ext_refl w0.heap.size μ
 rw [fold_back] at h
 refine fn_enterW Try.func70 rfl 19 [(0, sv ad1 p0 cap2)] rfl rfl (by kernel_rfl) fun a w hw hF => ?_
 replace hS : St w0 [fz w0 μ] w := by rw [hw]; exact hS
 clear hw
 refine esr ?_
 refine rn 1 1 [(0, sv ad1 p0 cap2)] hF fun a hF => ?_
 refine wfn rfl ?_
 refine esr ?_
 refine rn 1 1 [(0, sv ad1 p0 cap2), (3, .slice none 0 0)] hF fun a hF => ?_
 refine wfn rfl ?_
 have hj98 := Frz.le_refl μ
 refine ecut (fun a w => ∃ (l94 : (List (List api_Span))) (ν91 : Frz) (ad92 : Option Addr) (cap93 : Nat) (css95 : List (List Value)), Fr 19 [] [(3, sv ad92 l94 cap93)] a ∧ St w0 [arr 43 1 (fN 1) ad92 l94.length cap93 css95, fz w0 ν91] w ∧ (All2 (Rp43 ν91) css95 l94) ∧ (μ.le ν91) ∧ (μ.ext w0.heap.size ν91) ∧ (FrzIn w0 ν91) ∧ fold_back_K1 l94 = some res) ?_ ?_
 ·skip
  refine esr ?_
  refine rn 3 3 [(3, .slice none 0 0), (6, sv ad1 p0 cap2), (7, iv (ln p0)), (8, iv 0)] hF fun a hF => ?_
  refine wfn rfl ?_
  refine wpIn_block ?_
  have hj161 := Frz.le_refl μ
  replace hS := hS.nilarr 43 1 (fN 1)
  refine eloop (fun n_ a w => ∃ (l156 : (List (List api_Span))) (x159 : Int) (ν153 : Frz) (ad154 : Option Addr) (cap155 : Nat) (css157 : List (List Value)), Fr 19 [] [(3, sv ad154 l156 cap155), (6, sv ad1 p0 cap2), (7, iv (ln p0)), (8, iv x159)] a ∧ St w0 [arr 43 1 (fN 1) ad154 l156.length cap155 css157, fz w0 ν153] w ∧ (All2 (Rp43 ν153) css157 l156) ∧ (μ.le ν153) ∧ (μ.ext w0.heap.size ν153) ∧ (FrzIn w0 ν153) ∧ fold_back_L2 F p0 n_ l156 x159 = some res) F ⟨[], 0, μ, none, 0, [], hF.sub (by kernel_rfl), St.pick [0, 1] (by decide) hS, All2.nil, hj161, hext, hlow, h⟩ ?_
  clear hj161
  rintro nk2 a w ⟨l156, x159, ν153, ad154, cap155, css157, hF, hS, hq158, hle160, hext, hlow, h⟩
  rcases nk2 with _ | nk2
  ·cases (show (none : Option (List (List api_Span))) = some res from h)
  replace hA4 := hA4.mono Rp132.mono hle160
  replace hj98 := Frz.le_trans hj98 hle160
  obtain ⟨k2, hk2⟩ : ∃ k, k = fold_back_L2 F p0 nk2 := ⟨_, rfl⟩
  replace h : fold_back_B2 F p0 k2 l156 x159 = some res := by rw [hk2]; exact h
  rw [fold_back_B2] at h
  refine esr ?_
  refine rn 1 1 [(3, sv ad154 l156 cap155), (6, sv ad1 p0 cap2), (7, iv (ln p0)), (8, iv x159), (9, .bool (decide (x159 < (ln p0))))] hF fun a hF => ?_
  refine wfn rfl ?_
  refine eseq ?_
  refine econd hF rfl (fun hc => ?_) (fun hc => ?_)
  ·replace h := bif_t h hc
   refine wpIn_skip (norm_then ?_)
   refine eseq ?_
   refine wpIn_block ?_
   refine esr ?_
   replace h := bindS h
   obtain ⟨u162, hu162, h⟩ := h
   obtain ⟨cs163, hcs164, hR165⟩ := getI_all2 hA4.2 hu162
   obtain ⟨ad166, cap167, rfl, hA168⟩ := hR165
   refine rno 3 [.run [] (Instr.indexAt 135 (sv ad1 p0 cap2) (iv x159)) (.pointer (some (slAddr ad1 x159 1))), .run [] (Instr.loadAt 132 (.pointer (some (slAddr ad1 x159 1)))) (sv ad166 u162 cap167)] 3 [(3, sv ad154 l156 cap155), (5, sv ad166 u162 cap167), (6, sv ad1 p0 cap2), (7, iv (ln p0)), (8, iv x159)] hF (ocons (obIdxQ (hA4.at (hS.frz (i := 1) rfl hlow)) (by kernel_rfl) (fun _ => hcs164)) (ocons (obElQ (i := x159) 0 (fN_len 1) (fun _ hd => (hA4.at ((hS.at_ hd).frz (i := 1) rfl hlow))) (by kernel_rfl) (fun _ => hcs164) rfl) onil)) fun a hF => ?_
   refine wfn rfl ?_
   refine WI.region ?_
   refine rn 2 2 [(3, sv ad154 l156 cap155), (6, sv ad1 p0 cap2), (7, iv (ln p0)), (8, iv x159), (12, sv ad154 l156 cap155), (13, sv ad166 u162 cap167)] hF fun a hF => ?_
   replace h := bindS h
   obtain ⟨y170, hy170, h⟩ := h
   refine SK.wi (callK (f := 99) (args := #[sv ad166 u162 cap167]) (R := fun v w2 => ∃ ad171 cap172, v = sv ad171 y170 cap172 ∧ St w [arr 25 2 api_Span.cells ad171 y170.length cap172 y170] w2) (fun v169 => [(3, sv ad154 l156 cap155), (6, sv ad1 p0 cap2), (7, iv (ln p0)), (8, iv x159), (12, sv ad154 l156 cap155), (14, v169)]) hF (by kernel_rfl) ⟨by kernel_rfl⟩ (Calls.mono (slices_Clone_fold_speeds_api_Span_ok F u162 _ hy170 (memOf w) w (memOf_at w) (hA168.mono (FrzAt.le_mem (hS.frz (i := 1) rfl hlow)))) (by rintro e w2 ⟨ad171, cap172, rfl, h⟩; exact ⟨_, rfl, ad171, cap172, rfl, h⟩)) (fun _ => ⟨by kernel_rfl⟩) ?_)
   rintro v169 w a ⟨ad171, cap172, rfl, hQ⟩ hF
   replace hS : St w0 [arr 25 2 api_Span.cells ad171 y170.length cap172 y170, arr 43 1 (fN 1) ad154 l156.length cap155 css157, fz w0 ν153] w := hS.madeL hQ
   obtain ⟨ν174, hx175, hlow, hS, hz176⟩ := hS.freeze (i := 2) (j := 0) rfl rfl (by decide) hlow
   replace hA4 := hA4.mono Rp132.mono hx175.1
   replace hq158 := All2.mono Rp43.mono hx175.1 hq158
   replace hA168 := hA168.mono hx175.1
   replace hj98 := Frz.le_trans hj98 hx175.1
   replace hle160 := Frz.le_trans hle160 hx175.1
   replace hext := Frz.ext_trans hext hx175
   replace hS : St w0 [arr 43 1 (fN 1) ad154 l156.length cap155 css157, fz w0 ν174] w := hS
   have hA177 := ArrM.of_arr hz176
   have hq178 : All2 (Rp43 ν174) ([[sv ad171 y170 cap172]] : List (List Value)) [y170] := (All2.cons ⟨ad171, cap172, rfl, hA177⟩ All2.nil)
   refine SK.wi (litQK (e := 43) (sz := 1) (f := fN 1) (t := 48) (len := 1) (fun b173 => [(3, sv ad154 l156 cap155), (6, sv ad1 p0 cap2), (7, iv (ln p0)), (8, iv x159), (12, sv ad154 l156 cap155), (15, sb b173 1)]) #[(0, sv ad171 y170 cap172)] #[sv ad171 y170 cap172] ([[sv ad171 y170 cap172]] : List (List Value)) ([y170]) hF hS (by kernel_rfl) ⟨by kernel_rfl⟩ (by kernel_rfl) (fN_len 1) rfl rfl rfl (by kernel_rfl) (fun _ => ⟨by kernel_rfl⟩) fun b173 w a hF hS => ?_)
   replace h := bindS h
   obtain ⟨l179, hl179, h⟩ := h
   have hq183 : All2 (Rp43 ν174) (css157 ++ ([[sv ad171 y170 cap172]] : List (List Value))) l179 := by rw [(apd_some hl179).1]; exact All2.app hq158 hq178
   refine SK.wi (appQK (t := 48) (ty := 48) (bytes := 24) (c := css157) (c' := ([[sv ad171 y170 cap172]] : List (List Value))) (l := l156) (l' := ([y170])) (fun ad180 cap181 => [(3, sv ad154 l156 cap155), (6, sv ad1 p0 cap2), (7, iv (ln p0)), (8, iv x159), (16, sv ad180 l179 cap181)]) 1 hF hS rfl (by kernel_rfl) ⟨by kernel_rfl⟩ (by kernel_rfl) (hS.arr (i := 0) rfl) (ArrQ.one hq178 Rp43.one) hl179 (fun _ _ => ⟨by kernel_rfl⟩) fun ad180 cap181 w a hF hS => ?_)
   refine rn 1 6 [(3, sv ad180 l179 cap181), (6, sv ad1 p0 cap2), (7, iv (ln p0)), (8, iv x159)] hF fun a hF => ?_
   refine WI.fin rfl (norm_block <| norm_then <| ?_)
   refine WI.region ?_
   replace h := bindS h
   obtain ⟨x184, hx184, h⟩ := h
   refine rno 2 [.run [] (binOp .add 3 (iv x159) (iv 1)) (iv x184)] 2 [(3, sv ad180 l179 cap181), (6, sv ad1 p0 cap2), (7, iv (ln p0)), (8, iv x184)] hF (ocons (obAddC (fun _ => hx184)) onil) fun a hF => ?_
   refine wfn rfl ?_
   rw [hk2] at h
   exact ⟨nk2, Nat.lt_succ_self _, l179, x184, ν174, ad180, cap181, (css157 ++ ([[sv ad171 y170 cap172]] : List (List Value))), hF.sub (by kernel_rfl), St.pick [1, 2] (by decide) hS, hq183, hle160, hext, hlow, h⟩
  ·replace h := bif_f h hc
   refine wpIn_exit (exit_then <| exit_then <| exit_hit <| norm_then ?_)
   exact ⟨l156, ν153, ad154, cap155, css157, hF.sub (by kernel_rfl), St.pick [0, 1] (by decide) hS, hq158, hj98, hext, hlow, h⟩
 clear hj98
 rintro a w ⟨l94, ν91, ad92, cap93, css95, hF, hS, hq96, hle97, hext, hlow, h⟩
 replace hA4 := hA4.mono Rp132.mono hle97
 rw [fold_back_K1] at h
 refine esr ?_
 refine rn 2 2 [(2, sv ad92 l94 cap93)] hF fun a hF => ?_
 refine wfn rfl ?_
 refine wpIn_ret (fn_ret [.tmp 2] [sv ad92 l94 cap93] hF rfl ⟨rfl, trivial⟩ ?_)
 have hr_ := Option.some.inj h
 subst hr_
 exact ⟨ν91, _, _, _, hext, rfl, hq96, St.pick [1, 0] (by decide) hS⟩

theorem law03_sets_ok (F : Nat) (p0 : (List (List api_Span))) (p1 : (List (List api_Span))) (res : Bool) (h : law03_sets F p0 p1 = some res) (μ : Frz) (w0 : World) (hm : FrzAt μ w0) {ad1 : Option Addr} {cap2 : Nat} {css3 : List (List Value)} {ad5 : Option Addr} {cap6 : Nat} {css7 : List (List Value)} (hA4 : ArrQ μ 1 Rp43 ad1 cap2 css3 p0) (hA8 : ArrQ μ 1 Rp43 ad5 cap6 css7 p1) : Calls Try.prog 26 #[sv ad1 p0 cap2, sv ad5 p1 cap6] w0 (fun e w => e = .returned (.bool res) ∧ Ext w0 w) := by
 obtain ⟨hlow, hS⟩ := hm.init
 have hext := Frz.ext_refl w0.heap.size μ
 rw [law03_sets] at h
 refine fn_enterW Try.func26 rfl 27 [(0, sv ad1 p0 cap2), (1, sv ad5 p1 cap6)] rfl rfl (by kernel_rfl) fun a w hw hF => ?_
 replace hS : St w0 [fz w0 μ] w := by rw [hw]; exact hS
 clear hw
 refine esr ?_
 refine rn 1 1 [(0, sv ad1 p0 cap2), (1, sv ad5 p1 cap6)] hF fun a hF => ?_
 refine wfn rfl ?_
 refine eseq ?_
 refine esr ?_
 refine rn 5 5 [(0, sv ad1 p0 cap2), (1, sv ad5 p1 cap6), (10, .bool ((ln p0) != (ln p1)))] hF fun a hF => ?_
 refine wfn rfl ?_
 refine econd hF rfl (fun hc => ?_) (fun hc => ?_)
 ·replace h := bif_t h hc
  refine esr ?_
  refine rn 1 1 [(4, .bool false)] hF fun a hF => ?_
  refine wfn rfl ?_
  refine wpIn_ret (ret_then <| fn_ret [.tmp 4] [.bool false] hF rfl ⟨rfl, trivial⟩ ?_)
  have hr_ := Option.some.inj h
  subst hr_
  exact ⟨rfl, hS.ext⟩
 ·replace h := bif_f h hc
  refine wpIn_skip (norm_then ?_)
  refine ecut (fun a w => Fr 27 [] [] a ∧ St w0 [fz w0 μ] w ∧ law03_sets_K1 = some res) ?_ ?_
  ·skip
   refine esr ?_
   refine rn 1 1 [(0, sv ad1 p0 cap2), (1, sv ad5 p1 cap6), (5, iv 0)] hF fun a hF => ?_
   refine wfn rfl ?_
   refine wpIn_block ?_
   refine eloop (fun n_ a w => ∃ (x94 : Int), Fr 27 [] [(0, sv ad1 p0 cap2), (1, sv ad5 p1 cap6), (5, iv x94)] a ∧ St w0 [fz w0 μ] w ∧ law03_sets_L2 F p0 p1 n_ x94 = some res) F ⟨0, hF.sub (by kernel_rfl), St.pick [0] (by decide) hS, h⟩ ?_
   rintro nk2 a w ⟨x94, hF, hS, h⟩
   rcases nk2 with _ | nk2
   ·cases (show (none : Option Bool) = some res from h)
   obtain ⟨k2, hk2⟩ : ∃ k, k = law03_sets_L2 F p0 p1 nk2 := ⟨_, rfl⟩
   replace h : law03_sets_B2 F p0 p1 k2 x94 = some res := by rw [hk2]; exact h
   rw [law03_sets_B2] at h
   refine eseq ?_
   refine esr ?_
   refine rn 4 4 [(0, sv ad1 p0 cap2), (1, sv ad5 p1 cap6), (5, iv x94), (14, .bool (decide (x94 < (ln p0))))] hF fun a hF => ?_
   refine wfn rfl ?_
   refine econd hF rfl (fun hc => ?_) (fun hc => ?_)
   ·replace h := bif_t h hc
    refine wpIn_skip (norm_then ?_)
    refine eseq ?_
    refine wpIn_block ?_
    refine eseq ?_
    replace h := bindS h
    obtain ⟨u96, hu96, h⟩ := h
    obtain ⟨cs97, hcs98, hR99⟩ := getI_all2 hA4.2 hu96
    obtain ⟨ad100, cap101, rfl, hA102⟩ := hR99
    replace h := bindS h
    obtain ⟨u103, hu103, h⟩ := h
    obtain ⟨cs104, hcs105, hR106⟩ := getI_all2 hA8.2 hu103
    obtain ⟨ad107, cap108, rfl, hA109⟩ := hR106
    replace h := bindS h
    obtain ⟨y110, hy110, h⟩ := h
    refine runD (obs := [.run [] (Instr.indexAt 48 (sv ad1 p0 cap2) (iv x94)) (.pointer (some (slAddr ad1 x94 1))), .run [] (Instr.loadAt 43 (.pointer (some (slAddr ad1 x94 1)))) (sv ad100 u96 cap101), .run [] (Instr.indexAt 48 (sv ad5 p1 cap6) (iv x94)) (.pointer (some (slAddr ad5 x94 1))), .run [] (Instr.loadAt 43 (.pointer (some (slAddr ad5 x94 1)))) (sv ad107 u103 cap108), .call [] 22 #[sv ad100 u96 cap101, sv ad107 u103 cap108] (.bool y110)]) 10 [(0, sv ad1 p0 cap2), (1, sv ad5 p1 cap6), (5, iv x94), (26, .bool (!y110))] (by kernel_rfl) hF (by kernel_rfl) (ocons (obIdxQ (hA4.at (hS.frz (i := 0) rfl hlow)) (by kernel_rfl) (fun _ => hcs98)) (ocons (obElQ (i := x94) 0 (fN_len 1) (fun _ hd => (hA4.at ((hS.later hd).frz (i := 0) rfl hlow))) (by kernel_rfl) (fun _ => hcs98) rfl) (ocons (obIdxQ (hA8.at (hS.frz (i := 0) rfl hlow)) (by kernel_rfl) (fun _ => hcs105)) (ocons (obElQ (i := x94) 0 (fN_len 1) (fun _ hd => (hA8.at ((hS.later hd).frz (i := 0) rfl hlow))) (by kernel_rfl) (fun _ => hcs105) rfl) (ocons (show Ob.ok _ Ext _ _ from fun hk w2 hd => law03_spans_ok F u96 u103 _ ((fun _ => hy110) hk) _ w2 (memOf_at w2) (hA102.mono (FrzAt.le_mem ((hS.later hd).frz (i := 0) rfl hlow))) (hA109.mono (FrzAt.le_mem ((hS.later hd).frz (i := 0) rfl hlow)))) onil))))) ⟨by kernel_rfl⟩ fun a w hF hx => ?_
    replace hS := hS.later hx
    refine wfn rfl ?_
    refine econd hF rfl (fun hc => ?_) (fun hc => ?_)
    ·replace h := bif_t h hc
     refine esr ?_
     refine rn 1 1 [(4, .bool false)] hF fun a hF => ?_
     refine wfn rfl ?_
     refine wpIn_ret (ret_block <| ret_then <| ret_then <| ret_block <| ret_then <| fn_ret [.tmp 4] [.bool false] hF rfl ⟨rfl, trivial⟩ ?_)
     have hr_ := Option.some.inj h
     subst hr_
     exact ⟨rfl, hS.ext⟩
    ·replace h := bif_f h hc
     refine wpIn_skip (norm_block <| norm_then <| ?_)
     refine WI.region ?_
     replace h := bindS h
     obtain ⟨x111, hx111, h⟩ := h
     refine rno 3 [.run [] (binOp .add 3 (iv x94) (iv 1)) (iv x111)] 3 [(0, sv ad1 p0 cap2), (1, sv ad5 p1 cap6), (5, iv x111)] hF (ocons (obAddC (fun _ => hx111)) onil) fun a hF => ?_
     refine wfn rfl ?_
     rw [hk2] at h
     exact ⟨nk2, Nat.lt_succ_self _, x111, hF.sub (by kernel_rfl), St.pick [0] (by decide) hS, h⟩
   ·replace h := bif_f h hc
    refine wpIn_exit (exit_then <| exit_then <| exit_hit <| norm_then ?_)
    exact ⟨hF.sub (by kernel_rfl), St.pick [0] (by decide) hS, h⟩
  rintro a w ⟨hF, hS, h⟩
  rw [law03_sets_K1] at h
  refine esr ?_
  refine rn 1 1 [(4, .bool true)] hF fun a hF => ?_
  refine wfn rfl ?_
  refine wpIn_ret (fn_ret [.tmp 4] [.bool true] hF rfl ⟨rfl, trivial⟩ ?_)
  have hr_ := Option.some.inj h
  subst hr_
  exact ⟨rfl, hS.ext⟩

theorem ref03_spans_ok (F : Nat) (p0 : (List api_Span)) (p1 : Bool) (res : Int) (h : ref03_spans F p0 p1 = some res) (μ : Frz) (w0 : World) (hm : FrzAt μ w0) {ad1 : Option Addr} {cap2 : Nat} (hA3 : ArrM μ 2 api_Span.cells ad1 cap2 p0) : Calls Try.prog 63 #[sv ad1 p0 cap2, .bool p1] w0 (fun e w => e = .returned (iv res) ∧ Ext w0 w) := by
 obtain ⟨hlow, hS⟩ := hm.init
 have hext := Frz.ext_refl w0.heap.size μ
 rw [ref03_spans] at h
 refine fn_enterW Try.func63 rfl 40 [(0, sv ad1 p0 cap2), (1, .bool p1)] rfl rfl (by kernel_rfl) fun a w hw hF => ?_
 replace hS : St w0 [fz w0 μ] w := by rw [hw]; exact hS
 clear hw
 refine esr ?_
 refine rn 1 1 [(0, sv ad1 p0 cap2), (1, .bool p1)] hF fun a hF => ?_
 refine wfn rfl ?_
 refine eseq ?_
 refine esr ?_
 refine rn 3 3 [(0, sv ad1 p0 cap2), (1, .bool p1), (8, .bool (decide ((ln p0) > 256)))] hF fun a hF => ?_
 refine wfn rfl ?_
 refine econd hF rfl (fun hc => ?_) (fun hc => ?_)
 ·replace h := bif_t h hc
  refine esr ?_
  refine rn 1 1 [(4, iv 9)] hF fun a hF => ?_
  refine wfn rfl ?_
  refine wpIn_ret (ret_then <| fn_ret [.tmp 4] [iv 9] hF rfl ⟨rfl, trivial⟩ ?_)
  have hr_ := Option.some.inj h
  subst hr_
  exact ⟨rfl, hS.ext⟩
 ·replace h := bif_f h hc
  refine wpIn_skip (norm_then ?_)
  refine ecut (fun a w => Fr 40 [] [] a ∧ St w0 [fz w0 μ] w ∧ ref03_spans_K1 = some res) ?_ ?_
  ·skip
   refine esr ?_
   refine rn 1 1 [(0, sv ad1 p0 cap2), (1, .bool p1), (5, iv 0)] hF fun a hF => ?_
   refine wfn rfl ?_
   refine wpIn_block ?_
   refine eloop (fun n_ a w => ∃ (x34 : Int), Fr 40 [] [(0, sv ad1 p0 cap2), (1, .bool p1), (5, iv x34)] a ∧ St w0 [fz w0 μ] w ∧ ref03_spans_L2 p0 p1 n_ x34 = some res) F ⟨0, hF.sub (by kernel_rfl), St.pick [0] (by decide) hS, h⟩ ?_
   rintro nk2 a w ⟨x34, hF, hS, h⟩
   rcases nk2 with _ | nk2
   ·cases (show (none : Option Int) = some res from h)
   obtain ⟨k2, hk2⟩ : ∃ k, k = ref03_spans_L2 p0 p1 nk2 := ⟨_, rfl⟩
   replace h : ref03_spans_B2 p0 p1 k2 x34 = some res := by rw [hk2]; exact h
   rw [ref03_spans_B2] at h
   refine eseq ?_
   refine esr ?_
   refine rn 4 4 [(0, sv ad1 p0 cap2), (1, .bool p1), (5, iv x34), (12, .bool (decide (x34 < (ln p0))))] hF fun a hF => ?_
   refine wfn rfl ?_
   refine econd hF rfl (fun hc => ?_) (fun hc => ?_)
   ·replace h := bif_t h hc
    refine wpIn_skip (norm_then ?_)
    refine eseq ?_
    refine wpIn_block ?_
    refine eseq ?_
    refine esr ?_
    replace h := bindS h
    obtain ⟨u36, hu36, h⟩ := h
    refine rx 6 [.run [] (Instr.indexAt 43 (sv ad1 p0 cap2) (iv x34)) (.pointer (some (slAddr ad1 x34 2))), .run [] (Instr.loadAt 25 (.pointer (some (slAddr ad1 x34 2)))) (.agg #[iv u36.Lo, iv u36.Hi]), .call [] 94 #[.agg #[iv u36.Lo, iv u36.Hi], iv (-200000), iv 200000] (.bool (ref01_Valid u36 (-200000) 200000))] 6 [(0, sv ad1 p0 cap2), (1, .bool p1), (5, iv x34), (20, .bool (!(ref01_Valid u36 (-200000) 200000)))] hF (ocons (obIdxQ (hA3 _ (hS.frz (i := 0) rfl hlow)) (by kernel_rfl) (fun _ => hu36)) (ocons (obElNQ (m := 2) (i := x34) (us := [iv u36.Lo, iv u36.Hi]) 0 api_Span.cells_len (fun _ hd => (hA3 _ ((hS.later hd).frz (i := 0) rfl hlow))) (by kernel_rfl) (fun _ => hu36) ⟨rfl, rfl⟩) (ocons (show Ob.ok _ Ext _ _ from fun hk w2 hd => ref01_Valid_ok u36 (-200000) 200000 _ rfl _ w2 (memOf_at w2) ) onil))) fun a w hF hx => ?_
    replace hS := hS.later hx
    refine wfn rfl ?_
    refine econd hF rfl (fun hc => ?_) (fun hc => ?_)
    ·replace h := bif_t h hc
     refine esr ?_
     refine rn 1 1 [(4, iv 3)] hF fun a hF => ?_
     refine wfn rfl ?_
     refine wpIn_ret (ret_then <| ret_block <| ret_then <| ret_then <| ret_block <| ret_then <| fn_ret [.tmp 4] [iv 3] hF rfl ⟨rfl, trivial⟩ ?_)
     have hr_ := Option.some.inj h
     subst hr_
     exact ⟨rfl, hS.ext⟩
    ·replace h := bif_f h hc
     refine wpIn_skip (norm_then ?_)
     refine eseq ?_
     replace h := bindS h
     obtain ⟨u37, hu37, h⟩ := h
     replace h := bindS h
     obtain ⟨x38, hx38, h⟩ := h
     replace h := bindS h
     obtain ⟨u39, hu39, h⟩ := h
     refine runD (obs := [.run [⟨26, true, (bif p1 then (decide (x34 > 0)) else false)⟩] (Instr.indexAt 43 (sv ad1 p0 cap2) (iv x34)) (.pointer (some (slAddr ad1 x34 2))), .run [⟨26, true, (bif p1 then (decide (x34 > 0)) else false)⟩] (Instr.loadAt 3 (.pointer (some (slAddr ad1 x34 2)))) (iv u37.Lo), .run [⟨26, true, (bif p1 then (decide (x34 > 0)) else false)⟩] (binOp .sub 3 (iv x34) (iv 1)) (iv x38), .run [⟨26, true, (bif p1 then (decide (x34 > 0)) else false)⟩] (Instr.indexAt 43 (sv ad1 p0 cap2) (iv x38)) (.pointer (some (slAddr ad1 x38 2))), .run [⟨26, true, (bif p1 then (decide (x34 > 0)) else false)⟩] (Instr.loadAt 3 (.pointer (some ((slAddr ad1 x38 2).add 1)))) (iv u39.Hi)]) 19 [(0, sv ad1 p0 cap2), (1, .bool p1), (5, iv x34), (39, .bool (bif (bif p1 then (decide (x34 > 0)) else false) then (decide (u37.Lo ≤ u39.Hi)) else false))] (by kernel_rfl) hF (by kernel_rfl) (ocons (obIdxQ (hA3 _ (hS.frz (i := 0) rfl hlow)) (by kernel_rfl) (fun hk => gd_some hu37 hk)) (ocons (obElQ (i := x34) 0 api_Span.cells_len (fun _ hd => (hA3 _ ((hS.later hd).frz (i := 0) rfl hlow))) (by kernel_rfl) (fun hk => gd_some hu37 hk) rfl) (ocons (obSubC (fun hk => gd_some hx38 hk)) (ocons (obIdxQ (hA3 _ (hS.frz (i := 0) rfl hlow)) (by kernel_rfl) (fun hk => gd_some hu39 hk)) (ocons (obElQ (i := x38) 1 api_Span.cells_len (fun _ hd => (hA3 _ ((hS.later hd).frz (i := 0) rfl hlow))) (by kernel_rfl) (fun hk => gd_some hu39 hk) rfl) onil))))) ⟨by kernel_rfl⟩ fun a w hF hx => ?_
     replace hS := hS.later hx
     refine wfn rfl ?_
     refine econd hF rfl (fun hc => ?_) (fun hc => ?_)
     ·replace h := bif_t h hc
      refine esr ?_
      refine rn 1 1 [(4, iv 12)] hF fun a hF => ?_
      refine wfn rfl ?_
      refine wpIn_ret (ret_block <| ret_then <| ret_then <| ret_block <| ret_then <| fn_ret [.tmp 4] [iv 12] hF rfl ⟨rfl, trivial⟩ ?_)
      have hr_ := Option.some.inj h
      subst hr_
      exact ⟨rfl, hS.ext⟩
     ·replace h := bif_f h hc
      refine wpIn_skip (norm_block <| norm_then <| ?_)
      refine WI.region ?_
      replace h := bindS h
      obtain ⟨x40, hx40, h⟩ := h
      refine rno 3 [.run [] (binOp .add 3 (iv x34) (iv 1)) (iv x40)] 3 [(0, sv ad1 p0 cap2), (1, .bool p1), (5, iv x40)] hF (ocons (obAddC (fun _ => hx40)) onil) fun a hF => ?_
      refine wfn rfl ?_
      rw [hk2] at h
      exact ⟨nk2, Nat.lt_succ_self _, x40, hF.sub (by kernel_rfl), St.pick [0] (by decide) hS, h⟩
   ·replace h := bif_f h hc
    refine wpIn_exit (exit_then <| exit_then <| exit_hit <| norm_then ?_)
    exact ⟨hF.sub (by kernel_rfl), St.pick [0] (by decide) hS, h⟩
  rintro a w ⟨hF, hS, h⟩
  rw [ref03_spans_K1] at h
  refine esr ?_
  refine rn 1 1 [(4, iv 0)] hF fun a hF => ?_
  refine wfn rfl ?_
  refine wpIn_ret (fn_ret [.tmp 4] [iv 0] hF rfl ⟨rfl, trivial⟩ ?_)
  have hr_ := Option.some.inj h
  subst hr_
  exact ⟨rfl, hS.ext⟩

theorem ref03_Next_ok (F : Nat) (p0 : (List (List api_Span))) (p1 : Int) (p2 : Int) (res : Int) (h : ref03_Next F p0 p1 p2 = some res) (μ : Frz) (w0 : World) (hm : FrzAt μ w0) {ad1 : Option Addr} {cap2 : Nat} {css3 : List (List Value)} (hA4 : ArrQ μ 1 Rp43 ad1 cap2 css3 p0) : Calls Try.prog 73 #[sv ad1 p0 cap2, iv p1, iv p2] w0 (fun e w => e = .returned (iv res) ∧ Ext w0 w) := by
 obtain ⟨hlow, hS⟩ := hm.init
 have hext := Frz.ext_refl w0.heap.size μ
 rw [ref03_Next] at h
 refine fn_enterW Try.func73 rfl 38 [(0, sv ad1 p0 cap2), (1, iv p1), (2, iv p2)] rfl rfl (by kernel_rfl) fun a w hw hF => ?_
 replace hS : St w0 [fz w0 μ] w := by rw [hw]; exact hS
 clear hw
 refine esr ?_
 refine rn 1 1 [(0, sv ad1 p0 cap2), (1, iv p1), (2, iv p2)] hF fun a hF => ?_
 refine wfn rfl ?_
 refine ecut (fun a w => Fr 38 [] [] a ∧ St w0 [fz w0 μ] w ∧ ref03_Next_K1 = some res) ?_ ?_
 ·skip
  refine esr ?_
  replace h := bindS h
  obtain ⟨x61, hx61, h⟩ := h
  refine rno 3 [.run [] (binOp .add 3 (iv p1) (iv 1)) (iv x61)] 3 [(0, sv ad1 p0 cap2), (1, iv p1), (2, iv p2), (7, iv x61)] hF (ocons (obAddC (fun _ => hx61)) onil) fun a hF => ?_
  refine wfn rfl ?_
  refine wpIn_block ?_
  refine eloop (fun n_ a w => ∃ (x97 : Int), Fr 38 [] [(0, sv ad1 p0 cap2), (1, iv p1), (2, iv p2), (7, iv x97)] a ∧ St w0 [fz w0 μ] w ∧ ref03_Next_L2 p0 p1 p2 n_ x97 = some res) F ⟨x61, hF.sub (by kernel_rfl), St.pick [0] (by decide) hS, h⟩ ?_
  rintro nk2 a w ⟨x97, hF, hS, h⟩
  rcases nk2 with _ | nk2
  ·cases (show (none : Option Int) = some res from h)
  obtain ⟨k2, hk2⟩ : ∃ k, k = ref03_Next_L2 p0 p1 p2 nk2 := ⟨_, rfl⟩
  replace h : ref03_Next_B2 p0 p1 p2 k2 x97 = some res := by rw [hk2]; exact h
  rw [ref03_Next_B2] at h
  refine eseq ?_
  refine esr ?_
  replace h := bindS h
  obtain ⟨x99, hx99, h⟩ := h
  refine rno 12 [.run [⟨14, true, (decide (x97 < (ln p0)))⟩] (binOp .sub 3 (iv x97) (iv p1)) (iv x99)] 12 [(0, sv ad1 p0 cap2), (1, iv p1), (2, iv p2), (7, iv x97), (21, .bool (bif (decide (x97 < (ln p0))) then (decide (x99 ≤ p2)) else false))] hF (ocons (obSubC (fun hk => gd_some hx99 hk)) onil) fun a hF => ?_
  rcases Bool.eq_false_or_eq_true ((bif (decide (x97 < (ln p0))) then (decide (x99 ≤ p2)) else false)) with hg100 | hg100
  ·replace h := bif_t h hg100
   rw [hg100] at hF
   replace h := bindS h
   obtain ⟨u101, hu101, h⟩ := h
   obtain ⟨cs102, hcs103, hR104⟩ := getI_all2 hA4.2 hu101
   obtain ⟨ad105, cap106, rfl, hA107⟩ := hR104
   refine rno 7 [.run [⟨21, true, true⟩] (Instr.indexAt 48 (sv ad1 p0 cap2) (iv p1)) (.pointer (some (slAddr ad1 p1 1))), .run [⟨21, true, true⟩] (Instr.loadAt 43 (.pointer (some (slAddr ad1 p1 1)))) (sv ad105 u101 cap106)] 19 [(0, sv ad1 p0 cap2), (1, iv p1), (2, iv p2), (7, iv x97), (28, .bool (decide ((ln u101) > 0)))] hF (ocons (obIdxQ (hA4.at (hS.frz (i := 0) rfl hlow)) (by kernel_rfl) (fun _ => hcs103)) (ocons (obElQ (i := p1) 0 (fN_len 1) (fun _ hd => (hA4.at ((hS.at_ hd).frz (i := 0) rfl hlow))) (by kernel_rfl) (fun _ => hcs103) rfl) onil)) fun a hF => ?_
   refine wfn rfl ?_
   refine econd hF rfl (fun hc => ?_) (fun hc => ?_)
   ·replace h := bif_t h hc
    refine wpIn_skip (norm_then ?_)
    refine eseq ?_
    refine wpIn_block ?_
    refine esr ?_
    replace h := bindS h
    obtain ⟨u108, hu108, h⟩ := h
    obtain ⟨cs109, hcs110, hR111⟩ := getI_all2 hA4.2 hu108
    obtain ⟨ad112, cap113, rfl, hA114⟩ := hR111
    refine rno 6 [.run [] (Instr.indexAt 48 (sv ad1 p0 cap2) (iv x97)) (.pointer (some (slAddr ad1 x97 1))), .run [] (Instr.loadAt 43 (.pointer (some (slAddr ad1 x97 1)))) (sv ad112 u108 cap113)] 6 [(0, sv ad1 p0 cap2), (1, iv p1), (2, iv p2), (7, iv x97), (36, .bool (decide ((ln u108) > 0)))] hF (ocons (obIdxQ (hA4.at (hS.frz (i := 0) rfl hlow)) (by kernel_rfl) (fun _ => hcs110)) (ocons (obElQ (i := x97) 0 (fN_len 1) (fun _ hd => (hA4.at ((hS.at_ hd).frz (i := 0) rfl hlow))) (by kernel_rfl) (fun _ => hcs110) rfl) onil)) fun a hF => ?_
    refine wfn rfl ?_
    refine econd hF rfl (fun hc => ?_) (fun hc => ?_)
    ·replace h := bif_t h hc
     refine esr ?_
     refine rn 2 2 [(6, iv x97)] hF fun a hF => ?_
     refine wfn rfl ?_
     refine wpIn_ret (ret_block <| ret_then <| ret_then <| ret_block <| ret_then <| fn_ret [.tmp 6] [iv x97] hF rfl ⟨rfl, trivial⟩ ?_)
     have hr_ := Option.some.inj h
     subst hr_
     exact ⟨rfl, hS.ext⟩
    ·replace h := bif_f h hc
     refine wpIn_skip (norm_block <| norm_then <| ?_)
     refine WI.region ?_
     replace h := bindS h
     obtain ⟨x115, hx115, h⟩ := h
     refine rno 3 [.run [] (binOp .add 3 (iv x97) (iv 1)) (iv x115)] 3 [(0, sv ad1 p0 cap2), (1, iv p1), (2, iv p2), (7, iv x115)] hF (ocons (obAddC (fun _ => hx115)) onil) fun a hF => ?_
     refine wfn rfl ?_
     rw [hk2] at h
     exact ⟨nk2, Nat.lt_succ_self _, x115, hF.sub (by kernel_rfl), St.pick [0] (by decide) hS, h⟩
   ·replace h := bif_f h hc
    refine wpIn_exit (exit_then <| exit_then <| exit_hit <| norm_then ?_)
    exact ⟨hF.sub (by kernel_rfl), St.pick [0] (by decide) hS, h⟩
  ·replace h := bif_f h hg100
   rw [hg100] at hF
   refine skip_ 13 [(0, sv ad1 p0 cap2), (1, iv p1), (2, iv p2), (7, iv x97), (21, .bool false), (22, undef)] hF (by kernel_rfl) ⟨by kernel_rfl⟩ ⟨by kernel_rfl⟩ rfl fun a hF => ?_
   refine skip_ 14 [(0, sv ad1 p0 cap2), (1, iv p1), (2, iv p2), (7, iv x97), (21, .bool false), (22, undef), (23, undef)] hF (by kernel_rfl) ⟨by kernel_rfl⟩ ⟨by kernel_rfl⟩ rfl fun a hF => ?_
   refine skip_ 15 [(0, sv ad1 p0 cap2), (1, iv p1), (2, iv p2), (7, iv x97), (21, .bool false), (24, undef)] hF (by kernel_rfl) ⟨by kernel_rfl⟩ ⟨by kernel_rfl⟩ rfl fun a hF => ?_
   refine skip_ 16 [(0, sv ad1 p0 cap2), (1, iv p1), (2, iv p2), (7, iv x97), (21, .bool false), (25, undef)] hF (by kernel_rfl) ⟨by kernel_rfl⟩ ⟨by kernel_rfl⟩ rfl fun a hF => ?_
   refine skip_ 17 [(0, sv ad1 p0 cap2), (1, iv p1), (2, iv p2), (7, iv x97), (21, .bool false), (26, undef)] hF (by kernel_rfl) ⟨by kernel_rfl⟩ ⟨by kernel_rfl⟩ rfl fun a hF => ?_
   refine skip_ 18 [(0, sv ad1 p0 cap2), (1, iv p1), (2, iv p2), (7, iv x97), (21, .bool false), (27, undef)] hF (by kernel_rfl) ⟨by kernel_rfl⟩ ⟨by kernel_rfl⟩ rfl fun a hF => ?_
   refine rn 1 19 [(0, sv ad1 p0 cap2), (1, iv p1), (2, iv p2), (7, iv x97), (28, .bool false)] hF fun a hF => ?_
   refine wfn rfl ?_
   refine wpIn_cond_false (hF.get rfl) ?_
   refine wpIn_exit (exit_then <| exit_then <| exit_hit <| norm_then ?_)
   exact ⟨hF.sub (by kernel_rfl), St.pick [0] (by decide) hS, h⟩
 rintro a w ⟨hF, hS, h⟩
 rw [ref03_Next_K1] at h
 refine esr ?_
 refine rn 1 1 [(6, iv (-1))] hF fun a hF => ?_
 refine wfn rfl ?_
 refine wpIn_ret (fn_ret [.tmp 6] [iv (-1)] hF rfl ⟨rfl, trivial⟩ ?_)
 have hr_ := Option.some.inj h
 subst hr_
 exact ⟨rfl, hS.ext⟩

theorem ref03_meet_ok (F : Nat) (p0 : (List api_Span)) (p1 : (List api_Span)) (res : (List api_Span)) (h : ref03_meet F p0 p1 = some res) (μ : Frz) (w0 : World) (hm : FrzAt μ w0) {ad1 : Option Addr} {cap2 : Nat} {ad4 : Option Addr} {cap5 : Nat} (hA3 : ArrM μ 2 api_Span.cells ad1 cap2 p0) (hA6 : ArrM μ 2 api_Span.cells ad4 cap5 p1) : Calls Try.prog 74 #[sv ad1 p0 cap2, sv ad4 p1 cap5] w0 (fun e w => ∃ zad0 zcap0, e = .returned (sv zad0 res zcap0) ∧ St w0 [arr 25 2 api_Span.cells zad0 res.length zcap0 res] w) := by
 obtain ⟨hlow, hS⟩ := hm.init
 have hext := Frz.ext_refl w0.heap.size μ
 rw [ref03_meet] at h
 refine fn_enterW Try.func74 rfl 41 [(0, sv ad1 p0 cap2), (1, sv ad4 p1 cap5)] rfl rfl (by kernel_rfl) fun a w hw hF => ?_
 replace hS : St w0 [fz w0 μ] w := by rw [hw]; exact hS
 clear hw
 refine esr ?_
 refine rn 1 1 [(0, sv ad1 p0 cap2), (1, sv ad4 p1 cap5)] hF fun a hF => ?_
 refine wfn rfl ?_
 refine esr ?_
 refine rn 1 1 [(0, sv ad1 p0 cap2), (1, sv ad4 p1 cap5), (5, .slice none 0 0)] hF fun a hF => ?_
 refine wfn rfl ?_
 refine ecut (fun a w => ∃ (l861 : (List api_Span)) (ad859 : Option Addr) (cap860 : Nat), Fr 41 [] [(5, sv ad859 l861 cap860)] a ∧ St w0 [arr 25 2 api_Span.cells ad859 l861.length cap860 l861, fz w0 μ] w ∧ ref03_meet_K1 F l861 = some res) ?_ ?_
 ·skip
  refine esr ?_
  refine rn 1 1 [(0, sv ad1 p0 cap2), (1, sv ad4 p1 cap5), (5, .slice none 0 0), (6, iv 0)] hF fun a hF => ?_
  refine wfn rfl ?_
  refine wpIn_block ?_
  replace hS := hS.nilarr 25 2 api_Span.cells
  refine eloop (fun n_ a w => ∃ (l1435 : (List api_Span)) (x1436 : Int) (ad1433 : Option Addr) (cap1434 : Nat), Fr 41 [] [(0, sv ad1 p0 cap2), (1, sv ad4 p1 cap5), (5, sv ad1433 l1435 cap1434), (6, iv x1436)] a ∧ St w0 [arr 25 2 api_Span.cells ad1433 l1435.length cap1434 l1435, fz w0 μ] w ∧ ref03_meet_L2 F p0 p1 n_ l1435 x1436 = some res) F ⟨[], 0, none, 0, hF.sub (by kernel_rfl), St.pick [0, 1] (by decide) hS, h⟩ ?_
  rintro nk2 a w ⟨l1435, x1436, ad1433, cap1434, hF, hS, h⟩
  rcases nk2 with _ | nk2
  ·cases (show (none : Option (List api_Span)) = some res from h)
  obtain ⟨k2, hk2⟩ : ∃ k, k = ref03_meet_L2 F p0 p1 nk2 := ⟨_, rfl⟩
  replace h : ref03_meet_B2 F p0 p1 k2 l1435 x1436 = some res := by rw [hk2]; exact h
  rw [ref03_meet_B2] at h
  refine eseq ?_
  refine esr ?_
  refine rn 4 4 [(0, sv ad1 p0 cap2), (1, sv ad4 p1 cap5), (5, sv ad1433 l1435 cap1434), (6, iv x1436), (13, .bool (decide (x1436 < (ln p0))))] hF fun a hF => ?_
  refine wfn rfl ?_
  refine econd hF rfl (fun hc => ?_) (fun hc => ?_)
  ·replace h := bif_t h hc
   refine wpIn_skip (norm_then ?_)
   refine ecut (fun a w => ∃ (l1578 : (List api_Span)) (ad1576 : Option Addr) (cap1577 : Nat), Fr 41 [] [(0, sv ad1 p0 cap2), (1, sv ad4 p1 cap5), (5, sv ad1576 l1578 cap1577), (6, iv x1436)] a ∧ St w0 [arr 25 2 api_Span.cells ad1576 l1578.length cap1577 l1578, fz w0 μ] w ∧ ref03_meet_K3 x1436 k2 l1578 = some res) ?_ ?_
   ·skip
    refine wpIn_block ?_
    refine esr ?_
    refine rn 1 1 [(0, sv ad1 p0 cap2), (1, sv ad4 p1 cap5), (5, sv ad1433 l1435 cap1434), (6, iv x1436), (7, iv 0)] hF fun a hF => ?_
    refine wfn rfl ?_
    refine wpIn_block ?_
    refine eloop (fun n_ a w => ∃ (l1673 : (List api_Span)) (x1674 : Int) (ad1671 : Option Addr) (cap1672 : Nat), Fr 41 [] [(0, sv ad1 p0 cap2), (1, sv ad4 p1 cap5), (5, sv ad1671 l1673 cap1672), (6, iv x1436), (7, iv x1674)] a ∧ St w0 [arr 25 2 api_Span.cells ad1671 l1673.length cap1672 l1673, fz w0 μ] w ∧ ref03_meet_L4 p0 p1 x1436 k2 n_ l1673 x1674 = some res) F ⟨l1435, 0, ad1433, cap1434, hF.sub (by kernel_rfl), St.pick [0, 1] (by decide) hS, h⟩ ?_
    rintro nk4 a w ⟨l1673, x1674, ad1671, cap1672, hF, hS, h⟩
    rcases nk4 with _ | nk4
    ·cases (show (none : Option (List api_Span)) = some res from h)
    obtain ⟨k4, hk4⟩ : ∃ k, k = ref03_meet_L4 p0 p1 x1436 k2 nk4 := ⟨_, rfl⟩
    replace h : ref03_meet_B4 p0 p1 x1436 k2 k4 l1673 x1674 = some res := by rw [hk4]; exact h
    rw [ref03_meet_B4] at h
    refine eseq ?_
    refine esr ?_
    refine rn 4 4 [(0, sv ad1 p0 cap2), (1, sv ad4 p1 cap5), (5, sv ad1671 l1673 cap1672), (6, iv x1436), (7, iv x1674), (19, .bool (decide (x1674 < (ln p1))))] hF fun a hF => ?_
    refine wfn rfl ?_
    refine econd hF rfl (fun hc => ?_) (fun hc => ?_)
    ·replace h := bif_t h hc
     refine wpIn_skip (norm_then ?_)
     refine ecut (fun a w => ∃ (l1697 : (List api_Span)) (ad1695 : Option Addr) (cap1696 : Nat), Fr 41 [] [(0, sv ad1 p0 cap2), (1, sv ad4 p1 cap5), (5, sv ad1695 l1697 cap1696), (6, iv x1436), (7, iv x1674)] a ∧ St w0 [arr 25 2 api_Span.cells ad1695 l1697.length cap1696 l1697, fz w0 μ] w ∧ ref03_meet_K5 x1674 k4 l1697 = some res) ?_ ?_
     ·skip
      refine wpIn_block ?_
      refine eseq ?_
      replace h := bindS h
      obtain ⟨u1700, hu1700, h⟩ := h
      replace h := bindS h
      obtain ⟨u1701, hu1701, h⟩ := h
      refine region_treeW 15 [8, 12, 13] (fun a w => ∃ (b1709 : Nat), Fr 41 [] [(0, sv ad1 p0 cap2), (1, sv ad4 p1 cap5), (5, sv ad1671 l1673 cap1672), (6, iv x1436), (7, iv x1674), (8, pb b1709), (9, .bool ((ref03_common u1700 u1701).2))] a ∧ St w0 [blk b1709 25 #[iv (((ref03_common u1700 u1701).1).Lo), iv (((ref03_common u1700 u1701).1).Hi)], arr 25 2 api_Span.cells ad1671 l1673.length cap1672 l1673, fz w0 μ] w) (D := fun w => St w0 [arr 25 2 api_Span.cells ad1671 l1673.length cap1672 l1673] w ∧ FrzAt μ w) (by kernel_rfl) (by kernel_rfl) hF.size (fun w hx => ?_) ?_
      ·skip
       replace hS := hS.later hx
       refine ⟨⟨St.pick [0] (by decide) hS, hS.frz (i := 1) rfl hlow⟩, ?_⟩
       have hcl1710 := Frz.le_refl μ
       refine WT.s [0, 1, 2, 3, 4, 5, 6, 7] [8, 12] (by kernel_rfl) (by kernel_rfl) ?_
       refine runC (rest := []) (obs := [.run [] (Instr.indexAt 43 (sv ad1 p0 cap2) (iv x1436)) (.pointer (some (slAddr ad1 x1436 2))), .run [] (Instr.loadAt 25 (.pointer (some (slAddr ad1 x1436 2)))) (.agg #[iv u1700.Lo, iv u1700.Hi]), .run [] (Instr.indexAt 43 (sv ad4 p1 cap5) (iv x1674)) (.pointer (some (slAddr ad4 x1674 2))), .run [] (Instr.loadAt 25 (.pointer (some (slAddr ad4 x1674 2)))) (.agg #[iv u1701.Lo, iv u1701.Hi])]) [0, 1, 2, 3, 4, 5, 6, 7] [(0, sv ad1 p0 cap2), (1, sv ad4 p1 cap5), (5, sv ad1671 l1673 cap1672), (6, iv x1436), (7, iv x1674), (26, .agg #[iv u1700.Lo, iv u1700.Hi]), (30, .agg #[iv u1701.Lo, iv u1701.Hi])] hF (by kernel_rfl) (by kernel_rfl) (ocons (obIdxQ (hA3 _ (hS.frz (i := 1) rfl hlow)) (by kernel_rfl) (fun _ => hu1700)) (ocons (obElNQ (m := 2) (i := x1436) (us := [iv u1700.Lo, iv u1700.Hi]) 0 api_Span.cells_len (fun _ hd => (hA3 _ hd.2)) (by kernel_rfl) (fun _ => hu1700) ⟨rfl, rfl⟩) (ocons (obIdxQ (hA6 _ (hS.frz (i := 1) rfl hlow)) (by kernel_rfl) (fun _ => hu1701)) (ocons (obElNQ (m := 2) (i := x1674) (us := [iv u1701.Lo, iv u1701.Hi]) 0 api_Span.cells_len (fun _ hd => (hA6 _ hd.2)) (by kernel_rfl) (fun _ => hu1701) ⟨rfl, rfl⟩) onil)))) ⟨by kernel_rfl⟩ fun a hF => ?_
       refine WRun.fin ?_
       refine all_cons ?_ (all_cons ?_ (all_nil))
       ·skip
        refine callK (f := 58) (args := #[.agg #[iv u1700.Lo, iv u1700.Hi], .agg #[iv u1701.Lo, iv u1701.Hi]]) (R := fun v w2 => v = .tuple #[.agg #[iv (((ref03_common u1700 u1701).1).Lo), iv (((ref03_common u1700 u1701).1).Hi)], .bool ((ref03_common u1700 u1701).2)] ∧ Ext w w2) (fun v1711 => [(0, sv ad1 p0 cap2), (1, sv ad4 p1 cap5), (5, sv ad1671 l1673 cap1672), (6, iv x1436), (7, iv x1674), (31, v1711)]) hF (by kernel_rfl) ⟨by kernel_rfl⟩ (Calls.mono (ref03_common_ok u1700 u1701 _ rfl (memOf w) w (memOf_at w) ) (fun e w2 h => ⟨_, h.1, rfl, h.2⟩)) (fun _ => ⟨by kernel_rfl⟩) ?_
        rintro v1711 w a ⟨rfl, hx⟩ hF
        replace hS := hS.later hx
        refine ⟨⟨St.pick [0] (by decide) hS, (hS.frz (i := 1) rfl hlow)⟩, ?_⟩
        refine WT.s [9, 10, 11] [12] (by kernel_rfl) (by kernel_rfl) ?_
        refine runC (rest := []) (obs := []) [9, 10, 11] [(0, sv ad1 p0 cap2), (1, sv ad4 p1 cap5), (5, sv ad1671 l1673 cap1672), (6, iv x1436), (7, iv x1674), (32, .agg #[iv (((ref03_common u1700 u1701).1).Lo), iv (((ref03_common u1700 u1701).1).Hi)]), (33, .bool ((ref03_common u1700 u1701).2))] hF (by kernel_rfl) (by kernel_rfl) onil ⟨by kernel_rfl⟩ fun a hF => ?_
        refine WRun.fin ?_
        refine all_cons ?_ (all_nil)
        refine allocK (t := 25) (fun b1712 => [(0, sv ad1 p0 cap2), (1, sv ad4 p1 cap5), (5, sv ad1671 l1673 cap1672), (6, iv x1436), (7, iv x1674), (8, pb b1712), (32, .agg #[iv (((ref03_common u1700 u1701).1).Lo), iv (((ref03_common u1700 u1701).1).Hi)]), (33, .bool ((ref03_common u1700 u1701).2))]) #[iv 0, iv 0] hF hS (by kernel_rfl) ⟨by kernel_rfl⟩ (by kernel_rfl) (fun _ => ⟨by kernel_rfl⟩) fun b1712 w a hF hS => ⟨⟨St.pick [1] (by decide) hS, (hS.frz (i := 2) rfl hlow)⟩, ?_⟩
        refine WT.s [] [13] (by kernel_rfl) (by kernel_rfl) ?_
        refine WRun.fin ?_
        refine all_cons ?_ (all_nil)
        refine storeK (t := 25) [(0, sv ad1 p0 cap2), (1, sv ad4 p1 cap5), (5, sv ad1671 l1673 cap1672), (6, iv x1436), (7, iv x1674), (8, pb b1712), (33, .bool ((ref03_common u1700 u1701).2))] 0 0 (.agg #[iv (((ref03_common u1700 u1701).1).Lo), iv (((ref03_common u1700 u1701).1).Hi)]) #[iv (((ref03_common u1700 u1701).1).Lo), iv (((ref03_common u1700 u1701).1).Hi)] hF hS rfl (by kernel_rfl) ⟨by kernel_rfl⟩ (by kernel_rfl) (by kernel_rfl) (by kernel_rfl) (by kernel_rfl) ⟨by kernel_rfl⟩ fun w a hF hS => ⟨⟨St.pick [1] (by decide) hS, (hS.frz (i := 2) rfl hlow)⟩, ?_⟩
        refine WT.z [14] (by kernel_rfl) ?_
        refine runC (rest := []) (obs := []) [14] [(0, sv ad1 p0 cap2), (1, sv ad4 p1 cap5), (5, sv ad1671 l1673 cap1672), (6, iv x1436), (7, iv x1674), (8, pb b1712), (9, .bool ((ref03_common u1700 u1701).2))] hF (by kernel_rfl) (by kernel_rfl) onil ⟨by kernel_rfl⟩ fun a hF => ?_
        refine WRun.fin ?_
        exact ⟨b1712, hF.sub (by kernel_rfl), St.pick [0, 1, 2] (by decide) hS⟩
       ·skip
        refine allocK (t := 25) (fun b1713 => [(0, sv ad1 p0 cap2), (1, sv ad4 p1 cap5), (5, sv ad1671 l1673 cap1672), (6, iv x1436), (7, iv x1674), (8, pb b1713), (26, .agg #[iv u1700.Lo, iv u1700.Hi]), (30, .agg #[iv u1701.Lo, iv u1701.Hi])]) #[iv 0, iv 0] hF hS (by kernel_rfl) ⟨by kernel_rfl⟩ (by kernel_rfl) (fun _ => ⟨by kernel_rfl⟩) fun b1713 w a hF hS => ⟨⟨St.pick [1] (by decide) hS, (hS.frz (i := 2) rfl hlow)⟩, ?_⟩
        refine WT.s [] [8] (by kernel_rfl) (by kernel_rfl) ?_
        refine WRun.fin ?_
        refine all_cons ?_ (all_nil)
        refine callK (f := 58) (args := #[.agg #[iv u1700.Lo, iv u1700.Hi], .agg #[iv u1701.Lo, iv u1701.Hi]]) (R := fun v w2 => v = .tuple #[.agg #[iv (((ref03_common u1700 u1701).1).Lo), iv (((ref03_common u1700 u1701).1).Hi)], .bool ((ref03_common u1700 u1701).2)] ∧ Ext w w2) (fun v1714 => [(0, sv ad1 p0 cap2), (1, sv ad4 p1 cap5), (5, sv ad1671 l1673 cap1672), (6, iv x1436), (7, iv x1674), (8, pb b1713), (31, v1714)]) hF (by kernel_rfl) ⟨by kernel_rfl⟩ (Calls.mono (ref03_common_ok u1700 u1701 _ rfl (memOf w) w (memOf_at w) ) (fun e w2 h => ⟨_, h.1, rfl, h.2⟩)) (fun _ => ⟨by kernel_rfl⟩) ?_
        rintro v1714 w a ⟨rfl, hx⟩ hF
        replace hS := hS.later hx
        refine ⟨⟨St.pick [1] (by decide) hS, (hS.frz (i := 2) rfl hlow)⟩, ?_⟩
        refine WT.s [9, 10, 11] [13] (by kernel_rfl) (by kernel_rfl) ?_
        refine runC (rest := []) (obs := []) [9, 10, 11] [(0, sv ad1 p0 cap2), (1, sv ad4 p1 cap5), (5, sv ad1671 l1673 cap1672), (6, iv x1436), (7, iv x1674), (8, pb b1713), (32, .agg #[iv (((ref03_common u1700 u1701).1).Lo), iv (((ref03_common u1700 u1701).1).Hi)]), (33, .bool ((ref03_common u1700 u1701).2))] hF (by kernel_rfl) (by kernel_rfl) onil ⟨by kernel_rfl⟩ fun a hF => ?_
        refine WRun.fin ?_
        refine all_cons ?_ (all_nil)
        refine storeK (t := 25) [(0, sv ad1 p0 cap2), (1, sv ad4 p1 cap5), (5, sv ad1671 l1673 cap1672), (6, iv x1436), (7, iv x1674), (8, pb b1713), (33, .bool ((ref03_common u1700 u1701).2))] 0 0 (.agg #[iv (((ref03_common u1700 u1701).1).Lo), iv (((ref03_common u1700 u1701).1).Hi)]) #[iv (((ref03_common u1700 u1701).1).Lo), iv (((ref03_common u1700 u1701).1).Hi)] hF hS rfl (by kernel_rfl) ⟨by kernel_rfl⟩ (by kernel_rfl) (by kernel_rfl) (by kernel_rfl) (by kernel_rfl) ⟨by kernel_rfl⟩ fun w a hF hS => ⟨⟨St.pick [1] (by decide) hS, (hS.frz (i := 2) rfl hlow)⟩, ?_⟩
        refine WT.z [14] (by kernel_rfl) ?_
        refine runC (rest := []) (obs := []) [14] [(0, sv ad1 p0 cap2), (1, sv ad4 p1 cap5), (5, sv ad1671 l1673 cap1672), (6, iv x1436), (7, iv x1674), (8, pb b1713), (9, .bool ((ref03_common u1700 u1701).2))] hF (by kernel_rfl) (by kernel_rfl) onil ⟨by kernel_rfl⟩ fun a hF => ?_
        refine WRun.fin ?_
        exact ⟨b1713, hF.sub (by kernel_rfl), St.pick [0, 1, 2] (by decide) hS⟩
      rintro a w ⟨b1709, hF, hS⟩
      refine wfn rfl ?_
      refine esr ?_
      refine rn 1 1 [(0, sv ad1 p0 cap2), (1, sv ad4 p1 cap5), (5, sv ad1671 l1673 cap1672), (6, iv x1436), (7, iv x1674), (8, pb b1709), (34, .bool ((ref03_common u1700 u1701).2))] hF fun a hF => ?_
      refine wfn rfl ?_
      refine econd hF rfl (fun hc => ?_) (fun hc => ?_)
      ·replace h := bif_t h hc
       refine WI.region ?_
       refine rno 2 [.run [] (Instr.loadAt 25 (pb b1709)) (.agg #[iv (((ref03_common u1700 u1701).1).Lo), iv (((ref03_common u1700 u1701).1).Hi)])] 2 [(0, sv ad1 p0 cap2), (1, sv ad4 p1 cap5), (5, sv ad1671 l1673 cap1672), (6, iv x1436), (7, iv x1674), (35, sv ad1671 l1673 cap1672), (36, .agg #[iv (((ref03_common u1700 u1701).1).Lo), iv (((ref03_common u1700 u1701).1).Hi)])] hF (ocons (obN (us := [iv (((ref03_common u1700 u1701).1).Lo), iv (((ref03_common u1700 u1701).1).Hi)]) (by kernel_rfl) (fun _ hd => ((hS.at_ hd).blk (i := 0) rfl).cells rfl)) onil) fun a hF => ?_
       refine SK.wi (litK (e := 25) (sz := 2) (f := api_Span.cells) (t := 43) (len := 1) (fun b1715 => [(0, sv ad1 p0 cap2), (1, sv ad4 p1 cap5), (5, sv ad1671 l1673 cap1672), (6, iv x1436), (7, iv x1674), (35, sv ad1671 l1673 cap1672), (37, sb b1715 1)]) #[(0, .agg #[iv (((ref03_common u1700 u1701).1).Lo), iv (((ref03_common u1700 u1701).1).Hi)])] #[iv (((ref03_common u1700 u1701).1).Lo), iv (((ref03_common u1700 u1701).1).Hi)] ([(api_Span.mk (((ref03_common u1700 u1701).1).Lo) (((ref03_common u1700 u1701).1).Hi))]) hF hS (by kernel_rfl) ⟨by kernel_rfl⟩ (by kernel_rfl) api_Span.cells_len rfl rfl (by kernel_rfl) (fun _ => ⟨by kernel_rfl⟩) fun b1715 w a hF hS => ?_)
       replace h := bindS h
       obtain ⟨l1716, hl1716, h⟩ := h
       refine SK.wi (appK (t := 43) (ty := 43) (bytes := 16) (l := l1673) (l' := ([(api_Span.mk (((ref03_common u1700 u1701).1).Lo) (((ref03_common u1700 u1701).1).Hi))])) (fun ad1717 cap1718 => [(0, sv ad1 p0 cap2), (1, sv ad4 p1 cap5), (5, sv ad1671 l1673 cap1672), (6, iv x1436), (7, iv x1674), (38, sv ad1717 l1716 cap1718)]) 2 hF hS rfl (by kernel_rfl) ⟨by kernel_rfl⟩ (by kernel_rfl) (hS.arr (i := 0) rfl) (fun _ _ => rfl) hl1716 (fun _ _ => ⟨by kernel_rfl⟩) fun ad1717 cap1718 w a hF hS => ?_)
       refine rn 1 5 [(0, sv ad1 p0 cap2), (1, sv ad4 p1 cap5), (5, sv ad1717 l1716 cap1718), (6, iv x1436), (7, iv x1674)] hF fun a hF => ?_
       refine WI.fin rfl (norm_block <| norm_then <| ?_)
       exact ⟨l1716, ad1717, cap1718, hF.sub (by kernel_rfl), St.pick [2, 3] (by decide) hS, h⟩
      ·replace h := bif_f h hc
       refine wpIn_skip (norm_block <| norm_then <| ?_)
       exact ⟨l1673, ad1671, cap1672, hF.sub (by kernel_rfl), St.pick [1, 2] (by decide) hS, h⟩
     rintro a w ⟨l1697, ad1695, cap1696, hF, hS, h⟩
     rw [ref03_meet_K5] at h
     refine WI.region ?_
     replace h := bindS h
     obtain ⟨x1698, hx1698, h⟩ := h
     refine rno 3 [.run [] (binOp .add 3 (iv x1674) (iv 1)) (iv x1698)] 3 [(0, sv ad1 p0 cap2), (1, sv ad4 p1 cap5), (5, sv ad1695 l1697 cap1696), (6, iv x1436), (7, iv x1698)] hF (ocons (obAddC (fun _ => hx1698)) onil) fun a hF => ?_
     refine wfn rfl ?_
     rw [hk4] at h
     exact ⟨nk4, Nat.lt_succ_self _, l1697, x1698, ad1695, cap1696, hF.sub (by kernel_rfl), St.pick [0, 1] (by decide) hS, h⟩
    ·replace h := bif_f h hc
     refine wpIn_exit (exit_then <| exit_then <| exit_hit <| norm_block <| norm_then <| ?_)
     exact ⟨l1673, ad1671, cap1672, hF.sub (by kernel_rfl), St.pick [0, 1] (by decide) hS, h⟩
   rintro a w ⟨l1578, ad1576, cap1577, hF, hS, h⟩
   rw [ref03_meet_K3] at h
   refine WI.region ?_
   replace h := bindS h
   obtain ⟨x1579, hx1579, h⟩ := h
   refine rno 3 [.run [] (binOp .add 3 (iv x1436) (iv 1)) (iv x1579)] 3 [(0, sv ad1 p0 cap2), (1, sv ad4 p1 cap5), (5, sv ad1576 l1578 cap1577), (6, iv x1579)] hF (ocons (obAddC (fun _ => hx1579)) onil) fun a hF => ?_
   refine wfn rfl ?_
   rw [hk2] at h
   exact ⟨nk2, Nat.lt_succ_self _, l1578, x1579, ad1576, cap1577, hF.sub (by kernel_rfl), St.pick [0, 1] (by decide) hS, h⟩
  ·replace h := bif_f h hc
   refine wpIn_exit (exit_then <| exit_then <| exit_hit <| norm_then ?_)
   exact ⟨l1435, ad1433, cap1434, hF.sub (by kernel_rfl), St.pick [0, 1] (by decide) hS, h⟩
 rintro a w ⟨l861, ad859, cap860, hF, hS, h⟩
 rw [ref03_meet_K1] at h
 refine esr ?_
 refine rn 1 1 [(39, sv ad859 l861 cap860)] hF fun a hF => ?_
 replace h := bindS h
 obtain ⟨y863, hy863, h⟩ := h
 refine SK.wi (callK (f := 64) (args := #[sv ad859 l861 cap860]) (R := fun v w2 => ∃ ad864 cap865, v = sv ad864 y863 cap865 ∧ St w [arr 25 2 api_Span.cells ad864 y863.length cap865 y863] w2) (fun v862 => [(40, v862)]) hF (by kernel_rfl) ⟨by kernel_rfl⟩ (Calls.mono (ref03_united_ok F l861 _ hy863 (memOf w) w (memOf_at w) (Arr.toM (hS.arr (i := 0) rfl))) (by rintro e w2 ⟨ad864, cap865, rfl, h⟩; exact ⟨_, rfl, ad864, cap865, rfl, h⟩)) (fun _ => ⟨by kernel_rfl⟩) ?_)
 rintro v862 w a ⟨ad864, cap865, rfl, hQ⟩ hF
 replace hS : St w0 [arr 25 2 api_Span.cells ad864 y863.length cap865 y863, arr 25 2 api_Span.cells ad859 l861.length cap860 l861, fz w0 μ] w := hS.madeL hQ
 refine rn 1 3 [(4, sv ad864 y863 cap865)] hF fun a hF => ?_
 refine wfn rfl ?_
 refine wpIn_ret (fn_ret [.tmp 4] [sv ad864 y863 cap865] hF rfl ⟨rfl, trivial⟩ ?_)
 have hr_ := Option.some.inj h
 subst hr_
 exact ⟨_, _, rfl, St.pick [0] (by decide) hS⟩
end Go.Proofs.Ytbhjgebjojdohaa
