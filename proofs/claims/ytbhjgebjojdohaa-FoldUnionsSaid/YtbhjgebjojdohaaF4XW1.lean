/- Walks, written by program (wip/gen/dec.py). -/
import Derived.Test.YtbhjgebjojdohaaF4XD
import Derived.Test.YtbhjgebjojdohaaProg
import Derived.Test.YtbhjgebjojdohaaF4XW0
import Derived.Test.YtbhjgebjojdohaaF4WkG
namespace Go.Proofs.Ytbhjgebjojdohaa
open Go Go.RowKit Go.Eng
set_option maxRecDepth 10000
set_option maxHeartbeats 4000000
set_option linter.unusedVariables false
set_option linter.unusedSimpArgs false
theorem fold_Union_ok (F : Nat) (p0 : (List api_Span)) (res : ((List api_Span) × Int)) (h : fold_Union F p0 = some res) (μ : Frz) (w0 : World) (hm : FrzAt μ w0) {ad1 : Option Addr} {cap2 : Nat} (hA3 : ArrM μ 2 api_Span.cells ad1 cap2 p0) : Calls Try.prog 20 #[sv ad1 p0 cap2] w0 (fun e w => ∃ zad0 zcap0, e = .returned (.tuple #[sv zad0 res.1 zcap0, iv res.2]) ∧ St w0 [arr 25 2 api_Span.cells zad0 res.1.length zcap0 res.1] w) := by
 obtain ⟨hlow, hS⟩ := hm.init
 have hext := Frz.ext_refl w0.heap.size μ
 rw [fold_Union] at h
 refine fn_enterW Try.func20 rfl 12 [(0, sv ad1 p0 cap2)] rfl rfl (by kernel_rfl) fun a w hw hF => ?_
 replace hS : St w0 [fz w0 μ] w := by rw [hw]; exact hS
 clear hw
 refine esr ?_
 refine rn 2 2 [(0, sv ad1 p0 cap2)] hF fun a hF => ?_
 refine wfn rfl ?_
 refine eseq ?_
 refine esr ?_
 replace h := bindS h
 obtain ⟨y4, hy4, h⟩ := h
 refine rx 3 [.call [] 61 #[sv ad1 p0 cap2, .bool false] (iv y4)] 3 [(0, sv ad1 p0 cap2), (4, iv y4)] hF (ocons (show Ob.ok _ Ext _ _ from fun hk w2 hd => fold_checked_ok F p0 false _ ((fun _ => hy4) hk) _ w2 (memOf_at w2) (hA3.mono (FrzAt.le_mem ((hS.later hd).frz (i := 0) rfl hlow)))) onil) fun a w hF hx => ?_
 replace hS := hS.later hx
 refine wfn rfl ?_
 refine esr ?_
 refine rn 2 2 [(0, sv ad1 p0 cap2), (4, iv y4), (8, .bool (y4 != 0))] hF fun a hF => ?_
 refine wfn rfl ?_
 refine econd hF rfl (fun hc => ?_) (fun hc => ?_)
 ·replace h := bif_t h hc
  refine esr ?_
  refine rn 3 3 [(2, .slice none 0 0), (3, iv y4)] hF fun a hF => ?_
  refine wfn rfl ?_
  refine wpIn_ret (ret_then <| fn_ret [.tmp 2, .tmp 3] [.slice none 0 0, iv y4] hF rfl ⟨rfl, rfl, trivial⟩ ?_)
  have hr_ := Option.some.inj h
  subst hr_
  replace hS := hS.nilarr 25 2 api_Span.cells
  exact ⟨_, _, rfl, St.pick [0] (by decide) hS⟩
 ·replace h := bif_f h hc
  refine wpIn_skip (norm_then ?_)
  refine esr ?_
  refine rn 1 1 [(10, sv ad1 p0 cap2)] hF fun a hF => ?_
  replace h := bindS h
  obtain ⟨y6, hy6, h⟩ := h
  refine SK.wi (callK (f := 62) (args := #[sv ad1 p0 cap2]) (R := fun v w2 => ∃ ad7 cap8, v = sv ad7 y6 cap8 ∧ St w [arr 25 2 api_Span.cells ad7 y6.length cap8 y6] w2) (fun v5 => [(11, v5)]) hF (by kernel_rfl) ⟨by kernel_rfl⟩ (Calls.mono (fold_speeds_united_ok F p0 _ hy6 (memOf w) w (memOf_at w) (hA3.mono (FrzAt.le_mem (hS.frz (i := 0) rfl hlow)))) (by rintro e w2 ⟨ad7, cap8, rfl, h⟩; exact ⟨_, rfl, ad7, cap8, rfl, h⟩)) (fun _ => ⟨by kernel_rfl⟩) ?_)
  rintro v5 w a ⟨ad7, cap8, rfl, hQ⟩ hF
  replace hS : St w0 [arr 25 2 api_Span.cells ad7 y6.length cap8 y6, fz w0 μ] w := hS.madeL hQ
  refine rn 2 4 [(2, sv ad7 y6 cap8), (3, iv 0)] hF fun a hF => ?_
  refine wfn rfl ?_
  refine wpIn_ret (fn_ret [.tmp 2, .tmp 3] [sv ad7 y6 cap8, iv 0] hF rfl ⟨rfl, rfl, trivial⟩ ?_)
  have hr_ := Option.some.inj h
  subst hr_
  exact ⟨_, _, rfl, St.pick [0] (by decide) hS⟩

theorem ref03_Union_ok (F : Nat) (p0 : (List api_Span)) (res : ((List api_Span) × Int)) (h : ref03_Union F p0 = some res) (μ : Frz) (w0 : World) (hm : FrzAt μ w0) {ad1 : Option Addr} {cap2 : Nat} (hA3 : ArrM μ 2 api_Span.cells ad1 cap2 p0) : Calls Try.prog 21 #[sv ad1 p0 cap2] w0 (fun e w => ∃ zad0 zcap0, e = .returned (.tuple #[sv zad0 res.1 zcap0, iv res.2]) ∧ St w0 [arr 25 2 api_Span.cells zad0 res.1.length zcap0 res.1] w) := by
 obtain ⟨hlow, hS⟩ := hm.init
 have hext := Frz.ext_refl w0.heap.size μ
 rw [ref03_Union] at h
 refine fn_enterW Try.func21 rfl 12 [(0, sv ad1 p0 cap2)] rfl rfl (by kernel_rfl) fun a w hw hF => ?_
 replace hS : St w0 [fz w0 μ] w := by rw [hw]; exact hS
 clear hw
 refine esr ?_
 refine rn 2 2 [(0, sv ad1 p0 cap2)] hF fun a hF => ?_
 refine wfn rfl ?_
 refine esr ?_
 replace h := bindS h
 obtain ⟨y4, hy4, h⟩ := h
 refine rx 3 [.call [] 63 #[sv ad1 p0 cap2, .bool false] (iv y4)] 3 [(0, sv ad1 p0 cap2), (4, iv y4)] hF (ocons (show Ob.ok _ Ext _ _ from fun hk w2 hd => ref03_spans_ok F p0 false _ ((fun _ => hy4) hk) _ w2 (memOf_at w2) (hA3.mono (FrzAt.le_mem ((hS.later hd).frz (i := 0) rfl hlow)))) onil) fun a w hF hx => ?_
 replace hS := hS.later hx
 refine wfn rfl ?_
 refine eseq ?_
 refine esr ?_
 refine rn 2 2 [(0, sv ad1 p0 cap2), (4, iv y4), (8, .bool (y4 != 0))] hF fun a hF => ?_
 refine wfn rfl ?_
 refine econd hF rfl (fun hc => ?_) (fun hc => ?_)
 ·replace h := bif_t h hc
  refine esr ?_
  refine rn 3 3 [(2, .slice none 0 0), (3, iv y4)] hF fun a hF => ?_
  refine wfn rfl ?_
  refine wpIn_ret (ret_then <| fn_ret [.tmp 2, .tmp 3] [.slice none 0 0, iv y4] hF rfl ⟨rfl, rfl, trivial⟩ ?_)
  have hr_ := Option.some.inj h
  subst hr_
  replace hS := hS.nilarr 25 2 api_Span.cells
  exact ⟨_, _, rfl, St.pick [0] (by decide) hS⟩
 ·replace h := bif_f h hc
  refine wpIn_skip (norm_then ?_)
  refine esr ?_
  refine rn 1 1 [(10, sv ad1 p0 cap2)] hF fun a hF => ?_
  replace h := bindS h
  obtain ⟨y6, hy6, h⟩ := h
  refine SK.wi (callK (f := 64) (args := #[sv ad1 p0 cap2]) (R := fun v w2 => ∃ ad7 cap8, v = sv ad7 y6 cap8 ∧ St w [arr 25 2 api_Span.cells ad7 y6.length cap8 y6] w2) (fun v5 => [(11, v5)]) hF (by kernel_rfl) ⟨by kernel_rfl⟩ (Calls.mono (ref03_united_ok F p0 _ hy6 (memOf w) w (memOf_at w) (hA3.mono (FrzAt.le_mem (hS.frz (i := 0) rfl hlow)))) (by rintro e w2 ⟨ad7, cap8, rfl, h⟩; exact ⟨_, rfl, ad7, cap8, rfl, h⟩)) (fun _ => ⟨by kernel_rfl⟩) ?_)
  rintro v5 w a ⟨ad7, cap8, rfl, hQ⟩ hF
  replace hS : St w0 [arr 25 2 api_Span.cells ad7 y6.length cap8 y6, fz w0 μ] w := hS.madeL hQ
  refine rn 2 4 [(2, sv ad7 y6 cap8), (3, iv 0)] hF fun a hF => ?_
  refine wfn rfl ?_
  refine wpIn_ret (fn_ret [.tmp 2, .tmp 3] [sv ad7 y6 cap8, iv 0] hF rfl ⟨rfl, rfl, trivial⟩ ?_)
  have hr_ := Option.some.inj h
  subst hr_
  exact ⟨_, _, rfl, St.pick [0] (by decide) hS⟩

theorem law03_FoldUnions_ok (F : Nat) (p0 : (List api_Span)) (res : Bool) (h : law03_FoldUnions F p0 = some res) (μ : Frz) (w0 : World) (hm : FrzAt μ w0) {ad1 : Option Addr} {cap2 : Nat} (hA3 : ArrM μ 2 api_Span.cells ad1 cap2 p0) : Calls Try.prog 4 #[sv ad1 p0 cap2] w0 (fun e w => e = .returned (.bool res) ∧ Ext w0 w) := by
 obtain ⟨hlow, hS⟩ := hm.init
 have hext := Frz.ext_refl w0.heap.size μ
 rw [law03_FoldUnions] at h
 refine fn_enterW Try.func4 rfl 42 [(0, sv ad1 p0 cap2)] rfl rfl (by kernel_rfl) fun a w hw hF => ?_
 replace hS : St w0 [fz w0 μ] w := by rw [hw]; exact hS
 clear hw
 refine esr ?_
 refine rn 1 1 [(0, sv ad1 p0 cap2)] hF fun a hF => ?_
 refine wfn rfl ?_
 refine eseq ?_
 refine esr ?_
 refine rn 13 13 [(0, sv ad1 p0 cap2), (19, .bool (bif (bif (decide ((ln p0) > 60)) then (decide ((ln p0) ≤ 256)) else false) then true else (decide ((ln p0) > 260))))] hF fun a hF => ?_
 refine wfn rfl ?_
 refine econd hF rfl (fun hc => ?_) (fun hc => ?_)
 ·replace h := bif_t h hc
  refine esr ?_
  refine rx 2 [.call [] 19 #[] (.bool law03_works)] 2 [(2, .bool law03_works)] hF (ocons (show Ob.ok _ Ext _ _ from fun hk w2 hd => law03_works_ok  _ rfl _ w2 (memOf_at w2) ) onil) fun a w hF hx => ?_
  replace hS := hS.later hx
  refine wfn rfl ?_
  refine wpIn_ret (ret_then <| fn_ret [.tmp 2] [.bool law03_works] hF rfl ⟨rfl, trivial⟩ ?_)
  have hr_ := Option.some.inj h
  subst hr_
  exact ⟨rfl, hS.ext⟩
 ·replace h := bif_f h hc
  refine wpIn_skip (norm_then ?_)
  refine esr ?_
  refine rn 1 1 [(0, sv ad1 p0 cap2), (22, sv ad1 p0 cap2)] hF fun a hF => ?_
  replace h := bindS h
  obtain ⟨y5, hy5, h⟩ := h
  refine SK.wi (callK (f := 20) (args := #[sv ad1 p0 cap2]) (R := fun v w2 => ∃ ad6 cap7, v = .tuple #[sv ad6 y5.1 cap7, iv y5.2] ∧ St w [arr 25 2 api_Span.cells ad6 y5.1.length cap7 y5.1] w2) (fun v4 => [(0, sv ad1 p0 cap2), (23, v4)]) hF (by kernel_rfl) ⟨by kernel_rfl⟩ (Calls.mono (fold_Union_ok F p0 _ hy5 (memOf w) w (memOf_at w) (hA3.mono (FrzAt.le_mem (hS.frz (i := 0) rfl hlow)))) (by rintro e w2 ⟨ad6, cap7, rfl, h⟩; exact ⟨_, rfl, ad6, cap7, rfl, h⟩)) (fun _ => ⟨by kernel_rfl⟩) ?_)
  rintro v4 w a ⟨ad6, cap7, rfl, hQ⟩ hF
  replace hS : St w0 [arr 25 2 api_Span.cells ad6 y5.1.length cap7 y5.1, fz w0 μ] w := hS.madeL hQ
  refine rn 5 7 [(0, sv ad1 p0 cap2), (3, sv ad6 y5.1 cap7), (4, iv y5.2)] hF fun a hF => ?_
  refine wfn rfl ?_
  refine esr ?_
  refine rn 1 1 [(3, sv ad6 y5.1 cap7), (4, iv y5.2), (27, sv ad1 p0 cap2)] hF fun a hF => ?_
  replace h := bindS h
  obtain ⟨y9, hy9, h⟩ := h
  refine SK.wi (callK (f := 21) (args := #[sv ad1 p0 cap2]) (R := fun v w2 => ∃ ad10 cap11, v = .tuple #[sv ad10 y9.1 cap11, iv y9.2] ∧ St w [arr 25 2 api_Span.cells ad10 y9.1.length cap11 y9.1] w2) (fun v8 => [(3, sv ad6 y5.1 cap7), (4, iv y5.2), (28, v8)]) hF (by kernel_rfl) ⟨by kernel_rfl⟩ (Calls.mono (ref03_Union_ok F p0 _ hy9 (memOf w) w (memOf_at w) (hA3.mono (FrzAt.le_mem (hS.frz (i := 1) rfl hlow)))) (by rintro e w2 ⟨ad10, cap11, rfl, h⟩; exact ⟨_, rfl, ad10, cap11, rfl, h⟩)) (fun _ => ⟨by kernel_rfl⟩) ?_)
  rintro v8 w a ⟨ad10, cap11, rfl, hQ⟩ hF
  replace hS : St w0 [arr 25 2 api_Span.cells ad10 y9.1.length cap11 y9.1, arr 25 2 api_Span.cells ad6 y5.1.length cap7 y5.1, fz w0 μ] w := hS.madeL hQ
  refine rn 5 7 [(3, sv ad6 y5.1 cap7), (4, iv y5.2), (5, sv ad10 y9.1 cap11), (6, iv y9.2)] hF fun a hF => ?_
  refine wfn rfl ?_
  refine esr ?_
  replace h := bindS h
  obtain ⟨y12, hy12, h⟩ := h
  refine rx 12 [.call [] 22 #[sv ad6 y5.1 cap7, sv ad10 y9.1 cap11] (.bool y12), .call [⟨39, true, (bif y12 then (y5.2 == y9.2) else false)⟩] 19 #[] (.bool law03_works)] 12 [(2, .bool (bif (bif y12 then (y5.2 == y9.2) else false) then law03_works else false))] hF (ocons (show Ob.ok _ Ext _ _ from fun hk w2 hd => law03_spans_ok F y5.1 y9.1 _ ((fun _ => hy12) hk) _ w2 (memOf_at w2) (Arr.toM ((hS.later hd).arr (i := 1) rfl)) (Arr.toM ((hS.later hd).arr (i := 0) rfl))) (ocons (show Ob.ok _ Ext _ _ from fun hk w2 hd => law03_works_ok  _ rfl _ w2 (memOf_at w2) ) onil)) fun a w hF hx => ?_
  replace hS := hS.later hx
  refine wfn rfl ?_
  refine wpIn_ret (fn_ret [.tmp 2] [.bool (bif (bif y12 then (y5.2 == y9.2) else false) then law03_works else false)] hF rfl ⟨rfl, trivial⟩ ?_)
  have hr_ := Option.some.inj h
  subst hr_
  exact ⟨rfl, hS.ext⟩
end Go.Proofs.Ytbhjgebjojdohaa
