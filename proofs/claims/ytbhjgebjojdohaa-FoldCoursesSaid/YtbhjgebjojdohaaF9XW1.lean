/- Walks, written by program (wip/gen/dec.py). -/
import Derived.Test.YtbhjgebjojdohaaF9XD
import Derived.Test.YtbhjgebjojdohaaProg
import Derived.Test.YtbhjgebjojdohaaF9XW0
import Derived.Test.YtbhjgebjojdohaaF9WkS
namespace Go.Proofs.Ytbhjgebjojdohaa
open Go Go.RowKit Go.Eng
set_option maxRecDepth 10000
set_option maxHeartbeats 4000000
set_option linter.unusedVariables false
set_option linter.unusedSimpArgs false
theorem fold_speeds_united_ok (F : Nat) (p0 : (List api_Span)) (res : (List api_Span)) (h : fold_speeds_united F p0 = some res) (μ : Frz) (w0 : World) (hm : FrzAt μ w0) {ad1 : Option Addr} {cap2 : Nat} (hA3 : ArrM μ 2 api_Span.cells ad1 cap2 p0) : Calls Try.prog 62 #[sv ad1 p0 cap2] w0 (fun e w => ∃ zad0 zcap0, e = .returned (sv zad0 res zcap0) ∧ St w0 [arr 25 2 api_Span.cells zad0 res.length zcap0 res] w) := by
 obtain ⟨hlow, hS⟩ := hm.init
 have hext := Frz.ext_refl w0.heap.size μ
 rw [fold_speeds_united] at h
 refine fn_enterW Try.func62 rfl 53 [(0, sv ad1 p0 cap2)] rfl rfl (by kernel_rfl) fun a w hw hF => ?_
 replace hS : St w0 [fz w0 μ] w := by rw [hw]; exact hS
 clear hw
 refine esr ?_
 refine rn 1 1 [(0, sv ad1 p0 cap2)] hF fun a hF => ?_
 refine wfn rfl ?_
 refine esr ?_
 refine rn 1 1 [(8, sv ad1 p0 cap2)] hF fun a hF => ?_
 replace h := bindS h
 obtain ⟨y5, hy5, h⟩ := h
 refine SK.wi (callK (f := 99) (args := #[sv ad1 p0 cap2]) (R := fun v w2 => ∃ ad6 cap7, v = sv ad6 y5 cap7 ∧ St w [arr 25 2 api_Span.cells ad6 y5.length cap7 y5] w2) (fun v4 => [(9, v4)]) hF (by kernel_rfl) ⟨by kernel_rfl⟩ (Calls.mono (slices_Clone_fold_speeds_api_Span_ok F p0 _ hy5 (memOf w) w (memOf_at w) (hA3.mono (FrzAt.le_mem (hS.frz (i := 0) rfl hlow)))) (by rintro e w2 ⟨ad6, cap7, rfl, h⟩; exact ⟨_, rfl, ad6, cap7, rfl, h⟩)) (fun _ => ⟨by kernel_rfl⟩) ?_)
 rintro v4 w a ⟨ad6, cap7, rfl, hQ⟩ hF
 replace hS : St w0 [arr 25 2 api_Span.cells ad6 y5.length cap7 y5, fz w0 μ] w := hS.madeL hQ
 refine rn 1 3 [(3, sv ad6 y5 cap7)] hF fun a hF => ?_
 refine wfn rfl ?_
 refine esr ?_
 refine rn 1 1 [(3, sv ad6 y5 cap7), (10, sv ad6 y5 cap7)] hF fun a hF => ?_
 replace h := bindS h
 obtain ⟨y9, hy9, h⟩ := h
 refine SK.wi (callK (f := 100) (args := #[sv ad6 y5 cap7, .func (.func 101) #[] #[]]) (R := fun v w2 => v = .tuple #[] ∧ y5.length = y9.length ∧ St w0 [arr 25 2 api_Span.cells ad6 y9.length cap7 y9, fz w0 μ] w2) (fun v8 => [(3, sv ad6 y5 cap7)]) hF (by kernel_rfl) ⟨by kernel_rfl⟩ (Calls.mono (slices_SortFunc100_ok F y5 _ hy9 hS (i := 0) rfl) (fun e w2 h => ⟨_, h.1, rfl, h.2.1, h.2.2⟩)) (fun _ => ⟨by kernel_rfl⟩) ?_)
 rintro v8 w a ⟨rfl, hl, hS⟩ hF
 simp only [sv, ln, hl] at hF hS
 refine wfn rfl ?_
 refine esr ?_
 refine rn 1 1 [(3, sv ad6 y9 cap7), (4, .slice none 0 0)] hF fun a hF => ?_
 refine wfn rfl ?_
 refine ecut (fun a w => ∃ (l102 : (List api_Span)) (ad100 : Option Addr) (cap101 : Nat), Fr 53 [] [(4, sv ad100 l102 cap101)] a ∧ St w0 [arr 25 2 api_Span.cells ad100 l102.length cap101 l102, arr 25 2 api_Span.cells ad6 y9.length cap7 y9, fz w0 μ] w ∧ fold_speeds_united_K1 l102 = some res) ?_ ?_
 ·skip
  refine esr ?_
  refine rn 3 3 [(4, .slice none 0 0), (12, sv ad6 y9 cap7), (13, iv (ln y9)), (14, iv 0)] hF fun a hF => ?_
  refine wfn rfl ?_
  refine wpIn_block ?_
  replace hS := hS.nilarr 25 2 api_Span.cells
  refine eloop (fun n_ a w => ∃ (x158 : Int) (l161 : (List api_Span)) (ad159 : Option Addr) (cap160 : Nat), Fr 53 [] [(4, sv ad159 l161 cap160), (12, sv ad6 y9 cap7), (13, iv (ln y9)), (14, iv x158)] a ∧ St w0 [arr 25 2 api_Span.cells ad159 l161.length cap160 l161, arr 25 2 api_Span.cells ad6 y9.length cap7 y9, fz w0 μ] w ∧ fold_speeds_united_L2 y9 n_ x158 l161 = some res) F ⟨0, [], none, 0, hF.sub (by kernel_rfl), St.pick [0, 1, 2] (by decide) hS, h⟩ ?_
  rintro nk2 a w ⟨x158, l161, ad159, cap160, hF, hS, h⟩
  rcases nk2 with _ | nk2
  ·cases (show (none : Option (List api_Span)) = some res from h)
  obtain ⟨k2, hk2⟩ : ∃ k, k = fold_speeds_united_L2 y9 nk2 := ⟨_, rfl⟩
  replace h : fold_speeds_united_B2 y9 k2 x158 l161 = some res := by rw [hk2]; exact h
  rw [fold_speeds_united_B2] at h
  refine esr ?_
  refine rn 1 1 [(4, sv ad159 l161 cap160), (12, sv ad6 y9 cap7), (13, iv (ln y9)), (14, iv x158), (15, .bool (decide (x158 < (ln y9))))] hF fun a hF => ?_
  refine wfn rfl ?_
  refine eseq ?_
  refine econd hF rfl (fun hc => ?_) (fun hc => ?_)
  ·replace h := bif_t h hc
   refine wpIn_skip (norm_then ?_)
   refine ecut (fun a w => ∃ (l178 : (List api_Span)) (ad176 : Option Addr) (cap177 : Nat), Fr 53 [] [(4, sv ad176 l178 cap177), (12, sv ad6 y9 cap7), (13, iv (ln y9)), (14, iv x158)] a ∧ St w0 [arr 25 2 api_Span.cells ad176 l178.length cap177 l178, arr 25 2 api_Span.cells ad6 y9.length cap7 y9, fz w0 μ] w ∧ fold_speeds_united_K3 x158 k2 l178 = some res) ?_ ?_
   ·skip
    refine wpIn_block ?_
    refine esr ?_
    replace h := bindS h
    obtain ⟨u181, hu181, h⟩ := h
    refine rno 2 [.run [] (Instr.indexAt 132 (sv ad6 y9 cap7) (iv x158)) (.pointer (some (slAddr ad6 x158 2))), .run [] (Instr.loadAt 25 (.pointer (some (slAddr ad6 x158 2)))) (.agg #[iv u181.Lo, iv u181.Hi])] 2 [(4, sv ad159 l161 cap160), (12, sv ad6 y9 cap7), (13, iv (ln y9)), (14, iv x158), (17, .agg #[iv u181.Lo, iv u181.Hi])] hF (ocons (obIdxQ (hS.arr (i := 1) rfl) (by kernel_rfl) (fun _ => hu181)) (ocons (obElNQ (m := 2) (i := x158) (us := [iv u181.Lo, iv u181.Hi]) 0 api_Span.cells_len (fun _ hd => ((hS.at_ hd).arr (i := 1) rfl)) (by kernel_rfl) (fun _ => hu181) ⟨rfl, rfl⟩) onil)) fun a hF => ?_
    refine SK.wi (allocK (t := 25) (fun b182 => [(4, sv ad159 l161 cap160), (6, pb b182), (12, sv ad6 y9 cap7), (13, iv (ln y9)), (14, iv x158), (17, .agg #[iv u181.Lo, iv u181.Hi])]) #[iv 0, iv 0] hF hS (by kernel_rfl) ⟨by kernel_rfl⟩ (by kernel_rfl) (fun _ => ⟨by kernel_rfl⟩) fun b182 w a hF hS => ?_)
    refine SK.wi (storeK (t := 25) [(4, sv ad159 l161 cap160), (6, pb b182), (12, sv ad6 y9 cap7), (13, iv (ln y9)), (14, iv x158)] 0 0 (.agg #[iv u181.Lo, iv u181.Hi]) #[iv u181.Lo, iv u181.Hi] hF hS rfl (by kernel_rfl) ⟨by kernel_rfl⟩ (by kernel_rfl) (by kernel_rfl) (by kernel_rfl) (by kernel_rfl) ⟨by kernel_rfl⟩ fun w a hF hS => ?_)
    refine wfn rfl ?_
    refine esr ?_
    refine rn 3 3 [(4, sv ad159 l161 cap160), (6, pb b182), (7, iv (ln l161)), (12, sv ad6 y9 cap7), (13, iv (ln y9)), (14, iv x158)] hF fun a hF => ?_
    refine wfn rfl ?_
    refine eseq ?_
    replace h := bindS h
    obtain ⟨x183, hx183, h⟩ := h
    replace h := bindS h
    obtain ⟨u184, hu184, h⟩ := h
    refine runD (obs := [.run [⟨22, true, (decide ((ln l161) > 0))⟩] (Instr.loadAt 3 (pb b182)) (iv u181.Lo), .run [⟨22, true, (decide ((ln l161) > 0))⟩] (binOp .sub 3 (iv (ln l161)) (iv 1)) (iv x183), .run [⟨22, true, (decide ((ln l161) > 0))⟩] (Instr.indexAt 132 (sv ad159 l161 cap160) (iv x183)) (.pointer (some (slAddr ad159 x183 2))), .run [⟨22, true, (decide ((ln l161) > 0))⟩] (Instr.loadAt 3 (.pointer (some ((slAddr ad159 x183 2).add 1)))) (iv u184.Hi)]) 13 [(4, sv ad159 l161 cap160), (6, pb b182), (7, iv (ln l161)), (12, sv ad6 y9 cap7), (13, iv (ln y9)), (14, iv x158), (32, .bool (bif (decide ((ln l161) > 0)) then (decide (u181.Lo ≤ u184.Hi)) else false))] (by kernel_rfl) hF (by kernel_rfl) (ocons (ob1 (by kernel_rfl) (fun _ hd => (hS.later hd).cell (i := 0) (j := 0) rfl rfl)) (ocons (obSubC (fun hk => gd_some hx183 hk)) (ocons (obIdxQ (hS.arr (i := 1) rfl) (by kernel_rfl) (fun hk => gd_some hu184 hk)) (ocons (obElQ (i := x183) 1 api_Span.cells_len (fun _ hd => ((hS.later hd).arr (i := 1) rfl)) (by kernel_rfl) (fun hk => gd_some hu184 hk) rfl) onil)))) ⟨by kernel_rfl⟩ fun a w hF hx => ?_
    replace hS := hS.later hx
    refine wfn rfl ?_
    refine econd hF rfl (fun hc => ?_) (fun hc => ?_)
    ·replace h := bif_t h hc
     replace h := bindS h
     obtain ⟨x185, hx185, h⟩ := h
     replace h := bindS h
     obtain ⟨x186, hx186, h⟩ := h
     replace h := bindS h
     obtain ⟨u187, hu187, h⟩ := h
     replace h := bindS h
     obtain ⟨u188, hu188, h⟩ := h
     refine runD (obs := [.run [] (binOp .sub 3 (iv (ln l161)) (iv 1)) (iv x185), .run [] (binOp .sub 3 (iv (ln l161)) (iv 1)) (iv x186), .run [] (Instr.indexAt 132 (sv ad159 l161 cap160) (iv x186)) (.pointer (some (slAddr ad159 x186 2))), .run [] (Instr.loadAt 3 (.pointer (some ((slAddr ad159 x186 2).add 1)))) (iv u187.Hi), .run [] (Instr.loadAt 3 (.pointer (some ⟨b182, 1, none⟩))) (iv u181.Hi), .run [] (Instr.indexAt 132 (sv ad159 l161 cap160) (iv x185)) (.pointer (some (slAddr ad159 x185 2)))]) 14 [(4, sv ad159 l161 cap160), (12, sv ad6 y9 cap7), (13, iv (ln y9)), (14, iv x158), (44, iv (if u181.Hi > u187.Hi then u181.Hi else u187.Hi)), (46, .pointer (some ((slAddr ad159 x185 2).add 1)))] (by kernel_rfl) hF (by kernel_rfl) (ocons (obSubC (fun _ => hx185)) (ocons (obSubC (fun _ => hx186)) (ocons (obIdxQ (hS.arr (i := 1) rfl) (by kernel_rfl) (fun _ => hu187)) (ocons (obElQ (i := x186) 1 api_Span.cells_len (fun _ hd => ((hS.later hd).arr (i := 1) rfl)) (by kernel_rfl) (fun _ => hu187) rfl) (ocons (ob1 (by kernel_rfl) (fun _ hd => (hS.later hd).cell (i := 0) (j := 1) rfl rfl)) (ocons (obIdxQ (hS.arr (i := 1) rfl) (by kernel_rfl) (fun _ => hu188)) onil)))))) ⟨by kernel_rfl⟩ fun a w hF hx => ?_
     replace hS := hS.later hx
     replace h := bindS h
     obtain ⟨l189, hl189, h⟩ := h
     refine SK.wi (setK (j := x185) (t := 3) [(4, sv ad159 l161 cap160), (12, sv ad6 y9 cap7), (13, iv (ln y9)), (14, iv x158)] 1 1 u188 (api_Span.mk u188.Lo (if u181.Hi > u187.Hi then u181.Hi else u187.Hi)) (iv (if u181.Hi > u187.Hi then u181.Hi else u187.Hi)) hF hS rfl (by kernel_rfl) ⟨by kernel_rfl⟩ api_Span.cells_len hu188 rfl (by kernel_rfl) (by kernel_rfl) (by kernel_rfl) hl189 ⟨by kernel_rfl⟩ fun w a hF hl hS => ?_)
     simp only [sv, ln, hl] at hF hS
     refine WI.fin rfl (norm_block <| norm_then <| ?_)
     exact ⟨l189, ad159, cap160, hF.sub (by kernel_rfl), St.pick [1, 2, 3] (by decide) hS, h⟩
    ·replace h := bif_f h hc
     refine WI.region ?_
     refine rno 2 [.run [] (Instr.loadAt 25 (pb b182)) (.agg #[iv u181.Lo, iv u181.Hi])] 2 [(4, sv ad159 l161 cap160), (12, sv ad6 y9 cap7), (13, iv (ln y9)), (14, iv x158), (47, sv ad159 l161 cap160), (48, .agg #[iv u181.Lo, iv u181.Hi])] hF (ocons (obN (us := [iv u181.Lo, iv u181.Hi]) (by kernel_rfl) (fun _ hd => ((hS.at_ hd).blk (i := 0) rfl).cells rfl)) onil) fun a hF => ?_
     refine SK.wi (litK (e := 25) (sz := 2) (f := api_Span.cells) (t := 132) (len := 1) (fun b190 => [(4, sv ad159 l161 cap160), (12, sv ad6 y9 cap7), (13, iv (ln y9)), (14, iv x158), (47, sv ad159 l161 cap160), (49, sb b190 1)]) #[(0, .agg #[iv u181.Lo, iv u181.Hi])] #[iv u181.Lo, iv u181.Hi] ([u181]) hF hS (by kernel_rfl) ⟨by kernel_rfl⟩ (by kernel_rfl) api_Span.cells_len rfl rfl (by kernel_rfl) (fun _ => ⟨by kernel_rfl⟩) fun b190 w a hF hS => ?_)
     replace h := bindS h
     obtain ⟨l191, hl191, h⟩ := h
     refine SK.wi (appK (t := 132) (ty := 132) (bytes := 16) (l := l161) (l' := ([u181])) (fun ad192 cap193 => [(4, sv ad159 l161 cap160), (12, sv ad6 y9 cap7), (13, iv (ln y9)), (14, iv x158), (50, sv ad192 l191 cap193)]) 2 hF hS rfl (by kernel_rfl) ⟨by kernel_rfl⟩ (by kernel_rfl) (hS.arr (i := 0) rfl) (fun _ _ => rfl) hl191 (fun _ _ => ⟨by kernel_rfl⟩) fun ad192 cap193 w a hF hS => ?_)
     refine rn 1 5 [(4, sv ad192 l191 cap193), (12, sv ad6 y9 cap7), (13, iv (ln y9)), (14, iv x158)] hF fun a hF => ?_
     refine WI.fin rfl (norm_block <| norm_then <| ?_)
     exact ⟨l191, ad192, cap193, hF.sub (by kernel_rfl), St.pick [2, 3, 4] (by decide) hS, h⟩
   rintro a w ⟨l178, ad176, cap177, hF, hS, h⟩
   rw [fold_speeds_united_K3] at h
   refine WI.region ?_
   replace h := bindS h
   obtain ⟨x179, hx179, h⟩ := h
   refine rno 2 [.run [] (binOp .add 3 (iv x158) (iv 1)) (iv x179)] 2 [(4, sv ad176 l178 cap177), (12, sv ad6 y9 cap7), (13, iv (ln y9)), (14, iv x179)] hF (ocons (obAddC (fun _ => hx179)) onil) fun a hF => ?_
   refine wfn rfl ?_
   rw [hk2] at h
   exact ⟨nk2, Nat.lt_succ_self _, x179, l178, ad176, cap177, hF.sub (by kernel_rfl), St.pick [0, 1, 2] (by decide) hS, h⟩
  ·replace h := bif_f h hc
   refine wpIn_exit (exit_then <| exit_then <| exit_hit <| norm_then ?_)
   exact ⟨l161, ad159, cap160, hF.sub (by kernel_rfl), St.pick [0, 1, 2] (by decide) hS, h⟩
 rintro a w ⟨l102, ad100, cap101, hF, hS, h⟩
 rw [fold_speeds_united_K1] at h
 refine esr ?_
 refine rn 2 2 [(2, sv ad100 l102 cap101)] hF fun a hF => ?_
 refine wfn rfl ?_
 refine wpIn_ret (fn_ret [.tmp 2] [sv ad100 l102 cap101] hF rfl ⟨rfl, trivial⟩ ?_)
 have hr_ := Option.some.inj h
 subst hr_
 exact ⟨_, _, rfl, St.pick [0] (by decide) hS⟩

theorem fold_row_ok (F : Nat) (p0 : (List (List api_Span))) (res : ((List (List api_Span)) × Int)) (h : fold_row F p0 = some res) (μ : Frz) (w0 : World) (hm : FrzAt μ w0) {ad1 : Option Addr} {cap2 : Nat} {css3 : List (List Value)} (hA4 : ArrQ μ 1 Rp43 ad1 cap2 css3 p0) : Calls Try.prog 65 #[sv ad1 p0 cap2] w0 (fun e w => ∃ (ν_ : Frz) (zad0 : Option Addr) (zcap0 : Nat) (zcss0 : List (List Value)), μ.ext w0.heap.size ν_ ∧ e = .returned (.tuple #[sv zad0 res.1 zcap0, iv res.2]) ∧ All2 (Rp132 ν_) zcss0 res.1 ∧ St w0 [fz w0 ν_, arr 132 1 (fN 1) zad0 res.1.length zcap0 zcss0] w) := by
 obtain ⟨hlow, hS⟩ := hm.init
 have hext := Frz.ext_refl w0.heap.size μ
 rw [fold_row] at h
 refine fn_enterW Try.func65 rfl 29 [(0, sv ad1 p0 cap2)] rfl rfl (by kernel_rfl) fun a w hw hF => ?_
 replace hS : St w0 [fz w0 μ] w := by rw [hw]; exact hS
 clear hw
 refine esr ?_
 refine rn 2 2 [(0, sv ad1 p0 cap2)] hF fun a hF => ?_
 refine wfn rfl ?_
 refine eseq ?_
 refine esr ?_
 refine rn 3 3 [(0, sv ad1 p0 cap2), (10, .bool (decide ((ln p0) > 200)))] hF fun a hF => ?_
 refine wfn rfl ?_
 refine econd hF rfl (fun hc => ?_) (fun hc => ?_)
 ·replace h := bif_t h hc
  refine esr ?_
  refine rn 2 2 [(2, .slice none 0 0), (3, iv 9)] hF fun a hF => ?_
  refine wfn rfl ?_
  refine wpIn_ret (ret_then <| fn_ret [.tmp 2, .tmp 3] [.slice none 0 0, iv 9] hF rfl ⟨rfl, rfl, trivial⟩ ?_)
  have hr_ := Option.some.inj h
  subst hr_
  replace hS := hS.nilarr 132 1 (fN 1)
  exact ⟨μ, _, _, _, hext, rfl, All2.nil, St.pick [1, 0] (by decide) hS⟩
 ·replace h := bif_f h hc
  refine wpIn_skip (norm_then ?_)
  refine esr ?_
  refine rn 1 1 [(0, sv ad1 p0 cap2), (4, .slice none 0 0)] hF fun a hF => ?_
  refine wfn rfl ?_
  have hj101 := Frz.le_refl μ
  refine ecut (fun a w => ∃ (l97 : (List (List api_Span))) (ν94 : Frz) (ad95 : Option Addr) (cap96 : Nat) (css98 : List (List Value)), Fr 29 [] [(4, sv ad95 l97 cap96)] a ∧ St w0 [arr 132 1 (fN 1) ad95 l97.length cap96 css98, fz w0 ν94] w ∧ (All2 (Rp132 ν94) css98 l97) ∧ (μ.le ν94) ∧ (μ.ext w0.heap.size ν94) ∧ (FrzIn w0 ν94) ∧ fold_row_K1 l97 = some res) ?_ ?_
  ·skip
   refine esr ?_
   refine rn 3 3 [(4, .slice none 0 0), (11, sv ad1 p0 cap2), (12, iv (ln p0)), (13, iv 0)] hF fun a hF => ?_
   refine wfn rfl ?_
   refine wpIn_block ?_
   have hj166 := Frz.le_refl μ
   replace hS := hS.nilarr 132 1 (fN 1)
   refine eloop (fun n_ a w => ∃ (x159 : Int) (l162 : (List (List api_Span))) (ν158 : Frz) (ad160 : Option Addr) (cap161 : Nat) (css163 : List (List Value)), Fr 29 [] [(4, sv ad160 l162 cap161), (11, sv ad1 p0 cap2), (12, iv (ln p0)), (13, iv x159)] a ∧ St w0 [arr 132 1 (fN 1) ad160 l162.length cap161 css163, fz w0 ν158] w ∧ (All2 (Rp132 ν158) css163 l162) ∧ (μ.le ν158) ∧ (μ.ext w0.heap.size ν158) ∧ (FrzIn w0 ν158) ∧ fold_row_L2 F p0 n_ x159 l162 = some res) F ⟨0, [], μ, none, 0, [], hF.sub (by kernel_rfl), St.pick [0, 1] (by decide) hS, All2.nil, hj166, hext, hlow, h⟩ ?_
   clear hj166
   rintro nk2 a w ⟨x159, l162, ν158, ad160, cap161, css163, hF, hS, hq164, hle165, hext, hlow, h⟩
   rcases nk2 with _ | nk2
   ·cases (show (none : Option ((List (List api_Span)) × Int)) = some res from h)
   replace hA4 := hA4.mono Rp43.mono hle165
   replace hj101 := Frz.le_trans hj101 hle165
   obtain ⟨k2, hk2⟩ : ∃ k, k = fold_row_L2 F p0 nk2 := ⟨_, rfl⟩
   replace h : fold_row_B2 F p0 k2 x159 l162 = some res := by rw [hk2]; exact h
   rw [fold_row_B2] at h
   refine esr ?_
   refine rn 1 1 [(4, sv ad160 l162 cap161), (11, sv ad1 p0 cap2), (12, iv (ln p0)), (13, iv x159), (14, .bool (decide (x159 < (ln p0))))] hF fun a hF => ?_
   refine wfn rfl ?_
   refine eseq ?_
   refine econd hF rfl (fun hc => ?_) (fun hc => ?_)
   ·replace h := bif_t h hc
    refine wpIn_skip (norm_then ?_)
    refine eseq ?_
    refine wpIn_block ?_
    refine esr ?_
    replace h := bindS h
    obtain ⟨u167, hu167, h⟩ := h
    obtain ⟨cs168, hcs169, hR170⟩ := getI_all2 hA4.2 hu167
    obtain ⟨ad171, cap172, rfl, hA173⟩ := hR170
    refine rno 3 [.run [] (Instr.indexAt 48 (sv ad1 p0 cap2) (iv x159)) (.pointer (some (slAddr ad1 x159 1))), .run [] (Instr.loadAt 43 (.pointer (some (slAddr ad1 x159 1)))) (sv ad171 u167 cap172)] 3 [(4, sv ad160 l162 cap161), (6, sv ad171 u167 cap172), (11, sv ad1 p0 cap2), (12, iv (ln p0)), (13, iv x159)] hF (ocons (obIdxQ (hA4.at (hS.frz (i := 1) rfl hlow)) (by kernel_rfl) (fun _ => hcs169)) (ocons (obElQ (i := x159) 0 (fN_len 1) (fun _ hd => (hA4.at ((hS.at_ hd).frz (i := 1) rfl hlow))) (by kernel_rfl) (fun _ => hcs169) rfl) onil)) fun a hF => ?_
    refine wfn rfl ?_
    refine eseq ?_
    refine esr ?_
    replace h := bindS h
    obtain ⟨y174, hy174, h⟩ := h
    refine rx 3 [.call [] 61 #[sv ad171 u167 cap172, .bool true] (iv y174)] 3 [(4, sv ad160 l162 cap161), (6, sv ad171 u167 cap172), (7, iv y174), (11, sv ad1 p0 cap2), (12, iv (ln p0)), (13, iv x159)] hF (ocons (show Ob.ok _ Ext _ _ from fun hk w2 hd => fold_checked_ok F u167 true _ ((fun _ => hy174) hk) _ w2 (memOf_at w2) (hA173.mono (FrzAt.le_mem ((hS.later hd).frz (i := 1) rfl hlow)))) onil) fun a w hF hx => ?_
    replace hS := hS.later hx
    refine wfn rfl ?_
    refine esr ?_
    refine rn 2 2 [(4, sv ad160 l162 cap161), (6, sv ad171 u167 cap172), (7, iv y174), (11, sv ad1 p0 cap2), (12, iv (ln p0)), (13, iv x159), (20, .bool (y174 != 0))] hF fun a hF => ?_
    refine wfn rfl ?_
    refine econd hF rfl (fun hc => ?_) (fun hc => ?_)
    ·replace h := bif_t h hc
     refine esr ?_
     refine rn 3 3 [(2, .slice none 0 0), (3, iv y174)] hF fun a hF => ?_
     refine wfn rfl ?_
     refine wpIn_ret (ret_then <| ret_block <| ret_then <| ret_then <| ret_block <| ret_then <| fn_ret [.tmp 2, .tmp 3] [.slice none 0 0, iv y174] hF rfl ⟨rfl, rfl, trivial⟩ ?_)
     have hr_ := Option.some.inj h
     subst hr_
     replace hS := hS.nilarr 132 1 (fN 1)
     exact ⟨ν158, _, _, _, hext, rfl, All2.nil, St.pick [2, 0] (by decide) hS⟩
    ·replace h := bif_f h hc
     refine wpIn_skip (norm_then ?_)
     refine WI.region ?_
     refine rn 2 2 [(4, sv ad160 l162 cap161), (11, sv ad1 p0 cap2), (12, iv (ln p0)), (13, iv x159), (22, sv ad160 l162 cap161), (23, sv ad171 u167 cap172)] hF fun a hF => ?_
     replace h := bindS h
     obtain ⟨y176, hy176, h⟩ := h
     refine SK.wi (callK (f := 62) (args := #[sv ad171 u167 cap172]) (R := fun v w2 => ∃ ad177 cap178, v = sv ad177 y176 cap178 ∧ St w [arr 25 2 api_Span.cells ad177 y176.length cap178 y176] w2) (fun v175 => [(4, sv ad160 l162 cap161), (11, sv ad1 p0 cap2), (12, iv (ln p0)), (13, iv x159), (22, sv ad160 l162 cap161), (24, v175)]) hF (by kernel_rfl) ⟨by kernel_rfl⟩ (Calls.mono (fold_speeds_united_ok F u167 _ hy176 (memOf w) w (memOf_at w) (hA173.mono (FrzAt.le_mem (hS.frz (i := 1) rfl hlow)))) (by rintro e w2 ⟨ad177, cap178, rfl, h⟩; exact ⟨_, rfl, ad177, cap178, rfl, h⟩)) (fun _ => ⟨by kernel_rfl⟩) ?_)
     rintro v175 w a ⟨ad177, cap178, rfl, hQ⟩ hF
     replace hS : St w0 [arr 25 2 api_Span.cells ad177 y176.length cap178 y176, arr 132 1 (fN 1) ad160 l162.length cap161 css163, fz w0 ν158] w := hS.madeL hQ
     obtain ⟨ν180, hx181, hlow, hS, hz182⟩ := hS.freeze (i := 2) (j := 0) rfl rfl (by decide) hlow
     replace hA4 := hA4.mono Rp43.mono hx181.1
     replace hq164 := All2.mono Rp132.mono hx181.1 hq164
     replace hA173 := hA173.mono hx181.1
     replace hj101 := Frz.le_trans hj101 hx181.1
     replace hle165 := Frz.le_trans hle165 hx181.1
     replace hext := Frz.ext_trans hext hx181
     replace hS : St w0 [arr 132 1 (fN 1) ad160 l162.length cap161 css163, fz w0 ν180] w := hS
     have hA183 := ArrM.of_arr hz182
     have hq184 : All2 (Rp132 ν180) ([[sv ad177 y176 cap178]] : List (List Value)) [y176] := (All2.cons ⟨ad177, cap178, rfl, hA183⟩ All2.nil)
     refine SK.wi (litQK (e := 132) (sz := 1) (f := fN 1) (t := 135) (len := 1) (fun b179 => [(4, sv ad160 l162 cap161), (11, sv ad1 p0 cap2), (12, iv (ln p0)), (13, iv x159), (22, sv ad160 l162 cap161), (25, sb b179 1)]) #[(0, sv ad177 y176 cap178)] #[sv ad177 y176 cap178] ([[sv ad177 y176 cap178]] : List (List Value)) ([y176]) hF hS (by kernel_rfl) ⟨by kernel_rfl⟩ (by kernel_rfl) (fN_len 1) rfl rfl rfl (by kernel_rfl) (fun _ => ⟨by kernel_rfl⟩) fun b179 w a hF hS => ?_)
     replace h := bindS h
     obtain ⟨l185, hl185, h⟩ := h
     have hq189 : All2 (Rp132 ν180) (css163 ++ ([[sv ad177 y176 cap178]] : List (List Value))) l185 := by rw [(apd_some hl185).1]; exact All2.app hq164 hq184
     refine SK.wi (appQK (t := 135) (ty := 135) (bytes := 24) (c := css163) (c' := ([[sv ad177 y176 cap178]] : List (List Value))) (l := l162) (l' := ([y176])) (fun ad186 cap187 => [(4, sv ad160 l162 cap161), (11, sv ad1 p0 cap2), (12, iv (ln p0)), (13, iv x159), (26, sv ad186 l185 cap187)]) 1 hF hS rfl (by kernel_rfl) ⟨by kernel_rfl⟩ (by kernel_rfl) (hS.arr (i := 0) rfl) (ArrQ.one hq184 Rp132.one) hl185 (fun _ _ => ⟨by kernel_rfl⟩) fun ad186 cap187 w a hF hS => ?_)
     refine rn 1 6 [(4, sv ad186 l185 cap187), (11, sv ad1 p0 cap2), (12, iv (ln p0)), (13, iv x159)] hF fun a hF => ?_
     refine WI.fin rfl (norm_block <| norm_then <| ?_)
     refine WI.region ?_
     replace h := bindS h
     obtain ⟨x190, hx190, h⟩ := h
     refine rno 2 [.run [] (binOp .add 3 (iv x159) (iv 1)) (iv x190)] 2 [(4, sv ad186 l185 cap187), (11, sv ad1 p0 cap2), (12, iv (ln p0)), (13, iv x190)] hF (ocons (obAddC (fun _ => hx190)) onil) fun a hF => ?_
     refine wfn rfl ?_
     rw [hk2] at h
     exact ⟨nk2, Nat.lt_succ_self _, x190, l185, ν180, ad186, cap187, (css163 ++ ([[sv ad177 y176 cap178]] : List (List Value))), hF.sub (by kernel_rfl), St.pick [1, 2] (by decide) hS, hq189, hle165, hext, hlow, h⟩
   ·replace h := bif_f h hc
    refine wpIn_exit (exit_then <| exit_then <| exit_hit <| norm_then ?_)
    exact ⟨l162, ν158, ad160, cap161, css163, hF.sub (by kernel_rfl), St.pick [0, 1] (by decide) hS, hq164, hj101, hext, hlow, h⟩
  clear hj101
  rintro a w ⟨l97, ν94, ad95, cap96, css98, hF, hS, hq99, hle100, hext, hlow, h⟩
  replace hA4 := hA4.mono Rp43.mono hle100
  rw [fold_row_K1] at h
  refine esr ?_
  refine rn 3 3 [(2, sv ad95 l97 cap96), (3, iv 0)] hF fun a hF => ?_
  refine wfn rfl ?_
  refine wpIn_ret (fn_ret [.tmp 2, .tmp 3] [sv ad95 l97 cap96, iv 0] hF rfl ⟨rfl, rfl, trivial⟩ ?_)
  have hr_ := Option.some.inj h
  subst hr_
  exact ⟨ν94, _, _, _, hext, rfl, hq99, St.pick [1, 0] (by decide) hS⟩

theorem fold_speeds_meet_ok (F : Nat) (p0 : (List api_Span)) (p1 : (List api_Span)) (res : (List api_Span)) (h : fold_speeds_meet F p0 p1 = some res) (μ : Frz) (w0 : World) (hm : FrzAt μ w0) {ad1 : Option Addr} {cap2 : Nat} {ad4 : Option Addr} {cap5 : Nat} (hA3 : ArrM μ 2 api_Span.cells ad1 cap2 p0) (hA6 : ArrM μ 2 api_Span.cells ad4 cap5 p1) : Calls Try.prog 102 #[sv ad1 p0 cap2, sv ad4 p1 cap5] w0 (fun e w => ∃ zad0 zcap0, e = .returned (sv zad0 res zcap0) ∧ St w0 [arr 25 2 api_Span.cells zad0 res.length zcap0 res] w) := by
 obtain ⟨hlow, hS⟩ := hm.init
 have hext := Frz.ext_refl w0.heap.size μ
 rw [fold_speeds_meet] at h
 refine fn_enterW Try.func102 rfl 54 [(0, sv ad1 p0 cap2), (1, sv ad4 p1 cap5)] rfl rfl (by kernel_rfl) fun a w hw hF => ?_
 replace hS : St w0 [fz w0 μ] w := by rw [hw]; exact hS
 clear hw
 refine esr ?_
 refine rn 1 1 [(0, sv ad1 p0 cap2), (1, sv ad4 p1 cap5)] hF fun a hF => ?_
 refine wfn rfl ?_
 refine esr ?_
 refine rn 1 1 [(0, sv ad1 p0 cap2), (1, sv ad4 p1 cap5), (5, .slice none 0 0)] hF fun a hF => ?_
 refine wfn rfl ?_
 refine ecut (fun a w => ∃ (l158 : (List api_Span)) (ad156 : Option Addr) (cap157 : Nat), Fr 54 [] [(5, sv ad156 l158 cap157)] a ∧ St w0 [arr 25 2 api_Span.cells ad156 l158.length cap157 l158, fz w0 μ] w ∧ fold_speeds_meet_K1 F l158 = some res) ?_ ?_
 ·skip
  refine esr ?_
  refine rn 2 2 [(0, sv ad1 p0 cap2), (1, sv ad4 p1 cap5), (5, .slice none 0 0), (6, iv 0), (7, iv 0)] hF fun a hF => ?_
  refine wfn rfl ?_
  refine wpIn_block ?_
  replace hS := hS.nilarr 25 2 api_Span.cells
  refine eloop (fun n_ a w => ∃ (l263 : (List api_Span)) (x264 : Int) (x265 : Int) (ad261 : Option Addr) (cap262 : Nat), Fr 54 [] [(0, sv ad1 p0 cap2), (1, sv ad4 p1 cap5), (5, sv ad261 l263 cap262), (6, iv x264), (7, iv x265)] a ∧ St w0 [arr 25 2 api_Span.cells ad261 l263.length cap262 l263, fz w0 μ] w ∧ fold_speeds_meet_L2 F p0 p1 n_ l263 x264 x265 = some res) F ⟨[], 0, 0, none, 0, hF.sub (by kernel_rfl), St.pick [0, 1] (by decide) hS, h⟩ ?_
  rintro nk2 a w ⟨l263, x264, x265, ad261, cap262, hF, hS, h⟩
  rcases nk2 with _ | nk2
  ·cases (show (none : Option (List api_Span)) = some res from h)
  obtain ⟨k2, hk2⟩ : ∃ k, k = fold_speeds_meet_L2 F p0 p1 nk2 := ⟨_, rfl⟩
  replace h : fold_speeds_meet_B2 F p0 p1 k2 l263 x264 x265 = some res := by rw [hk2]; exact h
  rw [fold_speeds_meet_B2] at h
  refine eseq ?_
  refine esr ?_
  refine rn 10 10 [(0, sv ad1 p0 cap2), (1, sv ad4 p1 cap5), (5, sv ad261 l263 cap262), (6, iv x264), (7, iv x265), (19, .bool (bif (decide (x264 < (ln p0))) then (decide (x265 < (ln p1))) else false))] hF fun a hF => ?_
  refine wfn rfl ?_
  refine econd hF rfl (fun hc => ?_) (fun hc => ?_)
  ·replace h := bif_t h hc
   refine wpIn_skip (norm_then ?_)
   refine wpIn_block ?_
   refine ecut (fun a w => ∃ (l288 : (List api_Span)) (ad286 : Option Addr) (cap287 : Nat), Fr 54 [] [(0, sv ad1 p0 cap2), (1, sv ad4 p1 cap5), (5, sv ad286 l288 cap287), (6, iv x264), (7, iv x265)] a ∧ St w0 [arr 25 2 api_Span.cells ad286 l288.length cap287 l288, fz w0 μ] w ∧ fold_speeds_meet_K3 p0 p1 x264 x265 k2 l288 = some res) ?_ ?_
   ·skip
    refine eseq ?_
    replace h := bindS h
    obtain ⟨u294, hu294, h⟩ := h
    replace h := bindS h
    obtain ⟨u295, hu295, h⟩ := h
    refine region_treeW 15 [8, 12, 13] (fun a w => ∃ (b303 : Nat), Fr 54 [] [(0, sv ad1 p0 cap2), (1, sv ad4 p1 cap5), (5, sv ad261 l263 cap262), (6, iv x264), (7, iv x265), (8, pb b303), (9, .bool ((fold_common u294 u295).2))] a ∧ St w0 [blk b303 25 #[iv (((fold_common u294 u295).1).Lo), iv (((fold_common u294 u295).1).Hi)], arr 25 2 api_Span.cells ad261 l263.length cap262 l263, fz w0 μ] w) (D := fun w => St w0 [arr 25 2 api_Span.cells ad261 l263.length cap262 l263] w ∧ FrzAt μ w) (by kernel_rfl) (by kernel_rfl) hF.size (fun w hx => ?_) ?_
    ·skip
     replace hS := hS.later hx
     refine ⟨⟨St.pick [0] (by decide) hS, hS.frz (i := 1) rfl hlow⟩, ?_⟩
     have hcl304 := Frz.le_refl μ
     refine WT.s [0, 1, 2, 3, 4, 5, 6, 7] [8, 12] (by kernel_rfl) (by kernel_rfl) ?_
     refine runC (rest := []) (obs := [.run [] (Instr.indexAt 132 (sv ad1 p0 cap2) (iv x264)) (.pointer (some (slAddr ad1 x264 2))), .run [] (Instr.loadAt 25 (.pointer (some (slAddr ad1 x264 2)))) (.agg #[iv u294.Lo, iv u294.Hi]), .run [] (Instr.indexAt 132 (sv ad4 p1 cap5) (iv x265)) (.pointer (some (slAddr ad4 x265 2))), .run [] (Instr.loadAt 25 (.pointer (some (slAddr ad4 x265 2)))) (.agg #[iv u295.Lo, iv u295.Hi])]) [0, 1, 2, 3, 4, 5, 6, 7] [(0, sv ad1 p0 cap2), (1, sv ad4 p1 cap5), (5, sv ad261 l263 cap262), (6, iv x264), (7, iv x265), (24, .agg #[iv u294.Lo, iv u294.Hi]), (28, .agg #[iv u295.Lo, iv u295.Hi])] hF (by kernel_rfl) (by kernel_rfl) (ocons (obIdxQ (hA3 _ (hS.frz (i := 1) rfl hlow)) (by kernel_rfl) (fun _ => hu294)) (ocons (obElNQ (m := 2) (i := x264) (us := [iv u294.Lo, iv u294.Hi]) 0 api_Span.cells_len (fun _ hd => (hA3 _ hd.2)) (by kernel_rfl) (fun _ => hu294) ⟨rfl, rfl⟩) (ocons (obIdxQ (hA6 _ (hS.frz (i := 1) rfl hlow)) (by kernel_rfl) (fun _ => hu295)) (ocons (obElNQ (m := 2) (i := x265) (us := [iv u295.Lo, iv u295.Hi]) 0 api_Span.cells_len (fun _ hd => (hA6 _ hd.2)) (by kernel_rfl) (fun _ => hu295) ⟨rfl, rfl⟩) onil)))) ⟨by kernel_rfl⟩ fun a hF => ?_
     refine WRun.fin ?_
     refine all_cons ?_ (all_cons ?_ (all_nil))
     ·skip
      refine callK (f := 92) (args := #[.agg #[iv u294.Lo, iv u294.Hi], .agg #[iv u295.Lo, iv u295.Hi]]) (R := fun v w2 => v = .tuple #[.agg #[iv (((fold_common u294 u295).1).Lo), iv (((fold_common u294 u295).1).Hi)], .bool ((fold_common u294 u295).2)] ∧ Ext w w2) (fun v305 => [(0, sv ad1 p0 cap2), (1, sv ad4 p1 cap5), (5, sv ad261 l263 cap262), (6, iv x264), (7, iv x265), (29, v305)]) hF (by kernel_rfl) ⟨by kernel_rfl⟩ (Calls.mono (fold_common_ok u294 u295 _ rfl (memOf w) w (memOf_at w) ) (fun e w2 h => ⟨_, h.1, rfl, h.2⟩)) (fun _ => ⟨by kernel_rfl⟩) ?_
      rintro v305 w a ⟨rfl, hx⟩ hF
      replace hS := hS.later hx
      refine ⟨⟨St.pick [0] (by decide) hS, (hS.frz (i := 1) rfl hlow)⟩, ?_⟩
      refine WT.s [9, 10, 11] [12] (by kernel_rfl) (by kernel_rfl) ?_
      refine runC (rest := []) (obs := []) [9, 10, 11] [(0, sv ad1 p0 cap2), (1, sv ad4 p1 cap5), (5, sv ad261 l263 cap262), (6, iv x264), (7, iv x265), (30, .agg #[iv (((fold_common u294 u295).1).Lo), iv (((fold_common u294 u295).1).Hi)]), (31, .bool ((fold_common u294 u295).2))] hF (by kernel_rfl) (by kernel_rfl) onil ⟨by kernel_rfl⟩ fun a hF => ?_
      refine WRun.fin ?_
      refine all_cons ?_ (all_nil)
      refine allocK (t := 25) (fun b306 => [(0, sv ad1 p0 cap2), (1, sv ad4 p1 cap5), (5, sv ad261 l263 cap262), (6, iv x264), (7, iv x265), (8, pb b306), (30, .agg #[iv (((fold_common u294 u295).1).Lo), iv (((fold_common u294 u295).1).Hi)]), (31, .bool ((fold_common u294 u295).2))]) #[iv 0, iv 0] hF hS (by kernel_rfl) ⟨by kernel_rfl⟩ (by kernel_rfl) (fun _ => ⟨by kernel_rfl⟩) fun b306 w a hF hS => ⟨⟨St.pick [1] (by decide) hS, (hS.frz (i := 2) rfl hlow)⟩, ?_⟩
      refine WT.s [] [13] (by kernel_rfl) (by kernel_rfl) ?_
      refine WRun.fin ?_
      refine all_cons ?_ (all_nil)
      refine storeK (t := 25) [(0, sv ad1 p0 cap2), (1, sv ad4 p1 cap5), (5, sv ad261 l263 cap262), (6, iv x264), (7, iv x265), (8, pb b306), (31, .bool ((fold_common u294 u295).2))] 0 0 (.agg #[iv (((fold_common u294 u295).1).Lo), iv (((fold_common u294 u295).1).Hi)]) #[iv (((fold_common u294 u295).1).Lo), iv (((fold_common u294 u295).1).Hi)] hF hS rfl (by kernel_rfl) ⟨by kernel_rfl⟩ (by kernel_rfl) (by kernel_rfl) (by kernel_rfl) (by kernel_rfl) ⟨by kernel_rfl⟩ fun w a hF hS => ⟨⟨St.pick [1] (by decide) hS, (hS.frz (i := 2) rfl hlow)⟩, ?_⟩
      refine WT.z [14] (by kernel_rfl) ?_
      refine runC (rest := []) (obs := []) [14] [(0, sv ad1 p0 cap2), (1, sv ad4 p1 cap5), (5, sv ad261 l263 cap262), (6, iv x264), (7, iv x265), (8, pb b306), (9, .bool ((fold_common u294 u295).2))] hF (by kernel_rfl) (by kernel_rfl) onil ⟨by kernel_rfl⟩ fun a hF => ?_
      refine WRun.fin ?_
      exact ⟨b306, hF.sub (by kernel_rfl), St.pick [0, 1, 2] (by decide) hS⟩
     ·skip
      refine allocK (t := 25) (fun b307 => [(0, sv ad1 p0 cap2), (1, sv ad4 p1 cap5), (5, sv ad261 l263 cap262), (6, iv x264), (7, iv x265), (8, pb b307), (24, .agg #[iv u294.Lo, iv u294.Hi]), (28, .agg #[iv u295.Lo, iv u295.Hi])]) #[iv 0, iv 0] hF hS (by kernel_rfl) ⟨by kernel_rfl⟩ (by kernel_rfl) (fun _ => ⟨by kernel_rfl⟩) fun b307 w a hF hS => ⟨⟨St.pick [1] (by decide) hS, (hS.frz (i := 2) rfl hlow)⟩, ?_⟩
      refine WT.s [] [8] (by kernel_rfl) (by kernel_rfl) ?_
      refine WRun.fin ?_
      refine all_cons ?_ (all_nil)
      refine callK (f := 92) (args := #[.agg #[iv u294.Lo, iv u294.Hi], .agg #[iv u295.Lo, iv u295.Hi]]) (R := fun v w2 => v = .tuple #[.agg #[iv (((fold_common u294 u295).1).Lo), iv (((fold_common u294 u295).1).Hi)], .bool ((fold_common u294 u295).2)] ∧ Ext w w2) (fun v308 => [(0, sv ad1 p0 cap2), (1, sv ad4 p1 cap5), (5, sv ad261 l263 cap262), (6, iv x264), (7, iv x265), (8, pb b307), (29, v308)]) hF (by kernel_rfl) ⟨by kernel_rfl⟩ (Calls.mono (fold_common_ok u294 u295 _ rfl (memOf w) w (memOf_at w) ) (fun e w2 h => ⟨_, h.1, rfl, h.2⟩)) (fun _ => ⟨by kernel_rfl⟩) ?_
      rintro v308 w a ⟨rfl, hx⟩ hF
      replace hS := hS.later hx
      refine ⟨⟨St.pick [1] (by decide) hS, (hS.frz (i := 2) rfl hlow)⟩, ?_⟩
      refine WT.s [9, 10, 11] [13] (by kernel_rfl) (by kernel_rfl) ?_
      refine runC (rest := []) (obs := []) [9, 10, 11] [(0, sv ad1 p0 cap2), (1, sv ad4 p1 cap5), (5, sv ad261 l263 cap262), (6, iv x264), (7, iv x265), (8, pb b307), (30, .agg #[iv (((fold_common u294 u295).1).Lo), iv (((fold_common u294 u295).1).Hi)]), (31, .bool ((fold_common u294 u295).2))] hF (by kernel_rfl) (by kernel_rfl) onil ⟨by kernel_rfl⟩ fun a hF => ?_
      refine WRun.fin ?_
      refine all_cons ?_ (all_nil)
      refine storeK (t := 25) [(0, sv ad1 p0 cap2), (1, sv ad4 p1 cap5), (5, sv ad261 l263 cap262), (6, iv x264), (7, iv x265), (8, pb b307), (31, .bool ((fold_common u294 u295).2))] 0 0 (.agg #[iv (((fold_common u294 u295).1).Lo), iv (((fold_common u294 u295).1).Hi)]) #[iv (((fold_common u294 u295).1).Lo), iv (((fold_common u294 u295).1).Hi)] hF hS rfl (by kernel_rfl) ⟨by kernel_rfl⟩ (by kernel_rfl) (by kernel_rfl) (by kernel_rfl) (by kernel_rfl) ⟨by kernel_rfl⟩ fun w a hF hS => ⟨⟨St.pick [1] (by decide) hS, (hS.frz (i := 2) rfl hlow)⟩, ?_⟩
      refine WT.z [14] (by kernel_rfl) ?_
      refine runC (rest := []) (obs := []) [14] [(0, sv ad1 p0 cap2), (1, sv ad4 p1 cap5), (5, sv ad261 l263 cap262), (6, iv x264), (7, iv x265), (8, pb b307), (9, .bool ((fold_common u294 u295).2))] hF (by kernel_rfl) (by kernel_rfl) onil ⟨by kernel_rfl⟩ fun a hF => ?_
      refine WRun.fin ?_
      exact ⟨b307, hF.sub (by kernel_rfl), St.pick [0, 1, 2] (by decide) hS⟩
    rintro a w ⟨b303, hF, hS⟩
    refine wfn rfl ?_
    refine esr ?_
    refine rn 1 1 [(0, sv ad1 p0 cap2), (1, sv ad4 p1 cap5), (5, sv ad261 l263 cap262), (6, iv x264), (7, iv x265), (8, pb b303), (32, .bool ((fold_common u294 u295).2))] hF fun a hF => ?_
    refine wfn rfl ?_
    refine econd hF rfl (fun hc => ?_) (fun hc => ?_)
    ·replace h := bif_t h hc
     refine WI.region ?_
     refine rno 2 [.run [] (Instr.loadAt 25 (pb b303)) (.agg #[iv (((fold_common u294 u295).1).Lo), iv (((fold_common u294 u295).1).Hi)])] 2 [(0, sv ad1 p0 cap2), (1, sv ad4 p1 cap5), (5, sv ad261 l263 cap262), (6, iv x264), (7, iv x265), (33, sv ad261 l263 cap262), (34, .agg #[iv (((fold_common u294 u295).1).Lo), iv (((fold_common u294 u295).1).Hi)])] hF (ocons (obN (us := [iv (((fold_common u294 u295).1).Lo), iv (((fold_common u294 u295).1).Hi)]) (by kernel_rfl) (fun _ hd => ((hS.at_ hd).blk (i := 0) rfl).cells rfl)) onil) fun a hF => ?_
     refine SK.wi (litK (e := 25) (sz := 2) (f := api_Span.cells) (t := 132) (len := 1) (fun b309 => [(0, sv ad1 p0 cap2), (1, sv ad4 p1 cap5), (5, sv ad261 l263 cap262), (6, iv x264), (7, iv x265), (33, sv ad261 l263 cap262), (35, sb b309 1)]) #[(0, .agg #[iv (((fold_common u294 u295).1).Lo), iv (((fold_common u294 u295).1).Hi)])] #[iv (((fold_common u294 u295).1).Lo), iv (((fold_common u294 u295).1).Hi)] ([(api_Span.mk (((fold_common u294 u295).1).Lo) (((fold_common u294 u295).1).Hi))]) hF hS (by kernel_rfl) ⟨by kernel_rfl⟩ (by kernel_rfl) api_Span.cells_len rfl rfl (by kernel_rfl) (fun _ => ⟨by kernel_rfl⟩) fun b309 w a hF hS => ?_)
     replace h := bindS h
     obtain ⟨l310, hl310, h⟩ := h
     refine SK.wi (appK (t := 132) (ty := 132) (bytes := 16) (l := l263) (l' := ([(api_Span.mk (((fold_common u294 u295).1).Lo) (((fold_common u294 u295).1).Hi))])) (fun ad311 cap312 => [(0, sv ad1 p0 cap2), (1, sv ad4 p1 cap5), (5, sv ad261 l263 cap262), (6, iv x264), (7, iv x265), (36, sv ad311 l310 cap312)]) 2 hF hS rfl (by kernel_rfl) ⟨by kernel_rfl⟩ (by kernel_rfl) (hS.arr (i := 0) rfl) (fun _ _ => rfl) hl310 (fun _ _ => ⟨by kernel_rfl⟩) fun ad311 cap312 w a hF hS => ?_)
     refine rn 1 5 [(0, sv ad1 p0 cap2), (1, sv ad4 p1 cap5), (5, sv ad311 l310 cap312), (6, iv x264), (7, iv x265)] hF fun a hF => ?_
     refine wfn rfl ?_
     exact ⟨l310, ad311, cap312, hF.sub (by kernel_rfl), St.pick [2, 3] (by decide) hS, h⟩
    ·replace h := bif_f h hc
     refine wpIn_skip (norm_then ?_)
     exact ⟨l263, ad261, cap262, hF.sub (by kernel_rfl), St.pick [1, 2] (by decide) hS, h⟩
   rintro a w ⟨l288, ad286, cap287, hF, hS, h⟩
   rw [fold_speeds_meet_K3] at h
   refine eseq ?_
   replace h := bindS h
   obtain ⟨u289, hu289, h⟩ := h
   replace h := bindS h
   obtain ⟨u290, hu290, h⟩ := h
   refine runD (obs := [.run [] (Instr.indexAt 132 (sv ad1 p0 cap2) (iv x264)) (.pointer (some (slAddr ad1 x264 2))), .run [] (Instr.loadAt 3 (.pointer (some ((slAddr ad1 x264 2).add 1)))) (iv u289.Hi), .run [] (Instr.indexAt 132 (sv ad4 p1 cap5) (iv x265)) (.pointer (some (slAddr ad4 x265 2))), .run [] (Instr.loadAt 3 (.pointer (some ((slAddr ad4 x265 2).add 1)))) (iv u290.Hi)]) 11 [(0, sv ad1 p0 cap2), (1, sv ad4 p1 cap5), (5, sv ad286 l288 cap287), (6, iv x264), (7, iv x265), (47, .bool (decide (u289.Hi < u290.Hi)))] (by kernel_rfl) hF (by kernel_rfl) (ocons (obIdxQ (hA3 _ (hS.frz (i := 1) rfl hlow)) (by kernel_rfl) (fun _ => hu289)) (ocons (obElQ (i := x264) 1 api_Span.cells_len (fun _ hd => (hA3 _ ((hS.later hd).frz (i := 1) rfl hlow))) (by kernel_rfl) (fun _ => hu289) rfl) (ocons (obIdxQ (hA6 _ (hS.frz (i := 1) rfl hlow)) (by kernel_rfl) (fun _ => hu290)) (ocons (obElQ (i := x265) 1 api_Span.cells_len (fun _ hd => (hA6 _ ((hS.later hd).frz (i := 1) rfl hlow))) (by kernel_rfl) (fun _ => hu290) rfl) onil)))) ⟨by kernel_rfl⟩ fun a w hF hx => ?_
   replace hS := hS.later hx
   refine wfn rfl ?_
   refine econd hF rfl (fun hc => ?_) (fun hc => ?_)
   ·replace h := bif_t h hc
    refine WI.region ?_
    replace h := bindS h
    obtain ⟨x291, hx291, h⟩ := h
    refine rno 3 [.run [] (binOp .add 3 (iv x264) (iv 1)) (iv x291)] 3 [(0, sv ad1 p0 cap2), (1, sv ad4 p1 cap5), (5, sv ad286 l288 cap287), (6, iv x291), (7, iv x265)] hF (ocons (obAddC (fun _ => hx291)) onil) fun a hF => ?_
    refine WI.fin rfl (norm_block <| norm_then <| ?_)
    rw [hk2] at h
    exact ⟨nk2, Nat.lt_succ_self _, l288, x291, x265, ad286, cap287, hF.sub (by kernel_rfl), St.pick [0, 1] (by decide) hS, h⟩
   ·replace h := bif_f h hc
    refine WI.region ?_
    replace h := bindS h
    obtain ⟨x292, hx292, h⟩ := h
    refine rno 3 [.run [] (binOp .add 3 (iv x265) (iv 1)) (iv x292)] 3 [(0, sv ad1 p0 cap2), (1, sv ad4 p1 cap5), (5, sv ad286 l288 cap287), (6, iv x264), (7, iv x292)] hF (ocons (obAddC (fun _ => hx292)) onil) fun a hF => ?_
    refine WI.fin rfl (norm_block <| norm_then <| ?_)
    rw [hk2] at h
    exact ⟨nk2, Nat.lt_succ_self _, l288, x264, x292, ad286, cap287, hF.sub (by kernel_rfl), St.pick [0, 1] (by decide) hS, h⟩
  ·replace h := bif_f h hc
   refine wpIn_exit (exit_then <| exit_then <| exit_hit <| norm_then ?_)
   exact ⟨l263, ad261, cap262, hF.sub (by kernel_rfl), St.pick [0, 1] (by decide) hS, h⟩
 rintro a w ⟨l158, ad156, cap157, hF, hS, h⟩
 rw [fold_speeds_meet_K1] at h
 refine esr ?_
 refine rn 1 1 [(52, sv ad156 l158 cap157)] hF fun a hF => ?_
 replace h := bindS h
 obtain ⟨y160, hy160, h⟩ := h
 refine SK.wi (callK (f := 62) (args := #[sv ad156 l158 cap157]) (R := fun v w2 => ∃ ad161 cap162, v = sv ad161 y160 cap162 ∧ St w [arr 25 2 api_Span.cells ad161 y160.length cap162 y160] w2) (fun v159 => [(53, v159)]) hF (by kernel_rfl) ⟨by kernel_rfl⟩ (Calls.mono (fold_speeds_united_ok F l158 _ hy160 (memOf w) w (memOf_at w) (Arr.toM (hS.arr (i := 0) rfl))) (by rintro e w2 ⟨ad161, cap162, rfl, h⟩; exact ⟨_, rfl, ad161, cap162, rfl, h⟩)) (fun _ => ⟨by kernel_rfl⟩) ?_)
 rintro v159 w a ⟨ad161, cap162, rfl, hQ⟩ hF
 replace hS : St w0 [arr 25 2 api_Span.cells ad161 y160.length cap162 y160, arr 25 2 api_Span.cells ad156 l158.length cap157 l158, fz w0 μ] w := hS.madeL hQ
 refine rn 1 3 [(4, sv ad161 y160 cap162)] hF fun a hF => ?_
 refine wfn rfl ?_
 refine wpIn_ret (fn_ret [.tmp 4] [sv ad161 y160 cap162] hF rfl ⟨rfl, trivial⟩ ?_)
 have hr_ := Option.some.inj h
 subst hr_
 exact ⟨_, _, rfl, St.pick [0] (by decide) hS⟩

theorem fold_back_ok (F : Nat) (p0 : (List (List api_Span))) (res : (List (List api_Span))) (h : fold_back F p0 = some res) (μ : Frz) (w0 : World) (hm : FrzAt μ w0) {ad1 : Option Addr} {cap2 : Nat} {css3 : List (List Value)} (hA4 : ArrQ μ 1 Rp132 ad1 cap2 css3 p0) : Calls Try.prog 70 #[sv ad1 p0 cap2] w0 (fun e w => ∃ (ν_ : Frz) (zad0 : Option Addr) (zcap0 : Nat) (zcss0 : List (List Value)), μ.ext w0.heap.size ν_ ∧ e = .returned (sv zad0 res zcap0) ∧ All2 (Rp43 ν_) zcss0 res ∧ St w0 [fz w0 ν_, arr 43 1 (fN 1) zad0 res.length zcap0 zcss0] w) := by
 obtain ⟨hlow, hS⟩ := hm.init
 have hext := Frz.ext_refl w0.heap.size μ
 rw [fold_back] at h
 refine fn_enterW Try.func70 rfl 19 [(0, sv ad1 p0 cap2)] rfl rfl (by kernel_rfl) fun a w hw hF => ?_
 replace hS : St w0 [fz w0 μ] w := by rw [hw]; exact hS
 clear hw
 refine esr ?_
 refine rn 1 1 [(0, sv ad1 p0 cap2)] hF fun a hF => ?_
 refine wfn rfl ?_
 refine esr ?_
 refine rn 1 1 [(0, sv ad1 p0 cap2), (3, .slice none 0 0)] hF fun a hF => ?_
 refine wfn rfl ?_
 have hj98 := Frz.le_refl μ
 refine ecut (fun a w => ∃ (l94 : (List (List api_Span))) (ν91 : Frz) (ad92 : Option Addr) (cap93 : Nat) (css95 : List (List Value)), Fr 19 [] [(3, sv ad92 l94 cap93)] a ∧ St w0 [arr 43 1 (fN 1) ad92 l94.length cap93 css95, fz w0 ν91] w ∧ (All2 (Rp43 ν91) css95 l94) ∧ (μ.le ν91) ∧ (μ.ext w0.heap.size ν91) ∧ (FrzIn w0 ν91) ∧ fold_back_K1 l94 = some res) ?_ ?_
 ·skip
  refine esr ?_
  refine rn 3 3 [(3, .slice none 0 0), (6, sv ad1 p0 cap2), (7, iv (ln p0)), (8, iv 0)] hF fun a hF => ?_
  refine wfn rfl ?_
  refine wpIn_block ?_
  have hj161 := Frz.le_refl μ
  replace hS := hS.nilarr 43 1 (fN 1)
  refine eloop (fun n_ a w => ∃ (l156 : (List (List api_Span))) (x159 : Int) (ν153 : Frz) (ad154 : Option Addr) (cap155 : Nat) (css157 : List (List Value)), Fr 19 [] [(3, sv ad154 l156 cap155), (6, sv ad1 p0 cap2), (7, iv (ln p0)), (8, iv x159)] a ∧ St w0 [arr 43 1 (fN 1) ad154 l156.length cap155 css157, fz w0 ν153] w ∧ (All2 (Rp43 ν153) css157 l156) ∧ (μ.le ν153) ∧ (μ.ext w0.heap.size ν153) ∧ (FrzIn w0 ν153) ∧ fold_back_L2 F p0 n_ l156 x159 = some res) F ⟨[], 0, μ, none, 0, [], hF.sub (by kernel_rfl), St.pick [0, 1] (by decide) hS, All2.nil, hj161, hext, hlow, h⟩ ?_
  clear hj161
  rintro nk2 a w ⟨l156, x159, ν153, ad154, cap155, css157, hF, hS, hq158, hle160, hext, hlow, h⟩
  rcases nk2 with _ | nk2
  ·cases (show (none : Option (List (List api_Span))) = some res from h)
  replace hA4 := hA4.mono Rp132.mono hle160
  replace hj98 := Frz.le_trans hj98 hle160
  obtain ⟨k2, hk2⟩ : ∃ k, k = fold_back_L2 F p0 nk2 := ⟨_, rfl⟩
  replace h : fold_back_B2 F p0 k2 l156 x159 = some res := by rw [hk2]; exact h
  rw [fold_back_B2] at h
  refine esr ?_
  refine rn 1 1 [(3, sv ad154 l156 cap155), (6, sv ad1 p0 cap2), (7, iv (ln p0)), (8, iv x159), (9, .bool (decide (x159 < (ln p0))))] hF fun a hF => ?_
  refine wfn rfl ?_
  refine eseq ?_
  refine econd hF rfl (fun hc => ?_) (fun hc => ?_)
  ·replace h := bif_t h hc
   refine wpIn_skip (norm_then ?_)
   refine eseq ?_
   refine wpIn_block ?_
   refine esr ?_
   replace h := bindS h
   obtain ⟨u162, hu162, h⟩ := h
   obtain ⟨cs163, hcs164, hR165⟩ := getI_all2 hA4.2 hu162
   obtain ⟨ad166, cap167, rfl, hA168⟩ := hR165
   refine rno 3 [.run [] (Instr.indexAt 135 (sv ad1 p0 cap2) (iv x159)) (.pointer (some (slAddr ad1 x159 1))), .run [] (Instr.loadAt 132 (.pointer (some (slAddr ad1 x159 1)))) (sv ad166 u162 cap167)] 3 [(3, sv ad154 l156 cap155), (5, sv ad166 u162 cap167), (6, sv ad1 p0 cap2), (7, iv (ln p0)), (8, iv x159)] hF (ocons (obIdxQ (hA4.at (hS.frz (i := 1) rfl hlow)) (by kernel_rfl) (fun _ => hcs164)) (ocons (obElQ (i := x159) 0 (fN_len 1) (fun _ hd => (hA4.at ((hS.at_ hd).frz (i := 1) rfl hlow))) (by kernel_rfl) (fun _ => hcs164) rfl) onil)) fun a hF => ?_
   refine wfn rfl ?_
   refine WI.region ?_
   refine rn 2 2 [(3, sv ad154 l156 cap155), (6, sv ad1 p0 cap2), (7, iv (ln p0)), (8, iv x159), (12, sv ad154 l156 cap155), (13, sv ad166 u162 cap167)] hF fun a hF => ?_
   replace h := bindS h
   obtain ⟨y170, hy170, h⟩ := h
   refine SK.wi (callK (f := 99) (args := #[sv ad166 u162 cap167]) (R := fun v w2 => ∃ ad171 cap172, v = sv ad171 y170 cap172 ∧ St w [arr 25 2 api_Span.cells ad171 y170.length cap172 y170] w2) (fun v169 => [(3, sv ad154 l156 cap155), (6, sv ad1 p0 cap2), (7, iv (ln p0)), (8, iv x159), (12, sv ad154 l156 cap155), (14, v169)]) hF (by kernel_rfl) ⟨by kernel_rfl⟩ (Calls.mono (slices_Clone_fold_speeds_api_Span_ok F u162 _ hy170 (memOf w) w (memOf_at w) (hA168.mono (FrzAt.le_mem (hS.frz (i := 1) rfl hlow)))) (by rintro e w2 ⟨ad171, cap172, rfl, h⟩; exact ⟨_, rfl, ad171, cap172, rfl, h⟩)) (fun _ => ⟨by kernel_rfl⟩) ?_)
   rintro v169 w a ⟨ad171, cap172, rfl, hQ⟩ hF
   replace hS : St w0 [arr 25 2 api_Span.cells ad171 y170.length cap172 y170, arr 43 1 (fN 1) ad154 l156.length cap155 css157, fz w0 ν153] w := hS.madeL hQ
   obtain ⟨ν174, hx175, hlow, hS, hz176⟩ := hS.freeze (i := 2) (j := 0) rfl rfl (by decide) hlow
   replace hA4 := hA4.mono Rp132.mono hx175.1
   replace hq158 := All2.mono Rp43.mono hx175.1 hq158
   replace hA168 := hA168.mono hx175.1
   replace hj98 := Frz.le_trans hj98 hx175.1
   replace hle160 := Frz.le_trans hle160 hx175.1
   replace hext := Frz.ext_trans hext hx175
   replace hS : St w0 [arr 43 1 (fN 1) ad154 l156.length cap155 css157, fz w0 ν174] w := hS
   have hA177 := ArrM.of_arr hz176
   have hq178 : All2 (Rp43 ν174) ([[sv ad171 y170 cap172]] : List (List Value)) [y170] := (All2.cons ⟨ad171, cap172, rfl, hA177⟩ All2.nil)
   refine SK.wi (litQK (e := 43) (sz := 1) (f := fN 1) (t := 48) (len := 1) (fun b173 => [(3, sv ad154 l156 cap155), (6, sv ad1 p0 cap2), (7, iv (ln p0)), (8, iv x159), (12, sv ad154 l156 cap155), (15, sb b173 1)]) #[(0, sv ad171 y170 cap172)] #[sv ad171 y170 cap172] ([[sv ad171 y170 cap172]] : List (List Value)) ([y170]) hF hS (by kernel_rfl) ⟨by kernel_rfl⟩ (by kernel_rfl) (fN_len 1) rfl rfl rfl (by kernel_rfl) (fun _ => ⟨by kernel_rfl⟩) fun b173 w a hF hS => ?_)
   replace h := bindS h
   obtain ⟨l179, hl179, h⟩ := h
   have hq183 : All2 (Rp43 ν174) (css157 ++ ([[sv ad171 y170 cap172]] : List (List Value))) l179 := by rw [(apd_some hl179).1]; exact All2.app hq158 hq178
   refine SK.wi (appQK (t := 48) (ty := 48) (bytes := 24) (c := css157) (c' := ([[sv ad171 y170 cap172]] : List (List Value))) (l := l156) (l' := ([y170])) (fun ad180 cap181 => [(3, sv ad154 l156 cap155), (6, sv ad1 p0 cap2), (7, iv (ln p0)), (8, iv x159), (16, sv ad180 l179 cap181)]) 1 hF hS rfl (by kernel_rfl) ⟨by kernel_rfl⟩ (by kernel_rfl) (hS.arr (i := 0) rfl) (ArrQ.one hq178 Rp43.one) hl179 (fun _ _ => ⟨by kernel_rfl⟩) fun ad180 cap181 w a hF hS => ?_)
   refine rn 1 6 [(3, sv ad180 l179 cap181), (6, sv ad1 p0 cap2), (7, iv (ln p0)), (8, iv x159)] hF fun a hF => ?_
   refine WI.fin rfl (norm_block <| norm_then <| ?_)
   refine WI.region ?_
   replace h := bindS h
   obtain ⟨x184, hx184, h⟩ := h
   refine rno 2 [.run [] (binOp .add 3 (iv x159) (iv 1)) (iv x184)] 2 [(3, sv ad180 l179 cap181), (6, sv ad1 p0 cap2), (7, iv (ln p0)), (8, iv x184)] hF (ocons (obAddC (fun _ => hx184)) onil) fun a hF => ?_
   refine wfn rfl ?_
   rw [hk2] at h
   exact ⟨nk2, Nat.lt_succ_self _, l179, x184, ν174, ad180, cap181, (css157 ++ ([[sv ad171 y170 cap172]] : List (List Value))), hF.sub (by kernel_rfl), St.pick [1, 2] (by decide) hS, hq183, hle160, hext, hlow, h⟩
  ·replace h := bif_f h hc
   refine wpIn_exit (exit_then <| exit_then <| exit_hit <| norm_then ?_)
   exact ⟨l156, ν153, ad154, cap155, css157, hF.sub (by kernel_rfl), St.pick [0, 1] (by decide) hS, hq158, hj98, hext, hlow, h⟩
 clear hj98
 rintro a w ⟨l94, ν91, ad92, cap93, css95, hF, hS, hq96, hle97, hext, hlow, h⟩
 replace hA4 := hA4.mono Rp132.mono hle97
 rw [fold_back_K1] at h
 refine esr ?_
 refine rn 2 2 [(2, sv ad92 l94 cap93)] hF fun a hF => ?_
 refine wfn rfl ?_
 refine wpIn_ret (fn_ret [.tmp 2] [sv ad92 l94 cap93] hF rfl ⟨rfl, trivial⟩ ?_)
 have hr_ := Option.some.inj h
 subst hr_
 exact ⟨ν91, _, _, _, hext, rfl, hq96, St.pick [1, 0] (by decide) hS⟩

theorem law03_made_ok (F : Nat) (p0 : (List (List Int))) (res : (List (List api_Span))) (h : law03_made F p0 = some res) (μ : Frz) (w0 : World) (hm : FrzAt μ w0) {ad1 : Option Addr} {cap2 : Nat} {css3 : List (List Value)} (hA4 : ArrQ μ 1 Rp91 ad1 cap2 css3 p0) : Calls Try.prog 39 #[sv ad1 p0 cap2] w0 (fun e w => ∃ (ν_ : Frz) (zad0 : Option Addr) (zcap0 : Nat) (zcss0 : List (List Value)), μ.ext w0.heap.size ν_ ∧ e = .returned (sv zad0 res zcap0) ∧ All2 (Rp43 ν_) zcss0 res ∧ St w0 [fz w0 ν_, arr 43 1 (fN 1) zad0 res.length zcap0 zcss0] w) := by
 obtain ⟨hlow, hS⟩ := hm.init
 have hext := Frz.ext_refl w0.heap.size μ
 rw [law03_made] at h
 refine fn_enterW Try.func39 rfl 65 [(0, sv ad1 p0 cap2)] rfl rfl (by kernel_rfl) fun a w hw hF => ?_
 replace hS : St w0 [fz w0 μ] w := by rw [hw]; exact hS
 clear hw
 refine esr ?_
 refine rn 1 1 [(0, sv ad1 p0 cap2)] hF fun a hF => ?_
 refine wfn rfl ?_
 refine esr ?_
 refine rn 1 1 [(0, sv ad1 p0 cap2), (3, .slice none 0 0)] hF fun a hF => ?_
 refine wfn rfl ?_
 have hj1808 := Frz.le_refl μ
 refine ecut (fun a w => ∃ (l1804 : (List (List api_Span))) (ν1801 : Frz) (ad1802 : Option Addr) (cap1803 : Nat) (css1805 : List (List Value)), Fr 65 [] [(3, sv ad1802 l1804 cap1803)] a ∧ St w0 [arr 43 1 (fN 1) ad1802 l1804.length cap1803 css1805, fz w0 ν1801] w ∧ (All2 (Rp43 ν1801) css1805 l1804) ∧ (μ.le ν1801) ∧ (μ.ext w0.heap.size ν1801) ∧ (FrzIn w0 ν1801) ∧ law03_made_K1 l1804 = some res) ?_ ?_
 ·skip
  refine esr ?_
  refine rn 3 3 [(3, .slice none 0 0), (10, sv ad1 p0 cap2), (11, iv (ln p0)), (12, iv 0)] hF fun a hF => ?_
  refine wfn rfl ?_
  refine wpIn_block ?_
  have hj3011 := Frz.le_refl μ
  replace hS := hS.nilarr 43 1 (fN 1)
  refine eloop (fun n_ a w => ∃ (x3004 : Int) (l3007 : (List (List api_Span))) (ν3003 : Frz) (ad3005 : Option Addr) (cap3006 : Nat) (css3008 : List (List Value)), Fr 65 [] [(3, sv ad3005 l3007 cap3006), (10, sv ad1 p0 cap2), (11, iv (ln p0)), (12, iv x3004)] a ∧ St w0 [arr 43 1 (fN 1) ad3005 l3007.length cap3006 css3008, fz w0 ν3003] w ∧ (All2 (Rp43 ν3003) css3008 l3007) ∧ (μ.le ν3003) ∧ (μ.ext w0.heap.size ν3003) ∧ (FrzIn w0 ν3003) ∧ law03_made_L2 F p0 n_ x3004 l3007 = some res) F ⟨0, [], μ, none, 0, [], hF.sub (by kernel_rfl), St.pick [0, 1] (by decide) hS, All2.nil, hj3011, hext, hlow, h⟩ ?_
  clear hj3011
  rintro nk2 a w ⟨x3004, l3007, ν3003, ad3005, cap3006, css3008, hF, hS, hq3009, hle3010, hext, hlow, h⟩
  rcases nk2 with _ | nk2
  ·cases (show (none : Option (List (List api_Span))) = some res from h)
  replace hA4 := hA4.mono Rp91.mono hle3010
  replace hj1808 := Frz.le_trans hj1808 hle3010
  obtain ⟨k2, hk2⟩ : ∃ k, k = law03_made_L2 F p0 nk2 := ⟨_, rfl⟩
  replace h : law03_made_B2 F p0 k2 x3004 l3007 = some res := by rw [hk2]; exact h
  rw [law03_made_B2] at h
  refine esr ?_
  refine rn 1 1 [(3, sv ad3005 l3007 cap3006), (10, sv ad1 p0 cap2), (11, iv (ln p0)), (12, iv x3004), (13, .bool (decide (x3004 < (ln p0))))] hF fun a hF => ?_
  refine wfn rfl ?_
  refine eseq ?_
  refine econd hF rfl (fun hc => ?_) (fun hc => ?_)
  ·replace h := bif_t h hc
   refine wpIn_skip (norm_then ?_)
   have hj3312 := Frz.le_refl ν3003
   refine ecut (fun a w => ∃ (l3307 : (List (List api_Span))) (ν3304 : Frz) (ad3305 : Option Addr) (cap3306 : Nat) (css3308 : List (List Value)), Fr 65 [] [(3, sv ad3305 l3307 cap3306), (10, sv ad1 p0 cap2), (11, iv (ln p0)), (12, iv x3004)] a ∧ St w0 [arr 43 1 (fN 1) ad3305 l3307.length cap3306 css3308, fz w0 ν3304] w ∧ (All2 (Rp43 ν3304) css3308 l3307) ∧ (ν3003.le ν3304) ∧ (μ.ext w0.heap.size ν3304) ∧ (FrzIn w0 ν3304) ∧ law03_made_K3 x3004 k2 l3307 = some res) ?_ ?_
   ·skip
    refine wpIn_block ?_
    refine esr ?_
    replace h := bindS h
    obtain ⟨u3313, hu3313, h⟩ := h
    obtain ⟨cs3314, hcs3315, hR3316⟩ := getI_all2 hA4.2 hu3313
    obtain ⟨ad3317, cap3318, rfl, hA3319⟩ := hR3316
    refine rno 3 [.run [] (Instr.indexAt 82 (sv ad1 p0 cap2) (iv x3004)) (.pointer (some (slAddr ad1 x3004 1))), .run [] (Instr.loadAt 91 (.pointer (some (slAddr ad1 x3004 1)))) (sv ad3317 u3313 cap3318)] 3 [(3, sv ad3005 l3007 cap3006), (5, sv ad3317 u3313 cap3318), (10, sv ad1 p0 cap2), (11, iv (ln p0)), (12, iv x3004)] hF (ocons (obIdxQ (hA4.at (hS.frz (i := 1) rfl hlow)) (by kernel_rfl) (fun _ => hcs3315)) (ocons (obElQ (i := x3004) 0 (fN_len 1) (fun _ hd => (hA4.at ((hS.at_ hd).frz (i := 1) rfl hlow))) (by kernel_rfl) (fun _ => hcs3315) rfl) onil)) fun a hF => ?_
    refine wfn rfl ?_
    refine esr ?_
    refine rn 1 1 [(3, sv ad3005 l3007 cap3006), (5, sv ad3317 u3313 cap3318), (6, .slice none 0 0), (10, sv ad1 p0 cap2), (11, iv (ln p0)), (12, iv x3004)] hF fun a hF => ?_
    refine wfn rfl ?_
    refine esr ?_
    refine rn 1 1 [(3, sv ad3005 l3007 cap3006), (5, sv ad3317 u3313 cap3318), (6, .slice none 0 0), (7, iv 0), (10, sv ad1 p0 cap2), (11, iv (ln p0)), (12, iv x3004)] hF fun a hF => ?_
    refine wfn rfl ?_
    refine ecut (fun a w => ∃ (l3457 : (List api_Span)) (ad3455 : Option Addr) (cap3456 : Nat), Fr 65 [] [(3, sv ad3005 l3007 cap3006), (6, sv ad3455 l3457 cap3456), (10, sv ad1 p0 cap2), (11, iv (ln p0)), (12, iv x3004)] a ∧ St w0 [arr 25 2 api_Span.cells ad3455 l3457.length cap3456 l3457, arr 43 1 (fN 1) ad3005 l3007.length cap3006 css3008, fz w0 ν3003] w ∧ law03_made_K4 x3004 l3007 k2 l3457 = some res) ?_ ?_
    ·skip
     refine esr ?_
     refine rn 3 3 [(3, sv ad3005 l3007 cap3006), (6, .slice none 0 0), (7, iv 0), (10, sv ad1 p0 cap2), (11, iv (ln p0)), (12, iv x3004), (16, sv ad3317 u3313 cap3318), (17, iv (ln u3313)), (18, iv 0)] hF fun a hF => ?_
     refine wfn rfl ?_
     refine wpIn_block ?_
     replace hS := hS.nilarr 25 2 api_Span.cells
     refine eloop (fun n_ a w => ∃ (x3555 : Int) (l3558 : (List api_Span)) (x3559 : Int) (ad3556 : Option Addr) (cap3557 : Nat), Fr 65 [] [(3, sv ad3005 l3007 cap3006), (6, sv ad3556 l3558 cap3557), (7, iv x3559), (10, sv ad1 p0 cap2), (11, iv (ln p0)), (12, iv x3004), (16, sv ad3317 u3313 cap3318), (17, iv (ln u3313)), (18, iv x3555)] a ∧ St w0 [arr 25 2 api_Span.cells ad3556 l3558.length cap3557 l3558, arr 43 1 (fN 1) ad3005 l3007.length cap3006 css3008, fz w0 ν3003] w ∧ law03_made_L5 x3004 l3007 k2 u3313 n_ x3555 l3558 x3559 = some res) F ⟨0, [], 0, none, 0, hF.sub (by kernel_rfl), St.pick [0, 1, 2] (by decide) hS, h⟩ ?_
     rintro nk5 a w ⟨x3555, l3558, x3559, ad3556, cap3557, hF, hS, h⟩
     rcases nk5 with _ | nk5
     ·cases (show (none : Option (List (List api_Span))) = some res from h)
     obtain ⟨k5, hk5⟩ : ∃ k, k = law03_made_L5 x3004 l3007 k2 u3313 nk5 := ⟨_, rfl⟩
     replace h : law03_made_B5 x3004 l3007 k2 u3313 k5 x3555 l3558 x3559 = some res := by rw [hk5]; exact h
     rw [law03_made_B5] at h
     refine esr ?_
     refine rn 1 1 [(3, sv ad3005 l3007 cap3006), (6, sv ad3556 l3558 cap3557), (7, iv x3559), (10, sv ad1 p0 cap2), (11, iv (ln p0)), (12, iv x3004), (16, sv ad3317 u3313 cap3318), (17, iv (ln u3313)), (18, iv x3555), (19, .bool (decide (x3555 < (ln u3313))))] hF fun a hF => ?_
     refine wfn rfl ?_
     refine eseq ?_
     refine econd hF rfl (fun hc => ?_) (fun hc => ?_)
     ·replace h := bif_t h hc
      refine wpIn_skip (norm_then ?_)
      refine ecut (fun a w => ∃ (l3582 : (List api_Span)) (x3583 : Int) (ad3580 : Option Addr) (cap3581 : Nat), Fr 65 [] [(3, sv ad3005 l3007 cap3006), (6, sv ad3580 l3582 cap3581), (7, iv x3583), (10, sv ad1 p0 cap2), (11, iv (ln p0)), (12, iv x3004), (16, sv ad3317 u3313 cap3318), (17, iv (ln u3313)), (18, iv x3555)] a ∧ St w0 [arr 25 2 api_Span.cells ad3580 l3582.length cap3581 l3582, arr 43 1 (fN 1) ad3005 l3007.length cap3006 css3008, fz w0 ν3003] w ∧ law03_made_K6 x3555 k5 l3582 x3583 = some res) ?_ ?_
      ·skip
       refine wpIn_block ?_
       refine esr ?_
       replace h := bindS h
       obtain ⟨u3586, hu3586, h⟩ := h
       refine rno 5 [.run [] (Instr.indexAt 91 (sv ad3317 u3313 cap3318) (iv x3555)) (.pointer (some (slAddr ad3317 x3555 1))), .run [] (Instr.loadAt 5 (.pointer (some (slAddr ad3317 x3555 1)))) (.int .u8 u3586)] 5 [(3, sv ad3005 l3007 cap3006), (6, sv ad3556 l3558 cap3557), (7, iv x3559), (8, iv x3555), (9, .int .u8 u3586), (10, sv ad1 p0 cap2), (11, iv (ln p0)), (12, iv x3004), (16, sv ad3317 u3313 cap3318), (17, iv (ln u3313)), (18, iv x3555)] hF (ocons (obIdxQ (hA3319 _ (hS.frz (i := 2) rfl hlow)) (by kernel_rfl) (fun _ => hu3586)) (ocons (obElQ (i := x3555) 0 (fK_len .u8) (fun _ hd => (hA3319 _ ((hS.at_ hd).frz (i := 2) rfl hlow))) (by kernel_rfl) (fun _ => hu3586) rfl) onil)) fun a hF => ?_
       refine wfn rfl ?_
       refine eseq ?_
       refine esr ?_
       refine rn 2 2 [(3, sv ad3005 l3007 cap3006), (6, sv ad3556 l3558 cap3557), (7, iv x3559), (8, iv x3555), (9, .int .u8 u3586), (10, sv ad1 p0 cap2), (11, iv (ln p0)), (12, iv x3004), (16, sv ad3317 u3313 cap3318), (17, iv (ln u3313)), (18, iv x3555), (24, .bool (decide (x3555 ≥ 6)))] hF fun a hF => ?_
       refine wfn rfl ?_
       refine econd hF rfl (fun hc => ?_) (fun hc => ?_)
       ·replace h := bif_t h hc
        refine wpIn_exit (exit_then <| exit_miss rfl <| exit_then <| exit_then <| exit_hit <| norm_then ?_)
        exact ⟨l3558, ad3556, cap3557, hF.sub (by kernel_rfl), St.pick [0, 1, 2] (by decide) hS, h⟩
       ·replace h := bif_f h hc
        refine wpIn_skip (norm_then ?_)
        refine esr ?_
        replace h := bindS h
        obtain ⟨x3587, hx3587, h⟩ := h
        refine rno 3 [.run [] (binOp .rem 3 (iv x3555) (iv 2)) (iv x3587)] 3 [(3, sv ad3005 l3007 cap3006), (6, sv ad3556 l3558 cap3557), (7, iv x3559), (9, .int .u8 u3586), (10, sv ad1 p0 cap2), (11, iv (ln p0)), (12, iv x3004), (16, sv ad3317 u3313 cap3318), (17, iv (ln u3313)), (18, iv x3555), (27, .bool (x3587 == 0))] hF (ocons (obRemC (fun _ => hx3587)) onil) fun a hF => ?_
        refine wfn rfl ?_
        refine econd hF rfl (fun hc => ?_) (fun hc => ?_)
        ·replace h := bif_t h hc
         refine esr ?_
         replace h := bindS h
         obtain ⟨x3588, hx3588, h⟩ := h
         replace h := bindS h
         obtain ⟨x3589, hx3589, h⟩ := h
         replace h := bindS h
         obtain ⟨x3590, hx3590, h⟩ := h
         replace h := bindS h
         obtain ⟨x3591, hx3591, h⟩ := h
         refine rno 7 [.run [] (convert 5 3 (.int .u8 u3586)) (iv x3588), .run [] (binOp .rem 3 (iv x3588) (iv 12)) (iv x3589), .run [] (binOp .add 3 (iv 1) (iv x3589)) (iv x3590), .run [] (binOp .add 3 (iv x3559) (iv x3590)) (iv x3591)] 7 [(3, sv ad3005 l3007 cap3006), (6, sv ad3556 l3558 cap3557), (7, iv x3591), (10, sv ad1 p0 cap2), (11, iv (ln p0)), (12, iv x3004), (16, sv ad3317 u3313 cap3318), (17, iv (ln u3313)), (18, iv x3555)] hF (ocons (obConvC (by kernel_rfl) (by kernel_rfl) (fun _ => hx3588)) (ocons (obRemC (fun _ => hx3589)) (ocons (obAddC (fun _ => hx3590)) (ocons (obAddC (fun _ => hx3591)) onil)))) fun a hF => ?_
         refine wfn rfl ?_
         refine WI.region ?_
         replace h := bindS h
         obtain ⟨x3592, hx3592, h⟩ := h
         replace h := bindS h
         obtain ⟨x3593, hx3593, h⟩ := h
         refine rx 6 [.run [] (binOp .sub 3 (iv x3591) (iv 20)) (iv x3592), .run [] (binOp .sub 3 (iv x3591) (iv 20)) (iv x3593), .call [] 46 #[iv x3592, iv x3593] (.agg #[iv ((law03_span x3592 x3593).Lo), iv ((law03_span x3592 x3593).Hi)])] 6 [(3, sv ad3005 l3007 cap3006), (6, sv ad3556 l3558 cap3557), (7, iv x3591), (10, sv ad1 p0 cap2), (11, iv (ln p0)), (12, iv x3004), (16, sv ad3317 u3313 cap3318), (17, iv (ln u3313)), (18, iv x3555), (34, sv ad3556 l3558 cap3557), (39, .agg #[iv ((law03_span x3592 x3593).Lo), iv ((law03_span x3592 x3593).Hi)])] hF (ocons (obSubC (fun _ => hx3592)) (ocons (obSubC (fun _ => hx3593)) (ocons (show Ob.ok _ Ext _ _ from fun hk w2 hd => law03_span_ok x3592 x3593 _ rfl _ w2 (memOf_at w2) ) onil))) fun a w hF hx => ?_
         replace hS := hS.later hx
         refine SK.wi (litK (e := 25) (sz := 2) (f := api_Span.cells) (t := 43) (len := 1) (fun b3594 => [(3, sv ad3005 l3007 cap3006), (6, sv ad3556 l3558 cap3557), (7, iv x3591), (10, sv ad1 p0 cap2), (11, iv (ln p0)), (12, iv x3004), (16, sv ad3317 u3313 cap3318), (17, iv (ln u3313)), (18, iv x3555), (34, sv ad3556 l3558 cap3557), (40, sb b3594 1)]) #[(0, .agg #[iv ((law03_span x3592 x3593).Lo), iv ((law03_span x3592 x3593).Hi)])] #[iv ((law03_span x3592 x3593).Lo), iv ((law03_span x3592 x3593).Hi)] ([(law03_span x3592 x3593)]) hF hS (by kernel_rfl) ⟨by kernel_rfl⟩ (by kernel_rfl) api_Span.cells_len rfl rfl (by kernel_rfl) (fun _ => ⟨by kernel_rfl⟩) fun b3594 w a hF hS => ?_)
         replace h := bindS h
         obtain ⟨l3595, hl3595, h⟩ := h
         refine SK.wi (appK (t := 43) (ty := 43) (bytes := 16) (l := l3558) (l' := ([(law03_span x3592 x3593)])) (fun ad3596 cap3597 => [(3, sv ad3005 l3007 cap3006), (6, sv ad3556 l3558 cap3557), (7, iv x3591), (10, sv ad1 p0 cap2), (11, iv (ln p0)), (12, iv x3004), (16, sv ad3317 u3313 cap3318), (17, iv (ln u3313)), (18, iv x3555), (41, sv ad3596 l3595 cap3597)]) 1 hF hS rfl (by kernel_rfl) ⟨by kernel_rfl⟩ (by kernel_rfl) (hS.arr (i := 0) rfl) (fun _ _ => rfl) hl3595 (fun _ _ => ⟨by kernel_rfl⟩) fun ad3596 cap3597 w a hF hS => ?_)
         refine rn 1 9 [(3, sv ad3005 l3007 cap3006), (6, sv ad3596 l3595 cap3597), (7, iv x3591), (10, sv ad1 p0 cap2), (11, iv (ln p0)), (12, iv x3004), (16, sv ad3317 u3313 cap3318), (17, iv (ln u3313)), (18, iv x3555)] hF fun a hF => ?_
         refine WI.fin rfl (norm_block <| norm_then <| ?_)
         exact ⟨l3595, x3591, ad3596, cap3597, hF.sub (by kernel_rfl), St.pick [1, 2, 3] (by decide) hS, h⟩
        ·replace h := bif_f h hc
         refine esr ?_
         refine rn 3 3 [(3, sv ad3005 l3007 cap3006), (6, sv ad3556 l3558 cap3557), (7, iv x3559), (9, .int .u8 u3586), (10, sv ad1 p0 cap2), (11, iv (ln p0)), (12, iv x3004), (16, sv ad3317 u3313 cap3318), (17, iv (ln u3313)), (18, iv x3555), (44, .bool (decide ((ln l3558) > 0)))] hF fun a hF => ?_
         refine wfn rfl ?_
         refine econd hF rfl (fun hc => ?_) (fun hc => ?_)
         ·replace h := bif_t h hc
          refine esr ?_
          replace h := bindS h
          obtain ⟨x3598, hx3598, h⟩ := h
          replace h := bindS h
          obtain ⟨x3599, hx3599, h⟩ := h
          replace h := bindS h
          obtain ⟨x3600, hx3600, h⟩ := h
          refine rno 6 [.run [] (convert 5 3 (.int .u8 u3586)) (iv x3598), .run [] (binOp .rem 3 (iv x3598) (iv 8)) (iv x3599), .run [] (binOp .add 3 (iv x3559) (iv x3599)) (iv x3600)] 6 [(3, sv ad3005 l3007 cap3006), (6, sv ad3556 l3558 cap3557), (7, iv x3600), (10, sv ad1 p0 cap2), (11, iv (ln p0)), (12, iv x3004), (16, sv ad3317 u3313 cap3318), (17, iv (ln u3313)), (18, iv x3555)] hF (ocons (obConvC (by kernel_rfl) (by kernel_rfl) (fun _ => hx3598)) (ocons (obRemC (fun _ => hx3599)) (ocons (obAddC (fun _ => hx3600)) onil))) fun a hF => ?_
          refine wfn rfl ?_
          refine WI.region ?_
          replace h := bindS h
          obtain ⟨x3601, hx3601, h⟩ := h
          replace h := bindS h
          obtain ⟨x3602, hx3602, h⟩ := h
          replace h := bindS h
          obtain ⟨u3603, hu3603, h⟩ := h
          refine rno 8 [.run [] (binOp .sub 3 (iv (ln l3558)) (iv 1)) (iv x3601), .run [] (binOp .sub 3 (iv x3600) (iv 20)) (iv x3602), .run [] (Instr.indexAt 43 (sv ad3556 l3558 cap3557) (iv x3601)) (.pointer (some (slAddr ad3556 x3601 2)))] 8 [(3, sv ad3005 l3007 cap3006), (6, sv ad3556 l3558 cap3557), (7, iv x3600), (10, sv ad1 p0 cap2), (11, iv (ln p0)), (12, iv x3004), (16, sv ad3317 u3313 cap3318), (17, iv (ln u3313)), (18, iv x3555), (55, iv x3602), (57, .pointer (some ((slAddr ad3556 x3601 2).add 1)))] hF (ocons (obSubC (fun _ => hx3601)) (ocons (obSubC (fun _ => hx3602)) (ocons (obIdxQ (hS.arr (i := 0) rfl) (by kernel_rfl) (fun _ => hu3603)) onil))) fun a hF => ?_
          replace h := bindS h
          obtain ⟨l3604, hl3604, h⟩ := h
          refine SK.wi (setK (j := x3601) (t := 3) [(3, sv ad3005 l3007 cap3006), (6, sv ad3556 l3558 cap3557), (7, iv x3600), (10, sv ad1 p0 cap2), (11, iv (ln p0)), (12, iv x3004), (16, sv ad3317 u3313 cap3318), (17, iv (ln u3313)), (18, iv x3555)] 0 1 u3603 (api_Span.mk u3603.Lo x3602) (iv x3602) hF hS rfl (by kernel_rfl) ⟨by kernel_rfl⟩ api_Span.cells_len hu3603 rfl (by kernel_rfl) (by kernel_rfl) (by kernel_rfl) hl3604 ⟨by kernel_rfl⟩ fun w a hF hl hS => ?_)
          simp only [sv, ln, hl] at hF hS
          refine WI.fin rfl (norm_block <| norm_then <| ?_)
          exact ⟨l3604, x3600, ad3556, cap3557, hF.sub (by kernel_rfl), St.pick [0, 1, 2] (by decide) hS, h⟩
         ·replace h := bif_f h hc
          refine wpIn_skip (norm_block <| norm_then <| ?_)
          exact ⟨l3558, x3559, ad3556, cap3557, hF.sub (by kernel_rfl), St.pick [0, 1, 2] (by decide) hS, h⟩
      rintro a w ⟨l3582, x3583, ad3580, cap3581, hF, hS, h⟩
      rw [law03_made_K6] at h
      refine WI.region ?_
      replace h := bindS h
      obtain ⟨x3584, hx3584, h⟩ := h
      refine rno 2 [.run [] (binOp .add 3 (iv x3555) (iv 1)) (iv x3584)] 2 [(3, sv ad3005 l3007 cap3006), (6, sv ad3580 l3582 cap3581), (7, iv x3583), (10, sv ad1 p0 cap2), (11, iv (ln p0)), (12, iv x3004), (16, sv ad3317 u3313 cap3318), (17, iv (ln u3313)), (18, iv x3584)] hF (ocons (obAddC (fun _ => hx3584)) onil) fun a hF => ?_
      refine wfn rfl ?_
      rw [hk5] at h
      exact ⟨nk5, Nat.lt_succ_self _, x3584, l3582, x3583, ad3580, cap3581, hF.sub (by kernel_rfl), St.pick [0, 1, 2] (by decide) hS, h⟩
     ·replace h := bif_f h hc
      refine wpIn_exit (exit_then <| exit_then <| exit_hit <| norm_then ?_)
      exact ⟨l3558, ad3556, cap3557, hF.sub (by kernel_rfl), St.pick [0, 1, 2] (by decide) hS, h⟩
    rintro a w ⟨l3457, ad3455, cap3456, hF, hS, h⟩
    rw [law03_made_K4] at h
    refine WI.region ?_
    refine rn 2 2 [(3, sv ad3005 l3007 cap3006), (10, sv ad1 p0 cap2), (11, iv (ln p0)), (12, iv x3004), (59, sv ad3005 l3007 cap3006), (60, sv ad3455 l3457 cap3456)] hF fun a hF => ?_
    obtain ⟨ν3459, hx3460, hlow, hS, hz3461⟩ := hS.freeze (i := 2) (j := 0) rfl rfl (by decide) hlow
    replace hA4 := hA4.mono Rp91.mono hx3460.1
    replace hq3009 := All2.mono Rp43.mono hx3460.1 hq3009
    replace hA3319 := hA3319.mono hx3460.1
    replace hj1808 := Frz.le_trans hj1808 hx3460.1
    replace hle3010 := Frz.le_trans hle3010 hx3460.1
    replace hj3312 := Frz.le_trans hj3312 hx3460.1
    replace hext := Frz.ext_trans hext hx3460
    replace hS : St w0 [arr 43 1 (fN 1) ad3005 l3007.length cap3006 css3008, fz w0 ν3459] w := hS
    have hA3462 := ArrM.of_arr hz3461
    have hq3463 : All2 (Rp43 ν3459) ([[sv ad3455 l3457 cap3456]] : List (List Value)) [l3457] := (All2.cons ⟨ad3455, cap3456, rfl, hA3462⟩ All2.nil)
    refine SK.wi (litQK (e := 43) (sz := 1) (f := fN 1) (t := 48) (len := 1) (fun b3458 => [(3, sv ad3005 l3007 cap3006), (10, sv ad1 p0 cap2), (11, iv (ln p0)), (12, iv x3004), (59, sv ad3005 l3007 cap3006), (61, sb b3458 1)]) #[(0, sv ad3455 l3457 cap3456)] #[sv ad3455 l3457 cap3456] ([[sv ad3455 l3457 cap3456]] : List (List Value)) ([l3457]) hF hS (by kernel_rfl) ⟨by kernel_rfl⟩ (by kernel_rfl) (fN_len 1) rfl rfl rfl (by kernel_rfl) (fun _ => ⟨by kernel_rfl⟩) fun b3458 w a hF hS => ?_)
    replace h := bindS h
    obtain ⟨l3464, hl3464, h⟩ := h
    have hq3468 : All2 (Rp43 ν3459) (css3008 ++ ([[sv ad3455 l3457 cap3456]] : List (List Value))) l3464 := by rw [(apd_some hl3464).1]; exact All2.app hq3009 hq3463
    refine SK.wi (appQK (t := 48) (ty := 48) (bytes := 24) (c := css3008) (c' := ([[sv ad3455 l3457 cap3456]] : List (List Value))) (l := l3007) (l' := ([l3457])) (fun ad3465 cap3466 => [(3, sv ad3005 l3007 cap3006), (10, sv ad1 p0 cap2), (11, iv (ln p0)), (12, iv x3004), (62, sv ad3465 l3464 cap3466)]) 1 hF hS rfl (by kernel_rfl) ⟨by kernel_rfl⟩ (by kernel_rfl) (hS.arr (i := 0) rfl) (ArrQ.one hq3463 Rp43.one) hl3464 (fun _ _ => ⟨by kernel_rfl⟩) fun ad3465 cap3466 w a hF hS => ?_)
    refine rn 1 5 [(3, sv ad3465 l3464 cap3466), (10, sv ad1 p0 cap2), (11, iv (ln p0)), (12, iv x3004)] hF fun a hF => ?_
    refine WI.fin rfl (norm_block <| norm_then <| ?_)
    exact ⟨l3464, ν3459, ad3465, cap3466, (css3008 ++ ([[sv ad3455 l3457 cap3456]] : List (List Value))), hF.sub (by kernel_rfl), St.pick [1, 2] (by decide) hS, hq3468, hj3312, hext, hlow, h⟩
   clear hj3312
   rintro a w ⟨l3307, ν3304, ad3305, cap3306, css3308, hF, hS, hq3309, hle3310, hext, hlow, h⟩
   replace hA4 := hA4.mono Rp91.mono hle3310
   replace hq3009 := All2.mono Rp43.mono hle3310 hq3009
   replace hj1808 := Frz.le_trans hj1808 hle3310
   replace hle3010 := Frz.le_trans hle3010 hle3310
   rw [law03_made_K3] at h
   refine WI.region ?_
   replace h := bindS h
   obtain ⟨x3311, hx3311, h⟩ := h
   refine rno 2 [.run [] (binOp .add 3 (iv x3004) (iv 1)) (iv x3311)] 2 [(3, sv ad3305 l3307 cap3306), (10, sv ad1 p0 cap2), (11, iv (ln p0)), (12, iv x3311)] hF (ocons (obAddC (fun _ => hx3311)) onil) fun a hF => ?_
   refine wfn rfl ?_
   rw [hk2] at h
   exact ⟨nk2, Nat.lt_succ_self _, x3311, l3307, ν3304, ad3305, cap3306, css3308, hF.sub (by kernel_rfl), St.pick [0, 1] (by decide) hS, hq3309, hle3010, hext, hlow, h⟩
  ·replace h := bif_f h hc
   refine wpIn_exit (exit_then <| exit_then <| exit_hit <| norm_then ?_)
   exact ⟨l3007, ν3003, ad3005, cap3006, css3008, hF.sub (by kernel_rfl), St.pick [0, 1] (by decide) hS, hq3009, hj1808, hext, hlow, h⟩
 clear hj1808
 rintro a w ⟨l1804, ν1801, ad1802, cap1803, css1805, hF, hS, hq1806, hle1807, hext, hlow, h⟩
 replace hA4 := hA4.mono Rp91.mono hle1807
 rw [law03_made_K1] at h
 refine esr ?_
 refine rn 2 2 [(2, sv ad1802 l1804 cap1803)] hF fun a hF => ?_
 refine wfn rfl ?_
 refine wpIn_ret (fn_ret [.tmp 2] [sv ad1802 l1804 cap1803] hF rfl ⟨rfl, trivial⟩ ?_)
 have hr_ := Option.some.inj h
 subst hr_
 exact ⟨ν1801, _, _, _, hext, rfl, hq1806, St.pick [1, 0] (by decide) hS⟩
end Go.Proofs.Ytbhjgebjojdohaa
