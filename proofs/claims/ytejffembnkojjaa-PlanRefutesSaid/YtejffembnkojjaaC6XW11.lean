/- Walks, written by program (wip/gen/dec.py). -/
import Derived.Test.YtejffembnkojjaaC6XD
import Derived.Test.YtejffembnkojjaaProg
import Derived.Test.YtejffembnkojjaaC6XW0
import Derived.Test.YtejffembnkojjaaC6XW3
import Derived.Test.YtejffembnkojjaaC6XW4
import Derived.Test.YtejffembnkojjaaC6XW7
import Derived.Test.YtejffembnkojjaaC6XW10
namespace Go.Proofs.Ytejffembnkojjaa
open Go Go.RowKit Go.Eng
set_option maxRecDepth 10000
set_option maxHeartbeats 4000000
set_option linter.unusedVariables false
set_option linter.unusedSimpArgs false
theorem pplan_desk_begun_ok (p0 : (Option plan_desk)) (p1 : Int) (res : Unit) (h : pplan_desk_begun p0 p1 = res) (μ : Frz) (w0 : World) (hm : FrzAt μ w0) {pv1 : Option Addr} (hA2 : PtM μ 113 Rp113 pv1 p0) : Calls Try.prog 57 #[.pointer pv1, iv p1] w0 (fun e w => ∃ zb0 zb1, e = .returned (.func (.func 83) #[] #[pb zb0, pb zb1]) ∧ St w0 [blk zb0 100 #[.pointer pv1], blk zb1 3 #[iv p1]] w) := by
 obtain ⟨hlow, hS⟩ := hm.init
 have hext := Frz.ext_refl w0.heap.size μ
 rw [pplan_desk_begun] at h
 refine fn_enterW Try.func57 rfl 6 [(0, .pointer pv1), (1, iv p1)] rfl rfl (by kernel_rfl) fun a w hw hF => ?_
 replace hS : St w0 [fz w0 μ] w := by rw [hw]; exact hS
 clear hw
 refine esr ?_
 refine SK.wi (boxK (t := 100) (fun b3 => [(1, iv p1), (2, pb b3)]) (.pointer pv1) #[.pointer pv1] hF hS (by kernel_rfl) ⟨by kernel_rfl⟩ (by kernel_rfl) (fun _ => ⟨by kernel_rfl⟩) fun b3 w a hF hS => ?_)
 refine SK.wi (boxK (t := 3) (fun b4 => [(2, pb b3), (3, pb b4)]) (iv p1) #[iv p1] hF hS (by kernel_rfl) ⟨by kernel_rfl⟩ (by kernel_rfl) (fun _ => ⟨by kernel_rfl⟩) fun b4 w a hF hS => ?_)
 refine rn 1 3 [(2, pb b3), (3, pb b4)] hF fun a hF => ?_
 refine wfn rfl ?_
 refine esr ?_
 refine rn 2 2 [(4, .func (.func 83) #[] #[pb b3, pb b4])] hF fun a hF => ?_
 refine wfn rfl ?_
 refine wpIn_ret (fn_ret [.tmp 4] [.func (.func 83) #[] #[pb b3, pb b4]] hF rfl ⟨rfl, trivial⟩ ?_)
 subst h
 exact ⟨b3, b4, rfl, St.pick [1, 0] (by decide) hS⟩

theorem plan_Best_ok (F : Nat) (p0 : plan_Radar) (p1 : (List plan_Job)) (p2 : Int) (res : ((List Int) × Int)) (h : plan_Best F p0 p1 p2 = some res) (μ : Frz) (w0 : World) (hm : FrzAt μ w0) {ad1 : Option Addr} {cap2 : Nat} (hA3 : ArrM μ 8 plan_Job.cells ad1 cap2 p1) : Calls Try.prog 27 #[p0.ag, sv ad1 p1 cap2, iv p2] w0 (fun e w => ∃ (ν_ : Frz) (ad435 : Option Addr) (cap436 : Nat), μ.ext w0.heap.size ν_ ∧ e = .returned (.tuple #[sv ad435 res.1 cap436, iv res.2]) ∧ ArrM ν_ 1 fI ad435 cap436 res.1 ∧ St w0 [fz w0 ν_] w) := by
 obtain ⟨hlow, hS⟩ := hm.init
 have hext := Frz.ext_refl w0.heap.size μ
 rw [plan_Best] at h
 refine fn_enterMW Try.func27 rfl 37 [(0, p0.ag), (1, sv ad1 p1 cap2), (2, iv p2)] rfl rfl (by kernel_rfl) fun a w hw hF => ?_
 replace hS : St w0 [fz w0 μ] w := by rw [hw]; exact hS
 clear hw
 replace hS := hS.noMarks
 refine esr ?_
 refine SK.wi (boxK (t := 31) (fun b4 => [(1, sv ad1 p1 cap2), (2, iv p2), (3, pb b4)]) (p0.ag) p0.ar hF hS (by kernel_rfl) ⟨by kernel_rfl⟩ (by kernel_rfl) (fun _ => ⟨by kernel_rfl⟩) fun b4 w a hF hS => ?_)
 refine SK.wi (allocK (t := 40) (fun b5 => [(1, sv ad1 p1 cap2), (2, iv p2), (3, pb b4), (6, pb b5)]) #[.slice none 0 0] hF hS (by kernel_rfl) ⟨by kernel_rfl⟩ (by kernel_rfl) (fun _ => ⟨by kernel_rfl⟩) fun b5 w a hF hS => ?_)
 refine SK.wi (allocK (t := 28) (fun b6 => [(1, sv ad1 p1 cap2), (2, iv p2), (3, pb b4), (6, pb b5), (7, pb b6)]) #[iv 0] hF hS (by kernel_rfl) ⟨by kernel_rfl⟩ (by kernel_rfl) (fun _ => ⟨by kernel_rfl⟩) fun b6 w a hF hS => ?_)
 refine wfn rfl ?_
 refine eseq ?_
 refine esr ?_
 replace h := bindS h
 obtain ⟨y7, hy7, h⟩ := h
 refine rx 4 [.run [] (Instr.loadAt 31 (pb b4)) (p0.ag), .call [] 22 #[p0.ag, sv ad1 p1 cap2] (iv y7)] 4 [(1, sv ad1 p1 cap2), (2, iv p2), (3, pb b4), (6, pb b5), (7, pb b6), (8, iv y7)] hF (ocons (obN (us := p0.cells) (by kernel_rfl) (fun _ hd => ((hS.later hd).blk (i := 2) rfl).cells rfl)) (ocons (show Ob.ok _ Ext _ _ from fun hk w2 hd => plan_Check_ok F p0 p1 _ ((fun _ => hy7) hk) _ w2 (memOf_at w2) (hA3.mono (FrzAt.le_mem ((hS.later hd).frz (i := 4) rfl hlow)))) onil)) fun a w hF hx => ?_
 replace hS := hS.later hx
 refine wfn rfl ?_
 refine esr ?_
 refine rn 2 2 [(1, sv ad1 p1 cap2), (2, iv p2), (3, pb b4), (6, pb b5), (7, pb b6), (8, iv y7), (16, .bool (y7 != 0))] hF fun a hF => ?_
 refine wfn rfl ?_
 refine econd hF rfl (fun hc => ?_) (fun hc => ?_)
 ·replace h := bif_t h hc
  refine esr ?_
  refine rn 1 1 [(6, pb b5), (7, pb b6), (17, iv y7)] hF fun a hF => ?_
  refine SK.wi (storeK (t := 40) [(6, pb b5), (7, pb b6), (17, iv y7)] 1 0 (.slice none 0 0) #[.slice none 0 0] hF hS rfl (by kernel_rfl) ⟨by kernel_rfl⟩ (by kernel_rfl) (by kernel_rfl) (by kernel_rfl) (by kernel_rfl) ⟨by kernel_rfl⟩ fun w a hF hS => ?_)
  refine SK.wi (storeK (t := 28) [(6, pb b5), (7, pb b6)] 0 0 (iv y7) #[iv y7] hF hS rfl (by kernel_rfl) ⟨by kernel_rfl⟩ (by kernel_rfl) (by kernel_rfl) (by kernel_rfl) (by kernel_rfl) ⟨by kernel_rfl⟩ fun w a hF hS => ?_)
  refine wfn rfl ?_
  refine wpIn_ret (ret_then <| fn_retM (H := [blk b6 28 #[iv y7], blk b5 40 #[.slice none 0 0], blk b4 31 p0.ar, fz w0 μ]) [.cell 6 40, .cell 7 28] [.slice none 0 0, iv y7] hF (St.pick [3, 0, 1, 2, 4] (by decide) hS) rfl fun w hS => ⟨⟨⟨_, rfl, loadVar1 (by kernel_rfl) (hS.cell (i := 1) (j := 0) rfl rfl)⟩, ⟨_, rfl, loadVar1 (by kernel_rfl) (hS.cell (i := 0) (j := 0) rfl rfl)⟩, trivial⟩, ?_⟩)
  have hr_ := Option.some.inj h
  subst hr_
  exact ⟨μ, none, 0, hext, rfl, ArrM.nil, St.pick [3] (by decide) hS⟩
 ·replace h := bif_f h hc
  refine wpIn_skip (norm_then ?_)
  refine eseq ?_
  refine esr ?_
  refine rx 3 [.call [] 50 #[iv p2, iv 1, iv 8] (.bool (plan_in p2 1 8))] 3 [(1, sv ad1 p1 cap2), (2, iv p2), (3, pb b4), (6, pb b5), (7, pb b6), (20, .bool (!(plan_in p2 1 8)))] hF (ocons (show Ob.ok _ Ext _ _ from fun hk w2 hd => plan_in_ok p2 1 8 _ rfl _ w2 (memOf_at w2) ) onil) fun a w hF hx => ?_
  replace hS := hS.later hx
  refine wfn rfl ?_
  refine econd hF rfl (fun hc => ?_) (fun hc => ?_)
  ·replace h := bif_t h hc
   refine esr ?_
   refine SK.wi (storeK (t := 40) [(6, pb b5), (7, pb b6)] 1 0 (.slice none 0 0) #[.slice none 0 0] hF hS rfl (by kernel_rfl) ⟨by kernel_rfl⟩ (by kernel_rfl) (by kernel_rfl) (by kernel_rfl) (by kernel_rfl) ⟨by kernel_rfl⟩ fun w a hF hS => ?_)
   refine SK.wi (storeK (t := 28) [(6, pb b5), (7, pb b6)] 0 0 (iv 3) #[iv 3] hF hS rfl (by kernel_rfl) ⟨by kernel_rfl⟩ (by kernel_rfl) (by kernel_rfl) (by kernel_rfl) (by kernel_rfl) ⟨by kernel_rfl⟩ fun w a hF hS => ?_)
   refine wfn rfl ?_
   refine wpIn_ret (ret_then <| fn_retM (H := [blk b6 28 #[iv 3], blk b5 40 #[.slice none 0 0], blk b4 31 p0.ar, fz w0 μ]) [.cell 6 40, .cell 7 28] [.slice none 0 0, iv 3] hF (St.pick [3, 0, 1, 2, 4] (by decide) hS) rfl fun w hS => ⟨⟨⟨_, rfl, loadVar1 (by kernel_rfl) (hS.cell (i := 1) (j := 0) rfl rfl)⟩, ⟨_, rfl, loadVar1 (by kernel_rfl) (hS.cell (i := 0) (j := 0) rfl rfl)⟩, trivial⟩, ?_⟩)
   have hr_ := Option.some.inj h
   subst hr_
   exact ⟨μ, none, 0, hext, rfl, ArrM.nil, St.pick [3] (by decide) hS⟩
  ·replace h := bif_f h hc
   refine wpIn_skip (norm_then ?_)
   refine esr ?_
   refine rno 2 [.run [] (Instr.loadAt 31 (pb b4)) (p0.ag)] 2 [(2, iv p2), (6, pb b5), (7, pb b6), (21, p0.ag), (22, sv ad1 p1 cap2)] hF (ocons (obN (us := p0.cells) (by kernel_rfl) (fun _ hd => ((hS.at_ hd).blk (i := 2) rfl).cells rfl)) onil) fun a hF => ?_
   replace h := bindS h
   obtain ⟨y9, hy9, h⟩ := h
   refine SK.wi (callK (f := 56) (args := #[p0.ag, sv ad1 p1 cap2]) (R := fun v w2 => ∃ ν10 pv11, μ.ext w.heap.size ν10 ∧ v = .pointer pv11 ∧ PtM ν10 113 Rp113 pv11 y9 ∧ St w [frzR w.heap.size ν10] w2) (fun v8 => [(2, iv p2), (6, pb b5), (7, pb b6), (23, v8)]) hF (by kernel_rfl) ⟨by kernel_rfl⟩ (Calls.mono (plan_newDesk_ok F p0 p1 _ hy9 μ w (hS.frz (i := 4) rfl hlow) hA3) (by rintro e w2 ⟨ν10, pv11, hx13, rfl, hA12, h⟩; exact ⟨_, rfl, ν10, pv11, hx13, rfl, hA12, h⟩)) (fun _ => ⟨by kernel_rfl⟩) ?_)
   rintro v8 w a ⟨ν10, pv11, hx13, rfl, hA12, hQ⟩ hF
   replace hext := Frz.ext_trans hext (Frz.ext_mono hx13 hS.ext.size)
   obtain ⟨hlow, hS⟩ := hS.frzMerge (i := 4) rfl hlow hx13 hQ
   replace hA3 := hA3.mono hx13.1
   replace hS : St w0 [blk b6 28 #[iv 0], blk b5 40 #[.slice none 0 0], blk b4 31 p0.ar, markR ([]), fz w0 ν10] w := hS
   refine rn 1 4 [(2, iv p2), (6, pb b5), (7, pb b6), (9, .pointer pv11)] hF fun a hF => ?_
   refine wfn rfl ?_
   have hj228 := Frz.le_refl ν10
   refine ecut (fun a w => ∃ (l223 : (List Int)) (x225 : Int) (ν220 : Frz) (ad221 : Option Addr) (cap222 : Nat) (Ds226 : List Nat), Fr 37 (marks Ds226) [(6, pb b5), (7, pb b6)] a ∧ St w0 [blk b6 28 #[iv x225], blk b5 40 #[sv ad221 l223 cap222], blk b4 31 p0.ar, markR Ds226, fz w0 ν220] w ∧ (ArrM ν220 1 fI ad221 cap222 l223) ∧ (ν10.le ν220) ∧ (μ.ext w0.heap.size ν220) ∧ (FrzIn w0 ν220) ∧ plan_Best_K1 l223 x225 = some res) ?_ ?_
   ·skip
    refine esr ?_
    refine rn 1 1 [(2, iv p2), (6, pb b5), (7, pb b6), (9, .pointer pv11), (10, iv 1)] hF fun a hF => ?_
    refine wfn rfl ?_
    refine wpIn_block ?_
    have hj372 := Frz.le_refl ν10
    refine eloop (fun n_ a w => ∃ (l366 : (List Int)) (x368 : Int) (x369 : Int) (ν363 : Frz) (ad364 : Option Addr) (cap365 : Nat) (Ds370 : List Nat), Fr 37 (marks Ds370) [(2, iv p2), (6, pb b5), (7, pb b6), (9, .pointer pv11), (10, iv x369)] a ∧ St w0 [blk b6 28 #[iv x368], blk b5 40 #[sv ad364 l366 cap365], blk b4 31 p0.ar, markR Ds370, fz w0 ν363] w ∧ (ArrM ν363 1 fI ad364 cap365 l366) ∧ (ν10.le ν363) ∧ (μ.ext w0.heap.size ν363) ∧ (FrzIn w0 ν363) ∧ plan_Best_L2 F p2 y9 n_ l366 x368 x369 = some res) F ⟨[], 0, 1, ν10, none, 0, ([]), hF.sub (by kernel_rfl), St.pick [0, 1, 2, 3, 4] (by decide) hS, ArrM.nil, hj372, hext, hlow, h⟩ ?_
    clear hj372
    rintro n_ a w ⟨l366, x368, x369, ν363, ad364, cap365, Ds370, hF, hS, hA367, hle371, hext, hlow, h⟩
    rcases n_ with _ | n_
    ·cases (show (none : Option ((List Int) × Int)) = some res from h)
    replace hA3 := hA3.mono hle371
    replace hA12 := hA12.mono Rp113.mono hle371
    replace hj228 := Frz.le_trans hj228 hle371
    obtain ⟨k2, hk2⟩ : ∃ k, k = plan_Best_L2 F p2 y9 n_ := ⟨_, rfl⟩
    replace h : plan_Best_B2 F p2 y9 k2 l366 x368 x369 = some res := by rw [hk2]; exact h
    rw [plan_Best_B2] at h
    refine eseq ?_
    refine esr ?_
    refine rn 3 3 [(2, iv p2), (6, pb b5), (7, pb b6), (9, .pointer pv11), (10, iv x369), (26, .bool (decide (x369 ≤ p2)))] hF fun a hF => ?_
    refine wfn rfl ?_
    refine econd hF rfl (fun hc => ?_) (fun hc => ?_)
    ·replace h := bif_t h hc
     refine wpIn_skip (norm_then ?_)
     refine eseq ?_
     refine wpIn_block ?_
     refine esr ?_
     refine rn 2 2 [(2, iv p2), (6, pb b5), (7, pb b6), (9, .pointer pv11), (10, iv x369), (29, .pointer pv11), (30, iv x369)] hF fun a hF => ?_
     refine SK.wi (callK (f := 57) (args := #[.pointer pv11, iv x369]) (R := fun v w2 => ∃ b374 b375, v = .func (.func 83) #[] #[pb b374, pb b375] ∧ St w [blk b374 100 #[.pointer pv11], blk b375 3 #[iv x369]] w2) (fun v373 => [(2, iv p2), (6, pb b5), (7, pb b6), (9, .pointer pv11), (10, iv x369), (31, v373)]) hF (by kernel_rfl) ⟨by kernel_rfl⟩ (Calls.mono (pplan_desk_begun_ok y9 x369 _ rfl (memOf w) w (memOf_at w) (hA12.mono Rp113.mono (FrzAt.le_mem (hS.frz (i := 4) rfl hlow)))) (by rintro e w2 ⟨b374, b375, rfl, h⟩; exact ⟨_, rfl, b374, b375, rfl, h⟩)) (fun _ => ⟨by kernel_rfl⟩) ?_)
     rintro v373 w a ⟨b374, b375, rfl, hQ⟩ hF
     replace hS : St w0 [blk b374 100 #[.pointer pv11], blk b375 3 #[iv x369], blk b6 28 #[iv x368], blk b5 40 #[sv ad364 l366 cap365], blk b4 31 p0.ar, markR Ds370, fz w0 ν363] w := hS.madeL hQ
     refine wfn rfl ?_
     refine wpIn_block ?_
     obtain ⟨ν376, hx377, hlow, hS, hz378⟩ := hS.freeze (i := 6) (j := 0) rfl rfl (by decide) hlow
     replace hA3 := hA3.mono hx377.1
     replace hA12 := hA12.mono Rp113.mono hx377.1
     replace hA367 := hA367.mono hx377.1
     replace hj228 := Frz.le_trans hj228 hx377.1
     replace hle371 := Frz.le_trans hle371 hx377.1
     replace hext := Frz.ext_trans hext hx377
     replace hS : St w0 [blk b375 3 #[iv x369], blk b6 28 #[iv x368], blk b5 40 #[sv ad364 l366 cap365], blk b4 31 p0.ar, markR Ds370, fz w0 ν376] w := hS
     have hB379 : BlkM ν376 b374 100 #[.pointer pv11] := hz378
     obtain ⟨ν380, hx381, hlow, hS, hz382⟩ := hS.freeze (i := 5) (j := 0) rfl rfl (by decide) hlow
     replace hA3 := hA3.mono hx381.1
     replace hA12 := hA12.mono Rp113.mono hx381.1
     replace hA367 := hA367.mono hx381.1
     replace hB379 := hB379.mono hx381.1
     replace hj228 := Frz.le_trans hj228 hx381.1
     replace hle371 := Frz.le_trans hle371 hx381.1
     replace hext := Frz.ext_trans hext hx381
     replace hS : St w0 [blk b6 28 #[iv x368], blk b5 40 #[sv ad364 l366 cap365], blk b4 31 p0.ar, markR Ds370, fz w0 ν380] w := hS
     have hB383 : BlkM ν380 b375 3 #[iv x369] := hz382
     replace h := bindS h
     obtain ⟨r430, hr430, h⟩ := h
     refine rangeG (gf := 83) (lb := #[pb b374, pb b375]) (fun l => #[.func (.yield l) #[] #[], pb b374, pb b375]) (fun H1 => ∃ (ν_n : Frz) (g_n : (Option Addr × Nat × Unit)), H1 = [blk b6 28 #[iv r430.1.2.1], blk b5 40 #[.slice g_n.1 r430.1.1.length g_n.2.1], blk b4 31 p0.ar, markR Ds370, fz w0 ν_n] ∧ ν380.ext w0.heap.size ν_n ∧ FrzIn w0 ν_n ∧ r430.2 = true ∧ (ArrM ν_n 1 fI g_n.1 g_n.2.1 r430.1.1)) (fun c H1 => ∃ (ν_n : Frz) (g_n : (Option Addr × Nat × Unit)), H1 = [blk b6 28 #[iv r430.1.2.1], blk b5 40 #[.slice g_n.1 r430.1.1.length g_n.2.1], blk b4 31 p0.ar, markR Ds370, fz w0 ν_n] ∧ ν380.ext w0.heap.size ν_n ∧ FrzIn w0 ν_n ∧ r430.2 = false ∧ c = plan_Best_c3 (r430.1.2.2) ∧ (ArrM ν_n 1 fI g_n.1 g_n.2.1 r430.1.1)) (M := [(2, iv p2), (6, pb b5), (7, pb b6), (9, .pointer pv11), (10, iv x369), (31, .func (.func 83) #[] #[pb b374, pb b375])]) (hF.sub (by kernel_rfl)) rfl hS (fun _ => rfl) (fun _ => by kernel_rfl) ?_ ?_ ?_
     ·replace hF : Fr 37 (marks Ds370) [(2, iv p2), (6, pb b5), (7, pb b6), (9, .pointer pv11), (10, iv x369), (31, .func (.func 83) #[] #[pb b374, pb b375])] a := hF.sub (by kernel_rfl)
      intro fn_ l3_ D3_ rec3 w hrec3 hS
      replace hS : St w0 [objR l3_ (rec3 .ready none), objR D3_ (.deferred (some [])), blk b6 28 #[iv x368], blk b5 40 #[sv ad364 l366 cap365], blk b4 31 p0.ar, markR Ds370, fz w0 ν380] w := hS
      refine Calls.mono (pplan_desk_begun_1_ok F y9 x369 (plan_Best_Y3 F) (l366, x368, 0) _ hr430 l3_ ν380 w0 w (fun (s_r : ((List Int) × Int × Nat)) (b_r : Bool) (g_r : (Option Addr × Nat × Unit)) => [objR l3_ (rec3 (bif b_r then .ready else .done) (bif b_r then none else some (plan_Best_c3 (s_r.2.2)))), objR D3_ (.deferred (some [])), blk b6 28 #[iv s_r.2.1], blk b5 40 #[.slice g_r.1 s_r.1.length g_r.2.1], blk b4 31 p0.ar, markR Ds370]) (fun (s_r : ((List Int) × Int × Nat)) (b_r : Bool) (g_r : (Option Addr × Nat × Unit)) (ν_r : Frz) => (ArrM ν_r 1 fI g_r.1 g_r.2.1 s_r.1) ∧ True) (fun _ _ _ _ _ h hle => ⟨h.1.mono hle, trivial⟩) ?_ (ad364, cap365, ()) [] hlow ⟨hA367, trivial⟩ (St.pickT (A := [objR l3_ (rec3 .ready none), objR D3_ (.deferred (some [])), blk b6 28 #[iv x368], blk b5 40 #[sv ad364 l366 cap365], blk b4 31 p0.ar, markR Ds370, fz w0 ν380]) (T := []) [6, 0, 1, 2, 3, 4, 5] (by decide) (by simpa using hS)) hB379 hA12 hB383) ?_
      ·rintro s_r x_ q_r h ν_r g_r G_r w pv420 ad421 cap422 ad423 cap424 hxv hlow hP hA425 hA426 hA427 hS
       obtain ⟨hA417, -⟩ := hP
       replace hA3 := hA3.mono hxv.1
       replace hA12 := hA12.mono Rp113.mono hxv.1
       replace hA367 := hA367.mono hxv.1
       replace hB379 := hB379.mono hxv.1
       replace hB383 := hB383.mono hxv.1
       replace hj228 := Frz.le_trans hj228 hxv.1
       replace hle371 := Frz.le_trans hle371 hxv.1
       have hxr := Frz.ext_refl w0.heap.size ν_r
       replace hext := Frz.ext_trans hext hxv
       replace hS : St w0 (objR l3_ (rec3 .ready none) :: objR D3_ (.deferred (some [])) :: blk b6 28 #[iv s_r.2.1] :: blk b5 40 #[.slice g_r.1 s_r.1.length g_r.2.1] :: blk b4 31 p0.ar :: markR Ds370 :: fz w0 ν_r :: G_r) w := St.pickT (A := [fz w0 ν_r, objR l3_ (rec3 .ready none), objR D3_ (.deferred (some [])), blk b6 28 #[iv s_r.2.1], blk b5 40 #[.slice g_r.1 s_r.1.length g_r.2.1], blk b4 31 p0.ar, markR Ds370]) (T := G_r) [1, 2, 3, 4, 5, 6, 0] (by decide) hS
       rw [plan_Best_Y3] at h
       refine round_ (rec := rec3) hrec3 [(32, .agg #[.pointer pv420, sv ad421 x_.jobs cap422, sv ad423 x_.at_ cap424, iv x_.done])] [(6, pb b5), (7, pb b6), (32, .agg #[.pointer pv420, sv ad421 x_.jobs cap422, sv ad423 x_.at_ cap424, iv x_.done])] hF (by simp) rfl rfl (by kernel_rfl) hS ?_
       intro a hF
       refine WI.region ?_
       refine SK.wi (allocK (t := 102) (fun b428 => [(6, pb b5), (7, pb b6), (11, pb b428), (32, .agg #[.pointer pv420, sv ad421 x_.jobs cap422, sv ad423 x_.at_ cap424, iv x_.done])]) #[.pointer none, .slice none 0 0, .slice none 0 0, iv 0] hF hS (by kernel_rfl) ⟨by kernel_rfl⟩ (by kernel_rfl) (fun _ => ⟨by kernel_rfl⟩) fun b428 w a hF hS => ?_)
       refine SK.wi (storeK (t := 102) [(6, pb b5), (7, pb b6), (11, pb b428)] 0 0 (.agg #[.pointer pv420, sv ad421 x_.jobs cap422, sv ad423 x_.at_ cap424, iv x_.done]) #[.pointer pv420, sv ad421 x_.jobs cap422, sv ad423 x_.at_ cap424, iv x_.done] hF hS rfl (by kernel_rfl) ⟨by kernel_rfl⟩ (by kernel_rfl) (by kernel_rfl) (by kernel_rfl) (by kernel_rfl) ⟨by kernel_rfl⟩ fun w a hF hS => ?_)
       refine wfn rfl ?_
       refine ⟨_, St.pickT (A := [blk b428 102 #[.pointer pv420, sv ad421 x_.jobs cap422, sv ad423 x_.at_ cap424, iv x_.done], objR l3_ (rec3 .ready none), objR D3_ (.deferred (some [])), blk b6 28 #[iv s_r.2.1], blk b5 40 #[.slice g_r.1 s_r.1.length g_r.2.1], blk b4 31 p0.ar, markR Ds370, fz w0 ν_r]) (T := G_r) [1, 0, 2, 3, 4, 5, 6, 7] (by decide) hS, fun w hS => ?_⟩
       refine wpIn_block ?_
       refine esr ?_
       replace h := bindS h
       obtain ⟨y429, hy429, h⟩ := h
       refine rx 2 [.run [] (Instr.loadAt 102 (pb b428)) (.agg #[.pointer pv420, sv ad421 x_.jobs cap422, sv ad423 x_.at_ cap424, iv x_.done]), .call [] 58 #[.agg #[.pointer pv420, sv ad421 x_.jobs cap422, sv ad423 x_.at_ cap424, iv x_.done]] (.bool y429)] 2 [(6, pb b5), (7, pb b6), (11, pb b428), (34, .bool y429)] hF (ocons (obN (us := [.pointer pv420, sv ad421 x_.jobs cap422, sv ad423 x_.at_ cap424, iv x_.done]) (by kernel_rfl) (fun _ hd => ((hS.later hd).blk (i := 1) rfl).cells rfl)) (ocons (show Ob.ok _ Ext _ _ from fun hk w2 hd => plan_line_kept_ok F x_ _ ((fun _ => hy429) hk) _ w2 (memOf_at w2) (hA425.mono Rp113.mono (FrzAt.le_mem ((hS.later hd).frz (i := 7) rfl hlow))) (hA426.mono (FrzAt.le_mem ((hS.later hd).frz (i := 7) rfl hlow))) (hA427.mono (FrzAt.le_mem ((hS.later hd).frz (i := 7) rfl hlow)))) onil)) fun a w hF hx => ?_
       replace hS := hS.later hx
       refine wfn rfl ?_
       refine econd hF rfl (fun hc => ?_) (fun hc => ?_)
       ·replace h := bif_t h hc
        refine esr ?_
        refine rno 2 [.run [] (Instr.loadAt 40 (.pointer (some ⟨b428, 1, none⟩))) (sv ad421 x_.jobs cap422)] 2 [(6, pb b5), (7, pb b6), (36, sv ad421 x_.jobs cap422)] hF (ocons (ob1 (by kernel_rfl) (fun _ hd => (hS.at_ hd).cell (i := 1) (j := 1) rfl rfl)) onil) fun a hF => ?_
        refine SK.wi (storeK (t := 40) [(6, pb b5), (7, pb b6)] 4 0 (sv ad421 x_.jobs cap422) #[sv ad421 x_.jobs cap422] hF hS rfl (by kernel_rfl) ⟨by kernel_rfl⟩ (by kernel_rfl) (by kernel_rfl) (by kernel_rfl) (by kernel_rfl) ⟨by kernel_rfl⟩ fun w a hF hS => ?_)
        refine SK.wi (storeK (t := 28) [(6, pb b5), (7, pb b6)] 3 0 (iv 0) #[iv 0] hF hS rfl (by kernel_rfl) ⟨by kernel_rfl⟩ (by kernel_rfl) (by kernel_rfl) (by kernel_rfl) (by kernel_rfl) ⟨by kernel_rfl⟩ fun w a hF hS => ?_)
        refine wfn rfl ?_
        refine wpIn_ret (ret_block ?_)
        have hr_ := Option.some.inj h
        subst hr_
        refine ⟨_, St.pickT (A := [objR l3_ (rec3 .busy none), blk b428 102 #[.pointer pv420, sv ad421 x_.jobs cap422, sv ad423 x_.at_ cap424, iv x_.done], objR D3_ (.deferred (some [])), blk b6 28 #[iv 0], blk b5 40 #[sv ad421 x_.jobs cap422], blk b4 31 p0.ar, markR Ds370, fz w0 ν_r]) (T := G_r) [0, 1, 2, 3, 4, 5, 6, 7] (by decide) hS, fun w hS => ⟨rfl, ν_r, (ad421, cap422, ()), hxr, hlow, ⟨hA426, trivial⟩, St.pickT (A := [objR l3_ (rec3 .done (some (Code.ret))), blk b428 102 #[.pointer pv420, sv ad421 x_.jobs cap422, sv ad423 x_.at_ cap424, iv x_.done], objR D3_ (.deferred (some [])), blk b6 28 #[iv 0], blk b5 40 #[sv ad421 x_.jobs cap422], blk b4 31 p0.ar, markR Ds370, fz w0 ν_r]) (T := G_r) [7, 0, 2, 3, 4, 5, 6] (by decide) hS⟩⟩
       ·replace h := bif_f h hc
        refine wpIn_skip (norm_block ?_)
        have hr_ := Option.some.inj h
        subst hr_
        refine ⟨_, St.pickT (A := [objR l3_ (rec3 .busy none), blk b428 102 #[.pointer pv420, sv ad421 x_.jobs cap422, sv ad423 x_.at_ cap424, iv x_.done], objR D3_ (.deferred (some [])), blk b6 28 #[iv s_r.2.1], blk b5 40 #[.slice g_r.1 s_r.1.length g_r.2.1], blk b4 31 p0.ar, markR Ds370, fz w0 ν_r]) (T := G_r) [0, 1, 2, 3, 4, 5, 6, 7] (by decide) hS, fun w hS => ⟨rfl, ν_r, (g_r.1, g_r.2.1, ()), hxr, hlow, ⟨hA417, trivial⟩, St.pickT (A := [objR l3_ (rec3 .ready none), blk b428 102 #[.pointer pv420, sv ad421 x_.jobs cap422, sv ad423 x_.at_ cap424, iv x_.done], objR D3_ (.deferred (some [])), blk b6 28 #[iv s_r.2.1], blk b5 40 #[.slice g_r.1 s_r.1.length g_r.2.1], blk b4 31 p0.ar, markR Ds370, fz w0 ν_r]) (T := G_r) [7, 0, 2, 3, 4, 5, 6] (by decide) hS⟩⟩
      ·rintro e w2 ⟨ν_n, g_n, hxn, hlown, hPn, rfl, hSn⟩
       refine ⟨_, rfl, ?_⟩
       obtain ⟨nhA417, -⟩ := hPn
       rcases Bool.eq_false_or_eq_true r430.2 with hb_ | hb_
       ·rw [hb_] at hSn
        refine .inl ⟨_, ⟨ν_n, g_n, rfl, hxn, hlown, hb_, nhA417⟩, (by have := St.pickT (A := [fz w0 ν_n, objR l3_ (rec3 .ready none), objR D3_ (.deferred (some [])), blk b6 28 #[iv r430.1.2.1], blk b5 40 #[.slice g_n.1 r430.1.1.length g_n.2.1], blk b4 31 p0.ar, markR Ds370]) (T := []) [1, 2, 3, 4, 5, 6, 0] (by decide) hSn; simpa using this)⟩
       ·rw [hb_] at hSn
        refine .inr ⟨_, _, ⟨ν_n, g_n, rfl, hxn, hlown, hb_, rfl, nhA417⟩, (by have := St.pickT (A := [fz w0 ν_n, objR l3_ (rec3 .done (some (plan_Best_c3 (r430.1.2.2)))), objR D3_ (.deferred (some [])), blk b6 28 #[iv r430.1.2.1], blk b5 40 #[.slice g_n.1 r430.1.1.length g_n.2.1], blk b4 31 p0.ar, markR Ds370]) (T := []) [1, 2, 3, 4, 5, 6, 0] (by decide) hSn; simpa using this)⟩
     ·rintro D433 a w _ ⟨ν432, g431, rfl, hxn, hlow, hb_, hA417⟩ hF hS
      replace hA3 := hA3.mono hxn.1
      replace hA12 := hA12.mono Rp113.mono hxn.1
      replace hA367 := hA367.mono hxn.1
      replace hB379 := hB379.mono hxn.1
      replace hB383 := hB383.mono hxn.1
      replace hj228 := Frz.le_trans hj228 hxn.1
      replace hle371 := Frz.le_trans hle371 hxn.1
      replace hext := Frz.ext_trans hext hxn
      replace hS : St w0 [objR D433 (.deferred (some [])), blk b6 28 #[iv r430.1.2.1], blk b5 40 #[.slice g431.1 r430.1.1.length g431.2.1], blk b4 31 p0.ar, markR Ds370, fz w0 ν432] w := hS
      replace hS := St.mark (St.pick [0, 4, 1, 2, 3, 5] (by decide) hS)
      replace hS : St w0 [markR (D433 :: Ds370), blk b6 28 #[iv r430.1.2.1], blk b5 40 #[.slice g431.1 r430.1.1.length g431.2.1], blk b4 31 p0.ar, fz w0 ν432] w := hS
      replace hF : Fr 37 (marks (D433 :: Ds370)) [(2, iv p2), (6, pb b5), (7, pb b6), (9, .pointer pv11), (10, iv x369), (31, .func (.func 83) #[] #[pb b374, pb b375])] a := hF
      replace h := bif_t h hb_
      refine norm_block <| norm_block <| norm_then <| ?_
      replace hF : Fr 37 (marks (D433 :: Ds370)) [(2, iv p2), (6, pb b5), (7, pb b6), (9, .pointer pv11), (10, iv x369)] a := hF.sub (by kernel_rfl)
      refine WI.region ?_
      replace h := bindS h
      obtain ⟨x434, hx434, h⟩ := h
      refine rno 3 [.run [] (binOp .add 3 (iv x369) (iv 1)) (iv x434)] 3 [(2, iv p2), (6, pb b5), (7, pb b6), (9, .pointer pv11), (10, iv x434)] hF (ocons (obAddC (fun _ => hx434)) onil) fun a hF => ?_
      refine wfn rfl ?_
      rw [hk2] at h
      exact ⟨n_, Nat.lt_succ_self _, r430.1.1, r430.1.2.1, x434, ν432, g431.1, g431.2.1, (D433 :: Ds370), hF.sub (by kernel_rfl), St.pick [1, 2, 3, 0, 4] (by decide) hS, hA417, hle371, hext, hlow, h⟩
     rintro D433 _ a w _ ⟨ν432, g431, rfl, hxn, hlow, hb_, rfl, hA417⟩ hF hS
     replace hA3 := hA3.mono hxn.1
     replace hA12 := hA12.mono Rp113.mono hxn.1
     replace hA367 := hA367.mono hxn.1
     replace hB379 := hB379.mono hxn.1
     replace hB383 := hB383.mono hxn.1
     replace hj228 := Frz.le_trans hj228 hxn.1
     replace hle371 := Frz.le_trans hle371 hxn.1
     replace hext := Frz.ext_trans hext hxn
     replace hS : St w0 [objR D433 (.deferred (some [])), blk b6 28 #[iv r430.1.2.1], blk b5 40 #[.slice g431.1 r430.1.1.length g431.2.1], blk b4 31 p0.ar, markR Ds370, fz w0 ν432] w := hS
     replace hS := St.mark (St.pick [0, 4, 1, 2, 3, 5] (by decide) hS)
     replace hS : St w0 [markR (D433 :: Ds370), blk b6 28 #[iv r430.1.2.1], blk b5 40 #[.slice g431.1 r430.1.1.length g431.2.1], blk b4 31 p0.ar, fz w0 ν432] w := hS
     replace hF : Fr 37 (marks (D433 :: Ds370)) [(2, iv p2), (6, pb b5), (7, pb b6), (9, .pointer pv11), (10, iv x369), (31, .func (.func 83) #[] #[pb b374, pb b375])] a := hF
     replace h := bif_f h hb_
     show WP _ _ Code.ret _ a w
     refine wpIn_ret (ret_block <| ret_block <| ret_then <| ret_then <| ret_block <| ret_then <| fn_retM (H := [blk b6 28 #[iv r430.1.2.1], blk b5 40 #[.slice g431.1 r430.1.1.length g431.2.1], blk b4 31 p0.ar, fz w0 ν432]) [.cell 6 40, .cell 7 28] [.slice g431.1 r430.1.1.length g431.2.1, iv r430.1.2.1] hF (St.pick [0, 1, 2, 3, 4] (by decide) hS) rfl fun w hS => ⟨⟨⟨_, rfl, loadVar1 (by kernel_rfl) (hS.cell (i := 1) (j := 0) rfl rfl)⟩, ⟨_, rfl, loadVar1 (by kernel_rfl) (hS.cell (i := 0) (j := 0) rfl rfl)⟩, trivial⟩, ?_⟩)
     have hr_ := Option.some.inj h
     subst hr_
     exact ⟨ν432, g431.1, g431.2.1, hext, rfl, hA417, St.pick [3] (by decide) hS⟩
    ·replace h := bif_f h hc
     refine wpIn_exit (exit_then <| exit_then <| exit_hit <| norm_then ?_)
     exact ⟨l366, x368, ν363, ad364, cap365, Ds370, hF.sub (by kernel_rfl), St.pick [0, 1, 2, 3, 4] (by decide) hS, hA367, hj228, hext, hlow, h⟩
   clear hj228
   rintro a w ⟨l223, x225, ν220, ad221, cap222, Ds226, hF, hS, hA224, hle227, hext, hlow, h⟩
   replace hA3 := hA3.mono hle227
   replace hA12 := hA12.mono Rp113.mono hle227
   rw [plan_Best_K1] at h
   refine esr ?_
   refine SK.wi (storeK (t := 40) [(6, pb b5), (7, pb b6)] 1 0 (.slice none 0 0) #[.slice none 0 0] hF hS rfl (by kernel_rfl) ⟨by kernel_rfl⟩ (by kernel_rfl) (by kernel_rfl) (by kernel_rfl) (by kernel_rfl) ⟨by kernel_rfl⟩ fun w a hF hS => ?_)
   refine SK.wi (storeK (t := 28) [(6, pb b5), (7, pb b6)] 0 0 (iv 4) #[iv 4] hF hS rfl (by kernel_rfl) ⟨by kernel_rfl⟩ (by kernel_rfl) (by kernel_rfl) (by kernel_rfl) (by kernel_rfl) ⟨by kernel_rfl⟩ fun w a hF hS => ?_)
   refine wfn rfl ?_
   refine wpIn_ret (fn_retM (H := [blk b6 28 #[iv 4], blk b5 40 #[.slice none 0 0], blk b4 31 p0.ar, fz w0 ν220]) [.cell 6 40, .cell 7 28] [.slice none 0 0, iv 4] hF (St.pick [3, 0, 1, 2, 4] (by decide) hS) rfl fun w hS => ⟨⟨⟨_, rfl, loadVar1 (by kernel_rfl) (hS.cell (i := 1) (j := 0) rfl rfl)⟩, ⟨_, rfl, loadVar1 (by kernel_rfl) (hS.cell (i := 0) (j := 0) rfl rfl)⟩, trivial⟩, ?_⟩)
   have hr_ := Option.some.inj h
   subst hr_
   exact ⟨ν220, none, 0, hext, rfl, ArrM.nil, St.pick [3] (by decide) hS⟩

theorem pplan_desk_cuts_ok (p0 : (Option plan_desk)) (p1 : Int) (res : Unit) (h : pplan_desk_cuts p0 p1 = res) (μ : Frz) (w0 : World) (hm : FrzAt μ w0) {pv1 : Option Addr} (hA2 : PtM μ 113 Rp113 pv1 p0) : Calls Try.prog 61 #[.pointer pv1, iv p1] w0 (fun e w => ∃ zb0 zb1, e = .returned (.func (.func 87) #[] #[pb zb0, pb zb1]) ∧ St w0 [blk zb0 100 #[.pointer pv1], blk zb1 3 #[iv p1]] w) := by
 obtain ⟨hlow, hS⟩ := hm.init
 have hext := Frz.ext_refl w0.heap.size μ
 rw [pplan_desk_cuts] at h
 refine fn_enterW Try.func61 rfl 6 [(0, .pointer pv1), (1, iv p1)] rfl rfl (by kernel_rfl) fun a w hw hF => ?_
 replace hS : St w0 [fz w0 μ] w := by rw [hw]; exact hS
 clear hw
 refine esr ?_
 refine SK.wi (boxK (t := 100) (fun b3 => [(1, iv p1), (2, pb b3)]) (.pointer pv1) #[.pointer pv1] hF hS (by kernel_rfl) ⟨by kernel_rfl⟩ (by kernel_rfl) (fun _ => ⟨by kernel_rfl⟩) fun b3 w a hF hS => ?_)
 refine SK.wi (boxK (t := 3) (fun b4 => [(2, pb b3), (3, pb b4)]) (iv p1) #[iv p1] hF hS (by kernel_rfl) ⟨by kernel_rfl⟩ (by kernel_rfl) (fun _ => ⟨by kernel_rfl⟩) fun b4 w a hF hS => ?_)
 refine rn 1 3 [(2, pb b3), (3, pb b4)] hF fun a hF => ?_
 refine wfn rfl ?_
 refine esr ?_
 refine rn 2 2 [(4, .func (.func 87) #[] #[pb b3, pb b4])] hF fun a hF => ?_
 refine wfn rfl ?_
 refine wpIn_ret (fn_ret [.tmp 4] [.func (.func 87) #[] #[pb b3, pb b4]] hF rfl ⟨rfl, trivial⟩ ?_)
 subst h
 exact ⟨b3, b4, rfl, St.pick [1, 0] (by decide) hS⟩

theorem ref06_Refute_ok (F : Nat) (p0 : ref06_Radar) (p1 : (List ref06_Job)) (p2 : Int) (res : ((List ref06_Cut) × Int)) (h : ref06_Refute F p0 p1 p2 = some res) (μ : Frz) (w0 : World) (hm : FrzAt μ w0) {ad1 : Option Addr} {cap2 : Nat} (hA3 : ArrM μ 8 ref06_Job.cells ad1 cap2 p1) : Calls Try.prog 30 #[p0.ag, sv ad1 p1 cap2, iv p2] w0 (fun e w => ∃ (ν_ : Frz) (ad1500 : Option Addr) (cap1501 : Nat) (css1502 : List (List Value)), μ.ext w0.heap.size ν_ ∧ e = .returned (.tuple #[sv ad1500 res.1 cap1501, iv res.2]) ∧ ArrQ ν_ 2 Rp59 ad1500 cap1501 css1502 res.1 ∧ St w0 [fz w0 ν_] w) := by
 obtain ⟨hlow, hS⟩ := hm.init
 have hext := Frz.ext_refl w0.heap.size μ
 rw [ref06_Refute] at h
 refine fn_enterW Try.func30 rfl 86 [(0, p0.ag), (1, sv ad1 p1 cap2), (2, iv p2)] rfl rfl (by kernel_rfl) fun a w hw hF => ?_
 replace hS : St w0 [fz w0 μ] w := by rw [hw]; exact hS
 clear hw
 refine esr ?_
 refine SK.wi (boxK (t := 23) (fun b4 => [(1, sv ad1 p1 cap2), (2, iv p2), (3, pb b4)]) (p0.ag) p0.ar hF hS (by kernel_rfl) ⟨by kernel_rfl⟩ (by kernel_rfl) (fun _ => ⟨by kernel_rfl⟩) fun b4 w a hF hS => ?_)
 refine rn 2 3 [(1, sv ad1 p1 cap2), (2, iv p2), (3, pb b4)] hF fun a hF => ?_
 refine wfn rfl ?_
 refine esr ?_
 replace h := bindS h
 obtain ⟨y5, hy5, h⟩ := h
 refine rx 4 [.run [] (Instr.loadAt 23 (pb b4)) (p0.ag), .call [] 23 #[p0.ag, sv ad1 p1 cap2] (iv y5)] 4 [(1, sv ad1 p1 cap2), (2, iv p2), (3, pb b4), (8, iv y5)] hF (ocons (obN (us := p0.cells) (by kernel_rfl) (fun _ hd => ((hS.later hd).blk (i := 0) rfl).cells rfl)) (ocons (show Ob.ok _ Ext _ _ from fun hk w2 hd => ref06_Check_ok F p0 p1 _ ((fun _ => hy5) hk) _ w2 (memOf_at w2) (hA3.mono (FrzAt.le_mem ((hS.later hd).frz (i := 1) rfl hlow)))) onil)) fun a w hF hx => ?_
 replace hS := hS.later hx
 refine wfn rfl ?_
 refine eseq ?_
 refine esr ?_
 refine rn 2 2 [(1, sv ad1 p1 cap2), (2, iv p2), (3, pb b4), (8, iv y5), (18, .bool (y5 != 0))] hF fun a hF => ?_
 refine wfn rfl ?_
 refine econd hF rfl (fun hc => ?_) (fun hc => ?_)
 ·replace h := bif_t h hc
  refine esr ?_
  refine rn 3 3 [(6, .slice none 0 0), (7, iv y5)] hF fun a hF => ?_
  refine wfn rfl ?_
  refine wpIn_ret (ret_then <| fn_ret [.tmp 6, .tmp 7] [.slice none 0 0, iv y5] hF rfl ⟨rfl, rfl, trivial⟩ ?_)
  have hr_ := Option.some.inj h
  subst hr_
  exact ⟨μ, none, 0, [], hext, rfl, ArrQ.nil, St.pick [1] (by decide) hS⟩
 ·replace h := bif_f h hc
  refine wpIn_skip (norm_then ?_)
  refine eseq ?_
  refine esr ?_
  refine rx 3 [.call [] 48 #[iv p2, iv 1, iv 8] (.bool (ref01_In p2 1 8))] 3 [(1, sv ad1 p1 cap2), (2, iv p2), (3, pb b4), (22, .bool (!(ref01_In p2 1 8)))] hF (ocons (show Ob.ok _ Ext _ _ from fun hk w2 hd => ref01_In_ok p2 1 8 _ rfl _ w2 (memOf_at w2) ) onil) fun a w hF hx => ?_
  replace hS := hS.later hx
  refine wfn rfl ?_
  refine econd hF rfl (fun hc => ?_) (fun hc => ?_)
  ·replace h := bif_t h hc
   refine esr ?_
   refine rn 2 2 [(6, .slice none 0 0), (7, iv 3)] hF fun a hF => ?_
   refine wfn rfl ?_
   refine wpIn_ret (ret_then <| fn_ret [.tmp 6, .tmp 7] [.slice none 0 0, iv 3] hF rfl ⟨rfl, rfl, trivial⟩ ?_)
   have hr_ := Option.some.inj h
   subst hr_
   exact ⟨μ, none, 0, [], hext, rfl, ArrQ.nil, St.pick [1] (by decide) hS⟩
  ·replace h := bif_f h hc
   refine wpIn_skip (norm_then ?_)
   refine esr ?_
   refine rn 1 1 [(1, sv ad1 p1 cap2), (2, iv p2), (3, pb b4), (9, .slice none 0 0)] hF fun a hF => ?_
   refine wfn rfl ?_
   refine esr ?_
   refine rn 3 3 [(1, sv ad1 p1 cap2), (2, iv p2), (3, pb b4), (9, .slice none 0 0), (24, iv (ln p1)), (25, iv p2)] hF fun a hF => ?_
   replace h := bindS h
   obtain ⟨y7, hy7, h⟩ := h
   refine SK.wi (callK (f := 59) (args := #[iv (ln p1), iv p2]) (R := fun v w2 => ∃ ν8 ad9 cap10 css11, μ.ext w.heap.size ν8 ∧ v = sv ad9 y7 cap10 ∧ ArrQ ν8 1 Rp40 ad9 cap10 css11 y7 ∧ St w [frzR w.heap.size ν8] w2) (fun v6 => [(1, sv ad1 p1 cap2), (2, iv p2), (3, pb b4), (9, .slice none 0 0), (26, v6)]) hF (by kernel_rfl) ⟨by kernel_rfl⟩ (Calls.mono (ref06_sequences_ok F (ln p1) p2 _ hy7 μ w (hS.frz (i := 1) rfl hlow) ) (by rintro e w2 ⟨ν8, ad9, cap10, css11, hx13, rfl, hA12, h⟩; exact ⟨_, rfl, ν8, ad9, cap10, css11, hx13, rfl, hA12, h⟩)) (fun _ => ⟨by kernel_rfl⟩) ?_)
   rintro v6 w a ⟨ν8, ad9, cap10, css11, hx13, rfl, hA12, hQ⟩ hF
   replace hext := Frz.ext_trans hext (Frz.ext_mono hx13 hS.ext.size)
   obtain ⟨hlow, hS⟩ := hS.frzMerge (i := 1) rfl hlow hx13 hQ
   replace hA3 := hA3.mono hx13.1
   replace hS : St w0 [blk b4 23 p0.ar, fz w0 ν8] w := hS
   refine rn 1 5 [(1, sv ad1 p1 cap2), (2, iv p2), (3, pb b4), (9, .slice none 0 0), (10, sv ad9 y7 cap10)] hF fun a hF => ?_
   refine wfn rfl ?_
   refine ecut (fun a w => ∃ (l754 : (List ref06_Cut)) (ad752 : Option Addr) (cap753 : Nat) (css755 : List (List Value)), Fr 86 [] [(9, sv ad752 l754 cap753)] a ∧ St w0 [arr 59 2 (fN 2) ad752 l754.length cap753 css755, blk b4 23 p0.ar, fz w0 ν8] w ∧ (All2 (Rp59 ν8) css755 l754) ∧ ref06_Refute_K1 l754 = some res) ?_ ?_
   ·skip
    refine esr ?_
    refine rn 1 1 [(1, sv ad1 p1 cap2), (2, iv p2), (3, pb b4), (9, .slice none 0 0), (10, sv ad9 y7 cap10), (11, iv 0)] hF fun a hF => ?_
    refine wfn rfl ?_
    refine wpIn_block ?_
    replace hS := hS.nilarr 59 2 (fN 2)
    refine eloop (fun n_ a w => ∃ (x1230 : Int) (l1233 : (List ref06_Cut)) (ad1231 : Option Addr) (cap1232 : Nat) (css1234 : List (List Value)), Fr 86 [] [(1, sv ad1 p1 cap2), (2, iv p2), (3, pb b4), (9, sv ad1231 l1233 cap1232), (10, sv ad9 y7 cap10), (11, iv x1230)] a ∧ St w0 [arr 59 2 (fN 2) ad1231 l1233.length cap1232 css1234, blk b4 23 p0.ar, fz w0 ν8] w ∧ (All2 (Rp59 ν8) css1234 l1233) ∧ ref06_Refute_L2 F p0 p1 p2 y7 n_ x1230 l1233 = some res) F ⟨0, [], none, 0, [], hF.sub (by kernel_rfl), St.pick [0, 1, 2] (by decide) hS, All2.nil, h⟩ ?_
    rintro n_ a w ⟨x1230, l1233, ad1231, cap1232, css1234, hF, hS, hq1235, h⟩
    rcases n_ with _ | n_
    ·cases (show (none : Option ((List ref06_Cut) × Int)) = some res from h)
    obtain ⟨k2, hk2⟩ : ∃ k, k = ref06_Refute_L2 F p0 p1 p2 y7 n_ := ⟨_, rfl⟩
    replace h : ref06_Refute_B2 F p0 p1 p2 y7 k2 x1230 l1233 = some res := by rw [hk2]; exact h
    rw [ref06_Refute_B2] at h
    refine eseq ?_
    refine esr ?_
    refine rn 4 4 [(1, sv ad1 p1 cap2), (2, iv p2), (3, pb b4), (9, sv ad1231 l1233 cap1232), (10, sv ad9 y7 cap10), (11, iv x1230), (30, .bool (decide (x1230 < (ln y7))))] hF fun a hF => ?_
    refine wfn rfl ?_
    refine econd hF rfl (fun hc => ?_) (fun hc => ?_)
    ·replace h := bif_t h hc
     refine wpIn_skip (norm_then ?_)
     refine ecut (fun a w => ∃ (l1367 : (List ref06_Cut)) (ad1365 : Option Addr) (cap1366 : Nat) (css1368 : List (List Value)), Fr 86 [] [(1, sv ad1 p1 cap2), (2, iv p2), (3, pb b4), (9, sv ad1365 l1367 cap1366), (10, sv ad9 y7 cap10), (11, iv x1230)] a ∧ St w0 [arr 59 2 (fN 2) ad1365 l1367.length cap1366 css1368, blk b4 23 p0.ar, fz w0 ν8] w ∧ (All2 (Rp59 ν8) css1368 l1367) ∧ ref06_Refute_K3 x1230 k2 l1367 = some res) ?_ ?_
     ·skip
      refine wpIn_block ?_
      refine esr ?_
      refine rn 2 2 [(1, sv ad1 p1 cap2), (2, iv p2), (3, pb b4), (9, sv ad1231 l1233 cap1232), (10, sv ad9 y7 cap10), (11, iv x1230), (12, iv 0), (13, iv (-1))] hF fun a hF => ?_
      refine wfn rfl ?_
      refine ecut (fun a w => ∃ (x1410 : Int) (x1411 : Int), Fr 86 [] [(1, sv ad1 p1 cap2), (2, iv p2), (3, pb b4), (9, sv ad1231 l1233 cap1232), (10, sv ad9 y7 cap10), (11, iv x1230), (12, iv x1410), (13, iv x1411)] a ∧ St w0 [arr 59 2 (fN 2) ad1231 l1233.length cap1232 css1234, blk b4 23 p0.ar, fz w0 ν8] w ∧ ref06_Refute_K4 F y7 x1230 l1233 k2 x1410 x1411 = some res) ?_ ?_
      ·skip
       refine wpIn_block ?_
       refine eloop (fun n_ a w => ∃ (x1486 : Int) (x1487 : Int), Fr 86 [] [(1, sv ad1 p1 cap2), (2, iv p2), (3, pb b4), (9, sv ad1231 l1233 cap1232), (10, sv ad9 y7 cap10), (11, iv x1230), (12, iv x1486), (13, iv x1487)] a ∧ St w0 [arr 59 2 (fN 2) ad1231 l1233.length cap1232 css1234, blk b4 23 p0.ar, fz w0 ν8] w ∧ ref06_Refute_L5 F p0 p1 p2 y7 x1230 l1233 k2 n_ x1486 x1487 = some res) F ⟨0, -1, hF.sub (by kernel_rfl), St.pick [0, 1, 2] (by decide) hS, h⟩ ?_
       rintro n_ a w ⟨x1486, x1487, hF, hS, h⟩
       rcases n_ with _ | n_
       ·cases (show (none : Option ((List ref06_Cut) × Int)) = some res from h)
       obtain ⟨k5, hk5⟩ : ∃ k, k = ref06_Refute_L5 F p0 p1 p2 y7 x1230 l1233 k2 n_ := ⟨_, rfl⟩
       replace h : ref06_Refute_B5 F p0 p1 p2 y7 x1230 l1233 k2 k5 x1486 x1487 = some res := by rw [hk5]; exact h
       rw [ref06_Refute_B5] at h
       refine eseq ?_
       refine esr ?_
       refine rn 7 7 [(1, sv ad1 p1 cap2), (2, iv p2), (3, pb b4), (9, sv ad1231 l1233 cap1232), (10, sv ad9 y7 cap10), (11, iv x1230), (12, iv x1486), (13, iv x1487), (39, .bool (bif (decide (x1486 < p2)) then (decide (x1487 < 0)) else false))] hF fun a hF => ?_
       refine wfn rfl ?_
       refine econd hF rfl (fun hc => ?_) (fun hc => ?_)
       ·replace h := bif_t h hc
        refine wpIn_skip (norm_then ?_)
        refine wpIn_block ?_
        refine esr ?_
        replace h := bindS h
        obtain ⟨x1489, hx1489, h⟩ := h
        refine rno 3 [.run [] (binOp .add 3 (iv x1486) (iv 1)) (iv x1489)] 3 [(1, sv ad1 p1 cap2), (2, iv p2), (3, pb b4), (9, sv ad1231 l1233 cap1232), (10, sv ad9 y7 cap10), (11, iv x1230), (12, iv x1489)] hF (ocons (obAddC (fun _ => hx1489)) onil) fun a hF => ?_
        refine wfn rfl ?_
        replace h := bindS h
        obtain ⟨u1490, hu1490, h⟩ := h
        obtain ⟨cs1491, hcs1492, hR1493⟩ := getI_all2 hA12.2 hu1490
        obtain ⟨ad1494, cap1495, rfl, hA1496⟩ := hR1493
        replace h := bindS h
        obtain ⟨l1497, hl1497, h⟩ := h
        have hA1498 : ArrM ν8 1 fI (slOff ad1494 cap1495 (0 : Int).toNat 1) (cap1495 - (0 : Int).toNat) l1497 := fun w_ hw_ => (hA1496 w_ hw_).cutD fI_len hl1497
        replace h := bindS h
        obtain ⟨y1499, hy1499, h⟩ := h
        refine runD (obs := [.run [] (Instr.loadAt 23 (pb b4)) (p0.ag), .run [] (Instr.indexAt 111 (sv ad9 y7 cap10) (iv x1230)) (.pointer (some (slAddr ad9 x1230 1))), .run [] (Instr.loadAt 40 (.pointer (some (slAddr ad9 x1230 1)))) (sv ad1494 u1490 cap1495), .run [] (Instr.sliceAt 40 (sv ad1494 u1490 cap1495) none (some (iv x1489)) none) (.slice (slOff ad1494 cap1495 (0 : Int).toNat 1) l1497.length (cap1495 - (0 : Int).toNat)), .call [] 62 #[p0.ag, sv ad1 p1 cap2, .slice (slOff ad1494 cap1495 (0 : Int).toNat 1) l1497.length (cap1495 - (0 : Int).toNat)] (iv y1499)]) 10 [(1, sv ad1 p1 cap2), (2, iv p2), (3, pb b4), (9, sv ad1231 l1233 cap1232), (10, sv ad9 y7 cap10), (11, iv x1230), (12, iv x1489), (13, iv y1499)] (by kernel_rfl) hF (by kernel_rfl) (ocons (obN (us := p0.cells) (by kernel_rfl) (fun _ hd => ((hS.later hd).blk (i := 1) rfl).cells rfl)) (ocons (obIdxQ (hA12.at (hS.frz (i := 2) rfl hlow)) (by kernel_rfl) (fun _ => hcs1492)) (ocons (obElQ (i := x1230) 0 (fN_len 1) (fun _ hd => (hA12.at ((hS.later hd).frz (i := 2) rfl hlow))) (by kernel_rfl) (fun _ => hcs1492) rfl) (ocons (obCutH (by kernel_rfl) (hA1496 _ (hS.frz (i := 2) rfl hlow)) (fun _ => hl1497)) (ocons (show Ob.ok _ Ext _ _ from fun hk w2 hd => ref06_late_ok F p0 p1 l1497 _ ((fun _ => hy1499) hk) _ w2 (memOf_at w2) (hA3.mono (FrzAt.le_mem ((hS.later hd).frz (i := 2) rfl hlow))) (hA1498.mono (FrzAt.le_mem ((hS.later hd).frz (i := 2) rfl hlow)))) onil))))) ⟨by kernel_rfl⟩ fun a w hF hx => ?_
        replace hS := hS.later hx
        refine WI.fin rfl (norm_block <| norm_then <| ?_)
        rw [hk5] at h
        exact ⟨n_, Nat.lt_succ_self _, x1489, y1499, hF.sub (by kernel_rfl), St.pick [0, 1, 2] (by decide) hS, h⟩
       ·replace h := bif_f h hc
        refine wpIn_exit (exit_then <| exit_then <| exit_hit <| norm_then ?_)
        exact ⟨x1486, x1487, hF.sub (by kernel_rfl), St.pick [0, 1, 2] (by decide) hS, h⟩
      rintro a w ⟨x1410, x1411, hF, hS, h⟩
      rw [ref06_Refute_K4] at h
      refine eseq ?_
      refine esr ?_
      refine rn 2 2 [(1, sv ad1 p1 cap2), (2, iv p2), (3, pb b4), (9, sv ad1231 l1233 cap1232), (10, sv ad9 y7 cap10), (11, iv x1230), (12, iv x1410), (13, iv x1411), (52, .bool (decide (x1411 < 0)))] hF fun a hF => ?_
      refine wfn rfl ?_
      refine econd hF rfl (fun hc => ?_) (fun hc => ?_)
      ·replace h := bif_t h hc
       refine esr ?_
       refine rn 2 2 [(6, .slice none 0 0), (7, iv 4)] hF fun a hF => ?_
       refine wfn rfl ?_
       refine wpIn_ret (ret_then <| ret_block <| ret_then <| ret_then <| ret_block <| ret_then <| fn_ret [.tmp 6, .tmp 7] [.slice none 0 0, iv 4] hF rfl ⟨rfl, rfl, trivial⟩ ?_)
       have hr_ := Option.some.inj h
       subst hr_
       exact ⟨ν8, none, 0, [], hext, rfl, ArrQ.nil, St.pick [2] (by decide) hS⟩
      ·replace h := bif_f h hc
       refine wpIn_skip (norm_then ?_)
       refine eseq ?_
       rcases Bool.eq_false_or_eq_true (((ln l1233) == 0)) with hg1412 | hg1412
       ·replace h := bif_t h hg1412
        refine runD (obs := [.run [⟨56, false, ((ln l1233) == 0)⟩] (Instr.indexAt 111 (sv ad9 y7 cap10) (iv x1230)) (pb 0), .run [⟨56, false, ((ln l1233) == 0)⟩] (Instr.loadAt 40 (pb 0)) (.slice none 0 0), .run [⟨56, false, ((ln l1233) == 0)⟩] (binOp .sub 3 (iv (ln l1233)) (iv 1)) (iv 0), .run [⟨56, false, ((ln l1233) == 0)⟩] (Instr.indexAt 57 (sv ad1231 l1233 cap1232) (iv 0)) (pb 0), .run [⟨56, false, ((ln l1233) == 0)⟩] (Instr.loadAt 40 (pb 0)) (.slice none 0 0), .call [⟨56, false, ((ln l1233) == 0)⟩] 63 #[.slice none 0 0, .slice none 0 0] (.bool false)]) 18 [(1, sv ad1 p1 cap2), (2, iv p2), (3, pb b4), (9, sv ad1231 l1233 cap1232), (10, sv ad9 y7 cap10), (11, iv x1230), (12, iv x1410), (13, iv x1411), (70, .bool (bif ((ln l1233) == 0) then true else true))] (by kernel_rfl) hF (by kernel_rfl) (ocons (obNo (conds_no (i := 0) (c := ⟨56, false, ((ln l1233) == 0)⟩) rfl (show (((ln l1233) == 0) == false) = false by rw [hg1412]; rfl))) (ocons (obNo (conds_no (i := 0) (c := ⟨56, false, ((ln l1233) == 0)⟩) rfl (show (((ln l1233) == 0) == false) = false by rw [hg1412]; rfl))) (ocons (obNo (conds_no (i := 0) (c := ⟨56, false, ((ln l1233) == 0)⟩) rfl (show (((ln l1233) == 0) == false) = false by rw [hg1412]; rfl))) (ocons (obNo (conds_no (i := 0) (c := ⟨56, false, ((ln l1233) == 0)⟩) rfl (show (((ln l1233) == 0) == false) = false by rw [hg1412]; rfl))) (ocons (obNo (conds_no (i := 0) (c := ⟨56, false, ((ln l1233) == 0)⟩) rfl (show (((ln l1233) == 0) == false) = false by rw [hg1412]; rfl))) (ocons (obNoC (conds_no (i := 0) (c := ⟨56, false, ((ln l1233) == 0)⟩) rfl (show (((ln l1233) == 0) == false) = false by rw [hg1412]; rfl))) onil)))))) ⟨by kernel_rfl⟩ fun a w hF hx => ?_
        replace hS := hS.later hx
        refine wfn rfl ?_
        refine econd hF rfl (fun hc => ?_) (fun hc => ?_)
        ·replace h := bif_t h hc
         refine WI.region ?_
         replace h := bindS h
         obtain ⟨u1413, hu1413, h⟩ := h
         obtain ⟨cs1414, hcs1415, hR1416⟩ := getI_all2 hA12.2 hu1413
         obtain ⟨ad1417, cap1418, rfl, hA1419⟩ := hR1416
         replace h := bindS h
         obtain ⟨l1420, hl1420, h⟩ := h
         have hA1421 : ArrM ν8 1 fI (slOff ad1417 cap1418 (0 : Int).toNat 1) (cap1418 - (0 : Int).toNat) l1420 := fun w_ hw_ => (hA1419 w_ hw_).cutD fI_len hl1420
         refine rno 9 [.run [] (Instr.indexAt 111 (sv ad9 y7 cap10) (iv x1230)) (.pointer (some (slAddr ad9 x1230 1))), .run [] (Instr.loadAt 40 (.pointer (some (slAddr ad9 x1230 1)))) (sv ad1417 u1413 cap1418), .run [] (Instr.sliceAt 40 (sv ad1417 u1413 cap1418) none (some (iv x1410)) none) (.slice (slOff ad1417 cap1418 (0 : Int).toNat 1) l1420.length (cap1418 - (0 : Int).toNat))] 9 [(1, sv ad1 p1 cap2), (2, iv p2), (3, pb b4), (9, sv ad1231 l1233 cap1232), (10, sv ad9 y7 cap10), (11, iv x1230), (71, sv ad1231 l1233 cap1232), (79, .agg #[.slice (slOff ad1417 cap1418 (0 : Int).toNat 1) l1420.length (cap1418 - (0 : Int).toNat), iv x1411])] hF (ocons (obIdxQ (hA12.at (hS.frz (i := 2) rfl hlow)) (by kernel_rfl) (fun _ => hcs1415)) (ocons (obElQ (i := x1230) 0 (fN_len 1) (fun _ hd => (hA12.at ((hS.at_ hd).frz (i := 2) rfl hlow))) (by kernel_rfl) (fun _ => hcs1415) rfl) (ocons (obCutH (by kernel_rfl) (hA1419 _ (hS.frz (i := 2) rfl hlow)) (fun _ => hl1420)) onil))) fun a hF => ?_
         have hq1423 : All2 (Rp59 ν8) ([[.slice (slOff ad1417 cap1418 (0 : Int).toNat 1) l1420.length (cap1418 - (0 : Int).toNat), iv x1411]] : List (List Value)) [(ref06_Cut.mk l1420 x1411)] := (All2.cons ⟨(slOff ad1417 cap1418 (0 : Int).toNat 1), (cap1418 - (0 : Int).toNat), rfl, hA1421⟩ All2.nil)
         refine SK.wi (litQK (e := 59) (sz := 2) (f := fN 2) (t := 57) (len := 1) (fun b1422 => [(1, sv ad1 p1 cap2), (2, iv p2), (3, pb b4), (9, sv ad1231 l1233 cap1232), (10, sv ad9 y7 cap10), (11, iv x1230), (71, sv ad1231 l1233 cap1232), (80, sb b1422 1)]) #[(0, .agg #[.slice (slOff ad1417 cap1418 (0 : Int).toNat 1) l1420.length (cap1418 - (0 : Int).toNat), iv x1411])] #[.slice (slOff ad1417 cap1418 (0 : Int).toNat 1) l1420.length (cap1418 - (0 : Int).toNat), iv x1411] ([[.slice (slOff ad1417 cap1418 (0 : Int).toNat 1) l1420.length (cap1418 - (0 : Int).toNat), iv x1411]] : List (List Value)) ([(ref06_Cut.mk l1420 x1411)]) hF hS (by kernel_rfl) ⟨by kernel_rfl⟩ (by kernel_rfl) (fN_len 2) rfl rfl rfl (by kernel_rfl) (fun _ => ⟨by kernel_rfl⟩) fun b1422 w a hF hS => ?_)
         replace h := bindS h
         obtain ⟨l1424, hl1424, h⟩ := h
         have hq1428 : All2 (Rp59 ν8) (css1234 ++ ([[.slice (slOff ad1417 cap1418 (0 : Int).toNat 1) l1420.length (cap1418 - (0 : Int).toNat), iv x1411]] : List (List Value))) l1424 := by rw [(apd_some hl1424).1]; exact All2.app hq1235 hq1423
         refine SK.wi (appQK (t := 57) (ty := 57) (bytes := 32) (c := css1234) (c' := ([[.slice (slOff ad1417 cap1418 (0 : Int).toNat 1) l1420.length (cap1418 - (0 : Int).toNat), iv x1411]] : List (List Value))) (l := l1233) (l' := ([(ref06_Cut.mk l1420 x1411)])) (fun ad1425 cap1426 => [(1, sv ad1 p1 cap2), (2, iv p2), (3, pb b4), (9, sv ad1231 l1233 cap1232), (10, sv ad9 y7 cap10), (11, iv x1230), (81, sv ad1425 l1424 cap1426)]) 1 hF hS rfl (by kernel_rfl) ⟨by kernel_rfl⟩ (by kernel_rfl) (hS.arr (i := 0) rfl) (ArrQ.one hq1423 Rp59.one) hl1424 (fun _ _ => ⟨by kernel_rfl⟩) fun ad1425 cap1426 w a hF hS => ?_)
         refine rn 1 12 [(1, sv ad1 p1 cap2), (2, iv p2), (3, pb b4), (9, sv ad1425 l1424 cap1426), (10, sv ad9 y7 cap10), (11, iv x1230)] hF fun a hF => ?_
         refine WI.fin rfl (norm_block <| norm_then <| ?_)
         exact ⟨l1424, ad1425, cap1426, (css1234 ++ ([[.slice (slOff ad1417 cap1418 (0 : Int).toNat 1) l1420.length (cap1418 - (0 : Int).toNat), iv x1411]] : List (List Value))), hF.sub (by kernel_rfl), St.pick [1, 2, 3] (by decide) hS, hq1428, h⟩
        ·replace h := bif_f h hc
         refine wpIn_skip (norm_block <| norm_then <| ?_)
         exact ⟨l1233, ad1231, cap1232, css1234, hF.sub (by kernel_rfl), St.pick [0, 1, 2] (by decide) hS, hq1235, h⟩
       ·replace h := bif_f h hg1412
        replace h := bindS h
        obtain ⟨u1429, hu1429, h⟩ := h
        obtain ⟨cs1430, hcs1431, hR1432⟩ := getI_all2 hA12.2 hu1429
        obtain ⟨ad1433, cap1434, rfl, hA1435⟩ := hR1432
        replace h := bindS h
        obtain ⟨x1436, hx1436, h⟩ := h
        replace h := bindS h
        obtain ⟨u1437, hu1437, h⟩ := h
        obtain ⟨cs1438, hcs1439, hR1440⟩ := getI_all2 hq1235 hu1437
        obtain ⟨ad1441, cap1442, rfl, hA1443⟩ := hR1440
        replace h := bindS h
        obtain ⟨y1444, hy1444, h⟩ := h
        refine runD (obs := [.run [⟨56, false, ((ln l1233) == 0)⟩] (Instr.indexAt 111 (sv ad9 y7 cap10) (iv x1230)) (.pointer (some (slAddr ad9 x1230 1))), .run [⟨56, false, ((ln l1233) == 0)⟩] (Instr.loadAt 40 (.pointer (some (slAddr ad9 x1230 1)))) (sv ad1433 u1429 cap1434), .run [⟨56, false, ((ln l1233) == 0)⟩] (binOp .sub 3 (iv (ln l1233)) (iv 1)) (iv x1436), .run [⟨56, false, ((ln l1233) == 0)⟩] (Instr.indexAt 57 (sv ad1231 l1233 cap1232) (iv x1436)) (.pointer (some (slAddr ad1231 x1436 2))), .run [⟨56, false, ((ln l1233) == 0)⟩] (Instr.loadAt 40 (.pointer (some (slAddr ad1231 x1436 2)))) (sv ad1441 u1437.Begin cap1442), .call [⟨56, false, ((ln l1233) == 0)⟩] 63 #[sv ad1433 u1429 cap1434, sv ad1441 u1437.Begin cap1442] (.bool y1444)]) 18 [(1, sv ad1 p1 cap2), (2, iv p2), (3, pb b4), (9, sv ad1231 l1233 cap1232), (10, sv ad9 y7 cap10), (11, iv x1230), (12, iv x1410), (13, iv x1411), (70, .bool (bif ((ln l1233) == 0) then true else (!y1444)))] (by kernel_rfl) hF (by kernel_rfl) (ocons (obIdxQ (hA12.at (hS.frz (i := 2) rfl hlow)) (by kernel_rfl) (fun _ => hcs1431)) (ocons (obElQ (i := x1230) 0 (fN_len 1) (fun _ hd => (hA12.at ((hS.later hd).frz (i := 2) rfl hlow))) (by kernel_rfl) (fun _ => hcs1431) rfl) (ocons (obSubC (fun _ => hx1436)) (ocons (obIdxQ (hS.arr (i := 0) rfl) (by kernel_rfl) (fun _ => hcs1439)) (ocons (obElQ (i := x1436) 0 (fN_len 2) (fun _ hd => ((hS.later hd).arr (i := 0) rfl)) (by kernel_rfl) (fun _ => hcs1439) rfl) (ocons (show Ob.ok _ Ext _ _ from fun hk w2 hd => ref06_Starts_ok F u1429 u1437.Begin _ ((fun _ => hy1444) hk) _ w2 (memOf_at w2) (hA1435.mono (FrzAt.le_mem ((hS.later hd).frz (i := 2) rfl hlow))) (hA1443.mono (FrzAt.le_mem ((hS.later hd).frz (i := 2) rfl hlow)))) onil)))))) ⟨by kernel_rfl⟩ fun a w hF hx => ?_
        replace hS := hS.later hx
        refine wfn rfl ?_
        refine econd hF rfl (fun hc => ?_) (fun hc => ?_)
        ·replace h := bif_t h hc
         refine WI.region ?_
         replace h := bindS h
         obtain ⟨u1445, hu1445, h⟩ := h
         obtain ⟨cs1446, hcs1447, hR1448⟩ := getI_all2 hA12.2 hu1445
         obtain ⟨ad1449, cap1450, rfl, hA1451⟩ := hR1448
         replace h := bindS h
         obtain ⟨l1452, hl1452, h⟩ := h
         have hA1453 : ArrM ν8 1 fI (slOff ad1449 cap1450 (0 : Int).toNat 1) (cap1450 - (0 : Int).toNat) l1452 := fun w_ hw_ => (hA1451 w_ hw_).cutD fI_len hl1452
         refine rno 9 [.run [] (Instr.indexAt 111 (sv ad9 y7 cap10) (iv x1230)) (.pointer (some (slAddr ad9 x1230 1))), .run [] (Instr.loadAt 40 (.pointer (some (slAddr ad9 x1230 1)))) (sv ad1449 u1445 cap1450), .run [] (Instr.sliceAt 40 (sv ad1449 u1445 cap1450) none (some (iv x1410)) none) (.slice (slOff ad1449 cap1450 (0 : Int).toNat 1) l1452.length (cap1450 - (0 : Int).toNat))] 9 [(1, sv ad1 p1 cap2), (2, iv p2), (3, pb b4), (9, sv ad1231 l1233 cap1232), (10, sv ad9 y7 cap10), (11, iv x1230), (71, sv ad1231 l1233 cap1232), (79, .agg #[.slice (slOff ad1449 cap1450 (0 : Int).toNat 1) l1452.length (cap1450 - (0 : Int).toNat), iv x1411])] hF (ocons (obIdxQ (hA12.at (hS.frz (i := 2) rfl hlow)) (by kernel_rfl) (fun _ => hcs1447)) (ocons (obElQ (i := x1230) 0 (fN_len 1) (fun _ hd => (hA12.at ((hS.at_ hd).frz (i := 2) rfl hlow))) (by kernel_rfl) (fun _ => hcs1447) rfl) (ocons (obCutH (by kernel_rfl) (hA1451 _ (hS.frz (i := 2) rfl hlow)) (fun _ => hl1452)) onil))) fun a hF => ?_
         have hq1455 : All2 (Rp59 ν8) ([[.slice (slOff ad1449 cap1450 (0 : Int).toNat 1) l1452.length (cap1450 - (0 : Int).toNat), iv x1411]] : List (List Value)) [(ref06_Cut.mk l1452 x1411)] := (All2.cons ⟨(slOff ad1449 cap1450 (0 : Int).toNat 1), (cap1450 - (0 : Int).toNat), rfl, hA1453⟩ All2.nil)
         refine SK.wi (litQK (e := 59) (sz := 2) (f := fN 2) (t := 57) (len := 1) (fun b1454 => [(1, sv ad1 p1 cap2), (2, iv p2), (3, pb b4), (9, sv ad1231 l1233 cap1232), (10, sv ad9 y7 cap10), (11, iv x1230), (71, sv ad1231 l1233 cap1232), (80, sb b1454 1)]) #[(0, .agg #[.slice (slOff ad1449 cap1450 (0 : Int).toNat 1) l1452.length (cap1450 - (0 : Int).toNat), iv x1411])] #[.slice (slOff ad1449 cap1450 (0 : Int).toNat 1) l1452.length (cap1450 - (0 : Int).toNat), iv x1411] ([[.slice (slOff ad1449 cap1450 (0 : Int).toNat 1) l1452.length (cap1450 - (0 : Int).toNat), iv x1411]] : List (List Value)) ([(ref06_Cut.mk l1452 x1411)]) hF hS (by kernel_rfl) ⟨by kernel_rfl⟩ (by kernel_rfl) (fN_len 2) rfl rfl rfl (by kernel_rfl) (fun _ => ⟨by kernel_rfl⟩) fun b1454 w a hF hS => ?_)
         replace h := bindS h
         obtain ⟨l1456, hl1456, h⟩ := h
         have hq1460 : All2 (Rp59 ν8) (css1234 ++ ([[.slice (slOff ad1449 cap1450 (0 : Int).toNat 1) l1452.length (cap1450 - (0 : Int).toNat), iv x1411]] : List (List Value))) l1456 := by rw [(apd_some hl1456).1]; exact All2.app hq1235 hq1455
         refine SK.wi (appQK (t := 57) (ty := 57) (bytes := 32) (c := css1234) (c' := ([[.slice (slOff ad1449 cap1450 (0 : Int).toNat 1) l1452.length (cap1450 - (0 : Int).toNat), iv x1411]] : List (List Value))) (l := l1233) (l' := ([(ref06_Cut.mk l1452 x1411)])) (fun ad1457 cap1458 => [(1, sv ad1 p1 cap2), (2, iv p2), (3, pb b4), (9, sv ad1231 l1233 cap1232), (10, sv ad9 y7 cap10), (11, iv x1230), (81, sv ad1457 l1456 cap1458)]) 1 hF hS rfl (by kernel_rfl) ⟨by kernel_rfl⟩ (by kernel_rfl) (hS.arr (i := 0) rfl) (ArrQ.one hq1455 Rp59.one) hl1456 (fun _ _ => ⟨by kernel_rfl⟩) fun ad1457 cap1458 w a hF hS => ?_)
         refine rn 1 12 [(1, sv ad1 p1 cap2), (2, iv p2), (3, pb b4), (9, sv ad1457 l1456 cap1458), (10, sv ad9 y7 cap10), (11, iv x1230)] hF fun a hF => ?_
         refine WI.fin rfl (norm_block <| norm_then <| ?_)
         exact ⟨l1456, ad1457, cap1458, (css1234 ++ ([[.slice (slOff ad1449 cap1450 (0 : Int).toNat 1) l1452.length (cap1450 - (0 : Int).toNat), iv x1411]] : List (List Value))), hF.sub (by kernel_rfl), St.pick [1, 2, 3] (by decide) hS, hq1460, h⟩
        ·replace h := bif_f h hc
         refine wpIn_skip (norm_block <| norm_then <| ?_)
         exact ⟨l1233, ad1231, cap1232, css1234, hF.sub (by kernel_rfl), St.pick [0, 1, 2] (by decide) hS, hq1235, h⟩
     rintro a w ⟨l1367, ad1365, cap1366, css1368, hF, hS, hq1369, h⟩
     rw [ref06_Refute_K3] at h
     refine WI.region ?_
     replace h := bindS h
     obtain ⟨x1370, hx1370, h⟩ := h
     refine rno 3 [.run [] (binOp .add 3 (iv x1230) (iv 1)) (iv x1370)] 3 [(1, sv ad1 p1 cap2), (2, iv p2), (3, pb b4), (9, sv ad1365 l1367 cap1366), (10, sv ad9 y7 cap10), (11, iv x1370)] hF (ocons (obAddC (fun _ => hx1370)) onil) fun a hF => ?_
     refine wfn rfl ?_
     rw [hk2] at h
     exact ⟨n_, Nat.lt_succ_self _, x1370, l1367, ad1365, cap1366, css1368, hF.sub (by kernel_rfl), St.pick [0, 1, 2] (by decide) hS, hq1369, h⟩
    ·replace h := bif_f h hc
     refine wpIn_exit (exit_then <| exit_then <| exit_hit <| norm_then ?_)
     exact ⟨l1233, ad1231, cap1232, css1234, hF.sub (by kernel_rfl), St.pick [0, 1, 2] (by decide) hS, hq1235, h⟩
   rintro a w ⟨l754, ad752, cap753, css755, hF, hS, hq756, h⟩
   rw [ref06_Refute_K1] at h
   refine eseq ?_
   refine esr ?_
   refine rn 3 3 [(9, sv ad752 l754 cap753), (84, .bool (decide ((ln l754) > 5000)))] hF fun a hF => ?_
   refine wfn rfl ?_
   refine econd hF rfl (fun hc => ?_) (fun hc => ?_)
   ·replace h := bif_t h hc
    refine esr ?_
    refine rn 2 2 [(6, .slice none 0 0), (7, iv 9)] hF fun a hF => ?_
    refine wfn rfl ?_
    refine wpIn_ret (ret_then <| fn_ret [.tmp 6, .tmp 7] [.slice none 0 0, iv 9] hF rfl ⟨rfl, rfl, trivial⟩ ?_)
    have hr_ := Option.some.inj h
    subst hr_
    exact ⟨ν8, none, 0, [], hext, rfl, ArrQ.nil, St.pick [2] (by decide) hS⟩
   ·replace h := bif_f h hc
    refine wpIn_skip (norm_then ?_)
    refine esr ?_
    refine rn 3 3 [(6, sv ad752 l754 cap753), (7, iv 0)] hF fun a hF => ?_
    refine wfn rfl ?_
    refine wpIn_ret (fn_ret [.tmp 6, .tmp 7] [sv ad752 l754 cap753, iv 0] hF rfl ⟨rfl, rfl, trivial⟩ ?_)
    obtain ⟨ν757, hx758, hlow, hS, hz759⟩ := hS.freeze (i := 2) (j := 0) rfl rfl (by decide) hlow
    replace hA3 := hA3.mono hx758.1
    replace hA12 := hA12.mono Rp40.mono hx758.1
    replace hq756 := All2.mono Rp59.mono hx758.1 hq756
    replace hext := Frz.ext_trans hext hx758
    replace hS : St w0 [blk b4 23 p0.ar, fz w0 ν757] w := hS
    have hA760 := ArrQ.of_arr (l := l754) hz759 hq756 Rp59.mono (Frz.le_refl _)
    have hr_ := Option.some.inj h
    subst hr_
    exact ⟨ν757, ad752, cap753, css755, hext, rfl, hA760, St.pick [1] (by decide) hS⟩
end Go.Proofs.Ytejffembnkojjaa
