/- Walks, written by program (wip/gen/dec.py). -/
import Derived.Test.YtejffembnkojjaaC10XD
import Derived.Test.YtejffembnkojjaaProg
import Derived.Test.YtejffembnkojjaaC10XW0
import Derived.Test.YtejffembnkojjaaC10XW2
import Derived.Test.YtejffembnkojjaaC10XW3
import Derived.Test.YtejffembnkojjaaC10XW5
import Derived.Test.YtejffembnkojjaaC10XW7
namespace Go.Proofs.Ytejffembnkojjaa
open Go Go.RowKit Go.Eng
set_option maxRecDepth 10000
set_option maxHeartbeats 4000000
set_option linter.unusedVariables false
set_option linter.unusedSimpArgs false
theorem pplan_desk_begun_1_ok {σ γ : Type} (F : Nat) (c0_ : (Option plan_desk)) (c1_ : Int) (body : σ → plan_line → Option (σ × Bool)) (s_ : σ) (res : σ × Bool) (h : pplan_desk_begun_1 F c0_ c1_ body s_ = some res) (l_ : Nat) (μ : Frz) (w0 w1 : World) (RC : σ → Bool → γ → List Res) (PC : σ → Bool → γ → Frz → Prop) (hPm : ∀ s b g μ ν, PC s b g μ → μ.le ν → PC s b g ν) (hy : ∀ (s : σ) (x : plan_line) (q : σ × Bool), body s x = some q → ∀ (ν : Frz) (g : γ) (G : List Res) (w : World) (pv_1 : Option Addr) (ad_2 : Option Addr) (cap_3 : Nat) (ad_4 : Option Addr) (cap_5 : Nat), μ.ext w0.heap.size ν → FrzIn w0 ν → PC s true g ν → PtM ν 113 Rp113 pv_1 x.desk → ArrM ν 1 fI ad_2 cap_3 x.jobs → ArrM ν 1 fI ad_4 cap_5 x.at_ → St w0 (fz w0 ν :: (RC s true g ++ G)) w → Eng.Yields Try.prog l_ #[.agg #[.pointer pv_1, sv ad_2 x.jobs cap_3, sv ad_4 x.at_ cap_5, iv x.done]] w (fun c w2 => c = q.2 ∧ ∃ ν2 g2, ν.ext w0.heap.size ν2 ∧ FrzIn w0 ν2 ∧ PC q.1 q.2 g2 ν2 ∧ St w0 (fz w0 ν2 :: (RC q.1 q.2 g2 ++ G)) w2)) (g_ : γ) (G_ : List Res) (hlow : FrzIn w0 μ) (hP : PC s_ true g_ μ) (hS : St w0 (fz w0 μ :: (RC s_ true g_ ++ G_)) w1) {cb1 : Nat} {cb2 : Nat} {pv1 : Option Addr} (hcb1 : BlkM μ cb1 100 #[.pointer pv1]) (hA2 : PtM μ 113 Rp113 pv1 c0_) (hcb2 : BlkM μ cb2 3 #[iv c1_]) : Calls Try.prog 83 #[.func (.yield l_) #[] #[], pb cb1, pb cb2] w1 (fun e w => ∃ (ν_ : Frz) (g2_ : γ), μ.ext w0.heap.size ν_ ∧ FrzIn w0 ν_ ∧ PC res.1 res.2 g2_ ν_ ∧ e = .returned (.tuple #[]) ∧ St w0 (fz w0 ν_ :: (RC res.1 res.2 g2_ ++ G_)) w) := by
 rw [pplan_desk_begun_1] at h
 have hext := Frz.ext_refl w0.heap.size μ
 refine fn_enterW Try.func83 rfl 10 [(0, .func (.yield l_) #[] #[]), (1, pb cb1), (2, pb cb2)] rfl rfl (by kernel_rfl) fun a w hw hF => ?_
 replace hS : St w0 (fz w0 μ :: (RC s_ true g_ ++ G_)) w := by rw [hw]; exact hS
 clear hw
 refine esr ?_
 refine SK.wi (boxK (t := 141) (fun b3 => [(1, pb cb1), (2, pb cb2), (3, pb b3)]) (.func (.yield l_) #[] #[]) #[.func (.yield l_) #[] #[]] hF hS (by kernel_rfl) ⟨by kernel_rfl⟩ (by kernel_rfl) (fun _ => ⟨by kernel_rfl⟩) fun b3 w a hF hS => ?_)
 refine wfn rfl ?_
 refine esr ?_
 refine SK.wi (allocK (t := 141) (fun b4 => [(1, pb cb1), (2, pb cb2), (3, pb b3), (4, pb b4)]) #[.nilFunc] hF hS (by kernel_rfl) ⟨by kernel_rfl⟩ (by kernel_rfl) (fun _ => ⟨by kernel_rfl⟩) fun b4 w a hF hS => ?_)
 refine wfn rfl ?_
 refine esr ?_
 refine rn 1 1 [(1, pb cb1), (4, pb b4), (5, .func (.func 84) #[] #[pb cb1, pb cb2, pb b3, pb b4])] hF fun a hF => ?_
 refine SK.wi (storeK (t := 141) [(1, pb cb1), (4, pb b4)] 0 0 (.func (.func 84) #[] #[pb cb1, pb cb2, pb b3, pb b4]) #[.func (.func 84) #[] #[pb cb1, pb cb2, pb b3, pb b4]] hF hS rfl (by kernel_rfl) ⟨by kernel_rfl⟩ (by kernel_rfl) (by kernel_rfl) (by kernel_rfl) (by kernel_rfl) ⟨by kernel_rfl⟩ fun w a hF hS => ?_)
 refine wfn rfl ?_
 refine WI.region ?_
 refine rno 3 [.run [] (Instr.loadAt 141 (pb b4)) (.func (.func 84) #[] #[pb cb1, pb cb2, pb b3, pb b4]), .run [] (Instr.loadAt 100 (pb cb1)) (.pointer pv1)] 3 [(6, .func (.func 84) #[] #[pb cb1, pb cb2, pb b3, pb b4]), (8, .agg #[.pointer pv1, .slice none 0 0, .slice none 0 0, iv 0])] hF (ocons (ob1 (by kernel_rfl) (fun _ hd => (hS.at_ hd).cell (i := 0) (j := 0) rfl rfl)) (ocons (ob1 (by kernel_rfl) (fun _ hd => (hcb1.blk ((hS.at_ hd).frz (i := 2) rfl hlow)).cell1 (j := 0) rfl)) onil)) fun a hF => ?_
 obtain ⟨ν5, hx6, hlow, hS, hz7⟩ := hS.freeze (i := 2) (j := 1) rfl rfl (by decide) hlow
 replace hcb1 := hcb1.mono hx6.1
 replace hA2 := hA2.mono Rp113.mono hx6.1
 replace hcb2 := hcb2.mono hx6.1
 replace hP := hPm _ _ _ _ _ hP hx6.1
 replace hext := Frz.ext_trans hext hx6
 replace hS : St w0 (blk b4 141 #[.func (.func 84) #[] #[pb cb1, pb cb2, pb b3, pb b4]] :: fz w0 ν5 :: (RC s_ true g_ ++ G_)) w := hS
 have hB8 : BlkM ν5 b3 141 #[.func (.yield l_) #[] #[]] := hz7
 obtain ⟨ν9, hx10, hlow, hS, hz11⟩ := hS.freeze (i := 1) (j := 0) rfl rfl (by decide) hlow
 replace hcb1 := hcb1.mono hx10.1
 replace hA2 := hA2.mono Rp113.mono hx10.1
 replace hcb2 := hcb2.mono hx10.1
 replace hP := hPm _ _ _ _ _ hP hx10.1
 replace hB8 := hB8.mono hx10.1
 replace hext := Frz.ext_trans hext hx10
 replace hS : St w0 (fz w0 ν9 :: (RC s_ true g_ ++ G_)) w := hS
 have hB12 : BlkM ν9 b4 141 #[.func (.func 84) #[] #[pb cb1, pb cb2, pb b3, pb b4]] := hz11
 replace h := bindS h
 obtain ⟨y13, hy13, h⟩ := h
 refine SK.wi (callK (f := 84) (args := #[.agg #[.pointer pv1, .slice none 0 0, .slice none 0 0, iv 0], pb cb1, pb cb2, pb b3, pb b4]) (R := fun v w2 => ∃ (ν_ : Frz) (g2_ : γ), ν9.ext w0.heap.size ν_ ∧ FrzIn w0 ν_ ∧ PC y13.1 y13.2.1 g2_ ν_ ∧ v = .bool y13.2.2 ∧ St w0 (fz w0 ν_ :: (RC y13.1 y13.2.1 g2_ ++ (G_ ++ []))) w2) (fun v17 => []) hF (by kernel_rfl) ⟨by kernel_rfl⟩ (Calls.mono (pplan_desk_begun_1_1_ok F (plan_line.mk c0_ ([] : (List Int)) ([] : (List Int)) 0) c0_ c1_ body s_ _ hy13 l_ ν9 w0 w RC PC hPm (fun s x q hb ν g G w a0_ a1_ a2_ a3_ a4_ hx => hy s x q hb ν g G w a0_ a1_ a2_ a3_ a4_ (Frz.ext_trans hext hx)) g_ (G_ ++ []) hlow hP (St.rot [] hS) hA2 ArrM.nil ArrM.nil hcb1 hA2 hcb2 hB8 hB12) (by rintro e w2 ⟨n1, n2, n3, n4, n5, rfl, n6⟩; exact ⟨_, rfl, n1, n2, n3, n4, n5, rfl, n6⟩)) (fun _ => ⟨by kernel_rfl⟩) ?_)
 rintro v17 w a ⟨ν14, g15, hx16, hlow, hP, rfl, hS⟩ hF
 replace hS := St.unrot [] hS
 replace hext := Frz.ext_trans hext hx16
 replace hcb1 := hcb1.mono hx16.1
 replace hA2 := hA2.mono Rp113.mono hx16.1
 replace hcb2 := hcb2.mono hx16.1
 replace hB8 := hB8.mono hx16.1
 replace hB12 := hB12.mono hx16.1
 replace hS : St w0 (fz w0 ν14 :: (RC y13.1 (y13.2.1) g15 ++ G_)) w := hS
 rcases Bool.eq_false_or_eq_true (y13.2.1) with hb18 | hb18
 ·replace h := bif_t h hb18
  rw [hb18] at hS hP
  replace hS : St w0 (fz w0 ν14 :: (RC y13.1 true g15 ++ G_)) w := hS
  refine WI.fin rfl ?_
  refine fn_end hF rfl ?_
  have hr_ := Option.some.inj h
  subst hr_
  exact ⟨ν14, g15, hext, hlow, hP, rfl, hS⟩
 ·replace h := bif_f h hb18
  rw [hb18] at hS hP
  replace hS : St w0 (fz w0 ν14 :: (RC y13.1 false g15 ++ G_)) w := hS
  refine WI.fin rfl ?_
  refine fn_end hF rfl ?_
  have hr_ := Option.some.inj h
  subst hr_
  exact ⟨ν14, g15, hext, hlow, hP, rfl, hS⟩

theorem pplan_desk_begun_ok (p0 : (Option plan_desk)) (p1 : Int) (res : Unit) (h : pplan_desk_begun p0 p1 = res) (μ : Frz) (w0 : World) (hm : FrzAt μ w0) {pv1 : Option Addr} (hA2 : PtM μ 113 Rp113 pv1 p0) : Calls Try.prog 57 #[.pointer pv1, iv p1] w0 (fun e w => ∃ zb0 zb1, e = .returned (.func (.func 83) #[] #[pb zb0, pb zb1]) ∧ St w0 [blk zb0 100 #[.pointer pv1], blk zb1 3 #[iv p1]] w) := by
 obtain ⟨hlow, hS⟩ := hm.init
 have hext := Frz.ext_refl w0.heap.size μ
 rw [pplan_desk_begun] at h
 refine fn_enterW Try.func57 rfl 6 [(0, .pointer pv1), (1, iv p1)] rfl rfl (by kernel_rfl) fun a w hw hF => ?_
 replace hS : St w0 [fz w0 μ] w := by rw [hw]; exact hS
 clear hw
 refine esr ?_
 refine SK.wi (boxK (t := 100) (fun b3 => [(1, iv p1), (2, pb b3)]) (.pointer pv1) #[.pointer pv1] hF hS (by kernel_rfl) ⟨by kernel_rfl⟩ (by kernel_rfl) (fun _ => ⟨by kernel_rfl⟩) fun b3 w a hF hS => ?_)
 refine SK.wi (boxK (t := 3) (fun b4 => [(2, pb b3), (3, pb b4)]) (iv p1) #[iv p1] hF hS (by kernel_rfl) ⟨by kernel_rfl⟩ (by kernel_rfl) (fun _ => ⟨by kernel_rfl⟩) fun b4 w a hF hS => ?_)
 refine rn 1 3 [(2, pb b3), (3, pb b4)] hF fun a hF => ?_
 refine wfn rfl ?_
 refine esr ?_
 refine rn 2 2 [(4, .func (.func 83) #[] #[pb b3, pb b4])] hF fun a hF => ?_
 refine wfn rfl ?_
 refine wpIn_ret (fn_ret [.tmp 4] [.func (.func 83) #[] #[pb b3, pb b4]] hF rfl ⟨rfl, trivial⟩ ?_)
 subst h
 exact ⟨b3, b4, rfl, St.pick [1, 0] (by decide) hS⟩

theorem plan_Best_ok (F : Nat) (p0 : plan_Radar) (p1 : (List plan_Job)) (p2 : Int) (res : ((List Int) × Int)) (h : plan_Best F p0 p1 p2 = some res) (μ : Frz) (w0 : World) (hm : FrzAt μ w0) {ad1 : Option Addr} {cap2 : Nat} (hA3 : ArrM μ 8 plan_Job.cells ad1 cap2 p1) : Calls Try.prog 27 #[p0.ag, sv ad1 p1 cap2, iv p2] w0 (fun e w => ∃ (ν_ : Frz) (ad435 : Option Addr) (cap436 : Nat), μ.ext w0.heap.size ν_ ∧ e = .returned (.tuple #[sv ad435 res.1 cap436, iv res.2]) ∧ ArrM ν_ 1 fI ad435 cap436 res.1 ∧ St w0 [fz w0 ν_] w) := by
 obtain ⟨hlow, hS⟩ := hm.init
 have hext := Frz.ext_refl w0.heap.size μ
 rw [plan_Best] at h
 refine fn_enterMW Try.func27 rfl 37 [(0, p0.ag), (1, sv ad1 p1 cap2), (2, iv p2)] rfl rfl (by kernel_rfl) fun a w hw hF => ?_
 replace hS : St w0 [fz w0 μ] w := by rw [hw]; exact hS
 clear hw
 replace hS := hS.noMarks
 refine esr ?_
 refine SK.wi (boxK (t := 31) (fun b4 => [(1, sv ad1 p1 cap2), (2, iv p2), (3, pb b4)]) (p0.ag) p0.ar hF hS (by kernel_rfl) ⟨by kernel_rfl⟩ (by kernel_rfl) (fun _ => ⟨by kernel_rfl⟩) fun b4 w a hF hS => ?_)
 refine SK.wi (allocK (t := 40) (fun b5 => [(1, sv ad1 p1 cap2), (2, iv p2), (3, pb b4), (6, pb b5)]) #[.slice none 0 0] hF hS (by kernel_rfl) ⟨by kernel_rfl⟩ (by kernel_rfl) (fun _ => ⟨by kernel_rfl⟩) fun b5 w a hF hS => ?_)
 refine SK.wi (allocK (t := 28) (fun b6 => [(1, sv ad1 p1 cap2), (2, iv p2), (3, pb b4), (6, pb b5), (7, pb b6)]) #[iv 0] hF hS (by kernel_rfl) ⟨by kernel_rfl⟩ (by kernel_rfl) (fun _ => ⟨by kernel_rfl⟩) fun b6 w a hF hS => ?_)
 refine wfn rfl ?_
 refine eseq ?_
 refine esr ?_
 replace h := bindS h
 obtain ⟨y7, hy7, h⟩ := h
 refine rx 4 [.run [] (Instr.loadAt 31 (pb b4)) (p0.ag), .call [] 22 #[p0.ag, sv ad1 p1 cap2] (iv y7)] 4 [(1, sv ad1 p1 cap2), (2, iv p2), (3, pb b4), (6, pb b5), (7, pb b6), (8, iv y7)] hF (ocons (obN (us := p0.cells) (by kernel_rfl) (fun _ hd => ((hS.later hd).blk (i := 2) rfl).cells rfl)) (ocons (show Ob.ok _ Ext _ _ from fun hk w2 hd => plan_Check_ok F p0 p1 _ ((fun _ => hy7) hk) _ w2 (memOf_at w2) (hA3.mono (FrzAt.le_mem ((hS.later hd).frz (i := 4) rfl hlow)))) onil)) fun a w hF hx => ?_
 replace hS := hS.later hx
 refine wfn rfl ?_
 refine esr ?_
 refine rn 2 2 [(1, sv ad1 p1 cap2), (2, iv p2), (3, pb b4), (6, pb b5), (7, pb b6), (8, iv y7), (16, .bool (y7 != 0))] hF fun a hF => ?_
 refine wfn rfl ?_
 refine econd hF rfl (fun hc => ?_) (fun hc => ?_)
 ·replace h := bif_t h hc
  refine esr ?_
  refine rn 1 1 [(6, pb b5), (7, pb b6), (17, iv y7)] hF fun a hF => ?_
  refine SK.wi (storeK (t := 40) [(6, pb b5), (7, pb b6), (17, iv y7)] 1 0 (.slice none 0 0) #[.slice none 0 0] hF hS rfl (by kernel_rfl) ⟨by kernel_rfl⟩ (by kernel_rfl) (by kernel_rfl) (by kernel_rfl) (by kernel_rfl) ⟨by kernel_rfl⟩ fun w a hF hS => ?_)
  refine SK.wi (storeK (t := 28) [(6, pb b5), (7, pb b6)] 0 0 (iv y7) #[iv y7] hF hS rfl (by kernel_rfl) ⟨by kernel_rfl⟩ (by kernel_rfl) (by kernel_rfl) (by kernel_rfl) (by kernel_rfl) ⟨by kernel_rfl⟩ fun w a hF hS => ?_)
  refine wfn rfl ?_
  refine wpIn_ret (ret_then <| fn_retM (H := [blk b6 28 #[iv y7], blk b5 40 #[.slice none 0 0], blk b4 31 p0.ar, fz w0 μ]) [.cell 6 40, .cell 7 28] [.slice none 0 0, iv y7] hF (St.pick [3, 0, 1, 2, 4] (by decide) hS) rfl fun w hS => ⟨⟨⟨_, rfl, loadVar1 (by kernel_rfl) (hS.cell (i := 1) (j := 0) rfl rfl)⟩, ⟨_, rfl, loadVar1 (by kernel_rfl) (hS.cell (i := 0) (j := 0) rfl rfl)⟩, trivial⟩, ?_⟩)
  have hr_ := Option.some.inj h
  subst hr_
  exact ⟨μ, none, 0, hext, rfl, ArrM.nil, St.pick [3] (by decide) hS⟩
 ·replace h := bif_f h hc
  refine wpIn_skip (norm_then ?_)
  refine eseq ?_
  refine esr ?_
  refine rx 3 [.call [] 50 #[iv p2, iv 1, iv 8] (.bool (plan_in p2 1 8))] 3 [(1, sv ad1 p1 cap2), (2, iv p2), (3, pb b4), (6, pb b5), (7, pb b6), (20, .bool (!(plan_in p2 1 8)))] hF (ocons (show Ob.ok _ Ext _ _ from fun hk w2 hd => plan_in_ok p2 1 8 _ rfl _ w2 (memOf_at w2) ) onil) fun a w hF hx => ?_
  replace hS := hS.later hx
  refine wfn rfl ?_
  refine econd hF rfl (fun hc => ?_) (fun hc => ?_)
  ·replace h := bif_t h hc
   refine esr ?_
   refine SK.wi (storeK (t := 40) [(6, pb b5), (7, pb b6)] 1 0 (.slice none 0 0) #[.slice none 0 0] hF hS rfl (by kernel_rfl) ⟨by kernel_rfl⟩ (by kernel_rfl) (by kernel_rfl) (by kernel_rfl) (by kernel_rfl) ⟨by kernel_rfl⟩ fun w a hF hS => ?_)
   refine SK.wi (storeK (t := 28) [(6, pb b5), (7, pb b6)] 0 0 (iv 3) #[iv 3] hF hS rfl (by kernel_rfl) ⟨by kernel_rfl⟩ (by kernel_rfl) (by kernel_rfl) (by kernel_rfl) (by kernel_rfl) ⟨by kernel_rfl⟩ fun w a hF hS => ?_)
   refine wfn rfl ?_
   refine wpIn_ret (ret_then <| fn_retM (H := [blk b6 28 #[iv 3], blk b5 40 #[.slice none 0 0], blk b4 31 p0.ar, fz w0 μ]) [.cell 6 40, .cell 7 28] [.slice none 0 0, iv 3] hF (St.pick [3, 0, 1, 2, 4] (by decide) hS) rfl fun w hS => ⟨⟨⟨_, rfl, loadVar1 (by kernel_rfl) (hS.cell (i := 1) (j := 0) rfl rfl)⟩, ⟨_, rfl, loadVar1 (by kernel_rfl) (hS.cell (i := 0) (j := 0) rfl rfl)⟩, trivial⟩, ?_⟩)
   have hr_ := Option.some.inj h
   subst hr_
   exact ⟨μ, none, 0, hext, rfl, ArrM.nil, St.pick [3] (by decide) hS⟩
  ·replace h := bif_f h hc
   refine wpIn_skip (norm_then ?_)
   refine esr ?_
   refine rno 2 [.run [] (Instr.loadAt 31 (pb b4)) (p0.ag)] 2 [(2, iv p2), (6, pb b5), (7, pb b6), (21, p0.ag), (22, sv ad1 p1 cap2)] hF (ocons (obN (us := p0.cells) (by kernel_rfl) (fun _ hd => ((hS.at_ hd).blk (i := 2) rfl).cells rfl)) onil) fun a hF => ?_
   replace h := bindS h
   obtain ⟨y9, hy9, h⟩ := h
   refine SK.wi (callK (f := 56) (args := #[p0.ag, sv ad1 p1 cap2]) (R := fun v w2 => ∃ ν10 pv11, μ.ext w.heap.size ν10 ∧ v = .pointer pv11 ∧ PtM ν10 113 Rp113 pv11 y9 ∧ St w [frzR w.heap.size ν10] w2) (fun v8 => [(2, iv p2), (6, pb b5), (7, pb b6), (23, v8)]) hF (by kernel_rfl) ⟨by kernel_rfl⟩ (Calls.mono (plan_newDesk_ok F p0 p1 _ hy9 μ w (hS.frz (i := 4) rfl hlow) hA3) (by rintro e w2 ⟨ν10, pv11, hx13, rfl, hA12, h⟩; exact ⟨_, rfl, ν10, pv11, hx13, rfl, hA12, h⟩)) (fun _ => ⟨by kernel_rfl⟩) ?_)
   rintro v8 w a ⟨ν10, pv11, hx13, rfl, hA12, hQ⟩ hF
   replace hext := Frz.ext_trans hext (Frz.ext_mono hx13 hS.ext.size)
   obtain ⟨hlow, hS⟩ := hS.frzMerge (i := 4) rfl hlow hx13 hQ
   replace hA3 := hA3.mono hx13.1
   replace hS : St w0 [blk b6 28 #[iv 0], blk b5 40 #[.slice none 0 0], blk b4 31 p0.ar, markR ([]), fz w0 ν10] w := hS
   refine rn 1 4 [(2, iv p2), (6, pb b5), (7, pb b6), (9, .pointer pv11)] hF fun a hF => ?_
   refine wfn rfl ?_
   have hj228 := Frz.le_refl ν10
   refine ecut (fun a w => ∃ (l223 : (List Int)) (x225 : Int) (ν220 : Frz) (ad221 : Option Addr) (cap222 : Nat) (Ds226 : List Nat), Fr 37 (marks Ds226) [(6, pb b5), (7, pb b6)] a ∧ St w0 [blk b6 28 #[iv x225], blk b5 40 #[sv ad221 l223 cap222], blk b4 31 p0.ar, markR Ds226, fz w0 ν220] w ∧ (ArrM ν220 1 fI ad221 cap222 l223) ∧ (ν10.le ν220) ∧ (μ.ext w0.heap.size ν220) ∧ (FrzIn w0 ν220) ∧ plan_Best_K1 l223 x225 = some res) ?_ ?_
   ·skip
    refine esr ?_
    refine rn 1 1 [(2, iv p2), (6, pb b5), (7, pb b6), (9, .pointer pv11), (10, iv 1)] hF fun a hF => ?_
    refine wfn rfl ?_
    refine wpIn_block ?_
    have hj372 := Frz.le_refl ν10
    refine eloop (fun n_ a w => ∃ (l366 : (List Int)) (x368 : Int) (x369 : Int) (ν363 : Frz) (ad364 : Option Addr) (cap365 : Nat) (Ds370 : List Nat), Fr 37 (marks Ds370) [(2, iv p2), (6, pb b5), (7, pb b6), (9, .pointer pv11), (10, iv x369)] a ∧ St w0 [blk b6 28 #[iv x368], blk b5 40 #[sv ad364 l366 cap365], blk b4 31 p0.ar, markR Ds370, fz w0 ν363] w ∧ (ArrM ν363 1 fI ad364 cap365 l366) ∧ (ν10.le ν363) ∧ (μ.ext w0.heap.size ν363) ∧ (FrzIn w0 ν363) ∧ plan_Best_L2 F p2 y9 n_ l366 x368 x369 = some res) F ⟨[], 0, 1, ν10, none, 0, ([]), hF.sub (by kernel_rfl), St.pick [0, 1, 2, 3, 4] (by decide) hS, ArrM.nil, hj372, hext, hlow, h⟩ ?_
    clear hj372
    rintro n_ a w ⟨l366, x368, x369, ν363, ad364, cap365, Ds370, hF, hS, hA367, hle371, hext, hlow, h⟩
    rcases n_ with _ | n_
    ·cases (show (none : Option ((List Int) × Int)) = some res from h)
    replace hA3 := hA3.mono hle371
    replace hA12 := hA12.mono Rp113.mono hle371
    replace hj228 := Frz.le_trans hj228 hle371
    obtain ⟨k2, hk2⟩ : ∃ k, k = plan_Best_L2 F p2 y9 n_ := ⟨_, rfl⟩
    replace h : plan_Best_B2 F p2 y9 k2 l366 x368 x369 = some res := by rw [hk2]; exact h
    rw [plan_Best_B2] at h
    refine eseq ?_
    refine esr ?_
    refine rn 3 3 [(2, iv p2), (6, pb b5), (7, pb b6), (9, .pointer pv11), (10, iv x369), (26, .bool (decide (x369 ≤ p2)))] hF fun a hF => ?_
    refine wfn rfl ?_
    refine econd hF rfl (fun hc => ?_) (fun hc => ?_)
    ·replace h := bif_t h hc
     refine wpIn_skip (norm_then ?_)
     refine eseq ?_
     refine wpIn_block ?_
     refine esr ?_
     refine rn 2 2 [(2, iv p2), (6, pb b5), (7, pb b6), (9, .pointer pv11), (10, iv x369), (29, .pointer pv11), (30, iv x369)] hF fun a hF => ?_
     refine SK.wi (callK (f := 57) (args := #[.pointer pv11, iv x369]) (R := fun v w2 => ∃ b374 b375, v = .func (.func 83) #[] #[pb b374, pb b375] ∧ St w [blk b374 100 #[.pointer pv11], blk b375 3 #[iv x369]] w2) (fun v373 => [(2, iv p2), (6, pb b5), (7, pb b6), (9, .pointer pv11), (10, iv x369), (31, v373)]) hF (by kernel_rfl) ⟨by kernel_rfl⟩ (Calls.mono (pplan_desk_begun_ok y9 x369 _ rfl (memOf w) w (memOf_at w) (hA12.mono Rp113.mono (FrzAt.le_mem (hS.frz (i := 4) rfl hlow)))) (by rintro e w2 ⟨b374, b375, rfl, h⟩; exact ⟨_, rfl, b374, b375, rfl, h⟩)) (fun _ => ⟨by kernel_rfl⟩) ?_)
     rintro v373 w a ⟨b374, b375, rfl, hQ⟩ hF
     replace hS : St w0 [blk b374 100 #[.pointer pv11], blk b375 3 #[iv x369], blk b6 28 #[iv x368], blk b5 40 #[sv ad364 l366 cap365], blk b4 31 p0.ar, markR Ds370, fz w0 ν363] w := hS.madeL hQ
     refine wfn rfl ?_
     refine wpIn_block ?_
     obtain ⟨ν376, hx377, hlow, hS, hz378⟩ := hS.freeze (i := 6) (j := 0) rfl rfl (by decide) hlow
     replace hA3 := hA3.mono hx377.1
     replace hA12 := hA12.mono Rp113.mono hx377.1
     replace hA367 := hA367.mono hx377.1
     replace hj228 := Frz.le_trans hj228 hx377.1
     replace hle371 := Frz.le_trans hle371 hx377.1
     replace hext := Frz.ext_trans hext hx377
     replace hS : St w0 [blk b375 3 #[iv x369], blk b6 28 #[iv x368], blk b5 40 #[sv ad364 l366 cap365], blk b4 31 p0.ar, markR Ds370, fz w0 ν376] w := hS
     have hB379 : BlkM ν376 b374 100 #[.pointer pv11] := hz378
     obtain ⟨ν380, hx381, hlow, hS, hz382⟩ := hS.freeze (i := 5) (j := 0) rfl rfl (by decide) hlow
     replace hA3 := hA3.mono hx381.1
     replace hA12 := hA12.mono Rp113.mono hx381.1
     replace hA367 := hA367.mono hx381.1
     replace hB379 := hB379.mono hx381.1
     replace hj228 := Frz.le_trans hj228 hx381.1
     replace hle371 := Frz.le_trans hle371 hx381.1
     replace hext := Frz.ext_trans hext hx381
     replace hS : St w0 [blk b6 28 #[iv x368], blk b5 40 #[sv ad364 l366 cap365], blk b4 31 p0.ar, markR Ds370, fz w0 ν380] w := hS
     have hB383 : BlkM ν380 b375 3 #[iv x369] := hz382
     replace h := bindS h
     obtain ⟨r430, hr430, h⟩ := h
     refine rangeG (gf := 83) (lb := #[pb b374, pb b375]) (fun l => #[.func (.yield l) #[] #[], pb b374, pb b375]) (fun H1 => ∃ (ν_n : Frz) (g_n : (Option Addr × Nat × Unit)), H1 = [blk b6 28 #[iv r430.1.2.1], blk b5 40 #[.slice g_n.1 r430.1.1.length g_n.2.1], blk b4 31 p0.ar, markR Ds370, fz w0 ν_n] ∧ ν380.ext w0.heap.size ν_n ∧ FrzIn w0 ν_n ∧ r430.2 = true ∧ (ArrM ν_n 1 fI g_n.1 g_n.2.1 r430.1.1)) (fun c H1 => ∃ (ν_n : Frz) (g_n : (Option Addr × Nat × Unit)), H1 = [blk b6 28 #[iv r430.1.2.1], blk b5 40 #[.slice g_n.1 r430.1.1.length g_n.2.1], blk b4 31 p0.ar, markR Ds370, fz w0 ν_n] ∧ ν380.ext w0.heap.size ν_n ∧ FrzIn w0 ν_n ∧ r430.2 = false ∧ c = plan_Best_c3 (r430.1.2.2) ∧ (ArrM ν_n 1 fI g_n.1 g_n.2.1 r430.1.1)) (M := [(2, iv p2), (6, pb b5), (7, pb b6), (9, .pointer pv11), (10, iv x369), (31, .func (.func 83) #[] #[pb b374, pb b375])]) (hF.sub (by kernel_rfl)) rfl hS (fun _ => rfl) (fun _ => by kernel_rfl) ?_ ?_ ?_
     ·replace hF : Fr 37 (marks Ds370) [(2, iv p2), (6, pb b5), (7, pb b6), (9, .pointer pv11), (10, iv x369), (31, .func (.func 83) #[] #[pb b374, pb b375])] a := hF.sub (by kernel_rfl)
      intro fn_ l3_ D3_ rec3 w hrec3 hS
      replace hS : St w0 [objR l3_ (rec3 .ready none), objR D3_ (.deferred (some [])), blk b6 28 #[iv x368], blk b5 40 #[sv ad364 l366 cap365], blk b4 31 p0.ar, markR Ds370, fz w0 ν380] w := hS
      refine Calls.mono (pplan_desk_begun_1_ok F y9 x369 (plan_Best_Y3 F) (l366, x368, 0) _ hr430 l3_ ν380 w0 w (fun (s_r : ((List Int) × Int × Nat)) (b_r : Bool) (g_r : (Option Addr × Nat × Unit)) => [objR l3_ (rec3 (bif b_r then .ready else .done) (bif b_r then none else some (plan_Best_c3 (s_r.2.2)))), objR D3_ (.deferred (some [])), blk b6 28 #[iv s_r.2.1], blk b5 40 #[.slice g_r.1 s_r.1.length g_r.2.1], blk b4 31 p0.ar, markR Ds370]) (fun (s_r : ((List Int) × Int × Nat)) (b_r : Bool) (g_r : (Option Addr × Nat × Unit)) (ν_r : Frz) => (ArrM ν_r 1 fI g_r.1 g_r.2.1 s_r.1) ∧ True) (fun _ _ _ _ _ h hle => ⟨h.1.mono hle, trivial⟩) ?_ (ad364, cap365, ()) [] hlow ⟨hA367, trivial⟩ (St.pickT (A := [objR l3_ (rec3 .ready none), objR D3_ (.deferred (some [])), blk b6 28 #[iv x368], blk b5 40 #[sv ad364 l366 cap365], blk b4 31 p0.ar, markR Ds370, fz w0 ν380]) (T := []) [6, 0, 1, 2, 3, 4, 5] (by decide) (by simpa using hS)) hB379 hA12 hB383) ?_
      ·rintro s_r x_ q_r h ν_r g_r G_r w pv420 ad421 cap422 ad423 cap424 hxv hlow hP hA425 hA426 hA427 hS
       obtain ⟨hA417, -⟩ := hP
       replace hA3 := hA3.mono hxv.1
       replace hA12 := hA12.mono Rp113.mono hxv.1
       replace hA367 := hA367.mono hxv.1
       replace hB379 := hB379.mono hxv.1
       replace hB383 := hB383.mono hxv.1
       replace hj228 := Frz.le_trans hj228 hxv.1
       replace hle371 := Frz.le_trans hle371 hxv.1
       have hxr := Frz.ext_refl w0.heap.size ν_r
       replace hext := Frz.ext_trans hext hxv
       replace hS : St w0 (objR l3_ (rec3 .ready none) :: objR D3_ (.deferred (some [])) :: blk b6 28 #[iv s_r.2.1] :: blk b5 40 #[.slice g_r.1 s_r.1.length g_r.2.1] :: blk b4 31 p0.ar :: markR Ds370 :: fz w0 ν_r :: G_r) w := St.pickT (A := [fz w0 ν_r, objR l3_ (rec3 .ready none), objR D3_ (.deferred (some [])), blk b6 28 #[iv s_r.2.1], blk b5 40 #[.slice g_r.1 s_r.1.length g_r.2.1], blk b4 31 p0.ar, markR Ds370]) (T := G_r) [1, 2, 3, 4, 5, 6, 0] (by decide) hS
       rw [plan_Best_Y3] at h
       refine round_ (rec := rec3) hrec3 [(32, .agg #[.pointer pv420, sv ad421 x_.jobs cap422, sv ad423 x_.at_ cap424, iv x_.done])] [(6, pb b5), (7, pb b6), (32, .agg #[.pointer pv420, sv ad421 x_.jobs cap422, sv ad423 x_.at_ cap424, iv x_.done])] hF (by simp) rfl rfl (by kernel_rfl) hS ?_
       intro a hF
       refine WI.region ?_
       refine SK.wi (allocK (t := 102) (fun b428 => [(6, pb b5), (7, pb b6), (11, pb b428), (32, .agg #[.pointer pv420, sv ad421 x_.jobs cap422, sv ad423 x_.at_ cap424, iv x_.done])]) #[.pointer none, .slice none 0 0, .slice none 0 0, iv 0] hF hS (by kernel_rfl) ⟨by kernel_rfl⟩ (by kernel_rfl) (fun _ => ⟨by kernel_rfl⟩) fun b428 w a hF hS => ?_)
       refine SK.wi (storeK (t := 102) [(6, pb b5), (7, pb b6), (11, pb b428)] 0 0 (.agg #[.pointer pv420, sv ad421 x_.jobs cap422, sv ad423 x_.at_ cap424, iv x_.done]) #[.pointer pv420, sv ad421 x_.jobs cap422, sv ad423 x_.at_ cap424, iv x_.done] hF hS rfl (by kernel_rfl) ⟨by kernel_rfl⟩ (by kernel_rfl) (by kernel_rfl) (by kernel_rfl) (by kernel_rfl) ⟨by kernel_rfl⟩ fun w a hF hS => ?_)
       refine wfn rfl ?_
       refine ⟨_, St.pickT (A := [blk b428 102 #[.pointer pv420, sv ad421 x_.jobs cap422, sv ad423 x_.at_ cap424, iv x_.done], objR l3_ (rec3 .ready none), objR D3_ (.deferred (some [])), blk b6 28 #[iv s_r.2.1], blk b5 40 #[.slice g_r.1 s_r.1.length g_r.2.1], blk b4 31 p0.ar, markR Ds370, fz w0 ν_r]) (T := G_r) [1, 0, 2, 3, 4, 5, 6, 7] (by decide) hS, fun w hS => ?_⟩
       refine wpIn_block ?_
       refine esr ?_
       replace h := bindS h
       obtain ⟨y429, hy429, h⟩ := h
       refine rx 2 [.run [] (Instr.loadAt 102 (pb b428)) (.agg #[.pointer pv420, sv ad421 x_.jobs cap422, sv ad423 x_.at_ cap424, iv x_.done]), .call [] 58 #[.agg #[.pointer pv420, sv ad421 x_.jobs cap422, sv ad423 x_.at_ cap424, iv x_.done]] (.bool y429)] 2 [(6, pb b5), (7, pb b6), (11, pb b428), (34, .bool y429)] hF (ocons (obN (us := [.pointer pv420, sv ad421 x_.jobs cap422, sv ad423 x_.at_ cap424, iv x_.done]) (by kernel_rfl) (fun _ hd => ((hS.later hd).blk (i := 1) rfl).cells rfl)) (ocons (show Ob.ok _ Ext _ _ from fun hk w2 hd => plan_line_kept_ok F x_ _ ((fun _ => hy429) hk) _ w2 (memOf_at w2) (hA425.mono Rp113.mono (FrzAt.le_mem ((hS.later hd).frz (i := 7) rfl hlow))) (hA426.mono (FrzAt.le_mem ((hS.later hd).frz (i := 7) rfl hlow))) (hA427.mono (FrzAt.le_mem ((hS.later hd).frz (i := 7) rfl hlow)))) onil)) fun a w hF hx => ?_
       replace hS := hS.later hx
       refine wfn rfl ?_
       refine econd hF rfl (fun hc => ?_) (fun hc => ?_)
       ·replace h := bif_t h hc
        refine esr ?_
        refine rno 2 [.run [] (Instr.loadAt 40 (.pointer (some ⟨b428, 1, none⟩))) (sv ad421 x_.jobs cap422)] 2 [(6, pb b5), (7, pb b6), (36, sv ad421 x_.jobs cap422)] hF (ocons (ob1 (by kernel_rfl) (fun _ hd => (hS.at_ hd).cell (i := 1) (j := 1) rfl rfl)) onil) fun a hF => ?_
        refine SK.wi (storeK (t := 40) [(6, pb b5), (7, pb b6)] 4 0 (sv ad421 x_.jobs cap422) #[sv ad421 x_.jobs cap422] hF hS rfl (by kernel_rfl) ⟨by kernel_rfl⟩ (by kernel_rfl) (by kernel_rfl) (by kernel_rfl) (by kernel_rfl) ⟨by kernel_rfl⟩ fun w a hF hS => ?_)
        refine SK.wi (storeK (t := 28) [(6, pb b5), (7, pb b6)] 3 0 (iv 0) #[iv 0] hF hS rfl (by kernel_rfl) ⟨by kernel_rfl⟩ (by kernel_rfl) (by kernel_rfl) (by kernel_rfl) (by kernel_rfl) ⟨by kernel_rfl⟩ fun w a hF hS => ?_)
        refine wfn rfl ?_
        refine wpIn_ret (ret_block ?_)
        have hr_ := Option.some.inj h
        subst hr_
        refine ⟨_, St.pickT (A := [objR l3_ (rec3 .busy none), blk b428 102 #[.pointer pv420, sv ad421 x_.jobs cap422, sv ad423 x_.at_ cap424, iv x_.done], objR D3_ (.deferred (some [])), blk b6 28 #[iv 0], blk b5 40 #[sv ad421 x_.jobs cap422], blk b4 31 p0.ar, markR Ds370, fz w0 ν_r]) (T := G_r) [0, 1, 2, 3, 4, 5, 6, 7] (by decide) hS, fun w hS => ⟨rfl, ν_r, (ad421, cap422, ()), hxr, hlow, ⟨hA426, trivial⟩, St.pickT (A := [objR l3_ (rec3 .done (some (Code.ret))), blk b428 102 #[.pointer pv420, sv ad421 x_.jobs cap422, sv ad423 x_.at_ cap424, iv x_.done], objR D3_ (.deferred (some [])), blk b6 28 #[iv 0], blk b5 40 #[sv ad421 x_.jobs cap422], blk b4 31 p0.ar, markR Ds370, fz w0 ν_r]) (T := G_r) [7, 0, 2, 3, 4, 5, 6] (by decide) hS⟩⟩
       ·replace h := bif_f h hc
        refine wpIn_skip (norm_block ?_)
        have hr_ := Option.some.inj h
        subst hr_
        refine ⟨_, St.pickT (A := [objR l3_ (rec3 .busy none), blk b428 102 #[.pointer pv420, sv ad421 x_.jobs cap422, sv ad423 x_.at_ cap424, iv x_.done], objR D3_ (.deferred (some [])), blk b6 28 #[iv s_r.2.1], blk b5 40 #[.slice g_r.1 s_r.1.length g_r.2.1], blk b4 31 p0.ar, markR Ds370, fz w0 ν_r]) (T := G_r) [0, 1, 2, 3, 4, 5, 6, 7] (by decide) hS, fun w hS => ⟨rfl, ν_r, (g_r.1, g_r.2.1, ()), hxr, hlow, ⟨hA417, trivial⟩, St.pickT (A := [objR l3_ (rec3 .ready none), blk b428 102 #[.pointer pv420, sv ad421 x_.jobs cap422, sv ad423 x_.at_ cap424, iv x_.done], objR D3_ (.deferred (some [])), blk b6 28 #[iv s_r.2.1], blk b5 40 #[.slice g_r.1 s_r.1.length g_r.2.1], blk b4 31 p0.ar, markR Ds370, fz w0 ν_r]) (T := G_r) [7, 0, 2, 3, 4, 5, 6] (by decide) hS⟩⟩
      ·rintro e w2 ⟨ν_n, g_n, hxn, hlown, hPn, rfl, hSn⟩
       refine ⟨_, rfl, ?_⟩
       obtain ⟨nhA417, -⟩ := hPn
       rcases Bool.eq_false_or_eq_true r430.2 with hb_ | hb_
       ·rw [hb_] at hSn
        refine .inl ⟨_, ⟨ν_n, g_n, rfl, hxn, hlown, hb_, nhA417⟩, (by have := St.pickT (A := [fz w0 ν_n, objR l3_ (rec3 .ready none), objR D3_ (.deferred (some [])), blk b6 28 #[iv r430.1.2.1], blk b5 40 #[.slice g_n.1 r430.1.1.length g_n.2.1], blk b4 31 p0.ar, markR Ds370]) (T := []) [1, 2, 3, 4, 5, 6, 0] (by decide) hSn; simpa using this)⟩
       ·rw [hb_] at hSn
        refine .inr ⟨_, _, ⟨ν_n, g_n, rfl, hxn, hlown, hb_, rfl, nhA417⟩, (by have := St.pickT (A := [fz w0 ν_n, objR l3_ (rec3 .done (some (plan_Best_c3 (r430.1.2.2)))), objR D3_ (.deferred (some [])), blk b6 28 #[iv r430.1.2.1], blk b5 40 #[.slice g_n.1 r430.1.1.length g_n.2.1], blk b4 31 p0.ar, markR Ds370]) (T := []) [1, 2, 3, 4, 5, 6, 0] (by decide) hSn; simpa using this)⟩
     ·rintro D433 a w _ ⟨ν432, g431, rfl, hxn, hlow, hb_, hA417⟩ hF hS
      replace hA3 := hA3.mono hxn.1
      replace hA12 := hA12.mono Rp113.mono hxn.1
      replace hA367 := hA367.mono hxn.1
      replace hB379 := hB379.mono hxn.1
      replace hB383 := hB383.mono hxn.1
      replace hj228 := Frz.le_trans hj228 hxn.1
      replace hle371 := Frz.le_trans hle371 hxn.1
      replace hext := Frz.ext_trans hext hxn
      replace hS : St w0 [objR D433 (.deferred (some [])), blk b6 28 #[iv r430.1.2.1], blk b5 40 #[.slice g431.1 r430.1.1.length g431.2.1], blk b4 31 p0.ar, markR Ds370, fz w0 ν432] w := hS
      replace hS := St.mark (St.pick [0, 4, 1, 2, 3, 5] (by decide) hS)
      replace hS : St w0 [markR (D433 :: Ds370), blk b6 28 #[iv r430.1.2.1], blk b5 40 #[.slice g431.1 r430.1.1.length g431.2.1], blk b4 31 p0.ar, fz w0 ν432] w := hS
      replace hF : Fr 37 (marks (D433 :: Ds370)) [(2, iv p2), (6, pb b5), (7, pb b6), (9, .pointer pv11), (10, iv x369), (31, .func (.func 83) #[] #[pb b374, pb b375])] a := hF
      replace h := bif_t h hb_
      refine norm_block <| norm_block <| norm_then <| ?_
      replace hF : Fr 37 (marks (D433 :: Ds370)) [(2, iv p2), (6, pb b5), (7, pb b6), (9, .pointer pv11), (10, iv x369)] a := hF.sub (by kernel_rfl)
      refine WI.region ?_
      replace h := bindS h
      obtain ⟨x434, hx434, h⟩ := h
      refine rno 3 [.run [] (binOp .add 3 (iv x369) (iv 1)) (iv x434)] 3 [(2, iv p2), (6, pb b5), (7, pb b6), (9, .pointer pv11), (10, iv x434)] hF (ocons (obAddC (fun _ => hx434)) onil) fun a hF => ?_
      refine wfn rfl ?_
      rw [hk2] at h
      exact ⟨n_, Nat.lt_succ_self _, r430.1.1, r430.1.2.1, x434, ν432, g431.1, g431.2.1, (D433 :: Ds370), hF.sub (by kernel_rfl), St.pick [1, 2, 3, 0, 4] (by decide) hS, hA417, hle371, hext, hlow, h⟩
     rintro D433 _ a w _ ⟨ν432, g431, rfl, hxn, hlow, hb_, rfl, hA417⟩ hF hS
     replace hA3 := hA3.mono hxn.1
     replace hA12 := hA12.mono Rp113.mono hxn.1
     replace hA367 := hA367.mono hxn.1
     replace hB379 := hB379.mono hxn.1
     replace hB383 := hB383.mono hxn.1
     replace hj228 := Frz.le_trans hj228 hxn.1
     replace hle371 := Frz.le_trans hle371 hxn.1
     replace hext := Frz.ext_trans hext hxn
     replace hS : St w0 [objR D433 (.deferred (some [])), blk b6 28 #[iv r430.1.2.1], blk b5 40 #[.slice g431.1 r430.1.1.length g431.2.1], blk b4 31 p0.ar, markR Ds370, fz w0 ν432] w := hS
     replace hS := St.mark (St.pick [0, 4, 1, 2, 3, 5] (by decide) hS)
     replace hS : St w0 [markR (D433 :: Ds370), blk b6 28 #[iv r430.1.2.1], blk b5 40 #[.slice g431.1 r430.1.1.length g431.2.1], blk b4 31 p0.ar, fz w0 ν432] w := hS
     replace hF : Fr 37 (marks (D433 :: Ds370)) [(2, iv p2), (6, pb b5), (7, pb b6), (9, .pointer pv11), (10, iv x369), (31, .func (.func 83) #[] #[pb b374, pb b375])] a := hF
     replace h := bif_f h hb_
     show WP _ _ Code.ret _ a w
     refine wpIn_ret (ret_block <| ret_block <| ret_then <| ret_then <| ret_block <| ret_then <| fn_retM (H := [blk b6 28 #[iv r430.1.2.1], blk b5 40 #[.slice g431.1 r430.1.1.length g431.2.1], blk b4 31 p0.ar, fz w0 ν432]) [.cell 6 40, .cell 7 28] [.slice g431.1 r430.1.1.length g431.2.1, iv r430.1.2.1] hF (St.pick [0, 1, 2, 3, 4] (by decide) hS) rfl fun w hS => ⟨⟨⟨_, rfl, loadVar1 (by kernel_rfl) (hS.cell (i := 1) (j := 0) rfl rfl)⟩, ⟨_, rfl, loadVar1 (by kernel_rfl) (hS.cell (i := 0) (j := 0) rfl rfl)⟩, trivial⟩, ?_⟩)
     have hr_ := Option.some.inj h
     subst hr_
     exact ⟨ν432, g431.1, g431.2.1, hext, rfl, hA417, St.pick [3] (by decide) hS⟩
    ·replace h := bif_f h hc
     refine wpIn_exit (exit_then <| exit_then <| exit_hit <| norm_then ?_)
     exact ⟨l366, x368, ν363, ad364, cap365, Ds370, hF.sub (by kernel_rfl), St.pick [0, 1, 2, 3, 4] (by decide) hS, hA367, hj228, hext, hlow, h⟩
   clear hj228
   rintro a w ⟨l223, x225, ν220, ad221, cap222, Ds226, hF, hS, hA224, hle227, hext, hlow, h⟩
   replace hA3 := hA3.mono hle227
   replace hA12 := hA12.mono Rp113.mono hle227
   rw [plan_Best_K1] at h
   refine esr ?_
   refine SK.wi (storeK (t := 40) [(6, pb b5), (7, pb b6)] 1 0 (.slice none 0 0) #[.slice none 0 0] hF hS rfl (by kernel_rfl) ⟨by kernel_rfl⟩ (by kernel_rfl) (by kernel_rfl) (by kernel_rfl) (by kernel_rfl) ⟨by kernel_rfl⟩ fun w a hF hS => ?_)
   refine SK.wi (storeK (t := 28) [(6, pb b5), (7, pb b6)] 0 0 (iv 4) #[iv 4] hF hS rfl (by kernel_rfl) ⟨by kernel_rfl⟩ (by kernel_rfl) (by kernel_rfl) (by kernel_rfl) (by kernel_rfl) ⟨by kernel_rfl⟩ fun w a hF hS => ?_)
   refine wfn rfl ?_
   refine wpIn_ret (fn_retM (H := [blk b6 28 #[iv 4], blk b5 40 #[.slice none 0 0], blk b4 31 p0.ar, fz w0 ν220]) [.cell 6 40, .cell 7 28] [.slice none 0 0, iv 4] hF (St.pick [3, 0, 1, 2, 4] (by decide) hS) rfl fun w hS => ⟨⟨⟨_, rfl, loadVar1 (by kernel_rfl) (hS.cell (i := 1) (j := 0) rfl rfl)⟩, ⟨_, rfl, loadVar1 (by kernel_rfl) (hS.cell (i := 0) (j := 0) rfl rfl)⟩, trivial⟩, ?_⟩)
   have hr_ := Option.some.inj h
   subst hr_
   exact ⟨ν220, none, 0, hext, rfl, ArrM.nil, St.pick [3] (by decide) hS⟩

theorem pplan_desk_cuts_1_ok {σ γ : Type} (F : Nat) (c0_ : (Option plan_desk)) (c1_ : Int) (body : σ → (plan_line × Int) → Option (σ × Bool)) (s_ : σ) (res : σ × Bool) (h : pplan_desk_cuts_1 F c0_ c1_ body s_ = some res) (l_ : Nat) (μ : Frz) (w0 w1 : World) (RC : σ → Bool → γ → List Res) (PC : σ → Bool → γ → Frz → Prop) (hPm : ∀ s b g μ ν, PC s b g μ → μ.le ν → PC s b g ν) (hy : ∀ (s : σ) (x : (plan_line × Int)) (q : σ × Bool), body s x = some q → ∀ (ν : Frz) (g : γ) (G : List Res) (w : World) (pv_1 : Option Addr) (ad_2 : Option Addr) (cap_3 : Nat) (ad_4 : Option Addr) (cap_5 : Nat), μ.ext w0.heap.size ν → FrzIn w0 ν → PC s true g ν → PtM ν 113 Rp113 pv_1 x.1.desk → ArrM ν 1 fI ad_2 cap_3 x.1.jobs → ArrM ν 1 fI ad_4 cap_5 x.1.at_ → St w0 (fz w0 ν :: (RC s true g ++ G)) w → Eng.Yields Try.prog l_ #[.agg #[.pointer pv_1, sv ad_2 x.1.jobs cap_3, sv ad_4 x.1.at_ cap_5, iv x.1.done], iv x.2] w (fun c w2 => c = q.2 ∧ ∃ ν2 g2, ν.ext w0.heap.size ν2 ∧ FrzIn w0 ν2 ∧ PC q.1 q.2 g2 ν2 ∧ St w0 (fz w0 ν2 :: (RC q.1 q.2 g2 ++ G)) w2)) (g_ : γ) (G_ : List Res) (hlow : FrzIn w0 μ) (hP : PC s_ true g_ μ) (hS : St w0 (fz w0 μ :: (RC s_ true g_ ++ G_)) w1) {cb1 : Nat} {cb2 : Nat} {pv1 : Option Addr} (hcb1 : BlkM μ cb1 100 #[.pointer pv1]) (hA2 : PtM μ 113 Rp113 pv1 c0_) (hcb2 : BlkM μ cb2 3 #[iv c1_]) : Calls Try.prog 87 #[.func (.yield l_) #[] #[], pb cb1, pb cb2] w1 (fun e w => ∃ (ν_ : Frz) (g2_ : γ), μ.ext w0.heap.size ν_ ∧ FrzIn w0 ν_ ∧ PC res.1 res.2 g2_ ν_ ∧ e = .returned (.tuple #[]) ∧ St w0 (fz w0 ν_ :: (RC res.1 res.2 g2_ ++ G_)) w) := by
 rw [pplan_desk_cuts_1] at h
 have hext := Frz.ext_refl w0.heap.size μ
 refine fn_enterW Try.func87 rfl 10 [(0, .func (.yield l_) #[] #[]), (1, pb cb1), (2, pb cb2)] rfl rfl (by kernel_rfl) fun a w hw hF => ?_
 replace hS : St w0 (fz w0 μ :: (RC s_ true g_ ++ G_)) w := by rw [hw]; exact hS
 clear hw
 refine esr ?_
 refine SK.wi (boxK (t := 144) (fun b3 => [(1, pb cb1), (2, pb cb2), (3, pb b3)]) (.func (.yield l_) #[] #[]) #[.func (.yield l_) #[] #[]] hF hS (by kernel_rfl) ⟨by kernel_rfl⟩ (by kernel_rfl) (fun _ => ⟨by kernel_rfl⟩) fun b3 w a hF hS => ?_)
 refine wfn rfl ?_
 refine esr ?_
 refine SK.wi (allocK (t := 141) (fun b4 => [(1, pb cb1), (2, pb cb2), (3, pb b3), (4, pb b4)]) #[.nilFunc] hF hS (by kernel_rfl) ⟨by kernel_rfl⟩ (by kernel_rfl) (fun _ => ⟨by kernel_rfl⟩) fun b4 w a hF hS => ?_)
 refine wfn rfl ?_
 refine esr ?_
 refine rn 1 1 [(1, pb cb1), (4, pb b4), (5, .func (.func 88) #[] #[pb cb1, pb b3, pb cb2, pb b4])] hF fun a hF => ?_
 refine SK.wi (storeK (t := 141) [(1, pb cb1), (4, pb b4)] 0 0 (.func (.func 88) #[] #[pb cb1, pb b3, pb cb2, pb b4]) #[.func (.func 88) #[] #[pb cb1, pb b3, pb cb2, pb b4]] hF hS rfl (by kernel_rfl) ⟨by kernel_rfl⟩ (by kernel_rfl) (by kernel_rfl) (by kernel_rfl) (by kernel_rfl) ⟨by kernel_rfl⟩ fun w a hF hS => ?_)
 refine wfn rfl ?_
 refine WI.region ?_
 refine rno 3 [.run [] (Instr.loadAt 141 (pb b4)) (.func (.func 88) #[] #[pb cb1, pb b3, pb cb2, pb b4]), .run [] (Instr.loadAt 100 (pb cb1)) (.pointer pv1)] 3 [(6, .func (.func 88) #[] #[pb cb1, pb b3, pb cb2, pb b4]), (8, .agg #[.pointer pv1, .slice none 0 0, .slice none 0 0, iv 0])] hF (ocons (ob1 (by kernel_rfl) (fun _ hd => (hS.at_ hd).cell (i := 0) (j := 0) rfl rfl)) (ocons (ob1 (by kernel_rfl) (fun _ hd => (hcb1.blk ((hS.at_ hd).frz (i := 2) rfl hlow)).cell1 (j := 0) rfl)) onil)) fun a hF => ?_
 obtain ⟨ν5, hx6, hlow, hS, hz7⟩ := hS.freeze (i := 2) (j := 1) rfl rfl (by decide) hlow
 replace hcb1 := hcb1.mono hx6.1
 replace hA2 := hA2.mono Rp113.mono hx6.1
 replace hcb2 := hcb2.mono hx6.1
 replace hP := hPm _ _ _ _ _ hP hx6.1
 replace hext := Frz.ext_trans hext hx6
 replace hS : St w0 (blk b4 141 #[.func (.func 88) #[] #[pb cb1, pb b3, pb cb2, pb b4]] :: fz w0 ν5 :: (RC s_ true g_ ++ G_)) w := hS
 have hB8 : BlkM ν5 b3 144 #[.func (.yield l_) #[] #[]] := hz7
 obtain ⟨ν9, hx10, hlow, hS, hz11⟩ := hS.freeze (i := 1) (j := 0) rfl rfl (by decide) hlow
 replace hcb1 := hcb1.mono hx10.1
 replace hA2 := hA2.mono Rp113.mono hx10.1
 replace hcb2 := hcb2.mono hx10.1
 replace hP := hPm _ _ _ _ _ hP hx10.1
 replace hB8 := hB8.mono hx10.1
 replace hext := Frz.ext_trans hext hx10
 replace hS : St w0 (fz w0 ν9 :: (RC s_ true g_ ++ G_)) w := hS
 have hB12 : BlkM ν9 b4 141 #[.func (.func 88) #[] #[pb cb1, pb b3, pb cb2, pb b4]] := hz11
 replace h := bindS h
 obtain ⟨y13, hy13, h⟩ := h
 refine SK.wi (callK (f := 88) (args := #[.agg #[.pointer pv1, .slice none 0 0, .slice none 0 0, iv 0], pb cb1, pb b3, pb cb2, pb b4]) (R := fun v w2 => ∃ (ν_ : Frz) (g2_ : γ), ν9.ext w0.heap.size ν_ ∧ FrzIn w0 ν_ ∧ PC y13.1 y13.2.1 g2_ ν_ ∧ v = .bool y13.2.2 ∧ St w0 (fz w0 ν_ :: (RC y13.1 y13.2.1 g2_ ++ (G_ ++ []))) w2) (fun v17 => []) hF (by kernel_rfl) ⟨by kernel_rfl⟩ (Calls.mono (pplan_desk_cuts_1_1_ok F (plan_line.mk c0_ ([] : (List Int)) ([] : (List Int)) 0) c0_ c1_ body s_ _ hy13 l_ ν9 w0 w RC PC hPm (fun s x q hb ν g G w a0_ a1_ a2_ a3_ a4_ hx => hy s x q hb ν g G w a0_ a1_ a2_ a3_ a4_ (Frz.ext_trans hext hx)) g_ (G_ ++ []) hlow hP (St.rot [] hS) hA2 ArrM.nil ArrM.nil hcb1 hA2 hB8 hcb2 hB12) (by rintro e w2 ⟨n1, n2, n3, n4, n5, rfl, n6⟩; exact ⟨_, rfl, n1, n2, n3, n4, n5, rfl, n6⟩)) (fun _ => ⟨by kernel_rfl⟩) ?_)
 rintro v17 w a ⟨ν14, g15, hx16, hlow, hP, rfl, hS⟩ hF
 replace hS := St.unrot [] hS
 replace hext := Frz.ext_trans hext hx16
 replace hcb1 := hcb1.mono hx16.1
 replace hA2 := hA2.mono Rp113.mono hx16.1
 replace hcb2 := hcb2.mono hx16.1
 replace hB8 := hB8.mono hx16.1
 replace hB12 := hB12.mono hx16.1
 replace hS : St w0 (fz w0 ν14 :: (RC y13.1 (y13.2.1) g15 ++ G_)) w := hS
 rcases Bool.eq_false_or_eq_true (y13.2.1) with hb18 | hb18
 ·replace h := bif_t h hb18
  rw [hb18] at hS hP
  replace hS : St w0 (fz w0 ν14 :: (RC y13.1 true g15 ++ G_)) w := hS
  refine WI.fin rfl ?_
  refine fn_end hF rfl ?_
  have hr_ := Option.some.inj h
  subst hr_
  exact ⟨ν14, g15, hext, hlow, hP, rfl, hS⟩
 ·replace h := bif_f h hb18
  rw [hb18] at hS hP
  replace hS : St w0 (fz w0 ν14 :: (RC y13.1 false g15 ++ G_)) w := hS
  refine WI.fin rfl ?_
  refine fn_end hF rfl ?_
  have hr_ := Option.some.inj h
  subst hr_
  exact ⟨ν14, g15, hext, hlow, hP, rfl, hS⟩

theorem pplan_desk_cuts_ok (p0 : (Option plan_desk)) (p1 : Int) (res : Unit) (h : pplan_desk_cuts p0 p1 = res) (μ : Frz) (w0 : World) (hm : FrzAt μ w0) {pv1 : Option Addr} (hA2 : PtM μ 113 Rp113 pv1 p0) : Calls Try.prog 61 #[.pointer pv1, iv p1] w0 (fun e w => ∃ zb0 zb1, e = .returned (.func (.func 87) #[] #[pb zb0, pb zb1]) ∧ St w0 [blk zb0 100 #[.pointer pv1], blk zb1 3 #[iv p1]] w) := by
 obtain ⟨hlow, hS⟩ := hm.init
 have hext := Frz.ext_refl w0.heap.size μ
 rw [pplan_desk_cuts] at h
 refine fn_enterW Try.func61 rfl 6 [(0, .pointer pv1), (1, iv p1)] rfl rfl (by kernel_rfl) fun a w hw hF => ?_
 replace hS : St w0 [fz w0 μ] w := by rw [hw]; exact hS
 clear hw
 refine esr ?_
 refine SK.wi (boxK (t := 100) (fun b3 => [(1, iv p1), (2, pb b3)]) (.pointer pv1) #[.pointer pv1] hF hS (by kernel_rfl) ⟨by kernel_rfl⟩ (by kernel_rfl) (fun _ => ⟨by kernel_rfl⟩) fun b3 w a hF hS => ?_)
 refine SK.wi (boxK (t := 3) (fun b4 => [(2, pb b3), (3, pb b4)]) (iv p1) #[iv p1] hF hS (by kernel_rfl) ⟨by kernel_rfl⟩ (by kernel_rfl) (fun _ => ⟨by kernel_rfl⟩) fun b4 w a hF hS => ?_)
 refine rn 1 3 [(2, pb b3), (3, pb b4)] hF fun a hF => ?_
 refine wfn rfl ?_
 refine esr ?_
 refine rn 2 2 [(4, .func (.func 87) #[] #[pb b3, pb b4])] hF fun a hF => ?_
 refine wfn rfl ?_
 refine wpIn_ret (fn_ret [.tmp 4] [.func (.func 87) #[] #[pb b3, pb b4]] hF rfl ⟨rfl, trivial⟩ ?_)
 subst h
 exact ⟨b3, b4, rfl, St.pick [1, 0] (by decide) hS⟩
end Go.Proofs.Ytejffembnkojjaa
