/- Walks, written by program (wip/gen/dec.py). -/
import Derived.Test.YtejffembnkojjaaC4XD
import Derived.Test.YtejffembnkojjaaProg
import Derived.Test.YtejffembnkojjaaC4XW0
import Derived.Test.YtejffembnkojjaaC4XW3
import Derived.Test.YtejffembnkojjaaC4XW6
import Derived.Test.YtejffembnkojjaaC4XW7
import Derived.Test.YtejffembnkojjaaC4XW8
namespace Go.Proofs.Ytejffembnkojjaa
open Go Go.RowKit Go.Eng
set_option maxRecDepth 10000
set_option maxHeartbeats 4000000
set_option linter.unusedVariables false
set_option linter.unusedSimpArgs false
theorem pplan_desk_begun_1_ok {σ γ : Type} (F : Nat) (c0_ : (Option plan_desk)) (c1_ : Int) (body : σ → plan_line → Option (σ × Bool)) (s_ : σ) (res : σ × Bool) (h : pplan_desk_begun_1 F c0_ c1_ body s_ = some res) (l_ : Nat) (μ : Frz) (w0 w1 : World) (RC : σ → Bool → γ → List Res) (PC : σ → Bool → γ → Frz → Prop) (hPm : ∀ s b g μ ν, PC s b g μ → μ.le ν → PC s b g ν) (hy : ∀ (s : σ) (x : plan_line) (q : σ × Bool), body s x = some q → ∀ (ν : Frz) (g : γ) (G : List Res) (w : World) (pv_1 : Option Addr) (ad_2 : Option Addr) (cap_3 : Nat) (ad_4 : Option Addr) (cap_5 : Nat), μ.ext w0.heap.size ν → FrzIn w0 ν → PC s true g ν → PtM ν 113 Rp113 pv_1 x.desk → ArrM ν 1 fI ad_2 cap_3 x.jobs → ArrM ν 1 fI ad_4 cap_5 x.at_ → St w0 (fz w0 ν :: (RC s true g ++ G)) w → Eng.Yields Try.prog l_ #[.agg #[.pointer pv_1, sv ad_2 x.jobs cap_3, sv ad_4 x.at_ cap_5, iv x.done]] w (fun c w2 => c = q.2 ∧ ∃ ν2 g2, ν.ext w0.heap.size ν2 ∧ FrzIn w0 ν2 ∧ PC q.1 q.2 g2 ν2 ∧ St w0 (fz w0 ν2 :: (RC q.1 q.2 g2 ++ G)) w2)) (g_ : γ) (G_ : List Res) (hlow : FrzIn w0 μ) (hP : PC s_ true g_ μ) (hS : St w0 (fz w0 μ :: (RC s_ true g_ ++ G_)) w1) {cb1 : Nat} {cb2 : Nat} {pv1 : Option Addr} (hcb1 : BlkM μ cb1 100 #[.pointer pv1]) (hA2 : PtM μ 113 Rp113 pv1 c0_) (hcb2 : BlkM μ cb2 3 #[iv c1_]) : Calls Try.prog 83 #[.func (.yield l_) #[] #[], pb cb1, pb cb2] w1 (fun e w => ∃ (ν_ : Frz) (g2_ : γ), μ.ext w0.heap.size ν_ ∧ FrzIn w0 ν_ ∧ PC res.1 res.2 g2_ ν_ ∧ e = .returned (.tuple #[]) ∧ St w0 (fz w0 ν_ :: (RC res.1 res.2 g2_ ++ G_)) w) := by
 rw [pplan_desk_begun_1] at h
 have hext := Frz.ext_refl w0.heap.size μ
 refine fn_enterW Try.func83 rfl 10 [(0, .func (.yield l_) #[] #[]), (1, pb cb1), (2, pb cb2)] rfl rfl (by kernel_rfl) fun a w hw hF => ?_
 replace hS : St w0 (fz w0 μ :: (RC s_ true g_ ++ G_)) w := by rw [hw]; exact hS
 clear hw
 refine esr ?_
 refine SK.wi (boxK (t := 141) (fun b3 => [(1, pb cb1), (2, pb cb2), (3, pb b3)]) (.func (.yield l_) #[] #[]) #[.func (.yield l_) #[] #[]] hF hS (by kernel_rfl) ⟨by kernel_rfl⟩ (by kernel_rfl) (fun _ => ⟨by kernel_rfl⟩) fun b3 w a hF hS => ?_)
 refine wfn rfl ?_
 refine esr ?_
 refine SK.wi (allocK (t := 141) (fun b4 => [(1, pb cb1), (2, pb cb2), (3, pb b3), (4, pb b4)]) #[.nilFunc] hF hS (by kernel_rfl) ⟨by kernel_rfl⟩ (by kernel_rfl) (fun _ => ⟨by kernel_rfl⟩) fun b4 w a hF hS => ?_)
 refine wfn rfl ?_
 refine esr ?_
 refine rn 1 1 [(1, pb cb1), (4, pb b4), (5, .func (.func 84) #[] #[pb cb1, pb cb2, pb b3, pb b4])] hF fun a hF => ?_
 refine SK.wi (storeK (t := 141) [(1, pb cb1), (4, pb b4)] 0 0 (.func (.func 84) #[] #[pb cb1, pb cb2, pb b3, pb b4]) #[.func (.func 84) #[] #[pb cb1, pb cb2, pb b3, pb b4]] hF hS rfl (by kernel_rfl) ⟨by kernel_rfl⟩ (by kernel_rfl) (by kernel_rfl) (by kernel_rfl) (by kernel_rfl) ⟨by kernel_rfl⟩ fun w a hF hS => ?_)
 refine wfn rfl ?_
 refine WI.region ?_
 refine rno 3 [.run [] (Instr.loadAt 141 (pb b4)) (.func (.func 84) #[] #[pb cb1, pb cb2, pb b3, pb b4]), .run [] (Instr.loadAt 100 (pb cb1)) (.pointer pv1)] 3 [(6, .func (.func 84) #[] #[pb cb1, pb cb2, pb b3, pb b4]), (8, .agg #[.pointer pv1, .slice none 0 0, .slice none 0 0, iv 0])] hF (ocons (ob1 (by kernel_rfl) (fun _ hd => (hS.at_ hd).cell (i := 0) (j := 0) rfl rfl)) (ocons (ob1 (by kernel_rfl) (fun _ hd => (hcb1.blk ((hS.at_ hd).frz (i := 2) rfl hlow)).cell1 (j := 0) rfl)) onil)) fun a hF => ?_
 obtain ⟨ν5, hx6, hlow, hS, hz7⟩ := hS.freeze (i := 2) (j := 1) rfl rfl (by decide) hlow
 replace hcb1 := hcb1.mono hx6.1
 replace hA2 := hA2.mono Rp113.mono hx6.1
 replace hcb2 := hcb2.mono hx6.1
 replace hP := hPm _ _ _ _ _ hP hx6.1
 replace hext := Frz.ext_trans hext hx6
 replace hS : St w0 (blk b4 141 #[.func (.func 84) #[] #[pb cb1, pb cb2, pb b3, pb b4]] :: fz w0 ν5 :: (RC s_ true g_ ++ G_)) w := hS
 have hB8 : BlkM ν5 b3 141 #[.func (.yield l_) #[] #[]] := hz7
 obtain ⟨ν9, hx10, hlow, hS, hz11⟩ := hS.freeze (i := 1) (j := 0) rfl rfl (by decide) hlow
 replace hcb1 := hcb1.mono hx10.1
 replace hA2 := hA2.mono Rp113.mono hx10.1
 replace hcb2 := hcb2.mono hx10.1
 replace hP := hPm _ _ _ _ _ hP hx10.1
 replace hB8 := hB8.mono hx10.1
 replace hext := Frz.ext_trans hext hx10
 replace hS : St w0 (fz w0 ν9 :: (RC s_ true g_ ++ G_)) w := hS
 have hB12 : BlkM ν9 b4 141 #[.func (.func 84) #[] #[pb cb1, pb cb2, pb b3, pb b4]] := hz11
 replace h := bindS h
 obtain ⟨y13, hy13, h⟩ := h
 refine SK.wi (callK (f := 84) (args := #[.agg #[.pointer pv1, .slice none 0 0, .slice none 0 0, iv 0], pb cb1, pb cb2, pb b3, pb b4]) (R := fun v w2 => ∃ (ν_ : Frz) (g2_ : γ), ν9.ext w0.heap.size ν_ ∧ FrzIn w0 ν_ ∧ PC y13.1 y13.2.1 g2_ ν_ ∧ v = .bool y13.2.2 ∧ St w0 (fz w0 ν_ :: (RC y13.1 y13.2.1 g2_ ++ (G_ ++ []))) w2) (fun v17 => []) hF (by kernel_rfl) ⟨by kernel_rfl⟩ (Calls.mono (pplan_desk_begun_1_1_ok F (plan_line.mk c0_ ([] : (List Int)) ([] : (List Int)) 0) c0_ c1_ body s_ _ hy13 l_ ν9 w0 w RC PC hPm (fun s x q hb ν g G w a0_ a1_ a2_ a3_ a4_ hx => hy s x q hb ν g G w a0_ a1_ a2_ a3_ a4_ (Frz.ext_trans hext hx)) g_ (G_ ++ []) hlow hP (St.rot [] hS) hA2 ArrM.nil ArrM.nil hcb1 hA2 hcb2 hB8 hB12) (by rintro e w2 ⟨n1, n2, n3, n4, n5, rfl, n6⟩; exact ⟨_, rfl, n1, n2, n3, n4, n5, rfl, n6⟩)) (fun _ => ⟨by kernel_rfl⟩) ?_)
 rintro v17 w a ⟨ν14, g15, hx16, hlow, hP, rfl, hS⟩ hF
 replace hS := St.unrot [] hS
 replace hext := Frz.ext_trans hext hx16
 replace hcb1 := hcb1.mono hx16.1
 replace hA2 := hA2.mono Rp113.mono hx16.1
 replace hcb2 := hcb2.mono hx16.1
 replace hB8 := hB8.mono hx16.1
 replace hB12 := hB12.mono hx16.1
 replace hS : St w0 (fz w0 ν14 :: (RC y13.1 (y13.2.1) g15 ++ G_)) w := hS
 rcases Bool.eq_false_or_eq_true (y13.2.1) with hb18 | hb18
 ·replace h := bif_t h hb18
  rw [hb18] at hS hP
  replace hS : St w0 (fz w0 ν14 :: (RC y13.1 true g15 ++ G_)) w := hS
  refine WI.fin rfl ?_
  refine fn_end hF rfl ?_
  have hr_ := Option.some.inj h
  subst hr_
  exact ⟨ν14, g15, hext, hlow, hP, rfl, hS⟩
 ·replace h := bif_f h hb18
  rw [hb18] at hS hP
  replace hS : St w0 (fz w0 ν14 :: (RC y13.1 false g15 ++ G_)) w := hS
  refine WI.fin rfl ?_
  refine fn_end hF rfl ?_
  have hr_ := Option.some.inj h
  subst hr_
  exact ⟨ν14, g15, hext, hlow, hP, rfl, hS⟩

theorem pplan_desk_begun_ok (p0 : (Option plan_desk)) (p1 : Int) (res : Unit) (h : pplan_desk_begun p0 p1 = res) (μ : Frz) (w0 : World) (hm : FrzAt μ w0) {pv1 : Option Addr} (hA2 : PtM μ 113 Rp113 pv1 p0) : Calls Try.prog 57 #[.pointer pv1, iv p1] w0 (fun e w => ∃ zb0 zb1, e = .returned (.func (.func 83) #[] #[pb zb0, pb zb1]) ∧ St w0 [blk zb0 100 #[.pointer pv1], blk zb1 3 #[iv p1]] w) := by
 obtain ⟨hlow, hS⟩ := hm.init
 have hext := Frz.ext_refl w0.heap.size μ
 rw [pplan_desk_begun] at h
 refine fn_enterW Try.func57 rfl 6 [(0, .pointer pv1), (1, iv p1)] rfl rfl (by kernel_rfl) fun a w hw hF => ?_
 replace hS : St w0 [fz w0 μ] w := by rw [hw]; exact hS
 clear hw
 refine esr ?_
 refine SK.wi (boxK (t := 100) (fun b3 => [(1, iv p1), (2, pb b3)]) (.pointer pv1) #[.pointer pv1] hF hS (by kernel_rfl) ⟨by kernel_rfl⟩ (by kernel_rfl) (fun _ => ⟨by kernel_rfl⟩) fun b3 w a hF hS => ?_)
 refine SK.wi (boxK (t := 3) (fun b4 => [(2, pb b3), (3, pb b4)]) (iv p1) #[iv p1] hF hS (by kernel_rfl) ⟨by kernel_rfl⟩ (by kernel_rfl) (fun _ => ⟨by kernel_rfl⟩) fun b4 w a hF hS => ?_)
 refine rn 1 3 [(2, pb b3), (3, pb b4)] hF fun a hF => ?_
 refine wfn rfl ?_
 refine esr ?_
 refine rn 2 2 [(4, .func (.func 83) #[] #[pb b3, pb b4])] hF fun a hF => ?_
 refine wfn rfl ?_
 refine wpIn_ret (fn_ret [.tmp 4] [.func (.func 83) #[] #[pb b3, pb b4]] hF rfl ⟨rfl, trivial⟩ ?_)
 subst h
 exact ⟨b3, b4, rfl, St.pick [1, 0] (by decide) hS⟩

theorem pplan_desk_cuts_1_ok {σ γ : Type} (F : Nat) (c0_ : (Option plan_desk)) (c1_ : Int) (body : σ → (plan_line × Int) → Option (σ × Bool)) (s_ : σ) (res : σ × Bool) (h : pplan_desk_cuts_1 F c0_ c1_ body s_ = some res) (l_ : Nat) (μ : Frz) (w0 w1 : World) (RC : σ → Bool → γ → List Res) (PC : σ → Bool → γ → Frz → Prop) (hPm : ∀ s b g μ ν, PC s b g μ → μ.le ν → PC s b g ν) (hy : ∀ (s : σ) (x : (plan_line × Int)) (q : σ × Bool), body s x = some q → ∀ (ν : Frz) (g : γ) (G : List Res) (w : World) (pv_1 : Option Addr) (ad_2 : Option Addr) (cap_3 : Nat) (ad_4 : Option Addr) (cap_5 : Nat), μ.ext w0.heap.size ν → FrzIn w0 ν → PC s true g ν → PtM ν 113 Rp113 pv_1 x.1.desk → ArrM ν 1 fI ad_2 cap_3 x.1.jobs → ArrM ν 1 fI ad_4 cap_5 x.1.at_ → St w0 (fz w0 ν :: (RC s true g ++ G)) w → Eng.Yields Try.prog l_ #[.agg #[.pointer pv_1, sv ad_2 x.1.jobs cap_3, sv ad_4 x.1.at_ cap_5, iv x.1.done], iv x.2] w (fun c w2 => c = q.2 ∧ ∃ ν2 g2, ν.ext w0.heap.size ν2 ∧ FrzIn w0 ν2 ∧ PC q.1 q.2 g2 ν2 ∧ St w0 (fz w0 ν2 :: (RC q.1 q.2 g2 ++ G)) w2)) (g_ : γ) (G_ : List Res) (hlow : FrzIn w0 μ) (hP : PC s_ true g_ μ) (hS : St w0 (fz w0 μ :: (RC s_ true g_ ++ G_)) w1) {cb1 : Nat} {cb2 : Nat} {pv1 : Option Addr} (hcb1 : BlkM μ cb1 100 #[.pointer pv1]) (hA2 : PtM μ 113 Rp113 pv1 c0_) (hcb2 : BlkM μ cb2 3 #[iv c1_]) : Calls Try.prog 87 #[.func (.yield l_) #[] #[], pb cb1, pb cb2] w1 (fun e w => ∃ (ν_ : Frz) (g2_ : γ), μ.ext w0.heap.size ν_ ∧ FrzIn w0 ν_ ∧ PC res.1 res.2 g2_ ν_ ∧ e = .returned (.tuple #[]) ∧ St w0 (fz w0 ν_ :: (RC res.1 res.2 g2_ ++ G_)) w) := by
 rw [pplan_desk_cuts_1] at h
 have hext := Frz.ext_refl w0.heap.size μ
 refine fn_enterW Try.func87 rfl 10 [(0, .func (.yield l_) #[] #[]), (1, pb cb1), (2, pb cb2)] rfl rfl (by kernel_rfl) fun a w hw hF => ?_
 replace hS : St w0 (fz w0 μ :: (RC s_ true g_ ++ G_)) w := by rw [hw]; exact hS
 clear hw
 refine esr ?_
 refine SK.wi (boxK (t := 144) (fun b3 => [(1, pb cb1), (2, pb cb2), (3, pb b3)]) (.func (.yield l_) #[] #[]) #[.func (.yield l_) #[] #[]] hF hS (by kernel_rfl) ⟨by kernel_rfl⟩ (by kernel_rfl) (fun _ => ⟨by kernel_rfl⟩) fun b3 w a hF hS => ?_)
 refine wfn rfl ?_
 refine esr ?_
 refine SK.wi (allocK (t := 141) (fun b4 => [(1, pb cb1), (2, pb cb2), (3, pb b3), (4, pb b4)]) #[.nilFunc] hF hS (by kernel_rfl) ⟨by kernel_rfl⟩ (by kernel_rfl) (fun _ => ⟨by kernel_rfl⟩) fun b4 w a hF hS => ?_)
 refine wfn rfl ?_
 refine esr ?_
 refine rn 1 1 [(1, pb cb1), (4, pb b4), (5, .func (.func 88) #[] #[pb cb1, pb b3, pb cb2, pb b4])] hF fun a hF => ?_
 refine SK.wi (storeK (t := 141) [(1, pb cb1), (4, pb b4)] 0 0 (.func (.func 88) #[] #[pb cb1, pb b3, pb cb2, pb b4]) #[.func (.func 88) #[] #[pb cb1, pb b3, pb cb2, pb b4]] hF hS rfl (by kernel_rfl) ⟨by kernel_rfl⟩ (by kernel_rfl) (by kernel_rfl) (by kernel_rfl) (by kernel_rfl) ⟨by kernel_rfl⟩ fun w a hF hS => ?_)
 refine wfn rfl ?_
 refine WI.region ?_
 refine rno 3 [.run [] (Instr.loadAt 141 (pb b4)) (.func (.func 88) #[] #[pb cb1, pb b3, pb cb2, pb b4]), .run [] (Instr.loadAt 100 (pb cb1)) (.pointer pv1)] 3 [(6, .func (.func 88) #[] #[pb cb1, pb b3, pb cb2, pb b4]), (8, .agg #[.pointer pv1, .slice none 0 0, .slice none 0 0, iv 0])] hF (ocons (ob1 (by kernel_rfl) (fun _ hd => (hS.at_ hd).cell (i := 0) (j := 0) rfl rfl)) (ocons (ob1 (by kernel_rfl) (fun _ hd => (hcb1.blk ((hS.at_ hd).frz (i := 2) rfl hlow)).cell1 (j := 0) rfl)) onil)) fun a hF => ?_
 obtain ⟨ν5, hx6, hlow, hS, hz7⟩ := hS.freeze (i := 2) (j := 1) rfl rfl (by decide) hlow
 replace hcb1 := hcb1.mono hx6.1
 replace hA2 := hA2.mono Rp113.mono hx6.1
 replace hcb2 := hcb2.mono hx6.1
 replace hP := hPm _ _ _ _ _ hP hx6.1
 replace hext := Frz.ext_trans hext hx6
 replace hS : St w0 (blk b4 141 #[.func (.func 88) #[] #[pb cb1, pb b3, pb cb2, pb b4]] :: fz w0 ν5 :: (RC s_ true g_ ++ G_)) w := hS
 have hB8 : BlkM ν5 b3 144 #[.func (.yield l_) #[] #[]] := hz7
 obtain ⟨ν9, hx10, hlow, hS, hz11⟩ := hS.freeze (i := 1) (j := 0) rfl rfl (by decide) hlow
 replace hcb1 := hcb1.mono hx10.1
 replace hA2 := hA2.mono Rp113.mono hx10.1
 replace hcb2 := hcb2.mono hx10.1
 replace hP := hPm _ _ _ _ _ hP hx10.1
 replace hB8 := hB8.mono hx10.1
 replace hext := Frz.ext_trans hext hx10
 replace hS : St w0 (fz w0 ν9 :: (RC s_ true g_ ++ G_)) w := hS
 have hB12 : BlkM ν9 b4 141 #[.func (.func 88) #[] #[pb cb1, pb b3, pb cb2, pb b4]] := hz11
 replace h := bindS h
 obtain ⟨y13, hy13, h⟩ := h
 refine SK.wi (callK (f := 88) (args := #[.agg #[.pointer pv1, .slice none 0 0, .slice none 0 0, iv 0], pb cb1, pb b3, pb cb2, pb b4]) (R := fun v w2 => ∃ (ν_ : Frz) (g2_ : γ), ν9.ext w0.heap.size ν_ ∧ FrzIn w0 ν_ ∧ PC y13.1 y13.2.1 g2_ ν_ ∧ v = .bool y13.2.2 ∧ St w0 (fz w0 ν_ :: (RC y13.1 y13.2.1 g2_ ++ (G_ ++ []))) w2) (fun v17 => []) hF (by kernel_rfl) ⟨by kernel_rfl⟩ (Calls.mono (pplan_desk_cuts_1_1_ok F (plan_line.mk c0_ ([] : (List Int)) ([] : (List Int)) 0) c0_ c1_ body s_ _ hy13 l_ ν9 w0 w RC PC hPm (fun s x q hb ν g G w a0_ a1_ a2_ a3_ a4_ hx => hy s x q hb ν g G w a0_ a1_ a2_ a3_ a4_ (Frz.ext_trans hext hx)) g_ (G_ ++ []) hlow hP (St.rot [] hS) hA2 ArrM.nil ArrM.nil hcb1 hA2 hB8 hcb2 hB12) (by rintro e w2 ⟨n1, n2, n3, n4, n5, rfl, n6⟩; exact ⟨_, rfl, n1, n2, n3, n4, n5, rfl, n6⟩)) (fun _ => ⟨by kernel_rfl⟩) ?_)
 rintro v17 w a ⟨ν14, g15, hx16, hlow, hP, rfl, hS⟩ hF
 replace hS := St.unrot [] hS
 replace hext := Frz.ext_trans hext hx16
 replace hcb1 := hcb1.mono hx16.1
 replace hA2 := hA2.mono Rp113.mono hx16.1
 replace hcb2 := hcb2.mono hx16.1
 replace hB8 := hB8.mono hx16.1
 replace hB12 := hB12.mono hx16.1
 replace hS : St w0 (fz w0 ν14 :: (RC y13.1 (y13.2.1) g15 ++ G_)) w := hS
 rcases Bool.eq_false_or_eq_true (y13.2.1) with hb18 | hb18
 ·replace h := bif_t h hb18
  rw [hb18] at hS hP
  replace hS : St w0 (fz w0 ν14 :: (RC y13.1 true g15 ++ G_)) w := hS
  refine WI.fin rfl ?_
  refine fn_end hF rfl ?_
  have hr_ := Option.some.inj h
  subst hr_
  exact ⟨ν14, g15, hext, hlow, hP, rfl, hS⟩
 ·replace h := bif_f h hb18
  rw [hb18] at hS hP
  replace hS : St w0 (fz w0 ν14 :: (RC y13.1 false g15 ++ G_)) w := hS
  refine WI.fin rfl ?_
  refine fn_end hF rfl ?_
  have hr_ := Option.some.inj h
  subst hr_
  exact ⟨ν14, g15, hext, hlow, hP, rfl, hS⟩

theorem pplan_desk_cuts_ok (p0 : (Option plan_desk)) (p1 : Int) (res : Unit) (h : pplan_desk_cuts p0 p1 = res) (μ : Frz) (w0 : World) (hm : FrzAt μ w0) {pv1 : Option Addr} (hA2 : PtM μ 113 Rp113 pv1 p0) : Calls Try.prog 61 #[.pointer pv1, iv p1] w0 (fun e w => ∃ zb0 zb1, e = .returned (.func (.func 87) #[] #[pb zb0, pb zb1]) ∧ St w0 [blk zb0 100 #[.pointer pv1], blk zb1 3 #[iv p1]] w) := by
 obtain ⟨hlow, hS⟩ := hm.init
 have hext := Frz.ext_refl w0.heap.size μ
 rw [pplan_desk_cuts] at h
 refine fn_enterW Try.func61 rfl 6 [(0, .pointer pv1), (1, iv p1)] rfl rfl (by kernel_rfl) fun a w hw hF => ?_
 replace hS : St w0 [fz w0 μ] w := by rw [hw]; exact hS
 clear hw
 refine esr ?_
 refine SK.wi (boxK (t := 100) (fun b3 => [(1, iv p1), (2, pb b3)]) (.pointer pv1) #[.pointer pv1] hF hS (by kernel_rfl) ⟨by kernel_rfl⟩ (by kernel_rfl) (fun _ => ⟨by kernel_rfl⟩) fun b3 w a hF hS => ?_)
 refine SK.wi (boxK (t := 3) (fun b4 => [(2, pb b3), (3, pb b4)]) (iv p1) #[iv p1] hF hS (by kernel_rfl) ⟨by kernel_rfl⟩ (by kernel_rfl) (fun _ => ⟨by kernel_rfl⟩) fun b4 w a hF hS => ?_)
 refine rn 1 3 [(2, pb b3), (3, pb b4)] hF fun a hF => ?_
 refine wfn rfl ?_
 refine esr ?_
 refine rn 2 2 [(4, .func (.func 87) #[] #[pb b3, pb b4])] hF fun a hF => ?_
 refine wfn rfl ?_
 refine wpIn_ret (fn_ret [.tmp 4] [.func (.func 87) #[] #[pb b3, pb b4]] hF rfl ⟨rfl, trivial⟩ ?_)
 subst h
 exact ⟨b3, b4, rfl, St.pick [1, 0] (by decide) hS⟩

theorem ref06_Judge_ok (F : Nat) (p0 : ref06_Radar) (p1 : (List ref06_Job)) (p2 : (List Int)) (res : ((List Int) × Int)) (h : ref06_Judge F p0 p1 p2 = some res) (μ : Frz) (w0 : World) (hm : FrzAt μ w0) {ad1 : Option Addr} {cap2 : Nat} {ad4 : Option Addr} {cap5 : Nat} (hA3 : ArrM μ 8 ref06_Job.cells ad1 cap2 p1) (hA6 : ArrM μ 1 fI ad4 cap5 p2) : Calls Try.prog 20 #[p0.ag, sv ad1 p1 cap2, sv ad4 p2 cap5] w0 (fun e w => ∃ zad0 zcap0, e = .returned (.tuple #[sv zad0 res.1 zcap0, iv res.2]) ∧ St w0 [arr 3 1 fI zad0 res.1.length zcap0 res.1] w) := by
 obtain ⟨hlow, hS⟩ := hm.init
 have hext := Frz.ext_refl w0.heap.size μ
 rw [ref06_Judge] at h
 refine fn_enterW Try.func20 rfl 66 [(0, p0.ag), (1, sv ad1 p1 cap2), (2, sv ad4 p2 cap5)] rfl rfl (by kernel_rfl) fun a w hw hF => ?_
 replace hS : St w0 [fz w0 μ] w := by rw [hw]; exact hS
 clear hw
 refine esr ?_
 refine SK.wi (boxK (t := 23) (fun b7 => [(1, sv ad1 p1 cap2), (2, sv ad4 p2 cap5), (3, pb b7)]) (p0.ag) p0.ar hF hS (by kernel_rfl) ⟨by kernel_rfl⟩ (by kernel_rfl) (fun _ => ⟨by kernel_rfl⟩) fun b7 w a hF hS => ?_)
 refine rn 2 3 [(1, sv ad1 p1 cap2), (2, sv ad4 p2 cap5), (3, pb b7)] hF fun a hF => ?_
 refine wfn rfl ?_
 refine esr ?_
 replace h := bindS h
 obtain ⟨y8, hy8, h⟩ := h
 refine rx 4 [.run [] (Instr.loadAt 23 (pb b7)) (p0.ag), .call [] 23 #[p0.ag, sv ad1 p1 cap2] (iv y8)] 4 [(1, sv ad1 p1 cap2), (2, sv ad4 p2 cap5), (3, pb b7), (8, iv y8)] hF (ocons (obN (us := p0.cells) (by kernel_rfl) (fun _ hd => ((hS.later hd).blk (i := 0) rfl).cells rfl)) (ocons (show Ob.ok _ Ext _ _ from fun hk w2 hd => ref06_Check_ok F p0 p1 _ ((fun _ => hy8) hk) _ w2 (memOf_at w2) (hA3.mono (FrzAt.le_mem ((hS.later hd).frz (i := 1) rfl hlow)))) onil)) fun a w hF hx => ?_
 replace hS := hS.later hx
 refine wfn rfl ?_
 refine eseq ?_
 refine esr ?_
 refine rn 2 2 [(1, sv ad1 p1 cap2), (2, sv ad4 p2 cap5), (3, pb b7), (8, iv y8), (17, .bool (y8 != 0))] hF fun a hF => ?_
 refine wfn rfl ?_
 refine econd hF rfl (fun hc => ?_) (fun hc => ?_)
 ·replace h := bif_t h hc
  refine esr ?_
  refine rn 3 3 [(6, .slice none 0 0), (7, iv y8)] hF fun a hF => ?_
  refine wfn rfl ?_
  refine wpIn_ret (ret_then <| fn_ret [.tmp 6, .tmp 7] [.slice none 0 0, iv y8] hF rfl ⟨rfl, rfl, trivial⟩ ?_)
  have hr_ := Option.some.inj h
  subst hr_
  replace hS := hS.nilarr 3 1 fI
  exact ⟨_, _, rfl, St.pick [0] (by decide) hS⟩
 ·replace h := bif_f h hc
  refine wpIn_skip (norm_then ?_)
  refine eseq ?_
  refine esr ?_
  refine rn 8 8 [(1, sv ad1 p1 cap2), (2, sv ad4 p2 cap5), (3, pb b7), (26, .bool (bif (decide ((ln p2) < 1)) then true else (decide ((ln p2) > 12))))] hF fun a hF => ?_
  refine wfn rfl ?_
  refine econd hF rfl (fun hc => ?_) (fun hc => ?_)
  ·replace h := bif_t h hc
   refine esr ?_
   refine rn 2 2 [(6, .slice none 0 0), (7, iv 3)] hF fun a hF => ?_
   refine wfn rfl ?_
   refine wpIn_ret (ret_then <| fn_ret [.tmp 6, .tmp 7] [.slice none 0 0, iv 3] hF rfl ⟨rfl, rfl, trivial⟩ ?_)
   have hr_ := Option.some.inj h
   subst hr_
   replace hS := hS.nilarr 3 1 fI
   exact ⟨_, _, rfl, St.pick [0] (by decide) hS⟩
  ·replace h := bif_f h hc
   refine wpIn_skip (norm_then ?_)
   refine ecut (fun a w => Fr 66 [] [(1, sv ad1 p1 cap2), (2, sv ad4 p2 cap5), (3, pb b7)] a ∧ St w0 [blk b7 23 p0.ar, fz w0 μ] w ∧ ref06_Judge_K1 F p0 p1 p2 = some res) ?_ ?_
   ·skip
    refine esr ?_
    refine rn 1 1 [(1, sv ad1 p1 cap2), (2, sv ad4 p2 cap5), (3, pb b7), (9, iv 0)] hF fun a hF => ?_
    refine wfn rfl ?_
    refine wpIn_block ?_
    refine eloop (fun n_ a w => ∃ (x99 : Int), Fr 66 [] [(1, sv ad1 p1 cap2), (2, sv ad4 p2 cap5), (3, pb b7), (9, iv x99)] a ∧ St w0 [blk b7 23 p0.ar, fz w0 μ] w ∧ ref06_Judge_L4 F p0 p1 p2 n_ x99 = some res) F ⟨0, hF.sub (by kernel_rfl), St.pick [0, 1] (by decide) hS, h⟩ ?_
    rintro n_ a w ⟨x99, hF, hS, h⟩
    rcases n_ with _ | n_
    ·cases (show (none : Option ((List Int) × Int)) = some res from h)
    obtain ⟨k4, hk4⟩ : ∃ k, k = ref06_Judge_L4 F p0 p1 p2 n_ := ⟨_, rfl⟩
    replace h : ref06_Judge_B4 F p0 p1 p2 k4 x99 = some res := by rw [hk4]; exact h
    rw [ref06_Judge_B4] at h
    refine eseq ?_
    refine esr ?_
    refine rn 4 4 [(1, sv ad1 p1 cap2), (2, sv ad4 p2 cap5), (3, pb b7), (9, iv x99), (30, .bool (decide (x99 < (ln p2))))] hF fun a hF => ?_
    refine wfn rfl ?_
    refine econd hF rfl (fun hc => ?_) (fun hc => ?_)
    ·replace h := bif_t h hc
     refine wpIn_skip (norm_then ?_)
     refine eseq ?_
     refine wpIn_block ?_
     refine esr ?_
     replace h := bindS h
     obtain ⟨u101, hu101, h⟩ := h
     replace h := bindS h
     obtain ⟨x102, hx102, h⟩ := h
     refine rx 9 [.run [] (Instr.indexAt 40 (sv ad4 p2 cap5) (iv x99)) (.pointer (some (slAddr ad4 x99 1))), .run [] (Instr.loadAt 3 (.pointer (some (slAddr ad4 x99 1)))) (iv u101), .run [] (binOp .sub 3 (iv (ln p1)) (iv 1)) (iv x102), .call [] 48 #[iv u101, iv 0, iv x102] (.bool (ref01_In u101 0 x102))] 9 [(1, sv ad1 p1 cap2), (2, sv ad4 p2 cap5), (3, pb b7), (9, iv x99), (41, .bool (!(ref01_In u101 0 x102)))] hF (ocons (obIdxQ (hA6 _ (hS.frz (i := 1) rfl hlow)) (by kernel_rfl) (fun _ => hu101)) (ocons (obElQ (i := x99) 0 fI_len (fun _ hd => (hA6 _ ((hS.later hd).frz (i := 1) rfl hlow))) (by kernel_rfl) (fun _ => hu101) rfl) (ocons (obSubC (fun _ => hx102)) (ocons (show Ob.ok _ Ext _ _ from fun hk w2 hd => ref01_In_ok u101 0 x102 _ rfl _ w2 (memOf_at w2) ) onil)))) fun a w hF hx => ?_
     replace hS := hS.later hx
     refine wfn rfl ?_
     refine econd hF rfl (fun hc => ?_) (fun hc => ?_)
     ·replace h := bif_t h hc
      refine esr ?_
      refine rn 2 2 [(6, .slice none 0 0), (7, iv 4)] hF fun a hF => ?_
      refine wfn rfl ?_
      refine wpIn_ret (ret_block <| ret_then <| ret_then <| ret_block <| ret_then <| fn_ret [.tmp 6, .tmp 7] [.slice none 0 0, iv 4] hF rfl ⟨rfl, rfl, trivial⟩ ?_)
      have hr_ := Option.some.inj h
      subst hr_
      replace hS := hS.nilarr 3 1 fI
      exact ⟨_, _, rfl, St.pick [0] (by decide) hS⟩
     ·replace h := bif_f h hc
      refine wpIn_skip (norm_block <| norm_then <| ?_)
      refine WI.region ?_
      replace h := bindS h
      obtain ⟨x103, hx103, h⟩ := h
      refine rno 3 [.run [] (binOp .add 3 (iv x99) (iv 1)) (iv x103)] 3 [(1, sv ad1 p1 cap2), (2, sv ad4 p2 cap5), (3, pb b7), (9, iv x103)] hF (ocons (obAddC (fun _ => hx103)) onil) fun a hF => ?_
      refine wfn rfl ?_
      rw [hk4] at h
      exact ⟨n_, Nat.lt_succ_self _, x103, hF.sub (by kernel_rfl), St.pick [0, 1] (by decide) hS, h⟩
    ·replace h := bif_f h hc
     refine wpIn_exit (exit_then <| exit_then <| exit_hit <| norm_then ?_)
     exact ⟨hF.sub (by kernel_rfl), St.pick [0, 1] (by decide) hS, h⟩
   rintro a w ⟨hF, hS, h⟩
   rw [ref06_Judge_K1] at h
   refine esr ?_
   refine rn 1 1 [(1, sv ad1 p1 cap2), (2, sv ad4 p2 cap5), (3, pb b7), (10, .slice none 0 0)] hF fun a hF => ?_
   refine wfn rfl ?_
   refine ecut (fun a w => ∃ (l56 : (List Int)) (ad54 : Option Addr) (cap55 : Nat), Fr 66 [] [(10, sv ad54 l56 cap55)] a ∧ St w0 [arr 3 1 fI ad54 l56.length cap55 l56, blk b7 23 p0.ar, fz w0 μ] w ∧ ref06_Judge_K2 l56 = some res) ?_ ?_
   ·skip
    refine esr ?_
    refine rn 1 1 [(1, sv ad1 p1 cap2), (2, sv ad4 p2 cap5), (3, pb b7), (10, .slice none 0 0), (11, iv 0)] hF fun a hF => ?_
    refine wfn rfl ?_
    refine wpIn_block ?_
    replace hS := hS.nilarr 3 1 fI
    refine eloop (fun n_ a w => ∃ (l80 : (List Int)) (x81 : Int) (ad78 : Option Addr) (cap79 : Nat), Fr 66 [] [(1, sv ad1 p1 cap2), (2, sv ad4 p2 cap5), (3, pb b7), (10, sv ad78 l80 cap79), (11, iv x81)] a ∧ St w0 [arr 3 1 fI ad78 l80.length cap79 l80, blk b7 23 p0.ar, fz w0 μ] w ∧ ref06_Judge_L3 F p0 p1 p2 n_ l80 x81 = some res) F ⟨[], 0, none, 0, hF.sub (by kernel_rfl), St.pick [0, 1, 2] (by decide) hS, h⟩ ?_
    rintro n_ a w ⟨l80, x81, ad78, cap79, hF, hS, h⟩
    rcases n_ with _ | n_
    ·cases (show (none : Option ((List Int) × Int)) = some res from h)
    obtain ⟨k3, hk3⟩ : ∃ k, k = ref06_Judge_L3 F p0 p1 p2 n_ := ⟨_, rfl⟩
    replace h : ref06_Judge_B3 F p0 p1 p2 k3 l80 x81 = some res := by rw [hk3]; exact h
    rw [ref06_Judge_B3] at h
    refine eseq ?_
    refine esr ?_
    refine rn 4 4 [(1, sv ad1 p1 cap2), (2, sv ad4 p2 cap5), (3, pb b7), (10, sv ad78 l80 cap79), (11, iv x81), (45, .bool (decide (x81 < (ln p1))))] hF fun a hF => ?_
    refine wfn rfl ?_
    refine econd hF rfl (fun hc => ?_) (fun hc => ?_)
    ·replace h := bif_t h hc
     refine wpIn_skip (norm_then ?_)
     refine eseq ?_
     refine wpIn_block ?_
     refine esr ?_
     replace h := bindS h
     obtain ⟨y83, hy83, h⟩ := h
     refine rx 6 [.run [] (Instr.loadAt 23 (pb b7)) (p0.ag), .call [] 49 #[p0.ag, sv ad1 p1 cap2, sv ad4 p2 cap5, iv x81] (iv y83)] 6 [(1, sv ad1 p1 cap2), (2, sv ad4 p2 cap5), (3, pb b7), (10, sv ad78 l80 cap79), (11, iv x81), (12, iv y83)] hF (ocons (obN (us := p0.cells) (by kernel_rfl) (fun _ hd => ((hS.later hd).blk (i := 1) rfl).cells rfl)) (ocons (show Ob.ok _ Ext _ _ from fun hk w2 hd => ref06_gap_ok F p0 p1 p2 x81 _ ((fun _ => hy83) hk) _ w2 (memOf_at w2) (hA3.mono (FrzAt.le_mem ((hS.later hd).frz (i := 2) rfl hlow))) (hA6.mono (FrzAt.le_mem ((hS.later hd).frz (i := 2) rfl hlow)))) onil)) fun a w hF hx => ?_
     replace hS := hS.later hx
     refine wfn rfl ?_
     refine eseq ?_
     refine esr ?_
     refine rn 2 2 [(1, sv ad1 p1 cap2), (2, sv ad4 p2 cap5), (3, pb b7), (10, sv ad78 l80 cap79), (11, iv x81), (12, iv y83), (54, .bool (y83 == 0))] hF fun a hF => ?_
     refine wfn rfl ?_
     refine econd hF rfl (fun hc => ?_) (fun hc => ?_)
     ·replace h := bif_t h hc
      refine esr ?_
      refine rn 2 2 [(6, .slice none 0 0), (7, iv 23)] hF fun a hF => ?_
      refine wfn rfl ?_
      refine wpIn_ret (ret_then <| ret_block <| ret_then <| ret_then <| ret_block <| ret_then <| fn_ret [.tmp 6, .tmp 7] [.slice none 0 0, iv 23] hF rfl ⟨rfl, rfl, trivial⟩ ?_)
      have hr_ := Option.some.inj h
      subst hr_
      replace hS := hS.nilarr 3 1 fI
      exact ⟨_, _, rfl, St.pick [0] (by decide) hS⟩
     ·replace h := bif_f h hc
      refine wpIn_skip (norm_then ?_)
      refine WI.region ?_
      replace h := bindS h
      obtain ⟨u84, hu84, h⟩ := h
      replace h := bindS h
      obtain ⟨x85, hx85, h⟩ := h
      refine rno 8 [.run [] (Instr.indexAt 39 (sv ad1 p1 cap2) (iv x81)) (.pointer (some (slAddr ad1 x81 8))), .run [] (Instr.loadAt 3 (.pointer (some ((slAddr ad1 x81 8).add 7)))) (iv u84.Every), .run [] (binOp .sub 3 (iv u84.Every) (iv y83)) (iv x85)] 8 [(1, sv ad1 p1 cap2), (2, sv ad4 p2 cap5), (3, pb b7), (10, sv ad78 l80 cap79), (11, iv x81), (55, sv ad78 l80 cap79), (62, iv x85)] hF (ocons (obIdxQ (hA3 _ (hS.frz (i := 2) rfl hlow)) (by kernel_rfl) (fun _ => hu84)) (ocons (obElQ (i := x81) 7 ref06_Job.cells_len (fun _ hd => (hA3 _ ((hS.at_ hd).frz (i := 2) rfl hlow))) (by kernel_rfl) (fun _ => hu84) rfl) (ocons (obSubC (fun _ => hx85)) onil))) fun a hF => ?_
      refine SK.wi (litK (e := 3) (sz := 1) (f := fI) (t := 40) (len := 1) (fun b86 => [(1, sv ad1 p1 cap2), (2, sv ad4 p2 cap5), (3, pb b7), (10, sv ad78 l80 cap79), (11, iv x81), (55, sv ad78 l80 cap79), (63, sb b86 1)]) #[(0, iv x85)] #[iv x85] ([x85]) hF hS (by kernel_rfl) ⟨by kernel_rfl⟩ (by kernel_rfl) fI_len rfl rfl (by kernel_rfl) (fun _ => ⟨by kernel_rfl⟩) fun b86 w a hF hS => ?_)
      replace h := bindS h
      obtain ⟨l87, hl87, h⟩ := h
      refine SK.wi (appK (t := 40) (ty := 40) (bytes := 8) (l := l80) (l' := ([x85])) (fun ad88 cap89 => [(1, sv ad1 p1 cap2), (2, sv ad4 p2 cap5), (3, pb b7), (10, sv ad78 l80 cap79), (11, iv x81), (64, sv ad88 l87 cap89)]) 1 hF hS rfl (by kernel_rfl) ⟨by kernel_rfl⟩ (by kernel_rfl) (hS.arr (i := 0) rfl) (fun _ _ => rfl) hl87 (fun _ _ => ⟨by kernel_rfl⟩) fun ad88 cap89 w a hF hS => ?_)
      refine rn 1 11 [(1, sv ad1 p1 cap2), (2, sv ad4 p2 cap5), (3, pb b7), (10, sv ad88 l87 cap89), (11, iv x81)] hF fun a hF => ?_
      refine WI.fin rfl (norm_block <| norm_then <| ?_)
      refine WI.region ?_
      replace h := bindS h
      obtain ⟨x90, hx90, h⟩ := h
      refine rno 3 [.run [] (binOp .add 3 (iv x81) (iv 1)) (iv x90)] 3 [(1, sv ad1 p1 cap2), (2, sv ad4 p2 cap5), (3, pb b7), (10, sv ad88 l87 cap89), (11, iv x90)] hF (ocons (obAddC (fun _ => hx90)) onil) fun a hF => ?_
      refine wfn rfl ?_
      rw [hk3] at h
      exact ⟨n_, Nat.lt_succ_self _, l87, x90, ad88, cap89, hF.sub (by kernel_rfl), St.pick [1, 2, 3] (by decide) hS, h⟩
    ·replace h := bif_f h hc
     refine wpIn_exit (exit_then <| exit_then <| exit_hit <| norm_then ?_)
     exact ⟨l80, ad78, cap79, hF.sub (by kernel_rfl), St.pick [0, 1, 2] (by decide) hS, h⟩
   rintro a w ⟨l56, ad54, cap55, hF, hS, h⟩
   rw [ref06_Judge_K2] at h
   refine esr ?_
   refine rn 3 3 [(6, sv ad54 l56 cap55), (7, iv 0)] hF fun a hF => ?_
   refine wfn rfl ?_
   refine wpIn_ret (fn_ret [.tmp 6, .tmp 7] [sv ad54 l56 cap55, iv 0] hF rfl ⟨rfl, rfl, trivial⟩ ?_)
   have hr_ := Option.some.inj h
   subst hr_
   exact ⟨_, _, rfl, St.pick [0] (by decide) hS⟩

theorem ref06_Where_ok (F : Nat) (p0 : ref06_Radar) (p1 : (List ref06_Job)) (p2 : (List Int)) (p3 : Int) (res : (Int × Int × Int)) (h : ref06_Where F p0 p1 p2 p3 = some res) (μ : Frz) (w0 : World) (hm : FrzAt μ w0) {ad1 : Option Addr} {cap2 : Nat} {ad4 : Option Addr} {cap5 : Nat} (hA3 : ArrM μ 8 ref06_Job.cells ad1 cap2 p1) (hA6 : ArrM μ 1 fI ad4 cap5 p2) : Calls Try.prog 25 #[p0.ag, sv ad1 p1 cap2, sv ad4 p2 cap5, iv p3] w0 (fun e w => e = .returned (.tuple #[iv res.1, iv res.2.1, iv res.2.2]) ∧ Ext w0 w) := by
 obtain ⟨hlow, hS⟩ := hm.init
 have hext := Frz.ext_refl w0.heap.size μ
 rw [ref06_Where] at h
 refine fn_enterW Try.func25 rfl 87 [(0, p0.ag), (1, sv ad1 p1 cap2), (2, sv ad4 p2 cap5), (3, iv p3)] rfl rfl (by kernel_rfl) fun a w hw hF => ?_
 replace hS : St w0 [fz w0 μ] w := by rw [hw]; exact hS
 clear hw
 refine esr ?_
 refine SK.wi (boxK (t := 23) (fun b7 => [(1, sv ad1 p1 cap2), (2, sv ad4 p2 cap5), (3, iv p3), (4, pb b7)]) (p0.ag) p0.ar hF hS (by kernel_rfl) ⟨by kernel_rfl⟩ (by kernel_rfl) (fun _ => ⟨by kernel_rfl⟩) fun b7 w a hF hS => ?_)
 refine rn 3 4 [(1, sv ad1 p1 cap2), (2, sv ad4 p2 cap5), (3, iv p3), (4, pb b7)] hF fun a hF => ?_
 refine wfn rfl ?_
 refine esr ?_
 refine rno 3 [.run [] (Instr.loadAt 23 (pb b7)) (p0.ag)] 3 [(1, sv ad1 p1 cap2), (2, sv ad4 p2 cap5), (3, iv p3), (4, pb b7), (20, p0.ag), (21, sv ad1 p1 cap2), (22, sv ad4 p2 cap5)] hF (ocons (obN (us := p0.cells) (by kernel_rfl) (fun _ hd => ((hS.at_ hd).blk (i := 0) rfl).cells rfl)) onil) fun a hF => ?_
 replace h := bindS h
 obtain ⟨y9, hy9, h⟩ := h
 refine SK.wi (callK (f := 20) (args := #[p0.ag, sv ad1 p1 cap2, sv ad4 p2 cap5]) (R := fun v w2 => ∃ ad10 cap11, v = .tuple #[sv ad10 y9.1 cap11, iv y9.2] ∧ St w [arr 3 1 fI ad10 y9.1.length cap11 y9.1] w2) (fun v8 => [(1, sv ad1 p1 cap2), (2, sv ad4 p2 cap5), (3, iv p3), (4, pb b7), (23, v8)]) hF (by kernel_rfl) ⟨by kernel_rfl⟩ (Calls.mono (ref06_Judge_ok F p0 p1 p2 _ hy9 (memOf w) w (memOf_at w) (hA3.mono (FrzAt.le_mem (hS.frz (i := 1) rfl hlow))) (hA6.mono (FrzAt.le_mem (hS.frz (i := 1) rfl hlow)))) (by rintro e w2 ⟨ad10, cap11, rfl, h⟩; exact ⟨_, rfl, ad10, cap11, rfl, h⟩)) (fun _ => ⟨by kernel_rfl⟩) ?_)
 rintro v8 w a ⟨ad10, cap11, rfl, hQ⟩ hF
 replace hS : St w0 [arr 3 1 fI ad10 y9.1.length cap11 y9.1, blk b7 23 p0.ar, fz w0 μ] w := hS.madeL hQ
 refine rn 5 9 [(1, sv ad1 p1 cap2), (2, sv ad4 p2 cap5), (3, iv p3), (4, pb b7), (12, iv y9.2)] hF fun a hF => ?_
 refine wfn rfl ?_
 refine eseq ?_
 refine esr ?_
 refine rn 2 2 [(1, sv ad1 p1 cap2), (2, sv ad4 p2 cap5), (3, iv p3), (4, pb b7), (12, iv y9.2), (27, .bool (y9.2 != 0))] hF fun a hF => ?_
 refine wfn rfl ?_
 refine econd hF rfl (fun hc => ?_) (fun hc => ?_)
 ·replace h := bif_t h hc
  refine esr ?_
  refine rn 4 4 [(8, iv 0), (9, iv 0), (10, iv y9.2)] hF fun a hF => ?_
  refine wfn rfl ?_
  refine wpIn_ret (ret_then <| fn_ret [.tmp 8, .tmp 9, .tmp 10] [iv 0, iv 0, iv y9.2] hF rfl ⟨rfl, rfl, rfl, trivial⟩ ?_)
  have hr_ := Option.some.inj h
  subst hr_
  exact ⟨rfl, hS.ext⟩
 ·replace h := bif_f h hc
  refine wpIn_skip (norm_then ?_)
  refine eseq ?_
  refine esr ?_
  refine rx 3 [.call [] 48 #[iv p3, iv 0, iv 4294967296] (.bool (ref01_In p3 0 4294967296))] 3 [(1, sv ad1 p1 cap2), (2, sv ad4 p2 cap5), (3, iv p3), (4, pb b7), (31, .bool (!(ref01_In p3 0 4294967296)))] hF (ocons (show Ob.ok _ Ext _ _ from fun hk w2 hd => ref01_In_ok p3 0 4294967296 _ rfl _ w2 (memOf_at w2) ) onil) fun a w hF hx => ?_
  replace hS := hS.later hx
  refine wfn rfl ?_
  refine econd hF rfl (fun hc => ?_) (fun hc => ?_)
  ·replace h := bif_t h hc
   refine esr ?_
   refine rn 3 3 [(8, iv 0), (9, iv 0), (10, iv 3)] hF fun a hF => ?_
   refine wfn rfl ?_
   refine wpIn_ret (ret_then <| fn_ret [.tmp 8, .tmp 9, .tmp 10] [iv 0, iv 0, iv 3] hF rfl ⟨rfl, rfl, rfl, trivial⟩ ?_)
   have hr_ := Option.some.inj h
   subst hr_
   exact ⟨rfl, hS.ext⟩
  ·replace h := bif_f h hc
   refine wpIn_skip (norm_then ?_)
   refine eseq ?_
   replace h := bindS h
   obtain ⟨u12, hu12, h⟩ := h
   replace h := bindS h
   obtain ⟨u13, hu13, h⟩ := h
   replace h := bindS h
   obtain ⟨y15, hy15, h⟩ := h
   refine region_treeW 15 [9] _ (D := fun w => St w0 [arr 3 1 fI ad10 y9.1.length cap11 y9.1, blk b7 23 p0.ar] w ∧ FrzAt μ w) (by kernel_rfl) (by kernel_rfl) hF.size (fun w hx => ?_) (fun _ _ h => h)
   replace hS := hS.later hx
   refine ⟨⟨St.pick [0, 1] (by decide) hS, hS.frz (i := 2) rfl hlow⟩, ?_⟩
   have hcl21 := Frz.le_refl μ
   refine WT.s [0, 1, 2, 3, 4, 5, 6, 7, 8] [9] (by kernel_rfl) (by kernel_rfl) ?_
   refine runC (rest := []) (obs := [.run [] (Instr.loadAt 23 (pb b7)) (p0.ag), .run [] (Instr.indexAt 40 (sv ad4 p2 cap5) (iv 0)) (.pointer (some (slAddr ad4 0 1))), .run [] (Instr.loadAt 3 (.pointer (some (slAddr ad4 0 1)))) (iv u12), .run [] (Instr.indexAt 39 (sv ad1 p1 cap2) (iv u12)) (.pointer (some (slAddr ad1 u12 8))), .run [] (Instr.loadAt 27 (.pointer (some (slAddr ad1 u12 8)))) (u13.ag)]) [0, 1, 2, 3, 4, 5, 6, 7, 8] [(1, sv ad1 p1 cap2), (2, sv ad4 p2 cap5), (3, iv p3), (4, pb b7), (33, p0.ag), (34, sv ad1 p1 cap2), (35, sv ad4 p2 cap5), (41, u13.ag)] hF (by kernel_rfl) (by kernel_rfl) (ocons (obN (us := p0.cells) (by kernel_rfl) (fun _ hd => (hd.1.blk (i := 1) rfl).cells rfl)) (ocons (obIdxQ (hA6 _ (hS.frz (i := 2) rfl hlow)) (by kernel_rfl) (fun _ => hu12)) (ocons (obElQ (i := 0) 0 fI_len (fun _ hd => (hA6 _ hd.2)) (by kernel_rfl) (fun _ => hu12) rfl) (ocons (obIdxQ (hA3 _ (hS.frz (i := 2) rfl hlow)) (by kernel_rfl) (fun _ => hu13)) (ocons (obElNQ (m := 8) (i := u12) (us := u13.cells) 0 ref06_Job.cells_len (fun _ hd => (hA3 _ hd.2)) (by kernel_rfl) (fun _ => hu13) ⟨rfl, rfl⟩) onil))))) ⟨by kernel_rfl⟩ fun a hF => ?_
   refine WRun.fin ?_
   refine all_cons ?_ (all_nil)
   refine callK (f := 55) (args := #[p0.ag, sv ad1 p1 cap2, sv ad4 p2 cap5, u13.ag]) (R := fun v w2 => ∃ ad23 cap24, v = .tuple #[sv ad23 y15.1 cap24, iv y15.2] ∧ St w [arr 3 1 fI ad23 y15.1.length cap24 y15.1] w2) (fun v22 => [(1, sv ad1 p1 cap2), (2, sv ad4 p2 cap5), (3, iv p3), (4, pb b7), (42, v22)]) hF (by kernel_rfl) ⟨by kernel_rfl⟩ (Calls.mono (ref06_begins_ok F p0 p1 p2 u13 _ hy15 (memOf w) w (memOf_at w) (hA3.mono (FrzAt.le_mem (hS.frz (i := 2) rfl hlow))) (hA6.mono (FrzAt.le_mem (hS.frz (i := 2) rfl hlow)))) (by rintro e w2 ⟨ad23, cap24, rfl, h⟩; exact ⟨_, rfl, ad23, cap24, rfl, h⟩)) (fun _ => ⟨by kernel_rfl⟩) ?_
   rintro v22 w a ⟨ad23, cap24, rfl, hQ⟩ hF
   replace hS : St w0 [arr 3 1 fI ad23 y15.1.length cap24 y15.1, arr 3 1 fI ad10 y9.1.length cap11 y9.1, blk b7 23 p0.ar, fz w0 μ] w := hS.madeL hQ
   refine ⟨⟨St.pick [1, 2] (by decide) hS, (hS.frz (i := 3) rfl hlow)⟩, ?_⟩
   refine WT.z [10, 11, 12, 13, 14] (by kernel_rfl) ?_
   refine runC (rest := []) (obs := []) [10, 11, 12, 13, 14] [(1, sv ad1 p1 cap2), (2, sv ad4 p2 cap5), (3, iv p3), (4, pb b7), (13, sv ad23 y15.1 cap24), (14, iv y15.2)] hF (by kernel_rfl) (by kernel_rfl) onil ⟨by kernel_rfl⟩ fun a hF => ?_
   refine WRun.fin ?_
   refine wfn rfl ?_
   refine esr ?_
   replace h := bindS h
   obtain ⟨x25, hx25, h⟩ := h
   refine rno 4 [.run [] (binOp .rem 3 (iv p3) (iv y15.2)) (iv x25)] 4 [(1, sv ad1 p1 cap2), (2, sv ad4 p2 cap5), (3, iv x25), (4, pb b7), (13, sv ad23 y15.1 cap24)] hF (ocons (obRemC (fun _ => hx25)) onil) fun a hF => ?_
   refine wfn rfl ?_
   refine esr ?_
   refine rn 1 1 [(1, sv ad1 p1 cap2), (2, sv ad4 p2 cap5), (3, iv x25), (4, pb b7), (13, sv ad23 y15.1 cap24), (15, iv 0)] hF fun a hF => ?_
   refine wfn rfl ?_
   refine ecut (fun a w => ∃ (x51 : Int), Fr 87 [] [(1, sv ad1 p1 cap2), (2, sv ad4 p2 cap5), (3, iv x25), (4, pb b7), (13, sv ad23 y15.1 cap24), (15, iv x51)] a ∧ St w0 [arr 3 1 fI ad23 y15.1.length cap24 y15.1, arr 3 1 fI ad10 y9.1.length cap11 y9.1, blk b7 23 p0.ar, fz w0 μ] w ∧ ref06_Where_K1 F p0 p1 p2 y15 x25 x51 = some res) ?_ ?_
   ·skip
    refine esr ?_
    refine rn 1 1 [(1, sv ad1 p1 cap2), (2, sv ad4 p2 cap5), (3, iv x25), (4, pb b7), (13, sv ad23 y15.1 cap24), (15, iv 0), (16, iv 0)] hF fun a hF => ?_
    refine wfn rfl ?_
    refine wpIn_block ?_
    refine eloop (fun n_ a w => ∃ (x77 : Int) (x78 : Int), Fr 87 [] [(1, sv ad1 p1 cap2), (2, sv ad4 p2 cap5), (3, iv x25), (4, pb b7), (13, sv ad23 y15.1 cap24), (15, iv x77), (16, iv x78)] a ∧ St w0 [arr 3 1 fI ad23 y15.1.length cap24 y15.1, arr 3 1 fI ad10 y9.1.length cap11 y9.1, blk b7 23 p0.ar, fz w0 μ] w ∧ ref06_Where_L2 F p0 p1 p2 y15 x25 n_ x77 x78 = some res) F ⟨0, 0, hF.sub (by kernel_rfl), St.pick [0, 1, 2, 3] (by decide) hS, h⟩ ?_
    rintro n_ a w ⟨x77, x78, hF, hS, h⟩
    rcases n_ with _ | n_
    ·cases (show (none : Option (Int × Int × Int)) = some res from h)
    obtain ⟨k2, hk2⟩ : ∃ k, k = ref06_Where_L2 F p0 p1 p2 y15 x25 n_ := ⟨_, rfl⟩
    replace h : ref06_Where_B2 F p0 p1 p2 y15 x25 k2 x77 x78 = some res := by rw [hk2]; exact h
    rw [ref06_Where_B2] at h
    refine eseq ?_
    refine esr ?_
    refine rn 4 4 [(1, sv ad1 p1 cap2), (2, sv ad4 p2 cap5), (3, iv x25), (4, pb b7), (13, sv ad23 y15.1 cap24), (15, iv x77), (16, iv x78), (51, .bool (decide (x78 < (ln y15.1))))] hF fun a hF => ?_
    refine wfn rfl ?_
    refine econd hF rfl (fun hc => ?_) (fun hc => ?_)
    ·replace h := bif_t h hc
     refine wpIn_skip (norm_then ?_)
     refine ecut (fun a w => ∃ (x81 : Int), Fr 87 [] [(1, sv ad1 p1 cap2), (2, sv ad4 p2 cap5), (3, iv x25), (4, pb b7), (13, sv ad23 y15.1 cap24), (15, iv x81), (16, iv x78)] a ∧ St w0 [arr 3 1 fI ad23 y15.1.length cap24 y15.1, arr 3 1 fI ad10 y9.1.length cap11 y9.1, blk b7 23 p0.ar, fz w0 μ] w ∧ ref06_Where_K3 x78 k2 x81 = some res) ?_ ?_
     ·skip
      refine wpIn_block ?_
      refine esr ?_
      replace h := bindS h
      obtain ⟨u84, hu84, h⟩ := h
      refine rno 6 [.run [] (Instr.indexAt 40 (sv ad23 y15.1 cap24) (iv x78)) (.pointer (some (slAddr ad23 x78 1))), .run [] (Instr.loadAt 3 (.pointer (some (slAddr ad23 x78 1)))) (iv u84)] 6 [(1, sv ad1 p1 cap2), (2, sv ad4 p2 cap5), (3, iv x25), (4, pb b7), (13, sv ad23 y15.1 cap24), (15, iv x77), (16, iv x78), (59, .bool (decide (u84 ≤ x25)))] hF (ocons (obIdxQ (hS.arr (i := 0) rfl) (by kernel_rfl) (fun _ => hu84)) (ocons (obElQ (i := x78) 0 fI_len (fun _ hd => ((hS.at_ hd).arr (i := 0) rfl)) (by kernel_rfl) (fun _ => hu84) rfl) onil)) fun a hF => ?_
      refine wfn rfl ?_
      refine econd hF rfl (fun hc => ?_) (fun hc => ?_)
      ·replace h := bif_t h hc
       refine WI.region ?_
       refine rn 2 2 [(1, sv ad1 p1 cap2), (2, sv ad4 p2 cap5), (3, iv x25), (4, pb b7), (13, sv ad23 y15.1 cap24), (15, iv x78), (16, iv x78)] hF fun a hF => ?_
       refine WI.fin rfl (norm_block <| norm_then <| ?_)
       exact ⟨x78, hF.sub (by kernel_rfl), St.pick [0, 1, 2, 3] (by decide) hS, h⟩
      ·replace h := bif_f h hc
       refine wpIn_skip (norm_block <| norm_then <| ?_)
       exact ⟨x77, hF.sub (by kernel_rfl), St.pick [0, 1, 2, 3] (by decide) hS, h⟩
     rintro a w ⟨x81, hF, hS, h⟩
     rw [ref06_Where_K3] at h
     refine WI.region ?_
     replace h := bindS h
     obtain ⟨x82, hx82, h⟩ := h
     refine rno 3 [.run [] (binOp .add 3 (iv x78) (iv 1)) (iv x82)] 3 [(1, sv ad1 p1 cap2), (2, sv ad4 p2 cap5), (3, iv x25), (4, pb b7), (13, sv ad23 y15.1 cap24), (15, iv x81), (16, iv x82)] hF (ocons (obAddC (fun _ => hx82)) onil) fun a hF => ?_
     refine wfn rfl ?_
     rw [hk2] at h
     exact ⟨n_, Nat.lt_succ_self _, x81, x82, hF.sub (by kernel_rfl), St.pick [0, 1, 2, 3] (by decide) hS, h⟩
    ·replace h := bif_f h hc
     refine wpIn_exit (exit_then <| exit_then <| exit_hit <| norm_then ?_)
     exact ⟨x77, hF.sub (by kernel_rfl), St.pick [0, 1, 2, 3] (by decide) hS, h⟩
   rintro a w ⟨x51, hF, hS, h⟩
   rw [ref06_Where_K1] at h
   refine eseq ?_
   replace h := bindS h
   obtain ⟨u52, hu52, h⟩ := h
   replace h := bindS h
   obtain ⟨x53, hx53, h⟩ := h
   replace h := bindS h
   obtain ⟨u54, hu54, h⟩ := h
   replace h := bindS h
   obtain ⟨u55, hu55, h⟩ := h
   replace h := bindS h
   obtain ⟨y56, hy56, h⟩ := h
   refine runD (obs := [.run [] (Instr.indexAt 40 (sv ad23 y15.1 cap24) (iv x51)) (.pointer (some (slAddr ad23 x51 1))), .run [] (Instr.loadAt 3 (.pointer (some (slAddr ad23 x51 1)))) (iv u52), .run [] (binOp .sub 3 (iv x25) (iv u52)) (iv x53), .run [] (Instr.loadAt 23 (pb b7)) (p0.ag), .run [] (Instr.indexAt 40 (sv ad4 p2 cap5) (iv x51)) (.pointer (some (slAddr ad4 x51 1))), .run [] (Instr.loadAt 3 (.pointer (some (slAddr ad4 x51 1)))) (iv u54), .run [] (Instr.indexAt 39 (sv ad1 p1 cap2) (iv u54)) (.pointer (some (slAddr ad1 u54 8))), .run [] (Instr.loadAt 27 (.pointer (some (slAddr ad1 u54 8)))) (u55.ag), .call [] 45 #[p0.ag, u55.ag] (iv y56)]) 17 [(4, pb b7), (15, iv x51), (17, iv x53), (18, iv y56)] (by kernel_rfl) hF (by kernel_rfl) (ocons (obIdxQ (hS.arr (i := 0) rfl) (by kernel_rfl) (fun _ => hu52)) (ocons (obElQ (i := x51) 0 fI_len (fun _ hd => ((hS.later hd).arr (i := 0) rfl)) (by kernel_rfl) (fun _ => hu52) rfl) (ocons (obSubC (fun _ => hx53)) (ocons (obN (us := p0.cells) (by kernel_rfl) (fun _ hd => ((hS.later hd).blk (i := 2) rfl).cells rfl)) (ocons (obIdxQ (hA6 _ (hS.frz (i := 3) rfl hlow)) (by kernel_rfl) (fun _ => hu54)) (ocons (obElQ (i := x51) 0 fI_len (fun _ hd => (hA6 _ ((hS.later hd).frz (i := 3) rfl hlow))) (by kernel_rfl) (fun _ => hu54) rfl) (ocons (obIdxQ (hA3 _ (hS.frz (i := 3) rfl hlow)) (by kernel_rfl) (fun _ => hu55)) (ocons (obElNQ (m := 8) (i := u54) (us := u55.cells) 0 ref06_Job.cells_len (fun _ hd => (hA3 _ ((hS.later hd).frz (i := 3) rfl hlow))) (by kernel_rfl) (fun _ => hu55) ⟨rfl, rfl⟩) (ocons (show Ob.ok _ Ext _ _ from fun hk w2 hd => ref06_time_ok F p0 u55 _ ((fun _ => hy56) hk) _ w2 (memOf_at w2) ) onil))))))))) ⟨by kernel_rfl⟩ fun a w hF hx => ?_
   replace hS := hS.later hx
   refine wfn rfl ?_
   refine eseq ?_
   refine esr ?_
   refine rn 3 3 [(4, pb b7), (15, iv x51), (17, iv x53), (18, iv y56), (78, .bool (decide (x53 ≥ y56)))] hF fun a hF => ?_
   refine wfn rfl ?_
   refine econd hF rfl (fun hc => ?_) (fun hc => ?_)
   ·replace h := bif_t h hc
    refine esr ?_
    refine rn 4 4 [(8, iv x51), (9, iv (-1)), (10, iv 0)] hF fun a hF => ?_
    refine wfn rfl ?_
    refine wpIn_ret (ret_then <| fn_ret [.tmp 8, .tmp 9, .tmp 10] [iv x51, iv (-1), iv 0] hF rfl ⟨rfl, rfl, rfl, trivial⟩ ?_)
    have hr_ := Option.some.inj h
    subst hr_
    exact ⟨rfl, hS.ext⟩
   ·replace h := bif_f h hc
    refine wpIn_skip (norm_then ?_)
    refine eseq ?_
    replace h := bindS h
    obtain ⟨x57, hx57, h⟩ := h
    replace h := bindS h
    obtain ⟨x58, hx58, h⟩ := h
    refine runD (obs := [.run [] (Instr.loadAt 3 (pb b7)) (iv p0.Rays), .run [] (binOp .mul 3 (iv x53) (iv p0.Rays)) (iv x57), .run [] (binOp .quo 3 (iv x57) (iv y56)) (iv x58)]) 10 [(8, iv x51), (9, iv x58), (10, iv 0)] (by kernel_rfl) hF (by kernel_rfl) (ocons (ob1 (by kernel_rfl) (fun _ hd => (hS.later hd).cell (i := 2) (j := 0) rfl rfl)) (ocons (obMulC (fun _ => hx57)) (ocons (obQuoC (fun _ => hx58)) onil))) ⟨by kernel_rfl⟩ fun a w hF hx => ?_
    replace hS := hS.later hx
    refine wfn rfl ?_
    refine wpIn_ret (fn_ret [.tmp 8, .tmp 9, .tmp 10] [iv x51, iv x58, iv 0] hF rfl ⟨rfl, rfl, rfl, trivial⟩ ?_)
    have hr_ := Option.some.inj h
    subst hr_
    exact ⟨rfl, hS.ext⟩
end Go.Proofs.Ytejffembnkojjaa
