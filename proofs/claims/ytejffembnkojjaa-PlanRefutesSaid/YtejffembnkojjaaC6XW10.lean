/- Walks, written by program (wip/gen/dec.py). -/
import Derived.Test.YtejffembnkojjaaC6XD
import Derived.Test.YtejffembnkojjaaProg
import Derived.Test.YtejffembnkojjaaC6XW0
import Derived.Test.YtejffembnkojjaaC6XW2
import Derived.Test.YtejffembnkojjaaC6XW4
import Derived.Test.YtejffembnkojjaaC6XW8
import Derived.Test.YtejffembnkojjaaC6XW9
namespace Go.Proofs.Ytejffembnkojjaa
open Go Go.RowKit Go.Eng
set_option maxRecDepth 10000
set_option maxHeartbeats 4000000
set_option linter.unusedVariables false
set_option linter.unusedSimpArgs false
theorem pplan_desk_begun_1_ok {σ γ : Type} (F : Nat) (c0_ : (Option plan_desk)) (c1_ : Int) (body : σ → plan_line → Option (σ × Bool)) (s_ : σ) (res : σ × Bool) (h : pplan_desk_begun_1 F c0_ c1_ body s_ = some res) (l_ : Nat) (μ : Frz) (w0 w1 : World) (RC : σ → Bool → γ → List Res) (PC : σ → Bool → γ → Frz → Prop) (hPm : ∀ s b g μ ν, PC s b g μ → μ.le ν → PC s b g ν) (hy : ∀ (s : σ) (x : plan_line) (q : σ × Bool), body s x = some q → ∀ (ν : Frz) (g : γ) (G : List Res) (w : World) (pv_1 : Option Addr) (ad_2 : Option Addr) (cap_3 : Nat) (ad_4 : Option Addr) (cap_5 : Nat), μ.ext w0.heap.size ν → FrzIn w0 ν → PC s true g ν → PtM ν 113 Rp113 pv_1 x.desk → ArrM ν 1 fI ad_2 cap_3 x.jobs → ArrM ν 1 fI ad_4 cap_5 x.at_ → St w0 (fz w0 ν :: (RC s true g ++ G)) w → Eng.Yields Try.prog l_ #[.agg #[.pointer pv_1, sv ad_2 x.jobs cap_3, sv ad_4 x.at_ cap_5, iv x.done]] w (fun c w2 => c = q.2 ∧ ∃ ν2 g2, ν.ext w0.heap.size ν2 ∧ FrzIn w0 ν2 ∧ PC q.1 q.2 g2 ν2 ∧ St w0 (fz w0 ν2 :: (RC q.1 q.2 g2 ++ G)) w2)) (g_ : γ) (G_ : List Res) (hlow : FrzIn w0 μ) (hP : PC s_ true g_ μ) (hS : St w0 (fz w0 μ :: (RC s_ true g_ ++ G_)) w1) {cb1 : Nat} {cb2 : Nat} {pv1 : Option Addr} (hcb1 : BlkM μ cb1 100 #[.pointer pv1]) (hA2 : PtM μ 113 Rp113 pv1 c0_) (hcb2 : BlkM μ cb2 3 #[iv c1_]) : Calls Try.prog 83 #[.func (.yield l_) #[] #[], pb cb1, pb cb2] w1 (fun e w => ∃ (ν_ : Frz) (g2_ : γ), μ.ext w0.heap.size ν_ ∧ FrzIn w0 ν_ ∧ PC res.1 res.2 g2_ ν_ ∧ e = .returned (.tuple #[]) ∧ St w0 (fz w0 ν_ :: (RC res.1 res.2 g2_ ++ G_)) w) := by
 rw [pplan_desk_begun_1] at h
 have hext := Frz.ext_refl w0.heap.size μ
 refine fn_enterW Try.func83 rfl 10 [(0, .func (.yield l_) #[] #[]), (1, pb cb1), (2, pb cb2)] rfl rfl (by kernel_rfl) fun a w hw hF => ?_
 replace hS : St w0 (fz w0 μ :: (RC s_ true g_ ++ G_)) w := by rw [hw]; exact hS
 clear hw
 refine esr ?_
 refine SK.wi (boxK (t := 141) (fun b3 => [(1, pb cb1), (2, pb cb2), (3, pb b3)]) (.func (.yield l_) #[] #[]) #[.func (.yield l_) #[] #[]] hF hS (by kernel_rfl) ⟨by kernel_rfl⟩ (by kernel_rfl) (fun _ => ⟨by kernel_rfl⟩) fun b3 w a hF hS => ?_)
 refine wfn rfl ?_
 refine esr ?_
 refine SK.wi (allocK (t := 141) (fun b4 => [(1, pb cb1), (2, pb cb2), (3, pb b3), (4, pb b4)]) #[.nilFunc] hF hS (by kernel_rfl) ⟨by kernel_rfl⟩ (by kernel_rfl) (fun _ => ⟨by kernel_rfl⟩) fun b4 w a hF hS => ?_)
 refine wfn rfl ?_
 refine esr ?_
 refine rn 1 1 [(1, pb cb1), (4, pb b4), (5, .func (.func 84) #[] #[pb cb1, pb cb2, pb b3, pb b4])] hF fun a hF => ?_
 refine SK.wi (storeK (t := 141) [(1, pb cb1), (4, pb b4)] 0 0 (.func (.func 84) #[] #[pb cb1, pb cb2, pb b3, pb b4]) #[.func (.func 84) #[] #[pb cb1, pb cb2, pb b3, pb b4]] hF hS rfl (by kernel_rfl) ⟨by kernel_rfl⟩ (by kernel_rfl) (by kernel_rfl) (by kernel_rfl) (by kernel_rfl) ⟨by kernel_rfl⟩ fun w a hF hS => ?_)
 refine wfn rfl ?_
 refine WI.region ?_
 refine rno 3 [.run [] (Instr.loadAt 141 (pb b4)) (.func (.func 84) #[] #[pb cb1, pb cb2, pb b3, pb b4]), .run [] (Instr.loadAt 100 (pb cb1)) (.pointer pv1)] 3 [(6, .func (.func 84) #[] #[pb cb1, pb cb2, pb b3, pb b4]), (8, .agg #[.pointer pv1, .slice none 0 0, .slice none 0 0, iv 0])] hF (ocons (ob1 (by kernel_rfl) (fun _ hd => (hS.at_ hd).cell (i := 0) (j := 0) rfl rfl)) (ocons (ob1 (by kernel_rfl) (fun _ hd => (hcb1.blk ((hS.at_ hd).frz (i := 2) rfl hlow)).cell1 (j := 0) rfl)) onil)) fun a hF => ?_
 obtain ⟨ν5, hx6, hlow, hS, hz7⟩ := hS.freeze (i := 2) (j := 1) rfl rfl (by decide) hlow
 replace hcb1 := hcb1.mono hx6.1
 replace hA2 := hA2.mono Rp113.mono hx6.1
 replace hcb2 := hcb2.mono hx6.1
 replace hP := hPm _ _ _ _ _ hP hx6.1
 replace hext := Frz.ext_trans hext hx6
 replace hS : St w0 (blk b4 141 #[.func (.func 84) #[] #[pb cb1, pb cb2, pb b3, pb b4]] :: fz w0 ν5 :: (RC s_ true g_ ++ G_)) w := hS
 have hB8 : BlkM ν5 b3 141 #[.func (.yield l_) #[] #[]] := hz7
 obtain ⟨ν9, hx10, hlow, hS, hz11⟩ := hS.freeze (i := 1) (j := 0) rfl rfl (by decide) hlow
 replace hcb1 := hcb1.mono hx10.1
 replace hA2 := hA2.mono Rp113.mono hx10.1
 replace hcb2 := hcb2.mono hx10.1
 replace hP := hPm _ _ _ _ _ hP hx10.1
 replace hB8 := hB8.mono hx10.1
 replace hext := Frz.ext_trans hext hx10
 replace hS : St w0 (fz w0 ν9 :: (RC s_ true g_ ++ G_)) w := hS
 have hB12 : BlkM ν9 b4 141 #[.func (.func 84) #[] #[pb cb1, pb cb2, pb b3, pb b4]] := hz11
 replace h := bindS h
 obtain ⟨y13, hy13, h⟩ := h
 refine SK.wi (callK (f := 84) (args := #[.agg #[.pointer pv1, .slice none 0 0, .slice none 0 0, iv 0], pb cb1, pb cb2, pb b3, pb b4]) (R := fun v w2 => ∃ (ν_ : Frz) (g2_ : γ), ν9.ext w0.heap.size ν_ ∧ FrzIn w0 ν_ ∧ PC y13.1 y13.2.1 g2_ ν_ ∧ v = .bool y13.2.2 ∧ St w0 (fz w0 ν_ :: (RC y13.1 y13.2.1 g2_ ++ (G_ ++ []))) w2) (fun v17 => []) hF (by kernel_rfl) ⟨by kernel_rfl⟩ (Calls.mono (pplan_desk_begun_1_1_ok F (plan_line.mk c0_ ([] : (List Int)) ([] : (List Int)) 0) c0_ c1_ body s_ _ hy13 l_ ν9 w0 w RC PC hPm (fun s x q hb ν g G w a0_ a1_ a2_ a3_ a4_ hx => hy s x q hb ν g G w a0_ a1_ a2_ a3_ a4_ (Frz.ext_trans hext hx)) g_ (G_ ++ []) hlow hP (St.rot [] hS) hA2 ArrM.nil ArrM.nil hcb1 hA2 hcb2 hB8 hB12) (by rintro e w2 ⟨n1, n2, n3, n4, n5, rfl, n6⟩; exact ⟨_, rfl, n1, n2, n3, n4, n5, rfl, n6⟩)) (fun _ => ⟨by kernel_rfl⟩) ?_)
 rintro v17 w a ⟨ν14, g15, hx16, hlow, hP, rfl, hS⟩ hF
 replace hS := St.unrot [] hS
 replace hext := Frz.ext_trans hext hx16
 replace hcb1 := hcb1.mono hx16.1
 replace hA2 := hA2.mono Rp113.mono hx16.1
 replace hcb2 := hcb2.mono hx16.1
 replace hB8 := hB8.mono hx16.1
 replace hB12 := hB12.mono hx16.1
 replace hS : St w0 (fz w0 ν14 :: (RC y13.1 (y13.2.1) g15 ++ G_)) w := hS
 rcases Bool.eq_false_or_eq_true (y13.2.1) with hb18 | hb18
 ·replace h := bif_t h hb18
  rw [hb18] at hS hP
  replace hS : St w0 (fz w0 ν14 :: (RC y13.1 true g15 ++ G_)) w := hS
  refine WI.fin rfl ?_
  refine fn_end hF rfl ?_
  have hr_ := Option.some.inj h
  subst hr_
  exact ⟨ν14, g15, hext, hlow, hP, rfl, hS⟩
 ·replace h := bif_f h hb18
  rw [hb18] at hS hP
  replace hS : St w0 (fz w0 ν14 :: (RC y13.1 false g15 ++ G_)) w := hS
  refine WI.fin rfl ?_
  refine fn_end hF rfl ?_
  have hr_ := Option.some.inj h
  subst hr_
  exact ⟨ν14, g15, hext, hlow, hP, rfl, hS⟩

theorem pplan_desk_cuts_1_ok {σ γ : Type} (F : Nat) (c0_ : (Option plan_desk)) (c1_ : Int) (body : σ → (plan_line × Int) → Option (σ × Bool)) (s_ : σ) (res : σ × Bool) (h : pplan_desk_cuts_1 F c0_ c1_ body s_ = some res) (l_ : Nat) (μ : Frz) (w0 w1 : World) (RC : σ → Bool → γ → List Res) (PC : σ → Bool → γ → Frz → Prop) (hPm : ∀ s b g μ ν, PC s b g μ → μ.le ν → PC s b g ν) (hy : ∀ (s : σ) (x : (plan_line × Int)) (q : σ × Bool), body s x = some q → ∀ (ν : Frz) (g : γ) (G : List Res) (w : World) (pv_1 : Option Addr) (ad_2 : Option Addr) (cap_3 : Nat) (ad_4 : Option Addr) (cap_5 : Nat), μ.ext w0.heap.size ν → FrzIn w0 ν → PC s true g ν → PtM ν 113 Rp113 pv_1 x.1.desk → ArrM ν 1 fI ad_2 cap_3 x.1.jobs → ArrM ν 1 fI ad_4 cap_5 x.1.at_ → St w0 (fz w0 ν :: (RC s true g ++ G)) w → Eng.Yields Try.prog l_ #[.agg #[.pointer pv_1, sv ad_2 x.1.jobs cap_3, sv ad_4 x.1.at_ cap_5, iv x.1.done], iv x.2] w (fun c w2 => c = q.2 ∧ ∃ ν2 g2, ν.ext w0.heap.size ν2 ∧ FrzIn w0 ν2 ∧ PC q.1 q.2 g2 ν2 ∧ St w0 (fz w0 ν2 :: (RC q.1 q.2 g2 ++ G)) w2)) (g_ : γ) (G_ : List Res) (hlow : FrzIn w0 μ) (hP : PC s_ true g_ μ) (hS : St w0 (fz w0 μ :: (RC s_ true g_ ++ G_)) w1) {cb1 : Nat} {cb2 : Nat} {pv1 : Option Addr} (hcb1 : BlkM μ cb1 100 #[.pointer pv1]) (hA2 : PtM μ 113 Rp113 pv1 c0_) (hcb2 : BlkM μ cb2 3 #[iv c1_]) : Calls Try.prog 87 #[.func (.yield l_) #[] #[], pb cb1, pb cb2] w1 (fun e w => ∃ (ν_ : Frz) (g2_ : γ), μ.ext w0.heap.size ν_ ∧ FrzIn w0 ν_ ∧ PC res.1 res.2 g2_ ν_ ∧ e = .returned (.tuple #[]) ∧ St w0 (fz w0 ν_ :: (RC res.1 res.2 g2_ ++ G_)) w) := by
 rw [pplan_desk_cuts_1] at h
 have hext := Frz.ext_refl w0.heap.size μ
 refine fn_enterW Try.func87 rfl 10 [(0, .func (.yield l_) #[] #[]), (1, pb cb1), (2, pb cb2)] rfl rfl (by kernel_rfl) fun a w hw hF => ?_
 replace hS : St w0 (fz w0 μ :: (RC s_ true g_ ++ G_)) w := by rw [hw]; exact hS
 clear hw
 refine esr ?_
 refine SK.wi (boxK (t := 144) (fun b3 => [(1, pb cb1), (2, pb cb2), (3, pb b3)]) (.func (.yield l_) #[] #[]) #[.func (.yield l_) #[] #[]] hF hS (by kernel_rfl) ⟨by kernel_rfl⟩ (by kernel_rfl) (fun _ => ⟨by kernel_rfl⟩) fun b3 w a hF hS => ?_)
 refine wfn rfl ?_
 refine esr ?_
 refine SK.wi (allocK (t := 141) (fun b4 => [(1, pb cb1), (2, pb cb2), (3, pb b3), (4, pb b4)]) #[.nilFunc] hF hS (by kernel_rfl) ⟨by kernel_rfl⟩ (by kernel_rfl) (fun _ => ⟨by kernel_rfl⟩) fun b4 w a hF hS => ?_)
 refine wfn rfl ?_
 refine esr ?_
 refine rn 1 1 [(1, pb cb1), (4, pb b4), (5, .func (.func 88) #[] #[pb cb1, pb b3, pb cb2, pb b4])] hF fun a hF => ?_
 refine SK.wi (storeK (t := 141) [(1, pb cb1), (4, pb b4)] 0 0 (.func (.func 88) #[] #[pb cb1, pb b3, pb cb2, pb b4]) #[.func (.func 88) #[] #[pb cb1, pb b3, pb cb2, pb b4]] hF hS rfl (by kernel_rfl) ⟨by kernel_rfl⟩ (by kernel_rfl) (by kernel_rfl) (by kernel_rfl) (by kernel_rfl) ⟨by kernel_rfl⟩ fun w a hF hS => ?_)
 refine wfn rfl ?_
 refine WI.region ?_
 refine rno 3 [.run [] (Instr.loadAt 141 (pb b4)) (.func (.func 88) #[] #[pb cb1, pb b3, pb cb2, pb b4]), .run [] (Instr.loadAt 100 (pb cb1)) (.pointer pv1)] 3 [(6, .func (.func 88) #[] #[pb cb1, pb b3, pb cb2, pb b4]), (8, .agg #[.pointer pv1, .slice none 0 0, .slice none 0 0, iv 0])] hF (ocons (ob1 (by kernel_rfl) (fun _ hd => (hS.at_ hd).cell (i := 0) (j := 0) rfl rfl)) (ocons (ob1 (by kernel_rfl) (fun _ hd => (hcb1.blk ((hS.at_ hd).frz (i := 2) rfl hlow)).cell1 (j := 0) rfl)) onil)) fun a hF => ?_
 obtain ⟨ν5, hx6, hlow, hS, hz7⟩ := hS.freeze (i := 2) (j := 1) rfl rfl (by decide) hlow
 replace hcb1 := hcb1.mono hx6.1
 replace hA2 := hA2.mono Rp113.mono hx6.1
 replace hcb2 := hcb2.mono hx6.1
 replace hP := hPm _ _ _ _ _ hP hx6.1
 replace hext := Frz.ext_trans hext hx6
 replace hS : St w0 (blk b4 141 #[.func (.func 88) #[] #[pb cb1, pb b3, pb cb2, pb b4]] :: fz w0 ν5 :: (RC s_ true g_ ++ G_)) w := hS
 have hB8 : BlkM ν5 b3 144 #[.func (.yield l_) #[] #[]] := hz7
 obtain ⟨ν9, hx10, hlow, hS, hz11⟩ := hS.freeze (i := 1) (j := 0) rfl rfl (by decide) hlow
 replace hcb1 := hcb1.mono hx10.1
 replace hA2 := hA2.mono Rp113.mono hx10.1
 replace hcb2 := hcb2.mono hx10.1
 replace hP := hPm _ _ _ _ _ hP hx10.1
 replace hB8 := hB8.mono hx10.1
 replace hext := Frz.ext_trans hext hx10
 replace hS : St w0 (fz w0 ν9 :: (RC s_ true g_ ++ G_)) w := hS
 have hB12 : BlkM ν9 b4 141 #[.func (.func 88) #[] #[pb cb1, pb b3, pb cb2, pb b4]] := hz11
 replace h := bindS h
 obtain ⟨y13, hy13, h⟩ := h
 refine SK.wi (callK (f := 88) (args := #[.agg #[.pointer pv1, .slice none 0 0, .slice none 0 0, iv 0], pb cb1, pb b3, pb cb2, pb b4]) (R := fun v w2 => ∃ (ν_ : Frz) (g2_ : γ), ν9.ext w0.heap.size ν_ ∧ FrzIn w0 ν_ ∧ PC y13.1 y13.2.1 g2_ ν_ ∧ v = .bool y13.2.2 ∧ St w0 (fz w0 ν_ :: (RC y13.1 y13.2.1 g2_ ++ (G_ ++ []))) w2) (fun v17 => []) hF (by kernel_rfl) ⟨by kernel_rfl⟩ (Calls.mono (pplan_desk_cuts_1_1_ok F (plan_line.mk c0_ ([] : (List Int)) ([] : (List Int)) 0) c0_ c1_ body s_ _ hy13 l_ ν9 w0 w RC PC hPm (fun s x q hb ν g G w a0_ a1_ a2_ a3_ a4_ hx => hy s x q hb ν g G w a0_ a1_ a2_ a3_ a4_ (Frz.ext_trans hext hx)) g_ (G_ ++ []) hlow hP (St.rot [] hS) hA2 ArrM.nil ArrM.nil hcb1 hA2 hB8 hcb2 hB12) (by rintro e w2 ⟨n1, n2, n3, n4, n5, rfl, n6⟩; exact ⟨_, rfl, n1, n2, n3, n4, n5, rfl, n6⟩)) (fun _ => ⟨by kernel_rfl⟩) ?_)
 rintro v17 w a ⟨ν14, g15, hx16, hlow, hP, rfl, hS⟩ hF
 replace hS := St.unrot [] hS
 replace hext := Frz.ext_trans hext hx16
 replace hcb1 := hcb1.mono hx16.1
 replace hA2 := hA2.mono Rp113.mono hx16.1
 replace hcb2 := hcb2.mono hx16.1
 replace hB8 := hB8.mono hx16.1
 replace hB12 := hB12.mono hx16.1
 replace hS : St w0 (fz w0 ν14 :: (RC y13.1 (y13.2.1) g15 ++ G_)) w := hS
 rcases Bool.eq_false_or_eq_true (y13.2.1) with hb18 | hb18
 ·replace h := bif_t h hb18
  rw [hb18] at hS hP
  replace hS : St w0 (fz w0 ν14 :: (RC y13.1 true g15 ++ G_)) w := hS
  refine WI.fin rfl ?_
  refine fn_end hF rfl ?_
  have hr_ := Option.some.inj h
  subst hr_
  exact ⟨ν14, g15, hext, hlow, hP, rfl, hS⟩
 ·replace h := bif_f h hb18
  rw [hb18] at hS hP
  replace hS : St w0 (fz w0 ν14 :: (RC y13.1 false g15 ++ G_)) w := hS
  refine WI.fin rfl ?_
  refine fn_end hF rfl ?_
  have hr_ := Option.some.inj h
  subst hr_
  exact ⟨ν14, g15, hext, hlow, hP, rfl, hS⟩

theorem ref06_late_ok (F : Nat) (p0 : ref06_Radar) (p1 : (List ref06_Job)) (p2 : (List Int)) (res : Int) (h : ref06_late F p0 p1 p2 = some res) (μ : Frz) (w0 : World) (hm : FrzAt μ w0) {ad1 : Option Addr} {cap2 : Nat} {ad4 : Option Addr} {cap5 : Nat} (hA3 : ArrM μ 8 ref06_Job.cells ad1 cap2 p1) (hA6 : ArrM μ 1 fI ad4 cap5 p2) : Calls Try.prog 62 #[p0.ag, sv ad1 p1 cap2, sv ad4 p2 cap5] w0 (fun e w => e = .returned (iv res) ∧ Ext w0 w) := by
 obtain ⟨hlow, hS⟩ := hm.init
 have hext := Frz.ext_refl w0.heap.size μ
 rw [ref06_late] at h
 refine fn_enterW Try.func62 rfl 20 [(0, p0.ag), (1, sv ad1 p1 cap2), (2, sv ad4 p2 cap5)] rfl rfl (by kernel_rfl) fun a w hw hF => ?_
 replace hS : St w0 [fz w0 μ] w := by rw [hw]; exact hS
 clear hw
 refine esr ?_
 refine SK.wi (boxK (t := 23) (fun b7 => [(1, sv ad1 p1 cap2), (2, sv ad4 p2 cap5), (3, pb b7)]) (p0.ag) p0.ar hF hS (by kernel_rfl) ⟨by kernel_rfl⟩ (by kernel_rfl) (fun _ => ⟨by kernel_rfl⟩) fun b7 w a hF hS => ?_)
 refine rn 1 2 [(1, sv ad1 p1 cap2), (2, sv ad4 p2 cap5), (3, pb b7)] hF fun a hF => ?_
 refine wfn rfl ?_
 refine ecut (fun a w => Fr 20 [] [] a ∧ St w0 [blk b7 23 p0.ar, fz w0 μ] w ∧ ref06_late_K1 = some res) ?_ ?_
 ·skip
  refine esr ?_
  refine rn 1 1 [(1, sv ad1 p1 cap2), (2, sv ad4 p2 cap5), (3, pb b7), (7, iv 0)] hF fun a hF => ?_
  refine wfn rfl ?_
  refine wpIn_block ?_
  refine eloop (fun n_ a w => ∃ (x23 : Int), Fr 20 [] [(1, sv ad1 p1 cap2), (2, sv ad4 p2 cap5), (3, pb b7), (7, iv x23)] a ∧ St w0 [blk b7 23 p0.ar, fz w0 μ] w ∧ ref06_late_L2 F p0 p1 p2 n_ x23 = some res) F ⟨0, hF.sub (by kernel_rfl), St.pick [0, 1] (by decide) hS, h⟩ ?_
  rintro n_ a w ⟨x23, hF, hS, h⟩
  rcases n_ with _ | n_
  ·cases (show (none : Option Int) = some res from h)
  obtain ⟨k2, hk2⟩ : ∃ k, k = ref06_late_L2 F p0 p1 p2 n_ := ⟨_, rfl⟩
  replace h : ref06_late_B2 F p0 p1 p2 k2 x23 = some res := by rw [hk2]; exact h
  rw [ref06_late_B2] at h
  refine eseq ?_
  refine esr ?_
  refine rn 4 4 [(1, sv ad1 p1 cap2), (2, sv ad4 p2 cap5), (3, pb b7), (7, iv x23), (11, .bool (decide (x23 < (ln p1))))] hF fun a hF => ?_
  refine wfn rfl ?_
  refine econd hF rfl (fun hc => ?_) (fun hc => ?_)
  ·replace h := bif_t h hc
   refine wpIn_skip (norm_then ?_)
   refine eseq ?_
   refine wpIn_block ?_
   refine esr ?_
   replace h := bindS h
   obtain ⟨y25, hy25, h⟩ := h
   refine rx 5 [.run [] (Instr.loadAt 23 (pb b7)) (p0.ag), .call [] 66 #[p0.ag, sv ad1 p1 cap2, sv ad4 p2 cap5, iv x23] (.bool y25)] 5 [(1, sv ad1 p1 cap2), (2, sv ad4 p2 cap5), (3, pb b7), (7, iv x23), (18, .bool y25)] hF (ocons (obN (us := p0.cells) (by kernel_rfl) (fun _ hd => ((hS.later hd).blk (i := 0) rfl).cells rfl)) (ocons (show Ob.ok _ Ext _ _ from fun hk w2 hd => ref06_Late_ok F p0 p1 p2 x23 _ ((fun _ => hy25) hk) _ w2 (memOf_at w2) (hA3.mono (FrzAt.le_mem ((hS.later hd).frz (i := 1) rfl hlow))) (hA6.mono (FrzAt.le_mem ((hS.later hd).frz (i := 1) rfl hlow)))) onil)) fun a w hF hx => ?_
   replace hS := hS.later hx
   refine wfn rfl ?_
   refine econd hF rfl (fun hc => ?_) (fun hc => ?_)
   ·replace h := bif_t h hc
    refine esr ?_
    refine rn 2 2 [(6, iv x23)] hF fun a hF => ?_
    refine wfn rfl ?_
    refine wpIn_ret (ret_block <| ret_then <| ret_then <| ret_block <| ret_then <| fn_ret [.tmp 6] [iv x23] hF rfl ⟨rfl, trivial⟩ ?_)
    have hr_ := Option.some.inj h
    subst hr_
    exact ⟨rfl, hS.ext⟩
   ·replace h := bif_f h hc
    refine wpIn_skip (norm_block <| norm_then <| ?_)
    refine WI.region ?_
    replace h := bindS h
    obtain ⟨x26, hx26, h⟩ := h
    refine rno 3 [.run [] (binOp .add 3 (iv x23) (iv 1)) (iv x26)] 3 [(1, sv ad1 p1 cap2), (2, sv ad4 p2 cap5), (3, pb b7), (7, iv x26)] hF (ocons (obAddC (fun _ => hx26)) onil) fun a hF => ?_
    refine wfn rfl ?_
    rw [hk2] at h
    exact ⟨n_, Nat.lt_succ_self _, x26, hF.sub (by kernel_rfl), St.pick [0, 1] (by decide) hS, h⟩
  ·replace h := bif_f h hc
   refine wpIn_exit (exit_then <| exit_then <| exit_hit <| norm_then ?_)
   exact ⟨hF.sub (by kernel_rfl), St.pick [0, 1] (by decide) hS, h⟩
 rintro a w ⟨hF, hS, h⟩
 rw [ref06_late_K1] at h
 refine esr ?_
 refine rn 1 1 [(6, iv (-1))] hF fun a hF => ?_
 refine wfn rfl ?_
 refine wpIn_ret (fn_ret [.tmp 6] [iv (-1)] hF rfl ⟨rfl, trivial⟩ ?_)
 have hr_ := Option.some.inj h
 subst hr_
 exact ⟨rfl, hS.ext⟩

theorem ref06_Verify_ok (F : Nat) (p0 : ref06_Radar) (p1 : (List ref06_Job)) (p2 : (List ref06_Cut)) (res : Int) (h : ref06_Verify F p0 p1 p2 = some res) (μ : Frz) (w0 : World) (hm : FrzAt μ w0) {ad1 : Option Addr} {cap2 : Nat} {ad4 : Option Addr} {cap5 : Nat} {css6 : List (List Value)} (hA3 : ArrM μ 8 ref06_Job.cells ad1 cap2 p1) (hA7 : ArrQ μ 2 Rp59 ad4 cap5 css6 p2) : Calls Try.prog 33 #[p0.ag, sv ad1 p1 cap2, sv ad4 p2 cap5] w0 (fun e w => e = .returned (iv res) ∧ Ext w0 w) := by
 obtain ⟨hlow, hS⟩ := hm.init
 have hext := Frz.ext_refl w0.heap.size μ
 rw [ref06_Verify] at h
 refine fn_enterW Try.func33 rfl 88 [(0, p0.ag), (1, sv ad1 p1 cap2), (2, sv ad4 p2 cap5)] rfl rfl (by kernel_rfl) fun a w hw hF => ?_
 replace hS : St w0 [fz w0 μ] w := by rw [hw]; exact hS
 clear hw
 refine esr ?_
 refine SK.wi (boxK (t := 23) (fun b8 => [(1, sv ad1 p1 cap2), (2, sv ad4 p2 cap5), (3, pb b8)]) (p0.ag) p0.ar hF hS (by kernel_rfl) ⟨by kernel_rfl⟩ (by kernel_rfl) (fun _ => ⟨by kernel_rfl⟩) fun b8 w a hF hS => ?_)
 refine rn 1 2 [(1, sv ad1 p1 cap2), (2, sv ad4 p2 cap5), (3, pb b8)] hF fun a hF => ?_
 refine wfn rfl ?_
 refine esr ?_
 replace h := bindS h
 obtain ⟨y9, hy9, h⟩ := h
 refine rx 4 [.run [] (Instr.loadAt 23 (pb b8)) (p0.ag), .call [] 23 #[p0.ag, sv ad1 p1 cap2] (iv y9)] 4 [(1, sv ad1 p1 cap2), (2, sv ad4 p2 cap5), (3, pb b8), (7, iv y9)] hF (ocons (obN (us := p0.cells) (by kernel_rfl) (fun _ hd => ((hS.later hd).blk (i := 0) rfl).cells rfl)) (ocons (show Ob.ok _ Ext _ _ from fun hk w2 hd => ref06_Check_ok F p0 p1 _ ((fun _ => hy9) hk) _ w2 (memOf_at w2) (hA3.mono (FrzAt.le_mem ((hS.later hd).frz (i := 1) rfl hlow)))) onil)) fun a w hF hx => ?_
 replace hS := hS.later hx
 refine wfn rfl ?_
 refine eseq ?_
 refine esr ?_
 refine rn 2 2 [(1, sv ad1 p1 cap2), (2, sv ad4 p2 cap5), (3, pb b8), (7, iv y9), (16, .bool (y9 != 0))] hF fun a hF => ?_
 refine wfn rfl ?_
 refine econd hF rfl (fun hc => ?_) (fun hc => ?_)
 ·replace h := bif_t h hc
  refine esr ?_
  refine rn 2 2 [(6, iv y9)] hF fun a hF => ?_
  refine wfn rfl ?_
  refine wpIn_ret (ret_then <| fn_ret [.tmp 6] [iv y9] hF rfl ⟨rfl, trivial⟩ ?_)
  have hr_ := Option.some.inj h
  subst hr_
  exact ⟨rfl, hS.ext⟩
 ·replace h := bif_f h hc
  refine wpIn_skip (norm_then ?_)
  refine eseq ?_
  refine esr ?_
  refine rn 3 3 [(1, sv ad1 p1 cap2), (2, sv ad4 p2 cap5), (3, pb b8), (20, .bool (decide ((ln p2) > 5000)))] hF fun a hF => ?_
  refine wfn rfl ?_
  refine econd hF rfl (fun hc => ?_) (fun hc => ?_)
  ·replace h := bif_t h hc
   refine esr ?_
   refine rn 1 1 [(6, iv 9)] hF fun a hF => ?_
   refine wfn rfl ?_
   refine wpIn_ret (ret_then <| fn_ret [.tmp 6] [iv 9] hF rfl ⟨rfl, trivial⟩ ?_)
   have hr_ := Option.some.inj h
   subst hr_
   exact ⟨rfl, hS.ext⟩
  ·replace h := bif_f h hc
   refine wpIn_skip (norm_then ?_)
   refine ecut (fun a w => Fr 88 [] [(1, sv ad1 p1 cap2), (2, sv ad4 p2 cap5)] a ∧ St w0 [blk b8 23 p0.ar, fz w0 μ] w ∧ ref06_Verify_K1 F p1 p2 = some res) ?_ ?_
   ·skip
    refine esr ?_
    refine rn 1 1 [(1, sv ad1 p1 cap2), (2, sv ad4 p2 cap5), (3, pb b8), (8, iv 0)] hF fun a hF => ?_
    refine wfn rfl ?_
    refine wpIn_block ?_
    refine eloop (fun n_ a w => ∃ (x966 : Int), Fr 88 [] [(1, sv ad1 p1 cap2), (2, sv ad4 p2 cap5), (3, pb b8), (8, iv x966)] a ∧ St w0 [blk b8 23 p0.ar, fz w0 μ] w ∧ ref06_Verify_L2 F p0 p1 p2 n_ x966 = some res) F ⟨0, hF.sub (by kernel_rfl), St.pick [0, 1] (by decide) hS, h⟩ ?_
    rintro n_ a w ⟨x966, hF, hS, h⟩
    rcases n_ with _ | n_
    ·cases (show (none : Option Int) = some res from h)
    obtain ⟨k2, hk2⟩ : ∃ k, k = ref06_Verify_L2 F p0 p1 p2 n_ := ⟨_, rfl⟩
    replace h : ref06_Verify_B2 F p0 p1 p2 k2 x966 = some res := by rw [hk2]; exact h
    rw [ref06_Verify_B2] at h
    refine eseq ?_
    refine esr ?_
    refine rn 4 4 [(1, sv ad1 p1 cap2), (2, sv ad4 p2 cap5), (3, pb b8), (8, iv x966), (24, .bool (decide (x966 < (ln p2))))] hF fun a hF => ?_
    refine wfn rfl ?_
    refine econd hF rfl (fun hc => ?_) (fun hc => ?_)
    ·replace h := bif_t h hc
     refine wpIn_skip (norm_then ?_)
     refine ecut (fun a w => Fr 88 [] [(1, sv ad1 p1 cap2), (2, sv ad4 p2 cap5), (3, pb b8), (8, iv x966)] a ∧ St w0 [blk b8 23 p0.ar, fz w0 μ] w ∧ ref06_Verify_K3 x966 k2 = some res) ?_ ?_
     ·skip
      refine wpIn_block ?_
      refine esr ?_
      replace h := bindS h
      obtain ⟨u1064, hu1064, h⟩ := h
      obtain ⟨cs1065, hcs1066, hR1067⟩ := getI_all2 hA7.2 hu1064
      obtain ⟨ad1068, cap1069, rfl, hA1070⟩ := hR1067
      refine rno 6 [.run [] (Instr.indexAt 57 (sv ad4 p2 cap5) (iv x966)) (.pointer (some (slAddr ad4 x966 2))), .run [] (Instr.loadAt 40 (.pointer (some (slAddr ad4 x966 2)))) (sv ad1068 u1064.Begin cap1069)] 6 [(1, sv ad1 p1 cap2), (2, sv ad4 p2 cap5), (3, pb b8), (8, iv x966), (9, sv ad1068 u1064.Begin cap1069)] hF (ocons (obIdxQ (hA7.at (hS.frz (i := 1) rfl hlow)) (by kernel_rfl) (fun _ => hcs1066)) (ocons (obElQ (i := x966) 0 (fN_len 2) (fun _ hd => (hA7.at ((hS.at_ hd).frz (i := 1) rfl hlow))) (by kernel_rfl) (fun _ => hcs1066) rfl) onil)) fun a hF => ?_
      refine wfn rfl ?_
      refine esr ?_
      refine rn 9 9 [(1, sv ad1 p1 cap2), (2, sv ad4 p2 cap5), (3, pb b8), (8, iv x966), (9, sv ad1068 u1064.Begin cap1069), (40, .bool (bif (decide ((ln u1064.Begin) ≥ 1)) then (decide ((ln u1064.Begin) ≤ 16)) else false))] hF fun a hF => ?_
      rcases Bool.eq_false_or_eq_true ((bif (decide ((ln u1064.Begin) ≥ 1)) then (decide ((ln u1064.Begin) ≤ 16)) else false)) with hg1071 | hg1071
      ·replace h := bif_t h hg1071
       rw [hg1071] at hF
       replace h := bindS h
       obtain ⟨u1072, hu1072, h⟩ := h
       obtain ⟨cs1073, hcs1074, hR1075⟩ := getI_all2 hA7.2 hu1072
       obtain ⟨ad1076, cap1077, rfl, hA1078⟩ := hR1075
       replace h := bindS h
       obtain ⟨x1079, hx1079, h⟩ := h
       refine rx 11 [.run [⟨40, true, true⟩] (Instr.indexAt 57 (sv ad4 p2 cap5) (iv x966)) (.pointer (some (slAddr ad4 x966 2))), .run [⟨40, true, true⟩] (Instr.loadAt 3 (.pointer (some ((slAddr ad4 x966 2).add 1)))) (iv u1072.Late), .run [⟨40, true, true⟩] (binOp .sub 3 (iv (ln p1)) (iv 1)) (iv x1079), .call [⟨40, true, true⟩] 48 #[iv u1072.Late, iv 0, iv x1079] (.bool (ref01_In u1072.Late 0 x1079))] 20 [(1, sv ad1 p1 cap2), (2, sv ad4 p2 cap5), (3, pb b8), (8, iv x966), (9, sv ad1068 u1064.Begin cap1069), (10, .bool (ref01_In u1072.Late 0 x1079))] hF (ocons (obIdxQ (hA7.at (hS.frz (i := 1) rfl hlow)) (by kernel_rfl) (fun _ => hcs1074)) (ocons (obElQ (i := x966) 1 (fN_len 2) (fun _ hd => (hA7.at ((hS.later hd).frz (i := 1) rfl hlow))) (by kernel_rfl) (fun _ => hcs1074) rfl) (ocons (obSubC (fun _ => hx1079)) (ocons (show Ob.ok _ Ext _ _ from fun hk w2 hd => ref01_In_ok u1072.Late 0 x1079 _ rfl _ w2 (memOf_at w2) ) onil)))) fun a w hF hx => ?_
       replace hS := hS.later hx
       refine wfn rfl ?_
       refine ecut (fun a w => ∃ (c1094 : Bool), Fr 88 [] [(1, sv ad1 p1 cap2), (2, sv ad4 p2 cap5), (3, pb b8), (8, iv x966), (9, sv ad1068 u1064.Begin cap1069), (10, .bool c1094)] a ∧ St w0 [blk b8 23 p0.ar, fz w0 μ] w ∧ ref06_Verify_K4 F p0 p1 p2 x966 k2 u1064 c1094 = some res) ?_ ?_
       ·skip
        refine esr ?_
        refine rn 1 1 [(1, sv ad1 p1 cap2), (2, sv ad4 p2 cap5), (3, pb b8), (8, iv x966), (9, sv ad1068 u1064.Begin cap1069), (10, .bool (ref01_In u1072.Late 0 x1079)), (11, iv 0)] hF fun a hF => ?_
        refine wfn rfl ?_
        refine wpIn_block ?_
        refine eloop (fun n_ a w => ∃ (c1113 : Bool) (x1114 : Int), Fr 88 [] [(1, sv ad1 p1 cap2), (2, sv ad4 p2 cap5), (3, pb b8), (8, iv x966), (9, sv ad1068 u1064.Begin cap1069), (10, .bool c1113), (11, iv x1114)] a ∧ St w0 [blk b8 23 p0.ar, fz w0 μ] w ∧ ref06_Verify_L5 F p0 p1 p2 x966 k2 u1064 n_ c1113 x1114 = some res) F ⟨(ref01_In u1072.Late 0 x1079), 0, hF.sub (by kernel_rfl), St.pick [0, 1] (by decide) hS, h⟩ ?_
        rintro n_ a w ⟨c1113, x1114, hF, hS, h⟩
        rcases n_ with _ | n_
        ·cases (show (none : Option Int) = some res from h)
        obtain ⟨k5, hk5⟩ : ∃ k, k = ref06_Verify_L5 F p0 p1 p2 x966 k2 u1064 n_ := ⟨_, rfl⟩
        replace h : ref06_Verify_B5 F p0 p1 p2 x966 k2 u1064 k5 c1113 x1114 = some res := by rw [hk5]; exact h
        rw [ref06_Verify_B5] at h
        refine eseq ?_
        refine esr ?_
        refine rn 7 7 [(1, sv ad1 p1 cap2), (2, sv ad4 p2 cap5), (3, pb b8), (8, iv x966), (9, sv ad1068 u1064.Begin cap1069), (10, .bool c1113), (11, iv x1114), (57, .bool (bif (decide (x1114 < (ln u1064.Begin))) then c1113 else false))] hF fun a hF => ?_
        refine wfn rfl ?_
        refine econd hF rfl (fun hc => ?_) (fun hc => ?_)
        ·replace h := bif_t h hc
         refine wpIn_skip (norm_then ?_)
         refine eseq ?_
         refine wpIn_block ?_
         refine WI.region ?_
         replace h := bindS h
         obtain ⟨u1116, hu1116, h⟩ := h
         replace h := bindS h
         obtain ⟨x1117, hx1117, h⟩ := h
         refine rx 9 [.run [] (Instr.indexAt 40 (sv ad1068 u1064.Begin cap1069) (iv x1114)) (.pointer (some (slAddr ad1068 x1114 1))), .run [] (Instr.loadAt 3 (.pointer (some (slAddr ad1068 x1114 1)))) (iv u1116), .run [] (binOp .sub 3 (iv (ln p1)) (iv 1)) (iv x1117), .call [] 48 #[iv u1116, iv 0, iv x1117] (.bool (ref01_In u1116 0 x1117))] 9 [(1, sv ad1 p1 cap2), (2, sv ad4 p2 cap5), (3, pb b8), (8, iv x966), (9, sv ad1068 u1064.Begin cap1069), (10, .bool (ref01_In u1116 0 x1117)), (11, iv x1114)] hF (ocons (obIdxQ (hA1070 _ (hS.frz (i := 1) rfl hlow)) (by kernel_rfl) (fun _ => hu1116)) (ocons (obElQ (i := x1114) 0 fI_len (fun _ hd => (hA1070 _ ((hS.later hd).frz (i := 1) rfl hlow))) (by kernel_rfl) (fun _ => hu1116) rfl) (ocons (obSubC (fun _ => hx1117)) (ocons (show Ob.ok _ Ext _ _ from fun hk w2 hd => ref01_In_ok u1116 0 x1117 _ rfl _ w2 (memOf_at w2) ) onil)))) fun a w hF hx => ?_
         replace hS := hS.later hx
         refine WI.fin rfl (norm_block <| norm_then <| ?_)
         refine WI.region ?_
         replace h := bindS h
         obtain ⟨x1118, hx1118, h⟩ := h
         refine rno 3 [.run [] (binOp .add 3 (iv x1114) (iv 1)) (iv x1118)] 3 [(1, sv ad1 p1 cap2), (2, sv ad4 p2 cap5), (3, pb b8), (8, iv x966), (9, sv ad1068 u1064.Begin cap1069), (10, .bool (ref01_In u1116 0 x1117)), (11, iv x1118)] hF (ocons (obAddC (fun _ => hx1118)) onil) fun a hF => ?_
         refine wfn rfl ?_
         rw [hk5] at h
         exact ⟨n_, Nat.lt_succ_self _, (ref01_In u1116 0 x1117), x1118, hF.sub (by kernel_rfl), St.pick [0, 1] (by decide) hS, h⟩
        ·replace h := bif_f h hc
         refine wpIn_exit (exit_then <| exit_then <| exit_hit <| norm_then ?_)
         exact ⟨c1113, hF.sub (by kernel_rfl), St.pick [0, 1] (by decide) hS, h⟩
       rintro a w ⟨c1094, hF, hS, h⟩
       rw [ref06_Verify_K4] at h
       refine eseq ?_
       rcases Bool.eq_false_or_eq_true ((!c1094)) with hg1095 | hg1095
       ·replace h := bif_t h hg1095
        refine runD (obs := [.run [⟨70, false, (!c1094)⟩] (Instr.loadAt 23 (pb b8)) (.agg #[iv 0, iv 0, iv 0, iv 0]), .run [⟨70, false, (!c1094)⟩] (Instr.indexAt 57 (sv ad4 p2 cap5) (iv x966)) (pb 0), .run [⟨70, false, (!c1094)⟩] (Instr.loadAt 3 (.pointer (some ⟨0, 1, none⟩))) (iv 0), .call [⟨70, false, (!c1094)⟩] 66 #[.agg #[iv 0, iv 0, iv 0, iv 0], sv ad1 p1 cap2, sv ad1068 u1064.Begin cap1069, iv 0] (.bool false)]) 14 [(1, sv ad1 p1 cap2), (2, sv ad4 p2 cap5), (3, pb b8), (8, iv x966), (81, .bool (bif (!c1094) then true else true))] (by kernel_rfl) hF (by kernel_rfl) (ocons (obNo (conds_no (i := 0) (c := ⟨70, false, (!c1094)⟩) rfl (show ((!c1094) == false) = false by rw [hg1095]; rfl))) (ocons (obNo (conds_no (i := 0) (c := ⟨70, false, (!c1094)⟩) rfl (show ((!c1094) == false) = false by rw [hg1095]; rfl))) (ocons (obNo (conds_no (i := 0) (c := ⟨70, false, (!c1094)⟩) rfl (show ((!c1094) == false) = false by rw [hg1095]; rfl))) (ocons (obNoC (conds_no (i := 0) (c := ⟨70, false, (!c1094)⟩) rfl (show ((!c1094) == false) = false by rw [hg1095]; rfl))) onil)))) ⟨by kernel_rfl⟩ fun a w hF hx => ?_
        replace hS := hS.later hx
        refine wfn rfl ?_
        refine econd hF rfl (fun hc => ?_) (fun hc => ?_)
        ·replace h := bif_t h hc
         refine esr ?_
         refine rn 1 1 [(6, iv 20)] hF fun a hF => ?_
         refine wfn rfl ?_
         refine wpIn_ret (ret_block <| ret_then <| ret_then <| ret_block <| ret_then <| fn_ret [.tmp 6] [iv 20] hF rfl ⟨rfl, trivial⟩ ?_)
         have hr_ := Option.some.inj h
         subst hr_
         exact ⟨rfl, hS.ext⟩
        ·replace h := bif_f h hc
         refine wpIn_skip (norm_block <| norm_then <| ?_)
         exact ⟨hF.sub (by kernel_rfl), St.pick [0, 1] (by decide) hS, h⟩
       ·replace h := bif_f h hg1095
        replace h := bindS h
        obtain ⟨u1096, hu1096, h⟩ := h
        obtain ⟨cs1097, hcs1098, hR1099⟩ := getI_all2 hA7.2 hu1096
        obtain ⟨ad1100, cap1101, rfl, hA1102⟩ := hR1099
        replace h := bindS h
        obtain ⟨y1103, hy1103, h⟩ := h
        refine runD (obs := [.run [⟨70, false, (!c1094)⟩] (Instr.loadAt 23 (pb b8)) (p0.ag), .run [⟨70, false, (!c1094)⟩] (Instr.indexAt 57 (sv ad4 p2 cap5) (iv x966)) (.pointer (some (slAddr ad4 x966 2))), .run [⟨70, false, (!c1094)⟩] (Instr.loadAt 3 (.pointer (some ((slAddr ad4 x966 2).add 1)))) (iv u1096.Late), .call [⟨70, false, (!c1094)⟩] 66 #[p0.ag, sv ad1 p1 cap2, sv ad1068 u1064.Begin cap1069, iv u1096.Late] (.bool y1103)]) 14 [(1, sv ad1 p1 cap2), (2, sv ad4 p2 cap5), (3, pb b8), (8, iv x966), (81, .bool (bif (!c1094) then true else (!y1103)))] (by kernel_rfl) hF (by kernel_rfl) (ocons (obN (us := p0.cells) (by kernel_rfl) (fun _ hd => ((hS.later hd).blk (i := 0) rfl).cells rfl)) (ocons (obIdxQ (hA7.at (hS.frz (i := 1) rfl hlow)) (by kernel_rfl) (fun _ => hcs1098)) (ocons (obElQ (i := x966) 1 (fN_len 2) (fun _ hd => (hA7.at ((hS.later hd).frz (i := 1) rfl hlow))) (by kernel_rfl) (fun _ => hcs1098) rfl) (ocons (show Ob.ok _ Ext _ _ from fun hk w2 hd => ref06_Late_ok F p0 p1 u1064.Begin u1096.Late _ ((fun _ => hy1103) hk) _ w2 (memOf_at w2) (hA3.mono (FrzAt.le_mem ((hS.later hd).frz (i := 1) rfl hlow))) (hA1070.mono (FrzAt.le_mem ((hS.later hd).frz (i := 1) rfl hlow)))) onil)))) ⟨by kernel_rfl⟩ fun a w hF hx => ?_
        replace hS := hS.later hx
        refine wfn rfl ?_
        refine econd hF rfl (fun hc => ?_) (fun hc => ?_)
        ·replace h := bif_t h hc
         refine esr ?_
         refine rn 1 1 [(6, iv 20)] hF fun a hF => ?_
         refine wfn rfl ?_
         refine wpIn_ret (ret_block <| ret_then <| ret_then <| ret_block <| ret_then <| fn_ret [.tmp 6] [iv 20] hF rfl ⟨rfl, trivial⟩ ?_)
         have hr_ := Option.some.inj h
         subst hr_
         exact ⟨rfl, hS.ext⟩
        ·replace h := bif_f h hc
         refine wpIn_skip (norm_block <| norm_then <| ?_)
         exact ⟨hF.sub (by kernel_rfl), St.pick [0, 1] (by decide) hS, h⟩
      ·replace h := bif_f h hg1071
       rw [hg1071] at hF
       refine skip_ 10 [(1, sv ad1 p1 cap2), (2, sv ad4 p2 cap5), (3, pb b8), (8, iv x966), (9, sv ad1068 u1064.Begin cap1069), (40, .bool false), (41, undef)] hF (by kernel_rfl) ⟨by kernel_rfl⟩ ⟨by kernel_rfl⟩ rfl fun a hF => ?_
       refine skip_ 11 [(1, sv ad1 p1 cap2), (2, sv ad4 p2 cap5), (3, pb b8), (8, iv x966), (9, sv ad1068 u1064.Begin cap1069), (40, .bool false), (41, undef), (42, undef)] hF (by kernel_rfl) ⟨by kernel_rfl⟩ ⟨by kernel_rfl⟩ rfl fun a hF => ?_
       refine skip_ 12 [(1, sv ad1 p1 cap2), (2, sv ad4 p2 cap5), (3, pb b8), (8, iv x966), (9, sv ad1068 u1064.Begin cap1069), (40, .bool false), (43, undef)] hF (by kernel_rfl) ⟨by kernel_rfl⟩ ⟨by kernel_rfl⟩ rfl fun a hF => ?_
       refine skip_ 13 [(1, sv ad1 p1 cap2), (2, sv ad4 p2 cap5), (3, pb b8), (8, iv x966), (9, sv ad1068 u1064.Begin cap1069), (40, .bool false), (44, undef)] hF (by kernel_rfl) ⟨by kernel_rfl⟩ ⟨by kernel_rfl⟩ rfl fun a hF => ?_
       refine skip_ 14 [(1, sv ad1 p1 cap2), (2, sv ad4 p2 cap5), (3, pb b8), (8, iv x966), (9, sv ad1068 u1064.Begin cap1069), (40, .bool false), (45, undef)] hF (by kernel_rfl) ⟨by kernel_rfl⟩ ⟨by kernel_rfl⟩ rfl fun a hF => ?_
       refine skip_ 15 [(1, sv ad1 p1 cap2), (2, sv ad4 p2 cap5), (3, pb b8), (8, iv x966), (9, sv ad1068 u1064.Begin cap1069), (40, .bool false), (45, undef), (46, undef)] hF (by kernel_rfl) ⟨by kernel_rfl⟩ ⟨by kernel_rfl⟩ rfl fun a hF => ?_
       refine skip_ 16 [(1, sv ad1 p1 cap2), (2, sv ad4 p2 cap5), (3, pb b8), (8, iv x966), (9, sv ad1068 u1064.Begin cap1069), (40, .bool false), (45, undef), (47, undef)] hF (by kernel_rfl) ⟨by kernel_rfl⟩ ⟨by kernel_rfl⟩ rfl fun a hF => ?_
       refine skip_ 17 [(1, sv ad1 p1 cap2), (2, sv ad4 p2 cap5), (3, pb b8), (8, iv x966), (9, sv ad1068 u1064.Begin cap1069), (40, .bool false), (45, undef), (48, undef)] hF (by kernel_rfl) ⟨by kernel_rfl⟩ ⟨by kernel_rfl⟩ rfl fun a hF => ?_
       refine skip_ 18 [(1, sv ad1 p1 cap2), (2, sv ad4 p2 cap5), (3, pb b8), (8, iv x966), (9, sv ad1068 u1064.Begin cap1069), (40, .bool false), (49, undef)] hF (by kernel_rfl) ⟨by kernel_rfl⟩ ⟨by kernel_rfl⟩ rfl fun a hF => ?_
       refine rn 2 20 [(1, sv ad1 p1 cap2), (2, sv ad4 p2 cap5), (3, pb b8), (8, iv x966), (9, sv ad1068 u1064.Begin cap1069), (10, .bool false)] hF fun a hF => ?_
       refine wfn rfl ?_
       refine ecut (fun a w => ∃ (c1133 : Bool), Fr 88 [] [(1, sv ad1 p1 cap2), (2, sv ad4 p2 cap5), (3, pb b8), (8, iv x966), (9, sv ad1068 u1064.Begin cap1069), (10, .bool c1133)] a ∧ St w0 [blk b8 23 p0.ar, fz w0 μ] w ∧ ref06_Verify_K6 F p0 p1 p2 x966 k2 u1064 c1133 = some res) ?_ ?_
       ·skip
        refine esr ?_
        refine rn 1 1 [(1, sv ad1 p1 cap2), (2, sv ad4 p2 cap5), (3, pb b8), (8, iv x966), (9, sv ad1068 u1064.Begin cap1069), (10, .bool false), (11, iv 0)] hF fun a hF => ?_
        refine wfn rfl ?_
        refine wpIn_block ?_
        refine eloop (fun n_ a w => ∃ (c1152 : Bool) (x1153 : Int), Fr 88 [] [(1, sv ad1 p1 cap2), (2, sv ad4 p2 cap5), (3, pb b8), (8, iv x966), (9, sv ad1068 u1064.Begin cap1069), (10, .bool c1152), (11, iv x1153)] a ∧ St w0 [blk b8 23 p0.ar, fz w0 μ] w ∧ ref06_Verify_L7 F p0 p1 p2 x966 k2 u1064 n_ c1152 x1153 = some res) F ⟨false, 0, hF.sub (by kernel_rfl), St.pick [0, 1] (by decide) hS, h⟩ ?_
        rintro n_ a w ⟨c1152, x1153, hF, hS, h⟩
        rcases n_ with _ | n_
        ·cases (show (none : Option Int) = some res from h)
        obtain ⟨k7, hk7⟩ : ∃ k, k = ref06_Verify_L7 F p0 p1 p2 x966 k2 u1064 n_ := ⟨_, rfl⟩
        replace h : ref06_Verify_B7 F p0 p1 p2 x966 k2 u1064 k7 c1152 x1153 = some res := by rw [hk7]; exact h
        rw [ref06_Verify_B7] at h
        refine eseq ?_
        refine esr ?_
        refine rn 7 7 [(1, sv ad1 p1 cap2), (2, sv ad4 p2 cap5), (3, pb b8), (8, iv x966), (9, sv ad1068 u1064.Begin cap1069), (10, .bool c1152), (11, iv x1153), (57, .bool (bif (decide (x1153 < (ln u1064.Begin))) then c1152 else false))] hF fun a hF => ?_
        refine wfn rfl ?_
        refine econd hF rfl (fun hc => ?_) (fun hc => ?_)
        ·replace h := bif_t h hc
         refine wpIn_skip (norm_then ?_)
         refine eseq ?_
         refine wpIn_block ?_
         refine WI.region ?_
         replace h := bindS h
         obtain ⟨u1155, hu1155, h⟩ := h
         replace h := bindS h
         obtain ⟨x1156, hx1156, h⟩ := h
         refine rx 9 [.run [] (Instr.indexAt 40 (sv ad1068 u1064.Begin cap1069) (iv x1153)) (.pointer (some (slAddr ad1068 x1153 1))), .run [] (Instr.loadAt 3 (.pointer (some (slAddr ad1068 x1153 1)))) (iv u1155), .run [] (binOp .sub 3 (iv (ln p1)) (iv 1)) (iv x1156), .call [] 48 #[iv u1155, iv 0, iv x1156] (.bool (ref01_In u1155 0 x1156))] 9 [(1, sv ad1 p1 cap2), (2, sv ad4 p2 cap5), (3, pb b8), (8, iv x966), (9, sv ad1068 u1064.Begin cap1069), (10, .bool (ref01_In u1155 0 x1156)), (11, iv x1153)] hF (ocons (obIdxQ (hA1070 _ (hS.frz (i := 1) rfl hlow)) (by kernel_rfl) (fun _ => hu1155)) (ocons (obElQ (i := x1153) 0 fI_len (fun _ hd => (hA1070 _ ((hS.later hd).frz (i := 1) rfl hlow))) (by kernel_rfl) (fun _ => hu1155) rfl) (ocons (obSubC (fun _ => hx1156)) (ocons (show Ob.ok _ Ext _ _ from fun hk w2 hd => ref01_In_ok u1155 0 x1156 _ rfl _ w2 (memOf_at w2) ) onil)))) fun a w hF hx => ?_
         replace hS := hS.later hx
         refine WI.fin rfl (norm_block <| norm_then <| ?_)
         refine WI.region ?_
         replace h := bindS h
         obtain ⟨x1157, hx1157, h⟩ := h
         refine rno 3 [.run [] (binOp .add 3 (iv x1153) (iv 1)) (iv x1157)] 3 [(1, sv ad1 p1 cap2), (2, sv ad4 p2 cap5), (3, pb b8), (8, iv x966), (9, sv ad1068 u1064.Begin cap1069), (10, .bool (ref01_In u1155 0 x1156)), (11, iv x1157)] hF (ocons (obAddC (fun _ => hx1157)) onil) fun a hF => ?_
         refine wfn rfl ?_
         rw [hk7] at h
         exact ⟨n_, Nat.lt_succ_self _, (ref01_In u1155 0 x1156), x1157, hF.sub (by kernel_rfl), St.pick [0, 1] (by decide) hS, h⟩
        ·replace h := bif_f h hc
         refine wpIn_exit (exit_then <| exit_then <| exit_hit <| norm_then ?_)
         exact ⟨c1152, hF.sub (by kernel_rfl), St.pick [0, 1] (by decide) hS, h⟩
       rintro a w ⟨c1133, hF, hS, h⟩
       rw [ref06_Verify_K6] at h
       refine eseq ?_
       rcases Bool.eq_false_or_eq_true ((!c1133)) with hg1134 | hg1134
       ·replace h := bif_t h hg1134
        refine runD (obs := [.run [⟨70, false, (!c1133)⟩] (Instr.loadAt 23 (pb b8)) (.agg #[iv 0, iv 0, iv 0, iv 0]), .run [⟨70, false, (!c1133)⟩] (Instr.indexAt 57 (sv ad4 p2 cap5) (iv x966)) (pb 0), .run [⟨70, false, (!c1133)⟩] (Instr.loadAt 3 (.pointer (some ⟨0, 1, none⟩))) (iv 0), .call [⟨70, false, (!c1133)⟩] 66 #[.agg #[iv 0, iv 0, iv 0, iv 0], sv ad1 p1 cap2, sv ad1068 u1064.Begin cap1069, iv 0] (.bool false)]) 14 [(1, sv ad1 p1 cap2), (2, sv ad4 p2 cap5), (3, pb b8), (8, iv x966), (81, .bool (bif (!c1133) then true else true))] (by kernel_rfl) hF (by kernel_rfl) (ocons (obNo (conds_no (i := 0) (c := ⟨70, false, (!c1133)⟩) rfl (show ((!c1133) == false) = false by rw [hg1134]; rfl))) (ocons (obNo (conds_no (i := 0) (c := ⟨70, false, (!c1133)⟩) rfl (show ((!c1133) == false) = false by rw [hg1134]; rfl))) (ocons (obNo (conds_no (i := 0) (c := ⟨70, false, (!c1133)⟩) rfl (show ((!c1133) == false) = false by rw [hg1134]; rfl))) (ocons (obNoC (conds_no (i := 0) (c := ⟨70, false, (!c1133)⟩) rfl (show ((!c1133) == false) = false by rw [hg1134]; rfl))) onil)))) ⟨by kernel_rfl⟩ fun a w hF hx => ?_
        replace hS := hS.later hx
        refine wfn rfl ?_
        refine econd hF rfl (fun hc => ?_) (fun hc => ?_)
        ·replace h := bif_t h hc
         refine esr ?_
         refine rn 1 1 [(6, iv 20)] hF fun a hF => ?_
         refine wfn rfl ?_
         refine wpIn_ret (ret_block <| ret_then <| ret_then <| ret_block <| ret_then <| fn_ret [.tmp 6] [iv 20] hF rfl ⟨rfl, trivial⟩ ?_)
         have hr_ := Option.some.inj h
         subst hr_
         exact ⟨rfl, hS.ext⟩
        ·replace h := bif_f h hc
         refine wpIn_skip (norm_block <| norm_then <| ?_)
         exact ⟨hF.sub (by kernel_rfl), St.pick [0, 1] (by decide) hS, h⟩
       ·replace h := bif_f h hg1134
        replace h := bindS h
        obtain ⟨u1135, hu1135, h⟩ := h
        obtain ⟨cs1136, hcs1137, hR1138⟩ := getI_all2 hA7.2 hu1135
        obtain ⟨ad1139, cap1140, rfl, hA1141⟩ := hR1138
        replace h := bindS h
        obtain ⟨y1142, hy1142, h⟩ := h
        refine runD (obs := [.run [⟨70, false, (!c1133)⟩] (Instr.loadAt 23 (pb b8)) (p0.ag), .run [⟨70, false, (!c1133)⟩] (Instr.indexAt 57 (sv ad4 p2 cap5) (iv x966)) (.pointer (some (slAddr ad4 x966 2))), .run [⟨70, false, (!c1133)⟩] (Instr.loadAt 3 (.pointer (some ((slAddr ad4 x966 2).add 1)))) (iv u1135.Late), .call [⟨70, false, (!c1133)⟩] 66 #[p0.ag, sv ad1 p1 cap2, sv ad1068 u1064.Begin cap1069, iv u1135.Late] (.bool y1142)]) 14 [(1, sv ad1 p1 cap2), (2, sv ad4 p2 cap5), (3, pb b8), (8, iv x966), (81, .bool (bif (!c1133) then true else (!y1142)))] (by kernel_rfl) hF (by kernel_rfl) (ocons (obN (us := p0.cells) (by kernel_rfl) (fun _ hd => ((hS.later hd).blk (i := 0) rfl).cells rfl)) (ocons (obIdxQ (hA7.at (hS.frz (i := 1) rfl hlow)) (by kernel_rfl) (fun _ => hcs1137)) (ocons (obElQ (i := x966) 1 (fN_len 2) (fun _ hd => (hA7.at ((hS.later hd).frz (i := 1) rfl hlow))) (by kernel_rfl) (fun _ => hcs1137) rfl) (ocons (show Ob.ok _ Ext _ _ from fun hk w2 hd => ref06_Late_ok F p0 p1 u1064.Begin u1135.Late _ ((fun _ => hy1142) hk) _ w2 (memOf_at w2) (hA3.mono (FrzAt.le_mem ((hS.later hd).frz (i := 1) rfl hlow))) (hA1070.mono (FrzAt.le_mem ((hS.later hd).frz (i := 1) rfl hlow)))) onil)))) ⟨by kernel_rfl⟩ fun a w hF hx => ?_
        replace hS := hS.later hx
        refine wfn rfl ?_
        refine econd hF rfl (fun hc => ?_) (fun hc => ?_)
        ·replace h := bif_t h hc
         refine esr ?_
         refine rn 1 1 [(6, iv 20)] hF fun a hF => ?_
         refine wfn rfl ?_
         refine wpIn_ret (ret_block <| ret_then <| ret_then <| ret_block <| ret_then <| fn_ret [.tmp 6] [iv 20] hF rfl ⟨rfl, trivial⟩ ?_)
         have hr_ := Option.some.inj h
         subst hr_
         exact ⟨rfl, hS.ext⟩
        ·replace h := bif_f h hc
         refine wpIn_skip (norm_block <| norm_then <| ?_)
         exact ⟨hF.sub (by kernel_rfl), St.pick [0, 1] (by decide) hS, h⟩
     rintro a w ⟨hF, hS, h⟩
     rw [ref06_Verify_K3] at h
     refine WI.region ?_
     replace h := bindS h
     obtain ⟨x1062, hx1062, h⟩ := h
     refine rno 3 [.run [] (binOp .add 3 (iv x966) (iv 1)) (iv x1062)] 3 [(1, sv ad1 p1 cap2), (2, sv ad4 p2 cap5), (3, pb b8), (8, iv x1062)] hF (ocons (obAddC (fun _ => hx1062)) onil) fun a hF => ?_
     refine wfn rfl ?_
     rw [hk2] at h
     exact ⟨n_, Nat.lt_succ_self _, x1062, hF.sub (by kernel_rfl), St.pick [0, 1] (by decide) hS, h⟩
    ·replace h := bif_f h hc
     refine wpIn_exit (exit_then <| exit_then <| exit_hit <| norm_then ?_)
     exact ⟨hF.sub (by kernel_rfl), St.pick [0, 1] (by decide) hS, h⟩
   rintro a w ⟨hF, hS, h⟩
   rw [ref06_Verify_K1] at h
   refine eseq ?_
   refine esr ?_
   replace h := bindS h
   obtain ⟨y583, hy583, h⟩ := h
   refine rx 6 [.call [] 67 #[sv ad1 p1 cap2, sv ad4 p2 cap5, .slice none 0 0] (iv y583)] 6 [(87, .bool (y583 != (ln p2)))] hF (ocons (show Ob.ok _ Ext _ _ from fun hk w2 hd => ref06_covered_ok F p1 p2 ([] : (List Int)) _ ((fun _ => hy583) hk) _ w2 (memOf_at w2) (hA3.mono (FrzAt.le_mem ((hS.later hd).frz (i := 1) rfl hlow))) (hA7.mono Rp59.mono (FrzAt.le_mem ((hS.later hd).frz (i := 1) rfl hlow))) ArrM.nil) onil) fun a w hF hx => ?_
   replace hS := hS.later hx
   refine wfn rfl ?_
   refine econd hF rfl (fun hc => ?_) (fun hc => ?_)
   ·replace h := bif_t h hc
    refine esr ?_
    refine rn 1 1 [(6, iv 20)] hF fun a hF => ?_
    refine wfn rfl ?_
    refine wpIn_ret (ret_then <| fn_ret [.tmp 6] [iv 20] hF rfl ⟨rfl, trivial⟩ ?_)
    have hr_ := Option.some.inj h
    subst hr_
    exact ⟨rfl, hS.ext⟩
   ·replace h := bif_f h hc
    refine wpIn_skip (norm_then ?_)
    refine esr ?_
    refine rn 1 1 [(6, iv 0)] hF fun a hF => ?_
    refine wfn rfl ?_
    refine wpIn_ret (fn_ret [.tmp 6] [iv 0] hF rfl ⟨rfl, trivial⟩ ?_)
    have hr_ := Option.some.inj h
    subst hr_
    exact ⟨rfl, hS.ext⟩
end Go.Proofs.Ytejffembnkojjaa
