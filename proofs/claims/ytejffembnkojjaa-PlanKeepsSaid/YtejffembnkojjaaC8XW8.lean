/- Walks, written by program (wip/gen/dec.py). -/
import Derived.Test.YtejffembnkojjaaC8XD
import Derived.Test.YtejffembnkojjaaProg
import Derived.Test.YtejffembnkojjaaC8XW2
import Derived.Test.YtejffembnkojjaaC8XW6
import Derived.Test.YtejffembnkojjaaC8XW7
namespace Go.Proofs.Ytejffembnkojjaa
open Go Go.RowKit Go.Eng
set_option maxRecDepth 10000
set_option maxHeartbeats 4000000
set_option linter.unusedVariables false
set_option linter.unusedSimpArgs false
theorem pplan_desk_begun_1_ok {σ γ : Type} (F : Nat) (c0_ : (Option plan_desk)) (c1_ : Int) (body : σ → plan_line → Option (σ × Bool)) (s_ : σ) (res : σ × Bool) (h : pplan_desk_begun_1 F c0_ c1_ body s_ = some res) (l_ : Nat) (μ : Frz) (w0 w1 : World) (RC : σ → Bool → γ → List Res) (PC : σ → Bool → γ → Frz → Prop) (hPm : ∀ s b g μ ν, PC s b g μ → μ.le ν → PC s b g ν) (hy : ∀ (s : σ) (x : plan_line) (q : σ × Bool), body s x = some q → ∀ (ν : Frz) (g : γ) (G : List Res) (w : World) (pv_1 : Option Addr) (ad_2 : Option Addr) (cap_3 : Nat) (ad_4 : Option Addr) (cap_5 : Nat), μ.ext w0.heap.size ν → FrzIn w0 ν → PC s true g ν → PtM ν 113 Rp113 pv_1 x.desk → ArrM ν 1 fI ad_2 cap_3 x.jobs → ArrM ν 1 fI ad_4 cap_5 x.at_ → St w0 (fz w0 ν :: (RC s true g ++ G)) w → Eng.Yields Try.prog l_ #[.agg #[.pointer pv_1, sv ad_2 x.jobs cap_3, sv ad_4 x.at_ cap_5, iv x.done]] w (fun c w2 => c = q.2 ∧ ∃ ν2 g2, ν.ext w0.heap.size ν2 ∧ FrzIn w0 ν2 ∧ PC q.1 q.2 g2 ν2 ∧ St w0 (fz w0 ν2 :: (RC q.1 q.2 g2 ++ G)) w2)) (g_ : γ) (G_ : List Res) (hlow : FrzIn w0 μ) (hP : PC s_ true g_ μ) (hS : St w0 (fz w0 μ :: (RC s_ true g_ ++ G_)) w1) {cb1 : Nat} {cb2 : Nat} {pv1 : Option Addr} (hcb1 : BlkM μ cb1 100 #[.pointer pv1]) (hA2 : PtM μ 113 Rp113 pv1 c0_) (hcb2 : BlkM μ cb2 3 #[iv c1_]) : Calls Try.prog 83 #[.func (.yield l_) #[] #[], pb cb1, pb cb2] w1 (fun e w => ∃ (ν_ : Frz) (g2_ : γ), μ.ext w0.heap.size ν_ ∧ FrzIn w0 ν_ ∧ PC res.1 res.2 g2_ ν_ ∧ e = .returned (.tuple #[]) ∧ St w0 (fz w0 ν_ :: (RC res.1 res.2 g2_ ++ G_)) w) := by
 rw [pplan_desk_begun_1] at h
 have hext := Frz.ext_refl w0.heap.size μ
 refine fn_enterW Try.func83 rfl 10 [(0, .func (.yield l_) #[] #[]), (1, pb cb1), (2, pb cb2)] rfl rfl (by kernel_rfl) fun a w hw hF => ?_
 replace hS : St w0 (fz w0 μ :: (RC s_ true g_ ++ G_)) w := by rw [hw]; exact hS
 clear hw
 refine esr ?_
 refine SK.wi (boxK (t := 141) (fun b3 => [(1, pb cb1), (2, pb cb2), (3, pb b3)]) (.func (.yield l_) #[] #[]) #[.func (.yield l_) #[] #[]] hF hS (by kernel_rfl) ⟨by kernel_rfl⟩ (by kernel_rfl) (fun _ => ⟨by kernel_rfl⟩) fun b3 w a hF hS => ?_)
 refine wfn rfl ?_
 refine esr ?_
 refine SK.wi (allocK (t := 141) (fun b4 => [(1, pb cb1), (2, pb cb2), (3, pb b3), (4, pb b4)]) #[.nilFunc] hF hS (by kernel_rfl) ⟨by kernel_rfl⟩ (by kernel_rfl) (fun _ => ⟨by kernel_rfl⟩) fun b4 w a hF hS => ?_)
 refine wfn rfl ?_
 refine esr ?_
 refine rn 1 1 [(1, pb cb1), (4, pb b4), (5, .func (.func 84) #[] #[pb cb1, pb cb2, pb b3, pb b4])] hF fun a hF => ?_
 refine SK.wi (storeK (t := 141) [(1, pb cb1), (4, pb b4)] 0 0 (.func (.func 84) #[] #[pb cb1, pb cb2, pb b3, pb b4]) #[.func (.func 84) #[] #[pb cb1, pb cb2, pb b3, pb b4]] hF hS rfl (by kernel_rfl) ⟨by kernel_rfl⟩ (by kernel_rfl) (by kernel_rfl) (by kernel_rfl) (by kernel_rfl) ⟨by kernel_rfl⟩ fun w a hF hS => ?_)
 refine wfn rfl ?_
 refine WI.region ?_
 refine rno 3 [.run [] (Instr.loadAt 141 (pb b4)) (.func (.func 84) #[] #[pb cb1, pb cb2, pb b3, pb b4]), .run [] (Instr.loadAt 100 (pb cb1)) (.pointer pv1)] 3 [(6, .func (.func 84) #[] #[pb cb1, pb cb2, pb b3, pb b4]), (8, .agg #[.pointer pv1, .slice none 0 0, .slice none 0 0, iv 0])] hF (ocons (ob1 (by kernel_rfl) (fun _ hd => (hS.at_ hd).cell (i := 0) (j := 0) rfl rfl)) (ocons (ob1 (by kernel_rfl) (fun _ hd => (hcb1.blk ((hS.at_ hd).frz (i := 2) rfl hlow)).cell1 (j := 0) rfl)) onil)) fun a hF => ?_
 obtain ⟨ν5, hx6, hlow, hS, hz7⟩ := hS.freeze (i := 2) (j := 1) rfl rfl (by decide) hlow
 replace hcb1 := hcb1.mono hx6.1
 replace hA2 := hA2.mono Rp113.mono hx6.1
 replace hcb2 := hcb2.mono hx6.1
 replace hP := hPm _ _ _ _ _ hP hx6.1
 replace hext := Frz.ext_trans hext hx6
 replace hS : St w0 (blk b4 141 #[.func (.func 84) #[] #[pb cb1, pb cb2, pb b3, pb b4]] :: fz w0 ν5 :: (RC s_ true g_ ++ G_)) w := hS
 have hB8 : BlkM ν5 b3 141 #[.func (.yield l_) #[] #[]] := hz7
 obtain ⟨ν9, hx10, hlow, hS, hz11⟩ := hS.freeze (i := 1) (j := 0) rfl rfl (by decide) hlow
 replace hcb1 := hcb1.mono hx10.1
 replace hA2 := hA2.mono Rp113.mono hx10.1
 replace hcb2 := hcb2.mono hx10.1
 replace hP := hPm _ _ _ _ _ hP hx10.1
 replace hB8 := hB8.mono hx10.1
 replace hext := Frz.ext_trans hext hx10
 replace hS : St w0 (fz w0 ν9 :: (RC s_ true g_ ++ G_)) w := hS
 have hB12 : BlkM ν9 b4 141 #[.func (.func 84) #[] #[pb cb1, pb cb2, pb b3, pb b4]] := hz11
 replace h := bindS h
 obtain ⟨y13, hy13, h⟩ := h
 refine SK.wi (callK (f := 84) (args := #[.agg #[.pointer pv1, .slice none 0 0, .slice none 0 0, iv 0], pb cb1, pb cb2, pb b3, pb b4]) (R := fun v w2 => ∃ (ν_ : Frz) (g2_ : γ), ν9.ext w0.heap.size ν_ ∧ FrzIn w0 ν_ ∧ PC y13.1 y13.2.1 g2_ ν_ ∧ v = .bool y13.2.2 ∧ St w0 (fz w0 ν_ :: (RC y13.1 y13.2.1 g2_ ++ (G_ ++ []))) w2) (fun v17 => []) hF (by kernel_rfl) ⟨by kernel_rfl⟩ (Calls.mono (pplan_desk_begun_1_1_ok F (plan_line.mk c0_ ([] : (List Int)) ([] : (List Int)) 0) c0_ c1_ body s_ _ hy13 l_ ν9 w0 w RC PC hPm (fun s x q hb ν g G w a0_ a1_ a2_ a3_ a4_ hx => hy s x q hb ν g G w a0_ a1_ a2_ a3_ a4_ (Frz.ext_trans hext hx)) g_ (G_ ++ []) hlow hP (St.rot [] hS) hA2 ArrM.nil ArrM.nil hcb1 hA2 hcb2 hB8 hB12) (by rintro e w2 ⟨n1, n2, n3, n4, n5, rfl, n6⟩; exact ⟨_, rfl, n1, n2, n3, n4, n5, rfl, n6⟩)) (fun _ => ⟨by kernel_rfl⟩) ?_)
 rintro v17 w a ⟨ν14, g15, hx16, hlow, hP, rfl, hS⟩ hF
 replace hS := St.unrot [] hS
 replace hext := Frz.ext_trans hext hx16
 replace hcb1 := hcb1.mono hx16.1
 replace hA2 := hA2.mono Rp113.mono hx16.1
 replace hcb2 := hcb2.mono hx16.1
 replace hB8 := hB8.mono hx16.1
 replace hB12 := hB12.mono hx16.1
 replace hS : St w0 (fz w0 ν14 :: (RC y13.1 (y13.2.1) g15 ++ G_)) w := hS
 rcases Bool.eq_false_or_eq_true (y13.2.1) with hb18 | hb18
 ·replace h := bif_t h hb18
  rw [hb18] at hS hP
  replace hS : St w0 (fz w0 ν14 :: (RC y13.1 true g15 ++ G_)) w := hS
  refine WI.fin rfl ?_
  refine fn_end hF rfl ?_
  have hr_ := Option.some.inj h
  subst hr_
  exact ⟨ν14, g15, hext, hlow, hP, rfl, hS⟩
 ·replace h := bif_f h hb18
  rw [hb18] at hS hP
  replace hS : St w0 (fz w0 ν14 :: (RC y13.1 false g15 ++ G_)) w := hS
  refine WI.fin rfl ?_
  refine fn_end hF rfl ?_
  have hr_ := Option.some.inj h
  subst hr_
  exact ⟨ν14, g15, hext, hlow, hP, rfl, hS⟩

theorem pplan_desk_begun_ok (p0 : (Option plan_desk)) (p1 : Int) (res : Unit) (h : pplan_desk_begun p0 p1 = res) (μ : Frz) (w0 : World) (hm : FrzAt μ w0) {pv1 : Option Addr} (hA2 : PtM μ 113 Rp113 pv1 p0) : Calls Try.prog 57 #[.pointer pv1, iv p1] w0 (fun e w => ∃ zb0 zb1, e = .returned (.func (.func 83) #[] #[pb zb0, pb zb1]) ∧ St w0 [blk zb0 100 #[.pointer pv1], blk zb1 3 #[iv p1]] w) := by
 obtain ⟨hlow, hS⟩ := hm.init
 have hext := Frz.ext_refl w0.heap.size μ
 rw [pplan_desk_begun] at h
 refine fn_enterW Try.func57 rfl 6 [(0, .pointer pv1), (1, iv p1)] rfl rfl (by kernel_rfl) fun a w hw hF => ?_
 replace hS : St w0 [fz w0 μ] w := by rw [hw]; exact hS
 clear hw
 refine esr ?_
 refine SK.wi (boxK (t := 100) (fun b3 => [(1, iv p1), (2, pb b3)]) (.pointer pv1) #[.pointer pv1] hF hS (by kernel_rfl) ⟨by kernel_rfl⟩ (by kernel_rfl) (fun _ => ⟨by kernel_rfl⟩) fun b3 w a hF hS => ?_)
 refine SK.wi (boxK (t := 3) (fun b4 => [(2, pb b3), (3, pb b4)]) (iv p1) #[iv p1] hF hS (by kernel_rfl) ⟨by kernel_rfl⟩ (by kernel_rfl) (fun _ => ⟨by kernel_rfl⟩) fun b4 w a hF hS => ?_)
 refine rn 1 3 [(2, pb b3), (3, pb b4)] hF fun a hF => ?_
 refine wfn rfl ?_
 refine esr ?_
 refine rn 2 2 [(4, .func (.func 83) #[] #[pb b3, pb b4])] hF fun a hF => ?_
 refine wfn rfl ?_
 refine wpIn_ret (fn_ret [.tmp 4] [.func (.func 83) #[] #[pb b3, pb b4]] hF rfl ⟨rfl, trivial⟩ ?_)
 subst h
 exact ⟨b3, b4, rfl, St.pick [1, 0] (by decide) hS⟩

theorem pplan_desk_cuts_1_1_ok {σ γ : Type} : ∀ (F : Nat) (p0 : plan_line) (c0_ : (Option plan_desk)) (c2_ : Int) (body : σ → (plan_line × Int) → Option (σ × Bool)) (s_ : σ) (res : σ × Bool × Bool) (h : pplan_desk_cuts_1_1 F p0 c0_ c2_ body s_ = some res) (l_ : Nat) (μ : Frz) (w0 w1 : World) (RC : σ → Bool → γ → List Res) (PC : σ → Bool → γ → Frz → Prop) (hPm : ∀ s b g μ ν, PC s b g μ → μ.le ν → PC s b g ν) (hy : ∀ (s : σ) (x : (plan_line × Int)) (q : σ × Bool), body s x = some q → ∀ (ν : Frz) (g : γ) (G : List Res) (w : World) (pv_1 : Option Addr) (ad_2 : Option Addr) (cap_3 : Nat) (ad_4 : Option Addr) (cap_5 : Nat), μ.ext w0.heap.size ν → FrzIn w0 ν → PC s true g ν → PtM ν 113 Rp113 pv_1 x.1.desk → ArrM ν 1 fI ad_2 cap_3 x.1.jobs → ArrM ν 1 fI ad_4 cap_5 x.1.at_ → St w0 (fz w0 ν :: (RC s true g ++ G)) w → Eng.Yields Try.prog l_ #[.agg #[.pointer pv_1, sv ad_2 x.1.jobs cap_3, sv ad_4 x.1.at_ cap_5, iv x.1.done], iv x.2] w (fun c w2 => c = q.2 ∧ ∃ ν2 g2, ν.ext w0.heap.size ν2 ∧ FrzIn w0 ν2 ∧ PC q.1 q.2 g2 ν2 ∧ St w0 (fz w0 ν2 :: (RC q.1 q.2 g2 ++ G)) w2)) (g_ : γ) (G_ : List Res) (hlow : FrzIn w0 μ) (hP : PC s_ true g_ μ) (hS : St w0 (fz w0 μ :: (RC s_ true g_ ++ G_)) w1) {cb1 : Nat} {cb2 : Nat} {cb3 : Nat} {cb4 : Nat} {pv1 : Option Addr} {ad2 : Option Addr} {cap3 : Nat} {ad4 : Option Addr} {cap5 : Nat} {pv9 : Option Addr} (hA6 : PtM μ 113 Rp113 pv1 p0.desk) (hA7 : ArrM μ 1 fI ad2 cap3 p0.jobs) (hA8 : ArrM μ 1 fI ad4 cap5 p0.at_) (hcb1 : BlkM μ cb1 100 #[.pointer pv9]) (hA10 : PtM μ 113 Rp113 pv9 c0_) (hcb2 : BlkM μ cb2 144 #[.func (.yield l_) #[] #[]]) (hcb3 : BlkM μ cb3 3 #[iv c2_]) (hcb4 : BlkM μ cb4 141 #[.func (.func 88) #[] #[pb cb1, pb cb2, pb cb3, pb cb4]]), Calls Try.prog 88 #[.agg #[.pointer pv1, sv ad2 p0.jobs cap3, sv ad4 p0.at_ cap5, iv p0.done], pb cb1, pb cb2, pb cb3, pb cb4] w1 (fun e w => ∃ (ν_ : Frz) (g2_ : γ), μ.ext w0.heap.size ν_ ∧ FrzIn w0 ν_ ∧ PC res.1 res.2.1 g2_ ν_ ∧ e = .returned (.bool res.2.2) ∧ St w0 (fz w0 ν_ :: (RC res.1 res.2.1 g2_ ++ G_)) w) := by
 intro F
 induction F with
 | zero =>
  intro p0 c0_ c2_ body s_ res h
  cases (show (none : Option (σ × Bool × Bool)) = some res from h)
 | succ F ih =>
  intro p0 c0_ c2_ body s_ res h l_ μ w0 w1 RC PC hPm hy g_ G_ hlow hP hS cb1 cb2 cb3 cb4 pv1 ad2 cap3 ad4 cap5 pv9 hA6 hA7 hA8 hcb1 hA10 hcb2 hcb3 hcb4
  replace h : pplan_desk_cuts_1_1_R F (pplan_desk_cuts_1_1 F) p0 c0_ c2_ body s_ = some res := h
  obtain ⟨self_, hself⟩ : ∃ s : plan_line → (Option plan_desk) → Int → (σ → (plan_line × Int) → Option (σ × Bool)) → σ → Option (σ × Bool × Bool), s = pplan_desk_cuts_1_1 F := ⟨_, rfl⟩
  rw [← hself, pplan_desk_cuts_1_1_R] at h
  have hext := Frz.ext_refl w0.heap.size μ
  refine fn_enterW Try.func88 rfl 50 [(0, .agg #[.pointer pv1, sv ad2 p0.jobs cap3, sv ad4 p0.at_ cap5, iv p0.done]), (1, pb cb1), (2, pb cb2), (3, pb cb3), (4, pb cb4)] rfl rfl (by kernel_rfl) fun a w hw hF => ?_
  replace hS : St w0 (fz w0 μ :: (RC s_ true g_ ++ G_)) w := by rw [hw]; exact hS
  clear hw
  refine esr ?_
  refine SK.wi (boxK (t := 102) (fun b11 => [(1, pb cb1), (2, pb cb2), (3, pb cb3), (4, pb cb4), (5, pb b11)]) (.agg #[.pointer pv1, sv ad2 p0.jobs cap3, sv ad4 p0.at_ cap5, iv p0.done]) #[.pointer pv1, sv ad2 p0.jobs cap3, sv ad4 p0.at_ cap5, iv p0.done] hF hS (by kernel_rfl) ⟨by kernel_rfl⟩ (by kernel_rfl) (fun _ => ⟨by kernel_rfl⟩) fun b11 w a hF hS => ?_)
  refine rn 1 2 [(1, pb cb1), (2, pb cb2), (3, pb cb3), (4, pb cb4), (5, pb b11)] hF fun a hF => ?_
  refine wfn rfl ?_
  have hj241 := Frz.le_refl μ
  refine ecut (fun a w => ∃ (s238 : σ) (ν237 : Frz) (g239 : γ), Fr 50 [] [] a ∧ St w0 (blk b11 102 #[.pointer pv1, sv ad2 p0.jobs cap3, sv ad4 p0.at_ cap5, iv p0.done] :: fz w0 ν237 :: (RC s238 true g239 ++ G_)) w ∧ (PC s238 true g239 ν237) ∧ (μ.le ν237) ∧ (μ.ext w0.heap.size ν237) ∧ (FrzIn w0 ν237) ∧ pplan_desk_cuts_1_1_K1 s238 = some res) ?_ ?_
  ·skip
   refine esr ?_
   replace h := bindS h
   obtain ⟨d242, hd242, h⟩ := h
   obtain ⟨b243, cs244, hp245, hB246, hR247⟩ := PtM.some hA10 hd242
   obtain ⟨ad248, cap249, ad250, cap251, ad252, cap253, css254, rfl, hA255, hA256, hA257⟩ := hR247
   try rw [hp245] at hF
   try rw [hp245] at hS
   try rw [hp245] at hB246
   try rw [hp245] at hcb1
   try rw [hp245] at hcb2
   try rw [hp245] at hcb3
   try rw [hp245] at hcb4
   refine rno 6 [.run [] (Instr.loadAt 100 (pb cb1)) (pb b243), .run [] (Instr.loadAt 40 (.pointer (some ⟨b243, 1, none⟩))) (sv ad250 d242.takes cap251)] 6 [(2, pb cb2), (3, pb cb3), (4, pb cb4), (5, pb b11), (15, iv (ln d242.takes)), (16, iv 0)] hF (ocons (ob1 (by kernel_rfl) (fun _ hd => (hcb1.blk ((hS.at_ hd).frz (i := 1) rfl hlow)).cell1 (j := 0) rfl)) (ocons (ob1 (by kernel_rfl) (fun _ hd => (hB246.blk ((hS.at_ hd).frz (i := 1) rfl hlow)).cell1 (j := 1) rfl)) onil)) fun a hF => ?_
   refine wfn rfl ?_
   refine wpIn_block ?_
   have hj400 := Frz.le_refl μ
   refine eloop (fun n_ a w => ∃ (x396 : Int) (s397 : σ) (ν395 : Frz) (g398 : γ), Fr 50 [] [(2, pb cb2), (3, pb cb3), (4, pb cb4), (5, pb b11), (15, iv (ln d242.takes)), (16, iv x396)] a ∧ St w0 (blk b11 102 #[.pointer pv1, sv ad2 p0.jobs cap3, sv ad4 p0.at_ cap5, iv p0.done] :: fz w0 ν395 :: (RC s397 true g398 ++ G_)) w ∧ (PC s397 true g398 ν395) ∧ (μ.le ν395) ∧ (μ.ext w0.heap.size ν395) ∧ (FrzIn w0 ν395) ∧ pplan_desk_cuts_1_1_L2 F body self_ p0 c2_ d242 n_ x396 s397 = some res) F ⟨0, s_, μ, g_, hF.sub (by kernel_rfl), St.pickT (A := [blk b11 102 #[.pointer pv1, sv ad2 p0.jobs cap3, sv ad4 p0.at_ cap5, iv p0.done], fz w0 μ]) (T := (RC s_ true g_ ++ G_)) [0, 1] (by decide) hS, hP, hj400, hext, hlow, h⟩ ?_
   clear hj400
   rintro n_ a w ⟨x396, s397, ν395, g398, hF, hS, hP, hle399, hext, hlow, h⟩
   rcases n_ with _ | n_
   ·cases (show (none : Option (σ × Bool × Bool)) = some res from h)
   replace hA6 := hA6.mono Rp113.mono hle399
   replace hA7 := hA7.mono hle399
   replace hA8 := hA8.mono hle399
   replace hcb1 := hcb1.mono hle399
   replace hA10 := hA10.mono Rp113.mono hle399
   replace hcb2 := hcb2.mono hle399
   replace hcb3 := hcb3.mono hle399
   replace hcb4 := hcb4.mono hle399
   replace hA255 := hA255.mono hle399
   replace hA256 := hA256.mono hle399
   replace hA257 := hA257.mono Rp40.mono hle399
   replace hB246 := hB246.mono hle399
   replace hj241 := Frz.le_trans hj241 hle399
   obtain ⟨k2, hk2⟩ : ∃ k, k = pplan_desk_cuts_1_1_L2 F body self_ p0 c2_ d242 n_ := ⟨_, rfl⟩
   replace h : pplan_desk_cuts_1_1_B2 F body self_ p0 c2_ d242 k2 x396 s397 = some res := by rw [hk2]; exact h
   rw [pplan_desk_cuts_1_1_B2] at h
   refine esr ?_
   refine rn 1 1 [(2, pb cb2), (3, pb cb3), (4, pb cb4), (5, pb b11), (15, iv (ln d242.takes)), (16, iv x396), (17, .bool (decide (x396 < (ln d242.takes))))] hF fun a hF => ?_
   refine wfn rfl ?_
   refine eseq ?_
   refine econd hF rfl (fun hc => ?_) (fun hc => ?_)
   ·replace h := bif_t h hc
    refine wpIn_skip (norm_then ?_)
    have hj436 := Frz.le_refl ν395
    refine ecut (fun a w => ∃ (s432 : σ) (ν431 : Frz) (g433 : γ), Fr 50 [] [(2, pb cb2), (3, pb cb3), (4, pb cb4), (5, pb b11), (15, iv (ln d242.takes)), (16, iv x396)] a ∧ St w0 (blk b11 102 #[.pointer pv1, sv ad2 p0.jobs cap3, sv ad4 p0.at_ cap5, iv p0.done] :: fz w0 ν431 :: (RC s432 true g433 ++ G_)) w ∧ (PC s432 true g433 ν431) ∧ (ν395.le ν431) ∧ (μ.ext w0.heap.size ν431) ∧ (FrzIn w0 ν431) ∧ pplan_desk_cuts_1_1_K3 x396 k2 s432 = some res) ?_ ?_
    ·skip
     refine wpIn_block ?_
     refine esr ?_
     refine rn 2 2 [(2, pb cb2), (3, pb cb3), (4, pb cb4), (5, pb b11), (7, iv x396), (15, iv (ln d242.takes)), (16, iv x396)] hF fun a hF => ?_
     refine wfn rfl ?_
     refine esr ?_
     refine rno 2 [.run [] (Instr.loadAt 102 (pb b11)) (.agg #[.pointer pv1, sv ad2 p0.jobs cap3, sv ad4 p0.at_ cap5, iv p0.done])] 2 [(2, pb cb2), (3, pb cb3), (4, pb cb4), (5, pb b11), (15, iv (ln d242.takes)), (16, iv x396), (19, .agg #[.pointer pv1, sv ad2 p0.jobs cap3, sv ad4 p0.at_ cap5, iv p0.done]), (20, iv x396)] hF (ocons (obN (us := [.pointer pv1, sv ad2 p0.jobs cap3, sv ad4 p0.at_ cap5, iv p0.done]) (by kernel_rfl) (fun _ hd => ((hS.at_ hd).blk (i := 0) rfl).cells rfl)) onil) fun a hF => ?_
     replace h := bindS h
     obtain ⟨y438, hy438, h⟩ := h
     refine SK.wi (callK (f := 85) (args := #[.agg #[.pointer pv1, sv ad2 p0.jobs cap3, sv ad4 p0.at_ cap5, iv p0.done], iv x396]) (R := fun v w2 => ∃ ν439 pv440 ad441 cap442 ad443 cap444, ν395.ext w.heap.size ν439 ∧ v = .agg #[.pointer pv440, sv ad441 y438.jobs cap442, sv ad443 y438.at_ cap444, iv y438.done] ∧ PtM ν439 113 Rp113 pv440 y438.desk ∧ ArrM ν439 1 fI ad441 cap442 y438.jobs ∧ ArrM ν439 1 fI ad443 cap444 y438.at_ ∧ St w [frzR w.heap.size ν439] w2) (fun v437 => [(2, pb cb2), (3, pb cb3), (4, pb cb4), (5, pb b11), (15, iv (ln d242.takes)), (16, iv x396), (21, v437)]) hF (by kernel_rfl) ⟨by kernel_rfl⟩ (Calls.mono (plan_line_add_ok F p0 x396 _ hy438 ν395 w (hS.frz (i := 1) rfl hlow) hA6 hA7 hA8) (by rintro e w2 ⟨ν439, pv440, ad441, cap442, ad443, cap444, hx448, rfl, hA445, hA446, hA447, h⟩; exact ⟨_, rfl, ν439, pv440, ad441, cap442, ad443, cap444, hx448, rfl, hA445, hA446, hA447, h⟩)) (fun _ => ⟨by kernel_rfl⟩) ?_)
     rintro v437 w a ⟨ν439, pv440, ad441, cap442, ad443, cap444, hx448, rfl, hA445, hA446, hA447, hQ⟩ hF
     replace hext := Frz.ext_trans hext (Frz.ext_mono hx448 hS.ext.size)
     obtain ⟨hlow, hS⟩ := hS.frzMerge (i := 1) rfl hlow hx448 hQ
     replace hA6 := hA6.mono Rp113.mono hx448.1
     replace hA7 := hA7.mono hx448.1
     replace hA8 := hA8.mono hx448.1
     replace hcb1 := hcb1.mono hx448.1
     replace hA10 := hA10.mono Rp113.mono hx448.1
     replace hcb2 := hcb2.mono hx448.1
     replace hcb3 := hcb3.mono hx448.1
     replace hcb4 := hcb4.mono hx448.1
     replace hP := hPm _ _ _ _ _ hP hx448.1
     replace hA255 := hA255.mono hx448.1
     replace hA256 := hA256.mono hx448.1
     replace hA257 := hA257.mono Rp40.mono hx448.1
     replace hB246 := hB246.mono hx448.1
     replace hj241 := Frz.le_trans hj241 hx448.1
     replace hle399 := Frz.le_trans hle399 hx448.1
     replace hj436 := Frz.le_trans hj436 hx448.1
     replace hS : St w0 (blk b11 102 #[.pointer pv1, sv ad2 p0.jobs cap3, sv ad4 p0.at_ cap5, iv p0.done] :: fz w0 ν439 :: (RC s397 true g398 ++ G_)) w := hS
     refine SK.wi (allocK (t := 102) (fun b449 => [(2, pb cb2), (3, pb cb3), (4, pb cb4), (5, pb b11), (8, pb b449), (15, iv (ln d242.takes)), (16, iv x396), (21, .agg #[.pointer pv440, sv ad441 y438.jobs cap442, sv ad443 y438.at_ cap444, iv y438.done])]) #[.pointer none, .slice none 0 0, .slice none 0 0, iv 0] hF hS (by kernel_rfl) ⟨by kernel_rfl⟩ (by kernel_rfl) (fun _ => ⟨by kernel_rfl⟩) fun b449 w a hF hS => ?_)
     refine SK.wi (storeK (t := 102) [(2, pb cb2), (3, pb cb3), (4, pb cb4), (5, pb b11), (8, pb b449), (15, iv (ln d242.takes)), (16, iv x396)] 0 0 (.agg #[.pointer pv440, sv ad441 y438.jobs cap442, sv ad443 y438.at_ cap444, iv y438.done]) #[.pointer pv440, sv ad441 y438.jobs cap442, sv ad443 y438.at_ cap444, iv y438.done] hF hS rfl (by kernel_rfl) ⟨by kernel_rfl⟩ (by kernel_rfl) (by kernel_rfl) (by kernel_rfl) (by kernel_rfl) ⟨by kernel_rfl⟩ fun w a hF hS => ?_)
     refine wfn rfl ?_
     refine esr ?_
     replace h := bindS h
     obtain ⟨y450, hy450, h⟩ := h
     refine rx 7 [.run [] (Instr.loadAt 102 (pb b449)) (.agg #[.pointer pv440, sv ad441 y438.jobs cap442, sv ad443 y438.at_ cap444, iv y438.done]), .call [] 86 #[.agg #[.pointer pv440, sv ad441 y438.jobs cap442, sv ad443 y438.at_ cap444, iv y438.done]] (.tuple #[iv y450.1, .bool y450.2])] 7 [(2, pb cb2), (3, pb cb3), (4, pb cb4), (5, pb b11), (8, pb b449), (9, iv y450.1), (10, .bool y450.2), (15, iv (ln d242.takes)), (16, iv x396)] hF (ocons (obN (us := [.pointer pv440, sv ad441 y438.jobs cap442, sv ad443 y438.at_ cap444, iv y438.done]) (by kernel_rfl) (fun _ hd => ((hS.later hd).blk (i := 0) rfl).cells rfl)) (ocons (show Ob.ok _ Ext _ _ from fun hk w2 hd => plan_line_first_ok F y438 _ ((fun _ => hy450) hk) _ w2 (memOf_at w2) (hA445.mono Rp113.mono (FrzAt.le_mem ((hS.later hd).frz (i := 2) rfl hlow))) (hA446.mono (FrzAt.le_mem ((hS.later hd).frz (i := 2) rfl hlow))) (hA447.mono (FrzAt.le_mem ((hS.later hd).frz (i := 2) rfl hlow)))) onil)) fun a w hF hx => ?_
     replace hS := hS.later hx
     refine wfn rfl ?_
     refine wpIn_block ?_
     refine esr ?_
     refine rn 2 2 [(2, pb cb2), (3, pb cb3), (4, pb cb4), (5, pb b11), (8, pb b449), (9, iv y450.1), (15, iv (ln d242.takes)), (16, iv x396), (27, .bool y450.2)] hF fun a hF => ?_
     refine wfn rfl ?_
     refine econd hF rfl (fun hc => ?_) (fun hc => ?_)
     ·replace h := bif_t h hc
      refine esr ?_
      refine rno 3 [.run [] (Instr.loadAt 144 (pb cb2)) (.func (.yield l_) #[] #[]), .run [] (Instr.loadAt 102 (pb b449)) (.agg #[.pointer pv440, sv ad441 y438.jobs cap442, sv ad443 y438.at_ cap444, iv y438.done])] 3 [(2, pb cb2), (3, pb cb3), (4, pb cb4), (5, pb b11), (15, iv (ln d242.takes)), (16, iv x396), (29, .func (.yield l_) #[] #[]), (30, .agg #[.pointer pv440, sv ad441 y438.jobs cap442, sv ad443 y438.at_ cap444, iv y438.done]), (31, iv y450.1)] hF (ocons (ob1 (by kernel_rfl) (fun _ hd => (hcb2.blk ((hS.at_ hd).frz (i := 2) rfl hlow)).cell1 (j := 0) rfl)) (ocons (obN (us := [.pointer pv440, sv ad441 y438.jobs cap442, sv ad443 y438.at_ cap444, iv y438.done]) (by kernel_rfl) (fun _ hd => ((hS.at_ hd).blk (i := 0) rfl).cells rfl)) onil)) fun a hF => ?_
      replace h := bindS h
      obtain ⟨q451, hq451, h⟩ := h
      refine yield_ (l := l_) (args := #[.agg #[.pointer pv440, sv ad441 y438.jobs cap442, sv ad443 y438.at_ cap444, iv y438.done], iv y450.1]) 4 (fun bq_ => [(2, pb cb2), (3, pb cb3), (4, pb cb4), (5, pb b11), (15, iv (ln d242.takes)), (16, iv x396), (32, .bool bq_)]) hF (by kernel_rfl) ⟨by kernel_rfl⟩ (hy s397 (y438, y450.1) q451 hq451 ν439 g398 (G_ ++ [blk b449 102 #[.pointer pv440, sv ad441 y438.jobs cap442, sv ad443 y438.at_ cap444, iv y438.done], blk b11 102 #[.pointer pv1, sv ad2 p0.jobs cap3, sv ad4 p0.at_ cap5, iv p0.done]]) w pv440 ad441 cap442 ad443 cap444 hext hlow hP hA445 hA446 hA447 (St.rot [blk b449 102 #[.pointer pv440, sv ad441 y438.jobs cap442, sv ad443 y438.at_ cap444, iv y438.done], blk b11 102 #[.pointer pv1, sv ad2 p0.jobs cap3, sv ad4 p0.at_ cap5, iv p0.done]] hS)) (fun _ => ⟨by kernel_rfl⟩) rfl ?_
      rintro bq_ w a ⟨hc_, ν452, g453, hx454, hlow, hP, hS⟩ hF
      subst hc_
      replace hS := St.unrot [blk b449 102 #[.pointer pv440, sv ad441 y438.jobs cap442, sv ad443 y438.at_ cap444, iv y438.done], blk b11 102 #[.pointer pv1, sv ad2 p0.jobs cap3, sv ad4 p0.at_ cap5, iv p0.done]] hS
      replace hext := Frz.ext_trans hext hx454
      replace hA6 := hA6.mono Rp113.mono hx454.1
      replace hA7 := hA7.mono hx454.1
      replace hA8 := hA8.mono hx454.1
      replace hcb1 := hcb1.mono hx454.1
      replace hA10 := hA10.mono Rp113.mono hx454.1
      replace hcb2 := hcb2.mono hx454.1
      replace hcb3 := hcb3.mono hx454.1
      replace hcb4 := hcb4.mono hx454.1
      replace hA255 := hA255.mono hx454.1
      replace hA256 := hA256.mono hx454.1
      replace hA257 := hA257.mono Rp40.mono hx454.1
      replace hB246 := hB246.mono hx454.1
      replace hA445 := hA445.mono Rp113.mono hx454.1
      replace hA446 := hA446.mono hx454.1
      replace hA447 := hA447.mono hx454.1
      replace hj241 := Frz.le_trans hj241 hx454.1
      replace hle399 := Frz.le_trans hle399 hx454.1
      replace hj436 := Frz.le_trans hj436 hx454.1
      replace hS : St w0 (blk b449 102 #[.pointer pv440, sv ad441 y438.jobs cap442, sv ad443 y438.at_ cap444, iv y438.done] :: blk b11 102 #[.pointer pv1, sv ad2 p0.jobs cap3, sv ad4 p0.at_ cap5, iv p0.done] :: fz w0 ν452 :: (RC q451.1 (q451.2) g453 ++ G_)) w := hS
      rcases Bool.eq_false_or_eq_true (q451.2) with hb455 | hb455
      ·replace h := bif_t h hb455
       rw [hb455] at hS hP
       rw [hb455] at hF
       replace hS : St w0 (blk b449 102 #[.pointer pv440, sv ad441 y438.jobs cap442, sv ad443 y438.at_ cap444, iv y438.done] :: blk b11 102 #[.pointer pv1, sv ad2 p0.jobs cap3, sv ad4 p0.at_ cap5, iv p0.done] :: fz w0 ν452 :: (RC q451.1 true g453 ++ G_)) w := hS
       refine rn 1 5 [(2, pb cb2), (3, pb cb3), (4, pb cb4), (5, pb b11), (15, iv (ln d242.takes)), (16, iv x396), (33, .bool false)] hF fun a hF => ?_
       refine wfn rfl ?_
       refine wpIn_cond_false (hF.get rfl) ?_
       refine wpIn_skip (norm_block <| norm_block <| norm_then <| ?_)
       exact ⟨q451.1, ν452, g453, hF.sub (by kernel_rfl), St.pickT (A := [blk b449 102 #[.pointer pv440, sv ad441 y438.jobs cap442, sv ad443 y438.at_ cap444, iv y438.done], blk b11 102 #[.pointer pv1, sv ad2 p0.jobs cap3, sv ad4 p0.at_ cap5, iv p0.done], fz w0 ν452]) (T := (RC q451.1 true g453 ++ G_)) [1, 2] (by decide) hS, hP, hj436, hext, hlow, h⟩
      ·replace h := bif_f h hb455
       rw [hb455] at hS hP
       rw [hb455] at hF
       replace hS : St w0 (blk b449 102 #[.pointer pv440, sv ad441 y438.jobs cap442, sv ad443 y438.at_ cap444, iv y438.done] :: blk b11 102 #[.pointer pv1, sv ad2 p0.jobs cap3, sv ad4 p0.at_ cap5, iv p0.done] :: fz w0 ν452 :: (RC q451.1 false g453 ++ G_)) w := hS
       refine rn 1 5 [(2, pb cb2), (3, pb cb3), (4, pb cb4), (5, pb b11), (15, iv (ln d242.takes)), (16, iv x396), (33, .bool true)] hF fun a hF => ?_
       refine wfn rfl ?_
       refine wpIn_cond_true (hF.get rfl) ?_
       refine esr ?_
       refine rn 1 1 [(6, .bool false)] hF fun a hF => ?_
       refine wfn rfl ?_
       refine wpIn_ret (ret_block <| ret_block <| ret_then <| ret_then <| ret_block <| ret_then <| fn_ret [.tmp 6] [.bool false] hF rfl ⟨rfl, trivial⟩ ?_)
       have hr_ := Option.some.inj h
       subst hr_
       exact ⟨ν452, g453, hext, hlow, hP, rfl, hS.drop1.drop1⟩
     ·replace h := bif_f h hc
      refine esr ?_
      refine rno 6 [.run [] (Instr.loadAt 40 (.pointer (some ⟨b449, 1, none⟩))) (sv ad441 y438.jobs cap442), .run [] (Instr.loadAt 3 (pb cb3)) (iv c2_)] 6 [(2, pb cb2), (3, pb cb3), (4, pb cb4), (5, pb b11), (8, pb b449), (15, iv (ln d242.takes)), (16, iv x396), (34, .bool ((ln y438.jobs) == c2_))] hF (ocons (ob1 (by kernel_rfl) (fun _ hd => (hS.at_ hd).cell (i := 0) (j := 1) rfl rfl)) (ocons (ob1 (by kernel_rfl) (fun _ hd => (hcb3.blk ((hS.at_ hd).frz (i := 2) rfl hlow)).cell1 (j := 0) rfl)) onil)) fun a hF => ?_
      refine wfn rfl ?_
      refine econd hF rfl (fun hc => ?_) (fun hc => ?_)
      ·replace h := bif_t h hc
       refine esr ?_
       refine rno 2 [.run [] (Instr.loadAt 144 (pb cb2)) (.func (.yield l_) #[] #[]), .run [] (Instr.loadAt 102 (pb b449)) (.agg #[.pointer pv440, sv ad441 y438.jobs cap442, sv ad443 y438.at_ cap444, iv y438.done])] 2 [(2, pb cb2), (3, pb cb3), (4, pb cb4), (5, pb b11), (15, iv (ln d242.takes)), (16, iv x396), (40, .func (.yield l_) #[] #[]), (41, .agg #[.pointer pv440, sv ad441 y438.jobs cap442, sv ad443 y438.at_ cap444, iv y438.done])] hF (ocons (ob1 (by kernel_rfl) (fun _ hd => (hcb2.blk ((hS.at_ hd).frz (i := 2) rfl hlow)).cell1 (j := 0) rfl)) (ocons (obN (us := [.pointer pv440, sv ad441 y438.jobs cap442, sv ad443 y438.at_ cap444, iv y438.done]) (by kernel_rfl) (fun _ hd => ((hS.at_ hd).blk (i := 0) rfl).cells rfl)) onil)) fun a hF => ?_
       replace h := bindS h
       obtain ⟨q456, hq456, h⟩ := h
       refine yield_ (l := l_) (args := #[.agg #[.pointer pv440, sv ad441 y438.jobs cap442, sv ad443 y438.at_ cap444, iv y438.done], iv (-1)]) 3 (fun bq_ => [(2, pb cb2), (3, pb cb3), (4, pb cb4), (5, pb b11), (15, iv (ln d242.takes)), (16, iv x396), (42, .bool bq_)]) hF (by kernel_rfl) ⟨by kernel_rfl⟩ (hy s397 (y438, -1) q456 hq456 ν439 g398 (G_ ++ [blk b449 102 #[.pointer pv440, sv ad441 y438.jobs cap442, sv ad443 y438.at_ cap444, iv y438.done], blk b11 102 #[.pointer pv1, sv ad2 p0.jobs cap3, sv ad4 p0.at_ cap5, iv p0.done]]) w pv440 ad441 cap442 ad443 cap444 hext hlow hP hA445 hA446 hA447 (St.rot [blk b449 102 #[.pointer pv440, sv ad441 y438.jobs cap442, sv ad443 y438.at_ cap444, iv y438.done], blk b11 102 #[.pointer pv1, sv ad2 p0.jobs cap3, sv ad4 p0.at_ cap5, iv p0.done]] hS)) (fun _ => ⟨by kernel_rfl⟩) rfl ?_
       rintro bq_ w a ⟨hc_, ν457, g458, hx459, hlow, hP, hS⟩ hF
       subst hc_
       replace hS := St.unrot [blk b449 102 #[.pointer pv440, sv ad441 y438.jobs cap442, sv ad443 y438.at_ cap444, iv y438.done], blk b11 102 #[.pointer pv1, sv ad2 p0.jobs cap3, sv ad4 p0.at_ cap5, iv p0.done]] hS
       replace hext := Frz.ext_trans hext hx459
       replace hA6 := hA6.mono Rp113.mono hx459.1
       replace hA7 := hA7.mono hx459.1
       replace hA8 := hA8.mono hx459.1
       replace hcb1 := hcb1.mono hx459.1
       replace hA10 := hA10.mono Rp113.mono hx459.1
       replace hcb2 := hcb2.mono hx459.1
       replace hcb3 := hcb3.mono hx459.1
       replace hcb4 := hcb4.mono hx459.1
       replace hA255 := hA255.mono hx459.1
       replace hA256 := hA256.mono hx459.1
       replace hA257 := hA257.mono Rp40.mono hx459.1
       replace hB246 := hB246.mono hx459.1
       replace hA445 := hA445.mono Rp113.mono hx459.1
       replace hA446 := hA446.mono hx459.1
       replace hA447 := hA447.mono hx459.1
       replace hj241 := Frz.le_trans hj241 hx459.1
       replace hle399 := Frz.le_trans hle399 hx459.1
       replace hj436 := Frz.le_trans hj436 hx459.1
       replace hS : St w0 (blk b449 102 #[.pointer pv440, sv ad441 y438.jobs cap442, sv ad443 y438.at_ cap444, iv y438.done] :: blk b11 102 #[.pointer pv1, sv ad2 p0.jobs cap3, sv ad4 p0.at_ cap5, iv p0.done] :: fz w0 ν457 :: (RC q456.1 (q456.2) g458 ++ G_)) w := hS
       rcases Bool.eq_false_or_eq_true (q456.2) with hb460 | hb460
       ·replace h := bif_t h hb460
        rw [hb460] at hS hP
        rw [hb460] at hF
        replace hS : St w0 (blk b449 102 #[.pointer pv440, sv ad441 y438.jobs cap442, sv ad443 y438.at_ cap444, iv y438.done] :: blk b11 102 #[.pointer pv1, sv ad2 p0.jobs cap3, sv ad4 p0.at_ cap5, iv p0.done] :: fz w0 ν457 :: (RC q456.1 true g458 ++ G_)) w := hS
        refine rn 1 4 [(2, pb cb2), (3, pb cb3), (4, pb cb4), (5, pb b11), (15, iv (ln d242.takes)), (16, iv x396), (43, .bool false)] hF fun a hF => ?_
        refine wfn rfl ?_
        refine wpIn_cond_false (hF.get rfl) ?_
        refine wpIn_skip (norm_block <| norm_block <| norm_then <| ?_)
        exact ⟨q456.1, ν457, g458, hF.sub (by kernel_rfl), St.pickT (A := [blk b449 102 #[.pointer pv440, sv ad441 y438.jobs cap442, sv ad443 y438.at_ cap444, iv y438.done], blk b11 102 #[.pointer pv1, sv ad2 p0.jobs cap3, sv ad4 p0.at_ cap5, iv p0.done], fz w0 ν457]) (T := (RC q456.1 true g458 ++ G_)) [1, 2] (by decide) hS, hP, hj436, hext, hlow, h⟩
       ·replace h := bif_f h hb460
        rw [hb460] at hS hP
        rw [hb460] at hF
        replace hS : St w0 (blk b449 102 #[.pointer pv440, sv ad441 y438.jobs cap442, sv ad443 y438.at_ cap444, iv y438.done] :: blk b11 102 #[.pointer pv1, sv ad2 p0.jobs cap3, sv ad4 p0.at_ cap5, iv p0.done] :: fz w0 ν457 :: (RC q456.1 false g458 ++ G_)) w := hS
        refine rn 1 4 [(2, pb cb2), (3, pb cb3), (4, pb cb4), (5, pb b11), (15, iv (ln d242.takes)), (16, iv x396), (43, .bool true)] hF fun a hF => ?_
        refine wfn rfl ?_
        refine wpIn_cond_true (hF.get rfl) ?_
        refine esr ?_
        refine rn 1 1 [(6, .bool false)] hF fun a hF => ?_
        refine wfn rfl ?_
        refine wpIn_ret (ret_block <| ret_block <| ret_then <| ret_then <| ret_block <| ret_then <| fn_ret [.tmp 6] [.bool false] hF rfl ⟨rfl, trivial⟩ ?_)
        have hr_ := Option.some.inj h
        subst hr_
        exact ⟨ν457, g458, hext, hlow, hP, rfl, hS.drop1.drop1⟩
      ·replace h := bif_f h hc
       refine esr ?_
       refine rno 2 [.run [] (Instr.loadAt 141 (pb cb4)) (.func (.func 88) #[] #[pb cb1, pb cb2, pb cb3, pb cb4]), .run [] (Instr.loadAt 102 (pb b449)) (.agg #[.pointer pv440, sv ad441 y438.jobs cap442, sv ad443 y438.at_ cap444, iv y438.done])] 2 [(2, pb cb2), (3, pb cb3), (4, pb cb4), (5, pb b11), (15, iv (ln d242.takes)), (16, iv x396), (45, .func (.func 88) #[] #[pb cb1, pb cb2, pb cb3, pb cb4]), (46, .agg #[.pointer pv440, sv ad441 y438.jobs cap442, sv ad443 y438.at_ cap444, iv y438.done])] hF (ocons (ob1 (by kernel_rfl) (fun _ hd => (hcb4.blk ((hS.at_ hd).frz (i := 2) rfl hlow)).cell1 (j := 0) rfl)) (ocons (obN (us := [.pointer pv440, sv ad441 y438.jobs cap442, sv ad443 y438.at_ cap444, iv y438.done]) (by kernel_rfl) (fun _ hd => ((hS.at_ hd).blk (i := 0) rfl).cells rfl)) onil)) fun a hF => ?_
       replace h := bindS h
       obtain ⟨y461, hy461, h⟩ := h
       refine SK.wi (callK (f := 88) (args := #[.agg #[.pointer pv440, sv ad441 y438.jobs cap442, sv ad443 y438.at_ cap444, iv y438.done], pb cb1, pb cb2, pb cb3, pb cb4]) (R := fun v w2 => ∃ (ν_ : Frz) (g2_ : γ), ν439.ext w0.heap.size ν_ ∧ FrzIn w0 ν_ ∧ PC y461.1 y461.2.1 g2_ ν_ ∧ v = .bool y461.2.2 ∧ St w0 (fz w0 ν_ :: (RC y461.1 y461.2.1 g2_ ++ (G_ ++ [blk b449 102 #[.pointer pv440, sv ad441 y438.jobs cap442, sv ad443 y438.at_ cap444, iv y438.done], blk b11 102 #[.pointer pv1, sv ad2 p0.jobs cap3, sv ad4 p0.at_ cap5, iv p0.done]]))) w2) (fun v465 => [(2, pb cb2), (3, pb cb3), (4, pb cb4), (5, pb b11), (15, iv (ln d242.takes)), (16, iv x396), (47, v465)]) hF (by kernel_rfl) ⟨by kernel_rfl⟩ (Calls.mono (ih y438 (some d242) c2_ body s397 _ (by rw [← hself]; exact hy461) l_ ν439 w0 w RC PC hPm (fun s x q hb ν g G w a0_ a1_ a2_ a3_ a4_ hx => hy s x q hb ν g G w a0_ a1_ a2_ a3_ a4_ (Frz.ext_trans hext hx)) g398 (G_ ++ [blk b449 102 #[.pointer pv440, sv ad441 y438.jobs cap442, sv ad443 y438.at_ cap444, iv y438.done], blk b11 102 #[.pointer pv1, sv ad2 p0.jobs cap3, sv ad4 p0.at_ cap5, iv p0.done]]) hlow hP (St.rot [blk b449 102 #[.pointer pv440, sv ad441 y438.jobs cap442, sv ad443 y438.at_ cap444, iv y438.done], blk b11 102 #[.pointer pv1, sv ad2 p0.jobs cap3, sv ad4 p0.at_ cap5, iv p0.done]] hS) hA445 hA446 hA447 hcb1 (PtM.mk (cs := [sv ad248 d242.jobs cap249, sv ad250 d242.takes cap251, sv ad252 d242.moves cap253]) hB246 ⟨ad248, cap249, ad250, cap251, ad252, cap253, css254, rfl, hA255, hA256, hA257⟩) hcb2 hcb3 hcb4) (by rintro e w2 ⟨n1, n2, n3, n4, n5, rfl, n6⟩; exact ⟨_, rfl, n1, n2, n3, n4, n5, rfl, n6⟩)) (fun _ => ⟨by kernel_rfl⟩) ?_)
       rintro v465 w a ⟨ν462, g463, hx464, hlow, hP, rfl, hS⟩ hF
       replace hS := St.unrot [blk b449 102 #[.pointer pv440, sv ad441 y438.jobs cap442, sv ad443 y438.at_ cap444, iv y438.done], blk b11 102 #[.pointer pv1, sv ad2 p0.jobs cap3, sv ad4 p0.at_ cap5, iv p0.done]] hS
       replace hext := Frz.ext_trans hext hx464
       replace hA6 := hA6.mono Rp113.mono hx464.1
       replace hA7 := hA7.mono hx464.1
       replace hA8 := hA8.mono hx464.1
       replace hcb1 := hcb1.mono hx464.1
       replace hA10 := hA10.mono Rp113.mono hx464.1
       replace hcb2 := hcb2.mono hx464.1
       replace hcb3 := hcb3.mono hx464.1
       replace hcb4 := hcb4.mono hx464.1
       replace hA255 := hA255.mono hx464.1
       replace hA256 := hA256.mono hx464.1
       replace hA257 := hA257.mono Rp40.mono hx464.1
       replace hB246 := hB246.mono hx464.1
       replace hA445 := hA445.mono Rp113.mono hx464.1
       replace hA446 := hA446.mono hx464.1
       replace hA447 := hA447.mono hx464.1
       replace hj241 := Frz.le_trans hj241 hx464.1
       replace hle399 := Frz.le_trans hle399 hx464.1
       replace hj436 := Frz.le_trans hj436 hx464.1
       replace hS : St w0 (blk b449 102 #[.pointer pv440, sv ad441 y438.jobs cap442, sv ad443 y438.at_ cap444, iv y438.done] :: blk b11 102 #[.pointer pv1, sv ad2 p0.jobs cap3, sv ad4 p0.at_ cap5, iv p0.done] :: fz w0 ν462 :: (RC y461.1 (y461.2.1) g463 ++ G_)) w := hS
       rcases Bool.eq_false_or_eq_true (y461.2.1) with hb466 | hb466
       ·replace h := bif_t h hb466
        rw [hb466] at hS hP
        replace hS : St w0 (blk b449 102 #[.pointer pv440, sv ad441 y438.jobs cap442, sv ad443 y438.at_ cap444, iv y438.done] :: blk b11 102 #[.pointer pv1, sv ad2 p0.jobs cap3, sv ad4 p0.at_ cap5, iv p0.done] :: fz w0 ν462 :: (RC y461.1 true g463 ++ G_)) w := hS
        refine rn 2 5 [(2, pb cb2), (3, pb cb3), (4, pb cb4), (5, pb b11), (15, iv (ln d242.takes)), (16, iv x396), (44, .bool (!y461.2.2))] hF fun a hF => ?_
        refine wfn rfl ?_
        refine econd hF rfl (fun hc => ?_) (fun hc => ?_)
        ·replace h := bif_t h hc
         refine esr ?_
         refine rn 1 1 [(6, .bool false)] hF fun a hF => ?_
         refine wfn rfl ?_
         refine wpIn_ret (ret_block <| ret_block <| ret_then <| ret_then <| ret_block <| ret_then <| fn_ret [.tmp 6] [.bool false] hF rfl ⟨rfl, trivial⟩ ?_)
         have hr_ := Option.some.inj h
         subst hr_
         exact ⟨ν462, g463, hext, hlow, hP, rfl, hS.drop1.drop1⟩
        ·replace h := bif_f h hc
         refine wpIn_skip (norm_block <| norm_block <| norm_then <| ?_)
         exact ⟨y461.1, ν462, g463, hF.sub (by kernel_rfl), St.pickT (A := [blk b449 102 #[.pointer pv440, sv ad441 y438.jobs cap442, sv ad443 y438.at_ cap444, iv y438.done], blk b11 102 #[.pointer pv1, sv ad2 p0.jobs cap3, sv ad4 p0.at_ cap5, iv p0.done], fz w0 ν462]) (T := (RC y461.1 true g463 ++ G_)) [1, 2] (by decide) hS, hP, hj436, hext, hlow, h⟩
       ·replace h := bif_f h hb466
        rw [hb466] at hS hP
        replace hS : St w0 (blk b449 102 #[.pointer pv440, sv ad441 y438.jobs cap442, sv ad443 y438.at_ cap444, iv y438.done] :: blk b11 102 #[.pointer pv1, sv ad2 p0.jobs cap3, sv ad4 p0.at_ cap5, iv p0.done] :: fz w0 ν462 :: (RC y461.1 false g463 ++ G_)) w := hS
        refine rn 2 5 [(2, pb cb2), (3, pb cb3), (4, pb cb4), (5, pb b11), (15, iv (ln d242.takes)), (16, iv x396), (44, .bool (!y461.2.2))] hF fun a hF => ?_
        refine wfn rfl ?_
        refine econd hF rfl (fun hc => ?_) (fun hc => ?_)
        ·replace h := bif_t h hc
         refine esr ?_
         refine rn 1 1 [(6, .bool false)] hF fun a hF => ?_
         refine wfn rfl ?_
         refine wpIn_ret (ret_block <| ret_block <| ret_then <| ret_then <| ret_block <| ret_then <| fn_ret [.tmp 6] [.bool false] hF rfl ⟨rfl, trivial⟩ ?_)
         have hr_ := Option.some.inj h
         subst hr_
         exact ⟨ν462, g463, hext, hlow, hP, rfl, hS.drop1.drop1⟩
        ·replace h := bif_f h hc
         refine wpIn_skip (norm_block <| norm_block <| norm_then <| ?_)
         cases h
    clear hj436
    rintro a w ⟨s432, ν431, g433, hF, hS, hP, hle434, hext, hlow, h⟩
    replace hA6 := hA6.mono Rp113.mono hle434
    replace hA7 := hA7.mono hle434
    replace hA8 := hA8.mono hle434
    replace hcb1 := hcb1.mono hle434
    replace hA10 := hA10.mono Rp113.mono hle434
    replace hcb2 := hcb2.mono hle434
    replace hcb3 := hcb3.mono hle434
    replace hcb4 := hcb4.mono hle434
    replace hA255 := hA255.mono hle434
    replace hA256 := hA256.mono hle434
    replace hA257 := hA257.mono Rp40.mono hle434
    replace hB246 := hB246.mono hle434
    replace hj241 := Frz.le_trans hj241 hle434
    replace hle399 := Frz.le_trans hle399 hle434
    rw [pplan_desk_cuts_1_1_K3] at h
    refine WI.region ?_
    replace h := bindS h
    obtain ⟨x435, hx435, h⟩ := h
    refine rno 2 [.run [] (binOp .add 3 (iv x396) (iv 1)) (iv x435)] 2 [(2, pb cb2), (3, pb cb3), (4, pb cb4), (5, pb b11), (15, iv (ln d242.takes)), (16, iv x435)] hF (ocons (obAddC (fun _ => hx435)) onil) fun a hF => ?_
    refine wfn rfl ?_
    rw [hk2] at h
    exact ⟨n_, Nat.lt_succ_self _, x435, s432, ν431, g433, hF.sub (by kernel_rfl), St.pickT (A := [blk b11 102 #[.pointer pv1, sv ad2 p0.jobs cap3, sv ad4 p0.at_ cap5, iv p0.done], fz w0 ν431]) (T := (RC s432 true g433 ++ G_)) [0, 1] (by decide) hS, hP, hle399, hext, hlow, h⟩
   ·replace h := bif_f h hc
    refine wpIn_exit (exit_then <| exit_then <| exit_hit <| norm_then ?_)
    try simp only [pb, ← hp245] at hF
    try simp only [pb, ← hp245] at hS
    exact ⟨s397, ν395, g398, hF.sub (by kernel_rfl), St.pickT (A := [blk b11 102 #[.pointer pv1, sv ad2 p0.jobs cap3, sv ad4 p0.at_ cap5, iv p0.done], fz w0 ν395]) (T := (RC s397 true g398 ++ G_)) [0, 1] (by decide) hS, hP, hj241, hext, hlow, h⟩
  clear hj241
  rintro a w ⟨s238, ν237, g239, hF, hS, hP, hle240, hext, hlow, h⟩
  replace hA6 := hA6.mono Rp113.mono hle240
  replace hA7 := hA7.mono hle240
  replace hA8 := hA8.mono hle240
  replace hcb1 := hcb1.mono hle240
  replace hA10 := hA10.mono Rp113.mono hle240
  replace hcb2 := hcb2.mono hle240
  replace hcb3 := hcb3.mono hle240
  replace hcb4 := hcb4.mono hle240
  rw [pplan_desk_cuts_1_1_K1] at h
  refine esr ?_
  refine rn 1 1 [(6, .bool true)] hF fun a hF => ?_
  refine wfn rfl ?_
  refine wpIn_ret (fn_ret [.tmp 6] [.bool true] hF rfl ⟨rfl, trivial⟩ ?_)
  have hr_ := Option.some.inj h
  subst hr_
  exact ⟨ν237, g239, hext, hlow, hP, rfl, hS.drop1⟩

theorem pplan_desk_cuts_1_ok {σ γ : Type} (F : Nat) (c0_ : (Option plan_desk)) (c1_ : Int) (body : σ → (plan_line × Int) → Option (σ × Bool)) (s_ : σ) (res : σ × Bool) (h : pplan_desk_cuts_1 F c0_ c1_ body s_ = some res) (l_ : Nat) (μ : Frz) (w0 w1 : World) (RC : σ → Bool → γ → List Res) (PC : σ → Bool → γ → Frz → Prop) (hPm : ∀ s b g μ ν, PC s b g μ → μ.le ν → PC s b g ν) (hy : ∀ (s : σ) (x : (plan_line × Int)) (q : σ × Bool), body s x = some q → ∀ (ν : Frz) (g : γ) (G : List Res) (w : World) (pv_1 : Option Addr) (ad_2 : Option Addr) (cap_3 : Nat) (ad_4 : Option Addr) (cap_5 : Nat), μ.ext w0.heap.size ν → FrzIn w0 ν → PC s true g ν → PtM ν 113 Rp113 pv_1 x.1.desk → ArrM ν 1 fI ad_2 cap_3 x.1.jobs → ArrM ν 1 fI ad_4 cap_5 x.1.at_ → St w0 (fz w0 ν :: (RC s true g ++ G)) w → Eng.Yields Try.prog l_ #[.agg #[.pointer pv_1, sv ad_2 x.1.jobs cap_3, sv ad_4 x.1.at_ cap_5, iv x.1.done], iv x.2] w (fun c w2 => c = q.2 ∧ ∃ ν2 g2, ν.ext w0.heap.size ν2 ∧ FrzIn w0 ν2 ∧ PC q.1 q.2 g2 ν2 ∧ St w0 (fz w0 ν2 :: (RC q.1 q.2 g2 ++ G)) w2)) (g_ : γ) (G_ : List Res) (hlow : FrzIn w0 μ) (hP : PC s_ true g_ μ) (hS : St w0 (fz w0 μ :: (RC s_ true g_ ++ G_)) w1) {cb1 : Nat} {cb2 : Nat} {pv1 : Option Addr} (hcb1 : BlkM μ cb1 100 #[.pointer pv1]) (hA2 : PtM μ 113 Rp113 pv1 c0_) (hcb2 : BlkM μ cb2 3 #[iv c1_]) : Calls Try.prog 87 #[.func (.yield l_) #[] #[], pb cb1, pb cb2] w1 (fun e w => ∃ (ν_ : Frz) (g2_ : γ), μ.ext w0.heap.size ν_ ∧ FrzIn w0 ν_ ∧ PC res.1 res.2 g2_ ν_ ∧ e = .returned (.tuple #[]) ∧ St w0 (fz w0 ν_ :: (RC res.1 res.2 g2_ ++ G_)) w) := by
 rw [pplan_desk_cuts_1] at h
 have hext := Frz.ext_refl w0.heap.size μ
 refine fn_enterW Try.func87 rfl 10 [(0, .func (.yield l_) #[] #[]), (1, pb cb1), (2, pb cb2)] rfl rfl (by kernel_rfl) fun a w hw hF => ?_
 replace hS : St w0 (fz w0 μ :: (RC s_ true g_ ++ G_)) w := by rw [hw]; exact hS
 clear hw
 refine esr ?_
 refine SK.wi (boxK (t := 144) (fun b3 => [(1, pb cb1), (2, pb cb2), (3, pb b3)]) (.func (.yield l_) #[] #[]) #[.func (.yield l_) #[] #[]] hF hS (by kernel_rfl) ⟨by kernel_rfl⟩ (by kernel_rfl) (fun _ => ⟨by kernel_rfl⟩) fun b3 w a hF hS => ?_)
 refine wfn rfl ?_
 refine esr ?_
 refine SK.wi (allocK (t := 141) (fun b4 => [(1, pb cb1), (2, pb cb2), (3, pb b3), (4, pb b4)]) #[.nilFunc] hF hS (by kernel_rfl) ⟨by kernel_rfl⟩ (by kernel_rfl) (fun _ => ⟨by kernel_rfl⟩) fun b4 w a hF hS => ?_)
 refine wfn rfl ?_
 refine esr ?_
 refine rn 1 1 [(1, pb cb1), (4, pb b4), (5, .func (.func 88) #[] #[pb cb1, pb b3, pb cb2, pb b4])] hF fun a hF => ?_
 refine SK.wi (storeK (t := 141) [(1, pb cb1), (4, pb b4)] 0 0 (.func (.func 88) #[] #[pb cb1, pb b3, pb cb2, pb b4]) #[.func (.func 88) #[] #[pb cb1, pb b3, pb cb2, pb b4]] hF hS rfl (by kernel_rfl) ⟨by kernel_rfl⟩ (by kernel_rfl) (by kernel_rfl) (by kernel_rfl) (by kernel_rfl) ⟨by kernel_rfl⟩ fun w a hF hS => ?_)
 refine wfn rfl ?_
 refine WI.region ?_
 refine rno 3 [.run [] (Instr.loadAt 141 (pb b4)) (.func (.func 88) #[] #[pb cb1, pb b3, pb cb2, pb b4]), .run [] (Instr.loadAt 100 (pb cb1)) (.pointer pv1)] 3 [(6, .func (.func 88) #[] #[pb cb1, pb b3, pb cb2, pb b4]), (8, .agg #[.pointer pv1, .slice none 0 0, .slice none 0 0, iv 0])] hF (ocons (ob1 (by kernel_rfl) (fun _ hd => (hS.at_ hd).cell (i := 0) (j := 0) rfl rfl)) (ocons (ob1 (by kernel_rfl) (fun _ hd => (hcb1.blk ((hS.at_ hd).frz (i := 2) rfl hlow)).cell1 (j := 0) rfl)) onil)) fun a hF => ?_
 obtain ⟨ν5, hx6, hlow, hS, hz7⟩ := hS.freeze (i := 2) (j := 1) rfl rfl (by decide) hlow
 replace hcb1 := hcb1.mono hx6.1
 replace hA2 := hA2.mono Rp113.mono hx6.1
 replace hcb2 := hcb2.mono hx6.1
 replace hP := hPm _ _ _ _ _ hP hx6.1
 replace hext := Frz.ext_trans hext hx6
 replace hS : St w0 (blk b4 141 #[.func (.func 88) #[] #[pb cb1, pb b3, pb cb2, pb b4]] :: fz w0 ν5 :: (RC s_ true g_ ++ G_)) w := hS
 have hB8 : BlkM ν5 b3 144 #[.func (.yield l_) #[] #[]] := hz7
 obtain ⟨ν9, hx10, hlow, hS, hz11⟩ := hS.freeze (i := 1) (j := 0) rfl rfl (by decide) hlow
 replace hcb1 := hcb1.mono hx10.1
 replace hA2 := hA2.mono Rp113.mono hx10.1
 replace hcb2 := hcb2.mono hx10.1
 replace hP := hPm _ _ _ _ _ hP hx10.1
 replace hB8 := hB8.mono hx10.1
 replace hext := Frz.ext_trans hext hx10
 replace hS : St w0 (fz w0 ν9 :: (RC s_ true g_ ++ G_)) w := hS
 have hB12 : BlkM ν9 b4 141 #[.func (.func 88) #[] #[pb cb1, pb b3, pb cb2, pb b4]] := hz11
 replace h := bindS h
 obtain ⟨y13, hy13, h⟩ := h
 refine SK.wi (callK (f := 88) (args := #[.agg #[.pointer pv1, .slice none 0 0, .slice none 0 0, iv 0], pb cb1, pb b3, pb cb2, pb b4]) (R := fun v w2 => ∃ (ν_ : Frz) (g2_ : γ), ν9.ext w0.heap.size ν_ ∧ FrzIn w0 ν_ ∧ PC y13.1 y13.2.1 g2_ ν_ ∧ v = .bool y13.2.2 ∧ St w0 (fz w0 ν_ :: (RC y13.1 y13.2.1 g2_ ++ (G_ ++ []))) w2) (fun v17 => []) hF (by kernel_rfl) ⟨by kernel_rfl⟩ (Calls.mono (pplan_desk_cuts_1_1_ok F (plan_line.mk c0_ ([] : (List Int)) ([] : (List Int)) 0) c0_ c1_ body s_ _ hy13 l_ ν9 w0 w RC PC hPm (fun s x q hb ν g G w a0_ a1_ a2_ a3_ a4_ hx => hy s x q hb ν g G w a0_ a1_ a2_ a3_ a4_ (Frz.ext_trans hext hx)) g_ (G_ ++ []) hlow hP (St.rot [] hS) hA2 ArrM.nil ArrM.nil hcb1 hA2 hB8 hcb2 hB12) (by rintro e w2 ⟨n1, n2, n3, n4, n5, rfl, n6⟩; exact ⟨_, rfl, n1, n2, n3, n4, n5, rfl, n6⟩)) (fun _ => ⟨by kernel_rfl⟩) ?_)
 rintro v17 w a ⟨ν14, g15, hx16, hlow, hP, rfl, hS⟩ hF
 replace hS := St.unrot [] hS
 replace hext := Frz.ext_trans hext hx16
 replace hcb1 := hcb1.mono hx16.1
 replace hA2 := hA2.mono Rp113.mono hx16.1
 replace hcb2 := hcb2.mono hx16.1
 replace hB8 := hB8.mono hx16.1
 replace hB12 := hB12.mono hx16.1
 replace hS : St w0 (fz w0 ν14 :: (RC y13.1 (y13.2.1) g15 ++ G_)) w := hS
 rcases Bool.eq_false_or_eq_true (y13.2.1) with hb18 | hb18
 ·replace h := bif_t h hb18
  rw [hb18] at hS hP
  replace hS : St w0 (fz w0 ν14 :: (RC y13.1 true g15 ++ G_)) w := hS
  refine WI.fin rfl ?_
  refine fn_end hF rfl ?_
  have hr_ := Option.some.inj h
  subst hr_
  exact ⟨ν14, g15, hext, hlow, hP, rfl, hS⟩
 ·replace h := bif_f h hb18
  rw [hb18] at hS hP
  replace hS : St w0 (fz w0 ν14 :: (RC y13.1 false g15 ++ G_)) w := hS
  refine WI.fin rfl ?_
  refine fn_end hF rfl ?_
  have hr_ := Option.some.inj h
  subst hr_
  exact ⟨ν14, g15, hext, hlow, hP, rfl, hS⟩

theorem pplan_desk_cuts_ok (p0 : (Option plan_desk)) (p1 : Int) (res : Unit) (h : pplan_desk_cuts p0 p1 = res) (μ : Frz) (w0 : World) (hm : FrzAt μ w0) {pv1 : Option Addr} (hA2 : PtM μ 113 Rp113 pv1 p0) : Calls Try.prog 61 #[.pointer pv1, iv p1] w0 (fun e w => ∃ zb0 zb1, e = .returned (.func (.func 87) #[] #[pb zb0, pb zb1]) ∧ St w0 [blk zb0 100 #[.pointer pv1], blk zb1 3 #[iv p1]] w) := by
 obtain ⟨hlow, hS⟩ := hm.init
 have hext := Frz.ext_refl w0.heap.size μ
 rw [pplan_desk_cuts] at h
 refine fn_enterW Try.func61 rfl 6 [(0, .pointer pv1), (1, iv p1)] rfl rfl (by kernel_rfl) fun a w hw hF => ?_
 replace hS : St w0 [fz w0 μ] w := by rw [hw]; exact hS
 clear hw
 refine esr ?_
 refine SK.wi (boxK (t := 100) (fun b3 => [(1, iv p1), (2, pb b3)]) (.pointer pv1) #[.pointer pv1] hF hS (by kernel_rfl) ⟨by kernel_rfl⟩ (by kernel_rfl) (fun _ => ⟨by kernel_rfl⟩) fun b3 w a hF hS => ?_)
 refine SK.wi (boxK (t := 3) (fun b4 => [(2, pb b3), (3, pb b4)]) (iv p1) #[iv p1] hF hS (by kernel_rfl) ⟨by kernel_rfl⟩ (by kernel_rfl) (fun _ => ⟨by kernel_rfl⟩) fun b4 w a hF hS => ?_)
 refine rn 1 3 [(2, pb b3), (3, pb b4)] hF fun a hF => ?_
 refine wfn rfl ?_
 refine esr ?_
 refine rn 2 2 [(4, .func (.func 87) #[] #[pb b3, pb b4])] hF fun a hF => ?_
 refine wfn rfl ?_
 refine wpIn_ret (fn_ret [.tmp 4] [.func (.func 87) #[] #[pb b3, pb b4]] hF rfl ⟨rfl, trivial⟩ ?_)
 subst h
 exact ⟨b3, b4, rfl, St.pick [1, 0] (by decide) hS⟩
end Go.Proofs.Ytejffembnkojjaa
