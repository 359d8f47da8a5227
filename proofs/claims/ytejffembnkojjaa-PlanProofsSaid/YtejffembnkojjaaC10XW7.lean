/- Walks, written by program (wip/gen/dec.py). -/
import Derived.Test.YtejffembnkojjaaC10XD
import Derived.Test.YtejffembnkojjaaProg
import Derived.Test.YtejffembnkojjaaC10XW2
import Derived.Test.YtejffembnkojjaaC10XW6
namespace Go.Proofs.Ytejffembnkojjaa
open Go Go.RowKit Go.Eng
set_option maxRecDepth 10000
set_option maxHeartbeats 4000000
set_option linter.unusedVariables false
set_option linter.unusedSimpArgs false
theorem pplan_desk_begun_1_1_ok {σ γ : Type} : ∀ (F : Nat) (p0 : plan_line) (c0_ : (Option plan_desk)) (c1_ : Int) (body : σ → plan_line → Option (σ × Bool)) (s_ : σ) (res : σ × Bool × Bool) (h : pplan_desk_begun_1_1 F p0 c0_ c1_ body s_ = some res) (l_ : Nat) (μ : Frz) (w0 w1 : World) (RC : σ → Bool → γ → List Res) (PC : σ → Bool → γ → Frz → Prop) (hPm : ∀ s b g μ ν, PC s b g μ → μ.le ν → PC s b g ν) (hy : ∀ (s : σ) (x : plan_line) (q : σ × Bool), body s x = some q → ∀ (ν : Frz) (g : γ) (G : List Res) (w : World) (pv_1 : Option Addr) (ad_2 : Option Addr) (cap_3 : Nat) (ad_4 : Option Addr) (cap_5 : Nat), μ.ext w0.heap.size ν → FrzIn w0 ν → PC s true g ν → PtM ν 113 Rp113 pv_1 x.desk → ArrM ν 1 fI ad_2 cap_3 x.jobs → ArrM ν 1 fI ad_4 cap_5 x.at_ → St w0 (fz w0 ν :: (RC s true g ++ G)) w → Eng.Yields Try.prog l_ #[.agg #[.pointer pv_1, sv ad_2 x.jobs cap_3, sv ad_4 x.at_ cap_5, iv x.done]] w (fun c w2 => c = q.2 ∧ ∃ ν2 g2, ν.ext w0.heap.size ν2 ∧ FrzIn w0 ν2 ∧ PC q.1 q.2 g2 ν2 ∧ St w0 (fz w0 ν2 :: (RC q.1 q.2 g2 ++ G)) w2)) (g_ : γ) (G_ : List Res) (hlow : FrzIn w0 μ) (hP : PC s_ true g_ μ) (hS : St w0 (fz w0 μ :: (RC s_ true g_ ++ G_)) w1) {cb1 : Nat} {cb2 : Nat} {cb3 : Nat} {cb4 : Nat} {pv1 : Option Addr} {ad2 : Option Addr} {cap3 : Nat} {ad4 : Option Addr} {cap5 : Nat} {pv9 : Option Addr} (hA6 : PtM μ 113 Rp113 pv1 p0.desk) (hA7 : ArrM μ 1 fI ad2 cap3 p0.jobs) (hA8 : ArrM μ 1 fI ad4 cap5 p0.at_) (hcb1 : BlkM μ cb1 100 #[.pointer pv9]) (hA10 : PtM μ 113 Rp113 pv9 c0_) (hcb2 : BlkM μ cb2 3 #[iv c1_]) (hcb3 : BlkM μ cb3 141 #[.func (.yield l_) #[] #[]]) (hcb4 : BlkM μ cb4 141 #[.func (.func 84) #[] #[pb cb1, pb cb2, pb cb3, pb cb4]]), Calls Try.prog 84 #[.agg #[.pointer pv1, sv ad2 p0.jobs cap3, sv ad4 p0.at_ cap5, iv p0.done], pb cb1, pb cb2, pb cb3, pb cb4] w1 (fun e w => ∃ (ν_ : Frz) (g2_ : γ), μ.ext w0.heap.size ν_ ∧ FrzIn w0 ν_ ∧ PC res.1 res.2.1 g2_ ν_ ∧ e = .returned (.bool res.2.2) ∧ St w0 (fz w0 ν_ :: (RC res.1 res.2.1 g2_ ++ G_)) w) := by
 intro F
 induction F with
 | zero =>
  intro p0 c0_ c1_ body s_ res h
  cases (show (none : Option (σ × Bool × Bool)) = some res from h)
 | succ F ih =>
  intro p0 c0_ c1_ body s_ res h l_ μ w0 w1 RC PC hPm hy g_ G_ hlow hP hS cb1 cb2 cb3 cb4 pv1 ad2 cap3 ad4 cap5 pv9 hA6 hA7 hA8 hcb1 hA10 hcb2 hcb3 hcb4
  replace h : pplan_desk_begun_1_1_R F (pplan_desk_begun_1_1 F) p0 c0_ c1_ body s_ = some res := h
  obtain ⟨self_, hself⟩ : ∃ s : plan_line → (Option plan_desk) → Int → (σ → plan_line → Option (σ × Bool)) → σ → Option (σ × Bool × Bool), s = pplan_desk_begun_1_1 F := ⟨_, rfl⟩
  rw [← hself, pplan_desk_begun_1_1_R] at h
  have hext := Frz.ext_refl w0.heap.size μ
  refine fn_enterW Try.func84 rfl 45 [(0, .agg #[.pointer pv1, sv ad2 p0.jobs cap3, sv ad4 p0.at_ cap5, iv p0.done]), (1, pb cb1), (2, pb cb2), (3, pb cb3), (4, pb cb4)] rfl rfl (by kernel_rfl) fun a w hw hF => ?_
  replace hS : St w0 (fz w0 μ :: (RC s_ true g_ ++ G_)) w := by rw [hw]; exact hS
  clear hw
  refine esr ?_
  refine SK.wi (boxK (t := 102) (fun b11 => [(1, pb cb1), (2, pb cb2), (3, pb cb3), (4, pb cb4), (5, pb b11)]) (.agg #[.pointer pv1, sv ad2 p0.jobs cap3, sv ad4 p0.at_ cap5, iv p0.done]) #[.pointer pv1, sv ad2 p0.jobs cap3, sv ad4 p0.at_ cap5, iv p0.done] hF hS (by kernel_rfl) ⟨by kernel_rfl⟩ (by kernel_rfl) (fun _ => ⟨by kernel_rfl⟩) fun b11 w a hF hS => ?_)
  refine rn 1 2 [(1, pb cb1), (2, pb cb2), (3, pb cb3), (4, pb cb4), (5, pb b11)] hF fun a hF => ?_
  refine wfn rfl ?_
  have hj217 := Frz.le_refl μ
  refine ecut (fun a w => ∃ (s214 : σ) (ν213 : Frz) (g215 : γ), Fr 45 [] [] a ∧ St w0 (blk b11 102 #[.pointer pv1, sv ad2 p0.jobs cap3, sv ad4 p0.at_ cap5, iv p0.done] :: fz w0 ν213 :: (RC s214 true g215 ++ G_)) w ∧ (PC s214 true g215 ν213) ∧ (μ.le ν213) ∧ (μ.ext w0.heap.size ν213) ∧ (FrzIn w0 ν213) ∧ pplan_desk_begun_1_1_K1 s214 = some res) ?_ ?_
  ·skip
   refine esr ?_
   replace h := bindS h
   obtain ⟨d218, hd218, h⟩ := h
   obtain ⟨b219, cs220, hp221, hB222, hR223⟩ := PtM.some hA10 hd218
   obtain ⟨ad224, cap225, ad226, cap227, ad228, cap229, css230, rfl, hA231, hA232, hA233⟩ := hR223
   try rw [hp221] at hF
   try rw [hp221] at hS
   try rw [hp221] at hB222
   try rw [hp221] at hcb1
   try rw [hp221] at hcb2
   try rw [hp221] at hcb3
   try rw [hp221] at hcb4
   refine rno 6 [.run [] (Instr.loadAt 100 (pb cb1)) (pb b219), .run [] (Instr.loadAt 40 (.pointer (some ⟨b219, 1, none⟩))) (sv ad226 d218.takes cap227)] 6 [(2, pb cb2), (3, pb cb3), (4, pb cb4), (5, pb b11), (15, iv (ln d218.takes)), (16, iv 0)] hF (ocons (ob1 (by kernel_rfl) (fun _ hd => (hcb1.blk ((hS.at_ hd).frz (i := 1) rfl hlow)).cell1 (j := 0) rfl)) (ocons (ob1 (by kernel_rfl) (fun _ hd => (hB222.blk ((hS.at_ hd).frz (i := 1) rfl hlow)).cell1 (j := 1) rfl)) onil)) fun a hF => ?_
   refine wfn rfl ?_
   refine wpIn_block ?_
   have hj360 := Frz.le_refl μ
   refine eloop (fun n_ a w => ∃ (x356 : Int) (s357 : σ) (ν355 : Frz) (g358 : γ), Fr 45 [] [(2, pb cb2), (3, pb cb3), (4, pb cb4), (5, pb b11), (15, iv (ln d218.takes)), (16, iv x356)] a ∧ St w0 (blk b11 102 #[.pointer pv1, sv ad2 p0.jobs cap3, sv ad4 p0.at_ cap5, iv p0.done] :: fz w0 ν355 :: (RC s357 true g358 ++ G_)) w ∧ (PC s357 true g358 ν355) ∧ (μ.le ν355) ∧ (μ.ext w0.heap.size ν355) ∧ (FrzIn w0 ν355) ∧ pplan_desk_begun_1_1_L2 F body self_ p0 c1_ d218 n_ x356 s357 = some res) F ⟨0, s_, μ, g_, hF.sub (by kernel_rfl), St.pickT (A := [blk b11 102 #[.pointer pv1, sv ad2 p0.jobs cap3, sv ad4 p0.at_ cap5, iv p0.done], fz w0 μ]) (T := (RC s_ true g_ ++ G_)) [0, 1] (by decide) hS, hP, hj360, hext, hlow, h⟩ ?_
   clear hj360
   rintro n_ a w ⟨x356, s357, ν355, g358, hF, hS, hP, hle359, hext, hlow, h⟩
   rcases n_ with _ | n_
   ·cases (show (none : Option (σ × Bool × Bool)) = some res from h)
   replace hA6 := hA6.mono Rp113.mono hle359
   replace hA7 := hA7.mono hle359
   replace hA8 := hA8.mono hle359
   replace hcb1 := hcb1.mono hle359
   replace hA10 := hA10.mono Rp113.mono hle359
   replace hcb2 := hcb2.mono hle359
   replace hcb3 := hcb3.mono hle359
   replace hcb4 := hcb4.mono hle359
   replace hA231 := hA231.mono hle359
   replace hA232 := hA232.mono hle359
   replace hA233 := hA233.mono Rp40.mono hle359
   replace hB222 := hB222.mono hle359
   replace hj217 := Frz.le_trans hj217 hle359
   obtain ⟨k2, hk2⟩ : ∃ k, k = pplan_desk_begun_1_1_L2 F body self_ p0 c1_ d218 n_ := ⟨_, rfl⟩
   replace h : pplan_desk_begun_1_1_B2 F body self_ p0 c1_ d218 k2 x356 s357 = some res := by rw [hk2]; exact h
   rw [pplan_desk_begun_1_1_B2] at h
   refine esr ?_
   refine rn 1 1 [(2, pb cb2), (3, pb cb3), (4, pb cb4), (5, pb b11), (15, iv (ln d218.takes)), (16, iv x356), (17, .bool (decide (x356 < (ln d218.takes))))] hF fun a hF => ?_
   refine wfn rfl ?_
   refine eseq ?_
   refine econd hF rfl (fun hc => ?_) (fun hc => ?_)
   ·replace h := bif_t h hc
    refine wpIn_skip (norm_then ?_)
    have hj392 := Frz.le_refl ν355
    refine ecut (fun a w => ∃ (s388 : σ) (ν387 : Frz) (g389 : γ), Fr 45 [] [(2, pb cb2), (3, pb cb3), (4, pb cb4), (5, pb b11), (15, iv (ln d218.takes)), (16, iv x356)] a ∧ St w0 (blk b11 102 #[.pointer pv1, sv ad2 p0.jobs cap3, sv ad4 p0.at_ cap5, iv p0.done] :: fz w0 ν387 :: (RC s388 true g389 ++ G_)) w ∧ (PC s388 true g389 ν387) ∧ (ν355.le ν387) ∧ (μ.ext w0.heap.size ν387) ∧ (FrzIn w0 ν387) ∧ pplan_desk_begun_1_1_K3 x356 k2 s388 = some res) ?_ ?_
    ·skip
     refine wpIn_block ?_
     refine esr ?_
     refine rn 2 2 [(2, pb cb2), (3, pb cb3), (4, pb cb4), (5, pb b11), (7, iv x356), (15, iv (ln d218.takes)), (16, iv x356)] hF fun a hF => ?_
     refine wfn rfl ?_
     refine esr ?_
     refine rno 2 [.run [] (Instr.loadAt 102 (pb b11)) (.agg #[.pointer pv1, sv ad2 p0.jobs cap3, sv ad4 p0.at_ cap5, iv p0.done])] 2 [(2, pb cb2), (3, pb cb3), (4, pb cb4), (5, pb b11), (15, iv (ln d218.takes)), (16, iv x356), (19, .agg #[.pointer pv1, sv ad2 p0.jobs cap3, sv ad4 p0.at_ cap5, iv p0.done]), (20, iv x356)] hF (ocons (obN (us := [.pointer pv1, sv ad2 p0.jobs cap3, sv ad4 p0.at_ cap5, iv p0.done]) (by kernel_rfl) (fun _ hd => ((hS.at_ hd).blk (i := 0) rfl).cells rfl)) onil) fun a hF => ?_
     replace h := bindS h
     obtain ⟨y394, hy394, h⟩ := h
     refine SK.wi (callK (f := 85) (args := #[.agg #[.pointer pv1, sv ad2 p0.jobs cap3, sv ad4 p0.at_ cap5, iv p0.done], iv x356]) (R := fun v w2 => ∃ ν395 pv396 ad397 cap398 ad399 cap400, ν355.ext w.heap.size ν395 ∧ v = .agg #[.pointer pv396, sv ad397 y394.jobs cap398, sv ad399 y394.at_ cap400, iv y394.done] ∧ PtM ν395 113 Rp113 pv396 y394.desk ∧ ArrM ν395 1 fI ad397 cap398 y394.jobs ∧ ArrM ν395 1 fI ad399 cap400 y394.at_ ∧ St w [frzR w.heap.size ν395] w2) (fun v393 => [(2, pb cb2), (3, pb cb3), (4, pb cb4), (5, pb b11), (15, iv (ln d218.takes)), (16, iv x356), (21, v393)]) hF (by kernel_rfl) ⟨by kernel_rfl⟩ (Calls.mono (plan_line_add_ok F p0 x356 _ hy394 ν355 w (hS.frz (i := 1) rfl hlow) hA6 hA7 hA8) (by rintro e w2 ⟨ν395, pv396, ad397, cap398, ad399, cap400, hx404, rfl, hA401, hA402, hA403, h⟩; exact ⟨_, rfl, ν395, pv396, ad397, cap398, ad399, cap400, hx404, rfl, hA401, hA402, hA403, h⟩)) (fun _ => ⟨by kernel_rfl⟩) ?_)
     rintro v393 w a ⟨ν395, pv396, ad397, cap398, ad399, cap400, hx404, rfl, hA401, hA402, hA403, hQ⟩ hF
     replace hext := Frz.ext_trans hext (Frz.ext_mono hx404 hS.ext.size)
     obtain ⟨hlow, hS⟩ := hS.frzMerge (i := 1) rfl hlow hx404 hQ
     replace hA6 := hA6.mono Rp113.mono hx404.1
     replace hA7 := hA7.mono hx404.1
     replace hA8 := hA8.mono hx404.1
     replace hcb1 := hcb1.mono hx404.1
     replace hA10 := hA10.mono Rp113.mono hx404.1
     replace hcb2 := hcb2.mono hx404.1
     replace hcb3 := hcb3.mono hx404.1
     replace hcb4 := hcb4.mono hx404.1
     replace hP := hPm _ _ _ _ _ hP hx404.1
     replace hA231 := hA231.mono hx404.1
     replace hA232 := hA232.mono hx404.1
     replace hA233 := hA233.mono Rp40.mono hx404.1
     replace hB222 := hB222.mono hx404.1
     replace hj217 := Frz.le_trans hj217 hx404.1
     replace hle359 := Frz.le_trans hle359 hx404.1
     replace hj392 := Frz.le_trans hj392 hx404.1
     replace hS : St w0 (blk b11 102 #[.pointer pv1, sv ad2 p0.jobs cap3, sv ad4 p0.at_ cap5, iv p0.done] :: fz w0 ν395 :: (RC s357 true g358 ++ G_)) w := hS
     refine SK.wi (allocK (t := 102) (fun b405 => [(2, pb cb2), (3, pb cb3), (4, pb cb4), (5, pb b11), (8, pb b405), (15, iv (ln d218.takes)), (16, iv x356), (21, .agg #[.pointer pv396, sv ad397 y394.jobs cap398, sv ad399 y394.at_ cap400, iv y394.done])]) #[.pointer none, .slice none 0 0, .slice none 0 0, iv 0] hF hS (by kernel_rfl) ⟨by kernel_rfl⟩ (by kernel_rfl) (fun _ => ⟨by kernel_rfl⟩) fun b405 w a hF hS => ?_)
     refine SK.wi (storeK (t := 102) [(2, pb cb2), (3, pb cb3), (4, pb cb4), (5, pb b11), (8, pb b405), (15, iv (ln d218.takes)), (16, iv x356)] 0 0 (.agg #[.pointer pv396, sv ad397 y394.jobs cap398, sv ad399 y394.at_ cap400, iv y394.done]) #[.pointer pv396, sv ad397 y394.jobs cap398, sv ad399 y394.at_ cap400, iv y394.done] hF hS rfl (by kernel_rfl) ⟨by kernel_rfl⟩ (by kernel_rfl) (by kernel_rfl) (by kernel_rfl) (by kernel_rfl) ⟨by kernel_rfl⟩ fun w a hF hS => ?_)
     refine wfn rfl ?_
     refine eseq ?_
     refine esr ?_
     refine rno 5 [.run [] (Instr.loadAt 40 (.pointer (some ⟨b405, 1, none⟩))) (sv ad397 y394.jobs cap398), .run [] (Instr.loadAt 3 (pb cb2)) (iv c1_)] 5 [(2, pb cb2), (3, pb cb3), (4, pb cb4), (5, pb b11), (8, pb b405), (15, iv (ln d218.takes)), (16, iv x356), (26, .bool ((ln y394.jobs) == c1_))] hF (ocons (ob1 (by kernel_rfl) (fun _ hd => (hS.at_ hd).cell (i := 0) (j := 1) rfl rfl)) (ocons (ob1 (by kernel_rfl) (fun _ hd => (hcb2.blk ((hS.at_ hd).frz (i := 2) rfl hlow)).cell1 (j := 0) rfl)) onil)) fun a hF => ?_
     refine wfn rfl ?_
     refine econd hF rfl (fun hc => ?_) (fun hc => ?_)
     ·replace h := bif_t h hc
      refine eseq ?_
      refine esr ?_
      refine rno 2 [.run [] (Instr.loadAt 141 (pb cb3)) (.func (.yield l_) #[] #[]), .run [] (Instr.loadAt 102 (pb b405)) (.agg #[.pointer pv396, sv ad397 y394.jobs cap398, sv ad399 y394.at_ cap400, iv y394.done])] 2 [(2, pb cb2), (3, pb cb3), (4, pb cb4), (5, pb b11), (15, iv (ln d218.takes)), (16, iv x356), (27, .func (.yield l_) #[] #[]), (28, .agg #[.pointer pv396, sv ad397 y394.jobs cap398, sv ad399 y394.at_ cap400, iv y394.done])] hF (ocons (ob1 (by kernel_rfl) (fun _ hd => (hcb3.blk ((hS.at_ hd).frz (i := 2) rfl hlow)).cell1 (j := 0) rfl)) (ocons (obN (us := [.pointer pv396, sv ad397 y394.jobs cap398, sv ad399 y394.at_ cap400, iv y394.done]) (by kernel_rfl) (fun _ hd => ((hS.at_ hd).blk (i := 0) rfl).cells rfl)) onil)) fun a hF => ?_
      replace h := bindS h
      obtain ⟨q406, hq406, h⟩ := h
      refine yield_ (l := l_) (args := #[.agg #[.pointer pv396, sv ad397 y394.jobs cap398, sv ad399 y394.at_ cap400, iv y394.done]]) 3 (fun bq_ => [(2, pb cb2), (3, pb cb3), (4, pb cb4), (5, pb b11), (15, iv (ln d218.takes)), (16, iv x356), (29, .bool bq_)]) hF (by kernel_rfl) ⟨by kernel_rfl⟩ (hy s357 y394 q406 hq406 ν395 g358 (G_ ++ [blk b405 102 #[.pointer pv396, sv ad397 y394.jobs cap398, sv ad399 y394.at_ cap400, iv y394.done], blk b11 102 #[.pointer pv1, sv ad2 p0.jobs cap3, sv ad4 p0.at_ cap5, iv p0.done]]) w pv396 ad397 cap398 ad399 cap400 hext hlow hP hA401 hA402 hA403 (St.rot [blk b405 102 #[.pointer pv396, sv ad397 y394.jobs cap398, sv ad399 y394.at_ cap400, iv y394.done], blk b11 102 #[.pointer pv1, sv ad2 p0.jobs cap3, sv ad4 p0.at_ cap5, iv p0.done]] hS)) (fun _ => ⟨by kernel_rfl⟩) rfl ?_
      rintro bq_ w a ⟨hc_, ν407, g408, hx409, hlow, hP, hS⟩ hF
      subst hc_
      replace hS := St.unrot [blk b405 102 #[.pointer pv396, sv ad397 y394.jobs cap398, sv ad399 y394.at_ cap400, iv y394.done], blk b11 102 #[.pointer pv1, sv ad2 p0.jobs cap3, sv ad4 p0.at_ cap5, iv p0.done]] hS
      replace hext := Frz.ext_trans hext hx409
      replace hA6 := hA6.mono Rp113.mono hx409.1
      replace hA7 := hA7.mono hx409.1
      replace hA8 := hA8.mono hx409.1
      replace hcb1 := hcb1.mono hx409.1
      replace hA10 := hA10.mono Rp113.mono hx409.1
      replace hcb2 := hcb2.mono hx409.1
      replace hcb3 := hcb3.mono hx409.1
      replace hcb4 := hcb4.mono hx409.1
      replace hA231 := hA231.mono hx409.1
      replace hA232 := hA232.mono hx409.1
      replace hA233 := hA233.mono Rp40.mono hx409.1
      replace hB222 := hB222.mono hx409.1
      replace hA401 := hA401.mono Rp113.mono hx409.1
      replace hA402 := hA402.mono hx409.1
      replace hA403 := hA403.mono hx409.1
      replace hj217 := Frz.le_trans hj217 hx409.1
      replace hle359 := Frz.le_trans hle359 hx409.1
      replace hj392 := Frz.le_trans hj392 hx409.1
      replace hS : St w0 (blk b405 102 #[.pointer pv396, sv ad397 y394.jobs cap398, sv ad399 y394.at_ cap400, iv y394.done] :: blk b11 102 #[.pointer pv1, sv ad2 p0.jobs cap3, sv ad4 p0.at_ cap5, iv p0.done] :: fz w0 ν407 :: (RC q406.1 (q406.2) g408 ++ G_)) w := hS
      rcases Bool.eq_false_or_eq_true (q406.2) with hb410 | hb410
      ·replace h := bif_t h hb410
       rw [hb410] at hS hP
       rw [hb410] at hF
       replace hS : St w0 (blk b405 102 #[.pointer pv396, sv ad397 y394.jobs cap398, sv ad399 y394.at_ cap400, iv y394.done] :: blk b11 102 #[.pointer pv1, sv ad2 p0.jobs cap3, sv ad4 p0.at_ cap5, iv p0.done] :: fz w0 ν407 :: (RC q406.1 true g408 ++ G_)) w := hS
       refine rn 1 4 [(2, pb cb2), (3, pb cb3), (4, pb cb4), (5, pb b11), (15, iv (ln d218.takes)), (16, iv x356), (30, .bool false)] hF fun a hF => ?_
       refine wfn rfl ?_
       refine wpIn_cond_false (hF.get rfl) ?_
       refine wpIn_skip (norm_then ?_)
       refine wpIn_exit (exit_then <| exit_hit <| norm_then ?_)
       exact ⟨q406.1, ν407, g408, hF.sub (by kernel_rfl), St.pickT (A := [blk b405 102 #[.pointer pv396, sv ad397 y394.jobs cap398, sv ad399 y394.at_ cap400, iv y394.done], blk b11 102 #[.pointer pv1, sv ad2 p0.jobs cap3, sv ad4 p0.at_ cap5, iv p0.done], fz w0 ν407]) (T := (RC q406.1 true g408 ++ G_)) [1, 2] (by decide) hS, hP, hj392, hext, hlow, h⟩
      ·replace h := bif_f h hb410
       rw [hb410] at hS hP
       rw [hb410] at hF
       replace hS : St w0 (blk b405 102 #[.pointer pv396, sv ad397 y394.jobs cap398, sv ad399 y394.at_ cap400, iv y394.done] :: blk b11 102 #[.pointer pv1, sv ad2 p0.jobs cap3, sv ad4 p0.at_ cap5, iv p0.done] :: fz w0 ν407 :: (RC q406.1 false g408 ++ G_)) w := hS
       refine rn 1 4 [(2, pb cb2), (3, pb cb3), (4, pb cb4), (5, pb b11), (15, iv (ln d218.takes)), (16, iv x356), (30, .bool true)] hF fun a hF => ?_
       refine wfn rfl ?_
       refine wpIn_cond_true (hF.get rfl) ?_
       refine esr ?_
       refine rn 1 1 [(6, .bool false)] hF fun a hF => ?_
       refine wfn rfl ?_
       refine wpIn_ret (ret_then <| ret_then <| ret_block <| ret_then <| ret_then <| ret_block <| ret_then <| fn_ret [.tmp 6] [.bool false] hF rfl ⟨rfl, trivial⟩ ?_)
       have hr_ := Option.some.inj h
       subst hr_
       exact ⟨ν407, g408, hext, hlow, hP, rfl, hS.drop1.drop1⟩
     ·replace h := bif_f h hc
      refine wpIn_skip (norm_then ?_)
      refine esr ?_
      replace h := bindS h
      obtain ⟨y411, hy411, h⟩ := h
      refine rx 7 [.run [] (Instr.loadAt 102 (pb b405)) (.agg #[.pointer pv396, sv ad397 y394.jobs cap398, sv ad399 y394.at_ cap400, iv y394.done]), .call [] 86 #[.agg #[.pointer pv396, sv ad397 y394.jobs cap398, sv ad399 y394.at_ cap400, iv y394.done]] (.tuple #[iv y411.1, .bool y411.2])] 7 [(2, pb cb2), (3, pb cb3), (4, pb cb4), (5, pb b11), (8, pb b405), (10, .bool y411.2), (15, iv (ln d218.takes)), (16, iv x356)] hF (ocons (obN (us := [.pointer pv396, sv ad397 y394.jobs cap398, sv ad399 y394.at_ cap400, iv y394.done]) (by kernel_rfl) (fun _ hd => ((hS.later hd).blk (i := 0) rfl).cells rfl)) (ocons (show Ob.ok _ Ext _ _ from fun hk w2 hd => plan_line_first_ok F y394 _ ((fun _ => hy411) hk) _ w2 (memOf_at w2) (hA401.mono Rp113.mono (FrzAt.le_mem ((hS.later hd).frz (i := 2) rfl hlow))) (hA402.mono (FrzAt.le_mem ((hS.later hd).frz (i := 2) rfl hlow))) (hA403.mono (FrzAt.le_mem ((hS.later hd).frz (i := 2) rfl hlow)))) onil)) fun a w hF hx => ?_
      replace hS := hS.later hx
      refine wfn rfl ?_
      refine esr ?_
      refine rn 3 3 [(2, pb cb2), (3, pb cb3), (4, pb cb4), (5, pb b11), (8, pb b405), (15, iv (ln d218.takes)), (16, iv x356), (38, .bool (!y411.2))] hF fun a hF => ?_
      rcases Bool.eq_false_or_eq_true ((!y411.2)) with hg412 | hg412
      ·replace h := bif_t h hg412
       rw [hg412] at hF
       refine run_C (n := 2) (obs := [.run [⟨38, true, true⟩] (Instr.loadAt 141 (pb cb4)) (.func (.func 84) #[] #[pb cb1, pb cb2, pb cb3, pb cb4]), .run [⟨38, true, true⟩] (Instr.loadAt 102 (pb b405)) (.agg #[.pointer pv396, sv ad397 y394.jobs cap398, sv ad399 y394.at_ cap400, iv y394.done])]) 5 [(2, ⟨[], pb cb2⟩), (3, ⟨[], pb cb3⟩), (4, ⟨[], pb cb4⟩), (5, ⟨[], pb b11⟩), (15, ⟨[], iv (ln d218.takes)⟩), (16, ⟨[], iv x356⟩), (38, ⟨[], .bool true⟩), (39, ⟨[⟨38, true, true⟩], .func (.func 84) #[] #[pb cb1, pb cb2, pb cb3, pb cb4]⟩), (40, ⟨[⟨38, true, true⟩], .agg #[.pointer pv396, sv ad397 y394.jobs cap398, sv ad399 y394.at_ cap400, iv y394.done]⟩)] hF (by kernel_rfl) (ocons (ob1 (by kernel_rfl) (fun _ hd => (hcb4.blk ((hS.at_ hd).frz (i := 2) rfl hlow)).cell1 (j := 0) rfl)) (ocons (obN (us := [.pointer pv396, sv ad397 y394.jobs cap398, sv ad399 y394.at_ cap400, iv y394.done]) (by kernel_rfl) (fun _ hd => ((hS.at_ hd).blk (i := 0) rfl).cells rfl)) onil)) ⟨by kernel_rfl⟩ (by kernel_rfl) rfl fun a hF => ?_
       replace hF : Fr 45 [] [(2, pb cb2), (3, pb cb3), (4, pb cb4), (5, pb b11), (15, iv (ln d218.takes)), (16, iv x356), (38, .bool true), (39, .func (.func 84) #[] #[pb cb1, pb cb2, pb cb3, pb cb4]), (40, .agg #[.pointer pv396, sv ad397 y394.jobs cap398, sv ad399 y394.at_ cap400, iv y394.done])] a := hF
       replace h := bindS h
       obtain ⟨y413, hy413, h⟩ := h
       refine SK.wi (callK (f := 84) (args := #[.agg #[.pointer pv396, sv ad397 y394.jobs cap398, sv ad399 y394.at_ cap400, iv y394.done], pb cb1, pb cb2, pb cb3, pb cb4]) (R := fun v w2 => ∃ (ν_ : Frz) (g2_ : γ), ν395.ext w0.heap.size ν_ ∧ FrzIn w0 ν_ ∧ PC y413.1 y413.2.1 g2_ ν_ ∧ v = .bool y413.2.2 ∧ St w0 (fz w0 ν_ :: (RC y413.1 y413.2.1 g2_ ++ (G_ ++ [blk b405 102 #[.pointer pv396, sv ad397 y394.jobs cap398, sv ad399 y394.at_ cap400, iv y394.done], blk b11 102 #[.pointer pv1, sv ad2 p0.jobs cap3, sv ad4 p0.at_ cap5, iv p0.done]]))) w2) (fun v417 => [(2, pb cb2), (3, pb cb3), (4, pb cb4), (5, pb b11), (15, iv (ln d218.takes)), (16, iv x356), (38, .bool true), (41, v417)]) hF (by kernel_rfl) ⟨by kernel_rfl⟩ (Calls.mono (ih y394 (some d218) c1_ body s357 _ (by rw [← hself]; exact hy413) l_ ν395 w0 w RC PC hPm (fun s x q hb ν g G w a0_ a1_ a2_ a3_ a4_ hx => hy s x q hb ν g G w a0_ a1_ a2_ a3_ a4_ (Frz.ext_trans hext hx)) g358 (G_ ++ [blk b405 102 #[.pointer pv396, sv ad397 y394.jobs cap398, sv ad399 y394.at_ cap400, iv y394.done], blk b11 102 #[.pointer pv1, sv ad2 p0.jobs cap3, sv ad4 p0.at_ cap5, iv p0.done]]) hlow hP (St.rot [blk b405 102 #[.pointer pv396, sv ad397 y394.jobs cap398, sv ad399 y394.at_ cap400, iv y394.done], blk b11 102 #[.pointer pv1, sv ad2 p0.jobs cap3, sv ad4 p0.at_ cap5, iv p0.done]] hS) hA401 hA402 hA403 hcb1 (PtM.mk (cs := [sv ad224 d218.jobs cap225, sv ad226 d218.takes cap227, sv ad228 d218.moves cap229]) hB222 ⟨ad224, cap225, ad226, cap227, ad228, cap229, css230, rfl, hA231, hA232, hA233⟩) hcb2 hcb3 hcb4) (by rintro e w2 ⟨n1, n2, n3, n4, n5, rfl, n6⟩; exact ⟨_, rfl, n1, n2, n3, n4, n5, rfl, n6⟩)) (fun _ => ⟨by kernel_rfl⟩) ?_)
       rintro v417 w a ⟨ν414, g415, hx416, hlow, hP, rfl, hS⟩ hF
       replace hS := St.unrot [blk b405 102 #[.pointer pv396, sv ad397 y394.jobs cap398, sv ad399 y394.at_ cap400, iv y394.done], blk b11 102 #[.pointer pv1, sv ad2 p0.jobs cap3, sv ad4 p0.at_ cap5, iv p0.done]] hS
       replace hext := Frz.ext_trans hext hx416
       replace hA6 := hA6.mono Rp113.mono hx416.1
       replace hA7 := hA7.mono hx416.1
       replace hA8 := hA8.mono hx416.1
       replace hcb1 := hcb1.mono hx416.1
       replace hA10 := hA10.mono Rp113.mono hx416.1
       replace hcb2 := hcb2.mono hx416.1
       replace hcb3 := hcb3.mono hx416.1
       replace hcb4 := hcb4.mono hx416.1
       replace hA231 := hA231.mono hx416.1
       replace hA232 := hA232.mono hx416.1
       replace hA233 := hA233.mono Rp40.mono hx416.1
       replace hB222 := hB222.mono hx416.1
       replace hA401 := hA401.mono Rp113.mono hx416.1
       replace hA402 := hA402.mono hx416.1
       replace hA403 := hA403.mono hx416.1
       replace hj217 := Frz.le_trans hj217 hx416.1
       replace hle359 := Frz.le_trans hle359 hx416.1
       replace hj392 := Frz.le_trans hj392 hx416.1
       replace hS : St w0 (blk b405 102 #[.pointer pv396, sv ad397 y394.jobs cap398, sv ad399 y394.at_ cap400, iv y394.done] :: blk b11 102 #[.pointer pv1, sv ad2 p0.jobs cap3, sv ad4 p0.at_ cap5, iv p0.done] :: fz w0 ν414 :: (RC y413.1 (y413.2.1) g415 ++ G_)) w := hS
       rcases Bool.eq_false_or_eq_true (y413.2.1) with hb418 | hb418
       ·replace h := bif_t h hb418
        rw [hb418] at hS hP
        replace hS : St w0 (blk b405 102 #[.pointer pv396, sv ad397 y394.jobs cap398, sv ad399 y394.at_ cap400, iv y394.done] :: blk b11 102 #[.pointer pv1, sv ad2 p0.jobs cap3, sv ad4 p0.at_ cap5, iv p0.done] :: fz w0 ν414 :: (RC y413.1 true g415 ++ G_)) w := hS
        refine rn 2 8 [(2, pb cb2), (3, pb cb3), (4, pb cb4), (5, pb b11), (15, iv (ln d218.takes)), (16, iv x356), (43, .bool (!y413.2.2))] hF fun a hF => ?_
        refine wfn rfl ?_
        refine econd hF rfl (fun hc => ?_) (fun hc => ?_)
        ·replace h := bif_t h hc
         refine esr ?_
         refine rn 1 1 [(6, .bool false)] hF fun a hF => ?_
         refine wfn rfl ?_
         refine wpIn_ret (ret_block <| ret_then <| ret_then <| ret_block <| ret_then <| fn_ret [.tmp 6] [.bool false] hF rfl ⟨rfl, trivial⟩ ?_)
         have hr_ := Option.some.inj h
         subst hr_
         exact ⟨ν414, g415, hext, hlow, hP, rfl, hS.drop1.drop1⟩
        ·replace h := bif_f h hc
         refine wpIn_skip (norm_block <| norm_then <| ?_)
         exact ⟨y413.1, ν414, g415, hF.sub (by kernel_rfl), St.pickT (A := [blk b405 102 #[.pointer pv396, sv ad397 y394.jobs cap398, sv ad399 y394.at_ cap400, iv y394.done], blk b11 102 #[.pointer pv1, sv ad2 p0.jobs cap3, sv ad4 p0.at_ cap5, iv p0.done], fz w0 ν414]) (T := (RC y413.1 true g415 ++ G_)) [1, 2] (by decide) hS, hP, hj392, hext, hlow, h⟩
       ·replace h := bif_f h hb418
        rw [hb418] at hS hP
        replace hS : St w0 (blk b405 102 #[.pointer pv396, sv ad397 y394.jobs cap398, sv ad399 y394.at_ cap400, iv y394.done] :: blk b11 102 #[.pointer pv1, sv ad2 p0.jobs cap3, sv ad4 p0.at_ cap5, iv p0.done] :: fz w0 ν414 :: (RC y413.1 false g415 ++ G_)) w := hS
        refine rn 2 8 [(2, pb cb2), (3, pb cb3), (4, pb cb4), (5, pb b11), (15, iv (ln d218.takes)), (16, iv x356), (43, .bool (!y413.2.2))] hF fun a hF => ?_
        refine wfn rfl ?_
        refine econd hF rfl (fun hc => ?_) (fun hc => ?_)
        ·replace h := bif_t h hc
         refine esr ?_
         refine rn 1 1 [(6, .bool false)] hF fun a hF => ?_
         refine wfn rfl ?_
         refine wpIn_ret (ret_block <| ret_then <| ret_then <| ret_block <| ret_then <| fn_ret [.tmp 6] [.bool false] hF rfl ⟨rfl, trivial⟩ ?_)
         have hr_ := Option.some.inj h
         subst hr_
         exact ⟨ν414, g415, hext, hlow, hP, rfl, hS.drop1.drop1⟩
        ·replace h := bif_f h hc
         refine wpIn_skip (norm_block <| norm_then <| ?_)
         cases h
      ·replace h := bif_f h hg412
       rw [hg412] at hF
       refine skip_ 4 [(2, pb cb2), (3, pb cb3), (4, pb cb4), (5, pb b11), (8, pb b405), (15, iv (ln d218.takes)), (16, iv x356), (38, .bool false), (39, undef)] hF (by kernel_rfl) ⟨by kernel_rfl⟩ ⟨by kernel_rfl⟩ rfl fun a hF => ?_
       refine skip_ 5 [(2, pb cb2), (3, pb cb3), (4, pb cb4), (5, pb b11), (15, iv (ln d218.takes)), (16, iv x356), (38, .bool false), (39, undef), (40, undef)] hF (by kernel_rfl) ⟨by kernel_rfl⟩ ⟨by kernel_rfl⟩ rfl fun a hF => ?_
       refine skip_ 6 [(2, pb cb2), (3, pb cb3), (4, pb cb4), (5, pb b11), (15, iv (ln d218.takes)), (16, iv x356), (38, .bool false), (41, undef)] hF (by kernel_rfl) ⟨by kernel_rfl⟩ ⟨by kernel_rfl⟩ rfl fun a hF => ?_
       refine skip_ 7 [(2, pb cb2), (3, pb cb3), (4, pb cb4), (5, pb b11), (15, iv (ln d218.takes)), (16, iv x356), (38, .bool false), (42, undef)] hF (by kernel_rfl) ⟨by kernel_rfl⟩ ⟨by kernel_rfl⟩ rfl fun a hF => ?_
       refine rn 1 8 [(2, pb cb2), (3, pb cb3), (4, pb cb4), (5, pb b11), (15, iv (ln d218.takes)), (16, iv x356), (43, .bool false)] hF fun a hF => ?_
       refine wfn rfl ?_
       refine wpIn_cond_false (hF.get rfl) ?_
       refine wpIn_skip (norm_block <| norm_then <| ?_)
       exact ⟨s357, ν395, g358, hF.sub (by kernel_rfl), St.pickT (A := [blk b405 102 #[.pointer pv396, sv ad397 y394.jobs cap398, sv ad399 y394.at_ cap400, iv y394.done], blk b11 102 #[.pointer pv1, sv ad2 p0.jobs cap3, sv ad4 p0.at_ cap5, iv p0.done], fz w0 ν395]) (T := (RC s357 true g358 ++ G_)) [1, 2] (by decide) hS, hP, hj392, hext, hlow, h⟩
    clear hj392
    rintro a w ⟨s388, ν387, g389, hF, hS, hP, hle390, hext, hlow, h⟩
    replace hA6 := hA6.mono Rp113.mono hle390
    replace hA7 := hA7.mono hle390
    replace hA8 := hA8.mono hle390
    replace hcb1 := hcb1.mono hle390
    replace hA10 := hA10.mono Rp113.mono hle390
    replace hcb2 := hcb2.mono hle390
    replace hcb3 := hcb3.mono hle390
    replace hcb4 := hcb4.mono hle390
    replace hA231 := hA231.mono hle390
    replace hA232 := hA232.mono hle390
    replace hA233 := hA233.mono Rp40.mono hle390
    replace hB222 := hB222.mono hle390
    replace hj217 := Frz.le_trans hj217 hle390
    replace hle359 := Frz.le_trans hle359 hle390
    rw [pplan_desk_begun_1_1_K3] at h
    refine WI.region ?_
    replace h := bindS h
    obtain ⟨x391, hx391, h⟩ := h
    refine rno 2 [.run [] (binOp .add 3 (iv x356) (iv 1)) (iv x391)] 2 [(2, pb cb2), (3, pb cb3), (4, pb cb4), (5, pb b11), (15, iv (ln d218.takes)), (16, iv x391)] hF (ocons (obAddC (fun _ => hx391)) onil) fun a hF => ?_
    refine wfn rfl ?_
    rw [hk2] at h
    exact ⟨n_, Nat.lt_succ_self _, x391, s388, ν387, g389, hF.sub (by kernel_rfl), St.pickT (A := [blk b11 102 #[.pointer pv1, sv ad2 p0.jobs cap3, sv ad4 p0.at_ cap5, iv p0.done], fz w0 ν387]) (T := (RC s388 true g389 ++ G_)) [0, 1] (by decide) hS, hP, hle359, hext, hlow, h⟩
   ·replace h := bif_f h hc
    refine wpIn_exit (exit_then <| exit_then <| exit_hit <| norm_then ?_)
    try simp only [pb, ← hp221] at hF
    try simp only [pb, ← hp221] at hS
    exact ⟨s357, ν355, g358, hF.sub (by kernel_rfl), St.pickT (A := [blk b11 102 #[.pointer pv1, sv ad2 p0.jobs cap3, sv ad4 p0.at_ cap5, iv p0.done], fz w0 ν355]) (T := (RC s357 true g358 ++ G_)) [0, 1] (by decide) hS, hP, hj217, hext, hlow, h⟩
  clear hj217
  rintro a w ⟨s214, ν213, g215, hF, hS, hP, hle216, hext, hlow, h⟩
  replace hA6 := hA6.mono Rp113.mono hle216
  replace hA7 := hA7.mono hle216
  replace hA8 := hA8.mono hle216
  replace hcb1 := hcb1.mono hle216
  replace hA10 := hA10.mono Rp113.mono hle216
  replace hcb2 := hcb2.mono hle216
  replace hcb3 := hcb3.mono hle216
  replace hcb4 := hcb4.mono hle216
  rw [pplan_desk_begun_1_1_K1] at h
  refine esr ?_
  refine rn 1 1 [(6, .bool true)] hF fun a hF => ?_
  refine wfn rfl ?_
  refine wpIn_ret (fn_ret [.tmp 6] [.bool true] hF rfl ⟨rfl, trivial⟩ ?_)
  have hr_ := Option.some.inj h
  subst hr_
  exact ⟨ν213, g215, hext, hlow, hP, rfl, hS.drop1⟩

theorem pplan_desk_cuts_1_1_ok {σ γ : Type} : ∀ (F : Nat) (p0 : plan_line) (c0_ : (Option plan_desk)) (c2_ : Int) (body : σ → (plan_line × Int) → Option (σ × Bool)) (s_ : σ) (res : σ × Bool × Bool) (h : pplan_desk_cuts_1_1 F p0 c0_ c2_ body s_ = some res) (l_ : Nat) (μ : Frz) (w0 w1 : World) (RC : σ → Bool → γ → List Res) (PC : σ → Bool → γ → Frz → Prop) (hPm : ∀ s b g μ ν, PC s b g μ → μ.le ν → PC s b g ν) (hy : ∀ (s : σ) (x : (plan_line × Int)) (q : σ × Bool), body s x = some q → ∀ (ν : Frz) (g : γ) (G : List Res) (w : World) (pv_1 : Option Addr) (ad_2 : Option Addr) (cap_3 : Nat) (ad_4 : Option Addr) (cap_5 : Nat), μ.ext w0.heap.size ν → FrzIn w0 ν → PC s true g ν → PtM ν 113 Rp113 pv_1 x.1.desk → ArrM ν 1 fI ad_2 cap_3 x.1.jobs → ArrM ν 1 fI ad_4 cap_5 x.1.at_ → St w0 (fz w0 ν :: (RC s true g ++ G)) w → Eng.Yields Try.prog l_ #[.agg #[.pointer pv_1, sv ad_2 x.1.jobs cap_3, sv ad_4 x.1.at_ cap_5, iv x.1.done], iv x.2] w (fun c w2 => c = q.2 ∧ ∃ ν2 g2, ν.ext w0.heap.size ν2 ∧ FrzIn w0 ν2 ∧ PC q.1 q.2 g2 ν2 ∧ St w0 (fz w0 ν2 :: (RC q.1 q.2 g2 ++ G)) w2)) (g_ : γ) (G_ : List Res) (hlow : FrzIn w0 μ) (hP : PC s_ true g_ μ) (hS : St w0 (fz w0 μ :: (RC s_ true g_ ++ G_)) w1) {cb1 : Nat} {cb2 : Nat} {cb3 : Nat} {cb4 : Nat} {pv1 : Option Addr} {ad2 : Option Addr} {cap3 : Nat} {ad4 : Option Addr} {cap5 : Nat} {pv9 : Option Addr} (hA6 : PtM μ 113 Rp113 pv1 p0.desk) (hA7 : ArrM μ 1 fI ad2 cap3 p0.jobs) (hA8 : ArrM μ 1 fI ad4 cap5 p0.at_) (hcb1 : BlkM μ cb1 100 #[.pointer pv9]) (hA10 : PtM μ 113 Rp113 pv9 c0_) (hcb2 : BlkM μ cb2 144 #[.func (.yield l_) #[] #[]]) (hcb3 : BlkM μ cb3 3 #[iv c2_]) (hcb4 : BlkM μ cb4 141 #[.func (.func 88) #[] #[pb cb1, pb cb2, pb cb3, pb cb4]]), Calls Try.prog 88 #[.agg #[.pointer pv1, sv ad2 p0.jobs cap3, sv ad4 p0.at_ cap5, iv p0.done], pb cb1, pb cb2, pb cb3, pb cb4] w1 (fun e w => ∃ (ν_ : Frz) (g2_ : γ), μ.ext w0.heap.size ν_ ∧ FrzIn w0 ν_ ∧ PC res.1 res.2.1 g2_ ν_ ∧ e = .returned (.bool res.2.2) ∧ St w0 (fz w0 ν_ :: (RC res.1 res.2.1 g2_ ++ G_)) w) := by
 intro F
 induction F with
 | zero =>
  intro p0 c0_ c2_ body s_ res h
  cases (show (none : Option (σ × Bool × Bool)) = some res from h)
 | succ F ih =>
  intro p0 c0_ c2_ body s_ res h l_ μ w0 w1 RC PC hPm hy g_ G_ hlow hP hS cb1 cb2 cb3 cb4 pv1 ad2 cap3 ad4 cap5 pv9 hA6 hA7 hA8 hcb1 hA10 hcb2 hcb3 hcb4
  replace h : pplan_desk_cuts_1_1_R F (pplan_desk_cuts_1_1 F) p0 c0_ c2_ body s_ = some res := h
  obtain ⟨self_, hself⟩ : ∃ s : plan_line → (Option plan_desk) → Int → (σ → (plan_line × Int) → Option (σ × Bool)) → σ → Option (σ × Bool × Bool), s = pplan_desk_cuts_1_1 F := ⟨_, rfl⟩
  rw [← hself, pplan_desk_cuts_1_1_R] at h
  have hext := Frz.ext_refl w0.heap.size μ
  refine fn_enterW Try.func88 rfl 50 [(0, .agg #[.pointer pv1, sv ad2 p0.jobs cap3, sv ad4 p0.at_ cap5, iv p0.done]), (1, pb cb1), (2, pb cb2), (3, pb cb3), (4, pb cb4)] rfl rfl (by kernel_rfl) fun a w hw hF => ?_
  replace hS : St w0 (fz w0 μ :: (RC s_ true g_ ++ G_)) w := by rw [hw]; exact hS
  clear hw
  refine esr ?_
  refine SK.wi (boxK (t := 102) (fun b11 => [(1, pb cb1), (2, pb cb2), (3, pb cb3), (4, pb cb4), (5, pb b11)]) (.agg #[.pointer pv1, sv ad2 p0.jobs cap3, sv ad4 p0.at_ cap5, iv p0.done]) #[.pointer pv1, sv ad2 p0.jobs cap3, sv ad4 p0.at_ cap5, iv p0.done] hF hS (by kernel_rfl) ⟨by kernel_rfl⟩ (by kernel_rfl) (fun _ => ⟨by kernel_rfl⟩) fun b11 w a hF hS => ?_)
  refine rn 1 2 [(1, pb cb1), (2, pb cb2), (3, pb cb3), (4, pb cb4), (5, pb b11)] hF fun a hF => ?_
  refine wfn rfl ?_
  have hj241 := Frz.le_refl μ
  refine ecut (fun a w => ∃ (s238 : σ) (ν237 : Frz) (g239 : γ), Fr 50 [] [] a ∧ St w0 (blk b11 102 #[.pointer pv1, sv ad2 p0.jobs cap3, sv ad4 p0.at_ cap5, iv p0.done] :: fz w0 ν237 :: (RC s238 true g239 ++ G_)) w ∧ (PC s238 true g239 ν237) ∧ (μ.le ν237) ∧ (μ.ext w0.heap.size ν237) ∧ (FrzIn w0 ν237) ∧ pplan_desk_cuts_1_1_K1 s238 = some res) ?_ ?_
  ·skip
   refine esr ?_
   replace h := bindS h
   obtain ⟨d242, hd242, h⟩ := h
   obtain ⟨b243, cs244, hp245, hB246, hR247⟩ := PtM.some hA10 hd242
   obtain ⟨ad248, cap249, ad250, cap251, ad252, cap253, css254, rfl, hA255, hA256, hA257⟩ := hR247
   try rw [hp245] at hF
   try rw [hp245] at hS
   try rw [hp245] at hB246
   try rw [hp245] at hcb1
   try rw [hp245] at hcb2
   try rw [hp245] at hcb3
   try rw [hp245] at hcb4
   refine rno 6 [.run [] (Instr.loadAt 100 (pb cb1)) (pb b243), .run [] (Instr.loadAt 40 (.pointer (some ⟨b243, 1, none⟩))) (sv ad250 d242.takes cap251)] 6 [(2, pb cb2), (3, pb cb3), (4, pb cb4), (5, pb b11), (15, iv (ln d242.takes)), (16, iv 0)] hF (ocons (ob1 (by kernel_rfl) (fun _ hd => (hcb1.blk ((hS.at_ hd).frz (i := 1) rfl hlow)).cell1 (j := 0) rfl)) (ocons (ob1 (by kernel_rfl) (fun _ hd => (hB246.blk ((hS.at_ hd).frz (i := 1) rfl hlow)).cell1 (j := 1) rfl)) onil)) fun a hF => ?_
   refine wfn rfl ?_
   refine wpIn_block ?_
   have hj400 := Frz.le_refl μ
   refine eloop (fun n_ a w => ∃ (x396 : Int) (s397 : σ) (ν395 : Frz) (g398 : γ), Fr 50 [] [(2, pb cb2), (3, pb cb3), (4, pb cb4), (5, pb b11), (15, iv (ln d242.takes)), (16, iv x396)] a ∧ St w0 (blk b11 102 #[.pointer pv1, sv ad2 p0.jobs cap3, sv ad4 p0.at_ cap5, iv p0.done] :: fz w0 ν395 :: (RC s397 true g398 ++ G_)) w ∧ (PC s397 true g398 ν395) ∧ (μ.le ν395) ∧ (μ.ext w0.heap.size ν395) ∧ (FrzIn w0 ν395) ∧ pplan_desk_cuts_1_1_L2 F body self_ p0 c2_ d242 n_ x396 s397 = some res) F ⟨0, s_, μ, g_, hF.sub (by kernel_rfl), St.pickT (A := [blk b11 102 #[.pointer pv1, sv ad2 p0.jobs cap3, sv ad4 p0.at_ cap5, iv p0.done], fz w0 μ]) (T := (RC s_ true g_ ++ G_)) [0, 1] (by decide) hS, hP, hj400, hext, hlow, h⟩ ?_
   clear hj400
   rintro n_ a w ⟨x396, s397, ν395, g398, hF, hS, hP, hle399, hext, hlow, h⟩
   rcases n_ with _ | n_
   ·cases (show (none : Option (σ × Bool × Bool)) = some res from h)
   replace hA6 := hA6.mono Rp113.mono hle399
   replace hA7 := hA7.mono hle399
   replace hA8 := hA8.mono hle399
   replace hcb1 := hcb1.mono hle399
   replace hA10 := hA10.mono Rp113.mono hle399
   replace hcb2 := hcb2.mono hle399
   replace hcb3 := hcb3.mono hle399
   replace hcb4 := hcb4.mono hle399
   replace hA255 := hA255.mono hle399
   replace hA256 := hA256.mono hle399
   replace hA257 := hA257.mono Rp40.mono hle399
   replace hB246 := hB246.mono hle399
   replace hj241 := Frz.le_trans hj241 hle399
   obtain ⟨k2, hk2⟩ : ∃ k, k = pplan_desk_cuts_1_1_L2 F body self_ p0 c2_ d242 n_ := ⟨_, rfl⟩
   replace h : pplan_desk_cuts_1_1_B2 F body self_ p0 c2_ d242 k2 x396 s397 = some res := by rw [hk2]; exact h
   rw [pplan_desk_cuts_1_1_B2] at h
   refine esr ?_
   refine rn 1 1 [(2, pb cb2), (3, pb cb3), (4, pb cb4), (5, pb b11), (15, iv (ln d242.takes)), (16, iv x396), (17, .bool (decide (x396 < (ln d242.takes))))] hF fun a hF => ?_
   refine wfn rfl ?_
   refine eseq ?_
   refine econd hF rfl (fun hc => ?_) (fun hc => ?_)
   ·replace h := bif_t h hc
    refine wpIn_skip (norm_then ?_)
    have hj436 := Frz.le_refl ν395
    refine ecut (fun a w => ∃ (s432 : σ) (ν431 : Frz) (g433 : γ), Fr 50 [] [(2, pb cb2), (3, pb cb3), (4, pb cb4), (5, pb b11), (15, iv (ln d242.takes)), (16, iv x396)] a ∧ St w0 (blk b11 102 #[.pointer pv1, sv ad2 p0.jobs cap3, sv ad4 p0.at_ cap5, iv p0.done] :: fz w0 ν431 :: (RC s432 true g433 ++ G_)) w ∧ (PC s432 true g433 ν431) ∧ (ν395.le ν431) ∧ (μ.ext w0.heap.size ν431) ∧ (FrzIn w0 ν431) ∧ pplan_desk_cuts_1_1_K3 x396 k2 s432 = some res) ?_ ?_
    ·skip
     refine wpIn_block ?_
     refine esr ?_
     refine rn 2 2 [(2, pb cb2), (3, pb cb3), (4, pb cb4), (5, pb b11), (7, iv x396), (15, iv (ln d242.takes)), (16, iv x396)] hF fun a hF => ?_
     refine wfn rfl ?_
     refine esr ?_
     refine rno 2 [.run [] (Instr.loadAt 102 (pb b11)) (.agg #[.pointer pv1, sv ad2 p0.jobs cap3, sv ad4 p0.at_ cap5, iv p0.done])] 2 [(2, pb cb2), (3, pb cb3), (4, pb cb4), (5, pb b11), (15, iv (ln d242.takes)), (16, iv x396), (19, .agg #[.pointer pv1, sv ad2 p0.jobs cap3, sv ad4 p0.at_ cap5, iv p0.done]), (20, iv x396)] hF (ocons (obN (us := [.pointer pv1, sv ad2 p0.jobs cap3, sv ad4 p0.at_ cap5, iv p0.done]) (by kernel_rfl) (fun _ hd => ((hS.at_ hd).blk (i := 0) rfl).cells rfl)) onil) fun a hF => ?_
     replace h := bindS h
     obtain ⟨y438, hy438, h⟩ := h
     refine SK.wi (callK (f := 85) (args := #[.agg #[.pointer pv1, sv ad2 p0.jobs cap3, sv ad4 p0.at_ cap5, iv p0.done], iv x396]) (R := fun v w2 => ∃ ν439 pv440 ad441 cap442 ad443 cap444, ν395.ext w.heap.size ν439 ∧ v = .agg #[.pointer pv440, sv ad441 y438.jobs cap442, sv ad443 y438.at_ cap444, iv y438.done] ∧ PtM ν439 113 Rp113 pv440 y438.desk ∧ ArrM ν439 1 fI ad441 cap442 y438.jobs ∧ ArrM ν439 1 fI ad443 cap444 y438.at_ ∧ St w [frzR w.heap.size ν439] w2) (fun v437 => [(2, pb cb2), (3, pb cb3), (4, pb cb4), (5, pb b11), (15, iv (ln d242.takes)), (16, iv x396), (21, v437)]) hF (by kernel_rfl) ⟨by kernel_rfl⟩ (Calls.mono (plan_line_add_ok F p0 x396 _ hy438 ν395 w (hS.frz (i := 1) rfl hlow) hA6 hA7 hA8) (by rintro e w2 ⟨ν439, pv440, ad441, cap442, ad443, cap444, hx448, rfl, hA445, hA446, hA447, h⟩; exact ⟨_, rfl, ν439, pv440, ad441, cap442, ad443, cap444, hx448, rfl, hA445, hA446, hA447, h⟩)) (fun _ => ⟨by kernel_rfl⟩) ?_)
     rintro v437 w a ⟨ν439, pv440, ad441, cap442, ad443, cap444, hx448, rfl, hA445, hA446, hA447, hQ⟩ hF
     replace hext := Frz.ext_trans hext (Frz.ext_mono hx448 hS.ext.size)
     obtain ⟨hlow, hS⟩ := hS.frzMerge (i := 1) rfl hlow hx448 hQ
     replace hA6 := hA6.mono Rp113.mono hx448.1
     replace hA7 := hA7.mono hx448.1
     replace hA8 := hA8.mono hx448.1
     replace hcb1 := hcb1.mono hx448.1
     replace hA10 := hA10.mono Rp113.mono hx448.1
     replace hcb2 := hcb2.mono hx448.1
     replace hcb3 := hcb3.mono hx448.1
     replace hcb4 := hcb4.mono hx448.1
     replace hP := hPm _ _ _ _ _ hP hx448.1
     replace hA255 := hA255.mono hx448.1
     replace hA256 := hA256.mono hx448.1
     replace hA257 := hA257.mono Rp40.mono hx448.1
     replace hB246 := hB246.mono hx448.1
     replace hj241 := Frz.le_trans hj241 hx448.1
     replace hle399 := Frz.le_trans hle399 hx448.1
     replace hj436 := Frz.le_trans hj436 hx448.1
     replace hS : St w0 (blk b11 102 #[.pointer pv1, sv ad2 p0.jobs cap3, sv ad4 p0.at_ cap5, iv p0.done] :: fz w0 ν439 :: (RC s397 true g398 ++ G_)) w := hS
     refine SK.wi (allocK (t := 102) (fun b449 => [(2, pb cb2), (3, pb cb3), (4, pb cb4), (5, pb b11), (8, pb b449), (15, iv (ln d242.takes)), (16, iv x396), (21, .agg #[.pointer pv440, sv ad441 y438.jobs cap442, sv ad443 y438.at_ cap444, iv y438.done])]) #[.pointer none, .slice none 0 0, .slice none 0 0, iv 0] hF hS (by kernel_rfl) ⟨by kernel_rfl⟩ (by kernel_rfl) (fun _ => ⟨by kernel_rfl⟩) fun b449 w a hF hS => ?_)
     refine SK.wi (storeK (t := 102) [(2, pb cb2), (3, pb cb3), (4, pb cb4), (5, pb b11), (8, pb b449), (15, iv (ln d242.takes)), (16, iv x396)] 0 0 (.agg #[.pointer pv440, sv ad441 y438.jobs cap442, sv ad443 y438.at_ cap444, iv y438.done]) #[.pointer pv440, sv ad441 y438.jobs cap442, sv ad443 y438.at_ cap444, iv y438.done] hF hS rfl (by kernel_rfl) ⟨by kernel_rfl⟩ (by kernel_rfl) (by kernel_rfl) (by kernel_rfl) (by kernel_rfl) ⟨by kernel_rfl⟩ fun w a hF hS => ?_)
     refine wfn rfl ?_
     refine esr ?_
     replace h := bindS h
     obtain ⟨y450, hy450, h⟩ := h
     refine rx 7 [.run [] (Instr.loadAt 102 (pb b449)) (.agg #[.pointer pv440, sv ad441 y438.jobs cap442, sv ad443 y438.at_ cap444, iv y438.done]), .call [] 86 #[.agg #[.pointer pv440, sv ad441 y438.jobs cap442, sv ad443 y438.at_ cap444, iv y438.done]] (.tuple #[iv y450.1, .bool y450.2])] 7 [(2, pb cb2), (3, pb cb3), (4, pb cb4), (5, pb b11), (8, pb b449), (9, iv y450.1), (10, .bool y450.2), (15, iv (ln d242.takes)), (16, iv x396)] hF (ocons (obN (us := [.pointer pv440, sv ad441 y438.jobs cap442, sv ad443 y438.at_ cap444, iv y438.done]) (by kernel_rfl) (fun _ hd => ((hS.later hd).blk (i := 0) rfl).cells rfl)) (ocons (show Ob.ok _ Ext _ _ from fun hk w2 hd => plan_line_first_ok F y438 _ ((fun _ => hy450) hk) _ w2 (memOf_at w2) (hA445.mono Rp113.mono (FrzAt.le_mem ((hS.later hd).frz (i := 2) rfl hlow))) (hA446.mono (FrzAt.le_mem ((hS.later hd).frz (i := 2) rfl hlow))) (hA447.mono (FrzAt.le_mem ((hS.later hd).frz (i := 2) rfl hlow)))) onil)) fun a w hF hx => ?_
     replace hS := hS.later hx
     refine wfn rfl ?_
     refine wpIn_block ?_
     refine esr ?_
     refine rn 2 2 [(2, pb cb2), (3, pb cb3), (4, pb cb4), (5, pb b11), (8, pb b449), (9, iv y450.1), (15, iv (ln d242.takes)), (16, iv x396), (27, .bool y450.2)] hF fun a hF => ?_
     refine wfn rfl ?_
     refine econd hF rfl (fun hc => ?_) (fun hc => ?_)
     ·replace h := bif_t h hc
      refine esr ?_
      refine rno 3 [.run [] (Instr.loadAt 144 (pb cb2)) (.func (.yield l_) #[] #[]), .run [] (Instr.loadAt 102 (pb b449)) (.agg #[.pointer pv440, sv ad441 y438.jobs cap442, sv ad443 y438.at_ cap444, iv y438.done])] 3 [(2, pb cb2), (3, pb cb3), (4, pb cb4), (5, pb b11), (15, iv (ln d242.takes)), (16, iv x396), (29, .func (.yield l_) #[] #[]), (30, .agg #[.pointer pv440, sv ad441 y438.jobs cap442, sv ad443 y438.at_ cap444, iv y438.done]), (31, iv y450.1)] hF (ocons (ob1 (by kernel_rfl) (fun _ hd => (hcb2.blk ((hS.at_ hd).frz (i := 2) rfl hlow)).cell1 (j := 0) rfl)) (ocons (obN (us := [.pointer pv440, sv ad441 y438.jobs cap442, sv ad443 y438.at_ cap444, iv y438.done]) (by kernel_rfl) (fun _ hd => ((hS.at_ hd).blk (i := 0) rfl).cells rfl)) onil)) fun a hF => ?_
      replace h := bindS h
      obtain ⟨q451, hq451, h⟩ := h
      refine yield_ (l := l_) (args := #[.agg #[.pointer pv440, sv ad441 y438.jobs cap442, sv ad443 y438.at_ cap444, iv y438.done], iv y450.1]) 4 (fun bq_ => [(2, pb cb2), (3, pb cb3), (4, pb cb4), (5, pb b11), (15, iv (ln d242.takes)), (16, iv x396), (32, .bool bq_)]) hF (by kernel_rfl) ⟨by kernel_rfl⟩ (hy s397 (y438, y450.1) q451 hq451 ν439 g398 (G_ ++ [blk b449 102 #[.pointer pv440, sv ad441 y438.jobs cap442, sv ad443 y438.at_ cap444, iv y438.done], blk b11 102 #[.pointer pv1, sv ad2 p0.jobs cap3, sv ad4 p0.at_ cap5, iv p0.done]]) w pv440 ad441 cap442 ad443 cap444 hext hlow hP hA445 hA446 hA447 (St.rot [blk b449 102 #[.pointer pv440, sv ad441 y438.jobs cap442, sv ad443 y438.at_ cap444, iv y438.done], blk b11 102 #[.pointer pv1, sv ad2 p0.jobs cap3, sv ad4 p0.at_ cap5, iv p0.done]] hS)) (fun _ => ⟨by kernel_rfl⟩) rfl ?_
      rintro bq_ w a ⟨hc_, ν452, g453, hx454, hlow, hP, hS⟩ hF
      subst hc_
      replace hS := St.unrot [blk b449 102 #[.pointer pv440, sv ad441 y438.jobs cap442, sv ad443 y438.at_ cap444, iv y438.done], blk b11 102 #[.pointer pv1, sv ad2 p0.jobs cap3, sv ad4 p0.at_ cap5, iv p0.done]] hS
      replace hext := Frz.ext_trans hext hx454
      replace hA6 := hA6.mono Rp113.mono hx454.1
      replace hA7 := hA7.mono hx454.1
      replace hA8 := hA8.mono hx454.1
      replace hcb1 := hcb1.mono hx454.1
      replace hA10 := hA10.mono Rp113.mono hx454.1
      replace hcb2 := hcb2.mono hx454.1
      replace hcb3 := hcb3.mono hx454.1
      replace hcb4 := hcb4.mono hx454.1
      replace hA255 := hA255.mono hx454.1
      replace hA256 := hA256.mono hx454.1
      replace hA257 := hA257.mono Rp40.mono hx454.1
      replace hB246 := hB246.mono hx454.1
      replace hA445 := hA445.mono Rp113.mono hx454.1
      replace hA446 := hA446.mono hx454.1
      replace hA447 := hA447.mono hx454.1
      replace hj241 := Frz.le_trans hj241 hx454.1
      replace hle399 := Frz.le_trans hle399 hx454.1
      replace hj436 := Frz.le_trans hj436 hx454.1
      replace hS : St w0 (blk b449 102 #[.pointer pv440, sv ad441 y438.jobs cap442, sv ad443 y438.at_ cap444, iv y438.done] :: blk b11 102 #[.pointer pv1, sv ad2 p0.jobs cap3, sv ad4 p0.at_ cap5, iv p0.done] :: fz w0 ν452 :: (RC q451.1 (q451.2) g453 ++ G_)) w := hS
      rcases Bool.eq_false_or_eq_true (q451.2) with hb455 | hb455
      ·replace h := bif_t h hb455
       rw [hb455] at hS hP
       rw [hb455] at hF
       replace hS : St w0 (blk b449 102 #[.pointer pv440, sv ad441 y438.jobs cap442, sv ad443 y438.at_ cap444, iv y438.done] :: blk b11 102 #[.pointer pv1, sv ad2 p0.jobs cap3, sv ad4 p0.at_ cap5, iv p0.done] :: fz w0 ν452 :: (RC q451.1 true g453 ++ G_)) w := hS
       refine rn 1 5 [(2, pb cb2), (3, pb cb3), (4, pb cb4), (5, pb b11), (15, iv (ln d242.takes)), (16, iv x396), (33, .bool false)] hF fun a hF => ?_
       refine wfn rfl ?_
       refine wpIn_cond_false (hF.get rfl) ?_
       refine wpIn_skip (norm_block <| norm_block <| norm_then <| ?_)
       exact ⟨q451.1, ν452, g453, hF.sub (by kernel_rfl), St.pickT (A := [blk b449 102 #[.pointer pv440, sv ad441 y438.jobs cap442, sv ad443 y438.at_ cap444, iv y438.done], blk b11 102 #[.pointer pv1, sv ad2 p0.jobs cap3, sv ad4 p0.at_ cap5, iv p0.done], fz w0 ν452]) (T := (RC q451.1 true g453 ++ G_)) [1, 2] (by decide) hS, hP, hj436, hext, hlow, h⟩
      ·replace h := bif_f h hb455
       rw [hb455] at hS hP
       rw [hb455] at hF
       replace hS : St w0 (blk b449 102 #[.pointer pv440, sv ad441 y438.jobs cap442, sv ad443 y438.at_ cap444, iv y438.done] :: blk b11 102 #[.pointer pv1, sv ad2 p0.jobs cap3, sv ad4 p0.at_ cap5, iv p0.done] :: fz w0 ν452 :: (RC q451.1 false g453 ++ G_)) w := hS
       refine rn 1 5 [(2, pb cb2), (3, pb cb3), (4, pb cb4), (5, pb b11), (15, iv (ln d242.takes)), (16, iv x396), (33, .bool true)] hF fun a hF => ?_
       refine wfn rfl ?_
       refine wpIn_cond_true (hF.get rfl) ?_
       refine esr ?_
       refine rn 1 1 [(6, .bool false)] hF fun a hF => ?_
       refine wfn rfl ?_
       refine wpIn_ret (ret_block <| ret_block <| ret_then <| ret_then <| ret_block <| ret_then <| fn_ret [.tmp 6] [.bool false] hF rfl ⟨rfl, trivial⟩ ?_)
       have hr_ := Option.some.inj h
       subst hr_
       exact ⟨ν452, g453, hext, hlow, hP, rfl, hS.drop1.drop1⟩
     ·replace h := bif_f h hc
      refine esr ?_
      refine rno 6 [.run [] (Instr.loadAt 40 (.pointer (some ⟨b449, 1, none⟩))) (sv ad441 y438.jobs cap442), .run [] (Instr.loadAt 3 (pb cb3)) (iv c2_)] 6 [(2, pb cb2), (3, pb cb3), (4, pb cb4), (5, pb b11), (8, pb b449), (15, iv (ln d242.takes)), (16, iv x396), (34, .bool ((ln y438.jobs) == c2_))] hF (ocons (ob1 (by kernel_rfl) (fun _ hd => (hS.at_ hd).cell (i := 0) (j := 1) rfl rfl)) (ocons (ob1 (by kernel_rfl) (fun _ hd => (hcb3.blk ((hS.at_ hd).frz (i := 2) rfl hlow)).cell1 (j := 0) rfl)) onil)) fun a hF => ?_
      refine wfn rfl ?_
      refine econd hF rfl (fun hc => ?_) (fun hc => ?_)
      ·replace h := bif_t h hc
       refine esr ?_
       refine rno 2 [.run [] (Instr.loadAt 144 (pb cb2)) (.func (.yield l_) #[] #[]), .run [] (Instr.loadAt 102 (pb b449)) (.agg #[.pointer pv440, sv ad441 y438.jobs cap442, sv ad443 y438.at_ cap444, iv y438.done])] 2 [(2, pb cb2), (3, pb cb3), (4, pb cb4), (5, pb b11), (15, iv (ln d242.takes)), (16, iv x396), (40, .func (.yield l_) #[] #[]), (41, .agg #[.pointer pv440, sv ad441 y438.jobs cap442, sv ad443 y438.at_ cap444, iv y438.done])] hF (ocons (ob1 (by kernel_rfl) (fun _ hd => (hcb2.blk ((hS.at_ hd).frz (i := 2) rfl hlow)).cell1 (j := 0) rfl)) (ocons (obN (us := [.pointer pv440, sv ad441 y438.jobs cap442, sv ad443 y438.at_ cap444, iv y438.done]) (by kernel_rfl) (fun _ hd => ((hS.at_ hd).blk (i := 0) rfl).cells rfl)) onil)) fun a hF => ?_
       replace h := bindS h
       obtain ⟨q456, hq456, h⟩ := h
       refine yield_ (l := l_) (args := #[.agg #[.pointer pv440, sv ad441 y438.jobs cap442, sv ad443 y438.at_ cap444, iv y438.done], iv (-1)]) 3 (fun bq_ => [(2, pb cb2), (3, pb cb3), (4, pb cb4), (5, pb b11), (15, iv (ln d242.takes)), (16, iv x396), (42, .bool bq_)]) hF (by kernel_rfl) ⟨by kernel_rfl⟩ (hy s397 (y438, -1) q456 hq456 ν439 g398 (G_ ++ [blk b449 102 #[.pointer pv440, sv ad441 y438.jobs cap442, sv ad443 y438.at_ cap444, iv y438.done], blk b11 102 #[.pointer pv1, sv ad2 p0.jobs cap3, sv ad4 p0.at_ cap5, iv p0.done]]) w pv440 ad441 cap442 ad443 cap444 hext hlow hP hA445 hA446 hA447 (St.rot [blk b449 102 #[.pointer pv440, sv ad441 y438.jobs cap442, sv ad443 y438.at_ cap444, iv y438.done], blk b11 102 #[.pointer pv1, sv ad2 p0.jobs cap3, sv ad4 p0.at_ cap5, iv p0.done]] hS)) (fun _ => ⟨by kernel_rfl⟩) rfl ?_
       rintro bq_ w a ⟨hc_, ν457, g458, hx459, hlow, hP, hS⟩ hF
       subst hc_
       replace hS := St.unrot [blk b449 102 #[.pointer pv440, sv ad441 y438.jobs cap442, sv ad443 y438.at_ cap444, iv y438.done], blk b11 102 #[.pointer pv1, sv ad2 p0.jobs cap3, sv ad4 p0.at_ cap5, iv p0.done]] hS
       replace hext := Frz.ext_trans hext hx459
       replace hA6 := hA6.mono Rp113.mono hx459.1
       replace hA7 := hA7.mono hx459.1
       replace hA8 := hA8.mono hx459.1
       replace hcb1 := hcb1.mono hx459.1
       replace hA10 := hA10.mono Rp113.mono hx459.1
       replace hcb2 := hcb2.mono hx459.1
       replace hcb3 := hcb3.mono hx459.1
       replace hcb4 := hcb4.mono hx459.1
       replace hA255 := hA255.mono hx459.1
       replace hA256 := hA256.mono hx459.1
       replace hA257 := hA257.mono Rp40.mono hx459.1
       replace hB246 := hB246.mono hx459.1
       replace hA445 := hA445.mono Rp113.mono hx459.1
       replace hA446 := hA446.mono hx459.1
       replace hA447 := hA447.mono hx459.1
       replace hj241 := Frz.le_trans hj241 hx459.1
       replace hle399 := Frz.le_trans hle399 hx459.1
       replace hj436 := Frz.le_trans hj436 hx459.1
       replace hS : St w0 (blk b449 102 #[.pointer pv440, sv ad441 y438.jobs cap442, sv ad443 y438.at_ cap444, iv y438.done] :: blk b11 102 #[.pointer pv1, sv ad2 p0.jobs cap3, sv ad4 p0.at_ cap5, iv p0.done] :: fz w0 ν457 :: (RC q456.1 (q456.2) g458 ++ G_)) w := hS
       rcases Bool.eq_false_or_eq_true (q456.2) with hb460 | hb460
       ·replace h := bif_t h hb460
        rw [hb460] at hS hP
        rw [hb460] at hF
        replace hS : St w0 (blk b449 102 #[.pointer pv440, sv ad441 y438.jobs cap442, sv ad443 y438.at_ cap444, iv y438.done] :: blk b11 102 #[.pointer pv1, sv ad2 p0.jobs cap3, sv ad4 p0.at_ cap5, iv p0.done] :: fz w0 ν457 :: (RC q456.1 true g458 ++ G_)) w := hS
        refine rn 1 4 [(2, pb cb2), (3, pb cb3), (4, pb cb4), (5, pb b11), (15, iv (ln d242.takes)), (16, iv x396), (43, .bool false)] hF fun a hF => ?_
        refine wfn rfl ?_
        refine wpIn_cond_false (hF.get rfl) ?_
        refine wpIn_skip (norm_block <| norm_block <| norm_then <| ?_)
        exact ⟨q456.1, ν457, g458, hF.sub (by kernel_rfl), St.pickT (A := [blk b449 102 #[.pointer pv440, sv ad441 y438.jobs cap442, sv ad443 y438.at_ cap444, iv y438.done], blk b11 102 #[.pointer pv1, sv ad2 p0.jobs cap3, sv ad4 p0.at_ cap5, iv p0.done], fz w0 ν457]) (T := (RC q456.1 true g458 ++ G_)) [1, 2] (by decide) hS, hP, hj436, hext, hlow, h⟩
       ·replace h := bif_f h hb460
        rw [hb460] at hS hP
        rw [hb460] at hF
        replace hS : St w0 (blk b449 102 #[.pointer pv440, sv ad441 y438.jobs cap442, sv ad443 y438.at_ cap444, iv y438.done] :: blk b11 102 #[.pointer pv1, sv ad2 p0.jobs cap3, sv ad4 p0.at_ cap5, iv p0.done] :: fz w0 ν457 :: (RC q456.1 false g458 ++ G_)) w := hS
        refine rn 1 4 [(2, pb cb2), (3, pb cb3), (4, pb cb4), (5, pb b11), (15, iv (ln d242.takes)), (16, iv x396), (43, .bool true)] hF fun a hF => ?_
        refine wfn rfl ?_
        refine wpIn_cond_true (hF.get rfl) ?_
        refine esr ?_
        refine rn 1 1 [(6, .bool false)] hF fun a hF => ?_
        refine wfn rfl ?_
        refine wpIn_ret (ret_block <| ret_block <| ret_then <| ret_then <| ret_block <| ret_then <| fn_ret [.tmp 6] [.bool false] hF rfl ⟨rfl, trivial⟩ ?_)
        have hr_ := Option.some.inj h
        subst hr_
        exact ⟨ν457, g458, hext, hlow, hP, rfl, hS.drop1.drop1⟩
      ·replace h := bif_f h hc
       refine esr ?_
       refine rno 2 [.run [] (Instr.loadAt 141 (pb cb4)) (.func (.func 88) #[] #[pb cb1, pb cb2, pb cb3, pb cb4]), .run [] (Instr.loadAt 102 (pb b449)) (.agg #[.pointer pv440, sv ad441 y438.jobs cap442, sv ad443 y438.at_ cap444, iv y438.done])] 2 [(2, pb cb2), (3, pb cb3), (4, pb cb4), (5, pb b11), (15, iv (ln d242.takes)), (16, iv x396), (45, .func (.func 88) #[] #[pb cb1, pb cb2, pb cb3, pb cb4]), (46, .agg #[.pointer pv440, sv ad441 y438.jobs cap442, sv ad443 y438.at_ cap444, iv y438.done])] hF (ocons (ob1 (by kernel_rfl) (fun _ hd => (hcb4.blk ((hS.at_ hd).frz (i := 2) rfl hlow)).cell1 (j := 0) rfl)) (ocons (obN (us := [.pointer pv440, sv ad441 y438.jobs cap442, sv ad443 y438.at_ cap444, iv y438.done]) (by kernel_rfl) (fun _ hd => ((hS.at_ hd).blk (i := 0) rfl).cells rfl)) onil)) fun a hF => ?_
       replace h := bindS h
       obtain ⟨y461, hy461, h⟩ := h
       refine SK.wi (callK (f := 88) (args := #[.agg #[.pointer pv440, sv ad441 y438.jobs cap442, sv ad443 y438.at_ cap444, iv y438.done], pb cb1, pb cb2, pb cb3, pb cb4]) (R := fun v w2 => ∃ (ν_ : Frz) (g2_ : γ), ν439.ext w0.heap.size ν_ ∧ FrzIn w0 ν_ ∧ PC y461.1 y461.2.1 g2_ ν_ ∧ v = .bool y461.2.2 ∧ St w0 (fz w0 ν_ :: (RC y461.1 y461.2.1 g2_ ++ (G_ ++ [blk b449 102 #[.pointer pv440, sv ad441 y438.jobs cap442, sv ad443 y438.at_ cap444, iv y438.done], blk b11 102 #[.pointer pv1, sv ad2 p0.jobs cap3, sv ad4 p0.at_ cap5, iv p0.done]]))) w2) (fun v465 => [(2, pb cb2), (3, pb cb3), (4, pb cb4), (5, pb b11), (15, iv (ln d242.takes)), (16, iv x396), (47, v465)]) hF (by kernel_rfl) ⟨by kernel_rfl⟩ (Calls.mono (ih y438 (some d242) c2_ body s397 _ (by rw [← hself]; exact hy461) l_ ν439 w0 w RC PC hPm (fun s x q hb ν g G w a0_ a1_ a2_ a3_ a4_ hx => hy s x q hb ν g G w a0_ a1_ a2_ a3_ a4_ (Frz.ext_trans hext hx)) g398 (G_ ++ [blk b449 102 #[.pointer pv440, sv ad441 y438.jobs cap442, sv ad443 y438.at_ cap444, iv y438.done], blk b11 102 #[.pointer pv1, sv ad2 p0.jobs cap3, sv ad4 p0.at_ cap5, iv p0.done]]) hlow hP (St.rot [blk b449 102 #[.pointer pv440, sv ad441 y438.jobs cap442, sv ad443 y438.at_ cap444, iv y438.done], blk b11 102 #[.pointer pv1, sv ad2 p0.jobs cap3, sv ad4 p0.at_ cap5, iv p0.done]] hS) hA445 hA446 hA447 hcb1 (PtM.mk (cs := [sv ad248 d242.jobs cap249, sv ad250 d242.takes cap251, sv ad252 d242.moves cap253]) hB246 ⟨ad248, cap249, ad250, cap251, ad252, cap253, css254, rfl, hA255, hA256, hA257⟩) hcb2 hcb3 hcb4) (by rintro e w2 ⟨n1, n2, n3, n4, n5, rfl, n6⟩; exact ⟨_, rfl, n1, n2, n3, n4, n5, rfl, n6⟩)) (fun _ => ⟨by kernel_rfl⟩) ?_)
       rintro v465 w a ⟨ν462, g463, hx464, hlow, hP, rfl, hS⟩ hF
       replace hS := St.unrot [blk b449 102 #[.pointer pv440, sv ad441 y438.jobs cap442, sv ad443 y438.at_ cap444, iv y438.done], blk b11 102 #[.pointer pv1, sv ad2 p0.jobs cap3, sv ad4 p0.at_ cap5, iv p0.done]] hS
       replace hext := Frz.ext_trans hext hx464
       replace hA6 := hA6.mono Rp113.mono hx464.1
       replace hA7 := hA7.mono hx464.1
       replace hA8 := hA8.mono hx464.1
       replace hcb1 := hcb1.mono hx464.1
       replace hA10 := hA10.mono Rp113.mono hx464.1
       replace hcb2 := hcb2.mono hx464.1
       replace hcb3 := hcb3.mono hx464.1
       replace hcb4 := hcb4.mono hx464.1
       replace hA255 := hA255.mono hx464.1
       replace hA256 := hA256.mono hx464.1
       replace hA257 := hA257.mono Rp40.mono hx464.1
       replace hB246 := hB246.mono hx464.1
       replace hA445 := hA445.mono Rp113.mono hx464.1
       replace hA446 := hA446.mono hx464.1
       replace hA447 := hA447.mono hx464.1
       replace hj241 := Frz.le_trans hj241 hx464.1
       replace hle399 := Frz.le_trans hle399 hx464.1
       replace hj436 := Frz.le_trans hj436 hx464.1
       replace hS : St w0 (blk b449 102 #[.pointer pv440, sv ad441 y438.jobs cap442, sv ad443 y438.at_ cap444, iv y438.done] :: blk b11 102 #[.pointer pv1, sv ad2 p0.jobs cap3, sv ad4 p0.at_ cap5, iv p0.done] :: fz w0 ν462 :: (RC y461.1 (y461.2.1) g463 ++ G_)) w := hS
       rcases Bool.eq_false_or_eq_true (y461.2.1) with hb466 | hb466
       ·replace h := bif_t h hb466
        rw [hb466] at hS hP
        replace hS : St w0 (blk b449 102 #[.pointer pv440, sv ad441 y438.jobs cap442, sv ad443 y438.at_ cap444, iv y438.done] :: blk b11 102 #[.pointer pv1, sv ad2 p0.jobs cap3, sv ad4 p0.at_ cap5, iv p0.done] :: fz w0 ν462 :: (RC y461.1 true g463 ++ G_)) w := hS
        refine rn 2 5 [(2, pb cb2), (3, pb cb3), (4, pb cb4), (5, pb b11), (15, iv (ln d242.takes)), (16, iv x396), (44, .bool (!y461.2.2))] hF fun a hF => ?_
        refine wfn rfl ?_
        refine econd hF rfl (fun hc => ?_) (fun hc => ?_)
        ·replace h := bif_t h hc
         refine esr ?_
         refine rn 1 1 [(6, .bool false)] hF fun a hF => ?_
         refine wfn rfl ?_
         refine wpIn_ret (ret_block <| ret_block <| ret_then <| ret_then <| ret_block <| ret_then <| fn_ret [.tmp 6] [.bool false] hF rfl ⟨rfl, trivial⟩ ?_)
         have hr_ := Option.some.inj h
         subst hr_
         exact ⟨ν462, g463, hext, hlow, hP, rfl, hS.drop1.drop1⟩
        ·replace h := bif_f h hc
         refine wpIn_skip (norm_block <| norm_block <| norm_then <| ?_)
         exact ⟨y461.1, ν462, g463, hF.sub (by kernel_rfl), St.pickT (A := [blk b449 102 #[.pointer pv440, sv ad441 y438.jobs cap442, sv ad443 y438.at_ cap444, iv y438.done], blk b11 102 #[.pointer pv1, sv ad2 p0.jobs cap3, sv ad4 p0.at_ cap5, iv p0.done], fz w0 ν462]) (T := (RC y461.1 true g463 ++ G_)) [1, 2] (by decide) hS, hP, hj436, hext, hlow, h⟩
       ·replace h := bif_f h hb466
        rw [hb466] at hS hP
        replace hS : St w0 (blk b449 102 #[.pointer pv440, sv ad441 y438.jobs cap442, sv ad443 y438.at_ cap444, iv y438.done] :: blk b11 102 #[.pointer pv1, sv ad2 p0.jobs cap3, sv ad4 p0.at_ cap5, iv p0.done] :: fz w0 ν462 :: (RC y461.1 false g463 ++ G_)) w := hS
        refine rn 2 5 [(2, pb cb2), (3, pb cb3), (4, pb cb4), (5, pb b11), (15, iv (ln d242.takes)), (16, iv x396), (44, .bool (!y461.2.2))] hF fun a hF => ?_
        refine wfn rfl ?_
        refine econd hF rfl (fun hc => ?_) (fun hc => ?_)
        ·replace h := bif_t h hc
         refine esr ?_
         refine rn 1 1 [(6, .bool false)] hF fun a hF => ?_
         refine wfn rfl ?_
         refine wpIn_ret (ret_block <| ret_block <| ret_then <| ret_then <| ret_block <| ret_then <| fn_ret [.tmp 6] [.bool false] hF rfl ⟨rfl, trivial⟩ ?_)
         have hr_ := Option.some.inj h
         subst hr_
         exact ⟨ν462, g463, hext, hlow, hP, rfl, hS.drop1.drop1⟩
        ·replace h := bif_f h hc
         refine wpIn_skip (norm_block <| norm_block <| norm_then <| ?_)
         cases h
    clear hj436
    rintro a w ⟨s432, ν431, g433, hF, hS, hP, hle434, hext, hlow, h⟩
    replace hA6 := hA6.mono Rp113.mono hle434
    replace hA7 := hA7.mono hle434
    replace hA8 := hA8.mono hle434
    replace hcb1 := hcb1.mono hle434
    replace hA10 := hA10.mono Rp113.mono hle434
    replace hcb2 := hcb2.mono hle434
    replace hcb3 := hcb3.mono hle434
    replace hcb4 := hcb4.mono hle434
    replace hA255 := hA255.mono hle434
    replace hA256 := hA256.mono hle434
    replace hA257 := hA257.mono Rp40.mono hle434
    replace hB246 := hB246.mono hle434
    replace hj241 := Frz.le_trans hj241 hle434
    replace hle399 := Frz.le_trans hle399 hle434
    rw [pplan_desk_cuts_1_1_K3] at h
    refine WI.region ?_
    replace h := bindS h
    obtain ⟨x435, hx435, h⟩ := h
    refine rno 2 [.run [] (binOp .add 3 (iv x396) (iv 1)) (iv x435)] 2 [(2, pb cb2), (3, pb cb3), (4, pb cb4), (5, pb b11), (15, iv (ln d242.takes)), (16, iv x435)] hF (ocons (obAddC (fun _ => hx435)) onil) fun a hF => ?_
    refine wfn rfl ?_
    rw [hk2] at h
    exact ⟨n_, Nat.lt_succ_self _, x435, s432, ν431, g433, hF.sub (by kernel_rfl), St.pickT (A := [blk b11 102 #[.pointer pv1, sv ad2 p0.jobs cap3, sv ad4 p0.at_ cap5, iv p0.done], fz w0 ν431]) (T := (RC s432 true g433 ++ G_)) [0, 1] (by decide) hS, hP, hle399, hext, hlow, h⟩
   ·replace h := bif_f h hc
    refine wpIn_exit (exit_then <| exit_then <| exit_hit <| norm_then ?_)
    try simp only [pb, ← hp245] at hF
    try simp only [pb, ← hp245] at hS
    exact ⟨s397, ν395, g398, hF.sub (by kernel_rfl), St.pickT (A := [blk b11 102 #[.pointer pv1, sv ad2 p0.jobs cap3, sv ad4 p0.at_ cap5, iv p0.done], fz w0 ν395]) (T := (RC s397 true g398 ++ G_)) [0, 1] (by decide) hS, hP, hj241, hext, hlow, h⟩
  clear hj241
  rintro a w ⟨s238, ν237, g239, hF, hS, hP, hle240, hext, hlow, h⟩
  replace hA6 := hA6.mono Rp113.mono hle240
  replace hA7 := hA7.mono hle240
  replace hA8 := hA8.mono hle240
  replace hcb1 := hcb1.mono hle240
  replace hA10 := hA10.mono Rp113.mono hle240
  replace hcb2 := hcb2.mono hle240
  replace hcb3 := hcb3.mono hle240
  replace hcb4 := hcb4.mono hle240
  rw [pplan_desk_cuts_1_1_K1] at h
  refine esr ?_
  refine rn 1 1 [(6, .bool true)] hF fun a hF => ?_
  refine wfn rfl ?_
  refine wpIn_ret (fn_ret [.tmp 6] [.bool true] hF rfl ⟨rfl, trivial⟩ ?_)
  have hr_ := Option.some.inj h
  subst hr_
  exact ⟨ν237, g239, hext, hlow, hP, rfl, hS.drop1⟩
end Go.Proofs.Ytejffembnkojjaa
