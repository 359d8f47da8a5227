/- Walks, written by program (wip/gen/dec.py). -/
import Derived.Test.YtejffembnkojjaaC12XD
import Derived.Test.YtejffembnkojjaaProg
import Derived.Test.YtejffembnkojjaaC12XW2
import Derived.Test.YtejffembnkojjaaC12XW4
import Derived.Test.YtejffembnkojjaaC12XW6
namespace Go.Proofs.Ytejffembnkojjaa
open Go Go.RowKit Go.Eng
set_option maxRecDepth 10000
set_option maxHeartbeats 4000000
set_option linter.unusedVariables false
set_option linter.unusedSimpArgs false
theorem pplan_desk_begun_1_1_ok {σ γ : Type} : ∀ (F : Nat) (p0 : plan_line) (c0_ : (Option plan_desk)) (c1_ : Int) (body : σ → plan_line → Option (σ × Bool)) (s_ : σ) (res : σ × Bool × Bool) (h : pplan_desk_begun_1_1 F p0 c0_ c1_ body s_ = some res) (l_ : Nat) (μ : Frz) (w0 w1 : World) (RC : σ → Bool → γ → List Res) (PC : σ → Bool → γ → Frz → Prop) (hPm : ∀ s b g μ ν, PC s b g μ → μ.le ν → PC s b g ν) (hy : ∀ (s : σ) (x : plan_line) (q : σ × Bool), body s x = some q → ∀ (ν : Frz) (g : γ) (G : List Res) (w : World) (pv_1 : Option Addr) (ad_2 : Option Addr) (cap_3 : Nat) (ad_4 : Option Addr) (cap_5 : Nat), μ.ext w0.heap.size ν → FrzIn w0 ν → PC s true g ν → PtM ν 113 Rp113 pv_1 x.desk → ArrM ν 1 fI ad_2 cap_3 x.jobs → ArrM ν 1 fI ad_4 cap_5 x.at_ → St w0 (fz w0 ν :: (RC s true g ++ G)) w → Eng.Yields Try.prog l_ #[.agg #[.pointer pv_1, sv ad_2 x.jobs cap_3, sv ad_4 x.at_ cap_5, iv x.done]] w (fun c w2 => c = q.2 ∧ ∃ ν2 g2, ν.ext w0.heap.size ν2 ∧ FrzIn w0 ν2 ∧ PC q.1 q.2 g2 ν2 ∧ St w0 (fz w0 ν2 :: (RC q.1 q.2 g2 ++ G)) w2)) (g_ : γ) (G_ : List Res) (hlow : FrzIn w0 μ) (hP : PC s_ true g_ μ) (hS : St w0 (fz w0 μ :: (RC s_ true g_ ++ G_)) w1) {cb1 : Nat} {cb2 : Nat} {cb3 : Nat} {cb4 : Nat} {pv1 : Option Addr} {ad2 : Option Addr} {cap3 : Nat} {ad4 : Option Addr} {cap5 : Nat} {pv9 : Option Addr} (hA6 : PtM μ 113 Rp113 pv1 p0.desk) (hA7 : ArrM μ 1 fI ad2 cap3 p0.jobs) (hA8 : ArrM μ 1 fI ad4 cap5 p0.at_) (hcb1 : BlkM μ cb1 100 #[.pointer pv9]) (hA10 : PtM μ 113 Rp113 pv9 c0_) (hcb2 : BlkM μ cb2 3 #[iv c1_]) (hcb3 : BlkM μ cb3 141 #[.func (.yield l_) #[] #[]]) (hcb4 : BlkM μ cb4 141 #[.func (.func 84) #[] #[pb cb1, pb cb2, pb cb3, pb cb4]]), Calls Try.prog 84 #[.agg #[.pointer pv1, sv ad2 p0.jobs cap3, sv ad4 p0.at_ cap5, iv p0.done], pb cb1, pb cb2, pb cb3, pb cb4] w1 (fun e w => ∃ (ν_ : Frz) (g2_ : γ), μ.ext w0.heap.size ν_ ∧ FrzIn w0 ν_ ∧ PC res.1 res.2.1 g2_ ν_ ∧ e = .returned (.bool res.2.2) ∧ St w0 (fz w0 ν_ :: (RC res.1 res.2.1 g2_ ++ G_)) w) := by
 intro F
 induction F with
 | zero =>
  intro p0 c0_ c1_ body s_ res h
  cases (show (none : Option (σ × Bool × Bool)) = some res from h)
 | succ F ih =>
  intro p0 c0_ c1_ body s_ res h l_ μ w0 w1 RC PC hPm hy g_ G_ hlow hP hS cb1 cb2 cb3 cb4 pv1 ad2 cap3 ad4 cap5 pv9 hA6 hA7 hA8 hcb1 hA10 hcb2 hcb3 hcb4
  replace h : pplan_desk_begun_1_1_R F (pplan_desk_begun_1_1 F) p0 c0_ c1_ body s_ = some res := h
  obtain ⟨self_, hself⟩ : ∃ s : plan_line → (Option plan_desk) → Int → (σ → plan_line → Option (σ × Bool)) → σ → Option (σ × Bool × Bool), s = pplan_desk_begun_1_1 F := ⟨_, rfl⟩
  rw [← hself, pplan_desk_begun_1_1_R] at h
  have hext := Frz.ext_refl w0.heap.size μ
  refine fn_enterW Try.func84 rfl 45 [(0, .agg #[.pointer pv1, sv ad2 p0.jobs cap3, sv ad4 p0.at_ cap5, iv p0.done]), (1, pb cb1), (2, pb cb2), (3, pb cb3), (4, pb cb4)] rfl rfl (by kernel_rfl) fun a w hw hF => ?_
  replace hS : St w0 (fz w0 μ :: (RC s_ true g_ ++ G_)) w := by rw [hw]; exact hS
  clear hw
  refine esr ?_
  refine SK.wi (boxK (t := 102) (fun b11 => [(1, pb cb1), (2, pb cb2), (3, pb cb3), (4, pb cb4), (5, pb b11)]) (.agg #[.pointer pv1, sv ad2 p0.jobs cap3, sv ad4 p0.at_ cap5, iv p0.done]) #[.pointer pv1, sv ad2 p0.jobs cap3, sv ad4 p0.at_ cap5, iv p0.done] hF hS (by kernel_rfl) ⟨by kernel_rfl⟩ (by kernel_rfl) (fun _ => ⟨by kernel_rfl⟩) fun b11 w a hF hS => ?_)
  refine rn 1 2 [(1, pb cb1), (2, pb cb2), (3, pb cb3), (4, pb cb4), (5, pb b11)] hF fun a hF => ?_
  refine wfn rfl ?_
  have hj217 := Frz.le_refl μ
  refine ecut (fun a w => ∃ (s214 : σ) (ν213 : Frz) (g215 : γ), Fr 45 [] [] a ∧ St w0 (blk b11 102 #[.pointer pv1, sv ad2 p0.jobs cap3, sv ad4 p0.at_ cap5, iv p0.done] :: fz w0 ν213 :: (RC s214 true g215 ++ G_)) w ∧ (PC s214 true g215 ν213) ∧ (μ.le ν213) ∧ (μ.ext w0.heap.size ν213) ∧ (FrzIn w0 ν213) ∧ pplan_desk_begun_1_1_K1 s214 = some res) ?_ ?_
  ·skip
   refine esr ?_
   replace h := bindS h
   obtain ⟨d218, hd218, h⟩ := h
   obtain ⟨b219, cs220, hp221, hB222, hR223⟩ := PtM.some hA10 hd218
   obtain ⟨ad224, cap225, ad226, cap227, ad228, cap229, css230, rfl, hA231, hA232, hA233⟩ := hR223
   try rw [hp221] at hF
   try rw [hp221] at hS
   try rw [hp221] at hB222
   try rw [hp221] at hcb1
   try rw [hp221] at hcb2
   try rw [hp221] at hcb3
   try rw [hp221] at hcb4
   refine rno 6 [.run [] (Instr.loadAt 100 (pb cb1)) (pb b219), .run [] (Instr.loadAt 40 (.pointer (some ⟨b219, 1, none⟩))) (sv ad226 d218.takes cap227)] 6 [(2, pb cb2), (3, pb cb3), (4, pb cb4), (5, pb b11), (15, iv (ln d218.takes)), (16, iv 0)] hF (ocons (ob1 (by kernel_rfl) (fun _ hd => (hcb1.blk ((hS.at_ hd).frz (i := 1) rfl hlow)).cell1 (j := 0) rfl)) (ocons (ob1 (by kernel_rfl) (fun _ hd => (hB222.blk ((hS.at_ hd).frz (i := 1) rfl hlow)).cell1 (j := 1) rfl)) onil)) fun a hF => ?_
   refine wfn rfl ?_
   refine wpIn_block ?_
   have hj360 := Frz.le_refl μ
   refine eloop (fun n_ a w => ∃ (x356 : Int) (s357 : σ) (ν355 : Frz) (g358 : γ), Fr 45 [] [(2, pb cb2), (3, pb cb3), (4, pb cb4), (5, pb b11), (15, iv (ln d218.takes)), (16, iv x356)] a ∧ St w0 (blk b11 102 #[.pointer pv1, sv ad2 p0.jobs cap3, sv ad4 p0.at_ cap5, iv p0.done] :: fz w0 ν355 :: (RC s357 true g358 ++ G_)) w ∧ (PC s357 true g358 ν355) ∧ (μ.le ν355) ∧ (μ.ext w0.heap.size ν355) ∧ (FrzIn w0 ν355) ∧ pplan_desk_begun_1_1_L2 F body self_ p0 c1_ d218 n_ x356 s357 = some res) F ⟨0, s_, μ, g_, hF.sub (by kernel_rfl), St.pickT (A := [blk b11 102 #[.pointer pv1, sv ad2 p0.jobs cap3, sv ad4 p0.at_ cap5, iv p0.done], fz w0 μ]) (T := (RC s_ true g_ ++ G_)) [0, 1] (by decide) hS, hP, hj360, hext, hlow, h⟩ ?_
   clear hj360
   rintro n_ a w ⟨x356, s357, ν355, g358, hF, hS, hP, hle359, hext, hlow, h⟩
   rcases n_ with _ | n_
   ·cases (show (none : Option (σ × Bool × Bool)) = some res from h)
   replace hA6 := hA6.mono Rp113.mono hle359
   replace hA7 := hA7.mono hle359
   replace hA8 := hA8.mono hle359
   replace hcb1 := hcb1.mono hle359
   replace hA10 := hA10.mono Rp113.mono hle359
   replace hcb2 := hcb2.mono hle359
   replace hcb3 := hcb3.mono hle359
   replace hcb4 := hcb4.mono hle359
   replace hA231 := hA231.mono hle359
   replace hA232 := hA232.mono hle359
   replace hA233 := hA233.mono Rp40.mono hle359
   replace hB222 := hB222.mono hle359
   replace hj217 := Frz.le_trans hj217 hle359
   obtain ⟨k2, hk2⟩ : ∃ k, k = pplan_desk_begun_1_1_L2 F body self_ p0 c1_ d218 n_ := ⟨_, rfl⟩
   replace h : pplan_desk_begun_1_1_B2 F body self_ p0 c1_ d218 k2 x356 s357 = some res := by rw [hk2]; exact h
   rw [pplan_desk_begun_1_1_B2] at h
   refine esr ?_
   refine rn 1 1 [(2, pb cb2), (3, pb cb3), (4, pb cb4), (5, pb b11), (15, iv (ln d218.takes)), (16, iv x356), (17, .bool (decide (x356 < (ln d218.takes))))] hF fun a hF => ?_
   refine wfn rfl ?_
   refine eseq ?_
   refine econd hF rfl (fun hc => ?_) (fun hc => ?_)
   ·replace h := bif_t h hc
    refine wpIn_skip (norm_then ?_)
    have hj392 := Frz.le_refl ν355
    refine ecut (fun a w => ∃ (s388 : σ) (ν387 : Frz) (g389 : γ), Fr 45 [] [(2, pb cb2), (3, pb cb3), (4, pb cb4), (5, pb b11), (15, iv (ln d218.takes)), (16, iv x356)] a ∧ St w0 (blk b11 102 #[.pointer pv1, sv ad2 p0.jobs cap3, sv ad4 p0.at_ cap5, iv p0.done] :: fz w0 ν387 :: (RC s388 true g389 ++ G_)) w ∧ (PC s388 true g389 ν387) ∧ (ν355.le ν387) ∧ (μ.ext w0.heap.size ν387) ∧ (FrzIn w0 ν387) ∧ pplan_desk_begun_1_1_K3 x356 k2 s388 = some res) ?_ ?_
    ·skip
     refine wpIn_block ?_
     refine esr ?_
     refine rn 2 2 [(2, pb cb2), (3, pb cb3), (4, pb cb4), (5, pb b11), (7, iv x356), (15, iv (ln d218.takes)), (16, iv x356)] hF fun a hF => ?_
     refine wfn rfl ?_
     refine esr ?_
     refine rno 2 [.run [] (Instr.loadAt 102 (pb b11)) (.agg #[.pointer pv1, sv ad2 p0.jobs cap3, sv ad4 p0.at_ cap5, iv p0.done])] 2 [(2, pb cb2), (3, pb cb3), (4, pb cb4), (5, pb b11), (15, iv (ln d218.takes)), (16, iv x356), (19, .agg #[.pointer pv1, sv ad2 p0.jobs cap3, sv ad4 p0.at_ cap5, iv p0.done]), (20, iv x356)] hF (ocons (obN (us := [.pointer pv1, sv ad2 p0.jobs cap3, sv ad4 p0.at_ cap5, iv p0.done]) (by kernel_rfl) (fun _ hd => ((hS.at_ hd).blk (i := 0) rfl).cells rfl)) onil) fun a hF => ?_
     replace h := bindS h
     obtain ⟨y394, hy394, h⟩ := h
     refine SK.wi (callK (f := 85) (args := #[.agg #[.pointer pv1, sv ad2 p0.jobs cap3, sv ad4 p0.at_ cap5, iv p0.done], iv x356]) (R := fun v w2 => ∃ ν395 pv396 ad397 cap398 ad399 cap400, ν355.ext w.heap.size ν395 ∧ v = .agg #[.pointer pv396, sv ad397 y394.jobs cap398, sv ad399 y394.at_ cap400, iv y394.done] ∧ PtM ν395 113 Rp113 pv396 y394.desk ∧ ArrM ν395 1 fI ad397 cap398 y394.jobs ∧ ArrM ν395 1 fI ad399 cap400 y394.at_ ∧ St w [frzR w.heap.size ν395] w2) (fun v393 => [(2, pb cb2), (3, pb cb3), (4, pb cb4), (5, pb b11), (15, iv (ln d218.takes)), (16, iv x356), (21, v393)]) hF (by kernel_rfl) ⟨by kernel_rfl⟩ (Calls.mono (plan_line_add_ok F p0 x356 _ hy394 ν355 w (hS.frz (i := 1) rfl hlow) hA6 hA7 hA8) (by rintro e w2 ⟨ν395, pv396, ad397, cap398, ad399, cap400, hx404, rfl, hA401, hA402, hA403, h⟩; exact ⟨_, rfl, ν395, pv396, ad397, cap398, ad399, cap400, hx404, rfl, hA401, hA402, hA403, h⟩)) (fun _ => ⟨by kernel_rfl⟩) ?_)
     rintro v393 w a ⟨ν395, pv396, ad397, cap398, ad399, cap400, hx404, rfl, hA401, hA402, hA403, hQ⟩ hF
     replace hext := Frz.ext_trans hext (Frz.ext_mono hx404 hS.ext.size)
     obtain ⟨hlow, hS⟩ := hS.frzMerge (i := 1) rfl hlow hx404 hQ
     replace hA6 := hA6.mono Rp113.mono hx404.1
     replace hA7 := hA7.mono hx404.1
     replace hA8 := hA8.mono hx404.1
     replace hcb1 := hcb1.mono hx404.1
     replace hA10 := hA10.mono Rp113.mono hx404.1
     replace hcb2 := hcb2.mono hx404.1
     replace hcb3 := hcb3.mono hx404.1
     replace hcb4 := hcb4.mono hx404.1
     replace hP := hPm _ _ _ _ _ hP hx404.1
     replace hA231 := hA231.mono hx404.1
     replace hA232 := hA232.mono hx404.1
     replace hA233 := hA233.mono Rp40.mono hx404.1
     replace hB222 := hB222.mono hx404.1
     replace hj217 := Frz.le_trans hj217 hx404.1
     replace hle359 := Frz.le_trans hle359 hx404.1
     replace hj392 := Frz.le_trans hj392 hx404.1
     replace hS : St w0 (blk b11 102 #[.pointer pv1, sv ad2 p0.jobs cap3, sv ad4 p0.at_ cap5, iv p0.done] :: fz w0 ν395 :: (RC s357 true g358 ++ G_)) w := hS
     refine SK.wi (allocK (t := 102) (fun b405 => [(2, pb cb2), (3, pb cb3), (4, pb cb4), (5, pb b11), (8, pb b405), (15, iv (ln d218.takes)), (16, iv x356), (21, .agg #[.pointer pv396, sv ad397 y394.jobs cap398, sv ad399 y394.at_ cap400, iv y394.done])]) #[.pointer none, .slice none 0 0, .slice none 0 0, iv 0] hF hS (by kernel_rfl) ⟨by kernel_rfl⟩ (by kernel_rfl) (fun _ => ⟨by kernel_rfl⟩) fun b405 w a hF hS => ?_)
     refine SK.wi (storeK (t := 102) [(2, pb cb2), (3, pb cb3), (4, pb cb4), (5, pb b11), (8, pb b405), (15, iv (ln d218.takes)), (16, iv x356)] 0 0 (.agg #[.pointer pv396, sv ad397 y394.jobs cap398, sv ad399 y394.at_ cap400, iv y394.done]) #[.pointer pv396, sv ad397 y394.jobs cap398, sv ad399 y394.at_ cap400, iv y394.done] hF hS rfl (by kernel_rfl) ⟨by kernel_rfl⟩ (by kernel_rfl) (by kernel_rfl) (by kernel_rfl) (by kernel_rfl) ⟨by kernel_rfl⟩ fun w a hF hS => ?_)
     refine wfn rfl ?_
     refine eseq ?_
     refine esr ?_
     refine rno 5 [.run [] (Instr.loadAt 40 (.pointer (some ⟨b405, 1, none⟩))) (sv ad397 y394.jobs cap398), .run [] (Instr.loadAt 3 (pb cb2)) (iv c1_)] 5 [(2, pb cb2), (3, pb cb3), (4, pb cb4), (5, pb b11), (8, pb b405), (15, iv (ln d218.takes)), (16, iv x356), (26, .bool ((ln y394.jobs) == c1_))] hF (ocons (ob1 (by kernel_rfl) (fun _ hd => (hS.at_ hd).cell (i := 0) (j := 1) rfl rfl)) (ocons (ob1 (by kernel_rfl) (fun _ hd => (hcb2.blk ((hS.at_ hd).frz (i := 2) rfl hlow)).cell1 (j := 0) rfl)) onil)) fun a hF => ?_
     refine wfn rfl ?_
     refine econd hF rfl (fun hc => ?_) (fun hc => ?_)
     ·replace h := bif_t h hc
      refine eseq ?_
      refine esr ?_
      refine rno 2 [.run [] (Instr.loadAt 141 (pb cb3)) (.func (.yield l_) #[] #[]), .run [] (Instr.loadAt 102 (pb b405)) (.agg #[.pointer pv396, sv ad397 y394.jobs cap398, sv ad399 y394.at_ cap400, iv y394.done])] 2 [(2, pb cb2), (3, pb cb3), (4, pb cb4), (5, pb b11), (15, iv (ln d218.takes)), (16, iv x356), (27, .func (.yield l_) #[] #[]), (28, .agg #[.pointer pv396, sv ad397 y394.jobs cap398, sv ad399 y394.at_ cap400, iv y394.done])] hF (ocons (ob1 (by kernel_rfl) (fun _ hd => (hcb3.blk ((hS.at_ hd).frz (i := 2) rfl hlow)).cell1 (j := 0) rfl)) (ocons (obN (us := [.pointer pv396, sv ad397 y394.jobs cap398, sv ad399 y394.at_ cap400, iv y394.done]) (by kernel_rfl) (fun _ hd => ((hS.at_ hd).blk (i := 0) rfl).cells rfl)) onil)) fun a hF => ?_
      replace h := bindS h
      obtain ⟨q406, hq406, h⟩ := h
      refine yield_ (l := l_) (args := #[.agg #[.pointer pv396, sv ad397 y394.jobs cap398, sv ad399 y394.at_ cap400, iv y394.done]]) 3 (fun bq_ => [(2, pb cb2), (3, pb cb3), (4, pb cb4), (5, pb b11), (15, iv (ln d218.takes)), (16, iv x356), (29, .bool bq_)]) hF (by kernel_rfl) ⟨by kernel_rfl⟩ (hy s357 y394 q406 hq406 ν395 g358 (G_ ++ [blk b405 102 #[.pointer pv396, sv ad397 y394.jobs cap398, sv ad399 y394.at_ cap400, iv y394.done], blk b11 102 #[.pointer pv1, sv ad2 p0.jobs cap3, sv ad4 p0.at_ cap5, iv p0.done]]) w pv396 ad397 cap398 ad399 cap400 hext hlow hP hA401 hA402 hA403 (St.rot [blk b405 102 #[.pointer pv396, sv ad397 y394.jobs cap398, sv ad399 y394.at_ cap400, iv y394.done], blk b11 102 #[.pointer pv1, sv ad2 p0.jobs cap3, sv ad4 p0.at_ cap5, iv p0.done]] hS)) (fun _ => ⟨by kernel_rfl⟩) rfl ?_
      rintro bq_ w a ⟨hc_, ν407, g408, hx409, hlow, hP, hS⟩ hF
      subst hc_
      replace hS := St.unrot [blk b405 102 #[.pointer pv396, sv ad397 y394.jobs cap398, sv ad399 y394.at_ cap400, iv y394.done], blk b11 102 #[.pointer pv1, sv ad2 p0.jobs cap3, sv ad4 p0.at_ cap5, iv p0.done]] hS
      replace hext := Frz.ext_trans hext hx409
      replace hA6 := hA6.mono Rp113.mono hx409.1
      replace hA7 := hA7.mono hx409.1
      replace hA8 := hA8.mono hx409.1
      replace hcb1 := hcb1.mono hx409.1
      replace hA10 := hA10.mono Rp113.mono hx409.1
      replace hcb2 := hcb2.mono hx409.1
      replace hcb3 := hcb3.mono hx409.1
      replace hcb4 := hcb4.mono hx409.1
      replace hA231 := hA231.mono hx409.1
      replace hA232 := hA232.mono hx409.1
      replace hA233 := hA233.mono Rp40.mono hx409.1
      replace hB222 := hB222.mono hx409.1
      replace hA401 := hA401.mono Rp113.mono hx409.1
      replace hA402 := hA402.mono hx409.1
      replace hA403 := hA403.mono hx409.1
      replace hj217 := Frz.le_trans hj217 hx409.1
      replace hle359 := Frz.le_trans hle359 hx409.1
      replace hj392 := Frz.le_trans hj392 hx409.1
      replace hS : St w0 (blk b405 102 #[.pointer pv396, sv ad397 y394.jobs cap398, sv ad399 y394.at_ cap400, iv y394.done] :: blk b11 102 #[.pointer pv1, sv ad2 p0.jobs cap3, sv ad4 p0.at_ cap5, iv p0.done] :: fz w0 ν407 :: (RC q406.1 (q406.2) g408 ++ G_)) w := hS
      rcases Bool.eq_false_or_eq_true (q406.2) with hb410 | hb410
      ·replace h := bif_t h hb410
       rw [hb410] at hS hP
       rw [hb410] at hF
       replace hS : St w0 (blk b405 102 #[.pointer pv396, sv ad397 y394.jobs cap398, sv ad399 y394.at_ cap400, iv y394.done] :: blk b11 102 #[.pointer pv1, sv ad2 p0.jobs cap3, sv ad4 p0.at_ cap5, iv p0.done] :: fz w0 ν407 :: (RC q406.1 true g408 ++ G_)) w := hS
       refine rn 1 4 [(2, pb cb2), (3, pb cb3), (4, pb cb4), (5, pb b11), (15, iv (ln d218.takes)), (16, iv x356), (30, .bool false)] hF fun a hF => ?_
       refine wfn rfl ?_
       refine wpIn_cond_false (hF.get rfl) ?_
       refine wpIn_skip (norm_then ?_)
       refine wpIn_exit (exit_then <| exit_hit <| norm_then ?_)
       exact ⟨q406.1, ν407, g408, hF.sub (by kernel_rfl), St.pickT (A := [blk b405 102 #[.pointer pv396, sv ad397 y394.jobs cap398, sv ad399 y394.at_ cap400, iv y394.done], blk b11 102 #[.pointer pv1, sv ad2 p0.jobs cap3, sv ad4 p0.at_ cap5, iv p0.done], fz w0 ν407]) (T := (RC q406.1 true g408 ++ G_)) [1, 2] (by decide) hS, hP, hj392, hext, hlow, h⟩
      ·replace h := bif_f h hb410
       rw [hb410] at hS hP
       rw [hb410] at hF
       replace hS : St w0 (blk b405 102 #[.pointer pv396, sv ad397 y394.jobs cap398, sv ad399 y394.at_ cap400, iv y394.done] :: blk b11 102 #[.pointer pv1, sv ad2 p0.jobs cap3, sv ad4 p0.at_ cap5, iv p0.done] :: fz w0 ν407 :: (RC q406.1 false g408 ++ G_)) w := hS
       refine rn 1 4 [(2, pb cb2), (3, pb cb3), (4, pb cb4), (5, pb b11), (15, iv (ln d218.takes)), (16, iv x356), (30, .bool true)] hF fun a hF => ?_
       refine wfn rfl ?_
       refine wpIn_cond_true (hF.get rfl) ?_
       refine esr ?_
       refine rn 1 1 [(6, .bool false)] hF fun a hF => ?_
       refine wfn rfl ?_
       refine wpIn_ret (ret_then <| ret_then <| ret_block <| ret_then <| ret_then <| ret_block <| ret_then <| fn_ret [.tmp 6] [.bool false] hF rfl ⟨rfl, trivial⟩ ?_)
       have hr_ := Option.some.inj h
       subst hr_
       exact ⟨ν407, g408, hext, hlow, hP, rfl, hS.drop1.drop1⟩
     ·replace h := bif_f h hc
      refine wpIn_skip (norm_then ?_)
      refine esr ?_
      replace h := bindS h
      obtain ⟨y411, hy411, h⟩ := h
      refine rx 7 [.run [] (Instr.loadAt 102 (pb b405)) (.agg #[.pointer pv396, sv ad397 y394.jobs cap398, sv ad399 y394.at_ cap400, iv y394.done]), .call [] 86 #[.agg #[.pointer pv396, sv ad397 y394.jobs cap398, sv ad399 y394.at_ cap400, iv y394.done]] (.tuple #[iv y411.1, .bool y411.2])] 7 [(2, pb cb2), (3, pb cb3), (4, pb cb4), (5, pb b11), (8, pb b405), (10, .bool y411.2), (15, iv (ln d218.takes)), (16, iv x356)] hF (ocons (obN (us := [.pointer pv396, sv ad397 y394.jobs cap398, sv ad399 y394.at_ cap400, iv y394.done]) (by kernel_rfl) (fun _ hd => ((hS.later hd).blk (i := 0) rfl).cells rfl)) (ocons (show Ob.ok _ Ext _ _ from fun hk w2 hd => plan_line_first_ok F y394 _ ((fun _ => hy411) hk) _ w2 (memOf_at w2) (hA401.mono Rp113.mono (FrzAt.le_mem ((hS.later hd).frz (i := 2) rfl hlow))) (hA402.mono (FrzAt.le_mem ((hS.later hd).frz (i := 2) rfl hlow))) (hA403.mono (FrzAt.le_mem ((hS.later hd).frz (i := 2) rfl hlow)))) onil)) fun a w hF hx => ?_
      replace hS := hS.later hx
      refine wfn rfl ?_
      refine esr ?_
      refine rn 3 3 [(2, pb cb2), (3, pb cb3), (4, pb cb4), (5, pb b11), (8, pb b405), (15, iv (ln d218.takes)), (16, iv x356), (38, .bool (!y411.2))] hF fun a hF => ?_
      rcases Bool.eq_false_or_eq_true ((!y411.2)) with hg412 | hg412
      ·replace h := bif_t h hg412
       rw [hg412] at hF
       refine run_C (n := 2) (obs := [.run [⟨38, true, true⟩] (Instr.loadAt 141 (pb cb4)) (.func (.func 84) #[] #[pb cb1, pb cb2, pb cb3, pb cb4]), .run [⟨38, true, true⟩] (Instr.loadAt 102 (pb b405)) (.agg #[.pointer pv396, sv ad397 y394.jobs cap398, sv ad399 y394.at_ cap400, iv y394.done])]) 5 [(2, ⟨[], pb cb2⟩), (3, ⟨[], pb cb3⟩), (4, ⟨[], pb cb4⟩), (5, ⟨[], pb b11⟩), (15, ⟨[], iv (ln d218.takes)⟩), (16, ⟨[], iv x356⟩), (38, ⟨[], .bool true⟩), (39, ⟨[⟨38, true, true⟩], .func (.func 84) #[] #[pb cb1, pb cb2, pb cb3, pb cb4]⟩), (40, ⟨[⟨38, true, true⟩], .agg #[.pointer pv396, sv ad397 y394.jobs cap398, sv ad399 y394.at_ cap400, iv y394.done]⟩)] hF (by kernel_rfl) (ocons (ob1 (by kernel_rfl) (fun _ hd => (hcb4.blk ((hS.at_ hd).frz (i := 2) rfl hlow)).cell1 (j := 0) rfl)) (ocons (obN (us := [.pointer pv396, sv ad397 y394.jobs cap398, sv ad399 y394.at_ cap400, iv y394.done]) (by kernel_rfl) (fun _ hd => ((hS.at_ hd).blk (i := 0) rfl).cells rfl)) onil)) ⟨by kernel_rfl⟩ (by kernel_rfl) rfl fun a hF => ?_
       replace hF : Fr 45 [] [(2, pb cb2), (3, pb cb3), (4, pb cb4), (5, pb b11), (15, iv (ln d218.takes)), (16, iv x356), (38, .bool true), (39, .func (.func 84) #[] #[pb cb1, pb cb2, pb cb3, pb cb4]), (40, .agg #[.pointer pv396, sv ad397 y394.jobs cap398, sv ad399 y394.at_ cap400, iv y394.done])] a := hF
       replace h := bindS h
       obtain ⟨y413, hy413, h⟩ := h
       refine SK.wi (callK (f := 84) (args := #[.agg #[.pointer pv396, sv ad397 y394.jobs cap398, sv ad399 y394.at_ cap400, iv y394.done], pb cb1, pb cb2, pb cb3, pb cb4]) (R := fun v w2 => ∃ (ν_ : Frz) (g2_ : γ), ν395.ext w0.heap.size ν_ ∧ FrzIn w0 ν_ ∧ PC y413.1 y413.2.1 g2_ ν_ ∧ v = .bool y413.2.2 ∧ St w0 (fz w0 ν_ :: (RC y413.1 y413.2.1 g2_ ++ (G_ ++ [blk b405 102 #[.pointer pv396, sv ad397 y394.jobs cap398, sv ad399 y394.at_ cap400, iv y394.done], blk b11 102 #[.pointer pv1, sv ad2 p0.jobs cap3, sv ad4 p0.at_ cap5, iv p0.done]]))) w2) (fun v417 => [(2, pb cb2), (3, pb cb3), (4, pb cb4), (5, pb b11), (15, iv (ln d218.takes)), (16, iv x356), (38, .bool true), (41, v417)]) hF (by kernel_rfl) ⟨by kernel_rfl⟩ (Calls.mono (ih y394 (some d218) c1_ body s357 _ (by rw [← hself]; exact hy413) l_ ν395 w0 w RC PC hPm (fun s x q hb ν g G w a0_ a1_ a2_ a3_ a4_ hx => hy s x q hb ν g G w a0_ a1_ a2_ a3_ a4_ (Frz.ext_trans hext hx)) g358 (G_ ++ [blk b405 102 #[.pointer pv396, sv ad397 y394.jobs cap398, sv ad399 y394.at_ cap400, iv y394.done], blk b11 102 #[.pointer pv1, sv ad2 p0.jobs cap3, sv ad4 p0.at_ cap5, iv p0.done]]) hlow hP (St.rot [blk b405 102 #[.pointer pv396, sv ad397 y394.jobs cap398, sv ad399 y394.at_ cap400, iv y394.done], blk b11 102 #[.pointer pv1, sv ad2 p0.jobs cap3, sv ad4 p0.at_ cap5, iv p0.done]] hS) hA401 hA402 hA403 hcb1 (PtM.mk (cs := [sv ad224 d218.jobs cap225, sv ad226 d218.takes cap227, sv ad228 d218.moves cap229]) hB222 ⟨ad224, cap225, ad226, cap227, ad228, cap229, css230, rfl, hA231, hA232, hA233⟩) hcb2 hcb3 hcb4) (by rintro e w2 ⟨n1, n2, n3, n4, n5, rfl, n6⟩; exact ⟨_, rfl, n1, n2, n3, n4, n5, rfl, n6⟩)) (fun _ => ⟨by kernel_rfl⟩) ?_)
       rintro v417 w a ⟨ν414, g415, hx416, hlow, hP, rfl, hS⟩ hF
       replace hS := St.unrot [blk b405 102 #[.pointer pv396, sv ad397 y394.jobs cap398, sv ad399 y394.at_ cap400, iv y394.done], blk b11 102 #[.pointer pv1, sv ad2 p0.jobs cap3, sv ad4 p0.at_ cap5, iv p0.done]] hS
       replace hext := Frz.ext_trans hext hx416
       replace hA6 := hA6.mono Rp113.mono hx416.1
       replace hA7 := hA7.mono hx416.1
       replace hA8 := hA8.mono hx416.1
       replace hcb1 := hcb1.mono hx416.1
       replace hA10 := hA10.mono Rp113.mono hx416.1
       replace hcb2 := hcb2.mono hx416.1
       replace hcb3 := hcb3.mono hx416.1
       replace hcb4 := hcb4.mono hx416.1
       replace hA231 := hA231.mono hx416.1
       replace hA232 := hA232.mono hx416.1
       replace hA233 := hA233.mono Rp40.mono hx416.1
       replace hB222 := hB222.mono hx416.1
       replace hA401 := hA401.mono Rp113.mono hx416.1
       replace hA402 := hA402.mono hx416.1
       replace hA403 := hA403.mono hx416.1
       replace hj217 := Frz.le_trans hj217 hx416.1
       replace hle359 := Frz.le_trans hle359 hx416.1
       replace hj392 := Frz.le_trans hj392 hx416.1
       replace hS : St w0 (blk b405 102 #[.pointer pv396, sv ad397 y394.jobs cap398, sv ad399 y394.at_ cap400, iv y394.done] :: blk b11 102 #[.pointer pv1, sv ad2 p0.jobs cap3, sv ad4 p0.at_ cap5, iv p0.done] :: fz w0 ν414 :: (RC y413.1 (y413.2.1) g415 ++ G_)) w := hS
       rcases Bool.eq_false_or_eq_true (y413.2.1) with hb418 | hb418
       ·replace h := bif_t h hb418
        rw [hb418] at hS hP
        replace hS : St w0 (blk b405 102 #[.pointer pv396, sv ad397 y394.jobs cap398, sv ad399 y394.at_ cap400, iv y394.done] :: blk b11 102 #[.pointer pv1, sv ad2 p0.jobs cap3, sv ad4 p0.at_ cap5, iv p0.done] :: fz w0 ν414 :: (RC y413.1 true g415 ++ G_)) w := hS
        refine rn 2 8 [(2, pb cb2), (3, pb cb3), (4, pb cb4), (5, pb b11), (15, iv (ln d218.takes)), (16, iv x356), (43, .bool (!y413.2.2))] hF fun a hF => ?_
        refine wfn rfl ?_
        refine econd hF rfl (fun hc => ?_) (fun hc => ?_)
        ·replace h := bif_t h hc
         refine esr ?_
         refine rn 1 1 [(6, .bool false)] hF fun a hF => ?_
         refine wfn rfl ?_
         refine wpIn_ret (ret_block <| ret_then <| ret_then <| ret_block <| ret_then <| fn_ret [.tmp 6] [.bool false] hF rfl ⟨rfl, trivial⟩ ?_)
         have hr_ := Option.some.inj h
         subst hr_
         exact ⟨ν414, g415, hext, hlow, hP, rfl, hS.drop1.drop1⟩
        ·replace h := bif_f h hc
         refine wpIn_skip (norm_block <| norm_then <| ?_)
         exact ⟨y413.1, ν414, g415, hF.sub (by kernel_rfl), St.pickT (A := [blk b405 102 #[.pointer pv396, sv ad397 y394.jobs cap398, sv ad399 y394.at_ cap400, iv y394.done], blk b11 102 #[.pointer pv1, sv ad2 p0.jobs cap3, sv ad4 p0.at_ cap5, iv p0.done], fz w0 ν414]) (T := (RC y413.1 true g415 ++ G_)) [1, 2] (by decide) hS, hP, hj392, hext, hlow, h⟩
       ·replace h := bif_f h hb418
        rw [hb418] at hS hP
        replace hS : St w0 (blk b405 102 #[.pointer pv396, sv ad397 y394.jobs cap398, sv ad399 y394.at_ cap400, iv y394.done] :: blk b11 102 #[.pointer pv1, sv ad2 p0.jobs cap3, sv ad4 p0.at_ cap5, iv p0.done] :: fz w0 ν414 :: (RC y413.1 false g415 ++ G_)) w := hS
        refine rn 2 8 [(2, pb cb2), (3, pb cb3), (4, pb cb4), (5, pb b11), (15, iv (ln d218.takes)), (16, iv x356), (43, .bool (!y413.2.2))] hF fun a hF => ?_
        refine wfn rfl ?_
        refine econd hF rfl (fun hc => ?_) (fun hc => ?_)
        ·replace h := bif_t h hc
         refine esr ?_
         refine rn 1 1 [(6, .bool false)] hF fun a hF => ?_
         refine wfn rfl ?_
         refine wpIn_ret (ret_block <| ret_then <| ret_then <| ret_block <| ret_then <| fn_ret [.tmp 6] [.bool false] hF rfl ⟨rfl, trivial⟩ ?_)
         have hr_ := Option.some.inj h
         subst hr_
         exact ⟨ν414, g415, hext, hlow, hP, rfl, hS.drop1.drop1⟩
        ·replace h := bif_f h hc
         refine wpIn_skip (norm_block <| norm_then <| ?_)
         cases h
      ·replace h := bif_f h hg412
       rw [hg412] at hF
       refine skip_ 4 [(2, pb cb2), (3, pb cb3), (4, pb cb4), (5, pb b11), (8, pb b405), (15, iv (ln d218.takes)), (16, iv x356), (38, .bool false), (39, undef)] hF (by kernel_rfl) ⟨by kernel_rfl⟩ ⟨by kernel_rfl⟩ rfl fun a hF => ?_
       refine skip_ 5 [(2, pb cb2), (3, pb cb3), (4, pb cb4), (5, pb b11), (15, iv (ln d218.takes)), (16, iv x356), (38, .bool false), (39, undef), (40, undef)] hF (by kernel_rfl) ⟨by kernel_rfl⟩ ⟨by kernel_rfl⟩ rfl fun a hF => ?_
       refine skip_ 6 [(2, pb cb2), (3, pb cb3), (4, pb cb4), (5, pb b11), (15, iv (ln d218.takes)), (16, iv x356), (38, .bool false), (41, undef)] hF (by kernel_rfl) ⟨by kernel_rfl⟩ ⟨by kernel_rfl⟩ rfl fun a hF => ?_
       refine skip_ 7 [(2, pb cb2), (3, pb cb3), (4, pb cb4), (5, pb b11), (15, iv (ln d218.takes)), (16, iv x356), (38, .bool false), (42, undef)] hF (by kernel_rfl) ⟨by kernel_rfl⟩ ⟨by kernel_rfl⟩ rfl fun a hF => ?_
       refine rn 1 8 [(2, pb cb2), (3, pb cb3), (4, pb cb4), (5, pb b11), (15, iv (ln d218.takes)), (16, iv x356), (43, .bool false)] hF fun a hF => ?_
       refine wfn rfl ?_
       refine wpIn_cond_false (hF.get rfl) ?_
       refine wpIn_skip (norm_block <| norm_then <| ?_)
       exact ⟨s357, ν395, g358, hF.sub (by kernel_rfl), St.pickT (A := [blk b405 102 #[.pointer pv396, sv ad397 y394.jobs cap398, sv ad399 y394.at_ cap400, iv y394.done], blk b11 102 #[.pointer pv1, sv ad2 p0.jobs cap3, sv ad4 p0.at_ cap5, iv p0.done], fz w0 ν395]) (T := (RC s357 true g358 ++ G_)) [1, 2] (by decide) hS, hP, hj392, hext, hlow, h⟩
    clear hj392
    rintro a w ⟨s388, ν387, g389, hF, hS, hP, hle390, hext, hlow, h⟩
    replace hA6 := hA6.mono Rp113.mono hle390
    replace hA7 := hA7.mono hle390
    replace hA8 := hA8.mono hle390
    replace hcb1 := hcb1.mono hle390
    replace hA10 := hA10.mono Rp113.mono hle390
    replace hcb2 := hcb2.mono hle390
    replace hcb3 := hcb3.mono hle390
    replace hcb4 := hcb4.mono hle390
    replace hA231 := hA231.mono hle390
    replace hA232 := hA232.mono hle390
    replace hA233 := hA233.mono Rp40.mono hle390
    replace hB222 := hB222.mono hle390
    replace hj217 := Frz.le_trans hj217 hle390
    replace hle359 := Frz.le_trans hle359 hle390
    rw [pplan_desk_begun_1_1_K3] at h
    refine WI.region ?_
    replace h := bindS h
    obtain ⟨x391, hx391, h⟩ := h
    refine rno 2 [.run [] (binOp .add 3 (iv x356) (iv 1)) (iv x391)] 2 [(2, pb cb2), (3, pb cb3), (4, pb cb4), (5, pb b11), (15, iv (ln d218.takes)), (16, iv x391)] hF (ocons (obAddC (fun _ => hx391)) onil) fun a hF => ?_
    refine wfn rfl ?_
    rw [hk2] at h
    exact ⟨n_, Nat.lt_succ_self _, x391, s388, ν387, g389, hF.sub (by kernel_rfl), St.pickT (A := [blk b11 102 #[.pointer pv1, sv ad2 p0.jobs cap3, sv ad4 p0.at_ cap5, iv p0.done], fz w0 ν387]) (T := (RC s388 true g389 ++ G_)) [0, 1] (by decide) hS, hP, hle359, hext, hlow, h⟩
   ·replace h := bif_f h hc
    refine wpIn_exit (exit_then <| exit_then <| exit_hit <| norm_then ?_)
    try simp only [pb, ← hp221] at hF
    try simp only [pb, ← hp221] at hS
    exact ⟨s357, ν355, g358, hF.sub (by kernel_rfl), St.pickT (A := [blk b11 102 #[.pointer pv1, sv ad2 p0.jobs cap3, sv ad4 p0.at_ cap5, iv p0.done], fz w0 ν355]) (T := (RC s357 true g358 ++ G_)) [0, 1] (by decide) hS, hP, hj217, hext, hlow, h⟩
  clear hj217
  rintro a w ⟨s214, ν213, g215, hF, hS, hP, hle216, hext, hlow, h⟩
  replace hA6 := hA6.mono Rp113.mono hle216
  replace hA7 := hA7.mono hle216
  replace hA8 := hA8.mono hle216
  replace hcb1 := hcb1.mono hle216
  replace hA10 := hA10.mono Rp113.mono hle216
  replace hcb2 := hcb2.mono hle216
  replace hcb3 := hcb3.mono hle216
  replace hcb4 := hcb4.mono hle216
  rw [pplan_desk_begun_1_1_K1] at h
  refine esr ?_
  refine rn 1 1 [(6, .bool true)] hF fun a hF => ?_
  refine wfn rfl ?_
  refine wpIn_ret (fn_ret [.tmp 6] [.bool true] hF rfl ⟨rfl, trivial⟩ ?_)
  have hr_ := Option.some.inj h
  subst hr_
  exact ⟨ν213, g215, hext, hlow, hP, rfl, hS.drop1⟩

theorem law06_begins_ok (F : Nat) (p0 : plan_Radar) (p1 : (List plan_Job)) (p2 : (List Int)) (res : ((List Int) × Bool)) (h : law06_begins F p0 p1 p2 = some res) (μ : Frz) (w0 : World) (hm : FrzAt μ w0) {ad1 : Option Addr} {cap2 : Nat} {ad4 : Option Addr} {cap5 : Nat} (hA3 : ArrM μ 8 plan_Job.cells ad1 cap2 p1) (hA6 : ArrM μ 1 fI ad4 cap5 p2) : Calls Try.prog 39 #[p0.ag, sv ad1 p1 cap2, sv ad4 p2 cap5] w0 (fun e w => ∃ zad0 zcap0, e = .returned (.tuple #[sv zad0 res.1 zcap0, .bool res.2]) ∧ St w0 [arr 3 1 fI zad0 res.1.length zcap0 res.1] w) := by
 obtain ⟨hlow, hS⟩ := hm.init
 have hext := Frz.ext_refl w0.heap.size μ
 rw [law06_begins] at h
 refine fn_enterW Try.func39 rfl 83 [(0, p0.ag), (1, sv ad1 p1 cap2), (2, sv ad4 p2 cap5)] rfl rfl (by kernel_rfl) fun a w hw hF => ?_
 replace hS : St w0 [fz w0 μ] w := by rw [hw]; exact hS
 clear hw
 refine esr ?_
 refine SK.wi (boxK (t := 31) (fun b7 => [(1, sv ad1 p1 cap2), (2, sv ad4 p2 cap5), (3, pb b7)]) (p0.ag) p0.ar hF hS (by kernel_rfl) ⟨by kernel_rfl⟩ (by kernel_rfl) (fun _ => ⟨by kernel_rfl⟩) fun b7 w a hF hS => ?_)
 refine rn 2 3 [(1, sv ad1 p1 cap2), (2, sv ad4 p2 cap5), (3, pb b7)] hF fun a hF => ?_
 refine wfn rfl ?_
 refine esr ?_
 refine rn 1 1 [(1, sv ad1 p1 cap2), (2, sv ad4 p2 cap5), (3, pb b7), (8, iv 0)] hF fun a hF => ?_
 refine wfn rfl ?_
 refine esr ?_
 refine rn 1 1 [(1, sv ad1 p1 cap2), (2, sv ad4 p2 cap5), (3, pb b7), (8, iv 0), (9, .slice none 0 0)] hF fun a hF => ?_
 refine wfn rfl ?_
 refine ecut (fun a w => ∃ (l126 : (List Int)) (ad124 : Option Addr) (cap125 : Nat), Fr 83 [] [(9, sv ad124 l126 cap125)] a ∧ St w0 [arr 3 1 fI ad124 l126.length cap125 l126, blk b7 31 p0.ar, fz w0 μ] w ∧ law06_begins_K1 l126 = some res) ?_ ?_
 ·skip
  refine esr ?_
  refine rn 3 3 [(1, sv ad1 p1 cap2), (2, sv ad4 p2 cap5), (3, pb b7), (8, iv 0), (9, .slice none 0 0), (14, sv ad4 p2 cap5), (15, iv (ln p2)), (16, iv 0)] hF fun a hF => ?_
  refine wfn rfl ?_
  refine wpIn_block ?_
  replace hS := hS.nilarr 3 1 fI
  refine eloop (fun n_ a w => ∃ (x203 : Int) (x204 : Int) (l207 : (List Int)) (ad205 : Option Addr) (cap206 : Nat), Fr 83 [] [(1, sv ad1 p1 cap2), (2, sv ad4 p2 cap5), (3, pb b7), (8, iv x204), (9, sv ad205 l207 cap206), (14, sv ad4 p2 cap5), (15, iv (ln p2)), (16, iv x203)] a ∧ St w0 [arr 3 1 fI ad205 l207.length cap206 l207, blk b7 31 p0.ar, fz w0 μ] w ∧ law06_begins_L2 F p0 p1 p2 n_ x203 x204 l207 = some res) F ⟨0, 0, [], none, 0, hF.sub (by kernel_rfl), St.pick [0, 1, 2] (by decide) hS, h⟩ ?_
  rintro n_ a w ⟨x203, x204, l207, ad205, cap206, hF, hS, h⟩
  rcases n_ with _ | n_
  ·cases (show (none : Option ((List Int) × Bool)) = some res from h)
  obtain ⟨k2, hk2⟩ : ∃ k, k = law06_begins_L2 F p0 p1 p2 n_ := ⟨_, rfl⟩
  replace h : law06_begins_B2 F p0 p1 p2 k2 x203 x204 l207 = some res := by rw [hk2]; exact h
  rw [law06_begins_B2] at h
  refine esr ?_
  refine rn 1 1 [(1, sv ad1 p1 cap2), (2, sv ad4 p2 cap5), (3, pb b7), (8, iv x204), (9, sv ad205 l207 cap206), (14, sv ad4 p2 cap5), (15, iv (ln p2)), (16, iv x203), (17, .bool (decide (x203 < (ln p2))))] hF fun a hF => ?_
  refine wfn rfl ?_
  refine eseq ?_
  refine econd hF rfl (fun hc => ?_) (fun hc => ?_)
  ·replace h := bif_t h hc
   refine wpIn_skip (norm_then ?_)
   refine eseq ?_
   refine wpIn_block ?_
   refine esr ?_
   replace h := bindS h
   obtain ⟨u209, hu209, h⟩ := h
   refine rno 5 [.run [] (Instr.indexAt 40 (sv ad4 p2 cap5) (iv x203)) (.pointer (some (slAddr ad4 x203 1))), .run [] (Instr.loadAt 3 (.pointer (some (slAddr ad4 x203 1)))) (iv u209)] 5 [(1, sv ad1 p1 cap2), (2, sv ad4 p2 cap5), (3, pb b7), (8, iv x204), (9, sv ad205 l207 cap206), (10, iv x203), (11, iv u209), (14, sv ad4 p2 cap5), (15, iv (ln p2)), (16, iv x203)] hF (ocons (obIdxQ (hA6 _ (hS.frz (i := 2) rfl hlow)) (by kernel_rfl) (fun _ => hu209)) (ocons (obElQ (i := x203) 0 fI_len (fun _ hd => (hA6 _ ((hS.at_ hd).frz (i := 2) rfl hlow))) (by kernel_rfl) (fun _ => hu209) rfl) onil)) fun a hF => ?_
   refine wfn rfl ?_
   refine ecut (fun a w => ∃ (x222 : Int), Fr 83 [] [(1, sv ad1 p1 cap2), (2, sv ad4 p2 cap5), (3, pb b7), (8, iv x222), (9, sv ad205 l207 cap206), (11, iv u209), (14, sv ad4 p2 cap5), (15, iv (ln p2)), (16, iv x203)] a ∧ St w0 [arr 3 1 fI ad205 l207.length cap206 l207, blk b7 31 p0.ar, fz w0 μ] w ∧ law06_begins_K3 F p0 p1 x203 l207 k2 u209 x222 = some res) ?_ ?_
   ·skip
    refine esr ?_
    refine rn 2 2 [(1, sv ad1 p1 cap2), (2, sv ad4 p2 cap5), (3, pb b7), (8, iv x204), (9, sv ad205 l207 cap206), (10, iv x203), (11, iv u209), (14, sv ad4 p2 cap5), (15, iv (ln p2)), (16, iv x203), (22, .bool (decide (x203 > 0)))] hF fun a hF => ?_
    refine wfn rfl ?_
    refine econd hF rfl (fun hc => ?_) (fun hc => ?_)
    ·replace h := bif_t h hc
     replace h := bindS h
     obtain ⟨u232, hu232, h⟩ := h
     replace h := bindS h
     obtain ⟨x233, hx233, h⟩ := h
     replace h := bindS h
     obtain ⟨u234, hu234, h⟩ := h
     replace h := bindS h
     obtain ⟨u235, hu235, h⟩ := h
     replace h := bindS h
     obtain ⟨x236, hx236, h⟩ := h
     replace h := bindS h
     obtain ⟨x237, hx237, h⟩ := h
     replace h := bindS h
     obtain ⟨u238, hu238, h⟩ := h
     replace h := bindS h
     obtain ⟨u239, hu239, h⟩ := h
     replace h := bindS h
     obtain ⟨u240, hu240, h⟩ := h
     replace h := bindS h
     obtain ⟨x241, hx241, h⟩ := h
     replace h := bindS h
     obtain ⟨x242, hx242, h⟩ := h
     replace h := bindS h
     obtain ⟨x243, hx243, h⟩ := h
     refine runD (obs := [.run [] (Instr.loadAt 3 (.pointer (some ⟨b7, 2, none⟩))) (iv p0.Move), .run [] (Instr.indexAt 43 (sv ad1 p1 cap2) (iv u209)) (.pointer (some (slAddr ad1 u209 8))), .run [] (Instr.loadAt 3 (.pointer (some (slAddr ad1 u209 8)))) (iv u232.Tilt), .run [] (binOp .sub 3 (iv x203) (iv 1)) (iv x233), .run [] (Instr.indexAt 40 (sv ad4 p2 cap5) (iv x233)) (.pointer (some (slAddr ad4 x233 1))), .run [] (Instr.loadAt 3 (.pointer (some (slAddr ad4 x233 1)))) (iv u234), .run [] (Instr.indexAt 43 (sv ad1 p1 cap2) (iv u234)) (.pointer (some (slAddr ad1 u234 8))), .run [] (Instr.loadAt 3 (.pointer (some (slAddr ad1 u234 8)))) (iv u235.Tilt), .run [] (binOp .sub 3 (iv u232.Tilt) (iv u235.Tilt)) (iv x236), .run [] (binOp .sub 3 (iv x203) (iv 1)) (iv x237), .run [] (Instr.indexAt 40 (sv ad4 p2 cap5) (iv x237)) (.pointer (some (slAddr ad4 x237 1))), .run [] (Instr.loadAt 3 (.pointer (some (slAddr ad4 x237 1)))) (iv u238), .run [] (Instr.indexAt 43 (sv ad1 p1 cap2) (iv u238)) (.pointer (some (slAddr ad1 u238 8))), .run [] (Instr.loadAt 3 (.pointer (some (slAddr ad1 u238 8)))) (iv u239.Tilt), .run [] (Instr.indexAt 43 (sv ad1 p1 cap2) (iv u209)) (.pointer (some (slAddr ad1 u209 8))), .run [] (Instr.loadAt 3 (.pointer (some (slAddr ad1 u209 8)))) (iv u240.Tilt), .run [] (binOp .sub 3 (iv u239.Tilt) (iv u240.Tilt)) (iv x241), .run [] (binOp .mul 3 (iv p0.Move) (iv (if x241 > x236 then x241 else x236))) (iv x242), .run [] (binOp .add 3 (iv x204) (iv x242)) (iv x243)]) 37 [(1, sv ad1 p1 cap2), (2, sv ad4 p2 cap5), (3, pb b7), (8, iv x243), (9, sv ad205 l207 cap206), (11, iv u209), (14, sv ad4 p2 cap5), (15, iv (ln p2)), (16, iv x203)] (by kernel_rfl) hF (by kernel_rfl) (ocons (ob1 (by kernel_rfl) (fun _ hd => (hS.later hd).cell (i := 1) (j := 2) rfl rfl)) (ocons (obIdxQ (hA3 _ (hS.frz (i := 2) rfl hlow)) (by kernel_rfl) (fun _ => hu232)) (ocons (obElQ (i := u209) 0 plan_Job.cells_len (fun _ hd => (hA3 _ ((hS.later hd).frz (i := 2) rfl hlow))) (by kernel_rfl) (fun _ => hu232) rfl) (ocons (obSubC (fun _ => hx233)) (ocons (obIdxQ (hA6 _ (hS.frz (i := 2) rfl hlow)) (by kernel_rfl) (fun _ => hu234)) (ocons (obElQ (i := x233) 0 fI_len (fun _ hd => (hA6 _ ((hS.later hd).frz (i := 2) rfl hlow))) (by kernel_rfl) (fun _ => hu234) rfl) (ocons (obIdxQ (hA3 _ (hS.frz (i := 2) rfl hlow)) (by kernel_rfl) (fun _ => hu235)) (ocons (obElQ (i := u234) 0 plan_Job.cells_len (fun _ hd => (hA3 _ ((hS.later hd).frz (i := 2) rfl hlow))) (by kernel_rfl) (fun _ => hu235) rfl) (ocons (obSubC (fun _ => hx236)) (ocons (obSubC (fun _ => hx237)) (ocons (obIdxQ (hA6 _ (hS.frz (i := 2) rfl hlow)) (by kernel_rfl) (fun _ => hu238)) (ocons (obElQ (i := x237) 0 fI_len (fun _ hd => (hA6 _ ((hS.later hd).frz (i := 2) rfl hlow))) (by kernel_rfl) (fun _ => hu238) rfl) (ocons (obIdxQ (hA3 _ (hS.frz (i := 2) rfl hlow)) (by kernel_rfl) (fun _ => hu239)) (ocons (obElQ (i := u238) 0 plan_Job.cells_len (fun _ hd => (hA3 _ ((hS.later hd).frz (i := 2) rfl hlow))) (by kernel_rfl) (fun _ => hu239) rfl) (ocons (obIdxQ (hA3 _ (hS.frz (i := 2) rfl hlow)) (by kernel_rfl) (fun _ => hu240)) (ocons (obElQ (i := u209) 0 plan_Job.cells_len (fun _ hd => (hA3 _ ((hS.later hd).frz (i := 2) rfl hlow))) (by kernel_rfl) (fun _ => hu240) rfl) (ocons (obSubC (fun _ => hx241)) (ocons (obMulC (fun _ => hx242)) (ocons (obAddC (fun _ => hx243)) onil))))))))))))))))))) ⟨by kernel_rfl⟩ fun a w hF hx => ?_
     replace hS := hS.later hx
     refine wfn rfl ?_
     exact ⟨x243, hF.sub (by kernel_rfl), St.pick [0, 1, 2] (by decide) hS, h⟩
    ·replace h := bif_f h hc
     refine wpIn_skip (norm_then ?_)
     exact ⟨x204, hF.sub (by kernel_rfl), St.pick [0, 1, 2] (by decide) hS, h⟩
   rintro a w ⟨x222, hF, hS, h⟩
   rw [law06_begins_K3] at h
   refine esr ?_
   refine rn 2 2 [(1, sv ad1 p1 cap2), (2, sv ad4 p2 cap5), (3, pb b7), (8, iv x222), (9, sv ad205 l207 cap206), (11, iv u209), (14, sv ad4 p2 cap5), (15, iv (ln p2)), (16, iv x203), (59, sv ad205 l207 cap206), (60, iv x222)] hF fun a hF => ?_
   refine SK.wi (litK (e := 3) (sz := 1) (f := fI) (t := 40) (len := 1) (fun b223 => [(1, sv ad1 p1 cap2), (2, sv ad4 p2 cap5), (3, pb b7), (8, iv x222), (9, sv ad205 l207 cap206), (11, iv u209), (14, sv ad4 p2 cap5), (15, iv (ln p2)), (16, iv x203), (59, sv ad205 l207 cap206), (61, sb b223 1)]) #[(0, iv x222)] #[iv x222] ([x222]) hF hS (by kernel_rfl) ⟨by kernel_rfl⟩ (by kernel_rfl) fI_len rfl rfl (by kernel_rfl) (fun _ => ⟨by kernel_rfl⟩) fun b223 w a hF hS => ?_)
   replace h := bindS h
   obtain ⟨l224, hl224, h⟩ := h
   refine SK.wi (appK (t := 40) (ty := 40) (bytes := 8) (l := l207) (l' := ([x222])) (fun ad225 cap226 => [(1, sv ad1 p1 cap2), (2, sv ad4 p2 cap5), (3, pb b7), (8, iv x222), (9, sv ad205 l207 cap206), (11, iv u209), (14, sv ad4 p2 cap5), (15, iv (ln p2)), (16, iv x203), (62, sv ad225 l224 cap226)]) 1 hF hS rfl (by kernel_rfl) ⟨by kernel_rfl⟩ (by kernel_rfl) (hS.arr (i := 0) rfl) (fun _ _ => rfl) hl224 (fun _ _ => ⟨by kernel_rfl⟩) fun ad225 cap226 w a hF hS => ?_)
   refine rn 1 5 [(1, sv ad1 p1 cap2), (2, sv ad4 p2 cap5), (3, pb b7), (8, iv x222), (9, sv ad225 l224 cap226), (11, iv u209), (14, sv ad4 p2 cap5), (15, iv (ln p2)), (16, iv x203)] hF fun a hF => ?_
   refine wfn rfl ?_
   refine eseq ?_
   replace h := bindS h
   obtain ⟨u227, hu227, h⟩ := h
   replace h := bindS h
   obtain ⟨y228, hy228, h⟩ := h
   refine runD (obs := [.run [] (Instr.loadAt 31 (pb b7)) (p0.ag), .run [] (Instr.indexAt 43 (sv ad1 p1 cap2) (iv u209)) (.pointer (some (slAddr ad1 u209 8))), .run [] (Instr.loadAt 34 (.pointer (some (slAddr ad1 u209 8)))) (u227.ag), .call [] 14 #[p0.ag, u227.ag] (.tuple #[iv y228.1, iv y228.2])]) 11 [(1, sv ad1 p1 cap2), (2, sv ad4 p2 cap5), (3, pb b7), (8, iv x222), (9, sv ad225 l224 cap226), (12, iv y228.1), (13, iv y228.2), (14, sv ad4 p2 cap5), (15, iv (ln p2)), (16, iv x203)] (by kernel_rfl) hF (by kernel_rfl) (ocons (obN (us := p0.cells) (by kernel_rfl) (fun _ hd => ((hS.later hd).blk (i := 2) rfl).cells rfl)) (ocons (obIdxQ (hA3 _ (hS.frz (i := 3) rfl hlow)) (by kernel_rfl) (fun _ => hu227)) (ocons (obElNQ (m := 8) (i := u209) (us := u227.cells) 0 plan_Job.cells_len (fun _ hd => (hA3 _ ((hS.later hd).frz (i := 3) rfl hlow))) (by kernel_rfl) (fun _ => hu227) ⟨rfl, rfl⟩) (ocons (show Ob.ok _ Ext _ _ from fun hk w2 hd => plan_Time_ok F p0 u227 _ ((fun _ => hy228) hk) _ w2 (memOf_at w2) ) onil)))) ⟨by kernel_rfl⟩ fun a w hF hx => ?_
   replace hS := hS.later hx
   refine wfn rfl ?_
   refine eseq ?_
   refine esr ?_
   refine rn 6 6 [(1, sv ad1 p1 cap2), (2, sv ad4 p2 cap5), (3, pb b7), (8, iv x222), (9, sv ad225 l224 cap226), (12, iv y228.1), (14, sv ad4 p2 cap5), (15, iv (ln p2)), (16, iv x203), (77, .bool (bif (y228.2 != 0) then true else (decide (y228.1 < 1))))] hF fun a hF => ?_
   refine wfn rfl ?_
   refine econd hF rfl (fun hc => ?_) (fun hc => ?_)
   ·replace h := bif_t h hc
    refine esr ?_
    refine rn 2 2 [(6, .slice none 0 0), (7, .bool false)] hF fun a hF => ?_
    refine wfn rfl ?_
    refine wpIn_ret (ret_then <| ret_block <| ret_then <| ret_then <| ret_block <| ret_then <| fn_ret [.tmp 6, .tmp 7] [.slice none 0 0, .bool false] hF rfl ⟨rfl, rfl, trivial⟩ ?_)
    have hr_ := Option.some.inj h
    subst hr_
    replace hS := hS.nilarr 3 1 fI
    exact ⟨_, _, rfl, St.pick [0] (by decide) hS⟩
   ·replace h := bif_f h hc
    refine wpIn_skip (norm_then ?_)
    refine WI.region ?_
    replace h := bindS h
    obtain ⟨x229, hx229, h⟩ := h
    refine rno 4 [.run [] (binOp .add 3 (iv x222) (iv y228.1)) (iv x229)] 4 [(1, sv ad1 p1 cap2), (2, sv ad4 p2 cap5), (3, pb b7), (8, iv x229), (9, sv ad225 l224 cap226), (14, sv ad4 p2 cap5), (15, iv (ln p2)), (16, iv x203)] hF (ocons (obAddC (fun _ => hx229)) onil) fun a hF => ?_
    refine WI.fin rfl (norm_block <| norm_then <| ?_)
    refine WI.region ?_
    replace h := bindS h
    obtain ⟨x230, hx230, h⟩ := h
    refine rno 2 [.run [] (binOp .add 3 (iv x203) (iv 1)) (iv x230)] 2 [(1, sv ad1 p1 cap2), (2, sv ad4 p2 cap5), (3, pb b7), (8, iv x229), (9, sv ad225 l224 cap226), (14, sv ad4 p2 cap5), (15, iv (ln p2)), (16, iv x230)] hF (ocons (obAddC (fun _ => hx230)) onil) fun a hF => ?_
    refine wfn rfl ?_
    rw [hk2] at h
    exact ⟨n_, Nat.lt_succ_self _, x230, x229, l224, ad225, cap226, hF.sub (by kernel_rfl), St.pick [1, 2, 3] (by decide) hS, h⟩
  ·replace h := bif_f h hc
   refine wpIn_exit (exit_then <| exit_then <| exit_hit <| norm_then ?_)
   exact ⟨l207, ad205, cap206, hF.sub (by kernel_rfl), St.pick [0, 1, 2] (by decide) hS, h⟩
 rintro a w ⟨l126, ad124, cap125, hF, hS, h⟩
 rw [law06_begins_K1] at h
 refine esr ?_
 refine rn 3 3 [(6, sv ad124 l126 cap125), (7, .bool true)] hF fun a hF => ?_
 refine wfn rfl ?_
 refine wpIn_ret (fn_ret [.tmp 6, .tmp 7] [sv ad124 l126 cap125, .bool true] hF rfl ⟨rfl, rfl, trivial⟩ ?_)
 have hr_ := Option.some.inj h
 subst hr_
 exact ⟨_, _, rfl, St.pick [0] (by decide) hS⟩
end Go.Proofs.Ytejffembnkojjaa
