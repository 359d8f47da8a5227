/- Walks, written by program (wip/gen/dec.py). -/
import Derived.Test.YtejffembnkojjaaC12XD
import Derived.Test.YtejffembnkojjaaProg
import Derived.Test.YtejffembnkojjaaC12XW0
import Derived.Test.YtejffembnkojjaaC12XW2
import Derived.Test.YtejffembnkojjaaC12XW6
import Derived.Test.YtejffembnkojjaaC12XW7
namespace Go.Proofs.Ytejffembnkojjaa
open Go Go.RowKit Go.Eng
set_option maxRecDepth 10000
set_option maxHeartbeats 4000000
set_option linter.unusedVariables false
set_option linter.unusedSimpArgs false
theorem pplan_desk_cuts_1_1_ok {σ γ : Type} : ∀ (F : Nat) (p0 : plan_line) (c0_ : (Option plan_desk)) (c2_ : Int) (body : σ → (plan_line × Int) → Option (σ × Bool)) (s_ : σ) (res : σ × Bool × Bool) (h : pplan_desk_cuts_1_1 F p0 c0_ c2_ body s_ = some res) (l_ : Nat) (μ : Frz) (w0 w1 : World) (RC : σ → Bool → γ → List Res) (PC : σ → Bool → γ → Frz → Prop) (hPm : ∀ s b g μ ν, PC s b g μ → μ.le ν → PC s b g ν) (hy : ∀ (s : σ) (x : (plan_line × Int)) (q : σ × Bool), body s x = some q → ∀ (ν : Frz) (g : γ) (G : List Res) (w : World) (pv_1 : Option Addr) (ad_2 : Option Addr) (cap_3 : Nat) (ad_4 : Option Addr) (cap_5 : Nat), μ.ext w0.heap.size ν → FrzIn w0 ν → PC s true g ν → PtM ν 113 Rp113 pv_1 x.1.desk → ArrM ν 1 fI ad_2 cap_3 x.1.jobs → ArrM ν 1 fI ad_4 cap_5 x.1.at_ → St w0 (fz w0 ν :: (RC s true g ++ G)) w → Eng.Yields Try.prog l_ #[.agg #[.pointer pv_1, sv ad_2 x.1.jobs cap_3, sv ad_4 x.1.at_ cap_5, iv x.1.done], iv x.2] w (fun c w2 => c = q.2 ∧ ∃ ν2 g2, ν.ext w0.heap.size ν2 ∧ FrzIn w0 ν2 ∧ PC q.1 q.2 g2 ν2 ∧ St w0 (fz w0 ν2 :: (RC q.1 q.2 g2 ++ G)) w2)) (g_ : γ) (G_ : List Res) (hlow : FrzIn w0 μ) (hP : PC s_ true g_ μ) (hS : St w0 (fz w0 μ :: (RC s_ true g_ ++ G_)) w1) {cb1 : Nat} {cb2 : Nat} {cb3 : Nat} {cb4 : Nat} {pv1 : Option Addr} {ad2 : Option Addr} {cap3 : Nat} {ad4 : Option Addr} {cap5 : Nat} {pv9 : Option Addr} (hA6 : PtM μ 113 Rp113 pv1 p0.desk) (hA7 : ArrM μ 1 fI ad2 cap3 p0.jobs) (hA8 : ArrM μ 1 fI ad4 cap5 p0.at_) (hcb1 : BlkM μ cb1 100 #[.pointer pv9]) (hA10 : PtM μ 113 Rp113 pv9 c0_) (hcb2 : BlkM μ cb2 144 #[.func (.yield l_) #[] #[]]) (hcb3 : BlkM μ cb3 3 #[iv c2_]) (hcb4 : BlkM μ cb4 141 #[.func (.func 88) #[] #[pb cb1, pb cb2, pb cb3, pb cb4]]), Calls Try.prog 88 #[.agg #[.pointer pv1, sv ad2 p0.jobs cap3, sv ad4 p0.at_ cap5, iv p0.done], pb cb1, pb cb2, pb cb3, pb cb4] w1 (fun e w => ∃ (ν_ : Frz) (g2_ : γ), μ.ext w0.heap.size ν_ ∧ FrzIn w0 ν_ ∧ PC res.1 res.2.1 g2_ ν_ ∧ e = .returned (.bool res.2.2) ∧ St w0 (fz w0 ν_ :: (RC res.1 res.2.1 g2_ ++ G_)) w) := by
 intro F
 induction F with
 | zero =>
  intro p0 c0_ c2_ body s_ res h
  cases (show (none : Option (σ × Bool × Bool)) = some res from h)
 | succ F ih =>
  intro p0 c0_ c2_ body s_ res h l_ μ w0 w1 RC PC hPm hy g_ G_ hlow hP hS cb1 cb2 cb3 cb4 pv1 ad2 cap3 ad4 cap5 pv9 hA6 hA7 hA8 hcb1 hA10 hcb2 hcb3 hcb4
  replace h : pplan_desk_cuts_1_1_R F (pplan_desk_cuts_1_1 F) p0 c0_ c2_ body s_ = some res := h
  obtain ⟨self_, hself⟩ : ∃ s : plan_line → (Option plan_desk) → Int → (σ → (plan_line × Int) → Option (σ × Bool)) → σ → Option (σ × Bool × Bool), s = pplan_desk_cuts_1_1 F := ⟨_, rfl⟩
  rw [← hself, pplan_desk_cuts_1_1_R] at h
  have hext := Frz.ext_refl w0.heap.size μ
  refine fn_enterW Try.func88 rfl 50 [(0, .agg #[.pointer pv1, sv ad2 p0.jobs cap3, sv ad4 p0.at_ cap5, iv p0.done]), (1, pb cb1), (2, pb cb2), (3, pb cb3), (4, pb cb4)] rfl rfl (by kernel_rfl) fun a w hw hF => ?_
  replace hS : St w0 (fz w0 μ :: (RC s_ true g_ ++ G_)) w := by rw [hw]; exact hS
  clear hw
  refine esr ?_
  refine SK.wi (boxK (t := 102) (fun b11 => [(1, pb cb1), (2, pb cb2), (3, pb cb3), (4, pb cb4), (5, pb b11)]) (.agg #[.pointer pv1, sv ad2 p0.jobs cap3, sv ad4 p0.at_ cap5, iv p0.done]) #[.pointer pv1, sv ad2 p0.jobs cap3, sv ad4 p0.at_ cap5, iv p0.done] hF hS (by kernel_rfl) ⟨by kernel_rfl⟩ (by kernel_rfl) (fun _ => ⟨by kernel_rfl⟩) fun b11 w a hF hS => ?_)
  refine rn 1 2 [(1, pb cb1), (2, pb cb2), (3, pb cb3), (4, pb cb4), (5, pb b11)] hF fun a hF => ?_
  refine wfn rfl ?_
  have hj241 := Frz.le_refl μ
  refine ecut (fun a w => ∃ (s238 : σ) (ν237 : Frz) (g239 : γ), Fr 50 [] [] a ∧ St w0 (blk b11 102 #[.pointer pv1, sv ad2 p0.jobs cap3, sv ad4 p0.at_ cap5, iv p0.done] :: fz w0 ν237 :: (RC s238 true g239 ++ G_)) w ∧ (PC s238 true g239 ν237) ∧ (μ.le ν237) ∧ (μ.ext w0.heap.size ν237) ∧ (FrzIn w0 ν237) ∧ pplan_desk_cuts_1_1_K1 s238 = some res) ?_ ?_
  ·skip
   refine esr ?_
   replace h := bindS h
   obtain ⟨d242, hd242, h⟩ := h
   obtain ⟨b243, cs244, hp245, hB246, hR247⟩ := PtM.some hA10 hd242
   obtain ⟨ad248, cap249, ad250, cap251, ad252, cap253, css254, rfl, hA255, hA256, hA257⟩ := hR247
   try rw [hp245] at hF
   try rw [hp245] at hS
   try rw [hp245] at hB246
   try rw [hp245] at hcb1
   try rw [hp245] at hcb2
   try rw [hp245] at hcb3
   try rw [hp245] at hcb4
   refine rno 6 [.run [] (Instr.loadAt 100 (pb cb1)) (pb b243), .run [] (Instr.loadAt 40 (.pointer (some ⟨b243, 1, none⟩))) (sv ad250 d242.takes cap251)] 6 [(2, pb cb2), (3, pb cb3), (4, pb cb4), (5, pb b11), (15, iv (ln d242.takes)), (16, iv 0)] hF (ocons (ob1 (by kernel_rfl) (fun _ hd => (hcb1.blk ((hS.at_ hd).frz (i := 1) rfl hlow)).cell1 (j := 0) rfl)) (ocons (ob1 (by kernel_rfl) (fun _ hd => (hB246.blk ((hS.at_ hd).frz (i := 1) rfl hlow)).cell1 (j := 1) rfl)) onil)) fun a hF => ?_
   refine wfn rfl ?_
   refine wpIn_block ?_
   have hj400 := Frz.le_refl μ
   refine eloop (fun n_ a w => ∃ (x396 : Int) (s397 : σ) (ν395 : Frz) (g398 : γ), Fr 50 [] [(2, pb cb2), (3, pb cb3), (4, pb cb4), (5, pb b11), (15, iv (ln d242.takes)), (16, iv x396)] a ∧ St w0 (blk b11 102 #[.pointer pv1, sv ad2 p0.jobs cap3, sv ad4 p0.at_ cap5, iv p0.done] :: fz w0 ν395 :: (RC s397 true g398 ++ G_)) w ∧ (PC s397 true g398 ν395) ∧ (μ.le ν395) ∧ (μ.ext w0.heap.size ν395) ∧ (FrzIn w0 ν395) ∧ pplan_desk_cuts_1_1_L2 F body self_ p0 c2_ d242 n_ x396 s397 = some res) F ⟨0, s_, μ, g_, hF.sub (by kernel_rfl), St.pickT (A := [blk b11 102 #[.pointer pv1, sv ad2 p0.jobs cap3, sv ad4 p0.at_ cap5, iv p0.done], fz w0 μ]) (T := (RC s_ true g_ ++ G_)) [0, 1] (by decide) hS, hP, hj400, hext, hlow, h⟩ ?_
   clear hj400
   rintro n_ a w ⟨x396, s397, ν395, g398, hF, hS, hP, hle399, hext, hlow, h⟩
   rcases n_ with _ | n_
   ·cases (show (none : Option (σ × Bool × Bool)) = some res from h)
   replace hA6 := hA6.mono Rp113.mono hle399
   replace hA7 := hA7.mono hle399
   replace hA8 := hA8.mono hle399
   replace hcb1 := hcb1.mono hle399
   replace hA10 := hA10.mono Rp113.mono hle399
   replace hcb2 := hcb2.mono hle399
   replace hcb3 := hcb3.mono hle399
   replace hcb4 := hcb4.mono hle399
   replace hA255 := hA255.mono hle399
   replace hA256 := hA256.mono hle399
   replace hA257 := hA257.mono Rp40.mono hle399
   replace hB246 := hB246.mono hle399
   replace hj241 := Frz.le_trans hj241 hle399
   obtain ⟨k2, hk2⟩ : ∃ k, k = pplan_desk_cuts_1_1_L2 F body self_ p0 c2_ d242 n_ := ⟨_, rfl⟩
   replace h : pplan_desk_cuts_1_1_B2 F body self_ p0 c2_ d242 k2 x396 s397 = some res := by rw [hk2]; exact h
   rw [pplan_desk_cuts_1_1_B2] at h
   refine esr ?_
   refine rn 1 1 [(2, pb cb2), (3, pb cb3), (4, pb cb4), (5, pb b11), (15, iv (ln d242.takes)), (16, iv x396), (17, .bool (decide (x396 < (ln d242.takes))))] hF fun a hF => ?_
   refine wfn rfl ?_
   refine eseq ?_
   refine econd hF rfl (fun hc => ?_) (fun hc => ?_)
   ·replace h := bif_t h hc
    refine wpIn_skip (norm_then ?_)
    have hj436 := Frz.le_refl ν395
    refine ecut (fun a w => ∃ (s432 : σ) (ν431 : Frz) (g433 : γ), Fr 50 [] [(2, pb cb2), (3, pb cb3), (4, pb cb4), (5, pb b11), (15, iv (ln d242.takes)), (16, iv x396)] a ∧ St w0 (blk b11 102 #[.pointer pv1, sv ad2 p0.jobs cap3, sv ad4 p0.at_ cap5, iv p0.done] :: fz w0 ν431 :: (RC s432 true g433 ++ G_)) w ∧ (PC s432 true g433 ν431) ∧ (ν395.le ν431) ∧ (μ.ext w0.heap.size ν431) ∧ (FrzIn w0 ν431) ∧ pplan_desk_cuts_1_1_K3 x396 k2 s432 = some res) ?_ ?_
    ·skip
     refine wpIn_block ?_
     refine esr ?_
     refine rn 2 2 [(2, pb cb2), (3, pb cb3), (4, pb cb4), (5, pb b11), (7, iv x396), (15, iv (ln d242.takes)), (16, iv x396)] hF fun a hF => ?_
     refine wfn rfl ?_
     refine esr ?_
     refine rno 2 [.run [] (Instr.loadAt 102 (pb b11)) (.agg #[.pointer pv1, sv ad2 p0.jobs cap3, sv ad4 p0.at_ cap5, iv p0.done])] 2 [(2, pb cb2), (3, pb cb3), (4, pb cb4), (5, pb b11), (15, iv (ln d242.takes)), (16, iv x396), (19, .agg #[.pointer pv1, sv ad2 p0.jobs cap3, sv ad4 p0.at_ cap5, iv p0.done]), (20, iv x396)] hF (ocons (obN (us := [.pointer pv1, sv ad2 p0.jobs cap3, sv ad4 p0.at_ cap5, iv p0.done]) (by kernel_rfl) (fun _ hd => ((hS.at_ hd).blk (i := 0) rfl).cells rfl)) onil) fun a hF => ?_
     replace h := bindS h
     obtain ⟨y438, hy438, h⟩ := h
     refine SK.wi (callK (f := 85) (args := #[.agg #[.pointer pv1, sv ad2 p0.jobs cap3, sv ad4 p0.at_ cap5, iv p0.done], iv x396]) (R := fun v w2 => ∃ ν439 pv440 ad441 cap442 ad443 cap444, ν395.ext w.heap.size ν439 ∧ v = .agg #[.pointer pv440, sv ad441 y438.jobs cap442, sv ad443 y438.at_ cap444, iv y438.done] ∧ PtM ν439 113 Rp113 pv440 y438.desk ∧ ArrM ν439 1 fI ad441 cap442 y438.jobs ∧ ArrM ν439 1 fI ad443 cap444 y438.at_ ∧ St w [frzR w.heap.size ν439] w2) (fun v437 => [(2, pb cb2), (3, pb cb3), (4, pb cb4), (5, pb b11), (15, iv (ln d242.takes)), (16, iv x396), (21, v437)]) hF (by kernel_rfl) ⟨by kernel_rfl⟩ (Calls.mono (plan_line_add_ok F p0 x396 _ hy438 ν395 w (hS.frz (i := 1) rfl hlow) hA6 hA7 hA8) (by rintro e w2 ⟨ν439, pv440, ad441, cap442, ad443, cap444, hx448, rfl, hA445, hA446, hA447, h⟩; exact ⟨_, rfl, ν439, pv440, ad441, cap442, ad443, cap444, hx448, rfl, hA445, hA446, hA447, h⟩)) (fun _ => ⟨by kernel_rfl⟩) ?_)
     rintro v437 w a ⟨ν439, pv440, ad441, cap442, ad443, cap444, hx448, rfl, hA445, hA446, hA447, hQ⟩ hF
     replace hext := Frz.ext_trans hext (Frz.ext_mono hx448 hS.ext.size)
     obtain ⟨hlow, hS⟩ := hS.frzMerge (i := 1) rfl hlow hx448 hQ
     replace hA6 := hA6.mono Rp113.mono hx448.1
     replace hA7 := hA7.mono hx448.1
     replace hA8 := hA8.mono hx448.1
     replace hcb1 := hcb1.mono hx448.1
     replace hA10 := hA10.mono Rp113.mono hx448.1
     replace hcb2 := hcb2.mono hx448.1
     replace hcb3 := hcb3.mono hx448.1
     replace hcb4 := hcb4.mono hx448.1
     replace hP := hPm _ _ _ _ _ hP hx448.1
     replace hA255 := hA255.mono hx448.1
     replace hA256 := hA256.mono hx448.1
     replace hA257 := hA257.mono Rp40.mono hx448.1
     replace hB246 := hB246.mono hx448.1
     replace hj241 := Frz.le_trans hj241 hx448.1
     replace hle399 := Frz.le_trans hle399 hx448.1
     replace hj436 := Frz.le_trans hj436 hx448.1
     replace hS : St w0 (blk b11 102 #[.pointer pv1, sv ad2 p0.jobs cap3, sv ad4 p0.at_ cap5, iv p0.done] :: fz w0 ν439 :: (RC s397 true g398 ++ G_)) w := hS
     refine SK.wi (allocK (t := 102) (fun b449 => [(2, pb cb2), (3, pb cb3), (4, pb cb4), (5, pb b11), (8, pb b449), (15, iv (ln d242.takes)), (16, iv x396), (21, .agg #[.pointer pv440, sv ad441 y438.jobs cap442, sv ad443 y438.at_ cap444, iv y438.done])]) #[.pointer none, .slice none 0 0, .slice none 0 0, iv 0] hF hS (by kernel_rfl) ⟨by kernel_rfl⟩ (by kernel_rfl) (fun _ => ⟨by kernel_rfl⟩) fun b449 w a hF hS => ?_)
     refine SK.wi (storeK (t := 102) [(2, pb cb2), (3, pb cb3), (4, pb cb4), (5, pb b11), (8, pb b449), (15, iv (ln d242.takes)), (16, iv x396)] 0 0 (.agg #[.pointer pv440, sv ad441 y438.jobs cap442, sv ad443 y438.at_ cap444, iv y438.done]) #[.pointer pv440, sv ad441 y438.jobs cap442, sv ad443 y438.at_ cap444, iv y438.done] hF hS rfl (by kernel_rfl) ⟨by kernel_rfl⟩ (by kernel_rfl) (by kernel_rfl) (by kernel_rfl) (by kernel_rfl) ⟨by kernel_rfl⟩ fun w a hF hS => ?_)
     refine wfn rfl ?_
     refine esr ?_
     replace h := bindS h
     obtain ⟨y450, hy450, h⟩ := h
     refine rx 7 [.run [] (Instr.loadAt 102 (pb b449)) (.agg #[.pointer pv440, sv ad441 y438.jobs cap442, sv ad443 y438.at_ cap444, iv y438.done]), .call [] 86 #[.agg #[.pointer pv440, sv ad441 y438.jobs cap442, sv ad443 y438.at_ cap444, iv y438.done]] (.tuple #[iv y450.1, .bool y450.2])] 7 [(2, pb cb2), (3, pb cb3), (4, pb cb4), (5, pb b11), (8, pb b449), (9, iv y450.1), (10, .bool y450.2), (15, iv (ln d242.takes)), (16, iv x396)] hF (ocons (obN (us := [.pointer pv440, sv ad441 y438.jobs cap442, sv ad443 y438.at_ cap444, iv y438.done]) (by kernel_rfl) (fun _ hd => ((hS.later hd).blk (i := 0) rfl).cells rfl)) (ocons (show Ob.ok _ Ext _ _ from fun hk w2 hd => plan_line_first_ok F y438 _ ((fun _ => hy450) hk) _ w2 (memOf_at w2) (hA445.mono Rp113.mono (FrzAt.le_mem ((hS.later hd).frz (i := 2) rfl hlow))) (hA446.mono (FrzAt.le_mem ((hS.later hd).frz (i := 2) rfl hlow))) (hA447.mono (FrzAt.le_mem ((hS.later hd).frz (i := 2) rfl hlow)))) onil)) fun a w hF hx => ?_
     replace hS := hS.later hx
     refine wfn rfl ?_
     refine wpIn_block ?_
     refine esr ?_
     refine rn 2 2 [(2, pb cb2), (3, pb cb3), (4, pb cb4), (5, pb b11), (8, pb b449), (9, iv y450.1), (15, iv (ln d242.takes)), (16, iv x396), (27, .bool y450.2)] hF fun a hF => ?_
     refine wfn rfl ?_
     refine econd hF rfl (fun hc => ?_) (fun hc => ?_)
     ·replace h := bif_t h hc
      refine esr ?_
      refine rno 3 [.run [] (Instr.loadAt 144 (pb cb2)) (.func (.yield l_) #[] #[]), .run [] (Instr.loadAt 102 (pb b449)) (.agg #[.pointer pv440, sv ad441 y438.jobs cap442, sv ad443 y438.at_ cap444, iv y438.done])] 3 [(2, pb cb2), (3, pb cb3), (4, pb cb4), (5, pb b11), (15, iv (ln d242.takes)), (16, iv x396), (29, .func (.yield l_) #[] #[]), (30, .agg #[.pointer pv440, sv ad441 y438.jobs cap442, sv ad443 y438.at_ cap444, iv y438.done]), (31, iv y450.1)] hF (ocons (ob1 (by kernel_rfl) (fun _ hd => (hcb2.blk ((hS.at_ hd).frz (i := 2) rfl hlow)).cell1 (j := 0) rfl)) (ocons (obN (us := [.pointer pv440, sv ad441 y438.jobs cap442, sv ad443 y438.at_ cap444, iv y438.done]) (by kernel_rfl) (fun _ hd => ((hS.at_ hd).blk (i := 0) rfl).cells rfl)) onil)) fun a hF => ?_
      replace h := bindS h
      obtain ⟨q451, hq451, h⟩ := h
      refine yield_ (l := l_) (args := #[.agg #[.pointer pv440, sv ad441 y438.jobs cap442, sv ad443 y438.at_ cap444, iv y438.done], iv y450.1]) 4 (fun bq_ => [(2, pb cb2), (3, pb cb3), (4, pb cb4), (5, pb b11), (15, iv (ln d242.takes)), (16, iv x396), (32, .bool bq_)]) hF (by kernel_rfl) ⟨by kernel_rfl⟩ (hy s397 (y438, y450.1) q451 hq451 ν439 g398 (G_ ++ [blk b449 102 #[.pointer pv440, sv ad441 y438.jobs cap442, sv ad443 y438.at_ cap444, iv y438.done], blk b11 102 #[.pointer pv1, sv ad2 p0.jobs cap3, sv ad4 p0.at_ cap5, iv p0.done]]) w pv440 ad441 cap442 ad443 cap444 hext hlow hP hA445 hA446 hA447 (St.rot [blk b449 102 #[.pointer pv440, sv ad441 y438.jobs cap442, sv ad443 y438.at_ cap444, iv y438.done], blk b11 102 #[.pointer pv1, sv ad2 p0.jobs cap3, sv ad4 p0.at_ cap5, iv p0.done]] hS)) (fun _ => ⟨by kernel_rfl⟩) rfl ?_
      rintro bq_ w a ⟨hc_, ν452, g453, hx454, hlow, hP, hS⟩ hF
      subst hc_
      replace hS := St.unrot [blk b449 102 #[.pointer pv440, sv ad441 y438.jobs cap442, sv ad443 y438.at_ cap444, iv y438.done], blk b11 102 #[.pointer pv1, sv ad2 p0.jobs cap3, sv ad4 p0.at_ cap5, iv p0.done]] hS
      replace hext := Frz.ext_trans hext hx454
      replace hA6 := hA6.mono Rp113.mono hx454.1
      replace hA7 := hA7.mono hx454.1
      replace hA8 := hA8.mono hx454.1
      replace hcb1 := hcb1.mono hx454.1
      replace hA10 := hA10.mono Rp113.mono hx454.1
      replace hcb2 := hcb2.mono hx454.1
      replace hcb3 := hcb3.mono hx454.1
      replace hcb4 := hcb4.mono hx454.1
      replace hA255 := hA255.mono hx454.1
      replace hA256 := hA256.mono hx454.1
      replace hA257 := hA257.mono Rp40.mono hx454.1
      replace hB246 := hB246.mono hx454.1
      replace hA445 := hA445.mono Rp113.mono hx454.1
      replace hA446 := hA446.mono hx454.1
      replace hA447 := hA447.mono hx454.1
      replace hj241 := Frz.le_trans hj241 hx454.1
      replace hle399 := Frz.le_trans hle399 hx454.1
      replace hj436 := Frz.le_trans hj436 hx454.1
      replace hS : St w0 (blk b449 102 #[.pointer pv440, sv ad441 y438.jobs cap442, sv ad443 y438.at_ cap444, iv y438.done] :: blk b11 102 #[.pointer pv1, sv ad2 p0.jobs cap3, sv ad4 p0.at_ cap5, iv p0.done] :: fz w0 ν452 :: (RC q451.1 (q451.2) g453 ++ G_)) w := hS
      rcases Bool.eq_false_or_eq_true (q451.2) with hb455 | hb455
      ·replace h := bif_t h hb455
       rw [hb455] at hS hP
       rw [hb455] at hF
       replace hS : St w0 (blk b449 102 #[.pointer pv440, sv ad441 y438.jobs cap442, sv ad443 y438.at_ cap444, iv y438.done] :: blk b11 102 #[.pointer pv1, sv ad2 p0.jobs cap3, sv ad4 p0.at_ cap5, iv p0.done] :: fz w0 ν452 :: (RC q451.1 true g453 ++ G_)) w := hS
       refine rn 1 5 [(2, pb cb2), (3, pb cb3), (4, pb cb4), (5, pb b11), (15, iv (ln d242.takes)), (16, iv x396), (33, .bool false)] hF fun a hF => ?_
       refine wfn rfl ?_
       refine wpIn_cond_false (hF.get rfl) ?_
       refine wpIn_skip (norm_block <| norm_block <| norm_then <| ?_)
       exact ⟨q451.1, ν452, g453, hF.sub (by kernel_rfl), St.pickT (A := [blk b449 102 #[.pointer pv440, sv ad441 y438.jobs cap442, sv ad443 y438.at_ cap444, iv y438.done], blk b11 102 #[.pointer pv1, sv ad2 p0.jobs cap3, sv ad4 p0.at_ cap5, iv p0.done], fz w0 ν452]) (T := (RC q451.1 true g453 ++ G_)) [1, 2] (by decide) hS, hP, hj436, hext, hlow, h⟩
      ·replace h := bif_f h hb455
       rw [hb455] at hS hP
       rw [hb455] at hF
       replace hS : St w0 (blk b449 102 #[.pointer pv440, sv ad441 y438.jobs cap442, sv ad443 y438.at_ cap444, iv y438.done] :: blk b11 102 #[.pointer pv1, sv ad2 p0.jobs cap3, sv ad4 p0.at_ cap5, iv p0.done] :: fz w0 ν452 :: (RC q451.1 false g453 ++ G_)) w := hS
       refine rn 1 5 [(2, pb cb2), (3, pb cb3), (4, pb cb4), (5, pb b11), (15, iv (ln d242.takes)), (16, iv x396), (33, .bool true)] hF fun a hF => ?_
       refine wfn rfl ?_
       refine wpIn_cond_true (hF.get rfl) ?_
       refine esr ?_
       refine rn 1 1 [(6, .bool false)] hF fun a hF => ?_
       refine wfn rfl ?_
       refine wpIn_ret (ret_block <| ret_block <| ret_then <| ret_then <| ret_block <| ret_then <| fn_ret [.tmp 6] [.bool false] hF rfl ⟨rfl, trivial⟩ ?_)
       have hr_ := Option.some.inj h
       subst hr_
       exact ⟨ν452, g453, hext, hlow, hP, rfl, hS.drop1.drop1⟩
     ·replace h := bif_f h hc
      refine esr ?_
      refine rno 6 [.run [] (Instr.loadAt 40 (.pointer (some ⟨b449, 1, none⟩))) (sv ad441 y438.jobs cap442), .run [] (Instr.loadAt 3 (pb cb3)) (iv c2_)] 6 [(2, pb cb2), (3, pb cb3), (4, pb cb4), (5, pb b11), (8, pb b449), (15, iv (ln d242.takes)), (16, iv x396), (34, .bool ((ln y438.jobs) == c2_))] hF (ocons (ob1 (by kernel_rfl) (fun _ hd => (hS.at_ hd).cell (i := 0) (j := 1) rfl rfl)) (ocons (ob1 (by kernel_rfl) (fun _ hd => (hcb3.blk ((hS.at_ hd).frz (i := 2) rfl hlow)).cell1 (j := 0) rfl)) onil)) fun a hF => ?_
      refine wfn rfl ?_
      refine econd hF rfl (fun hc => ?_) (fun hc => ?_)
      ·replace h := bif_t h hc
       refine esr ?_
       refine rno 2 [.run [] (Instr.loadAt 144 (pb cb2)) (.func (.yield l_) #[] #[]), .run [] (Instr.loadAt 102 (pb b449)) (.agg #[.pointer pv440, sv ad441 y438.jobs cap442, sv ad443 y438.at_ cap444, iv y438.done])] 2 [(2, pb cb2), (3, pb cb3), (4, pb cb4), (5, pb b11), (15, iv (ln d242.takes)), (16, iv x396), (40, .func (.yield l_) #[] #[]), (41, .agg #[.pointer pv440, sv ad441 y438.jobs cap442, sv ad443 y438.at_ cap444, iv y438.done])] hF (ocons (ob1 (by kernel_rfl) (fun _ hd => (hcb2.blk ((hS.at_ hd).frz (i := 2) rfl hlow)).cell1 (j := 0) rfl)) (ocons (obN (us := [.pointer pv440, sv ad441 y438.jobs cap442, sv ad443 y438.at_ cap444, iv y438.done]) (by kernel_rfl) (fun _ hd => ((hS.at_ hd).blk (i := 0) rfl).cells rfl)) onil)) fun a hF => ?_
       replace h := bindS h
       obtain ⟨q456, hq456, h⟩ := h
       refine yield_ (l := l_) (args := #[.agg #[.pointer pv440, sv ad441 y438.jobs cap442, sv ad443 y438.at_ cap444, iv y438.done], iv (-1)]) 3 (fun bq_ => [(2, pb cb2), (3, pb cb3), (4, pb cb4), (5, pb b11), (15, iv (ln d242.takes)), (16, iv x396), (42, .bool bq_)]) hF (by kernel_rfl) ⟨by kernel_rfl⟩ (hy s397 (y438, -1) q456 hq456 ν439 g398 (G_ ++ [blk b449 102 #[.pointer pv440, sv ad441 y438.jobs cap442, sv ad443 y438.at_ cap444, iv y438.done], blk b11 102 #[.pointer pv1, sv ad2 p0.jobs cap3, sv ad4 p0.at_ cap5, iv p0.done]]) w pv440 ad441 cap442 ad443 cap444 hext hlow hP hA445 hA446 hA447 (St.rot [blk b449 102 #[.pointer pv440, sv ad441 y438.jobs cap442, sv ad443 y438.at_ cap444, iv y438.done], blk b11 102 #[.pointer pv1, sv ad2 p0.jobs cap3, sv ad4 p0.at_ cap5, iv p0.done]] hS)) (fun _ => ⟨by kernel_rfl⟩) rfl ?_
       rintro bq_ w a ⟨hc_, ν457, g458, hx459, hlow, hP, hS⟩ hF
       subst hc_
       replace hS := St.unrot [blk b449 102 #[.pointer pv440, sv ad441 y438.jobs cap442, sv ad443 y438.at_ cap444, iv y438.done], blk b11 102 #[.pointer pv1, sv ad2 p0.jobs cap3, sv ad4 p0.at_ cap5, iv p0.done]] hS
       replace hext := Frz.ext_trans hext hx459
       replace hA6 := hA6.mono Rp113.mono hx459.1
       replace hA7 := hA7.mono hx459.1
       replace hA8 := hA8.mono hx459.1
       replace hcb1 := hcb1.mono hx459.1
       replace hA10 := hA10.mono Rp113.mono hx459.1
       replace hcb2 := hcb2.mono hx459.1
       replace hcb3 := hcb3.mono hx459.1
       replace hcb4 := hcb4.mono hx459.1
       replace hA255 := hA255.mono hx459.1
       replace hA256 := hA256.mono hx459.1
       replace hA257 := hA257.mono Rp40.mono hx459.1
       replace hB246 := hB246.mono hx459.1
       replace hA445 := hA445.mono Rp113.mono hx459.1
       replace hA446 := hA446.mono hx459.1
       replace hA447 := hA447.mono hx459.1
       replace hj241 := Frz.le_trans hj241 hx459.1
       replace hle399 := Frz.le_trans hle399 hx459.1
       replace hj436 := Frz.le_trans hj436 hx459.1
       replace hS : St w0 (blk b449 102 #[.pointer pv440, sv ad441 y438.jobs cap442, sv ad443 y438.at_ cap444, iv y438.done] :: blk b11 102 #[.pointer pv1, sv ad2 p0.jobs cap3, sv ad4 p0.at_ cap5, iv p0.done] :: fz w0 ν457 :: (RC q456.1 (q456.2) g458 ++ G_)) w := hS
       rcases Bool.eq_false_or_eq_true (q456.2) with hb460 | hb460
       ·replace h := bif_t h hb460
        rw [hb460] at hS hP
        rw [hb460] at hF
        replace hS : St w0 (blk b449 102 #[.pointer pv440, sv ad441 y438.jobs cap442, sv ad443 y438.at_ cap444, iv y438.done] :: blk b11 102 #[.pointer pv1, sv ad2 p0.jobs cap3, sv ad4 p0.at_ cap5, iv p0.done] :: fz w0 ν457 :: (RC q456.1 true g458 ++ G_)) w := hS
        refine rn 1 4 [(2, pb cb2), (3, pb cb3), (4, pb cb4), (5, pb b11), (15, iv (ln d242.takes)), (16, iv x396), (43, .bool false)] hF fun a hF => ?_
        refine wfn rfl ?_
        refine wpIn_cond_false (hF.get rfl) ?_
        refine wpIn_skip (norm_block <| norm_block <| norm_then <| ?_)
        exact ⟨q456.1, ν457, g458, hF.sub (by kernel_rfl), St.pickT (A := [blk b449 102 #[.pointer pv440, sv ad441 y438.jobs cap442, sv ad443 y438.at_ cap444, iv y438.done], blk b11 102 #[.pointer pv1, sv ad2 p0.jobs cap3, sv ad4 p0.at_ cap5, iv p0.done], fz w0 ν457]) (T := (RC q456.1 true g458 ++ G_)) [1, 2] (by decide) hS, hP, hj436, hext, hlow, h⟩
       ·replace h := bif_f h hb460
        rw [hb460] at hS hP
        rw [hb460] at hF
        replace hS : St w0 (blk b449 102 #[.pointer pv440, sv ad441 y438.jobs cap442, sv ad443 y438.at_ cap444, iv y438.done] :: blk b11 102 #[.pointer pv1, sv ad2 p0.jobs cap3, sv ad4 p0.at_ cap5, iv p0.done] :: fz w0 ν457 :: (RC q456.1 false g458 ++ G_)) w := hS
        refine rn 1 4 [(2, pb cb2), (3, pb cb3), (4, pb cb4), (5, pb b11), (15, iv (ln d242.takes)), (16, iv x396), (43, .bool true)] hF fun a hF => ?_
        refine wfn rfl ?_
        refine wpIn_cond_true (hF.get rfl) ?_
        refine esr ?_
        refine rn 1 1 [(6, .bool false)] hF fun a hF => ?_
        refine wfn rfl ?_
        refine wpIn_ret (ret_block <| ret_block <| ret_then <| ret_then <| ret_block <| ret_then <| fn_ret [.tmp 6] [.bool false] hF rfl ⟨rfl, trivial⟩ ?_)
        have hr_ := Option.some.inj h
        subst hr_
        exact ⟨ν457, g458, hext, hlow, hP, rfl, hS.drop1.drop1⟩
      ·replace h := bif_f h hc
       refine esr ?_
       refine rno 2 [.run [] (Instr.loadAt 141 (pb cb4)) (.func (.func 88) #[] #[pb cb1, pb cb2, pb cb3, pb cb4]), .run [] (Instr.loadAt 102 (pb b449)) (.agg #[.pointer pv440, sv ad441 y438.jobs cap442, sv ad443 y438.at_ cap444, iv y438.done])] 2 [(2, pb cb2), (3, pb cb3), (4, pb cb4), (5, pb b11), (15, iv (ln d242.takes)), (16, iv x396), (45, .func (.func 88) #[] #[pb cb1, pb cb2, pb cb3, pb cb4]), (46, .agg #[.pointer pv440, sv ad441 y438.jobs cap442, sv ad443 y438.at_ cap444, iv y438.done])] hF (ocons (ob1 (by kernel_rfl) (fun _ hd => (hcb4.blk ((hS.at_ hd).frz (i := 2) rfl hlow)).cell1 (j := 0) rfl)) (ocons (obN (us := [.pointer pv440, sv ad441 y438.jobs cap442, sv ad443 y438.at_ cap444, iv y438.done]) (by kernel_rfl) (fun _ hd => ((hS.at_ hd).blk (i := 0) rfl).cells rfl)) onil)) fun a hF => ?_
       replace h := bindS h
       obtain ⟨y461, hy461, h⟩ := h
       refine SK.wi (callK (f := 88) (args := #[.agg #[.pointer pv440, sv ad441 y438.jobs cap442, sv ad443 y438.at_ cap444, iv y438.done], pb cb1, pb cb2, pb cb3, pb cb4]) (R := fun v w2 => ∃ (ν_ : Frz) (g2_ : γ), ν439.ext w0.heap.size ν_ ∧ FrzIn w0 ν_ ∧ PC y461.1 y461.2.1 g2_ ν_ ∧ v = .bool y461.2.2 ∧ St w0 (fz w0 ν_ :: (RC y461.1 y461.2.1 g2_ ++ (G_ ++ [blk b449 102 #[.pointer pv440, sv ad441 y438.jobs cap442, sv ad443 y438.at_ cap444, iv y438.done], blk b11 102 #[.pointer pv1, sv ad2 p0.jobs cap3, sv ad4 p0.at_ cap5, iv p0.done]]))) w2) (fun v465 => [(2, pb cb2), (3, pb cb3), (4, pb cb4), (5, pb b11), (15, iv (ln d242.takes)), (16, iv x396), (47, v465)]) hF (by kernel_rfl) ⟨by kernel_rfl⟩ (Calls.mono (ih y438 (some d242) c2_ body s397 _ (by rw [← hself]; exact hy461) l_ ν439 w0 w RC PC hPm (fun s x q hb ν g G w a0_ a1_ a2_ a3_ a4_ hx => hy s x q hb ν g G w a0_ a1_ a2_ a3_ a4_ (Frz.ext_trans hext hx)) g398 (G_ ++ [blk b449 102 #[.pointer pv440, sv ad441 y438.jobs cap442, sv ad443 y438.at_ cap444, iv y438.done], blk b11 102 #[.pointer pv1, sv ad2 p0.jobs cap3, sv ad4 p0.at_ cap5, iv p0.done]]) hlow hP (St.rot [blk b449 102 #[.pointer pv440, sv ad441 y438.jobs cap442, sv ad443 y438.at_ cap444, iv y438.done], blk b11 102 #[.pointer pv1, sv ad2 p0.jobs cap3, sv ad4 p0.at_ cap5, iv p0.done]] hS) hA445 hA446 hA447 hcb1 (PtM.mk (cs := [sv ad248 d242.jobs cap249, sv ad250 d242.takes cap251, sv ad252 d242.moves cap253]) hB246 ⟨ad248, cap249, ad250, cap251, ad252, cap253, css254, rfl, hA255, hA256, hA257⟩) hcb2 hcb3 hcb4) (by rintro e w2 ⟨n1, n2, n3, n4, n5, rfl, n6⟩; exact ⟨_, rfl, n1, n2, n3, n4, n5, rfl, n6⟩)) (fun _ => ⟨by kernel_rfl⟩) ?_)
       rintro v465 w a ⟨ν462, g463, hx464, hlow, hP, rfl, hS⟩ hF
       replace hS := St.unrot [blk b449 102 #[.pointer pv440, sv ad441 y438.jobs cap442, sv ad443 y438.at_ cap444, iv y438.done], blk b11 102 #[.pointer pv1, sv ad2 p0.jobs cap3, sv ad4 p0.at_ cap5, iv p0.done]] hS
       replace hext := Frz.ext_trans hext hx464
       replace hA6 := hA6.mono Rp113.mono hx464.1
       replace hA7 := hA7.mono hx464.1
       replace hA8 := hA8.mono hx464.1
       replace hcb1 := hcb1.mono hx464.1
       replace hA10 := hA10.mono Rp113.mono hx464.1
       replace hcb2 := hcb2.mono hx464.1
       replace hcb3 := hcb3.mono hx464.1
       replace hcb4 := hcb4.mono hx464.1
       replace hA255 := hA255.mono hx464.1
       replace hA256 := hA256.mono hx464.1
       replace hA257 := hA257.mono Rp40.mono hx464.1
       replace hB246 := hB246.mono hx464.1
       replace hA445 := hA445.mono Rp113.mono hx464.1
       replace hA446 := hA446.mono hx464.1
       replace hA447 := hA447.mono hx464.1
       replace hj241 := Frz.le_trans hj241 hx464.1
       replace hle399 := Frz.le_trans hle399 hx464.1
       replace hj436 := Frz.le_trans hj436 hx464.1
       replace hS : St w0 (blk b449 102 #[.pointer pv440, sv ad441 y438.jobs cap442, sv ad443 y438.at_ cap444, iv y438.done] :: blk b11 102 #[.pointer pv1, sv ad2 p0.jobs cap3, sv ad4 p0.at_ cap5, iv p0.done] :: fz w0 ν462 :: (RC y461.1 (y461.2.1) g463 ++ G_)) w := hS
       rcases Bool.eq_false_or_eq_true (y461.2.1) with hb466 | hb466
       ·replace h := bif_t h hb466
        rw [hb466] at hS hP
        replace hS : St w0 (blk b449 102 #[.pointer pv440, sv ad441 y438.jobs cap442, sv ad443 y438.at_ cap444, iv y438.done] :: blk b11 102 #[.pointer pv1, sv ad2 p0.jobs cap3, sv ad4 p0.at_ cap5, iv p0.done] :: fz w0 ν462 :: (RC y461.1 true g463 ++ G_)) w := hS
        refine rn 2 5 [(2, pb cb2), (3, pb cb3), (4, pb cb4), (5, pb b11), (15, iv (ln d242.takes)), (16, iv x396), (44, .bool (!y461.2.2))] hF fun a hF => ?_
        refine wfn rfl ?_
        refine econd hF rfl (fun hc => ?_) (fun hc => ?_)
        ·replace h := bif_t h hc
         refine esr ?_
         refine rn 1 1 [(6, .bool false)] hF fun a hF => ?_
         refine wfn rfl ?_
         refine wpIn_ret (ret_block <| ret_block <| ret_then <| ret_then <| ret_block <| ret_then <| fn_ret [.tmp 6] [.bool false] hF rfl ⟨rfl, trivial⟩ ?_)
         have hr_ := Option.some.inj h
         subst hr_
         exact ⟨ν462, g463, hext, hlow, hP, rfl, hS.drop1.drop1⟩
        ·replace h := bif_f h hc
         refine wpIn_skip (norm_block <| norm_block <| norm_then <| ?_)
         exact ⟨y461.1, ν462, g463, hF.sub (by kernel_rfl), St.pickT (A := [blk b449 102 #[.pointer pv440, sv ad441 y438.jobs cap442, sv ad443 y438.at_ cap444, iv y438.done], blk b11 102 #[.pointer pv1, sv ad2 p0.jobs cap3, sv ad4 p0.at_ cap5, iv p0.done], fz w0 ν462]) (T := (RC y461.1 true g463 ++ G_)) [1, 2] (by decide) hS, hP, hj436, hext, hlow, h⟩
       ·replace h := bif_f h hb466
        rw [hb466] at hS hP
        replace hS : St w0 (blk b449 102 #[.pointer pv440, sv ad441 y438.jobs cap442, sv ad443 y438.at_ cap444, iv y438.done] :: blk b11 102 #[.pointer pv1, sv ad2 p0.jobs cap3, sv ad4 p0.at_ cap5, iv p0.done] :: fz w0 ν462 :: (RC y461.1 false g463 ++ G_)) w := hS
        refine rn 2 5 [(2, pb cb2), (3, pb cb3), (4, pb cb4), (5, pb b11), (15, iv (ln d242.takes)), (16, iv x396), (44, .bool (!y461.2.2))] hF fun a hF => ?_
        refine wfn rfl ?_
        refine econd hF rfl (fun hc => ?_) (fun hc => ?_)
        ·replace h := bif_t h hc
         refine esr ?_
         refine rn 1 1 [(6, .bool false)] hF fun a hF => ?_
         refine wfn rfl ?_
         refine wpIn_ret (ret_block <| ret_block <| ret_then <| ret_then <| ret_block <| ret_then <| fn_ret [.tmp 6] [.bool false] hF rfl ⟨rfl, trivial⟩ ?_)
         have hr_ := Option.some.inj h
         subst hr_
         exact ⟨ν462, g463, hext, hlow, hP, rfl, hS.drop1.drop1⟩
        ·replace h := bif_f h hc
         refine wpIn_skip (norm_block <| norm_block <| norm_then <| ?_)
         cases h
    clear hj436
    rintro a w ⟨s432, ν431, g433, hF, hS, hP, hle434, hext, hlow, h⟩
    replace hA6 := hA6.mono Rp113.mono hle434
    replace hA7 := hA7.mono hle434
    replace hA8 := hA8.mono hle434
    replace hcb1 := hcb1.mono hle434
    replace hA10 := hA10.mono Rp113.mono hle434
    replace hcb2 := hcb2.mono hle434
    replace hcb3 := hcb3.mono hle434
    replace hcb4 := hcb4.mono hle434
    replace hA255 := hA255.mono hle434
    replace hA256 := hA256.mono hle434
    replace hA257 := hA257.mono Rp40.mono hle434
    replace hB246 := hB246.mono hle434
    replace hj241 := Frz.le_trans hj241 hle434
    replace hle399 := Frz.le_trans hle399 hle434
    rw [pplan_desk_cuts_1_1_K3] at h
    refine WI.region ?_
    replace h := bindS h
    obtain ⟨x435, hx435, h⟩ := h
    refine rno 2 [.run [] (binOp .add 3 (iv x396) (iv 1)) (iv x435)] 2 [(2, pb cb2), (3, pb cb3), (4, pb cb4), (5, pb b11), (15, iv (ln d242.takes)), (16, iv x435)] hF (ocons (obAddC (fun _ => hx435)) onil) fun a hF => ?_
    refine wfn rfl ?_
    rw [hk2] at h
    exact ⟨n_, Nat.lt_succ_self _, x435, s432, ν431, g433, hF.sub (by kernel_rfl), St.pickT (A := [blk b11 102 #[.pointer pv1, sv ad2 p0.jobs cap3, sv ad4 p0.at_ cap5, iv p0.done], fz w0 ν431]) (T := (RC s432 true g433 ++ G_)) [0, 1] (by decide) hS, hP, hle399, hext, hlow, h⟩
   ·replace h := bif_f h hc
    refine wpIn_exit (exit_then <| exit_then <| exit_hit <| norm_then ?_)
    try simp only [pb, ← hp245] at hF
    try simp only [pb, ← hp245] at hS
    exact ⟨s397, ν395, g398, hF.sub (by kernel_rfl), St.pickT (A := [blk b11 102 #[.pointer pv1, sv ad2 p0.jobs cap3, sv ad4 p0.at_ cap5, iv p0.done], fz w0 ν395]) (T := (RC s397 true g398 ++ G_)) [0, 1] (by decide) hS, hP, hj241, hext, hlow, h⟩
  clear hj241
  rintro a w ⟨s238, ν237, g239, hF, hS, hP, hle240, hext, hlow, h⟩
  replace hA6 := hA6.mono Rp113.mono hle240
  replace hA7 := hA7.mono hle240
  replace hA8 := hA8.mono hle240
  replace hcb1 := hcb1.mono hle240
  replace hA10 := hA10.mono Rp113.mono hle240
  replace hcb2 := hcb2.mono hle240
  replace hcb3 := hcb3.mono hle240
  replace hcb4 := hcb4.mono hle240
  rw [pplan_desk_cuts_1_1_K1] at h
  refine esr ?_
  refine rn 1 1 [(6, .bool true)] hF fun a hF => ?_
  refine wfn rfl ?_
  refine wpIn_ret (fn_ret [.tmp 6] [.bool true] hF rfl ⟨rfl, trivial⟩ ?_)
  have hr_ := Option.some.inj h
  subst hr_
  exact ⟨ν237, g239, hext, hlow, hP, rfl, hS.drop1⟩

theorem law06_kept_ok (F : Nat) (p0 : plan_Radar) (p1 : (List plan_Job)) (p2 : (List Int)) (res : Bool) (h : law06_kept F p0 p1 p2 = some res) (μ : Frz) (w0 : World) (hm : FrzAt μ w0) {ad1 : Option Addr} {cap2 : Nat} {ad4 : Option Addr} {cap5 : Nat} (hA3 : ArrM μ 8 plan_Job.cells ad1 cap2 p1) (hA6 : ArrM μ 1 fI ad4 cap5 p2) : Calls Try.prog 41 #[p0.ag, sv ad1 p1 cap2, sv ad4 p2 cap5] w0 (fun e w => e = .returned (.bool res) ∧ Ext w0 w) := by
 obtain ⟨hlow, hS⟩ := hm.init
 have hext := Frz.ext_refl w0.heap.size μ
 rw [law06_kept] at h
 refine fn_enterW Try.func41 rfl 29 [(0, p0.ag), (1, sv ad1 p1 cap2), (2, sv ad4 p2 cap5)] rfl rfl (by kernel_rfl) fun a w hw hF => ?_
 replace hS : St w0 [fz w0 μ] w := by rw [hw]; exact hS
 clear hw
 refine esr ?_
 refine SK.wi (boxK (t := 31) (fun b7 => [(1, sv ad1 p1 cap2), (2, sv ad4 p2 cap5), (3, pb b7)]) (p0.ag) p0.ar hF hS (by kernel_rfl) ⟨by kernel_rfl⟩ (by kernel_rfl) (fun _ => ⟨by kernel_rfl⟩) fun b7 w a hF hS => ?_)
 refine rn 1 2 [(1, sv ad1 p1 cap2), (2, sv ad4 p2 cap5), (3, pb b7)] hF fun a hF => ?_
 refine wfn rfl ?_
 refine esr ?_
 refine rno 3 [.run [] (Instr.loadAt 31 (pb b7)) (p0.ag)] 3 [(12, p0.ag), (13, sv ad1 p1 cap2), (14, sv ad4 p2 cap5)] hF (ocons (obN (us := p0.cells) (by kernel_rfl) (fun _ hd => ((hS.at_ hd).blk (i := 0) rfl).cells rfl)) onil) fun a hF => ?_
 replace h := bindS h
 obtain ⟨y9, hy9, h⟩ := h
 refine SK.wi (callK (f := 18) (args := #[p0.ag, sv ad1 p1 cap2, sv ad4 p2 cap5]) (R := fun v w2 => ∃ ν10 ad11 cap12, μ.ext w.heap.size ν10 ∧ v = .tuple #[sv ad11 y9.1 cap12, iv y9.2] ∧ ArrM ν10 1 fI ad11 cap12 y9.1 ∧ St w [frzR w.heap.size ν10] w2) (fun v8 => [(15, v8)]) hF (by kernel_rfl) ⟨by kernel_rfl⟩ (Calls.mono (plan_Judge_ok F p0 p1 p2 _ hy9 μ w (hS.frz (i := 1) rfl hlow) hA3 hA6) (by rintro e w2 ⟨ν10, ad11, cap12, hx14, rfl, hA13, h⟩; exact ⟨_, rfl, ν10, ad11, cap12, hx14, rfl, hA13, h⟩)) (fun _ => ⟨by kernel_rfl⟩) ?_)
 rintro v8 w a ⟨ν10, ad11, cap12, hx14, rfl, hA13, hQ⟩ hF
 replace hext := Frz.ext_trans hext (Frz.ext_mono hx14 hS.ext.size)
 obtain ⟨hlow, hS⟩ := hS.frzMerge (i := 1) rfl hlow hx14 hQ
 replace hA3 := hA3.mono hx14.1
 replace hA6 := hA6.mono hx14.1
 replace hS : St w0 [blk b7 31 p0.ar, fz w0 ν10] w := hS
 refine rn 5 9 [(7, sv ad11 y9.1 cap12), (8, iv y9.2)] hF fun a hF => ?_
 refine wfn rfl ?_
 refine ecut (fun a w => Fr 29 [] [(8, iv y9.2)] a ∧ St w0 [blk b7 31 p0.ar, fz w0 ν10] w ∧ law06_kept_K1 y9 = some res) ?_ ?_
 ·skip
  refine esr ?_
  refine rn 3 3 [(8, iv y9.2), (18, sv ad11 y9.1 cap12), (19, iv (ln y9.1)), (20, iv 0)] hF fun a hF => ?_
  refine wfn rfl ?_
  refine wpIn_block ?_
  refine eloop (fun n_ a w => ∃ (x30 : Int), Fr 29 [] [(8, iv y9.2), (18, sv ad11 y9.1 cap12), (19, iv (ln y9.1)), (20, iv x30)] a ∧ St w0 [blk b7 31 p0.ar, fz w0 ν10] w ∧ law06_kept_L2 y9 n_ x30 = some res) F ⟨0, hF.sub (by kernel_rfl), St.pick [0, 1] (by decide) hS, h⟩ ?_
  rintro n_ a w ⟨x30, hF, hS, h⟩
  rcases n_ with _ | n_
  ·cases (show (none : Option Bool) = some res from h)
  obtain ⟨k2, hk2⟩ : ∃ k, k = law06_kept_L2 y9 n_ := ⟨_, rfl⟩
  replace h : law06_kept_B2 y9 k2 x30 = some res := by rw [hk2]; exact h
  rw [law06_kept_B2] at h
  refine esr ?_
  refine rn 1 1 [(8, iv y9.2), (18, sv ad11 y9.1 cap12), (19, iv (ln y9.1)), (20, iv x30), (21, .bool (decide (x30 < (ln y9.1))))] hF fun a hF => ?_
  refine wfn rfl ?_
  refine eseq ?_
  refine econd hF rfl (fun hc => ?_) (fun hc => ?_)
  ·replace h := bif_t h hc
   refine wpIn_skip (norm_then ?_)
   refine eseq ?_
   refine wpIn_block ?_
   refine esr ?_
   replace h := bindS h
   obtain ⟨u32, hu32, h⟩ := h
   refine rno 3 [.run [] (Instr.indexAt 40 (sv ad11 y9.1 cap12) (iv x30)) (.pointer (some (slAddr ad11 x30 1))), .run [] (Instr.loadAt 3 (.pointer (some (slAddr ad11 x30 1)))) (iv u32)] 3 [(8, iv y9.2), (10, iv u32), (18, sv ad11 y9.1 cap12), (19, iv (ln y9.1)), (20, iv x30)] hF (ocons (obIdxQ (hA13 _ (hS.frz (i := 1) rfl hlow)) (by kernel_rfl) (fun _ => hu32)) (ocons (obElQ (i := x30) 0 fI_len (fun _ hd => (hA13 _ ((hS.at_ hd).frz (i := 1) rfl hlow))) (by kernel_rfl) (fun _ => hu32) rfl) onil)) fun a hF => ?_
   refine wfn rfl ?_
   refine esr ?_
   refine rn 2 2 [(8, iv y9.2), (18, sv ad11 y9.1 cap12), (19, iv (ln y9.1)), (20, iv x30), (25, .bool (decide (u32 < 0)))] hF fun a hF => ?_
   refine wfn rfl ?_
   refine econd hF rfl (fun hc => ?_) (fun hc => ?_)
   ·replace h := bif_t h hc
    refine esr ?_
    refine rn 1 1 [(6, .bool false)] hF fun a hF => ?_
    refine wfn rfl ?_
    refine wpIn_ret (ret_block <| ret_then <| ret_then <| ret_block <| ret_then <| fn_ret [.tmp 6] [.bool false] hF rfl ⟨rfl, trivial⟩ ?_)
    have hr_ := Option.some.inj h
    subst hr_
    exact ⟨rfl, hS.ext⟩
   ·replace h := bif_f h hc
    refine wpIn_skip (norm_block <| norm_then <| ?_)
    refine WI.region ?_
    replace h := bindS h
    obtain ⟨x33, hx33, h⟩ := h
    refine rno 2 [.run [] (binOp .add 3 (iv x30) (iv 1)) (iv x33)] 2 [(8, iv y9.2), (18, sv ad11 y9.1 cap12), (19, iv (ln y9.1)), (20, iv x33)] hF (ocons (obAddC (fun _ => hx33)) onil) fun a hF => ?_
    refine wfn rfl ?_
    rw [hk2] at h
    exact ⟨n_, Nat.lt_succ_self _, x33, hF.sub (by kernel_rfl), St.pick [0, 1] (by decide) hS, h⟩
  ·replace h := bif_f h hc
   refine wpIn_exit (exit_then <| exit_then <| exit_hit <| norm_then ?_)
   exact ⟨hF.sub (by kernel_rfl), St.pick [0, 1] (by decide) hS, h⟩
 rintro a w ⟨hF, hS, h⟩
 rw [law06_kept_K1] at h
 refine esr ?_
 refine rn 3 3 [(6, .bool (y9.2 == 0))] hF fun a hF => ?_
 refine wfn rfl ?_
 refine wpIn_ret (fn_ret [.tmp 6] [.bool (y9.2 == 0)] hF rfl ⟨rfl, trivial⟩ ?_)
 have hr_ := Option.some.inj h
 subst hr_
 exact ⟨rfl, hS.ext⟩

theorem law06_PlanMore_1_ok (F : Nat) (p0 : Int) (c0_ : (List Int)) (c1_ : (List plan_Job)) (c2_ : plan_Radar) (c3_ : (List plan_Job)) (c4_ : Int) (res : Bool) (h : law06_PlanMore_1 F p0 c0_ c1_ c2_ c3_ c4_ = some res) (μ : Frz) (w0 : World) (hm : FrzAt μ w0) {ad1 : Option Addr} {cap2 : Nat} {cb1 : Nat} {ad4 : Option Addr} {cap5 : Nat} {cb2 : Nat} {cb3 : Nat} {ad7 : Option Addr} {cap8 : Nat} {cb4 : Nat} {cb5 : Nat} (hcb1 : BlkM μ cb1 40 #[sv ad1 c0_ cap2]) (hA3 : ArrM μ 1 fI ad1 cap2 c0_) (hcb2 : BlkM μ cb2 43 #[sv ad4 c1_ cap5]) (hA6 : ArrM μ 8 plan_Job.cells ad4 cap5 c1_) (hcb3 : BlkM μ cb3 31 c2_.ar) (hcb4 : BlkM μ cb4 43 #[sv ad7 c3_ cap8]) (hA9 : ArrM μ 8 plan_Job.cells ad7 cap8 c3_) (hcb5 : BlkM μ cb5 88 #[.int .u16 c4_]) : Calls Try.prog 43 #[iv p0, pb cb1, pb cb2, pb cb3, pb cb4, pb cb5] w0 (fun e w => e = .returned (.bool res) ∧ Ext w0 w) := by
 obtain ⟨hlow, hS⟩ := hm.init
 have hext := Frz.ext_refl w0.heap.size μ
 rw [law06_PlanMore_1] at h
 refine fn_enterW Try.func43 rfl 96 [(0, iv p0), (1, pb cb1), (2, pb cb2), (3, pb cb3), (4, pb cb4), (5, pb cb5)] rfl rfl (by kernel_rfl) fun a w hw hF => ?_
 replace hS : St w0 [fz w0 μ] w := by rw [hw]; exact hS
 clear hw
 refine esr ?_
 refine rn 1 1 [(0, iv p0), (1, pb cb1), (2, pb cb2), (3, pb cb3), (4, pb cb4), (5, pb cb5)] hF fun a hF => ?_
 refine wfn rfl ?_
 refine esr ?_
 refine rn 1 1 [(0, iv p0), (1, pb cb1), (2, pb cb2), (3, pb cb3), (4, pb cb4), (5, pb cb5), (8, .slice none 0 0)] hF fun a hF => ?_
 refine wfn rfl ?_
 refine ecut (fun a w => ∃ (l504 : (List Int)) (ad502 : Option Addr) (cap503 : Nat), Fr 96 [] [(0, iv p0), (1, pb cb1), (2, pb cb2), (3, pb cb3), (4, pb cb4), (5, pb cb5), (8, sv ad502 l504 cap503)] a ∧ St w0 [arr 3 1 fI ad502 l504.length cap503 l504, fz w0 μ] w ∧ law06_PlanMore_1_K1 F p0 c0_ c1_ c2_ c3_ c4_ l504 = some res) ?_ ?_
 ·skip
  refine esr ?_
  refine rn 1 1 [(0, iv p0), (1, pb cb1), (2, pb cb2), (3, pb cb3), (4, pb cb4), (5, pb cb5), (8, .slice none 0 0), (16, iv 0)] hF fun a hF => ?_
  refine wfn rfl ?_
  refine wpIn_block ?_
  replace hS := hS.nilarr 3 1 fI
  refine eloop (fun n_ a w => ∃ (x875 : Int) (l878 : (List Int)) (ad876 : Option Addr) (cap877 : Nat), Fr 96 [] [(0, iv p0), (1, pb cb1), (2, pb cb2), (3, pb cb3), (4, pb cb4), (5, pb cb5), (8, sv ad876 l878 cap877), (16, iv x875)] a ∧ St w0 [arr 3 1 fI ad876 l878.length cap877 l878, fz w0 μ] w ∧ law06_PlanMore_1_L4 F p0 c0_ c1_ c2_ c3_ c4_ n_ x875 l878 = some res) F ⟨0, [], none, 0, hF.sub (by kernel_rfl), St.pick [0, 1] (by decide) hS, h⟩ ?_
  rintro n_ a w ⟨x875, l878, ad876, cap877, hF, hS, h⟩
  rcases n_ with _ | n_
  ·cases (show (none : Option Bool) = some res from h)
  obtain ⟨k4, hk4⟩ : ∃ k, k = law06_PlanMore_1_L4 F p0 c0_ c1_ c2_ c3_ c4_ n_ := ⟨_, rfl⟩
  replace h : law06_PlanMore_1_B4 F p0 c0_ c1_ c2_ c3_ c4_ k4 x875 l878 = some res := by rw [hk4]; exact h
  rw [law06_PlanMore_1_B4] at h
  refine esr ?_
  refine rn 1 1 [(0, iv p0), (1, pb cb1), (2, pb cb2), (3, pb cb3), (4, pb cb4), (5, pb cb5), (8, sv ad876 l878 cap877), (16, iv x875), (17, .bool (decide (x875 < 4)))] hF fun a hF => ?_
  refine wfn rfl ?_
  refine eseq ?_
  refine econd hF rfl (fun hc => ?_) (fun hc => ?_)
  ·replace h := bif_t h hc
   refine wpIn_skip (norm_then ?_)
   refine ecut (fun a w => ∃ (l960 : (List Int)) (ad958 : Option Addr) (cap959 : Nat), Fr 96 [] [(0, iv p0), (1, pb cb1), (2, pb cb2), (3, pb cb3), (4, pb cb4), (5, pb cb5), (8, sv ad958 l960 cap959), (16, iv x875)] a ∧ St w0 [arr 3 1 fI ad958 l960.length cap959 l960, fz w0 μ] w ∧ law06_PlanMore_1_K5 x875 k4 l960 = some res) ?_ ?_
   ·skip
    refine wpIn_block ?_
    refine esr ?_
    refine rn 2 2 [(0, iv p0), (1, pb cb1), (2, pb cb2), (3, pb cb3), (4, pb cb4), (5, pb cb5), (8, sv ad876 l878 cap877), (9, iv x875), (16, iv x875)] hF fun a hF => ?_
    refine wfn rfl ?_
    refine esr ?_
    refine rno 3 [.run [] (Instr.loadAt 40 (pb cb1)) (sv ad1 c0_ cap2)] 3 [(0, iv p0), (1, pb cb1), (2, pb cb2), (3, pb cb3), (4, pb cb4), (5, pb cb5), (8, sv ad876 l878 cap877), (9, iv x875), (16, iv x875), (19, sv ad1 c0_ cap2), (20, iv (ln c0_)), (21, iv 0)] hF (ocons (ob1 (by kernel_rfl) (fun _ hd => (hcb1.blk ((hS.at_ hd).frz (i := 1) rfl hlow)).cell1 (j := 0) rfl)) onil) fun a hF => ?_
    refine wfn rfl ?_
    refine wpIn_block ?_
    refine eloop (fun n_ a w => ∃ (x1013 : Int) (l1016 : (List Int)) (ad1014 : Option Addr) (cap1015 : Nat), Fr 96 [] [(0, iv p0), (1, pb cb1), (2, pb cb2), (3, pb cb3), (4, pb cb4), (5, pb cb5), (8, sv ad1014 l1016 cap1015), (9, iv x875), (16, iv x875), (19, sv ad1 c0_ cap2), (20, iv (ln c0_)), (21, iv x1013)] a ∧ St w0 [arr 3 1 fI ad1014 l1016.length cap1015 l1016, fz w0 μ] w ∧ law06_PlanMore_1_L6 p0 c0_ c1_ x875 k4 n_ x1013 l1016 = some res) F ⟨0, l878, ad876, cap877, hF.sub (by kernel_rfl), St.pick [0, 1] (by decide) hS, h⟩ ?_
    rintro n_ a w ⟨x1013, l1016, ad1014, cap1015, hF, hS, h⟩
    rcases n_ with _ | n_
    ·cases (show (none : Option Bool) = some res from h)
    obtain ⟨k6, hk6⟩ : ∃ k, k = law06_PlanMore_1_L6 p0 c0_ c1_ x875 k4 n_ := ⟨_, rfl⟩
    replace h : law06_PlanMore_1_B6 p0 c0_ c1_ x875 k4 k6 x1013 l1016 = some res := by rw [hk6]; exact h
    rw [law06_PlanMore_1_B6] at h
    refine esr ?_
    refine rn 1 1 [(0, iv p0), (1, pb cb1), (2, pb cb2), (3, pb cb3), (4, pb cb4), (5, pb cb5), (8, sv ad1014 l1016 cap1015), (9, iv x875), (16, iv x875), (19, sv ad1 c0_ cap2), (20, iv (ln c0_)), (21, iv x1013), (22, .bool (decide (x1013 < (ln c0_))))] hF fun a hF => ?_
    refine wfn rfl ?_
    refine eseq ?_
    refine econd hF rfl (fun hc => ?_) (fun hc => ?_)
    ·replace h := bif_t h hc
     refine wpIn_skip (norm_then ?_)
     refine ecut (fun a w => ∃ (l1029 : (List Int)) (ad1027 : Option Addr) (cap1028 : Nat), Fr 96 [] [(0, iv p0), (1, pb cb1), (2, pb cb2), (3, pb cb3), (4, pb cb4), (5, pb cb5), (8, sv ad1027 l1029 cap1028), (9, iv x875), (16, iv x875), (19, sv ad1 c0_ cap2), (20, iv (ln c0_)), (21, iv x1013)] a ∧ St w0 [arr 3 1 fI ad1027 l1029.length cap1028 l1029, fz w0 μ] w ∧ law06_PlanMore_1_K7 x1013 k6 l1029 = some res) ?_ ?_
     ·skip
      refine wpIn_block ?_
      refine esr ?_
      replace h := bindS h
      obtain ⟨u1032, hu1032, h⟩ := h
      refine rno 5 [.run [] (Instr.indexAt 40 (sv ad1 c0_ cap2) (iv x1013)) (.pointer (some (slAddr ad1 x1013 1))), .run [] (Instr.loadAt 3 (.pointer (some (slAddr ad1 x1013 1)))) (iv u1032)] 5 [(0, iv p0), (1, pb cb1), (2, pb cb2), (3, pb cb3), (4, pb cb4), (5, pb cb5), (8, sv ad1014 l1016 cap1015), (9, iv x875), (10, iv x1013), (11, iv u1032), (16, iv x875), (19, sv ad1 c0_ cap2), (20, iv (ln c0_)), (21, iv x1013)] hF (ocons (obIdxQ (hA3 _ (hS.frz (i := 1) rfl hlow)) (by kernel_rfl) (fun _ => hu1032)) (ocons (obElQ (i := x1013) 0 fI_len (fun _ hd => (hA3 _ ((hS.at_ hd).frz (i := 1) rfl hlow))) (by kernel_rfl) (fun _ => hu1032) rfl) onil)) fun a hF => ?_
      refine wfn rfl ?_
      refine esr ?_
      refine rn 2 2 [(0, iv p0), (1, pb cb1), (2, pb cb2), (3, pb cb3), (4, pb cb4), (5, pb cb5), (8, sv ad1014 l1016 cap1015), (9, iv x875), (10, iv x1013), (16, iv x875), (19, sv ad1 c0_ cap2), (20, iv (ln c0_)), (21, iv x1013), (26, sv ad1014 l1016 cap1015), (27, iv u1032)] hF fun a hF => ?_
      refine SK.wi (litK (e := 3) (sz := 1) (f := fI) (t := 40) (len := 1) (fun b1033 => [(0, iv p0), (1, pb cb1), (2, pb cb2), (3, pb cb3), (4, pb cb4), (5, pb cb5), (8, sv ad1014 l1016 cap1015), (9, iv x875), (10, iv x1013), (16, iv x875), (19, sv ad1 c0_ cap2), (20, iv (ln c0_)), (21, iv x1013), (26, sv ad1014 l1016 cap1015), (28, sb b1033 1)]) #[(0, iv u1032)] #[iv u1032] ([u1032]) hF hS (by kernel_rfl) ⟨by kernel_rfl⟩ (by kernel_rfl) fI_len rfl rfl (by kernel_rfl) (fun _ => ⟨by kernel_rfl⟩) fun b1033 w a hF hS => ?_)
      replace h := bindS h
      obtain ⟨l1034, hl1034, h⟩ := h
      refine SK.wi (appK (t := 40) (ty := 40) (bytes := 8) (l := l1016) (l' := ([u1032])) (fun ad1035 cap1036 => [(0, iv p0), (1, pb cb1), (2, pb cb2), (3, pb cb3), (4, pb cb4), (5, pb cb5), (8, sv ad1014 l1016 cap1015), (9, iv x875), (10, iv x1013), (16, iv x875), (19, sv ad1 c0_ cap2), (20, iv (ln c0_)), (21, iv x1013), (29, sv ad1035 l1034 cap1036)]) 1 hF hS rfl (by kernel_rfl) ⟨by kernel_rfl⟩ (by kernel_rfl) (hS.arr (i := 0) rfl) (fun _ _ => rfl) hl1034 (fun _ _ => ⟨by kernel_rfl⟩) fun ad1035 cap1036 w a hF hS => ?_)
      refine rn 1 5 [(0, iv p0), (1, pb cb1), (2, pb cb2), (3, pb cb3), (4, pb cb4), (5, pb cb5), (8, sv ad1035 l1034 cap1036), (9, iv x875), (10, iv x1013), (16, iv x875), (19, sv ad1 c0_ cap2), (20, iv (ln c0_)), (21, iv x1013)] hF fun a hF => ?_
      refine wfn rfl ?_
      refine esr ?_
      refine rn 7 7 [(0, iv p0), (1, pb cb1), (2, pb cb2), (3, pb cb3), (4, pb cb4), (5, pb cb5), (8, sv ad1035 l1034 cap1036), (9, iv x875), (16, iv x875), (19, sv ad1 c0_ cap2), (20, iv (ln c0_)), (21, iv x1013), (36, .bool (bif (x875 == 1) then (x1013 == p0) else false))] hF fun a hF => ?_
      refine wfn rfl ?_
      refine econd hF rfl (fun hc => ?_) (fun hc => ?_)
      ·replace h := bif_t h hc
       refine WI.region ?_
       refine rno 3 [.run [] (Instr.loadAt 43 (pb cb2)) (sv ad4 c1_ cap5)] 3 [(0, iv p0), (1, pb cb1), (2, pb cb2), (3, pb cb3), (4, pb cb4), (5, pb cb5), (8, sv ad1035 l1034 cap1036), (9, iv x875), (16, iv x875), (19, sv ad1 c0_ cap2), (20, iv (ln c0_)), (21, iv x1013), (37, sv ad1035 l1034 cap1036), (39, iv (ln c1_))] hF (ocons (ob1 (by kernel_rfl) (fun _ hd => (hcb2.blk ((hS.at_ hd).frz (i := 2) rfl hlow)).cell1 (j := 0) rfl)) onil) fun a hF => ?_
       refine SK.wi (litK (e := 3) (sz := 1) (f := fI) (t := 40) (len := 1) (fun b1037 => [(0, iv p0), (1, pb cb1), (2, pb cb2), (3, pb cb3), (4, pb cb4), (5, pb cb5), (8, sv ad1035 l1034 cap1036), (9, iv x875), (16, iv x875), (19, sv ad1 c0_ cap2), (20, iv (ln c0_)), (21, iv x1013), (37, sv ad1035 l1034 cap1036), (40, sb b1037 1)]) #[(0, iv (ln c1_))] #[iv (ln c1_)] ([(ln c1_)]) hF hS (by kernel_rfl) ⟨by kernel_rfl⟩ (by kernel_rfl) fI_len rfl rfl (by kernel_rfl) (fun _ => ⟨by kernel_rfl⟩) fun b1037 w a hF hS => ?_)
       replace h := bindS h
       obtain ⟨l1038, hl1038, h⟩ := h
       refine SK.wi (appK (t := 40) (ty := 40) (bytes := 8) (l := l1034) (l' := ([(ln c1_)])) (fun ad1039 cap1040 => [(0, iv p0), (1, pb cb1), (2, pb cb2), (3, pb cb3), (4, pb cb4), (5, pb cb5), (8, sv ad1035 l1034 cap1036), (9, iv x875), (16, iv x875), (19, sv ad1 c0_ cap2), (20, iv (ln c0_)), (21, iv x1013), (41, sv ad1039 l1038 cap1040)]) 2 hF hS rfl (by kernel_rfl) ⟨by kernel_rfl⟩ (by kernel_rfl) (hS.arr (i := 0) rfl) (fun _ _ => rfl) hl1038 (fun _ _ => ⟨by kernel_rfl⟩) fun ad1039 cap1040 w a hF hS => ?_)
       refine rn 1 6 [(0, iv p0), (1, pb cb1), (2, pb cb2), (3, pb cb3), (4, pb cb4), (5, pb cb5), (8, sv ad1039 l1038 cap1040), (9, iv x875), (16, iv x875), (19, sv ad1 c0_ cap2), (20, iv (ln c0_)), (21, iv x1013)] hF fun a hF => ?_
       refine WI.fin rfl (norm_block <| norm_then <| ?_)
       exact ⟨l1038, ad1039, cap1040, hF.sub (by kernel_rfl), St.pick [2, 3] (by decide) hS, h⟩
      ·replace h := bif_f h hc
       refine wpIn_skip (norm_block <| norm_then <| ?_)
       exact ⟨l1034, ad1035, cap1036, hF.sub (by kernel_rfl), St.pick [1, 2] (by decide) hS, h⟩
     rintro a w ⟨l1029, ad1027, cap1028, hF, hS, h⟩
     rw [law06_PlanMore_1_K7] at h
     refine WI.region ?_
     replace h := bindS h
     obtain ⟨x1030, hx1030, h⟩ := h
     refine rno 2 [.run [] (binOp .add 3 (iv x1013) (iv 1)) (iv x1030)] 2 [(0, iv p0), (1, pb cb1), (2, pb cb2), (3, pb cb3), (4, pb cb4), (5, pb cb5), (8, sv ad1027 l1029 cap1028), (9, iv x875), (16, iv x875), (19, sv ad1 c0_ cap2), (20, iv (ln c0_)), (21, iv x1030)] hF (ocons (obAddC (fun _ => hx1030)) onil) fun a hF => ?_
     refine wfn rfl ?_
     rw [hk6] at h
     exact ⟨n_, Nat.lt_succ_self _, x1030, l1029, ad1027, cap1028, hF.sub (by kernel_rfl), St.pick [0, 1] (by decide) hS, h⟩
    ·replace h := bif_f h hc
     refine wpIn_exit (exit_then <| exit_then <| exit_hit <| norm_block <| norm_then <| ?_)
     exact ⟨l1016, ad1014, cap1015, hF.sub (by kernel_rfl), St.pick [0, 1] (by decide) hS, h⟩
   rintro a w ⟨l960, ad958, cap959, hF, hS, h⟩
   rw [law06_PlanMore_1_K5] at h
   refine WI.region ?_
   replace h := bindS h
   obtain ⟨x961, hx961, h⟩ := h
   refine rno 2 [.run [] (binOp .add 3 (iv x875) (iv 1)) (iv x961)] 2 [(0, iv p0), (1, pb cb1), (2, pb cb2), (3, pb cb3), (4, pb cb4), (5, pb cb5), (8, sv ad958 l960 cap959), (16, iv x961)] hF (ocons (obAddC (fun _ => hx961)) onil) fun a hF => ?_
   refine wfn rfl ?_
   rw [hk4] at h
   exact ⟨n_, Nat.lt_succ_self _, x961, l960, ad958, cap959, hF.sub (by kernel_rfl), St.pick [0, 1] (by decide) hS, h⟩
  ·replace h := bif_f h hc
   refine wpIn_exit (exit_then <| exit_then <| exit_hit <| norm_then ?_)
   exact ⟨l878, ad876, cap877, hF.sub (by kernel_rfl), St.pick [0, 1] (by decide) hS, h⟩
 rintro a w ⟨l504, ad502, cap503, hF, hS, h⟩
 rw [law06_PlanMore_1_K1] at h
 refine esr ?_
 refine rno 3 [.run [] (Instr.loadAt 31 (pb cb3)) (c2_.ag), .run [] (Instr.loadAt 43 (pb cb4)) (sv ad7 c3_ cap8)] 3 [(0, iv p0), (1, pb cb1), (2, pb cb2), (4, pb cb4), (5, pb cb5), (8, sv ad502 l504 cap503), (45, c2_.ag), (46, sv ad7 c3_ cap8), (47, sv ad502 l504 cap503)] hF (ocons (obN (us := c2_.cells) (by kernel_rfl) (fun _ hd => (hcb3.blk ((hS.at_ hd).frz (i := 1) rfl hlow)).cells rfl)) (ocons (ob1 (by kernel_rfl) (fun _ hd => (hcb4.blk ((hS.at_ hd).frz (i := 1) rfl hlow)).cell1 (j := 0) rfl)) onil)) fun a hF => ?_
 replace h := bindS h
 obtain ⟨y506, hy506, h⟩ := h
 refine SK.wi (callK (f := 39) (args := #[c2_.ag, sv ad7 c3_ cap8, sv ad502 l504 cap503]) (R := fun v w2 => ∃ ad507 cap508, v = .tuple #[sv ad507 y506.1 cap508, .bool y506.2] ∧ St w [arr 3 1 fI ad507 y506.1.length cap508 y506.1] w2) (fun v505 => [(0, iv p0), (1, pb cb1), (2, pb cb2), (4, pb cb4), (5, pb cb5), (8, sv ad502 l504 cap503), (48, v505)]) hF (by kernel_rfl) ⟨by kernel_rfl⟩ (Calls.mono (law06_begins_ok F c2_ c3_ l504 _ hy506 (memOf w) w (memOf_at w) (hA9.mono (FrzAt.le_mem (hS.frz (i := 1) rfl hlow))) (Arr.toM (hS.arr (i := 0) rfl))) (by rintro e w2 ⟨ad507, cap508, rfl, h⟩; exact ⟨_, rfl, ad507, cap508, rfl, h⟩)) (fun _ => ⟨by kernel_rfl⟩) ?_)
 rintro v505 w a ⟨ad507, cap508, rfl, hQ⟩ hF
 replace hS : St w0 [arr 3 1 fI ad507 y506.1.length cap508 y506.1, arr 3 1 fI ad502 l504.length cap503 l504, fz w0 μ] w := hS.madeL hQ
 refine rn 5 9 [(0, iv p0), (1, pb cb1), (2, pb cb2), (4, pb cb4), (5, pb cb5), (8, sv ad502 l504 cap503), (12, sv ad507 y506.1 cap508), (13, .bool y506.2)] hF fun a hF => ?_
 refine wfn rfl ?_
 refine eseq ?_
 refine eseq ?_
 replace h := bindS h
 obtain ⟨x509, hx509, h⟩ := h
 replace h := bindS h
 obtain ⟨x510, hx510, h⟩ := h
 replace h := bindS h
 obtain ⟨u511, hu511, h⟩ := h
 replace h := bindS h
 obtain ⟨u512, hu512, h⟩ := h
 replace h := bindS h
 obtain ⟨x513, hx513, h⟩ := h
 replace h := bindS h
 obtain ⟨x514, hx514, h⟩ := h
 refine runD (obs := [.run [⟨53, false, (!y506.2)⟩] (Instr.loadAt 40 (pb cb1)) (sv ad1 c0_ cap2), .run [⟨53, false, (!y506.2)⟩] (binOp .add 3 (iv (ln c0_)) (iv p0)) (iv x509), .run [⟨53, false, (!y506.2)⟩] (binOp .add 3 (iv x509) (iv 1)) (iv x510), .run [⟨53, false, (!y506.2)⟩] (Instr.indexAt 40 (sv ad507 y506.1 cap508) (iv x510)) (.pointer (some (slAddr ad507 x510 1))), .run [⟨53, false, (!y506.2)⟩] (Instr.loadAt 3 (.pointer (some (slAddr ad507 x510 1)))) (iv u511), .run [⟨53, false, (!y506.2)⟩] (Instr.loadAt 40 (pb cb1)) (sv ad1 c0_ cap2), .run [⟨53, false, (!y506.2)⟩] (Instr.indexAt 40 (sv ad507 y506.1 cap508) (iv (ln c0_))) (.pointer (some (slAddr ad507 (ln c0_) 1))), .run [⟨53, false, (!y506.2)⟩] (Instr.loadAt 3 (.pointer (some (slAddr ad507 (ln c0_) 1)))) (iv u512), .run [⟨53, false, (!y506.2)⟩] (binOp .sub 3 (iv u511) (iv u512)) (iv x513), .run [⟨53, false, (!y506.2)⟩] (Instr.loadAt 88 (pb cb5)) (.int .u16 c4_), .run [⟨53, false, (!y506.2)⟩] (convert 88 3 (.int .u16 c4_)) (iv x514)]) 21 [(2, pb cb2), (4, pb cb4), (8, sv ad502 l504 cap503), (12, sv ad507 y506.1 cap508), (71, .bool (bif (!y506.2) then true else (decide (x513 > x514))))] (by kernel_rfl) hF (by kernel_rfl) (ocons (ob1 (by kernel_rfl) (fun _ hd => (hcb1.blk ((hS.later hd).frz (i := 2) rfl hlow)).cell1 (j := 0) rfl)) (ocons (obAddC (fun hk => gd_some hx509 hk)) (ocons (obAddC (fun hk => gd_some hx510 hk)) (ocons (obIdxQ (hS.arr (i := 0) rfl) (by kernel_rfl) (fun hk => gd_some hu511 hk)) (ocons (obElQ (i := x510) 0 fI_len (fun _ hd => ((hS.later hd).arr (i := 0) rfl)) (by kernel_rfl) (fun hk => gd_some hu511 hk) rfl) (ocons (ob1 (by kernel_rfl) (fun _ hd => (hcb1.blk ((hS.later hd).frz (i := 2) rfl hlow)).cell1 (j := 0) rfl)) (ocons (obIdxQ (hS.arr (i := 0) rfl) (by kernel_rfl) (fun hk => gd_some hu512 hk)) (ocons (obElQ (i := (ln c0_)) 0 fI_len (fun _ hd => ((hS.later hd).arr (i := 0) rfl)) (by kernel_rfl) (fun hk => gd_some hu512 hk) rfl) (ocons (obSubC (fun hk => gd_some hx513 hk)) (ocons (ob1 (by kernel_rfl) (fun _ hd => (hcb5.blk ((hS.later hd).frz (i := 2) rfl hlow)).cell1 (j := 0) rfl)) (ocons (obConvC (by kernel_rfl) (by kernel_rfl) (fun hk => gd_some hx514 hk)) onil))))))))))) ⟨by kernel_rfl⟩ fun a w hF hx => ?_
 replace hS := hS.later hx
 refine wfn rfl ?_
 refine econd hF rfl (fun hc => ?_) (fun hc => ?_)
 ·replace h := bif_t h hc
  refine esr ?_
  refine rn 1 1 [(7, .bool false)] hF fun a hF => ?_
  refine wfn rfl ?_
  refine wpIn_ret (ret_then <| fn_ret [.tmp 7] [.bool false] hF rfl ⟨rfl, trivial⟩ ?_)
  have hr_ := Option.some.inj h
  subst hr_
  exact ⟨rfl, hS.ext⟩
 ·replace h := bif_f h hc
  refine wpIn_skip (norm_then ?_)
  refine ecut (fun a w => Fr 96 [] [] a ∧ St w0 [arr 3 1 fI ad507 y506.1.length cap508 y506.1, arr 3 1 fI ad502 l504.length cap503 l504, fz w0 μ] w ∧ law06_PlanMore_1_K2 = some res) ?_ ?_
  ·skip
   refine esr ?_
   refine rno 3 [.run [] (Instr.loadAt 43 (pb cb4)) (sv ad7 c3_ cap8)] 3 [(2, pb cb2), (72, sv ad7 c3_ cap8), (73, sv ad502 l504 cap503), (74, sv ad507 y506.1 cap508)] hF (ocons (ob1 (by kernel_rfl) (fun _ hd => (hcb4.blk ((hS.at_ hd).frz (i := 2) rfl hlow)).cell1 (j := 0) rfl)) onil) fun a hF => ?_
   replace h := bindS h
   obtain ⟨y533, hy533, h⟩ := h
   refine SK.wi (callK (f := 40) (args := #[sv ad7 c3_ cap8, sv ad502 l504 cap503, sv ad507 y506.1 cap508]) (R := fun v w2 => ∃ ad534 cap535, v = sv ad534 y533 cap535 ∧ St w [arr 3 1 fI ad534 y533.length cap535 y533] w2) (fun v532 => [(2, pb cb2), (75, v532)]) hF (by kernel_rfl) ⟨by kernel_rfl⟩ (Calls.mono (law06_waits_ok F c3_ l504 y506.1 _ hy533 (memOf w) w (memOf_at w) (hA9.mono (FrzAt.le_mem (hS.frz (i := 2) rfl hlow))) (Arr.toM (hS.arr (i := 1) rfl)) (Arr.toM (hS.arr (i := 0) rfl))) (by rintro e w2 ⟨ad534, cap535, rfl, h⟩; exact ⟨_, rfl, ad534, cap535, rfl, h⟩)) (fun _ => ⟨by kernel_rfl⟩) ?_)
   rintro v532 w a ⟨ad534, cap535, rfl, hQ⟩ hF
   replace hS : St w0 [arr 3 1 fI ad534 y533.length cap535 y533, arr 3 1 fI ad507 y506.1.length cap508 y506.1, arr 3 1 fI ad502 l504.length cap503 l504, fz w0 μ] w := hS.madeL hQ
   refine rn 2 6 [(2, pb cb2), (75, sv ad534 y533 cap535), (76, iv (ln y533)), (77, iv 0)] hF fun a hF => ?_
   refine wfn rfl ?_
   refine wpIn_block ?_
   refine eloop (fun n_ a w => ∃ (x543 : Int), Fr 96 [] [(2, pb cb2), (75, sv ad534 y533 cap535), (76, iv (ln y533)), (77, iv x543)] a ∧ St w0 [arr 3 1 fI ad534 y533.length cap535 y533, arr 3 1 fI ad507 y506.1.length cap508 y506.1, arr 3 1 fI ad502 l504.length cap503 l504, fz w0 μ] w ∧ law06_PlanMore_1_L3 c1_ y533 n_ x543 = some res) F ⟨0, hF.sub (by kernel_rfl), St.pick [0, 1, 2, 3] (by decide) hS, h⟩ ?_
   rintro n_ a w ⟨x543, hF, hS, h⟩
   rcases n_ with _ | n_
   ·cases (show (none : Option Bool) = some res from h)
   obtain ⟨k3, hk3⟩ : ∃ k, k = law06_PlanMore_1_L3 c1_ y533 n_ := ⟨_, rfl⟩
   replace h : law06_PlanMore_1_B3 c1_ y533 k3 x543 = some res := by rw [hk3]; exact h
   rw [law06_PlanMore_1_B3] at h
   refine esr ?_
   refine rn 1 1 [(2, pb cb2), (75, sv ad534 y533 cap535), (76, iv (ln y533)), (77, iv x543), (78, .bool (decide (x543 < (ln y533))))] hF fun a hF => ?_
   refine wfn rfl ?_
   refine eseq ?_
   refine econd hF rfl (fun hc => ?_) (fun hc => ?_)
   ·replace h := bif_t h hc
    refine wpIn_skip (norm_then ?_)
    refine eseq ?_
    refine wpIn_block ?_
    refine esr ?_
    replace h := bindS h
    obtain ⟨u545, hu545, h⟩ := h
    refine rno 5 [.run [] (Instr.indexAt 40 (sv ad534 y533 cap535) (iv x543)) (.pointer (some (slAddr ad534 x543 1))), .run [] (Instr.loadAt 3 (.pointer (some (slAddr ad534 x543 1)))) (iv u545)] 5 [(2, pb cb2), (14, iv x543), (15, iv u545), (75, sv ad534 y533 cap535), (76, iv (ln y533)), (77, iv x543)] hF (ocons (obIdxQ (hS.arr (i := 0) rfl) (by kernel_rfl) (fun _ => hu545)) (ocons (obElQ (i := x543) 0 fI_len (fun _ hd => ((hS.at_ hd).arr (i := 0) rfl)) (by kernel_rfl) (fun _ => hu545) rfl) onil)) fun a hF => ?_
    refine wfn rfl ?_
    refine esr ?_
    replace h := bindS h
    obtain ⟨u546, hu546, h⟩ := h
    refine rno 13 [.run [] (Instr.loadAt 43 (pb cb2)) (sv ad4 c1_ cap5), .run [⟨86, true, (decide (x543 < (ln c1_)))⟩] (Instr.loadAt 43 (pb cb2)) (sv ad4 c1_ cap5), .run [⟨86, true, (decide (x543 < (ln c1_)))⟩] (Instr.indexAt 43 (sv ad4 c1_ cap5) (iv x543)) (.pointer (some (slAddr ad4 x543 8))), .run [⟨86, true, (decide (x543 < (ln c1_)))⟩] (Instr.loadAt 3 (.pointer (some ((slAddr ad4 x543 8).add 7)))) (iv u546.Every)] 13 [(2, pb cb2), (75, sv ad534 y533 cap535), (76, iv (ln y533)), (77, iv x543), (94, .bool (bif (decide (x543 < (ln c1_))) then (decide (u545 > u546.Every)) else false))] hF (ocons (ob1 (by kernel_rfl) (fun _ hd => (hcb2.blk ((hS.at_ hd).frz (i := 3) rfl hlow)).cell1 (j := 0) rfl)) (ocons (ob1 (by kernel_rfl) (fun _ hd => (hcb2.blk ((hS.at_ hd).frz (i := 3) rfl hlow)).cell1 (j := 0) rfl)) (ocons (obIdxQ (hA6 _ (hS.frz (i := 3) rfl hlow)) (by kernel_rfl) (fun hk => gd_some hu546 hk)) (ocons (obElQ (i := x543) 7 plan_Job.cells_len (fun _ hd => (hA6 _ ((hS.at_ hd).frz (i := 3) rfl hlow))) (by kernel_rfl) (fun hk => gd_some hu546 hk) rfl) onil)))) fun a hF => ?_
    refine wfn rfl ?_
    refine econd hF rfl (fun hc => ?_) (fun hc => ?_)
    ·replace h := bif_t h hc
     refine esr ?_
     refine rn 1 1 [(7, .bool false)] hF fun a hF => ?_
     refine wfn rfl ?_
     refine wpIn_ret (ret_block <| ret_then <| ret_then <| ret_block <| ret_then <| fn_ret [.tmp 7] [.bool false] hF rfl ⟨rfl, trivial⟩ ?_)
     have hr_ := Option.some.inj h
     subst hr_
     exact ⟨rfl, hS.ext⟩
    ·replace h := bif_f h hc
     refine wpIn_skip (norm_block <| norm_then <| ?_)
     refine WI.region ?_
     replace h := bindS h
     obtain ⟨x547, hx547, h⟩ := h
     refine rno 2 [.run [] (binOp .add 3 (iv x543) (iv 1)) (iv x547)] 2 [(2, pb cb2), (75, sv ad534 y533 cap535), (76, iv (ln y533)), (77, iv x547)] hF (ocons (obAddC (fun _ => hx547)) onil) fun a hF => ?_
     refine wfn rfl ?_
     rw [hk3] at h
     exact ⟨n_, Nat.lt_succ_self _, x547, hF.sub (by kernel_rfl), St.pick [0, 1, 2, 3] (by decide) hS, h⟩
   ·replace h := bif_f h hc
    refine wpIn_exit (exit_then <| exit_then <| exit_hit <| norm_then ?_)
    exact ⟨hF.sub (by kernel_rfl), St.pick [1, 2, 3] (by decide) hS, h⟩
  rintro a w ⟨hF, hS, h⟩
  rw [law06_PlanMore_1_K2] at h
  refine esr ?_
  refine rn 1 1 [(7, .bool true)] hF fun a hF => ?_
  refine wfn rfl ?_
  refine wpIn_ret (fn_ret [.tmp 7] [.bool true] hF rfl ⟨rfl, trivial⟩ ?_)
  have hr_ := Option.some.inj h
  subst hr_
  exact ⟨rfl, hS.ext⟩
end Go.Proofs.Ytejffembnkojjaa
