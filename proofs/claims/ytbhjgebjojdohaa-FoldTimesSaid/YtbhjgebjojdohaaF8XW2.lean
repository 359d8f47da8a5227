/- Walks, written by program (wip/gen/dec.py). -/
import Derived.Test.YtbhjgebjojdohaaF8XD
import Derived.Test.YtbhjgebjojdohaaProg
import Derived.Test.YtbhjgebjojdohaaF8XW0
import Derived.Test.YtbhjgebjojdohaaF8XW1
namespace Go.Proofs.Ytbhjgebjojdohaa
open Go Go.RowKit Go.Eng
set_option maxRecDepth 10000
set_option maxHeartbeats 4000000
set_option linter.unusedVariables false
set_option linter.unusedSimpArgs false
theorem fold_options_1_ok {σ γ : Type} (F : Nat) (c0_ : pulse_Train) (c1_ : Int) (c2_ : api_Echo) (c3_ : Int) (body : σ → fold_option → Option (σ × Bool)) (s_ : σ) (res : σ × Bool) (h : fold_options_1 F c0_ c1_ c2_ c3_ body s_ = some res) (l_ : Nat) (μ : Frz) (w0 w1 : World) (RC : σ → Bool → γ → List Res) (PC : σ → Bool → γ → Frz → Prop) (hPm : ∀ s b g μ ν, PC s b g μ → μ.le ν → PC s b g ν) (hy : ∀ (s : σ) (x : fold_option) (q : σ × Bool), body s x = some q → ∀ (ν : Frz) (g : γ) (G : List Res) (w : World), μ.ext w0.heap.size ν → FrzIn w0 ν → PC s true g ν → St w0 (fz w0 ν :: (RC s true g ++ G)) w → Eng.Yields Try.prog l_ #[x.ag] w (fun c w2 => c = q.2 ∧ ∃ ν2 g2, ν.ext w0.heap.size ν2 ∧ FrzIn w0 ν2 ∧ PC q.1 q.2 g2 ν2 ∧ St w0 (fz w0 ν2 :: (RC q.1 q.2 g2 ++ G)) w2)) (g_ : γ) (G_ : List Res) (hlow : FrzIn w0 μ) (hP : PC s_ true g_ μ) (hS : St w0 (fz w0 μ :: (RC s_ true g_ ++ G_)) w1) {cb1 : Nat} {cb2 : Nat} {cb3 : Nat} {cb4 : Nat} (hcb1 : BlkM μ cb1 33 c0_.ar) (hcb2 : BlkM μ cb2 3 #[iv c1_]) (hcb3 : BlkM μ cb3 28 c2_.ar) (hcb4 : BlkM μ cb4 3 #[iv c3_]) : Calls Try.prog 124 #[.func (.yield l_) #[] #[], pb cb1, pb cb2, pb cb3, pb cb4] w1 (fun e w => ∃ (ν_ : Frz) (g2_ : γ), μ.ext w0.heap.size ν_ ∧ FrzIn w0 ν_ ∧ PC res.1 res.2 g2_ ν_ ∧ e = .returned (.tuple #[]) ∧ St w0 (fz w0 ν_ :: (RC res.1 res.2 g2_ ++ G_)) w) := by
 rw [fold_options_1] at h
 have hext := Frz.ext_refl w0.heap.size μ
 refine fn_enterW Try.func124 rfl 44 [(0, .func (.yield l_) #[] #[]), (1, pb cb1), (2, pb cb2), (3, pb cb3), (4, pb cb4)] rfl rfl (by kernel_rfl) fun a w hw hF => ?_
 replace hS : St w0 (fz w0 μ :: (RC s_ true g_ ++ G_)) w := by rw [hw]; exact hS
 clear hw
 refine esr ?_
 refine rn 1 1 [(0, .func (.yield l_) #[] #[]), (1, pb cb1), (2, pb cb2), (3, pb cb3), (4, pb cb4), (6, iv (-64))] hF fun a hF => ?_
 refine wfn rfl ?_
 refine wpIn_block ?_
 have hj107 := Frz.le_refl μ
 refine eloop (fun n_ a w => ∃ (x103 : Int) (s104 : σ) (ν102 : Frz) (g105 : γ), Fr 44 [] [(0, .func (.yield l_) #[] #[]), (1, pb cb1), (2, pb cb2), (3, pb cb3), (4, pb cb4), (6, iv x103)] a ∧ St w0 (fz w0 ν102 :: (RC s104 true g105 ++ G_)) w ∧ (PC s104 true g105 ν102) ∧ (μ.le ν102) ∧ (μ.ext w0.heap.size ν102) ∧ (FrzIn w0 ν102) ∧ fold_options_1_L1 F body c0_ c1_ c2_ c3_ n_ x103 s104 = some res) F ⟨-64, s_, μ, g_, hF.sub (by kernel_rfl), St.pickT (A := [fz w0 μ]) (T := (RC s_ true g_ ++ G_)) [0] (by decide) hS, hP, hj107, hext, hlow, h⟩ ?_
 clear hj107
 rintro n_ a w ⟨x103, s104, ν102, g105, hF, hS, hP, hle106, hext, hlow, h⟩
 rcases n_ with _ | n_
 ·cases (show (none : Option (σ × Bool)) = some res from h)
 replace hcb1 := hcb1.mono hle106
 replace hcb2 := hcb2.mono hle106
 replace hcb3 := hcb3.mono hle106
 replace hcb4 := hcb4.mono hle106
 obtain ⟨k1, hk1⟩ : ∃ k, k = fold_options_1_L1 F body c0_ c1_ c2_ c3_ n_ := ⟨_, rfl⟩
 replace h : fold_options_1_B1 F body c0_ c1_ c2_ c3_ k1 x103 s104 = some res := by rw [hk1]; exact h
 rw [fold_options_1_B1] at h
 refine eseq ?_
 refine esr ?_
 refine rn 2 2 [(0, .func (.yield l_) #[] #[]), (1, pb cb1), (2, pb cb2), (3, pb cb3), (4, pb cb4), (6, iv x103), (12, .bool (decide (x103 ≤ 64)))] hF fun a hF => ?_
 refine wfn rfl ?_
 refine econd hF rfl (fun hc => ?_) (fun hc => ?_)
 ·replace h := bif_t h hc
  refine wpIn_skip (norm_then ?_)
  refine eseq ?_
  refine wpIn_block ?_
  refine eseq ?_
  rcases Bool.eq_false_or_eq_true ((c1_ == 0)) with hg108 | hg108
  ·replace h := bif_t h hg108
   replace h := bindS h
   obtain ⟨y110, hy110, h⟩ := h
   refine region_treeW 14 [7, 11, 12] (fun a w => ∃ (b117 : Nat), Fr 44 [] [(0, .func (.yield l_) #[] #[]), (1, pb cb1), (2, pb cb2), (3, pb cb3), (4, pb cb4), (6, iv x103), (7, pb b117)] a ∧ St w0 (blk b117 25 #[iv y110.1.Lo, iv y110.1.Hi] :: fz w0 ν102 :: (RC s104 true g105 ++ G_)) w) (D := fun w => St w0 [] w ∧ FrzAt ν102 w) (by kernel_rfl) (by kernel_rfl) hF.size (fun w hx => ?_) ?_
   ·skip
    replace hS := hS.later hx
    refine ⟨⟨St.pick [] (by decide) hS, hS.frz (i := 0) rfl hlow⟩, ?_⟩
    have hcl118 := Frz.le_refl ν102
    refine WT.s [0, 1, 2, 3, 4, 5, 6] [7, 11] (by kernel_rfl) (by kernel_rfl) ?_
    refine runC (rest := []) (obs := [.run [] (Instr.loadAt 33 (pb cb1)) (c0_.ag), .run [] (Instr.loadAt 3 (pb cb2)) (iv c1_), .run [] (Instr.loadAt 3 (pb cb2)) (iv c1_), .run [] (Instr.indexAt 26 (.pointer (some ⟨cb3, 3, none⟩)) (iv c1_)) (.pointer (some ⟨cb3, 3, none⟩)), .run [] (Instr.loadAt 25 (.pointer (some ⟨cb3, 3, none⟩))) (.agg #[iv c2_.Steps.1.Lo, iv c2_.Steps.1.Hi])]) [0, 1, 2, 3, 4, 5, 6] [(0, .func (.yield l_) #[] #[]), (1, pb cb1), (2, pb cb2), (3, pb cb3), (4, pb cb4), (6, iv x103), (16, c0_.ag), (17, iv c1_), (21, .agg #[iv c2_.Steps.1.Lo, iv c2_.Steps.1.Hi]), (22, iv x103)] hF (by kernel_rfl) (by kernel_rfl) (ocons (obN (us := c0_.cells) (by kernel_rfl) (fun _ hd => (hcb1.blk hd.2).cells rfl)) (ocons (ob1 (by kernel_rfl) (fun _ hd => (hcb2.blk hd.2).cell1 (j := 0) rfl)) (ocons (ob1 (by kernel_rfl) (fun _ hd => (hcb2.blk hd.2).cell1 (j := 0) rfl)) (ocons (by rw [show c1_ = (0 : Int) from eq_of_beq hg108]; exact obPureSem (by kernel_rfl)) (ocons (obN (us := [iv c2_.Steps.1.Lo, iv c2_.Steps.1.Hi]) (by kernel_rfl) (fun _ hd => (hcb3.blk hd.2).cells rfl)) onil))))) ⟨by kernel_rfl⟩ fun a hF => ?_
    refine WRun.fin ?_
    refine all_cons ?_ (all_cons ?_ (all_nil))
    ·skip
     refine callK (f := 125) (args := #[c0_.ag, iv c1_, .agg #[iv c2_.Steps.1.Lo, iv c2_.Steps.1.Hi], iv x103]) (R := fun v w2 => v = .tuple #[.agg #[iv y110.1.Lo, iv y110.1.Hi], iv y110.2] ∧ Ext w w2) (fun v119 => [(0, .func (.yield l_) #[] #[]), (1, pb cb1), (2, pb cb2), (3, pb cb3), (4, pb cb4), (6, iv x103), (23, v119)]) hF (by kernel_rfl) ⟨by kernel_rfl⟩ (Calls.mono (pulse_Speed_ok F c0_ c1_ (api_Span.mk c2_.Steps.1.Lo c2_.Steps.1.Hi) x103 _ hy110 (memOf w) w (memOf_at w) ) (fun e w2 h => ⟨_, h.1, rfl, h.2⟩)) (fun _ => ⟨by kernel_rfl⟩) ?_
     rintro v119 w a ⟨rfl, hx⟩ hF
     replace hS := hS.later hx
     refine ⟨⟨St.pick [] (by decide) hS, (hS.frz (i := 0) rfl hlow)⟩, ?_⟩
     refine WT.s [8, 9, 10] [11] (by kernel_rfl) (by kernel_rfl) ?_
     refine runC (rest := []) (obs := []) [8, 9, 10] [(0, .func (.yield l_) #[] #[]), (1, pb cb1), (2, pb cb2), (3, pb cb3), (4, pb cb4), (6, iv x103), (24, .agg #[iv y110.1.Lo, iv y110.1.Hi]), (25, iv y110.2)] hF (by kernel_rfl) (by kernel_rfl) onil ⟨by kernel_rfl⟩ fun a hF => ?_
     refine WRun.fin ?_
     refine all_cons ?_ (all_nil)
     refine allocK (t := 25) (fun b120 => [(0, .func (.yield l_) #[] #[]), (1, pb cb1), (2, pb cb2), (3, pb cb3), (4, pb cb4), (6, iv x103), (7, pb b120), (24, .agg #[iv y110.1.Lo, iv y110.1.Hi]), (25, iv y110.2)]) #[iv 0, iv 0] hF hS (by kernel_rfl) ⟨by kernel_rfl⟩ (by kernel_rfl) (fun _ => ⟨by kernel_rfl⟩) fun b120 w a hF hS => ⟨⟨St.pick [] (by decide) hS, (hS.frz (i := 1) rfl hlow)⟩, ?_⟩
     refine WT.s [] [12] (by kernel_rfl) (by kernel_rfl) ?_
     refine WRun.fin ?_
     refine all_cons ?_ (all_nil)
     refine storeK (t := 25) [(0, .func (.yield l_) #[] #[]), (1, pb cb1), (2, pb cb2), (3, pb cb3), (4, pb cb4), (6, iv x103), (7, pb b120), (25, iv y110.2)] 0 0 (.agg #[iv y110.1.Lo, iv y110.1.Hi]) #[iv y110.1.Lo, iv y110.1.Hi] hF hS rfl (by kernel_rfl) ⟨by kernel_rfl⟩ (by kernel_rfl) (by kernel_rfl) (by kernel_rfl) (by kernel_rfl) ⟨by kernel_rfl⟩ fun w a hF hS => ⟨⟨St.pick [] (by decide) hS, (hS.frz (i := 1) rfl hlow)⟩, ?_⟩
     refine WT.z [13] (by kernel_rfl) ?_
     refine runC (rest := []) (obs := []) [13] [(0, .func (.yield l_) #[] #[]), (1, pb cb1), (2, pb cb2), (3, pb cb3), (4, pb cb4), (6, iv x103), (7, pb b120)] hF (by kernel_rfl) (by kernel_rfl) onil ⟨by kernel_rfl⟩ fun a hF => ?_
     refine WRun.fin ?_
     replace hS : St w0 (blk b120 25 #[iv y110.1.Lo, iv y110.1.Hi] :: fz w0 ν102 :: (RC s104 true g105 ++ G_)) w := hS
     exact ⟨b120, hF.sub (by kernel_rfl), St.pickT (A := [blk b120 25 #[iv y110.1.Lo, iv y110.1.Hi], fz w0 ν102]) (T := (RC s104 true g105 ++ G_)) [0, 1] (by decide) hS⟩
    ·skip
     refine allocK (t := 25) (fun b121 => [(0, .func (.yield l_) #[] #[]), (1, pb cb1), (2, pb cb2), (3, pb cb3), (4, pb cb4), (6, iv x103), (7, pb b121), (16, c0_.ag), (17, iv c1_), (21, .agg #[iv c2_.Steps.1.Lo, iv c2_.Steps.1.Hi]), (22, iv x103)]) #[iv 0, iv 0] hF hS (by kernel_rfl) ⟨by kernel_rfl⟩ (by kernel_rfl) (fun _ => ⟨by kernel_rfl⟩) fun b121 w a hF hS => ⟨⟨St.pick [] (by decide) hS, (hS.frz (i := 1) rfl hlow)⟩, ?_⟩
     refine WT.s [] [7] (by kernel_rfl) (by kernel_rfl) ?_
     refine WRun.fin ?_
     refine all_cons ?_ (all_nil)
     refine callK (f := 125) (args := #[c0_.ag, iv c1_, .agg #[iv c2_.Steps.1.Lo, iv c2_.Steps.1.Hi], iv x103]) (R := fun v w2 => v = .tuple #[.agg #[iv y110.1.Lo, iv y110.1.Hi], iv y110.2] ∧ Ext w w2) (fun v122 => [(0, .func (.yield l_) #[] #[]), (1, pb cb1), (2, pb cb2), (3, pb cb3), (4, pb cb4), (6, iv x103), (7, pb b121), (23, v122)]) hF (by kernel_rfl) ⟨by kernel_rfl⟩ (Calls.mono (pulse_Speed_ok F c0_ c1_ (api_Span.mk c2_.Steps.1.Lo c2_.Steps.1.Hi) x103 _ hy110 (memOf w) w (memOf_at w) ) (fun e w2 h => ⟨_, h.1, rfl, h.2⟩)) (fun _ => ⟨by kernel_rfl⟩) ?_
     rintro v122 w a ⟨rfl, hx⟩ hF
     replace hS := hS.later hx
     refine ⟨⟨St.pick [] (by decide) hS, (hS.frz (i := 1) rfl hlow)⟩, ?_⟩
     refine WT.s [8, 9, 10] [12] (by kernel_rfl) (by kernel_rfl) ?_
     refine runC (rest := []) (obs := []) [8, 9, 10] [(0, .func (.yield l_) #[] #[]), (1, pb cb1), (2, pb cb2), (3, pb cb3), (4, pb cb4), (6, iv x103), (7, pb b121), (24, .agg #[iv y110.1.Lo, iv y110.1.Hi]), (25, iv y110.2)] hF (by kernel_rfl) (by kernel_rfl) onil ⟨by kernel_rfl⟩ fun a hF => ?_
     refine WRun.fin ?_
     refine all_cons ?_ (all_nil)
     refine storeK (t := 25) [(0, .func (.yield l_) #[] #[]), (1, pb cb1), (2, pb cb2), (3, pb cb3), (4, pb cb4), (6, iv x103), (7, pb b121), (25, iv y110.2)] 0 0 (.agg #[iv y110.1.Lo, iv y110.1.Hi]) #[iv y110.1.Lo, iv y110.1.Hi] hF hS rfl (by kernel_rfl) ⟨by kernel_rfl⟩ (by kernel_rfl) (by kernel_rfl) (by kernel_rfl) (by kernel_rfl) ⟨by kernel_rfl⟩ fun w a hF hS => ⟨⟨St.pick [] (by decide) hS, (hS.frz (i := 1) rfl hlow)⟩, ?_⟩
     refine WT.z [13] (by kernel_rfl) ?_
     refine runC (rest := []) (obs := []) [13] [(0, .func (.yield l_) #[] #[]), (1, pb cb1), (2, pb cb2), (3, pb cb3), (4, pb cb4), (6, iv x103), (7, pb b121)] hF (by kernel_rfl) (by kernel_rfl) onil ⟨by kernel_rfl⟩ fun a hF => ?_
     refine WRun.fin ?_
     replace hS : St w0 (blk b121 25 #[iv y110.1.Lo, iv y110.1.Hi] :: fz w0 ν102 :: (RC s104 true g105 ++ G_)) w := hS
     exact ⟨b121, hF.sub (by kernel_rfl), St.pickT (A := [blk b121 25 #[iv y110.1.Lo, iv y110.1.Hi], fz w0 ν102]) (T := (RC s104 true g105 ++ G_)) [0, 1] (by decide) hS⟩
   rintro a w ⟨b117, hF, hS⟩
   refine wfn rfl ?_
   refine esr ?_
   refine rx 9 [.run [] (Instr.loadAt 25 (pb b117)) (.agg #[iv y110.1.Lo, iv y110.1.Hi]), .run [] (Instr.loadAt 3 (pb cb4)) (iv c3_), .run [] (Instr.loadAt 3 (pb cb4)) (iv c3_), .call [] 92 #[.agg #[iv y110.1.Lo, iv y110.1.Hi], .agg #[iv (IntKind.i64.wrap (0 - c3_)), iv c3_]] (.tuple #[.agg #[iv (((fold_common (api_Span.mk y110.1.Lo y110.1.Hi) (api_Span.mk (IntKind.i64.wrap (0 - c3_)) c3_)).1).Lo), iv (((fold_common (api_Span.mk y110.1.Lo y110.1.Hi) (api_Span.mk (IntKind.i64.wrap (0 - c3_)) c3_)).1).Hi)], .bool ((fold_common (api_Span.mk y110.1.Lo y110.1.Hi) (api_Span.mk (IntKind.i64.wrap (0 - c3_)) c3_)).2)])] 9 [(0, .func (.yield l_) #[] #[]), (1, pb cb1), (2, pb cb2), (3, pb cb3), (4, pb cb4), (6, iv x103), (33, .agg #[iv (((fold_common (api_Span.mk y110.1.Lo y110.1.Hi) (api_Span.mk (IntKind.i64.wrap (0 - c3_)) c3_)).1).Lo), iv (((fold_common (api_Span.mk y110.1.Lo y110.1.Hi) (api_Span.mk (IntKind.i64.wrap (0 - c3_)) c3_)).1).Hi)]), (34, .bool ((fold_common (api_Span.mk y110.1.Lo y110.1.Hi) (api_Span.mk (IntKind.i64.wrap (0 - c3_)) c3_)).2))] hF (ocons (obN (us := [iv y110.1.Lo, iv y110.1.Hi]) (by kernel_rfl) (fun _ hd => ((hS.later hd).blk (i := 0) rfl).cells rfl)) (ocons (ob1 (by kernel_rfl) (fun _ hd => (hcb4.blk ((hS.later hd).frz (i := 1) rfl hlow)).cell1 (j := 0) rfl)) (ocons (ob1 (by kernel_rfl) (fun _ hd => (hcb4.blk ((hS.later hd).frz (i := 1) rfl hlow)).cell1 (j := 0) rfl)) (ocons (show Ob.ok _ Ext _ _ from fun hk w2 hd => fold_common_ok (api_Span.mk y110.1.Lo y110.1.Hi) (api_Span.mk (IntKind.i64.wrap (0 - c3_)) c3_) _ rfl _ w2 (memOf_at w2) ) onil)))) fun a w hF hx => ?_
   replace hS := hS.later hx
   refine SK.wi (allocK (t := 25) (fun b123 => [(0, .func (.yield l_) #[] #[]), (1, pb cb1), (2, pb cb2), (3, pb cb3), (4, pb cb4), (6, iv x103), (9, pb b123), (33, .agg #[iv (((fold_common (api_Span.mk y110.1.Lo y110.1.Hi) (api_Span.mk (IntKind.i64.wrap (0 - c3_)) c3_)).1).Lo), iv (((fold_common (api_Span.mk y110.1.Lo y110.1.Hi) (api_Span.mk (IntKind.i64.wrap (0 - c3_)) c3_)).1).Hi)]), (34, .bool ((fold_common (api_Span.mk y110.1.Lo y110.1.Hi) (api_Span.mk (IntKind.i64.wrap (0 - c3_)) c3_)).2))]) #[iv 0, iv 0] hF hS (by kernel_rfl) ⟨by kernel_rfl⟩ (by kernel_rfl) (fun _ => ⟨by kernel_rfl⟩) fun b123 w a hF hS => ?_)
   refine SK.wi (storeK (t := 25) [(0, .func (.yield l_) #[] #[]), (1, pb cb1), (2, pb cb2), (3, pb cb3), (4, pb cb4), (6, iv x103), (9, pb b123), (34, .bool ((fold_common (api_Span.mk y110.1.Lo y110.1.Hi) (api_Span.mk (IntKind.i64.wrap (0 - c3_)) c3_)).2))] 0 0 (.agg #[iv (((fold_common (api_Span.mk y110.1.Lo y110.1.Hi) (api_Span.mk (IntKind.i64.wrap (0 - c3_)) c3_)).1).Lo), iv (((fold_common (api_Span.mk y110.1.Lo y110.1.Hi) (api_Span.mk (IntKind.i64.wrap (0 - c3_)) c3_)).1).Hi)]) #[iv (((fold_common (api_Span.mk y110.1.Lo y110.1.Hi) (api_Span.mk (IntKind.i64.wrap (0 - c3_)) c3_)).1).Lo), iv (((fold_common (api_Span.mk y110.1.Lo y110.1.Hi) (api_Span.mk (IntKind.i64.wrap (0 - c3_)) c3_)).1).Hi)] hF hS rfl (by kernel_rfl) ⟨by kernel_rfl⟩ (by kernel_rfl) (by kernel_rfl) (by kernel_rfl) (by kernel_rfl) ⟨by kernel_rfl⟩ fun w a hF hS => ?_)
   refine rn 1 12 [(0, .func (.yield l_) #[] #[]), (1, pb cb1), (2, pb cb2), (3, pb cb3), (4, pb cb4), (6, iv x103), (9, pb b123), (10, .bool ((fold_common (api_Span.mk y110.1.Lo y110.1.Hi) (api_Span.mk (IntKind.i64.wrap (0 - c3_)) c3_)).2))] hF fun a hF => ?_
   refine wfn rfl ?_
   refine esr ?_
   refine rn 2 2 [(0, .func (.yield l_) #[] #[]), (1, pb cb1), (2, pb cb2), (3, pb cb3), (4, pb cb4), (6, iv x103), (9, pb b123), (36, .bool ((fold_common (api_Span.mk y110.1.Lo y110.1.Hi) (api_Span.mk (IntKind.i64.wrap (0 - c3_)) c3_)).2))] hF fun a hF => ?_
   rcases Bool.eq_false_or_eq_true (((fold_common (api_Span.mk y110.1.Lo y110.1.Hi) (api_Span.mk (IntKind.i64.wrap (0 - c3_)) c3_)).2)) with hg124 | hg124
   ·replace h := bif_t h hg124
    rw [hg124] at hF
    refine run_C (n := 4) (obs := [.run [⟨36, true, true⟩] (Instr.loadAt 25 (pb b123)) (.agg #[iv (((fold_common (api_Span.mk y110.1.Lo y110.1.Hi) (api_Span.mk (IntKind.i64.wrap (0 - c3_)) c3_)).1).Lo), iv (((fold_common (api_Span.mk y110.1.Lo y110.1.Hi) (api_Span.mk (IntKind.i64.wrap (0 - c3_)) c3_)).1).Hi)])]) 6 [(0, ⟨[], .func (.yield l_) #[] #[]⟩), (1, ⟨[], pb cb1⟩), (2, ⟨[], pb cb2⟩), (3, ⟨[], pb cb3⟩), (4, ⟨[], pb cb4⟩), (6, ⟨[], iv x103⟩), (36, ⟨[], .bool true⟩), (37, ⟨[⟨36, true, true⟩], .func (.yield l_) #[] #[]⟩), (40, ⟨[⟨36, true, true⟩], .agg #[iv x103, iv (((fold_common (api_Span.mk y110.1.Lo y110.1.Hi) (api_Span.mk (IntKind.i64.wrap (0 - c3_)) c3_)).1).Lo), iv (((fold_common (api_Span.mk y110.1.Lo y110.1.Hi) (api_Span.mk (IntKind.i64.wrap (0 - c3_)) c3_)).1).Hi)]⟩)] hF (by kernel_rfl) (ocons (obN (us := [iv (((fold_common (api_Span.mk y110.1.Lo y110.1.Hi) (api_Span.mk (IntKind.i64.wrap (0 - c3_)) c3_)).1).Lo), iv (((fold_common (api_Span.mk y110.1.Lo y110.1.Hi) (api_Span.mk (IntKind.i64.wrap (0 - c3_)) c3_)).1).Hi)]) (by kernel_rfl) (fun _ hd => ((hS.at_ hd).blk (i := 0) rfl).cells rfl)) onil) ⟨by kernel_rfl⟩ (by kernel_rfl) rfl fun a hF => ?_
    replace hF : Fr 44 [] [(0, .func (.yield l_) #[] #[]), (1, pb cb1), (2, pb cb2), (3, pb cb3), (4, pb cb4), (6, iv x103), (36, .bool true), (37, .func (.yield l_) #[] #[]), (40, .agg #[iv x103, iv (((fold_common (api_Span.mk y110.1.Lo y110.1.Hi) (api_Span.mk (IntKind.i64.wrap (0 - c3_)) c3_)).1).Lo), iv (((fold_common (api_Span.mk y110.1.Lo y110.1.Hi) (api_Span.mk (IntKind.i64.wrap (0 - c3_)) c3_)).1).Hi)])] a := hF
    replace h := bindS h
    obtain ⟨q125, hq125, h⟩ := h
    refine yield_ (l := l_) (args := #[.agg #[iv x103, iv (((fold_common (api_Span.mk y110.1.Lo y110.1.Hi) (api_Span.mk (IntKind.i64.wrap (0 - c3_)) c3_)).1).Lo), iv (((fold_common (api_Span.mk y110.1.Lo y110.1.Hi) (api_Span.mk (IntKind.i64.wrap (0 - c3_)) c3_)).1).Hi)]]) 7 (fun bq_ => [(0, .func (.yield l_) #[] #[]), (1, pb cb1), (2, pb cb2), (3, pb cb3), (4, pb cb4), (6, iv x103), (36, .bool true), (41, .bool bq_)]) hF (by kernel_rfl) ⟨by kernel_rfl⟩ (hy s104 (fold_option.mk x103 (api_Span.mk (((fold_common (api_Span.mk y110.1.Lo y110.1.Hi) (api_Span.mk (IntKind.i64.wrap (0 - c3_)) c3_)).1).Lo) (((fold_common (api_Span.mk y110.1.Lo y110.1.Hi) (api_Span.mk (IntKind.i64.wrap (0 - c3_)) c3_)).1).Hi))) q125 hq125 ν102 g105 (G_ ++ [blk b123 25 #[iv (((fold_common (api_Span.mk y110.1.Lo y110.1.Hi) (api_Span.mk (IntKind.i64.wrap (0 - c3_)) c3_)).1).Lo), iv (((fold_common (api_Span.mk y110.1.Lo y110.1.Hi) (api_Span.mk (IntKind.i64.wrap (0 - c3_)) c3_)).1).Hi)], blk b117 25 #[iv y110.1.Lo, iv y110.1.Hi]]) w  hext hlow hP  (St.rot [blk b123 25 #[iv (((fold_common (api_Span.mk y110.1.Lo y110.1.Hi) (api_Span.mk (IntKind.i64.wrap (0 - c3_)) c3_)).1).Lo), iv (((fold_common (api_Span.mk y110.1.Lo y110.1.Hi) (api_Span.mk (IntKind.i64.wrap (0 - c3_)) c3_)).1).Hi)], blk b117 25 #[iv y110.1.Lo, iv y110.1.Hi]] hS)) (fun _ => ⟨by kernel_rfl⟩) rfl ?_
    rintro bq_ w a ⟨hc_, ν126, g127, hx128, hlow, hP, hS⟩ hF
    subst hc_
    replace hS := St.unrot [blk b123 25 #[iv (((fold_common (api_Span.mk y110.1.Lo y110.1.Hi) (api_Span.mk (IntKind.i64.wrap (0 - c3_)) c3_)).1).Lo), iv (((fold_common (api_Span.mk y110.1.Lo y110.1.Hi) (api_Span.mk (IntKind.i64.wrap (0 - c3_)) c3_)).1).Hi)], blk b117 25 #[iv y110.1.Lo, iv y110.1.Hi]] hS
    replace hext := Frz.ext_trans hext hx128
    replace hcb1 := hcb1.mono hx128.1
    replace hcb2 := hcb2.mono hx128.1
    replace hcb3 := hcb3.mono hx128.1
    replace hcb4 := hcb4.mono hx128.1
    replace hle106 := Frz.le_trans hle106 hx128.1
    replace hS : St w0 (blk b123 25 #[iv (((fold_common (api_Span.mk y110.1.Lo y110.1.Hi) (api_Span.mk (IntKind.i64.wrap (0 - c3_)) c3_)).1).Lo), iv (((fold_common (api_Span.mk y110.1.Lo y110.1.Hi) (api_Span.mk (IntKind.i64.wrap (0 - c3_)) c3_)).1).Hi)] :: blk b117 25 #[iv y110.1.Lo, iv y110.1.Hi] :: fz w0 ν126 :: (RC q125.1 (q125.2) g127 ++ G_)) w := hS
    rcases Bool.eq_false_or_eq_true (q125.2) with hb129 | hb129
    ·replace h := bif_t h hb129
     rw [hb129] at hS hP
     rw [hb129] at hF
     replace hS : St w0 (blk b123 25 #[iv (((fold_common (api_Span.mk y110.1.Lo y110.1.Hi) (api_Span.mk (IntKind.i64.wrap (0 - c3_)) c3_)).1).Lo), iv (((fold_common (api_Span.mk y110.1.Lo y110.1.Hi) (api_Span.mk (IntKind.i64.wrap (0 - c3_)) c3_)).1).Hi)] :: blk b117 25 #[iv y110.1.Lo, iv y110.1.Hi] :: fz w0 ν126 :: (RC q125.1 true g127 ++ G_)) w := hS
     refine rn 2 9 [(0, .func (.yield l_) #[] #[]), (1, pb cb1), (2, pb cb2), (3, pb cb3), (4, pb cb4), (6, iv x103), (43, .bool false)] hF fun a hF => ?_
     refine wfn rfl ?_
     refine wpIn_cond_false (hF.get rfl) ?_
     refine wpIn_skip (norm_block <| norm_then <| ?_)
     refine WI.region ?_
     replace h := bindS h
     obtain ⟨x130, hx130, h⟩ := h
     refine rno 3 [.run [] (binOp .add 3 (iv x103) (iv 1)) (iv x130)] 3 [(0, .func (.yield l_) #[] #[]), (1, pb cb1), (2, pb cb2), (3, pb cb3), (4, pb cb4), (6, iv x130)] hF (ocons (obAddC (fun _ => hx130)) onil) fun a hF => ?_
     refine wfn rfl ?_
     rw [hk1] at h
     exact ⟨n_, Nat.lt_succ_self _, x130, q125.1, ν126, g127, hF.sub (by kernel_rfl), St.pickT (A := [blk b123 25 #[iv (((fold_common (api_Span.mk y110.1.Lo y110.1.Hi) (api_Span.mk (IntKind.i64.wrap (0 - c3_)) c3_)).1).Lo), iv (((fold_common (api_Span.mk y110.1.Lo y110.1.Hi) (api_Span.mk (IntKind.i64.wrap (0 - c3_)) c3_)).1).Hi)], blk b117 25 #[iv y110.1.Lo, iv y110.1.Hi], fz w0 ν126]) (T := (RC q125.1 true g127 ++ G_)) [2] (by decide) hS, hP, hle106, hext, hlow, h⟩
    ·replace h := bif_f h hb129
     rw [hb129] at hS hP
     rw [hb129] at hF
     replace hS : St w0 (blk b123 25 #[iv (((fold_common (api_Span.mk y110.1.Lo y110.1.Hi) (api_Span.mk (IntKind.i64.wrap (0 - c3_)) c3_)).1).Lo), iv (((fold_common (api_Span.mk y110.1.Lo y110.1.Hi) (api_Span.mk (IntKind.i64.wrap (0 - c3_)) c3_)).1).Hi)] :: blk b117 25 #[iv y110.1.Lo, iv y110.1.Hi] :: fz w0 ν126 :: (RC q125.1 false g127 ++ G_)) w := hS
     refine rn 2 9 [(0, .func (.yield l_) #[] #[]), (1, pb cb1), (2, pb cb2), (3, pb cb3), (4, pb cb4), (6, iv x103), (43, .bool true)] hF fun a hF => ?_
     refine wfn rfl ?_
     refine wpIn_cond_true (hF.get rfl) ?_
     refine wpIn_ret (ret_block <| ret_then <| ret_then <| ret_block <| fn_ret [] [] hF rfl trivial ?_)
     have hr_ := Option.some.inj h
     subst hr_
     exact ⟨ν126, g127, hext, hlow, hP, rfl, hS.drop1.drop1⟩
   ·replace h := bif_f h hg124
    rw [hg124] at hF
    refine skip_ 3 [(0, .func (.yield l_) #[] #[]), (1, pb cb1), (2, pb cb2), (3, pb cb3), (4, pb cb4), (6, iv x103), (9, pb b123), (36, .bool false), (37, undef)] hF (by kernel_rfl) ⟨by kernel_rfl⟩ ⟨by kernel_rfl⟩ rfl fun a hF => ?_
    refine skip_ 4 [(0, .func (.yield l_) #[] #[]), (1, pb cb1), (2, pb cb2), (3, pb cb3), (4, pb cb4), (6, iv x103), (9, pb b123), (36, .bool false), (37, undef), (38, undef)] hF (by kernel_rfl) ⟨by kernel_rfl⟩ ⟨by kernel_rfl⟩ rfl fun a hF => ?_
    refine skip_ 5 [(0, .func (.yield l_) #[] #[]), (1, pb cb1), (2, pb cb2), (3, pb cb3), (4, pb cb4), (6, iv x103), (36, .bool false), (37, undef), (38, undef), (39, undef)] hF (by kernel_rfl) ⟨by kernel_rfl⟩ ⟨by kernel_rfl⟩ rfl fun a hF => ?_
    refine skip_ 6 [(0, .func (.yield l_) #[] #[]), (1, pb cb1), (2, pb cb2), (3, pb cb3), (4, pb cb4), (6, iv x103), (36, .bool false), (37, undef), (40, undef)] hF (by kernel_rfl) ⟨by kernel_rfl⟩ ⟨by kernel_rfl⟩ rfl fun a hF => ?_
    refine skip_ 7 [(0, .func (.yield l_) #[] #[]), (1, pb cb1), (2, pb cb2), (3, pb cb3), (4, pb cb4), (6, iv x103), (36, .bool false), (41, undef)] hF (by kernel_rfl) ⟨by kernel_rfl⟩ ⟨by kernel_rfl⟩ rfl fun a hF => ?_
    refine skip_ 8 [(0, .func (.yield l_) #[] #[]), (1, pb cb1), (2, pb cb2), (3, pb cb3), (4, pb cb4), (6, iv x103), (36, .bool false), (42, undef)] hF (by kernel_rfl) ⟨by kernel_rfl⟩ ⟨by kernel_rfl⟩ rfl fun a hF => ?_
    refine rn 1 9 [(0, .func (.yield l_) #[] #[]), (1, pb cb1), (2, pb cb2), (3, pb cb3), (4, pb cb4), (6, iv x103), (43, .bool false)] hF fun a hF => ?_
    refine wfn rfl ?_
    refine wpIn_cond_false (hF.get rfl) ?_
    refine wpIn_skip (norm_block <| norm_then <| ?_)
    refine WI.region ?_
    replace h := bindS h
    obtain ⟨x131, hx131, h⟩ := h
    refine rno 3 [.run [] (binOp .add 3 (iv x103) (iv 1)) (iv x131)] 3 [(0, .func (.yield l_) #[] #[]), (1, pb cb1), (2, pb cb2), (3, pb cb3), (4, pb cb4), (6, iv x131)] hF (ocons (obAddC (fun _ => hx131)) onil) fun a hF => ?_
    refine wfn rfl ?_
    rw [hk1] at h
    exact ⟨n_, Nat.lt_succ_self _, x131, s104, ν102, g105, hF.sub (by kernel_rfl), St.pickT (A := [blk b123 25 #[iv (((fold_common (api_Span.mk y110.1.Lo y110.1.Hi) (api_Span.mk (IntKind.i64.wrap (0 - c3_)) c3_)).1).Lo), iv (((fold_common (api_Span.mk y110.1.Lo y110.1.Hi) (api_Span.mk (IntKind.i64.wrap (0 - c3_)) c3_)).1).Hi)], blk b117 25 #[iv y110.1.Lo, iv y110.1.Hi], fz w0 ν102]) (T := (RC s104 true g105 ++ G_)) [2] (by decide) hS, hP, hle106, hext, hlow, h⟩
  ·replace h := bif_f h hg108
   rcases Bool.eq_false_or_eq_true ((c1_ == 1)) with hg132 | hg132
   ·replace h := bif_t h hg132
    replace h := bindS h
    obtain ⟨y134, hy134, h⟩ := h
    refine region_treeW 14 [7, 11, 12] (fun a w => ∃ (b141 : Nat), Fr 44 [] [(0, .func (.yield l_) #[] #[]), (1, pb cb1), (2, pb cb2), (3, pb cb3), (4, pb cb4), (6, iv x103), (7, pb b141)] a ∧ St w0 (blk b141 25 #[iv y134.1.Lo, iv y134.1.Hi] :: fz w0 ν102 :: (RC s104 true g105 ++ G_)) w) (D := fun w => St w0 [] w ∧ FrzAt ν102 w) (by kernel_rfl) (by kernel_rfl) hF.size (fun w hx => ?_) ?_
    ·skip
     replace hS := hS.later hx
     refine ⟨⟨St.pick [] (by decide) hS, hS.frz (i := 0) rfl hlow⟩, ?_⟩
     have hcl142 := Frz.le_refl ν102
     refine WT.s [0, 1, 2, 3, 4, 5, 6] [7, 11] (by kernel_rfl) (by kernel_rfl) ?_
     refine runC (rest := []) (obs := [.run [] (Instr.loadAt 33 (pb cb1)) (c0_.ag), .run [] (Instr.loadAt 3 (pb cb2)) (iv c1_), .run [] (Instr.loadAt 3 (pb cb2)) (iv c1_), .run [] (Instr.indexAt 26 (.pointer (some ⟨cb3, 3, none⟩)) (iv c1_)) (.pointer (some ⟨cb3, 5, none⟩)), .run [] (Instr.loadAt 25 (.pointer (some ⟨cb3, 5, none⟩))) (.agg #[iv c2_.Steps.2.Lo, iv c2_.Steps.2.Hi])]) [0, 1, 2, 3, 4, 5, 6] [(0, .func (.yield l_) #[] #[]), (1, pb cb1), (2, pb cb2), (3, pb cb3), (4, pb cb4), (6, iv x103), (16, c0_.ag), (17, iv c1_), (21, .agg #[iv c2_.Steps.2.Lo, iv c2_.Steps.2.Hi]), (22, iv x103)] hF (by kernel_rfl) (by kernel_rfl) (ocons (obN (us := c0_.cells) (by kernel_rfl) (fun _ hd => (hcb1.blk hd.2).cells rfl)) (ocons (ob1 (by kernel_rfl) (fun _ hd => (hcb2.blk hd.2).cell1 (j := 0) rfl)) (ocons (ob1 (by kernel_rfl) (fun _ hd => (hcb2.blk hd.2).cell1 (j := 0) rfl)) (ocons (by rw [show c1_ = (1 : Int) from eq_of_beq hg132]; exact obPureSem (by kernel_rfl)) (ocons (obN (us := [iv c2_.Steps.2.Lo, iv c2_.Steps.2.Hi]) (by kernel_rfl) (fun _ hd => (hcb3.blk hd.2).cells rfl)) onil))))) ⟨by kernel_rfl⟩ fun a hF => ?_
     refine WRun.fin ?_
     refine all_cons ?_ (all_cons ?_ (all_nil))
     ·skip
      refine callK (f := 125) (args := #[c0_.ag, iv c1_, .agg #[iv c2_.Steps.2.Lo, iv c2_.Steps.2.Hi], iv x103]) (R := fun v w2 => v = .tuple #[.agg #[iv y134.1.Lo, iv y134.1.Hi], iv y134.2] ∧ Ext w w2) (fun v143 => [(0, .func (.yield l_) #[] #[]), (1, pb cb1), (2, pb cb2), (3, pb cb3), (4, pb cb4), (6, iv x103), (23, v143)]) hF (by kernel_rfl) ⟨by kernel_rfl⟩ (Calls.mono (pulse_Speed_ok F c0_ c1_ (api_Span.mk c2_.Steps.2.Lo c2_.Steps.2.Hi) x103 _ hy134 (memOf w) w (memOf_at w) ) (fun e w2 h => ⟨_, h.1, rfl, h.2⟩)) (fun _ => ⟨by kernel_rfl⟩) ?_
      rintro v143 w a ⟨rfl, hx⟩ hF
      replace hS := hS.later hx
      refine ⟨⟨St.pick [] (by decide) hS, (hS.frz (i := 0) rfl hlow)⟩, ?_⟩
      refine WT.s [8, 9, 10] [11] (by kernel_rfl) (by kernel_rfl) ?_
      refine runC (rest := []) (obs := []) [8, 9, 10] [(0, .func (.yield l_) #[] #[]), (1, pb cb1), (2, pb cb2), (3, pb cb3), (4, pb cb4), (6, iv x103), (24, .agg #[iv y134.1.Lo, iv y134.1.Hi]), (25, iv y134.2)] hF (by kernel_rfl) (by kernel_rfl) onil ⟨by kernel_rfl⟩ fun a hF => ?_
      refine WRun.fin ?_
      refine all_cons ?_ (all_nil)
      refine allocK (t := 25) (fun b144 => [(0, .func (.yield l_) #[] #[]), (1, pb cb1), (2, pb cb2), (3, pb cb3), (4, pb cb4), (6, iv x103), (7, pb b144), (24, .agg #[iv y134.1.Lo, iv y134.1.Hi]), (25, iv y134.2)]) #[iv 0, iv 0] hF hS (by kernel_rfl) ⟨by kernel_rfl⟩ (by kernel_rfl) (fun _ => ⟨by kernel_rfl⟩) fun b144 w a hF hS => ⟨⟨St.pick [] (by decide) hS, (hS.frz (i := 1) rfl hlow)⟩, ?_⟩
      refine WT.s [] [12] (by kernel_rfl) (by kernel_rfl) ?_
      refine WRun.fin ?_
      refine all_cons ?_ (all_nil)
      refine storeK (t := 25) [(0, .func (.yield l_) #[] #[]), (1, pb cb1), (2, pb cb2), (3, pb cb3), (4, pb cb4), (6, iv x103), (7, pb b144), (25, iv y134.2)] 0 0 (.agg #[iv y134.1.Lo, iv y134.1.Hi]) #[iv y134.1.Lo, iv y134.1.Hi] hF hS rfl (by kernel_rfl) ⟨by kernel_rfl⟩ (by kernel_rfl) (by kernel_rfl) (by kernel_rfl) (by kernel_rfl) ⟨by kernel_rfl⟩ fun w a hF hS => ⟨⟨St.pick [] (by decide) hS, (hS.frz (i := 1) rfl hlow)⟩, ?_⟩
      refine WT.z [13] (by kernel_rfl) ?_
      refine runC (rest := []) (obs := []) [13] [(0, .func (.yield l_) #[] #[]), (1, pb cb1), (2, pb cb2), (3, pb cb3), (4, pb cb4), (6, iv x103), (7, pb b144)] hF (by kernel_rfl) (by kernel_rfl) onil ⟨by kernel_rfl⟩ fun a hF => ?_
      refine WRun.fin ?_
      replace hS : St w0 (blk b144 25 #[iv y134.1.Lo, iv y134.1.Hi] :: fz w0 ν102 :: (RC s104 true g105 ++ G_)) w := hS
      exact ⟨b144, hF.sub (by kernel_rfl), St.pickT (A := [blk b144 25 #[iv y134.1.Lo, iv y134.1.Hi], fz w0 ν102]) (T := (RC s104 true g105 ++ G_)) [0, 1] (by decide) hS⟩
     ·skip
      refine allocK (t := 25) (fun b145 => [(0, .func (.yield l_) #[] #[]), (1, pb cb1), (2, pb cb2), (3, pb cb3), (4, pb cb4), (6, iv x103), (7, pb b145), (16, c0_.ag), (17, iv c1_), (21, .agg #[iv c2_.Steps.2.Lo, iv c2_.Steps.2.Hi]), (22, iv x103)]) #[iv 0, iv 0] hF hS (by kernel_rfl) ⟨by kernel_rfl⟩ (by kernel_rfl) (fun _ => ⟨by kernel_rfl⟩) fun b145 w a hF hS => ⟨⟨St.pick [] (by decide) hS, (hS.frz (i := 1) rfl hlow)⟩, ?_⟩
      refine WT.s [] [7] (by kernel_rfl) (by kernel_rfl) ?_
      refine WRun.fin ?_
      refine all_cons ?_ (all_nil)
      refine callK (f := 125) (args := #[c0_.ag, iv c1_, .agg #[iv c2_.Steps.2.Lo, iv c2_.Steps.2.Hi], iv x103]) (R := fun v w2 => v = .tuple #[.agg #[iv y134.1.Lo, iv y134.1.Hi], iv y134.2] ∧ Ext w w2) (fun v146 => [(0, .func (.yield l_) #[] #[]), (1, pb cb1), (2, pb cb2), (3, pb cb3), (4, pb cb4), (6, iv x103), (7, pb b145), (23, v146)]) hF (by kernel_rfl) ⟨by kernel_rfl⟩ (Calls.mono (pulse_Speed_ok F c0_ c1_ (api_Span.mk c2_.Steps.2.Lo c2_.Steps.2.Hi) x103 _ hy134 (memOf w) w (memOf_at w) ) (fun e w2 h => ⟨_, h.1, rfl, h.2⟩)) (fun _ => ⟨by kernel_rfl⟩) ?_
      rintro v146 w a ⟨rfl, hx⟩ hF
      replace hS := hS.later hx
      refine ⟨⟨St.pick [] (by decide) hS, (hS.frz (i := 1) rfl hlow)⟩, ?_⟩
      refine WT.s [8, 9, 10] [12] (by kernel_rfl) (by kernel_rfl) ?_
      refine runC (rest := []) (obs := []) [8, 9, 10] [(0, .func (.yield l_) #[] #[]), (1, pb cb1), (2, pb cb2), (3, pb cb3), (4, pb cb4), (6, iv x103), (7, pb b145), (24, .agg #[iv y134.1.Lo, iv y134.1.Hi]), (25, iv y134.2)] hF (by kernel_rfl) (by kernel_rfl) onil ⟨by kernel_rfl⟩ fun a hF => ?_
      refine WRun.fin ?_
      refine all_cons ?_ (all_nil)
      refine storeK (t := 25) [(0, .func (.yield l_) #[] #[]), (1, pb cb1), (2, pb cb2), (3, pb cb3), (4, pb cb4), (6, iv x103), (7, pb b145), (25, iv y134.2)] 0 0 (.agg #[iv y134.1.Lo, iv y134.1.Hi]) #[iv y134.1.Lo, iv y134.1.Hi] hF hS rfl (by kernel_rfl) ⟨by kernel_rfl⟩ (by kernel_rfl) (by kernel_rfl) (by kernel_rfl) (by kernel_rfl) ⟨by kernel_rfl⟩ fun w a hF hS => ⟨⟨St.pick [] (by decide) hS, (hS.frz (i := 1) rfl hlow)⟩, ?_⟩
      refine WT.z [13] (by kernel_rfl) ?_
      refine runC (rest := []) (obs := []) [13] [(0, .func (.yield l_) #[] #[]), (1, pb cb1), (2, pb cb2), (3, pb cb3), (4, pb cb4), (6, iv x103), (7, pb b145)] hF (by kernel_rfl) (by kernel_rfl) onil ⟨by kernel_rfl⟩ fun a hF => ?_
      refine WRun.fin ?_
      replace hS : St w0 (blk b145 25 #[iv y134.1.Lo, iv y134.1.Hi] :: fz w0 ν102 :: (RC s104 true g105 ++ G_)) w := hS
      exact ⟨b145, hF.sub (by kernel_rfl), St.pickT (A := [blk b145 25 #[iv y134.1.Lo, iv y134.1.Hi], fz w0 ν102]) (T := (RC s104 true g105 ++ G_)) [0, 1] (by decide) hS⟩
    rintro a w ⟨b141, hF, hS⟩
    refine wfn rfl ?_
    refine esr ?_
    refine rx 9 [.run [] (Instr.loadAt 25 (pb b141)) (.agg #[iv y134.1.Lo, iv y134.1.Hi]), .run [] (Instr.loadAt 3 (pb cb4)) (iv c3_), .run [] (Instr.loadAt 3 (pb cb4)) (iv c3_), .call [] 92 #[.agg #[iv y134.1.Lo, iv y134.1.Hi], .agg #[iv (IntKind.i64.wrap (0 - c3_)), iv c3_]] (.tuple #[.agg #[iv (((fold_common (api_Span.mk y134.1.Lo y134.1.Hi) (api_Span.mk (IntKind.i64.wrap (0 - c3_)) c3_)).1).Lo), iv (((fold_common (api_Span.mk y134.1.Lo y134.1.Hi) (api_Span.mk (IntKind.i64.wrap (0 - c3_)) c3_)).1).Hi)], .bool ((fold_common (api_Span.mk y134.1.Lo y134.1.Hi) (api_Span.mk (IntKind.i64.wrap (0 - c3_)) c3_)).2)])] 9 [(0, .func (.yield l_) #[] #[]), (1, pb cb1), (2, pb cb2), (3, pb cb3), (4, pb cb4), (6, iv x103), (33, .agg #[iv (((fold_common (api_Span.mk y134.1.Lo y134.1.Hi) (api_Span.mk (IntKind.i64.wrap (0 - c3_)) c3_)).1).Lo), iv (((fold_common (api_Span.mk y134.1.Lo y134.1.Hi) (api_Span.mk (IntKind.i64.wrap (0 - c3_)) c3_)).1).Hi)]), (34, .bool ((fold_common (api_Span.mk y134.1.Lo y134.1.Hi) (api_Span.mk (IntKind.i64.wrap (0 - c3_)) c3_)).2))] hF (ocons (obN (us := [iv y134.1.Lo, iv y134.1.Hi]) (by kernel_rfl) (fun _ hd => ((hS.later hd).blk (i := 0) rfl).cells rfl)) (ocons (ob1 (by kernel_rfl) (fun _ hd => (hcb4.blk ((hS.later hd).frz (i := 1) rfl hlow)).cell1 (j := 0) rfl)) (ocons (ob1 (by kernel_rfl) (fun _ hd => (hcb4.blk ((hS.later hd).frz (i := 1) rfl hlow)).cell1 (j := 0) rfl)) (ocons (show Ob.ok _ Ext _ _ from fun hk w2 hd => fold_common_ok (api_Span.mk y134.1.Lo y134.1.Hi) (api_Span.mk (IntKind.i64.wrap (0 - c3_)) c3_) _ rfl _ w2 (memOf_at w2) ) onil)))) fun a w hF hx => ?_
    replace hS := hS.later hx
    refine SK.wi (allocK (t := 25) (fun b147 => [(0, .func (.yield l_) #[] #[]), (1, pb cb1), (2, pb cb2), (3, pb cb3), (4, pb cb4), (6, iv x103), (9, pb b147), (33, .agg #[iv (((fold_common (api_Span.mk y134.1.Lo y134.1.Hi) (api_Span.mk (IntKind.i64.wrap (0 - c3_)) c3_)).1).Lo), iv (((fold_common (api_Span.mk y134.1.Lo y134.1.Hi) (api_Span.mk (IntKind.i64.wrap (0 - c3_)) c3_)).1).Hi)]), (34, .bool ((fold_common (api_Span.mk y134.1.Lo y134.1.Hi) (api_Span.mk (IntKind.i64.wrap (0 - c3_)) c3_)).2))]) #[iv 0, iv 0] hF hS (by kernel_rfl) ⟨by kernel_rfl⟩ (by kernel_rfl) (fun _ => ⟨by kernel_rfl⟩) fun b147 w a hF hS => ?_)
    refine SK.wi (storeK (t := 25) [(0, .func (.yield l_) #[] #[]), (1, pb cb1), (2, pb cb2), (3, pb cb3), (4, pb cb4), (6, iv x103), (9, pb b147), (34, .bool ((fold_common (api_Span.mk y134.1.Lo y134.1.Hi) (api_Span.mk (IntKind.i64.wrap (0 - c3_)) c3_)).2))] 0 0 (.agg #[iv (((fold_common (api_Span.mk y134.1.Lo y134.1.Hi) (api_Span.mk (IntKind.i64.wrap (0 - c3_)) c3_)).1).Lo), iv (((fold_common (api_Span.mk y134.1.Lo y134.1.Hi) (api_Span.mk (IntKind.i64.wrap (0 - c3_)) c3_)).1).Hi)]) #[iv (((fold_common (api_Span.mk y134.1.Lo y134.1.Hi) (api_Span.mk (IntKind.i64.wrap (0 - c3_)) c3_)).1).Lo), iv (((fold_common (api_Span.mk y134.1.Lo y134.1.Hi) (api_Span.mk (IntKind.i64.wrap (0 - c3_)) c3_)).1).Hi)] hF hS rfl (by kernel_rfl) ⟨by kernel_rfl⟩ (by kernel_rfl) (by kernel_rfl) (by kernel_rfl) (by kernel_rfl) ⟨by kernel_rfl⟩ fun w a hF hS => ?_)
    refine rn 1 12 [(0, .func (.yield l_) #[] #[]), (1, pb cb1), (2, pb cb2), (3, pb cb3), (4, pb cb4), (6, iv x103), (9, pb b147), (10, .bool ((fold_common (api_Span.mk y134.1.Lo y134.1.Hi) (api_Span.mk (IntKind.i64.wrap (0 - c3_)) c3_)).2))] hF fun a hF => ?_
    refine wfn rfl ?_
    refine esr ?_
    refine rn 2 2 [(0, .func (.yield l_) #[] #[]), (1, pb cb1), (2, pb cb2), (3, pb cb3), (4, pb cb4), (6, iv x103), (9, pb b147), (36, .bool ((fold_common (api_Span.mk y134.1.Lo y134.1.Hi) (api_Span.mk (IntKind.i64.wrap (0 - c3_)) c3_)).2))] hF fun a hF => ?_
    rcases Bool.eq_false_or_eq_true (((fold_common (api_Span.mk y134.1.Lo y134.1.Hi) (api_Span.mk (IntKind.i64.wrap (0 - c3_)) c3_)).2)) with hg148 | hg148
    ·replace h := bif_t h hg148
     rw [hg148] at hF
     refine run_C (n := 4) (obs := [.run [⟨36, true, true⟩] (Instr.loadAt 25 (pb b147)) (.agg #[iv (((fold_common (api_Span.mk y134.1.Lo y134.1.Hi) (api_Span.mk (IntKind.i64.wrap (0 - c3_)) c3_)).1).Lo), iv (((fold_common (api_Span.mk y134.1.Lo y134.1.Hi) (api_Span.mk (IntKind.i64.wrap (0 - c3_)) c3_)).1).Hi)])]) 6 [(0, ⟨[], .func (.yield l_) #[] #[]⟩), (1, ⟨[], pb cb1⟩), (2, ⟨[], pb cb2⟩), (3, ⟨[], pb cb3⟩), (4, ⟨[], pb cb4⟩), (6, ⟨[], iv x103⟩), (36, ⟨[], .bool true⟩), (37, ⟨[⟨36, true, true⟩], .func (.yield l_) #[] #[]⟩), (40, ⟨[⟨36, true, true⟩], .agg #[iv x103, iv (((fold_common (api_Span.mk y134.1.Lo y134.1.Hi) (api_Span.mk (IntKind.i64.wrap (0 - c3_)) c3_)).1).Lo), iv (((fold_common (api_Span.mk y134.1.Lo y134.1.Hi) (api_Span.mk (IntKind.i64.wrap (0 - c3_)) c3_)).1).Hi)]⟩)] hF (by kernel_rfl) (ocons (obN (us := [iv (((fold_common (api_Span.mk y134.1.Lo y134.1.Hi) (api_Span.mk (IntKind.i64.wrap (0 - c3_)) c3_)).1).Lo), iv (((fold_common (api_Span.mk y134.1.Lo y134.1.Hi) (api_Span.mk (IntKind.i64.wrap (0 - c3_)) c3_)).1).Hi)]) (by kernel_rfl) (fun _ hd => ((hS.at_ hd).blk (i := 0) rfl).cells rfl)) onil) ⟨by kernel_rfl⟩ (by kernel_rfl) rfl fun a hF => ?_
     replace hF : Fr 44 [] [(0, .func (.yield l_) #[] #[]), (1, pb cb1), (2, pb cb2), (3, pb cb3), (4, pb cb4), (6, iv x103), (36, .bool true), (37, .func (.yield l_) #[] #[]), (40, .agg #[iv x103, iv (((fold_common (api_Span.mk y134.1.Lo y134.1.Hi) (api_Span.mk (IntKind.i64.wrap (0 - c3_)) c3_)).1).Lo), iv (((fold_common (api_Span.mk y134.1.Lo y134.1.Hi) (api_Span.mk (IntKind.i64.wrap (0 - c3_)) c3_)).1).Hi)])] a := hF
     replace h := bindS h
     obtain ⟨q149, hq149, h⟩ := h
     refine yield_ (l := l_) (args := #[.agg #[iv x103, iv (((fold_common (api_Span.mk y134.1.Lo y134.1.Hi) (api_Span.mk (IntKind.i64.wrap (0 - c3_)) c3_)).1).Lo), iv (((fold_common (api_Span.mk y134.1.Lo y134.1.Hi) (api_Span.mk (IntKind.i64.wrap (0 - c3_)) c3_)).1).Hi)]]) 7 (fun bq_ => [(0, .func (.yield l_) #[] #[]), (1, pb cb1), (2, pb cb2), (3, pb cb3), (4, pb cb4), (6, iv x103), (36, .bool true), (41, .bool bq_)]) hF (by kernel_rfl) ⟨by kernel_rfl⟩ (hy s104 (fold_option.mk x103 (api_Span.mk (((fold_common (api_Span.mk y134.1.Lo y134.1.Hi) (api_Span.mk (IntKind.i64.wrap (0 - c3_)) c3_)).1).Lo) (((fold_common (api_Span.mk y134.1.Lo y134.1.Hi) (api_Span.mk (IntKind.i64.wrap (0 - c3_)) c3_)).1).Hi))) q149 hq149 ν102 g105 (G_ ++ [blk b147 25 #[iv (((fold_common (api_Span.mk y134.1.Lo y134.1.Hi) (api_Span.mk (IntKind.i64.wrap (0 - c3_)) c3_)).1).Lo), iv (((fold_common (api_Span.mk y134.1.Lo y134.1.Hi) (api_Span.mk (IntKind.i64.wrap (0 - c3_)) c3_)).1).Hi)], blk b141 25 #[iv y134.1.Lo, iv y134.1.Hi]]) w  hext hlow hP  (St.rot [blk b147 25 #[iv (((fold_common (api_Span.mk y134.1.Lo y134.1.Hi) (api_Span.mk (IntKind.i64.wrap (0 - c3_)) c3_)).1).Lo), iv (((fold_common (api_Span.mk y134.1.Lo y134.1.Hi) (api_Span.mk (IntKind.i64.wrap (0 - c3_)) c3_)).1).Hi)], blk b141 25 #[iv y134.1.Lo, iv y134.1.Hi]] hS)) (fun _ => ⟨by kernel_rfl⟩) rfl ?_
     rintro bq_ w a ⟨hc_, ν150, g151, hx152, hlow, hP, hS⟩ hF
     subst hc_
     replace hS := St.unrot [blk b147 25 #[iv (((fold_common (api_Span.mk y134.1.Lo y134.1.Hi) (api_Span.mk (IntKind.i64.wrap (0 - c3_)) c3_)).1).Lo), iv (((fold_common (api_Span.mk y134.1.Lo y134.1.Hi) (api_Span.mk (IntKind.i64.wrap (0 - c3_)) c3_)).1).Hi)], blk b141 25 #[iv y134.1.Lo, iv y134.1.Hi]] hS
     replace hext := Frz.ext_trans hext hx152
     replace hcb1 := hcb1.mono hx152.1
     replace hcb2 := hcb2.mono hx152.1
     replace hcb3 := hcb3.mono hx152.1
     replace hcb4 := hcb4.mono hx152.1
     replace hle106 := Frz.le_trans hle106 hx152.1
     replace hS : St w0 (blk b147 25 #[iv (((fold_common (api_Span.mk y134.1.Lo y134.1.Hi) (api_Span.mk (IntKind.i64.wrap (0 - c3_)) c3_)).1).Lo), iv (((fold_common (api_Span.mk y134.1.Lo y134.1.Hi) (api_Span.mk (IntKind.i64.wrap (0 - c3_)) c3_)).1).Hi)] :: blk b141 25 #[iv y134.1.Lo, iv y134.1.Hi] :: fz w0 ν150 :: (RC q149.1 (q149.2) g151 ++ G_)) w := hS
     rcases Bool.eq_false_or_eq_true (q149.2) with hb153 | hb153
     ·replace h := bif_t h hb153
      rw [hb153] at hS hP
      rw [hb153] at hF
      replace hS : St w0 (blk b147 25 #[iv (((fold_common (api_Span.mk y134.1.Lo y134.1.Hi) (api_Span.mk (IntKind.i64.wrap (0 - c3_)) c3_)).1).Lo), iv (((fold_common (api_Span.mk y134.1.Lo y134.1.Hi) (api_Span.mk (IntKind.i64.wrap (0 - c3_)) c3_)).1).Hi)] :: blk b141 25 #[iv y134.1.Lo, iv y134.1.Hi] :: fz w0 ν150 :: (RC q149.1 true g151 ++ G_)) w := hS
      refine rn 2 9 [(0, .func (.yield l_) #[] #[]), (1, pb cb1), (2, pb cb2), (3, pb cb3), (4, pb cb4), (6, iv x103), (43, .bool false)] hF fun a hF => ?_
      refine wfn rfl ?_
      refine wpIn_cond_false (hF.get rfl) ?_
      refine wpIn_skip (norm_block <| norm_then <| ?_)
      refine WI.region ?_
      replace h := bindS h
      obtain ⟨x154, hx154, h⟩ := h
      refine rno 3 [.run [] (binOp .add 3 (iv x103) (iv 1)) (iv x154)] 3 [(0, .func (.yield l_) #[] #[]), (1, pb cb1), (2, pb cb2), (3, pb cb3), (4, pb cb4), (6, iv x154)] hF (ocons (obAddC (fun _ => hx154)) onil) fun a hF => ?_
      refine wfn rfl ?_
      rw [hk1] at h
      exact ⟨n_, Nat.lt_succ_self _, x154, q149.1, ν150, g151, hF.sub (by kernel_rfl), St.pickT (A := [blk b147 25 #[iv (((fold_common (api_Span.mk y134.1.Lo y134.1.Hi) (api_Span.mk (IntKind.i64.wrap (0 - c3_)) c3_)).1).Lo), iv (((fold_common (api_Span.mk y134.1.Lo y134.1.Hi) (api_Span.mk (IntKind.i64.wrap (0 - c3_)) c3_)).1).Hi)], blk b141 25 #[iv y134.1.Lo, iv y134.1.Hi], fz w0 ν150]) (T := (RC q149.1 true g151 ++ G_)) [2] (by decide) hS, hP, hle106, hext, hlow, h⟩
     ·replace h := bif_f h hb153
      rw [hb153] at hS hP
      rw [hb153] at hF
      replace hS : St w0 (blk b147 25 #[iv (((fold_common (api_Span.mk y134.1.Lo y134.1.Hi) (api_Span.mk (IntKind.i64.wrap (0 - c3_)) c3_)).1).Lo), iv (((fold_common (api_Span.mk y134.1.Lo y134.1.Hi) (api_Span.mk (IntKind.i64.wrap (0 - c3_)) c3_)).1).Hi)] :: blk b141 25 #[iv y134.1.Lo, iv y134.1.Hi] :: fz w0 ν150 :: (RC q149.1 false g151 ++ G_)) w := hS
      refine rn 2 9 [(0, .func (.yield l_) #[] #[]), (1, pb cb1), (2, pb cb2), (3, pb cb3), (4, pb cb4), (6, iv x103), (43, .bool true)] hF fun a hF => ?_
      refine wfn rfl ?_
      refine wpIn_cond_true (hF.get rfl) ?_
      refine wpIn_ret (ret_block <| ret_then <| ret_then <| ret_block <| fn_ret [] [] hF rfl trivial ?_)
      have hr_ := Option.some.inj h
      subst hr_
      exact ⟨ν150, g151, hext, hlow, hP, rfl, hS.drop1.drop1⟩
    ·replace h := bif_f h hg148
     rw [hg148] at hF
     refine skip_ 3 [(0, .func (.yield l_) #[] #[]), (1, pb cb1), (2, pb cb2), (3, pb cb3), (4, pb cb4), (6, iv x103), (9, pb b147), (36, .bool false), (37, undef)] hF (by kernel_rfl) ⟨by kernel_rfl⟩ ⟨by kernel_rfl⟩ rfl fun a hF => ?_
     refine skip_ 4 [(0, .func (.yield l_) #[] #[]), (1, pb cb1), (2, pb cb2), (3, pb cb3), (4, pb cb4), (6, iv x103), (9, pb b147), (36, .bool false), (37, undef), (38, undef)] hF (by kernel_rfl) ⟨by kernel_rfl⟩ ⟨by kernel_rfl⟩ rfl fun a hF => ?_
     refine skip_ 5 [(0, .func (.yield l_) #[] #[]), (1, pb cb1), (2, pb cb2), (3, pb cb3), (4, pb cb4), (6, iv x103), (36, .bool false), (37, undef), (38, undef), (39, undef)] hF (by kernel_rfl) ⟨by kernel_rfl⟩ ⟨by kernel_rfl⟩ rfl fun a hF => ?_
     refine skip_ 6 [(0, .func (.yield l_) #[] #[]), (1, pb cb1), (2, pb cb2), (3, pb cb3), (4, pb cb4), (6, iv x103), (36, .bool false), (37, undef), (40, undef)] hF (by kernel_rfl) ⟨by kernel_rfl⟩ ⟨by kernel_rfl⟩ rfl fun a hF => ?_
     refine skip_ 7 [(0, .func (.yield l_) #[] #[]), (1, pb cb1), (2, pb cb2), (3, pb cb3), (4, pb cb4), (6, iv x103), (36, .bool false), (41, undef)] hF (by kernel_rfl) ⟨by kernel_rfl⟩ ⟨by kernel_rfl⟩ rfl fun a hF => ?_
     refine skip_ 8 [(0, .func (.yield l_) #[] #[]), (1, pb cb1), (2, pb cb2), (3, pb cb3), (4, pb cb4), (6, iv x103), (36, .bool false), (42, undef)] hF (by kernel_rfl) ⟨by kernel_rfl⟩ ⟨by kernel_rfl⟩ rfl fun a hF => ?_
     refine rn 1 9 [(0, .func (.yield l_) #[] #[]), (1, pb cb1), (2, pb cb2), (3, pb cb3), (4, pb cb4), (6, iv x103), (43, .bool false)] hF fun a hF => ?_
     refine wfn rfl ?_
     refine wpIn_cond_false (hF.get rfl) ?_
     refine wpIn_skip (norm_block <| norm_then <| ?_)
     refine WI.region ?_
     replace h := bindS h
     obtain ⟨x155, hx155, h⟩ := h
     refine rno 3 [.run [] (binOp .add 3 (iv x103) (iv 1)) (iv x155)] 3 [(0, .func (.yield l_) #[] #[]), (1, pb cb1), (2, pb cb2), (3, pb cb3), (4, pb cb4), (6, iv x155)] hF (ocons (obAddC (fun _ => hx155)) onil) fun a hF => ?_
     refine wfn rfl ?_
     rw [hk1] at h
     exact ⟨n_, Nat.lt_succ_self _, x155, s104, ν102, g105, hF.sub (by kernel_rfl), St.pickT (A := [blk b147 25 #[iv (((fold_common (api_Span.mk y134.1.Lo y134.1.Hi) (api_Span.mk (IntKind.i64.wrap (0 - c3_)) c3_)).1).Lo), iv (((fold_common (api_Span.mk y134.1.Lo y134.1.Hi) (api_Span.mk (IntKind.i64.wrap (0 - c3_)) c3_)).1).Hi)], blk b141 25 #[iv y134.1.Lo, iv y134.1.Hi], fz w0 ν102]) (T := (RC s104 true g105 ++ G_)) [2] (by decide) hS, hP, hle106, hext, hlow, h⟩
   ·replace h := bif_f h hg132
    cases h
 ·replace h := bif_f h hc
  refine wpIn_exit (exit_then <| exit_then <| exit_hit <| ?_)
  refine fn_end hF rfl ?_
  have hr_ := Option.some.inj h
  subst hr_
  exact ⟨ν102, g105, hext, hlow, hP, rfl, hS⟩

theorem fold_options_ok (p0 : pulse_Train) (p1 : api_Echo) (p2 : Int) (p3 : Int) (res : Unit) (h : fold_options p0 p1 p2 p3 = res) (μ : Frz) (w0 : World) (hm : FrzAt μ w0) : Calls Try.prog 113 #[p0.ag, p1.ag, iv p2, iv p3] w0 (fun e w => ∃ zb0 zb1 zb2 zb3, e = .returned (.func (.func 124) #[] #[pb zb0, pb zb1, pb zb2, pb zb3]) ∧ St w0 [blk zb0 33 p0.ar, blk zb1 3 #[iv p2], blk zb2 28 p1.ar, blk zb3 3 #[iv p3]] w) := by
 obtain ⟨hlow, hS⟩ := hm.init
 have hext := Frz.ext_refl w0.heap.size μ
 rw [fold_options] at h
 refine fn_enterW Try.func113 rfl 10 [(0, p0.ag), (1, p1.ag), (2, iv p2), (3, iv p3)] rfl rfl (by kernel_rfl) fun a w hw hF => ?_
 replace hS : St w0 [fz w0 μ] w := by rw [hw]; exact hS
 clear hw
 refine esr ?_
 refine SK.wi (boxK (t := 33) (fun b1 => [(1, p1.ag), (2, iv p2), (3, iv p3), (4, pb b1)]) (p0.ag) p0.ar hF hS (by kernel_rfl) ⟨by kernel_rfl⟩ (by kernel_rfl) (fun _ => ⟨by kernel_rfl⟩) fun b1 w a hF hS => ?_)
 refine SK.wi (boxK (t := 28) (fun b2 => [(2, iv p2), (3, iv p3), (4, pb b1), (5, pb b2)]) (p1.ag) p1.ar hF hS (by kernel_rfl) ⟨by kernel_rfl⟩ (by kernel_rfl) (fun _ => ⟨by kernel_rfl⟩) fun b2 w a hF hS => ?_)
 refine SK.wi (boxK (t := 3) (fun b3 => [(3, iv p3), (4, pb b1), (5, pb b2), (6, pb b3)]) (iv p2) #[iv p2] hF hS (by kernel_rfl) ⟨by kernel_rfl⟩ (by kernel_rfl) (fun _ => ⟨by kernel_rfl⟩) fun b3 w a hF hS => ?_)
 refine SK.wi (boxK (t := 3) (fun b4 => [(4, pb b1), (5, pb b2), (6, pb b3), (7, pb b4)]) (iv p3) #[iv p3] hF hS (by kernel_rfl) ⟨by kernel_rfl⟩ (by kernel_rfl) (fun _ => ⟨by kernel_rfl⟩) fun b4 w a hF hS => ?_)
 refine rn 1 5 [(4, pb b1), (5, pb b2), (6, pb b3), (7, pb b4)] hF fun a hF => ?_
 refine wfn rfl ?_
 refine esr ?_
 refine rn 2 2 [(8, .func (.func 124) #[] #[pb b1, pb b3, pb b2, pb b4])] hF fun a hF => ?_
 refine wfn rfl ?_
 refine wpIn_ret (fn_ret [.tmp 8] [.func (.func 124) #[] #[pb b1, pb b3, pb b2, pb b4]] hF rfl ⟨rfl, trivial⟩ ?_)
 subst h
 exact ⟨b1, b3, b2, b4, rfl, St.pick [3, 1, 2, 0] (by decide) hS⟩
end Go.Proofs.Ytbhjgebjojdohaa
