/- Walks, written by program (wip/gen/dec.py). -/
import Derived.Test.YtejffembnkojjaaC10XD
import Derived.Test.YtejffembnkojjaaProg
import Derived.Test.YtejffembnkojjaaC10XW0
import Derived.Test.YtejffembnkojjaaC10XW1
import Derived.Test.YtejffembnkojjaaC10XW2
namespace Go.Proofs.Ytejffembnkojjaa
open Go Go.RowKit Go.Eng
set_option maxRecDepth 10000
set_option maxHeartbeats 4000000
set_option linter.unusedVariables false
set_option linter.unusedSimpArgs false
theorem plan_Time_ok (F : Nat) (p0 : plan_Radar) (p1 : plan_Job) (res : (Int × Int)) (h : plan_Time F p0 p1 = some res) (μ : Frz) (w0 : World) (hm : FrzAt μ w0) : Calls Try.prog 14 #[p0.ag, p1.ag] w0 (fun e w => e = .returned (.tuple #[iv res.1, iv res.2]) ∧ Ext w0 w) := by
 obtain ⟨hlow, hS⟩ := hm.init
 have hext := Frz.ext_refl w0.heap.size μ
 rw [plan_Time] at h
 refine fn_enterW Try.func14 rfl 17 [(0, p0.ag), (1, p1.ag)] rfl rfl (by kernel_rfl) fun a w hw hF => ?_
 replace hS : St w0 [fz w0 μ] w := by rw [hw]; exact hS
 clear hw
 refine esr ?_
 refine SK.wi (boxK (t := 31) (fun b1 => [(1, p1.ag), (2, pb b1)]) (p0.ag) p0.ar hF hS (by kernel_rfl) ⟨by kernel_rfl⟩ (by kernel_rfl) (fun _ => ⟨by kernel_rfl⟩) fun b1 w a hF hS => ?_)
 refine SK.wi (boxK (t := 34) (fun b2 => [(2, pb b1), (3, pb b2)]) (p1.ag) p1.ar hF hS (by kernel_rfl) ⟨by kernel_rfl⟩ (by kernel_rfl) (fun _ => ⟨by kernel_rfl⟩) fun b2 w a hF hS => ?_)
 refine rn 2 4 [(2, pb b1), (3, pb b2)] hF fun a hF => ?_
 refine wfn rfl ?_
 refine eseq ?_
 refine esr ?_
 refine rno 2 [.run [] (Instr.loadAt 31 (pb b1)) (p0.ag), .run [] (Instr.loadAt 34 (pb b2)) (p1.ag)] 2 [(2, pb b1), (3, pb b2), (7, p0.ag), (8, p1.ag)] hF (ocons (obN (us := p0.cells) (by kernel_rfl) (fun _ hd => ((hS.at_ hd).blk (i := 1) rfl).cells rfl)) (ocons (obN (us := p1.cells) (by kernel_rfl) (fun _ hd => ((hS.at_ hd).blk (i := 0) rfl).cells rfl)) onil)) fun a hF => ?_
 refine SK.wi (litK (e := 34) (sz := 8) (f := plan_Job.cells) (t := 43) (len := 1) (fun b3 => [(2, pb b1), (3, pb b2), (7, p0.ag), (9, sb b3 1)]) #[(0, p1.ag)] p1.ar ([p1]) hF hS (by kernel_rfl) ⟨by kernel_rfl⟩ (by kernel_rfl) plan_Job.cells_len rfl rfl (by kernel_rfl) (fun _ => ⟨by kernel_rfl⟩) fun b3 w a hF hS => ?_)
 replace h := bindS h
 obtain ⟨y4, hy4, h⟩ := h
 refine rx 2 [.call [] 22 #[p0.ag, sb b3 1] (iv y4)] 5 [(2, pb b1), (3, pb b2), (6, iv y4)] hF (ocons (show Ob.ok _ Ext _ _ from fun hk w2 hd => plan_Check_ok F p0 ([p1]) _ ((fun _ => hy4) hk) _ w2 (memOf_at w2) (Arr.toM ((hS.later hd).arr (i := 0) rfl))) onil) fun a w hF hx => ?_
 replace hS := hS.later hx
 refine wfn rfl ?_
 refine esr ?_
 refine rn 2 2 [(2, pb b1), (3, pb b2), (6, iv y4), (12, .bool (y4 != 0))] hF fun a hF => ?_
 refine wfn rfl ?_
 refine econd hF rfl (fun hc => ?_) (fun hc => ?_)
 ·replace h := bif_t h hc
  refine esr ?_
  refine rn 3 3 [(4, iv 0), (5, iv y4)] hF fun a hF => ?_
  refine wfn rfl ?_
  refine wpIn_ret (ret_then <| fn_ret [.tmp 4, .tmp 5] [iv 0, iv y4] hF rfl ⟨rfl, rfl, trivial⟩ ?_)
  have hr_ := Option.some.inj h
  subst hr_
  exact ⟨rfl, hS.ext⟩
 ·replace h := bif_f h hc
  refine wpIn_skip (norm_then ?_)
  refine esr ?_
  replace h := bindS h
  obtain ⟨y5, hy5, h⟩ := h
  refine rx 5 [.run [] (Instr.loadAt 31 (pb b1)) (p0.ag), .run [] (Instr.loadAt 34 (pb b2)) (p1.ag), .call [] 44 #[p0.ag, p1.ag] (iv y5)] 5 [(4, iv y5), (5, iv 0)] hF (ocons (obN (us := p0.cells) (by kernel_rfl) (fun _ hd => ((hS.later hd).blk (i := 2) rfl).cells rfl)) (ocons (obN (us := p1.cells) (by kernel_rfl) (fun _ hd => ((hS.later hd).blk (i := 1) rfl).cells rfl)) (ocons (show Ob.ok _ Ext _ _ from fun hk w2 hd => plan_Radar_time_ok F p0 p1 _ ((fun _ => hy5) hk) _ w2 (memOf_at w2) ) onil))) fun a w hF hx => ?_
  replace hS := hS.later hx
  refine wfn rfl ?_
  refine wpIn_ret (fn_ret [.tmp 4, .tmp 5] [iv y5, iv 0] hF rfl ⟨rfl, rfl, trivial⟩ ?_)
  have hr_ := Option.some.inj h
  subst hr_
  exact ⟨rfl, hS.ext⟩

theorem plan_line_gaps_ok (F : Nat) (p0 : plan_line) (res : (List Int)) (h : plan_line_gaps F p0 = some res) (μ : Frz) (w0 : World) (hm : FrzAt μ w0) {pv1 : Option Addr} {ad2 : Option Addr} {cap3 : Nat} {ad4 : Option Addr} {cap5 : Nat} (hA6 : PtM μ 113 Rp113 pv1 p0.desk) (hA7 : ArrM μ 1 fI ad2 cap3 p0.jobs) (hA8 : ArrM μ 1 fI ad4 cap5 p0.at_) : Calls Try.prog 77 #[.agg #[.pointer pv1, sv ad2 p0.jobs cap3, sv ad4 p0.at_ cap5, iv p0.done]] w0 (fun e w => ∃ zad0 zcap0, e = .returned (sv zad0 res zcap0) ∧ St w0 [arr 3 1 fI zad0 res.length zcap0 res] w) := by
 obtain ⟨hlow, hS⟩ := hm.init
 have hext := Frz.ext_refl w0.heap.size μ
 rw [plan_line_gaps] at h
 refine fn_enterW Try.func77 rfl 79 [(0, .agg #[.pointer pv1, sv ad2 p0.jobs cap3, sv ad4 p0.at_ cap5, iv p0.done])] rfl rfl (by kernel_rfl) fun a w hw hF => ?_
 replace hS : St w0 [fz w0 μ] w := by rw [hw]; exact hS
 clear hw
 refine esr ?_
 refine SK.wi (boxK (t := 102) (fun b9 => [(1, pb b9)]) (.agg #[.pointer pv1, sv ad2 p0.jobs cap3, sv ad4 p0.at_ cap5, iv p0.done]) #[.pointer pv1, sv ad2 p0.jobs cap3, sv ad4 p0.at_ cap5, iv p0.done] hF hS (by kernel_rfl) ⟨by kernel_rfl⟩ (by kernel_rfl) (fun _ => ⟨by kernel_rfl⟩) fun b9 w a hF hS => ?_)
 refine rn 1 2 [(1, pb b9)] hF fun a hF => ?_
 refine wfn rfl ?_
 refine esr ?_
 replace h := bindS h
 obtain ⟨d10, hd10, h⟩ := h
 obtain ⟨b11, cs12, hp13, hB14, hR15⟩ := PtM.some hA6 hd10
 obtain ⟨ad16, cap17, ad18, cap19, ad20, cap21, css22, rfl, hA23, hA24, hA25⟩ := hR15
 try rw [hp13] at hF
 try rw [hp13] at hS
 try rw [hp13] at hB14
 refine rno 6 [.run [] (Instr.loadAt 100 (pb b9)) (pb b11), .run [] (Instr.loadAt 40 (.pointer (some ⟨b11, 1, none⟩))) (sv ad18 d10.takes cap19)] 6 [(1, pb b9), (14, iv (ln d10.takes))] hF (ocons (ob1 (by kernel_rfl) (fun _ hd => (hS.at_ hd).cell (i := 0) (j := 0) rfl rfl)) (ocons (ob1 (by kernel_rfl) (fun _ hd => (hB14.blk ((hS.at_ hd).frz (i := 1) rfl hlow)).cell1 (j := 1) rfl)) onil)) fun a hF => ?_
 replace h := bindS h
 obtain ⟨l27, hl27, h⟩ := h
 refine SK.wi (makeK (e := 3) (sz := 1) (f := fI) (z := iv 0) (t := 40) (bytes := 8) (fun b26 => [(1, pb b9), (15, .slice (some ⟨b26, 0, none⟩) l27.length l27.length)]) 0 hF hS (by kernel_rfl) ⟨by kernel_rfl⟩ (by kernel_rfl) (by kernel_rfl) rfl hl27 (fun _ => ⟨by kernel_rfl⟩) fun b26 w a hF hS => ?_)
 refine rn 1 8 [(1, pb b9), (3, .slice (some ⟨b26, 0, none⟩) l27.length l27.length)] hF fun a hF => ?_
 refine wfn rfl ?_
 refine esr ?_
 refine rno 6 [.run [] (Instr.loadAt 100 (pb b9)) (pb b11), .run [] (Instr.loadAt 40 (.pointer (some ⟨b11, 1, none⟩))) (sv ad18 d10.takes cap19)] 6 [(1, pb b9), (3, .slice (some ⟨b26, 0, none⟩) l27.length l27.length), (21, iv (ln d10.takes))] hF (ocons (ob1 (by kernel_rfl) (fun _ hd => (hS.at_ hd).cell (i := 1) (j := 0) rfl rfl)) (ocons (ob1 (by kernel_rfl) (fun _ hd => (hB14.blk ((hS.at_ hd).frz (i := 2) rfl hlow)).cell1 (j := 1) rfl)) onil)) fun a hF => ?_
 replace h := bindS h
 obtain ⟨l29, hl29, h⟩ := h
 refine SK.wi (makeK (e := 3) (sz := 1) (f := fI) (z := iv 0) (t := 40) (bytes := 8) (fun b28 => [(1, pb b9), (3, .slice (some ⟨b26, 0, none⟩) l27.length l27.length), (22, .slice (some ⟨b28, 0, none⟩) l29.length l29.length)]) 0 hF hS (by kernel_rfl) ⟨by kernel_rfl⟩ (by kernel_rfl) (by kernel_rfl) rfl hl29 (fun _ => ⟨by kernel_rfl⟩) fun b28 w a hF hS => ?_)
 refine rn 1 8 [(1, pb b9), (3, .slice (some ⟨b26, 0, none⟩) l27.length l27.length), (4, .slice (some ⟨b28, 0, none⟩) l29.length l29.length)] hF fun a hF => ?_
 refine wfn rfl ?_
 refine ecut (fun a w => ∃ (l62 : (List Int)) (ad60 : Option Addr) (cap61 : Nat), Fr 79 [] [(1, pb b9), (3, .slice (some ⟨b26, 0, none⟩) l27.length l27.length), (4, sv ad60 l62 cap61)] a ∧ St w0 [arr 3 1 fI ad60 l62.length cap61 l62, arr 3 1 fI (some ⟨b26, 0, none⟩) l27.length l27.length l27, blk b9 102 #[pb b11, sv ad2 p0.jobs cap3, sv ad4 p0.at_ cap5, iv p0.done], fz w0 μ] w ∧ plan_line_gaps_K1 F p0 l27 l62 = some res) ?_ ?_
 ·skip
  refine esr ?_
  refine rno 4 [.run [] (Instr.loadAt 40 (.pointer (some ⟨b9, 1, none⟩))) (sv ad2 p0.jobs cap3)] 4 [(1, pb b9), (3, .slice (some ⟨b26, 0, none⟩) l27.length l27.length), (4, .slice (some ⟨b28, 0, none⟩) l29.length l29.length), (24, sv ad2 p0.jobs cap3), (25, iv (ln p0.jobs)), (26, iv 0)] hF (ocons (ob1 (by kernel_rfl) (fun _ hd => (hS.at_ hd).cell (i := 2) (j := 1) rfl rfl)) onil) fun a hF => ?_
  refine wfn rfl ?_
  refine wpIn_block ?_
  refine eloop (fun n_ a w => ∃ (x182 : Int) (l185 : (List Int)) (ad183 : Option Addr) (cap184 : Nat), Fr 79 [] [(1, pb b9), (3, .slice (some ⟨b26, 0, none⟩) l27.length l27.length), (4, sv ad183 l185 cap184), (24, sv ad2 p0.jobs cap3), (25, iv (ln p0.jobs)), (26, iv x182)] a ∧ St w0 [arr 3 1 fI ad183 l185.length cap184 l185, arr 3 1 fI (some ⟨b26, 0, none⟩) l27.length l27.length l27, blk b9 102 #[pb b11, sv ad2 p0.jobs cap3, sv ad4 p0.at_ cap5, iv p0.done], fz w0 μ] w ∧ plan_line_gaps_L4 F p0 d10 l27 n_ x182 l185 = some res) F ⟨0, l29, (some ⟨b28, 0, none⟩), l29.length, hF.sub (by kernel_rfl), St.pick [0, 1, 2, 3] (by decide) hS, h⟩ ?_
  rintro n_ a w ⟨x182, l185, ad183, cap184, hF, hS, h⟩
  rcases n_ with _ | n_
  ·cases (show (none : Option (List Int)) = some res from h)
  obtain ⟨k4, hk4⟩ : ∃ k, k = plan_line_gaps_L4 F p0 d10 l27 n_ := ⟨_, rfl⟩
  replace h : plan_line_gaps_B4 F p0 d10 l27 k4 x182 l185 = some res := by rw [hk4]; exact h
  rw [plan_line_gaps_B4] at h
  refine esr ?_
  refine rn 1 1 [(1, pb b9), (3, .slice (some ⟨b26, 0, none⟩) l27.length l27.length), (4, sv ad183 l185 cap184), (24, sv ad2 p0.jobs cap3), (25, iv (ln p0.jobs)), (26, iv x182), (27, .bool (decide (x182 < (ln p0.jobs))))] hF fun a hF => ?_
  refine wfn rfl ?_
  refine eseq ?_
  refine econd hF rfl (fun hc => ?_) (fun hc => ?_)
  ·replace h := bif_t h hc
   refine wpIn_skip (norm_then ?_)
   refine eseq ?_
   refine wpIn_block ?_
   refine esr ?_
   replace h := bindS h
   obtain ⟨u187, hu187, h⟩ := h
   refine rno 5 [.run [] (Instr.indexAt 40 (sv ad2 p0.jobs cap3) (iv x182)) (.pointer (some (slAddr ad2 x182 1))), .run [] (Instr.loadAt 3 (.pointer (some (slAddr ad2 x182 1)))) (iv u187)] 5 [(1, pb b9), (3, .slice (some ⟨b26, 0, none⟩) l27.length l27.length), (4, sv ad183 l185 cap184), (5, iv x182), (6, iv u187), (24, sv ad2 p0.jobs cap3), (25, iv (ln p0.jobs)), (26, iv x182)] hF (ocons (obIdxQ (hA7 _ (hS.frz (i := 3) rfl hlow)) (by kernel_rfl) (fun _ => hu187)) (ocons (obElQ (i := x182) 0 fI_len (fun _ hd => (hA7 _ ((hS.at_ hd).frz (i := 3) rfl hlow))) (by kernel_rfl) (fun _ => hu187) rfl) onil)) fun a hF => ?_
   refine wfn rfl ?_
   replace h := bindS h
   obtain ⟨u188, hu188, h⟩ := h
   replace h := bindS h
   obtain ⟨y189, hy189, h⟩ := h
   replace h := bindS h
   obtain ⟨x190, hx190, h⟩ := h
   replace h := bindS h
   obtain ⟨u191, hu191, h⟩ := h
   refine runD (obs := [.run [] (Instr.loadAt 40 (.pointer (some ⟨b9, 2, none⟩))) (sv ad4 p0.at_ cap5), .run [] (Instr.indexAt 40 (sv ad4 p0.at_ cap5) (iv x182)) (.pointer (some (slAddr ad4 x182 1))), .run [] (Instr.loadAt 3 (.pointer (some (slAddr ad4 x182 1)))) (iv u188), .run [] (Instr.loadAt 102 (pb b9)) (.agg #[pb b11, sv ad2 p0.jobs cap3, sv ad4 p0.at_ cap5, iv p0.done]), .call [] 53 #[.agg #[pb b11, sv ad2 p0.jobs cap3, sv ad4 p0.at_ cap5, iv p0.done]] (iv y189), .run [] (binOp .sub 3 (iv u188) (iv y189)) (iv x190), .run [] (Instr.indexAt 40 (sv ad183 l185 cap184) (iv u187)) (.pointer (some (slAddr ad183 u187 1)))]) 11 [(1, pb b9), (3, .slice (some ⟨b26, 0, none⟩) l27.length l27.length), (4, sv ad183 l185 cap184), (24, sv ad2 p0.jobs cap3), (25, iv (ln p0.jobs)), (26, iv x182), (40, iv x190), (41, .pointer (some (slAddr ad183 u187 1)))] (by kernel_rfl) hF (by kernel_rfl) (ocons (ob1 (by kernel_rfl) (fun _ hd => (hS.later hd).cell (i := 2) (j := 2) rfl rfl)) (ocons (obIdxQ (hA8 _ (hS.frz (i := 3) rfl hlow)) (by kernel_rfl) (fun _ => hu188)) (ocons (obElQ (i := x182) 0 fI_len (fun _ hd => (hA8 _ ((hS.later hd).frz (i := 3) rfl hlow))) (by kernel_rfl) (fun _ => hu188) rfl) (ocons (obN (us := [pb b11, sv ad2 p0.jobs cap3, sv ad4 p0.at_ cap5, iv p0.done]) (by kernel_rfl) (fun _ hd => ((hS.later hd).blk (i := 2) rfl).cells rfl)) (ocons (show Ob.ok _ Ext _ _ from fun hk w2 hd => plan_line_all_ok F (plan_line.mk (some d10) p0.jobs p0.at_ p0.done) _ ((fun _ => hy189) hk) _ w2 (memOf_at w2) (PtM.mk (cs := [sv ad16 d10.jobs cap17, sv ad18 d10.takes cap19, sv ad20 d10.moves cap21]) (hB14.mono (FrzAt.le_mem ((hS.later hd).frz (i := 3) rfl hlow))) ⟨ad16, cap17, ad18, cap19, ad20, cap21, css22, rfl, (hA23.mono (FrzAt.le_mem ((hS.later hd).frz (i := 3) rfl hlow))), (hA24.mono (FrzAt.le_mem ((hS.later hd).frz (i := 3) rfl hlow))), (hA25.mono Rp40.mono (FrzAt.le_mem ((hS.later hd).frz (i := 3) rfl hlow)))⟩) (hA7.mono (FrzAt.le_mem ((hS.later hd).frz (i := 3) rfl hlow))) (hA8.mono (FrzAt.le_mem ((hS.later hd).frz (i := 3) rfl hlow)))) (ocons (obSubC (fun _ => hx190)) (ocons (obIdxQ (hS.arr (i := 0) rfl) (by kernel_rfl) (fun _ => hu191)) onil))))))) ⟨by kernel_rfl⟩ fun a w hF hx => ?_
   replace hS := hS.later hx
   replace h := bindS h
   obtain ⟨l192, hl192, h⟩ := h
   refine SK.wi (setK (j := u187) (t := 3) [(1, pb b9), (3, .slice (some ⟨b26, 0, none⟩) l27.length l27.length), (4, sv ad183 l185 cap184), (24, sv ad2 p0.jobs cap3), (25, iv (ln p0.jobs)), (26, iv x182)] 0 0 u191 x190 (iv x190) hF hS rfl (by kernel_rfl) ⟨by kernel_rfl⟩ fI_len hu191 rfl (by kernel_rfl) (by kernel_rfl) (by kernel_rfl) hl192 ⟨by kernel_rfl⟩ fun w a hF hl hS => ?_)
   simp only [sv, ln, hl] at hF hS
   refine WI.fin rfl (norm_block <| norm_then <| ?_)
   refine WI.region ?_
   replace h := bindS h
   obtain ⟨x193, hx193, h⟩ := h
   refine rno 2 [.run [] (binOp .add 3 (iv x182) (iv 1)) (iv x193)] 2 [(1, pb b9), (3, .slice (some ⟨b26, 0, none⟩) l27.length l27.length), (4, sv ad183 l192 cap184), (24, sv ad2 p0.jobs cap3), (25, iv (ln p0.jobs)), (26, iv x193)] hF (ocons (obAddC (fun _ => hx193)) onil) fun a hF => ?_
   refine wfn rfl ?_
   rw [hk4] at h
   exact ⟨n_, Nat.lt_succ_self _, x193, l192, ad183, cap184, hF.sub (by kernel_rfl), St.pick [0, 1, 2, 3] (by decide) hS, h⟩
  ·replace h := bif_f h hc
   refine wpIn_exit (exit_then <| exit_then <| exit_hit <| norm_then ?_)
   exact ⟨l185, ad183, cap184, hF.sub (by kernel_rfl), St.pick [0, 1, 2, 3] (by decide) hS, h⟩
 rintro a w ⟨l62, ad60, cap61, hF, hS, h⟩
 rw [plan_line_gaps_K1] at h
 refine ecut (fun a w => ∃ (l113 : (List Int)) (ad111 : Option Addr) (cap112 : Nat), Fr 79 [] [(3, sv ad111 l113 cap112)] a ∧ St w0 [arr 3 1 fI ad111 l113.length cap112 l113, blk b9 102 #[pb b11, sv ad2 p0.jobs cap3, sv ad4 p0.at_ cap5, iv p0.done], fz w0 μ] w ∧ plan_line_gaps_K2 l113 = some res) ?_ ?_
 ·skip
  refine esr ?_
  refine rno 4 [.run [] (Instr.loadAt 40 (.pointer (some ⟨b9, 1, none⟩))) (sv ad2 p0.jobs cap3)] 4 [(1, pb b9), (3, .slice (some ⟨b26, 0, none⟩) l27.length l27.length), (4, sv ad60 l62 cap61), (44, sv ad2 p0.jobs cap3), (45, iv (ln p0.jobs)), (46, iv 0)] hF (ocons (ob1 (by kernel_rfl) (fun _ hd => (hS.at_ hd).cell (i := 2) (j := 1) rfl rfl)) onil) fun a hF => ?_
  refine wfn rfl ?_
  refine wpIn_block ?_
  refine eloop (fun n_ a w => ∃ (l146 : (List Int)) (l149 : (List Int)) (x150 : Int) (ad144 : Option Addr) (cap145 : Nat) (ad147 : Option Addr) (cap148 : Nat), Fr 79 [] [(1, pb b9), (3, sv ad144 l146 cap145), (4, sv ad147 l149 cap148), (44, sv ad2 p0.jobs cap3), (45, iv (ln p0.jobs)), (46, iv x150)] a ∧ St w0 [arr 3 1 fI ad147 l149.length cap148 l149, arr 3 1 fI ad144 l146.length cap145 l146, blk b9 102 #[pb b11, sv ad2 p0.jobs cap3, sv ad4 p0.at_ cap5, iv p0.done], fz w0 μ] w ∧ plan_line_gaps_L3 p0 n_ l146 l149 x150 = some res) F ⟨l27, l62, 0, (some ⟨b26, 0, none⟩), l27.length, ad60, cap61, hF.sub (by kernel_rfl), St.pick [0, 1, 2, 3] (by decide) hS, h⟩ ?_
  rintro n_ a w ⟨l146, l149, x150, ad144, cap145, ad147, cap148, hF, hS, h⟩
  rcases n_ with _ | n_
  ·cases (show (none : Option (List Int)) = some res from h)
  obtain ⟨k3, hk3⟩ : ∃ k, k = plan_line_gaps_L3 p0 n_ := ⟨_, rfl⟩
  replace h : plan_line_gaps_B3 p0 k3 l146 l149 x150 = some res := by rw [hk3]; exact h
  rw [plan_line_gaps_B3] at h
  refine esr ?_
  refine rn 1 1 [(1, pb b9), (3, sv ad144 l146 cap145), (4, sv ad147 l149 cap148), (44, sv ad2 p0.jobs cap3), (45, iv (ln p0.jobs)), (46, iv x150), (47, .bool (decide (x150 < (ln p0.jobs))))] hF fun a hF => ?_
  refine wfn rfl ?_
  refine eseq ?_
  refine econd hF rfl (fun hc => ?_) (fun hc => ?_)
  ·replace h := bif_t h hc
   refine wpIn_skip (norm_then ?_)
   refine eseq ?_
   refine wpIn_block ?_
   refine esr ?_
   replace h := bindS h
   obtain ⟨u152, hu152, h⟩ := h
   refine rno 5 [.run [] (Instr.indexAt 40 (sv ad2 p0.jobs cap3) (iv x150)) (.pointer (some (slAddr ad2 x150 1))), .run [] (Instr.loadAt 3 (.pointer (some (slAddr ad2 x150 1)))) (iv u152)] 5 [(1, pb b9), (3, sv ad144 l146 cap145), (4, sv ad147 l149 cap148), (7, iv x150), (8, iv u152), (44, sv ad2 p0.jobs cap3), (45, iv (ln p0.jobs)), (46, iv x150)] hF (ocons (obIdxQ (hA7 _ (hS.frz (i := 3) rfl hlow)) (by kernel_rfl) (fun _ => hu152)) (ocons (obElQ (i := x150) 0 fI_len (fun _ hd => (hA7 _ ((hS.at_ hd).frz (i := 3) rfl hlow))) (by kernel_rfl) (fun _ => hu152) rfl) onil)) fun a hF => ?_
   refine wfn rfl ?_
   refine eseq ?_
   replace h := bindS h
   obtain ⟨u153, hu153, h⟩ := h
   replace h := bindS h
   obtain ⟨u154, hu154, h⟩ := h
   replace h := bindS h
   obtain ⟨u155, hu155, h⟩ := h
   replace h := bindS h
   obtain ⟨x156, hx156, h⟩ := h
   replace h := bindS h
   obtain ⟨u157, hu157, h⟩ := h
   refine runD (obs := [.run [] (Instr.indexAt 40 (sv ad144 l146 cap145) (iv u152)) (.pointer (some (slAddr ad144 u152 1))), .run [] (Instr.loadAt 3 (.pointer (some (slAddr ad144 u152 1)))) (iv u153), .run [] (Instr.loadAt 40 (.pointer (some ⟨b9, 2, none⟩))) (sv ad4 p0.at_ cap5), .run [] (Instr.indexAt 40 (sv ad4 p0.at_ cap5) (iv x150)) (.pointer (some (slAddr ad4 x150 1))), .run [] (Instr.loadAt 3 (.pointer (some (slAddr ad4 x150 1)))) (iv u154), .run [] (Instr.indexAt 40 (sv ad147 l149 cap148) (iv u152)) (.pointer (some (slAddr ad147 u152 1))), .run [] (Instr.loadAt 3 (.pointer (some (slAddr ad147 u152 1)))) (iv u155), .run [] (binOp .sub 3 (iv u154) (iv u155)) (iv x156), .run [] (Instr.indexAt 40 (sv ad144 l146 cap145) (iv u152)) (.pointer (some (slAddr ad144 u152 1)))]) 18 [(1, pb b9), (3, sv ad144 l146 cap145), (4, sv ad147 l149 cap148), (7, iv x150), (8, iv u152), (44, sv ad2 p0.jobs cap3), (45, iv (ln p0.jobs)), (46, iv x150), (67, iv (if x156 > u153 then x156 else u153)), (68, .pointer (some (slAddr ad144 u152 1)))] (by kernel_rfl) hF (by kernel_rfl) (ocons (obIdxQ (hS.arr (i := 1) rfl) (by kernel_rfl) (fun _ => hu153)) (ocons (obElQ (i := u152) 0 fI_len (fun _ hd => ((hS.later hd).arr (i := 1) rfl)) (by kernel_rfl) (fun _ => hu153) rfl) (ocons (ob1 (by kernel_rfl) (fun _ hd => (hS.later hd).cell (i := 2) (j := 2) rfl rfl)) (ocons (obIdxQ (hA8 _ (hS.frz (i := 3) rfl hlow)) (by kernel_rfl) (fun _ => hu154)) (ocons (obElQ (i := x150) 0 fI_len (fun _ hd => (hA8 _ ((hS.later hd).frz (i := 3) rfl hlow))) (by kernel_rfl) (fun _ => hu154) rfl) (ocons (obIdxQ (hS.arr (i := 0) rfl) (by kernel_rfl) (fun _ => hu155)) (ocons (obElQ (i := u152) 0 fI_len (fun _ hd => ((hS.later hd).arr (i := 0) rfl)) (by kernel_rfl) (fun _ => hu155) rfl) (ocons (obSubC (fun _ => hx156)) (ocons (obIdxQ (hS.arr (i := 1) rfl) (by kernel_rfl) (fun _ => hu157)) onil))))))))) ⟨by kernel_rfl⟩ fun a w hF hx => ?_
   replace hS := hS.later hx
   replace h := bindS h
   obtain ⟨l158, hl158, h⟩ := h
   refine SK.wi (setK (j := u152) (t := 3) [(1, pb b9), (3, sv ad144 l146 cap145), (4, sv ad147 l149 cap148), (7, iv x150), (8, iv u152), (44, sv ad2 p0.jobs cap3), (45, iv (ln p0.jobs)), (46, iv x150)] 1 0 u157 (if x156 > u153 then x156 else u153) (iv (if x156 > u153 then x156 else u153)) hF hS rfl (by kernel_rfl) ⟨by kernel_rfl⟩ fI_len hu157 rfl (by kernel_rfl) (by kernel_rfl) (by kernel_rfl) hl158 ⟨by kernel_rfl⟩ fun w a hF hl hS => ?_)
   simp only [sv, ln, hl] at hF hS
   refine wfn rfl ?_
   refine WI.region ?_
   replace h := bindS h
   obtain ⟨u159, hu159, h⟩ := h
   replace h := bindS h
   obtain ⟨u160, hu160, h⟩ := h
   refine rno 8 [.run [] (Instr.loadAt 40 (.pointer (some ⟨b9, 2, none⟩))) (sv ad4 p0.at_ cap5), .run [] (Instr.indexAt 40 (sv ad4 p0.at_ cap5) (iv x150)) (.pointer (some (slAddr ad4 x150 1))), .run [] (Instr.loadAt 3 (.pointer (some (slAddr ad4 x150 1)))) (iv u159), .run [] (Instr.indexAt 40 (sv ad147 l149 cap148) (iv u152)) (.pointer (some (slAddr ad147 u152 1)))] 8 [(1, pb b9), (3, sv ad144 l158 cap145), (4, sv ad147 l149 cap148), (44, sv ad2 p0.jobs cap3), (45, iv (ln p0.jobs)), (46, iv x150), (75, iv u159), (76, .pointer (some (slAddr ad147 u152 1)))] hF (ocons (ob1 (by kernel_rfl) (fun _ hd => (hS.at_ hd).cell (i := 2) (j := 2) rfl rfl)) (ocons (obIdxQ (hA8 _ (hS.frz (i := 3) rfl hlow)) (by kernel_rfl) (fun _ => hu159)) (ocons (obElQ (i := x150) 0 fI_len (fun _ hd => (hA8 _ ((hS.at_ hd).frz (i := 3) rfl hlow))) (by kernel_rfl) (fun _ => hu159) rfl) (ocons (obIdxQ (hS.arr (i := 0) rfl) (by kernel_rfl) (fun _ => hu160)) onil)))) fun a hF => ?_
   replace h := bindS h
   obtain ⟨l161, hl161, h⟩ := h
   refine SK.wi (setK (j := u152) (t := 3) [(1, pb b9), (3, sv ad144 l158 cap145), (4, sv ad147 l149 cap148), (44, sv ad2 p0.jobs cap3), (45, iv (ln p0.jobs)), (46, iv x150)] 0 0 u160 u159 (iv u159) hF hS rfl (by kernel_rfl) ⟨by kernel_rfl⟩ fI_len hu160 rfl (by kernel_rfl) (by kernel_rfl) (by kernel_rfl) hl161 ⟨by kernel_rfl⟩ fun w a hF hl hS => ?_)
   simp only [sv, ln, hl] at hF hS
   refine WI.fin rfl (norm_block <| norm_then <| ?_)
   refine WI.region ?_
   replace h := bindS h
   obtain ⟨x162, hx162, h⟩ := h
   refine rno 2 [.run [] (binOp .add 3 (iv x150) (iv 1)) (iv x162)] 2 [(1, pb b9), (3, sv ad144 l158 cap145), (4, sv ad147 l161 cap148), (44, sv ad2 p0.jobs cap3), (45, iv (ln p0.jobs)), (46, iv x162)] hF (ocons (obAddC (fun _ => hx162)) onil) fun a hF => ?_
   refine wfn rfl ?_
   rw [hk3] at h
   exact ⟨n_, Nat.lt_succ_self _, l158, l161, x162, ad144, cap145, ad147, cap148, hF.sub (by kernel_rfl), St.pick [0, 1, 2, 3] (by decide) hS, h⟩
  ·replace h := bif_f h hc
   refine wpIn_exit (exit_then <| exit_then <| exit_hit <| norm_then ?_)
   exact ⟨l146, ad144, cap145, hF.sub (by kernel_rfl), St.pick [1, 2, 3] (by decide) hS, h⟩
 rintro a w ⟨l113, ad111, cap112, hF, hS, h⟩
 rw [plan_line_gaps_K2] at h
 refine esr ?_
 refine rn 2 2 [(2, sv ad111 l113 cap112)] hF fun a hF => ?_
 refine wfn rfl ?_
 refine wpIn_ret (fn_ret [.tmp 2] [sv ad111 l113 cap112] hF rfl ⟨rfl, trivial⟩ ?_)
 have hr_ := Option.some.inj h
 subst hr_
 exact ⟨_, _, rfl, St.pick [0] (by decide) hS⟩

theorem plan_line_late_ok (F : Nat) (p0 : plan_line) (p1 : Int) (res : Bool) (h : plan_line_late F p0 p1 = some res) (μ : Frz) (w0 : World) (hm : FrzAt μ w0) {pv1 : Option Addr} {ad2 : Option Addr} {cap3 : Nat} {ad4 : Option Addr} {cap5 : Nat} (hA6 : PtM μ 113 Rp113 pv1 p0.desk) (hA7 : ArrM μ 1 fI ad2 cap3 p0.jobs) (hA8 : ArrM μ 1 fI ad4 cap5 p0.at_) : Calls Try.prog 90 #[.agg #[.pointer pv1, sv ad2 p0.jobs cap3, sv ad4 p0.at_ cap5, iv p0.done], iv p1] w0 (fun e w => e = .returned (.bool res) ∧ Ext w0 w) := by
 obtain ⟨hlow, hS⟩ := hm.init
 have hext := Frz.ext_refl w0.heap.size μ
 rw [plan_line_late] at h
 refine fn_enterMW Try.func90 rfl 71 [(0, .agg #[.pointer pv1, sv ad2 p0.jobs cap3, sv ad4 p0.at_ cap5, iv p0.done]), (1, iv p1)] rfl rfl (by kernel_rfl) fun a w hw hF => ?_
 replace hS : St w0 [fz w0 μ] w := by rw [hw]; exact hS
 clear hw
 replace hS := hS.noMarks
 refine esr ?_
 refine SK.wi (boxK (t := 102) (fun b9 => [(1, iv p1), (2, pb b9)]) (.agg #[.pointer pv1, sv ad2 p0.jobs cap3, sv ad4 p0.at_ cap5, iv p0.done]) #[.pointer pv1, sv ad2 p0.jobs cap3, sv ad4 p0.at_ cap5, iv p0.done] hF hS (by kernel_rfl) ⟨by kernel_rfl⟩ (by kernel_rfl) (fun _ => ⟨by kernel_rfl⟩) fun b9 w a hF hS => ?_)
 refine SK.wi (boxK (t := 3) (fun b10 => [(2, pb b9), (3, pb b10)]) (iv p1) #[iv p1] hF hS (by kernel_rfl) ⟨by kernel_rfl⟩ (by kernel_rfl) (fun _ => ⟨by kernel_rfl⟩) fun b10 w a hF hS => ?_)
 refine SK.wi (allocK (t := 4) (fun b11 => [(2, pb b9), (3, pb b10), (4, pb b11)]) #[.bool false] hF hS (by kernel_rfl) ⟨by kernel_rfl⟩ (by kernel_rfl) (fun _ => ⟨by kernel_rfl⟩) fun b11 w a hF hS => ?_)
 refine wfn rfl ?_
 refine esr ?_
 replace h := bindS h
 obtain ⟨y12, hy12, h⟩ := h
 refine rx 3 [.run [] (Instr.loadAt 102 (pb b9)) (.agg #[.pointer pv1, sv ad2 p0.jobs cap3, sv ad4 p0.at_ cap5, iv p0.done]), .run [] (Instr.loadAt 3 (pb b10)) (iv p1), .call [] 79 #[.agg #[.pointer pv1, sv ad2 p0.jobs cap3, sv ad4 p0.at_ cap5, iv p0.done], iv p1] (iv y12)] 3 [(2, pb b9), (3, pb b10), (4, pb b11), (10, iv y12)] hF (ocons (obN (us := [.pointer pv1, sv ad2 p0.jobs cap3, sv ad4 p0.at_ cap5, iv p0.done]) (by kernel_rfl) (fun _ hd => ((hS.later hd).blk (i := 2) rfl).cells rfl)) (ocons (ob1 (by kernel_rfl) (fun _ hd => (hS.later hd).cell (i := 1) (j := 0) rfl rfl)) (ocons (show Ob.ok _ Ext _ _ from fun hk w2 hd => plan_line_next_ok F p0 p1 _ ((fun _ => hy12) hk) _ w2 (memOf_at w2) (hA6.mono Rp113.mono (FrzAt.le_mem ((hS.later hd).frz (i := 4) rfl hlow))) (hA7.mono (FrzAt.le_mem ((hS.later hd).frz (i := 4) rfl hlow))) (hA8.mono (FrzAt.le_mem ((hS.later hd).frz (i := 4) rfl hlow)))) onil))) fun a w hF hx => ?_
 replace hS := hS.later hx
 refine SK.wi (allocK (t := 3) (fun b13 => [(2, pb b9), (3, pb b10), (4, pb b11), (5, pb b13), (10, iv y12)]) #[iv 0] hF hS (by kernel_rfl) ⟨by kernel_rfl⟩ (by kernel_rfl) (fun _ => ⟨by kernel_rfl⟩) fun b13 w a hF hS => ?_)
 refine SK.wi (storeK (t := 3) [(2, pb b9), (3, pb b10), (4, pb b11), (5, pb b13)] 0 0 (iv y12) #[iv y12] hF hS rfl (by kernel_rfl) ⟨by kernel_rfl⟩ (by kernel_rfl) (by kernel_rfl) (by kernel_rfl) (by kernel_rfl) ⟨by kernel_rfl⟩ fun w a hF hS => ?_)
 refine wfn rfl ?_
 refine eseq ?_
 refine esr ?_
 refine rno 2 [.run [] (Instr.loadAt 40 (.pointer (some ⟨b9, 1, none⟩))) (sv ad2 p0.jobs cap3)] 2 [(2, pb b9), (3, pb b10), (4, pb b11), (5, pb b13), (12, sv ad2 p0.jobs cap3)] hF (ocons (ob1 (by kernel_rfl) (fun _ hd => (hS.at_ hd).cell (i := 3) (j := 1) rfl rfl)) onil) fun a hF => ?_
 refine SK.wi (callK (f := 94) (args := #[sv ad2 p0.jobs cap3]) (R := fun v w2 => ∃ b15, v = .func (.func 95) #[] #[pb b15] ∧ St w [blk b15 40 #[sv ad2 p0.jobs cap3]] w2) (fun v14 => [(2, pb b9), (3, pb b10), (4, pb b11), (5, pb b13), (13, v14)]) hF (by kernel_rfl) ⟨by kernel_rfl⟩ (Calls.mono (slices_Backward_int_int_ok p0.jobs _ rfl (memOf w) w (memOf_at w) (hA7.mono (FrzAt.le_mem (hS.frz (i := 5) rfl hlow)))) (by rintro e w2 ⟨b15, rfl, h⟩; exact ⟨_, rfl, b15, rfl, h⟩)) (fun _ => ⟨by kernel_rfl⟩) ?_)
 rintro v14 w a ⟨b15, rfl, hQ⟩ hF
 replace hS : St w0 [blk b15 40 #[sv ad2 p0.jobs cap3], blk b13 3 #[iv y12], blk b11 4 #[.bool false], blk b10 3 #[iv p1], blk b9 102 #[.pointer pv1, sv ad2 p0.jobs cap3, sv ad4 p0.at_ cap5, iv p0.done], markR ([]), fz w0 μ] w := hS.madeL hQ
 refine wfn rfl ?_
 refine wpIn_block ?_
 obtain ⟨ν16, hx17, hlow, hS, hz18⟩ := hS.freeze (i := 6) (j := 0) rfl rfl (by decide) hlow
 replace hA6 := hA6.mono Rp113.mono hx17.1
 replace hA7 := hA7.mono hx17.1
 replace hA8 := hA8.mono hx17.1
 replace hext := Frz.ext_trans hext hx17
 replace hS : St w0 [blk b13 3 #[iv y12], blk b11 4 #[.bool false], blk b10 3 #[iv p1], blk b9 102 #[.pointer pv1, sv ad2 p0.jobs cap3, sv ad4 p0.at_ cap5, iv p0.done], markR ([]), fz w0 ν16] w := hS
 have hB19 : BlkM ν16 b15 40 #[sv ad2 p0.jobs cap3] := hz18
 replace h := bindS h
 obtain ⟨r85, hr85, h⟩ := h
 refine rangeG (gf := 95) (lb := #[pb b15]) (fun l => #[.func (.yield l) #[] #[], pb b15]) (fun H1 => ∃ (ν_n : Frz) (g_n : (Unit)), H1 = [blk b13 3 #[iv y12], blk b11 4 #[.bool r85.1.1], blk b10 3 #[iv p1], blk b9 102 #[.pointer pv1, sv ad2 p0.jobs cap3, sv ad4 p0.at_ cap5, iv p0.done], markR ([]), fz w0 ν_n] ∧ ν16.ext w0.heap.size ν_n ∧ FrzIn w0 ν_n ∧ r85.2 = true) (fun c H1 => ∃ (ν_n : Frz) (g_n : (Unit)), H1 = [blk b13 3 #[iv y12], blk b11 4 #[.bool r85.1.1], blk b10 3 #[iv p1], blk b9 102 #[.pointer pv1, sv ad2 p0.jobs cap3, sv ad4 p0.at_ cap5, iv p0.done], markR ([]), fz w0 ν_n] ∧ ν16.ext w0.heap.size ν_n ∧ FrzIn w0 ν_n ∧ r85.2 = false ∧ c = plan_line_late_c1 (r85.1.2)) (M := [(2, pb b9), (3, pb b10), (4, pb b11), (5, pb b13), (13, .func (.func 95) #[] #[pb b15])]) (hF.sub (by kernel_rfl)) rfl hS (fun _ => rfl) (fun _ => by kernel_rfl) ?_ ?_ ?_
 ·replace hF : Fr 71 (marks ([])) [(2, pb b9), (3, pb b10), (4, pb b11), (5, pb b13), (13, .func (.func 95) #[] #[pb b15])] a := hF.sub (by kernel_rfl)
  intro fn_ l1_ D1_ rec1 w hrec1 hS
  replace hS : St w0 [objR l1_ (rec1 .ready none), objR D1_ (.deferred (some [])), blk b13 3 #[iv y12], blk b11 4 #[.bool false], blk b10 3 #[iv p1], blk b9 102 #[.pointer pv1, sv ad2 p0.jobs cap3, sv ad4 p0.at_ cap5, iv p0.done], markR ([]), fz w0 ν16] w := hS
  refine Calls.mono (slices_Backward_int_int_1_ok F p0.jobs (plan_line_late_Y1 p0 p1 y12) (false, 0) _ hr85 l1_ ν16 w0 w (fun (s_r : (Bool × Nat)) (b_r : Bool) (g_r : (Unit)) => [objR l1_ (rec1 (bif b_r then .ready else .done) (bif b_r then none else some (plan_line_late_c1 (s_r.2)))), objR D1_ (.deferred (some [])), blk b13 3 #[iv y12], blk b11 4 #[.bool s_r.1], blk b10 3 #[iv p1], blk b9 102 #[.pointer pv1, sv ad2 p0.jobs cap3, sv ad4 p0.at_ cap5, iv p0.done], markR ([])]) (fun (s_r : (Bool × Nat)) (b_r : Bool) (g_r : (Unit)) (ν_r : Frz) => True) (fun _ _ _ _ _ h hle => trivial) ?_ (()) [] hlow trivial (St.pickT (A := [objR l1_ (rec1 .ready none), objR D1_ (.deferred (some [])), blk b13 3 #[iv y12], blk b11 4 #[.bool false], blk b10 3 #[iv p1], blk b9 102 #[.pointer pv1, sv ad2 p0.jobs cap3, sv ad4 p0.at_ cap5, iv p0.done], markR ([]), fz w0 ν16]) (T := []) [7, 0, 1, 2, 3, 4, 5, 6] (by decide) (by simpa using hS)) hB19 hA7) ?_
  ·rintro s_r x_ q_r h ν_r g_r G_r w  hxv hlow hP  hS
   replace hA6 := hA6.mono Rp113.mono hxv.1
   replace hA7 := hA7.mono hxv.1
   replace hA8 := hA8.mono hxv.1
   replace hB19 := hB19.mono hxv.1
   have hxr := Frz.ext_refl w0.heap.size ν_r
   replace hext := Frz.ext_trans hext hxv
   replace hS : St w0 (objR l1_ (rec1 .ready none) :: objR D1_ (.deferred (some [])) :: blk b13 3 #[iv y12] :: blk b11 4 #[.bool s_r.1] :: blk b10 3 #[iv p1] :: blk b9 102 #[.pointer pv1, sv ad2 p0.jobs cap3, sv ad4 p0.at_ cap5, iv p0.done] :: markR ([]) :: fz w0 ν_r :: G_r) w := St.pickT (A := [fz w0 ν_r, objR l1_ (rec1 .ready none), objR D1_ (.deferred (some [])), blk b13 3 #[iv y12], blk b11 4 #[.bool s_r.1], blk b10 3 #[iv p1], blk b9 102 #[.pointer pv1, sv ad2 p0.jobs cap3, sv ad4 p0.at_ cap5, iv p0.done], markR ([])]) (T := G_r) [1, 2, 3, 4, 5, 6, 7, 0] (by decide) hS
   rw [plan_line_late_Y1] at h
   refine round_ (rec := rec1) hrec1 [(14, iv x_.1), (15, iv x_.2)] [(2, pb b9), (3, pb b10), (4, pb b11), (5, pb b13), (14, iv x_.1), (15, iv x_.2)] hF (by simp) rfl rfl (by kernel_rfl) hS ?_
   intro a hF
   refine esr ?_
   refine rn 1 1 [(2, pb b9), (3, pb b10), (4, pb b11), (5, pb b13), (6, iv x_.1), (15, iv x_.2)] hF fun a hF => ?_
   refine wfn rfl ?_
   refine WI.region ?_
   refine rn 1 1 [(2, pb b9), (3, pb b10), (4, pb b11), (5, pb b13), (6, iv x_.1), (7, iv x_.2)] hF fun a hF => ?_
   refine wfn rfl ?_
   refine ⟨_, St.pickT (A := [objR l1_ (rec1 .ready none), objR D1_ (.deferred (some [])), blk b13 3 #[iv y12], blk b11 4 #[.bool s_r.1], blk b10 3 #[iv p1], blk b9 102 #[.pointer pv1, sv ad2 p0.jobs cap3, sv ad4 p0.at_ cap5, iv p0.done], markR ([]), fz w0 ν_r]) (T := G_r) [0, 1, 2, 3, 4, 5, 6, 7] (by decide) hS, fun w hS => ?_⟩
   refine wpIn_block ?_
   refine esr ?_
   refine rno 3 [.run [] (Instr.loadAt 3 (pb b10)) (iv p1)] 3 [(2, pb b9), (3, pb b10), (4, pb b11), (5, pb b13), (6, iv x_.1), (18, .bool (x_.2 == p1))] hF (ocons (ob1 (by kernel_rfl) (fun _ hd => (hS.at_ hd).cell (i := 4) (j := 0) rfl rfl)) onil) fun a hF => ?_
   refine wfn rfl ?_
   refine econd hF rfl (fun hc => ?_) (fun hc => ?_)
   ·replace h := bif_t h hc
    refine eseq ?_
    replace h := bindS h
    obtain ⟨u66, hu66, h⟩ := h
    replace h := bindS h
    obtain ⟨x67, hx67, h⟩ := h
    replace h := bindS h
    obtain ⟨d68, hd68, h⟩ := h
    obtain ⟨b69, cs70, hp71, hB72, hR73⟩ := PtM.some hA6 hd68
    obtain ⟨ad74, cap75, ad76, cap77, ad78, cap79, css80, rfl, hA81, hA82, hA83⟩ := hR73
    try rw [hp71] at hF
    try rw [hp71] at hS
    try rw [hp71] at hB72
    try rw [hp71] at hB19
    replace h := bindS h
    obtain ⟨u84, hu84, h⟩ := h
    refine runD (obs := [.run [] (Instr.loadAt 3 (pb b13)) (iv y12), .run [] (Instr.loadAt 40 (.pointer (some ⟨b9, 2, none⟩))) (sv ad4 p0.at_ cap5), .run [] (Instr.indexAt 40 (sv ad4 p0.at_ cap5) (iv x_.1)) (.pointer (some (slAddr ad4 x_.1 1))), .run [] (Instr.loadAt 3 (.pointer (some (slAddr ad4 x_.1 1)))) (iv u66), .run [] (binOp .sub 3 (iv y12) (iv u66)) (iv x67), .run [] (Instr.loadAt 100 (pb b9)) (pb b69), .run [] (Instr.loadAt 43 (pb b69)) (sv ad74 d68.jobs cap75), .run [] (Instr.loadAt 3 (pb b10)) (iv p1), .run [] (Instr.indexAt 43 (sv ad74 d68.jobs cap75) (iv p1)) (.pointer (some (slAddr ad74 p1 8))), .run [] (Instr.loadAt 3 (.pointer (some ((slAddr ad74 p1 8).add 7)))) (iv u84.Every)]) 17 [(4, pb b11), (35, .bool (decide (x67 > u84.Every)))] (by kernel_rfl) hF (by kernel_rfl) (ocons (ob1 (by kernel_rfl) (fun _ hd => (hS.later hd).cell (i := 2) (j := 0) rfl rfl)) (ocons (ob1 (by kernel_rfl) (fun _ hd => (hS.later hd).cell (i := 5) (j := 2) rfl rfl)) (ocons (obIdxQ (hA8 _ (hS.frz (i := 7) rfl hlow)) (by kernel_rfl) (fun _ => hu66)) (ocons (obElQ (i := x_.1) 0 fI_len (fun _ hd => (hA8 _ ((hS.later hd).frz (i := 7) rfl hlow))) (by kernel_rfl) (fun _ => hu66) rfl) (ocons (obSubC (fun _ => hx67)) (ocons (ob1 (by kernel_rfl) (fun _ hd => (hS.later hd).cell (i := 5) (j := 0) rfl rfl)) (ocons (ob1 (by kernel_rfl) (fun _ hd => (hB72.blk ((hS.later hd).frz (i := 7) rfl hlow)).cell1 (j := 0) rfl)) (ocons (ob1 (by kernel_rfl) (fun _ hd => (hS.later hd).cell (i := 4) (j := 0) rfl rfl)) (ocons (obIdxQ (hA81 _ (hS.frz (i := 7) rfl hlow)) (by kernel_rfl) (fun _ => hu84)) (ocons (obElQ (i := p1) 7 plan_Job.cells_len (fun _ hd => (hA81 _ ((hS.later hd).frz (i := 7) rfl hlow))) (by kernel_rfl) (fun _ => hu84) rfl) onil)))))))))) ⟨by kernel_rfl⟩ fun a w hF hx => ?_
    replace hS := hS.later hx
    refine SK.wi (storeK (t := 4) [(4, pb b11)] 3 0 (.bool (decide (x67 > u84.Every))) #[.bool (decide (x67 > u84.Every))] hF hS rfl (by kernel_rfl) ⟨by kernel_rfl⟩ (by kernel_rfl) (by kernel_rfl) (by kernel_rfl) (by kernel_rfl) ⟨by kernel_rfl⟩ fun w a hF hS => ?_)
    refine wfn rfl ?_
    refine wpIn_ret (ret_block ?_)
    try simp only [pb, ← hp71] at hF
    try simp only [pb, ← hp71] at hS
    have hr_ := Option.some.inj h
    subst hr_
    refine ⟨_, St.pickT (A := [objR l1_ (rec1 .busy none), objR D1_ (.deferred (some [])), blk b13 3 #[iv y12], blk b11 4 #[.bool (decide (x67 > u84.Every))], blk b10 3 #[iv p1], blk b9 102 #[.pointer pv1, sv ad2 p0.jobs cap3, sv ad4 p0.at_ cap5, iv p0.done], markR ([]), fz w0 ν_r]) (T := G_r) [0, 1, 2, 3, 4, 5, 6, 7] (by decide) hS, fun w hS => ⟨rfl, ν_r, (()), hxr, hlow, trivial, St.pickT (A := [objR l1_ (rec1 .done (some (Code.ret))), objR D1_ (.deferred (some [])), blk b13 3 #[iv y12], blk b11 4 #[.bool (decide (x67 > u84.Every))], blk b10 3 #[iv p1], blk b9 102 #[.pointer pv1, sv ad2 p0.jobs cap3, sv ad4 p0.at_ cap5, iv p0.done], markR ([]), fz w0 ν_r]) (T := G_r) [7, 0, 1, 2, 3, 4, 5, 6] (by decide) hS⟩⟩
   ·replace h := bif_f h hc
    refine wpIn_skip (norm_block ?_)
    have hr_ := Option.some.inj h
    subst hr_
    refine ⟨_, St.pickT (A := [objR l1_ (rec1 .busy none), objR D1_ (.deferred (some [])), blk b13 3 #[iv y12], blk b11 4 #[.bool s_r.1], blk b10 3 #[iv p1], blk b9 102 #[.pointer pv1, sv ad2 p0.jobs cap3, sv ad4 p0.at_ cap5, iv p0.done], markR ([]), fz w0 ν_r]) (T := G_r) [0, 1, 2, 3, 4, 5, 6, 7] (by decide) hS, fun w hS => ⟨rfl, ν_r, (()), hxr, hlow, trivial, St.pickT (A := [objR l1_ (rec1 .ready none), objR D1_ (.deferred (some [])), blk b13 3 #[iv y12], blk b11 4 #[.bool s_r.1], blk b10 3 #[iv p1], blk b9 102 #[.pointer pv1, sv ad2 p0.jobs cap3, sv ad4 p0.at_ cap5, iv p0.done], markR ([]), fz w0 ν_r]) (T := G_r) [7, 0, 1, 2, 3, 4, 5, 6] (by decide) hS⟩⟩
  ·rintro e w2 ⟨ν_n, g_n, hxn, hlown, hPn, rfl, hSn⟩
   refine ⟨_, rfl, ?_⟩
   rcases Bool.eq_false_or_eq_true r85.2 with hb_ | hb_
   ·rw [hb_] at hSn
    refine .inl ⟨_, ⟨ν_n, g_n, rfl, hxn, hlown, hb_⟩, (by have := St.pickT (A := [fz w0 ν_n, objR l1_ (rec1 .ready none), objR D1_ (.deferred (some [])), blk b13 3 #[iv y12], blk b11 4 #[.bool r85.1.1], blk b10 3 #[iv p1], blk b9 102 #[.pointer pv1, sv ad2 p0.jobs cap3, sv ad4 p0.at_ cap5, iv p0.done], markR ([])]) (T := []) [1, 2, 3, 4, 5, 6, 7, 0] (by decide) hSn; simpa using this)⟩
   ·rw [hb_] at hSn
    refine .inr ⟨_, _, ⟨ν_n, g_n, rfl, hxn, hlown, hb_, rfl⟩, (by have := St.pickT (A := [fz w0 ν_n, objR l1_ (rec1 .done (some (plan_line_late_c1 (r85.1.2)))), objR D1_ (.deferred (some [])), blk b13 3 #[iv y12], blk b11 4 #[.bool r85.1.1], blk b10 3 #[iv p1], blk b9 102 #[.pointer pv1, sv ad2 p0.jobs cap3, sv ad4 p0.at_ cap5, iv p0.done], markR ([])]) (T := []) [1, 2, 3, 4, 5, 6, 7, 0] (by decide) hSn; simpa using this)⟩
 ·rintro D88 a w _ ⟨ν87, g86, rfl, hxn, hlow, hb_⟩ hF hS
  replace hA6 := hA6.mono Rp113.mono hxn.1
  replace hA7 := hA7.mono hxn.1
  replace hA8 := hA8.mono hxn.1
  replace hB19 := hB19.mono hxn.1
  replace hext := Frz.ext_trans hext hxn
  replace hS : St w0 [objR D88 (.deferred (some [])), blk b13 3 #[iv y12], blk b11 4 #[.bool r85.1.1], blk b10 3 #[iv p1], blk b9 102 #[.pointer pv1, sv ad2 p0.jobs cap3, sv ad4 p0.at_ cap5, iv p0.done], markR ([]), fz w0 ν87] w := hS
  replace hS := St.mark (St.pick [0, 5, 1, 2, 3, 4, 6] (by decide) hS)
  replace hS : St w0 [markR (D88 :: []), blk b13 3 #[iv y12], blk b11 4 #[.bool r85.1.1], blk b10 3 #[iv p1], blk b9 102 #[.pointer pv1, sv ad2 p0.jobs cap3, sv ad4 p0.at_ cap5, iv p0.done], fz w0 ν87] w := hS
  replace hF : Fr 71 (marks (D88 :: [])) [(2, pb b9), (3, pb b10), (4, pb b11), (5, pb b13), (13, .func (.func 95) #[] #[pb b15])] a := hF
  replace h := bif_t h hb_
  refine norm_block <| norm_then <| ?_
  replace hF : Fr 71 (marks (D88 :: [])) [(2, pb b9), (3, pb b10), (4, pb b11), (5, pb b13)] a := hF.sub (by kernel_rfl)
  refine eseq ?_
  replace h := bindS h
  obtain ⟨d89, hd89, h⟩ := h
  obtain ⟨b90, cs91, hp92, hB93, hR94⟩ := PtM.some hA6 hd89
  obtain ⟨ad95, cap96, ad97, cap98, ad99, cap100, css101, rfl, hA102, hA103, hA104⟩ := hR94
  try rw [hp92] at hF
  try rw [hp92] at hS
  try rw [hp92] at hB93
  try rw [hp92] at hB19
  replace h := bindS h
  obtain ⟨u105, hu105, h⟩ := h
  replace h := bindS h
  obtain ⟨x106, hx106, h⟩ := h
  replace h := bindS h
  obtain ⟨u107, hu107, h⟩ := h
  obtain ⟨cs108, hcs109, hR110⟩ := getI_all2 hA104.2 hu107
  obtain ⟨ad111, cap112, rfl, hA113⟩ := hR110
  replace h := bindS h
  obtain ⟨u114, hu114, h⟩ := h
  replace h := bindS h
  obtain ⟨u115, hu115, h⟩ := h
  replace h := bindS h
  obtain ⟨x116, hx116, h⟩ := h
  replace h := bindS h
  obtain ⟨u117, hu117, h⟩ := h
  refine runD (obs := [.run [] (Instr.loadAt 3 (pb b13)) (iv y12), .run [] (Instr.loadAt 100 (pb b9)) (pb b90), .run [] (Instr.loadAt 40 (.pointer (some ⟨b90, 1, none⟩))) (sv ad97 d89.takes cap98), .run [] (Instr.loadAt 3 (pb b10)) (iv p1), .run [] (Instr.indexAt 40 (sv ad97 d89.takes cap98) (iv p1)) (.pointer (some (slAddr ad97 p1 1))), .run [] (Instr.loadAt 3 (.pointer (some (slAddr ad97 p1 1)))) (iv u105), .run [] (binOp .add 3 (iv y12) (iv u105)) (iv x106), .run [] (Instr.loadAt 100 (pb b9)) (pb b90), .run [] (Instr.loadAt 111 (.pointer (some ⟨b90, 2, none⟩))) (sv ad99 d89.moves cap100), .run [] (Instr.loadAt 3 (pb b10)) (iv p1), .run [] (Instr.indexAt 111 (sv ad99 d89.moves cap100) (iv p1)) (.pointer (some (slAddr ad99 p1 1))), .run [] (Instr.loadAt 40 (.pointer (some (slAddr ad99 p1 1)))) (sv ad111 u107 cap112), .run [] (Instr.loadAt 40 (.pointer (some ⟨b9, 1, none⟩))) (sv ad2 p0.jobs cap3), .run [] (Instr.indexAt 40 (sv ad2 p0.jobs cap3) (iv 0)) (.pointer (some (slAddr ad2 0 1))), .run [] (Instr.loadAt 3 (.pointer (some (slAddr ad2 0 1)))) (iv u114), .run [] (Instr.indexAt 40 (sv ad111 u107 cap112) (iv u114)) (.pointer (some (slAddr ad111 u114 1))), .run [] (Instr.loadAt 3 (.pointer (some (slAddr ad111 u114 1)))) (iv u115), .run [] (binOp .add 3 (iv x106) (iv u115)) (iv x116), .run [] (Instr.loadAt 100 (pb b9)) (pb b90), .run [] (Instr.loadAt 43 (pb b90)) (sv ad95 d89.jobs cap96), .run [] (Instr.loadAt 3 (pb b10)) (iv p1), .run [] (Instr.indexAt 43 (sv ad95 d89.jobs cap96) (iv p1)) (.pointer (some (slAddr ad95 p1 8))), .run [] (Instr.loadAt 3 (.pointer (some ((slAddr ad95 p1 8).add 7)))) (iv u117.Every)]) 35 [(4, pb b11), (70, .bool (decide (x116 > u117.Every)))] (by kernel_rfl) hF (by kernel_rfl) (ocons (ob1 (by kernel_rfl) (fun _ hd => (hS.later hd).cell (i := 1) (j := 0) rfl rfl)) (ocons (ob1 (by kernel_rfl) (fun _ hd => (hS.later hd).cell (i := 4) (j := 0) rfl rfl)) (ocons (ob1 (by kernel_rfl) (fun _ hd => (hB93.blk ((hS.later hd).frz (i := 5) rfl hlow)).cell1 (j := 1) rfl)) (ocons (ob1 (by kernel_rfl) (fun _ hd => (hS.later hd).cell (i := 3) (j := 0) rfl rfl)) (ocons (obIdxQ (hA103 _ (hS.frz (i := 5) rfl hlow)) (by kernel_rfl) (fun _ => hu105)) (ocons (obElQ (i := p1) 0 fI_len (fun _ hd => (hA103 _ ((hS.later hd).frz (i := 5) rfl hlow))) (by kernel_rfl) (fun _ => hu105) rfl) (ocons (obAddC (fun _ => hx106)) (ocons (ob1 (by kernel_rfl) (fun _ hd => (hS.later hd).cell (i := 4) (j := 0) rfl rfl)) (ocons (ob1 (by kernel_rfl) (fun _ hd => (hB93.blk ((hS.later hd).frz (i := 5) rfl hlow)).cell1 (j := 2) rfl)) (ocons (ob1 (by kernel_rfl) (fun _ hd => (hS.later hd).cell (i := 3) (j := 0) rfl rfl)) (ocons (obIdxQ (hA104.at (hS.frz (i := 5) rfl hlow)) (by kernel_rfl) (fun _ => hcs109)) (ocons (obElQ (i := p1) 0 (fN_len 1) (fun _ hd => (hA104.at ((hS.later hd).frz (i := 5) rfl hlow))) (by kernel_rfl) (fun _ => hcs109) rfl) (ocons (ob1 (by kernel_rfl) (fun _ hd => (hS.later hd).cell (i := 4) (j := 1) rfl rfl)) (ocons (obIdxQ (hA7 _ (hS.frz (i := 5) rfl hlow)) (by kernel_rfl) (fun _ => hu114)) (ocons (obElQ (i := 0) 0 fI_len (fun _ hd => (hA7 _ ((hS.later hd).frz (i := 5) rfl hlow))) (by kernel_rfl) (fun _ => hu114) rfl) (ocons (obIdxQ (hA113 _ (hS.frz (i := 5) rfl hlow)) (by kernel_rfl) (fun _ => hu115)) (ocons (obElQ (i := u114) 0 fI_len (fun _ hd => (hA113 _ ((hS.later hd).frz (i := 5) rfl hlow))) (by kernel_rfl) (fun _ => hu115) rfl) (ocons (obAddC (fun _ => hx116)) (ocons (ob1 (by kernel_rfl) (fun _ hd => (hS.later hd).cell (i := 4) (j := 0) rfl rfl)) (ocons (ob1 (by kernel_rfl) (fun _ hd => (hB93.blk ((hS.later hd).frz (i := 5) rfl hlow)).cell1 (j := 0) rfl)) (ocons (ob1 (by kernel_rfl) (fun _ hd => (hS.later hd).cell (i := 3) (j := 0) rfl rfl)) (ocons (obIdxQ (hA102 _ (hS.frz (i := 5) rfl hlow)) (by kernel_rfl) (fun _ => hu117)) (ocons (obElQ (i := p1) 7 plan_Job.cells_len (fun _ hd => (hA102 _ ((hS.later hd).frz (i := 5) rfl hlow))) (by kernel_rfl) (fun _ => hu117) rfl) onil))))))))))))))))))))))) ⟨by kernel_rfl⟩ fun a w hF hx => ?_
  replace hS := hS.later hx
  refine SK.wi (storeK (t := 4) [(4, pb b11)] 2 0 (.bool (decide (x116 > u117.Every))) #[.bool (decide (x116 > u117.Every))] hF hS rfl (by kernel_rfl) ⟨by kernel_rfl⟩ (by kernel_rfl) (by kernel_rfl) (by kernel_rfl) (by kernel_rfl) ⟨by kernel_rfl⟩ fun w a hF hS => ?_)
  refine wfn rfl ?_
  refine wpIn_ret (fn_retM (H := [blk b13 3 #[iv y12], blk b11 4 #[.bool (decide (x116 > u117.Every))], blk b10 3 #[iv p1], blk b9 102 #[pb b90, sv ad2 p0.jobs cap3, sv ad4 p0.at_ cap5, iv p0.done], fz w0 ν87]) [.cell 4 4] [.bool (decide (x116 > u117.Every))] hF (St.pick [0, 1, 2, 3, 4, 5] (by decide) hS) rfl fun w hS => ⟨⟨⟨_, rfl, loadVar1 (by kernel_rfl) (hS.cell (i := 1) (j := 0) rfl rfl)⟩, trivial⟩, ?_⟩)
  have hr_ := Option.some.inj h
  subst hr_
  exact ⟨rfl, hS.ext⟩
 rintro D88 _ a w _ ⟨ν87, g86, rfl, hxn, hlow, hb_, rfl⟩ hF hS
 replace hA6 := hA6.mono Rp113.mono hxn.1
 replace hA7 := hA7.mono hxn.1
 replace hA8 := hA8.mono hxn.1
 replace hB19 := hB19.mono hxn.1
 replace hext := Frz.ext_trans hext hxn
 replace hS : St w0 [objR D88 (.deferred (some [])), blk b13 3 #[iv y12], blk b11 4 #[.bool r85.1.1], blk b10 3 #[iv p1], blk b9 102 #[.pointer pv1, sv ad2 p0.jobs cap3, sv ad4 p0.at_ cap5, iv p0.done], markR ([]), fz w0 ν87] w := hS
 replace hS := St.mark (St.pick [0, 5, 1, 2, 3, 4, 6] (by decide) hS)
 replace hS : St w0 [markR (D88 :: []), blk b13 3 #[iv y12], blk b11 4 #[.bool r85.1.1], blk b10 3 #[iv p1], blk b9 102 #[.pointer pv1, sv ad2 p0.jobs cap3, sv ad4 p0.at_ cap5, iv p0.done], fz w0 ν87] w := hS
 replace hF : Fr 71 (marks (D88 :: [])) [(2, pb b9), (3, pb b10), (4, pb b11), (5, pb b13), (13, .func (.func 95) #[] #[pb b15])] a := hF
 replace h := bif_f h hb_
 show WP _ _ Code.ret _ a w
 refine wpIn_ret (ret_block <| ret_then <| fn_retM (H := [blk b13 3 #[iv y12], blk b11 4 #[.bool r85.1.1], blk b10 3 #[iv p1], blk b9 102 #[.pointer pv1, sv ad2 p0.jobs cap3, sv ad4 p0.at_ cap5, iv p0.done], fz w0 ν87]) [.cell 4 4] [.bool r85.1.1] hF (St.pick [0, 1, 2, 3, 4, 5] (by decide) hS) rfl fun w hS => ⟨⟨⟨_, rfl, loadVar1 (by kernel_rfl) (hS.cell (i := 1) (j := 0) rfl rfl)⟩, trivial⟩, ?_⟩)
 have hr_ := Option.some.inj h
 subst hr_
 exact ⟨rfl, hS.ext⟩
end Go.Proofs.Ytejffembnkojjaa
