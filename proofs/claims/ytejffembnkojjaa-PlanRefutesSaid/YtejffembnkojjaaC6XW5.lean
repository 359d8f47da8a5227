/- Walks, written by program (wip/gen/dec.py). -/
import Derived.Test.YtejffembnkojjaaC6XD
import Derived.Test.YtejffembnkojjaaProg
import Derived.Test.YtejffembnkojjaaC6XW1
import Derived.Test.YtejffembnkojjaaC6XW3
namespace Go.Proofs.Ytejffembnkojjaa
open Go Go.RowKit Go.Eng
set_option maxRecDepth 10000
set_option maxHeartbeats 4000000
set_option linter.unusedVariables false
set_option linter.unusedSimpArgs false
theorem pplan_desk_of_ok (F : Nat) (p0 : (Option plan_desk)) (p1 : (List Int)) (res : plan_line) (h : pplan_desk_of F p0 p1 = some res) (μ : Frz) (w0 : World) (hm : FrzAt μ w0) {pv1 : Option Addr} {ad3 : Option Addr} {cap4 : Nat} (hA2 : PtM μ 113 Rp113 pv1 p0) (hA5 : ArrM μ 1 fI ad3 cap4 p1) : Calls Try.prog 76 #[.pointer pv1, sv ad3 p1 cap4] w0 (fun e w => ∃ (ν_ : Frz) (pv169 : Option Addr) (ad170 : Option Addr) (cap171 : Nat) (ad172 : Option Addr) (cap173 : Nat), μ.ext w0.heap.size ν_ ∧ e = .returned (.agg #[.pointer pv169, sv ad170 res.jobs cap171, sv ad172 res.at_ cap173, iv res.done]) ∧ PtM ν_ 113 Rp113 pv169 res.desk ∧ ArrM ν_ 1 fI ad170 cap171 res.jobs ∧ ArrM ν_ 1 fI ad172 cap173 res.at_ ∧ St w0 [fz w0 ν_] w) := by
 obtain ⟨hlow, hS⟩ := hm.init
 have hext := Frz.ext_refl w0.heap.size μ
 rw [pplan_desk_of] at h
 refine fn_enterW Try.func76 rfl 21 [(0, .pointer pv1), (1, sv ad3 p1 cap4)] rfl rfl (by kernel_rfl) fun a w hw hF => ?_
 replace hS : St w0 [fz w0 μ] w := by rw [hw]; exact hS
 clear hw
 refine esr ?_
 refine SK.wi (allocK (t := 102) (fun b6 => [(0, .pointer pv1), (1, sv ad3 p1 cap4), (4, pb b6)]) #[.pointer none, .slice none 0 0, .slice none 0 0, iv 0] hF hS (by kernel_rfl) ⟨by kernel_rfl⟩ (by kernel_rfl) (fun _ => ⟨by kernel_rfl⟩) fun b6 w a hF hS => ?_)
 refine wfn rfl ?_
 refine esr ?_
 refine rn 2 2 [(1, sv ad3 p1 cap4), (4, pb b6), (9, .agg #[.pointer pv1, .slice none 0 0, .slice none 0 0, iv 0])] hF fun a hF => ?_
 refine SK.wi (allocK (t := 102) (fun b7 => [(1, sv ad3 p1 cap4), (4, pb b6), (5, pb b7), (9, .agg #[.pointer pv1, .slice none 0 0, .slice none 0 0, iv 0])]) #[.pointer none, .slice none 0 0, .slice none 0 0, iv 0] hF hS (by kernel_rfl) ⟨by kernel_rfl⟩ (by kernel_rfl) (fun _ => ⟨by kernel_rfl⟩) fun b7 w a hF hS => ?_)
 refine SK.wi (storeK (t := 102) [(1, sv ad3 p1 cap4), (4, pb b6), (5, pb b7)] 0 0 (.agg #[.pointer pv1, .slice none 0 0, .slice none 0 0, iv 0]) #[.pointer pv1, .slice none 0 0, .slice none 0 0, iv 0] hF hS rfl (by kernel_rfl) ⟨by kernel_rfl⟩ (by kernel_rfl) (by kernel_rfl) (by kernel_rfl) (by kernel_rfl) ⟨by kernel_rfl⟩ fun w a hF hS => ?_)
 refine wfn rfl ?_
 have hj95 := Frz.le_refl μ
 refine ecut (fun a w => ∃ (q83 : (Option plan_desk)) (l87 : (List Int)) (l91 : (List Int)) (x93 : Int) (ν81 : Frz) (pv82 : Option Addr) (ad85 : Option Addr) (cap86 : Nat) (ad89 : Option Addr) (cap90 : Nat), Fr 21 [] [(4, pb b6), (5, pb b7)] a ∧ St w0 [blk b7 102 #[.pointer pv82, sv ad85 l87 cap86, sv ad89 l91 cap90, iv x93], blk b6 102 #[.pointer none, .slice none 0 0, .slice none 0 0, iv 0], fz w0 ν81] w ∧ (PtM ν81 113 Rp113 pv82 q83) ∧ (ArrM ν81 1 fI ad85 cap86 l87) ∧ (ArrM ν81 1 fI ad89 cap90 l91) ∧ (μ.le ν81) ∧ (μ.ext w0.heap.size ν81) ∧ (FrzIn w0 ν81) ∧ pplan_desk_of_K1 q83 l87 l91 x93 = some res) ?_ ?_
 ·skip
  refine esr ?_
  refine rn 3 3 [(4, pb b6), (5, pb b7), (10, sv ad3 p1 cap4), (11, iv (ln p1)), (12, iv 0)] hF fun a hF => ?_
  refine wfn rfl ?_
  refine wpIn_block ?_
  have hj154 := Frz.le_refl μ
  refine eloop (fun n_ a w => ∃ (q141 : (Option plan_desk)) (l145 : (List Int)) (l149 : (List Int)) (x151 : Int) (x152 : Int) (ν139 : Frz) (pv140 : Option Addr) (ad143 : Option Addr) (cap144 : Nat) (ad147 : Option Addr) (cap148 : Nat), Fr 21 [] [(4, pb b6), (5, pb b7), (10, sv ad3 p1 cap4), (11, iv (ln p1)), (12, iv x152)] a ∧ St w0 [blk b7 102 #[.pointer pv140, sv ad143 l145 cap144, sv ad147 l149 cap148, iv x151], blk b6 102 #[.pointer none, .slice none 0 0, .slice none 0 0, iv 0], fz w0 ν139] w ∧ (PtM ν139 113 Rp113 pv140 q141) ∧ (ArrM ν139 1 fI ad143 cap144 l145) ∧ (ArrM ν139 1 fI ad147 cap148 l149) ∧ (μ.le ν139) ∧ (μ.ext w0.heap.size ν139) ∧ (FrzIn w0 ν139) ∧ pplan_desk_of_L2 F p1 n_ q141 l145 l149 x151 x152 = some res) F ⟨p0, [], [], 0, 0, μ, pv1, none, 0, none, 0, hF.sub (by kernel_rfl), St.pick [0, 1, 2] (by decide) hS, hA2, ArrM.nil, ArrM.nil, hj154, hext, hlow, h⟩ ?_
  clear hj154
  rintro n_ a w ⟨q141, l145, l149, x151, x152, ν139, pv140, ad143, cap144, ad147, cap148, hF, hS, hA142, hA146, hA150, hle153, hext, hlow, h⟩
  rcases n_ with _ | n_
  ·cases (show (none : Option plan_line) = some res from h)
  replace hA2 := hA2.mono Rp113.mono hle153
  replace hA5 := hA5.mono hle153
  replace hj95 := Frz.le_trans hj95 hle153
  obtain ⟨k2, hk2⟩ : ∃ k, k = pplan_desk_of_L2 F p1 n_ := ⟨_, rfl⟩
  replace h : pplan_desk_of_B2 F p1 k2 q141 l145 l149 x151 x152 = some res := by rw [hk2]; exact h
  rw [pplan_desk_of_B2] at h
  refine esr ?_
  refine rn 1 1 [(4, pb b6), (5, pb b7), (10, sv ad3 p1 cap4), (11, iv (ln p1)), (12, iv x152), (13, .bool (decide (x152 < (ln p1))))] hF fun a hF => ?_
  refine wfn rfl ?_
  refine eseq ?_
  refine econd hF rfl (fun hc => ?_) (fun hc => ?_)
  ·replace h := bif_t h hc
   refine wpIn_skip (norm_then ?_)
   refine eseq ?_
   refine wpIn_block ?_
   refine esr ?_
   replace h := bindS h
   obtain ⟨u155, hu155, h⟩ := h
   refine rno 3 [.run [] (Instr.indexAt 40 (sv ad3 p1 cap4) (iv x152)) (.pointer (some (slAddr ad3 x152 1))), .run [] (Instr.loadAt 3 (.pointer (some (slAddr ad3 x152 1)))) (iv u155)] 3 [(4, pb b6), (5, pb b7), (7, iv u155), (10, sv ad3 p1 cap4), (11, iv (ln p1)), (12, iv x152)] hF (ocons (obIdxQ (hA5 _ (hS.frz (i := 2) rfl hlow)) (by kernel_rfl) (fun _ => hu155)) (ocons (obElQ (i := x152) 0 fI_len (fun _ hd => (hA5 _ ((hS.at_ hd).frz (i := 2) rfl hlow))) (by kernel_rfl) (fun _ => hu155) rfl) onil)) fun a hF => ?_
   refine wfn rfl ?_
   refine WI.region ?_
   refine rno 2 [.run [] (Instr.loadAt 102 (pb b7)) (.agg #[.pointer pv140, sv ad143 l145 cap144, sv ad147 l149 cap148, iv x151])] 2 [(4, pb b6), (5, pb b7), (10, sv ad3 p1 cap4), (11, iv (ln p1)), (12, iv x152), (16, .agg #[.pointer pv140, sv ad143 l145 cap144, sv ad147 l149 cap148, iv x151]), (17, iv u155)] hF (ocons (obN (us := [.pointer pv140, sv ad143 l145 cap144, sv ad147 l149 cap148, iv x151]) (by kernel_rfl) (fun _ hd => ((hS.at_ hd).blk (i := 0) rfl).cells rfl)) onil) fun a hF => ?_
   replace h := bindS h
   obtain ⟨y157, hy157, h⟩ := h
   refine SK.wi (callK (f := 85) (args := #[.agg #[.pointer pv140, sv ad143 l145 cap144, sv ad147 l149 cap148, iv x151], iv u155]) (R := fun v w2 => ∃ ν158 pv159 ad160 cap161 ad162 cap163, ν139.ext w.heap.size ν158 ∧ v = .agg #[.pointer pv159, sv ad160 y157.jobs cap161, sv ad162 y157.at_ cap163, iv y157.done] ∧ PtM ν158 113 Rp113 pv159 y157.desk ∧ ArrM ν158 1 fI ad160 cap161 y157.jobs ∧ ArrM ν158 1 fI ad162 cap163 y157.at_ ∧ St w [frzR w.heap.size ν158] w2) (fun v156 => [(4, pb b6), (5, pb b7), (10, sv ad3 p1 cap4), (11, iv (ln p1)), (12, iv x152), (18, v156)]) hF (by kernel_rfl) ⟨by kernel_rfl⟩ (Calls.mono (plan_line_add_ok F (plan_line.mk q141 l145 l149 x151) u155 _ hy157 ν139 w (hS.frz (i := 2) rfl hlow) hA142 hA146 hA150) (by rintro e w2 ⟨ν158, pv159, ad160, cap161, ad162, cap163, hx167, rfl, hA164, hA165, hA166, h⟩; exact ⟨_, rfl, ν158, pv159, ad160, cap161, ad162, cap163, hx167, rfl, hA164, hA165, hA166, h⟩)) (fun _ => ⟨by kernel_rfl⟩) ?_)
   rintro v156 w a ⟨ν158, pv159, ad160, cap161, ad162, cap163, hx167, rfl, hA164, hA165, hA166, hQ⟩ hF
   replace hext := Frz.ext_trans hext (Frz.ext_mono hx167 hS.ext.size)
   obtain ⟨hlow, hS⟩ := hS.frzMerge (i := 2) rfl hlow hx167 hQ
   replace hA2 := hA2.mono Rp113.mono hx167.1
   replace hA5 := hA5.mono hx167.1
   replace hA142 := hA142.mono Rp113.mono hx167.1
   replace hA146 := hA146.mono hx167.1
   replace hA150 := hA150.mono hx167.1
   replace hj95 := Frz.le_trans hj95 hx167.1
   replace hle153 := Frz.le_trans hle153 hx167.1
   replace hS : St w0 [blk b7 102 #[.pointer pv140, sv ad143 l145 cap144, sv ad147 l149 cap148, iv x151], blk b6 102 #[.pointer none, .slice none 0 0, .slice none 0 0, iv 0], fz w0 ν158] w := hS
   refine SK.wi (storeK (t := 102) [(4, pb b6), (5, pb b7), (10, sv ad3 p1 cap4), (11, iv (ln p1)), (12, iv x152)] 0 0 (.agg #[.pointer pv159, sv ad160 y157.jobs cap161, sv ad162 y157.at_ cap163, iv y157.done]) #[.pointer pv159, sv ad160 y157.jobs cap161, sv ad162 y157.at_ cap163, iv y157.done] hF hS rfl (by kernel_rfl) ⟨by kernel_rfl⟩ (by kernel_rfl) (by kernel_rfl) (by kernel_rfl) (by kernel_rfl) ⟨by kernel_rfl⟩ fun w a hF hS => ?_)
   refine WI.fin rfl (norm_block <| norm_then <| ?_)
   refine WI.region ?_
   replace h := bindS h
   obtain ⟨x168, hx168, h⟩ := h
   refine rno 2 [.run [] (binOp .add 3 (iv x152) (iv 1)) (iv x168)] 2 [(4, pb b6), (5, pb b7), (10, sv ad3 p1 cap4), (11, iv (ln p1)), (12, iv x168)] hF (ocons (obAddC (fun _ => hx168)) onil) fun a hF => ?_
   refine wfn rfl ?_
   rw [hk2] at h
   exact ⟨n_, Nat.lt_succ_self _, y157.desk, y157.jobs, y157.at_, y157.done, x168, ν158, pv159, ad160, cap161, ad162, cap163, hF.sub (by kernel_rfl), St.pick [0, 1, 2] (by decide) hS, hA164, hA165, hA166, hle153, hext, hlow, h⟩
  ·replace h := bif_f h hc
   refine wpIn_exit (exit_then <| exit_then <| exit_hit <| norm_then ?_)
   exact ⟨q141, l145, l149, x151, ν139, pv140, ad143, cap144, ad147, cap148, hF.sub (by kernel_rfl), St.pick [0, 1, 2] (by decide) hS, hA142, hA146, hA150, hj95, hext, hlow, h⟩
 clear hj95
 rintro a w ⟨q83, l87, l91, x93, ν81, pv82, ad85, cap86, ad89, cap90, hF, hS, hA84, hA88, hA92, hle94, hext, hlow, h⟩
 replace hA2 := hA2.mono Rp113.mono hle94
 replace hA5 := hA5.mono hle94
 rw [pplan_desk_of_K1] at h
 refine esr ?_
 refine rno 1 [.run [] (Instr.loadAt 102 (pb b7)) (.agg #[.pointer pv82, sv ad85 l87 cap86, sv ad89 l91 cap90, iv x93])] 1 [(4, pb b6), (20, .agg #[.pointer pv82, sv ad85 l87 cap86, sv ad89 l91 cap90, iv x93])] hF (ocons (obN (us := [.pointer pv82, sv ad85 l87 cap86, sv ad89 l91 cap90, iv x93]) (by kernel_rfl) (fun _ hd => ((hS.at_ hd).blk (i := 0) rfl).cells rfl)) onil) fun a hF => ?_
 refine SK.wi (storeK (t := 102) [(4, pb b6)] 1 0 (.agg #[.pointer pv82, sv ad85 l87 cap86, sv ad89 l91 cap90, iv x93]) #[.pointer pv82, sv ad85 l87 cap86, sv ad89 l91 cap90, iv x93] hF hS rfl (by kernel_rfl) ⟨by kernel_rfl⟩ (by kernel_rfl) (by kernel_rfl) (by kernel_rfl) (by kernel_rfl) ⟨by kernel_rfl⟩ fun w a hF hS => ?_)
 refine wfn rfl ?_
 refine wpIn_ret (fn_ret [.cell 4 102] [.agg #[.pointer pv82, sv ad85 l87 cap86, sv ad89 l91 cap90, iv x93]] hF rfl ⟨⟨_, rfl, loadVarN (cs := [.pointer pv82, sv ad85 l87 cap86, sv ad89 l91 cap90, iv x93]) (by kernel_rfl) ((hS.blk (i := 1) rfl).cells rfl)⟩, trivial⟩ ?_)
 have hr_ := Option.some.inj h
 subst hr_
 exact ⟨ν81, pv82, ad85, cap86, ad89, cap90, hext, rfl, hA84, hA88, hA92, St.pick [2] (by decide) hS⟩

theorem plan_line_gaps_ok (F : Nat) (p0 : plan_line) (res : (List Int)) (h : plan_line_gaps F p0 = some res) (μ : Frz) (w0 : World) (hm : FrzAt μ w0) {pv1 : Option Addr} {ad2 : Option Addr} {cap3 : Nat} {ad4 : Option Addr} {cap5 : Nat} (hA6 : PtM μ 113 Rp113 pv1 p0.desk) (hA7 : ArrM μ 1 fI ad2 cap3 p0.jobs) (hA8 : ArrM μ 1 fI ad4 cap5 p0.at_) : Calls Try.prog 77 #[.agg #[.pointer pv1, sv ad2 p0.jobs cap3, sv ad4 p0.at_ cap5, iv p0.done]] w0 (fun e w => ∃ zad0 zcap0, e = .returned (sv zad0 res zcap0) ∧ St w0 [arr 3 1 fI zad0 res.length zcap0 res] w) := by
 obtain ⟨hlow, hS⟩ := hm.init
 have hext := Frz.ext_refl w0.heap.size μ
 rw [plan_line_gaps] at h
 refine fn_enterW Try.func77 rfl 79 [(0, .agg #[.pointer pv1, sv ad2 p0.jobs cap3, sv ad4 p0.at_ cap5, iv p0.done])] rfl rfl (by kernel_rfl) fun a w hw hF => ?_
 replace hS : St w0 [fz w0 μ] w := by rw [hw]; exact hS
 clear hw
 refine esr ?_
 refine SK.wi (boxK (t := 102) (fun b9 => [(1, pb b9)]) (.agg #[.pointer pv1, sv ad2 p0.jobs cap3, sv ad4 p0.at_ cap5, iv p0.done]) #[.pointer pv1, sv ad2 p0.jobs cap3, sv ad4 p0.at_ cap5, iv p0.done] hF hS (by kernel_rfl) ⟨by kernel_rfl⟩ (by kernel_rfl) (fun _ => ⟨by kernel_rfl⟩) fun b9 w a hF hS => ?_)
 refine rn 1 2 [(1, pb b9)] hF fun a hF => ?_
 refine wfn rfl ?_
 refine esr ?_
 replace h := bindS h
 obtain ⟨d10, hd10, h⟩ := h
 obtain ⟨b11, cs12, hp13, hB14, hR15⟩ := PtM.some hA6 hd10
 obtain ⟨ad16, cap17, ad18, cap19, ad20, cap21, css22, rfl, hA23, hA24, hA25⟩ := hR15
 try rw [hp13] at hF
 try rw [hp13] at hS
 try rw [hp13] at hB14
 refine rno 6 [.run [] (Instr.loadAt 100 (pb b9)) (pb b11), .run [] (Instr.loadAt 40 (.pointer (some ⟨b11, 1, none⟩))) (sv ad18 d10.takes cap19)] 6 [(1, pb b9), (14, iv (ln d10.takes))] hF (ocons (ob1 (by kernel_rfl) (fun _ hd => (hS.at_ hd).cell (i := 0) (j := 0) rfl rfl)) (ocons (ob1 (by kernel_rfl) (fun _ hd => (hB14.blk ((hS.at_ hd).frz (i := 1) rfl hlow)).cell1 (j := 1) rfl)) onil)) fun a hF => ?_
 replace h := bindS h
 obtain ⟨l27, hl27, h⟩ := h
 refine SK.wi (makeK (e := 3) (sz := 1) (f := fI) (z := iv 0) (t := 40) (bytes := 8) (fun b26 => [(1, pb b9), (15, .slice (some ⟨b26, 0, none⟩) l27.length l27.length)]) 0 hF hS (by kernel_rfl) ⟨by kernel_rfl⟩ (by kernel_rfl) (by kernel_rfl) rfl hl27 (fun _ => ⟨by kernel_rfl⟩) fun b26 w a hF hS => ?_)
 refine rn 1 8 [(1, pb b9), (3, .slice (some ⟨b26, 0, none⟩) l27.length l27.length)] hF fun a hF => ?_
 refine wfn rfl ?_
 refine esr ?_
 refine rno 6 [.run [] (Instr.loadAt 100 (pb b9)) (pb b11), .run [] (Instr.loadAt 40 (.pointer (some ⟨b11, 1, none⟩))) (sv ad18 d10.takes cap19)] 6 [(1, pb b9), (3, .slice (some ⟨b26, 0, none⟩) l27.length l27.length), (21, iv (ln d10.takes))] hF (ocons (ob1 (by kernel_rfl) (fun _ hd => (hS.at_ hd).cell (i := 1) (j := 0) rfl rfl)) (ocons (ob1 (by kernel_rfl) (fun _ hd => (hB14.blk ((hS.at_ hd).frz (i := 2) rfl hlow)).cell1 (j := 1) rfl)) onil)) fun a hF => ?_
 replace h := bindS h
 obtain ⟨l29, hl29, h⟩ := h
 refine SK.wi (makeK (e := 3) (sz := 1) (f := fI) (z := iv 0) (t := 40) (bytes := 8) (fun b28 => [(1, pb b9), (3, .slice (some ⟨b26, 0, none⟩) l27.length l27.length), (22, .slice (some ⟨b28, 0, none⟩) l29.length l29.length)]) 0 hF hS (by kernel_rfl) ⟨by kernel_rfl⟩ (by kernel_rfl) (by kernel_rfl) rfl hl29 (fun _ => ⟨by kernel_rfl⟩) fun b28 w a hF hS => ?_)
 refine rn 1 8 [(1, pb b9), (3, .slice (some ⟨b26, 0, none⟩) l27.length l27.length), (4, .slice (some ⟨b28, 0, none⟩) l29.length l29.length)] hF fun a hF => ?_
 refine wfn rfl ?_
 refine ecut (fun a w => ∃ (l62 : (List Int)) (ad60 : Option Addr) (cap61 : Nat), Fr 79 [] [(1, pb b9), (3, .slice (some ⟨b26, 0, none⟩) l27.length l27.length), (4, sv ad60 l62 cap61)] a ∧ St w0 [arr 3 1 fI ad60 l62.length cap61 l62, arr 3 1 fI (some ⟨b26, 0, none⟩) l27.length l27.length l27, blk b9 102 #[pb b11, sv ad2 p0.jobs cap3, sv ad4 p0.at_ cap5, iv p0.done], fz w0 μ] w ∧ plan_line_gaps_K1 F p0 l27 l62 = some res) ?_ ?_
 ·skip
  refine esr ?_
  refine rno 4 [.run [] (Instr.loadAt 40 (.pointer (some ⟨b9, 1, none⟩))) (sv ad2 p0.jobs cap3)] 4 [(1, pb b9), (3, .slice (some ⟨b26, 0, none⟩) l27.length l27.length), (4, .slice (some ⟨b28, 0, none⟩) l29.length l29.length), (24, sv ad2 p0.jobs cap3), (25, iv (ln p0.jobs)), (26, iv 0)] hF (ocons (ob1 (by kernel_rfl) (fun _ hd => (hS.at_ hd).cell (i := 2) (j := 1) rfl rfl)) onil) fun a hF => ?_
  refine wfn rfl ?_
  refine wpIn_block ?_
  refine eloop (fun n_ a w => ∃ (x182 : Int) (l185 : (List Int)) (ad183 : Option Addr) (cap184 : Nat), Fr 79 [] [(1, pb b9), (3, .slice (some ⟨b26, 0, none⟩) l27.length l27.length), (4, sv ad183 l185 cap184), (24, sv ad2 p0.jobs cap3), (25, iv (ln p0.jobs)), (26, iv x182)] a ∧ St w0 [arr 3 1 fI ad183 l185.length cap184 l185, arr 3 1 fI (some ⟨b26, 0, none⟩) l27.length l27.length l27, blk b9 102 #[pb b11, sv ad2 p0.jobs cap3, sv ad4 p0.at_ cap5, iv p0.done], fz w0 μ] w ∧ plan_line_gaps_L4 F p0 d10 l27 n_ x182 l185 = some res) F ⟨0, l29, (some ⟨b28, 0, none⟩), l29.length, hF.sub (by kernel_rfl), St.pick [0, 1, 2, 3] (by decide) hS, h⟩ ?_
  rintro n_ a w ⟨x182, l185, ad183, cap184, hF, hS, h⟩
  rcases n_ with _ | n_
  ·cases (show (none : Option (List Int)) = some res from h)
  obtain ⟨k4, hk4⟩ : ∃ k, k = plan_line_gaps_L4 F p0 d10 l27 n_ := ⟨_, rfl⟩
  replace h : plan_line_gaps_B4 F p0 d10 l27 k4 x182 l185 = some res := by rw [hk4]; exact h
  rw [plan_line_gaps_B4] at h
  refine esr ?_
  refine rn 1 1 [(1, pb b9), (3, .slice (some ⟨b26, 0, none⟩) l27.length l27.length), (4, sv ad183 l185 cap184), (24, sv ad2 p0.jobs cap3), (25, iv (ln p0.jobs)), (26, iv x182), (27, .bool (decide (x182 < (ln p0.jobs))))] hF fun a hF => ?_
  refine wfn rfl ?_
  refine eseq ?_
  refine econd hF rfl (fun hc => ?_) (fun hc => ?_)
  ·replace h := bif_t h hc
   refine wpIn_skip (norm_then ?_)
   refine eseq ?_
   refine wpIn_block ?_
   refine esr ?_
   replace h := bindS h
   obtain ⟨u187, hu187, h⟩ := h
   refine rno 5 [.run [] (Instr.indexAt 40 (sv ad2 p0.jobs cap3) (iv x182)) (.pointer (some (slAddr ad2 x182 1))), .run [] (Instr.loadAt 3 (.pointer (some (slAddr ad2 x182 1)))) (iv u187)] 5 [(1, pb b9), (3, .slice (some ⟨b26, 0, none⟩) l27.length l27.length), (4, sv ad183 l185 cap184), (5, iv x182), (6, iv u187), (24, sv ad2 p0.jobs cap3), (25, iv (ln p0.jobs)), (26, iv x182)] hF (ocons (obIdxQ (hA7 _ (hS.frz (i := 3) rfl hlow)) (by kernel_rfl) (fun _ => hu187)) (ocons (obElQ (i := x182) 0 fI_len (fun _ hd => (hA7 _ ((hS.at_ hd).frz (i := 3) rfl hlow))) (by kernel_rfl) (fun _ => hu187) rfl) onil)) fun a hF => ?_
   refine wfn rfl ?_
   replace h := bindS h
   obtain ⟨u188, hu188, h⟩ := h
   replace h := bindS h
   obtain ⟨y189, hy189, h⟩ := h
   replace h := bindS h
   obtain ⟨x190, hx190, h⟩ := h
   replace h := bindS h
   obtain ⟨u191, hu191, h⟩ := h
   refine runD (obs := [.run [] (Instr.loadAt 40 (.pointer (some ⟨b9, 2, none⟩))) (sv ad4 p0.at_ cap5), .run [] (Instr.indexAt 40 (sv ad4 p0.at_ cap5) (iv x182)) (.pointer (some (slAddr ad4 x182 1))), .run [] (Instr.loadAt 3 (.pointer (some (slAddr ad4 x182 1)))) (iv u188), .run [] (Instr.loadAt 102 (pb b9)) (.agg #[pb b11, sv ad2 p0.jobs cap3, sv ad4 p0.at_ cap5, iv p0.done]), .call [] 53 #[.agg #[pb b11, sv ad2 p0.jobs cap3, sv ad4 p0.at_ cap5, iv p0.done]] (iv y189), .run [] (binOp .sub 3 (iv u188) (iv y189)) (iv x190), .run [] (Instr.indexAt 40 (sv ad183 l185 cap184) (iv u187)) (.pointer (some (slAddr ad183 u187 1)))]) 11 [(1, pb b9), (3, .slice (some ⟨b26, 0, none⟩) l27.length l27.length), (4, sv ad183 l185 cap184), (24, sv ad2 p0.jobs cap3), (25, iv (ln p0.jobs)), (26, iv x182), (40, iv x190), (41, .pointer (some (slAddr ad183 u187 1)))] (by kernel_rfl) hF (by kernel_rfl) (ocons (ob1 (by kernel_rfl) (fun _ hd => (hS.later hd).cell (i := 2) (j := 2) rfl rfl)) (ocons (obIdxQ (hA8 _ (hS.frz (i := 3) rfl hlow)) (by kernel_rfl) (fun _ => hu188)) (ocons (obElQ (i := x182) 0 fI_len (fun _ hd => (hA8 _ ((hS.later hd).frz (i := 3) rfl hlow))) (by kernel_rfl) (fun _ => hu188) rfl) (ocons (obN (us := [pb b11, sv ad2 p0.jobs cap3, sv ad4 p0.at_ cap5, iv p0.done]) (by kernel_rfl) (fun _ hd => ((hS.later hd).blk (i := 2) rfl).cells rfl)) (ocons (show Ob.ok _ Ext _ _ from fun hk w2 hd => plan_line_all_ok F (plan_line.mk (some d10) p0.jobs p0.at_ p0.done) _ ((fun _ => hy189) hk) _ w2 (memOf_at w2) (PtM.mk (cs := [sv ad16 d10.jobs cap17, sv ad18 d10.takes cap19, sv ad20 d10.moves cap21]) (hB14.mono (FrzAt.le_mem ((hS.later hd).frz (i := 3) rfl hlow))) ⟨ad16, cap17, ad18, cap19, ad20, cap21, css22, rfl, (hA23.mono (FrzAt.le_mem ((hS.later hd).frz (i := 3) rfl hlow))), (hA24.mono (FrzAt.le_mem ((hS.later hd).frz (i := 3) rfl hlow))), (hA25.mono Rp40.mono (FrzAt.le_mem ((hS.later hd).frz (i := 3) rfl hlow)))⟩) (hA7.mono (FrzAt.le_mem ((hS.later hd).frz (i := 3) rfl hlow))) (hA8.mono (FrzAt.le_mem ((hS.later hd).frz (i := 3) rfl hlow)))) (ocons (obSubC (fun _ => hx190)) (ocons (obIdxQ (hS.arr (i := 0) rfl) (by kernel_rfl) (fun _ => hu191)) onil))))))) ⟨by kernel_rfl⟩ fun a w hF hx => ?_
   replace hS := hS.later hx
   replace h := bindS h
   obtain ⟨l192, hl192, h⟩ := h
   refine SK.wi (setK (j := u187) (t := 3) [(1, pb b9), (3, .slice (some ⟨b26, 0, none⟩) l27.length l27.length), (4, sv ad183 l185 cap184), (24, sv ad2 p0.jobs cap3), (25, iv (ln p0.jobs)), (26, iv x182)] 0 0 u191 x190 (iv x190) hF hS rfl (by kernel_rfl) ⟨by kernel_rfl⟩ fI_len hu191 rfl (by kernel_rfl) (by kernel_rfl) (by kernel_rfl) hl192 ⟨by kernel_rfl⟩ fun w a hF hl hS => ?_)
   simp only [sv, ln, hl] at hF hS
   refine WI.fin rfl (norm_block <| norm_then <| ?_)
   refine WI.region ?_
   replace h := bindS h
   obtain ⟨x193, hx193, h⟩ := h
   refine rno 2 [.run [] (binOp .add 3 (iv x182) (iv 1)) (iv x193)] 2 [(1, pb b9), (3, .slice (some ⟨b26, 0, none⟩) l27.length l27.length), (4, sv ad183 l192 cap184), (24, sv ad2 p0.jobs cap3), (25, iv (ln p0.jobs)), (26, iv x193)] hF (ocons (obAddC (fun _ => hx193)) onil) fun a hF => ?_
   refine wfn rfl ?_
   rw [hk4] at h
   exact ⟨n_, Nat.lt_succ_self _, x193, l192, ad183, cap184, hF.sub (by kernel_rfl), St.pick [0, 1, 2, 3] (by decide) hS, h⟩
  ·replace h := bif_f h hc
   refine wpIn_exit (exit_then <| exit_then <| exit_hit <| norm_then ?_)
   exact ⟨l185, ad183, cap184, hF.sub (by kernel_rfl), St.pick [0, 1, 2, 3] (by decide) hS, h⟩
 rintro a w ⟨l62, ad60, cap61, hF, hS, h⟩
 rw [plan_line_gaps_K1] at h
 refine ecut (fun a w => ∃ (l113 : (List Int)) (ad111 : Option Addr) (cap112 : Nat), Fr 79 [] [(3, sv ad111 l113 cap112)] a ∧ St w0 [arr 3 1 fI ad111 l113.length cap112 l113, blk b9 102 #[pb b11, sv ad2 p0.jobs cap3, sv ad4 p0.at_ cap5, iv p0.done], fz w0 μ] w ∧ plan_line_gaps_K2 l113 = some res) ?_ ?_
 ·skip
  refine esr ?_
  refine rno 4 [.run [] (Instr.loadAt 40 (.pointer (some ⟨b9, 1, none⟩))) (sv ad2 p0.jobs cap3)] 4 [(1, pb b9), (3, .slice (some ⟨b26, 0, none⟩) l27.length l27.length), (4, sv ad60 l62 cap61), (44, sv ad2 p0.jobs cap3), (45, iv (ln p0.jobs)), (46, iv 0)] hF (ocons (ob1 (by kernel_rfl) (fun _ hd => (hS.at_ hd).cell (i := 2) (j := 1) rfl rfl)) onil) fun a hF => ?_
  refine wfn rfl ?_
  refine wpIn_block ?_
  refine eloop (fun n_ a w => ∃ (l146 : (List Int)) (l149 : (List Int)) (x150 : Int) (ad144 : Option Addr) (cap145 : Nat) (ad147 : Option Addr) (cap148 : Nat), Fr 79 [] [(1, pb b9), (3, sv ad144 l146 cap145), (4, sv ad147 l149 cap148), (44, sv ad2 p0.jobs cap3), (45, iv (ln p0.jobs)), (46, iv x150)] a ∧ St w0 [arr 3 1 fI ad147 l149.length cap148 l149, arr 3 1 fI ad144 l146.length cap145 l146, blk b9 102 #[pb b11, sv ad2 p0.jobs cap3, sv ad4 p0.at_ cap5, iv p0.done], fz w0 μ] w ∧ plan_line_gaps_L3 p0 n_ l146 l149 x150 = some res) F ⟨l27, l62, 0, (some ⟨b26, 0, none⟩), l27.length, ad60, cap61, hF.sub (by kernel_rfl), St.pick [0, 1, 2, 3] (by decide) hS, h⟩ ?_
  rintro n_ a w ⟨l146, l149, x150, ad144, cap145, ad147, cap148, hF, hS, h⟩
  rcases n_ with _ | n_
  ·cases (show (none : Option (List Int)) = some res from h)
  obtain ⟨k3, hk3⟩ : ∃ k, k = plan_line_gaps_L3 p0 n_ := ⟨_, rfl⟩
  replace h : plan_line_gaps_B3 p0 k3 l146 l149 x150 = some res := by rw [hk3]; exact h
  rw [plan_line_gaps_B3] at h
  refine esr ?_
  refine rn 1 1 [(1, pb b9), (3, sv ad144 l146 cap145), (4, sv ad147 l149 cap148), (44, sv ad2 p0.jobs cap3), (45, iv (ln p0.jobs)), (46, iv x150), (47, .bool (decide (x150 < (ln p0.jobs))))] hF fun a hF => ?_
  refine wfn rfl ?_
  refine eseq ?_
  refine econd hF rfl (fun hc => ?_) (fun hc => ?_)
  ·replace h := bif_t h hc
   refine wpIn_skip (norm_then ?_)
   refine eseq ?_
   refine wpIn_block ?_
   refine esr ?_
   replace h := bindS h
   obtain ⟨u152, hu152, h⟩ := h
   refine rno 5 [.run [] (Instr.indexAt 40 (sv ad2 p0.jobs cap3) (iv x150)) (.pointer (some (slAddr ad2 x150 1))), .run [] (Instr.loadAt 3 (.pointer (some (slAddr ad2 x150 1)))) (iv u152)] 5 [(1, pb b9), (3, sv ad144 l146 cap145), (4, sv ad147 l149 cap148), (7, iv x150), (8, iv u152), (44, sv ad2 p0.jobs cap3), (45, iv (ln p0.jobs)), (46, iv x150)] hF (ocons (obIdxQ (hA7 _ (hS.frz (i := 3) rfl hlow)) (by kernel_rfl) (fun _ => hu152)) (ocons (obElQ (i := x150) 0 fI_len (fun _ hd => (hA7 _ ((hS.at_ hd).frz (i := 3) rfl hlow))) (by kernel_rfl) (fun _ => hu152) rfl) onil)) fun a hF => ?_
   refine wfn rfl ?_
   refine eseq ?_
   replace h := bindS h
   obtain ⟨u153, hu153, h⟩ := h
   replace h := bindS h
   obtain ⟨u154, hu154, h⟩ := h
   replace h := bindS h
   obtain ⟨u155, hu155, h⟩ := h
   replace h := bindS h
   obtain ⟨x156, hx156, h⟩ := h
   replace h := bindS h
   obtain ⟨u157, hu157, h⟩ := h
   refine runD (obs := [.run [] (Instr.indexAt 40 (sv ad144 l146 cap145) (iv u152)) (.pointer (some (slAddr ad144 u152 1))), .run [] (Instr.loadAt 3 (.pointer (some (slAddr ad144 u152 1)))) (iv u153), .run [] (Instr.loadAt 40 (.pointer (some ⟨b9, 2, none⟩))) (sv ad4 p0.at_ cap5), .run [] (Instr.indexAt 40 (sv ad4 p0.at_ cap5) (iv x150)) (.pointer (some (slAddr ad4 x150 1))), .run [] (Instr.loadAt 3 (.pointer (some (slAddr ad4 x150 1)))) (iv u154), .run [] (Instr.indexAt 40 (sv ad147 l149 cap148) (iv u152)) (.pointer (some (slAddr ad147 u152 1))), .run [] (Instr.loadAt 3 (.pointer (some (slAddr ad147 u152 1)))) (iv u155), .run [] (binOp .sub 3 (iv u154) (iv u155)) (iv x156), .run [] (Instr.indexAt 40 (sv ad144 l146 cap145) (iv u152)) (.pointer (some (slAddr ad144 u152 1)))]) 18 [(1, pb b9), (3, sv ad144 l146 cap145), (4, sv ad147 l149 cap148), (7, iv x150), (8, iv u152), (44, sv ad2 p0.jobs cap3), (45, iv (ln p0.jobs)), (46, iv x150), (67, iv (if x156 > u153 then x156 else u153)), (68, .pointer (some (slAddr ad144 u152 1)))] (by kernel_rfl) hF (by kernel_rfl) (ocons (obIdxQ (hS.arr (i := 1) rfl) (by kernel_rfl) (fun _ => hu153)) (ocons (obElQ (i := u152) 0 fI_len (fun _ hd => ((hS.later hd).arr (i := 1) rfl)) (by kernel_rfl) (fun _ => hu153) rfl) (ocons (ob1 (by kernel_rfl) (fun _ hd => (hS.later hd).cell (i := 2) (j := 2) rfl rfl)) (ocons (obIdxQ (hA8 _ (hS.frz (i := 3) rfl hlow)) (by kernel_rfl) (fun _ => hu154)) (ocons (obElQ (i := x150) 0 fI_len (fun _ hd => (hA8 _ ((hS.later hd).frz (i := 3) rfl hlow))) (by kernel_rfl) (fun _ => hu154) rfl) (ocons (obIdxQ (hS.arr (i := 0) rfl) (by kernel_rfl) (fun _ => hu155)) (ocons (obElQ (i := u152) 0 fI_len (fun _ hd => ((hS.later hd).arr (i := 0) rfl)) (by kernel_rfl) (fun _ => hu155) rfl) (ocons (obSubC (fun _ => hx156)) (ocons (obIdxQ (hS.arr (i := 1) rfl) (by kernel_rfl) (fun _ => hu157)) onil))))))))) ⟨by kernel_rfl⟩ fun a w hF hx => ?_
   replace hS := hS.later hx
   replace h := bindS h
   obtain ⟨l158, hl158, h⟩ := h
   refine SK.wi (setK (j := u152) (t := 3) [(1, pb b9), (3, sv ad144 l146 cap145), (4, sv ad147 l149 cap148), (7, iv x150), (8, iv u152), (44, sv ad2 p0.jobs cap3), (45, iv (ln p0.jobs)), (46, iv x150)] 1 0 u157 (if x156 > u153 then x156 else u153) (iv (if x156 > u153 then x156 else u153)) hF hS rfl (by kernel_rfl) ⟨by kernel_rfl⟩ fI_len hu157 rfl (by kernel_rfl) (by kernel_rfl) (by kernel_rfl) hl158 ⟨by kernel_rfl⟩ fun w a hF hl hS => ?_)
   simp only [sv, ln, hl] at hF hS
   refine wfn rfl ?_
   refine WI.region ?_
   replace h := bindS h
   obtain ⟨u159, hu159, h⟩ := h
   replace h := bindS h
   obtain ⟨u160, hu160, h⟩ := h
   refine rno 8 [.run [] (Instr.loadAt 40 (.pointer (some ⟨b9, 2, none⟩))) (sv ad4 p0.at_ cap5), .run [] (Instr.indexAt 40 (sv ad4 p0.at_ cap5) (iv x150)) (.pointer (some (slAddr ad4 x150 1))), .run [] (Instr.loadAt 3 (.pointer (some (slAddr ad4 x150 1)))) (iv u159), .run [] (Instr.indexAt 40 (sv ad147 l149 cap148) (iv u152)) (.pointer (some (slAddr ad147 u152 1)))] 8 [(1, pb b9), (3, sv ad144 l158 cap145), (4, sv ad147 l149 cap148), (44, sv ad2 p0.jobs cap3), (45, iv (ln p0.jobs)), (46, iv x150), (75, iv u159), (76, .pointer (some (slAddr ad147 u152 1)))] hF (ocons (ob1 (by kernel_rfl) (fun _ hd => (hS.at_ hd).cell (i := 2) (j := 2) rfl rfl)) (ocons (obIdxQ (hA8 _ (hS.frz (i := 3) rfl hlow)) (by kernel_rfl) (fun _ => hu159)) (ocons (obElQ (i := x150) 0 fI_len (fun _ hd => (hA8 _ ((hS.at_ hd).frz (i := 3) rfl hlow))) (by kernel_rfl) (fun _ => hu159) rfl) (ocons (obIdxQ (hS.arr (i := 0) rfl) (by kernel_rfl) (fun _ => hu160)) onil)))) fun a hF => ?_
   replace h := bindS h
   obtain ⟨l161, hl161, h⟩ := h
   refine SK.wi (setK (j := u152) (t := 3) [(1, pb b9), (3, sv ad144 l158 cap145), (4, sv ad147 l149 cap148), (44, sv ad2 p0.jobs cap3), (45, iv (ln p0.jobs)), (46, iv x150)] 0 0 u160 u159 (iv u159) hF hS rfl (by kernel_rfl) ⟨by kernel_rfl⟩ fI_len hu160 rfl (by kernel_rfl) (by kernel_rfl) (by kernel_rfl) hl161 ⟨by kernel_rfl⟩ fun w a hF hl hS => ?_)
   simp only [sv, ln, hl] at hF hS
   refine WI.fin rfl (norm_block <| norm_then <| ?_)
   refine WI.region ?_
   replace h := bindS h
   obtain ⟨x162, hx162, h⟩ := h
   refine rno 2 [.run [] (binOp .add 3 (iv x150) (iv 1)) (iv x162)] 2 [(1, pb b9), (3, sv ad144 l158 cap145), (4, sv ad147 l161 cap148), (44, sv ad2 p0.jobs cap3), (45, iv (ln p0.jobs)), (46, iv x162)] hF (ocons (obAddC (fun _ => hx162)) onil) fun a hF => ?_
   refine wfn rfl ?_
   rw [hk3] at h
   exact ⟨n_, Nat.lt_succ_self _, l158, l161, x162, ad144, cap145, ad147, cap148, hF.sub (by kernel_rfl), St.pick [0, 1, 2, 3] (by decide) hS, h⟩
  ·replace h := bif_f h hc
   refine wpIn_exit (exit_then <| exit_then <| exit_hit <| norm_then ?_)
   exact ⟨l146, ad144, cap145, hF.sub (by kernel_rfl), St.pick [1, 2, 3] (by decide) hS, h⟩
 rintro a w ⟨l113, ad111, cap112, hF, hS, h⟩
 rw [plan_line_gaps_K2] at h
 refine esr ?_
 refine rn 2 2 [(2, sv ad111 l113 cap112)] hF fun a hF => ?_
 refine wfn rfl ?_
 refine wpIn_ret (fn_ret [.tmp 2] [sv ad111 l113 cap112] hF rfl ⟨rfl, trivial⟩ ?_)
 have hr_ := Option.some.inj h
 subst hr_
 exact ⟨_, _, rfl, St.pick [0] (by decide) hS⟩

theorem plan_line_bears_ok (F : Nat) (p0 : plan_line) (p1 : Int) (p2 : Int) (res : Bool) (h : plan_line_bears F p0 p1 p2 = some res) (μ : Frz) (w0 : World) (hm : FrzAt μ w0) {pv1 : Option Addr} {ad2 : Option Addr} {cap3 : Nat} {ad4 : Option Addr} {cap5 : Nat} (hA6 : PtM μ 113 Rp113 pv1 p0.desk) (hA7 : ArrM μ 1 fI ad2 cap3 p0.jobs) (hA8 : ArrM μ 1 fI ad4 cap5 p0.at_) : Calls Try.prog 70 #[.agg #[.pointer pv1, sv ad2 p0.jobs cap3, sv ad4 p0.at_ cap5, iv p0.done], iv p1, iv p2] w0 (fun e w => e = .returned (.bool res) ∧ Ext w0 w) := by
 obtain ⟨hlow, hS⟩ := hm.init
 have hext := Frz.ext_refl w0.heap.size μ
 rw [plan_line_bears] at h
 refine fn_enterW Try.func70 rfl 97 [(0, .agg #[.pointer pv1, sv ad2 p0.jobs cap3, sv ad4 p0.at_ cap5, iv p0.done]), (1, iv p1), (2, iv p2)] rfl rfl (by kernel_rfl) fun a w hw hF => ?_
 replace hS : St w0 [fz w0 μ] w := by rw [hw]; exact hS
 clear hw
 refine esr ?_
 refine SK.wi (boxK (t := 102) (fun b9 => [(1, iv p1), (2, iv p2), (3, pb b9)]) (.agg #[.pointer pv1, sv ad2 p0.jobs cap3, sv ad4 p0.at_ cap5, iv p0.done]) #[.pointer pv1, sv ad2 p0.jobs cap3, sv ad4 p0.at_ cap5, iv p0.done] hF hS (by kernel_rfl) ⟨by kernel_rfl⟩ (by kernel_rfl) (fun _ => ⟨by kernel_rfl⟩) fun b9 w a hF hS => ?_)
 refine rn 1 2 [(1, iv p1), (2, iv p2), (3, pb b9)] hF fun a hF => ?_
 refine wfn rfl ?_
 refine esr ?_
 refine rno 4 [.run [] (Instr.loadAt 40 (.pointer (some ⟨b9, 1, none⟩))) (sv ad2 p0.jobs cap3)] 4 [(1, iv p1), (2, iv p2), (3, pb b9), (7, iv (ln p0.jobs))] hF (ocons (ob1 (by kernel_rfl) (fun _ hd => (hS.at_ hd).cell (i := 0) (j := 1) rfl rfl)) onil) fun a hF => ?_
 refine wfn rfl ?_
 refine ecut (fun a w => Fr 97 [] [] a ∧ St w0 [blk b9 102 #[.pointer pv1, sv ad2 p0.jobs cap3, sv ad4 p0.at_ cap5, iv p0.done], fz w0 μ] w ∧ plan_line_bears_K1 = some res) ?_ ?_
 ·skip
  refine esr ?_
  replace h := bindS h
  obtain ⟨d510, hd510, h⟩ := h
  obtain ⟨b511, cs512, hp513, hB514, hR515⟩ := PtM.some hA6 hd510
  obtain ⟨ad516, cap517, ad518, cap519, ad520, cap521, css522, rfl, hA523, hA524, hA525⟩ := hR515
  try rw [hp513] at hF
  try rw [hp513] at hS
  try rw [hp513] at hB514
  refine rno 7 [.run [] (Instr.loadAt 100 (pb b9)) (pb b511), .run [] (Instr.loadAt 40 (.pointer (some ⟨b511, 1, none⟩))) (sv ad518 d510.takes cap519)] 7 [(1, iv p1), (2, iv p2), (3, pb b9), (7, iv (ln p0.jobs)), (21, iv (ln d510.takes)), (22, iv 0)] hF (ocons (ob1 (by kernel_rfl) (fun _ hd => (hS.at_ hd).cell (i := 0) (j := 0) rfl rfl)) (ocons (ob1 (by kernel_rfl) (fun _ hd => (hB514.blk ((hS.at_ hd).frz (i := 1) rfl hlow)).cell1 (j := 1) rfl)) onil)) fun a hF => ?_
  refine wfn rfl ?_
  refine wpIn_block ?_
  refine eloop (fun n_ a w => ∃ (x847 : Int), Fr 97 [] [(1, iv p1), (2, iv p2), (3, pb b9), (7, iv (ln p0.jobs)), (21, iv (ln d510.takes)), (22, iv x847)] a ∧ St w0 [blk b9 102 #[pb b511, sv ad2 p0.jobs cap3, sv ad4 p0.at_ cap5, iv p0.done], fz w0 μ] w ∧ plan_line_bears_L2 F p0 p1 p2 d510 n_ x847 = some res) F ⟨0, hF.sub (by kernel_rfl), St.pick [0, 1] (by decide) hS, h⟩ ?_
  rintro n_ a w ⟨x847, hF, hS, h⟩
  rcases n_ with _ | n_
  ·cases (show (none : Option Bool) = some res from h)
  obtain ⟨k2, hk2⟩ : ∃ k, k = plan_line_bears_L2 F p0 p1 p2 d510 n_ := ⟨_, rfl⟩
  replace h : plan_line_bears_B2 F p0 p1 p2 d510 k2 x847 = some res := by rw [hk2]; exact h
  rw [plan_line_bears_B2] at h
  refine esr ?_
  refine rn 1 1 [(1, iv p1), (2, iv p2), (3, pb b9), (7, iv (ln p0.jobs)), (21, iv (ln d510.takes)), (22, iv x847), (23, .bool (decide (x847 < (ln d510.takes))))] hF fun a hF => ?_
  refine wfn rfl ?_
  refine eseq ?_
  refine econd hF rfl (fun hc => ?_) (fun hc => ?_)
  ·replace h := bif_t h hc
   refine wpIn_skip (norm_then ?_)
   refine ecut (fun a w => Fr 97 [] [(1, iv p1), (2, iv p2), (3, pb b9), (7, iv (ln p0.jobs)), (21, iv (ln d510.takes)), (22, iv x847)] a ∧ St w0 [blk b9 102 #[pb b511, sv ad2 p0.jobs cap3, sv ad4 p0.at_ cap5, iv p0.done], fz w0 μ] w ∧ plan_line_bears_K3 x847 k2 = some res) ?_ ?_
   ·skip
    refine wpIn_block ?_
    refine esr ?_
    refine rn 2 2 [(1, iv p1), (2, iv p2), (3, pb b9), (7, iv (ln p0.jobs)), (8, iv x847), (21, iv (ln d510.takes)), (22, iv x847)] hF fun a hF => ?_
    refine wfn rfl ?_
    refine esr ?_
    replace h := bindS h
    obtain ⟨x930, hx930, h⟩ := h
    refine rno 5 [.run [] (binOp .add 3 (iv p1) (iv 1)) (iv x930)] 5 [(1, iv p1), (2, iv p2), (3, pb b9), (7, iv (ln p0.jobs)), (8, iv x847), (9, iv p1), (10, iv x930), (21, iv (ln d510.takes)), (22, iv x847)] hF (ocons (obAddC (fun _ => hx930)) onil) fun a hF => ?_
    refine wfn rfl ?_
    refine ecut (fun a w => ∃ (x946 : Int), Fr 97 [] [(1, iv p1), (2, iv p2), (3, pb b9), (7, iv (ln p0.jobs)), (8, iv x847), (9, iv x946), (10, iv x930), (21, iv (ln d510.takes)), (22, iv x847)] a ∧ St w0 [blk b9 102 #[pb b511, sv ad2 p0.jobs cap3, sv ad4 p0.at_ cap5, iv p0.done], fz w0 μ] w ∧ plan_line_bears_K4 F p0 p2 d510 x847 k2 x930 x946 = some res) ?_ ?_
    ·skip
     refine wpIn_block ?_
     refine eloop (fun n_ a w => ∃ (x1003 : Int), Fr 97 [] [(1, iv p1), (2, iv p2), (3, pb b9), (7, iv (ln p0.jobs)), (8, iv x847), (9, iv x1003), (10, iv x930), (21, iv (ln d510.takes)), (22, iv x847)] a ∧ St w0 [blk b9 102 #[pb b511, sv ad2 p0.jobs cap3, sv ad4 p0.at_ cap5, iv p0.done], fz w0 μ] w ∧ plan_line_bears_L9 F p0 p2 d510 x847 k2 x930 n_ x1003 = some res) F ⟨p1, hF.sub (by kernel_rfl), St.pick [0, 1] (by decide) hS, h⟩ ?_
     rintro n_ a w ⟨x1003, hF, hS, h⟩
     rcases n_ with _ | n_
     ·cases (show (none : Option Bool) = some res from h)
     obtain ⟨k9, hk9⟩ : ∃ k, k = plan_line_bears_L9 F p0 p2 d510 x847 k2 x930 n_ := ⟨_, rfl⟩
     replace h : plan_line_bears_B9 F p0 p2 d510 x847 k2 x930 k9 x1003 = some res := by rw [hk9]; exact h
     rw [plan_line_bears_B9] at h
     refine eseq ?_
     refine eseq ?_
     replace h := bindS h
     obtain ⟨x1005, hx1005, h⟩ := h
     replace h := bindS h
     obtain ⟨x1006, hx1006, h⟩ := h
     replace h := bindS h
     obtain ⟨u1007, hu1007, h⟩ := h
     refine runD (obs := [.run [] (Instr.loadAt 40 (.pointer (some ⟨b9, 1, none⟩))) (sv ad2 p0.jobs cap3), .run [] (binOp .add 3 (iv x1003) (iv (ln p0.jobs))) (iv x1005), .run [] (binOp .rem 3 (iv x1005) (iv (ln p0.jobs))) (iv x1006), .run [] (Instr.indexAt 40 (sv ad2 p0.jobs cap3) (iv x1006)) (.pointer (some (slAddr ad2 x1006 1))), .run [] (Instr.loadAt 3 (.pointer (some (slAddr ad2 x1006 1)))) (iv u1007)]) 11 [(1, iv p1), (2, iv p2), (3, pb b9), (7, iv (ln p0.jobs)), (8, iv x847), (9, iv x1003), (10, iv x930), (21, iv (ln d510.takes)), (22, iv x847), (38, .bool (u1007 != x847))] (by kernel_rfl) hF (by kernel_rfl) (ocons (ob1 (by kernel_rfl) (fun _ hd => (hS.later hd).cell (i := 0) (j := 1) rfl rfl)) (ocons (obAddC (fun _ => hx1005)) (ocons (obRemC (fun _ => hx1006)) (ocons (obIdxQ (hA7 _ (hS.frz (i := 1) rfl hlow)) (by kernel_rfl) (fun _ => hu1007)) (ocons (obElQ (i := x1006) 0 fI_len (fun _ hd => (hA7 _ ((hS.later hd).frz (i := 1) rfl hlow))) (by kernel_rfl) (fun _ => hu1007) rfl) onil))))) ⟨by kernel_rfl⟩ fun a w hF hx => ?_
     replace hS := hS.later hx
     refine wfn rfl ?_
     refine econd hF rfl (fun hc => ?_) (fun hc => ?_)
     ·replace h := bif_t h hc
      refine wpIn_skip (norm_then ?_)
      refine wpIn_block ?_
      refine WI.region ?_
      replace h := bindS h
      obtain ⟨x1008, hx1008, h⟩ := h
      refine rno 3 [.run [] (binOp .sub 3 (iv x1003) (iv 1)) (iv x1008)] 3 [(1, iv p1), (2, iv p2), (3, pb b9), (7, iv (ln p0.jobs)), (8, iv x847), (9, iv x1008), (10, iv x930), (21, iv (ln d510.takes)), (22, iv x847)] hF (ocons (obSubC (fun _ => hx1008)) onil) fun a hF => ?_
      refine WI.fin rfl (norm_block <| norm_then <| ?_)
      rw [hk9] at h
      exact ⟨n_, Nat.lt_succ_self _, x1008, hF.sub (by kernel_rfl), St.pick [0, 1] (by decide) hS, h⟩
     ·replace h := bif_f h hc
      refine wpIn_exit (exit_then <| exit_then <| exit_hit <| norm_then ?_)
      exact ⟨x1003, hF.sub (by kernel_rfl), St.pick [0, 1] (by decide) hS, h⟩
    rintro a w ⟨x946, hF, hS, h⟩
    rw [plan_line_bears_K4] at h
    refine ecut (fun a w => ∃ (x959 : Int), Fr 97 [] [(1, iv p1), (2, iv p2), (3, pb b9), (7, iv (ln p0.jobs)), (8, iv x847), (9, iv x946), (10, iv x959), (21, iv (ln d510.takes)), (22, iv x847)] a ∧ St w0 [blk b9 102 #[pb b511, sv ad2 p0.jobs cap3, sv ad4 p0.at_ cap5, iv p0.done], fz w0 μ] w ∧ plan_line_bears_K5 F p0 p2 d510 x847 k2 x946 x959 = some res) ?_ ?_
    ·skip
     refine wpIn_block ?_
     refine eloop (fun n_ a w => ∃ (x988 : Int), Fr 97 [] [(1, iv p1), (2, iv p2), (3, pb b9), (7, iv (ln p0.jobs)), (8, iv x847), (9, iv x946), (10, iv x988), (21, iv (ln d510.takes)), (22, iv x847)] a ∧ St w0 [blk b9 102 #[pb b511, sv ad2 p0.jobs cap3, sv ad4 p0.at_ cap5, iv p0.done], fz w0 μ] w ∧ plan_line_bears_L8 F p0 p2 d510 x847 k2 x946 n_ x988 = some res) F ⟨x930, hF.sub (by kernel_rfl), St.pick [0, 1] (by decide) hS, h⟩ ?_
     rintro n_ a w ⟨x988, hF, hS, h⟩
     rcases n_ with _ | n_
     ·cases (show (none : Option Bool) = some res from h)
     obtain ⟨k8, hk8⟩ : ∃ k, k = plan_line_bears_L8 F p0 p2 d510 x847 k2 x946 n_ := ⟨_, rfl⟩
     replace h : plan_line_bears_B8 F p0 p2 d510 x847 k2 x946 k8 x988 = some res := by rw [hk8]; exact h
     rw [plan_line_bears_B8] at h
     refine eseq ?_
     refine eseq ?_
     replace h := bindS h
     obtain ⟨x990, hx990, h⟩ := h
     replace h := bindS h
     obtain ⟨u991, hu991, h⟩ := h
     refine runD (obs := [.run [] (Instr.loadAt 40 (.pointer (some ⟨b9, 1, none⟩))) (sv ad2 p0.jobs cap3), .run [] (binOp .rem 3 (iv x988) (iv (ln p0.jobs))) (iv x990), .run [] (Instr.indexAt 40 (sv ad2 p0.jobs cap3) (iv x990)) (.pointer (some (slAddr ad2 x990 1))), .run [] (Instr.loadAt 3 (.pointer (some (slAddr ad2 x990 1)))) (iv u991)]) 9 [(1, iv p1), (2, iv p2), (3, pb b9), (7, iv (ln p0.jobs)), (8, iv x847), (9, iv x946), (10, iv x988), (21, iv (ln d510.takes)), (22, iv x847), (49, .bool (u991 != x847))] (by kernel_rfl) hF (by kernel_rfl) (ocons (ob1 (by kernel_rfl) (fun _ hd => (hS.later hd).cell (i := 0) (j := 1) rfl rfl)) (ocons (obRemC (fun _ => hx990)) (ocons (obIdxQ (hA7 _ (hS.frz (i := 1) rfl hlow)) (by kernel_rfl) (fun _ => hu991)) (ocons (obElQ (i := x990) 0 fI_len (fun _ hd => (hA7 _ ((hS.later hd).frz (i := 1) rfl hlow))) (by kernel_rfl) (fun _ => hu991) rfl) onil)))) ⟨by kernel_rfl⟩ fun a w hF hx => ?_
     replace hS := hS.later hx
     refine wfn rfl ?_
     refine econd hF rfl (fun hc => ?_) (fun hc => ?_)
     ·replace h := bif_t h hc
      refine wpIn_skip (norm_then ?_)
      refine wpIn_block ?_
      refine WI.region ?_
      replace h := bindS h
      obtain ⟨x992, hx992, h⟩ := h
      refine rno 3 [.run [] (binOp .add 3 (iv x988) (iv 1)) (iv x992)] 3 [(1, iv p1), (2, iv p2), (3, pb b9), (7, iv (ln p0.jobs)), (8, iv x847), (9, iv x946), (10, iv x992), (21, iv (ln d510.takes)), (22, iv x847)] hF (ocons (obAddC (fun _ => hx992)) onil) fun a hF => ?_
      refine WI.fin rfl (norm_block <| norm_then <| ?_)
      rw [hk8] at h
      exact ⟨n_, Nat.lt_succ_self _, x992, hF.sub (by kernel_rfl), St.pick [0, 1] (by decide) hS, h⟩
     ·replace h := bif_f h hc
      refine wpIn_exit (exit_then <| exit_then <| exit_hit <| norm_then ?_)
      exact ⟨x988, hF.sub (by kernel_rfl), St.pick [0, 1] (by decide) hS, h⟩
    rintro a w ⟨x959, hF, hS, h⟩
    rw [plan_line_bears_K5] at h
    refine eseq ?_
    replace h := bindS h
    obtain ⟨x960, hx960, h⟩ := h
    replace h := bindS h
    obtain ⟨x961, hx961, h⟩ := h
    replace h := bindS h
    obtain ⟨u962, hu962, h⟩ := h
    replace h := bindS h
    obtain ⟨x963, hx963, h⟩ := h
    replace h := bindS h
    obtain ⟨u964, hu964, h⟩ := h
    refine runD (obs := [.run [] (Instr.loadAt 40 (.pointer (some ⟨b9, 2, none⟩))) (sv ad4 p0.at_ cap5), .run [] (binOp .add 3 (iv x946) (iv (ln p0.jobs))) (iv x960), .run [] (binOp .rem 3 (iv x960) (iv (ln p0.jobs))) (iv x961), .run [] (Instr.indexAt 40 (sv ad4 p0.at_ cap5) (iv x961)) (.pointer (some (slAddr ad4 x961 1))), .run [] (Instr.loadAt 3 (.pointer (some (slAddr ad4 x961 1)))) (iv u962), .run [] (Instr.loadAt 40 (.pointer (some ⟨b9, 2, none⟩))) (sv ad4 p0.at_ cap5), .run [] (binOp .rem 3 (iv x959) (iv (ln p0.jobs))) (iv x963), .run [] (Instr.indexAt 40 (sv ad4 p0.at_ cap5) (iv x963)) (.pointer (some (slAddr ad4 x963 1))), .run [] (Instr.loadAt 3 (.pointer (some (slAddr ad4 x963 1)))) (iv u964)]) 18 [(1, iv p1), (2, iv p2), (3, pb b9), (7, iv (ln p0.jobs)), (8, iv x847), (9, iv x946), (10, iv x959), (11, iv u962), (12, iv u964), (21, iv (ln d510.takes)), (22, iv x847)] (by kernel_rfl) hF (by kernel_rfl) (ocons (ob1 (by kernel_rfl) (fun _ hd => (hS.later hd).cell (i := 0) (j := 2) rfl rfl)) (ocons (obAddC (fun _ => hx960)) (ocons (obRemC (fun _ => hx961)) (ocons (obIdxQ (hA8 _ (hS.frz (i := 1) rfl hlow)) (by kernel_rfl) (fun _ => hu962)) (ocons (obElQ (i := x961) 0 fI_len (fun _ hd => (hA8 _ ((hS.later hd).frz (i := 1) rfl hlow))) (by kernel_rfl) (fun _ => hu962) rfl) (ocons (ob1 (by kernel_rfl) (fun _ hd => (hS.later hd).cell (i := 0) (j := 2) rfl rfl)) (ocons (obRemC (fun _ => hx963)) (ocons (obIdxQ (hA8 _ (hS.frz (i := 1) rfl hlow)) (by kernel_rfl) (fun _ => hu964)) (ocons (obElQ (i := x963) 0 fI_len (fun _ hd => (hA8 _ ((hS.later hd).frz (i := 1) rfl hlow))) (by kernel_rfl) (fun _ => hu964) rfl) onil))))))))) ⟨by kernel_rfl⟩ fun a w hF hx => ?_
    replace hS := hS.later hx
    refine wfn rfl ?_
    refine ecut (fun a w => ∃ (x967 : Int), Fr 97 [] [(1, iv p1), (2, iv p2), (3, pb b9), (7, iv (ln p0.jobs)), (8, iv x847), (10, iv x959), (11, iv x967), (12, iv u964), (21, iv (ln d510.takes)), (22, iv x847)] a ∧ St w0 [blk b9 102 #[pb b511, sv ad2 p0.jobs cap3, sv ad4 p0.at_ cap5, iv p0.done], fz w0 μ] w ∧ plan_line_bears_K6 F p0 p2 d510 x847 k2 x959 u964 x967 = some res) ?_ ?_
    ·skip
     refine esr ?_
     refine rn 2 2 [(1, iv p1), (2, iv p2), (3, pb b9), (7, iv (ln p0.jobs)), (8, iv x847), (10, iv x959), (11, iv u962), (12, iv u964), (21, iv (ln d510.takes)), (22, iv x847), (69, .bool (decide (x946 < 0)))] hF fun a hF => ?_
     refine wfn rfl ?_
     refine econd hF rfl (fun hc => ?_) (fun hc => ?_)
     ·replace h := bif_t h hc
      refine WI.region ?_
      replace h := bindS h
      obtain ⟨y978, hy978, h⟩ := h
      replace h := bindS h
      obtain ⟨x979, hx979, h⟩ := h
      refine rx 5 [.run [] (Instr.loadAt 102 (pb b9)) (.agg #[pb b511, sv ad2 p0.jobs cap3, sv ad4 p0.at_ cap5, iv p0.done]), .call [] 53 #[.agg #[pb b511, sv ad2 p0.jobs cap3, sv ad4 p0.at_ cap5, iv p0.done]] (iv y978), .run [] (binOp .sub 3 (iv u962) (iv y978)) (iv x979)] 5 [(1, iv p1), (2, iv p2), (3, pb b9), (7, iv (ln p0.jobs)), (8, iv x847), (10, iv x959), (11, iv x979), (12, iv u964), (21, iv (ln d510.takes)), (22, iv x847)] hF (ocons (obN (us := [pb b511, sv ad2 p0.jobs cap3, sv ad4 p0.at_ cap5, iv p0.done]) (by kernel_rfl) (fun _ hd => ((hS.later hd).blk (i := 0) rfl).cells rfl)) (ocons (show Ob.ok _ Ext _ _ from fun hk w2 hd => plan_line_all_ok F (plan_line.mk (some d510) p0.jobs p0.at_ p0.done) _ ((fun _ => hy978) hk) _ w2 (memOf_at w2) (PtM.mk (cs := [sv ad516 d510.jobs cap517, sv ad518 d510.takes cap519, sv ad520 d510.moves cap521]) (hB514.mono (FrzAt.le_mem ((hS.later hd).frz (i := 1) rfl hlow))) ⟨ad516, cap517, ad518, cap519, ad520, cap521, css522, rfl, (hA523.mono (FrzAt.le_mem ((hS.later hd).frz (i := 1) rfl hlow))), (hA524.mono (FrzAt.le_mem ((hS.later hd).frz (i := 1) rfl hlow))), (hA525.mono Rp40.mono (FrzAt.le_mem ((hS.later hd).frz (i := 1) rfl hlow)))⟩) (hA7.mono (FrzAt.le_mem ((hS.later hd).frz (i := 1) rfl hlow))) (hA8.mono (FrzAt.le_mem ((hS.later hd).frz (i := 1) rfl hlow)))) (ocons (obSubC (fun _ => hx979)) onil))) fun a w hF hx => ?_
      replace hS := hS.later hx
      refine wfn rfl ?_
      exact ⟨x979, hF.sub (by kernel_rfl), St.pick [0, 1] (by decide) hS, h⟩
     ·replace h := bif_f h hc
      refine wpIn_skip (norm_then ?_)
      exact ⟨u962, hF.sub (by kernel_rfl), St.pick [0, 1] (by decide) hS, h⟩
    rintro a w ⟨x967, hF, hS, h⟩
    rw [plan_line_bears_K6] at h
    refine ecut (fun a w => ∃ (x970 : Int), Fr 97 [] [(1, iv p1), (2, iv p2), (3, pb b9), (7, iv (ln p0.jobs)), (8, iv x847), (11, iv x967), (12, iv x970), (21, iv (ln d510.takes)), (22, iv x847)] a ∧ St w0 [blk b9 102 #[pb b511, sv ad2 p0.jobs cap3, sv ad4 p0.at_ cap5, iv p0.done], fz w0 μ] w ∧ plan_line_bears_K7 p2 d510 x847 k2 x967 x970 = some res) ?_ ?_
    ·skip
     refine esr ?_
     refine rn 3 3 [(1, iv p1), (2, iv p2), (3, pb b9), (7, iv (ln p0.jobs)), (8, iv x847), (11, iv x967), (12, iv u964), (21, iv (ln d510.takes)), (22, iv x847), (76, .bool (decide (x959 ≥ (ln p0.jobs))))] hF fun a hF => ?_
     refine wfn rfl ?_
     refine econd hF rfl (fun hc => ?_) (fun hc => ?_)
     ·replace h := bif_t h hc
      refine WI.region ?_
      replace h := bindS h
      obtain ⟨y975, hy975, h⟩ := h
      replace h := bindS h
      obtain ⟨x976, hx976, h⟩ := h
      refine rx 5 [.run [] (Instr.loadAt 102 (pb b9)) (.agg #[pb b511, sv ad2 p0.jobs cap3, sv ad4 p0.at_ cap5, iv p0.done]), .call [] 53 #[.agg #[pb b511, sv ad2 p0.jobs cap3, sv ad4 p0.at_ cap5, iv p0.done]] (iv y975), .run [] (binOp .add 3 (iv u964) (iv y975)) (iv x976)] 5 [(1, iv p1), (2, iv p2), (3, pb b9), (7, iv (ln p0.jobs)), (8, iv x847), (11, iv x967), (12, iv x976), (21, iv (ln d510.takes)), (22, iv x847)] hF (ocons (obN (us := [pb b511, sv ad2 p0.jobs cap3, sv ad4 p0.at_ cap5, iv p0.done]) (by kernel_rfl) (fun _ hd => ((hS.later hd).blk (i := 0) rfl).cells rfl)) (ocons (show Ob.ok _ Ext _ _ from fun hk w2 hd => plan_line_all_ok F (plan_line.mk (some d510) p0.jobs p0.at_ p0.done) _ ((fun _ => hy975) hk) _ w2 (memOf_at w2) (PtM.mk (cs := [sv ad516 d510.jobs cap517, sv ad518 d510.takes cap519, sv ad520 d510.moves cap521]) (hB514.mono (FrzAt.le_mem ((hS.later hd).frz (i := 1) rfl hlow))) ⟨ad516, cap517, ad518, cap519, ad520, cap521, css522, rfl, (hA523.mono (FrzAt.le_mem ((hS.later hd).frz (i := 1) rfl hlow))), (hA524.mono (FrzAt.le_mem ((hS.later hd).frz (i := 1) rfl hlow))), (hA525.mono Rp40.mono (FrzAt.le_mem ((hS.later hd).frz (i := 1) rfl hlow)))⟩) (hA7.mono (FrzAt.le_mem ((hS.later hd).frz (i := 1) rfl hlow))) (hA8.mono (FrzAt.le_mem ((hS.later hd).frz (i := 1) rfl hlow)))) (ocons (obAddC (fun _ => hx976)) onil))) fun a w hF hx => ?_
      replace hS := hS.later hx
      refine wfn rfl ?_
      exact ⟨x976, hF.sub (by kernel_rfl), St.pick [0, 1] (by decide) hS, h⟩
     ·replace h := bif_f h hc
      refine wpIn_skip (norm_then ?_)
      exact ⟨u964, hF.sub (by kernel_rfl), St.pick [0, 1] (by decide) hS, h⟩
    rintro a w ⟨x970, hF, hS, h⟩
    rw [plan_line_bears_K7] at h
    refine esr ?_
    replace h := bindS h
    obtain ⟨x971, hx971, h⟩ := h
    replace h := bindS h
    obtain ⟨x972, hx972, h⟩ := h
    replace h := bindS h
    obtain ⟨u973, hu973, h⟩ := h
    refine rno 15 [.run [] (binOp .sub 3 (iv x970) (iv x967)) (iv x971), .run [] (binOp .add 3 (iv x971) (iv p2)) (iv x972), .run [] (Instr.loadAt 100 (pb b9)) (pb b511), .run [] (Instr.loadAt 43 (pb b511)) (sv ad516 d510.jobs cap517), .run [] (Instr.indexAt 43 (sv ad516 d510.jobs cap517) (iv x847)) (.pointer (some (slAddr ad516 x847 8))), .run [] (Instr.loadAt 3 (.pointer (some ((slAddr ad516 x847 8).add 7)))) (iv u973.Every)] 15 [(1, iv p1), (2, iv p2), (3, pb b9), (7, iv (ln p0.jobs)), (21, iv (ln d510.takes)), (22, iv x847), (95, .bool (decide (x972 > u973.Every)))] hF (ocons (obSubC (fun _ => hx971)) (ocons (obAddC (fun _ => hx972)) (ocons (ob1 (by kernel_rfl) (fun _ hd => (hS.at_ hd).cell (i := 0) (j := 0) rfl rfl)) (ocons (ob1 (by kernel_rfl) (fun _ hd => (hB514.blk ((hS.at_ hd).frz (i := 1) rfl hlow)).cell1 (j := 0) rfl)) (ocons (obIdxQ (hA523 _ (hS.frz (i := 1) rfl hlow)) (by kernel_rfl) (fun _ => hu973)) (ocons (obElQ (i := x847) 7 plan_Job.cells_len (fun _ hd => (hA523 _ ((hS.at_ hd).frz (i := 1) rfl hlow))) (by kernel_rfl) (fun _ => hu973) rfl) onil)))))) fun a hF => ?_
    refine wfn rfl ?_
    refine econd hF rfl (fun hc => ?_) (fun hc => ?_)
    ·replace h := bif_t h hc
     refine esr ?_
     refine rn 1 1 [(6, .bool false)] hF fun a hF => ?_
     refine wfn rfl ?_
     refine wpIn_ret (ret_block <| ret_then <| ret_then <| ret_block <| ret_then <| fn_ret [.tmp 6] [.bool false] hF rfl ⟨rfl, trivial⟩ ?_)
     have hr_ := Option.some.inj h
     subst hr_
     exact ⟨rfl, hS.ext⟩
    ·replace h := bif_f h hc
     refine wpIn_skip (norm_block <| norm_then <| ?_)
     exact ⟨hF.sub (by kernel_rfl), St.pick [0, 1] (by decide) hS, h⟩
   rintro a w ⟨hF, hS, h⟩
   rw [plan_line_bears_K3] at h
   refine WI.region ?_
   replace h := bindS h
   obtain ⟨x928, hx928, h⟩ := h
   refine rno 2 [.run [] (binOp .add 3 (iv x847) (iv 1)) (iv x928)] 2 [(1, iv p1), (2, iv p2), (3, pb b9), (7, iv (ln p0.jobs)), (21, iv (ln d510.takes)), (22, iv x928)] hF (ocons (obAddC (fun _ => hx928)) onil) fun a hF => ?_
   refine wfn rfl ?_
   rw [hk2] at h
   exact ⟨n_, Nat.lt_succ_self _, x928, hF.sub (by kernel_rfl), St.pick [0, 1] (by decide) hS, h⟩
  ·replace h := bif_f h hc
   refine wpIn_exit (exit_then <| exit_then <| exit_hit <| norm_then ?_)
   try simp only [pb, ← hp513] at hF
   try simp only [pb, ← hp513] at hS
   exact ⟨hF.sub (by kernel_rfl), St.pick [0, 1] (by decide) hS, h⟩
 rintro a w ⟨hF, hS, h⟩
 rw [plan_line_bears_K1] at h
 refine esr ?_
 refine rn 1 1 [(6, .bool true)] hF fun a hF => ?_
 refine wfn rfl ?_
 refine wpIn_ret (fn_ret [.tmp 6] [.bool true] hF rfl ⟨rfl, trivial⟩ ?_)
 have hr_ := Option.some.inj h
 subst hr_
 exact ⟨rfl, hS.ext⟩
end Go.Proofs.Ytejffembnkojjaa
