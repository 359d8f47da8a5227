/- Walks, written by program (wip/gen/dec.py). -/
import Derived.Test.YtejffembnkojjaaC10XD
import Derived.Test.YtejffembnkojjaaProg
import Derived.Test.YtejffembnkojjaaC10XW0
import Derived.Test.YtejffembnkojjaaC10XW2
import Derived.Test.YtejffembnkojjaaC10XW3
import Derived.Test.YtejffembnkojjaaC10XW8
namespace Go.Proofs.Ytejffembnkojjaa
open Go Go.RowKit Go.Eng
set_option maxRecDepth 10000
set_option maxHeartbeats 4000000
set_option linter.unusedVariables false
set_option linter.unusedSimpArgs false
theorem plan_Refute_ok (F : Nat) (p0 : plan_Radar) (p1 : (List plan_Job)) (p2 : Int) (res : ((List plan_Cut) × Int)) (h : plan_Refute F p0 p1 p2 = some res) (μ : Frz) (w0 : World) (hm : FrzAt μ w0) {ad1 : Option Addr} {cap2 : Nat} (hA3 : ArrM μ 8 plan_Job.cells ad1 cap2 p1) : Calls Try.prog 29 #[p0.ag, sv ad1 p1 cap2, iv p2] w0 (fun e w => ∃ (ν_ : Frz) (ad106 : Option Addr) (cap107 : Nat) (css108 : List (List Value)), μ.ext w0.heap.size ν_ ∧ e = .returned (.tuple #[sv ad106 res.1 cap107, iv res.2]) ∧ ArrQ ν_ 2 Rp65 ad106 cap107 css108 res.1 ∧ St w0 [fz w0 ν_] w) := by
 obtain ⟨hlow, hS⟩ := hm.init
 have hext := Frz.ext_refl w0.heap.size μ
 rw [plan_Refute] at h
 refine fn_enterMW Try.func29 rfl 45 [(0, p0.ag), (1, sv ad1 p1 cap2), (2, iv p2)] rfl rfl (by kernel_rfl) fun a w hw hF => ?_
 replace hS : St w0 [fz w0 μ] w := by rw [hw]; exact hS
 clear hw
 replace hS := hS.noMarks
 refine esr ?_
 refine SK.wi (boxK (t := 31) (fun b4 => [(1, sv ad1 p1 cap2), (2, iv p2), (3, pb b4)]) (p0.ag) p0.ar hF hS (by kernel_rfl) ⟨by kernel_rfl⟩ (by kernel_rfl) (fun _ => ⟨by kernel_rfl⟩) fun b4 w a hF hS => ?_)
 refine SK.wi (allocK (t := 60) (fun b5 => [(1, sv ad1 p1 cap2), (2, iv p2), (3, pb b4), (6, pb b5)]) #[.slice none 0 0] hF hS (by kernel_rfl) ⟨by kernel_rfl⟩ (by kernel_rfl) (fun _ => ⟨by kernel_rfl⟩) fun b5 w a hF hS => ?_)
 refine SK.wi (allocK (t := 28) (fun b6 => [(1, sv ad1 p1 cap2), (2, iv p2), (3, pb b4), (6, pb b5), (7, pb b6)]) #[iv 0] hF hS (by kernel_rfl) ⟨by kernel_rfl⟩ (by kernel_rfl) (fun _ => ⟨by kernel_rfl⟩) fun b6 w a hF hS => ?_)
 refine wfn rfl ?_
 refine eseq ?_
 refine esr ?_
 replace h := bindS h
 obtain ⟨y7, hy7, h⟩ := h
 refine rx 4 [.run [] (Instr.loadAt 31 (pb b4)) (p0.ag), .call [] 22 #[p0.ag, sv ad1 p1 cap2] (iv y7)] 4 [(1, sv ad1 p1 cap2), (2, iv p2), (3, pb b4), (6, pb b5), (7, pb b6), (8, iv y7)] hF (ocons (obN (us := p0.cells) (by kernel_rfl) (fun _ hd => ((hS.later hd).blk (i := 2) rfl).cells rfl)) (ocons (show Ob.ok _ Ext _ _ from fun hk w2 hd => plan_Check_ok F p0 p1 _ ((fun _ => hy7) hk) _ w2 (memOf_at w2) (hA3.mono (FrzAt.le_mem ((hS.later hd).frz (i := 4) rfl hlow)))) onil)) fun a w hF hx => ?_
 replace hS := hS.later hx
 refine wfn rfl ?_
 refine esr ?_
 refine rn 2 2 [(1, sv ad1 p1 cap2), (2, iv p2), (3, pb b4), (6, pb b5), (7, pb b6), (8, iv y7), (17, .bool (y7 != 0))] hF fun a hF => ?_
 refine wfn rfl ?_
 refine econd hF rfl (fun hc => ?_) (fun hc => ?_)
 ·replace h := bif_t h hc
  refine esr ?_
  refine rn 1 1 [(6, pb b5), (7, pb b6), (18, iv y7)] hF fun a hF => ?_
  refine SK.wi (storeK (t := 60) [(6, pb b5), (7, pb b6), (18, iv y7)] 1 0 (.slice none 0 0) #[.slice none 0 0] hF hS rfl (by kernel_rfl) ⟨by kernel_rfl⟩ (by kernel_rfl) (by kernel_rfl) (by kernel_rfl) (by kernel_rfl) ⟨by kernel_rfl⟩ fun w a hF hS => ?_)
  refine SK.wi (storeK (t := 28) [(6, pb b5), (7, pb b6)] 0 0 (iv y7) #[iv y7] hF hS rfl (by kernel_rfl) ⟨by kernel_rfl⟩ (by kernel_rfl) (by kernel_rfl) (by kernel_rfl) (by kernel_rfl) ⟨by kernel_rfl⟩ fun w a hF hS => ?_)
  refine wfn rfl ?_
  refine wpIn_ret (ret_then <| fn_retM (H := [blk b6 28 #[iv y7], blk b5 60 #[.slice none 0 0], blk b4 31 p0.ar, fz w0 μ]) [.cell 6 60, .cell 7 28] [.slice none 0 0, iv y7] hF (St.pick [3, 0, 1, 2, 4] (by decide) hS) rfl fun w hS => ⟨⟨⟨_, rfl, loadVar1 (by kernel_rfl) (hS.cell (i := 1) (j := 0) rfl rfl)⟩, ⟨_, rfl, loadVar1 (by kernel_rfl) (hS.cell (i := 0) (j := 0) rfl rfl)⟩, trivial⟩, ?_⟩)
  have hr_ := Option.some.inj h
  subst hr_
  exact ⟨μ, none, 0, [], hext, rfl, ArrQ.nil, St.pick [3] (by decide) hS⟩
 ·replace h := bif_f h hc
  refine wpIn_skip (norm_then ?_)
  refine eseq ?_
  refine esr ?_
  refine rx 3 [.call [] 50 #[iv p2, iv 1, iv 8] (.bool (plan_in p2 1 8))] 3 [(1, sv ad1 p1 cap2), (2, iv p2), (3, pb b4), (6, pb b5), (7, pb b6), (21, .bool (!(plan_in p2 1 8)))] hF (ocons (show Ob.ok _ Ext _ _ from fun hk w2 hd => plan_in_ok p2 1 8 _ rfl _ w2 (memOf_at w2) ) onil) fun a w hF hx => ?_
  replace hS := hS.later hx
  refine wfn rfl ?_
  refine econd hF rfl (fun hc => ?_) (fun hc => ?_)
  ·replace h := bif_t h hc
   refine esr ?_
   refine SK.wi (storeK (t := 60) [(6, pb b5), (7, pb b6)] 1 0 (.slice none 0 0) #[.slice none 0 0] hF hS rfl (by kernel_rfl) ⟨by kernel_rfl⟩ (by kernel_rfl) (by kernel_rfl) (by kernel_rfl) (by kernel_rfl) ⟨by kernel_rfl⟩ fun w a hF hS => ?_)
   refine SK.wi (storeK (t := 28) [(6, pb b5), (7, pb b6)] 0 0 (iv 3) #[iv 3] hF hS rfl (by kernel_rfl) ⟨by kernel_rfl⟩ (by kernel_rfl) (by kernel_rfl) (by kernel_rfl) (by kernel_rfl) ⟨by kernel_rfl⟩ fun w a hF hS => ?_)
   refine wfn rfl ?_
   refine wpIn_ret (ret_then <| fn_retM (H := [blk b6 28 #[iv 3], blk b5 60 #[.slice none 0 0], blk b4 31 p0.ar, fz w0 μ]) [.cell 6 60, .cell 7 28] [.slice none 0 0, iv 3] hF (St.pick [3, 0, 1, 2, 4] (by decide) hS) rfl fun w hS => ⟨⟨⟨_, rfl, loadVar1 (by kernel_rfl) (hS.cell (i := 1) (j := 0) rfl rfl)⟩, ⟨_, rfl, loadVar1 (by kernel_rfl) (hS.cell (i := 0) (j := 0) rfl rfl)⟩, trivial⟩, ?_⟩)
   have hr_ := Option.some.inj h
   subst hr_
   exact ⟨μ, none, 0, [], hext, rfl, ArrQ.nil, St.pick [3] (by decide) hS⟩
  ·replace h := bif_f h hc
   refine wpIn_skip (norm_then ?_)
   refine esr ?_
   refine SK.wi (allocK (t := 60) (fun b8 => [(1, sv ad1 p1 cap2), (2, iv p2), (3, pb b4), (6, pb b5), (7, pb b6), (9, pb b8)]) #[.slice none 0 0] hF hS (by kernel_rfl) ⟨by kernel_rfl⟩ (by kernel_rfl) (fun _ => ⟨by kernel_rfl⟩) fun b8 w a hF hS => ?_)
   refine wfn rfl ?_
   refine esr ?_
   refine SK.wi (allocK (t := 3) (fun b9 => [(1, sv ad1 p1 cap2), (2, iv p2), (3, pb b4), (6, pb b5), (7, pb b6), (9, pb b8), (10, pb b9)]) #[iv 0] hF hS (by kernel_rfl) ⟨by kernel_rfl⟩ (by kernel_rfl) (fun _ => ⟨by kernel_rfl⟩) fun b9 w a hF hS => ?_)
   refine SK.wi (storeK (t := 3) [(1, sv ad1 p1 cap2), (2, iv p2), (3, pb b4), (6, pb b5), (7, pb b6), (9, pb b8), (10, pb b9)] 0 0 (iv 0) #[iv 0] hF hS rfl (by kernel_rfl) ⟨by kernel_rfl⟩ (by kernel_rfl) (by kernel_rfl) (by kernel_rfl) (by kernel_rfl) ⟨by kernel_rfl⟩ fun w a hF hS => ?_)
   refine wfn rfl ?_
   refine eseq ?_
   refine esr ?_
   refine rno 2 [.run [] (Instr.loadAt 31 (pb b4)) (p0.ag)] 2 [(2, iv p2), (6, pb b5), (7, pb b6), (9, pb b8), (10, pb b9), (22, p0.ag), (23, sv ad1 p1 cap2)] hF (ocons (obN (us := p0.cells) (by kernel_rfl) (fun _ hd => ((hS.at_ hd).blk (i := 4) rfl).cells rfl)) onil) fun a hF => ?_
   replace h := bindS h
   obtain ⟨y11, hy11, h⟩ := h
   refine SK.wi (callK (f := 56) (args := #[p0.ag, sv ad1 p1 cap2]) (R := fun v w2 => ∃ ν12 pv13, μ.ext w.heap.size ν12 ∧ v = .pointer pv13 ∧ PtM ν12 113 Rp113 pv13 y11 ∧ St w [frzR w.heap.size ν12] w2) (fun v10 => [(2, iv p2), (6, pb b5), (7, pb b6), (9, pb b8), (10, pb b9), (24, v10)]) hF (by kernel_rfl) ⟨by kernel_rfl⟩ (Calls.mono (plan_newDesk_ok F p0 p1 _ hy11 μ w (hS.frz (i := 6) rfl hlow) hA3) (by rintro e w2 ⟨ν12, pv13, hx15, rfl, hA14, h⟩; exact ⟨_, rfl, ν12, pv13, hx15, rfl, hA14, h⟩)) (fun _ => ⟨by kernel_rfl⟩) ?_)
   rintro v10 w a ⟨ν12, pv13, hx15, rfl, hA14, hQ⟩ hF
   replace hext := Frz.ext_trans hext (Frz.ext_mono hx15 hS.ext.size)
   obtain ⟨hlow, hS⟩ := hS.frzMerge (i := 6) rfl hlow hx15 hQ
   replace hA3 := hA3.mono hx15.1
   replace hS : St w0 [blk b9 3 #[iv 0], blk b8 60 #[.slice none 0 0], blk b6 28 #[iv 0], blk b5 60 #[.slice none 0 0], blk b4 31 p0.ar, markR ([]), fz w0 ν12] w := hS
   refine rn 1 4 [(6, pb b5), (7, pb b6), (9, pb b8), (10, pb b9), (24, .pointer pv13), (25, iv p2)] hF fun a hF => ?_
   refine SK.wi (callK (f := 61) (args := #[.pointer pv13, iv p2]) (R := fun v w2 => ∃ b17 b18, v = .func (.func 87) #[] #[pb b17, pb b18] ∧ St w [blk b17 100 #[.pointer pv13], blk b18 3 #[iv p2]] w2) (fun v16 => [(6, pb b5), (7, pb b6), (9, pb b8), (10, pb b9), (26, v16)]) hF (by kernel_rfl) ⟨by kernel_rfl⟩ (Calls.mono (pplan_desk_cuts_ok y11 p2 _ rfl (memOf w) w (memOf_at w) (hA14.mono Rp113.mono (FrzAt.le_mem (hS.frz (i := 6) rfl hlow)))) (by rintro e w2 ⟨b17, b18, rfl, h⟩; exact ⟨_, rfl, b17, b18, rfl, h⟩)) (fun _ => ⟨by kernel_rfl⟩) ?_)
   rintro v16 w a ⟨b17, b18, rfl, hQ⟩ hF
   replace hS : St w0 [blk b17 100 #[.pointer pv13], blk b18 3 #[iv p2], blk b9 3 #[iv 0], blk b8 60 #[.slice none 0 0], blk b6 28 #[iv 0], blk b5 60 #[.slice none 0 0], blk b4 31 p0.ar, markR ([]), fz w0 ν12] w := hS.madeL hQ
   refine wfn rfl ?_
   refine wpIn_block ?_
   obtain ⟨ν19, hx20, hlow, hS, hz21⟩ := hS.freeze (i := 8) (j := 0) rfl rfl (by decide) hlow
   replace hA3 := hA3.mono hx20.1
   replace hA14 := hA14.mono Rp113.mono hx20.1
   replace hext := Frz.ext_trans hext hx20
   replace hS : St w0 [blk b18 3 #[iv p2], blk b9 3 #[iv 0], blk b8 60 #[.slice none 0 0], blk b6 28 #[iv 0], blk b5 60 #[.slice none 0 0], blk b4 31 p0.ar, markR ([]), fz w0 ν19] w := hS
   have hB22 : BlkM ν19 b17 100 #[.pointer pv13] := hz21
   obtain ⟨ν23, hx24, hlow, hS, hz25⟩ := hS.freeze (i := 7) (j := 0) rfl rfl (by decide) hlow
   replace hA3 := hA3.mono hx24.1
   replace hA14 := hA14.mono Rp113.mono hx24.1
   replace hB22 := hB22.mono hx24.1
   replace hext := Frz.ext_trans hext hx24
   replace hS : St w0 [blk b9 3 #[iv 0], blk b8 60 #[.slice none 0 0], blk b6 28 #[iv 0], blk b5 60 #[.slice none 0 0], blk b4 31 p0.ar, markR ([]), fz w0 ν23] w := hS
   have hB26 : BlkM ν23 b18 3 #[iv p2] := hz25
   replace hS := hS.nilarr 65 2 (fN 2)
   replace h := bindS h
   obtain ⟨r98, hr98, h⟩ := h
   refine rangeG (gf := 87) (lb := #[pb b17, pb b18]) (fun l => #[.func (.yield l) #[] #[], pb b17, pb b18]) (fun H1 => ∃ (ν_n : Frz) (g_n : (Option Addr × Nat × List (List Value) × Unit)), H1 = [arr 65 2 (fN 2) g_n.1 r98.1.2.1.length g_n.2.1 g_n.2.2.1, blk b9 3 #[iv r98.1.2.2.1], blk b8 60 #[.slice g_n.1 r98.1.2.1.length g_n.2.1], blk b6 28 #[iv r98.1.1], blk b5 60 #[.slice none 0 0], blk b4 31 p0.ar, markR ([]), fz w0 ν_n] ∧ ν23.ext w0.heap.size ν_n ∧ FrzIn w0 ν_n ∧ r98.2 = true ∧ (All2 (Rp65 ν_n) g_n.2.2.1 r98.1.2.1)) (fun c H1 => ∃ (ν_n : Frz) (g_n : (Option Addr × Nat × List (List Value) × Unit)), H1 = [arr 65 2 (fN 2) g_n.1 r98.1.2.1.length g_n.2.1 g_n.2.2.1, blk b9 3 #[iv r98.1.2.2.1], blk b8 60 #[.slice g_n.1 r98.1.2.1.length g_n.2.1], blk b6 28 #[iv r98.1.1], blk b5 60 #[.slice none 0 0], blk b4 31 p0.ar, markR ([]), fz w0 ν_n] ∧ ν23.ext w0.heap.size ν_n ∧ FrzIn w0 ν_n ∧ r98.2 = false ∧ c = plan_Refute_c1 (r98.1.2.2.2) ∧ (All2 (Rp65 ν_n) g_n.2.2.1 r98.1.2.1)) (M := [(6, pb b5), (7, pb b6), (9, pb b8), (10, pb b9), (26, .func (.func 87) #[] #[pb b17, pb b18])]) (hF.sub (by kernel_rfl)) rfl hS (fun _ => rfl) (fun _ => by kernel_rfl) ?_ ?_ ?_
   ·replace hF : Fr 45 (marks ([])) [(6, pb b5), (7, pb b6), (9, pb b8), (10, pb b9), (26, .func (.func 87) #[] #[pb b17, pb b18])] a := hF.sub (by kernel_rfl)
    intro fn_ l1_ D1_ rec1 w hrec1 hS
    replace hS : St w0 [objR l1_ (rec1 .ready none), objR D1_ (.deferred (some [])), arr 65 2 (fN 2) none ([] : List plan_Cut).length 0 ([] : List (List Value)), blk b9 3 #[iv 0], blk b8 60 #[.slice none 0 0], blk b6 28 #[iv 0], blk b5 60 #[.slice none 0 0], blk b4 31 p0.ar, markR ([]), fz w0 ν23] w := hS
    refine Calls.mono (pplan_desk_cuts_1_ok F y11 p2 (plan_Refute_Y1) (0, ([] : List plan_Cut), 0, 0) _ hr98 l1_ ν23 w0 w (fun (s_r : (Int × (List plan_Cut) × Int × Nat)) (b_r : Bool) (g_r : (Option Addr × Nat × List (List Value) × Unit)) => [objR l1_ (rec1 (bif b_r then .ready else .done) (bif b_r then none else some (plan_Refute_c1 (s_r.2.2.2)))), objR D1_ (.deferred (some [])), arr 65 2 (fN 2) g_r.1 s_r.2.1.length g_r.2.1 g_r.2.2.1, blk b9 3 #[iv s_r.2.2.1], blk b8 60 #[.slice g_r.1 s_r.2.1.length g_r.2.1], blk b6 28 #[iv s_r.1], blk b5 60 #[.slice none 0 0], blk b4 31 p0.ar, markR ([])]) (fun (s_r : (Int × (List plan_Cut) × Int × Nat)) (b_r : Bool) (g_r : (Option Addr × Nat × List (List Value) × Unit)) (ν_r : Frz) => (All2 (Rp65 ν_r) g_r.2.2.1 s_r.2.1) ∧ True) (fun _ _ _ _ _ h hle => ⟨All2.mono Rp65.mono hle h.1, trivial⟩) ?_ (none, 0, [], ()) [] hlow ⟨All2.nil, trivial⟩ (St.pickT (A := [objR l1_ (rec1 .ready none), objR D1_ (.deferred (some [])), arr 65 2 (fN 2) none ([] : List plan_Cut).length 0 ([] : List (List Value)), blk b9 3 #[iv 0], blk b8 60 #[.slice none 0 0], blk b6 28 #[iv 0], blk b5 60 #[.slice none 0 0], blk b4 31 p0.ar, markR ([]), fz w0 ν23]) (T := []) [9, 0, 1, 2, 3, 4, 5, 6, 7, 8] (by decide) (by simpa using hS)) hB22 hA14 hB26) ?_
    ·rintro s_r x_ q_r h ν_r g_r G_r w pv81 ad82 cap83 ad84 cap85 hxv hlow hP hA86 hA87 hA88 hS
     obtain ⟨hq78, -⟩ := hP
     replace hA3 := hA3.mono hxv.1
     replace hA14 := hA14.mono Rp113.mono hxv.1
     replace hB22 := hB22.mono hxv.1
     replace hB26 := hB26.mono hxv.1
     have hxr := Frz.ext_refl w0.heap.size ν_r
     replace hext := Frz.ext_trans hext hxv
     replace hS : St w0 (objR l1_ (rec1 .ready none) :: objR D1_ (.deferred (some [])) :: arr 65 2 (fN 2) g_r.1 s_r.2.1.length g_r.2.1 g_r.2.2.1 :: blk b9 3 #[iv s_r.2.2.1] :: blk b8 60 #[.slice g_r.1 s_r.2.1.length g_r.2.1] :: blk b6 28 #[iv s_r.1] :: blk b5 60 #[.slice none 0 0] :: blk b4 31 p0.ar :: markR ([]) :: fz w0 ν_r :: G_r) w := St.pickT (A := [fz w0 ν_r, objR l1_ (rec1 .ready none), objR D1_ (.deferred (some [])), arr 65 2 (fN 2) g_r.1 s_r.2.1.length g_r.2.1 g_r.2.2.1, blk b9 3 #[iv s_r.2.2.1], blk b8 60 #[.slice g_r.1 s_r.2.1.length g_r.2.1], blk b6 28 #[iv s_r.1], blk b5 60 #[.slice none 0 0], blk b4 31 p0.ar, markR ([])]) (T := G_r) [1, 2, 3, 4, 5, 6, 7, 8, 9, 0] (by decide) hS
     rw [plan_Refute_Y1] at h
     refine round_ (rec := rec1) hrec1 [(27, .agg #[.pointer pv81, sv ad82 x_.1.jobs cap83, sv ad84 x_.1.at_ cap85, iv x_.1.done]), (28, iv x_.2)] [(6, pb b5), (7, pb b6), (9, pb b8), (10, pb b9), (27, .agg #[.pointer pv81, sv ad82 x_.1.jobs cap83, sv ad84 x_.1.at_ cap85, iv x_.1.done]), (28, iv x_.2)] hF (by simp) rfl rfl (by kernel_rfl) hS ?_
     intro a hF
     refine esr ?_
     refine SK.wi (allocK (t := 102) (fun b89 => [(6, pb b5), (7, pb b6), (9, pb b8), (10, pb b9), (11, pb b89), (27, .agg #[.pointer pv81, sv ad82 x_.1.jobs cap83, sv ad84 x_.1.at_ cap85, iv x_.1.done]), (28, iv x_.2)]) #[.pointer none, .slice none 0 0, .slice none 0 0, iv 0] hF hS (by kernel_rfl) ⟨by kernel_rfl⟩ (by kernel_rfl) (fun _ => ⟨by kernel_rfl⟩) fun b89 w a hF hS => ?_)
     refine SK.wi (storeK (t := 102) [(6, pb b5), (7, pb b6), (9, pb b8), (10, pb b9), (11, pb b89), (28, iv x_.2)] 0 0 (.agg #[.pointer pv81, sv ad82 x_.1.jobs cap83, sv ad84 x_.1.at_ cap85, iv x_.1.done]) #[.pointer pv81, sv ad82 x_.1.jobs cap83, sv ad84 x_.1.at_ cap85, iv x_.1.done] hF hS rfl (by kernel_rfl) ⟨by kernel_rfl⟩ (by kernel_rfl) (by kernel_rfl) (by kernel_rfl) (by kernel_rfl) ⟨by kernel_rfl⟩ fun w a hF hS => ?_)
     refine wfn rfl ?_
     refine WI.region ?_
     refine rn 1 1 [(6, pb b5), (7, pb b6), (9, pb b8), (10, pb b9), (11, pb b89), (12, iv x_.2)] hF fun a hF => ?_
     refine wfn rfl ?_
     refine ⟨_, St.pickT (A := [blk b89 102 #[.pointer pv81, sv ad82 x_.1.jobs cap83, sv ad84 x_.1.at_ cap85, iv x_.1.done], objR l1_ (rec1 .ready none), objR D1_ (.deferred (some [])), arr 65 2 (fN 2) g_r.1 s_r.2.1.length g_r.2.1 g_r.2.2.1, blk b9 3 #[iv s_r.2.2.1], blk b8 60 #[.slice g_r.1 s_r.2.1.length g_r.2.1], blk b6 28 #[iv s_r.1], blk b5 60 #[.slice none 0 0], blk b4 31 p0.ar, markR ([]), fz w0 ν_r]) (T := G_r) [1, 0, 2, 3, 4, 5, 6, 7, 8, 9, 10] (by decide) hS, fun w hS => ?_⟩
     refine wpIn_block ?_
     refine eseq ?_
     refine esr ?_
     refine rn 2 2 [(6, pb b5), (7, pb b6), (9, pb b8), (10, pb b9), (11, pb b89), (12, iv x_.2), (30, .bool (decide (x_.2 < 0)))] hF fun a hF => ?_
     refine wfn rfl ?_
     refine econd hF rfl (fun hc => ?_) (fun hc => ?_)
     ·replace h := bif_t h hc
      refine esr ?_
      refine SK.wi (storeK (t := 60) [(6, pb b5), (7, pb b6)] 7 0 (.slice none 0 0) #[.slice none 0 0] hF hS rfl (by kernel_rfl) ⟨by kernel_rfl⟩ (by kernel_rfl) (by kernel_rfl) (by kernel_rfl) (by kernel_rfl) ⟨by kernel_rfl⟩ fun w a hF hS => ?_)
      refine SK.wi (storeK (t := 28) [(6, pb b5), (7, pb b6)] 6 0 (iv 4) #[iv 4] hF hS rfl (by kernel_rfl) ⟨by kernel_rfl⟩ (by kernel_rfl) (by kernel_rfl) (by kernel_rfl) (by kernel_rfl) ⟨by kernel_rfl⟩ fun w a hF hS => ?_)
      refine wfn rfl ?_
      refine wpIn_ret (ret_then <| ret_block <| ?_)
      have hr_ := Option.some.inj h
      subst hr_
      refine ⟨_, St.pickT (A := [objR l1_ (rec1 .busy none), blk b89 102 #[.pointer pv81, sv ad82 x_.1.jobs cap83, sv ad84 x_.1.at_ cap85, iv x_.1.done], objR D1_ (.deferred (some [])), arr 65 2 (fN 2) g_r.1 s_r.2.1.length g_r.2.1 g_r.2.2.1, blk b9 3 #[iv s_r.2.2.1], blk b8 60 #[.slice g_r.1 s_r.2.1.length g_r.2.1], blk b6 28 #[iv 4], blk b5 60 #[.slice none 0 0], blk b4 31 p0.ar, markR ([]), fz w0 ν_r]) (T := G_r) [0, 1, 2, 3, 4, 5, 6, 7, 8, 9, 10] (by decide) hS, fun w hS => ⟨rfl, ν_r, (g_r.1, g_r.2.1, g_r.2.2.1, ()), hxr, hlow, ⟨hq78, trivial⟩, St.pickT (A := [objR l1_ (rec1 .done (some (Code.ret))), blk b89 102 #[.pointer pv81, sv ad82 x_.1.jobs cap83, sv ad84 x_.1.at_ cap85, iv x_.1.done], objR D1_ (.deferred (some [])), arr 65 2 (fN 2) g_r.1 s_r.2.1.length g_r.2.1 g_r.2.2.1, blk b9 3 #[iv s_r.2.2.1], blk b8 60 #[.slice g_r.1 s_r.2.1.length g_r.2.1], blk b6 28 #[iv 4], blk b5 60 #[.slice none 0 0], blk b4 31 p0.ar, markR ([]), fz w0 ν_r]) (T := G_r) [10, 0, 2, 3, 4, 5, 6, 7, 8, 9] (by decide) hS⟩⟩
     ·replace h := bif_f h hc
      refine wpIn_skip (norm_then ?_)
      refine esr ?_
      replace h := bindS h
      obtain ⟨x90, hx90, h⟩ := h
      refine rno 2 [.run [] (Instr.loadAt 3 (pb b9)) (iv s_r.2.2.1), .run [] (binOp .add 3 (iv s_r.2.2.1) (iv 1)) (iv x90)] 2 [(9, pb b8), (10, pb b9), (11, pb b89), (12, iv x_.2), (32, iv x90)] hF (ocons (ob1 (by kernel_rfl) (fun _ hd => (hS.at_ hd).cell (i := 4) (j := 0) rfl rfl)) (ocons (obAddC (fun _ => hx90)) onil)) fun a hF => ?_
      refine SK.wi (storeK (t := 3) [(9, pb b8), (10, pb b9), (11, pb b89), (12, iv x_.2)] 4 0 (iv x90) #[iv x90] hF hS rfl (by kernel_rfl) ⟨by kernel_rfl⟩ (by kernel_rfl) (by kernel_rfl) (by kernel_rfl) (by kernel_rfl) ⟨by kernel_rfl⟩ fun w a hF hS => ?_)
      refine wfn rfl ?_
      refine esr ?_
      refine rno 2 [.run [] (Instr.loadAt 3 (pb b9)) (iv x90)] 2 [(9, pb b8), (11, pb b89), (12, iv x_.2), (34, .bool (decide (x90 ≤ 5000)))] hF (ocons (ob1 (by kernel_rfl) (fun _ hd => (hS.at_ hd).cell (i := 4) (j := 0) rfl rfl)) onil) fun a hF => ?_
      refine wfn rfl ?_
      refine econd hF rfl (fun hc => ?_) (fun hc => ?_)
      ·replace h := bif_t h hc
       refine WI.region ?_
       refine rno 5 [.run [] (Instr.loadAt 60 (pb b8)) (.slice g_r.1 s_r.2.1.length g_r.2.1), .run [] (Instr.loadAt 40 (.pointer (some ⟨b89, 1, none⟩))) (sv ad82 x_.1.jobs cap83)] 5 [(9, pb b8), (35, .slice g_r.1 s_r.2.1.length g_r.2.1), (39, .agg #[sv ad82 x_.1.jobs cap83, iv x_.2])] hF (ocons (ob1 (by kernel_rfl) (fun _ hd => (hS.at_ hd).cell (i := 5) (j := 0) rfl rfl)) (ocons (ob1 (by kernel_rfl) (fun _ hd => (hS.at_ hd).cell (i := 1) (j := 1) rfl rfl)) onil)) fun a hF => ?_
       have hq92 : All2 (Rp65 ν_r) ([[sv ad82 x_.1.jobs cap83, iv x_.2]] : List (List Value)) [(plan_Cut.mk x_.1.jobs x_.2)] := (All2.cons ⟨ad82, cap83, rfl, hA87⟩ All2.nil)
       refine SK.wi (litQK (e := 65) (sz := 2) (f := fN 2) (t := 60) (len := 1) (fun b91 => [(9, pb b8), (35, .slice g_r.1 s_r.2.1.length g_r.2.1), (40, sb b91 1)]) #[(0, .agg #[sv ad82 x_.1.jobs cap83, iv x_.2])] #[sv ad82 x_.1.jobs cap83, iv x_.2] ([[sv ad82 x_.1.jobs cap83, iv x_.2]] : List (List Value)) ([(plan_Cut.mk x_.1.jobs x_.2)]) hF hS (by kernel_rfl) ⟨by kernel_rfl⟩ (by kernel_rfl) (fN_len 2) rfl rfl rfl (by kernel_rfl) (fun _ => ⟨by kernel_rfl⟩) fun b91 w a hF hS => ?_)
       replace h := bindS h
       obtain ⟨l93, hl93, h⟩ := h
       have hq97 : All2 (Rp65 ν_r) (g_r.2.2.1 ++ ([[sv ad82 x_.1.jobs cap83, iv x_.2]] : List (List Value))) l93 := by rw [(apd_some hl93).1]; exact All2.app hq78 hq92
       refine SK.wi (appQK (t := 60) (ty := 60) (bytes := 32) (c := g_r.2.2.1) (c' := ([[sv ad82 x_.1.jobs cap83, iv x_.2]] : List (List Value))) (l := s_r.2.1) (l' := ([(plan_Cut.mk x_.1.jobs x_.2)])) (fun ad94 cap95 => [(9, pb b8), (41, sv ad94 l93 cap95)]) 4 hF hS rfl (by kernel_rfl) ⟨by kernel_rfl⟩ (by kernel_rfl) (hS.arr (i := 0) rfl) (ArrQ.one hq92 Rp65.one) hl93 (fun _ _ => ⟨by kernel_rfl⟩) fun ad94 cap95 w a hF hS => ?_)
       refine SK.wi (storeK (t := 60) [] 6 0 (sv ad94 l93 cap95) #[sv ad94 l93 cap95] hF hS rfl (by kernel_rfl) ⟨by kernel_rfl⟩ (by kernel_rfl) (by kernel_rfl) (by kernel_rfl) (by kernel_rfl) ⟨by kernel_rfl⟩ fun w a hF hS => ?_)
       refine WI.fin rfl (norm_block ?_)
       have hr_ := Option.some.inj h
       subst hr_
       refine ⟨_, St.pickT (A := [arr 65 2 (fN 2) (some ⟨b91, 0, none⟩) ([(plan_Cut.mk x_.1.jobs x_.2)]).length 1 ([[sv ad82 x_.1.jobs cap83, iv x_.2]] : List (List Value)), objR l1_ (rec1 .busy none), blk b89 102 #[.pointer pv81, sv ad82 x_.1.jobs cap83, sv ad84 x_.1.at_ cap85, iv x_.1.done], objR D1_ (.deferred (some [])), arr 65 2 (fN 2) ad94 l93.length cap95 (g_r.2.2.1 ++ ([[sv ad82 x_.1.jobs cap83, iv x_.2]] : List (List Value))), blk b9 3 #[iv x90], blk b8 60 #[sv ad94 l93 cap95], blk b6 28 #[iv s_r.1], blk b5 60 #[.slice none 0 0], blk b4 31 p0.ar, markR ([]), fz w0 ν_r]) (T := G_r) [1, 0, 2, 3, 4, 5, 6, 7, 8, 9, 10, 11] (by decide) hS, fun w hS => ⟨rfl, ν_r, (ad94, cap95, (g_r.2.2.1 ++ ([[sv ad82 x_.1.jobs cap83, iv x_.2]] : List (List Value))), ()), hxr, hlow, ⟨hq97, trivial⟩, St.pickT (A := [objR l1_ (rec1 .ready none), arr 65 2 (fN 2) (some ⟨b91, 0, none⟩) ([(plan_Cut.mk x_.1.jobs x_.2)]).length 1 ([[sv ad82 x_.1.jobs cap83, iv x_.2]] : List (List Value)), blk b89 102 #[.pointer pv81, sv ad82 x_.1.jobs cap83, sv ad84 x_.1.at_ cap85, iv x_.1.done], objR D1_ (.deferred (some [])), arr 65 2 (fN 2) ad94 l93.length cap95 (g_r.2.2.1 ++ ([[sv ad82 x_.1.jobs cap83, iv x_.2]] : List (List Value))), blk b9 3 #[iv x90], blk b8 60 #[sv ad94 l93 cap95], blk b6 28 #[iv s_r.1], blk b5 60 #[.slice none 0 0], blk b4 31 p0.ar, markR ([]), fz w0 ν_r]) (T := G_r) [11, 0, 3, 4, 5, 6, 7, 8, 9, 10] (by decide) hS⟩⟩
      ·replace h := bif_f h hc
       refine wpIn_skip (norm_block ?_)
       have hr_ := Option.some.inj h
       subst hr_
       refine ⟨_, St.pickT (A := [objR l1_ (rec1 .busy none), blk b89 102 #[.pointer pv81, sv ad82 x_.1.jobs cap83, sv ad84 x_.1.at_ cap85, iv x_.1.done], objR D1_ (.deferred (some [])), arr 65 2 (fN 2) g_r.1 s_r.2.1.length g_r.2.1 g_r.2.2.1, blk b9 3 #[iv x90], blk b8 60 #[.slice g_r.1 s_r.2.1.length g_r.2.1], blk b6 28 #[iv s_r.1], blk b5 60 #[.slice none 0 0], blk b4 31 p0.ar, markR ([]), fz w0 ν_r]) (T := G_r) [0, 1, 2, 3, 4, 5, 6, 7, 8, 9, 10] (by decide) hS, fun w hS => ⟨rfl, ν_r, (g_r.1, g_r.2.1, g_r.2.2.1, ()), hxr, hlow, ⟨hq78, trivial⟩, St.pickT (A := [objR l1_ (rec1 .ready none), blk b89 102 #[.pointer pv81, sv ad82 x_.1.jobs cap83, sv ad84 x_.1.at_ cap85, iv x_.1.done], objR D1_ (.deferred (some [])), arr 65 2 (fN 2) g_r.1 s_r.2.1.length g_r.2.1 g_r.2.2.1, blk b9 3 #[iv x90], blk b8 60 #[.slice g_r.1 s_r.2.1.length g_r.2.1], blk b6 28 #[iv s_r.1], blk b5 60 #[.slice none 0 0], blk b4 31 p0.ar, markR ([]), fz w0 ν_r]) (T := G_r) [10, 0, 2, 3, 4, 5, 6, 7, 8, 9] (by decide) hS⟩⟩
    ·rintro e w2 ⟨ν_n, g_n, hxn, hlown, hPn, rfl, hSn⟩
     refine ⟨_, rfl, ?_⟩
     obtain ⟨nhq78, -⟩ := hPn
     rcases Bool.eq_false_or_eq_true r98.2 with hb_ | hb_
     ·rw [hb_] at hSn
      refine .inl ⟨_, ⟨ν_n, g_n, rfl, hxn, hlown, hb_, nhq78⟩, (by have := St.pickT (A := [fz w0 ν_n, objR l1_ (rec1 .ready none), objR D1_ (.deferred (some [])), arr 65 2 (fN 2) g_n.1 r98.1.2.1.length g_n.2.1 g_n.2.2.1, blk b9 3 #[iv r98.1.2.2.1], blk b8 60 #[.slice g_n.1 r98.1.2.1.length g_n.2.1], blk b6 28 #[iv r98.1.1], blk b5 60 #[.slice none 0 0], blk b4 31 p0.ar, markR ([])]) (T := []) [1, 2, 3, 4, 5, 6, 7, 8, 9, 0] (by decide) hSn; simpa using this)⟩
     ·rw [hb_] at hSn
      refine .inr ⟨_, _, ⟨ν_n, g_n, rfl, hxn, hlown, hb_, rfl, nhq78⟩, (by have := St.pickT (A := [fz w0 ν_n, objR l1_ (rec1 .done (some (plan_Refute_c1 (r98.1.2.2.2)))), objR D1_ (.deferred (some [])), arr 65 2 (fN 2) g_n.1 r98.1.2.1.length g_n.2.1 g_n.2.2.1, blk b9 3 #[iv r98.1.2.2.1], blk b8 60 #[.slice g_n.1 r98.1.2.1.length g_n.2.1], blk b6 28 #[iv r98.1.1], blk b5 60 #[.slice none 0 0], blk b4 31 p0.ar, markR ([])]) (T := []) [1, 2, 3, 4, 5, 6, 7, 8, 9, 0] (by decide) hSn; simpa using this)⟩
   ·rintro D101 a w _ ⟨ν100, g99, rfl, hxn, hlow, hb_, hq78⟩ hF hS
    replace hA3 := hA3.mono hxn.1
    replace hA14 := hA14.mono Rp113.mono hxn.1
    replace hB22 := hB22.mono hxn.1
    replace hB26 := hB26.mono hxn.1
    replace hext := Frz.ext_trans hext hxn
    replace hS : St w0 [objR D101 (.deferred (some [])), arr 65 2 (fN 2) g99.1 r98.1.2.1.length g99.2.1 g99.2.2.1, blk b9 3 #[iv r98.1.2.2.1], blk b8 60 #[.slice g99.1 r98.1.2.1.length g99.2.1], blk b6 28 #[iv r98.1.1], blk b5 60 #[.slice none 0 0], blk b4 31 p0.ar, markR ([]), fz w0 ν100] w := hS
    replace hS := St.mark (St.pick [0, 7, 1, 2, 3, 4, 5, 6, 8] (by decide) hS)
    replace hS : St w0 [markR (D101 :: []), arr 65 2 (fN 2) g99.1 r98.1.2.1.length g99.2.1 g99.2.2.1, blk b9 3 #[iv r98.1.2.2.1], blk b8 60 #[.slice g99.1 r98.1.2.1.length g99.2.1], blk b6 28 #[iv r98.1.1], blk b5 60 #[.slice none 0 0], blk b4 31 p0.ar, fz w0 ν100] w := hS
    replace hF : Fr 45 (marks (D101 :: [])) [(6, pb b5), (7, pb b6), (9, pb b8), (10, pb b9), (26, .func (.func 87) #[] #[pb b17, pb b18])] a := hF
    replace h := bif_t h hb_
    refine norm_block <| norm_then <| ?_
    replace hF : Fr 45 (marks (D101 :: [])) [(6, pb b5), (7, pb b6), (9, pb b8), (10, pb b9)] a := hF.sub (by kernel_rfl)
    refine eseq ?_
    refine esr ?_
    refine rno 2 [.run [] (Instr.loadAt 3 (pb b9)) (iv r98.1.2.2.1)] 2 [(6, pb b5), (7, pb b6), (9, pb b8), (43, .bool (decide (r98.1.2.2.1 > 5000)))] hF (ocons (ob1 (by kernel_rfl) (fun _ hd => (hS.at_ hd).cell (i := 2) (j := 0) rfl rfl)) onil) fun a hF => ?_
    refine wfn rfl ?_
    refine econd hF rfl (fun hc => ?_) (fun hc => ?_)
    ·replace h := bif_t h hc
     refine esr ?_
     refine SK.wi (storeK (t := 60) [(6, pb b5), (7, pb b6)] 5 0 (.slice none 0 0) #[.slice none 0 0] hF hS rfl (by kernel_rfl) ⟨by kernel_rfl⟩ (by kernel_rfl) (by kernel_rfl) (by kernel_rfl) (by kernel_rfl) ⟨by kernel_rfl⟩ fun w a hF hS => ?_)
     refine SK.wi (storeK (t := 28) [(6, pb b5), (7, pb b6)] 4 0 (iv 9) #[iv 9] hF hS rfl (by kernel_rfl) ⟨by kernel_rfl⟩ (by kernel_rfl) (by kernel_rfl) (by kernel_rfl) (by kernel_rfl) ⟨by kernel_rfl⟩ fun w a hF hS => ?_)
     refine wfn rfl ?_
     refine wpIn_ret (ret_then <| fn_retM (H := [arr 65 2 (fN 2) g99.1 r98.1.2.1.length g99.2.1 g99.2.2.1, blk b9 3 #[iv r98.1.2.2.1], blk b8 60 #[.slice g99.1 r98.1.2.1.length g99.2.1], blk b6 28 #[iv 9], blk b5 60 #[.slice none 0 0], blk b4 31 p0.ar, fz w0 ν100]) [.cell 6 60, .cell 7 28] [.slice none 0 0, iv 9] hF (St.pick [0, 1, 2, 3, 4, 5, 6, 7] (by decide) hS) rfl fun w hS => ⟨⟨⟨_, rfl, loadVar1 (by kernel_rfl) (hS.cell (i := 4) (j := 0) rfl rfl)⟩, ⟨_, rfl, loadVar1 (by kernel_rfl) (hS.cell (i := 3) (j := 0) rfl rfl)⟩, trivial⟩, ?_⟩)
     have hr_ := Option.some.inj h
     subst hr_
     exact ⟨ν100, none, 0, [], hext, rfl, ArrQ.nil, St.pick [6] (by decide) hS⟩
    ·replace h := bif_f h hc
     refine wpIn_skip (norm_then ?_)
     refine esr ?_
     refine rno 1 [.run [] (Instr.loadAt 60 (pb b8)) (.slice g99.1 r98.1.2.1.length g99.2.1)] 1 [(6, pb b5), (7, pb b6), (44, .slice g99.1 r98.1.2.1.length g99.2.1)] hF (ocons (ob1 (by kernel_rfl) (fun _ hd => (hS.at_ hd).cell (i := 3) (j := 0) rfl rfl)) onil) fun a hF => ?_
     refine SK.wi (storeK (t := 60) [(6, pb b5), (7, pb b6)] 5 0 (.slice g99.1 r98.1.2.1.length g99.2.1) #[.slice g99.1 r98.1.2.1.length g99.2.1] hF hS rfl (by kernel_rfl) ⟨by kernel_rfl⟩ (by kernel_rfl) (by kernel_rfl) (by kernel_rfl) (by kernel_rfl) ⟨by kernel_rfl⟩ fun w a hF hS => ?_)
     refine SK.wi (storeK (t := 28) [(6, pb b5), (7, pb b6)] 4 0 (iv 0) #[iv 0] hF hS rfl (by kernel_rfl) ⟨by kernel_rfl⟩ (by kernel_rfl) (by kernel_rfl) (by kernel_rfl) (by kernel_rfl) ⟨by kernel_rfl⟩ fun w a hF hS => ?_)
     refine wfn rfl ?_
     refine wpIn_ret (fn_retM (H := [arr 65 2 (fN 2) g99.1 r98.1.2.1.length g99.2.1 g99.2.2.1, blk b9 3 #[iv r98.1.2.2.1], blk b8 60 #[.slice g99.1 r98.1.2.1.length g99.2.1], blk b6 28 #[iv 0], blk b5 60 #[.slice g99.1 r98.1.2.1.length g99.2.1], blk b4 31 p0.ar, fz w0 ν100]) [.cell 6 60, .cell 7 28] [.slice g99.1 r98.1.2.1.length g99.2.1, iv 0] hF (St.pick [0, 1, 2, 3, 4, 5, 6, 7] (by decide) hS) rfl fun w hS => ⟨⟨⟨_, rfl, loadVar1 (by kernel_rfl) (hS.cell (i := 4) (j := 0) rfl rfl)⟩, ⟨_, rfl, loadVar1 (by kernel_rfl) (hS.cell (i := 3) (j := 0) rfl rfl)⟩, trivial⟩, ?_⟩)
     obtain ⟨ν102, hx103, hlow, hS, hz104⟩ := hS.freeze (i := 6) (j := 0) rfl rfl (by decide) hlow
     replace hA3 := hA3.mono hx103.1
     replace hA14 := hA14.mono Rp113.mono hx103.1
     replace hB22 := hB22.mono hx103.1
     replace hB26 := hB26.mono hx103.1
     replace hq78 := All2.mono Rp65.mono hx103.1 hq78
     replace hext := Frz.ext_trans hext hx103
     replace hS : St w0 [blk b9 3 #[iv r98.1.2.2.1], blk b8 60 #[.slice g99.1 r98.1.2.1.length g99.2.1], blk b6 28 #[iv 0], blk b5 60 #[.slice g99.1 r98.1.2.1.length g99.2.1], blk b4 31 p0.ar, fz w0 ν102] w := hS
     have hA105 := ArrQ.of_arr (l := r98.1.2.1) hz104 hq78 Rp65.mono (Frz.le_refl _)
     have hr_ := Option.some.inj h
     subst hr_
     exact ⟨ν102, g99.1, g99.2.1, g99.2.2.1, hext, rfl, hA105, St.pick [5] (by decide) hS⟩
   rintro D101 _ a w _ ⟨ν100, g99, rfl, hxn, hlow, hb_, rfl, hq78⟩ hF hS
   replace hA3 := hA3.mono hxn.1
   replace hA14 := hA14.mono Rp113.mono hxn.1
   replace hB22 := hB22.mono hxn.1
   replace hB26 := hB26.mono hxn.1
   replace hext := Frz.ext_trans hext hxn
   replace hS : St w0 [objR D101 (.deferred (some [])), arr 65 2 (fN 2) g99.1 r98.1.2.1.length g99.2.1 g99.2.2.1, blk b9 3 #[iv r98.1.2.2.1], blk b8 60 #[.slice g99.1 r98.1.2.1.length g99.2.1], blk b6 28 #[iv r98.1.1], blk b5 60 #[.slice none 0 0], blk b4 31 p0.ar, markR ([]), fz w0 ν100] w := hS
   replace hS := St.mark (St.pick [0, 7, 1, 2, 3, 4, 5, 6, 8] (by decide) hS)
   replace hS : St w0 [markR (D101 :: []), arr 65 2 (fN 2) g99.1 r98.1.2.1.length g99.2.1 g99.2.2.1, blk b9 3 #[iv r98.1.2.2.1], blk b8 60 #[.slice g99.1 r98.1.2.1.length g99.2.1], blk b6 28 #[iv r98.1.1], blk b5 60 #[.slice none 0 0], blk b4 31 p0.ar, fz w0 ν100] w := hS
   replace hF : Fr 45 (marks (D101 :: [])) [(6, pb b5), (7, pb b6), (9, pb b8), (10, pb b9), (26, .func (.func 87) #[] #[pb b17, pb b18])] a := hF
   replace h := bif_f h hb_
   show WP _ _ Code.ret _ a w
   refine wpIn_ret (ret_block <| ret_then <| fn_retM (H := [arr 65 2 (fN 2) g99.1 r98.1.2.1.length g99.2.1 g99.2.2.1, blk b9 3 #[iv r98.1.2.2.1], blk b8 60 #[.slice g99.1 r98.1.2.1.length g99.2.1], blk b6 28 #[iv r98.1.1], blk b5 60 #[.slice none 0 0], blk b4 31 p0.ar, fz w0 ν100]) [.cell 6 60, .cell 7 28] [.slice none 0 0, iv r98.1.1] hF (St.pick [0, 1, 2, 3, 4, 5, 6, 7] (by decide) hS) rfl fun w hS => ⟨⟨⟨_, rfl, loadVar1 (by kernel_rfl) (hS.cell (i := 4) (j := 0) rfl rfl)⟩, ⟨_, rfl, loadVar1 (by kernel_rfl) (hS.cell (i := 3) (j := 0) rfl rfl)⟩, trivial⟩, ?_⟩)
   have hr_ := Option.some.inj h
   subst hr_
   exact ⟨ν100, none, 0, [], hext, rfl, ArrQ.nil, St.pick [6] (by decide) hS⟩
end Go.Proofs.Ytejffembnkojjaa
