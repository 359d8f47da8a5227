/- Walks, written by program (wip/gen/dec.py). -/
import Derived.Test.YtejffembnkojjaaC6XD
import Derived.Test.YtejffembnkojjaaProg
import Derived.Test.YtejffembnkojjaaC6XW0
import Derived.Test.YtejffembnkojjaaC6XW1
namespace Go.Proofs.Ytejffembnkojjaa
open Go Go.RowKit Go.Eng
set_option maxRecDepth 10000
set_option maxHeartbeats 4000000
set_option linter.unusedVariables false
set_option linter.unusedSimpArgs false
theorem ref01_Up_ok (F : Nat) (p0 : Int) (p1 : Int) (res : Int) (h : ref01_Up F p0 p1 = some res) (μ : Frz) (w0 : World) (hm : FrzAt μ w0) : Calls Try.prog 75 #[iv p0, iv p1] w0 (fun e w => e = .returned (iv res) ∧ Ext w0 w) := by
 obtain ⟨hlow, hS⟩ := hm.init
 have hext := Frz.ext_refl w0.heap.size μ
 rw [ref01_Up] at h
 refine fn_enterW Try.func75 rfl 10 [(0, iv p0), (1, iv p1)] rfl rfl (by kernel_rfl) fun a w hw hF => ?_
 replace hS : St w0 [fz w0 μ] w := by rw [hw]; exact hS
 clear hw
 refine esr ?_
 refine rn 1 1 [(0, iv p0), (1, iv p1)] hF fun a hF => ?_
 refine wfn rfl ?_
 refine esr ?_
 replace h := bindS h
 obtain ⟨y1, hy1, h⟩ := h
 refine rx 6 [.call [] 91 #[iv (IntKind.i64.wrap (0 - p0)), iv p1] (iv y1)] 6 [(4, iv (IntKind.i64.wrap (0 - y1)))] hF (ocons (show Ob.ok _ Ext _ _ from fun hk w2 hd => ref01_Down_ok F (IntKind.i64.wrap (0 - p0)) p1 _ ((fun _ => hy1) hk) _ w2 (memOf_at w2) ) onil) fun a w hF hx => ?_
 replace hS := hS.later hx
 refine wfn rfl ?_
 refine wpIn_ret (fn_ret [.tmp 4] [iv (IntKind.i64.wrap (0 - y1))] hF rfl ⟨rfl, trivial⟩ ?_)
 have hr_ := Option.some.inj h
 subst hr_
 exact ⟨rfl, hS.ext⟩

theorem cmp_Less_int_ok (p0 : Int) (p1 : Int) (res : Bool) (h : cmp_Less_int p0 p1 = res) (μ : Frz) (w0 : World) (hm : FrzAt μ w0) : Calls Try.prog 80 #[iv p0, iv p1] w0 (fun e w => e = .returned (.bool res) ∧ Ext w0 w) := by
 obtain ⟨hlow, hS⟩ := hm.init
 have hext := Frz.ext_refl w0.heap.size μ
 rw [cmp_Less_int] at h
 refine fn_enterW Try.func80 rfl 17 [(0, iv p0), (1, iv p1)] rfl rfl (by kernel_rfl) fun a w hw hF => ?_
 replace hS : St w0 [fz w0 μ] w := by rw [hw]; exact hS
 clear hw
 refine esr ?_
 refine rn 1 1 [(0, iv p0), (1, iv p1)] hF fun a hF => ?_
 refine wfn rfl ?_
 refine esr ?_
 refine rx 13 [.call [] 92 #[iv p0] (.bool (cmp_isNaN_int p0)), .call [⟨7, true, (cmp_isNaN_int p0)⟩] 92 #[iv p1] (.bool (cmp_isNaN_int p1))] 13 [(4, .bool (bif (bif (cmp_isNaN_int p0) then (!(cmp_isNaN_int p1)) else false) then true else (decide (p0 < p1))))] hF (ocons (show Ob.ok _ Ext _ _ from fun hk w2 hd => cmp_isNaN_int_ok p0 _ rfl _ w2 (memOf_at w2) ) (ocons (show Ob.ok _ Ext _ _ from fun hk w2 hd => cmp_isNaN_int_ok p1 _ rfl _ w2 (memOf_at w2) ) onil)) fun a w hF hx => ?_
 replace hS := hS.later hx
 refine wfn rfl ?_
 refine wpIn_ret (fn_ret [.tmp 4] [.bool (bif (bif (cmp_isNaN_int p0) then (!(cmp_isNaN_int p1)) else false) then true else (decide (p0 < p1)))] hF rfl ⟨rfl, trivial⟩ ?_)
 subst h
 exact ⟨rfl, hS.ext⟩

theorem ref06_covered_ok : ∀ (F : Nat) (p0 : (List ref06_Job)) (p1 : (List ref06_Cut)) (p2 : (List Int)) (res : Int) (h : ref06_covered F p0 p1 p2 = some res) (μ : Frz) (w0 : World) (hm : FrzAt μ w0) {ad1 : Option Addr} {cap2 : Nat} {ad4 : Option Addr} {cap5 : Nat} {css6 : List (List Value)} {ad8 : Option Addr} {cap9 : Nat} (hA3 : ArrM μ 8 ref06_Job.cells ad1 cap2 p0) (hA7 : ArrQ μ 2 Rp59 ad4 cap5 css6 p1) (hA10 : ArrM μ 1 fI ad8 cap9 p2), Calls Try.prog 67 #[sv ad1 p0 cap2, sv ad4 p1 cap5, sv ad8 p2 cap9] w0 (fun e w => e = .returned (iv res) ∧ Ext w0 w) := by
 intro F
 induction F with
 | zero =>
  intro p0 p1 p2 res h
  cases (show (none : Option Int) = some res from h)
 | succ F ih =>
  intro p0 p1 p2 res h μ w0 hm ad1 cap2 ad4 cap5 css6 ad8 cap9 hA3 hA7 hA10
  obtain ⟨hlow, hS⟩ := hm.init
  have hext := Frz.ext_refl w0.heap.size μ
  replace h : ref06_covered_R F (ref06_covered F) p0 p1 p2 = some res := h
  obtain ⟨self_, hself⟩ : ∃ s, s = ref06_covered F := ⟨_, rfl⟩
  rw [← hself, ref06_covered_R] at h
  refine fn_enterW Try.func67 rfl 58 [(0, sv ad1 p0 cap2), (1, sv ad4 p1 cap5), (2, sv ad8 p2 cap9)] rfl rfl (by kernel_rfl) fun a w hw hF => ?_
  replace hS : St w0 [fz w0 μ] w := by rw [hw]; exact hS
  clear hw
  refine esr ?_
  refine rn 1 1 [(0, sv ad1 p0 cap2), (1, sv ad4 p1 cap5), (2, sv ad8 p2 cap9)] hF fun a hF => ?_
  refine wfn rfl ?_
  refine eseq ?_
  refine esr ?_
  refine rn 4 4 [(0, sv ad1 p0 cap2), (1, sv ad4 p1 cap5), (2, sv ad8 p2 cap9), (13, .bool ((ln p1) == 0))] hF fun a hF => ?_
  rcases Bool.eq_false_or_eq_true (((ln p1) == 0)) with hg11 | hg11
  ·replace h := bif_t h hg11
   rw [hg11] at hF
   refine skip_ 5 [(0, sv ad1 p0 cap2), (1, sv ad4 p1 cap5), (2, sv ad8 p2 cap9), (13, .bool true), (14, undef)] hF (by kernel_rfl) ⟨by kernel_rfl⟩ ⟨by kernel_rfl⟩ rfl fun a hF => ?_
   refine skip_ 6 [(0, sv ad1 p0 cap2), (1, sv ad4 p1 cap5), (2, sv ad8 p2 cap9), (13, .bool true), (15, undef)] hF (by kernel_rfl) ⟨by kernel_rfl⟩ ⟨by kernel_rfl⟩ rfl fun a hF => ?_
   refine skip_ 7 [(0, sv ad1 p0 cap2), (1, sv ad4 p1 cap5), (2, sv ad8 p2 cap9), (13, .bool true), (16, undef)] hF (by kernel_rfl) ⟨by kernel_rfl⟩ ⟨by kernel_rfl⟩ rfl fun a hF => ?_
   refine skip_ 8 [(0, sv ad1 p0 cap2), (1, sv ad4 p1 cap5), (2, sv ad8 p2 cap9), (13, .bool true), (17, undef)] hF (by kernel_rfl) ⟨by kernel_rfl⟩ ⟨by kernel_rfl⟩ rfl fun a hF => ?_
   refine skip_ 9 [(0, sv ad1 p0 cap2), (1, sv ad4 p1 cap5), (2, sv ad8 p2 cap9), (13, .bool true), (17, undef), (18, undef)] hF (by kernel_rfl) ⟨by kernel_rfl⟩ ⟨by kernel_rfl⟩ rfl fun a hF => ?_
   refine skip_ 10 [(0, sv ad1 p0 cap2), (1, sv ad4 p1 cap5), (2, sv ad8 p2 cap9), (13, .bool true), (19, undef)] hF (by kernel_rfl) ⟨by kernel_rfl⟩ ⟨by kernel_rfl⟩ rfl fun a hF => ?_
   refine skip_ 11 [(0, sv ad1 p0 cap2), (1, sv ad4 p1 cap5), (2, sv ad8 p2 cap9), (13, .bool true), (20, undef)] hF (by kernel_rfl) ⟨by kernel_rfl⟩ ⟨by kernel_rfl⟩ rfl fun a hF => ?_
   refine rn 1 12 [(0, sv ad1 p0 cap2), (1, sv ad4 p1 cap5), (2, sv ad8 p2 cap9), (21, .bool true)] hF fun a hF => ?_
   refine wfn rfl ?_
   refine wpIn_cond_true (hF.get rfl) ?_
   refine esr ?_
   refine rn 1 1 [(6, iv (-1))] hF fun a hF => ?_
   refine wfn rfl ?_
   refine wpIn_ret (ret_then <| fn_ret [.tmp 6] [iv (-1)] hF rfl ⟨rfl, trivial⟩ ?_)
   have hr_ := Option.some.inj h
   subst hr_
   exact ⟨rfl, hS.ext⟩
  ·replace h := bif_f h hg11
   rw [hg11] at hF
   replace h := bindS h
   obtain ⟨u12, hu12, h⟩ := h
   obtain ⟨cs13, hcs14, hR15⟩ := getI_all2 hA7.2 hu12
   obtain ⟨ad16, cap17, rfl, hA18⟩ := hR15
   replace h := bindS h
   obtain ⟨y19, hy19, h⟩ := h
   refine rx 8 [.run [⟨13, false, false⟩] (Instr.indexAt 57 (sv ad4 p1 cap5) (iv 0)) (.pointer (some (slAddr ad4 0 2))), .run [⟨13, false, false⟩] (Instr.loadAt 40 (.pointer (some (slAddr ad4 0 2)))) (sv ad16 u12.Begin cap17), .call [⟨13, false, false⟩] 63 #[sv ad16 u12.Begin cap17, sv ad8 p2 cap9] (.bool y19)] 12 [(0, sv ad1 p0 cap2), (1, sv ad4 p1 cap5), (2, sv ad8 p2 cap9), (21, .bool (!y19))] hF (ocons (obIdxQ (hA7.at (hS.frz (i := 0) rfl hlow)) (by kernel_rfl) (fun _ => hcs14)) (ocons (obElQ (i := 0) 0 (fN_len 2) (fun _ hd => (hA7.at ((hS.later hd).frz (i := 0) rfl hlow))) (by kernel_rfl) (fun _ => hcs14) rfl) (ocons (show Ob.ok _ Ext _ _ from fun hk w2 hd => ref06_Starts_ok F u12.Begin p2 _ ((fun _ => hy19) hk) _ w2 (memOf_at w2) (hA18.mono (FrzAt.le_mem ((hS.later hd).frz (i := 0) rfl hlow))) (hA10.mono (FrzAt.le_mem ((hS.later hd).frz (i := 0) rfl hlow)))) onil))) fun a w hF hx => ?_
   replace hS := hS.later hx
   refine wfn rfl ?_
   refine econd hF rfl (fun hc => ?_) (fun hc => ?_)
   ·replace h := bif_t h hc
    refine esr ?_
    refine rn 1 1 [(6, iv (-1))] hF fun a hF => ?_
    refine wfn rfl ?_
    refine wpIn_ret (ret_then <| fn_ret [.tmp 6] [iv (-1)] hF rfl ⟨rfl, trivial⟩ ?_)
    have hr_ := Option.some.inj h
    subst hr_
    exact ⟨rfl, hS.ext⟩
   ·replace h := bif_f h hc
    refine wpIn_skip (norm_then ?_)
    refine eseq ?_
    refine esr ?_
    refine rn 4 4 [(0, sv ad1 p0 cap2), (1, sv ad4 p1 cap5), (2, sv ad8 p2 cap9), (25, .bool (decide ((ln p2) > 0)))] hF fun a hF => ?_
    rcases Bool.eq_false_or_eq_true ((decide ((ln p2) > 0))) with hg20 | hg20
    ·replace h := bif_t h hg20
     rw [hg20] at hF
     replace h := bindS h
     obtain ⟨u21, hu21, h⟩ := h
     obtain ⟨cs22, hcs23, hR24⟩ := getI_all2 hA7.2 hu21
     obtain ⟨ad25, cap26, rfl, hA27⟩ := hR24
     refine rno 9 [.run [⟨25, true, true⟩] (Instr.indexAt 57 (sv ad4 p1 cap5) (iv 0)) (.pointer (some (slAddr ad4 0 2))), .run [⟨25, true, true⟩] (Instr.loadAt 40 (.pointer (some (slAddr ad4 0 2)))) (sv ad25 u21.Begin cap26)] 13 [(0, sv ad1 p0 cap2), (1, sv ad4 p1 cap5), (2, sv ad8 p2 cap9), (34, .bool ((ln u21.Begin) == (ln p2)))] hF (ocons (obIdxQ (hA7.at (hS.frz (i := 0) rfl hlow)) (by kernel_rfl) (fun _ => hcs23)) (ocons (obElQ (i := 0) 0 (fN_len 2) (fun _ hd => (hA7.at ((hS.at_ hd).frz (i := 0) rfl hlow))) (by kernel_rfl) (fun _ => hcs23) rfl) onil)) fun a hF => ?_
     refine wfn rfl ?_
     refine econd hF rfl (fun hc => ?_) (fun hc => ?_)
     ·replace h := bif_t h hc
      refine esr ?_
      refine rn 1 1 [(6, iv 1)] hF fun a hF => ?_
      refine wfn rfl ?_
      refine wpIn_ret (ret_then <| fn_ret [.tmp 6] [iv 1] hF rfl ⟨rfl, trivial⟩ ?_)
      have hr_ := Option.some.inj h
      subst hr_
      exact ⟨rfl, hS.ext⟩
     ·replace h := bif_f h hc
      refine wpIn_skip (norm_then ?_)
      refine esr ?_
      refine rn 1 1 [(0, sv ad1 p0 cap2), (1, sv ad4 p1 cap5), (2, sv ad8 p2 cap9), (7, iv 0)] hF fun a hF => ?_
      refine wfn rfl ?_
      refine ecut (fun a w => ∃ (x234 : Int), Fr 58 [] [(7, iv x234)] a ∧ St w0 [fz w0 μ] w ∧ ref06_covered_K1 x234 = some res) ?_ ?_
      ·skip
       refine esr ?_
       refine rn 1 1 [(0, sv ad1 p0 cap2), (1, sv ad4 p1 cap5), (2, sv ad8 p2 cap9), (7, iv 0), (8, iv 0)] hF fun a hF => ?_
       refine wfn rfl ?_
       refine wpIn_block ?_
       refine eloop (fun n_ a w => ∃ (x372 : Int) (x373 : Int), Fr 58 [] [(0, sv ad1 p0 cap2), (1, sv ad4 p1 cap5), (2, sv ad8 p2 cap9), (7, iv x372), (8, iv x373)] a ∧ St w0 [fz w0 μ] w ∧ ref06_covered_L2 self_ p0 p1 p2 n_ x372 x373 = some res) F ⟨0, 0, hF.sub (by kernel_rfl), St.pick [0] (by decide) hS, h⟩ ?_
       rintro n_ a w ⟨x372, x373, hF, hS, h⟩
       rcases n_ with _ | n_
       ·cases (show (none : Option Int) = some res from h)
       obtain ⟨k2, hk2⟩ : ∃ k, k = ref06_covered_L2 self_ p0 p1 p2 n_ := ⟨_, rfl⟩
       replace h : ref06_covered_B2 self_ p0 p1 p2 k2 x372 x373 = some res := by rw [hk2]; exact h
       rw [ref06_covered_B2] at h
       refine eseq ?_
       refine esr ?_
       refine rn 4 4 [(0, sv ad1 p0 cap2), (1, sv ad4 p1 cap5), (2, sv ad8 p2 cap9), (7, iv x372), (8, iv x373), (38, .bool (decide (x373 < (ln p0))))] hF fun a hF => ?_
       refine wfn rfl ?_
       refine econd hF rfl (fun hc => ?_) (fun hc => ?_)
       ·replace h := bif_t h hc
        refine wpIn_skip (norm_then ?_)
        refine eseq ?_
        refine wpIn_block ?_
        refine eseq ?_
        replace h := bindS h
        obtain ⟨l375, hl375, h⟩ := h
        replace h := bindS h
        obtain ⟨l381, hl381, h⟩ := h
        replace h := bindS h
        obtain ⟨l385, hl385, h⟩ := h
        replace h := bindS h
        obtain ⟨y389, hy389, h⟩ := h
        refine region_treeW 12 [4, 6, 8, 9, 10] (fun a w => Fr 58 [] [(0, sv ad1 p0 cap2), (1, sv ad4 p1 cap5), (2, sv ad8 p2 cap9), (7, iv x372), (8, iv x373), (9, iv y389)] a ∧ St w0 [fz w0 μ] w) (D := fun w => St w0 [] w ∧ FrzAt μ w) (by kernel_rfl) (by kernel_rfl) hF.size (fun w hx => ?_) ?_
        ·skip
         replace hS := hS.later hx
         refine ⟨⟨St.pick [] (by decide) hS, hS.frz (i := 0) rfl hlow⟩, ?_⟩
         have hcl415 := Frz.le_refl μ
         obtain ⟨css416, hcs417, hq418⟩ := cut_all2 hA7.2 hl375
         have hA419 : ArrQ μ 2 Rp59 (slOff ad4 cap5 x372.toNat 2) (cap5 - x372.toNat) css416 l375 := ⟨fun w_ hw_ => (hA7.1 w_ hw_).cutD (fN_len 2) hcs417, hq418⟩
         refine WT.s [0, 1, 2, 3, 5, 7] [4, 8] (by kernel_rfl) (by kernel_rfl) ?_
         refine runC (rest := []) (obs := [.run [] (Instr.sliceAt 57 (sv ad4 p1 cap5) (some (iv x372)) none none) (.slice (slOff ad4 cap5 x372.toNat 2) l375.length (cap5 - x372.toNat))]) [0, 1, 2, 3, 5, 7] [(0, sv ad1 p0 cap2), (1, sv ad4 p1 cap5), (2, sv ad8 p2 cap9), (7, iv x372), (8, iv x373), (41, sv ad1 p0 cap2), (44, .slice (slOff ad4 cap5 x372.toNat 2) l375.length (cap5 - x372.toNat)), (46, sv ad8 p2 cap9), (48, iv x373)] hF (by kernel_rfl) (by kernel_rfl) (ocons (obCutL (by kernel_rfl) (hA7.at (hS.frz (i := 0) rfl hlow)) (fun _ => hl375)) onil) ⟨by kernel_rfl⟩ fun a hF => ?_
         refine WRun.fin ?_
         refine all_cons ?_ (all_cons ?_ (all_nil))
         ·skip
          refine litK (e := 3) (sz := 1) (f := fI) (t := 40) (len := 0) (fun b420 => [(0, sv ad1 p0 cap2), (1, sv ad4 p1 cap5), (2, sv ad8 p2 cap9), (7, iv x372), (8, iv x373), (41, sv ad1 p0 cap2), (44, .slice (slOff ad4 cap5 x372.toNat 2) l375.length (cap5 - x372.toNat)), (45, sb b420 0), (46, sv ad8 p2 cap9), (48, iv x373)]) #[] #[] ([] : List Int) hF hS (by kernel_rfl) ⟨by kernel_rfl⟩ (by kernel_rfl) fI_len rfl rfl (by kernel_rfl) (fun _ => ⟨by kernel_rfl⟩) fun b420 w a hF hS => ⟨⟨St.pick [] (by decide) hS, (hS.frz (i := 1) rfl hlow)⟩, ?_⟩
          refine WT.s [] [6, 8] (by kernel_rfl) (by kernel_rfl) ?_
          refine WRun.fin ?_
          refine all_cons ?_ (all_cons ?_ (all_nil))
          ·skip
           refine appK (t := 40) (ty := 40) (bytes := 8) (l := ([] : List Int)) (l' := p2) (fun ad421 cap422 => [(0, sv ad1 p0 cap2), (1, sv ad4 p1 cap5), (2, sv ad8 p2 cap9), (7, iv x372), (8, iv x373), (41, sv ad1 p0 cap2), (44, .slice (slOff ad4 cap5 x372.toNat 2) l375.length (cap5 - x372.toNat)), (47, sv ad421 l381 cap422), (48, iv x373)]) 0 hF hS rfl (by kernel_rfl) ⟨by kernel_rfl⟩ (by kernel_rfl) (hA10 _ (hS.frz (i := 1) rfl hlow)) (fun _ _ => rfl) hl381 (fun _ _ => ⟨by kernel_rfl⟩) fun ad421 cap422 w a hF hS => ⟨⟨St.pick [] (by decide) hS, (hS.frz (i := 1) rfl hlow)⟩, ?_⟩
           refine WT.s [] [8] (by kernel_rfl) (by kernel_rfl) ?_
           refine WRun.fin ?_
           refine all_cons ?_ (all_nil)
           refine litK (e := 3) (sz := 1) (f := fI) (t := 40) (len := 1) (fun b423 => [(0, sv ad1 p0 cap2), (1, sv ad4 p1 cap5), (2, sv ad8 p2 cap9), (7, iv x372), (8, iv x373), (41, sv ad1 p0 cap2), (44, .slice (slOff ad4 cap5 x372.toNat 2) l375.length (cap5 - x372.toNat)), (47, sv ad421 l381 cap422), (49, sb b423 1)]) #[(0, iv x373)] #[iv x373] ([x373]) hF hS (by kernel_rfl) ⟨by kernel_rfl⟩ (by kernel_rfl) fI_len rfl rfl (by kernel_rfl) (fun _ => ⟨by kernel_rfl⟩) fun b423 w a hF hS => ⟨⟨St.pick [] (by decide) hS, (hS.frz (i := 2) rfl hlow)⟩, ?_⟩
           refine WT.s [] [9] (by kernel_rfl) (by kernel_rfl) ?_
           refine WRun.fin ?_
           refine all_cons ?_ (all_nil)
           refine appK (t := 40) (ty := 40) (bytes := 8) (l := l381) (l' := ([x373])) (fun ad424 cap425 => [(0, sv ad1 p0 cap2), (1, sv ad4 p1 cap5), (2, sv ad8 p2 cap9), (7, iv x372), (8, iv x373), (41, sv ad1 p0 cap2), (44, .slice (slOff ad4 cap5 x372.toNat 2) l375.length (cap5 - x372.toNat)), (50, sv ad424 l385 cap425)]) 1 hF hS rfl (by kernel_rfl) ⟨by kernel_rfl⟩ (by kernel_rfl) (hS.arr (i := 0) rfl) (fun _ _ => rfl) hl385 (fun _ _ => ⟨by kernel_rfl⟩) fun ad424 cap425 w a hF hS => ⟨⟨St.pick [] (by decide) hS, (hS.frz (i := 2) rfl hlow)⟩, ?_⟩
           refine WT.s [] [10] (by kernel_rfl) (by kernel_rfl) ?_
           refine WRun.fin ?_
           refine all_cons ?_ (all_nil)
           refine callK (f := 67) (args := #[sv ad1 p0 cap2, .slice (slOff ad4 cap5 x372.toNat 2) l375.length (cap5 - x372.toNat), sv ad424 l385 cap425]) (R := fun v w2 => v = iv y389 ∧ Ext w w2) (fun v426 => [(0, sv ad1 p0 cap2), (1, sv ad4 p1 cap5), (2, sv ad8 p2 cap9), (7, iv x372), (8, iv x373), (51, v426)]) hF (by kernel_rfl) ⟨by kernel_rfl⟩ (Calls.mono (ih p0 l375 l385 _ (by rw [← hself]; exact hy389) (memOf w) w (memOf_at w) (hA3.mono (FrzAt.le_mem (hS.frz (i := 2) rfl hlow))) (hA419.mono Rp59.mono (FrzAt.le_mem (hS.frz (i := 2) rfl hlow))) (Arr.toM (hS.arr (i := 1) rfl))) (fun e w2 h => ⟨_, h.1, rfl, h.2⟩)) (fun _ => ⟨by kernel_rfl⟩) ?_
           rintro v426 w a ⟨rfl, hx⟩ hF
           replace hS := hS.later hx
           refine ⟨⟨St.pick [] (by decide) hS, (hS.frz (i := 2) rfl hlow)⟩, ?_⟩
           refine WT.z [11] (by kernel_rfl) ?_
           refine runC (rest := []) (obs := []) [11] [(0, sv ad1 p0 cap2), (1, sv ad4 p1 cap5), (2, sv ad8 p2 cap9), (7, iv x372), (8, iv x373), (9, iv y389)] hF (by kernel_rfl) (by kernel_rfl) onil ⟨by kernel_rfl⟩ fun a hF => ?_
           refine WRun.fin ?_
           exact ⟨hF.sub (by kernel_rfl), St.pick [2] (by decide) hS⟩
          ·skip
           refine litK (e := 3) (sz := 1) (f := fI) (t := 40) (len := 1) (fun b427 => [(0, sv ad1 p0 cap2), (1, sv ad4 p1 cap5), (2, sv ad8 p2 cap9), (7, iv x372), (8, iv x373), (41, sv ad1 p0 cap2), (44, .slice (slOff ad4 cap5 x372.toNat 2) l375.length (cap5 - x372.toNat)), (45, sb b420 0), (46, sv ad8 p2 cap9), (49, sb b427 1)]) #[(0, iv x373)] #[iv x373] ([x373]) hF hS (by kernel_rfl) ⟨by kernel_rfl⟩ (by kernel_rfl) fI_len rfl rfl (by kernel_rfl) (fun _ => ⟨by kernel_rfl⟩) fun b427 w a hF hS => ⟨⟨St.pick [] (by decide) hS, (hS.frz (i := 2) rfl hlow)⟩, ?_⟩
           refine WT.s [] [6] (by kernel_rfl) (by kernel_rfl) ?_
           refine WRun.fin ?_
           refine all_cons ?_ (all_nil)
           refine appK (t := 40) (ty := 40) (bytes := 8) (l := ([] : List Int)) (l' := p2) (fun ad428 cap429 => [(0, sv ad1 p0 cap2), (1, sv ad4 p1 cap5), (2, sv ad8 p2 cap9), (7, iv x372), (8, iv x373), (41, sv ad1 p0 cap2), (44, .slice (slOff ad4 cap5 x372.toNat 2) l375.length (cap5 - x372.toNat)), (47, sv ad428 l381 cap429), (49, sb b427 1)]) 1 hF hS rfl (by kernel_rfl) ⟨by kernel_rfl⟩ (by kernel_rfl) (hA10 _ (hS.frz (i := 2) rfl hlow)) (fun _ _ => rfl) hl381 (fun _ _ => ⟨by kernel_rfl⟩) fun ad428 cap429 w a hF hS => ⟨⟨St.pick [] (by decide) hS, (hS.frz (i := 2) rfl hlow)⟩, ?_⟩
           refine WT.s [] [9] (by kernel_rfl) (by kernel_rfl) ?_
           refine WRun.fin ?_
           refine all_cons ?_ (all_nil)
           refine appK (t := 40) (ty := 40) (bytes := 8) (l := l381) (l' := ([x373])) (fun ad430 cap431 => [(0, sv ad1 p0 cap2), (1, sv ad4 p1 cap5), (2, sv ad8 p2 cap9), (7, iv x372), (8, iv x373), (41, sv ad1 p0 cap2), (44, .slice (slOff ad4 cap5 x372.toNat 2) l375.length (cap5 - x372.toNat)), (50, sv ad430 l385 cap431)]) 1 hF hS rfl (by kernel_rfl) ⟨by kernel_rfl⟩ (by kernel_rfl) (hS.arr (i := 0) rfl) (fun _ _ => rfl) hl385 (fun _ _ => ⟨by kernel_rfl⟩) fun ad430 cap431 w a hF hS => ⟨⟨St.pick [] (by decide) hS, (hS.frz (i := 2) rfl hlow)⟩, ?_⟩
           refine WT.s [] [10] (by kernel_rfl) (by kernel_rfl) ?_
           refine WRun.fin ?_
           refine all_cons ?_ (all_nil)
           refine callK (f := 67) (args := #[sv ad1 p0 cap2, .slice (slOff ad4 cap5 x372.toNat 2) l375.length (cap5 - x372.toNat), sv ad430 l385 cap431]) (R := fun v w2 => v = iv y389 ∧ Ext w w2) (fun v432 => [(0, sv ad1 p0 cap2), (1, sv ad4 p1 cap5), (2, sv ad8 p2 cap9), (7, iv x372), (8, iv x373), (51, v432)]) hF (by kernel_rfl) ⟨by kernel_rfl⟩ (Calls.mono (ih p0 l375 l385 _ (by rw [← hself]; exact hy389) (memOf w) w (memOf_at w) (hA3.mono (FrzAt.le_mem (hS.frz (i := 2) rfl hlow))) (hA419.mono Rp59.mono (FrzAt.le_mem (hS.frz (i := 2) rfl hlow))) (Arr.toM (hS.arr (i := 1) rfl))) (fun e w2 h => ⟨_, h.1, rfl, h.2⟩)) (fun _ => ⟨by kernel_rfl⟩) ?_
           rintro v432 w a ⟨rfl, hx⟩ hF
           replace hS := hS.later hx
           refine ⟨⟨St.pick [] (by decide) hS, (hS.frz (i := 2) rfl hlow)⟩, ?_⟩
           refine WT.z [11] (by kernel_rfl) ?_
           refine runC (rest := []) (obs := []) [11] [(0, sv ad1 p0 cap2), (1, sv ad4 p1 cap5), (2, sv ad8 p2 cap9), (7, iv x372), (8, iv x373), (9, iv y389)] hF (by kernel_rfl) (by kernel_rfl) onil ⟨by kernel_rfl⟩ fun a hF => ?_
           refine WRun.fin ?_
           exact ⟨hF.sub (by kernel_rfl), St.pick [2] (by decide) hS⟩
         ·skip
          refine litK (e := 3) (sz := 1) (f := fI) (t := 40) (len := 1) (fun b433 => [(0, sv ad1 p0 cap2), (1, sv ad4 p1 cap5), (2, sv ad8 p2 cap9), (7, iv x372), (8, iv x373), (41, sv ad1 p0 cap2), (44, .slice (slOff ad4 cap5 x372.toNat 2) l375.length (cap5 - x372.toNat)), (46, sv ad8 p2 cap9), (49, sb b433 1)]) #[(0, iv x373)] #[iv x373] ([x373]) hF hS (by kernel_rfl) ⟨by kernel_rfl⟩ (by kernel_rfl) fI_len rfl rfl (by kernel_rfl) (fun _ => ⟨by kernel_rfl⟩) fun b433 w a hF hS => ⟨⟨St.pick [] (by decide) hS, (hS.frz (i := 1) rfl hlow)⟩, ?_⟩
          refine WT.s [] [4] (by kernel_rfl) (by kernel_rfl) ?_
          refine WRun.fin ?_
          refine all_cons ?_ (all_nil)
          refine litK (e := 3) (sz := 1) (f := fI) (t := 40) (len := 0) (fun b434 => [(0, sv ad1 p0 cap2), (1, sv ad4 p1 cap5), (2, sv ad8 p2 cap9), (7, iv x372), (8, iv x373), (41, sv ad1 p0 cap2), (44, .slice (slOff ad4 cap5 x372.toNat 2) l375.length (cap5 - x372.toNat)), (45, sb b434 0), (46, sv ad8 p2 cap9), (49, sb b433 1)]) #[] #[] ([] : List Int) hF hS (by kernel_rfl) ⟨by kernel_rfl⟩ (by kernel_rfl) fI_len rfl rfl (by kernel_rfl) (fun _ => ⟨by kernel_rfl⟩) fun b434 w a hF hS => ⟨⟨St.pick [] (by decide) hS, (hS.frz (i := 2) rfl hlow)⟩, ?_⟩
          refine WT.s [] [6] (by kernel_rfl) (by kernel_rfl) ?_
          refine WRun.fin ?_
          refine all_cons ?_ (all_nil)
          refine appK (t := 40) (ty := 40) (bytes := 8) (l := ([] : List Int)) (l' := p2) (fun ad435 cap436 => [(0, sv ad1 p0 cap2), (1, sv ad4 p1 cap5), (2, sv ad8 p2 cap9), (7, iv x372), (8, iv x373), (41, sv ad1 p0 cap2), (44, .slice (slOff ad4 cap5 x372.toNat 2) l375.length (cap5 - x372.toNat)), (47, sv ad435 l381 cap436), (49, sb b433 1)]) 0 hF hS rfl (by kernel_rfl) ⟨by kernel_rfl⟩ (by kernel_rfl) (hA10 _ (hS.frz (i := 2) rfl hlow)) (fun _ _ => rfl) hl381 (fun _ _ => ⟨by kernel_rfl⟩) fun ad435 cap436 w a hF hS => ⟨⟨St.pick [] (by decide) hS, (hS.frz (i := 2) rfl hlow)⟩, ?_⟩
          refine WT.s [] [9] (by kernel_rfl) (by kernel_rfl) ?_
          refine WRun.fin ?_
          refine all_cons ?_ (all_nil)
          refine appK (t := 40) (ty := 40) (bytes := 8) (l := l381) (l' := ([x373])) (fun ad437 cap438 => [(0, sv ad1 p0 cap2), (1, sv ad4 p1 cap5), (2, sv ad8 p2 cap9), (7, iv x372), (8, iv x373), (41, sv ad1 p0 cap2), (44, .slice (slOff ad4 cap5 x372.toNat 2) l375.length (cap5 - x372.toNat)), (50, sv ad437 l385 cap438)]) 0 hF hS rfl (by kernel_rfl) ⟨by kernel_rfl⟩ (by kernel_rfl) (hS.arr (i := 1) rfl) (fun _ _ => rfl) hl385 (fun _ _ => ⟨by kernel_rfl⟩) fun ad437 cap438 w a hF hS => ⟨⟨St.pick [] (by decide) hS, (hS.frz (i := 2) rfl hlow)⟩, ?_⟩
          refine WT.s [] [10] (by kernel_rfl) (by kernel_rfl) ?_
          refine WRun.fin ?_
          refine all_cons ?_ (all_nil)
          refine callK (f := 67) (args := #[sv ad1 p0 cap2, .slice (slOff ad4 cap5 x372.toNat 2) l375.length (cap5 - x372.toNat), sv ad437 l385 cap438]) (R := fun v w2 => v = iv y389 ∧ Ext w w2) (fun v439 => [(0, sv ad1 p0 cap2), (1, sv ad4 p1 cap5), (2, sv ad8 p2 cap9), (7, iv x372), (8, iv x373), (51, v439)]) hF (by kernel_rfl) ⟨by kernel_rfl⟩ (Calls.mono (ih p0 l375 l385 _ (by rw [← hself]; exact hy389) (memOf w) w (memOf_at w) (hA3.mono (FrzAt.le_mem (hS.frz (i := 2) rfl hlow))) (hA419.mono Rp59.mono (FrzAt.le_mem (hS.frz (i := 2) rfl hlow))) (Arr.toM (hS.arr (i := 0) rfl))) (fun e w2 h => ⟨_, h.1, rfl, h.2⟩)) (fun _ => ⟨by kernel_rfl⟩) ?_
          rintro v439 w a ⟨rfl, hx⟩ hF
          replace hS := hS.later hx
          refine ⟨⟨St.pick [] (by decide) hS, (hS.frz (i := 2) rfl hlow)⟩, ?_⟩
          refine WT.z [11] (by kernel_rfl) ?_
          refine runC (rest := []) (obs := []) [11] [(0, sv ad1 p0 cap2), (1, sv ad4 p1 cap5), (2, sv ad8 p2 cap9), (7, iv x372), (8, iv x373), (9, iv y389)] hF (by kernel_rfl) (by kernel_rfl) onil ⟨by kernel_rfl⟩ fun a hF => ?_
          refine WRun.fin ?_
          exact ⟨hF.sub (by kernel_rfl), St.pick [2] (by decide) hS⟩
        rintro a w ⟨hF, hS⟩
        refine wfn rfl ?_
        refine eseq ?_
        refine esr ?_
        refine rn 2 2 [(0, sv ad1 p0 cap2), (1, sv ad4 p1 cap5), (2, sv ad8 p2 cap9), (7, iv x372), (8, iv x373), (9, iv y389), (53, .bool (decide (y389 < 0)))] hF fun a hF => ?_
        refine wfn rfl ?_
        refine econd hF rfl (fun hc => ?_) (fun hc => ?_)
        ·replace h := bif_t h hc
         refine esr ?_
         refine rn 1 1 [(6, iv (-1))] hF fun a hF => ?_
         refine wfn rfl ?_
         refine wpIn_ret (ret_then <| ret_block <| ret_then <| ret_then <| ret_block <| ret_then <| fn_ret [.tmp 6] [iv (-1)] hF rfl ⟨rfl, trivial⟩ ?_)
         have hr_ := Option.some.inj h
         subst hr_
         exact ⟨rfl, hS.ext⟩
        ·replace h := bif_f h hc
         refine wpIn_skip (norm_then ?_)
         refine WI.region ?_
         replace h := bindS h
         obtain ⟨x440, hx440, h⟩ := h
         refine rno 4 [.run [] (binOp .add 3 (iv x372) (iv y389)) (iv x440)] 4 [(0, sv ad1 p0 cap2), (1, sv ad4 p1 cap5), (2, sv ad8 p2 cap9), (7, iv x440), (8, iv x373)] hF (ocons (obAddC (fun _ => hx440)) onil) fun a hF => ?_
         refine WI.fin rfl (norm_block <| norm_then <| ?_)
         refine WI.region ?_
         replace h := bindS h
         obtain ⟨x441, hx441, h⟩ := h
         refine rno 3 [.run [] (binOp .add 3 (iv x373) (iv 1)) (iv x441)] 3 [(0, sv ad1 p0 cap2), (1, sv ad4 p1 cap5), (2, sv ad8 p2 cap9), (7, iv x440), (8, iv x441)] hF (ocons (obAddC (fun _ => hx441)) onil) fun a hF => ?_
         refine wfn rfl ?_
         rw [hk2] at h
         exact ⟨n_, Nat.lt_succ_self _, x440, x441, hF.sub (by kernel_rfl), St.pick [0] (by decide) hS, h⟩
       ·replace h := bif_f h hc
        refine wpIn_exit (exit_then <| exit_then <| exit_hit <| norm_then ?_)
        exact ⟨x372, hF.sub (by kernel_rfl), St.pick [0] (by decide) hS, h⟩
      rintro a w ⟨x234, hF, hS, h⟩
      rw [ref06_covered_K1] at h
      refine esr ?_
      refine rn 2 2 [(6, iv x234)] hF fun a hF => ?_
      refine wfn rfl ?_
      refine wpIn_ret (fn_ret [.tmp 6] [iv x234] hF rfl ⟨rfl, trivial⟩ ?_)
      have hr_ := Option.some.inj h
      subst hr_
      exact ⟨rfl, hS.ext⟩
    ·replace h := bif_f h hg20
     rw [hg20] at hF
     refine skip_ 5 [(0, sv ad1 p0 cap2), (1, sv ad4 p1 cap5), (2, sv ad8 p2 cap9), (25, .bool false), (26, undef)] hF (by kernel_rfl) ⟨by kernel_rfl⟩ ⟨by kernel_rfl⟩ rfl fun a hF => ?_
     refine skip_ 6 [(0, sv ad1 p0 cap2), (1, sv ad4 p1 cap5), (2, sv ad8 p2 cap9), (25, .bool false), (27, undef)] hF (by kernel_rfl) ⟨by kernel_rfl⟩ ⟨by kernel_rfl⟩ rfl fun a hF => ?_
     refine skip_ 7 [(0, sv ad1 p0 cap2), (1, sv ad4 p1 cap5), (2, sv ad8 p2 cap9), (25, .bool false), (28, undef)] hF (by kernel_rfl) ⟨by kernel_rfl⟩ ⟨by kernel_rfl⟩ rfl fun a hF => ?_
     refine skip_ 8 [(0, sv ad1 p0 cap2), (1, sv ad4 p1 cap5), (2, sv ad8 p2 cap9), (25, .bool false), (29, undef)] hF (by kernel_rfl) ⟨by kernel_rfl⟩ ⟨by kernel_rfl⟩ rfl fun a hF => ?_
     refine skip_ 9 [(0, sv ad1 p0 cap2), (1, sv ad4 p1 cap5), (2, sv ad8 p2 cap9), (25, .bool false), (30, undef)] hF (by kernel_rfl) ⟨by kernel_rfl⟩ ⟨by kernel_rfl⟩ rfl fun a hF => ?_
     refine skip_ 10 [(0, sv ad1 p0 cap2), (1, sv ad4 p1 cap5), (2, sv ad8 p2 cap9), (25, .bool false), (30, undef), (31, undef)] hF (by kernel_rfl) ⟨by kernel_rfl⟩ ⟨by kernel_rfl⟩ rfl fun a hF => ?_
     refine skip_ 11 [(0, sv ad1 p0 cap2), (1, sv ad4 p1 cap5), (2, sv ad8 p2 cap9), (25, .bool false), (30, undef), (32, undef)] hF (by kernel_rfl) ⟨by kernel_rfl⟩ ⟨by kernel_rfl⟩ rfl fun a hF => ?_
     refine skip_ 12 [(0, sv ad1 p0 cap2), (1, sv ad4 p1 cap5), (2, sv ad8 p2 cap9), (25, .bool false), (33, undef)] hF (by kernel_rfl) ⟨by kernel_rfl⟩ ⟨by kernel_rfl⟩ rfl fun a hF => ?_
     refine rn 1 13 [(0, sv ad1 p0 cap2), (1, sv ad4 p1 cap5), (2, sv ad8 p2 cap9), (34, .bool false)] hF fun a hF => ?_
     refine wfn rfl ?_
     refine wpIn_cond_false (hF.get rfl) ?_
     refine wpIn_skip (norm_then ?_)
     refine esr ?_
     refine rn 1 1 [(0, sv ad1 p0 cap2), (1, sv ad4 p1 cap5), (2, sv ad8 p2 cap9), (7, iv 0)] hF fun a hF => ?_
     refine wfn rfl ?_
     refine ecut (fun a w => ∃ (x648 : Int), Fr 58 [] [(7, iv x648)] a ∧ St w0 [fz w0 μ] w ∧ ref06_covered_K3 x648 = some res) ?_ ?_
     ·skip
      refine esr ?_
      refine rn 1 1 [(0, sv ad1 p0 cap2), (1, sv ad4 p1 cap5), (2, sv ad8 p2 cap9), (7, iv 0), (8, iv 0)] hF fun a hF => ?_
      refine wfn rfl ?_
      refine wpIn_block ?_
      refine eloop (fun n_ a w => ∃ (x786 : Int) (x787 : Int), Fr 58 [] [(0, sv ad1 p0 cap2), (1, sv ad4 p1 cap5), (2, sv ad8 p2 cap9), (7, iv x786), (8, iv x787)] a ∧ St w0 [fz w0 μ] w ∧ ref06_covered_L4 self_ p0 p1 p2 n_ x786 x787 = some res) F ⟨0, 0, hF.sub (by kernel_rfl), St.pick [0] (by decide) hS, h⟩ ?_
      rintro n_ a w ⟨x786, x787, hF, hS, h⟩
      rcases n_ with _ | n_
      ·cases (show (none : Option Int) = some res from h)
      obtain ⟨k4, hk4⟩ : ∃ k, k = ref06_covered_L4 self_ p0 p1 p2 n_ := ⟨_, rfl⟩
      replace h : ref06_covered_B4 self_ p0 p1 p2 k4 x786 x787 = some res := by rw [hk4]; exact h
      rw [ref06_covered_B4] at h
      refine eseq ?_
      refine esr ?_
      refine rn 4 4 [(0, sv ad1 p0 cap2), (1, sv ad4 p1 cap5), (2, sv ad8 p2 cap9), (7, iv x786), (8, iv x787), (38, .bool (decide (x787 < (ln p0))))] hF fun a hF => ?_
      refine wfn rfl ?_
      refine econd hF rfl (fun hc => ?_) (fun hc => ?_)
      ·replace h := bif_t h hc
       refine wpIn_skip (norm_then ?_)
       refine eseq ?_
       refine wpIn_block ?_
       refine eseq ?_
       replace h := bindS h
       obtain ⟨l789, hl789, h⟩ := h
       replace h := bindS h
       obtain ⟨l795, hl795, h⟩ := h
       replace h := bindS h
       obtain ⟨l799, hl799, h⟩ := h
       replace h := bindS h
       obtain ⟨y803, hy803, h⟩ := h
       refine region_treeW 12 [4, 6, 8, 9, 10] (fun a w => Fr 58 [] [(0, sv ad1 p0 cap2), (1, sv ad4 p1 cap5), (2, sv ad8 p2 cap9), (7, iv x786), (8, iv x787), (9, iv y803)] a ∧ St w0 [fz w0 μ] w) (D := fun w => St w0 [] w ∧ FrzAt μ w) (by kernel_rfl) (by kernel_rfl) hF.size (fun w hx => ?_) ?_
       ·skip
        replace hS := hS.later hx
        refine ⟨⟨St.pick [] (by decide) hS, hS.frz (i := 0) rfl hlow⟩, ?_⟩
        have hcl829 := Frz.le_refl μ
        obtain ⟨css830, hcs831, hq832⟩ := cut_all2 hA7.2 hl789
        have hA833 : ArrQ μ 2 Rp59 (slOff ad4 cap5 x786.toNat 2) (cap5 - x786.toNat) css830 l789 := ⟨fun w_ hw_ => (hA7.1 w_ hw_).cutD (fN_len 2) hcs831, hq832⟩
        refine WT.s [0, 1, 2, 3, 5, 7] [4, 8] (by kernel_rfl) (by kernel_rfl) ?_
        refine runC (rest := []) (obs := [.run [] (Instr.sliceAt 57 (sv ad4 p1 cap5) (some (iv x786)) none none) (.slice (slOff ad4 cap5 x786.toNat 2) l789.length (cap5 - x786.toNat))]) [0, 1, 2, 3, 5, 7] [(0, sv ad1 p0 cap2), (1, sv ad4 p1 cap5), (2, sv ad8 p2 cap9), (7, iv x786), (8, iv x787), (41, sv ad1 p0 cap2), (44, .slice (slOff ad4 cap5 x786.toNat 2) l789.length (cap5 - x786.toNat)), (46, sv ad8 p2 cap9), (48, iv x787)] hF (by kernel_rfl) (by kernel_rfl) (ocons (obCutL (by kernel_rfl) (hA7.at (hS.frz (i := 0) rfl hlow)) (fun _ => hl789)) onil) ⟨by kernel_rfl⟩ fun a hF => ?_
        refine WRun.fin ?_
        refine all_cons ?_ (all_cons ?_ (all_nil))
        ·skip
         refine litK (e := 3) (sz := 1) (f := fI) (t := 40) (len := 0) (fun b834 => [(0, sv ad1 p0 cap2), (1, sv ad4 p1 cap5), (2, sv ad8 p2 cap9), (7, iv x786), (8, iv x787), (41, sv ad1 p0 cap2), (44, .slice (slOff ad4 cap5 x786.toNat 2) l789.length (cap5 - x786.toNat)), (45, sb b834 0), (46, sv ad8 p2 cap9), (48, iv x787)]) #[] #[] ([] : List Int) hF hS (by kernel_rfl) ⟨by kernel_rfl⟩ (by kernel_rfl) fI_len rfl rfl (by kernel_rfl) (fun _ => ⟨by kernel_rfl⟩) fun b834 w a hF hS => ⟨⟨St.pick [] (by decide) hS, (hS.frz (i := 1) rfl hlow)⟩, ?_⟩
         refine WT.s [] [6, 8] (by kernel_rfl) (by kernel_rfl) ?_
         refine WRun.fin ?_
         refine all_cons ?_ (all_cons ?_ (all_nil))
         ·skip
          refine appK (t := 40) (ty := 40) (bytes := 8) (l := ([] : List Int)) (l' := p2) (fun ad835 cap836 => [(0, sv ad1 p0 cap2), (1, sv ad4 p1 cap5), (2, sv ad8 p2 cap9), (7, iv x786), (8, iv x787), (41, sv ad1 p0 cap2), (44, .slice (slOff ad4 cap5 x786.toNat 2) l789.length (cap5 - x786.toNat)), (47, sv ad835 l795 cap836), (48, iv x787)]) 0 hF hS rfl (by kernel_rfl) ⟨by kernel_rfl⟩ (by kernel_rfl) (hA10 _ (hS.frz (i := 1) rfl hlow)) (fun _ _ => rfl) hl795 (fun _ _ => ⟨by kernel_rfl⟩) fun ad835 cap836 w a hF hS => ⟨⟨St.pick [] (by decide) hS, (hS.frz (i := 1) rfl hlow)⟩, ?_⟩
          refine WT.s [] [8] (by kernel_rfl) (by kernel_rfl) ?_
          refine WRun.fin ?_
          refine all_cons ?_ (all_nil)
          refine litK (e := 3) (sz := 1) (f := fI) (t := 40) (len := 1) (fun b837 => [(0, sv ad1 p0 cap2), (1, sv ad4 p1 cap5), (2, sv ad8 p2 cap9), (7, iv x786), (8, iv x787), (41, sv ad1 p0 cap2), (44, .slice (slOff ad4 cap5 x786.toNat 2) l789.length (cap5 - x786.toNat)), (47, sv ad835 l795 cap836), (49, sb b837 1)]) #[(0, iv x787)] #[iv x787] ([x787]) hF hS (by kernel_rfl) ⟨by kernel_rfl⟩ (by kernel_rfl) fI_len rfl rfl (by kernel_rfl) (fun _ => ⟨by kernel_rfl⟩) fun b837 w a hF hS => ⟨⟨St.pick [] (by decide) hS, (hS.frz (i := 2) rfl hlow)⟩, ?_⟩
          refine WT.s [] [9] (by kernel_rfl) (by kernel_rfl) ?_
          refine WRun.fin ?_
          refine all_cons ?_ (all_nil)
          refine appK (t := 40) (ty := 40) (bytes := 8) (l := l795) (l' := ([x787])) (fun ad838 cap839 => [(0, sv ad1 p0 cap2), (1, sv ad4 p1 cap5), (2, sv ad8 p2 cap9), (7, iv x786), (8, iv x787), (41, sv ad1 p0 cap2), (44, .slice (slOff ad4 cap5 x786.toNat 2) l789.length (cap5 - x786.toNat)), (50, sv ad838 l799 cap839)]) 1 hF hS rfl (by kernel_rfl) ⟨by kernel_rfl⟩ (by kernel_rfl) (hS.arr (i := 0) rfl) (fun _ _ => rfl) hl799 (fun _ _ => ⟨by kernel_rfl⟩) fun ad838 cap839 w a hF hS => ⟨⟨St.pick [] (by decide) hS, (hS.frz (i := 2) rfl hlow)⟩, ?_⟩
          refine WT.s [] [10] (by kernel_rfl) (by kernel_rfl) ?_
          refine WRun.fin ?_
          refine all_cons ?_ (all_nil)
          refine callK (f := 67) (args := #[sv ad1 p0 cap2, .slice (slOff ad4 cap5 x786.toNat 2) l789.length (cap5 - x786.toNat), sv ad838 l799 cap839]) (R := fun v w2 => v = iv y803 ∧ Ext w w2) (fun v840 => [(0, sv ad1 p0 cap2), (1, sv ad4 p1 cap5), (2, sv ad8 p2 cap9), (7, iv x786), (8, iv x787), (51, v840)]) hF (by kernel_rfl) ⟨by kernel_rfl⟩ (Calls.mono (ih p0 l789 l799 _ (by rw [← hself]; exact hy803) (memOf w) w (memOf_at w) (hA3.mono (FrzAt.le_mem (hS.frz (i := 2) rfl hlow))) (hA833.mono Rp59.mono (FrzAt.le_mem (hS.frz (i := 2) rfl hlow))) (Arr.toM (hS.arr (i := 1) rfl))) (fun e w2 h => ⟨_, h.1, rfl, h.2⟩)) (fun _ => ⟨by kernel_rfl⟩) ?_
          rintro v840 w a ⟨rfl, hx⟩ hF
          replace hS := hS.later hx
          refine ⟨⟨St.pick [] (by decide) hS, (hS.frz (i := 2) rfl hlow)⟩, ?_⟩
          refine WT.z [11] (by kernel_rfl) ?_
          refine runC (rest := []) (obs := []) [11] [(0, sv ad1 p0 cap2), (1, sv ad4 p1 cap5), (2, sv ad8 p2 cap9), (7, iv x786), (8, iv x787), (9, iv y803)] hF (by kernel_rfl) (by kernel_rfl) onil ⟨by kernel_rfl⟩ fun a hF => ?_
          refine WRun.fin ?_
          exact ⟨hF.sub (by kernel_rfl), St.pick [2] (by decide) hS⟩
         ·skip
          refine litK (e := 3) (sz := 1) (f := fI) (t := 40) (len := 1) (fun b841 => [(0, sv ad1 p0 cap2), (1, sv ad4 p1 cap5), (2, sv ad8 p2 cap9), (7, iv x786), (8, iv x787), (41, sv ad1 p0 cap2), (44, .slice (slOff ad4 cap5 x786.toNat 2) l789.length (cap5 - x786.toNat)), (45, sb b834 0), (46, sv ad8 p2 cap9), (49, sb b841 1)]) #[(0, iv x787)] #[iv x787] ([x787]) hF hS (by kernel_rfl) ⟨by kernel_rfl⟩ (by kernel_rfl) fI_len rfl rfl (by kernel_rfl) (fun _ => ⟨by kernel_rfl⟩) fun b841 w a hF hS => ⟨⟨St.pick [] (by decide) hS, (hS.frz (i := 2) rfl hlow)⟩, ?_⟩
          refine WT.s [] [6] (by kernel_rfl) (by kernel_rfl) ?_
          refine WRun.fin ?_
          refine all_cons ?_ (all_nil)
          refine appK (t := 40) (ty := 40) (bytes := 8) (l := ([] : List Int)) (l' := p2) (fun ad842 cap843 => [(0, sv ad1 p0 cap2), (1, sv ad4 p1 cap5), (2, sv ad8 p2 cap9), (7, iv x786), (8, iv x787), (41, sv ad1 p0 cap2), (44, .slice (slOff ad4 cap5 x786.toNat 2) l789.length (cap5 - x786.toNat)), (47, sv ad842 l795 cap843), (49, sb b841 1)]) 1 hF hS rfl (by kernel_rfl) ⟨by kernel_rfl⟩ (by kernel_rfl) (hA10 _ (hS.frz (i := 2) rfl hlow)) (fun _ _ => rfl) hl795 (fun _ _ => ⟨by kernel_rfl⟩) fun ad842 cap843 w a hF hS => ⟨⟨St.pick [] (by decide) hS, (hS.frz (i := 2) rfl hlow)⟩, ?_⟩
          refine WT.s [] [9] (by kernel_rfl) (by kernel_rfl) ?_
          refine WRun.fin ?_
          refine all_cons ?_ (all_nil)
          refine appK (t := 40) (ty := 40) (bytes := 8) (l := l795) (l' := ([x787])) (fun ad844 cap845 => [(0, sv ad1 p0 cap2), (1, sv ad4 p1 cap5), (2, sv ad8 p2 cap9), (7, iv x786), (8, iv x787), (41, sv ad1 p0 cap2), (44, .slice (slOff ad4 cap5 x786.toNat 2) l789.length (cap5 - x786.toNat)), (50, sv ad844 l799 cap845)]) 1 hF hS rfl (by kernel_rfl) ⟨by kernel_rfl⟩ (by kernel_rfl) (hS.arr (i := 0) rfl) (fun _ _ => rfl) hl799 (fun _ _ => ⟨by kernel_rfl⟩) fun ad844 cap845 w a hF hS => ⟨⟨St.pick [] (by decide) hS, (hS.frz (i := 2) rfl hlow)⟩, ?_⟩
          refine WT.s [] [10] (by kernel_rfl) (by kernel_rfl) ?_
          refine WRun.fin ?_
          refine all_cons ?_ (all_nil)
          refine callK (f := 67) (args := #[sv ad1 p0 cap2, .slice (slOff ad4 cap5 x786.toNat 2) l789.length (cap5 - x786.toNat), sv ad844 l799 cap845]) (R := fun v w2 => v = iv y803 ∧ Ext w w2) (fun v846 => [(0, sv ad1 p0 cap2), (1, sv ad4 p1 cap5), (2, sv ad8 p2 cap9), (7, iv x786), (8, iv x787), (51, v846)]) hF (by kernel_rfl) ⟨by kernel_rfl⟩ (Calls.mono (ih p0 l789 l799 _ (by rw [← hself]; exact hy803) (memOf w) w (memOf_at w) (hA3.mono (FrzAt.le_mem (hS.frz (i := 2) rfl hlow))) (hA833.mono Rp59.mono (FrzAt.le_mem (hS.frz (i := 2) rfl hlow))) (Arr.toM (hS.arr (i := 1) rfl))) (fun e w2 h => ⟨_, h.1, rfl, h.2⟩)) (fun _ => ⟨by kernel_rfl⟩) ?_
          rintro v846 w a ⟨rfl, hx⟩ hF
          replace hS := hS.later hx
          refine ⟨⟨St.pick [] (by decide) hS, (hS.frz (i := 2) rfl hlow)⟩, ?_⟩
          refine WT.z [11] (by kernel_rfl) ?_
          refine runC (rest := []) (obs := []) [11] [(0, sv ad1 p0 cap2), (1, sv ad4 p1 cap5), (2, sv ad8 p2 cap9), (7, iv x786), (8, iv x787), (9, iv y803)] hF (by kernel_rfl) (by kernel_rfl) onil ⟨by kernel_rfl⟩ fun a hF => ?_
          refine WRun.fin ?_
          exact ⟨hF.sub (by kernel_rfl), St.pick [2] (by decide) hS⟩
        ·skip
         refine litK (e := 3) (sz := 1) (f := fI) (t := 40) (len := 1) (fun b847 => [(0, sv ad1 p0 cap2), (1, sv ad4 p1 cap5), (2, sv ad8 p2 cap9), (7, iv x786), (8, iv x787), (41, sv ad1 p0 cap2), (44, .slice (slOff ad4 cap5 x786.toNat 2) l789.length (cap5 - x786.toNat)), (46, sv ad8 p2 cap9), (49, sb b847 1)]) #[(0, iv x787)] #[iv x787] ([x787]) hF hS (by kernel_rfl) ⟨by kernel_rfl⟩ (by kernel_rfl) fI_len rfl rfl (by kernel_rfl) (fun _ => ⟨by kernel_rfl⟩) fun b847 w a hF hS => ⟨⟨St.pick [] (by decide) hS, (hS.frz (i := 1) rfl hlow)⟩, ?_⟩
         refine WT.s [] [4] (by kernel_rfl) (by kernel_rfl) ?_
         refine WRun.fin ?_
         refine all_cons ?_ (all_nil)
         refine litK (e := 3) (sz := 1) (f := fI) (t := 40) (len := 0) (fun b848 => [(0, sv ad1 p0 cap2), (1, sv ad4 p1 cap5), (2, sv ad8 p2 cap9), (7, iv x786), (8, iv x787), (41, sv ad1 p0 cap2), (44, .slice (slOff ad4 cap5 x786.toNat 2) l789.length (cap5 - x786.toNat)), (45, sb b848 0), (46, sv ad8 p2 cap9), (49, sb b847 1)]) #[] #[] ([] : List Int) hF hS (by kernel_rfl) ⟨by kernel_rfl⟩ (by kernel_rfl) fI_len rfl rfl (by kernel_rfl) (fun _ => ⟨by kernel_rfl⟩) fun b848 w a hF hS => ⟨⟨St.pick [] (by decide) hS, (hS.frz (i := 2) rfl hlow)⟩, ?_⟩
         refine WT.s [] [6] (by kernel_rfl) (by kernel_rfl) ?_
         refine WRun.fin ?_
         refine all_cons ?_ (all_nil)
         refine appK (t := 40) (ty := 40) (bytes := 8) (l := ([] : List Int)) (l' := p2) (fun ad849 cap850 => [(0, sv ad1 p0 cap2), (1, sv ad4 p1 cap5), (2, sv ad8 p2 cap9), (7, iv x786), (8, iv x787), (41, sv ad1 p0 cap2), (44, .slice (slOff ad4 cap5 x786.toNat 2) l789.length (cap5 - x786.toNat)), (47, sv ad849 l795 cap850), (49, sb b847 1)]) 0 hF hS rfl (by kernel_rfl) ⟨by kernel_rfl⟩ (by kernel_rfl) (hA10 _ (hS.frz (i := 2) rfl hlow)) (fun _ _ => rfl) hl795 (fun _ _ => ⟨by kernel_rfl⟩) fun ad849 cap850 w a hF hS => ⟨⟨St.pick [] (by decide) hS, (hS.frz (i := 2) rfl hlow)⟩, ?_⟩
         refine WT.s [] [9] (by kernel_rfl) (by kernel_rfl) ?_
         refine WRun.fin ?_
         refine all_cons ?_ (all_nil)
         refine appK (t := 40) (ty := 40) (bytes := 8) (l := l795) (l' := ([x787])) (fun ad851 cap852 => [(0, sv ad1 p0 cap2), (1, sv ad4 p1 cap5), (2, sv ad8 p2 cap9), (7, iv x786), (8, iv x787), (41, sv ad1 p0 cap2), (44, .slice (slOff ad4 cap5 x786.toNat 2) l789.length (cap5 - x786.toNat)), (50, sv ad851 l799 cap852)]) 0 hF hS rfl (by kernel_rfl) ⟨by kernel_rfl⟩ (by kernel_rfl) (hS.arr (i := 1) rfl) (fun _ _ => rfl) hl799 (fun _ _ => ⟨by kernel_rfl⟩) fun ad851 cap852 w a hF hS => ⟨⟨St.pick [] (by decide) hS, (hS.frz (i := 2) rfl hlow)⟩, ?_⟩
         refine WT.s [] [10] (by kernel_rfl) (by kernel_rfl) ?_
         refine WRun.fin ?_
         refine all_cons ?_ (all_nil)
         refine callK (f := 67) (args := #[sv ad1 p0 cap2, .slice (slOff ad4 cap5 x786.toNat 2) l789.length (cap5 - x786.toNat), sv ad851 l799 cap852]) (R := fun v w2 => v = iv y803 ∧ Ext w w2) (fun v853 => [(0, sv ad1 p0 cap2), (1, sv ad4 p1 cap5), (2, sv ad8 p2 cap9), (7, iv x786), (8, iv x787), (51, v853)]) hF (by kernel_rfl) ⟨by kernel_rfl⟩ (Calls.mono (ih p0 l789 l799 _ (by rw [← hself]; exact hy803) (memOf w) w (memOf_at w) (hA3.mono (FrzAt.le_mem (hS.frz (i := 2) rfl hlow))) (hA833.mono Rp59.mono (FrzAt.le_mem (hS.frz (i := 2) rfl hlow))) (Arr.toM (hS.arr (i := 0) rfl))) (fun e w2 h => ⟨_, h.1, rfl, h.2⟩)) (fun _ => ⟨by kernel_rfl⟩) ?_
         rintro v853 w a ⟨rfl, hx⟩ hF
         replace hS := hS.later hx
         refine ⟨⟨St.pick [] (by decide) hS, (hS.frz (i := 2) rfl hlow)⟩, ?_⟩
         refine WT.z [11] (by kernel_rfl) ?_
         refine runC (rest := []) (obs := []) [11] [(0, sv ad1 p0 cap2), (1, sv ad4 p1 cap5), (2, sv ad8 p2 cap9), (7, iv x786), (8, iv x787), (9, iv y803)] hF (by kernel_rfl) (by kernel_rfl) onil ⟨by kernel_rfl⟩ fun a hF => ?_
         refine WRun.fin ?_
         exact ⟨hF.sub (by kernel_rfl), St.pick [2] (by decide) hS⟩
       rintro a w ⟨hF, hS⟩
       refine wfn rfl ?_
       refine eseq ?_
       refine esr ?_
       refine rn 2 2 [(0, sv ad1 p0 cap2), (1, sv ad4 p1 cap5), (2, sv ad8 p2 cap9), (7, iv x786), (8, iv x787), (9, iv y803), (53, .bool (decide (y803 < 0)))] hF fun a hF => ?_
       refine wfn rfl ?_
       refine econd hF rfl (fun hc => ?_) (fun hc => ?_)
       ·replace h := bif_t h hc
        refine esr ?_
        refine rn 1 1 [(6, iv (-1))] hF fun a hF => ?_
        refine wfn rfl ?_
        refine wpIn_ret (ret_then <| ret_block <| ret_then <| ret_then <| ret_block <| ret_then <| fn_ret [.tmp 6] [iv (-1)] hF rfl ⟨rfl, trivial⟩ ?_)
        have hr_ := Option.some.inj h
        subst hr_
        exact ⟨rfl, hS.ext⟩
       ·replace h := bif_f h hc
        refine wpIn_skip (norm_then ?_)
        refine WI.region ?_
        replace h := bindS h
        obtain ⟨x854, hx854, h⟩ := h
        refine rno 4 [.run [] (binOp .add 3 (iv x786) (iv y803)) (iv x854)] 4 [(0, sv ad1 p0 cap2), (1, sv ad4 p1 cap5), (2, sv ad8 p2 cap9), (7, iv x854), (8, iv x787)] hF (ocons (obAddC (fun _ => hx854)) onil) fun a hF => ?_
        refine WI.fin rfl (norm_block <| norm_then <| ?_)
        refine WI.region ?_
        replace h := bindS h
        obtain ⟨x855, hx855, h⟩ := h
        refine rno 3 [.run [] (binOp .add 3 (iv x787) (iv 1)) (iv x855)] 3 [(0, sv ad1 p0 cap2), (1, sv ad4 p1 cap5), (2, sv ad8 p2 cap9), (7, iv x854), (8, iv x855)] hF (ocons (obAddC (fun _ => hx855)) onil) fun a hF => ?_
        refine wfn rfl ?_
        rw [hk4] at h
        exact ⟨n_, Nat.lt_succ_self _, x854, x855, hF.sub (by kernel_rfl), St.pick [0] (by decide) hS, h⟩
      ·replace h := bif_f h hc
       refine wpIn_exit (exit_then <| exit_then <| exit_hit <| norm_then ?_)
       exact ⟨x786, hF.sub (by kernel_rfl), St.pick [0] (by decide) hS, h⟩
     rintro a w ⟨x648, hF, hS, h⟩
     rw [ref06_covered_K3] at h
     refine esr ?_
     refine rn 2 2 [(6, iv x648)] hF fun a hF => ?_
     refine wfn rfl ?_
     refine wpIn_ret (fn_ret [.tmp 6] [iv x648] hF rfl ⟨rfl, trivial⟩ ?_)
     have hr_ := Option.some.inj h
     subst hr_
     exact ⟨rfl, hS.ext⟩
end Go.Proofs.Ytejffembnkojjaa
