/- Walks, written by program (wip/gen/dec.py). -/
import Derived.Test.YtejffembnkojjaaC7XD
import Derived.Test.YtejffembnkojjaaProg
import Derived.Test.YtejffembnkojjaaC7XW0
import Derived.Test.YtejffembnkojjaaC7XW3
import Derived.Test.YtejffembnkojjaaC7XW6
import Derived.Test.YtejffembnkojjaaC7XW9
namespace Go.Proofs.Ytejffembnkojjaa
open Go Go.RowKit Go.Eng
set_option maxRecDepth 10000
set_option maxHeartbeats 4000000
set_option linter.unusedVariables false
set_option linter.unusedSimpArgs false
theorem ref06_Insert_ok (F : Nat) (p0 : ref06_Radar) (p1 : (List ref06_Job)) (p2 : (List Int)) (p3 : ref06_Job) (p4 : Int) (res : (Int × Int)) (h : ref06_Insert F p0 p1 p2 p3 p4 = some res) (μ : Frz) (w0 : World) (hm : FrzAt μ w0) {ad1 : Option Addr} {cap2 : Nat} {ad4 : Option Addr} {cap5 : Nat} (hA3 : ArrM μ 8 ref06_Job.cells ad1 cap2 p1) (hA6 : ArrM μ 1 fI ad4 cap5 p2) : Calls Try.prog 35 #[p0.ag, sv ad1 p1 cap2, sv ad4 p2 cap5, p3.ag, iv p4] w0 (fun e w => e = .returned (.tuple #[iv res.1, iv res.2]) ∧ Ext w0 w) := by
 obtain ⟨hlow, hS⟩ := hm.init
 have hext := Frz.ext_refl w0.heap.size μ
 rw [ref06_Insert] at h
 refine fn_enterW Try.func35 rfl 153 [(0, p0.ag), (1, sv ad1 p1 cap2), (2, sv ad4 p2 cap5), (3, p3.ag), (4, iv p4)] rfl rfl (by kernel_rfl) fun a w hw hF => ?_
 replace hS : St w0 [fz w0 μ] w := by rw [hw]; exact hS
 clear hw
 refine esr ?_
 refine SK.wi (boxK (t := 23) (fun b7 => [(1, sv ad1 p1 cap2), (2, sv ad4 p2 cap5), (3, p3.ag), (4, iv p4), (5, pb b7)]) (p0.ag) p0.ar hF hS (by kernel_rfl) ⟨by kernel_rfl⟩ (by kernel_rfl) (fun _ => ⟨by kernel_rfl⟩) fun b7 w a hF hS => ?_)
 refine SK.wi (boxK (t := 27) (fun b8 => [(1, sv ad1 p1 cap2), (2, sv ad4 p2 cap5), (4, iv p4), (5, pb b7), (8, pb b8)]) (p3.ag) p3.ar hF hS (by kernel_rfl) ⟨by kernel_rfl⟩ (by kernel_rfl) (fun _ => ⟨by kernel_rfl⟩) fun b8 w a hF hS => ?_)
 refine rn 2 4 [(1, sv ad1 p1 cap2), (2, sv ad4 p2 cap5), (4, iv p4), (5, pb b7), (8, pb b8)] hF fun a hF => ?_
 refine wfn rfl ?_
 refine esr ?_
 refine rno 3 [.run [] (Instr.loadAt 23 (pb b7)) (p0.ag)] 3 [(1, sv ad1 p1 cap2), (2, sv ad4 p2 cap5), (4, iv p4), (5, pb b7), (8, pb b8), (26, p0.ag), (27, sv ad1 p1 cap2), (28, sv ad4 p2 cap5)] hF (ocons (obN (us := p0.cells) (by kernel_rfl) (fun _ hd => ((hS.at_ hd).blk (i := 1) rfl).cells rfl)) onil) fun a hF => ?_
 replace h := bindS h
 obtain ⟨y10, hy10, h⟩ := h
 refine SK.wi (callK (f := 20) (args := #[p0.ag, sv ad1 p1 cap2, sv ad4 p2 cap5]) (R := fun v w2 => ∃ ad11 cap12, v = .tuple #[sv ad11 y10.1 cap12, iv y10.2] ∧ St w [arr 3 1 fI ad11 y10.1.length cap12 y10.1] w2) (fun v9 => [(1, sv ad1 p1 cap2), (2, sv ad4 p2 cap5), (4, iv p4), (5, pb b7), (8, pb b8), (29, v9)]) hF (by kernel_rfl) ⟨by kernel_rfl⟩ (Calls.mono (ref06_Judge_ok F p0 p1 p2 _ hy10 (memOf w) w (memOf_at w) (hA3.mono (FrzAt.le_mem (hS.frz (i := 2) rfl hlow))) (hA6.mono (FrzAt.le_mem (hS.frz (i := 2) rfl hlow)))) (by rintro e w2 ⟨ad11, cap12, rfl, h⟩; exact ⟨_, rfl, ad11, cap12, rfl, h⟩)) (fun _ => ⟨by kernel_rfl⟩) ?_)
 rintro v9 w a ⟨ad11, cap12, rfl, hQ⟩ hF
 replace hS : St w0 [arr 3 1 fI ad11 y10.1.length cap12 y10.1, blk b8 27 p3.ar, blk b7 23 p0.ar, fz w0 μ] w := hS.madeL hQ
 refine rn 5 9 [(1, sv ad1 p1 cap2), (2, sv ad4 p2 cap5), (4, iv p4), (5, pb b7), (8, pb b8), (13, iv y10.2)] hF fun a hF => ?_
 refine wfn rfl ?_
 refine eseq ?_
 refine esr ?_
 refine rn 2 2 [(1, sv ad1 p1 cap2), (2, sv ad4 p2 cap5), (4, iv p4), (5, pb b7), (8, pb b8), (13, iv y10.2), (33, .bool (y10.2 != 0))] hF fun a hF => ?_
 refine wfn rfl ?_
 refine econd hF rfl (fun hc => ?_) (fun hc => ?_)
 ·replace h := bif_t h hc
  refine esr ?_
  refine rn 3 3 [(10, iv 0), (11, iv y10.2)] hF fun a hF => ?_
  refine wfn rfl ?_
  refine wpIn_ret (ret_then <| fn_ret [.tmp 10, .tmp 11] [iv 0, iv y10.2] hF rfl ⟨rfl, rfl, trivial⟩ ?_)
  have hr_ := Option.some.inj h
  subst hr_
  exact ⟨rfl, hS.ext⟩
 ·replace h := bif_f h hc
  refine wpIn_skip (norm_then ?_)
  refine esr ?_
  refine rno 2 [.run [] (Instr.loadAt 23 (pb b7)) (p0.ag), .run [] (Instr.loadAt 27 (pb b8)) (p3.ag)] 2 [(1, sv ad1 p1 cap2), (2, sv ad4 p2 cap5), (4, iv p4), (5, pb b7), (8, pb b8), (13, iv y10.2), (35, p0.ag), (36, p3.ag)] hF (ocons (obN (us := p0.cells) (by kernel_rfl) (fun _ hd => ((hS.at_ hd).blk (i := 2) rfl).cells rfl)) (ocons (obN (us := p3.cells) (by kernel_rfl) (fun _ hd => ((hS.at_ hd).blk (i := 1) rfl).cells rfl)) onil)) fun a hF => ?_
  refine SK.wi (litK (e := 27) (sz := 8) (f := ref06_Job.cells) (t := 39) (len := 1) (fun b13 => [(1, sv ad1 p1 cap2), (2, sv ad4 p2 cap5), (4, iv p4), (5, pb b7), (8, pb b8), (13, iv y10.2), (35, p0.ag), (37, sb b13 1)]) #[(0, p3.ag)] p3.ar ([p3]) hF hS (by kernel_rfl) ⟨by kernel_rfl⟩ (by kernel_rfl) ref06_Job.cells_len rfl rfl (by kernel_rfl) (fun _ => ⟨by kernel_rfl⟩) fun b13 w a hF hS => ?_)
  replace h := bindS h
  obtain ⟨y14, hy14, h⟩ := h
  refine rx 2 [.call [] 23 #[p0.ag, sb b13 1] (iv y14)] 5 [(1, sv ad1 p1 cap2), (2, sv ad4 p2 cap5), (4, iv p4), (5, pb b7), (8, pb b8), (13, iv y14)] hF (ocons (show Ob.ok _ Ext _ _ from fun hk w2 hd => ref06_Check_ok F p0 ([p3]) _ ((fun _ => hy14) hk) _ w2 (memOf_at w2) (Arr.toM ((hS.later hd).arr (i := 0) rfl))) onil) fun a w hF hx => ?_
  replace hS := hS.later hx
  refine wfn rfl ?_
  refine eseq ?_
  refine esr ?_
  refine rn 2 2 [(1, sv ad1 p1 cap2), (2, sv ad4 p2 cap5), (4, iv p4), (5, pb b7), (8, pb b8), (13, iv y14), (40, .bool (y14 != 0))] hF fun a hF => ?_
  refine wfn rfl ?_
  refine econd hF rfl (fun hc => ?_) (fun hc => ?_)
  ·replace h := bif_t h hc
   refine esr ?_
   refine rn 3 3 [(10, iv 0), (11, iv y14)] hF fun a hF => ?_
   refine wfn rfl ?_
   refine wpIn_ret (ret_then <| fn_ret [.tmp 10, .tmp 11] [iv 0, iv y14] hF rfl ⟨rfl, rfl, trivial⟩ ?_)
   have hr_ := Option.some.inj h
   subst hr_
   exact ⟨rfl, hS.ext⟩
  ·replace h := bif_f h hc
   refine wpIn_skip (norm_then ?_)
   refine eseq ?_
   refine esr ?_
   replace h := bindS h
   obtain ⟨y15, hy15, h⟩ := h
   refine rx 5 [.run [] (Instr.loadAt 23 (pb b7)) (p0.ag), .call [] 60 #[p0.ag, sv ad1 p1 cap2, sv ad4 p2 cap5] (.bool y15)] 5 [(1, sv ad1 p1 cap2), (2, sv ad4 p2 cap5), (4, iv p4), (5, pb b7), (8, pb b8), (46, .bool (!y15))] hF (ocons (obN (us := p0.cells) (by kernel_rfl) (fun _ hd => ((hS.later hd).blk (i := 3) rfl).cells rfl)) (ocons (show Ob.ok _ Ext _ _ from fun hk w2 hd => ref06_kept_ok F p0 p1 p2 _ ((fun _ => hy15) hk) _ w2 (memOf_at w2) (hA3.mono (FrzAt.le_mem ((hS.later hd).frz (i := 4) rfl hlow))) (hA6.mono (FrzAt.le_mem ((hS.later hd).frz (i := 4) rfl hlow)))) onil)) fun a w hF hx => ?_
   replace hS := hS.later hx
   refine wfn rfl ?_
   refine econd hF rfl (fun hc => ?_) (fun hc => ?_)
   ·replace h := bif_t h hc
    refine esr ?_
    refine rn 2 2 [(10, iv 0), (11, iv 6)] hF fun a hF => ?_
    refine wfn rfl ?_
    refine wpIn_ret (ret_then <| fn_ret [.tmp 10, .tmp 11] [iv 0, iv 6] hF rfl ⟨rfl, rfl, trivial⟩ ?_)
    have hr_ := Option.some.inj h
    subst hr_
    exact ⟨rfl, hS.ext⟩
   ·replace h := bif_f h hc
    refine wpIn_skip (norm_then ?_)
    refine eseq ?_
    refine esr ?_
    refine rx 3 [.call [] 48 #[iv p4, iv 0, iv 4294967296] (.bool (ref01_In p4 0 4294967296))] 3 [(1, sv ad1 p1 cap2), (2, sv ad4 p2 cap5), (4, iv p4), (5, pb b7), (8, pb b8), (49, .bool (!(ref01_In p4 0 4294967296)))] hF (ocons (show Ob.ok _ Ext _ _ from fun hk w2 hd => ref01_In_ok p4 0 4294967296 _ rfl _ w2 (memOf_at w2) ) onil) fun a w hF hx => ?_
    replace hS := hS.later hx
    refine wfn rfl ?_
    refine econd hF rfl (fun hc => ?_) (fun hc => ?_)
    ·replace h := bif_t h hc
     refine esr ?_
     refine rn 2 2 [(10, iv 0), (11, iv 3)] hF fun a hF => ?_
     refine wfn rfl ?_
     refine wpIn_ret (ret_then <| fn_ret [.tmp 10, .tmp 11] [iv 0, iv 3] hF rfl ⟨rfl, rfl, trivial⟩ ?_)
     have hr_ := Option.some.inj h
     subst hr_
     exact ⟨rfl, hS.ext⟩
    ·replace h := bif_f h hc
     refine wpIn_skip (norm_then ?_)
     refine esr ?_
     refine rn 3 3 [(1, sv ad1 p1 cap2), (2, sv ad4 p2 cap5), (4, iv p4), (5, pb b7), (8, pb b8), (14, iv (ln p2))] hF fun a hF => ?_
     refine wfn rfl ?_
     refine eseq ?_
     replace h := bindS h
     obtain ⟨l17, hl17, h⟩ := h
     refine region_treeW 5 [0, 2, 4] (fun a w => ∃ (ad33 : Option Addr) (cap34 : Nat) (ad35 : Option Addr) (cap36 : Nat), Fr 153 [] [(1, sv ad1 p1 cap2), (2, sv ad4 p2 cap5), (4, iv p4), (5, pb b7), (8, pb b8), (14, iv (ln p2)), (54, sv ad33 l17 cap34), (56, .slice ad35 1 cap36)] a ∧ St w0 [arr 27 8 ref06_Job.cells ad33 l17.length cap34 l17, arr 27 8 ref06_Job.cells ad35 ([p3]).length cap36 ([p3]), arr 27 8 ref06_Job.cells (some ⟨b13, 0, none⟩) ([p3]).length 1 ([p3]), arr 3 1 fI ad11 y10.1.length cap12 y10.1, blk b8 27 p3.ar, blk b7 23 p0.ar, fz w0 μ] w) (D := fun w => St w0 [arr 27 8 ref06_Job.cells (some ⟨b13, 0, none⟩) ([p3]).length 1 ([p3]), arr 3 1 fI ad11 y10.1.length cap12 y10.1, blk b8 27 p3.ar, blk b7 23 p0.ar] w ∧ FrzAt μ w) (by kernel_rfl) (by kernel_rfl) hF.size (fun w hx => ?_) ?_
     ·skip
      replace hS := hS.later hx
      refine ⟨⟨St.pick [0, 1, 2, 3] (by decide) hS, hS.frz (i := 4) rfl hlow⟩, ?_⟩
      have hcl37 := Frz.le_refl μ
      refine WT.s [1, 3] [0, 4] (by kernel_rfl) (by kernel_rfl) ?_
      refine runC (rest := []) (obs := [.run [] (Instr.loadAt 27 (pb b8)) (p3.ag)]) [1, 3] [(1, sv ad1 p1 cap2), (2, sv ad4 p2 cap5), (4, iv p4), (5, pb b7), (8, pb b8), (14, iv (ln p2)), (53, sv ad1 p1 cap2), (55, p3.ag)] hF (by kernel_rfl) (by kernel_rfl) (ocons (obN (us := p3.cells) (by kernel_rfl) (fun _ hd => (hd.1.blk (i := 2) rfl).cells rfl)) onil) ⟨by kernel_rfl⟩ fun a hF => ?_
      refine WRun.fin ?_
      refine all_cons ?_ (all_cons ?_ (all_nil))
      ·skip
       refine litK (e := 27) (sz := 8) (f := ref06_Job.cells) (t := 39) (len := 0) (fun b38 => [(1, sv ad1 p1 cap2), (2, sv ad4 p2 cap5), (4, iv p4), (5, pb b7), (8, pb b8), (14, iv (ln p2)), (52, sb b38 0), (53, sv ad1 p1 cap2), (55, p3.ag)]) #[] #[] ([] : List ref06_Job) hF hS (by kernel_rfl) ⟨by kernel_rfl⟩ (by kernel_rfl) ref06_Job.cells_len rfl rfl (by kernel_rfl) (fun _ => ⟨by kernel_rfl⟩) fun b38 w a hF hS => ⟨⟨St.pick [1, 2, 3, 4] (by decide) hS, (hS.frz (i := 5) rfl hlow)⟩, ?_⟩
       refine WT.s [] [2, 4] (by kernel_rfl) (by kernel_rfl) ?_
       refine WRun.fin ?_
       refine all_cons ?_ (all_cons ?_ (all_nil))
       ·skip
        refine appK (t := 39) (ty := 39) (bytes := 64) (l := ([] : List ref06_Job)) (l' := p1) (fun ad39 cap40 => [(1, sv ad1 p1 cap2), (2, sv ad4 p2 cap5), (4, iv p4), (5, pb b7), (8, pb b8), (14, iv (ln p2)), (54, sv ad39 l17 cap40), (55, p3.ag)]) 0 hF hS rfl (by kernel_rfl) ⟨by kernel_rfl⟩ (by kernel_rfl) (hA3 _ (hS.frz (i := 5) rfl hlow)) (fun _ _ => rfl) hl17 (fun _ _ => ⟨by kernel_rfl⟩) fun ad39 cap40 w a hF hS => ⟨⟨St.pick [1, 2, 3, 4] (by decide) hS, (hS.frz (i := 5) rfl hlow)⟩, ?_⟩
        refine WT.s [] [4] (by kernel_rfl) (by kernel_rfl) ?_
        refine WRun.fin ?_
        refine all_cons ?_ (all_nil)
        refine litK (e := 27) (sz := 8) (f := ref06_Job.cells) (t := 39) (len := 1) (fun b41 => [(1, sv ad1 p1 cap2), (2, sv ad4 p2 cap5), (4, iv p4), (5, pb b7), (8, pb b8), (14, iv (ln p2)), (54, sv ad39 l17 cap40), (56, sb b41 1)]) #[(0, p3.ag)] p3.ar ([p3]) hF hS (by kernel_rfl) ⟨by kernel_rfl⟩ (by kernel_rfl) ref06_Job.cells_len rfl rfl (by kernel_rfl) (fun _ => ⟨by kernel_rfl⟩) fun b41 w a hF hS => ⟨⟨St.pick [2, 3, 4, 5] (by decide) hS, (hS.frz (i := 6) rfl hlow)⟩, ?_⟩
        refine WT.z [] (by kernel_rfl) ?_
        refine WRun.fin ?_
        exact ⟨ad39, cap40, (some ⟨b41, 0, none⟩), 1, hF.sub (by kernel_rfl), St.pick [1, 0, 2, 3, 4, 5, 6] (by decide) hS⟩
       ·skip
        refine litK (e := 27) (sz := 8) (f := ref06_Job.cells) (t := 39) (len := 1) (fun b42 => [(1, sv ad1 p1 cap2), (2, sv ad4 p2 cap5), (4, iv p4), (5, pb b7), (8, pb b8), (14, iv (ln p2)), (52, sb b38 0), (53, sv ad1 p1 cap2), (56, sb b42 1)]) #[(0, p3.ag)] p3.ar ([p3]) hF hS (by kernel_rfl) ⟨by kernel_rfl⟩ (by kernel_rfl) ref06_Job.cells_len rfl rfl (by kernel_rfl) (fun _ => ⟨by kernel_rfl⟩) fun b42 w a hF hS => ⟨⟨St.pick [2, 3, 4, 5] (by decide) hS, (hS.frz (i := 6) rfl hlow)⟩, ?_⟩
        refine WT.s [] [2] (by kernel_rfl) (by kernel_rfl) ?_
        refine WRun.fin ?_
        refine all_cons ?_ (all_nil)
        refine appK (t := 39) (ty := 39) (bytes := 64) (l := ([] : List ref06_Job)) (l' := p1) (fun ad43 cap44 => [(1, sv ad1 p1 cap2), (2, sv ad4 p2 cap5), (4, iv p4), (5, pb b7), (8, pb b8), (14, iv (ln p2)), (54, sv ad43 l17 cap44), (56, sb b42 1)]) 1 hF hS rfl (by kernel_rfl) ⟨by kernel_rfl⟩ (by kernel_rfl) (hA3 _ (hS.frz (i := 6) rfl hlow)) (fun _ _ => rfl) hl17 (fun _ _ => ⟨by kernel_rfl⟩) fun ad43 cap44 w a hF hS => ⟨⟨St.pick [2, 3, 4, 5] (by decide) hS, (hS.frz (i := 6) rfl hlow)⟩, ?_⟩
        refine WT.z [] (by kernel_rfl) ?_
        refine WRun.fin ?_
        exact ⟨ad43, cap44, (some ⟨b42, 0, none⟩), 1, hF.sub (by kernel_rfl), St.pick [1, 0, 2, 3, 4, 5, 6] (by decide) hS⟩
      ·skip
       refine litK (e := 27) (sz := 8) (f := ref06_Job.cells) (t := 39) (len := 1) (fun b45 => [(1, sv ad1 p1 cap2), (2, sv ad4 p2 cap5), (4, iv p4), (5, pb b7), (8, pb b8), (14, iv (ln p2)), (53, sv ad1 p1 cap2), (56, sb b45 1)]) #[(0, p3.ag)] p3.ar ([p3]) hF hS (by kernel_rfl) ⟨by kernel_rfl⟩ (by kernel_rfl) ref06_Job.cells_len rfl rfl (by kernel_rfl) (fun _ => ⟨by kernel_rfl⟩) fun b45 w a hF hS => ⟨⟨St.pick [1, 2, 3, 4] (by decide) hS, (hS.frz (i := 5) rfl hlow)⟩, ?_⟩
       refine WT.s [] [0] (by kernel_rfl) (by kernel_rfl) ?_
       refine WRun.fin ?_
       refine all_cons ?_ (all_nil)
       refine litK (e := 27) (sz := 8) (f := ref06_Job.cells) (t := 39) (len := 0) (fun b46 => [(1, sv ad1 p1 cap2), (2, sv ad4 p2 cap5), (4, iv p4), (5, pb b7), (8, pb b8), (14, iv (ln p2)), (52, sb b46 0), (53, sv ad1 p1 cap2), (56, sb b45 1)]) #[] #[] ([] : List ref06_Job) hF hS (by kernel_rfl) ⟨by kernel_rfl⟩ (by kernel_rfl) ref06_Job.cells_len rfl rfl (by kernel_rfl) (fun _ => ⟨by kernel_rfl⟩) fun b46 w a hF hS => ⟨⟨St.pick [2, 3, 4, 5] (by decide) hS, (hS.frz (i := 6) rfl hlow)⟩, ?_⟩
       refine WT.s [] [2] (by kernel_rfl) (by kernel_rfl) ?_
       refine WRun.fin ?_
       refine all_cons ?_ (all_nil)
       refine appK (t := 39) (ty := 39) (bytes := 64) (l := ([] : List ref06_Job)) (l' := p1) (fun ad47 cap48 => [(1, sv ad1 p1 cap2), (2, sv ad4 p2 cap5), (4, iv p4), (5, pb b7), (8, pb b8), (14, iv (ln p2)), (54, sv ad47 l17 cap48), (56, sb b45 1)]) 0 hF hS rfl (by kernel_rfl) ⟨by kernel_rfl⟩ (by kernel_rfl) (hA3 _ (hS.frz (i := 6) rfl hlow)) (fun _ _ => rfl) hl17 (fun _ _ => ⟨by kernel_rfl⟩) fun ad47 cap48 w a hF hS => ⟨⟨St.pick [2, 3, 4, 5] (by decide) hS, (hS.frz (i := 6) rfl hlow)⟩, ?_⟩
       refine WT.z [] (by kernel_rfl) ?_
       refine WRun.fin ?_
       exact ⟨ad47, cap48, (some ⟨b45, 0, none⟩), 1, hF.sub (by kernel_rfl), St.pick [0, 1, 2, 3, 4, 5, 6] (by decide) hS⟩
     rintro a w ⟨ad33, cap34, ad35, cap36, hF, hS⟩
     replace h := bindS h
     obtain ⟨l49, hl49, h⟩ := h
     refine SK.wi (appK (t := 39) (ty := 39) (bytes := 64) (l := l17) (l' := ([p3])) (fun ad50 cap51 => [(1, sv ad1 p1 cap2), (2, sv ad4 p2 cap5), (4, iv p4), (5, pb b7), (8, pb b8), (14, iv (ln p2)), (57, sv ad50 l49 cap51)]) 0 hF hS rfl (by kernel_rfl) ⟨by kernel_rfl⟩ (by kernel_rfl) (hS.arr (i := 1) rfl) (fun _ _ => rfl) hl49 (fun _ _ => ⟨by kernel_rfl⟩) fun ad50 cap51 w a hF hS => ?_)
     refine rn 1 7 [(1, sv ad1 p1 cap2), (2, sv ad4 p2 cap5), (4, iv p4), (5, pb b7), (8, pb b8), (14, iv (ln p2)), (15, sv ad50 l49 cap51)] hF fun a hF => ?_
     refine wfn rfl ?_
     refine ecut (fun a w => Fr 153 [] [] a ∧ St w0 [arr 27 8 ref06_Job.cells ad50 l49.length cap51 l49, arr 27 8 ref06_Job.cells ad35 ([p3]).length cap36 ([p3]), arr 27 8 ref06_Job.cells (some ⟨b13, 0, none⟩) ([p3]).length 1 ([p3]), arr 3 1 fI ad11 y10.1.length cap12 y10.1, blk b8 27 p3.ar, blk b7 23 p0.ar, fz w0 μ] w ∧ ref06_Insert_K1 = some res) ?_ ?_
     ·skip
      refine esr ?_
      refine rn 1 1 [(1, sv ad1 p1 cap2), (2, sv ad4 p2 cap5), (4, iv p4), (5, pb b7), (8, pb b8), (14, iv (ln p2)), (15, sv ad50 l49 cap51), (16, iv 0)] hF fun a hF => ?_
      refine wfn rfl ?_
      refine wpIn_block ?_
      refine eloop (fun n_ a w => ∃ (x8237 : Int), Fr 153 [] [(1, sv ad1 p1 cap2), (2, sv ad4 p2 cap5), (4, iv p4), (5, pb b7), (8, pb b8), (14, iv (ln p2)), (15, sv ad50 l49 cap51), (16, iv x8237)] a ∧ St w0 [arr 27 8 ref06_Job.cells ad50 l49.length cap51 l49, arr 27 8 ref06_Job.cells ad35 ([p3]).length cap36 ([p3]), arr 27 8 ref06_Job.cells (some ⟨b13, 0, none⟩) ([p3]).length 1 ([p3]), arr 3 1 fI ad11 y10.1.length cap12 y10.1, blk b8 27 p3.ar, blk b7 23 p0.ar, fz w0 μ] w ∧ ref06_Insert_L2 F p0 p1 p2 p3 p4 l49 n_ x8237 = some res) F ⟨0, hF.sub (by kernel_rfl), St.pick [0, 1, 2, 3, 4, 5, 6] (by decide) hS, h⟩ ?_
      rintro n_ a w ⟨x8237, hF, hS, h⟩
      rcases n_ with _ | n_
      ·cases (show (none : Option (Int × Int)) = some res from h)
      obtain ⟨k2, hk2⟩ : ∃ k, k = ref06_Insert_L2 F p0 p1 p2 p3 p4 l49 n_ := ⟨_, rfl⟩
      replace h : ref06_Insert_B2 F p0 p1 p2 p3 p4 l49 k2 x8237 = some res := by rw [hk2]; exact h
      rw [ref06_Insert_B2] at h
      refine eseq ?_
      refine esr ?_
      refine rn 3 3 [(1, sv ad1 p1 cap2), (2, sv ad4 p2 cap5), (4, iv p4), (5, pb b7), (8, pb b8), (14, iv (ln p2)), (15, sv ad50 l49 cap51), (16, iv x8237), (60, .bool (decide (x8237 < (ln p2))))] hF fun a hF => ?_
      refine wfn rfl ?_
      refine econd hF rfl (fun hc => ?_) (fun hc => ?_)
      ·replace h := bif_t h hc
       refine wpIn_skip (norm_then ?_)
       refine ecut (fun a w => Fr 153 [] [(1, sv ad1 p1 cap2), (2, sv ad4 p2 cap5), (4, iv p4), (5, pb b7), (8, pb b8), (14, iv (ln p2)), (15, sv ad50 l49 cap51), (16, iv x8237)] a ∧ St w0 [arr 27 8 ref06_Job.cells ad50 l49.length cap51 l49, arr 27 8 ref06_Job.cells ad35 ([p3]).length cap36 ([p3]), arr 27 8 ref06_Job.cells (some ⟨b13, 0, none⟩) ([p3]).length 1 ([p3]), arr 3 1 fI ad11 y10.1.length cap12 y10.1, blk b8 27 p3.ar, blk b7 23 p0.ar, fz w0 μ] w ∧ ref06_Insert_K3 x8237 k2 = some res) ?_ ?_
       ·skip
        refine wpIn_block ?_
        refine esr ?_
        refine rn 1 1 [(1, sv ad1 p1 cap2), (2, sv ad4 p2 cap5), (4, iv p4), (5, pb b7), (8, pb b8), (14, iv (ln p2)), (15, sv ad50 l49 cap51), (16, iv x8237), (17, .slice none 0 0)] hF fun a hF => ?_
        refine wfn rfl ?_
        refine ecut (fun a w => ∃ (l9153 : (List Int)) (ad9151 : Option Addr) (cap9152 : Nat), Fr 153 [] [(1, sv ad1 p1 cap2), (2, sv ad4 p2 cap5), (4, iv p4), (5, pb b7), (8, pb b8), (14, iv (ln p2)), (15, sv ad50 l49 cap51), (16, iv x8237), (17, sv ad9151 l9153 cap9152)] a ∧ St w0 [arr 3 1 fI ad9151 l9153.length cap9152 l9153, arr 27 8 ref06_Job.cells ad50 l49.length cap51 l49, arr 27 8 ref06_Job.cells ad35 ([p3]).length cap36 ([p3]), arr 27 8 ref06_Job.cells (some ⟨b13, 0, none⟩) ([p3]).length 1 ([p3]), arr 3 1 fI ad11 y10.1.length cap12 y10.1, blk b8 27 p3.ar, blk b7 23 p0.ar, fz w0 μ] w ∧ ref06_Insert_K4 F p0 p1 p2 p3 p4 l49 x8237 k2 l9153 = some res) ?_ ?_
        ·skip
         refine esr ?_
         refine rn 1 1 [(1, sv ad1 p1 cap2), (2, sv ad4 p2 cap5), (4, iv p4), (5, pb b7), (8, pb b8), (14, iv (ln p2)), (15, sv ad50 l49 cap51), (16, iv x8237), (17, .slice none 0 0), (18, iv 0)] hF fun a hF => ?_
         refine wfn rfl ?_
         refine wpIn_block ?_
         replace hS := hS.nilarr 3 1 fI
         refine eloop (fun n_ a w => ∃ (l9844 : (List Int)) (x9845 : Int) (ad9842 : Option Addr) (cap9843 : Nat), Fr 153 [] [(1, sv ad1 p1 cap2), (2, sv ad4 p2 cap5), (4, iv p4), (5, pb b7), (8, pb b8), (14, iv (ln p2)), (15, sv ad50 l49 cap51), (16, iv x8237), (17, sv ad9842 l9844 cap9843), (18, iv x9845)] a ∧ St w0 [arr 3 1 fI ad9842 l9844.length cap9843 l9844, arr 27 8 ref06_Job.cells ad50 l49.length cap51 l49, arr 27 8 ref06_Job.cells ad35 ([p3]).length cap36 ([p3]), arr 27 8 ref06_Job.cells (some ⟨b13, 0, none⟩) ([p3]).length 1 ([p3]), arr 3 1 fI ad11 y10.1.length cap12 y10.1, blk b8 27 p3.ar, blk b7 23 p0.ar, fz w0 μ] w ∧ ref06_Insert_L10 F p0 p1 p2 p3 p4 l49 x8237 k2 n_ l9844 x9845 = some res) F ⟨[], 0, none, 0, hF.sub (by kernel_rfl), St.pick [0, 1, 2, 3, 4, 5, 6, 7] (by decide) hS, h⟩ ?_
         rintro n_ a w ⟨l9844, x9845, ad9842, cap9843, hF, hS, h⟩
         rcases n_ with _ | n_
         ·cases (show (none : Option (Int × Int)) = some res from h)
         obtain ⟨k10, hk10⟩ : ∃ k, k = ref06_Insert_L10 F p0 p1 p2 p3 p4 l49 x8237 k2 n_ := ⟨_, rfl⟩
         replace h : ref06_Insert_B10 F p0 p1 p2 p3 p4 l49 x8237 k2 k10 l9844 x9845 = some res := by rw [hk10]; exact h
         rw [ref06_Insert_B10] at h
         refine eseq ?_
         refine esr ?_
         replace h := bindS h
         obtain ⟨x9847, hx9847, h⟩ := h
         refine rno 4 [.run [] (binOp .mul 3 (iv 4) (iv (ln p2))) (iv x9847)] 4 [(1, sv ad1 p1 cap2), (2, sv ad4 p2 cap5), (4, iv p4), (5, pb b7), (8, pb b8), (14, iv (ln p2)), (15, sv ad50 l49 cap51), (16, iv x8237), (17, sv ad9842 l9844 cap9843), (18, iv x9845), (66, .bool (decide (x9845 < x9847)))] hF (ocons (obMulC (fun _ => hx9847)) onil) fun a hF => ?_
         refine wfn rfl ?_
         refine econd hF rfl (fun hc => ?_) (fun hc => ?_)
         ·replace h := bif_t h hc
          refine wpIn_skip (norm_then ?_)
          refine ecut (fun a w => ∃ (l9861 : (List Int)) (ad9859 : Option Addr) (cap9860 : Nat), Fr 153 [] [(1, sv ad1 p1 cap2), (2, sv ad4 p2 cap5), (4, iv p4), (5, pb b7), (8, pb b8), (14, iv (ln p2)), (15, sv ad50 l49 cap51), (16, iv x8237), (17, sv ad9859 l9861 cap9860), (18, iv x9845)] a ∧ St w0 [arr 3 1 fI ad9859 l9861.length cap9860 l9861, arr 27 8 ref06_Job.cells ad50 l49.length cap51 l49, arr 27 8 ref06_Job.cells ad35 ([p3]).length cap36 ([p3]), arr 27 8 ref06_Job.cells (some ⟨b13, 0, none⟩) ([p3]).length 1 ([p3]), arr 3 1 fI ad11 y10.1.length cap12 y10.1, blk b8 27 p3.ar, blk b7 23 p0.ar, fz w0 μ] w ∧ ref06_Insert_K11 x9845 k10 l9861 = some res) ?_ ?_
          ·skip
           refine wpIn_block ?_
           refine esr ?_
           replace h := bindS h
           obtain ⟨x9864, hx9864, h⟩ := h
           replace h := bindS h
           obtain ⟨u9865, hu9865, h⟩ := h
           refine rno 7 [.run [] (binOp .rem 3 (iv x9845) (iv (ln p2))) (iv x9864), .run [] (Instr.indexAt 40 (sv ad4 p2 cap5) (iv x9864)) (.pointer (some (slAddr ad4 x9864 1))), .run [] (Instr.loadAt 3 (.pointer (some (slAddr ad4 x9864 1)))) (iv u9865)] 7 [(1, sv ad1 p1 cap2), (2, sv ad4 p2 cap5), (4, iv p4), (5, pb b7), (8, pb b8), (14, iv (ln p2)), (15, sv ad50 l49 cap51), (16, iv x8237), (17, sv ad9842 l9844 cap9843), (18, iv x9845), (69, sv ad9842 l9844 cap9843), (75, iv u9865)] hF (ocons (obRemC (fun _ => hx9864)) (ocons (obIdxQ (hA6 _ (hS.frz (i := 7) rfl hlow)) (by kernel_rfl) (fun _ => hu9865)) (ocons (obElQ (i := x9864) 0 fI_len (fun _ hd => (hA6 _ ((hS.at_ hd).frz (i := 7) rfl hlow))) (by kernel_rfl) (fun _ => hu9865) rfl) onil))) fun a hF => ?_
           refine SK.wi (litK (e := 3) (sz := 1) (f := fI) (t := 40) (len := 1) (fun b9866 => [(1, sv ad1 p1 cap2), (2, sv ad4 p2 cap5), (4, iv p4), (5, pb b7), (8, pb b8), (14, iv (ln p2)), (15, sv ad50 l49 cap51), (16, iv x8237), (17, sv ad9842 l9844 cap9843), (18, iv x9845), (69, sv ad9842 l9844 cap9843), (76, sb b9866 1)]) #[(0, iv u9865)] #[iv u9865] ([u9865]) hF hS (by kernel_rfl) ⟨by kernel_rfl⟩ (by kernel_rfl) fI_len rfl rfl (by kernel_rfl) (fun _ => ⟨by kernel_rfl⟩) fun b9866 w a hF hS => ?_)
           replace h := bindS h
           obtain ⟨l9867, hl9867, h⟩ := h
           refine SK.wi (appK (t := 40) (ty := 40) (bytes := 8) (l := l9844) (l' := ([u9865])) (fun ad9868 cap9869 => [(1, sv ad1 p1 cap2), (2, sv ad4 p2 cap5), (4, iv p4), (5, pb b7), (8, pb b8), (14, iv (ln p2)), (15, sv ad50 l49 cap51), (16, iv x8237), (17, sv ad9842 l9844 cap9843), (18, iv x9845), (77, sv ad9868 l9867 cap9869)]) 1 hF hS rfl (by kernel_rfl) ⟨by kernel_rfl⟩ (by kernel_rfl) (hS.arr (i := 0) rfl) (fun _ _ => rfl) hl9867 (fun _ _ => ⟨by kernel_rfl⟩) fun ad9868 cap9869 w a hF hS => ?_)
           refine rn 1 10 [(1, sv ad1 p1 cap2), (2, sv ad4 p2 cap5), (4, iv p4), (5, pb b7), (8, pb b8), (14, iv (ln p2)), (15, sv ad50 l49 cap51), (16, iv x8237), (17, sv ad9868 l9867 cap9869), (18, iv x9845)] hF fun a hF => ?_
           refine wfn rfl ?_
           refine esr ?_
           replace h := bindS h
           obtain ⟨x9870, hx9870, h⟩ := h
           refine rno 5 [.run [] (binOp .add 3 (iv (ln p2)) (iv x8237)) (iv x9870)] 5 [(1, sv ad1 p1 cap2), (2, sv ad4 p2 cap5), (4, iv p4), (5, pb b7), (8, pb b8), (14, iv (ln p2)), (15, sv ad50 l49 cap51), (16, iv x8237), (17, sv ad9868 l9867 cap9869), (18, iv x9845), (82, .bool (x9845 == x9870))] hF (ocons (obAddC (fun _ => hx9870)) onil) fun a hF => ?_
           refine wfn rfl ?_
           refine econd hF rfl (fun hc => ?_) (fun hc => ?_)
           ·replace h := bif_t h hc
            refine WI.region ?_
            refine rn 3 3 [(1, sv ad1 p1 cap2), (2, sv ad4 p2 cap5), (4, iv p4), (5, pb b7), (8, pb b8), (14, iv (ln p2)), (15, sv ad50 l49 cap51), (16, iv x8237), (17, sv ad9868 l9867 cap9869), (18, iv x9845), (83, sv ad9868 l9867 cap9869), (85, iv (ln p1))] hF fun a hF => ?_
            refine SK.wi (litK (e := 3) (sz := 1) (f := fI) (t := 40) (len := 1) (fun b9871 => [(1, sv ad1 p1 cap2), (2, sv ad4 p2 cap5), (4, iv p4), (5, pb b7), (8, pb b8), (14, iv (ln p2)), (15, sv ad50 l49 cap51), (16, iv x8237), (17, sv ad9868 l9867 cap9869), (18, iv x9845), (83, sv ad9868 l9867 cap9869), (86, sb b9871 1)]) #[(0, iv (ln p1))] #[iv (ln p1)] ([(ln p1)]) hF hS (by kernel_rfl) ⟨by kernel_rfl⟩ (by kernel_rfl) fI_len rfl rfl (by kernel_rfl) (fun _ => ⟨by kernel_rfl⟩) fun b9871 w a hF hS => ?_)
            replace h := bindS h
            obtain ⟨l9872, hl9872, h⟩ := h
            refine SK.wi (appK (t := 40) (ty := 40) (bytes := 8) (l := l9867) (l' := ([(ln p1)])) (fun ad9873 cap9874 => [(1, sv ad1 p1 cap2), (2, sv ad4 p2 cap5), (4, iv p4), (5, pb b7), (8, pb b8), (14, iv (ln p2)), (15, sv ad50 l49 cap51), (16, iv x8237), (17, sv ad9868 l9867 cap9869), (18, iv x9845), (87, sv ad9873 l9872 cap9874)]) 2 hF hS rfl (by kernel_rfl) ⟨by kernel_rfl⟩ (by kernel_rfl) (hS.arr (i := 0) rfl) (fun _ _ => rfl) hl9872 (fun _ _ => ⟨by kernel_rfl⟩) fun ad9873 cap9874 w a hF hS => ?_)
            refine rn 1 6 [(1, sv ad1 p1 cap2), (2, sv ad4 p2 cap5), (4, iv p4), (5, pb b7), (8, pb b8), (14, iv (ln p2)), (15, sv ad50 l49 cap51), (16, iv x8237), (17, sv ad9873 l9872 cap9874), (18, iv x9845)] hF fun a hF => ?_
            refine WI.fin rfl (norm_block <| norm_then <| ?_)
            exact ⟨l9872, ad9873, cap9874, hF.sub (by kernel_rfl), St.pick [2, 3, 4, 5, 6, 7, 8, 9] (by decide) hS, h⟩
           ·replace h := bif_f h hc
            refine wpIn_skip (norm_block <| norm_then <| ?_)
            exact ⟨l9867, ad9868, cap9869, hF.sub (by kernel_rfl), St.pick [1, 2, 3, 4, 5, 6, 7, 8] (by decide) hS, h⟩
          rintro a w ⟨l9861, ad9859, cap9860, hF, hS, h⟩
          rw [ref06_Insert_K11] at h
          refine WI.region ?_
          replace h := bindS h
          obtain ⟨x9862, hx9862, h⟩ := h
          refine rno 3 [.run [] (binOp .add 3 (iv x9845) (iv 1)) (iv x9862)] 3 [(1, sv ad1 p1 cap2), (2, sv ad4 p2 cap5), (4, iv p4), (5, pb b7), (8, pb b8), (14, iv (ln p2)), (15, sv ad50 l49 cap51), (16, iv x8237), (17, sv ad9859 l9861 cap9860), (18, iv x9862)] hF (ocons (obAddC (fun _ => hx9862)) onil) fun a hF => ?_
          refine wfn rfl ?_
          rw [hk10] at h
          exact ⟨n_, Nat.lt_succ_self _, l9861, x9862, ad9859, cap9860, hF.sub (by kernel_rfl), St.pick [0, 1, 2, 3, 4, 5, 6, 7] (by decide) hS, h⟩
         ·replace h := bif_f h hc
          refine wpIn_exit (exit_then <| exit_then <| exit_hit <| norm_then ?_)
          exact ⟨l9844, ad9842, cap9843, hF.sub (by kernel_rfl), St.pick [0, 1, 2, 3, 4, 5, 6, 7] (by decide) hS, h⟩
        rintro a w ⟨l9153, ad9151, cap9152, hF, hS, h⟩
        rw [ref06_Insert_K4] at h
        refine esr ?_
        refine rno 4 [.run [] (Instr.loadAt 23 (pb b7)) (p0.ag), .run [] (Instr.loadAt 27 (pb b8)) (p3.ag)] 4 [(1, sv ad1 p1 cap2), (2, sv ad4 p2 cap5), (4, iv p4), (5, pb b7), (8, pb b8), (14, iv (ln p2)), (15, sv ad50 l49 cap51), (16, iv x8237), (17, sv ad9151 l9153 cap9152), (89, p0.ag), (90, sv ad50 l49 cap51), (91, sv ad9151 l9153 cap9152), (92, p3.ag)] hF (ocons (obN (us := p0.cells) (by kernel_rfl) (fun _ hd => ((hS.at_ hd).blk (i := 6) rfl).cells rfl)) (ocons (obN (us := p3.cells) (by kernel_rfl) (fun _ hd => ((hS.at_ hd).blk (i := 5) rfl).cells rfl)) onil)) fun a hF => ?_
        replace h := bindS h
        obtain ⟨y9155, hy9155, h⟩ := h
        refine SK.wi (callK (f := 55) (args := #[p0.ag, sv ad50 l49 cap51, sv ad9151 l9153 cap9152, p3.ag]) (R := fun v w2 => ∃ ad9156 cap9157, v = .tuple #[sv ad9156 y9155.1 cap9157, iv y9155.2] ∧ St w [arr 3 1 fI ad9156 y9155.1.length cap9157 y9155.1] w2) (fun v9154 => [(1, sv ad1 p1 cap2), (2, sv ad4 p2 cap5), (4, iv p4), (5, pb b7), (8, pb b8), (14, iv (ln p2)), (15, sv ad50 l49 cap51), (16, iv x8237), (17, sv ad9151 l9153 cap9152), (93, v9154)]) hF (by kernel_rfl) ⟨by kernel_rfl⟩ (Calls.mono (ref06_begins_ok F p0 l49 l9153 p3 _ hy9155 (memOf w) w (memOf_at w) (Arr.toM (hS.arr (i := 1) rfl)) (Arr.toM (hS.arr (i := 0) rfl))) (by rintro e w2 ⟨ad9156, cap9157, rfl, h⟩; exact ⟨_, rfl, ad9156, cap9157, rfl, h⟩)) (fun _ => ⟨by kernel_rfl⟩) ?_)
        rintro v9154 w a ⟨ad9156, cap9157, rfl, hQ⟩ hF
        replace hS : St w0 [arr 3 1 fI ad9156 y9155.1.length cap9157 y9155.1, arr 3 1 fI ad9151 l9153.length cap9152 l9153, arr 27 8 ref06_Job.cells ad50 l49.length cap51 l49, arr 27 8 ref06_Job.cells ad35 ([p3]).length cap36 ([p3]), arr 27 8 ref06_Job.cells (some ⟨b13, 0, none⟩) ([p3]).length 1 ([p3]), arr 3 1 fI ad11 y10.1.length cap12 y10.1, blk b8 27 p3.ar, blk b7 23 p0.ar, fz w0 μ] w := hS.madeL hQ
        refine rn 5 10 [(1, sv ad1 p1 cap2), (2, sv ad4 p2 cap5), (4, iv p4), (5, pb b7), (8, pb b8), (14, iv (ln p2)), (15, sv ad50 l49 cap51), (16, iv x8237), (17, sv ad9151 l9153 cap9152), (19, sv ad9156 y9155.1 cap9157)] hF fun a hF => ?_
        refine wfn rfl ?_
        refine eseq ?_
        refine eseq ?_
        replace h := bindS h
        obtain ⟨x9158, hx9158, h⟩ := h
        replace h := bindS h
        obtain ⟨x9159, hx9159, h⟩ := h
        replace h := bindS h
        obtain ⟨u9160, hu9160, h⟩ := h
        replace h := bindS h
        obtain ⟨u9161, hu9161, h⟩ := h
        replace h := bindS h
        obtain ⟨x9162, hx9162, h⟩ := h
        refine runD (obs := [.run [] (binOp .add 3 (iv (ln p2)) (iv x8237)) (iv x9158), .run [] (binOp .add 3 (iv x9158) (iv 1)) (iv x9159), .run [] (Instr.indexAt 40 (sv ad9156 y9155.1 cap9157) (iv x9159)) (.pointer (some (slAddr ad9156 x9159 1))), .run [] (Instr.loadAt 3 (.pointer (some (slAddr ad9156 x9159 1)))) (iv u9160), .run [] (Instr.indexAt 40 (sv ad9156 y9155.1 cap9157) (iv (ln p2))) (.pointer (some (slAddr ad9156 (ln p2) 1))), .run [] (Instr.loadAt 3 (.pointer (some (slAddr ad9156 (ln p2) 1)))) (iv u9161), .run [] (binOp .sub 3 (iv u9160) (iv u9161)) (iv x9162)]) 14 [(1, sv ad1 p1 cap2), (2, sv ad4 p2 cap5), (4, iv p4), (5, pb b7), (8, pb b8), (14, iv (ln p2)), (15, sv ad50 l49 cap51), (16, iv x8237), (17, sv ad9151 l9153 cap9152), (19, sv ad9156 y9155.1 cap9157), (109, .bool (decide (x9162 > p4)))] (by kernel_rfl) hF (by kernel_rfl) (ocons (obAddC (fun _ => hx9158)) (ocons (obAddC (fun _ => hx9159)) (ocons (obIdxQ (hS.arr (i := 0) rfl) (by kernel_rfl) (fun _ => hu9160)) (ocons (obElQ (i := x9159) 0 fI_len (fun _ hd => ((hS.later hd).arr (i := 0) rfl)) (by kernel_rfl) (fun _ => hu9160) rfl) (ocons (obIdxQ (hS.arr (i := 0) rfl) (by kernel_rfl) (fun _ => hu9161)) (ocons (obElQ (i := (ln p2)) 0 fI_len (fun _ hd => ((hS.later hd).arr (i := 0) rfl)) (by kernel_rfl) (fun _ => hu9161) rfl) (ocons (obSubC (fun _ => hx9162)) onil))))))) ⟨by kernel_rfl⟩ fun a w hF hx => ?_
        replace hS := hS.later hx
        refine wfn rfl ?_
        refine econd hF rfl (fun hc => ?_) (fun hc => ?_)
        ·replace h := bif_t h hc
         refine wpIn_exit (exit_then <| exit_hit <| norm_then ?_)
         exact ⟨hF.sub (by kernel_rfl), St.pick [2, 3, 4, 5, 6, 7, 8] (by decide) hS, h⟩
        ·replace h := bif_f h hc
         refine wpIn_skip (norm_then ?_)
         refine esr ?_
         refine rn 1 1 [(1, sv ad1 p1 cap2), (2, sv ad4 p2 cap5), (4, iv p4), (5, pb b7), (8, pb b8), (14, iv (ln p2)), (15, sv ad50 l49 cap51), (16, iv x8237), (17, sv ad9151 l9153 cap9152), (19, sv ad9156 y9155.1 cap9157), (21, .bool true)] hF fun a hF => ?_
         refine wfn rfl ?_
         refine ecut (fun a w => ∃ (c9471 : Bool), Fr 153 [] [(1, sv ad1 p1 cap2), (2, sv ad4 p2 cap5), (4, iv p4), (5, pb b7), (8, pb b8), (14, iv (ln p2)), (15, sv ad50 l49 cap51), (16, iv x8237), (21, .bool c9471)] a ∧ St w0 [arr 3 1 fI ad9156 y9155.1.length cap9157 y9155.1, arr 3 1 fI ad9151 l9153.length cap9152 l9153, arr 27 8 ref06_Job.cells ad50 l49.length cap51 l49, arr 27 8 ref06_Job.cells ad35 ([p3]).length cap36 ([p3]), arr 27 8 ref06_Job.cells (some ⟨b13, 0, none⟩) ([p3]).length 1 ([p3]), arr 3 1 fI ad11 y10.1.length cap12 y10.1, blk b8 27 p3.ar, blk b7 23 p0.ar, fz w0 μ] w ∧ ref06_Insert_K5 x8237 k2 c9471 = some res) ?_ ?_
         ·skip
          refine esr ?_
          refine rn 1 1 [(1, sv ad1 p1 cap2), (2, sv ad4 p2 cap5), (4, iv p4), (5, pb b7), (8, pb b8), (14, iv (ln p2)), (15, sv ad50 l49 cap51), (16, iv x8237), (17, sv ad9151 l9153 cap9152), (19, sv ad9156 y9155.1 cap9157), (21, .bool true), (22, iv 0)] hF fun a hF => ?_
          refine wfn rfl ?_
          refine wpIn_block ?_
          refine eloop (fun n_ a w => ∃ (c9677 : Bool) (x9678 : Int), Fr 153 [] [(1, sv ad1 p1 cap2), (2, sv ad4 p2 cap5), (4, iv p4), (5, pb b7), (8, pb b8), (14, iv (ln p2)), (15, sv ad50 l49 cap51), (16, iv x8237), (17, sv ad9151 l9153 cap9152), (19, sv ad9156 y9155.1 cap9157), (21, .bool c9677), (22, iv x9678)] a ∧ St w0 [arr 3 1 fI ad9156 y9155.1.length cap9157 y9155.1, arr 3 1 fI ad9151 l9153.length cap9152 l9153, arr 27 8 ref06_Job.cells ad50 l49.length cap51 l49, arr 27 8 ref06_Job.cells ad35 ([p3]).length cap36 ([p3]), arr 27 8 ref06_Job.cells (some ⟨b13, 0, none⟩) ([p3]).length 1 ([p3]), arr 3 1 fI ad11 y10.1.length cap12 y10.1, blk b8 27 p3.ar, blk b7 23 p0.ar, fz w0 μ] w ∧ ref06_Insert_L6 F p1 x8237 k2 l9153 y9155 n_ c9677 x9678 = some res) F ⟨true, 0, hF.sub (by kernel_rfl), St.pick [0, 1, 2, 3, 4, 5, 6, 7, 8] (by decide) hS, h⟩ ?_
          rintro n_ a w ⟨c9677, x9678, hF, hS, h⟩
          rcases n_ with _ | n_
          ·cases (show (none : Option (Int × Int)) = some res from h)
          obtain ⟨k6, hk6⟩ : ∃ k, k = ref06_Insert_L6 F p1 x8237 k2 l9153 y9155 n_ := ⟨_, rfl⟩
          replace h : ref06_Insert_B6 F p1 x8237 k2 l9153 y9155 k6 c9677 x9678 = some res := by rw [hk6]; exact h
          rw [ref06_Insert_B6] at h
          refine eseq ?_
          refine esr ?_
          refine rn 4 4 [(1, sv ad1 p1 cap2), (2, sv ad4 p2 cap5), (4, iv p4), (5, pb b7), (8, pb b8), (14, iv (ln p2)), (15, sv ad50 l49 cap51), (16, iv x8237), (17, sv ad9151 l9153 cap9152), (19, sv ad9156 y9155.1 cap9157), (21, .bool c9677), (22, iv x9678), (113, .bool (decide (x9678 < (ln p1))))] hF fun a hF => ?_
          refine wfn rfl ?_
          refine econd hF rfl (fun hc => ?_) (fun hc => ?_)
          ·replace h := bif_t h hc
           refine wpIn_skip (norm_then ?_)
           refine ecut (fun a w => ∃ (c9729 : Bool), Fr 153 [] [(1, sv ad1 p1 cap2), (2, sv ad4 p2 cap5), (4, iv p4), (5, pb b7), (8, pb b8), (14, iv (ln p2)), (15, sv ad50 l49 cap51), (16, iv x8237), (17, sv ad9151 l9153 cap9152), (19, sv ad9156 y9155.1 cap9157), (21, .bool c9729), (22, iv x9678)] a ∧ St w0 [arr 3 1 fI ad9156 y9155.1.length cap9157 y9155.1, arr 3 1 fI ad9151 l9153.length cap9152 l9153, arr 27 8 ref06_Job.cells ad50 l49.length cap51 l49, arr 27 8 ref06_Job.cells ad35 ([p3]).length cap36 ([p3]), arr 27 8 ref06_Job.cells (some ⟨b13, 0, none⟩) ([p3]).length 1 ([p3]), arr 3 1 fI ad11 y10.1.length cap12 y10.1, blk b8 27 p3.ar, blk b7 23 p0.ar, fz w0 μ] w ∧ ref06_Insert_K7 x9678 k6 c9729 = some res) ?_ ?_
           ·skip
            refine wpIn_block ?_
            refine esr ?_
            refine rn 1 1 [(1, sv ad1 p1 cap2), (2, sv ad4 p2 cap5), (4, iv p4), (5, pb b7), (8, pb b8), (14, iv (ln p2)), (15, sv ad50 l49 cap51), (16, iv x8237), (17, sv ad9151 l9153 cap9152), (19, sv ad9156 y9155.1 cap9157), (21, .bool c9677), (22, iv x9678), (23, iv (-1))] hF fun a hF => ?_
            refine wfn rfl ?_
            refine esr ?_
            refine rn 1 1 [(1, sv ad1 p1 cap2), (2, sv ad4 p2 cap5), (4, iv p4), (5, pb b7), (8, pb b8), (14, iv (ln p2)), (15, sv ad50 l49 cap51), (16, iv x8237), (17, sv ad9151 l9153 cap9152), (19, sv ad9156 y9155.1 cap9157), (21, .bool c9677), (22, iv x9678), (23, iv (-1)), (24, iv 0)] hF fun a hF => ?_
            refine wfn rfl ?_
            refine wpIn_block ?_
            refine eloop (fun n_ a w => ∃ (c9763 : Bool) (x9764 : Int) (x9765 : Int), Fr 153 [] [(1, sv ad1 p1 cap2), (2, sv ad4 p2 cap5), (4, iv p4), (5, pb b7), (8, pb b8), (14, iv (ln p2)), (15, sv ad50 l49 cap51), (16, iv x8237), (17, sv ad9151 l9153 cap9152), (19, sv ad9156 y9155.1 cap9157), (21, .bool c9763), (22, iv x9678), (23, iv x9764), (24, iv x9765)] a ∧ St w0 [arr 3 1 fI ad9156 y9155.1.length cap9157 y9155.1, arr 3 1 fI ad9151 l9153.length cap9152 l9153, arr 27 8 ref06_Job.cells ad50 l49.length cap51 l49, arr 27 8 ref06_Job.cells ad35 ([p3]).length cap36 ([p3]), arr 27 8 ref06_Job.cells (some ⟨b13, 0, none⟩) ([p3]).length 1 ([p3]), arr 3 1 fI ad11 y10.1.length cap12 y10.1, blk b8 27 p3.ar, blk b7 23 p0.ar, fz w0 μ] w ∧ ref06_Insert_L8 p1 l9153 y9155 x9678 k6 n_ c9763 x9764 x9765 = some res) F ⟨c9677, -1, 0, hF.sub (by kernel_rfl), St.pick [0, 1, 2, 3, 4, 5, 6, 7, 8] (by decide) hS, h⟩ ?_
            rintro n_ a w ⟨c9763, x9764, x9765, hF, hS, h⟩
            rcases n_ with _ | n_
            ·cases (show (none : Option (Int × Int)) = some res from h)
            obtain ⟨k8, hk8⟩ : ∃ k, k = ref06_Insert_L8 p1 l9153 y9155 x9678 k6 n_ := ⟨_, rfl⟩
            replace h : ref06_Insert_B8 p1 l9153 y9155 x9678 k6 k8 c9763 x9764 x9765 = some res := by rw [hk8]; exact h
            rw [ref06_Insert_B8] at h
            refine eseq ?_
            refine esr ?_
            refine rn 4 4 [(1, sv ad1 p1 cap2), (2, sv ad4 p2 cap5), (4, iv p4), (5, pb b7), (8, pb b8), (14, iv (ln p2)), (15, sv ad50 l49 cap51), (16, iv x8237), (17, sv ad9151 l9153 cap9152), (19, sv ad9156 y9155.1 cap9157), (21, .bool c9763), (22, iv x9678), (23, iv x9764), (24, iv x9765), (119, .bool (decide (x9765 < (ln l9153))))] hF fun a hF => ?_
            refine wfn rfl ?_
            refine econd hF rfl (fun hc => ?_) (fun hc => ?_)
            ·replace h := bif_t h hc
             refine wpIn_skip (norm_then ?_)
             refine ecut (fun a w => ∃ (c9772 : Bool) (x9773 : Int), Fr 153 [] [(1, sv ad1 p1 cap2), (2, sv ad4 p2 cap5), (4, iv p4), (5, pb b7), (8, pb b8), (14, iv (ln p2)), (15, sv ad50 l49 cap51), (16, iv x8237), (17, sv ad9151 l9153 cap9152), (19, sv ad9156 y9155.1 cap9157), (21, .bool c9772), (22, iv x9678), (23, iv x9773), (24, iv x9765)] a ∧ St w0 [arr 3 1 fI ad9156 y9155.1.length cap9157 y9155.1, arr 3 1 fI ad9151 l9153.length cap9152 l9153, arr 27 8 ref06_Job.cells ad50 l49.length cap51 l49, arr 27 8 ref06_Job.cells ad35 ([p3]).length cap36 ([p3]), arr 27 8 ref06_Job.cells (some ⟨b13, 0, none⟩) ([p3]).length 1 ([p3]), arr 3 1 fI ad11 y10.1.length cap12 y10.1, blk b8 27 p3.ar, blk b7 23 p0.ar, fz w0 μ] w ∧ ref06_Insert_K9 x9765 k8 c9772 x9773 = some res) ?_ ?_
             ·skip
              refine wpIn_block ?_
              refine esr ?_
              replace h := bindS h
              obtain ⟨u9776, hu9776, h⟩ := h
              refine rno 6 [.run [] (Instr.indexAt 40 (sv ad9151 l9153 cap9152) (iv x9765)) (.pointer (some (slAddr ad9151 x9765 1))), .run [] (Instr.loadAt 3 (.pointer (some (slAddr ad9151 x9765 1)))) (iv u9776)] 6 [(1, sv ad1 p1 cap2), (2, sv ad4 p2 cap5), (4, iv p4), (5, pb b7), (8, pb b8), (14, iv (ln p2)), (15, sv ad50 l49 cap51), (16, iv x8237), (17, sv ad9151 l9153 cap9152), (19, sv ad9156 y9155.1 cap9157), (21, .bool c9763), (22, iv x9678), (23, iv x9764), (24, iv x9765), (127, .bool (u9776 == x9678))] hF (ocons (obIdxQ (hS.arr (i := 1) rfl) (by kernel_rfl) (fun _ => hu9776)) (ocons (obElQ (i := x9765) 0 fI_len (fun _ hd => ((hS.at_ hd).arr (i := 1) rfl)) (by kernel_rfl) (fun _ => hu9776) rfl) onil)) fun a hF => ?_
              refine wfn rfl ?_
              refine econd hF rfl (fun hc => ?_) (fun hc => ?_)
              ·replace h := bif_t h hc
               refine eseq ?_
               replace h := bindS h
               obtain ⟨u9777, hu9777, h⟩ := h
               replace h := bindS h
               obtain ⟨u9778, hu9778, h⟩ := h
               replace h := bindS h
               obtain ⟨x9779, hx9779, h⟩ := h
               replace h := bindS h
               obtain ⟨u9780, hu9780, h⟩ := h
               refine runD (obs := [.run [⟨132, false, (decide (x9764 < 0))⟩, ⟨129, true, c9763⟩] (Instr.indexAt 40 (sv ad9156 y9155.1 cap9157) (iv x9765)) (.pointer (some (slAddr ad9156 x9765 1))), .run [⟨132, false, (decide (x9764 < 0))⟩, ⟨129, true, c9763⟩] (Instr.loadAt 3 (.pointer (some (slAddr ad9156 x9765 1)))) (iv u9777), .run [⟨132, false, (decide (x9764 < 0))⟩, ⟨129, true, c9763⟩] (Instr.indexAt 40 (sv ad9156 y9155.1 cap9157) (iv x9764)) (.pointer (some (slAddr ad9156 x9764 1))), .run [⟨132, false, (decide (x9764 < 0))⟩, ⟨129, true, c9763⟩] (Instr.loadAt 3 (.pointer (some (slAddr ad9156 x9764 1)))) (iv u9778), .run [⟨132, false, (decide (x9764 < 0))⟩, ⟨129, true, c9763⟩] (binOp .sub 3 (iv u9777) (iv u9778)) (iv x9779), .run [⟨132, false, (decide (x9764 < 0))⟩, ⟨129, true, c9763⟩] (Instr.indexAt 39 (sv ad1 p1 cap2) (iv x9678)) (.pointer (some (slAddr ad1 x9678 8))), .run [⟨132, false, (decide (x9764 < 0))⟩, ⟨129, true, c9763⟩] (Instr.loadAt 3 (.pointer (some ((slAddr ad1 x9678 8).add 7)))) (iv u9780.Every)]) 23 [(1, sv ad1 p1 cap2), (2, sv ad4 p2 cap5), (4, iv p4), (5, pb b7), (8, pb b8), (14, iv (ln p2)), (15, sv ad50 l49 cap51), (16, iv x8237), (17, sv ad9151 l9153 cap9152), (19, sv ad9156 y9155.1 cap9157), (21, .bool (bif c9763 then (bif (decide (x9764 < 0)) then true else (decide (x9779 ≤ u9780.Every))) else false)), (22, iv x9678), (24, iv x9765)] (by kernel_rfl) hF (by kernel_rfl) (ocons (obIdxQ (hS.arr (i := 0) rfl) (by kernel_rfl) (fun hk => gd_some hu9777 hk)) (ocons (obElQ (i := x9765) 0 fI_len (fun _ hd => ((hS.later hd).arr (i := 0) rfl)) (by kernel_rfl) (fun hk => gd_some hu9777 hk) rfl) (ocons (obIdxQ (hS.arr (i := 0) rfl) (by kernel_rfl) (fun hk => gd_some hu9778 hk)) (ocons (obElQ (i := x9764) 0 fI_len (fun _ hd => ((hS.later hd).arr (i := 0) rfl)) (by kernel_rfl) (fun hk => gd_some hu9778 hk) rfl) (ocons (obSubC (fun hk => gd_some hx9779 hk)) (ocons (obIdxQ (hA3 _ (hS.frz (i := 8) rfl hlow)) (by kernel_rfl) (fun hk => gd_some hu9780 hk)) (ocons (obElQ (i := x9678) 7 ref06_Job.cells_len (fun _ hd => (hA3 _ ((hS.later hd).frz (i := 8) rfl hlow))) (by kernel_rfl) (fun hk => gd_some hu9780 hk) rfl) onil))))))) ⟨by kernel_rfl⟩ fun a w hF hx => ?_
               replace hS := hS.later hx
               refine wfn rfl ?_
               refine WI.region ?_
               refine rn 2 2 [(1, sv ad1 p1 cap2), (2, sv ad4 p2 cap5), (4, iv p4), (5, pb b7), (8, pb b8), (14, iv (ln p2)), (15, sv ad50 l49 cap51), (16, iv x8237), (17, sv ad9151 l9153 cap9152), (19, sv ad9156 y9155.1 cap9157), (21, .bool (bif c9763 then (bif (decide (x9764 < 0)) then true else (decide (x9779 ≤ u9780.Every))) else false)), (22, iv x9678), (23, iv x9765), (24, iv x9765)] hF fun a hF => ?_
               refine WI.fin rfl (norm_block <| norm_then <| ?_)
               exact ⟨bif c9763 then (bif (decide (x9764 < 0)) then true else (decide (x9779 ≤ u9780.Every))) else false, x9765, hF.sub (by kernel_rfl), St.pick [0, 1, 2, 3, 4, 5, 6, 7, 8] (by decide) hS, h⟩
              ·replace h := bif_f h hc
               refine wpIn_skip (norm_block <| norm_then <| ?_)
               exact ⟨c9763, x9764, hF.sub (by kernel_rfl), St.pick [0, 1, 2, 3, 4, 5, 6, 7, 8] (by decide) hS, h⟩
             rintro a w ⟨c9772, x9773, hF, hS, h⟩
             rw [ref06_Insert_K9] at h
             refine WI.region ?_
             replace h := bindS h
             obtain ⟨x9774, hx9774, h⟩ := h
             refine rno 3 [.run [] (binOp .add 3 (iv x9765) (iv 1)) (iv x9774)] 3 [(1, sv ad1 p1 cap2), (2, sv ad4 p2 cap5), (4, iv p4), (5, pb b7), (8, pb b8), (14, iv (ln p2)), (15, sv ad50 l49 cap51), (16, iv x8237), (17, sv ad9151 l9153 cap9152), (19, sv ad9156 y9155.1 cap9157), (21, .bool c9772), (22, iv x9678), (23, iv x9773), (24, iv x9774)] hF (ocons (obAddC (fun _ => hx9774)) onil) fun a hF => ?_
             refine wfn rfl ?_
             rw [hk8] at h
             exact ⟨n_, Nat.lt_succ_self _, c9772, x9773, x9774, hF.sub (by kernel_rfl), St.pick [0, 1, 2, 3, 4, 5, 6, 7, 8] (by decide) hS, h⟩
            ·replace h := bif_f h hc
             refine wpIn_exit (exit_then <| exit_then <| exit_hit <| norm_block <| norm_then <| ?_)
             exact ⟨c9763, hF.sub (by kernel_rfl), St.pick [0, 1, 2, 3, 4, 5, 6, 7, 8] (by decide) hS, h⟩
           rintro a w ⟨c9729, hF, hS, h⟩
           rw [ref06_Insert_K7] at h
           refine WI.region ?_
           replace h := bindS h
           obtain ⟨x9730, hx9730, h⟩ := h
           refine rno 3 [.run [] (binOp .add 3 (iv x9678) (iv 1)) (iv x9730)] 3 [(1, sv ad1 p1 cap2), (2, sv ad4 p2 cap5), (4, iv p4), (5, pb b7), (8, pb b8), (14, iv (ln p2)), (15, sv ad50 l49 cap51), (16, iv x8237), (17, sv ad9151 l9153 cap9152), (19, sv ad9156 y9155.1 cap9157), (21, .bool c9729), (22, iv x9730)] hF (ocons (obAddC (fun _ => hx9730)) onil) fun a hF => ?_
           refine wfn rfl ?_
           rw [hk6] at h
           exact ⟨n_, Nat.lt_succ_self _, c9729, x9730, hF.sub (by kernel_rfl), St.pick [0, 1, 2, 3, 4, 5, 6, 7, 8] (by decide) hS, h⟩
          ·replace h := bif_f h hc
           refine wpIn_exit (exit_then <| exit_then <| exit_hit <| norm_then ?_)
           exact ⟨c9677, hF.sub (by kernel_rfl), St.pick [0, 1, 2, 3, 4, 5, 6, 7, 8] (by decide) hS, h⟩
         rintro a w ⟨c9471, hF, hS, h⟩
         rw [ref06_Insert_K5] at h
         refine esr ?_
         refine rn 1 1 [(1, sv ad1 p1 cap2), (2, sv ad4 p2 cap5), (4, iv p4), (5, pb b7), (8, pb b8), (14, iv (ln p2)), (15, sv ad50 l49 cap51), (16, iv x8237), (151, .bool c9471)] hF fun a hF => ?_
         refine wfn rfl ?_
         refine econd hF rfl (fun hc => ?_) (fun hc => ?_)
         ·replace h := bif_t h hc
          refine esr ?_
          refine rn 3 3 [(10, iv x8237), (11, iv 0)] hF fun a hF => ?_
          refine wfn rfl ?_
          refine wpIn_ret (ret_block <| ret_then <| ret_then <| ret_block <| ret_then <| fn_ret [.tmp 10, .tmp 11] [iv x8237, iv 0] hF rfl ⟨rfl, rfl, trivial⟩ ?_)
          have hr_ := Option.some.inj h
          subst hr_
          exact ⟨rfl, hS.ext⟩
         ·replace h := bif_f h hc
          refine wpIn_skip (norm_block <| norm_then <| ?_)
          exact ⟨hF.sub (by kernel_rfl), St.pick [2, 3, 4, 5, 6, 7, 8] (by decide) hS, h⟩
       rintro a w ⟨hF, hS, h⟩
       rw [ref06_Insert_K3] at h
       refine WI.region ?_
       replace h := bindS h
       obtain ⟨x9056, hx9056, h⟩ := h
       refine rno 3 [.run [] (binOp .add 3 (iv x8237) (iv 1)) (iv x9056)] 3 [(1, sv ad1 p1 cap2), (2, sv ad4 p2 cap5), (4, iv p4), (5, pb b7), (8, pb b8), (14, iv (ln p2)), (15, sv ad50 l49 cap51), (16, iv x9056)] hF (ocons (obAddC (fun _ => hx9056)) onil) fun a hF => ?_
       refine wfn rfl ?_
       rw [hk2] at h
       exact ⟨n_, Nat.lt_succ_self _, x9056, hF.sub (by kernel_rfl), St.pick [0, 1, 2, 3, 4, 5, 6] (by decide) hS, h⟩
      ·replace h := bif_f h hc
       refine wpIn_exit (exit_then <| exit_then <| exit_hit <| norm_then ?_)
       exact ⟨hF.sub (by kernel_rfl), St.pick [0, 1, 2, 3, 4, 5, 6] (by decide) hS, h⟩
     rintro a w ⟨hF, hS, h⟩
     rw [ref06_Insert_K1] at h
     refine esr ?_
     refine rn 2 2 [(10, iv 0), (11, iv 28)] hF fun a hF => ?_
     refine wfn rfl ?_
     refine wpIn_ret (fn_ret [.tmp 10, .tmp 11] [iv 0, iv 28] hF rfl ⟨rfl, rfl, trivial⟩ ?_)
     have hr_ := Option.some.inj h
     subst hr_
     exact ⟨rfl, hS.ext⟩
end Go.Proofs.Ytejffembnkojjaa
