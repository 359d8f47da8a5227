/- Walks, written by program (wip/gen/dec.py). -/
import Derived.Test.YtbhjgebjojdohaaF8XD
import Derived.Test.YtbhjgebjojdohaaProg
import Derived.Test.YtbhjgebjojdohaaF8XW0
import Derived.Test.YtbhjgebjojdohaaF8XW4
import Derived.Test.YtbhjgebjojdohaaF8WkG
namespace Go.Proofs.Ytbhjgebjojdohaa
open Go Go.RowKit Go.Eng
set_option maxRecDepth 10000
set_option maxHeartbeats 4000000
set_option linter.unusedVariables false
set_option linter.unusedSimpArgs false
theorem law03_FoldTimes_ok (F : Nat) (p0 : law03_Air) (p1 : (Int × Int)) (p2 : Int) (res : Bool) (h : law03_FoldTimes F p0 p1 p2 = some res) (μ : Frz) (w0 : World) (hm : FrzAt μ w0) {ad1 : Option Addr} {cap2 : Nat} {ad3 : Option Addr} {cap4 : Nat} {ad5 : Option Addr} {cap6 : Nat} (hA7 : ArrM μ 1 (fK .i16) ad1 cap2 p0.Speeds) (hA8 : ArrM μ 1 (fK .u16) ad3 cap4 p0.Less) (hA9 : ArrM μ 1 (fK .u16) ad5 cap6 p0.More) : Calls Try.prog 8 #[.agg #[.int .u8 p0.Kind, .int .u8 p0.Lambda, .int .u16 p0.First, .int .u16 p0.Second, .int .u8 p0.Rose, .int .u8 p0.Gates, .int .i16 p0.Base, sv ad1 p0.Speeds cap2, .int .u32 p0.Blank, sv ad3 p0.Less cap4, sv ad5 p0.More cap6, .int .u16 p0.Jump], .agg #[.int .u16 p1.1, .int .u16 p1.2], .int .u16 p2] w0 (fun e w => e = .returned (.bool res) ∧ Ext w0 w) := by
 obtain ⟨hlow, hS⟩ := hm.init
 have hext := Frz.ext_refl w0.heap.size μ
 rw [law03_FoldTimes] at h
 refine fn_enterW Try.func8 rfl 137 [(0, .agg #[.int .u8 p0.Kind, .int .u8 p0.Lambda, .int .u16 p0.First, .int .u16 p0.Second, .int .u8 p0.Rose, .int .u8 p0.Gates, .int .i16 p0.Base, sv ad1 p0.Speeds cap2, .int .u32 p0.Blank, sv ad3 p0.Less cap4, sv ad5 p0.More cap6, .int .u16 p0.Jump]), (1, .agg #[.int .u16 p1.1, .int .u16 p1.2]), (2, .int .u16 p2)] rfl rfl (by kernel_rfl) fun a w hw hF => ?_
 replace hS : St w0 [fz w0 μ] w := by rw [hw]; exact hS
 clear hw
 refine esr ?_
 refine SK.wi (boxK (t := 72) (fun b10 => [(1, .agg #[.int .u16 p1.1, .int .u16 p1.2]), (2, .int .u16 p2), (3, pb b10)]) (.agg #[.int .u8 p0.Kind, .int .u8 p0.Lambda, .int .u16 p0.First, .int .u16 p0.Second, .int .u8 p0.Rose, .int .u8 p0.Gates, .int .i16 p0.Base, sv ad1 p0.Speeds cap2, .int .u32 p0.Blank, sv ad3 p0.Less cap4, sv ad5 p0.More cap6, .int .u16 p0.Jump]) #[.int .u8 p0.Kind, .int .u8 p0.Lambda, .int .u16 p0.First, .int .u16 p0.Second, .int .u8 p0.Rose, .int .u8 p0.Gates, .int .i16 p0.Base, sv ad1 p0.Speeds cap2, .int .u32 p0.Blank, sv ad3 p0.Less cap4, sv ad5 p0.More cap6, .int .u16 p0.Jump] hF hS (by kernel_rfl) ⟨by kernel_rfl⟩ (by kernel_rfl) (fun _ => ⟨by kernel_rfl⟩) fun b10 w a hF hS => ?_)
 refine SK.wi (boxK (t := 73) (fun b11 => [(2, .int .u16 p2), (3, pb b10), (4, pb b11)]) (.agg #[.int .u16 p1.1, .int .u16 p1.2]) #[.int .u16 p1.1, .int .u16 p1.2] hF hS (by kernel_rfl) ⟨by kernel_rfl⟩ (by kernel_rfl) (fun _ => ⟨by kernel_rfl⟩) fun b11 w a hF hS => ?_)
 refine rn 1 3 [(2, .int .u16 p2), (3, pb b10), (4, pb b11)] hF fun a hF => ?_
 refine wfn rfl ?_
 refine esr ?_
 replace h := bindS h
 obtain ⟨x12, hx12, h⟩ := h
 refine rno 5 [.run [] (Instr.loadAt 5 (pb b10)) (.int .u8 p0.Kind), .run [] (binOp .rem 5 (.int .u8 p0.Kind) (.int .u8 2)) (.int .u8 x12), .run [] (binOp .add 5 (.int .u8 1) (.int .u8 x12)) (.int .u8 (IntKind.u8.wrap (1 + x12)))] 5 [(2, .int .u16 p2), (3, pb b10), (4, pb b11), (24, .int .u8 (IntKind.u8.wrap (1 + x12))), (25, pb b10)] hF (ocons (ob1 (by kernel_rfl) (fun _ hd => (hS.at_ hd).cell (i := 1) (j := 0) rfl rfl)) (ocons (obRemK (fun _ => hx12)) (ocons (obW (by kernel_rfl)) onil))) fun a hF => ?_
 refine SK.wi (storeK (t := 5) [(2, .int .u16 p2), (3, pb b10), (4, pb b11)] 1 0 (.int .u8 (IntKind.u8.wrap (1 + x12))) #[.int .u8 (IntKind.u8.wrap (1 + x12)), .int .u8 p0.Lambda, .int .u16 p0.First, .int .u16 p0.Second, .int .u8 p0.Rose, .int .u8 p0.Gates, .int .i16 p0.Base, sv ad1 p0.Speeds cap2, .int .u32 p0.Blank, sv ad3 p0.Less cap4, sv ad5 p0.More cap6, .int .u16 p0.Jump] hF hS rfl (by kernel_rfl) ⟨by kernel_rfl⟩ (by kernel_rfl) (by kernel_rfl) (by kernel_rfl) (by kernel_rfl) ⟨by kernel_rfl⟩ fun w a hF hS => ?_)
 refine wfn rfl ?_
 refine esr ?_
 replace h := bindS h
 obtain ⟨y13, hy13, h⟩ := h
 refine rx 2 [.run [] (Instr.loadAt 72 (pb b10)) (.agg #[.int .u8 (IntKind.u8.wrap (1 + x12)), .int .u8 p0.Lambda, .int .u16 p0.First, .int .u16 p0.Second, .int .u8 p0.Rose, .int .u8 p0.Gates, .int .i16 p0.Base, sv ad1 p0.Speeds cap2, .int .u32 p0.Blank, sv ad3 p0.Less cap4, sv ad5 p0.More cap6, .int .u16 p0.Jump]), .call [] 35 #[.agg #[.int .u8 (IntKind.u8.wrap (1 + x12)), .int .u8 p0.Lambda, .int .u16 p0.First, .int .u16 p0.Second, .int .u8 p0.Rose, .int .u8 p0.Gates, .int .i16 p0.Base, sv ad1 p0.Speeds cap2, .int .u32 p0.Blank, sv ad3 p0.Less cap4, sv ad5 p0.More cap6, .int .u16 p0.Jump]] (y13.ag)] 2 [(2, .int .u16 p2), (3, pb b10), (4, pb b11), (27, y13.ag)] hF (ocons (obN (us := [.int .u8 (IntKind.u8.wrap (1 + x12)), .int .u8 p0.Lambda, .int .u16 p0.First, .int .u16 p0.Second, .int .u8 p0.Rose, .int .u8 p0.Gates, .int .i16 p0.Base, sv ad1 p0.Speeds cap2, .int .u32 p0.Blank, sv ad3 p0.Less cap4, sv ad5 p0.More cap6, .int .u16 p0.Jump]) (by kernel_rfl) (fun _ hd => ((hS.later hd).blk (i := 1) rfl).cells rfl)) (ocons (show Ob.ok _ Ext _ _ from fun hk w2 hd => law03_Air_train_ok F (law03_Air.mk (IntKind.u8.wrap (1 + x12)) p0.Lambda p0.First p0.Second p0.Rose p0.Gates p0.Base p0.Speeds p0.Blank p0.Less p0.More p0.Jump) _ ((fun _ => hy13) hk) _ w2 (memOf_at w2) (hA7.mono (FrzAt.le_mem ((hS.later hd).frz (i := 2) rfl hlow))) (hA8.mono (FrzAt.le_mem ((hS.later hd).frz (i := 2) rfl hlow))) (hA9.mono (FrzAt.le_mem ((hS.later hd).frz (i := 2) rfl hlow)))) onil)) fun a w hF hx => ?_
 replace hS := hS.later hx
 refine SK.wi (allocK (t := 33) (fun b14 => [(2, .int .u16 p2), (3, pb b10), (4, pb b11), (7, pb b14), (27, y13.ag)]) #[iv 0, iv 0, iv 0, iv 0, iv 0] hF hS (by kernel_rfl) ⟨by kernel_rfl⟩ (by kernel_rfl) (fun _ => ⟨by kernel_rfl⟩) fun b14 w a hF hS => ?_)
 refine SK.wi (storeK (t := 33) [(2, .int .u16 p2), (3, pb b10), (4, pb b11), (7, pb b14)] 0 0 (y13.ag) y13.ar hF hS rfl (by kernel_rfl) ⟨by kernel_rfl⟩ (by kernel_rfl) (by kernel_rfl) (by kernel_rfl) (by kernel_rfl) ⟨by kernel_rfl⟩ fun w a hF hS => ?_)
 refine wfn rfl ?_
 refine esr ?_
 replace h := bindS h
 obtain ⟨x15, hx15, h⟩ := h
 refine rno 4 [.run [] (Instr.loadAt 67 (.pointer (some ⟨b10, 6, none⟩))) (.int .i16 p0.Base), .run [] (convert 67 3 (.int .i16 p0.Base)) (iv x15)] 4 [(2, .int .u16 p2), (3, pb b10), (4, pb b11), (7, pb b14), (8, iv x15)] hF (ocons (ob1 (by kernel_rfl) (fun _ hd => (hS.at_ hd).cell (i := 2) (j := 6) rfl rfl)) (ocons (obConvC (by kernel_rfl) (by kernel_rfl) (fun _ => hx15)) onil)) fun a hF => ?_
 refine wfn rfl ?_
 refine eseq ?_
 replace h := bindS h
 obtain ⟨x16, hx16, h⟩ := h
 replace h := bindS h
 obtain ⟨x17, hx17, h⟩ := h
 replace h := bindS h
 obtain ⟨x18, hx18, h⟩ := h
 replace h := bindS h
 obtain ⟨x19, hx19, h⟩ := h
 replace h := bindS h
 obtain ⟨x20, hx20, h⟩ := h
 replace h := bindS h
 obtain ⟨x21, hx21, h⟩ := h
 replace h := bindS h
 obtain ⟨x22, hx22, h⟩ := h
 replace h := bindS h
 obtain ⟨x23, hx23, h⟩ := h
 replace h := bindS h
 obtain ⟨x24, hx24, h⟩ := h
 replace h := bindS h
 obtain ⟨x25, hx25, h⟩ := h
 replace h := bindS h
 obtain ⟨x26, hx26, h⟩ := h
 replace h := bindS h
 obtain ⟨y28, hy28, h⟩ := h
 replace h := bindS h
 obtain ⟨y30, hy30, h⟩ := h
 refine region_treeW 33 [12, 30, 31, 32] (fun a w => ∃ (b47 : Nat), Fr 137 [] [(2, .int .u16 p2), (7, pb b14), (9, pb b47), (62, (law03_echo y28 y30).ag)] a ∧ St w0 [blk b47 28 #[iv 0, iv 0, iv 0, iv 0, iv 0, iv 0, iv 0, iv 0, iv 0, iv 0, iv 0, iv 0, iv 0, iv 0], blk b14 33 y13.ar, blk b11 73 #[.int .u16 p1.1, .int .u16 p1.2], blk b10 72 #[.int .u8 (IntKind.u8.wrap (1 + x12)), .int .u8 p0.Lambda, .int .u16 p0.First, .int .u16 p0.Second, .int .u8 p0.Rose, .int .u8 p0.Gates, .int .i16 p0.Base, sv ad1 p0.Speeds cap2, .int .u32 p0.Blank, sv ad3 p0.Less cap4, sv ad5 p0.More cap6, .int .u16 p0.Jump], fz w0 μ] w) (D := fun w => St w0 [blk b14 33 y13.ar, blk b11 73 #[.int .u16 p1.1, .int .u16 p1.2], blk b10 72 #[.int .u8 (IntKind.u8.wrap (1 + x12)), .int .u8 p0.Lambda, .int .u16 p0.First, .int .u16 p0.Second, .int .u8 p0.Rose, .int .u8 p0.Gates, .int .i16 p0.Base, sv ad1 p0.Speeds cap2, .int .u32 p0.Blank, sv ad3 p0.Less cap4, sv ad5 p0.More cap6, .int .u16 p0.Jump]] w ∧ FrzAt μ w) (by kernel_rfl) (by kernel_rfl) hF.size (fun w hx => ?_) ?_
 ·skip
  replace hS := hS.later hx
  refine ⟨⟨St.pick [0, 1, 2] (by decide) hS, hS.frz (i := 3) rfl hlow⟩, ?_⟩
  have hcl48 := Frz.le_refl μ
  refine WT.s [0, 1, 2, 3, 4, 5, 6, 7, 8, 9, 10, 11, 13, 14, 15, 16, 17, 18, 19, 20, 21, 22, 23, 24, 25, 26, 27, 28, 29] [12, 32] (by kernel_rfl) (by kernel_rfl) ?_
  refine runC (rest := []) (obs := [.run [] (Instr.loadAt 33 (pb b14)) (y13.ag), .run [] (Instr.loadAt 3 (.pointer (some ⟨b14, 2, none⟩))) (iv y13.First), .run [] (Instr.indexAt 73 (pb b11) (iv 0)) (pb b11), .run [] (Instr.loadAt 66 (pb b11)) (.int .u16 p1.1), .run [] (convert 66 3 (.int .u16 p1.1)) (iv x16), .run [] (binOp .rem 3 (iv x16) (iv 30000)) (iv x17), .run [] (Instr.indexAt 73 (pb b11) (iv 1)) (.pointer (some ⟨b11, 1, none⟩)), .run [] (Instr.loadAt 66 (.pointer (some ⟨b11, 1, none⟩))) (.int .u16 p1.2), .run [] (convert 66 3 (.int .u16 p1.2)) (iv x18), .run [] (binOp .rem 3 (iv x18) (iv 30000)) (iv x19), .run [] (Instr.loadAt 33 (pb b14)) (y13.ag), .run [] (Instr.loadAt 3 (.pointer (some ⟨b14, 3, none⟩))) (iv y13.Second), .run [] (Instr.loadAt 66 (.pointer (some ⟨b10, 11, none⟩))) (.int .u16 p0.Jump), .run [] (convert 66 3 (.int .u16 p0.Jump)) (iv x20), .run [] (binOp .rem 3 (iv x20) (iv 8000)) (iv x21), .run [] (binOp .add 3 (iv x15) (iv x21)) (iv x22), .run [] (Instr.indexAt 73 (pb b11) (iv 1)) (.pointer (some ⟨b11, 1, none⟩)), .run [] (Instr.loadAt 66 (.pointer (some ⟨b11, 1, none⟩))) (.int .u16 p1.2), .run [] (convert 66 3 (.int .u16 p1.2)) (iv x23), .run [] (binOp .rem 3 (iv x23) (iv 30000)) (iv x24), .run [] (Instr.indexAt 73 (pb b11) (iv 0)) (pb b11), .run [] (Instr.loadAt 66 (pb b11)) (.int .u16 p1.1), .run [] (convert 66 3 (.int .u16 p1.1)) (iv x25), .run [] (binOp .rem 3 (iv x25) (iv 30000)) (iv x26)]) [0, 1, 2, 3, 4, 5, 6, 7, 8, 9, 10, 11, 13, 14, 15, 16, 17, 18, 19, 20, 21, 22, 23, 24, 25, 26, 27, 28, 29] [(2, .int .u16 p2), (7, pb b14), (31, y13.ag), (33, iv y13.First), (34, iv x15), (38, iv x17), (42, iv x19), (44, y13.ag), (46, iv y13.Second), (52, iv x22), (56, iv x24), (60, iv x26)] hF (by kernel_rfl) (by kernel_rfl) (ocons (obN (us := y13.cells) (by kernel_rfl) (fun _ hd => (hd.1.blk (i := 0) rfl).cells rfl)) (ocons (ob1 (by kernel_rfl) (fun _ hd => hd.1.cell (i := 0) (j := 2) rfl rfl)) (ocons (obPureSem (by kernel_rfl)) (ocons (ob1 (by kernel_rfl) (fun _ hd => hd.1.cell (i := 1) (j := 0) rfl rfl)) (ocons (obConvC (by kernel_rfl) (by kernel_rfl) (fun _ => hx16)) (ocons (obRemC (fun _ => hx17)) (ocons (obPureSem (by kernel_rfl)) (ocons (ob1 (by kernel_rfl) (fun _ hd => hd.1.cell (i := 1) (j := 1) rfl rfl)) (ocons (obConvC (by kernel_rfl) (by kernel_rfl) (fun _ => hx18)) (ocons (obRemC (fun _ => hx19)) (ocons (obN (us := y13.cells) (by kernel_rfl) (fun _ hd => (hd.1.blk (i := 0) rfl).cells rfl)) (ocons (ob1 (by kernel_rfl) (fun _ hd => hd.1.cell (i := 0) (j := 3) rfl rfl)) (ocons (ob1 (by kernel_rfl) (fun _ hd => hd.1.cell (i := 2) (j := 11) rfl rfl)) (ocons (obConvC (by kernel_rfl) (by kernel_rfl) (fun _ => hx20)) (ocons (obRemC (fun _ => hx21)) (ocons (obAddC (fun _ => hx22)) (ocons (obPureSem (by kernel_rfl)) (ocons (ob1 (by kernel_rfl) (fun _ hd => hd.1.cell (i := 1) (j := 1) rfl rfl)) (ocons (obConvC (by kernel_rfl) (by kernel_rfl) (fun _ => hx23)) (ocons (obRemC (fun _ => hx24)) (ocons (obPureSem (by kernel_rfl)) (ocons (ob1 (by kernel_rfl) (fun _ hd => hd.1.cell (i := 1) (j := 0) rfl rfl)) (ocons (obConvC (by kernel_rfl) (by kernel_rfl) (fun _ => hx25)) (ocons (obRemC (fun _ => hx26)) onil)))))))))))))))))))))))) ⟨by kernel_rfl⟩ fun a hF => ?_
  refine WRun.fin ?_
  refine all_cons ?_ (all_cons ?_ (all_nil))
  ·skip
   refine callK (f := 37) (args := #[y13.ag, iv y13.First, iv x15, iv x17, iv x19]) (R := fun v w2 => v = .agg #[iv y28.Lo, iv y28.Hi] ∧ Ext w w2) (fun v49 => [(2, .int .u16 p2), (7, pb b14), (43, v49), (44, y13.ag), (46, iv y13.Second), (52, iv x22), (56, iv x24), (60, iv x26)]) hF (by kernel_rfl) ⟨by kernel_rfl⟩ (Calls.mono (law03_step_ok F y13 y13.First x15 x17 x19 _ hy28 (memOf w) w (memOf_at w) ) (fun e w2 h => ⟨_, h.1, rfl, h.2⟩)) (fun _ => ⟨by kernel_rfl⟩) ?_
   rintro v49 w a ⟨rfl, hx⟩ hF
   replace hS := hS.later hx
   refine ⟨⟨St.pick [0, 1, 2] (by decide) hS, (hS.frz (i := 3) rfl hlow)⟩, ?_⟩
   refine WT.s [] [30, 32] (by kernel_rfl) (by kernel_rfl) ?_
   refine WRun.fin ?_
   refine all_cons ?_ (all_cons ?_ (all_nil))
   ·skip
    refine callK (f := 37) (args := #[y13.ag, iv y13.Second, iv x22, iv x24, iv x26]) (R := fun v w2 => v = .agg #[iv y30.Lo, iv y30.Hi] ∧ Ext w w2) (fun v50 => [(2, .int .u16 p2), (7, pb b14), (43, .agg #[iv y28.Lo, iv y28.Hi]), (61, v50)]) hF (by kernel_rfl) ⟨by kernel_rfl⟩ (Calls.mono (law03_step_ok F y13 y13.Second x22 x24 x26 _ hy30 (memOf w) w (memOf_at w) ) (fun e w2 h => ⟨_, h.1, rfl, h.2⟩)) (fun _ => ⟨by kernel_rfl⟩) ?_
    rintro v50 w a ⟨rfl, hx⟩ hF
    replace hS := hS.later hx
    refine ⟨⟨St.pick [0, 1, 2] (by decide) hS, (hS.frz (i := 3) rfl hlow)⟩, ?_⟩
    refine WT.s [] [31, 32] (by kernel_rfl) (by kernel_rfl) ?_
    refine WRun.fin ?_
    refine all_cons ?_ (all_cons ?_ (all_nil))
    ·skip
     refine callK (f := 36) (args := #[.agg #[iv y28.Lo, iv y28.Hi], .agg #[iv y30.Lo, iv y30.Hi]]) (R := fun v w2 => v = (law03_echo y28 y30).ag ∧ Ext w w2) (fun v51 => [(2, .int .u16 p2), (7, pb b14), (62, v51)]) hF (by kernel_rfl) ⟨by kernel_rfl⟩ (Calls.mono (law03_echo_ok y28 y30 _ rfl (memOf w) w (memOf_at w) ) (fun e w2 h => ⟨_, h.1, rfl, h.2⟩)) (fun _ => ⟨by kernel_rfl⟩) ?_
     rintro v51 w a ⟨rfl, hx⟩ hF
     replace hS := hS.later hx
     refine ⟨⟨St.pick [0, 1, 2] (by decide) hS, (hS.frz (i := 3) rfl hlow)⟩, ?_⟩
     refine WT.s [] [32] (by kernel_rfl) (by kernel_rfl) ?_
     refine WRun.fin ?_
     refine all_cons ?_ (all_nil)
     refine allocK (t := 28) (fun b52 => [(2, .int .u16 p2), (7, pb b14), (9, pb b52), (62, (law03_echo y28 y30).ag)]) #[iv 0, iv 0, iv 0, iv 0, iv 0, iv 0, iv 0, iv 0, iv 0, iv 0, iv 0, iv 0, iv 0, iv 0] hF hS (by kernel_rfl) ⟨by kernel_rfl⟩ (by kernel_rfl) (fun _ => ⟨by kernel_rfl⟩) fun b52 w a hF hS => ⟨⟨St.pick [1, 2, 3] (by decide) hS, (hS.frz (i := 4) rfl hlow)⟩, ?_⟩
     refine WT.z [] (by kernel_rfl) ?_
     refine WRun.fin ?_
     exact ⟨b52, hF.sub (by kernel_rfl), St.pick [0, 1, 2, 3, 4] (by decide) hS⟩
    ·skip
     refine allocK (t := 28) (fun b53 => [(2, .int .u16 p2), (7, pb b14), (9, pb b53), (43, .agg #[iv y28.Lo, iv y28.Hi]), (61, .agg #[iv y30.Lo, iv y30.Hi])]) #[iv 0, iv 0, iv 0, iv 0, iv 0, iv 0, iv 0, iv 0, iv 0, iv 0, iv 0, iv 0, iv 0, iv 0] hF hS (by kernel_rfl) ⟨by kernel_rfl⟩ (by kernel_rfl) (fun _ => ⟨by kernel_rfl⟩) fun b53 w a hF hS => ⟨⟨St.pick [1, 2, 3] (by decide) hS, (hS.frz (i := 4) rfl hlow)⟩, ?_⟩
     refine WT.s [] [31] (by kernel_rfl) (by kernel_rfl) ?_
     refine WRun.fin ?_
     refine all_cons ?_ (all_nil)
     refine callK (f := 36) (args := #[.agg #[iv y28.Lo, iv y28.Hi], .agg #[iv y30.Lo, iv y30.Hi]]) (R := fun v w2 => v = (law03_echo y28 y30).ag ∧ Ext w w2) (fun v54 => [(2, .int .u16 p2), (7, pb b14), (9, pb b53), (62, v54)]) hF (by kernel_rfl) ⟨by kernel_rfl⟩ (Calls.mono (law03_echo_ok y28 y30 _ rfl (memOf w) w (memOf_at w) ) (fun e w2 h => ⟨_, h.1, rfl, h.2⟩)) (fun _ => ⟨by kernel_rfl⟩) ?_
     rintro v54 w a ⟨rfl, hx⟩ hF
     replace hS := hS.later hx
     refine ⟨⟨St.pick [1, 2, 3] (by decide) hS, (hS.frz (i := 4) rfl hlow)⟩, ?_⟩
     refine WT.z [] (by kernel_rfl) ?_
     refine WRun.fin ?_
     exact ⟨b53, hF.sub (by kernel_rfl), St.pick [0, 1, 2, 3, 4] (by decide) hS⟩
   ·skip
    refine allocK (t := 28) (fun b55 => [(2, .int .u16 p2), (7, pb b14), (9, pb b55), (43, .agg #[iv y28.Lo, iv y28.Hi]), (44, y13.ag), (46, iv y13.Second), (52, iv x22), (56, iv x24), (60, iv x26)]) #[iv 0, iv 0, iv 0, iv 0, iv 0, iv 0, iv 0, iv 0, iv 0, iv 0, iv 0, iv 0, iv 0, iv 0] hF hS (by kernel_rfl) ⟨by kernel_rfl⟩ (by kernel_rfl) (fun _ => ⟨by kernel_rfl⟩) fun b55 w a hF hS => ⟨⟨St.pick [1, 2, 3] (by decide) hS, (hS.frz (i := 4) rfl hlow)⟩, ?_⟩
    refine WT.s [] [30] (by kernel_rfl) (by kernel_rfl) ?_
    refine WRun.fin ?_
    refine all_cons ?_ (all_nil)
    refine callK (f := 37) (args := #[y13.ag, iv y13.Second, iv x22, iv x24, iv x26]) (R := fun v w2 => v = .agg #[iv y30.Lo, iv y30.Hi] ∧ Ext w w2) (fun v56 => [(2, .int .u16 p2), (7, pb b14), (9, pb b55), (43, .agg #[iv y28.Lo, iv y28.Hi]), (61, v56)]) hF (by kernel_rfl) ⟨by kernel_rfl⟩ (Calls.mono (law03_step_ok F y13 y13.Second x22 x24 x26 _ hy30 (memOf w) w (memOf_at w) ) (fun e w2 h => ⟨_, h.1, rfl, h.2⟩)) (fun _ => ⟨by kernel_rfl⟩) ?_
    rintro v56 w a ⟨rfl, hx⟩ hF
    replace hS := hS.later hx
    refine ⟨⟨St.pick [1, 2, 3] (by decide) hS, (hS.frz (i := 4) rfl hlow)⟩, ?_⟩
    refine WT.s [] [31] (by kernel_rfl) (by kernel_rfl) ?_
    refine WRun.fin ?_
    refine all_cons ?_ (all_nil)
    refine callK (f := 36) (args := #[.agg #[iv y28.Lo, iv y28.Hi], .agg #[iv y30.Lo, iv y30.Hi]]) (R := fun v w2 => v = (law03_echo y28 y30).ag ∧ Ext w w2) (fun v57 => [(2, .int .u16 p2), (7, pb b14), (9, pb b55), (62, v57)]) hF (by kernel_rfl) ⟨by kernel_rfl⟩ (Calls.mono (law03_echo_ok y28 y30 _ rfl (memOf w) w (memOf_at w) ) (fun e w2 h => ⟨_, h.1, rfl, h.2⟩)) (fun _ => ⟨by kernel_rfl⟩) ?_
    rintro v57 w a ⟨rfl, hx⟩ hF
    replace hS := hS.later hx
    refine ⟨⟨St.pick [1, 2, 3] (by decide) hS, (hS.frz (i := 4) rfl hlow)⟩, ?_⟩
    refine WT.z [] (by kernel_rfl) ?_
    refine WRun.fin ?_
    exact ⟨b55, hF.sub (by kernel_rfl), St.pick [0, 1, 2, 3, 4] (by decide) hS⟩
  ·skip
   refine allocK (t := 28) (fun b58 => [(2, .int .u16 p2), (7, pb b14), (9, pb b58), (31, y13.ag), (33, iv y13.First), (34, iv x15), (38, iv x17), (42, iv x19), (44, y13.ag), (46, iv y13.Second), (52, iv x22), (56, iv x24), (60, iv x26)]) #[iv 0, iv 0, iv 0, iv 0, iv 0, iv 0, iv 0, iv 0, iv 0, iv 0, iv 0, iv 0, iv 0, iv 0] hF hS (by kernel_rfl) ⟨by kernel_rfl⟩ (by kernel_rfl) (fun _ => ⟨by kernel_rfl⟩) fun b58 w a hF hS => ⟨⟨St.pick [1, 2, 3] (by decide) hS, (hS.frz (i := 4) rfl hlow)⟩, ?_⟩
   refine WT.s [] [12] (by kernel_rfl) (by kernel_rfl) ?_
   refine WRun.fin ?_
   refine all_cons ?_ (all_nil)
   refine callK (f := 37) (args := #[y13.ag, iv y13.First, iv x15, iv x17, iv x19]) (R := fun v w2 => v = .agg #[iv y28.Lo, iv y28.Hi] ∧ Ext w w2) (fun v59 => [(2, .int .u16 p2), (7, pb b14), (9, pb b58), (43, v59), (44, y13.ag), (46, iv y13.Second), (52, iv x22), (56, iv x24), (60, iv x26)]) hF (by kernel_rfl) ⟨by kernel_rfl⟩ (Calls.mono (law03_step_ok F y13 y13.First x15 x17 x19 _ hy28 (memOf w) w (memOf_at w) ) (fun e w2 h => ⟨_, h.1, rfl, h.2⟩)) (fun _ => ⟨by kernel_rfl⟩) ?_
   rintro v59 w a ⟨rfl, hx⟩ hF
   replace hS := hS.later hx
   refine ⟨⟨St.pick [1, 2, 3] (by decide) hS, (hS.frz (i := 4) rfl hlow)⟩, ?_⟩
   refine WT.s [] [30] (by kernel_rfl) (by kernel_rfl) ?_
   refine WRun.fin ?_
   refine all_cons ?_ (all_nil)
   refine callK (f := 37) (args := #[y13.ag, iv y13.Second, iv x22, iv x24, iv x26]) (R := fun v w2 => v = .agg #[iv y30.Lo, iv y30.Hi] ∧ Ext w w2) (fun v60 => [(2, .int .u16 p2), (7, pb b14), (9, pb b58), (43, .agg #[iv y28.Lo, iv y28.Hi]), (61, v60)]) hF (by kernel_rfl) ⟨by kernel_rfl⟩ (Calls.mono (law03_step_ok F y13 y13.Second x22 x24 x26 _ hy30 (memOf w) w (memOf_at w) ) (fun e w2 h => ⟨_, h.1, rfl, h.2⟩)) (fun _ => ⟨by kernel_rfl⟩) ?_
   rintro v60 w a ⟨rfl, hx⟩ hF
   replace hS := hS.later hx
   refine ⟨⟨St.pick [1, 2, 3] (by decide) hS, (hS.frz (i := 4) rfl hlow)⟩, ?_⟩
   refine WT.s [] [31] (by kernel_rfl) (by kernel_rfl) ?_
   refine WRun.fin ?_
   refine all_cons ?_ (all_nil)
   refine callK (f := 36) (args := #[.agg #[iv y28.Lo, iv y28.Hi], .agg #[iv y30.Lo, iv y30.Hi]]) (R := fun v w2 => v = (law03_echo y28 y30).ag ∧ Ext w w2) (fun v61 => [(2, .int .u16 p2), (7, pb b14), (9, pb b58), (62, v61)]) hF (by kernel_rfl) ⟨by kernel_rfl⟩ (Calls.mono (law03_echo_ok y28 y30 _ rfl (memOf w) w (memOf_at w) ) (fun e w2 h => ⟨_, h.1, rfl, h.2⟩)) (fun _ => ⟨by kernel_rfl⟩) ?_
   rintro v61 w a ⟨rfl, hx⟩ hF
   replace hS := hS.later hx
   refine ⟨⟨St.pick [1, 2, 3] (by decide) hS, (hS.frz (i := 4) rfl hlow)⟩, ?_⟩
   refine WT.z [] (by kernel_rfl) ?_
   refine WRun.fin ?_
   exact ⟨b58, hF.sub (by kernel_rfl), St.pick [0, 1, 2, 3, 4] (by decide) hS⟩
 rintro a w ⟨b47, hF, hS⟩
 refine SK.wi (storeK (t := 28) [(2, .int .u16 p2), (7, pb b14), (9, pb b47)] 0 0 ((law03_echo y28 y30).ag) (law03_echo y28 y30).ar hF hS rfl (by kernel_rfl) ⟨by kernel_rfl⟩ (by kernel_rfl) (by kernel_rfl) (by kernel_rfl) (by kernel_rfl) ⟨by kernel_rfl⟩ fun w a hF hS => ?_)
 refine wfn rfl ?_
 refine esr ?_
 replace h := bindS h
 obtain ⟨x62, hx62, h⟩ := h
 replace h := bindS h
 obtain ⟨x63, hx63, h⟩ := h
 replace h := bindS h
 obtain ⟨x64, hx64, h⟩ := h
 refine rno 5 [.run [] (convert 66 3 (.int .u16 p2)) (iv x62), .run [] (binOp .rem 3 (iv x62) (iv 60000)) (iv x63), .run [] (binOp .add 3 (iv 1) (iv x63)) (iv x64)] 5 [(7, pb b14), (9, pb b47), (10, iv x64)] hF (ocons (obConvC (by kernel_rfl) (by kernel_rfl) (fun _ => hx62)) (ocons (obRemC (fun _ => hx63)) (ocons (obAddC (fun _ => hx64)) onil))) fun a hF => ?_
 refine wfn rfl ?_
 refine esr ?_
 refine rno 3 [.run [] (Instr.loadAt 33 (pb b14)) (y13.ag), .run [] (Instr.loadAt 28 (pb b47)) ((law03_echo y28 y30).ag)] 3 [(7, pb b14), (9, pb b47), (10, iv x64), (68, y13.ag), (69, (law03_echo y28 y30).ag), (70, iv x64)] hF (ocons (obN (us := y13.cells) (by kernel_rfl) (fun _ hd => ((hS.at_ hd).blk (i := 1) rfl).cells rfl)) (ocons (obN (us := (law03_echo y28 y30).cells) (by kernel_rfl) (fun _ hd => ((hS.at_ hd).blk (i := 0) rfl).cells rfl)) onil)) fun a hF => ?_
 replace h := bindS h
 obtain ⟨y66, hy66, h⟩ := h
 refine SK.wi (callK (f := 14) (args := #[y13.ag, (law03_echo y28 y30).ag, iv x64]) (R := fun v w2 => ∃ ad67 cap68, v = .tuple #[sv ad67 y66.1 cap68, iv y66.2] ∧ St w [arr 79 4 fold_Guess.cells ad67 y66.1.length cap68 y66.1] w2) (fun v65 => [(7, pb b14), (9, pb b47), (10, iv x64), (71, v65)]) hF (by kernel_rfl) ⟨by kernel_rfl⟩ (Calls.mono (fold_Guesses_ok F y13 (api_Echo.mk ((law03_echo y28 y30).Kind) ((law03_echo y28 y30).Power) ((api_Span.mk ((((law03_echo y28 y30).Steps).1).Lo) ((((law03_echo y28 y30).Steps).1).Hi)), (api_Span.mk ((((law03_echo y28 y30).Steps).2).Lo) ((((law03_echo y28 y30).Steps).2).Hi))) ((law03_echo y28 y30).Spread) ((law03_echo y28 y30).Ratio) ((law03_echo y28 y30).Match) ((law03_echo y28 y30).Turn)) x64 _ hy66 (memOf w) w (memOf_at w) ) (by rintro e w2 ⟨ad67, cap68, rfl, h⟩; exact ⟨_, rfl, ad67, cap68, rfl, h⟩)) (fun _ => ⟨by kernel_rfl⟩) ?_)
 rintro v65 w a ⟨ad67, cap68, rfl, hQ⟩ hF
 replace hS : St w0 [arr 79 4 fold_Guess.cells ad67 y66.1.length cap68 y66.1, blk b47 28 (law03_echo y28 y30).ar, blk b14 33 y13.ar, blk b11 73 #[.int .u16 p1.1, .int .u16 p1.2], blk b10 72 #[.int .u8 (IntKind.u8.wrap (1 + x12)), .int .u8 p0.Lambda, .int .u16 p0.First, .int .u16 p0.Second, .int .u8 p0.Rose, .int .u8 p0.Gates, .int .i16 p0.Base, sv ad1 p0.Speeds cap2, .int .u32 p0.Blank, sv ad3 p0.Less cap4, sv ad5 p0.More cap6, .int .u16 p0.Jump], fz w0 μ] w := hS.madeL hQ
 refine rn 5 9 [(7, pb b14), (9, pb b47), (10, iv x64), (11, sv ad67 y66.1 cap68), (12, iv y66.2)] hF fun a hF => ?_
 refine wfn rfl ?_
 refine esr ?_
 refine rno 5 [.run [] (Instr.loadAt 3 (pb b14)) (iv y13.Lambda), .run [] (Instr.loadAt 3 (.pointer (some ⟨b14, 2, none⟩))) (iv y13.First)] 5 [(7, pb b14), (9, pb b47), (10, iv x64), (11, sv ad67 y66.1 cap68), (12, iv y66.2), (78, .agg #[iv y13.Lambda, iv 1, iv y13.First, iv 0, iv 4])] hF (ocons (ob1 (by kernel_rfl) (fun _ hd => (hS.at_ hd).cell (i := 2) (j := 0) rfl rfl)) (ocons (ob1 (by kernel_rfl) (fun _ hd => (hS.at_ hd).cell (i := 2) (j := 2) rfl rfl)) onil)) fun a hF => ?_
 refine SK.wi (allocK (t := 33) (fun b69 => [(7, pb b14), (9, pb b47), (10, iv x64), (11, sv ad67 y66.1 cap68), (12, iv y66.2), (13, pb b69), (78, .agg #[iv y13.Lambda, iv 1, iv y13.First, iv 0, iv 4])]) #[iv 0, iv 0, iv 0, iv 0, iv 0] hF hS (by kernel_rfl) ⟨by kernel_rfl⟩ (by kernel_rfl) (fun _ => ⟨by kernel_rfl⟩) fun b69 w a hF hS => ?_)
 refine SK.wi (storeK (t := 33) [(7, pb b14), (9, pb b47), (10, iv x64), (11, sv ad67 y66.1 cap68), (12, iv y66.2), (13, pb b69)] 0 0 (.agg #[iv y13.Lambda, iv 1, iv y13.First, iv 0, iv 4]) #[iv y13.Lambda, iv 1, iv y13.First, iv 0, iv 4] hF hS rfl (by kernel_rfl) ⟨by kernel_rfl⟩ (by kernel_rfl) (by kernel_rfl) (by kernel_rfl) (by kernel_rfl) ⟨by kernel_rfl⟩ fun w a hF hS => ?_)
 refine wfn rfl ?_
 refine esr ?_
 refine rno 1 [.run [] (Instr.loadAt 33 (pb b69)) (.agg #[iv y13.Lambda, iv 1, iv y13.First, iv 0, iv 4])] 1 [(7, pb b14), (9, pb b47), (10, iv x64), (11, sv ad67 y66.1 cap68), (12, iv y66.2), (13, pb b69), (79, .agg #[iv y13.Lambda, iv 1, iv y13.First, iv 0, iv 4])] hF (ocons (obN (us := [iv y13.Lambda, iv 1, iv y13.First, iv 0, iv 4]) (by kernel_rfl) (fun _ hd => ((hS.at_ hd).blk (i := 0) rfl).cells rfl)) onil) fun a hF => ?_
 refine SK.wi (allocK (t := 33) (fun b70 => [(7, pb b14), (9, pb b47), (10, iv x64), (11, sv ad67 y66.1 cap68), (12, iv y66.2), (13, pb b69), (14, pb b70), (79, .agg #[iv y13.Lambda, iv 1, iv y13.First, iv 0, iv 4])]) #[iv 0, iv 0, iv 0, iv 0, iv 0] hF hS (by kernel_rfl) ⟨by kernel_rfl⟩ (by kernel_rfl) (fun _ => ⟨by kernel_rfl⟩) fun b70 w a hF hS => ?_)
 refine SK.wi (storeK (t := 33) [(7, pb b14), (9, pb b47), (10, iv x64), (11, sv ad67 y66.1 cap68), (12, iv y66.2), (13, pb b69), (14, pb b70)] 0 0 (.agg #[iv y13.Lambda, iv 1, iv y13.First, iv 0, iv 4]) #[iv y13.Lambda, iv 1, iv y13.First, iv 0, iv 4] hF hS rfl (by kernel_rfl) ⟨by kernel_rfl⟩ (by kernel_rfl) (by kernel_rfl) (by kernel_rfl) (by kernel_rfl) ⟨by kernel_rfl⟩ fun w a hF hS => ?_)
 refine wfn rfl ?_
 refine esr ?_
 refine rno 3 [.run [] (Instr.loadAt 3 (.pointer (some ⟨b14, 3, none⟩))) (iv y13.Second)] 3 [(9, pb b47), (10, iv x64), (11, sv ad67 y66.1 cap68), (12, iv y66.2), (13, pb b69), (14, pb b70), (81, iv y13.Second), (82, .pointer (some ⟨b70, 2, none⟩))] hF (ocons (ob1 (by kernel_rfl) (fun _ hd => (hS.at_ hd).cell (i := 4) (j := 3) rfl rfl)) onil) fun a hF => ?_
 refine SK.wi (storeK (t := 3) [(9, pb b47), (10, iv x64), (11, sv ad67 y66.1 cap68), (12, iv y66.2), (13, pb b69), (14, pb b70)] 0 2 (iv y13.Second) #[iv y13.Lambda, iv 1, iv y13.Second, iv 0, iv 4] hF hS rfl (by kernel_rfl) ⟨by kernel_rfl⟩ (by kernel_rfl) (by kernel_rfl) (by kernel_rfl) (by kernel_rfl) ⟨by kernel_rfl⟩ fun w a hF hS => ?_)
 refine wfn rfl ?_
 refine esr ?_
 refine rno 3 [.run [] (Instr.loadAt 33 (pb b69)) (.agg #[iv y13.Lambda, iv 1, iv y13.First, iv 0, iv 4]), .run [] (Instr.loadAt 28 (pb b47)) ((law03_echo y28 y30).ag)] 3 [(9, pb b47), (10, iv x64), (11, sv ad67 y66.1 cap68), (12, iv y66.2), (14, pb b70), (84, .agg #[iv y13.Lambda, iv 1, iv y13.First, iv 0, iv 4]), (85, (law03_echo y28 y30).ag), (86, iv x64)] hF (ocons (obN (us := [iv y13.Lambda, iv 1, iv y13.First, iv 0, iv 4]) (by kernel_rfl) (fun _ hd => ((hS.at_ hd).blk (i := 1) rfl).cells rfl)) (ocons (obN (us := (law03_echo y28 y30).cells) (by kernel_rfl) (fun _ hd => ((hS.at_ hd).blk (i := 3) rfl).cells rfl)) onil)) fun a hF => ?_
 replace h := bindS h
 obtain ⟨y72, hy72, h⟩ := h
 refine SK.wi (callK (f := 14) (args := #[.agg #[iv y13.Lambda, iv 1, iv y13.First, iv 0, iv 4], (law03_echo y28 y30).ag, iv x64]) (R := fun v w2 => ∃ ad73 cap74, v = .tuple #[sv ad73 y72.1 cap74, iv y72.2] ∧ St w [arr 79 4 fold_Guess.cells ad73 y72.1.length cap74 y72.1] w2) (fun v71 => [(9, pb b47), (10, iv x64), (11, sv ad67 y66.1 cap68), (12, iv y66.2), (14, pb b70), (87, v71)]) hF (by kernel_rfl) ⟨by kernel_rfl⟩ (Calls.mono (fold_Guesses_ok F (pulse_Train.mk y13.Lambda 1 y13.First 0 4) (api_Echo.mk ((law03_echo y28 y30).Kind) ((law03_echo y28 y30).Power) ((api_Span.mk ((((law03_echo y28 y30).Steps).1).Lo) ((((law03_echo y28 y30).Steps).1).Hi)), (api_Span.mk ((((law03_echo y28 y30).Steps).2).Lo) ((((law03_echo y28 y30).Steps).2).Hi))) ((law03_echo y28 y30).Spread) ((law03_echo y28 y30).Ratio) ((law03_echo y28 y30).Match) ((law03_echo y28 y30).Turn)) x64 _ hy72 (memOf w) w (memOf_at w) ) (by rintro e w2 ⟨ad73, cap74, rfl, h⟩; exact ⟨_, rfl, ad73, cap74, rfl, h⟩)) (fun _ => ⟨by kernel_rfl⟩) ?_)
 rintro v71 w a ⟨ad73, cap74, rfl, hQ⟩ hF
 replace hS : St w0 [arr 79 4 fold_Guess.cells ad73 y72.1.length cap74 y72.1, blk b70 33 #[iv y13.Lambda, iv 1, iv y13.Second, iv 0, iv 4], blk b69 33 #[iv y13.Lambda, iv 1, iv y13.First, iv 0, iv 4], arr 79 4 fold_Guess.cells ad67 y66.1.length cap68 y66.1, blk b47 28 (law03_echo y28 y30).ar, blk b14 33 y13.ar, blk b11 73 #[.int .u16 p1.1, .int .u16 p1.2], blk b10 72 #[.int .u8 (IntKind.u8.wrap (1 + x12)), .int .u8 p0.Lambda, .int .u16 p0.First, .int .u16 p0.Second, .int .u8 p0.Rose, .int .u8 p0.Gates, .int .i16 p0.Base, sv ad1 p0.Speeds cap2, .int .u32 p0.Blank, sv ad3 p0.Less cap4, sv ad5 p0.More cap6, .int .u16 p0.Jump], fz w0 μ] w := hS.madeL hQ
 refine rn 5 9 [(9, pb b47), (10, iv x64), (11, sv ad67 y66.1 cap68), (12, iv y66.2), (14, pb b70), (15, sv ad73 y72.1 cap74), (16, iv y72.2)] hF fun a hF => ?_
 refine wfn rfl ?_
 refine eseq ?_
 replace h := bindS h
 obtain ⟨y77, hy77, h⟩ := h
 refine region_treeW 13 [5, 7] _ (D := fun w => St w0 [arr 79 4 fold_Guess.cells ad73 y72.1.length cap74 y72.1, blk b70 33 #[iv y13.Lambda, iv 1, iv y13.Second, iv 0, iv 4], blk b69 33 #[iv y13.Lambda, iv 1, iv y13.First, iv 0, iv 4], arr 79 4 fold_Guess.cells ad67 y66.1.length cap68 y66.1, blk b47 28 (law03_echo y28 y30).ar, blk b14 33 y13.ar, blk b11 73 #[.int .u16 p1.1, .int .u16 p1.2], blk b10 72 #[.int .u8 (IntKind.u8.wrap (1 + x12)), .int .u8 p0.Lambda, .int .u16 p0.First, .int .u16 p0.Second, .int .u8 p0.Rose, .int .u8 p0.Gates, .int .i16 p0.Base, sv ad1 p0.Speeds cap2, .int .u32 p0.Blank, sv ad3 p0.Less cap4, sv ad5 p0.More cap6, .int .u16 p0.Jump]] w ∧ FrzAt μ w) (by kernel_rfl) (by kernel_rfl) hF.size (fun w hx => ?_) (fun _ _ h => h)
 replace hS := hS.later hx
 refine ⟨⟨St.pick [0, 1, 2, 3, 4, 5, 6, 7] (by decide) hS, hS.frz (i := 8) rfl hlow⟩, ?_⟩
 have hcl84 := Frz.le_refl μ
 refine WT.s [0, 1, 2, 3, 4, 6] [5] (by kernel_rfl) (by kernel_rfl) ?_
 refine runC (rest := []) (obs := [.run [] (Instr.loadAt 33 (pb b70)) (.agg #[iv y13.Lambda, iv 1, iv y13.Second, iv 0, iv 4]), .run [] (Instr.indexAt 26 (.pointer (some ⟨b47, 3, none⟩)) (iv 1)) (.pointer (some ⟨b47, 5, none⟩)), .run [] (Instr.loadAt 25 (.pointer (some ⟨b47, 5, none⟩))) (.agg #[iv ((((law03_echo y28 y30).Steps).2).Lo), iv ((((law03_echo y28 y30).Steps).2).Hi)])]) [0, 1, 2, 3, 4, 6] [(11, sv ad67 y66.1 cap68), (12, iv y66.2), (15, sv ad73 y72.1 cap74), (16, iv y72.2), (91, .agg #[iv y13.Lambda, iv 1, iv y13.Second, iv 0, iv 4]), (94, .agg #[iv ((((law03_echo y28 y30).Steps).2).Lo), iv ((((law03_echo y28 y30).Steps).2).Hi)]), (95, .agg #[iv 0, iv 0]), (97, iv x64)] hF (by kernel_rfl) (by kernel_rfl) (ocons (obN (us := [iv y13.Lambda, iv 1, iv y13.Second, iv 0, iv 4]) (by kernel_rfl) (fun _ hd => (hd.1.blk (i := 1) rfl).cells rfl)) (ocons (obPureSem (by kernel_rfl)) (ocons (obN (us := [iv ((((law03_echo y28 y30).Steps).2).Lo), iv ((((law03_echo y28 y30).Steps).2).Hi)]) (by kernel_rfl) (fun _ hd => (hd.1.blk (i := 4) rfl).cells rfl)) onil))) ⟨by kernel_rfl⟩ fun a hF => ?_
 refine WRun.fin ?_
 refine all_cons ?_ (all_nil)
 refine callK (f := 36) (args := #[.agg #[iv ((((law03_echo y28 y30).Steps).2).Lo), iv ((((law03_echo y28 y30).Steps).2).Hi)], .agg #[iv 0, iv 0]]) (R := fun v w2 => v = .agg #[iv ((law03_echo (api_Span.mk ((((law03_echo y28 y30).Steps).2).Lo) ((((law03_echo y28 y30).Steps).2).Hi)) (api_Span.mk 0 0)).Kind), iv (((law03_echo (api_Span.mk ((((law03_echo y28 y30).Steps).2).Lo) ((((law03_echo y28 y30).Steps).2).Hi)) (api_Span.mk 0 0)).Power).Lo), iv (((law03_echo (api_Span.mk ((((law03_echo y28 y30).Steps).2).Lo) ((((law03_echo y28 y30).Steps).2).Hi)) (api_Span.mk 0 0)).Power).Hi), iv ((((law03_echo (api_Span.mk ((((law03_echo y28 y30).Steps).2).Lo) ((((law03_echo y28 y30).Steps).2).Hi)) (api_Span.mk 0 0)).Steps).1).Lo), iv ((((law03_echo (api_Span.mk ((((law03_echo y28 y30).Steps).2).Lo) ((((law03_echo y28 y30).Steps).2).Hi)) (api_Span.mk 0 0)).Steps).1).Hi), iv ((((law03_echo (api_Span.mk ((((law03_echo y28 y30).Steps).2).Lo) ((((law03_echo y28 y30).Steps).2).Hi)) (api_Span.mk 0 0)).Steps).2).Lo), iv ((((law03_echo (api_Span.mk ((((law03_echo y28 y30).Steps).2).Lo) ((((law03_echo y28 y30).Steps).2).Hi)) (api_Span.mk 0 0)).Steps).2).Hi), iv ((law03_echo (api_Span.mk ((((law03_echo y28 y30).Steps).2).Lo) ((((law03_echo y28 y30).Steps).2).Hi)) (api_Span.mk 0 0)).Spread), iv (((law03_echo (api_Span.mk ((((law03_echo y28 y30).Steps).2).Lo) ((((law03_echo y28 y30).Steps).2).Hi)) (api_Span.mk 0 0)).Ratio).Lo), iv (((law03_echo (api_Span.mk ((((law03_echo y28 y30).Steps).2).Lo) ((((law03_echo y28 y30).Steps).2).Hi)) (api_Span.mk 0 0)).Ratio).Hi), iv (((law03_echo (api_Span.mk ((((law03_echo y28 y30).Steps).2).Lo) ((((law03_echo y28 y30).Steps).2).Hi)) (api_Span.mk 0 0)).Match).Lo), iv (((law03_echo (api_Span.mk ((((law03_echo y28 y30).Steps).2).Lo) ((((law03_echo y28 y30).Steps).2).Hi)) (api_Span.mk 0 0)).Match).Hi), iv (((law03_echo (api_Span.mk ((((law03_echo y28 y30).Steps).2).Lo) ((((law03_echo y28 y30).Steps).2).Hi)) (api_Span.mk 0 0)).Turn).Lo), iv (((law03_echo (api_Span.mk ((((law03_echo y28 y30).Steps).2).Lo) ((((law03_echo y28 y30).Steps).2).Hi)) (api_Span.mk 0 0)).Turn).Hi)] ∧ Ext w w2) (fun v85 => [(11, sv ad67 y66.1 cap68), (12, iv y66.2), (15, sv ad73 y72.1 cap74), (16, iv y72.2), (91, .agg #[iv y13.Lambda, iv 1, iv y13.Second, iv 0, iv 4]), (96, v85), (97, iv x64)]) hF (by kernel_rfl) ⟨by kernel_rfl⟩ (Calls.mono (law03_echo_ok (api_Span.mk ((((law03_echo y28 y30).Steps).2).Lo) ((((law03_echo y28 y30).Steps).2).Hi)) (api_Span.mk 0 0) _ rfl (memOf w) w (memOf_at w) ) (fun e w2 h => ⟨_, h.1, rfl, h.2⟩)) (fun _ => ⟨by kernel_rfl⟩) ?_
 rintro v85 w a ⟨rfl, hx⟩ hF
 replace hS := hS.later hx
 refine ⟨⟨St.pick [0, 1, 2, 3, 4, 5, 6, 7] (by decide) hS, (hS.frz (i := 8) rfl hlow)⟩, ?_⟩
 refine WT.s [] [7] (by kernel_rfl) (by kernel_rfl) ?_
 refine WRun.fin ?_
 refine all_cons ?_ (all_nil)
 refine callK (f := 14) (args := #[.agg #[iv y13.Lambda, iv 1, iv y13.Second, iv 0, iv 4], .agg #[iv ((law03_echo (api_Span.mk ((((law03_echo y28 y30).Steps).2).Lo) ((((law03_echo y28 y30).Steps).2).Hi)) (api_Span.mk 0 0)).Kind), iv (((law03_echo (api_Span.mk ((((law03_echo y28 y30).Steps).2).Lo) ((((law03_echo y28 y30).Steps).2).Hi)) (api_Span.mk 0 0)).Power).Lo), iv (((law03_echo (api_Span.mk ((((law03_echo y28 y30).Steps).2).Lo) ((((law03_echo y28 y30).Steps).2).Hi)) (api_Span.mk 0 0)).Power).Hi), iv ((((law03_echo (api_Span.mk ((((law03_echo y28 y30).Steps).2).Lo) ((((law03_echo y28 y30).Steps).2).Hi)) (api_Span.mk 0 0)).Steps).1).Lo), iv ((((law03_echo (api_Span.mk ((((law03_echo y28 y30).Steps).2).Lo) ((((law03_echo y28 y30).Steps).2).Hi)) (api_Span.mk 0 0)).Steps).1).Hi), iv ((((law03_echo (api_Span.mk ((((law03_echo y28 y30).Steps).2).Lo) ((((law03_echo y28 y30).Steps).2).Hi)) (api_Span.mk 0 0)).Steps).2).Lo), iv ((((law03_echo (api_Span.mk ((((law03_echo y28 y30).Steps).2).Lo) ((((law03_echo y28 y30).Steps).2).Hi)) (api_Span.mk 0 0)).Steps).2).Hi), iv ((law03_echo (api_Span.mk ((((law03_echo y28 y30).Steps).2).Lo) ((((law03_echo y28 y30).Steps).2).Hi)) (api_Span.mk 0 0)).Spread), iv (((law03_echo (api_Span.mk ((((law03_echo y28 y30).Steps).2).Lo) ((((law03_echo y28 y30).Steps).2).Hi)) (api_Span.mk 0 0)).Ratio).Lo), iv (((law03_echo (api_Span.mk ((((law03_echo y28 y30).Steps).2).Lo) ((((law03_echo y28 y30).Steps).2).Hi)) (api_Span.mk 0 0)).Ratio).Hi), iv (((law03_echo (api_Span.mk ((((law03_echo y28 y30).Steps).2).Lo) ((((law03_echo y28 y30).Steps).2).Hi)) (api_Span.mk 0 0)).Match).Lo), iv (((law03_echo (api_Span.mk ((((law03_echo y28 y30).Steps).2).Lo) ((((law03_echo y28 y30).Steps).2).Hi)) (api_Span.mk 0 0)).Match).Hi), iv (((law03_echo (api_Span.mk ((((law03_echo y28 y30).Steps).2).Lo) ((((law03_echo y28 y30).Steps).2).Hi)) (api_Span.mk 0 0)).Turn).Lo), iv (((law03_echo (api_Span.mk ((((law03_echo y28 y30).Steps).2).Lo) ((((law03_echo y28 y30).Steps).2).Hi)) (api_Span.mk 0 0)).Turn).Hi)], iv x64]) (R := fun v w2 => ∃ ad87 cap88, v = .tuple #[sv ad87 y77.1 cap88, iv y77.2] ∧ St w [arr 79 4 fold_Guess.cells ad87 y77.1.length cap88 y77.1] w2) (fun v86 => [(11, sv ad67 y66.1 cap68), (12, iv y66.2), (15, sv ad73 y72.1 cap74), (16, iv y72.2), (98, v86)]) hF (by kernel_rfl) ⟨by kernel_rfl⟩ (Calls.mono (fold_Guesses_ok F (pulse_Train.mk y13.Lambda 1 y13.Second 0 4) (api_Echo.mk ((law03_echo (api_Span.mk ((((law03_echo y28 y30).Steps).2).Lo) ((((law03_echo y28 y30).Steps).2).Hi)) (api_Span.mk 0 0)).Kind) ((law03_echo (api_Span.mk ((((law03_echo y28 y30).Steps).2).Lo) ((((law03_echo y28 y30).Steps).2).Hi)) (api_Span.mk 0 0)).Power) ((api_Span.mk ((((law03_echo (api_Span.mk ((((law03_echo y28 y30).Steps).2).Lo) ((((law03_echo y28 y30).Steps).2).Hi)) (api_Span.mk 0 0)).Steps).1).Lo) ((((law03_echo (api_Span.mk ((((law03_echo y28 y30).Steps).2).Lo) ((((law03_echo y28 y30).Steps).2).Hi)) (api_Span.mk 0 0)).Steps).1).Hi)), (api_Span.mk ((((law03_echo (api_Span.mk ((((law03_echo y28 y30).Steps).2).Lo) ((((law03_echo y28 y30).Steps).2).Hi)) (api_Span.mk 0 0)).Steps).2).Lo) ((((law03_echo (api_Span.mk ((((law03_echo y28 y30).Steps).2).Lo) ((((law03_echo y28 y30).Steps).2).Hi)) (api_Span.mk 0 0)).Steps).2).Hi))) ((law03_echo (api_Span.mk ((((law03_echo y28 y30).Steps).2).Lo) ((((law03_echo y28 y30).Steps).2).Hi)) (api_Span.mk 0 0)).Spread) ((law03_echo (api_Span.mk ((((law03_echo y28 y30).Steps).2).Lo) ((((law03_echo y28 y30).Steps).2).Hi)) (api_Span.mk 0 0)).Ratio) ((law03_echo (api_Span.mk ((((law03_echo y28 y30).Steps).2).Lo) ((((law03_echo y28 y30).Steps).2).Hi)) (api_Span.mk 0 0)).Match) ((law03_echo (api_Span.mk ((((law03_echo y28 y30).Steps).2).Lo) ((((law03_echo y28 y30).Steps).2).Hi)) (api_Span.mk 0 0)).Turn)) x64 _ hy77 (memOf w) w (memOf_at w) ) (by rintro e w2 ⟨ad87, cap88, rfl, h⟩; exact ⟨_, rfl, ad87, cap88, rfl, h⟩)) (fun _ => ⟨by kernel_rfl⟩) ?_
 rintro v86 w a ⟨ad87, cap88, rfl, hQ⟩ hF
 replace hS : St w0 [arr 79 4 fold_Guess.cells ad87 y77.1.length cap88 y77.1, arr 79 4 fold_Guess.cells ad73 y72.1.length cap74 y72.1, blk b70 33 #[iv y13.Lambda, iv 1, iv y13.Second, iv 0, iv 4], blk b69 33 #[iv y13.Lambda, iv 1, iv y13.First, iv 0, iv 4], arr 79 4 fold_Guess.cells ad67 y66.1.length cap68 y66.1, blk b47 28 (law03_echo y28 y30).ar, blk b14 33 y13.ar, blk b11 73 #[.int .u16 p1.1, .int .u16 p1.2], blk b10 72 #[.int .u8 (IntKind.u8.wrap (1 + x12)), .int .u8 p0.Lambda, .int .u16 p0.First, .int .u16 p0.Second, .int .u8 p0.Rose, .int .u8 p0.Gates, .int .i16 p0.Base, sv ad1 p0.Speeds cap2, .int .u32 p0.Blank, sv ad3 p0.Less cap4, sv ad5 p0.More cap6, .int .u16 p0.Jump], fz w0 μ] w := hS.madeL hQ
 refine ⟨⟨St.pick [1, 2, 3, 4, 5, 6, 7, 8] (by decide) hS, (hS.frz (i := 9) rfl hlow)⟩, ?_⟩
 refine WT.z [8, 9, 10, 11, 12] (by kernel_rfl) ?_
 refine runC (rest := []) (obs := []) [8, 9, 10, 11, 12] [(11, sv ad67 y66.1 cap68), (12, iv y66.2), (15, sv ad73 y72.1 cap74), (16, iv y72.2), (17, sv ad87 y77.1 cap88), (18, iv y77.2)] hF (by kernel_rfl) (by kernel_rfl) onil ⟨by kernel_rfl⟩ fun a hF => ?_
 refine WRun.fin ?_
 refine wfn rfl ?_
 refine eseq ?_
 refine esr ?_
 refine rn 10 10 [(11, sv ad67 y66.1 cap68), (15, sv ad73 y72.1 cap74), (17, sv ad87 y77.1 cap88), (110, .bool (bif (bif (y66.2 != 0) then true else (y72.2 != 0)) then true else (y77.2 != 0)))] hF fun a hF => ?_
 refine wfn rfl ?_
 refine econd hF rfl (fun hc => ?_) (fun hc => ?_)
 ·replace h := bif_t h hc
  refine esr ?_
  refine rn 1 1 [(6, .bool false)] hF fun a hF => ?_
  refine wfn rfl ?_
  refine wpIn_ret (ret_then <| fn_ret [.tmp 6] [.bool false] hF rfl ⟨rfl, trivial⟩ ?_)
  have hr_ := Option.some.inj h
  subst hr_
  exact ⟨rfl, hS.ext⟩
 ·replace h := bif_f h hc
  refine wpIn_skip (norm_then ?_)
  refine ecut (fun a w => Fr 137 [] [] a ∧ St w0 [arr 79 4 fold_Guess.cells ad87 y77.1.length cap88 y77.1, arr 79 4 fold_Guess.cells ad73 y72.1.length cap74 y72.1, blk b70 33 #[iv y13.Lambda, iv 1, iv y13.Second, iv 0, iv 4], blk b69 33 #[iv y13.Lambda, iv 1, iv y13.First, iv 0, iv 4], arr 79 4 fold_Guess.cells ad67 y66.1.length cap68 y66.1, blk b47 28 (law03_echo y28 y30).ar, blk b14 33 y13.ar, blk b11 73 #[.int .u16 p1.1, .int .u16 p1.2], blk b10 72 #[.int .u8 (IntKind.u8.wrap (1 + x12)), .int .u8 p0.Lambda, .int .u16 p0.First, .int .u16 p0.Second, .int .u8 p0.Rose, .int .u8 p0.Gates, .int .i16 p0.Base, sv ad1 p0.Speeds cap2, .int .u32 p0.Blank, sv ad3 p0.Less cap4, sv ad5 p0.More cap6, .int .u16 p0.Jump], fz w0 μ] w ∧ law03_FoldTimes_K1 = some res) ?_ ?_
  ·skip
   refine esr ?_
   refine rn 3 3 [(15, sv ad73 y72.1 cap74), (17, sv ad87 y77.1 cap88), (111, sv ad67 y66.1 cap68), (112, iv (ln y66.1)), (113, iv 0)] hF fun a hF => ?_
   refine wfn rfl ?_
   refine wpIn_block ?_
   refine eloop (fun n_ a w => ∃ (x119 : Int), Fr 137 [] [(15, sv ad73 y72.1 cap74), (17, sv ad87 y77.1 cap88), (111, sv ad67 y66.1 cap68), (112, iv (ln y66.1)), (113, iv x119)] a ∧ St w0 [arr 79 4 fold_Guess.cells ad87 y77.1.length cap88 y77.1, arr 79 4 fold_Guess.cells ad73 y72.1.length cap74 y72.1, blk b70 33 #[iv y13.Lambda, iv 1, iv y13.Second, iv 0, iv 4], blk b69 33 #[iv y13.Lambda, iv 1, iv y13.First, iv 0, iv 4], arr 79 4 fold_Guess.cells ad67 y66.1.length cap68 y66.1, blk b47 28 (law03_echo y28 y30).ar, blk b14 33 y13.ar, blk b11 73 #[.int .u16 p1.1, .int .u16 p1.2], blk b10 72 #[.int .u8 (IntKind.u8.wrap (1 + x12)), .int .u8 p0.Lambda, .int .u16 p0.First, .int .u16 p0.Second, .int .u8 p0.Rose, .int .u8 p0.Gates, .int .i16 p0.Base, sv ad1 p0.Speeds cap2, .int .u32 p0.Blank, sv ad3 p0.Less cap4, sv ad5 p0.More cap6, .int .u16 p0.Jump], fz w0 μ] w ∧ law03_FoldTimes_L2 F y66 y72 y77 n_ x119 = some res) F ⟨0, hF.sub (by kernel_rfl), St.pick [0, 1, 2, 3, 4, 5, 6, 7, 8, 9] (by decide) hS, h⟩ ?_
   rintro n_ a w ⟨x119, hF, hS, h⟩
   rcases n_ with _ | n_
   ·cases (show (none : Option Bool) = some res from h)
   obtain ⟨k2, hk2⟩ : ∃ k, k = law03_FoldTimes_L2 F y66 y72 y77 n_ := ⟨_, rfl⟩
   replace h : law03_FoldTimes_B2 F y66 y72 y77 k2 x119 = some res := by rw [hk2]; exact h
   rw [law03_FoldTimes_B2] at h
   refine esr ?_
   refine rn 1 1 [(15, sv ad73 y72.1 cap74), (17, sv ad87 y77.1 cap88), (111, sv ad67 y66.1 cap68), (112, iv (ln y66.1)), (113, iv x119), (114, .bool (decide (x119 < (ln y66.1))))] hF fun a hF => ?_
   refine wfn rfl ?_
   refine eseq ?_
   refine econd hF rfl (fun hc => ?_) (fun hc => ?_)
   ·replace h := bif_t h hc
    refine wpIn_skip (norm_then ?_)
    refine eseq ?_
    refine wpIn_block ?_
    refine esr ?_
    replace h := bindS h
    obtain ⟨u121, hu121, h⟩ := h
    refine rno 2 [.run [] (Instr.indexAt 29 (sv ad67 y66.1 cap68) (iv x119)) (.pointer (some (slAddr ad67 x119 4))), .run [] (Instr.loadAt 79 (.pointer (some (slAddr ad67 x119 4)))) (u121.ag)] 2 [(15, sv ad73 y72.1 cap74), (17, sv ad87 y77.1 cap88), (111, sv ad67 y66.1 cap68), (112, iv (ln y66.1)), (113, iv x119), (116, u121.ag)] hF (ocons (obIdxQ (hS.arr (i := 4) rfl) (by kernel_rfl) (fun _ => hu121)) (ocons (obElNQ (m := 4) (i := x119) (us := u121.cells) 0 fold_Guess.cells_len (fun _ hd => ((hS.at_ hd).arr (i := 4) rfl)) (by kernel_rfl) (fun _ => hu121) ⟨rfl, rfl⟩) onil)) fun a hF => ?_
    refine SK.wi (allocK (t := 79) (fun b122 => [(15, sv ad73 y72.1 cap74), (17, sv ad87 y77.1 cap88), (20, pb b122), (111, sv ad67 y66.1 cap68), (112, iv (ln y66.1)), (113, iv x119), (116, u121.ag)]) #[iv 0, iv 0, iv 0, iv 0] hF hS (by kernel_rfl) ⟨by kernel_rfl⟩ (by kernel_rfl) (fun _ => ⟨by kernel_rfl⟩) fun b122 w a hF hS => ?_)
    refine SK.wi (storeK (t := 79) [(15, sv ad73 y72.1 cap74), (17, sv ad87 y77.1 cap88), (20, pb b122), (111, sv ad67 y66.1 cap68), (112, iv (ln y66.1)), (113, iv x119)] 0 0 (u121.ag) u121.ar hF hS rfl (by kernel_rfl) ⟨by kernel_rfl⟩ (by kernel_rfl) (by kernel_rfl) (by kernel_rfl) (by kernel_rfl) ⟨by kernel_rfl⟩ fun w a hF hS => ?_)
    refine wfn rfl ?_
    refine esr ?_
    replace h := bindS h
    obtain ⟨y123, hy123, h⟩ := h
    replace h := bindS h
    obtain ⟨y124, hy124, h⟩ := h
    refine rx 18 [.run [] (Instr.indexAt 77 (pb b122) (iv 0)) (pb b122), .run [] (Instr.loadAt 3 (pb b122)) (iv u121.Whole.1), .run [] (Instr.loadAt 25 (.pointer (some ⟨b122, 2, none⟩))) (.agg #[iv u121.Speed.Lo, iv u121.Speed.Hi]), .call [] 38 #[sv ad73 y72.1 cap74, iv u121.Whole.1, .agg #[iv u121.Speed.Lo, iv u121.Speed.Hi]] (.bool y123), .run [⟨125, false, (!y123)⟩] (Instr.indexAt 77 (pb b122) (iv 1)) (.pointer (some ⟨b122, 1, none⟩)), .run [⟨125, false, (!y123)⟩] (Instr.loadAt 3 (.pointer (some ⟨b122, 1, none⟩))) (iv u121.Whole.2), .run [⟨125, false, (!y123)⟩] (Instr.loadAt 25 (.pointer (some ⟨b122, 2, none⟩))) (.agg #[iv u121.Speed.Lo, iv u121.Speed.Hi]), .call [⟨125, false, (!y123)⟩] 38 #[sv ad87 y77.1 cap88, iv u121.Whole.2, .agg #[iv u121.Speed.Lo, iv u121.Speed.Hi]] (.bool y124)] 18 [(15, sv ad73 y72.1 cap74), (17, sv ad87 y77.1 cap88), (111, sv ad67 y66.1 cap68), (112, iv (ln y66.1)), (113, iv x119), (134, .bool (bif (!y123) then true else (!y124)))] hF (ocons (obPureSem (by kernel_rfl)) (ocons (ob1 (by kernel_rfl) (fun _ hd => (hS.later hd).cell (i := 0) (j := 0) rfl rfl)) (ocons (obN (us := [iv u121.Speed.Lo, iv u121.Speed.Hi]) (by kernel_rfl) (fun _ hd => ((hS.later hd).blk (i := 0) rfl).cells rfl)) (ocons (show Ob.ok _ Ext _ _ from fun hk w2 hd => law03_among_ok F y72.1 u121.Whole.1 u121.Speed _ ((fun _ => hy123) hk) _ w2 (memOf_at w2) (Arr.toM ((hS.later hd).arr (i := 2) rfl))) (ocons (obPureSem (by kernel_rfl)) (ocons (ob1 (by kernel_rfl) (fun _ hd => (hS.later hd).cell (i := 0) (j := 1) rfl rfl)) (ocons (obN (us := [iv u121.Speed.Lo, iv u121.Speed.Hi]) (by kernel_rfl) (fun _ hd => ((hS.later hd).blk (i := 0) rfl).cells rfl)) (ocons (show Ob.ok _ Ext _ _ from fun hk w2 hd => law03_among_ok F y77.1 u121.Whole.2 u121.Speed _ ((fun hk => gd_some hy124 hk) hk) _ w2 (memOf_at w2) (Arr.toM ((hS.later hd).arr (i := 1) rfl))) onil)))))))) fun a w hF hx => ?_
    replace hS := hS.later hx
    refine wfn rfl ?_
    refine econd hF rfl (fun hc => ?_) (fun hc => ?_)
    ·replace h := bif_t h hc
     refine esr ?_
     refine rn 1 1 [(6, .bool false)] hF fun a hF => ?_
     refine wfn rfl ?_
     refine wpIn_ret (ret_block <| ret_then <| ret_then <| ret_block <| ret_then <| fn_ret [.tmp 6] [.bool false] hF rfl ⟨rfl, trivial⟩ ?_)
     have hr_ := Option.some.inj h
     subst hr_
     exact ⟨rfl, hS.ext⟩
    ·replace h := bif_f h hc
     refine wpIn_skip (norm_block <| norm_then <| ?_)
     refine WI.region ?_
     replace h := bindS h
     obtain ⟨x125, hx125, h⟩ := h
     refine rno 2 [.run [] (binOp .add 3 (iv x119) (iv 1)) (iv x125)] 2 [(15, sv ad73 y72.1 cap74), (17, sv ad87 y77.1 cap88), (111, sv ad67 y66.1 cap68), (112, iv (ln y66.1)), (113, iv x125)] hF (ocons (obAddC (fun _ => hx125)) onil) fun a hF => ?_
     refine wfn rfl ?_
     rw [hk2] at h
     exact ⟨n_, Nat.lt_succ_self _, x125, hF.sub (by kernel_rfl), St.pick [1, 2, 3, 4, 5, 6, 7, 8, 9, 10] (by decide) hS, h⟩
   ·replace h := bif_f h hc
    refine wpIn_exit (exit_then <| exit_then <| exit_hit <| norm_then ?_)
    exact ⟨hF.sub (by kernel_rfl), St.pick [0, 1, 2, 3, 4, 5, 6, 7, 8, 9] (by decide) hS, h⟩
  rintro a w ⟨hF, hS, h⟩
  rw [law03_FoldTimes_K1] at h
  refine esr ?_
  refine rx 2 [.call [] 19 #[] (.bool law03_works)] 2 [(6, .bool law03_works)] hF (ocons (show Ob.ok _ Ext _ _ from fun hk w2 hd => law03_works_ok  _ rfl _ w2 (memOf_at w2) ) onil) fun a w hF hx => ?_
  replace hS := hS.later hx
  refine wfn rfl ?_
  refine wpIn_ret (fn_ret [.tmp 6] [.bool law03_works] hF rfl ⟨rfl, trivial⟩ ?_)
  have hr_ := Option.some.inj h
  subst hr_
  exact ⟨rfl, hS.ext⟩
end Go.Proofs.Ytbhjgebjojdohaa
