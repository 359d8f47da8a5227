/- Walks, written by program (wip/gen/dec.py). -/
import Derived.Test.YtbhjgebjojdohaaF8XD
import Derived.Test.YtbhjgebjojdohaaProg
import Derived.Test.YtbhjgebjojdohaaF8XW0
import Derived.Test.YtbhjgebjojdohaaF8XW2
namespace Go.Proofs.Ytbhjgebjojdohaa
open Go Go.RowKit Go.Eng
set_option maxRecDepth 10000
set_option maxHeartbeats 4000000
set_option linter.unusedVariables false
set_option linter.unusedSimpArgs false
theorem fold_list_ok (F : Nat) (p0 : pulse_Train) (p1 : api_Echo) (p2 : Int) (p3 : Int) (res : ((List fold_option) × Bool)) (h : fold_list F p0 p1 p2 p3 = some res) (μ : Frz) (w0 : World) (hm : FrzAt μ w0) : Calls Try.prog 91 #[p0.ag, p1.ag, iv p2, iv p3] w0 (fun e w => ∃ zad0 zcap0, e = .returned (.tuple #[sv zad0 res.1 zcap0, .bool res.2]) ∧ St w0 [arr 178 3 fold_option.cells zad0 res.1.length zcap0 res.1] w) := by
 obtain ⟨hlow, hS⟩ := hm.init
 have hext := Frz.ext_refl w0.heap.size μ
 rw [fold_list] at h
 refine fn_enterMW Try.func91 rfl 44 [(0, p0.ag), (1, p1.ag), (2, iv p2), (3, iv p3)] rfl rfl (by kernel_rfl) fun a w hw hF => ?_
 replace hS : St w0 [fz w0 μ] w := by rw [hw]; exact hS
 clear hw
 replace hS := hS.noMarks
 refine esr ?_
 refine SK.wi (boxK (t := 33) (fun b1 => [(1, p1.ag), (2, iv p2), (3, iv p3), (4, pb b1)]) (p0.ag) p0.ar hF hS (by kernel_rfl) ⟨by kernel_rfl⟩ (by kernel_rfl) (fun _ => ⟨by kernel_rfl⟩) fun b1 w a hF hS => ?_)
 refine SK.wi (boxK (t := 28) (fun b2 => [(2, iv p2), (3, iv p3), (4, pb b1), (5, pb b2)]) (p1.ag) p1.ar hF hS (by kernel_rfl) ⟨by kernel_rfl⟩ (by kernel_rfl) (fun _ => ⟨by kernel_rfl⟩) fun b2 w a hF hS => ?_)
 refine rn 2 4 [(2, iv p2), (3, iv p3), (4, pb b1), (5, pb b2), (8, .slice none 0 0), (9, .bool false)] hF fun a hF => ?_
 refine wfn rfl ?_
 refine esr ?_
 refine SK.wi (allocK (t := 174) (fun b3 => [(2, iv p2), (3, iv p3), (4, pb b1), (5, pb b2), (8, .slice none 0 0), (9, .bool false), (10, pb b3)]) #[.slice none 0 0] hF hS (by kernel_rfl) ⟨by kernel_rfl⟩ (by kernel_rfl) (fun _ => ⟨by kernel_rfl⟩) fun b3 w a hF hS => ?_)
 refine wfn rfl ?_
 refine eseq ?_
 refine esr ?_
 refine rno 4 [.run [] (Instr.loadAt 33 (pb b1)) (p0.ag), .run [] (Instr.loadAt 28 (pb b2)) (p1.ag)] 4 [(8, .slice none 0 0), (9, .bool false), (10, pb b3), (13, p0.ag), (14, p1.ag), (15, iv p2), (16, iv p3)] hF (ocons (obN (us := p0.cells) (by kernel_rfl) (fun _ hd => ((hS.at_ hd).blk (i := 2) rfl).cells rfl)) (ocons (obN (us := p1.cells) (by kernel_rfl) (fun _ hd => ((hS.at_ hd).blk (i := 1) rfl).cells rfl)) onil)) fun a hF => ?_
 refine SK.wi (callK (f := 113) (args := #[p0.ag, p1.ag, iv p2, iv p3]) (R := fun v w2 => ∃ b5 b6 b7 b8, v = .func (.func 124) #[] #[pb b5, pb b6, pb b7, pb b8] ∧ St w [blk b5 33 p0.ar, blk b6 3 #[iv p2], blk b7 28 p1.ar, blk b8 3 #[iv p3]] w2) (fun v4 => [(8, .slice none 0 0), (9, .bool false), (10, pb b3), (17, v4)]) hF (by kernel_rfl) ⟨by kernel_rfl⟩ (Calls.mono (fold_options_ok p0 (api_Echo.mk p1.Kind p1.Power ((api_Span.mk p1.Steps.1.Lo p1.Steps.1.Hi), (api_Span.mk p1.Steps.2.Lo p1.Steps.2.Hi)) p1.Spread p1.Ratio p1.Match p1.Turn) p2 p3 _ rfl (memOf w) w (memOf_at w) ) (by rintro e w2 ⟨b5, b6, b7, b8, rfl, h⟩; exact ⟨_, rfl, b5, b6, b7, b8, rfl, h⟩)) (fun _ => ⟨by kernel_rfl⟩) ?_)
 rintro v4 w a ⟨b5, b6, b7, b8, rfl, hQ⟩ hF
 replace hS : St w0 [blk b5 33 p0.ar, blk b6 3 #[iv p2], blk b7 28 p1.ar, blk b8 3 #[iv p3], blk b3 174 #[.slice none 0 0], blk b2 28 p1.ar, blk b1 33 p0.ar, markR ([]), fz w0 μ] w := hS.madeL hQ
 refine wfn rfl ?_
 refine wpIn_block ?_
 obtain ⟨ν9, hx10, hlow, hS, hz11⟩ := hS.freeze (i := 8) (j := 0) rfl rfl (by decide) hlow
 replace hext := Frz.ext_trans hext hx10
 replace hS : St w0 [blk b6 3 #[iv p2], blk b7 28 p1.ar, blk b8 3 #[iv p3], blk b3 174 #[.slice none 0 0], blk b2 28 p1.ar, blk b1 33 p0.ar, markR ([]), fz w0 ν9] w := hS
 have hB12 : BlkM ν9 b5 33 p0.ar := hz11
 obtain ⟨ν13, hx14, hlow, hS, hz15⟩ := hS.freeze (i := 7) (j := 0) rfl rfl (by decide) hlow
 replace hB12 := hB12.mono hx14.1
 replace hext := Frz.ext_trans hext hx14
 replace hS : St w0 [blk b7 28 p1.ar, blk b8 3 #[iv p3], blk b3 174 #[.slice none 0 0], blk b2 28 p1.ar, blk b1 33 p0.ar, markR ([]), fz w0 ν13] w := hS
 have hB16 : BlkM ν13 b6 3 #[iv p2] := hz15
 obtain ⟨ν17, hx18, hlow, hS, hz19⟩ := hS.freeze (i := 6) (j := 0) rfl rfl (by decide) hlow
 replace hB12 := hB12.mono hx18.1
 replace hB16 := hB16.mono hx18.1
 replace hext := Frz.ext_trans hext hx18
 replace hS : St w0 [blk b8 3 #[iv p3], blk b3 174 #[.slice none 0 0], blk b2 28 p1.ar, blk b1 33 p0.ar, markR ([]), fz w0 ν17] w := hS
 have hB20 : BlkM ν17 b7 28 p1.ar := hz19
 obtain ⟨ν21, hx22, hlow, hS, hz23⟩ := hS.freeze (i := 5) (j := 0) rfl rfl (by decide) hlow
 replace hB12 := hB12.mono hx22.1
 replace hB16 := hB16.mono hx22.1
 replace hB20 := hB20.mono hx22.1
 replace hext := Frz.ext_trans hext hx22
 replace hS : St w0 [blk b3 174 #[.slice none 0 0], blk b2 28 p1.ar, blk b1 33 p0.ar, markR ([]), fz w0 ν21] w := hS
 have hB24 : BlkM ν21 b8 3 #[iv p3] := hz23
 replace hS := hS.nilarr 178 3 fold_option.cells
 replace h := bindS h
 obtain ⟨r52, hr52, h⟩ := h
 refine rangeG (gf := 124) (lb := #[pb b5, pb b6, pb b7, pb b8]) (fun l => #[.func (.yield l) #[] #[], pb b5, pb b6, pb b7, pb b8]) (fun H1 => ∃ (ν_n : Frz) (g_n : (Option Addr × Nat × Unit)), H1 = [arr 178 3 fold_option.cells g_n.1 r52.1.1.length g_n.2.1 r52.1.1, blk b3 174 #[.slice g_n.1 r52.1.1.length g_n.2.1], blk b2 28 p1.ar, blk b1 33 p0.ar, markR ([]), fz w0 ν_n] ∧ ν21.ext w0.heap.size ν_n ∧ FrzIn w0 ν_n ∧ r52.2 = true) (fun c H1 => ∃ (ν_n : Frz) (g_n : (Option Addr × Nat × Unit)), H1 = [arr 178 3 fold_option.cells g_n.1 r52.1.1.length g_n.2.1 r52.1.1, blk b3 174 #[.slice g_n.1 r52.1.1.length g_n.2.1], blk b2 28 p1.ar, blk b1 33 p0.ar, markR ([]), fz w0 ν_n] ∧ ν21.ext w0.heap.size ν_n ∧ FrzIn w0 ν_n ∧ r52.2 = false ∧ c = fold_list_c1 (r52.1.2)) (M := [(8, .slice none 0 0), (9, .bool false), (10, pb b3), (17, .func (.func 124) #[] #[pb b5, pb b6, pb b7, pb b8])]) (hF.sub (by kernel_rfl)) rfl hS (fun _ => rfl) (fun _ => by kernel_rfl) ?_ ?_ ?_
 ·replace hF : Fr 44 (marks ([])) [(8, .slice none 0 0), (9, .bool false), (10, pb b3), (17, .func (.func 124) #[] #[pb b5, pb b6, pb b7, pb b8])] a := hF.sub (by kernel_rfl)
  intro fn_ l1_ D1_ rec1 w hrec1 hS
  replace hS : St w0 [objR l1_ (rec1 .ready none), objR D1_ (.deferred (some [])), arr 178 3 fold_option.cells none ([] : List fold_option).length 0 ([] : List fold_option), blk b3 174 #[.slice none 0 0], blk b2 28 p1.ar, blk b1 33 p0.ar, markR ([]), fz w0 ν21] w := hS
  refine Calls.mono (fold_options_1_ok F p0 p2 (api_Echo.mk p1.Kind p1.Power ((api_Span.mk p1.Steps.1.Lo p1.Steps.1.Hi), (api_Span.mk p1.Steps.2.Lo p1.Steps.2.Hi)) p1.Spread p1.Ratio p1.Match p1.Turn) p3 (fold_list_Y1) (([] : List fold_option), 0) _ hr52 l1_ ν21 w0 w (fun (s_r : ((List fold_option) × Nat)) (b_r : Bool) (g_r : (Option Addr × Nat × Unit)) => [objR l1_ (rec1 (bif b_r then .ready else .done) (bif b_r then none else some (fold_list_c1 (s_r.2)))), objR D1_ (.deferred (some [])), arr 178 3 fold_option.cells g_r.1 s_r.1.length g_r.2.1 s_r.1, blk b3 174 #[.slice g_r.1 s_r.1.length g_r.2.1], blk b2 28 p1.ar, blk b1 33 p0.ar, markR ([])]) (fun (s_r : ((List fold_option) × Nat)) (b_r : Bool) (g_r : (Option Addr × Nat × Unit)) (ν_r : Frz) => True) (fun _ _ _ _ _ h hle => trivial) ?_ (none, 0, ()) [] hlow trivial (St.pickT (A := [objR l1_ (rec1 .ready none), objR D1_ (.deferred (some [])), arr 178 3 fold_option.cells none ([] : List fold_option).length 0 ([] : List fold_option), blk b3 174 #[.slice none 0 0], blk b2 28 p1.ar, blk b1 33 p0.ar, markR ([]), fz w0 ν21]) (T := []) [7, 0, 1, 2, 3, 4, 5, 6] (by decide) (by simpa using hS)) hB12 hB16 hB20 hB24) ?_
  ·rintro s_r x_ q_r h ν_r g_r G_r w  hxv hlow hP  hS
   replace hB12 := hB12.mono hxv.1
   replace hB16 := hB16.mono hxv.1
   replace hB20 := hB20.mono hxv.1
   replace hB24 := hB24.mono hxv.1
   have hxr := Frz.ext_refl w0.heap.size ν_r
   replace hext := Frz.ext_trans hext hxv
   replace hS : St w0 (objR l1_ (rec1 .ready none) :: objR D1_ (.deferred (some [])) :: arr 178 3 fold_option.cells g_r.1 s_r.1.length g_r.2.1 s_r.1 :: blk b3 174 #[.slice g_r.1 s_r.1.length g_r.2.1] :: blk b2 28 p1.ar :: blk b1 33 p0.ar :: markR ([]) :: fz w0 ν_r :: G_r) w := St.pickT (A := [fz w0 ν_r, objR l1_ (rec1 .ready none), objR D1_ (.deferred (some [])), arr 178 3 fold_option.cells g_r.1 s_r.1.length g_r.2.1 s_r.1, blk b3 174 #[.slice g_r.1 s_r.1.length g_r.2.1], blk b2 28 p1.ar, blk b1 33 p0.ar, markR ([])]) (T := G_r) [1, 2, 3, 4, 5, 6, 7, 0] (by decide) hS
   rw [fold_list_Y1] at h
   refine round_ (rec := rec1) hrec1 [(18, x_.ag)] [(10, pb b3), (18, x_.ag)] hF (by simp) rfl rfl (by kernel_rfl) hS ?_
   intro a hF
   refine WI.region ?_
   refine SK.wi (allocK (t := 178) (fun b47 => [(10, pb b3), (11, pb b47), (18, x_.ag)]) #[iv 0, iv 0, iv 0] hF hS (by kernel_rfl) ⟨by kernel_rfl⟩ (by kernel_rfl) (fun _ => ⟨by kernel_rfl⟩) fun b47 w a hF hS => ?_)
   refine SK.wi (storeK (t := 178) [(10, pb b3), (11, pb b47)] 0 0 (x_.ag) x_.ar hF hS rfl (by kernel_rfl) ⟨by kernel_rfl⟩ (by kernel_rfl) (by kernel_rfl) (by kernel_rfl) (by kernel_rfl) ⟨by kernel_rfl⟩ fun w a hF hS => ?_)
   refine wfn rfl ?_
   refine ⟨_, St.pickT (A := [blk b47 178 x_.ar, objR l1_ (rec1 .ready none), objR D1_ (.deferred (some [])), arr 178 3 fold_option.cells g_r.1 s_r.1.length g_r.2.1 s_r.1, blk b3 174 #[.slice g_r.1 s_r.1.length g_r.2.1], blk b2 28 p1.ar, blk b1 33 p0.ar, markR ([]), fz w0 ν_r]) (T := G_r) [1, 0, 2, 3, 4, 5, 6, 7, 8] (by decide) hS, fun w hS => ?_⟩
   refine wpIn_block ?_
   refine WI.region ?_
   refine rno 2 [.run [] (Instr.loadAt 174 (pb b3)) (.slice g_r.1 s_r.1.length g_r.2.1), .run [] (Instr.loadAt 178 (pb b47)) (x_.ag)] 2 [(10, pb b3), (19, .slice g_r.1 s_r.1.length g_r.2.1), (20, x_.ag)] hF (ocons (ob1 (by kernel_rfl) (fun _ hd => (hS.at_ hd).cell (i := 4) (j := 0) rfl rfl)) (ocons (obN (us := x_.cells) (by kernel_rfl) (fun _ hd => ((hS.at_ hd).blk (i := 1) rfl).cells rfl)) onil)) fun a hF => ?_
   refine SK.wi (litK (e := 178) (sz := 3) (f := fold_option.cells) (t := 174) (len := 1) (fun b48 => [(10, pb b3), (19, .slice g_r.1 s_r.1.length g_r.2.1), (21, sb b48 1)]) #[(0, x_.ag)] x_.ar ([x_]) hF hS (by kernel_rfl) ⟨by kernel_rfl⟩ (by kernel_rfl) fold_option.cells_len rfl rfl (by kernel_rfl) (fun _ => ⟨by kernel_rfl⟩) fun b48 w a hF hS => ?_)
   replace h := bindS h
   obtain ⟨l49, hl49, h⟩ := h
   refine SK.wi (appK (t := 174) (ty := 174) (bytes := 24) (l := s_r.1) (l' := ([x_])) (fun ad50 cap51 => [(10, pb b3), (22, sv ad50 l49 cap51)]) 4 hF hS rfl (by kernel_rfl) ⟨by kernel_rfl⟩ (by kernel_rfl) (hS.arr (i := 0) rfl) (fun _ _ => rfl) hl49 (fun _ _ => ⟨by kernel_rfl⟩) fun ad50 cap51 w a hF hS => ?_)
   refine SK.wi (storeK (t := 174) [] 5 0 (sv ad50 l49 cap51) #[sv ad50 l49 cap51] hF hS rfl (by kernel_rfl) ⟨by kernel_rfl⟩ (by kernel_rfl) (by kernel_rfl) (by kernel_rfl) (by kernel_rfl) ⟨by kernel_rfl⟩ fun w a hF hS => ?_)
   refine WI.fin rfl (norm_block ?_)
   have hr_ := Option.some.inj h
   subst hr_
   refine ⟨_, St.pickT (A := [arr 178 3 fold_option.cells (some ⟨b48, 0, none⟩) ([x_]).length 1 ([x_]), objR l1_ (rec1 .busy none), blk b47 178 x_.ar, objR D1_ (.deferred (some [])), arr 178 3 fold_option.cells ad50 l49.length cap51 l49, blk b3 174 #[sv ad50 l49 cap51], blk b2 28 p1.ar, blk b1 33 p0.ar, markR ([]), fz w0 ν_r]) (T := G_r) [1, 0, 2, 3, 4, 5, 6, 7, 8, 9] (by decide) hS, fun w hS => ⟨rfl, ν_r, (ad50, cap51, ()), hxr, hlow, trivial, St.pickT (A := [objR l1_ (rec1 .ready none), arr 178 3 fold_option.cells (some ⟨b48, 0, none⟩) ([x_]).length 1 ([x_]), blk b47 178 x_.ar, objR D1_ (.deferred (some [])), arr 178 3 fold_option.cells ad50 l49.length cap51 l49, blk b3 174 #[sv ad50 l49 cap51], blk b2 28 p1.ar, blk b1 33 p0.ar, markR ([]), fz w0 ν_r]) (T := G_r) [9, 0, 3, 4, 5, 6, 7, 8] (by decide) hS⟩⟩
  ·rintro e w2 ⟨ν_n, g_n, hxn, hlown, hPn, rfl, hSn⟩
   refine ⟨_, rfl, ?_⟩
   rcases Bool.eq_false_or_eq_true r52.2 with hb_ | hb_
   ·rw [hb_] at hSn
    refine .inl ⟨_, ⟨ν_n, g_n, rfl, hxn, hlown, hb_⟩, (by have := St.pickT (A := [fz w0 ν_n, objR l1_ (rec1 .ready none), objR D1_ (.deferred (some [])), arr 178 3 fold_option.cells g_n.1 r52.1.1.length g_n.2.1 r52.1.1, blk b3 174 #[.slice g_n.1 r52.1.1.length g_n.2.1], blk b2 28 p1.ar, blk b1 33 p0.ar, markR ([])]) (T := []) [1, 2, 3, 4, 5, 6, 7, 0] (by decide) hSn; simpa using this)⟩
   ·rw [hb_] at hSn
    refine .inr ⟨_, _, ⟨ν_n, g_n, rfl, hxn, hlown, hb_, rfl⟩, (by have := St.pickT (A := [fz w0 ν_n, objR l1_ (rec1 .done (some (fold_list_c1 (r52.1.2)))), objR D1_ (.deferred (some [])), arr 178 3 fold_option.cells g_n.1 r52.1.1.length g_n.2.1 r52.1.1, blk b3 174 #[.slice g_n.1 r52.1.1.length g_n.2.1], blk b2 28 p1.ar, blk b1 33 p0.ar, markR ([])]) (T := []) [1, 2, 3, 4, 5, 6, 7, 0] (by decide) hSn; simpa using this)⟩
 ·rintro D55 a w _ ⟨ν54, g53, rfl, hxn, hlow, hb_⟩ hF hS
  replace hB12 := hB12.mono hxn.1
  replace hB16 := hB16.mono hxn.1
  replace hB20 := hB20.mono hxn.1
  replace hB24 := hB24.mono hxn.1
  replace hext := Frz.ext_trans hext hxn
  replace hS : St w0 [objR D55 (.deferred (some [])), arr 178 3 fold_option.cells g53.1 r52.1.1.length g53.2.1 r52.1.1, blk b3 174 #[.slice g53.1 r52.1.1.length g53.2.1], blk b2 28 p1.ar, blk b1 33 p0.ar, markR ([]), fz w0 ν54] w := hS
  replace hS := St.mark (St.pick [0, 5, 1, 2, 3, 4, 6] (by decide) hS)
  replace hS : St w0 [markR (D55 :: []), arr 178 3 fold_option.cells g53.1 r52.1.1.length g53.2.1 r52.1.1, blk b3 174 #[.slice g53.1 r52.1.1.length g53.2.1], blk b2 28 p1.ar, blk b1 33 p0.ar, fz w0 ν54] w := hS
  replace hF : Fr 44 (marks (D55 :: [])) [(8, .slice none 0 0), (9, .bool false), (10, pb b3), (17, .func (.func 124) #[] #[pb b5, pb b6, pb b7, pb b8])] a := hF
  replace h := bif_t h hb_
  refine norm_block <| norm_then <| ?_
  replace hF : Fr 44 (marks (D55 :: [])) [(10, pb b3)] a := hF.sub (by kernel_rfl)
  refine eseq ?_
  refine esr ?_
  refine rno 3 [.run [] (Instr.loadAt 174 (pb b3)) (.slice g53.1 r52.1.1.length g53.2.1)] 3 [(10, pb b3), (12, iv (ln r52.1.1))] hF (ocons (ob1 (by kernel_rfl) (fun _ hd => (hS.at_ hd).cell (i := 2) (j := 0) rfl rfl)) onil) fun a hF => ?_
  refine wfn rfl ?_
  refine esr ?_
  replace h := bindS h
  obtain ⟨u56, hu56, h⟩ := h
  replace h := bindS h
  obtain ⟨x57, hx57, h⟩ := h
  replace h := bindS h
  obtain ⟨u58, hu58, h⟩ := h
  refine rno 18 [.run [⟨27, true, (decide ((ln r52.1.1) > 0))⟩] (Instr.loadAt 174 (pb b3)) (.slice g53.1 r52.1.1.length g53.2.1), .run [⟨27, true, (decide ((ln r52.1.1) > 0))⟩] (Instr.indexAt 174 (.slice g53.1 r52.1.1.length g53.2.1) (iv 0)) (.pointer (some (slAddr g53.1 0 3))), .run [⟨27, true, (decide ((ln r52.1.1) > 0))⟩] (Instr.loadAt 3 (.pointer (some (slAddr g53.1 0 3)))) (iv u56.whole), .run [⟨33, false, (u56.whole == (-64))⟩, ⟨27, true, (decide ((ln r52.1.1) > 0))⟩] (Instr.loadAt 174 (pb b3)) (.slice g53.1 r52.1.1.length g53.2.1), .run [⟨33, false, (u56.whole == (-64))⟩, ⟨27, true, (decide ((ln r52.1.1) > 0))⟩] (binOp .sub 3 (iv (ln r52.1.1)) (iv 1)) (iv x57), .run [⟨33, false, (u56.whole == (-64))⟩, ⟨27, true, (decide ((ln r52.1.1) > 0))⟩] (Instr.indexAt 174 (.slice g53.1 r52.1.1.length g53.2.1) (iv x57)) (.pointer (some (slAddr g53.1 x57 3))), .run [⟨33, false, (u56.whole == (-64))⟩, ⟨27, true, (decide ((ln r52.1.1) > 0))⟩] (Instr.loadAt 3 (.pointer (some (slAddr g53.1 x57 3)))) (iv u58.whole)] 18 [(10, pb b3), (42, .bool (bif (decide ((ln r52.1.1) > 0)) then (bif (u56.whole == (-64)) then true else (u58.whole == 64)) else false))] hF (ocons (ob1 (by kernel_rfl) (fun _ hd => (hS.at_ hd).cell (i := 2) (j := 0) rfl rfl)) (ocons (obIdxQ (hS.arr (i := 1) rfl) (by kernel_rfl) (fun hk => gd_some hu56 hk)) (ocons (obElQ (i := 0) 0 fold_option.cells_len (fun _ hd => ((hS.at_ hd).arr (i := 1) rfl)) (by kernel_rfl) (fun hk => gd_some hu56 hk) rfl) (ocons (ob1 (by kernel_rfl) (fun _ hd => (hS.at_ hd).cell (i := 2) (j := 0) rfl rfl)) (ocons (obSubC (fun hk => gd_some hx57 hk)) (ocons (obIdxQ (hS.arr (i := 1) rfl) (by kernel_rfl) (fun hk => gd_some hu58 hk)) (ocons (obElQ (i := x57) 0 fold_option.cells_len (fun _ hd => ((hS.at_ hd).arr (i := 1) rfl)) (by kernel_rfl) (fun hk => gd_some hu58 hk) rfl) onil))))))) fun a hF => ?_
  refine wfn rfl ?_
  refine econd hF rfl (fun hc => ?_) (fun hc => ?_)
  ·replace h := bif_t h hc
   refine esr ?_
   refine rn 2 2 [(8, .slice none 0 0), (9, .bool false)] hF fun a hF => ?_
   refine wfn rfl ?_
   refine wpIn_ret (ret_then <| fn_retM (H := [arr 178 3 fold_option.cells g53.1 r52.1.1.length g53.2.1 r52.1.1, blk b3 174 #[.slice g53.1 r52.1.1.length g53.2.1], blk b2 28 p1.ar, blk b1 33 p0.ar, fz w0 ν54]) [.tmp 8, .tmp 9] [.slice none 0 0, .bool false] hF (St.pick [0, 1, 2, 3, 4, 5] (by decide) hS) rfl fun w hS => ⟨⟨rfl, rfl, trivial⟩, ?_⟩)
   have hr_ := Option.some.inj h
   subst hr_
   replace hS := hS.nilarr 178 3 fold_option.cells
   exact ⟨_, _, rfl, St.pick [0] (by decide) hS⟩
  ·replace h := bif_f h hc
   refine wpIn_skip (norm_then ?_)
   refine esr ?_
   refine rno 3 [.run [] (Instr.loadAt 174 (pb b3)) (.slice g53.1 r52.1.1.length g53.2.1)] 3 [(8, .slice g53.1 r52.1.1.length g53.2.1), (9, .bool true)] hF (ocons (ob1 (by kernel_rfl) (fun _ hd => (hS.at_ hd).cell (i := 2) (j := 0) rfl rfl)) onil) fun a hF => ?_
   refine wfn rfl ?_
   refine wpIn_ret (fn_retM (H := [arr 178 3 fold_option.cells g53.1 r52.1.1.length g53.2.1 r52.1.1, blk b3 174 #[.slice g53.1 r52.1.1.length g53.2.1], blk b2 28 p1.ar, blk b1 33 p0.ar, fz w0 ν54]) [.tmp 8, .tmp 9] [.slice g53.1 r52.1.1.length g53.2.1, .bool true] hF (St.pick [0, 1, 2, 3, 4, 5] (by decide) hS) rfl fun w hS => ⟨⟨rfl, rfl, trivial⟩, ?_⟩)
   have hr_ := Option.some.inj h
   subst hr_
   exact ⟨_, _, rfl, St.pick [0] (by decide) hS⟩
 rintro D55 _ a w _ ⟨ν54, g53, rfl, hxn, hlow, hb_, rfl⟩ hF hS
 replace hB12 := hB12.mono hxn.1
 replace hB16 := hB16.mono hxn.1
 replace hB20 := hB20.mono hxn.1
 replace hB24 := hB24.mono hxn.1
 replace hext := Frz.ext_trans hext hxn
 replace hS : St w0 [objR D55 (.deferred (some [])), arr 178 3 fold_option.cells g53.1 r52.1.1.length g53.2.1 r52.1.1, blk b3 174 #[.slice g53.1 r52.1.1.length g53.2.1], blk b2 28 p1.ar, blk b1 33 p0.ar, markR ([]), fz w0 ν54] w := hS
 replace hS := St.mark (St.pick [0, 5, 1, 2, 3, 4, 6] (by decide) hS)
 replace hS : St w0 [markR (D55 :: []), arr 178 3 fold_option.cells g53.1 r52.1.1.length g53.2.1 r52.1.1, blk b3 174 #[.slice g53.1 r52.1.1.length g53.2.1], blk b2 28 p1.ar, blk b1 33 p0.ar, fz w0 ν54] w := hS
 replace hF : Fr 44 (marks (D55 :: [])) [(8, .slice none 0 0), (9, .bool false), (10, pb b3), (17, .func (.func 124) #[] #[pb b5, pb b6, pb b7, pb b8])] a := hF
 replace h := bif_f h hb_
 cases h

theorem fold_guesses_ok (F : Nat) (p0 : pulse_Train) (p1 : api_Echo) (p2 : Int) (res : ((List fold_Guess) × Bool)) (h : fold_guesses F p0 p1 p2 = some res) (μ : Frz) (w0 : World) (hm : FrzAt μ w0) : Calls Try.prog 53 #[p0.ag, p1.ag, iv p2] w0 (fun e w => ∃ zad0 zcap0, e = .returned (.tuple #[sv zad0 res.1 zcap0, .bool res.2]) ∧ St w0 [arr 79 4 fold_Guess.cells zad0 res.1.length zcap0 res.1] w) := by
 obtain ⟨hlow, hS⟩ := hm.init
 have hext := Frz.ext_refl w0.heap.size μ
 rw [fold_guesses] at h
 refine fn_enterW Try.func53 rfl 91 [(0, p0.ag), (1, p1.ag), (2, iv p2)] rfl rfl (by kernel_rfl) fun a w hw hF => ?_
 replace hS : St w0 [fz w0 μ] w := by rw [hw]; exact hS
 clear hw
 refine esr ?_
 refine SK.wi (boxK (t := 33) (fun b1 => [(1, p1.ag), (2, iv p2), (3, pb b1)]) (p0.ag) p0.ar hF hS (by kernel_rfl) ⟨by kernel_rfl⟩ (by kernel_rfl) (fun _ => ⟨by kernel_rfl⟩) fun b1 w a hF hS => ?_)
 refine SK.wi (boxK (t := 28) (fun b2 => [(2, iv p2), (3, pb b1), (4, pb b2)]) (p1.ag) p1.ar hF hS (by kernel_rfl) ⟨by kernel_rfl⟩ (by kernel_rfl) (fun _ => ⟨by kernel_rfl⟩) fun b2 w a hF hS => ?_)
 refine rn 2 4 [(2, iv p2), (3, pb b1), (4, pb b2)] hF fun a hF => ?_
 refine wfn rfl ?_
 refine esr ?_
 refine rno 3 [.run [] (Instr.loadAt 33 (pb b1)) (p0.ag), .run [] (Instr.loadAt 28 (pb b2)) (p1.ag)] 3 [(2, iv p2), (3, pb b1), (4, pb b2), (21, p0.ag), (22, p1.ag), (23, iv p2)] hF (ocons (obN (us := p0.cells) (by kernel_rfl) (fun _ hd => ((hS.at_ hd).blk (i := 1) rfl).cells rfl)) (ocons (obN (us := p1.cells) (by kernel_rfl) (fun _ hd => ((hS.at_ hd).blk (i := 0) rfl).cells rfl)) onil)) fun a hF => ?_
 replace h := bindS h
 obtain ⟨y4, hy4, h⟩ := h
 refine SK.wi (callK (f := 91) (args := #[p0.ag, p1.ag, iv 0, iv p2]) (R := fun v w2 => ∃ ad5 cap6, v = .tuple #[sv ad5 y4.1 cap6, .bool y4.2] ∧ St w [arr 178 3 fold_option.cells ad5 y4.1.length cap6 y4.1] w2) (fun v3 => [(2, iv p2), (3, pb b1), (4, pb b2), (24, v3)]) hF (by kernel_rfl) ⟨by kernel_rfl⟩ (Calls.mono (fold_list_ok F p0 (api_Echo.mk p1.Kind p1.Power ((api_Span.mk p1.Steps.1.Lo p1.Steps.1.Hi), (api_Span.mk p1.Steps.2.Lo p1.Steps.2.Hi)) p1.Spread p1.Ratio p1.Match p1.Turn) 0 p2 _ hy4 (memOf w) w (memOf_at w) ) (by rintro e w2 ⟨ad5, cap6, rfl, h⟩; exact ⟨_, rfl, ad5, cap6, rfl, h⟩)) (fun _ => ⟨by kernel_rfl⟩) ?_)
 rintro v3 w a ⟨ad5, cap6, rfl, hQ⟩ hF
 replace hS : St w0 [arr 178 3 fold_option.cells ad5 y4.1.length cap6 y4.1, blk b2 28 p1.ar, blk b1 33 p0.ar, fz w0 μ] w := hS.madeL hQ
 refine rn 5 9 [(2, iv p2), (3, pb b1), (4, pb b2), (8, sv ad5 y4.1 cap6), (9, .bool y4.2)] hF fun a hF => ?_
 refine wfn rfl ?_
 refine eseq ?_
 refine esr ?_
 refine rn 2 2 [(2, iv p2), (3, pb b1), (4, pb b2), (8, sv ad5 y4.1 cap6), (28, .bool (!y4.2))] hF fun a hF => ?_
 refine wfn rfl ?_
 refine econd hF rfl (fun hc => ?_) (fun hc => ?_)
 ·replace h := bif_t h hc
  refine esr ?_
  refine rn 2 2 [(6, .slice none 0 0), (7, .bool false)] hF fun a hF => ?_
  refine wfn rfl ?_
  refine wpIn_ret (ret_then <| fn_ret [.tmp 6, .tmp 7] [.slice none 0 0, .bool false] hF rfl ⟨rfl, rfl, trivial⟩ ?_)
  have hr_ := Option.some.inj h
  subst hr_
  replace hS := hS.nilarr 79 4 fold_Guess.cells
  exact ⟨_, _, rfl, St.pick [0] (by decide) hS⟩
 ·replace h := bif_f h hc
  refine wpIn_skip (norm_then ?_)
  refine esr ?_
  refine rn 1 1 [(2, iv p2), (3, pb b1), (4, pb b2), (8, sv ad5 y4.1 cap6), (10, .slice none 0 0)] hF fun a hF => ?_
  refine wfn rfl ?_
  refine ecut (fun a w => Fr 91 [] [(2, iv p2), (3, pb b1), (4, pb b2), (8, sv ad5 y4.1 cap6), (10, .slice none 0 0)] a ∧ St w0 [arr 178 3 fold_option.cells ad5 y4.1.length cap6 y4.1, blk b2 28 p1.ar, blk b1 33 p0.ar, fz w0 μ] w ∧ fold_guesses_K1 F p0 p1 p2 y4 = some res) ?_ ?_
  ·skip
   refine esr ?_
   refine rno 3 [.run [] (Instr.loadAt 3 (.pointer (some ⟨b1, 1, none⟩))) (iv p0.Kind)] 3 [(2, iv p2), (3, pb b1), (4, pb b2), (8, sv ad5 y4.1 cap6), (10, .slice none 0 0), (31, .bool (p0.Kind == 1))] hF (ocons (ob1 (by kernel_rfl) (fun _ hd => (hS.at_ hd).cell (i := 2) (j := 1) rfl rfl)) onil) fun a hF => ?_
   refine wfn rfl ?_
   refine econd hF rfl (fun hc => ?_) (fun hc => ?_)
   ·replace h := bif_t h hc
    refine ecut (fun a w => ∃ (l976 : (List fold_Guess)) (ad974 : Option Addr) (cap975 : Nat), Fr 91 [] [(10, sv ad974 l976 cap975)] a ∧ St w0 [arr 79 4 fold_Guess.cells ad974 l976.length cap975 l976, arr 178 3 fold_option.cells ad5 y4.1.length cap6 y4.1, blk b2 28 p1.ar, blk b1 33 p0.ar, fz w0 μ] w ∧ fold_guesses_K7 l976 = some res) ?_ ?_
    ·skip
     refine esr ?_
     refine rn 3 3 [(10, .slice none 0 0), (32, sv ad5 y4.1 cap6), (33, iv (ln y4.1)), (34, iv 0)] hF fun a hF => ?_
     refine wfn rfl ?_
     refine wpIn_block ?_
     replace hS := hS.nilarr 79 4 fold_Guess.cells
     refine eloop (fun n_ a w => ∃ (l998 : (List fold_Guess)) (x999 : Int) (ad996 : Option Addr) (cap997 : Nat), Fr 91 [] [(10, sv ad996 l998 cap997), (32, sv ad5 y4.1 cap6), (33, iv (ln y4.1)), (34, iv x999)] a ∧ St w0 [arr 79 4 fold_Guess.cells ad996 l998.length cap997 l998, arr 178 3 fold_option.cells ad5 y4.1.length cap6 y4.1, blk b2 28 p1.ar, blk b1 33 p0.ar, fz w0 μ] w ∧ fold_guesses_L8 y4 n_ l998 x999 = some res) F ⟨[], 0, none, 0, hF.sub (by kernel_rfl), St.pick [0, 1, 2, 3, 4] (by decide) hS, h⟩ ?_
     rintro n_ a w ⟨l998, x999, ad996, cap997, hF, hS, h⟩
     rcases n_ with _ | n_
     ·cases (show (none : Option ((List fold_Guess) × Bool)) = some res from h)
     obtain ⟨k8, hk8⟩ : ∃ k, k = fold_guesses_L8 y4 n_ := ⟨_, rfl⟩
     replace h : fold_guesses_B8 y4 k8 l998 x999 = some res := by rw [hk8]; exact h
     rw [fold_guesses_B8] at h
     refine esr ?_
     refine rn 1 1 [(10, sv ad996 l998 cap997), (32, sv ad5 y4.1 cap6), (33, iv (ln y4.1)), (34, iv x999), (35, .bool (decide (x999 < (ln y4.1))))] hF fun a hF => ?_
     refine wfn rfl ?_
     refine eseq ?_
     refine econd hF rfl (fun hc => ?_) (fun hc => ?_)
     ·replace h := bif_t h hc
      refine wpIn_skip (norm_then ?_)
      refine eseq ?_
      refine wpIn_block ?_
      refine esr ?_
      replace h := bindS h
      obtain ⟨u1001, hu1001, h⟩ := h
      refine rno 2 [.run [] (Instr.indexAt 174 (sv ad5 y4.1 cap6) (iv x999)) (.pointer (some (slAddr ad5 x999 3))), .run [] (Instr.loadAt 178 (.pointer (some (slAddr ad5 x999 3)))) (u1001.ag)] 2 [(10, sv ad996 l998 cap997), (32, sv ad5 y4.1 cap6), (33, iv (ln y4.1)), (34, iv x999), (37, u1001.ag)] hF (ocons (obIdxQ (hS.arr (i := 1) rfl) (by kernel_rfl) (fun _ => hu1001)) (ocons (obElNQ (m := 3) (i := x999) (us := u1001.cells) 0 fold_option.cells_len (fun _ hd => ((hS.at_ hd).arr (i := 1) rfl)) (by kernel_rfl) (fun _ => hu1001) ⟨rfl, rfl⟩) onil)) fun a hF => ?_
      refine SK.wi (allocK (t := 178) (fun b1002 => [(10, sv ad996 l998 cap997), (12, pb b1002), (32, sv ad5 y4.1 cap6), (33, iv (ln y4.1)), (34, iv x999), (37, u1001.ag)]) #[iv 0, iv 0, iv 0] hF hS (by kernel_rfl) ⟨by kernel_rfl⟩ (by kernel_rfl) (fun _ => ⟨by kernel_rfl⟩) fun b1002 w a hF hS => ?_)
      refine SK.wi (storeK (t := 178) [(10, sv ad996 l998 cap997), (12, pb b1002), (32, sv ad5 y4.1 cap6), (33, iv (ln y4.1)), (34, iv x999)] 0 0 (u1001.ag) u1001.ar hF hS rfl (by kernel_rfl) ⟨by kernel_rfl⟩ (by kernel_rfl) (by kernel_rfl) (by kernel_rfl) (by kernel_rfl) ⟨by kernel_rfl⟩ fun w a hF hS => ?_)
      refine wfn rfl ?_
      refine WI.region ?_
      refine rno 7 [.run [] (Instr.loadAt 3 (pb b1002)) (iv u1001.whole), .run [] (Instr.loadAt 25 (.pointer (some ⟨b1002, 1, none⟩))) (.agg #[iv u1001.speed.Lo, iv u1001.speed.Hi])] 7 [(10, sv ad996 l998 cap997), (32, sv ad5 y4.1 cap6), (33, iv (ln y4.1)), (34, iv x999), (38, sv ad996 l998 cap997), (44, .agg #[iv u1001.whole, iv 0, iv u1001.speed.Lo, iv u1001.speed.Hi])] hF (ocons (ob1 (by kernel_rfl) (fun _ hd => (hS.at_ hd).cell (i := 0) (j := 0) rfl rfl)) (ocons (obN (us := [iv u1001.speed.Lo, iv u1001.speed.Hi]) (by kernel_rfl) (fun _ hd => ((hS.at_ hd).blk (i := 0) rfl).cells rfl)) onil)) fun a hF => ?_
      refine SK.wi (litK (e := 79) (sz := 4) (f := fold_Guess.cells) (t := 29) (len := 1) (fun b1003 => [(10, sv ad996 l998 cap997), (32, sv ad5 y4.1 cap6), (33, iv (ln y4.1)), (34, iv x999), (38, sv ad996 l998 cap997), (45, sb b1003 1)]) #[(0, .agg #[iv u1001.whole, iv 0, iv u1001.speed.Lo, iv u1001.speed.Hi])] #[iv u1001.whole, iv 0, iv u1001.speed.Lo, iv u1001.speed.Hi] ([(fold_Guess.mk (u1001.whole, 0) u1001.speed)]) hF hS (by kernel_rfl) ⟨by kernel_rfl⟩ (by kernel_rfl) fold_Guess.cells_len rfl rfl (by kernel_rfl) (fun _ => ⟨by kernel_rfl⟩) fun b1003 w a hF hS => ?_)
      replace h := bindS h
      obtain ⟨l1004, hl1004, h⟩ := h
      refine SK.wi (appK (t := 29) (ty := 29) (bytes := 32) (l := l998) (l' := ([(fold_Guess.mk (u1001.whole, 0) u1001.speed)])) (fun ad1005 cap1006 => [(10, sv ad996 l998 cap997), (32, sv ad5 y4.1 cap6), (33, iv (ln y4.1)), (34, iv x999), (46, sv ad1005 l1004 cap1006)]) 2 hF hS rfl (by kernel_rfl) ⟨by kernel_rfl⟩ (by kernel_rfl) (hS.arr (i := 0) rfl) (fun _ _ => rfl) hl1004 (fun _ _ => ⟨by kernel_rfl⟩) fun ad1005 cap1006 w a hF hS => ?_)
      refine rn 1 10 [(10, sv ad1005 l1004 cap1006), (32, sv ad5 y4.1 cap6), (33, iv (ln y4.1)), (34, iv x999)] hF fun a hF => ?_
      refine WI.fin rfl (norm_block <| norm_then <| ?_)
      refine WI.region ?_
      replace h := bindS h
      obtain ⟨x1007, hx1007, h⟩ := h
      refine rno 2 [.run [] (binOp .add 3 (iv x999) (iv 1)) (iv x1007)] 2 [(10, sv ad1005 l1004 cap1006), (32, sv ad5 y4.1 cap6), (33, iv (ln y4.1)), (34, iv x1007)] hF (ocons (obAddC (fun _ => hx1007)) onil) fun a hF => ?_
      refine wfn rfl ?_
      rw [hk8] at h
      exact ⟨n_, Nat.lt_succ_self _, l1004, x1007, ad1005, cap1006, hF.sub (by kernel_rfl), St.pick [2, 3, 4, 5, 6] (by decide) hS, h⟩
     ·replace h := bif_f h hc
      refine wpIn_exit (exit_then <| exit_then <| exit_hit <| norm_then ?_)
      exact ⟨l998, ad996, cap997, hF.sub (by kernel_rfl), St.pick [0, 1, 2, 3, 4] (by decide) hS, h⟩
    rintro a w ⟨l976, ad974, cap975, hF, hS, h⟩
    rw [fold_guesses_K7] at h
    refine esr ?_
    refine rn 3 3 [(6, sv ad974 l976 cap975), (7, .bool true)] hF fun a hF => ?_
    refine wfn rfl ?_
    refine wpIn_ret (ret_then <| fn_ret [.tmp 6, .tmp 7] [sv ad974 l976 cap975, .bool true] hF rfl ⟨rfl, rfl, trivial⟩ ?_)
    have hr_ := Option.some.inj h
    subst hr_
    exact ⟨_, _, rfl, St.pick [0] (by decide) hS⟩
   ·replace h := bif_f h hc
    refine wpIn_skip (norm_then ?_)
    exact ⟨hF.sub (by kernel_rfl), St.pick [0, 1, 2, 3] (by decide) hS, h⟩
  rintro a w ⟨hF, hS, h⟩
  rw [fold_guesses_K1] at h
  refine esr ?_
  refine rno 3 [.run [] (Instr.loadAt 33 (pb b1)) (p0.ag), .run [] (Instr.loadAt 28 (pb b2)) (p1.ag)] 3 [(8, sv ad5 y4.1 cap6), (10, .slice none 0 0), (50, p0.ag), (51, p1.ag), (52, iv p2)] hF (ocons (obN (us := p0.cells) (by kernel_rfl) (fun _ hd => ((hS.at_ hd).blk (i := 2) rfl).cells rfl)) (ocons (obN (us := p1.cells) (by kernel_rfl) (fun _ hd => ((hS.at_ hd).blk (i := 1) rfl).cells rfl)) onil)) fun a hF => ?_
  replace h := bindS h
  obtain ⟨y72, hy72, h⟩ := h
  refine SK.wi (callK (f := 91) (args := #[p0.ag, p1.ag, iv 1, iv p2]) (R := fun v w2 => ∃ ad73 cap74, v = .tuple #[sv ad73 y72.1 cap74, .bool y72.2] ∧ St w [arr 178 3 fold_option.cells ad73 y72.1.length cap74 y72.1] w2) (fun v71 => [(8, sv ad5 y4.1 cap6), (10, .slice none 0 0), (53, v71)]) hF (by kernel_rfl) ⟨by kernel_rfl⟩ (Calls.mono (fold_list_ok F p0 (api_Echo.mk p1.Kind p1.Power ((api_Span.mk p1.Steps.1.Lo p1.Steps.1.Hi), (api_Span.mk p1.Steps.2.Lo p1.Steps.2.Hi)) p1.Spread p1.Ratio p1.Match p1.Turn) 1 p2 _ hy72 (memOf w) w (memOf_at w) ) (by rintro e w2 ⟨ad73, cap74, rfl, h⟩; exact ⟨_, rfl, ad73, cap74, rfl, h⟩)) (fun _ => ⟨by kernel_rfl⟩) ?_)
  rintro v71 w a ⟨ad73, cap74, rfl, hQ⟩ hF
  replace hS : St w0 [arr 178 3 fold_option.cells ad73 y72.1.length cap74 y72.1, arr 178 3 fold_option.cells ad5 y4.1.length cap6 y4.1, blk b2 28 p1.ar, blk b1 33 p0.ar, fz w0 μ] w := hS.madeL hQ
  refine rn 5 9 [(8, sv ad5 y4.1 cap6), (9, .bool y72.2), (10, .slice none 0 0), (13, sv ad73 y72.1 cap74)] hF fun a hF => ?_
  refine wfn rfl ?_
  refine ecut (fun a w => ∃ (l509 : (List fold_Guess)) (ad507 : Option Addr) (cap508 : Nat), Fr 91 [] [(9, .bool y72.2), (10, sv ad507 l509 cap508)] a ∧ St w0 [arr 79 4 fold_Guess.cells ad507 l509.length cap508 l509, arr 178 3 fold_option.cells ad73 y72.1.length cap74 y72.1, arr 178 3 fold_option.cells ad5 y4.1.length cap6 y4.1, blk b2 28 p1.ar, blk b1 33 p0.ar, fz w0 μ] w ∧ fold_guesses_K2 y72 l509 = some res) ?_ ?_
  ·skip
   refine esr ?_
   refine rn 3 3 [(9, .bool y72.2), (10, .slice none 0 0), (13, sv ad73 y72.1 cap74), (56, sv ad5 y4.1 cap6), (57, iv (ln y4.1)), (58, iv 0)] hF fun a hF => ?_
   refine wfn rfl ?_
   refine wpIn_block ?_
   replace hS := hS.nilarr 79 4 fold_Guess.cells
   refine eloop (fun n_ a w => ∃ (l799 : (List fold_Guess)) (x800 : Int) (ad797 : Option Addr) (cap798 : Nat), Fr 91 [] [(9, .bool y72.2), (10, sv ad797 l799 cap798), (13, sv ad73 y72.1 cap74), (56, sv ad5 y4.1 cap6), (57, iv (ln y4.1)), (58, iv x800)] a ∧ St w0 [arr 79 4 fold_Guess.cells ad797 l799.length cap798 l799, arr 178 3 fold_option.cells ad73 y72.1.length cap74 y72.1, arr 178 3 fold_option.cells ad5 y4.1.length cap6 y4.1, blk b2 28 p1.ar, blk b1 33 p0.ar, fz w0 μ] w ∧ fold_guesses_L3 F y4 y72 n_ l799 x800 = some res) F ⟨[], 0, none, 0, hF.sub (by kernel_rfl), St.pick [0, 1, 2, 3, 4, 5] (by decide) hS, h⟩ ?_
   rintro n_ a w ⟨l799, x800, ad797, cap798, hF, hS, h⟩
   rcases n_ with _ | n_
   ·cases (show (none : Option ((List fold_Guess) × Bool)) = some res from h)
   obtain ⟨k3, hk3⟩ : ∃ k, k = fold_guesses_L3 F y4 y72 n_ := ⟨_, rfl⟩
   replace h : fold_guesses_B3 F y4 y72 k3 l799 x800 = some res := by rw [hk3]; exact h
   rw [fold_guesses_B3] at h
   refine esr ?_
   refine rn 1 1 [(9, .bool y72.2), (10, sv ad797 l799 cap798), (13, sv ad73 y72.1 cap74), (56, sv ad5 y4.1 cap6), (57, iv (ln y4.1)), (58, iv x800), (59, .bool (decide (x800 < (ln y4.1))))] hF fun a hF => ?_
   refine wfn rfl ?_
   refine eseq ?_
   refine econd hF rfl (fun hc => ?_) (fun hc => ?_)
   ·replace h := bif_t h hc
    refine wpIn_skip (norm_then ?_)
    refine ecut (fun a w => ∃ (l872 : (List fold_Guess)) (ad870 : Option Addr) (cap871 : Nat), Fr 91 [] [(9, .bool y72.2), (10, sv ad870 l872 cap871), (13, sv ad73 y72.1 cap74), (56, sv ad5 y4.1 cap6), (57, iv (ln y4.1)), (58, iv x800)] a ∧ St w0 [arr 79 4 fold_Guess.cells ad870 l872.length cap871 l872, arr 178 3 fold_option.cells ad73 y72.1.length cap74 y72.1, arr 178 3 fold_option.cells ad5 y4.1.length cap6 y4.1, blk b2 28 p1.ar, blk b1 33 p0.ar, fz w0 μ] w ∧ fold_guesses_K4 x800 k3 l872 = some res) ?_ ?_
    ·skip
     refine wpIn_block ?_
     refine esr ?_
     replace h := bindS h
     obtain ⟨u875, hu875, h⟩ := h
     refine rno 2 [.run [] (Instr.indexAt 174 (sv ad5 y4.1 cap6) (iv x800)) (.pointer (some (slAddr ad5 x800 3))), .run [] (Instr.loadAt 178 (.pointer (some (slAddr ad5 x800 3)))) (u875.ag)] 2 [(9, .bool y72.2), (10, sv ad797 l799 cap798), (13, sv ad73 y72.1 cap74), (56, sv ad5 y4.1 cap6), (57, iv (ln y4.1)), (58, iv x800), (61, u875.ag)] hF (ocons (obIdxQ (hS.arr (i := 2) rfl) (by kernel_rfl) (fun _ => hu875)) (ocons (obElNQ (m := 3) (i := x800) (us := u875.cells) 0 fold_option.cells_len (fun _ hd => ((hS.at_ hd).arr (i := 2) rfl)) (by kernel_rfl) (fun _ => hu875) ⟨rfl, rfl⟩) onil)) fun a hF => ?_
     refine SK.wi (allocK (t := 178) (fun b876 => [(9, .bool y72.2), (10, sv ad797 l799 cap798), (13, sv ad73 y72.1 cap74), (15, pb b876), (56, sv ad5 y4.1 cap6), (57, iv (ln y4.1)), (58, iv x800), (61, u875.ag)]) #[iv 0, iv 0, iv 0] hF hS (by kernel_rfl) ⟨by kernel_rfl⟩ (by kernel_rfl) (fun _ => ⟨by kernel_rfl⟩) fun b876 w a hF hS => ?_)
     refine SK.wi (storeK (t := 178) [(9, .bool y72.2), (10, sv ad797 l799 cap798), (13, sv ad73 y72.1 cap74), (15, pb b876), (56, sv ad5 y4.1 cap6), (57, iv (ln y4.1)), (58, iv x800)] 0 0 (u875.ag) u875.ar hF hS rfl (by kernel_rfl) ⟨by kernel_rfl⟩ (by kernel_rfl) (by kernel_rfl) (by kernel_rfl) (by kernel_rfl) ⟨by kernel_rfl⟩ fun w a hF hS => ?_)
     refine wfn rfl ?_
     refine esr ?_
     refine rn 3 3 [(9, .bool y72.2), (10, sv ad797 l799 cap798), (13, sv ad73 y72.1 cap74), (15, pb b876), (56, sv ad5 y4.1 cap6), (57, iv (ln y4.1)), (58, iv x800), (62, sv ad73 y72.1 cap74), (63, iv (ln y72.1)), (64, iv 0)] hF fun a hF => ?_
     refine wfn rfl ?_
     refine wpIn_block ?_
     refine eloop (fun n_ a w => ∃ (l921 : (List fold_Guess)) (x922 : Int) (ad919 : Option Addr) (cap920 : Nat), Fr 91 [] [(9, .bool y72.2), (10, sv ad919 l921 cap920), (13, sv ad73 y72.1 cap74), (15, pb b876), (56, sv ad5 y4.1 cap6), (57, iv (ln y4.1)), (58, iv x800), (62, sv ad73 y72.1 cap74), (63, iv (ln y72.1)), (64, iv x922)] a ∧ St w0 [arr 79 4 fold_Guess.cells ad919 l921.length cap920 l921, blk b876 178 u875.ar, arr 178 3 fold_option.cells ad73 y72.1.length cap74 y72.1, arr 178 3 fold_option.cells ad5 y4.1.length cap6 y4.1, blk b2 28 p1.ar, blk b1 33 p0.ar, fz w0 μ] w ∧ fold_guesses_L5 y72 x800 k3 u875 n_ l921 x922 = some res) F ⟨l799, 0, ad797, cap798, hF.sub (by kernel_rfl), St.pick [1, 0, 2, 3, 4, 5, 6] (by decide) hS, h⟩ ?_
     rintro n_ a w ⟨l921, x922, ad919, cap920, hF, hS, h⟩
     rcases n_ with _ | n_
     ·cases (show (none : Option ((List fold_Guess) × Bool)) = some res from h)
     obtain ⟨k5, hk5⟩ : ∃ k, k = fold_guesses_L5 y72 x800 k3 u875 n_ := ⟨_, rfl⟩
     replace h : fold_guesses_B5 y72 x800 k3 u875 k5 l921 x922 = some res := by rw [hk5]; exact h
     rw [fold_guesses_B5] at h
     refine esr ?_
     refine rn 1 1 [(9, .bool y72.2), (10, sv ad919 l921 cap920), (13, sv ad73 y72.1 cap74), (15, pb b876), (56, sv ad5 y4.1 cap6), (57, iv (ln y4.1)), (58, iv x800), (62, sv ad73 y72.1 cap74), (63, iv (ln y72.1)), (64, iv x922), (65, .bool (decide (x922 < (ln y72.1))))] hF fun a hF => ?_
     refine wfn rfl ?_
     refine eseq ?_
     refine econd hF rfl (fun hc => ?_) (fun hc => ?_)
     ·replace h := bif_t h hc
      refine wpIn_skip (norm_then ?_)
      refine ecut (fun a w => ∃ (l933 : (List fold_Guess)) (ad931 : Option Addr) (cap932 : Nat), Fr 91 [] [(9, .bool y72.2), (10, sv ad931 l933 cap932), (13, sv ad73 y72.1 cap74), (15, pb b876), (56, sv ad5 y4.1 cap6), (57, iv (ln y4.1)), (58, iv x800), (62, sv ad73 y72.1 cap74), (63, iv (ln y72.1)), (64, iv x922)] a ∧ St w0 [arr 79 4 fold_Guess.cells ad931 l933.length cap932 l933, blk b876 178 u875.ar, arr 178 3 fold_option.cells ad73 y72.1.length cap74 y72.1, arr 178 3 fold_option.cells ad5 y4.1.length cap6 y4.1, blk b2 28 p1.ar, blk b1 33 p0.ar, fz w0 μ] w ∧ fold_guesses_K6 x922 k5 l933 = some res) ?_ ?_
      ·skip
       refine wpIn_block ?_
       refine esr ?_
       replace h := bindS h
       obtain ⟨u936, hu936, h⟩ := h
       refine rno 2 [.run [] (Instr.indexAt 174 (sv ad73 y72.1 cap74) (iv x922)) (.pointer (some (slAddr ad73 x922 3))), .run [] (Instr.loadAt 178 (.pointer (some (slAddr ad73 x922 3)))) (u936.ag)] 2 [(9, .bool y72.2), (10, sv ad919 l921 cap920), (13, sv ad73 y72.1 cap74), (15, pb b876), (56, sv ad5 y4.1 cap6), (57, iv (ln y4.1)), (58, iv x800), (62, sv ad73 y72.1 cap74), (63, iv (ln y72.1)), (64, iv x922), (67, u936.ag)] hF (ocons (obIdxQ (hS.arr (i := 2) rfl) (by kernel_rfl) (fun _ => hu936)) (ocons (obElNQ (m := 3) (i := x922) (us := u936.cells) 0 fold_option.cells_len (fun _ hd => ((hS.at_ hd).arr (i := 2) rfl)) (by kernel_rfl) (fun _ => hu936) ⟨rfl, rfl⟩) onil)) fun a hF => ?_
       refine SK.wi (allocK (t := 178) (fun b937 => [(9, .bool y72.2), (10, sv ad919 l921 cap920), (13, sv ad73 y72.1 cap74), (15, pb b876), (17, pb b937), (56, sv ad5 y4.1 cap6), (57, iv (ln y4.1)), (58, iv x800), (62, sv ad73 y72.1 cap74), (63, iv (ln y72.1)), (64, iv x922), (67, u936.ag)]) #[iv 0, iv 0, iv 0] hF hS (by kernel_rfl) ⟨by kernel_rfl⟩ (by kernel_rfl) (fun _ => ⟨by kernel_rfl⟩) fun b937 w a hF hS => ?_)
       refine SK.wi (storeK (t := 178) [(9, .bool y72.2), (10, sv ad919 l921 cap920), (13, sv ad73 y72.1 cap74), (15, pb b876), (17, pb b937), (56, sv ad5 y4.1 cap6), (57, iv (ln y4.1)), (58, iv x800), (62, sv ad73 y72.1 cap74), (63, iv (ln y72.1)), (64, iv x922)] 0 0 (u936.ag) u936.ar hF hS rfl (by kernel_rfl) ⟨by kernel_rfl⟩ (by kernel_rfl) (by kernel_rfl) (by kernel_rfl) (by kernel_rfl) ⟨by kernel_rfl⟩ fun w a hF hS => ?_)
       refine wfn rfl ?_
       refine esr ?_
       refine rx 8 [.run [] (Instr.loadAt 25 (.pointer (some ⟨b876, 1, none⟩))) (.agg #[iv u875.speed.Lo, iv u875.speed.Hi]), .run [] (Instr.loadAt 25 (.pointer (some ⟨b937, 1, none⟩))) (.agg #[iv u936.speed.Lo, iv u936.speed.Hi]), .call [] 92 #[.agg #[iv u875.speed.Lo, iv u875.speed.Hi], .agg #[iv u936.speed.Lo, iv u936.speed.Hi]] (.tuple #[.agg #[iv (((fold_common u875.speed u936.speed).1).Lo), iv (((fold_common u875.speed u936.speed).1).Hi)], .bool ((fold_common u875.speed u936.speed).2)])] 8 [(9, .bool y72.2), (10, sv ad919 l921 cap920), (13, sv ad73 y72.1 cap74), (15, pb b876), (17, pb b937), (56, sv ad5 y4.1 cap6), (57, iv (ln y4.1)), (58, iv x800), (62, sv ad73 y72.1 cap74), (63, iv (ln y72.1)), (64, iv x922), (74, .agg #[iv (((fold_common u875.speed u936.speed).1).Lo), iv (((fold_common u875.speed u936.speed).1).Hi)]), (75, .bool ((fold_common u875.speed u936.speed).2))] hF (ocons (obN (us := [iv u875.speed.Lo, iv u875.speed.Hi]) (by kernel_rfl) (fun _ hd => ((hS.later hd).blk (i := 2) rfl).cells rfl)) (ocons (obN (us := [iv u936.speed.Lo, iv u936.speed.Hi]) (by kernel_rfl) (fun _ hd => ((hS.later hd).blk (i := 0) rfl).cells rfl)) (ocons (show Ob.ok _ Ext _ _ from fun hk w2 hd => fold_common_ok u875.speed u936.speed _ rfl _ w2 (memOf_at w2) ) onil))) fun a w hF hx => ?_
       replace hS := hS.later hx
       refine SK.wi (allocK (t := 25) (fun b938 => [(9, .bool y72.2), (10, sv ad919 l921 cap920), (13, sv ad73 y72.1 cap74), (15, pb b876), (17, pb b937), (18, pb b938), (56, sv ad5 y4.1 cap6), (57, iv (ln y4.1)), (58, iv x800), (62, sv ad73 y72.1 cap74), (63, iv (ln y72.1)), (64, iv x922), (74, .agg #[iv (((fold_common u875.speed u936.speed).1).Lo), iv (((fold_common u875.speed u936.speed).1).Hi)]), (75, .bool ((fold_common u875.speed u936.speed).2))]) #[iv 0, iv 0] hF hS (by kernel_rfl) ⟨by kernel_rfl⟩ (by kernel_rfl) (fun _ => ⟨by kernel_rfl⟩) fun b938 w a hF hS => ?_)
       refine SK.wi (storeK (t := 25) [(9, .bool y72.2), (10, sv ad919 l921 cap920), (13, sv ad73 y72.1 cap74), (15, pb b876), (17, pb b937), (18, pb b938), (56, sv ad5 y4.1 cap6), (57, iv (ln y4.1)), (58, iv x800), (62, sv ad73 y72.1 cap74), (63, iv (ln y72.1)), (64, iv x922), (75, .bool ((fold_common u875.speed u936.speed).2))] 0 0 (.agg #[iv (((fold_common u875.speed u936.speed).1).Lo), iv (((fold_common u875.speed u936.speed).1).Hi)]) #[iv (((fold_common u875.speed u936.speed).1).Lo), iv (((fold_common u875.speed u936.speed).1).Hi)] hF hS rfl (by kernel_rfl) ⟨by kernel_rfl⟩ (by kernel_rfl) (by kernel_rfl) (by kernel_rfl) (by kernel_rfl) ⟨by kernel_rfl⟩ fun w a hF hS => ?_)
       refine rn 1 11 [(9, .bool y72.2), (10, sv ad919 l921 cap920), (13, sv ad73 y72.1 cap74), (15, pb b876), (17, pb b937), (18, pb b938), (19, .bool ((fold_common u875.speed u936.speed).2)), (56, sv ad5 y4.1 cap6), (57, iv (ln y4.1)), (58, iv x800), (62, sv ad73 y72.1 cap74), (63, iv (ln y72.1)), (64, iv x922)] hF fun a hF => ?_
       refine wfn rfl ?_
       refine esr ?_
       refine rn 1 1 [(9, .bool y72.2), (10, sv ad919 l921 cap920), (13, sv ad73 y72.1 cap74), (15, pb b876), (17, pb b937), (18, pb b938), (56, sv ad5 y4.1 cap6), (57, iv (ln y4.1)), (58, iv x800), (62, sv ad73 y72.1 cap74), (63, iv (ln y72.1)), (64, iv x922), (76, .bool ((fold_common u875.speed u936.speed).2))] hF fun a hF => ?_
       refine wfn rfl ?_
       refine econd hF rfl (fun hc => ?_) (fun hc => ?_)
       ·replace h := bif_t h hc
        refine WI.region ?_
        refine rno 8 [.run [] (Instr.loadAt 3 (pb b876)) (iv u875.whole), .run [] (Instr.loadAt 3 (pb b937)) (iv u936.whole), .run [] (Instr.loadAt 25 (pb b938)) (.agg #[iv (((fold_common u875.speed u936.speed).1).Lo), iv (((fold_common u875.speed u936.speed).1).Hi)])] 8 [(9, .bool y72.2), (10, sv ad919 l921 cap920), (13, sv ad73 y72.1 cap74), (15, pb b876), (56, sv ad5 y4.1 cap6), (57, iv (ln y4.1)), (58, iv x800), (62, sv ad73 y72.1 cap74), (63, iv (ln y72.1)), (64, iv x922), (77, sv ad919 l921 cap920), (84, .agg #[iv u875.whole, iv u936.whole, iv (((fold_common u875.speed u936.speed).1).Lo), iv (((fold_common u875.speed u936.speed).1).Hi)])] hF (ocons (ob1 (by kernel_rfl) (fun _ hd => (hS.at_ hd).cell (i := 3) (j := 0) rfl rfl)) (ocons (ob1 (by kernel_rfl) (fun _ hd => (hS.at_ hd).cell (i := 1) (j := 0) rfl rfl)) (ocons (obN (us := [iv (((fold_common u875.speed u936.speed).1).Lo), iv (((fold_common u875.speed u936.speed).1).Hi)]) (by kernel_rfl) (fun _ hd => ((hS.at_ hd).blk (i := 0) rfl).cells rfl)) onil))) fun a hF => ?_
        refine SK.wi (litK (e := 79) (sz := 4) (f := fold_Guess.cells) (t := 29) (len := 1) (fun b939 => [(9, .bool y72.2), (10, sv ad919 l921 cap920), (13, sv ad73 y72.1 cap74), (15, pb b876), (56, sv ad5 y4.1 cap6), (57, iv (ln y4.1)), (58, iv x800), (62, sv ad73 y72.1 cap74), (63, iv (ln y72.1)), (64, iv x922), (77, sv ad919 l921 cap920), (85, sb b939 1)]) #[(0, .agg #[iv u875.whole, iv u936.whole, iv (((fold_common u875.speed u936.speed).1).Lo), iv (((fold_common u875.speed u936.speed).1).Hi)])] #[iv u875.whole, iv u936.whole, iv (((fold_common u875.speed u936.speed).1).Lo), iv (((fold_common u875.speed u936.speed).1).Hi)] ([(fold_Guess.mk (u875.whole, u936.whole) (api_Span.mk (((fold_common u875.speed u936.speed).1).Lo) (((fold_common u875.speed u936.speed).1).Hi)))]) hF hS (by kernel_rfl) ⟨by kernel_rfl⟩ (by kernel_rfl) fold_Guess.cells_len rfl rfl (by kernel_rfl) (fun _ => ⟨by kernel_rfl⟩) fun b939 w a hF hS => ?_)
        replace h := bindS h
        obtain ⟨l940, hl940, h⟩ := h
        refine SK.wi (appK (t := 29) (ty := 29) (bytes := 32) (l := l921) (l' := ([(fold_Guess.mk (u875.whole, u936.whole) (api_Span.mk (((fold_common u875.speed u936.speed).1).Lo) (((fold_common u875.speed u936.speed).1).Hi)))])) (fun ad941 cap942 => [(9, .bool y72.2), (10, sv ad919 l921 cap920), (13, sv ad73 y72.1 cap74), (15, pb b876), (56, sv ad5 y4.1 cap6), (57, iv (ln y4.1)), (58, iv x800), (62, sv ad73 y72.1 cap74), (63, iv (ln y72.1)), (64, iv x922), (86, sv ad941 l940 cap942)]) 3 hF hS rfl (by kernel_rfl) ⟨by kernel_rfl⟩ (by kernel_rfl) (hS.arr (i := 0) rfl) (fun _ _ => rfl) hl940 (fun _ _ => ⟨by kernel_rfl⟩) fun ad941 cap942 w a hF hS => ?_)
        refine rn 1 11 [(9, .bool y72.2), (10, sv ad941 l940 cap942), (13, sv ad73 y72.1 cap74), (15, pb b876), (56, sv ad5 y4.1 cap6), (57, iv (ln y4.1)), (58, iv x800), (62, sv ad73 y72.1 cap74), (63, iv (ln y72.1)), (64, iv x922)] hF fun a hF => ?_
        refine WI.fin rfl (norm_block <| norm_then <| ?_)
        exact ⟨l940, ad941, cap942, hF.sub (by kernel_rfl), St.pick [3, 4, 5, 6, 7, 8, 9] (by decide) hS, h⟩
       ·replace h := bif_f h hc
        refine wpIn_skip (norm_block <| norm_then <| ?_)
        exact ⟨l921, ad919, cap920, hF.sub (by kernel_rfl), St.pick [2, 3, 4, 5, 6, 7, 8] (by decide) hS, h⟩
      rintro a w ⟨l933, ad931, cap932, hF, hS, h⟩
      rw [fold_guesses_K6] at h
      refine WI.region ?_
      replace h := bindS h
      obtain ⟨x934, hx934, h⟩ := h
      refine rno 2 [.run [] (binOp .add 3 (iv x922) (iv 1)) (iv x934)] 2 [(9, .bool y72.2), (10, sv ad931 l933 cap932), (13, sv ad73 y72.1 cap74), (15, pb b876), (56, sv ad5 y4.1 cap6), (57, iv (ln y4.1)), (58, iv x800), (62, sv ad73 y72.1 cap74), (63, iv (ln y72.1)), (64, iv x934)] hF (ocons (obAddC (fun _ => hx934)) onil) fun a hF => ?_
      refine wfn rfl ?_
      rw [hk5] at h
      exact ⟨n_, Nat.lt_succ_self _, l933, x934, ad931, cap932, hF.sub (by kernel_rfl), St.pick [0, 1, 2, 3, 4, 5, 6] (by decide) hS, h⟩
     ·replace h := bif_f h hc
      refine wpIn_exit (exit_then <| exit_then <| exit_hit <| norm_block <| norm_then <| ?_)
      exact ⟨l921, ad919, cap920, hF.sub (by kernel_rfl), St.pick [0, 2, 3, 4, 5, 6] (by decide) hS, h⟩
    rintro a w ⟨l872, ad870, cap871, hF, hS, h⟩
    rw [fold_guesses_K4] at h
    refine WI.region ?_
    replace h := bindS h
    obtain ⟨x873, hx873, h⟩ := h
    refine rno 2 [.run [] (binOp .add 3 (iv x800) (iv 1)) (iv x873)] 2 [(9, .bool y72.2), (10, sv ad870 l872 cap871), (13, sv ad73 y72.1 cap74), (56, sv ad5 y4.1 cap6), (57, iv (ln y4.1)), (58, iv x873)] hF (ocons (obAddC (fun _ => hx873)) onil) fun a hF => ?_
    refine wfn rfl ?_
    rw [hk3] at h
    exact ⟨n_, Nat.lt_succ_self _, l872, x873, ad870, cap871, hF.sub (by kernel_rfl), St.pick [0, 1, 2, 3, 4, 5] (by decide) hS, h⟩
   ·replace h := bif_f h hc
    refine wpIn_exit (exit_then <| exit_then <| exit_hit <| norm_then ?_)
    exact ⟨l799, ad797, cap798, hF.sub (by kernel_rfl), St.pick [0, 1, 2, 3, 4, 5] (by decide) hS, h⟩
  rintro a w ⟨l509, ad507, cap508, hF, hS, h⟩
  rw [fold_guesses_K2] at h
  refine esr ?_
  refine rn 4 4 [(6, sv ad507 l509 cap508), (7, .bool y72.2)] hF fun a hF => ?_
  refine wfn rfl ?_
  refine wpIn_ret (fn_ret [.tmp 6, .tmp 7] [sv ad507 l509 cap508, .bool y72.2] hF rfl ⟨rfl, rfl, trivial⟩ ?_)
  have hr_ := Option.some.inj h
  subst hr_
  exact ⟨_, _, rfl, St.pick [0] (by decide) hS⟩
end Go.Proofs.Ytbhjgebjojdohaa
