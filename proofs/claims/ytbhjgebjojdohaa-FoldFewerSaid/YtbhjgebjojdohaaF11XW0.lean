import Derived.Test.YtbhjgebjojdohaaF11XD
import Derived.Test.YtbhjgebjojdohaaProg
import Derived.Test.YtbhjgebjojdohaaF11XK
namespace Go.Proofs.Ytbhjgebjojdohaa
open Go Go.RowKit Go.Eng
set_option maxRecDepth 10000
set_option maxHeartbeats 4000000
set_option linter.unusedVariables false
set_option linter.unusedSimpArgs false
theorem fold_common_ok (p0 : api_Span) (p1 : api_Span) (res : (api_Span×Bool)) (h : fold_common p0 p1 = res) (μ : Frz) (w0 : World) (hm : FrzAt μ w0) : Calls Try.prog 92 #[.agg #[iv p0.Lo,iv p0.Hi],.agg #[iv p1.Lo,iv p1.Hi]] w0 (fun e w=>e = .returned (.tuple #[.agg #[iv res.1.Lo,iv res.1.Hi],.bool res.2])∧Ext w0 w):=by
 obtain ⟨hlow,hS⟩:=hm.init
 have hext:=Frz.ext_refl w0.heap.size μ
 rw [fold_common] at h
 refine fn_enterW Try.func92 rfl 24 [(0,.agg #[iv p0.Lo,iv p0.Hi]),(1,.agg #[iv p1.Lo,iv p1.Hi])] rfl rfl (by kernel_rfl) fun a w hw hF=>?_
 replace hS : St w0 [fz w0 μ] w:=by rw [hw]; exact hS
 clear hw
 refine esr ?_
 refine SK.wi (boxK (t:=25) (fun b1=>[(1,.agg #[iv p1.Lo,iv p1.Hi]),(2,pb b1)]) (.agg #[iv p0.Lo,iv p0.Hi]) #[iv p0.Lo,iv p0.Hi] hF hS (by kernel_rfl) ⟨by kernel_rfl⟩ (by kernel_rfl) (fun _=>⟨by kernel_rfl⟩) fun b1 w a hF hS=>?_)
 refine SK.wi (boxK (t:=25) (fun b2=>[(2,pb b1),(3,pb b2)]) (.agg #[iv p1.Lo,iv p1.Hi]) #[iv p1.Lo,iv p1.Hi] hF hS (by kernel_rfl) ⟨by kernel_rfl⟩ (by kernel_rfl) (fun _=>⟨by kernel_rfl⟩) fun b2 w a hF hS=>?_)
 refine SK.wi (allocK (t:=25) (fun b3=>[(2,pb b1),(3,pb b2),(4,pb b3)]) #[iv 0,iv 0] hF hS (by kernel_rfl) ⟨by kernel_rfl⟩ (by kernel_rfl) (fun _=>⟨by kernel_rfl⟩) fun b3 w a hF hS=>?_)
 refine rn 1 4 [(2,pb b1),(3,pb b2),(4,pb b3)] hF fun a hF=>?_
 refine wfn rfl ?_
 refine esr ?_
 refine rno 11 [.run [] (Instr.loadAt 3 (pb b1)) (iv p0.Lo),.run [] (Instr.loadAt 3 (pb b2)) (iv p1.Lo),.run [] (Instr.loadAt 3 (.pointer (some ⟨b1,1,none⟩))) (iv p0.Hi),.run [] (Instr.loadAt 3 (.pointer (some ⟨b2,1,none⟩))) (iv p1.Hi)] 11 [(4,pb b3),(17,.agg #[iv (if p1.Lo > p0.Lo then p1.Lo else p0.Lo),iv (if p1.Hi < p0.Hi then p1.Hi else p0.Hi)])] hF (ocons (ob1 (by kernel_rfl) (fun _ hd=>(hS.at_ hd).cell (i:=2) (j:=0) rfl rfl)) (ocons (ob1 (by kernel_rfl) (fun _ hd=>(hS.at_ hd).cell (i:=1) (j:=0) rfl rfl)) (ocons (ob1 (by kernel_rfl) (fun _ hd=>(hS.at_ hd).cell (i:=2) (j:=1) rfl rfl)) (ocons (ob1 (by kernel_rfl) (fun _ hd=>(hS.at_ hd).cell (i:=1) (j:=1) rfl rfl)) onil)))) fun a hF=>?_
 refine SK.wi (allocK (t:=25) (fun b4=>[(4,pb b3),(6,pb b4),(17,.agg #[iv (if p1.Lo > p0.Lo then p1.Lo else p0.Lo),iv (if p1.Hi < p0.Hi then p1.Hi else p0.Hi)])]) #[iv 0,iv 0] hF hS (by kernel_rfl) ⟨by kernel_rfl⟩ (by kernel_rfl) (fun _=>⟨by kernel_rfl⟩) fun b4 w a hF hS=>?_)
 refine SK.wi (storeK (t:=25) [(4,pb b3),(6,pb b4)] 0 0 (.agg #[iv (if p1.Lo > p0.Lo then p1.Lo else p0.Lo),iv (if p1.Hi < p0.Hi then p1.Hi else p0.Hi)]) #[iv (if p1.Lo > p0.Lo then p1.Lo else p0.Lo),iv (if p1.Hi < p0.Hi then p1.Hi else p0.Hi)] hF hS rfl (by kernel_rfl) ⟨by kernel_rfl⟩ (by kernel_rfl) (by kernel_rfl) (by kernel_rfl) (by kernel_rfl) ⟨by kernel_rfl⟩ fun w a hF hS=>?_)
 refine wfn rfl ?_
 refine eseq ?_
 refine region_treeW 8 [6] _ (D:=fun w=>St w0 [blk b4 25 #[iv (if p1.Lo > p0.Lo then p1.Lo else p0.Lo),iv (if p1.Hi < p0.Hi then p1.Hi else p0.Hi)],blk b2 25 #[iv p1.Lo,iv p1.Hi],blk b1 25 #[iv p0.Lo,iv p0.Hi]] w∧FrzAt μ w) (by kernel_rfl) (by kernel_rfl) hF.size (fun w hx=>?_) (fun _ _ h=>h)
 replace hS:=hS.later hx
 refine ⟨⟨St.pick [0,2,3] (by decide) hS,hS.frz (i:=4) rfl hlow⟩,?_⟩
 have hcl5:=Frz.le_refl μ
 refine WT.s [0,1,2,3,4,5] [6] (by kernel_rfl) (by kernel_rfl) ?_
 refine runC (rest:=[]) (obs:=[.run [] (Instr.loadAt 25 (pb b4)) (.agg #[iv (if p1.Lo > p0.Lo then p1.Lo else p0.Lo),iv (if p1.Hi < p0.Hi then p1.Hi else p0.Hi)]),.run [] (Instr.loadAt 3 (pb b4)) (iv (if p1.Lo > p0.Lo then p1.Lo else p0.Lo)),.run [] (Instr.loadAt 3 (.pointer (some ⟨b4,1,none⟩))) (iv (if p1.Hi < p0.Hi then p1.Hi else p0.Hi))]) [0,1,2,3,4,5] [(4,pb b3),(18,.agg #[iv (if p1.Lo > p0.Lo then p1.Lo else p0.Lo),iv (if p1.Hi < p0.Hi then p1.Hi else p0.Hi)]),(23,.bool (decide ((if p1.Lo > p0.Lo then p1.Lo else p0.Lo)≤(if p1.Hi < p0.Hi then p1.Hi else p0.Hi))))] hF (by kernel_rfl) (by kernel_rfl) (ocons (obN (us:=[iv (if p1.Lo > p0.Lo then p1.Lo else p0.Lo),iv (if p1.Hi < p0.Hi then p1.Hi else p0.Hi)]) (by kernel_rfl) (fun _ hd=>(hd.1.blk (i:=0) rfl).cells rfl)) (ocons (ob1 (by kernel_rfl) (fun _ hd=>hd.1.cell (i:=0) (j:=0) rfl rfl)) (ocons (ob1 (by kernel_rfl) (fun _ hd=>hd.1.cell (i:=0) (j:=1) rfl rfl)) onil))) ⟨by kernel_rfl⟩ fun a hF=>?_
 refine WRun.fin ?_
 refine all_cons ?_ (all_nil)
 refine storeK (t:=25) [(4,pb b3),(23,.bool (decide ((if p1.Lo > p0.Lo then p1.Lo else p0.Lo)≤(if p1.Hi < p0.Hi then p1.Hi else p0.Hi))))] 1 0 (.agg #[iv (if p1.Lo > p0.Lo then p1.Lo else p0.Lo),iv (if p1.Hi < p0.Hi then p1.Hi else p0.Hi)]) #[iv (if p1.Lo > p0.Lo then p1.Lo else p0.Lo),iv (if p1.Hi < p0.Hi then p1.Hi else p0.Hi)] hF hS rfl (by kernel_rfl) ⟨by kernel_rfl⟩ (by kernel_rfl) (by kernel_rfl) (by kernel_rfl) (by kernel_rfl) ⟨by kernel_rfl⟩ fun w a hF hS=>⟨⟨St.pick [0,2,3] (by decide) hS,(hS.frz (i:=4) rfl hlow)⟩,?_⟩
 refine WT.z [7] (by kernel_rfl) ?_
 refine runC (rest:=[]) (obs:=[]) [7] [(4,pb b3),(5,.bool (decide ((if p1.Lo > p0.Lo then p1.Lo else p0.Lo)≤(if p1.Hi < p0.Hi then p1.Hi else p0.Hi))))] hF (by kernel_rfl) (by kernel_rfl) onil ⟨by kernel_rfl⟩ fun a hF=>?_
 refine WRun.fin ?_
 refine wfn rfl ?_
 refine wpIn_ret (fn_ret [.cell 4 25,.tmp 5] [.agg #[iv (if p1.Lo > p0.Lo then p1.Lo else p0.Lo),iv (if p1.Hi < p0.Hi then p1.Hi else p0.Hi)],.bool (decide ((if p1.Lo > p0.Lo then p1.Lo else p0.Lo)≤(if p1.Hi < p0.Hi then p1.Hi else p0.Hi)))] hF rfl ⟨⟨_,rfl,loadVarN (cs:=[iv (if p1.Lo > p0.Lo then p1.Lo else p0.Lo),iv (if p1.Hi < p0.Hi then p1.Hi else p0.Hi)]) (by kernel_rfl) ((hS.blk (i:=1) rfl).cells rfl)⟩,rfl,trivial⟩ ?_)
 subst h
 exact ⟨rfl,hS.ext⟩
theorem fold_checked_ok (F : Nat) (p0 : (List api_Span)) (p1 : Bool) (res : Int) (h : fold_checked F p0 p1 = some res) (μ : Frz) (w0 : World) (hm : FrzAt μ w0) {ad1 : Option Addr} {cap2 : Nat} (hA3 : ArrM μ 2 api_Span.cells ad1 cap2 p0) : Calls Try.prog 61 #[sv ad1 p0 cap2,.bool p1] w0 (fun e w=>e = .returned (iv res)∧Ext w0 w):=by
 obtain ⟨hlow,hS⟩:=hm.init
 have hext:=Frz.ext_refl w0.heap.size μ
 rw [fold_checked] at h
 refine fn_enterW Try.func61 rfl 51 [(0,sv ad1 p0 cap2),(1,.bool p1)] rfl rfl (by kernel_rfl) fun a w hw hF=>?_
 replace hS : St w0 [fz w0 μ] w:=by rw [hw]; exact hS
 clear hw
 refine esr ?_
 refine rn 1 1 [(0,sv ad1 p0 cap2),(1,.bool p1)] hF fun a hF=>?_
 refine wfn rfl ?_
 refine eseq ?_
 refine esr ?_
 refine rn 3 3 [(0,sv ad1 p0 cap2),(1,.bool p1),(9,.bool (decide ((ln p0) > 256)))] hF fun a hF=>?_
 refine wfn rfl ?_
 refine econd hF rfl (fun hc=>?_) (fun hc=>?_)
 ·replace h:=bif_t h hc
  refine esr ?_
  refine rn 1 1 [(4,iv 9)] hF fun a hF=>?_
  refine wfn rfl ?_
  refine wpIn_ret (ret_then <| fn_ret [.tmp 4] [iv 9] hF rfl ⟨rfl,trivial⟩ ?_)
  have hr_:=Option.some.inj h
  subst hr_
  exact ⟨rfl,hS.ext⟩
 ·replace h:=bif_f h hc
  refine wpIn_skip (norm_then ?_)
  refine ecut (fun a w=>Fr 51 [] [] a∧St w0 [fz w0 μ] w∧fold_checked_K1 = some res) ?_ ?_
  ·skip
   refine esr ?_
   refine rn 3 3 [(0,sv ad1 p0 cap2),(1,.bool p1),(10,sv ad1 p0 cap2),(11,iv (ln p0)),(12,iv 0)] hF fun a hF=>?_
   refine wfn rfl ?_
   refine wpIn_block ?_
   refine eloop (fun n_ a w=>∃ (a1 : Int),Fr 51 [] [(0,sv ad1 p0 cap2),(1,.bool p1),(10,sv ad1 p0 cap2),(11,iv (ln p0)),(12,iv a1)] a∧St w0 [fz w0 μ] w∧fold_checked_L2 p0 p1 n_ a1 = some res) F ⟨0,hF.sub (by kernel_rfl),St.pick [0] (by decide) hS,h⟩ ?_
   rintro nk2 a w ⟨a1,hF,hS,h⟩
   rcases nk2 with _ | nk2
   ·cases (show (none : Option Int) = some res from h)
   obtain ⟨k2,hk2⟩ : ∃ k,k = fold_checked_L2 p0 p1 nk2:=⟨_,rfl⟩
   replace h : fold_checked_B2 p0 p1 k2 a1 = some res:=by rw [hk2]; exact h
   rw [fold_checked_B2] at h
   refine esr ?_
   refine rn 1 1 [(0,sv ad1 p0 cap2),(1,.bool p1),(10,sv ad1 p0 cap2),(11,iv (ln p0)),(12,iv a1),(13,.bool (decide (a1 < (ln p0))))] hF fun a hF=>?_
   refine wfn rfl ?_
   refine eseq ?_
   refine econd hF rfl (fun hc=>?_) (fun hc=>?_)
   ·replace h:=bif_t h hc
    refine wpIn_skip (norm_then ?_)
    refine eseq ?_
    refine wpIn_block ?_
    refine esr ?_
    replace h:=bindS h
    obtain ⟨a0,a5,h⟩:=h
    refine rno 3 [.run [] (Instr.indexAt 43 (sv ad1 p0 cap2) (iv a1)) (.pointer (some (slAddr ad1 a1 2))),.run [] (Instr.loadAt 25 (.pointer (some (slAddr ad1 a1 2)))) (.agg #[iv a0.Lo,iv a0.Hi])] 3 [(0,sv ad1 p0 cap2),(1,.bool p1),(10,sv ad1 p0 cap2),(11,iv (ln p0)),(12,iv a1),(14,iv a1),(16,.agg #[iv a0.Lo,iv a0.Hi])] hF (ocons (obIdxQ (hA3 _ (hS.frz (i:=0) rfl hlow)) (by kernel_rfl) (fun _=>a5)) (ocons (obElNQ (m:=2) (i:=a1) (us:=[iv a0.Lo,iv a0.Hi]) 0 api_Span.cells_len (fun _ hd=>(hA3 _ ((hS.at_ hd).frz (i:=0) rfl hlow))) (by kernel_rfl) (fun _=>a5) ⟨rfl,rfl⟩) onil)) fun a hF=>?_
    refine SK.wi (allocK (t:=25) (fun a2=>[(0,sv ad1 p0 cap2),(1,.bool p1),(6,pb a2),(10,sv ad1 p0 cap2),(11,iv (ln p0)),(12,iv a1),(14,iv a1),(16,.agg #[iv a0.Lo,iv a0.Hi])]) #[iv 0,iv 0] hF hS (by kernel_rfl) ⟨by kernel_rfl⟩ (by kernel_rfl) (fun _=>⟨by kernel_rfl⟩) fun a2 w a hF hS=>?_)
    refine rn 1 5 [(0,sv ad1 p0 cap2),(1,.bool p1),(5,iv a1),(6,pb a2),(10,sv ad1 p0 cap2),(11,iv (ln p0)),(12,iv a1),(16,.agg #[iv a0.Lo,iv a0.Hi])] hF fun a hF=>?_
    refine SK.wi (storeK (t:=25) [(0,sv ad1 p0 cap2),(1,.bool p1),(5,iv a1),(6,pb a2),(10,sv ad1 p0 cap2),(11,iv (ln p0)),(12,iv a1)] 0 0 (.agg #[iv a0.Lo,iv a0.Hi]) #[iv a0.Lo,iv a0.Hi] hF hS rfl (by kernel_rfl) ⟨by kernel_rfl⟩ (by kernel_rfl) (by kernel_rfl) (by kernel_rfl) (by kernel_rfl) ⟨by kernel_rfl⟩ fun w a hF hS=>?_)
    refine wfn rfl ?_
    refine wpIn_block ?_
    refine esr ?_
    refine rno 16 [.run [] (Instr.loadAt 3 (pb a2)) (iv a0.Lo),.run [] (Instr.loadAt 3 (.pointer (some ⟨a2,1,none⟩))) (iv a0.Hi),.run [⟨23,false,(decide (a0.Lo > a0.Hi))⟩] (Instr.loadAt 3 (pb a2)) (iv a0.Lo),.run [⟨28,false,(bif (decide (a0.Lo > a0.Hi)) then true else (decide (a0.Lo < (-200000))))⟩] (Instr.loadAt 3 (.pointer (some ⟨a2,1,none⟩))) (iv a0.Hi)] 16 [(0,sv ad1 p0 cap2),(1,.bool p1),(5,iv a1),(6,pb a2),(10,sv ad1 p0 cap2),(11,iv (ln p0)),(12,iv a1),(17,.bool (bif (bif (decide (a0.Lo > a0.Hi)) then true else (decide (a0.Lo < (-200000)))) then true else (decide (a0.Hi > 200000))))] hF (ocons (ob1 (by kernel_rfl) (fun _ hd=>(hS.at_ hd).cell (i:=0) (j:=0) rfl rfl)) (ocons (ob1 (by kernel_rfl) (fun _ hd=>(hS.at_ hd).cell (i:=0) (j:=1) rfl rfl)) (ocons (ob1 (by kernel_rfl) (fun _ hd=>(hS.at_ hd).cell (i:=0) (j:=0) rfl rfl)) (ocons (ob1 (by kernel_rfl) (fun _ hd=>(hS.at_ hd).cell (i:=0) (j:=1) rfl rfl)) onil)))) fun a hF=>?_
    refine wfn rfl ?_
    refine econd hF rfl (fun hc=>?_) (fun hc=>?_)
    ·replace h:=bif_t h hc
     refine esr ?_
     refine rn 1 1 [(4,iv 3)] hF fun a hF=>?_
     refine wfn rfl ?_
     refine wpIn_ret (ret_block <| ret_block <| ret_then <| ret_then <| ret_block <| ret_then <| fn_ret [.tmp 4] [iv 3] hF rfl ⟨rfl,trivial⟩ ?_)
     have hr_:=Option.some.inj h
     subst hr_
     exact ⟨rfl,hS.ext⟩
    ·replace h:=bif_f h hc
     refine eseq ?_
     replace h:=bindS h
     obtain ⟨a3,a8,h⟩:=h
     replace h:=bindS h
     obtain ⟨a7,a6,h⟩:=h
     refine runD (obs:=[.run [⟨39,true,(bif p1 then (decide (a1 > 0)) else false)⟩] (Instr.loadAt 3 (pb a2)) (iv a0.Lo),.run [⟨39,true,(bif p1 then (decide (a1 > 0)) else false)⟩] (binOp .sub 3 (iv a1) (iv 1)) (iv a3),.run [⟨39,true,(bif p1 then (decide (a1 > 0)) else false)⟩] (Instr.indexAt 43 (sv ad1 p0 cap2) (iv a3)) (.pointer (some (slAddr ad1 a3 2))),.run [⟨39,true,(bif p1 then (decide (a1 > 0)) else false)⟩] (Instr.loadAt 3 (.pointer (some ((slAddr ad1 a3 2).add 1)))) (iv a7.Hi)]) 17 [(0,sv ad1 p0 cap2),(1,.bool p1),(10,sv ad1 p0 cap2),(11,iv (ln p0)),(12,iv a1),(33,.bool (bif (bif p1 then (decide (a1 > 0)) else false) then (decide (a0.Lo≤a7.Hi)) else false))] (by kernel_rfl) hF (by kernel_rfl) (ocons (ob1 (by kernel_rfl) (fun _ hd=>(hS.later hd).cell (i:=0) (j:=0) rfl rfl)) (ocons (obSubC (fun hk=>gd_some a8 hk)) (ocons (obIdxQ (hA3 _ (hS.frz (i:=1) rfl hlow)) (by kernel_rfl) (fun hk=>gd_some a6 hk)) (ocons (obElQ (i:=a3) 1 api_Span.cells_len (fun _ hd=>(hA3 _ ((hS.later hd).frz (i:=1) rfl hlow))) (by kernel_rfl) (fun hk=>gd_some a6 hk) rfl) onil)))) ⟨by kernel_rfl⟩ fun a w hF hx=>?_
     replace hS:=hS.later hx
     refine wfn rfl ?_
     refine econd hF rfl (fun hc=>?_) (fun hc=>?_)
     ·replace h:=bif_t h hc
      refine esr ?_
      refine rn 1 1 [(4,iv 12)] hF fun a hF=>?_
      refine wfn rfl ?_
      refine wpIn_ret (ret_block <| ret_block <| ret_then <| ret_then <| ret_block <| ret_then <| fn_ret [.tmp 4] [iv 12] hF rfl ⟨rfl,trivial⟩ ?_)
      have hr_:=Option.some.inj h
      subst hr_
      exact ⟨rfl,hS.ext⟩
     ·replace h:=bif_f h hc
      refine wpIn_skip (norm_block <| norm_block <| norm_then <| ?_)
      refine WI.region ?_
      replace h:=bindS h
      obtain ⟨a4,a9,h⟩:=h
      refine rno 2 [.run [] (binOp .add 3 (iv a1) (iv 1)) (iv a4)] 2 [(0,sv ad1 p0 cap2),(1,.bool p1),(10,sv ad1 p0 cap2),(11,iv (ln p0)),(12,iv a4)] hF (ocons (obAddC (fun _=>a9)) onil) fun a hF=>?_
      refine wfn rfl ?_
      rw [hk2] at h
      exact ⟨nk2,Nat.lt_succ_self _,a4,hF.sub (by kernel_rfl),St.pick [1] (by decide) hS,h⟩
   ·replace h:=bif_f h hc
    refine wpIn_exit (exit_then <| exit_then <| exit_hit <| norm_then ?_)
    exact ⟨hF.sub (by kernel_rfl),St.pick [0] (by decide) hS,h⟩
  rintro a w ⟨hF,hS,h⟩
  rw [fold_checked_K1] at h
  refine esr ?_
  refine rn 1 1 [(4,iv 0)] hF fun a hF=>?_
  refine wfn rfl ?_
  refine wpIn_ret (fn_ret [.tmp 4] [iv 0] hF rfl ⟨rfl,trivial⟩ ?_)
  have hr_:=Option.some.inj h
  subst hr_
  exact ⟨rfl,hS.ext⟩
theorem slices_Clone_fold_speeds_api_Span_okS (F : Nat) (p0 : (List api_Span)) (res : (List api_Span)) (h : slices_Clone_fold_speeds_api_Span F p0 = some res) (μ : Frz) (w0 : World) (hm : FrzAt μ w0) {ad1x : Addr} {cap2 : Nat} (hA3 : ArrM μ 2 api_Span.cells (some ad1x) cap2 p0) : Calls Try.prog 99 #[.slice (some ad1x) p0.length cap2] w0 (fun e w=>∃ zad0 zcap0,e = .returned (sv zad0 res zcap0)∧St w0 [arr 25 2 api_Span.cells zad0 res.length zcap0 res] w):=by
 obtain ⟨hlow,hS⟩:=hm.init
 have hext:=Frz.ext_refl w0.heap.size μ
 rw [slices_Clone_fold_speeds_api_Span] at h
 refine fn_enterW Try.func99 rfl 8 [(0,.slice (some ad1x) p0.length cap2)] rfl rfl (by kernel_rfl) fun a w hw hF=>?_
 replace hS : St w0 [fz w0 μ] w:=by rw [hw]; exact hS
 clear hw
 refine esr ?_
 refine rn 1 1 [(0,.slice (some ad1x) p0.length cap2)] hF fun a hF=>?_
 refine wfn rfl ?_
 refine eseq ?_
 refine esr ?_
 refine rn 2 2 [(0,.slice (some ad1x) p0.length cap2),(4,.bool false)] hF fun a hF=>?_
 refine wfn rfl ?_
 refine wpIn_cond_false (hF.get rfl) ?_
 refine wpIn_skip (norm_then ?_)
 refine esr ?_
 refine SK.wi (litK (e:=25) (sz:=2) (f:=api_Span.cells) (t:=132) (len:=0) (fun b4=>[(0,.slice (some ad1x) p0.length cap2),(5,sb b4 0)]) #[] #[] ([] : List api_Span) hF hS (by kernel_rfl) ⟨by kernel_rfl⟩ (by kernel_rfl) api_Span.cells_len rfl rfl (by kernel_rfl) (fun _=>⟨by kernel_rfl⟩) fun b4 w a hF hS=>?_)
 refine rn 1 2 [(5,sb b4 0),(6,.slice (some ad1x) p0.length cap2)] hF fun a hF=>?_
 replace h:=bindS h
 obtain ⟨l5,hl5,h⟩:=h
 refine SK.wi (appK (t:=132) (ty:=132) (bytes:=16) (l:=([] : List api_Span)) (l':=p0) (fun ad6 cap7=>[(7,sv ad6 l5 cap7)]) 0 hF hS rfl (by kernel_rfl) ⟨by kernel_rfl⟩ (by kernel_rfl) (hA3 _ (hS.frz (i:=1) rfl hlow)) (fun _ _=>rfl) hl5 (fun _ _=>⟨by kernel_rfl⟩) fun ad6 cap7 w a hF hS=>?_)
 refine rn 1 4 [(2,sv ad6 l5 cap7)] hF fun a hF=>?_
 refine wfn rfl ?_
 refine wpIn_ret (fn_ret [.tmp 2] [sv ad6 l5 cap7] hF rfl ⟨rfl,trivial⟩ ?_)
 have hr_:=Option.some.inj h
 subst hr_
 exact ⟨_,_,rfl,St.pick [0] (by decide) hS⟩
theorem slices_Clone_fold_speeds_api_Span_okN (res : (List api_Span)) (h : ([] : List api_Span) = res) (μ : Frz) (w0 : World) (hm : FrzAt μ w0) {cap2 : Nat} : Calls Try.prog 99 #[.slice none 0 cap2] w0 (fun e w=>∃ zad0 zcap0,e = .returned (sv zad0 res zcap0)∧St w0 [arr 25 2 api_Span.cells zad0 res.length zcap0 res] w):=by
 obtain ⟨hlow,hS⟩:=hm.init
 have hext:=Frz.ext_refl w0.heap.size μ
 refine fn_enterW Try.func99 rfl 8 [(0,.slice none 0 cap2)] rfl rfl (by kernel_rfl) fun a w hw hF=>?_
 replace hS : St w0 [fz w0 μ] w:=by rw [hw]; exact hS
 clear hw
 refine esr ?_
 refine rn 1 1 [(0,.slice none 0 cap2)] hF fun a hF=>?_
 refine wfn rfl ?_
 refine eseq ?_
 refine esr ?_
 refine rn 2 2 [(0,.slice none 0 cap2),(4,.bool true)] hF fun a hF=>?_
 refine wfn rfl ?_
 refine wpIn_cond_true (hF.get rfl) ?_
 refine esr ?_
 refine rn 1 1 [(2,.slice none 0 0)] hF fun a hF=>?_
 refine wfn rfl ?_
 refine wpIn_ret (ret_then <| fn_ret [.tmp 2] [.slice none 0 0] hF rfl ⟨rfl,trivial⟩ ?_)
 subst h
 replace hS:=hS.nilarr 25 2 api_Span.cells
 exact ⟨_,_,rfl,St.pick [0] (by decide) hS⟩
theorem slices_Clone_fold_speeds_api_Span_ok (F : Nat) (p0 : List api_Span) (res : List api_Span) (h : slices_Clone_fold_speeds_api_Span F p0 = some res) (μ : Frz) (w0 : World) (hm : FrzAt μ w0) {ad1 : Option Addr} {cap2 : Nat} (hA3 : ArrM μ 2 api_Span.cells ad1 cap2 p0) : Calls Try.prog 99 #[sv ad1 p0 cap2] w0 (fun e w=>∃ zad0 zcap0,e = .returned (sv zad0 res zcap0)∧St w0 [arr 25 2 api_Span.cells zad0 res.length zcap0 res] w):=by
 cases ad1 with
 | some a=>exact slices_Clone_fold_speeds_api_Span_okS F p0 res h μ w0 hm hA3
 | none =>
  obtain rfl:=hA3.none_nil hm
  have hr : [] = res:=Option.some.inj (show some ([] : List api_Span) = some res from h)
  exact slices_Clone_fold_speeds_api_Span_okN res hr μ w0 hm
theorem law03_spans_ok (F : Nat) (p0 : (List api_Span)) (p1 : (List api_Span)) (res : Bool) (h : law03_spans F p0 p1 = some res) (μ : Frz) (w0 : World) (hm : FrzAt μ w0) {ad1 : Option Addr} {cap2 : Nat} {ad4 : Option Addr} {cap5 : Nat} (hA3 : ArrM μ 2 api_Span.cells ad1 cap2 p0) (hA6 : ArrM μ 2 api_Span.cells ad4 cap5 p1) : Calls Try.prog 22 #[sv ad1 p0 cap2,sv ad4 p1 cap5] w0 (fun e w=>e = .returned (.bool res)∧Ext w0 w):=by
 obtain ⟨hlow,hS⟩:=hm.init
 have hext:=Frz.ext_refl w0.heap.size μ
 rw [law03_spans] at h
 refine fn_enterW Try.func22 rfl 26 [(0,sv ad1 p0 cap2),(1,sv ad4 p1 cap5)] rfl rfl (by kernel_rfl) fun a w hw hF=>?_
 replace hS : St w0 [fz w0 μ] w:=by rw [hw]; exact hS
 clear hw
 refine esr ?_
 refine rn 1 1 [(0,sv ad1 p0 cap2),(1,sv ad4 p1 cap5)] hF fun a hF=>?_
 refine wfn rfl ?_
 refine eseq ?_
 refine esr ?_
 refine rn 5 5 [(0,sv ad1 p0 cap2),(1,sv ad4 p1 cap5),(10,.bool ((ln p0) != (ln p1)))] hF fun a hF=>?_
 refine wfn rfl ?_
 refine econd hF rfl (fun hc=>?_) (fun hc=>?_)
 ·replace h:=bif_t h hc
  refine esr ?_
  refine rn 1 1 [(4,.bool false)] hF fun a hF=>?_
  refine wfn rfl ?_
  refine wpIn_ret (ret_then <| fn_ret [.tmp 4] [.bool false] hF rfl ⟨rfl,trivial⟩ ?_)
  have hr_:=Option.some.inj h
  subst hr_
  exact ⟨rfl,hS.ext⟩
 ·replace h:=bif_f h hc
  refine wpIn_skip (norm_then ?_)
  refine ecut (fun a w=>Fr 26 [] [] a∧St w0 [fz w0 μ] w∧law03_spans_K1 = some res) ?_ ?_
  ·skip
   refine esr ?_
   refine rn 1 1 [(0,sv ad1 p0 cap2),(1,sv ad4 p1 cap5),(5,iv 0)] hF fun a hF=>?_
   refine wfn rfl ?_
   refine wpIn_block ?_
   refine eloop (fun n_ a w=>∃ (a0 : Int),Fr 26 [] [(0,sv ad1 p0 cap2),(1,sv ad4 p1 cap5),(5,iv a0)] a∧St w0 [fz w0 μ] w∧law03_spans_L2 p0 p1 n_ a0 = some res) F ⟨0,hF.sub (by kernel_rfl),St.pick [0] (by decide) hS,h⟩ ?_
   rintro nk2 a w ⟨a0,hF,hS,h⟩
   rcases nk2 with _ | nk2
   ·cases (show (none : Option Bool) = some res from h)
   obtain ⟨k2,hk2⟩ : ∃ k,k = law03_spans_L2 p0 p1 nk2:=⟨_,rfl⟩
   replace h : law03_spans_B2 p0 p1 k2 a0 = some res:=by rw [hk2]; exact h
   rw [law03_spans_B2] at h
   refine eseq ?_
   refine esr ?_
   refine rn 4 4 [(0,sv ad1 p0 cap2),(1,sv ad4 p1 cap5),(5,iv a0),(14,.bool (decide (a0 < (ln p0))))] hF fun a hF=>?_
   refine wfn rfl ?_
   refine econd hF rfl (fun hc=>?_) (fun hc=>?_)
   ·replace h:=bif_t h hc
    refine wpIn_skip (norm_then ?_)
    refine eseq ?_
    refine wpIn_block ?_
    refine eseq ?_
    replace h:=bindS h
    obtain ⟨a1,a4,h⟩:=h
    replace h:=bindS h
    obtain ⟨a2,a5,h⟩:=h
    refine runD (obs:=[.run [] (Instr.indexAt 43 (sv ad1 p0 cap2) (iv a0)) (.pointer (some (slAddr ad1 a0 2))),.run [] (Instr.loadAt 25 (.pointer (some (slAddr ad1 a0 2)))) (.agg #[iv a1.Lo,iv a1.Hi]),.run [] (Instr.indexAt 43 (sv ad4 p1 cap5) (iv a0)) (.pointer (some (slAddr ad4 a0 2))),.run [] (Instr.loadAt 25 (.pointer (some (slAddr ad4 a0 2)))) (.agg #[iv a2.Lo,iv a2.Hi]),.run [] (eqS .neq 25 #[iv a1.Lo,iv a1.Hi] #[iv a2.Lo,iv a2.Hi]) (.bool (!(((a1.Lo : Int) == a2.Lo) && (((a1.Hi : Int) == a2.Hi) && true))))]) 9 [(0,sv ad1 p0 cap2),(1,sv ad4 p1 cap5),(5,iv a0),(25,.bool (!(((a1.Lo : Int) == a2.Lo) && (((a1.Hi : Int) == a2.Hi) && true))))] (by kernel_rfl) hF (by kernel_rfl) (ocons (obIdxQ (hA3 _ (hS.frz (i:=0) rfl hlow)) (by kernel_rfl) (fun _=>a4)) (ocons (obElNQ (m:=2) (i:=a0) (us:=[iv a1.Lo,iv a1.Hi]) 0 api_Span.cells_len (fun _ hd=>(hA3 _ ((hS.later hd).frz (i:=0) rfl hlow))) (by kernel_rfl) (fun _=>a4) ⟨rfl,rfl⟩) (ocons (obIdxQ (hA6 _ (hS.frz (i:=0) rfl hlow)) (by kernel_rfl) (fun _=>a5)) (ocons (obElNQ (m:=2) (i:=a0) (us:=[iv a2.Lo,iv a2.Hi]) 0 api_Span.cells_len (fun _ hd=>(hA6 _ ((hS.later hd).frz (i:=0) rfl hlow))) (by kernel_rfl) (fun _=>a5) ⟨rfl,rfl⟩) (ocons (obNeC (by kernel_rfl) (by kernel_rfl)) onil))))) ⟨by kernel_rfl⟩ fun a w hF hx=>?_
    replace hS:=hS.later hx
    refine wfn rfl ?_
    refine econd hF rfl (fun hc=>?_) (fun hc=>?_)
    ·replace h:=bif_t h hc
     refine esr ?_
     refine rn 1 1 [(4,.bool false)] hF fun a hF=>?_
     refine wfn rfl ?_
     refine wpIn_ret (ret_block <| ret_then <| ret_then <| ret_block <| ret_then <| fn_ret [.tmp 4] [.bool false] hF rfl ⟨rfl,trivial⟩ ?_)
     have hr_:=Option.some.inj h
     subst hr_
     exact ⟨rfl,hS.ext⟩
    ·replace h:=bif_f h hc
     refine wpIn_skip (norm_block <| norm_then <| ?_)
     refine WI.region ?_
     replace h:=bindS h
     obtain ⟨a3,a6,h⟩:=h
     refine rno 3 [.run [] (binOp .add 3 (iv a0) (iv 1)) (iv a3)] 3 [(0,sv ad1 p0 cap2),(1,sv ad4 p1 cap5),(5,iv a3)] hF (ocons (obAddC (fun _=>a6)) onil) fun a hF=>?_
     refine wfn rfl ?_
     rw [hk2] at h
     exact ⟨nk2,Nat.lt_succ_self _,a3,hF.sub (by kernel_rfl),St.pick [0] (by decide) hS,h⟩
   ·replace h:=bif_f h hc
    refine wpIn_exit (exit_then <| exit_then <| exit_hit <| norm_then ?_)
    exact ⟨hF.sub (by kernel_rfl),St.pick [0] (by decide) hS,h⟩
  rintro a w ⟨hF,hS,h⟩
  rw [law03_spans_K1] at h
  refine esr ?_
  refine rn 1 1 [(4,.bool true)] hF fun a hF=>?_
  refine wfn rfl ?_
  refine wpIn_ret (fn_ret [.tmp 4] [.bool true] hF rfl ⟨rfl,trivial⟩ ?_)
  have hr_:=Option.some.inj h
  subst hr_
  exact ⟨rfl,hS.ext⟩
theorem fold_limited_ok (p0 : Int) (p1 : Int) (res : Int) (h : fold_limited p0 p1 = res) (μ : Frz) (w0 : World) (hm : FrzAt μ w0) : Calls Try.prog 66 #[iv p0,iv p1] w0 (fun e w=>e = .returned (iv res)∧Ext w0 w):=by
 obtain ⟨hlow,hS⟩:=hm.init
 have hext:=Frz.ext_refl w0.heap.size μ
 rw [fold_limited] at h
 refine fn_enterW Try.func66 rfl 19 [(0,iv p0),(1,iv p1)] rfl rfl (by kernel_rfl) fun a w hw hF=>?_
 replace hS : St w0 [fz w0 μ] w:=by rw [hw]; exact hS
 clear hw
 refine esr ?_
 refine rn 1 1 [(0,iv p0),(1,iv p1)] hF fun a hF=>?_
 refine wfn rfl ?_
 refine eseq ?_
 refine esr ?_
 refine rn 14 14 [(18,.bool (bif (bif (bif (decide (p0 < 0)) then true else (decide (p0 > 400000))) then true else (decide (p1 < 1))) then true else (decide (p1 > 16))))] hF fun a hF=>?_
 refine wfn rfl ?_
 refine econd hF rfl (fun hc=>?_) (fun hc=>?_)
 ·replace h:=bif_t h hc
  refine esr ?_
  refine rn 1 1 [(4,iv 3)] hF fun a hF=>?_
  refine wfn rfl ?_
  refine wpIn_ret (ret_then <| fn_ret [.tmp 4] [iv 3] hF rfl ⟨rfl,trivial⟩ ?_)
  subst h
  exact ⟨rfl,hS.ext⟩
 ·replace h:=bif_f h hc
  refine wpIn_skip (norm_then ?_)
  refine esr ?_
  refine rn 1 1 [(4,iv 0)] hF fun a hF=>?_
  refine wfn rfl ?_
  refine wpIn_ret (fn_ret [.tmp 4] [iv 0] hF rfl ⟨rfl,trivial⟩ ?_)
  subst h
  exact ⟨rfl,hS.ext⟩
theorem fold_known_ok (F : Nat) (p0 : (List (List api_Span))) (res : (List Int)) (h : fold_known F p0 = some res) (μ : Frz) (w0 : World) (hm : FrzAt μ w0) {ad1 : Option Addr} {cap2 : Nat} {css3 : List (List Value)} (hA4 : ArrQ μ 1 Rp132 ad1 cap2 css3 p0) : Calls Try.prog 67 #[sv ad1 p0 cap2] w0 (fun e w=>∃ zad0 zcap0,e = .returned (sv zad0 res zcap0)∧St w0 [arr 3 1 fI zad0 res.length zcap0 res] w):=by
 obtain ⟨hlow,hS⟩:=hm.init
 have hext:=Frz.ext_refl w0.heap.size μ
 rw [fold_known] at h
 refine fn_enterW Try.func67 rfl 22 [(0,sv ad1 p0 cap2)] rfl rfl (by kernel_rfl) fun a w hw hF=>?_
 replace hS : St w0 [fz w0 μ] w:=by rw [hw]; exact hS
 clear hw
 refine esr ?_
 refine rn 1 1 [(0,sv ad1 p0 cap2)] hF fun a hF=>?_
 refine wfn rfl ?_
 refine esr ?_
 refine rn 1 1 [(0,sv ad1 p0 cap2),(3,.slice none 0 0)] hF fun a hF=>?_
 refine wfn rfl ?_
 refine ecut (fun a w=>∃ (a5 : (List Int)) (a7 : Option Addr) (a9 : Nat),Fr 22 [] [(3,sv a7 a5 a9)] a∧St w0 [arr 3 1 fI a7 a5.length a9 a5,fz w0 μ] w∧fold_known_K1 a5 = some res) ?_ ?_
 ·skip
  refine esr ?_
  refine rn 3 3 [(3,.slice none 0 0),(6,sv ad1 p0 cap2),(7,iv (ln p0)),(8,iv 0)] hF fun a hF=>?_
  refine wfn rfl ?_
  refine wpIn_block ?_
  replace hS:=hS.nilarr 3 1 fI
  refine eloop (fun n_ a w=>∃ (a1 : (List Int)) (a0 : Int) (a2 : Option Addr) (a3 : Nat),Fr 22 [] [(3,sv a2 a1 a3),(6,sv ad1 p0 cap2),(7,iv (ln p0)),(8,iv a0)] a∧St w0 [arr 3 1 fI a2 a1.length a3 a1,fz w0 μ] w∧fold_known_L2 p0 n_ a1 a0 = some res) F ⟨[],0,none,0,hF.sub (by kernel_rfl),St.pick [0,1] (by decide) hS,h⟩ ?_
  rintro nk2 a w ⟨a1,a0,a2,a3,hF,hS,h⟩
  rcases nk2 with _ | nk2
  ·cases (show (none : Option (List Int)) = some res from h)
  obtain ⟨k2,hk2⟩ : ∃ k,k = fold_known_L2 p0 nk2:=⟨_,rfl⟩
  replace h : fold_known_B2 p0 k2 a1 a0 = some res:=by rw [hk2]; exact h
  rw [fold_known_B2] at h
  refine esr ?_
  refine rn 1 1 [(3,sv a2 a1 a3),(6,sv ad1 p0 cap2),(7,iv (ln p0)),(8,iv a0),(9,.bool (decide (a0 < (ln p0))))] hF fun a hF=>?_
  refine wfn rfl ?_
  refine eseq ?_
  refine econd hF rfl (fun hc=>?_) (fun hc=>?_)
  ·replace h:=bif_t h hc
   refine wpIn_skip (norm_then ?_)
   refine ecut (fun a w=>∃ (a4 : (List Int)) (a6 : Option Addr) (a8 : Nat),Fr 22 [] [(3,sv a6 a4 a8),(6,sv ad1 p0 cap2),(7,iv (ln p0)),(8,iv a0)] a∧St w0 [arr 3 1 fI a6 a4.length a8 a4,fz w0 μ] w∧fold_known_K3 a0 k2 a4 = some res) ?_ ?_
   ·skip
    refine wpIn_block ?_
    refine esr ?_
    replace h:=bindS h
    obtain ⟨aD,aL,h⟩:=h
    obtain ⟨aN,aI,aJ⟩:=getI_all2 hA4.2 aL
    obtain ⟨aF,aH,rfl,aO⟩:=aJ
    refine rno 5 [.run [] (Instr.indexAt 135 (sv ad1 p0 cap2) (iv a0)) (.pointer (some (slAddr ad1 a0 1))),.run [] (Instr.loadAt 132 (.pointer (some (slAddr ad1 a0 1)))) (sv aF aD aH)] 5 [(3,sv a2 a1 a3),(4,iv a0),(5,sv aF aD aH),(6,sv ad1 p0 cap2),(7,iv (ln p0)),(8,iv a0)] hF (ocons (obIdxQ (hA4.at (hS.frz (i:=1) rfl hlow)) (by kernel_rfl) (fun _=>aI)) (ocons (obElQ (i:=a0) 0 (fN_len 1) (fun _ hd=>(hA4.at ((hS.at_ hd).frz (i:=1) rfl hlow))) (by kernel_rfl) (fun _=>aI) rfl) onil)) fun a hF=>?_
    refine wfn rfl ?_
    refine esr ?_
    refine rn 3 3 [(3,sv a2 a1 a3),(4,iv a0),(6,sv ad1 p0 cap2),(7,iv (ln p0)),(8,iv a0),(15,.bool (decide ((ln aD) > 0)))] hF fun a hF=>?_
    refine wfn rfl ?_
    refine econd hF rfl (fun hc=>?_) (fun hc=>?_)
    ·replace h:=bif_t h hc
     refine WI.region ?_
     refine rn 2 2 [(3,sv a2 a1 a3),(6,sv ad1 p0 cap2),(7,iv (ln p0)),(8,iv a0),(16,sv a2 a1 a3),(17,iv a0)] hF fun a hF=>?_
     refine SK.wi (litK (e:=3) (sz:=1) (f:=fI) (t:=60) (len:=1) (fun aG=>[(3,sv a2 a1 a3),(6,sv ad1 p0 cap2),(7,iv (ln p0)),(8,iv a0),(16,sv a2 a1 a3),(18,sb aG 1)]) #[(0,iv a0)] #[iv a0] ([a0]) hF hS (by kernel_rfl) ⟨by kernel_rfl⟩ (by kernel_rfl) fI_len rfl rfl (by kernel_rfl) (fun _=>⟨by kernel_rfl⟩) fun aG w a hF hS=>?_)
     replace h:=bindS h
     obtain ⟨aC,aK,h⟩:=h
     refine SK.wi (appK (t:=60) (ty:=60) (bytes:=8) (l:=a1) (l':=([a0])) (fun aA aB=>[(3,sv a2 a1 a3),(6,sv ad1 p0 cap2),(7,iv (ln p0)),(8,iv a0),(19,sv aA aC aB)]) 1 hF hS rfl (by kernel_rfl) ⟨by kernel_rfl⟩ (by kernel_rfl) (hS.arr (i:=0) rfl) (fun _ _=>rfl) aK (fun _ _=>⟨by kernel_rfl⟩) fun aA aB w a hF hS=>?_)
     refine rn 1 5 [(3,sv aA aC aB),(6,sv ad1 p0 cap2),(7,iv (ln p0)),(8,iv a0)] hF fun a hF=>?_
     refine WI.fin rfl (norm_block <| norm_then <| ?_)
     exact ⟨aC,aA,aB,hF.sub (by kernel_rfl),St.pick [1,2] (by decide) hS,h⟩
    ·replace h:=bif_f h hc
     refine wpIn_skip (norm_block <| norm_then <| ?_)
     exact ⟨a1,a2,a3,hF.sub (by kernel_rfl),St.pick [0,1] (by decide) hS,h⟩
   rintro a w ⟨a4,a6,a8,hF,hS,h⟩
   rw [fold_known_K3] at h
   refine WI.region ?_
   replace h:=bindS h
   obtain ⟨aE,aM,h⟩:=h
   refine rno 2 [.run [] (binOp .add 3 (iv a0) (iv 1)) (iv aE)] 2 [(3,sv a6 a4 a8),(6,sv ad1 p0 cap2),(7,iv (ln p0)),(8,iv aE)] hF (ocons (obAddC (fun _=>aM)) onil) fun a hF=>?_
   refine wfn rfl ?_
   rw [hk2] at h
   exact ⟨nk2,Nat.lt_succ_self _,a4,aE,a6,a8,hF.sub (by kernel_rfl),St.pick [0,1] (by decide) hS,h⟩
  ·replace h:=bif_f h hc
   refine wpIn_exit (exit_then <| exit_then <| exit_hit <| norm_then ?_)
   exact ⟨a1,a2,a3,hF.sub (by kernel_rfl),St.pick [0,1] (by decide) hS,h⟩
 rintro a w ⟨a5,a7,a9,hF,hS,h⟩
 rw [fold_known_K1] at h
 refine esr ?_
 refine rn 2 2 [(2,sv a7 a5 a9)] hF fun a hF=>?_
 refine wfn rfl ?_
 refine wpIn_ret (fn_ret [.tmp 2] [sv a7 a5 a9] hF rfl ⟨rfl,trivial⟩ ?_)
 have hr_:=Option.some.inj h
 subst hr_
 exact ⟨_,_,rfl,St.pick [0] (by decide) hS⟩
theorem fold_settle_1_ok (F : Nat) (p0 : fold_place) (c0_ : (List (fold_place×Bool))) (c1_ : (List fold_place)) (res : ((List (fold_place×Bool))×(List fold_place))) (h : fold_settle_1 F p0 c0_ c1_ = some res) (μ : Frz) (w0 w1 : World) (T_ : List Res) (hlow : FrzIn w0 μ) {cb1 : Nat} {m1 : Nat} {cb2 : Nat} {ad2 : Option Addr} {cap3 : Nat} (hS : St w0 (fz w0 μ :: blk cb1 189 #[.map (some m1)] :: mapR (fA fold_place.cells) Value.bool m1 c0_ :: blk cb2 190 #[sv ad2 c1_ cap3] :: arrT 192 2 fold_place.cells ad2 c1_.length cap3 c1_ :: T_) w1) : Calls Try.prog 105 #[.agg #[iv p0.ray,iv p0.gate],pb cb1,pb cb2] w1 (fun e w=>∃ (ν_ : Frz) (ad9 : Option Addr) (a0 : Nat),μ.ext w0.heap.size ν_∧FrzIn w0 ν_∧e = .returned (.tuple #[])∧St w0 (fz w0 ν_ :: blk cb1 189 #[.map (some m1)] :: mapR (fA fold_place.cells) Value.bool m1 res.1 :: blk cb2 190 #[sv ad9 res.2 a0] :: arrT 192 2 fold_place.cells ad9 res.2.length a0 res.2 :: T_) w):=by
 rw [fold_settle_1] at h
 have hext:=Frz.ext_refl w0.heap.size μ
 refine fn_enterW Try.func105 rfl 14 [(0,.agg #[iv p0.ray,iv p0.gate]),(1,pb cb1),(2,pb cb2)] rfl rfl (by kernel_rfl) fun a w hw hF=>?_
 replace hS : St w0 (fz w0 μ :: blk cb1 189 #[.map (some m1)] :: mapR (fA fold_place.cells) Value.bool m1 c0_ :: blk cb2 190 #[sv ad2 c1_ cap3] :: arrT 192 2 fold_place.cells ad2 c1_.length cap3 c1_ :: T_) w:=by rw [hw]; exact hS
 clear hw
 refine esr ?_
 refine SK.wi (boxK (t:=192) (fun b4=>[(1,pb cb1),(2,pb cb2),(3,pb b4)]) (.agg #[iv p0.ray,iv p0.gate]) #[iv p0.ray,iv p0.gate] hF hS (by kernel_rfl) ⟨by kernel_rfl⟩ (by kernel_rfl) (fun _=>⟨by kernel_rfl⟩) fun b4 w a hF hS=>?_)
 refine wfn rfl ?_
 refine esr ?_
 refine rno 2 [.run [] (Instr.loadAt 189 (pb cb1)) (.map (some m1)),.run [] (Instr.loadAt 192 (pb b4)) (.agg #[iv p0.ray,iv p0.gate])] 2 [(1,pb cb1),(2,pb cb2),(3,pb b4),(4,.map (some m1)),(5,.agg #[iv p0.ray,iv p0.gate])] hF (ocons (ob1 (by kernel_rfl) (fun _ hd=>(hS.at_ hd).cell (i:=2) (j:=0) rfl rfl)) (ocons (obN (us:=[iv p0.ray,iv p0.gate]) (by kernel_rfl) (fun _ hd=>((hS.at_ hd).blk (i:=0) rfl).cells rfl)) onil)) fun a hF=>?_
 refine SK.wi (lookupK (kt:=192) (e:=4) (t:=189) [(1,pb cb1),(2,pb cb2),(3,pb b4),(6,.bool ((lkM c0_ p0).getD false))] 3 p0 false key192 hF hS rfl (by kernel_rfl) ⟨by kernel_rfl⟩ (by kernel_rfl) (by kernel_rfl) ⟨by kernel_rfl⟩ fun a hF=>?_)
 refine rn 1 4 [(1,pb cb1),(2,pb cb2),(3,pb b4),(7,.bool (!((lkM c0_ p0).getD false)))] hF fun a hF=>?_
 refine wfn rfl ?_
 refine econd hF rfl (fun hc=>?_) (fun hc=>?_)
 ·replace h:=bif_t h hc
  refine esr ?_
  refine rno 2 [.run [] (Instr.loadAt 189 (pb cb1)) (.map (some m1)),.run [] (Instr.loadAt 192 (pb b4)) (.agg #[iv p0.ray,iv p0.gate])] 2 [(2,pb cb2),(3,pb b4),(8,.map (some m1)),(9,.agg #[iv p0.ray,iv p0.gate])] hF (ocons (ob1 (by kernel_rfl) (fun _ hd=>(hS.at_ hd).cell (i:=2) (j:=0) rfl rfl)) (ocons (obN (us:=[iv p0.ray,iv p0.gate]) (by kernel_rfl) (fun _ hd=>((hS.at_ hd).blk (i:=0) rfl).cells rfl)) onil)) fun a hF=>?_
  refine SK.wi (updK (kt:=192) (e:=4) (t:=189) [(2,pb cb2),(3,pb b4)] 3 p0 true key192 hF hS rfl (by kernel_rfl) ⟨by kernel_rfl⟩ (by kernel_rfl) ⟨by kernel_rfl⟩ fun w a hF hS=>?_)
  refine wfn rfl ?_
  refine WI.region ?_
  refine rno 2 [.run [] (Instr.loadAt 190 (pb cb2)) (sv ad2 c1_ cap3),.run [] (Instr.loadAt 192 (pb b4)) (.agg #[iv p0.ray,iv p0.gate])] 2 [(2,pb cb2),(10,sv ad2 c1_ cap3),(11,.agg #[iv p0.ray,iv p0.gate])] hF (ocons (ob1 (by kernel_rfl) (fun _ hd=>(hS.at_ hd).cell (i:=4) (j:=0) rfl rfl)) (ocons (obN (us:=[iv p0.ray,iv p0.gate]) (by kernel_rfl) (fun _ hd=>((hS.at_ hd).blk (i:=0) rfl).cells rfl)) onil)) fun a hF=>?_
  refine SK.wi (litK (e:=192) (sz:=2) (f:=fold_place.cells) (t:=190) (len:=1) (fun b5=>[(2,pb cb2),(10,sv ad2 c1_ cap3),(12,sb b5 1)]) #[(0,.agg #[iv p0.ray,iv p0.gate])] #[iv p0.ray,iv p0.gate] ([p0]) hF hS (by kernel_rfl) ⟨by kernel_rfl⟩ (by kernel_rfl) fold_place.cells_len rfl rfl (by kernel_rfl) (fun _=>⟨by kernel_rfl⟩) fun b5 w a hF hS=>?_)
  replace h:=bindS h
  obtain ⟨l6,hl6,h⟩:=h
  refine SK.wi (appTK (t:=190) (ty:=190) (bytes:=16) (l:=c1_) (l':=([p0])) (fun ad7 cap8=>[(2,pb cb2),(13,sv ad7 l6 cap8)]) 6 hF hS rfl (by kernel_rfl) ⟨by kernel_rfl⟩ (by kernel_rfl) (hS.arr (i:=0) rfl) (fun _ _=>rfl) hl6 (fun _ _=>⟨by kernel_rfl⟩) fun ad7 cap8 w a hF hS=>?_)
  refine SK.wi (storeK (t:=190) [] 5 0 (sv ad7 l6 cap8) #[sv ad7 l6 cap8] hF hS rfl (by kernel_rfl) ⟨by kernel_rfl⟩ (by kernel_rfl) (by kernel_rfl) (by kernel_rfl) (by kernel_rfl) ⟨by kernel_rfl⟩ fun w a hF hS=>?_)
  refine WI.fin rfl ?_
  refine fn_end hF rfl ?_
  have hr_:=Option.some.inj h
  subst hr_
  replace hS : St w0 (arr 192 2 fold_place.cells (some ⟨b5,0,none⟩) ([p0]).length 1 ([p0]) :: blk b4 192 #[iv p0.ray,iv p0.gate] :: fz w0 μ :: blk cb1 189 #[.map (some m1)] :: mapR (fA fold_place.cells) Value.bool m1 (upM c0_ p0 true) :: blk cb2 190 #[sv ad7 l6 cap8] :: arrT 192 2 fold_place.cells ad7 l6.length cap8 l6 :: T_) w:=hS
  replace hS:=St.pickT (A:=[arr 192 2 fold_place.cells (some ⟨b5,0,none⟩) ([p0]).length 1 ([p0]),blk b4 192 #[iv p0.ray,iv p0.gate],fz w0 μ,blk cb1 189 #[.map (some m1)],mapR (fA fold_place.cells) Value.bool m1 (upM c0_ p0 true),blk cb2 190 #[sv ad7 l6 cap8],arrT 192 2 fold_place.cells ad7 l6.length cap8 l6]) (T:=T_) [2,3,4,5,6] (by decide) hS
  exact ⟨μ,ad7,cap8,hext,hlow,rfl,hS⟩
 ·replace h:=bif_f h hc
  refine wpIn_skip ?_
  refine fn_end hF rfl ?_
  have hr_:=Option.some.inj h
  subst hr_
  replace hS : St w0 (blk b4 192 #[iv p0.ray,iv p0.gate] :: fz w0 μ :: blk cb1 189 #[.map (some m1)] :: mapR (fA fold_place.cells) Value.bool m1 c0_ :: blk cb2 190 #[sv ad2 c1_ cap3] :: arrT 192 2 fold_place.cells ad2 c1_.length cap3 c1_ :: T_) w:=hS
  replace hS:=St.pickT (A:=[blk b4 192 #[iv p0.ray,iv p0.gate],fz w0 μ,blk cb1 189 #[.map (some m1)],mapR (fA fold_place.cells) Value.bool m1 c0_,blk cb2 190 #[sv ad2 c1_ cap3],arrT 192 2 fold_place.cells ad2 c1_.length cap3 c1_]) (T:=T_) [1,2,3,4,5] (by decide) hS
  exact ⟨μ,ad2,cap3,hext,hlow,rfl,hS⟩
theorem law03_span_ok (p0 : Int) (p1 : Int) (res : api_Span) (h : law03_span p0 p1 = res) (μ : Frz) (w0 : World) (hm : FrzAt μ w0) : Calls Try.prog 46 #[iv p0,iv p1] w0 (fun e w=>e = .returned (.agg #[iv res.Lo,iv res.Hi])∧Ext w0 w):=by
 obtain ⟨hlow,hS⟩:=hm.init
 have hext:=Frz.ext_refl w0.heap.size μ
 rw [law03_span] at h
 refine fn_enterW Try.func46 rfl 8 [(0,iv p0),(1,iv p1)] rfl rfl (by kernel_rfl) fun a w hw hF=>?_
 replace hS : St w0 [fz w0 μ] w:=by rw [hw]; exact hS
 clear hw
 refine esr ?_
 refine SK.wi (allocK (t:=25) (fun b1=>[(0,iv p0),(1,iv p1),(4,pb b1)]) #[iv 0,iv 0] hF hS (by kernel_rfl) ⟨by kernel_rfl⟩ (by kernel_rfl) (fun _=>⟨by kernel_rfl⟩) fun b1 w a hF hS=>?_)
 refine wfn rfl ?_
 refine esr ?_
 refine rn 3 3 [(4,pb b1),(7,.agg #[iv p0,iv p1])] hF fun a hF=>?_
 refine SK.wi (storeK (t:=25) [(4,pb b1)] 0 0 (.agg #[iv p0,iv p1]) #[iv p0,iv p1] hF hS rfl (by kernel_rfl) ⟨by kernel_rfl⟩ (by kernel_rfl) (by kernel_rfl) (by kernel_rfl) (by kernel_rfl) ⟨by kernel_rfl⟩ fun w a hF hS=>?_)
 refine wfn rfl ?_
 refine wpIn_ret (fn_ret [.cell 4 25] [.agg #[iv p0,iv p1]] hF rfl ⟨⟨_,rfl,loadVarN (cs:=[iv p0,iv p1]) (by kernel_rfl) ((hS.blk (i:=0) rfl).cells rfl)⟩,trivial⟩ ?_)
 subst h
 exact ⟨rfl,hS.ext⟩
theorem law03_fewer_ok (F : Nat) (p0 : (List api_Span)) (p1 : (List Int)) (p2 : Int) (res : (List api_Span)) (h : law03_fewer F p0 p1 p2 = some res) (μ : Frz) (w0 : World) (hm : FrzAt μ w0) {ad1 : Option Addr} {cap2 : Nat} {ad4 : Option Addr} {cap5 : Nat} (hA3 : ArrM μ 2 api_Span.cells ad1 cap2 p0) (hA6 : ArrM μ 1 (fK .u8) ad4 cap5 p1) : Calls Try.prog 44 #[sv ad1 p0 cap2,sv ad4 p1 cap5,iv p2] w0 (fun e w=>∃ zad0 zcap0,e = .returned (sv zad0 res zcap0)∧St w0 [arr 25 2 api_Span.cells zad0 res.length zcap0 res] w):=by
 obtain ⟨hlow,hS⟩:=hm.init
 have hext:=Frz.ext_refl w0.heap.size μ
 rw [law03_fewer] at h
 refine fn_enterW Try.func44 rfl 59 [(0,sv ad1 p0 cap2),(1,sv ad4 p1 cap5),(2,iv p2)] rfl rfl (by kernel_rfl) fun a w hw hF=>?_
 replace hS : St w0 [fz w0 μ] w:=by rw [hw]; exact hS
 clear hw
 refine esr ?_
 refine rn 1 1 [(0,sv ad1 p0 cap2),(1,sv ad4 p1 cap5),(2,iv p2)] hF fun a hF=>?_
 refine wfn rfl ?_
 refine esr ?_
 refine rn 1 1 [(0,sv ad1 p0 cap2),(1,sv ad4 p1 cap5),(2,iv p2),(7,.slice none 0 0)] hF fun a hF=>?_
 refine wfn rfl ?_
 refine ecut (fun a w=>∃ (a7 : (List api_Span)) (aA : Option Addr) (aC : Nat),Fr 59 [] [(7,sv aA a7 aC)] a∧St w0 [arr 25 2 api_Span.cells aA a7.length aC a7,fz w0 μ] w∧law03_fewer_K1 a7 = some res) ?_ ?_
 ·skip
  refine esr ?_
  refine rn 3 3 [(0,sv ad1 p0 cap2),(1,sv ad4 p1 cap5),(2,iv p2),(7,.slice none 0 0),(11,sv ad1 p0 cap2),(12,iv (ln p0)),(13,iv 0)] hF fun a hF=>?_
  refine wfn rfl ?_
  refine wpIn_block ?_
  replace hS:=hS.nilarr 25 2 api_Span.cells
  refine eloop (fun n_ a w=>∃ (a1 : Int) (a2 : (List api_Span)) (a3 : Option Addr) (a4 : Nat),Fr 59 [] [(0,sv ad1 p0 cap2),(1,sv ad4 p1 cap5),(2,iv p2),(7,sv a3 a2 a4),(11,sv ad1 p0 cap2),(12,iv (ln p0)),(13,iv a1)] a∧St w0 [arr 25 2 api_Span.cells a3 a2.length a4 a2,fz w0 μ] w∧law03_fewer_L2 p0 p1 p2 n_ a1 a2 = some res) F ⟨0,[],none,0,hF.sub (by kernel_rfl),St.pick [0,1] (by decide) hS,h⟩ ?_
  rintro nk2 a w ⟨a1,a2,a3,a4,hF,hS,h⟩
  rcases nk2 with _ | nk2
  ·cases (show (none : Option (List api_Span)) = some res from h)
  obtain ⟨k2,hk2⟩ : ∃ k,k = law03_fewer_L2 p0 p1 p2 nk2:=⟨_,rfl⟩
  replace h : law03_fewer_B2 p0 p1 p2 k2 a1 a2 = some res:=by rw [hk2]; exact h
  rw [law03_fewer_B2] at h
  refine esr ?_
  refine rn 1 1 [(0,sv ad1 p0 cap2),(1,sv ad4 p1 cap5),(2,iv p2),(7,sv a3 a2 a4),(11,sv ad1 p0 cap2),(12,iv (ln p0)),(13,iv a1),(14,.bool (decide (a1 < (ln p0))))] hF fun a hF=>?_
  refine wfn rfl ?_
  refine eseq ?_
  refine econd hF rfl (fun hc=>?_) (fun hc=>?_)
  ·replace h:=bif_t h hc
   refine wpIn_skip (norm_then ?_)
   refine ecut (fun a w=>∃ (a8 : (List api_Span)) (aB : Option Addr) (aD : Nat),Fr 59 [] [(0,sv ad1 p0 cap2),(1,sv ad4 p1 cap5),(2,iv p2),(7,sv aB a8 aD),(11,sv ad1 p0 cap2),(12,iv (ln p0)),(13,iv a1)] a∧St w0 [arr 25 2 api_Span.cells aB a8.length aD a8,fz w0 μ] w∧law03_fewer_K3 a1 k2 a8 = some res) ?_ ?_
   ·skip
    refine wpIn_block ?_
    refine esr ?_
    replace h:=bindS h
    obtain ⟨a0,aM,h⟩:=h
    refine rno 3 [.run [] (Instr.indexAt 43 (sv ad1 p0 cap2) (iv a1)) (.pointer (some (slAddr ad1 a1 2))),.run [] (Instr.loadAt 25 (.pointer (some (slAddr ad1 a1 2)))) (.agg #[iv a0.Lo,iv a0.Hi])] 3 [(0,sv ad1 p0 cap2),(1,sv ad4 p1 cap5),(2,iv p2),(7,sv a3 a2 a4),(11,sv ad1 p0 cap2),(12,iv (ln p0)),(13,iv a1),(15,iv a1),(17,.agg #[iv a0.Lo,iv a0.Hi])] hF (ocons (obIdxQ (hA3 _ (hS.frz (i:=1) rfl hlow)) (by kernel_rfl) (fun _=>aM)) (ocons (obElNQ (m:=2) (i:=a1) (us:=[iv a0.Lo,iv a0.Hi]) 0 api_Span.cells_len (fun _ hd=>(hA3 _ ((hS.at_ hd).frz (i:=1) rfl hlow))) (by kernel_rfl) (fun _=>aM) ⟨rfl,rfl⟩) onil)) fun a hF=>?_
    refine SK.wi (allocK (t:=25) (fun a6=>[(0,sv ad1 p0 cap2),(1,sv ad4 p1 cap5),(2,iv p2),(7,sv a3 a2 a4),(9,pb a6),(11,sv ad1 p0 cap2),(12,iv (ln p0)),(13,iv a1),(15,iv a1),(17,.agg #[iv a0.Lo,iv a0.Hi])]) #[iv 0,iv 0] hF hS (by kernel_rfl) ⟨by kernel_rfl⟩ (by kernel_rfl) (fun _=>⟨by kernel_rfl⟩) fun a6 w a hF hS=>?_)
    refine rn 1 5 [(0,sv ad1 p0 cap2),(1,sv ad4 p1 cap5),(2,iv p2),(7,sv a3 a2 a4),(8,iv a1),(9,pb a6),(11,sv ad1 p0 cap2),(12,iv (ln p0)),(13,iv a1),(17,.agg #[iv a0.Lo,iv a0.Hi])] hF fun a hF=>?_
    refine SK.wi (storeK (t:=25) [(0,sv ad1 p0 cap2),(1,sv ad4 p1 cap5),(2,iv p2),(7,sv a3 a2 a4),(8,iv a1),(9,pb a6),(11,sv ad1 p0 cap2),(12,iv (ln p0)),(13,iv a1)] 0 0 (.agg #[iv a0.Lo,iv a0.Hi]) #[iv a0.Lo,iv a0.Hi] hF hS rfl (by kernel_rfl) ⟨by kernel_rfl⟩ (by kernel_rfl) (by kernel_rfl) (by kernel_rfl) (by kernel_rfl) ⟨by kernel_rfl⟩ fun w a hF hS=>?_)
    refine wfn rfl ?_
    refine esr ?_
    refine rn 1 1 [(0,sv ad1 p0 cap2),(1,sv ad4 p1 cap5),(2,iv p2),(7,sv a3 a2 a4),(8,iv a1),(9,pb a6),(10,iv 0),(11,sv ad1 p0 cap2),(12,iv (ln p0)),(13,iv a1)] hF fun a hF=>?_
    refine wfn rfl ?_
    refine ecut (fun a w=>∃ (a9 : Int),Fr 59 [] [(0,sv ad1 p0 cap2),(1,sv ad4 p1 cap5),(2,iv p2),(7,sv a3 a2 a4),(8,iv a1),(9,pb a6),(10,iv a9),(11,sv ad1 p0 cap2),(12,iv (ln p0)),(13,iv a1)] a∧St w0 [blk a6 25 #[iv a0.Lo,iv a0.Hi],arr 25 2 api_Span.cells a3 a2.length a4 a2,fz w0 μ] w∧law03_fewer_K4 p0 a1 a2 k2 a0 a9 = some res) ?_ ?_
    ·skip
     refine esr ?_
     refine rn 3 3 [(0,sv ad1 p0 cap2),(1,sv ad4 p1 cap5),(2,iv p2),(7,sv a3 a2 a4),(8,iv a1),(9,pb a6),(10,iv 0),(11,sv ad1 p0 cap2),(12,iv (ln p0)),(13,iv a1),(20,.bool (decide ((ln p1) > 0)))] hF fun a hF=>?_
     refine wfn rfl ?_
     refine econd hF rfl (fun hc=>?_) (fun hc=>?_)
     ·replace h:=bif_t h hc
      refine WI.region ?_
      replace h:=bindS h
      obtain ⟨aS,b0,h⟩:=h
      replace h:=bindS h
      obtain ⟨aE,b1,h⟩:=h
      replace h:=bindS h
      obtain ⟨aO,aN,h⟩:=h
      replace h:=bindS h
      obtain ⟨aK,b2,h⟩:=h
      refine rno 11 [.run [] (binOp .add 3 (iv p2) (iv a1)) (iv aS),.run [] (binOp .rem 3 (iv aS) (iv (ln p1))) (iv aE),.run [] (Instr.indexAt 91 (sv ad4 p1 cap5) (iv aE)) (.pointer (some (slAddr ad4 aE 1))),.run [] (Instr.loadAt 5 (.pointer (some (slAddr ad4 aE 1)))) (.int .u8 aO),.run [] (convert 5 3 (.int .u8 aO)) (iv aK)] 11 [(0,sv ad1 p0 cap2),(1,sv ad4 p1 cap5),(2,iv p2),(7,sv a3 a2 a4),(8,iv a1),(9,pb a6),(10,iv aK),(11,sv ad1 p0 cap2),(12,iv (ln p0)),(13,iv a1)] hF (ocons (obAddC (fun _=>b0)) (ocons (obRemC (fun _=>b1)) (ocons (obIdxQ (hA6 _ (hS.frz (i:=2) rfl hlow)) (by kernel_rfl) (fun _=>aN)) (ocons (obElQ (i:=aE) 0 (fK_len .u8) (fun _ hd=>(hA6 _ ((hS.at_ hd).frz (i:=2) rfl hlow))) (by kernel_rfl) (fun _=>aN) rfl) (ocons (obConvC (by kernel_rfl) (by kernel_rfl) (fun _=>b2)) onil))))) fun a hF=>?_
      refine wfn rfl ?_
      exact ⟨aK,hF.sub (by kernel_rfl),St.pick [0,1,2] (by decide) hS,h⟩
     ·replace h:=bif_f h hc
      refine wpIn_skip (norm_then ?_)
      exact ⟨0,hF.sub (by kernel_rfl),St.pick [0,1,2] (by decide) hS,h⟩
    rintro a w ⟨a9,hF,hS,h⟩
    rw [law03_fewer_K4] at h
    refine eseq ?_
    refine esr ?_
    replace h:=bindS h
    obtain ⟨aH,aV,h⟩:=h
    replace h:=bindS h
    obtain ⟨aP,aW,h⟩:=h
    replace h:=bindS h
    obtain ⟨aQ,aX,h⟩:=h
    refine rno 13 [.run [] (binOp .rem 3 (iv a9) (iv 3)) (iv aH),.run [⟨34,true,(aH == 0)⟩] (binOp .add 3 (iv (ln a2)) (iv (ln p0))) (iv aP),.run [⟨34,true,(aH == 0)⟩] (binOp .sub 3 (iv aP) (iv a1)) (iv aQ)] 13 [(0,sv ad1 p0 cap2),(1,sv ad4 p1 cap5),(2,iv p2),(7,sv a3 a2 a4),(9,pb a6),(10,iv a9),(11,sv ad1 p0 cap2),(12,iv (ln p0)),(13,iv a1),(43,.bool (bif (aH == 0) then (decide (aQ > 1)) else false))] hF (ocons (obRemC (fun _=>aV)) (ocons (obAddC (fun hk=>gd_some aW hk)) (ocons (obSubC (fun hk=>gd_some aX hk)) onil))) fun a hF=>?_
    refine wfn rfl ?_
    refine econd hF rfl (fun hc=>?_) (fun hc=>?_)
    ·replace h:=bif_t h hc
     refine wpIn_exit (exit_then <| exit_hit <| norm_then ?_)
     exact ⟨a2,a3,a4,hF.sub (by kernel_rfl),St.pick [1,2] (by decide) hS,h⟩
    ·replace h:=bif_f h hc
     refine wpIn_skip (norm_then ?_)
     refine esr ?_
     replace h:=bindS h
     obtain ⟨aR,aY,h⟩:=h
     replace h:=bindS h
     obtain ⟨a5,aZ,h⟩:=h
     refine rno 9 [.run [] (Instr.loadAt 3 (.pointer (some ⟨a6,1,none⟩))) (iv a0.Hi),.run [] (Instr.loadAt 3 (pb a6)) (iv a0.Lo),.run [] (binOp .rem 3 (iv a9) (iv 4)) (iv aR),.run [] (binOp .add 3 (iv a0.Lo) (iv aR)) (iv a5)] 9 [(0,sv ad1 p0 cap2),(1,sv ad4 p1 cap5),(2,iv p2),(7,sv a3 a2 a4),(9,pb a6),(11,sv ad1 p0 cap2),(12,iv (ln p0)),(13,iv a1),(51,iv (if a5 < a0.Hi then a5 else a0.Hi)),(52,pb a6)] hF (ocons (ob1 (by kernel_rfl) (fun _ hd=>(hS.at_ hd).cell (i:=0) (j:=1) rfl rfl)) (ocons (ob1 (by kernel_rfl) (fun _ hd=>(hS.at_ hd).cell (i:=0) (j:=0) rfl rfl)) (ocons (obRemC (fun _=>aY)) (ocons (obAddC (fun _=>aZ)) onil)))) fun a hF=>?_
     refine SK.wi (storeK (t:=3) [(0,sv ad1 p0 cap2),(1,sv ad4 p1 cap5),(2,iv p2),(7,sv a3 a2 a4),(9,pb a6),(11,sv ad1 p0 cap2),(12,iv (ln p0)),(13,iv a1)] 0 0 (iv (if a5 < a0.Hi then a5 else a0.Hi)) #[iv (if a5 < a0.Hi then a5 else a0.Hi),iv a0.Hi] hF hS rfl (by kernel_rfl) ⟨by kernel_rfl⟩ (by kernel_rfl) (by kernel_rfl) (by kernel_rfl) (by kernel_rfl) ⟨by kernel_rfl⟩ fun w a hF hS=>?_)
     refine wfn rfl ?_
     refine WI.region ?_
     refine rno 2 [.run [] (Instr.loadAt 25 (pb a6)) (.agg #[iv (if a5 < a0.Hi then a5 else a0.Hi),iv a0.Hi])] 2 [(0,sv ad1 p0 cap2),(1,sv ad4 p1 cap5),(2,iv p2),(7,sv a3 a2 a4),(11,sv ad1 p0 cap2),(12,iv (ln p0)),(13,iv a1),(53,sv a3 a2 a4),(54,.agg #[iv (if a5 < a0.Hi then a5 else a0.Hi),iv a0.Hi])] hF (ocons (obN (us:=[iv (if a5 < a0.Hi then a5 else a0.Hi),iv a0.Hi]) (by kernel_rfl) (fun _ hd=>((hS.at_ hd).blk (i:=0) rfl).cells rfl)) onil) fun a hF=>?_
     refine SK.wi (litK (e:=25) (sz:=2) (f:=api_Span.cells) (t:=43) (len:=1) (fun aL=>[(0,sv ad1 p0 cap2),(1,sv ad4 p1 cap5),(2,iv p2),(7,sv a3 a2 a4),(11,sv ad1 p0 cap2),(12,iv (ln p0)),(13,iv a1),(53,sv a3 a2 a4),(55,sb aL 1)]) #[(0,.agg #[iv (if a5 < a0.Hi then a5 else a0.Hi),iv a0.Hi])] #[iv (if a5 < a0.Hi then a5 else a0.Hi),iv a0.Hi] ([(api_Span.mk (if a5 < a0.Hi then a5 else a0.Hi) a0.Hi)]) hF hS (by kernel_rfl) ⟨by kernel_rfl⟩ (by kernel_rfl) api_Span.cells_len rfl rfl (by kernel_rfl) (fun _=>⟨by kernel_rfl⟩) fun aL w a hF hS=>?_)
     replace h:=bindS h
     obtain ⟨aI,aT,h⟩:=h
     refine SK.wi (appK (t:=43) (ty:=43) (bytes:=16) (l:=a2) (l':=([(api_Span.mk (if a5 < a0.Hi then a5 else a0.Hi) a0.Hi)])) (fun aF aG=>[(0,sv ad1 p0 cap2),(1,sv ad4 p1 cap5),(2,iv p2),(7,sv a3 a2 a4),(11,sv ad1 p0 cap2),(12,iv (ln p0)),(13,iv a1),(56,sv aF aI aG)]) 2 hF hS rfl (by kernel_rfl) ⟨by kernel_rfl⟩ (by kernel_rfl) (hS.arr (i:=0) rfl) (fun _ _=>rfl) aT (fun _ _=>⟨by kernel_rfl⟩) fun aF aG w a hF hS=>?_)
     refine rn 1 5 [(0,sv ad1 p0 cap2),(1,sv ad4 p1 cap5),(2,iv p2),(7,sv aF aI aG),(11,sv ad1 p0 cap2),(12,iv (ln p0)),(13,iv a1)] hF fun a hF=>?_
     refine WI.fin rfl (norm_block <| norm_then <| ?_)
     exact ⟨aI,aF,aG,hF.sub (by kernel_rfl),St.pick [2,3] (by decide) hS,h⟩
   rintro a w ⟨a8,aB,aD,hF,hS,h⟩
   rw [law03_fewer_K3] at h
   refine WI.region ?_
   replace h:=bindS h
   obtain ⟨aJ,aU,h⟩:=h
   refine rno 2 [.run [] (binOp .add 3 (iv a1) (iv 1)) (iv aJ)] 2 [(0,sv ad1 p0 cap2),(1,sv ad4 p1 cap5),(2,iv p2),(7,sv aB a8 aD),(11,sv ad1 p0 cap2),(12,iv (ln p0)),(13,iv aJ)] hF (ocons (obAddC (fun _=>aU)) onil) fun a hF=>?_
   refine wfn rfl ?_
   rw [hk2] at h
   exact ⟨nk2,Nat.lt_succ_self _,aJ,a8,aB,aD,hF.sub (by kernel_rfl),St.pick [0,1] (by decide) hS,h⟩
  ·replace h:=bif_f h hc
   refine wpIn_exit (exit_then <| exit_then <| exit_hit <| norm_then ?_)
   exact ⟨a2,a3,a4,hF.sub (by kernel_rfl),St.pick [0,1] (by decide) hS,h⟩
 rintro a w ⟨a7,aA,aC,hF,hS,h⟩
 rw [law03_fewer_K1] at h
 refine esr ?_
 refine rn 2 2 [(6,sv aA a7 aC)] hF fun a hF=>?_
 refine wfn rfl ?_
 refine wpIn_ret (fn_ret [.tmp 6] [sv aA a7 aC] hF rfl ⟨rfl,trivial⟩ ?_)
 have hr_:=Option.some.inj h
 subst hr_
 exact ⟨_,_,rfl,St.pick [0] (by decide) hS⟩
theorem law03_inside_ok (F : Nat) (p0 : (List api_Span)) (p1 : (List api_Span)) (res : Bool) (h : law03_inside F p0 p1 = some res) (μ : Frz) (w0 : World) (hm : FrzAt μ w0) {ad1 : Option Addr} {cap2 : Nat} {ad4 : Option Addr} {cap5 : Nat} (hA3 : ArrM μ 2 api_Span.cells ad1 cap2 p0) (hA6 : ArrM μ 2 api_Span.cells ad4 cap5 p1) : Calls Try.prog 45 #[sv ad1 p0 cap2,sv ad4 p1 cap5] w0 (fun e w=>e = .returned (.bool res)∧Ext w0 w):=by
 obtain ⟨hlow,hS⟩:=hm.init
 have hext:=Frz.ext_refl w0.heap.size μ
 rw [law03_inside] at h
 refine fn_enterW Try.func45 rfl 41 [(0,sv ad1 p0 cap2),(1,sv ad4 p1 cap5)] rfl rfl (by kernel_rfl) fun a w hw hF=>?_
 replace hS : St w0 [fz w0 μ] w:=by rw [hw]; exact hS
 clear hw
 refine esr ?_
 refine rn 1 1 [(0,sv ad1 p0 cap2),(1,sv ad4 p1 cap5)] hF fun a hF=>?_
 refine wfn rfl ?_
 refine ecut (fun a w=>Fr 41 [] [] a∧St w0 [fz w0 μ] w∧law03_inside_K1 = some res) ?_ ?_
 ·skip
  refine esr ?_
  refine rn 3 3 [(1,sv ad4 p1 cap5),(10,sv ad1 p0 cap2),(11,iv (ln p0)),(12,iv 0)] hF fun a hF=>?_
  refine wfn rfl ?_
  refine wpIn_block ?_
  refine eloop (fun n_ a w=>∃ (a0 : Int),Fr 41 [] [(1,sv ad4 p1 cap5),(10,sv ad1 p0 cap2),(11,iv (ln p0)),(12,iv a0)] a∧St w0 [fz w0 μ] w∧law03_inside_L2 F p0 p1 n_ a0 = some res) F ⟨0,hF.sub (by kernel_rfl),St.pick [0] (by decide) hS,h⟩ ?_
  rintro nk2 a w ⟨a0,hF,hS,h⟩
  rcases nk2 with _ | nk2
  ·cases (show (none : Option Bool) = some res from h)
  obtain ⟨k2,hk2⟩ : ∃ k,k = law03_inside_L2 F p0 p1 nk2:=⟨_,rfl⟩
  replace h : law03_inside_B2 F p0 p1 k2 a0 = some res:=by rw [hk2]; exact h
  rw [law03_inside_B2] at h
  refine esr ?_
  refine rn 1 1 [(1,sv ad4 p1 cap5),(10,sv ad1 p0 cap2),(11,iv (ln p0)),(12,iv a0),(13,.bool (decide (a0 < (ln p0))))] hF fun a hF=>?_
  refine wfn rfl ?_
  refine eseq ?_
  refine econd hF rfl (fun hc=>?_) (fun hc=>?_)
  ·replace h:=bif_t h hc
   refine wpIn_skip (norm_then ?_)
   refine ecut (fun a w=>Fr 41 [] [(1,sv ad4 p1 cap5),(10,sv ad1 p0 cap2),(11,iv (ln p0)),(12,iv a0)] a∧St w0 [fz w0 μ] w∧law03_inside_K3 a0 k2 = some res) ?_ ?_
   ·skip
    refine wpIn_block ?_
    refine esr ?_
    replace h:=bindS h
    obtain ⟨a1,aA,h⟩:=h
    refine rno 2 [.run [] (Instr.indexAt 43 (sv ad1 p0 cap2) (iv a0)) (.pointer (some (slAddr ad1 a0 2))),.run [] (Instr.loadAt 25 (.pointer (some (slAddr ad1 a0 2)))) (.agg #[iv a1.Lo,iv a1.Hi])] 2 [(1,sv ad4 p1 cap5),(10,sv ad1 p0 cap2),(11,iv (ln p0)),(12,iv a0),(15,.agg #[iv a1.Lo,iv a1.Hi])] hF (ocons (obIdxQ (hA3 _ (hS.frz (i:=0) rfl hlow)) (by kernel_rfl) (fun _=>aA)) (ocons (obElNQ (m:=2) (i:=a0) (us:=[iv a1.Lo,iv a1.Hi]) 0 api_Span.cells_len (fun _ hd=>(hA3 _ ((hS.at_ hd).frz (i:=0) rfl hlow))) (by kernel_rfl) (fun _=>aA) ⟨rfl,rfl⟩) onil)) fun a hF=>?_
    refine SK.wi (allocK (t:=25) (fun a3=>[(1,sv ad4 p1 cap5),(6,pb a3),(10,sv ad1 p0 cap2),(11,iv (ln p0)),(12,iv a0),(15,.agg #[iv a1.Lo,iv a1.Hi])]) #[iv 0,iv 0] hF hS (by kernel_rfl) ⟨by kernel_rfl⟩ (by kernel_rfl) (fun _=>⟨by kernel_rfl⟩) fun a3 w a hF hS=>?_)
    refine SK.wi (storeK (t:=25) [(1,sv ad4 p1 cap5),(6,pb a3),(10,sv ad1 p0 cap2),(11,iv (ln p0)),(12,iv a0)] 0 0 (.agg #[iv a1.Lo,iv a1.Hi]) #[iv a1.Lo,iv a1.Hi] hF hS rfl (by kernel_rfl) ⟨by kernel_rfl⟩ (by kernel_rfl) (by kernel_rfl) (by kernel_rfl) (by kernel_rfl) ⟨by kernel_rfl⟩ fun w a hF hS=>?_)
    refine wfn rfl ?_
    refine esr ?_
    refine rn 1 1 [(1,sv ad4 p1 cap5),(6,pb a3),(7,.bool false),(10,sv ad1 p0 cap2),(11,iv (ln p0)),(12,iv a0)] hF fun a hF=>?_
    refine wfn rfl ?_
    refine ecut (fun a w=>∃ (a7 : Bool),Fr 41 [] [(1,sv ad4 p1 cap5),(7,.bool a7),(10,sv ad1 p0 cap2),(11,iv (ln p0)),(12,iv a0)] a∧St w0 [blk a3 25 #[iv a1.Lo,iv a1.Hi],fz w0 μ] w∧law03_inside_K4 a0 k2 a7 = some res) ?_ ?_
    ·skip
     refine esr ?_
     refine rn 3 3 [(1,sv ad4 p1 cap5),(6,pb a3),(7,.bool false),(10,sv ad1 p0 cap2),(11,iv (ln p0)),(12,iv a0),(16,sv ad4 p1 cap5),(17,iv (ln p1)),(18,iv 0)] hF fun a hF=>?_
     refine wfn rfl ?_
     refine wpIn_block ?_
     refine eloop (fun n_ a w=>∃ (a5 : Int) (a4 : Bool),Fr 41 [] [(1,sv ad4 p1 cap5),(6,pb a3),(7,.bool a4),(10,sv ad1 p0 cap2),(11,iv (ln p0)),(12,iv a0),(16,sv ad4 p1 cap5),(17,iv (ln p1)),(18,iv a5)] a∧St w0 [blk a3 25 #[iv a1.Lo,iv a1.Hi],fz w0 μ] w∧law03_inside_L5 p1 a0 k2 a1 n_ a5 a4 = some res) F ⟨0,false,hF.sub (by kernel_rfl),St.pick [0,1] (by decide) hS,h⟩ ?_
     rintro nk5 a w ⟨a5,a4,hF,hS,h⟩
     rcases nk5 with _ | nk5
     ·cases (show (none : Option Bool) = some res from h)
     obtain ⟨k5,hk5⟩ : ∃ k,k = law03_inside_L5 p1 a0 k2 a1 nk5:=⟨_,rfl⟩
     replace h : law03_inside_B5 p1 a0 k2 a1 k5 a5 a4 = some res:=by rw [hk5]; exact h
     rw [law03_inside_B5] at h
     refine esr ?_
     refine rn 1 1 [(1,sv ad4 p1 cap5),(6,pb a3),(7,.bool a4),(10,sv ad1 p0 cap2),(11,iv (ln p0)),(12,iv a0),(16,sv ad4 p1 cap5),(17,iv (ln p1)),(18,iv a5),(19,.bool (decide (a5 < (ln p1))))] hF fun a hF=>?_
     refine wfn rfl ?_
     refine eseq ?_
     refine econd hF rfl (fun hc=>?_) (fun hc=>?_)
     ·replace h:=bif_t h hc
      refine wpIn_skip (norm_then ?_)
      refine eseq ?_
      refine wpIn_block ?_
      refine esr ?_
      replace h:=bindS h
      obtain ⟨a2,aB,h⟩:=h
      refine rno 2 [.run [] (Instr.indexAt 43 (sv ad4 p1 cap5) (iv a5)) (.pointer (some (slAddr ad4 a5 2))),.run [] (Instr.loadAt 25 (.pointer (some (slAddr ad4 a5 2)))) (.agg #[iv a2.Lo,iv a2.Hi])] 2 [(1,sv ad4 p1 cap5),(6,pb a3),(7,.bool a4),(10,sv ad1 p0 cap2),(11,iv (ln p0)),(12,iv a0),(16,sv ad4 p1 cap5),(17,iv (ln p1)),(18,iv a5),(21,.agg #[iv a2.Lo,iv a2.Hi])] hF (ocons (obIdxQ (hA6 _ (hS.frz (i:=1) rfl hlow)) (by kernel_rfl) (fun _=>aB)) (ocons (obElNQ (m:=2) (i:=a5) (us:=[iv a2.Lo,iv a2.Hi]) 0 api_Span.cells_len (fun _ hd=>(hA6 _ ((hS.at_ hd).frz (i:=1) rfl hlow))) (by kernel_rfl) (fun _=>aB) ⟨rfl,rfl⟩) onil)) fun a hF=>?_
      refine SK.wi (allocK (t:=25) (fun a6=>[(1,sv ad4 p1 cap5),(6,pb a3),(7,.bool a4),(9,pb a6),(10,sv ad1 p0 cap2),(11,iv (ln p0)),(12,iv a0),(16,sv ad4 p1 cap5),(17,iv (ln p1)),(18,iv a5),(21,.agg #[iv a2.Lo,iv a2.Hi])]) #[iv 0,iv 0] hF hS (by kernel_rfl) ⟨by kernel_rfl⟩ (by kernel_rfl) (fun _=>⟨by kernel_rfl⟩) fun a6 w a hF hS=>?_)
      refine SK.wi (storeK (t:=25) [(1,sv ad4 p1 cap5),(6,pb a3),(7,.bool a4),(9,pb a6),(10,sv ad1 p0 cap2),(11,iv (ln p0)),(12,iv a0),(16,sv ad4 p1 cap5),(17,iv (ln p1)),(18,iv a5)] 0 0 (.agg #[iv a2.Lo,iv a2.Hi]) #[iv a2.Lo,iv a2.Hi] hF hS rfl (by kernel_rfl) ⟨by kernel_rfl⟩ (by kernel_rfl) (by kernel_rfl) (by kernel_rfl) (by kernel_rfl) ⟨by kernel_rfl⟩ fun w a hF hS=>?_)
      refine wfn rfl ?_
      refine WI.region ?_
      refine rno 16 [.run [⟨23,false,a4⟩] (Instr.loadAt 3 (pb a3)) (iv a1.Lo),.run [⟨23,false,a4⟩] (Instr.loadAt 3 (pb a6)) (iv a2.Lo),.run [⟨29,true,(decide (a1.Lo ≥ a2.Lo))⟩,⟨23,false,a4⟩] (Instr.loadAt 3 (.pointer (some ⟨a3,1,none⟩))) (iv a1.Hi),.run [⟨29,true,(decide (a1.Lo ≥ a2.Lo))⟩,⟨23,false,a4⟩] (Instr.loadAt 3 (.pointer (some ⟨a6,1,none⟩))) (iv a2.Hi)] 16 [(1,sv ad4 p1 cap5),(6,pb a3),(7,.bool (bif a4 then true else (bif (decide (a1.Lo ≥ a2.Lo)) then (decide (a1.Hi≤a2.Hi)) else false))),(10,sv ad1 p0 cap2),(11,iv (ln p0)),(12,iv a0),(16,sv ad4 p1 cap5),(17,iv (ln p1)),(18,iv a5)] hF (ocons (ob1 (by kernel_rfl) (fun _ hd=>(hS.at_ hd).cell (i:=1) (j:=0) rfl rfl)) (ocons (ob1 (by kernel_rfl) (fun _ hd=>(hS.at_ hd).cell (i:=0) (j:=0) rfl rfl)) (ocons (ob1 (by kernel_rfl) (fun _ hd=>(hS.at_ hd).cell (i:=1) (j:=1) rfl rfl)) (ocons (ob1 (by kernel_rfl) (fun _ hd=>(hS.at_ hd).cell (i:=0) (j:=1) rfl rfl)) onil)))) fun a hF=>?_
      refine WI.fin rfl (norm_block <| norm_then <| ?_)
      refine WI.region ?_
      replace h:=bindS h
      obtain ⟨a9,aD,h⟩:=h
      refine rno 2 [.run [] (binOp .add 3 (iv a5) (iv 1)) (iv a9)] 2 [(1,sv ad4 p1 cap5),(6,pb a3),(7,.bool (bif a4 then true else (bif (decide (a1.Lo ≥ a2.Lo)) then (decide (a1.Hi≤a2.Hi)) else false))),(10,sv ad1 p0 cap2),(11,iv (ln p0)),(12,iv a0),(16,sv ad4 p1 cap5),(17,iv (ln p1)),(18,iv a9)] hF (ocons (obAddC (fun _=>aD)) onil) fun a hF=>?_
      refine wfn rfl ?_
      rw [hk5] at h
      exact ⟨nk5,Nat.lt_succ_self _,a9,bif a4 then true else (bif (decide (a1.Lo ≥ a2.Lo)) then (decide (a1.Hi≤a2.Hi)) else false),hF.sub (by kernel_rfl),St.pick [1,2] (by decide) hS,h⟩
     ·replace h:=bif_f h hc
      refine wpIn_exit (exit_then <| exit_then <| exit_hit <| norm_then ?_)
      exact ⟨a4,hF.sub (by kernel_rfl),St.pick [0,1] (by decide) hS,h⟩
    rintro a w ⟨a7,hF,hS,h⟩
    rw [law03_inside_K4] at h
    refine esr ?_
    refine rn 2 2 [(1,sv ad4 p1 cap5),(10,sv ad1 p0 cap2),(11,iv (ln p0)),(12,iv a0),(39,.bool (!a7))] hF fun a hF=>?_
    refine wfn rfl ?_
    refine econd hF rfl (fun hc=>?_) (fun hc=>?_)
    ·replace h:=bif_t h hc
     refine esr ?_
     refine rn 1 1 [(4,.bool false)] hF fun a hF=>?_
     refine wfn rfl ?_
     refine wpIn_ret (ret_block <| ret_then <| ret_then <| ret_block <| ret_then <| fn_ret [.tmp 4] [.bool false] hF rfl ⟨rfl,trivial⟩ ?_)
     have hr_:=Option.some.inj h
     subst hr_
     exact ⟨rfl,hS.ext⟩
    ·replace h:=bif_f h hc
     refine wpIn_skip (norm_block <| norm_then <| ?_)
     exact ⟨hF.sub (by kernel_rfl),St.pick [1] (by decide) hS,h⟩
   rintro a w ⟨hF,hS,h⟩
   rw [law03_inside_K3] at h
   refine WI.region ?_
   replace h:=bindS h
   obtain ⟨a8,aC,h⟩:=h
   refine rno 2 [.run [] (binOp .add 3 (iv a0) (iv 1)) (iv a8)] 2 [(1,sv ad4 p1 cap5),(10,sv ad1 p0 cap2),(11,iv (ln p0)),(12,iv a8)] hF (ocons (obAddC (fun _=>aC)) onil) fun a hF=>?_
   refine wfn rfl ?_
   rw [hk2] at h
   exact ⟨nk2,Nat.lt_succ_self _,a8,hF.sub (by kernel_rfl),St.pick [0] (by decide) hS,h⟩
  ·replace h:=bif_f h hc
   refine wpIn_exit (exit_then <| exit_then <| exit_hit <| norm_then ?_)
   exact ⟨hF.sub (by kernel_rfl),St.pick [0] (by decide) hS,h⟩
 rintro a w ⟨hF,hS,h⟩
 rw [law03_inside_K1] at h
 refine esr ?_
 refine rn 1 1 [(4,.bool true)] hF fun a hF=>?_
 refine wfn rfl ?_
 refine wpIn_ret (fn_ret [.tmp 4] [.bool true] hF rfl ⟨rfl,trivial⟩ ?_)
 have hr_:=Option.some.inj h
 subst hr_
 exact ⟨rfl,hS.ext⟩
end Go.Proofs.Ytbhjgebjojdohaa
