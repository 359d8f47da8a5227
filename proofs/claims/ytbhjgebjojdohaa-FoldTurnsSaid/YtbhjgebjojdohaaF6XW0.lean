import Derived.Test.YtbhjgebjojdohaaF6XD
import Derived.Test.YtbhjgebjojdohaaProg
namespace Go.Proofs.Ytbhjgebjojdohaa
open Go Go.RowKit Go.Eng
set_option maxRecDepth 10000
set_option maxHeartbeats 4000000
set_option linter.unusedVariables false
set_option linter.unusedSimpArgs false
theorem ref03_common_ok (p0 : api_Span) (p1 : api_Span) (res : (api_Span×Bool)) (h : ref03_common p0 p1 = res) (μ : Frz) (w0 : World) (hm : FrzAt μ w0) : Calls Try.prog 58 #[.agg #[iv p0.Lo,iv p0.Hi],.agg #[iv p1.Lo,iv p1.Hi]] w0 (fun e w=>e = .returned (.tuple #[.agg #[iv res.1.Lo,iv res.1.Hi],.bool res.2])∧Ext w0 w):=by
 obtain ⟨hlow,hS⟩:=hm.init
 have hext:=Frz.ext_refl w0.heap.size μ
 rw [ref03_common] at h
 refine fn_enterW Try.func58 rfl 24 [(0,.agg #[iv p0.Lo,iv p0.Hi]),(1,.agg #[iv p1.Lo,iv p1.Hi])] rfl rfl (by kernel_rfl) fun a w hw hF=>?_
 replace hS : St w0 [fz w0 μ] w:=by rw [hw]; exact hS
 clear hw
 refine esr ?_
 refine SK.wi (boxK (t:=25) (fun b1=>[(1,.agg #[iv p1.Lo,iv p1.Hi]),(2,pb b1)]) (.agg #[iv p0.Lo,iv p0.Hi]) #[iv p0.Lo,iv p0.Hi] hF hS (by kernel_rfl) ⟨by kernel_rfl⟩ (by kernel_rfl) (fun _=>⟨by kernel_rfl⟩) fun b1 w a hF hS=>?_)
 refine SK.wi (boxK (t:=25) (fun b2=>[(2,pb b1),(3,pb b2)]) (.agg #[iv p1.Lo,iv p1.Hi]) #[iv p1.Lo,iv p1.Hi] hF hS (by kernel_rfl) ⟨by kernel_rfl⟩ (by kernel_rfl) (fun _=>⟨by kernel_rfl⟩) fun b2 w a hF hS=>?_)
 refine SK.wi (allocK (t:=25) (fun b3=>[(2,pb b1),(3,pb b2),(4,pb b3)]) #[iv 0,iv 0] hF hS (by kernel_rfl) ⟨by kernel_rfl⟩ (by kernel_rfl) (fun _=>⟨by kernel_rfl⟩) fun b3 w a hF hS=>?_)
 refine rn 1 4 [(2,pb b1),(3,pb b2),(4,pb b3)] hF fun a hF=>?_
 refine wfn rfl ?_
 refine esr ?_
 refine rno 11 [.run [] (Instr.loadAt 3 (pb b1)) (iv p0.Lo),.run [] (Instr.loadAt 3 (pb b2)) (iv p1.Lo),.run [] (Instr.loadAt 3 (.pointer (some ⟨b1,1,none⟩))) (iv p0.Hi),.run [] (Instr.loadAt 3 (.pointer (some ⟨b2,1,none⟩))) (iv p1.Hi)] 11 [(4,pb b3),(17,.agg #[iv (if p1.Lo > p0.Lo then p1.Lo else p0.Lo),iv (if p1.Hi < p0.Hi then p1.Hi else p0.Hi)])] hF (ocons (ob1 (by kernel_rfl) (fun _ hd=>(hS.at_ hd).cell (i:=2) (j:=0) rfl rfl)) (ocons (ob1 (by kernel_rfl) (fun _ hd=>(hS.at_ hd).cell (i:=1) (j:=0) rfl rfl)) (ocons (ob1 (by kernel_rfl) (fun _ hd=>(hS.at_ hd).cell (i:=2) (j:=1) rfl rfl)) (ocons (ob1 (by kernel_rfl) (fun _ hd=>(hS.at_ hd).cell (i:=1) (j:=1) rfl rfl)) onil)))) fun a hF=>?_
 refine SK.wi (allocK (t:=25) (fun b4=>[(4,pb b3),(6,pb b4),(17,.agg #[iv (if p1.Lo > p0.Lo then p1.Lo else p0.Lo),iv (if p1.Hi < p0.Hi then p1.Hi else p0.Hi)])]) #[iv 0,iv 0] hF hS (by kernel_rfl) ⟨by kernel_rfl⟩ (by kernel_rfl) (fun _=>⟨by kernel_rfl⟩) fun b4 w a hF hS=>?_)
 refine SK.wi (storeK (t:=25) [(4,pb b3),(6,pb b4)] 0 0 (.agg #[iv (if p1.Lo > p0.Lo then p1.Lo else p0.Lo),iv (if p1.Hi < p0.Hi then p1.Hi else p0.Hi)]) #[iv (if p1.Lo > p0.Lo then p1.Lo else p0.Lo),iv (if p1.Hi < p0.Hi then p1.Hi else p0.Hi)] hF hS rfl (by kernel_rfl) ⟨by kernel_rfl⟩ (by kernel_rfl) (by kernel_rfl) (by kernel_rfl) (by kernel_rfl) ⟨by kernel_rfl⟩ fun w a hF hS=>?_)
 refine wfn rfl ?_
 refine eseq ?_
 refine region_treeW 8 [6] _ (D:=fun w=>St w0 [blk b4 25 #[iv (if p1.Lo > p0.Lo then p1.Lo else p0.Lo),iv (if p1.Hi < p0.Hi then p1.Hi else p0.Hi)],blk b2 25 #[iv p1.Lo,iv p1.Hi],blk b1 25 #[iv p0.Lo,iv p0.Hi]] w∧FrzAt μ w) (by kernel_rfl) (by kernel_rfl) hF.size (fun w hx=>?_) (fun _ _ h=>h)
 replace hS:=hS.later hx
 refine ⟨⟨St.pick [0,2,3] (by decide) hS,hS.frz (i:=4) rfl hlow⟩,?_⟩
 have hcl5:=Frz.le_refl μ
 refine WT.s [0,1,2,3,4,5] [6] (by kernel_rfl) (by kernel_rfl) ?_
 refine runC (rest:=[]) (obs:=[.run [] (Instr.loadAt 25 (pb b4)) (.agg #[iv (if p1.Lo > p0.Lo then p1.Lo else p0.Lo),iv (if p1.Hi < p0.Hi then p1.Hi else p0.Hi)]),.run [] (Instr.loadAt 3 (pb b4)) (iv (if p1.Lo > p0.Lo then p1.Lo else p0.Lo)),.run [] (Instr.loadAt 3 (.pointer (some ⟨b4,1,none⟩))) (iv (if p1.Hi < p0.Hi then p1.Hi else p0.Hi))]) [0,1,2,3,4,5] [(4,pb b3),(18,.agg #[iv (if p1.Lo > p0.Lo then p1.Lo else p0.Lo),iv (if p1.Hi < p0.Hi then p1.Hi else p0.Hi)]),(23,.bool (decide ((if p1.Lo > p0.Lo then p1.Lo else p0.Lo)≤(if p1.Hi < p0.Hi then p1.Hi else p0.Hi))))] hF (by kernel_rfl) (by kernel_rfl) (ocons (obN (us:=[iv (if p1.Lo > p0.Lo then p1.Lo else p0.Lo),iv (if p1.Hi < p0.Hi then p1.Hi else p0.Hi)]) (by kernel_rfl) (fun _ hd=>(hd.1.blk (i:=0) rfl).cells rfl)) (ocons (ob1 (by kernel_rfl) (fun _ hd=>hd.1.cell (i:=0) (j:=0) rfl rfl)) (ocons (ob1 (by kernel_rfl) (fun _ hd=>hd.1.cell (i:=0) (j:=1) rfl rfl)) onil))) ⟨by kernel_rfl⟩ fun a hF=>?_
 refine WRun.fin ?_
 refine all_cons ?_ (all_nil)
 refine storeK (t:=25) [(4,pb b3),(23,.bool (decide ((if p1.Lo > p0.Lo then p1.Lo else p0.Lo)≤(if p1.Hi < p0.Hi then p1.Hi else p0.Hi))))] 1 0 (.agg #[iv (if p1.Lo > p0.Lo then p1.Lo else p0.Lo),iv (if p1.Hi < p0.Hi then p1.Hi else p0.Hi)]) #[iv (if p1.Lo > p0.Lo then p1.Lo else p0.Lo),iv (if p1.Hi < p0.Hi then p1.Hi else p0.Hi)] hF hS rfl (by kernel_rfl) ⟨by kernel_rfl⟩ (by kernel_rfl) (by kernel_rfl) (by kernel_rfl) (by kernel_rfl) ⟨by kernel_rfl⟩ fun w a hF hS=>⟨⟨St.pick [0,2,3] (by decide) hS,(hS.frz (i:=4) rfl hlow)⟩,?_⟩
 refine WT.z [7] (by kernel_rfl) ?_
 refine runC (rest:=[]) (obs:=[]) [7] [(4,pb b3),(5,.bool (decide ((if p1.Lo > p0.Lo then p1.Lo else p0.Lo)≤(if p1.Hi < p0.Hi then p1.Hi else p0.Hi))))] hF (by kernel_rfl) (by kernel_rfl) onil ⟨by kernel_rfl⟩ fun a hF=>?_
 refine WRun.fin ?_
 refine wfn rfl ?_
 refine wpIn_ret (fn_ret [.cell 4 25,.tmp 5] [.agg #[iv (if p1.Lo > p0.Lo then p1.Lo else p0.Lo),iv (if p1.Hi < p0.Hi then p1.Hi else p0.Hi)],.bool (decide ((if p1.Lo > p0.Lo then p1.Lo else p0.Lo)≤(if p1.Hi < p0.Hi then p1.Hi else p0.Hi)))] hF rfl ⟨⟨_,rfl,loadVarN (cs:=[iv (if p1.Lo > p0.Lo then p1.Lo else p0.Lo),iv (if p1.Hi < p0.Hi then p1.Hi else p0.Hi)]) (by kernel_rfl) ((hS.blk (i:=1) rfl).cells rfl)⟩,rfl,trivial⟩ ?_)
 subst h
 exact ⟨rfl,hS.ext⟩
theorem fold_checked_ok (F : Nat) (p0 : (List api_Span)) (p1 : Bool) (res : Int) (h : fold_checked F p0 p1 = some res) (μ : Frz) (w0 : World) (hm : FrzAt μ w0) {ad1 : Option Addr} {cap2 : Nat} (hA3 : ArrM μ 2 api_Span.cells ad1 cap2 p0) : Calls Try.prog 61 #[sv ad1 p0 cap2,.bool p1] w0 (fun e w=>e = .returned (iv res)∧Ext w0 w):=by
 obtain ⟨hlow,hS⟩:=hm.init
 have hext:=Frz.ext_refl w0.heap.size μ
 rw [fold_checked] at h
 refine fn_enterW Try.func61 rfl 51 [(0,sv ad1 p0 cap2),(1,.bool p1)] rfl rfl (by kernel_rfl) fun a w hw hF=>?_
 replace hS : St w0 [fz w0 μ] w:=by rw [hw]; exact hS
 clear hw
 refine esr ?_
 refine rn 1 1 [(0,sv ad1 p0 cap2),(1,.bool p1)] hF fun a hF=>?_
 refine wfn rfl ?_
 refine eseq ?_
 refine esr ?_
 refine rn 3 3 [(0,sv ad1 p0 cap2),(1,.bool p1),(9,.bool (decide ((ln p0) > 256)))] hF fun a hF=>?_
 refine wfn rfl ?_
 refine econd hF rfl (fun hc=>?_) (fun hc=>?_)
 ·replace h:=bif_t h hc
  refine esr ?_
  refine rn 1 1 [(4,iv 9)] hF fun a hF=>?_
  refine wfn rfl ?_
  refine wpIn_ret (ret_then <| fn_ret [.tmp 4] [iv 9] hF rfl ⟨rfl,trivial⟩ ?_)
  have hr_:=Option.some.inj h
  subst hr_
  exact ⟨rfl,hS.ext⟩
 ·replace h:=bif_f h hc
  refine wpIn_skip (norm_then ?_)
  refine ecut (fun a w=>Fr 51 [] [] a∧St w0 [fz w0 μ] w∧fold_checked_K1 = some res) ?_ ?_
  ·skip
   refine esr ?_
   refine rn 3 3 [(0,sv ad1 p0 cap2),(1,.bool p1),(10,sv ad1 p0 cap2),(11,iv (ln p0)),(12,iv 0)] hF fun a hF=>?_
   refine wfn rfl ?_
   refine wpIn_block ?_
   refine eloop (fun n_ a w=>∃ (a1 : Int),Fr 51 [] [(0,sv ad1 p0 cap2),(1,.bool p1),(10,sv ad1 p0 cap2),(11,iv (ln p0)),(12,iv a1)] a∧St w0 [fz w0 μ] w∧fold_checked_L2 p0 p1 n_ a1 = some res) F ⟨0,hF.sub (by kernel_rfl),St.pick [0] (by decide) hS,h⟩ ?_
   rintro nk2 a w ⟨a1,hF,hS,h⟩
   rcases nk2 with _ | nk2
   ·cases (show (none : Option Int) = some res from h)
   obtain ⟨k2,hk2⟩ : ∃ k,k = fold_checked_L2 p0 p1 nk2:=⟨_,rfl⟩
   replace h : fold_checked_B2 p0 p1 k2 a1 = some res:=by rw [hk2]; exact h
   rw [fold_checked_B2] at h
   refine esr ?_
   refine rn 1 1 [(0,sv ad1 p0 cap2),(1,.bool p1),(10,sv ad1 p0 cap2),(11,iv (ln p0)),(12,iv a1),(13,.bool (decide (a1 < (ln p0))))] hF fun a hF=>?_
   refine wfn rfl ?_
   refine eseq ?_
   refine econd hF rfl (fun hc=>?_) (fun hc=>?_)
   ·replace h:=bif_t h hc
    refine wpIn_skip (norm_then ?_)
    refine eseq ?_
    refine wpIn_block ?_
    refine esr ?_
    replace h:=bindS h
    obtain ⟨a0,a5,h⟩:=h
    refine rno 3 [.run [] (Instr.indexAt 43 (sv ad1 p0 cap2) (iv a1)) (.pointer (some (slAddr ad1 a1 2))),.run [] (Instr.loadAt 25 (.pointer (some (slAddr ad1 a1 2)))) (.agg #[iv a0.Lo,iv a0.Hi])] 3 [(0,sv ad1 p0 cap2),(1,.bool p1),(10,sv ad1 p0 cap2),(11,iv (ln p0)),(12,iv a1),(14,iv a1),(16,.agg #[iv a0.Lo,iv a0.Hi])] hF (ocons (obIdxQ (hA3 _ (hS.frz (i:=0) rfl hlow)) (by kernel_rfl) (fun _=>a5)) (ocons (obElNQ (m:=2) (i:=a1) (us:=[iv a0.Lo,iv a0.Hi]) 0 api_Span.cells_len (fun _ hd=>(hA3 _ ((hS.at_ hd).frz (i:=0) rfl hlow))) (by kernel_rfl) (fun _=>a5) ⟨rfl,rfl⟩) onil)) fun a hF=>?_
    refine SK.wi (allocK (t:=25) (fun a2=>[(0,sv ad1 p0 cap2),(1,.bool p1),(6,pb a2),(10,sv ad1 p0 cap2),(11,iv (ln p0)),(12,iv a1),(14,iv a1),(16,.agg #[iv a0.Lo,iv a0.Hi])]) #[iv 0,iv 0] hF hS (by kernel_rfl) ⟨by kernel_rfl⟩ (by kernel_rfl) (fun _=>⟨by kernel_rfl⟩) fun a2 w a hF hS=>?_)
    refine rn 1 5 [(0,sv ad1 p0 cap2),(1,.bool p1),(5,iv a1),(6,pb a2),(10,sv ad1 p0 cap2),(11,iv (ln p0)),(12,iv a1),(16,.agg #[iv a0.Lo,iv a0.Hi])] hF fun a hF=>?_
    refine SK.wi (storeK (t:=25) [(0,sv ad1 p0 cap2),(1,.bool p1),(5,iv a1),(6,pb a2),(10,sv ad1 p0 cap2),(11,iv (ln p0)),(12,iv a1)] 0 0 (.agg #[iv a0.Lo,iv a0.Hi]) #[iv a0.Lo,iv a0.Hi] hF hS rfl (by kernel_rfl) ⟨by kernel_rfl⟩ (by kernel_rfl) (by kernel_rfl) (by kernel_rfl) (by kernel_rfl) ⟨by kernel_rfl⟩ fun w a hF hS=>?_)
    refine wfn rfl ?_
    refine wpIn_block ?_
    refine esr ?_
    refine rno 16 [.run [] (Instr.loadAt 3 (pb a2)) (iv a0.Lo),.run [] (Instr.loadAt 3 (.pointer (some ⟨a2,1,none⟩))) (iv a0.Hi),.run [⟨23,false,(decide (a0.Lo > a0.Hi))⟩] (Instr.loadAt 3 (pb a2)) (iv a0.Lo),.run [⟨28,false,(bif (decide (a0.Lo > a0.Hi)) then true else (decide (a0.Lo < (-200000))))⟩] (Instr.loadAt 3 (.pointer (some ⟨a2,1,none⟩))) (iv a0.Hi)] 16 [(0,sv ad1 p0 cap2),(1,.bool p1),(5,iv a1),(6,pb a2),(10,sv ad1 p0 cap2),(11,iv (ln p0)),(12,iv a1),(17,.bool (bif (bif (decide (a0.Lo > a0.Hi)) then true else (decide (a0.Lo < (-200000)))) then true else (decide (a0.Hi > 200000))))] hF (ocons (ob1 (by kernel_rfl) (fun _ hd=>(hS.at_ hd).cell (i:=0) (j:=0) rfl rfl)) (ocons (ob1 (by kernel_rfl) (fun _ hd=>(hS.at_ hd).cell (i:=0) (j:=1) rfl rfl)) (ocons (ob1 (by kernel_rfl) (fun _ hd=>(hS.at_ hd).cell (i:=0) (j:=0) rfl rfl)) (ocons (ob1 (by kernel_rfl) (fun _ hd=>(hS.at_ hd).cell (i:=0) (j:=1) rfl rfl)) onil)))) fun a hF=>?_
    refine wfn rfl ?_
    refine econd hF rfl (fun hc=>?_) (fun hc=>?_)
    ·replace h:=bif_t h hc
     refine esr ?_
     refine rn 1 1 [(4,iv 3)] hF fun a hF=>?_
     refine wfn rfl ?_
     refine wpIn_ret (ret_block <| ret_block <| ret_then <| ret_then <| ret_block <| ret_then <| fn_ret [.tmp 4] [iv 3] hF rfl ⟨rfl,trivial⟩ ?_)
     have hr_:=Option.some.inj h
     subst hr_
     exact ⟨rfl,hS.ext⟩
    ·replace h:=bif_f h hc
     refine eseq ?_
     replace h:=bindS h
     obtain ⟨a3,a8,h⟩:=h
     replace h:=bindS h
     obtain ⟨a7,a6,h⟩:=h
     refine runD (obs:=[.run [⟨39,true,(bif p1 then (decide (a1 > 0)) else false)⟩] (Instr.loadAt 3 (pb a2)) (iv a0.Lo),.run [⟨39,true,(bif p1 then (decide (a1 > 0)) else false)⟩] (binOp .sub 3 (iv a1) (iv 1)) (iv a3),.run [⟨39,true,(bif p1 then (decide (a1 > 0)) else false)⟩] (Instr.indexAt 43 (sv ad1 p0 cap2) (iv a3)) (.pointer (some (slAddr ad1 a3 2))),.run [⟨39,true,(bif p1 then (decide (a1 > 0)) else false)⟩] (Instr.loadAt 3 (.pointer (some ((slAddr ad1 a3 2).add 1)))) (iv a7.Hi)]) 17 [(0,sv ad1 p0 cap2),(1,.bool p1),(10,sv ad1 p0 cap2),(11,iv (ln p0)),(12,iv a1),(33,.bool (bif (bif p1 then (decide (a1 > 0)) else false) then (decide (a0.Lo≤a7.Hi)) else false))] (by kernel_rfl) hF (by kernel_rfl) (ocons (ob1 (by kernel_rfl) (fun _ hd=>(hS.later hd).cell (i:=0) (j:=0) rfl rfl)) (ocons (obSubC (fun hk=>gd_some a8 hk)) (ocons (obIdxQ (hA3 _ (hS.frz (i:=1) rfl hlow)) (by kernel_rfl) (fun hk=>gd_some a6 hk)) (ocons (obElQ (i:=a3) 1 api_Span.cells_len (fun _ hd=>(hA3 _ ((hS.later hd).frz (i:=1) rfl hlow))) (by kernel_rfl) (fun hk=>gd_some a6 hk) rfl) onil)))) ⟨by kernel_rfl⟩ fun a w hF hx=>?_
     replace hS:=hS.later hx
     refine wfn rfl ?_
     refine econd hF rfl (fun hc=>?_) (fun hc=>?_)
     ·replace h:=bif_t h hc
      refine esr ?_
      refine rn 1 1 [(4,iv 12)] hF fun a hF=>?_
      refine wfn rfl ?_
      refine wpIn_ret (ret_block <| ret_block <| ret_then <| ret_then <| ret_block <| ret_then <| fn_ret [.tmp 4] [iv 12] hF rfl ⟨rfl,trivial⟩ ?_)
      have hr_:=Option.some.inj h
      subst hr_
      exact ⟨rfl,hS.ext⟩
     ·replace h:=bif_f h hc
      refine wpIn_skip (norm_block <| norm_block <| norm_then <| ?_)
      refine WI.region ?_
      replace h:=bindS h
      obtain ⟨a4,a9,h⟩:=h
      refine rno 2 [.run [] (binOp .add 3 (iv a1) (iv 1)) (iv a4)] 2 [(0,sv ad1 p0 cap2),(1,.bool p1),(10,sv ad1 p0 cap2),(11,iv (ln p0)),(12,iv a4)] hF (ocons (obAddC (fun _=>a9)) onil) fun a hF=>?_
      refine wfn rfl ?_
      rw [hk2] at h
      exact ⟨nk2,Nat.lt_succ_self _,a4,hF.sub (by kernel_rfl),St.pick [1] (by decide) hS,h⟩
   ·replace h:=bif_f h hc
    refine wpIn_exit (exit_then <| exit_then <| exit_hit <| norm_then ?_)
    exact ⟨hF.sub (by kernel_rfl),St.pick [0] (by decide) hS,h⟩
  rintro a w ⟨hF,hS,h⟩
  rw [fold_checked_K1] at h
  refine esr ?_
  refine rn 1 1 [(4,iv 0)] hF fun a hF=>?_
  refine wfn rfl ?_
  refine wpIn_ret (fn_ret [.tmp 4] [iv 0] hF rfl ⟨rfl,trivial⟩ ?_)
  have hr_:=Option.some.inj h
  subst hr_
  exact ⟨rfl,hS.ext⟩
theorem law03_spans_ok (F : Nat) (p0 : (List api_Span)) (p1 : (List api_Span)) (res : Bool) (h : law03_spans F p0 p1 = some res) (μ : Frz) (w0 : World) (hm : FrzAt μ w0) {ad1 : Option Addr} {cap2 : Nat} {ad4 : Option Addr} {cap5 : Nat} (hA3 : ArrM μ 2 api_Span.cells ad1 cap2 p0) (hA6 : ArrM μ 2 api_Span.cells ad4 cap5 p1) : Calls Try.prog 22 #[sv ad1 p0 cap2,sv ad4 p1 cap5] w0 (fun e w=>e = .returned (.bool res)∧Ext w0 w):=by
 obtain ⟨hlow,hS⟩:=hm.init
 have hext:=Frz.ext_refl w0.heap.size μ
 rw [law03_spans] at h
 refine fn_enterW Try.func22 rfl 26 [(0,sv ad1 p0 cap2),(1,sv ad4 p1 cap5)] rfl rfl (by kernel_rfl) fun a w hw hF=>?_
 replace hS : St w0 [fz w0 μ] w:=by rw [hw]; exact hS
 clear hw
 refine esr ?_
 refine rn 1 1 [(0,sv ad1 p0 cap2),(1,sv ad4 p1 cap5)] hF fun a hF=>?_
 refine wfn rfl ?_
 refine eseq ?_
 refine esr ?_
 refine rn 5 5 [(0,sv ad1 p0 cap2),(1,sv ad4 p1 cap5),(10,.bool ((ln p0) != (ln p1)))] hF fun a hF=>?_
 refine wfn rfl ?_
 refine econd hF rfl (fun hc=>?_) (fun hc=>?_)
 ·replace h:=bif_t h hc
  refine esr ?_
  refine rn 1 1 [(4,.bool false)] hF fun a hF=>?_
  refine wfn rfl ?_
  refine wpIn_ret (ret_then <| fn_ret [.tmp 4] [.bool false] hF rfl ⟨rfl,trivial⟩ ?_)
  have hr_:=Option.some.inj h
  subst hr_
  exact ⟨rfl,hS.ext⟩
 ·replace h:=bif_f h hc
  refine wpIn_skip (norm_then ?_)
  refine ecut (fun a w=>Fr 26 [] [] a∧St w0 [fz w0 μ] w∧law03_spans_K1 = some res) ?_ ?_
  ·skip
   refine esr ?_
   refine rn 1 1 [(0,sv ad1 p0 cap2),(1,sv ad4 p1 cap5),(5,iv 0)] hF fun a hF=>?_
   refine wfn rfl ?_
   refine wpIn_block ?_
   refine eloop (fun n_ a w=>∃ (a0 : Int),Fr 26 [] [(0,sv ad1 p0 cap2),(1,sv ad4 p1 cap5),(5,iv a0)] a∧St w0 [fz w0 μ] w∧law03_spans_L2 p0 p1 n_ a0 = some res) F ⟨0,hF.sub (by kernel_rfl),St.pick [0] (by decide) hS,h⟩ ?_
   rintro nk2 a w ⟨a0,hF,hS,h⟩
   rcases nk2 with _ | nk2
   ·cases (show (none : Option Bool) = some res from h)
   obtain ⟨k2,hk2⟩ : ∃ k,k = law03_spans_L2 p0 p1 nk2:=⟨_,rfl⟩
   replace h : law03_spans_B2 p0 p1 k2 a0 = some res:=by rw [hk2]; exact h
   rw [law03_spans_B2] at h
   refine eseq ?_
   refine esr ?_
   refine rn 4 4 [(0,sv ad1 p0 cap2),(1,sv ad4 p1 cap5),(5,iv a0),(14,.bool (decide (a0 < (ln p0))))] hF fun a hF=>?_
   refine wfn rfl ?_
   refine econd hF rfl (fun hc=>?_) (fun hc=>?_)
   ·replace h:=bif_t h hc
    refine wpIn_skip (norm_then ?_)
    refine eseq ?_
    refine wpIn_block ?_
    refine eseq ?_
    replace h:=bindS h
    obtain ⟨a1,a4,h⟩:=h
    replace h:=bindS h
    obtain ⟨a2,a5,h⟩:=h
    refine runD (obs:=[.run [] (Instr.indexAt 43 (sv ad1 p0 cap2) (iv a0)) (.pointer (some (slAddr ad1 a0 2))),.run [] (Instr.loadAt 25 (.pointer (some (slAddr ad1 a0 2)))) (.agg #[iv a1.Lo,iv a1.Hi]),.run [] (Instr.indexAt 43 (sv ad4 p1 cap5) (iv a0)) (.pointer (some (slAddr ad4 a0 2))),.run [] (Instr.loadAt 25 (.pointer (some (slAddr ad4 a0 2)))) (.agg #[iv a2.Lo,iv a2.Hi]),.run [] (eqS .neq 25 #[iv a1.Lo,iv a1.Hi] #[iv a2.Lo,iv a2.Hi]) (.bool (!(((a1.Lo : Int) == a2.Lo) && (((a1.Hi : Int) == a2.Hi) && true))))]) 9 [(0,sv ad1 p0 cap2),(1,sv ad4 p1 cap5),(5,iv a0),(25,.bool (!(((a1.Lo : Int) == a2.Lo) && (((a1.Hi : Int) == a2.Hi) && true))))] (by kernel_rfl) hF (by kernel_rfl) (ocons (obIdxQ (hA3 _ (hS.frz (i:=0) rfl hlow)) (by kernel_rfl) (fun _=>a4)) (ocons (obElNQ (m:=2) (i:=a0) (us:=[iv a1.Lo,iv a1.Hi]) 0 api_Span.cells_len (fun _ hd=>(hA3 _ ((hS.later hd).frz (i:=0) rfl hlow))) (by kernel_rfl) (fun _=>a4) ⟨rfl,rfl⟩) (ocons (obIdxQ (hA6 _ (hS.frz (i:=0) rfl hlow)) (by kernel_rfl) (fun _=>a5)) (ocons (obElNQ (m:=2) (i:=a0) (us:=[iv a2.Lo,iv a2.Hi]) 0 api_Span.cells_len (fun _ hd=>(hA6 _ ((hS.later hd).frz (i:=0) rfl hlow))) (by kernel_rfl) (fun _=>a5) ⟨rfl,rfl⟩) (ocons (obNeC (by kernel_rfl) (by kernel_rfl)) onil))))) ⟨by kernel_rfl⟩ fun a w hF hx=>?_
    replace hS:=hS.later hx
    refine wfn rfl ?_
    refine econd hF rfl (fun hc=>?_) (fun hc=>?_)
    ·replace h:=bif_t h hc
     refine esr ?_
     refine rn 1 1 [(4,.bool false)] hF fun a hF=>?_
     refine wfn rfl ?_
     refine wpIn_ret (ret_block <| ret_then <| ret_then <| ret_block <| ret_then <| fn_ret [.tmp 4] [.bool false] hF rfl ⟨rfl,trivial⟩ ?_)
     have hr_:=Option.some.inj h
     subst hr_
     exact ⟨rfl,hS.ext⟩
    ·replace h:=bif_f h hc
     refine wpIn_skip (norm_block <| norm_then <| ?_)
     refine WI.region ?_
     replace h:=bindS h
     obtain ⟨a3,a6,h⟩:=h
     refine rno 3 [.run [] (binOp .add 3 (iv a0) (iv 1)) (iv a3)] 3 [(0,sv ad1 p0 cap2),(1,sv ad4 p1 cap5),(5,iv a3)] hF (ocons (obAddC (fun _=>a6)) onil) fun a hF=>?_
     refine wfn rfl ?_
     rw [hk2] at h
     exact ⟨nk2,Nat.lt_succ_self _,a3,hF.sub (by kernel_rfl),St.pick [0] (by decide) hS,h⟩
   ·replace h:=bif_f h hc
    refine wpIn_exit (exit_then <| exit_then <| exit_hit <| norm_then ?_)
    exact ⟨hF.sub (by kernel_rfl),St.pick [0] (by decide) hS,h⟩
  rintro a w ⟨hF,hS,h⟩
  rw [law03_spans_K1] at h
  refine esr ?_
  refine rn 1 1 [(4,.bool true)] hF fun a hF=>?_
  refine wfn rfl ?_
  refine wpIn_ret (fn_ret [.tmp 4] [.bool true] hF rfl ⟨rfl,trivial⟩ ?_)
  have hr_:=Option.some.inj h
  subst hr_
  exact ⟨rfl,hS.ext⟩
theorem fold_limited_ok (p0 : Int) (p1 : Int) (res : Int) (h : fold_limited p0 p1 = res) (μ : Frz) (w0 : World) (hm : FrzAt μ w0) : Calls Try.prog 66 #[iv p0,iv p1] w0 (fun e w=>e = .returned (iv res)∧Ext w0 w):=by
 obtain ⟨hlow,hS⟩:=hm.init
 have hext:=Frz.ext_refl w0.heap.size μ
 rw [fold_limited] at h
 refine fn_enterW Try.func66 rfl 19 [(0,iv p0),(1,iv p1)] rfl rfl (by kernel_rfl) fun a w hw hF=>?_
 replace hS : St w0 [fz w0 μ] w:=by rw [hw]; exact hS
 clear hw
 refine esr ?_
 refine rn 1 1 [(0,iv p0),(1,iv p1)] hF fun a hF=>?_
 refine wfn rfl ?_
 refine eseq ?_
 refine esr ?_
 refine rn 14 14 [(18,.bool (bif (bif (bif (decide (p0 < 0)) then true else (decide (p0 > 400000))) then true else (decide (p1 < 1))) then true else (decide (p1 > 16))))] hF fun a hF=>?_
 refine wfn rfl ?_
 refine econd hF rfl (fun hc=>?_) (fun hc=>?_)
 ·replace h:=bif_t h hc
  refine esr ?_
  refine rn 1 1 [(4,iv 3)] hF fun a hF=>?_
  refine wfn rfl ?_
  refine wpIn_ret (ret_then <| fn_ret [.tmp 4] [iv 3] hF rfl ⟨rfl,trivial⟩ ?_)
  subst h
  exact ⟨rfl,hS.ext⟩
 ·replace h:=bif_f h hc
  refine wpIn_skip (norm_then ?_)
  refine esr ?_
  refine rn 1 1 [(4,iv 0)] hF fun a hF=>?_
  refine wfn rfl ?_
  refine wpIn_ret (fn_ret [.tmp 4] [iv 0] hF rfl ⟨rfl,trivial⟩ ?_)
  subst h
  exact ⟨rfl,hS.ext⟩
theorem fold_known_ok (F : Nat) (p0 : (List (List api_Span))) (res : (List Int)) (h : fold_known F p0 = some res) (μ : Frz) (w0 : World) (hm : FrzAt μ w0) {ad1 : Option Addr} {cap2 : Nat} {css3 : List (List Value)} (hA4 : ArrQ μ 1 Rp132 ad1 cap2 css3 p0) : Calls Try.prog 67 #[sv ad1 p0 cap2] w0 (fun e w=>∃ zad0 zcap0,e = .returned (sv zad0 res zcap0)∧St w0 [arr 3 1 fI zad0 res.length zcap0 res] w):=by
 obtain ⟨hlow,hS⟩:=hm.init
 have hext:=Frz.ext_refl w0.heap.size μ
 rw [fold_known] at h
 refine fn_enterW Try.func67 rfl 22 [(0,sv ad1 p0 cap2)] rfl rfl (by kernel_rfl) fun a w hw hF=>?_
 replace hS : St w0 [fz w0 μ] w:=by rw [hw]; exact hS
 clear hw
 refine esr ?_
 refine rn 1 1 [(0,sv ad1 p0 cap2)] hF fun a hF=>?_
 refine wfn rfl ?_
 refine esr ?_
 refine rn 1 1 [(0,sv ad1 p0 cap2),(3,.slice none 0 0)] hF fun a hF=>?_
 refine wfn rfl ?_
 refine ecut (fun a w=>∃ (a5 : (List Int)) (a7 : Option Addr) (a9 : Nat),Fr 22 [] [(3,sv a7 a5 a9)] a∧St w0 [arr 3 1 fI a7 a5.length a9 a5,fz w0 μ] w∧fold_known_K1 a5 = some res) ?_ ?_
 ·skip
  refine esr ?_
  refine rn 3 3 [(3,.slice none 0 0),(6,sv ad1 p0 cap2),(7,iv (ln p0)),(8,iv 0)] hF fun a hF=>?_
  refine wfn rfl ?_
  refine wpIn_block ?_
  replace hS:=hS.nilarr 3 1 fI
  refine eloop (fun n_ a w=>∃ (a1 : (List Int)) (a0 : Int) (a2 : Option Addr) (a3 : Nat),Fr 22 [] [(3,sv a2 a1 a3),(6,sv ad1 p0 cap2),(7,iv (ln p0)),(8,iv a0)] a∧St w0 [arr 3 1 fI a2 a1.length a3 a1,fz w0 μ] w∧fold_known_L2 p0 n_ a1 a0 = some res) F ⟨[],0,none,0,hF.sub (by kernel_rfl),St.pick [0,1] (by decide) hS,h⟩ ?_
  rintro nk2 a w ⟨a1,a0,a2,a3,hF,hS,h⟩
  rcases nk2 with _ | nk2
  ·cases (show (none : Option (List Int)) = some res from h)
  obtain ⟨k2,hk2⟩ : ∃ k,k = fold_known_L2 p0 nk2:=⟨_,rfl⟩
  replace h : fold_known_B2 p0 k2 a1 a0 = some res:=by rw [hk2]; exact h
  rw [fold_known_B2] at h
  refine esr ?_
  refine rn 1 1 [(3,sv a2 a1 a3),(6,sv ad1 p0 cap2),(7,iv (ln p0)),(8,iv a0),(9,.bool (decide (a0 < (ln p0))))] hF fun a hF=>?_
  refine wfn rfl ?_
  refine eseq ?_
  refine econd hF rfl (fun hc=>?_) (fun hc=>?_)
  ·replace h:=bif_t h hc
   refine wpIn_skip (norm_then ?_)
   refine ecut (fun a w=>∃ (a4 : (List Int)) (a6 : Option Addr) (a8 : Nat),Fr 22 [] [(3,sv a6 a4 a8),(6,sv ad1 p0 cap2),(7,iv (ln p0)),(8,iv a0)] a∧St w0 [arr 3 1 fI a6 a4.length a8 a4,fz w0 μ] w∧fold_known_K3 a0 k2 a4 = some res) ?_ ?_
   ·skip
    refine wpIn_block ?_
    refine esr ?_
    replace h:=bindS h
    obtain ⟨aD,aL,h⟩:=h
    obtain ⟨aN,aI,aJ⟩:=getI_all2 hA4.2 aL
    obtain ⟨aF,aH,rfl,aO⟩:=aJ
    refine rno 5 [.run [] (Instr.indexAt 135 (sv ad1 p0 cap2) (iv a0)) (.pointer (some (slAddr ad1 a0 1))),.run [] (Instr.loadAt 132 (.pointer (some (slAddr ad1 a0 1)))) (sv aF aD aH)] 5 [(3,sv a2 a1 a3),(4,iv a0),(5,sv aF aD aH),(6,sv ad1 p0 cap2),(7,iv (ln p0)),(8,iv a0)] hF (ocons (obIdxQ (hA4.at (hS.frz (i:=1) rfl hlow)) (by kernel_rfl) (fun _=>aI)) (ocons (obElQ (i:=a0) 0 (fN_len 1) (fun _ hd=>(hA4.at ((hS.at_ hd).frz (i:=1) rfl hlow))) (by kernel_rfl) (fun _=>aI) rfl) onil)) fun a hF=>?_
    refine wfn rfl ?_
    refine esr ?_
    refine rn 3 3 [(3,sv a2 a1 a3),(4,iv a0),(6,sv ad1 p0 cap2),(7,iv (ln p0)),(8,iv a0),(15,.bool (decide ((ln aD) > 0)))] hF fun a hF=>?_
    refine wfn rfl ?_
    refine econd hF rfl (fun hc=>?_) (fun hc=>?_)
    ·replace h:=bif_t h hc
     refine WI.region ?_
     refine rn 2 2 [(3,sv a2 a1 a3),(6,sv ad1 p0 cap2),(7,iv (ln p0)),(8,iv a0),(16,sv a2 a1 a3),(17,iv a0)] hF fun a hF=>?_
     refine SK.wi (litK (e:=3) (sz:=1) (f:=fI) (t:=60) (len:=1) (fun aG=>[(3,sv a2 a1 a3),(6,sv ad1 p0 cap2),(7,iv (ln p0)),(8,iv a0),(16,sv a2 a1 a3),(18,sb aG 1)]) #[(0,iv a0)] #[iv a0] ([a0]) hF hS (by kernel_rfl) ⟨by kernel_rfl⟩ (by kernel_rfl) fI_len rfl rfl (by kernel_rfl) (fun _=>⟨by kernel_rfl⟩) fun aG w a hF hS=>?_)
     replace h:=bindS h
     obtain ⟨aC,aK,h⟩:=h
     refine SK.wi (appK (t:=60) (ty:=60) (bytes:=8) (l:=a1) (l':=([a0])) (fun aA aB=>[(3,sv a2 a1 a3),(6,sv ad1 p0 cap2),(7,iv (ln p0)),(8,iv a0),(19,sv aA aC aB)]) 1 hF hS rfl (by kernel_rfl) ⟨by kernel_rfl⟩ (by kernel_rfl) (hS.arr (i:=0) rfl) (fun _ _=>rfl) aK (fun _ _=>⟨by kernel_rfl⟩) fun aA aB w a hF hS=>?_)
     refine rn 1 5 [(3,sv aA aC aB),(6,sv ad1 p0 cap2),(7,iv (ln p0)),(8,iv a0)] hF fun a hF=>?_
     refine WI.fin rfl (norm_block <| norm_then <| ?_)
     exact ⟨aC,aA,aB,hF.sub (by kernel_rfl),St.pick [1,2] (by decide) hS,h⟩
    ·replace h:=bif_f h hc
     refine wpIn_skip (norm_block <| norm_then <| ?_)
     exact ⟨a1,a2,a3,hF.sub (by kernel_rfl),St.pick [0,1] (by decide) hS,h⟩
   rintro a w ⟨a4,a6,a8,hF,hS,h⟩
   rw [fold_known_K3] at h
   refine WI.region ?_
   replace h:=bindS h
   obtain ⟨aE,aM,h⟩:=h
   refine rno 2 [.run [] (binOp .add 3 (iv a0) (iv 1)) (iv aE)] 2 [(3,sv a6 a4 a8),(6,sv ad1 p0 cap2),(7,iv (ln p0)),(8,iv aE)] hF (ocons (obAddC (fun _=>aM)) onil) fun a hF=>?_
   refine wfn rfl ?_
   rw [hk2] at h
   exact ⟨nk2,Nat.lt_succ_self _,a4,aE,a6,a8,hF.sub (by kernel_rfl),St.pick [0,1] (by decide) hS,h⟩
  ·replace h:=bif_f h hc
   refine wpIn_exit (exit_then <| exit_then <| exit_hit <| norm_then ?_)
   exact ⟨a1,a2,a3,hF.sub (by kernel_rfl),St.pick [0,1] (by decide) hS,h⟩
 rintro a w ⟨a5,a7,a9,hF,hS,h⟩
 rw [fold_known_K1] at h
 refine esr ?_
 refine rn 2 2 [(2,sv a7 a5 a9)] hF fun a hF=>?_
 refine wfn rfl ?_
 refine wpIn_ret (fn_ret [.tmp 2] [sv a7 a5 a9] hF rfl ⟨rfl,trivial⟩ ?_)
 have hr_:=Option.some.inj h
 subst hr_
 exact ⟨_,_,rfl,St.pick [0] (by decide) hS⟩
theorem ref03_united_ok (F : Nat) (p0 : (List api_Span)) (res : (List api_Span)) (h : ref03_united F p0 = some res) (μ : Frz) (w0 : World) (hm : FrzAt μ w0) {ad1 : Option Addr} {cap2 : Nat} (hA3 : ArrM μ 2 api_Span.cells ad1 cap2 p0) : Calls Try.prog 64 #[sv ad1 p0 cap2] w0 (fun e w=>∃ zad0 zcap0,e = .returned (sv zad0 res zcap0)∧St w0 [arr 25 2 api_Span.cells zad0 res.length zcap0 res] w):=by
 obtain ⟨hlow,hS⟩:=hm.init
 have hext:=Frz.ext_refl w0.heap.size μ
 rw [ref03_united] at h
 refine fn_enterW Try.func64 rfl 96 [(0,sv ad1 p0 cap2)] rfl rfl (by kernel_rfl) fun a w hw hF=>?_
 replace hS : St w0 [fz w0 μ] w:=by rw [hw]; exact hS
 clear hw
 refine esr ?_
 refine rn 1 1 [(0,sv ad1 p0 cap2)] hF fun a hF=>?_
 refine wfn rfl ?_
 refine esr ?_
 refine rn 1 1 [(0,sv ad1 p0 cap2),(3,.slice none 0 0)] hF fun a hF=>?_
 refine wfn rfl ?_
 refine esr ?_
 refine SK.wi (litK (e:=25) (sz:=2) (f:=api_Span.cells) (t:=43) (len:=0) (fun b4=>[(0,sv ad1 p0 cap2),(3,.slice none 0 0),(11,sb b4 0)]) #[] #[] ([] : List api_Span) hF hS (by kernel_rfl) ⟨by kernel_rfl⟩ (by kernel_rfl) api_Span.cells_len rfl rfl (by kernel_rfl) (fun _=>⟨by kernel_rfl⟩) fun b4 w a hF hS=>?_)
 refine rn 1 2 [(3,.slice none 0 0),(11,sb b4 0),(12,sv ad1 p0 cap2)] hF fun a hF=>?_
 replace h:=bindS h
 obtain ⟨l5,hl5,h⟩:=h
 refine SK.wi (appK (t:=43) (ty:=43) (bytes:=16) (l:=([] : List api_Span)) (l':=p0) (fun ad6 cap7=>[(3,.slice none 0 0),(13,sv ad6 l5 cap7)]) 0 hF hS rfl (by kernel_rfl) ⟨by kernel_rfl⟩ (by kernel_rfl) (hA3 _ (hS.frz (i:=1) rfl hlow)) (fun _ _=>rfl) hl5 (fun _ _=>⟨by kernel_rfl⟩) fun ad6 cap7 w a hF hS=>?_)
 refine rn 1 4 [(3,.slice none 0 0),(4,sv ad6 l5 cap7)] hF fun a hF=>?_
 refine wfn rfl ?_
 refine ecut (fun a w=>∃ (aO : (List api_Span)) (aS : Option Addr) (aX : Nat),Fr 96 [] [(3,sv aS aO aX)] a∧St w0 [arr 25 2 api_Span.cells aS aO.length aX aO,fz w0 μ] w∧ref03_united_K1 aO = some res) ?_ ?_
 ·skip
  refine wpIn_block ?_
  replace hS:=hS.nilarr 25 2 api_Span.cells
  refine eloop (fun n_ a w=>∃ (a1 : (List api_Span)) (a0 : (List api_Span)) (a4 : Option Addr) (a5 : Nat) (a2 : Option Addr) (a3 : Nat),Fr 96 [] [(3,sv a4 a1 a5),(4,sv a2 a0 a3)] a∧St w0 [arr 25 2 api_Span.cells a2 a0.length a3 a0,arr 25 2 api_Span.cells a4 a1.length a5 a1,fz w0 μ] w∧ref03_united_L2 F n_ a1 a0 = some res) F ⟨[],l5,none,0,ad6,cap7,hF.sub (by kernel_rfl),St.pick [1,0,2] (by decide) hS,h⟩ ?_
  rintro nk2 a w ⟨a1,a0,a4,a5,a2,a3,hF,hS,h⟩
  rcases nk2 with _ | nk2
  ·cases (show (none : Option (List api_Span)) = some res from h)
  obtain ⟨k2,hk2⟩ : ∃ k,k = ref03_united_L2 F nk2:=⟨_,rfl⟩
  replace h : ref03_united_B2 F k2 a1 a0 = some res:=by rw [hk2]; exact h
  rw [ref03_united_B2] at h
  refine eseq ?_
  refine esr ?_
  refine rn 3 3 [(3,sv a4 a1 a5),(4,sv a2 a0 a3),(16,.bool (decide ((ln a0) > 0)))] hF fun a hF=>?_
  refine wfn rfl ?_
  refine econd hF rfl (fun hc=>?_) (fun hc=>?_)
  ·replace h:=bif_t h hc
   refine wpIn_skip (norm_then ?_)
   refine wpIn_block ?_
   refine esr ?_
   replace h:=bindS h
   obtain ⟨aD,bI,h⟩:=h
   refine rno 3 [.run [] (Instr.indexAt 43 (sv a2 a0 a3) (iv 0)) (.pointer (some (slAddr a2 0 2))),.run [] (Instr.loadAt 25 (.pointer (some (slAddr a2 0 2)))) (.agg #[iv aD.Lo,iv aD.Hi])] 3 [(3,sv a4 a1 a5),(4,sv a2 a0 a3),(19,.agg #[iv aD.Lo,iv aD.Hi])] hF (ocons (obIdxQ (hS.arr (i:=0) rfl) (by kernel_rfl) (fun _=>bI)) (ocons (obElNQ (m:=2) (i:=0) (us:=[iv aD.Lo,iv aD.Hi]) 0 api_Span.cells_len (fun _ hd=>((hS.at_ hd).arr (i:=0) rfl)) (by kernel_rfl) (fun _=>bI) ⟨rfl,rfl⟩) onil)) fun a hF=>?_
   refine SK.wi (allocK (t:=25) (fun a6=>[(3,sv a4 a1 a5),(4,sv a2 a0 a3),(5,pb a6),(19,.agg #[iv aD.Lo,iv aD.Hi])]) #[iv 0,iv 0] hF hS (by kernel_rfl) ⟨by kernel_rfl⟩ (by kernel_rfl) (fun _=>⟨by kernel_rfl⟩) fun a6 w a hF hS=>?_)
   refine SK.wi (storeK (t:=25) [(3,sv a4 a1 a5),(4,sv a2 a0 a3),(5,pb a6)] 0 0 (.agg #[iv aD.Lo,iv aD.Hi]) #[iv aD.Lo,iv aD.Hi] hF hS rfl (by kernel_rfl) ⟨by kernel_rfl⟩ (by kernel_rfl) (by kernel_rfl) (by kernel_rfl) (by kernel_rfl) ⟨by kernel_rfl⟩ fun w a hF hS=>?_)
   refine wfn rfl ?_
   refine ecut (fun a w=>∃ (a7 : Int) (b7 : Int),Fr 96 [] [(3,sv a4 a1 a5),(4,sv a2 a0 a3),(5,pb a6)] a∧St w0 [blk a6 25 #[iv a7,iv b7],arr 25 2 api_Span.cells a2 a0.length a3 a0,arr 25 2 api_Span.cells a4 a1.length a5 a1,fz w0 μ] w∧ref03_united_K3 F a1 a0 k2 a7 b7 = some res) ?_ ?_
   ·skip
    refine esr ?_
    refine rn 1 1 [(3,sv a4 a1 a5),(4,sv a2 a0 a3),(5,pb a6),(6,iv 0)] hF fun a hF=>?_
    refine wfn rfl ?_
    refine wpIn_block ?_
    refine eloop (fun n_ a w=>∃ (aN : Int) (aR : Int) (aA : Int),Fr 96 [] [(3,sv a4 a1 a5),(4,sv a2 a0 a3),(5,pb a6),(6,iv aA)] a∧St w0 [blk a6 25 #[iv aN,iv aR],arr 25 2 api_Span.cells a2 a0.length a3 a0,arr 25 2 api_Span.cells a4 a1.length a5 a1,fz w0 μ] w∧ref03_united_L11 F a1 a0 k2 n_ aN aR aA = some res) F ⟨aD.Lo,aD.Hi,0,hF.sub (by kernel_rfl),St.pick [0,1,2,3] (by decide) hS,h⟩ ?_
    rintro b6 a w ⟨aN,aR,aA,hF,hS,h⟩
    rcases b6 with _ | b6
    ·cases (show (none : Option (List api_Span)) = some res from h)
    obtain ⟨bQ,bH⟩ : ∃ k,k = ref03_united_L11 F a1 a0 k2 b6:=⟨_,rfl⟩
    replace h : ref03_united_B11 F a1 a0 k2 bQ aN aR aA = some res:=by rw [bH]; exact h
    rw [ref03_united_B11] at h
    refine eseq ?_
    refine esr ?_
    refine rn 4 4 [(3,sv a4 a1 a5),(4,sv a2 a0 a3),(5,pb a6),(6,iv aA),(23,.bool (decide (aA < (ln a0))))] hF fun a hF=>?_
    refine wfn rfl ?_
    refine econd hF rfl (fun hc=>?_) (fun hc=>?_)
    ·replace h:=bif_t h hc
     refine wpIn_skip (norm_then ?_)
     refine ecut (fun a w=>∃ (b9 : Int) (bA : Int),Fr 96 [] [(3,sv a4 a1 a5),(4,sv a2 a0 a3),(5,pb a6),(6,iv aA)] a∧St w0 [blk a6 25 #[iv b9,iv bA],arr 25 2 api_Span.cells a2 a0.length a3 a0,arr 25 2 api_Span.cells a4 a1.length a5 a1,fz w0 μ] w∧ref03_united_K12 aA bQ b9 bA = some res) ?_ ?_
     ·skip
      refine wpIn_block ?_
      refine eseq ?_
      replace h:=bindS h
      obtain ⟨bT,bO,h⟩:=h
      refine runD (obs:=[.run [] (Instr.indexAt 43 (sv a2 a0 a3) (iv aA)) (.pointer (some (slAddr a2 aA 2))),.run [] (Instr.loadAt 3 (.pointer (some (slAddr a2 aA 2)))) (iv bT.Lo),.run [] (Instr.loadAt 3 (pb a6)) (iv aN)]) 8 [(3,sv a4 a1 a5),(4,sv a2 a0 a3),(5,pb a6),(6,iv aA),(33,.bool (decide (bT.Lo < aN)))] (by kernel_rfl) hF (by kernel_rfl) (ocons (obIdxQ (hS.arr (i:=1) rfl) (by kernel_rfl) (fun _=>bO)) (ocons (obElQ (i:=aA) 0 api_Span.cells_len (fun _ hd=>((hS.later hd).arr (i:=1) rfl)) (by kernel_rfl) (fun _=>bO) rfl) (ocons (ob1 (by kernel_rfl) (fun _ hd=>(hS.later hd).cell (i:=0) (j:=0) rfl rfl)) onil))) ⟨by kernel_rfl⟩ fun a w hF hx=>?_
      replace hS:=hS.later hx
      refine wfn rfl ?_
      refine econd hF rfl (fun hc=>?_) (fun hc=>?_)
      ·replace h:=bif_t h hc
       refine WI.region ?_
       replace h:=bindS h
       obtain ⟨aI,bP,h⟩:=h
       refine rno 4 [.run [] (Instr.indexAt 43 (sv a2 a0 a3) (iv aA)) (.pointer (some (slAddr a2 aA 2))),.run [] (Instr.loadAt 25 (.pointer (some (slAddr a2 aA 2)))) (.agg #[iv aI.Lo,iv aI.Hi])] 4 [(3,sv a4 a1 a5),(4,sv a2 a0 a3),(5,pb a6),(6,iv aA),(37,.agg #[iv aI.Lo,iv aI.Hi])] hF (ocons (obIdxQ (hS.arr (i:=1) rfl) (by kernel_rfl) (fun _=>bP)) (ocons (obElNQ (m:=2) (i:=aA) (us:=[iv aI.Lo,iv aI.Hi]) 0 api_Span.cells_len (fun _ hd=>((hS.at_ hd).arr (i:=1) rfl)) (by kernel_rfl) (fun _=>bP) ⟨rfl,rfl⟩) onil)) fun a hF=>?_
       refine SK.wi (storeK (t:=25) [(3,sv a4 a1 a5),(4,sv a2 a0 a3),(5,pb a6),(6,iv aA)] 0 0 (.agg #[iv aI.Lo,iv aI.Hi]) #[iv aI.Lo,iv aI.Hi] hF hS rfl (by kernel_rfl) ⟨by kernel_rfl⟩ (by kernel_rfl) (by kernel_rfl) (by kernel_rfl) (by kernel_rfl) ⟨by kernel_rfl⟩ fun w a hF hS=>?_)
       refine WI.fin rfl (norm_block <| norm_then <| ?_)
       exact ⟨aI.Lo,aI.Hi,hF.sub (by kernel_rfl),St.pick [0,1,2,3] (by decide) hS,h⟩
      ·replace h:=bif_f h hc
       refine wpIn_skip (norm_block <| norm_then <| ?_)
       exact ⟨aN,aR,hF.sub (by kernel_rfl),St.pick [0,1,2,3] (by decide) hS,h⟩
     rintro a w ⟨b9,bA,hF,hS,h⟩
     rw [ref03_united_K12] at h
     refine WI.region ?_
     replace h:=bindS h
     obtain ⟨bE,bY,h⟩:=h
     refine rno 3 [.run [] (binOp .add 3 (iv aA) (iv 1)) (iv bE)] 3 [(3,sv a4 a1 a5),(4,sv a2 a0 a3),(5,pb a6),(6,iv bE)] hF (ocons (obAddC (fun _=>bY)) onil) fun a hF=>?_
     refine wfn rfl ?_
     rw [bH] at h
     exact ⟨b6,Nat.lt_succ_self _,b9,bA,bE,hF.sub (by kernel_rfl),St.pick [0,1,2,3] (by decide) hS,h⟩
    ·replace h:=bif_f h hc
     refine wpIn_exit (exit_then <| exit_then <| exit_hit <| norm_then ?_)
     exact ⟨aN,aR,hF.sub (by kernel_rfl),St.pick [0,1,2,3] (by decide) hS,h⟩
   rintro a w ⟨a7,b7,hF,hS,h⟩
   rw [ref03_united_K3] at h
   refine ecut (fun a w=>∃ (aB : Int),Fr 96 [] [(3,sv a4 a1 a5),(4,sv a2 a0 a3),(5,pb a6)] a∧St w0 [blk a6 25 #[iv a7,iv aB],arr 25 2 api_Span.cells a2 a0.length a3 a0,arr 25 2 api_Span.cells a4 a1.length a5 a1,fz w0 μ] w∧ref03_united_K4 F a1 a0 k2 a7 aB = some res) ?_ ?_
   ·skip
    refine esr ?_
    refine rn 1 1 [(3,sv a4 a1 a5),(4,sv a2 a0 a3),(5,pb a6),(7,.bool true)] hF fun a hF=>?_
    refine wfn rfl ?_
    refine wpIn_block ?_
    refine eloop (fun n_ a w=>∃ (aQ : Int) (aV : Bool),Fr 96 [] [(3,sv a4 a1 a5),(4,sv a2 a0 a3),(5,pb a6),(7,.bool aV)] a∧St w0 [blk a6 25 #[iv a7,iv aQ],arr 25 2 api_Span.cells a2 a0.length a3 a0,arr 25 2 api_Span.cells a4 a1.length a5 a1,fz w0 μ] w∧ref03_united_L8 F a1 a0 k2 a7 n_ aQ aV = some res) F ⟨b7,true,hF.sub (by kernel_rfl),St.pick [0,1,2,3] (by decide) hS,h⟩ ?_
    rintro nk8 a w ⟨aQ,aV,hF,hS,h⟩
    rcases nk8 with _ | nk8
    ·cases (show (none : Option (List api_Span)) = some res from h)
    obtain ⟨k8,hk8⟩ : ∃ k,k = ref03_united_L8 F a1 a0 k2 a7 nk8:=⟨_,rfl⟩
    replace h : ref03_united_B8 F a1 a0 k2 a7 k8 aQ aV = some res:=by rw [hk8]; exact h
    rw [ref03_united_B8] at h
    refine eseq ?_
    refine esr ?_
    refine rn 1 1 [(3,sv a4 a1 a5),(4,sv a2 a0 a3),(5,pb a6),(38,.bool aV)] hF fun a hF=>?_
    refine wfn rfl ?_
    refine econd hF rfl (fun hc=>?_) (fun hc=>?_)
    ·replace h:=bif_t h hc
     refine wpIn_skip (norm_then ?_)
     refine wpIn_block ?_
     refine esr ?_
     refine rn 1 1 [(3,sv a4 a1 a5),(4,sv a2 a0 a3),(5,pb a6),(7,.bool false)] hF fun a hF=>?_
     refine wfn rfl ?_
     refine esr ?_
     refine rn 1 1 [(3,sv a4 a1 a5),(4,sv a2 a0 a3),(5,pb a6),(7,.bool false),(8,iv 0)] hF fun a hF=>?_
     refine wfn rfl ?_
     refine wpIn_block ?_
     refine eloop (fun n_ a w=>∃ (aE : Int) (aM : Bool) (a8 : Int),Fr 96 [] [(3,sv a4 a1 a5),(4,sv a2 a0 a3),(5,pb a6),(7,.bool aM),(8,iv a8)] a∧St w0 [blk a6 25 #[iv a7,iv aE],arr 25 2 api_Span.cells a2 a0.length a3 a0,arr 25 2 api_Span.cells a4 a1.length a5 a1,fz w0 μ] w∧ref03_united_L9 a0 k8 n_ aE aM a8 = some res) F ⟨aQ,false,0,hF.sub (by kernel_rfl),St.pick [0,1,2,3] (by decide) hS,h⟩ ?_
     rintro nk9 a w ⟨aE,aM,a8,hF,hS,h⟩
     rcases nk9 with _ | nk9
     ·cases (show (none : Option (List api_Span)) = some res from h)
     obtain ⟨k9,hk9⟩ : ∃ k,k = ref03_united_L9 a0 k8 nk9:=⟨_,rfl⟩
     replace h : ref03_united_B9 a0 k8 k9 aE aM a8 = some res:=by rw [hk9]; exact h
     rw [ref03_united_B9] at h
     refine eseq ?_
     refine esr ?_
     refine rn 4 4 [(3,sv a4 a1 a5),(4,sv a2 a0 a3),(5,pb a6),(7,.bool aM),(8,iv a8),(42,.bool (decide (a8 < (ln a0))))] hF fun a hF=>?_
     refine wfn rfl ?_
     refine econd hF rfl (fun hc=>?_) (fun hc=>?_)
     ·replace h:=bif_t h hc
      refine wpIn_skip (norm_then ?_)
      refine ecut (fun a w=>∃ (b8 : Int) (aW : Bool),Fr 96 [] [(3,sv a4 a1 a5),(4,sv a2 a0 a3),(5,pb a6),(7,.bool aW),(8,iv a8)] a∧St w0 [blk a6 25 #[iv a7,iv b8],arr 25 2 api_Span.cells a2 a0.length a3 a0,arr 25 2 api_Span.cells a4 a1.length a5 a1,fz w0 μ] w∧ref03_united_K10 a8 k9 b8 aW = some res) ?_ ?_
      ·skip
       refine wpIn_block ?_
       refine eseq ?_
       replace h:=bindS h
       obtain ⟨b0,bL,h⟩:=h
       replace h:=bindS h
       obtain ⟨bS,bM,h⟩:=h
       refine runD (obs:=[.run [] (Instr.indexAt 43 (sv a2 a0 a3) (iv a8)) (.pointer (some (slAddr a2 a8 2))),.run [] (Instr.loadAt 3 (.pointer (some (slAddr a2 a8 2)))) (iv b0.Lo),.run [] (Instr.loadAt 3 (.pointer (some ⟨a6,1,none⟩))) (iv aE),.run [⟨53,true,(decide (b0.Lo≤aE))⟩] (Instr.indexAt 43 (sv a2 a0 a3) (iv a8)) (.pointer (some (slAddr a2 a8 2))),.run [⟨53,true,(decide (b0.Lo≤aE))⟩] (Instr.loadAt 3 (.pointer (some ((slAddr a2 a8 2).add 1)))) (iv bS.Hi),.run [⟨53,true,(decide (b0.Lo≤aE))⟩] (Instr.loadAt 3 (.pointer (some ⟨a6,1,none⟩))) (iv aE)]) 18 [(3,sv a4 a1 a5),(4,sv a2 a0 a3),(5,pb a6),(7,.bool aM),(8,iv a8),(62,.bool (bif (decide (b0.Lo≤aE)) then (decide (bS.Hi > aE)) else false))] (by kernel_rfl) hF (by kernel_rfl) (ocons (obIdxQ (hS.arr (i:=1) rfl) (by kernel_rfl) (fun _=>bL)) (ocons (obElQ (i:=a8) 0 api_Span.cells_len (fun _ hd=>((hS.later hd).arr (i:=1) rfl)) (by kernel_rfl) (fun _=>bL) rfl) (ocons (ob1 (by kernel_rfl) (fun _ hd=>(hS.later hd).cell (i:=0) (j:=1) rfl rfl)) (ocons (obIdxQ (hS.arr (i:=1) rfl) (by kernel_rfl) (fun hk=>gd_some bM hk)) (ocons (obElQ (i:=a8) 1 api_Span.cells_len (fun _ hd=>((hS.later hd).arr (i:=1) rfl)) (by kernel_rfl) (fun hk=>gd_some bM hk) rfl) (ocons (ob1 (by kernel_rfl) (fun _ hd=>(hS.later hd).cell (i:=0) (j:=1) rfl rfl)) onil)))))) ⟨by kernel_rfl⟩ fun a w hF hx=>?_
       replace hS:=hS.later hx
       refine wfn rfl ?_
       refine econd hF rfl (fun hc=>?_) (fun hc=>?_)
       ·replace h:=bif_t h hc
        refine esr ?_
        replace h:=bindS h
        obtain ⟨b1,bN,h⟩:=h
        refine rno 6 [.run [] (Instr.indexAt 43 (sv a2 a0 a3) (iv a8)) (.pointer (some (slAddr a2 a8 2))),.run [] (Instr.loadAt 3 (.pointer (some ((slAddr a2 a8 2).add 1)))) (iv b1.Hi)] 6 [(3,sv a4 a1 a5),(4,sv a2 a0 a3),(5,pb a6),(8,iv a8),(67,iv b1.Hi),(68,.pointer (some ⟨a6,1,none⟩))] hF (ocons (obIdxQ (hS.arr (i:=1) rfl) (by kernel_rfl) (fun _=>bN)) (ocons (obElQ (i:=a8) 1 api_Span.cells_len (fun _ hd=>((hS.at_ hd).arr (i:=1) rfl)) (by kernel_rfl) (fun _=>bN) rfl) onil)) fun a hF=>?_
        refine SK.wi (storeK (t:=3) [(3,sv a4 a1 a5),(4,sv a2 a0 a3),(5,pb a6),(8,iv a8)] 0 1 (iv b1.Hi) #[iv a7,iv b1.Hi] hF hS rfl (by kernel_rfl) ⟨by kernel_rfl⟩ (by kernel_rfl) (by kernel_rfl) (by kernel_rfl) (by kernel_rfl) ⟨by kernel_rfl⟩ fun w a hF hS=>?_)
        refine wfn rfl ?_
        refine WI.region ?_
        refine rn 1 1 [(3,sv a4 a1 a5),(4,sv a2 a0 a3),(5,pb a6),(7,.bool true),(8,iv a8)] hF fun a hF=>?_
        refine WI.fin rfl (norm_block <| norm_then <| ?_)
        exact ⟨b1.Hi,true,hF.sub (by kernel_rfl),St.pick [0,1,2,3] (by decide) hS,h⟩
       ·replace h:=bif_f h hc
        refine wpIn_skip (norm_block <| norm_then <| ?_)
        exact ⟨aE,aM,hF.sub (by kernel_rfl),St.pick [0,1,2,3] (by decide) hS,h⟩
      rintro a w ⟨b8,aW,hF,hS,h⟩
      rw [ref03_united_K10] at h
      refine WI.region ?_
      replace h:=bindS h
      obtain ⟨bD,bX,h⟩:=h
      refine rno 3 [.run [] (binOp .add 3 (iv a8) (iv 1)) (iv bD)] 3 [(3,sv a4 a1 a5),(4,sv a2 a0 a3),(5,pb a6),(7,.bool aW),(8,iv bD)] hF (ocons (obAddC (fun _=>bX)) onil) fun a hF=>?_
      refine wfn rfl ?_
      rw [hk9] at h
      exact ⟨nk9,Nat.lt_succ_self _,b8,aW,bD,hF.sub (by kernel_rfl),St.pick [0,1,2,3] (by decide) hS,h⟩
     ·replace h:=bif_f h hc
      refine wpIn_exit (exit_then <| exit_then <| exit_hit <| norm_block <| norm_then <| ?_)
      rw [hk8] at h
      exact ⟨nk8,Nat.lt_succ_self _,aE,aM,hF.sub (by kernel_rfl),St.pick [0,1,2,3] (by decide) hS,h⟩
    ·replace h:=bif_f h hc
     refine wpIn_exit (exit_then <| exit_then <| exit_hit <| norm_then ?_)
     exact ⟨aQ,hF.sub (by kernel_rfl),St.pick [0,1,2,3] (by decide) hS,h⟩
   rintro a w ⟨aB,hF,hS,h⟩
   rw [ref03_united_K4] at h
   refine esr ?_
   refine rn 1 1 [(3,sv a4 a1 a5),(4,sv a2 a0 a3),(5,pb a6),(9,.slice none 0 0)] hF fun a hF=>?_
   refine wfn rfl ?_
   refine ecut (fun a w=>∃ (aJ : (List api_Span)) (aK : Option Addr) (aL : Nat),Fr 96 [] [(3,sv a4 a1 a5),(5,pb a6),(9,sv aK aJ aL)] a∧St w0 [arr 25 2 api_Span.cells aK aJ.length aL aJ,blk a6 25 #[iv a7,iv aB],arr 25 2 api_Span.cells a2 a0.length a3 a0,arr 25 2 api_Span.cells a4 a1.length a5 a1,fz w0 μ] w∧ref03_united_K5 a1 k2 a7 aB aJ = some res) ?_ ?_
   ·skip
    refine esr ?_
    refine rn 1 1 [(3,sv a4 a1 a5),(4,sv a2 a0 a3),(5,pb a6),(9,.slice none 0 0),(10,iv 0)] hF fun a hF=>?_
    refine wfn rfl ?_
    refine wpIn_block ?_
    replace hS:=hS.nilarr 25 2 api_Span.cells
    refine eloop (fun n_ a w=>∃ (a9 : Int) (aC : (List api_Span)) (aF : Option Addr) (aG : Nat),Fr 96 [] [(3,sv a4 a1 a5),(4,sv a2 a0 a3),(5,pb a6),(9,sv aF aC aG),(10,iv a9)] a∧St w0 [arr 25 2 api_Span.cells aF aC.length aG aC,blk a6 25 #[iv a7,iv aB],arr 25 2 api_Span.cells a2 a0.length a3 a0,arr 25 2 api_Span.cells a4 a1.length a5 a1,fz w0 μ] w∧ref03_united_L6 a1 a0 k2 a7 aB n_ a9 aC = some res) F ⟨0,[],none,0,hF.sub (by kernel_rfl),St.pick [0,1,2,3,4] (by decide) hS,h⟩ ?_
    rintro nk6 a w ⟨a9,aC,aF,aG,hF,hS,h⟩
    rcases nk6 with _ | nk6
    ·cases (show (none : Option (List api_Span)) = some res from h)
    obtain ⟨k6,hk6⟩ : ∃ k,k = ref03_united_L6 a1 a0 k2 a7 aB nk6:=⟨_,rfl⟩
    replace h : ref03_united_B6 a1 a0 k2 a7 aB k6 a9 aC = some res:=by rw [hk6]; exact h
    rw [ref03_united_B6] at h
    refine eseq ?_
    refine esr ?_
    refine rn 4 4 [(3,sv a4 a1 a5),(4,sv a2 a0 a3),(5,pb a6),(9,sv aF aC aG),(10,iv a9),(72,.bool (decide (a9 < (ln a0))))] hF fun a hF=>?_
    refine wfn rfl ?_
    refine econd hF rfl (fun hc=>?_) (fun hc=>?_)
    ·replace h:=bif_t h hc
     refine wpIn_skip (norm_then ?_)
     refine ecut (fun a w=>∃ (aP : (List api_Span)) (aU : Option Addr) (aZ : Nat),Fr 96 [] [(3,sv a4 a1 a5),(4,sv a2 a0 a3),(5,pb a6),(9,sv aU aP aZ),(10,iv a9)] a∧St w0 [arr 25 2 api_Span.cells aU aP.length aZ aP,blk a6 25 #[iv a7,iv aB],arr 25 2 api_Span.cells a2 a0.length a3 a0,arr 25 2 api_Span.cells a4 a1.length a5 a1,fz w0 μ] w∧ref03_united_K7 a9 k6 aP = some res) ?_ ?_
     ·skip
      refine wpIn_block ?_
      refine eseq ?_
      replace h:=bindS h
      obtain ⟨bR,bJ,h⟩:=h
      refine runD (obs:=[.run [] (Instr.indexAt 43 (sv a2 a0 a3) (iv a9)) (.pointer (some (slAddr a2 a9 2))),.run [] (Instr.loadAt 3 (.pointer (some (slAddr a2 a9 2)))) (iv bR.Lo),.run [] (Instr.loadAt 3 (.pointer (some ⟨a6,1,none⟩))) (iv aB)]) 8 [(3,sv a4 a1 a5),(4,sv a2 a0 a3),(5,pb a6),(9,sv aF aC aG),(10,iv a9),(82,.bool (decide (bR.Lo > aB)))] (by kernel_rfl) hF (by kernel_rfl) (ocons (obIdxQ (hS.arr (i:=2) rfl) (by kernel_rfl) (fun _=>bJ)) (ocons (obElQ (i:=a9) 0 api_Span.cells_len (fun _ hd=>((hS.later hd).arr (i:=2) rfl)) (by kernel_rfl) (fun _=>bJ) rfl) (ocons (ob1 (by kernel_rfl) (fun _ hd=>(hS.later hd).cell (i:=1) (j:=1) rfl rfl)) onil))) ⟨by kernel_rfl⟩ fun a w hF hx=>?_
      replace hS:=hS.later hx
      refine wfn rfl ?_
      refine econd hF rfl (fun hc=>?_) (fun hc=>?_)
      ·replace h:=bif_t h hc
       refine WI.region ?_
       replace h:=bindS h
       obtain ⟨aH,bK,h⟩:=h
       refine rno 5 [.run [] (Instr.indexAt 43 (sv a2 a0 a3) (iv a9)) (.pointer (some (slAddr a2 a9 2))),.run [] (Instr.loadAt 25 (.pointer (some (slAddr a2 a9 2)))) (.agg #[iv aH.Lo,iv aH.Hi])] 5 [(3,sv a4 a1 a5),(4,sv a2 a0 a3),(5,pb a6),(9,sv aF aC aG),(10,iv a9),(83,sv aF aC aG),(87,.agg #[iv aH.Lo,iv aH.Hi])] hF (ocons (obIdxQ (hS.arr (i:=2) rfl) (by kernel_rfl) (fun _=>bK)) (ocons (obElNQ (m:=2) (i:=a9) (us:=[iv aH.Lo,iv aH.Hi]) 0 api_Span.cells_len (fun _ hd=>((hS.at_ hd).arr (i:=2) rfl)) (by kernel_rfl) (fun _=>bK) ⟨rfl,rfl⟩) onil)) fun a hF=>?_
       refine SK.wi (litK (e:=25) (sz:=2) (f:=api_Span.cells) (t:=43) (len:=1) (fun bG=>[(3,sv a4 a1 a5),(4,sv a2 a0 a3),(5,pb a6),(9,sv aF aC aG),(10,iv a9),(83,sv aF aC aG),(88,sb bG 1)]) #[(0,.agg #[iv aH.Lo,iv aH.Hi])] #[iv aH.Lo,iv aH.Hi] ([aH]) hF hS (by kernel_rfl) ⟨by kernel_rfl⟩ (by kernel_rfl) api_Span.cells_len rfl rfl (by kernel_rfl) (fun _=>⟨by kernel_rfl⟩) fun bG w a hF hS=>?_)
       replace h:=bindS h
       obtain ⟨bB,bV,h⟩:=h
       refine SK.wi (appK (t:=43) (ty:=43) (bytes:=16) (l:=aC) (l':=([aH])) (fun b2 b3=>[(3,sv a4 a1 a5),(4,sv a2 a0 a3),(5,pb a6),(9,sv aF aC aG),(10,iv a9),(89,sv b2 bB b3)]) 1 hF hS rfl (by kernel_rfl) ⟨by kernel_rfl⟩ (by kernel_rfl) (hS.arr (i:=0) rfl) (fun _ _=>rfl) bV (fun _ _=>⟨by kernel_rfl⟩) fun b2 b3 w a hF hS=>?_)
       refine rn 1 8 [(3,sv a4 a1 a5),(4,sv a2 a0 a3),(5,pb a6),(9,sv b2 bB b3),(10,iv a9)] hF fun a hF=>?_
       refine WI.fin rfl (norm_block <| norm_then <| ?_)
       exact ⟨bB,b2,b3,hF.sub (by kernel_rfl),St.pick [1,2,3,4,5] (by decide) hS,h⟩
      ·replace h:=bif_f h hc
       refine wpIn_skip (norm_block <| norm_then <| ?_)
       exact ⟨aC,aF,aG,hF.sub (by kernel_rfl),St.pick [0,1,2,3,4] (by decide) hS,h⟩
     rintro a w ⟨aP,aU,aZ,hF,hS,h⟩
     rw [ref03_united_K7] at h
     refine WI.region ?_
     replace h:=bindS h
     obtain ⟨bC,bW,h⟩:=h
     refine rno 3 [.run [] (binOp .add 3 (iv a9) (iv 1)) (iv bC)] 3 [(3,sv a4 a1 a5),(4,sv a2 a0 a3),(5,pb a6),(9,sv aU aP aZ),(10,iv bC)] hF (ocons (obAddC (fun _=>bW)) onil) fun a hF=>?_
     refine wfn rfl ?_
     rw [hk6] at h
     exact ⟨nk6,Nat.lt_succ_self _,bC,aP,aU,aZ,hF.sub (by kernel_rfl),St.pick [0,1,2,3,4] (by decide) hS,h⟩
    ·replace h:=bif_f h hc
     refine wpIn_exit (exit_then <| exit_then <| exit_hit <| norm_then ?_)
     exact ⟨aC,aF,aG,hF.sub (by kernel_rfl),St.pick [0,1,2,3,4] (by decide) hS,h⟩
   rintro a w ⟨aJ,aK,aL,hF,hS,h⟩
   rw [ref03_united_K5] at h
   refine esr ?_
   refine rno 2 [.run [] (Instr.loadAt 25 (pb a6)) (.agg #[iv a7,iv aB])] 2 [(3,sv a4 a1 a5),(9,sv aK aJ aL),(90,sv a4 a1 a5),(91,.agg #[iv a7,iv aB])] hF (ocons (obN (us:=[iv a7,iv aB]) (by kernel_rfl) (fun _ hd=>((hS.at_ hd).blk (i:=1) rfl).cells rfl)) onil) fun a hF=>?_
   refine SK.wi (litK (e:=25) (sz:=2) (f:=api_Span.cells) (t:=43) (len:=1) (fun bF=>[(3,sv a4 a1 a5),(9,sv aK aJ aL),(90,sv a4 a1 a5),(92,sb bF 1)]) #[(0,.agg #[iv a7,iv aB])] #[iv a7,iv aB] ([(api_Span.mk a7 aB)]) hF hS (by kernel_rfl) ⟨by kernel_rfl⟩ (by kernel_rfl) api_Span.cells_len rfl rfl (by kernel_rfl) (fun _=>⟨by kernel_rfl⟩) fun bF w a hF hS=>?_)
   replace h:=bindS h
   obtain ⟨b5,bU,h⟩:=h
   refine SK.wi (appK (t:=43) (ty:=43) (bytes:=16) (l:=a1) (l':=([(api_Span.mk a7 aB)])) (fun aT aY=>[(3,sv a4 a1 a5),(9,sv aK aJ aL),(93,sv aT b5 aY)]) 4 hF hS rfl (by kernel_rfl) ⟨by kernel_rfl⟩ (by kernel_rfl) (hS.arr (i:=0) rfl) (fun _ _=>rfl) bU (fun _ _=>⟨by kernel_rfl⟩) fun aT aY w a hF hS=>?_)
   refine rn 1 5 [(3,sv aT b5 aY),(9,sv aK aJ aL)] hF fun a hF=>?_
   refine wfn rfl ?_
   refine WI.region ?_
   refine rn 2 2 [(3,sv aT b5 aY),(4,sv aK aJ aL)] hF fun a hF=>?_
   refine WI.fin rfl (norm_block <| norm_then <| ?_)
   rw [hk2] at h
   exact ⟨nk2,Nat.lt_succ_self _,b5,aJ,aT,aY,aK,aL,hF.sub (by kernel_rfl),St.pick [1,4,5] (by decide) hS,h⟩
  ·replace h:=bif_f h hc
   refine wpIn_exit (exit_then <| exit_then <| exit_hit <| norm_then ?_)
   exact ⟨a1,a4,a5,hF.sub (by kernel_rfl),St.pick [1,2] (by decide) hS,h⟩
 rintro a w ⟨aO,aS,aX,hF,hS,h⟩
 rw [ref03_united_K1] at h
 refine esr ?_
 refine rn 2 2 [(2,sv aS aO aX)] hF fun a hF=>?_
 refine wfn rfl ?_
 refine wpIn_ret (fn_ret [.tmp 2] [sv aS aO aX] hF rfl ⟨rfl,trivial⟩ ?_)
 have hr_:=Option.some.inj h
 subst hr_
 exact ⟨_,_,rfl,St.pick [0] (by decide) hS⟩
theorem law03_few_ok (F : Nat) (p0 : (List (List api_Span))) (p1 : Int) (res : Bool) (h : law03_few F p0 p1 = some res) (μ : Frz) (w0 : World) (hm : FrzAt μ w0) {ad1 : Option Addr} {cap2 : Nat} {css3 : List (List Value)} (hA4 : ArrQ μ 1 Rp43 ad1 cap2 css3 p0) : Calls Try.prog 23 #[sv ad1 p0 cap2,iv p1] w0 (fun e w=>e = .returned (.bool res)∧Ext w0 w):=by
 obtain ⟨hlow,hS⟩:=hm.init
 have hext:=Frz.ext_refl w0.heap.size μ
 rw [law03_few] at h
 refine fn_enterW Try.func23 rfl 35 [(0,sv ad1 p0 cap2),(1,iv p1)] rfl rfl (by kernel_rfl) fun a w hw hF=>?_
 replace hS : St w0 [fz w0 μ] w:=by rw [hw]; exact hS
 clear hw
 refine esr ?_
 refine rn 1 1 [(0,sv ad1 p0 cap2),(1,iv p1)] hF fun a hF=>?_
 refine wfn rfl ?_
 refine ecut (fun a w=>Fr 35 [] [] a∧St w0 [fz w0 μ] w∧law03_few_K1 = some res) ?_ ?_
 ·skip
  refine esr ?_
  refine rn 1 1 [(0,sv ad1 p0 cap2),(1,iv p1),(5,iv 0)] hF fun a hF=>?_
  refine wfn rfl ?_
  refine wpIn_block ?_
  refine eloop (fun n_ a w=>∃ (a0 : Int),Fr 35 [] [(0,sv ad1 p0 cap2),(1,iv p1),(5,iv a0)] a∧St w0 [fz w0 μ] w∧law03_few_L2 p0 p1 n_ a0 = some res) F ⟨0,hF.sub (by kernel_rfl),St.pick [0] (by decide) hS,h⟩ ?_
  rintro nk2 a w ⟨a0,hF,hS,h⟩
  rcases nk2 with _ | nk2
  ·cases (show (none : Option Bool) = some res from h)
  obtain ⟨k2,hk2⟩ : ∃ k,k = law03_few_L2 p0 p1 nk2:=⟨_,rfl⟩
  replace h : law03_few_B2 p0 p1 k2 a0 = some res:=by rw [hk2]; exact h
  rw [law03_few_B2] at h
  refine eseq ?_
  refine esr ?_
  refine rn 4 4 [(0,sv ad1 p0 cap2),(1,iv p1),(5,iv a0),(9,.bool (decide (a0 < (ln p0))))] hF fun a hF=>?_
  refine wfn rfl ?_
  refine econd hF rfl (fun hc=>?_) (fun hc=>?_)
  ·replace h:=bif_t h hc
   refine wpIn_skip (norm_then ?_)
   refine eseq ?_
   refine wpIn_block ?_
   refine esr ?_
   replace h:=bindS h
   obtain ⟨a3,aP,h⟩:=h
   obtain ⟨aV,a7,aL⟩:=getI_all2 hA4.2 aP
   obtain ⟨aD,aH,rfl,aZ⟩:=aL
   refine rno 8 [.run [] (Instr.indexAt 48 (sv ad1 p0 cap2) (iv a0)) (.pointer (some (slAddr ad1 a0 1))),.run [] (Instr.loadAt 43 (.pointer (some (slAddr ad1 a0 1)))) (sv aD a3 aH)] 8 [(0,sv ad1 p0 cap2),(1,iv p1),(5,iv a0),(19,.bool (decide ((ln a3) > p1)))] hF (ocons (obIdxQ (hA4.at (hS.frz (i:=0) rfl hlow)) (by kernel_rfl) (fun _=>a7)) (ocons (obElQ (i:=a0) 0 (fN_len 1) (fun _ hd=>(hA4.at ((hS.at_ hd).frz (i:=0) rfl hlow))) (by kernel_rfl) (fun _=>a7) rfl) onil)) fun a hF=>?_
   rcases Bool.eq_false_or_eq_true ((decide ((ln a3) > p1))) with a1 | a1
   ·replace h:=bif_t h a1
    rw [a1] at hF
    replace h:=bindS h
    obtain ⟨a4,aQ,h⟩:=h
    obtain ⟨aW,a8,aM⟩:=getI_all2 hA4.2 aQ
    obtain ⟨aE,aI,rfl,b0⟩:=aM
    refine rno 8 [.run [⟨19,true,true⟩] (Instr.indexAt 48 (sv ad1 p0 cap2) (iv a0)) (.pointer (some (slAddr ad1 a0 1))),.run [⟨19,true,true⟩] (Instr.loadAt 43 (.pointer (some (slAddr ad1 a0 1)))) (sv aE a4 aI)] 16 [(0,sv ad1 p0 cap2),(1,iv p1),(5,iv a0),(27,.bool (decide ((ln a4)≤256)))] hF (ocons (obIdxQ (hA4.at (hS.frz (i:=0) rfl hlow)) (by kernel_rfl) (fun _=>a8)) (ocons (obElQ (i:=a0) 0 (fN_len 1) (fun _ hd=>(hA4.at ((hS.at_ hd).frz (i:=0) rfl hlow))) (by kernel_rfl) (fun _=>a8) rfl) onil)) fun a hF=>?_
    rcases Bool.eq_false_or_eq_true ((decide ((ln a4)≤256))) with a2 | a2
    ·replace h:=bif_t h a2
     rw [a2] at hF
     refine skip_ 17 [(0,sv ad1 p0 cap2),(1,iv p1),(5,iv a0),(27,.bool true),(28,undef)] hF (by kernel_rfl) ⟨by kernel_rfl⟩ ⟨by kernel_rfl⟩ rfl fun a hF=>?_
     refine skip_ 18 [(0,sv ad1 p0 cap2),(1,iv p1),(5,iv a0),(27,.bool true),(28,undef),(29,undef)] hF (by kernel_rfl) ⟨by kernel_rfl⟩ ⟨by kernel_rfl⟩ rfl fun a hF=>?_
     refine skip_ 19 [(0,sv ad1 p0 cap2),(1,iv p1),(5,iv a0),(27,.bool true),(30,undef)] hF (by kernel_rfl) ⟨by kernel_rfl⟩ ⟨by kernel_rfl⟩ rfl fun a hF=>?_
     refine skip_ 20 [(0,sv ad1 p0 cap2),(1,iv p1),(5,iv a0),(27,.bool true),(31,undef)] hF (by kernel_rfl) ⟨by kernel_rfl⟩ ⟨by kernel_rfl⟩ rfl fun a hF=>?_
     refine skip_ 21 [(0,sv ad1 p0 cap2),(1,iv p1),(5,iv a0),(27,.bool true),(32,undef)] hF (by kernel_rfl) ⟨by kernel_rfl⟩ ⟨by kernel_rfl⟩ rfl fun a hF=>?_
     refine skip_ 22 [(0,sv ad1 p0 cap2),(1,iv p1),(5,iv a0),(27,.bool true),(33,undef)] hF (by kernel_rfl) ⟨by kernel_rfl⟩ ⟨by kernel_rfl⟩ rfl fun a hF=>?_
     refine rn 1 23 [(0,sv ad1 p0 cap2),(1,iv p1),(5,iv a0),(34,.bool true)] hF fun a hF=>?_
     refine wfn rfl ?_
     refine wpIn_cond_true (hF.get rfl) ?_
     refine esr ?_
     refine rn 1 1 [(4,.bool false)] hF fun a hF=>?_
     refine wfn rfl ?_
     refine wpIn_ret (ret_block <| ret_then <| ret_then <| ret_block <| ret_then <| fn_ret [.tmp 4] [.bool false] hF rfl ⟨rfl,trivial⟩ ?_)
     have hr_:=Option.some.inj h
     subst hr_
     exact ⟨rfl,hS.ext⟩
    ·replace h:=bif_f h a2
     rw [a2] at hF
     replace h:=bindS h
     obtain ⟨aB,aR,h⟩:=h
     obtain ⟨aX,a9,aN⟩:=getI_all2 hA4.2 aR
     obtain ⟨aF,aJ,rfl,b1⟩:=aN
     refine rno 7 [.run [⟨27,false,false⟩] (Instr.indexAt 48 (sv ad1 p0 cap2) (iv a0)) (.pointer (some (slAddr ad1 a0 1))),.run [⟨27,false,false⟩] (Instr.loadAt 43 (.pointer (some (slAddr ad1 a0 1)))) (sv aF aB aJ)] 23 [(0,sv ad1 p0 cap2),(1,iv p1),(5,iv a0),(34,.bool (decide ((ln aB) > 260)))] hF (ocons (obIdxQ (hA4.at (hS.frz (i:=0) rfl hlow)) (by kernel_rfl) (fun _=>a9)) (ocons (obElQ (i:=a0) 0 (fN_len 1) (fun _ hd=>(hA4.at ((hS.at_ hd).frz (i:=0) rfl hlow))) (by kernel_rfl) (fun _=>a9) rfl) onil)) fun a hF=>?_
     refine wfn rfl ?_
     refine econd hF rfl (fun hc=>?_) (fun hc=>?_)
     ·replace h:=bif_t h hc
      refine esr ?_
      refine rn 1 1 [(4,.bool false)] hF fun a hF=>?_
      refine wfn rfl ?_
      refine wpIn_ret (ret_block <| ret_then <| ret_then <| ret_block <| ret_then <| fn_ret [.tmp 4] [.bool false] hF rfl ⟨rfl,trivial⟩ ?_)
      have hr_:=Option.some.inj h
      subst hr_
      exact ⟨rfl,hS.ext⟩
     ·replace h:=bif_f h hc
      refine wpIn_skip (norm_block <| norm_then <| ?_)
      refine WI.region ?_
      replace h:=bindS h
      obtain ⟨a5,aT,h⟩:=h
      refine rno 3 [.run [] (binOp .add 3 (iv a0) (iv 1)) (iv a5)] 3 [(0,sv ad1 p0 cap2),(1,iv p1),(5,iv a5)] hF (ocons (obAddC (fun _=>aT)) onil) fun a hF=>?_
      refine wfn rfl ?_
      rw [hk2] at h
      exact ⟨nk2,Nat.lt_succ_self _,a5,hF.sub (by kernel_rfl),St.pick [0] (by decide) hS,h⟩
   ·replace h:=bif_f h a1
    rw [a1] at hF
    refine skip_ 9 [(0,sv ad1 p0 cap2),(1,iv p1),(5,iv a0),(19,.bool false),(20,undef)] hF (by kernel_rfl) ⟨by kernel_rfl⟩ ⟨by kernel_rfl⟩ rfl fun a hF=>?_
    refine skip_ 10 [(0,sv ad1 p0 cap2),(1,iv p1),(5,iv a0),(19,.bool false),(20,undef),(21,undef)] hF (by kernel_rfl) ⟨by kernel_rfl⟩ ⟨by kernel_rfl⟩ rfl fun a hF=>?_
    refine skip_ 11 [(0,sv ad1 p0 cap2),(1,iv p1),(5,iv a0),(19,.bool false),(22,undef)] hF (by kernel_rfl) ⟨by kernel_rfl⟩ ⟨by kernel_rfl⟩ rfl fun a hF=>?_
    refine skip_ 12 [(0,sv ad1 p0 cap2),(1,iv p1),(5,iv a0),(19,.bool false),(23,undef)] hF (by kernel_rfl) ⟨by kernel_rfl⟩ ⟨by kernel_rfl⟩ rfl fun a hF=>?_
    refine skip_ 13 [(0,sv ad1 p0 cap2),(1,iv p1),(5,iv a0),(19,.bool false),(24,undef)] hF (by kernel_rfl) ⟨by kernel_rfl⟩ ⟨by kernel_rfl⟩ rfl fun a hF=>?_
    refine skip_ 14 [(0,sv ad1 p0 cap2),(1,iv p1),(5,iv a0),(19,.bool false),(25,undef)] hF (by kernel_rfl) ⟨by kernel_rfl⟩ ⟨by kernel_rfl⟩ rfl fun a hF=>?_
    refine rn 2 16 [(0,sv ad1 p0 cap2),(1,iv p1),(5,iv a0),(27,.bool false)] hF fun a hF=>?_
    replace h:=bindS h
    obtain ⟨aC,aS,h⟩:=h
    obtain ⟨aY,aA,aO⟩:=getI_all2 hA4.2 aS
    obtain ⟨aG,aK,rfl,b2⟩:=aO
    refine rno 7 [.run [⟨27,false,false⟩] (Instr.indexAt 48 (sv ad1 p0 cap2) (iv a0)) (.pointer (some (slAddr ad1 a0 1))),.run [⟨27,false,false⟩] (Instr.loadAt 43 (.pointer (some (slAddr ad1 a0 1)))) (sv aG aC aK)] 23 [(0,sv ad1 p0 cap2),(1,iv p1),(5,iv a0),(34,.bool (decide ((ln aC) > 260)))] hF (ocons (obIdxQ (hA4.at (hS.frz (i:=0) rfl hlow)) (by kernel_rfl) (fun _=>aA)) (ocons (obElQ (i:=a0) 0 (fN_len 1) (fun _ hd=>(hA4.at ((hS.at_ hd).frz (i:=0) rfl hlow))) (by kernel_rfl) (fun _=>aA) rfl) onil)) fun a hF=>?_
    refine wfn rfl ?_
    refine econd hF rfl (fun hc=>?_) (fun hc=>?_)
    ·replace h:=bif_t h hc
     refine esr ?_
     refine rn 1 1 [(4,.bool false)] hF fun a hF=>?_
     refine wfn rfl ?_
     refine wpIn_ret (ret_block <| ret_then <| ret_then <| ret_block <| ret_then <| fn_ret [.tmp 4] [.bool false] hF rfl ⟨rfl,trivial⟩ ?_)
     have hr_:=Option.some.inj h
     subst hr_
     exact ⟨rfl,hS.ext⟩
    ·replace h:=bif_f h hc
     refine wpIn_skip (norm_block <| norm_then <| ?_)
     refine WI.region ?_
     replace h:=bindS h
     obtain ⟨a6,aU,h⟩:=h
     refine rno 3 [.run [] (binOp .add 3 (iv a0) (iv 1)) (iv a6)] 3 [(0,sv ad1 p0 cap2),(1,iv p1),(5,iv a6)] hF (ocons (obAddC (fun _=>aU)) onil) fun a hF=>?_
     refine wfn rfl ?_
     rw [hk2] at h
     exact ⟨nk2,Nat.lt_succ_self _,a6,hF.sub (by kernel_rfl),St.pick [0] (by decide) hS,h⟩
  ·replace h:=bif_f h hc
   refine wpIn_exit (exit_then <| exit_then <| exit_hit <| norm_then ?_)
   exact ⟨hF.sub (by kernel_rfl),St.pick [0] (by decide) hS,h⟩
 rintro a w ⟨hF,hS,h⟩
 rw [law03_few_K1] at h
 refine esr ?_
 refine rn 1 1 [(4,.bool true)] hF fun a hF=>?_
 refine wfn rfl ?_
 refine wpIn_ret (fn_ret [.tmp 4] [.bool true] hF rfl ⟨rfl,trivial⟩ ?_)
 have hr_:=Option.some.inj h
 subst hr_
 exact ⟨rfl,hS.ext⟩
theorem ref03_limits_ok (p0 : Int) (p1 : Int) (res : Int) (h : ref03_limits p0 p1 = res) (μ : Frz) (w0 : World) (hm : FrzAt μ w0) : Calls Try.prog 72 #[iv p0,iv p1] w0 (fun e w=>e = .returned (iv res)∧Ext w0 w):=by
 obtain ⟨hlow,hS⟩:=hm.init
 have hext:=Frz.ext_refl w0.heap.size μ
 rw [ref03_limits] at h
 refine fn_enterW Try.func72 rfl 19 [(0,iv p0),(1,iv p1)] rfl rfl (by kernel_rfl) fun a w hw hF=>?_
 replace hS : St w0 [fz w0 μ] w:=by rw [hw]; exact hS
 clear hw
 refine esr ?_
 refine rn 1 1 [(0,iv p0),(1,iv p1)] hF fun a hF=>?_
 refine wfn rfl ?_
 refine eseq ?_
 refine esr ?_
 refine rn 14 14 [(18,.bool (bif (bif (bif (decide (p0 < 0)) then true else (decide (p0 > 400000))) then true else (decide (p1 < 1))) then true else (decide (p1 > 16))))] hF fun a hF=>?_
 refine wfn rfl ?_
 refine econd hF rfl (fun hc=>?_) (fun hc=>?_)
 ·replace h:=bif_t h hc
  refine esr ?_
  refine rn 1 1 [(4,iv 3)] hF fun a hF=>?_
  refine wfn rfl ?_
  refine wpIn_ret (ret_then <| fn_ret [.tmp 4] [iv 3] hF rfl ⟨rfl,trivial⟩ ?_)
  subst h
  exact ⟨rfl,hS.ext⟩
 ·replace h:=bif_f h hc
  refine wpIn_skip (norm_then ?_)
  refine esr ?_
  refine rn 1 1 [(4,iv 0)] hF fun a hF=>?_
  refine wfn rfl ?_
  refine wpIn_ret (fn_ret [.tmp 4] [iv 0] hF rfl ⟨rfl,trivial⟩ ?_)
  subst h
  exact ⟨rfl,hS.ext⟩
end Go.Proofs.Ytbhjgebjojdohaa
