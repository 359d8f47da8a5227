import Derived.Test.YtbhjgebjojdohaaF11XD
import Derived.Test.YtbhjgebjojdohaaProg
import Derived.Test.YtbhjgebjojdohaaF11XW0
import Derived.Test.YtbhjgebjojdohaaF11XW1
namespace Go.Proofs.Ytbhjgebjojdohaa
open Go Go.RowKit Go.Eng
set_option maxRecDepth 10000
set_option maxHeartbeats 4000000
set_option linter.unusedVariables false
set_option linter.unusedSimpArgs false
theorem fold_speeds_meet_ok (F : Nat) (p0 : (List api_Span)) (p1 : (List api_Span)) (res : (List api_Span)) (h : fold_speeds_meet F p0 p1 = some res) (μ : Frz) (w0 : World) (hm : FrzAt μ w0) {ad1 : Option Addr} {cap2 : Nat} {ad4 : Option Addr} {cap5 : Nat} (hA3 : ArrM μ 2 api_Span.cells ad1 cap2 p0) (hA6 : ArrM μ 2 api_Span.cells ad4 cap5 p1) : Calls Try.prog 102 #[sv ad1 p0 cap2,sv ad4 p1 cap5] w0 (fun e w=>∃ zad0 zcap0,e = .returned (sv zad0 res zcap0)∧St w0 [arr 25 2 api_Span.cells zad0 res.length zcap0 res] w):=by
 obtain ⟨hlow,hS⟩:=hm.init
 have hext:=Frz.ext_refl w0.heap.size μ
 rw [fold_speeds_meet] at h
 refine fn_enterW Try.func102 rfl 54 [(0,sv ad1 p0 cap2),(1,sv ad4 p1 cap5)] rfl rfl (by kernel_rfl) fun a w hw hF=>?_
 replace hS : St w0 [fz w0 μ] w:=by rw [hw]; exact hS
 clear hw
 refine esr ?_
 refine rn 1 1 [(0,sv ad1 p0 cap2),(1,sv ad4 p1 cap5)] hF fun a hF=>?_
 refine wfn rfl ?_
 refine esr ?_
 refine rn 1 1 [(0,sv ad1 p0 cap2),(1,sv ad4 p1 cap5),(5,.slice none 0 0)] hF fun a hF=>?_
 refine wfn rfl ?_
 refine ecut (fun a w=>∃ (a7 : (List api_Span)) (aF : Option Addr) (aG : Nat),Fr 54 [] [(5,sv aF a7 aG)] a∧St w0 [arr 25 2 api_Span.cells aF a7.length aG a7,fz w0 μ] w∧fold_speeds_meet_K1 F a7 = some res) ?_ ?_
 ·skip
  refine esr ?_
  refine rn 2 2 [(0,sv ad1 p0 cap2),(1,sv ad4 p1 cap5),(5,.slice none 0 0),(6,iv 0),(7,iv 0)] hF fun a hF=>?_
  refine wfn rfl ?_
  refine wpIn_block ?_
  replace hS:=hS.nilarr 25 2 api_Span.cells
  refine eloop (fun n_ a w=>∃ (a4 : (List api_Span)) (a2 : Int) (a3 : Int) (a5 : Option Addr) (a6 : Nat),Fr 54 [] [(0,sv ad1 p0 cap2),(1,sv ad4 p1 cap5),(5,sv a5 a4 a6),(6,iv a2),(7,iv a3)] a∧St w0 [arr 25 2 api_Span.cells a5 a4.length a6 a4,fz w0 μ] w∧fold_speeds_meet_L2 F p0 p1 n_ a4 a2 a3 = some res) F ⟨[],0,0,none,0,hF.sub (by kernel_rfl),St.pick [0,1] (by decide) hS,h⟩ ?_
  rintro nk2 a w ⟨a4,a2,a3,a5,a6,hF,hS,h⟩
  rcases nk2 with _ | nk2
  ·cases (show (none : Option (List api_Span)) = some res from h)
  obtain ⟨k2,hk2⟩ : ∃ k,k = fold_speeds_meet_L2 F p0 p1 nk2:=⟨_,rfl⟩
  replace h : fold_speeds_meet_B2 F p0 p1 k2 a4 a2 a3 = some res:=by rw [hk2]; exact h
  rw [fold_speeds_meet_B2] at h
  refine eseq ?_
  refine esr ?_
  refine rn 10 10 [(0,sv ad1 p0 cap2),(1,sv ad4 p1 cap5),(5,sv a5 a4 a6),(6,iv a2),(7,iv a3),(19,.bool (bif (decide (a2 < (ln p0))) then (decide (a3 < (ln p1))) else false))] hF fun a hF=>?_
  refine wfn rfl ?_
  refine econd hF rfl (fun hc=>?_) (fun hc=>?_)
  ·replace h:=bif_t h hc
   refine wpIn_skip (norm_then ?_)
   refine wpIn_block ?_
   refine ecut (fun a w=>∃ (a8 : (List api_Span)) (aA : Option Addr) (aC : Nat),Fr 54 [] [(0,sv ad1 p0 cap2),(1,sv ad4 p1 cap5),(5,sv aA a8 aC),(6,iv a2),(7,iv a3)] a∧St w0 [arr 25 2 api_Span.cells aA a8.length aC a8,fz w0 μ] w∧fold_speeds_meet_K3 p0 p1 a2 a3 k2 a8 = some res) ?_ ?_
   ·skip
    refine eseq ?_
    replace h:=bindS h
    obtain ⟨a0,aR,h⟩:=h
    replace h:=bindS h
    obtain ⟨a1,aS,h⟩:=h
    refine region_treeW 15 [8,12,13] (fun a w=>∃ (aH : Nat),Fr 54 [] [(0,sv ad1 p0 cap2),(1,sv ad4 p1 cap5),(5,sv a5 a4 a6),(6,iv a2),(7,iv a3),(8,pb aH),(9,.bool ((fold_common a0 a1).2))] a∧St w0 [blk aH 25 #[iv (((fold_common a0 a1).1).Lo),iv (((fold_common a0 a1).1).Hi)],arr 25 2 api_Span.cells a5 a4.length a6 a4,fz w0 μ] w) (D:=fun w=>St w0 [arr 25 2 api_Span.cells a5 a4.length a6 a4] w∧FrzAt μ w) (by kernel_rfl) (by kernel_rfl) hF.size (fun w hx=>?_) ?_
    ·skip
     replace hS:=hS.later hx
     refine ⟨⟨St.pick [0] (by decide) hS,hS.frz (i:=1) rfl hlow⟩,?_⟩
     have b2:=Frz.le_refl μ
     refine WT.s [0,1,2,3,4,5,6,7] [8,12] (by kernel_rfl) (by kernel_rfl) ?_
     refine runC (rest:=[]) (obs:=[.run [] (Instr.indexAt 132 (sv ad1 p0 cap2) (iv a2)) (.pointer (some (slAddr ad1 a2 2))),.run [] (Instr.loadAt 25 (.pointer (some (slAddr ad1 a2 2)))) (.agg #[iv a0.Lo,iv a0.Hi]),.run [] (Instr.indexAt 132 (sv ad4 p1 cap5) (iv a3)) (.pointer (some (slAddr ad4 a3 2))),.run [] (Instr.loadAt 25 (.pointer (some (slAddr ad4 a3 2)))) (.agg #[iv a1.Lo,iv a1.Hi])]) [0,1,2,3,4,5,6,7] [(0,sv ad1 p0 cap2),(1,sv ad4 p1 cap5),(5,sv a5 a4 a6),(6,iv a2),(7,iv a3),(24,.agg #[iv a0.Lo,iv a0.Hi]),(28,.agg #[iv a1.Lo,iv a1.Hi])] hF (by kernel_rfl) (by kernel_rfl) (ocons (obIdxQ (hA3 _ (hS.frz (i:=1) rfl hlow)) (by kernel_rfl) (fun _=>aR)) (ocons (obElNQ (m:=2) (i:=a2) (us:=[iv a0.Lo,iv a0.Hi]) 0 api_Span.cells_len (fun _ hd=>(hA3 _ hd.2)) (by kernel_rfl) (fun _=>aR) ⟨rfl,rfl⟩) (ocons (obIdxQ (hA6 _ (hS.frz (i:=1) rfl hlow)) (by kernel_rfl) (fun _=>aS)) (ocons (obElNQ (m:=2) (i:=a3) (us:=[iv a1.Lo,iv a1.Hi]) 0 api_Span.cells_len (fun _ hd=>(hA6 _ hd.2)) (by kernel_rfl) (fun _=>aS) ⟨rfl,rfl⟩) onil)))) ⟨by kernel_rfl⟩ fun a hF=>?_
     refine WRun.fin ?_
     refine all_cons ?_ (all_cons ?_ (all_nil))
     ·skip
      refine callK (f:=92) (args:=#[.agg #[iv a0.Lo,iv a0.Hi],.agg #[iv a1.Lo,iv a1.Hi]]) (R:=fun v w2=>v = .tuple #[.agg #[iv (((fold_common a0 a1).1).Lo),iv (((fold_common a0 a1).1).Hi)],.bool ((fold_common a0 a1).2)]∧Ext w w2) (fun aW=>[(0,sv ad1 p0 cap2),(1,sv ad4 p1 cap5),(5,sv a5 a4 a6),(6,iv a2),(7,iv a3),(29,aW)]) hF (by kernel_rfl) ⟨by kernel_rfl⟩ (Calls.mono (fold_common_ok a0 a1 _ rfl (memOf w) w (memOf_at w)) (fun e w2 h=>⟨_,h.1,rfl,h.2⟩)) (fun _=>⟨by kernel_rfl⟩) ?_
      rintro aW w a ⟨rfl,hx⟩ hF
      replace hS:=hS.later hx
      refine ⟨⟨St.pick [0] (by decide) hS,(hS.frz (i:=1) rfl hlow)⟩,?_⟩
      refine WT.s [9,10,11] [12] (by kernel_rfl) (by kernel_rfl) ?_
      refine runC (rest:=[]) (obs:=[]) [9,10,11] [(0,sv ad1 p0 cap2),(1,sv ad4 p1 cap5),(5,sv a5 a4 a6),(6,iv a2),(7,iv a3),(30,.agg #[iv (((fold_common a0 a1).1).Lo),iv (((fold_common a0 a1).1).Hi)]),(31,.bool ((fold_common a0 a1).2))] hF (by kernel_rfl) (by kernel_rfl) onil ⟨by kernel_rfl⟩ fun a hF=>?_
      refine WRun.fin ?_
      refine all_cons ?_ (all_nil)
      refine allocK (t:=25) (fun aI=>[(0,sv ad1 p0 cap2),(1,sv ad4 p1 cap5),(5,sv a5 a4 a6),(6,iv a2),(7,iv a3),(8,pb aI),(30,.agg #[iv (((fold_common a0 a1).1).Lo),iv (((fold_common a0 a1).1).Hi)]),(31,.bool ((fold_common a0 a1).2))]) #[iv 0,iv 0] hF hS (by kernel_rfl) ⟨by kernel_rfl⟩ (by kernel_rfl) (fun _=>⟨by kernel_rfl⟩) fun aI w a hF hS=>⟨⟨St.pick [1] (by decide) hS,(hS.frz (i:=2) rfl hlow)⟩,?_⟩
      refine WT.s [] [13] (by kernel_rfl) (by kernel_rfl) ?_
      refine WRun.fin ?_
      refine all_cons ?_ (all_nil)
      refine storeK (t:=25) [(0,sv ad1 p0 cap2),(1,sv ad4 p1 cap5),(5,sv a5 a4 a6),(6,iv a2),(7,iv a3),(8,pb aI),(31,.bool ((fold_common a0 a1).2))] 0 0 (.agg #[iv (((fold_common a0 a1).1).Lo),iv (((fold_common a0 a1).1).Hi)]) #[iv (((fold_common a0 a1).1).Lo),iv (((fold_common a0 a1).1).Hi)] hF hS rfl (by kernel_rfl) ⟨by kernel_rfl⟩ (by kernel_rfl) (by kernel_rfl) (by kernel_rfl) (by kernel_rfl) ⟨by kernel_rfl⟩ fun w a hF hS=>⟨⟨St.pick [1] (by decide) hS,(hS.frz (i:=2) rfl hlow)⟩,?_⟩
      refine WT.z [14] (by kernel_rfl) ?_
      refine runC (rest:=[]) (obs:=[]) [14] [(0,sv ad1 p0 cap2),(1,sv ad4 p1 cap5),(5,sv a5 a4 a6),(6,iv a2),(7,iv a3),(8,pb aI),(9,.bool ((fold_common a0 a1).2))] hF (by kernel_rfl) (by kernel_rfl) onil ⟨by kernel_rfl⟩ fun a hF=>?_
      refine WRun.fin ?_
      exact ⟨aI,hF.sub (by kernel_rfl),St.pick [0,1,2] (by decide) hS⟩
     ·skip
      refine allocK (t:=25) (fun aD=>[(0,sv ad1 p0 cap2),(1,sv ad4 p1 cap5),(5,sv a5 a4 a6),(6,iv a2),(7,iv a3),(8,pb aD),(24,.agg #[iv a0.Lo,iv a0.Hi]),(28,.agg #[iv a1.Lo,iv a1.Hi])]) #[iv 0,iv 0] hF hS (by kernel_rfl) ⟨by kernel_rfl⟩ (by kernel_rfl) (fun _=>⟨by kernel_rfl⟩) fun aD w a hF hS=>⟨⟨St.pick [1] (by decide) hS,(hS.frz (i:=2) rfl hlow)⟩,?_⟩
      refine WT.s [] [8] (by kernel_rfl) (by kernel_rfl) ?_
      refine WRun.fin ?_
      refine all_cons ?_ (all_nil)
      refine callK (f:=92) (args:=#[.agg #[iv a0.Lo,iv a0.Hi],.agg #[iv a1.Lo,iv a1.Hi]]) (R:=fun v w2=>v = .tuple #[.agg #[iv (((fold_common a0 a1).1).Lo),iv (((fold_common a0 a1).1).Hi)],.bool ((fold_common a0 a1).2)]∧Ext w w2) (fun aX=>[(0,sv ad1 p0 cap2),(1,sv ad4 p1 cap5),(5,sv a5 a4 a6),(6,iv a2),(7,iv a3),(8,pb aD),(29,aX)]) hF (by kernel_rfl) ⟨by kernel_rfl⟩ (Calls.mono (fold_common_ok a0 a1 _ rfl (memOf w) w (memOf_at w)) (fun e w2 h=>⟨_,h.1,rfl,h.2⟩)) (fun _=>⟨by kernel_rfl⟩) ?_
      rintro aX w a ⟨rfl,hx⟩ hF
      replace hS:=hS.later hx
      refine ⟨⟨St.pick [1] (by decide) hS,(hS.frz (i:=2) rfl hlow)⟩,?_⟩
      refine WT.s [9,10,11] [13] (by kernel_rfl) (by kernel_rfl) ?_
      refine runC (rest:=[]) (obs:=[]) [9,10,11] [(0,sv ad1 p0 cap2),(1,sv ad4 p1 cap5),(5,sv a5 a4 a6),(6,iv a2),(7,iv a3),(8,pb aD),(30,.agg #[iv (((fold_common a0 a1).1).Lo),iv (((fold_common a0 a1).1).Hi)]),(31,.bool ((fold_common a0 a1).2))] hF (by kernel_rfl) (by kernel_rfl) onil ⟨by kernel_rfl⟩ fun a hF=>?_
      refine WRun.fin ?_
      refine all_cons ?_ (all_nil)
      refine storeK (t:=25) [(0,sv ad1 p0 cap2),(1,sv ad4 p1 cap5),(5,sv a5 a4 a6),(6,iv a2),(7,iv a3),(8,pb aD),(31,.bool ((fold_common a0 a1).2))] 0 0 (.agg #[iv (((fold_common a0 a1).1).Lo),iv (((fold_common a0 a1).1).Hi)]) #[iv (((fold_common a0 a1).1).Lo),iv (((fold_common a0 a1).1).Hi)] hF hS rfl (by kernel_rfl) ⟨by kernel_rfl⟩ (by kernel_rfl) (by kernel_rfl) (by kernel_rfl) (by kernel_rfl) ⟨by kernel_rfl⟩ fun w a hF hS=>⟨⟨St.pick [1] (by decide) hS,(hS.frz (i:=2) rfl hlow)⟩,?_⟩
      refine WT.z [14] (by kernel_rfl) ?_
      refine runC (rest:=[]) (obs:=[]) [14] [(0,sv ad1 p0 cap2),(1,sv ad4 p1 cap5),(5,sv a5 a4 a6),(6,iv a2),(7,iv a3),(8,pb aD),(9,.bool ((fold_common a0 a1).2))] hF (by kernel_rfl) (by kernel_rfl) onil ⟨by kernel_rfl⟩ fun a hF=>?_
      refine WRun.fin ?_
      exact ⟨aD,hF.sub (by kernel_rfl),St.pick [0,1,2] (by decide) hS⟩
    rintro a w ⟨aH,hF,hS⟩
    refine wfn rfl ?_
    refine esr ?_
    refine rn 1 1 [(0,sv ad1 p0 cap2),(1,sv ad4 p1 cap5),(5,sv a5 a4 a6),(6,iv a2),(7,iv a3),(8,pb aH),(32,.bool ((fold_common a0 a1).2))] hF fun a hF=>?_
    refine wfn rfl ?_
    refine econd hF rfl (fun hc=>?_) (fun hc=>?_)
    ·replace h:=bif_t h hc
     refine WI.region ?_
     refine rno 2 [.run [] (Instr.loadAt 25 (pb aH)) (.agg #[iv (((fold_common a0 a1).1).Lo),iv (((fold_common a0 a1).1).Hi)])] 2 [(0,sv ad1 p0 cap2),(1,sv ad4 p1 cap5),(5,sv a5 a4 a6),(6,iv a2),(7,iv a3),(33,sv a5 a4 a6),(34,.agg #[iv (((fold_common a0 a1).1).Lo),iv (((fold_common a0 a1).1).Hi)])] hF (ocons (obN (us:=[iv (((fold_common a0 a1).1).Lo),iv (((fold_common a0 a1).1).Hi)]) (by kernel_rfl) (fun _ hd=>((hS.at_ hd).blk (i:=0) rfl).cells rfl)) onil) fun a hF=>?_
     refine SK.wi (litK (e:=25) (sz:=2) (f:=api_Span.cells) (t:=132) (len:=1) (fun aO=>[(0,sv ad1 p0 cap2),(1,sv ad4 p1 cap5),(5,sv a5 a4 a6),(6,iv a2),(7,iv a3),(33,sv a5 a4 a6),(35,sb aO 1)]) #[(0,.agg #[iv (((fold_common a0 a1).1).Lo),iv (((fold_common a0 a1).1).Hi)])] #[iv (((fold_common a0 a1).1).Lo),iv (((fold_common a0 a1).1).Hi)] ([(api_Span.mk (((fold_common a0 a1).1).Lo) (((fold_common a0 a1).1).Hi))]) hF hS (by kernel_rfl) ⟨by kernel_rfl⟩ (by kernel_rfl) api_Span.cells_len rfl rfl (by kernel_rfl) (fun _=>⟨by kernel_rfl⟩) fun aO w a hF hS=>?_)
     replace h:=bindS h
     obtain ⟨aL,aY,h⟩:=h
     refine SK.wi (appK (t:=132) (ty:=132) (bytes:=16) (l:=a4) (l':=([(api_Span.mk (((fold_common a0 a1).1).Lo) (((fold_common a0 a1).1).Hi))])) (fun aJ aK=>[(0,sv ad1 p0 cap2),(1,sv ad4 p1 cap5),(5,sv a5 a4 a6),(6,iv a2),(7,iv a3),(36,sv aJ aL aK)]) 2 hF hS rfl (by kernel_rfl) ⟨by kernel_rfl⟩ (by kernel_rfl) (hS.arr (i:=0) rfl) (fun _ _=>rfl) aY (fun _ _=>⟨by kernel_rfl⟩) fun aJ aK w a hF hS=>?_)
     refine rn 1 5 [(0,sv ad1 p0 cap2),(1,sv ad4 p1 cap5),(5,sv aJ aL aK),(6,iv a2),(7,iv a3)] hF fun a hF=>?_
     refine wfn rfl ?_
     exact ⟨aL,aJ,aK,hF.sub (by kernel_rfl),St.pick [2,3] (by decide) hS,h⟩
    ·replace h:=bif_f h hc
     refine wpIn_skip (norm_then ?_)
     exact ⟨a4,a5,a6,hF.sub (by kernel_rfl),St.pick [1,2] (by decide) hS,h⟩
   rintro a w ⟨a8,aA,aC,hF,hS,h⟩
   rw [fold_speeds_meet_K3] at h
   refine eseq ?_
   replace h:=bindS h
   obtain ⟨aT,aP,h⟩:=h
   replace h:=bindS h
   obtain ⟨aU,aQ,h⟩:=h
   refine runD (obs:=[.run [] (Instr.indexAt 132 (sv ad1 p0 cap2) (iv a2)) (.pointer (some (slAddr ad1 a2 2))),.run [] (Instr.loadAt 3 (.pointer (some ((slAddr ad1 a2 2).add 1)))) (iv aT.Hi),.run [] (Instr.indexAt 132 (sv ad4 p1 cap5) (iv a3)) (.pointer (some (slAddr ad4 a3 2))),.run [] (Instr.loadAt 3 (.pointer (some ((slAddr ad4 a3 2).add 1)))) (iv aU.Hi)]) 11 [(0,sv ad1 p0 cap2),(1,sv ad4 p1 cap5),(5,sv aA a8 aC),(6,iv a2),(7,iv a3),(47,.bool (decide (aT.Hi < aU.Hi)))] (by kernel_rfl) hF (by kernel_rfl) (ocons (obIdxQ (hA3 _ (hS.frz (i:=1) rfl hlow)) (by kernel_rfl) (fun _=>aP)) (ocons (obElQ (i:=a2) 1 api_Span.cells_len (fun _ hd=>(hA3 _ ((hS.later hd).frz (i:=1) rfl hlow))) (by kernel_rfl) (fun _=>aP) rfl) (ocons (obIdxQ (hA6 _ (hS.frz (i:=1) rfl hlow)) (by kernel_rfl) (fun _=>aQ)) (ocons (obElQ (i:=a3) 1 api_Span.cells_len (fun _ hd=>(hA6 _ ((hS.later hd).frz (i:=1) rfl hlow))) (by kernel_rfl) (fun _=>aQ) rfl) onil)))) ⟨by kernel_rfl⟩ fun a w hF hx=>?_
   replace hS:=hS.later hx
   refine wfn rfl ?_
   refine econd hF rfl (fun hc=>?_) (fun hc=>?_)
   ·replace h:=bif_t h hc
    refine WI.region ?_
    replace h:=bindS h
    obtain ⟨aM,aZ,h⟩:=h
    refine rno 3 [.run [] (binOp .add 3 (iv a2) (iv 1)) (iv aM)] 3 [(0,sv ad1 p0 cap2),(1,sv ad4 p1 cap5),(5,sv aA a8 aC),(6,iv aM),(7,iv a3)] hF (ocons (obAddC (fun _=>aZ)) onil) fun a hF=>?_
    refine WI.fin rfl (norm_block <| norm_then <| ?_)
    rw [hk2] at h
    exact ⟨nk2,Nat.lt_succ_self _,a8,aM,a3,aA,aC,hF.sub (by kernel_rfl),St.pick [0,1] (by decide) hS,h⟩
   ·replace h:=bif_f h hc
    refine WI.region ?_
    replace h:=bindS h
    obtain ⟨aN,b0,h⟩:=h
    refine rno 3 [.run [] (binOp .add 3 (iv a3) (iv 1)) (iv aN)] 3 [(0,sv ad1 p0 cap2),(1,sv ad4 p1 cap5),(5,sv aA a8 aC),(6,iv a2),(7,iv aN)] hF (ocons (obAddC (fun _=>b0)) onil) fun a hF=>?_
    refine WI.fin rfl (norm_block <| norm_then <| ?_)
    rw [hk2] at h
    exact ⟨nk2,Nat.lt_succ_self _,a8,a2,aN,aA,aC,hF.sub (by kernel_rfl),St.pick [0,1] (by decide) hS,h⟩
  ·replace h:=bif_f h hc
   refine wpIn_exit (exit_then <| exit_then <| exit_hit <| norm_then ?_)
   exact ⟨a4,a5,a6,hF.sub (by kernel_rfl),St.pick [0,1] (by decide) hS,h⟩
 rintro a w ⟨a7,aF,aG,hF,hS,h⟩
 rw [fold_speeds_meet_K1] at h
 refine esr ?_
 refine rn 1 1 [(52,sv aF a7 aG)] hF fun a hF=>?_
 replace h:=bindS h
 obtain ⟨aE,b1,h⟩:=h
 refine SK.wi (callK (f:=62) (args:=#[sv aF a7 aG]) (R:=fun v w2=>∃ a9 aB,v = sv a9 aE aB∧St w [arr 25 2 api_Span.cells a9 aE.length aB aE] w2) (fun aV=>[(53,aV)]) hF (by kernel_rfl) ⟨by kernel_rfl⟩ (Calls.mono (fold_speeds_united_ok F a7 _ b1 (memOf w) w (memOf_at w) (Arr.toM (hS.arr (i:=0) rfl))) (by rintro e w2 ⟨a9,aB,rfl,h⟩; exact ⟨_,rfl,a9,aB,rfl,h⟩)) (fun _=>⟨by kernel_rfl⟩) ?_)
 rintro aV w a ⟨a9,aB,rfl,hQ⟩ hF
 replace hS : St w0 [arr 25 2 api_Span.cells a9 aE.length aB aE,arr 25 2 api_Span.cells aF a7.length aG a7,fz w0 μ] w:=hS.madeL hQ
 refine rn 1 3 [(4,sv a9 aE aB)] hF fun a hF=>?_
 refine wfn rfl ?_
 refine wpIn_ret (fn_ret [.tmp 4] [sv a9 aE aB] hF rfl ⟨rfl,trivial⟩ ?_)
 have hr_:=Option.some.inj h
 subst hr_
 exact ⟨_,_,rfl,St.pick [0] (by decide) hS⟩
theorem fold_speeds_wide_ok (F : Nat) (p0 : (List api_Span)) (p1 : Int) (res : (List api_Span)) (h : fold_speeds_wide F p0 p1 = some res) (μ : Frz) (w0 : World) (hm : FrzAt μ w0) {ad1 : Option Addr} {cap2 : Nat} (hA3 : ArrM μ 2 api_Span.cells ad1 cap2 p0) : Calls Try.prog 103 #[sv ad1 p0 cap2,iv p1] w0 (fun e w=>∃ zad0 zcap0,e = .returned (sv zad0 res zcap0)∧St w0 [arr 25 2 api_Span.cells zad0 res.length zcap0 res] w):=by
 obtain ⟨hlow,hS⟩:=hm.init
 have hext:=Frz.ext_refl w0.heap.size μ
 rw [fold_speeds_wide] at h
 refine fn_enterW Try.func103 rfl 29 [(0,sv ad1 p0 cap2),(1,iv p1)] rfl rfl (by kernel_rfl) fun a w hw hF=>?_
 replace hS : St w0 [fz w0 μ] w:=by rw [hw]; exact hS
 clear hw
 refine esr ?_
 refine rn 1 1 [(0,sv ad1 p0 cap2),(1,iv p1)] hF fun a hF=>?_
 refine wfn rfl ?_
 refine esr ?_
 refine rn 1 1 [(0,sv ad1 p0 cap2),(1,iv p1),(5,.slice none 0 0)] hF fun a hF=>?_
 refine wfn rfl ?_
 refine ecut (fun a w=>∃ (a5 : (List api_Span)) (a9 : Option Addr) (aA : Nat),Fr 29 [] [(5,sv a9 a5 aA)] a∧St w0 [arr 25 2 api_Span.cells a9 a5.length aA a5,fz w0 μ] w∧fold_speeds_wide_K1 F a5 = some res) ?_ ?_
 ·skip
  refine esr ?_
  refine rn 3 3 [(1,iv p1),(5,.slice none 0 0),(8,sv ad1 p0 cap2),(9,iv (ln p0)),(10,iv 0)] hF fun a hF=>?_
  refine wfn rfl ?_
  refine wpIn_block ?_
  replace hS:=hS.nilarr 25 2 api_Span.cells
  refine eloop (fun n_ a w=>∃ (a0 : Int) (a1 : (List api_Span)) (a3 : Option Addr) (a4 : Nat),Fr 29 [] [(1,iv p1),(5,sv a3 a1 a4),(8,sv ad1 p0 cap2),(9,iv (ln p0)),(10,iv a0)] a∧St w0 [arr 25 2 api_Span.cells a3 a1.length a4 a1,fz w0 μ] w∧fold_speeds_wide_L2 F p0 p1 n_ a0 a1 = some res) F ⟨0,[],none,0,hF.sub (by kernel_rfl),St.pick [0,1] (by decide) hS,h⟩ ?_
  rintro nk2 a w ⟨a0,a1,a3,a4,hF,hS,h⟩
  rcases nk2 with _ | nk2
  ·cases (show (none : Option (List api_Span)) = some res from h)
  obtain ⟨k2,hk2⟩ : ∃ k,k = fold_speeds_wide_L2 F p0 p1 nk2:=⟨_,rfl⟩
  replace h : fold_speeds_wide_B2 F p0 p1 k2 a0 a1 = some res:=by rw [hk2]; exact h
  rw [fold_speeds_wide_B2] at h
  refine esr ?_
  refine rn 1 1 [(1,iv p1),(5,sv a3 a1 a4),(8,sv ad1 p0 cap2),(9,iv (ln p0)),(10,iv a0),(11,.bool (decide (a0 < (ln p0))))] hF fun a hF=>?_
  refine wfn rfl ?_
  refine eseq ?_
  refine econd hF rfl (fun hc=>?_) (fun hc=>?_)
  ·replace h:=bif_t h hc
   refine wpIn_skip (norm_then ?_)
   refine eseq ?_
   refine wpIn_block ?_
   refine esr ?_
   replace h:=bindS h
   obtain ⟨a2,aJ,h⟩:=h
   refine rno 2 [.run [] (Instr.indexAt 132 (sv ad1 p0 cap2) (iv a0)) (.pointer (some (slAddr ad1 a0 2))),.run [] (Instr.loadAt 25 (.pointer (some (slAddr ad1 a0 2)))) (.agg #[iv a2.Lo,iv a2.Hi])] 2 [(1,iv p1),(5,sv a3 a1 a4),(8,sv ad1 p0 cap2),(9,iv (ln p0)),(10,iv a0),(13,.agg #[iv a2.Lo,iv a2.Hi])] hF (ocons (obIdxQ (hA3 _ (hS.frz (i:=1) rfl hlow)) (by kernel_rfl) (fun _=>aJ)) (ocons (obElNQ (m:=2) (i:=a0) (us:=[iv a2.Lo,iv a2.Hi]) 0 api_Span.cells_len (fun _ hd=>(hA3 _ ((hS.at_ hd).frz (i:=1) rfl hlow))) (by kernel_rfl) (fun _=>aJ) ⟨rfl,rfl⟩) onil)) fun a hF=>?_
   refine SK.wi (allocK (t:=25) (fun aE=>[(1,iv p1),(5,sv a3 a1 a4),(7,pb aE),(8,sv ad1 p0 cap2),(9,iv (ln p0)),(10,iv a0),(13,.agg #[iv a2.Lo,iv a2.Hi])]) #[iv 0,iv 0] hF hS (by kernel_rfl) ⟨by kernel_rfl⟩ (by kernel_rfl) (fun _=>⟨by kernel_rfl⟩) fun aE w a hF hS=>?_)
   refine SK.wi (storeK (t:=25) [(1,iv p1),(5,sv a3 a1 a4),(7,pb aE),(8,sv ad1 p0 cap2),(9,iv (ln p0)),(10,iv a0)] 0 0 (.agg #[iv a2.Lo,iv a2.Hi]) #[iv a2.Lo,iv a2.Hi] hF hS rfl (by kernel_rfl) ⟨by kernel_rfl⟩ (by kernel_rfl) (by kernel_rfl) (by kernel_rfl) (by kernel_rfl) ⟨by kernel_rfl⟩ fun w a hF hS=>?_)
   refine wfn rfl ?_
   refine WI.region ?_
   replace h:=bindS h
   obtain ⟨aB,aM,h⟩:=h
   replace h:=bindS h
   obtain ⟨aC,aN,h⟩:=h
   refine rno 10 [.run [] (Instr.loadAt 3 (pb aE)) (iv a2.Lo),.run [] (binOp .sub 3 (iv a2.Lo) (iv p1)) (iv aB),.run [] (Instr.loadAt 3 (.pointer (some ⟨aE,1,none⟩))) (iv a2.Hi),.run [] (binOp .add 3 (iv a2.Hi) (iv p1)) (iv aC)] 10 [(1,iv p1),(5,sv a3 a1 a4),(8,sv ad1 p0 cap2),(9,iv (ln p0)),(10,iv a0),(14,sv a3 a1 a4),(23,.agg #[iv aB,iv aC])] hF (ocons (ob1 (by kernel_rfl) (fun _ hd=>(hS.at_ hd).cell (i:=0) (j:=0) rfl rfl)) (ocons (obSubC (fun _=>aM)) (ocons (ob1 (by kernel_rfl) (fun _ hd=>(hS.at_ hd).cell (i:=0) (j:=1) rfl rfl)) (ocons (obAddC (fun _=>aN)) onil)))) fun a hF=>?_
   refine SK.wi (litK (e:=25) (sz:=2) (f:=api_Span.cells) (t:=132) (len:=1) (fun aI=>[(1,iv p1),(5,sv a3 a1 a4),(8,sv ad1 p0 cap2),(9,iv (ln p0)),(10,iv a0),(14,sv a3 a1 a4),(24,sb aI 1)]) #[(0,.agg #[iv aB,iv aC])] #[iv aB,iv aC] ([(api_Span.mk aB aC)]) hF hS (by kernel_rfl) ⟨by kernel_rfl⟩ (by kernel_rfl) api_Span.cells_len rfl rfl (by kernel_rfl) (fun _=>⟨by kernel_rfl⟩) fun aI w a hF hS=>?_)
   replace h:=bindS h
   obtain ⟨aG,aL,h⟩:=h
   refine SK.wi (appK (t:=132) (ty:=132) (bytes:=16) (l:=a1) (l':=([(api_Span.mk aB aC)])) (fun aD aF=>[(1,iv p1),(5,sv a3 a1 a4),(8,sv ad1 p0 cap2),(9,iv (ln p0)),(10,iv a0),(25,sv aD aG aF)]) 2 hF hS rfl (by kernel_rfl) ⟨by kernel_rfl⟩ (by kernel_rfl) (hS.arr (i:=0) rfl) (fun _ _=>rfl) aL (fun _ _=>⟨by kernel_rfl⟩) fun aD aF w a hF hS=>?_)
   refine rn 1 13 [(1,iv p1),(5,sv aD aG aF),(8,sv ad1 p0 cap2),(9,iv (ln p0)),(10,iv a0)] hF fun a hF=>?_
   refine WI.fin rfl (norm_block <| norm_then <| ?_)
   refine WI.region ?_
   replace h:=bindS h
   obtain ⟨aH,aO,h⟩:=h
   refine rno 2 [.run [] (binOp .add 3 (iv a0) (iv 1)) (iv aH)] 2 [(1,iv p1),(5,sv aD aG aF),(8,sv ad1 p0 cap2),(9,iv (ln p0)),(10,iv aH)] hF (ocons (obAddC (fun _=>aO)) onil) fun a hF=>?_
   refine wfn rfl ?_
   rw [hk2] at h
   exact ⟨nk2,Nat.lt_succ_self _,aH,aG,aD,aF,hF.sub (by kernel_rfl),St.pick [2,3] (by decide) hS,h⟩
  ·replace h:=bif_f h hc
   refine wpIn_exit (exit_then <| exit_then <| exit_hit <| norm_then ?_)
   exact ⟨a1,a3,a4,hF.sub (by kernel_rfl),St.pick [0,1] (by decide) hS,h⟩
 rintro a w ⟨a5,a9,aA,hF,hS,h⟩
 rw [fold_speeds_wide_K1] at h
 refine esr ?_
 refine rn 1 1 [(27,sv a9 a5 aA)] hF fun a hF=>?_
 replace h:=bindS h
 obtain ⟨a8,aP,h⟩:=h
 refine SK.wi (callK (f:=62) (args:=#[sv a9 a5 aA]) (R:=fun v w2=>∃ a6 a7,v = sv a6 a8 a7∧St w [arr 25 2 api_Span.cells a6 a8.length a7 a8] w2) (fun aK=>[(28,aK)]) hF (by kernel_rfl) ⟨by kernel_rfl⟩ (Calls.mono (fold_speeds_united_ok F a5 _ aP (memOf w) w (memOf_at w) (Arr.toM (hS.arr (i:=0) rfl))) (by rintro e w2 ⟨a6,a7,rfl,h⟩; exact ⟨_,rfl,a6,a7,rfl,h⟩)) (fun _=>⟨by kernel_rfl⟩) ?_)
 rintro aK w a ⟨a6,a7,rfl,hQ⟩ hF
 replace hS : St w0 [arr 25 2 api_Span.cells a6 a8.length a7 a8,arr 25 2 api_Span.cells a9 a5.length aA a5,fz w0 μ] w:=hS.madeL hQ
 refine rn 1 3 [(4,sv a6 a8 a7)] hF fun a hF=>?_
 refine wfn rfl ?_
 refine wpIn_ret (fn_ret [.tmp 4] [sv a6 a8 a7] hF rfl ⟨rfl,trivial⟩ ?_)
 have hr_:=Option.some.inj h
 subst hr_
 exact ⟨_,_,rfl,St.pick [0] (by decide) hS⟩
theorem fold_speeds_near_ok (F : Nat) (p0 : (List api_Span)) (p1 : (List api_Span)) (p2 : Int) (res : (List api_Span)) (h : fold_speeds_near F p0 p1 p2 = some res) (μ : Frz) (w0 : World) (hm : FrzAt μ w0) {ad1 : Option Addr} {cap2 : Nat} {ad4 : Option Addr} {cap5 : Nat} (hA3 : ArrM μ 2 api_Span.cells ad1 cap2 p0) (hA6 : ArrM μ 2 api_Span.cells ad4 cap5 p1) : Calls Try.prog 69 #[sv ad1 p0 cap2,sv ad4 p1 cap5,iv p2] w0 (fun e w=>∃ zad0 zcap0,e = .returned (sv zad0 res zcap0)∧St w0 [arr 25 2 api_Span.cells zad0 res.length zcap0 res] w):=by
 obtain ⟨hlow,hS⟩:=hm.init
 have hext:=Frz.ext_refl w0.heap.size μ
 rw [fold_speeds_near] at h
 refine fn_enterW Try.func69 rfl 12 [(0,sv ad1 p0 cap2),(1,sv ad4 p1 cap5),(2,iv p2)] rfl rfl (by kernel_rfl) fun a w hw hF=>?_
 replace hS : St w0 [fz w0 μ] w:=by rw [hw]; exact hS
 clear hw
 refine esr ?_
 refine rn 1 1 [(0,sv ad1 p0 cap2),(1,sv ad4 p1 cap5),(2,iv p2)] hF fun a hF=>?_
 refine wfn rfl ?_
 refine esr ?_
 refine rn 3 3 [(7,sv ad1 p0 cap2),(8,sv ad4 p1 cap5),(9,iv p2)] hF fun a hF=>?_
 replace h:=bindS h
 obtain ⟨y8,hy8,h⟩:=h
 refine SK.wi (callK (f:=103) (args:=#[sv ad4 p1 cap5,iv p2]) (R:=fun v w2=>∃ ad9 a1,v = sv ad9 y8 a1∧St w [arr 25 2 api_Span.cells ad9 y8.length a1 y8] w2) (fun v7=>[(7,sv ad1 p0 cap2),(10,v7)]) hF (by kernel_rfl) ⟨by kernel_rfl⟩ (Calls.mono (fold_speeds_wide_ok F p1 p2 _ hy8 (memOf w) w (memOf_at w) (hA6.mono (FrzAt.le_mem (hS.frz (i:=0) rfl hlow)))) (by rintro e w2 ⟨ad9,a1,rfl,h⟩; exact ⟨_,rfl,ad9,a1,rfl,h⟩)) (fun _=>⟨by kernel_rfl⟩) ?_)
 rintro v7 w a ⟨ad9,a1,rfl,hQ⟩ hF
 replace hS : St w0 [arr 25 2 api_Span.cells ad9 y8.length a1 y8,fz w0 μ] w:=hS.madeL hQ
 replace h:=bindS h
 obtain ⟨a3,a5,h⟩:=h
 refine SK.wi (callK (f:=102) (args:=#[sv ad1 p0 cap2,sv ad9 y8 a1]) (R:=fun v w2=>∃ a0 a2,v = sv a0 a3 a2∧St w [arr 25 2 api_Span.cells a0 a3.length a2 a3] w2) (fun a4=>[(11,a4)]) hF (by kernel_rfl) ⟨by kernel_rfl⟩ (Calls.mono (fold_speeds_meet_ok F p0 y8 _ a5 (memOf w) w (memOf_at w) (hA3.mono (FrzAt.le_mem (hS.frz (i:=1) rfl hlow))) (Arr.toM (hS.arr (i:=0) rfl))) (by rintro e w2 ⟨a0,a2,rfl,h⟩; exact ⟨_,rfl,a0,a2,rfl,h⟩)) (fun _=>⟨by kernel_rfl⟩) ?_)
 rintro a4 w a ⟨a0,a2,rfl,hQ⟩ hF
 replace hS : St w0 [arr 25 2 api_Span.cells a0 a3.length a2 a3,arr 25 2 api_Span.cells ad9 y8.length a1 y8,fz w0 μ] w:=hS.madeL hQ
 refine rn 1 6 [(6,sv a0 a3 a2)] hF fun a hF=>?_
 refine wfn rfl ?_
 refine wpIn_ret (fn_ret [.tmp 6] [sv a0 a3 a2] hF rfl ⟨rfl,trivial⟩ ?_)
 have hr_:=Option.some.inj h
 subst hr_
 exact ⟨_,_,rfl,St.pick [0] (by decide) hS⟩
end Go.Proofs.Ytbhjgebjojdohaa
