import Derived.Test.YtbhjgebjojdohaaF6XD
import Derived.Test.YtbhjgebjojdohaaProg
import Derived.Test.YtbhjgebjojdohaaF6XW0
import Derived.Test.YtbhjgebjojdohaaF6XW1
import Derived.Test.YtbhjgebjojdohaaF6XW2
import Derived.Test.YtbhjgebjojdohaaF6XW4
namespace Go.Proofs.Ytbhjgebjojdohaa
open Go Go.RowKit Go.Eng
set_option maxRecDepth 10000
set_option maxHeartbeats 4000000
set_option linter.unusedVariables false
set_option linter.unusedSimpArgs false
theorem fold_speeds_meet_ok (F : Nat) (p0 : (List api_Span)) (p1 : (List api_Span)) (res : (List api_Span)) (h : fold_speeds_meet F p0 p1 = some res) (μ : Frz) (w0 : World) (hm : FrzAt μ w0) {ad1 : Option Addr} {cap2 : Nat} {ad4 : Option Addr} {cap5 : Nat} (hA3 : ArrM μ 2 api_Span.cells ad1 cap2 p0) (hA6 : ArrM μ 2 api_Span.cells ad4 cap5 p1) : Calls Try.prog 102 #[sv ad1 p0 cap2,sv ad4 p1 cap5] w0 (fun e w=>∃ zad0 zcap0,e = .returned (sv zad0 res zcap0)∧St w0 [arr 25 2 api_Span.cells zad0 res.length zcap0 res] w):=by
 obtain ⟨hlow,hS⟩:=hm.init
 have hext:=Frz.ext_refl w0.heap.size μ
 rw [fold_speeds_meet] at h
 refine fn_enterW Try.func102 rfl 54 [(0,sv ad1 p0 cap2),(1,sv ad4 p1 cap5)] rfl rfl (by kernel_rfl) fun a w hw hF=>?_
 replace hS : St w0 [fz w0 μ] w:=by rw [hw]; exact hS
 clear hw
 refine esr ?_
 refine rn 1 1 [(0,sv ad1 p0 cap2),(1,sv ad4 p1 cap5)] hF fun a hF=>?_
 refine wfn rfl ?_
 refine esr ?_
 refine rn 1 1 [(0,sv ad1 p0 cap2),(1,sv ad4 p1 cap5),(5,.slice none 0 0)] hF fun a hF=>?_
 refine wfn rfl ?_
 refine ecut (fun a w=>∃ (a7 : (List api_Span)) (aF : Option Addr) (aG : Nat),Fr 54 [] [(5,sv aF a7 aG)] a∧St w0 [arr 25 2 api_Span.cells aF a7.length aG a7,fz w0 μ] w∧fold_speeds_meet_K1 F a7 = some res) ?_ ?_
 ·skip
  refine esr ?_
  refine rn 2 2 [(0,sv ad1 p0 cap2),(1,sv ad4 p1 cap5),(5,.slice none 0 0),(6,iv 0),(7,iv 0)] hF fun a hF=>?_
  refine wfn rfl ?_
  refine wpIn_block ?_
  replace hS:=hS.nilarr 25 2 api_Span.cells
  refine eloop (fun n_ a w=>∃ (a4 : (List api_Span)) (a2 : Int) (a3 : Int) (a5 : Option Addr) (a6 : Nat),Fr 54 [] [(0,sv ad1 p0 cap2),(1,sv ad4 p1 cap5),(5,sv a5 a4 a6),(6,iv a2),(7,iv a3)] a∧St w0 [arr 25 2 api_Span.cells a5 a4.length a6 a4,fz w0 μ] w∧fold_speeds_meet_L2 F p0 p1 n_ a4 a2 a3 = some res) F ⟨[],0,0,none,0,hF.sub (by kernel_rfl),St.pick [0,1] (by decide) hS,h⟩ ?_
  rintro nk2 a w ⟨a4,a2,a3,a5,a6,hF,hS,h⟩
  rcases nk2 with _ | nk2
  ·cases (show (none : Option (List api_Span)) = some res from h)
  obtain ⟨k2,hk2⟩ : ∃ k,k = fold_speeds_meet_L2 F p0 p1 nk2:=⟨_,rfl⟩
  replace h : fold_speeds_meet_B2 F p0 p1 k2 a4 a2 a3 = some res:=by rw [hk2]; exact h
  rw [fold_speeds_meet_B2] at h
  refine eseq ?_
  refine esr ?_
  refine rn 10 10 [(0,sv ad1 p0 cap2),(1,sv ad4 p1 cap5),(5,sv a5 a4 a6),(6,iv a2),(7,iv a3),(19,.bool (bif (decide (a2 < (ln p0))) then (decide (a3 < (ln p1))) else false))] hF fun a hF=>?_
  refine wfn rfl ?_
  refine econd hF rfl (fun hc=>?_) (fun hc=>?_)
  ·replace h:=bif_t h hc
   refine wpIn_skip (norm_then ?_)
   refine wpIn_block ?_
   refine ecut (fun a w=>∃ (a8 : (List api_Span)) (aA : Option Addr) (aC : Nat),Fr 54 [] [(0,sv ad1 p0 cap2),(1,sv ad4 p1 cap5),(5,sv aA a8 aC),(6,iv a2),(7,iv a3)] a∧St w0 [arr 25 2 api_Span.cells aA a8.length aC a8,fz w0 μ] w∧fold_speeds_meet_K3 p0 p1 a2 a3 k2 a8 = some res) ?_ ?_
   ·skip
    refine eseq ?_
    replace h:=bindS h
    obtain ⟨a0,aR,h⟩:=h
    replace h:=bindS h
    obtain ⟨a1,aS,h⟩:=h
    refine region_treeW 15 [8,12,13] (fun a w=>∃ (aH : Nat),Fr 54 [] [(0,sv ad1 p0 cap2),(1,sv ad4 p1 cap5),(5,sv a5 a4 a6),(6,iv a2),(7,iv a3),(8,pb aH),(9,.bool ((fold_common a0 a1).2))] a∧St w0 [blk aH 25 #[iv (((fold_common a0 a1).1).Lo),iv (((fold_common a0 a1).1).Hi)],arr 25 2 api_Span.cells a5 a4.length a6 a4,fz w0 μ] w) (D:=fun w=>St w0 [arr 25 2 api_Span.cells a5 a4.length a6 a4] w∧FrzAt μ w) (by kernel_rfl) (by kernel_rfl) hF.size (fun w hx=>?_) ?_
    ·skip
     replace hS:=hS.later hx
     refine ⟨⟨St.pick [0] (by decide) hS,hS.frz (i:=1) rfl hlow⟩,?_⟩
     have b2:=Frz.le_refl μ
     refine WT.s [0,1,2,3,4,5,6,7] [8,12] (by kernel_rfl) (by kernel_rfl) ?_
     refine runC (rest:=[]) (obs:=[.run [] (Instr.indexAt 132 (sv ad1 p0 cap2) (iv a2)) (.pointer (some (slAddr ad1 a2 2))),.run [] (Instr.loadAt 25 (.pointer (some (slAddr ad1 a2 2)))) (.agg #[iv a0.Lo,iv a0.Hi]),.run [] (Instr.indexAt 132 (sv ad4 p1 cap5) (iv a3)) (.pointer (some (slAddr ad4 a3 2))),.run [] (Instr.loadAt 25 (.pointer (some (slAddr ad4 a3 2)))) (.agg #[iv a1.Lo,iv a1.Hi])]) [0,1,2,3,4,5,6,7] [(0,sv ad1 p0 cap2),(1,sv ad4 p1 cap5),(5,sv a5 a4 a6),(6,iv a2),(7,iv a3),(24,.agg #[iv a0.Lo,iv a0.Hi]),(28,.agg #[iv a1.Lo,iv a1.Hi])] hF (by kernel_rfl) (by kernel_rfl) (ocons (obIdxQ (hA3 _ (hS.frz (i:=1) rfl hlow)) (by kernel_rfl) (fun _=>aR)) (ocons (obElNQ (m:=2) (i:=a2) (us:=[iv a0.Lo,iv a0.Hi]) 0 api_Span.cells_len (fun _ hd=>(hA3 _ hd.2)) (by kernel_rfl) (fun _=>aR) ⟨rfl,rfl⟩) (ocons (obIdxQ (hA6 _ (hS.frz (i:=1) rfl hlow)) (by kernel_rfl) (fun _=>aS)) (ocons (obElNQ (m:=2) (i:=a3) (us:=[iv a1.Lo,iv a1.Hi]) 0 api_Span.cells_len (fun _ hd=>(hA6 _ hd.2)) (by kernel_rfl) (fun _=>aS) ⟨rfl,rfl⟩) onil)))) ⟨by kernel_rfl⟩ fun a hF=>?_
     refine WRun.fin ?_
     refine all_cons ?_ (all_cons ?_ (all_nil))
     ·skip
      refine callK (f:=92) (args:=#[.agg #[iv a0.Lo,iv a0.Hi],.agg #[iv a1.Lo,iv a1.Hi]]) (R:=fun v w2=>v = .tuple #[.agg #[iv (((fold_common a0 a1).1).Lo),iv (((fold_common a0 a1).1).Hi)],.bool ((fold_common a0 a1).2)]∧Ext w w2) (fun aW=>[(0,sv ad1 p0 cap2),(1,sv ad4 p1 cap5),(5,sv a5 a4 a6),(6,iv a2),(7,iv a3),(29,aW)]) hF (by kernel_rfl) ⟨by kernel_rfl⟩ (Calls.mono (fold_common_ok a0 a1 _ rfl (memOf w) w (memOf_at w)) (fun e w2 h=>⟨_,h.1,rfl,h.2⟩)) (fun _=>⟨by kernel_rfl⟩) ?_
      rintro aW w a ⟨rfl,hx⟩ hF
      replace hS:=hS.later hx
      refine ⟨⟨St.pick [0] (by decide) hS,(hS.frz (i:=1) rfl hlow)⟩,?_⟩
      refine WT.s [9,10,11] [12] (by kernel_rfl) (by kernel_rfl) ?_
      refine runC (rest:=[]) (obs:=[]) [9,10,11] [(0,sv ad1 p0 cap2),(1,sv ad4 p1 cap5),(5,sv a5 a4 a6),(6,iv a2),(7,iv a3),(30,.agg #[iv (((fold_common a0 a1).1).Lo),iv (((fold_common a0 a1).1).Hi)]),(31,.bool ((fold_common a0 a1).2))] hF (by kernel_rfl) (by kernel_rfl) onil ⟨by kernel_rfl⟩ fun a hF=>?_
      refine WRun.fin ?_
      refine all_cons ?_ (all_nil)
      refine allocK (t:=25) (fun aI=>[(0,sv ad1 p0 cap2),(1,sv ad4 p1 cap5),(5,sv a5 a4 a6),(6,iv a2),(7,iv a3),(8,pb aI),(30,.agg #[iv (((fold_common a0 a1).1).Lo),iv (((fold_common a0 a1).1).Hi)]),(31,.bool ((fold_common a0 a1).2))]) #[iv 0,iv 0] hF hS (by kernel_rfl) ⟨by kernel_rfl⟩ (by kernel_rfl) (fun _=>⟨by kernel_rfl⟩) fun aI w a hF hS=>⟨⟨St.pick [1] (by decide) hS,(hS.frz (i:=2) rfl hlow)⟩,?_⟩
      refine WT.s [] [13] (by kernel_rfl) (by kernel_rfl) ?_
      refine WRun.fin ?_
      refine all_cons ?_ (all_nil)
      refine storeK (t:=25) [(0,sv ad1 p0 cap2),(1,sv ad4 p1 cap5),(5,sv a5 a4 a6),(6,iv a2),(7,iv a3),(8,pb aI),(31,.bool ((fold_common a0 a1).2))] 0 0 (.agg #[iv (((fold_common a0 a1).1).Lo),iv (((fold_common a0 a1).1).Hi)]) #[iv (((fold_common a0 a1).1).Lo),iv (((fold_common a0 a1).1).Hi)] hF hS rfl (by kernel_rfl) ⟨by kernel_rfl⟩ (by kernel_rfl) (by kernel_rfl) (by kernel_rfl) (by kernel_rfl) ⟨by kernel_rfl⟩ fun w a hF hS=>⟨⟨St.pick [1] (by decide) hS,(hS.frz (i:=2) rfl hlow)⟩,?_⟩
      refine WT.z [14] (by kernel_rfl) ?_
      refine runC (rest:=[]) (obs:=[]) [14] [(0,sv ad1 p0 cap2),(1,sv ad4 p1 cap5),(5,sv a5 a4 a6),(6,iv a2),(7,iv a3),(8,pb aI),(9,.bool ((fold_common a0 a1).2))] hF (by kernel_rfl) (by kernel_rfl) onil ⟨by kernel_rfl⟩ fun a hF=>?_
      refine WRun.fin ?_
      exact ⟨aI,hF.sub (by kernel_rfl),St.pick [0,1,2] (by decide) hS⟩
     ·skip
      refine allocK (t:=25) (fun aD=>[(0,sv ad1 p0 cap2),(1,sv ad4 p1 cap5),(5,sv a5 a4 a6),(6,iv a2),(7,iv a3),(8,pb aD),(24,.agg #[iv a0.Lo,iv a0.Hi]),(28,.agg #[iv a1.Lo,iv a1.Hi])]) #[iv 0,iv 0] hF hS (by kernel_rfl) ⟨by kernel_rfl⟩ (by kernel_rfl) (fun _=>⟨by kernel_rfl⟩) fun aD w a hF hS=>⟨⟨St.pick [1] (by decide) hS,(hS.frz (i:=2) rfl hlow)⟩,?_⟩
      refine WT.s [] [8] (by kernel_rfl) (by kernel_rfl) ?_
      refine WRun.fin ?_
      refine all_cons ?_ (all_nil)
      refine callK (f:=92) (args:=#[.agg #[iv a0.Lo,iv a0.Hi],.agg #[iv a1.Lo,iv a1.Hi]]) (R:=fun v w2=>v = .tuple #[.agg #[iv (((fold_common a0 a1).1).Lo),iv (((fold_common a0 a1).1).Hi)],.bool ((fold_common a0 a1).2)]∧Ext w w2) (fun aX=>[(0,sv ad1 p0 cap2),(1,sv ad4 p1 cap5),(5,sv a5 a4 a6),(6,iv a2),(7,iv a3),(8,pb aD),(29,aX)]) hF (by kernel_rfl) ⟨by kernel_rfl⟩ (Calls.mono (fold_common_ok a0 a1 _ rfl (memOf w) w (memOf_at w)) (fun e w2 h=>⟨_,h.1,rfl,h.2⟩)) (fun _=>⟨by kernel_rfl⟩) ?_
      rintro aX w a ⟨rfl,hx⟩ hF
      replace hS:=hS.later hx
      refine ⟨⟨St.pick [1] (by decide) hS,(hS.frz (i:=2) rfl hlow)⟩,?_⟩
      refine WT.s [9,10,11] [13] (by kernel_rfl) (by kernel_rfl) ?_
      refine runC (rest:=[]) (obs:=[]) [9,10,11] [(0,sv ad1 p0 cap2),(1,sv ad4 p1 cap5),(5,sv a5 a4 a6),(6,iv a2),(7,iv a3),(8,pb aD),(30,.agg #[iv (((fold_common a0 a1).1).Lo),iv (((fold_common a0 a1).1).Hi)]),(31,.bool ((fold_common a0 a1).2))] hF (by kernel_rfl) (by kernel_rfl) onil ⟨by kernel_rfl⟩ fun a hF=>?_
      refine WRun.fin ?_
      refine all_cons ?_ (all_nil)
      refine storeK (t:=25) [(0,sv ad1 p0 cap2),(1,sv ad4 p1 cap5),(5,sv a5 a4 a6),(6,iv a2),(7,iv a3),(8,pb aD),(31,.bool ((fold_common a0 a1).2))] 0 0 (.agg #[iv (((fold_common a0 a1).1).Lo),iv (((fold_common a0 a1).1).Hi)]) #[iv (((fold_common a0 a1).1).Lo),iv (((fold_common a0 a1).1).Hi)] hF hS rfl (by kernel_rfl) ⟨by kernel_rfl⟩ (by kernel_rfl) (by kernel_rfl) (by kernel_rfl) (by kernel_rfl) ⟨by kernel_rfl⟩ fun w a hF hS=>⟨⟨St.pick [1] (by decide) hS,(hS.frz (i:=2) rfl hlow)⟩,?_⟩
      refine WT.z [14] (by kernel_rfl) ?_
      refine runC (rest:=[]) (obs:=[]) [14] [(0,sv ad1 p0 cap2),(1,sv ad4 p1 cap5),(5,sv a5 a4 a6),(6,iv a2),(7,iv a3),(8,pb aD),(9,.bool ((fold_common a0 a1).2))] hF (by kernel_rfl) (by kernel_rfl) onil ⟨by kernel_rfl⟩ fun a hF=>?_
      refine WRun.fin ?_
      exact ⟨aD,hF.sub (by kernel_rfl),St.pick [0,1,2] (by decide) hS⟩
    rintro a w ⟨aH,hF,hS⟩
    refine wfn rfl ?_
    refine esr ?_
    refine rn 1 1 [(0,sv ad1 p0 cap2),(1,sv ad4 p1 cap5),(5,sv a5 a4 a6),(6,iv a2),(7,iv a3),(8,pb aH),(32,.bool ((fold_common a0 a1).2))] hF fun a hF=>?_
    refine wfn rfl ?_
    refine econd hF rfl (fun hc=>?_) (fun hc=>?_)
    ·replace h:=bif_t h hc
     refine WI.region ?_
     refine rno 2 [.run [] (Instr.loadAt 25 (pb aH)) (.agg #[iv (((fold_common a0 a1).1).Lo),iv (((fold_common a0 a1).1).Hi)])] 2 [(0,sv ad1 p0 cap2),(1,sv ad4 p1 cap5),(5,sv a5 a4 a6),(6,iv a2),(7,iv a3),(33,sv a5 a4 a6),(34,.agg #[iv (((fold_common a0 a1).1).Lo),iv (((fold_common a0 a1).1).Hi)])] hF (ocons (obN (us:=[iv (((fold_common a0 a1).1).Lo),iv (((fold_common a0 a1).1).Hi)]) (by kernel_rfl) (fun _ hd=>((hS.at_ hd).blk (i:=0) rfl).cells rfl)) onil) fun a hF=>?_
     refine SK.wi (litK (e:=25) (sz:=2) (f:=api_Span.cells) (t:=132) (len:=1) (fun aO=>[(0,sv ad1 p0 cap2),(1,sv ad4 p1 cap5),(5,sv a5 a4 a6),(6,iv a2),(7,iv a3),(33,sv a5 a4 a6),(35,sb aO 1)]) #[(0,.agg #[iv (((fold_common a0 a1).1).Lo),iv (((fold_common a0 a1).1).Hi)])] #[iv (((fold_common a0 a1).1).Lo),iv (((fold_common a0 a1).1).Hi)] ([(api_Span.mk (((fold_common a0 a1).1).Lo) (((fold_common a0 a1).1).Hi))]) hF hS (by kernel_rfl) ⟨by kernel_rfl⟩ (by kernel_rfl) api_Span.cells_len rfl rfl (by kernel_rfl) (fun _=>⟨by kernel_rfl⟩) fun aO w a hF hS=>?_)
     replace h:=bindS h
     obtain ⟨aL,aY,h⟩:=h
     refine SK.wi (appK (t:=132) (ty:=132) (bytes:=16) (l:=a4) (l':=([(api_Span.mk (((fold_common a0 a1).1).Lo) (((fold_common a0 a1).1).Hi))])) (fun aJ aK=>[(0,sv ad1 p0 cap2),(1,sv ad4 p1 cap5),(5,sv a5 a4 a6),(6,iv a2),(7,iv a3),(36,sv aJ aL aK)]) 2 hF hS rfl (by kernel_rfl) ⟨by kernel_rfl⟩ (by kernel_rfl) (hS.arr (i:=0) rfl) (fun _ _=>rfl) aY (fun _ _=>⟨by kernel_rfl⟩) fun aJ aK w a hF hS=>?_)
     refine rn 1 5 [(0,sv ad1 p0 cap2),(1,sv ad4 p1 cap5),(5,sv aJ aL aK),(6,iv a2),(7,iv a3)] hF fun a hF=>?_
     refine wfn rfl ?_
     exact ⟨aL,aJ,aK,hF.sub (by kernel_rfl),St.pick [2,3] (by decide) hS,h⟩
    ·replace h:=bif_f h hc
     refine wpIn_skip (norm_then ?_)
     exact ⟨a4,a5,a6,hF.sub (by kernel_rfl),St.pick [1,2] (by decide) hS,h⟩
   rintro a w ⟨a8,aA,aC,hF,hS,h⟩
   rw [fold_speeds_meet_K3] at h
   refine eseq ?_
   replace h:=bindS h
   obtain ⟨aT,aP,h⟩:=h
   replace h:=bindS h
   obtain ⟨aU,aQ,h⟩:=h
   refine runD (obs:=[.run [] (Instr.indexAt 132 (sv ad1 p0 cap2) (iv a2)) (.pointer (some (slAddr ad1 a2 2))),.run [] (Instr.loadAt 3 (.pointer (some ((slAddr ad1 a2 2).add 1)))) (iv aT.Hi),.run [] (Instr.indexAt 132 (sv ad4 p1 cap5) (iv a3)) (.pointer (some (slAddr ad4 a3 2))),.run [] (Instr.loadAt 3 (.pointer (some ((slAddr ad4 a3 2).add 1)))) (iv aU.Hi)]) 11 [(0,sv ad1 p0 cap2),(1,sv ad4 p1 cap5),(5,sv aA a8 aC),(6,iv a2),(7,iv a3),(47,.bool (decide (aT.Hi < aU.Hi)))] (by kernel_rfl) hF (by kernel_rfl) (ocons (obIdxQ (hA3 _ (hS.frz (i:=1) rfl hlow)) (by kernel_rfl) (fun _=>aP)) (ocons (obElQ (i:=a2) 1 api_Span.cells_len (fun _ hd=>(hA3 _ ((hS.later hd).frz (i:=1) rfl hlow))) (by kernel_rfl) (fun _=>aP) rfl) (ocons (obIdxQ (hA6 _ (hS.frz (i:=1) rfl hlow)) (by kernel_rfl) (fun _=>aQ)) (ocons (obElQ (i:=a3) 1 api_Span.cells_len (fun _ hd=>(hA6 _ ((hS.later hd).frz (i:=1) rfl hlow))) (by kernel_rfl) (fun _=>aQ) rfl) onil)))) ⟨by kernel_rfl⟩ fun a w hF hx=>?_
   replace hS:=hS.later hx
   refine wfn rfl ?_
   refine econd hF rfl (fun hc=>?_) (fun hc=>?_)
   ·replace h:=bif_t h hc
    refine WI.region ?_
    replace h:=bindS h
    obtain ⟨aM,aZ,h⟩:=h
    refine rno 3 [.run [] (binOp .add 3 (iv a2) (iv 1)) (iv aM)] 3 [(0,sv ad1 p0 cap2),(1,sv ad4 p1 cap5),(5,sv aA a8 aC),(6,iv aM),(7,iv a3)] hF (ocons (obAddC (fun _=>aZ)) onil) fun a hF=>?_
    refine WI.fin rfl (norm_block <| norm_then <| ?_)
    rw [hk2] at h
    exact ⟨nk2,Nat.lt_succ_self _,a8,aM,a3,aA,aC,hF.sub (by kernel_rfl),St.pick [0,1] (by decide) hS,h⟩
   ·replace h:=bif_f h hc
    refine WI.region ?_
    replace h:=bindS h
    obtain ⟨aN,b0,h⟩:=h
    refine rno 3 [.run [] (binOp .add 3 (iv a3) (iv 1)) (iv aN)] 3 [(0,sv ad1 p0 cap2),(1,sv ad4 p1 cap5),(5,sv aA a8 aC),(6,iv a2),(7,iv aN)] hF (ocons (obAddC (fun _=>b0)) onil) fun a hF=>?_
    refine WI.fin rfl (norm_block <| norm_then <| ?_)
    rw [hk2] at h
    exact ⟨nk2,Nat.lt_succ_self _,a8,a2,aN,aA,aC,hF.sub (by kernel_rfl),St.pick [0,1] (by decide) hS,h⟩
  ·replace h:=bif_f h hc
   refine wpIn_exit (exit_then <| exit_then <| exit_hit <| norm_then ?_)
   exact ⟨a4,a5,a6,hF.sub (by kernel_rfl),St.pick [0,1] (by decide) hS,h⟩
 rintro a w ⟨a7,aF,aG,hF,hS,h⟩
 rw [fold_speeds_meet_K1] at h
 refine esr ?_
 refine rn 1 1 [(52,sv aF a7 aG)] hF fun a hF=>?_
 replace h:=bindS h
 obtain ⟨aE,b1,h⟩:=h
 refine SK.wi (callK (f:=62) (args:=#[sv aF a7 aG]) (R:=fun v w2=>∃ a9 aB,v = sv a9 aE aB∧St w [arr 25 2 api_Span.cells a9 aE.length aB aE] w2) (fun aV=>[(53,aV)]) hF (by kernel_rfl) ⟨by kernel_rfl⟩ (Calls.mono (fold_speeds_united_ok F a7 _ b1 (memOf w) w (memOf_at w) (Arr.toM (hS.arr (i:=0) rfl))) (by rintro e w2 ⟨a9,aB,rfl,h⟩; exact ⟨_,rfl,a9,aB,rfl,h⟩)) (fun _=>⟨by kernel_rfl⟩) ?_)
 rintro aV w a ⟨a9,aB,rfl,hQ⟩ hF
 replace hS : St w0 [arr 25 2 api_Span.cells a9 aE.length aB aE,arr 25 2 api_Span.cells aF a7.length aG a7,fz w0 μ] w:=hS.madeL hQ
 refine rn 1 3 [(4,sv a9 aE aB)] hF fun a hF=>?_
 refine wfn rfl ?_
 refine wpIn_ret (fn_ret [.tmp 4] [sv a9 aE aB] hF rfl ⟨rfl,trivial⟩ ?_)
 have hr_:=Option.some.inj h
 subst hr_
 exact ⟨_,_,rfl,St.pick [0] (by decide) hS⟩
theorem fold_speeds_wide_ok (F : Nat) (p0 : (List api_Span)) (p1 : Int) (res : (List api_Span)) (h : fold_speeds_wide F p0 p1 = some res) (μ : Frz) (w0 : World) (hm : FrzAt μ w0) {ad1 : Option Addr} {cap2 : Nat} (hA3 : ArrM μ 2 api_Span.cells ad1 cap2 p0) : Calls Try.prog 103 #[sv ad1 p0 cap2,iv p1] w0 (fun e w=>∃ zad0 zcap0,e = .returned (sv zad0 res zcap0)∧St w0 [arr 25 2 api_Span.cells zad0 res.length zcap0 res] w):=by
 obtain ⟨hlow,hS⟩:=hm.init
 have hext:=Frz.ext_refl w0.heap.size μ
 rw [fold_speeds_wide] at h
 refine fn_enterW Try.func103 rfl 29 [(0,sv ad1 p0 cap2),(1,iv p1)] rfl rfl (by kernel_rfl) fun a w hw hF=>?_
 replace hS : St w0 [fz w0 μ] w:=by rw [hw]; exact hS
 clear hw
 refine esr ?_
 refine rn 1 1 [(0,sv ad1 p0 cap2),(1,iv p1)] hF fun a hF=>?_
 refine wfn rfl ?_
 refine esr ?_
 refine rn 1 1 [(0,sv ad1 p0 cap2),(1,iv p1),(5,.slice none 0 0)] hF fun a hF=>?_
 refine wfn rfl ?_
 refine ecut (fun a w=>∃ (a5 : (List api_Span)) (a9 : Option Addr) (aA : Nat),Fr 29 [] [(5,sv a9 a5 aA)] a∧St w0 [arr 25 2 api_Span.cells a9 a5.length aA a5,fz w0 μ] w∧fold_speeds_wide_K1 F a5 = some res) ?_ ?_
 ·skip
  refine esr ?_
  refine rn 3 3 [(1,iv p1),(5,.slice none 0 0),(8,sv ad1 p0 cap2),(9,iv (ln p0)),(10,iv 0)] hF fun a hF=>?_
  refine wfn rfl ?_
  refine wpIn_block ?_
  replace hS:=hS.nilarr 25 2 api_Span.cells
  refine eloop (fun n_ a w=>∃ (a0 : Int) (a1 : (List api_Span)) (a3 : Option Addr) (a4 : Nat),Fr 29 [] [(1,iv p1),(5,sv a3 a1 a4),(8,sv ad1 p0 cap2),(9,iv (ln p0)),(10,iv a0)] a∧St w0 [arr 25 2 api_Span.cells a3 a1.length a4 a1,fz w0 μ] w∧fold_speeds_wide_L2 F p0 p1 n_ a0 a1 = some res) F ⟨0,[],none,0,hF.sub (by kernel_rfl),St.pick [0,1] (by decide) hS,h⟩ ?_
  rintro nk2 a w ⟨a0,a1,a3,a4,hF,hS,h⟩
  rcases nk2 with _ | nk2
  ·cases (show (none : Option (List api_Span)) = some res from h)
  obtain ⟨k2,hk2⟩ : ∃ k,k = fold_speeds_wide_L2 F p0 p1 nk2:=⟨_,rfl⟩
  replace h : fold_speeds_wide_B2 F p0 p1 k2 a0 a1 = some res:=by rw [hk2]; exact h
  rw [fold_speeds_wide_B2] at h
  refine esr ?_
  refine rn 1 1 [(1,iv p1),(5,sv a3 a1 a4),(8,sv ad1 p0 cap2),(9,iv (ln p0)),(10,iv a0),(11,.bool (decide (a0 < (ln p0))))] hF fun a hF=>?_
  refine wfn rfl ?_
  refine eseq ?_
  refine econd hF rfl (fun hc=>?_) (fun hc=>?_)
  ·replace h:=bif_t h hc
   refine wpIn_skip (norm_then ?_)
   refine eseq ?_
   refine wpIn_block ?_
   refine esr ?_
   replace h:=bindS h
   obtain ⟨a2,aJ,h⟩:=h
   refine rno 2 [.run [] (Instr.indexAt 132 (sv ad1 p0 cap2) (iv a0)) (.pointer (some (slAddr ad1 a0 2))),.run [] (Instr.loadAt 25 (.pointer (some (slAddr ad1 a0 2)))) (.agg #[iv a2.Lo,iv a2.Hi])] 2 [(1,iv p1),(5,sv a3 a1 a4),(8,sv ad1 p0 cap2),(9,iv (ln p0)),(10,iv a0),(13,.agg #[iv a2.Lo,iv a2.Hi])] hF (ocons (obIdxQ (hA3 _ (hS.frz (i:=1) rfl hlow)) (by kernel_rfl) (fun _=>aJ)) (ocons (obElNQ (m:=2) (i:=a0) (us:=[iv a2.Lo,iv a2.Hi]) 0 api_Span.cells_len (fun _ hd=>(hA3 _ ((hS.at_ hd).frz (i:=1) rfl hlow))) (by kernel_rfl) (fun _=>aJ) ⟨rfl,rfl⟩) onil)) fun a hF=>?_
   refine SK.wi (allocK (t:=25) (fun aE=>[(1,iv p1),(5,sv a3 a1 a4),(7,pb aE),(8,sv ad1 p0 cap2),(9,iv (ln p0)),(10,iv a0),(13,.agg #[iv a2.Lo,iv a2.Hi])]) #[iv 0,iv 0] hF hS (by kernel_rfl) ⟨by kernel_rfl⟩ (by kernel_rfl) (fun _=>⟨by kernel_rfl⟩) fun aE w a hF hS=>?_)
   refine SK.wi (storeK (t:=25) [(1,iv p1),(5,sv a3 a1 a4),(7,pb aE),(8,sv ad1 p0 cap2),(9,iv (ln p0)),(10,iv a0)] 0 0 (.agg #[iv a2.Lo,iv a2.Hi]) #[iv a2.Lo,iv a2.Hi] hF hS rfl (by kernel_rfl) ⟨by kernel_rfl⟩ (by kernel_rfl) (by kernel_rfl) (by kernel_rfl) (by kernel_rfl) ⟨by kernel_rfl⟩ fun w a hF hS=>?_)
   refine wfn rfl ?_
   refine WI.region ?_
   replace h:=bindS h
   obtain ⟨aB,aM,h⟩:=h
   replace h:=bindS h
   obtain ⟨aC,aN,h⟩:=h
   refine rno 10 [.run [] (Instr.loadAt 3 (pb aE)) (iv a2.Lo),.run [] (binOp .sub 3 (iv a2.Lo) (iv p1)) (iv aB),.run [] (Instr.loadAt 3 (.pointer (some ⟨aE,1,none⟩))) (iv a2.Hi),.run [] (binOp .add 3 (iv a2.Hi) (iv p1)) (iv aC)] 10 [(1,iv p1),(5,sv a3 a1 a4),(8,sv ad1 p0 cap2),(9,iv (ln p0)),(10,iv a0),(14,sv a3 a1 a4),(23,.agg #[iv aB,iv aC])] hF (ocons (ob1 (by kernel_rfl) (fun _ hd=>(hS.at_ hd).cell (i:=0) (j:=0) rfl rfl)) (ocons (obSubC (fun _=>aM)) (ocons (ob1 (by kernel_rfl) (fun _ hd=>(hS.at_ hd).cell (i:=0) (j:=1) rfl rfl)) (ocons (obAddC (fun _=>aN)) onil)))) fun a hF=>?_
   refine SK.wi (litK (e:=25) (sz:=2) (f:=api_Span.cells) (t:=132) (len:=1) (fun aI=>[(1,iv p1),(5,sv a3 a1 a4),(8,sv ad1 p0 cap2),(9,iv (ln p0)),(10,iv a0),(14,sv a3 a1 a4),(24,sb aI 1)]) #[(0,.agg #[iv aB,iv aC])] #[iv aB,iv aC] ([(api_Span.mk aB aC)]) hF hS (by kernel_rfl) ⟨by kernel_rfl⟩ (by kernel_rfl) api_Span.cells_len rfl rfl (by kernel_rfl) (fun _=>⟨by kernel_rfl⟩) fun aI w a hF hS=>?_)
   replace h:=bindS h
   obtain ⟨aG,aL,h⟩:=h
   refine SK.wi (appK (t:=132) (ty:=132) (bytes:=16) (l:=a1) (l':=([(api_Span.mk aB aC)])) (fun aD aF=>[(1,iv p1),(5,sv a3 a1 a4),(8,sv ad1 p0 cap2),(9,iv (ln p0)),(10,iv a0),(25,sv aD aG aF)]) 2 hF hS rfl (by kernel_rfl) ⟨by kernel_rfl⟩ (by kernel_rfl) (hS.arr (i:=0) rfl) (fun _ _=>rfl) aL (fun _ _=>⟨by kernel_rfl⟩) fun aD aF w a hF hS=>?_)
   refine rn 1 13 [(1,iv p1),(5,sv aD aG aF),(8,sv ad1 p0 cap2),(9,iv (ln p0)),(10,iv a0)] hF fun a hF=>?_
   refine WI.fin rfl (norm_block <| norm_then <| ?_)
   refine WI.region ?_
   replace h:=bindS h
   obtain ⟨aH,aO,h⟩:=h
   refine rno 2 [.run [] (binOp .add 3 (iv a0) (iv 1)) (iv aH)] 2 [(1,iv p1),(5,sv aD aG aF),(8,sv ad1 p0 cap2),(9,iv (ln p0)),(10,iv aH)] hF (ocons (obAddC (fun _=>aO)) onil) fun a hF=>?_
   refine wfn rfl ?_
   rw [hk2] at h
   exact ⟨nk2,Nat.lt_succ_self _,aH,aG,aD,aF,hF.sub (by kernel_rfl),St.pick [2,3] (by decide) hS,h⟩
  ·replace h:=bif_f h hc
   refine wpIn_exit (exit_then <| exit_then <| exit_hit <| norm_then ?_)
   exact ⟨a1,a3,a4,hF.sub (by kernel_rfl),St.pick [0,1] (by decide) hS,h⟩
 rintro a w ⟨a5,a9,aA,hF,hS,h⟩
 rw [fold_speeds_wide_K1] at h
 refine esr ?_
 refine rn 1 1 [(27,sv a9 a5 aA)] hF fun a hF=>?_
 replace h:=bindS h
 obtain ⟨a8,aP,h⟩:=h
 refine SK.wi (callK (f:=62) (args:=#[sv a9 a5 aA]) (R:=fun v w2=>∃ a6 a7,v = sv a6 a8 a7∧St w [arr 25 2 api_Span.cells a6 a8.length a7 a8] w2) (fun aK=>[(28,aK)]) hF (by kernel_rfl) ⟨by kernel_rfl⟩ (Calls.mono (fold_speeds_united_ok F a5 _ aP (memOf w) w (memOf_at w) (Arr.toM (hS.arr (i:=0) rfl))) (by rintro e w2 ⟨a6,a7,rfl,h⟩; exact ⟨_,rfl,a6,a7,rfl,h⟩)) (fun _=>⟨by kernel_rfl⟩) ?_)
 rintro aK w a ⟨a6,a7,rfl,hQ⟩ hF
 replace hS : St w0 [arr 25 2 api_Span.cells a6 a8.length a7 a8,arr 25 2 api_Span.cells a9 a5.length aA a5,fz w0 μ] w:=hS.madeL hQ
 refine rn 1 3 [(4,sv a6 a8 a7)] hF fun a hF=>?_
 refine wfn rfl ?_
 refine wpIn_ret (fn_ret [.tmp 4] [sv a6 a8 a7] hF rfl ⟨rfl,trivial⟩ ?_)
 have hr_:=Option.some.inj h
 subst hr_
 exact ⟨_,_,rfl,St.pick [0] (by decide) hS⟩
theorem ref03_settled_ok (F : Nat) (p0 : (List (List (List api_Span)))) (p1 : Int) (p2 : Int) (res : (List (List (List api_Span)))) (h : ref03_settled F p0 p1 p2 = some res) (μ : Frz) (w0 : World) (hm : FrzAt μ w0) {ad1 : Option Addr} {cap2 : Nat} {css3 : List (List Value)} (hA4 : ArrQ μ 1 Rp48 ad1 cap2 css3 p0) : Calls Try.prog 77 #[sv ad1 p0 cap2,iv p1,iv p2] w0 (fun e w=>∃ (ν_ : Frz) (dI : Option Addr) (dN : Nat) (f3 : List (List Value)),μ.ext w0.heap.size ν_∧e = .returned (sv dI res dN)∧ArrQ ν_ 1 Rp48 dI dN f3 res∧St w0 [fz w0 ν_] w):=by
 obtain ⟨hlow,hS⟩:=hm.init
 have hext:=Frz.ext_refl w0.heap.size μ
 rw [ref03_settled] at h
 refine fn_enterW Try.func77 rfl 135 [(0,sv ad1 p0 cap2),(1,iv p1),(2,iv p2)] rfl rfl (by kernel_rfl) fun a w hw hF=>?_
 replace hS : St w0 [fz w0 μ] w:=by rw [hw]; exact hS
 clear hw
 refine esr ?_
 refine rn 1 1 [(0,sv ad1 p0 cap2),(1,iv p1),(2,iv p2)] hF fun a hF=>?_
 refine wfn rfl ?_
 refine esr ?_
 refine rn 3 3 [(0,sv ad1 p0 cap2),(18,sv ad1 p0 cap2),(19,iv p1),(20,iv p2)] hF fun a hF=>?_
 replace h:=bindS h
 obtain ⟨y6,hy6,h⟩:=h
 refine SK.wi (callK (f:=107) (args:=#[sv ad1 p0 cap2,iv p1,iv p2]) (R:=fun v w2=>∃ ad7 cap8,v = sv ad7 y6 cap8∧St w [arr 206 5 ref03_Link.cells ad7 y6.length cap8 y6] w2) (fun v5=>[(0,sv ad1 p0 cap2),(21,v5)]) hF (by kernel_rfl) ⟨by kernel_rfl⟩ (Calls.mono (ref03_Links_ok F p0 p1 p2 _ hy6 (memOf w) w (memOf_at w) (hA4.mono Rp48.mono (FrzAt.le_mem (hS.frz (i:=0) rfl hlow)))) (by rintro e w2 ⟨ad7,cap8,rfl,h⟩; exact ⟨_,rfl,ad7,cap8,rfl,h⟩)) (fun _=>⟨by kernel_rfl⟩) ?_)
 rintro v5 w a ⟨ad7,cap8,rfl,hQ⟩ hF
 replace hS : St w0 [arr 206 5 ref03_Link.cells ad7 y6.length cap8 y6,fz w0 μ] w:=hS.madeL hQ
 refine rn 1 5 [(0,sv ad1 p0 cap2),(7,sv ad7 y6 cap8)] hF fun a hF=>?_
 refine wfn rfl ?_
 refine esr ?_
 refine rn 2 2 [(0,sv ad1 p0 cap2),(7,sv ad7 y6 cap8),(23,iv (ln p0))] hF fun a hF=>?_
 replace h:=bindS h
 obtain ⟨bM,fK,h⟩:=h
 refine SK.wi (makeNK (List Value) 43 1 (fN 1) (Rp43 μ) (e:=48) (t:=54) (bytes:=24) (fun b9=>[(0,sv ad1 p0 cap2),(7,sv ad7 y6 cap8),(24,.slice (some ⟨b9,0,none⟩) bM.length bM.length)]) hF hS (by kernel_rfl) ⟨by kernel_rfl⟩ (by kernel_rfl) (by kernel_rfl) fK (fun _=>⟨by kernel_rfl⟩) fun b9 fF eZ w a hF aC hS=>?_)
 refine rn 1 4 [(0,sv ad1 p0 cap2),(7,sv ad7 y6 cap8),(8,.slice (some ⟨b9,0,none⟩) bM.length bM.length)] hF fun a hF=>?_
 refine wfn rfl ?_
 have bB:=Frz.le_refl μ
 refine ecut (fun a w=>∃ (bW : (List (List (List api_Span)))) (ν2697 : Frz) (c3 : Option Addr) (c8 : Nat) (cV : List Hd) (cR : List (List (List Value))),Fr 135 [] [(7,sv ad7 y6 cap8),(8,sv c3 bW c8)] a∧St w0 [nestR 48 43 1 (fN 1) c3 bW.length c8 cV cR,arr 206 5 ref03_Link.cells ad7 y6.length cap8 y6,fz w0 ν2697] w∧(NestOk (Rp43 ν2697) cV cR bW)∧(μ.le ν2697)∧(μ.ext w0.heap.size ν2697)∧(FrzIn w0 ν2697)∧ref03_settled_K1 F y6 bW = some res) ?_ ?_
 ·skip
  refine esr ?_
  refine rn 1 1 [(0,sv ad1 p0 cap2),(7,sv ad7 y6 cap8),(8,.slice (some ⟨b9,0,none⟩) bM.length bM.length),(9,iv 0)] hF fun a hF=>?_
  refine wfn rfl ?_
  refine wpIn_block ?_
  have eB:=Frz.le_refl μ
  refine eloop (fun n_ a w=>∃ (bD : (List (List (List api_Span)))) (a2 : Int) (ν8448 : Frz) (bP : Option Addr) (bR : Nat) (cG : List Hd) (cC : List (List (List Value))),Fr 135 [] [(0,sv ad1 p0 cap2),(7,sv ad7 y6 cap8),(8,sv bP bD bR),(9,iv a2)] a∧St w0 [nestR 48 43 1 (fN 1) bP bD.length bR cG cC,arr 206 5 ref03_Link.cells ad7 y6.length cap8 y6,fz w0 ν8448] w∧(NestOk (Rp43 ν8448) cG cC bD)∧(μ.le ν8448)∧(μ.ext w0.heap.size ν8448)∧(FrzIn w0 ν8448)∧ref03_settled_L6 F p0 y6 n_ bD a2 = some res) F ⟨bM,0,μ,(some ⟨b9,0,none⟩),bM.length,fF,eZ,hF.sub (by kernel_rfl),St.pick [0,1,2] (by decide) hS,aC,eB,hext,hlow,h⟩ ?_
  clear eB
  rintro nk6 a w ⟨bD,a2,ν8448,bP,bR,cG,cC,hF,hS,bL,bC,hext,hlow,h⟩
  rcases nk6 with _ | nk6
  ·cases (show (none : Option (List (List (List api_Span)))) = some res from h)
  replace hA4:=hA4.mono Rp48.mono bC
  replace aC:=aC.mono Rp43.mono bC
  replace bB:=Frz.le_trans bB bC
  obtain ⟨k6,hk6⟩ : ∃ k,k = ref03_settled_L6 F p0 y6 nk6:=⟨_,rfl⟩
  replace h : ref03_settled_B6 F p0 y6 k6 bD a2 = some res:=by rw [hk6]; exact h
  rw [ref03_settled_B6] at h
  refine eseq ?_
  refine esr ?_
  refine rn 4 4 [(0,sv ad1 p0 cap2),(7,sv ad7 y6 cap8),(8,sv bP bD bR),(9,iv a2),(28,.bool (decide (a2 < (ln p0))))] hF fun a hF=>?_
  refine wfn rfl ?_
  refine econd hF rfl (fun hc=>?_) (fun hc=>?_)
  ·replace h:=bif_t h hc
   refine wpIn_skip (norm_then ?_)
   have bZ:=Frz.le_refl ν8448
   refine ecut (fun a w=>∃ (bX : (List (List (List api_Span)))) (ν8897 : Frz) (c4 : Option Addr) (c9 : Nat) (cW : List Hd) (cS : List (List (List Value))),Fr 135 [] [(0,sv ad1 p0 cap2),(7,sv ad7 y6 cap8),(8,sv c4 bX c9),(9,iv a2)] a∧St w0 [nestR 48 43 1 (fN 1) c4 bX.length c9 cW cS,arr 206 5 ref03_Link.cells ad7 y6.length cap8 y6,fz w0 ν8897] w∧(NestOk (Rp43 ν8897) cW cS bX)∧(ν8448.le ν8897)∧(μ.ext w0.heap.size ν8897)∧(FrzIn w0 ν8897)∧ref03_settled_K7 a2 k6 bX = some res) ?_ ?_
   ·skip
    refine wpIn_block ?_
    refine esr ?_
    refine rn 1 1 [(0,sv ad1 p0 cap2),(7,sv ad7 y6 cap8),(8,sv bP bD bR),(9,iv a2),(10,iv 0)] hF fun a hF=>?_
    refine wfn rfl ?_
    refine wpIn_block ?_
    have eC:=Frz.le_refl ν8448
    refine eloop (fun n_ a w=>∃ (aO : Int) (a8 : (List (List (List api_Span)))) (ν9196 : Frz) (a6 : Option Addr) (a9 : Nat) (b1 : List Hd) (bF : List (List (List Value))),Fr 135 [] [(0,sv ad1 p0 cap2),(7,sv ad7 y6 cap8),(8,sv a6 a8 a9),(9,iv a2),(10,iv aO)] a∧St w0 [nestR 48 43 1 (fN 1) a6 a8.length a9 b1 bF,arr 206 5 ref03_Link.cells ad7 y6.length cap8 y6,fz w0 ν9196] w∧(NestOk (Rp43 ν9196) b1 bF a8)∧(ν8448.le ν9196)∧(μ.ext w0.heap.size ν9196)∧(FrzIn w0 ν9196)∧ref03_settled_L8 F p0 a2 k6 n_ aO a8 = some res) F ⟨0,bD,ν8448,bP,bR,cG,cC,hF.sub (by kernel_rfl),St.pick [0,1,2] (by decide) hS,bL,eC,hext,hlow,h⟩ ?_
    clear eC
    rintro nk8 a w ⟨aO,a8,ν9196,a6,a9,b1,bF,hF,hS,bU,bG,hext,hlow,h⟩
    rcases nk8 with _ | nk8
    ·cases (show (none : Option (List (List (List api_Span)))) = some res from h)
    replace hA4:=hA4.mono Rp48.mono bG
    replace aC:=aC.mono Rp43.mono bG
    replace bL:=bL.mono Rp43.mono bG
    replace bB:=Frz.le_trans bB bG
    replace bC:=Frz.le_trans bC bG
    replace bZ:=Frz.le_trans bZ bG
    obtain ⟨k8,hk8⟩ : ∃ k,k = ref03_settled_L8 F p0 a2 k6 nk8:=⟨_,rfl⟩
    replace h : ref03_settled_B8 F p0 a2 k6 k8 aO a8 = some res:=by rw [hk8]; exact h
    rw [ref03_settled_B8] at h
    refine eseq ?_
    refine esr ?_
    replace h:=bindS h
    obtain ⟨eL,g5,h⟩:=h
    obtain ⟨h5,dY,fB⟩:=getI_all2 hA4.2 g5
    obtain ⟨eV,eY,h8,rfl,dP⟩:=fB
    refine rno 7 [.run [] (Instr.indexAt 54 (sv ad1 p0 cap2) (iv a2)) (.pointer (some (slAddr ad1 a2 1))),.run [] (Instr.loadAt 48 (.pointer (some (slAddr ad1 a2 1)))) (sv eV eL eY)] 7 [(0,sv ad1 p0 cap2),(7,sv ad7 y6 cap8),(8,sv a6 a8 a9),(9,iv a2),(10,iv aO),(37,.bool (decide (aO < (ln eL))))] hF (ocons (obIdxQ (hA4.at (hS.frz (i:=2) rfl hlow)) (by kernel_rfl) (fun _=>dY)) (ocons (obElQ (i:=a2) 0 (fN_len 1) (fun _ hd=>(hA4.at ((hS.at_ hd).frz (i:=2) rfl hlow))) (by kernel_rfl) (fun _=>dY) rfl) onil)) fun a hF=>?_
    refine wfn rfl ?_
    refine econd hF rfl (fun hc=>?_) (fun hc=>?_)
    ·replace h:=bif_t h hc
     refine wpIn_skip (norm_then ?_)
     refine eseq ?_
     refine wpIn_block ?_
     replace h:=bindS h
     obtain ⟨c2,g6,h⟩:=h
     replace h:=bindS h
     obtain ⟨eM,g7,h⟩:=h
     replace h:=bindS h
     obtain ⟨d1,g8,h⟩:=h
     replace h:=bindS h
     obtain ⟨aJ,gJ,h⟩:=h
     replace h:=bindS h
     obtain ⟨d0,eD,h⟩:=h
     replace h:=bindS h
     obtain ⟨hJ,g9,h⟩:=h
     refine region_treeW 17 [13,14,15] _ (D:=fun w=>St w0 [arr 206 5 ref03_Link.cells ad7 y6.length cap8 y6] w∧FrzAt ν9196 w∧Arr w 1 hdF a6 b1.length b1.length b1) (by kernel_rfl) (by kernel_rfl) hF.size (fun w hx=>?_) (fun _ _ h=>h)
     replace hS:=hS.later hx
     refine ⟨⟨St.pick [1] (by decide) hS,hS.frz (i:=2) rfl hlow,(nestOut (hS.res (i:=0) rfl)).tight⟩,?_⟩
     have cU:=Frz.le_refl ν9196
     obtain ⟨c5,cA,d3,e5,fJ,fE,dB⟩:=NestOk.get bU g6
     obtain ⟨h6,dZ,fC⟩:=getI_all2 hA4.2 g7
     obtain ⟨cN,dM,h9,rfl,cD⟩:=fC
     obtain ⟨h7,e0,fD⟩:=getI_all2 cD.2 g8
     obtain ⟨d2,d4,rfl,d7⟩:=fD
     refine WT.s [0,1,2,3,4,5,6,7,8,9,10,11,12] [13] (by kernel_rfl) (by kernel_rfl) ?_
     refine runC (rest:=[]) (obs:=[.run [] (Instr.indexAt 54 (sv a6 a8 a9) (iv a2)) (.pointer (some (slAddr a6 a2 1))),.run [] (Instr.loadAt 48 (.pointer (some (slAddr a6 a2 1)))) (sv c5 c2 cA),.run [] (Instr.indexAt 54 (sv ad1 p0 cap2) (iv a2)) (.pointer (some (slAddr ad1 a2 1))),.run [] (Instr.loadAt 48 (.pointer (some (slAddr ad1 a2 1)))) (sv cN eM dM),.run [] (Instr.indexAt 48 (sv cN eM dM) (iv aO)) (.pointer (some (slAddr cN aO 1))),.run [] (Instr.loadAt 43 (.pointer (some (slAddr cN aO 1)))) (sv d2 d1 d4)]) [0,1,2,3,4,5,6,7,8,9,10,11,12] [(0,sv ad1 p0 cap2),(7,sv ad7 y6 cap8),(8,sv a6 a8 a9),(9,iv a2),(10,iv aO),(40,sv a6 a8 a9),(41,iv a2),(45,sv c5 c2 cA),(52,sv d2 d1 d4)] hF (by kernel_rfl) (by kernel_rfl) (ocons (obIdxQ (nestOut (hS.res (i:=0) rfl)) (by kernel_rfl) (fun _=>e5)) (ocons (obElQ (i:=a2) 0 hdF_len (fun _ hd=>hd.2.2) (by kernel_rfl) (fun _=>e5) rfl) (ocons (obIdxQ (hA4.at (hS.frz (i:=2) rfl hlow)) (by kernel_rfl) (fun _=>dZ)) (ocons (obElQ (i:=a2) 0 (fN_len 1) (fun _ hd=>(hA4.at hd.2.1)) (by kernel_rfl) (fun _=>dZ) rfl) (ocons (obIdxQ (cD.at (hS.frz (i:=2) rfl hlow)) (by kernel_rfl) (fun _=>e0)) (ocons (obElQ (i:=aO) 0 (fN_len 1) (fun _ hd=>(cD.at hd.2.1)) (by kernel_rfl) (fun _=>e0) rfl) onil)))))) ⟨by kernel_rfl⟩ fun a hF=>?_
     refine WRun.fin ?_
     refine all_cons ?_ (all_nil)
     refine callK (f:=64) (args:=#[sv d2 d1 d4]) (R:=fun v w2=>∃ aS aV,v = sv aS aJ aV∧St w [arr 25 2 api_Span.cells aS aJ.length aV aJ] w2) (fun eR=>[(0,sv ad1 p0 cap2),(7,sv ad7 y6 cap8),(8,sv a6 a8 a9),(9,iv a2),(10,iv aO),(40,sv a6 a8 a9),(41,iv a2),(45,sv c5 c2 cA),(53,eR)]) hF (by kernel_rfl) ⟨by kernel_rfl⟩ (Calls.mono (ref03_united_ok F d1 _ gJ (memOf w) w (memOf_at w) (d7.mono (FrzAt.le_mem (hS.frz (i:=2) rfl hlow)))) (by rintro e w2 ⟨aS,aV,rfl,h⟩; exact ⟨_,rfl,aS,aV,rfl,h⟩)) (fun _=>⟨by kernel_rfl⟩) ?_
     rintro eR w a ⟨aS,aV,rfl,hQ⟩ hF
     replace hS : St w0 [arr 25 2 api_Span.cells aS aJ.length aV aJ,nestR 48 43 1 (fN 1) a6 a8.length a9 b1 bF,arr 206 5 ref03_Link.cells ad7 y6.length cap8 y6,fz w0 ν9196] w:=hS.madeL hQ
     refine ⟨⟨St.pick [2] (by decide) hS,(hS.frz (i:=3) rfl hlow),(nestOut (hS.res (i:=1) rfl)).tight⟩,?_⟩
     refine WT.s [] [14] (by kernel_rfl) (by kernel_rfl) ?_
     refine WRun.fin ?_
     refine all_cons ?_ (all_nil)
     obtain ⟨ν9325,b0,hlow,hS,gN⟩:=hS.freeze (i:=3) (j:=0) rfl rfl (by decide) hlow
     replace hA4:=hA4.mono Rp48.mono b0.1
     replace aC:=aC.mono Rp43.mono b0.1
     replace bL:=bL.mono Rp43.mono b0.1
     replace bU:=bU.mono Rp43.mono b0.1
     replace dP:=dP.mono Rp43.mono b0.1
     replace dB:=All2.mono Rp43.mono b0.1 dB
     replace cD:=cD.mono Rp43.mono b0.1
     replace d7:=d7.mono b0.1
     replace bB:=Frz.le_trans bB b0.1
     replace bC:=Frz.le_trans bC b0.1
     replace bZ:=Frz.le_trans bZ b0.1
     replace bG:=Frz.le_trans bG b0.1
     replace cU:=Frz.le_trans cU b0.1
     replace hext:=Frz.ext_trans hext b0
     replace hS : St w0 [nestR 48 43 1 (fN 1) a6 a8.length a9 b1 bF,arr 206 5 ref03_Link.cells ad7 y6.length cap8 y6,fz w0 ν9325] w:=hS
     have f6:=ArrM.of_arr gN
     have eE : All2 (Rp43 ν9325) ([[sv aS aJ aV]] : List (List Value)) [aJ]:=(All2.cons ⟨aS,aV,rfl,f6⟩ All2.nil)
     refine litQK (e:=43) (sz:=1) (f:=fN 1) (t:=48) (len:=1) (fun c6=>[(0,sv ad1 p0 cap2),(7,sv ad7 y6 cap8),(8,sv a6 a8 a9),(9,iv a2),(10,iv aO),(40,sv a6 a8 a9),(41,iv a2),(45,sv c5 c2 cA),(54,sb c6 1)]) #[(0,sv aS aJ aV)] #[sv aS aJ aV] ([[sv aS aJ aV]] : List (List Value)) ([aJ]) hF hS (by kernel_rfl) ⟨by kernel_rfl⟩ (by kernel_rfl) (fN_len 1) rfl rfl rfl (by kernel_rfl) (fun _=>⟨by kernel_rfl⟩) fun c6 w a hF hS=>⟨⟨St.pick [2] (by decide) hS,(hS.frz (i:=3) rfl hlow).low cU,(nestOut (hS.res (i:=1) rfl)).tight⟩,?_⟩
     refine WT.s [] [15] (by kernel_rfl) (by kernel_rfl) ?_
     refine WRun.fin ?_
     refine all_cons ?_ (all_nil)
     replace hS : St w0 [arr 43 1 (fN 1) (some ⟨c6,0,none⟩) ([aJ]).length 1 ([[sv aS aJ aV]] : List (List Value)),nestR 48 43 1 (fN 1) a6 a8.length a9 b1 bF,arr 206 5 ref03_Link.cells ad7 y6.length cap8 y6,fz w0 ν9325] w:=hS
     replace hS : St w0 [nestR 48 43 1 (fN 1) a6 a8.length a9 b1 bF,arr 43 1 (fN 1) (some ⟨c6,0,none⟩) ([aJ]).length 1 ([[sv aS aJ aV]] : List (List Value)),arr 206 5 ref03_Link.cells ad7 y6.length cap8 y6,fz w0 ν9325] w:=St.pick [1,0,2,3] (by decide) hS
     replace hS : St w0 [arr 48 1 hdF a6 a8.length a9 b1,rwsR 43 1 (fN 1) (b1.set a2.toNat nilH) (bF.set a2.toNat []),arr 43 1 (fN 1) c5 c2.length cA d3,arr 43 1 (fN 1) (some ⟨c6,0,none⟩) ([aJ]).length 1 ([[sv aS aJ aV]] : List (List Value)),arr 206 5 ref03_Link.cells ad7 y6.length cap8 y6,fz w0 ν9325] w:=St.takeN hS fJ fE (bU).lenH
     have fU : All2 (Rp43 ν9325) (d3 ++ ([[sv aS aJ aV]] : List (List Value))) d0:=by rw [(apd_some eD).1]; exact All2.app dB eE
     refine appQK (t:=48) (ty:=48) (bytes:=24) (c:=d3) (c':=([[sv aS aJ aV]] : List (List Value))) (l:=c2) (l':=([aJ])) (fun cO cQ=>[(0,sv ad1 p0 cap2),(7,sv ad7 y6 cap8),(8,sv a6 a8 a9),(9,iv a2),(10,iv aO),(40,sv a6 a8 a9),(41,iv a2),(55,sv cO d0 cQ)]) 2 hF hS rfl (by kernel_rfl) ⟨by kernel_rfl⟩ (by kernel_rfl) (hS.arr (i:=3) rfl) (ArrQ.one eE Rp43.one) eD (fun _ _=>⟨by kernel_rfl⟩) fun cO cQ w a hF hS=>⟨⟨St.pick [4] (by decide) hS,(hS.frz (i:=5) rfl hlow).low cU,(hS.arr (i:=0) rfl).tight⟩,?_⟩
     obtain ⟨gS,h0,gY,fH,hE,hB,hG⟩:=NestOk.get bU g9
     refine WT.z [16] (by kernel_rfl) ?_
     refine runC (rest:=[]) (obs:=[.run [] (Instr.indexAt 54 (sv a6 a8 a9) (iv a2)) (.pointer (some (slAddr a6 a2 1)))]) [16] [(0,sv ad1 p0 cap2),(7,sv ad7 y6 cap8),(8,sv a6 a8 a9),(9,iv a2),(10,iv aO),(55,sv cO d0 cQ),(56,.pointer (some (slAddr a6 a2 1)))] hF (by kernel_rfl) (by kernel_rfl) (ocons (obIdxQ (hS.arr (i:=0) rfl) (by kernel_rfl) (fun _=>fH)) onil) ⟨by kernel_rfl⟩ fun a hF=>?_
     refine WRun.fin ?_
     replace h:=bindS h
     obtain ⟨eH,fR,h⟩:=h
     refine SK.wi (putNK (t:=48) (adi:=cO) (capi:=cQ) (l3:=d0) [(0,sv ad1 p0 cap2),(7,sv ad7 y6 cap8),(8,sv a6 a8 a9),(9,iv a2),(10,iv aO)] a2 bU fU hF hS (List.set_set ..) (List.set_set ..) (by kernel_rfl) ⟨by kernel_rfl⟩ (by kernel_rfl) fR ⟨by kernel_rfl⟩ fun fG f2 w a hF hl fV hS=>?_)
     simp only [sv,ln,hl] at hF hS
     refine WI.fin rfl (norm_block <| norm_then <| ?_)
     refine WI.region ?_
     replace h:=bindS h
     obtain ⟨dG,gC,h⟩:=h
     refine rno 3 [.run [] (binOp .add 3 (iv aO) (iv 1)) (iv dG)] 3 [(0,sv ad1 p0 cap2),(7,sv ad7 y6 cap8),(8,sv a6 eH a9),(9,iv a2),(10,iv dG)] hF (ocons (obAddC (fun _=>gC)) onil) fun a hF=>?_
     refine wfn rfl ?_
     rw [hk8] at h
     exact ⟨nk8,Nat.lt_succ_self _,dG,eH,ν9325,a6,a9,fG,f2,hF.sub (by kernel_rfl),St.pick [0,2,3] (by decide) hS,fV,bG,hext,hlow,h⟩
    ·replace h:=bif_f h hc
     refine wpIn_exit (exit_then <| exit_then <| exit_hit <| norm_block <| norm_then <| ?_)
     exact ⟨a8,ν9196,a6,a9,b1,bF,hF.sub (by kernel_rfl),St.pick [0,1,2] (by decide) hS,bU,bZ,hext,hlow,h⟩
   clear bZ
   rintro a w ⟨bX,ν8897,c4,c9,cW,cS,hF,hS,fT,cH,hext,hlow,h⟩
   replace hA4:=hA4.mono Rp48.mono cH
   replace aC:=aC.mono Rp43.mono cH
   replace bL:=bL.mono Rp43.mono cH
   replace bB:=Frz.le_trans bB cH
   replace bC:=Frz.le_trans bC cH
   rw [ref03_settled_K7] at h
   refine WI.region ?_
   replace h:=bindS h
   obtain ⟨dF,gB,h⟩:=h
   refine rno 3 [.run [] (binOp .add 3 (iv a2) (iv 1)) (iv dF)] 3 [(0,sv ad1 p0 cap2),(7,sv ad7 y6 cap8),(8,sv c4 bX c9),(9,iv dF)] hF (ocons (obAddC (fun _=>gB)) onil) fun a hF=>?_
   refine wfn rfl ?_
   rw [hk6] at h
   exact ⟨nk6,Nat.lt_succ_self _,bX,dF,ν8897,c4,c9,cW,cS,hF.sub (by kernel_rfl),St.pick [0,1,2] (by decide) hS,fT,bC,hext,hlow,h⟩
  ·replace h:=bif_f h hc
   refine wpIn_exit (exit_then <| exit_then <| exit_hit <| norm_then ?_)
   exact ⟨bD,ν8448,bP,bR,cG,cC,hF.sub (by kernel_rfl),St.pick [0,1,2] (by decide) hS,bL,bB,hext,hlow,h⟩
 clear bB
 rintro a w ⟨bW,ν2697,c3,c8,cV,cR,hF,hS,b2,aZ,hext,hlow,h⟩
 replace hA4:=hA4.mono Rp48.mono aZ
 replace aC:=aC.mono Rp43.mono aZ
 rw [ref03_settled_K1] at h
 have bA:=Frz.le_refl ν2697
 refine ecut (fun a w=>∃ (bN : (List (List (List api_Span)))) (ν4677 : Frz) (bO : Option Addr) (bQ : Nat) (cE : List Hd) (d5 : List (List (List Value))),Fr 135 [] [(8,sv bO bN bQ)] a∧St w0 [nestR 48 43 1 (fN 1) bO bN.length bQ cE d5,arr 206 5 ref03_Link.cells ad7 y6.length cap8 y6,fz w0 ν4677] w∧(NestOk (Rp43 ν4677) cE d5 bN)∧(ν2697.le ν4677)∧(μ.ext w0.heap.size ν4677)∧(FrzIn w0 ν4677)∧ref03_settled_K2 bN = some res) ?_ ?_
 ·skip
  refine esr ?_
  refine rn 1 1 [(7,sv ad7 y6 cap8),(8,sv c3 bW c8),(11,.bool true)] hF fun a hF=>?_
  refine wfn rfl ?_
  refine wpIn_block ?_
  have e9:=Frz.le_refl ν2697
  refine eloop (fun n_ a w=>∃ (c7 : Bool) (b8 : (List (List (List api_Span)))) (ν6001 : Frz) (bH : Option Addr) (bI : Nat) (cF : List Hd) (cB : List (List (List Value))),Fr 135 [] [(7,sv ad7 y6 cap8),(8,sv bH b8 bI),(11,.bool c7)] a∧St w0 [nestR 48 43 1 (fN 1) bH b8.length bI cF cB,arr 206 5 ref03_Link.cells ad7 y6.length cap8 y6,fz w0 ν6001] w∧(NestOk (Rp43 ν6001) cF cB b8)∧(ν2697.le ν6001)∧(μ.ext w0.heap.size ν6001)∧(FrzIn w0 ν6001)∧ref03_settled_L3 F y6 n_ c7 b8 = some res) F ⟨true,bW,ν2697,c3,c8,cV,cR,hF.sub (by kernel_rfl),St.pick [0,1,2] (by decide) hS,b2,e9,hext,hlow,h⟩ ?_
  clear e9
  rintro nk3 a w ⟨c7,b8,ν6001,bH,bI,cF,cB,hF,hS,bJ,b5,hext,hlow,h⟩
  rcases nk3 with _ | nk3
  ·cases (show (none : Option (List (List (List api_Span)))) = some res from h)
  replace hA4:=hA4.mono Rp48.mono b5
  replace aC:=aC.mono Rp43.mono b5
  replace b2:=b2.mono Rp43.mono b5
  replace aZ:=Frz.le_trans aZ b5
  replace bA:=Frz.le_trans bA b5
  obtain ⟨k3,hk3⟩ : ∃ k,k = ref03_settled_L3 F y6 nk3:=⟨_,rfl⟩
  replace h : ref03_settled_B3 F y6 k3 c7 b8 = some res:=by rw [hk3]; exact h
  rw [ref03_settled_B3] at h
  refine eseq ?_
  refine esr ?_
  refine rn 1 1 [(7,sv ad7 y6 cap8),(8,sv bH b8 bI),(57,.bool c7)] hF fun a hF=>?_
  refine wfn rfl ?_
  refine econd hF rfl (fun hc=>?_) (fun hc=>?_)
  ·replace h:=bif_t h hc
   refine wpIn_skip (norm_then ?_)
   refine wpIn_block ?_
   refine esr ?_
   refine rn 1 1 [(7,sv ad7 y6 cap8),(8,sv bH b8 bI),(11,.bool false)] hF fun a hF=>?_
   refine wfn rfl ?_
   refine esr ?_
   refine rn 1 1 [(7,sv ad7 y6 cap8),(8,sv bH b8 bI),(11,.bool false),(12,iv 0)] hF fun a hF=>?_
   refine wfn rfl ?_
   refine wpIn_block ?_
   have eA:=Frz.le_refl ν6001
   refine eloop (fun n_ a w=>∃ (aM : Bool) (a7 : Int) (a4 : (List (List (List api_Span)))) (ν6441 : Frz) (a1 : Option Addr) (a3 : Nat) (aW : List Hd) (b7 : List (List (List Value))),Fr 135 [] [(7,sv ad7 y6 cap8),(8,sv a1 a4 a3),(11,.bool aM),(12,iv a7)] a∧St w0 [nestR 48 43 1 (fN 1) a1 a4.length a3 aW b7,arr 206 5 ref03_Link.cells ad7 y6.length cap8 y6,fz w0 ν6441] w∧(NestOk (Rp43 ν6441) aW b7 a4)∧(ν6001.le ν6441)∧(μ.ext w0.heap.size ν6441)∧(FrzIn w0 ν6441)∧ref03_settled_L4 F y6 k3 n_ aM a7 a4 = some res) F ⟨false,0,b8,ν6001,bH,bI,cF,cB,hF.sub (by kernel_rfl),St.pick [0,1,2] (by decide) hS,bJ,eA,hext,hlow,h⟩ ?_
   clear eA
   rintro nk4 a w ⟨aM,a7,a4,ν6441,a1,a3,aW,b7,hF,hS,bK,b6,hext,hlow,h⟩
   rcases nk4 with _ | nk4
   ·cases (show (none : Option (List (List (List api_Span)))) = some res from h)
   replace hA4:=hA4.mono Rp48.mono b6
   replace aC:=aC.mono Rp43.mono b6
   replace b2:=b2.mono Rp43.mono b6
   replace bJ:=bJ.mono Rp43.mono b6
   replace aZ:=Frz.le_trans aZ b6
   replace bA:=Frz.le_trans bA b6
   replace b5:=Frz.le_trans b5 b6
   obtain ⟨k4,hk4⟩ : ∃ k,k = ref03_settled_L4 F y6 k3 nk4:=⟨_,rfl⟩
   replace h : ref03_settled_B4 F y6 k3 k4 aM a7 a4 = some res:=by rw [hk4]; exact h
   rw [ref03_settled_B4] at h
   refine eseq ?_
   refine esr ?_
   refine rn 4 4 [(7,sv ad7 y6 cap8),(8,sv a1 a4 a3),(11,.bool aM),(12,iv a7),(61,.bool (decide (a7 < (ln y6))))] hF fun a hF=>?_
   refine wfn rfl ?_
   refine econd hF rfl (fun hc=>?_) (fun hc=>?_)
   ·replace h:=bif_t h hc
    refine wpIn_skip (norm_then ?_)
    refine eseq ?_
    refine wpIn_block ?_
    refine esr ?_
    replace h:=bindS h
    obtain ⟨a0,eF,h⟩:=h
    refine rno 4 [.run [] (Instr.indexAt 201 (sv ad7 y6 cap8) (iv a7)) (.pointer (some (slAddr ad7 a7 5))),.run [] (Instr.loadAt 206 (.pointer (some (slAddr ad7 a7 5)))) (a0.ag)] 4 [(7,sv ad7 y6 cap8),(8,sv a1 a4 a3),(11,.bool aM),(12,iv a7),(67,a0.ag)] hF (ocons (obIdxQ (hS.arr (i:=1) rfl) (by kernel_rfl) (fun _=>eF)) (ocons (obElNQ (m:=5) (i:=a7) (us:=a0.cells) 0 ref03_Link.cells_len (fun _ hd=>((hS.at_ hd).arr (i:=1) rfl)) (by kernel_rfl) (fun _=>eF) ⟨rfl,rfl⟩) onil)) fun a hF=>?_
    refine SK.wi (allocK (t:=206) (fun a5=>[(7,sv ad7 y6 cap8),(8,sv a1 a4 a3),(11,.bool aM),(12,iv a7),(13,pb a5),(67,a0.ag)]) #[iv 0,iv 0,iv 0,iv 0,iv 0] hF hS (by kernel_rfl) ⟨by kernel_rfl⟩ (by kernel_rfl) (fun _=>⟨by kernel_rfl⟩) fun a5 w a hF hS=>?_)
    refine SK.wi (storeK (t:=206) [(7,sv ad7 y6 cap8),(8,sv a1 a4 a3),(11,.bool aM),(12,iv a7),(13,pb a5)] 0 0 (a0.ag) a0.ar hF hS rfl (by kernel_rfl) ⟨by kernel_rfl⟩ (by kernel_rfl) (by kernel_rfl) (by kernel_rfl) (by kernel_rfl) ⟨by kernel_rfl⟩ fun w a hF hS=>?_)
    refine wfn rfl ?_
    refine eseq ?_
    replace h:=bindS h
    obtain ⟨eI,fW,h⟩:=h
    obtain ⟨cK,dJ,gT,e1,e6,dQ,cI⟩:=NestOk.get bK fW
    replace h:=bindS h
    obtain ⟨aK,fX,h⟩:=h
    obtain ⟨h1,dU,f7⟩:=getI_all2 cI fX
    obtain ⟨aQ,aT,rfl,bS⟩:=f7
    replace h:=bindS h
    obtain ⟨eJ,fY,h⟩:=h
    obtain ⟨cL,dK,gU,e2,e7,dR,cJ⟩:=NestOk.get bK fY
    replace h:=bindS h
    obtain ⟨aL,fZ,h⟩:=h
    obtain ⟨h2,dV,f8⟩:=getI_all2 cJ fZ
    obtain ⟨aR,aU,rfl,bT⟩:=f8
    refine runD (obs:=[.run [] (Instr.loadAt 3 (pb a5)) (iv a0.A.Ray),.run [] (Instr.indexAt 54 (sv a1 a4 a3) (iv a0.A.Ray)) (.pointer (some (slAddr a1 a0.A.Ray 1))),.run [] (Instr.loadAt 48 (.pointer (some (slAddr a1 a0.A.Ray 1)))) (sv cK eI dJ),.run [] (Instr.loadAt 3 (.pointer (some ⟨a5,1,none⟩))) (iv a0.A.Gate),.run [] (Instr.indexAt 48 (sv cK eI dJ) (iv a0.A.Gate)) (.pointer (some (slAddr cK a0.A.Gate 1))),.run [] (Instr.loadAt 43 (.pointer (some (slAddr cK a0.A.Gate 1)))) (sv aQ aK aT),.run [] (Instr.loadAt 3 (.pointer (some ⟨a5,2,none⟩))) (iv a0.B.Ray),.run [] (Instr.indexAt 54 (sv a1 a4 a3) (iv a0.B.Ray)) (.pointer (some (slAddr a1 a0.B.Ray 1))),.run [] (Instr.loadAt 48 (.pointer (some (slAddr a1 a0.B.Ray 1)))) (sv cL eJ dK),.run [] (Instr.loadAt 3 (.pointer (some ⟨a5,3,none⟩))) (iv a0.B.Gate),.run [] (Instr.indexAt 48 (sv cL eJ dK) (iv a0.B.Gate)) (.pointer (some (slAddr cL a0.B.Gate 1))),.run [] (Instr.loadAt 43 (.pointer (some (slAddr cL a0.B.Gate 1)))) (sv aR aL aU)]) 24 [(7,sv ad7 y6 cap8),(8,sv a1 a4 a3),(11,.bool aM),(12,iv a7),(13,pb a5),(14,sv aQ aK aT),(15,sv aR aL aU)] (by kernel_rfl) hF (by kernel_rfl) (ocons (ob1 (by kernel_rfl) (fun _ hd=>(hS.later hd).cell (i:=0) (j:=0) rfl rfl)) (ocons (obIdxQ (nestOut (hS.res (i:=1) rfl)) (by kernel_rfl) (fun _=>e1)) (ocons (obElQ (i:=a0.A.Ray) 0 hdF_len (fun _ hd=>(nestOut ((hS.later hd).res (i:=1) rfl))) (by kernel_rfl) (fun _=>e1) rfl) (ocons (ob1 (by kernel_rfl) (fun _ hd=>(hS.later hd).cell (i:=0) (j:=1) rfl rfl)) (ocons (obIdxQ (nestRow (hS.res (i:=1) rfl) e6 dQ) (by kernel_rfl) (fun _=>dU)) (ocons (obElQ (i:=a0.A.Gate) 0 (fN_len 1) (fun _ hd=>(nestRow ((hS.later hd).res (i:=1) rfl) e6 dQ)) (by kernel_rfl) (fun _=>dU) rfl) (ocons (ob1 (by kernel_rfl) (fun _ hd=>(hS.later hd).cell (i:=0) (j:=2) rfl rfl)) (ocons (obIdxQ (nestOut (hS.res (i:=1) rfl)) (by kernel_rfl) (fun _=>e2)) (ocons (obElQ (i:=a0.B.Ray) 0 hdF_len (fun _ hd=>(nestOut ((hS.later hd).res (i:=1) rfl))) (by kernel_rfl) (fun _=>e2) rfl) (ocons (ob1 (by kernel_rfl) (fun _ hd=>(hS.later hd).cell (i:=0) (j:=3) rfl rfl)) (ocons (obIdxQ (nestRow (hS.res (i:=1) rfl) e7 dR) (by kernel_rfl) (fun _=>dV)) (ocons (obElQ (i:=a0.B.Gate) 0 (fN_len 1) (fun _ hd=>(nestRow ((hS.later hd).res (i:=1) rfl) e7 dR)) (by kernel_rfl) (fun _=>dV) rfl) onil)))))))))))) ⟨by kernel_rfl⟩ fun a w hF hx=>?_
    replace hS:=hS.later hx
    refine wfn rfl ?_
    refine eseq ?_
    replace h:=bindS h
    obtain ⟨aD,gD,h⟩:=h
    replace h:=bindS h
    obtain ⟨aA,gE,h⟩:=h
    replace h:=bindS h
    obtain ⟨aP,gF,h⟩:=h
    refine region_treeW 11 [4,5,10] _ (D:=fun w=>St w0 [blk a5 206 a0.ar,nestR 48 43 1 (fN 1) a1 a4.length a3 aW b7,arr 206 5 ref03_Link.cells ad7 y6.length cap8 y6] w∧FrzAt ν6441 w) (by kernel_rfl) (by kernel_rfl) hF.size (fun w hx=>?_) (fun _ _ h=>h)
    replace hS:=hS.later hx
    refine ⟨⟨St.pick [0,1,2] (by decide) hS,hS.frz (i:=3) rfl hlow⟩,?_⟩
    have hC:=Frz.le_refl ν6441
    refine WT.s [0,1,2,3,6,7,8,9] [4] (by kernel_rfl) (by kernel_rfl) ?_
    refine runC (rest:=[]) (obs:=[.run [] (Instr.loadAt 3 (.pointer (some ⟨a5,4,none⟩))) (iv a0.Most),.run [] (Instr.loadAt 3 (.pointer (some ⟨a5,4,none⟩))) (iv a0.Most)]) [0,1,2,3,6,7,8,9] [(7,sv ad7 y6 cap8),(8,sv a1 a4 a3),(11,.bool aM),(12,iv a7),(13,pb a5),(14,sv aQ aK aT),(15,sv aR aL aU),(90,sv aQ aK aT),(91,sv aR aL aU),(93,iv a0.Most),(96,sv aR aL aU),(97,sv aQ aK aT),(99,iv a0.Most)] hF (by kernel_rfl) (by kernel_rfl) (ocons (ob1 (by kernel_rfl) (fun _ hd=>hd.1.cell (i:=0) (j:=4) rfl rfl)) (ocons (ob1 (by kernel_rfl) (fun _ hd=>hd.1.cell (i:=0) (j:=4) rfl rfl)) onil)) ⟨by kernel_rfl⟩ fun a hF=>?_
    refine WRun.fin ?_
    refine all_cons ?_ (all_nil)
    refine callK (f:=75) (args:=#[sv aR aL aU,iv a0.Most]) (R:=fun v w2=>∃ aX aY,v = sv aX aD aY∧St w [arr 25 2 api_Span.cells aX aD.length aY aD] w2) (fun eN=>[(7,sv ad7 y6 cap8),(8,sv a1 a4 a3),(11,.bool aM),(12,iv a7),(13,pb a5),(14,sv aQ aK aT),(15,sv aR aL aU),(90,sv aQ aK aT),(94,eN),(96,sv aR aL aU),(97,sv aQ aK aT),(99,iv a0.Most)]) hF (by kernel_rfl) ⟨by kernel_rfl⟩ (Calls.mono (ref03_wide_ok F aL a0.Most _ gD (memOf w) w (memOf_at w) (bT.mono (FrzAt.le_mem (hS.frz (i:=3) rfl hlow)))) (by rintro e w2 ⟨aX,aY,rfl,h⟩; exact ⟨_,rfl,aX,aY,rfl,h⟩)) (fun _=>⟨by kernel_rfl⟩) ?_
    rintro eN w a ⟨aX,aY,rfl,hQ⟩ hF
    replace hS : St w0 [arr 25 2 api_Span.cells aX aD.length aY aD,blk a5 206 a0.ar,nestR 48 43 1 (fN 1) a1 a4.length a3 aW b7,arr 206 5 ref03_Link.cells ad7 y6.length cap8 y6,fz w0 ν6441] w:=hS.madeL hQ
    refine ⟨⟨St.pick [1,2,3] (by decide) hS,(hS.frz (i:=4) rfl hlow)⟩,?_⟩
    refine WT.s [] [5] (by kernel_rfl) (by kernel_rfl) ?_
    refine WRun.fin ?_
    refine all_cons ?_ (all_nil)
    refine callK (f:=74) (args:=#[sv aQ aK aT,sv aX aD aY]) (R:=fun v w2=>∃ aE aG,v = sv aE aA aG∧St w [arr 25 2 api_Span.cells aE aA.length aG aA] w2) (fun eO=>[(7,sv ad7 y6 cap8),(8,sv a1 a4 a3),(11,.bool aM),(12,iv a7),(13,pb a5),(14,sv aQ aK aT),(15,sv aR aL aU),(95,eO),(96,sv aR aL aU),(97,sv aQ aK aT),(99,iv a0.Most)]) hF (by kernel_rfl) ⟨by kernel_rfl⟩ (Calls.mono (ref03_meet_ok F aK aD _ gE (memOf w) w (memOf_at w) (bS.mono (FrzAt.le_mem (hS.frz (i:=4) rfl hlow))) (Arr.toM (hS.arr (i:=0) rfl))) (by rintro e w2 ⟨aE,aG,rfl,h⟩; exact ⟨_,rfl,aE,aG,rfl,h⟩)) (fun _=>⟨by kernel_rfl⟩) ?_
    rintro eO w a ⟨aE,aG,rfl,hQ⟩ hF
    replace hS : St w0 [arr 25 2 api_Span.cells aE aA.length aG aA,arr 25 2 api_Span.cells aX aD.length aY aD,blk a5 206 a0.ar,nestR 48 43 1 (fN 1) a1 a4.length a3 aW b7,arr 206 5 ref03_Link.cells ad7 y6.length cap8 y6,fz w0 ν6441] w:=hS.madeL hQ
    refine ⟨⟨St.pick [2,3,4] (by decide) hS,(hS.frz (i:=5) rfl hlow)⟩,?_⟩
    refine WT.s [] [10] (by kernel_rfl) (by kernel_rfl) ?_
    refine WRun.fin ?_
    refine all_cons ?_ (all_nil)
    refine callK (f:=75) (args:=#[sv aQ aK aT,iv a0.Most]) (R:=fun v w2=>∃ b3 b4,v = sv b3 aP b4∧St w [arr 25 2 api_Span.cells b3 aP.length b4 aP] w2) (fun eP=>[(7,sv ad7 y6 cap8),(8,sv a1 a4 a3),(11,.bool aM),(12,iv a7),(13,pb a5),(14,sv aQ aK aT),(15,sv aR aL aU),(95,sv aE aA aG),(96,sv aR aL aU),(100,eP)]) hF (by kernel_rfl) ⟨by kernel_rfl⟩ (Calls.mono (ref03_wide_ok F aK a0.Most _ gF (memOf w) w (memOf_at w) (bS.mono (FrzAt.le_mem (hS.frz (i:=5) rfl hlow)))) (by rintro e w2 ⟨b3,b4,rfl,h⟩; exact ⟨_,rfl,b3,b4,rfl,h⟩)) (fun _=>⟨by kernel_rfl⟩) ?_
    rintro eP w a ⟨b3,b4,rfl,hQ⟩ hF
    replace hS : St w0 [arr 25 2 api_Span.cells b3 aP.length b4 aP,arr 25 2 api_Span.cells aE aA.length aG aA,arr 25 2 api_Span.cells aX aD.length aY aD,blk a5 206 a0.ar,nestR 48 43 1 (fN 1) a1 a4.length a3 aW b7,arr 206 5 ref03_Link.cells ad7 y6.length cap8 y6,fz w0 ν6441] w:=hS.madeL hQ
    refine ⟨⟨St.pick [3,4,5] (by decide) hS,(hS.frz (i:=6) rfl hlow)⟩,?_⟩
    refine WT.z [] (by kernel_rfl) ?_
    refine WRun.fin ?_
    replace h:=bindS h
    obtain ⟨aB,gG,h⟩:=h
    refine SK.wi (callK (f:=74) (args:=#[sv aR aL aU,sv b3 aP b4]) (R:=fun v w2=>∃ aF aH,v = sv aF aB aH∧St w [arr 25 2 api_Span.cells aF aB.length aH aB] w2) (fun eQ=>[(7,sv ad7 y6 cap8),(8,sv a1 a4 a3),(11,.bool aM),(12,iv a7),(13,pb a5),(14,sv aQ aK aT),(15,sv aR aL aU),(95,sv aE aA aG),(101,eQ)]) hF (by kernel_rfl) ⟨by kernel_rfl⟩ (Calls.mono (ref03_meet_ok F aL aP _ gG (memOf w) w (memOf_at w) (bT.mono (FrzAt.le_mem (hS.frz (i:=6) rfl hlow))) (Arr.toM (hS.arr (i:=0) rfl))) (by rintro e w2 ⟨aF,aH,rfl,h⟩; exact ⟨_,rfl,aF,aH,rfl,h⟩)) (fun _=>⟨by kernel_rfl⟩) ?_)
    rintro eQ w a ⟨aF,aH,rfl,hQ⟩ hF
    replace hS : St w0 [arr 25 2 api_Span.cells aF aB.length aH aB,arr 25 2 api_Span.cells b3 aP.length b4 aP,arr 25 2 api_Span.cells aE aA.length aG aA,arr 25 2 api_Span.cells aX aD.length aY aD,blk a5 206 a0.ar,nestR 48 43 1 (fN 1) a1 a4.length a3 aW b7,arr 206 5 ref03_Link.cells ad7 y6.length cap8 y6,fz w0 ν6441] w:=hS.madeL hQ
    refine rn 2 14 [(7,sv ad7 y6 cap8),(8,sv a1 a4 a3),(11,.bool aM),(12,iv a7),(13,pb a5),(14,sv aQ aK aT),(15,sv aR aL aU),(16,sv aE aA aG),(17,sv aF aB aH)] hF fun a hF=>?_
    refine wfn rfl ?_
    refine ecut (fun a w=>∃ (bE : Bool),Fr 135 [] [(7,sv ad7 y6 cap8),(8,sv a1 a4 a3),(11,.bool bE),(12,iv a7),(13,pb a5),(16,sv aE aA aG),(17,sv aF aB aH)] a∧St w0 [arr 25 2 api_Span.cells aF aB.length aH aB,arr 25 2 api_Span.cells b3 aP.length b4 aP,arr 25 2 api_Span.cells aE aA.length aG aA,arr 25 2 api_Span.cells aX aD.length aY aD,blk a5 206 a0.ar,nestR 48 43 1 (fN 1) a1 a4.length a3 aW b7,arr 206 5 ref03_Link.cells ad7 y6.length cap8 y6,fz w0 ν6441] w∧ref03_settled_K5 a7 a4 k4 a0 aA aB bE = some res) ?_ ?_
    ·skip
     refine esr ?_
     replace h:=bindS h
     obtain ⟨dH,gH,h⟩:=h
     replace h:=bindS h
     obtain ⟨eS,gI,h⟩:=h
     refine rx 10 [.call [] 108 #[sv aE aA aG,sv aQ aK aT] (.bool dH),.call [⟨106,false,(!dH)⟩] 108 #[sv aF aB aH,sv aR aL aU] (.bool eS)] 10 [(7,sv ad7 y6 cap8),(8,sv a1 a4 a3),(11,.bool aM),(12,iv a7),(13,pb a5),(16,sv aE aA aG),(17,sv aF aB aH),(111,.bool (bif (!dH) then true else (!eS)))] hF (ocons (show Ob.ok _ Ext _ _ from fun hk w2 hd=>ref03_Same_ok F aA aK _ ((fun _=>gH) hk) _ w2 (memOf_at w2) (Arr.toM ((hS.later hd).arr (i:=2) rfl)) (bS.mono (FrzAt.le_mem ((hS.later hd).frz (i:=7) rfl hlow)))) (ocons (show Ob.ok _ Ext _ _ from fun hk w2 hd=>ref03_Same_ok F aB aL _ ((fun hk=>gd_some gI hk) hk) _ w2 (memOf_at w2) (Arr.toM ((hS.later hd).arr (i:=0) rfl)) (bT.mono (FrzAt.le_mem ((hS.later hd).frz (i:=7) rfl hlow)))) onil)) fun a w hF hx=>?_
     replace hS:=hS.later hx
     refine wfn rfl ?_
     refine econd hF rfl (fun hc=>?_) (fun hc=>?_)
     ·replace h:=bif_t h hc
      refine WI.region ?_
      refine rn 1 1 [(7,sv ad7 y6 cap8),(8,sv a1 a4 a3),(11,.bool true),(12,iv a7),(13,pb a5),(16,sv aE aA aG),(17,sv aF aB aH)] hF fun a hF=>?_
      refine wfn rfl ?_
      exact ⟨true,hF.sub (by kernel_rfl),St.pick [0,1,2,3,4,5,6,7] (by decide) hS,h⟩
     ·replace h:=bif_f h hc
      refine wpIn_skip (norm_then ?_)
      exact ⟨aM,hF.sub (by kernel_rfl),St.pick [0,1,2,3,4,5,6,7] (by decide) hS,h⟩
    rintro a w ⟨bE,hF,hS,h⟩
    rw [ref03_settled_K5] at h
    replace h:=bindS h
    obtain ⟨eK,g0,h⟩:=h
    replace h:=bindS h
    obtain ⟨dD,g1,h⟩:=h
    replace h:=bindS h
    obtain ⟨gO,g2,h⟩:=h
    replace h:=bindS h
    obtain ⟨hH,fL,h⟩:=h
    replace h:=bindS h
    obtain ⟨dC,fM,h⟩:=h
    replace h:=bindS h
    obtain ⟨gP,g3,h⟩:=h
    replace h:=bindS h
    obtain ⟨gQ,g4,h⟩:=h
    refine region_treeW 23 [21] _ (D:=fun w=>St w0 [arr 25 2 api_Span.cells aF aB.length aH aB,arr 25 2 api_Span.cells b3 aP.length b4 aP,arr 25 2 api_Span.cells aX aD.length aY aD,blk a5 206 a0.ar,arr 206 5 ref03_Link.cells ad7 y6.length cap8 y6] w∧FrzAt ν6441 w∧Arr w 1 hdF a1 aW.length aW.length aW) (by kernel_rfl) (by kernel_rfl) hF.size (fun w hx=>?_) (fun _ _ h=>h)
    replace hS:=hS.later hx
    refine ⟨⟨St.pick [0,1,3,4,6] (by decide) hS,hS.frz (i:=7) rfl hlow,(nestOut (hS.res (i:=5) rfl)).tight⟩,?_⟩
    have d8:=Frz.le_refl ν6441
    obtain ⟨cM,dL,gV,e3,e8,dS,c1⟩:=NestOk.get bK g0
    obtain ⟨bY,cP,gW,e4,fI,hA,cX⟩:=NestOk.get bK g1
    obtain ⟨h3,dW,f9⟩:=getI_all2 c1 g2
    obtain ⟨eT,eW,rfl,cT⟩:=f9
    refine WT.s [0,1,2,3,4,5,6,7,8,9,10,11,12,13,14,15,16,17,18,19,20] [21] (by kernel_rfl) (by kernel_rfl) ?_
    refine runC (rest:=[]) (obs:=[.run [] (Instr.loadAt 3 (pb a5)) (iv a0.A.Ray),.run [] (Instr.indexAt 54 (sv a1 a4 a3) (iv a0.A.Ray)) (.pointer (some (slAddr a1 a0.A.Ray 1))),.run [] (Instr.loadAt 48 (.pointer (some (slAddr a1 a0.A.Ray 1)))) (sv cM eK dL),.run [] (Instr.loadAt 3 (.pointer (some ⟨a5,1,none⟩))) (iv a0.A.Gate),.run [] (Instr.loadAt 3 (.pointer (some ⟨a5,2,none⟩))) (iv a0.B.Ray),.run [] (Instr.indexAt 54 (sv a1 a4 a3) (iv a0.B.Ray)) (.pointer (some (slAddr a1 a0.B.Ray 1))),.run [] (Instr.loadAt 48 (.pointer (some (slAddr a1 a0.B.Ray 1)))) (sv bY dD cP),.run [] (Instr.loadAt 3 (.pointer (some ⟨a5,3,none⟩))) (iv a0.B.Gate),.run [] (Instr.indexAt 48 (sv cM eK dL) (iv a0.A.Gate)) (.pointer (some (slAddr cM a0.A.Gate 1)))]) [0,1,2,3,4,5,6,7,8,9,10,11,12,13,14,15,16,17,18,19,20] [(7,sv ad7 y6 cap8),(8,sv a1 a4 a3),(11,.bool bE),(12,iv a7),(126,sv bY dD cP),(129,iv a0.B.Gate),(130,sv aE aA aG),(131,sv aF aB aH),(132,.pointer (some (slAddr cM a0.A.Gate 1)))] hF (by kernel_rfl) (by kernel_rfl) (ocons (ob1 (by kernel_rfl) (fun _ hd=>hd.1.cell (i:=3) (j:=0) rfl rfl)) (ocons (obIdxQ (nestOut (hS.res (i:=5) rfl)) (by kernel_rfl) (fun _=>e3)) (ocons (obElQ (i:=a0.A.Ray) 0 hdF_len (fun _ hd=>hd.2.2) (by kernel_rfl) (fun _=>e3) rfl) (ocons (ob1 (by kernel_rfl) (fun _ hd=>hd.1.cell (i:=3) (j:=1) rfl rfl)) (ocons (ob1 (by kernel_rfl) (fun _ hd=>hd.1.cell (i:=3) (j:=2) rfl rfl)) (ocons (obIdxQ (nestOut (hS.res (i:=5) rfl)) (by kernel_rfl) (fun _=>e4)) (ocons (obElQ (i:=a0.B.Ray) 0 hdF_len (fun _ hd=>hd.2.2) (by kernel_rfl) (fun _=>e4) rfl) (ocons (ob1 (by kernel_rfl) (fun _ hd=>hd.1.cell (i:=3) (j:=3) rfl rfl)) (ocons (obIdxQ (nestRow (hS.res (i:=5) rfl) e8 dS) (by kernel_rfl) (fun _=>dW)) onil))))))))) ⟨by kernel_rfl⟩ fun a hF=>?_
    refine WRun.fin ?_
    refine all_cons ?_ (all_nil)
    obtain ⟨ν6630,aN,hlow,hS,gL⟩:=hS.freeze (i:=7) (j:=2) rfl rfl (by decide) hlow
    replace hA4:=hA4.mono Rp48.mono aN.1
    replace aC:=aC.mono Rp43.mono aN.1
    replace b2:=b2.mono Rp43.mono aN.1
    replace bJ:=bJ.mono Rp43.mono aN.1
    replace bK:=bK.mono Rp43.mono aN.1
    replace cI:=All2.mono Rp43.mono aN.1 cI
    replace bS:=bS.mono aN.1
    replace cJ:=All2.mono Rp43.mono aN.1 cJ
    replace bT:=bT.mono aN.1
    replace c1:=All2.mono Rp43.mono aN.1 c1
    replace cX:=All2.mono Rp43.mono aN.1 cX
    replace cT:=cT.mono aN.1
    replace aZ:=Frz.le_trans aZ aN.1
    replace bA:=Frz.le_trans bA aN.1
    replace b5:=Frz.le_trans b5 aN.1
    replace b6:=Frz.le_trans b6 aN.1
    replace d8:=Frz.le_trans d8 aN.1
    replace hext:=Frz.ext_trans hext aN
    replace hS : St w0 [arr 25 2 api_Span.cells aF aB.length aH aB,arr 25 2 api_Span.cells b3 aP.length b4 aP,arr 25 2 api_Span.cells aX aD.length aY aD,blk a5 206 a0.ar,nestR 48 43 1 (fN 1) a1 a4.length a3 aW b7,arr 206 5 ref03_Link.cells ad7 y6.length cap8 y6,fz w0 ν6630] w:=hS
    have d6:=ArrM.of_arr gL
    refine setNK (t:=43) (j:=a0.A.Gate) (S:=Rp43 ν6630) [(7,sv ad7 y6 cap8),(8,sv a1 a4 a3),(11,.bool bE),(12,iv a7),(126,sv bY dD cP),(129,iv a0.B.Gate),(131,sv aF aB aH)] 4 a0.A.Ray 0 [sv eT gO eW] [sv aE aA aG] aA (sv aE aA aG) bK ⟨aE,aG,rfl,d6⟩ hF hS rfl (by kernel_rfl) ⟨by kernel_rfl⟩ (fN_len 1) e8 dS c1 dW rfl (by kernel_rfl) (by kernel_rfl) (by kernel_rfl) fL fM ⟨by kernel_rfl⟩ fun f0 w a hF hL_ hl cY hS=>⟨⟨St.pick [0,1,2,3,5] (by decide) hS,(hS.frz (i:=6) rfl hlow).low d8,(nestOut (hS.res (i:=4) rfl)).tight⟩,?_⟩
    simp only [sv,ln,hL_] at hF hS
    obtain ⟨gR,gZ,gX,hD,d9,dT,cZ⟩:=NestOk.get cY g3
    obtain ⟨e1_,fO,e2_⟩:=hd_inj fI d9
    subst e1_
    subst e2_
    simp only [sv,ln,fO] at hF
    obtain ⟨h4,dX,fA⟩:=getI_all2 cZ g4
    obtain ⟨eU,eX,rfl,dO⟩:=fA
    refine WT.z [22] (by kernel_rfl) ?_
    refine runC (rest:=[]) (obs:=[.run [] (Instr.indexAt 48 (sv bY gP cP) (iv a0.B.Gate)) (.pointer (some (slAddr bY a0.B.Gate 1)))]) [22] [(7,sv ad7 y6 cap8),(8,sv a1 dC a3),(11,.bool bE),(12,iv a7),(131,sv aF aB aH),(133,.pointer (some (slAddr bY a0.B.Gate 1)))] hF (by kernel_rfl) (by kernel_rfl) (ocons (obIdxQ (nestRow (hS.res (i:=4) rfl) d9 dT) (by kernel_rfl) (fun _=>dX)) onil) ⟨by kernel_rfl⟩ fun a hF=>?_
    refine WRun.fin ?_
    obtain ⟨ν6650,aI,hlow,hS,gM⟩:=hS.freeze (i:=6) (j:=0) rfl rfl (by decide) hlow
    replace hA4:=hA4.mono Rp48.mono aI.1
    replace aC:=aC.mono Rp43.mono aI.1
    replace b2:=b2.mono Rp43.mono aI.1
    replace bJ:=bJ.mono Rp43.mono aI.1
    replace cI:=All2.mono Rp43.mono aI.1 cI
    replace bS:=bS.mono aI.1
    replace cJ:=All2.mono Rp43.mono aI.1 cJ
    replace bT:=bT.mono aI.1
    replace c1:=All2.mono Rp43.mono aI.1 c1
    replace cX:=All2.mono Rp43.mono aI.1 cX
    replace cT:=cT.mono aI.1
    replace d6:=d6.mono aI.1
    replace cY:=cY.mono Rp43.mono aI.1
    replace cZ:=All2.mono Rp43.mono aI.1 cZ
    replace dO:=dO.mono aI.1
    replace aZ:=Frz.le_trans aZ aI.1
    replace bA:=Frz.le_trans bA aI.1
    replace b5:=Frz.le_trans b5 aI.1
    replace b6:=Frz.le_trans b6 aI.1
    replace hext:=Frz.ext_trans hext aI
    replace hS : St w0 [arr 25 2 api_Span.cells b3 aP.length b4 aP,arr 25 2 api_Span.cells aX aD.length aY aD,blk a5 206 a0.ar,nestR 48 43 1 (fN 1) a1 dC.length a3 aW f0,arr 206 5 ref03_Link.cells ad7 y6.length cap8 y6,fz w0 ν6650] w:=hS
    have f5:=ArrM.of_arr gM
    replace h:=bindS h
    obtain ⟨hI,fP,h⟩:=h
    replace h:=bindS h
    obtain ⟨eG,fQ,h⟩:=h
    refine SK.wi (setNK (t:=43) (j:=a0.B.Gate) (S:=Rp43 ν6650) [(7,sv ad7 y6 cap8),(8,sv a1 dC a3),(11,.bool bE),(12,iv a7)] 3 a0.B.Ray 0 [sv eU gQ eX] [sv aF aB aH] aB (sv aF aB aH) cY ⟨aF,aH,rfl,f5⟩ hF hS rfl (by kernel_rfl) ⟨by kernel_rfl⟩ (fN_len 1) d9 dT cZ dX rfl (by kernel_rfl) (by kernel_rfl) (by kernel_rfl) fP fQ ⟨by kernel_rfl⟩ fun f1 w a hF hL_ hl fS hS=>?_)
    simp only [sv,ln,hL_] at hF hS
    refine WI.fin rfl (norm_block <| norm_then <| ?_)
    refine WI.region ?_
    replace h:=bindS h
    obtain ⟨dE,gA,h⟩:=h
    refine rno 3 [.run [] (binOp .add 3 (iv a7) (iv 1)) (iv dE)] 3 [(7,sv ad7 y6 cap8),(8,sv a1 eG a3),(11,.bool bE),(12,iv dE)] hF (ocons (obAddC (fun _=>gA)) onil) fun a hF=>?_
    refine wfn rfl ?_
    rw [hk4] at h
    exact ⟨nk4,Nat.lt_succ_self _,bE,dE,eG,ν6650,a1,a3,aW,f1,hF.sub (by kernel_rfl),St.pick [3,4,5] (by decide) hS,fS,b6,hext,hlow,h⟩
   ·replace h:=bif_f h hc
    refine wpIn_exit (exit_then <| exit_then <| exit_hit <| norm_block <| norm_then <| ?_)
    rw [hk3] at h
    exact ⟨nk3,Nat.lt_succ_self _,aM,a4,ν6441,a1,a3,aW,b7,hF.sub (by kernel_rfl),St.pick [0,1,2] (by decide) hS,bK,b5,hext,hlow,h⟩
  ·replace h:=bif_f h hc
   refine wpIn_exit (exit_then <| exit_then <| exit_hit <| norm_then ?_)
   exact ⟨b8,ν6001,bH,bI,cF,cB,hF.sub (by kernel_rfl),St.pick [0,1,2] (by decide) hS,bJ,bA,hext,hlow,h⟩
 clear bA
 rintro a w ⟨bN,ν4677,bO,bQ,cE,d5,hF,hS,dA,c0,hext,hlow,h⟩
 replace hA4:=hA4.mono Rp48.mono c0
 replace aC:=aC.mono Rp43.mono c0
 replace b2:=b2.mono Rp43.mono c0
 replace aZ:=Frz.le_trans aZ c0
 rw [ref03_settled_K2] at h
 refine esr ?_
 refine rn 2 2 [(6,sv bO bN bQ)] hF fun a hF=>?_
 refine wfn rfl ?_
 refine wpIn_ret (fn_ret [.tmp 6] [sv bO bN bQ] hF rfl ⟨rfl,trivial⟩ ?_)
 obtain ⟨ν4685,bV,hlow,hS,gK⟩:=hS.freeze (i:=2) (j:=0) rfl rfl (by decide) hlow
 replace hA4:=hA4.mono Rp48.mono bV.1
 replace aC:=aC.mono Rp43.mono bV.1
 replace b2:=b2.mono Rp43.mono bV.1
 replace dA:=dA.mono Rp43.mono bV.1
 replace aZ:=Frz.le_trans aZ bV.1
 replace c0:=Frz.le_trans c0 bV.1
 replace hext:=Frz.ext_trans hext bV
 replace hS : St w0 [arr 206 5 ref03_Link.cells ad7 y6.length cap8 y6,fz w0 ν4685] w:=hS
 have f4 : ArrQ ν4685 1 Rp48 bO bQ (cE.map hdF) bN:=nestQ gK dA (fun ad_ cap_ c_ x_ h1_ h2_=>⟨ad_,cap_,c_,rfl,ArrQ.of_rows h1_ h2_⟩)
 have hr_:=Option.some.inj h
 subst hr_
 exact ⟨ν4685,bO,bQ,(cE.map hdF),hext,rfl,f4,St.pick [1] (by decide) hS⟩
end Go.Proofs.Ytbhjgebjojdohaa
