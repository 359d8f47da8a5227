import Derived.Test.YtbhjgebjojdohaaF11XD
import Derived.Test.YtbhjgebjojdohaaProg
import Derived.Test.YtbhjgebjojdohaaF11XW0
import Derived.Test.YtbhjgebjojdohaaF11XW1
namespace Go.Proofs.Ytbhjgebjojdohaa
open Go Go.RowKit Go.Eng
set_option maxRecDepth 10000
set_option maxHeartbeats 4000000
set_option linter.unusedVariables false
set_option linter.unusedSimpArgs false
theorem fold_row_ok (F : Nat) (p0 : (List (List api_Span))) (res : ((List (List api_Span))×Int)) (h : fold_row F p0 = some res) (μ : Frz) (w0 : World) (hm : FrzAt μ w0) {ad1 : Option Addr} {cap2 : Nat} {css3 : List (List Value)} (hA4 : ArrQ μ 1 Rp43 ad1 cap2 css3 p0) : Calls Try.prog 65 #[sv ad1 p0 cap2] w0 (fun e w=>∃ (ν_ : Frz) (zad0 : Option Addr) (zcap0 : Nat) (zcss0 : List (List Value)),μ.ext w0.heap.size ν_∧e = .returned (.tuple #[sv zad0 res.1 zcap0,iv res.2])∧All2 (Rp132 ν_) zcss0 res.1∧St w0 [fz w0 ν_,arr 132 1 (fN 1) zad0 res.1.length zcap0 zcss0] w):=by
 obtain ⟨hlow,hS⟩:=hm.init
 have hext:=Frz.ext_refl w0.heap.size μ
 rw [fold_row] at h
 refine fn_enterW Try.func65 rfl 29 [(0,sv ad1 p0 cap2)] rfl rfl (by kernel_rfl) fun a w hw hF=>?_
 replace hS : St w0 [fz w0 μ] w:=by rw [hw]; exact hS
 clear hw
 refine esr ?_
 refine rn 2 2 [(0,sv ad1 p0 cap2)] hF fun a hF=>?_
 refine wfn rfl ?_
 refine eseq ?_
 refine esr ?_
 refine rn 3 3 [(0,sv ad1 p0 cap2),(10,.bool (decide ((ln p0) > 200)))] hF fun a hF=>?_
 refine wfn rfl ?_
 refine econd hF rfl (fun hc=>?_) (fun hc=>?_)
 ·replace h:=bif_t h hc
  refine esr ?_
  refine rn 2 2 [(2,.slice none 0 0),(3,iv 9)] hF fun a hF=>?_
  refine wfn rfl ?_
  refine wpIn_ret (ret_then <| fn_ret [.tmp 2,.tmp 3] [.slice none 0 0,iv 9] hF rfl ⟨rfl,rfl,trivial⟩ ?_)
  have hr_:=Option.some.inj h
  subst hr_
  replace hS:=hS.nilarr 132 1 (fN 1)
  exact ⟨μ,_,_,_,hext,rfl,All2.nil,St.pick [1,0] (by decide) hS⟩
 ·replace h:=bif_f h hc
  refine wpIn_skip (norm_then ?_)
  refine esr ?_
  refine rn 1 1 [(0,sv ad1 p0 cap2),(4,.slice none 0 0)] hF fun a hF=>?_
  refine wfn rfl ?_
  have aC:=Frz.le_refl μ
  refine ecut (fun a w=>∃ (aB : (List (List api_Span))) (ν94 : Frz) (aG : Option Addr) (aI : Nat) (aN : List (List Value)),Fr 29 [] [(4,sv aG aB aI)] a∧St w0 [arr 132 1 (fN 1) aG aB.length aI aN,fz w0 ν94] w∧(All2 (Rp132 ν94) aN aB)∧(μ.le ν94)∧(μ.ext w0.heap.size ν94)∧(FrzIn w0 ν94)∧fold_row_K1 aB = some res) ?_ ?_
  ·skip
   refine esr ?_
   refine rn 3 3 [(4,.slice none 0 0),(11,sv ad1 p0 cap2),(12,iv (ln p0)),(13,iv 0)] hF fun a hF=>?_
   refine wfn rfl ?_
   refine wpIn_block ?_
   have aR:=Frz.le_refl μ
   replace hS:=hS.nilarr 132 1 (fN 1)
   refine eloop (fun n_ a w=>∃ (a1 : Int) (a0 : (List (List api_Span))) (ν158 : Frz) (a2 : Option Addr) (a3 : Nat) (a7 : List (List Value)),Fr 29 [] [(4,sv a2 a0 a3),(11,sv ad1 p0 cap2),(12,iv (ln p0)),(13,iv a1)] a∧St w0 [arr 132 1 (fN 1) a2 a0.length a3 a7,fz w0 ν158] w∧(All2 (Rp132 ν158) a7 a0)∧(μ.le ν158)∧(μ.ext w0.heap.size ν158)∧(FrzIn w0 ν158)∧fold_row_L2 F p0 n_ a1 a0 = some res) F ⟨0,[],μ,none,0,[],hF.sub (by kernel_rfl),St.pick [0,1] (by decide) hS,All2.nil,aR,hext,hlow,h⟩ ?_
   clear aR
   rintro nk2 a w ⟨a1,a0,ν158,a2,a3,a7,hF,hS,aM,aJ,hext,hlow,h⟩
   rcases nk2 with _ | nk2
   ·cases (show (none : Option ((List (List api_Span))×Int)) = some res from h)
   replace hA4:=hA4.mono Rp43.mono aJ
   replace aC:=Frz.le_trans aC aJ
   obtain ⟨k2,hk2⟩ : ∃ k,k = fold_row_L2 F p0 nk2:=⟨_,rfl⟩
   replace h : fold_row_B2 F p0 k2 a1 a0 = some res:=by rw [hk2]; exact h
   rw [fold_row_B2] at h
   refine esr ?_
   refine rn 1 1 [(4,sv a2 a0 a3),(11,sv ad1 p0 cap2),(12,iv (ln p0)),(13,iv a1),(14,.bool (decide (a1 < (ln p0))))] hF fun a hF=>?_
   refine wfn rfl ?_
   refine eseq ?_
   refine econd hF rfl (fun hc=>?_) (fun hc=>?_)
   ·replace h:=bif_t h hc
    refine wpIn_skip (norm_then ?_)
    refine eseq ?_
    refine wpIn_block ?_
    refine esr ?_
    replace h:=bindS h
    obtain ⟨a8,b0,h⟩:=h
    obtain ⟨b5,aQ,aW⟩:=getI_all2 hA4.2 b0
    obtain ⟨a9,aA,rfl,aL⟩:=aW
    refine rno 3 [.run [] (Instr.indexAt 48 (sv ad1 p0 cap2) (iv a1)) (.pointer (some (slAddr ad1 a1 1))),.run [] (Instr.loadAt 43 (.pointer (some (slAddr ad1 a1 1)))) (sv a9 a8 aA)] 3 [(4,sv a2 a0 a3),(6,sv a9 a8 aA),(11,sv ad1 p0 cap2),(12,iv (ln p0)),(13,iv a1)] hF (ocons (obIdxQ (hA4.at (hS.frz (i:=1) rfl hlow)) (by kernel_rfl) (fun _=>aQ)) (ocons (obElQ (i:=a1) 0 (fN_len 1) (fun _ hd=>(hA4.at ((hS.at_ hd).frz (i:=1) rfl hlow))) (by kernel_rfl) (fun _=>aQ) rfl) onil)) fun a hF=>?_
    refine wfn rfl ?_
    refine eseq ?_
    refine esr ?_
    replace h:=bindS h
    obtain ⟨aE,b2,h⟩:=h
    refine rx 3 [.call [] 61 #[sv a9 a8 aA,.bool true] (iv aE)] 3 [(4,sv a2 a0 a3),(6,sv a9 a8 aA),(7,iv aE),(11,sv ad1 p0 cap2),(12,iv (ln p0)),(13,iv a1)] hF (ocons (show Ob.ok _ Ext _ _ from fun hk w2 hd=>fold_checked_ok F a8 true _ ((fun _=>b2) hk) _ w2 (memOf_at w2) (aL.mono (FrzAt.le_mem ((hS.later hd).frz (i:=1) rfl hlow)))) onil) fun a w hF hx=>?_
    replace hS:=hS.later hx
    refine wfn rfl ?_
    refine esr ?_
    refine rn 2 2 [(4,sv a2 a0 a3),(6,sv a9 a8 aA),(7,iv aE),(11,sv ad1 p0 cap2),(12,iv (ln p0)),(13,iv a1),(20,.bool (aE != 0))] hF fun a hF=>?_
    refine wfn rfl ?_
    refine econd hF rfl (fun hc=>?_) (fun hc=>?_)
    ·replace h:=bif_t h hc
     refine esr ?_
     refine rn 3 3 [(2,.slice none 0 0),(3,iv aE)] hF fun a hF=>?_
     refine wfn rfl ?_
     refine wpIn_ret (ret_then <| ret_block <| ret_then <| ret_then <| ret_block <| ret_then <| fn_ret [.tmp 2,.tmp 3] [.slice none 0 0,iv aE] hF rfl ⟨rfl,rfl,trivial⟩ ?_)
     have hr_:=Option.some.inj h
     subst hr_
     replace hS:=hS.nilarr 132 1 (fN 1)
     exact ⟨ν158,_,_,_,hext,rfl,All2.nil,St.pick [2,0] (by decide) hS⟩
    ·replace h:=bif_f h hc
     refine wpIn_skip (norm_then ?_)
     refine WI.region ?_
     refine rn 2 2 [(4,sv a2 a0 a3),(11,sv ad1 p0 cap2),(12,iv (ln p0)),(13,iv a1),(22,sv a2 a0 a3),(23,sv a9 a8 aA)] hF fun a hF=>?_
     replace h:=bindS h
     obtain ⟨a4,b3,h⟩:=h
     refine SK.wi (callK (f:=62) (args:=#[sv a9 a8 aA]) (R:=fun v w2=>∃ a5 a6,v = sv a5 a4 a6∧St w [arr 25 2 api_Span.cells a5 a4.length a6 a4] w2) (fun aU=>[(4,sv a2 a0 a3),(11,sv ad1 p0 cap2),(12,iv (ln p0)),(13,iv a1),(22,sv a2 a0 a3),(24,aU)]) hF (by kernel_rfl) ⟨by kernel_rfl⟩ (Calls.mono (fold_speeds_united_ok F a8 _ b3 (memOf w) w (memOf_at w) (aL.mono (FrzAt.le_mem (hS.frz (i:=1) rfl hlow)))) (by rintro e w2 ⟨a5,a6,rfl,h⟩; exact ⟨_,rfl,a5,a6,rfl,h⟩)) (fun _=>⟨by kernel_rfl⟩) ?_)
     rintro aU w a ⟨a5,a6,rfl,hQ⟩ hF
     replace hS : St w0 [arr 25 2 api_Span.cells a5 a4.length a6 a4,arr 132 1 (fN 1) a2 a0.length a3 a7,fz w0 ν158] w:=hS.madeL hQ
     obtain ⟨ν180,aD,hlow,hS,b4⟩:=hS.freeze (i:=2) (j:=0) rfl rfl (by decide) hlow
     replace hA4:=hA4.mono Rp43.mono aD.1
     replace aM:=All2.mono Rp132.mono aD.1 aM
     replace aL:=aL.mono aD.1
     replace aC:=Frz.le_trans aC aD.1
     replace aJ:=Frz.le_trans aJ aD.1
     replace hext:=Frz.ext_trans hext aD
     replace hS : St w0 [arr 132 1 (fN 1) a2 a0.length a3 a7,fz w0 ν180] w:=hS
     have aV:=ArrM.of_arr b4
     have aT : All2 (Rp132 ν180) ([[sv a5 a4 a6]] : List (List Value)) [a4]:=(All2.cons ⟨a5,a6,rfl,aV⟩ All2.nil)
     refine SK.wi (litQK (e:=132) (sz:=1) (f:=fN 1) (t:=135) (len:=1) (fun aP=>[(4,sv a2 a0 a3),(11,sv ad1 p0 cap2),(12,iv (ln p0)),(13,iv a1),(22,sv a2 a0 a3),(25,sb aP 1)]) #[(0,sv a5 a4 a6)] #[sv a5 a4 a6] ([[sv a5 a4 a6]] : List (List Value)) ([a4]) hF hS (by kernel_rfl) ⟨by kernel_rfl⟩ (by kernel_rfl) (fN_len 1) rfl rfl rfl (by kernel_rfl) (fun _=>⟨by kernel_rfl⟩) fun aP w a hF hS=>?_)
     replace h:=bindS h
     obtain ⟨aK,aS,h⟩:=h
     have aY : All2 (Rp132 ν180) (a7 ++ ([[sv a5 a4 a6]] : List (List Value))) aK:=by rw [(apd_some aS).1]; exact All2.app aM aT
     refine SK.wi (appQK (t:=135) (ty:=135) (bytes:=24) (c:=a7) (c':=([[sv a5 a4 a6]] : List (List Value))) (l:=a0) (l':=([a4])) (fun aF aH=>[(4,sv a2 a0 a3),(11,sv ad1 p0 cap2),(12,iv (ln p0)),(13,iv a1),(26,sv aF aK aH)]) 1 hF hS rfl (by kernel_rfl) ⟨by kernel_rfl⟩ (by kernel_rfl) (hS.arr (i:=0) rfl) (ArrQ.one aT Rp132.one) aS (fun _ _=>⟨by kernel_rfl⟩) fun aF aH w a hF hS=>?_)
     refine rn 1 6 [(4,sv aF aK aH),(11,sv ad1 p0 cap2),(12,iv (ln p0)),(13,iv a1)] hF fun a hF=>?_
     refine WI.fin rfl (norm_block <| norm_then <| ?_)
     refine WI.region ?_
     replace h:=bindS h
     obtain ⟨aO,b1,h⟩:=h
     refine rno 2 [.run [] (binOp .add 3 (iv a1) (iv 1)) (iv aO)] 2 [(4,sv aF aK aH),(11,sv ad1 p0 cap2),(12,iv (ln p0)),(13,iv aO)] hF (ocons (obAddC (fun _=>b1)) onil) fun a hF=>?_
     refine wfn rfl ?_
     rw [hk2] at h
     exact ⟨nk2,Nat.lt_succ_self _,aO,aK,ν180,aF,aH,(a7 ++ ([[sv a5 a4 a6]] : List (List Value))),hF.sub (by kernel_rfl),St.pick [1,2] (by decide) hS,aY,aJ,hext,hlow,h⟩
   ·replace h:=bif_f h hc
    refine wpIn_exit (exit_then <| exit_then <| exit_hit <| norm_then ?_)
    exact ⟨a0,ν158,a2,a3,a7,hF.sub (by kernel_rfl),St.pick [0,1] (by decide) hS,aM,aC,hext,hlow,h⟩
  clear aC
  rintro a w ⟨aB,ν94,aG,aI,aN,hF,hS,aZ,aX,hext,hlow,h⟩
  replace hA4:=hA4.mono Rp43.mono aX
  rw [fold_row_K1] at h
  refine esr ?_
  refine rn 3 3 [(2,sv aG aB aI),(3,iv 0)] hF fun a hF=>?_
  refine wfn rfl ?_
  refine wpIn_ret (fn_ret [.tmp 2,.tmp 3] [sv aG aB aI,iv 0] hF rfl ⟨rfl,rfl,trivial⟩ ?_)
  have hr_:=Option.some.inj h
  subst hr_
  exact ⟨ν94,_,_,_,hext,rfl,aZ,St.pick [1,0] (by decide) hS⟩
theorem fold_back_ok (F : Nat) (p0 : (List (List api_Span))) (res : (List (List api_Span))) (h : fold_back F p0 = some res) (μ : Frz) (w0 : World) (hm : FrzAt μ w0) {ad1 : Option Addr} {cap2 : Nat} {css3 : List (List Value)} (hA4 : ArrQ μ 1 Rp132 ad1 cap2 css3 p0) : Calls Try.prog 70 #[sv ad1 p0 cap2] w0 (fun e w=>∃ (ν_ : Frz) (zad0 : Option Addr) (zcap0 : Nat) (zcss0 : List (List Value)),μ.ext w0.heap.size ν_∧e = .returned (sv zad0 res zcap0)∧All2 (Rp43 ν_) zcss0 res∧St w0 [fz w0 ν_,arr 43 1 (fN 1) zad0 res.length zcap0 zcss0] w):=by
 obtain ⟨hlow,hS⟩:=hm.init
 have hext:=Frz.ext_refl w0.heap.size μ
 rw [fold_back] at h
 refine fn_enterW Try.func70 rfl 19 [(0,sv ad1 p0 cap2)] rfl rfl (by kernel_rfl) fun a w hw hF=>?_
 replace hS : St w0 [fz w0 μ] w:=by rw [hw]; exact hS
 clear hw
 refine esr ?_
 refine rn 1 1 [(0,sv ad1 p0 cap2)] hF fun a hF=>?_
 refine wfn rfl ?_
 refine esr ?_
 refine rn 1 1 [(0,sv ad1 p0 cap2),(3,.slice none 0 0)] hF fun a hF=>?_
 refine wfn rfl ?_
 have a9:=Frz.le_refl μ
 refine ecut (fun a w=>∃ (a8 : (List (List api_Span))) (ν91 : Frz) (aC : Option Addr) (aE : Nat) (aL : List (List Value)),Fr 19 [] [(3,sv aC a8 aE)] a∧St w0 [arr 43 1 (fN 1) aC a8.length aE aL,fz w0 ν91] w∧(All2 (Rp43 ν91) aL a8)∧(μ.le ν91)∧(μ.ext w0.heap.size ν91)∧(FrzIn w0 ν91)∧fold_back_K1 a8 = some res) ?_ ?_
 ·skip
  refine esr ?_
  refine rn 3 3 [(3,.slice none 0 0),(6,sv ad1 p0 cap2),(7,iv (ln p0)),(8,iv 0)] hF fun a hF=>?_
  refine wfn rfl ?_
  refine wpIn_block ?_
  have aQ:=Frz.le_refl μ
  replace hS:=hS.nilarr 43 1 (fN 1)
  refine eloop (fun n_ a w=>∃ (a0 : (List (List api_Span))) (a1 : Int) (ν153 : Frz) (a2 : Option Addr) (a3 : Nat) (a7 : List (List Value)),Fr 19 [] [(3,sv a2 a0 a3),(6,sv ad1 p0 cap2),(7,iv (ln p0)),(8,iv a1)] a∧St w0 [arr 43 1 (fN 1) a2 a0.length a3 a7,fz w0 ν153] w∧(All2 (Rp43 ν153) a7 a0)∧(μ.le ν153)∧(μ.ext w0.heap.size ν153)∧(FrzIn w0 ν153)∧fold_back_L2 F p0 n_ a0 a1 = some res) F ⟨[],0,μ,none,0,[],hF.sub (by kernel_rfl),St.pick [0,1] (by decide) hS,All2.nil,aQ,hext,hlow,h⟩ ?_
  clear aQ
  rintro nk2 a w ⟨a0,a1,ν153,a2,a3,a7,hF,hS,aK,aF,hext,hlow,h⟩
  rcases nk2 with _ | nk2
  ·cases (show (none : Option (List (List api_Span))) = some res from h)
  replace hA4:=hA4.mono Rp132.mono aF
  replace a9:=Frz.le_trans a9 aF
  obtain ⟨k2,hk2⟩ : ∃ k,k = fold_back_L2 F p0 nk2:=⟨_,rfl⟩
  replace h : fold_back_B2 F p0 k2 a0 a1 = some res:=by rw [hk2]; exact h
  rw [fold_back_B2] at h
  refine esr ?_
  refine rn 1 1 [(3,sv a2 a0 a3),(6,sv ad1 p0 cap2),(7,iv (ln p0)),(8,iv a1),(9,.bool (decide (a1 < (ln p0))))] hF fun a hF=>?_
  refine wfn rfl ?_
  refine eseq ?_
  refine econd hF rfl (fun hc=>?_) (fun hc=>?_)
  ·replace h:=bif_t h hc
   refine wpIn_skip (norm_then ?_)
   refine eseq ?_
   refine wpIn_block ?_
   refine esr ?_
   replace h:=bindS h
   obtain ⟨aH,aZ,h⟩:=h
   obtain ⟨b3,aP,aV⟩:=getI_all2 hA4.2 aZ
   obtain ⟨aI,aJ,rfl,aM⟩:=aV
   refine rno 3 [.run [] (Instr.indexAt 135 (sv ad1 p0 cap2) (iv a1)) (.pointer (some (slAddr ad1 a1 1))),.run [] (Instr.loadAt 132 (.pointer (some (slAddr ad1 a1 1)))) (sv aI aH aJ)] 3 [(3,sv a2 a0 a3),(5,sv aI aH aJ),(6,sv ad1 p0 cap2),(7,iv (ln p0)),(8,iv a1)] hF (ocons (obIdxQ (hA4.at (hS.frz (i:=1) rfl hlow)) (by kernel_rfl) (fun _=>aP)) (ocons (obElQ (i:=a1) 0 (fN_len 1) (fun _ hd=>(hA4.at ((hS.at_ hd).frz (i:=1) rfl hlow))) (by kernel_rfl) (fun _=>aP) rfl) onil)) fun a hF=>?_
   refine wfn rfl ?_
   refine WI.region ?_
   refine rn 2 2 [(3,sv a2 a0 a3),(6,sv ad1 p0 cap2),(7,iv (ln p0)),(8,iv a1),(12,sv a2 a0 a3),(13,sv aI aH aJ)] hF fun a hF=>?_
   replace h:=bindS h
   obtain ⟨a4,b1,h⟩:=h
   refine SK.wi (callK (f:=99) (args:=#[sv aI aH aJ]) (R:=fun v w2=>∃ a5 a6,v = sv a5 a4 a6∧St w [arr 25 2 api_Span.cells a5 a4.length a6 a4] w2) (fun aT=>[(3,sv a2 a0 a3),(6,sv ad1 p0 cap2),(7,iv (ln p0)),(8,iv a1),(12,sv a2 a0 a3),(14,aT)]) hF (by kernel_rfl) ⟨by kernel_rfl⟩ (Calls.mono (slices_Clone_fold_speeds_api_Span_ok F aH _ b1 (memOf w) w (memOf_at w) (aM.mono (FrzAt.le_mem (hS.frz (i:=1) rfl hlow)))) (by rintro e w2 ⟨a5,a6,rfl,h⟩; exact ⟨_,rfl,a5,a6,rfl,h⟩)) (fun _=>⟨by kernel_rfl⟩) ?_)
   rintro aT w a ⟨a5,a6,rfl,hQ⟩ hF
   replace hS : St w0 [arr 25 2 api_Span.cells a5 a4.length a6 a4,arr 43 1 (fN 1) a2 a0.length a3 a7,fz w0 ν153] w:=hS.madeL hQ
   obtain ⟨ν174,aA,hlow,hS,b2⟩:=hS.freeze (i:=2) (j:=0) rfl rfl (by decide) hlow
   replace hA4:=hA4.mono Rp132.mono aA.1
   replace aK:=All2.mono Rp43.mono aA.1 aK
   replace aM:=aM.mono aA.1
   replace a9:=Frz.le_trans a9 aA.1
   replace aF:=Frz.le_trans aF aA.1
   replace hext:=Frz.ext_trans hext aA
   replace hS : St w0 [arr 43 1 (fN 1) a2 a0.length a3 a7,fz w0 ν174] w:=hS
   have aU:=ArrM.of_arr b2
   have aS : All2 (Rp43 ν174) ([[sv a5 a4 a6]] : List (List Value)) [a4]:=(All2.cons ⟨a5,a6,rfl,aU⟩ All2.nil)
   refine SK.wi (litQK (e:=43) (sz:=1) (f:=fN 1) (t:=48) (len:=1) (fun aO=>[(3,sv a2 a0 a3),(6,sv ad1 p0 cap2),(7,iv (ln p0)),(8,iv a1),(12,sv a2 a0 a3),(15,sb aO 1)]) #[(0,sv a5 a4 a6)] #[sv a5 a4 a6] ([[sv a5 a4 a6]] : List (List Value)) ([a4]) hF hS (by kernel_rfl) ⟨by kernel_rfl⟩ (by kernel_rfl) (fN_len 1) rfl rfl rfl (by kernel_rfl) (fun _=>⟨by kernel_rfl⟩) fun aO w a hF hS=>?_)
   replace h:=bindS h
   obtain ⟨aG,aR,h⟩:=h
   have aX : All2 (Rp43 ν174) (a7 ++ ([[sv a5 a4 a6]] : List (List Value))) aG:=by rw [(apd_some aR).1]; exact All2.app aK aS
   refine SK.wi (appQK (t:=48) (ty:=48) (bytes:=24) (c:=a7) (c':=([[sv a5 a4 a6]] : List (List Value))) (l:=a0) (l':=([a4])) (fun aB aD=>[(3,sv a2 a0 a3),(6,sv ad1 p0 cap2),(7,iv (ln p0)),(8,iv a1),(16,sv aB aG aD)]) 1 hF hS rfl (by kernel_rfl) ⟨by kernel_rfl⟩ (by kernel_rfl) (hS.arr (i:=0) rfl) (ArrQ.one aS Rp43.one) aR (fun _ _=>⟨by kernel_rfl⟩) fun aB aD w a hF hS=>?_)
   refine rn 1 6 [(3,sv aB aG aD),(6,sv ad1 p0 cap2),(7,iv (ln p0)),(8,iv a1)] hF fun a hF=>?_
   refine WI.fin rfl (norm_block <| norm_then <| ?_)
   refine WI.region ?_
   replace h:=bindS h
   obtain ⟨aN,b0,h⟩:=h
   refine rno 2 [.run [] (binOp .add 3 (iv a1) (iv 1)) (iv aN)] 2 [(3,sv aB aG aD),(6,sv ad1 p0 cap2),(7,iv (ln p0)),(8,iv aN)] hF (ocons (obAddC (fun _=>b0)) onil) fun a hF=>?_
   refine wfn rfl ?_
   rw [hk2] at h
   exact ⟨nk2,Nat.lt_succ_self _,aG,aN,ν174,aB,aD,(a7 ++ ([[sv a5 a4 a6]] : List (List Value))),hF.sub (by kernel_rfl),St.pick [1,2] (by decide) hS,aX,aF,hext,hlow,h⟩
  ·replace h:=bif_f h hc
   refine wpIn_exit (exit_then <| exit_then <| exit_hit <| norm_then ?_)
   exact ⟨a0,ν153,a2,a3,a7,hF.sub (by kernel_rfl),St.pick [0,1] (by decide) hS,aK,a9,hext,hlow,h⟩
 clear a9
 rintro a w ⟨a8,ν91,aC,aE,aL,hF,hS,aY,aW,hext,hlow,h⟩
 replace hA4:=hA4.mono Rp132.mono aW
 rw [fold_back_K1] at h
 refine esr ?_
 refine rn 2 2 [(2,sv aC a8 aE)] hF fun a hF=>?_
 refine wfn rfl ?_
 refine wpIn_ret (fn_ret [.tmp 2] [sv aC a8 aE] hF rfl ⟨rfl,trivial⟩ ?_)
 have hr_:=Option.some.inj h
 subst hr_
 exact ⟨ν91,_,_,_,hext,rfl,aY,St.pick [1,0] (by decide) hS⟩
theorem fold_weave_ok (F : Nat) (p0 : (List (List (List api_Span)))) (p1 : Int) (p2 : Int) (res : fold_web) (h : fold_weave F p0 p1 p2 = some res) (μ : Frz) (w0 w1 : World) (T_ : List Res) (hlow : FrzIn w0 μ) {ad1 : Option Addr} {cap2 : Nat} {css3 : List (List Value)} (hA4 : ArrQ μ 1 Rp135 ad1 cap2 css3 p0) (hS : St w0 (fz w0 μ :: T_) w1) : Calls Try.prog 104 #[sv ad1 p0 cap2,iv p1,iv p2] w1 (fun e w=>∃ (ν_ : Frz) (dB : Nat) (dA : Option Addr) (dD : Nat) (dK : List Hd) (dE : List (List (List Value))) (dW : Nat) (B24910 : List (fold_place×Hd)) (dF : List (List fold_bond)),μ.ext w0.heap.size ν_∧FrzIn w0 ν_∧e = .returned (pb dB)∧(NestOk (Rp132 ν_) dK dE res.sets)∧(MNestOk Eq B24910 dF res.bonds)∧St w0 (fz w0 ν_ :: blk dB 197 #[sv dA res.sets dD,.map (some dW)] :: nestR 135 132 1 (fN 1) dA res.sets.length dD dK dE :: mnestR (fA fold_place.cells) 199 3 fold_bond.cells dW B24910 dF :: T_) w):=by
 rw [fold_weave] at h
 have hext:=Frz.ext_refl w0.heap.size μ
 refine fn_enterW Try.func104 rfl 118 [(0,sv ad1 p0 cap2),(1,iv p1),(2,iv p2)] rfl rfl (by kernel_rfl) fun a w hw hF=>?_
 replace hS : St w0 (fz w0 μ :: T_) w:=by rw [hw]; exact hS
 clear hw
 refine esr ?_
 refine rn 1 1 [(0,sv ad1 p0 cap2),(1,iv p1),(2,iv p2)] hF fun a hF=>?_
 refine wfn rfl ?_
 refine esr ?_
 have hq6 : MNestOk Eq ([] : List (fold_place×Hd)) ([] : List (List fold_bond)) ([] : List (fold_place×(List fold_bond))):=MNestOk.nil
 refine SK.wi (makeMapNK fold_place fold_bond (fA fold_place.cells) 199 3 fold_bond.cells (t:=195) (fun m5=>[(0,sv ad1 p0 cap2),(1,iv p1),(2,iv p2),(16,.map (some m5))]) hF hS (by kernel_rfl) ⟨by kernel_rfl⟩ (fun _=>⟨by kernel_rfl⟩) fun m5 w a hF hS=>?_)
 refine rn 1 2 [(0,sv ad1 p0 cap2),(1,iv p1),(2,iv p2),(17,.agg #[.slice none 0 0,.map (some m5)])] hF fun a hF=>?_
 refine SK.wi (boxK (t:=197) (fun b7=>[(0,sv ad1 p0 cap2),(1,iv p1),(2,iv p2),(18,pb b7)]) (.agg #[.slice none 0 0,.map (some m5)]) #[.slice none 0 0,.map (some m5)] hF hS (by kernel_rfl) ⟨by kernel_rfl⟩ (by kernel_rfl) (fun _=>⟨by kernel_rfl⟩) fun b7 w a hF hS=>?_)
 refine rn 1 4 [(0,sv ad1 p0 cap2),(1,iv p1),(2,iv p2),(7,pb b7)] hF fun a hF=>?_
 refine wfn rfl ?_
 refine esr ?_
 refine rn 3 3 [(0,sv ad1 p0 cap2),(1,iv p1),(2,iv p2),(7,pb b7),(8,iv (ln p0))] hF fun a hF=>?_
 refine wfn rfl ?_
 have aA:=Frz.le_refl μ
 refine ecut (fun a w=>∃ (bL : (List (List (List api_Span)))) (d5 : (List (fold_place×(List fold_bond)))) (ν12449 : Frz) (bM : Option Addr) (bO : Nat) (cB : List Hd) (c9 : List (List (List Value))) (B12457 : List (fold_place×Hd)) (cA : List (List fold_bond)),Fr 118 [] [(7,pb b7)] a∧St w0 (nestR 135 132 1 (fN 1) bM bL.length bO cB c9 :: blk b7 197 #[sv bM bL bO,.map (some m5)] :: mnestR (fA fold_place.cells) 199 3 fold_bond.cells m5 B12457 cA :: fz w0 ν12449 :: T_) w∧(NestOk (Rp132 ν12449) cB c9 bL)∧(MNestOk Eq B12457 cA d5)∧(μ.le ν12449)∧(μ.ext w0.heap.size ν12449)∧(FrzIn w0 ν12449)∧fold_weave_K1 bL d5 = some res) ?_ ?_
 ·skip
  refine esr ?_
  refine rn 3 3 [(0,sv ad1 p0 cap2),(1,iv p1),(2,iv p2),(7,pb b7),(8,iv (ln p0)),(21,sv ad1 p0 cap2),(22,iv (ln p0)),(23,iv 0)] hF fun a hF=>?_
  refine wfn rfl ?_
  refine wpIn_block ?_
  have dL:=Frz.le_refl μ
  replace hS:=hS.nilNest 135 132 1 (fN 1)
  refine eloop (fun n_ a w=>∃ (aS : (List (List (List api_Span)))) (cC : (List (fold_place×(List fold_bond)))) (a2 : Int) (ν20751 : Frz) (aY : Option Addr) (aZ : Nat) (bW : List Hd) (bQ : List (List (List Value))) (B20759 : List (fold_place×Hd)) (bR : List (List fold_bond)),Fr 118 [] [(0,sv ad1 p0 cap2),(1,iv p1),(2,iv p2),(7,pb b7),(8,iv (ln p0)),(21,sv ad1 p0 cap2),(22,iv (ln p0)),(23,iv a2)] a∧St w0 (nestR 135 132 1 (fN 1) aY aS.length aZ bW bQ :: blk b7 197 #[sv aY aS aZ,.map (some m5)] :: mnestR (fA fold_place.cells) 199 3 fold_bond.cells m5 B20759 bR :: fz w0 ν20751 :: T_) w∧(NestOk (Rp132 ν20751) bW bQ aS)∧(MNestOk Eq B20759 bR cC)∧(μ.le ν20751)∧(μ.ext w0.heap.size ν20751)∧(FrzIn w0 ν20751)∧fold_weave_L2 F p0 p1 p2 n_ aS cC a2 = some res) F ⟨[],([] : List (fold_place×(List fold_bond))),0,μ,none,0,[],[],([] : List (fold_place×Hd)),([] : List (List fold_bond)),hF.sub (by kernel_rfl),St.pickT (A:=[nestR 135 132 1 (fN 1) none ([] : List (List (List api_Span))).length 0 ([] : List Hd) ([] : List (List (List Value))),blk b7 197 #[.slice none 0 0,.map (some m5)],mnestR (fA fold_place.cells) 199 3 fold_bond.cells m5 ([] : List (fold_place×Hd)) ([] : List (List fold_bond)),fz w0 μ]) (T:=T_) [0,1,2,3] (by decide) hS,NestOk.nil,hq6,dL,hext,hlow,h⟩ ?_
  clear dL
  rintro nk2 a w ⟨aS,cC,a2,ν20751,aY,aZ,bW,bQ,B20759,bR,hF,hS,aG,dO,aB,hext,hlow,h⟩
  rcases nk2 with _ | nk2
  ·cases (show (none : Option fold_web) = some res from h)
  replace hA4:=hA4.mono Rp135.mono aB
  replace aA:=Frz.le_trans aA aB
  obtain ⟨k2,hk2⟩ : ∃ k,k = fold_weave_L2 F p0 p1 p2 nk2:=⟨_,rfl⟩
  replace h : fold_weave_B2 F p0 p1 p2 k2 aS cC a2 = some res:=by rw [hk2]; exact h
  rw [fold_weave_B2] at h
  refine esr ?_
  refine rn 1 1 [(0,sv ad1 p0 cap2),(1,iv p1),(2,iv p2),(7,pb b7),(8,iv (ln p0)),(21,sv ad1 p0 cap2),(22,iv (ln p0)),(23,iv a2),(24,.bool (decide (a2 < (ln p0))))] hF fun a hF=>?_
  refine wfn rfl ?_
  refine eseq ?_
  refine econd hF rfl (fun hc=>?_) (fun hc=>?_)
  ·replace h:=bif_t h hc
   refine wpIn_skip (norm_then ?_)
   have aL:=Frz.le_refl ν20751
   refine ecut (fun a w=>∃ (c0 : (List (List (List api_Span)))) (cT : (List (fold_place×(List fold_bond)))) (ν22827 : Frz) (c5 : Option Addr) (c7 : Nat) (cK : List Hd) (cE : List (List (List Value))) (B22835 : List (fold_place×Hd)) (cF : List (List fold_bond)),Fr 118 [] [(0,sv ad1 p0 cap2),(1,iv p1),(2,iv p2),(7,pb b7),(8,iv (ln p0)),(21,sv ad1 p0 cap2),(22,iv (ln p0)),(23,iv a2)] a∧St w0 (nestR 135 132 1 (fN 1) c5 c0.length c7 cK cE :: blk b7 197 #[sv c5 c0 c7,.map (some m5)] :: mnestR (fA fold_place.cells) 199 3 fold_bond.cells m5 B22835 cF :: fz w0 ν22827 :: T_) w∧(NestOk (Rp132 ν22827) cK cE c0)∧(MNestOk Eq B22835 cF cT)∧(ν20751.le ν22827)∧(μ.ext w0.heap.size ν22827)∧(FrzIn w0 ν22827)∧fold_weave_K3 a2 k2 c0 cT = some res) ?_ ?_
   ·skip
    refine wpIn_block ?_
    refine esr ?_
    replace h:=bindS h
    obtain ⟨a5,eK,h⟩:=h
    obtain ⟨f6,dH,e8⟩:=getI_all2 hA4.2 eK
    obtain ⟨a7,a8,f9,rfl,aK⟩:=e8
    refine rno 5 [.run [] (Instr.indexAt 147 (sv ad1 p0 cap2) (iv a2)) (.pointer (some (slAddr ad1 a2 1))),.run [] (Instr.loadAt 135 (.pointer (some (slAddr ad1 a2 1)))) (sv a7 a5 a8)] 5 [(0,sv ad1 p0 cap2),(1,iv p1),(2,iv p2),(7,pb b7),(8,iv (ln p0)),(9,iv a2),(10,sv a7 a5 a8),(21,sv ad1 p0 cap2),(22,iv (ln p0)),(23,iv a2)] hF (ocons (obIdxQ (hA4.at (hS.frz (i:=3) rfl hlow)) (by kernel_rfl) (fun _=>dH)) (ocons (obElQ (i:=a2) 0 (fN_len 1) (fun _ hd=>(hA4.at ((hS.at_ hd).frz (i:=3) rfl hlow))) (by kernel_rfl) (fun _=>dH) rfl) onil)) fun a hF=>?_
    refine wfn rfl ?_
    refine esr ?_
    refine rn 1 1 [(0,sv ad1 p0 cap2),(1,iv p1),(2,iv p2),(7,pb b7),(8,iv (ln p0)),(9,iv a2),(10,sv a7 a5 a8),(21,sv ad1 p0 cap2),(22,iv (ln p0)),(23,iv a2),(28,sv a7 a5 a8)] hF fun a hF=>?_
    replace h:=bindS h
    obtain ⟨a0,f0,h⟩:=h
    refine SK.wi (callK (f:=67) (args:=#[sv a7 a5 a8]) (R:=fun v w2=>∃ a1 a3,v = sv a1 a0 a3∧St w [arr 3 1 fI a1 a0.length a3 a0] w2) (fun e1=>[(0,sv ad1 p0 cap2),(1,iv p1),(2,iv p2),(7,pb b7),(8,iv (ln p0)),(9,iv a2),(10,sv a7 a5 a8),(21,sv ad1 p0 cap2),(22,iv (ln p0)),(23,iv a2),(29,e1)]) hF (by kernel_rfl) ⟨by kernel_rfl⟩ (Calls.mono (fold_known_ok F a5 _ f0 (memOf w) w (memOf_at w) (aK.mono Rp132.mono (FrzAt.le_mem (hS.frz (i:=3) rfl hlow)))) (by rintro e w2 ⟨a1,a3,rfl,h⟩; exact ⟨_,rfl,a1,a3,rfl,h⟩)) (fun _=>⟨by kernel_rfl⟩) ?_)
    rintro e1 w a ⟨a1,a3,rfl,hQ⟩ hF
    replace hS : St w0 (arr 3 1 fI a1 a0.length a3 a0 :: nestR 135 132 1 (fN 1) aY aS.length aZ bW bQ :: blk b7 197 #[sv aY aS aZ,.map (some m5)] :: mnestR (fA fold_place.cells) 199 3 fold_bond.cells m5 B20759 bR :: fz w0 ν20751 :: T_) w:=hS.madeL hQ
    refine rn 1 3 [(0,sv ad1 p0 cap2),(1,iv p1),(2,iv p2),(7,pb b7),(8,iv (ln p0)),(9,iv a2),(10,sv a7 a5 a8),(11,sv a1 a0 a3),(21,sv ad1 p0 cap2),(22,iv (ln p0)),(23,iv a2)] hF fun a hF=>?_
    refine wfn rfl ?_
    have aW:=Frz.le_refl ν20751
    refine ecut (fun a w=>∃ (aC : (List (List (List api_Span)))) (cU : (List (fold_place×(List fold_bond)))) (ν23852 : Frz) (aI : Option Addr) (aJ : Nat) (bD : List Hd) (b9 : List (List (List Value))) (B23860 : List (fold_place×Hd)) (bA : List (List fold_bond)),Fr 118 [] [(0,sv ad1 p0 cap2),(1,iv p1),(2,iv p2),(7,pb b7),(8,iv (ln p0)),(10,sv a7 a5 a8),(21,sv ad1 p0 cap2),(22,iv (ln p0)),(23,iv a2)] a∧St w0 (nestR 135 132 1 (fN 1) aI aC.length aJ bD b9 :: arr 3 1 fI a1 a0.length a3 a0 :: blk b7 197 #[sv aI aC aJ,.map (some m5)] :: mnestR (fA fold_place.cells) 199 3 fold_bond.cells m5 B23860 bA :: fz w0 ν23852 :: T_) w∧(NestOk (Rp132 ν23852) bD b9 aC)∧(MNestOk Eq B23860 bA cU)∧(ν20751.le ν23852)∧(μ.ext w0.heap.size ν23852)∧(FrzIn w0 ν23852)∧fold_weave_K4 F a2 k2 a5 aC cU = some res) ?_ ?_
    ·skip
     refine esr ?_
     refine rn 3 3 [(0,sv ad1 p0 cap2),(1,iv p1),(2,iv p2),(7,pb b7),(8,iv (ln p0)),(9,iv a2),(10,sv a7 a5 a8),(11,sv a1 a0 a3),(21,sv ad1 p0 cap2),(22,iv (ln p0)),(23,iv a2),(30,sv a1 a0 a3),(31,iv (ln a0)),(32,iv 0)] hF fun a hF=>?_
     refine wfn rfl ?_
     refine wpIn_block ?_
     have dM:=Frz.le_refl ν20751
     refine eloop (fun n_ a w=>∃ (aD : (List (List (List api_Span)))) (c4 : (List (fold_place×(List fold_bond)))) (a4 : Int) (ν24565 : Frz) (aO : Option Addr) (aP : Nat) (bE : List Hd) (bB : List (List (List Value))) (B24573 : List (fold_place×Hd)) (bC : List (List fold_bond)),Fr 118 [] [(0,sv ad1 p0 cap2),(1,iv p1),(2,iv p2),(7,pb b7),(8,iv (ln p0)),(9,iv a2),(10,sv a7 a5 a8),(11,sv a1 a0 a3),(21,sv ad1 p0 cap2),(22,iv (ln p0)),(23,iv a2),(30,sv a1 a0 a3),(31,iv (ln a0)),(32,iv a4)] a∧St w0 (nestR 135 132 1 (fN 1) aO aD.length aP bE bB :: arr 3 1 fI a1 a0.length a3 a0 :: blk b7 197 #[sv aO aD aP,.map (some m5)] :: mnestR (fA fold_place.cells) 199 3 fold_bond.cells m5 B24573 bC :: fz w0 ν24565 :: T_) w∧(NestOk (Rp132 ν24565) bE bB aD)∧(MNestOk Eq B24573 bC c4)∧(ν20751.le ν24565)∧(μ.ext w0.heap.size ν24565)∧(FrzIn w0 ν24565)∧fold_weave_L5 F p0 p1 p2 a2 k2 a5 a0 n_ aD c4 a4 = some res) F ⟨aS,cC,0,ν20751,aY,aZ,bW,bQ,B20759,bR,hF.sub (by kernel_rfl),St.pickT (A:=[arr 3 1 fI a1 a0.length a3 a0,nestR 135 132 1 (fN 1) aY aS.length aZ bW bQ,blk b7 197 #[sv aY aS aZ,.map (some m5)],mnestR (fA fold_place.cells) 199 3 fold_bond.cells m5 B20759 bR,fz w0 ν20751]) (T:=T_) [1,0,2,3,4] (by decide) hS,aG,dO,dM,hext,hlow,h⟩ ?_
     clear dM
     rintro nk5 a w ⟨aD,c4,a4,ν24565,aO,aP,bE,bB,B24573,bC,hF,hS,bK,d0,aM,hext,hlow,h⟩
     rcases nk5 with _ | nk5
     ·cases (show (none : Option fold_web) = some res from h)
     replace hA4:=hA4.mono Rp135.mono aM
     replace aG:=aG.mono Rp132.mono aM
     replace aK:=aK.mono Rp132.mono aM
     replace aA:=Frz.le_trans aA aM
     replace aB:=Frz.le_trans aB aM
     replace aL:=Frz.le_trans aL aM
     replace aW:=Frz.le_trans aW aM
     obtain ⟨k5,hk5⟩ : ∃ k,k = fold_weave_L5 F p0 p1 p2 a2 k2 a5 a0 nk5:=⟨_,rfl⟩
     replace h : fold_weave_B5 F p0 p1 p2 a2 k2 a5 a0 k5 aD c4 a4 = some res:=by rw [hk5]; exact h
     rw [fold_weave_B5] at h
     refine esr ?_
     refine rn 1 1 [(0,sv ad1 p0 cap2),(1,iv p1),(2,iv p2),(7,pb b7),(8,iv (ln p0)),(9,iv a2),(10,sv a7 a5 a8),(11,sv a1 a0 a3),(21,sv ad1 p0 cap2),(22,iv (ln p0)),(23,iv a2),(30,sv a1 a0 a3),(31,iv (ln a0)),(32,iv a4),(33,.bool (decide (a4 < (ln a0))))] hF fun a hF=>?_
     refine wfn rfl ?_
     refine eseq ?_
     refine econd hF rfl (fun hc=>?_) (fun hc=>?_)
     ·replace h:=bif_t h hc
      refine wpIn_skip (norm_then ?_)
      have bI:=Frz.le_refl ν24565
      refine ecut (fun a w=>∃ (c2 : (List (List (List api_Span)))) (cV : (List (fold_place×(List fold_bond)))) (ν24734 : Frz) (c6 : Option Addr) (c8 : Nat) (cL : List Hd) (cG : List (List (List Value))) (B24742 : List (fold_place×Hd)) (cH : List (List fold_bond)),Fr 118 [] [(0,sv ad1 p0 cap2),(1,iv p1),(2,iv p2),(7,pb b7),(8,iv (ln p0)),(9,iv a2),(10,sv a7 a5 a8),(11,sv a1 a0 a3),(21,sv ad1 p0 cap2),(22,iv (ln p0)),(23,iv a2),(30,sv a1 a0 a3),(31,iv (ln a0)),(32,iv a4)] a∧St w0 (nestR 135 132 1 (fN 1) c6 c2.length c8 cL cG :: fz w0 ν24734 :: blk b7 197 #[sv c6 c2 c8,.map (some m5)] :: mnestR (fA fold_place.cells) 199 3 fold_bond.cells m5 B24742 cH :: arr 3 1 fI a1 a0.length a3 a0 :: T_) w∧(NestOk (Rp132 ν24734) cL cG c2)∧(MNestOk Eq B24742 cH cV)∧(ν24565.le ν24734)∧(μ.ext w0.heap.size ν24734)∧(FrzIn w0 ν24734)∧fold_weave_K6 a4 k5 c2 cV = some res) ?_ ?_
      ·skip
       refine wpIn_block ?_
       refine esr ?_
       replace h:=bindS h
       obtain ⟨a6,dS,h⟩:=h
       refine rno 5 [.run [] (Instr.indexAt 60 (sv a1 a0 a3) (iv a4)) (.pointer (some (slAddr a1 a4 1))),.run [] (Instr.loadAt 3 (.pointer (some (slAddr a1 a4 1)))) (iv a6)] 5 [(0,sv ad1 p0 cap2),(1,iv p1),(2,iv p2),(7,pb b7),(8,iv (ln p0)),(9,iv a2),(10,sv a7 a5 a8),(11,sv a1 a0 a3),(12,iv a4),(13,iv a6),(21,sv ad1 p0 cap2),(22,iv (ln p0)),(23,iv a2),(30,sv a1 a0 a3),(31,iv (ln a0)),(32,iv a4)] hF (ocons (obIdxQ (hS.arr (i:=1) rfl) (by kernel_rfl) (fun _=>dS)) (ocons (obElQ (i:=a4) 0 fI_len (fun _ hd=>((hS.at_ hd).arr (i:=1) rfl)) (by kernel_rfl) (fun _=>dS) rfl) onil)) fun a hF=>?_
       refine wfn rfl ?_
       have cM:=Frz.le_refl ν24565
       refine ecut (fun a w=>∃ (a9 : (List (List (List api_Span)))) (c3 : (List (fold_place×(List fold_bond)))) (ν24770 : Frz) (aE : Option Addr) (aF : Nat) (b2 : List Hd) (b0 : List (List (List Value))) (B24778 : List (fold_place×Hd)) (b1 : List (List fold_bond)),Fr 118 [] [(0,sv ad1 p0 cap2),(1,iv p1),(2,iv p2),(7,pb b7),(8,iv (ln p0)),(9,iv a2),(10,sv a7 a5 a8),(11,sv a1 a0 a3),(13,iv a6),(21,sv ad1 p0 cap2),(22,iv (ln p0)),(23,iv a2),(30,sv a1 a0 a3),(31,iv (ln a0)),(32,iv a4)] a∧St w0 (nestR 135 132 1 (fN 1) aE a9.length aF b2 b0 :: fz w0 ν24770 :: blk b7 197 #[sv aE a9 aF,.map (some m5)] :: mnestR (fA fold_place.cells) 199 3 fold_bond.cells m5 B24778 b1 :: arr 3 1 fI a1 a0.length a3 a0 :: T_) w∧(NestOk (Rp132 ν24770) b2 b0 a9)∧(MNestOk Eq B24778 b1 c3)∧(ν24565.le ν24770)∧(μ.ext w0.heap.size ν24770)∧(FrzIn w0 ν24770)∧fold_weave_K7 F p0 p1 p2 a2 a4 k5 a6 a9 c3 = some res) ?_ ?_
       ·skip
        refine esr ?_
        replace h:=bindS h
        obtain ⟨cN,eU,h⟩:=h
        replace h:=bindS h
        obtain ⟨dZ,dT,h⟩:=h
        replace h:=bindS h
        obtain ⟨e4,eV,h⟩:=h
        refine rno 13 [.run [⟨39,true,(decide (a4 > 0))⟩] (binOp .sub 3 (iv a4) (iv 1)) (iv cN),.run [⟨39,true,(decide (a4 > 0))⟩] (Instr.indexAt 60 (sv a1 a0 a3) (iv cN)) (.pointer (some (slAddr a1 cN 1))),.run [⟨39,true,(decide (a4 > 0))⟩] (Instr.loadAt 3 (.pointer (some (slAddr a1 cN 1)))) (iv dZ),.run [⟨39,true,(decide (a4 > 0))⟩] (binOp .sub 3 (iv a6) (iv dZ)) (iv e4)] 13 [(0,sv ad1 p0 cap2),(1,iv p1),(2,iv p2),(7,pb b7),(8,iv (ln p0)),(9,iv a2),(10,sv a7 a5 a8),(11,sv a1 a0 a3),(12,iv a4),(13,iv a6),(21,sv ad1 p0 cap2),(22,iv (ln p0)),(23,iv a2),(30,sv a1 a0 a3),(31,iv (ln a0)),(32,iv a4),(49,.bool (bif (decide (a4 > 0)) then (decide (e4≤p2)) else false))] hF (ocons (obSubC (fun hk=>gd_some eU hk)) (ocons (obIdxQ (hS.arr (i:=1) rfl) (by kernel_rfl) (fun hk=>gd_some dT hk)) (ocons (obElQ (i:=cN) 0 fI_len (fun _ hd=>((hS.at_ hd).arr (i:=1) rfl)) (by kernel_rfl) (fun hk=>gd_some dT hk) rfl) (ocons (obSubC (fun hk=>gd_some eV hk)) onil)))) fun a hF=>?_
        refine wfn rfl ?_
        refine econd hF rfl (fun hc=>?_) (fun hc=>?_)
        ·replace h:=bif_t h hc
         replace h:=bindS h
         obtain ⟨cO,eW,h⟩:=h
         replace h:=bindS h
         obtain ⟨cW,dU,h⟩:=h
         replace h:=bindS h
         obtain ⟨cP,eX,h⟩:=h
         replace h:=bindS h
         obtain ⟨e0,dV,h⟩:=h
         replace h:=bindS h
         obtain ⟨e5,eY,h⟩:=h
         replace h:=bindS h
         obtain ⟨cY,eZ,h⟩:=h
         refine runD (obs:=[.run [] (binOp .sub 3 (iv a4) (iv 1)) (iv cO),.run [] (Instr.indexAt 60 (sv a1 a0 a3) (iv cO)) (.pointer (some (slAddr a1 cO 1))),.run [] (Instr.loadAt 3 (.pointer (some (slAddr a1 cO 1)))) (iv cW),.run [] (binOp .sub 3 (iv a4) (iv 1)) (iv cP),.run [] (Instr.indexAt 60 (sv a1 a0 a3) (iv cP)) (.pointer (some (slAddr a1 cP 1))),.run [] (Instr.loadAt 3 (.pointer (some (slAddr a1 cP 1)))) (iv e0),.run [] (binOp .sub 3 (iv a6) (iv e0)) (iv e5),.run [] (binOp .mul 3 (iv p1) (iv e5)) (iv cY)]) 20 [(0,sv ad1 p0 cap2),(1,iv p1),(2,iv p2),(7,pb b7),(8,iv (ln p0)),(9,iv a2),(10,sv a7 a5 a8),(11,sv a1 a0 a3),(13,iv a6),(21,sv ad1 p0 cap2),(22,iv (ln p0)),(23,iv a2),(30,sv a1 a0 a3),(31,iv (ln a0)),(32,iv a4),(50,pb b7),(57,.agg #[iv a2,iv cW]),(60,.agg #[iv a2,iv a6]),(69,iv cY)] (by kernel_rfl) hF (by kernel_rfl) (ocons (obSubC (fun _=>eW)) (ocons (obIdxQ (hS.arr (i:=1) rfl) (by kernel_rfl) (fun _=>dU)) (ocons (obElQ (i:=cO) 0 fI_len (fun _ hd=>((hS.later hd).arr (i:=1) rfl)) (by kernel_rfl) (fun _=>dU) rfl) (ocons (obSubC (fun _=>eX)) (ocons (obIdxQ (hS.arr (i:=1) rfl) (by kernel_rfl) (fun _=>dV)) (ocons (obElQ (i:=cP) 0 fI_len (fun _ hd=>((hS.later hd).arr (i:=1) rfl)) (by kernel_rfl) (fun _=>dV) rfl) (ocons (obSubC (fun _=>eY)) (ocons (obMulC (fun _=>eZ)) onil)))))))) ⟨by kernel_rfl⟩ fun a w hF hx=>?_
         replace hS:=hS.later hx
         replace h:=bindS h
         obtain ⟨bH,f3,h⟩:=h
         replace hS : St w0 (nestR 135 132 1 (fN 1) aO aD.length aP bE bB :: arr 3 1 fI a1 a0.length a3 a0 :: blk b7 197 #[sv aO aD aP,.map (some m5)] :: mnestR (fA fold_place.cells) 199 3 fold_bond.cells m5 B24573 bC :: fz w0 ν24565 :: T_) w:=hS
         replace hS : St w0 (fz w0 ν24565 :: blk b7 197 #[sv aO aD aP,.map (some m5)] :: nestR 135 132 1 (fN 1) aO aD.length aP bE bB :: mnestR (fA fold_place.cells) 199 3 fold_bond.cells m5 B24573 bC :: arr 3 1 fI a1 a0.length a3 a0 :: T_) w:=St.pickT (A:=[nestR 135 132 1 (fN 1) aO aD.length aP bE bB,arr 3 1 fI a1 a0.length a3 a0,blk b7 197 #[sv aO aD aP,.map (some m5)],mnestR (fA fold_place.cells) 199 3 fold_bond.cells m5 B24573 bC,fz w0 ν24565]) (T:=T_) [4,2,0,3,1] (by decide) hS
         refine SK.wi (callK (f:=118) (args:=#[pb b7,.agg #[iv a2,iv cW],.agg #[iv a2,iv a6],iv cY]) (R:=fun v w2=>∃ (ν24892 : Frz) (b5 : Option Addr) (b8 : Nat) (bY : List Hd) (bU : List (List (List Value))) (B24900 : List (fold_place×Hd)) (bV : List (List fold_bond)),ν24565.ext w0.heap.size ν24892∧FrzIn w0 ν24892∧v = .tuple #[]∧(NestOk (Rp132 ν24892) bY bU bH.sets)∧(MNestOk Eq B24900 bV bH.bonds)∧St w0 (fz w0 ν24892 :: blk b7 197 #[sv b5 bH.sets b8,.map (some m5)] :: nestR 135 132 1 (fN 1) b5 bH.sets.length b8 bY bU :: mnestR (fA fold_place.cells) 199 3 fold_bond.cells m5 B24900 bV :: arr 3 1 fI a1 a0.length a3 a0 :: T_) w2) (fun f5=>[(0,sv ad1 p0 cap2),(1,iv p1),(2,iv p2),(7,pb b7),(8,iv (ln p0)),(9,iv a2),(10,sv a7 a5 a8),(11,sv a1 a0 a3),(13,iv a6),(21,sv ad1 p0 cap2),(22,iv (ln p0)),(23,iv a2),(30,sv a1 a0 a3),(31,iv (ln a0)),(32,iv a4)]) hF (by kernel_rfl) ⟨by kernel_rfl⟩ (Calls.mono (pfold_web_link_ok F (fold_web.mk aD c4) (fold_place.mk a2 cW) (fold_place.mk a2 a6) cY _ f3 ν24565 w0 w (arr 3 1 fI a1 a0.length a3 a0 :: T_) hlow bK d0 hS) (by rintro e w2 ⟨ν24892,b5,b8,bY,bU,B24900,bV,aV,hlow_,rfl,d3,d4,h⟩; exact ⟨_,rfl,ν24892,b5,b8,bY,bU,B24900,bV,aV,hlow_,rfl,d3,d4,h⟩)) (fun _=>⟨by kernel_rfl⟩) ?_)
         rintro f5 w a ⟨ν24892,b5,b8,bY,bU,B24900,bV,aV,hlow,rfl,d3,d4,hS⟩ hF
         replace hext:=Frz.ext_trans hext aV
         replace hA4:=hA4.mono Rp135.mono aV.1
         replace aG:=aG.mono Rp132.mono aV.1
         replace aK:=aK.mono Rp132.mono aV.1
         replace aA:=Frz.le_trans aA aV.1
         replace aB:=Frz.le_trans aB aV.1
         replace aL:=Frz.le_trans aL aV.1
         replace aW:=Frz.le_trans aW aV.1
         replace aM:=Frz.le_trans aM aV.1
         replace bI:=Frz.le_trans bI aV.1
         replace cM:=Frz.le_trans cM aV.1
         replace hS : St w0 (fz w0 ν24892 :: blk b7 197 #[sv b5 bH.sets b8,.map (some m5)] :: nestR 135 132 1 (fN 1) b5 bH.sets.length b8 bY bU :: mnestR (fA fold_place.cells) 199 3 fold_bond.cells m5 B24900 bV :: arr 3 1 fI a1 a0.length a3 a0 :: T_) w:=hS
         refine wfn rfl ?_
         exact ⟨bH.sets,bH.bonds,ν24892,b5,b8,bY,bU,B24900,bV,hF.sub (by kernel_rfl),St.pickT (A:=[fz w0 ν24892,blk b7 197 #[sv b5 bH.sets b8,.map (some m5)],nestR 135 132 1 (fN 1) b5 bH.sets.length b8 bY bU,mnestR (fA fold_place.cells) 199 3 fold_bond.cells m5 B24900 bV,arr 3 1 fI a1 a0.length a3 a0]) (T:=T_) [2,0,1,3,4] (by decide) hS,d3,d4,cM,hext,hlow,h⟩
        ·replace h:=bif_f h hc
         refine wpIn_skip (norm_then ?_)
         exact ⟨aD,c4,ν24565,aO,aP,bE,bB,B24573,bC,hF.sub (by kernel_rfl),St.pickT (A:=[nestR 135 132 1 (fN 1) aO aD.length aP bE bB,arr 3 1 fI a1 a0.length a3 a0,blk b7 197 #[sv aO aD aP,.map (some m5)],mnestR (fA fold_place.cells) 199 3 fold_bond.cells m5 B24573 bC,fz w0 ν24565]) (T:=T_) [0,4,2,3,1] (by decide) hS,bK,d0,cM,hext,hlow,h⟩
       clear cM
       rintro a w ⟨a9,c3,ν24770,aE,aF,b2,b0,B24778,b1,hF,hS,dQ,dR,aX,hext,hlow,h⟩
       replace hA4:=hA4.mono Rp135.mono aX
       replace aG:=aG.mono Rp132.mono aX
       replace aK:=aK.mono Rp132.mono aX
       replace bK:=bK.mono Rp132.mono aX
       replace aA:=Frz.le_trans aA aX
       replace aB:=Frz.le_trans aB aX
       replace aL:=Frz.le_trans aL aX
       replace aW:=Frz.le_trans aW aX
       replace aM:=Frz.le_trans aM aX
       replace bI:=Frz.le_trans bI aX
       rw [fold_weave_K7] at h
       refine esr ?_
       refine rn 1 1 [(0,sv ad1 p0 cap2),(1,iv p1),(2,iv p2),(7,pb b7),(8,iv (ln p0)),(9,iv a2),(10,sv a7 a5 a8),(11,sv a1 a0 a3),(13,iv a6),(14,iv 1),(21,sv ad1 p0 cap2),(22,iv (ln p0)),(23,iv a2),(30,sv a1 a0 a3),(31,iv (ln a0)),(32,iv a4)] hF fun a hF=>?_
       refine wfn rfl ?_
       refine wpIn_block ?_
       refine eloop (fun n_ a w=>∃ (b3 : Int),Fr 118 [] [(0,sv ad1 p0 cap2),(1,iv p1),(2,iv p2),(7,pb b7),(8,iv (ln p0)),(9,iv a2),(10,sv a7 a5 a8),(11,sv a1 a0 a3),(13,iv a6),(14,iv b3),(21,sv ad1 p0 cap2),(22,iv (ln p0)),(23,iv a2),(30,sv a1 a0 a3),(31,iv (ln a0)),(32,iv a4)] a∧St w0 (nestR 135 132 1 (fN 1) aE a9.length aF b2 b0 :: fz w0 ν24770 :: blk b7 197 #[sv aE a9 aF,.map (some m5)] :: mnestR (fA fold_place.cells) 199 3 fold_bond.cells m5 B24778 b1 :: arr 3 1 fI a1 a0.length a3 a0 :: T_) w∧fold_weave_L8 F p0 p1 p2 a2 a4 k5 a6 a9 c3 n_ b3 = some res) F ⟨1,hF.sub (by kernel_rfl),St.pickT (A:=[nestR 135 132 1 (fN 1) aE a9.length aF b2 b0,fz w0 ν24770,blk b7 197 #[sv aE a9 aF,.map (some m5)],mnestR (fA fold_place.cells) 199 3 fold_bond.cells m5 B24778 b1,arr 3 1 fI a1 a0.length a3 a0]) (T:=T_) [0,1,2,3,4] (by decide) hS,h⟩ ?_
       rintro nk8 a w ⟨b3,hF,hS,h⟩
       rcases nk8 with _ | nk8
       ·cases (show (none : Option fold_web) = some res from h)
       obtain ⟨k8,hk8⟩ : ∃ k,k = fold_weave_L8 F p0 p1 p2 a2 a4 k5 a6 a9 c3 nk8:=⟨_,rfl⟩
       replace h : fold_weave_B8 F p0 p1 p2 a2 a4 k5 a6 a9 c3 k8 b3 = some res:=by rw [hk8]; exact h
       rw [fold_weave_B8] at h
       refine eseq ?_
       refine esr ?_
       replace h:=bindS h
       obtain ⟨d8,eP,h⟩:=h
       refine rno 6 [.run [] (binOp .sub 3 (iv (ln p0)) (iv 1)) (iv d8)] 6 [(0,sv ad1 p0 cap2),(1,iv p1),(2,iv p2),(7,pb b7),(8,iv (ln p0)),(9,iv a2),(10,sv a7 a5 a8),(11,sv a1 a0 a3),(13,iv a6),(14,iv b3),(21,sv ad1 p0 cap2),(22,iv (ln p0)),(23,iv a2),(30,sv a1 a0 a3),(31,iv (ln a0)),(32,iv a4),(76,.bool (decide (b3≤(if d8 < p2 then d8 else p2))))] hF (ocons (obSubC (fun _=>eP)) onil) fun a hF=>?_
       refine wfn rfl ?_
       refine econd hF rfl (fun hc=>?_) (fun hc=>?_)
       ·replace h:=bif_t h hc
        refine wpIn_skip (norm_then ?_)
        refine eseq ?_
        refine wpIn_block ?_
        refine esr ?_
        replace h:=bindS h
        obtain ⟨e3,eQ,h⟩:=h
        replace h:=bindS h
        obtain ⟨bF,eR,h⟩:=h
        refine rno 6 [.run [] (binOp .add 3 (iv a2) (iv b3)) (iv e3),.run [] (binOp .rem 3 (iv e3) (iv (ln p0))) (iv bF)] 6 [(0,sv ad1 p0 cap2),(1,iv p1),(2,iv p2),(7,pb b7),(8,iv (ln p0)),(9,iv a2),(10,sv a7 a5 a8),(11,sv a1 a0 a3),(13,iv a6),(14,iv b3),(15,iv bF),(21,sv ad1 p0 cap2),(22,iv (ln p0)),(23,iv a2),(30,sv a1 a0 a3),(31,iv (ln a0)),(32,iv a4)] hF (ocons (obAddC (fun _=>eQ)) (ocons (obRemC (fun _=>eR)) onil)) fun a hF=>?_
        refine wfn rfl ?_
        refine esr ?_
        replace h:=bindS h
        obtain ⟨dX,eL,h⟩:=h
        obtain ⟨f7,dI,e9⟩:=getI_all2 hA4.2 eL
        obtain ⟨cQ,dC,fB,rfl,cI⟩:=e9
        replace h:=bindS h
        obtain ⟨dY,eM,h⟩:=h
        obtain ⟨f8,dJ,eA⟩:=getI_all2 cI.2 eM
        obtain ⟨e6,e7,rfl,dG⟩:=eA
        refine rno 9 [.run [] (Instr.indexAt 147 (sv ad1 p0 cap2) (iv bF)) (.pointer (some (slAddr ad1 bF 1))),.run [] (Instr.loadAt 135 (.pointer (some (slAddr ad1 bF 1)))) (sv cQ dX dC),.run [] (Instr.indexAt 135 (sv cQ dX dC) (iv a6)) (.pointer (some (slAddr cQ a6 1))),.run [] (Instr.loadAt 132 (.pointer (some (slAddr cQ a6 1)))) (sv e6 dY e7)] 9 [(0,sv ad1 p0 cap2),(1,iv p1),(2,iv p2),(7,pb b7),(8,iv (ln p0)),(9,iv a2),(10,sv a7 a5 a8),(11,sv a1 a0 a3),(13,iv a6),(14,iv b3),(15,iv bF),(21,sv ad1 p0 cap2),(22,iv (ln p0)),(23,iv a2),(30,sv a1 a0 a3),(31,iv (ln a0)),(32,iv a4),(92,.bool (decide ((ln dY) > 0)))] hF (ocons (obIdxQ (hA4.at (hS.frz (i:=1) rfl hlow)) (by kernel_rfl) (fun _=>dI)) (ocons (obElQ (i:=bF) 0 (fN_len 1) (fun _ hd=>(hA4.at ((hS.at_ hd).frz (i:=1) rfl hlow))) (by kernel_rfl) (fun _=>dI) rfl) (ocons (obIdxQ (cI.at (hS.frz (i:=1) rfl hlow)) (by kernel_rfl) (fun _=>dJ)) (ocons (obElQ (i:=a6) 0 (fN_len 1) (fun _ hd=>(cI.at ((hS.at_ hd).frz (i:=1) rfl hlow))) (by kernel_rfl) (fun _=>dJ) rfl) onil)))) fun a hF=>?_
        refine wfn rfl ?_
        refine econd hF rfl (fun hc=>?_) (fun hc=>?_)
        ·replace h:=bif_t h hc
         refine esr ?_
         replace h:=bindS h
         obtain ⟨cX,eS,h⟩:=h
         refine rno 10 [.run [] (binOp .mul 3 (iv p1) (iv b3)) (iv cX)] 10 [(0,sv ad1 p0 cap2),(1,iv p1),(2,iv p2),(7,pb b7),(8,iv (ln p0)),(9,iv a2),(10,sv a7 a5 a8),(11,sv a1 a0 a3),(21,sv ad1 p0 cap2),(22,iv (ln p0)),(23,iv a2),(30,sv a1 a0 a3),(31,iv (ln a0)),(32,iv a4),(93,pb b7),(96,.agg #[iv a2,iv a6]),(99,.agg #[iv bF,iv a6]),(102,iv cX)] hF (ocons (obMulC (fun _=>eS)) onil) fun a hF=>?_
         replace h:=bindS h
         obtain ⟨bG,f2,h⟩:=h
         replace hS : St w0 (nestR 135 132 1 (fN 1) aE a9.length aF b2 b0 :: fz w0 ν24770 :: blk b7 197 #[sv aE a9 aF,.map (some m5)] :: mnestR (fA fold_place.cells) 199 3 fold_bond.cells m5 B24778 b1 :: arr 3 1 fI a1 a0.length a3 a0 :: T_) w:=hS
         replace hS : St w0 (fz w0 ν24770 :: blk b7 197 #[sv aE a9 aF,.map (some m5)] :: nestR 135 132 1 (fN 1) aE a9.length aF b2 b0 :: mnestR (fA fold_place.cells) 199 3 fold_bond.cells m5 B24778 b1 :: arr 3 1 fI a1 a0.length a3 a0 :: T_) w:=St.pickT (A:=[nestR 135 132 1 (fN 1) aE a9.length aF b2 b0,fz w0 ν24770,blk b7 197 #[sv aE a9 aF,.map (some m5)],mnestR (fA fold_place.cells) 199 3 fold_bond.cells m5 B24778 b1,arr 3 1 fI a1 a0.length a3 a0]) (T:=T_) [1,2,0,3,4] (by decide) hS
         refine SK.wi (callK (f:=118) (args:=#[pb b7,.agg #[iv a2,iv a6],.agg #[iv bF,iv a6],iv cX]) (R:=fun v w2=>∃ (ν24869 : Frz) (b4 : Option Addr) (b6 : Nat) (bX : List Hd) (bS : List (List (List Value))) (B24877 : List (fold_place×Hd)) (bT : List (List fold_bond)),ν24770.ext w0.heap.size ν24869∧FrzIn w0 ν24869∧v = .tuple #[]∧(NestOk (Rp132 ν24869) bX bS bG.sets)∧(MNestOk Eq B24877 bT bG.bonds)∧St w0 (fz w0 ν24869 :: blk b7 197 #[sv b4 bG.sets b6,.map (some m5)] :: nestR 135 132 1 (fN 1) b4 bG.sets.length b6 bX bS :: mnestR (fA fold_place.cells) 199 3 fold_bond.cells m5 B24877 bT :: arr 3 1 fI a1 a0.length a3 a0 :: T_) w2) (fun f4=>[(0,sv ad1 p0 cap2),(1,iv p1),(2,iv p2),(7,pb b7),(8,iv (ln p0)),(9,iv a2),(10,sv a7 a5 a8),(11,sv a1 a0 a3),(21,sv ad1 p0 cap2),(22,iv (ln p0)),(23,iv a2),(30,sv a1 a0 a3),(31,iv (ln a0)),(32,iv a4)]) hF (by kernel_rfl) ⟨by kernel_rfl⟩ (Calls.mono (pfold_web_link_ok F (fold_web.mk a9 c3) (fold_place.mk a2 a6) (fold_place.mk bF a6) cX _ f2 ν24770 w0 w (arr 3 1 fI a1 a0.length a3 a0 :: T_) hlow dQ dR hS) (by rintro e w2 ⟨ν24869,b4,b6,bX,bS,B24877,bT,aN,hlow_,rfl,d1,d2,h⟩; exact ⟨_,rfl,ν24869,b4,b6,bX,bS,B24877,bT,aN,hlow_,rfl,d1,d2,h⟩)) (fun _=>⟨by kernel_rfl⟩) ?_)
         rintro f4 w a ⟨ν24869,b4,b6,bX,bS,B24877,bT,aN,hlow,rfl,d1,d2,hS⟩ hF
         replace hext:=Frz.ext_trans hext aN
         replace hA4:=hA4.mono Rp135.mono aN.1
         replace aG:=aG.mono Rp132.mono aN.1
         replace aK:=aK.mono Rp132.mono aN.1
         replace bK:=bK.mono Rp132.mono aN.1
         replace cI:=cI.mono Rp132.mono aN.1
         replace dG:=dG.mono aN.1
         replace aA:=Frz.le_trans aA aN.1
         replace aB:=Frz.le_trans aB aN.1
         replace aL:=Frz.le_trans aL aN.1
         replace aW:=Frz.le_trans aW aN.1
         replace aM:=Frz.le_trans aM aN.1
         replace bI:=Frz.le_trans bI aN.1
         replace aX:=Frz.le_trans aX aN.1
         replace hS : St w0 (fz w0 ν24869 :: blk b7 197 #[sv b4 bG.sets b6,.map (some m5)] :: nestR 135 132 1 (fN 1) b4 bG.sets.length b6 bX bS :: mnestR (fA fold_place.cells) 199 3 fold_bond.cells m5 B24877 bT :: arr 3 1 fI a1 a0.length a3 a0 :: T_) w:=hS
         refine wfn rfl ?_
         refine wpIn_exit (exit_miss rfl <| exit_then <| exit_then <| exit_hit <| norm_block <| norm_then <| ?_)
         exact ⟨bG.sets,bG.bonds,ν24869,b4,b6,bX,bS,B24877,bT,hF.sub (by kernel_rfl),St.pickT (A:=[fz w0 ν24869,blk b7 197 #[sv b4 bG.sets b6,.map (some m5)],nestR 135 132 1 (fN 1) b4 bG.sets.length b6 bX bS,mnestR (fA fold_place.cells) 199 3 fold_bond.cells m5 B24877 bT,arr 3 1 fI a1 a0.length a3 a0]) (T:=T_) [2,0,1,3,4] (by decide) hS,d1,d2,bI,hext,hlow,h⟩
        ·replace h:=bif_f h hc
         refine wpIn_skip (norm_block <| norm_then <| ?_)
         refine WI.region ?_
         replace h:=bindS h
         obtain ⟨d9,eT,h⟩:=h
         refine rno 3 [.run [] (binOp .add 3 (iv b3) (iv 1)) (iv d9)] 3 [(0,sv ad1 p0 cap2),(1,iv p1),(2,iv p2),(7,pb b7),(8,iv (ln p0)),(9,iv a2),(10,sv a7 a5 a8),(11,sv a1 a0 a3),(13,iv a6),(14,iv d9),(21,sv ad1 p0 cap2),(22,iv (ln p0)),(23,iv a2),(30,sv a1 a0 a3),(31,iv (ln a0)),(32,iv a4)] hF (ocons (obAddC (fun _=>eT)) onil) fun a hF=>?_
         refine wfn rfl ?_
         rw [hk8] at h
         exact ⟨nk8,Nat.lt_succ_self _,d9,hF.sub (by kernel_rfl),St.pickT (A:=[nestR 135 132 1 (fN 1) aE a9.length aF b2 b0,fz w0 ν24770,blk b7 197 #[sv aE a9 aF,.map (some m5)],mnestR (fA fold_place.cells) 199 3 fold_bond.cells m5 B24778 b1,arr 3 1 fI a1 a0.length a3 a0]) (T:=T_) [0,1,2,3,4] (by decide) hS,h⟩
       ·replace h:=bif_f h hc
        refine wpIn_exit (exit_then <| exit_then <| exit_hit <| norm_block <| norm_then <| ?_)
        exact ⟨a9,c3,ν24770,aE,aF,b2,b0,B24778,b1,hF.sub (by kernel_rfl),St.pickT (A:=[nestR 135 132 1 (fN 1) aE a9.length aF b2 b0,fz w0 ν24770,blk b7 197 #[sv aE a9 aF,.map (some m5)],mnestR (fA fold_place.cells) 199 3 fold_bond.cells m5 B24778 b1,arr 3 1 fI a1 a0.length a3 a0]) (T:=T_) [0,1,2,3,4] (by decide) hS,dQ,dR,bI,hext,hlow,h⟩
      clear bI
      rintro a w ⟨c2,cV,ν24734,c6,c8,cL,cG,B24742,cH,hF,hS,eI,eJ,bJ,hext,hlow,h⟩
      replace hA4:=hA4.mono Rp135.mono bJ
      replace aG:=aG.mono Rp132.mono bJ
      replace aK:=aK.mono Rp132.mono bJ
      replace bK:=bK.mono Rp132.mono bJ
      replace aA:=Frz.le_trans aA bJ
      replace aB:=Frz.le_trans aB bJ
      replace aL:=Frz.le_trans aL bJ
      replace aW:=Frz.le_trans aW bJ
      replace aM:=Frz.le_trans aM bJ
      rw [fold_weave_K6] at h
      refine WI.region ?_
      replace h:=bindS h
      obtain ⟨d7,eO,h⟩:=h
      refine rno 2 [.run [] (binOp .add 3 (iv a4) (iv 1)) (iv d7)] 2 [(0,sv ad1 p0 cap2),(1,iv p1),(2,iv p2),(7,pb b7),(8,iv (ln p0)),(9,iv a2),(10,sv a7 a5 a8),(11,sv a1 a0 a3),(21,sv ad1 p0 cap2),(22,iv (ln p0)),(23,iv a2),(30,sv a1 a0 a3),(31,iv (ln a0)),(32,iv d7)] hF (ocons (obAddC (fun _=>eO)) onil) fun a hF=>?_
      refine wfn rfl ?_
      rw [hk5] at h
      exact ⟨nk5,Nat.lt_succ_self _,c2,cV,d7,ν24734,c6,c8,cL,cG,B24742,cH,hF.sub (by kernel_rfl),St.pickT (A:=[nestR 135 132 1 (fN 1) c6 c2.length c8 cL cG,fz w0 ν24734,blk b7 197 #[sv c6 c2 c8,.map (some m5)],mnestR (fA fold_place.cells) 199 3 fold_bond.cells m5 B24742 cH,arr 3 1 fI a1 a0.length a3 a0]) (T:=T_) [0,4,2,3,1] (by decide) hS,eI,eJ,aM,hext,hlow,h⟩
     ·replace h:=bif_f h hc
      refine wpIn_exit (exit_then <| exit_then <| exit_hit <| norm_then ?_)
      exact ⟨aD,c4,ν24565,aO,aP,bE,bB,B24573,bC,hF.sub (by kernel_rfl),St.pickT (A:=[nestR 135 132 1 (fN 1) aO aD.length aP bE bB,arr 3 1 fI a1 a0.length a3 a0,blk b7 197 #[sv aO aD aP,.map (some m5)],mnestR (fA fold_place.cells) 199 3 fold_bond.cells m5 B24573 bC,fz w0 ν24565]) (T:=T_) [0,1,2,3,4] (by decide) hS,bK,d0,aW,hext,hlow,h⟩
    clear aW
    rintro a w ⟨aC,cU,ν23852,aI,aJ,bD,b9,B23860,bA,hF,hS,cS,eG,bZ,hext,hlow,h⟩
    replace hA4:=hA4.mono Rp135.mono bZ
    replace aG:=aG.mono Rp132.mono bZ
    replace aK:=aK.mono Rp132.mono bZ
    replace aA:=Frz.le_trans aA bZ
    replace aB:=Frz.le_trans aB bZ
    replace aL:=Frz.le_trans aL bZ
    rw [fold_weave_K4] at h
    replace h:=bindS h
    obtain ⟨aH,f1,h⟩:=h
    replace h:=bindS h
    obtain ⟨c1,dN,h⟩:=h
    refine region_treeW 11 [6,7,8] _ (D:=fun w=>St w0 [arr 3 1 fI a1 a0.length a3 a0,blk b7 197 #[sv aI aC aJ,.map (some m5)],mnestR (fA fold_place.cells) 199 3 fold_bond.cells m5 B23860 bA] w∧FrzAt ν23852 w) (by kernel_rfl) (by kernel_rfl) hF.size (fun w hx=>?_) (fun _ _ h=>h)
    replace hS:=hS.later hx
    refine ⟨⟨St.pick [1,2,3] (by decide) hS,hS.frz (i:=4) rfl hlow⟩,?_⟩
    have cJ:=Frz.le_refl ν23852
    refine WT.s [0,1,2,3,4,5] [6] (by kernel_rfl) (by kernel_rfl) ?_
    refine runC (rest:=[]) (obs:=[.run [] (Instr.loadAt 147 (pb b7)) (sv aI aC aJ)]) [0,1,2,3,4,5] [(0,sv ad1 p0 cap2),(1,iv p1),(2,iv p2),(7,pb b7),(8,iv (ln p0)),(21,sv ad1 p0 cap2),(22,iv (ln p0)),(23,iv a2),(105,pb b7),(109,sv aI aC aJ),(110,sv a7 a5 a8)] hF (by kernel_rfl) (by kernel_rfl) (ocons (ob1 (by kernel_rfl) (fun _ hd=>hd.1.cell (i:=1) (j:=0) rfl rfl)) onil) ⟨by kernel_rfl⟩ fun a hF=>?_
    refine WRun.fin ?_
    refine all_cons ?_ (all_nil)
    refine callK (f:=119) (args:=#[sv a7 a5 a8]) (R:=fun v w2=>∃ ν23892 aQ aR aT,ν23852.ext w.heap.size ν23892∧v = sv aQ aH aR∧All2 (Rp132 ν23892) aT aH∧St w [frzR w.heap.size ν23892,arr 132 1 (fN 1) aQ aH.length aR aT] w2) (fun e2=>[(0,sv ad1 p0 cap2),(1,iv p1),(2,iv p2),(7,pb b7),(8,iv (ln p0)),(21,sv ad1 p0 cap2),(22,iv (ln p0)),(23,iv a2),(105,pb b7),(109,sv aI aC aJ),(111,e2)]) hF (by kernel_rfl) ⟨by kernel_rfl⟩ (Calls.mono (slices_Clone_fold_speeds_fold_speeds_ok F a5 _ f1 ν23852 w (hS.frz (i:=4) rfl hlow) aK) (by rintro e w2 ⟨ν23892,aQ,aR,aT,aU,rfl,cZ,h⟩; exact ⟨_,rfl,ν23892,aQ,aR,aT,aU,rfl,cZ,h⟩)) (fun _=>⟨by kernel_rfl⟩) ?_
    rintro e2 w a ⟨ν23892,aQ,aR,aT,aU,rfl,cZ,hQ⟩ hF
    replace hext:=Frz.ext_trans hext (Frz.ext_mono aU hS.ext.size)
    obtain ⟨hlow,hS⟩:=hS.frzMerge (i:=4) rfl hlow aU hQ
    replace hA4:=hA4.mono Rp135.mono aU.1
    replace aG:=aG.mono Rp132.mono aU.1
    replace aK:=aK.mono Rp132.mono aU.1
    replace cS:=cS.mono Rp132.mono aU.1
    replace aA:=Frz.le_trans aA aU.1
    replace aB:=Frz.le_trans aB aU.1
    replace aL:=Frz.le_trans aL aU.1
    replace bZ:=Frz.le_trans bZ aU.1
    replace cJ:=Frz.le_trans cJ aU.1
    replace hS : St w0 (arr 132 1 (fN 1) aQ aH.length aR aT :: nestR 135 132 1 (fN 1) aI aC.length aJ bD b9 :: arr 3 1 fI a1 a0.length a3 a0 :: blk b7 197 #[sv aI aC aJ,.map (some m5)] :: mnestR (fA fold_place.cells) 199 3 fold_bond.cells m5 B23860 bA :: fz w0 ν23892 :: T_) w:=hS
    refine ⟨⟨St.pick [2,3,4] (by decide) hS,(hS.frz (i:=5) rfl hlow).low cJ⟩,?_⟩
    refine WT.s [] [7] (by kernel_rfl) (by kernel_rfl) ?_
    refine WRun.fin ?_
    refine all_cons ?_ (all_nil)
    have dP : NestOk (Rp132 ν23892) [(aQ,aH.length,aR)] [aT] [aH]:=NestOk.one cZ
    refine lit1NK (e:=135) (t:=147) (fun cD=>[(0,sv ad1 p0 cap2),(1,iv p1),(2,iv p2),(7,pb b7),(8,iv (ln p0)),(21,sv ad1 p0 cap2),(22,iv (ln p0)),(23,iv a2),(105,pb b7),(109,sv aI aC aJ),(112,sb cD 1)]) (aQ,aH.length,aR) hF hS (by kernel_rfl) ⟨by kernel_rfl⟩ (by kernel_rfl) (fun _=>⟨by kernel_rfl⟩) fun cD w a hF hS=>⟨⟨St.pick [2,3,4] (by decide) hS,(hS.frz (i:=5) rfl hlow).low cJ⟩,?_⟩
    refine WT.s [] [8] (by kernel_rfl) (by kernel_rfl) ?_
    refine WRun.fin ?_
    refine all_cons ?_ (all_nil)
    replace hS : St w0 (nestR 135 132 1 (fN 1) (some ⟨cD,0,none⟩) ([aH]).length 1 ([(aQ,aH.length,aR)]) ([aT]) :: nestR 135 132 1 (fN 1) aI aC.length aJ bD b9 :: arr 3 1 fI a1 a0.length a3 a0 :: blk b7 197 #[sv aI aC aJ,.map (some m5)] :: mnestR (fA fold_place.cells) 199 3 fold_bond.cells m5 B23860 bA :: fz w0 ν23892 :: T_) w:=hS
    replace hS : St w0 (nestR 135 132 1 (fN 1) aI aC.length aJ bD b9 :: nestR 135 132 1 (fN 1) (some ⟨cD,0,none⟩) ([aH]).length 1 ([(aQ,aH.length,aR)]) ([aT]) :: arr 3 1 fI a1 a0.length a3 a0 :: blk b7 197 #[sv aI aC aJ,.map (some m5)] :: mnestR (fA fold_place.cells) 199 3 fold_bond.cells m5 B23860 bA :: fz w0 ν23892 :: T_) w:=St.pickT (A:=[nestR 135 132 1 (fN 1) (some ⟨cD,0,none⟩) ([aH]).length 1 ([(aQ,aH.length,aR)]) ([aT]),nestR 135 132 1 (fN 1) aI aC.length aJ bD b9,arr 3 1 fI a1 a0.length a3 a0,blk b7 197 #[sv aI aC aJ,.map (some m5)],mnestR (fA fold_place.cells) 199 3 fold_bond.cells m5 B23860 bA,fz w0 ν23892]) (T:=T_) [1,0,2,3,4,5] (by decide) hS
    have eH : NestOk (Rp132 ν23892) (bD ++ [(aQ,aH.length,aR)]) (b9 ++ [aT]) c1:=by rw [(apd_some dN).1]; exact NestOk.app cS dP
    refine appNNK (t:=147) (ty:=147) (bytes:=24) (L:=aC) (L2:=([aH])) (fun bN bP=>[(0,sv ad1 p0 cap2),(1,iv p1),(2,iv p2),(7,pb b7),(8,iv (ln p0)),(21,sv ad1 p0 cap2),(22,iv (ln p0)),(23,iv a2),(105,pb b7),(113,sv bN c1 bP)]) cS dP hF hS (by kernel_rfl) ⟨by kernel_rfl⟩ (by kernel_rfl) dN (fun _ _=>⟨by kernel_rfl⟩) fun bN bP w a hF hS=>⟨⟨St.pick [1,2,3] (by decide) hS,(hS.frz (i:=4) rfl hlow).low cJ⟩,?_⟩
    refine WT.z [9,10] (by kernel_rfl) ?_
    refine runC (rest:=[]) (obs:=[]) [9,10] [(0,sv ad1 p0 cap2),(1,iv p1),(2,iv p2),(7,pb b7),(8,iv (ln p0)),(21,sv ad1 p0 cap2),(22,iv (ln p0)),(23,iv a2),(113,sv bN c1 bP),(115,pb b7)] hF (by kernel_rfl) (by kernel_rfl) onil ⟨by kernel_rfl⟩ fun a hF=>?_
    refine WRun.fin ?_
    refine SK.wi (storeK (t:=147) [(0,sv ad1 p0 cap2),(1,iv p1),(2,iv p2),(7,pb b7),(8,iv (ln p0)),(21,sv ad1 p0 cap2),(22,iv (ln p0)),(23,iv a2)] 2 0 (sv bN c1 bP) #[sv bN c1 bP,.map (some m5)] hF hS rfl (by kernel_rfl) ⟨by kernel_rfl⟩ (by kernel_rfl) (by kernel_rfl) (by kernel_rfl) (by kernel_rfl) ⟨by kernel_rfl⟩ fun w a hF hS=>?_)
    refine WI.fin rfl (norm_block <| norm_then <| ?_)
    exact ⟨c1,cU,ν23892,bN,bP,(bD ++ [(aQ,aH.length,aR)]),(b9 ++ [aT]),B23860,bA,hF.sub (by kernel_rfl),St.pickT (A:=[nestR 135 132 1 (fN 1) bN c1.length bP (bD ++ [(aQ,aH.length,aR)]) (b9 ++ [aT]),arr 3 1 fI a1 a0.length a3 a0,blk b7 197 #[sv bN c1 bP,.map (some m5)],mnestR (fA fold_place.cells) 199 3 fold_bond.cells m5 B23860 bA,fz w0 ν23892]) (T:=T_) [0,2,3,4] (by decide) hS,eH,eG,aL,hext,hlow,h⟩
   clear aL
   rintro a w ⟨c0,cT,ν22827,c5,c7,cK,cE,B22835,cF,hF,hS,eE,eF,cR,hext,hlow,h⟩
   replace hA4:=hA4.mono Rp135.mono cR
   replace aG:=aG.mono Rp132.mono cR
   replace aA:=Frz.le_trans aA cR
   replace aB:=Frz.le_trans aB cR
   rw [fold_weave_K3] at h
   refine WI.region ?_
   replace h:=bindS h
   obtain ⟨d6,eN,h⟩:=h
   refine rno 2 [.run [] (binOp .add 3 (iv a2) (iv 1)) (iv d6)] 2 [(0,sv ad1 p0 cap2),(1,iv p1),(2,iv p2),(7,pb b7),(8,iv (ln p0)),(21,sv ad1 p0 cap2),(22,iv (ln p0)),(23,iv d6)] hF (ocons (obAddC (fun _=>eN)) onil) fun a hF=>?_
   refine wfn rfl ?_
   rw [hk2] at h
   exact ⟨nk2,Nat.lt_succ_self _,c0,cT,d6,ν22827,c5,c7,cK,cE,B22835,cF,hF.sub (by kernel_rfl),St.pickT (A:=[nestR 135 132 1 (fN 1) c5 c0.length c7 cK cE,blk b7 197 #[sv c5 c0 c7,.map (some m5)],mnestR (fA fold_place.cells) 199 3 fold_bond.cells m5 B22835 cF,fz w0 ν22827]) (T:=T_) [0,1,2,3] (by decide) hS,eE,eF,aB,hext,hlow,h⟩
  ·replace h:=bif_f h hc
   refine wpIn_exit (exit_then <| exit_then <| exit_hit <| norm_then ?_)
   exact ⟨aS,cC,ν20751,aY,aZ,bW,bQ,B20759,bR,hF.sub (by kernel_rfl),St.pickT (A:=[nestR 135 132 1 (fN 1) aY aS.length aZ bW bQ,blk b7 197 #[sv aY aS aZ,.map (some m5)],mnestR (fA fold_place.cells) 199 3 fold_bond.cells m5 B20759 bR,fz w0 ν20751]) (T:=T_) [0,1,2,3] (by decide) hS,aG,dO,aA,hext,hlow,h⟩
 clear aA
 rintro a w ⟨bL,d5,ν12449,bM,bO,cB,c9,B12457,cA,hF,hS,eC,eD,eB,hext,hlow,h⟩
 replace hA4:=hA4.mono Rp135.mono eB
 rw [fold_weave_K1] at h
 refine esr ?_
 refine rn 2 2 [(6,pb b7)] hF fun a hF=>?_
 refine wfn rfl ?_
 refine wpIn_ret (fn_ret [.tmp 6] [pb b7] hF rfl ⟨rfl,trivial⟩ ?_)
 have hr_:=Option.some.inj h
 subst hr_
 replace hS : St w0 (nestR 135 132 1 (fN 1) bM bL.length bO cB c9 :: blk b7 197 #[sv bM bL bO,.map (some m5)] :: mnestR (fA fold_place.cells) 199 3 fold_bond.cells m5 B12457 cA :: fz w0 ν12449 :: T_) w:=hS
 replace hS:=St.pickT (A:=[nestR 135 132 1 (fN 1) bM bL.length bO cB c9,blk b7 197 #[sv bM bL bO,.map (some m5)],mnestR (fA fold_place.cells) 199 3 fold_bond.cells m5 B12457 cA,fz w0 ν12449]) (T:=T_) [3,1,0,2] (by decide) hS
 exact ⟨ν12449,b7,bM,bO,cB,c9,m5,B12457,cA,hext,hlow,rfl,eC,eD,hS⟩
end Go.Proofs.Ytbhjgebjojdohaa
