import Derived.Test.YtbhjgebjojdohaaF6XD
import Derived.Test.YtbhjgebjojdohaaProg
import Derived.Test.YtbhjgebjojdohaaF6XW0
import Derived.Test.YtbhjgebjojdohaaF6XW1
import Derived.Test.YtbhjgebjojdohaaF6XW2
namespace Go.Proofs.Ytbhjgebjojdohaa
open Go Go.RowKit Go.Eng
set_option maxRecDepth 10000
set_option maxHeartbeats 4000000
set_option linter.unusedVariables false
set_option linter.unusedSimpArgs false
theorem fold_row_ok (F : Nat) (p0 : (List (List api_Span))) (res : ((List (List api_Span))×Int)) (h : fold_row F p0 = some res) (μ : Frz) (w0 : World) (hm : FrzAt μ w0) {ad1 : Option Addr} {cap2 : Nat} {css3 : List (List Value)} (hA4 : ArrQ μ 1 Rp43 ad1 cap2 css3 p0) : Calls Try.prog 65 #[sv ad1 p0 cap2] w0 (fun e w=>∃ (ν_ : Frz) (zad0 : Option Addr) (zcap0 : Nat) (zcss0 : List (List Value)),μ.ext w0.heap.size ν_∧e = .returned (.tuple #[sv zad0 res.1 zcap0,iv res.2])∧All2 (Rp132 ν_) zcss0 res.1∧St w0 [fz w0 ν_,arr 132 1 (fN 1) zad0 res.1.length zcap0 zcss0] w):=by
 obtain ⟨hlow,hS⟩:=hm.init
 have hext:=Frz.ext_refl w0.heap.size μ
 rw [fold_row] at h
 refine fn_enterW Try.func65 rfl 29 [(0,sv ad1 p0 cap2)] rfl rfl (by kernel_rfl) fun a w hw hF=>?_
 replace hS : St w0 [fz w0 μ] w:=by rw [hw]; exact hS
 clear hw
 refine esr ?_
 refine rn 2 2 [(0,sv ad1 p0 cap2)] hF fun a hF=>?_
 refine wfn rfl ?_
 refine eseq ?_
 refine esr ?_
 refine rn 3 3 [(0,sv ad1 p0 cap2),(10,.bool (decide ((ln p0) > 200)))] hF fun a hF=>?_
 refine wfn rfl ?_
 refine econd hF rfl (fun hc=>?_) (fun hc=>?_)
 ·replace h:=bif_t h hc
  refine esr ?_
  refine rn 2 2 [(2,.slice none 0 0),(3,iv 9)] hF fun a hF=>?_
  refine wfn rfl ?_
  refine wpIn_ret (ret_then <| fn_ret [.tmp 2,.tmp 3] [.slice none 0 0,iv 9] hF rfl ⟨rfl,rfl,trivial⟩ ?_)
  have hr_:=Option.some.inj h
  subst hr_
  replace hS:=hS.nilarr 132 1 (fN 1)
  exact ⟨μ,_,_,_,hext,rfl,All2.nil,St.pick [1,0] (by decide) hS⟩
 ·replace h:=bif_f h hc
  refine wpIn_skip (norm_then ?_)
  refine esr ?_
  refine rn 1 1 [(0,sv ad1 p0 cap2),(4,.slice none 0 0)] hF fun a hF=>?_
  refine wfn rfl ?_
  have aC:=Frz.le_refl μ
  refine ecut (fun a w=>∃ (aB : (List (List api_Span))) (ν94 : Frz) (aG : Option Addr) (aI : Nat) (aN : List (List Value)),Fr 29 [] [(4,sv aG aB aI)] a∧St w0 [arr 132 1 (fN 1) aG aB.length aI aN,fz w0 ν94] w∧(All2 (Rp132 ν94) aN aB)∧(μ.le ν94)∧(μ.ext w0.heap.size ν94)∧(FrzIn w0 ν94)∧fold_row_K1 aB = some res) ?_ ?_
  ·skip
   refine esr ?_
   refine rn 3 3 [(4,.slice none 0 0),(11,sv ad1 p0 cap2),(12,iv (ln p0)),(13,iv 0)] hF fun a hF=>?_
   refine wfn rfl ?_
   refine wpIn_block ?_
   have aR:=Frz.le_refl μ
   replace hS:=hS.nilarr 132 1 (fN 1)
   refine eloop (fun n_ a w=>∃ (a1 : Int) (a0 : (List (List api_Span))) (ν158 : Frz) (a2 : Option Addr) (a3 : Nat) (a7 : List (List Value)),Fr 29 [] [(4,sv a2 a0 a3),(11,sv ad1 p0 cap2),(12,iv (ln p0)),(13,iv a1)] a∧St w0 [arr 132 1 (fN 1) a2 a0.length a3 a7,fz w0 ν158] w∧(All2 (Rp132 ν158) a7 a0)∧(μ.le ν158)∧(μ.ext w0.heap.size ν158)∧(FrzIn w0 ν158)∧fold_row_L2 F p0 n_ a1 a0 = some res) F ⟨0,[],μ,none,0,[],hF.sub (by kernel_rfl),St.pick [0,1] (by decide) hS,All2.nil,aR,hext,hlow,h⟩ ?_
   clear aR
   rintro nk2 a w ⟨a1,a0,ν158,a2,a3,a7,hF,hS,aM,aJ,hext,hlow,h⟩
   rcases nk2 with _ | nk2
   ·cases (show (none : Option ((List (List api_Span))×Int)) = some res from h)
   replace hA4:=hA4.mono Rp43.mono aJ
   replace aC:=Frz.le_trans aC aJ
   obtain ⟨k2,hk2⟩ : ∃ k,k = fold_row_L2 F p0 nk2:=⟨_,rfl⟩
   replace h : fold_row_B2 F p0 k2 a1 a0 = some res:=by rw [hk2]; exact h
   rw [fold_row_B2] at h
   refine esr ?_
   refine rn 1 1 [(4,sv a2 a0 a3),(11,sv ad1 p0 cap2),(12,iv (ln p0)),(13,iv a1),(14,.bool (decide (a1 < (ln p0))))] hF fun a hF=>?_
   refine wfn rfl ?_
   refine eseq ?_
   refine econd hF rfl (fun hc=>?_) (fun hc=>?_)
   ·replace h:=bif_t h hc
    refine wpIn_skip (norm_then ?_)
    refine eseq ?_
    refine wpIn_block ?_
    refine esr ?_
    replace h:=bindS h
    obtain ⟨a8,b0,h⟩:=h
    obtain ⟨b5,aQ,aW⟩:=getI_all2 hA4.2 b0
    obtain ⟨a9,aA,rfl,aL⟩:=aW
    refine rno 3 [.run [] (Instr.indexAt 48 (sv ad1 p0 cap2) (iv a1)) (.pointer (some (slAddr ad1 a1 1))),.run [] (Instr.loadAt 43 (.pointer (some (slAddr ad1 a1 1)))) (sv a9 a8 aA)] 3 [(4,sv a2 a0 a3),(6,sv a9 a8 aA),(11,sv ad1 p0 cap2),(12,iv (ln p0)),(13,iv a1)] hF (ocons (obIdxQ (hA4.at (hS.frz (i:=1) rfl hlow)) (by kernel_rfl) (fun _=>aQ)) (ocons (obElQ (i:=a1) 0 (fN_len 1) (fun _ hd=>(hA4.at ((hS.at_ hd).frz (i:=1) rfl hlow))) (by kernel_rfl) (fun _=>aQ) rfl) onil)) fun a hF=>?_
    refine wfn rfl ?_
    refine eseq ?_
    refine esr ?_
    replace h:=bindS h
    obtain ⟨aE,b2,h⟩:=h
    refine rx 3 [.call [] 61 #[sv a9 a8 aA,.bool true] (iv aE)] 3 [(4,sv a2 a0 a3),(6,sv a9 a8 aA),(7,iv aE),(11,sv ad1 p0 cap2),(12,iv (ln p0)),(13,iv a1)] hF (ocons (show Ob.ok _ Ext _ _ from fun hk w2 hd=>fold_checked_ok F a8 true _ ((fun _=>b2) hk) _ w2 (memOf_at w2) (aL.mono (FrzAt.le_mem ((hS.later hd).frz (i:=1) rfl hlow)))) onil) fun a w hF hx=>?_
    replace hS:=hS.later hx
    refine wfn rfl ?_
    refine esr ?_
    refine rn 2 2 [(4,sv a2 a0 a3),(6,sv a9 a8 aA),(7,iv aE),(11,sv ad1 p0 cap2),(12,iv (ln p0)),(13,iv a1),(20,.bool (aE != 0))] hF fun a hF=>?_
    refine wfn rfl ?_
    refine econd hF rfl (fun hc=>?_) (fun hc=>?_)
    ·replace h:=bif_t h hc
     refine esr ?_
     refine rn 3 3 [(2,.slice none 0 0),(3,iv aE)] hF fun a hF=>?_
     refine wfn rfl ?_
     refine wpIn_ret (ret_then <| ret_block <| ret_then <| ret_then <| ret_block <| ret_then <| fn_ret [.tmp 2,.tmp 3] [.slice none 0 0,iv aE] hF rfl ⟨rfl,rfl,trivial⟩ ?_)
     have hr_:=Option.some.inj h
     subst hr_
     replace hS:=hS.nilarr 132 1 (fN 1)
     exact ⟨ν158,_,_,_,hext,rfl,All2.nil,St.pick [2,0] (by decide) hS⟩
    ·replace h:=bif_f h hc
     refine wpIn_skip (norm_then ?_)
     refine WI.region ?_
     refine rn 2 2 [(4,sv a2 a0 a3),(11,sv ad1 p0 cap2),(12,iv (ln p0)),(13,iv a1),(22,sv a2 a0 a3),(23,sv a9 a8 aA)] hF fun a hF=>?_
     replace h:=bindS h
     obtain ⟨a4,b3,h⟩:=h
     refine SK.wi (callK (f:=62) (args:=#[sv a9 a8 aA]) (R:=fun v w2=>∃ a5 a6,v = sv a5 a4 a6∧St w [arr 25 2 api_Span.cells a5 a4.length a6 a4] w2) (fun aU=>[(4,sv a2 a0 a3),(11,sv ad1 p0 cap2),(12,iv (ln p0)),(13,iv a1),(22,sv a2 a0 a3),(24,aU)]) hF (by kernel_rfl) ⟨by kernel_rfl⟩ (Calls.mono (fold_speeds_united_ok F a8 _ b3 (memOf w) w (memOf_at w) (aL.mono (FrzAt.le_mem (hS.frz (i:=1) rfl hlow)))) (by rintro e w2 ⟨a5,a6,rfl,h⟩; exact ⟨_,rfl,a5,a6,rfl,h⟩)) (fun _=>⟨by kernel_rfl⟩) ?_)
     rintro aU w a ⟨a5,a6,rfl,hQ⟩ hF
     replace hS : St w0 [arr 25 2 api_Span.cells a5 a4.length a6 a4,arr 132 1 (fN 1) a2 a0.length a3 a7,fz w0 ν158] w:=hS.madeL hQ
     obtain ⟨ν180,aD,hlow,hS,b4⟩:=hS.freeze (i:=2) (j:=0) rfl rfl (by decide) hlow
     replace hA4:=hA4.mono Rp43.mono aD.1
     replace aM:=All2.mono Rp132.mono aD.1 aM
     replace aL:=aL.mono aD.1
     replace aC:=Frz.le_trans aC aD.1
     replace aJ:=Frz.le_trans aJ aD.1
     replace hext:=Frz.ext_trans hext aD
     replace hS : St w0 [arr 132 1 (fN 1) a2 a0.length a3 a7,fz w0 ν180] w:=hS
     have aV:=ArrM.of_arr b4
     have aT : All2 (Rp132 ν180) ([[sv a5 a4 a6]] : List (List Value)) [a4]:=(All2.cons ⟨a5,a6,rfl,aV⟩ All2.nil)
     refine SK.wi (litQK (e:=132) (sz:=1) (f:=fN 1) (t:=135) (len:=1) (fun aP=>[(4,sv a2 a0 a3),(11,sv ad1 p0 cap2),(12,iv (ln p0)),(13,iv a1),(22,sv a2 a0 a3),(25,sb aP 1)]) #[(0,sv a5 a4 a6)] #[sv a5 a4 a6] ([[sv a5 a4 a6]] : List (List Value)) ([a4]) hF hS (by kernel_rfl) ⟨by kernel_rfl⟩ (by kernel_rfl) (fN_len 1) rfl rfl rfl (by kernel_rfl) (fun _=>⟨by kernel_rfl⟩) fun aP w a hF hS=>?_)
     replace h:=bindS h
     obtain ⟨aK,aS,h⟩:=h
     have aY : All2 (Rp132 ν180) (a7 ++ ([[sv a5 a4 a6]] : List (List Value))) aK:=by rw [(apd_some aS).1]; exact All2.app aM aT
     refine SK.wi (appQK (t:=135) (ty:=135) (bytes:=24) (c:=a7) (c':=([[sv a5 a4 a6]] : List (List Value))) (l:=a0) (l':=([a4])) (fun aF aH=>[(4,sv a2 a0 a3),(11,sv ad1 p0 cap2),(12,iv (ln p0)),(13,iv a1),(26,sv aF aK aH)]) 1 hF hS rfl (by kernel_rfl) ⟨by kernel_rfl⟩ (by kernel_rfl) (hS.arr (i:=0) rfl) (ArrQ.one aT Rp132.one) aS (fun _ _=>⟨by kernel_rfl⟩) fun aF aH w a hF hS=>?_)
     refine rn 1 6 [(4,sv aF aK aH),(11,sv ad1 p0 cap2),(12,iv (ln p0)),(13,iv a1)] hF fun a hF=>?_
     refine WI.fin rfl (norm_block <| norm_then <| ?_)
     refine WI.region ?_
     replace h:=bindS h
     obtain ⟨aO,b1,h⟩:=h
     refine rno 2 [.run [] (binOp .add 3 (iv a1) (iv 1)) (iv aO)] 2 [(4,sv aF aK aH),(11,sv ad1 p0 cap2),(12,iv (ln p0)),(13,iv aO)] hF (ocons (obAddC (fun _=>b1)) onil) fun a hF=>?_
     refine wfn rfl ?_
     rw [hk2] at h
     exact ⟨nk2,Nat.lt_succ_self _,aO,aK,ν180,aF,aH,(a7 ++ ([[sv a5 a4 a6]] : List (List Value))),hF.sub (by kernel_rfl),St.pick [1,2] (by decide) hS,aY,aJ,hext,hlow,h⟩
   ·replace h:=bif_f h hc
    refine wpIn_exit (exit_then <| exit_then <| exit_hit <| norm_then ?_)
    exact ⟨a0,ν158,a2,a3,a7,hF.sub (by kernel_rfl),St.pick [0,1] (by decide) hS,aM,aC,hext,hlow,h⟩
  clear aC
  rintro a w ⟨aB,ν94,aG,aI,aN,hF,hS,aZ,aX,hext,hlow,h⟩
  replace hA4:=hA4.mono Rp43.mono aX
  rw [fold_row_K1] at h
  refine esr ?_
  refine rn 3 3 [(2,sv aG aB aI),(3,iv 0)] hF fun a hF=>?_
  refine wfn rfl ?_
  refine wpIn_ret (fn_ret [.tmp 2,.tmp 3] [sv aG aB aI,iv 0] hF rfl ⟨rfl,rfl,trivial⟩ ?_)
  have hr_:=Option.some.inj h
  subst hr_
  exact ⟨ν94,_,_,_,hext,rfl,aZ,St.pick [1,0] (by decide) hS⟩
theorem ref03_ray_ok (F : Nat) (p0 : (List (List api_Span))) (res : Int) (h : ref03_ray F p0 = some res) (μ : Frz) (w0 : World) (hm : FrzAt μ w0) {ad1 : Option Addr} {cap2 : Nat} {css3 : List (List Value)} (hA4 : ArrQ μ 1 Rp43 ad1 cap2 css3 p0) : Calls Try.prog 71 #[sv ad1 p0 cap2] w0 (fun e w=>e = .returned (iv res)∧Ext w0 w):=by
 obtain ⟨hlow,hS⟩:=hm.init
 have hext:=Frz.ext_refl w0.heap.size μ
 rw [ref03_ray] at h
 refine fn_enterW Try.func71 rfl 22 [(0,sv ad1 p0 cap2)] rfl rfl (by kernel_rfl) fun a w hw hF=>?_
 replace hS : St w0 [fz w0 μ] w:=by rw [hw]; exact hS
 clear hw
 refine esr ?_
 refine rn 1 1 [(0,sv ad1 p0 cap2)] hF fun a hF=>?_
 refine wfn rfl ?_
 refine eseq ?_
 refine esr ?_
 refine rn 3 3 [(0,sv ad1 p0 cap2),(7,.bool (decide ((ln p0) > 200)))] hF fun a hF=>?_
 refine wfn rfl ?_
 refine econd hF rfl (fun hc=>?_) (fun hc=>?_)
 ·replace h:=bif_t h hc
  refine esr ?_
  refine rn 1 1 [(2,iv 9)] hF fun a hF=>?_
  refine wfn rfl ?_
  refine wpIn_ret (ret_then <| fn_ret [.tmp 2] [iv 9] hF rfl ⟨rfl,trivial⟩ ?_)
  have hr_:=Option.some.inj h
  subst hr_
  exact ⟨rfl,hS.ext⟩
 ·replace h:=bif_f h hc
  refine wpIn_skip (norm_then ?_)
  refine ecut (fun a w=>Fr 22 [] [] a∧St w0 [fz w0 μ] w∧ref03_ray_K1 = some res) ?_ ?_
  ·skip
   refine esr ?_
   refine rn 1 1 [(0,sv ad1 p0 cap2),(3,iv 0)] hF fun a hF=>?_
   refine wfn rfl ?_
   refine wpIn_block ?_
   refine eloop (fun n_ a w=>∃ (a0 : Int),Fr 22 [] [(0,sv ad1 p0 cap2),(3,iv a0)] a∧St w0 [fz w0 μ] w∧ref03_ray_L2 F p0 n_ a0 = some res) F ⟨0,hF.sub (by kernel_rfl),St.pick [0] (by decide) hS,h⟩ ?_
   rintro nk2 a w ⟨a0,hF,hS,h⟩
   rcases nk2 with _ | nk2
   ·cases (show (none : Option Int) = some res from h)
   obtain ⟨k2,hk2⟩ : ∃ k,k = ref03_ray_L2 F p0 nk2:=⟨_,rfl⟩
   replace h : ref03_ray_B2 F p0 k2 a0 = some res:=by rw [hk2]; exact h
   rw [ref03_ray_B2] at h
   refine eseq ?_
   refine esr ?_
   refine rn 4 4 [(0,sv ad1 p0 cap2),(3,iv a0),(11,.bool (decide (a0 < (ln p0))))] hF fun a hF=>?_
   refine wfn rfl ?_
   refine econd hF rfl (fun hc=>?_) (fun hc=>?_)
   ·replace h:=bif_t h hc
    refine wpIn_skip (norm_then ?_)
    refine eseq ?_
    refine wpIn_block ?_
    refine esr ?_
    replace h:=bindS h
    obtain ⟨a2,a9,h⟩:=h
    obtain ⟨aC,a6,a8⟩:=getI_all2 hA4.2 a9
    obtain ⟨a4,a5,rfl,a7⟩:=a8
    replace h:=bindS h
    obtain ⟨a1,aB,h⟩:=h
    refine rx 6 [.run [] (Instr.indexAt 48 (sv ad1 p0 cap2) (iv a0)) (.pointer (some (slAddr ad1 a0 1))),.run [] (Instr.loadAt 43 (.pointer (some (slAddr ad1 a0 1)))) (sv a4 a2 a5),.call [] 63 #[sv a4 a2 a5,.bool true] (iv a1)] 6 [(0,sv ad1 p0 cap2),(3,iv a0),(4,iv a1)] hF (ocons (obIdxQ (hA4.at (hS.frz (i:=0) rfl hlow)) (by kernel_rfl) (fun _=>a6)) (ocons (obElQ (i:=a0) 0 (fN_len 1) (fun _ hd=>(hA4.at ((hS.later hd).frz (i:=0) rfl hlow))) (by kernel_rfl) (fun _=>a6) rfl) (ocons (show Ob.ok _ Ext _ _ from fun hk w2 hd=>ref03_spans_ok F a2 true _ ((fun _=>aB) hk) _ w2 (memOf_at w2) (a7.mono (FrzAt.le_mem ((hS.later hd).frz (i:=0) rfl hlow)))) onil))) fun a w hF hx=>?_
    replace hS:=hS.later hx
    refine wfn rfl ?_
    refine esr ?_
    refine rn 2 2 [(0,sv ad1 p0 cap2),(3,iv a0),(4,iv a1),(20,.bool (a1 != 0))] hF fun a hF=>?_
    refine wfn rfl ?_
    refine econd hF rfl (fun hc=>?_) (fun hc=>?_)
    ·replace h:=bif_t h hc
     refine esr ?_
     refine rn 2 2 [(2,iv a1)] hF fun a hF=>?_
     refine wfn rfl ?_
     refine wpIn_ret (ret_block <| ret_then <| ret_then <| ret_block <| ret_then <| fn_ret [.tmp 2] [iv a1] hF rfl ⟨rfl,trivial⟩ ?_)
     have hr_:=Option.some.inj h
     subst hr_
     exact ⟨rfl,hS.ext⟩
    ·replace h:=bif_f h hc
     refine wpIn_skip (norm_block <| norm_then <| ?_)
     refine WI.region ?_
     replace h:=bindS h
     obtain ⟨a3,aA,h⟩:=h
     refine rno 3 [.run [] (binOp .add 3 (iv a0) (iv 1)) (iv a3)] 3 [(0,sv ad1 p0 cap2),(3,iv a3)] hF (ocons (obAddC (fun _=>aA)) onil) fun a hF=>?_
     refine wfn rfl ?_
     rw [hk2] at h
     exact ⟨nk2,Nat.lt_succ_self _,a3,hF.sub (by kernel_rfl),St.pick [0] (by decide) hS,h⟩
   ·replace h:=bif_f h hc
    refine wpIn_exit (exit_then <| exit_then <| exit_hit <| norm_then ?_)
    exact ⟨hF.sub (by kernel_rfl),St.pick [0] (by decide) hS,h⟩
  rintro a w ⟨hF,hS,h⟩
  rw [ref03_ray_K1] at h
  refine esr ?_
  refine rn 1 1 [(2,iv 0)] hF fun a hF=>?_
  refine wfn rfl ?_
  refine wpIn_ret (fn_ret [.tmp 2] [iv 0] hF rfl ⟨rfl,trivial⟩ ?_)
  have hr_:=Option.some.inj h
  subst hr_
  exact ⟨rfl,hS.ext⟩
theorem ref03_Links_ok (F : Nat) (p0 : (List (List (List api_Span)))) (p1 : Int) (p2 : Int) (res : (List ref03_Link)) (h : ref03_Links F p0 p1 p2 = some res) (μ : Frz) (w0 : World) (hm : FrzAt μ w0) {ad1 : Option Addr} {cap2 : Nat} {css3 : List (List Value)} (hA4 : ArrQ μ 1 Rp48 ad1 cap2 css3 p0) : Calls Try.prog 107 #[sv ad1 p0 cap2,iv p1,iv p2] w0 (fun e w=>∃ zad0 zcap0,e = .returned (sv zad0 res zcap0)∧St w0 [arr 206 5 ref03_Link.cells zad0 res.length zcap0 res] w):=by
 obtain ⟨hlow,hS⟩:=hm.init
 have hext:=Frz.ext_refl w0.heap.size μ
 rw [ref03_Links] at h
 refine fn_enterW Try.func107 rfl 105 [(0,sv ad1 p0 cap2),(1,iv p1),(2,iv p2)] rfl rfl (by kernel_rfl) fun a w hw hF=>?_
 replace hS : St w0 [fz w0 μ] w:=by rw [hw]; exact hS
 clear hw
 refine esr ?_
 refine rn 1 1 [(0,sv ad1 p0 cap2),(1,iv p1),(2,iv p2)] hF fun a hF=>?_
 refine wfn rfl ?_
 refine esr ?_
 refine rn 1 1 [(0,sv ad1 p0 cap2),(1,iv p1),(2,iv p2),(7,.slice none 0 0)] hF fun a hF=>?_
 refine wfn rfl ?_
 refine esr ?_
 refine rn 3 3 [(0,sv ad1 p0 cap2),(1,iv p1),(2,iv p2),(7,.slice none 0 0),(8,iv (ln p0))] hF fun a hF=>?_
 refine wfn rfl ?_
 refine ecut (fun a w=>∃ (aF : (List ref03_Link)) (aL : Option Addr) (aO : Nat),Fr 105 [] [(7,sv aL aF aO)] a∧St w0 [arr 206 5 ref03_Link.cells aL aF.length aO aF,fz w0 μ] w∧ref03_Links_K1 aF = some res) ?_ ?_
 ·skip
  refine esr ?_
  refine rn 1 1 [(0,sv ad1 p0 cap2),(1,iv p1),(2,iv p2),(7,.slice none 0 0),(8,iv (ln p0)),(9,iv 0)] hF fun a hF=>?_
  refine wfn rfl ?_
  refine wpIn_block ?_
  replace hS:=hS.nilarr 206 5 ref03_Link.cells
  refine eloop (fun n_ a w=>∃ (a9 : (List ref03_Link)) (a0 : Int) (aB : Option Addr) (aC : Nat),Fr 105 [] [(0,sv ad1 p0 cap2),(1,iv p1),(2,iv p2),(7,sv aB a9 aC),(8,iv (ln p0)),(9,iv a0)] a∧St w0 [arr 206 5 ref03_Link.cells aB a9.length aC a9,fz w0 μ] w∧ref03_Links_L2 F p0 p1 p2 n_ a9 a0 = some res) F ⟨[],0,none,0,hF.sub (by kernel_rfl),St.pick [0,1] (by decide) hS,h⟩ ?_
  rintro nk2 a w ⟨a9,a0,aB,aC,hF,hS,h⟩
  rcases nk2 with _ | nk2
  ·cases (show (none : Option (List ref03_Link)) = some res from h)
  obtain ⟨k2,hk2⟩ : ∃ k,k = ref03_Links_L2 F p0 p1 p2 nk2:=⟨_,rfl⟩
  replace h : ref03_Links_B2 F p0 p1 p2 k2 a9 a0 = some res:=by rw [hk2]; exact h
  rw [ref03_Links_B2] at h
  refine eseq ?_
  refine esr ?_
  refine rn 3 3 [(0,sv ad1 p0 cap2),(1,iv p1),(2,iv p2),(7,sv aB a9 aC),(8,iv (ln p0)),(9,iv a0),(17,.bool (decide (a0 < (ln p0))))] hF fun a hF=>?_
  refine wfn rfl ?_
  refine econd hF rfl (fun hc=>?_) (fun hc=>?_)
  ·replace h:=bif_t h hc
   refine wpIn_skip (norm_then ?_)
   refine ecut (fun a w=>∃ (aD : (List ref03_Link)) (aJ : Option Addr) (aM : Nat),Fr 105 [] [(0,sv ad1 p0 cap2),(1,iv p1),(2,iv p2),(7,sv aJ aD aM),(8,iv (ln p0)),(9,iv a0)] a∧St w0 [arr 206 5 ref03_Link.cells aJ aD.length aM aD,fz w0 μ] w∧ref03_Links_K3 a0 k2 aD = some res) ?_ ?_
   ·skip
    refine wpIn_block ?_
    refine esr ?_
    refine rn 1 1 [(0,sv ad1 p0 cap2),(1,iv p1),(2,iv p2),(7,sv aB a9 aC),(8,iv (ln p0)),(9,iv a0),(10,iv 0)] hF fun a hF=>?_
    refine wfn rfl ?_
    refine wpIn_block ?_
    refine eloop (fun n_ a w=>∃ (a1 : Int) (a6 : (List ref03_Link)) (a7 : Option Addr) (a8 : Nat),Fr 105 [] [(0,sv ad1 p0 cap2),(1,iv p1),(2,iv p2),(7,sv a7 a6 a8),(8,iv (ln p0)),(9,iv a0),(10,iv a1)] a∧St w0 [arr 206 5 ref03_Link.cells a7 a6.length a8 a6,fz w0 μ] w∧ref03_Links_L4 F p0 p1 p2 a0 k2 n_ a1 a6 = some res) F ⟨0,a9,aB,aC,hF.sub (by kernel_rfl),St.pick [0,1] (by decide) hS,h⟩ ?_
    rintro nk4 a w ⟨a1,a6,a7,a8,hF,hS,h⟩
    rcases nk4 with _ | nk4
    ·cases (show (none : Option (List ref03_Link)) = some res from h)
    obtain ⟨k4,hk4⟩ : ∃ k,k = ref03_Links_L4 F p0 p1 p2 a0 k2 nk4:=⟨_,rfl⟩
    replace h : ref03_Links_B4 F p0 p1 p2 a0 k2 k4 a1 a6 = some res:=by rw [hk4]; exact h
    rw [ref03_Links_B4] at h
    refine eseq ?_
    refine esr ?_
    replace h:=bindS h
    obtain ⟨bH,c4,h⟩:=h
    obtain ⟨cL,bB,bW⟩:=getI_all2 hA4.2 c4
    obtain ⟨bP,bS,cR,rfl,cV⟩:=bW
    refine rno 7 [.run [] (Instr.indexAt 54 (sv ad1 p0 cap2) (iv a0)) (.pointer (some (slAddr ad1 a0 1))),.run [] (Instr.loadAt 48 (.pointer (some (slAddr ad1 a0 1)))) (sv bP bH bS)] 7 [(0,sv ad1 p0 cap2),(1,iv p1),(2,iv p2),(7,sv a7 a6 a8),(8,iv (ln p0)),(9,iv a0),(10,iv a1),(26,.bool (decide (a1 < (ln bH))))] hF (ocons (obIdxQ (hA4.at (hS.frz (i:=1) rfl hlow)) (by kernel_rfl) (fun _=>bB)) (ocons (obElQ (i:=a0) 0 (fN_len 1) (fun _ hd=>(hA4.at ((hS.at_ hd).frz (i:=1) rfl hlow))) (by kernel_rfl) (fun _=>bB) rfl) onil)) fun a hF=>?_
    refine wfn rfl ?_
    refine econd hF rfl (fun hc=>?_) (fun hc=>?_)
    ·replace h:=bif_t h hc
     refine wpIn_skip (norm_then ?_)
     refine ecut (fun a w=>∃ (aE : (List ref03_Link)) (aK : Option Addr) (aN : Nat),Fr 105 [] [(0,sv ad1 p0 cap2),(1,iv p1),(2,iv p2),(7,sv aK aE aN),(8,iv (ln p0)),(9,iv a0),(10,iv a1)] a∧St w0 [arr 206 5 ref03_Link.cells aK aE.length aN aE,fz w0 μ] w∧ref03_Links_K5 a1 k4 aE = some res) ?_ ?_
     ·skip
      refine wpIn_block ?_
      refine esr ?_
      replace h:=bindS h
      obtain ⟨b1,c5,h⟩:=h
      obtain ⟨cM,bC,bX⟩:=getI_all2 hA4.2 c5
      obtain ⟨b5,b8,cS,rfl,bV⟩:=bX
      replace h:=bindS h
      obtain ⟨aA,cK,h⟩:=h
      refine rx 8 [.run [] (Instr.indexAt 54 (sv ad1 p0 cap2) (iv a0)) (.pointer (some (slAddr ad1 a0 1))),.run [] (Instr.loadAt 48 (.pointer (some (slAddr ad1 a0 1)))) (sv b5 b1 b8),.call [] 73 #[sv b5 b1 b8,iv a1,iv p2] (iv aA)] 8 [(0,sv ad1 p0 cap2),(1,iv p1),(2,iv p2),(7,sv a7 a6 a8),(8,iv (ln p0)),(9,iv a0),(10,iv a1),(11,iv aA)] hF (ocons (obIdxQ (hA4.at (hS.frz (i:=1) rfl hlow)) (by kernel_rfl) (fun _=>bC)) (ocons (obElQ (i:=a0) 0 (fN_len 1) (fun _ hd=>(hA4.at ((hS.later hd).frz (i:=1) rfl hlow))) (by kernel_rfl) (fun _=>bC) rfl) (ocons (show Ob.ok _ Ext _ _ from fun hk w2 hd=>ref03_Next_ok F b1 a1 p2 _ ((fun _=>cK) hk) _ w2 (memOf_at w2) (bV.mono Rp43.mono (FrzAt.le_mem ((hS.later hd).frz (i:=1) rfl hlow)))) onil))) fun a w hF hx=>?_
      replace hS:=hS.later hx
      refine wfn rfl ?_
      refine ecut (fun a w=>∃ (a2 : (List ref03_Link)) (a3 : Option Addr) (a4 : Nat),Fr 105 [] [(0,sv ad1 p0 cap2),(1,iv p1),(2,iv p2),(7,sv a3 a2 a4),(8,iv (ln p0)),(9,iv a0),(10,iv a1)] a∧St w0 [arr 206 5 ref03_Link.cells a3 a2.length a4 a2,fz w0 μ] w∧ref03_Links_K6 F p0 p1 p2 a0 a1 k4 a2 = some res) ?_ ?_
      ·skip
       refine esr ?_
       refine rn 2 2 [(0,sv ad1 p0 cap2),(1,iv p1),(2,iv p2),(7,sv a7 a6 a8),(8,iv (ln p0)),(9,iv a0),(10,iv a1),(11,iv aA),(37,.bool (decide (aA ≥ 0)))] hF fun a hF=>?_
       refine wfn rfl ?_
       refine econd hF rfl (fun hc=>?_) (fun hc=>?_)
       ·replace h:=bif_t h hc
        refine WI.region ?_
        replace h:=bindS h
        obtain ⟨bO,cI,h⟩:=h
        replace h:=bindS h
        obtain ⟨aI,cJ,h⟩:=h
        refine rno 13 [.run [] (binOp .sub 3 (iv aA) (iv a1)) (iv bO),.run [] (binOp .mul 3 (iv p1) (iv bO)) (iv aI)] 13 [(0,sv ad1 p0 cap2),(1,iv p1),(2,iv p2),(7,sv a7 a6 a8),(8,iv (ln p0)),(9,iv a0),(10,iv a1),(38,sv a7 a6 a8),(50,.agg #[iv a0,iv a1,iv a0,iv aA,iv aI])] hF (ocons (obSubC (fun _=>cI)) (ocons (obMulC (fun _=>cJ)) onil)) fun a hF=>?_
        refine SK.wi (litK (e:=206) (sz:=5) (f:=ref03_Link.cells) (t:=201) (len:=1) (fun b7=>[(0,sv ad1 p0 cap2),(1,iv p1),(2,iv p2),(7,sv a7 a6 a8),(8,iv (ln p0)),(9,iv a0),(10,iv a1),(38,sv a7 a6 a8),(51,sb b7 1)]) #[(0,.agg #[iv a0,iv a1,iv a0,iv aA,iv aI])] #[iv a0,iv a1,iv a0,iv aA,iv aI] ([(ref03_Link.mk (ref03_Place.mk a0 a1) (ref03_Place.mk a0 aA) aI)]) hF hS (by kernel_rfl) ⟨by kernel_rfl⟩ (by kernel_rfl) ref03_Link.cells_len rfl rfl (by kernel_rfl) (fun _=>⟨by kernel_rfl⟩) fun b7 w a hF hS=>?_)
        replace h:=bindS h
        obtain ⟨b0,c3,h⟩:=h
        refine SK.wi (appK (t:=201) (ty:=201) (bytes:=40) (l:=a6) (l':=([(ref03_Link.mk (ref03_Place.mk a0 a1) (ref03_Place.mk a0 aA) aI)])) (fun aU aW=>[(0,sv ad1 p0 cap2),(1,iv p1),(2,iv p2),(7,sv a7 a6 a8),(8,iv (ln p0)),(9,iv a0),(10,iv a1),(52,sv aU b0 aW)]) 1 hF hS rfl (by kernel_rfl) ⟨by kernel_rfl⟩ (by kernel_rfl) (hS.arr (i:=0) rfl) (fun _ _=>rfl) c3 (fun _ _=>⟨by kernel_rfl⟩) fun aU aW w a hF hS=>?_)
        refine rn 1 16 [(0,sv ad1 p0 cap2),(1,iv p1),(2,iv p2),(7,sv aU b0 aW),(8,iv (ln p0)),(9,iv a0),(10,iv a1)] hF fun a hF=>?_
        refine wfn rfl ?_
        exact ⟨b0,aU,aW,hF.sub (by kernel_rfl),St.pick [1,2] (by decide) hS,h⟩
       ·replace h:=bif_f h hc
        refine wpIn_skip (norm_then ?_)
        exact ⟨a6,a7,a8,hF.sub (by kernel_rfl),St.pick [0,1] (by decide) hS,h⟩
      rintro a w ⟨a2,a3,a4,hF,hS,h⟩
      rw [ref03_Links_K6] at h
      refine esr ?_
      refine rn 1 1 [(0,sv ad1 p0 cap2),(1,iv p1),(2,iv p2),(7,sv a3 a2 a4),(8,iv (ln p0)),(9,iv a0),(10,iv a1),(12,iv 1)] hF fun a hF=>?_
      refine wfn rfl ?_
      refine wpIn_block ?_
      refine eloop (fun n_ a w=>∃ (a5 : Int),Fr 105 [] [(0,sv ad1 p0 cap2),(1,iv p1),(2,iv p2),(7,sv a3 a2 a4),(8,iv (ln p0)),(9,iv a0),(10,iv a1),(12,iv a5)] a∧St w0 [arr 206 5 ref03_Link.cells a3 a2.length a4 a2,fz w0 μ] w∧ref03_Links_L7 p0 p1 p2 a0 a1 k4 a2 n_ a5 = some res) F ⟨1,hF.sub (by kernel_rfl),St.pick [0,1] (by decide) hS,h⟩ ?_
      rintro nk7 a w ⟨a5,hF,hS,h⟩
      rcases nk7 with _ | nk7
      ·cases (show (none : Option (List ref03_Link)) = some res from h)
      obtain ⟨k7,hk7⟩ : ∃ k,k = ref03_Links_L7 p0 p1 p2 a0 a1 k4 a2 nk7:=⟨_,rfl⟩
      replace h : ref03_Links_B7 p0 p1 p2 a0 a1 k4 a2 k7 a5 = some res:=by rw [hk7]; exact h
      rw [ref03_Links_B7] at h
      refine eseq ?_
      refine esr ?_
      refine rn 9 9 [(0,sv ad1 p0 cap2),(1,iv p1),(2,iv p2),(7,sv a3 a2 a4),(8,iv (ln p0)),(9,iv a0),(10,iv a1),(12,iv a5),(61,.bool (bif (decide (a5 < (ln p0))) then (decide (a5≤p2)) else false))] hF fun a hF=>?_
      rcases Bool.eq_false_or_eq_true ((bif (decide (a5 < (ln p0))) then (decide (a5≤p2)) else false)) with aP | aP
      ·replace h:=bif_t h aP
       rw [aP] at hF
       replace h:=bindS h
       obtain ⟨bI,c6,h⟩:=h
       obtain ⟨cN,bD,bY⟩:=getI_all2 hA4.2 c6
       obtain ⟨aR,b9,cT,rfl,aX⟩:=bY
       replace h:=bindS h
       obtain ⟨bJ,c7,h⟩:=h
       obtain ⟨cO,bE,bZ⟩:=getI_all2 aX.2 c7
       obtain ⟨bQ,bT,rfl,cW⟩:=bZ
       refine rno 10 [.run [⟨61,true,true⟩] (Instr.indexAt 54 (sv ad1 p0 cap2) (iv a0)) (.pointer (some (slAddr ad1 a0 1))),.run [⟨61,true,true⟩] (Instr.loadAt 48 (.pointer (some (slAddr ad1 a0 1)))) (sv aR bI b9),.run [⟨61,true,true⟩] (Instr.indexAt 48 (sv aR bI b9) (iv a1)) (.pointer (some (slAddr aR a1 1))),.run [⟨61,true,true⟩] (Instr.loadAt 43 (.pointer (some (slAddr aR a1 1)))) (sv bQ bJ bT)] 19 [(0,sv ad1 p0 cap2),(1,iv p1),(2,iv p2),(7,sv a3 a2 a4),(8,iv (ln p0)),(9,iv a0),(10,iv a1),(12,iv a5),(71,.bool (decide ((ln bJ) > 0)))] hF (ocons (obIdxQ (hA4.at (hS.frz (i:=1) rfl hlow)) (by kernel_rfl) (fun _=>bD)) (ocons (obElQ (i:=a0) 0 (fN_len 1) (fun _ hd=>(hA4.at ((hS.at_ hd).frz (i:=1) rfl hlow))) (by kernel_rfl) (fun _=>bD) rfl) (ocons (obIdxQ (aX.at (hS.frz (i:=1) rfl hlow)) (by kernel_rfl) (fun _=>bE)) (ocons (obElQ (i:=a1) 0 (fN_len 1) (fun _ hd=>(aX.at ((hS.at_ hd).frz (i:=1) rfl hlow))) (by kernel_rfl) (fun _=>bE) rfl) onil)))) fun a hF=>?_
       refine wfn rfl ?_
       refine econd hF rfl (fun hc=>?_) (fun hc=>?_)
       ·replace h:=bif_t h hc
        refine wpIn_skip (norm_then ?_)
        refine eseq ?_
        refine wpIn_block ?_
        refine esr ?_
        replace h:=bindS h
        obtain ⟨bM,cC,h⟩:=h
        replace h:=bindS h
        obtain ⟨aQ,cD,h⟩:=h
        replace h:=bindS h
        obtain ⟨bK,c8,h⟩:=h
        obtain ⟨cP,bF,c0⟩:=getI_all2 hA4.2 c8
        obtain ⟨aS,bA,cU,rfl,aY⟩:=c0
        replace h:=bindS h
        obtain ⟨bL,c9,h⟩:=h
        obtain ⟨cQ,bG,c1⟩:=getI_all2 aY.2 c9
        obtain ⟨bR,bU,rfl,cX⟩:=c1
        refine rno 13 [.run [] (binOp .add 3 (iv a0) (iv a5)) (iv bM),.run [] (binOp .rem 3 (iv bM) (iv (ln p0))) (iv aQ),.run [] (Instr.indexAt 54 (sv ad1 p0 cap2) (iv aQ)) (.pointer (some (slAddr ad1 aQ 1))),.run [] (Instr.loadAt 48 (.pointer (some (slAddr ad1 aQ 1)))) (sv aS bK bA),.run [] (Instr.indexAt 48 (sv aS bK bA) (iv a1)) (.pointer (some (slAddr aS a1 1))),.run [] (Instr.loadAt 43 (.pointer (some (slAddr aS a1 1)))) (sv bR bL bU)] 13 [(0,sv ad1 p0 cap2),(1,iv p1),(2,iv p2),(7,sv a3 a2 a4),(8,iv (ln p0)),(9,iv a0),(10,iv a1),(12,iv a5),(86,.bool (decide ((ln bL) > 0)))] hF (ocons (obAddC (fun _=>cC)) (ocons (obRemC (fun _=>cD)) (ocons (obIdxQ (hA4.at (hS.frz (i:=1) rfl hlow)) (by kernel_rfl) (fun _=>bF)) (ocons (obElQ (i:=aQ) 0 (fN_len 1) (fun _ hd=>(hA4.at ((hS.at_ hd).frz (i:=1) rfl hlow))) (by kernel_rfl) (fun _=>bF) rfl) (ocons (obIdxQ (aY.at (hS.frz (i:=1) rfl hlow)) (by kernel_rfl) (fun _=>bG)) (ocons (obElQ (i:=a1) 0 (fN_len 1) (fun _ hd=>(aY.at ((hS.at_ hd).frz (i:=1) rfl hlow))) (by kernel_rfl) (fun _=>bG) rfl) onil)))))) fun a hF=>?_
        refine wfn rfl ?_
        refine econd hF rfl (fun hc=>?_) (fun hc=>?_)
        ·replace h:=bif_t h hc
         refine esr ?_
         replace h:=bindS h
         obtain ⟨bN,cE,h⟩:=h
         replace h:=bindS h
         obtain ⟨aG,cF,h⟩:=h
         replace h:=bindS h
         obtain ⟨aH,cG,h⟩:=h
         refine rno 15 [.run [] (binOp .add 3 (iv a0) (iv a5)) (iv bN),.run [] (binOp .rem 3 (iv bN) (iv (ln p0))) (iv aG),.run [] (binOp .mul 3 (iv p1) (iv a5)) (iv aH)] 15 [(0,sv ad1 p0 cap2),(1,iv p1),(2,iv p2),(7,sv a3 a2 a4),(8,iv (ln p0)),(9,iv a0),(10,iv a1),(87,sv a3 a2 a4),(101,.agg #[iv a0,iv a1,iv aG,iv a1,iv aH])] hF (ocons (obAddC (fun _=>cE)) (ocons (obRemC (fun _=>cF)) (ocons (obMulC (fun _=>cG)) onil))) fun a hF=>?_
         refine SK.wi (litK (e:=206) (sz:=5) (f:=ref03_Link.cells) (t:=201) (len:=1) (fun b6=>[(0,sv ad1 p0 cap2),(1,iv p1),(2,iv p2),(7,sv a3 a2 a4),(8,iv (ln p0)),(9,iv a0),(10,iv a1),(87,sv a3 a2 a4),(102,sb b6 1)]) #[(0,.agg #[iv a0,iv a1,iv aG,iv a1,iv aH])] #[iv a0,iv a1,iv aG,iv a1,iv aH] ([(ref03_Link.mk (ref03_Place.mk a0 a1) (ref03_Place.mk aG a1) aH)]) hF hS (by kernel_rfl) ⟨by kernel_rfl⟩ (by kernel_rfl) ref03_Link.cells_len rfl rfl (by kernel_rfl) (fun _=>⟨by kernel_rfl⟩) fun b6 w a hF hS=>?_)
         replace h:=bindS h
         obtain ⟨aZ,c2,h⟩:=h
         refine SK.wi (appK (t:=201) (ty:=201) (bytes:=40) (l:=a2) (l':=([(ref03_Link.mk (ref03_Place.mk a0 a1) (ref03_Place.mk aG a1) aH)])) (fun aT aV=>[(0,sv ad1 p0 cap2),(1,iv p1),(2,iv p2),(7,sv a3 a2 a4),(8,iv (ln p0)),(9,iv a0),(10,iv a1),(103,sv aT aZ aV)]) 1 hF hS rfl (by kernel_rfl) ⟨by kernel_rfl⟩ (by kernel_rfl) (hS.arr (i:=0) rfl) (fun _ _=>rfl) c2 (fun _ _=>⟨by kernel_rfl⟩) fun aT aV w a hF hS=>?_)
         refine rn 1 18 [(0,sv ad1 p0 cap2),(1,iv p1),(2,iv p2),(7,sv aT aZ aV),(8,iv (ln p0)),(9,iv a0),(10,iv a1)] hF fun a hF=>?_
         refine wfn rfl ?_
         refine wpIn_exit (exit_miss rfl <| exit_then <| exit_then <| exit_hit <| norm_block <| norm_then <| ?_)
         exact ⟨aZ,aT,aV,hF.sub (by kernel_rfl),St.pick [1,2] (by decide) hS,h⟩
        ·replace h:=bif_f h hc
         refine wpIn_skip (norm_block <| norm_then <| ?_)
         refine WI.region ?_
         replace h:=bindS h
         obtain ⟨b4,cH,h⟩:=h
         refine rno 3 [.run [] (binOp .add 3 (iv a5) (iv 1)) (iv b4)] 3 [(0,sv ad1 p0 cap2),(1,iv p1),(2,iv p2),(7,sv a3 a2 a4),(8,iv (ln p0)),(9,iv a0),(10,iv a1),(12,iv b4)] hF (ocons (obAddC (fun _=>cH)) onil) fun a hF=>?_
         refine wfn rfl ?_
         rw [hk7] at h
         exact ⟨nk7,Nat.lt_succ_self _,b4,hF.sub (by kernel_rfl),St.pick [0,1] (by decide) hS,h⟩
       ·replace h:=bif_f h hc
        refine wpIn_exit (exit_then <| exit_then <| exit_hit <| norm_block <| norm_then <| ?_)
        exact ⟨a2,a3,a4,hF.sub (by kernel_rfl),St.pick [0,1] (by decide) hS,h⟩
      ·replace h:=bif_f h aP
       rw [aP] at hF
       refine skip_ 10 [(0,sv ad1 p0 cap2),(1,iv p1),(2,iv p2),(7,sv a3 a2 a4),(8,iv (ln p0)),(9,iv a0),(10,iv a1),(12,iv a5),(61,.bool false),(62,undef)] hF (by kernel_rfl) ⟨by kernel_rfl⟩ ⟨by kernel_rfl⟩ rfl fun a hF=>?_
       refine skip_ 11 [(0,sv ad1 p0 cap2),(1,iv p1),(2,iv p2),(7,sv a3 a2 a4),(8,iv (ln p0)),(9,iv a0),(10,iv a1),(12,iv a5),(61,.bool false),(62,undef),(63,undef)] hF (by kernel_rfl) ⟨by kernel_rfl⟩ ⟨by kernel_rfl⟩ rfl fun a hF=>?_
       refine skip_ 12 [(0,sv ad1 p0 cap2),(1,iv p1),(2,iv p2),(7,sv a3 a2 a4),(8,iv (ln p0)),(9,iv a0),(10,iv a1),(12,iv a5),(61,.bool false),(64,undef)] hF (by kernel_rfl) ⟨by kernel_rfl⟩ ⟨by kernel_rfl⟩ rfl fun a hF=>?_
       refine skip_ 13 [(0,sv ad1 p0 cap2),(1,iv p1),(2,iv p2),(7,sv a3 a2 a4),(8,iv (ln p0)),(9,iv a0),(10,iv a1),(12,iv a5),(61,.bool false),(65,undef)] hF (by kernel_rfl) ⟨by kernel_rfl⟩ ⟨by kernel_rfl⟩ rfl fun a hF=>?_
       refine skip_ 14 [(0,sv ad1 p0 cap2),(1,iv p1),(2,iv p2),(7,sv a3 a2 a4),(8,iv (ln p0)),(9,iv a0),(10,iv a1),(12,iv a5),(61,.bool false),(65,undef),(66,undef)] hF (by kernel_rfl) ⟨by kernel_rfl⟩ ⟨by kernel_rfl⟩ rfl fun a hF=>?_
       refine skip_ 15 [(0,sv ad1 p0 cap2),(1,iv p1),(2,iv p2),(7,sv a3 a2 a4),(8,iv (ln p0)),(9,iv a0),(10,iv a1),(12,iv a5),(61,.bool false),(67,undef)] hF (by kernel_rfl) ⟨by kernel_rfl⟩ ⟨by kernel_rfl⟩ rfl fun a hF=>?_
       refine skip_ 16 [(0,sv ad1 p0 cap2),(1,iv p1),(2,iv p2),(7,sv a3 a2 a4),(8,iv (ln p0)),(9,iv a0),(10,iv a1),(12,iv a5),(61,.bool false),(68,undef)] hF (by kernel_rfl) ⟨by kernel_rfl⟩ ⟨by kernel_rfl⟩ rfl fun a hF=>?_
       refine skip_ 17 [(0,sv ad1 p0 cap2),(1,iv p1),(2,iv p2),(7,sv a3 a2 a4),(8,iv (ln p0)),(9,iv a0),(10,iv a1),(12,iv a5),(61,.bool false),(69,undef)] hF (by kernel_rfl) ⟨by kernel_rfl⟩ ⟨by kernel_rfl⟩ rfl fun a hF=>?_
       refine skip_ 18 [(0,sv ad1 p0 cap2),(1,iv p1),(2,iv p2),(7,sv a3 a2 a4),(8,iv (ln p0)),(9,iv a0),(10,iv a1),(12,iv a5),(61,.bool false),(70,undef)] hF (by kernel_rfl) ⟨by kernel_rfl⟩ ⟨by kernel_rfl⟩ rfl fun a hF=>?_
       refine rn 1 19 [(0,sv ad1 p0 cap2),(1,iv p1),(2,iv p2),(7,sv a3 a2 a4),(8,iv (ln p0)),(9,iv a0),(10,iv a1),(12,iv a5),(71,.bool false)] hF fun a hF=>?_
       refine wfn rfl ?_
       refine wpIn_cond_false (hF.get rfl) ?_
       refine wpIn_exit (exit_then <| exit_then <| exit_hit <| norm_block <| norm_then <| ?_)
       exact ⟨a2,a3,a4,hF.sub (by kernel_rfl),St.pick [0,1] (by decide) hS,h⟩
     rintro a w ⟨aE,aK,aN,hF,hS,h⟩
     rw [ref03_Links_K5] at h
     refine WI.region ?_
     replace h:=bindS h
     obtain ⟨b3,cB,h⟩:=h
     refine rno 3 [.run [] (binOp .add 3 (iv a1) (iv 1)) (iv b3)] 3 [(0,sv ad1 p0 cap2),(1,iv p1),(2,iv p2),(7,sv aK aE aN),(8,iv (ln p0)),(9,iv a0),(10,iv b3)] hF (ocons (obAddC (fun _=>cB)) onil) fun a hF=>?_
     refine wfn rfl ?_
     rw [hk4] at h
     exact ⟨nk4,Nat.lt_succ_self _,b3,aE,aK,aN,hF.sub (by kernel_rfl),St.pick [0,1] (by decide) hS,h⟩
    ·replace h:=bif_f h hc
     refine wpIn_exit (exit_then <| exit_then <| exit_hit <| norm_block <| norm_then <| ?_)
     exact ⟨a6,a7,a8,hF.sub (by kernel_rfl),St.pick [0,1] (by decide) hS,h⟩
   rintro a w ⟨aD,aJ,aM,hF,hS,h⟩
   rw [ref03_Links_K3] at h
   refine WI.region ?_
   replace h:=bindS h
   obtain ⟨b2,cA,h⟩:=h
   refine rno 3 [.run [] (binOp .add 3 (iv a0) (iv 1)) (iv b2)] 3 [(0,sv ad1 p0 cap2),(1,iv p1),(2,iv p2),(7,sv aJ aD aM),(8,iv (ln p0)),(9,iv b2)] hF (ocons (obAddC (fun _=>cA)) onil) fun a hF=>?_
   refine wfn rfl ?_
   rw [hk2] at h
   exact ⟨nk2,Nat.lt_succ_self _,aD,b2,aJ,aM,hF.sub (by kernel_rfl),St.pick [0,1] (by decide) hS,h⟩
  ·replace h:=bif_f h hc
   refine wpIn_exit (exit_then <| exit_then <| exit_hit <| norm_then ?_)
   exact ⟨a9,aB,aC,hF.sub (by kernel_rfl),St.pick [0,1] (by decide) hS,h⟩
 rintro a w ⟨aF,aL,aO,hF,hS,h⟩
 rw [ref03_Links_K1] at h
 refine esr ?_
 refine rn 2 2 [(6,sv aL aF aO)] hF fun a hF=>?_
 refine wfn rfl ?_
 refine wpIn_ret (fn_ret [.tmp 6] [sv aL aF aO] hF rfl ⟨rfl,trivial⟩ ?_)
 have hr_:=Option.some.inj h
 subst hr_
 exact ⟨_,_,rfl,St.pick [0] (by decide) hS⟩
end Go.Proofs.Ytbhjgebjojdohaa
