import Derived.Test.YtbhjgebjojdohaaF6XD
import Derived.Test.YtbhjgebjojdohaaProg
import Derived.Test.YtbhjgebjojdohaaF6XW0
import Derived.Test.YtbhjgebjojdohaaF6XW4
import Derived.Test.YtbhjgebjojdohaaF6XW5
namespace Go.Proofs.Ytbhjgebjojdohaa
open Go Go.RowKit Go.Eng
set_option maxRecDepth 10000
set_option maxHeartbeats 4000000
set_option linter.unusedVariables false
set_option linter.unusedSimpArgs false
theorem fold_speeds_near_ok (F : Nat) (p0 : (List api_Span)) (p1 : (List api_Span)) (p2 : Int) (res : (List api_Span)) (h : fold_speeds_near F p0 p1 p2 = some res) (μ : Frz) (w0 : World) (hm : FrzAt μ w0) {ad1 : Option Addr} {cap2 : Nat} {ad4 : Option Addr} {cap5 : Nat} (hA3 : ArrM μ 2 api_Span.cells ad1 cap2 p0) (hA6 : ArrM μ 2 api_Span.cells ad4 cap5 p1) : Calls Try.prog 69 #[sv ad1 p0 cap2,sv ad4 p1 cap5,iv p2] w0 (fun e w=>∃ zad0 zcap0,e = .returned (sv zad0 res zcap0)∧St w0 [arr 25 2 api_Span.cells zad0 res.length zcap0 res] w):=by
 obtain ⟨hlow,hS⟩:=hm.init
 have hext:=Frz.ext_refl w0.heap.size μ
 rw [fold_speeds_near] at h
 refine fn_enterW Try.func69 rfl 12 [(0,sv ad1 p0 cap2),(1,sv ad4 p1 cap5),(2,iv p2)] rfl rfl (by kernel_rfl) fun a w hw hF=>?_
 replace hS : St w0 [fz w0 μ] w:=by rw [hw]; exact hS
 clear hw
 refine esr ?_
 refine rn 1 1 [(0,sv ad1 p0 cap2),(1,sv ad4 p1 cap5),(2,iv p2)] hF fun a hF=>?_
 refine wfn rfl ?_
 refine esr ?_
 refine rn 3 3 [(7,sv ad1 p0 cap2),(8,sv ad4 p1 cap5),(9,iv p2)] hF fun a hF=>?_
 replace h:=bindS h
 obtain ⟨y8,hy8,h⟩:=h
 refine SK.wi (callK (f:=103) (args:=#[sv ad4 p1 cap5,iv p2]) (R:=fun v w2=>∃ ad9 a1,v = sv ad9 y8 a1∧St w [arr 25 2 api_Span.cells ad9 y8.length a1 y8] w2) (fun v7=>[(7,sv ad1 p0 cap2),(10,v7)]) hF (by kernel_rfl) ⟨by kernel_rfl⟩ (Calls.mono (fold_speeds_wide_ok F p1 p2 _ hy8 (memOf w) w (memOf_at w) (hA6.mono (FrzAt.le_mem (hS.frz (i:=0) rfl hlow)))) (by rintro e w2 ⟨ad9,a1,rfl,h⟩; exact ⟨_,rfl,ad9,a1,rfl,h⟩)) (fun _=>⟨by kernel_rfl⟩) ?_)
 rintro v7 w a ⟨ad9,a1,rfl,hQ⟩ hF
 replace hS : St w0 [arr 25 2 api_Span.cells ad9 y8.length a1 y8,fz w0 μ] w:=hS.madeL hQ
 replace h:=bindS h
 obtain ⟨a3,a5,h⟩:=h
 refine SK.wi (callK (f:=102) (args:=#[sv ad1 p0 cap2,sv ad9 y8 a1]) (R:=fun v w2=>∃ a0 a2,v = sv a0 a3 a2∧St w [arr 25 2 api_Span.cells a0 a3.length a2 a3] w2) (fun a4=>[(11,a4)]) hF (by kernel_rfl) ⟨by kernel_rfl⟩ (Calls.mono (fold_speeds_meet_ok F p0 y8 _ a5 (memOf w) w (memOf_at w) (hA3.mono (FrzAt.le_mem (hS.frz (i:=1) rfl hlow))) (Arr.toM (hS.arr (i:=0) rfl))) (by rintro e w2 ⟨a0,a2,rfl,h⟩; exact ⟨_,rfl,a0,a2,rfl,h⟩)) (fun _=>⟨by kernel_rfl⟩) ?_)
 rintro a4 w a ⟨a0,a2,rfl,hQ⟩ hF
 replace hS : St w0 [arr 25 2 api_Span.cells a0 a3.length a2 a3,arr 25 2 api_Span.cells ad9 y8.length a1 y8,fz w0 μ] w:=hS.madeL hQ
 refine rn 1 6 [(6,sv a0 a3 a2)] hF fun a hF=>?_
 refine wfn rfl ?_
 refine wpIn_ret (fn_ret [.tmp 6] [sv a0 a3 a2] hF rfl ⟨rfl,trivial⟩ ?_)
 have hr_:=Option.some.inj h
 subst hr_
 exact ⟨_,_,rfl,St.pick [0] (by decide) hS⟩
theorem ref03_Turn_ok (F : Nat) (p0 : (List (List (List api_Span)))) (p1 : Int) (p2 : Int) (res : ((List (List (List api_Span)))×Int)) (h : ref03_Turn F p0 p1 p2 = some res) (μ : Frz) (w0 : World) (hm : FrzAt μ w0) {ad1 : Option Addr} {cap2 : Nat} {css3 : List (List Value)} (hA4 : ArrQ μ 1 Rp48 ad1 cap2 css3 p0) : Calls Try.prog 28 #[sv ad1 p0 cap2,iv p1,iv p2] w0 (fun e w=>∃ (ν_ : Frz) (aD : Option Addr) (aF : Nat) (aQ : List (List Value)),μ.ext w0.heap.size ν_∧e = .returned (.tuple #[sv aD res.1 aF,iv res.2])∧ArrQ ν_ 1 Rp48 aD aF aQ res.1∧St w0 [fz w0 ν_] w):=by
 obtain ⟨hlow,hS⟩:=hm.init
 have hext:=Frz.ext_refl w0.heap.size μ
 rw [ref03_Turn] at h
 refine fn_enterW Try.func28 rfl 55 [(0,sv ad1 p0 cap2),(1,iv p1),(2,iv p2)] rfl rfl (by kernel_rfl) fun a w hw hF=>?_
 replace hS : St w0 [fz w0 μ] w:=by rw [hw]; exact hS
 clear hw
 refine esr ?_
 refine rn 2 2 [(0,sv ad1 p0 cap2),(1,iv p1),(2,iv p2)] hF fun a hF=>?_
 refine wfn rfl ?_
 refine eseq ?_
 refine esr ?_
 refine rn 3 3 [(0,sv ad1 p0 cap2),(1,iv p1),(2,iv p2),(14,.bool (decide ((ln p0) > 360)))] hF fun a hF=>?_
 refine wfn rfl ?_
 refine econd hF rfl (fun hc=>?_) (fun hc=>?_)
 ·replace h:=bif_t h hc
  refine esr ?_
  refine rn 2 2 [(6,.slice none 0 0),(7,iv 9)] hF fun a hF=>?_
  refine wfn rfl ?_
  refine wpIn_ret (ret_then <| fn_ret [.tmp 6,.tmp 7] [.slice none 0 0,iv 9] hF rfl ⟨rfl,rfl,trivial⟩ ?_)
  have hr_:=Option.some.inj h
  subst hr_
  exact ⟨μ,none,0,[],hext,rfl,ArrQ.nil,St.pick [0] (by decide) hS⟩
 ·replace h:=bif_f h hc
  refine wpIn_skip (norm_then ?_)
  refine ecut (fun a w=>Fr 55 [] [(0,sv ad1 p0 cap2),(1,iv p1),(2,iv p2)] a∧St w0 [fz w0 μ] w∧ref03_Turn_K1 F p0 p1 p2 = some res) ?_ ?_
  ·skip
   refine esr ?_
   refine rn 1 1 [(0,sv ad1 p0 cap2),(1,iv p1),(2,iv p2),(8,iv 0)] hF fun a hF=>?_
   refine wfn rfl ?_
   refine wpIn_block ?_
   refine eloop (fun n_ a w=>∃ (a1 : Int),Fr 55 [] [(0,sv ad1 p0 cap2),(1,iv p1),(2,iv p2),(8,iv a1)] a∧St w0 [fz w0 μ] w∧ref03_Turn_L4 F p0 p1 p2 n_ a1 = some res) F ⟨0,hF.sub (by kernel_rfl),St.pick [0] (by decide) hS,h⟩ ?_
   rintro nk4 a w ⟨a1,hF,hS,h⟩
   rcases nk4 with _ | nk4
   ·cases (show (none : Option ((List (List (List api_Span)))×Int)) = some res from h)
   obtain ⟨k4,hk4⟩ : ∃ k,k = ref03_Turn_L4 F p0 p1 p2 nk4:=⟨_,rfl⟩
   replace h : ref03_Turn_B4 F p0 p1 p2 k4 a1 = some res:=by rw [hk4]; exact h
   rw [ref03_Turn_B4] at h
   refine eseq ?_
   refine esr ?_
   refine rn 4 4 [(0,sv ad1 p0 cap2),(1,iv p1),(2,iv p2),(8,iv a1),(18,.bool (decide (a1 < (ln p0))))] hF fun a hF=>?_
   refine wfn rfl ?_
   refine econd hF rfl (fun hc=>?_) (fun hc=>?_)
   ·replace h:=bif_t h hc
    refine wpIn_skip (norm_then ?_)
    refine eseq ?_
    refine wpIn_block ?_
    refine eseq ?_
    replace h:=bindS h
    obtain ⟨aJ,aW,h⟩:=h
    obtain ⟨b3,aH,aT⟩:=getI_all2 hA4.2 aW
    obtain ⟨aM,aO,b6,rfl,b8⟩:=aT
    replace h:=bindS h
    obtain ⟨aK,aX,h⟩:=h
    obtain ⟨b4,aI,aU⟩:=getI_all2 hA4.2 aX
    obtain ⟨aN,aP,b7,rfl,b9⟩:=aU
    refine runD (obs:=[.run [] (Instr.indexAt 54 (sv ad1 p0 cap2) (iv a1)) (.pointer (some (slAddr ad1 a1 1))),.run [] (Instr.loadAt 48 (.pointer (some (slAddr ad1 a1 1)))) (sv aM aJ aO),.run [] (Instr.indexAt 54 (sv ad1 p0 cap2) (iv 0)) (.pointer (some (slAddr ad1 0 1))),.run [] (Instr.loadAt 48 (.pointer (some (slAddr ad1 0 1)))) (sv aN aK aP)]) 10 [(0,sv ad1 p0 cap2),(1,iv p1),(2,iv p2),(8,iv a1),(30,.bool ((ln aJ) != (ln aK)))] (by kernel_rfl) hF (by kernel_rfl) (ocons (obIdxQ (hA4.at (hS.frz (i:=0) rfl hlow)) (by kernel_rfl) (fun _=>aH)) (ocons (obElQ (i:=a1) 0 (fN_len 1) (fun _ hd=>(hA4.at ((hS.later hd).frz (i:=0) rfl hlow))) (by kernel_rfl) (fun _=>aH) rfl) (ocons (obIdxQ (hA4.at (hS.frz (i:=0) rfl hlow)) (by kernel_rfl) (fun _=>aI)) (ocons (obElQ (i:=0) 0 (fN_len 1) (fun _ hd=>(hA4.at ((hS.later hd).frz (i:=0) rfl hlow))) (by kernel_rfl) (fun _=>aI) rfl) onil)))) ⟨by kernel_rfl⟩ fun a w hF hx=>?_
    replace hS:=hS.later hx
    refine wfn rfl ?_
    refine econd hF rfl (fun hc=>?_) (fun hc=>?_)
    ·replace h:=bif_t h hc
     refine esr ?_
     refine rn 2 2 [(6,.slice none 0 0),(7,iv 11)] hF fun a hF=>?_
     refine wfn rfl ?_
     refine wpIn_ret (ret_block <| ret_then <| ret_then <| ret_block <| ret_then <| fn_ret [.tmp 6,.tmp 7] [.slice none 0 0,iv 11] hF rfl ⟨rfl,rfl,trivial⟩ ?_)
     have hr_:=Option.some.inj h
     subst hr_
     exact ⟨μ,none,0,[],hext,rfl,ArrQ.nil,St.pick [0] (by decide) hS⟩
    ·replace h:=bif_f h hc
     refine wpIn_skip (norm_block <| norm_then <| ?_)
     refine WI.region ?_
     replace h:=bindS h
     obtain ⟨aB,aZ,h⟩:=h
     refine rno 3 [.run [] (binOp .add 3 (iv a1) (iv 1)) (iv aB)] 3 [(0,sv ad1 p0 cap2),(1,iv p1),(2,iv p2),(8,iv aB)] hF (ocons (obAddC (fun _=>aZ)) onil) fun a hF=>?_
     refine wfn rfl ?_
     rw [hk4] at h
     exact ⟨nk4,Nat.lt_succ_self _,aB,hF.sub (by kernel_rfl),St.pick [0] (by decide) hS,h⟩
   ·replace h:=bif_f h hc
    refine wpIn_exit (exit_then <| exit_then <| exit_hit <| norm_then ?_)
    exact ⟨hF.sub (by kernel_rfl),St.pick [0] (by decide) hS,h⟩
  rintro a w ⟨hF,hS,h⟩
  rw [ref03_Turn_K1] at h
  refine ecut (fun a w=>Fr 55 [] [(0,sv ad1 p0 cap2),(1,iv p1),(2,iv p2)] a∧St w0 [fz w0 μ] w∧ref03_Turn_K2 F p0 p1 p2 = some res) ?_ ?_
  ·skip
   refine esr ?_
   refine rn 1 1 [(0,sv ad1 p0 cap2),(1,iv p1),(2,iv p2),(9,iv 0)] hF fun a hF=>?_
   refine wfn rfl ?_
   refine wpIn_block ?_
   refine eloop (fun n_ a w=>∃ (a0 : Int),Fr 55 [] [(0,sv ad1 p0 cap2),(1,iv p1),(2,iv p2),(9,iv a0)] a∧St w0 [fz w0 μ] w∧ref03_Turn_L3 F p0 p1 p2 n_ a0 = some res) F ⟨0,hF.sub (by kernel_rfl),St.pick [0] (by decide) hS,h⟩ ?_
   rintro nk3 a w ⟨a0,hF,hS,h⟩
   rcases nk3 with _ | nk3
   ·cases (show (none : Option ((List (List (List api_Span)))×Int)) = some res from h)
   obtain ⟨k3,hk3⟩ : ∃ k,k = ref03_Turn_L3 F p0 p1 p2 nk3:=⟨_,rfl⟩
   replace h : ref03_Turn_B3 F p0 p1 p2 k3 a0 = some res:=by rw [hk3]; exact h
   rw [ref03_Turn_B3] at h
   refine eseq ?_
   refine esr ?_
   refine rn 4 4 [(0,sv ad1 p0 cap2),(1,iv p1),(2,iv p2),(9,iv a0),(34,.bool (decide (a0 < (ln p0))))] hF fun a hF=>?_
   refine wfn rfl ?_
   refine econd hF rfl (fun hc=>?_) (fun hc=>?_)
   ·replace h:=bif_t h hc
    refine wpIn_skip (norm_then ?_)
    refine eseq ?_
    refine wpIn_block ?_
    refine esr ?_
    replace h:=bindS h
    obtain ⟨a9,aV,h⟩:=h
    obtain ⟨b2,aG,aS⟩:=getI_all2 hA4.2 aV
    obtain ⟨aC,aE,b5,rfl,aR⟩:=aS
    replace h:=bindS h
    obtain ⟨a4,b0,h⟩:=h
    refine rx 6 [.run [] (Instr.indexAt 54 (sv ad1 p0 cap2) (iv a0)) (.pointer (some (slAddr ad1 a0 1))),.run [] (Instr.loadAt 48 (.pointer (some (slAddr ad1 a0 1)))) (sv aC a9 aE),.call [] 71 #[sv aC a9 aE] (iv a4)] 6 [(0,sv ad1 p0 cap2),(1,iv p1),(2,iv p2),(9,iv a0),(10,iv a4)] hF (ocons (obIdxQ (hA4.at (hS.frz (i:=0) rfl hlow)) (by kernel_rfl) (fun _=>aG)) (ocons (obElQ (i:=a0) 0 (fN_len 1) (fun _ hd=>(hA4.at ((hS.later hd).frz (i:=0) rfl hlow))) (by kernel_rfl) (fun _=>aG) rfl) (ocons (show Ob.ok _ Ext _ _ from fun hk w2 hd=>ref03_ray_ok F a9 _ ((fun _=>b0) hk) _ w2 (memOf_at w2) (aR.mono Rp43.mono (FrzAt.le_mem ((hS.later hd).frz (i:=0) rfl hlow)))) onil))) fun a w hF hx=>?_
    replace hS:=hS.later hx
    refine wfn rfl ?_
    refine esr ?_
    refine rn 2 2 [(0,sv ad1 p0 cap2),(1,iv p1),(2,iv p2),(9,iv a0),(10,iv a4),(43,.bool (a4 != 0))] hF fun a hF=>?_
    refine wfn rfl ?_
    refine econd hF rfl (fun hc=>?_) (fun hc=>?_)
    ·replace h:=bif_t h hc
     refine esr ?_
     refine rn 3 3 [(6,.slice none 0 0),(7,iv a4)] hF fun a hF=>?_
     refine wfn rfl ?_
     refine wpIn_ret (ret_block <| ret_then <| ret_then <| ret_block <| ret_then <| fn_ret [.tmp 6,.tmp 7] [.slice none 0 0,iv a4] hF rfl ⟨rfl,rfl,trivial⟩ ?_)
     have hr_:=Option.some.inj h
     subst hr_
     exact ⟨μ,none,0,[],hext,rfl,ArrQ.nil,St.pick [0] (by decide) hS⟩
    ·replace h:=bif_f h hc
     refine wpIn_skip (norm_block <| norm_then <| ?_)
     refine WI.region ?_
     replace h:=bindS h
     obtain ⟨aA,aY,h⟩:=h
     refine rno 3 [.run [] (binOp .add 3 (iv a0) (iv 1)) (iv aA)] 3 [(0,sv ad1 p0 cap2),(1,iv p1),(2,iv p2),(9,iv aA)] hF (ocons (obAddC (fun _=>aY)) onil) fun a hF=>?_
     refine wfn rfl ?_
     rw [hk3] at h
     exact ⟨nk3,Nat.lt_succ_self _,aA,hF.sub (by kernel_rfl),St.pick [0] (by decide) hS,h⟩
   ·replace h:=bif_f h hc
    refine wpIn_exit (exit_then <| exit_then <| exit_hit <| norm_then ?_)
    exact ⟨hF.sub (by kernel_rfl),St.pick [0] (by decide) hS,h⟩
  rintro a w ⟨hF,hS,h⟩
  rw [ref03_Turn_K2] at h
  refine esr ?_
  refine rx 4 [.call [] 72 #[iv p1,iv p2] (iv (ref03_limits p1 p2))] 4 [(0,sv ad1 p0 cap2),(1,iv p1),(2,iv p2),(11,iv (ref03_limits p1 p2))] hF (ocons (show Ob.ok _ Ext _ _ from fun hk w2 hd=>ref03_limits_ok p1 p2 _ rfl _ w2 (memOf_at w2)) onil) fun a w hF hx=>?_
  replace hS:=hS.later hx
  refine wfn rfl ?_
  refine eseq ?_
  refine esr ?_
  refine rn 2 2 [(0,sv ad1 p0 cap2),(1,iv p1),(2,iv p2),(11,iv (ref03_limits p1 p2)),(49,.bool ((ref03_limits p1 p2) != 0))] hF fun a hF=>?_
  refine wfn rfl ?_
  refine econd hF rfl (fun hc=>?_) (fun hc=>?_)
  ·replace h:=bif_t h hc
   refine esr ?_
   refine rn 3 3 [(6,.slice none 0 0),(7,iv (ref03_limits p1 p2))] hF fun a hF=>?_
   refine wfn rfl ?_
   refine wpIn_ret (ret_then <| fn_ret [.tmp 6,.tmp 7] [.slice none 0 0,iv (ref03_limits p1 p2)] hF rfl ⟨rfl,rfl,trivial⟩ ?_)
   have hr_:=Option.some.inj h
   subst hr_
   exact ⟨μ,none,0,[],hext,rfl,ArrQ.nil,St.pick [0] (by decide) hS⟩
  ·replace h:=bif_f h hc
   refine wpIn_skip (norm_then ?_)
   refine esr ?_
   refine rn 3 3 [(51,sv ad1 p0 cap2),(52,iv p1),(53,iv p2)] hF fun a hF=>?_
   replace h:=bindS h
   obtain ⟨a7,b1,h⟩:=h
   refine SK.wi (callK (f:=77) (args:=#[sv ad1 p0 cap2,iv p1,iv p2]) (R:=fun v w2=>∃ ν94 a2 a3 a5,μ.ext w.heap.size ν94∧v = sv a2 a7 a3∧ArrQ ν94 1 Rp48 a2 a3 a5 a7∧St w [frzR w.heap.size ν94] w2) (fun aL=>[(54,aL)]) hF (by kernel_rfl) ⟨by kernel_rfl⟩ (Calls.mono (ref03_settled_ok F p0 p1 p2 _ b1 μ w (hS.frz (i:=0) rfl hlow) hA4) (by rintro e w2 ⟨ν94,a2,a3,a5,a6,rfl,a8,h⟩; exact ⟨_,rfl,ν94,a2,a3,a5,a6,rfl,a8,h⟩)) (fun _=>⟨by kernel_rfl⟩) ?_)
   rintro aL w a ⟨ν94,a2,a3,a5,a6,rfl,a8,hQ⟩ hF
   replace hext:=Frz.ext_trans hext (Frz.ext_mono a6 hS.ext.size)
   obtain ⟨hlow,hS⟩:=hS.frzMerge (i:=0) rfl hlow a6 hQ
   replace hA4:=hA4.mono Rp48.mono a6.1
   replace hS : St w0 [fz w0 ν94] w:=hS
   refine rn 2 6 [(6,sv a2 a7 a3),(7,iv 0)] hF fun a hF=>?_
   refine wfn rfl ?_
   refine wpIn_ret (fn_ret [.tmp 6,.tmp 7] [sv a2 a7 a3,iv 0] hF rfl ⟨rfl,rfl,trivial⟩ ?_)
   have hr_:=Option.some.inj h
   subst hr_
   exact ⟨ν94,a2,a3,a5,hext,rfl,a8,St.pick [0] (by decide) hS⟩
end Go.Proofs.Ytbhjgebjojdohaa
