import Derived.Test.YtbhjgebjojdohaaF11XD
import Derived.Test.YtbhjgebjojdohaaProg
import Derived.Test.YtbhjgebjojdohaaF11XK
import Derived.Test.YtbhjgebjojdohaaF11XW0
import Derived.Test.YtbhjgebjojdohaaF11WkS
namespace Go.Proofs.Ytbhjgebjojdohaa
open Go Go.RowKit Go.Eng
set_option maxRecDepth 10000
set_option maxHeartbeats 4000000
set_option linter.unusedVariables false
set_option linter.unusedSimpArgs false
theorem fold_speeds_united_ok (F : Nat) (p0 : (List api_Span)) (res : (List api_Span)) (h : fold_speeds_united F p0 = some res) (μ : Frz) (w0 : World) (hm : FrzAt μ w0) {ad1 : Option Addr} {cap2 : Nat} (hA3 : ArrM μ 2 api_Span.cells ad1 cap2 p0) : Calls Try.prog 62 #[sv ad1 p0 cap2] w0 (fun e w=>∃ zad0 zcap0,e = .returned (sv zad0 res zcap0)∧St w0 [arr 25 2 api_Span.cells zad0 res.length zcap0 res] w):=by
 obtain ⟨hlow,hS⟩:=hm.init
 have hext:=Frz.ext_refl w0.heap.size μ
 rw [fold_speeds_united] at h
 refine fn_enterW Try.func62 rfl 53 [(0,sv ad1 p0 cap2)] rfl rfl (by kernel_rfl) fun a w hw hF=>?_
 replace hS : St w0 [fz w0 μ] w:=by rw [hw]; exact hS
 clear hw
 refine esr ?_
 refine rn 1 1 [(0,sv ad1 p0 cap2)] hF fun a hF=>?_
 refine wfn rfl ?_
 refine esr ?_
 refine rn 1 1 [(8,sv ad1 p0 cap2)] hF fun a hF=>?_
 replace h:=bindS h
 obtain ⟨y5,hy5,h⟩:=h
 refine SK.wi (callK (f:=99) (args:=#[sv ad1 p0 cap2]) (R:=fun v w2=>∃ ad6 cap7,v = sv ad6 y5 cap7∧St w [arr 25 2 api_Span.cells ad6 y5.length cap7 y5] w2) (fun v4=>[(9,v4)]) hF (by kernel_rfl) ⟨by kernel_rfl⟩ (Calls.mono (slices_Clone_fold_speeds_api_Span_ok F p0 _ hy5 (memOf w) w (memOf_at w) (hA3.mono (FrzAt.le_mem (hS.frz (i:=0) rfl hlow)))) (by rintro e w2 ⟨ad6,cap7,rfl,h⟩; exact ⟨_,rfl,ad6,cap7,rfl,h⟩)) (fun _=>⟨by kernel_rfl⟩) ?_)
 rintro v4 w a ⟨ad6,cap7,rfl,hQ⟩ hF
 replace hS : St w0 [arr 25 2 api_Span.cells ad6 y5.length cap7 y5,fz w0 μ] w:=hS.madeL hQ
 refine rn 1 3 [(3,sv ad6 y5 cap7)] hF fun a hF=>?_
 refine wfn rfl ?_
 refine esr ?_
 refine rn 1 1 [(3,sv ad6 y5 cap7),(10,sv ad6 y5 cap7)] hF fun a hF=>?_
 replace h:=bindS h
 obtain ⟨y9,hy9,h⟩:=h
 refine SK.wi (callK (f:=100) (args:=#[sv ad6 y5 cap7,.func (.func 101) #[] #[]]) (R:=fun v w2=>v = .tuple #[]∧y5.length = y9.length∧St w0 [arr 25 2 api_Span.cells ad6 y9.length cap7 y9,fz w0 μ] w2) (fun v8=>[(3,sv ad6 y5 cap7)]) hF (by kernel_rfl) ⟨by kernel_rfl⟩ (Calls.mono (slices_SortFunc100_ok F y5 _ hy9 hS (i:=0) rfl) (fun e w2 h=>⟨_,h.1,rfl,h.2.1,h.2.2⟩)) (fun _=>⟨by kernel_rfl⟩) ?_)
 rintro v8 w a ⟨rfl,hl,hS⟩ hF
 simp only [sv,ln,hl] at hF hS
 refine wfn rfl ?_
 refine esr ?_
 refine rn 1 1 [(3,sv ad6 y9 cap7),(4,.slice none 0 0)] hF fun a hF=>?_
 refine wfn rfl ?_
 refine ecut (fun a w=>∃ (a6 : (List api_Span)) (a9 : Option Addr) (aB : Nat),Fr 53 [] [(4,sv a9 a6 aB)] a∧St w0 [arr 25 2 api_Span.cells a9 a6.length aB a6,arr 25 2 api_Span.cells ad6 y9.length cap7 y9,fz w0 μ] w∧fold_speeds_united_K1 a6 = some res) ?_ ?_
 ·skip
  refine esr ?_
  refine rn 3 3 [(4,.slice none 0 0),(12,sv ad6 y9 cap7),(13,iv (ln y9)),(14,iv 0)] hF fun a hF=>?_
  refine wfn rfl ?_
  refine wpIn_block ?_
  replace hS:=hS.nilarr 25 2 api_Span.cells
  refine eloop (fun n_ a w=>∃ (a3 : Int) (a0 : (List api_Span)) (a2 : Option Addr) (a4 : Nat),Fr 53 [] [(4,sv a2 a0 a4),(12,sv ad6 y9 cap7),(13,iv (ln y9)),(14,iv a3)] a∧St w0 [arr 25 2 api_Span.cells a2 a0.length a4 a0,arr 25 2 api_Span.cells ad6 y9.length cap7 y9,fz w0 μ] w∧fold_speeds_united_L2 y9 n_ a3 a0 = some res) F ⟨0,[],none,0,hF.sub (by kernel_rfl),St.pick [0,1,2] (by decide) hS,h⟩ ?_
  rintro nk2 a w ⟨a3,a0,a2,a4,hF,hS,h⟩
  rcases nk2 with _ | nk2
  ·cases (show (none : Option (List api_Span)) = some res from h)
  obtain ⟨k2,hk2⟩ : ∃ k,k = fold_speeds_united_L2 y9 nk2:=⟨_,rfl⟩
  replace h : fold_speeds_united_B2 y9 k2 a3 a0 = some res:=by rw [hk2]; exact h
  rw [fold_speeds_united_B2] at h
  refine esr ?_
  refine rn 1 1 [(4,sv a2 a0 a4),(12,sv ad6 y9 cap7),(13,iv (ln y9)),(14,iv a3),(15,.bool (decide (a3 < (ln y9))))] hF fun a hF=>?_
  refine wfn rfl ?_
  refine eseq ?_
  refine econd hF rfl (fun hc=>?_) (fun hc=>?_)
  ·replace h:=bif_t h hc
   refine wpIn_skip (norm_then ?_)
   refine ecut (fun a w=>∃ (a7 : (List api_Span)) (aA : Option Addr) (aC : Nat),Fr 53 [] [(4,sv aA a7 aC),(12,sv ad6 y9 cap7),(13,iv (ln y9)),(14,iv a3)] a∧St w0 [arr 25 2 api_Span.cells aA a7.length aC a7,arr 25 2 api_Span.cells ad6 y9.length cap7 y9,fz w0 μ] w∧fold_speeds_united_K3 a3 k2 a7 = some res) ?_ ?_
   ·skip
    refine wpIn_block ?_
    refine esr ?_
    replace h:=bindS h
    obtain ⟨a1,aL,h⟩:=h
    refine rno 2 [.run [] (Instr.indexAt 132 (sv ad6 y9 cap7) (iv a3)) (.pointer (some (slAddr ad6 a3 2))),.run [] (Instr.loadAt 25 (.pointer (some (slAddr ad6 a3 2)))) (.agg #[iv a1.Lo,iv a1.Hi])] 2 [(4,sv a2 a0 a4),(12,sv ad6 y9 cap7),(13,iv (ln y9)),(14,iv a3),(17,.agg #[iv a1.Lo,iv a1.Hi])] hF (ocons (obIdxQ (hS.arr (i:=1) rfl) (by kernel_rfl) (fun _=>aL)) (ocons (obElNQ (m:=2) (i:=a3) (us:=[iv a1.Lo,iv a1.Hi]) 0 api_Span.cells_len (fun _ hd=>((hS.at_ hd).arr (i:=1) rfl)) (by kernel_rfl) (fun _=>aL) ⟨rfl,rfl⟩) onil)) fun a hF=>?_
    refine SK.wi (allocK (t:=25) (fun a5=>[(4,sv a2 a0 a4),(6,pb a5),(12,sv ad6 y9 cap7),(13,iv (ln y9)),(14,iv a3),(17,.agg #[iv a1.Lo,iv a1.Hi])]) #[iv 0,iv 0] hF hS (by kernel_rfl) ⟨by kernel_rfl⟩ (by kernel_rfl) (fun _=>⟨by kernel_rfl⟩) fun a5 w a hF hS=>?_)
    refine SK.wi (storeK (t:=25) [(4,sv a2 a0 a4),(6,pb a5),(12,sv ad6 y9 cap7),(13,iv (ln y9)),(14,iv a3)] 0 0 (.agg #[iv a1.Lo,iv a1.Hi]) #[iv a1.Lo,iv a1.Hi] hF hS rfl (by kernel_rfl) ⟨by kernel_rfl⟩ (by kernel_rfl) (by kernel_rfl) (by kernel_rfl) (by kernel_rfl) ⟨by kernel_rfl⟩ fun w a hF hS=>?_)
    refine wfn rfl ?_
    refine esr ?_
    refine rn 3 3 [(4,sv a2 a0 a4),(6,pb a5),(7,iv (ln a0)),(12,sv ad6 y9 cap7),(13,iv (ln y9)),(14,iv a3)] hF fun a hF=>?_
    refine wfn rfl ?_
    refine eseq ?_
    replace h:=bindS h
    obtain ⟨aD,aU,h⟩:=h
    replace h:=bindS h
    obtain ⟨aP,aM,h⟩:=h
    refine runD (obs:=[.run [⟨22,true,(decide ((ln a0) > 0))⟩] (Instr.loadAt 3 (pb a5)) (iv a1.Lo),.run [⟨22,true,(decide ((ln a0) > 0))⟩] (binOp .sub 3 (iv (ln a0)) (iv 1)) (iv aD),.run [⟨22,true,(decide ((ln a0) > 0))⟩] (Instr.indexAt 132 (sv a2 a0 a4) (iv aD)) (.pointer (some (slAddr a2 aD 2))),.run [⟨22,true,(decide ((ln a0) > 0))⟩] (Instr.loadAt 3 (.pointer (some ((slAddr a2 aD 2).add 1)))) (iv aP.Hi)]) 13 [(4,sv a2 a0 a4),(6,pb a5),(7,iv (ln a0)),(12,sv ad6 y9 cap7),(13,iv (ln y9)),(14,iv a3),(32,.bool (bif (decide ((ln a0) > 0)) then (decide (a1.Lo≤aP.Hi)) else false))] (by kernel_rfl) hF (by kernel_rfl) (ocons (ob1 (by kernel_rfl) (fun _ hd=>(hS.later hd).cell (i:=0) (j:=0) rfl rfl)) (ocons (obSubC (fun hk=>gd_some aU hk)) (ocons (obIdxQ (hS.arr (i:=1) rfl) (by kernel_rfl) (fun hk=>gd_some aM hk)) (ocons (obElQ (i:=aD) 1 api_Span.cells_len (fun _ hd=>((hS.later hd).arr (i:=1) rfl)) (by kernel_rfl) (fun hk=>gd_some aM hk) rfl) onil)))) ⟨by kernel_rfl⟩ fun a w hF hx=>?_
    replace hS:=hS.later hx
    refine wfn rfl ?_
    refine econd hF rfl (fun hc=>?_) (fun hc=>?_)
    ·replace h:=bif_t h hc
     replace h:=bindS h
     obtain ⟨aE,aV,h⟩:=h
     replace h:=bindS h
     obtain ⟨aF,aW,h⟩:=h
     replace h:=bindS h
     obtain ⟨a8,aN,h⟩:=h
     replace h:=bindS h
     obtain ⟨aQ,aO,h⟩:=h
     refine runD (obs:=[.run [] (binOp .sub 3 (iv (ln a0)) (iv 1)) (iv aE),.run [] (binOp .sub 3 (iv (ln a0)) (iv 1)) (iv aF),.run [] (Instr.indexAt 132 (sv a2 a0 a4) (iv aF)) (.pointer (some (slAddr a2 aF 2))),.run [] (Instr.loadAt 3 (.pointer (some ((slAddr a2 aF 2).add 1)))) (iv a8.Hi),.run [] (Instr.loadAt 3 (.pointer (some ⟨a5,1,none⟩))) (iv a1.Hi),.run [] (Instr.indexAt 132 (sv a2 a0 a4) (iv aE)) (.pointer (some (slAddr a2 aE 2)))]) 14 [(4,sv a2 a0 a4),(12,sv ad6 y9 cap7),(13,iv (ln y9)),(14,iv a3),(44,iv (if a1.Hi > a8.Hi then a1.Hi else a8.Hi)),(46,.pointer (some ((slAddr a2 aE 2).add 1)))] (by kernel_rfl) hF (by kernel_rfl) (ocons (obSubC (fun _=>aV)) (ocons (obSubC (fun _=>aW)) (ocons (obIdxQ (hS.arr (i:=1) rfl) (by kernel_rfl) (fun _=>aN)) (ocons (obElQ (i:=aF) 1 api_Span.cells_len (fun _ hd=>((hS.later hd).arr (i:=1) rfl)) (by kernel_rfl) (fun _=>aN) rfl) (ocons (ob1 (by kernel_rfl) (fun _ hd=>(hS.later hd).cell (i:=0) (j:=1) rfl rfl)) (ocons (obIdxQ (hS.arr (i:=1) rfl) (by kernel_rfl) (fun _=>aO)) onil)))))) ⟨by kernel_rfl⟩ fun a w hF hx=>?_
     replace hS:=hS.later hx
     replace h:=bindS h
     obtain ⟨aX,aR,h⟩:=h
     refine SK.wi (setK (j:=aE) (t:=3) [(4,sv a2 a0 a4),(12,sv ad6 y9 cap7),(13,iv (ln y9)),(14,iv a3)] 1 1 aQ (api_Span.mk aQ.Lo (if a1.Hi > a8.Hi then a1.Hi else a8.Hi)) (iv (if a1.Hi > a8.Hi then a1.Hi else a8.Hi)) hF hS rfl (by kernel_rfl) ⟨by kernel_rfl⟩ api_Span.cells_len aO rfl (by kernel_rfl) (by kernel_rfl) (by kernel_rfl) aR ⟨by kernel_rfl⟩ fun w a hF hl hS=>?_)
     simp only [sv,ln,hl] at hF hS
     refine WI.fin rfl (norm_block <| norm_then <| ?_)
     exact ⟨aX,a2,a4,hF.sub (by kernel_rfl),St.pick [1,2,3] (by decide) hS,h⟩
    ·replace h:=bif_f h hc
     refine WI.region ?_
     refine rno 2 [.run [] (Instr.loadAt 25 (pb a5)) (.agg #[iv a1.Lo,iv a1.Hi])] 2 [(4,sv a2 a0 a4),(12,sv ad6 y9 cap7),(13,iv (ln y9)),(14,iv a3),(47,sv a2 a0 a4),(48,.agg #[iv a1.Lo,iv a1.Hi])] hF (ocons (obN (us:=[iv a1.Lo,iv a1.Hi]) (by kernel_rfl) (fun _ hd=>((hS.at_ hd).blk (i:=0) rfl).cells rfl)) onil) fun a hF=>?_
     refine SK.wi (litK (e:=25) (sz:=2) (f:=api_Span.cells) (t:=132) (len:=1) (fun aK=>[(4,sv a2 a0 a4),(12,sv ad6 y9 cap7),(13,iv (ln y9)),(14,iv a3),(47,sv a2 a0 a4),(49,sb aK 1)]) #[(0,.agg #[iv a1.Lo,iv a1.Hi])] #[iv a1.Lo,iv a1.Hi] ([a1]) hF hS (by kernel_rfl) ⟨by kernel_rfl⟩ (by kernel_rfl) api_Span.cells_len rfl rfl (by kernel_rfl) (fun _=>⟨by kernel_rfl⟩) fun aK w a hF hS=>?_)
     replace h:=bindS h
     obtain ⟨aI,aS,h⟩:=h
     refine SK.wi (appK (t:=132) (ty:=132) (bytes:=16) (l:=a0) (l':=([a1])) (fun aG aH=>[(4,sv a2 a0 a4),(12,sv ad6 y9 cap7),(13,iv (ln y9)),(14,iv a3),(50,sv aG aI aH)]) 2 hF hS rfl (by kernel_rfl) ⟨by kernel_rfl⟩ (by kernel_rfl) (hS.arr (i:=0) rfl) (fun _ _=>rfl) aS (fun _ _=>⟨by kernel_rfl⟩) fun aG aH w a hF hS=>?_)
     refine rn 1 5 [(4,sv aG aI aH),(12,sv ad6 y9 cap7),(13,iv (ln y9)),(14,iv a3)] hF fun a hF=>?_
     refine WI.fin rfl (norm_block <| norm_then <| ?_)
     exact ⟨aI,aG,aH,hF.sub (by kernel_rfl),St.pick [2,3,4] (by decide) hS,h⟩
   rintro a w ⟨a7,aA,aC,hF,hS,h⟩
   rw [fold_speeds_united_K3] at h
   refine WI.region ?_
   replace h:=bindS h
   obtain ⟨aJ,aT,h⟩:=h
   refine rno 2 [.run [] (binOp .add 3 (iv a3) (iv 1)) (iv aJ)] 2 [(4,sv aA a7 aC),(12,sv ad6 y9 cap7),(13,iv (ln y9)),(14,iv aJ)] hF (ocons (obAddC (fun _=>aT)) onil) fun a hF=>?_
   refine wfn rfl ?_
   rw [hk2] at h
   exact ⟨nk2,Nat.lt_succ_self _,aJ,a7,aA,aC,hF.sub (by kernel_rfl),St.pick [0,1,2] (by decide) hS,h⟩
  ·replace h:=bif_f h hc
   refine wpIn_exit (exit_then <| exit_then <| exit_hit <| norm_then ?_)
   exact ⟨a0,a2,a4,hF.sub (by kernel_rfl),St.pick [0,1,2] (by decide) hS,h⟩
 rintro a w ⟨a6,a9,aB,hF,hS,h⟩
 rw [fold_speeds_united_K1] at h
 refine esr ?_
 refine rn 2 2 [(2,sv a9 a6 aB)] hF fun a hF=>?_
 refine wfn rfl ?_
 refine wpIn_ret (fn_ret [.tmp 2] [sv a9 a6 aB] hF rfl ⟨rfl,trivial⟩ ?_)
 have hr_:=Option.some.inj h
 subst hr_
 exact ⟨_,_,rfl,St.pick [0] (by decide) hS⟩
theorem law03_sets_ok (F : Nat) (p0 : (List (List api_Span))) (p1 : (List (List api_Span))) (res : Bool) (h : law03_sets F p0 p1 = some res) (μ : Frz) (w0 : World) (hm : FrzAt μ w0) {ad1 : Option Addr} {cap2 : Nat} {css3 : List (List Value)} {ad5 : Option Addr} {cap6 : Nat} {css7 : List (List Value)} (hA4 : ArrQ μ 1 Rp43 ad1 cap2 css3 p0) (hA8 : ArrQ μ 1 Rp43 ad5 cap6 css7 p1) : Calls Try.prog 26 #[sv ad1 p0 cap2,sv ad5 p1 cap6] w0 (fun e w=>e = .returned (.bool res)∧Ext w0 w):=by
 obtain ⟨hlow,hS⟩:=hm.init
 have hext:=Frz.ext_refl w0.heap.size μ
 rw [law03_sets] at h
 refine fn_enterW Try.func26 rfl 27 [(0,sv ad1 p0 cap2),(1,sv ad5 p1 cap6)] rfl rfl (by kernel_rfl) fun a w hw hF=>?_
 replace hS : St w0 [fz w0 μ] w:=by rw [hw]; exact hS
 clear hw
 refine esr ?_
 refine rn 1 1 [(0,sv ad1 p0 cap2),(1,sv ad5 p1 cap6)] hF fun a hF=>?_
 refine wfn rfl ?_
 refine eseq ?_
 refine esr ?_
 refine rn 5 5 [(0,sv ad1 p0 cap2),(1,sv ad5 p1 cap6),(10,.bool ((ln p0) != (ln p1)))] hF fun a hF=>?_
 refine wfn rfl ?_
 refine econd hF rfl (fun hc=>?_) (fun hc=>?_)
 ·replace h:=bif_t h hc
  refine esr ?_
  refine rn 1 1 [(4,.bool false)] hF fun a hF=>?_
  refine wfn rfl ?_
  refine wpIn_ret (ret_then <| fn_ret [.tmp 4] [.bool false] hF rfl ⟨rfl,trivial⟩ ?_)
  have hr_:=Option.some.inj h
  subst hr_
  exact ⟨rfl,hS.ext⟩
 ·replace h:=bif_f h hc
  refine wpIn_skip (norm_then ?_)
  refine ecut (fun a w=>Fr 27 [] [] a∧St w0 [fz w0 μ] w∧law03_sets_K1 = some res) ?_ ?_
  ·skip
   refine esr ?_
   refine rn 1 1 [(0,sv ad1 p0 cap2),(1,sv ad5 p1 cap6),(5,iv 0)] hF fun a hF=>?_
   refine wfn rfl ?_
   refine wpIn_block ?_
   refine eloop (fun n_ a w=>∃ (a0 : Int),Fr 27 [] [(0,sv ad1 p0 cap2),(1,sv ad5 p1 cap6),(5,iv a0)] a∧St w0 [fz w0 μ] w∧law03_sets_L2 F p0 p1 n_ a0 = some res) F ⟨0,hF.sub (by kernel_rfl),St.pick [0] (by decide) hS,h⟩ ?_
   rintro nk2 a w ⟨a0,hF,hS,h⟩
   rcases nk2 with _ | nk2
   ·cases (show (none : Option Bool) = some res from h)
   obtain ⟨k2,hk2⟩ : ∃ k,k = law03_sets_L2 F p0 p1 nk2:=⟨_,rfl⟩
   replace h : law03_sets_B2 F p0 p1 k2 a0 = some res:=by rw [hk2]; exact h
   rw [law03_sets_B2] at h
   refine eseq ?_
   refine esr ?_
   refine rn 4 4 [(0,sv ad1 p0 cap2),(1,sv ad5 p1 cap6),(5,iv a0),(14,.bool (decide (a0 < (ln p0))))] hF fun a hF=>?_
   refine wfn rfl ?_
   refine econd hF rfl (fun hc=>?_) (fun hc=>?_)
   ·replace h:=bif_t h hc
    refine wpIn_skip (norm_then ?_)
    refine eseq ?_
    refine wpIn_block ?_
    refine eseq ?_
    replace h:=bindS h
    obtain ⟨a2,aG,h⟩:=h
    obtain ⟨aK,a9,aE⟩:=getI_all2 hA4.2 aG
    obtain ⟨a4,a6,rfl,aB⟩:=aE
    replace h:=bindS h
    obtain ⟨a1,aF,h⟩:=h
    obtain ⟨aJ,a8,aD⟩:=getI_all2 hA8.2 aF
    obtain ⟨a5,a7,rfl,aC⟩:=aD
    replace h:=bindS h
    obtain ⟨aA,aI,h⟩:=h
    refine runD (obs:=[.run [] (Instr.indexAt 48 (sv ad1 p0 cap2) (iv a0)) (.pointer (some (slAddr ad1 a0 1))),.run [] (Instr.loadAt 43 (.pointer (some (slAddr ad1 a0 1)))) (sv a4 a2 a6),.run [] (Instr.indexAt 48 (sv ad5 p1 cap6) (iv a0)) (.pointer (some (slAddr ad5 a0 1))),.run [] (Instr.loadAt 43 (.pointer (some (slAddr ad5 a0 1)))) (sv a5 a1 a7),.call [] 22 #[sv a4 a2 a6,sv a5 a1 a7] (.bool aA)]) 10 [(0,sv ad1 p0 cap2),(1,sv ad5 p1 cap6),(5,iv a0),(26,.bool (!aA))] (by kernel_rfl) hF (by kernel_rfl) (ocons (obIdxQ (hA4.at (hS.frz (i:=0) rfl hlow)) (by kernel_rfl) (fun _=>a9)) (ocons (obElQ (i:=a0) 0 (fN_len 1) (fun _ hd=>(hA4.at ((hS.later hd).frz (i:=0) rfl hlow))) (by kernel_rfl) (fun _=>a9) rfl) (ocons (obIdxQ (hA8.at (hS.frz (i:=0) rfl hlow)) (by kernel_rfl) (fun _=>a8)) (ocons (obElQ (i:=a0) 0 (fN_len 1) (fun _ hd=>(hA8.at ((hS.later hd).frz (i:=0) rfl hlow))) (by kernel_rfl) (fun _=>a8) rfl) (ocons (show Ob.ok _ Ext _ _ from fun hk w2 hd=>law03_spans_ok F a2 a1 _ ((fun _=>aI) hk) _ w2 (memOf_at w2) (aB.mono (FrzAt.le_mem ((hS.later hd).frz (i:=0) rfl hlow))) (aC.mono (FrzAt.le_mem ((hS.later hd).frz (i:=0) rfl hlow)))) onil))))) ⟨by kernel_rfl⟩ fun a w hF hx=>?_
    replace hS:=hS.later hx
    refine wfn rfl ?_
    refine econd hF rfl (fun hc=>?_) (fun hc=>?_)
    ·replace h:=bif_t h hc
     refine esr ?_
     refine rn 1 1 [(4,.bool false)] hF fun a hF=>?_
     refine wfn rfl ?_
     refine wpIn_ret (ret_block <| ret_then <| ret_then <| ret_block <| ret_then <| fn_ret [.tmp 4] [.bool false] hF rfl ⟨rfl,trivial⟩ ?_)
     have hr_:=Option.some.inj h
     subst hr_
     exact ⟨rfl,hS.ext⟩
    ·replace h:=bif_f h hc
     refine wpIn_skip (norm_block <| norm_then <| ?_)
     refine WI.region ?_
     replace h:=bindS h
     obtain ⟨a3,aH,h⟩:=h
     refine rno 3 [.run [] (binOp .add 3 (iv a0) (iv 1)) (iv a3)] 3 [(0,sv ad1 p0 cap2),(1,sv ad5 p1 cap6),(5,iv a3)] hF (ocons (obAddC (fun _=>aH)) onil) fun a hF=>?_
     refine wfn rfl ?_
     rw [hk2] at h
     exact ⟨nk2,Nat.lt_succ_self _,a3,hF.sub (by kernel_rfl),St.pick [0] (by decide) hS,h⟩
   ·replace h:=bif_f h hc
    refine wpIn_exit (exit_then <| exit_then <| exit_hit <| norm_then ?_)
    exact ⟨hF.sub (by kernel_rfl),St.pick [0] (by decide) hS,h⟩
  rintro a w ⟨hF,hS,h⟩
  rw [law03_sets_K1] at h
  refine esr ?_
  refine rn 1 1 [(4,.bool true)] hF fun a hF=>?_
  refine wfn rfl ?_
  refine wpIn_ret (fn_ret [.tmp 4] [.bool true] hF rfl ⟨rfl,trivial⟩ ?_)
  have hr_:=Option.some.inj h
  subst hr_
  exact ⟨rfl,hS.ext⟩
theorem pfold_web_link_ok (F : Nat) (p0 : fold_web) (p1 : fold_place) (p2 : fold_place) (p3 : Int) (res : fold_web) (h : pfold_web_link F p0 p1 p2 p3 = some res) (μ : Frz) (w0 w1 : World) (T_ : List Res) (hlow : FrzIn w0 μ) {cb0 : Nat} {ad1 : Option Addr} {cap2 : Nat} {hd3 : List Hd} {css4 : List (List (List Value))} {m6 : Nat} {B7 : List (fold_place×Hd)} {css8 : List (List fold_bond)} (hq5 : NestOk (Rp132 μ) hd3 css4 p0.sets) (hq9 : MNestOk Eq B7 css8 p0.bonds) (hS : St w0 (fz w0 μ :: blk cb0 197 #[sv ad1 p0.sets cap2,.map (some m6)] :: nestR 135 132 1 (fN 1) ad1 p0.sets.length cap2 hd3 css4 :: mnestR (fA fold_place.cells) 199 3 fold_bond.cells m6 B7 css8 :: T_) w1) : Calls Try.prog 118 #[pb cb0,.agg #[iv p1.ray,iv p1.gate],.agg #[iv p2.ray,iv p2.gate],iv p3] w1 (fun e w=>∃ (ν_ : Frz) (aE : Option Addr) (aH : Nat) (aM : List Hd) (aK : List (List (List Value))) (B105 : List (fold_place×Hd)) (aL : List (List fold_bond)),μ.ext w0.heap.size ν_∧FrzIn w0 ν_∧e = .returned (.tuple #[])∧(NestOk (Rp132 ν_) aM aK res.sets)∧(MNestOk Eq B105 aL res.bonds)∧St w0 (fz w0 ν_ :: blk cb0 197 #[sv aE res.sets aH,.map (some m6)] :: nestR 135 132 1 (fN 1) aE res.sets.length aH aM aK :: mnestR (fA fold_place.cells) 199 3 fold_bond.cells m6 B105 aL :: T_) w):=by
 rw [pfold_web_link] at h
 have hext:=Frz.ext_refl w0.heap.size μ
 refine fn_enterW Try.func118 rfl 34 [(0,pb cb0),(1,.agg #[iv p1.ray,iv p1.gate]),(2,.agg #[iv p2.ray,iv p2.gate]),(3,iv p3)] rfl rfl (by kernel_rfl) fun a w hw hF=>?_
 replace hS : St w0 (fz w0 μ :: blk cb0 197 #[sv ad1 p0.sets cap2,.map (some m6)] :: nestR 135 132 1 (fN 1) ad1 p0.sets.length cap2 hd3 css4 :: mnestR (fA fold_place.cells) 199 3 fold_bond.cells m6 B7 css8 :: T_) w:=by rw [hw]; exact hS
 clear hw
 refine esr ?_
 refine SK.wi (boxK (t:=192) (fun a0=>[(0,pb cb0),(2,.agg #[iv p2.ray,iv p2.gate]),(3,iv p3),(5,pb a0)]) (.agg #[iv p1.ray,iv p1.gate]) #[iv p1.ray,iv p1.gate] hF hS (by kernel_rfl) ⟨by kernel_rfl⟩ (by kernel_rfl) (fun _=>⟨by kernel_rfl⟩) fun a0 w a hF hS=>?_)
 refine SK.wi (boxK (t:=192) (fun a1=>[(0,pb cb0),(3,iv p3),(5,pb a0),(6,pb a1)]) (.agg #[iv p2.ray,iv p2.gate]) #[iv p2.ray,iv p2.gate] hF hS (by kernel_rfl) ⟨by kernel_rfl⟩ (by kernel_rfl) (fun _=>⟨by kernel_rfl⟩) fun a1 w a hF hS=>?_)
 refine wfn rfl ?_
 refine eseq ?_
 replace h:=bindS h
 obtain ⟨a4,aP,h⟩:=h
 refine region_treeW 13 [8,9,11] _ (D:=fun w=>St w0 [blk a1 192 #[iv p2.ray,iv p2.gate],blk a0 192 #[iv p1.ray,iv p1.gate],blk cb0 197 #[sv ad1 p0.sets cap2,.map (some m6)],nestR 135 132 1 (fN 1) ad1 p0.sets.length cap2 hd3 css4] w∧FrzAt μ w) (by kernel_rfl) (by kernel_rfl) hF.size (fun w hx=>?_) (fun _ _ h=>h)
 replace hS:=hS.later hx
 refine ⟨⟨St.pick [0,1,3,4] (by decide) hS,hS.frz (i:=2) rfl hlow⟩,?_⟩
 have b1:=Frz.le_refl μ
 refine WT.s [0,1,2,3,4,5,6,7] [8] (by kernel_rfl) (by kernel_rfl) ?_
 refine runC (rest:=[]) (obs:=[.run [] (Instr.loadAt 195 (.pointer (some ⟨cb0,1,none⟩))) (.map (some m6)),.run [] (Instr.loadAt 192 (pb a0)) (.agg #[iv p1.ray,iv p1.gate]),.run [] (Instr.loadAt 192 (pb a1)) (.agg #[iv p2.ray,iv p2.gate])]) [0,1,2,3,4,5,6,7] [(0,pb cb0),(3,iv p3),(5,pb a0),(6,pb a1),(11,.map (some m6)),(12,.agg #[iv p1.ray,iv p1.gate]),(16,.agg #[iv p2.ray,iv p2.gate,iv p3])] hF (by kernel_rfl) (by kernel_rfl) (ocons (ob1 (by kernel_rfl) (fun _ hd=>hd.1.cell (i:=2) (j:=1) rfl rfl)) (ocons (obN (us:=[iv p1.ray,iv p1.gate]) (by kernel_rfl) (fun _ hd=>(hd.1.blk (i:=1) rfl).cells rfl)) (ocons (obN (us:=[iv p2.ray,iv p2.gate]) (by kernel_rfl) (fun _ hd=>(hd.1.blk (i:=0) rfl).cells rfl)) onil))) ⟨by kernel_rfl⟩ fun a hF=>?_
 refine WRun.fin ?_
 refine all_cons ?_ (all_nil)
 refine litK (e:=199) (sz:=3) (f:=fold_bond.cells) (t:=194) (len:=1) (fun a2=>[(0,pb cb0),(3,iv p3),(5,pb a0),(6,pb a1),(11,.map (some m6)),(12,.agg #[iv p1.ray,iv p1.gate]),(17,sb a2 1)]) #[(0,.agg #[iv p2.ray,iv p2.gate,iv p3])] #[iv p2.ray,iv p2.gate,iv p3] ([(fold_bond.mk p2 p3)]) hF hS (by kernel_rfl) ⟨by kernel_rfl⟩ (by kernel_rfl) fold_bond.cells_len rfl rfl (by kernel_rfl) (fun _=>⟨by kernel_rfl⟩) fun a2 w a hF hS=>⟨⟨St.pick [1,2,4,5] (by decide) hS,(hS.frz (i:=3) rfl hlow)⟩,?_⟩
 refine WT.s [] [9] (by kernel_rfl) (by kernel_rfl) ?_
 refine WRun.fin ?_
 refine all_cons ?_ (all_nil)
 replace hS : St w0 (arr 199 3 fold_bond.cells (some ⟨a2,0,none⟩) ([(fold_bond.mk p2 p3)]).length 1 ([(fold_bond.mk p2 p3)]) :: blk a1 192 #[iv p2.ray,iv p2.gate] :: blk a0 192 #[iv p1.ray,iv p1.gate] :: fz w0 μ :: blk cb0 197 #[sv ad1 p0.sets cap2,.map (some m6)] :: nestR 135 132 1 (fN 1) ad1 p0.sets.length cap2 hd3 css4 :: mnestR (fA fold_place.cells) 199 3 fold_bond.cells m6 B7 css8 :: T_) w:=hS
 replace hS : St w0 (mnestR (fA fold_place.cells) 199 3 fold_bond.cells m6 B7 css8 :: arr 199 3 fold_bond.cells (some ⟨a2,0,none⟩) ([(fold_bond.mk p2 p3)]).length 1 ([(fold_bond.mk p2 p3)]) :: blk a1 192 #[iv p2.ray,iv p2.gate] :: blk a0 192 #[iv p1.ray,iv p1.gate] :: fz w0 μ :: blk cb0 197 #[sv ad1 p0.sets cap2,.map (some m6)] :: nestR 135 132 1 (fN 1) ad1 p0.sets.length cap2 hd3 css4 :: T_) w:=St.pickT (A:=[arr 199 3 fold_bond.cells (some ⟨a2,0,none⟩) ([(fold_bond.mk p2 p3)]).length 1 ([(fold_bond.mk p2 p3)]),blk a1 192 #[iv p2.ray,iv p2.gate],blk a0 192 #[iv p1.ray,iv p1.gate],fz w0 μ,blk cb0 197 #[sv ad1 p0.sets cap2,.map (some m6)],nestR 135 132 1 (fN 1) ad1 p0.sets.length cap2 hd3 css4,mnestR (fA fold_place.cells) 199 3 fold_bond.cells m6 B7 css8]) (T:=T_) [6,0,1,2,3,4,5] (by decide) hS
 refine mapEntryNK (kt:=192) (te:=194) (t:=195) (fun a7 a9 a5=>[(0,pb cb0),(3,iv p3),(5,pb a0),(6,pb a1),(11,.map (some m6)),(17,sb a2 1),(18,.tuple #[.slice a7 (((lkM p0.bonds p1).getD []).length) a9,iv ((a5 : Nat) : Int)])]) p1 key192 hq9 hF hS (by kernel_rfl) ⟨by kernel_rfl⟩ (by kernel_rfl) (by kernel_rfl) (fun _ _ _=>⟨by kernel_rfl⟩) fun a7 a9 a5 j44 B45 aZ aX w a hF aR aN aS hS=>⟨⟨St.pick [3,4,6,7] (by decide) hS,(hS.frz (i:=5) rfl hlow)⟩,?_⟩
 obtain rfl:=all2_eq aS
 refine WT.s [10,12] [11] (by kernel_rfl) (by kernel_rfl) ?_
 refine runC (rest:=[]) (obs:=[]) [10,12] [(0,pb cb0),(3,iv p3),(5,pb a0),(6,pb a1),(11,.map (some m6)),(13,.slice a7 (((lkM p0.bonds p1).getD []).length) a9),(17,sb a2 1),(20,iv ((a5 : Nat) : Int))] hF (by kernel_rfl) (by kernel_rfl) onil ⟨by kernel_rfl⟩ fun a hF=>?_
 refine WRun.fin ?_
 refine all_cons ?_ (all_nil)
 refine appK (t:=194) (ty:=194) (bytes:=24) (l:=((lkM p0.bonds p1).getD [])) (l':=([(fold_bond.mk p2 p3)])) (fun aF aI=>[(0,pb cb0),(3,iv p3),(5,pb a0),(6,pb a1),(11,.map (some m6)),(19,sv aF a4 aI),(20,iv ((a5 : Nat) : Int))]) 1 hF hS rfl (by kernel_rfl) ⟨by kernel_rfl⟩ (by kernel_rfl) (hS.arr (i:=2) rfl) (fun _ _=>rfl) aP (fun _ _=>⟨by kernel_rfl⟩) fun aF aI w a hF hS=>⟨⟨St.pick [3,4,6,7] (by decide) hS,(hS.frz (i:=5) rfl hlow)⟩,?_⟩
 refine WT.z [] (by kernel_rfl) ?_
 refine WRun.fin ?_
 refine SK.wi (entryStoreNK (t:=195) (l0:=((lkM p0.bonds p1).getD [])) (l3:=a4) [(0,pb cb0),(3,iv p3),(5,pb a0),(6,pb a1)] aR aN (all2_refl a4) hF hS (by kernel_rfl) ⟨by kernel_rfl⟩ ⟨by kernel_rfl⟩ fun B53 aB w a hF aT hS=>?_)
 refine wfn rfl ?_
 replace h:=bindS h
 obtain ⟨aD,aQ,h⟩:=h
 refine region_treeW 13 [8,9,11] _ (D:=fun w=>St w0 [arr 199 3 fold_bond.cells (some ⟨a2,0,none⟩) ([(fold_bond.mk p2 p3)]).length 1 ([(fold_bond.mk p2 p3)]),blk a1 192 #[iv p2.ray,iv p2.gate],blk a0 192 #[iv p1.ray,iv p1.gate],blk cb0 197 #[sv ad1 p0.sets cap2,.map (some m6)],nestR 135 132 1 (fN 1) ad1 p0.sets.length cap2 hd3 css4] w∧FrzAt μ w) (by kernel_rfl) (by kernel_rfl) hF.size (fun w hx=>?_) (fun _ _ h=>h)
 replace hS:=hS.later hx
 refine ⟨⟨St.pick [1,2,3,5,6] (by decide) hS,hS.frz (i:=4) rfl hlow⟩,?_⟩
 have b2:=Frz.le_refl μ
 refine WT.s [0,1,2,3,4,5,6,7] [8] (by kernel_rfl) (by kernel_rfl) ?_
 refine runC (rest:=[]) (obs:=[.run [] (Instr.loadAt 195 (.pointer (some ⟨cb0,1,none⟩))) (.map (some m6)),.run [] (Instr.loadAt 192 (pb a1)) (.agg #[iv p2.ray,iv p2.gate]),.run [] (Instr.loadAt 192 (pb a0)) (.agg #[iv p1.ray,iv p1.gate])]) [0,1,2,3,4,5,6,7] [(24,.map (some m6)),(25,.agg #[iv p2.ray,iv p2.gate]),(29,.agg #[iv p1.ray,iv p1.gate,iv p3])] hF (by kernel_rfl) (by kernel_rfl) (ocons (ob1 (by kernel_rfl) (fun _ hd=>hd.1.cell (i:=3) (j:=1) rfl rfl)) (ocons (obN (us:=[iv p2.ray,iv p2.gate]) (by kernel_rfl) (fun _ hd=>(hd.1.blk (i:=1) rfl).cells rfl)) (ocons (obN (us:=[iv p1.ray,iv p1.gate]) (by kernel_rfl) (fun _ hd=>(hd.1.blk (i:=2) rfl).cells rfl)) onil))) ⟨by kernel_rfl⟩ fun a hF=>?_
 refine WRun.fin ?_
 refine all_cons ?_ (all_nil)
 refine litK (e:=199) (sz:=3) (f:=fold_bond.cells) (t:=194) (len:=1) (fun a3=>[(24,.map (some m6)),(25,.agg #[iv p2.ray,iv p2.gate]),(30,sb a3 1)]) #[(0,.agg #[iv p1.ray,iv p1.gate,iv p3])] #[iv p1.ray,iv p1.gate,iv p3] ([(fold_bond.mk p1 p3)]) hF hS (by kernel_rfl) ⟨by kernel_rfl⟩ (by kernel_rfl) fold_bond.cells_len rfl rfl (by kernel_rfl) (fun _=>⟨by kernel_rfl⟩) fun a3 w a hF hS=>⟨⟨St.pick [2,3,4,6,7] (by decide) hS,(hS.frz (i:=5) rfl hlow)⟩,?_⟩
 refine WT.s [] [9] (by kernel_rfl) (by kernel_rfl) ?_
 refine WRun.fin ?_
 refine all_cons ?_ (all_nil)
 replace hS : St w0 (arr 199 3 fold_bond.cells (some ⟨a3,0,none⟩) ([(fold_bond.mk p1 p3)]).length 1 ([(fold_bond.mk p1 p3)]) :: mnestR (fA fold_place.cells) 199 3 fold_bond.cells m6 B53 aB :: arr 199 3 fold_bond.cells (some ⟨a2,0,none⟩) ([(fold_bond.mk p2 p3)]).length 1 ([(fold_bond.mk p2 p3)]) :: blk a1 192 #[iv p2.ray,iv p2.gate] :: blk a0 192 #[iv p1.ray,iv p1.gate] :: fz w0 μ :: blk cb0 197 #[sv ad1 p0.sets cap2,.map (some m6)] :: nestR 135 132 1 (fN 1) ad1 p0.sets.length cap2 hd3 css4 :: T_) w:=hS
 replace hS : St w0 (mnestR (fA fold_place.cells) 199 3 fold_bond.cells m6 B53 aB :: arr 199 3 fold_bond.cells (some ⟨a3,0,none⟩) ([(fold_bond.mk p1 p3)]).length 1 ([(fold_bond.mk p1 p3)]) :: arr 199 3 fold_bond.cells (some ⟨a2,0,none⟩) ([(fold_bond.mk p2 p3)]).length 1 ([(fold_bond.mk p2 p3)]) :: blk a1 192 #[iv p2.ray,iv p2.gate] :: blk a0 192 #[iv p1.ray,iv p1.gate] :: fz w0 μ :: blk cb0 197 #[sv ad1 p0.sets cap2,.map (some m6)] :: nestR 135 132 1 (fN 1) ad1 p0.sets.length cap2 hd3 css4 :: T_) w:=St.pickT (A:=[arr 199 3 fold_bond.cells (some ⟨a3,0,none⟩) ([(fold_bond.mk p1 p3)]).length 1 ([(fold_bond.mk p1 p3)]),mnestR (fA fold_place.cells) 199 3 fold_bond.cells m6 B53 aB,arr 199 3 fold_bond.cells (some ⟨a2,0,none⟩) ([(fold_bond.mk p2 p3)]).length 1 ([(fold_bond.mk p2 p3)]),blk a1 192 #[iv p2.ray,iv p2.gate],blk a0 192 #[iv p1.ray,iv p1.gate],fz w0 μ,blk cb0 197 #[sv ad1 p0.sets cap2,.map (some m6)],nestR 135 132 1 (fN 1) ad1 p0.sets.length cap2 hd3 css4]) (T:=T_) [1,0,2,3,4,5,6,7] (by decide) hS
 refine mapEntryNK (kt:=192) (te:=194) (t:=195) (fun a8 aA a6=>[(24,.map (some m6)),(30,sb a3 1),(31,.tuple #[.slice a8 (((lkM (upM p0.bonds p1 a4) p2).getD []).length) aA,iv ((a6 : Nat) : Int)])]) p2 key192 aT hF hS (by kernel_rfl) ⟨by kernel_rfl⟩ (by kernel_rfl) (by kernel_rfl) (fun _ _ _=>⟨by kernel_rfl⟩) fun a8 aA a6 j88 B89 b0 aY w a hF aU aO aV hS=>⟨⟨St.pick [3,4,5,7,8] (by decide) hS,(hS.frz (i:=6) rfl hlow)⟩,?_⟩
 obtain rfl:=all2_eq aV
 refine WT.s [10,12] [11] (by kernel_rfl) (by kernel_rfl) ?_
 refine runC (rest:=[]) (obs:=[]) [10,12] [(24,.map (some m6)),(26,.slice a8 (((lkM (upM p0.bonds p1 a4) p2).getD []).length) aA),(30,sb a3 1),(33,iv ((a6 : Nat) : Int))] hF (by kernel_rfl) (by kernel_rfl) onil ⟨by kernel_rfl⟩ fun a hF=>?_
 refine WRun.fin ?_
 refine all_cons ?_ (all_nil)
 refine appK (t:=194) (ty:=194) (bytes:=24) (l:=((lkM (upM p0.bonds p1 a4) p2).getD [])) (l':=([(fold_bond.mk p1 p3)])) (fun aG aJ=>[(24,.map (some m6)),(32,sv aG aD aJ),(33,iv ((a6 : Nat) : Int))]) 1 hF hS rfl (by kernel_rfl) ⟨by kernel_rfl⟩ (by kernel_rfl) (hS.arr (i:=2) rfl) (fun _ _=>rfl) aQ (fun _ _=>⟨by kernel_rfl⟩) fun aG aJ w a hF hS=>⟨⟨St.pick [3,4,5,7,8] (by decide) hS,(hS.frz (i:=6) rfl hlow)⟩,?_⟩
 refine WT.z [] (by kernel_rfl) ?_
 refine WRun.fin ?_
 refine SK.wi (entryStoreNK (t:=195) (l0:=((lkM (upM p0.bonds p1 a4) p2).getD [])) (l3:=aD) [] aU aO (all2_refl aD) hF hS (by kernel_rfl) ⟨by kernel_rfl⟩ ⟨by kernel_rfl⟩ fun B97 aC w a hF aW hS=>?_)
 refine WI.fin rfl ?_
 refine fn_end hF rfl ?_
 have hr_:=Option.some.inj h
 subst hr_
 replace hS : St w0 (mnestR (fA fold_place.cells) 199 3 fold_bond.cells m6 B97 aC :: arr 199 3 fold_bond.cells (some ⟨a3,0,none⟩) ([(fold_bond.mk p1 p3)]).length 1 ([(fold_bond.mk p1 p3)]) :: arr 199 3 fold_bond.cells (some ⟨a2,0,none⟩) ([(fold_bond.mk p2 p3)]).length 1 ([(fold_bond.mk p2 p3)]) :: blk a1 192 #[iv p2.ray,iv p2.gate] :: blk a0 192 #[iv p1.ray,iv p1.gate] :: fz w0 μ :: blk cb0 197 #[sv ad1 p0.sets cap2,.map (some m6)] :: nestR 135 132 1 (fN 1) ad1 p0.sets.length cap2 hd3 css4 :: T_) w:=hS
 replace hS:=St.pickT (A:=[mnestR (fA fold_place.cells) 199 3 fold_bond.cells m6 B97 aC,arr 199 3 fold_bond.cells (some ⟨a3,0,none⟩) ([(fold_bond.mk p1 p3)]).length 1 ([(fold_bond.mk p1 p3)]),arr 199 3 fold_bond.cells (some ⟨a2,0,none⟩) ([(fold_bond.mk p2 p3)]).length 1 ([(fold_bond.mk p2 p3)]),blk a1 192 #[iv p2.ray,iv p2.gate],blk a0 192 #[iv p1.ray,iv p1.gate],fz w0 μ,blk cb0 197 #[sv ad1 p0.sets cap2,.map (some m6)],nestR 135 132 1 (fN 1) ad1 p0.sets.length cap2 hd3 css4]) (T:=T_) [5,6,7,0] (by decide) hS
 exact ⟨μ,ad1,cap2,hd3,css4,B97,aC,hext,hlow,rfl,hq5,aW,hS⟩
theorem slices_Clone_fold_speeds_fold_speeds_okS (F : Nat) (p0 : (List (List api_Span))) (res : (List (List api_Span))) (h : slices_Clone_fold_speeds_fold_speeds F p0 = some res) (μ : Frz) (w0 : World) (hm : FrzAt μ w0) {ad1x : Addr} {cap2 : Nat} {css3 : List (List Value)} (hA4 : ArrQ μ 1 Rp132 (some ad1x) cap2 css3 p0) : Calls Try.prog 119 #[.slice (some ad1x) p0.length cap2] w0 (fun e w=>∃ (ν_ : Frz) (zad0 : Option Addr) (zcap0 : Nat) (zcss0 : List (List Value)),μ.ext w0.heap.size ν_∧e = .returned (sv zad0 res zcap0)∧All2 (Rp132 ν_) zcss0 res∧St w0 [fz w0 ν_,arr 132 1 (fN 1) zad0 res.length zcap0 zcss0] w):=by
 obtain ⟨hlow,hS⟩:=hm.init
 have hext:=Frz.ext_refl w0.heap.size μ
 rw [slices_Clone_fold_speeds_fold_speeds] at h
 refine fn_enterW Try.func119 rfl 8 [(0,.slice (some ad1x) p0.length cap2)] rfl rfl (by kernel_rfl) fun a w hw hF=>?_
 replace hS : St w0 [fz w0 μ] w:=by rw [hw]; exact hS
 clear hw
 refine esr ?_
 refine rn 1 1 [(0,.slice (some ad1x) p0.length cap2)] hF fun a hF=>?_
 refine wfn rfl ?_
 refine eseq ?_
 refine esr ?_
 refine rn 2 2 [(0,.slice (some ad1x) p0.length cap2),(4,.bool false)] hF fun a hF=>?_
 refine wfn rfl ?_
 refine wpIn_cond_false (hF.get rfl) ?_
 refine wpIn_skip (norm_then ?_)
 refine esr ?_
 have hq6 : All2 (Rp132 μ) ([] : List (List Value)) ([] : List (List api_Span)):=All2.nil
 refine SK.wi (litQK (e:=132) (sz:=1) (f:=fN 1) (t:=135) (len:=0) (fun b5=>[(0,.slice (some ad1x) p0.length cap2),(5,sb b5 0)]) #[] #[] ([] : List (List Value)) ([] : List (List api_Span)) hF hS (by kernel_rfl) ⟨by kernel_rfl⟩ (by kernel_rfl) (fN_len 1) rfl rfl rfl (by kernel_rfl) (fun _=>⟨by kernel_rfl⟩) fun b5 w a hF hS=>?_)
 refine rn 1 2 [(5,sb b5 0),(6,.slice (some ad1x) p0.length cap2)] hF fun a hF=>?_
 replace h:=bindS h
 obtain ⟨l7,hl7,h⟩:=h
 have a0 : All2 (Rp132 μ) (([] : List (List Value)) ++ css3) l7:=by rw [(apd_some hl7).1]; exact All2.app hq6 hA4.2
 refine SK.wi (appQK (t:=135) (ty:=135) (bytes:=24) (c:=([] : List (List Value))) (c':=css3) (l:=([] : List (List api_Span))) (l':=p0) (fun ad8 cap9=>[(7,sv ad8 l7 cap9)]) 0 hF hS rfl (by kernel_rfl) ⟨by kernel_rfl⟩ (by kernel_rfl) (hA4.at (hS.frz (i:=1) rfl hlow)) (ArrQ.one hA4.2 Rp132.one) hl7 (fun _ _=>⟨by kernel_rfl⟩) fun ad8 cap9 w a hF hS=>?_)
 refine rn 1 4 [(2,sv ad8 l7 cap9)] hF fun a hF=>?_
 refine wfn rfl ?_
 refine wpIn_ret (fn_ret [.tmp 2] [sv ad8 l7 cap9] hF rfl ⟨rfl,trivial⟩ ?_)
 have hr_:=Option.some.inj h
 subst hr_
 exact ⟨μ,_,_,_,hext,rfl,a0,St.pick [1,0] (by decide) hS⟩
theorem slices_Clone_fold_speeds_fold_speeds_okN (res : (List (List api_Span))) (h : ([] : List (List api_Span)) = res) (μ : Frz) (w0 : World) (hm : FrzAt μ w0) {cap2 : Nat} : Calls Try.prog 119 #[.slice none 0 cap2] w0 (fun e w=>∃ (ν_ : Frz) (zad0 : Option Addr) (zcap0 : Nat) (zcss0 : List (List Value)),μ.ext w0.heap.size ν_∧e = .returned (sv zad0 res zcap0)∧All2 (Rp132 ν_) zcss0 res∧St w0 [fz w0 ν_,arr 132 1 (fN 1) zad0 res.length zcap0 zcss0] w):=by
 obtain ⟨hlow,hS⟩:=hm.init
 have hext:=Frz.ext_refl w0.heap.size μ
 refine fn_enterW Try.func119 rfl 8 [(0,.slice none 0 cap2)] rfl rfl (by kernel_rfl) fun a w hw hF=>?_
 replace hS : St w0 [fz w0 μ] w:=by rw [hw]; exact hS
 clear hw
 refine esr ?_
 refine rn 1 1 [(0,.slice none 0 cap2)] hF fun a hF=>?_
 refine wfn rfl ?_
 refine eseq ?_
 refine esr ?_
 refine rn 2 2 [(0,.slice none 0 cap2),(4,.bool true)] hF fun a hF=>?_
 refine wfn rfl ?_
 refine wpIn_cond_true (hF.get rfl) ?_
 refine esr ?_
 refine rn 1 1 [(2,.slice none 0 0)] hF fun a hF=>?_
 refine wfn rfl ?_
 refine wpIn_ret (ret_then <| fn_ret [.tmp 2] [.slice none 0 0] hF rfl ⟨rfl,trivial⟩ ?_)
 subst h
 replace hS:=hS.nilarr 132 1 (fN 1)
 exact ⟨μ,_,_,_,hext,rfl,All2.nil,St.pick [1,0] (by decide) hS⟩
theorem slices_Clone_fold_speeds_fold_speeds_ok (F : Nat) (p0 : List (List api_Span)) (res : List (List api_Span)) (h : slices_Clone_fold_speeds_fold_speeds F p0 = some res) (μ : Frz) (w0 : World) (hm : FrzAt μ w0) {ad1 : Option Addr} {cap2 : Nat} {css3 : List (List Value)} (hA4 : ArrQ μ 1 Rp132 ad1 cap2 css3 p0) : Calls Try.prog 119 #[sv ad1 p0 cap2] w0 (fun e w=>∃ (ν_ : Frz) (zad0 : Option Addr) (zcap0 : Nat) (zcss0 : List (List Value)),μ.ext w0.heap.size ν_∧e = .returned (sv zad0 res zcap0)∧All2 (Rp132 ν_) zcss0 res∧St w0 [fz w0 ν_,arr 132 1 (fN 1) zad0 res.length zcap0 zcss0] w):=by
 cases ad1 with
 | some a=>exact slices_Clone_fold_speeds_fold_speeds_okS F p0 res h μ w0 hm hA4
 | none =>
  obtain rfl:=hA4.1.none_nil hm
  obtain rfl : p0 = []:=by cases hA4.2; rfl
  have hr : [] = res:=Option.some.inj (show some ([] : List (List api_Span)) = some res from h)
  exact slices_Clone_fold_speeds_fold_speeds_okN res hr μ w0 hm
theorem slices_Equal_fold_speeds_api_Span_ok (F : Nat) (p0 : (List api_Span)) (p1 : (List api_Span)) (res : Bool) (h : slices_Equal_fold_speeds_api_Span F p0 p1 = some res) (μ : Frz) (w0 : World) (hm : FrzAt μ w0) {ad1 : Option Addr} {cap2 : Nat} {ad4 : Option Addr} {cap5 : Nat} (hA3 : ArrM μ 2 api_Span.cells ad1 cap2 p0) (hA6 : ArrM μ 2 api_Span.cells ad4 cap5 p1) : Calls Try.prog 106 #[sv ad1 p0 cap2,sv ad4 p1 cap5] w0 (fun e w=>e = .returned (.bool res)∧Ext w0 w):=by
 obtain ⟨hlow,hS⟩:=hm.init
 have hext:=Frz.ext_refl w0.heap.size μ
 rw [slices_Equal_fold_speeds_api_Span] at h
 refine fn_enterW Try.func106 rfl 26 [(0,sv ad1 p0 cap2),(1,sv ad4 p1 cap5)] rfl rfl (by kernel_rfl) fun a w hw hF=>?_
 replace hS : St w0 [fz w0 μ] w:=by rw [hw]; exact hS
 clear hw
 refine esr ?_
 refine rn 1 1 [(0,sv ad1 p0 cap2),(1,sv ad4 p1 cap5)] hF fun a hF=>?_
 refine wfn rfl ?_
 refine eseq ?_
 refine esr ?_
 refine rn 5 5 [(0,sv ad1 p0 cap2),(1,sv ad4 p1 cap5),(10,.bool ((ln p0) != (ln p1)))] hF fun a hF=>?_
 refine wfn rfl ?_
 refine econd hF rfl (fun hc=>?_) (fun hc=>?_)
 ·replace h:=bif_t h hc
  refine esr ?_
  refine rn 1 1 [(4,.bool false)] hF fun a hF=>?_
  refine wfn rfl ?_
  refine wpIn_ret (ret_then <| fn_ret [.tmp 4] [.bool false] hF rfl ⟨rfl,trivial⟩ ?_)
  have hr_:=Option.some.inj h
  subst hr_
  exact ⟨rfl,hS.ext⟩
 ·replace h:=bif_f h hc
  refine wpIn_skip (norm_then ?_)
  refine ecut (fun a w=>Fr 26 [] [] a∧St w0 [fz w0 μ] w∧slices_Equal_fold_speeds_api_Span_K1 = some res) ?_ ?_
  ·skip
   refine esr ?_
   refine rn 3 3 [(0,sv ad1 p0 cap2),(1,sv ad4 p1 cap5),(12,iv (ln p0)),(13,iv 0)] hF fun a hF=>?_
   refine wfn rfl ?_
   refine wpIn_block ?_
   refine eloop (fun n_ a w=>∃ (a0 : Int),Fr 26 [] [(0,sv ad1 p0 cap2),(1,sv ad4 p1 cap5),(12,iv (ln p0)),(13,iv a0)] a∧St w0 [fz w0 μ] w∧slices_Equal_fold_speeds_api_Span_L2 p0 p1 n_ a0 = some res) F ⟨0,hF.sub (by kernel_rfl),St.pick [0] (by decide) hS,h⟩ ?_
   rintro nk2 a w ⟨a0,hF,hS,h⟩
   rcases nk2 with _ | nk2
   ·cases (show (none : Option Bool) = some res from h)
   obtain ⟨k2,hk2⟩ : ∃ k,k = slices_Equal_fold_speeds_api_Span_L2 p0 p1 nk2:=⟨_,rfl⟩
   replace h : slices_Equal_fold_speeds_api_Span_B2 p0 p1 k2 a0 = some res:=by rw [hk2]; exact h
   rw [slices_Equal_fold_speeds_api_Span_B2] at h
   refine esr ?_
   refine rn 1 1 [(0,sv ad1 p0 cap2),(1,sv ad4 p1 cap5),(12,iv (ln p0)),(13,iv a0),(14,.bool (decide (a0 < (ln p0))))] hF fun a hF=>?_
   refine wfn rfl ?_
   refine eseq ?_
   refine econd hF rfl (fun hc=>?_) (fun hc=>?_)
   ·replace h:=bif_t h hc
    refine wpIn_skip (norm_then ?_)
    refine eseq ?_
    refine wpIn_block ?_
    refine esr ?_
    refine rn 2 2 [(0,sv ad1 p0 cap2),(1,sv ad4 p1 cap5),(5,iv a0),(12,iv (ln p0)),(13,iv a0)] hF fun a hF=>?_
    refine wfn rfl ?_
    refine eseq ?_
    replace h:=bindS h
    obtain ⟨a1,a4,h⟩:=h
    replace h:=bindS h
    obtain ⟨a2,a5,h⟩:=h
    refine runD (obs:=[.run [] (Instr.indexAt 132 (sv ad1 p0 cap2) (iv a0)) (.pointer (some (slAddr ad1 a0 2))),.run [] (Instr.loadAt 25 (.pointer (some (slAddr ad1 a0 2)))) (.agg #[iv a1.Lo,iv a1.Hi]),.run [] (Instr.indexAt 132 (sv ad4 p1 cap5) (iv a0)) (.pointer (some (slAddr ad4 a0 2))),.run [] (Instr.loadAt 25 (.pointer (some (slAddr ad4 a0 2)))) (.agg #[iv a2.Lo,iv a2.Hi]),.run [] (eqS .neq 25 #[iv a1.Lo,iv a1.Hi] #[iv a2.Lo,iv a2.Hi]) (.bool (!(((a1.Lo : Int) == a2.Lo) && (((a1.Hi : Int) == a2.Hi) && true))))]) 9 [(0,sv ad1 p0 cap2),(1,sv ad4 p1 cap5),(12,iv (ln p0)),(13,iv a0),(24,.bool (!(((a1.Lo : Int) == a2.Lo) && (((a1.Hi : Int) == a2.Hi) && true))))] (by kernel_rfl) hF (by kernel_rfl) (ocons (obIdxQ (hA3 _ (hS.frz (i:=0) rfl hlow)) (by kernel_rfl) (fun _=>a4)) (ocons (obElNQ (m:=2) (i:=a0) (us:=[iv a1.Lo,iv a1.Hi]) 0 api_Span.cells_len (fun _ hd=>(hA3 _ ((hS.later hd).frz (i:=0) rfl hlow))) (by kernel_rfl) (fun _=>a4) ⟨rfl,rfl⟩) (ocons (obIdxQ (hA6 _ (hS.frz (i:=0) rfl hlow)) (by kernel_rfl) (fun _=>a5)) (ocons (obElNQ (m:=2) (i:=a0) (us:=[iv a2.Lo,iv a2.Hi]) 0 api_Span.cells_len (fun _ hd=>(hA6 _ ((hS.later hd).frz (i:=0) rfl hlow))) (by kernel_rfl) (fun _=>a5) ⟨rfl,rfl⟩) (ocons (obNeC (by kernel_rfl) (by kernel_rfl)) onil))))) ⟨by kernel_rfl⟩ fun a w hF hx=>?_
    replace hS:=hS.later hx
    refine wfn rfl ?_
    refine econd hF rfl (fun hc=>?_) (fun hc=>?_)
    ·replace h:=bif_t h hc
     refine esr ?_
     refine rn 1 1 [(4,.bool false)] hF fun a hF=>?_
     refine wfn rfl ?_
     refine wpIn_ret (ret_block <| ret_then <| ret_then <| ret_block <| ret_then <| fn_ret [.tmp 4] [.bool false] hF rfl ⟨rfl,trivial⟩ ?_)
     have hr_:=Option.some.inj h
     subst hr_
     exact ⟨rfl,hS.ext⟩
    ·replace h:=bif_f h hc
     refine wpIn_skip (norm_block <| norm_then <| ?_)
     refine WI.region ?_
     replace h:=bindS h
     obtain ⟨a3,a6,h⟩:=h
     refine rno 2 [.run [] (binOp .add 3 (iv a0) (iv 1)) (iv a3)] 2 [(0,sv ad1 p0 cap2),(1,sv ad4 p1 cap5),(12,iv (ln p0)),(13,iv a3)] hF (ocons (obAddC (fun _=>a6)) onil) fun a hF=>?_
     refine wfn rfl ?_
     rw [hk2] at h
     exact ⟨nk2,Nat.lt_succ_self _,a3,hF.sub (by kernel_rfl),St.pick [0] (by decide) hS,h⟩
   ·replace h:=bif_f h hc
    refine wpIn_exit (exit_then <| exit_then <| exit_hit <| norm_then ?_)
    exact ⟨hF.sub (by kernel_rfl),St.pick [0] (by decide) hS,h⟩
  rintro a w ⟨hF,hS,h⟩
  rw [slices_Equal_fold_speeds_api_Span_K1] at h
  refine esr ?_
  refine rn 1 1 [(4,.bool true)] hF fun a hF=>?_
  refine wfn rfl ?_
  refine wpIn_ret (fn_ret [.tmp 4] [.bool true] hF rfl ⟨rfl,trivial⟩ ?_)
  have hr_:=Option.some.inj h
  subst hr_
  exact ⟨rfl,hS.ext⟩
theorem law03_made_ok (F : Nat) (p0 : (List (List Int))) (res : (List (List api_Span))) (h : law03_made F p0 = some res) (μ : Frz) (w0 : World) (hm : FrzAt μ w0) {ad1 : Option Addr} {cap2 : Nat} {css3 : List (List Value)} (hA4 : ArrQ μ 1 Rp91 ad1 cap2 css3 p0) : Calls Try.prog 39 #[sv ad1 p0 cap2] w0 (fun e w=>∃ (ν_ : Frz) (zad0 : Option Addr) (zcap0 : Nat) (zcss0 : List (List Value)),μ.ext w0.heap.size ν_∧e = .returned (sv zad0 res zcap0)∧All2 (Rp43 ν_) zcss0 res∧St w0 [fz w0 ν_,arr 43 1 (fN 1) zad0 res.length zcap0 zcss0] w):=by
 obtain ⟨hlow,hS⟩:=hm.init
 have hext:=Frz.ext_refl w0.heap.size μ
 rw [law03_made] at h
 refine fn_enterW Try.func39 rfl 65 [(0,sv ad1 p0 cap2)] rfl rfl (by kernel_rfl) fun a w hw hF=>?_
 replace hS : St w0 [fz w0 μ] w:=by rw [hw]; exact hS
 clear hw
 refine esr ?_
 refine rn 1 1 [(0,sv ad1 p0 cap2)] hF fun a hF=>?_
 refine wfn rfl ?_
 refine esr ?_
 refine rn 1 1 [(0,sv ad1 p0 cap2),(3,.slice none 0 0)] hF fun a hF=>?_
 refine wfn rfl ?_
 have aJ:=Frz.le_refl μ
 refine ecut (fun a w=>∃ (aM : (List (List api_Span))) (ν1801 : Frz) (aS : Option Addr) (aV : Nat) (bA : List (List Value)),Fr 65 [] [(3,sv aS aM aV)] a∧St w0 [arr 43 1 (fN 1) aS aM.length aV bA,fz w0 ν1801] w∧(All2 (Rp43 ν1801) bA aM)∧(μ.le ν1801)∧(μ.ext w0.heap.size ν1801)∧(FrzIn w0 ν1801)∧law03_made_K1 aM = some res) ?_ ?_
 ·skip
  refine esr ?_
  refine rn 3 3 [(3,.slice none 0 0),(10,sv ad1 p0 cap2),(11,iv (ln p0)),(12,iv 0)] hF fun a hF=>?_
  refine wfn rfl ?_
  refine wpIn_block ?_
  have bH:=Frz.le_refl μ
  replace hS:=hS.nilarr 43 1 (fN 1)
  refine eloop (fun n_ a w=>∃ (a2 : Int) (a0 : (List (List api_Span))) (ν3003 : Frz) (a3 : Option Addr) (a4 : Nat) (aH : List (List Value)),Fr 65 [] [(3,sv a3 a0 a4),(10,sv ad1 p0 cap2),(11,iv (ln p0)),(12,iv a2)] a∧St w0 [arr 43 1 (fN 1) a3 a0.length a4 aH,fz w0 ν3003] w∧(All2 (Rp43 ν3003) aH a0)∧(μ.le ν3003)∧(μ.ext w0.heap.size ν3003)∧(FrzIn w0 ν3003)∧law03_made_L2 F p0 n_ a2 a0 = some res) F ⟨0,[],μ,none,0,[],hF.sub (by kernel_rfl),St.pick [0,1] (by decide) hS,All2.nil,bH,hext,hlow,h⟩ ?_
  clear bH
  rintro nk2 a w ⟨a2,a0,ν3003,a3,a4,aH,hF,hS,aQ,aK,hext,hlow,h⟩
  rcases nk2 with _ | nk2
  ·cases (show (none : Option (List (List api_Span))) = some res from h)
  replace hA4:=hA4.mono Rp91.mono aK
  replace aJ:=Frz.le_trans aJ aK
  obtain ⟨k2,hk2⟩ : ∃ k,k = law03_made_L2 F p0 nk2:=⟨_,rfl⟩
  replace h : law03_made_B2 F p0 k2 a2 a0 = some res:=by rw [hk2]; exact h
  rw [law03_made_B2] at h
  refine esr ?_
  refine rn 1 1 [(3,sv a3 a0 a4),(10,sv ad1 p0 cap2),(11,iv (ln p0)),(12,iv a2),(13,.bool (decide (a2 < (ln p0))))] hF fun a hF=>?_
  refine wfn rfl ?_
  refine eseq ?_
  refine econd hF rfl (fun hc=>?_) (fun hc=>?_)
  ·replace h:=bif_t h hc
   refine wpIn_skip (norm_then ?_)
   have b6:=Frz.le_refl ν3003
   refine ecut (fun a w=>∃ (aN : (List (List api_Span))) (ν3304 : Frz) (aT : Option Addr) (aW : Nat) (b4 : List (List Value)),Fr 65 [] [(3,sv aT aN aW),(10,sv ad1 p0 cap2),(11,iv (ln p0)),(12,iv a2)] a∧St w0 [arr 43 1 (fN 1) aT aN.length aW b4,fz w0 ν3304] w∧(All2 (Rp43 ν3304) b4 aN)∧(ν3003.le ν3304)∧(μ.ext w0.heap.size ν3304)∧(FrzIn w0 ν3304)∧law03_made_K3 a2 k2 aN = some res) ?_ ?_
   ·skip
    refine wpIn_block ?_
    refine esr ?_
    replace h:=bindS h
    obtain ⟨a1,c1,h⟩:=h
    obtain ⟨cI,bG,bU⟩:=getI_all2 hA4.2 c1
    obtain ⟨a7,a9,rfl,b5⟩:=bU
    refine rno 3 [.run [] (Instr.indexAt 82 (sv ad1 p0 cap2) (iv a2)) (.pointer (some (slAddr ad1 a2 1))),.run [] (Instr.loadAt 91 (.pointer (some (slAddr ad1 a2 1)))) (sv a7 a1 a9)] 3 [(3,sv a3 a0 a4),(5,sv a7 a1 a9),(10,sv ad1 p0 cap2),(11,iv (ln p0)),(12,iv a2)] hF (ocons (obIdxQ (hA4.at (hS.frz (i:=1) rfl hlow)) (by kernel_rfl) (fun _=>bG)) (ocons (obElQ (i:=a2) 0 (fN_len 1) (fun _ hd=>(hA4.at ((hS.at_ hd).frz (i:=1) rfl hlow))) (by kernel_rfl) (fun _=>bG) rfl) onil)) fun a hF=>?_
    refine wfn rfl ?_
    refine esr ?_
    refine rn 1 1 [(3,sv a3 a0 a4),(5,sv a7 a1 a9),(6,.slice none 0 0),(10,sv ad1 p0 cap2),(11,iv (ln p0)),(12,iv a2)] hF fun a hF=>?_
    refine wfn rfl ?_
    refine esr ?_
    refine rn 1 1 [(3,sv a3 a0 a4),(5,sv a7 a1 a9),(6,.slice none 0 0),(7,iv 0),(10,sv ad1 p0 cap2),(11,iv (ln p0)),(12,iv a2)] hF fun a hF=>?_
    refine wfn rfl ?_
    refine ecut (fun a w=>∃ (aB : (List api_Span)) (aE : Option Addr) (aF : Nat),Fr 65 [] [(3,sv a3 a0 a4),(6,sv aE aB aF),(10,sv ad1 p0 cap2),(11,iv (ln p0)),(12,iv a2)] a∧St w0 [arr 25 2 api_Span.cells aE aB.length aF aB,arr 43 1 (fN 1) a3 a0.length a4 aH,fz w0 ν3003] w∧law03_made_K4 a2 a0 k2 aB = some res) ?_ ?_
    ·skip
     refine esr ?_
     refine rn 3 3 [(3,sv a3 a0 a4),(6,.slice none 0 0),(7,iv 0),(10,sv ad1 p0 cap2),(11,iv (ln p0)),(12,iv a2),(16,sv a7 a1 a9),(17,iv (ln a1)),(18,iv 0)] hF fun a hF=>?_
     refine wfn rfl ?_
     refine wpIn_block ?_
     replace hS:=hS.nilarr 25 2 api_Span.cells
     refine eloop (fun n_ a w=>∃ (a5 : Int) (a6 : (List api_Span)) (aG : Int) (a8 : Option Addr) (aA : Nat),Fr 65 [] [(3,sv a3 a0 a4),(6,sv a8 a6 aA),(7,iv aG),(10,sv ad1 p0 cap2),(11,iv (ln p0)),(12,iv a2),(16,sv a7 a1 a9),(17,iv (ln a1)),(18,iv a5)] a∧St w0 [arr 25 2 api_Span.cells a8 a6.length aA a6,arr 43 1 (fN 1) a3 a0.length a4 aH,fz w0 ν3003] w∧law03_made_L5 a2 a0 k2 a1 n_ a5 a6 aG = some res) F ⟨0,[],0,none,0,hF.sub (by kernel_rfl),St.pick [0,1,2] (by decide) hS,h⟩ ?_
     rintro nk5 a w ⟨a5,a6,aG,a8,aA,hF,hS,h⟩
     rcases nk5 with _ | nk5
     ·cases (show (none : Option (List (List api_Span))) = some res from h)
     obtain ⟨k5,hk5⟩ : ∃ k,k = law03_made_L5 a2 a0 k2 a1 nk5:=⟨_,rfl⟩
     replace h : law03_made_B5 a2 a0 k2 a1 k5 a5 a6 aG = some res:=by rw [hk5]; exact h
     rw [law03_made_B5] at h
     refine esr ?_
     refine rn 1 1 [(3,sv a3 a0 a4),(6,sv a8 a6 aA),(7,iv aG),(10,sv ad1 p0 cap2),(11,iv (ln p0)),(12,iv a2),(16,sv a7 a1 a9),(17,iv (ln a1)),(18,iv a5),(19,.bool (decide (a5 < (ln a1))))] hF fun a hF=>?_
     refine wfn rfl ?_
     refine eseq ?_
     refine econd hF rfl (fun hc=>?_) (fun hc=>?_)
     ·replace h:=bif_t h hc
      refine wpIn_skip (norm_then ?_)
      refine ecut (fun a w=>∃ (aO : (List api_Span)) (aY : Int) (aU : Option Addr) (aX : Nat),Fr 65 [] [(3,sv a3 a0 a4),(6,sv aU aO aX),(7,iv aY),(10,sv ad1 p0 cap2),(11,iv (ln p0)),(12,iv a2),(16,sv a7 a1 a9),(17,iv (ln a1)),(18,iv a5)] a∧St w0 [arr 25 2 api_Span.cells aU aO.length aX aO,arr 43 1 (fN 1) a3 a0.length a4 aH,fz w0 ν3003] w∧law03_made_K6 a5 k5 aO aY = some res) ?_ ?_
      ·skip
       refine wpIn_block ?_
       refine esr ?_
       replace h:=bindS h
       obtain ⟨aP,bK,h⟩:=h
       refine rno 5 [.run [] (Instr.indexAt 91 (sv a7 a1 a9) (iv a5)) (.pointer (some (slAddr a7 a5 1))),.run [] (Instr.loadAt 5 (.pointer (some (slAddr a7 a5 1)))) (.int .u8 aP)] 5 [(3,sv a3 a0 a4),(6,sv a8 a6 aA),(7,iv aG),(8,iv a5),(9,.int .u8 aP),(10,sv ad1 p0 cap2),(11,iv (ln p0)),(12,iv a2),(16,sv a7 a1 a9),(17,iv (ln a1)),(18,iv a5)] hF (ocons (obIdxQ (b5 _ (hS.frz (i:=2) rfl hlow)) (by kernel_rfl) (fun _=>bK)) (ocons (obElQ (i:=a5) 0 (fK_len .u8) (fun _ hd=>(b5 _ ((hS.at_ hd).frz (i:=2) rfl hlow))) (by kernel_rfl) (fun _=>bK) rfl) onil)) fun a hF=>?_
       refine wfn rfl ?_
       refine eseq ?_
       refine esr ?_
       refine rn 2 2 [(3,sv a3 a0 a4),(6,sv a8 a6 aA),(7,iv aG),(8,iv a5),(9,.int .u8 aP),(10,sv ad1 p0 cap2),(11,iv (ln p0)),(12,iv a2),(16,sv a7 a1 a9),(17,iv (ln a1)),(18,iv a5),(24,.bool (decide (a5 ≥ 6)))] hF fun a hF=>?_
       refine wfn rfl ?_
       refine econd hF rfl (fun hc=>?_) (fun hc=>?_)
       ·replace h:=bif_t h hc
        refine wpIn_exit (exit_then <| exit_miss rfl <| exit_then <| exit_then <| exit_hit <| norm_then ?_)
        exact ⟨a6,a8,aA,hF.sub (by kernel_rfl),St.pick [0,1,2] (by decide) hS,h⟩
       ·replace h:=bif_f h hc
        refine wpIn_skip (norm_then ?_)
        refine esr ?_
        replace h:=bindS h
        obtain ⟨bN,c4,h⟩:=h
        refine rno 3 [.run [] (binOp .rem 3 (iv a5) (iv 2)) (iv bN)] 3 [(3,sv a3 a0 a4),(6,sv a8 a6 aA),(7,iv aG),(9,.int .u8 aP),(10,sv ad1 p0 cap2),(11,iv (ln p0)),(12,iv a2),(16,sv a7 a1 a9),(17,iv (ln a1)),(18,iv a5),(27,.bool (bN == 0))] hF (ocons (obRemC (fun _=>c4)) onil) fun a hF=>?_
        refine wfn rfl ?_
        refine econd hF rfl (fun hc=>?_) (fun hc=>?_)
        ·replace h:=bif_t h hc
         refine esr ?_
         replace h:=bindS h
         obtain ⟨bO,c5,h⟩:=h
         replace h:=bindS h
         obtain ⟨bP,c6,h⟩:=h
         replace h:=bindS h
         obtain ⟨bQ,c7,h⟩:=h
         replace h:=bindS h
         obtain ⟨aI,c8,h⟩:=h
         refine rno 7 [.run [] (convert 5 3 (.int .u8 aP)) (iv bO),.run [] (binOp .rem 3 (iv bO) (iv 12)) (iv bP),.run [] (binOp .add 3 (iv 1) (iv bP)) (iv bQ),.run [] (binOp .add 3 (iv aG) (iv bQ)) (iv aI)] 7 [(3,sv a3 a0 a4),(6,sv a8 a6 aA),(7,iv aI),(10,sv ad1 p0 cap2),(11,iv (ln p0)),(12,iv a2),(16,sv a7 a1 a9),(17,iv (ln a1)),(18,iv a5)] hF (ocons (obConvC (by kernel_rfl) (by kernel_rfl) (fun _=>c5)) (ocons (obRemC (fun _=>c6)) (ocons (obAddC (fun _=>c7)) (ocons (obAddC (fun _=>c8)) onil)))) fun a hF=>?_
         refine wfn rfl ?_
         refine WI.region ?_
         replace h:=bindS h
         obtain ⟨aC,c9,h⟩:=h
         replace h:=bindS h
         obtain ⟨aD,cA,h⟩:=h
         refine rx 6 [.run [] (binOp .sub 3 (iv aI) (iv 20)) (iv aC),.run [] (binOp .sub 3 (iv aI) (iv 20)) (iv aD),.call [] 46 #[iv aC,iv aD] (.agg #[iv ((law03_span aC aD).Lo),iv ((law03_span aC aD).Hi)])] 6 [(3,sv a3 a0 a4),(6,sv a8 a6 aA),(7,iv aI),(10,sv ad1 p0 cap2),(11,iv (ln p0)),(12,iv a2),(16,sv a7 a1 a9),(17,iv (ln a1)),(18,iv a5),(34,sv a8 a6 aA),(39,.agg #[iv ((law03_span aC aD).Lo),iv ((law03_span aC aD).Hi)])] hF (ocons (obSubC (fun _=>c9)) (ocons (obSubC (fun _=>cA)) (ocons (show Ob.ok _ Ext _ _ from fun hk w2 hd=>law03_span_ok aC aD _ rfl _ w2 (memOf_at w2)) onil))) fun a w hF hx=>?_
         replace hS:=hS.later hx
         refine SK.wi (litK (e:=25) (sz:=2) (f:=api_Span.cells) (t:=43) (len:=1) (fun bF=>[(3,sv a3 a0 a4),(6,sv a8 a6 aA),(7,iv aI),(10,sv ad1 p0 cap2),(11,iv (ln p0)),(12,iv a2),(16,sv a7 a1 a9),(17,iv (ln a1)),(18,iv a5),(34,sv a8 a6 aA),(40,sb bF 1)]) #[(0,.agg #[iv ((law03_span aC aD).Lo),iv ((law03_span aC aD).Hi)])] #[iv ((law03_span aC aD).Lo),iv ((law03_span aC aD).Hi)] ([(law03_span aC aD)]) hF hS (by kernel_rfl) ⟨by kernel_rfl⟩ (by kernel_rfl) api_Span.cells_len rfl rfl (by kernel_rfl) (fun _=>⟨by kernel_rfl⟩) fun bF w a hF hS=>?_)
         replace h:=bindS h
         obtain ⟨bB,bV,h⟩:=h
         refine SK.wi (appK (t:=43) (ty:=43) (bytes:=16) (l:=a6) (l':=([(law03_span aC aD)])) (fun b1 b3=>[(3,sv a3 a0 a4),(6,sv a8 a6 aA),(7,iv aI),(10,sv ad1 p0 cap2),(11,iv (ln p0)),(12,iv a2),(16,sv a7 a1 a9),(17,iv (ln a1)),(18,iv a5),(41,sv b1 bB b3)]) 1 hF hS rfl (by kernel_rfl) ⟨by kernel_rfl⟩ (by kernel_rfl) (hS.arr (i:=0) rfl) (fun _ _=>rfl) bV (fun _ _=>⟨by kernel_rfl⟩) fun b1 b3 w a hF hS=>?_)
         refine rn 1 9 [(3,sv a3 a0 a4),(6,sv b1 bB b3),(7,iv aI),(10,sv ad1 p0 cap2),(11,iv (ln p0)),(12,iv a2),(16,sv a7 a1 a9),(17,iv (ln a1)),(18,iv a5)] hF fun a hF=>?_
         refine WI.fin rfl (norm_block <| norm_then <| ?_)
         exact ⟨bB,aI,b1,b3,hF.sub (by kernel_rfl),St.pick [1,2,3] (by decide) hS,h⟩
        ·replace h:=bif_f h hc
         refine esr ?_
         refine rn 3 3 [(3,sv a3 a0 a4),(6,sv a8 a6 aA),(7,iv aG),(9,.int .u8 aP),(10,sv ad1 p0 cap2),(11,iv (ln p0)),(12,iv a2),(16,sv a7 a1 a9),(17,iv (ln a1)),(18,iv a5),(44,.bool (decide ((ln a6) > 0)))] hF fun a hF=>?_
         refine wfn rfl ?_
         refine econd hF rfl (fun hc=>?_) (fun hc=>?_)
         ·replace h:=bif_t h hc
          refine esr ?_
          replace h:=bindS h
          obtain ⟨bR,cB,h⟩:=h
          replace h:=bindS h
          obtain ⟨bS,cC,h⟩:=h
          replace h:=bindS h
          obtain ⟨aR,cD,h⟩:=h
          refine rno 6 [.run [] (convert 5 3 (.int .u8 aP)) (iv bR),.run [] (binOp .rem 3 (iv bR) (iv 8)) (iv bS),.run [] (binOp .add 3 (iv aG) (iv bS)) (iv aR)] 6 [(3,sv a3 a0 a4),(6,sv a8 a6 aA),(7,iv aR),(10,sv ad1 p0 cap2),(11,iv (ln p0)),(12,iv a2),(16,sv a7 a1 a9),(17,iv (ln a1)),(18,iv a5)] hF (ocons (obConvC (by kernel_rfl) (by kernel_rfl) (fun _=>cB)) (ocons (obRemC (fun _=>cC)) (ocons (obAddC (fun _=>cD)) onil))) fun a hF=>?_
          refine wfn rfl ?_
          refine WI.region ?_
          replace h:=bindS h
          obtain ⟨aZ,cE,h⟩:=h
          replace h:=bindS h
          obtain ⟨b9,cF,h⟩:=h
          replace h:=bindS h
          obtain ⟨bM,bL,h⟩:=h
          refine rno 8 [.run [] (binOp .sub 3 (iv (ln a6)) (iv 1)) (iv aZ),.run [] (binOp .sub 3 (iv aR) (iv 20)) (iv b9),.run [] (Instr.indexAt 43 (sv a8 a6 aA) (iv aZ)) (.pointer (some (slAddr a8 aZ 2)))] 8 [(3,sv a3 a0 a4),(6,sv a8 a6 aA),(7,iv aR),(10,sv ad1 p0 cap2),(11,iv (ln p0)),(12,iv a2),(16,sv a7 a1 a9),(17,iv (ln a1)),(18,iv a5),(55,iv b9),(57,.pointer (some ((slAddr a8 aZ 2).add 1)))] hF (ocons (obSubC (fun _=>cE)) (ocons (obSubC (fun _=>cF)) (ocons (obIdxQ (hS.arr (i:=0) rfl) (by kernel_rfl) (fun _=>bL)) onil))) fun a hF=>?_
          replace h:=bindS h
          obtain ⟨cH,bW,h⟩:=h
          refine SK.wi (setK (j:=aZ) (t:=3) [(3,sv a3 a0 a4),(6,sv a8 a6 aA),(7,iv aR),(10,sv ad1 p0 cap2),(11,iv (ln p0)),(12,iv a2),(16,sv a7 a1 a9),(17,iv (ln a1)),(18,iv a5)] 0 1 bM (api_Span.mk bM.Lo b9) (iv b9) hF hS rfl (by kernel_rfl) ⟨by kernel_rfl⟩ api_Span.cells_len bL rfl (by kernel_rfl) (by kernel_rfl) (by kernel_rfl) bW ⟨by kernel_rfl⟩ fun w a hF hl hS=>?_)
          simp only [sv,ln,hl] at hF hS
          refine WI.fin rfl (norm_block <| norm_then <| ?_)
          exact ⟨cH,aR,a8,aA,hF.sub (by kernel_rfl),St.pick [0,1,2] (by decide) hS,h⟩
         ·replace h:=bif_f h hc
          refine wpIn_skip (norm_block <| norm_then <| ?_)
          exact ⟨a6,aG,a8,aA,hF.sub (by kernel_rfl),St.pick [0,1,2] (by decide) hS,h⟩
      rintro a w ⟨aO,aY,aU,aX,hF,hS,h⟩
      rw [law03_made_K6] at h
      refine WI.region ?_
      replace h:=bindS h
      obtain ⟨bD,c3,h⟩:=h
      refine rno 2 [.run [] (binOp .add 3 (iv a5) (iv 1)) (iv bD)] 2 [(3,sv a3 a0 a4),(6,sv aU aO aX),(7,iv aY),(10,sv ad1 p0 cap2),(11,iv (ln p0)),(12,iv a2),(16,sv a7 a1 a9),(17,iv (ln a1)),(18,iv bD)] hF (ocons (obAddC (fun _=>c3)) onil) fun a hF=>?_
      refine wfn rfl ?_
      rw [hk5] at h
      exact ⟨nk5,Nat.lt_succ_self _,bD,aO,aY,aU,aX,hF.sub (by kernel_rfl),St.pick [0,1,2] (by decide) hS,h⟩
     ·replace h:=bif_f h hc
      refine wpIn_exit (exit_then <| exit_then <| exit_hit <| norm_then ?_)
      exact ⟨a6,a8,aA,hF.sub (by kernel_rfl),St.pick [0,1,2] (by decide) hS,h⟩
    rintro a w ⟨aB,aE,aF,hF,hS,h⟩
    rw [law03_made_K4] at h
    refine WI.region ?_
    refine rn 2 2 [(3,sv a3 a0 a4),(10,sv ad1 p0 cap2),(11,iv (ln p0)),(12,iv a2),(59,sv a3 a0 a4),(60,sv aE aB aF)] hF fun a hF=>?_
    obtain ⟨ν3459,aL,hlow,hS,cG⟩:=hS.freeze (i:=2) (j:=0) rfl rfl (by decide) hlow
    replace hA4:=hA4.mono Rp91.mono aL.1
    replace aQ:=All2.mono Rp43.mono aL.1 aQ
    replace b5:=b5.mono aL.1
    replace aJ:=Frz.le_trans aJ aL.1
    replace aK:=Frz.le_trans aK aL.1
    replace b6:=Frz.le_trans b6 aL.1
    replace hext:=Frz.ext_trans hext aL
    replace hS : St w0 [arr 43 1 (fN 1) a3 a0.length a4 aH,fz w0 ν3459] w:=hS
    have bT:=ArrM.of_arr cG
    have bJ : All2 (Rp43 ν3459) ([[sv aE aB aF]] : List (List Value)) [aB]:=(All2.cons ⟨aE,aF,rfl,bT⟩ All2.nil)
    refine SK.wi (litQK (e:=43) (sz:=1) (f:=fN 1) (t:=48) (len:=1) (fun bE=>[(3,sv a3 a0 a4),(10,sv ad1 p0 cap2),(11,iv (ln p0)),(12,iv a2),(59,sv a3 a0 a4),(61,sb bE 1)]) #[(0,sv aE aB aF)] #[sv aE aB aF] ([[sv aE aB aF]] : List (List Value)) ([aB]) hF hS (by kernel_rfl) ⟨by kernel_rfl⟩ (by kernel_rfl) (fN_len 1) rfl rfl rfl (by kernel_rfl) (fun _=>⟨by kernel_rfl⟩) fun bE w a hF hS=>?_)
    replace h:=bindS h
    obtain ⟨b8,bI,h⟩:=h
    have c0 : All2 (Rp43 ν3459) (aH ++ ([[sv aE aB aF]] : List (List Value))) b8:=by rw [(apd_some bI).1]; exact All2.app aQ bJ
    refine SK.wi (appQK (t:=48) (ty:=48) (bytes:=24) (c:=aH) (c':=([[sv aE aB aF]] : List (List Value))) (l:=a0) (l':=([aB])) (fun b0 b2=>[(3,sv a3 a0 a4),(10,sv ad1 p0 cap2),(11,iv (ln p0)),(12,iv a2),(62,sv b0 b8 b2)]) 1 hF hS rfl (by kernel_rfl) ⟨by kernel_rfl⟩ (by kernel_rfl) (hS.arr (i:=0) rfl) (ArrQ.one bJ Rp43.one) bI (fun _ _=>⟨by kernel_rfl⟩) fun b0 b2 w a hF hS=>?_)
    refine rn 1 5 [(3,sv b0 b8 b2),(10,sv ad1 p0 cap2),(11,iv (ln p0)),(12,iv a2)] hF fun a hF=>?_
    refine WI.fin rfl (norm_block <| norm_then <| ?_)
    exact ⟨b8,ν3459,b0,b2,(aH ++ ([[sv aE aB aF]] : List (List Value))),hF.sub (by kernel_rfl),St.pick [1,2] (by decide) hS,c0,b6,hext,hlow,h⟩
   clear b6
   rintro a w ⟨aN,ν3304,aT,aW,b4,hF,hS,bZ,b7,hext,hlow,h⟩
   replace hA4:=hA4.mono Rp91.mono b7
   replace aQ:=All2.mono Rp43.mono b7 aQ
   replace aJ:=Frz.le_trans aJ b7
   replace aK:=Frz.le_trans aK b7
   rw [law03_made_K3] at h
   refine WI.region ?_
   replace h:=bindS h
   obtain ⟨bC,c2,h⟩:=h
   refine rno 2 [.run [] (binOp .add 3 (iv a2) (iv 1)) (iv bC)] 2 [(3,sv aT aN aW),(10,sv ad1 p0 cap2),(11,iv (ln p0)),(12,iv bC)] hF (ocons (obAddC (fun _=>c2)) onil) fun a hF=>?_
   refine wfn rfl ?_
   rw [hk2] at h
   exact ⟨nk2,Nat.lt_succ_self _,bC,aN,ν3304,aT,aW,b4,hF.sub (by kernel_rfl),St.pick [0,1] (by decide) hS,bZ,aK,hext,hlow,h⟩
  ·replace h:=bif_f h hc
   refine wpIn_exit (exit_then <| exit_then <| exit_hit <| norm_then ?_)
   exact ⟨a0,ν3003,a3,a4,aH,hF.sub (by kernel_rfl),St.pick [0,1] (by decide) hS,aQ,aJ,hext,hlow,h⟩
 clear aJ
 rintro a w ⟨aM,ν1801,aS,aV,bA,hF,hS,bY,bX,hext,hlow,h⟩
 replace hA4:=hA4.mono Rp91.mono bX
 rw [law03_made_K1] at h
 refine esr ?_
 refine rn 2 2 [(2,sv aS aM aV)] hF fun a hF=>?_
 refine wfn rfl ?_
 refine wpIn_ret (fn_ret [.tmp 2] [sv aS aM aV] hF rfl ⟨rfl,trivial⟩ ?_)
 have hr_:=Option.some.inj h
 subst hr_
 exact ⟨ν1801,_,_,_,hext,rfl,bY,St.pick [1,0] (by decide) hS⟩
end Go.Proofs.Ytbhjgebjojdohaa
