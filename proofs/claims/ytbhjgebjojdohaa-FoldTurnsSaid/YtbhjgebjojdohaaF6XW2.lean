import Derived.Test.YtbhjgebjojdohaaF6XD
import Derived.Test.YtbhjgebjojdohaaProg
import Derived.Test.YtbhjgebjojdohaaF6XW0
import Derived.Test.YtbhjgebjojdohaaF6XW1
import Derived.Test.YtbhjgebjojdohaaF6WkS
namespace Go.Proofs.Ytbhjgebjojdohaa
open Go Go.RowKit Go.Eng
set_option maxRecDepth 10000
set_option maxHeartbeats 4000000
set_option linter.unusedVariables false
set_option linter.unusedSimpArgs false
theorem fold_speeds_united_ok (F : Nat) (p0 : (List api_Span)) (res : (List api_Span)) (h : fold_speeds_united F p0 = some res) (μ : Frz) (w0 : World) (hm : FrzAt μ w0) {ad1 : Option Addr} {cap2 : Nat} (hA3 : ArrM μ 2 api_Span.cells ad1 cap2 p0) : Calls Try.prog 62 #[sv ad1 p0 cap2] w0 (fun e w=>∃ zad0 zcap0,e = .returned (sv zad0 res zcap0)∧St w0 [arr 25 2 api_Span.cells zad0 res.length zcap0 res] w):=by
 obtain ⟨hlow,hS⟩:=hm.init
 have hext:=Frz.ext_refl w0.heap.size μ
 rw [fold_speeds_united] at h
 refine fn_enterW Try.func62 rfl 53 [(0,sv ad1 p0 cap2)] rfl rfl (by kernel_rfl) fun a w hw hF=>?_
 replace hS : St w0 [fz w0 μ] w:=by rw [hw]; exact hS
 clear hw
 refine esr ?_
 refine rn 1 1 [(0,sv ad1 p0 cap2)] hF fun a hF=>?_
 refine wfn rfl ?_
 refine esr ?_
 refine rn 1 1 [(8,sv ad1 p0 cap2)] hF fun a hF=>?_
 replace h:=bindS h
 obtain ⟨y5,hy5,h⟩:=h
 refine SK.wi (callK (f:=99) (args:=#[sv ad1 p0 cap2]) (R:=fun v w2=>∃ ad6 cap7,v = sv ad6 y5 cap7∧St w [arr 25 2 api_Span.cells ad6 y5.length cap7 y5] w2) (fun v4=>[(9,v4)]) hF (by kernel_rfl) ⟨by kernel_rfl⟩ (Calls.mono (slices_Clone_fold_speeds_api_Span_ok F p0 _ hy5 (memOf w) w (memOf_at w) (hA3.mono (FrzAt.le_mem (hS.frz (i:=0) rfl hlow)))) (by rintro e w2 ⟨ad6,cap7,rfl,h⟩; exact ⟨_,rfl,ad6,cap7,rfl,h⟩)) (fun _=>⟨by kernel_rfl⟩) ?_)
 rintro v4 w a ⟨ad6,cap7,rfl,hQ⟩ hF
 replace hS : St w0 [arr 25 2 api_Span.cells ad6 y5.length cap7 y5,fz w0 μ] w:=hS.madeL hQ
 refine rn 1 3 [(3,sv ad6 y5 cap7)] hF fun a hF=>?_
 refine wfn rfl ?_
 refine esr ?_
 refine rn 1 1 [(3,sv ad6 y5 cap7),(10,sv ad6 y5 cap7)] hF fun a hF=>?_
 replace h:=bindS h
 obtain ⟨y9,hy9,h⟩:=h
 refine SK.wi (callK (f:=100) (args:=#[sv ad6 y5 cap7,.func (.func 101) #[] #[]]) (R:=fun v w2=>v = .tuple #[]∧y5.length = y9.length∧St w0 [arr 25 2 api_Span.cells ad6 y9.length cap7 y9,fz w0 μ] w2) (fun v8=>[(3,sv ad6 y5 cap7)]) hF (by kernel_rfl) ⟨by kernel_rfl⟩ (Calls.mono (slices_SortFunc100_ok F y5 _ hy9 hS (i:=0) rfl) (fun e w2 h=>⟨_,h.1,rfl,h.2.1,h.2.2⟩)) (fun _=>⟨by kernel_rfl⟩) ?_)
 rintro v8 w a ⟨rfl,hl,hS⟩ hF
 simp only [sv,ln,hl] at hF hS
 refine wfn rfl ?_
 refine esr ?_
 refine rn 1 1 [(3,sv ad6 y9 cap7),(4,.slice none 0 0)] hF fun a hF=>?_
 refine wfn rfl ?_
 refine ecut (fun a w=>∃ (a6 : (List api_Span)) (a9 : Option Addr) (aB : Nat),Fr 53 [] [(4,sv a9 a6 aB)] a∧St w0 [arr 25 2 api_Span.cells a9 a6.length aB a6,arr 25 2 api_Span.cells ad6 y9.length cap7 y9,fz w0 μ] w∧fold_speeds_united_K1 a6 = some res) ?_ ?_
 ·skip
  refine esr ?_
  refine rn 3 3 [(4,.slice none 0 0),(12,sv ad6 y9 cap7),(13,iv (ln y9)),(14,iv 0)] hF fun a hF=>?_
  refine wfn rfl ?_
  refine wpIn_block ?_
  replace hS:=hS.nilarr 25 2 api_Span.cells
  refine eloop (fun n_ a w=>∃ (a3 : Int) (a0 : (List api_Span)) (a2 : Option Addr) (a4 : Nat),Fr 53 [] [(4,sv a2 a0 a4),(12,sv ad6 y9 cap7),(13,iv (ln y9)),(14,iv a3)] a∧St w0 [arr 25 2 api_Span.cells a2 a0.length a4 a0,arr 25 2 api_Span.cells ad6 y9.length cap7 y9,fz w0 μ] w∧fold_speeds_united_L2 y9 n_ a3 a0 = some res) F ⟨0,[],none,0,hF.sub (by kernel_rfl),St.pick [0,1,2] (by decide) hS,h⟩ ?_
  rintro nk2 a w ⟨a3,a0,a2,a4,hF,hS,h⟩
  rcases nk2 with _ | nk2
  ·cases (show (none : Option (List api_Span)) = some res from h)
  obtain ⟨k2,hk2⟩ : ∃ k,k = fold_speeds_united_L2 y9 nk2:=⟨_,rfl⟩
  replace h : fold_speeds_united_B2 y9 k2 a3 a0 = some res:=by rw [hk2]; exact h
  rw [fold_speeds_united_B2] at h
  refine esr ?_
  refine rn 1 1 [(4,sv a2 a0 a4),(12,sv ad6 y9 cap7),(13,iv (ln y9)),(14,iv a3),(15,.bool (decide (a3 < (ln y9))))] hF fun a hF=>?_
  refine wfn rfl ?_
  refine eseq ?_
  refine econd hF rfl (fun hc=>?_) (fun hc=>?_)
  ·replace h:=bif_t h hc
   refine wpIn_skip (norm_then ?_)
   refine ecut (fun a w=>∃ (a7 : (List api_Span)) (aA : Option Addr) (aC : Nat),Fr 53 [] [(4,sv aA a7 aC),(12,sv ad6 y9 cap7),(13,iv (ln y9)),(14,iv a3)] a∧St w0 [arr 25 2 api_Span.cells aA a7.length aC a7,arr 25 2 api_Span.cells ad6 y9.length cap7 y9,fz w0 μ] w∧fold_speeds_united_K3 a3 k2 a7 = some res) ?_ ?_
   ·skip
    refine wpIn_block ?_
    refine esr ?_
    replace h:=bindS h
    obtain ⟨a1,aL,h⟩:=h
    refine rno 2 [.run [] (Instr.indexAt 132 (sv ad6 y9 cap7) (iv a3)) (.pointer (some (slAddr ad6 a3 2))),.run [] (Instr.loadAt 25 (.pointer (some (slAddr ad6 a3 2)))) (.agg #[iv a1.Lo,iv a1.Hi])] 2 [(4,sv a2 a0 a4),(12,sv ad6 y9 cap7),(13,iv (ln y9)),(14,iv a3),(17,.agg #[iv a1.Lo,iv a1.Hi])] hF (ocons (obIdxQ (hS.arr (i:=1) rfl) (by kernel_rfl) (fun _=>aL)) (ocons (obElNQ (m:=2) (i:=a3) (us:=[iv a1.Lo,iv a1.Hi]) 0 api_Span.cells_len (fun _ hd=>((hS.at_ hd).arr (i:=1) rfl)) (by kernel_rfl) (fun _=>aL) ⟨rfl,rfl⟩) onil)) fun a hF=>?_
    refine SK.wi (allocK (t:=25) (fun a5=>[(4,sv a2 a0 a4),(6,pb a5),(12,sv ad6 y9 cap7),(13,iv (ln y9)),(14,iv a3),(17,.agg #[iv a1.Lo,iv a1.Hi])]) #[iv 0,iv 0] hF hS (by kernel_rfl) ⟨by kernel_rfl⟩ (by kernel_rfl) (fun _=>⟨by kernel_rfl⟩) fun a5 w a hF hS=>?_)
    refine SK.wi (storeK (t:=25) [(4,sv a2 a0 a4),(6,pb a5),(12,sv ad6 y9 cap7),(13,iv (ln y9)),(14,iv a3)] 0 0 (.agg #[iv a1.Lo,iv a1.Hi]) #[iv a1.Lo,iv a1.Hi] hF hS rfl (by kernel_rfl) ⟨by kernel_rfl⟩ (by kernel_rfl) (by kernel_rfl) (by kernel_rfl) (by kernel_rfl) ⟨by kernel_rfl⟩ fun w a hF hS=>?_)
    refine wfn rfl ?_
    refine esr ?_
    refine rn 3 3 [(4,sv a2 a0 a4),(6,pb a5),(7,iv (ln a0)),(12,sv ad6 y9 cap7),(13,iv (ln y9)),(14,iv a3)] hF fun a hF=>?_
    refine wfn rfl ?_
    refine eseq ?_
    replace h:=bindS h
    obtain ⟨aD,aU,h⟩:=h
    replace h:=bindS h
    obtain ⟨aP,aM,h⟩:=h
    refine runD (obs:=[.run [⟨22,true,(decide ((ln a0) > 0))⟩] (Instr.loadAt 3 (pb a5)) (iv a1.Lo),.run [⟨22,true,(decide ((ln a0) > 0))⟩] (binOp .sub 3 (iv (ln a0)) (iv 1)) (iv aD),.run [⟨22,true,(decide ((ln a0) > 0))⟩] (Instr.indexAt 132 (sv a2 a0 a4) (iv aD)) (.pointer (some (slAddr a2 aD 2))),.run [⟨22,true,(decide ((ln a0) > 0))⟩] (Instr.loadAt 3 (.pointer (some ((slAddr a2 aD 2).add 1)))) (iv aP.Hi)]) 13 [(4,sv a2 a0 a4),(6,pb a5),(7,iv (ln a0)),(12,sv ad6 y9 cap7),(13,iv (ln y9)),(14,iv a3),(32,.bool (bif (decide ((ln a0) > 0)) then (decide (a1.Lo≤aP.Hi)) else false))] (by kernel_rfl) hF (by kernel_rfl) (ocons (ob1 (by kernel_rfl) (fun _ hd=>(hS.later hd).cell (i:=0) (j:=0) rfl rfl)) (ocons (obSubC (fun hk=>gd_some aU hk)) (ocons (obIdxQ (hS.arr (i:=1) rfl) (by kernel_rfl) (fun hk=>gd_some aM hk)) (ocons (obElQ (i:=aD) 1 api_Span.cells_len (fun _ hd=>((hS.later hd).arr (i:=1) rfl)) (by kernel_rfl) (fun hk=>gd_some aM hk) rfl) onil)))) ⟨by kernel_rfl⟩ fun a w hF hx=>?_
    replace hS:=hS.later hx
    refine wfn rfl ?_
    refine econd hF rfl (fun hc=>?_) (fun hc=>?_)
    ·replace h:=bif_t h hc
     replace h:=bindS h
     obtain ⟨aE,aV,h⟩:=h
     replace h:=bindS h
     obtain ⟨aF,aW,h⟩:=h
     replace h:=bindS h
     obtain ⟨a8,aN,h⟩:=h
     replace h:=bindS h
     obtain ⟨aQ,aO,h⟩:=h
     refine runD (obs:=[.run [] (binOp .sub 3 (iv (ln a0)) (iv 1)) (iv aE),.run [] (binOp .sub 3 (iv (ln a0)) (iv 1)) (iv aF),.run [] (Instr.indexAt 132 (sv a2 a0 a4) (iv aF)) (.pointer (some (slAddr a2 aF 2))),.run [] (Instr.loadAt 3 (.pointer (some ((slAddr a2 aF 2).add 1)))) (iv a8.Hi),.run [] (Instr.loadAt 3 (.pointer (some ⟨a5,1,none⟩))) (iv a1.Hi),.run [] (Instr.indexAt 132 (sv a2 a0 a4) (iv aE)) (.pointer (some (slAddr a2 aE 2)))]) 14 [(4,sv a2 a0 a4),(12,sv ad6 y9 cap7),(13,iv (ln y9)),(14,iv a3),(44,iv (if a1.Hi > a8.Hi then a1.Hi else a8.Hi)),(46,.pointer (some ((slAddr a2 aE 2).add 1)))] (by kernel_rfl) hF (by kernel_rfl) (ocons (obSubC (fun _=>aV)) (ocons (obSubC (fun _=>aW)) (ocons (obIdxQ (hS.arr (i:=1) rfl) (by kernel_rfl) (fun _=>aN)) (ocons (obElQ (i:=aF) 1 api_Span.cells_len (fun _ hd=>((hS.later hd).arr (i:=1) rfl)) (by kernel_rfl) (fun _=>aN) rfl) (ocons (ob1 (by kernel_rfl) (fun _ hd=>(hS.later hd).cell (i:=0) (j:=1) rfl rfl)) (ocons (obIdxQ (hS.arr (i:=1) rfl) (by kernel_rfl) (fun _=>aO)) onil)))))) ⟨by kernel_rfl⟩ fun a w hF hx=>?_
     replace hS:=hS.later hx
     replace h:=bindS h
     obtain ⟨aX,aR,h⟩:=h
     refine SK.wi (setK (j:=aE) (t:=3) [(4,sv a2 a0 a4),(12,sv ad6 y9 cap7),(13,iv (ln y9)),(14,iv a3)] 1 1 aQ (api_Span.mk aQ.Lo (if a1.Hi > a8.Hi then a1.Hi else a8.Hi)) (iv (if a1.Hi > a8.Hi then a1.Hi else a8.Hi)) hF hS rfl (by kernel_rfl) ⟨by kernel_rfl⟩ api_Span.cells_len aO rfl (by kernel_rfl) (by kernel_rfl) (by kernel_rfl) aR ⟨by kernel_rfl⟩ fun w a hF hl hS=>?_)
     simp only [sv,ln,hl] at hF hS
     refine WI.fin rfl (norm_block <| norm_then <| ?_)
     exact ⟨aX,a2,a4,hF.sub (by kernel_rfl),St.pick [1,2,3] (by decide) hS,h⟩
    ·replace h:=bif_f h hc
     refine WI.region ?_
     refine rno 2 [.run [] (Instr.loadAt 25 (pb a5)) (.agg #[iv a1.Lo,iv a1.Hi])] 2 [(4,sv a2 a0 a4),(12,sv ad6 y9 cap7),(13,iv (ln y9)),(14,iv a3),(47,sv a2 a0 a4),(48,.agg #[iv a1.Lo,iv a1.Hi])] hF (ocons (obN (us:=[iv a1.Lo,iv a1.Hi]) (by kernel_rfl) (fun _ hd=>((hS.at_ hd).blk (i:=0) rfl).cells rfl)) onil) fun a hF=>?_
     refine SK.wi (litK (e:=25) (sz:=2) (f:=api_Span.cells) (t:=132) (len:=1) (fun aK=>[(4,sv a2 a0 a4),(12,sv ad6 y9 cap7),(13,iv (ln y9)),(14,iv a3),(47,sv a2 a0 a4),(49,sb aK 1)]) #[(0,.agg #[iv a1.Lo,iv a1.Hi])] #[iv a1.Lo,iv a1.Hi] ([a1]) hF hS (by kernel_rfl) ⟨by kernel_rfl⟩ (by kernel_rfl) api_Span.cells_len rfl rfl (by kernel_rfl) (fun _=>⟨by kernel_rfl⟩) fun aK w a hF hS=>?_)
     replace h:=bindS h
     obtain ⟨aI,aS,h⟩:=h
     refine SK.wi (appK (t:=132) (ty:=132) (bytes:=16) (l:=a0) (l':=([a1])) (fun aG aH=>[(4,sv a2 a0 a4),(12,sv ad6 y9 cap7),(13,iv (ln y9)),(14,iv a3),(50,sv aG aI aH)]) 2 hF hS rfl (by kernel_rfl) ⟨by kernel_rfl⟩ (by kernel_rfl) (hS.arr (i:=0) rfl) (fun _ _=>rfl) aS (fun _ _=>⟨by kernel_rfl⟩) fun aG aH w a hF hS=>?_)
     refine rn 1 5 [(4,sv aG aI aH),(12,sv ad6 y9 cap7),(13,iv (ln y9)),(14,iv a3)] hF fun a hF=>?_
     refine WI.fin rfl (norm_block <| norm_then <| ?_)
     exact ⟨aI,aG,aH,hF.sub (by kernel_rfl),St.pick [2,3,4] (by decide) hS,h⟩
   rintro a w ⟨a7,aA,aC,hF,hS,h⟩
   rw [fold_speeds_united_K3] at h
   refine WI.region ?_
   replace h:=bindS h
   obtain ⟨aJ,aT,h⟩:=h
   refine rno 2 [.run [] (binOp .add 3 (iv a3) (iv 1)) (iv aJ)] 2 [(4,sv aA a7 aC),(12,sv ad6 y9 cap7),(13,iv (ln y9)),(14,iv aJ)] hF (ocons (obAddC (fun _=>aT)) onil) fun a hF=>?_
   refine wfn rfl ?_
   rw [hk2] at h
   exact ⟨nk2,Nat.lt_succ_self _,aJ,a7,aA,aC,hF.sub (by kernel_rfl),St.pick [0,1,2] (by decide) hS,h⟩
  ·replace h:=bif_f h hc
   refine wpIn_exit (exit_then <| exit_then <| exit_hit <| norm_then ?_)
   exact ⟨a0,a2,a4,hF.sub (by kernel_rfl),St.pick [0,1,2] (by decide) hS,h⟩
 rintro a w ⟨a6,a9,aB,hF,hS,h⟩
 rw [fold_speeds_united_K1] at h
 refine esr ?_
 refine rn 2 2 [(2,sv a9 a6 aB)] hF fun a hF=>?_
 refine wfn rfl ?_
 refine wpIn_ret (fn_ret [.tmp 2] [sv a9 a6 aB] hF rfl ⟨rfl,trivial⟩ ?_)
 have hr_:=Option.some.inj h
 subst hr_
 exact ⟨_,_,rfl,St.pick [0] (by decide) hS⟩
theorem fold_back_ok (F : Nat) (p0 : (List (List api_Span))) (res : (List (List api_Span))) (h : fold_back F p0 = some res) (μ : Frz) (w0 : World) (hm : FrzAt μ w0) {ad1 : Option Addr} {cap2 : Nat} {css3 : List (List Value)} (hA4 : ArrQ μ 1 Rp132 ad1 cap2 css3 p0) : Calls Try.prog 70 #[sv ad1 p0 cap2] w0 (fun e w=>∃ (ν_ : Frz) (zad0 : Option Addr) (zcap0 : Nat) (zcss0 : List (List Value)),μ.ext w0.heap.size ν_∧e = .returned (sv zad0 res zcap0)∧All2 (Rp43 ν_) zcss0 res∧St w0 [fz w0 ν_,arr 43 1 (fN 1) zad0 res.length zcap0 zcss0] w):=by
 obtain ⟨hlow,hS⟩:=hm.init
 have hext:=Frz.ext_refl w0.heap.size μ
 rw [fold_back] at h
 refine fn_enterW Try.func70 rfl 19 [(0,sv ad1 p0 cap2)] rfl rfl (by kernel_rfl) fun a w hw hF=>?_
 replace hS : St w0 [fz w0 μ] w:=by rw [hw]; exact hS
 clear hw
 refine esr ?_
 refine rn 1 1 [(0,sv ad1 p0 cap2)] hF fun a hF=>?_
 refine wfn rfl ?_
 refine esr ?_
 refine rn 1 1 [(0,sv ad1 p0 cap2),(3,.slice none 0 0)] hF fun a hF=>?_
 refine wfn rfl ?_
 have a9:=Frz.le_refl μ
 refine ecut (fun a w=>∃ (a8 : (List (List api_Span))) (ν91 : Frz) (aC : Option Addr) (aE : Nat) (aL : List (List Value)),Fr 19 [] [(3,sv aC a8 aE)] a∧St w0 [arr 43 1 (fN 1) aC a8.length aE aL,fz w0 ν91] w∧(All2 (Rp43 ν91) aL a8)∧(μ.le ν91)∧(μ.ext w0.heap.size ν91)∧(FrzIn w0 ν91)∧fold_back_K1 a8 = some res) ?_ ?_
 ·skip
  refine esr ?_
  refine rn 3 3 [(3,.slice none 0 0),(6,sv ad1 p0 cap2),(7,iv (ln p0)),(8,iv 0)] hF fun a hF=>?_
  refine wfn rfl ?_
  refine wpIn_block ?_
  have aQ:=Frz.le_refl μ
  replace hS:=hS.nilarr 43 1 (fN 1)
  refine eloop (fun n_ a w=>∃ (a0 : (List (List api_Span))) (a1 : Int) (ν153 : Frz) (a2 : Option Addr) (a3 : Nat) (a7 : List (List Value)),Fr 19 [] [(3,sv a2 a0 a3),(6,sv ad1 p0 cap2),(7,iv (ln p0)),(8,iv a1)] a∧St w0 [arr 43 1 (fN 1) a2 a0.length a3 a7,fz w0 ν153] w∧(All2 (Rp43 ν153) a7 a0)∧(μ.le ν153)∧(μ.ext w0.heap.size ν153)∧(FrzIn w0 ν153)∧fold_back_L2 F p0 n_ a0 a1 = some res) F ⟨[],0,μ,none,0,[],hF.sub (by kernel_rfl),St.pick [0,1] (by decide) hS,All2.nil,aQ,hext,hlow,h⟩ ?_
  clear aQ
  rintro nk2 a w ⟨a0,a1,ν153,a2,a3,a7,hF,hS,aK,aF,hext,hlow,h⟩
  rcases nk2 with _ | nk2
  ·cases (show (none : Option (List (List api_Span))) = some res from h)
  replace hA4:=hA4.mono Rp132.mono aF
  replace a9:=Frz.le_trans a9 aF
  obtain ⟨k2,hk2⟩ : ∃ k,k = fold_back_L2 F p0 nk2:=⟨_,rfl⟩
  replace h : fold_back_B2 F p0 k2 a0 a1 = some res:=by rw [hk2]; exact h
  rw [fold_back_B2] at h
  refine esr ?_
  refine rn 1 1 [(3,sv a2 a0 a3),(6,sv ad1 p0 cap2),(7,iv (ln p0)),(8,iv a1),(9,.bool (decide (a1 < (ln p0))))] hF fun a hF=>?_
  refine wfn rfl ?_
  refine eseq ?_
  refine econd hF rfl (fun hc=>?_) (fun hc=>?_)
  ·replace h:=bif_t h hc
   refine wpIn_skip (norm_then ?_)
   refine eseq ?_
   refine wpIn_block ?_
   refine esr ?_
   replace h:=bindS h
   obtain ⟨aH,aZ,h⟩:=h
   obtain ⟨b3,aP,aV⟩:=getI_all2 hA4.2 aZ
   obtain ⟨aI,aJ,rfl,aM⟩:=aV
   refine rno 3 [.run [] (Instr.indexAt 135 (sv ad1 p0 cap2) (iv a1)) (.pointer (some (slAddr ad1 a1 1))),.run [] (Instr.loadAt 132 (.pointer (some (slAddr ad1 a1 1)))) (sv aI aH aJ)] 3 [(3,sv a2 a0 a3),(5,sv aI aH aJ),(6,sv ad1 p0 cap2),(7,iv (ln p0)),(8,iv a1)] hF (ocons (obIdxQ (hA4.at (hS.frz (i:=1) rfl hlow)) (by kernel_rfl) (fun _=>aP)) (ocons (obElQ (i:=a1) 0 (fN_len 1) (fun _ hd=>(hA4.at ((hS.at_ hd).frz (i:=1) rfl hlow))) (by kernel_rfl) (fun _=>aP) rfl) onil)) fun a hF=>?_
   refine wfn rfl ?_
   refine WI.region ?_
   refine rn 2 2 [(3,sv a2 a0 a3),(6,sv ad1 p0 cap2),(7,iv (ln p0)),(8,iv a1),(12,sv a2 a0 a3),(13,sv aI aH aJ)] hF fun a hF=>?_
   replace h:=bindS h
   obtain ⟨a4,b1,h⟩:=h
   refine SK.wi (callK (f:=99) (args:=#[sv aI aH aJ]) (R:=fun v w2=>∃ a5 a6,v = sv a5 a4 a6∧St w [arr 25 2 api_Span.cells a5 a4.length a6 a4] w2) (fun aT=>[(3,sv a2 a0 a3),(6,sv ad1 p0 cap2),(7,iv (ln p0)),(8,iv a1),(12,sv a2 a0 a3),(14,aT)]) hF (by kernel_rfl) ⟨by kernel_rfl⟩ (Calls.mono (slices_Clone_fold_speeds_api_Span_ok F aH _ b1 (memOf w) w (memOf_at w) (aM.mono (FrzAt.le_mem (hS.frz (i:=1) rfl hlow)))) (by rintro e w2 ⟨a5,a6,rfl,h⟩; exact ⟨_,rfl,a5,a6,rfl,h⟩)) (fun _=>⟨by kernel_rfl⟩) ?_)
   rintro aT w a ⟨a5,a6,rfl,hQ⟩ hF
   replace hS : St w0 [arr 25 2 api_Span.cells a5 a4.length a6 a4,arr 43 1 (fN 1) a2 a0.length a3 a7,fz w0 ν153] w:=hS.madeL hQ
   obtain ⟨ν174,aA,hlow,hS,b2⟩:=hS.freeze (i:=2) (j:=0) rfl rfl (by decide) hlow
   replace hA4:=hA4.mono Rp132.mono aA.1
   replace aK:=All2.mono Rp43.mono aA.1 aK
   replace aM:=aM.mono aA.1
   replace a9:=Frz.le_trans a9 aA.1
   replace aF:=Frz.le_trans aF aA.1
   replace hext:=Frz.ext_trans hext aA
   replace hS : St w0 [arr 43 1 (fN 1) a2 a0.length a3 a7,fz w0 ν174] w:=hS
   have aU:=ArrM.of_arr b2
   have aS : All2 (Rp43 ν174) ([[sv a5 a4 a6]] : List (List Value)) [a4]:=(All2.cons ⟨a5,a6,rfl,aU⟩ All2.nil)
   refine SK.wi (litQK (e:=43) (sz:=1) (f:=fN 1) (t:=48) (len:=1) (fun aO=>[(3,sv a2 a0 a3),(6,sv ad1 p0 cap2),(7,iv (ln p0)),(8,iv a1),(12,sv a2 a0 a3),(15,sb aO 1)]) #[(0,sv a5 a4 a6)] #[sv a5 a4 a6] ([[sv a5 a4 a6]] : List (List Value)) ([a4]) hF hS (by kernel_rfl) ⟨by kernel_rfl⟩ (by kernel_rfl) (fN_len 1) rfl rfl rfl (by kernel_rfl) (fun _=>⟨by kernel_rfl⟩) fun aO w a hF hS=>?_)
   replace h:=bindS h
   obtain ⟨aG,aR,h⟩:=h
   have aX : All2 (Rp43 ν174) (a7 ++ ([[sv a5 a4 a6]] : List (List Value))) aG:=by rw [(apd_some aR).1]; exact All2.app aK aS
   refine SK.wi (appQK (t:=48) (ty:=48) (bytes:=24) (c:=a7) (c':=([[sv a5 a4 a6]] : List (List Value))) (l:=a0) (l':=([a4])) (fun aB aD=>[(3,sv a2 a0 a3),(6,sv ad1 p0 cap2),(7,iv (ln p0)),(8,iv a1),(16,sv aB aG aD)]) 1 hF hS rfl (by kernel_rfl) ⟨by kernel_rfl⟩ (by kernel_rfl) (hS.arr (i:=0) rfl) (ArrQ.one aS Rp43.one) aR (fun _ _=>⟨by kernel_rfl⟩) fun aB aD w a hF hS=>?_)
   refine rn 1 6 [(3,sv aB aG aD),(6,sv ad1 p0 cap2),(7,iv (ln p0)),(8,iv a1)] hF fun a hF=>?_
   refine WI.fin rfl (norm_block <| norm_then <| ?_)
   refine WI.region ?_
   replace h:=bindS h
   obtain ⟨aN,b0,h⟩:=h
   refine rno 2 [.run [] (binOp .add 3 (iv a1) (iv 1)) (iv aN)] 2 [(3,sv aB aG aD),(6,sv ad1 p0 cap2),(7,iv (ln p0)),(8,iv aN)] hF (ocons (obAddC (fun _=>b0)) onil) fun a hF=>?_
   refine wfn rfl ?_
   rw [hk2] at h
   exact ⟨nk2,Nat.lt_succ_self _,aG,aN,ν174,aB,aD,(a7 ++ ([[sv a5 a4 a6]] : List (List Value))),hF.sub (by kernel_rfl),St.pick [1,2] (by decide) hS,aX,aF,hext,hlow,h⟩
  ·replace h:=bif_f h hc
   refine wpIn_exit (exit_then <| exit_then <| exit_hit <| norm_then ?_)
   exact ⟨a0,ν153,a2,a3,a7,hF.sub (by kernel_rfl),St.pick [0,1] (by decide) hS,aK,a9,hext,hlow,h⟩
 clear a9
 rintro a w ⟨a8,ν91,aC,aE,aL,hF,hS,aY,aW,hext,hlow,h⟩
 replace hA4:=hA4.mono Rp132.mono aW
 rw [fold_back_K1] at h
 refine esr ?_
 refine rn 2 2 [(2,sv aC a8 aE)] hF fun a hF=>?_
 refine wfn rfl ?_
 refine wpIn_ret (fn_ret [.tmp 2] [sv aC a8 aE] hF rfl ⟨rfl,trivial⟩ ?_)
 have hr_:=Option.some.inj h
 subst hr_
 exact ⟨ν91,_,_,_,hext,rfl,aY,St.pick [1,0] (by decide) hS⟩
theorem ref03_spans_ok (F : Nat) (p0 : (List api_Span)) (p1 : Bool) (res : Int) (h : ref03_spans F p0 p1 = some res) (μ : Frz) (w0 : World) (hm : FrzAt μ w0) {ad1 : Option Addr} {cap2 : Nat} (hA3 : ArrM μ 2 api_Span.cells ad1 cap2 p0) : Calls Try.prog 63 #[sv ad1 p0 cap2,.bool p1] w0 (fun e w=>e = .returned (iv res)∧Ext w0 w):=by
 obtain ⟨hlow,hS⟩:=hm.init
 have hext:=Frz.ext_refl w0.heap.size μ
 rw [ref03_spans] at h
 refine fn_enterW Try.func63 rfl 40 [(0,sv ad1 p0 cap2),(1,.bool p1)] rfl rfl (by kernel_rfl) fun a w hw hF=>?_
 replace hS : St w0 [fz w0 μ] w:=by rw [hw]; exact hS
 clear hw
 refine esr ?_
 refine rn 1 1 [(0,sv ad1 p0 cap2),(1,.bool p1)] hF fun a hF=>?_
 refine wfn rfl ?_
 refine eseq ?_
 refine esr ?_
 refine rn 3 3 [(0,sv ad1 p0 cap2),(1,.bool p1),(8,.bool (decide ((ln p0) > 256)))] hF fun a hF=>?_
 refine wfn rfl ?_
 refine econd hF rfl (fun hc=>?_) (fun hc=>?_)
 ·replace h:=bif_t h hc
  refine esr ?_
  refine rn 1 1 [(4,iv 9)] hF fun a hF=>?_
  refine wfn rfl ?_
  refine wpIn_ret (ret_then <| fn_ret [.tmp 4] [iv 9] hF rfl ⟨rfl,trivial⟩ ?_)
  have hr_:=Option.some.inj h
  subst hr_
  exact ⟨rfl,hS.ext⟩
 ·replace h:=bif_f h hc
  refine wpIn_skip (norm_then ?_)
  refine ecut (fun a w=>Fr 40 [] [] a∧St w0 [fz w0 μ] w∧ref03_spans_K1 = some res) ?_ ?_
  ·skip
   refine esr ?_
   refine rn 1 1 [(0,sv ad1 p0 cap2),(1,.bool p1),(5,iv 0)] hF fun a hF=>?_
   refine wfn rfl ?_
   refine wpIn_block ?_
   refine eloop (fun n_ a w=>∃ (a0 : Int),Fr 40 [] [(0,sv ad1 p0 cap2),(1,.bool p1),(5,iv a0)] a∧St w0 [fz w0 μ] w∧ref03_spans_L2 p0 p1 n_ a0 = some res) F ⟨0,hF.sub (by kernel_rfl),St.pick [0] (by decide) hS,h⟩ ?_
   rintro nk2 a w ⟨a0,hF,hS,h⟩
   rcases nk2 with _ | nk2
   ·cases (show (none : Option Int) = some res from h)
   obtain ⟨k2,hk2⟩ : ∃ k,k = ref03_spans_L2 p0 p1 nk2:=⟨_,rfl⟩
   replace h : ref03_spans_B2 p0 p1 k2 a0 = some res:=by rw [hk2]; exact h
   rw [ref03_spans_B2] at h
   refine eseq ?_
   refine esr ?_
   refine rn 4 4 [(0,sv ad1 p0 cap2),(1,.bool p1),(5,iv a0),(12,.bool (decide (a0 < (ln p0))))] hF fun a hF=>?_
   refine wfn rfl ?_
   refine econd hF rfl (fun hc=>?_) (fun hc=>?_)
   ·replace h:=bif_t h hc
    refine wpIn_skip (norm_then ?_)
    refine eseq ?_
    refine wpIn_block ?_
    refine eseq ?_
    refine esr ?_
    replace h:=bindS h
    obtain ⟨a1,a4,h⟩:=h
    refine rx 6 [.run [] (Instr.indexAt 43 (sv ad1 p0 cap2) (iv a0)) (.pointer (some (slAddr ad1 a0 2))),.run [] (Instr.loadAt 25 (.pointer (some (slAddr ad1 a0 2)))) (.agg #[iv a1.Lo,iv a1.Hi]),.call [] 94 #[.agg #[iv a1.Lo,iv a1.Hi],iv (-200000),iv 200000] (.bool (ref01_Valid a1 (-200000) 200000))] 6 [(0,sv ad1 p0 cap2),(1,.bool p1),(5,iv a0),(20,.bool (!(ref01_Valid a1 (-200000) 200000)))] hF (ocons (obIdxQ (hA3 _ (hS.frz (i:=0) rfl hlow)) (by kernel_rfl) (fun _=>a4)) (ocons (obElNQ (m:=2) (i:=a0) (us:=[iv a1.Lo,iv a1.Hi]) 0 api_Span.cells_len (fun _ hd=>(hA3 _ ((hS.later hd).frz (i:=0) rfl hlow))) (by kernel_rfl) (fun _=>a4) ⟨rfl,rfl⟩) (ocons (show Ob.ok _ Ext _ _ from fun hk w2 hd=>ref01_Valid_ok a1 (-200000) 200000 _ rfl _ w2 (memOf_at w2)) onil))) fun a w hF hx=>?_
    replace hS:=hS.later hx
    refine wfn rfl ?_
    refine econd hF rfl (fun hc=>?_) (fun hc=>?_)
    ·replace h:=bif_t h hc
     refine esr ?_
     refine rn 1 1 [(4,iv 3)] hF fun a hF=>?_
     refine wfn rfl ?_
     refine wpIn_ret (ret_then <| ret_block <| ret_then <| ret_then <| ret_block <| ret_then <| fn_ret [.tmp 4] [iv 3] hF rfl ⟨rfl,trivial⟩ ?_)
     have hr_:=Option.some.inj h
     subst hr_
     exact ⟨rfl,hS.ext⟩
    ·replace h:=bif_f h hc
     refine wpIn_skip (norm_then ?_)
     refine eseq ?_
     replace h:=bindS h
     obtain ⟨a7,a5,h⟩:=h
     replace h:=bindS h
     obtain ⟨a2,a9,h⟩:=h
     replace h:=bindS h
     obtain ⟨a8,a6,h⟩:=h
     refine runD (obs:=[.run [⟨26,true,(bif p1 then (decide (a0 > 0)) else false)⟩] (Instr.indexAt 43 (sv ad1 p0 cap2) (iv a0)) (.pointer (some (slAddr ad1 a0 2))),.run [⟨26,true,(bif p1 then (decide (a0 > 0)) else false)⟩] (Instr.loadAt 3 (.pointer (some (slAddr ad1 a0 2)))) (iv a7.Lo),.run [⟨26,true,(bif p1 then (decide (a0 > 0)) else false)⟩] (binOp .sub 3 (iv a0) (iv 1)) (iv a2),.run [⟨26,true,(bif p1 then (decide (a0 > 0)) else false)⟩] (Instr.indexAt 43 (sv ad1 p0 cap2) (iv a2)) (.pointer (some (slAddr ad1 a2 2))),.run [⟨26,true,(bif p1 then (decide (a0 > 0)) else false)⟩] (Instr.loadAt 3 (.pointer (some ((slAddr ad1 a2 2).add 1)))) (iv a8.Hi)]) 19 [(0,sv ad1 p0 cap2),(1,.bool p1),(5,iv a0),(39,.bool (bif (bif p1 then (decide (a0 > 0)) else false) then (decide (a7.Lo≤a8.Hi)) else false))] (by kernel_rfl) hF (by kernel_rfl) (ocons (obIdxQ (hA3 _ (hS.frz (i:=0) rfl hlow)) (by kernel_rfl) (fun hk=>gd_some a5 hk)) (ocons (obElQ (i:=a0) 0 api_Span.cells_len (fun _ hd=>(hA3 _ ((hS.later hd).frz (i:=0) rfl hlow))) (by kernel_rfl) (fun hk=>gd_some a5 hk) rfl) (ocons (obSubC (fun hk=>gd_some a9 hk)) (ocons (obIdxQ (hA3 _ (hS.frz (i:=0) rfl hlow)) (by kernel_rfl) (fun hk=>gd_some a6 hk)) (ocons (obElQ (i:=a2) 1 api_Span.cells_len (fun _ hd=>(hA3 _ ((hS.later hd).frz (i:=0) rfl hlow))) (by kernel_rfl) (fun hk=>gd_some a6 hk) rfl) onil))))) ⟨by kernel_rfl⟩ fun a w hF hx=>?_
     replace hS:=hS.later hx
     refine wfn rfl ?_
     refine econd hF rfl (fun hc=>?_) (fun hc=>?_)
     ·replace h:=bif_t h hc
      refine esr ?_
      refine rn 1 1 [(4,iv 12)] hF fun a hF=>?_
      refine wfn rfl ?_
      refine wpIn_ret (ret_block <| ret_then <| ret_then <| ret_block <| ret_then <| fn_ret [.tmp 4] [iv 12] hF rfl ⟨rfl,trivial⟩ ?_)
      have hr_:=Option.some.inj h
      subst hr_
      exact ⟨rfl,hS.ext⟩
     ·replace h:=bif_f h hc
      refine wpIn_skip (norm_block <| norm_then <| ?_)
      refine WI.region ?_
      replace h:=bindS h
      obtain ⟨a3,aA,h⟩:=h
      refine rno 3 [.run [] (binOp .add 3 (iv a0) (iv 1)) (iv a3)] 3 [(0,sv ad1 p0 cap2),(1,.bool p1),(5,iv a3)] hF (ocons (obAddC (fun _=>aA)) onil) fun a hF=>?_
      refine wfn rfl ?_
      rw [hk2] at h
      exact ⟨nk2,Nat.lt_succ_self _,a3,hF.sub (by kernel_rfl),St.pick [0] (by decide) hS,h⟩
   ·replace h:=bif_f h hc
    refine wpIn_exit (exit_then <| exit_then <| exit_hit <| norm_then ?_)
    exact ⟨hF.sub (by kernel_rfl),St.pick [0] (by decide) hS,h⟩
  rintro a w ⟨hF,hS,h⟩
  rw [ref03_spans_K1] at h
  refine esr ?_
  refine rn 1 1 [(4,iv 0)] hF fun a hF=>?_
  refine wfn rfl ?_
  refine wpIn_ret (fn_ret [.tmp 4] [iv 0] hF rfl ⟨rfl,trivial⟩ ?_)
  have hr_:=Option.some.inj h
  subst hr_
  exact ⟨rfl,hS.ext⟩
theorem ref03_meet_ok (F : Nat) (p0 : (List api_Span)) (p1 : (List api_Span)) (res : (List api_Span)) (h : ref03_meet F p0 p1 = some res) (μ : Frz) (w0 : World) (hm : FrzAt μ w0) {ad1 : Option Addr} {cap2 : Nat} {ad4 : Option Addr} {cap5 : Nat} (hA3 : ArrM μ 2 api_Span.cells ad1 cap2 p0) (hA6 : ArrM μ 2 api_Span.cells ad4 cap5 p1) : Calls Try.prog 74 #[sv ad1 p0 cap2,sv ad4 p1 cap5] w0 (fun e w=>∃ zad0 zcap0,e = .returned (sv zad0 res zcap0)∧St w0 [arr 25 2 api_Span.cells zad0 res.length zcap0 res] w):=by
 obtain ⟨hlow,hS⟩:=hm.init
 have hext:=Frz.ext_refl w0.heap.size μ
 rw [ref03_meet] at h
 refine fn_enterW Try.func74 rfl 41 [(0,sv ad1 p0 cap2),(1,sv ad4 p1 cap5)] rfl rfl (by kernel_rfl) fun a w hw hF=>?_
 replace hS : St w0 [fz w0 μ] w:=by rw [hw]; exact hS
 clear hw
 refine esr ?_
 refine rn 1 1 [(0,sv ad1 p0 cap2),(1,sv ad4 p1 cap5)] hF fun a hF=>?_
 refine wfn rfl ?_
 refine esr ?_
 refine rn 1 1 [(0,sv ad1 p0 cap2),(1,sv ad4 p1 cap5),(5,.slice none 0 0)] hF fun a hF=>?_
 refine wfn rfl ?_
 refine ecut (fun a w=>∃ (a8 : (List api_Span)) (aH : Option Addr) (aI : Nat),Fr 41 [] [(5,sv aH a8 aI)] a∧St w0 [arr 25 2 api_Span.cells aH a8.length aI a8,fz w0 μ] w∧ref03_meet_K1 F a8 = some res) ?_ ?_
 ·skip
  refine esr ?_
  refine rn 1 1 [(0,sv ad1 p0 cap2),(1,sv ad4 p1 cap5),(5,.slice none 0 0),(6,iv 0)] hF fun a hF=>?_
  refine wfn rfl ?_
  refine wpIn_block ?_
  replace hS:=hS.nilarr 25 2 api_Span.cells
  refine eloop (fun n_ a w=>∃ (a7 : (List api_Span)) (a2 : Int) (aB : Option Addr) (aD : Nat),Fr 41 [] [(0,sv ad1 p0 cap2),(1,sv ad4 p1 cap5),(5,sv aB a7 aD),(6,iv a2)] a∧St w0 [arr 25 2 api_Span.cells aB a7.length aD a7,fz w0 μ] w∧ref03_meet_L2 F p0 p1 n_ a7 a2 = some res) F ⟨[],0,none,0,hF.sub (by kernel_rfl),St.pick [0,1] (by decide) hS,h⟩ ?_
  rintro nk2 a w ⟨a7,a2,aB,aD,hF,hS,h⟩
  rcases nk2 with _ | nk2
  ·cases (show (none : Option (List api_Span)) = some res from h)
  obtain ⟨k2,hk2⟩ : ∃ k,k = ref03_meet_L2 F p0 p1 nk2:=⟨_,rfl⟩
  replace h : ref03_meet_B2 F p0 p1 k2 a7 a2 = some res:=by rw [hk2]; exact h
  rw [ref03_meet_B2] at h
  refine eseq ?_
  refine esr ?_
  refine rn 4 4 [(0,sv ad1 p0 cap2),(1,sv ad4 p1 cap5),(5,sv aB a7 aD),(6,iv a2),(13,.bool (decide (a2 < (ln p0))))] hF fun a hF=>?_
  refine wfn rfl ?_
  refine econd hF rfl (fun hc=>?_) (fun hc=>?_)
  ·replace h:=bif_t h hc
   refine wpIn_skip (norm_then ?_)
   refine ecut (fun a w=>∃ (aE : (List api_Span)) (aJ : Option Addr) (aN : Nat),Fr 41 [] [(0,sv ad1 p0 cap2),(1,sv ad4 p1 cap5),(5,sv aJ aE aN),(6,iv a2)] a∧St w0 [arr 25 2 api_Span.cells aJ aE.length aN aE,fz w0 μ] w∧ref03_meet_K3 a2 k2 aE = some res) ?_ ?_
   ·skip
    refine wpIn_block ?_
    refine esr ?_
    refine rn 1 1 [(0,sv ad1 p0 cap2),(1,sv ad4 p1 cap5),(5,sv aB a7 aD),(6,iv a2),(7,iv 0)] hF fun a hF=>?_
    refine wfn rfl ?_
    refine wpIn_block ?_
    refine eloop (fun n_ a w=>∃ (a3 : (List api_Span)) (a4 : Int) (a5 : Option Addr) (a6 : Nat),Fr 41 [] [(0,sv ad1 p0 cap2),(1,sv ad4 p1 cap5),(5,sv a5 a3 a6),(6,iv a2),(7,iv a4)] a∧St w0 [arr 25 2 api_Span.cells a5 a3.length a6 a3,fz w0 μ] w∧ref03_meet_L4 p0 p1 a2 k2 n_ a3 a4 = some res) F ⟨a7,0,aB,aD,hF.sub (by kernel_rfl),St.pick [0,1] (by decide) hS,h⟩ ?_
    rintro nk4 a w ⟨a3,a4,a5,a6,hF,hS,h⟩
    rcases nk4 with _ | nk4
    ·cases (show (none : Option (List api_Span)) = some res from h)
    obtain ⟨k4,hk4⟩ : ∃ k,k = ref03_meet_L4 p0 p1 a2 k2 nk4:=⟨_,rfl⟩
    replace h : ref03_meet_B4 p0 p1 a2 k2 k4 a3 a4 = some res:=by rw [hk4]; exact h
    rw [ref03_meet_B4] at h
    refine eseq ?_
    refine esr ?_
    refine rn 4 4 [(0,sv ad1 p0 cap2),(1,sv ad4 p1 cap5),(5,sv a5 a3 a6),(6,iv a2),(7,iv a4),(19,.bool (decide (a4 < (ln p1))))] hF fun a hF=>?_
    refine wfn rfl ?_
    refine econd hF rfl (fun hc=>?_) (fun hc=>?_)
    ·replace h:=bif_t h hc
     refine wpIn_skip (norm_then ?_)
     refine ecut (fun a w=>∃ (aF : (List api_Span)) (aK : Option Addr) (aO : Nat),Fr 41 [] [(0,sv ad1 p0 cap2),(1,sv ad4 p1 cap5),(5,sv aK aF aO),(6,iv a2),(7,iv a4)] a∧St w0 [arr 25 2 api_Span.cells aK aF.length aO aF,fz w0 μ] w∧ref03_meet_K5 a4 k4 aF = some res) ?_ ?_
     ·skip
      refine wpIn_block ?_
      refine eseq ?_
      replace h:=bindS h
      obtain ⟨a0,aV,h⟩:=h
      replace h:=bindS h
      obtain ⟨a1,aW,h⟩:=h
      refine region_treeW 15 [8,12,13] (fun a w=>∃ (aL : Nat),Fr 41 [] [(0,sv ad1 p0 cap2),(1,sv ad4 p1 cap5),(5,sv a5 a3 a6),(6,iv a2),(7,iv a4),(8,pb aL),(9,.bool ((ref03_common a0 a1).2))] a∧St w0 [blk aL 25 #[iv (((ref03_common a0 a1).1).Lo),iv (((ref03_common a0 a1).1).Hi)],arr 25 2 api_Span.cells a5 a3.length a6 a3,fz w0 μ] w) (D:=fun w=>St w0 [arr 25 2 api_Span.cells a5 a3.length a6 a3] w∧FrzAt μ w) (by kernel_rfl) (by kernel_rfl) hF.size (fun w hx=>?_) ?_
      ·skip
       replace hS:=hS.later hx
       refine ⟨⟨St.pick [0] (by decide) hS,hS.frz (i:=1) rfl hlow⟩,?_⟩
       have b4:=Frz.le_refl μ
       refine WT.s [0,1,2,3,4,5,6,7] [8,12] (by kernel_rfl) (by kernel_rfl) ?_
       refine runC (rest:=[]) (obs:=[.run [] (Instr.indexAt 43 (sv ad1 p0 cap2) (iv a2)) (.pointer (some (slAddr ad1 a2 2))),.run [] (Instr.loadAt 25 (.pointer (some (slAddr ad1 a2 2)))) (.agg #[iv a0.Lo,iv a0.Hi]),.run [] (Instr.indexAt 43 (sv ad4 p1 cap5) (iv a4)) (.pointer (some (slAddr ad4 a4 2))),.run [] (Instr.loadAt 25 (.pointer (some (slAddr ad4 a4 2)))) (.agg #[iv a1.Lo,iv a1.Hi])]) [0,1,2,3,4,5,6,7] [(0,sv ad1 p0 cap2),(1,sv ad4 p1 cap5),(5,sv a5 a3 a6),(6,iv a2),(7,iv a4),(26,.agg #[iv a0.Lo,iv a0.Hi]),(30,.agg #[iv a1.Lo,iv a1.Hi])] hF (by kernel_rfl) (by kernel_rfl) (ocons (obIdxQ (hA3 _ (hS.frz (i:=1) rfl hlow)) (by kernel_rfl) (fun _=>aV)) (ocons (obElNQ (m:=2) (i:=a2) (us:=[iv a0.Lo,iv a0.Hi]) 0 api_Span.cells_len (fun _ hd=>(hA3 _ hd.2)) (by kernel_rfl) (fun _=>aV) ⟨rfl,rfl⟩) (ocons (obIdxQ (hA6 _ (hS.frz (i:=1) rfl hlow)) (by kernel_rfl) (fun _=>aW)) (ocons (obElNQ (m:=2) (i:=a4) (us:=[iv a1.Lo,iv a1.Hi]) 0 api_Span.cells_len (fun _ hd=>(hA6 _ hd.2)) (by kernel_rfl) (fun _=>aW) ⟨rfl,rfl⟩) onil)))) ⟨by kernel_rfl⟩ fun a hF=>?_
       refine WRun.fin ?_
       refine all_cons ?_ (all_cons ?_ (all_nil))
       ·skip
        refine callK (f:=58) (args:=#[.agg #[iv a0.Lo,iv a0.Hi],.agg #[iv a1.Lo,iv a1.Hi]]) (R:=fun v w2=>v = .tuple #[.agg #[iv (((ref03_common a0 a1).1).Lo),iv (((ref03_common a0 a1).1).Hi)],.bool ((ref03_common a0 a1).2)]∧Ext w w2) (fun aX=>[(0,sv ad1 p0 cap2),(1,sv ad4 p1 cap5),(5,sv a5 a3 a6),(6,iv a2),(7,iv a4),(31,aX)]) hF (by kernel_rfl) ⟨by kernel_rfl⟩ (Calls.mono (ref03_common_ok a0 a1 _ rfl (memOf w) w (memOf_at w)) (fun e w2 h=>⟨_,h.1,rfl,h.2⟩)) (fun _=>⟨by kernel_rfl⟩) ?_
        rintro aX w a ⟨rfl,hx⟩ hF
        replace hS:=hS.later hx
        refine ⟨⟨St.pick [0] (by decide) hS,(hS.frz (i:=1) rfl hlow)⟩,?_⟩
        refine WT.s [9,10,11] [12] (by kernel_rfl) (by kernel_rfl) ?_
        refine runC (rest:=[]) (obs:=[]) [9,10,11] [(0,sv ad1 p0 cap2),(1,sv ad4 p1 cap5),(5,sv a5 a3 a6),(6,iv a2),(7,iv a4),(32,.agg #[iv (((ref03_common a0 a1).1).Lo),iv (((ref03_common a0 a1).1).Hi)]),(33,.bool ((ref03_common a0 a1).2))] hF (by kernel_rfl) (by kernel_rfl) onil ⟨by kernel_rfl⟩ fun a hF=>?_
        refine WRun.fin ?_
        refine all_cons ?_ (all_nil)
        refine allocK (t:=25) (fun aM=>[(0,sv ad1 p0 cap2),(1,sv ad4 p1 cap5),(5,sv a5 a3 a6),(6,iv a2),(7,iv a4),(8,pb aM),(32,.agg #[iv (((ref03_common a0 a1).1).Lo),iv (((ref03_common a0 a1).1).Hi)]),(33,.bool ((ref03_common a0 a1).2))]) #[iv 0,iv 0] hF hS (by kernel_rfl) ⟨by kernel_rfl⟩ (by kernel_rfl) (fun _=>⟨by kernel_rfl⟩) fun aM w a hF hS=>⟨⟨St.pick [1] (by decide) hS,(hS.frz (i:=2) rfl hlow)⟩,?_⟩
        refine WT.s [] [13] (by kernel_rfl) (by kernel_rfl) ?_
        refine WRun.fin ?_
        refine all_cons ?_ (all_nil)
        refine storeK (t:=25) [(0,sv ad1 p0 cap2),(1,sv ad4 p1 cap5),(5,sv a5 a3 a6),(6,iv a2),(7,iv a4),(8,pb aM),(33,.bool ((ref03_common a0 a1).2))] 0 0 (.agg #[iv (((ref03_common a0 a1).1).Lo),iv (((ref03_common a0 a1).1).Hi)]) #[iv (((ref03_common a0 a1).1).Lo),iv (((ref03_common a0 a1).1).Hi)] hF hS rfl (by kernel_rfl) ⟨by kernel_rfl⟩ (by kernel_rfl) (by kernel_rfl) (by kernel_rfl) (by kernel_rfl) ⟨by kernel_rfl⟩ fun w a hF hS=>⟨⟨St.pick [1] (by decide) hS,(hS.frz (i:=2) rfl hlow)⟩,?_⟩
        refine WT.z [14] (by kernel_rfl) ?_
        refine runC (rest:=[]) (obs:=[]) [14] [(0,sv ad1 p0 cap2),(1,sv ad4 p1 cap5),(5,sv a5 a3 a6),(6,iv a2),(7,iv a4),(8,pb aM),(9,.bool ((ref03_common a0 a1).2))] hF (by kernel_rfl) (by kernel_rfl) onil ⟨by kernel_rfl⟩ fun a hF=>?_
        refine WRun.fin ?_
        exact ⟨aM,hF.sub (by kernel_rfl),St.pick [0,1,2] (by decide) hS⟩
       ·skip
        refine allocK (t:=25) (fun aC=>[(0,sv ad1 p0 cap2),(1,sv ad4 p1 cap5),(5,sv a5 a3 a6),(6,iv a2),(7,iv a4),(8,pb aC),(26,.agg #[iv a0.Lo,iv a0.Hi]),(30,.agg #[iv a1.Lo,iv a1.Hi])]) #[iv 0,iv 0] hF hS (by kernel_rfl) ⟨by kernel_rfl⟩ (by kernel_rfl) (fun _=>⟨by kernel_rfl⟩) fun aC w a hF hS=>⟨⟨St.pick [1] (by decide) hS,(hS.frz (i:=2) rfl hlow)⟩,?_⟩
        refine WT.s [] [8] (by kernel_rfl) (by kernel_rfl) ?_
        refine WRun.fin ?_
        refine all_cons ?_ (all_nil)
        refine callK (f:=58) (args:=#[.agg #[iv a0.Lo,iv a0.Hi],.agg #[iv a1.Lo,iv a1.Hi]]) (R:=fun v w2=>v = .tuple #[.agg #[iv (((ref03_common a0 a1).1).Lo),iv (((ref03_common a0 a1).1).Hi)],.bool ((ref03_common a0 a1).2)]∧Ext w w2) (fun aY=>[(0,sv ad1 p0 cap2),(1,sv ad4 p1 cap5),(5,sv a5 a3 a6),(6,iv a2),(7,iv a4),(8,pb aC),(31,aY)]) hF (by kernel_rfl) ⟨by kernel_rfl⟩ (Calls.mono (ref03_common_ok a0 a1 _ rfl (memOf w) w (memOf_at w)) (fun e w2 h=>⟨_,h.1,rfl,h.2⟩)) (fun _=>⟨by kernel_rfl⟩) ?_
        rintro aY w a ⟨rfl,hx⟩ hF
        replace hS:=hS.later hx
        refine ⟨⟨St.pick [1] (by decide) hS,(hS.frz (i:=2) rfl hlow)⟩,?_⟩
        refine WT.s [9,10,11] [13] (by kernel_rfl) (by kernel_rfl) ?_
        refine runC (rest:=[]) (obs:=[]) [9,10,11] [(0,sv ad1 p0 cap2),(1,sv ad4 p1 cap5),(5,sv a5 a3 a6),(6,iv a2),(7,iv a4),(8,pb aC),(32,.agg #[iv (((ref03_common a0 a1).1).Lo),iv (((ref03_common a0 a1).1).Hi)]),(33,.bool ((ref03_common a0 a1).2))] hF (by kernel_rfl) (by kernel_rfl) onil ⟨by kernel_rfl⟩ fun a hF=>?_
        refine WRun.fin ?_
        refine all_cons ?_ (all_nil)
        refine storeK (t:=25) [(0,sv ad1 p0 cap2),(1,sv ad4 p1 cap5),(5,sv a5 a3 a6),(6,iv a2),(7,iv a4),(8,pb aC),(33,.bool ((ref03_common a0 a1).2))] 0 0 (.agg #[iv (((ref03_common a0 a1).1).Lo),iv (((ref03_common a0 a1).1).Hi)]) #[iv (((ref03_common a0 a1).1).Lo),iv (((ref03_common a0 a1).1).Hi)] hF hS rfl (by kernel_rfl) ⟨by kernel_rfl⟩ (by kernel_rfl) (by kernel_rfl) (by kernel_rfl) (by kernel_rfl) ⟨by kernel_rfl⟩ fun w a hF hS=>⟨⟨St.pick [1] (by decide) hS,(hS.frz (i:=2) rfl hlow)⟩,?_⟩
        refine WT.z [14] (by kernel_rfl) ?_
        refine runC (rest:=[]) (obs:=[]) [14] [(0,sv ad1 p0 cap2),(1,sv ad4 p1 cap5),(5,sv a5 a3 a6),(6,iv a2),(7,iv a4),(8,pb aC),(9,.bool ((ref03_common a0 a1).2))] hF (by kernel_rfl) (by kernel_rfl) onil ⟨by kernel_rfl⟩ fun a hF=>?_
        refine WRun.fin ?_
        exact ⟨aC,hF.sub (by kernel_rfl),St.pick [0,1,2] (by decide) hS⟩
      rintro a w ⟨aL,hF,hS⟩
      refine wfn rfl ?_
      refine esr ?_
      refine rn 1 1 [(0,sv ad1 p0 cap2),(1,sv ad4 p1 cap5),(5,sv a5 a3 a6),(6,iv a2),(7,iv a4),(8,pb aL),(34,.bool ((ref03_common a0 a1).2))] hF fun a hF=>?_
      refine wfn rfl ?_
      refine econd hF rfl (fun hc=>?_) (fun hc=>?_)
      ·replace h:=bif_t h hc
       refine WI.region ?_
       refine rno 2 [.run [] (Instr.loadAt 25 (pb aL)) (.agg #[iv (((ref03_common a0 a1).1).Lo),iv (((ref03_common a0 a1).1).Hi)])] 2 [(0,sv ad1 p0 cap2),(1,sv ad4 p1 cap5),(5,sv a5 a3 a6),(6,iv a2),(7,iv a4),(35,sv a5 a3 a6),(36,.agg #[iv (((ref03_common a0 a1).1).Lo),iv (((ref03_common a0 a1).1).Hi)])] hF (ocons (obN (us:=[iv (((ref03_common a0 a1).1).Lo),iv (((ref03_common a0 a1).1).Hi)]) (by kernel_rfl) (fun _ hd=>((hS.at_ hd).blk (i:=0) rfl).cells rfl)) onil) fun a hF=>?_
       refine SK.wi (litK (e:=25) (sz:=2) (f:=api_Span.cells) (t:=43) (len:=1) (fun aU=>[(0,sv ad1 p0 cap2),(1,sv ad4 p1 cap5),(5,sv a5 a3 a6),(6,iv a2),(7,iv a4),(35,sv a5 a3 a6),(37,sb aU 1)]) #[(0,.agg #[iv (((ref03_common a0 a1).1).Lo),iv (((ref03_common a0 a1).1).Hi)])] #[iv (((ref03_common a0 a1).1).Lo),iv (((ref03_common a0 a1).1).Hi)] ([(api_Span.mk (((ref03_common a0 a1).1).Lo) (((ref03_common a0 a1).1).Hi))]) hF hS (by kernel_rfl) ⟨by kernel_rfl⟩ (by kernel_rfl) api_Span.cells_len rfl rfl (by kernel_rfl) (fun _=>⟨by kernel_rfl⟩) fun aU w a hF hS=>?_)
       replace h:=bindS h
       obtain ⟨aR,b0,h⟩:=h
       refine SK.wi (appK (t:=43) (ty:=43) (bytes:=16) (l:=a3) (l':=([(api_Span.mk (((ref03_common a0 a1).1).Lo) (((ref03_common a0 a1).1).Hi))])) (fun aP aQ=>[(0,sv ad1 p0 cap2),(1,sv ad4 p1 cap5),(5,sv a5 a3 a6),(6,iv a2),(7,iv a4),(38,sv aP aR aQ)]) 2 hF hS rfl (by kernel_rfl) ⟨by kernel_rfl⟩ (by kernel_rfl) (hS.arr (i:=0) rfl) (fun _ _=>rfl) b0 (fun _ _=>⟨by kernel_rfl⟩) fun aP aQ w a hF hS=>?_)
       refine rn 1 5 [(0,sv ad1 p0 cap2),(1,sv ad4 p1 cap5),(5,sv aP aR aQ),(6,iv a2),(7,iv a4)] hF fun a hF=>?_
       refine WI.fin rfl (norm_block <| norm_then <| ?_)
       exact ⟨aR,aP,aQ,hF.sub (by kernel_rfl),St.pick [2,3] (by decide) hS,h⟩
      ·replace h:=bif_f h hc
       refine wpIn_skip (norm_block <| norm_then <| ?_)
       exact ⟨a3,a5,a6,hF.sub (by kernel_rfl),St.pick [1,2] (by decide) hS,h⟩
     rintro a w ⟨aF,aK,aO,hF,hS,h⟩
     rw [ref03_meet_K5] at h
     refine WI.region ?_
     replace h:=bindS h
     obtain ⟨aT,b2,h⟩:=h
     refine rno 3 [.run [] (binOp .add 3 (iv a4) (iv 1)) (iv aT)] 3 [(0,sv ad1 p0 cap2),(1,sv ad4 p1 cap5),(5,sv aK aF aO),(6,iv a2),(7,iv aT)] hF (ocons (obAddC (fun _=>b2)) onil) fun a hF=>?_
     refine wfn rfl ?_
     rw [hk4] at h
     exact ⟨nk4,Nat.lt_succ_self _,aF,aT,aK,aO,hF.sub (by kernel_rfl),St.pick [0,1] (by decide) hS,h⟩
    ·replace h:=bif_f h hc
     refine wpIn_exit (exit_then <| exit_then <| exit_hit <| norm_block <| norm_then <| ?_)
     exact ⟨a3,a5,a6,hF.sub (by kernel_rfl),St.pick [0,1] (by decide) hS,h⟩
   rintro a w ⟨aE,aJ,aN,hF,hS,h⟩
   rw [ref03_meet_K3] at h
   refine WI.region ?_
   replace h:=bindS h
   obtain ⟨aS,b1,h⟩:=h
   refine rno 3 [.run [] (binOp .add 3 (iv a2) (iv 1)) (iv aS)] 3 [(0,sv ad1 p0 cap2),(1,sv ad4 p1 cap5),(5,sv aJ aE aN),(6,iv aS)] hF (ocons (obAddC (fun _=>b1)) onil) fun a hF=>?_
   refine wfn rfl ?_
   rw [hk2] at h
   exact ⟨nk2,Nat.lt_succ_self _,aE,aS,aJ,aN,hF.sub (by kernel_rfl),St.pick [0,1] (by decide) hS,h⟩
  ·replace h:=bif_f h hc
   refine wpIn_exit (exit_then <| exit_then <| exit_hit <| norm_then ?_)
   exact ⟨a7,aB,aD,hF.sub (by kernel_rfl),St.pick [0,1] (by decide) hS,h⟩
 rintro a w ⟨a8,aH,aI,hF,hS,h⟩
 rw [ref03_meet_K1] at h
 refine esr ?_
 refine rn 1 1 [(39,sv aH a8 aI)] hF fun a hF=>?_
 replace h:=bindS h
 obtain ⟨aG,b3,h⟩:=h
 refine SK.wi (callK (f:=64) (args:=#[sv aH a8 aI]) (R:=fun v w2=>∃ a9 aA,v = sv a9 aG aA∧St w [arr 25 2 api_Span.cells a9 aG.length aA aG] w2) (fun aZ=>[(40,aZ)]) hF (by kernel_rfl) ⟨by kernel_rfl⟩ (Calls.mono (ref03_united_ok F a8 _ b3 (memOf w) w (memOf_at w) (Arr.toM (hS.arr (i:=0) rfl))) (by rintro e w2 ⟨a9,aA,rfl,h⟩; exact ⟨_,rfl,a9,aA,rfl,h⟩)) (fun _=>⟨by kernel_rfl⟩) ?_)
 rintro aZ w a ⟨a9,aA,rfl,hQ⟩ hF
 replace hS : St w0 [arr 25 2 api_Span.cells a9 aG.length aA aG,arr 25 2 api_Span.cells aH a8.length aI a8,fz w0 μ] w:=hS.madeL hQ
 refine rn 1 3 [(4,sv a9 aG aA)] hF fun a hF=>?_
 refine wfn rfl ?_
 refine wpIn_ret (fn_ret [.tmp 4] [sv a9 aG aA] hF rfl ⟨rfl,trivial⟩ ?_)
 have hr_:=Option.some.inj h
 subst hr_
 exact ⟨_,_,rfl,St.pick [0] (by decide) hS⟩
theorem ref03_wide_ok (F : Nat) (p0 : (List api_Span)) (p1 : Int) (res : (List api_Span)) (h : ref03_wide F p0 p1 = some res) (μ : Frz) (w0 : World) (hm : FrzAt μ w0) {ad1 : Option Addr} {cap2 : Nat} (hA3 : ArrM μ 2 api_Span.cells ad1 cap2 p0) : Calls Try.prog 75 #[sv ad1 p0 cap2,iv p1] w0 (fun e w=>∃ zad0 zcap0,e = .returned (sv zad0 res zcap0)∧St w0 [arr 25 2 api_Span.cells zad0 res.length zcap0 res] w):=by
 obtain ⟨hlow,hS⟩:=hm.init
 have hext:=Frz.ext_refl w0.heap.size μ
 rw [ref03_wide] at h
 refine fn_enterW Try.func75 rfl 33 [(0,sv ad1 p0 cap2),(1,iv p1)] rfl rfl (by kernel_rfl) fun a w hw hF=>?_
 replace hS : St w0 [fz w0 μ] w:=by rw [hw]; exact hS
 clear hw
 refine esr ?_
 refine rn 1 1 [(0,sv ad1 p0 cap2),(1,iv p1)] hF fun a hF=>?_
 refine wfn rfl ?_
 refine esr ?_
 refine rn 1 1 [(0,sv ad1 p0 cap2),(1,iv p1),(5,.slice none 0 0)] hF fun a hF=>?_
 refine wfn rfl ?_
 refine ecut (fun a w=>∃ (a4 : (List api_Span)) (a8 : Option Addr) (a9 : Nat),Fr 33 [] [(5,sv a8 a4 a9)] a∧St w0 [arr 25 2 api_Span.cells a8 a4.length a9 a4,fz w0 μ] w∧ref03_wide_K1 F a4 = some res) ?_ ?_
 ·skip
  refine esr ?_
  refine rn 1 1 [(0,sv ad1 p0 cap2),(1,iv p1),(5,.slice none 0 0),(6,iv 0)] hF fun a hF=>?_
  refine wfn rfl ?_
  refine wpIn_block ?_
  replace hS:=hS.nilarr 25 2 api_Span.cells
  refine eloop (fun n_ a w=>∃ (a1 : (List api_Span)) (a0 : Int) (a2 : Option Addr) (a3 : Nat),Fr 33 [] [(0,sv ad1 p0 cap2),(1,iv p1),(5,sv a2 a1 a3),(6,iv a0)] a∧St w0 [arr 25 2 api_Span.cells a2 a1.length a3 a1,fz w0 μ] w∧ref03_wide_L2 F p0 p1 n_ a1 a0 = some res) F ⟨[],0,none,0,hF.sub (by kernel_rfl),St.pick [0,1] (by decide) hS,h⟩ ?_
  rintro nk2 a w ⟨a1,a0,a2,a3,hF,hS,h⟩
  rcases nk2 with _ | nk2
  ·cases (show (none : Option (List api_Span)) = some res from h)
  obtain ⟨k2,hk2⟩ : ∃ k,k = ref03_wide_L2 F p0 p1 nk2:=⟨_,rfl⟩
  replace h : ref03_wide_B2 F p0 p1 k2 a1 a0 = some res:=by rw [hk2]; exact h
  rw [ref03_wide_B2] at h
  refine eseq ?_
  refine esr ?_
  refine rn 4 4 [(0,sv ad1 p0 cap2),(1,iv p1),(5,sv a2 a1 a3),(6,iv a0),(10,.bool (decide (a0 < (ln p0))))] hF fun a hF=>?_
  refine wfn rfl ?_
  refine econd hF rfl (fun hc=>?_) (fun hc=>?_)
  ·replace h:=bif_t h hc
   refine wpIn_skip (norm_then ?_)
   refine eseq ?_
   refine wpIn_block ?_
   replace h:=bindS h
   obtain ⟨aJ,aH,h⟩:=h
   replace h:=bindS h
   obtain ⟨aA,aO,h⟩:=h
   replace h:=bindS h
   obtain ⟨aK,aI,h⟩:=h
   replace h:=bindS h
   obtain ⟨aB,aP,h⟩:=h
   refine region_treeW 17 [16] _ (D:=fun w=>St w0 [arr 25 2 api_Span.cells a2 a1.length a3 a1] w∧FrzAt μ w) (by kernel_rfl) (by kernel_rfl) hF.size (fun w hx=>?_) (fun _ _ h=>h)
   replace hS:=hS.later hx
   refine ⟨⟨St.pick [0] (by decide) hS,hS.frz (i:=1) rfl hlow⟩,?_⟩
   have aR:=Frz.le_refl μ
   refine WT.s [0,1,2,3,4,5,6,7,8,9,10,11,12,13,14,15] [16] (by kernel_rfl) (by kernel_rfl) ?_
   refine runC (rest:=[]) (obs:=[.run [] (Instr.indexAt 43 (sv ad1 p0 cap2) (iv a0)) (.pointer (some (slAddr ad1 a0 2))),.run [] (Instr.loadAt 3 (.pointer (some (slAddr ad1 a0 2)))) (iv aJ.Lo),.run [] (binOp .sub 3 (iv aJ.Lo) (iv p1)) (iv aA),.run [] (Instr.indexAt 43 (sv ad1 p0 cap2) (iv a0)) (.pointer (some (slAddr ad1 a0 2))),.run [] (Instr.loadAt 3 (.pointer (some ((slAddr ad1 a0 2).add 1)))) (iv aK.Hi),.run [] (binOp .add 3 (iv aK.Hi) (iv p1)) (iv aB)]) [0,1,2,3,4,5,6,7,8,9,10,11,12,13,14,15] [(0,sv ad1 p0 cap2),(1,iv p1),(5,sv a2 a1 a3),(6,iv a0),(13,sv a2 a1 a3),(28,.agg #[iv aA,iv aB])] hF (by kernel_rfl) (by kernel_rfl) (ocons (obIdxQ (hA3 _ (hS.frz (i:=1) rfl hlow)) (by kernel_rfl) (fun _=>aH)) (ocons (obElQ (i:=a0) 0 api_Span.cells_len (fun _ hd=>(hA3 _ hd.2)) (by kernel_rfl) (fun _=>aH) rfl) (ocons (obSubC (fun _=>aO)) (ocons (obIdxQ (hA3 _ (hS.frz (i:=1) rfl hlow)) (by kernel_rfl) (fun _=>aI)) (ocons (obElQ (i:=a0) 1 api_Span.cells_len (fun _ hd=>(hA3 _ hd.2)) (by kernel_rfl) (fun _=>aI) rfl) (ocons (obAddC (fun _=>aP)) onil)))))) ⟨by kernel_rfl⟩ fun a hF=>?_
   refine WRun.fin ?_
   refine all_cons ?_ (all_nil)
   refine litK (e:=25) (sz:=2) (f:=api_Span.cells) (t:=43) (len:=1) (fun aG=>[(0,sv ad1 p0 cap2),(1,iv p1),(5,sv a2 a1 a3),(6,iv a0),(13,sv a2 a1 a3),(29,sb aG 1)]) #[(0,.agg #[iv aA,iv aB])] #[iv aA,iv aB] ([(api_Span.mk aA aB)]) hF hS (by kernel_rfl) ⟨by kernel_rfl⟩ (by kernel_rfl) api_Span.cells_len rfl rfl (by kernel_rfl) (fun _=>⟨by kernel_rfl⟩) fun aG w a hF hS=>⟨⟨St.pick [1] (by decide) hS,(hS.frz (i:=2) rfl hlow)⟩,?_⟩
   refine WT.z [] (by kernel_rfl) ?_
   refine WRun.fin ?_
   replace h:=bindS h
   obtain ⟨aE,aM,h⟩:=h
   refine SK.wi (appK (t:=43) (ty:=43) (bytes:=16) (l:=a1) (l':=([(api_Span.mk aA aB)])) (fun aC aD=>[(0,sv ad1 p0 cap2),(1,iv p1),(5,sv a2 a1 a3),(6,iv a0),(30,sv aC aE aD)]) 1 hF hS rfl (by kernel_rfl) ⟨by kernel_rfl⟩ (by kernel_rfl) (hS.arr (i:=0) rfl) (fun _ _=>rfl) aM (fun _ _=>⟨by kernel_rfl⟩) fun aC aD w a hF hS=>?_)
   refine rn 1 19 [(0,sv ad1 p0 cap2),(1,iv p1),(5,sv aC aE aD),(6,iv a0)] hF fun a hF=>?_
   refine WI.fin rfl (norm_block <| norm_then <| ?_)
   refine WI.region ?_
   replace h:=bindS h
   obtain ⟨aF,aN,h⟩:=h
   refine rno 3 [.run [] (binOp .add 3 (iv a0) (iv 1)) (iv aF)] 3 [(0,sv ad1 p0 cap2),(1,iv p1),(5,sv aC aE aD),(6,iv aF)] hF (ocons (obAddC (fun _=>aN)) onil) fun a hF=>?_
   refine wfn rfl ?_
   rw [hk2] at h
   exact ⟨nk2,Nat.lt_succ_self _,aE,aF,aC,aD,hF.sub (by kernel_rfl),St.pick [1,2] (by decide) hS,h⟩
  ·replace h:=bif_f h hc
   refine wpIn_exit (exit_then <| exit_then <| exit_hit <| norm_then ?_)
   exact ⟨a1,a2,a3,hF.sub (by kernel_rfl),St.pick [0,1] (by decide) hS,h⟩
 rintro a w ⟨a4,a8,a9,hF,hS,h⟩
 rw [ref03_wide_K1] at h
 refine esr ?_
 refine rn 1 1 [(31,sv a8 a4 a9)] hF fun a hF=>?_
 replace h:=bindS h
 obtain ⟨a7,aQ,h⟩:=h
 refine SK.wi (callK (f:=64) (args:=#[sv a8 a4 a9]) (R:=fun v w2=>∃ a5 a6,v = sv a5 a7 a6∧St w [arr 25 2 api_Span.cells a5 a7.length a6 a7] w2) (fun aL=>[(32,aL)]) hF (by kernel_rfl) ⟨by kernel_rfl⟩ (Calls.mono (ref03_united_ok F a4 _ aQ (memOf w) w (memOf_at w) (Arr.toM (hS.arr (i:=0) rfl))) (by rintro e w2 ⟨a5,a6,rfl,h⟩; exact ⟨_,rfl,a5,a6,rfl,h⟩)) (fun _=>⟨by kernel_rfl⟩) ?_)
 rintro aL w a ⟨a5,a6,rfl,hQ⟩ hF
 replace hS : St w0 [arr 25 2 api_Span.cells a5 a7.length a6 a7,arr 25 2 api_Span.cells a8 a4.length a9 a4,fz w0 μ] w:=hS.madeL hQ
 refine rn 1 3 [(4,sv a5 a7 a6)] hF fun a hF=>?_
 refine wfn rfl ?_
 refine wpIn_ret (fn_ret [.tmp 4] [sv a5 a7 a6] hF rfl ⟨rfl,trivial⟩ ?_)
 have hr_:=Option.some.inj h
 subst hr_
 exact ⟨_,_,rfl,St.pick [0] (by decide) hS⟩
end Go.Proofs.Ytbhjgebjojdohaa
