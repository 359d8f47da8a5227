import Derived.Test.YtbhjgebjojdohaaF11XD
import Derived.Test.YtbhjgebjojdohaaProg
import Derived.Test.YtbhjgebjojdohaaF11XW0
import Derived.Test.YtbhjgebjojdohaaF11XW2
import Derived.Test.YtbhjgebjojdohaaF11XW4
namespace Go.Proofs.Ytbhjgebjojdohaa
open Go Go.RowKit Go.Eng
set_option maxRecDepth 10000
set_option maxHeartbeats 4000000
set_option linter.unusedVariables false
set_option linter.unusedSimpArgs false
theorem fold_Turn_ok (F : Nat) (p0 : (List (List (List api_Span)))) (p1 : Int) (p2 : Int) (res : ((List (List (List api_Span)))×Int)) (h : fold_Turn F p0 p1 p2 = some res) (μ : Frz) (w0 : World) (hm : FrzAt μ w0) {ad1 : Option Addr} {cap2 : Nat} {css3 : List (List Value)} (hA4 : ArrQ μ 1 Rp48 ad1 cap2 css3 p0) : Calls Try.prog 27 #[sv ad1 p0 cap2,iv p1,iv p2] w0 (fun e w=>∃ (ν_ : Frz) (zad0 : Option Addr) (zcap0 : Nat) (zcss0 : List (List Value)),μ.ext w0.heap.size ν_∧e = .returned (.tuple #[sv zad0 res.1 zcap0,iv res.2])∧All2 (Rp48 ν_) zcss0 res.1∧St w0 [fz w0 ν_,arr 48 1 (fN 1) zad0 res.1.length zcap0 zcss0] w):=by
 obtain ⟨hlow,hS⟩:=hm.init
 have hext:=Frz.ext_refl w0.heap.size μ
 rw [fold_Turn] at h
 refine fn_enterW Try.func27 rfl 77 [(0,sv ad1 p0 cap2),(1,iv p1),(2,iv p2)] rfl rfl (by kernel_rfl) fun a w hw hF=>?_
 replace hS : St w0 [fz w0 μ] w:=by rw [hw]; exact hS
 clear hw
 refine esr ?_
 refine rn 2 2 [(0,sv ad1 p0 cap2),(1,iv p1),(2,iv p2)] hF fun a hF=>?_
 refine wfn rfl ?_
 refine eseq ?_
 refine esr ?_
 refine rn 3 3 [(0,sv ad1 p0 cap2),(1,iv p1),(2,iv p2),(21,.bool (decide ((ln p0) > 360)))] hF fun a hF=>?_
 refine wfn rfl ?_
 refine econd hF rfl (fun hc=>?_) (fun hc=>?_)
 ·replace h:=bif_t h hc
  refine esr ?_
  refine rn 2 2 [(6,.slice none 0 0),(7,iv 9)] hF fun a hF=>?_
  refine wfn rfl ?_
  refine wpIn_ret (ret_then <| fn_ret [.tmp 6,.tmp 7] [.slice none 0 0,iv 9] hF rfl ⟨rfl,rfl,trivial⟩ ?_)
  have hr_:=Option.some.inj h
  subst hr_
  replace hS:=hS.nilarr 48 1 (fN 1)
  exact ⟨μ,_,_,_,hext,rfl,All2.nil,St.pick [1,0] (by decide) hS⟩
 ·replace h:=bif_f h hc
  refine wpIn_skip (norm_then ?_)
  refine ecut (fun a w=>Fr 77 [] [(0,sv ad1 p0 cap2),(1,iv p1),(2,iv p2)] a∧St w0 [fz w0 μ] w∧fold_Turn_K1 F p0 p1 p2 = some res) ?_ ?_
  ·skip
   refine esr ?_
   refine rn 3 3 [(0,sv ad1 p0 cap2),(1,iv p1),(2,iv p2),(22,sv ad1 p0 cap2),(23,iv (ln p0)),(24,iv 0)] hF fun a hF=>?_
   refine wfn rfl ?_
   refine wpIn_block ?_
   refine eloop (fun n_ a w=>∃ (aI : Int),Fr 77 [] [(0,sv ad1 p0 cap2),(1,iv p1),(2,iv p2),(22,sv ad1 p0 cap2),(23,iv (ln p0)),(24,iv aI)] a∧St w0 [fz w0 μ] w∧fold_Turn_L6 F p0 p1 p2 n_ aI = some res) F ⟨0,hF.sub (by kernel_rfl),St.pick [0] (by decide) hS,h⟩ ?_
   rintro nk6 a w ⟨aI,hF,hS,h⟩
   rcases nk6 with _ | nk6
   ·cases (show (none : Option ((List (List (List api_Span)))×Int)) = some res from h)
   obtain ⟨k6,hk6⟩ : ∃ k,k = fold_Turn_L6 F p0 p1 p2 nk6:=⟨_,rfl⟩
   replace h : fold_Turn_B6 F p0 p1 p2 k6 aI = some res:=by rw [hk6]; exact h
   rw [fold_Turn_B6] at h
   refine esr ?_
   refine rn 1 1 [(0,sv ad1 p0 cap2),(1,iv p1),(2,iv p2),(22,sv ad1 p0 cap2),(23,iv (ln p0)),(24,iv aI),(25,.bool (decide (aI < (ln p0))))] hF fun a hF=>?_
   refine wfn rfl ?_
   refine eseq ?_
   refine econd hF rfl (fun hc=>?_) (fun hc=>?_)
   ·replace h:=bif_t h hc
    refine wpIn_skip (norm_then ?_)
    refine eseq ?_
    refine wpIn_block ?_
    refine esr ?_
    replace h:=bindS h
    obtain ⟨bS,cR,h⟩:=h
    obtain ⟨d4,c2,cK⟩:=getI_all2 hA4.2 cR
    obtain ⟨bW,bZ,d8,rfl,dA⟩:=cK
    refine rno 3 [.run [] (Instr.indexAt 54 (sv ad1 p0 cap2) (iv aI)) (.pointer (some (slAddr ad1 aI 1))),.run [] (Instr.loadAt 48 (.pointer (some (slAddr ad1 aI 1)))) (sv bW bS bZ)] 3 [(0,sv ad1 p0 cap2),(1,iv p1),(2,iv p2),(9,sv bW bS bZ),(22,sv ad1 p0 cap2),(23,iv (ln p0)),(24,iv aI)] hF (ocons (obIdxQ (hA4.at (hS.frz (i:=0) rfl hlow)) (by kernel_rfl) (fun _=>c2)) (ocons (obElQ (i:=aI) 0 (fN_len 1) (fun _ hd=>(hA4.at ((hS.at_ hd).frz (i:=0) rfl hlow))) (by kernel_rfl) (fun _=>c2) rfl) onil)) fun a hF=>?_
    refine wfn rfl ?_
    refine esr ?_
    replace h:=bindS h
    obtain ⟨cA,cS,h⟩:=h
    obtain ⟨d5,c3,cL⟩:=getI_all2 hA4.2 cS
    obtain ⟨cE,cF,d9,rfl,dB⟩:=cL
    refine rno 7 [.run [] (Instr.indexAt 54 (sv ad1 p0 cap2) (iv 0)) (.pointer (some (slAddr ad1 0 1))),.run [] (Instr.loadAt 48 (.pointer (some (slAddr ad1 0 1)))) (sv cE cA cF)] 7 [(0,sv ad1 p0 cap2),(1,iv p1),(2,iv p2),(22,sv ad1 p0 cap2),(23,iv (ln p0)),(24,iv aI),(34,.bool ((ln bS) != (ln cA)))] hF (ocons (obIdxQ (hA4.at (hS.frz (i:=0) rfl hlow)) (by kernel_rfl) (fun _=>c3)) (ocons (obElQ (i:=0) 0 (fN_len 1) (fun _ hd=>(hA4.at ((hS.at_ hd).frz (i:=0) rfl hlow))) (by kernel_rfl) (fun _=>c3) rfl) onil)) fun a hF=>?_
    refine wfn rfl ?_
    refine econd hF rfl (fun hc=>?_) (fun hc=>?_)
    ·replace h:=bif_t h hc
     refine esr ?_
     refine rn 2 2 [(6,.slice none 0 0),(7,iv 11)] hF fun a hF=>?_
     refine wfn rfl ?_
     refine wpIn_ret (ret_block <| ret_then <| ret_then <| ret_block <| ret_then <| fn_ret [.tmp 6,.tmp 7] [.slice none 0 0,iv 11] hF rfl ⟨rfl,rfl,trivial⟩ ?_)
     have hr_:=Option.some.inj h
     subst hr_
     replace hS:=hS.nilarr 48 1 (fN 1)
     exact ⟨μ,_,_,_,hext,rfl,All2.nil,St.pick [1,0] (by decide) hS⟩
    ·replace h:=bif_f h hc
     refine wpIn_skip (norm_block <| norm_then <| ?_)
     refine WI.region ?_
     replace h:=bindS h
     obtain ⟨bV,cV,h⟩:=h
     refine rno 2 [.run [] (binOp .add 3 (iv aI) (iv 1)) (iv bV)] 2 [(0,sv ad1 p0 cap2),(1,iv p1),(2,iv p2),(22,sv ad1 p0 cap2),(23,iv (ln p0)),(24,iv bV)] hF (ocons (obAddC (fun _=>cV)) onil) fun a hF=>?_
     refine wfn rfl ?_
     rw [hk6] at h
     exact ⟨nk6,Nat.lt_succ_self _,bV,hF.sub (by kernel_rfl),St.pick [0] (by decide) hS,h⟩
   ·replace h:=bif_f h hc
    refine wpIn_exit (exit_then <| exit_then <| exit_hit <| norm_then ?_)
    exact ⟨hF.sub (by kernel_rfl),St.pick [0] (by decide) hS,h⟩
  rintro a w ⟨hF,hS,h⟩
  rw [fold_Turn_K1] at h
  refine esr ?_
  refine rn 1 1 [(0,sv ad1 p0 cap2),(1,iv p1),(2,iv p2),(10,.slice none 0 0)] hF fun a hF=>?_
  refine wfn rfl ?_
  have aV:=Frz.le_refl μ
  refine ecut (fun a w=>∃ (aL : (List (List (List api_Span)))) (ν160 : Frz) (aT : Option Addr) (aU : Nat) (bP : List (List Value)),Fr 77 [] [(1,iv p1),(2,iv p2),(10,sv aT aL aU)] a∧St w0 [arr 135 1 (fN 1) aT aL.length aU bP,fz w0 ν160] w∧(All2 (Rp135 ν160) bP aL)∧(μ.le ν160)∧(μ.ext w0.heap.size ν160)∧(FrzIn w0 ν160)∧fold_Turn_K2 F p1 p2 aL = some res) ?_ ?_
  ·skip
   refine esr ?_
   refine rn 3 3 [(1,iv p1),(2,iv p2),(10,.slice none 0 0),(36,sv ad1 p0 cap2),(37,iv (ln p0)),(38,iv 0)] hF fun a hF=>?_
   refine wfn rfl ?_
   refine wpIn_block ?_
   have c5:=Frz.le_refl μ
   replace hS:=hS.nilarr 135 1 (fN 1)
   refine eloop (fun n_ a w=>∃ (a2 : (List (List (List api_Span)))) (a3 : Int) (ν466 : Frz) (a6 : Option Addr) (a8 : Nat) (aQ : List (List Value)),Fr 77 [] [(1,iv p1),(2,iv p2),(10,sv a6 a2 a8),(36,sv ad1 p0 cap2),(37,iv (ln p0)),(38,iv a3)] a∧St w0 [arr 135 1 (fN 1) a6 a2.length a8 aQ,fz w0 ν466] w∧(All2 (Rp135 ν466) aQ a2)∧(μ.le ν466)∧(μ.ext w0.heap.size ν466)∧(FrzIn w0 ν466)∧fold_Turn_L5 F p0 p1 p2 n_ a2 a3 = some res) F ⟨[],0,μ,none,0,[],hF.sub (by kernel_rfl),St.pick [0,1] (by decide) hS,All2.nil,c5,hext,hlow,h⟩ ?_
   clear c5
   rintro nk5 a w ⟨a2,a3,ν466,a6,a8,aQ,hF,hS,b3,aZ,hext,hlow,h⟩
   rcases nk5 with _ | nk5
   ·cases (show (none : Option ((List (List (List api_Span)))×Int)) = some res from h)
   replace hA4:=hA4.mono Rp48.mono aZ
   replace aV:=Frz.le_trans aV aZ
   obtain ⟨k5,hk5⟩ : ∃ k,k = fold_Turn_L5 F p0 p1 p2 nk5:=⟨_,rfl⟩
   replace h : fold_Turn_B5 F p0 p1 p2 k5 a2 a3 = some res:=by rw [hk5]; exact h
   rw [fold_Turn_B5] at h
   refine esr ?_
   refine rn 1 1 [(1,iv p1),(2,iv p2),(10,sv a6 a2 a8),(36,sv ad1 p0 cap2),(37,iv (ln p0)),(38,iv a3),(39,.bool (decide (a3 < (ln p0))))] hF fun a hF=>?_
   refine wfn rfl ?_
   refine eseq ?_
   refine econd hF rfl (fun hc=>?_) (fun hc=>?_)
   ·replace h:=bif_t h hc
    refine wpIn_skip (norm_then ?_)
    refine eseq ?_
    refine wpIn_block ?_
    refine esr ?_
    replace h:=bindS h
    obtain ⟨bJ,cQ,h⟩:=h
    obtain ⟨d3,c1,cJ⟩:=getI_all2 hA4.2 cQ
    obtain ⟨bL,bN,d7,rfl,bB⟩:=cJ
    refine rno 3 [.run [] (Instr.indexAt 54 (sv ad1 p0 cap2) (iv a3)) (.pointer (some (slAddr ad1 a3 1))),.run [] (Instr.loadAt 48 (.pointer (some (slAddr ad1 a3 1)))) (sv bL bJ bN)] 3 [(1,iv p1),(2,iv p2),(10,sv a6 a2 a8),(12,sv bL bJ bN),(36,sv ad1 p0 cap2),(37,iv (ln p0)),(38,iv a3)] hF (ocons (obIdxQ (hA4.at (hS.frz (i:=1) rfl hlow)) (by kernel_rfl) (fun _=>c1)) (ocons (obElQ (i:=a3) 0 (fN_len 1) (fun _ hd=>(hA4.at ((hS.at_ hd).frz (i:=1) rfl hlow))) (by kernel_rfl) (fun _=>c1) rfl) onil)) fun a hF=>?_
    refine wfn rfl ?_
    refine esr ?_
    refine rn 1 1 [(1,iv p1),(2,iv p2),(10,sv a6 a2 a8),(36,sv ad1 p0 cap2),(37,iv (ln p0)),(38,iv a3),(43,sv bL bJ bN)] hF fun a hF=>?_
    replace h:=bindS h
    obtain ⟨a1,cY,h⟩:=h
    refine SK.wi (callK (f:=65) (args:=#[sv bL bJ bN]) (R:=fun v w2=>∃ ν485 a7 a9 aY,ν466.ext w.heap.size ν485∧v = .tuple #[sv a7 a1.1 a9,iv a1.2]∧All2 (Rp132 ν485) aY a1.1∧St w [frzR w.heap.size ν485,arr 132 1 (fN 1) a7 a1.1.length a9 aY] w2) (fun cD=>[(1,iv p1),(2,iv p2),(10,sv a6 a2 a8),(36,sv ad1 p0 cap2),(37,iv (ln p0)),(38,iv a3),(44,cD)]) hF (by kernel_rfl) ⟨by kernel_rfl⟩ (Calls.mono (fold_row_ok F bJ _ cY ν466 w (hS.frz (i:=1) rfl hlow) bB) (by rintro e w2 ⟨ν485,a7,a9,aY,aS,rfl,bE,h⟩; exact ⟨_,rfl,ν485,a7,a9,aY,aS,rfl,bE,h⟩)) (fun _=>⟨by kernel_rfl⟩) ?_)
    rintro cD w a ⟨ν485,a7,a9,aY,aS,rfl,bE,hQ⟩ hF
    replace hext:=Frz.ext_trans hext (Frz.ext_mono aS hS.ext.size)
    obtain ⟨hlow,hS⟩:=hS.frzMerge (i:=1) rfl hlow aS hQ
    replace hA4:=hA4.mono Rp48.mono aS.1
    replace b3:=All2.mono Rp135.mono aS.1 b3
    replace bB:=bB.mono Rp43.mono aS.1
    replace aV:=Frz.le_trans aV aS.1
    replace aZ:=Frz.le_trans aZ aS.1
    replace hS : St w0 [arr 132 1 (fN 1) a7 a1.1.length a9 aY,arr 135 1 (fN 1) a6 a2.length a8 aQ,fz w0 ν485] w:=hS
    refine rn 5 7 [(1,iv p1),(2,iv p2),(10,sv a6 a2 a8),(13,sv a7 a1.1 a9),(14,iv a1.2),(36,sv ad1 p0 cap2),(37,iv (ln p0)),(38,iv a3)] hF fun a hF=>?_
    refine wfn rfl ?_
    refine eseq ?_
    refine esr ?_
    refine rn 2 2 [(1,iv p1),(2,iv p2),(10,sv a6 a2 a8),(13,sv a7 a1.1 a9),(14,iv a1.2),(36,sv ad1 p0 cap2),(37,iv (ln p0)),(38,iv a3),(48,.bool (a1.2 != 0))] hF fun a hF=>?_
    refine wfn rfl ?_
    refine econd hF rfl (fun hc=>?_) (fun hc=>?_)
    ·replace h:=bif_t h hc
     refine esr ?_
     refine rn 3 3 [(6,.slice none 0 0),(7,iv a1.2)] hF fun a hF=>?_
     refine wfn rfl ?_
     refine wpIn_ret (ret_then <| ret_block <| ret_then <| ret_then <| ret_block <| ret_then <| fn_ret [.tmp 6,.tmp 7] [.slice none 0 0,iv a1.2] hF rfl ⟨rfl,rfl,trivial⟩ ?_)
     have hr_:=Option.some.inj h
     subst hr_
     replace hS:=hS.nilarr 48 1 (fN 1)
     exact ⟨ν485,_,_,_,hext,rfl,All2.nil,St.pick [3,0] (by decide) hS⟩
    ·replace h:=bif_f h hc
     refine wpIn_skip (norm_then ?_)
     refine WI.region ?_
     refine rn 2 2 [(1,iv p1),(2,iv p2),(10,sv a6 a2 a8),(36,sv ad1 p0 cap2),(37,iv (ln p0)),(38,iv a3),(50,sv a6 a2 a8),(51,sv a7 a1.1 a9)] hF fun a hF=>?_
     obtain ⟨ν492,b0,hlow,hS,d1⟩:=hS.freeze (i:=2) (j:=0) rfl rfl (by decide) hlow
     replace hA4:=hA4.mono Rp48.mono b0.1
     replace b3:=All2.mono Rp135.mono b0.1 b3
     replace bB:=bB.mono Rp43.mono b0.1
     replace bE:=All2.mono Rp132.mono b0.1 bE
     replace aV:=Frz.le_trans aV b0.1
     replace aZ:=Frz.le_trans aZ b0.1
     replace hext:=Frz.ext_trans hext b0
     replace hS : St w0 [arr 135 1 (fN 1) a6 a2.length a8 aQ,fz w0 ν492] w:=hS
     have cH:=ArrQ.of_arr (l:=a1.1) d1 bE Rp132.mono (Frz.le_refl _)
     have c9 : All2 (Rp135 ν492) ([[sv a7 a1.1 a9]] : List (List Value)) [a1.1]:=(All2.cons ⟨a7,a9,aY,rfl,cH⟩ All2.nil)
     refine SK.wi (litQK (e:=135) (sz:=1) (f:=fN 1) (t:=147) (len:=1) (fun bY=>[(1,iv p1),(2,iv p2),(10,sv a6 a2 a8),(36,sv ad1 p0 cap2),(37,iv (ln p0)),(38,iv a3),(50,sv a6 a2 a8),(52,sb bY 1)]) #[(0,sv a7 a1.1 a9)] #[sv a7 a1.1 a9] ([[sv a7 a1.1 a9]] : List (List Value)) ([a1.1]) hF hS (by kernel_rfl) ⟨by kernel_rfl⟩ (by kernel_rfl) (fN_len 1) rfl rfl rfl (by kernel_rfl) (fun _=>⟨by kernel_rfl⟩) fun bY w a hF hS=>?_)
     replace h:=bindS h
     obtain ⟨bH,c7,h⟩:=h
     have cO : All2 (Rp135 ν492) (aQ ++ ([[sv a7 a1.1 a9]] : List (List Value))) bH:=by rw [(apd_some c7).1]; exact All2.app b3 c9
     refine SK.wi (appQK (t:=147) (ty:=147) (bytes:=24) (c:=aQ) (c':=([[sv a7 a1.1 a9]] : List (List Value))) (l:=a2) (l':=([a1.1])) (fun b6 b9=>[(1,iv p1),(2,iv p2),(10,sv a6 a2 a8),(36,sv ad1 p0 cap2),(37,iv (ln p0)),(38,iv a3),(53,sv b6 bH b9)]) 1 hF hS rfl (by kernel_rfl) ⟨by kernel_rfl⟩ (by kernel_rfl) (hS.arr (i:=0) rfl) (ArrQ.one c9 Rp135.one) c7 (fun _ _=>⟨by kernel_rfl⟩) fun b6 b9 w a hF hS=>?_)
     refine rn 1 5 [(1,iv p1),(2,iv p2),(10,sv b6 bH b9),(36,sv ad1 p0 cap2),(37,iv (ln p0)),(38,iv a3)] hF fun a hF=>?_
     refine WI.fin rfl (norm_block <| norm_then <| ?_)
     refine WI.region ?_
     replace h:=bindS h
     obtain ⟨bU,cU,h⟩:=h
     refine rno 2 [.run [] (binOp .add 3 (iv a3) (iv 1)) (iv bU)] 2 [(1,iv p1),(2,iv p2),(10,sv b6 bH b9),(36,sv ad1 p0 cap2),(37,iv (ln p0)),(38,iv bU)] hF (ocons (obAddC (fun _=>cU)) onil) fun a hF=>?_
     refine wfn rfl ?_
     rw [hk5] at h
     exact ⟨nk5,Nat.lt_succ_self _,bH,bU,ν492,b6,b9,(aQ ++ ([[sv a7 a1.1 a9]] : List (List Value))),hF.sub (by kernel_rfl),St.pick [1,2] (by decide) hS,cO,aZ,hext,hlow,h⟩
   ·replace h:=bif_f h hc
    refine wpIn_exit (exit_then <| exit_then <| exit_hit <| norm_then ?_)
    exact ⟨a2,ν466,a6,a8,aQ,hF.sub (by kernel_rfl),St.pick [0,1] (by decide) hS,b3,aV,hext,hlow,h⟩
  clear aV
  rintro a w ⟨aL,ν160,aT,aU,bP,hF,hS,bC,aH,hext,hlow,h⟩
  replace hA4:=hA4.mono Rp48.mono aH
  rw [fold_Turn_K2] at h
  refine eseq ?_
  refine esr ?_
  refine rx 4 [.call [] 66 #[iv p1,iv p2] (iv (fold_limited p1 p2))] 4 [(1,iv p1),(2,iv p2),(10,sv aT aL aU),(15,iv (fold_limited p1 p2))] hF (ocons (show Ob.ok _ Ext _ _ from fun hk w2 hd=>fold_limited_ok p1 p2 _ rfl _ w2 (memOf_at w2)) onil) fun a w hF hx=>?_
  replace hS:=hS.later hx
  refine wfn rfl ?_
  refine esr ?_
  refine rn 2 2 [(1,iv p1),(2,iv p2),(10,sv aT aL aU),(15,iv (fold_limited p1 p2)),(59,.bool ((fold_limited p1 p2) != 0))] hF fun a hF=>?_
  refine wfn rfl ?_
  refine econd hF rfl (fun hc=>?_) (fun hc=>?_)
  ·replace h:=bif_t h hc
   refine esr ?_
   refine rn 3 3 [(6,.slice none 0 0),(7,iv (fold_limited p1 p2))] hF fun a hF=>?_
   refine wfn rfl ?_
   refine wpIn_ret (ret_then <| fn_ret [.tmp 6,.tmp 7] [.slice none 0 0,iv (fold_limited p1 p2)] hF rfl ⟨rfl,rfl,trivial⟩ ?_)
   have hr_:=Option.some.inj h
   subst hr_
   replace hS:=hS.nilarr 48 1 (fN 1)
   exact ⟨ν160,_,_,_,hext,rfl,All2.nil,St.pick [2,0] (by decide) hS⟩
  ·replace h:=bif_f h hc
   refine wpIn_skip (norm_then ?_)
   refine esr ?_
   refine rn 1 1 [(1,iv p1),(2,iv p2),(10,sv aT aL aU),(16,.slice none 0 0)] hF fun a hF=>?_
   refine wfn rfl ?_
   have aJ:=Frz.le_refl ν160
   refine ecut (fun a w=>∃ (b1 : (List (List (List api_Span)))) (ν280 : Frz) (b4 : Option Addr) (b7 : Nat) (bQ : List (List Value)),Fr 77 [] [(16,sv b4 b1 b7)] a∧St w0 [arr 48 1 (fN 1) b4 b1.length b7 bQ,fz w0 ν280] w∧(All2 (Rp48 ν280) bQ b1)∧(ν160.le ν280)∧(μ.ext w0.heap.size ν280)∧(FrzIn w0 ν280)∧fold_Turn_K3 b1 = some res) ?_ ?_
   ·skip
    refine esr ?_
    refine rn 3 3 [(16,.slice none 0 0),(61,sv aT aL aU),(62,iv p1),(63,iv p2)] hF fun a hF=>?_
    obtain ⟨ν288,bF,hlow,hS,cZ⟩:=hS.freeze (i:=1) (j:=0) rfl rfl (by decide) hlow
    replace hA4:=hA4.mono Rp48.mono bF.1
    replace bC:=All2.mono Rp135.mono bF.1 bC
    replace aH:=Frz.le_trans aH bF.1
    replace aJ:=Frz.le_trans aJ bF.1
    replace hext:=Frz.ext_trans hext bF
    replace hS : St w0 [fz w0 ν288] w:=hS
    have aR:=ArrQ.of_arr (l:=aL) cZ bC Rp135.mono (Frz.le_refl _)
    replace h:=bindS h
    obtain ⟨a0,cW,h⟩:=h
    refine SK.wi (callK (f:=76) (args:=#[sv aT aL aU,iv p1,iv p2]) (R:=fun v w2=>∃ ν294 a5 aB bO,ν288.ext w.heap.size ν294∧v = sv a5 a0 aB∧ArrQ ν294 1 Rp135 a5 aB bO a0∧St w [frzR w.heap.size ν294] w2) (fun cB=>[(16,.slice none 0 0),(64,cB)]) hF (by kernel_rfl) ⟨by kernel_rfl⟩ (Calls.mono (fold_settle_ok F aL p1 p2 _ cW ν288 w (hS.frz (i:=0) rfl hlow) aR) (by rintro e w2 ⟨ν294,a5,aB,bO,aW,rfl,aM,h⟩; exact ⟨_,rfl,ν294,a5,aB,bO,aW,rfl,aM,h⟩)) (fun _=>⟨by kernel_rfl⟩) ?_)
    rintro cB w a ⟨ν294,a5,aB,bO,aW,rfl,aM,hQ⟩ hF
    replace hext:=Frz.ext_trans hext (Frz.ext_mono aW hS.ext.size)
    obtain ⟨hlow,hS⟩:=hS.frzMerge (i:=0) rfl hlow aW hQ
    replace hA4:=hA4.mono Rp48.mono aW.1
    replace aR:=aR.mono Rp135.mono aW.1
    replace aH:=Frz.le_trans aH aW.1
    replace aJ:=Frz.le_trans aJ aW.1
    replace hS : St w0 [fz w0 ν294] w:=hS
    refine rn 2 6 [(16,.slice none 0 0),(64,sv a5 a0 aB),(65,iv (ln a0)),(66,iv 0)] hF fun a hF=>?_
    refine wfn rfl ?_
    refine wpIn_block ?_
    have c4:=Frz.le_refl ν294
    replace hS:=hS.nilarr 48 1 (fN 1)
    refine eloop (fun n_ a w=>∃ (a4 : (List (List (List api_Span)))) (aA : Int) (ν364 : Frz) (aC : Option Addr) (aD : Nat) (aP : List (List Value)),Fr 77 [] [(16,sv aC a4 aD),(64,sv a5 a0 aB),(65,iv (ln a0)),(66,iv aA)] a∧St w0 [arr 48 1 (fN 1) aC a4.length aD aP,fz w0 ν364] w∧(All2 (Rp48 ν364) aP a4)∧(ν294.le ν364)∧(μ.ext w0.heap.size ν364)∧(FrzIn w0 ν364)∧fold_Turn_L4 F a0 n_ a4 aA = some res) F ⟨[],0,ν294,none,0,[],hF.sub (by kernel_rfl),St.pick [0,1] (by decide) hS,All2.nil,c4,hext,hlow,h⟩ ?_
    clear c4
    rintro nk4 a w ⟨a4,aA,ν364,aC,aD,aP,hF,hS,b2,aN,hext,hlow,h⟩
    rcases nk4 with _ | nk4
    ·cases (show (none : Option ((List (List (List api_Span)))×Int)) = some res from h)
    replace hA4:=hA4.mono Rp48.mono aN
    replace aR:=aR.mono Rp135.mono aN
    replace aM:=aM.mono Rp135.mono aN
    replace aH:=Frz.le_trans aH aN
    replace aJ:=Frz.le_trans aJ aN
    obtain ⟨k4,hk4⟩ : ∃ k,k = fold_Turn_L4 F a0 nk4:=⟨_,rfl⟩
    replace h : fold_Turn_B4 F a0 k4 a4 aA = some res:=by rw [hk4]; exact h
    rw [fold_Turn_B4] at h
    refine esr ?_
    refine rn 1 1 [(16,sv aC a4 aD),(64,sv a5 a0 aB),(65,iv (ln a0)),(66,iv aA),(67,.bool (decide (aA < (ln a0))))] hF fun a hF=>?_
    refine wfn rfl ?_
    refine eseq ?_
    refine econd hF rfl (fun hc=>?_) (fun hc=>?_)
    ·replace h:=bif_t h hc
     refine wpIn_skip (norm_then ?_)
     refine eseq ?_
     refine wpIn_block ?_
     refine esr ?_
     replace h:=bindS h
     obtain ⟨bI,cP,h⟩:=h
     obtain ⟨d2,c0,cI⟩:=getI_all2 aM.2 cP
     obtain ⟨bK,bM,d6,rfl,bA⟩:=cI
     refine rno 3 [.run [] (Instr.indexAt 147 (sv a5 a0 aB) (iv aA)) (.pointer (some (slAddr a5 aA 1))),.run [] (Instr.loadAt 135 (.pointer (some (slAddr a5 aA 1)))) (sv bK bI bM)] 3 [(16,sv aC a4 aD),(18,sv bK bI bM),(64,sv a5 a0 aB),(65,iv (ln a0)),(66,iv aA)] hF (ocons (obIdxQ (aM.at (hS.frz (i:=1) rfl hlow)) (by kernel_rfl) (fun _=>c0)) (ocons (obElQ (i:=aA) 0 (fN_len 1) (fun _ hd=>(aM.at ((hS.at_ hd).frz (i:=1) rfl hlow))) (by kernel_rfl) (fun _=>c0) rfl) onil)) fun a hF=>?_
     refine wfn rfl ?_
     refine WI.region ?_
     refine rn 2 2 [(16,sv aC a4 aD),(64,sv a5 a0 aB),(65,iv (ln a0)),(66,iv aA),(70,sv aC a4 aD),(71,sv bK bI bM)] hF fun a hF=>?_
     replace h:=bindS h
     obtain ⟨aE,cX,h⟩:=h
     refine SK.wi (callK (f:=70) (args:=#[sv bK bI bM]) (R:=fun v w2=>∃ ν383 aF aG aX,ν364.ext w.heap.size ν383∧v = sv aF aE aG∧All2 (Rp43 ν383) aX aE∧St w [frzR w.heap.size ν383,arr 43 1 (fN 1) aF aE.length aG aX] w2) (fun cC=>[(16,sv aC a4 aD),(64,sv a5 a0 aB),(65,iv (ln a0)),(66,iv aA),(70,sv aC a4 aD),(72,cC)]) hF (by kernel_rfl) ⟨by kernel_rfl⟩ (Calls.mono (fold_back_ok F bI _ cX ν364 w (hS.frz (i:=1) rfl hlow) bA) (by rintro e w2 ⟨ν383,aF,aG,aX,aK,rfl,bD,h⟩; exact ⟨_,rfl,ν383,aF,aG,aX,aK,rfl,bD,h⟩)) (fun _=>⟨by kernel_rfl⟩) ?_)
     rintro cC w a ⟨ν383,aF,aG,aX,aK,rfl,bD,hQ⟩ hF
     replace hext:=Frz.ext_trans hext (Frz.ext_mono aK hS.ext.size)
     obtain ⟨hlow,hS⟩:=hS.frzMerge (i:=1) rfl hlow aK hQ
     replace hA4:=hA4.mono Rp48.mono aK.1
     replace aR:=aR.mono Rp135.mono aK.1
     replace aM:=aM.mono Rp135.mono aK.1
     replace b2:=All2.mono Rp48.mono aK.1 b2
     replace bA:=bA.mono Rp132.mono aK.1
     replace aH:=Frz.le_trans aH aK.1
     replace aJ:=Frz.le_trans aJ aK.1
     replace aN:=Frz.le_trans aN aK.1
     replace hS : St w0 [arr 43 1 (fN 1) aF aE.length aG aX,arr 48 1 (fN 1) aC a4.length aD aP,fz w0 ν383] w:=hS
     obtain ⟨ν390,aO,hlow,hS,d0⟩:=hS.freeze (i:=2) (j:=0) rfl rfl (by decide) hlow
     replace hA4:=hA4.mono Rp48.mono aO.1
     replace aR:=aR.mono Rp135.mono aO.1
     replace aM:=aM.mono Rp135.mono aO.1
     replace b2:=All2.mono Rp48.mono aO.1 b2
     replace bA:=bA.mono Rp132.mono aO.1
     replace bD:=All2.mono Rp43.mono aO.1 bD
     replace aH:=Frz.le_trans aH aO.1
     replace aJ:=Frz.le_trans aJ aO.1
     replace aN:=Frz.le_trans aN aO.1
     replace hext:=Frz.ext_trans hext aO
     replace hS : St w0 [arr 48 1 (fN 1) aC a4.length aD aP,fz w0 ν390] w:=hS
     have cG:=ArrQ.of_arr (l:=aE) d0 bD Rp43.mono (Frz.le_refl _)
     have c8 : All2 (Rp48 ν390) ([[sv aF aE aG]] : List (List Value)) [aE]:=(All2.cons ⟨aF,aG,aX,rfl,cG⟩ All2.nil)
     refine SK.wi (litQK (e:=48) (sz:=1) (f:=fN 1) (t:=54) (len:=1) (fun bX=>[(16,sv aC a4 aD),(64,sv a5 a0 aB),(65,iv (ln a0)),(66,iv aA),(70,sv aC a4 aD),(73,sb bX 1)]) #[(0,sv aF aE aG)] #[sv aF aE aG] ([[sv aF aE aG]] : List (List Value)) ([aE]) hF hS (by kernel_rfl) ⟨by kernel_rfl⟩ (by kernel_rfl) (fN_len 1) rfl rfl rfl (by kernel_rfl) (fun _=>⟨by kernel_rfl⟩) fun bX w a hF hS=>?_)
     replace h:=bindS h
     obtain ⟨bG,c6,h⟩:=h
     have cN : All2 (Rp48 ν390) (aP ++ ([[sv aF aE aG]] : List (List Value))) bG:=by rw [(apd_some c6).1]; exact All2.app b2 c8
     refine SK.wi (appQK (t:=54) (ty:=54) (bytes:=24) (c:=aP) (c':=([[sv aF aE aG]] : List (List Value))) (l:=a4) (l':=([aE])) (fun b5 b8=>[(16,sv aC a4 aD),(64,sv a5 a0 aB),(65,iv (ln a0)),(66,iv aA),(74,sv b5 bG b8)]) 1 hF hS rfl (by kernel_rfl) ⟨by kernel_rfl⟩ (by kernel_rfl) (hS.arr (i:=0) rfl) (ArrQ.one c8 Rp48.one) c6 (fun _ _=>⟨by kernel_rfl⟩) fun b5 b8 w a hF hS=>?_)
     refine rn 1 6 [(16,sv b5 bG b8),(64,sv a5 a0 aB),(65,iv (ln a0)),(66,iv aA)] hF fun a hF=>?_
     refine WI.fin rfl (norm_block <| norm_then <| ?_)
     refine WI.region ?_
     replace h:=bindS h
     obtain ⟨bT,cT,h⟩:=h
     refine rno 2 [.run [] (binOp .add 3 (iv aA) (iv 1)) (iv bT)] 2 [(16,sv b5 bG b8),(64,sv a5 a0 aB),(65,iv (ln a0)),(66,iv bT)] hF (ocons (obAddC (fun _=>cT)) onil) fun a hF=>?_
     refine wfn rfl ?_
     rw [hk4] at h
     exact ⟨nk4,Nat.lt_succ_self _,bG,bT,ν390,b5,b8,(aP ++ ([[sv aF aE aG]] : List (List Value))),hF.sub (by kernel_rfl),St.pick [1,2] (by decide) hS,cN,aN,hext,hlow,h⟩
    ·replace h:=bif_f h hc
     refine wpIn_exit (exit_then <| exit_then <| exit_hit <| norm_then ?_)
     exact ⟨a4,ν364,aC,aD,aP,hF.sub (by kernel_rfl),St.pick [0,1] (by decide) hS,b2,aJ,hext,hlow,h⟩
   clear aJ
   rintro a w ⟨b1,ν280,b4,b7,bQ,hF,hS,cM,bR,hext,hlow,h⟩
   replace hA4:=hA4.mono Rp48.mono bR
   replace bC:=All2.mono Rp135.mono bR bC
   replace aH:=Frz.le_trans aH bR
   rw [fold_Turn_K3] at h
   refine esr ?_
   refine rn 3 3 [(6,sv b4 b1 b7),(7,iv 0)] hF fun a hF=>?_
   refine wfn rfl ?_
   refine wpIn_ret (fn_ret [.tmp 6,.tmp 7] [sv b4 b1 b7,iv 0] hF rfl ⟨rfl,rfl,trivial⟩ ?_)
   have hr_:=Option.some.inj h
   subst hr_
   exact ⟨ν280,_,_,_,hext,rfl,cM,St.pick [1,0] (by decide) hS⟩
end Go.Proofs.Ytbhjgebjojdohaa
