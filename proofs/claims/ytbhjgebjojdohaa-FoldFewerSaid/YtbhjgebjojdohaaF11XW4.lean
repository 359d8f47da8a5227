import Derived.Test.YtbhjgebjojdohaaF11XD
import Derived.Test.YtbhjgebjojdohaaProg
import Derived.Test.YtbhjgebjojdohaaF11XK
import Derived.Test.YtbhjgebjojdohaaF11XW0
import Derived.Test.YtbhjgebjojdohaaF11XW1
import Derived.Test.YtbhjgebjojdohaaF11XW2
import Derived.Test.YtbhjgebjojdohaaF11XW3
namespace Go.Proofs.Ytbhjgebjojdohaa
open Go Go.RowKit Go.Eng
set_option maxRecDepth 10000
set_option maxHeartbeats 4000000
set_option linter.unusedVariables false
set_option linter.unusedSimpArgs false
theorem fold_settle_ok (F : Nat) (p0 : (List (List (List api_Span)))) (p1 : Int) (p2 : Int) (res : (List (List (List api_Span)))) (h : fold_settle F p0 p1 p2 = some res) (μ : Frz) (w0 : World) (hm : FrzAt μ w0) {ad1 : Option Addr} {cap2 : Nat} {css3 : List (List Value)} (hA4 : ArrQ μ 1 Rp135 ad1 cap2 css3 p0) : Calls Try.prog 76 #[sv ad1 p0 cap2,iv p1,iv p2] w0 (fun e w=>∃ (ν_ : Frz) (dO : Option Addr) (dS : Nat) (eM : List (List Value)),μ.ext w0.heap.size ν_∧e = .returned (sv dO res dS)∧ArrQ ν_ 1 Rp135 dO dS eM res∧St w0 [fz w0 ν_] w):=by
 obtain ⟨hlow,hS⟩:=hm.init
 have hext:=Frz.ext_refl w0.heap.size μ
 rw [fold_settle] at h
 refine fn_enterW Try.func76 rfl 125 [(0,sv ad1 p0 cap2),(1,iv p1),(2,iv p2)] rfl rfl (by kernel_rfl) fun a w hw hF=>?_
 replace hS : St w0 [fz w0 μ] w:=by rw [hw]; exact hS
 clear hw
 refine esr ?_
 refine rn 1 1 [(0,sv ad1 p0 cap2),(1,iv p1),(2,iv p2)] hF fun a hF=>?_
 refine wfn rfl ?_
 refine esr ?_
 refine rn 3 3 [(0,sv ad1 p0 cap2),(20,sv ad1 p0 cap2),(21,iv p1),(22,iv p2)] hF fun a hF=>?_
 replace h:=bindS h
 obtain ⟨y5,hy5,h⟩:=h
 replace hS : St w0 [fz w0 μ] w:=hS
 replace hS : St w0 [fz w0 μ] w:=St.pick [0] (by decide) hS
 refine SK.wi (callK (f:=104) (args:=#[sv ad1 p0 cap2,iv p1,iv p2]) (R:=fun v w2=>∃ (ν6 : Frz) (b9 : Nat) (aC : Option Addr) (aD : Nat) (aS : List Hd) (aR : List (List (List Value))) (a3 : Nat) (B16 : List (fold_place×Hd)) (aB : List (List fold_bond)),μ.ext w0.heap.size ν6∧FrzIn w0 ν6∧v = pb b9∧(NestOk (Rp132 ν6) aS aR y5.sets)∧(MNestOk Eq B16 aB y5.bonds)∧St w0 [fz w0 ν6,blk b9 197 #[sv aC y5.sets aD,.map (some a3)],nestR 135 132 1 (fN 1) aC y5.sets.length aD aS aR,mnestR (fA fold_place.cells) 199 3 fold_bond.cells a3 B16 aB] w2) (fun v8=>[(0,sv ad1 p0 cap2),(23,v8)]) hF (by kernel_rfl) ⟨by kernel_rfl⟩ (Calls.mono (fold_weave_ok F p0 p1 p2 _ hy5 μ w0 w [] hlow hA4 hS) (by rintro e w2 ⟨ν6,b9,aC,aD,aS,aR,a3,B16,aB,hx7,hlow_,rfl,aE,dI,h⟩; exact ⟨_,rfl,ν6,b9,aC,aD,aS,aR,a3,B16,aB,hx7,hlow_,rfl,aE,dI,h⟩)) (fun _=>⟨by kernel_rfl⟩) ?_)
 rintro v8 w a ⟨ν6,b9,aC,aD,aS,aR,a3,B16,aB,hx7,hlow,rfl,aE,dI,hS⟩ hF
 replace hext:=Frz.ext_trans hext hx7
 replace hA4:=hA4.mono Rp135.mono hx7.1
 replace hS : St w0 [fz w0 ν6,blk b9 197 #[sv aC y5.sets aD,.map (some a3)],nestR 135 132 1 (fN 1) aC y5.sets.length aD aS aR,mnestR (fA fold_place.cells) 199 3 fold_bond.cells a3 B16 aB] w:=hS
 refine rn 1 5 [(0,sv ad1 p0 cap2),(7,pb b9)] hF fun a hF=>?_
 refine wfn rfl ?_
 refine esr ?_
 refine SK.wi (makeMapK fold_place Bool (fA fold_place.cells) Value.bool (t:=189) (fun a4=>[(0,sv ad1 p0 cap2),(7,pb b9),(24,.map (some a4))]) hF hS (by kernel_rfl) ⟨by kernel_rfl⟩ (fun _=>⟨by kernel_rfl⟩) fun a4 w a hF hS=>?_)
 refine SK.wi (allocK (t:=189) (fun a0=>[(0,sv ad1 p0 cap2),(7,pb b9),(8,pb a0),(24,.map (some a4))]) #[.map none] hF hS (by kernel_rfl) ⟨by kernel_rfl⟩ (by kernel_rfl) (fun _=>⟨by kernel_rfl⟩) fun a0 w a hF hS=>?_)
 refine SK.wi (storeK (t:=189) [(0,sv ad1 p0 cap2),(7,pb b9),(8,pb a0)] 0 0 (.map (some a4)) #[.map (some a4)] hF hS rfl (by kernel_rfl) ⟨by kernel_rfl⟩ (by kernel_rfl) (by kernel_rfl) (by kernel_rfl) (by kernel_rfl) ⟨by kernel_rfl⟩ fun w a hF hS=>?_)
 refine wfn rfl ?_
 refine esr ?_
 refine SK.wi (allocK (t:=190) (fun a1=>[(0,sv ad1 p0 cap2),(7,pb b9),(8,pb a0),(9,pb a1)]) #[.slice none 0 0] hF hS (by kernel_rfl) ⟨by kernel_rfl⟩ (by kernel_rfl) (fun _=>⟨by kernel_rfl⟩) fun a1 w a hF hS=>?_)
 refine wfn rfl ?_
 refine esr ?_
 refine rn 2 2 [(0,sv ad1 p0 cap2),(7,pb b9),(8,pb a0),(9,pb a1),(10,.func (.func 105) #[] #[pb a0,pb a1])] hF fun a hF=>?_
 refine wfn rfl ?_
 have bE:=Frz.le_refl ν6
 refine ecut (fun a w=>∃ (cH : (List fold_place)) (dC : (List (fold_place×Bool))) (ν367 : Frz) (cZ : Option Addr) (d4 : Nat),Fr 125 [] [(7,pb b9),(8,pb a0),(9,pb a1),(10,.func (.func 105) #[] #[pb a0,pb a1])] a∧St w0 [arrT 192 2 fold_place.cells cZ cH.length d4 cH,blk a1 190 #[sv cZ cH d4],blk a0 189 #[.map (some a4)],mapR (fA fold_place.cells) Value.bool a4 dC,fz w0 ν367,blk b9 197 #[sv aC y5.sets aD,.map (some a3)],nestR 135 132 1 (fN 1) aC y5.sets.length aD aS aR,mnestR (fA fold_place.cells) 199 3 fold_bond.cells a3 B16 aB] w∧(ν6.le ν367)∧(μ.ext w0.heap.size ν367)∧(FrzIn w0 ν367)∧fold_settle_K1 F y5 cH dC = some res) ?_ ?_
 ·skip
  refine esr ?_
  refine rn 3 3 [(7,pb b9),(8,pb a0),(9,pb a1),(10,.func (.func 105) #[] #[pb a0,pb a1]),(26,sv ad1 p0 cap2),(27,iv (ln p0)),(28,iv 0)] hF fun a hF=>?_
  refine wfn rfl ?_
  refine wpIn_block ?_
  have e8:=Frz.le_refl ν6
  replace hS:=hS.nilT 192 2 fold_place.cells
  refine eloop (fun n_ a w=>∃ (bD : (List fold_place)) (c8 : (List (fold_place×Bool))) (a7 : Int) (ν3572 : Frz) (c4 : Option Addr) (c5 : Nat),Fr 125 [] [(7,pb b9),(8,pb a0),(9,pb a1),(10,.func (.func 105) #[] #[pb a0,pb a1]),(26,sv ad1 p0 cap2),(27,iv (ln p0)),(28,iv a7)] a∧St w0 [arrT 192 2 fold_place.cells c4 bD.length c5 bD,blk a1 190 #[sv c4 bD c5],blk a0 189 #[.map (some a4)],mapR (fA fold_place.cells) Value.bool a4 c8,fz w0 ν3572,blk b9 197 #[sv aC y5.sets aD,.map (some a3)],nestR 135 132 1 (fN 1) aC y5.sets.length aD aS aR,mnestR (fA fold_place.cells) 199 3 fold_bond.cells a3 B16 aB] w∧(ν6.le ν3572)∧(μ.ext w0.heap.size ν3572)∧(FrzIn w0 ν3572)∧fold_settle_L6 F p0 y5 n_ bD c8 a7 = some res) F ⟨[],([] : List (fold_place×Bool)),0,ν6,none,0,hF.sub (by kernel_rfl),St.pick [0,1,2,3,4,5,6,7] (by decide) hS,e8,hext,hlow,h⟩ ?_
  clear e8
  rintro nk6 a w ⟨bD,c8,a7,ν3572,c4,c5,hF,hS,bF,hext,hlow,h⟩
  rcases nk6 with _ | nk6
  ·cases (show (none : Option (List (List (List api_Span)))) = some res from h)
  replace hA4:=hA4.mono Rp135.mono bF
  replace aE:=aE.mono Rp132.mono bF
  replace bE:=Frz.le_trans bE bF
  obtain ⟨k6,hk6⟩ : ∃ k,k = fold_settle_L6 F p0 y5 nk6:=⟨_,rfl⟩
  replace h : fold_settle_B6 F p0 y5 k6 bD c8 a7 = some res:=by rw [hk6]; exact h
  rw [fold_settle_B6] at h
  refine esr ?_
  refine rn 1 1 [(7,pb b9),(8,pb a0),(9,pb a1),(10,.func (.func 105) #[] #[pb a0,pb a1]),(26,sv ad1 p0 cap2),(27,iv (ln p0)),(28,iv a7),(29,.bool (decide (a7 < (ln p0))))] hF fun a hF=>?_
  refine wfn rfl ?_
  refine eseq ?_
  refine econd hF rfl (fun hc=>?_) (fun hc=>?_)
  ·replace h:=bif_t h hc
   refine wpIn_skip (norm_then ?_)
   have cB:=Frz.le_refl ν3572
   refine ecut (fun a w=>∃ (cG : (List fold_place)) (dB : (List (fold_place×Bool))) (ν3631 : Frz) (cX : Option Addr) (d2 : Nat),Fr 125 [] [(7,pb b9),(8,pb a0),(9,pb a1),(10,.func (.func 105) #[] #[pb a0,pb a1]),(26,sv ad1 p0 cap2),(27,iv (ln p0)),(28,iv a7)] a∧St w0 [arrT 192 2 fold_place.cells cX cG.length d2 cG,blk a1 190 #[sv cX cG d2],blk a0 189 #[.map (some a4)],mapR (fA fold_place.cells) Value.bool a4 dB,fz w0 ν3631,blk b9 197 #[sv aC y5.sets aD,.map (some a3)],nestR 135 132 1 (fN 1) aC y5.sets.length aD aS aR,mnestR (fA fold_place.cells) 199 3 fold_bond.cells a3 B16 aB] w∧(ν3572.le ν3631)∧(μ.ext w0.heap.size ν3631)∧(FrzIn w0 ν3631)∧fold_settle_K7 a7 k6 cG dB = some res) ?_ ?_
   ·skip
    refine wpIn_block ?_
    refine esr ?_
    replace h:=bindS h
    obtain ⟨cQ,f2,h⟩:=h
    obtain ⟨fQ,dZ,eR⟩:=getI_all2 hA4.2 f2
    obtain ⟨cY,d3,fR,rfl,cL⟩:=eR
    refine rno 5 [.run [] (Instr.indexAt 147 (sv ad1 p0 cap2) (iv a7)) (.pointer (some (slAddr ad1 a7 1))),.run [] (Instr.loadAt 135 (.pointer (some (slAddr ad1 a7 1)))) (sv cY cQ d3)] 5 [(7,pb b9),(8,pb a0),(9,pb a1),(10,.func (.func 105) #[] #[pb a0,pb a1]),(11,iv a7),(12,sv cY cQ d3),(26,sv ad1 p0 cap2),(27,iv (ln p0)),(28,iv a7)] hF (ocons (obIdxQ (hA4.at (hS.frz (i:=4) rfl hlow)) (by kernel_rfl) (fun _=>dZ)) (ocons (obElQ (i:=a7) 0 (fN_len 1) (fun _ hd=>(hA4.at ((hS.at_ hd).frz (i:=4) rfl hlow))) (by kernel_rfl) (fun _=>dZ) rfl) onil)) fun a hF=>?_
    refine wfn rfl ?_
    refine esr ?_
    refine rn 1 1 [(7,pb b9),(8,pb a0),(9,pb a1),(10,.func (.func 105) #[] #[pb a0,pb a1]),(11,iv a7),(26,sv ad1 p0 cap2),(27,iv (ln p0)),(28,iv a7),(33,sv cY cQ d3)] hF fun a hF=>?_
    replace h:=bindS h
    obtain ⟨a8,f9,h⟩:=h
    refine SK.wi (callK (f:=67) (args:=#[sv cY cQ d3]) (R:=fun v w2=>∃ aK aN,v = sv aK a8 aN∧St w [arr 3 1 fI aK a8.length aN a8] w2) (fun eI=>[(7,pb b9),(8,pb a0),(9,pb a1),(10,.func (.func 105) #[] #[pb a0,pb a1]),(11,iv a7),(26,sv ad1 p0 cap2),(27,iv (ln p0)),(28,iv a7),(34,eI)]) hF (by kernel_rfl) ⟨by kernel_rfl⟩ (Calls.mono (fold_known_ok F cQ _ f9 (memOf w) w (memOf_at w) (cL.mono Rp132.mono (FrzAt.le_mem (hS.frz (i:=4) rfl hlow)))) (by rintro e w2 ⟨aK,aN,rfl,h⟩; exact ⟨_,rfl,aK,aN,rfl,h⟩)) (fun _=>⟨by kernel_rfl⟩) ?_)
    rintro eI w a ⟨aK,aN,rfl,hQ⟩ hF
    replace hS : St w0 [arr 3 1 fI aK a8.length aN a8,arrT 192 2 fold_place.cells c4 bD.length c5 bD,blk a1 190 #[sv c4 bD c5],blk a0 189 #[.map (some a4)],mapR (fA fold_place.cells) Value.bool a4 c8,fz w0 ν3572,blk b9 197 #[sv aC y5.sets aD,.map (some a3)],nestR 135 132 1 (fN 1) aC y5.sets.length aD aS aR,mnestR (fA fold_place.cells) 199 3 fold_bond.cells a3 B16 aB] w:=hS.madeL hQ
    refine rn 2 4 [(7,pb b9),(8,pb a0),(9,pb a1),(10,.func (.func 105) #[] #[pb a0,pb a1]),(11,iv a7),(26,sv ad1 p0 cap2),(27,iv (ln p0)),(28,iv a7),(34,sv aK a8 aN),(35,iv (ln a8)),(36,iv 0)] hF fun a hF=>?_
    refine wfn rfl ?_
    refine wpIn_block ?_
    have e9:=Frz.le_refl ν3572
    refine eloop (fun n_ a w=>∃ (aW : (List fold_place)) (c3 : (List (fold_place×Bool))) (aX : Int) (ν3674 : Frz) (bV : Option Addr) (bZ : Nat),Fr 125 [] [(7,pb b9),(8,pb a0),(9,pb a1),(10,.func (.func 105) #[] #[pb a0,pb a1]),(11,iv a7),(26,sv ad1 p0 cap2),(27,iv (ln p0)),(28,iv a7),(34,sv aK a8 aN),(35,iv (ln a8)),(36,iv aX)] a∧St w0 [arrT 192 2 fold_place.cells bV aW.length bZ aW,arr 3 1 fI aK a8.length aN a8,blk a1 190 #[sv bV aW bZ],blk a0 189 #[.map (some a4)],mapR (fA fold_place.cells) Value.bool a4 c3,fz w0 ν3674,blk b9 197 #[sv aC y5.sets aD,.map (some a3)],nestR 135 132 1 (fN 1) aC y5.sets.length aD aS aR,mnestR (fA fold_place.cells) 199 3 fold_bond.cells a3 B16 aB] w∧(ν3572.le ν3674)∧(μ.ext w0.heap.size ν3674)∧(FrzIn w0 ν3674)∧fold_settle_L8 F a7 k6 a8 n_ aW c3 aX = some res) F ⟨bD,c8,0,ν3572,c4,c5,hF.sub (by kernel_rfl),St.pick [1,0,2,3,4,5,6,7,8] (by decide) hS,e9,hext,hlow,h⟩ ?_
    clear e9
    rintro nk8 a w ⟨aW,c3,aX,ν3674,bV,bZ,hF,hS,bS,hext,hlow,h⟩
    rcases nk8 with _ | nk8
    ·cases (show (none : Option (List (List (List api_Span)))) = some res from h)
    replace hA4:=hA4.mono Rp135.mono bS
    replace aE:=aE.mono Rp132.mono bS
    replace cL:=cL.mono Rp132.mono bS
    replace bE:=Frz.le_trans bE bS
    replace bF:=Frz.le_trans bF bS
    replace cB:=Frz.le_trans cB bS
    obtain ⟨k8,hk8⟩ : ∃ k,k = fold_settle_L8 F a7 k6 a8 nk8:=⟨_,rfl⟩
    replace h : fold_settle_B8 F a7 k6 a8 k8 aW c3 aX = some res:=by rw [hk8]; exact h
    rw [fold_settle_B8] at h
    refine esr ?_
    refine rn 1 1 [(7,pb b9),(8,pb a0),(9,pb a1),(10,.func (.func 105) #[] #[pb a0,pb a1]),(11,iv a7),(26,sv ad1 p0 cap2),(27,iv (ln p0)),(28,iv a7),(34,sv aK a8 aN),(35,iv (ln a8)),(36,iv aX),(37,.bool (decide (aX < (ln a8))))] hF fun a hF=>?_
    refine wfn rfl ?_
    refine eseq ?_
    refine econd hF rfl (fun hc=>?_) (fun hc=>?_)
    ·replace h:=bif_t h hc
     refine wpIn_skip (norm_then ?_)
     refine eseq ?_
     refine wpIn_block ?_
     refine esr ?_
     replace h:=bindS h
     obtain ⟨cR,eD,h⟩:=h
     refine rno 3 [.run [] (Instr.indexAt 60 (sv aK a8 aN) (iv aX)) (.pointer (some (slAddr aK aX 1))),.run [] (Instr.loadAt 3 (.pointer (some (slAddr aK aX 1)))) (iv cR)] 3 [(7,pb b9),(8,pb a0),(9,pb a1),(10,.func (.func 105) #[] #[pb a0,pb a1]),(11,iv a7),(14,iv cR),(26,sv ad1 p0 cap2),(27,iv (ln p0)),(28,iv a7),(34,sv aK a8 aN),(35,iv (ln a8)),(36,iv aX)] hF (ocons (obIdxQ (hS.arr (i:=1) rfl) (by kernel_rfl) (fun _=>eD)) (ocons (obElQ (i:=aX) 0 fI_len (fun _ hd=>((hS.at_ hd).arr (i:=1) rfl)) (by kernel_rfl) (fun _=>eD) rfl) onil)) fun a hF=>?_
     refine wfn rfl ?_
     refine WI.region ?_
     refine rn 4 4 [(7,pb b9),(8,pb a0),(9,pb a1),(10,.func (.func 105) #[] #[pb a0,pb a1]),(11,iv a7),(26,sv ad1 p0 cap2),(27,iv (ln p0)),(28,iv a7),(34,sv aK a8 aN),(35,iv (ln a8)),(36,iv aX),(40,.func (.func 105) #[] #[pb a0,pb a1]),(43,.agg #[iv a7,iv cR])] hF fun a hF=>?_
     replace h:=bindS h
     obtain ⟨bN,fB,h⟩:=h
     replace hS : St w0 [arrT 192 2 fold_place.cells bV aW.length bZ aW,arr 3 1 fI aK a8.length aN a8,blk a1 190 #[sv bV aW bZ],blk a0 189 #[.map (some a4)],mapR (fA fold_place.cells) Value.bool a4 c3,fz w0 ν3674,blk b9 197 #[sv aC y5.sets aD,.map (some a3)],nestR 135 132 1 (fN 1) aC y5.sets.length aD aS aR,mnestR (fA fold_place.cells) 199 3 fold_bond.cells a3 B16 aB] w:=hS
     replace hS : St w0 [fz w0 ν3674,blk a0 189 #[.map (some a4)],mapR (fA fold_place.cells) Value.bool a4 c3,blk a1 190 #[sv bV aW bZ],arrT 192 2 fold_place.cells bV aW.length bZ aW,arr 3 1 fI aK a8.length aN a8,blk b9 197 #[sv aC y5.sets aD,.map (some a3)],nestR 135 132 1 (fN 1) aC y5.sets.length aD aS aR,mnestR (fA fold_place.cells) 199 3 fold_bond.cells a3 B16 aB] w:=St.pick [5,3,4,2,0,1,6,7,8] (by decide) hS
     refine SK.wi (callK (f:=105) (args:=#[.agg #[iv a7,iv cR],pb a0,pb a1]) (R:=fun v w2=>∃ (ν3684 : Frz) (bW : Option Addr) (c0 : Nat),ν3674.ext w0.heap.size ν3684∧FrzIn w0 ν3684∧v = .tuple #[]∧St w0 [fz w0 ν3684,blk a0 189 #[.map (some a4)],mapR (fA fold_place.cells) Value.bool a4 bN.1,blk a1 190 #[sv bW bN.2 c0],arrT 192 2 fold_place.cells bW bN.2.length c0 bN.2,arr 3 1 fI aK a8.length aN a8,blk b9 197 #[sv aC y5.sets aD,.map (some a3)],nestR 135 132 1 (fN 1) aC y5.sets.length aD aS aR,mnestR (fA fold_place.cells) 199 3 fold_bond.cells a3 B16 aB] w2) (fun fG=>[(7,pb b9),(8,pb a0),(9,pb a1),(10,.func (.func 105) #[] #[pb a0,pb a1]),(11,iv a7),(26,sv ad1 p0 cap2),(27,iv (ln p0)),(28,iv a7),(34,sv aK a8 aN),(35,iv (ln a8)),(36,iv aX)]) hF (by kernel_rfl) ⟨by kernel_rfl⟩ (Calls.mono (fold_settle_1_ok F (fold_place.mk a7 cR) c3 aW _ fB ν3674 w0 w [arr 3 1 fI aK a8.length aN a8,blk b9 197 #[sv aC y5.sets aD,.map (some a3)],nestR 135 132 1 (fN 1) aC y5.sets.length aD aS aR,mnestR (fA fold_place.cells) 199 3 fold_bond.cells a3 B16 aB] hlow  hS) (by rintro e w2 ⟨ν3684,bW,c0,bI,hlow_,rfl,h⟩; exact ⟨_,rfl,ν3684,bW,c0,bI,hlow_,rfl,h⟩)) (fun _=>⟨by kernel_rfl⟩) ?_)
     rintro fG w a ⟨ν3684,bW,c0,bI,hlow,rfl,hS⟩ hF
     replace hext:=Frz.ext_trans hext bI
     replace hA4:=hA4.mono Rp135.mono bI.1
     replace aE:=aE.mono Rp132.mono bI.1
     replace cL:=cL.mono Rp132.mono bI.1
     replace bE:=Frz.le_trans bE bI.1
     replace bF:=Frz.le_trans bF bI.1
     replace cB:=Frz.le_trans cB bI.1
     replace bS:=Frz.le_trans bS bI.1
     replace hS : St w0 [fz w0 ν3684,blk a0 189 #[.map (some a4)],mapR (fA fold_place.cells) Value.bool a4 bN.1,blk a1 190 #[sv bW bN.2 c0],arrT 192 2 fold_place.cells bW bN.2.length c0 bN.2,arr 3 1 fI aK a8.length aN a8,blk b9 197 #[sv aC y5.sets aD,.map (some a3)],nestR 135 132 1 (fN 1) aC y5.sets.length aD aS aR,mnestR (fA fold_place.cells) 199 3 fold_bond.cells a3 B16 aB] w:=hS
     refine WI.fin rfl (norm_block <| norm_then <| ?_)
     refine WI.region ?_
     replace h:=bindS h
     obtain ⟨dN,f5,h⟩:=h
     refine rno 2 [.run [] (binOp .add 3 (iv aX) (iv 1)) (iv dN)] 2 [(7,pb b9),(8,pb a0),(9,pb a1),(10,.func (.func 105) #[] #[pb a0,pb a1]),(11,iv a7),(26,sv ad1 p0 cap2),(27,iv (ln p0)),(28,iv a7),(34,sv aK a8 aN),(35,iv (ln a8)),(36,iv dN)] hF (ocons (obAddC (fun _=>f5)) onil) fun a hF=>?_
     refine wfn rfl ?_
     rw [hk8] at h
     exact ⟨nk8,Nat.lt_succ_self _,bN.2,bN.1,dN,ν3684,bW,c0,hF.sub (by kernel_rfl),St.pick [4,5,3,1,2,0,6,7,8] (by decide) hS,bS,hext,hlow,h⟩
    ·replace h:=bif_f h hc
     refine wpIn_exit (exit_then <| exit_then <| exit_hit <| norm_block <| norm_then <| ?_)
     exact ⟨aW,c3,ν3674,bV,bZ,hF.sub (by kernel_rfl),St.pick [0,2,3,4,5,6,7,8] (by decide) hS,cB,hext,hlow,h⟩
   clear cB
   rintro a w ⟨cG,dB,ν3631,cX,d2,hF,hS,d8,hext,hlow,h⟩
   replace hA4:=hA4.mono Rp135.mono d8
   replace aE:=aE.mono Rp132.mono d8
   replace bE:=Frz.le_trans bE d8
   replace bF:=Frz.le_trans bF d8
   rw [fold_settle_K7] at h
   refine WI.region ?_
   replace h:=bindS h
   obtain ⟨dM,f4,h⟩:=h
   refine rno 2 [.run [] (binOp .add 3 (iv a7) (iv 1)) (iv dM)] 2 [(7,pb b9),(8,pb a0),(9,pb a1),(10,.func (.func 105) #[] #[pb a0,pb a1]),(26,sv ad1 p0 cap2),(27,iv (ln p0)),(28,iv dM)] hF (ocons (obAddC (fun _=>f4)) onil) fun a hF=>?_
   refine wfn rfl ?_
   rw [hk6] at h
   exact ⟨nk6,Nat.lt_succ_self _,cG,dB,dM,ν3631,cX,d2,hF.sub (by kernel_rfl),St.pick [0,1,2,3,4,5,6,7] (by decide) hS,bF,hext,hlow,h⟩
  ·replace h:=bif_f h hc
   refine wpIn_exit (exit_then <| exit_then <| exit_hit <| norm_then ?_)
   exact ⟨bD,c8,ν3572,c4,c5,hF.sub (by kernel_rfl),St.pick [0,1,2,3,4,5,6,7] (by decide) hS,bE,hext,hlow,h⟩
 clear bE
 rintro a w ⟨cH,dC,ν367,cZ,d4,hF,hS,aT,hext,hlow,h⟩
 replace hA4:=hA4.mono Rp135.mono aT
 replace aE:=aE.mono Rp132.mono aT
 rw [fold_settle_K1] at h
 have b8:=Frz.le_refl ν367
 refine ecut (fun a w=>∃ (c2 : (List fold_place)) (bJ : (List (List (List api_Span)))) (d9 : (List (fold_place×Bool))) (ν1850 : Frz) (cI : Option Addr) (cJ : Nat) (bO : Option Addr) (bP : Nat) (cM : List Hd) (dG : List (List (List Value))),Fr 125 [] [(7,pb b9)] a∧St w0 [nestR 135 132 1 (fN 1) bO bJ.length bP cM dG,arrT 192 2 fold_place.cells cI c2.length cJ c2,blk a1 190 #[sv cI c2 cJ],blk a0 189 #[.map (some a4)],mapR (fA fold_place.cells) Value.bool a4 d9,fz w0 ν1850,blk b9 197 #[sv bO bJ bP,.map (some a3)],mnestR (fA fold_place.cells) 199 3 fold_bond.cells a3 B16 aB] w∧(NestOk (Rp132 ν1850) cM dG bJ)∧(ν367.le ν1850)∧(μ.ext w0.heap.size ν1850)∧(FrzIn w0 ν1850)∧fold_settle_K2 c2 bJ d9 = some res) ?_ ?_
 ·skip
  refine wpIn_block ?_
  have e6:=Frz.le_refl ν367
  refine eloop (fun n_ a w=>∃ (aP : (List fold_place)) (aV : (List (List (List api_Span)))) (bK : (List (fold_place×Bool))) (ν2847 : Frz) (aH : Option Addr) (aA : Nat) (aY : Option Addr) (b1 : Nat) (bR : List Hd) (bQ : List (List (List Value))),Fr 125 [] [(7,pb b9),(8,pb a0),(9,pb a1),(10,.func (.func 105) #[] #[pb a0,pb a1])] a∧St w0 [nestR 135 132 1 (fN 1) aY aV.length b1 bR bQ,arrT 192 2 fold_place.cells aH aP.length aA aP,blk a1 190 #[sv aH aP aA],blk a0 189 #[.map (some a4)],mapR (fA fold_place.cells) Value.bool a4 bK,fz w0 ν2847,blk b9 197 #[sv aY aV b1,.map (some a3)],mnestR (fA fold_place.cells) 199 3 fold_bond.cells a3 B16 aB] w∧(NestOk (Rp132 ν2847) bR bQ aV)∧(ν367.le ν2847)∧(μ.ext w0.heap.size ν2847)∧(FrzIn w0 ν2847)∧fold_settle_L3 F y5 n_ aP aV bK = some res) F ⟨cH,y5.sets,dC,ν367,cZ,d4,aC,aD,aS,aR,hF.sub (by kernel_rfl),St.pick [6,0,1,2,3,4,5,7] (by decide) hS,aE,e6,hext,hlow,h⟩ ?_
  clear e6
  rintro nk3 a w ⟨aP,aV,bK,ν2847,aH,aA,aY,b1,bR,bQ,hF,hS,bG,b5,hext,hlow,h⟩
  rcases nk3 with _ | nk3
  ·cases (show (none : Option (List (List (List api_Span)))) = some res from h)
  replace hA4:=hA4.mono Rp135.mono b5
  replace aE:=aE.mono Rp132.mono b5
  replace aT:=Frz.le_trans aT b5
  replace b8:=Frz.le_trans b8 b5
  obtain ⟨k3,hk3⟩ : ∃ k,k = fold_settle_L3 F y5 nk3:=⟨_,rfl⟩
  replace h : fold_settle_B3 F y5 k3 aP aV bK = some res:=by rw [hk3]; exact h
  rw [fold_settle_B3] at h
  refine eseq ?_
  refine esr ?_
  refine rno 3 [.run [] (Instr.loadAt 190 (pb a1)) (sv aH aP aA)] 3 [(7,pb b9),(8,pb a0),(9,pb a1),(10,.func (.func 105) #[] #[pb a0,pb a1]),(49,.bool (decide ((ln aP) > 0)))] hF (ocons (ob1 (by kernel_rfl) (fun _ hd=>(hS.at_ hd).cell (i:=2) (j:=0) rfl rfl)) onil) fun a hF=>?_
  refine wfn rfl ?_
  refine econd hF rfl (fun hc=>?_) (fun hc=>?_)
  ·replace h:=bif_t h hc
   refine wpIn_skip (norm_then ?_)
   refine wpIn_block ?_
   refine esr ?_
   replace h:=bindS h
   obtain ⟨a2,eB,h⟩:=h
   refine rno 3 [.run [] (Instr.loadAt 190 (pb a1)) (sv aH aP aA),.run [] (Instr.indexAt 190 (sv aH aP aA) (iv 0)) (.pointer (some (slAddr aH 0 2))),.run [] (Instr.loadAt 192 (.pointer (some (slAddr aH 0 2)))) (.agg #[iv a2.ray,iv a2.gate])] 3 [(7,pb b9),(8,pb a0),(9,pb a1),(10,.func (.func 105) #[] #[pb a0,pb a1]),(52,.agg #[iv a2.ray,iv a2.gate])] hF (ocons (ob1 (by kernel_rfl) (fun _ hd=>(hS.at_ hd).cell (i:=2) (j:=0) rfl rfl)) (ocons (obIdxQ (hS.arrT_ (i:=1) rfl) (by kernel_rfl) (fun _=>eB)) (ocons (obElNQ (m:=2) (i:=0) (us:=[iv a2.ray,iv a2.gate]) 0 fold_place.cells_len (fun _ hd=>((hS.at_ hd).arrT_ (i:=1) rfl)) (by kernel_rfl) (fun _=>eB) ⟨rfl,rfl⟩) onil))) fun a hF=>?_
   refine SK.wi (allocK (t:=192) (fun a6=>[(7,pb b9),(8,pb a0),(9,pb a1),(10,.func (.func 105) #[] #[pb a0,pb a1]),(15,pb a6),(52,.agg #[iv a2.ray,iv a2.gate])]) #[iv 0,iv 0] hF hS (by kernel_rfl) ⟨by kernel_rfl⟩ (by kernel_rfl) (fun _=>⟨by kernel_rfl⟩) fun a6 w a hF hS=>?_)
   refine SK.wi (storeK (t:=192) [(7,pb b9),(8,pb a0),(9,pb a1),(10,.func (.func 105) #[] #[pb a0,pb a1]),(15,pb a6)] 0 0 (.agg #[iv a2.ray,iv a2.gate]) #[iv a2.ray,iv a2.gate] hF hS rfl (by kernel_rfl) ⟨by kernel_rfl⟩ (by kernel_rfl) (by kernel_rfl) (by kernel_rfl) (by kernel_rfl) ⟨by kernel_rfl⟩ fun w a hF hS=>?_)
   refine wfn rfl ?_
   refine esr ?_
   replace h:=bindS h
   obtain ⟨bA,eA,h⟩:=h
   refine rno 2 [.run [] (Instr.loadAt 190 (pb a1)) (sv aH aP aA),.run [] (Instr.sliceAt 190 (sv aH aP aA) (some (iv 1)) none none) (.slice (slOff aH aA (1 : Int).toNat 2) bA.length (aA - (1 : Int).toNat))] 2 [(7,pb b9),(8,pb a0),(9,pb a1),(10,.func (.func 105) #[] #[pb a0,pb a1]),(15,pb a6),(54,.slice (slOff aH aA (1 : Int).toNat 2) bA.length (aA - (1 : Int).toNat))] hF (ocons (ob1 (by kernel_rfl) (fun _ hd=>(hS.at_ hd).cell (i:=3) (j:=0) rfl rfl)) (ocons (obCutL (by kernel_rfl) (hS.arrT_ (i:=2) rfl) (fun _=>eA)) onil)) fun a hF=>?_
   refine SK.wi (storeK (t:=190) [(7,pb b9),(8,pb a0),(9,pb a1),(10,.func (.func 105) #[] #[pb a0,pb a1]),(15,pb a6)] 3 0 (.slice (slOff aH aA (1 : Int).toNat 2) bA.length (aA - (1 : Int).toNat)) #[.slice (slOff aH aA (1 : Int).toNat 2) bA.length (aA - (1 : Int).toNat)] hF hS rfl (by kernel_rfl) ⟨by kernel_rfl⟩ (by kernel_rfl) (by kernel_rfl) (by kernel_rfl) (by kernel_rfl) ⟨by kernel_rfl⟩ fun w a hF hS=>?_)
   refine wfn rfl ?_
   refine esr ?_
   refine rno 2 [.run [] (Instr.loadAt 189 (pb a0)) (.map (some a4)),.run [] (Instr.loadAt 192 (pb a6)) (.agg #[iv a2.ray,iv a2.gate])] 2 [(7,pb b9),(8,pb a0),(9,pb a1),(10,.func (.func 105) #[] #[pb a0,pb a1]),(15,pb a6),(55,.map (some a4)),(56,.agg #[iv a2.ray,iv a2.gate])] hF (ocons (ob1 (by kernel_rfl) (fun _ hd=>(hS.at_ hd).cell (i:=4) (j:=0) rfl rfl)) (ocons (obN (us:=[iv a2.ray,iv a2.gate]) (by kernel_rfl) (fun _ hd=>((hS.at_ hd).blk (i:=0) rfl).cells rfl)) onil)) fun a hF=>?_
   refine SK.wi (delK (kt:=192) (e:=4) (t:=189) (tx:=192) (ty:=0) [(7,pb b9),(8,pb a0),(9,pb a1),(10,.func (.func 105) #[] #[pb a0,pb a1]),(15,pb a6)] 5 a2 key192 hF hS rfl (by kernel_rfl) ⟨by kernel_rfl⟩ (by kernel_rfl) ⟨by kernel_rfl⟩ fun w a hF hS=>?_)
   refine wfn rfl ?_
   refine eseq ?_
   refine region_treeW 8 [5] _ (D:=fun w=>St w0 [blk a6 192 #[iv a2.ray,iv a2.gate],nestR 135 132 1 (fN 1) aY aV.length b1 bR bQ,arrT 192 2 fold_place.cells aH aP.length aA aP,blk a1 190 #[.slice (slOff aH aA (1 : Int).toNat 2) bA.length (aA - (1 : Int).toNat)],blk a0 189 #[.map (some a4)],mapR (fA fold_place.cells) Value.bool a4 (delM bK a2),blk b9 197 #[sv aY aV b1,.map (some a3)],mnestR (fA fold_place.cells) 199 3 fold_bond.cells a3 B16 aB] w∧FrzAt ν2847 w) (by kernel_rfl) (by kernel_rfl) hF.size (fun w hx=>?_) (fun _ _ h=>h)
   replace hS:=hS.later hx
   refine ⟨⟨St.pick [0,1,2,3,4,5,7,8] (by decide) hS,hS.frz (i:=6) rfl hlow⟩,?_⟩
   have fS:=Frz.le_refl ν2847
   refine WT.s [0,1,2,3,4,7] [5] (by kernel_rfl) (by kernel_rfl) ?_
   refine runC (rest:=[]) (obs:=[.run [] (Instr.loadAt 195 (.pointer (some ⟨b9,1,none⟩))) (.map (some a3)),.run [] (Instr.loadAt 192 (pb a6)) (.agg #[iv a2.ray,iv a2.gate])]) [0,1,2,3,4,7] [(7,pb b9),(8,pb a0),(9,pb a1),(10,.func (.func 105) #[] #[pb a0,pb a1]),(15,pb a6),(60,.map (some a3)),(61,.agg #[iv a2.ray,iv a2.gate]),(64,iv 0)] hF (by kernel_rfl) (by kernel_rfl) (ocons (ob1 (by kernel_rfl) (fun _ hd=>hd.1.cell (i:=6) (j:=1) rfl rfl)) (ocons (obN (us:=[iv a2.ray,iv a2.gate]) (by kernel_rfl) (fun _ hd=>(hd.1.blk (i:=0) rfl).cells rfl)) onil)) ⟨by kernel_rfl⟩ fun a hF=>?_
   refine WRun.fin ?_
   refine all_cons ?_ (all_nil)
   refine lookupNK (kt:=192) (te:=194) (t:=195) (fun aJ aM=>[(7,pb b9),(8,pb a0),(9,pb a1),(10,.func (.func 105) #[] #[pb a0,pb a1]),(15,pb a6),(62,.slice aJ (((lkM y5.bonds a2).getD []).length) aM),(64,iv 0)]) 8 a2 key192 dI hF hS rfl (by kernel_rfl) ⟨by kernel_rfl⟩ (by kernel_rfl) (by kernel_rfl) (fun _ _=>⟨by kernel_rfl⟩) fun aJ aM fH a hF eU hr2878=>⟨⟨St.pick [0,1,2,3,4,5,7,8] (by decide) hS,(hS.frz (i:=6) rfl hlow)⟩,?_⟩
   obtain rfl:=all2_eq eU
   refine WT.z [6] (by kernel_rfl) ?_
   refine runC (rest:=[]) (obs:=[]) [6] [(7,pb b9),(8,pb a0),(9,pb a1),(10,.func (.func 105) #[] #[pb a0,pb a1]),(15,pb a6),(62,.slice aJ (((lkM y5.bonds a2).getD []).length) aM),(63,iv ((((lkM y5.bonds a2).getD []).length : Nat) : Int)),(64,iv 0)] hF (by kernel_rfl) (by kernel_rfl) onil ⟨by kernel_rfl⟩ fun a hF=>?_
   refine WRun.fin ?_
   refine wfn rfl ?_
   refine wpIn_block ?_
   have e7:=Frz.le_refl ν2847
   replace hS : St w0 [blk a6 192 #[iv a2.ray,iv a2.gate],nestR 135 132 1 (fN 1) aY aV.length b1 bR bQ,arrT 192 2 fold_place.cells aH aP.length aA aP,blk a1 190 #[.slice (slOff aH aA (1 : Int).toNat 2) bA.length (aA - (1 : Int).toNat)],blk a0 189 #[.map (some a4)],mapR (fA fold_place.cells) Value.bool a4 (delM bK a2),fz w0 ν2847,blk b9 197 #[sv aY aV b1,.map (some a3)],mnestR (fA fold_place.cells) 199 3 fold_bond.cells a3 B16 aB] w:=hS
   replace hS : St w0 [arrT 192 2 fold_place.cells aH aP.length aA aP,blk a6 192 #[iv a2.ray,iv a2.gate],nestR 135 132 1 (fN 1) aY aV.length b1 bR bQ,blk a1 190 #[.slice (slOff aH aA (1 : Int).toNat 2) bA.length (aA - (1 : Int).toNat)],blk a0 189 #[.map (some a4)],mapR (fA fold_place.cells) Value.bool a4 (delM bK a2),fz w0 ν2847,blk b9 197 #[sv aY aV b1,.map (some a3)],mnestR (fA fold_place.cells) 199 3 fold_bond.cells a3 B16 aB] w:=St.pick [2,0,1,3,4,5,6,7,8] (by decide) hS
   replace hS : St w0 [arrT 192 2 fold_place.cells (slOff aH aA (1 : Int).toNat 2) bA.length (aA - (1 : Int).toNat) bA,blk a6 192 #[iv a2.ray,iv a2.gate],nestR 135 132 1 (fN 1) aY aV.length b1 bR bQ,blk a1 190 #[.slice (slOff aH aA (1 : Int).toNat 2) bA.length (aA - (1 : Int).toNat)],blk a0 189 #[.map (some a4)],mapR (fA fold_place.cells) Value.bool a4 (delM bK a2),fz w0 ν2847,blk b9 197 #[sv aY aV b1,.map (some a3)],mnestR (fA fold_place.cells) 199 3 fold_bond.cells a3 B16 aB] w:=St.cutT hS fold_place.cells_len eA
   refine eloop (fun n_ a w=>∃ (aL : (List fold_place)) (aQ : (List (List (List api_Span)))) (bB : (List (fold_place×Bool))) (aG : Int) (ν3184 : Frz) (aZ : Option Addr) (b2 : Nat) (a9 : Option Addr) (aF : Nat) (b4 : List Hd) (c6 : List (List (List Value))),Fr 125 [] [(7,pb b9),(8,pb a0),(9,pb a1),(10,.func (.func 105) #[] #[pb a0,pb a1]),(15,pb a6),(62,.slice aJ (((lkM y5.bonds a2).getD []).length) aM),(63,iv ((((lkM y5.bonds a2).getD []).length : Nat) : Int)),(64,iv aG)] a∧St w0 [nestR 135 132 1 (fN 1) a9 aQ.length aF b4 c6,arrT 192 2 fold_place.cells aZ aL.length b2 aL,blk a6 192 #[iv a2.ray,iv a2.gate],blk a1 190 #[sv aZ aL b2],blk a0 189 #[.map (some a4)],mapR (fA fold_place.cells) Value.bool a4 bB,fz w0 ν3184,blk b9 197 #[sv a9 aQ aF,.map (some a3)],mnestR (fA fold_place.cells) 199 3 fold_bond.cells a3 B16 aB] w∧(NestOk (Rp132 ν3184) b4 c6 aQ)∧(ν2847.le ν3184)∧(μ.ext w0.heap.size ν3184)∧(FrzIn w0 ν3184)∧fold_settle_L4 F y5 k3 a2 n_ aL aQ bB aG = some res) F ⟨bA,aV,(delM bK a2),0,ν2847,(slOff aH aA (1 : Int).toNat 2),(aA - (1 : Int).toNat),aY,b1,bR,bQ,hF.sub (by kernel_rfl),St.pick [2,0,1,3,4,5,6,7,8] (by decide) hS,bG,e7,hext,hlow,h⟩ ?_
   clear e7
   rintro nk4 a w ⟨aL,aQ,bB,aG,ν3184,aZ,b2,a9,aF,b4,c6,hF,hS,bH,b6,hext,hlow,h⟩
   rcases nk4 with _ | nk4
   ·cases (show (none : Option (List (List (List api_Span)))) = some res from h)
   replace hA4:=hA4.mono Rp135.mono b6
   replace aE:=aE.mono Rp132.mono b6
   replace bG:=bG.mono Rp132.mono b6
   replace aT:=Frz.le_trans aT b6
   replace b8:=Frz.le_trans b8 b6
   replace b5:=Frz.le_trans b5 b6
   obtain ⟨k4,hk4⟩ : ∃ k,k = fold_settle_L4 F y5 k3 a2 nk4:=⟨_,rfl⟩
   replace h : fold_settle_B4 F y5 k3 a2 k4 aL aQ bB aG = some res:=by rw [hk4]; exact h
   rw [fold_settle_B4] at h
   refine esr ?_
   refine rn 1 1 [(7,pb b9),(8,pb a0),(9,pb a1),(10,.func (.func 105) #[] #[pb a0,pb a1]),(15,pb a6),(62,.slice aJ (((lkM y5.bonds a2).getD []).length) aM),(63,iv ((((lkM y5.bonds a2).getD []).length : Nat) : Int)),(64,iv aG),(65,.bool (decide (aG < ((((lkM y5.bonds a2).getD []).length : Nat) : Int))))] hF fun a hF=>?_
   refine wfn rfl ?_
   refine eseq ?_
   refine econd hF rfl (fun hc=>?_) (fun hc=>?_)
   ·replace h:=bif_t h hc
    refine wpIn_skip (norm_then ?_)
    have c7:=Frz.le_refl ν3184
    refine ecut (fun a w=>∃ (cE : (List fold_place)) (cF : (List (List (List api_Span)))) (dA : (List (fold_place×Bool))) (ν3264 : Frz) (cS : Option Addr) (d0 : Nat) (cT : Option Addr) (d1 : Nat) (d7 : List Hd) (d5 : List (List (List Value))),Fr 125 [] [(7,pb b9),(8,pb a0),(9,pb a1),(10,.func (.func 105) #[] #[pb a0,pb a1]),(15,pb a6),(62,.slice aJ (((lkM y5.bonds a2).getD []).length) aM),(63,iv ((((lkM y5.bonds a2).getD []).length : Nat) : Int)),(64,iv aG)] a∧St w0 [nestR 135 132 1 (fN 1) cT cF.length d1 d7 d5,arrT 192 2 fold_place.cells cS cE.length d0 cE,fz w0 ν3264,blk a0 189 #[.map (some a4)],mapR (fA fold_place.cells) Value.bool a4 dA,blk a1 190 #[sv cS cE d0],blk a6 192 #[iv a2.ray,iv a2.gate],blk b9 197 #[sv cT cF d1,.map (some a3)],mnestR (fA fold_place.cells) 199 3 fold_bond.cells a3 B16 aB] w∧(NestOk (Rp132 ν3264) d7 d5 cF)∧(ν3184.le ν3264)∧(μ.ext w0.heap.size ν3264)∧(FrzIn w0 ν3264)∧fold_settle_K5 aG k4 cE cF dA = some res) ?_ ?_
    ·skip
     refine wpIn_block ?_
     refine esr ?_
     replace h:=bindS h
     obtain ⟨a5,eC,h⟩:=h
     refine rno 2 [.run [] (Instr.indexAt 194 (.slice aJ (((lkM y5.bonds a2).getD []).length) aM) (iv aG)) (.pointer (some (slAddr aJ aG 3))),.run [] (Instr.loadAt 199 (.pointer (some (slAddr aJ aG 3)))) (a5.ag)] 2 [(7,pb b9),(8,pb a0),(9,pb a1),(10,.func (.func 105) #[] #[pb a0,pb a1]),(15,pb a6),(62,.slice aJ (((lkM y5.bonds a2).getD []).length) aM),(63,iv ((((lkM y5.bonds a2).getD []).length : Nat) : Int)),(64,iv aG),(67,a5.ag)] hF (ocons (obIdxQ (hr2878 _ (hS.res (i:=8) rfl)) (by kernel_rfl) (fun _=>eC)) (ocons (obElNQ (m:=3) (i:=aG) (us:=a5.cells) 0 fold_bond.cells_len (fun _ hd=>(hr2878 _ ((hS.at_ hd).res (i:=8) rfl))) (by kernel_rfl) (fun _=>eC) ⟨rfl,rfl⟩) onil)) fun a hF=>?_
     refine SK.wi (allocK (t:=199) (fun aI=>[(7,pb b9),(8,pb a0),(9,pb a1),(10,.func (.func 105) #[] #[pb a0,pb a1]),(15,pb a6),(17,pb aI),(62,.slice aJ (((lkM y5.bonds a2).getD []).length) aM),(63,iv ((((lkM y5.bonds a2).getD []).length : Nat) : Int)),(64,iv aG),(67,a5.ag)]) #[iv 0,iv 0,iv 0] hF hS (by kernel_rfl) ⟨by kernel_rfl⟩ (by kernel_rfl) (fun _=>⟨by kernel_rfl⟩) fun aI w a hF hS=>?_)
     refine SK.wi (storeK (t:=199) [(7,pb b9),(8,pb a0),(9,pb a1),(10,.func (.func 105) #[] #[pb a0,pb a1]),(15,pb a6),(17,pb aI),(62,.slice aJ (((lkM y5.bonds a2).getD []).length) aM),(63,iv ((((lkM y5.bonds a2).getD []).length : Nat) : Int)),(64,iv aG)] 0 0 (a5.ag) a5.ar hF hS rfl (by kernel_rfl) ⟨by kernel_rfl⟩ (by kernel_rfl) (by kernel_rfl) (by kernel_rfl) (by kernel_rfl) ⟨by kernel_rfl⟩ fun w a hF hS=>?_)
     refine wfn rfl ?_
     refine eseq ?_
     replace h:=bindS h
     obtain ⟨eE,eW,h⟩:=h
     obtain ⟨cU,dP,fJ,e0,e3,dT,cO⟩:=NestOk.get bH eW
     replace h:=bindS h
     obtain ⟨bL,eX,h⟩:=h
     obtain ⟨fM,dW,eO⟩:=getI_all2 cO eX
     obtain ⟨bT,bX,rfl,cA⟩:=eO
     refine runD (obs:=[.run [] (Instr.loadAt 147 (pb b9)) (sv a9 aQ aF),.run [] (Instr.loadAt 3 (pb aI)) (iv a5.to.ray),.run [] (Instr.indexAt 147 (sv a9 aQ aF) (iv a5.to.ray)) (.pointer (some (slAddr a9 a5.to.ray 1))),.run [] (Instr.loadAt 135 (.pointer (some (slAddr a9 a5.to.ray 1)))) (sv cU eE dP),.run [] (Instr.loadAt 3 (.pointer (some ⟨aI,1,none⟩))) (iv a5.to.gate),.run [] (Instr.indexAt 135 (sv cU eE dP) (iv a5.to.gate)) (.pointer (some (slAddr cU a5.to.gate 1))),.run [] (Instr.loadAt 132 (.pointer (some (slAddr cU a5.to.gate 1)))) (sv bT bL bX)]) 15 [(7,pb b9),(8,pb a0),(9,pb a1),(10,.func (.func 105) #[] #[pb a0,pb a1]),(15,pb a6),(17,pb aI),(18,sv bT bL bX),(62,.slice aJ (((lkM y5.bonds a2).getD []).length) aM),(63,iv ((((lkM y5.bonds a2).getD []).length : Nat) : Int)),(64,iv aG)] (by kernel_rfl) hF (by kernel_rfl) (ocons (ob1 (by kernel_rfl) (fun _ hd=>(hS.later hd).cell (i:=8) (j:=0) rfl rfl)) (ocons (ob1 (by kernel_rfl) (fun _ hd=>(hS.later hd).cell (i:=0) (j:=0) rfl rfl)) (ocons (obIdxQ (nestOut (hS.res (i:=1) rfl)) (by kernel_rfl) (fun _=>e0)) (ocons (obElQ (i:=a5.to.ray) 0 hdF_len (fun _ hd=>(nestOut ((hS.later hd).res (i:=1) rfl))) (by kernel_rfl) (fun _=>e0) rfl) (ocons (ob1 (by kernel_rfl) (fun _ hd=>(hS.later hd).cell (i:=0) (j:=1) rfl rfl)) (ocons (obIdxQ (nestRow (hS.res (i:=1) rfl) e3 dT) (by kernel_rfl) (fun _=>dW)) (ocons (obElQ (i:=a5.to.gate) 0 (fN_len 1) (fun _ hd=>(nestRow ((hS.later hd).res (i:=1) rfl) e3 dT)) (by kernel_rfl) (fun _=>dW) rfl) onil))))))) ⟨by kernel_rfl⟩ fun a w hF hx=>?_
     replace hS:=hS.later hx
     refine wfn rfl ?_
     refine eseq ?_
     replace h:=bindS h
     obtain ⟨eF,eY,h⟩:=h
     obtain ⟨cV,dQ,fK,e1,e4,dU,cP⟩:=NestOk.get bH eY
     replace h:=bindS h
     obtain ⟨dD,eZ,h⟩:=h
     obtain ⟨fO,dX,eP⟩:=getI_all2 cP eZ
     obtain ⟨dE,dF,rfl,cK⟩:=eP
     refine runD (obs:=[.run [] (Instr.loadAt 147 (pb b9)) (sv a9 aQ aF),.run [] (Instr.loadAt 3 (pb a6)) (iv a2.ray),.run [] (Instr.indexAt 147 (sv a9 aQ aF) (iv a2.ray)) (.pointer (some (slAddr a9 a2.ray 1))),.run [] (Instr.loadAt 135 (.pointer (some (slAddr a9 a2.ray 1)))) (sv cV eF dQ),.run [] (Instr.loadAt 3 (.pointer (some ⟨a6,1,none⟩))) (iv a2.gate),.run [] (Instr.indexAt 135 (sv cV eF dQ) (iv a2.gate)) (.pointer (some (slAddr cV a2.gate 1))),.run [] (Instr.loadAt 132 (.pointer (some (slAddr cV a2.gate 1)))) (sv dE dD dF),.run [] (Instr.loadAt 3 (.pointer (some ⟨aI,2,none⟩))) (iv a5.most)]) 15 [(7,pb b9),(8,pb a0),(9,pb a1),(10,.func (.func 105) #[] #[pb a0,pb a1]),(15,pb a6),(17,pb aI),(18,sv bT bL bX),(62,.slice aJ (((lkM y5.bonds a2).getD []).length) aM),(63,iv ((((lkM y5.bonds a2).getD []).length : Nat) : Int)),(64,iv aG),(82,sv bT bL bX),(94,sv dE dD dF),(96,iv a5.most)] (by kernel_rfl) hF (by kernel_rfl) (ocons (ob1 (by kernel_rfl) (fun _ hd=>(hS.later hd).cell (i:=8) (j:=0) rfl rfl)) (ocons (ob1 (by kernel_rfl) (fun _ hd=>(hS.later hd).cell (i:=3) (j:=0) rfl rfl)) (ocons (obIdxQ (nestOut (hS.res (i:=1) rfl)) (by kernel_rfl) (fun _=>e1)) (ocons (obElQ (i:=a2.ray) 0 hdF_len (fun _ hd=>(nestOut ((hS.later hd).res (i:=1) rfl))) (by kernel_rfl) (fun _=>e1) rfl) (ocons (ob1 (by kernel_rfl) (fun _ hd=>(hS.later hd).cell (i:=3) (j:=1) rfl rfl)) (ocons (obIdxQ (nestRow (hS.res (i:=1) rfl) e4 dU) (by kernel_rfl) (fun _=>dX)) (ocons (obElQ (i:=a2.gate) 0 (fN_len 1) (fun _ hd=>(nestRow ((hS.later hd).res (i:=1) rfl) e4 dU)) (by kernel_rfl) (fun _=>dX) rfl) (ocons (ob1 (by kernel_rfl) (fun _ hd=>(hS.later hd).cell (i:=0) (j:=2) rfl rfl)) onil)))))))) ⟨by kernel_rfl⟩ fun a w hF hx=>?_
     replace hS:=hS.later hx
     replace h:=bindS h
     obtain ⟨b7,f6,h⟩:=h
     refine SK.wi (callK (f:=69) (args:=#[sv bT bL bX,sv dE dD dF,iv a5.most]) (R:=fun v w2=>∃ b0 b3,v = sv b0 b7 b3∧St w [arr 25 2 api_Span.cells b0 b7.length b3 b7] w2) (fun eH=>[(7,pb b9),(8,pb a0),(9,pb a1),(10,.func (.func 105) #[] #[pb a0,pb a1]),(15,pb a6),(17,pb aI),(18,sv bT bL bX),(62,.slice aJ (((lkM y5.bonds a2).getD []).length) aM),(63,iv ((((lkM y5.bonds a2).getD []).length : Nat) : Int)),(64,iv aG),(97,eH)]) hF (by kernel_rfl) ⟨by kernel_rfl⟩ (Calls.mono (fold_speeds_near_ok F bL dD a5.most _ f6 (memOf w) w (memOf_at w) (cA.mono (FrzAt.le_mem (hS.frz (i:=7) rfl hlow))) (cK.mono (FrzAt.le_mem (hS.frz (i:=7) rfl hlow)))) (by rintro e w2 ⟨b0,b3,rfl,h⟩; exact ⟨_,rfl,b0,b3,rfl,h⟩)) (fun _=>⟨by kernel_rfl⟩) ?_)
     rintro eH w a ⟨b0,b3,rfl,hQ⟩ hF
     replace hS : St w0 [arr 25 2 api_Span.cells b0 b7.length b3 b7,blk aI 199 a5.ar,nestR 135 132 1 (fN 1) a9 aQ.length aF b4 c6,arrT 192 2 fold_place.cells aZ aL.length b2 aL,blk a6 192 #[iv a2.ray,iv a2.gate],blk a1 190 #[sv aZ aL b2],blk a0 189 #[.map (some a4)],mapR (fA fold_place.cells) Value.bool a4 bB,fz w0 ν3184,blk b9 197 #[sv a9 aQ aF,.map (some a3)],mnestR (fA fold_place.cells) 199 3 fold_bond.cells a3 B16 aB] w:=hS.madeL hQ
     refine rn 1 17 [(7,pb b9),(8,pb a0),(9,pb a1),(10,.func (.func 105) #[] #[pb a0,pb a1]),(15,pb a6),(17,pb aI),(18,sv bT bL bX),(19,sv b0 b7 b3),(62,.slice aJ (((lkM y5.bonds a2).getD []).length) aM),(63,iv ((((lkM y5.bonds a2).getD []).length : Nat) : Int)),(64,iv aG)] hF fun a hF=>?_
     refine wfn rfl ?_
     refine esr ?_
     replace h:=bindS h
     obtain ⟨eJ,f7,h⟩:=h
     refine rx 4 [.call [] 106 #[sv bT bL bX,sv b0 b7 b3] (.bool eJ)] 4 [(7,pb b9),(8,pb a0),(9,pb a1),(10,.func (.func 105) #[] #[pb a0,pb a1]),(15,pb a6),(17,pb aI),(19,sv b0 b7 b3),(62,.slice aJ (((lkM y5.bonds a2).getD []).length) aM),(63,iv ((((lkM y5.bonds a2).getD []).length : Nat) : Int)),(64,iv aG),(101,.bool (!eJ))] hF (ocons (show Ob.ok _ Ext _ _ from fun hk w2 hd=>slices_Equal_fold_speeds_api_Span_ok F bL b7 _ ((fun _=>f7) hk) _ w2 (memOf_at w2) (cA.mono (FrzAt.le_mem ((hS.later hd).frz (i:=8) rfl hlow))) (Arr.toM ((hS.later hd).arr (i:=0) rfl))) onil) fun a w hF hx=>?_
     replace hS:=hS.later hx
     refine wfn rfl ?_
     refine econd hF rfl (fun hc=>?_) (fun hc=>?_)
     ·replace h:=bif_t h hc
      refine eseq ?_
      replace h:=bindS h
      obtain ⟨eG,f0,h⟩:=h
      obtain ⟨cW,dR,fL,e2,e5,dV,cC⟩:=NestOk.get bH f0
      replace h:=bindS h
      obtain ⟨fE,f1,h⟩:=h
      obtain ⟨fP,dY,eQ⟩:=getI_all2 cC f1
      obtain ⟨eK,eL,rfl,d6⟩:=eQ
      refine runD (obs:=[.run [] (Instr.loadAt 147 (pb b9)) (sv a9 aQ aF),.run [] (Instr.loadAt 3 (pb aI)) (iv a5.to.ray),.run [] (Instr.indexAt 147 (sv a9 aQ aF) (iv a5.to.ray)) (.pointer (some (slAddr a9 a5.to.ray 1))),.run [] (Instr.loadAt 135 (.pointer (some (slAddr a9 a5.to.ray 1)))) (sv cW eG dR),.run [] (Instr.loadAt 3 (.pointer (some ⟨aI,1,none⟩))) (iv a5.to.gate),.run [] (Instr.indexAt 135 (sv cW eG dR) (iv a5.to.gate)) (.pointer (some (slAddr cW a5.to.gate 1)))]) 14 [(7,pb b9),(8,pb a0),(9,pb a1),(10,.func (.func 105) #[] #[pb a0,pb a1]),(15,pb a6),(17,pb aI),(62,.slice aJ (((lkM y5.bonds a2).getD []).length) aM),(63,iv ((((lkM y5.bonds a2).getD []).length : Nat) : Int)),(64,iv aG),(114,sv b0 b7 b3),(115,.pointer (some (slAddr cW a5.to.gate 1)))] (by kernel_rfl) hF (by kernel_rfl) (ocons (ob1 (by kernel_rfl) (fun _ hd=>(hS.later hd).cell (i:=9) (j:=0) rfl rfl)) (ocons (ob1 (by kernel_rfl) (fun _ hd=>(hS.later hd).cell (i:=1) (j:=0) rfl rfl)) (ocons (obIdxQ (nestOut (hS.res (i:=2) rfl)) (by kernel_rfl) (fun _=>e2)) (ocons (obElQ (i:=a5.to.ray) 0 hdF_len (fun _ hd=>(nestOut ((hS.later hd).res (i:=2) rfl))) (by kernel_rfl) (fun _=>e2) rfl) (ocons (ob1 (by kernel_rfl) (fun _ hd=>(hS.later hd).cell (i:=1) (j:=1) rfl rfl)) (ocons (obIdxQ (nestRow (hS.res (i:=2) rfl) e5 dV) (by kernel_rfl) (fun _=>dY)) onil)))))) ⟨by kernel_rfl⟩ fun a w hF hx=>?_
      replace hS:=hS.later hx
      obtain ⟨ν3330,aU,hlow,hS,fD⟩:=hS.freeze (i:=8) (j:=0) rfl rfl (by decide) hlow
      replace hA4:=hA4.mono Rp135.mono aU.1
      replace aE:=aE.mono Rp132.mono aU.1
      replace bG:=bG.mono Rp132.mono aU.1
      replace bH:=bH.mono Rp132.mono aU.1
      replace cO:=All2.mono Rp132.mono aU.1 cO
      replace cA:=cA.mono aU.1
      replace cP:=All2.mono Rp132.mono aU.1 cP
      replace cK:=cK.mono aU.1
      replace cC:=All2.mono Rp132.mono aU.1 cC
      replace d6:=d6.mono aU.1
      replace aT:=Frz.le_trans aT aU.1
      replace b8:=Frz.le_trans b8 aU.1
      replace b5:=Frz.le_trans b5 aU.1
      replace b6:=Frz.le_trans b6 aU.1
      replace c7:=Frz.le_trans c7 aU.1
      replace hext:=Frz.ext_trans hext aU
      replace hS : St w0 [blk aI 199 a5.ar,nestR 135 132 1 (fN 1) a9 aQ.length aF b4 c6,arrT 192 2 fold_place.cells aZ aL.length b2 aL,blk a6 192 #[iv a2.ray,iv a2.gate],blk a1 190 #[sv aZ aL b2],blk a0 189 #[.map (some a4)],mapR (fA fold_place.cells) Value.bool a4 bB,fz w0 ν3330,blk b9 197 #[sv a9 aQ aF,.map (some a3)],mnestR (fA fold_place.cells) 199 3 fold_bond.cells a3 B16 aB] w:=hS
      have dH:=ArrM.of_arr fD
      replace h:=bindS h
      obtain ⟨fT,eS,h⟩:=h
      replace h:=bindS h
      obtain ⟨bC,eT,h⟩:=h
      refine SK.wi (setNK (t:=132) (j:=a5.to.gate) (S:=Rp132 ν3330) [(7,pb b9),(8,pb a0),(9,pb a1),(10,.func (.func 105) #[] #[pb a0,pb a1]),(15,pb a6),(17,pb aI),(62,.slice aJ (((lkM y5.bonds a2).getD []).length) aM),(63,iv ((((lkM y5.bonds a2).getD []).length : Nat) : Int)),(64,iv aG)] 1 a5.to.ray 0 [sv eK fE eL] [sv b0 b7 b3] b7 (sv b0 b7 b3) bH ⟨b0,b3,rfl,dH⟩ hF hS rfl (by kernel_rfl) ⟨by kernel_rfl⟩ (fN_len 1) e5 dV cC dY rfl (by kernel_rfl) (by kernel_rfl) (by kernel_rfl) eS eT ⟨by kernel_rfl⟩ fun c9 w a hF hL_ hl dK hS=>?_)
      simp only [sv,ln,hL_] at hF hS
      refine wfn rfl ?_
      refine WI.region ?_
      refine rno 3 [.run [] (Instr.loadAt 192 (pb aI)) (.agg #[iv a5.to.ray,iv a5.to.gate])] 3 [(7,pb b9),(8,pb a0),(9,pb a1),(10,.func (.func 105) #[] #[pb a0,pb a1]),(15,pb a6),(62,.slice aJ (((lkM y5.bonds a2).getD []).length) aM),(63,iv ((((lkM y5.bonds a2).getD []).length : Nat) : Int)),(64,iv aG),(116,.func (.func 105) #[] #[pb a0,pb a1]),(118,.agg #[iv a5.to.ray,iv a5.to.gate])] hF (ocons (obN (us:=[iv a5.to.ray,iv a5.to.gate]) (by kernel_rfl) (fun _ hd=>((hS.at_ hd).blk (i:=0) rfl).cells rfl)) onil) fun a hF=>?_
      replace h:=bindS h
      obtain ⟨bM,f8,h⟩:=h
      replace hS : St w0 [blk aI 199 a5.ar,nestR 135 132 1 (fN 1) a9 bC.length aF b4 c9,arrT 192 2 fold_place.cells aZ aL.length b2 aL,blk a6 192 #[iv a2.ray,iv a2.gate],blk a1 190 #[sv aZ aL b2],blk a0 189 #[.map (some a4)],mapR (fA fold_place.cells) Value.bool a4 bB,fz w0 ν3330,blk b9 197 #[sv a9 bC aF,.map (some a3)],mnestR (fA fold_place.cells) 199 3 fold_bond.cells a3 B16 aB] w:=hS
      replace hS : St w0 [fz w0 ν3330,blk a0 189 #[.map (some a4)],mapR (fA fold_place.cells) Value.bool a4 bB,blk a1 190 #[sv aZ aL b2],arrT 192 2 fold_place.cells aZ aL.length b2 aL,blk aI 199 a5.ar,nestR 135 132 1 (fN 1) a9 bC.length aF b4 c9,blk a6 192 #[iv a2.ray,iv a2.gate],blk b9 197 #[sv a9 bC aF,.map (some a3)],mnestR (fA fold_place.cells) 199 3 fold_bond.cells a3 B16 aB] w:=St.pick [7,5,6,4,2,0,1,3,8,9] (by decide) hS
      refine SK.wi (callK (f:=105) (args:=#[.agg #[iv a5.to.ray,iv a5.to.gate],pb a0,pb a1]) (R:=fun v w2=>∃ (ν3339 : Frz) (bU : Option Addr) (bY : Nat),ν3330.ext w0.heap.size ν3339∧FrzIn w0 ν3339∧v = .tuple #[]∧St w0 [fz w0 ν3339,blk a0 189 #[.map (some a4)],mapR (fA fold_place.cells) Value.bool a4 bM.1,blk a1 190 #[sv bU bM.2 bY],arrT 192 2 fold_place.cells bU bM.2.length bY bM.2,blk aI 199 a5.ar,nestR 135 132 1 (fN 1) a9 bC.length aF b4 c9,blk a6 192 #[iv a2.ray,iv a2.gate],blk b9 197 #[sv a9 bC aF,.map (some a3)],mnestR (fA fold_place.cells) 199 3 fold_bond.cells a3 B16 aB] w2) (fun fF=>[(7,pb b9),(8,pb a0),(9,pb a1),(10,.func (.func 105) #[] #[pb a0,pb a1]),(15,pb a6),(62,.slice aJ (((lkM y5.bonds a2).getD []).length) aM),(63,iv ((((lkM y5.bonds a2).getD []).length : Nat) : Int)),(64,iv aG)]) hF (by kernel_rfl) ⟨by kernel_rfl⟩ (Calls.mono (fold_settle_1_ok F a5.to bB aL _ f8 ν3330 w0 w [blk aI 199 a5.ar,nestR 135 132 1 (fN 1) a9 bC.length aF b4 c9,blk a6 192 #[iv a2.ray,iv a2.gate],blk b9 197 #[sv a9 bC aF,.map (some a3)],mnestR (fA fold_place.cells) 199 3 fold_bond.cells a3 B16 aB] hlow  hS) (by rintro e w2 ⟨ν3339,bU,bY,aO,hlow_,rfl,h⟩; exact ⟨_,rfl,ν3339,bU,bY,aO,hlow_,rfl,h⟩)) (fun _=>⟨by kernel_rfl⟩) ?_)
      rintro fF w a ⟨ν3339,bU,bY,aO,hlow,rfl,hS⟩ hF
      replace hext:=Frz.ext_trans hext aO
      replace hA4:=hA4.mono Rp135.mono aO.1
      replace aE:=aE.mono Rp132.mono aO.1
      replace bG:=bG.mono Rp132.mono aO.1
      replace cO:=All2.mono Rp132.mono aO.1 cO
      replace cA:=cA.mono aO.1
      replace cP:=All2.mono Rp132.mono aO.1 cP
      replace cK:=cK.mono aO.1
      replace cC:=All2.mono Rp132.mono aO.1 cC
      replace d6:=d6.mono aO.1
      replace dH:=dH.mono aO.1
      replace dK:=dK.mono Rp132.mono aO.1
      replace aT:=Frz.le_trans aT aO.1
      replace b8:=Frz.le_trans b8 aO.1
      replace b5:=Frz.le_trans b5 aO.1
      replace b6:=Frz.le_trans b6 aO.1
      replace c7:=Frz.le_trans c7 aO.1
      replace hS : St w0 [fz w0 ν3339,blk a0 189 #[.map (some a4)],mapR (fA fold_place.cells) Value.bool a4 bM.1,blk a1 190 #[sv bU bM.2 bY],arrT 192 2 fold_place.cells bU bM.2.length bY bM.2,blk aI 199 a5.ar,nestR 135 132 1 (fN 1) a9 bC.length aF b4 c9,blk a6 192 #[iv a2.ray,iv a2.gate],blk b9 197 #[sv a9 bC aF,.map (some a3)],mnestR (fA fold_place.cells) 199 3 fold_bond.cells a3 B16 aB] w:=hS
      refine WI.fin rfl (norm_block <| norm_then <| ?_)
      exact ⟨bM.2,bC,bM.1,ν3339,bU,bY,a9,aF,b4,c9,hF.sub (by kernel_rfl),St.pick [6,4,0,1,2,3,7,8,9] (by decide) hS,dK,c7,hext,hlow,h⟩
     ·replace h:=bif_f h hc
      refine wpIn_skip (norm_block <| norm_then <| ?_)
      exact ⟨aL,aQ,bB,ν3184,aZ,b2,a9,aF,b4,c6,hF.sub (by kernel_rfl),St.pick [2,3,8,6,7,5,4,9,10] (by decide) hS,bH,c7,hext,hlow,h⟩
    clear c7
    rintro a w ⟨cE,cF,dA,ν3264,cS,d0,cT,d1,d7,d5,hF,hS,eV,c1,hext,hlow,h⟩
    replace hA4:=hA4.mono Rp135.mono c1
    replace aE:=aE.mono Rp132.mono c1
    replace bG:=bG.mono Rp132.mono c1
    replace bH:=bH.mono Rp132.mono c1
    replace aT:=Frz.le_trans aT c1
    replace b8:=Frz.le_trans b8 c1
    replace b5:=Frz.le_trans b5 c1
    replace b6:=Frz.le_trans b6 c1
    rw [fold_settle_K5] at h
    refine WI.region ?_
    replace h:=bindS h
    obtain ⟨dL,f3,h⟩:=h
    refine rno 2 [.run [] (binOp .add 3 (iv aG) (iv 1)) (iv dL)] 2 [(7,pb b9),(8,pb a0),(9,pb a1),(10,.func (.func 105) #[] #[pb a0,pb a1]),(15,pb a6),(62,.slice aJ (((lkM y5.bonds a2).getD []).length) aM),(63,iv ((((lkM y5.bonds a2).getD []).length : Nat) : Int)),(64,iv dL)] hF (ocons (obAddC (fun _=>f3)) onil) fun a hF=>?_
    refine wfn rfl ?_
    rw [hk4] at h
    exact ⟨nk4,Nat.lt_succ_self _,cE,cF,dA,dL,ν3264,cS,d0,cT,d1,d7,d5,hF.sub (by kernel_rfl),St.pick [0,1,6,5,3,4,2,7,8] (by decide) hS,eV,b6,hext,hlow,h⟩
   ·replace h:=bif_f h hc
    refine wpIn_exit (exit_then <| exit_then <| exit_hit <| norm_block <| norm_then <| ?_)
    rw [hk3] at h
    exact ⟨nk3,Nat.lt_succ_self _,aL,aQ,bB,ν3184,aZ,b2,a9,aF,b4,c6,hF.sub (by kernel_rfl),St.pick [0,1,3,4,5,6,7,8] (by decide) hS,bH,b5,hext,hlow,h⟩
  ·replace h:=bif_f h hc
   refine wpIn_exit (exit_then <| exit_then <| exit_hit <| norm_then ?_)
   exact ⟨aP,aV,bK,ν2847,aH,aA,aY,b1,bR,bQ,hF.sub (by kernel_rfl),St.pick [0,1,2,3,4,5,6,7] (by decide) hS,bG,b8,hext,hlow,h⟩
 clear b8
 rintro a w ⟨c2,bJ,d9,ν1850,cI,cJ,bO,bP,cM,dG,hF,hS,dJ,cN,hext,hlow,h⟩
 replace hA4:=hA4.mono Rp135.mono cN
 replace aE:=aE.mono Rp132.mono cN
 replace aT:=Frz.le_trans aT cN
 rw [fold_settle_K2] at h
 refine esr ?_
 refine rno 5 [.run [] (Instr.loadAt 147 (pb b9)) (sv bO bJ bP)] 5 [(6,sv bO bJ bP)] hF (ocons (ob1 (by kernel_rfl) (fun _ hd=>(hS.at_ hd).cell (i:=6) (j:=0) rfl rfl)) onil) fun a hF=>?_
 refine wfn rfl ?_
 refine wpIn_ret (fn_ret [.tmp 6] [sv bO bJ bP] hF rfl ⟨rfl,trivial⟩ ?_)
 obtain ⟨ν1862,cD,hlow,hS,fC⟩:=hS.freeze (i:=5) (j:=0) rfl rfl (by decide) hlow
 replace hA4:=hA4.mono Rp135.mono cD.1
 replace aE:=aE.mono Rp132.mono cD.1
 replace dJ:=dJ.mono Rp132.mono cD.1
 replace aT:=Frz.le_trans aT cD.1
 replace cN:=Frz.le_trans cN cD.1
 replace hext:=Frz.ext_trans hext cD
 replace hS : St w0 [arrT 192 2 fold_place.cells cI c2.length cJ c2,blk a1 190 #[sv cI c2 cJ],blk a0 189 #[.map (some a4)],mapR (fA fold_place.cells) Value.bool a4 d9,fz w0 ν1862,blk b9 197 #[sv bO bJ bP,.map (some a3)],mnestR (fA fold_place.cells) 199 3 fold_bond.cells a3 B16 aB] w:=hS
 have eN : ArrQ ν1862 1 Rp135 bO bP (cM.map hdF) bJ:=nestQ fC dJ (fun ad_ cap_ c_ x_ h1_ h2_=>⟨ad_,cap_,c_,rfl,ArrQ.of_rows h1_ h2_⟩)
 have hr_:=Option.some.inj h
 subst hr_
 exact ⟨ν1862,bO,bP,(cM.map hdF),hext,rfl,eN,St.pick [4] (by decide) hS⟩
end Go.Proofs.Ytbhjgebjojdohaa
