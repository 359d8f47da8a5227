import Derived.Test.YtbhjgebjojdohaaF11XD
import Derived.Test.YtbhjgebjojdohaaProg
import Derived.Test.YtbhjgebjojdohaaF11XW0
import Derived.Test.YtbhjgebjojdohaaF11XW1
import Derived.Test.YtbhjgebjojdohaaF11XW5
import Derived.Test.YtbhjgebjojdohaaF11WkG
namespace Go.Proofs.Ytbhjgebjojdohaa
open Go Go.RowKit Go.Eng
set_option maxRecDepth 10000
set_option maxHeartbeats 4000000
set_option linter.unusedVariables false
set_option linter.unusedSimpArgs false
theorem law03_FoldFewer_ok (F : Nat) (p0 : (List (List (List Int)))) (p1 : Int) (p2 : (Int×Int)) (p3 : (Int×Int)) (p4 : (List Int)) (res : Bool) (h : law03_FoldFewer F p0 p1 p2 p3 p4 = some res) (μ : Frz) (w0 : World) (hm : FrzAt μ w0) {ad1 : Option Addr} {cap2 : Nat} {css3 : List (List Value)} {ad5 : Option Addr} {cap6 : Nat} (hA4 : ArrQ μ 1 Rp82 ad1 cap2 css3 p0) (hA7 : ArrM μ 1 (fK .u8) ad5 cap6 p4) : Calls Try.prog 11 #[sv ad1 p0 cap2,.int .u8 p1,.agg #[.int .u8 p2.1,.int .u8 p2.2],.agg #[.int .u8 p3.1,.int .u8 p3.2],sv ad5 p4 cap6] w0 (fun e w=>e = .returned (.bool res)∧Ext w0 w):=by
 obtain ⟨hlow,hS⟩:=hm.init
 have hext:=Frz.ext_refl w0.heap.size μ
 rw [law03_FoldFewer] at h
 refine fn_enterW Try.func11 rfl 263 [(0,sv ad1 p0 cap2),(1,.int .u8 p1),(2,.agg #[.int .u8 p2.1,.int .u8 p2.2]),(3,.agg #[.int .u8 p3.1,.int .u8 p3.2]),(4,sv ad5 p4 cap6)] rfl rfl (by kernel_rfl) fun a w hw hF=>?_
 replace hS : St w0 [fz w0 μ] w:=by rw [hw]; exact hS
 clear hw
 refine esr ?_
 refine SK.wi (boxK (t:=95) (fun b8=>[(0,sv ad1 p0 cap2),(1,.int .u8 p1),(3,.agg #[.int .u8 p3.1,.int .u8 p3.2]),(4,sv ad5 p4 cap6),(7,pb b8)]) (.agg #[.int .u8 p2.1,.int .u8 p2.2]) #[.int .u8 p2.1,.int .u8 p2.2] hF hS (by kernel_rfl) ⟨by kernel_rfl⟩ (by kernel_rfl) (fun _=>⟨by kernel_rfl⟩) fun b8 w a hF hS=>?_)
 refine SK.wi (boxK (t:=95) (fun b9=>[(0,sv ad1 p0 cap2),(1,.int .u8 p1),(4,sv ad5 p4 cap6),(7,pb b8),(8,pb b9)]) (.agg #[.int .u8 p3.1,.int .u8 p3.2]) #[.int .u8 p3.1,.int .u8 p3.2] hF hS (by kernel_rfl) ⟨by kernel_rfl⟩ (by kernel_rfl) (fun _=>⟨by kernel_rfl⟩) fun b9 w a hF hS=>?_)
 refine rn 1 3 [(0,sv ad1 p0 cap2),(1,.int .u8 p1),(4,sv ad5 p4 cap6),(7,pb b8),(8,pb b9)] hF fun a hF=>?_
 refine wfn rfl ?_
 refine eseq ?_
 refine esr ?_
 refine rn 8 8 [(0,sv ad1 p0 cap2),(1,.int .u8 p1),(4,sv ad5 p4 cap6),(7,pb b8),(8,pb b9),(42,.bool (bif (decide ((ln p0) < 1)) then true else (decide ((ln p0) > 4))))] hF fun a hF=>?_
 refine wfn rfl ?_
 refine econd hF rfl (fun hc=>?_) (fun hc=>?_)
 ·replace h:=bif_t h hc
  refine esr ?_
  refine rx 2 [.call [] 19 #[] (.bool law03_works)] 2 [(10,.bool law03_works)] hF (ocons (show Ob.ok _ Ext _ _ from fun hk w2 hd=>law03_works_ok  _ rfl _ w2 (memOf_at w2)) onil) fun a w hF hx=>?_
  replace hS:=hS.later hx
  refine wfn rfl ?_
  refine wpIn_ret (ret_then <| fn_ret [.tmp 10] [.bool law03_works] hF rfl ⟨rfl,trivial⟩ ?_)
  have hr_:=Option.some.inj h
  subst hr_
  exact ⟨rfl,hS.ext⟩
 ·replace h:=bif_f h hc
  refine wpIn_skip (norm_then ?_)
  refine esr ?_
  replace h:=bindS h
  obtain ⟨gG,iE,h⟩:=h
  replace h:=bindS h
  obtain ⟨gI,iJ,h⟩:=h
  replace h:=bindS h
  obtain ⟨a0,iK,h⟩:=h
  refine rno 5 [.run [] (convert 5 3 (.int .u8 p1)) (iv gG),.run [] (binOp .rem 3 (iv gG) (iv 3)) (iv gI),.run [] (binOp .add 3 (iv 1) (iv gI)) (iv a0)] 5 [(0,sv ad1 p0 cap2),(4,sv ad5 p4 cap6),(7,pb b8),(8,pb b9),(11,iv a0)] hF (ocons (obConvC (by kernel_rfl) (by kernel_rfl) (fun _=>iE)) (ocons (obRemC (fun _=>iJ)) (ocons (obAddC (fun _=>iK)) onil))) fun a hF=>?_
  refine wfn rfl ?_
  refine esr ?_
  refine rn 2 2 [(0,sv ad1 p0 cap2),(4,sv ad5 p4 cap6),(7,pb b8),(8,pb b9),(11,iv a0),(12,.slice none 0 0),(13,.slice none 0 0)] hF fun a hF=>?_
  refine wfn rfl ?_
  have aO:=Frz.le_refl μ
  refine ecut (fun a w=>∃ (a6 : (List (List (List api_Span)))) (bC : (List (List (List api_Span)))) (ν3886 : Frz) (aD : Option Addr) (aE : Nat) (e2 : List (List Value)) (bV : Option Addr) (bX : Nat) (d5 : List (List Value)),Fr 263 [] [(7,pb b8),(8,pb b9),(11,iv a0),(12,sv aD a6 aE),(13,sv bV bC bX)] a∧St w0 [arr 48 1 (fN 1) bV bC.length bX d5,arr 48 1 (fN 1) aD a6.length aE e2,blk b9 95 #[.int .u8 p3.1,.int .u8 p3.2],blk b8 95 #[.int .u8 p2.1,.int .u8 p2.2],fz w0 ν3886] w∧(All2 (Rp48 ν3886) e2 a6)∧(All2 (Rp48 ν3886) d5 bC)∧(μ.le ν3886)∧(μ.ext w0.heap.size ν3886)∧(FrzIn w0 ν3886)∧law03_FoldFewer_K1 F p2 p3 a0 a6 bC = some res) ?_ ?_
  ·skip
   refine esr ?_
   refine rn 3 3 [(0,sv ad1 p0 cap2),(4,sv ad5 p4 cap6),(7,pb b8),(8,pb b9),(11,iv a0),(12,.slice none 0 0),(13,.slice none 0 0),(49,iv (ln p0)),(50,iv 0)] hF fun a hF=>?_
   refine wfn rfl ?_
   refine wpIn_block ?_
   have fT:=Frz.le_refl μ
   replace hS:=hS.nilarr 48 1 (fN 1)
   replace hS:=hS.nilarr 48 1 (fN 1)
   refine eloop (fun n_ a w=>∃ (aG : (List (List (List api_Span)))) (aF : (List (List (List api_Span)))) (a5 : Int) (ν9300 : Frz) (aK : Option Addr) (aL : Nat) (b2 : List (List Value)) (aI : Option Addr) (aJ : Nat) (b3 : List (List Value)),Fr 263 [] [(0,sv ad1 p0 cap2),(4,sv ad5 p4 cap6),(7,pb b8),(8,pb b9),(11,iv a0),(12,sv aK aG aL),(13,sv aI aF aJ),(49,iv (ln p0)),(50,iv a5)] a∧St w0 [arr 48 1 (fN 1) aI aF.length aJ b3,arr 48 1 (fN 1) aK aG.length aL b2,blk b9 95 #[.int .u8 p3.1,.int .u8 p3.2],blk b8 95 #[.int .u8 p2.1,.int .u8 p2.2],fz w0 ν9300] w∧(All2 (Rp48 ν9300) b2 aG)∧(All2 (Rp48 ν9300) b3 aF)∧(μ.le ν9300)∧(μ.ext w0.heap.size ν9300)∧(FrzIn w0 ν9300)∧law03_FoldFewer_L8 F p0 p2 p3 p4 a0 n_ aG aF a5 = some res) F ⟨[],[],0,μ,none,0,[],none,0,[],hF.sub (by kernel_rfl),St.pick [0,1,2,3,4] (by decide) hS,All2.nil,All2.nil,fT,hext,hlow,h⟩ ?_
   clear fT
   rintro nk8 a w ⟨aG,aF,a5,ν9300,aK,aL,b2,aI,aJ,b3,hF,hS,aR,aS,aP,hext,hlow,h⟩
   rcases nk8 with _ | nk8
   ·cases (show (none : Option Bool) = some res from h)
   replace hA4:=hA4.mono Rp82.mono aP
   replace hA7:=hA7.mono aP
   replace aO:=Frz.le_trans aO aP
   obtain ⟨k8,hk8⟩ : ∃ k,k = law03_FoldFewer_L8 F p0 p2 p3 p4 a0 nk8:=⟨_,rfl⟩
   replace h : law03_FoldFewer_B8 F p0 p2 p3 p4 a0 k8 aG aF a5 = some res:=by rw [hk8]; exact h
   rw [law03_FoldFewer_B8] at h
   refine esr ?_
   refine rn 1 1 [(0,sv ad1 p0 cap2),(4,sv ad5 p4 cap6),(7,pb b8),(8,pb b9),(11,iv a0),(12,sv aK aG aL),(13,sv aI aF aJ),(49,iv (ln p0)),(50,iv a5),(51,.bool (decide (a5 < (ln p0))))] hF fun a hF=>?_
   refine wfn rfl ?_
   refine eseq ?_
   refine econd hF rfl (fun hc=>?_) (fun hc=>?_)
   ·replace h:=bif_t h hc
    refine wpIn_skip (norm_then ?_)
    have aT:=Frz.le_refl ν9300
    refine ecut (fun a w=>∃ (cM : (List (List (List api_Span)))) (cN : (List (List (List api_Span)))) (ν9948 : Frz) (cW : Option Addr) (d2 : Nat) (dN : List (List Value)) (cX : Option Addr) (d3 : Nat) (dO : List (List Value)),Fr 263 [] [(0,sv ad1 p0 cap2),(4,sv ad5 p4 cap6),(7,pb b8),(8,pb b9),(11,iv a0),(12,sv cW cM d2),(13,sv cX cN d3),(49,iv (ln p0)),(50,iv a5)] a∧St w0 [arr 48 1 (fN 1) cX cN.length d3 dO,arr 48 1 (fN 1) cW cM.length d2 dN,blk b9 95 #[.int .u8 p3.1,.int .u8 p3.2],blk b8 95 #[.int .u8 p2.1,.int .u8 p2.2],fz w0 ν9948] w∧(All2 (Rp48 ν9948) dN cM)∧(All2 (Rp48 ν9948) dO cN)∧(ν9300.le ν9948)∧(μ.ext w0.heap.size ν9948)∧(FrzIn w0 ν9948)∧law03_FoldFewer_K9 a5 k8 cM cN = some res) ?_ ?_
    ·skip
     refine wpIn_block ?_
     refine esr ?_
     refine rn 2 2 [(0,sv ad1 p0 cap2),(4,sv ad5 p4 cap6),(7,pb b8),(8,pb b9),(11,iv a0),(12,sv aK aG aL),(13,sv aI aF aJ),(14,iv a5),(49,iv (ln p0)),(50,iv a5)] hF fun a hF=>?_
     refine wfn rfl ?_
     refine esr ?_
     refine rn 1 1 [(0,sv ad1 p0 cap2),(4,sv ad5 p4 cap6),(7,pb b8),(8,pb b9),(11,iv a0),(12,sv aK aG aL),(13,sv aI aF aJ),(14,iv a5),(15,.slice none 0 0),(49,iv (ln p0)),(50,iv a5)] hF fun a hF=>?_
     refine wfn rfl ?_
     have cQ:=Frz.le_refl ν9300
     refine ecut (fun a w=>∃ (cA : (List (List Int))) (ν10162 : Frz) (cT : Option Addr) (cZ : Nat) (e1 : List (List Value)),Fr 263 [] [(0,sv ad1 p0 cap2),(4,sv ad5 p4 cap6),(7,pb b8),(8,pb b9),(11,iv a0),(12,sv aK aG aL),(13,sv aI aF aJ),(14,iv a5),(15,sv cT cA cZ),(49,iv (ln p0)),(50,iv a5)] a∧St w0 [arr 91 1 (fN 1) cT cA.length cZ e1,arr 48 1 (fN 1) aI aF.length aJ b3,arr 48 1 (fN 1) aK aG.length aL b2,blk b9 95 #[.int .u8 p3.1,.int .u8 p3.2],blk b8 95 #[.int .u8 p2.1,.int .u8 p2.2],fz w0 ν10162] w∧(All2 (Rp91 ν10162) e1 cA)∧(ν9300.le ν10162)∧(μ.ext w0.heap.size ν10162)∧(FrzIn w0 ν10162)∧law03_FoldFewer_K10 F p4 a0 aG aF a5 k8 cA = some res) ?_ ?_
     ·skip
      refine esr ?_
      refine rn 2 2 [(0,sv ad1 p0 cap2),(4,sv ad5 p4 cap6),(7,pb b8),(8,pb b9),(11,iv a0),(12,sv aK aG aL),(13,sv aI aF aJ),(14,iv a5),(15,.slice none 0 0),(49,iv (ln p0)),(50,iv a5),(53,iv a0),(54,iv 0)] hF fun a hF=>?_
      refine wfn rfl ?_
      refine wpIn_block ?_
      have fS:=Frz.le_refl ν9300
      replace hS:=hS.nilarr 91 1 (fN 1)
      refine eloop (fun n_ a w=>∃ (aX : (List (List Int))) (aQ : Int) (ν10526 : Frz) (b7 : Option Addr) (bB : Nat) (cD : List (List Value)),Fr 263 [] [(0,sv ad1 p0 cap2),(4,sv ad5 p4 cap6),(7,pb b8),(8,pb b9),(11,iv a0),(12,sv aK aG aL),(13,sv aI aF aJ),(14,iv a5),(15,sv b7 aX bB),(49,iv (ln p0)),(50,iv a5),(53,iv a0),(54,iv aQ)] a∧St w0 [arr 91 1 (fN 1) b7 aX.length bB cD,arr 48 1 (fN 1) aI aF.length aJ b3,arr 48 1 (fN 1) aK aG.length aL b2,blk b9 95 #[.int .u8 p3.1,.int .u8 p3.2],blk b8 95 #[.int .u8 p2.1,.int .u8 p2.2],fz w0 ν10526] w∧(All2 (Rp91 ν10526) cD aX)∧(ν9300.le ν10526)∧(μ.ext w0.heap.size ν10526)∧(FrzIn w0 ν10526)∧law03_FoldFewer_L13 F p0 p4 a0 aG aF a5 k8 n_ aX aQ = some res) F ⟨[],0,ν9300,none,0,[],hF.sub (by kernel_rfl),St.pick [0,1,2,3,4,5] (by decide) hS,All2.nil,fS,hext,hlow,h⟩ ?_
      clear fS
      rintro dU a w ⟨aX,aQ,ν10526,b7,bB,cD,hF,hS,dR,c3,hext,hlow,h⟩
      rcases dU with _ | dU
      ·cases (show (none : Option Bool) = some res from h)
      replace hA4:=hA4.mono Rp82.mono c3
      replace hA7:=hA7.mono c3
      replace aR:=All2.mono Rp48.mono c3 aR
      replace aS:=All2.mono Rp48.mono c3 aS
      replace aO:=Frz.le_trans aO c3
      replace aP:=Frz.le_trans aP c3
      replace aT:=Frz.le_trans aT c3
      replace cQ:=Frz.le_trans cQ c3
      obtain ⟨g3,fV⟩ : ∃ k,k = law03_FoldFewer_L13 F p0 p4 a0 aG aF a5 k8 dU:=⟨_,rfl⟩
      replace h : law03_FoldFewer_B13 F p0 p4 a0 aG aF a5 k8 g3 aX aQ = some res:=by rw [fV]; exact h
      rw [law03_FoldFewer_B13] at h
      refine esr ?_
      refine rn 1 1 [(0,sv ad1 p0 cap2),(4,sv ad5 p4 cap6),(7,pb b8),(8,pb b9),(11,iv a0),(12,sv aK aG aL),(13,sv aI aF aJ),(14,iv a5),(15,sv b7 aX bB),(49,iv (ln p0)),(50,iv a5),(53,iv a0),(54,iv aQ),(55,.bool (decide (aQ < a0)))] hF fun a hF=>?_
      refine wfn rfl ?_
      refine eseq ?_
      refine econd hF rfl (fun hc=>?_) (fun hc=>?_)
      ·replace h:=bif_t h hc
       refine wpIn_skip (norm_then ?_)
       refine eseq ?_
       refine wpIn_block ?_
       refine esr ?_
       refine rn 2 2 [(0,sv ad1 p0 cap2),(4,sv ad5 p4 cap6),(7,pb b8),(8,pb b9),(11,iv a0),(12,sv aK aG aL),(13,sv aI aF aJ),(14,iv a5),(15,sv b7 aX bB),(16,iv aQ),(49,iv (ln p0)),(50,iv a5),(53,iv a0),(54,iv aQ)] hF fun a hF=>?_
       refine wfn rfl ?_
       refine esr ?_
       refine rn 1 1 [(0,sv ad1 p0 cap2),(4,sv ad5 p4 cap6),(7,pb b8),(8,pb b9),(11,iv a0),(12,sv aK aG aL),(13,sv aI aF aJ),(14,iv a5),(15,sv b7 aX bB),(16,iv aQ),(17,.slice none 0 0),(49,iv (ln p0)),(50,iv a5),(53,iv a0),(54,iv aQ)] hF fun a hF=>?_
       refine wfn rfl ?_
       have eA:=Frz.le_refl ν10526
       refine ecut (fun a w=>∃ (bH : (List Int)) (ν10558 : Frz) (bU : Option Addr) (bW : Nat),Fr 263 [] [(0,sv ad1 p0 cap2),(4,sv ad5 p4 cap6),(7,pb b8),(8,pb b9),(11,iv a0),(12,sv aK aG aL),(13,sv aI aF aJ),(14,iv a5),(15,sv b7 aX bB),(17,sv bU bH bW),(49,iv (ln p0)),(50,iv a5),(53,iv a0),(54,iv aQ)] a∧St w0 [arr 91 1 (fN 1) b7 aX.length bB cD,arr 48 1 (fN 1) aI aF.length aJ b3,arr 48 1 (fN 1) aK aG.length aL b2,blk b9 95 #[.int .u8 p3.1,.int .u8 p3.2],blk b8 95 #[.int .u8 p2.1,.int .u8 p2.2],fz w0 ν10558] w∧(ArrM ν10558 1 (fK .u8) bU bW bH)∧(ν10526.le ν10558)∧(μ.ext w0.heap.size ν10558)∧(FrzIn w0 ν10558)∧law03_FoldFewer_K14 aX aQ g3 bH = some res) ?_ ?_
       ·skip
        refine esr ?_
        replace h:=bindS h
        obtain ⟨g4,hZ,h⟩:=h
        obtain ⟨jI,fA,hB⟩:=getI_all2 hA4.2 hZ
        obtain ⟨gS,gX,jX,rfl,kB⟩:=hB
        refine rno 7 [.run [] (Instr.indexAt 90 (sv ad1 p0 cap2) (iv a5)) (.pointer (some (slAddr ad1 a5 1))),.run [] (Instr.loadAt 82 (.pointer (some (slAddr ad1 a5 1)))) (sv gS g4 gX)] 7 [(0,sv ad1 p0 cap2),(4,sv ad5 p4 cap6),(7,pb b8),(8,pb b9),(11,iv a0),(12,sv aK aG aL),(13,sv aI aF aJ),(14,iv a5),(15,sv b7 aX bB),(16,iv aQ),(17,.slice none 0 0),(49,iv (ln p0)),(50,iv a5),(53,iv a0),(54,iv aQ),(63,.bool (decide (aQ < (ln g4))))] hF (ocons (obIdxQ (hA4.at (hS.frz (i:=5) rfl hlow)) (by kernel_rfl) (fun _=>fA)) (ocons (obElQ (i:=a5) 0 (fN_len 1) (fun _ hd=>(hA4.at ((hS.at_ hd).frz (i:=5) rfl hlow))) (by kernel_rfl) (fun _=>fA) rfl) onil)) fun a hF=>?_
        refine wfn rfl ?_
        refine econd hF rfl (fun hc=>?_) (fun hc=>?_)
        ·replace h:=bif_t h hc
         refine WI.region ?_
         replace h:=bindS h
         obtain ⟨g5,i0,h⟩:=h
         obtain ⟨jJ,fB,hC⟩:=getI_all2 hA4.2 i0
         obtain ⟨dF,f0,jY,rfl,e5⟩:=hC
         replace h:=bindS h
         obtain ⟨eF,i1,h⟩:=h
         obtain ⟨jK,fC,hD⟩:=getI_all2 e5.2 i1
         obtain ⟨dY,e0,rfl,h5⟩:=hD
         refine rno 8 [.run [] (Instr.indexAt 90 (sv ad1 p0 cap2) (iv a5)) (.pointer (some (slAddr ad1 a5 1))),.run [] (Instr.loadAt 82 (.pointer (some (slAddr ad1 a5 1)))) (sv dF g5 f0),.run [] (Instr.indexAt 82 (sv dF g5 f0) (iv aQ)) (.pointer (some (slAddr dF aQ 1))),.run [] (Instr.loadAt 91 (.pointer (some (slAddr dF aQ 1)))) (sv dY eF e0)] 8 [(0,sv ad1 p0 cap2),(4,sv ad5 p4 cap6),(7,pb b8),(8,pb b9),(11,iv a0),(12,sv aK aG aL),(13,sv aI aF aJ),(14,iv a5),(15,sv b7 aX bB),(17,sv dY eF e0),(49,iv (ln p0)),(50,iv a5),(53,iv a0),(54,iv aQ)] hF (ocons (obIdxQ (hA4.at (hS.frz (i:=5) rfl hlow)) (by kernel_rfl) (fun _=>fB)) (ocons (obElQ (i:=a5) 0 (fN_len 1) (fun _ hd=>(hA4.at ((hS.at_ hd).frz (i:=5) rfl hlow))) (by kernel_rfl) (fun _=>fB) rfl) (ocons (obIdxQ (e5.at (hS.frz (i:=5) rfl hlow)) (by kernel_rfl) (fun _=>fC)) (ocons (obElQ (i:=aQ) 0 (fN_len 1) (fun _ hd=>(e5.at ((hS.at_ hd).frz (i:=5) rfl hlow))) (by kernel_rfl) (fun _=>fC) rfl) onil)))) fun a hF=>?_
         refine wfn rfl ?_
         exact ⟨eF,ν10526,dY,e0,hF.sub (by kernel_rfl),St.pick [0,1,2,3,4,5] (by decide) hS,h5,eA,hext,hlow,h⟩
        ·replace h:=bif_f h hc
         refine wpIn_skip (norm_then ?_)
         exact ⟨[],ν10526,none,0,hF.sub (by kernel_rfl),St.pick [0,1,2,3,4,5] (by decide) hS,ArrM.nil,eA,hext,hlow,h⟩
       clear eA
       rintro a w ⟨bH,ν10558,bU,bW,hF,hS,h4,c5,hext,hlow,h⟩
       replace hA4:=hA4.mono Rp82.mono c5
       replace hA7:=hA7.mono c5
       replace aR:=All2.mono Rp48.mono c5 aR
       replace aS:=All2.mono Rp48.mono c5 aS
       replace dR:=All2.mono Rp91.mono c5 dR
       replace aO:=Frz.le_trans aO c5
       replace aP:=Frz.le_trans aP c5
       replace aT:=Frz.le_trans aT c5
       replace cQ:=Frz.le_trans cQ c5
       replace c3:=Frz.le_trans c3 c5
       rw [law03_FoldFewer_K14] at h
       refine WI.region ?_
       refine rn 2 2 [(0,sv ad1 p0 cap2),(4,sv ad5 p4 cap6),(7,pb b8),(8,pb b9),(11,iv a0),(12,sv aK aG aL),(13,sv aI aF aJ),(14,iv a5),(15,sv b7 aX bB),(49,iv (ln p0)),(50,iv a5),(53,iv a0),(54,iv aQ),(71,sv b7 aX bB),(72,sv bU bH bW)] hF fun a hF=>?_
       have g2 : All2 (Rp91 ν10558) ([[sv bU bH bW]] : List (List Value)) [bH]:=(All2.cons ⟨bU,bW,rfl,h4⟩ All2.nil)
       refine SK.wi (litQK (e:=91) (sz:=1) (f:=fN 1) (t:=82) (len:=1) (fun eZ=>[(0,sv ad1 p0 cap2),(4,sv ad5 p4 cap6),(7,pb b8),(8,pb b9),(11,iv a0),(12,sv aK aG aL),(13,sv aI aF aJ),(14,iv a5),(15,sv b7 aX bB),(49,iv (ln p0)),(50,iv a5),(53,iv a0),(54,iv aQ),(71,sv b7 aX bB),(73,sb eZ 1)]) #[(0,sv bU bH bW)] #[sv bU bH bW] ([[sv bU bH bW]] : List (List Value)) ([bH]) hF hS (by kernel_rfl) ⟨by kernel_rfl⟩ (by kernel_rfl) (fN_len 1) rfl rfl rfl (by kernel_rfl) (fun _=>⟨by kernel_rfl⟩) fun eZ w a hF hS=>?_)
       replace h:=bindS h
       obtain ⟨dB,fZ,h⟩:=h
       have hV : All2 (Rp91 ν10558) (cD ++ ([[sv bU bH bW]] : List (List Value))) dB:=by rw [(apd_some fZ).1]; exact All2.app dR g2
       refine SK.wi (appQK (t:=82) (ty:=82) (bytes:=24) (c:=cD) (c':=([[sv bU bH bW]] : List (List Value))) (l:=aX) (l':=([bH])) (fun cV d1=>[(0,sv ad1 p0 cap2),(4,sv ad5 p4 cap6),(7,pb b8),(8,pb b9),(11,iv a0),(12,sv aK aG aL),(13,sv aI aF aJ),(14,iv a5),(15,sv b7 aX bB),(49,iv (ln p0)),(50,iv a5),(53,iv a0),(54,iv aQ),(74,sv cV dB d1)]) 1 hF hS rfl (by kernel_rfl) ⟨by kernel_rfl⟩ (by kernel_rfl) (hS.arr (i:=0) rfl) (ArrQ.one g2 Rp91.one) fZ (fun _ _=>⟨by kernel_rfl⟩) fun cV d1 w a hF hS=>?_)
       refine rn 1 5 [(0,sv ad1 p0 cap2),(4,sv ad5 p4 cap6),(7,pb b8),(8,pb b9),(11,iv a0),(12,sv aK aG aL),(13,sv aI aF aJ),(14,iv a5),(15,sv cV dB d1),(49,iv (ln p0)),(50,iv a5),(53,iv a0),(54,iv aQ)] hF fun a hF=>?_
       refine WI.fin rfl (norm_block <| norm_then <| ?_)
       refine WI.region ?_
       replace h:=bindS h
       obtain ⟨eM,iI,h⟩:=h
       refine rno 2 [.run [] (binOp .add 3 (iv aQ) (iv 1)) (iv eM)] 2 [(0,sv ad1 p0 cap2),(4,sv ad5 p4 cap6),(7,pb b8),(8,pb b9),(11,iv a0),(12,sv aK aG aL),(13,sv aI aF aJ),(14,iv a5),(15,sv cV dB d1),(49,iv (ln p0)),(50,iv a5),(53,iv a0),(54,iv eM)] hF (ocons (obAddC (fun _=>iI)) onil) fun a hF=>?_
       refine wfn rfl ?_
       rw [fV] at h
       exact ⟨dU,Nat.lt_succ_self _,dB,eM,ν10558,cV,d1,(cD ++ ([[sv bU bH bW]] : List (List Value))),hF.sub (by kernel_rfl),St.pick [1,2,3,4,5,6] (by decide) hS,hV,c3,hext,hlow,h⟩
      ·replace h:=bif_f h hc
       refine wpIn_exit (exit_then <| exit_then <| exit_hit <| norm_then ?_)
       exact ⟨aX,ν10526,b7,bB,cD,hF.sub (by kernel_rfl),St.pick [0,1,2,3,4,5] (by decide) hS,dR,cQ,hext,hlow,h⟩
     clear cQ
     rintro a w ⟨cA,ν10162,cT,cZ,e1,hF,hS,eB,aV,hext,hlow,h⟩
     replace hA4:=hA4.mono Rp82.mono aV
     replace hA7:=hA7.mono aV
     replace aR:=All2.mono Rp48.mono aV aR
     replace aS:=All2.mono Rp48.mono aV aS
     replace aO:=Frz.le_trans aO aV
     replace aP:=Frz.le_trans aP aV
     replace aT:=Frz.le_trans aT aV
     rw [law03_FoldFewer_K10] at h
     refine esr ?_
     refine rn 1 1 [(0,sv ad1 p0 cap2),(4,sv ad5 p4 cap6),(7,pb b8),(8,pb b9),(11,iv a0),(12,sv aK aG aL),(13,sv aI aF aJ),(14,iv a5),(49,iv (ln p0)),(50,iv a5),(76,sv cT cA cZ)] hF fun a hF=>?_
     obtain ⟨ν10169,c6,hlow,hS,j9⟩:=hS.freeze (i:=5) (j:=0) rfl rfl (by decide) hlow
     replace hA4:=hA4.mono Rp82.mono c6.1
     replace hA7:=hA7.mono c6.1
     replace aR:=All2.mono Rp48.mono c6.1 aR
     replace aS:=All2.mono Rp48.mono c6.1 aS
     replace eB:=All2.mono Rp91.mono c6.1 eB
     replace aO:=Frz.le_trans aO c6.1
     replace aP:=Frz.le_trans aP c6.1
     replace aT:=Frz.le_trans aT c6.1
     replace aV:=Frz.le_trans aV c6.1
     replace hext:=Frz.ext_trans hext c6
     replace hS : St w0 [arr 48 1 (fN 1) aI aF.length aJ b3,arr 48 1 (fN 1) aK aG.length aL b2,blk b9 95 #[.int .u8 p3.1,.int .u8 p3.2],blk b8 95 #[.int .u8 p2.1,.int .u8 p2.2],fz w0 ν10169] w:=hS
     have bR:=ArrQ.of_arr (l:=cA) j9 eB Rp91.mono (Frz.le_refl _)
     replace h:=bindS h
     obtain ⟨aH,j2,h⟩:=h
     refine SK.wi (callK (f:=39) (args:=#[sv cT cA cZ]) (R:=fun v w2=>∃ ν10175 aM aN c2,ν10169.ext w.heap.size ν10175∧v = sv aM aH aN∧All2 (Rp43 ν10175) c2 aH∧St w [frzR w.heap.size ν10175,arr 43 1 (fN 1) aM aH.length aN c2] w2) (fun gB=>[(0,sv ad1 p0 cap2),(4,sv ad5 p4 cap6),(7,pb b8),(8,pb b9),(11,iv a0),(12,sv aK aG aL),(13,sv aI aF aJ),(14,iv a5),(49,iv (ln p0)),(50,iv a5),(77,gB)]) hF (by kernel_rfl) ⟨by kernel_rfl⟩ (Calls.mono (law03_made_ok F cA _ j2 ν10169 w (hS.frz (i:=4) rfl hlow) bR) (by rintro e w2 ⟨ν10175,aM,aN,c2,bS,rfl,bZ,h⟩; exact ⟨_,rfl,ν10175,aM,aN,c2,bS,rfl,bZ,h⟩)) (fun _=>⟨by kernel_rfl⟩) ?_)
     rintro gB w a ⟨ν10175,aM,aN,c2,bS,rfl,bZ,hQ⟩ hF
     replace hext:=Frz.ext_trans hext (Frz.ext_mono bS hS.ext.size)
     obtain ⟨hlow,hS⟩:=hS.frzMerge (i:=4) rfl hlow bS hQ
     replace hA4:=hA4.mono Rp82.mono bS.1
     replace hA7:=hA7.mono bS.1
     replace aR:=All2.mono Rp48.mono bS.1 aR
     replace aS:=All2.mono Rp48.mono bS.1 aS
     replace bR:=bR.mono Rp91.mono bS.1
     replace aO:=Frz.le_trans aO bS.1
     replace aP:=Frz.le_trans aP bS.1
     replace aT:=Frz.le_trans aT bS.1
     replace aV:=Frz.le_trans aV bS.1
     replace hS : St w0 [arr 43 1 (fN 1) aM aH.length aN c2,arr 48 1 (fN 1) aI aF.length aJ b3,arr 48 1 (fN 1) aK aG.length aL b2,blk b9 95 #[.int .u8 p3.1,.int .u8 p3.2],blk b8 95 #[.int .u8 p2.1,.int .u8 p2.2],fz w0 ν10175] w:=hS
     refine rn 1 3 [(0,sv ad1 p0 cap2),(4,sv ad5 p4 cap6),(7,pb b8),(8,pb b9),(11,iv a0),(12,sv aK aG aL),(13,sv aI aF aJ),(14,iv a5),(18,sv aM aH aN),(49,iv (ln p0)),(50,iv a5)] hF fun a hF=>?_
     refine wfn rfl ?_
     refine esr ?_
     refine rn 1 1 [(0,sv ad1 p0 cap2),(4,sv ad5 p4 cap6),(7,pb b8),(8,pb b9),(11,iv a0),(12,sv aK aG aL),(13,sv aI aF aJ),(14,iv a5),(18,sv aM aH aN),(19,.slice none 0 0),(49,iv (ln p0)),(50,iv a5)] hF fun a hF=>?_
     refine wfn rfl ?_
     have cP:=Frz.le_refl ν10175
     refine ecut (fun a w=>∃ (aW : (List (List api_Span))) (ν10273 : Frz) (b6 : Option Addr) (bA : Nat) (d4 : List (List Value)),Fr 263 [] [(0,sv ad1 p0 cap2),(4,sv ad5 p4 cap6),(7,pb b8),(8,pb b9),(11,iv a0),(12,sv aK aG aL),(13,sv aI aF aJ),(18,sv aM aH aN),(19,sv b6 aW bA),(49,iv (ln p0)),(50,iv a5)] a∧St w0 [arr 43 1 (fN 1) b6 aW.length bA d4,arr 43 1 (fN 1) aM aH.length aN c2,arr 48 1 (fN 1) aI aF.length aJ b3,arr 48 1 (fN 1) aK aG.length aL b2,blk b9 95 #[.int .u8 p3.1,.int .u8 p3.2],blk b8 95 #[.int .u8 p2.1,.int .u8 p2.2],fz w0 ν10273] w∧(All2 (Rp43 ν10273) d4 aW)∧(ν10175.le ν10273)∧(μ.ext w0.heap.size ν10273)∧(FrzIn w0 ν10273)∧law03_FoldFewer_K11 aG aF a5 k8 aH aW = some res) ?_ ?_
     ·skip
      refine esr ?_
      refine rn 3 3 [(0,sv ad1 p0 cap2),(4,sv ad5 p4 cap6),(7,pb b8),(8,pb b9),(11,iv a0),(12,sv aK aG aL),(13,sv aI aF aJ),(14,iv a5),(18,sv aM aH aN),(19,.slice none 0 0),(49,iv (ln p0)),(50,iv a5),(78,sv aM aH aN),(79,iv (ln aH)),(80,iv 0)] hF fun a hF=>?_
      refine wfn rfl ?_
      refine wpIn_block ?_
      have fR:=Frz.le_refl ν10175
      replace hS:=hS.nilarr 43 1 (fN 1)
      refine eloop (fun n_ a w=>∃ (b0 : (List (List api_Span))) (b1 : Int) (ν10361 : Frz) (bD : Option Addr) (bE : Nat) (c8 : List (List Value)),Fr 263 [] [(0,sv ad1 p0 cap2),(4,sv ad5 p4 cap6),(7,pb b8),(8,pb b9),(11,iv a0),(12,sv aK aG aL),(13,sv aI aF aJ),(14,iv a5),(18,sv aM aH aN),(19,sv bD b0 bE),(49,iv (ln p0)),(50,iv a5),(78,sv aM aH aN),(79,iv (ln aH)),(80,iv b1)] a∧St w0 [arr 43 1 (fN 1) bD b0.length bE c8,arr 43 1 (fN 1) aM aH.length aN c2,arr 48 1 (fN 1) aI aF.length aJ b3,arr 48 1 (fN 1) aK aG.length aL b2,blk b9 95 #[.int .u8 p3.1,.int .u8 p3.2],blk b8 95 #[.int .u8 p2.1,.int .u8 p2.2],fz w0 ν10361] w∧(All2 (Rp43 ν10361) c8 b0)∧(ν10175.le ν10361)∧(μ.ext w0.heap.size ν10361)∧(FrzIn w0 ν10361)∧law03_FoldFewer_L12 F p4 a0 aG aF a5 k8 aH n_ b0 b1 = some res) F ⟨[],0,ν10175,none,0,[],hF.sub (by kernel_rfl),St.pick [0,1,2,3,4,5,6] (by decide) hS,All2.nil,fR,hext,hlow,h⟩ ?_
      clear fR
      rintro dT a w ⟨b0,b1,ν10361,bD,bE,c8,hF,hS,dQ,bP,hext,hlow,h⟩
      rcases dT with _ | dT
      ·cases (show (none : Option Bool) = some res from h)
      replace hA4:=hA4.mono Rp82.mono bP
      replace hA7:=hA7.mono bP
      replace aR:=All2.mono Rp48.mono bP aR
      replace aS:=All2.mono Rp48.mono bP aS
      replace bR:=bR.mono Rp91.mono bP
      replace bZ:=All2.mono Rp43.mono bP bZ
      replace aO:=Frz.le_trans aO bP
      replace aP:=Frz.le_trans aP bP
      replace aT:=Frz.le_trans aT bP
      replace aV:=Frz.le_trans aV bP
      replace cP:=Frz.le_trans cP bP
      obtain ⟨jG,fU⟩ : ∃ k,k = law03_FoldFewer_L12 F p4 a0 aG aF a5 k8 aH dT:=⟨_,rfl⟩
      replace h : law03_FoldFewer_B12 F p4 a0 aG aF a5 k8 aH jG b0 b1 = some res:=by rw [fU]; exact h
      rw [law03_FoldFewer_B12] at h
      refine esr ?_
      refine rn 1 1 [(0,sv ad1 p0 cap2),(4,sv ad5 p4 cap6),(7,pb b8),(8,pb b9),(11,iv a0),(12,sv aK aG aL),(13,sv aI aF aJ),(14,iv a5),(18,sv aM aH aN),(19,sv bD b0 bE),(49,iv (ln p0)),(50,iv a5),(78,sv aM aH aN),(79,iv (ln aH)),(80,iv b1),(81,.bool (decide (b1 < (ln aH))))] hF fun a hF=>?_
      refine wfn rfl ?_
      refine eseq ?_
      refine econd hF rfl (fun hc=>?_) (fun hc=>?_)
      ·replace h:=bif_t h hc
       refine wpIn_skip (norm_then ?_)
       refine eseq ?_
       refine wpIn_block ?_
       refine esr ?_
       replace h:=bindS h
       obtain ⟨dC,hY,h⟩:=h
       obtain ⟨jH,f9,hA⟩:=getI_all2 bZ hY
       obtain ⟨dE,dM,rfl,e4⟩:=hA
       refine rno 5 [.run [] (Instr.indexAt 48 (sv aM aH aN) (iv b1)) (.pointer (some (slAddr aM b1 1))),.run [] (Instr.loadAt 43 (.pointer (some (slAddr aM b1 1)))) (sv dE dC dM)] 5 [(0,sv ad1 p0 cap2),(4,sv ad5 p4 cap6),(7,pb b8),(8,pb b9),(11,iv a0),(12,sv aK aG aL),(13,sv aI aF aJ),(14,iv a5),(18,sv aM aH aN),(19,sv bD b0 bE),(20,iv b1),(21,sv dE dC dM),(49,iv (ln p0)),(50,iv a5),(78,sv aM aH aN),(79,iv (ln aH)),(80,iv b1)] hF (ocons (obIdxQ (hS.arr (i:=1) rfl) (by kernel_rfl) (fun _=>f9)) (ocons (obElQ (i:=b1) 0 (fN_len 1) (fun _ hd=>((hS.at_ hd).arr (i:=1) rfl)) (by kernel_rfl) (fun _=>f9) rfl) onil)) fun a hF=>?_
       refine wfn rfl ?_
       refine WI.region ?_
       replace h:=bindS h
       obtain ⟨gH,iF,h⟩:=h
       replace h:=bindS h
       obtain ⟨dX,iG,h⟩:=h
       refine rno 8 [.run [] (binOp .mul 3 (iv a5) (iv a0)) (iv gH),.run [] (binOp .add 3 (iv gH) (iv b1)) (iv dX)] 8 [(0,sv ad1 p0 cap2),(4,sv ad5 p4 cap6),(7,pb b8),(8,pb b9),(11,iv a0),(12,sv aK aG aL),(13,sv aI aF aJ),(14,iv a5),(18,sv aM aH aN),(19,sv bD b0 bE),(49,iv (ln p0)),(50,iv a5),(78,sv aM aH aN),(79,iv (ln aH)),(80,iv b1),(85,sv bD b0 bE),(86,sv dE dC dM),(87,sv ad5 p4 cap6),(92,iv dX)] hF (ocons (obMulC (fun _=>iF)) (ocons (obAddC (fun _=>iG)) onil)) fun a hF=>?_
       replace h:=bindS h
       obtain ⟨bJ,j3,h⟩:=h
       refine SK.wi (callK (f:=44) (args:=#[sv dE dC dM,sv ad5 p4 cap6,iv dX]) (R:=fun v w2=>∃ bK bL,v = sv bK bJ bL∧St w [arr 25 2 api_Span.cells bK bJ.length bL bJ] w2) (fun gC=>[(0,sv ad1 p0 cap2),(4,sv ad5 p4 cap6),(7,pb b8),(8,pb b9),(11,iv a0),(12,sv aK aG aL),(13,sv aI aF aJ),(14,iv a5),(18,sv aM aH aN),(19,sv bD b0 bE),(49,iv (ln p0)),(50,iv a5),(78,sv aM aH aN),(79,iv (ln aH)),(80,iv b1),(85,sv bD b0 bE),(93,gC)]) hF (by kernel_rfl) ⟨by kernel_rfl⟩ (Calls.mono (law03_fewer_ok F dC p4 dX _ j3 (memOf w) w (memOf_at w) (e4.mono (FrzAt.le_mem (hS.frz (i:=6) rfl hlow))) (hA7.mono (FrzAt.le_mem (hS.frz (i:=6) rfl hlow)))) (by rintro e w2 ⟨bK,bL,rfl,h⟩; exact ⟨_,rfl,bK,bL,rfl,h⟩)) (fun _=>⟨by kernel_rfl⟩) ?_)
       rintro gC w a ⟨bK,bL,rfl,hQ⟩ hF
       replace hS : St w0 [arr 25 2 api_Span.cells bK bJ.length bL bJ,arr 43 1 (fN 1) bD b0.length bE c8,arr 43 1 (fN 1) aM aH.length aN c2,arr 48 1 (fN 1) aI aF.length aJ b3,arr 48 1 (fN 1) aK aG.length aL b2,blk b9 95 #[.int .u8 p3.1,.int .u8 p3.2],blk b8 95 #[.int .u8 p2.1,.int .u8 p2.2],fz w0 ν10361] w:=hS.madeL hQ
       obtain ⟨ν10384,bG,hlow,hS,jC⟩:=hS.freeze (i:=7) (j:=0) rfl rfl (by decide) hlow
       replace hA4:=hA4.mono Rp82.mono bG.1
       replace hA7:=hA7.mono bG.1
       replace aR:=All2.mono Rp48.mono bG.1 aR
       replace aS:=All2.mono Rp48.mono bG.1 aS
       replace bR:=bR.mono Rp91.mono bG.1
       replace bZ:=All2.mono Rp43.mono bG.1 bZ
       replace dQ:=All2.mono Rp43.mono bG.1 dQ
       replace e4:=e4.mono bG.1
       replace aO:=Frz.le_trans aO bG.1
       replace aP:=Frz.le_trans aP bG.1
       replace aT:=Frz.le_trans aT bG.1
       replace aV:=Frz.le_trans aV bG.1
       replace cP:=Frz.le_trans cP bG.1
       replace bP:=Frz.le_trans bP bG.1
       replace hext:=Frz.ext_trans hext bG
       replace hS : St w0 [arr 43 1 (fN 1) bD b0.length bE c8,arr 43 1 (fN 1) aM aH.length aN c2,arr 48 1 (fN 1) aI aF.length aJ b3,arr 48 1 (fN 1) aK aG.length aL b2,blk b9 95 #[.int .u8 p3.1,.int .u8 p3.2],blk b8 95 #[.int .u8 p2.1,.int .u8 p2.2],fz w0 ν10384] w:=hS
       have h3:=ArrM.of_arr jC
       have g1 : All2 (Rp43 ν10384) ([[sv bK bJ bL]] : List (List Value)) [bJ]:=(All2.cons ⟨bK,bL,rfl,h3⟩ All2.nil)
       refine SK.wi (litQK (e:=43) (sz:=1) (f:=fN 1) (t:=48) (len:=1) (fun eY=>[(0,sv ad1 p0 cap2),(4,sv ad5 p4 cap6),(7,pb b8),(8,pb b9),(11,iv a0),(12,sv aK aG aL),(13,sv aI aF aJ),(14,iv a5),(18,sv aM aH aN),(19,sv bD b0 bE),(49,iv (ln p0)),(50,iv a5),(78,sv aM aH aN),(79,iv (ln aH)),(80,iv b1),(85,sv bD b0 bE),(94,sb eY 1)]) #[(0,sv bK bJ bL)] #[sv bK bJ bL] ([[sv bK bJ bL]] : List (List Value)) ([bJ]) hF hS (by kernel_rfl) ⟨by kernel_rfl⟩ (by kernel_rfl) (fN_len 1) rfl rfl rfl (by kernel_rfl) (fun _=>⟨by kernel_rfl⟩) fun eY w a hF hS=>?_)
       replace h:=bindS h
       obtain ⟨dA,fY,h⟩:=h
       have hU : All2 (Rp43 ν10384) (c8 ++ ([[sv bK bJ bL]] : List (List Value))) dA:=by rw [(apd_some fY).1]; exact All2.app dQ g1
       refine SK.wi (appQK (t:=48) (ty:=48) (bytes:=24) (c:=c8) (c':=([[sv bK bJ bL]] : List (List Value))) (l:=b0) (l':=([bJ])) (fun cU d0=>[(0,sv ad1 p0 cap2),(4,sv ad5 p4 cap6),(7,pb b8),(8,pb b9),(11,iv a0),(12,sv aK aG aL),(13,sv aI aF aJ),(14,iv a5),(18,sv aM aH aN),(19,sv bD b0 bE),(49,iv (ln p0)),(50,iv a5),(78,sv aM aH aN),(79,iv (ln aH)),(80,iv b1),(95,sv cU dA d0)]) 1 hF hS rfl (by kernel_rfl) ⟨by kernel_rfl⟩ (by kernel_rfl) (hS.arr (i:=0) rfl) (ArrQ.one g1 Rp43.one) fY (fun _ _=>⟨by kernel_rfl⟩) fun cU d0 w a hF hS=>?_)
       refine rn 1 12 [(0,sv ad1 p0 cap2),(4,sv ad5 p4 cap6),(7,pb b8),(8,pb b9),(11,iv a0),(12,sv aK aG aL),(13,sv aI aF aJ),(14,iv a5),(18,sv aM aH aN),(19,sv cU dA d0),(49,iv (ln p0)),(50,iv a5),(78,sv aM aH aN),(79,iv (ln aH)),(80,iv b1)] hF fun a hF=>?_
       refine WI.fin rfl (norm_block <| norm_then <| ?_)
       refine WI.region ?_
       replace h:=bindS h
       obtain ⟨eL,iH,h⟩:=h
       refine rno 2 [.run [] (binOp .add 3 (iv b1) (iv 1)) (iv eL)] 2 [(0,sv ad1 p0 cap2),(4,sv ad5 p4 cap6),(7,pb b8),(8,pb b9),(11,iv a0),(12,sv aK aG aL),(13,sv aI aF aJ),(14,iv a5),(18,sv aM aH aN),(19,sv cU dA d0),(49,iv (ln p0)),(50,iv a5),(78,sv aM aH aN),(79,iv (ln aH)),(80,iv eL)] hF (ocons (obAddC (fun _=>iH)) onil) fun a hF=>?_
       refine wfn rfl ?_
       rw [fU] at h
       exact ⟨dT,Nat.lt_succ_self _,dA,eL,ν10384,cU,d0,(c8 ++ ([[sv bK bJ bL]] : List (List Value))),hF.sub (by kernel_rfl),St.pick [1,2,3,4,5,6,7] (by decide) hS,hU,bP,hext,hlow,h⟩
      ·replace h:=bif_f h hc
       refine wpIn_exit (exit_then <| exit_then <| exit_hit <| norm_then ?_)
       exact ⟨b0,ν10361,bD,bE,c8,hF.sub (by kernel_rfl),St.pick [0,1,2,3,4,5,6] (by decide) hS,dQ,cP,hext,hlow,h⟩
     clear cP
     rintro a w ⟨aW,ν10273,b6,bA,d4,hF,hS,d9,bO,hext,hlow,h⟩
     replace hA4:=hA4.mono Rp82.mono bO
     replace hA7:=hA7.mono bO
     replace aR:=All2.mono Rp48.mono bO aR
     replace aS:=All2.mono Rp48.mono bO aS
     replace bR:=bR.mono Rp91.mono bO
     replace bZ:=All2.mono Rp43.mono bO bZ
     replace aO:=Frz.le_trans aO bO
     replace aP:=Frz.le_trans aP bO
     replace aT:=Frz.le_trans aT bO
     replace aV:=Frz.le_trans aV bO
     rw [law03_FoldFewer_K11] at h
     refine WI.region ?_
     refine rn 2 2 [(0,sv ad1 p0 cap2),(4,sv ad5 p4 cap6),(7,pb b8),(8,pb b9),(11,iv a0),(12,sv aK aG aL),(13,sv aI aF aJ),(19,sv b6 aW bA),(49,iv (ln p0)),(50,iv a5),(97,sv aK aG aL),(98,sv aM aH aN)] hF fun a hF=>?_
     obtain ⟨ν10281,bT,hlow,hS,jA⟩:=hS.freeze (i:=6) (j:=1) rfl rfl (by decide) hlow
     replace hA4:=hA4.mono Rp82.mono bT.1
     replace hA7:=hA7.mono bT.1
     replace aR:=All2.mono Rp48.mono bT.1 aR
     replace aS:=All2.mono Rp48.mono bT.1 aS
     replace bR:=bR.mono Rp91.mono bT.1
     replace bZ:=All2.mono Rp43.mono bT.1 bZ
     replace d9:=All2.mono Rp43.mono bT.1 d9
     replace aO:=Frz.le_trans aO bT.1
     replace aP:=Frz.le_trans aP bT.1
     replace aT:=Frz.le_trans aT bT.1
     replace aV:=Frz.le_trans aV bT.1
     replace bO:=Frz.le_trans bO bT.1
     replace hext:=Frz.ext_trans hext bT
     replace hS : St w0 [arr 43 1 (fN 1) b6 aW.length bA d4,arr 48 1 (fN 1) aI aF.length aJ b3,arr 48 1 (fN 1) aK aG.length aL b2,blk b9 95 #[.int .u8 p3.1,.int .u8 p3.2],blk b8 95 #[.int .u8 p2.1,.int .u8 p2.2],fz w0 ν10281] w:=hS
     have e3:=ArrQ.of_arr (l:=aH) jA bZ Rp43.mono (Frz.le_refl _)
     have dP : All2 (Rp48 ν10281) ([[sv aM aH aN]] : List (List Value)) [aH]:=(All2.cons ⟨aM,aN,c2,rfl,e3⟩ All2.nil)
     refine SK.wi (litQK (e:=48) (sz:=1) (f:=fN 1) (t:=54) (len:=1) (fun dZ=>[(0,sv ad1 p0 cap2),(4,sv ad5 p4 cap6),(7,pb b8),(8,pb b9),(11,iv a0),(12,sv aK aG aL),(13,sv aI aF aJ),(19,sv b6 aW bA),(49,iv (ln p0)),(50,iv a5),(97,sv aK aG aL),(99,sb dZ 1)]) #[(0,sv aM aH aN)] #[sv aM aH aN] ([[sv aM aH aN]] : List (List Value)) ([aH]) hF hS (by kernel_rfl) ⟨by kernel_rfl⟩ (by kernel_rfl) (fN_len 1) rfl rfl rfl (by kernel_rfl) (fun _=>⟨by kernel_rfl⟩) fun dZ w a hF hS=>?_)
     replace h:=bindS h
     obtain ⟨cH,fW,h⟩:=h
     have eC : All2 (Rp48 ν10281) (b2 ++ ([[sv aM aH aN]] : List (List Value))) cH:=by rw [(apd_some fW).1]; exact All2.app aR dP
     refine SK.wi (appQK (t:=54) (ty:=54) (bytes:=24) (c:=b2) (c':=([[sv aM aH aN]] : List (List Value))) (l:=aG) (l':=([aH])) (fun cB cC=>[(0,sv ad1 p0 cap2),(4,sv ad5 p4 cap6),(7,pb b8),(8,pb b9),(11,iv a0),(12,sv aK aG aL),(13,sv aI aF aJ),(19,sv b6 aW bA),(49,iv (ln p0)),(50,iv a5),(100,sv cB cH cC)]) 3 hF hS rfl (by kernel_rfl) ⟨by kernel_rfl⟩ (by kernel_rfl) (hS.arr (i:=0) rfl) (ArrQ.one dP Rp48.one) fW (fun _ _=>⟨by kernel_rfl⟩) fun cB cC w a hF hS=>?_)
     refine rn 2 6 [(0,sv ad1 p0 cap2),(4,sv ad5 p4 cap6),(7,pb b8),(8,pb b9),(11,iv a0),(12,sv aK aG aL),(13,sv aI aF aJ),(49,iv (ln p0)),(50,iv a5),(100,sv cB cH cC),(101,sv aI aF aJ),(102,sv b6 aW bA)] hF fun a hF=>?_
     obtain ⟨ν10292,bF,hlow,hS,jB⟩:=hS.freeze (i:=6) (j:=1) rfl rfl (by decide) hlow
     replace hA4:=hA4.mono Rp82.mono bF.1
     replace hA7:=hA7.mono bF.1
     replace aR:=All2.mono Rp48.mono bF.1 aR
     replace aS:=All2.mono Rp48.mono bF.1 aS
     replace bR:=bR.mono Rp91.mono bF.1
     replace d9:=All2.mono Rp43.mono bF.1 d9
     replace e3:=e3.mono Rp43.mono bF.1
     replace dP:=All2.mono Rp48.mono bF.1 dP
     replace eC:=All2.mono Rp48.mono bF.1 eC
     replace aO:=Frz.le_trans aO bF.1
     replace aP:=Frz.le_trans aP bF.1
     replace aT:=Frz.le_trans aT bF.1
     replace aV:=Frz.le_trans aV bF.1
     replace bO:=Frz.le_trans bO bF.1
     replace hext:=Frz.ext_trans hext bF
     replace hS : St w0 [arr 48 1 (fN 1) (some ⟨dZ,0,none⟩) ([aH]).length 1 ([[sv aM aH aN]] : List (List Value)),arr 48 1 (fN 1) aI aF.length aJ b3,arr 48 1 (fN 1) cB cH.length cC (b2 ++ ([[sv aM aH aN]] : List (List Value))),blk b9 95 #[.int .u8 p3.1,.int .u8 p3.2],blk b8 95 #[.int .u8 p2.1,.int .u8 p2.2],fz w0 ν10292] w:=hS
     have h2:=ArrQ.of_arr (l:=aW) jB d9 Rp43.mono (Frz.le_refl _)
     have g0 : All2 (Rp48 ν10292) ([[sv b6 aW bA]] : List (List Value)) [aW]:=(All2.cons ⟨b6,bA,d4,rfl,h2⟩ All2.nil)
     refine SK.wi (litQK (e:=48) (sz:=1) (f:=fN 1) (t:=54) (len:=1) (fun eX=>[(0,sv ad1 p0 cap2),(4,sv ad5 p4 cap6),(7,pb b8),(8,pb b9),(11,iv a0),(12,sv aK aG aL),(13,sv aI aF aJ),(49,iv (ln p0)),(50,iv a5),(100,sv cB cH cC),(101,sv aI aF aJ),(103,sb eX 1)]) #[(0,sv b6 aW bA)] #[sv b6 aW bA] ([[sv b6 aW bA]] : List (List Value)) ([aW]) hF hS (by kernel_rfl) ⟨by kernel_rfl⟩ (by kernel_rfl) (fN_len 1) rfl rfl rfl (by kernel_rfl) (fun _=>⟨by kernel_rfl⟩) fun eX w a hF hS=>?_)
     replace h:=bindS h
     obtain ⟨dS,fX,h⟩:=h
     have hT : All2 (Rp48 ν10292) (b3 ++ ([[sv b6 aW bA]] : List (List Value))) dS:=by rw [(apd_some fX).1]; exact All2.app aS g0
     refine SK.wi (appQK (t:=54) (ty:=54) (bytes:=24) (c:=b3) (c':=([[sv b6 aW bA]] : List (List Value))) (l:=aF) (l':=([aW])) (fun dD dL=>[(0,sv ad1 p0 cap2),(4,sv ad5 p4 cap6),(7,pb b8),(8,pb b9),(11,iv a0),(12,sv aK aG aL),(13,sv aI aF aJ),(49,iv (ln p0)),(50,iv a5),(100,sv cB cH cC),(104,sv dD dS dL)]) 2 hF hS rfl (by kernel_rfl) ⟨by kernel_rfl⟩ (by kernel_rfl) (hS.arr (i:=0) rfl) (ArrQ.one g0 Rp48.one) fX (fun _ _=>⟨by kernel_rfl⟩) fun dD dL w a hF hS=>?_)
     refine rn 2 10 [(0,sv ad1 p0 cap2),(4,sv ad5 p4 cap6),(7,pb b8),(8,pb b9),(11,iv a0),(12,sv cB cH cC),(13,sv dD dS dL),(49,iv (ln p0)),(50,iv a5)] hF fun a hF=>?_
     refine WI.fin rfl (norm_block <| norm_then <| ?_)
     exact ⟨cH,dS,ν10292,cB,cC,(b2 ++ ([[sv aM aH aN]] : List (List Value))),dD,dL,(b3 ++ ([[sv b6 aW bA]] : List (List Value))),hF.sub (by kernel_rfl),St.pick [2,3,4,5,6] (by decide) hS,eC,hT,aT,hext,hlow,h⟩
    clear aT
    rintro a w ⟨cM,cN,ν9948,cW,d2,dN,cX,d3,dO,hF,hS,hW,hX,cR,hext,hlow,h⟩
    replace hA4:=hA4.mono Rp82.mono cR
    replace hA7:=hA7.mono cR
    replace aR:=All2.mono Rp48.mono cR aR
    replace aS:=All2.mono Rp48.mono cR aS
    replace aO:=Frz.le_trans aO cR
    replace aP:=Frz.le_trans aP cR
    rw [law03_FoldFewer_K9] at h
    refine WI.region ?_
    replace h:=bindS h
    obtain ⟨eS,j1,h⟩:=h
    refine rno 2 [.run [] (binOp .add 3 (iv a5) (iv 1)) (iv eS)] 2 [(0,sv ad1 p0 cap2),(4,sv ad5 p4 cap6),(7,pb b8),(8,pb b9),(11,iv a0),(12,sv cW cM d2),(13,sv cX cN d3),(49,iv (ln p0)),(50,iv eS)] hF (ocons (obAddC (fun _=>j1)) onil) fun a hF=>?_
    refine wfn rfl ?_
    rw [hk8] at h
    exact ⟨nk8,Nat.lt_succ_self _,cM,cN,eS,ν9948,cW,d2,dN,cX,d3,dO,hF.sub (by kernel_rfl),St.pick [0,1,2,3,4] (by decide) hS,hW,hX,aP,hext,hlow,h⟩
   ·replace h:=bif_f h hc
    refine wpIn_exit (exit_then <| exit_then <| exit_hit <| norm_then ?_)
    exact ⟨aG,aF,ν9300,aK,aL,b2,aI,aJ,b3,hF.sub (by kernel_rfl),St.pick [0,1,2,3,4] (by decide) hS,aR,aS,aO,hext,hlow,h⟩
  clear aO
  rintro a w ⟨a6,bC,ν3886,aD,aE,e2,bV,bX,d5,hF,hS,eD,cK,bQ,hext,hlow,h⟩
  replace hA4:=hA4.mono Rp82.mono bQ
  replace hA7:=hA7.mono bQ
  rw [law03_FoldFewer_K1] at h
  refine eseq ?_
  replace h:=bindS h
  obtain ⟨gJ,iL,h⟩:=h
  replace h:=bindS h
  obtain ⟨a9,iM,h⟩:=h
  replace h:=bindS h
  obtain ⟨gK,iN,h⟩:=h
  replace h:=bindS h
  obtain ⟨gL,iO,h⟩:=h
  replace h:=bindS h
  obtain ⟨aA,iP,h⟩:=h
  refine runD (obs:=[.run [] (Instr.indexAt 95 (pb b8) (iv 0)) (pb b8),.run [] (Instr.loadAt 5 (pb b8)) (.int .u8 p2.1),.run [] (convert 5 3 (.int .u8 p2.1)) (iv gJ),.run [] (binOp .rem 3 (iv gJ) (iv 13)) (iv a9),.run [] (Instr.indexAt 95 (pb b9) (iv 0)) (pb b9),.run [] (Instr.loadAt 5 (pb b9)) (.int .u8 p3.1),.run [] (convert 5 3 (.int .u8 p3.1)) (iv gK),.run [] (binOp .rem 3 (iv gK) (iv 3)) (iv gL),.run [] (binOp .add 3 (iv 1) (iv gL)) (iv aA)]) 11 [(7,pb b8),(8,pb b9),(11,iv a0),(12,sv aD a6 aE),(13,sv bV bC bX),(22,iv a9),(23,iv aA)] (by kernel_rfl) hF (by kernel_rfl) (ocons (obPureSem (by kernel_rfl)) (ocons (ob1 (by kernel_rfl) (fun _ hd=>(hS.later hd).cell (i:=3) (j:=0) rfl rfl)) (ocons (obConvC (by kernel_rfl) (by kernel_rfl) (fun _=>iL)) (ocons (obRemC (fun _=>iM)) (ocons (obPureSem (by kernel_rfl)) (ocons (ob1 (by kernel_rfl) (fun _ hd=>(hS.later hd).cell (i:=2) (j:=0) rfl rfl)) (ocons (obConvC (by kernel_rfl) (by kernel_rfl) (fun _=>iN)) (ocons (obRemC (fun _=>iO)) (ocons (obAddC (fun _=>iP)) onil))))))))) ⟨by kernel_rfl⟩ fun a w hF hx=>?_
  replace hS:=hS.later hx
  refine wfn rfl ?_
  refine eseq ?_
  replace h:=bindS h
  obtain ⟨gM,iQ,h⟩:=h
  replace h:=bindS h
  obtain ⟨gN,iR,h⟩:=h
  replace h:=bindS h
  obtain ⟨bI,iS,h⟩:=h
  replace h:=bindS h
  obtain ⟨gO,iT,h⟩:=h
  replace h:=bindS h
  obtain ⟨gP,iU,h⟩:=h
  replace h:=bindS h
  obtain ⟨cI,iV,h⟩:=h
  refine runD (obs:=[.run [] (Instr.indexAt 95 (pb b8) (iv 1)) (.pointer (some ⟨b8,1,none⟩)),.run [] (Instr.loadAt 5 (.pointer (some ⟨b8,1,none⟩))) (.int .u8 p2.2),.run [] (convert 5 3 (.int .u8 p2.2)) (iv gM),.run [] (binOp .rem 3 (iv gM) (iv 5)) (iv gN),.run [] (binOp .sub 3 (iv a9) (iv gN)) (iv bI),.run [] (Instr.indexAt 95 (pb b9) (iv 1)) (.pointer (some ⟨b9,1,none⟩)),.run [] (Instr.loadAt 5 (.pointer (some ⟨b9,1,none⟩))) (.int .u8 p3.2),.run [] (convert 5 3 (.int .u8 p3.2)) (iv gO),.run [] (binOp .rem 3 (iv gO) (iv 3)) (iv gP),.run [] (binOp .add 3 (iv aA) (iv gP)) (iv cI)]) 15 [(11,iv a0),(12,sv aD a6 aE),(13,sv bV bC bX),(22,iv a9),(23,iv aA),(24,iv (if bI > 0 then bI else 0)),(25,iv cI)] (by kernel_rfl) hF (by kernel_rfl) (ocons (obPureSem (by kernel_rfl)) (ocons (ob1 (by kernel_rfl) (fun _ hd=>(hS.later hd).cell (i:=3) (j:=1) rfl rfl)) (ocons (obConvC (by kernel_rfl) (by kernel_rfl) (fun _=>iQ)) (ocons (obRemC (fun _=>iR)) (ocons (obSubC (fun _=>iS)) (ocons (obPureSem (by kernel_rfl)) (ocons (ob1 (by kernel_rfl) (fun _ hd=>(hS.later hd).cell (i:=2) (j:=1) rfl rfl)) (ocons (obConvC (by kernel_rfl) (by kernel_rfl) (fun _=>iT)) (ocons (obRemC (fun _=>iU)) (ocons (obAddC (fun _=>iV)) onil)))))))))) ⟨by kernel_rfl⟩ fun a w hF hx=>?_
  replace hS:=hS.later hx
  refine wfn rfl ?_
  refine esr ?_
  refine rn 3 3 [(11,iv a0),(12,sv aD a6 aE),(13,sv bV bC bX),(22,iv a9),(23,iv aA),(24,iv (if bI > 0 then bI else 0)),(25,iv cI),(129,sv aD a6 aE),(130,iv a9),(131,iv aA)] hF fun a hF=>?_
  obtain ⟨ν3909,cS,hlow,hS,jD⟩:=hS.freeze (i:=4) (j:=1) rfl rfl (by decide) hlow
  replace hA4:=hA4.mono Rp82.mono cS.1
  replace hA7:=hA7.mono cS.1
  replace eD:=All2.mono Rp48.mono cS.1 eD
  replace cK:=All2.mono Rp48.mono cS.1 cK
  replace bQ:=Frz.le_trans bQ cS.1
  replace hext:=Frz.ext_trans hext cS
  replace hS : St w0 [arr 48 1 (fN 1) bV bC.length bX d5,blk b9 95 #[.int .u8 p3.1,.int .u8 p3.2],blk b8 95 #[.int .u8 p2.1,.int .u8 p2.2],fz w0 ν3909] w:=hS
  have bN:=ArrQ.of_arr (l:=a6) jD eD Rp48.mono (Frz.le_refl _)
  replace h:=bindS h
  obtain ⟨a1,j4,h⟩:=h
  refine SK.wi (callK (f:=27) (args:=#[sv aD a6 aE,iv a9,iv aA]) (R:=fun v w2=>∃ ν3915 a3 a4 bY,ν3909.ext w.heap.size ν3915∧v = .tuple #[sv a3 a1.1 a4,iv a1.2]∧All2 (Rp48 ν3915) bY a1.1∧St w [frzR w.heap.size ν3915,arr 48 1 (fN 1) a3 a1.1.length a4 bY] w2) (fun gD=>[(11,iv a0),(12,sv aD a6 aE),(13,sv bV bC bX),(22,iv a9),(23,iv aA),(24,iv (if bI > 0 then bI else 0)),(25,iv cI),(132,gD)]) hF (by kernel_rfl) ⟨by kernel_rfl⟩ (Calls.mono (fold_Turn_ok F a6 a9 aA _ j4 ν3909 w (hS.frz (i:=3) rfl hlow) bN) (by rintro e w2 ⟨ν3915,a3,a4,bY,c9,rfl,c0,h⟩; exact ⟨_,rfl,ν3915,a3,a4,bY,c9,rfl,c0,h⟩)) (fun _=>⟨by kernel_rfl⟩) ?_)
  rintro gD w a ⟨ν3915,a3,a4,bY,c9,rfl,c0,hQ⟩ hF
  replace hext:=Frz.ext_trans hext (Frz.ext_mono c9 hS.ext.size)
  obtain ⟨hlow,hS⟩:=hS.frzMerge (i:=3) rfl hlow c9 hQ
  replace hA4:=hA4.mono Rp82.mono c9.1
  replace hA7:=hA7.mono c9.1
  replace cK:=All2.mono Rp48.mono c9.1 cK
  replace bN:=bN.mono Rp48.mono c9.1
  replace bQ:=Frz.le_trans bQ c9.1
  replace hS : St w0 [arr 48 1 (fN 1) a3 a1.1.length a4 bY,arr 48 1 (fN 1) bV bC.length bX d5,blk b9 95 #[.int .u8 p3.1,.int .u8 p3.2],blk b8 95 #[.int .u8 p2.1,.int .u8 p2.2],fz w0 ν3915] w:=hS
  refine rn 5 9 [(11,iv a0),(12,sv aD a6 aE),(13,sv bV bC bX),(22,iv a9),(23,iv aA),(24,iv (if bI > 0 then bI else 0)),(25,iv cI),(26,sv a3 a1.1 a4),(27,iv a1.2)] hF fun a hF=>?_
  refine wfn rfl ?_
  refine esr ?_
  refine rn 3 3 [(11,iv a0),(12,sv aD a6 aE),(22,iv a9),(23,iv aA),(26,sv a3 a1.1 a4),(27,iv a1.2),(136,sv bV bC bX),(137,iv (if bI > 0 then bI else 0)),(138,iv cI)] hF fun a hF=>?_
  obtain ⟨ν3921,cL,hlow,hS,jE⟩:=hS.freeze (i:=4) (j:=1) rfl rfl (by decide) hlow
  replace hA4:=hA4.mono Rp82.mono cL.1
  replace hA7:=hA7.mono cL.1
  replace cK:=All2.mono Rp48.mono cL.1 cK
  replace bN:=bN.mono Rp48.mono cL.1
  replace c0:=All2.mono Rp48.mono cL.1 c0
  replace bQ:=Frz.le_trans bQ cL.1
  replace hext:=Frz.ext_trans hext cL
  replace hS : St w0 [arr 48 1 (fN 1) a3 a1.1.length a4 bY,blk b9 95 #[.int .u8 p3.1,.int .u8 p3.2],blk b8 95 #[.int .u8 p2.1,.int .u8 p2.2],fz w0 ν3921] w:=hS
  have cJ:=ArrQ.of_arr (l:=bC) jE cK Rp48.mono (Frz.le_refl _)
  replace h:=bindS h
  obtain ⟨a7,j5,h⟩:=h
  refine SK.wi (callK (f:=27) (args:=#[sv bV bC bX,iv (if bI > 0 then bI else 0),iv cI]) (R:=fun v w2=>∃ ν3927 aB aC bM,ν3921.ext w.heap.size ν3927∧v = .tuple #[sv aB a7.1 aC,iv a7.2]∧All2 (Rp48 ν3927) bM a7.1∧St w [frzR w.heap.size ν3927,arr 48 1 (fN 1) aB a7.1.length aC bM] w2) (fun gE=>[(11,iv a0),(12,sv aD a6 aE),(22,iv a9),(23,iv aA),(26,sv a3 a1.1 a4),(27,iv a1.2),(139,gE)]) hF (by kernel_rfl) ⟨by kernel_rfl⟩ (Calls.mono (fold_Turn_ok F bC (if bI > 0 then bI else 0) cI _ j5 ν3921 w (hS.frz (i:=3) rfl hlow) cJ) (by rintro e w2 ⟨ν3927,aB,aC,bM,c7,rfl,cF,h⟩; exact ⟨_,rfl,ν3927,aB,aC,bM,c7,rfl,cF,h⟩)) (fun _=>⟨by kernel_rfl⟩) ?_)
  rintro gE w a ⟨ν3927,aB,aC,bM,c7,rfl,cF,hQ⟩ hF
  replace hext:=Frz.ext_trans hext (Frz.ext_mono c7 hS.ext.size)
  obtain ⟨hlow,hS⟩:=hS.frzMerge (i:=3) rfl hlow c7 hQ
  replace hA4:=hA4.mono Rp82.mono c7.1
  replace hA7:=hA7.mono c7.1
  replace bN:=bN.mono Rp48.mono c7.1
  replace c0:=All2.mono Rp48.mono c7.1 c0
  replace cJ:=cJ.mono Rp48.mono c7.1
  replace bQ:=Frz.le_trans bQ c7.1
  replace hS : St w0 [arr 48 1 (fN 1) aB a7.1.length aC bM,arr 48 1 (fN 1) a3 a1.1.length a4 bY,blk b9 95 #[.int .u8 p3.1,.int .u8 p3.2],blk b8 95 #[.int .u8 p2.1,.int .u8 p2.2],fz w0 ν3927] w:=hS
  refine rn 5 9 [(11,iv a0),(12,sv aD a6 aE),(22,iv a9),(23,iv aA),(26,sv a3 a1.1 a4),(27,iv a1.2),(28,sv aB a7.1 aC),(29,iv a7.2)] hF fun a hF=>?_
  refine wfn rfl ?_
  refine eseq ?_
  refine esr ?_
  refine rn 20 20 [(11,iv a0),(12,sv aD a6 aE),(22,iv a9),(23,iv aA),(26,sv a3 a1.1 a4),(28,sv aB a7.1 aC),(161,.bool (bif (bif (bif (a1.2 != 0) then true else (a7.2 != 0)) then true else ((ln a1.1) != (ln a6))) then true else ((ln a7.1) != (ln a6))))] hF fun a hF=>?_
  refine wfn rfl ?_
  refine econd hF rfl (fun hc=>?_) (fun hc=>?_)
  ·replace h:=bif_t h hc
   refine esr ?_
   refine rn 1 1 [(10,.bool false)] hF fun a hF=>?_
   refine wfn rfl ?_
   refine wpIn_ret (ret_then <| fn_ret [.tmp 10] [.bool false] hF rfl ⟨rfl,trivial⟩ ?_)
   have hr_:=Option.some.inj h
   subst hr_
   exact ⟨rfl,hS.ext⟩
  ·replace h:=bif_f h hc
   refine wpIn_skip (norm_then ?_)
   refine esr ?_
   refine rn 1 1 [(11,iv a0),(12,sv aD a6 aE),(22,iv a9),(23,iv aA),(26,sv a3 a1.1 a4),(28,sv aB a7.1 aC),(30,.bool false)] hF fun a hF=>?_
   refine wfn rfl ?_
   refine ecut (fun a w=>∃ (dK : Bool),Fr 263 [] [(22,iv a9),(23,iv aA),(26,sv a3 a1.1 a4),(30,.bool dK)] a∧St w0 [arr 48 1 (fN 1) aB a7.1.length aC bM,arr 48 1 (fN 1) a3 a1.1.length a4 bY,blk b9 95 #[.int .u8 p3.1,.int .u8 p3.2],blk b8 95 #[.int .u8 p2.1,.int .u8 p2.2],fz w0 ν3927] w∧law03_FoldFewer_K2 F a9 aA a1 dK = some res) ?_ ?_
   ·skip
    refine esr ?_
    refine rn 3 3 [(11,iv a0),(12,sv aD a6 aE),(22,iv a9),(23,iv aA),(26,sv a3 a1.1 a4),(28,sv aB a7.1 aC),(30,.bool false),(163,iv (ln a1.1)),(164,iv 0)] hF fun a hF=>?_
    refine wfn rfl ?_
    refine wpIn_block ?_
    refine eloop (fun n_ a w=>∃ (a2 : Int) (aZ : Bool),Fr 263 [] [(11,iv a0),(12,sv aD a6 aE),(22,iv a9),(23,iv aA),(26,sv a3 a1.1 a4),(28,sv aB a7.1 aC),(30,.bool aZ),(163,iv (ln a1.1)),(164,iv a2)] a∧St w0 [arr 48 1 (fN 1) aB a7.1.length aC bM,arr 48 1 (fN 1) a3 a1.1.length a4 bY,blk b9 95 #[.int .u8 p3.1,.int .u8 p3.2],blk b8 95 #[.int .u8 p2.1,.int .u8 p2.2],fz w0 ν3927] w∧law03_FoldFewer_L5 F a0 a6 a9 aA a1 a7 n_ a2 aZ = some res) F ⟨0,false,hF.sub (by kernel_rfl),St.pick [0,1,2,3,4] (by decide) hS,h⟩ ?_
    rintro nk5 a w ⟨a2,aZ,hF,hS,h⟩
    rcases nk5 with _ | nk5
    ·cases (show (none : Option Bool) = some res from h)
    obtain ⟨k5,hk5⟩ : ∃ k,k = law03_FoldFewer_L5 F a0 a6 a9 aA a1 a7 nk5:=⟨_,rfl⟩
    replace h : law03_FoldFewer_B5 F a0 a6 a9 aA a1 a7 k5 a2 aZ = some res:=by rw [hk5]; exact h
    rw [law03_FoldFewer_B5] at h
    refine esr ?_
    refine rn 1 1 [(11,iv a0),(12,sv aD a6 aE),(22,iv a9),(23,iv aA),(26,sv a3 a1.1 a4),(28,sv aB a7.1 aC),(30,.bool aZ),(163,iv (ln a1.1)),(164,iv a2),(165,.bool (decide (a2 < (ln a1.1))))] hF fun a hF=>?_
    refine wfn rfl ?_
    refine eseq ?_
    refine econd hF rfl (fun hc=>?_) (fun hc=>?_)
    ·replace h:=bif_t h hc
     refine wpIn_skip (norm_then ?_)
     refine ecut (fun a w=>∃ (cY : Bool),Fr 263 [] [(11,iv a0),(12,sv aD a6 aE),(22,iv a9),(23,iv aA),(26,sv a3 a1.1 a4),(28,sv aB a7.1 aC),(30,.bool cY),(163,iv (ln a1.1)),(164,iv a2)] a∧St w0 [arr 48 1 (fN 1) aB a7.1.length aC bM,arr 48 1 (fN 1) a3 a1.1.length a4 bY,blk b9 95 #[.int .u8 p3.1,.int .u8 p3.2],blk b8 95 #[.int .u8 p2.1,.int .u8 p2.2],fz w0 ν3927] w∧law03_FoldFewer_K6 a2 k5 cY = some res) ?_ ?_
     ·skip
      refine wpIn_block ?_
      refine esr ?_
      refine rn 2 2 [(11,iv a0),(12,sv aD a6 aE),(22,iv a9),(23,iv aA),(26,sv a3 a1.1 a4),(28,sv aB a7.1 aC),(30,.bool aZ),(31,iv a2),(163,iv (ln a1.1)),(164,iv a2)] hF fun a hF=>?_
      refine wfn rfl ?_
      refine eseq ?_
      refine esr ?_
      replace h:=bindS h
      obtain ⟨eI,i4,h⟩:=h
      obtain ⟨jN,fF,hH⟩:=getI_all2 c0 i4
      obtain ⟨gT,gY,k1,rfl,kC⟩:=hH
      refine rno 8 [.run [] (Instr.indexAt 54 (sv a3 a1.1 a4) (iv a2)) (.pointer (some (slAddr a3 a2 1))),.run [] (Instr.loadAt 48 (.pointer (some (slAddr a3 a2 1)))) (sv gT eI gY)] 8 [(11,iv a0),(12,sv aD a6 aE),(22,iv a9),(23,iv aA),(26,sv a3 a1.1 a4),(28,sv aB a7.1 aC),(30,.bool aZ),(31,iv a2),(163,iv (ln a1.1)),(164,iv a2),(174,.bool ((ln eI) != a0))] hF (ocons (obIdxQ (hS.arr (i:=1) rfl) (by kernel_rfl) (fun _=>fF)) (ocons (obElQ (i:=a2) 0 (fN_len 1) (fun _ hd=>((hS.at_ hd).arr (i:=1) rfl)) (by kernel_rfl) (fun _=>fF) rfl) onil)) fun a hF=>?_
      rcases Bool.eq_false_or_eq_true (((ln eI) != a0)) with d6 | d6
      ·replace h:=bif_t h d6
       rw [d6] at hF
       refine skip_ 9 [(11,iv a0),(12,sv aD a6 aE),(22,iv a9),(23,iv aA),(26,sv a3 a1.1 a4),(28,sv aB a7.1 aC),(30,.bool aZ),(31,iv a2),(163,iv (ln a1.1)),(164,iv a2),(174,.bool true),(175,undef)] hF (by kernel_rfl) ⟨by kernel_rfl⟩ ⟨by kernel_rfl⟩ rfl fun a hF=>?_
       refine skip_ 10 [(11,iv a0),(12,sv aD a6 aE),(22,iv a9),(23,iv aA),(26,sv a3 a1.1 a4),(28,sv aB a7.1 aC),(30,.bool aZ),(31,iv a2),(163,iv (ln a1.1)),(164,iv a2),(174,.bool true),(175,undef),(176,undef)] hF (by kernel_rfl) ⟨by kernel_rfl⟩ ⟨by kernel_rfl⟩ rfl fun a hF=>?_
       refine skip_ 11 [(11,iv a0),(12,sv aD a6 aE),(22,iv a9),(23,iv aA),(26,sv a3 a1.1 a4),(28,sv aB a7.1 aC),(30,.bool aZ),(31,iv a2),(163,iv (ln a1.1)),(164,iv a2),(174,.bool true),(177,undef)] hF (by kernel_rfl) ⟨by kernel_rfl⟩ ⟨by kernel_rfl⟩ rfl fun a hF=>?_
       refine skip_ 12 [(11,iv a0),(12,sv aD a6 aE),(22,iv a9),(23,iv aA),(26,sv a3 a1.1 a4),(28,sv aB a7.1 aC),(30,.bool aZ),(31,iv a2),(163,iv (ln a1.1)),(164,iv a2),(174,.bool true),(178,undef)] hF (by kernel_rfl) ⟨by kernel_rfl⟩ ⟨by kernel_rfl⟩ rfl fun a hF=>?_
       refine skip_ 13 [(11,iv a0),(12,sv aD a6 aE),(22,iv a9),(23,iv aA),(26,sv a3 a1.1 a4),(28,sv aB a7.1 aC),(30,.bool aZ),(31,iv a2),(163,iv (ln a1.1)),(164,iv a2),(174,.bool true),(179,undef)] hF (by kernel_rfl) ⟨by kernel_rfl⟩ ⟨by kernel_rfl⟩ rfl fun a hF=>?_
       refine skip_ 14 [(11,iv a0),(12,sv aD a6 aE),(22,iv a9),(23,iv aA),(26,sv a3 a1.1 a4),(28,sv aB a7.1 aC),(30,.bool aZ),(31,iv a2),(163,iv (ln a1.1)),(164,iv a2),(174,.bool true),(179,undef),(180,undef)] hF (by kernel_rfl) ⟨by kernel_rfl⟩ ⟨by kernel_rfl⟩ rfl fun a hF=>?_
       refine skip_ 15 [(11,iv a0),(12,sv aD a6 aE),(22,iv a9),(23,iv aA),(26,sv a3 a1.1 a4),(28,sv aB a7.1 aC),(30,.bool aZ),(31,iv a2),(163,iv (ln a1.1)),(164,iv a2),(174,.bool true),(181,undef)] hF (by kernel_rfl) ⟨by kernel_rfl⟩ ⟨by kernel_rfl⟩ rfl fun a hF=>?_
       refine rn 1 16 [(11,iv a0),(12,sv aD a6 aE),(22,iv a9),(23,iv aA),(26,sv a3 a1.1 a4),(28,sv aB a7.1 aC),(30,.bool aZ),(31,iv a2),(163,iv (ln a1.1)),(164,iv a2),(182,.bool true)] hF fun a hF=>?_
       refine wfn rfl ?_
       refine wpIn_cond_true (hF.get rfl) ?_
       refine esr ?_
       refine rn 1 1 [(10,.bool false)] hF fun a hF=>?_
       refine wfn rfl ?_
       refine wpIn_ret (ret_then <| ret_block <| ret_then <| ret_then <| ret_block <| ret_then <| fn_ret [.tmp 10] [.bool false] hF rfl ⟨rfl,trivial⟩ ?_)
       have hr_:=Option.some.inj h
       subst hr_
       exact ⟨rfl,hS.ext⟩
      ·replace h:=bif_f h d6
       rw [d6] at hF
       replace h:=bindS h
       obtain ⟨g6,i5,h⟩:=h
       obtain ⟨jO,fG,hI⟩:=getI_all2 cF i5
       obtain ⟨gU,gZ,k2,rfl,kD⟩:=hI
       refine rno 8 [.run [⟨174,false,false⟩] (Instr.indexAt 54 (sv aB a7.1 aC) (iv a2)) (.pointer (some (slAddr aB a2 1))),.run [⟨174,false,false⟩] (Instr.loadAt 48 (.pointer (some (slAddr aB a2 1)))) (sv gU g6 gZ)] 16 [(11,iv a0),(12,sv aD a6 aE),(22,iv a9),(23,iv aA),(26,sv a3 a1.1 a4),(28,sv aB a7.1 aC),(30,.bool aZ),(31,iv a2),(163,iv (ln a1.1)),(164,iv a2),(182,.bool ((ln g6) != a0))] hF (ocons (obIdxQ (hS.arr (i:=0) rfl) (by kernel_rfl) (fun _=>fG)) (ocons (obElQ (i:=a2) 0 (fN_len 1) (fun _ hd=>((hS.at_ hd).arr (i:=0) rfl)) (by kernel_rfl) (fun _=>fG) rfl) onil)) fun a hF=>?_
       refine wfn rfl ?_
       refine econd hF rfl (fun hc=>?_) (fun hc=>?_)
       ·replace h:=bif_t h hc
        refine esr ?_
        refine rn 1 1 [(10,.bool false)] hF fun a hF=>?_
        refine wfn rfl ?_
        refine wpIn_ret (ret_then <| ret_block <| ret_then <| ret_then <| ret_block <| ret_then <| fn_ret [.tmp 10] [.bool false] hF rfl ⟨rfl,trivial⟩ ?_)
        have hr_:=Option.some.inj h
        subst hr_
        exact ⟨rfl,hS.ext⟩
       ·replace h:=bif_f h hc
        refine wpIn_skip (norm_then ?_)
        refine esr ?_
        refine rn 2 2 [(11,iv a0),(12,sv aD a6 aE),(22,iv a9),(23,iv aA),(26,sv a3 a1.1 a4),(28,sv aB a7.1 aC),(30,.bool aZ),(31,iv a2),(163,iv (ln a1.1)),(164,iv a2),(183,iv a0),(184,iv 0)] hF fun a hF=>?_
        refine wfn rfl ?_
        refine wpIn_block ?_
        refine eloop (fun n_ a w=>∃ (a8 : Int) (c1 : Bool),Fr 263 [] [(11,iv a0),(12,sv aD a6 aE),(22,iv a9),(23,iv aA),(26,sv a3 a1.1 a4),(28,sv aB a7.1 aC),(30,.bool c1),(31,iv a2),(163,iv (ln a1.1)),(164,iv a2),(183,iv a0),(184,iv a8)] a∧St w0 [arr 48 1 (fN 1) aB a7.1.length aC bM,arr 48 1 (fN 1) a3 a1.1.length a4 bY,blk b9 95 #[.int .u8 p3.1,.int .u8 p3.2],blk b8 95 #[.int .u8 p2.1,.int .u8 p2.2],fz w0 ν3927] w∧law03_FoldFewer_L7 F a0 a6 a1 a7 a2 k5 n_ a8 c1 = some res) F ⟨0,aZ,hF.sub (by kernel_rfl),St.pick [0,1,2,3,4] (by decide) hS,h⟩ ?_
        rintro nk7 a w ⟨a8,c1,hF,hS,h⟩
        rcases nk7 with _ | nk7
        ·cases (show (none : Option Bool) = some res from h)
        obtain ⟨k7,hk7⟩ : ∃ k,k = law03_FoldFewer_L7 F a0 a6 a1 a7 a2 k5 nk7:=⟨_,rfl⟩
        replace h : law03_FoldFewer_B7 F a0 a6 a1 a7 a2 k5 k7 a8 c1 = some res:=by rw [hk7]; exact h
        rw [law03_FoldFewer_B7] at h
        refine esr ?_
        refine rn 1 1 [(11,iv a0),(12,sv aD a6 aE),(22,iv a9),(23,iv aA),(26,sv a3 a1.1 a4),(28,sv aB a7.1 aC),(30,.bool c1),(31,iv a2),(163,iv (ln a1.1)),(164,iv a2),(183,iv a0),(184,iv a8),(185,.bool (decide (a8 < a0)))] hF fun a hF=>?_
        refine wfn rfl ?_
        refine eseq ?_
        refine econd hF rfl (fun hc=>?_) (fun hc=>?_)
        ·replace h:=bif_t h hc
         refine wpIn_skip (norm_then ?_)
         refine eseq ?_
         refine wpIn_block ?_
         refine esr ?_
         refine rn 2 2 [(11,iv a0),(12,sv aD a6 aE),(22,iv a9),(23,iv aA),(26,sv a3 a1.1 a4),(28,sv aB a7.1 aC),(30,.bool c1),(31,iv a2),(32,iv a8),(163,iv (ln a1.1)),(164,iv a2),(183,iv a0),(184,iv a8)] hF fun a hF=>?_
         refine wfn rfl ?_
         refine eseq ?_
         refine eseq ?_
         replace h:=bindS h
         obtain ⟨g7,i6,h⟩:=h
         obtain ⟨jP,fH,hJ⟩:=getI_all2 cF i6
         obtain ⟨dG,f3,k3,rfl,e6⟩:=hJ
         replace h:=bindS h
         obtain ⟨eJ,i7,h⟩:=h
         obtain ⟨jQ,fI,hK⟩:=getI_all2 e6.2 i7
         obtain ⟨eV,f4,rfl,h8⟩:=hK
         replace h:=bindS h
         obtain ⟨g8,i8,h⟩:=h
         obtain ⟨jR,fJ,hL⟩:=getI_all2 c0 i8
         obtain ⟨dH,f5,k6,rfl,e7⟩:=hL
         replace h:=bindS h
         obtain ⟨eK,i9,h⟩:=h
         obtain ⟨jS,fL,hM⟩:=getI_all2 e7.2 i9
         obtain ⟨eW,f6,rfl,h9⟩:=hM
         replace h:=bindS h
         obtain ⟨gR,j8,h⟩:=h
         refine runD (obs:=[.run [] (Instr.indexAt 54 (sv aB a7.1 aC) (iv a2)) (.pointer (some (slAddr aB a2 1))),.run [] (Instr.loadAt 48 (.pointer (some (slAddr aB a2 1)))) (sv dG g7 f3),.run [] (Instr.indexAt 48 (sv dG g7 f3) (iv a8)) (.pointer (some (slAddr dG a8 1))),.run [] (Instr.loadAt 43 (.pointer (some (slAddr dG a8 1)))) (sv eV eJ f4),.run [] (Instr.indexAt 54 (sv a3 a1.1 a4) (iv a2)) (.pointer (some (slAddr a3 a2 1))),.run [] (Instr.loadAt 48 (.pointer (some (slAddr a3 a2 1)))) (sv dH g8 f5),.run [] (Instr.indexAt 48 (sv dH g8 f5) (iv a8)) (.pointer (some (slAddr dH a8 1))),.run [] (Instr.loadAt 43 (.pointer (some (slAddr dH a8 1)))) (sv eW eK f6),.call [] 45 #[sv eV eJ f4,sv eW eK f6] (.bool gR)]) 16 [(11,iv a0),(12,sv aD a6 aE),(22,iv a9),(23,iv aA),(26,sv a3 a1.1 a4),(28,sv aB a7.1 aC),(30,.bool c1),(31,iv a2),(32,iv a8),(163,iv (ln a1.1)),(164,iv a2),(183,iv a0),(184,iv a8),(202,.bool (!gR))] (by kernel_rfl) hF (by kernel_rfl) (ocons (obIdxQ (hS.arr (i:=0) rfl) (by kernel_rfl) (fun _=>fH)) (ocons (obElQ (i:=a2) 0 (fN_len 1) (fun _ hd=>((hS.later hd).arr (i:=0) rfl)) (by kernel_rfl) (fun _=>fH) rfl) (ocons (obIdxQ (e6.at (hS.frz (i:=4) rfl hlow)) (by kernel_rfl) (fun _=>fI)) (ocons (obElQ (i:=a8) 0 (fN_len 1) (fun _ hd=>(e6.at ((hS.later hd).frz (i:=4) rfl hlow))) (by kernel_rfl) (fun _=>fI) rfl) (ocons (obIdxQ (hS.arr (i:=1) rfl) (by kernel_rfl) (fun _=>fJ)) (ocons (obElQ (i:=a2) 0 (fN_len 1) (fun _ hd=>((hS.later hd).arr (i:=1) rfl)) (by kernel_rfl) (fun _=>fJ) rfl) (ocons (obIdxQ (e7.at (hS.frz (i:=4) rfl hlow)) (by kernel_rfl) (fun _=>fL)) (ocons (obElQ (i:=a8) 0 (fN_len 1) (fun _ hd=>(e7.at ((hS.later hd).frz (i:=4) rfl hlow))) (by kernel_rfl) (fun _=>fL) rfl) (ocons (show Ob.ok _ Ext _ _ from fun hk w2 hd=>law03_inside_ok F eJ eK _ ((fun _=>j8) hk) _ w2 (memOf_at w2) (h8.mono (FrzAt.le_mem ((hS.later hd).frz (i:=4) rfl hlow))) (h9.mono (FrzAt.le_mem ((hS.later hd).frz (i:=4) rfl hlow)))) onil))))))))) ⟨by kernel_rfl⟩ fun a w hF hx=>?_
         replace hS:=hS.later hx
         refine wfn rfl ?_
         refine econd hF rfl (fun hc=>?_) (fun hc=>?_)
         ·replace h:=bif_t h hc
          refine esr ?_
          refine rn 1 1 [(10,.bool false)] hF fun a hF=>?_
          refine wfn rfl ?_
          refine wpIn_ret (ret_then <| ret_block <| ret_then <| ret_then <| ret_block <| ret_block <| ret_then <| ret_then <| ret_block <| ret_then <| fn_ret [.tmp 10] [.bool false] hF rfl ⟨rfl,trivial⟩ ?_)
          have hr_:=Option.some.inj h
          subst hr_
          exact ⟨rfl,hS.ext⟩
         ·replace h:=bif_f h hc
          refine wpIn_skip (norm_then ?_)
          refine WI.region ?_
          refine rn 2 2 [(11,iv a0),(12,sv aD a6 aE),(22,iv a9),(23,iv aA),(26,sv a3 a1.1 a4),(28,sv aB a7.1 aC),(30,.bool c1),(31,iv a2),(32,iv a8),(163,iv (ln a1.1)),(164,iv a2),(183,iv a0),(184,iv a8),(204,.bool c1)] hF fun a hF=>?_
          rcases Bool.eq_false_or_eq_true (c1) with d7 | d7
          ·replace h:=bif_t h d7
           rw [d7] at hF
           refine skip_ 3 [(11,iv a0),(12,sv aD a6 aE),(22,iv a9),(23,iv aA),(26,sv a3 a1.1 a4),(28,sv aB a7.1 aC),(30,.bool true),(31,iv a2),(32,iv a8),(163,iv (ln a1.1)),(164,iv a2),(183,iv a0),(184,iv a8),(204,.bool true),(205,undef)] hF (by kernel_rfl) ⟨by kernel_rfl⟩ ⟨by kernel_rfl⟩ rfl fun a hF=>?_
           refine skip_ 4 [(11,iv a0),(12,sv aD a6 aE),(22,iv a9),(23,iv aA),(26,sv a3 a1.1 a4),(28,sv aB a7.1 aC),(30,.bool true),(31,iv a2),(32,iv a8),(163,iv (ln a1.1)),(164,iv a2),(183,iv a0),(184,iv a8),(204,.bool true),(205,undef),(206,undef)] hF (by kernel_rfl) ⟨by kernel_rfl⟩ ⟨by kernel_rfl⟩ rfl fun a hF=>?_
           refine skip_ 5 [(11,iv a0),(12,sv aD a6 aE),(22,iv a9),(23,iv aA),(26,sv a3 a1.1 a4),(28,sv aB a7.1 aC),(30,.bool true),(31,iv a2),(32,iv a8),(163,iv (ln a1.1)),(164,iv a2),(183,iv a0),(184,iv a8),(204,.bool true),(207,undef)] hF (by kernel_rfl) ⟨by kernel_rfl⟩ ⟨by kernel_rfl⟩ rfl fun a hF=>?_
           refine skip_ 6 [(11,iv a0),(12,sv aD a6 aE),(22,iv a9),(23,iv aA),(26,sv a3 a1.1 a4),(28,sv aB a7.1 aC),(30,.bool true),(31,iv a2),(32,iv a8),(163,iv (ln a1.1)),(164,iv a2),(183,iv a0),(184,iv a8),(204,.bool true),(208,undef)] hF (by kernel_rfl) ⟨by kernel_rfl⟩ ⟨by kernel_rfl⟩ rfl fun a hF=>?_
           refine skip_ 7 [(11,iv a0),(12,sv aD a6 aE),(22,iv a9),(23,iv aA),(26,sv a3 a1.1 a4),(28,sv aB a7.1 aC),(30,.bool true),(31,iv a2),(32,iv a8),(163,iv (ln a1.1)),(164,iv a2),(183,iv a0),(184,iv a8),(204,.bool true),(208,undef),(209,undef)] hF (by kernel_rfl) ⟨by kernel_rfl⟩ ⟨by kernel_rfl⟩ rfl fun a hF=>?_
           refine skip_ 8 [(11,iv a0),(12,sv aD a6 aE),(22,iv a9),(23,iv aA),(26,sv a3 a1.1 a4),(28,sv aB a7.1 aC),(30,.bool true),(31,iv a2),(32,iv a8),(163,iv (ln a1.1)),(164,iv a2),(183,iv a0),(184,iv a8),(204,.bool true),(210,undef)] hF (by kernel_rfl) ⟨by kernel_rfl⟩ ⟨by kernel_rfl⟩ rfl fun a hF=>?_
           refine skip_ 9 [(11,iv a0),(12,sv aD a6 aE),(22,iv a9),(23,iv aA),(26,sv a3 a1.1 a4),(28,sv aB a7.1 aC),(30,.bool true),(31,iv a2),(32,iv a8),(163,iv (ln a1.1)),(164,iv a2),(183,iv a0),(184,iv a8),(204,.bool true),(211,undef)] hF (by kernel_rfl) ⟨by kernel_rfl⟩ ⟨by kernel_rfl⟩ rfl fun a hF=>?_
           refine skip_ 10 [(11,iv a0),(12,sv aD a6 aE),(22,iv a9),(23,iv aA),(26,sv a3 a1.1 a4),(28,sv aB a7.1 aC),(30,.bool true),(31,iv a2),(32,iv a8),(163,iv (ln a1.1)),(164,iv a2),(183,iv a0),(184,iv a8),(204,.bool true),(212,undef)] hF (by kernel_rfl) ⟨by kernel_rfl⟩ ⟨by kernel_rfl⟩ rfl fun a hF=>?_
           refine skip_ 11 [(11,iv a0),(12,sv aD a6 aE),(22,iv a9),(23,iv aA),(26,sv a3 a1.1 a4),(28,sv aB a7.1 aC),(30,.bool true),(31,iv a2),(32,iv a8),(163,iv (ln a1.1)),(164,iv a2),(183,iv a0),(184,iv a8),(204,.bool true),(213,undef)] hF (by kernel_rfl) ⟨by kernel_rfl⟩ ⟨by kernel_rfl⟩ rfl fun a hF=>?_
           refine skip_ 12 [(11,iv a0),(12,sv aD a6 aE),(22,iv a9),(23,iv aA),(26,sv a3 a1.1 a4),(28,sv aB a7.1 aC),(30,.bool true),(31,iv a2),(32,iv a8),(163,iv (ln a1.1)),(164,iv a2),(183,iv a0),(184,iv a8),(204,.bool true),(214,undef)] hF (by kernel_rfl) ⟨by kernel_rfl⟩ ⟨by kernel_rfl⟩ rfl fun a hF=>?_
           refine skipU_ 13 [(11,iv a0),(12,sv aD a6 aE),(22,iv a9),(23,iv aA),(26,sv a3 a1.1 a4),(28,sv aB a7.1 aC),(30,.bool true),(31,iv a2),(32,iv a8),(163,iv (ln a1.1)),(164,iv a2),(183,iv a0),(184,iv a8),(204,.bool true),(214,undef),(215,undef)] hF (by kernel_rfl) ⟨by kernel_rfl⟩ ⟨by kernel_rfl⟩ rfl fun a hF=>?_
           refine skipU_ 14 [(11,iv a0),(12,sv aD a6 aE),(22,iv a9),(23,iv aA),(26,sv a3 a1.1 a4),(28,sv aB a7.1 aC),(30,.bool true),(31,iv a2),(32,iv a8),(163,iv (ln a1.1)),(164,iv a2),(183,iv a0),(184,iv a8),(204,.bool true),(214,undef),(215,undef),(216,undef)] hF (by kernel_rfl) ⟨by kernel_rfl⟩ ⟨by kernel_rfl⟩ rfl fun a hF=>?_
           refine skipU_ 15 [(11,iv a0),(12,sv aD a6 aE),(22,iv a9),(23,iv aA),(26,sv a3 a1.1 a4),(28,sv aB a7.1 aC),(30,.bool true),(31,iv a2),(32,iv a8),(163,iv (ln a1.1)),(164,iv a2),(183,iv a0),(184,iv a8),(204,.bool true),(214,undef),(217,undef)] hF (by kernel_rfl) ⟨by kernel_rfl⟩ ⟨by kernel_rfl⟩ rfl fun a hF=>?_
           refine skipU_ 16 [(11,iv a0),(12,sv aD a6 aE),(22,iv a9),(23,iv aA),(26,sv a3 a1.1 a4),(28,sv aB a7.1 aC),(30,.bool true),(31,iv a2),(32,iv a8),(163,iv (ln a1.1)),(164,iv a2),(183,iv a0),(184,iv a8),(204,.bool true),(214,undef),(218,undef)] hF (by kernel_rfl) ⟨by kernel_rfl⟩ ⟨by kernel_rfl⟩ rfl fun a hF=>?_
           refine skipU_ 17 [(11,iv a0),(12,sv aD a6 aE),(22,iv a9),(23,iv aA),(26,sv a3 a1.1 a4),(28,sv aB a7.1 aC),(30,.bool true),(31,iv a2),(163,iv (ln a1.1)),(164,iv a2),(183,iv a0),(184,iv a8),(204,.bool true),(214,undef),(218,undef),(219,undef)] hF (by kernel_rfl) ⟨by kernel_rfl⟩ ⟨by kernel_rfl⟩ rfl fun a hF=>?_
           refine skipU_ 18 [(11,iv a0),(12,sv aD a6 aE),(22,iv a9),(23,iv aA),(26,sv a3 a1.1 a4),(28,sv aB a7.1 aC),(30,.bool true),(31,iv a2),(163,iv (ln a1.1)),(164,iv a2),(183,iv a0),(184,iv a8),(204,.bool true),(214,undef),(220,undef)] hF (by kernel_rfl) ⟨by kernel_rfl⟩ ⟨by kernel_rfl⟩ rfl fun a hF=>?_
           refine skipU_ 19 [(11,iv a0),(12,sv aD a6 aE),(22,iv a9),(23,iv aA),(26,sv a3 a1.1 a4),(28,sv aB a7.1 aC),(30,.bool true),(31,iv a2),(163,iv (ln a1.1)),(164,iv a2),(183,iv a0),(184,iv a8),(204,.bool true),(214,undef),(221,undef)] hF (by kernel_rfl) ⟨by kernel_rfl⟩ ⟨by kernel_rfl⟩ rfl fun a hF=>?_
           refine skipU_ 20 [(11,iv a0),(12,sv aD a6 aE),(22,iv a9),(23,iv aA),(26,sv a3 a1.1 a4),(28,sv aB a7.1 aC),(30,.bool true),(31,iv a2),(163,iv (ln a1.1)),(164,iv a2),(183,iv a0),(184,iv a8),(204,.bool true),(214,undef),(222,undef)] hF (by kernel_rfl) ⟨by kernel_rfl⟩ ⟨by kernel_rfl⟩ rfl fun a hF=>?_
           refine skipU_ 21 [(11,iv a0),(12,sv aD a6 aE),(22,iv a9),(23,iv aA),(26,sv a3 a1.1 a4),(28,sv aB a7.1 aC),(30,.bool true),(31,iv a2),(163,iv (ln a1.1)),(164,iv a2),(183,iv a0),(184,iv a8),(204,.bool true),(214,undef),(223,undef)] hF (by kernel_rfl) ⟨by kernel_rfl⟩ ⟨by kernel_rfl⟩ rfl fun a hF=>?_
           refine skip_ 22 [(11,iv a0),(12,sv aD a6 aE),(22,iv a9),(23,iv aA),(26,sv a3 a1.1 a4),(28,sv aB a7.1 aC),(30,.bool true),(31,iv a2),(163,iv (ln a1.1)),(164,iv a2),(183,iv a0),(184,iv a8),(204,.bool true),(224,undef)] hF (by kernel_rfl) ⟨by kernel_rfl⟩ ⟨by kernel_rfl⟩ rfl fun a hF=>?_
           refine rn 2 24 [(11,iv a0),(12,sv aD a6 aE),(22,iv a9),(23,iv aA),(26,sv a3 a1.1 a4),(28,sv aB a7.1 aC),(30,.bool true),(31,iv a2),(163,iv (ln a1.1)),(164,iv a2),(183,iv a0),(184,iv a8)] hF fun a hF=>?_
           refine WI.fin rfl (norm_block <| norm_then <| ?_)
           refine WI.region ?_
           replace h:=bindS h
           obtain ⟨eP,iY,h⟩:=h
           refine rno 2 [.run [] (binOp .add 3 (iv a8) (iv 1)) (iv eP)] 2 [(11,iv a0),(12,sv aD a6 aE),(22,iv a9),(23,iv aA),(26,sv a3 a1.1 a4),(28,sv aB a7.1 aC),(30,.bool true),(31,iv a2),(163,iv (ln a1.1)),(164,iv a2),(183,iv a0),(184,iv eP)] hF (ocons (obAddC (fun _=>iY)) onil) fun a hF=>?_
           refine wfn rfl ?_
           rw [hk7] at h
           exact ⟨nk7,Nat.lt_succ_self _,eP,true,hF.sub (by kernel_rfl),St.pick [0,1,2,3,4] (by decide) hS,h⟩
          ·replace h:=bif_f h d7
           rw [d7] at hF
           replace h:=bindS h
           obtain ⟨g9,iA,h⟩:=h
           obtain ⟨jT,fM,hN⟩:=getI_all2 bN.2 iA
           obtain ⟨dI,f7,k9,rfl,e8⟩:=hN
           replace h:=bindS h
           obtain ⟨dV,iB,h⟩:=h
           obtain ⟨jU,fO,hO⟩:=getI_all2 e8.2 iB
           obtain ⟨gV,h0,rfl,kE⟩:=hO
           refine run_C (n:=10) (obs:=[.run [⟨204,false,false⟩] (Instr.indexAt 54 (sv aD a6 aE) (iv a2)) (.pointer (some (slAddr aD a2 1))),.run [⟨204,false,false⟩] (Instr.loadAt 48 (.pointer (some (slAddr aD a2 1)))) (sv dI g9 f7),.run [⟨204,false,false⟩] (Instr.indexAt 48 (sv dI g9 f7) (iv a8)) (.pointer (some (slAddr dI a8 1))),.run [⟨204,false,false⟩] (Instr.loadAt 43 (.pointer (some (slAddr dI a8 1)))) (sv gV dV h0)]) 12 [(11,⟨[],iv a0⟩),(12,⟨[],sv aD a6 aE⟩),(22,⟨[],iv a9⟩),(23,⟨[],iv aA⟩),(26,⟨[],sv a3 a1.1 a4⟩),(28,⟨[],sv aB a7.1 aC⟩),(30,⟨[],.bool false⟩),(31,⟨[],iv a2⟩),(32,⟨[],iv a8⟩),(163,⟨[],iv (ln a1.1)⟩),(164,⟨[],iv a2⟩),(183,⟨[],iv a0⟩),(184,⟨[],iv a8⟩),(204,⟨[],.bool false⟩),(214,⟨[⟨204,false,false⟩],.bool (decide ((ln dV) > 0))⟩)] hF (by kernel_rfl) (ocons (obIdxQ (bN.at (hS.frz (i:=4) rfl hlow)) (by kernel_rfl) (fun _=>fM)) (ocons (obElQ (i:=a2) 0 (fN_len 1) (fun _ hd=>(bN.at ((hS.at_ hd).frz (i:=4) rfl hlow))) (by kernel_rfl) (fun _=>fM) rfl) (ocons (obIdxQ (e8.at (hS.frz (i:=4) rfl hlow)) (by kernel_rfl) (fun _=>fO)) (ocons (obElQ (i:=a8) 0 (fN_len 1) (fun _ hd=>(e8.at ((hS.at_ hd).frz (i:=4) rfl hlow))) (by kernel_rfl) (fun _=>fO) rfl) onil)))) ⟨by kernel_rfl⟩ (by kernel_rfl) rfl fun a hF=>?_
           replace hF : Fr 263 [] [(11,iv a0),(12,sv aD a6 aE),(22,iv a9),(23,iv aA),(26,sv a3 a1.1 a4),(28,sv aB a7.1 aC),(30,.bool false),(31,iv a2),(32,iv a8),(163,iv (ln a1.1)),(164,iv a2),(183,iv a0),(184,iv a8),(204,.bool false),(214,.bool (decide ((ln dV) > 0)))] a:=hF
           rcases Bool.eq_false_or_eq_true ((decide ((ln dV) > 0))) with d8 | d8
           ·replace h:=bif_t h d8
            rw [d8] at hF
            replace h:=bindS h
            obtain ⟨gA,iC,h⟩:=h
            obtain ⟨jV,fP,hP⟩:=getI_all2 c0 iC
            obtain ⟨dJ,f8,kA,rfl,e9⟩:=hP
            replace h:=bindS h
            obtain ⟨dW,iD,h⟩:=h
            obtain ⟨jW,fQ,hR⟩:=getI_all2 e9.2 iD
            obtain ⟨gW,h1,rfl,kF⟩:=hR
            refine rno 12 [.run [⟨214,true,true⟩] (Instr.indexAt 54 (sv a3 a1.1 a4) (iv a2)) (.pointer (some (slAddr a3 a2 1))),.run [⟨214,true,true⟩] (Instr.loadAt 48 (.pointer (some (slAddr a3 a2 1)))) (sv dJ gA f8),.run [⟨214,true,true⟩] (Instr.indexAt 48 (sv dJ gA f8) (iv a8)) (.pointer (some (slAddr dJ a8 1))),.run [⟨214,true,true⟩] (Instr.loadAt 43 (.pointer (some (slAddr dJ a8 1)))) (sv gW dW h1)] 24 [(11,iv a0),(12,sv aD a6 aE),(22,iv a9),(23,iv aA),(26,sv a3 a1.1 a4),(28,sv aB a7.1 aC),(30,.bool ((ln dW) == 0)),(31,iv a2),(163,iv (ln a1.1)),(164,iv a2),(183,iv a0),(184,iv a8)] hF (ocons (obIdxQ (hS.arr (i:=1) rfl) (by kernel_rfl) (fun _=>fP)) (ocons (obElQ (i:=a2) 0 (fN_len 1) (fun _ hd=>((hS.at_ hd).arr (i:=1) rfl)) (by kernel_rfl) (fun _=>fP) rfl) (ocons (obIdxQ (e9.at (hS.frz (i:=4) rfl hlow)) (by kernel_rfl) (fun _=>fQ)) (ocons (obElQ (i:=a8) 0 (fN_len 1) (fun _ hd=>(e9.at ((hS.at_ hd).frz (i:=4) rfl hlow))) (by kernel_rfl) (fun _=>fQ) rfl) onil)))) fun a hF=>?_
            refine WI.fin rfl (norm_block <| norm_then <| ?_)
            refine WI.region ?_
            replace h:=bindS h
            obtain ⟨eQ,iZ,h⟩:=h
            refine rno 2 [.run [] (binOp .add 3 (iv a8) (iv 1)) (iv eQ)] 2 [(11,iv a0),(12,sv aD a6 aE),(22,iv a9),(23,iv aA),(26,sv a3 a1.1 a4),(28,sv aB a7.1 aC),(30,.bool ((ln dW) == 0)),(31,iv a2),(163,iv (ln a1.1)),(164,iv a2),(183,iv a0),(184,iv eQ)] hF (ocons (obAddC (fun _=>iZ)) onil) fun a hF=>?_
            refine wfn rfl ?_
            rw [hk7] at h
            exact ⟨nk7,Nat.lt_succ_self _,eQ,(ln dW) == 0,hF.sub (by kernel_rfl),St.pick [0,1,2,3,4] (by decide) hS,h⟩
           ·replace h:=bif_f h d8
            rw [d8] at hF
            refine skip_ 13 [(11,iv a0),(12,sv aD a6 aE),(22,iv a9),(23,iv aA),(26,sv a3 a1.1 a4),(28,sv aB a7.1 aC),(30,.bool false),(31,iv a2),(32,iv a8),(163,iv (ln a1.1)),(164,iv a2),(183,iv a0),(184,iv a8),(204,.bool false),(214,.bool false),(215,undef)] hF (by kernel_rfl) ⟨by kernel_rfl⟩ ⟨by kernel_rfl⟩ rfl fun a hF=>?_
            refine skip_ 14 [(11,iv a0),(12,sv aD a6 aE),(22,iv a9),(23,iv aA),(26,sv a3 a1.1 a4),(28,sv aB a7.1 aC),(30,.bool false),(31,iv a2),(32,iv a8),(163,iv (ln a1.1)),(164,iv a2),(183,iv a0),(184,iv a8),(204,.bool false),(214,.bool false),(215,undef),(216,undef)] hF (by kernel_rfl) ⟨by kernel_rfl⟩ ⟨by kernel_rfl⟩ rfl fun a hF=>?_
            refine skip_ 15 [(11,iv a0),(12,sv aD a6 aE),(22,iv a9),(23,iv aA),(26,sv a3 a1.1 a4),(28,sv aB a7.1 aC),(30,.bool false),(31,iv a2),(32,iv a8),(163,iv (ln a1.1)),(164,iv a2),(183,iv a0),(184,iv a8),(204,.bool false),(214,.bool false),(217,undef)] hF (by kernel_rfl) ⟨by kernel_rfl⟩ ⟨by kernel_rfl⟩ rfl fun a hF=>?_
            refine skip_ 16 [(11,iv a0),(12,sv aD a6 aE),(22,iv a9),(23,iv aA),(26,sv a3 a1.1 a4),(28,sv aB a7.1 aC),(30,.bool false),(31,iv a2),(32,iv a8),(163,iv (ln a1.1)),(164,iv a2),(183,iv a0),(184,iv a8),(204,.bool false),(214,.bool false),(218,undef)] hF (by kernel_rfl) ⟨by kernel_rfl⟩ ⟨by kernel_rfl⟩ rfl fun a hF=>?_
            refine skip_ 17 [(11,iv a0),(12,sv aD a6 aE),(22,iv a9),(23,iv aA),(26,sv a3 a1.1 a4),(28,sv aB a7.1 aC),(30,.bool false),(31,iv a2),(163,iv (ln a1.1)),(164,iv a2),(183,iv a0),(184,iv a8),(204,.bool false),(214,.bool false),(218,undef),(219,undef)] hF (by kernel_rfl) ⟨by kernel_rfl⟩ ⟨by kernel_rfl⟩ rfl fun a hF=>?_
            refine skip_ 18 [(11,iv a0),(12,sv aD a6 aE),(22,iv a9),(23,iv aA),(26,sv a3 a1.1 a4),(28,sv aB a7.1 aC),(30,.bool false),(31,iv a2),(163,iv (ln a1.1)),(164,iv a2),(183,iv a0),(184,iv a8),(204,.bool false),(214,.bool false),(220,undef)] hF (by kernel_rfl) ⟨by kernel_rfl⟩ ⟨by kernel_rfl⟩ rfl fun a hF=>?_
            refine skip_ 19 [(11,iv a0),(12,sv aD a6 aE),(22,iv a9),(23,iv aA),(26,sv a3 a1.1 a4),(28,sv aB a7.1 aC),(30,.bool false),(31,iv a2),(163,iv (ln a1.1)),(164,iv a2),(183,iv a0),(184,iv a8),(204,.bool false),(214,.bool false),(221,undef)] hF (by kernel_rfl) ⟨by kernel_rfl⟩ ⟨by kernel_rfl⟩ rfl fun a hF=>?_
            refine skip_ 20 [(11,iv a0),(12,sv aD a6 aE),(22,iv a9),(23,iv aA),(26,sv a3 a1.1 a4),(28,sv aB a7.1 aC),(30,.bool false),(31,iv a2),(163,iv (ln a1.1)),(164,iv a2),(183,iv a0),(184,iv a8),(204,.bool false),(214,.bool false),(222,undef)] hF (by kernel_rfl) ⟨by kernel_rfl⟩ ⟨by kernel_rfl⟩ rfl fun a hF=>?_
            refine skip_ 21 [(11,iv a0),(12,sv aD a6 aE),(22,iv a9),(23,iv aA),(26,sv a3 a1.1 a4),(28,sv aB a7.1 aC),(30,.bool false),(31,iv a2),(163,iv (ln a1.1)),(164,iv a2),(183,iv a0),(184,iv a8),(204,.bool false),(214,.bool false),(223,undef)] hF (by kernel_rfl) ⟨by kernel_rfl⟩ ⟨by kernel_rfl⟩ rfl fun a hF=>?_
            refine rn 3 24 [(11,iv a0),(12,sv aD a6 aE),(22,iv a9),(23,iv aA),(26,sv a3 a1.1 a4),(28,sv aB a7.1 aC),(30,.bool false),(31,iv a2),(163,iv (ln a1.1)),(164,iv a2),(183,iv a0),(184,iv a8)] hF fun a hF=>?_
            refine WI.fin rfl (norm_block <| norm_then <| ?_)
            refine WI.region ?_
            replace h:=bindS h
            obtain ⟨eR,j0,h⟩:=h
            refine rno 2 [.run [] (binOp .add 3 (iv a8) (iv 1)) (iv eR)] 2 [(11,iv a0),(12,sv aD a6 aE),(22,iv a9),(23,iv aA),(26,sv a3 a1.1 a4),(28,sv aB a7.1 aC),(30,.bool false),(31,iv a2),(163,iv (ln a1.1)),(164,iv a2),(183,iv a0),(184,iv eR)] hF (ocons (obAddC (fun _=>j0)) onil) fun a hF=>?_
            refine wfn rfl ?_
            rw [hk7] at h
            exact ⟨nk7,Nat.lt_succ_self _,eR,false,hF.sub (by kernel_rfl),St.pick [0,1,2,3,4] (by decide) hS,h⟩
        ·replace h:=bif_f h hc
         refine wpIn_exit (exit_then <| exit_then <| exit_hit <| norm_block <| norm_then <| ?_)
         exact ⟨c1,hF.sub (by kernel_rfl),St.pick [0,1,2,3,4] (by decide) hS,h⟩
     rintro a w ⟨cY,hF,hS,h⟩
     rw [law03_FoldFewer_K6] at h
     refine WI.region ?_
     replace h:=bindS h
     obtain ⟨eO,iX,h⟩:=h
     refine rno 2 [.run [] (binOp .add 3 (iv a2) (iv 1)) (iv eO)] 2 [(11,iv a0),(12,sv aD a6 aE),(22,iv a9),(23,iv aA),(26,sv a3 a1.1 a4),(28,sv aB a7.1 aC),(30,.bool cY),(163,iv (ln a1.1)),(164,iv eO)] hF (ocons (obAddC (fun _=>iX)) onil) fun a hF=>?_
     refine wfn rfl ?_
     rw [hk5] at h
     exact ⟨nk5,Nat.lt_succ_self _,eO,cY,hF.sub (by kernel_rfl),St.pick [0,1,2,3,4] (by decide) hS,h⟩
    ·replace h:=bif_f h hc
     refine wpIn_exit (exit_then <| exit_then <| exit_hit <| norm_then ?_)
     exact ⟨aZ,hF.sub (by kernel_rfl),St.pick [0,1,2,3,4] (by decide) hS,h⟩
   rintro a w ⟨dK,hF,hS,h⟩
   rw [law03_FoldFewer_K2] at h
   refine eseq ?_
   refine esr ?_
   refine rn 1 1 [(22,iv a9),(23,iv aA),(26,sv a3 a1.1 a4),(228,.bool dK)] hF fun a hF=>?_
   refine wfn rfl ?_
   refine econd hF rfl (fun hc=>?_) (fun hc=>?_)
   ·replace h:=bif_t h hc
    refine esr ?_
    refine rx 2 [.call [] 19 #[] (.bool law03_works)] 2 [(10,.bool law03_works)] hF (ocons (show Ob.ok _ Ext _ _ from fun hk w2 hd=>law03_works_ok  _ rfl _ w2 (memOf_at w2)) onil) fun a w hF hx=>?_
    replace hS:=hS.later hx
    refine wfn rfl ?_
    refine wpIn_ret (ret_then <| fn_ret [.tmp 10] [.bool law03_works] hF rfl ⟨rfl,trivial⟩ ?_)
    have hr_:=Option.some.inj h
    subst hr_
    exact ⟨rfl,hS.ext⟩
   ·replace h:=bif_f h hc
    refine wpIn_skip (norm_then ?_)
    refine esr ?_
    refine rn 3 3 [(26,sv a3 a1.1 a4),(231,sv a3 a1.1 a4),(232,iv a9),(233,iv aA)] hF fun a hF=>?_
    obtain ⟨ν5264,cG,hlow,hS,jF⟩:=hS.freeze (i:=4) (j:=1) rfl rfl (by decide) hlow
    replace hA4:=hA4.mono Rp82.mono cG.1
    replace hA7:=hA7.mono cG.1
    replace bN:=bN.mono Rp48.mono cG.1
    replace c0:=All2.mono Rp48.mono cG.1 c0
    replace cJ:=cJ.mono Rp48.mono cG.1
    replace cF:=All2.mono Rp48.mono cG.1 cF
    replace bQ:=Frz.le_trans bQ cG.1
    replace hext:=Frz.ext_trans hext cG
    replace hS : St w0 [arr 48 1 (fN 1) aB a7.1.length aC bM,blk b9 95 #[.int .u8 p3.1,.int .u8 p3.2],blk b8 95 #[.int .u8 p2.1,.int .u8 p2.2],fz w0 ν5264] w:=hS
    have cO:=ArrQ.of_arr (l:=a1.1) jF c0 Rp48.mono (Frz.le_refl _)
    replace h:=bindS h
    obtain ⟨aU,j6,h⟩:=h
    refine SK.wi (callK (f:=27) (args:=#[sv a3 a1.1 a4,iv a9,iv aA]) (R:=fun v w2=>∃ ν5270 aY b5 cE,ν5264.ext w.heap.size ν5270∧v = .tuple #[sv aY aU.1 b5,iv aU.2]∧All2 (Rp48 ν5270) cE aU.1∧St w [frzR w.heap.size ν5270,arr 48 1 (fN 1) aY aU.1.length b5 cE] w2) (fun gF=>[(26,sv a3 a1.1 a4),(234,gF)]) hF (by kernel_rfl) ⟨by kernel_rfl⟩ (Calls.mono (fold_Turn_ok F a1.1 a9 aA _ j6 ν5264 w (hS.frz (i:=3) rfl hlow) cO) (by rintro e w2 ⟨ν5270,aY,b5,cE,c4,rfl,eE,h⟩; exact ⟨_,rfl,ν5270,aY,b5,cE,c4,rfl,eE,h⟩)) (fun _=>⟨by kernel_rfl⟩) ?_)
    rintro gF w a ⟨ν5270,aY,b5,cE,c4,rfl,eE,hQ⟩ hF
    replace hext:=Frz.ext_trans hext (Frz.ext_mono c4 hS.ext.size)
    obtain ⟨hlow,hS⟩:=hS.frzMerge (i:=3) rfl hlow c4 hQ
    replace hA4:=hA4.mono Rp82.mono c4.1
    replace hA7:=hA7.mono c4.1
    replace bN:=bN.mono Rp48.mono c4.1
    replace cJ:=cJ.mono Rp48.mono c4.1
    replace cF:=All2.mono Rp48.mono c4.1 cF
    replace cO:=cO.mono Rp48.mono c4.1
    replace bQ:=Frz.le_trans bQ c4.1
    replace hS : St w0 [arr 48 1 (fN 1) aY aU.1.length b5 cE,arr 48 1 (fN 1) aB a7.1.length aC bM,blk b9 95 #[.int .u8 p3.1,.int .u8 p3.2],blk b8 95 #[.int .u8 p2.1,.int .u8 p2.2],fz w0 ν5270] w:=hS
    refine rn 5 9 [(26,sv a3 a1.1 a4),(27,iv aU.2),(33,sv aY aU.1 b5)] hF fun a hF=>?_
    refine wfn rfl ?_
    refine eseq ?_
    refine esr ?_
    refine rn 9 9 [(26,sv a3 a1.1 a4),(33,sv aY aU.1 b5),(245,.bool (bif (aU.2 != 0) then true else ((ln aU.1) != (ln a1.1))))] hF fun a hF=>?_
    refine wfn rfl ?_
    refine econd hF rfl (fun hc=>?_) (fun hc=>?_)
    ·replace h:=bif_t h hc
     refine esr ?_
     refine rn 1 1 [(10,.bool false)] hF fun a hF=>?_
     refine wfn rfl ?_
     refine wpIn_ret (ret_then <| fn_ret [.tmp 10] [.bool false] hF rfl ⟨rfl,trivial⟩ ?_)
     have hr_:=Option.some.inj h
     subst hr_
     exact ⟨rfl,hS.ext⟩
    ·replace h:=bif_f h hc
     refine wpIn_skip (norm_then ?_)
     refine ecut (fun a w=>Fr 263 [] [] a∧St w0 [arr 48 1 (fN 1) aY aU.1.length b5 cE,arr 48 1 (fN 1) aB a7.1.length aC bM,blk b9 95 #[.int .u8 p3.1,.int .u8 p3.2],blk b8 95 #[.int .u8 p2.1,.int .u8 p2.2],fz w0 ν5270] w∧law03_FoldFewer_K3 = some res) ?_ ?_
     ·skip
      refine esr ?_
      refine rn 3 3 [(26,sv a3 a1.1 a4),(33,sv aY aU.1 b5),(247,iv (ln a1.1)),(248,iv 0)] hF fun a hF=>?_
      refine wfn rfl ?_
      refine wpIn_block ?_
      refine eloop (fun n_ a w=>∃ (b4 : Int),Fr 263 [] [(26,sv a3 a1.1 a4),(33,sv aY aU.1 b5),(247,iv (ln a1.1)),(248,iv b4)] a∧St w0 [arr 48 1 (fN 1) aY aU.1.length b5 cE,arr 48 1 (fN 1) aB a7.1.length aC bM,blk b9 95 #[.int .u8 p3.1,.int .u8 p3.2],blk b8 95 #[.int .u8 p2.1,.int .u8 p2.2],fz w0 ν5270] w∧law03_FoldFewer_L4 F a1 aU n_ b4 = some res) F ⟨0,hF.sub (by kernel_rfl),St.pick [0,1,2,3,4] (by decide) hS,h⟩ ?_
      rintro nk4 a w ⟨b4,hF,hS,h⟩
      rcases nk4 with _ | nk4
      ·cases (show (none : Option Bool) = some res from h)
      obtain ⟨k4,hk4⟩ : ∃ k,k = law03_FoldFewer_L4 F a1 aU nk4:=⟨_,rfl⟩
      replace h : law03_FoldFewer_B4 F a1 aU k4 b4 = some res:=by rw [hk4]; exact h
      rw [law03_FoldFewer_B4] at h
      refine esr ?_
      refine rn 1 1 [(26,sv a3 a1.1 a4),(33,sv aY aU.1 b5),(247,iv (ln a1.1)),(248,iv b4),(249,.bool (decide (b4 < (ln a1.1))))] hF fun a hF=>?_
      refine wfn rfl ?_
      refine eseq ?_
      refine econd hF rfl (fun hc=>?_) (fun hc=>?_)
      ·replace h:=bif_t h hc
       refine wpIn_skip (norm_then ?_)
       refine eseq ?_
       refine wpIn_block ?_
       refine esr ?_
       refine rn 2 2 [(26,sv a3 a1.1 a4),(33,sv aY aU.1 b5),(34,iv b4),(247,iv (ln a1.1)),(248,iv b4)] hF fun a hF=>?_
       refine wfn rfl ?_
       refine eseq ?_
       replace h:=bindS h
       obtain ⟨eG,i2,h⟩:=h
       obtain ⟨jL,fD,hE⟩:=getI_all2 eE i2
       obtain ⟨eT,f1,jZ,rfl,h6⟩:=hE
       replace h:=bindS h
       obtain ⟨eH,i3,h⟩:=h
       obtain ⟨jM,fE,hG⟩:=getI_all2 cO.2 i3
       obtain ⟨eU,f2,k0,rfl,h7⟩:=hG
       replace h:=bindS h
       obtain ⟨gQ,j7,h⟩:=h
       refine runD (obs:=[.run [] (Instr.indexAt 54 (sv aY aU.1 b5) (iv b4)) (.pointer (some (slAddr aY b4 1))),.run [] (Instr.loadAt 48 (.pointer (some (slAddr aY b4 1)))) (sv eT eG f1),.run [] (Instr.indexAt 54 (sv a3 a1.1 a4) (iv b4)) (.pointer (some (slAddr a3 b4 1))),.run [] (Instr.loadAt 48 (.pointer (some (slAddr a3 b4 1)))) (sv eU eH f2),.call [] 26 #[sv eT eG f1,sv eU eH f2] (.bool gQ)]) 10 [(26,sv a3 a1.1 a4),(33,sv aY aU.1 b5),(247,iv (ln a1.1)),(248,iv b4),(260,.bool (!gQ))] (by kernel_rfl) hF (by kernel_rfl) (ocons (obIdxQ (hS.arr (i:=0) rfl) (by kernel_rfl) (fun _=>fD)) (ocons (obElQ (i:=b4) 0 (fN_len 1) (fun _ hd=>((hS.later hd).arr (i:=0) rfl)) (by kernel_rfl) (fun _=>fD) rfl) (ocons (obIdxQ (cO.at (hS.frz (i:=4) rfl hlow)) (by kernel_rfl) (fun _=>fE)) (ocons (obElQ (i:=b4) 0 (fN_len 1) (fun _ hd=>(cO.at ((hS.later hd).frz (i:=4) rfl hlow))) (by kernel_rfl) (fun _=>fE) rfl) (ocons (show Ob.ok _ Ext _ _ from fun hk w2 hd=>law03_sets_ok F eG eH _ ((fun _=>j7) hk) _ w2 (memOf_at w2) (h6.mono Rp43.mono (FrzAt.le_mem ((hS.later hd).frz (i:=4) rfl hlow))) (h7.mono Rp43.mono (FrzAt.le_mem ((hS.later hd).frz (i:=4) rfl hlow)))) onil))))) ⟨by kernel_rfl⟩ fun a w hF hx=>?_
       replace hS:=hS.later hx
       refine wfn rfl ?_
       refine econd hF rfl (fun hc=>?_) (fun hc=>?_)
       ·replace h:=bif_t h hc
        refine esr ?_
        refine rn 1 1 [(10,.bool false)] hF fun a hF=>?_
        refine wfn rfl ?_
        refine wpIn_ret (ret_block <| ret_then <| ret_then <| ret_block <| ret_then <| fn_ret [.tmp 10] [.bool false] hF rfl ⟨rfl,trivial⟩ ?_)
        have hr_:=Option.some.inj h
        subst hr_
        exact ⟨rfl,hS.ext⟩
       ·replace h:=bif_f h hc
        refine wpIn_skip (norm_block <| norm_then <| ?_)
        refine WI.region ?_
        replace h:=bindS h
        obtain ⟨eN,iW,h⟩:=h
        refine rno 2 [.run [] (binOp .add 3 (iv b4) (iv 1)) (iv eN)] 2 [(26,sv a3 a1.1 a4),(33,sv aY aU.1 b5),(247,iv (ln a1.1)),(248,iv eN)] hF (ocons (obAddC (fun _=>iW)) onil) fun a hF=>?_
        refine wfn rfl ?_
        rw [hk4] at h
        exact ⟨nk4,Nat.lt_succ_self _,eN,hF.sub (by kernel_rfl),St.pick [0,1,2,3,4] (by decide) hS,h⟩
      ·replace h:=bif_f h hc
       refine wpIn_exit (exit_then <| exit_then <| exit_hit <| norm_then ?_)
       exact ⟨hF.sub (by kernel_rfl),St.pick [0,1,2,3,4] (by decide) hS,h⟩
     rintro a w ⟨hF,hS,h⟩
     rw [law03_FoldFewer_K3] at h
     refine esr ?_
     refine rx 2 [.call [] 19 #[] (.bool law03_works)] 2 [(10,.bool law03_works)] hF (ocons (show Ob.ok _ Ext _ _ from fun hk w2 hd=>law03_works_ok  _ rfl _ w2 (memOf_at w2)) onil) fun a w hF hx=>?_
     replace hS:=hS.later hx
     refine wfn rfl ?_
     refine wpIn_ret (fn_ret [.tmp 10] [.bool law03_works] hF rfl ⟨rfl,trivial⟩ ?_)
     have hr_:=Option.some.inj h
     subst hr_
     exact ⟨rfl,hS.ext⟩
end Go.Proofs.Ytbhjgebjojdohaa
