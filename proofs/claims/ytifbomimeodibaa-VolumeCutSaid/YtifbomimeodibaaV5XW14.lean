import Derived.Test.YtifbomimeodibaaV5XD
import Derived.Test.YtifbomimeodibaaProg
import Derived.Test.YtifbomimeodibaaV5XW0
import Derived.Test.YtifbomimeodibaaV5XW3
import Derived.Test.YtifbomimeodibaaV5XW5
import Derived.Test.YtifbomimeodibaaV5XW7
import Derived.Test.YtifbomimeodibaaV5XW11
import Derived.Test.YtifbomimeodibaaV5XW12
import Derived.Test.YtifbomimeodibaaV5XW13
namespace Go.Proofs.Ytifbomimeodibaa
open Go Go.RowKit Go.Eng
set_option maxRecDepth 10000
set_option maxHeartbeats 4000000
set_option linter.unusedVariables false
set_option linter.unusedSimpArgs false
theorem Pn (F:Nat) (p0:(List law12_Thing)) (p1:Int) (p2:law12_Thing) (res:Bool) (h:H4 F p0 p1 p2=some res) (μ:Frz) (w0:World) (hm:FrzAt μ w0) {ad1:Option Addr} {cap2:Nat} {css3:List (List Value)} {ad5:Option Addr} {cap6:Nat} (hA4:ArrQ μ 6 Rp58 ad1 cap2 css3 p0) (hA7:ArrM μ 1 (fK .i16) ad5 cap6 p2.Numbers):Calls Try.prog 5 #[sv ad1 p0 cap2,.int .u16 p1,.agg #[.int .u8 p2.Kind,.int .u32 p2.Time,.int .u8 p2.Sides.1,.int .u8 p2.Sides.2.1,.int .u8 p2.Sides.2.2,sv ad5 p2.Numbers cap6]] w0 (fun e w=>e=.returned (.bool res)∧Ext w0 w):=by
 obtain ⟨hlow,hS⟩:=hm.init
 have hext:=Frz.ext_refl w0.heap.size μ
 rw [H4] at h
 refine Ap Try.func5 rfl 126 [(0,sv ad1 p0 cap2),(1,.int .u16 p1),(2,.agg #[.int .u8 p2.Kind,.int .u32 p2.Time,.int .u8 p2.Sides.1,.int .u8 p2.Sides.2.1,.int .u8 p2.Sides.2.2,sv ad5 p2.Numbers cap6])] rfl rfl kr fun a w hw hF=>?_
 replace hS:=hS.cast hw
 clear hw
 refine esr ?_
 refine SK.wi (Gg (t:=58) (fun b8=>[(0,sv ad1 p0 cap2),(1,.int .u16 p1),(5,pb b8)]) (.agg #[.int .u8 p2.Kind,.int .u32 p2.Time,.int .u8 p2.Sides.1,.int .u8 p2.Sides.2.1,.int .u8 p2.Sides.2.2,sv ad5 p2.Numbers cap6]) #[.int .u8 p2.Kind,.int .u32 p2.Time,.int .u8 p2.Sides.1,.int .u8 p2.Sides.2.1,.int .u8 p2.Sides.2.2,sv ad5 p2.Numbers cap6] hF hS kr ⟨kr⟩ kr (fun _=>⟨kr⟩) fun b8 w a hF hS=>?_)
 refine rn 1 2 [(0,sv ad1 p0 cap2),(1,.int .u16 p1),(5,pb b8)] hF fun a hF=>?_
 refine wfn rfl ?_
 refine esr ?_
 refine rn 1 1 [(1,.int .u16 p1),(5,pb b8),(23,sv ad1 p0 cap2)] hF fun a hF=>?_
 replace h:=A5 h
 obtain ⟨a2,cY,h⟩:=h
 refine SK.wi (Bp (fun v9=>[(1,.int .u16 p1),(5,pb b8),(24,v9)]) hF kr ⟨kr⟩ (Tu F _ _ cY μ w (hS.frz (i:=1) rfl hlow) hA4) (fun _=>⟨kr⟩) ?_)
 rintro v9 w a ⟨ν11,a3,a1,bE,bG,rfl,aO,hQ⟩ hF
 replace hext:=Frz.ext_trans hext (Frz.ext_mono bG hS.ext.size)
 obtain ⟨hlow,hS⟩:=hS.frzMerge (i:=1) rfl hlow bG hQ
 replace hA4:=hA4.mono Rp58.mono bG.1
 replace hA7:=hA7.mono bG.1
 refine rn 5 7 [(1,.int .u16 p1),(5,pb b8),(7,sv a3 a2.1 a1),(8,.bool a2.2)] hF fun a hF=>?_
 refine wfn rfl ?_
 refine Ay ?_
 refine esr ?_
 refine rn 2 2 [(1,.int .u16 p1),(5,pb b8),(7,sv a3 a2.1 a1),(28,.bool (!a2.2))] hF fun a hF=>?_
 refine wfn rfl ?_
 refine Aq hF rfl (fun hc=>?_) (fun hc=>?_)
 ·replace h:=An h hc
  refine esr ?_
  replace h:=A5 h
  obtain ⟨bR,d2,h⟩:=h
  refine rx 2 [.call [] 8 #[] (.bool bR)] 2 [(6,.bool bR)] hF (A0 (show Ob.ok _ Ext _ _ from fun hk w2 hd=>Nm F  _ ((fun _=>d2) hk) _ w2 (A7 w2)) Aa) fun a w hF hx=>?_
  replace hS:=hS.later hx
  refine wfn rfl ?_
  refine wpIn_ret (Ab<|Aj [.tmp 6] [.bool bR] hF rfl ⟨rfl,trivial⟩ ?_)
  have hr_:=Option.some.inj h
  subst hr_
  exact ⟨rfl,hS.ext⟩
 ·replace h:=Am h hc
  refine wpIn_skip (A1 ?_)
  refine esr ?_
  refine rn 1 1 [(1,.int .u16 p1),(5,pb b8),(7,sv a3 a2.1 a1),(31,sv a3 a2.1 a1)] hF fun a hF=>?_
  replace h:=A5 h
  obtain ⟨a5,d3,h⟩:=h
  refine SK.wi (Bp (fun cB=>[(1,.int .u16 p1),(5,pb b8),(7,sv a3 a2.1 a1),(32,cB)]) hF kr ⟨kr⟩ (L9 F _ _ d3 (Bl w) w (A7 w) (ArrQ.of_own (hS.arr (i:=0) rfl) aO Rp46.mono (FrzAt.le_mem (hS.frz (i:=2) rfl hlow)))) (fun _=>⟨kr⟩) ?_)
  rintro cB w a ⟨a6,a4,rfl,hQ⟩ hF
  replace hS:=hS.madeL hQ
  refine rn 5 7 [(1,.int .u16 p1),(5,pb b8),(7,sv a3 a2.1 a1),(9,sv a6 a5.1 a4),(10,iv a5.2)] hF fun a hF=>?_
  refine wfn rfl ?_
  refine Ay ?_
  refine esr ?_
  refine rn 7 7 [(1,.int .u16 p1),(5,pb b8),(7,sv a3 a2.1 a1),(9,sv a6 a5.1 a4),(41,.bool (bif (a5.2 != 0) then true else (decide ((ln a5.1)<4))))] hF fun a hF=>?_
  refine wfn rfl ?_
  refine Aq hF rfl (fun hc=>?_) (fun hc=>?_)
  ·replace h:=An h hc
   refine esr ?_
   refine rn 1 1 [(6,.bool false)] hF fun a hF=>?_
   refine wfn rfl ?_
   refine wpIn_ret (Ab<|Aj [.tmp 6] [.bool false] hF rfl ⟨rfl,trivial⟩ ?_)
   have hr_:=Option.some.inj h
   subst hr_
   exact ⟨rfl,hS.ext⟩
  ·replace h:=Am h hc
   refine wpIn_skip (A1 ?_)
   refine esr ?_
   replace h:=A5 h
   obtain ⟨cG,cT,h⟩:=h
   replace h:=A5 h
   obtain ⟨cH,cU,h⟩:=h
   replace h:=A5 h
   obtain ⟨cI,cV,h⟩:=h
   replace h:=A5 h
   obtain ⟨a7,cW,h⟩:=h
   refine rno 8 [.run [] (convert 50 3 (.int .u16 p1)) (iv cG),.run [] (binOp .sub 3 (iv (ln a5.1)) (iv 3)) (iv cH),.run [] (binOp .rem 3 (iv cG) (iv cH)) (iv cI),.run [] (binOp .add 3 (iv 4) (iv cI)) (iv a7)] 8 [(5,pb b8),(7,sv a3 a2.1 a1),(9,sv a6 a5.1 a4),(11,iv a7)] hF (A0 (Jb kr kr (fun _=>cT)) (A0 (Jh (fun _=>cU)) (A0 (K1 (fun _=>cV)) (A0 (Aw (fun _=>cW)) Aa)))) fun a hF=>?_
   refine wfn rfl ?_
   refine esr ?_
   refine rn 2 2 [(5,pb b8),(7,sv a3 a2.1 a1),(9,sv a6 a5.1 a4),(11,iv a7),(12,iv 0),(13,iv 4)] hF fun a hF=>?_
   refine wfn rfl ?_
   refine Er (fun a w=>∃(a8:Int) (aE:Int),Fr 126 [] [(5,pb b8),(7,sv a3 a2.1 a1),(9,sv a6 a5.1 a4),(11,iv a7),(12,iv a8),(13,iv aE)] a∧St w0 [arrT 5 1 (fK .u8) a6 a5.1.length a4 a5.1,arr 46 21 (fN 21) a3 a2.1.length a1 bE,blk b8 58 #[.int .u8 p2.Kind,.int .u32 p2.Time,.int .u8 p2.Sides.1,.int .u8 p2.Sides.2.1,.int .u8 p2.Sides.2.2,sv ad5 p2.Numbers cap6],fz w0 ν11] w∧Ff F p2 a2 a5 a7 a8 aE=some res) ?_ ?_
   ·skip
    refine esr ?_
    refine rn 1 1 [(5,pb b8),(7,sv a3 a2.1 a1),(9,sv a6 a5.1 a4),(11,iv a7),(12,iv 0),(13,iv 4),(49,sv a3 a2.1 a1)] hF fun a hF=>?_
    replace h:=A5 h
    obtain ⟨aB,d6,h⟩:=h
    refine SK.wi (Bp (fun cE=>[(5,pb b8),(7,sv a3 a2.1 a1),(9,sv a6 a5.1 a4),(11,iv a7),(12,iv 0),(13,iv 4),(50,cE)]) hF kr ⟨kr⟩ (Qt F _ _ d6 (Bl w) w (A7 w) (ArrQ.of_own (hS.arr (i:=1) rfl) aO Rp46.mono (FrzAt.le_mem (hS.frz (i:=3) rfl hlow)))) (fun _=>⟨kr⟩) ?_)
    rintro cE w a ⟨aF,aI,rfl,hQ⟩ hF
    replace hS:=hS.madeL hQ
    refine rn 2 4 [(5,pb b8),(7,sv a3 a2.1 a1),(9,sv a6 a5.1 a4),(11,iv a7),(12,iv 0),(13,iv 4),(50,sv aF aB aI),(51,iv (ln aB)),(52,iv 0)] hF fun a hF=>?_
    refine wfn rfl ?_
    refine wpIn_block ?_
    refine Dw (fun n_ a w=>∃(aP:Int) (aQ:Int) (aC:Int),Fr 126 [] [(5,pb b8),(7,sv a3 a2.1 a1),(9,sv a6 a5.1 a4),(11,iv a7),(12,iv aP),(13,iv aQ),(50,sv aF aB aI),(51,iv (ln aB)),(52,iv aC)] a∧St w0 [arr 3 1 fI aF aB.length aI aB,arrT 5 1 (fK .u8) a6 a5.1.length a4 a5.1,arr 46 21 (fN 21) a3 a2.1.length a1 bE,blk b8 58 #[.int .u8 p2.Kind,.int .u32 p2.Time,.int .u8 p2.Sides.1,.int .u8 p2.Sides.2.1,.int .u8 p2.Sides.2.2,sv ad5 p2.Numbers cap6],fz w0 ν11] w∧Ec F p2 a2 a5 a7 aB n_ aP aQ aC=some res) F ⟨0,4,0,hF.sub kr,St.pick [0,1,2,3,4] (by decide) hS,h⟩ ?_
    rintro nk3 a w ⟨aP,aQ,aC,hF,hS,h⟩
    rcases nk3 with _|nk3
    ·cases (show (none:Option Bool)=some res from h)
    obtain ⟨k3,hk3⟩:∃k,k=Ec F p2 a2 a5 a7 aB nk3:=⟨_,rfl⟩
    replace h:Gx F p2 a2 a5 a7 aB k3 aP aQ aC=some res:=by rw [hk3];exact h
    rw [Gx] at h
    refine esr ?_
    refine rn 1 1 [(5,pb b8),(7,sv a3 a2.1 a1),(9,sv a6 a5.1 a4),(11,iv a7),(12,iv aP),(13,iv aQ),(50,sv aF aB aI),(51,iv (ln aB)),(52,iv aC),(53,.bool (decide (aC<(ln aB))))] hF fun a hF=>?_
    refine wfn rfl ?_
    refine Ay ?_
    refine Aq hF rfl (fun hc=>?_) (fun hc=>?_)
    ·replace h:=An h hc
     refine wpIn_skip (A1 ?_)
     refine Er (fun a w=>∃(b9:Int) (bA:Int),Fr 126 [] [(5,pb b8),(7,sv a3 a2.1 a1),(9,sv a6 a5.1 a4),(11,iv a7),(12,iv b9),(13,iv bA),(50,sv aF aB aI),(51,iv (ln aB)),(52,iv aC)] a∧St w0 [arr 3 1 fI aF aB.length aI aB,arrT 5 1 (fK .u8) a6 a5.1.length a4 a5.1,arr 46 21 (fN 21) a3 a2.1.length a1 bE,blk b8 58 #[.int .u8 p2.Kind,.int .u32 p2.Time,.int .u8 p2.Sides.1,.int .u8 p2.Sides.2.1,.int .u8 p2.Sides.2.2,sv ad5 p2.Numbers cap6],fz w0 ν11] w∧Eb aC k3 b9 bA=some res) ?_ ?_
     ·skip
      refine wpIn_block ?_
      refine esr ?_
      replace h:=A5 h
      obtain ⟨b0,c6,h⟩:=h
      refine rno 5 [.run [] (Instr.indexAt 51 (sv aF aB aI) (iv aC)) (.pointer (some (Al aF aC 1))),.run [] (Instr.loadAt 3 (.pointer (some (Al aF aC 1)))) (iv b0)] 5 [(5,pb b8),(7,sv a3 a2.1 a1),(9,sv a6 a5.1 a4),(11,iv a7),(12,iv aP),(13,iv aQ),(14,iv aC),(15,iv b0),(50,sv aF aB aI),(51,iv (ln aB)),(52,iv aC)] hF (A0 (Bj (hS.arr (i:=0) rfl) kr (fun _=>c6)) (A0 (Fs (i:=aC) 0 Ex (fun _ hd=>((hS.at_ hd).arr (i:=0) rfl)) kr (fun _=>c6) rfl) Aa)) fun a hF=>?_
      refine wfn rfl ?_
      refine esr ?_
      refine rn 3 3 [(5,pb b8),(7,sv a3 a2.1 a1),(9,sv a6 a5.1 a4),(11,iv a7),(12,iv aP),(13,iv aQ),(14,iv aC),(15,iv b0),(50,sv aF aB aI),(51,iv (ln aB)),(52,iv aC),(59,.bool (decide (b0≤a7)))] hF fun a hF=>?_
      refine wfn rfl ?_
      refine Aq hF rfl (fun hc=>?_) (fun hc=>?_)
      ·replace h:=An h hc
       refine WI.region ?_
       refine rn 4 4 [(5,pb b8),(7,sv a3 a2.1 a1),(9,sv a6 a5.1 a4),(11,iv a7),(12,iv aC),(13,iv b0),(50,sv aF aB aI),(51,iv (ln aB)),(52,iv aC)] hF fun a hF=>?_
       refine WI.fin rfl (Ac<|A1<|?_)
       exact ⟨aC,b0,hF.sub kr,St.pick [0,1,2,3,4] (by decide) hS,h⟩
      ·replace h:=Am h hc
       refine wpIn_skip (Ac<|A1<|?_)
       exact ⟨aP,aQ,hF.sub kr,St.pick [0,1,2,3,4] (by decide) hS,h⟩
     rintro a w ⟨b9,bA,hF,hS,h⟩
     rw [Eb] at h
     refine WI.region ?_
     replace h:=A5 h
     obtain ⟨bQ,cX,h⟩:=h
     refine rno 2 [.run [] (binOp .add 3 (iv aC) (iv 1)) (iv bQ)] 2 [(5,pb b8),(7,sv a3 a2.1 a1),(9,sv a6 a5.1 a4),(11,iv a7),(12,iv b9),(13,iv bA),(50,sv aF aB aI),(51,iv (ln aB)),(52,iv bQ)] hF (A0 (Aw (fun _=>cX)) Aa) fun a hF=>?_
     refine wfn rfl ?_
     rw [hk3] at h
     exact ⟨nk3,Nat.lt_succ_self _,b9,bA,bQ,hF.sub kr,St.pick [0,1,2,3,4] (by decide) hS,h⟩
    ·replace h:=Am h hc
     refine wpIn_exit (Ae<|Ae<|B8<|A1 ?_)
     exact ⟨aP,aQ,hF.sub kr,St.pick [1,2,3,4] (by decide) hS,h⟩
   rintro a w ⟨a8,aE,hF,hS,h⟩
   rw [Ff] at h
   refine esr ?_
   replace h:=A5 h
   obtain ⟨c8,c2,h⟩:=h
   refine rno 3 [.run [] (Instr.sliceAt 23 (sv a6 a5.1 a4) none (some (iv a7)) none) (.slice (Ak a6 a4 (0:Int).toNat 1) c8.length (a4-(0:Int).toNat))] 3 [(5,pb b8),(7,sv a3 a2.1 a1),(9,sv a6 a5.1 a4),(11,iv a7),(12,iv a8),(13,iv aE),(66,.slice (Ak a6 a4 (0:Int).toNat 1) c8.length (a4-(0:Int).toNat))] hF (A0 (Mb kr (hS.arrT_ (i:=0) rfl) (fun _=>c2)) Aa) fun a hF=>?_
   obtain ⟨ν65,bH,hlow,hS,dA⟩:=hS.freeze (i:=3) (j:=0) rfl rfl (by decide) hlow
   replace hA4:=hA4.mono Rp58.mono bH.1
   replace hA7:=hA7.mono bH.1
   replace aO:=All2.mono Rp46.mono bH.1 aO
   replace hext:=Frz.ext_trans hext bH
   have aJ:=ArrM.of_arrT dA
   replace h:=A5 h
   obtain ⟨aA,d7,h⟩:=h
   refine SK.wi (Bp (fun cF=>[(5,pb b8),(7,sv a3 a2.1 a1),(9,sv a6 a5.1 a4),(11,iv a7),(12,iv a8),(13,iv aE),(67,cF)]) hF kr ⟨kr⟩ (Fi F _ _ d7 ν65 w (hS.frz (i:=2) rfl hlow) (fun w_ hw_=>((aJ w_ hw_).cutD (C6 .u8) c2))) (fun _=>⟨kr⟩) ?_)
   rintro cF w a ⟨ν71,aK,aL,bL,aY,rfl,aW,hQ⟩ hF
   replace hext:=Frz.ext_trans hext (Frz.ext_mono aY hS.ext.size)
   obtain ⟨hlow,hS⟩:=hS.frzMerge (i:=2) rfl hlow aY hQ
   replace hA4:=hA4.mono Rp58.mono aY.1
   replace hA7:=hA7.mono aY.1
   replace aO:=All2.mono Rp46.mono aY.1 aO
   replace aJ:=aJ.mono aY.1
   refine rn 7 11 [(5,pb b8),(7,sv a3 a2.1 a1),(9,sv a6 a5.1 a4),(10,iv aA.2.2),(11,iv a7),(12,iv a8),(13,iv aE),(16,sv aK aA.1 aL),(17,iv aA.2.1)] hF fun a hF=>?_
   refine wfn rfl ?_
   refine esr ?_
   refine rn 1 1 [(5,pb b8),(7,sv a3 a2.1 a1),(9,sv a6 a5.1 a4),(10,iv aA.2.2),(11,iv a7),(12,iv a8),(13,iv aE),(16,sv aK aA.1 aL),(17,iv aA.2.1),(18,iv 16)] hF fun a hF=>?_
   refine wfn rfl ?_
   refine Er (fun a w=>∃(bB:Int),Fr 126 [] [(5,pb b8),(7,sv a3 a2.1 a1),(9,sv a6 a5.1 a4),(10,iv aA.2.2),(11,iv a7),(12,iv a8),(13,iv aE),(16,sv aK aA.1 aL),(17,iv aA.2.1),(18,iv bB)] a∧St w0 [arr 46 21 (fN 21) aK aA.1.length aL bL,arr 46 21 (fN 21) a3 a2.1.length a1 bE,blk b8 58 #[.int .u8 p2.Kind,.int .u32 p2.Time,.int .u8 p2.Sides.1,.int .u8 p2.Sides.2.1,.int .u8 p2.Sides.2.2,sv ad5 p2.Numbers cap6],fz w0 ν71] w∧Ea F p2 a2 a5 a7 a8 aE aA bB=some res) ?_ ?_
   ·skip
    refine esr ?_
    refine rn 3 3 [(5,pb b8),(7,sv a3 a2.1 a1),(9,sv a6 a5.1 a4),(10,iv aA.2.2),(11,iv a7),(12,iv a8),(13,iv aE),(16,sv aK aA.1 aL),(17,iv aA.2.1),(18,iv 16),(73,.bool (aE==a7))] hF fun a hF=>?_
    refine wfn rfl ?_
    refine Aq hF rfl (fun hc=>?_) (fun hc=>?_)
    ·replace h:=An h hc
     refine WI.region ?_
     refine rn 1 1 [(5,pb b8),(7,sv a3 a2.1 a1),(9,sv a6 a5.1 a4),(10,iv aA.2.2),(11,iv a7),(12,iv a8),(13,iv aE),(16,sv aK aA.1 aL),(17,iv aA.2.1),(18,iv 0)] hF fun a hF=>?_
     refine wfn rfl ?_
     exact ⟨0,hF.sub kr,St.pick [0,1,2,3] (by decide) hS,h⟩
    ·replace h:=Am h hc
     refine wpIn_skip (A1 ?_)
     exact ⟨16,hF.sub kr,St.pick [0,1,2,3] (by decide) hS,h⟩
   rintro a w ⟨bB,hF,hS,h⟩
   rw [Ea] at h
   refine Ay ?_
   refine Ay ?_
   obtain ⟨ν78,aZ,hlow,hS,dB⟩:=hS.freeze (i:=3) (j:=1) rfl rfl (by decide) hlow
   replace hA4:=hA4.mono Rp58.mono aZ.1
   replace hA7:=hA7.mono aZ.1
   replace aO:=All2.mono Rp46.mono aZ.1 aO
   replace aJ:=aJ.mono aZ.1
   replace aW:=All2.mono Rp46.mono aZ.1 aW
   replace hext:=Frz.ext_trans hext aZ
   have aM:=ArrQ.of_arr (l:=a2.1) dB aO Rp46.mono (Frz.le_refl _)
   refine WI.region ?_
   refine rn 9 9 [(5,pb b8),(7,sv a3 a2.1 a1),(9,sv a6 a5.1 a4),(11,iv a7),(12,iv a8),(16,sv aK aA.1 aL),(82,.bool (bif (aA.2.2 != bB) then true else (aA.2.1 != aE)))] hF fun a hF=>?_
   rcases Bool.eq_false_or_eq_true ((bif (aA.2.2 != bB) then true else (aA.2.1 != aE))) with b5|b5
   ·replace h:=An h b5
    rw [b5] at hF
    refine F6 10 [(5,pb b8),(7,sv a3 a2.1 a1),(9,sv a6 a5.1 a4),(11,iv a7),(12,iv a8),(82,.bool true),(83,undef)] hF kr ⟨kr⟩ ⟨kr⟩ rfl fun a hF=>?_
    refine F6 11 [(5,pb b8),(7,sv a3 a2.1 a1),(9,sv a6 a5.1 a4),(11,iv a7),(12,iv a8),(82,.bool true),(83,undef),(84,undef)] hF kr ⟨kr⟩ ⟨kr⟩ rfl fun a hF=>?_
    refine F6 12 [(5,pb b8),(7,sv a3 a2.1 a1),(9,sv a6 a5.1 a4),(11,iv a7),(12,iv a8),(82,.bool true),(83,undef),(84,undef),(85,undef)] hF kr ⟨kr⟩ ⟨kr⟩ rfl fun a hF=>?_
    refine F6 13 [(5,pb b8),(7,sv a3 a2.1 a1),(9,sv a6 a5.1 a4),(11,iv a7),(12,iv a8),(82,.bool true),(83,undef),(86,undef)] hF kr ⟨kr⟩ ⟨kr⟩ rfl fun a hF=>?_
    refine F6 14 [(5,pb b8),(7,sv a3 a2.1 a1),(9,sv a6 a5.1 a4),(11,iv a7),(12,iv a8),(82,.bool true),(87,undef)] hF kr ⟨kr⟩ ⟨kr⟩ rfl fun a hF=>?_
    refine F6 15 [(5,pb b8),(7,sv a3 a2.1 a1),(9,sv a6 a5.1 a4),(11,iv a7),(12,iv a8),(82,.bool true),(88,undef)] hF kr ⟨kr⟩ ⟨kr⟩ rfl fun a hF=>?_
    refine rn 1 16 [(5,pb b8),(7,sv a3 a2.1 a1),(9,sv a6 a5.1 a4),(11,iv a7),(12,iv a8),(89,.bool true)] hF fun a hF=>?_
    refine wfn rfl ?_
    refine wpIn_cond_true (hF.get rfl) ?_
    refine esr ?_
    refine rn 1 1 [(6,.bool false)] hF fun a hF=>?_
    refine wfn rfl ?_
    refine wpIn_ret (Ab<|Aj [.tmp 6] [.bool false] hF rfl ⟨rfl,trivial⟩ ?_)
    have hr_:=Option.some.inj h
    subst hr_
    exact ⟨rfl,hS.ext⟩
   ·replace h:=Am h b5
    rw [b5] at hF
    replace h:=A5 h
    obtain ⟨bI,c3,h⟩:=h
    obtain ⟨cL,cP,cS⟩:=U7 aM.2 c3
    have b4:ArrQ ν78 21 Rp46 (Ak a3 a1 (0:Int).toNat 21) (a1-(0:Int).toNat) cL bI:=⟨fun w_ hw_=>(aM.1 w_ hw_).cutD (E5 21) cP,cS⟩
    replace h:=A5 h
    obtain ⟨cJ,d8,h⟩:=h
    refine rx 7 [.run [⟨82,false,false⟩] (Instr.sliceAt 24 (sv a3 a2.1 a1) none (some (iv a8)) none) (.slice (Ak a3 a1 (0:Int).toNat 21) bI.length (a1-(0:Int).toNat)),.call [⟨82,false,false⟩] 11 #[sv aK aA.1 aL,.slice (Ak a3 a1 (0:Int).toNat 21) bI.length (a1-(0:Int).toNat)] (.bool cJ)] 16 [(5,pb b8),(7,sv a3 a2.1 a1),(9,sv a6 a5.1 a4),(11,iv a7),(12,iv a8),(89,.bool (!cJ))] hF (A0 (Mb kr (aM.at (hS.frz (i:=2) rfl hlow)) (fun _=>c3)) (A0 (show Ob.ok _ Ext _ _ from fun hk w2 hd=>S6 F aA.1 bI _ ((fun _=>d8) hk) _ w2 (A7 w2) (ArrQ.of_own ((hS.later hd).arr (i:=0) rfl) aW Rp46.mono (FrzAt.le_mem ((hS.later hd).frz (i:=2) rfl hlow))) (b4.mono Rp46.mono (FrzAt.le_mem ((hS.later hd).frz (i:=2) rfl hlow)))) Aa)) fun a w hF hx=>?_
    replace hS:=hS.later hx
    refine wfn rfl ?_
    refine Aq hF rfl (fun hc=>?_) (fun hc=>?_)
    ·replace h:=An h hc
     refine esr ?_
     refine rn 1 1 [(6,.bool false)] hF fun a hF=>?_
     refine wfn rfl ?_
     refine wpIn_ret (Ab<|Aj [.tmp 6] [.bool false] hF rfl ⟨rfl,trivial⟩ ?_)
     have hr_:=Option.some.inj h
     subst hr_
     exact ⟨rfl,hS.ext⟩
    ·replace h:=Am h hc
     refine wpIn_skip (A1 ?_)
     refine Ay ?_
     replace h:=A5 h
     obtain ⟨bJ,c4,h⟩:=h
     replace h:=A5 h
     obtain ⟨dH,d9,h⟩:=h
     replace h:=A5 h
     obtain ⟨a9,cZ,h⟩:=h
     refine Cl 11 [4,5] _ (D:=fun w=>St w0 [arr 46 21 (fN 21) aK aA.1.length aL bL,blk b8 58 #[.int .u8 p2.Kind,.int .u32 p2.Time,.int .u8 p2.Sides.1,.int .u8 p2.Sides.2.1,.int .u8 p2.Sides.2.2,sv ad5 p2.Numbers cap6]] w∧FrzAt ν78 w) kr kr hF.size (fun w hx=>?_) (fun _ _ h=>h)
     replace hS:=hS.later hx
     refine ⟨⟨St.pick [0,1] (by decide) hS,hS.frz (i:=2) rfl hlow⟩,?_⟩
     have bF:=Frz.le_refl ν78
     have b2:ArrM ν78 1 (fK .u8) (Ak a6 a4 (0:Int).toNat 1) (a4-(0:Int).toNat) bJ:=fun w_ hw_=>(aJ w_ hw_).cutD (C6 .u8) c4
     refine WT.s [0,1,2,3] [4] kr kr ?_
     refine E4 (rest:=[]) (obs:=[.run [] (Instr.sliceAt 23 (sv a6 a5.1 a4) none (some (iv a7)) none) (.slice (Ak a6 a4 (0:Int).toNat 1) bJ.length (a4-(0:Int).toNat)),.run [] (Instr.loadAt 58 (pb b8)) (.agg #[.int .u8 p2.Kind,.int .u32 p2.Time,.int .u8 p2.Sides.1,.int .u8 p2.Sides.2.1,.int .u8 p2.Sides.2.2,sv ad5 p2.Numbers cap6])]) [0,1,2,3] [(5,pb b8),(7,sv a3 a2.1 a1),(12,iv a8),(93,.slice (Ak a6 a4 (0:Int).toNat 1) bJ.length (a4-(0:Int).toNat)),(94,.agg #[.int .u8 p2.Kind,.int .u32 p2.Time,.int .u8 p2.Sides.1,.int .u8 p2.Sides.2.1,.int .u8 p2.Sides.2.2,sv ad5 p2.Numbers cap6])] hF kr kr (A0 (Mb kr (aJ _ (hS.frz (i:=2) rfl hlow)) (fun _=>c4)) (A0 (obN (us:=[.int .u8 p2.Kind,.int .u32 p2.Time,.int .u8 p2.Sides.1,.int .u8 p2.Sides.2.1,.int .u8 p2.Sides.2.2,sv ad5 p2.Numbers cap6]) kr (fun _ hd=>(hd.1.blk (i:=1) rfl).cells rfl)) Aa)) ⟨kr⟩ fun a hF=>?_
     refine WRun.fin ?_
     refine all_cons ?_ (Au)
     refine Bp (fun c9=>[(5,pb b8),(7,sv a3 a2.1 a1),(12,iv a8),(93,.slice (Ak a6 a4 (0:Int).toNat 1) bJ.length (a4-(0:Int).toNat)),(95,c9)]) hF kr ⟨kr⟩ (J1 F _ _ d9 ν78 w (hS.frz (i:=2) rfl hlow) hA7) (fun _=>⟨kr⟩) ?_
     rintro c9 w a ⟨ν123,dC,dE,dG,dD,dF,aN,rfl,bM,bN,hQ⟩ hF
     replace hext:=Frz.ext_trans hext (Frz.ext_mono aN hS.ext.size)
     obtain ⟨hlow,hS⟩:=hS.frzMerge (i:=2) rfl hlow aN hQ
     replace hA4:=hA4.mono Rp58.mono aN.1
     replace hA7:=hA7.mono aN.1
     replace aJ:=aJ.mono aN.1
     replace aW:=All2.mono Rp46.mono aN.1 aW
     replace aM:=aM.mono Rp46.mono aN.1
     replace b4:=b4.mono Rp46.mono aN.1
     replace b2:=b2.mono aN.1
     replace bF:=Frz.le_trans bF aN.1
     refine ⟨⟨St.pick [0,1] (by decide) hS,(hS.frz (i:=2) rfl hlow).low bF⟩,?_⟩
     refine WT.s [] [5] kr kr ?_
     refine WRun.fin ?_
     refine all_cons ?_ (Au)
     refine Bp (fun cA=>[(5,pb b8),(7,sv a3 a2.1 a1),(12,iv a8),(96,cA)]) hF kr ⟨kr⟩ (R2 F _ _ _ cZ (Bl w) w (A7 w) (b2.mono (FrzAt.le_mem (hS.frz (i:=2) rfl hlow))) (bM.mono Rp83.mono (FrzAt.le_mem (hS.frz (i:=2) rfl hlow))) (bN.mono (FrzAt.le_mem (hS.frz (i:=2) rfl hlow)))) (fun _=>⟨kr⟩) ?_
     rintro cA w a ⟨aG,aH,rfl,hQ⟩ hF
     replace hS:=hS.madeL hQ
     refine ⟨⟨St.pick [1,2] (by decide) hS,(hS.frz (i:=3) rfl hlow).low bF⟩,?_⟩
     refine WT.z [6,7,8,9,10] kr ?_
     refine E4 (rest:=[]) (obs:=[]) [6,7,8,9,10] [(5,pb b8),(7,sv a3 a2.1 a1),(10,iv a9.2),(12,iv a8),(19,sv aG a9.1 aH)] hF kr kr Aa ⟨kr⟩ fun a hF=>?_
     refine WRun.fin ?_
     refine wfn rfl ?_
     refine Ay ?_
     replace h:=A5 h
     obtain ⟨b6,bZ,h⟩:=h
     replace h:=A5 h
     obtain ⟨b7,c0,h⟩:=h
     replace h:=A5 h
     obtain ⟨a0,d0,h⟩:=h
     replace h:=A5 h
     obtain ⟨c7,c1,h⟩:=h
     replace h:=A5 h
     obtain ⟨aR,d1,h⟩:=h
     refine Cl 15 [0,4,6,7,8,9] _ (D:=fun w=>St w0 [arr 5 1 (fK .u8) aG a9.1.length aH a9.1,arr 46 21 (fN 21) aK aA.1.length aL bL,blk b8 58 #[.int .u8 p2.Kind,.int .u32 p2.Time,.int .u8 p2.Sides.1,.int .u8 p2.Sides.2.1,.int .u8 p2.Sides.2.2,sv ad5 p2.Numbers cap6]] w∧FrzAt ν123 w) kr kr hF.size (fun w hx=>?_) (fun _ _ h=>h)
     replace hS:=hS.later hx
     refine ⟨⟨St.pick [0,1,2] (by decide) hS,hS.frz (i:=3) rfl hlow⟩,?_⟩
     have aX:=Frz.le_refl ν123
     obtain ⟨b1,cO,cQ⟩:=U7 aM.2 bZ
     have b3:ArrQ ν123 21 Rp46 (Ak a3 a1 (0:Int).toNat 21) (a1-(0:Int).toNat) b1 b6:=⟨fun w_ hw_=>(aM.1 w_ hw_).cutD (E5 21) cO,cQ⟩
     refine WT.s [1,2,3,5] [0] kr kr ?_
     refine E4 (rest:=[]) (obs:=[.run [] (Instr.sliceAt 24 (sv a3 a2.1 a1) none (some (iv a8)) none) (.slice (Ak a3 a1 (0:Int).toNat 21) b6.length (a1-(0:Int).toNat)),.run [] (Instr.loadAt 58 (pb b8)) (.agg #[.int .u8 p2.Kind,.int .u32 p2.Time,.int .u8 p2.Sides.1,.int .u8 p2.Sides.2.1,.int .u8 p2.Sides.2.2,sv ad5 p2.Numbers cap6])]) [1,2,3,5] [(10,iv a9.2),(19,sv aG a9.1 aH),(103,.slice (Ak a3 a1 (0:Int).toNat 21) b6.length (a1-(0:Int).toNat)),(105,.agg #[.int .u8 p2.Kind,.int .u32 p2.Time,.int .u8 p2.Sides.1,.int .u8 p2.Sides.2.1,.int .u8 p2.Sides.2.2,sv ad5 p2.Numbers cap6])] hF kr kr (A0 (Mb kr (aM.at (hS.frz (i:=3) rfl hlow)) (fun _=>bZ)) (A0 (obN (us:=[.int .u8 p2.Kind,.int .u32 p2.Time,.int .u8 p2.Sides.1,.int .u8 p2.Sides.2.1,.int .u8 p2.Sides.2.2,sv ad5 p2.Numbers cap6]) kr (fun _ hd=>(hd.1.blk (i:=2) rfl).cells rfl)) Aa)) ⟨kr⟩ fun a hF=>?_
     refine WRun.fin ?_
     refine all_cons ?_ (Au)
     have bO:All2 (Rp46 ν123) ([]:List (List Value)) ([]:List volume_Item):=All2.nil
     refine R9 (e:=46) (sz:=21) (f:=fN 21) (t:=24) (len:=0) (fun bV=>[(10,iv a9.2),(19,sv aG a9.1 aH),(100,sb bV 0),(103,.slice (Ak a3 a1 (0:Int).toNat 21) b6.length (a1-(0:Int).toNat)),(105,.agg #[.int .u8 p2.Kind,.int .u32 p2.Time,.int .u8 p2.Sides.1,.int .u8 p2.Sides.2.1,.int .u8 p2.Sides.2.2,sv ad5 p2.Numbers cap6])]) #[] #[] ([]:List (List Value)) ([]:List volume_Item) hF hS kr ⟨kr⟩ kr (E5 21) rfl rfl rfl kr (fun _=>⟨kr⟩) fun bV w a hF hS=>⟨⟨St.pick [1,2,3] (by decide) hS,(hS.frz (i:=4) rfl hlow)⟩,?_⟩
     refine WT.s [] [4] kr kr ?_
     refine WRun.fin ?_
     refine all_cons ?_ (Au)
     have bP:All2 (Rp46 ν123) (([]:List (List Value))++b1) b7:=by rw [(J2 c0).1];exact All2.app bO b3.2
     refine Rr (t:=24) (ty:=24) (bytes:=224) (c:=([]:List (List Value))) (c':=b1) (l:=([]:List volume_Item)) (l':=b6) (fun bC bD=>[(10,iv a9.2),(19,sv aG a9.1 aH),(104,sv bC b7 bD),(105,.agg #[.int .u8 p2.Kind,.int .u32 p2.Time,.int .u8 p2.Sides.1,.int .u8 p2.Sides.2.1,.int .u8 p2.Sides.2.2,sv ad5 p2.Numbers cap6])]) 0 hF hS rfl kr ⟨kr⟩ kr (b3.at (hS.frz (i:=4) rfl hlow)) (ArrQ.one b3.2 Rp46.one) c0 (fun _ _=>⟨kr⟩) fun bC bD w a hF hS=>⟨⟨St.pick [1,2,3] (by decide) hS,(hS.frz (i:=4) rfl hlow)⟩,?_⟩
     refine WT.s [] [6] kr kr ?_
     refine WRun.fin ?_
     refine all_cons ?_ (Au)
     refine Bp (fun cC=>[(10,iv a9.2),(19,sv aG a9.1 aH),(104,sv bC b7 bD),(106,cC)]) hF kr ⟨kr⟩ (J1 F _ _ d0 ν123 w (hS.frz (i:=4) rfl hlow) hA7) (fun _=>⟨kr⟩) ?_
     rintro cC w a ⟨ν210,aS,aU,cK,aT,aV,aD,rfl,cM,cN,hQ⟩ hF
     replace hext:=Frz.ext_trans hext (Frz.ext_mono aD hS.ext.size)
     obtain ⟨hlow,hS⟩:=hS.frzMerge (i:=4) rfl hlow aD hQ
     replace hA4:=hA4.mono Rp58.mono aD.1
     replace hA7:=hA7.mono aD.1
     replace aJ:=aJ.mono aD.1
     replace aW:=All2.mono Rp46.mono aD.1 aW
     replace aM:=aM.mono Rp46.mono aD.1
     replace b4:=b4.mono Rp46.mono aD.1
     replace b2:=b2.mono aD.1
     replace bM:=bM.mono Rp83.mono aD.1
     replace bN:=bN.mono aD.1
     replace b3:=b3.mono Rp46.mono aD.1
     replace bO:=All2.mono Rp46.mono aD.1 bO
     replace bP:=All2.mono Rp46.mono aD.1 bP
     replace aX:=Frz.le_trans aX aD.1
     refine ⟨⟨St.pick [1,2,3] (by decide) hS,(hS.frz (i:=4) rfl hlow).low aX⟩,?_⟩
     refine WT.s [] [7] kr kr ?_
     refine WRun.fin ?_
     refine all_cons ?_ (Au)
     have c5:All2 (Rp46 ν210) ([[iv a0.Kind,.string a0.Name,iv a0.Time,.string a0.Sweep.Site.Name,iv a0.Sweep.Site.X,iv a0.Sweep.Site.Y,iv a0.Sweep.Site.Z,iv a0.Sweep.Site.Rose,iv a0.Sweep.Site.Gates,iv a0.Sweep.Site.Step,iv a0.Sweep.Site.Width,iv a0.Sweep.Tilt,iv a0.Sweep.Time,sv aS a0.Sweep.Rays aU,iv a0.Field.Grid.X,iv a0.Field.Grid.Y,iv a0.Field.Grid.Size,iv a0.Field.Grid.Wide,iv a0.Field.Grid.High,sv aT a0.Field.Vals aV,.string a0.Text]]:List (List Value)) [a0]:=(All2.cons ⟨aS,aU,cK,aT,aV,rfl,cM,cN⟩ All2.nil)
     refine R9 (e:=46) (sz:=21) (f:=fN 21) (t:=24) (len:=1) (fun bW=>[(10,iv a9.2),(19,sv aG a9.1 aH),(104,sv bC b7 bD),(107,sb bW 1)]) #[(0,.agg #[iv a0.Kind,.string a0.Name,iv a0.Time,.string a0.Sweep.Site.Name,iv a0.Sweep.Site.X,iv a0.Sweep.Site.Y,iv a0.Sweep.Site.Z,iv a0.Sweep.Site.Rose,iv a0.Sweep.Site.Gates,iv a0.Sweep.Site.Step,iv a0.Sweep.Site.Width,iv a0.Sweep.Tilt,iv a0.Sweep.Time,sv aS a0.Sweep.Rays aU,iv a0.Field.Grid.X,iv a0.Field.Grid.Y,iv a0.Field.Grid.Size,iv a0.Field.Grid.Wide,iv a0.Field.Grid.High,sv aT a0.Field.Vals aV,.string a0.Text])] #[iv a0.Kind,.string a0.Name,iv a0.Time,.string a0.Sweep.Site.Name,iv a0.Sweep.Site.X,iv a0.Sweep.Site.Y,iv a0.Sweep.Site.Z,iv a0.Sweep.Site.Rose,iv a0.Sweep.Site.Gates,iv a0.Sweep.Site.Step,iv a0.Sweep.Site.Width,iv a0.Sweep.Tilt,iv a0.Sweep.Time,sv aS a0.Sweep.Rays aU,iv a0.Field.Grid.X,iv a0.Field.Grid.Y,iv a0.Field.Grid.Size,iv a0.Field.Grid.Wide,iv a0.Field.Grid.High,sv aT a0.Field.Vals aV,.string a0.Text] ([[iv a0.Kind,.string a0.Name,iv a0.Time,.string a0.Sweep.Site.Name,iv a0.Sweep.Site.X,iv a0.Sweep.Site.Y,iv a0.Sweep.Site.Z,iv a0.Sweep.Site.Rose,iv a0.Sweep.Site.Gates,iv a0.Sweep.Site.Step,iv a0.Sweep.Site.Width,iv a0.Sweep.Tilt,iv a0.Sweep.Time,sv aS a0.Sweep.Rays aU,iv a0.Field.Grid.X,iv a0.Field.Grid.Y,iv a0.Field.Grid.Size,iv a0.Field.Grid.Wide,iv a0.Field.Grid.High,sv aT a0.Field.Vals aV,.string a0.Text]]:List (List Value)) ([a0]) hF hS kr ⟨kr⟩ kr (E5 21) rfl rfl rfl kr (fun _=>⟨kr⟩) fun bW w a hF hS=>⟨⟨St.pick [2,3,4] (by decide) hS,(hS.frz (i:=5) rfl hlow).low aX⟩,?_⟩
     refine WT.s [] [8] kr kr ?_
     refine WRun.fin ?_
     refine all_cons ?_ (Au)
     have cR:All2 (Rp46 ν210) ((([]:List (List Value))++b1)++([[iv a0.Kind,.string a0.Name,iv a0.Time,.string a0.Sweep.Site.Name,iv a0.Sweep.Site.X,iv a0.Sweep.Site.Y,iv a0.Sweep.Site.Z,iv a0.Sweep.Site.Rose,iv a0.Sweep.Site.Gates,iv a0.Sweep.Site.Step,iv a0.Sweep.Site.Width,iv a0.Sweep.Tilt,iv a0.Sweep.Time,sv aS a0.Sweep.Rays aU,iv a0.Field.Grid.X,iv a0.Field.Grid.Y,iv a0.Field.Grid.Size,iv a0.Field.Grid.Wide,iv a0.Field.Grid.High,sv aT a0.Field.Vals aV,.string a0.Text]]:List (List Value))) c7:=by rw [(J2 c1).1];exact All2.app bP c5
     refine Rr (t:=24) (ty:=24) (bytes:=224) (c:=(([]:List (List Value))++b1)) (c':=([[iv a0.Kind,.string a0.Name,iv a0.Time,.string a0.Sweep.Site.Name,iv a0.Sweep.Site.X,iv a0.Sweep.Site.Y,iv a0.Sweep.Site.Z,iv a0.Sweep.Site.Rose,iv a0.Sweep.Site.Gates,iv a0.Sweep.Site.Step,iv a0.Sweep.Site.Width,iv a0.Sweep.Tilt,iv a0.Sweep.Time,sv aS a0.Sweep.Rays aU,iv a0.Field.Grid.X,iv a0.Field.Grid.Y,iv a0.Field.Grid.Size,iv a0.Field.Grid.Wide,iv a0.Field.Grid.High,sv aT a0.Field.Vals aV,.string a0.Text]]:List (List Value))) (l:=b7) (l':=([a0])) (fun bT bX=>[(10,iv a9.2),(19,sv aG a9.1 aH),(108,sv bT c7 bX)]) 1 hF hS rfl kr ⟨kr⟩ kr (hS.arr (i:=0) rfl) (ArrQ.one c5 Rp46.one) c1 (fun _ _=>⟨kr⟩) fun bT bX w a hF hS=>⟨⟨St.pick [2,3,4] (by decide) hS,(hS.frz (i:=5) rfl hlow).low aX⟩,?_⟩
     refine WT.s [] [9] kr kr ?_
     refine WRun.fin ?_
     refine all_cons ?_ (Au)
     refine Bp (fun cD=>[(10,iv a9.2),(19,sv aG a9.1 aH),(109,cD)]) hF kr ⟨kr⟩ (L9 F _ _ d1 (Bl w) w (A7 w) (ArrQ.of_own (hS.arr (i:=1) rfl) cR Rp46.mono (FrzAt.le_mem (hS.frz (i:=5) rfl hlow)))) (fun _=>⟨kr⟩) ?_
     rintro cD w a ⟨bU,bY,rfl,hQ⟩ hF
     replace hS:=hS.madeL hQ
     refine ⟨⟨St.pick [3,4,5] (by decide) hS,(hS.frz (i:=6) rfl hlow).low aX⟩,?_⟩
     refine WT.z [10,11,12,13,14] kr ?_
     refine E4 (rest:=[]) (obs:=[]) [10,11,12,13,14] [(10,iv a9.2),(19,sv aG a9.1 aH),(20,sv bU aR.1 bY),(21,iv aR.2)] hF kr kr Aa ⟨kr⟩ fun a hF=>?_
     refine WRun.fin ?_
     refine wfn rfl ?_
     refine esr ?_
     replace h:=A5 h
     obtain ⟨bK,d4,h⟩:=h
     replace h:=A5 h
     obtain ⟨bS,d5,h⟩:=h
     refine rx 15 [.call [⟨118,true,(bif (a9.2==0) then (aR.2==0) else false)⟩] 12 #[sv aG a9.1 aH,sv bU aR.1 bY] (.bool bK),.call [⟨123,true,(bif (bif (a9.2==0) then (aR.2==0) else false) then bK else false)⟩] 8 #[] (.bool bS)] 15 [(6,.bool (bif (bif (bif (a9.2==0) then (aR.2==0) else false) then bK else false) then bS else false))] hF (A0 (show Ob.ok _ Ext _ _ from fun hk w2 hd=>Lp F a9.1 aR.1 _ ((fun hk=>Gv d4 hk) hk) _ w2 (A7 w2) (Arr.toM ((hS.later hd).arr (i:=3) rfl)) (Arr.toM ((hS.later hd).arrT_ (i:=0) rfl))) (A0 (show Ob.ok _ Ext _ _ from fun hk w2 hd=>Nm F  _ ((fun hk=>Gv d5 hk) hk) _ w2 (A7 w2)) Aa)) fun a w hF hx=>?_
     replace hS:=hS.later hx
     refine wfn rfl ?_
     refine wpIn_ret (Aj [.tmp 6] [.bool (bif (bif (bif (a9.2==0) then (aR.2==0) else false) then bK else false) then bS else false)] hF rfl ⟨rfl,trivial⟩ ?_)
     have hr_:=Option.some.inj h
     subst hr_
     exact ⟨rfl,hS.ext⟩
end Go.Proofs.Ytifbomimeodibaa
