import Derived.Test.YtifbomimeodibaaV4XD
import Derived.Test.YtifbomimeodibaaProg
import Derived.Test.YtifbomimeodibaaV4XW3
import Derived.Test.YtifbomimeodibaaV4XW7
import Derived.Test.YtifbomimeodibaaV4XW11
import Derived.Test.YtifbomimeodibaaV4XW12
import Derived.Test.YtifbomimeodibaaV4XW13
namespace Go.Proofs.Ytifbomimeodibaa
open Go Go.RowKit Go.Eng
set_option maxRecDepth 10000
set_option maxHeartbeats 4000000
set_option linter.unusedVariables false
set_option linter.unusedSimpArgs false
theorem N8 (F:Nat) (p0:(List law12_Thing)) (p1:Int) (p2:Int) (res:Bool) (h:Fa F p0 p1 p2=some res) (μ:Frz) (w0:World) (hm:FrzAt μ w0) {ad1:Option Addr} {cap2:Nat} {css3:List (List Value)} (hA4:ArrQ μ 6 Rp58 ad1 cap2 css3 p0):Calls Try.prog 4 #[sv ad1 p0 cap2,.int .u16 p1,.int .u8 p2] w0 (fun e w=>e=.returned (.bool res)∧Ext w0 w):=by
 obtain ⟨hlow,hS⟩:=hm.init
 have hext:=Frz.ext_refl w0.heap.size μ
 rw [Fa] at h
 refine Aq Try.func4 rfl 221 [(0,sv ad1 p0 cap2),(1,.int .u16 p1),(2,.int .u8 p2)] rfl rfl kr fun a w hw hF=>?_
 replace hS:=hS.cast hw
 clear hw
 refine esr ?_
 refine rn 1 1 [(0,sv ad1 p0 cap2),(1,.int .u16 p1),(2,.int .u8 p2)] hF fun a hF=>?_
 refine wfn rfl ?_
 refine esr ?_
 refine rn 1 1 [(1,.int .u16 p1),(2,.int .u8 p2),(25,sv ad1 p0 cap2)] hF fun a hF=>?_
 replace h:=A4 h
 obtain ⟨y6,hy6,h⟩:=h
 refine SK.wi (Bz (fun v5=>[(1,.int .u16 p1),(2,.int .u8 p2),(26,v5)]) hF kr ⟨kr⟩ (U8 F _ _ hy6 μ w (hS.frz (i:=0) rfl hlow) hA4) (fun _=>⟨kr⟩) ?_)
 rintro v5 w a ⟨ν7,ad9,a1,bU,hx8,rfl,aI,hQ⟩ hF
 replace hext:=Frz.ext_trans hext (Frz.ext_mono hx8 hS.ext.size)
 obtain ⟨hlow,hS⟩:=hS.frzMerge (i:=0) rfl hlow hx8 hQ
 replace hA4:=hA4.mono Rp58.mono hx8.1
 refine rn 5 7 [(1,.int .u16 p1),(2,.int .u8 p2),(7,sv ad9 y6.1 a1),(8,.bool y6.2)] hF fun a hF=>?_
 refine wfn rfl ?_
 refine B0 ?_
 refine esr ?_
 refine rn 2 2 [(1,.int .u16 p1),(2,.int .u8 p2),(7,sv ad9 y6.1 a1),(30,.bool (!y6.2))] hF fun a hF=>?_
 refine wfn rfl ?_
 refine As hF rfl (fun hc=>?_) (fun hc=>?_)
 ·replace h:=Ao h hc
  refine esr ?_
  replace h:=A4 h
  obtain ⟨c6,eB,h⟩:=h
  refine rx 2 [.call [] 8 #[] (.bool c6)] 2 [(6,.bool c6)] hF (A0 (show Ob.ok _ Ext _ _ from fun hk w2 hd=>Nw F  _ ((fun _=>eB) hk) _ w2 (A7 w2)) Aa) fun a w hF hx=>?_
  replace hS:=hS.later hx
  refine wfn rfl ?_
  refine wpIn_ret (Ab<|Ak [.tmp 6] [.bool c6] hF rfl ⟨rfl,trivial⟩ ?_)
  have hr_:=Option.some.inj h
  subst hr_
  exact ⟨rfl,hS.ext⟩
 ·replace h:=An h hc
  refine wpIn_skip (A1 ?_)
  refine esr ?_
  refine rn 1 1 [(1,.int .u16 p1),(2,.int .u8 p2),(7,sv ad9 y6.1 a1),(33,sv ad9 y6.1 a1)] hF fun a hF=>?_
  replace h:=A4 h
  obtain ⟨aG,eC,h⟩:=h
  refine SK.wi (Bz (fun cY=>[(1,.int .u16 p1),(2,.int .u8 p2),(7,sv ad9 y6.1 a1),(34,cY)]) hF kr ⟨kr⟩ (Nl F _ _ eC (Bp w) w (A7 w) (ArrQ.of_own (hS.arr (i:=0) rfl) aI Rp46.mono (FrzAt.le_mem (hS.frz (i:=1) rfl hlow)))) (fun _=>⟨kr⟩) ?_)
  rintro cY w a ⟨a4,a5,rfl,hQ⟩ hF
  replace hS:=hS.madeL hQ
  refine rn 5 7 [(1,.int .u16 p1),(2,.int .u8 p2),(7,sv ad9 y6.1 a1),(9,sv a4 aG.1 a5),(10,iv aG.2)] hF fun a hF=>?_
  refine wfn rfl ?_
  refine B0 ?_
  refine esr ?_
  refine rn 7 7 [(1,.int .u16 p1),(2,.int .u8 p2),(7,sv ad9 y6.1 a1),(9,sv a4 aG.1 a5),(43,.bool (bif (aG.2 != 0) then true else (decide ((ln aG.1)<4))))] hF fun a hF=>?_
  refine wfn rfl ?_
  refine As hF rfl (fun hc=>?_) (fun hc=>?_)
  ·replace h:=Ao h hc
   refine esr ?_
   refine rn 1 1 [(6,.bool false)] hF fun a hF=>?_
   refine wfn rfl ?_
   refine wpIn_ret (Ab<|Ak [.tmp 6] [.bool false] hF rfl ⟨rfl,trivial⟩ ?_)
   have hr_:=Option.some.inj h
   subst hr_
   exact ⟨rfl,hS.ext⟩
  ·replace h:=An h hc
   refine wpIn_skip (A1 ?_)
   refine esr ?_
   refine rn 1 1 [(1,.int .u16 p1),(2,.int .u8 p2),(7,sv ad9 y6.1 a1),(9,sv a4 aG.1 a5),(45,sv a4 aG.1 a5)] hF fun a hF=>?_
   have dP:=hA4
   have dQ:=aI
   have dR:=hext
   have dS:=hlow
   obtain ⟨ν22,bK,hlow,hS,cS,hft25⟩:=hS.freezeT (i:=2) (j:=0) rfl rfl (by decide) hlow
   replace hA4:=hA4.mono Rp58.mono bK.1
   replace aI:=All2.mono Rp46.mono bK.1 aI
   replace hext:=Frz.ext_trans hext bK
   replace hS:St w0 [arr 46 21 (fN 21) ad9 y6.1.length a1 bU,fz w0 ν22] w:=hS
   have c0:=Frz.le_refl ν22
   have b1:=ArrM.of_arrT cS
   replace h:=A4 h
   obtain ⟨aJ,eD,h⟩:=h
   refine SK.wi (Bz (fun cZ=>[(1,.int .u16 p1),(2,.int .u8 p2),(7,sv ad9 y6.1 a1),(9,sv a4 aG.1 a5),(46,cZ)]) hF kr ⟨kr⟩ (Kg F _ _ eD ν22 w (hS.frz (i:=1) rfl hlow) b1) (fun _=>⟨kr⟩) ?_)
   rintro cZ w a ⟨ν30,aQ,aS,aZ,b3,rfl,dN,hQ⟩ hF
   replace hext:=Frz.ext_trans hext (Frz.ext_mono b3 hS.ext.size)
   obtain ⟨hlow,hS⟩:=hS.frzMerge (i:=1) rfl hlow b3 hQ
   replace hA4:=hA4.mono Rp58.mono b3.1
   replace aI:=All2.mono Rp46.mono b3.1 aI
   replace b1:=b1.mono b3.1
   replace c0:=Frz.le_trans c0 b3.1
   refine rn 7 9 [(1,.int .u16 p1),(2,.int .u8 p2),(7,sv ad9 y6.1 a1),(9,sv a4 aG.1 a5),(10,iv aJ.2.2),(11,sv aQ aJ.1 aS),(12,iv aJ.2.1)] hF fun a hF=>?_
   refine wfn rfl ?_
   refine B0 ?_
   refine esr ?_
   replace h:=A4 h
   obtain ⟨d6,eE,h⟩:=h
   refine rx 12 [.call [⟨56,false,(bif (aJ.2.2 != 0) then true else (aJ.2.1 != 0))⟩] 11 #[sv aQ aJ.1 aS,sv ad9 y6.1 a1] (.bool d6)] 12 [(1,.int .u16 p1),(2,.int .u8 p2),(7,sv ad9 y6.1 a1),(9,sv a4 aG.1 a5),(61,.bool (bif (bif (aJ.2.2 != 0) then true else (aJ.2.1 != 0)) then true else (!d6)))] hF (A0 (show Ob.ok _ Ext _ _ from fun hk w2 hd=>K3 F aJ.1 y6.1 _ ((fun hk=>E3 eE hk) hk) _ w2 (A7 w2) (ArrQ.of_own ((hS.later hd).arr (i:=0) rfl) dN Rp46.mono (FrzAt.le_mem ((hS.later hd).frz (i:=2) rfl hlow))) (ArrQ.of_own ((hS.later hd).arr (i:=1) rfl) aI Rp46.mono (FrzAt.le_mem ((hS.later hd).frz (i:=2) rfl hlow)))) Aa) fun a w hF hx=>?_
   replace hS:=hS.later hx
   refine wfn rfl ?_
   refine As hF rfl (fun hc=>?_) (fun hc=>?_)
   ·replace h:=Ao h hc
    refine esr ?_
    refine rn 1 1 [(6,.bool false)] hF fun a hF=>?_
    refine wfn rfl ?_
    refine wpIn_ret (Ab<|Ak [.tmp 6] [.bool false] hF rfl ⟨rfl,trivial⟩ ?_)
    have hr_:=Option.some.inj h
    subst hr_
    exact ⟨rfl,hS.ext⟩
   ·replace h:=An h hc
    refine wpIn_skip (A1 ?_)
    refine esr ?_
    replace h:=A4 h
    obtain ⟨d3,e1,h⟩:=h
    replace h:=A4 h
    obtain ⟨a3,e2,h⟩:=h
    refine rno 6 [.run [] (convert 50 3 (.int .u16 p1)) (iv d3),.run [] (binOp .rem 3 (iv d3) (iv (ln aG.1))) (iv a3)] 6 [(2,.int .u8 p2),(7,sv ad9 y6.1 a1),(9,sv a4 aG.1 a5),(13,iv a3)] hF (A0 (J4 kr kr (fun _=>e1)) (A0 (Jj (fun _=>e2)) Aa)) fun a hF=>?_
    refine wfn rfl ?_
    refine esr ?_
    replace h:=A4 h
    obtain ⟨bN,cQ,h⟩:=h
    replace h:=A4 h
    obtain ⟨d4,e3,h⟩:=h
    replace h:=A4 h
    obtain ⟨d5,e4,h⟩:=h
    replace h:=A4 h
    obtain ⟨b8,e5,h⟩:=h
    replace h:=A4 h
    obtain ⟨eM,cR,h⟩:=h
    refine rno 11 [.run [] (Instr.indexAt 23 (sv a4 aG.1 a5) (iv a3)) (.pointer (some (Ag a4 a3 1))),.run [] (Instr.loadAt 5 (.pointer (some (Ag a4 a3 1)))) (.int .u8 bN),.run [] (convert 5 3 (.int .u8 p2)) (iv d4),.run [] (binOp .rem 3 (iv d4) (iv 255)) (iv d5),.run [] (binOp .add 3 (iv 1) (iv d5)) (iv b8),.run [] (convert 3 5 (iv b8)) (.int .u8 (IntKind.u8.wrap b8)),.run [] (Instr.indexAt 23 (sv a4 aG.1 a5) (iv a3)) (.pointer (some (Ag a4 a3 1)))] 11 [(7,sv ad9 y6.1 a1),(9,sv a4 aG.1 a5),(13,iv a3),(76,.int .u8 (Uh .u8 bN (IntKind.u8.wrap b8))),(77,.pointer (some (Ag a4 a3 1)))] hF (A0 (Bc (b1 _ (hS.frz (i:=2) rfl hlow)) kr (fun _=>cQ)) (A0 (Ey (i:=a3) 0 (Cf .u8) (fun _ hd=>(b1 _ ((hS.at_ hd).frz (i:=2) rfl hlow))) kr (fun _=>cQ) rfl) (A0 (J4 kr kr (fun _=>e3)) (A0 (Jj (fun _=>e4)) (A0 (Aw (fun _=>e5)) (A0 (Ca kr) (A0 (Bc (b1 _ (hS.frz (i:=2) rfl hlow)) kr (fun _=>cR)) Aa))))))) fun a hF=>?_
    replace hS:=hS.s2
    replace hS:=St.thaw hS hlow c0 bK.1 cS hft25
    replace hA4:=dP
    replace aI:=dQ
    replace hext:=dR
    replace hlow:=dS
    replace hS:St w0 [arrT 5 1 (fK .u8) a4 aG.1.length a5 aG.1,fz w0 ν7,arr 46 21 (fN 21) aQ aJ.1.length aS aZ,arr 46 21 (fN 21) ad9 y6.1.length a1 bU] w:=hS
    replace h:=A4 h
    obtain ⟨a7,dH,h⟩:=h
    refine SK.wi (A0q (j:=a3) (t:=5) [(7,sv ad9 y6.1 a1),(9,sv a4 aG.1 a5),(13,iv a3)] 0 0 eM (Uh .u8 bN (IntKind.u8.wrap b8)) (.int .u8 (Uh .u8 bN (IntKind.u8.wrap b8))) hF hS rfl kr ⟨kr⟩ (Cf .u8) cR rfl kr kr kr dH ⟨kr⟩ fun w a hF hl hS=>?_)
    simp only [sv,ln,hl] at hF hS
    refine wfn rfl ?_
    refine esr ?_
    refine rn 1 1 [(7,sv ad9 y6.1 a1),(9,sv a4 a7 a5),(13,iv a3),(79,sv a4 a7 a5)] hF fun a hF=>?_
    have eQ:=hA4
    have eR:=aI
    have eS:=hext
    have eT:=hlow
    obtain ⟨ν49,c1,hlow,hS,eJ,hft52⟩:=hS.freezeT (i:=1) (j:=0) rfl rfl (by decide) hlow
    replace hA4:=hA4.mono Rp58.mono c1.1
    replace aI:=All2.mono Rp46.mono c1.1 aI
    replace hext:=Frz.ext_trans hext c1
    replace hS:St w0 [fz w0 ν49,arr 46 21 (fN 21) aQ aJ.1.length aS aZ,arr 46 21 (fN 21) ad9 y6.1.length a1 bU] w:=hS
    have aM:=Frz.le_refl ν49
    have aH:=ArrM.of_arrT eJ
    replace h:=A4 h
    obtain ⟨a0,eF,h⟩:=h
    refine SK.wi (Bz (fun d0=>[(7,sv ad9 y6.1 a1),(9,sv a4 a7 a5),(13,iv a3),(80,d0)]) hF kr ⟨kr⟩ (Gw F _ _ eF ν49 w (hS.frz (i:=0) rfl hlow) aH) (fun _=>⟨kr⟩) ?_)
    rintro d0 w a ⟨ν57,a8,a9,bC,b4,rfl,aN,hQ⟩ hF
    replace hext:=Frz.ext_trans hext (Frz.ext_mono b4 hS.ext.size)
    obtain ⟨hlow,hS⟩:=hS.frzMerge (i:=0) rfl hlow b4 hQ
    replace hA4:=hA4.mono Rp58.mono b4.1
    replace aI:=All2.mono Rp46.mono b4.1 aI
    replace aH:=aH.mono b4.1
    replace aM:=Frz.le_trans aM b4.1
    refine rn 7 9 [(7,sv ad9 y6.1 a1),(9,sv a4 a7 a5),(10,iv a0.2.2),(13,iv a3),(14,sv a8 a0.1 a9),(15,iv a0.2.1)] hF fun a hF=>?_
    refine wfn rfl ?_
    refine B0 ?_
    refine B0 ?_
    obtain ⟨ν63,b5,hlow,hS,eK⟩:=hS.freeze (i:=1) (j:=3) rfl rfl (by decide) hlow
    replace hA4:=hA4.mono Rp58.mono b5.1
    replace aI:=All2.mono Rp46.mono b5.1 aI
    replace aH:=aH.mono b5.1
    replace aN:=All2.mono Rp46.mono b5.1 aN
    replace aM:=Frz.le_trans aM b5.1
    replace hext:=Frz.ext_trans hext b5
    have aE:=ArrQ.of_arr (l:=y6.1) eK aI Rp46.mono (Frz.le_refl _)
    refine WI.region ?_
    refine rn 15 15 [(7,sv ad9 y6.1 a1),(9,sv a4 a7 a5),(13,iv a3),(14,sv a8 a0.1 a9),(15,iv a0.2.1),(98,.bool (bif (bif (a0.2.2==0) then true else (decide (a0.2.1>a3))) then true else (decide ((ln a0.1)>(ln y6.1)))))] hF fun a hF=>?_
    rcases Bool.eq_false_or_eq_true ((bif (bif (a0.2.2==0) then true else (decide (a0.2.1>a3))) then true else (decide ((ln a0.1)>(ln y6.1))))) with bE|bE
    ·replace h:=Ao h bE
     rw [bE] at hF
     refine E6 16 [(7,sv ad9 y6.1 a1),(9,sv a4 a7 a5),(13,iv a3),(14,sv a8 a0.1 a9),(15,iv a0.2.1),(98,.bool true),(99,undef)] hF kr ⟨kr⟩ ⟨kr⟩ rfl fun a hF=>?_
     refine E6 17 [(7,sv ad9 y6.1 a1),(9,sv a4 a7 a5),(13,iv a3),(14,sv a8 a0.1 a9),(15,iv a0.2.1),(98,.bool true),(99,undef),(100,undef)] hF kr ⟨kr⟩ ⟨kr⟩ rfl fun a hF=>?_
     refine E6 18 [(7,sv ad9 y6.1 a1),(9,sv a4 a7 a5),(13,iv a3),(14,sv a8 a0.1 a9),(15,iv a0.2.1),(98,.bool true),(99,undef),(100,undef),(101,undef)] hF kr ⟨kr⟩ ⟨kr⟩ rfl fun a hF=>?_
     refine E6 19 [(7,sv ad9 y6.1 a1),(9,sv a4 a7 a5),(13,iv a3),(14,sv a8 a0.1 a9),(15,iv a0.2.1),(98,.bool true),(99,undef),(100,undef),(102,undef)] hF kr ⟨kr⟩ ⟨kr⟩ rfl fun a hF=>?_
     refine E6 20 [(7,sv ad9 y6.1 a1),(9,sv a4 a7 a5),(13,iv a3),(14,sv a8 a0.1 a9),(15,iv a0.2.1),(98,.bool true),(99,undef),(103,undef)] hF kr ⟨kr⟩ ⟨kr⟩ rfl fun a hF=>?_
     refine E6 21 [(7,sv ad9 y6.1 a1),(9,sv a4 a7 a5),(13,iv a3),(14,sv a8 a0.1 a9),(15,iv a0.2.1),(98,.bool true),(104,undef)] hF kr ⟨kr⟩ ⟨kr⟩ rfl fun a hF=>?_
     refine E6 22 [(7,sv ad9 y6.1 a1),(9,sv a4 a7 a5),(13,iv a3),(14,sv a8 a0.1 a9),(15,iv a0.2.1),(98,.bool true),(105,undef)] hF kr ⟨kr⟩ ⟨kr⟩ rfl fun a hF=>?_
     refine rn 1 23 [(7,sv ad9 y6.1 a1),(9,sv a4 a7 a5),(13,iv a3),(14,sv a8 a0.1 a9),(15,iv a0.2.1),(106,.bool true)] hF fun a hF=>?_
     refine wfn rfl ?_
     refine wpIn_cond_true (hF.get rfl) ?_
     refine esr ?_
     refine rn 1 1 [(6,.bool false)] hF fun a hF=>?_
     refine wfn rfl ?_
     refine wpIn_ret (Ab<|Ak [.tmp 6] [.bool false] hF rfl ⟨rfl,trivial⟩ ?_)
     have hr_:=Option.some.inj h
     subst hr_
     exact ⟨rfl,hS.ext⟩
    ·replace h:=An h bE
     rw [bE] at hF
     replace h:=A4 h
     obtain ⟨bM,cI,h⟩:=h
     obtain ⟨dA,dG,dO⟩:=Qf aE.2 cI
     have aT:ArrQ ν63 21 Rp46 (Am ad9 a1 (0:Int).toNat 21) (a1-(0:Int).toNat) dA bM:=⟨fun w_ hw_=>(aE.1 w_ hw_).cutD (Dp 21) dG,dO⟩
     replace h:=A4 h
     obtain ⟨d7,eH,h⟩:=h
     refine rx 8 [.run [⟨98,false,false⟩] (Instr.sliceAt 24 (sv ad9 y6.1 a1) none (some (iv (ln a0.1))) none) (.slice (Am ad9 a1 (0:Int).toNat 21) bM.length (a1-(0:Int).toNat)),.call [⟨98,false,false⟩] 11 #[sv a8 a0.1 a9,.slice (Am ad9 a1 (0:Int).toNat 21) bM.length (a1-(0:Int).toNat)] (.bool d7)] 23 [(7,sv ad9 y6.1 a1),(9,sv a4 a7 a5),(13,iv a3),(14,sv a8 a0.1 a9),(15,iv a0.2.1),(106,.bool (!d7))] hF (A0 (P0 kr (aE.at (hS.frz (i:=1) rfl hlow)) (fun _=>cI)) (A0 (show Ob.ok _ Ext _ _ from fun hk w2 hd=>K3 F a0.1 bM _ ((fun _=>eH) hk) _ w2 (A7 w2) (ArrQ.of_own ((hS.later hd).arr (i:=0) rfl) aN Rp46.mono (FrzAt.le_mem ((hS.later hd).frz (i:=1) rfl hlow))) (aT.mono Rp46.mono (FrzAt.le_mem ((hS.later hd).frz (i:=1) rfl hlow)))) Aa)) fun a w hF hx=>?_
     replace hS:=hS.later hx
     refine wfn rfl ?_
     refine As hF rfl (fun hc=>?_) (fun hc=>?_)
     ·replace h:=Ao h hc
      refine esr ?_
      refine rn 1 1 [(6,.bool false)] hF fun a hF=>?_
      refine wfn rfl ?_
      refine wpIn_ret (Ab<|Ak [.tmp 6] [.bool false] hF rfl ⟨rfl,trivial⟩ ?_)
      have hr_:=Option.some.inj h
      subst hr_
      exact ⟨rfl,hS.ext⟩
     ·replace h:=An h hc
      refine wpIn_skip (A1 ?_)
      refine esr ?_
      refine rn 1 1 [(7,sv ad9 y6.1 a1),(9,sv a4 a7 a5),(13,iv a3),(14,sv a8 a0.1 a9),(15,iv a0.2.1),(107,sv ad9 y6.1 a1)] hF fun a hF=>?_
      replace h:=A4 h
      obtain ⟨aA,eI,h⟩:=h
      refine SK.wi (Bz (fun d1=>[(7,sv ad9 y6.1 a1),(9,sv a4 a7 a5),(13,iv a3),(14,sv a8 a0.1 a9),(15,iv a0.2.1),(108,d1)]) hF kr ⟨kr⟩ (R2 F _ _ eI (Bp w) w (A7 w) (aE.mono Rp46.mono (FrzAt.le_mem (hS.frz (i:=1) rfl hlow)))) (fun _=>⟨kr⟩) ?_)
      rintro d1 w a ⟨aB,aC,rfl,hQ⟩ hF
      replace hS:=hS.madeL hQ
      refine rn 1 3 [(7,sv ad9 y6.1 a1),(9,sv a4 a7 a5),(13,iv a3),(14,sv a8 a0.1 a9),(15,iv a0.2.1),(16,sv aB aA aC)] hF fun a hF=>?_
      refine wfn rfl ?_
      have aU:=Frz.le_refl ν63
      refine Ei (fun a w=>∃(ν685:Frz),Fr 221 [] [] a∧St w0 [arr 3 1 fI aB aA.length aC aA,arr 46 21 (fN 21) a8 a0.1.length a9 bC,fz w0 ν685,arr 46 21 (fN 21) aQ aJ.1.length aS aZ] w∧(ν63.le ν685)∧(μ.ext w0.heap.size ν685)∧(Ba w0 ν685)∧Fg F=some res) ?_ ?_
      ·skip
       refine esr ?_
       refine rn 3 3 [(7,sv ad9 y6.1 a1),(9,sv a4 a7 a5),(13,iv a3),(14,sv a8 a0.1 a9),(15,iv a0.2.1),(16,sv aB aA aC),(110,iv (ln y6.1)),(111,iv 0)] hF fun a hF=>?_
       refine wfn rfl ?_
       refine wpIn_block ?_
       have cC:=Frz.le_refl ν63
       refine E4 (fun n_ a w=>∃(a2:Int) (ν1092:Frz),Fr 221 [] [(7,sv ad9 y6.1 a1),(9,sv a4 a7 a5),(13,iv a3),(14,sv a8 a0.1 a9),(15,iv a0.2.1),(16,sv aB aA aC),(110,iv (ln y6.1)),(111,iv a2)] a∧St w0 [arr 3 1 fI aB aA.length aC aA,arr 46 21 (fN 21) a8 a0.1.length a9 bC,fz w0 ν1092,arr 46 21 (fN 21) aQ aJ.1.length aS aZ] w∧(ν63.le ν1092)∧(μ.ext w0.heap.size ν1092)∧(Ba w0 ν1092)∧C1 F y6 a3 a7 a0 aA n_ a2=some res) F ⟨0,ν63,hF.sub kr,St.pick [0,1,2,3] (by decide) hS,cC,hext,hlow,h⟩ ?_
       clear cC
       rintro nk2 a w ⟨a2,ν1092,hF,hS,aL,hext,hlow,h⟩
       rcases nk2 with _|nk2
       ·cases (show (none:Option Bool)=some res from h)
       replace hA4:=hA4.mono Rp58.mono aL
       replace aH:=aH.mono aL
       replace aN:=All2.mono Rp46.mono aL aN
       replace aE:=aE.mono Rp46.mono aL
       replace aT:=aT.mono Rp46.mono aL
       replace aM:=Frz.le_trans aM aL
       replace aU:=Frz.le_trans aU aL
       obtain ⟨k2,hk2⟩:∃k,k=C1 F y6 a3 a7 a0 aA nk2:=⟨_,rfl⟩
       replace h:Ff F y6 a3 a7 a0 aA k2 a2=some res:=by rw [hk2];exact h
       rw [Ff] at h
       refine esr ?_
       refine rn 1 1 [(7,sv ad9 y6.1 a1),(9,sv a4 a7 a5),(13,iv a3),(14,sv a8 a0.1 a9),(15,iv a0.2.1),(16,sv aB aA aC),(110,iv (ln y6.1)),(111,iv a2),(112,.bool (decide (a2<(ln y6.1))))] hF fun a hF=>?_
       refine wfn rfl ?_
       refine B0 ?_
       refine As hF rfl (fun hc=>?_) (fun hc=>?_)
       ·replace h:=Ao h hc
        refine wpIn_skip (A1 ?_)
        have bF:=Frz.le_refl ν1092
        refine Ei (fun a w=>∃(ν1194:Frz),Fr 221 [] [(7,sv ad9 y6.1 a1),(9,sv a4 a7 a5),(13,iv a3),(14,sv a8 a0.1 a9),(15,iv a0.2.1),(16,sv aB aA aC),(110,iv (ln y6.1)),(111,iv a2)] a∧St w0 [arr 3 1 fI aB aA.length aC aA,arr 46 21 (fN 21) a8 a0.1.length a9 bC,fz w0 ν1194,arr 46 21 (fN 21) aQ aJ.1.length aS aZ] w∧(ν1092.le ν1194)∧(μ.ext w0.heap.size ν1194)∧(Ba w0 ν1194)∧Cl a2 k2=some res) ?_ ?_
        ·skip
         refine wpIn_block ?_
         refine esr ?_
         refine rn 2 2 [(7,sv ad9 y6.1 a1),(9,sv a4 a7 a5),(13,iv a3),(14,sv a8 a0.1 a9),(15,iv a0.2.1),(16,sv aB aA aC),(17,iv a2),(110,iv (ln y6.1)),(111,iv a2)] hF fun a hF=>?_
         refine wfn rfl ?_
         refine esr ?_
         replace h:=A4 h
         obtain ⟨a6,dT,h⟩:=h
         obtain ⟨eN,cB,dC⟩:=Dn aE.2 dT
         obtain ⟨bQ,bS,eO,bR,bT,rfl,bW,bX⟩:=dC
         refine rno 4 [.run [] (Instr.indexAt 24 (sv ad9 y6.1 a1) (iv a2)) (.pointer (some (Ag ad9 a2 21))),.run [] (Instr.loadAt 46 (.pointer (some (Ag ad9 a2 21)))) (.agg #[iv a6.Kind,.string a6.Name,iv a6.Time,.string a6.Sweep.Site.Name,iv a6.Sweep.Site.X,iv a6.Sweep.Site.Y,iv a6.Sweep.Site.Z,iv a6.Sweep.Site.Rose,iv a6.Sweep.Site.Gates,iv a6.Sweep.Site.Step,iv a6.Sweep.Site.Width,iv a6.Sweep.Tilt,iv a6.Sweep.Time,sv bQ a6.Sweep.Rays bS,iv a6.Field.Grid.X,iv a6.Field.Grid.Y,iv a6.Field.Grid.Size,iv a6.Field.Grid.Wide,iv a6.Field.Grid.High,sv bR a6.Field.Vals bT,.string a6.Text])] 4 [(7,sv ad9 y6.1 a1),(9,sv a4 a7 a5),(13,iv a3),(14,sv a8 a0.1 a9),(15,iv a0.2.1),(16,sv aB aA aC),(17,iv a2),(110,iv (ln y6.1)),(111,iv a2),(118,.agg #[iv a6.Kind,.string a6.Name,iv a6.Time,.string a6.Sweep.Site.Name,iv a6.Sweep.Site.X,iv a6.Sweep.Site.Y,iv a6.Sweep.Site.Z,iv a6.Sweep.Site.Rose,iv a6.Sweep.Site.Gates,iv a6.Sweep.Site.Step,iv a6.Sweep.Site.Width,iv a6.Sweep.Tilt,iv a6.Sweep.Time,sv bQ a6.Sweep.Rays bS,iv a6.Field.Grid.X,iv a6.Field.Grid.Y,iv a6.Field.Grid.Size,iv a6.Field.Grid.Wide,iv a6.Field.Grid.High,sv bR a6.Field.Vals bT,.string a6.Text])] hF (A0 (Bc (aE.at (hS.frz (i:=2) rfl hlow)) kr (fun _=>cB)) (A0 (Ft (m:=21) (i:=a2) (us:=[iv a6.Kind,.string a6.Name,iv a6.Time,.string a6.Sweep.Site.Name,iv a6.Sweep.Site.X,iv a6.Sweep.Site.Y,iv a6.Sweep.Site.Z,iv a6.Sweep.Site.Rose,iv a6.Sweep.Site.Gates,iv a6.Sweep.Site.Step,iv a6.Sweep.Site.Width,iv a6.Sweep.Tilt,iv a6.Sweep.Time,sv bQ a6.Sweep.Rays bS,iv a6.Field.Grid.X,iv a6.Field.Grid.Y,iv a6.Field.Grid.Size,iv a6.Field.Grid.Wide,iv a6.Field.Grid.High,sv bR a6.Field.Vals bT,.string a6.Text]) 0 (Dp 21) (fun _ hd=>(aE.at ((hS.at_ hd).frz (i:=2) rfl hlow))) kr (fun _=>cB) ⟨rfl,rfl⟩) Aa)) fun a hF=>?_
         replace h:=A4 h
         obtain ⟨aF,e6,h⟩:=h
         refine SK.wi (Bz (fun cW=>[(7,sv ad9 y6.1 a1),(9,sv a4 a7 a5),(13,iv a3),(14,sv a8 a0.1 a9),(15,iv a0.2.1),(16,sv aB aA aC),(17,iv a2),(110,iv (ln y6.1)),(111,iv a2),(119,cW)]) hF kr ⟨kr⟩ (Ke F _ _ e6 (Bp w) w (A7 w) (bW.mono Rp83.mono (FrzAt.le_mem (hS.frz (i:=2) rfl hlow))) (bX.mono (FrzAt.le_mem (hS.frz (i:=2) rfl hlow)))) (fun _=>⟨kr⟩) ?_)
         rintro cW w a ⟨aX,aY,rfl,hQ⟩ hF
         replace hS:=hS.madeL hQ
         refine rn 5 10 [(7,sv ad9 y6.1 a1),(9,sv a4 a7 a5),(13,iv a3),(14,sv a8 a0.1 a9),(15,iv a0.2.1),(16,sv aB aA aC),(17,iv a2),(18,sv aX aF.1 aY),(19,iv aF.2),(110,iv (ln y6.1)),(111,iv a2)] hF fun a hF=>?_
         refine wfn rfl ?_
         refine esr ?_
         replace h:=A4 h
         obtain ⟨cT,cL,h⟩:=h
         replace h:=A4 h
         obtain ⟨bH,dV,h⟩:=h
         refine rno 6 [.run [] (Instr.indexAt 51 (sv aB aA aC) (iv a2)) (.pointer (some (Ag aB a2 1))),.run [] (Instr.loadAt 3 (.pointer (some (Ag aB a2 1)))) (iv cT),.run [] (binOp .add 3 (iv cT) (iv 2)) (iv bH)] 6 [(7,sv ad9 y6.1 a1),(9,sv a4 a7 a5),(13,iv a3),(14,sv a8 a0.1 a9),(15,iv a0.2.1),(16,sv aB aA aC),(17,iv a2),(18,sv aX aF.1 aY),(19,iv aF.2),(20,iv bH),(110,iv (ln y6.1)),(111,iv a2)] hF (A0 (Bc (hS.arr (i:=1) rfl) kr (fun _=>cL)) (A0 (Ey (i:=a2) 0 Ee (fun _ hd=>((hS.at_ hd).arr (i:=1) rfl)) kr (fun _=>cL) rfl) (A0 (Aw (fun _=>dV)) Aa))) fun a hF=>?_
         refine wfn rfl ?_
         refine Ei (fun a w=>∃(b0:Int),Fr 221 [] [(7,sv ad9 y6.1 a1),(9,sv a4 a7 a5),(13,iv a3),(14,sv a8 a0.1 a9),(15,iv a0.2.1),(16,sv aB aA aC),(17,iv a2),(18,sv aX aF.1 aY),(19,iv aF.2),(20,iv b0),(110,iv (ln y6.1)),(111,iv a2)] a∧St w0 [arr 5 1 (fK .u8) aX aF.1.length aY aF.1,arr 3 1 fI aB aA.length aC aA,arr 46 21 (fN 21) a8 a0.1.length a9 bC,fz w0 ν1092,arr 46 21 (fN 21) aQ aJ.1.length aS aZ] w∧Da F y6 a3 a7 a0 aA a2 k2 aF b0=some res) ?_ ?_
         ·skip
          refine esr ?_
          replace h:=A4 h
          obtain ⟨d2,dZ,h⟩:=h
          refine rno 4 [.run [] (binOp .sub 3 (iv (ln aF.1)) (iv 7)) (iv d2)] 4 [(7,sv ad9 y6.1 a1),(9,sv a4 a7 a5),(13,iv a3),(14,sv a8 a0.1 a9),(15,iv a0.2.1),(16,sv aB aA aC),(17,iv a2),(18,sv aX aF.1 aY),(19,iv aF.2),(20,iv bH),(110,iv (ln y6.1)),(111,iv a2),(130,.bool (decide (d2≥127)))] hF (A0 (Jk (fun _=>dZ)) Aa) fun a hF=>?_
          refine wfn rfl ?_
          refine As hF rfl (fun hc=>?_) (fun hc=>?_)
          ·replace h:=Ao h hc
           refine WI.region ?_
           replace h:=A4 h
           obtain ⟨c5,e0,h⟩:=h
           refine rno 3 [.run [] (binOp .add 3 (iv bH) (iv 1)) (iv c5)] 3 [(7,sv ad9 y6.1 a1),(9,sv a4 a7 a5),(13,iv a3),(14,sv a8 a0.1 a9),(15,iv a0.2.1),(16,sv aB aA aC),(17,iv a2),(18,sv aX aF.1 aY),(19,iv aF.2),(20,iv c5),(110,iv (ln y6.1)),(111,iv a2)] hF (A0 (Aw (fun _=>e0)) Aa) fun a hF=>?_
           refine wfn rfl ?_
           exact ⟨c5,hF.sub kr,St.pick [0,1,2,3,4] (by decide) hS,h⟩
          ·replace h:=An h hc
           refine wpIn_skip (A1 ?_)
           exact ⟨bH,hF.sub kr,St.pick [0,1,2,3,4] (by decide) hS,h⟩
         rintro a w ⟨b0,hF,hS,h⟩
         rw [Da] at h
         refine B0 ?_
         refine esr ?_
         replace h:=A4 h
         obtain ⟨bI,dW,h⟩:=h
         replace h:=A4 h
         obtain ⟨cU,cM,h⟩:=h
         refine rno 21 [.run [⟨145,false,(bif (bif (aF.2 != 0) then true else (decide ((ln aF.1)>16129))) then true else (decide (a3<b0)))⟩] (binOp .add 3 (iv a2) (iv 1)) (iv bI),.run [⟨145,false,(bif (bif (aF.2 != 0) then true else (decide ((ln aF.1)>16129))) then true else (decide (a3<b0)))⟩] (Instr.indexAt 51 (sv aB aA aC) (iv bI)) (.pointer (some (Ag aB bI 1))),.run [⟨145,false,(bif (bif (aF.2 != 0) then true else (decide ((ln aF.1)>16129))) then true else (decide (a3<b0)))⟩] (Instr.loadAt 3 (.pointer (some (Ag aB bI 1)))) (iv cU)] 21 [(7,sv ad9 y6.1 a1),(9,sv a4 a7 a5),(13,iv a3),(14,sv a8 a0.1 a9),(15,iv a0.2.1),(16,sv aB aA aC),(17,iv a2),(110,iv (ln y6.1)),(111,iv a2),(153,.bool (bif (bif (bif (aF.2 != 0) then true else (decide ((ln aF.1)>16129))) then true else (decide (a3<b0))) then true else (decide (a3≥cU))))] hF (A0 (Aw (fun hk=>E3 dW hk)) (A0 (Bc (hS.arr (i:=1) rfl) kr (fun hk=>E3 cM hk)) (A0 (Ey (i:=bI) 0 Ee (fun _ hd=>((hS.at_ hd).arr (i:=1) rfl)) kr (fun hk=>E3 cM hk) rfl) Aa))) fun a hF=>?_
         refine wfn rfl ?_
         refine As hF rfl (fun hc=>?_) (fun hc=>?_)
         ·replace h:=Ao h hc
          refine wpIn_exit (Ad<|Bb<|A1 ?_)
          exact ⟨ν1092,hF.sub kr,St.pick [1,2,3,4] (by decide) hS,bF,hext,hlow,h⟩
         ·replace h:=An h hc
          refine wpIn_skip (A1 ?_)
          refine esr ?_
          refine rn 1 1 [(7,sv ad9 y6.1 a1),(9,sv a4 a7 a5),(13,iv a3),(14,sv a8 a0.1 a9),(15,iv a0.2.1),(16,sv aB aA aC),(17,iv a2),(110,iv (ln y6.1)),(111,iv a2),(155,sv a4 a7 a5)] hF fun a hF=>?_
          replace h:=A4 h
          obtain ⟨aD,e7,h⟩:=h
          refine SK.wi (Bz (fun cX=>[(7,sv ad9 y6.1 a1),(9,sv a4 a7 a5),(13,iv a3),(14,sv a8 a0.1 a9),(15,iv a0.2.1),(16,sv aB aA aC),(17,iv a2),(110,iv (ln y6.1)),(111,iv a2),(156,cX)]) hF kr ⟨kr⟩ (Kg F _ _ e7 ν1092 w (hS.frz (i:=3) rfl hlow) aH) (fun _=>⟨kr⟩) ?_)
          rintro cX w a ⟨ν1222,aP,aR,d8,aK,rfl,cJ,hQ⟩ hF
          replace hext:=Frz.ext_trans hext (Frz.ext_mono aK hS.ext.size)
          obtain ⟨hlow,hS⟩:=hS.frzMerge (i:=3) rfl hlow aK hQ
          replace hA4:=hA4.mono Rp58.mono aK.1
          replace aH:=aH.mono aK.1
          replace aN:=All2.mono Rp46.mono aK.1 aN
          replace aE:=aE.mono Rp46.mono aK.1
          replace aT:=aT.mono Rp46.mono aK.1
          replace bW:=bW.mono Rp83.mono aK.1
          replace bX:=bX.mono aK.1
          replace aM:=Frz.le_trans aM aK.1
          replace aU:=Frz.le_trans aU aK.1
          replace aL:=Frz.le_trans aL aK.1
          replace bF:=Frz.le_trans bF aK.1
          refine rn 7 9 [(7,sv ad9 y6.1 a1),(9,sv a4 a7 a5),(13,iv a3),(14,sv a8 a0.1 a9),(15,iv a0.2.1),(16,sv aB aA aC),(17,iv a2),(19,iv aD.2.2),(21,sv aP aD.1 aR),(22,iv aD.2.1),(110,iv (ln y6.1)),(111,iv a2)] hF fun a hF=>?_
          refine wfn rfl ?_
          refine B0 ?_
          replace h:=A4 h
          obtain ⟨bG,cD,h⟩:=h
          replace h:=A4 h
          obtain ⟨aO,dX,h⟩:=h
          replace h:=A4 h
          obtain ⟨b6,cE,h⟩:=h
          replace h:=A4 h
          obtain ⟨c2,cF,h⟩:=h
          refine Cz 9 [0,4] _ (D:=fun w=>St w0 [arr 46 21 (fN 21) aP aD.1.length aR d8,arr 5 1 (fK .u8) aX aF.1.length aY aF.1,arr 3 1 fI aB aA.length aC aA,arr 46 21 (fN 21) a8 a0.1.length a9 bC,arr 46 21 (fN 21) aQ aJ.1.length aS aZ] w∧FrzAt ν1222 w) kr kr hF.size (fun w hx=>?_) (fun _ _ h=>h)
          replace hS:=hS.later hx
          refine ⟨⟨St.pick [0,1,2,3,5] (by decide) hS,hS.frz (i:=4) rfl hlow⟩,?_⟩
          have eP:=Frz.le_refl ν1222
          obtain ⟨bB,dD,dI⟩:=Qf aE.2 cD
          have bY:ArrQ ν1222 21 Rp46 (Am ad9 a1 (0:Int).toNat 21) (a1-(0:Int).toNat) bB bG:=⟨fun w_ hw_=>(aE.1 w_ hw_).cutD (Dp 21) dD,dI⟩
          obtain ⟨bV,dE,dJ⟩:=Qf aE.2 cE
          have bZ:ArrQ ν1222 21 Rp46 (Am ad9 a1 aO.toNat 21) (a1-aO.toNat) bV b6:=⟨fun w_ hw_=>(aE.1 w_ hw_).cutD (Dp 21) dE,dJ⟩
          refine WT.s [1,2,3,5,6,7,8] [0] kr kr ?_
          refine Ek (rest:=[]) (obs:=[.run [] (Instr.sliceAt 24 (sv ad9 y6.1 a1) none (some (iv a2)) none) (.slice (Am ad9 a1 (0:Int).toNat 21) bG.length (a1-(0:Int).toNat)),.run [] (binOp .add 3 (iv a2) (iv 1)) (iv aO),.run [] (Instr.sliceAt 24 (sv ad9 y6.1 a1) (some (iv aO)) none none) (.slice (Am ad9 a1 aO.toNat 21) b6.length (a1-aO.toNat))]) [1,2,3,5,6,7,8] [(7,sv ad9 y6.1 a1),(9,sv a4 a7 a5),(13,iv a3),(14,sv a8 a0.1 a9),(15,iv a0.2.1),(16,sv aB aA aC),(17,iv a2),(19,iv aD.2.2),(21,sv aP aD.1 aR),(22,iv aD.2.1),(110,iv (ln y6.1)),(111,iv a2),(163,.slice (Am ad9 a1 (0:Int).toNat 21) bG.length (a1-(0:Int).toNat)),(168,.slice (Am ad9 a1 aO.toNat 21) b6.length (a1-aO.toNat))] hF kr kr (A0 (P0 kr (aE.at (hS.frz (i:=4) rfl hlow)) (fun _=>cD)) (A0 (Aw (fun _=>dX)) (A0 (M3 kr (aE.at (hS.frz (i:=4) rfl hlow)) (fun _=>cE)) Aa))) ⟨kr⟩ fun a hF=>?_
          refine WRun.fin ?_
          refine all_cons ?_ (Ay)
          have dK:All2 (Rp46 ν1222) ([]:List (List Value)) ([]:List volume_Item):=All2.nil
          refine Sk (e:=46) (sz:=21) (f:=fN 21) (t:=24) (len:=0) (fun c9=>[(7,sv ad9 y6.1 a1),(9,sv a4 a7 a5),(13,iv a3),(14,sv a8 a0.1 a9),(15,iv a0.2.1),(16,sv aB aA aC),(17,iv a2),(19,iv aD.2.2),(21,sv aP aD.1 aR),(22,iv aD.2.1),(110,iv (ln y6.1)),(111,iv a2),(160,sb c9 0),(163,.slice (Am ad9 a1 (0:Int).toNat 21) bG.length (a1-(0:Int).toNat)),(168,.slice (Am ad9 a1 aO.toNat 21) b6.length (a1-aO.toNat))]) #[] #[] ([]:List (List Value)) ([]:List volume_Item) hF hS kr ⟨kr⟩ kr (Dp 21) rfl rfl rfl kr (fun _=>⟨kr⟩) fun c9 w a hF hS=>⟨⟨St.pick [1,2,3,4,6] (by decide) hS,(hS.frz (i:=5) rfl hlow)⟩,?_⟩
          refine WT.s [] [4] kr kr ?_
          refine WRun.fin ?_
          refine all_cons ?_ (Ay)
          have dL:All2 (Rp46 ν1222) (([]:List (List Value))++bB) c2:=by rw [(J7 cF).1];exact All2.app dK bY.2
          refine S5 (t:=24) (ty:=24) (bytes:=224) (c:=([]:List (List Value))) (c':=bB) (l:=([]:List volume_Item)) (l':=bG) (fun c8 cA=>[(7,sv ad9 y6.1 a1),(9,sv a4 a7 a5),(13,iv a3),(14,sv a8 a0.1 a9),(15,iv a0.2.1),(16,sv aB aA aC),(17,iv a2),(19,iv aD.2.2),(21,sv aP aD.1 aR),(22,iv aD.2.1),(110,iv (ln y6.1)),(111,iv a2),(164,sv c8 c2 cA),(168,.slice (Am ad9 a1 aO.toNat 21) b6.length (a1-aO.toNat))]) 0 hF hS rfl kr ⟨kr⟩ kr (bY.at (hS.frz (i:=5) rfl hlow)) (ArrQ.one bY.2 Rp46.one) cF (fun _ _=>⟨kr⟩) fun c8 cA w a hF hS=>⟨⟨St.pick [1,2,3,4,6] (by decide) hS,(hS.frz (i:=5) rfl hlow)⟩,?_⟩
          refine WT.z [] kr ?_
          refine WRun.fin ?_
          replace h:=A4 h
          obtain ⟨aW,cG,h⟩:=h
          have cK:All2 (Rp46 ν1222) ((([]:List (List Value))++bB)++bV) aW:=by rw [(J7 cG).1];exact All2.app dL bZ.2
          refine SK.wi (S5 (t:=24) (ty:=24) (bytes:=224) (c:=(([]:List (List Value))++bB)) (c':=bV) (l:=c2) (l':=b6) (fun b9 bA=>[(7,sv ad9 y6.1 a1),(9,sv a4 a7 a5),(13,iv a3),(14,sv a8 a0.1 a9),(15,iv a0.2.1),(16,sv aB aA aC),(17,iv a2),(19,iv aD.2.2),(21,sv aP aD.1 aR),(22,iv aD.2.1),(110,iv (ln y6.1)),(111,iv a2),(169,sv b9 aW bA)]) 0 hF hS rfl kr ⟨kr⟩ kr (bZ.at (hS.frz (i:=5) rfl hlow)) (ArrQ.one bZ.2 Rp46.one) cG (fun _ _=>⟨kr⟩) fun b9 bA w a hF hS=>?_)
          refine rn 1 11 [(7,sv ad9 y6.1 a1),(9,sv a4 a7 a5),(13,iv a3),(14,sv a8 a0.1 a9),(15,iv a0.2.1),(16,sv aB aA aC),(17,iv a2),(19,iv aD.2.2),(21,sv aP aD.1 aR),(22,iv aD.2.1),(23,sv b9 aW bA),(110,iv (ln y6.1)),(111,iv a2)] hF fun a hF=>?_
          refine wfn rfl ?_
          refine esr ?_
          replace h:=A4 h
          obtain ⟨b7,cN,h⟩:=h
          replace h:=A4 h
          obtain ⟨bJ,e8,h⟩:=h
          replace h:=A4 h
          obtain ⟨bO,e9,h⟩:=h
          replace h:=A4 h
          obtain ⟨c4,dY,h⟩:=h
          refine rx 34 [.run [] (Instr.indexAt 23 (sv a4 a7 a5) (iv a3)) (.pointer (some (Ag a4 a3 1))),.run [] (Instr.loadAt 5 (.pointer (some (Ag a4 a3 1)))) (.int .u8 b7),.call [⟨182,false,(bif (aD.2.2 != 0) then true else (aD.2.1 != 1))⟩,⟨175,true,(b7 != 0)⟩] 11 #[sv aP aD.1 aR,sv b9 aW bA] (.bool bJ),.call [⟨189,false,(bif (b7 != 0) then (bif (bif (aD.2.2 != 0) then true else (aD.2.1 != 1)) then true else (!bJ)) else false)⟩] 17 #[sv b9 aW bA,sv aP aD.1 aR] (.bool bO),.run [⟨195,false,(bif (bif (b7 != 0) then (bif (bif (aD.2.2 != 0) then true else (aD.2.1 != 1)) then true else (!bJ)) else false) then true else (!bO))⟩] (binOp .add 3 (iv (ln aW)) (iv 1)) (iv c4)] 34 [(7,sv ad9 y6.1 a1),(9,sv a4 a7 a5),(13,iv a3),(14,sv a8 a0.1 a9),(15,iv a0.2.1),(16,sv aB aA aC),(17,iv a2),(110,iv (ln y6.1)),(111,iv a2),(203,.bool (bif (bif (bif (b7 != 0) then (bif (bif (aD.2.2 != 0) then true else (aD.2.1 != 1)) then true else (!bJ)) else false) then true else (!bO)) then true else (decide ((ln aD.1)>c4))))] hF (A0 (Bc (aH _ (hS.frz (i:=5) rfl hlow)) kr (fun _=>cN)) (A0 (Ey (i:=a3) 0 (Cf .u8) (fun _ hd=>(aH _ ((hS.later hd).frz (i:=5) rfl hlow))) kr (fun _=>cN) rfl) (A0 (show Ob.ok _ Ext _ _ from fun hk w2 hd=>K3 F aD.1 aW _ ((fun hk=>E3 e8 hk) hk) _ w2 (A7 w2) (ArrQ.of_own ((hS.later hd).arr (i:=1) rfl) cJ Rp46.mono (FrzAt.le_mem ((hS.later hd).frz (i:=5) rfl hlow))) (ArrQ.of_own ((hS.later hd).arr (i:=0) rfl) cK Rp46.mono (FrzAt.le_mem ((hS.later hd).frz (i:=5) rfl hlow)))) (A0 (show Ob.ok _ Ext _ _ from fun hk w2 hd=>Sh F aW aD.1 _ ((fun hk=>E3 e9 hk) hk) _ w2 (A7 w2) (ArrQ.of_own ((hS.later hd).arr (i:=0) rfl) cK Rp46.mono (FrzAt.le_mem ((hS.later hd).frz (i:=5) rfl hlow))) (ArrQ.of_own ((hS.later hd).arr (i:=1) rfl) cJ Rp46.mono (FrzAt.le_mem ((hS.later hd).frz (i:=5) rfl hlow)))) (A0 (Aw (fun hk=>E3 dY hk)) Aa))))) fun a w hF hx=>?_
          replace hS:=hS.later hx
          rcases Bool.eq_false_or_eq_true ((bif (bif (bif (b7 != 0) then (bif (bif (aD.2.2 != 0) then true else (aD.2.1 != 1)) then true else (!bJ)) else false) then true else (!bO)) then true else (decide ((ln aD.1)>c4)))) with bD|bD
          ·replace h:=Ao h bD
           rw [bD] at hF
           refine E6 35 [(7,sv ad9 y6.1 a1),(9,sv a4 a7 a5),(13,iv a3),(14,sv a8 a0.1 a9),(15,iv a0.2.1),(16,sv aB aA aC),(17,iv a2),(110,iv (ln y6.1)),(111,iv a2),(203,.bool true),(204,undef)] hF kr ⟨kr⟩ ⟨kr⟩ rfl fun a hF=>?_
           refine E6 36 [(7,sv ad9 y6.1 a1),(9,sv a4 a7 a5),(13,iv a3),(14,sv a8 a0.1 a9),(15,iv a0.2.1),(16,sv aB aA aC),(17,iv a2),(110,iv (ln y6.1)),(111,iv a2),(203,.bool true),(204,undef),(205,undef)] hF kr ⟨kr⟩ ⟨kr⟩ rfl fun a hF=>?_
           refine E6 37 [(7,sv ad9 y6.1 a1),(9,sv a4 a7 a5),(13,iv a3),(14,sv a8 a0.1 a9),(15,iv a0.2.1),(16,sv aB aA aC),(17,iv a2),(110,iv (ln y6.1)),(111,iv a2),(203,.bool true),(204,undef),(205,undef),(206,undef)] hF kr ⟨kr⟩ ⟨kr⟩ rfl fun a hF=>?_
           refine E6 38 [(7,sv ad9 y6.1 a1),(9,sv a4 a7 a5),(13,iv a3),(14,sv a8 a0.1 a9),(15,iv a0.2.1),(16,sv aB aA aC),(17,iv a2),(110,iv (ln y6.1)),(111,iv a2),(203,.bool true),(204,undef),(207,undef)] hF kr ⟨kr⟩ ⟨kr⟩ rfl fun a hF=>?_
           refine E6 39 [(7,sv ad9 y6.1 a1),(9,sv a4 a7 a5),(13,iv a3),(14,sv a8 a0.1 a9),(15,iv a0.2.1),(16,sv aB aA aC),(17,iv a2),(110,iv (ln y6.1)),(111,iv a2),(203,.bool true),(208,undef)] hF kr ⟨kr⟩ ⟨kr⟩ rfl fun a hF=>?_
           refine E6 40 [(7,sv ad9 y6.1 a1),(9,sv a4 a7 a5),(13,iv a3),(14,sv a8 a0.1 a9),(15,iv a0.2.1),(16,sv aB aA aC),(17,iv a2),(110,iv (ln y6.1)),(111,iv a2),(203,.bool true),(209,undef)] hF kr ⟨kr⟩ ⟨kr⟩ rfl fun a hF=>?_
           replace h:=A4 h
           obtain ⟨eL,cO,h⟩:=h
           refine rno 9 [.run [⟨211,false,true⟩] (Instr.indexAt 51 (sv aB aA aC) (iv a2)) (.pointer (some (Ag aB a2 1))),.run [⟨211,false,true⟩] (Instr.loadAt 3 (.pointer (some (Ag aB a2 1)))) (iv eL)] 49 [(7,sv ad9 y6.1 a1),(9,sv a4 a7 a5),(13,iv a3),(14,sv a8 a0.1 a9),(15,iv a0.2.1),(16,sv aB aA aC),(110,iv (ln y6.1)),(111,iv a2),(218,.bool true)] hF (A0 (Bc (hS.arr (i:=3) rfl) kr (fun hk=>E3 cO hk)) (A0 (Ey (i:=a2) 0 Ee (fun _ hd=>((hS.at_ hd).arr (i:=3) rfl)) kr (fun hk=>E3 cO hk) rfl) Aa)) fun a hF=>?_
           refine wfn rfl ?_
           refine wpIn_cond_true (hF.get rfl) ?_
           refine esr ?_
           refine rn 1 1 [(6,.bool false)] hF fun a hF=>?_
           refine wfn rfl ?_
           refine wpIn_ret (Ar<|Ab<|Ab<|Ar<|Ab<|Ak [.tmp 6] [.bool false] hF rfl ⟨rfl,trivial⟩ ?_)
           have hr_:=Option.some.inj h
           subst hr_
           exact ⟨rfl,hS.ext⟩
          ·replace h:=An h bD
           rw [bD] at hF
           replace h:=A4 h
           obtain ⟨bL,cH,h⟩:=h
           obtain ⟨d9,dF,dM⟩:=Qf aE.2 cH
           have dB:ArrQ ν1222 21 Rp46 (Am ad9 a1 (0:Int).toNat 21) (a1-(0:Int).toNat) d9 bL:=⟨fun w_ hw_=>(aE.1 w_ hw_).cutD (Dp 21) dF,dM⟩
           replace h:=A4 h
           obtain ⟨bP,eA,h⟩:=h
           replace h:=A4 h
           obtain ⟨cV,cP,h⟩:=h
           refine rx 15 [.run [⟨203,false,false⟩] (Instr.sliceAt 24 (sv ad9 y6.1 a1) none (some (iv a2)) none) (.slice (Am ad9 a1 (0:Int).toNat 21) bL.length (a1-(0:Int).toNat)),.call [⟨203,false,false⟩] 11 #[sv a8 a0.1 a9,.slice (Am ad9 a1 (0:Int).toNat 21) bL.length (a1-(0:Int).toNat)] (.bool bP),.run [⟨211,false,(!bP)⟩] (Instr.indexAt 51 (sv aB aA aC) (iv a2)) (.pointer (some (Ag aB a2 1))),.run [⟨211,false,(!bP)⟩] (Instr.loadAt 3 (.pointer (some (Ag aB a2 1)))) (iv cV)] 49 [(7,sv ad9 y6.1 a1),(9,sv a4 a7 a5),(13,iv a3),(14,sv a8 a0.1 a9),(15,iv a0.2.1),(16,sv aB aA aC),(110,iv (ln y6.1)),(111,iv a2),(218,.bool (bif (!bP) then true else (a0.2.1 != cV)))] hF (A0 (P0 kr (aE.at (hS.frz (i:=5) rfl hlow)) (fun _=>cH)) (A0 (show Ob.ok _ Ext _ _ from fun hk w2 hd=>K3 F a0.1 bL _ ((fun _=>eA) hk) _ w2 (A7 w2) (ArrQ.of_own ((hS.later hd).arr (i:=4) rfl) aN Rp46.mono (FrzAt.le_mem ((hS.later hd).frz (i:=5) rfl hlow))) (dB.mono Rp46.mono (FrzAt.le_mem ((hS.later hd).frz (i:=5) rfl hlow)))) (A0 (Bc (hS.arr (i:=3) rfl) kr (fun hk=>E3 cP hk)) (A0 (Ey (i:=a2) 0 Ee (fun _ hd=>((hS.later hd).arr (i:=3) rfl)) kr (fun hk=>E3 cP hk) rfl) Aa)))) fun a w hF hx=>?_
           replace hS:=hS.later hx
           refine wfn rfl ?_
           refine As hF rfl (fun hc=>?_) (fun hc=>?_)
           ·replace h:=Ao h hc
            refine esr ?_
            refine rn 1 1 [(6,.bool false)] hF fun a hF=>?_
            refine wfn rfl ?_
            refine wpIn_ret (Ar<|Ab<|Ab<|Ar<|Ab<|Ak [.tmp 6] [.bool false] hF rfl ⟨rfl,trivial⟩ ?_)
            have hr_:=Option.some.inj h
            subst hr_
            exact ⟨rfl,hS.ext⟩
           ·replace h:=An h hc
            refine wpIn_skip (Ac<|A1<|?_)
            exact ⟨ν1222,hF.sub kr,St.pick [3,4,5,6] (by decide) hS,bF,hext,hlow,h⟩
        clear bF
        rintro a w ⟨ν1194,hF,hS,aV,hext,hlow,h⟩
        replace hA4:=hA4.mono Rp58.mono aV
        replace aH:=aH.mono aV
        replace aN:=All2.mono Rp46.mono aV aN
        replace aE:=aE.mono Rp46.mono aV
        replace aT:=aT.mono Rp46.mono aV
        replace aM:=Frz.le_trans aM aV
        replace aU:=Frz.le_trans aU aV
        replace aL:=Frz.le_trans aL aV
        rw [Cl] at h
        refine WI.region ?_
        replace h:=A4 h
        obtain ⟨c3,dU,h⟩:=h
        refine rno 2 [.run [] (binOp .add 3 (iv a2) (iv 1)) (iv c3)] 2 [(7,sv ad9 y6.1 a1),(9,sv a4 a7 a5),(13,iv a3),(14,sv a8 a0.1 a9),(15,iv a0.2.1),(16,sv aB aA aC),(110,iv (ln y6.1)),(111,iv c3)] hF (A0 (Aw (fun _=>dU)) Aa) fun a hF=>?_
        refine wfn rfl ?_
        rw [hk2] at h
        exact ⟨nk2,Nat.lt_succ_self _,c3,ν1194,hF.sub kr,St.pick [0,1,2,3] (by decide) hS,aL,hext,hlow,h⟩
       ·replace h:=An h hc
        refine wpIn_exit (Ad<|Ad<|Bb<|A1 ?_)
        exact ⟨ν1092,hF.sub kr,St.pick [0,1,2,3] (by decide) hS,aU,hext,hlow,h⟩
      clear aU
      rintro a w ⟨ν685,hF,hS,b2,hext,hlow,h⟩
      replace hA4:=hA4.mono Rp58.mono b2
      replace aH:=aH.mono b2
      replace aN:=All2.mono Rp46.mono b2 aN
      replace aE:=aE.mono Rp46.mono b2
      replace aT:=aT.mono Rp46.mono b2
      replace aM:=Frz.le_trans aM b2
      rw [Fg] at h
      refine esr ?_
      replace h:=A4 h
      obtain ⟨c7,eG,h⟩:=h
      refine rx 2 [.call [] 8 #[] (.bool c7)] 2 [(6,.bool c7)] hF (A0 (show Ob.ok _ Ext _ _ from fun hk w2 hd=>Nw F  _ ((fun _=>eG) hk) _ w2 (A7 w2)) Aa) fun a w hF hx=>?_
      replace hS:=hS.later hx
      refine wfn rfl ?_
      refine wpIn_ret (Ak [.tmp 6] [.bool c7] hF rfl ⟨rfl,trivial⟩ ?_)
      have hr_:=Option.some.inj h
      subst hr_
      exact ⟨rfl,hS.ext⟩
end Go.Proofs.Ytifbomimeodibaa
