import Derived.Test.YtifbomimeodibaaGreatV4XD
import Derived.Test.YtifbomimeodibaaGreatProg
import Derived.Test.YtifbomimeodibaaGreatV4XW0
import Derived.Test.YtifbomimeodibaaGreatV4XW1
import Derived.Test.YtifbomimeodibaaGreatV4XW2
import Derived.Test.YtifbomimeodibaaGreatV4XW4
namespace Go.Proofs.YtifbomimeodibaaGreat
open Go Go.RowKit Go.Eng
set_option maxRecDepth 10000
set_option maxHeartbeats 4000000
set_option linter.unusedVariables false
set_option linter.unusedSimpArgs false
theorem Ca (F:Nat) (p0:volume_reader) (res:Except (Value×volume_reader) (api_Span×volume_reader)) (h:C4 F p0=some res) (μ:Frz) (w0 w1:World) (T_:List Res) (hlow:B4 w0 μ) {cb0:Nat} {ad1:Option Addr} {cap2:Nat} (hA3:ArrM μ 1 (fK .u8) ad1 cap2 p0.b) (hS:St w0 (fz w0 μ::blk cb0 125 #[sv ad1 p0.b cap2]::T_) w1):Nk Tryz.prog 98 #[pb cb0] w1 res (fun r_ e w=>∃(ν_:Frz) (a4:Option Addr) (a6:Nat),μ.ext w0.heap.size ν_∧B4 w0 ν_∧e=(.agg #[iv r_.1.Lo,iv r_.1.Hi])∧(ArrM ν_ 1 (fK .u8) a4 a6 r_.2.b)∧St w0 (fz w0 ν_::blk cb0 125 #[sv a4 r_.2.b a6]::T_) w) (fun e_ w=>∃(ν_:Frz) (a5:Option Addr) (a7:Nat),μ.ext w0.heap.size ν_∧B4 w0 ν_∧(ArrM ν_ 1 (fK .u8) a5 a7 e_.b)∧St w0 (fz w0 ν_::blk cb0 125 #[sv a5 e_.b a7]::T_) w):=by
 rw [C4] at h
 have hext:=Frz.ext_refl w0.heap.size μ
 refine Ag Tryz.func98 rfl 12 [(0,pb cb0)] rfl rfl kr fun a w hw hF=>?_
 replace hS:=hS.cast hw
 clear hw
 refine esr ?_
 refine SK.wi (qA 146 #[iv 0,iv 0] (fun b4=>[(2,pb b4)]) hF hS fun b4 w a hF hS=>?_)
 refine wfn rfl ?_
 refine esr ?_
 refine qn 1 1 [(4,pb cb0)] hF fun a hF=>?_
 obtain ⟨y5,hy5,h⟩:=A1 h
 replace hS:=hS.s2.s2
 refine Db (fun a9=>[(0,pb cb0),(2,pb b4),(5,a9)]) hF kr ⟨kr⟩ (D2 F _ _ hy5 μ w0 w _ hlow hA3 hS) (fun _=>⟨kr⟩) ?_ ?_
 ·rintro e7 w he_ ⟨ν14,aB,aE,a8,hlow,aH,hS⟩
  replace h:=Fm h he_
  replace hext:=Frz.ext_trans hext a8
  replace hA3:=hA3.mono a8.1
  refine A7<|Ax hF ?_
  obtain rfl:=Ao h
  replace hS:=hS.d2
  exact .inr ⟨_,rfl,rfl,ν14,aB,aE,hext,hlow,aH,hS⟩
 rintro y6 a9 w a he_ ⟨ν8,aM,aN,hx9,hlow,rfl,a0,hS⟩ hF
 replace h:=Fo h he_
 replace hext:=Frz.ext_trans hext hx9
 replace hA3:=hA3.mono hx9.1
 refine rn 1 3 [(0,pb cb0),(2,pb b4),(3,iv y6.1)] hF fun a hF=>?_
 refine wfn rfl ?_
 refine esr ?_
 refine qn 3 3 [(6,iv y6.1),(7,iv y6.1),(8,pb cb0)] hF fun a hF=>?_
 obtain ⟨aP,aL,h⟩:=A1 h
 refine Db (fun aA=>[(2,pb b4),(6,iv y6.1),(7,iv y6.1),(9,aA)]) hF kr ⟨kr⟩ (Al F _ _ aL ν8 w0 w _ hlow a0 hS) (fun _=>⟨kr⟩) ?_ ?_
 ·rintro aO w he_ ⟨ν28,aD,aG,a3,hlow,aJ,hS⟩
  replace h:=Fm h he_
  replace hext:=Frz.ext_trans hext a3
  replace hA3:=hA3.mono a3.1
  replace a0:=a0.mono a3.1
  refine A7<|Ax hF ?_
  obtain rfl:=Ao h
  replace hS:=hS.d2
  exact .inr ⟨_,rfl,rfl,ν28,aD,aG,hext,hlow,aJ,hS⟩
 rintro aQ aA w a he_ ⟨ν22,aC,aF,a2,hlow,rfl,aI,hS⟩ hF
 replace h:=Fo h he_
 replace hext:=Frz.ext_trans hext a2
 replace hA3:=hA3.mono a2.1
 replace a0:=a0.mono a2.1
 obtain ⟨a1,aK,h⟩:=A1 h
 refine ro 2 6 [(2,pb b4),(11,.agg #[iv y6.1,iv a1])] hF (oA 3 aK<|A9) fun a hF=>?_
 refine SK.wi (qS 146 2 0 (.agg #[iv y6.1,iv a1]) #[iv y6.1,iv a1] hF hS rfl fun w a hF hS=>?_)
 refine wfn rfl ?_
 refine wpIn_ret (Ad [.cell 2 146] [.agg #[iv y6.1,iv a1]] hF rfl ⟨⟨_,rfl,Mf (cs:=[iv y6.1,iv a1]) kr ((hS.blk (i:=2) rfl).cells rfl)⟩,trivial⟩ ?_)
 obtain rfl:=Ao h
 replace hS:=hS.d2
 exact .inl ⟨_,_,rfl,rfl,ν22,aC,aF,hext,hlow,rfl,aI,hS⟩
theorem R5 (F:Nat) (p0:api_Echo) (res:Int) (h:El F p0=some res) (μ:Frz) (w0:World) (hm:FrzAt μ w0):Calls Tryz.prog 172 #[p0.ag] w0 (fun e w=>e=.returned (iv res)∧Ext w0 w):=by
 obtain ⟨hlow,hS⟩:=hm.init
 have hext:=Frz.ext_refl w0.heap.size μ
 rw [El] at h
 refine Ag Tryz.func172 rfl 77 [(0,p0.ag)] rfl rfl kr fun a w hw hF=>?_
 replace hS:=hS.cast hw
 clear hw
 refine esr ?_
 refine SK.wi (J6 (t:=149) (fun b1=>[(1,pb b1)]) (p0.ag) p0.ar hF hS kr ⟨kr⟩ kr (fun _=>⟨kr⟩) fun b1 w a hF hS=>?_)
 refine rn 1 2 [(1,pb b1)] hF fun a hF=>?_
 refine wfn rfl ?_
 refine esr ?_
 refine qx 4 4 [(3,.bool (Ac p0.Power 0 1073741824))] hF (oN 146 0 1 2 hS.e rfl<|oC (fun w2 hd=>Ln p0.Power 0 1073741824 _ rfl _ w2 (A5 w2))<|A9) fun a w hF hx=>?_
 replace hS:=hS.later hx
 refine wfn rfl ?_
 refine D9 (fun a w=>∃(c7:Bool),Fr 77 [] [(3,.bool c7)] a∧St w0 [blk b1 149 p0.ar,fz w0 μ] w∧Cy c7=some res) ?_ ?_
 ·skip
  refine qoB [(8,iv p0.Kind)] hF (oL 3 0 0 hS.i rfl rfl<|A9) fun a hF=>?_
  refine wpIn_block ?_
  refine qnB [(9,.bool (p0.Kind==1))] hF fun a hF=>?_
  refine Aj hF rfl (fun hc=>?_) (fun hc=>?_)
  ·replace h:=Af h hc
   refine WI.region ?_
   refine ro 11 11 [(3,.bool (bif (Ac p0.Power 0 1073741824) then (((p0.Kind:Int)==1)&&((((p0.Power.Lo:Int)==0)&&(((p0.Power.Hi:Int)==p0.Power.Hi)&&true))&&(((((p0.Steps.1.Lo:Int)==0)&&(((p0.Steps.1.Hi:Int)==0)&&true))&&((((p0.Steps.2.Lo:Int)==0)&&(((p0.Steps.2.Hi:Int)==0)&&true))&&true))&&(((p0.Spread:Int)==0)&&((((p0.Ratio.Lo:Int)==0)&&(((p0.Ratio.Hi:Int)==0)&&true))&&((((p0.Match.Lo:Int)==0)&&(((p0.Match.Hi:Int)==0)&&true))&&((((p0.Turn.Lo:Int)==0)&&(((p0.Turn.Hi:Int)==0)&&true))&&true))))))) else false))] hF (oX (.run [⟨12,true,(Ac p0.Power 0 1073741824)⟩] (Instr.loadAt 149 (pb b1)) (p0.ag)) (obN (us:=p0.cells) kr (fun _ hd=>((hS.at_ hd).blk (i:=0) rfl).cells rfl))<|oX (.run [⟨12,true,(Ac p0.Power 0 1073741824)⟩] (Instr.loadAt 3 (.pointer (some ⟨b1,2,none⟩))) (iv p0.Power.Hi)) (ob1 kr (fun _ hd=>(hS.at_ hd).cell (i:=0) (j:=2) rfl rfl))<|oX (.run [⟨12,true,(Ac p0.Power 0 1073741824)⟩] (eqS .eql 149 p0.ar #[iv 1,iv 0,iv p0.Power.Hi,iv 0,iv 0,iv 0,iv 0,iv 0,iv 0,iv 0,iv 0,iv 0,iv 0,iv 0]) (.bool (((p0.Kind:Int)==1)&&((((p0.Power.Lo:Int)==0)&&(((p0.Power.Hi:Int)==p0.Power.Hi)&&true))&&(((((p0.Steps.1.Lo:Int)==0)&&(((p0.Steps.1.Hi:Int)==0)&&true))&&((((p0.Steps.2.Lo:Int)==0)&&(((p0.Steps.2.Hi:Int)==0)&&true))&&true))&&(((p0.Spread:Int)==0)&&((((p0.Ratio.Lo:Int)==0)&&(((p0.Ratio.Hi:Int)==0)&&true))&&((((p0.Match.Lo:Int)==0)&&(((p0.Match.Hi:Int)==0)&&true))&&((((p0.Turn.Lo:Int)==0)&&(((p0.Turn.Hi:Int)==0)&&true))&&true))))))))) (Lf kr kr)<|A9) fun a hF=>?_
   refine WI.fin rfl (Ab<|A0<|?_)
   exact ⟨bif (Ac p0.Power 0 1073741824) then (((p0.Kind:Int)==1)&&((((p0.Power.Lo:Int)==0)&&(((p0.Power.Hi:Int)==p0.Power.Hi)&&true))&&(((((p0.Steps.1.Lo:Int)==0)&&(((p0.Steps.1.Hi:Int)==0)&&true))&&((((p0.Steps.2.Lo:Int)==0)&&(((p0.Steps.2.Hi:Int)==0)&&true))&&true))&&(((p0.Spread:Int)==0)&&((((p0.Ratio.Lo:Int)==0)&&(((p0.Ratio.Hi:Int)==0)&&true))&&((((p0.Match.Lo:Int)==0)&&(((p0.Match.Hi:Int)==0)&&true))&&((((p0.Turn.Lo:Int)==0)&&(((p0.Turn.Hi:Int)==0)&&true))&&true))))))) else false,hF.sub kr,St.pick [0,1] (by decide) hS,h⟩
  ·replace h:=Ae h hc
   refine D9 (fun a w=>∃(c9:Bool),Fr 77 [] [(1,pb b1),(3,.bool (Ac p0.Power 0 1073741824)),(21,.bool c9)] a∧St w0 [blk b1 149 p0.ar,fz w0 μ] w∧C8 F p0 c9=some res) ?_ ?_
   ·skip
    refine qnB [(21,.bool (p0.Kind==2))] hF fun a hF=>?_
    refine Aj hF rfl (fun hc=>?_) (fun hc=>?_)
    ·replace h:=Af h hc
     refine wpIn_skip (A0 ?_)
     exact ⟨p0.Kind==2,hF.sub kr,St.pick [0,1] (by decide) hS,h⟩
    ·replace h:=Ae h hc
     refine WI.region ?_
     refine rn 2 2 [(1,pb b1),(3,.bool (Ac p0.Power 0 1073741824)),(21,.bool (p0.Kind==3))] hF fun a hF=>?_
     refine wfn rfl ?_
     exact ⟨p0.Kind==3,hF.sub kr,St.pick [0,1] (by decide) hS,h⟩
   rintro a w ⟨c9,hF,hS,h⟩
   rw [C8] at h
   refine Aj hF rfl (fun hc=>?_) (fun hc=>?_)
   ·replace h:=Af h hc
    refine esr ?_
    refine rX 23 23 [(1,pb b1),(3,.bool (bif (bif (bif (bif (Ac p0.Power 0 1073741824) then (decide (p0.Power.Lo>0)) else false) then (Ac p0.Ratio 0 1000000) else false) then (Ac p0.Match 0 1000) else false) then (Aq p0.Spread 0 65535) else false))] hF (oX (.run [⟨25,true,(Ac p0.Power 0 1073741824)⟩] (Instr.loadAt 3 (.pointer (some ⟨b1,1,none⟩))) (iv p0.Power.Lo)) (ob1 kr (fun _ hd=>(hS.later hd).cell (i:=0) (j:=1) rfl rfl))<|oX (.run [⟨31,true,(bif (Ac p0.Power 0 1073741824) then (decide (p0.Power.Lo>0)) else false)⟩] (Instr.loadAt 146 (.pointer (some ⟨b1,8,none⟩))) (.agg #[iv p0.Ratio.Lo,iv p0.Ratio.Hi])) (obN (us:=[iv p0.Ratio.Lo,iv p0.Ratio.Hi]) kr (fun _ hd=>((hS.later hd).blk (i:=0) rfl).cells rfl))<|oX (.call [⟨31,true,(bif (Ac p0.Power 0 1073741824) then (decide (p0.Power.Lo>0)) else false)⟩] 174 #[.agg #[iv p0.Ratio.Lo,iv p0.Ratio.Hi],iv 0,iv 1000000] (.bool (Ac p0.Ratio 0 1000000))) (show Ob.ok _ Ext _ _ from fun hk w2 hd=>Ln p0.Ratio 0 1000000 _ rfl _ w2 (A5 w2))<|oX (.run [⟨36,true,(bif (bif (Ac p0.Power 0 1073741824) then (decide (p0.Power.Lo>0)) else false) then (Ac p0.Ratio 0 1000000) else false)⟩] (Instr.loadAt 146 (.pointer (some ⟨b1,10,none⟩))) (.agg #[iv p0.Match.Lo,iv p0.Match.Hi])) (obN (us:=[iv p0.Match.Lo,iv p0.Match.Hi]) kr (fun _ hd=>((hS.later hd).blk (i:=0) rfl).cells rfl))<|oX (.call [⟨36,true,(bif (bif (Ac p0.Power 0 1073741824) then (decide (p0.Power.Lo>0)) else false) then (Ac p0.Ratio 0 1000000) else false)⟩] 174 #[.agg #[iv p0.Match.Lo,iv p0.Match.Hi],iv 0,iv 1000] (.bool (Ac p0.Match 0 1000))) (show Ob.ok _ Ext _ _ from fun hk w2 hd=>Ln p0.Match 0 1000 _ rfl _ w2 (A5 w2))<|oX (.run [⟨41,true,(bif (bif (bif (Ac p0.Power 0 1073741824) then (decide (p0.Power.Lo>0)) else false) then (Ac p0.Ratio 0 1000000) else false) then (Ac p0.Match 0 1000) else false)⟩] (Instr.loadAt 3 (.pointer (some ⟨b1,7,none⟩))) (iv p0.Spread)) (ob1 kr (fun _ hd=>(hS.later hd).cell (i:=0) (j:=7) rfl rfl))<|oX (.call [⟨41,true,(bif (bif (bif (Ac p0.Power 0 1073741824) then (decide (p0.Power.Lo>0)) else false) then (Ac p0.Ratio 0 1000000) else false) then (Ac p0.Match 0 1000) else false)⟩] 171 #[iv p0.Spread,iv 0,iv 65535] (.bool (Aq p0.Spread 0 65535))) (show Ob.ok _ Ext _ _ from fun hk w2 hd=>Gt p0.Spread 0 65535 _ rfl _ w2 (A5 w2))<|A9) fun a w hF hx=>?_
    replace hS:=hS.later hx
    refine wfn rfl ?_
    refine qoB [(48,.bool (p0.Kind==2))] hF (oL 3 0 0 hS.i rfl rfl<|A9) fun a hF=>?_
    refine Aj hF rfl (fun hc=>?_) (fun hc=>?_)
    ·replace h:=Af h hc
     refine WI.region ?_
     refine ro 14 14 [(3,.bool (bif (bif (bif (bif (bif (bif (Ac p0.Power 0 1073741824) then (decide (p0.Power.Lo>0)) else false) then (Ac p0.Ratio 0 1000000) else false) then (Ac p0.Match 0 1000) else false) then (Aq p0.Spread 0 65535) else false) then ((((p0.Steps.1.Lo:Int)==0)&&(((p0.Steps.1.Hi:Int)==0)&&true))&&((((p0.Steps.2.Lo:Int)==0)&&(((p0.Steps.2.Hi:Int)==0)&&true))&&true)) else false) then (((p0.Turn.Lo:Int)==0)&&(((p0.Turn.Hi:Int)==0)&&true)) else false))] hF (oX (.run [⟨50,true,(bif (bif (bif (bif (Ac p0.Power 0 1073741824) then (decide (p0.Power.Lo>0)) else false) then (Ac p0.Ratio 0 1000000) else false) then (Ac p0.Match 0 1000) else false) then (Aq p0.Spread 0 65535) else false)⟩] (Instr.loadAt 147 (.pointer (some ⟨b1,3,none⟩))) (.agg #[iv p0.Steps.1.Lo,iv p0.Steps.1.Hi,iv p0.Steps.2.Lo,iv p0.Steps.2.Hi])) (obN (us:=[iv p0.Steps.1.Lo,iv p0.Steps.1.Hi,iv p0.Steps.2.Lo,iv p0.Steps.2.Hi]) kr (fun _ hd=>((hS.at_ hd).blk (i:=0) rfl).cells rfl))<|oX (.run [⟨50,true,(bif (bif (bif (bif (Ac p0.Power 0 1073741824) then (decide (p0.Power.Lo>0)) else false) then (Ac p0.Ratio 0 1000000) else false) then (Ac p0.Match 0 1000) else false) then (Aq p0.Spread 0 65535) else false)⟩] (eqS .eql 147 #[iv p0.Steps.1.Lo,iv p0.Steps.1.Hi,iv p0.Steps.2.Lo,iv p0.Steps.2.Hi] #[iv 0,iv 0,iv 0,iv 0]) (.bool ((((p0.Steps.1.Lo:Int)==0)&&(((p0.Steps.1.Hi:Int)==0)&&true))&&((((p0.Steps.2.Lo:Int)==0)&&(((p0.Steps.2.Hi:Int)==0)&&true))&&true)))) (Lf kr kr)<|oX (.run [⟨56,true,(bif (bif (bif (bif (bif (Ac p0.Power 0 1073741824) then (decide (p0.Power.Lo>0)) else false) then (Ac p0.Ratio 0 1000000) else false) then (Ac p0.Match 0 1000) else false) then (Aq p0.Spread 0 65535) else false) then ((((p0.Steps.1.Lo:Int)==0)&&(((p0.Steps.1.Hi:Int)==0)&&true))&&((((p0.Steps.2.Lo:Int)==0)&&(((p0.Steps.2.Hi:Int)==0)&&true))&&true)) else false)⟩] (Instr.loadAt 146 (.pointer (some ⟨b1,12,none⟩))) (.agg #[iv p0.Turn.Lo,iv p0.Turn.Hi])) (obN (us:=[iv p0.Turn.Lo,iv p0.Turn.Hi]) kr (fun _ hd=>((hS.at_ hd).blk (i:=0) rfl).cells rfl))<|oX (.run [⟨56,true,(bif (bif (bif (bif (bif (Ac p0.Power 0 1073741824) then (decide (p0.Power.Lo>0)) else false) then (Ac p0.Ratio 0 1000000) else false) then (Ac p0.Match 0 1000) else false) then (Aq p0.Spread 0 65535) else false) then ((((p0.Steps.1.Lo:Int)==0)&&(((p0.Steps.1.Hi:Int)==0)&&true))&&((((p0.Steps.2.Lo:Int)==0)&&(((p0.Steps.2.Hi:Int)==0)&&true))&&true)) else false)⟩] (eqS .eql 146 #[iv p0.Turn.Lo,iv p0.Turn.Hi] #[iv 0,iv 0]) (.bool (((p0.Turn.Lo:Int)==0)&&(((p0.Turn.Hi:Int)==0)&&true)))) (Lf kr kr)<|A9) fun a hF=>?_
     refine WI.fin rfl (Ab<|A0<|?_)
     exact ⟨bif (bif (bif (bif (bif (bif (Ac p0.Power 0 1073741824) then (decide (p0.Power.Lo>0)) else false) then (Ac p0.Ratio 0 1000000) else false) then (Ac p0.Match 0 1000) else false) then (Aq p0.Spread 0 65535) else false) then ((((p0.Steps.1.Lo:Int)==0)&&(((p0.Steps.1.Hi:Int)==0)&&true))&&((((p0.Steps.2.Lo:Int)==0)&&(((p0.Steps.2.Hi:Int)==0)&&true))&&true)) else false) then (((p0.Turn.Lo:Int)==0)&&(((p0.Turn.Hi:Int)==0)&&true)) else false,hF.sub kr,St.pick [0,1] (by decide) hS,h⟩
    ·replace h:=Ae h hc
     refine WI.region ?_
     refine qn 2 2 [(63,.bool (bif (bif (bif (bif (Ac p0.Power 0 1073741824) then (decide (p0.Power.Lo>0)) else false) then (Ac p0.Ratio 0 1000000) else false) then (Ac p0.Match 0 1000) else false) then (Aq p0.Spread 0 65535) else false))] hF fun a hF=>?_
     rcases Bool.eq_false_or_eq_true ((bif (bif (bif (bif (Ac p0.Power 0 1073741824) then (decide (p0.Power.Lo>0)) else false) then (Ac p0.Ratio 0 1000000) else false) then (Ac p0.Match 0 1000) else false) then (Aq p0.Spread 0 65535) else false)) with a0|a0
     ·replace h:=Af h a0
      rw [a0] at hF
      refine A14 (n:=8) (obs:=[.run [⟨63,true,true⟩] (Instr.indexAt 147 (.pointer (some ⟨b1,3,none⟩)) (iv 0)) (.pointer (some ⟨b1,3,none⟩)),.run [⟨63,true,true⟩] (Instr.loadAt 146 (.pointer (some ⟨b1,3,none⟩))) (.agg #[iv p0.Steps.1.Lo,iv p0.Steps.1.Hi]),.run [⟨63,true,true⟩] (Instr.indexAt 147 (.pointer (some ⟨b1,3,none⟩)) (iv 1)) (.pointer (some ⟨b1,5,none⟩)),.run [⟨63,true,true⟩] (Instr.loadAt 146 (.pointer (some ⟨b1,5,none⟩))) (.agg #[iv p0.Steps.2.Lo,iv p0.Steps.2.Hi]),.run [⟨63,true,true⟩] (Instr.loadAt 146 (.pointer (some ⟨b1,12,none⟩))) (.agg #[iv p0.Turn.Lo,iv p0.Turn.Hi])]) 10 [(3,⟨[],.bool true⟩),(63,⟨[],.bool true⟩),(66,⟨[⟨63,true,true⟩],.agg #[iv p0.Steps.1.Lo,iv p0.Steps.1.Hi]⟩),(69,⟨[⟨63,true,true⟩],.agg #[iv p0.Steps.2.Lo,iv p0.Steps.2.Hi]⟩),(71,⟨[⟨63,true,true⟩],.agg #[iv p0.Turn.Lo,iv p0.Turn.Hi]⟩)] hF kr (Ha (Bh kr) (Ha (obN (us:=[iv p0.Steps.1.Lo,iv p0.Steps.1.Hi]) kr (fun _ hd=>((hS.at_ hd).blk (i:=0) rfl).cells rfl)) (Ha (Bh kr) (Ha (obN (us:=[iv p0.Steps.2.Lo,iv p0.Steps.2.Hi]) kr (fun _ hd=>((hS.at_ hd).blk (i:=0) rfl).cells rfl)) (Ha (obN (us:=[iv p0.Turn.Lo,iv p0.Turn.Hi]) kr (fun _ hd=>((hS.at_ hd).blk (i:=0) rfl).cells rfl)) A9))))) ⟨kr⟩ kr rfl fun a hF=>?_
      replace hF:Fr 77 [] [(3,.bool true),(63,.bool true),(66,.agg #[iv p0.Steps.1.Lo,iv p0.Steps.1.Hi]),(69,.agg #[iv p0.Steps.2.Lo,iv p0.Steps.2.Hi]),(71,.agg #[iv p0.Turn.Lo,iv p0.Turn.Hi])] a:=hF
      refine SK.wi (Fe (e:=146) (sz:=2) (f:=api_Span.cells) (t:=44) (len:=3) (fun a1=>[(3,.bool true),(63,.bool true),(72,sb a1 3)]) #[(0,.agg #[iv p0.Steps.1.Lo,iv p0.Steps.1.Hi]),(1,.agg #[iv p0.Steps.2.Lo,iv p0.Steps.2.Hi]),(2,.agg #[iv p0.Turn.Lo,iv p0.Turn.Hi])] #[iv p0.Steps.1.Lo,iv p0.Steps.1.Hi,iv p0.Steps.2.Lo,iv p0.Steps.2.Hi,iv p0.Turn.Lo,iv p0.Turn.Hi] ([(api_Span.mk p0.Steps.1.Lo p0.Steps.1.Hi),(api_Span.mk p0.Steps.2.Lo p0.Steps.2.Hi),p0.Turn]) hF hS kr ⟨kr⟩ kr api_Span.cells_len rfl rfl kr (fun _=>⟨kr⟩) fun a1 w a hF hS=>?_)
      obtain ⟨a2,a3,h⟩:=A1 h
      refine rX 3 14 [(3,.bool a2)] hF (oX (.call [⟨63,true,true⟩] 175 #[sb a1 3] (.bool a2)) (show Ob.ok _ Ext _ _ from fun hk w2 hd=>Sa F ([(api_Span.mk p0.Steps.1.Lo p0.Steps.1.Hi),(api_Span.mk p0.Steps.2.Lo p0.Steps.2.Hi),p0.Turn]) _ ((fun _=>a3) hk) _ w2 (A5 w2) (Arr.toM ((hS.later hd).arr (i:=0) rfl)))<|A9) fun a w hF hx=>?_
      replace hS:=hS.later hx
      refine WI.fin rfl (Ab<|A0<|?_)
      exact ⟨a2,hF.sub kr,St.pick [1,2] (by decide) hS,h⟩
     ·replace h:=Ae h a0
      rw [a0] at hF
      refine Cr 3 [(1,pb b1),(3,.bool false),(63,.bool false),(64,undef)] hF kr ⟨kr⟩ ⟨kr⟩ rfl fun a hF=>?_
      refine Cr 4 [(1,pb b1),(3,.bool false),(63,.bool false),(65,undef)] hF kr ⟨kr⟩ ⟨kr⟩ rfl fun a hF=>?_
      refine Cr 5 [(1,pb b1),(3,.bool false),(63,.bool false),(66,undef)] hF kr ⟨kr⟩ ⟨kr⟩ rfl fun a hF=>?_
      refine Cr 6 [(1,pb b1),(3,.bool false),(63,.bool false),(66,undef),(67,undef)] hF kr ⟨kr⟩ ⟨kr⟩ rfl fun a hF=>?_
      refine Cr 7 [(1,pb b1),(3,.bool false),(63,.bool false),(66,undef),(68,undef)] hF kr ⟨kr⟩ ⟨kr⟩ rfl fun a hF=>?_
      refine Cr 8 [(1,pb b1),(3,.bool false),(63,.bool false),(66,undef),(69,undef)] hF kr ⟨kr⟩ ⟨kr⟩ rfl fun a hF=>?_
      refine Cr 9 [(3,.bool false),(63,.bool false),(66,undef),(69,undef),(70,undef)] hF kr ⟨kr⟩ ⟨kr⟩ rfl fun a hF=>?_
      refine Cr 10 [(3,.bool false),(63,.bool false),(66,undef),(69,undef),(71,undef)] hF kr ⟨kr⟩ ⟨kr⟩ rfl fun a hF=>?_
      refine Cr 11 [(3,.bool false),(63,.bool false),(72,undef)] hF kr ⟨kr⟩ ⟨kr⟩ rfl fun a hF=>?_
      refine Cr 12 [(3,.bool false),(63,.bool false),(73,undef)] hF kr ⟨kr⟩ ⟨kr⟩ rfl fun a hF=>?_
      refine rn 2 14 [(3,.bool false)] hF fun a hF=>?_
      refine WI.fin rfl (Ab<|A0<|?_)
      exact ⟨false,hF.sub kr,St.pick [0,1] (by decide) hS,h⟩
   ·replace h:=Ae h hc
    refine rnB [(2,iv 2)] hF fun a hF=>?_
    refine wpIn_ret (Ai<|A6<|Ad [.tmp 2] [iv 2] hF rfl ⟨rfl,trivial⟩ ?_)
    obtain rfl:=Ao h
    exact ⟨rfl,hS.ext⟩
 rintro a w ⟨c7,hF,hS,h⟩
 rw [Cy] at h
 refine Ar ?_
 refine rnB [(76,.bool (!c7))] hF fun a hF=>?_
 refine Aj hF rfl (fun hc=>?_) (fun hc=>?_)
 ·replace h:=Af h hc
  refine rnB [(2,iv 3)] hF fun a hF=>?_
  refine wpIn_ret (A6<|Ad [.tmp 2] [iv 3] hF rfl ⟨rfl,trivial⟩ ?_)
  obtain rfl:=Ao h
  exact ⟨rfl,hS.ext⟩
 ·replace h:=Ae h hc
  refine wpIn_skip (A0 ?_)
  refine rnB [(2,iv 0)] hF fun a hF=>?_
  refine wpIn_ret (Ad [.tmp 2] [iv 0] hF rfl ⟨rfl,trivial⟩ ?_)
  obtain rfl:=Ao h
  exact ⟨rfl,hS.ext⟩
theorem Gm (F:Nat) (p0:volume_writer) (p1:api_Span) (res:volume_writer) (h:D3 F p0 p1=some res) (μ:Frz) (w0 w1:World) (T_:List Res) (hlow:B4 w0 μ) {cb0:Nat} {ad1:Option Addr} {cap2:Nat} (hS:St w0 (fz w0 μ::blk cb0 138 #[sv ad1 p0.b cap2]::arrT 5 1 (fK .u8) ad1 p0.b.length cap2 p0.b::T_) w1):Bj Tryz.prog 173 #[pb cb0,.agg #[iv p1.Lo,iv p1.Hi]] w1 (fun e w=>∃(ν_:Frz) (a3:Option Addr) (a5:Nat),μ.ext w0.heap.size ν_∧B4 w0 ν_∧e=(.tuple #[])∧St w0 (fz w0 ν_::blk cb0 138 #[sv a3 res.b a5]::arrT 5 1 (fK .u8) a3 res.b.length a5 res.b::T_) w):=by
 rw [D3] at h
 have hext:=Frz.ext_refl w0.heap.size μ
 refine Ag Tryz.func173 rfl 17 [(0,pb cb0),(1,.agg #[iv p1.Lo,iv p1.Hi])] rfl rfl kr fun a w hw hF=>?_
 replace hS:=hS.cast hw
 clear hw
 refine esr ?_
 refine SK.wi (qB 146 (.agg #[iv p1.Lo,iv p1.Hi]) #[iv p1.Lo,iv p1.Hi] (fun b3=>[(3,pb b3)]) hF hS fun b3 w a hF hS=>?_)
 refine wfn rfl ?_
 refine esr ?_
 refine qo 3 3 [(4,pb cb0),(6,iv p1.Lo)] hF (oL 3 0 0 hS.i rfl rfl<|A9) fun a hF=>?_
 refine SK.wi (Fe (e:=3) (sz:=1) (f:=fI) (t:=69) (len:=1) (fun b4=>[(0,pb cb0),(3,pb b3),(4,pb cb0),(7,sb b4 1)]) #[(0,iv p1.Lo)] #[iv p1.Lo] ([p1.Lo]) hF hS kr ⟨kr⟩ kr Fu rfl rfl kr (fun _=>⟨kr⟩) fun b4 w a hF hS=>?_)
 obtain ⟨ν5,hx6,hlow,hS,hz7⟩:=hS.freeze (i:=2) (j:=0) rfl rfl (by decide) hlow
 replace hext:=Frz.ext_trans hext hx6
 have hA8:=ArrM.of_arr hz7
 obtain ⟨y9,hy9,h⟩:=A1 h
 replace hS:=hS.s3.s3.s3
 refine SK.wi (rR (fun aD=>[(0,pb cb0),(3,pb b3)]) hF (Ff F _ _ _ hy9 ν5 w0 w _ hlow hA8 hS) ?_)
 rintro aD w a ⟨ν10,aF,aG,a6,hlow,rfl,hS⟩ hF
 replace hext:=Frz.ext_trans hext a6
 replace hA8:=hA8.mono a6.1
 refine wfn rfl ?_
 refine WI.region ?_
 obtain ⟨a0,aA,h⟩:=A1 h
 refine ro 6 6 [(9,pb cb0),(14,iv a0)] hF (oL 3 3 1 hS.i rfl rfl<|oL 3 3 0 hS.i rfl rfl<|oS 3 aA<|A9) fun a hF=>?_
 refine SK.wi (Fe (e:=3) (sz:=1) (f:=fI) (t:=69) (len:=1) (fun a4=>[(9,pb cb0),(15,sb a4 1)]) #[(0,iv a0)] #[iv a0] ([a0]) hF hS kr ⟨kr⟩ kr Fu rfl rfl kr (fun _=>⟨kr⟩) fun a4 w a hF hS=>?_)
 obtain ⟨ν17,a7,hlow,hS,aC⟩:=hS.freeze (i:=1) (j:=0) rfl rfl (by decide) hlow
 replace hA8:=hA8.mono a7.1
 replace hext:=Frz.ext_trans hext a7
 have a1:=ArrM.of_arr aC
 obtain ⟨aH,aB,h⟩:=A1 h
 refine SK.wi (rR (fun aE=>[]) hF (As F _ _ _ aB ν17 w0 w _ hlow a1 hS) ?_)
 rintro aE w a ⟨ν22,a8,a9,a2,hlow,rfl,hS⟩ hF
 replace hext:=Frz.ext_trans hext a2
 replace hA8:=hA8.mono a2.1
 replace a1:=a1.mono a2.1
 refine WI.fin rfl ?_
 refine Hb hF rfl ?_
 obtain rfl:=Ao h
 replace hS:=hS.d3
 exact ⟨_,rfl,ν22,a8,a9,hext,hlow,rfl,hS⟩
theorem R8 (F:Nat) (p0:api_Echo) (res:Int) (h:Gv F p0=some res) (μ:Frz) (w0:World) (hm:FrzAt μ w0):Calls Tryz.prog 80 #[p0.ag] w0 (fun e w=>e=.returned (iv res)∧Ext w0 w):=by
 obtain ⟨hlow,hS⟩:=hm.init
 have hext:=Frz.ext_refl w0.heap.size μ
 rw [Gv] at h
 refine Ag Tryz.func80 rfl 129 [(0,p0.ag)] rfl rfl kr fun a w hw hF=>?_
 replace hS:=hS.cast hw
 clear hw
 refine esr ?_
 refine SK.wi (J6 (t:=149) (fun b1=>[(1,pb b1)]) (p0.ag) p0.ar hF hS kr ⟨kr⟩ kr (fun _=>⟨kr⟩) fun b1 w a hF hS=>?_)
 refine rn 1 2 [(1,pb b1)] hF fun a hF=>?_
 refine wfn rfl ?_
 refine Ar ?_
 refine qoB [(17,.bool (bif (bif (p0.Kind != 1) then (p0.Kind != 2) else false) then (p0.Kind != 3) else false))] hF (oL 3 0 0 hS.i rfl rfl<|oX (.run [⟨8,true,(p0.Kind != 1)⟩] (Instr.loadAt 3 (pb b1)) (iv p0.Kind)) (ob1 kr (fun _ hd=>(hS.at_ hd).cell (i:=0) (j:=0) rfl rfl))<|oX (.run [⟨13,true,(bif (p0.Kind != 1) then (p0.Kind != 2) else false)⟩] (Instr.loadAt 3 (pb b1)) (iv p0.Kind)) (ob1 kr (fun _ hd=>(hS.at_ hd).cell (i:=0) (j:=0) rfl rfl))<|A9) fun a hF=>?_
 refine Aj hF rfl (fun hc=>?_) (fun hc=>?_)
 ·replace h:=Af h hc
  refine rnB [(2,iv 2)] hF fun a hF=>?_
  refine wpIn_ret (A6<|Ad [.tmp 2] [iv 2] hF rfl ⟨rfl,trivial⟩ ?_)
  obtain rfl:=Ao h
  exact ⟨rfl,hS.ext⟩
 ·replace h:=Ae h hc
  refine wpIn_skip (A0 ?_)
  refine Ar ?_
  refine esr ?_
  refine qx 4 4 [(21,.bool (!(Bg p0.Power 0 1073741824)))] hF (oN 146 0 1 2 hS.e rfl<|oC (fun w2 hd=>K5 p0.Power 0 1073741824 _ rfl _ w2 (A5 w2))<|A9) fun a w hF hx=>?_
  replace hS:=hS.later hx
  refine wfn rfl ?_
  refine Aj hF rfl (fun hc=>?_) (fun hc=>?_)
  ·replace h:=Af h hc
   refine rnB [(2,iv 3)] hF fun a hF=>?_
   refine wpIn_ret (A6<|Ad [.tmp 2] [iv 3] hF rfl ⟨rfl,trivial⟩ ?_)
   obtain rfl:=Ao h
   exact ⟨rfl,hS.ext⟩
  ·replace h:=Ae h hc
   refine wpIn_skip (A0 ?_)
   refine Ar ?_
   refine qoB [(24,.bool (p0.Kind==1))] hF (oL 3 0 0 hS.i rfl rfl<|A9) fun a hF=>?_
   refine Aj hF rfl (fun hc=>?_) (fun hc=>?_)
   ·replace h:=Af h hc
    refine esr ?_
    refine qn 1 1 [(25,.agg #[iv 0,iv 0])] hF fun a hF=>?_
    refine SK.wi (qA 146 #[iv 0,iv 0] (fun b2=>[(3,pb b2)]) hF hS fun b2 w a hF hS=>?_)
    refine SK.wi (qS 146 0 0 (.agg #[iv 0,iv 0]) #[iv 0,iv 0] hF hS rfl fun w a hF hS=>?_)
    refine wfn rfl ?_
    refine Ar ?_
    refine roB [(66,.bool (bif (bif (bif (bif (bif (bif (p0.Power.Lo != 0) then true else (!(((p0.Steps.1.Lo:Int)==0)&&(((p0.Steps.1.Hi:Int)==0)&&true)))) then true else (!(((p0.Steps.2.Lo:Int)==0)&&(((p0.Steps.2.Hi:Int)==0)&&true)))) then true else (p0.Spread != 0)) then true else (!(((p0.Ratio.Lo:Int)==0)&&(((p0.Ratio.Hi:Int)==0)&&true)))) then true else (!(((p0.Match.Lo:Int)==0)&&(((p0.Match.Hi:Int)==0)&&true)))) then true else (!(((p0.Turn.Lo:Int)==0)&&(((p0.Turn.Hi:Int)==0)&&true)))))] hF (oL 3 1 1 hS.i rfl rfl<|oX (.run [⟨30,false,(p0.Power.Lo != 0)⟩] (Instr.indexAt 147 (.pointer (some ⟨b1,3,none⟩)) (iv 0)) (.pointer (some ⟨b1,3,none⟩))) (Bh kr)<|oX (.run [⟨30,false,(p0.Power.Lo != 0)⟩] (Instr.loadAt 146 (.pointer (some ⟨b1,3,none⟩))) (.agg #[iv p0.Steps.1.Lo,iv p0.Steps.1.Hi])) (obN (us:=[iv p0.Steps.1.Lo,iv p0.Steps.1.Hi]) kr (fun _ hd=>((hS.at_ hd).blk (i:=1) rfl).cells rfl))<|oX (.run [⟨30,false,(p0.Power.Lo != 0)⟩] (Instr.loadAt 146 (pb b2)) (.agg #[iv 0,iv 0])) (obN (us:=[iv 0,iv 0]) kr (fun _ hd=>((hS.at_ hd).blk (i:=0) rfl).cells rfl))<|oX (.run [⟨30,false,(p0.Power.Lo != 0)⟩] (eqS .neq 146 #[iv p0.Steps.1.Lo,iv p0.Steps.1.Hi] #[iv 0,iv 0]) (.bool (!(((p0.Steps.1.Lo:Int)==0)&&(((p0.Steps.1.Hi:Int)==0)&&true))))) (Pa kr kr)<|oX (.run [⟨37,false,(bif (p0.Power.Lo != 0) then true else (!(((p0.Steps.1.Lo:Int)==0)&&(((p0.Steps.1.Hi:Int)==0)&&true))))⟩] (Instr.indexAt 147 (.pointer (some ⟨b1,3,none⟩)) (iv 1)) (.pointer (some ⟨b1,5,none⟩))) (Bh kr)<|oX (.run [⟨37,false,(bif (p0.Power.Lo != 0) then true else (!(((p0.Steps.1.Lo:Int)==0)&&(((p0.Steps.1.Hi:Int)==0)&&true))))⟩] (Instr.loadAt 146 (.pointer (some ⟨b1,5,none⟩))) (.agg #[iv p0.Steps.2.Lo,iv p0.Steps.2.Hi])) (obN (us:=[iv p0.Steps.2.Lo,iv p0.Steps.2.Hi]) kr (fun _ hd=>((hS.at_ hd).blk (i:=1) rfl).cells rfl))<|oX (.run [⟨37,false,(bif (p0.Power.Lo != 0) then true else (!(((p0.Steps.1.Lo:Int)==0)&&(((p0.Steps.1.Hi:Int)==0)&&true))))⟩] (Instr.loadAt 146 (pb b2)) (.agg #[iv 0,iv 0])) (obN (us:=[iv 0,iv 0]) kr (fun _ hd=>((hS.at_ hd).blk (i:=0) rfl).cells rfl))<|oX (.run [⟨37,false,(bif (p0.Power.Lo != 0) then true else (!(((p0.Steps.1.Lo:Int)==0)&&(((p0.Steps.1.Hi:Int)==0)&&true))))⟩] (eqS .neq 146 #[iv p0.Steps.2.Lo,iv p0.Steps.2.Hi] #[iv 0,iv 0]) (.bool (!(((p0.Steps.2.Lo:Int)==0)&&(((p0.Steps.2.Hi:Int)==0)&&true))))) (Pa kr kr)<|oX (.run [⟨44,false,(bif (bif (p0.Power.Lo != 0) then true else (!(((p0.Steps.1.Lo:Int)==0)&&(((p0.Steps.1.Hi:Int)==0)&&true)))) then true else (!(((p0.Steps.2.Lo:Int)==0)&&(((p0.Steps.2.Hi:Int)==0)&&true))))⟩] (Instr.loadAt 3 (.pointer (some ⟨b1,7,none⟩))) (iv p0.Spread)) (ob1 kr (fun _ hd=>(hS.at_ hd).cell (i:=1) (j:=7) rfl rfl))<|oX (.run [⟨49,false,(bif (bif (bif (p0.Power.Lo != 0) then true else (!(((p0.Steps.1.Lo:Int)==0)&&(((p0.Steps.1.Hi:Int)==0)&&true)))) then true else (!(((p0.Steps.2.Lo:Int)==0)&&(((p0.Steps.2.Hi:Int)==0)&&true)))) then true else (p0.Spread != 0))⟩] (Instr.loadAt 146 (.pointer (some ⟨b1,8,none⟩))) (.agg #[iv p0.Ratio.Lo,iv p0.Ratio.Hi])) (obN (us:=[iv p0.Ratio.Lo,iv p0.Ratio.Hi]) kr (fun _ hd=>((hS.at_ hd).blk (i:=1) rfl).cells rfl))<|oX (.run [⟨49,false,(bif (bif (bif (p0.Power.Lo != 0) then true else (!(((p0.Steps.1.Lo:Int)==0)&&(((p0.Steps.1.Hi:Int)==0)&&true)))) then true else (!(((p0.Steps.2.Lo:Int)==0)&&(((p0.Steps.2.Hi:Int)==0)&&true)))) then true else (p0.Spread != 0))⟩] (Instr.loadAt 146 (pb b2)) (.agg #[iv 0,iv 0])) (obN (us:=[iv 0,iv 0]) kr (fun _ hd=>((hS.at_ hd).blk (i:=0) rfl).cells rfl))<|oX (.run [⟨49,false,(bif (bif (bif (p0.Power.Lo != 0) then true else (!(((p0.Steps.1.Lo:Int)==0)&&(((p0.Steps.1.Hi:Int)==0)&&true)))) then true else (!(((p0.Steps.2.Lo:Int)==0)&&(((p0.Steps.2.Hi:Int)==0)&&true)))) then true else (p0.Spread != 0))⟩] (eqS .neq 146 #[iv p0.Ratio.Lo,iv p0.Ratio.Hi] #[iv 0,iv 0]) (.bool (!(((p0.Ratio.Lo:Int)==0)&&(((p0.Ratio.Hi:Int)==0)&&true))))) (Pa kr kr)<|oX (.run [⟨55,false,(bif (bif (bif (bif (p0.Power.Lo != 0) then true else (!(((p0.Steps.1.Lo:Int)==0)&&(((p0.Steps.1.Hi:Int)==0)&&true)))) then true else (!(((p0.Steps.2.Lo:Int)==0)&&(((p0.Steps.2.Hi:Int)==0)&&true)))) then true else (p0.Spread != 0)) then true else (!(((p0.Ratio.Lo:Int)==0)&&(((p0.Ratio.Hi:Int)==0)&&true))))⟩] (Instr.loadAt 146 (.pointer (some ⟨b1,10,none⟩))) (.agg #[iv p0.Match.Lo,iv p0.Match.Hi])) (obN (us:=[iv p0.Match.Lo,iv p0.Match.Hi]) kr (fun _ hd=>((hS.at_ hd).blk (i:=1) rfl).cells rfl))<|oX (.run [⟨55,false,(bif (bif (bif (bif (p0.Power.Lo != 0) then true else (!(((p0.Steps.1.Lo:Int)==0)&&(((p0.Steps.1.Hi:Int)==0)&&true)))) then true else (!(((p0.Steps.2.Lo:Int)==0)&&(((p0.Steps.2.Hi:Int)==0)&&true)))) then true else (p0.Spread != 0)) then true else (!(((p0.Ratio.Lo:Int)==0)&&(((p0.Ratio.Hi:Int)==0)&&true))))⟩] (Instr.loadAt 146 (pb b2)) (.agg #[iv 0,iv 0])) (obN (us:=[iv 0,iv 0]) kr (fun _ hd=>((hS.at_ hd).blk (i:=0) rfl).cells rfl))<|oX (.run [⟨55,false,(bif (bif (bif (bif (p0.Power.Lo != 0) then true else (!(((p0.Steps.1.Lo:Int)==0)&&(((p0.Steps.1.Hi:Int)==0)&&true)))) then true else (!(((p0.Steps.2.Lo:Int)==0)&&(((p0.Steps.2.Hi:Int)==0)&&true)))) then true else (p0.Spread != 0)) then true else (!(((p0.Ratio.Lo:Int)==0)&&(((p0.Ratio.Hi:Int)==0)&&true))))⟩] (eqS .neq 146 #[iv p0.Match.Lo,iv p0.Match.Hi] #[iv 0,iv 0]) (.bool (!(((p0.Match.Lo:Int)==0)&&(((p0.Match.Hi:Int)==0)&&true))))) (Pa kr kr)<|oX (.run [⟨61,false,(bif (bif (bif (bif (bif (p0.Power.Lo != 0) then true else (!(((p0.Steps.1.Lo:Int)==0)&&(((p0.Steps.1.Hi:Int)==0)&&true)))) then true else (!(((p0.Steps.2.Lo:Int)==0)&&(((p0.Steps.2.Hi:Int)==0)&&true)))) then true else (p0.Spread != 0)) then true else (!(((p0.Ratio.Lo:Int)==0)&&(((p0.Ratio.Hi:Int)==0)&&true)))) then true else (!(((p0.Match.Lo:Int)==0)&&(((p0.Match.Hi:Int)==0)&&true))))⟩] (Instr.loadAt 146 (.pointer (some ⟨b1,12,none⟩))) (.agg #[iv p0.Turn.Lo,iv p0.Turn.Hi])) (obN (us:=[iv p0.Turn.Lo,iv p0.Turn.Hi]) kr (fun _ hd=>((hS.at_ hd).blk (i:=1) rfl).cells rfl))<|oX (.run [⟨61,false,(bif (bif (bif (bif (bif (p0.Power.Lo != 0) then true else (!(((p0.Steps.1.Lo:Int)==0)&&(((p0.Steps.1.Hi:Int)==0)&&true)))) then true else (!(((p0.Steps.2.Lo:Int)==0)&&(((p0.Steps.2.Hi:Int)==0)&&true)))) then true else (p0.Spread != 0)) then true else (!(((p0.Ratio.Lo:Int)==0)&&(((p0.Ratio.Hi:Int)==0)&&true)))) then true else (!(((p0.Match.Lo:Int)==0)&&(((p0.Match.Hi:Int)==0)&&true))))⟩] (Instr.loadAt 146 (pb b2)) (.agg #[iv 0,iv 0])) (obN (us:=[iv 0,iv 0]) kr (fun _ hd=>((hS.at_ hd).blk (i:=0) rfl).cells rfl))<|oX (.run [⟨61,false,(bif (bif (bif (bif (bif (p0.Power.Lo != 0) then true else (!(((p0.Steps.1.Lo:Int)==0)&&(((p0.Steps.1.Hi:Int)==0)&&true)))) then true else (!(((p0.Steps.2.Lo:Int)==0)&&(((p0.Steps.2.Hi:Int)==0)&&true)))) then true else (p0.Spread != 0)) then true else (!(((p0.Ratio.Lo:Int)==0)&&(((p0.Ratio.Hi:Int)==0)&&true)))) then true else (!(((p0.Match.Lo:Int)==0)&&(((p0.Match.Hi:Int)==0)&&true))))⟩] (eqS .neq 146 #[iv p0.Turn.Lo,iv p0.Turn.Hi] #[iv 0,iv 0]) (.bool (!(((p0.Turn.Lo:Int)==0)&&(((p0.Turn.Hi:Int)==0)&&true))))) (Pa kr kr)<|A9) fun a hF=>?_
    refine Aj hF rfl (fun hc=>?_) (fun hc=>?_)
    ·replace h:=Af h hc
     refine rnB [(2,iv 3)] hF fun a hF=>?_
     refine wpIn_ret (A6<|A6<|Ad [.tmp 2] [iv 3] hF rfl ⟨rfl,trivial⟩ ?_)
     obtain rfl:=Ao h
     exact ⟨rfl,hS.ext⟩
    ·replace h:=Ae h hc
     refine wpIn_skip (A0 ?_)
     refine rnB [(2,iv 0)] hF fun a hF=>?_
     refine wpIn_ret (A6<|Ad [.tmp 2] [iv 0] hF rfl ⟨rfl,trivial⟩ ?_)
     obtain rfl:=Ao h
     exact ⟨rfl,hS.ext⟩
   ·replace h:=Ae h hc
    refine wpIn_skip (A0 ?_)
    refine Ar ?_
    refine esr ?_
    refine qx 22 22 [(88,.bool (bif (bif (bif (decide (p0.Power.Lo<1)) then true else (!(Bg p0.Ratio 0 1000000))) then true else (!(Bg p0.Match 0 1000))) then true else (!(A8 p0.Spread 0 65535))))] hF (oL 3 0 1 hS.e rfl rfl<|oX (.run [⟨71,false,(decide (p0.Power.Lo<1))⟩] (Instr.loadAt 146 (.pointer (some ⟨b1,8,none⟩))) (.agg #[iv p0.Ratio.Lo,iv p0.Ratio.Hi])) (obN (us:=[iv p0.Ratio.Lo,iv p0.Ratio.Hi]) kr (fun _ hd=>((hS.later hd).blk (i:=0) rfl).cells rfl))<|oX (.call [⟨71,false,(decide (p0.Power.Lo<1))⟩] 109 #[.agg #[iv p0.Ratio.Lo,iv p0.Ratio.Hi],iv 0,iv 1000000] (.bool (Bg p0.Ratio 0 1000000))) (show Ob.ok _ Ext _ _ from fun hk w2 hd=>K5 p0.Ratio 0 1000000 _ rfl _ w2 (A5 w2))<|oX (.run [⟨77,false,(bif (decide (p0.Power.Lo<1)) then true else (!(Bg p0.Ratio 0 1000000)))⟩] (Instr.loadAt 146 (.pointer (some ⟨b1,10,none⟩))) (.agg #[iv p0.Match.Lo,iv p0.Match.Hi])) (obN (us:=[iv p0.Match.Lo,iv p0.Match.Hi]) kr (fun _ hd=>((hS.later hd).blk (i:=0) rfl).cells rfl))<|oX (.call [⟨77,false,(bif (decide (p0.Power.Lo<1)) then true else (!(Bg p0.Ratio 0 1000000)))⟩] 109 #[.agg #[iv p0.Match.Lo,iv p0.Match.Hi],iv 0,iv 1000] (.bool (Bg p0.Match 0 1000))) (show Ob.ok _ Ext _ _ from fun hk w2 hd=>K5 p0.Match 0 1000 _ rfl _ w2 (A5 w2))<|oX (.run [⟨83,false,(bif (bif (decide (p0.Power.Lo<1)) then true else (!(Bg p0.Ratio 0 1000000))) then true else (!(Bg p0.Match 0 1000)))⟩] (Instr.loadAt 3 (.pointer (some ⟨b1,7,none⟩))) (iv p0.Spread)) (ob1 kr (fun _ hd=>(hS.later hd).cell (i:=0) (j:=7) rfl rfl))<|oX (.call [⟨83,false,(bif (bif (decide (p0.Power.Lo<1)) then true else (!(Bg p0.Ratio 0 1000000))) then true else (!(Bg p0.Match 0 1000)))⟩] 46 #[iv p0.Spread,iv 0,iv 65535] (.bool (A8 p0.Spread 0 65535))) (show Ob.ok _ Ext _ _ from fun hk w2 hd=>C1 p0.Spread 0 65535 _ rfl _ w2 (A5 w2))<|A9) fun a w hF hx=>?_
    replace hS:=hS.later hx
    refine wfn rfl ?_
    refine Aj hF rfl (fun hc=>?_) (fun hc=>?_)
    ·replace h:=Af h hc
     refine rnB [(2,iv 3)] hF fun a hF=>?_
     refine wpIn_ret (A6<|Ad [.tmp 2] [iv 3] hF rfl ⟨rfl,trivial⟩ ?_)
     obtain rfl:=Ao h
     exact ⟨rfl,hS.ext⟩
    ·replace h:=Ae h hc
     refine wpIn_skip (A0 ?_)
     refine Ar ?_
     refine qoB [(91,.bool (p0.Kind==2))] hF (oL 3 0 0 hS.i rfl rfl<|A9) fun a hF=>?_
     refine Aj hF rfl (fun hc=>?_) (fun hc=>?_)
     ·replace h:=Af h hc
      refine esr ?_
      refine qn 1 1 [(92,.agg #[iv 0,iv 0])] hF fun a hF=>?_
      refine SK.wi (qA 146 #[iv 0,iv 0] (fun b3=>[(4,pb b3)]) hF hS fun b3 w a hF hS=>?_)
      refine SK.wi (qS 146 0 0 (.agg #[iv 0,iv 0]) #[iv 0,iv 0] hF hS rfl fun w a hF hS=>?_)
      refine wfn rfl ?_
      refine Ar ?_
      refine roB [(110,.bool (bif (bif (!(((p0.Steps.1.Lo:Int)==0)&&(((p0.Steps.1.Hi:Int)==0)&&true))) then true else (!(((p0.Steps.2.Lo:Int)==0)&&(((p0.Steps.2.Hi:Int)==0)&&true)))) then true else (!(((p0.Turn.Lo:Int)==0)&&(((p0.Turn.Hi:Int)==0)&&true)))))] hF (oX (.run [] (Instr.indexAt 147 (.pointer (some ⟨b1,3,none⟩)) (iv 0)) (.pointer (some ⟨b1,3,none⟩))) (Bh kr)<|oN 146 1 3 2 hS.i rfl<|oN 146 0 0 2 hS.i rfl<|oX (.run [] (eqS .neq 146 #[iv p0.Steps.1.Lo,iv p0.Steps.1.Hi] #[iv 0,iv 0]) (.bool (!(((p0.Steps.1.Lo:Int)==0)&&(((p0.Steps.1.Hi:Int)==0)&&true))))) (Pa kr kr)<|oX (.run [⟨98,false,(!(((p0.Steps.1.Lo:Int)==0)&&(((p0.Steps.1.Hi:Int)==0)&&true)))⟩] (Instr.indexAt 147 (.pointer (some ⟨b1,3,none⟩)) (iv 1)) (.pointer (some ⟨b1,5,none⟩))) (Bh kr)<|oX (.run [⟨98,false,(!(((p0.Steps.1.Lo:Int)==0)&&(((p0.Steps.1.Hi:Int)==0)&&true)))⟩] (Instr.loadAt 146 (.pointer (some ⟨b1,5,none⟩))) (.agg #[iv p0.Steps.2.Lo,iv p0.Steps.2.Hi])) (obN (us:=[iv p0.Steps.2.Lo,iv p0.Steps.2.Hi]) kr (fun _ hd=>((hS.at_ hd).blk (i:=1) rfl).cells rfl))<|oX (.run [⟨98,false,(!(((p0.Steps.1.Lo:Int)==0)&&(((p0.Steps.1.Hi:Int)==0)&&true)))⟩] (Instr.loadAt 146 (pb b3)) (.agg #[iv 0,iv 0])) (obN (us:=[iv 0,iv 0]) kr (fun _ hd=>((hS.at_ hd).blk (i:=0) rfl).cells rfl))<|oX (.run [⟨98,false,(!(((p0.Steps.1.Lo:Int)==0)&&(((p0.Steps.1.Hi:Int)==0)&&true)))⟩] (eqS .neq 146 #[iv p0.Steps.2.Lo,iv p0.Steps.2.Hi] #[iv 0,iv 0]) (.bool (!(((p0.Steps.2.Lo:Int)==0)&&(((p0.Steps.2.Hi:Int)==0)&&true))))) (Pa kr kr)<|oX (.run [⟨105,false,(bif (!(((p0.Steps.1.Lo:Int)==0)&&(((p0.Steps.1.Hi:Int)==0)&&true))) then true else (!(((p0.Steps.2.Lo:Int)==0)&&(((p0.Steps.2.Hi:Int)==0)&&true))))⟩] (Instr.loadAt 146 (.pointer (some ⟨b1,12,none⟩))) (.agg #[iv p0.Turn.Lo,iv p0.Turn.Hi])) (obN (us:=[iv p0.Turn.Lo,iv p0.Turn.Hi]) kr (fun _ hd=>((hS.at_ hd).blk (i:=1) rfl).cells rfl))<|oX (.run [⟨105,false,(bif (!(((p0.Steps.1.Lo:Int)==0)&&(((p0.Steps.1.Hi:Int)==0)&&true))) then true else (!(((p0.Steps.2.Lo:Int)==0)&&(((p0.Steps.2.Hi:Int)==0)&&true))))⟩] (Instr.loadAt 146 (pb b3)) (.agg #[iv 0,iv 0])) (obN (us:=[iv 0,iv 0]) kr (fun _ hd=>((hS.at_ hd).blk (i:=0) rfl).cells rfl))<|oX (.run [⟨105,false,(bif (!(((p0.Steps.1.Lo:Int)==0)&&(((p0.Steps.1.Hi:Int)==0)&&true))) then true else (!(((p0.Steps.2.Lo:Int)==0)&&(((p0.Steps.2.Hi:Int)==0)&&true))))⟩] (eqS .neq 146 #[iv p0.Turn.Lo,iv p0.Turn.Hi] #[iv 0,iv 0]) (.bool (!(((p0.Turn.Lo:Int)==0)&&(((p0.Turn.Hi:Int)==0)&&true))))) (Pa kr kr)<|A9) fun a hF=>?_
      refine Aj hF rfl (fun hc=>?_) (fun hc=>?_)
      ·replace h:=Af h hc
       refine rnB [(2,iv 3)] hF fun a hF=>?_
       refine wpIn_ret (A6<|A6<|Ad [.tmp 2] [iv 3] hF rfl ⟨rfl,trivial⟩ ?_)
       obtain rfl:=Ao h
       exact ⟨rfl,hS.ext⟩
      ·replace h:=Ae h hc
       refine wpIn_skip (A0 ?_)
       refine rnB [(2,iv 0)] hF fun a hF=>?_
       refine wpIn_ret (A6<|Ad [.tmp 2] [iv 0] hF rfl ⟨rfl,trivial⟩ ?_)
       obtain rfl:=Ao h
       exact ⟨rfl,hS.ext⟩
     ·replace h:=Ae h hc
      refine wpIn_skip (A0 ?_)
      refine Ar ?_
      refine esr ?_
      obtain ⟨y4,hy4,h⟩:=A1 h
      obtain ⟨y5,hy5,h⟩:=A1 h
      obtain ⟨y6,hy6,h⟩:=A1 h
      refine rX 18 18 [(128,.bool (bif (bif (!y4) then true else (!y5)) then true else (!y6)))] hF (oX (.run [] (Instr.indexAt 147 (.pointer (some ⟨b1,3,none⟩)) (iv 0)) (.pointer (some ⟨b1,3,none⟩))) (Bh kr)<|oN 146 0 3 2 hS.e rfl<|oC (fun w2 hd=>Mi F (api_Span.mk p0.Steps.1.Lo p0.Steps.1.Hi) _ hy4 _ w2 (A5 w2))<|oX (.run [⟨116,false,(!y4)⟩] (Instr.indexAt 147 (.pointer (some ⟨b1,3,none⟩)) (iv 1)) (.pointer (some ⟨b1,5,none⟩))) (Bh kr)<|oX (.run [⟨116,false,(!y4)⟩] (Instr.loadAt 146 (.pointer (some ⟨b1,5,none⟩))) (.agg #[iv p0.Steps.2.Lo,iv p0.Steps.2.Hi])) (obN (us:=[iv p0.Steps.2.Lo,iv p0.Steps.2.Hi]) kr (fun _ hd=>((hS.later hd).blk (i:=0) rfl).cells rfl))<|oX (.call [⟨116,false,(!y4)⟩] 110 #[.agg #[iv p0.Steps.2.Lo,iv p0.Steps.2.Hi]] (.bool y5)) (show Ob.ok _ Ext _ _ from fun hk w2 hd=>Mi F (api_Span.mk p0.Steps.2.Lo p0.Steps.2.Hi) _ ((fun hk=>Cx hy5 hk) hk) _ w2 (A5 w2))<|oX (.run [⟨123,false,(bif (!y4) then true else (!y5))⟩] (Instr.loadAt 146 (.pointer (some ⟨b1,12,none⟩))) (.agg #[iv p0.Turn.Lo,iv p0.Turn.Hi])) (obN (us:=[iv p0.Turn.Lo,iv p0.Turn.Hi]) kr (fun _ hd=>((hS.later hd).blk (i:=0) rfl).cells rfl))<|oX (.call [⟨123,false,(bif (!y4) then true else (!y5))⟩] 110 #[.agg #[iv p0.Turn.Lo,iv p0.Turn.Hi]] (.bool y6)) (show Ob.ok _ Ext _ _ from fun hk w2 hd=>Mi F p0.Turn _ ((fun hk=>Cx hy6 hk) hk) _ w2 (A5 w2))<|A9) fun a w hF hx=>?_
      replace hS:=hS.later hx
      refine wfn rfl ?_
      refine Aj hF rfl (fun hc=>?_) (fun hc=>?_)
      ·replace h:=Af h hc
       refine rnB [(2,iv 3)] hF fun a hF=>?_
       refine wpIn_ret (A6<|Ad [.tmp 2] [iv 3] hF rfl ⟨rfl,trivial⟩ ?_)
       obtain rfl:=Ao h
       exact ⟨rfl,hS.ext⟩
      ·replace h:=Ae h hc
       refine wpIn_skip (A0 ?_)
       refine rnB [(2,iv 0)] hF fun a hF=>?_
       refine wpIn_ret (Ad [.tmp 2] [iv 0] hF rfl ⟨rfl,trivial⟩ ?_)
       obtain rfl:=Ao h
       exact ⟨rfl,hS.ext⟩
theorem Uc (F:Nat) (p0:api_Field) (p1:Int) (res:Int) (h:P2 F p0 p1=some res) (μ:Frz) (w0:World) (hm:FrzAt μ w0) {ad1:Option Addr} {cap2:Nat} (hA3:ArrM μ 2 api_Span.cells ad1 cap2 p0.Vals):Calls Tryz.prog 81 #[.agg #[iv p0.Grid.X,iv p0.Grid.Y,iv p0.Grid.Size,iv p0.Grid.Wide,iv p0.Grid.High,sv ad1 p0.Vals cap2],iv p1] w0 (fun e w=>e=.returned (iv res)∧Ext w0 w):=by
 obtain ⟨hlow,hS⟩:=hm.init
 have hext:=Frz.ext_refl w0.heap.size μ
 rw [P2] at h
 refine Ag Tryz.func81 rfl 39 [(0,.agg #[iv p0.Grid.X,iv p0.Grid.Y,iv p0.Grid.Size,iv p0.Grid.Wide,iv p0.Grid.High,sv ad1 p0.Vals cap2]),(1,iv p1)] rfl rfl kr fun a w hw hF=>?_
 replace hS:=hS.cast hw
 clear hw
 refine esr ?_
 refine SK.wi (qB 46 (.agg #[iv p0.Grid.X,iv p0.Grid.Y,iv p0.Grid.Size,iv p0.Grid.Wide,iv p0.Grid.High,sv ad1 p0.Vals cap2]) #[iv p0.Grid.X,iv p0.Grid.Y,iv p0.Grid.Size,iv p0.Grid.Wide,iv p0.Grid.High,sv ad1 p0.Vals cap2] (fun b4=>[(2,pb b4)]) hF hS fun b4 w a hF hS=>?_)
 refine qn 1 2 [] hF fun a hF=>?_
 refine wfn rfl ?_
 refine esr ?_
 refine qx 4 4 [(5,iv (Cz p0.Grid))] hF (oN 43 0 0 5 hS.e rfl<|oC (fun w2 hd=>R6 p0.Grid _ rfl _ w2 (A5 w2))<|A9) fun a w hF hx=>?_
 replace hS:=hS.later hx
 refine wfn rfl ?_
 refine Ar ?_
 refine qnB [(11,.bool ((Cz p0.Grid) != 0))] hF fun a hF=>?_
 refine Aj hF rfl (fun hc=>?_) (fun hc=>?_)
 ·replace h:=Af h hc
  refine rnB [(4,iv (Cz p0.Grid))] hF fun a hF=>?_
  refine wpIn_ret (A6<|Ad [.tmp 4] [iv (Cz p0.Grid)] hF rfl ⟨rfl,trivial⟩ ?_)
  obtain rfl:=Ao h
  exact ⟨rfl,hS.ext⟩
 ·replace h:=Ae h hc
  refine wpIn_skip (A0 ?_)
  refine Ar ?_
  refine esr ?_
  obtain ⟨x5,hx5,h⟩:=A1 h
  refine qo 11 11 [(23,.bool ((ln p0.Vals) != x5))] hF (oL 44 0 5 hS.i rfl rfl<|oL 3 0 3 hS.i rfl rfl<|oL 3 0 4 hS.i rfl rfl<|oM 3 hx5<|A9) fun a hF=>?_
  refine wfn rfl ?_
  refine Aj hF rfl (fun hc=>?_) (fun hc=>?_)
  ·replace h:=Af h hc
   refine rnB [(4,iv 11)] hF fun a hF=>?_
   refine wpIn_ret (A6<|Ad [.tmp 4] [iv 11] hF rfl ⟨rfl,trivial⟩ ?_)
   obtain rfl:=Ao h
   exact ⟨rfl,hS.ext⟩
  ·replace h:=Ae h hc
   refine wpIn_skip (A0 ?_)
   refine D9 (fun a w=>Fr 39 [] [] a∧St w0 [blk b4 46 #[iv p0.Grid.X,iv p0.Grid.Y,iv p0.Grid.Size,iv p0.Grid.Wide,iv p0.Grid.High,sv ad1 p0.Vals cap2],fz w0 μ] w∧N6=some res) ?_ ?_
   ·skip
    refine qnB [(6,iv 0)] hF fun a hF=>?_
    refine wpIn_block ?_
    refine Ci (fun n_ a w=>∃(a0:Int),Fr 39 [] [(1,iv p1),(2,pb b4),(6,iv a0)] a∧St w0 [blk b4 46 #[iv p0.Grid.X,iv p0.Grid.Y,iv p0.Grid.Size,iv p0.Grid.Wide,iv p0.Grid.High,sv ad1 p0.Vals cap2],fz w0 μ] w∧H5 p0 p1 n_ a0=some res) F ⟨0,hF.sub kr,St.pick [0,1] (by decide) hS,h⟩ ?_
    rintro nk2 a w ⟨a0,hF,hS,h⟩
    rcases nk2 with _|nk2
    ·cases (show (none:Option Int)=some res from h)
    obtain ⟨k2,hk2⟩:∃k,k=H5 p0 p1 nk2:=⟨_,rfl⟩
    replace h:L7 p0 p1 k2 a0=some res:=by rw [hk2];exact h
    rw [L7] at h
    refine Ar ?_
    refine qoB [(28,.bool (decide (a0<(ln p0.Vals))))] hF (oL 44 0 5 hS.i rfl rfl<|A9) fun a hF=>?_
    refine Aj hF rfl (fun hc=>?_) (fun hc=>?_)
    ·replace h:=Af h hc
     refine wpIn_skip (A0 ?_)
     refine Ar ?_
     refine wpIn_block ?_
     refine esr ?_
     obtain ⟨a2,a1,h⟩:=A1 h
     refine qx 8 8 [(38,.bool (!(Bg a2 0 p1)))] hF (oL 44 0 5 hS.e rfl rfl<|oI 44 (hA3 _ (hS.frz (i:=1) rfl hlow)) a1<|oG 146 0 2 api_Span.cells_len (fun _ hd=>(hA3 _ ((hS.later hd).frz (i:=1) rfl hlow))) a1<|oC (fun w2 hd=>K5 a2 0 p1 _ rfl _ w2 (A5 w2))<|A9) fun a w hF hx=>?_
     replace hS:=hS.later hx
     refine wfn rfl ?_
     refine Aj hF rfl (fun hc=>?_) (fun hc=>?_)
     ·replace h:=Af h hc
      refine rnB [(4,iv 3)] hF fun a hF=>?_
      refine wpIn_ret (Ai<|A6<|A6<|Ai<|A6<|Ad [.tmp 4] [iv 3] hF rfl ⟨rfl,trivial⟩ ?_)
      obtain rfl:=Ao h
      exact ⟨rfl,hS.ext⟩
     ·replace h:=Ae h hc
      refine wpIn_skip (Ab<|A0<|?_)
      refine WI.region ?_
      obtain ⟨a3,a4,h⟩:=A1 h
      refine ro 3 3 [(1,iv p1),(2,pb b4),(6,iv a3)] hF (oA 3 a4<|A9) fun a hF=>?_
      refine wfn rfl ?_
      rw [hk2] at h
      exact ⟨nk2,Nat.lt_succ_self _,a3,hF.sub kr,St.pick [0,1] (by decide) hS,h⟩
    ·replace h:=Ae h hc
     refine wpIn_exit (Aa<|Aa<|Av<|A0 ?_)
     exact ⟨hF.sub kr,St.pick [0,1] (by decide) hS,h⟩
   rintro a w ⟨hF,hS,h⟩
   rw [N6] at h
   refine rnB [(4,iv 0)] hF fun a hF=>?_
   refine wpIn_ret (Ad [.tmp 4] [iv 0] hF rfl ⟨rfl,trivial⟩ ?_)
   obtain rfl:=Ao h
   exact ⟨rfl,hS.ext⟩
theorem G0 (F:Nat) (p0:api_Span) (res:(List Int)) (h:Eo F p0=some res) (μ:Frz) (w0:World) (hm:FrzAt μ w0):Bj Tryz.prog 127 #[.agg #[iv p0.Lo,iv p0.Hi]] w0 (fun e w=>∃zad0 zcap0,e=(sv zad0 res zcap0)∧St w0 [arr 5 1 (fK .u8) zad0 res.length zcap0 res] w):=by
 obtain ⟨hlow,hS⟩:=hm.init
 have hext:=Frz.ext_refl w0.heap.size μ
 rw [Eo] at h
 refine Ag Tryz.func127 rfl 13 [(0,.agg #[iv p0.Lo,iv p0.Hi])] rfl rfl kr fun a w hw hF=>?_
 replace hS:=hS.cast hw
 clear hw
 refine esr ?_
 refine SK.wi (J6 (t:=146) (fun b1=>[(1,pb b1)]) (.agg #[iv p0.Lo,iv p0.Hi]) #[iv p0.Lo,iv p0.Hi] hF hS kr ⟨kr⟩ kr (fun _=>⟨kr⟩) fun b1 w a hF hS=>?_)
 refine rn 1 2 [(1,pb b1)] hF fun a hF=>?_
 refine wfn rfl ?_
 refine Ar ?_
 obtain ⟨x2,hx2,h⟩:=A1 h
 obtain ⟨y4,hy4,h⟩:=A1 h
 refine Bt 8 [2] _ (D:=fun w=>St w0 [blk b1 146 #[iv p0.Lo,iv p0.Hi]] w∧FrzAt μ w) kr kr hF.size (fun w hx=>?_) (fun _ _ h=>h)
 replace hS:=hS.later hx
 refine ⟨⟨St.pick [0] (by decide) hS,hS.frz (i:=1) rfl hlow⟩,?_⟩
 have aC:=Frz.le_refl μ
 refine WT.s [0,1,3,4,5,6,7] [2] kr kr ?_
 refine rC 7 [(4,iv p0.Lo),(10,iv x2)] hF (oL 3 0 0 (fun _ hd=>hd.1) rfl rfl<|oL 3 0 1 (fun _ hd=>hd.1) rfl rfl<|oL 3 0 0 (fun _ hd=>hd.1) rfl rfl<|oS 3 hx2<|A9) fun a hF=>?_
 refine WRun.fin ?_
 refine all_cons ?_ (At)
 refine qR (fun a3=>[(5,a3)]) hF (Ge F _ _ hy4 (Ay w) w (A5 w)) ?_
 rintro a3 w a ⟨a5,a6,rfl,hQ⟩ hF
 replace hS:=hS.madeL hQ
 refine ⟨⟨St.pick [1] (by decide) hS,(hS.frz (i:=2) rfl hlow)⟩,?_⟩
 refine WT.z [] kr ?_
 refine WRun.fin ?_
 obtain ⟨a9,a8,h⟩:=A1 h
 refine SK.wi (rR (fun a4=>[(5,sv a5 y4 a6),(11,a4)]) hF (Au F _ _ a8 (Ay w) w (A5 w)) ?_)
 rintro a4 w a ⟨aA,aB,rfl,hQ⟩ hF
 replace hS:=hS.madeL hQ
 obtain ⟨a2,a7,h⟩:=A1 h
 refine SK.wi (Lq (t:=22) (ty:=22) (bytes:=1) (l:=y4) (l':=a9) (fun a0 a1=>[(12,sv a0 a2 a1)]) 1 hF hS rfl kr ⟨kr⟩ kr (hS.arr (i:=0) rfl) (fun _ _=>rfl) a7 (fun _ _=>⟨kr⟩) fun a0 a1 w a hF hS=>?_)
 refine rn 1 11 [(2,sv a0 a2 a1)] hF fun a hF=>?_
 refine wfn rfl ?_
 refine wpIn_ret (Ad [.tmp 2] [sv a0 a2 a1] hF rfl ⟨rfl,trivial⟩ ?_)
 obtain rfl:=Ao h
 exact ⟨_,rfl,_,_,rfl,St.pick [1] (by decide) hS⟩
end Go.Proofs.YtifbomimeodibaaGreat
