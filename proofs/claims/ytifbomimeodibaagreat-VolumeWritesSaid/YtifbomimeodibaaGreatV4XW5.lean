import Derived.Test.YtifbomimeodibaaGreatV4XD
import Derived.Test.YtifbomimeodibaaGreatProg
import Derived.Test.YtifbomimeodibaaGreatV4XW0
import Derived.Test.YtifbomimeodibaaGreatV4XW1
import Derived.Test.YtifbomimeodibaaGreatV4XW2
import Derived.Test.YtifbomimeodibaaGreatV4XW4
namespace Go.Proofs.YtifbomimeodibaaGreat
open Go Go.RowKit Go.Eng
set_option maxRecDepth 10000
set_option maxHeartbeats 4000000
set_option linter.unusedVariables false
set_option linter.unusedSimpArgs false
theorem C5 (F:Nat) (p0:volume_reader) (res:Except (Value×volume_reader) (api_Span×volume_reader)) (h:Bz F p0=some res) (μ:Frz) (w0 w1:World) (T_:List Res) (hlow:B2 w0 μ) {cb0:Nat} {ad1:Option Addr} {cap2:Nat} (hA3:ArrM μ 1 (fK .u8) ad1 cap2 p0.b) (hS:St w0 (fz w0 μ::blk cb0 125 #[sv ad1 p0.b cap2]::T_) w1):Nc Tryz.prog 98 #[pb cb0] w1 res (fun r_ e w=>∃(ν_:Frz) (a4:Option Addr) (a6:Nat),μ.ext w0.heap.size ν_∧B2 w0 ν_∧e=(.agg #[iv r_.1.Lo,iv r_.1.Hi])∧(ArrM ν_ 1 (fK .u8) a4 a6 r_.2.b)∧St w0 (fz w0 ν_::blk cb0 125 #[sv a4 r_.2.b a6]::T_) w) (fun e_ w=>∃(ν_:Frz) (a5:Option Addr) (a7:Nat),μ.ext w0.heap.size ν_∧B2 w0 ν_∧(ArrM ν_ 1 (fK .u8) a5 a7 e_.b)∧St w0 (fz w0 ν_::blk cb0 125 #[sv a5 e_.b a7]::T_) w):=by
 rw [Bz] at h
 have hext:=Frz.ext_refl w0.heap.size μ
 refine feW Tryz.func98 12 [(0,pb cb0)] hS fun a w hF hS=>?_
 refine esr<|SK.wi (qA 146 #[iv 0,iv 0] (fun b4=>[(2,pb b4)]) hF hS fun b4 w a hF hS=>wfn rfl ?_)
 refine esr<|qn 1 1 [(4,pb cb0)] hF fun a hF=>?_
 obtain ⟨y5,hy5,h⟩:=A0 h
 replace hS:=hS.s2.s2
 refine D6 (fun a9=>[(0,pb cb0),(2,pb b4),(5,a9)]) hF kr ⟨kr⟩ (Cw F _ _ hy5 μ w0 w _ hlow hA3 hS) (fun _=>⟨kr⟩) ?_ ?_
 ·rintro e7 w he_ ⟨ν14,aB,aE,a8,hlow,aH,hS⟩
  replace h:=Fe h he_
  replace hext:=hext.t a8
  replace hA3:=hA3.mono a8.1
  refine A5<|Au hF ?_
  obtain rfl:=Ai h
  replace hS:=hS.d2
  exact .inr ⟨_,rfl,rfl,ν14,aB,aE,hext,hlow,aH,hS⟩
 rintro y6 a9 w a he_ ⟨ν8,aM,aN,hx9,hlow,rfl,a0,hS⟩ hF
 replace h:=Ff h he_
 replace hext:=hext.t hx9
 replace hA3:=hA3.mono hx9.1
 refine rn 1 3 [(0,pb cb0),(2,pb b4),(3,iv y6.1)] hF fun a hF=>wfn rfl ?_
 refine esr<|qn 3 3 [(6,iv y6.1),(7,iv y6.1),(8,pb cb0)] hF fun a hF=>?_
 obtain ⟨aP,aL,h⟩:=A0 h
 refine D6 (fun aA=>[(2,pb b4),(6,iv y6.1),(7,iv y6.1),(9,aA)]) hF kr ⟨kr⟩ (Af F _ _ aL ν8 w0 w _ hlow a0 hS) (fun _=>⟨kr⟩) ?_ ?_
 ·rintro aO w he_ ⟨ν28,aD,aG,a2,hlow,aJ,hS⟩
  replace h:=Fe h he_
  replace hext:=hext.t a2
  replace hA3:=hA3.mono a2.1
  replace a0:=a0.mono a2.1
  refine A5<|Au hF ?_
  obtain rfl:=Ai h
  replace hS:=hS.d2
  exact .inr ⟨_,rfl,rfl,ν28,aD,aG,hext,hlow,aJ,hS⟩
 rintro aQ aA w a he_ ⟨ν22,aC,aF,a1,hlow,rfl,aI,hS⟩ hF
 replace h:=Ff h he_
 replace hext:=hext.t a1
 replace hA3:=hA3.mono a1.1
 replace a0:=a0.mono a1.1
 obtain ⟨a3,aK,h⟩:=A0 h
 refine ro 2 6 [(2,pb b4),(11,.agg #[iv y6.1,iv a3])] hF (oA 3 aK<|A3) fun a hF=>?_
 refine SK.wi (qw 146 2 #[iv y6.1,iv a3] hF hS rfl fun w a hF hS=>wfn rfl ?_)
 refine wpIn_ret (A9 [.cell 2 146] [_] hF rfl ⟨⟨_,rfl,M7 (cs:=[iv y6.1,iv a3]) kr ((hS.blk (i:=2) rfl).cells rfl)⟩,trivial⟩ ?_)
 obtain rfl:=Ai h
 replace hS:=hS.d2
 exact .inl ⟨_,_,rfl,rfl,ν22,aC,aF,hext,hlow,rfl,aI,hS⟩
theorem Qu (F:Nat) (p0:api_Echo) (res:Int) (h:Ef F p0=some res) (μ:Frz) (w0:World) (hm:FrzAt μ w0):Calls Tryz.prog 172 #[p0.ag] w0 (fun e w=>e=.returned (iv res)∧Ext w0 w):=by
 obtain ⟨hlow,hS⟩:=hm.init
 have hext:=Frz.ext_refl w0.heap.size μ
 rw [Ef] at h
 refine feW Tryz.func172 77 [(0,p0.ag)] hS fun a w hF hS=>?_
 refine esr<|SK.wi (qBa 149 p0.ar (fun b1=>[(1,pb b1)]) hF hS fun b1 w a hF hS=>?_)
 refine qn 1 2 [] hF fun a hF=>wfn rfl ?_
 refine esr<|qx 4 4 [(3,.bool (Ac p0.Power 0 1073741824))] hF (oN 146 0 1 2 hS.e rfl<|oC (fun w2 hd=>Lg p0.Power 0 1073741824 _ rfl _ w2 (A1 w2))<|A3) fun a w hF hx=>?_
 replace hS:=hS.later hx
 refine wfn rfl ?_
 refine D4 (fun a w=>∃(c7:Bool),Fr 77 [] [(3,.bool c7)] a∧St w0 [blk b1 149 p0.ar,fz w0 μ] w∧Ct c7=some res) ?_ ?_
 ·skip
  refine qoB [(8,iv p0.Kind)] hF (oL 3 0 0 hS.i rfl rfl<|A3) fun a hF=>?_
  refine wpIn_block<|qnB [(9,.bool (p0.Kind==1))] hF fun a hF=>?_
  refine A8 hF h (fun hc h=>?_) fun hc h=>?_
  ·refine WI.region<|ro 11 11 [(3,.bool (bif (Ac p0.Power 0 1073741824) then (((p0.Kind:Int)==1)&&((((p0.Power.Lo:Int)==0)&&(((p0.Power.Hi:Int)==p0.Power.Hi)&&true))&&(((((p0.Steps.1.Lo:Int)==0)&&(((p0.Steps.1.Hi:Int)==0)&&true))&&((((p0.Steps.2.Lo:Int)==0)&&(((p0.Steps.2.Hi:Int)==0)&&true))&&true))&&(((p0.Spread:Int)==0)&&((((p0.Ratio.Lo:Int)==0)&&(((p0.Ratio.Hi:Int)==0)&&true))&&((((p0.Match.Lo:Int)==0)&&(((p0.Match.Hi:Int)==0)&&true))&&((((p0.Turn.Lo:Int)==0)&&(((p0.Turn.Hi:Int)==0)&&true))&&true))))))) else false))] hF (oGs [⟨12,true,(Ac p0.Power 0 1073741824)⟩] (oN 149 0 0 14 hS.i rfl<|oL 3 0 2 hS.i rfl rfl<|oX (.run [] (eqS .eql 149 p0.ar #[iv 1,iv 0,iv p0.Power.Hi,iv 0,iv 0,iv 0,iv 0,iv 0,iv 0,iv 0,iv 0,iv 0,iv 0,iv 0]) (.bool (((p0.Kind:Int)==1)&&((((p0.Power.Lo:Int)==0)&&(((p0.Power.Hi:Int)==p0.Power.Hi)&&true))&&(((((p0.Steps.1.Lo:Int)==0)&&(((p0.Steps.1.Hi:Int)==0)&&true))&&((((p0.Steps.2.Lo:Int)==0)&&(((p0.Steps.2.Hi:Int)==0)&&true))&&true))&&(((p0.Spread:Int)==0)&&((((p0.Ratio.Lo:Int)==0)&&(((p0.Ratio.Hi:Int)==0)&&true))&&((((p0.Match.Lo:Int)==0)&&(((p0.Match.Hi:Int)==0)&&true))&&((((p0.Turn.Lo:Int)==0)&&(((p0.Turn.Hi:Int)==0)&&true))&&true))))))))) (L8 kr kr)<|A3)<|A3) fun a hF=>WI.fin rfl (A7<|A4<|?_)
   exact ⟨bif (Ac p0.Power 0 1073741824) then (((p0.Kind:Int)==1)&&((((p0.Power.Lo:Int)==0)&&(((p0.Power.Hi:Int)==p0.Power.Hi)&&true))&&(((((p0.Steps.1.Lo:Int)==0)&&(((p0.Steps.1.Hi:Int)==0)&&true))&&((((p0.Steps.2.Lo:Int)==0)&&(((p0.Steps.2.Hi:Int)==0)&&true))&&true))&&(((p0.Spread:Int)==0)&&((((p0.Ratio.Lo:Int)==0)&&(((p0.Ratio.Hi:Int)==0)&&true))&&((((p0.Match.Lo:Int)==0)&&(((p0.Match.Hi:Int)==0)&&true))&&((((p0.Turn.Lo:Int)==0)&&(((p0.Turn.Hi:Int)==0)&&true))&&true))))))) else false,hF.sub kr,St.pick [0,1] (by decide) hS,h⟩
  ·refine D4 (fun a w=>∃(c9:Bool),Fr 77 [] [(1,pb b1),(3,.bool (Ac p0.Power 0 1073741824)),(21,.bool c9)] a∧St w0 [blk b1 149 p0.ar,fz w0 μ] w∧C3 F p0 c9=some res) ?_ ?_
   ·skip
    refine qnB [(21,.bool (p0.Kind==2))] hF fun a hF=>?_
    refine A8 hF h (fun hc h=>?_) fun hc h=>?_
    ·refine wK ?_
     exact ⟨p0.Kind==2,hF.sub kr,St.pick [0,1] (by decide) hS,h⟩
    ·refine WI.region<|rn 2 2 [(1,pb b1),(3,.bool (Ac p0.Power 0 1073741824)),(21,.bool (p0.Kind==3))] hF fun a hF=>wfn rfl ?_
     exact ⟨p0.Kind==3,hF.sub kr,St.pick [0,1] (by decide) hS,h⟩
   rintro a w ⟨c9,hF,hS,h⟩
   rw [C3] at h
   refine A8 hF h (fun hc h=>?_) fun hc h=>?_
   ·refine esr<|rX 23 23 [(1,pb b1),(3,.bool (bif (bif (bif (bif (Ac p0.Power 0 1073741824) then (decide (p0.Power.Lo>0)) else false) then (Ac p0.Ratio 0 1000000) else false) then (Ac p0.Match 0 1000) else false) then (As p0.Spread 0 65535) else false))] hF (oGs [⟨25,true,(Ac p0.Power 0 1073741824)⟩] (oL 3 0 1 hS.e rfl rfl<|A3)<|oGs [⟨31,true,(bif (Ac p0.Power 0 1073741824) then (decide (p0.Power.Lo>0)) else false)⟩] (oN 146 0 8 2 hS.e rfl<|oC (fun w2 hd=>Lg p0.Ratio 0 1000000 _ rfl _ w2 (A1 w2))<|A3)<|oGs [⟨36,true,(bif (bif (Ac p0.Power 0 1073741824) then (decide (p0.Power.Lo>0)) else false) then (Ac p0.Ratio 0 1000000) else false)⟩] (oN 146 0 10 2 hS.e rfl<|oC (fun w2 hd=>Lg p0.Match 0 1000 _ rfl _ w2 (A1 w2))<|A3)<|oGs [⟨41,true,(bif (bif (bif (Ac p0.Power 0 1073741824) then (decide (p0.Power.Lo>0)) else false) then (Ac p0.Ratio 0 1000000) else false) then (Ac p0.Match 0 1000) else false)⟩] (oL 3 0 7 hS.e rfl rfl<|oC (fun w2 hd=>Gk p0.Spread 0 65535 _ rfl _ w2 (A1 w2))<|A3)<|A3) fun a w hF hx=>?_
    replace hS:=hS.later hx
    refine wfn rfl ?_
    refine qoB [(48,.bool (p0.Kind==2))] hF (oL 3 0 0 hS.i rfl rfl<|A3) fun a hF=>?_
    refine A8 hF h (fun hc h=>?_) fun hc h=>?_
    ·refine WI.region<|ro 14 14 [(3,.bool (bif (bif (bif (bif (bif (bif (Ac p0.Power 0 1073741824) then (decide (p0.Power.Lo>0)) else false) then (Ac p0.Ratio 0 1000000) else false) then (Ac p0.Match 0 1000) else false) then (As p0.Spread 0 65535) else false) then ((((p0.Steps.1.Lo:Int)==0)&&(((p0.Steps.1.Hi:Int)==0)&&true))&&((((p0.Steps.2.Lo:Int)==0)&&(((p0.Steps.2.Hi:Int)==0)&&true))&&true)) else false) then (((p0.Turn.Lo:Int)==0)&&(((p0.Turn.Hi:Int)==0)&&true)) else false))] hF (oGs [⟨50,true,(bif (bif (bif (bif (Ac p0.Power 0 1073741824) then (decide (p0.Power.Lo>0)) else false) then (Ac p0.Ratio 0 1000000) else false) then (Ac p0.Match 0 1000) else false) then (As p0.Spread 0 65535) else false)⟩] (oN 147 0 3 4 hS.i rfl<|oX (.run [] (eqS .eql 147 #[iv p0.Steps.1.Lo,iv p0.Steps.1.Hi,iv p0.Steps.2.Lo,iv p0.Steps.2.Hi] #[iv 0,iv 0,iv 0,iv 0]) (.bool ((((p0.Steps.1.Lo:Int)==0)&&(((p0.Steps.1.Hi:Int)==0)&&true))&&((((p0.Steps.2.Lo:Int)==0)&&(((p0.Steps.2.Hi:Int)==0)&&true))&&true)))) (L8 kr kr)<|A3)<|oGs [⟨56,true,(bif (bif (bif (bif (bif (Ac p0.Power 0 1073741824) then (decide (p0.Power.Lo>0)) else false) then (Ac p0.Ratio 0 1000000) else false) then (Ac p0.Match 0 1000) else false) then (As p0.Spread 0 65535) else false) then ((((p0.Steps.1.Lo:Int)==0)&&(((p0.Steps.1.Hi:Int)==0)&&true))&&((((p0.Steps.2.Lo:Int)==0)&&(((p0.Steps.2.Hi:Int)==0)&&true))&&true)) else false)⟩] (oN 146 0 12 2 hS.i rfl<|oX (.run [] (eqS .eql 146 #[iv p0.Turn.Lo,iv p0.Turn.Hi] #[iv 0,iv 0]) (.bool (((p0.Turn.Lo:Int)==0)&&(((p0.Turn.Hi:Int)==0)&&true)))) (L8 kr kr)<|A3)<|A3) fun a hF=>WI.fin rfl (A7<|A4<|?_)
     exact ⟨bif (bif (bif (bif (bif (bif (Ac p0.Power 0 1073741824) then (decide (p0.Power.Lo>0)) else false) then (Ac p0.Ratio 0 1000000) else false) then (Ac p0.Match 0 1000) else false) then (As p0.Spread 0 65535) else false) then ((((p0.Steps.1.Lo:Int)==0)&&(((p0.Steps.1.Hi:Int)==0)&&true))&&((((p0.Steps.2.Lo:Int)==0)&&(((p0.Steps.2.Hi:Int)==0)&&true))&&true)) else false) then (((p0.Turn.Lo:Int)==0)&&(((p0.Turn.Hi:Int)==0)&&true)) else false,hF.sub kr,St.pick [0,1] (by decide) hS,h⟩
    ·refine WI.region<|qn 2 2 [(63,.bool (bif (bif (bif (bif (Ac p0.Power 0 1073741824) then (decide (p0.Power.Lo>0)) else false) then (Ac p0.Ratio 0 1000000) else false) then (Ac p0.Match 0 1000) else false) then (As p0.Spread 0 65535) else false))] hF fun a hF=>?_
     rcases Bool.eq_false_or_eq_true ((bif (bif (bif (bif (Ac p0.Power 0 1073741824) then (decide (p0.Power.Lo>0)) else false) then (Ac p0.Ratio 0 1000000) else false) then (Ac p0.Match 0 1000) else false) then (As p0.Spread 0 65535) else false)) with a0|a0
     ·replace h:=Jq h a0
      rw [a0] at hF
      refine A0y (n:=8) (obs:=[.run [⟨63,true,true⟩] (Instr.indexAt 147 (.pointer (some ⟨b1,3,none⟩)) (iv 0)) (.pointer (some ⟨b1,3,none⟩)),.run [⟨63,true,true⟩] (Instr.loadAt 146 (.pointer (some ⟨b1,3,none⟩))) (.agg #[iv p0.Steps.1.Lo,iv p0.Steps.1.Hi]),.run [⟨63,true,true⟩] (Instr.indexAt 147 (.pointer (some ⟨b1,3,none⟩)) (iv 1)) (.pointer (some ⟨b1,5,none⟩)),.run [⟨63,true,true⟩] (Instr.loadAt 146 (.pointer (some ⟨b1,5,none⟩))) (.agg #[iv p0.Steps.2.Lo,iv p0.Steps.2.Hi]),.run [⟨63,true,true⟩] (Instr.loadAt 146 (.pointer (some ⟨b1,12,none⟩))) (.agg #[iv p0.Turn.Lo,iv p0.Turn.Hi])]) 10 [(3,⟨[],.bool true⟩),(63,⟨[],.bool true⟩),(66,⟨[⟨63,true,true⟩],.agg #[iv p0.Steps.1.Lo,iv p0.Steps.1.Hi]⟩),(69,⟨[⟨63,true,true⟩],.agg #[iv p0.Steps.2.Lo,iv p0.Steps.2.Hi]⟩),(71,⟨[⟨63,true,true⟩],.agg #[iv p0.Turn.Lo,iv p0.Turn.Hi]⟩)] hF kr (H0 (Bb kr) (H0 (obN (us:=[iv p0.Steps.1.Lo,iv p0.Steps.1.Hi]) kr (fun _ hd=>((hS.at_ hd).blk (i:=0) rfl).cells rfl)) (H0 (Bb kr) (H0 (obN (us:=[iv p0.Steps.2.Lo,iv p0.Steps.2.Hi]) kr (fun _ hd=>((hS.at_ hd).blk (i:=0) rfl).cells rfl)) (H0 (obN (us:=[iv p0.Turn.Lo,iv p0.Turn.Hi]) kr (fun _ hd=>((hS.at_ hd).blk (i:=0) rfl).cells rfl)) A3))))) ⟨kr⟩ kr rfl fun a hF=>?_
      replace hF:Fr 77 [] [(3,.bool true),(63,.bool true),(66,.agg #[iv p0.Steps.1.Lo,iv p0.Steps.1.Hi]),(69,.agg #[iv p0.Steps.2.Lo,iv p0.Steps.2.Hi]),(71,.agg #[iv p0.Turn.Lo,iv p0.Turn.Hi])] a:=hF
      refine SK.wi (qL 146 44 3 [(api_Span.mk p0.Steps.1.Lo p0.Steps.1.Hi),(api_Span.mk p0.Steps.2.Lo p0.Steps.2.Hi),p0.Turn] (fun a1=>[(72,sb a1 3)]) api_Span.cells_len hF hS fun a1 w a hF hS=>?_)
      obtain ⟨a2,a3,h⟩:=A0 h
      refine rX 3 14 [(3,.bool a2)] hF (oGs [⟨63,true,true⟩] (oC (fun w2 hd=>S1 F ([(api_Span.mk p0.Steps.1.Lo p0.Steps.1.Hi),(api_Span.mk p0.Steps.2.Lo p0.Steps.2.Hi),p0.Turn]) _ a3 _ w2 (A1 w2) (Arr.toM ((hS.later hd).arr (i:=0) rfl)))<|A3)<|A3) fun a w hF hx=>?_
      replace hS:=hS.later hx
      refine WI.fin rfl (A7<|A4<|?_)
      exact ⟨a2,hF.sub kr,St.pick [1,2] (by decide) hS,h⟩
     ·replace h:=Jp h a0
      rw [a0] at hF
      refine rk 3 [(1,pb b1),(3,.bool false),(63,.bool false),(64,undef)] hF fun a hF=>?_
      refine qk 4 [(65,undef)] hF fun a hF=>?_
      refine qk 5 [(66,undef)] hF fun a hF=>?_
      refine qk 6 [(67,undef)] hF fun a hF=>?_
      refine qk 7 [(68,undef)] hF fun a hF=>?_
      refine qk 8 [(69,undef)] hF fun a hF=>?_
      refine qk 9 [(70,undef)] hF fun a hF=>?_
      refine qk 10 [(71,undef)] hF fun a hF=>?_
      refine qk 11 [(72,undef)] hF fun a hF=>?_
      refine qk 12 [(73,undef)] hF fun a hF=>?_
      refine qn 2 14 [] hF fun a hF=>WI.fin rfl (A7<|A4<|?_)
      exact ⟨false,hF.sub kr,St.pick [0,1] (by decide) hS,h⟩
   ·refine rnB [(2,iv 2)] hF fun a hF=>?_
    refine wpIn_ret (Ab<|A2<|A9 [.tmp 2] [_] hF rfl ⟨rfl,trivial⟩ ?_)
    obtain rfl:=Ai h
    exact ⟨rfl,hS.ext⟩
 rintro a w ⟨c7,hF,hS,h⟩
 rw [Ct] at h
 refine Ak<|rnB [(76,.bool (!c7))] hF fun a hF=>?_
 refine A8 hF h (fun hc h=>?_) fun hc h=>?_
 ·refine rnB [(2,iv 3)] hF fun a hF=>?_
  refine wpIn_ret (A2<|A9 [.tmp 2] [_] hF rfl ⟨rfl,trivial⟩ ?_)
  obtain rfl:=Ai h
  exact ⟨rfl,hS.ext⟩
 ·refine wK<|rnB [(2,iv 0)] hF fun a hF=>?_
  refine wpIn_ret (A9 [.tmp 2] [_] hF rfl ⟨rfl,trivial⟩ ?_)
  obtain rfl:=Ai h
  exact ⟨rfl,hS.ext⟩
theorem Ge (F:Nat) (p0:volume_writer) (p1:api_Span) (res:volume_writer) (h:Cx F p0 p1=some res) (μ:Frz) (w0 w1:World) (T_:List Res) (hlow:B2 w0 μ) {cb0:Nat} {ad1:Option Addr} {cap2:Nat} (hS:St w0 (fz w0 μ::blk cb0 138 #[sv ad1 p0.b cap2]::arrT 5 1 (fK .u8) ad1 p0.b.length cap2 p0.b::T_) w1):Bd Tryz.prog 173 #[pb cb0,.agg #[iv p1.Lo,iv p1.Hi]] w1 (fun e w=>∃(ν_:Frz) (a2:Option Addr) (a4:Nat),μ.ext w0.heap.size ν_∧B2 w0 ν_∧e=(.tuple #[])∧St w0 (fz w0 ν_::blk cb0 138 #[sv a2 res.b a4]::arrT 5 1 (fK .u8) a2 res.b.length a4 res.b::T_) w):=by
 rw [Cx] at h
 have hext:=Frz.ext_refl w0.heap.size μ
 refine feW Tryz.func173 17 [(0,pb cb0),(1,.agg #[iv p1.Lo,iv p1.Hi])] hS fun a w hF hS=>?_
 refine esr<|SK.wi (qBa 146 #[iv p1.Lo,iv p1.Hi] (fun b3=>[(3,pb b3)]) hF hS fun b3 w a hF hS=>wfn rfl ?_)
 refine esr<|qo 3 3 [(4,pb cb0),(6,iv p1.Lo)] hF (oL 3 0 0 hS.i rfl rfl<|A3) fun a hF=>?_
 refine SK.wi (qL 3 69 1 [p1.Lo] (fun b4=>[(7,sb b4 1)]) Fl hF hS fun b4 w a hF hS=>?_)
 obtain ⟨ν5,hx6,hlow,hS,hz7⟩:=hS.freeze (i:=2) (j:=0) rfl rfl (by decide) hlow
 replace hext:=hext.t hx6
 have hA8:=ArrM.of_arr hz7
 obtain ⟨y9,hy9,h⟩:=A0 h
 replace hS:=hS.s3.s3.s3
 refine SK.wi (qR (fun aD=>[]) hF (F7 F _ _ _ hy9 ν5 w0 w _ hlow hA8 hS) ?_)
 rintro aD w a ⟨ν10,aF,aG,a5,hlow,rfl,hS⟩ hF
 replace hext:=hext.t a5
 replace hA8:=hA8.mono a5.1
 refine wfn rfl ?_
 refine WI.region ?_
 obtain ⟨a7,aA,h⟩:=A0 h
 refine ro 6 6 [(9,pb cb0),(14,iv a7)] hF (oL 3 3 1 hS.i rfl rfl<|oL 3 3 0 hS.i rfl rfl<|oS 3 aA<|A3) fun a hF=>?_
 refine SK.wi (qL 3 69 1 [a7] (fun a3=>[(15,sb a3 1)]) Fl hF hS fun a3 w a hF hS=>?_)
 obtain ⟨ν17,a6,hlow,hS,aC⟩:=hS.freeze (i:=1) (j:=0) rfl rfl (by decide) hlow
 replace hA8:=hA8.mono a6.1
 replace hext:=hext.t a6
 have a0:=ArrM.of_arr aC
 obtain ⟨aH,aB,h⟩:=A0 h
 refine SK.wi (rR (fun aE=>[]) hF (Al F _ _ _ aB ν17 w0 w _ hlow a0 hS) ?_)
 rintro aE w a ⟨ν22,a8,a9,a1,hlow,rfl,hS⟩ hF
 replace hext:=hext.t a1
 replace hA8:=hA8.mono a1.1
 replace a0:=a0.mono a1.1
 refine WI.fin rfl ?_
 refine H4 hF rfl ?_
 obtain rfl:=Ai h
 replace hS:=hS.d3
 exact ⟨_,rfl,ν22,a8,a9,hext,hlow,rfl,hS⟩
theorem Qx (F:Nat) (p0:api_Echo) (res:Int) (h:Gm F p0=some res) (μ:Frz) (w0:World) (hm:FrzAt μ w0):Calls Tryz.prog 80 #[p0.ag] w0 (fun e w=>e=.returned (iv res)∧Ext w0 w):=by
 obtain ⟨hlow,hS⟩:=hm.init
 have hext:=Frz.ext_refl w0.heap.size μ
 rw [Gm] at h
 refine feW Tryz.func80 129 [(0,p0.ag)] hS fun a w hF hS=>?_
 refine esr<|SK.wi (qBa 149 p0.ar (fun b1=>[(1,pb b1)]) hF hS fun b1 w a hF hS=>?_)
 refine qn 1 2 [] hF fun a hF=>wfn rfl ?_
 refine Ak<|qoB [(17,.bool (bif (bif (p0.Kind != 1) then (p0.Kind != 2) else false) then (p0.Kind != 3) else false))] hF (oL 3 0 0 hS.i rfl rfl<|oGs [⟨8,true,(p0.Kind != 1)⟩] (oL 3 0 0 hS.i rfl rfl<|A3)<|oGs [⟨13,true,(bif (p0.Kind != 1) then (p0.Kind != 2) else false)⟩] (oL 3 0 0 hS.i rfl rfl<|A3)<|A3) fun a hF=>?_
 refine A8 hF h (fun hc h=>?_) fun hc h=>?_
 ·refine rnB [(2,iv 2)] hF fun a hF=>?_
  refine wpIn_ret (A2<|A9 [.tmp 2] [_] hF rfl ⟨rfl,trivial⟩ ?_)
  obtain rfl:=Ai h
  exact ⟨rfl,hS.ext⟩
 ·refine wK<|Ak<|esr<|qx 4 4 [(21,.bool (!(C1 p0.Power 0 1073741824)))] hF (oN 146 0 1 2 hS.e rfl<|oC (fun w2 hd=>Jz p0.Power 0 1073741824 _ rfl _ w2 (A1 w2))<|A3) fun a w hF hx=>?_
  replace hS:=hS.later hx
  refine wfn rfl ?_
  refine A8 hF h (fun hc h=>?_) fun hc h=>?_
  ·refine rnB [(2,iv 3)] hF fun a hF=>?_
   refine wpIn_ret (A2<|A9 [.tmp 2] [_] hF rfl ⟨rfl,trivial⟩ ?_)
   obtain rfl:=Ai h
   exact ⟨rfl,hS.ext⟩
  ·refine wK<|Ak<|qoB [(24,.bool (p0.Kind==1))] hF (oL 3 0 0 hS.i rfl rfl<|A3) fun a hF=>?_
   refine A8 hF h (fun hc h=>?_) fun hc h=>?_
   ·refine esr<|qn 1 1 [(25,.agg #[iv 0,iv 0])] hF fun a hF=>?_
    refine SK.wi (qA 146 #[iv 0,iv 0] (fun b2=>[(3,pb b2)]) hF hS fun b2 w a hF hS=>?_)
    refine SK.wi (qw 146 0 #[iv 0,iv 0] hF hS rfl fun w a hF hS=>wfn rfl ?_)
    refine Ak<|roB [(66,.bool (bif (bif (bif (bif (bif (bif (p0.Power.Lo != 0) then true else (!(((p0.Steps.1.Lo:Int)==0)&&(((p0.Steps.1.Hi:Int)==0)&&true)))) then true else (!(((p0.Steps.2.Lo:Int)==0)&&(((p0.Steps.2.Hi:Int)==0)&&true)))) then true else (p0.Spread != 0)) then true else (!(((p0.Ratio.Lo:Int)==0)&&(((p0.Ratio.Hi:Int)==0)&&true)))) then true else (!(((p0.Match.Lo:Int)==0)&&(((p0.Match.Hi:Int)==0)&&true)))) then true else (!(((p0.Turn.Lo:Int)==0)&&(((p0.Turn.Hi:Int)==0)&&true)))))] hF (oL 3 1 1 hS.i rfl rfl<|oGs [⟨30,false,(p0.Power.Lo != 0)⟩] (oX (.run [] (Instr.indexAt 147 (.pointer (some ⟨b1,3,none⟩)) (iv 0)) (.pointer (some ⟨b1,3,none⟩))) (Bb kr)<|oN 146 1 3 2 hS.i rfl<|oN 146 0 0 2 hS.i rfl<|oX (.run [] (eqS .neq 146 #[iv p0.Steps.1.Lo,iv p0.Steps.1.Hi] #[iv 0,iv 0]) (.bool (!(((p0.Steps.1.Lo:Int)==0)&&(((p0.Steps.1.Hi:Int)==0)&&true))))) (P1 kr kr)<|A3)<|oGs [⟨37,false,(bif (p0.Power.Lo != 0) then true else (!(((p0.Steps.1.Lo:Int)==0)&&(((p0.Steps.1.Hi:Int)==0)&&true))))⟩] (oX (.run [] (Instr.indexAt 147 (.pointer (some ⟨b1,3,none⟩)) (iv 1)) (.pointer (some ⟨b1,5,none⟩))) (Bb kr)<|oN 146 1 5 2 hS.i rfl<|oN 146 0 0 2 hS.i rfl<|oX (.run [] (eqS .neq 146 #[iv p0.Steps.2.Lo,iv p0.Steps.2.Hi] #[iv 0,iv 0]) (.bool (!(((p0.Steps.2.Lo:Int)==0)&&(((p0.Steps.2.Hi:Int)==0)&&true))))) (P1 kr kr)<|A3)<|oGs [⟨44,false,(bif (bif (p0.Power.Lo != 0) then true else (!(((p0.Steps.1.Lo:Int)==0)&&(((p0.Steps.1.Hi:Int)==0)&&true)))) then true else (!(((p0.Steps.2.Lo:Int)==0)&&(((p0.Steps.2.Hi:Int)==0)&&true))))⟩] (oL 3 1 7 hS.i rfl rfl<|A3)<|oGs [⟨49,false,(bif (bif (bif (p0.Power.Lo != 0) then true else (!(((p0.Steps.1.Lo:Int)==0)&&(((p0.Steps.1.Hi:Int)==0)&&true)))) then true else (!(((p0.Steps.2.Lo:Int)==0)&&(((p0.Steps.2.Hi:Int)==0)&&true)))) then true else (p0.Spread != 0))⟩] (oN 146 1 8 2 hS.i rfl<|oN 146 0 0 2 hS.i rfl<|oX (.run [] (eqS .neq 146 #[iv p0.Ratio.Lo,iv p0.Ratio.Hi] #[iv 0,iv 0]) (.bool (!(((p0.Ratio.Lo:Int)==0)&&(((p0.Ratio.Hi:Int)==0)&&true))))) (P1 kr kr)<|A3)<|oGs [⟨55,false,(bif (bif (bif (bif (p0.Power.Lo != 0) then true else (!(((p0.Steps.1.Lo:Int)==0)&&(((p0.Steps.1.Hi:Int)==0)&&true)))) then true else (!(((p0.Steps.2.Lo:Int)==0)&&(((p0.Steps.2.Hi:Int)==0)&&true)))) then true else (p0.Spread != 0)) then true else (!(((p0.Ratio.Lo:Int)==0)&&(((p0.Ratio.Hi:Int)==0)&&true))))⟩] (oN 146 1 10 2 hS.i rfl<|oN 146 0 0 2 hS.i rfl<|oX (.run [] (eqS .neq 146 #[iv p0.Match.Lo,iv p0.Match.Hi] #[iv 0,iv 0]) (.bool (!(((p0.Match.Lo:Int)==0)&&(((p0.Match.Hi:Int)==0)&&true))))) (P1 kr kr)<|A3)<|oGs [⟨61,false,(bif (bif (bif (bif (bif (p0.Power.Lo != 0) then true else (!(((p0.Steps.1.Lo:Int)==0)&&(((p0.Steps.1.Hi:Int)==0)&&true)))) then true else (!(((p0.Steps.2.Lo:Int)==0)&&(((p0.Steps.2.Hi:Int)==0)&&true)))) then true else (p0.Spread != 0)) then true else (!(((p0.Ratio.Lo:Int)==0)&&(((p0.Ratio.Hi:Int)==0)&&true)))) then true else (!(((p0.Match.Lo:Int)==0)&&(((p0.Match.Hi:Int)==0)&&true))))⟩] (oN 146 1 12 2 hS.i rfl<|oN 146 0 0 2 hS.i rfl<|oX (.run [] (eqS .neq 146 #[iv p0.Turn.Lo,iv p0.Turn.Hi] #[iv 0,iv 0]) (.bool (!(((p0.Turn.Lo:Int)==0)&&(((p0.Turn.Hi:Int)==0)&&true))))) (P1 kr kr)<|A3)<|A3) fun a hF=>?_
    refine A8 hF h (fun hc h=>?_) fun hc h=>?_
    ·refine rnB [(2,iv 3)] hF fun a hF=>?_
     refine wpIn_ret (A2<|A2<|A9 [.tmp 2] [_] hF rfl ⟨rfl,trivial⟩ ?_)
     obtain rfl:=Ai h
     exact ⟨rfl,hS.ext⟩
    ·refine wK<|rnB [(2,iv 0)] hF fun a hF=>?_
     refine wpIn_ret (A2<|A9 [.tmp 2] [_] hF rfl ⟨rfl,trivial⟩ ?_)
     obtain rfl:=Ai h
     exact ⟨rfl,hS.ext⟩
   ·refine wK<|Ak<|esr<|qx 22 22 [(88,.bool (bif (bif (bif (decide (p0.Power.Lo<1)) then true else (!(C1 p0.Ratio 0 1000000))) then true else (!(C1 p0.Match 0 1000))) then true else (!(Ad p0.Spread 0 65535))))] hF (oL 3 0 1 hS.e rfl rfl<|oGs [⟨71,false,(decide (p0.Power.Lo<1))⟩] (oN 146 0 8 2 hS.e rfl<|oC (fun w2 hd=>Jz p0.Ratio 0 1000000 _ rfl _ w2 (A1 w2))<|A3)<|oGs [⟨77,false,(bif (decide (p0.Power.Lo<1)) then true else (!(C1 p0.Ratio 0 1000000)))⟩] (oN 146 0 10 2 hS.e rfl<|oC (fun w2 hd=>Jz p0.Match 0 1000 _ rfl _ w2 (A1 w2))<|A3)<|oGs [⟨83,false,(bif (bif (decide (p0.Power.Lo<1)) then true else (!(C1 p0.Ratio 0 1000000))) then true else (!(C1 p0.Match 0 1000)))⟩] (oL 3 0 7 hS.e rfl rfl<|oC (fun w2 hd=>Bv p0.Spread 0 65535 _ rfl _ w2 (A1 w2))<|A3)<|A3) fun a w hF hx=>?_
    replace hS:=hS.later hx
    refine wfn rfl ?_
    refine A8 hF h (fun hc h=>?_) fun hc h=>?_
    ·refine rnB [(2,iv 3)] hF fun a hF=>?_
     refine wpIn_ret (A2<|A9 [.tmp 2] [_] hF rfl ⟨rfl,trivial⟩ ?_)
     obtain rfl:=Ai h
     exact ⟨rfl,hS.ext⟩
    ·refine wK<|Ak<|qoB [(91,.bool (p0.Kind==2))] hF (oL 3 0 0 hS.i rfl rfl<|A3) fun a hF=>?_
     refine A8 hF h (fun hc h=>?_) fun hc h=>?_
     ·refine esr<|qn 1 1 [(92,.agg #[iv 0,iv 0])] hF fun a hF=>?_
      refine SK.wi (qA 146 #[iv 0,iv 0] (fun b3=>[(4,pb b3)]) hF hS fun b3 w a hF hS=>?_)
      refine SK.wi (qw 146 0 #[iv 0,iv 0] hF hS rfl fun w a hF hS=>wfn rfl ?_)
      refine Ak<|roB [(110,.bool (bif (bif (!(((p0.Steps.1.Lo:Int)==0)&&(((p0.Steps.1.Hi:Int)==0)&&true))) then true else (!(((p0.Steps.2.Lo:Int)==0)&&(((p0.Steps.2.Hi:Int)==0)&&true)))) then true else (!(((p0.Turn.Lo:Int)==0)&&(((p0.Turn.Hi:Int)==0)&&true)))))] hF (oX (.run [] (Instr.indexAt 147 (.pointer (some ⟨b1,3,none⟩)) (iv 0)) (.pointer (some ⟨b1,3,none⟩))) (Bb kr)<|oN 146 1 3 2 hS.i rfl<|oN 146 0 0 2 hS.i rfl<|oX (.run [] (eqS .neq 146 #[iv p0.Steps.1.Lo,iv p0.Steps.1.Hi] #[iv 0,iv 0]) (.bool (!(((p0.Steps.1.Lo:Int)==0)&&(((p0.Steps.1.Hi:Int)==0)&&true))))) (P1 kr kr)<|oGs [⟨98,false,(!(((p0.Steps.1.Lo:Int)==0)&&(((p0.Steps.1.Hi:Int)==0)&&true)))⟩] (oX (.run [] (Instr.indexAt 147 (.pointer (some ⟨b1,3,none⟩)) (iv 1)) (.pointer (some ⟨b1,5,none⟩))) (Bb kr)<|oN 146 1 5 2 hS.i rfl<|oN 146 0 0 2 hS.i rfl<|oX (.run [] (eqS .neq 146 #[iv p0.Steps.2.Lo,iv p0.Steps.2.Hi] #[iv 0,iv 0]) (.bool (!(((p0.Steps.2.Lo:Int)==0)&&(((p0.Steps.2.Hi:Int)==0)&&true))))) (P1 kr kr)<|A3)<|oGs [⟨105,false,(bif (!(((p0.Steps.1.Lo:Int)==0)&&(((p0.Steps.1.Hi:Int)==0)&&true))) then true else (!(((p0.Steps.2.Lo:Int)==0)&&(((p0.Steps.2.Hi:Int)==0)&&true))))⟩] (oN 146 1 12 2 hS.i rfl<|oN 146 0 0 2 hS.i rfl<|oX (.run [] (eqS .neq 146 #[iv p0.Turn.Lo,iv p0.Turn.Hi] #[iv 0,iv 0]) (.bool (!(((p0.Turn.Lo:Int)==0)&&(((p0.Turn.Hi:Int)==0)&&true))))) (P1 kr kr)<|A3)<|A3) fun a hF=>?_
      refine A8 hF h (fun hc h=>?_) fun hc h=>?_
      ·refine rnB [(2,iv 3)] hF fun a hF=>?_
       refine wpIn_ret (A2<|A2<|A9 [.tmp 2] [_] hF rfl ⟨rfl,trivial⟩ ?_)
       obtain rfl:=Ai h
       exact ⟨rfl,hS.ext⟩
      ·refine wK<|rnB [(2,iv 0)] hF fun a hF=>?_
       refine wpIn_ret (A2<|A9 [.tmp 2] [_] hF rfl ⟨rfl,trivial⟩ ?_)
       obtain rfl:=Ai h
       exact ⟨rfl,hS.ext⟩
     ·refine wK<|Ak<|esr ?_
      obtain ⟨y4,hy4,h⟩:=A0 h
      obtain ⟨y5,hy5,h⟩:=A0 h
      obtain ⟨y6,hy6,h⟩:=A0 h
      refine rX 18 18 [(128,.bool (bif (bif (!y4) then true else (!y5)) then true else (!y6)))] hF (oX (.run [] (Instr.indexAt 147 (.pointer (some ⟨b1,3,none⟩)) (iv 0)) (.pointer (some ⟨b1,3,none⟩))) (Bb kr)<|oN 146 0 3 2 hS.e rfl<|oC (fun w2 hd=>Ma F (api_Span.mk p0.Steps.1.Lo p0.Steps.1.Hi) _ hy4 _ w2 (A1 w2))<|oGs [⟨116,false,(!y4)⟩] (oX (.run [] (Instr.indexAt 147 (.pointer (some ⟨b1,3,none⟩)) (iv 1)) (.pointer (some ⟨b1,5,none⟩))) (Bb kr)<|oN 146 0 5 2 hS.e rfl<|A3)<|oX (.call [⟨116,false,(!y4)⟩] 110 #[.agg #[iv p0.Steps.2.Lo,iv p0.Steps.2.Hi]] (.bool y5)) (show Ob.ok _ Ext _ _ from fun hk w2 hd=>Ma F (api_Span.mk p0.Steps.2.Lo p0.Steps.2.Hi) _ ((fun hk=>Cs hy5 hk) hk) _ w2 (A1 w2))<|oGs [⟨123,false,(bif (!y4) then true else (!y5))⟩] (oN 146 0 12 2 hS.e rfl<|A3)<|oX (.call [⟨123,false,(bif (!y4) then true else (!y5))⟩] 110 #[.agg #[iv p0.Turn.Lo,iv p0.Turn.Hi]] (.bool y6)) (show Ob.ok _ Ext _ _ from fun hk w2 hd=>Ma F p0.Turn _ ((fun hk=>Cs hy6 hk) hk) _ w2 (A1 w2))<|A3) fun a w hF hx=>?_
      replace hS:=hS.later hx
      refine wfn rfl ?_
      refine A8 hF h (fun hc h=>?_) fun hc h=>?_
      ·refine rnB [(2,iv 3)] hF fun a hF=>?_
       refine wpIn_ret (A2<|A9 [.tmp 2] [_] hF rfl ⟨rfl,trivial⟩ ?_)
       obtain rfl:=Ai h
       exact ⟨rfl,hS.ext⟩
      ·refine wK<|rnB [(2,iv 0)] hF fun a hF=>?_
       refine wpIn_ret (A9 [.tmp 2] [_] hF rfl ⟨rfl,trivial⟩ ?_)
       obtain rfl:=Ai h
       exact ⟨rfl,hS.ext⟩
theorem U4 (F:Nat) (p0:api_Field) (p1:Int) (res:Int) (h:Ns F p0 p1=some res) (μ:Frz) (w0:World) (hm:FrzAt μ w0) {ad1:Option Addr} {cap2:Nat} (hA3:ArrM μ 2 api_Span.cells ad1 cap2 p0.Vals):Calls Tryz.prog 81 #[.agg (p0.ax ad1 cap2),iv p1] w0 (fun e w=>e=.returned (iv res)∧Ext w0 w):=by
 obtain ⟨hlow,hS⟩:=hm.init
 have hext:=Frz.ext_refl w0.heap.size μ
 rw [Ns] at h
 refine feW Tryz.func81 39 [(0,.agg (p0.ax ad1 cap2)),(1,iv p1)] hS fun a w hF hS=>?_
 refine esr<|SK.wi (qBa 46 (p0.ax ad1 cap2) (fun b4=>[(2,pb b4)]) hF hS fun b4 w a hF hS=>?_)
 refine qn 1 2 [] hF fun a hF=>wfn rfl ?_
 refine esr<|qx 4 4 [(5,iv (D2 p0.Grid))] hF (oN 43 0 0 5 hS.e rfl<|oC (fun w2 hd=>Qv p0.Grid _ rfl _ w2 (A1 w2))<|A3) fun a w hF hx=>?_
 replace hS:=hS.later hx
 refine wfn rfl ?_
 refine Ak<|qnB [(11,.bool ((D2 p0.Grid) != 0))] hF fun a hF=>?_
 refine A8 hF h (fun hc h=>?_) fun hc h=>?_
 ·refine rnB [(4,iv (D2 p0.Grid))] hF fun a hF=>?_
  refine wpIn_ret (A2<|A9 [.tmp 4] [_] hF rfl ⟨rfl,trivial⟩ ?_)
  obtain rfl:=Ai h
  exact ⟨rfl,hS.ext⟩
 ·refine wK<|Ak<|esr ?_
  obtain ⟨x5,hx5,h⟩:=A0 h
  refine qo 11 11 [(23,.bool ((ln p0.Vals) != x5))] hF (oL 44 0 5 hS.i rfl rfl<|oL 3 0 3 hS.i rfl rfl<|oL 3 0 4 hS.i rfl rfl<|oM 3 hx5<|A3) fun a hF=>wfn rfl ?_
  refine A8 hF h (fun hc h=>?_) fun hc h=>?_
  ·refine rnB [(4,iv 11)] hF fun a hF=>?_
   refine wpIn_ret (A2<|A9 [.tmp 4] [_] hF rfl ⟨rfl,trivial⟩ ?_)
   obtain rfl:=Ai h
   exact ⟨rfl,hS.ext⟩
  ·refine wK<|D4 (fun a w=>Fr 39 [] [] a∧St w0 [blk b4 46 (p0.ax ad1 cap2),fz w0 μ] w∧Mw=some res) ?_ ?_
   ·skip
    refine qnB [(6,iv 0)] hF fun a hF=>?_
    refine wpIn_block<|Cc (fun n_ a w=>∃(a0:Int),Fr 39 [] [(1,iv p1),(2,pb b4),(6,iv a0)] a∧St w0 [blk b4 46 (p0.ax ad1 cap2),fz w0 μ] w∧Gv p0 p1 n_ a0=some res) F ⟨0,hF.sub kr,St.pick [0,1] (by decide) hS,h⟩ ?_
    rintro nk2 a w ⟨a0,hF,hS,h⟩
    rcases nk2 with _|nk2
    ·cases (show (none:Option Int)=some res from h)
    obtain ⟨k2,hk2⟩:∃k,k=Gv p0 p1 nk2:=⟨_,rfl⟩
    replace h:L0 p0 p1 k2 a0=some res:=by rw [hk2];exact h
    rw [L0] at h
    refine Ak<|qoB [(28,.bool (decide (a0<(ln p0.Vals))))] hF (oL 44 0 5 hS.i rfl rfl<|A3) fun a hF=>?_
    refine A8 hF h (fun hc h=>?_) fun hc h=>?_
    ·refine wK<|Ak<|wpIn_block<|esr ?_
     obtain ⟨a2,a1,h⟩:=A0 h
     refine qx 8 8 [(38,.bool (!(C1 a2 0 p1)))] hF (oL 44 0 5 hS.e rfl rfl<|oI 44 (hA3 _ (hS.frz (i:=1) rfl hlow)) a1<|oG 146 0 2 api_Span.cells_len (fun _ hd=>(hA3 _ ((hS.later hd).frz (i:=1) rfl hlow))) a1<|oC (fun w2 hd=>Jz a2 0 p1 _ rfl _ w2 (A1 w2))<|A3) fun a w hF hx=>?_
     replace hS:=hS.later hx
     refine wfn rfl ?_
     refine A8 hF h (fun hc h=>?_) fun hc h=>?_
     ·refine rnB [(4,iv 3)] hF fun a hF=>?_
      refine wpIn_ret (Ab<|A2<|A2<|Ab<|A2<|A9 [.tmp 4] [_] hF rfl ⟨rfl,trivial⟩ ?_)
      obtain rfl:=Ai h
      exact ⟨rfl,hS.ext⟩
     ·refine wpIn_skip (A7<|A4<|?_)
      refine WI.region ?_
      obtain ⟨a3,a4,h⟩:=A0 h
      refine ro 3 3 [(1,iv p1),(2,pb b4),(6,iv a3)] hF (oA 3 a4<|A3) fun a hF=>wfn rfl ?_
      rw [hk2] at h
      exact ⟨nk2,Nat.lt_succ_self _,a3,hF.sub kr,St.pick [0,1] (by decide) hS,h⟩
    ·refine wpIn_exit (A6<|A6<|Aq<|A4 ?_)
     exact ⟨hF.sub kr,St.pick [0,1] (by decide) hS,h⟩
   rintro a w ⟨hF,hS,h⟩
   rw [Mw] at h
   refine rnB [(4,iv 0)] hF fun a hF=>?_
   refine wpIn_ret (A9 [.tmp 4] [_] hF rfl ⟨rfl,trivial⟩ ?_)
   obtain rfl:=Ai h
   exact ⟨rfl,hS.ext⟩
theorem Ft (F:Nat) (p0:api_Span) (res:(List Int)) (h:Eh F p0=some res) (μ:Frz) (w0:World) (hm:FrzAt μ w0):Bd Tryz.prog 127 #[.agg #[iv p0.Lo,iv p0.Hi]] w0 (fun e w=>∃zad0 zcap0,e=(sv zad0 res zcap0)∧St w0 [arr 5 1 (fK .u8) zad0 res.length zcap0 res] w):=by
 obtain ⟨hlow,hS⟩:=hm.init
 have hext:=Frz.ext_refl w0.heap.size μ
 rw [Eh] at h
 refine feW Tryz.func127 13 [(0,.agg #[iv p0.Lo,iv p0.Hi])] hS fun a w hF hS=>?_
 refine esr<|SK.wi (qBa 146 #[iv p0.Lo,iv p0.Hi] (fun b1=>[(1,pb b1)]) hF hS fun b1 w a hF hS=>?_)
 refine qn 1 2 [] hF fun a hF=>wfn rfl ?_
 refine Ak ?_
 obtain ⟨x2,hx2,h⟩:=A0 h
 obtain ⟨y4,hy4,h⟩:=A0 h
 refine Bm 8 [2] _ (D:=fun w=>St w0 [blk b1 146 #[iv p0.Lo,iv p0.Hi]] w∧FrzAt μ w) kr kr hF.size (fun w hx=>?_) (fun _ _ h=>h)
 replace hS:=hS.later hx
 refine ⟨⟨St.pick [0] (by decide) hS,hS.frz (i:=1) rfl hlow⟩,?_⟩
 have aB:=Frz.le_refl μ
 refine WT.s [0,1,3,4,5,6,7] [2] kr kr ?_
 refine rC 7 [(4,iv p0.Lo),(10,iv x2)] hF (oL 3 0 0 (fun _ hd=>hd.1) rfl rfl<|oL 3 0 1 (fun _ hd=>hd.1) rfl rfl<|oL 3 0 0 (fun _ hd=>hd.1) rfl rfl<|oS 3 hx2<|A3) fun a hF=>?_
 refine WRun.fin ?_
 refine all_cons ?_ (Am)
 refine qR (fun a3=>[(5,a3)]) hF (G7 F _ _ hy4 (Av w) w (A1 w)) ?_
 rintro a3 w a ⟨a5,a6,rfl,hQ⟩ hF
 replace hS:=hS.madeL hQ
 refine ⟨⟨St.pick [1] (by decide) hS,(hS.frz (i:=2) rfl hlow)⟩,?_⟩
 refine WT.z [] kr ?_
 refine WRun.fin ?_
 obtain ⟨aC,a8,h⟩:=A0 h
 refine SK.wi (rR (fun a4=>[(5,sv a5 y4 a6),(11,a4)]) hF (An F _ _ a8 (Av w) w (A1 w)) ?_)
 rintro a4 w a ⟨a9,aA,rfl,hQ⟩ hF
 replace hS:=hS.madeL hQ
 obtain ⟨a2,a7,h⟩:=A0 h
 refine SK.wi (qP 22 22 1 (fun a0 a1=>[(12,sv a0 a2 a1)]) hF hS (hS.arr (i:=0) rfl) a7 rfl fun a0 a1 w a hF hS=>?_)
 refine rn 1 11 [(2,sv a0 a2 a1)] hF fun a hF=>wfn rfl ?_
 refine wpIn_ret (A9 [.tmp 2] [_] hF rfl ⟨rfl,trivial⟩ ?_)
 obtain rfl:=Ai h
 exact ⟨_,rfl,_,_,rfl,St.pick [1] (by decide) hS⟩
end Go.Proofs.YtifbomimeodibaaGreat
