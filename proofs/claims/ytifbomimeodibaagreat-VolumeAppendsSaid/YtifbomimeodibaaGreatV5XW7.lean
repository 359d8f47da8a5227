import Derived.Test.YtifbomimeodibaaGreatV5XD
import Derived.Test.YtifbomimeodibaaGreatProg
import Derived.Test.YtifbomimeodibaaGreatV5XW0
import Derived.Test.YtifbomimeodibaaGreatV5XW1
import Derived.Test.YtifbomimeodibaaGreatV5XW2
import Derived.Test.YtifbomimeodibaaGreatV5XW5
import Derived.Test.YtifbomimeodibaaGreatV5XW6
namespace Go.Proofs.YtifbomimeodibaaGreat
open Go Go.RowKit Go.Eng
set_option maxRecDepth 10000
set_option maxHeartbeats 4000000
set_option linter.unusedVariables false
set_option linter.unusedSimpArgs false
theorem Sj (F:Nat) (p0:api_Echo) (res:Int) (h:Fx F p0=some res) (μ:Frz) (w0:World) (hm:FrzAt μ w0):Calls Tryz.prog 172 #[p0.ag] w0 (fun e w=>e=.returned (iv res)∧Ext w0 w):=by
 obtain ⟨hlow,hS⟩:=hm.init
 have hext:=Frz.ext_refl w0.heap.size μ
 rw [Fx] at h
 refine feW Tryz.func172 77 [(0,p0.ag)] hS fun a w hF hS=>?_
 refine esr<|SK.wi (qBa 149 p0.ar (fun b1=>[(1,pb b1)]) hF hS fun b1 w a hF hS=>?_)
 refine qn 1 2 [] hF fun a hF=>wfn rfl ?_
 refine esr<|qx 4 4 [(3,.bool (Ad p0.Power 0 1073741824))] hF (oN 146 0 1 2 hS.e rfl<|oC (fun w2 hd=>Mq p0.Power 0 1073741824 _ rfl _ w2 (A4 w2))<|A1) fun a w hF hx=>?_
 replace hS:=hS.later hx
 refine wfn rfl ?_
 refine Dx (fun a w=>∃(c7:Bool),Fr 77 [] [(3,.bool c7)] a∧St w0 [blk b1 149 p0.ar,fz w0 μ] w∧Dv c7=some res) ?_ ?_
 ·skip
  refine qoB [(8,iv p0.Kind)] hF (oL 3 0 0 hS.i rfl rfl<|A1) fun a hF=>?_
  refine wpIn_block<|qnB [(9,.bool (p0.Kind==1))] hF fun a hF=>?_
  refine A8 hF h (fun hc h=>?_) fun hc h=>?_
  ·refine WI.region<|ro 11 11 [(3,.bool (bif (Ad p0.Power 0 1073741824) then (((p0.Kind:Int)==1)&&((((p0.Power.Lo:Int)==0)&&(((p0.Power.Hi:Int)==p0.Power.Hi)&&true))&&(((((p0.Steps.1.Lo:Int)==0)&&(((p0.Steps.1.Hi:Int)==0)&&true))&&((((p0.Steps.2.Lo:Int)==0)&&(((p0.Steps.2.Hi:Int)==0)&&true))&&true))&&(((p0.Spread:Int)==0)&&((((p0.Ratio.Lo:Int)==0)&&(((p0.Ratio.Hi:Int)==0)&&true))&&((((p0.Match.Lo:Int)==0)&&(((p0.Match.Hi:Int)==0)&&true))&&((((p0.Turn.Lo:Int)==0)&&(((p0.Turn.Hi:Int)==0)&&true))&&true))))))) else false))] hF (oGs [⟨12,true,(Ad p0.Power 0 1073741824)⟩] (oN 149 0 0 14 hS.i rfl<|oL 3 0 2 hS.i rfl rfl<|oX (.run [] (eqS .eql 149 p0.ar #[iv 1,iv 0,iv p0.Power.Hi,iv 0,iv 0,iv 0,iv 0,iv 0,iv 0,iv 0,iv 0,iv 0,iv 0,iv 0]) (.bool (((p0.Kind:Int)==1)&&((((p0.Power.Lo:Int)==0)&&(((p0.Power.Hi:Int)==p0.Power.Hi)&&true))&&(((((p0.Steps.1.Lo:Int)==0)&&(((p0.Steps.1.Hi:Int)==0)&&true))&&((((p0.Steps.2.Lo:Int)==0)&&(((p0.Steps.2.Hi:Int)==0)&&true))&&true))&&(((p0.Spread:Int)==0)&&((((p0.Ratio.Lo:Int)==0)&&(((p0.Ratio.Hi:Int)==0)&&true))&&((((p0.Match.Lo:Int)==0)&&(((p0.Match.Hi:Int)==0)&&true))&&((((p0.Turn.Lo:Int)==0)&&(((p0.Turn.Hi:Int)==0)&&true))&&true))))))))) (La kr kr)<|A1)<|A1) fun a hF=>WI.fin rfl (A9<|A3<|?_)
   exact ⟨bif (Ad p0.Power 0 1073741824) then (((p0.Kind:Int)==1)&&((((p0.Power.Lo:Int)==0)&&(((p0.Power.Hi:Int)==p0.Power.Hi)&&true))&&(((((p0.Steps.1.Lo:Int)==0)&&(((p0.Steps.1.Hi:Int)==0)&&true))&&((((p0.Steps.2.Lo:Int)==0)&&(((p0.Steps.2.Hi:Int)==0)&&true))&&true))&&(((p0.Spread:Int)==0)&&((((p0.Ratio.Lo:Int)==0)&&(((p0.Ratio.Hi:Int)==0)&&true))&&((((p0.Match.Lo:Int)==0)&&(((p0.Match.Hi:Int)==0)&&true))&&((((p0.Turn.Lo:Int)==0)&&(((p0.Turn.Hi:Int)==0)&&true))&&true))))))) else false,hF.sub kr,St.pick [0,1] (by decide) hS,h⟩
  ·refine Dx (fun a w=>∃(c9:Bool),Fr 77 [] [(1,pb b1),(3,.bool (Ad p0.Power 0 1073741824)),(21,.bool c9)] a∧St w0 [blk b1 149 p0.ar,fz w0 μ] w∧Cy F p0 c9=some res) ?_ ?_
   ·skip
    refine qnB [(21,.bool (p0.Kind==2))] hF fun a hF=>?_
    refine A8 hF h (fun hc h=>?_) fun hc h=>?_
    ·refine wK ?_
     exact ⟨p0.Kind==2,hF.sub kr,St.pick [0,1] (by decide) hS,h⟩
    ·refine WI.region<|rn 2 2 [(1,pb b1),(3,.bool (Ad p0.Power 0 1073741824)),(21,.bool (p0.Kind==3))] hF fun a hF=>wfn rfl ?_
     exact ⟨p0.Kind==3,hF.sub kr,St.pick [0,1] (by decide) hS,h⟩
   rintro a w ⟨c9,hF,hS,h⟩
   rw [Cy] at h
   refine A8 hF h (fun hc h=>?_) fun hc h=>?_
   ·refine esr<|rX 23 23 [(1,pb b1),(3,.bool (bif (bif (bif (bif (Ad p0.Power 0 1073741824) then (decide (p0.Power.Lo>0)) else false) then (Ad p0.Ratio 0 1000000) else false) then (Ad p0.Match 0 1000) else false) then (Aw p0.Spread 0 65535) else false))] hF (oGs [⟨25,true,(Ad p0.Power 0 1073741824)⟩] (oL 3 0 1 hS.e rfl rfl<|A1)<|oGs [⟨31,true,(bif (Ad p0.Power 0 1073741824) then (decide (p0.Power.Lo>0)) else false)⟩] (oN 146 0 8 2 hS.e rfl<|oC (fun w2 hd=>Mq p0.Ratio 0 1000000 _ rfl _ w2 (A4 w2))<|A1)<|oGs [⟨36,true,(bif (bif (Ad p0.Power 0 1073741824) then (decide (p0.Power.Lo>0)) else false) then (Ad p0.Ratio 0 1000000) else false)⟩] (oN 146 0 10 2 hS.e rfl<|oC (fun w2 hd=>Mq p0.Match 0 1000 _ rfl _ w2 (A4 w2))<|A1)<|oGs [⟨41,true,(bif (bif (bif (Ad p0.Power 0 1073741824) then (decide (p0.Power.Lo>0)) else false) then (Ad p0.Ratio 0 1000000) else false) then (Ad p0.Match 0 1000) else false)⟩] (oL 3 0 7 hS.e rfl rfl<|oC (fun w2 hd=>J8 p0.Spread 0 65535 _ rfl _ w2 (A4 w2))<|A1)<|A1) fun a w hF hx=>?_
    replace hS:=hS.later hx
    refine wfn rfl ?_
    refine qoB [(48,.bool (p0.Kind==2))] hF (oL 3 0 0 hS.i rfl rfl<|A1) fun a hF=>?_
    refine A8 hF h (fun hc h=>?_) fun hc h=>?_
    ·refine WI.region<|ro 14 14 [(3,.bool (bif (bif (bif (bif (bif (bif (Ad p0.Power 0 1073741824) then (decide (p0.Power.Lo>0)) else false) then (Ad p0.Ratio 0 1000000) else false) then (Ad p0.Match 0 1000) else false) then (Aw p0.Spread 0 65535) else false) then ((((p0.Steps.1.Lo:Int)==0)&&(((p0.Steps.1.Hi:Int)==0)&&true))&&((((p0.Steps.2.Lo:Int)==0)&&(((p0.Steps.2.Hi:Int)==0)&&true))&&true)) else false) then (((p0.Turn.Lo:Int)==0)&&(((p0.Turn.Hi:Int)==0)&&true)) else false))] hF (oGs [⟨50,true,(bif (bif (bif (bif (Ad p0.Power 0 1073741824) then (decide (p0.Power.Lo>0)) else false) then (Ad p0.Ratio 0 1000000) else false) then (Ad p0.Match 0 1000) else false) then (Aw p0.Spread 0 65535) else false)⟩] (oN 147 0 3 4 hS.i rfl<|oX (.run [] (eqS .eql 147 #[iv p0.Steps.1.Lo,iv p0.Steps.1.Hi,iv p0.Steps.2.Lo,iv p0.Steps.2.Hi] #[iv 0,iv 0,iv 0,iv 0]) (.bool ((((p0.Steps.1.Lo:Int)==0)&&(((p0.Steps.1.Hi:Int)==0)&&true))&&((((p0.Steps.2.Lo:Int)==0)&&(((p0.Steps.2.Hi:Int)==0)&&true))&&true)))) (La kr kr)<|A1)<|oGs [⟨56,true,(bif (bif (bif (bif (bif (Ad p0.Power 0 1073741824) then (decide (p0.Power.Lo>0)) else false) then (Ad p0.Ratio 0 1000000) else false) then (Ad p0.Match 0 1000) else false) then (Aw p0.Spread 0 65535) else false) then ((((p0.Steps.1.Lo:Int)==0)&&(((p0.Steps.1.Hi:Int)==0)&&true))&&((((p0.Steps.2.Lo:Int)==0)&&(((p0.Steps.2.Hi:Int)==0)&&true))&&true)) else false)⟩] (oN 146 0 12 2 hS.i rfl<|oX (.run [] (eqS .eql 146 #[iv p0.Turn.Lo,iv p0.Turn.Hi] #[iv 0,iv 0]) (.bool (((p0.Turn.Lo:Int)==0)&&(((p0.Turn.Hi:Int)==0)&&true)))) (La kr kr)<|A1)<|A1) fun a hF=>WI.fin rfl (A9<|A3<|?_)
     exact ⟨bif (bif (bif (bif (bif (bif (Ad p0.Power 0 1073741824) then (decide (p0.Power.Lo>0)) else false) then (Ad p0.Ratio 0 1000000) else false) then (Ad p0.Match 0 1000) else false) then (Aw p0.Spread 0 65535) else false) then ((((p0.Steps.1.Lo:Int)==0)&&(((p0.Steps.1.Hi:Int)==0)&&true))&&((((p0.Steps.2.Lo:Int)==0)&&(((p0.Steps.2.Hi:Int)==0)&&true))&&true)) else false) then (((p0.Turn.Lo:Int)==0)&&(((p0.Turn.Hi:Int)==0)&&true)) else false,hF.sub kr,St.pick [0,1] (by decide) hS,h⟩
    ·refine WI.region<|qn 2 2 [(63,.bool (bif (bif (bif (bif (Ad p0.Power 0 1073741824) then (decide (p0.Power.Lo>0)) else false) then (Ad p0.Ratio 0 1000000) else false) then (Ad p0.Match 0 1000) else false) then (Aw p0.Spread 0 65535) else false))] hF fun a hF=>?_
     rcases Bool.eq_false_or_eq_true ((bif (bif (bif (bif (Ad p0.Power 0 1073741824) then (decide (p0.Power.Lo>0)) else false) then (Ad p0.Ratio 0 1000000) else false) then (Ad p0.Match 0 1000) else false) then (Aw p0.Spread 0 65535) else false)) with a0|a0
     ·replace h:=Gx h a0
      rw [a0] at hF
      refine Zm (n:=8) (obs:=[.run [⟨63,true,true⟩] (Instr.indexAt 147 (.pointer (some ⟨b1,3,none⟩)) (iv 0)) (.pointer (some ⟨b1,3,none⟩)),.run [⟨63,true,true⟩] (Instr.loadAt 146 (.pointer (some ⟨b1,3,none⟩))) (.agg #[iv p0.Steps.1.Lo,iv p0.Steps.1.Hi]),.run [⟨63,true,true⟩] (Instr.indexAt 147 (.pointer (some ⟨b1,3,none⟩)) (iv 1)) (.pointer (some ⟨b1,5,none⟩)),.run [⟨63,true,true⟩] (Instr.loadAt 146 (.pointer (some ⟨b1,5,none⟩))) (.agg #[iv p0.Steps.2.Lo,iv p0.Steps.2.Hi]),.run [⟨63,true,true⟩] (Instr.loadAt 146 (.pointer (some ⟨b1,12,none⟩))) (.agg #[iv p0.Turn.Lo,iv p0.Turn.Hi])]) 10 [(3,⟨[],.bool true⟩),(63,⟨[],.bool true⟩),(66,⟨[⟨63,true,true⟩],.agg #[iv p0.Steps.1.Lo,iv p0.Steps.1.Hi]⟩),(69,⟨[⟨63,true,true⟩],.agg #[iv p0.Steps.2.Lo,iv p0.Steps.2.Hi]⟩),(71,⟨[⟨63,true,true⟩],.agg #[iv p0.Turn.Lo,iv p0.Turn.Hi]⟩)] hF kr (Gq (Bm kr) (Gq (obN (us:=[iv p0.Steps.1.Lo,iv p0.Steps.1.Hi]) kr (fun _ hd=>((hS.at_ hd).blk (i:=0) rfl).cells rfl)) (Gq (Bm kr) (Gq (obN (us:=[iv p0.Steps.2.Lo,iv p0.Steps.2.Hi]) kr (fun _ hd=>((hS.at_ hd).blk (i:=0) rfl).cells rfl)) (Gq (obN (us:=[iv p0.Turn.Lo,iv p0.Turn.Hi]) kr (fun _ hd=>((hS.at_ hd).blk (i:=0) rfl).cells rfl)) A1))))) ⟨kr⟩ kr rfl fun a hF=>?_
      replace hF:Fr 77 [] [(3,.bool true),(63,.bool true),(66,.agg #[iv p0.Steps.1.Lo,iv p0.Steps.1.Hi]),(69,.agg #[iv p0.Steps.2.Lo,iv p0.Steps.2.Hi]),(71,.agg #[iv p0.Turn.Lo,iv p0.Turn.Hi])] a:=hF
      refine SK.wi (qL 146 44 3 [(api_Span.mk p0.Steps.1.Lo p0.Steps.1.Hi),(api_Span.mk p0.Steps.2.Lo p0.Steps.2.Hi),p0.Turn] (fun a1=>[(72,sb a1 3)]) api_Span.cells_len hF hS fun a1 w a hF hS=>?_)
      obtain ⟨a2,a3,h⟩:=A0 h
      refine rX 3 14 [(3,.bool a2)] hF (oGs [⟨63,true,true⟩] (oC (fun w2 hd=>Tw F ([(api_Span.mk p0.Steps.1.Lo p0.Steps.1.Hi),(api_Span.mk p0.Steps.2.Lo p0.Steps.2.Hi),p0.Turn]) _ a3 _ w2 (A4 w2) (Arr.toM ((hS.later hd).arr (i:=0) rfl)))<|A1)<|A1) fun a w hF hx=>?_
      replace hS:=hS.later hx
      refine WI.fin rfl (A9<|A3<|?_)
      exact ⟨a2,hF.sub kr,St.pick [1,2] (by decide) hS,h⟩
     ·replace h:=Gw h a0
      rw [a0] at hF
      refine rk 3 [(1,pb b1),(3,.bool false),(63,.bool false),(64,undef)] hF fun a hF=>?_
      refine qk 4 [(65,undef)] hF fun a hF=>?_
      refine qk 5 [(66,undef)] hF fun a hF=>?_
      refine qk 6 [(67,undef)] hF fun a hF=>?_
      refine qk 7 [(68,undef)] hF fun a hF=>?_
      refine qk 8 [(69,undef)] hF fun a hF=>?_
      refine qk 9 [(70,undef)] hF fun a hF=>?_
      refine qk 10 [(71,undef)] hF fun a hF=>?_
      refine qk 11 [(72,undef)] hF fun a hF=>?_
      refine qk 12 [(73,undef)] hF fun a hF=>?_
      refine qn 2 14 [] hF fun a hF=>WI.fin rfl (A9<|A3<|?_)
      exact ⟨false,hF.sub kr,St.pick [0,1] (by decide) hS,h⟩
   ·refine rnB [(2,iv 2)] hF fun a hF=>?_
    refine wpIn_ret (Ab<|A2<|A7 [.tmp 2] [_] hF rfl ⟨rfl,trivial⟩ ?_)
    obtain rfl:=Ae h
    exact ⟨rfl,hS.ext⟩
 rintro a w ⟨c7,hF,hS,h⟩
 rw [Dv] at h
 refine Am<|rnB [(76,.bool (!c7))] hF fun a hF=>?_
 refine A8 hF h (fun hc h=>?_) fun hc h=>?_
 ·refine rnB [(2,iv 3)] hF fun a hF=>?_
  refine wpIn_ret (A2<|A7 [.tmp 2] [_] hF rfl ⟨rfl,trivial⟩ ?_)
  obtain rfl:=Ae h
  exact ⟨rfl,hS.ext⟩
 ·refine wK<|rnB [(2,iv 0)] hF fun a hF=>?_
  refine wpIn_ret (A7 [.tmp 2] [_] hF rfl ⟨rfl,trivial⟩ ?_)
  obtain rfl:=Ae h
  exact ⟨rfl,hS.ext⟩
theorem Vw (F:Nat) (p0:api_Field) (p1:Int) (res:Int) (h:N8 F p0 p1=some res) (μ:Frz) (w0:World) (hm:FrzAt μ w0) {ad1:Option Addr} {cap2:Nat} (hA3:ArrM μ 2 api_Span.cells ad1 cap2 p0.Vals):Calls Tryz.prog 183 #[.agg (p0.ax ad1 cap2),iv p1] w0 (fun e w=>e=.returned (iv res)∧Ext w0 w):=by
 obtain ⟨hlow,hS⟩:=hm.init
 have hext:=Frz.ext_refl w0.heap.size μ
 rw [N8] at h
 refine feW Tryz.func183 49 [(0,.agg (p0.ax ad1 cap2)),(1,iv p1)] hS fun a w hF hS=>?_
 refine esr<|SK.wi (qBa 46 (p0.ax ad1 cap2) (fun b4=>[(2,pb b4)]) hF hS fun b4 w a hF hS=>?_)
 refine qn 1 2 [] hF fun a hF=>wfn rfl ?_
 refine Am<|esr<|qx 4 4 [(5,iv (Bn p0.Grid))] hF (oN 43 0 0 5 hS.e rfl<|oC (fun w2 hd=>P9 p0.Grid _ rfl _ w2 (A4 w2))<|A1) fun a w hF hx=>?_
 replace hS:=hS.later hx
 refine wfn rfl ?_
 refine qnB [(12,.bool ((Bn p0.Grid) != 0))] hF fun a hF=>?_
 refine A8 hF h (fun hc h=>?_) fun hc h=>?_
 ·refine rnB [(4,iv (Bn p0.Grid))] hF fun a hF=>?_
  refine wpIn_ret (A2<|A7 [.tmp 4] [_] hF rfl ⟨rfl,trivial⟩ ?_)
  obtain rfl:=Ae h
  exact ⟨rfl,hS.ext⟩
 ·refine wK<|Am<|esr ?_
  obtain ⟨x5,hx5,h⟩:=A0 h
  refine qo 11 11 [(24,.bool ((ln p0.Vals) != x5))] hF (oL 44 0 5 hS.i rfl rfl<|oL 3 0 3 hS.i rfl rfl<|oL 3 0 4 hS.i rfl rfl<|oM 3 hx5<|A1) fun a hF=>wfn rfl ?_
  refine A8 hF h (fun hc h=>?_) fun hc h=>?_
  ·refine rnB [(4,iv 11)] hF fun a hF=>?_
   refine wpIn_ret (A2<|A7 [.tmp 4] [_] hF rfl ⟨rfl,trivial⟩ ?_)
   obtain rfl:=Ae h
   exact ⟨rfl,hS.ext⟩
  ·refine wK<|Dx (fun a w=>Fr 49 [] [] a∧St w0 [blk b4 46 (p0.ax ad1 cap2),fz w0 μ] w∧M6=some res) ?_ ?_
   ·skip
    refine qoB [(26,sv ad1 p0.Vals cap2),(27,iv (ln p0.Vals)),(28,iv 0)] hF (oL 44 0 5 hS.i rfl rfl<|A1) fun a hF=>?_
    refine wpIn_block<|Ck (fun n_ a w=>∃(a1:Int),Fr 49 [] [(1,iv p1),(26,sv ad1 p0.Vals cap2),(27,iv (ln p0.Vals)),(28,iv a1)] a∧St w0 [blk b4 46 (p0.ax ad1 cap2),fz w0 μ] w∧Gd p0 p1 n_ a1=some res) F ⟨0,hF.sub kr,St.pick [0,1] (by decide) hS,h⟩ ?_
    rintro nk2 a w ⟨a1,hF,hS,h⟩
    rcases nk2 with _|nk2
    ·cases (show (none:Option Int)=some res from h)
    obtain ⟨k2,hk2⟩:∃k,k=Gd p0 p1 nk2:=⟨_,rfl⟩
    replace h:Kf p0 p1 k2 a1=some res:=by rw [hk2];exact h
    rw [Kf] at h
    refine qnB [(29,.bool (decide (a1<(ln p0.Vals))))] hF fun a hF=>?_
    refine Am<|A8 hF h (fun hc h=>?_) fun hc h=>?_
    ·refine wK<|Am<|wpIn_block<|esr ?_
     obtain ⟨a0,a3,h⟩:=A0 h
     refine qo 2 2 [(31,.agg #[iv a0.Lo,iv a0.Hi])] hF (oI 44 (hA3 _ (hS.frz (i:=1) rfl hlow)) a3<|oG 146 0 2 api_Span.cells_len (fun _ hd=>(hA3 _ ((hS.at_ hd).frz (i:=1) rfl hlow))) a3<|A1) fun a hF=>?_
     refine SK.wi (qA 146 #[iv 0,iv 0] (fun a2=>[(7,pb a2)]) hF hS fun a2 w a hF hS=>?_)
     refine SK.wi (qw 146 0 #[iv a0.Lo,iv a0.Hi] hF hS rfl fun w a hF hS=>wfn rfl ?_)
     refine qoB [(47,.bool (bif (bif (decide (a0.Lo<0)) then true else (decide (a0.Hi<a0.Lo))) then true else (decide (a0.Hi>p1))))] hF (oL 3 0 0 hS.i rfl rfl<|oGs [⟨35,false,(decide (a0.Lo<0))⟩] (oL 3 0 1 hS.i rfl rfl<|oL 3 0 0 hS.i rfl rfl<|A1)<|oGs [⟨42,false,(bif (decide (a0.Lo<0)) then true else (decide (a0.Hi<a0.Lo)))⟩] (oL 3 0 1 hS.i rfl rfl<|A1)<|A1) fun a hF=>?_
     refine A8 hF h (fun hc h=>?_) fun hc h=>?_
     ·refine rnB [(4,iv 3)] hF fun a hF=>?_
      refine wpIn_ret (Ab<|A2<|A2<|Ab<|A2<|A7 [.tmp 4] [_] hF rfl ⟨rfl,trivial⟩ ?_)
      obtain rfl:=Ae h
      exact ⟨rfl,hS.ext⟩
     ·refine wpIn_skip (A9<|A3<|?_)
      refine WI.region ?_
      obtain ⟨a4,a5,h⟩:=A0 h
      refine ro 2 2 [(1,iv p1),(26,sv ad1 p0.Vals cap2),(27,iv (ln p0.Vals)),(28,iv a4)] hF (oA 3 a5<|A1) fun a hF=>wfn rfl ?_
      rw [hk2] at h
      exact ⟨nk2,Nat.lt_succ_self _,a4,hF.sub kr,St.pick [1,2] (by decide) hS,h⟩
    ·refine wpIn_exit (A5<|A5<|Ar<|A3 ?_)
     exact ⟨hF.sub kr,St.pick [0,1] (by decide) hS,h⟩
   rintro a w ⟨hF,hS,h⟩
   rw [M6] at h
   refine rnB [(4,iv 0)] hF fun a hF=>?_
   refine wpIn_ret (A7 [.tmp 4] [_] hF rfl ⟨rfl,trivial⟩ ?_)
   obtain rfl:=Ae h
   exact ⟨rfl,hS.ext⟩
theorem J3 (F:Nat) (p0:volume_writer) (p1:api_Span) (res:volume_writer) (h:E6 F p0 p1=some res) (μ:Frz) (w0 w1:World) (T_:List Res) (hlow:Ax w0 μ) {cb0:Nat} {ad1:Option Addr} {cap2:Nat} (hS:St w0 (fz w0 μ::blk cb0 138 #[sv ad1 p0.b cap2]::arrT 5 1 (fK .u8) ad1 p0.b.length cap2 p0.b::T_) w1):Ba Tryz.prog 173 #[pb cb0,.agg #[iv p1.Lo,iv p1.Hi]] w1 (fun e w=>∃(ν_:Frz) (a2:Option Addr) (a4:Nat),μ.ext w0.heap.size ν_∧Ax w0 ν_∧e=(.tuple #[])∧St w0 (fz w0 ν_::blk cb0 138 #[sv a2 res.b a4]::arrT 5 1 (fK .u8) a2 res.b.length a4 res.b::T_) w):=by
 rw [E6] at h
 have hext:=Frz.ext_refl w0.heap.size μ
 refine feW Tryz.func173 17 [(0,pb cb0),(1,.agg #[iv p1.Lo,iv p1.Hi])] hS fun a w hF hS=>?_
 refine esr<|SK.wi (qBa 146 #[iv p1.Lo,iv p1.Hi] (fun b3=>[(3,pb b3)]) hF hS fun b3 w a hF hS=>wfn rfl ?_)
 refine esr<|qo 3 3 [(4,pb cb0),(6,iv p1.Lo)] hF (oL 3 0 0 hS.i rfl rfl<|A1) fun a hF=>?_
 refine SK.wi (qL 3 69 1 [p1.Lo] (fun b4=>[(7,sb b4 1)]) H9 hF hS fun b4 w a hF hS=>?_)
 obtain ⟨ν5,hx6,hlow,hS,hz7⟩:=hS.freeze (i:=2) (j:=0) rfl rfl (by decide) hlow
 replace hext:=hext.t hx6
 have hA8:=ArrM.of_arr hz7
 obtain ⟨y9,hy9,h⟩:=A0 h
 replace hS:=hS.s3.s3.s3
 refine SK.wi (qR (fun aD=>[]) hF (Gr F _ _ _ hy9 ν5 w0 w _ hlow hA8 hS) ?_)
 rintro aD w a ⟨ν10,aF,aG,a5,hlow,rfl,hS⟩ hF
 replace hext:=hext.t a5
 replace hA8:=hA8.mono a5.1
 refine wfn rfl ?_
 refine WI.region ?_
 obtain ⟨a7,aA,h⟩:=A0 h
 refine ro 6 6 [(9,pb cb0),(14,iv a7)] hF (oL 3 3 1 hS.i rfl rfl<|oL 3 3 0 hS.i rfl rfl<|oS 3 aA<|A1) fun a hF=>?_
 refine SK.wi (qL 3 69 1 [a7] (fun a3=>[(15,sb a3 1)]) H9 hF hS fun a3 w a hF hS=>?_)
 obtain ⟨ν17,a6,hlow,hS,aC⟩:=hS.freeze (i:=1) (j:=0) rfl rfl (by decide) hlow
 replace hA8:=hA8.mono a6.1
 replace hext:=hext.t a6
 have a0:=ArrM.of_arr aC
 obtain ⟨aH,aB,h⟩:=A0 h
 refine SK.wi (rR (fun aE=>[]) hF (As F _ _ _ aB ν17 w0 w _ hlow a0 hS) ?_)
 rintro aE w a ⟨ν22,a8,a9,a1,hlow,rfl,hS⟩ hF
 replace hext:=hext.t a1
 replace hA8:=hA8.mono a1.1
 replace a0:=a0.mono a1.1
 refine WI.fin rfl ?_
 refine Jr hF rfl ?_
 obtain rfl:=Ae h
 replace hS:=hS.d3
 exact ⟨_,rfl,ν22,a8,a9,hext,hlow,rfl,hS⟩
theorem Rh (F:Nat) (p0:volume_note) (p1:volume_writer) (res:volume_writer) (h:H8 F p0 p1=some res) (μ:Frz) (w0 w1:World) (T_:List Res) (hlow:Ax w0 μ) {cb1:Nat} {ad1:Option Addr} {cap2:Nat} (hS:St w0 (fz w0 μ::blk cb1 138 #[sv ad1 p1.b cap2]::arrT 5 1 (fK .u8) ad1 p1.b.length cap2 p1.b::T_) w1):Ba Tryz.prog 188 #[.agg #[iv p0.time,.string p0.text],pb cb1] w1 (fun e w=>∃(ν_:Frz) (a0:Option Addr) (a1:Nat),μ.ext w0.heap.size ν_∧Ax w0 ν_∧e=(.tuple #[])∧St w0 (fz w0 ν_::blk cb1 138 #[sv a0 res.b a1]::arrT 5 1 (fK .u8) a0 res.b.length a1 res.b::T_) w):=by
 rw [H8] at h
 have hext:=Frz.ext_refl w0.heap.size μ
 refine feW Tryz.func188 13 [(0,.agg #[iv p0.time,.string p0.text]),(1,pb cb1)] hS fun a w hF hS=>?_
 refine esr<|SK.wi (qBa 160 #[iv p0.time,.string p0.text] (fun b3=>[(2,pb b3)]) hF hS fun b3 w a hF hS=>wfn rfl ?_)
 refine esr<|qo 3 3 [(4,pb cb1),(6,iv p0.time)] hF (oL 3 0 0 hS.i rfl rfl<|A1) fun a hF=>?_
 refine SK.wi (qL 3 69 2 [3,p0.time] (fun b4=>[(7,sb b4 2)]) H9 hF hS fun b4 w a hF hS=>?_)
 obtain ⟨ν5,hx6,hlow,hS,hz7⟩:=hS.freeze (i:=2) (j:=0) rfl rfl (by decide) hlow
 replace hext:=hext.t hx6
 have hA8:=ArrM.of_arr hz7
 obtain ⟨y9,hy9,h⟩:=A0 h
 replace hS:=hS.s3.s3.s3
 refine SK.wi (qR (fun a7=>[]) hF (As F _ _ _ hy9 ν5 w0 w _ hlow hA8 hS) ?_)
 rintro a7 w a ⟨ν10,a9,aA,a2,hlow,rfl,hS⟩ hF
 replace hext:=hext.t a2
 replace hA8:=hA8.mono a2.1
 refine wfn rfl ?_
 refine WI.region<|ro 3 3 [(9,pb cb1),(11,.string p0.text)] hF (oL 9 3 1 hS.i rfl rfl<|A1) fun a hF=>?_
 obtain ⟨aB,a6,h⟩:=A0 h
 refine SK.wi (rR (fun a8=>[]) hF (J4 F _ _ _ a6 ν10 w0 w _ hlow  hS) ?_)
 rintro a8 w a ⟨ν16,a4,a5,a3,hlow,rfl,hS⟩ hF
 replace hext:=hext.t a3
 replace hA8:=hA8.mono a3.1
 refine WI.fin rfl ?_
 refine Jr hF rfl ?_
 obtain rfl:=Ae h
 replace hS:=hS.d3
 exact ⟨_,rfl,ν16,a4,a5,hext,hlow,rfl,hS⟩
theorem Rz (F:Nat) (p0:api_Sweep) (res:Int) (h:El F p0=some res) (μ:Frz) (w0:World) (hm:FrzAt μ w0) {ad1:Option Addr} {cap2:Nat} {css3:List (List Value)} (hA4:ArrQ μ 1 Rp87 ad1 cap2 css3 p0.Rays):Calls Tryz.prog 47 #[.agg (p0.ax ad1 cap2)] w0 (fun e w=>e=.returned (iv res)∧Ext w0 w):=by
 obtain ⟨hlow,hS⟩:=hm.init
 have hext:=Frz.ext_refl w0.heap.size μ
 rw [El] at h
 refine feW Tryz.func47 78 [(0,.agg (p0.ax ad1 cap2))] hS fun a w hF hS=>?_
 refine esr<|SK.wi (qBa 41 (p0.ax ad1 cap2) (fun b5=>[(1,pb b5)]) hF hS fun b5 w a hF hS=>?_)
 refine qn 1 2 [] hF fun a hF=>wfn rfl ?_
 refine esr ?_
 obtain ⟨y6,hy6,h⟩:=A0 h
 refine qx 4 4 [(3,iv y6)] hF (oN 38 0 0 8 hS.e rfl<|oC (fun w2 hd=>Np F p0.Site _ hy6 _ w2 (A4 w2))<|A1) fun a w hF hx=>?_
 replace hS:=hS.later hx
 refine wfn rfl ?_
 refine Am<|qnB [(12,.bool (y6 != 0))] hF fun a hF=>?_
 refine A8 hF h (fun hc h=>?_) fun hc h=>?_
 ·refine rnB [(2,iv y6)] hF fun a hF=>?_
  refine wpIn_ret (A2<|A7 [.tmp 2] [_] hF rfl ⟨rfl,trivial⟩ ?_)
  obtain rfl:=Ae h
  exact ⟨rfl,hS.ext⟩
 ·refine wK<|Am<|esr<|qx 10 10 [(23,.bool (bif (!(Ag p0.Tilt 0 256)) then true else (!(Ag p0.Time 0 4294967296))))] hF (oL 3 0 8 hS.e rfl rfl<|oC (fun w2 hd=>Cn p0.Tilt 0 256 _ rfl _ w2 (A4 w2))<|oGs [⟨18,false,(!(Ag p0.Tilt 0 256))⟩] (oL 3 0 9 hS.e rfl rfl<|oC (fun w2 hd=>Cn p0.Time 0 4294967296 _ rfl _ w2 (A4 w2))<|A1)<|A1) fun a w hF hx=>?_
  replace hS:=hS.later hx
  refine wfn rfl ?_
  refine A8 hF h (fun hc h=>?_) fun hc h=>?_
  ·refine rnB [(2,iv 3)] hF fun a hF=>?_
   refine wpIn_ret (A2<|A7 [.tmp 2] [_] hF rfl ⟨rfl,trivial⟩ ?_)
   obtain rfl:=Ae h
   exact ⟨rfl,hS.ext⟩
  ·refine wK<|Am<|esr ?_
   obtain ⟨x7,hx7,h⟩:=A0 h
   refine qo 8 8 [(31,.bool ((ln p0.Rays) != x7))] hF (oL 39 0 10 hS.i rfl rfl<|oL 3 0 4 hS.i rfl rfl<|oM 3 hx7<|A1) fun a hF=>wfn rfl ?_
   refine A8 hF h (fun hc h=>?_) fun hc h=>?_
   ·refine rnB [(2,iv 11)] hF fun a hF=>?_
    refine wpIn_ret (A2<|A7 [.tmp 2] [_] hF rfl ⟨rfl,trivial⟩ ?_)
    obtain rfl:=Ae h
    exact ⟨rfl,hS.ext⟩
   ·refine wK<|Dx (fun a w=>Fr 78 [] [(1,pb b5)] a∧St w0 [blk b5 41 (p0.ax ad1 cap2),fz w0 μ] w∧Hj F p0=some res) ?_ ?_
    ·skip
     refine qnB [(4,iv 0)] hF fun a hF=>?_
     refine wpIn_block<|Ck (fun n_ a w=>∃(a3:Int),Fr 78 [] [(1,pb b5),(4,iv a3)] a∧St w0 [blk b5 41 (p0.ax ad1 cap2),fz w0 μ] w∧Ez F p0 n_ a3=some res) F ⟨0,hF.sub kr,St.pick [0,1] (by decide) hS,h⟩ ?_
     rintro nk6 a w ⟨a3,hF,hS,h⟩
     rcases nk6 with _|nk6
     ·cases (show (none:Option Int)=some res from h)
     obtain ⟨k6,hk6⟩:∃k,k=Ez F p0 nk6:=⟨_,rfl⟩
     replace h:Hh F p0 k6 a3=some res:=by rw [hk6];exact h
     rw [Hh] at h
     refine Am<|qoB [(36,.bool (decide (a3<(ln p0.Rays))))] hF (oL 39 0 10 hS.i rfl rfl<|A1) fun a hF=>?_
     refine A8 hF h (fun hc h=>?_) fun hc h=>?_
     ·refine wK<|Am<|wpIn_block<|Am ?_
      obtain ⟨aO,aI,h⟩:=A0 h
      obtain ⟨aX,a8,aF⟩:=Cw hA4.2 aI
      obtain ⟨aR,aU,rfl,aZ⟩:=aF
      refine qD 10 [(48,.bool ((ln aO) != p0.Site.Gates))] hF (oL 39 0 10 hS.e rfl rfl<|oI 39 (hA4.at (hS.frz (i:=1) rfl hlow)) a8<|oE 87 0 (Dg 1) (fun _ hd=>(hA4.at ((hS.later hd).frz (i:=1) rfl hlow))) a8 rfl<|oL 3 0 5 hS.e rfl rfl<|A1) fun a w hF hx=>?_
      replace hS:=hS.later hx
      refine wfn rfl ?_
      refine A8 hF h (fun hc h=>?_) fun hc h=>?_
      ·refine rnB [(2,iv 11)] hF fun a hF=>?_
       refine wpIn_ret (Ab<|A2<|A2<|Ab<|A2<|A7 [.tmp 2] [_] hF rfl ⟨rfl,trivial⟩ ?_)
       obtain rfl:=Ae h
       exact ⟨rfl,hS.ext⟩
      ·refine wpIn_skip (A9<|A3<|?_)
       refine WI.region ?_
       obtain ⟨aC,aL,h⟩:=A0 h
       refine ro 3 3 [(1,pb b5),(4,iv aC)] hF (oA 3 aL<|A1) fun a hF=>wfn rfl ?_
       rw [hk6] at h
       exact ⟨nk6,Nat.lt_succ_self _,aC,hF.sub kr,St.pick [0,1] (by decide) hS,h⟩
     ·refine wpIn_exit (A5<|A5<|Ar<|A3 ?_)
      exact ⟨hF.sub kr,St.pick [0,1] (by decide) hS,h⟩
    rintro a w ⟨hF,hS,h⟩
    rw [Hj] at h
    refine Dx (fun a w=>Fr 78 [] [] a∧St w0 [blk b5 41 (p0.ax ad1 cap2),fz w0 μ] w∧Kd=some res) ?_ ?_
    ·skip
     refine qnB [(5,iv 0)] hF fun a hF=>?_
     refine wpIn_block<|Ck (fun n_ a w=>∃(a0:Int),Fr 78 [] [(1,pb b5),(5,iv a0)] a∧St w0 [blk b5 41 (p0.ax ad1 cap2),fz w0 μ] w∧Ex F p0 n_ a0=some res) F ⟨0,hF.sub kr,St.pick [0,1] (by decide) hS,h⟩ ?_
     rintro nk3 a w ⟨a0,hF,hS,h⟩
     rcases nk3 with _|nk3
     ·cases (show (none:Option Int)=some res from h)
     obtain ⟨k3,hk3⟩:∃k,k=Ex F p0 nk3:=⟨_,rfl⟩
     replace h:Hf F p0 k3 a0=some res:=by rw [hk3];exact h
     rw [Hf] at h
     refine Am<|qoB [(53,.bool (decide (a0<(ln p0.Rays))))] hF (oL 39 0 10 hS.i rfl rfl<|A1) fun a hF=>?_
     refine A8 hF h (fun hc h=>?_) fun hc h=>?_
     ·refine wK<|Dx (fun a w=>Fr 78 [] [(1,pb b5),(5,iv a0)] a∧St w0 [blk b5 41 (p0.ax ad1 cap2),fz w0 μ] w∧Hk a0 k3=some res) ?_ ?_
      ·skip
       refine wpIn_block<|qnB [(6,iv 0)] hF fun a hF=>?_
       refine wpIn_block<|Ck (fun n_ a w=>∃(a2:Int),Fr 78 [] [(1,pb b5),(5,iv a0),(6,iv a2)] a∧St w0 [blk b5 41 (p0.ax ad1 cap2),fz w0 μ] w∧Ey F p0 a0 k3 n_ a2=some res) F ⟨0,hF.sub kr,St.pick [0,1] (by decide) hS,h⟩ ?_
       rintro nk5 a w ⟨a2,hF,hS,h⟩
       rcases nk5 with _|nk5
       ·cases (show (none:Option Int)=some res from h)
       obtain ⟨k5,hk5⟩:∃k,k=Ey F p0 a0 k3 nk5:=⟨_,rfl⟩
       replace h:Hg F p0 a0 k3 k5 a2=some res:=by rw [hk5];exact h
       rw [Hg] at h
       refine Am<|esr ?_
       obtain ⟨aN,aG,h⟩:=A0 h
       obtain ⟨aV,a6,aD⟩:=Cw hA4.2 aG
       obtain ⟨aP,aS,rfl,aY⟩:=aD
       refine qo 8 8 [(63,.bool (decide (a2<(ln aN))))] hF (oL 39 0 10 hS.i rfl rfl<|oI 39 (hA4.at (hS.frz (i:=1) rfl hlow)) a6<|oE 87 0 (Dg 1) (fun _ hd=>(hA4.at ((hS.at_ hd).frz (i:=1) rfl hlow))) a6 rfl<|A1) fun a hF=>wfn rfl ?_
       refine A8 hF h (fun hc h=>?_) fun hc h=>?_
       ·refine wK<|Am<|wpIn_block<|esr ?_
        obtain ⟨b0,aH,h⟩:=A0 h
        obtain ⟨aW,a7,aE⟩:=Cw hA4.2 aH
        obtain ⟨aQ,aT,rfl,a5⟩:=aE
        obtain ⟨a1,a9,h⟩:=A0 h
        obtain ⟨a4,aM,h⟩:=A0 h
        refine qx 10 10 [(7,iv a4)] hF (oL 39 0 10 hS.e rfl rfl<|oI 39 (hA4.at (hS.frz (i:=1) rfl hlow)) a7<|oE 87 0 (Dg 1) (fun _ hd=>(hA4.at ((hS.later hd).frz (i:=1) rfl hlow))) a7 rfl<|oI 87 (a5 _ (hS.frz (i:=1) rfl hlow)) a9<|oG 149 0 14 api_Echo.cells_len (fun _ hd=>(a5 _ ((hS.later hd).frz (i:=1) rfl hlow))) a9<|oC (fun w2 hd=>Sm F (api_Echo.mk a1.Kind a1.Power ((api_Span.mk a1.Steps.1.Lo a1.Steps.1.Hi),(api_Span.mk a1.Steps.2.Lo a1.Steps.2.Hi)) a1.Spread a1.Ratio a1.Match a1.Turn) _ aM _ w2 (A4 w2))<|A1) fun a w hF hx=>?_
        replace hS:=hS.later hx
        refine wfn rfl ?_
        refine qnB [(76,.bool (a4 != 0))] hF fun a hF=>?_
        refine A8 hF h (fun hc h=>?_) fun hc h=>?_
        ·refine rnB [(2,iv a4)] hF fun a hF=>?_
         refine wpIn_ret (Ab<|A2<|A2<|Ab<|Ab<|A2<|A2<|Ab<|A2<|A7 [.tmp 2] [_] hF rfl ⟨rfl,trivial⟩ ?_)
         obtain rfl:=Ae h
         exact ⟨rfl,hS.ext⟩
        ·refine wpIn_skip (A9<|A3<|?_)
         refine WI.region ?_
         obtain ⟨aB,aK,h⟩:=A0 h
         refine ro 3 3 [(1,pb b5),(5,iv a0),(6,iv aB)] hF (oA 3 aK<|A1) fun a hF=>wfn rfl ?_
         rw [hk5] at h
         exact ⟨nk5,Nat.lt_succ_self _,aB,hF.sub kr,St.pick [0,1] (by decide) hS,h⟩
       ·refine wpIn_exit (A5<|A5<|Ar<|A9<|A3<|?_)
        exact ⟨hF.sub kr,St.pick [0,1] (by decide) hS,h⟩
      rintro a w ⟨hF,hS,h⟩
      rw [Hk] at h
      refine WI.region ?_
      obtain ⟨aA,aJ,h⟩:=A0 h
      refine ro 3 3 [(1,pb b5),(5,iv aA)] hF (oA 3 aJ<|A1) fun a hF=>wfn rfl ?_
      rw [hk3] at h
      exact ⟨nk3,Nat.lt_succ_self _,aA,hF.sub kr,St.pick [0,1] (by decide) hS,h⟩
     ·refine wpIn_exit (A5<|A5<|Ar<|A3 ?_)
      exact ⟨hF.sub kr,St.pick [0,1] (by decide) hS,h⟩
    rintro a w ⟨hF,hS,h⟩
    rw [Kd] at h
    refine rnB [(2,iv 0)] hF fun a hF=>?_
    refine wpIn_ret (A7 [.tmp 2] [_] hF rfl ⟨rfl,trivial⟩ ?_)
    obtain rfl:=Ae h
    exact ⟨rfl,hS.ext⟩
theorem Ry (F:Nat) (p0:api_Field) (res:Int) (h:F7 F p0=some res) (μ:Frz) (w0:World) (hm:FrzAt μ w0) {ad1:Option Addr} {cap2:Nat} (hA3:ArrM μ 2 api_Span.cells ad1 cap2 p0.Vals):Calls Tryz.prog 49 #[.agg (p0.ax ad1 cap2)] w0 (fun e w=>e=.returned (iv res)∧Ext w0 w):=by
 obtain ⟨hlow,hS⟩:=hm.init
 have hext:=Frz.ext_refl w0.heap.size μ
 rw [F7] at h
 refine feW Tryz.func49 5 [(0,.agg (p0.ax ad1 cap2))] hS fun a w hF hS=>?_
 refine esr<|SK.wi (qBa 46 (p0.ax ad1 cap2) (fun b4=>[(1,pb b4)]) hF hS fun b4 w a hF hS=>?_)
 refine qn 1 2 [] hF fun a hF=>wfn rfl ?_
 refine esr ?_
 obtain ⟨y5,hy5,h⟩:=A0 h
 refine rX 3 3 [(2,iv y5)] hF (oN 46 0 0 6 hS.e rfl<|oC (fun w2 hd=>Vz F p0 1073741824 _ hy5 _ w2 (A4 w2) (hA3.mono (FrzAt.le_mem ((hS.later hd).frz (i:=1) rfl hlow))))<|A1) fun a w hF hx=>?_
 replace hS:=hS.later hx
 refine wfn rfl ?_
 refine wpIn_ret (A7 [.tmp 2] [_] hF rfl ⟨rfl,trivial⟩ ?_)
 obtain rfl:=Ae h
 exact ⟨rfl,hS.ext⟩
end Go.Proofs.YtifbomimeodibaaGreat
