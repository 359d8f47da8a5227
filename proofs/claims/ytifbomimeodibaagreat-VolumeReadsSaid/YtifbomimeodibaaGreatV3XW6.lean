import Derived.Test.YtifbomimeodibaaGreatV3XD
import Derived.Test.YtifbomimeodibaaGreatProg
import Derived.Test.YtifbomimeodibaaGreatV3XW0
import Derived.Test.YtifbomimeodibaaGreatV3XW1
import Derived.Test.YtifbomimeodibaaGreatV3XW2
import Derived.Test.YtifbomimeodibaaGreatV3XW4
import Derived.Test.YtifbomimeodibaaGreatV3XW5
namespace Go.Proofs.YtifbomimeodibaaGreat
open Go Go.RowKit Go.Eng
set_option maxRecDepth 10000
set_option maxHeartbeats 4000000
set_option linter.unusedVariables false
set_option linter.unusedSimpArgs false
theorem R6 (F:Nat) (p0:api_Echo) (res:Int) (h:F9 F p0=some res) (μ:Frz) (w0:World) (hm:FrzAt μ w0):Calls Tryz.prog 172 #[p0.ag] w0 (fun e w=>e=.returned (iv res)∧Ext w0 w):=by
 obtain ⟨hlow,hS⟩:=hm.init
 have hext:=Frz.ext_refl w0.heap.size μ
 rw [F9] at h
 refine Ah Tryz.func172 rfl 77 [(0,p0.ag)] rfl rfl kr fun a w hw hF=>?_
 replace hS:=hS.cast hw
 clear hw
 refine esr ?_
 refine SK.wi (Ld (t:=149) (fun b1=>[(1,pb b1)]) (p0.ag) p0.ar hF hS kr ⟨kr⟩ kr (fun _=>⟨kr⟩) fun b1 w a hF hS=>?_)
 refine rn 1 2 [(1,pb b1)] hF fun a hF=>?_
 refine wfn rfl ?_
 refine esr ?_
 refine qx 4 4 [(3,.bool (Ad p0.Power 0 1073741824))] hF (oN 146 0 1 2 hS.e rfl<|oC (fun w2 hd=>Lp p0.Power 0 1073741824 _ rfl _ w2 (Ae w2))<|A9) fun a w hF hx=>?_
 replace hS:=hS.later hx
 refine wfn rfl ?_
 refine Dg (fun a w=>∃(c7:Bool),Fr 77 [] [(3,.bool c7)] a∧St w0 [blk b1 149 p0.ar,fz w0 μ] w∧D7 c7=some res) ?_ ?_
 ·skip
  refine qoB [(8,iv p0.Kind)] hF (oL 3 0 0 hS.i rfl rfl<|A9) fun a hF=>?_
  refine wpIn_block ?_
  refine qnB [(9,.bool (p0.Kind==1))] hF fun a hF=>?_
  refine Ai hF rfl (fun hc=>?_) (fun hc=>?_)
  ·replace h:=Ag h hc
   refine WI.region ?_
   refine ro 11 11 [(3,.bool (bif (Ad p0.Power 0 1073741824) then (((p0.Kind:Int)==1)&&((((p0.Power.Lo:Int)==0)&&(((p0.Power.Hi:Int)==p0.Power.Hi)&&true))&&(((((p0.Steps.1.Lo:Int)==0)&&(((p0.Steps.1.Hi:Int)==0)&&true))&&((((p0.Steps.2.Lo:Int)==0)&&(((p0.Steps.2.Hi:Int)==0)&&true))&&true))&&(((p0.Spread:Int)==0)&&((((p0.Ratio.Lo:Int)==0)&&(((p0.Ratio.Hi:Int)==0)&&true))&&((((p0.Match.Lo:Int)==0)&&(((p0.Match.Hi:Int)==0)&&true))&&((((p0.Turn.Lo:Int)==0)&&(((p0.Turn.Hi:Int)==0)&&true))&&true))))))) else false))] hF (oX (.run [⟨12,true,(Ad p0.Power 0 1073741824)⟩] (Instr.loadAt 149 (pb b1)) (p0.ag)) (obN (us:=p0.cells) kr (fun _ hd=>((hS.at_ hd).blk (i:=0) rfl).cells rfl))<|oX (.run [⟨12,true,(Ad p0.Power 0 1073741824)⟩] (Instr.loadAt 3 (.pointer (some ⟨b1,2,none⟩))) (iv p0.Power.Hi)) (ob1 kr (fun _ hd=>(hS.at_ hd).cell (i:=0) (j:=2) rfl rfl))<|oX (.run [⟨12,true,(Ad p0.Power 0 1073741824)⟩] (eqS .eql 149 p0.ar #[iv 1,iv 0,iv p0.Power.Hi,iv 0,iv 0,iv 0,iv 0,iv 0,iv 0,iv 0,iv 0,iv 0,iv 0,iv 0]) (.bool (((p0.Kind:Int)==1)&&((((p0.Power.Lo:Int)==0)&&(((p0.Power.Hi:Int)==p0.Power.Hi)&&true))&&(((((p0.Steps.1.Lo:Int)==0)&&(((p0.Steps.1.Hi:Int)==0)&&true))&&((((p0.Steps.2.Lo:Int)==0)&&(((p0.Steps.2.Hi:Int)==0)&&true))&&true))&&(((p0.Spread:Int)==0)&&((((p0.Ratio.Lo:Int)==0)&&(((p0.Ratio.Hi:Int)==0)&&true))&&((((p0.Match.Lo:Int)==0)&&(((p0.Match.Hi:Int)==0)&&true))&&((((p0.Turn.Lo:Int)==0)&&(((p0.Turn.Hi:Int)==0)&&true))&&true))))))))) (Lg kr kr)<|A9) fun a hF=>?_
   refine WI.fin rfl (Aa<|A0<|?_)
   exact ⟨bif (Ad p0.Power 0 1073741824) then (((p0.Kind:Int)==1)&&((((p0.Power.Lo:Int)==0)&&(((p0.Power.Hi:Int)==p0.Power.Hi)&&true))&&(((((p0.Steps.1.Lo:Int)==0)&&(((p0.Steps.1.Hi:Int)==0)&&true))&&((((p0.Steps.2.Lo:Int)==0)&&(((p0.Steps.2.Hi:Int)==0)&&true))&&true))&&(((p0.Spread:Int)==0)&&((((p0.Ratio.Lo:Int)==0)&&(((p0.Ratio.Hi:Int)==0)&&true))&&((((p0.Match.Lo:Int)==0)&&(((p0.Match.Hi:Int)==0)&&true))&&((((p0.Turn.Lo:Int)==0)&&(((p0.Turn.Hi:Int)==0)&&true))&&true))))))) else false,hF.sub kr,St.pick [0,1] (by decide) hS,h⟩
  ·replace h:=Af h hc
   refine Dg (fun a w=>∃(c9:Bool),Fr 77 [] [(1,pb b1),(3,.bool (Ad p0.Power 0 1073741824)),(21,.bool c9)] a∧St w0 [blk b1 149 p0.ar,fz w0 μ] w∧Ck F p0 c9=some res) ?_ ?_
   ·skip
    refine qnB [(21,.bool (p0.Kind==2))] hF fun a hF=>?_
    refine Ai hF rfl (fun hc=>?_) (fun hc=>?_)
    ·replace h:=Ag h hc
     refine wpIn_skip (A0 ?_)
     exact ⟨p0.Kind==2,hF.sub kr,St.pick [0,1] (by decide) hS,h⟩
    ·replace h:=Af h hc
     refine WI.region ?_
     refine rn 2 2 [(1,pb b1),(3,.bool (Ad p0.Power 0 1073741824)),(21,.bool (p0.Kind==3))] hF fun a hF=>?_
     refine wfn rfl ?_
     exact ⟨p0.Kind==3,hF.sub kr,St.pick [0,1] (by decide) hS,h⟩
   rintro a w ⟨c9,hF,hS,h⟩
   rw [Ck] at h
   refine Ai hF rfl (fun hc=>?_) (fun hc=>?_)
   ·replace h:=Ag h hc
    refine esr ?_
    refine rX 23 23 [(1,pb b1),(3,.bool (bif (bif (bif (bif (Ad p0.Power 0 1073741824) then (decide (p0.Power.Lo>0)) else false) then (Ad p0.Ratio 0 1000000) else false) then (Ad p0.Match 0 1000) else false) then (As p0.Spread 0 65535) else false))] hF (oX (.run [⟨25,true,(Ad p0.Power 0 1073741824)⟩] (Instr.loadAt 3 (.pointer (some ⟨b1,1,none⟩))) (iv p0.Power.Lo)) (ob1 kr (fun _ hd=>(hS.later hd).cell (i:=0) (j:=1) rfl rfl))<|oX (.run [⟨31,true,(bif (Ad p0.Power 0 1073741824) then (decide (p0.Power.Lo>0)) else false)⟩] (Instr.loadAt 146 (.pointer (some ⟨b1,8,none⟩))) (.agg #[iv p0.Ratio.Lo,iv p0.Ratio.Hi])) (obN (us:=[iv p0.Ratio.Lo,iv p0.Ratio.Hi]) kr (fun _ hd=>((hS.later hd).blk (i:=0) rfl).cells rfl))<|oX (.call [⟨31,true,(bif (Ad p0.Power 0 1073741824) then (decide (p0.Power.Lo>0)) else false)⟩] 174 #[.agg #[iv p0.Ratio.Lo,iv p0.Ratio.Hi],iv 0,iv 1000000] (.bool (Ad p0.Ratio 0 1000000))) (show Ob.ok _ Ext _ _ from fun hk w2 hd=>Lp p0.Ratio 0 1000000 _ rfl _ w2 (Ae w2))<|oX (.run [⟨36,true,(bif (bif (Ad p0.Power 0 1073741824) then (decide (p0.Power.Lo>0)) else false) then (Ad p0.Ratio 0 1000000) else false)⟩] (Instr.loadAt 146 (.pointer (some ⟨b1,10,none⟩))) (.agg #[iv p0.Match.Lo,iv p0.Match.Hi])) (obN (us:=[iv p0.Match.Lo,iv p0.Match.Hi]) kr (fun _ hd=>((hS.later hd).blk (i:=0) rfl).cells rfl))<|oX (.call [⟨36,true,(bif (bif (Ad p0.Power 0 1073741824) then (decide (p0.Power.Lo>0)) else false) then (Ad p0.Ratio 0 1000000) else false)⟩] 174 #[.agg #[iv p0.Match.Lo,iv p0.Match.Hi],iv 0,iv 1000] (.bool (Ad p0.Match 0 1000))) (show Ob.ok _ Ext _ _ from fun hk w2 hd=>Lp p0.Match 0 1000 _ rfl _ w2 (Ae w2))<|oX (.run [⟨41,true,(bif (bif (bif (Ad p0.Power 0 1073741824) then (decide (p0.Power.Lo>0)) else false) then (Ad p0.Ratio 0 1000000) else false) then (Ad p0.Match 0 1000) else false)⟩] (Instr.loadAt 3 (.pointer (some ⟨b1,7,none⟩))) (iv p0.Spread)) (ob1 kr (fun _ hd=>(hS.later hd).cell (i:=0) (j:=7) rfl rfl))<|oX (.call [⟨41,true,(bif (bif (bif (Ad p0.Power 0 1073741824) then (decide (p0.Power.Lo>0)) else false) then (Ad p0.Ratio 0 1000000) else false) then (Ad p0.Match 0 1000) else false)⟩] 171 #[iv p0.Spread,iv 0,iv 65535] (.bool (As p0.Spread 0 65535))) (show Ob.ok _ Ext _ _ from fun hk w2 hd=>He p0.Spread 0 65535 _ rfl _ w2 (Ae w2))<|A9) fun a w hF hx=>?_
    replace hS:=hS.later hx
    refine wfn rfl ?_
    refine qoB [(48,.bool (p0.Kind==2))] hF (oL 3 0 0 hS.i rfl rfl<|A9) fun a hF=>?_
    refine Ai hF rfl (fun hc=>?_) (fun hc=>?_)
    ·replace h:=Ag h hc
     refine WI.region ?_
     refine ro 14 14 [(3,.bool (bif (bif (bif (bif (bif (bif (Ad p0.Power 0 1073741824) then (decide (p0.Power.Lo>0)) else false) then (Ad p0.Ratio 0 1000000) else false) then (Ad p0.Match 0 1000) else false) then (As p0.Spread 0 65535) else false) then ((((p0.Steps.1.Lo:Int)==0)&&(((p0.Steps.1.Hi:Int)==0)&&true))&&((((p0.Steps.2.Lo:Int)==0)&&(((p0.Steps.2.Hi:Int)==0)&&true))&&true)) else false) then (((p0.Turn.Lo:Int)==0)&&(((p0.Turn.Hi:Int)==0)&&true)) else false))] hF (oX (.run [⟨50,true,(bif (bif (bif (bif (Ad p0.Power 0 1073741824) then (decide (p0.Power.Lo>0)) else false) then (Ad p0.Ratio 0 1000000) else false) then (Ad p0.Match 0 1000) else false) then (As p0.Spread 0 65535) else false)⟩] (Instr.loadAt 147 (.pointer (some ⟨b1,3,none⟩))) (.agg #[iv p0.Steps.1.Lo,iv p0.Steps.1.Hi,iv p0.Steps.2.Lo,iv p0.Steps.2.Hi])) (obN (us:=[iv p0.Steps.1.Lo,iv p0.Steps.1.Hi,iv p0.Steps.2.Lo,iv p0.Steps.2.Hi]) kr (fun _ hd=>((hS.at_ hd).blk (i:=0) rfl).cells rfl))<|oX (.run [⟨50,true,(bif (bif (bif (bif (Ad p0.Power 0 1073741824) then (decide (p0.Power.Lo>0)) else false) then (Ad p0.Ratio 0 1000000) else false) then (Ad p0.Match 0 1000) else false) then (As p0.Spread 0 65535) else false)⟩] (eqS .eql 147 #[iv p0.Steps.1.Lo,iv p0.Steps.1.Hi,iv p0.Steps.2.Lo,iv p0.Steps.2.Hi] #[iv 0,iv 0,iv 0,iv 0]) (.bool ((((p0.Steps.1.Lo:Int)==0)&&(((p0.Steps.1.Hi:Int)==0)&&true))&&((((p0.Steps.2.Lo:Int)==0)&&(((p0.Steps.2.Hi:Int)==0)&&true))&&true)))) (Lg kr kr)<|oX (.run [⟨56,true,(bif (bif (bif (bif (bif (Ad p0.Power 0 1073741824) then (decide (p0.Power.Lo>0)) else false) then (Ad p0.Ratio 0 1000000) else false) then (Ad p0.Match 0 1000) else false) then (As p0.Spread 0 65535) else false) then ((((p0.Steps.1.Lo:Int)==0)&&(((p0.Steps.1.Hi:Int)==0)&&true))&&((((p0.Steps.2.Lo:Int)==0)&&(((p0.Steps.2.Hi:Int)==0)&&true))&&true)) else false)⟩] (Instr.loadAt 146 (.pointer (some ⟨b1,12,none⟩))) (.agg #[iv p0.Turn.Lo,iv p0.Turn.Hi])) (obN (us:=[iv p0.Turn.Lo,iv p0.Turn.Hi]) kr (fun _ hd=>((hS.at_ hd).blk (i:=0) rfl).cells rfl))<|oX (.run [⟨56,true,(bif (bif (bif (bif (bif (Ad p0.Power 0 1073741824) then (decide (p0.Power.Lo>0)) else false) then (Ad p0.Ratio 0 1000000) else false) then (Ad p0.Match 0 1000) else false) then (As p0.Spread 0 65535) else false) then ((((p0.Steps.1.Lo:Int)==0)&&(((p0.Steps.1.Hi:Int)==0)&&true))&&((((p0.Steps.2.Lo:Int)==0)&&(((p0.Steps.2.Hi:Int)==0)&&true))&&true)) else false)⟩] (eqS .eql 146 #[iv p0.Turn.Lo,iv p0.Turn.Hi] #[iv 0,iv 0]) (.bool (((p0.Turn.Lo:Int)==0)&&(((p0.Turn.Hi:Int)==0)&&true)))) (Lg kr kr)<|A9) fun a hF=>?_
     refine WI.fin rfl (Aa<|A0<|?_)
     exact ⟨bif (bif (bif (bif (bif (bif (Ad p0.Power 0 1073741824) then (decide (p0.Power.Lo>0)) else false) then (Ad p0.Ratio 0 1000000) else false) then (Ad p0.Match 0 1000) else false) then (As p0.Spread 0 65535) else false) then ((((p0.Steps.1.Lo:Int)==0)&&(((p0.Steps.1.Hi:Int)==0)&&true))&&((((p0.Steps.2.Lo:Int)==0)&&(((p0.Steps.2.Hi:Int)==0)&&true))&&true)) else false) then (((p0.Turn.Lo:Int)==0)&&(((p0.Turn.Hi:Int)==0)&&true)) else false,hF.sub kr,St.pick [0,1] (by decide) hS,h⟩
    ·replace h:=Af h hc
     refine WI.region ?_
     refine qn 2 2 [(63,.bool (bif (bif (bif (bif (Ad p0.Power 0 1073741824) then (decide (p0.Power.Lo>0)) else false) then (Ad p0.Ratio 0 1000000) else false) then (Ad p0.Match 0 1000) else false) then (As p0.Spread 0 65535) else false))] hF fun a hF=>?_
     rcases Bool.eq_false_or_eq_true ((bif (bif (bif (bif (Ad p0.Power 0 1073741824) then (decide (p0.Power.Lo>0)) else false) then (Ad p0.Ratio 0 1000000) else false) then (Ad p0.Match 0 1000) else false) then (As p0.Spread 0 65535) else false)) with a0|a0
     ·replace h:=Ag h a0
      rw [a0] at hF
      refine Zt (n:=8) (obs:=[.run [⟨63,true,true⟩] (Instr.indexAt 147 (.pointer (some ⟨b1,3,none⟩)) (iv 0)) (.pointer (some ⟨b1,3,none⟩)),.run [⟨63,true,true⟩] (Instr.loadAt 146 (.pointer (some ⟨b1,3,none⟩))) (.agg #[iv p0.Steps.1.Lo,iv p0.Steps.1.Hi]),.run [⟨63,true,true⟩] (Instr.indexAt 147 (.pointer (some ⟨b1,3,none⟩)) (iv 1)) (.pointer (some ⟨b1,5,none⟩)),.run [⟨63,true,true⟩] (Instr.loadAt 146 (.pointer (some ⟨b1,5,none⟩))) (.agg #[iv p0.Steps.2.Lo,iv p0.Steps.2.Hi]),.run [⟨63,true,true⟩] (Instr.loadAt 146 (.pointer (some ⟨b1,12,none⟩))) (.agg #[iv p0.Turn.Lo,iv p0.Turn.Hi])]) 10 [(3,⟨[],.bool true⟩),(63,⟨[],.bool true⟩),(66,⟨[⟨63,true,true⟩],.agg #[iv p0.Steps.1.Lo,iv p0.Steps.1.Hi]⟩),(69,⟨[⟨63,true,true⟩],.agg #[iv p0.Steps.2.Lo,iv p0.Steps.2.Hi]⟩),(71,⟨[⟨63,true,true⟩],.agg #[iv p0.Turn.Lo,iv p0.Turn.Hi]⟩)] hF kr (G9 (Bs kr) (G9 (obN (us:=[iv p0.Steps.1.Lo,iv p0.Steps.1.Hi]) kr (fun _ hd=>((hS.at_ hd).blk (i:=0) rfl).cells rfl)) (G9 (Bs kr) (G9 (obN (us:=[iv p0.Steps.2.Lo,iv p0.Steps.2.Hi]) kr (fun _ hd=>((hS.at_ hd).blk (i:=0) rfl).cells rfl)) (G9 (obN (us:=[iv p0.Turn.Lo,iv p0.Turn.Hi]) kr (fun _ hd=>((hS.at_ hd).blk (i:=0) rfl).cells rfl)) A9))))) ⟨kr⟩ kr rfl fun a hF=>?_
      replace hF:Fr 77 [] [(3,.bool true),(63,.bool true),(66,.agg #[iv p0.Steps.1.Lo,iv p0.Steps.1.Hi]),(69,.agg #[iv p0.Steps.2.Lo,iv p0.Steps.2.Hi]),(71,.agg #[iv p0.Turn.Lo,iv p0.Turn.Hi])] a:=hF
      refine SK.wi (G3 (e:=146) (sz:=2) (f:=api_Span.cells) (t:=44) (len:=3) (fun a1=>[(3,.bool true),(63,.bool true),(72,sb a1 3)]) #[(0,.agg #[iv p0.Steps.1.Lo,iv p0.Steps.1.Hi]),(1,.agg #[iv p0.Steps.2.Lo,iv p0.Steps.2.Hi]),(2,.agg #[iv p0.Turn.Lo,iv p0.Turn.Hi])] #[iv p0.Steps.1.Lo,iv p0.Steps.1.Hi,iv p0.Steps.2.Lo,iv p0.Steps.2.Hi,iv p0.Turn.Lo,iv p0.Turn.Hi] ([(api_Span.mk p0.Steps.1.Lo p0.Steps.1.Hi),(api_Span.mk p0.Steps.2.Lo p0.Steps.2.Hi),p0.Turn]) hF hS kr ⟨kr⟩ kr api_Span.cells_len rfl rfl kr (fun _=>⟨kr⟩) fun a1 w a hF hS=>?_)
      obtain ⟨a2,a3,h⟩:=A1 h
      refine rX 3 14 [(3,.bool a2)] hF (oX (.call [⟨63,true,true⟩] 175 #[sb a1 3] (.bool a2)) (show Ob.ok _ Ext _ _ from fun hk w2 hd=>S6 F ([(api_Span.mk p0.Steps.1.Lo p0.Steps.1.Hi),(api_Span.mk p0.Steps.2.Lo p0.Steps.2.Hi),p0.Turn]) _ ((fun _=>a3) hk) _ w2 (Ae w2) (Arr.toM ((hS.later hd).arr (i:=0) rfl)))<|A9) fun a w hF hx=>?_
      replace hS:=hS.later hx
      refine WI.fin rfl (Aa<|A0<|?_)
      exact ⟨a2,hF.sub kr,St.pick [1,2] (by decide) hS,h⟩
     ·replace h:=Af h a0
      rw [a0] at hF
      refine Be 3 [(1,pb b1),(3,.bool false),(63,.bool false),(64,undef)] hF kr ⟨kr⟩ ⟨kr⟩ rfl fun a hF=>?_
      refine Be 4 [(1,pb b1),(3,.bool false),(63,.bool false),(65,undef)] hF kr ⟨kr⟩ ⟨kr⟩ rfl fun a hF=>?_
      refine Be 5 [(1,pb b1),(3,.bool false),(63,.bool false),(66,undef)] hF kr ⟨kr⟩ ⟨kr⟩ rfl fun a hF=>?_
      refine Be 6 [(1,pb b1),(3,.bool false),(63,.bool false),(66,undef),(67,undef)] hF kr ⟨kr⟩ ⟨kr⟩ rfl fun a hF=>?_
      refine Be 7 [(1,pb b1),(3,.bool false),(63,.bool false),(66,undef),(68,undef)] hF kr ⟨kr⟩ ⟨kr⟩ rfl fun a hF=>?_
      refine Be 8 [(1,pb b1),(3,.bool false),(63,.bool false),(66,undef),(69,undef)] hF kr ⟨kr⟩ ⟨kr⟩ rfl fun a hF=>?_
      refine Be 9 [(3,.bool false),(63,.bool false),(66,undef),(69,undef),(70,undef)] hF kr ⟨kr⟩ ⟨kr⟩ rfl fun a hF=>?_
      refine Be 10 [(3,.bool false),(63,.bool false),(66,undef),(69,undef),(71,undef)] hF kr ⟨kr⟩ ⟨kr⟩ rfl fun a hF=>?_
      refine Be 11 [(3,.bool false),(63,.bool false),(72,undef)] hF kr ⟨kr⟩ ⟨kr⟩ rfl fun a hF=>?_
      refine Be 12 [(3,.bool false),(63,.bool false),(73,undef)] hF kr ⟨kr⟩ ⟨kr⟩ rfl fun a hF=>?_
      refine rn 2 14 [(3,.bool false)] hF fun a hF=>?_
      refine WI.fin rfl (Aa<|A0<|?_)
      exact ⟨false,hF.sub kr,St.pick [0,1] (by decide) hS,h⟩
   ·replace h:=Af h hc
    refine rnB [(2,iv 2)] hF fun a hF=>?_
    refine wpIn_ret (Al<|A5<|Ab [.tmp 2] [iv 2] hF rfl ⟨rfl,trivial⟩ ?_)
    obtain rfl:=Ao h
    exact ⟨rfl,hS.ext⟩
 rintro a w ⟨c7,hF,hS,h⟩
 rw [D7] at h
 refine Ar ?_
 refine rnB [(76,.bool (!c7))] hF fun a hF=>?_
 refine Ai hF rfl (fun hc=>?_) (fun hc=>?_)
 ·replace h:=Ag h hc
  refine rnB [(2,iv 3)] hF fun a hF=>?_
  refine wpIn_ret (A5<|Ab [.tmp 2] [iv 3] hF rfl ⟨rfl,trivial⟩ ?_)
  obtain rfl:=Ao h
  exact ⟨rfl,hS.ext⟩
 ·replace h:=Af h hc
  refine wpIn_skip (A0 ?_)
  refine rnB [(2,iv 0)] hF fun a hF=>?_
  refine wpIn_ret (Ab [.tmp 2] [iv 0] hF rfl ⟨rfl,trivial⟩ ?_)
  obtain rfl:=Ao h
  exact ⟨rfl,hS.ext⟩
theorem Tu (F:Nat) (p0:api_Field) (p1:Int) (res:Int) (h:M8 F p0 p1=some res) (μ:Frz) (w0:World) (hm:FrzAt μ w0) {ad1:Option Addr} {cap2:Nat} (hA3:ArrM μ 2 api_Span.cells ad1 cap2 p0.Vals):Calls Tryz.prog 183 #[.agg #[iv p0.Grid.X,iv p0.Grid.Y,iv p0.Grid.Size,iv p0.Grid.Wide,iv p0.Grid.High,sv ad1 p0.Vals cap2],iv p1] w0 (fun e w=>e=.returned (iv res)∧Ext w0 w):=by
 obtain ⟨hlow,hS⟩:=hm.init
 have hext:=Frz.ext_refl w0.heap.size μ
 rw [M8] at h
 refine Ah Tryz.func183 rfl 49 [(0,.agg #[iv p0.Grid.X,iv p0.Grid.Y,iv p0.Grid.Size,iv p0.Grid.Wide,iv p0.Grid.High,sv ad1 p0.Vals cap2]),(1,iv p1)] rfl rfl kr fun a w hw hF=>?_
 replace hS:=hS.cast hw
 clear hw
 refine esr ?_
 refine SK.wi (qB 46 (.agg #[iv p0.Grid.X,iv p0.Grid.Y,iv p0.Grid.Size,iv p0.Grid.Wide,iv p0.Grid.High,sv ad1 p0.Vals cap2]) #[iv p0.Grid.X,iv p0.Grid.Y,iv p0.Grid.Size,iv p0.Grid.Wide,iv p0.Grid.High,sv ad1 p0.Vals cap2] (fun b4=>[(2,pb b4)]) hF hS fun b4 w a hF hS=>?_)
 refine qn 1 2 [] hF fun a hF=>?_
 refine wfn rfl ?_
 refine Ar ?_
 refine esr ?_
 refine qx 4 4 [(5,iv (Bb p0.Grid))] hF (oN 43 0 0 5 hS.e rfl<|oC (fun w2 hd=>Ms p0.Grid _ rfl _ w2 (Ae w2))<|A9) fun a w hF hx=>?_
 replace hS:=hS.later hx
 refine wfn rfl ?_
 refine qnB [(12,.bool ((Bb p0.Grid) != 0))] hF fun a hF=>?_
 refine Ai hF rfl (fun hc=>?_) (fun hc=>?_)
 ·replace h:=Ag h hc
  refine rnB [(4,iv (Bb p0.Grid))] hF fun a hF=>?_
  refine wpIn_ret (A5<|Ab [.tmp 4] [iv (Bb p0.Grid)] hF rfl ⟨rfl,trivial⟩ ?_)
  obtain rfl:=Ao h
  exact ⟨rfl,hS.ext⟩
 ·replace h:=Af h hc
  refine wpIn_skip (A0 ?_)
  refine Ar ?_
  refine esr ?_
  obtain ⟨x5,hx5,h⟩:=A1 h
  refine qo 11 11 [(24,.bool ((ln p0.Vals) != x5))] hF (oL 44 0 5 hS.i rfl rfl<|oL 3 0 3 hS.i rfl rfl<|oL 3 0 4 hS.i rfl rfl<|oM 3 hx5<|A9) fun a hF=>?_
  refine wfn rfl ?_
  refine Ai hF rfl (fun hc=>?_) (fun hc=>?_)
  ·replace h:=Ag h hc
   refine rnB [(4,iv 11)] hF fun a hF=>?_
   refine wpIn_ret (A5<|Ab [.tmp 4] [iv 11] hF rfl ⟨rfl,trivial⟩ ?_)
   obtain rfl:=Ao h
   exact ⟨rfl,hS.ext⟩
  ·replace h:=Af h hc
   refine wpIn_skip (A0 ?_)
   refine Dg (fun a w=>Fr 49 [] [] a∧St w0 [blk b4 46 #[iv p0.Grid.X,iv p0.Grid.Y,iv p0.Grid.Size,iv p0.Grid.Wide,iv p0.Grid.High,sv ad1 p0.Vals cap2],fz w0 μ] w∧Kz=some res) ?_ ?_
   ·skip
    refine qoB [(26,sv ad1 p0.Vals cap2),(27,iv (ln p0.Vals)),(28,iv 0)] hF (oL 44 0 5 hS.i rfl rfl<|A9) fun a hF=>?_
    refine wpIn_block ?_
    refine Cq (fun n_ a w=>∃(a2:Int),Fr 49 [] [(1,iv p1),(26,sv ad1 p0.Vals cap2),(27,iv (ln p0.Vals)),(28,iv a2)] a∧St w0 [blk b4 46 #[iv p0.Grid.X,iv p0.Grid.Y,iv p0.Grid.Size,iv p0.Grid.Wide,iv p0.Grid.High,sv ad1 p0.Vals cap2],fz w0 μ] w∧Fq p0 p1 n_ a2=some res) F ⟨0,hF.sub kr,St.pick [0,1] (by decide) hS,h⟩ ?_
    rintro nk2 a w ⟨a2,hF,hS,h⟩
    rcases nk2 with _|nk2
    ·cases (show (none:Option Int)=some res from h)
    obtain ⟨k2,hk2⟩:∃k,k=Fq p0 p1 nk2:=⟨_,rfl⟩
    replace h:Jj p0 p1 k2 a2=some res:=by rw [hk2];exact h
    rw [Jj] at h
    refine qnB [(29,.bool (decide (a2<(ln p0.Vals))))] hF fun a hF=>?_
    refine Ar ?_
    refine Ai hF rfl (fun hc=>?_) (fun hc=>?_)
    ·replace h:=Ag h hc
     refine wpIn_skip (A0 ?_)
     refine Ar ?_
     refine wpIn_block ?_
     refine esr ?_
     obtain ⟨a0,a3,h⟩:=A1 h
     refine qo 2 2 [(31,.agg #[iv a0.Lo,iv a0.Hi])] hF (oI 44 (hA3 _ (hS.frz (i:=1) rfl hlow)) a3<|oG 146 0 2 api_Span.cells_len (fun _ hd=>(hA3 _ ((hS.at_ hd).frz (i:=1) rfl hlow))) a3<|A9) fun a hF=>?_
     refine SK.wi (qA 146 #[iv 0,iv 0] (fun a1=>[(7,pb a1)]) hF hS fun a1 w a hF hS=>?_)
     refine SK.wi (qS 146 0 0 (.agg #[iv a0.Lo,iv a0.Hi]) #[iv a0.Lo,iv a0.Hi] hF hS rfl fun w a hF hS=>?_)
     refine wfn rfl ?_
     refine qoB [(47,.bool (bif (bif (decide (a0.Lo<0)) then true else (decide (a0.Hi<a0.Lo))) then true else (decide (a0.Hi>p1))))] hF (oL 3 0 0 hS.i rfl rfl<|oX (.run [⟨35,false,(decide (a0.Lo<0))⟩] (Instr.loadAt 3 (.pointer (some ⟨a1,1,none⟩))) (iv a0.Hi)) (ob1 kr (fun _ hd=>(hS.at_ hd).cell (i:=0) (j:=1) rfl rfl))<|oX (.run [⟨35,false,(decide (a0.Lo<0))⟩] (Instr.loadAt 3 (pb a1)) (iv a0.Lo)) (ob1 kr (fun _ hd=>(hS.at_ hd).cell (i:=0) (j:=0) rfl rfl))<|oX (.run [⟨42,false,(bif (decide (a0.Lo<0)) then true else (decide (a0.Hi<a0.Lo)))⟩] (Instr.loadAt 3 (.pointer (some ⟨a1,1,none⟩))) (iv a0.Hi)) (ob1 kr (fun _ hd=>(hS.at_ hd).cell (i:=0) (j:=1) rfl rfl))<|A9) fun a hF=>?_
     refine Ai hF rfl (fun hc=>?_) (fun hc=>?_)
     ·replace h:=Ag h hc
      refine rnB [(4,iv 3)] hF fun a hF=>?_
      refine wpIn_ret (Al<|A5<|A5<|Al<|A5<|Ab [.tmp 4] [iv 3] hF rfl ⟨rfl,trivial⟩ ?_)
      obtain rfl:=Ao h
      exact ⟨rfl,hS.ext⟩
     ·replace h:=Af h hc
      refine wpIn_skip (Aa<|A0<|?_)
      refine WI.region ?_
      obtain ⟨a4,a5,h⟩:=A1 h
      refine ro 2 2 [(1,iv p1),(26,sv ad1 p0.Vals cap2),(27,iv (ln p0.Vals)),(28,iv a4)] hF (oA 3 a5<|A9) fun a hF=>?_
      refine wfn rfl ?_
      rw [hk2] at h
      exact ⟨nk2,Nat.lt_succ_self _,a4,hF.sub kr,St.pick [1,2] (by decide) hS,h⟩
    ·replace h:=Af h hc
     refine wpIn_exit (A7<|A7<|Av<|A0 ?_)
     exact ⟨hF.sub kr,St.pick [0,1] (by decide) hS,h⟩
   rintro a w ⟨hF,hS,h⟩
   rw [Kz] at h
   refine rnB [(4,iv 0)] hF fun a hF=>?_
   refine wpIn_ret (Ab [.tmp 4] [iv 0] hF rfl ⟨rfl,trivial⟩ ?_)
   obtain rfl:=Ao h
   exact ⟨rfl,hS.ext⟩
theorem Ha (F:Nat) (p0:volume_writer) (p1:api_Span) (res:volume_writer) (h:Fh F p0 p1=some res) (μ:Frz) (w0 w1:World) (T_:List Res) (hlow:Ay w0 μ) {cb0:Nat} {ad1:Option Addr} {cap2:Nat} (hS:St w0 (fz w0 μ::blk cb0 138 #[sv ad1 p0.b cap2]::arrT 5 1 (fK .u8) ad1 p0.b.length cap2 p0.b::T_) w1):Bu Tryz.prog 173 #[pb cb0,.agg #[iv p1.Lo,iv p1.Hi]] w1 (fun e w=>∃(ν_:Frz) (a3:Option Addr) (a5:Nat),μ.ext w0.heap.size ν_∧Ay w0 ν_∧e=(.tuple #[])∧St w0 (fz w0 ν_::blk cb0 138 #[sv a3 res.b a5]::arrT 5 1 (fK .u8) a3 res.b.length a5 res.b::T_) w):=by
 rw [Fh] at h
 have hext:=Frz.ext_refl w0.heap.size μ
 refine Ah Tryz.func173 rfl 17 [(0,pb cb0),(1,.agg #[iv p1.Lo,iv p1.Hi])] rfl rfl kr fun a w hw hF=>?_
 replace hS:=hS.cast hw
 clear hw
 refine esr ?_
 refine SK.wi (qB 146 (.agg #[iv p1.Lo,iv p1.Hi]) #[iv p1.Lo,iv p1.Hi] (fun b3=>[(3,pb b3)]) hF hS fun b3 w a hF hS=>?_)
 refine wfn rfl ?_
 refine esr ?_
 refine qo 3 3 [(4,pb cb0),(6,iv p1.Lo)] hF (oL 3 0 0 hS.i rfl rfl<|A9) fun a hF=>?_
 refine SK.wi (G3 (e:=3) (sz:=1) (f:=fI) (t:=69) (len:=1) (fun b4=>[(0,pb cb0),(3,pb b3),(4,pb cb0),(7,sb b4 1)]) #[(0,iv p1.Lo)] #[iv p1.Lo] ([p1.Lo]) hF hS kr ⟨kr⟩ kr Gc rfl rfl kr (fun _=>⟨kr⟩) fun b4 w a hF hS=>?_)
 obtain ⟨ν5,hx6,hlow,hS,hz7⟩:=hS.freeze (i:=2) (j:=0) rfl rfl (by decide) hlow
 replace hext:=Frz.ext_trans hext hx6
 have hA8:=ArrM.of_arr hz7
 obtain ⟨y9,hy9,h⟩:=A1 h
 replace hS:=hS.s3.s3.s3
 refine SK.wi (rR (fun aD=>[(0,pb cb0),(3,pb b3)]) hF (G5 F _ _ _ hy9 ν5 w0 w _ hlow hA8 hS) ?_)
 rintro aD w a ⟨ν10,aF,aG,a6,hlow,rfl,hS⟩ hF
 replace hext:=Frz.ext_trans hext a6
 replace hA8:=hA8.mono a6.1
 refine wfn rfl ?_
 refine WI.region ?_
 obtain ⟨a0,aA,h⟩:=A1 h
 refine ro 6 6 [(9,pb cb0),(14,iv a0)] hF (oL 3 3 1 hS.i rfl rfl<|oL 3 3 0 hS.i rfl rfl<|oS 3 aA<|A9) fun a hF=>?_
 refine SK.wi (G3 (e:=3) (sz:=1) (f:=fI) (t:=69) (len:=1) (fun a4=>[(9,pb cb0),(15,sb a4 1)]) #[(0,iv a0)] #[iv a0] ([a0]) hF hS kr ⟨kr⟩ kr Gc rfl rfl kr (fun _=>⟨kr⟩) fun a4 w a hF hS=>?_)
 obtain ⟨ν17,a7,hlow,hS,aC⟩:=hS.freeze (i:=1) (j:=0) rfl rfl (by decide) hlow
 replace hA8:=hA8.mono a7.1
 replace hext:=Frz.ext_trans hext a7
 have a1:=ArrM.of_arr aC
 obtain ⟨aH,aB,h⟩:=A1 h
 refine SK.wi (rR (fun aE=>[]) hF (At F _ _ _ aB ν17 w0 w _ hlow a1 hS) ?_)
 rintro aE w a ⟨ν22,a8,a9,a2,hlow,rfl,hS⟩ hF
 replace hext:=Frz.ext_trans hext a2
 replace hA8:=hA8.mono a2.1
 replace a1:=a1.mono a2.1
 refine WI.fin rfl ?_
 refine J0 hF rfl ?_
 obtain rfl:=Ao h
 replace hS:=hS.d3
 exact ⟨_,rfl,ν22,a8,a9,hext,hlow,rfl,hS⟩
theorem Qa (F:Nat) (p0:volume_note) (p1:volume_writer) (res:volume_writer) (h:Ke F p0 p1=some res) (μ:Frz) (w0 w1:World) (T_:List Res) (hlow:Ay w0 μ) {cb1:Nat} {ad1:Option Addr} {cap2:Nat} (hS:St w0 (fz w0 μ::blk cb1 138 #[sv ad1 p1.b cap2]::arrT 5 1 (fK .u8) ad1 p1.b.length cap2 p1.b::T_) w1):Bu Tryz.prog 188 #[.agg #[iv p0.time,.string p0.text],pb cb1] w1 (fun e w=>∃(ν_:Frz) (a0:Option Addr) (a1:Nat),μ.ext w0.heap.size ν_∧Ay w0 ν_∧e=(.tuple #[])∧St w0 (fz w0 ν_::blk cb1 138 #[sv a0 res.b a1]::arrT 5 1 (fK .u8) a0 res.b.length a1 res.b::T_) w):=by
 rw [Ke] at h
 have hext:=Frz.ext_refl w0.heap.size μ
 refine Ah Tryz.func188 rfl 13 [(0,.agg #[iv p0.time,.string p0.text]),(1,pb cb1)] rfl rfl kr fun a w hw hF=>?_
 replace hS:=hS.cast hw
 clear hw
 refine esr ?_
 refine SK.wi (qB 160 (.agg #[iv p0.time,.string p0.text]) #[iv p0.time,.string p0.text] (fun b3=>[(2,pb b3)]) hF hS fun b3 w a hF hS=>?_)
 refine wfn rfl ?_
 refine esr ?_
 refine qo 3 3 [(4,pb cb1),(6,iv p0.time)] hF (oL 3 0 0 hS.i rfl rfl<|A9) fun a hF=>?_
 refine SK.wi (G3 (e:=3) (sz:=1) (f:=fI) (t:=69) (len:=2) (fun b4=>[(1,pb cb1),(2,pb b3),(4,pb cb1),(7,sb b4 2)]) #[(0,iv 3),(1,iv p0.time)] #[iv 3,iv p0.time] ([3,p0.time]) hF hS kr ⟨kr⟩ kr Gc rfl rfl kr (fun _=>⟨kr⟩) fun b4 w a hF hS=>?_)
 obtain ⟨ν5,hx6,hlow,hS,hz7⟩:=hS.freeze (i:=2) (j:=0) rfl rfl (by decide) hlow
 replace hext:=Frz.ext_trans hext hx6
 have hA8:=ArrM.of_arr hz7
 obtain ⟨y9,hy9,h⟩:=A1 h
 replace hS:=hS.s3.s3.s3
 refine SK.wi (rR (fun a7=>[(1,pb cb1),(2,pb b3)]) hF (At F _ _ _ hy9 ν5 w0 w _ hlow hA8 hS) ?_)
 rintro a7 w a ⟨ν10,a9,aA,a2,hlow,rfl,hS⟩ hF
 replace hext:=Frz.ext_trans hext a2
 replace hA8:=hA8.mono a2.1
 refine wfn rfl ?_
 refine WI.region ?_
 refine ro 3 3 [(9,pb cb1),(11,.string p0.text)] hF (oL 9 3 1 hS.i rfl rfl<|A9) fun a hF=>?_
 obtain ⟨aB,a6,h⟩:=A1 h
 refine SK.wi (rR (fun a8=>[]) hF (Hb F _ _ _ a6 ν10 w0 w _ hlow  hS) ?_)
 rintro a8 w a ⟨ν16,a4,a5,a3,hlow,rfl,hS⟩ hF
 replace hext:=Frz.ext_trans hext a3
 replace hA8:=hA8.mono a3.1
 refine WI.fin rfl ?_
 refine J0 hF rfl ?_
 obtain rfl:=Ao h
 replace hS:=hS.d3
 exact ⟨_,rfl,ν16,a4,a5,hext,hlow,rfl,hS⟩
theorem Qk (F:Nat) (p0:api_Sweep) (res:Int) (h:Dy F p0=some res) (μ:Frz) (w0:World) (hm:FrzAt μ w0) {ad1:Option Addr} {cap2:Nat} {css3:List (List Value)} (hA4:ArrQ μ 1 Rp87 ad1 cap2 css3 p0.Rays):Calls Tryz.prog 47 #[.agg #[.string p0.Site.Name,iv p0.Site.X,iv p0.Site.Y,iv p0.Site.Z,iv p0.Site.Rose,iv p0.Site.Gates,iv p0.Site.Step,iv p0.Site.Width,iv p0.Tilt,iv p0.Time,sv ad1 p0.Rays cap2]] w0 (fun e w=>e=.returned (iv res)∧Ext w0 w):=by
 obtain ⟨hlow,hS⟩:=hm.init
 have hext:=Frz.ext_refl w0.heap.size μ
 rw [Dy] at h
 refine Ah Tryz.func47 rfl 78 [(0,.agg #[.string p0.Site.Name,iv p0.Site.X,iv p0.Site.Y,iv p0.Site.Z,iv p0.Site.Rose,iv p0.Site.Gates,iv p0.Site.Step,iv p0.Site.Width,iv p0.Tilt,iv p0.Time,sv ad1 p0.Rays cap2])] rfl rfl kr fun a w hw hF=>?_
 replace hS:=hS.cast hw
 clear hw
 refine esr ?_
 refine SK.wi (Ld (t:=41) (fun b5=>[(1,pb b5)]) (.agg #[.string p0.Site.Name,iv p0.Site.X,iv p0.Site.Y,iv p0.Site.Z,iv p0.Site.Rose,iv p0.Site.Gates,iv p0.Site.Step,iv p0.Site.Width,iv p0.Tilt,iv p0.Time,sv ad1 p0.Rays cap2]) #[.string p0.Site.Name,iv p0.Site.X,iv p0.Site.Y,iv p0.Site.Z,iv p0.Site.Rose,iv p0.Site.Gates,iv p0.Site.Step,iv p0.Site.Width,iv p0.Tilt,iv p0.Time,sv ad1 p0.Rays cap2] hF hS kr ⟨kr⟩ kr (fun _=>⟨kr⟩) fun b5 w a hF hS=>?_)
 refine rn 1 2 [(1,pb b5)] hF fun a hF=>?_
 refine wfn rfl ?_
 refine esr ?_
 obtain ⟨y6,hy6,h⟩:=A1 h
 refine qx 4 4 [(3,iv y6)] hF (oN 38 0 0 8 hS.e rfl<|oC (fun w2 hd=>Mf F p0.Site _ hy6 _ w2 (Ae w2))<|A9) fun a w hF hx=>?_
 replace hS:=hS.later hx
 refine wfn rfl ?_
 refine Ar ?_
 refine qnB [(12,.bool (y6 != 0))] hF fun a hF=>?_
 refine Ai hF rfl (fun hc=>?_) (fun hc=>?_)
 ·replace h:=Ag h hc
  refine rnB [(2,iv y6)] hF fun a hF=>?_
  refine wpIn_ret (A5<|Ab [.tmp 2] [iv y6] hF rfl ⟨rfl,trivial⟩ ?_)
  obtain rfl:=Ao h
  exact ⟨rfl,hS.ext⟩
 ·replace h:=Af h hc
  refine wpIn_skip (A0 ?_)
  refine Ar ?_
  refine esr ?_
  refine qx 10 10 [(23,.bool (bif (!(A8 p0.Tilt 0 256)) then true else (!(A8 p0.Time 0 4294967296))))] hF (oL 3 0 8 hS.e rfl rfl<|oC (fun w2 hd=>Ca p0.Tilt 0 256 _ rfl _ w2 (Ae w2))<|oX (.run [⟨18,false,(!(A8 p0.Tilt 0 256))⟩] (Instr.loadAt 3 (.pointer (some ⟨b5,9,none⟩))) (iv p0.Time)) (ob1 kr (fun _ hd=>(hS.later hd).cell (i:=0) (j:=9) rfl rfl))<|oX (.call [⟨18,false,(!(A8 p0.Tilt 0 256))⟩] 46 #[iv p0.Time,iv 0,iv 4294967296] (.bool (A8 p0.Time 0 4294967296))) (show Ob.ok _ Ext _ _ from fun hk w2 hd=>Ca p0.Time 0 4294967296 _ rfl _ w2 (Ae w2))<|A9) fun a w hF hx=>?_
  replace hS:=hS.later hx
  refine wfn rfl ?_
  refine Ai hF rfl (fun hc=>?_) (fun hc=>?_)
  ·replace h:=Ag h hc
   refine rnB [(2,iv 3)] hF fun a hF=>?_
   refine wpIn_ret (A5<|Ab [.tmp 2] [iv 3] hF rfl ⟨rfl,trivial⟩ ?_)
   obtain rfl:=Ao h
   exact ⟨rfl,hS.ext⟩
  ·replace h:=Af h hc
   refine wpIn_skip (A0 ?_)
   refine Ar ?_
   refine esr ?_
   obtain ⟨x7,hx7,h⟩:=A1 h
   refine qo 8 8 [(31,.bool ((ln p0.Rays) != x7))] hF (oL 39 0 10 hS.i rfl rfl<|oL 3 0 4 hS.i rfl rfl<|oM 3 hx7<|A9) fun a hF=>?_
   refine wfn rfl ?_
   refine Ai hF rfl (fun hc=>?_) (fun hc=>?_)
   ·replace h:=Ag h hc
    refine rnB [(2,iv 11)] hF fun a hF=>?_
    refine wpIn_ret (A5<|Ab [.tmp 2] [iv 11] hF rfl ⟨rfl,trivial⟩ ?_)
    obtain rfl:=Ao h
    exact ⟨rfl,hS.ext⟩
   ·replace h:=Af h hc
    refine wpIn_skip (A0 ?_)
    refine Dg (fun a w=>Fr 78 [] [(1,pb b5)] a∧St w0 [blk b5 41 #[.string p0.Site.Name,iv p0.Site.X,iv p0.Site.Y,iv p0.Site.Z,iv p0.Site.Rose,iv p0.Site.Gates,iv p0.Site.Step,iv p0.Site.Width,iv p0.Tilt,iv p0.Time,sv ad1 p0.Rays cap2],fz w0 μ] w∧Gq F p0=some res) ?_ ?_
    ·skip
     refine qnB [(4,iv 0)] hF fun a hF=>?_
     refine wpIn_block ?_
     refine Cq (fun n_ a w=>∃(a3:Int),Fr 78 [] [(1,pb b5),(4,iv a3)] a∧St w0 [blk b5 41 #[.string p0.Site.Name,iv p0.Site.X,iv p0.Site.Y,iv p0.Site.Z,iv p0.Site.Rose,iv p0.Site.Gates,iv p0.Site.Step,iv p0.Site.Width,iv p0.Tilt,iv p0.Time,sv ad1 p0.Rays cap2],fz w0 μ] w∧Ed F p0 n_ a3=some res) F ⟨0,hF.sub kr,St.pick [0,1] (by decide) hS,h⟩ ?_
     rintro nk6 a w ⟨a3,hF,hS,h⟩
     rcases nk6 with _|nk6
     ·cases (show (none:Option Int)=some res from h)
     obtain ⟨k6,hk6⟩:∃k,k=Ed F p0 nk6:=⟨_,rfl⟩
     replace h:Gp F p0 k6 a3=some res:=by rw [hk6];exact h
     rw [Gp] at h
     refine Ar ?_
     refine qoB [(36,.bool (decide (a3<(ln p0.Rays))))] hF (oL 39 0 10 hS.i rfl rfl<|A9) fun a hF=>?_
     refine Ai hF rfl (fun hc=>?_) (fun hc=>?_)
     ·replace h:=Ag h hc
      refine wpIn_skip (A0 ?_)
      refine Ar ?_
      refine wpIn_block ?_
      refine Ar ?_
      obtain ⟨aO,aI,h⟩:=A1 h
      obtain ⟨aX,a8,aF⟩:=Dq hA4.2 aI
      obtain ⟨aR,aU,rfl,aZ⟩:=aF
      refine qD 10 [(48,.bool ((ln aO) != p0.Site.Gates))] hF (oL 39 0 10 hS.e rfl rfl<|oI 39 (hA4.at (hS.frz (i:=1) rfl hlow)) a8<|oE 87 0 (Eg 1) (fun _ hd=>(hA4.at ((hS.later hd).frz (i:=1) rfl hlow))) a8 rfl<|oL 3 0 5 hS.e rfl rfl<|A9) fun a w hF hx=>?_
      replace hS:=hS.later hx
      refine wfn rfl ?_
      refine Ai hF rfl (fun hc=>?_) (fun hc=>?_)
      ·replace h:=Ag h hc
       refine rnB [(2,iv 11)] hF fun a hF=>?_
       refine wpIn_ret (Al<|A5<|A5<|Al<|A5<|Ab [.tmp 2] [iv 11] hF rfl ⟨rfl,trivial⟩ ?_)
       obtain rfl:=Ao h
       exact ⟨rfl,hS.ext⟩
      ·replace h:=Af h hc
       refine wpIn_skip (Aa<|A0<|?_)
       refine WI.region ?_
       obtain ⟨aC,aL,h⟩:=A1 h
       refine ro 3 3 [(1,pb b5),(4,iv aC)] hF (oA 3 aL<|A9) fun a hF=>?_
       refine wfn rfl ?_
       rw [hk6] at h
       exact ⟨nk6,Nat.lt_succ_self _,aC,hF.sub kr,St.pick [0,1] (by decide) hS,h⟩
     ·replace h:=Af h hc
      refine wpIn_exit (A7<|A7<|Av<|A0 ?_)
      exact ⟨hF.sub kr,St.pick [0,1] (by decide) hS,h⟩
    rintro a w ⟨hF,hS,h⟩
    rw [Gq] at h
    refine Dg (fun a w=>Fr 78 [] [] a∧St w0 [blk b5 41 #[.string p0.Site.Name,iv p0.Site.X,iv p0.Site.Y,iv p0.Site.Z,iv p0.Site.Rose,iv p0.Site.Gates,iv p0.Site.Step,iv p0.Site.Width,iv p0.Tilt,iv p0.Time,sv ad1 p0.Rays cap2],fz w0 μ] w∧Jg=some res) ?_ ?_
    ·skip
     refine qnB [(5,iv 0)] hF fun a hF=>?_
     refine wpIn_block ?_
     refine Cq (fun n_ a w=>∃(a0:Int),Fr 78 [] [(1,pb b5),(5,iv a0)] a∧St w0 [blk b5 41 #[.string p0.Site.Name,iv p0.Site.X,iv p0.Site.Y,iv p0.Site.Z,iv p0.Site.Rose,iv p0.Site.Gates,iv p0.Site.Step,iv p0.Site.Width,iv p0.Tilt,iv p0.Time,sv ad1 p0.Rays cap2],fz w0 μ] w∧Eb F p0 n_ a0=some res) F ⟨0,hF.sub kr,St.pick [0,1] (by decide) hS,h⟩ ?_
     rintro nk3 a w ⟨a0,hF,hS,h⟩
     rcases nk3 with _|nk3
     ·cases (show (none:Option Int)=some res from h)
     obtain ⟨k3,hk3⟩:∃k,k=Eb F p0 nk3:=⟨_,rfl⟩
     replace h:Gm F p0 k3 a0=some res:=by rw [hk3];exact h
     rw [Gm] at h
     refine Ar ?_
     refine qoB [(53,.bool (decide (a0<(ln p0.Rays))))] hF (oL 39 0 10 hS.i rfl rfl<|A9) fun a hF=>?_
     refine Ai hF rfl (fun hc=>?_) (fun hc=>?_)
     ·replace h:=Ag h hc
      refine wpIn_skip (A0 ?_)
      refine Dg (fun a w=>Fr 78 [] [(1,pb b5),(5,iv a0)] a∧St w0 [blk b5 41 #[.string p0.Site.Name,iv p0.Site.X,iv p0.Site.Y,iv p0.Site.Z,iv p0.Site.Rose,iv p0.Site.Gates,iv p0.Site.Step,iv p0.Site.Width,iv p0.Tilt,iv p0.Time,sv ad1 p0.Rays cap2],fz w0 μ] w∧Gr a0 k3=some res) ?_ ?_
      ·skip
       refine wpIn_block ?_
       refine qnB [(6,iv 0)] hF fun a hF=>?_
       refine wpIn_block ?_
       refine Cq (fun n_ a w=>∃(a2:Int),Fr 78 [] [(1,pb b5),(5,iv a0),(6,iv a2)] a∧St w0 [blk b5 41 #[.string p0.Site.Name,iv p0.Site.X,iv p0.Site.Y,iv p0.Site.Z,iv p0.Site.Rose,iv p0.Site.Gates,iv p0.Site.Step,iv p0.Site.Width,iv p0.Tilt,iv p0.Time,sv ad1 p0.Rays cap2],fz w0 μ] w∧Ec F p0 a0 k3 n_ a2=some res) F ⟨0,hF.sub kr,St.pick [0,1] (by decide) hS,h⟩ ?_
       rintro nk5 a w ⟨a2,hF,hS,h⟩
       rcases nk5 with _|nk5
       ·cases (show (none:Option Int)=some res from h)
       obtain ⟨k5,hk5⟩:∃k,k=Ec F p0 a0 k3 nk5:=⟨_,rfl⟩
       replace h:Gn F p0 a0 k3 k5 a2=some res:=by rw [hk5];exact h
       rw [Gn] at h
       refine Ar ?_
       refine esr ?_
       obtain ⟨aN,aG,h⟩:=A1 h
       obtain ⟨aV,a6,aD⟩:=Dq hA4.2 aG
       obtain ⟨aP,aS,rfl,aY⟩:=aD
       refine qo 8 8 [(63,.bool (decide (a2<(ln aN))))] hF (oL 39 0 10 hS.i rfl rfl<|oI 39 (hA4.at (hS.frz (i:=1) rfl hlow)) a6<|oE 87 0 (Eg 1) (fun _ hd=>(hA4.at ((hS.at_ hd).frz (i:=1) rfl hlow))) a6 rfl<|A9) fun a hF=>?_
       refine wfn rfl ?_
       refine Ai hF rfl (fun hc=>?_) (fun hc=>?_)
       ·replace h:=Ag h hc
        refine wpIn_skip (A0 ?_)
        refine Ar ?_
        refine wpIn_block ?_
        refine esr ?_
        obtain ⟨b0,aH,h⟩:=A1 h
        obtain ⟨aW,a7,aE⟩:=Dq hA4.2 aH
        obtain ⟨aQ,aT,rfl,a5⟩:=aE
        obtain ⟨a1,a9,h⟩:=A1 h
        obtain ⟨a4,aM,h⟩:=A1 h
        refine qx 10 10 [(7,iv a4)] hF (oL 39 0 10 hS.e rfl rfl<|oI 39 (hA4.at (hS.frz (i:=1) rfl hlow)) a7<|oE 87 0 (Eg 1) (fun _ hd=>(hA4.at ((hS.later hd).frz (i:=1) rfl hlow))) a7 rfl<|oI 87 (a5 _ (hS.frz (i:=1) rfl hlow)) a9<|oG 149 0 14 api_Echo.cells_len (fun _ hd=>(a5 _ ((hS.later hd).frz (i:=1) rfl hlow))) a9<|oC (fun w2 hd=>R8 F (api_Echo.mk a1.Kind a1.Power ((api_Span.mk a1.Steps.1.Lo a1.Steps.1.Hi),(api_Span.mk a1.Steps.2.Lo a1.Steps.2.Hi)) a1.Spread a1.Ratio a1.Match a1.Turn) _ aM _ w2 (Ae w2))<|A9) fun a w hF hx=>?_
        replace hS:=hS.later hx
        refine wfn rfl ?_
        refine qnB [(76,.bool (a4 != 0))] hF fun a hF=>?_
        refine Ai hF rfl (fun hc=>?_) (fun hc=>?_)
        ·replace h:=Ag h hc
         refine rnB [(2,iv a4)] hF fun a hF=>?_
         refine wpIn_ret (Al<|A5<|A5<|Al<|Al<|A5<|A5<|Al<|A5<|Ab [.tmp 2] [iv a4] hF rfl ⟨rfl,trivial⟩ ?_)
         obtain rfl:=Ao h
         exact ⟨rfl,hS.ext⟩
        ·replace h:=Af h hc
         refine wpIn_skip (Aa<|A0<|?_)
         refine WI.region ?_
         obtain ⟨aB,aK,h⟩:=A1 h
         refine ro 3 3 [(1,pb b5),(5,iv a0),(6,iv aB)] hF (oA 3 aK<|A9) fun a hF=>?_
         refine wfn rfl ?_
         rw [hk5] at h
         exact ⟨nk5,Nat.lt_succ_self _,aB,hF.sub kr,St.pick [0,1] (by decide) hS,h⟩
       ·replace h:=Af h hc
        refine wpIn_exit (A7<|A7<|Av<|Aa<|A0<|?_)
        exact ⟨hF.sub kr,St.pick [0,1] (by decide) hS,h⟩
      rintro a w ⟨hF,hS,h⟩
      rw [Gr] at h
      refine WI.region ?_
      obtain ⟨aA,aJ,h⟩:=A1 h
      refine ro 3 3 [(1,pb b5),(5,iv aA)] hF (oA 3 aJ<|A9) fun a hF=>?_
      refine wfn rfl ?_
      rw [hk3] at h
      exact ⟨nk3,Nat.lt_succ_self _,aA,hF.sub kr,St.pick [0,1] (by decide) hS,h⟩
     ·replace h:=Af h hc
      refine wpIn_exit (A7<|A7<|Av<|A0 ?_)
      exact ⟨hF.sub kr,St.pick [0,1] (by decide) hS,h⟩
    rintro a w ⟨hF,hS,h⟩
    rw [Jg] at h
    refine rnB [(2,iv 0)] hF fun a hF=>?_
    refine wpIn_ret (Ab [.tmp 2] [iv 0] hF rfl ⟨rfl,trivial⟩ ?_)
    obtain rfl:=Ao h
    exact ⟨rfl,hS.ext⟩
theorem Qj (F:Nat) (p0:api_Field) (res:Int) (h:Eo F p0=some res) (μ:Frz) (w0:World) (hm:FrzAt μ w0) {ad1:Option Addr} {cap2:Nat} (hA3:ArrM μ 2 api_Span.cells ad1 cap2 p0.Vals):Calls Tryz.prog 49 #[.agg #[iv p0.Grid.X,iv p0.Grid.Y,iv p0.Grid.Size,iv p0.Grid.Wide,iv p0.Grid.High,sv ad1 p0.Vals cap2]] w0 (fun e w=>e=.returned (iv res)∧Ext w0 w):=by
 obtain ⟨hlow,hS⟩:=hm.init
 have hext:=Frz.ext_refl w0.heap.size μ
 rw [Eo] at h
 refine Ah Tryz.func49 rfl 5 [(0,.agg #[iv p0.Grid.X,iv p0.Grid.Y,iv p0.Grid.Size,iv p0.Grid.Wide,iv p0.Grid.High,sv ad1 p0.Vals cap2])] rfl rfl kr fun a w hw hF=>?_
 replace hS:=hS.cast hw
 clear hw
 refine esr ?_
 refine SK.wi (Ld (t:=46) (fun b4=>[(1,pb b4)]) (.agg #[iv p0.Grid.X,iv p0.Grid.Y,iv p0.Grid.Size,iv p0.Grid.Wide,iv p0.Grid.High,sv ad1 p0.Vals cap2]) #[iv p0.Grid.X,iv p0.Grid.Y,iv p0.Grid.Size,iv p0.Grid.Wide,iv p0.Grid.High,sv ad1 p0.Vals cap2] hF hS kr ⟨kr⟩ kr (fun _=>⟨kr⟩) fun b4 w a hF hS=>?_)
 refine rn 1 2 [(1,pb b4)] hF fun a hF=>?_
 refine wfn rfl ?_
 refine esr ?_
 obtain ⟨y5,hy5,h⟩:=A1 h
 refine rX 3 3 [(2,iv y5)] hF (oN 46 0 0 6 hS.e rfl<|oC (fun w2 hd=>Ty F p0 1073741824 _ hy5 _ w2 (Ae w2) (hA3.mono (FrzAt.le_mem ((hS.later hd).frz (i:=1) rfl hlow))))<|A9) fun a w hF hx=>?_
 replace hS:=hS.later hx
 refine wfn rfl ?_
 refine wpIn_ret (Ab [.tmp 2] [iv y5] hF rfl ⟨rfl,trivial⟩ ?_)
 obtain rfl:=Ao h
 exact ⟨rfl,hS.ext⟩
end Go.Proofs.YtifbomimeodibaaGreat
