import Derived.Test.YtifbomimeodibaaGreatV5XD
import Derived.Test.YtifbomimeodibaaGreatProg
import Derived.Test.YtifbomimeodibaaGreatV5XW0
import Derived.Test.YtifbomimeodibaaGreatV5XW1
import Derived.Test.YtifbomimeodibaaGreatV5XW2
import Derived.Test.YtifbomimeodibaaGreatV5XW4
import Derived.Test.YtifbomimeodibaaGreatV5XW5
namespace Go.Proofs.YtifbomimeodibaaGreat
open Go Go.RowKit Go.Eng
set_option maxRecDepth 10000
set_option maxHeartbeats 4000000
set_option linter.unusedVariables false
set_option linter.unusedSimpArgs false
theorem Cz (F:Nat) (p0:volume_reader) (res:Except (Value×volume_reader) (api_Span×volume_reader)) (h:Bu F p0=some res) (μ:Frz) (w0 w1:World) (T_:List Res) (hlow:Ax w0 μ) {cb0:Nat} {ad1:Option Addr} {cap2:Nat} (hA3:ArrM μ 1 (fK .u8) ad1 cap2 p0.b) (hS:St w0 (fz w0 μ::blk cb0 125 #[sv ad1 p0.b cap2]::T_) w1):Py Tryz.prog 98 #[pb cb0] w1 res (fun r_ e w=>∃(ν_:Frz) (a4:Option Addr) (a6:Nat),μ.ext w0.heap.size ν_∧Ax w0 ν_∧e=(.agg #[iv r_.1.Lo,iv r_.1.Hi])∧(ArrM ν_ 1 (fK .u8) a4 a6 r_.2.b)∧St w0 (fz w0 ν_::blk cb0 125 #[sv a4 r_.2.b a6]::T_) w) (fun e_ w=>∃(ν_:Frz) (a5:Option Addr) (a7:Nat),μ.ext w0.heap.size ν_∧Ax w0 ν_∧(ArrM ν_ 1 (fK .u8) a5 a7 e_.b)∧St w0 (fz w0 ν_::blk cb0 125 #[sv a5 e_.b a7]::T_) w):=by
 rw [Bu] at h
 have hext:=Frz.ext_refl w0.heap.size μ
 refine feW Tryz.func98 12 [(0,pb cb0)] hS fun a w hF hS=>?_
 refine esr<|SK.wi (qA 146 #[iv 0,iv 0] (fun b4=>[(2,pb b4)]) hF hS fun b4 w a hF hS=>wfn rfl ?_)
 refine esr<|qn 1 1 [(4,pb cb0)] hF fun a hF=>?_
 obtain ⟨y5,hy5,h⟩:=A0 h
 replace hS:=hS.s2.s2
 refine Ee (fun a9=>[(0,pb cb0),(2,pb b4),(5,a9)]) hF kr ⟨kr⟩ (E2 F _ _ hy5 μ w0 w _ hlow hA3 hS) (fun _=>⟨kr⟩) ?_ ?_
 ·rintro e7 w he_ ⟨ν14,aB,aE,a8,hlow,aH,hS⟩
  replace h:=H0 h he_
  replace hext:=hext.t a8
  replace hA3:=hA3.mono a8.1
  refine A6<|Az hF ?_
  obtain rfl:=Ae h
  replace hS:=hS.d2
  exact .inr ⟨_,rfl,rfl,ν14,aB,aE,hext,hlow,aH,hS⟩
 rintro y6 a9 w a he_ ⟨ν8,aM,aN,hx9,hlow,rfl,a0,hS⟩ hF
 replace h:=H3 h he_
 replace hext:=hext.t hx9
 replace hA3:=hA3.mono hx9.1
 refine rn 1 3 [(0,pb cb0),(2,pb b4),(3,iv y6.1)] hF fun a hF=>wfn rfl ?_
 refine esr<|qn 3 3 [(6,iv y6.1),(7,iv y6.1),(8,pb cb0)] hF fun a hF=>?_
 obtain ⟨aP,aL,h⟩:=A0 h
 refine Ee (fun aA=>[(2,pb b4),(6,iv y6.1),(7,iv y6.1),(9,aA)]) hF kr ⟨kr⟩ (Ai F _ _ aL ν8 w0 w _ hlow a0 hS) (fun _=>⟨kr⟩) ?_ ?_
 ·rintro aO w he_ ⟨ν28,aD,aG,a2,hlow,aJ,hS⟩
  replace h:=H0 h he_
  replace hext:=hext.t a2
  replace hA3:=hA3.mono a2.1
  replace a0:=a0.mono a2.1
  refine A6<|Az hF ?_
  obtain rfl:=Ae h
  replace hS:=hS.d2
  exact .inr ⟨_,rfl,rfl,ν28,aD,aG,hext,hlow,aJ,hS⟩
 rintro aQ aA w a he_ ⟨ν22,aC,aF,a1,hlow,rfl,aI,hS⟩ hF
 replace h:=H3 h he_
 replace hext:=hext.t a1
 replace hA3:=hA3.mono a1.1
 replace a0:=a0.mono a1.1
 obtain ⟨a3,aK,h⟩:=A0 h
 refine ro 2 6 [(2,pb b4),(11,.agg #[iv y6.1,iv a3])] hF (oA 3 aK<|A1) fun a hF=>?_
 refine SK.wi (qw 146 2 #[iv y6.1,iv a3] hF hS rfl fun w a hF hS=>wfn rfl ?_)
 refine wpIn_ret (A7 [.cell 2 146] [_] hF rfl ⟨⟨_,rfl,Ea (cs:=[iv y6.1,iv a3]) kr ((hS.blk (i:=2) rfl).cells rfl)⟩,trivial⟩ ?_)
 obtain rfl:=Ae h
 replace hS:=hS.d2
 exact .inl ⟨_,_,rfl,rfl,ν22,aC,aF,hext,hlow,rfl,aI,hS⟩
theorem Vt (F:Nat) (p0:(List Int)) (res:Bool) (h:Mp F p0=some res) (μ:Frz) (w0:World) (hm:FrzAt μ w0) {ad1:Option Addr} {cap2:Nat} (hA3:ArrM μ 1 (fK .u8) ad1 cap2 p0):Calls Tryz.prog 37 #[sv ad1 p0 cap2] w0 (fun e w=>e=.returned (.bool res)∧Ext w0 w):=by
 obtain ⟨hlow,hS⟩:=hm.init
 have hext:=Frz.ext_refl w0.heap.size μ
 rw [Mp] at h
 refine feW Tryz.func37 47 [(0,sv ad1 p0 cap2)] hS fun a w hF hS=>?_
 refine qnB [] hF fun a hF=>?_
 refine qnB [(3,.bool true)] hF fun a hF=>?_
 refine Dx (fun a w=>∃(a5:Bool),Fr 47 [] [(0,sv ad1 p0 cap2),(3,.bool a5)] a∧St w0 [fz w0 μ] w∧K3 F p0 a5=some res) ?_ ?_
 ·skip
  refine qnB [(9,sv ad1 p0 cap2),(10,iv (ln p0)),(11,iv 0)] hF fun a hF=>?_
  refine wpIn_block<|Ck (fun n_ a w=>∃(a4:Int) (a1:Bool),Fr 47 [] [(0,sv ad1 p0 cap2),(3,.bool a1),(9,sv ad1 p0 cap2),(10,iv (ln p0)),(11,iv a4)] a∧St w0 [fz w0 μ] w∧Hs F p0 n_ a4 a1=some res) F ⟨0,true,hF.sub kr,St.pick [0] (by decide) hS,h⟩ ?_
  rintro nk2 a w ⟨a4,a1,hF,hS,h⟩
  rcases nk2 with _|nk2
  ·cases (show (none:Option Bool)=some res from h)
  obtain ⟨k2,hk2⟩:∃k,k=Hs F p0 nk2:=⟨_,rfl⟩
  replace h:Lm F p0 k2 a4 a1=some res:=by rw [hk2];exact h
  rw [Lm] at h
  refine qnB [(12,.bool (decide (a4<(ln p0))))] hF fun a hF=>?_
  refine Am<|A8 hF h (fun hc h=>?_) fun hc h=>?_
  ·refine wK<|Am<|wpIn_block<|esr ?_
   obtain ⟨a3,a8,h⟩:=A0 h
   refine qo 3 3 [(5,.int .u8 a3)] hF (oI 22 (hA3 _ (hS.frz (i:=0) rfl hlow)) a8<|oE 5 0 (B8 .u8) (fun _ hd=>(hA3 _ ((hS.at_ hd).frz (i:=0) rfl hlow))) a8 rfl<|A1) fun a hF=>wfn rfl ?_
   refine WI.region<|rn 10 10 [(0,sv ad1 p0 cap2),(3,.bool (bif (bif a1 then (decide (a3≥128)) else false) then (decide (a3≤254)) else false)),(9,sv ad1 p0 cap2),(10,iv (ln p0)),(11,iv a4)] hF fun a hF=>WI.fin rfl (A9<|A3<|?_)
   refine WI.region ?_
   obtain ⟨aB,aD,h⟩:=A0 h
   refine ro 2 2 [(0,sv ad1 p0 cap2),(3,.bool (bif (bif a1 then (decide (a3≥128)) else false) then (decide (a3≤254)) else false)),(9,sv ad1 p0 cap2),(10,iv (ln p0)),(11,iv aB)] hF (oA 3 aD<|A1) fun a hF=>wfn rfl ?_
   rw [hk2] at h
   exact ⟨nk2,Nat.lt_succ_self _,aB,bif (bif a1 then (decide (a3≥128)) else false) then (decide (a3≤254)) else false,hF.sub kr,St.pick [0] (by decide) hS,h⟩
  ·refine wpIn_exit (A5<|A5<|Ar<|A3 ?_)
   exact ⟨a1,hF.sub kr,St.pick [0] (by decide) hS,h⟩
 rintro a w ⟨a5,hF,hS,h⟩
 rw [K3] at h
 refine esr<|qn 2 2 [(26,.agg #[sv ad1 p0 cap2])] hF fun a hF=>?_
 refine SK.wi (qBa 125 #[sv ad1 p0 cap2] (fun a2=>[(27,pb a2)]) hF hS fun a2 w a hF hS=>?_)
 refine qn 1 4 [(6,pb a2)] hF fun a hF=>wfn rfl ?_
 refine esr<|qn 1 1 [(29,pb a2)] hF fun a hF=>?_
 obtain ⟨a0,aE,h⟩:=A0 h
 replace hS:=hS.s1
 refine SK.wi (qR (fun aA=>[(30,aA)]) hF (Kh F _ _ aE μ w0 w _ hlow hA3 hS) ?_)
 rintro aA w a ⟨ν18,aG,aH,a9,hlow,rfl,aI,hS⟩ hF
 replace hext:=hext.t a9
 replace hA3:=hA3.mono a9.1
 refine qn 5 7 [(7,iv a0.1),(8,.bool a0.2.1)] hF fun a hF=>wfn rfl ?_
 refine esr<|rn 2 2 [(6,pb a2),(7,iv a0.1),(8,.bool a0.2.1),(34,.bool a5)] hF fun a hF=>?_
 rcases Bool.eq_false_or_eq_true (a5) with a6|a6
 ·replace h:=Gx h a6
  rw [a6] at hF
  refine qk 3 [(34,.bool true),(35,undef)] hF fun a hF=>?_
  refine qk 4 [(36,undef)] hF fun a hF=>?_
  refine Ke 5 [(7,iv a0.1),(34,.bool true),(36,undef),(37,undef)] hF kr ⟨kr⟩ ⟨kr⟩ rfl fun a hF=>?_
  refine Ke 6 [(7,iv a0.1),(34,.bool true),(36,undef),(38,undef)] hF kr ⟨kr⟩ ⟨kr⟩ rfl fun a hF=>?_
  refine Ke 7 [(7,iv a0.1),(34,.bool true),(36,undef),(39,undef)] hF kr ⟨kr⟩ ⟨kr⟩ rfl fun a hF=>?_
  refine Ke 8 [(7,iv a0.1),(34,.bool true),(36,undef),(40,undef)] hF kr ⟨kr⟩ ⟨kr⟩ rfl fun a hF=>?_
  refine Ke 9 [(7,iv a0.1),(34,.bool true),(36,undef),(41,undef)] hF kr ⟨kr⟩ ⟨kr⟩ rfl fun a hF=>?_
  refine Ke 10 [(34,.bool true),(36,undef),(41,undef),(42,undef)] hF kr ⟨kr⟩ ⟨kr⟩ rfl fun a hF=>?_
  refine Ke 11 [(34,.bool true),(36,undef),(41,undef),(43,undef)] hF kr ⟨kr⟩ ⟨kr⟩ rfl fun a hF=>?_
  refine Ke 12 [(34,.bool true),(36,undef),(44,undef)] hF kr ⟨kr⟩ ⟨kr⟩ rfl fun a hF=>?_
  refine rk 13 [(34,.bool true),(45,undef)] hF fun a hF=>?_
  refine rn 2 15 [(2,.bool true)] hF fun a hF=>wfn rfl ?_
  refine wpIn_ret (A7 [.tmp 2] [_] hF rfl ⟨rfl,trivial⟩ ?_)
  obtain rfl:=Ae h
  exact ⟨rfl,hS.ext⟩
 ·replace h:=Gw h a6
  rw [a6] at hF
  refine Zm (n:=2) (obs:=[]) 4 [(6,⟨[],pb a2⟩),(7,⟨[],iv a0.1⟩),(34,⟨[],.bool false⟩),(36,⟨[⟨34,false,false⟩],.bool a0.2.1⟩)] hF kr A1 ⟨kr⟩ kr rfl fun a hF=>?_
  replace hF:Fr 47 [] [(6,pb a2),(7,iv a0.1),(34,.bool false),(36,.bool a0.2.1)] a:=hF
  rcases Bool.eq_false_or_eq_true (a0.2.1) with a7|a7
  ·replace h:=Gx h a7
   rw [a7] at hF
   obtain ⟨aF,aC,h⟩:=A0 h
   refine ro 11 15 [(2,.bool (decide ((ln a0.2.2.b)<aF)))] hF (oGs [⟨36,true,true⟩] (oL 22 1 0 hS.i rfl rfl<|oA 3 aC<|A1)<|A1) fun a hF=>wfn rfl ?_
   refine wpIn_ret (A7 [.tmp 2] [_] hF rfl ⟨rfl,trivial⟩ ?_)
   obtain rfl:=Ae h
   exact ⟨rfl,hS.ext⟩
  ·replace h:=Gw h a7
   rw [a7] at hF
   refine qk 5 [(36,.bool false),(37,undef)] hF fun a hF=>?_
   refine qk 6 [(38,undef)] hF fun a hF=>?_
   refine qk 7 [(39,undef)] hF fun a hF=>?_
   refine qk 8 [(40,undef)] hF fun a hF=>?_
   refine qk 9 [(41,undef)] hF fun a hF=>?_
   refine qk 10 [(42,undef)] hF fun a hF=>?_
   refine qk 11 [(43,undef)] hF fun a hF=>?_
   refine qk 12 [(44,undef)] hF fun a hF=>?_
   refine rn 3 15 [(2,.bool false)] hF fun a hF=>wfn rfl ?_
   refine wpIn_ret (A7 [.tmp 2] [_] hF rfl ⟨rfl,trivial⟩ ?_)
   obtain rfl:=Ae h
   exact ⟨rfl,hS.ext⟩
theorem Sm (F:Nat) (p0:api_Echo) (res:Int) (h:J9 F p0=some res) (μ:Frz) (w0:World) (hm:FrzAt μ w0):Calls Tryz.prog 80 #[p0.ag] w0 (fun e w=>e=.returned (iv res)∧Ext w0 w):=by
 obtain ⟨hlow,hS⟩:=hm.init
 have hext:=Frz.ext_refl w0.heap.size μ
 rw [J9] at h
 refine feW Tryz.func80 129 [(0,p0.ag)] hS fun a w hF hS=>?_
 refine esr<|SK.wi (qBa 149 p0.ar (fun b1=>[(1,pb b1)]) hF hS fun b1 w a hF hS=>?_)
 refine qn 1 2 [] hF fun a hF=>wfn rfl ?_
 refine Am<|qoB [(17,.bool (bif (bif (p0.Kind != 1) then (p0.Kind != 2) else false) then (p0.Kind != 3) else false))] hF (oL 3 0 0 hS.i rfl rfl<|oGs [⟨8,true,(p0.Kind != 1)⟩] (oL 3 0 0 hS.i rfl rfl<|A1)<|oGs [⟨13,true,(bif (p0.Kind != 1) then (p0.Kind != 2) else false)⟩] (oL 3 0 0 hS.i rfl rfl<|A1)<|A1) fun a hF=>?_
 refine A8 hF h (fun hc h=>?_) fun hc h=>?_
 ·refine rnB [(2,iv 2)] hF fun a hF=>?_
  refine wpIn_ret (A2<|A7 [.tmp 2] [_] hF rfl ⟨rfl,trivial⟩ ?_)
  obtain rfl:=Ae h
  exact ⟨rfl,hS.ext⟩
 ·refine wK<|Am<|esr<|qx 4 4 [(21,.bool (!(Ct p0.Power 0 1073741824)))] hF (oN 146 0 1 2 hS.e rfl<|oC (fun w2 hd=>Lb p0.Power 0 1073741824 _ rfl _ w2 (A4 w2))<|A1) fun a w hF hx=>?_
  replace hS:=hS.later hx
  refine wfn rfl ?_
  refine A8 hF h (fun hc h=>?_) fun hc h=>?_
  ·refine rnB [(2,iv 3)] hF fun a hF=>?_
   refine wpIn_ret (A2<|A7 [.tmp 2] [_] hF rfl ⟨rfl,trivial⟩ ?_)
   obtain rfl:=Ae h
   exact ⟨rfl,hS.ext⟩
  ·refine wK<|Am<|qoB [(24,.bool (p0.Kind==1))] hF (oL 3 0 0 hS.i rfl rfl<|A1) fun a hF=>?_
   refine A8 hF h (fun hc h=>?_) fun hc h=>?_
   ·refine esr<|qn 1 1 [(25,.agg #[iv 0,iv 0])] hF fun a hF=>?_
    refine SK.wi (qA 146 #[iv 0,iv 0] (fun b2=>[(3,pb b2)]) hF hS fun b2 w a hF hS=>?_)
    refine SK.wi (qw 146 0 #[iv 0,iv 0] hF hS rfl fun w a hF hS=>wfn rfl ?_)
    refine Am<|roB [(66,.bool (bif (bif (bif (bif (bif (bif (p0.Power.Lo != 0) then true else (!(((p0.Steps.1.Lo:Int)==0)&&(((p0.Steps.1.Hi:Int)==0)&&true)))) then true else (!(((p0.Steps.2.Lo:Int)==0)&&(((p0.Steps.2.Hi:Int)==0)&&true)))) then true else (p0.Spread != 0)) then true else (!(((p0.Ratio.Lo:Int)==0)&&(((p0.Ratio.Hi:Int)==0)&&true)))) then true else (!(((p0.Match.Lo:Int)==0)&&(((p0.Match.Hi:Int)==0)&&true)))) then true else (!(((p0.Turn.Lo:Int)==0)&&(((p0.Turn.Hi:Int)==0)&&true)))))] hF (oL 3 1 1 hS.i rfl rfl<|oGs [⟨30,false,(p0.Power.Lo != 0)⟩] (oX (.run [] (Instr.indexAt 147 (.pointer (some ⟨b1,3,none⟩)) (iv 0)) (.pointer (some ⟨b1,3,none⟩))) (Bm kr)<|oN 146 1 3 2 hS.i rfl<|oN 146 0 0 2 hS.i rfl<|oX (.run [] (eqS .neq 146 #[iv p0.Steps.1.Lo,iv p0.Steps.1.Hi] #[iv 0,iv 0]) (.bool (!(((p0.Steps.1.Lo:Int)==0)&&(((p0.Steps.1.Hi:Int)==0)&&true))))) (Qq kr kr)<|A1)<|oGs [⟨37,false,(bif (p0.Power.Lo != 0) then true else (!(((p0.Steps.1.Lo:Int)==0)&&(((p0.Steps.1.Hi:Int)==0)&&true))))⟩] (oX (.run [] (Instr.indexAt 147 (.pointer (some ⟨b1,3,none⟩)) (iv 1)) (.pointer (some ⟨b1,5,none⟩))) (Bm kr)<|oN 146 1 5 2 hS.i rfl<|oN 146 0 0 2 hS.i rfl<|oX (.run [] (eqS .neq 146 #[iv p0.Steps.2.Lo,iv p0.Steps.2.Hi] #[iv 0,iv 0]) (.bool (!(((p0.Steps.2.Lo:Int)==0)&&(((p0.Steps.2.Hi:Int)==0)&&true))))) (Qq kr kr)<|A1)<|oGs [⟨44,false,(bif (bif (p0.Power.Lo != 0) then true else (!(((p0.Steps.1.Lo:Int)==0)&&(((p0.Steps.1.Hi:Int)==0)&&true)))) then true else (!(((p0.Steps.2.Lo:Int)==0)&&(((p0.Steps.2.Hi:Int)==0)&&true))))⟩] (oL 3 1 7 hS.i rfl rfl<|A1)<|oGs [⟨49,false,(bif (bif (bif (p0.Power.Lo != 0) then true else (!(((p0.Steps.1.Lo:Int)==0)&&(((p0.Steps.1.Hi:Int)==0)&&true)))) then true else (!(((p0.Steps.2.Lo:Int)==0)&&(((p0.Steps.2.Hi:Int)==0)&&true)))) then true else (p0.Spread != 0))⟩] (oN 146 1 8 2 hS.i rfl<|oN 146 0 0 2 hS.i rfl<|oX (.run [] (eqS .neq 146 #[iv p0.Ratio.Lo,iv p0.Ratio.Hi] #[iv 0,iv 0]) (.bool (!(((p0.Ratio.Lo:Int)==0)&&(((p0.Ratio.Hi:Int)==0)&&true))))) (Qq kr kr)<|A1)<|oGs [⟨55,false,(bif (bif (bif (bif (p0.Power.Lo != 0) then true else (!(((p0.Steps.1.Lo:Int)==0)&&(((p0.Steps.1.Hi:Int)==0)&&true)))) then true else (!(((p0.Steps.2.Lo:Int)==0)&&(((p0.Steps.2.Hi:Int)==0)&&true)))) then true else (p0.Spread != 0)) then true else (!(((p0.Ratio.Lo:Int)==0)&&(((p0.Ratio.Hi:Int)==0)&&true))))⟩] (oN 146 1 10 2 hS.i rfl<|oN 146 0 0 2 hS.i rfl<|oX (.run [] (eqS .neq 146 #[iv p0.Match.Lo,iv p0.Match.Hi] #[iv 0,iv 0]) (.bool (!(((p0.Match.Lo:Int)==0)&&(((p0.Match.Hi:Int)==0)&&true))))) (Qq kr kr)<|A1)<|oGs [⟨61,false,(bif (bif (bif (bif (bif (p0.Power.Lo != 0) then true else (!(((p0.Steps.1.Lo:Int)==0)&&(((p0.Steps.1.Hi:Int)==0)&&true)))) then true else (!(((p0.Steps.2.Lo:Int)==0)&&(((p0.Steps.2.Hi:Int)==0)&&true)))) then true else (p0.Spread != 0)) then true else (!(((p0.Ratio.Lo:Int)==0)&&(((p0.Ratio.Hi:Int)==0)&&true)))) then true else (!(((p0.Match.Lo:Int)==0)&&(((p0.Match.Hi:Int)==0)&&true))))⟩] (oN 146 1 12 2 hS.i rfl<|oN 146 0 0 2 hS.i rfl<|oX (.run [] (eqS .neq 146 #[iv p0.Turn.Lo,iv p0.Turn.Hi] #[iv 0,iv 0]) (.bool (!(((p0.Turn.Lo:Int)==0)&&(((p0.Turn.Hi:Int)==0)&&true))))) (Qq kr kr)<|A1)<|A1) fun a hF=>?_
    refine A8 hF h (fun hc h=>?_) fun hc h=>?_
    ·refine rnB [(2,iv 3)] hF fun a hF=>?_
     refine wpIn_ret (A2<|A2<|A7 [.tmp 2] [_] hF rfl ⟨rfl,trivial⟩ ?_)
     obtain rfl:=Ae h
     exact ⟨rfl,hS.ext⟩
    ·refine wK<|rnB [(2,iv 0)] hF fun a hF=>?_
     refine wpIn_ret (A2<|A7 [.tmp 2] [_] hF rfl ⟨rfl,trivial⟩ ?_)
     obtain rfl:=Ae h
     exact ⟨rfl,hS.ext⟩
   ·refine wK<|Am<|esr<|qx 22 22 [(88,.bool (bif (bif (bif (decide (p0.Power.Lo<1)) then true else (!(Ct p0.Ratio 0 1000000))) then true else (!(Ct p0.Match 0 1000))) then true else (!(Ag p0.Spread 0 65535))))] hF (oL 3 0 1 hS.e rfl rfl<|oGs [⟨71,false,(decide (p0.Power.Lo<1))⟩] (oN 146 0 8 2 hS.e rfl<|oC (fun w2 hd=>Lb p0.Ratio 0 1000000 _ rfl _ w2 (A4 w2))<|A1)<|oGs [⟨77,false,(bif (decide (p0.Power.Lo<1)) then true else (!(Ct p0.Ratio 0 1000000)))⟩] (oN 146 0 10 2 hS.e rfl<|oC (fun w2 hd=>Lb p0.Match 0 1000 _ rfl _ w2 (A4 w2))<|A1)<|oGs [⟨83,false,(bif (bif (decide (p0.Power.Lo<1)) then true else (!(Ct p0.Ratio 0 1000000))) then true else (!(Ct p0.Match 0 1000)))⟩] (oL 3 0 7 hS.e rfl rfl<|oC (fun w2 hd=>Cn p0.Spread 0 65535 _ rfl _ w2 (A4 w2))<|A1)<|A1) fun a w hF hx=>?_
    replace hS:=hS.later hx
    refine wfn rfl ?_
    refine A8 hF h (fun hc h=>?_) fun hc h=>?_
    ·refine rnB [(2,iv 3)] hF fun a hF=>?_
     refine wpIn_ret (A2<|A7 [.tmp 2] [_] hF rfl ⟨rfl,trivial⟩ ?_)
     obtain rfl:=Ae h
     exact ⟨rfl,hS.ext⟩
    ·refine wK<|Am<|qoB [(91,.bool (p0.Kind==2))] hF (oL 3 0 0 hS.i rfl rfl<|A1) fun a hF=>?_
     refine A8 hF h (fun hc h=>?_) fun hc h=>?_
     ·refine esr<|qn 1 1 [(92,.agg #[iv 0,iv 0])] hF fun a hF=>?_
      refine SK.wi (qA 146 #[iv 0,iv 0] (fun b3=>[(4,pb b3)]) hF hS fun b3 w a hF hS=>?_)
      refine SK.wi (qw 146 0 #[iv 0,iv 0] hF hS rfl fun w a hF hS=>wfn rfl ?_)
      refine Am<|roB [(110,.bool (bif (bif (!(((p0.Steps.1.Lo:Int)==0)&&(((p0.Steps.1.Hi:Int)==0)&&true))) then true else (!(((p0.Steps.2.Lo:Int)==0)&&(((p0.Steps.2.Hi:Int)==0)&&true)))) then true else (!(((p0.Turn.Lo:Int)==0)&&(((p0.Turn.Hi:Int)==0)&&true)))))] hF (oX (.run [] (Instr.indexAt 147 (.pointer (some ⟨b1,3,none⟩)) (iv 0)) (.pointer (some ⟨b1,3,none⟩))) (Bm kr)<|oN 146 1 3 2 hS.i rfl<|oN 146 0 0 2 hS.i rfl<|oX (.run [] (eqS .neq 146 #[iv p0.Steps.1.Lo,iv p0.Steps.1.Hi] #[iv 0,iv 0]) (.bool (!(((p0.Steps.1.Lo:Int)==0)&&(((p0.Steps.1.Hi:Int)==0)&&true))))) (Qq kr kr)<|oGs [⟨98,false,(!(((p0.Steps.1.Lo:Int)==0)&&(((p0.Steps.1.Hi:Int)==0)&&true)))⟩] (oX (.run [] (Instr.indexAt 147 (.pointer (some ⟨b1,3,none⟩)) (iv 1)) (.pointer (some ⟨b1,5,none⟩))) (Bm kr)<|oN 146 1 5 2 hS.i rfl<|oN 146 0 0 2 hS.i rfl<|oX (.run [] (eqS .neq 146 #[iv p0.Steps.2.Lo,iv p0.Steps.2.Hi] #[iv 0,iv 0]) (.bool (!(((p0.Steps.2.Lo:Int)==0)&&(((p0.Steps.2.Hi:Int)==0)&&true))))) (Qq kr kr)<|A1)<|oGs [⟨105,false,(bif (!(((p0.Steps.1.Lo:Int)==0)&&(((p0.Steps.1.Hi:Int)==0)&&true))) then true else (!(((p0.Steps.2.Lo:Int)==0)&&(((p0.Steps.2.Hi:Int)==0)&&true))))⟩] (oN 146 1 12 2 hS.i rfl<|oN 146 0 0 2 hS.i rfl<|oX (.run [] (eqS .neq 146 #[iv p0.Turn.Lo,iv p0.Turn.Hi] #[iv 0,iv 0]) (.bool (!(((p0.Turn.Lo:Int)==0)&&(((p0.Turn.Hi:Int)==0)&&true))))) (Qq kr kr)<|A1)<|A1) fun a hF=>?_
      refine A8 hF h (fun hc h=>?_) fun hc h=>?_
      ·refine rnB [(2,iv 3)] hF fun a hF=>?_
       refine wpIn_ret (A2<|A2<|A7 [.tmp 2] [_] hF rfl ⟨rfl,trivial⟩ ?_)
       obtain rfl:=Ae h
       exact ⟨rfl,hS.ext⟩
      ·refine wK<|rnB [(2,iv 0)] hF fun a hF=>?_
       refine wpIn_ret (A2<|A7 [.tmp 2] [_] hF rfl ⟨rfl,trivial⟩ ?_)
       obtain rfl:=Ae h
       exact ⟨rfl,hS.ext⟩
     ·refine wK<|Am<|esr ?_
      obtain ⟨y4,hy4,h⟩:=A0 h
      obtain ⟨y5,hy5,h⟩:=A0 h
      obtain ⟨y6,hy6,h⟩:=A0 h
      refine rX 18 18 [(128,.bool (bif (bif (!y4) then true else (!y5)) then true else (!y6)))] hF (oX (.run [] (Instr.indexAt 147 (.pointer (some ⟨b1,3,none⟩)) (iv 0)) (.pointer (some ⟨b1,3,none⟩))) (Bm kr)<|oN 146 0 3 2 hS.e rfl<|oC (fun w2 hd=>Nq F (api_Span.mk p0.Steps.1.Lo p0.Steps.1.Hi) _ hy4 _ w2 (A4 w2))<|oGs [⟨116,false,(!y4)⟩] (oX (.run [] (Instr.indexAt 147 (.pointer (some ⟨b1,3,none⟩)) (iv 1)) (.pointer (some ⟨b1,5,none⟩))) (Bm kr)<|oN 146 0 5 2 hS.e rfl<|A1)<|oX (.call [⟨116,false,(!y4)⟩] 110 #[.agg #[iv p0.Steps.2.Lo,iv p0.Steps.2.Hi]] (.bool y5)) (show Ob.ok _ Ext _ _ from fun hk w2 hd=>Nq F (api_Span.mk p0.Steps.2.Lo p0.Steps.2.Hi) _ ((fun hk=>Bt hy5 hk) hk) _ w2 (A4 w2))<|oGs [⟨123,false,(bif (!y4) then true else (!y5))⟩] (oN 146 0 12 2 hS.e rfl<|A1)<|oX (.call [⟨123,false,(bif (!y4) then true else (!y5))⟩] 110 #[.agg #[iv p0.Turn.Lo,iv p0.Turn.Hi]] (.bool y6)) (show Ob.ok _ Ext _ _ from fun hk w2 hd=>Nq F p0.Turn _ ((fun hk=>Bt hy6 hk) hk) _ w2 (A4 w2))<|A1) fun a w hF hx=>?_
      replace hS:=hS.later hx
      refine wfn rfl ?_
      refine A8 hF h (fun hc h=>?_) fun hc h=>?_
      ·refine rnB [(2,iv 3)] hF fun a hF=>?_
       refine wpIn_ret (A2<|A7 [.tmp 2] [_] hF rfl ⟨rfl,trivial⟩ ?_)
       obtain rfl:=Ae h
       exact ⟨rfl,hS.ext⟩
      ·refine wK<|rnB [(2,iv 0)] hF fun a hF=>?_
       refine wpIn_ret (A7 [.tmp 2] [_] hF rfl ⟨rfl,trivial⟩ ?_)
       obtain rfl:=Ae h
       exact ⟨rfl,hS.ext⟩
theorem Vz (F:Nat) (p0:api_Field) (p1:Int) (res:Int) (h:Qf F p0 p1=some res) (μ:Frz) (w0:World) (hm:FrzAt μ w0) {ad1:Option Addr} {cap2:Nat} (hA3:ArrM μ 2 api_Span.cells ad1 cap2 p0.Vals):Calls Tryz.prog 81 #[.agg (p0.ax ad1 cap2),iv p1] w0 (fun e w=>e=.returned (iv res)∧Ext w0 w):=by
 obtain ⟨hlow,hS⟩:=hm.init
 have hext:=Frz.ext_refl w0.heap.size μ
 rw [Qf] at h
 refine feW Tryz.func81 39 [(0,.agg (p0.ax ad1 cap2)),(1,iv p1)] hS fun a w hF hS=>?_
 refine esr<|SK.wi (qBa 46 (p0.ax ad1 cap2) (fun b4=>[(2,pb b4)]) hF hS fun b4 w a hF hS=>?_)
 refine qn 1 2 [] hF fun a hF=>wfn rfl ?_
 refine esr<|qx 4 4 [(5,iv (C6 p0.Grid))] hF (oN 43 0 0 5 hS.e rfl<|oC (fun w2 hd=>No p0.Grid _ rfl _ w2 (A4 w2))<|A1) fun a w hF hx=>?_
 replace hS:=hS.later hx
 refine wfn rfl ?_
 refine Am<|qnB [(11,.bool ((C6 p0.Grid) != 0))] hF fun a hF=>?_
 refine A8 hF h (fun hc h=>?_) fun hc h=>?_
 ·refine rnB [(4,iv (C6 p0.Grid))] hF fun a hF=>?_
  refine wpIn_ret (A2<|A7 [.tmp 4] [_] hF rfl ⟨rfl,trivial⟩ ?_)
  obtain rfl:=Ae h
  exact ⟨rfl,hS.ext⟩
 ·refine wK<|Am<|esr ?_
  obtain ⟨x5,hx5,h⟩:=A0 h
  refine qo 11 11 [(23,.bool ((ln p0.Vals) != x5))] hF (oL 44 0 5 hS.i rfl rfl<|oL 3 0 3 hS.i rfl rfl<|oL 3 0 4 hS.i rfl rfl<|oM 3 hx5<|A1) fun a hF=>wfn rfl ?_
  refine A8 hF h (fun hc h=>?_) fun hc h=>?_
  ·refine rnB [(4,iv 11)] hF fun a hF=>?_
   refine wpIn_ret (A2<|A7 [.tmp 4] [_] hF rfl ⟨rfl,trivial⟩ ?_)
   obtain rfl:=Ae h
   exact ⟨rfl,hS.ext⟩
  ·refine wK<|Dx (fun a w=>Fr 39 [] [] a∧St w0 [blk b4 46 (p0.ax ad1 cap2),fz w0 μ] w∧Ph=some res) ?_ ?_
   ·skip
    refine qnB [(6,iv 0)] hF fun a hF=>?_
    refine wpIn_block<|Ck (fun n_ a w=>∃(a0:Int),Fr 39 [] [(1,iv p1),(2,pb b4),(6,iv a0)] a∧St w0 [blk b4 46 (p0.ax ad1 cap2),fz w0 μ] w∧Jg p0 p1 n_ a0=some res) F ⟨0,hF.sub kr,St.pick [0,1] (by decide) hS,h⟩ ?_
    rintro nk2 a w ⟨a0,hF,hS,h⟩
    rcases nk2 with _|nk2
    ·cases (show (none:Option Int)=some res from h)
    obtain ⟨k2,hk2⟩:∃k,k=Jg p0 p1 nk2:=⟨_,rfl⟩
    replace h:Ma p0 p1 k2 a0=some res:=by rw [hk2];exact h
    rw [Ma] at h
    refine Am<|qoB [(28,.bool (decide (a0<(ln p0.Vals))))] hF (oL 44 0 5 hS.i rfl rfl<|A1) fun a hF=>?_
    refine A8 hF h (fun hc h=>?_) fun hc h=>?_
    ·refine wK<|Am<|wpIn_block<|esr ?_
     obtain ⟨a2,a1,h⟩:=A0 h
     refine qx 8 8 [(38,.bool (!(Ct a2 0 p1)))] hF (oL 44 0 5 hS.e rfl rfl<|oI 44 (hA3 _ (hS.frz (i:=1) rfl hlow)) a1<|oG 146 0 2 api_Span.cells_len (fun _ hd=>(hA3 _ ((hS.later hd).frz (i:=1) rfl hlow))) a1<|oC (fun w2 hd=>Lb a2 0 p1 _ rfl _ w2 (A4 w2))<|A1) fun a w hF hx=>?_
     replace hS:=hS.later hx
     refine wfn rfl ?_
     refine A8 hF h (fun hc h=>?_) fun hc h=>?_
     ·refine rnB [(4,iv 3)] hF fun a hF=>?_
      refine wpIn_ret (Ab<|A2<|A2<|Ab<|A2<|A7 [.tmp 4] [_] hF rfl ⟨rfl,trivial⟩ ?_)
      obtain rfl:=Ae h
      exact ⟨rfl,hS.ext⟩
     ·refine wpIn_skip (A9<|A3<|?_)
      refine WI.region ?_
      obtain ⟨a3,a4,h⟩:=A0 h
      refine ro 3 3 [(1,iv p1),(2,pb b4),(6,iv a3)] hF (oA 3 a4<|A1) fun a hF=>wfn rfl ?_
      rw [hk2] at h
      exact ⟨nk2,Nat.lt_succ_self _,a3,hF.sub kr,St.pick [0,1] (by decide) hS,h⟩
    ·refine wpIn_exit (A5<|A5<|Ar<|A3 ?_)
     exact ⟨hF.sub kr,St.pick [0,1] (by decide) hS,h⟩
   rintro a w ⟨hF,hS,h⟩
   rw [Ph] at h
   refine rnB [(4,iv 0)] hF fun a hF=>?_
   refine wpIn_ret (A7 [.tmp 4] [_] hF rfl ⟨rfl,trivial⟩ ?_)
   obtain rfl:=Ae h
   exact ⟨rfl,hS.ext⟩
theorem Di (F:Nat) (p0:ref12_reader) (res:(api_Span×ref12_reader)) (h:Ci F p0=some res) (μ:Frz) (w0 w1:World) (T_:List Res) (hlow:Ax w0 μ) {cb0:Nat} {ad1:Option Addr} {cap2:Nat} (hA3:ArrM μ 1 (fK .u8) ad1 cap2 p0.b) (hS:St w0 (fz w0 μ::blk cb0 135 #[sv ad1 p0.b cap2,.bool p0.bad]::T_) w1):Ba Tryz.prog 125 #[pb cb0] w1 (fun e w=>∃(ν_:Frz) (a3:Option Addr) (a4:Nat),μ.ext w0.heap.size ν_∧Ax w0 ν_∧e=(.agg #[iv res.1.Lo,iv res.1.Hi])∧(ArrM ν_ 1 (fK .u8) a3 a4 res.2.b)∧St w0 (fz w0 ν_::blk cb0 135 #[sv a3 res.2.b a4,.bool res.2.bad]::T_) w):=by
 rw [Ci] at h
 have hext:=Frz.ext_refl w0.heap.size μ
 refine feW Tryz.func125 12 [(0,pb cb0)] hS fun a w hF hS=>?_
 refine esr<|SK.wi (qA 146 #[iv 0,iv 0] (fun b4=>[(2,pb b4)]) hF hS fun b4 w a hF hS=>wfn rfl ?_)
 refine esr<|qn 1 1 [(4,pb cb0)] hF fun a hF=>?_
 obtain ⟨y5,hy5,h⟩:=A0 h
 replace hS:=hS.s2.s2
 refine SK.wi (qR (fun v8=>[(5,v8)]) hF (Eb F _ _ hy5 μ w0 w _ hlow hA3 hS) ?_)
 rintro v8 w a ⟨ν6,ad9,aB,hx7,hlow,rfl,a0,hS⟩ hF
 replace hext:=hext.t hx7
 replace hA3:=hA3.mono hx7.1
 refine qn 1 3 [(3,iv y5.1)] hF fun a hF=>wfn rfl ?_
 refine esr<|qn 3 3 [(6,iv y5.1),(7,iv y5.1),(8,pb cb0)] hF fun a hF=>?_
 obtain ⟨aC,aA,h⟩:=A0 h
 refine SK.wi (qR (fun a5=>[(9,a5)]) hF (Aj F _ _ aA ν6 w0 w _ hlow a0 hS) ?_)
 rintro a5 w a ⟨ν13,a6,a7,a1,hlow,rfl,a8,hS⟩ hF
 replace hext:=hext.t a1
 replace hA3:=hA3.mono a1.1
 replace a0:=a0.mono a1.1
 obtain ⟨a2,a9,h⟩:=A0 h
 refine qo 2 6 [(11,.agg #[iv y5.1,iv a2])] hF (oA 3 a9<|A1) fun a hF=>?_
 refine SK.wi (qw 146 2 #[iv y5.1,iv a2] hF hS rfl fun w a hF hS=>wfn rfl ?_)
 refine wpIn_ret (A7 [.cell 2 146] [_] hF rfl ⟨⟨_,rfl,Ea (cs:=[iv y5.1,iv a2]) kr ((hS.blk (i:=2) rfl).cells rfl)⟩,trivial⟩ ?_)
 obtain rfl:=Ae h
 replace hS:=hS.d2
 exact ⟨_,rfl,ν13,a6,a7,hext,hlow,rfl,a8,hS⟩
theorem Hc (F:Nat) (p0:api_Span) (res:(List Int)) (h:Fz F p0=some res) (μ:Frz) (w0:World) (hm:FrzAt μ w0):Ba Tryz.prog 127 #[.agg #[iv p0.Lo,iv p0.Hi]] w0 (fun e w=>∃zad0 zcap0,e=(sv zad0 res zcap0)∧St w0 [arr 5 1 (fK .u8) zad0 res.length zcap0 res] w):=by
 obtain ⟨hlow,hS⟩:=hm.init
 have hext:=Frz.ext_refl w0.heap.size μ
 rw [Fz] at h
 refine feW Tryz.func127 13 [(0,.agg #[iv p0.Lo,iv p0.Hi])] hS fun a w hF hS=>?_
 refine esr<|SK.wi (qBa 146 #[iv p0.Lo,iv p0.Hi] (fun b1=>[(1,pb b1)]) hF hS fun b1 w a hF hS=>?_)
 refine qn 1 2 [] hF fun a hF=>wfn rfl ?_
 refine Am ?_
 obtain ⟨x2,hx2,h⟩:=A0 h
 obtain ⟨y4,hy4,h⟩:=A0 h
 refine Bq 8 [2] _ (D:=fun w=>St w0 [blk b1 146 #[iv p0.Lo,iv p0.Hi]] w∧FrzAt μ w) kr kr hF.size (fun w hx=>?_) (fun _ _ h=>h)
 replace hS:=hS.later hx
 refine ⟨⟨St.pick [0] (by decide) hS,hS.frz (i:=1) rfl hlow⟩,?_⟩
 have aB:=Frz.le_refl μ
 refine WT.s [0,1,3,4,5,6,7] [2] kr kr ?_
 refine rC 7 [(4,iv p0.Lo),(10,iv x2)] hF (oL 3 0 0 (fun _ hd=>hd.1) rfl rfl<|oL 3 0 1 (fun _ hd=>hd.1) rfl rfl<|oL 3 0 0 (fun _ hd=>hd.1) rfl rfl<|oS 3 hx2<|A1) fun a hF=>?_
 refine WRun.fin ?_
 refine all_cons ?_ (Aq)
 refine qR (fun a3=>[(5,a3)]) hF (Ho F _ _ hy4 (B0 w) w (A4 w)) ?_
 rintro a3 w a ⟨a5,a6,rfl,hQ⟩ hF
 replace hS:=hS.madeL hQ
 refine ⟨⟨St.pick [1] (by decide) hS,(hS.frz (i:=2) rfl hlow)⟩,?_⟩
 refine WT.z [] kr ?_
 refine WRun.fin ?_
 obtain ⟨aC,a8,h⟩:=A0 h
 refine SK.wi (rR (fun a4=>[(5,sv a5 y4 a6),(11,a4)]) hF (At F _ _ a8 (B0 w) w (A4 w)) ?_)
 rintro a4 w a ⟨a9,aA,rfl,hQ⟩ hF
 replace hS:=hS.madeL hQ
 obtain ⟨a2,a7,h⟩:=A0 h
 refine SK.wi (qP 22 22 1 (fun a0 a1=>[(12,sv a0 a2 a1)]) hF hS (hS.arr (i:=0) rfl) a7 rfl fun a0 a1 w a hF hS=>?_)
 refine rn 1 11 [(2,sv a0 a2 a1)] hF fun a hF=>wfn rfl ?_
 refine wpIn_ret (A7 [.tmp 2] [_] hF rfl ⟨rfl,trivial⟩ ?_)
 obtain rfl:=Ae h
 exact ⟨_,rfl,_,_,rfl,St.pick [1] (by decide) hS⟩
end Go.Proofs.YtifbomimeodibaaGreat
