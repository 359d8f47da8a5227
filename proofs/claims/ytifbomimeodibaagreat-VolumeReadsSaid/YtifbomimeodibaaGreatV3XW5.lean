import Derived.Test.YtifbomimeodibaaGreatV3XD
import Derived.Test.YtifbomimeodibaaGreatProg
import Derived.Test.YtifbomimeodibaaGreatV3XW0
import Derived.Test.YtifbomimeodibaaGreatV3XW1
import Derived.Test.YtifbomimeodibaaGreatV3XW2
import Derived.Test.YtifbomimeodibaaGreatV3XW3
import Derived.Test.YtifbomimeodibaaGreatV3XW4
namespace Go.Proofs.YtifbomimeodibaaGreat
open Go Go.RowKit Go.Eng
set_option maxRecDepth 10000
set_option maxHeartbeats 4000000
set_option linter.unusedVariables false
set_option linter.unusedSimpArgs false
theorem Cl (F:Nat) (p0:volume_reader) (res:Except (Value×volume_reader) (api_Span×volume_reader)) (h:Bn F p0=some res) (μ:Frz) (w0 w1:World) (T_:List Res) (hlow:Ay w0 μ) {cb0:Nat} {ad1:Option Addr} {cap2:Nat} (hA3:ArrM μ 1 (fK .u8) ad1 cap2 p0.b) (hS:St w0 (fz w0 μ::blk cb0 125 #[sv ad1 p0.b cap2]::T_) w1):Nl Tryz.prog 98 #[pb cb0] w1 res (fun r_ e w=>∃(ν_:Frz) (a4:Option Addr) (a6:Nat),μ.ext w0.heap.size ν_∧Ay w0 ν_∧e=(.agg #[iv r_.1.Lo,iv r_.1.Hi])∧(ArrM ν_ 1 (fK .u8) a4 a6 r_.2.b)∧St w0 (fz w0 ν_::blk cb0 125 #[sv a4 r_.2.b a6]::T_) w) (fun e_ w=>∃(ν_:Frz) (a5:Option Addr) (a7:Nat),μ.ext w0.heap.size ν_∧Ay w0 ν_∧(ArrM ν_ 1 (fK .u8) a5 a7 e_.b)∧St w0 (fz w0 ν_::blk cb0 125 #[sv a5 e_.b a7]::T_) w):=by
 rw [Bn] at h
 have hext:=Frz.ext_refl w0.heap.size μ
 refine Ah Tryz.func98 rfl 12 [(0,pb cb0)] rfl rfl kr fun a w hw hF=>?_
 replace hS:=hS.cast hw
 clear hw
 refine esr ?_
 refine SK.wi (qA 146 #[iv 0,iv 0] (fun b4=>[(2,pb b4)]) hF hS fun b4 w a hF hS=>?_)
 refine wfn rfl ?_
 refine esr ?_
 refine qn 1 1 [(4,pb cb0)] hF fun a hF=>?_
 obtain ⟨y5,hy5,h⟩:=A1 h
 replace hS:=hS.s2.s2
 refine Dp (fun a9=>[(0,pb cb0),(2,pb b4),(5,a9)]) hF kr ⟨kr⟩ (D9 F _ _ hy5 μ w0 w _ hlow hA3 hS) (fun _=>⟨kr⟩) ?_ ?_
 ·rintro e7 w he_ ⟨ν14,aB,aE,a8,hlow,aH,hS⟩
  replace h:=G6 h he_
  replace hext:=Frz.ext_trans hext a8
  replace hA3:=hA3.mono a8.1
  refine A6<|Az hF ?_
  obtain rfl:=Ao h
  replace hS:=hS.d2
  exact .inr ⟨_,rfl,rfl,ν14,aB,aE,hext,hlow,aH,hS⟩
 rintro y6 a9 w a he_ ⟨ν8,aM,aN,hx9,hlow,rfl,a0,hS⟩ hF
 replace h:=G7 h he_
 replace hext:=Frz.ext_trans hext hx9
 replace hA3:=hA3.mono hx9.1
 refine rn 1 3 [(0,pb cb0),(2,pb b4),(3,iv y6.1)] hF fun a hF=>?_
 refine wfn rfl ?_
 refine esr ?_
 refine qn 3 3 [(6,iv y6.1),(7,iv y6.1),(8,pb cb0)] hF fun a hF=>?_
 obtain ⟨aP,aL,h⟩:=A1 h
 refine Dp (fun aA=>[(2,pb b4),(6,iv y6.1),(7,iv y6.1),(9,aA)]) hF kr ⟨kr⟩ (An F _ _ aL ν8 w0 w _ hlow a0 hS) (fun _=>⟨kr⟩) ?_ ?_
 ·rintro aO w he_ ⟨ν28,aD,aG,a3,hlow,aJ,hS⟩
  replace h:=G6 h he_
  replace hext:=Frz.ext_trans hext a3
  replace hA3:=hA3.mono a3.1
  replace a0:=a0.mono a3.1
  refine A6<|Az hF ?_
  obtain rfl:=Ao h
  replace hS:=hS.d2
  exact .inr ⟨_,rfl,rfl,ν28,aD,aG,hext,hlow,aJ,hS⟩
 rintro aQ aA w a he_ ⟨ν22,aC,aF,a2,hlow,rfl,aI,hS⟩ hF
 replace h:=G7 h he_
 replace hext:=Frz.ext_trans hext a2
 replace hA3:=hA3.mono a2.1
 replace a0:=a0.mono a2.1
 obtain ⟨a1,aK,h⟩:=A1 h
 refine ro 2 6 [(2,pb b4),(11,.agg #[iv y6.1,iv a1])] hF (oA 3 aK<|A9) fun a hF=>?_
 refine SK.wi (qS 146 2 0 (.agg #[iv y6.1,iv a1]) #[iv y6.1,iv a1] hF hS rfl fun w a hF hS=>?_)
 refine wfn rfl ?_
 refine wpIn_ret (Ab [.cell 2 146] [.agg #[iv y6.1,iv a1]] hF rfl ⟨⟨_,rfl,De (cs:=[iv y6.1,iv a1]) kr ((hS.blk (i:=2) rfl).cells rfl)⟩,trivial⟩ ?_)
 obtain rfl:=Ao h
 replace hS:=hS.d2
 exact .inl ⟨_,_,rfl,rfl,ν22,aC,aF,hext,hlow,rfl,aI,hS⟩
theorem Ts (F:Nat) (p0:(List Int)) (res:Bool) (h:Ln F p0=some res) (μ:Frz) (w0:World) (hm:FrzAt μ w0) {ad1:Option Addr} {cap2:Nat} (hA3:ArrM μ 1 (fK .u8) ad1 cap2 p0):Calls Tryz.prog 37 #[sv ad1 p0 cap2] w0 (fun e w=>e=.returned (.bool res)∧Ext w0 w):=by
 obtain ⟨hlow,hS⟩:=hm.init
 have hext:=Frz.ext_refl w0.heap.size μ
 rw [Ln] at h
 refine Ah Tryz.func37 rfl 47 [(0,sv ad1 p0 cap2)] rfl rfl kr fun a w hw hF=>?_
 replace hS:=hS.cast hw
 clear hw
 refine qnB [] hF fun a hF=>?_
 refine qnB [(3,.bool true)] hF fun a hF=>?_
 refine Dg (fun a w=>∃(a5:Bool),Fr 47 [] [(0,sv ad1 p0 cap2),(3,.bool a5)] a∧St w0 [fz w0 μ] w∧Ja F p0 a5=some res) ?_ ?_
 ·skip
  refine qnB [(9,sv ad1 p0 cap2),(10,iv (ln p0)),(11,iv 0)] hF fun a hF=>?_
  refine wpIn_block ?_
  refine Cq (fun n_ a w=>∃(a4:Int) (a2:Bool),Fr 47 [] [(0,sv ad1 p0 cap2),(3,.bool a2),(9,sv ad1 p0 cap2),(10,iv (ln p0)),(11,iv a4)] a∧St w0 [fz w0 μ] w∧H0 F p0 n_ a4 a2=some res) F ⟨0,true,hF.sub kr,St.pick [0] (by decide) hS,h⟩ ?_
  rintro nk2 a w ⟨a4,a2,hF,hS,h⟩
  rcases nk2 with _|nk2
  ·cases (show (none:Option Bool)=some res from h)
  obtain ⟨k2,hk2⟩:∃k,k=H0 F p0 nk2:=⟨_,rfl⟩
  replace h:Kh F p0 k2 a4 a2=some res:=by rw [hk2];exact h
  rw [Kh] at h
  refine qnB [(12,.bool (decide (a4<(ln p0))))] hF fun a hF=>?_
  refine Ar ?_
  refine Ai hF rfl (fun hc=>?_) (fun hc=>?_)
  ·replace h:=Ag h hc
   refine wpIn_skip (A0 ?_)
   refine Ar ?_
   refine wpIn_block ?_
   refine esr ?_
   obtain ⟨a3,a9,h⟩:=A1 h
   refine qo 3 3 [(5,.int .u8 a3)] hF (oI 22 (hA3 _ (hS.frz (i:=0) rfl hlow)) a9<|oE 5 0 (Bc .u8) (fun _ hd=>(hA3 _ ((hS.at_ hd).frz (i:=0) rfl hlow))) a9 rfl<|A9) fun a hF=>?_
   refine wfn rfl ?_
   refine WI.region ?_
   refine rn 10 10 [(0,sv ad1 p0 cap2),(3,.bool (bif (bif a2 then (decide (a3≥128)) else false) then (decide (a3≤254)) else false)),(9,sv ad1 p0 cap2),(10,iv (ln p0)),(11,iv a4)] hF fun a hF=>?_
   refine WI.fin rfl (Aa<|A0<|?_)
   refine WI.region ?_
   obtain ⟨aC,aG,h⟩:=A1 h
   refine ro 2 2 [(0,sv ad1 p0 cap2),(3,.bool (bif (bif a2 then (decide (a3≥128)) else false) then (decide (a3≤254)) else false)),(9,sv ad1 p0 cap2),(10,iv (ln p0)),(11,iv aC)] hF (oA 3 aG<|A9) fun a hF=>?_
   refine wfn rfl ?_
   rw [hk2] at h
   exact ⟨nk2,Nat.lt_succ_self _,aC,bif (bif a2 then (decide (a3≥128)) else false) then (decide (a3≤254)) else false,hF.sub kr,St.pick [0] (by decide) hS,h⟩
  ·replace h:=Af h hc
   refine wpIn_exit (A7<|A7<|Av<|A0 ?_)
   exact ⟨a2,hF.sub kr,St.pick [0] (by decide) hS,h⟩
 rintro a w ⟨a5,hF,hS,h⟩
 rw [Ja] at h
 refine esr ?_
 refine qn 2 2 [(26,.agg #[sv ad1 p0 cap2])] hF fun a hF=>?_
 refine SK.wi (qB 125 (.agg #[sv ad1 p0 cap2]) #[sv ad1 p0 cap2] (fun a1=>[(27,pb a1)]) hF hS fun a1 w a hF hS=>?_)
 refine qn 1 4 [(6,pb a1)] hF fun a hF=>?_
 refine wfn rfl ?_
 refine esr ?_
 refine qn 1 1 [(29,pb a1)] hF fun a hF=>?_
 obtain ⟨a0,aH,h⟩:=A1 h
 replace hS:=hS.s1
 refine SK.wi (qR (fun aB=>[(30,aB)]) hF (Jm F _ _ aH μ w0 w _ hlow hA3 hS) ?_)
 rintro aB w a ⟨ν18,aD,aE,aA,hlow,rfl,aI,hS⟩ hF
 replace hext:=Frz.ext_trans hext aA
 replace hA3:=hA3.mono aA.1
 refine qn 5 7 [(7,iv a0.1),(8,.bool a0.2.1)] hF fun a hF=>?_
 refine wfn rfl ?_
 refine esr ?_
 refine rn 2 2 [(6,pb a1),(7,iv a0.1),(8,.bool a0.2.1),(34,.bool a5)] hF fun a hF=>?_
 rcases Bool.eq_false_or_eq_true (a5) with a6|a6
 ·replace h:=Ag h a6
  rw [a6] at hF
  refine Be 3 [(6,pb a1),(7,iv a0.1),(34,.bool true),(35,undef)] hF kr ⟨kr⟩ ⟨kr⟩ rfl fun a hF=>?_
  refine Be 4 [(6,pb a1),(7,iv a0.1),(34,.bool true),(36,undef)] hF kr ⟨kr⟩ ⟨kr⟩ rfl fun a hF=>?_
  refine Jh 5 [(7,iv a0.1),(34,.bool true),(36,undef),(37,undef)] hF kr ⟨kr⟩ ⟨kr⟩ rfl fun a hF=>?_
  refine Jh 6 [(7,iv a0.1),(34,.bool true),(36,undef),(38,undef)] hF kr ⟨kr⟩ ⟨kr⟩ rfl fun a hF=>?_
  refine Jh 7 [(7,iv a0.1),(34,.bool true),(36,undef),(39,undef)] hF kr ⟨kr⟩ ⟨kr⟩ rfl fun a hF=>?_
  refine Jh 8 [(7,iv a0.1),(34,.bool true),(36,undef),(40,undef)] hF kr ⟨kr⟩ ⟨kr⟩ rfl fun a hF=>?_
  refine Jh 9 [(7,iv a0.1),(34,.bool true),(36,undef),(41,undef)] hF kr ⟨kr⟩ ⟨kr⟩ rfl fun a hF=>?_
  refine Jh 10 [(34,.bool true),(36,undef),(41,undef),(42,undef)] hF kr ⟨kr⟩ ⟨kr⟩ rfl fun a hF=>?_
  refine Jh 11 [(34,.bool true),(36,undef),(41,undef),(43,undef)] hF kr ⟨kr⟩ ⟨kr⟩ rfl fun a hF=>?_
  refine Jh 12 [(34,.bool true),(36,undef),(44,undef)] hF kr ⟨kr⟩ ⟨kr⟩ rfl fun a hF=>?_
  refine Be 13 [(34,.bool true),(45,undef)] hF kr ⟨kr⟩ ⟨kr⟩ rfl fun a hF=>?_
  refine rn 2 15 [(2,.bool true)] hF fun a hF=>?_
  refine wfn rfl ?_
  refine wpIn_ret (Ab [.tmp 2] [.bool true] hF rfl ⟨rfl,trivial⟩ ?_)
  obtain rfl:=Ao h
  exact ⟨rfl,hS.ext⟩
 ·replace h:=Af h a6
  rw [a6] at hF
  refine Zt (n:=2) (obs:=[]) 4 [(6,⟨[],pb a1⟩),(7,⟨[],iv a0.1⟩),(34,⟨[],.bool false⟩),(36,⟨[⟨34,false,false⟩],.bool a0.2.1⟩)] hF kr A9 ⟨kr⟩ kr rfl fun a hF=>?_
  replace hF:Fr 47 [] [(6,pb a1),(7,iv a0.1),(34,.bool false),(36,.bool a0.2.1)] a:=hF
  rcases Bool.eq_false_or_eq_true (a0.2.1) with a7|a7
  ·replace h:=Ag h a7
   rw [a7] at hF
   obtain ⟨a8,aF,h⟩:=A1 h
   refine ro 11 15 [(2,.bool (decide ((ln a0.2.2.b)<a8)))] hF (oX (.run [⟨36,true,true⟩] (Instr.loadAt 22 (pb a1)) (sv aD a0.2.2.b aE)) (ob1 kr (fun _ hd=>(hS.at_ hd).cell (i:=1) (j:=0) rfl rfl))<|oX (.run [⟨36,true,true⟩] (binOp .add 3 (iv a0.1) (iv 5)) (iv a8)) (Px (fun _=>aF))<|A9) fun a hF=>?_
   refine wfn rfl ?_
   refine wpIn_ret (Ab [.tmp 2] [.bool (decide ((ln a0.2.2.b)<a8))] hF rfl ⟨rfl,trivial⟩ ?_)
   obtain rfl:=Ao h
   exact ⟨rfl,hS.ext⟩
  ·replace h:=Af h a7
   rw [a7] at hF
   refine Be 5 [(7,iv a0.1),(34,.bool false),(36,.bool false),(37,undef)] hF kr ⟨kr⟩ ⟨kr⟩ rfl fun a hF=>?_
   refine Be 6 [(7,iv a0.1),(34,.bool false),(36,.bool false),(38,undef)] hF kr ⟨kr⟩ ⟨kr⟩ rfl fun a hF=>?_
   refine Be 7 [(7,iv a0.1),(34,.bool false),(36,.bool false),(39,undef)] hF kr ⟨kr⟩ ⟨kr⟩ rfl fun a hF=>?_
   refine Be 8 [(7,iv a0.1),(34,.bool false),(36,.bool false),(40,undef)] hF kr ⟨kr⟩ ⟨kr⟩ rfl fun a hF=>?_
   refine Be 9 [(7,iv a0.1),(34,.bool false),(36,.bool false),(41,undef)] hF kr ⟨kr⟩ ⟨kr⟩ rfl fun a hF=>?_
   refine Be 10 [(34,.bool false),(36,.bool false),(41,undef),(42,undef)] hF kr ⟨kr⟩ ⟨kr⟩ rfl fun a hF=>?_
   refine Be 11 [(34,.bool false),(36,.bool false),(41,undef),(43,undef)] hF kr ⟨kr⟩ ⟨kr⟩ rfl fun a hF=>?_
   refine Be 12 [(34,.bool false),(36,.bool false),(44,undef)] hF kr ⟨kr⟩ ⟨kr⟩ rfl fun a hF=>?_
   refine rn 3 15 [(2,.bool false)] hF fun a hF=>?_
   refine wfn rfl ?_
   refine wpIn_ret (Ab [.tmp 2] [.bool false] hF rfl ⟨rfl,trivial⟩ ?_)
   obtain rfl:=Ao h
   exact ⟨rfl,hS.ext⟩
theorem R8 (F:Nat) (p0:api_Echo) (res:Int) (h:Hf F p0=some res) (μ:Frz) (w0:World) (hm:FrzAt μ w0):Calls Tryz.prog 80 #[p0.ag] w0 (fun e w=>e=.returned (iv res)∧Ext w0 w):=by
 obtain ⟨hlow,hS⟩:=hm.init
 have hext:=Frz.ext_refl w0.heap.size μ
 rw [Hf] at h
 refine Ah Tryz.func80 rfl 129 [(0,p0.ag)] rfl rfl kr fun a w hw hF=>?_
 replace hS:=hS.cast hw
 clear hw
 refine esr ?_
 refine SK.wi (Ld (t:=149) (fun b1=>[(1,pb b1)]) (p0.ag) p0.ar hF hS kr ⟨kr⟩ kr (fun _=>⟨kr⟩) fun b1 w a hF hS=>?_)
 refine rn 1 2 [(1,pb b1)] hF fun a hF=>?_
 refine wfn rfl ?_
 refine Ar ?_
 refine qoB [(17,.bool (bif (bif (p0.Kind != 1) then (p0.Kind != 2) else false) then (p0.Kind != 3) else false))] hF (oL 3 0 0 hS.i rfl rfl<|oX (.run [⟨8,true,(p0.Kind != 1)⟩] (Instr.loadAt 3 (pb b1)) (iv p0.Kind)) (ob1 kr (fun _ hd=>(hS.at_ hd).cell (i:=0) (j:=0) rfl rfl))<|oX (.run [⟨13,true,(bif (p0.Kind != 1) then (p0.Kind != 2) else false)⟩] (Instr.loadAt 3 (pb b1)) (iv p0.Kind)) (ob1 kr (fun _ hd=>(hS.at_ hd).cell (i:=0) (j:=0) rfl rfl))<|A9) fun a hF=>?_
 refine Ai hF rfl (fun hc=>?_) (fun hc=>?_)
 ·replace h:=Ag h hc
  refine rnB [(2,iv 2)] hF fun a hF=>?_
  refine wpIn_ret (A5<|Ab [.tmp 2] [iv 2] hF rfl ⟨rfl,trivial⟩ ?_)
  obtain rfl:=Ao h
  exact ⟨rfl,hS.ext⟩
 ·replace h:=Af h hc
  refine wpIn_skip (A0 ?_)
  refine Ar ?_
  refine esr ?_
  refine qx 4 4 [(21,.bool (!(Bm p0.Power 0 1073741824)))] hF (oN 146 0 1 2 hS.e rfl<|oC (fun w2 hd=>Ka p0.Power 0 1073741824 _ rfl _ w2 (Ae w2))<|A9) fun a w hF hx=>?_
  replace hS:=hS.later hx
  refine wfn rfl ?_
  refine Ai hF rfl (fun hc=>?_) (fun hc=>?_)
  ·replace h:=Ag h hc
   refine rnB [(2,iv 3)] hF fun a hF=>?_
   refine wpIn_ret (A5<|Ab [.tmp 2] [iv 3] hF rfl ⟨rfl,trivial⟩ ?_)
   obtain rfl:=Ao h
   exact ⟨rfl,hS.ext⟩
  ·replace h:=Af h hc
   refine wpIn_skip (A0 ?_)
   refine Ar ?_
   refine qoB [(24,.bool (p0.Kind==1))] hF (oL 3 0 0 hS.i rfl rfl<|A9) fun a hF=>?_
   refine Ai hF rfl (fun hc=>?_) (fun hc=>?_)
   ·replace h:=Ag h hc
    refine esr ?_
    refine qn 1 1 [(25,.agg #[iv 0,iv 0])] hF fun a hF=>?_
    refine SK.wi (qA 146 #[iv 0,iv 0] (fun b2=>[(3,pb b2)]) hF hS fun b2 w a hF hS=>?_)
    refine SK.wi (qS 146 0 0 (.agg #[iv 0,iv 0]) #[iv 0,iv 0] hF hS rfl fun w a hF hS=>?_)
    refine wfn rfl ?_
    refine Ar ?_
    refine roB [(66,.bool (bif (bif (bif (bif (bif (bif (p0.Power.Lo != 0) then true else (!(((p0.Steps.1.Lo:Int)==0)&&(((p0.Steps.1.Hi:Int)==0)&&true)))) then true else (!(((p0.Steps.2.Lo:Int)==0)&&(((p0.Steps.2.Hi:Int)==0)&&true)))) then true else (p0.Spread != 0)) then true else (!(((p0.Ratio.Lo:Int)==0)&&(((p0.Ratio.Hi:Int)==0)&&true)))) then true else (!(((p0.Match.Lo:Int)==0)&&(((p0.Match.Hi:Int)==0)&&true)))) then true else (!(((p0.Turn.Lo:Int)==0)&&(((p0.Turn.Hi:Int)==0)&&true)))))] hF (oL 3 1 1 hS.i rfl rfl<|oX (.run [⟨30,false,(p0.Power.Lo != 0)⟩] (Instr.indexAt 147 (.pointer (some ⟨b1,3,none⟩)) (iv 0)) (.pointer (some ⟨b1,3,none⟩))) (Bs kr)<|oX (.run [⟨30,false,(p0.Power.Lo != 0)⟩] (Instr.loadAt 146 (.pointer (some ⟨b1,3,none⟩))) (.agg #[iv p0.Steps.1.Lo,iv p0.Steps.1.Hi])) (obN (us:=[iv p0.Steps.1.Lo,iv p0.Steps.1.Hi]) kr (fun _ hd=>((hS.at_ hd).blk (i:=1) rfl).cells rfl))<|oX (.run [⟨30,false,(p0.Power.Lo != 0)⟩] (Instr.loadAt 146 (pb b2)) (.agg #[iv 0,iv 0])) (obN (us:=[iv 0,iv 0]) kr (fun _ hd=>((hS.at_ hd).blk (i:=0) rfl).cells rfl))<|oX (.run [⟨30,false,(p0.Power.Lo != 0)⟩] (eqS .neq 146 #[iv p0.Steps.1.Lo,iv p0.Steps.1.Hi] #[iv 0,iv 0]) (.bool (!(((p0.Steps.1.Lo:Int)==0)&&(((p0.Steps.1.Hi:Int)==0)&&true))))) (Pc kr kr)<|oX (.run [⟨37,false,(bif (p0.Power.Lo != 0) then true else (!(((p0.Steps.1.Lo:Int)==0)&&(((p0.Steps.1.Hi:Int)==0)&&true))))⟩] (Instr.indexAt 147 (.pointer (some ⟨b1,3,none⟩)) (iv 1)) (.pointer (some ⟨b1,5,none⟩))) (Bs kr)<|oX (.run [⟨37,false,(bif (p0.Power.Lo != 0) then true else (!(((p0.Steps.1.Lo:Int)==0)&&(((p0.Steps.1.Hi:Int)==0)&&true))))⟩] (Instr.loadAt 146 (.pointer (some ⟨b1,5,none⟩))) (.agg #[iv p0.Steps.2.Lo,iv p0.Steps.2.Hi])) (obN (us:=[iv p0.Steps.2.Lo,iv p0.Steps.2.Hi]) kr (fun _ hd=>((hS.at_ hd).blk (i:=1) rfl).cells rfl))<|oX (.run [⟨37,false,(bif (p0.Power.Lo != 0) then true else (!(((p0.Steps.1.Lo:Int)==0)&&(((p0.Steps.1.Hi:Int)==0)&&true))))⟩] (Instr.loadAt 146 (pb b2)) (.agg #[iv 0,iv 0])) (obN (us:=[iv 0,iv 0]) kr (fun _ hd=>((hS.at_ hd).blk (i:=0) rfl).cells rfl))<|oX (.run [⟨37,false,(bif (p0.Power.Lo != 0) then true else (!(((p0.Steps.1.Lo:Int)==0)&&(((p0.Steps.1.Hi:Int)==0)&&true))))⟩] (eqS .neq 146 #[iv p0.Steps.2.Lo,iv p0.Steps.2.Hi] #[iv 0,iv 0]) (.bool (!(((p0.Steps.2.Lo:Int)==0)&&(((p0.Steps.2.Hi:Int)==0)&&true))))) (Pc kr kr)<|oX (.run [⟨44,false,(bif (bif (p0.Power.Lo != 0) then true else (!(((p0.Steps.1.Lo:Int)==0)&&(((p0.Steps.1.Hi:Int)==0)&&true)))) then true else (!(((p0.Steps.2.Lo:Int)==0)&&(((p0.Steps.2.Hi:Int)==0)&&true))))⟩] (Instr.loadAt 3 (.pointer (some ⟨b1,7,none⟩))) (iv p0.Spread)) (ob1 kr (fun _ hd=>(hS.at_ hd).cell (i:=1) (j:=7) rfl rfl))<|oX (.run [⟨49,false,(bif (bif (bif (p0.Power.Lo != 0) then true else (!(((p0.Steps.1.Lo:Int)==0)&&(((p0.Steps.1.Hi:Int)==0)&&true)))) then true else (!(((p0.Steps.2.Lo:Int)==0)&&(((p0.Steps.2.Hi:Int)==0)&&true)))) then true else (p0.Spread != 0))⟩] (Instr.loadAt 146 (.pointer (some ⟨b1,8,none⟩))) (.agg #[iv p0.Ratio.Lo,iv p0.Ratio.Hi])) (obN (us:=[iv p0.Ratio.Lo,iv p0.Ratio.Hi]) kr (fun _ hd=>((hS.at_ hd).blk (i:=1) rfl).cells rfl))<|oX (.run [⟨49,false,(bif (bif (bif (p0.Power.Lo != 0) then true else (!(((p0.Steps.1.Lo:Int)==0)&&(((p0.Steps.1.Hi:Int)==0)&&true)))) then true else (!(((p0.Steps.2.Lo:Int)==0)&&(((p0.Steps.2.Hi:Int)==0)&&true)))) then true else (p0.Spread != 0))⟩] (Instr.loadAt 146 (pb b2)) (.agg #[iv 0,iv 0])) (obN (us:=[iv 0,iv 0]) kr (fun _ hd=>((hS.at_ hd).blk (i:=0) rfl).cells rfl))<|oX (.run [⟨49,false,(bif (bif (bif (p0.Power.Lo != 0) then true else (!(((p0.Steps.1.Lo:Int)==0)&&(((p0.Steps.1.Hi:Int)==0)&&true)))) then true else (!(((p0.Steps.2.Lo:Int)==0)&&(((p0.Steps.2.Hi:Int)==0)&&true)))) then true else (p0.Spread != 0))⟩] (eqS .neq 146 #[iv p0.Ratio.Lo,iv p0.Ratio.Hi] #[iv 0,iv 0]) (.bool (!(((p0.Ratio.Lo:Int)==0)&&(((p0.Ratio.Hi:Int)==0)&&true))))) (Pc kr kr)<|oX (.run [⟨55,false,(bif (bif (bif (bif (p0.Power.Lo != 0) then true else (!(((p0.Steps.1.Lo:Int)==0)&&(((p0.Steps.1.Hi:Int)==0)&&true)))) then true else (!(((p0.Steps.2.Lo:Int)==0)&&(((p0.Steps.2.Hi:Int)==0)&&true)))) then true else (p0.Spread != 0)) then true else (!(((p0.Ratio.Lo:Int)==0)&&(((p0.Ratio.Hi:Int)==0)&&true))))⟩] (Instr.loadAt 146 (.pointer (some ⟨b1,10,none⟩))) (.agg #[iv p0.Match.Lo,iv p0.Match.Hi])) (obN (us:=[iv p0.Match.Lo,iv p0.Match.Hi]) kr (fun _ hd=>((hS.at_ hd).blk (i:=1) rfl).cells rfl))<|oX (.run [⟨55,false,(bif (bif (bif (bif (p0.Power.Lo != 0) then true else (!(((p0.Steps.1.Lo:Int)==0)&&(((p0.Steps.1.Hi:Int)==0)&&true)))) then true else (!(((p0.Steps.2.Lo:Int)==0)&&(((p0.Steps.2.Hi:Int)==0)&&true)))) then true else (p0.Spread != 0)) then true else (!(((p0.Ratio.Lo:Int)==0)&&(((p0.Ratio.Hi:Int)==0)&&true))))⟩] (Instr.loadAt 146 (pb b2)) (.agg #[iv 0,iv 0])) (obN (us:=[iv 0,iv 0]) kr (fun _ hd=>((hS.at_ hd).blk (i:=0) rfl).cells rfl))<|oX (.run [⟨55,false,(bif (bif (bif (bif (p0.Power.Lo != 0) then true else (!(((p0.Steps.1.Lo:Int)==0)&&(((p0.Steps.1.Hi:Int)==0)&&true)))) then true else (!(((p0.Steps.2.Lo:Int)==0)&&(((p0.Steps.2.Hi:Int)==0)&&true)))) then true else (p0.Spread != 0)) then true else (!(((p0.Ratio.Lo:Int)==0)&&(((p0.Ratio.Hi:Int)==0)&&true))))⟩] (eqS .neq 146 #[iv p0.Match.Lo,iv p0.Match.Hi] #[iv 0,iv 0]) (.bool (!(((p0.Match.Lo:Int)==0)&&(((p0.Match.Hi:Int)==0)&&true))))) (Pc kr kr)<|oX (.run [⟨61,false,(bif (bif (bif (bif (bif (p0.Power.Lo != 0) then true else (!(((p0.Steps.1.Lo:Int)==0)&&(((p0.Steps.1.Hi:Int)==0)&&true)))) then true else (!(((p0.Steps.2.Lo:Int)==0)&&(((p0.Steps.2.Hi:Int)==0)&&true)))) then true else (p0.Spread != 0)) then true else (!(((p0.Ratio.Lo:Int)==0)&&(((p0.Ratio.Hi:Int)==0)&&true)))) then true else (!(((p0.Match.Lo:Int)==0)&&(((p0.Match.Hi:Int)==0)&&true))))⟩] (Instr.loadAt 146 (.pointer (some ⟨b1,12,none⟩))) (.agg #[iv p0.Turn.Lo,iv p0.Turn.Hi])) (obN (us:=[iv p0.Turn.Lo,iv p0.Turn.Hi]) kr (fun _ hd=>((hS.at_ hd).blk (i:=1) rfl).cells rfl))<|oX (.run [⟨61,false,(bif (bif (bif (bif (bif (p0.Power.Lo != 0) then true else (!(((p0.Steps.1.Lo:Int)==0)&&(((p0.Steps.1.Hi:Int)==0)&&true)))) then true else (!(((p0.Steps.2.Lo:Int)==0)&&(((p0.Steps.2.Hi:Int)==0)&&true)))) then true else (p0.Spread != 0)) then true else (!(((p0.Ratio.Lo:Int)==0)&&(((p0.Ratio.Hi:Int)==0)&&true)))) then true else (!(((p0.Match.Lo:Int)==0)&&(((p0.Match.Hi:Int)==0)&&true))))⟩] (Instr.loadAt 146 (pb b2)) (.agg #[iv 0,iv 0])) (obN (us:=[iv 0,iv 0]) kr (fun _ hd=>((hS.at_ hd).blk (i:=0) rfl).cells rfl))<|oX (.run [⟨61,false,(bif (bif (bif (bif (bif (p0.Power.Lo != 0) then true else (!(((p0.Steps.1.Lo:Int)==0)&&(((p0.Steps.1.Hi:Int)==0)&&true)))) then true else (!(((p0.Steps.2.Lo:Int)==0)&&(((p0.Steps.2.Hi:Int)==0)&&true)))) then true else (p0.Spread != 0)) then true else (!(((p0.Ratio.Lo:Int)==0)&&(((p0.Ratio.Hi:Int)==0)&&true)))) then true else (!(((p0.Match.Lo:Int)==0)&&(((p0.Match.Hi:Int)==0)&&true))))⟩] (eqS .neq 146 #[iv p0.Turn.Lo,iv p0.Turn.Hi] #[iv 0,iv 0]) (.bool (!(((p0.Turn.Lo:Int)==0)&&(((p0.Turn.Hi:Int)==0)&&true))))) (Pc kr kr)<|A9) fun a hF=>?_
    refine Ai hF rfl (fun hc=>?_) (fun hc=>?_)
    ·replace h:=Ag h hc
     refine rnB [(2,iv 3)] hF fun a hF=>?_
     refine wpIn_ret (A5<|A5<|Ab [.tmp 2] [iv 3] hF rfl ⟨rfl,trivial⟩ ?_)
     obtain rfl:=Ao h
     exact ⟨rfl,hS.ext⟩
    ·replace h:=Af h hc
     refine wpIn_skip (A0 ?_)
     refine rnB [(2,iv 0)] hF fun a hF=>?_
     refine wpIn_ret (A5<|Ab [.tmp 2] [iv 0] hF rfl ⟨rfl,trivial⟩ ?_)
     obtain rfl:=Ao h
     exact ⟨rfl,hS.ext⟩
   ·replace h:=Af h hc
    refine wpIn_skip (A0 ?_)
    refine Ar ?_
    refine esr ?_
    refine qx 22 22 [(88,.bool (bif (bif (bif (decide (p0.Power.Lo<1)) then true else (!(Bm p0.Ratio 0 1000000))) then true else (!(Bm p0.Match 0 1000))) then true else (!(A8 p0.Spread 0 65535))))] hF (oL 3 0 1 hS.e rfl rfl<|oX (.run [⟨71,false,(decide (p0.Power.Lo<1))⟩] (Instr.loadAt 146 (.pointer (some ⟨b1,8,none⟩))) (.agg #[iv p0.Ratio.Lo,iv p0.Ratio.Hi])) (obN (us:=[iv p0.Ratio.Lo,iv p0.Ratio.Hi]) kr (fun _ hd=>((hS.later hd).blk (i:=0) rfl).cells rfl))<|oX (.call [⟨71,false,(decide (p0.Power.Lo<1))⟩] 109 #[.agg #[iv p0.Ratio.Lo,iv p0.Ratio.Hi],iv 0,iv 1000000] (.bool (Bm p0.Ratio 0 1000000))) (show Ob.ok _ Ext _ _ from fun hk w2 hd=>Ka p0.Ratio 0 1000000 _ rfl _ w2 (Ae w2))<|oX (.run [⟨77,false,(bif (decide (p0.Power.Lo<1)) then true else (!(Bm p0.Ratio 0 1000000)))⟩] (Instr.loadAt 146 (.pointer (some ⟨b1,10,none⟩))) (.agg #[iv p0.Match.Lo,iv p0.Match.Hi])) (obN (us:=[iv p0.Match.Lo,iv p0.Match.Hi]) kr (fun _ hd=>((hS.later hd).blk (i:=0) rfl).cells rfl))<|oX (.call [⟨77,false,(bif (decide (p0.Power.Lo<1)) then true else (!(Bm p0.Ratio 0 1000000)))⟩] 109 #[.agg #[iv p0.Match.Lo,iv p0.Match.Hi],iv 0,iv 1000] (.bool (Bm p0.Match 0 1000))) (show Ob.ok _ Ext _ _ from fun hk w2 hd=>Ka p0.Match 0 1000 _ rfl _ w2 (Ae w2))<|oX (.run [⟨83,false,(bif (bif (decide (p0.Power.Lo<1)) then true else (!(Bm p0.Ratio 0 1000000))) then true else (!(Bm p0.Match 0 1000)))⟩] (Instr.loadAt 3 (.pointer (some ⟨b1,7,none⟩))) (iv p0.Spread)) (ob1 kr (fun _ hd=>(hS.later hd).cell (i:=0) (j:=7) rfl rfl))<|oX (.call [⟨83,false,(bif (bif (decide (p0.Power.Lo<1)) then true else (!(Bm p0.Ratio 0 1000000))) then true else (!(Bm p0.Match 0 1000)))⟩] 46 #[iv p0.Spread,iv 0,iv 65535] (.bool (A8 p0.Spread 0 65535))) (show Ob.ok _ Ext _ _ from fun hk w2 hd=>Ca p0.Spread 0 65535 _ rfl _ w2 (Ae w2))<|A9) fun a w hF hx=>?_
    replace hS:=hS.later hx
    refine wfn rfl ?_
    refine Ai hF rfl (fun hc=>?_) (fun hc=>?_)
    ·replace h:=Ag h hc
     refine rnB [(2,iv 3)] hF fun a hF=>?_
     refine wpIn_ret (A5<|Ab [.tmp 2] [iv 3] hF rfl ⟨rfl,trivial⟩ ?_)
     obtain rfl:=Ao h
     exact ⟨rfl,hS.ext⟩
    ·replace h:=Af h hc
     refine wpIn_skip (A0 ?_)
     refine Ar ?_
     refine qoB [(91,.bool (p0.Kind==2))] hF (oL 3 0 0 hS.i rfl rfl<|A9) fun a hF=>?_
     refine Ai hF rfl (fun hc=>?_) (fun hc=>?_)
     ·replace h:=Ag h hc
      refine esr ?_
      refine qn 1 1 [(92,.agg #[iv 0,iv 0])] hF fun a hF=>?_
      refine SK.wi (qA 146 #[iv 0,iv 0] (fun b3=>[(4,pb b3)]) hF hS fun b3 w a hF hS=>?_)
      refine SK.wi (qS 146 0 0 (.agg #[iv 0,iv 0]) #[iv 0,iv 0] hF hS rfl fun w a hF hS=>?_)
      refine wfn rfl ?_
      refine Ar ?_
      refine roB [(110,.bool (bif (bif (!(((p0.Steps.1.Lo:Int)==0)&&(((p0.Steps.1.Hi:Int)==0)&&true))) then true else (!(((p0.Steps.2.Lo:Int)==0)&&(((p0.Steps.2.Hi:Int)==0)&&true)))) then true else (!(((p0.Turn.Lo:Int)==0)&&(((p0.Turn.Hi:Int)==0)&&true)))))] hF (oX (.run [] (Instr.indexAt 147 (.pointer (some ⟨b1,3,none⟩)) (iv 0)) (.pointer (some ⟨b1,3,none⟩))) (Bs kr)<|oN 146 1 3 2 hS.i rfl<|oN 146 0 0 2 hS.i rfl<|oX (.run [] (eqS .neq 146 #[iv p0.Steps.1.Lo,iv p0.Steps.1.Hi] #[iv 0,iv 0]) (.bool (!(((p0.Steps.1.Lo:Int)==0)&&(((p0.Steps.1.Hi:Int)==0)&&true))))) (Pc kr kr)<|oX (.run [⟨98,false,(!(((p0.Steps.1.Lo:Int)==0)&&(((p0.Steps.1.Hi:Int)==0)&&true)))⟩] (Instr.indexAt 147 (.pointer (some ⟨b1,3,none⟩)) (iv 1)) (.pointer (some ⟨b1,5,none⟩))) (Bs kr)<|oX (.run [⟨98,false,(!(((p0.Steps.1.Lo:Int)==0)&&(((p0.Steps.1.Hi:Int)==0)&&true)))⟩] (Instr.loadAt 146 (.pointer (some ⟨b1,5,none⟩))) (.agg #[iv p0.Steps.2.Lo,iv p0.Steps.2.Hi])) (obN (us:=[iv p0.Steps.2.Lo,iv p0.Steps.2.Hi]) kr (fun _ hd=>((hS.at_ hd).blk (i:=1) rfl).cells rfl))<|oX (.run [⟨98,false,(!(((p0.Steps.1.Lo:Int)==0)&&(((p0.Steps.1.Hi:Int)==0)&&true)))⟩] (Instr.loadAt 146 (pb b3)) (.agg #[iv 0,iv 0])) (obN (us:=[iv 0,iv 0]) kr (fun _ hd=>((hS.at_ hd).blk (i:=0) rfl).cells rfl))<|oX (.run [⟨98,false,(!(((p0.Steps.1.Lo:Int)==0)&&(((p0.Steps.1.Hi:Int)==0)&&true)))⟩] (eqS .neq 146 #[iv p0.Steps.2.Lo,iv p0.Steps.2.Hi] #[iv 0,iv 0]) (.bool (!(((p0.Steps.2.Lo:Int)==0)&&(((p0.Steps.2.Hi:Int)==0)&&true))))) (Pc kr kr)<|oX (.run [⟨105,false,(bif (!(((p0.Steps.1.Lo:Int)==0)&&(((p0.Steps.1.Hi:Int)==0)&&true))) then true else (!(((p0.Steps.2.Lo:Int)==0)&&(((p0.Steps.2.Hi:Int)==0)&&true))))⟩] (Instr.loadAt 146 (.pointer (some ⟨b1,12,none⟩))) (.agg #[iv p0.Turn.Lo,iv p0.Turn.Hi])) (obN (us:=[iv p0.Turn.Lo,iv p0.Turn.Hi]) kr (fun _ hd=>((hS.at_ hd).blk (i:=1) rfl).cells rfl))<|oX (.run [⟨105,false,(bif (!(((p0.Steps.1.Lo:Int)==0)&&(((p0.Steps.1.Hi:Int)==0)&&true))) then true else (!(((p0.Steps.2.Lo:Int)==0)&&(((p0.Steps.2.Hi:Int)==0)&&true))))⟩] (Instr.loadAt 146 (pb b3)) (.agg #[iv 0,iv 0])) (obN (us:=[iv 0,iv 0]) kr (fun _ hd=>((hS.at_ hd).blk (i:=0) rfl).cells rfl))<|oX (.run [⟨105,false,(bif (!(((p0.Steps.1.Lo:Int)==0)&&(((p0.Steps.1.Hi:Int)==0)&&true))) then true else (!(((p0.Steps.2.Lo:Int)==0)&&(((p0.Steps.2.Hi:Int)==0)&&true))))⟩] (eqS .neq 146 #[iv p0.Turn.Lo,iv p0.Turn.Hi] #[iv 0,iv 0]) (.bool (!(((p0.Turn.Lo:Int)==0)&&(((p0.Turn.Hi:Int)==0)&&true))))) (Pc kr kr)<|A9) fun a hF=>?_
      refine Ai hF rfl (fun hc=>?_) (fun hc=>?_)
      ·replace h:=Ag h hc
       refine rnB [(2,iv 3)] hF fun a hF=>?_
       refine wpIn_ret (A5<|A5<|Ab [.tmp 2] [iv 3] hF rfl ⟨rfl,trivial⟩ ?_)
       obtain rfl:=Ao h
       exact ⟨rfl,hS.ext⟩
      ·replace h:=Af h hc
       refine wpIn_skip (A0 ?_)
       refine rnB [(2,iv 0)] hF fun a hF=>?_
       refine wpIn_ret (A5<|Ab [.tmp 2] [iv 0] hF rfl ⟨rfl,trivial⟩ ?_)
       obtain rfl:=Ao h
       exact ⟨rfl,hS.ext⟩
     ·replace h:=Af h hc
      refine wpIn_skip (A0 ?_)
      refine Ar ?_
      refine esr ?_
      obtain ⟨y4,hy4,h⟩:=A1 h
      obtain ⟨y5,hy5,h⟩:=A1 h
      obtain ⟨y6,hy6,h⟩:=A1 h
      refine rX 18 18 [(128,.bool (bif (bif (!y4) then true else (!y5)) then true else (!y6)))] hF (oX (.run [] (Instr.indexAt 147 (.pointer (some ⟨b1,3,none⟩)) (iv 0)) (.pointer (some ⟨b1,3,none⟩))) (Bs kr)<|oN 146 0 3 2 hS.e rfl<|oC (fun w2 hd=>Mg F (api_Span.mk p0.Steps.1.Lo p0.Steps.1.Hi) _ hy4 _ w2 (Ae w2))<|oX (.run [⟨116,false,(!y4)⟩] (Instr.indexAt 147 (.pointer (some ⟨b1,3,none⟩)) (iv 1)) (.pointer (some ⟨b1,5,none⟩))) (Bs kr)<|oX (.run [⟨116,false,(!y4)⟩] (Instr.loadAt 146 (.pointer (some ⟨b1,5,none⟩))) (.agg #[iv p0.Steps.2.Lo,iv p0.Steps.2.Hi])) (obN (us:=[iv p0.Steps.2.Lo,iv p0.Steps.2.Hi]) kr (fun _ hd=>((hS.later hd).blk (i:=0) rfl).cells rfl))<|oX (.call [⟨116,false,(!y4)⟩] 110 #[.agg #[iv p0.Steps.2.Lo,iv p0.Steps.2.Hi]] (.bool y5)) (show Ob.ok _ Ext _ _ from fun hk w2 hd=>Mg F (api_Span.mk p0.Steps.2.Lo p0.Steps.2.Hi) _ ((fun hk=>C9 hy5 hk) hk) _ w2 (Ae w2))<|oX (.run [⟨123,false,(bif (!y4) then true else (!y5))⟩] (Instr.loadAt 146 (.pointer (some ⟨b1,12,none⟩))) (.agg #[iv p0.Turn.Lo,iv p0.Turn.Hi])) (obN (us:=[iv p0.Turn.Lo,iv p0.Turn.Hi]) kr (fun _ hd=>((hS.later hd).blk (i:=0) rfl).cells rfl))<|oX (.call [⟨123,false,(bif (!y4) then true else (!y5))⟩] 110 #[.agg #[iv p0.Turn.Lo,iv p0.Turn.Hi]] (.bool y6)) (show Ob.ok _ Ext _ _ from fun hk w2 hd=>Mg F p0.Turn _ ((fun hk=>C9 hy6 hk) hk) _ w2 (Ae w2))<|A9) fun a w hF hx=>?_
      replace hS:=hS.later hx
      refine wfn rfl ?_
      refine Ai hF rfl (fun hc=>?_) (fun hc=>?_)
      ·replace h:=Ag h hc
       refine rnB [(2,iv 3)] hF fun a hF=>?_
       refine wpIn_ret (A5<|Ab [.tmp 2] [iv 3] hF rfl ⟨rfl,trivial⟩ ?_)
       obtain rfl:=Ao h
       exact ⟨rfl,hS.ext⟩
      ·replace h:=Af h hc
       refine wpIn_skip (A0 ?_)
       refine rnB [(2,iv 0)] hF fun a hF=>?_
       refine wpIn_ret (Ab [.tmp 2] [iv 0] hF rfl ⟨rfl,trivial⟩ ?_)
       obtain rfl:=Ao h
       exact ⟨rfl,hS.ext⟩
theorem Ty (F:Nat) (p0:api_Field) (p1:Int) (res:Int) (h:P4 F p0 p1=some res) (μ:Frz) (w0:World) (hm:FrzAt μ w0) {ad1:Option Addr} {cap2:Nat} (hA3:ArrM μ 2 api_Span.cells ad1 cap2 p0.Vals):Calls Tryz.prog 81 #[.agg #[iv p0.Grid.X,iv p0.Grid.Y,iv p0.Grid.Size,iv p0.Grid.Wide,iv p0.Grid.High,sv ad1 p0.Vals cap2],iv p1] w0 (fun e w=>e=.returned (iv res)∧Ext w0 w):=by
 obtain ⟨hlow,hS⟩:=hm.init
 have hext:=Frz.ext_refl w0.heap.size μ
 rw [P4] at h
 refine Ah Tryz.func81 rfl 39 [(0,.agg #[iv p0.Grid.X,iv p0.Grid.Y,iv p0.Grid.Size,iv p0.Grid.Wide,iv p0.Grid.High,sv ad1 p0.Vals cap2]),(1,iv p1)] rfl rfl kr fun a w hw hF=>?_
 replace hS:=hS.cast hw
 clear hw
 refine esr ?_
 refine SK.wi (qB 46 (.agg #[iv p0.Grid.X,iv p0.Grid.Y,iv p0.Grid.Size,iv p0.Grid.Wide,iv p0.Grid.High,sv ad1 p0.Vals cap2]) #[iv p0.Grid.X,iv p0.Grid.Y,iv p0.Grid.Size,iv p0.Grid.Wide,iv p0.Grid.High,sv ad1 p0.Vals cap2] (fun b4=>[(2,pb b4)]) hF hS fun b4 w a hF hS=>?_)
 refine qn 1 2 [] hF fun a hF=>?_
 refine wfn rfl ?_
 refine esr ?_
 refine qx 4 4 [(5,iv (Bq p0.Grid))] hF (oN 43 0 0 5 hS.e rfl<|oC (fun w2 hd=>Me p0.Grid _ rfl _ w2 (Ae w2))<|A9) fun a w hF hx=>?_
 replace hS:=hS.later hx
 refine wfn rfl ?_
 refine Ar ?_
 refine qnB [(11,.bool ((Bq p0.Grid) != 0))] hF fun a hF=>?_
 refine Ai hF rfl (fun hc=>?_) (fun hc=>?_)
 ·replace h:=Ag h hc
  refine rnB [(4,iv (Bq p0.Grid))] hF fun a hF=>?_
  refine wpIn_ret (A5<|Ab [.tmp 4] [iv (Bq p0.Grid)] hF rfl ⟨rfl,trivial⟩ ?_)
  obtain rfl:=Ao h
  exact ⟨rfl,hS.ext⟩
 ·replace h:=Af h hc
  refine wpIn_skip (A0 ?_)
  refine Ar ?_
  refine esr ?_
  obtain ⟨x5,hx5,h⟩:=A1 h
  refine qo 11 11 [(23,.bool ((ln p0.Vals) != x5))] hF (oL 44 0 5 hS.i rfl rfl<|oL 3 0 3 hS.i rfl rfl<|oL 3 0 4 hS.i rfl rfl<|oM 3 hx5<|A9) fun a hF=>?_
  refine wfn rfl ?_
  refine Ai hF rfl (fun hc=>?_) (fun hc=>?_)
  ·replace h:=Ag h hc
   refine rnB [(4,iv 11)] hF fun a hF=>?_
   refine wpIn_ret (A5<|Ab [.tmp 4] [iv 11] hF rfl ⟨rfl,trivial⟩ ?_)
   obtain rfl:=Ao h
   exact ⟨rfl,hS.ext⟩
  ·replace h:=Af h hc
   refine wpIn_skip (A0 ?_)
   refine Dg (fun a w=>Fr 39 [] [] a∧St w0 [blk b4 46 #[iv p0.Grid.X,iv p0.Grid.Y,iv p0.Grid.Size,iv p0.Grid.Wide,iv p0.Grid.High,sv ad1 p0.Vals cap2],fz w0 μ] w∧N3=some res) ?_ ?_
   ·skip
    refine qnB [(6,iv 0)] hF fun a hF=>?_
    refine wpIn_block ?_
    refine Cq (fun n_ a w=>∃(a0:Int),Fr 39 [] [(1,iv p1),(2,pb b4),(6,iv a0)] a∧St w0 [blk b4 46 #[iv p0.Grid.X,iv p0.Grid.Y,iv p0.Grid.Size,iv p0.Grid.Wide,iv p0.Grid.High,sv ad1 p0.Vals cap2],fz w0 μ] w∧Hk p0 p1 n_ a0=some res) F ⟨0,hF.sub kr,St.pick [0,1] (by decide) hS,h⟩ ?_
    rintro nk2 a w ⟨a0,hF,hS,h⟩
    rcases nk2 with _|nk2
    ·cases (show (none:Option Int)=some res from h)
    obtain ⟨k2,hk2⟩:∃k,k=Hk p0 p1 nk2:=⟨_,rfl⟩
    replace h:L6 p0 p1 k2 a0=some res:=by rw [hk2];exact h
    rw [L6] at h
    refine Ar ?_
    refine qoB [(28,.bool (decide (a0<(ln p0.Vals))))] hF (oL 44 0 5 hS.i rfl rfl<|A9) fun a hF=>?_
    refine Ai hF rfl (fun hc=>?_) (fun hc=>?_)
    ·replace h:=Ag h hc
     refine wpIn_skip (A0 ?_)
     refine Ar ?_
     refine wpIn_block ?_
     refine esr ?_
     obtain ⟨a2,a1,h⟩:=A1 h
     refine qx 8 8 [(38,.bool (!(Bm a2 0 p1)))] hF (oL 44 0 5 hS.e rfl rfl<|oI 44 (hA3 _ (hS.frz (i:=1) rfl hlow)) a1<|oG 146 0 2 api_Span.cells_len (fun _ hd=>(hA3 _ ((hS.later hd).frz (i:=1) rfl hlow))) a1<|oC (fun w2 hd=>Ka a2 0 p1 _ rfl _ w2 (Ae w2))<|A9) fun a w hF hx=>?_
     replace hS:=hS.later hx
     refine wfn rfl ?_
     refine Ai hF rfl (fun hc=>?_) (fun hc=>?_)
     ·replace h:=Ag h hc
      refine rnB [(4,iv 3)] hF fun a hF=>?_
      refine wpIn_ret (Al<|A5<|A5<|Al<|A5<|Ab [.tmp 4] [iv 3] hF rfl ⟨rfl,trivial⟩ ?_)
      obtain rfl:=Ao h
      exact ⟨rfl,hS.ext⟩
     ·replace h:=Af h hc
      refine wpIn_skip (Aa<|A0<|?_)
      refine WI.region ?_
      obtain ⟨a3,a4,h⟩:=A1 h
      refine ro 3 3 [(1,iv p1),(2,pb b4),(6,iv a3)] hF (oA 3 a4<|A9) fun a hF=>?_
      refine wfn rfl ?_
      rw [hk2] at h
      exact ⟨nk2,Nat.lt_succ_self _,a3,hF.sub kr,St.pick [0,1] (by decide) hS,h⟩
    ·replace h:=Af h hc
     refine wpIn_exit (A7<|A7<|Av<|A0 ?_)
     exact ⟨hF.sub kr,St.pick [0,1] (by decide) hS,h⟩
   rintro a w ⟨hF,hS,h⟩
   rw [N3] at h
   refine rnB [(4,iv 0)] hF fun a hF=>?_
   refine wpIn_ret (Ab [.tmp 4] [iv 0] hF rfl ⟨rfl,trivial⟩ ?_)
   obtain rfl:=Ao h
   exact ⟨rfl,hS.ext⟩
theorem Cv (F:Nat) (p0:ref12_reader) (res:(api_Span×ref12_reader)) (h:C8 F p0=some res) (μ:Frz) (w0 w1:World) (T_:List Res) (hlow:Ay w0 μ) {cb0:Nat} {ad1:Option Addr} {cap2:Nat} (hA3:ArrM μ 1 (fK .u8) ad1 cap2 p0.b) (hS:St w0 (fz w0 μ::blk cb0 135 #[sv ad1 p0.b cap2,.bool p0.bad]::T_) w1):Bu Tryz.prog 125 #[pb cb0] w1 (fun e w=>∃(ν_:Frz) (a3:Option Addr) (a4:Nat),μ.ext w0.heap.size ν_∧Ay w0 ν_∧e=(.agg #[iv res.1.Lo,iv res.1.Hi])∧(ArrM ν_ 1 (fK .u8) a3 a4 res.2.b)∧St w0 (fz w0 ν_::blk cb0 135 #[sv a3 res.2.b a4,.bool res.2.bad]::T_) w):=by
 rw [C8] at h
 have hext:=Frz.ext_refl w0.heap.size μ
 refine Ah Tryz.func125 rfl 12 [(0,pb cb0)] rfl rfl kr fun a w hw hF=>?_
 replace hS:=hS.cast hw
 clear hw
 refine esr ?_
 refine SK.wi (qA 146 #[iv 0,iv 0] (fun b4=>[(2,pb b4)]) hF hS fun b4 w a hF hS=>?_)
 refine wfn rfl ?_
 refine esr ?_
 refine qn 1 1 [(4,pb cb0)] hF fun a hF=>?_
 obtain ⟨y5,hy5,h⟩:=A1 h
 replace hS:=hS.s2.s2
 refine SK.wi (qR (fun v8=>[(5,v8)]) hF (Df F _ _ hy5 μ w0 w _ hlow hA3 hS) ?_)
 rintro v8 w a ⟨ν6,ad9,aB,hx7,hlow,rfl,a1,hS⟩ hF
 replace hext:=Frz.ext_trans hext hx7
 replace hA3:=hA3.mono hx7.1
 refine qn 1 3 [(3,iv y5.1)] hF fun a hF=>?_
 refine wfn rfl ?_
 refine esr ?_
 refine qn 3 3 [(6,iv y5.1),(7,iv y5.1),(8,pb cb0)] hF fun a hF=>?_
 obtain ⟨aC,aA,h⟩:=A1 h
 refine SK.wi (qR (fun a5=>[(9,a5)]) hF (Ap F _ _ aA ν6 w0 w _ hlow a1 hS) ?_)
 rintro a5 w a ⟨ν13,a6,a7,a2,hlow,rfl,a8,hS⟩ hF
 replace hext:=Frz.ext_trans hext a2
 replace hA3:=hA3.mono a2.1
 replace a1:=a1.mono a2.1
 obtain ⟨a0,a9,h⟩:=A1 h
 refine qo 2 6 [(11,.agg #[iv y5.1,iv a0])] hF (oA 3 a9<|A9) fun a hF=>?_
 refine SK.wi (qS 146 2 0 (.agg #[iv y5.1,iv a0]) #[iv y5.1,iv a0] hF hS rfl fun w a hF hS=>?_)
 refine wfn rfl ?_
 refine wpIn_ret (Ab [.cell 2 146] [.agg #[iv y5.1,iv a0]] hF rfl ⟨⟨_,rfl,De (cs:=[iv y5.1,iv a0]) kr ((hS.blk (i:=2) rfl).cells rfl)⟩,trivial⟩ ?_)
 obtain rfl:=Ao h
 replace hS:=hS.d2
 exact ⟨_,rfl,ν13,a6,a7,hext,hlow,rfl,a8,hS⟩
theorem Pt (F:Nat) (p0:(List volume_Item)) (p1:(List volume_Item)) (res:Bool) (h:Jw F p0 p1=some res) (μ:Frz) (w0:World) (hm:FrzAt μ w0) {ad1:Option Addr} {cap2:Nat} {css3:List (List Value)} {ad5:Option Addr} {cap6:Nat} {css7:List (List Value)} (hA4:ArrQ μ 21 Rp48 ad1 cap2 css3 p0) (hA8:ArrQ μ 21 Rp48 ad5 cap6 css7 p1):Calls Tryz.prog 11 #[sv ad1 p0 cap2,sv ad5 p1 cap6] w0 (fun e w=>e=.returned (.bool res)∧Ext w0 w):=by
 obtain ⟨hlow,hS⟩:=hm.init
 have hext:=Frz.ext_refl w0.heap.size μ
 rw [Jw] at h
 refine Ah Tryz.func11 rfl 27 [(0,sv ad1 p0 cap2),(1,sv ad5 p1 cap6)] rfl rfl kr fun a w hw hF=>?_
 replace hS:=hS.cast hw
 clear hw
 refine qnB [] hF fun a hF=>?_
 refine Ar ?_
 refine qnB [(10,.bool ((ln p0) != (ln p1)))] hF fun a hF=>?_
 refine Ai hF rfl (fun hc=>?_) (fun hc=>?_)
 ·replace h:=Ag h hc
  refine rnB [(4,.bool false)] hF fun a hF=>?_
  refine wpIn_ret (A5<|Ab [.tmp 4] [.bool false] hF rfl ⟨rfl,trivial⟩ ?_)
  obtain rfl:=Ao h
  exact ⟨rfl,hS.ext⟩
 ·replace h:=Af h hc
  refine wpIn_skip (A0 ?_)
  refine Dg (fun a w=>Fr 27 [] [] a∧St w0 [fz w0 μ] w∧K6=some res) ?_ ?_
  ·skip
   refine qnB [(5,iv 0)] hF fun a hF=>?_
   refine wpIn_block ?_
   refine Cq (fun n_ a w=>∃(a0:Int),Fr 27 [] [(0,sv ad1 p0 cap2),(1,sv ad5 p1 cap6),(5,iv a0)] a∧St w0 [fz w0 μ] w∧Gu F p0 p1 n_ a0=some res) F ⟨0,hF.sub kr,St.pick [0] (by decide) hS,h⟩ ?_
   rintro nk2 a w ⟨a0,hF,hS,h⟩
   rcases nk2 with _|nk2
   ·cases (show (none:Option Bool)=some res from h)
   obtain ⟨k2,hk2⟩:∃k,k=Gu F p0 p1 nk2:=⟨_,rfl⟩
   replace h:K5 F p0 p1 k2 a0=some res:=by rw [hk2];exact h
   rw [K5] at h
   refine Ar ?_
   refine qnB [(14,.bool (decide (a0<(ln p0))))] hF fun a hF=>?_
   refine Ai hF rfl (fun hc=>?_) (fun hc=>?_)
   ·replace h:=Ag h hc
    refine wpIn_skip (A0 ?_)
    refine Ar ?_
    refine wpIn_block ?_
    refine Ar ?_
    obtain ⟨aE,aA,h⟩:=A1 h
    obtain ⟨aP,a1,a8⟩:=Dq hA4.2 aA
    obtain ⟨aH,aL,aR,aI,aM,rfl,a4,a5⟩:=a8
    obtain ⟨aF,aB,h⟩:=A1 h
    obtain ⟨aQ,a2,a9⟩:=Dq hA8.2 aB
    obtain ⟨aJ,aN,aS,aK,aO,rfl,a6,a7⟩:=a9
    obtain ⟨aG,aD,h⟩:=A1 h
    refine qD 10 [(26,.bool (!aG))] hF (oI 24 (hA4.at (hS.frz (i:=0) rfl hlow)) a1<|oG 48 0 21 (Eg 21) (fun _ hd=>(hA4.at ((hS.later hd).frz (i:=0) rfl hlow))) a1<|oI 24 (hA8.at (hS.frz (i:=0) rfl hlow)) a2<|oG 48 0 21 (Eg 21) (fun _ hd=>(hA8.at ((hS.later hd).frz (i:=0) rfl hlow))) a2<|oC (fun w2 hd=>N0 F aE aF _ aD _ w2 (Ae w2) (a4.mono Rp87.mono (FrzAt.le_mem ((hS.later hd).frz (i:=0) rfl hlow))) (a5.mono (FrzAt.le_mem ((hS.later hd).frz (i:=0) rfl hlow))) (a6.mono Rp87.mono (FrzAt.le_mem ((hS.later hd).frz (i:=0) rfl hlow))) (a7.mono (FrzAt.le_mem ((hS.later hd).frz (i:=0) rfl hlow))))<|A9) fun a w hF hx=>?_
    replace hS:=hS.later hx
    refine wfn rfl ?_
    refine Ai hF rfl (fun hc=>?_) (fun hc=>?_)
    ·replace h:=Ag h hc
     refine rnB [(4,.bool false)] hF fun a hF=>?_
     refine wpIn_ret (Al<|A5<|A5<|Al<|A5<|Ab [.tmp 4] [.bool false] hF rfl ⟨rfl,trivial⟩ ?_)
     obtain rfl:=Ao h
     exact ⟨rfl,hS.ext⟩
    ·replace h:=Af h hc
     refine wpIn_skip (Aa<|A0<|?_)
     refine WI.region ?_
     obtain ⟨a3,aC,h⟩:=A1 h
     refine ro 3 3 [(0,sv ad1 p0 cap2),(1,sv ad5 p1 cap6),(5,iv a3)] hF (oA 3 aC<|A9) fun a hF=>?_
     refine wfn rfl ?_
     rw [hk2] at h
     exact ⟨nk2,Nat.lt_succ_self _,a3,hF.sub kr,St.pick [0] (by decide) hS,h⟩
   ·replace h:=Af h hc
    refine wpIn_exit (A7<|A7<|Av<|A0 ?_)
    exact ⟨hF.sub kr,St.pick [0] (by decide) hS,h⟩
  rintro a w ⟨hF,hS,h⟩
  rw [K6] at h
  refine rnB [(4,.bool true)] hF fun a hF=>?_
  refine wpIn_ret (Ab [.tmp 4] [.bool true] hF rfl ⟨rfl,trivial⟩ ?_)
  obtain rfl:=Ao h
  exact ⟨rfl,hS.ext⟩
end Go.Proofs.YtifbomimeodibaaGreat
