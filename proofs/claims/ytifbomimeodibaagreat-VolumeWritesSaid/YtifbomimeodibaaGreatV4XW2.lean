import Derived.Test.YtifbomimeodibaaGreatV4XD
import Derived.Test.YtifbomimeodibaaGreatProg
import Derived.Test.YtifbomimeodibaaGreatV4XW0
import Derived.Test.YtifbomimeodibaaGreatV4XW1
import Derived.Test.YtifbomimeodibaaGreatV4WnN
namespace Go.Proofs.YtifbomimeodibaaGreat
open Go Go.RowKit Go.Eng
set_option maxRecDepth 10000
set_option maxHeartbeats 4000000
set_option linter.unusedVariables false
set_option linter.unusedSimpArgs false
theorem Qw (F:Nat) (p0:(List Int)) (p1:(List Int)) (res:Bool) (h:Lm F p0 p1=some res) (μ:Frz) (w0:World) (hm:FrzAt μ w0) {ad1:Option Addr} {cap2:Nat} {ad4:Option Addr} {cap5:Nat} (hA3:ArrM μ 1 (fK .u8) ad1 cap2 p0) (hA6:ArrM μ 1 (fK .u8) ad4 cap5 p1):Calls Tryz.prog 34 #[sv ad1 p0 cap2,sv ad4 p1 cap5] w0 (fun e w=>e=.returned (.bool res)∧Ext w0 w):=by
 obtain ⟨hlow,hS⟩:=hm.init
 have hext:=Frz.ext_refl w0.heap.size μ
 rw [Lm] at h
 refine Ag Tryz.func34 rfl 18 [(0,sv ad1 p0 cap2),(1,sv ad4 p1 cap5)] rfl rfl kr fun a w hw hF=>?_
 replace hS:=hS.cast hw
 clear hw
 refine qnB [] hF fun a hF=>?_
 refine esr ?_
 refine qn 6 6 [(10,.bool (decide ((ln p0)≥(ln p1))))] hF fun a hF=>?_
 rcases Bool.eq_false_or_eq_true ((decide ((ln p0)≥(ln p1)))) with hg7|hg7
 ·replace h:=Af h hg7
  rw [hg7] at hF
  obtain ⟨l8,hl8,h⟩:=A1 h
  have hA9:ArrM μ 1 (fK .u8) (Aw ad1 cap2 (0:Int).toNat 1) (cap2-(0:Int).toNat) l8:=fun w_ hw_=>(hA3 w_ hw_).cutD (Bx .u8) hl8
  refine rX 8 14 [(4,.bool (Fl l8 p1))] hF (oX (.run [⟨10,true,true⟩] (Instr.sliceAt 22 (sv ad1 p0 cap2) none (some (iv (ln p1))) none) (.slice (Aw ad1 cap2 (0:Int).toNat 1) l8.length (cap2-(0:Int).toNat))) (Tr kr (hA3 _ (hS.frz (i:=0) rfl hlow)) (fun _=>hl8))<|oX (.call [⟨10,true,true⟩] 59 #[.slice (Aw ad1 cap2 (0:Int).toNat 1) l8.length (cap2-(0:Int).toNat),sv ad4 p1 cap5] (.bool (Fl l8 p1))) (show Ob.ok _ Ext _ _ from fun hk w2 hd=>Pi l8 p1 _ rfl _ w2 (A5 w2) (hA9.mono (FrzAt.le_mem ((hS.later hd).frz (i:=0) rfl hlow))) (hA6.mono (FrzAt.le_mem ((hS.later hd).frz (i:=0) rfl hlow))))<|A9) fun a w hF hx=>?_
  replace hS:=hS.later hx
  refine wfn rfl ?_
  refine wpIn_ret (Ad [.tmp 4] [.bool (Fl l8 p1)] hF rfl ⟨rfl,trivial⟩ ?_)
  obtain rfl:=Ao h
  exact ⟨rfl,hS.ext⟩
 ·replace h:=Ae h hg7
  rw [hg7] at hF
  refine Cr 7 [(1,sv ad4 p1 cap5),(10,.bool false),(11,undef)] hF kr ⟨kr⟩ ⟨kr⟩ rfl fun a hF=>?_
  refine Cr 8 [(1,sv ad4 p1 cap5),(10,.bool false),(11,undef),(12,undef)] hF kr ⟨kr⟩ ⟨kr⟩ rfl fun a hF=>?_
  refine Cr 9 [(1,sv ad4 p1 cap5),(10,.bool false),(11,undef),(13,undef)] hF kr ⟨kr⟩ ⟨kr⟩ rfl fun a hF=>?_
  refine Cr 10 [(1,sv ad4 p1 cap5),(10,.bool false),(14,undef)] hF kr ⟨kr⟩ ⟨kr⟩ rfl fun a hF=>?_
  refine Cr 11 [(10,.bool false),(14,undef),(15,undef)] hF kr ⟨kr⟩ ⟨kr⟩ rfl fun a hF=>?_
  refine Cr 12 [(10,.bool false),(16,undef)] hF kr ⟨kr⟩ ⟨kr⟩ rfl fun a hF=>?_
  refine rn 2 14 [(4,.bool false)] hF fun a hF=>?_
  refine wfn rfl ?_
  refine wpIn_ret (Ad [.tmp 4] [.bool false] hF rfl ⟨rfl,trivial⟩ ?_)
  obtain rfl:=Ao h
  exact ⟨rfl,hS.ext⟩
theorem Ni (p0:(List Int)) (res:Unit) (h:Qs p0=res) (μ:Frz) (w0:World) (hm:FrzAt μ w0) {ad1:Option Addr} {cap2:Nat} (hA3:ArrM μ 1 (fK .u8) ad1 cap2 p0):Bj Tryz.prog 35 #[sv ad1 p0 cap2] w0 (fun e w=>∃zb0,e=(.func (.func 65) #[] #[pb zb0])∧St w0 [blk zb0 22 #[sv ad1 p0 cap2]] w):=by
 obtain ⟨hlow,hS⟩:=hm.init
 have hext:=Frz.ext_refl w0.heap.size μ
 rw [Qs] at h
 refine Ag Tryz.func35 rfl 4 [(0,sv ad1 p0 cap2)] rfl rfl kr fun a w hw hF=>?_
 replace hS:=hS.cast hw
 clear hw
 refine esr ?_
 refine SK.wi (J6 (t:=22) (fun b4=>[(1,pb b4)]) (sv ad1 p0 cap2) #[sv ad1 p0 cap2] hF hS kr ⟨kr⟩ kr (fun _=>⟨kr⟩) fun b4 w a hF hS=>?_)
 refine rn 1 2 [(1,pb b4)] hF fun a hF=>?_
 refine wfn rfl ?_
 refine rnB [(2,.func (.func 65) #[] #[pb b4])] hF fun a hF=>?_
 refine wpIn_ret (Ad [.tmp 2] [.func (.func 65) #[] #[pb b4]] hF rfl ⟨rfl,trivial⟩ ?_)
 subst h
 exact ⟨_,rfl,b4,rfl,St.pick [0] (by decide) hS⟩
theorem Al (F:Nat) (p0:volume_reader) (res:Except (Value×volume_reader) (Int×volume_reader)) (h:An F p0=some res) (μ:Frz) (w0 w1:World) (T_:List Res) (hlow:B4 w0 μ) {cb0:Nat} {ad1:Option Addr} {cap2:Nat} (hA3:ArrM μ 1 (fK .u8) ad1 cap2 p0.b) (hS:St w0 (fz w0 μ::blk cb0 125 #[sv ad1 p0.b cap2]::T_) w1):Nk Tryz.prog 90 #[pb cb0] w1 res (fun r_ e w=>∃(ν_:Frz) (a9:Option Addr) (aB:Nat),μ.ext w0.heap.size ν_∧B4 w0 ν_∧e=(iv r_.1)∧(ArrM ν_ 1 (fK .u8) a9 aB r_.2.b)∧St w0 (fz w0 ν_::blk cb0 125 #[sv a9 r_.2.b aB]::T_) w) (fun e_ w=>∃(ν_:Frz) (aA:Option Addr) (aC:Nat),μ.ext w0.heap.size ν_∧B4 w0 ν_∧(ArrM ν_ 1 (fK .u8) aA aC e_.b)∧St w0 (fz w0 ν_::blk cb0 125 #[sv aA e_.b aC]::T_) w):=by
 rw [An] at h
 have hext:=Frz.ext_refl w0.heap.size μ
 refine Ag Tryz.func90 rfl 71 [(0,pb cb0)] rfl rfl kr fun a w hw hF=>?_
 replace hS:=hS.cast hw
 clear hw
 refine qnB [] hF fun a hF=>?_
 refine qnB [(3,iv 0),(4,iv 1)] hF fun a hF=>?_
 refine D9 (fun a w=>Fr 71 [] [] a∧St w0 (fz w0 μ::blk cb0 125 #[sv ad1 p0.b cap2]::T_) w∧Fw p0=some res) ?_ ?_
 ·skip
  refine Ar ?_
  obtain ⟨a0,aF,h⟩:=A1 h
  have aD:ArrM μ 1 (fK .u8) (Aw ad1 cap2 (0:Int).toNat 1) (cap2-(0:Int).toNat) a0:=fun w_ hw_=>(hA3 w_ hw_).cutD (Bx .u8) aF
  refine qD 13 [(17,.slice (Aw ad1 cap2 (0:Int).toNat 1) a0.length (cap2-(0:Int).toNat)),(18,iv (ln a0)),(19,iv 0)] hF (oL 22 1 0 hS.e rfl rfl<|oL 22 1 0 hS.e rfl rfl<|oX (.run [] (Instr.sliceAt 22 (sv ad1 p0.b cap2) none (some (iv (if 8<(ln p0.b) then 8 else (ln p0.b)))) none) (.slice (Aw ad1 cap2 (0:Int).toNat 1) a0.length (cap2-(0:Int).toNat))) (Tr kr (hA3 _ (hS.frz (i:=0) rfl hlow)) (fun _=>aF))<|A9) fun a w hF hx=>?_
  replace hS:=hS.later hx
  refine wfn rfl ?_
  refine wpIn_block ?_
  refine Ci (fun n_ a w=>∃(a1:Int) (a5:Int) (a4:Int),Fr 71 [] [(0,pb cb0),(3,iv a5),(4,iv a4),(17,.slice (Aw ad1 cap2 (0:Int).toNat 1) a0.length (cap2-(0:Int).toNat)),(18,iv (ln a0)),(19,iv a1)] a∧St w0 (fz w0 μ::blk cb0 125 #[sv ad1 p0.b cap2]::T_) w∧E7 p0 a0 n_ a1 a5 a4=some res) F ⟨0,0,1,hF.sub kr,hS,h⟩ ?_
  rintro nk2 a w ⟨a1,a5,a4,hF,hS,h⟩
  rcases nk2 with _|nk2
  ·cases (show (none:Option (Except (Value×volume_reader) (Int×volume_reader)))=some res from h)
  obtain ⟨k2,hk2⟩:∃k,k=E7 p0 a0 nk2:=⟨_,rfl⟩
  replace h:Fv p0 a0 k2 a1 a5 a4=some res:=by rw [hk2];exact h
  rw [Fv] at h
  refine qnB [(20,.bool (decide (a1<(ln a0))))] hF fun a hF=>?_
  refine Ar ?_
  refine Aj hF rfl (fun hc=>?_) (fun hc=>?_)
  ·replace h:=Af h hc
   refine wpIn_skip (A0 ?_)
   refine Ar ?_
   refine wpIn_block ?_
   refine esr ?_
   obtain ⟨a3,aG,h⟩:=A1 h
   refine qo 5 5 [(5,iv a1),(6,.int .u8 a3)] hF (oI 22 (aD _ (hS.frz (i:=0) rfl hlow)) aG<|oE 5 0 (Bx .u8) (fun _ hd=>(aD _ ((hS.at_ hd).frz (i:=0) rfl hlow))) aG rfl<|A9) fun a hF=>?_
   refine wfn rfl ?_
   refine D9 (fun a w=>Fr 71 [] [(0,pb cb0),(3,iv a5),(4,iv a4),(6,.int .u8 a3),(17,.slice (Aw ad1 cap2 (0:Int).toNat 1) a0.length (cap2-(0:Int).toNat)),(18,iv (ln a0)),(19,iv a1)] a∧St w0 (fz w0 μ::blk cb0 125 #[sv ad1 p0.b cap2]::T_) w∧Fx a1 a5 a4 k2 a3=some res) ?_ ?_
   ·skip
    refine wpIn_block ?_
    refine qnB [(24,.bool (bif (bif (a3==0) then true else (a3==255)) then true else (bif (a3==1) then (decide (a1>0)) else false)))] hF fun a hF=>?_
    refine Aj hF rfl (fun hc=>?_) (fun hc=>?_)
    ·replace h:=Af h hc
     refine WI.region ?_
     refine qn 1 1 [(39,.iface 128 (iv 7))] hF fun a hF=>?_
     refine Ny (t:=128) (v:=iv 7) hF ⟨kr⟩ (Ak<|A7<|Ak<|A7<|A7<|Ak<|A7<|Ax hF ?_)
     obtain rfl:=Ao h
     replace hS:=hS
     exact .inr ⟨_,rfl,rfl,μ,ad1,cap2,hext,hlow,hA3,hS⟩
    ·replace h:=Ae h hc
     refine qnB [(40,.bool (decide (a3<128)))] hF fun a hF=>?_
     refine Aj hF rfl (fun hc=>?_) (fun hc=>?_)
     ·replace h:=Af h hc
      refine esr ?_
      obtain ⟨a2,aQ,h⟩:=A1 h
      obtain ⟨a6,aE,h⟩:=A1 h
      have aJ:ArrM μ 1 (fK .u8) (Aw ad1 cap2 a2.toNat 1) (cap2-a2.toNat) a6:=fun w_ hw_=>(hA3 w_ hw_).cutD (Bx .u8) aE
      refine ro 10 10 [(3,iv a5),(4,iv a4),(6,.int .u8 a3),(50,.slice (Aw ad1 cap2 a2.toNat 1) a6.length (cap2-a2.toNat)),(52,pb cb0)] hF (oL 22 1 0 hS.i rfl rfl<|oA 3 aQ<|oX (.run [] (Instr.sliceAt 22 (sv ad1 p0.b cap2) (some (iv a2)) none none) (.slice (Aw ad1 cap2 a2.toNat 1) a6.length (cap2-a2.toNat))) (N5 kr (hA3 _ (hS.frz (i:=0) rfl hlow)) (fun _=>aE))<|A9) fun a hF=>?_
      refine SK.wi (qs 22 1 0 (.slice (Aw ad1 cap2 a2.toNat 1) a6.length (cap2-a2.toNat)) hF hS rfl fun w a hF hS=>?_)
      refine wfn rfl ?_
      refine esr ?_
      obtain ⟨aW,aR,h⟩:=A1 h
      obtain ⟨aZ,aS,h⟩:=A1 h
      obtain ⟨b0,aT,h⟩:=A1 h
      obtain ⟨aI,aU,h⟩:=A1 h
      refine ro 8 8 [(2,iv aI)] hF (oX (.run [] (convert 5 3 (.int .u8 a3)) (iv aW)) (T7 kr kr (fun _=>aR))<|oS 3 aS<|oM 3 aT<|oA 3 aU<|A9) fun a hF=>?_
      refine wfn rfl ?_
      refine wpIn_ret (Ai<|A6<|Ai<|A6<|A6<|Ai<|A6<|Ad [.tmp 2] [iv aI] hF rfl ⟨rfl,trivial⟩ ?_)
      obtain rfl:=Ao h
      replace hS:=hS
      exact .inl ⟨_,_,rfl,rfl,μ,(Aw ad1 cap2 a2.toNat 1),(cap2-a2.toNat),hext,hlow,rfl,aJ,hS⟩
     ·replace h:=Ae h hc
      refine wpIn_skip (Ab<|A0<|?_)
      exact ⟨hF.sub kr,hS,h⟩
   rintro a w ⟨hF,hS,h⟩
   rw [Fx] at h
   refine esr ?_
   obtain ⟨aV,aK,h⟩:=A1 h
   obtain ⟨aX,aL,h⟩:=A1 h
   obtain ⟨aY,aM,h⟩:=A1 h
   obtain ⟨a7,aN,h⟩:=A1 h
   refine ro 8 8 [(0,pb cb0),(3,iv a7),(4,iv a4),(17,.slice (Aw ad1 cap2 (0:Int).toNat 1) a0.length (cap2-(0:Int).toNat)),(18,iv (ln a0)),(19,iv a1)] hF (oX (.run [] (convert 5 3 (.int .u8 a3)) (iv aV)) (T7 kr kr (fun _=>aK))<|oS 3 aL<|oM 3 aM<|oA 3 aN<|A9) fun a hF=>?_
   refine wfn rfl ?_
   refine WI.region ?_
   obtain ⟨a8,aO,h⟩:=A1 h
   refine ro 3 3 [(0,pb cb0),(3,iv a7),(4,iv a8),(17,.slice (Aw ad1 cap2 (0:Int).toNat 1) a0.length (cap2-(0:Int).toNat)),(18,iv (ln a0)),(19,iv a1)] hF (oM 3 aO<|A9) fun a hF=>?_
   refine WI.fin rfl (Ab<|A0<|?_)
   refine WI.region ?_
   obtain ⟨aH,aP,h⟩:=A1 h
   refine ro 2 2 [(0,pb cb0),(3,iv a7),(4,iv a8),(17,.slice (Aw ad1 cap2 (0:Int).toNat 1) a0.length (cap2-(0:Int).toNat)),(18,iv (ln a0)),(19,iv aH)] hF (oA 3 aP<|A9) fun a hF=>?_
   refine wfn rfl ?_
   rw [hk2] at h
   exact ⟨nk2,Nat.lt_succ_self _,aH,a7,a8,hF.sub kr,hS,h⟩
  ·replace h:=Ae h hc
   refine wpIn_exit (Aa<|Aa<|Av<|A0 ?_)
   exact ⟨hF.sub kr,hS,h⟩
 rintro a w ⟨hF,hS,h⟩
 rw [Fw] at h
 refine WI.region ?_
 refine rn 1 1 [(70,.iface 128 (iv 7))] hF fun a hF=>?_
 refine Ny (t:=128) (v:=iv 7) hF ⟨kr⟩ (Ax hF ?_)
 obtain rfl:=Ao h
 replace hS:=hS
 exact .inr ⟨_,rfl,rfl,μ,ad1,cap2,hext,hlow,hA3,hS⟩
theorem Rj (F:Nat) (p0:ByteArray) (res:Bool) (h:Ly F p0=some res) (μ:Frz) (w0:World) (hm:FrzAt μ w0):Calls Tryz.prog 121 #[.string p0] w0 (fun e w=>e=.returned (.bool res)∧Ext w0 w):=by
 obtain ⟨hlow,hS⟩:=hm.init
 have hext:=Frz.ext_refl w0.heap.size μ
 rw [Ly] at h
 refine Ag Tryz.func121 rfl 25 [(0,.string p0)] rfl rfl kr fun a w hw hF=>?_
 replace hS:=hS.cast hw
 clear hw
 refine qnB [] hF fun a hF=>?_
 refine esr ?_
 obtain ⟨u1,hu1,h⟩:=A1 h
 obtain ⟨u2,hu2,h⟩:=A1 h
 refine rX 23 23 [(2,.bool (bif (bif (bif (bif (!(sEq p0 (⟨#[]⟩:ByteArray))) then (decide (((p0.size:Nat):Int)≤12)) else false) then (decide (u1≥97)) else false) then (decide (u2≤122)) else false) then (!(De p0)) else false))] hF (oX (.run [] (Pk .neq 9 p0 (⟨#[]⟩:ByteArray)) (.bool (!(sEq p0 (⟨#[]⟩:ByteArray))))) Ru<|oX (.run [⟨10,true,(bif (!(sEq p0 (⟨#[]⟩:ByteArray))) then (decide (((p0.size:Nat):Int)≤12)) else false)⟩] (Instr.index 9 (.string p0) (iv 0)) (.int .u8 u1)) (R3 kr (fun hk=>Cx hu1 hk))<|oX (.run [⟨15,true,(bif (bif (!(sEq p0 (⟨#[]⟩:ByteArray))) then (decide (((p0.size:Nat):Int)≤12)) else false) then (decide (u1≥97)) else false)⟩] (Instr.index 9 (.string p0) (iv 0)) (.int .u8 u2)) (R3 kr (fun hk=>Cx hu2 hk))<|oX (.call [⟨20,true,(bif (bif (bif (!(sEq p0 (⟨#[]⟩:ByteArray))) then (decide (((p0.size:Nat):Int)≤12)) else false) then (decide (u1≥97)) else false) then (decide (u2≤122)) else false)⟩] 133 #[.string p0,.func (.func 134) #[] #[]] (.bool (De p0))) (show Ob.ok _ Ext _ _ from fun hk w2 hd=>Nf p0 _ rfl _ w2 (A5 w2))<|A9) fun a w hF hx=>?_
 replace hS:=hS.later hx
 refine wfn rfl ?_
 refine wpIn_ret (Ad [.tmp 2] [.bool (bif (bif (bif (bif (!(sEq p0 (⟨#[]⟩:ByteArray))) then (decide (((p0.size:Nat):Int)≤12)) else false) then (decide (u1≥97)) else false) then (decide (u2≤122)) else false) then (!(De p0)) else false)] hF rfl ⟨rfl,trivial⟩ ?_)
 obtain rfl:=Ao h
 exact ⟨rfl,hS.ext⟩
theorem Ch (p0:Int) (p1:Int) (p2:Int) (res:Bool) (h:Ah p0 p1 p2=res) (μ:Frz) (w0:World) (hm:FrzAt μ w0):Calls Tryz.prog 122 #[iv p0,iv p1,iv p2] w0 (fun e w=>e=.returned (.bool res)∧Ext w0 w):=by
 obtain ⟨hlow,hS⟩:=hm.init
 have hext:=Frz.ext_refl w0.heap.size μ
 rw [Ah] at h
 refine Ag Tryz.func122 rfl 15 [(0,iv p0),(1,iv p1),(2,iv p2)] rfl rfl kr fun a w hw hF=>?_
 replace hS:=hS.cast hw
 clear hw
 refine qnB [] hF fun a hF=>?_
 refine rnB [(6,.bool (bif (decide (p1≤p0)) then (decide (p0≤p2)) else false))] hF fun a hF=>?_
 refine wpIn_ret (Ad [.tmp 6] [.bool (bif (decide (p1≤p0)) then (decide (p0≤p2)) else false)] hF rfl ⟨rfl,trivial⟩ ?_)
 subst h
 exact ⟨rfl,hS.ext⟩
theorem Gt (p0:Int) (p1:Int) (p2:Int) (res:Bool) (h:Aq p0 p1 p2=res) (μ:Frz) (w0:World) (hm:FrzAt μ w0):Calls Tryz.prog 171 #[iv p0,iv p1,iv p2] w0 (fun e w=>e=.returned (.bool res)∧Ext w0 w):=by
 obtain ⟨hlow,hS⟩:=hm.init
 have hext:=Frz.ext_refl w0.heap.size μ
 rw [Aq] at h
 refine Ag Tryz.func171 rfl 15 [(0,iv p0),(1,iv p1),(2,iv p2)] rfl rfl kr fun a w hw hF=>?_
 replace hS:=hS.cast hw
 clear hw
 refine qnB [] hF fun a hF=>?_
 refine rnB [(6,.bool (bif (decide (p1≤p0)) then (decide (p0≤p2)) else false))] hF fun a hF=>?_
 refine wpIn_ret (Ad [.tmp 6] [.bool (bif (decide (p1≤p0)) then (decide (p0≤p2)) else false)] hF rfl ⟨rfl,trivial⟩ ?_)
 subst h
 exact ⟨rfl,hS.ext⟩
theorem Ln (p0:api_Span) (p1:Int) (p2:Int) (res:Bool) (h:Ac p0 p1 p2=res) (μ:Frz) (w0:World) (hm:FrzAt μ w0):Calls Tryz.prog 174 #[.agg #[iv p0.Lo,iv p0.Hi],iv p1,iv p2] w0 (fun e w=>e=.returned (.bool res)∧Ext w0 w):=by
 obtain ⟨hlow,hS⟩:=hm.init
 have hext:=Frz.ext_refl w0.heap.size μ
 rw [Ac] at h
 refine Ag Tryz.func174 rfl 24 [(0,.agg #[iv p0.Lo,iv p0.Hi]),(1,iv p1),(2,iv p2)] rfl rfl kr fun a w hw hF=>?_
 replace hS:=hS.cast hw
 clear hw
 refine esr ?_
 refine SK.wi (qB 146 (.agg #[iv p0.Lo,iv p0.Hi]) #[iv p0.Lo,iv p0.Hi] (fun b1=>[(3,pb b1)]) hF hS fun b1 w a hF hS=>?_)
 refine qn 1 2 [] hF fun a hF=>?_
 refine wfn rfl ?_
 refine roB [(6,.bool (bif (bif (decide (p1≤p0.Lo)) then (decide (p0.Lo≤p0.Hi)) else false) then (decide (p0.Hi≤p2)) else false))] hF (oL 3 0 0 hS.i rfl rfl<|oX (.run [⟨11,true,(decide (p1≤p0.Lo))⟩] (Instr.loadAt 3 (pb b1)) (iv p0.Lo)) (ob1 kr (fun _ hd=>(hS.at_ hd).cell (i:=0) (j:=0) rfl rfl))<|oX (.run [⟨11,true,(decide (p1≤p0.Lo))⟩] (Instr.loadAt 3 (.pointer (some ⟨b1,1,none⟩))) (iv p0.Hi)) (ob1 kr (fun _ hd=>(hS.at_ hd).cell (i:=0) (j:=1) rfl rfl))<|oX (.run [⟨18,true,(bif (decide (p1≤p0.Lo)) then (decide (p0.Lo≤p0.Hi)) else false)⟩] (Instr.loadAt 3 (.pointer (some ⟨b1,1,none⟩))) (iv p0.Hi)) (ob1 kr (fun _ hd=>(hS.at_ hd).cell (i:=0) (j:=1) rfl rfl))<|A9) fun a hF=>?_
 refine wpIn_ret (Ad [.tmp 6] [.bool (bif (bif (decide (p1≤p0.Lo)) then (decide (p0.Lo≤p0.Hi)) else false) then (decide (p0.Hi≤p2)) else false)] hF rfl ⟨rfl,trivial⟩ ?_)
 subst h
 exact ⟨rfl,hS.ext⟩
theorem Lj (F:Nat) (p0:volume_note) (res:Int) (h:B6 F p0=some res) (μ:Frz) (w0:World) (hm:FrzAt μ w0):Calls Tryz.prog 184 #[.agg #[iv p0.time,.string p0.text]] w0 (fun e w=>e=.returned (iv res)∧Ext w0 w):=by
 obtain ⟨hlow,hS⟩:=hm.init
 have hext:=Frz.ext_refl w0.heap.size μ
 rw [B6] at h
 refine Ag Tryz.func184 rfl 34 [(0,.agg #[iv p0.time,.string p0.text])] rfl rfl kr fun a w hw hF=>?_
 replace hS:=hS.cast hw
 clear hw
 refine esr ?_
 refine SK.wi (J6 (t:=160) (fun b1=>[(1,pb b1)]) (.agg #[iv p0.time,.string p0.text]) #[iv p0.time,.string p0.text] hF hS kr ⟨kr⟩ kr (fun _=>⟨kr⟩) fun b1 w a hF hS=>?_)
 refine rn 1 2 [(1,pb b1)] hF fun a hF=>?_
 refine wfn rfl ?_
 refine Ar ?_
 refine wpIn_block ?_
 refine qoB [(5,.bool (bif (decide (p0.time<0)) then true else (decide (p0.time>4294967296))))] hF (oL 3 0 0 hS.i rfl rfl<|oX (.run [⟨9,false,(decide (p0.time<0))⟩] (Instr.loadAt 3 (pb b1)) (iv p0.time)) (ob1 kr (fun _ hd=>(hS.at_ hd).cell (i:=0) (j:=0) rfl rfl))<|A9) fun a hF=>?_
 refine Aj hF rfl (fun hc=>?_) (fun hc=>?_)
 ·replace h:=Af h hc
  refine rnB [(2,iv 3)] hF fun a hF=>?_
  refine wpIn_ret (Ai<|A6<|Ad [.tmp 2] [iv 3] hF rfl ⟨rfl,trivial⟩ ?_)
  obtain rfl:=Ao h
  exact ⟨rfl,hS.ext⟩
 ·replace h:=Ae h hc
  refine qoB [(14,.bool (decide (((p0.text.size:Nat):Int)>200)))] hF (oL 9 0 1 hS.i rfl rfl<|A9) fun a hF=>?_
  refine Aj hF rfl (fun hc=>?_) (fun hc=>?_)
  ·replace h:=Af h hc
   refine rnB [(2,iv 8)] hF fun a hF=>?_
   refine wpIn_ret (Ai<|A6<|Ad [.tmp 2] [iv 8] hF rfl ⟨rfl,trivial⟩ ?_)
   obtain rfl:=Ao h
   exact ⟨rfl,hS.ext⟩
  ·replace h:=Ae h hc
   refine wpIn_skip (Ab<|A0<|?_)
   refine D9 (fun a w=>Fr 34 [] [] a∧St w0 [blk b1 160 #[iv p0.time,.string p0.text],fz w0 μ] w∧Fs=some res) ?_ ?_
   ·skip
    refine esr ?_
    refine ro 2 2 [(20,.string p0.text)] hF (oL 9 0 1 hS.i rfl rfl<|A9) fun a hF=>?_
    obtain ⟨a0,a7,h⟩:=A1 h
    refine SK.wi (Yg (src:=9) (dst:=22) 5 (fun a1 a2=>[(21,sv a1 a0 a2)]) hF hS kr ⟨kr⟩ kr kr kr a7 (fun _ _=>⟨kr⟩) fun a1 a2 w a hF hS=>?_)
    refine rn 2 5 [(21,sv a1 a0 a2),(22,iv (ln a0)),(23,iv 0)] hF fun a hF=>?_
    refine wfn rfl ?_
    refine wpIn_block ?_
    refine Ci (fun n_ a w=>∃(a3:Int),Fr 34 [] [(21,sv a1 a0 a2),(22,iv (ln a0)),(23,iv a3)] a∧St w0 [arrT 5 1 (fK .u8) a1 a0.length a2 a0,blk b1 160 #[iv p0.time,.string p0.text],fz w0 μ] w∧Bu a0 n_ a3=some res) F ⟨0,hF.sub kr,St.pick [0,1,2] (by decide) hS,h⟩ ?_
    rintro nk2 a w ⟨a3,hF,hS,h⟩
    rcases nk2 with _|nk2
    ·cases (show (none:Option Int)=some res from h)
    obtain ⟨k2,hk2⟩:∃k,k=Bu a0 nk2:=⟨_,rfl⟩
    replace h:Ef a0 k2 a3=some res:=by rw [hk2];exact h
    rw [Ef] at h
    refine qnB [(24,.bool (decide (a3<(ln a0))))] hF fun a hF=>?_
    refine Ar ?_
    refine Aj hF rfl (fun hc=>?_) (fun hc=>?_)
    ·replace h:=Af h hc
     refine wpIn_skip (A0 ?_)
     refine Ar ?_
     refine wpIn_block ?_
     refine esr ?_
     obtain ⟨a4,a5,h⟩:=A1 h
     refine qo 3 3 [(4,.int .u8 a4)] hF (oI 22 (hS.arrT_ (i:=0) rfl) a5<|oE 5 0 (Bx .u8) (fun _ hd=>((hS.at_ hd).arrT_ (i:=0) rfl)) a5 rfl<|A9) fun a hF=>?_
     refine wfn rfl ?_
     refine qnB [(32,.bool (bif (decide (a4<32)) then true else (decide (a4>126))))] hF fun a hF=>?_
     refine Aj hF rfl (fun hc=>?_) (fun hc=>?_)
     ·replace h:=Af h hc
      refine rnB [(2,iv 7)] hF fun a hF=>?_
      refine wpIn_ret (Ai<|A6<|A6<|Ai<|A6<|Ad [.tmp 2] [iv 7] hF rfl ⟨rfl,trivial⟩ ?_)
      obtain rfl:=Ao h
      exact ⟨rfl,hS.ext⟩
     ·replace h:=Ae h hc
      refine wpIn_skip (Ab<|A0<|?_)
      refine WI.region ?_
      obtain ⟨a6,a8,h⟩:=A1 h
      refine ro 2 2 [(21,sv a1 a0 a2),(22,iv (ln a0)),(23,iv a6)] hF (oA 3 a8<|A9) fun a hF=>?_
      refine wfn rfl ?_
      rw [hk2] at h
      exact ⟨nk2,Nat.lt_succ_self _,a6,hF.sub kr,St.pick [0,1,2] (by decide) hS,h⟩
    ·replace h:=Ae h hc
     refine wpIn_exit (Aa<|Aa<|Av<|A0 ?_)
     exact ⟨hF.sub kr,St.pick [1,2] (by decide) hS,h⟩
   rintro a w ⟨hF,hS,h⟩
   rw [Fs] at h
   refine rnB [(2,iv 0)] hF fun a hF=>?_
   refine wpIn_ret (Ad [.tmp 2] [iv 0] hF rfl ⟨rfl,trivial⟩ ?_)
   obtain rfl:=Ao h
   exact ⟨rfl,hS.ext⟩
theorem Lk (p0:volume_sweep) (res:volume_Item) (h:A3 p0=res) (μ:Frz) (w0:World) (hm:FrzAt μ w0) {ad1:Option Addr} {cap2:Nat} {css3:List (List Value)} (hA4:ArrQ μ 1 Rp87 ad1 cap2 css3 p0.Sweep.Rays):Bj Tryz.prog 163 #[.agg #[.string p0.Sweep.Site.Name,iv p0.Sweep.Site.X,iv p0.Sweep.Site.Y,iv p0.Sweep.Site.Z,iv p0.Sweep.Site.Rose,iv p0.Sweep.Site.Gates,iv p0.Sweep.Site.Step,iv p0.Sweep.Site.Width,iv p0.Sweep.Tilt,iv p0.Sweep.Time,sv ad1 p0.Sweep.Rays cap2]] w0 (fun e w=>∃(ν_:Frz) (ad7:Option Addr) (cap8:Nat) (css9:List (List Value)) (a0:Option Addr) (a1:Nat),μ.ext w0.heap.size ν_∧e=(.agg #[iv res.Kind,.string res.Name,iv res.Time,.string res.Sweep.Site.Name,iv res.Sweep.Site.X,iv res.Sweep.Site.Y,iv res.Sweep.Site.Z,iv res.Sweep.Site.Rose,iv res.Sweep.Site.Gates,iv res.Sweep.Site.Step,iv res.Sweep.Site.Width,iv res.Sweep.Tilt,iv res.Sweep.Time,sv ad7 res.Sweep.Rays cap8,iv res.Field.Grid.X,iv res.Field.Grid.Y,iv res.Field.Grid.Size,iv res.Field.Grid.Wide,iv res.Field.Grid.High,sv a0 res.Field.Vals a1,.string res.Text])∧ArrQ ν_ 1 Rp87 ad7 cap8 css9 res.Sweep.Rays∧ArrM ν_ 2 api_Span.cells a0 a1 res.Field.Vals∧St w0 [fz w0 ν_] w):=by
 obtain ⟨hlow,hS⟩:=hm.init
 have hext:=Frz.ext_refl w0.heap.size μ
 rw [A3] at h
 refine Ag Tryz.func163 rfl 6 [(0,.agg #[.string p0.Sweep.Site.Name,iv p0.Sweep.Site.X,iv p0.Sweep.Site.Y,iv p0.Sweep.Site.Z,iv p0.Sweep.Site.Rose,iv p0.Sweep.Site.Gates,iv p0.Sweep.Site.Step,iv p0.Sweep.Site.Width,iv p0.Sweep.Tilt,iv p0.Sweep.Time,sv ad1 p0.Sweep.Rays cap2])] rfl rfl kr fun a w hw hF=>?_
 replace hS:=hS.cast hw
 clear hw
 refine esr ?_
 refine SK.wi (J6 (t:=156) (fun b5=>[(1,pb b5)]) (.agg #[.string p0.Sweep.Site.Name,iv p0.Sweep.Site.X,iv p0.Sweep.Site.Y,iv p0.Sweep.Site.Z,iv p0.Sweep.Site.Rose,iv p0.Sweep.Site.Gates,iv p0.Sweep.Site.Step,iv p0.Sweep.Site.Width,iv p0.Sweep.Tilt,iv p0.Sweep.Time,sv ad1 p0.Sweep.Rays cap2]) #[.string p0.Sweep.Site.Name,iv p0.Sweep.Site.X,iv p0.Sweep.Site.Y,iv p0.Sweep.Site.Z,iv p0.Sweep.Site.Rose,iv p0.Sweep.Site.Gates,iv p0.Sweep.Site.Step,iv p0.Sweep.Site.Width,iv p0.Sweep.Tilt,iv p0.Sweep.Time,sv ad1 p0.Sweep.Rays cap2] hF hS kr ⟨kr⟩ kr (fun _=>⟨kr⟩) fun b5 w a hF hS=>?_)
 refine SK.wi (Kp (t:=48) (fun b6=>[(1,pb b5),(2,pb b6)]) #[iv 0,.string ByteArray.empty,iv 0,.string ByteArray.empty,iv 0,iv 0,iv 0,iv 0,iv 0,iv 0,iv 0,iv 0,iv 0,.slice none 0 0,iv 0,iv 0,iv 0,iv 0,iv 0,.slice none 0 0,.string ByteArray.empty] hF hS kr ⟨kr⟩ kr (fun _=>⟨kr⟩) fun b6 w a hF hS=>?_)
 refine wfn rfl ?_
 refine esr ?_
 refine ro 3 3 [(2,pb b6),(5,.agg #[iv 1,.string ByteArray.empty,iv 0,.string p0.Sweep.Site.Name,iv p0.Sweep.Site.X,iv p0.Sweep.Site.Y,iv p0.Sweep.Site.Z,iv p0.Sweep.Site.Rose,iv p0.Sweep.Site.Gates,iv p0.Sweep.Site.Step,iv p0.Sweep.Site.Width,iv p0.Sweep.Tilt,iv p0.Sweep.Time,sv ad1 p0.Sweep.Rays cap2,iv 0,iv 0,iv 0,iv 0,iv 0,.slice none 0 0,.string ByteArray.empty])] hF (oN 41 1 0 11 hS.i rfl<|A9) fun a hF=>?_
 refine SK.wi (qS 48 0 0 (.agg #[iv 1,.string ByteArray.empty,iv 0,.string p0.Sweep.Site.Name,iv p0.Sweep.Site.X,iv p0.Sweep.Site.Y,iv p0.Sweep.Site.Z,iv p0.Sweep.Site.Rose,iv p0.Sweep.Site.Gates,iv p0.Sweep.Site.Step,iv p0.Sweep.Site.Width,iv p0.Sweep.Tilt,iv p0.Sweep.Time,sv ad1 p0.Sweep.Rays cap2,iv 0,iv 0,iv 0,iv 0,iv 0,.slice none 0 0,.string ByteArray.empty]) #[iv 1,.string ByteArray.empty,iv 0,.string p0.Sweep.Site.Name,iv p0.Sweep.Site.X,iv p0.Sweep.Site.Y,iv p0.Sweep.Site.Z,iv p0.Sweep.Site.Rose,iv p0.Sweep.Site.Gates,iv p0.Sweep.Site.Step,iv p0.Sweep.Site.Width,iv p0.Sweep.Tilt,iv p0.Sweep.Time,sv ad1 p0.Sweep.Rays cap2,iv 0,iv 0,iv 0,iv 0,iv 0,.slice none 0 0,.string ByteArray.empty] hF hS rfl fun w a hF hS=>?_)
 refine wfn rfl ?_
 refine wpIn_ret (Ad [.cell 2 48] [.agg #[iv 1,.string ByteArray.empty,iv 0,.string p0.Sweep.Site.Name,iv p0.Sweep.Site.X,iv p0.Sweep.Site.Y,iv p0.Sweep.Site.Z,iv p0.Sweep.Site.Rose,iv p0.Sweep.Site.Gates,iv p0.Sweep.Site.Step,iv p0.Sweep.Site.Width,iv p0.Sweep.Tilt,iv p0.Sweep.Time,sv ad1 p0.Sweep.Rays cap2,iv 0,iv 0,iv 0,iv 0,iv 0,.slice none 0 0,.string ByteArray.empty]] hF rfl ⟨⟨_,rfl,Mf (cs:=[iv 1,.string ByteArray.empty,iv 0,.string p0.Sweep.Site.Name,iv p0.Sweep.Site.X,iv p0.Sweep.Site.Y,iv p0.Sweep.Site.Z,iv p0.Sweep.Site.Rose,iv p0.Sweep.Site.Gates,iv p0.Sweep.Site.Step,iv p0.Sweep.Site.Width,iv p0.Sweep.Tilt,iv p0.Sweep.Time,sv ad1 p0.Sweep.Rays cap2,iv 0,iv 0,iv 0,iv 0,iv 0,.slice none 0 0,.string ByteArray.empty]) kr ((hS.blk (i:=0) rfl).cells rfl)⟩,trivial⟩ ?_)
 subst h
 exact ⟨_,rfl,μ,ad1,cap2,css3,none,0,hext,rfl,hA4,ArrM.nil,St.pick [2] (by decide) hS⟩
theorem Lh (p0:volume_field) (res:volume_Item) (h:A2 p0=res) (μ:Frz) (w0:World) (hm:FrzAt μ w0) {ad1:Option Addr} {cap2:Nat} (hA3:ArrM μ 2 api_Span.cells ad1 cap2 p0.Field.Vals):Bj Tryz.prog 177 #[.agg #[.string p0.key,iv p0.time,iv p0.Field.Grid.X,iv p0.Field.Grid.Y,iv p0.Field.Grid.Size,iv p0.Field.Grid.Wide,iv p0.Field.Grid.High,sv ad1 p0.Field.Vals cap2]] w0 (fun e w=>∃(ν_:Frz) (ad6:Option Addr) (cap7:Nat) (css8:List (List Value)) (ad9:Option Addr) (a0:Nat),μ.ext w0.heap.size ν_∧e=(.agg #[iv res.Kind,.string res.Name,iv res.Time,.string res.Sweep.Site.Name,iv res.Sweep.Site.X,iv res.Sweep.Site.Y,iv res.Sweep.Site.Z,iv res.Sweep.Site.Rose,iv res.Sweep.Site.Gates,iv res.Sweep.Site.Step,iv res.Sweep.Site.Width,iv res.Sweep.Tilt,iv res.Sweep.Time,sv ad6 res.Sweep.Rays cap7,iv res.Field.Grid.X,iv res.Field.Grid.Y,iv res.Field.Grid.Size,iv res.Field.Grid.Wide,iv res.Field.Grid.High,sv ad9 res.Field.Vals a0,.string res.Text])∧ArrQ ν_ 1 Rp87 ad6 cap7 css8 res.Sweep.Rays∧ArrM ν_ 2 api_Span.cells ad9 a0 res.Field.Vals∧St w0 [fz w0 ν_] w):=by
 obtain ⟨hlow,hS⟩:=hm.init
 have hext:=Frz.ext_refl w0.heap.size μ
 rw [A2] at h
 refine Ag Tryz.func177 rfl 10 [(0,.agg #[.string p0.key,iv p0.time,iv p0.Field.Grid.X,iv p0.Field.Grid.Y,iv p0.Field.Grid.Size,iv p0.Field.Grid.Wide,iv p0.Field.Grid.High,sv ad1 p0.Field.Vals cap2])] rfl rfl kr fun a w hw hF=>?_
 replace hS:=hS.cast hw
 clear hw
 refine esr ?_
 refine SK.wi (J6 (t:=158) (fun b4=>[(1,pb b4)]) (.agg #[.string p0.key,iv p0.time,iv p0.Field.Grid.X,iv p0.Field.Grid.Y,iv p0.Field.Grid.Size,iv p0.Field.Grid.Wide,iv p0.Field.Grid.High,sv ad1 p0.Field.Vals cap2]) #[.string p0.key,iv p0.time,iv p0.Field.Grid.X,iv p0.Field.Grid.Y,iv p0.Field.Grid.Size,iv p0.Field.Grid.Wide,iv p0.Field.Grid.High,sv ad1 p0.Field.Vals cap2] hF hS kr ⟨kr⟩ kr (fun _=>⟨kr⟩) fun b4 w a hF hS=>?_)
 refine SK.wi (Kp (t:=48) (fun b5=>[(1,pb b4),(2,pb b5)]) #[iv 0,.string ByteArray.empty,iv 0,.string ByteArray.empty,iv 0,iv 0,iv 0,iv 0,iv 0,iv 0,iv 0,iv 0,iv 0,.slice none 0 0,iv 0,iv 0,iv 0,iv 0,iv 0,.slice none 0 0,.string ByteArray.empty] hF hS kr ⟨kr⟩ kr (fun _=>⟨kr⟩) fun b5 w a hF hS=>?_)
 refine wfn rfl ?_
 refine esr ?_
 refine ro 7 7 [(2,pb b5),(9,.agg #[iv 2,.string p0.key,iv p0.time,.string ByteArray.empty,iv 0,iv 0,iv 0,iv 0,iv 0,iv 0,iv 0,iv 0,iv 0,.slice none 0 0,iv p0.Field.Grid.X,iv p0.Field.Grid.Y,iv p0.Field.Grid.Size,iv p0.Field.Grid.Wide,iv p0.Field.Grid.High,sv ad1 p0.Field.Vals cap2,.string ByteArray.empty])] hF (oL 9 1 0 hS.i rfl rfl<|oL 3 1 1 hS.i rfl rfl<|oN 46 1 2 6 hS.i rfl<|A9) fun a hF=>?_
 refine SK.wi (qS 48 0 0 (.agg #[iv 2,.string p0.key,iv p0.time,.string ByteArray.empty,iv 0,iv 0,iv 0,iv 0,iv 0,iv 0,iv 0,iv 0,iv 0,.slice none 0 0,iv p0.Field.Grid.X,iv p0.Field.Grid.Y,iv p0.Field.Grid.Size,iv p0.Field.Grid.Wide,iv p0.Field.Grid.High,sv ad1 p0.Field.Vals cap2,.string ByteArray.empty]) #[iv 2,.string p0.key,iv p0.time,.string ByteArray.empty,iv 0,iv 0,iv 0,iv 0,iv 0,iv 0,iv 0,iv 0,iv 0,.slice none 0 0,iv p0.Field.Grid.X,iv p0.Field.Grid.Y,iv p0.Field.Grid.Size,iv p0.Field.Grid.Wide,iv p0.Field.Grid.High,sv ad1 p0.Field.Vals cap2,.string ByteArray.empty] hF hS rfl fun w a hF hS=>?_)
 refine wfn rfl ?_
 refine wpIn_ret (Ad [.cell 2 48] [.agg #[iv 2,.string p0.key,iv p0.time,.string ByteArray.empty,iv 0,iv 0,iv 0,iv 0,iv 0,iv 0,iv 0,iv 0,iv 0,.slice none 0 0,iv p0.Field.Grid.X,iv p0.Field.Grid.Y,iv p0.Field.Grid.Size,iv p0.Field.Grid.Wide,iv p0.Field.Grid.High,sv ad1 p0.Field.Vals cap2,.string ByteArray.empty]] hF rfl ⟨⟨_,rfl,Mf (cs:=[iv 2,.string p0.key,iv p0.time,.string ByteArray.empty,iv 0,iv 0,iv 0,iv 0,iv 0,iv 0,iv 0,iv 0,iv 0,.slice none 0 0,iv p0.Field.Grid.X,iv p0.Field.Grid.Y,iv p0.Field.Grid.Size,iv p0.Field.Grid.Wide,iv p0.Field.Grid.High,sv ad1 p0.Field.Vals cap2,.string ByteArray.empty]) kr ((hS.blk (i:=0) rfl).cells rfl)⟩,trivial⟩ ?_)
 subst h
 exact ⟨_,rfl,μ,none,0,[],ad1,cap2,hext,rfl,ArrQ.nil,hA3,St.pick [2] (by decide) hS⟩
theorem Lp (p0:volume_note) (res:volume_Item) (h:A4 p0=res) (μ:Frz) (w0:World) (hm:FrzAt μ w0):Bj Tryz.prog 185 #[.agg #[iv p0.time,.string p0.text]] w0 (fun e w=>∃(ν_:Frz) (ad3:Option Addr) (cap4:Nat) (css5:List (List Value)) (ad6:Option Addr) (cap7:Nat),μ.ext w0.heap.size ν_∧e=(.agg #[iv res.Kind,.string res.Name,iv res.Time,.string res.Sweep.Site.Name,iv res.Sweep.Site.X,iv res.Sweep.Site.Y,iv res.Sweep.Site.Z,iv res.Sweep.Site.Rose,iv res.Sweep.Site.Gates,iv res.Sweep.Site.Step,iv res.Sweep.Site.Width,iv res.Sweep.Tilt,iv res.Sweep.Time,sv ad3 res.Sweep.Rays cap4,iv res.Field.Grid.X,iv res.Field.Grid.Y,iv res.Field.Grid.Size,iv res.Field.Grid.Wide,iv res.Field.Grid.High,sv ad6 res.Field.Vals cap7,.string res.Text])∧ArrQ ν_ 1 Rp87 ad3 cap4 css5 res.Sweep.Rays∧ArrM ν_ 2 api_Span.cells ad6 cap7 res.Field.Vals∧St w0 [fz w0 ν_] w):=by
 obtain ⟨hlow,hS⟩:=hm.init
 have hext:=Frz.ext_refl w0.heap.size μ
 rw [A4] at h
 refine Ag Tryz.func185 rfl 8 [(0,.agg #[iv p0.time,.string p0.text])] rfl rfl kr fun a w hw hF=>?_
 replace hS:=hS.cast hw
 clear hw
 refine esr ?_
 refine SK.wi (J6 (t:=160) (fun b1=>[(1,pb b1)]) (.agg #[iv p0.time,.string p0.text]) #[iv p0.time,.string p0.text] hF hS kr ⟨kr⟩ kr (fun _=>⟨kr⟩) fun b1 w a hF hS=>?_)
 refine SK.wi (Kp (t:=48) (fun b2=>[(1,pb b1),(2,pb b2)]) #[iv 0,.string ByteArray.empty,iv 0,.string ByteArray.empty,iv 0,iv 0,iv 0,iv 0,iv 0,iv 0,iv 0,iv 0,iv 0,.slice none 0 0,iv 0,iv 0,iv 0,iv 0,iv 0,.slice none 0 0,.string ByteArray.empty] hF hS kr ⟨kr⟩ kr (fun _=>⟨kr⟩) fun b2 w a hF hS=>?_)
 refine wfn rfl ?_
 refine esr ?_
 refine ro 5 5 [(2,pb b2),(7,.agg #[iv 3,.string ByteArray.empty,iv p0.time,.string ByteArray.empty,iv 0,iv 0,iv 0,iv 0,iv 0,iv 0,iv 0,iv 0,iv 0,.slice none 0 0,iv 0,iv 0,iv 0,iv 0,iv 0,.slice none 0 0,.string p0.text])] hF (oL 3 1 0 hS.i rfl rfl<|oL 9 1 1 hS.i rfl rfl<|A9) fun a hF=>?_
 refine SK.wi (qS 48 0 0 (.agg #[iv 3,.string ByteArray.empty,iv p0.time,.string ByteArray.empty,iv 0,iv 0,iv 0,iv 0,iv 0,iv 0,iv 0,iv 0,iv 0,.slice none 0 0,iv 0,iv 0,iv 0,iv 0,iv 0,.slice none 0 0,.string p0.text]) #[iv 3,.string ByteArray.empty,iv p0.time,.string ByteArray.empty,iv 0,iv 0,iv 0,iv 0,iv 0,iv 0,iv 0,iv 0,iv 0,.slice none 0 0,iv 0,iv 0,iv 0,iv 0,iv 0,.slice none 0 0,.string p0.text] hF hS rfl fun w a hF hS=>?_)
 refine wfn rfl ?_
 refine wpIn_ret (Ad [.cell 2 48] [.agg #[iv 3,.string ByteArray.empty,iv p0.time,.string ByteArray.empty,iv 0,iv 0,iv 0,iv 0,iv 0,iv 0,iv 0,iv 0,iv 0,.slice none 0 0,iv 0,iv 0,iv 0,iv 0,iv 0,.slice none 0 0,.string p0.text]] hF rfl ⟨⟨_,rfl,Mf (cs:=[iv 3,.string ByteArray.empty,iv p0.time,.string ByteArray.empty,iv 0,iv 0,iv 0,iv 0,iv 0,iv 0,iv 0,iv 0,iv 0,.slice none 0 0,iv 0,iv 0,iv 0,iv 0,iv 0,.slice none 0 0,.string p0.text]) kr ((hS.blk (i:=0) rfl).cells rfl)⟩,trivial⟩ ?_)
 subst h
 exact ⟨_,rfl,μ,none,0,[],none,0,hext,rfl,ArrQ.nil,ArrM.nil,St.pick [2] (by decide) hS⟩
theorem Qo (F:Nat) (p0:volume_Item) (p1:volume_Item) (res:Bool) (h:Nu F p0 p1=some res) (μ:Frz) (w0:World) (hm:FrzAt μ w0) {ad1:Option Addr} {cap2:Nat} {css3:List (List Value)} {ad4:Option Addr} {cap5:Nat} {ad8:Option Addr} {cap9:Nat} {a6:List (List Value)} {a0:Option Addr} {a1:Nat} (hA6:ArrQ μ 1 Rp87 ad1 cap2 css3 p0.Sweep.Rays) (hA7:ArrM μ 2 api_Span.cells ad4 cap5 p0.Field.Vals) (a7:ArrQ μ 1 Rp87 ad8 cap9 a6 p1.Sweep.Rays) (a8:ArrM μ 2 api_Span.cells a0 a1 p1.Field.Vals):Calls Tryz.prog 27 #[.agg #[iv p0.Kind,.string p0.Name,iv p0.Time,.string p0.Sweep.Site.Name,iv p0.Sweep.Site.X,iv p0.Sweep.Site.Y,iv p0.Sweep.Site.Z,iv p0.Sweep.Site.Rose,iv p0.Sweep.Site.Gates,iv p0.Sweep.Site.Step,iv p0.Sweep.Site.Width,iv p0.Sweep.Tilt,iv p0.Sweep.Time,sv ad1 p0.Sweep.Rays cap2,iv p0.Field.Grid.X,iv p0.Field.Grid.Y,iv p0.Field.Grid.Size,iv p0.Field.Grid.Wide,iv p0.Field.Grid.High,sv ad4 p0.Field.Vals cap5,.string p0.Text],.agg #[iv p1.Kind,.string p1.Name,iv p1.Time,.string p1.Sweep.Site.Name,iv p1.Sweep.Site.X,iv p1.Sweep.Site.Y,iv p1.Sweep.Site.Z,iv p1.Sweep.Site.Rose,iv p1.Sweep.Site.Gates,iv p1.Sweep.Site.Step,iv p1.Sweep.Site.Width,iv p1.Sweep.Tilt,iv p1.Sweep.Time,sv ad8 p1.Sweep.Rays cap9,iv p1.Field.Grid.X,iv p1.Field.Grid.Y,iv p1.Field.Grid.Size,iv p1.Field.Grid.Wide,iv p1.Field.Grid.High,sv a0 p1.Field.Vals a1,.string p1.Text]] w0 (fun e w=>e=.returned (.bool res)∧Ext w0 w):=by
 obtain ⟨hlow,hS⟩:=hm.init
 have hext:=Frz.ext_refl w0.heap.size μ
 rw [Nu] at h
 refine Ag Tryz.func27 rfl 45 [(0,.agg #[iv p0.Kind,.string p0.Name,iv p0.Time,.string p0.Sweep.Site.Name,iv p0.Sweep.Site.X,iv p0.Sweep.Site.Y,iv p0.Sweep.Site.Z,iv p0.Sweep.Site.Rose,iv p0.Sweep.Site.Gates,iv p0.Sweep.Site.Step,iv p0.Sweep.Site.Width,iv p0.Sweep.Tilt,iv p0.Sweep.Time,sv ad1 p0.Sweep.Rays cap2,iv p0.Field.Grid.X,iv p0.Field.Grid.Y,iv p0.Field.Grid.Size,iv p0.Field.Grid.Wide,iv p0.Field.Grid.High,sv ad4 p0.Field.Vals cap5,.string p0.Text]),(1,.agg #[iv p1.Kind,.string p1.Name,iv p1.Time,.string p1.Sweep.Site.Name,iv p1.Sweep.Site.X,iv p1.Sweep.Site.Y,iv p1.Sweep.Site.Z,iv p1.Sweep.Site.Rose,iv p1.Sweep.Site.Gates,iv p1.Sweep.Site.Step,iv p1.Sweep.Site.Width,iv p1.Sweep.Tilt,iv p1.Sweep.Time,sv ad8 p1.Sweep.Rays cap9,iv p1.Field.Grid.X,iv p1.Field.Grid.Y,iv p1.Field.Grid.Size,iv p1.Field.Grid.Wide,iv p1.Field.Grid.High,sv a0 p1.Field.Vals a1,.string p1.Text])] rfl rfl kr fun a w hw hF=>?_
 replace hS:=hS.cast hw
 clear hw
 refine esr ?_
 refine SK.wi (qB 48 (.agg #[iv p0.Kind,.string p0.Name,iv p0.Time,.string p0.Sweep.Site.Name,iv p0.Sweep.Site.X,iv p0.Sweep.Site.Y,iv p0.Sweep.Site.Z,iv p0.Sweep.Site.Rose,iv p0.Sweep.Site.Gates,iv p0.Sweep.Site.Step,iv p0.Sweep.Site.Width,iv p0.Sweep.Tilt,iv p0.Sweep.Time,sv ad1 p0.Sweep.Rays cap2,iv p0.Field.Grid.X,iv p0.Field.Grid.Y,iv p0.Field.Grid.Size,iv p0.Field.Grid.Wide,iv p0.Field.Grid.High,sv ad4 p0.Field.Vals cap5,.string p0.Text]) #[iv p0.Kind,.string p0.Name,iv p0.Time,.string p0.Sweep.Site.Name,iv p0.Sweep.Site.X,iv p0.Sweep.Site.Y,iv p0.Sweep.Site.Z,iv p0.Sweep.Site.Rose,iv p0.Sweep.Site.Gates,iv p0.Sweep.Site.Step,iv p0.Sweep.Site.Width,iv p0.Sweep.Tilt,iv p0.Sweep.Time,sv ad1 p0.Sweep.Rays cap2,iv p0.Field.Grid.X,iv p0.Field.Grid.Y,iv p0.Field.Grid.Size,iv p0.Field.Grid.Wide,iv p0.Field.Grid.High,sv ad4 p0.Field.Vals cap5,.string p0.Text] (fun a2=>[(2,pb a2)]) hF hS fun a2 w a hF hS=>?_)
 refine SK.wi (qB 48 (.agg #[iv p1.Kind,.string p1.Name,iv p1.Time,.string p1.Sweep.Site.Name,iv p1.Sweep.Site.X,iv p1.Sweep.Site.Y,iv p1.Sweep.Site.Z,iv p1.Sweep.Site.Rose,iv p1.Sweep.Site.Gates,iv p1.Sweep.Site.Step,iv p1.Sweep.Site.Width,iv p1.Sweep.Tilt,iv p1.Sweep.Time,sv ad8 p1.Sweep.Rays cap9,iv p1.Field.Grid.X,iv p1.Field.Grid.Y,iv p1.Field.Grid.Size,iv p1.Field.Grid.Wide,iv p1.Field.Grid.High,sv a0 p1.Field.Vals a1,.string p1.Text]) #[iv p1.Kind,.string p1.Name,iv p1.Time,.string p1.Sweep.Site.Name,iv p1.Sweep.Site.X,iv p1.Sweep.Site.Y,iv p1.Sweep.Site.Z,iv p1.Sweep.Site.Rose,iv p1.Sweep.Site.Gates,iv p1.Sweep.Site.Step,iv p1.Sweep.Site.Width,iv p1.Sweep.Tilt,iv p1.Sweep.Time,sv ad8 p1.Sweep.Rays cap9,iv p1.Field.Grid.X,iv p1.Field.Grid.Y,iv p1.Field.Grid.Size,iv p1.Field.Grid.Wide,iv p1.Field.Grid.High,sv a0 p1.Field.Vals a1,.string p1.Text] (fun a3=>[(3,pb a3)]) hF hS fun a3 w a hF hS=>?_)
 refine qn 1 3 [] hF fun a hF=>?_
 refine wfn rfl ?_
 refine esr ?_
 obtain ⟨a4,a9,h⟩:=A1 h
 obtain ⟨a5,aA,h⟩:=A1 h
 refine rX 41 41 [(4,.bool (bif (bif (bif (bif (bif (p0.Kind==p1.Kind) then (sEq p0.Name p1.Name) else false) then (p0.Time==p1.Time) else false) then (sEq p0.Text p1.Text) else false) then a4 else false) then a5 else false))] hF (oL 3 1 0 hS.e rfl rfl<|oL 3 0 0 hS.e rfl rfl<|oX (.run [⟨10,true,(p0.Kind==p1.Kind)⟩] (Instr.loadAt 9 (.pointer (some ⟨a2,1,none⟩))) (.string p0.Name)) (ob1 kr (fun _ hd=>(hS.later hd).cell (i:=1) (j:=1) rfl rfl))<|oX (.run [⟨10,true,(p0.Kind==p1.Kind)⟩] (Instr.loadAt 9 (.pointer (some ⟨a3,1,none⟩))) (.string p1.Name)) (ob1 kr (fun _ hd=>(hS.later hd).cell (i:=0) (j:=1) rfl rfl))<|oX (.run [⟨10,true,(p0.Kind==p1.Kind)⟩] (Pk .eql 9 p0.Name p1.Name) (.bool (sEq p0.Name p1.Name))) Yx<|oX (.run [⟨17,true,(bif (p0.Kind==p1.Kind) then (sEq p0.Name p1.Name) else false)⟩] (Instr.loadAt 3 (.pointer (some ⟨a2,2,none⟩))) (iv p0.Time)) (ob1 kr (fun _ hd=>(hS.later hd).cell (i:=1) (j:=2) rfl rfl))<|oX (.run [⟨17,true,(bif (p0.Kind==p1.Kind) then (sEq p0.Name p1.Name) else false)⟩] (Instr.loadAt 3 (.pointer (some ⟨a3,2,none⟩))) (iv p1.Time)) (ob1 kr (fun _ hd=>(hS.later hd).cell (i:=0) (j:=2) rfl rfl))<|oX (.run [⟨24,true,(bif (bif (p0.Kind==p1.Kind) then (sEq p0.Name p1.Name) else false) then (p0.Time==p1.Time) else false)⟩] (Instr.loadAt 9 (.pointer (some ⟨a2,20,none⟩))) (.string p0.Text)) (ob1 kr (fun _ hd=>(hS.later hd).cell (i:=1) (j:=20) rfl rfl))<|oX (.run [⟨24,true,(bif (bif (p0.Kind==p1.Kind) then (sEq p0.Name p1.Name) else false) then (p0.Time==p1.Time) else false)⟩] (Instr.loadAt 9 (.pointer (some ⟨a3,20,none⟩))) (.string p1.Text)) (ob1 kr (fun _ hd=>(hS.later hd).cell (i:=0) (j:=20) rfl rfl))<|oX (.run [⟨24,true,(bif (bif (p0.Kind==p1.Kind) then (sEq p0.Name p1.Name) else false) then (p0.Time==p1.Time) else false)⟩] (Pk .eql 9 p0.Text p1.Text) (.bool (sEq p0.Text p1.Text))) Yx<|oX (.run [⟨31,true,(bif (bif (bif (p0.Kind==p1.Kind) then (sEq p0.Name p1.Name) else false) then (p0.Time==p1.Time) else false) then (sEq p0.Text p1.Text) else false)⟩] (Instr.loadAt 41 (.pointer (some ⟨a2,3,none⟩))) (.agg #[.string p0.Sweep.Site.Name,iv p0.Sweep.Site.X,iv p0.Sweep.Site.Y,iv p0.Sweep.Site.Z,iv p0.Sweep.Site.Rose,iv p0.Sweep.Site.Gates,iv p0.Sweep.Site.Step,iv p0.Sweep.Site.Width,iv p0.Sweep.Tilt,iv p0.Sweep.Time,sv ad1 p0.Sweep.Rays cap2])) (obN (us:=[.string p0.Sweep.Site.Name,iv p0.Sweep.Site.X,iv p0.Sweep.Site.Y,iv p0.Sweep.Site.Z,iv p0.Sweep.Site.Rose,iv p0.Sweep.Site.Gates,iv p0.Sweep.Site.Step,iv p0.Sweep.Site.Width,iv p0.Sweep.Tilt,iv p0.Sweep.Time,sv ad1 p0.Sweep.Rays cap2]) kr (fun _ hd=>((hS.later hd).blk (i:=1) rfl).cells rfl))<|oX (.run [⟨31,true,(bif (bif (bif (p0.Kind==p1.Kind) then (sEq p0.Name p1.Name) else false) then (p0.Time==p1.Time) else false) then (sEq p0.Text p1.Text) else false)⟩] (Instr.loadAt 41 (.pointer (some ⟨a3,3,none⟩))) (.agg #[.string p1.Sweep.Site.Name,iv p1.Sweep.Site.X,iv p1.Sweep.Site.Y,iv p1.Sweep.Site.Z,iv p1.Sweep.Site.Rose,iv p1.Sweep.Site.Gates,iv p1.Sweep.Site.Step,iv p1.Sweep.Site.Width,iv p1.Sweep.Tilt,iv p1.Sweep.Time,sv ad8 p1.Sweep.Rays cap9])) (obN (us:=[.string p1.Sweep.Site.Name,iv p1.Sweep.Site.X,iv p1.Sweep.Site.Y,iv p1.Sweep.Site.Z,iv p1.Sweep.Site.Rose,iv p1.Sweep.Site.Gates,iv p1.Sweep.Site.Step,iv p1.Sweep.Site.Width,iv p1.Sweep.Tilt,iv p1.Sweep.Time,sv ad8 p1.Sweep.Rays cap9]) kr (fun _ hd=>((hS.later hd).blk (i:=0) rfl).cells rfl))<|oX (.call [⟨31,true,(bif (bif (bif (p0.Kind==p1.Kind) then (sEq p0.Name p1.Name) else false) then (p0.Time==p1.Time) else false) then (sEq p0.Text p1.Text) else false)⟩] 60 #[.agg #[.string p0.Sweep.Site.Name,iv p0.Sweep.Site.X,iv p0.Sweep.Site.Y,iv p0.Sweep.Site.Z,iv p0.Sweep.Site.Rose,iv p0.Sweep.Site.Gates,iv p0.Sweep.Site.Step,iv p0.Sweep.Site.Width,iv p0.Sweep.Tilt,iv p0.Sweep.Time,sv ad1 p0.Sweep.Rays cap2],.agg #[.string p1.Sweep.Site.Name,iv p1.Sweep.Site.X,iv p1.Sweep.Site.Y,iv p1.Sweep.Site.Z,iv p1.Sweep.Site.Rose,iv p1.Sweep.Site.Gates,iv p1.Sweep.Site.Step,iv p1.Sweep.Site.Width,iv p1.Sweep.Tilt,iv p1.Sweep.Time,sv ad8 p1.Sweep.Rays cap9]] (.bool a4)) (show Ob.ok _ Ext _ _ from fun hk w2 hd=>Tl F p0.Sweep p1.Sweep _ ((fun hk=>Cx a9 hk) hk) _ w2 (A5 w2) (hA6.mono Rp87.mono (FrzAt.le_mem ((hS.later hd).frz (i:=2) rfl hlow))) (a7.mono Rp87.mono (FrzAt.le_mem ((hS.later hd).frz (i:=2) rfl hlow))))<|oX (.run [⟨38,true,(bif (bif (bif (bif (p0.Kind==p1.Kind) then (sEq p0.Name p1.Name) else false) then (p0.Time==p1.Time) else false) then (sEq p0.Text p1.Text) else false) then a4 else false)⟩] (Instr.loadAt 46 (.pointer (some ⟨a2,14,none⟩))) (.agg #[iv p0.Field.Grid.X,iv p0.Field.Grid.Y,iv p0.Field.Grid.Size,iv p0.Field.Grid.Wide,iv p0.Field.Grid.High,sv ad4 p0.Field.Vals cap5])) (obN (us:=[iv p0.Field.Grid.X,iv p0.Field.Grid.Y,iv p0.Field.Grid.Size,iv p0.Field.Grid.Wide,iv p0.Field.Grid.High,sv ad4 p0.Field.Vals cap5]) kr (fun _ hd=>((hS.later hd).blk (i:=1) rfl).cells rfl))<|oX (.run [⟨38,true,(bif (bif (bif (bif (p0.Kind==p1.Kind) then (sEq p0.Name p1.Name) else false) then (p0.Time==p1.Time) else false) then (sEq p0.Text p1.Text) else false) then a4 else false)⟩] (Instr.loadAt 46 (.pointer (some ⟨a3,14,none⟩))) (.agg #[iv p1.Field.Grid.X,iv p1.Field.Grid.Y,iv p1.Field.Grid.Size,iv p1.Field.Grid.Wide,iv p1.Field.Grid.High,sv a0 p1.Field.Vals a1])) (obN (us:=[iv p1.Field.Grid.X,iv p1.Field.Grid.Y,iv p1.Field.Grid.Size,iv p1.Field.Grid.Wide,iv p1.Field.Grid.High,sv a0 p1.Field.Vals a1]) kr (fun _ hd=>((hS.later hd).blk (i:=0) rfl).cells rfl))<|oX (.call [⟨38,true,(bif (bif (bif (bif (p0.Kind==p1.Kind) then (sEq p0.Name p1.Name) else false) then (p0.Time==p1.Time) else false) then (sEq p0.Text p1.Text) else false) then a4 else false)⟩] 61 #[.agg #[iv p0.Field.Grid.X,iv p0.Field.Grid.Y,iv p0.Field.Grid.Size,iv p0.Field.Grid.Wide,iv p0.Field.Grid.High,sv ad4 p0.Field.Vals cap5],.agg #[iv p1.Field.Grid.X,iv p1.Field.Grid.Y,iv p1.Field.Grid.Size,iv p1.Field.Grid.Wide,iv p1.Field.Grid.High,sv a0 p1.Field.Vals a1]] (.bool a5)) (show Ob.ok _ Ext _ _ from fun hk w2 hd=>Tk F p0.Field p1.Field _ ((fun hk=>Cx aA hk) hk) _ w2 (A5 w2) (hA7.mono (FrzAt.le_mem ((hS.later hd).frz (i:=2) rfl hlow))) (a8.mono (FrzAt.le_mem ((hS.later hd).frz (i:=2) rfl hlow))))<|A9) fun a w hF hx=>?_
 replace hS:=hS.later hx
 refine wfn rfl ?_
 refine wpIn_ret (Ad [.tmp 4] [.bool (bif (bif (bif (bif (bif (p0.Kind==p1.Kind) then (sEq p0.Name p1.Name) else false) then (p0.Time==p1.Time) else false) then (sEq p0.Text p1.Text) else false) then a4 else false) then a5 else false)] hF rfl ⟨rfl,trivial⟩ ?_)
 obtain rfl:=Ao h
 exact ⟨rfl,hS.ext⟩
theorem K5 (p0:api_Span) (p1:Int) (p2:Int) (res:Bool) (h:Bg p0 p1 p2=res) (μ:Frz) (w0:World) (hm:FrzAt μ w0):Calls Tryz.prog 109 #[.agg #[iv p0.Lo,iv p0.Hi],iv p1,iv p2] w0 (fun e w=>e=.returned (.bool res)∧Ext w0 w):=by
 obtain ⟨hlow,hS⟩:=hm.init
 have hext:=Frz.ext_refl w0.heap.size μ
 rw [Bg] at h
 refine Ag Tryz.func109 rfl 24 [(0,.agg #[iv p0.Lo,iv p0.Hi]),(1,iv p1),(2,iv p2)] rfl rfl kr fun a w hw hF=>?_
 replace hS:=hS.cast hw
 clear hw
 refine esr ?_
 refine SK.wi (qB 146 (.agg #[iv p0.Lo,iv p0.Hi]) #[iv p0.Lo,iv p0.Hi] (fun b1=>[(3,pb b1)]) hF hS fun b1 w a hF hS=>?_)
 refine qn 1 2 [] hF fun a hF=>?_
 refine wfn rfl ?_
 refine roB [(6,.bool (bif (bif (decide (p0.Lo≤p0.Hi)) then (decide (p0.Lo≥p1)) else false) then (decide (p0.Hi≤p2)) else false))] hF (oL 3 0 0 hS.i rfl rfl<|oL 3 0 1 hS.i rfl rfl<|oX (.run [⟨12,true,(decide (p0.Lo≤p0.Hi))⟩] (Instr.loadAt 3 (pb b1)) (iv p0.Lo)) (ob1 kr (fun _ hd=>(hS.at_ hd).cell (i:=0) (j:=0) rfl rfl))<|oX (.run [⟨18,true,(bif (decide (p0.Lo≤p0.Hi)) then (decide (p0.Lo≥p1)) else false)⟩] (Instr.loadAt 3 (.pointer (some ⟨b1,1,none⟩))) (iv p0.Hi)) (ob1 kr (fun _ hd=>(hS.at_ hd).cell (i:=0) (j:=1) rfl rfl))<|A9) fun a hF=>?_
 refine wpIn_ret (Ad [.tmp 6] [.bool (bif (bif (decide (p0.Lo≤p0.Hi)) then (decide (p0.Lo≥p1)) else false) then (decide (p0.Hi≤p2)) else false)] hF rfl ⟨rfl,trivial⟩ ?_)
 subst h
 exact ⟨rfl,hS.ext⟩
theorem Gz (F:Nat) (p0:(List (List Int))) (res:(List Int)) (h:D8 F p0=some res) (μ:Frz) (w0:World) (hm:FrzAt μ w0) {ad1:Option Addr} {cap2:Nat} {css3:List (List Value)} (hA4:ArrQ μ 1 Rp22 ad1 cap2 css3 p0):Bj Tryz.prog 104 #[sv ad1 p0 cap2] w0 (fun e w=>∃zad0 zcap0,e=(sv zad0 res zcap0)∧St w0 [arr 5 1 (fK .u8) zad0 res.length zcap0 res] w):=by
 obtain ⟨hlow,hS⟩:=hm.init
 have hext:=Frz.ext_refl w0.heap.size μ
 rw [D8] at h
 refine Ag Tryz.func104 rfl 18 [(0,sv ad1 p0 cap2)] rfl rfl kr fun a w hw hF=>?_
 replace hS:=hS.cast hw
 clear hw
 refine qnB [] hF fun a hF=>?_
 refine qnB [(3,.slice none 0 0)] hF fun a hF=>?_
 refine D9 (fun a w=>∃(a1:(List Int)) (a5:Option Addr) (a7:Nat),Fr 18 [] [(3,sv a5 a1 a7)] a∧St w0 [arr 5 1 (fK .u8) a5 a1.length a7 a1,fz w0 μ] w∧Ji a1=some res) ?_ ?_
 ·skip
  refine qnB [(4,iv 0)] hF fun a hF=>?_
  refine wpIn_block ?_
  replace hS:=hS.nilarr 5 1 (fK .u8)
  refine Ci (fun n_ a w=>∃(a0:(List Int)) (a2:Int) (a3:Option Addr) (a4:Nat),Fr 18 [] [(0,sv ad1 p0 cap2),(3,sv a3 a0 a4),(4,iv a2)] a∧St w0 [arr 5 1 (fK .u8) a3 a0.length a4 a0,fz w0 μ] w∧Fj p0 n_ a0 a2=some res) F ⟨[],0,none,0,hF.sub kr,St.pick [0,1] (by decide) hS,h⟩ ?_
  rintro nk2 a w ⟨a0,a2,a3,a4,hF,hS,h⟩
  rcases nk2 with _|nk2
  ·cases (show (none:Option (List Int))=some res from h)
  obtain ⟨k2,hk2⟩:∃k,k=Fj p0 nk2:=⟨_,rfl⟩
  replace h:Jh p0 k2 a0 a2=some res:=by rw [hk2];exact h
  rw [Jh] at h
  refine Ar ?_
  refine qnB [(8,.bool (decide (a2<(ln p0))))] hF fun a hF=>?_
  refine Aj hF rfl (fun hc=>?_) (fun hc=>?_)
  ·replace h:=Af h hc
   refine wpIn_skip (A0 ?_)
   refine Ar ?_
   refine wpIn_block ?_
   refine WI.region ?_
   obtain ⟨aB,aI,h⟩:=A1 h
   obtain ⟨aK,aA,aG⟩:=Bd hA4.2 aI
   obtain ⟨aD,aE,rfl,aF⟩:=aG
   refine qo 5 5 [(11,sv a3 a0 a4),(15,sv aD aB aE)] hF (oI 105 (hA4.at (hS.frz (i:=1) rfl hlow)) aA<|oE 22 0 (Bz 1) (fun _ hd=>(hA4.at ((hS.at_ hd).frz (i:=1) rfl hlow))) aA rfl<|A9) fun a hF=>?_
   obtain ⟨a9,aH,h⟩:=A1 h
   refine SK.wi (Lq (t:=22) (ty:=22) (bytes:=1) (l:=a0) (l':=aB) (fun a6 a8=>[(0,sv ad1 p0 cap2),(3,sv a3 a0 a4),(4,iv a2),(16,sv a6 a9 a8)]) 0 hF hS rfl kr ⟨kr⟩ kr (aF _ (hS.frz (i:=1) rfl hlow)) (fun _ _=>rfl) aH (fun _ _=>⟨kr⟩) fun a6 a8 w a hF hS=>?_)
   refine rn 1 7 [(0,sv ad1 p0 cap2),(3,sv a6 a9 a8),(4,iv a2)] hF fun a hF=>?_
   refine WI.fin rfl (Ab<|A0<|?_)
   refine WI.region ?_
   obtain ⟨aC,aJ,h⟩:=A1 h
   refine ro 3 3 [(0,sv ad1 p0 cap2),(3,sv a6 a9 a8),(4,iv aC)] hF (oA 3 aJ<|A9) fun a hF=>?_
   refine wfn rfl ?_
   rw [hk2] at h
   exact ⟨nk2,Nat.lt_succ_self _,a9,aC,a6,a8,hF.sub kr,St.pick [0,1] (by decide) hS,h⟩
  ·replace h:=Ae h hc
   refine wpIn_exit (Aa<|Aa<|Av<|A0 ?_)
   exact ⟨a0,a3,a4,hF.sub kr,St.pick [0,1] (by decide) hS,h⟩
 rintro a w ⟨a1,a5,a7,hF,hS,h⟩
 rw [Ji] at h
 refine rnB [(2,sv a5 a1 a7)] hF fun a hF=>?_
 refine wpIn_ret (Ad [.tmp 2] [sv a5 a1 a7] hF rfl ⟨rfl,trivial⟩ ?_)
 obtain rfl:=Ao h
 exact ⟨_,rfl,_,_,rfl,St.pick [0] (by decide) hS⟩
end Go.Proofs.YtifbomimeodibaaGreat
