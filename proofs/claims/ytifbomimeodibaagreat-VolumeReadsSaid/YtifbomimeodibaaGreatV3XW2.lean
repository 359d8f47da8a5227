import Derived.Test.YtifbomimeodibaaGreatV3XD
import Derived.Test.YtifbomimeodibaaGreatProg
import Derived.Test.YtifbomimeodibaaGreatV3XW0
import Derived.Test.YtifbomimeodibaaGreatV3XW1
import Derived.Test.YtifbomimeodibaaGreatV3WnN
namespace Go.Proofs.YtifbomimeodibaaGreat
open Go Go.RowKit Go.Eng
set_option maxRecDepth 10000
set_option maxHeartbeats 4000000
set_option linter.unusedVariables false
set_option linter.unusedSimpArgs false
theorem Qx (F:Nat) (p0:(List Int)) (p1:(List Int)) (res:Bool) (h:F8 F p0 p1=some res) (μ:Frz) (w0:World) (hm:FrzAt μ w0) {ad1:Option Addr} {cap2:Nat} {ad4:Option Addr} {cap5:Nat} (hA3:ArrM μ 1 (fK .u8) ad1 cap2 p0) (hA6:ArrM μ 1 (fK .u8) ad4 cap5 p1):Calls Tryz.prog 34 #[sv ad1 p0 cap2,sv ad4 p1 cap5] w0 (fun e w=>e=.returned (.bool res)∧Ext w0 w):=by
 obtain ⟨hlow,hS⟩:=hm.init
 have hext:=Frz.ext_refl w0.heap.size μ
 rw [F8] at h
 refine Ah Tryz.func34 rfl 18 [(0,sv ad1 p0 cap2),(1,sv ad4 p1 cap5)] rfl rfl kr fun a w hw hF=>?_
 replace hS:=hS.cast hw
 clear hw
 refine qnB [] hF fun a hF=>?_
 refine esr ?_
 refine qn 6 6 [(10,.bool (decide ((ln p0)≥(ln p1))))] hF fun a hF=>?_
 rcases Bool.eq_false_or_eq_true ((decide ((ln p0)≥(ln p1)))) with hg7|hg7
 ·replace h:=Ag h hg7
  rw [hg7] at hF
  obtain ⟨l8,hl8,h⟩:=A1 h
  have hA9:ArrM μ 1 (fK .u8) (Aq ad1 cap2 (0:Int).toNat 1) (cap2-(0:Int).toNat) l8:=fun w_ hw_=>(hA3 w_ hw_).cutD (Bc .u8) hl8
  refine rX 8 14 [(4,.bool (Ez l8 p1))] hF (oX (.run [⟨10,true,true⟩] (Instr.sliceAt 22 (sv ad1 p0 cap2) none (some (iv (ln p1))) none) (.slice (Aq ad1 cap2 (0:Int).toNat 1) l8.length (cap2-(0:Int).toNat))) (Nx kr (hA3 _ (hS.frz (i:=0) rfl hlow)) (fun _=>hl8))<|oX (.call [⟨10,true,true⟩] 59 #[.slice (Aq ad1 cap2 (0:Int).toNat 1) l8.length (cap2-(0:Int).toNat),sv ad4 p1 cap5] (.bool (Ez l8 p1))) (show Ob.ok _ Ext _ _ from fun hk w2 hd=>Pm l8 p1 _ rfl _ w2 (Ae w2) (hA9.mono (FrzAt.le_mem ((hS.later hd).frz (i:=0) rfl hlow))) (hA6.mono (FrzAt.le_mem ((hS.later hd).frz (i:=0) rfl hlow))))<|A9) fun a w hF hx=>?_
  replace hS:=hS.later hx
  refine wfn rfl ?_
  refine wpIn_ret (Ab [.tmp 4] [.bool (Ez l8 p1)] hF rfl ⟨rfl,trivial⟩ ?_)
  obtain rfl:=Ao h
  exact ⟨rfl,hS.ext⟩
 ·replace h:=Af h hg7
  rw [hg7] at hF
  refine Be 7 [(1,sv ad4 p1 cap5),(10,.bool false),(11,undef)] hF kr ⟨kr⟩ ⟨kr⟩ rfl fun a hF=>?_
  refine Be 8 [(1,sv ad4 p1 cap5),(10,.bool false),(11,undef),(12,undef)] hF kr ⟨kr⟩ ⟨kr⟩ rfl fun a hF=>?_
  refine Be 9 [(1,sv ad4 p1 cap5),(10,.bool false),(11,undef),(13,undef)] hF kr ⟨kr⟩ ⟨kr⟩ rfl fun a hF=>?_
  refine Be 10 [(1,sv ad4 p1 cap5),(10,.bool false),(14,undef)] hF kr ⟨kr⟩ ⟨kr⟩ rfl fun a hF=>?_
  refine Be 11 [(10,.bool false),(14,undef),(15,undef)] hF kr ⟨kr⟩ ⟨kr⟩ rfl fun a hF=>?_
  refine Be 12 [(10,.bool false),(16,undef)] hF kr ⟨kr⟩ ⟨kr⟩ rfl fun a hF=>?_
  refine rn 2 14 [(4,.bool false)] hF fun a hF=>?_
  refine wfn rfl ?_
  refine wpIn_ret (Ab [.tmp 4] [.bool false] hF rfl ⟨rfl,trivial⟩ ?_)
  obtain rfl:=Ao h
  exact ⟨rfl,hS.ext⟩
theorem Nj (p0:(List Int)) (res:Unit) (h:Qt p0=res) (μ:Frz) (w0:World) (hm:FrzAt μ w0) {ad1:Option Addr} {cap2:Nat} (hA3:ArrM μ 1 (fK .u8) ad1 cap2 p0):Bu Tryz.prog 35 #[sv ad1 p0 cap2] w0 (fun e w=>∃zb0,e=(.func (.func 65) #[] #[pb zb0])∧St w0 [blk zb0 22 #[sv ad1 p0 cap2]] w):=by
 obtain ⟨hlow,hS⟩:=hm.init
 have hext:=Frz.ext_refl w0.heap.size μ
 rw [Qt] at h
 refine Ah Tryz.func35 rfl 4 [(0,sv ad1 p0 cap2)] rfl rfl kr fun a w hw hF=>?_
 replace hS:=hS.cast hw
 clear hw
 refine esr ?_
 refine SK.wi (Ld (t:=22) (fun b4=>[(1,pb b4)]) (sv ad1 p0 cap2) #[sv ad1 p0 cap2] hF hS kr ⟨kr⟩ kr (fun _=>⟨kr⟩) fun b4 w a hF hS=>?_)
 refine rn 1 2 [(1,pb b4)] hF fun a hF=>?_
 refine wfn rfl ?_
 refine rnB [(2,.func (.func 65) #[] #[pb b4])] hF fun a hF=>?_
 refine wpIn_ret (Ab [.tmp 2] [.func (.func 65) #[] #[pb b4]] hF rfl ⟨rfl,trivial⟩ ?_)
 subst h
 exact ⟨_,rfl,b4,rfl,St.pick [0] (by decide) hS⟩
theorem An (F:Nat) (p0:volume_reader) (res:Except (Value×volume_reader) (Int×volume_reader)) (h:Ak F p0=some res) (μ:Frz) (w0 w1:World) (T_:List Res) (hlow:Ay w0 μ) {cb0:Nat} {ad1:Option Addr} {cap2:Nat} (hA3:ArrM μ 1 (fK .u8) ad1 cap2 p0.b) (hS:St w0 (fz w0 μ::blk cb0 125 #[sv ad1 p0.b cap2]::T_) w1):Nl Tryz.prog 90 #[pb cb0] w1 res (fun r_ e w=>∃(ν_:Frz) (a9:Option Addr) (aB:Nat),μ.ext w0.heap.size ν_∧Ay w0 ν_∧e=(iv r_.1)∧(ArrM ν_ 1 (fK .u8) a9 aB r_.2.b)∧St w0 (fz w0 ν_::blk cb0 125 #[sv a9 r_.2.b aB]::T_) w) (fun e_ w=>∃(ν_:Frz) (aA:Option Addr) (aC:Nat),μ.ext w0.heap.size ν_∧Ay w0 ν_∧(ArrM ν_ 1 (fK .u8) aA aC e_.b)∧St w0 (fz w0 ν_::blk cb0 125 #[sv aA e_.b aC]::T_) w):=by
 rw [Ak] at h
 have hext:=Frz.ext_refl w0.heap.size μ
 refine Ah Tryz.func90 rfl 71 [(0,pb cb0)] rfl rfl kr fun a w hw hF=>?_
 replace hS:=hS.cast hw
 clear hw
 refine qnB [] hF fun a hF=>?_
 refine qnB [(3,iv 0),(4,iv 1)] hF fun a hF=>?_
 refine Dg (fun a w=>Fr 71 [] [] a∧St w0 (fz w0 μ::blk cb0 125 #[sv ad1 p0.b cap2]::T_) w∧Es p0=some res) ?_ ?_
 ·skip
  refine Ar ?_
  obtain ⟨a0,aF,h⟩:=A1 h
  have aD:ArrM μ 1 (fK .u8) (Aq ad1 cap2 (0:Int).toNat 1) (cap2-(0:Int).toNat) a0:=fun w_ hw_=>(hA3 w_ hw_).cutD (Bc .u8) aF
  refine qD 13 [(17,.slice (Aq ad1 cap2 (0:Int).toNat 1) a0.length (cap2-(0:Int).toNat)),(18,iv (ln a0)),(19,iv 0)] hF (oL 22 1 0 hS.e rfl rfl<|oL 22 1 0 hS.e rfl rfl<|oX (.run [] (Instr.sliceAt 22 (sv ad1 p0.b cap2) none (some (iv (if 8<(ln p0.b) then 8 else (ln p0.b)))) none) (.slice (Aq ad1 cap2 (0:Int).toNat 1) a0.length (cap2-(0:Int).toNat))) (Nx kr (hA3 _ (hS.frz (i:=0) rfl hlow)) (fun _=>aF))<|A9) fun a w hF hx=>?_
  replace hS:=hS.later hx
  refine wfn rfl ?_
  refine wpIn_block ?_
  refine Cq (fun n_ a w=>∃(a1:Int) (a5:Int) (a4:Int),Fr 71 [] [(0,pb cb0),(3,iv a5),(4,iv a4),(17,.slice (Aq ad1 cap2 (0:Int).toNat 1) a0.length (cap2-(0:Int).toNat)),(18,iv (ln a0)),(19,iv a1)] a∧St w0 (fz w0 μ::blk cb0 125 #[sv ad1 p0.b cap2]::T_) w∧Bh p0 a0 n_ a1 a5 a4=some res) F ⟨0,0,1,hF.sub kr,hS,h⟩ ?_
  rintro nk2 a w ⟨a1,a5,a4,hF,hS,h⟩
  rcases nk2 with _|nk2
  ·cases (show (none:Option (Except (Value×volume_reader) (Int×volume_reader)))=some res from h)
  obtain ⟨k2,hk2⟩:∃k,k=Bh p0 a0 nk2:=⟨_,rfl⟩
  replace h:Er p0 a0 k2 a1 a5 a4=some res:=by rw [hk2];exact h
  rw [Er] at h
  refine qnB [(20,.bool (decide (a1<(ln a0))))] hF fun a hF=>?_
  refine Ar ?_
  refine Ai hF rfl (fun hc=>?_) (fun hc=>?_)
  ·replace h:=Ag h hc
   refine wpIn_skip (A0 ?_)
   refine Ar ?_
   refine wpIn_block ?_
   refine esr ?_
   obtain ⟨a3,aG,h⟩:=A1 h
   refine qo 5 5 [(5,iv a1),(6,.int .u8 a3)] hF (oI 22 (aD _ (hS.frz (i:=0) rfl hlow)) aG<|oE 5 0 (Bc .u8) (fun _ hd=>(aD _ ((hS.at_ hd).frz (i:=0) rfl hlow))) aG rfl<|A9) fun a hF=>?_
   refine wfn rfl ?_
   refine Dg (fun a w=>Fr 71 [] [(0,pb cb0),(3,iv a5),(4,iv a4),(6,.int .u8 a3),(17,.slice (Aq ad1 cap2 (0:Int).toNat 1) a0.length (cap2-(0:Int).toNat)),(18,iv (ln a0)),(19,iv a1)] a∧St w0 (fz w0 μ::blk cb0 125 #[sv ad1 p0.b cap2]::T_) w∧Et a1 a5 a4 k2 a3=some res) ?_ ?_
   ·skip
    refine wpIn_block ?_
    refine qnB [(24,.bool (bif (bif (a3==0) then true else (a3==255)) then true else (bif (a3==1) then (decide (a1>0)) else false)))] hF fun a hF=>?_
    refine Ai hF rfl (fun hc=>?_) (fun hc=>?_)
    ·replace h:=Ag h hc
     refine WI.region ?_
     refine qn 1 1 [(39,.iface 128 (iv 7))] hF fun a hF=>?_
     refine Ny (t:=128) (v:=iv 7) hF ⟨kr⟩ (Am<|A6<|Am<|A6<|A6<|Am<|A6<|Az hF ?_)
     obtain rfl:=Ao h
     replace hS:=hS
     exact .inr ⟨_,rfl,rfl,μ,ad1,cap2,hext,hlow,hA3,hS⟩
    ·replace h:=Af h hc
     refine qnB [(40,.bool (decide (a3<128)))] hF fun a hF=>?_
     refine Ai hF rfl (fun hc=>?_) (fun hc=>?_)
     ·replace h:=Ag h hc
      refine esr ?_
      obtain ⟨a2,aQ,h⟩:=A1 h
      obtain ⟨a6,aE,h⟩:=A1 h
      have aJ:ArrM μ 1 (fK .u8) (Aq ad1 cap2 a2.toNat 1) (cap2-a2.toNat) a6:=fun w_ hw_=>(hA3 w_ hw_).cutD (Bc .u8) aE
      refine ro 10 10 [(3,iv a5),(4,iv a4),(6,.int .u8 a3),(50,.slice (Aq ad1 cap2 a2.toNat 1) a6.length (cap2-a2.toNat)),(52,pb cb0)] hF (oL 22 1 0 hS.i rfl rfl<|oA 3 aQ<|oX (.run [] (Instr.sliceAt 22 (sv ad1 p0.b cap2) (some (iv a2)) none none) (.slice (Aq ad1 cap2 a2.toNat 1) a6.length (cap2-a2.toNat))) (Kq kr (hA3 _ (hS.frz (i:=0) rfl hlow)) (fun _=>aE))<|A9) fun a hF=>?_
      refine SK.wi (qs 22 1 0 (.slice (Aq ad1 cap2 a2.toNat 1) a6.length (cap2-a2.toNat)) hF hS rfl fun w a hF hS=>?_)
      refine wfn rfl ?_
      refine esr ?_
      obtain ⟨aW,aR,h⟩:=A1 h
      obtain ⟨aZ,aS,h⟩:=A1 h
      obtain ⟨b0,aT,h⟩:=A1 h
      obtain ⟨aI,aU,h⟩:=A1 h
      refine ro 8 8 [(2,iv aI)] hF (oX (.run [] (convert 5 3 (.int .u8 a3)) (iv aW)) (Rr kr kr (fun _=>aR))<|oS 3 aS<|oM 3 aT<|oA 3 aU<|A9) fun a hF=>?_
      refine wfn rfl ?_
      refine wpIn_ret (Al<|A5<|Al<|A5<|A5<|Al<|A5<|Ab [.tmp 2] [iv aI] hF rfl ⟨rfl,trivial⟩ ?_)
      obtain rfl:=Ao h
      replace hS:=hS
      exact .inl ⟨_,_,rfl,rfl,μ,(Aq ad1 cap2 a2.toNat 1),(cap2-a2.toNat),hext,hlow,rfl,aJ,hS⟩
     ·replace h:=Af h hc
      refine wpIn_skip (Aa<|A0<|?_)
      exact ⟨hF.sub kr,hS,h⟩
   rintro a w ⟨hF,hS,h⟩
   rw [Et] at h
   refine esr ?_
   obtain ⟨aV,aK,h⟩:=A1 h
   obtain ⟨aX,aL,h⟩:=A1 h
   obtain ⟨aY,aM,h⟩:=A1 h
   obtain ⟨a7,aN,h⟩:=A1 h
   refine ro 8 8 [(0,pb cb0),(3,iv a7),(4,iv a4),(17,.slice (Aq ad1 cap2 (0:Int).toNat 1) a0.length (cap2-(0:Int).toNat)),(18,iv (ln a0)),(19,iv a1)] hF (oX (.run [] (convert 5 3 (.int .u8 a3)) (iv aV)) (Rr kr kr (fun _=>aK))<|oS 3 aL<|oM 3 aM<|oA 3 aN<|A9) fun a hF=>?_
   refine wfn rfl ?_
   refine WI.region ?_
   obtain ⟨a8,aO,h⟩:=A1 h
   refine ro 3 3 [(0,pb cb0),(3,iv a7),(4,iv a8),(17,.slice (Aq ad1 cap2 (0:Int).toNat 1) a0.length (cap2-(0:Int).toNat)),(18,iv (ln a0)),(19,iv a1)] hF (oM 3 aO<|A9) fun a hF=>?_
   refine WI.fin rfl (Aa<|A0<|?_)
   refine WI.region ?_
   obtain ⟨aH,aP,h⟩:=A1 h
   refine ro 2 2 [(0,pb cb0),(3,iv a7),(4,iv a8),(17,.slice (Aq ad1 cap2 (0:Int).toNat 1) a0.length (cap2-(0:Int).toNat)),(18,iv (ln a0)),(19,iv aH)] hF (oA 3 aP<|A9) fun a hF=>?_
   refine wfn rfl ?_
   rw [hk2] at h
   exact ⟨nk2,Nat.lt_succ_self _,aH,a7,a8,hF.sub kr,hS,h⟩
  ·replace h:=Af h hc
   refine wpIn_exit (A7<|A7<|Av<|A0 ?_)
   exact ⟨hF.sub kr,hS,h⟩
 rintro a w ⟨hF,hS,h⟩
 rw [Es] at h
 refine WI.region ?_
 refine rn 1 1 [(70,.iface 128 (iv 7))] hF fun a hF=>?_
 refine Ny (t:=128) (v:=iv 7) hF ⟨kr⟩ (Az hF ?_)
 obtain rfl:=Ao h
 replace hS:=hS
 exact .inr ⟨_,rfl,rfl,μ,ad1,cap2,hext,hlow,hA3,hS⟩
theorem Rh (F:Nat) (p0:ByteArray) (res:Bool) (h:M4 F p0=some res) (μ:Frz) (w0:World) (hm:FrzAt μ w0):Calls Tryz.prog 121 #[.string p0] w0 (fun e w=>e=.returned (.bool res)∧Ext w0 w):=by
 obtain ⟨hlow,hS⟩:=hm.init
 have hext:=Frz.ext_refl w0.heap.size μ
 rw [M4] at h
 refine Ah Tryz.func121 rfl 25 [(0,.string p0)] rfl rfl kr fun a w hw hF=>?_
 replace hS:=hS.cast hw
 clear hw
 refine qnB [] hF fun a hF=>?_
 refine esr ?_
 obtain ⟨u1,hu1,h⟩:=A1 h
 obtain ⟨u2,hu2,h⟩:=A1 h
 refine rX 23 23 [(2,.bool (bif (bif (bif (bif (!(sEq p0 (⟨#[]⟩:ByteArray))) then (decide (((p0.size:Nat):Int)≤12)) else false) then (decide (u1≥97)) else false) then (decide (u2≤122)) else false) then (!(Dz p0)) else false))] hF (oX (.run [] (Pe .neq 9 p0 (⟨#[]⟩:ByteArray)) (.bool (!(sEq p0 (⟨#[]⟩:ByteArray))))) Qp<|oX (.run [⟨10,true,(bif (!(sEq p0 (⟨#[]⟩:ByteArray))) then (decide (((p0.size:Nat):Int)≤12)) else false)⟩] (Instr.index 9 (.string p0) (iv 0)) (.int .u8 u1)) (R3 kr (fun hk=>C9 hu1 hk))<|oX (.run [⟨15,true,(bif (bif (!(sEq p0 (⟨#[]⟩:ByteArray))) then (decide (((p0.size:Nat):Int)≤12)) else false) then (decide (u1≥97)) else false)⟩] (Instr.index 9 (.string p0) (iv 0)) (.int .u8 u2)) (R3 kr (fun hk=>C9 hu2 hk))<|oX (.call [⟨20,true,(bif (bif (bif (!(sEq p0 (⟨#[]⟩:ByteArray))) then (decide (((p0.size:Nat):Int)≤12)) else false) then (decide (u1≥97)) else false) then (decide (u2≤122)) else false)⟩] 133 #[.string p0,.func (.func 134) #[] #[]] (.bool (Dz p0))) (show Ob.ok _ Ext _ _ from fun hk w2 hd=>Ng p0 _ rfl _ w2 (Ae w2))<|A9) fun a w hF hx=>?_
 replace hS:=hS.later hx
 refine wfn rfl ?_
 refine wpIn_ret (Ab [.tmp 2] [.bool (bif (bif (bif (bif (!(sEq p0 (⟨#[]⟩:ByteArray))) then (decide (((p0.size:Nat):Int)≤12)) else false) then (decide (u1≥97)) else false) then (decide (u2≤122)) else false) then (!(Dz p0)) else false)] hF rfl ⟨rfl,trivial⟩ ?_)
 obtain rfl:=Ao h
 exact ⟨rfl,hS.ext⟩
theorem Cr (p0:Int) (p1:Int) (p2:Int) (res:Bool) (h:Aj p0 p1 p2=res) (μ:Frz) (w0:World) (hm:FrzAt μ w0):Calls Tryz.prog 122 #[iv p0,iv p1,iv p2] w0 (fun e w=>e=.returned (.bool res)∧Ext w0 w):=by
 obtain ⟨hlow,hS⟩:=hm.init
 have hext:=Frz.ext_refl w0.heap.size μ
 rw [Aj] at h
 refine Ah Tryz.func122 rfl 15 [(0,iv p0),(1,iv p1),(2,iv p2)] rfl rfl kr fun a w hw hF=>?_
 replace hS:=hS.cast hw
 clear hw
 refine qnB [] hF fun a hF=>?_
 refine rnB [(6,.bool (bif (decide (p1≤p0)) then (decide (p0≤p2)) else false))] hF fun a hF=>?_
 refine wpIn_ret (Ab [.tmp 6] [.bool (bif (decide (p1≤p0)) then (decide (p0≤p2)) else false)] hF rfl ⟨rfl,trivial⟩ ?_)
 subst h
 exact ⟨rfl,hS.ext⟩
theorem He (p0:Int) (p1:Int) (p2:Int) (res:Bool) (h:As p0 p1 p2=res) (μ:Frz) (w0:World) (hm:FrzAt μ w0):Calls Tryz.prog 171 #[iv p0,iv p1,iv p2] w0 (fun e w=>e=.returned (.bool res)∧Ext w0 w):=by
 obtain ⟨hlow,hS⟩:=hm.init
 have hext:=Frz.ext_refl w0.heap.size μ
 rw [As] at h
 refine Ah Tryz.func171 rfl 15 [(0,iv p0),(1,iv p1),(2,iv p2)] rfl rfl kr fun a w hw hF=>?_
 replace hS:=hS.cast hw
 clear hw
 refine qnB [] hF fun a hF=>?_
 refine rnB [(6,.bool (bif (decide (p1≤p0)) then (decide (p0≤p2)) else false))] hF fun a hF=>?_
 refine wpIn_ret (Ab [.tmp 6] [.bool (bif (decide (p1≤p0)) then (decide (p0≤p2)) else false)] hF rfl ⟨rfl,trivial⟩ ?_)
 subst h
 exact ⟨rfl,hS.ext⟩
theorem Lp (p0:api_Span) (p1:Int) (p2:Int) (res:Bool) (h:Ad p0 p1 p2=res) (μ:Frz) (w0:World) (hm:FrzAt μ w0):Calls Tryz.prog 174 #[.agg #[iv p0.Lo,iv p0.Hi],iv p1,iv p2] w0 (fun e w=>e=.returned (.bool res)∧Ext w0 w):=by
 obtain ⟨hlow,hS⟩:=hm.init
 have hext:=Frz.ext_refl w0.heap.size μ
 rw [Ad] at h
 refine Ah Tryz.func174 rfl 24 [(0,.agg #[iv p0.Lo,iv p0.Hi]),(1,iv p1),(2,iv p2)] rfl rfl kr fun a w hw hF=>?_
 replace hS:=hS.cast hw
 clear hw
 refine esr ?_
 refine SK.wi (qB 146 (.agg #[iv p0.Lo,iv p0.Hi]) #[iv p0.Lo,iv p0.Hi] (fun b1=>[(3,pb b1)]) hF hS fun b1 w a hF hS=>?_)
 refine qn 1 2 [] hF fun a hF=>?_
 refine wfn rfl ?_
 refine roB [(6,.bool (bif (bif (decide (p1≤p0.Lo)) then (decide (p0.Lo≤p0.Hi)) else false) then (decide (p0.Hi≤p2)) else false))] hF (oL 3 0 0 hS.i rfl rfl<|oX (.run [⟨11,true,(decide (p1≤p0.Lo))⟩] (Instr.loadAt 3 (pb b1)) (iv p0.Lo)) (ob1 kr (fun _ hd=>(hS.at_ hd).cell (i:=0) (j:=0) rfl rfl))<|oX (.run [⟨11,true,(decide (p1≤p0.Lo))⟩] (Instr.loadAt 3 (.pointer (some ⟨b1,1,none⟩))) (iv p0.Hi)) (ob1 kr (fun _ hd=>(hS.at_ hd).cell (i:=0) (j:=1) rfl rfl))<|oX (.run [⟨18,true,(bif (decide (p1≤p0.Lo)) then (decide (p0.Lo≤p0.Hi)) else false)⟩] (Instr.loadAt 3 (.pointer (some ⟨b1,1,none⟩))) (iv p0.Hi)) (ob1 kr (fun _ hd=>(hS.at_ hd).cell (i:=0) (j:=1) rfl rfl))<|A9) fun a hF=>?_
 refine wpIn_ret (Ab [.tmp 6] [.bool (bif (bif (decide (p1≤p0.Lo)) then (decide (p0.Lo≤p0.Hi)) else false) then (decide (p0.Hi≤p2)) else false)] hF rfl ⟨rfl,trivial⟩ ?_)
 subst h
 exact ⟨rfl,hS.ext⟩
theorem Lk (F:Nat) (p0:volume_note) (res:Int) (h:Bz F p0=some res) (μ:Frz) (w0:World) (hm:FrzAt μ w0):Calls Tryz.prog 184 #[.agg #[iv p0.time,.string p0.text]] w0 (fun e w=>e=.returned (iv res)∧Ext w0 w):=by
 obtain ⟨hlow,hS⟩:=hm.init
 have hext:=Frz.ext_refl w0.heap.size μ
 rw [Bz] at h
 refine Ah Tryz.func184 rfl 34 [(0,.agg #[iv p0.time,.string p0.text])] rfl rfl kr fun a w hw hF=>?_
 replace hS:=hS.cast hw
 clear hw
 refine esr ?_
 refine SK.wi (Ld (t:=160) (fun b1=>[(1,pb b1)]) (.agg #[iv p0.time,.string p0.text]) #[iv p0.time,.string p0.text] hF hS kr ⟨kr⟩ kr (fun _=>⟨kr⟩) fun b1 w a hF hS=>?_)
 refine rn 1 2 [(1,pb b1)] hF fun a hF=>?_
 refine wfn rfl ?_
 refine Ar ?_
 refine wpIn_block ?_
 refine qoB [(5,.bool (bif (decide (p0.time<0)) then true else (decide (p0.time>4294967296))))] hF (oL 3 0 0 hS.i rfl rfl<|oX (.run [⟨9,false,(decide (p0.time<0))⟩] (Instr.loadAt 3 (pb b1)) (iv p0.time)) (ob1 kr (fun _ hd=>(hS.at_ hd).cell (i:=0) (j:=0) rfl rfl))<|A9) fun a hF=>?_
 refine Ai hF rfl (fun hc=>?_) (fun hc=>?_)
 ·replace h:=Ag h hc
  refine rnB [(2,iv 3)] hF fun a hF=>?_
  refine wpIn_ret (Al<|A5<|Ab [.tmp 2] [iv 3] hF rfl ⟨rfl,trivial⟩ ?_)
  obtain rfl:=Ao h
  exact ⟨rfl,hS.ext⟩
 ·replace h:=Af h hc
  refine qoB [(14,.bool (decide (((p0.text.size:Nat):Int)>200)))] hF (oL 9 0 1 hS.i rfl rfl<|A9) fun a hF=>?_
  refine Ai hF rfl (fun hc=>?_) (fun hc=>?_)
  ·replace h:=Ag h hc
   refine rnB [(2,iv 8)] hF fun a hF=>?_
   refine wpIn_ret (Al<|A5<|Ab [.tmp 2] [iv 8] hF rfl ⟨rfl,trivial⟩ ?_)
   obtain rfl:=Ao h
   exact ⟨rfl,hS.ext⟩
  ·replace h:=Af h hc
   refine wpIn_skip (Aa<|A0<|?_)
   refine Dg (fun a w=>Fr 34 [] [] a∧St w0 [blk b1 160 #[iv p0.time,.string p0.text],fz w0 μ] w∧Gb=some res) ?_ ?_
   ·skip
    refine esr ?_
    refine ro 2 2 [(20,.string p0.text)] hF (oL 9 0 1 hS.i rfl rfl<|A9) fun a hF=>?_
    obtain ⟨a0,a7,h⟩:=A1 h
    refine SK.wi (A1y (src:=9) (dst:=22) 5 (fun a1 a2=>[(21,sv a1 a0 a2)]) hF hS kr ⟨kr⟩ kr kr kr a7 (fun _ _=>⟨kr⟩) fun a1 a2 w a hF hS=>?_)
    refine rn 2 5 [(21,sv a1 a0 a2),(22,iv (ln a0)),(23,iv 0)] hF fun a hF=>?_
    refine wfn rfl ?_
    refine wpIn_block ?_
    refine Cq (fun n_ a w=>∃(a3:Int),Fr 34 [] [(21,sv a1 a0 a2),(22,iv (ln a0)),(23,iv a3)] a∧St w0 [arrT 5 1 (fK .u8) a1 a0.length a2 a0,blk b1 160 #[iv p0.time,.string p0.text],fz w0 μ] w∧C0 a0 n_ a3=some res) F ⟨0,hF.sub kr,St.pick [0,1,2] (by decide) hS,h⟩ ?_
    rintro nk2 a w ⟨a3,hF,hS,h⟩
    rcases nk2 with _|nk2
    ·cases (show (none:Option Int)=some res from h)
    obtain ⟨k2,hk2⟩:∃k,k=C0 a0 nk2:=⟨_,rfl⟩
    replace h:F2 a0 k2 a3=some res:=by rw [hk2];exact h
    rw [F2] at h
    refine qnB [(24,.bool (decide (a3<(ln a0))))] hF fun a hF=>?_
    refine Ar ?_
    refine Ai hF rfl (fun hc=>?_) (fun hc=>?_)
    ·replace h:=Ag h hc
     refine wpIn_skip (A0 ?_)
     refine Ar ?_
     refine wpIn_block ?_
     refine esr ?_
     obtain ⟨a4,a5,h⟩:=A1 h
     refine qo 3 3 [(4,.int .u8 a4)] hF (oI 22 (hS.arrT_ (i:=0) rfl) a5<|oE 5 0 (Bc .u8) (fun _ hd=>((hS.at_ hd).arrT_ (i:=0) rfl)) a5 rfl<|A9) fun a hF=>?_
     refine wfn rfl ?_
     refine qnB [(32,.bool (bif (decide (a4<32)) then true else (decide (a4>126))))] hF fun a hF=>?_
     refine Ai hF rfl (fun hc=>?_) (fun hc=>?_)
     ·replace h:=Ag h hc
      refine rnB [(2,iv 7)] hF fun a hF=>?_
      refine wpIn_ret (Al<|A5<|A5<|Al<|A5<|Ab [.tmp 2] [iv 7] hF rfl ⟨rfl,trivial⟩ ?_)
      obtain rfl:=Ao h
      exact ⟨rfl,hS.ext⟩
     ·replace h:=Af h hc
      refine wpIn_skip (Aa<|A0<|?_)
      refine WI.region ?_
      obtain ⟨a6,a8,h⟩:=A1 h
      refine ro 2 2 [(21,sv a1 a0 a2),(22,iv (ln a0)),(23,iv a6)] hF (oA 3 a8<|A9) fun a hF=>?_
      refine wfn rfl ?_
      rw [hk2] at h
      exact ⟨nk2,Nat.lt_succ_self _,a6,hF.sub kr,St.pick [0,1,2] (by decide) hS,h⟩
    ·replace h:=Af h hc
     refine wpIn_exit (A7<|A7<|Av<|A0 ?_)
     exact ⟨hF.sub kr,St.pick [1,2] (by decide) hS,h⟩
   rintro a w ⟨hF,hS,h⟩
   rw [Gb] at h
   refine rnB [(2,iv 0)] hF fun a hF=>?_
   refine wpIn_ret (Ab [.tmp 2] [iv 0] hF rfl ⟨rfl,trivial⟩ ?_)
   obtain rfl:=Ao h
   exact ⟨rfl,hS.ext⟩
theorem Ll (p0:volume_sweep) (res:volume_Item) (h:A3 p0=res) (μ:Frz) (w0:World) (hm:FrzAt μ w0) {ad1:Option Addr} {cap2:Nat} {css3:List (List Value)} (hA4:ArrQ μ 1 Rp87 ad1 cap2 css3 p0.Sweep.Rays):Bu Tryz.prog 163 #[.agg #[.string p0.Sweep.Site.Name,iv p0.Sweep.Site.X,iv p0.Sweep.Site.Y,iv p0.Sweep.Site.Z,iv p0.Sweep.Site.Rose,iv p0.Sweep.Site.Gates,iv p0.Sweep.Site.Step,iv p0.Sweep.Site.Width,iv p0.Sweep.Tilt,iv p0.Sweep.Time,sv ad1 p0.Sweep.Rays cap2]] w0 (fun e w=>∃(ν_:Frz) (ad7:Option Addr) (cap8:Nat) (css9:List (List Value)) (a0:Option Addr) (a1:Nat),μ.ext w0.heap.size ν_∧e=(.agg #[iv res.Kind,.string res.Name,iv res.Time,.string res.Sweep.Site.Name,iv res.Sweep.Site.X,iv res.Sweep.Site.Y,iv res.Sweep.Site.Z,iv res.Sweep.Site.Rose,iv res.Sweep.Site.Gates,iv res.Sweep.Site.Step,iv res.Sweep.Site.Width,iv res.Sweep.Tilt,iv res.Sweep.Time,sv ad7 res.Sweep.Rays cap8,iv res.Field.Grid.X,iv res.Field.Grid.Y,iv res.Field.Grid.Size,iv res.Field.Grid.Wide,iv res.Field.Grid.High,sv a0 res.Field.Vals a1,.string res.Text])∧ArrQ ν_ 1 Rp87 ad7 cap8 css9 res.Sweep.Rays∧ArrM ν_ 2 api_Span.cells a0 a1 res.Field.Vals∧St w0 [fz w0 ν_] w):=by
 obtain ⟨hlow,hS⟩:=hm.init
 have hext:=Frz.ext_refl w0.heap.size μ
 rw [A3] at h
 refine Ah Tryz.func163 rfl 6 [(0,.agg #[.string p0.Sweep.Site.Name,iv p0.Sweep.Site.X,iv p0.Sweep.Site.Y,iv p0.Sweep.Site.Z,iv p0.Sweep.Site.Rose,iv p0.Sweep.Site.Gates,iv p0.Sweep.Site.Step,iv p0.Sweep.Site.Width,iv p0.Sweep.Tilt,iv p0.Sweep.Time,sv ad1 p0.Sweep.Rays cap2])] rfl rfl kr fun a w hw hF=>?_
 replace hS:=hS.cast hw
 clear hw
 refine esr ?_
 refine SK.wi (Ld (t:=156) (fun b5=>[(1,pb b5)]) (.agg #[.string p0.Sweep.Site.Name,iv p0.Sweep.Site.X,iv p0.Sweep.Site.Y,iv p0.Sweep.Site.Z,iv p0.Sweep.Site.Rose,iv p0.Sweep.Site.Gates,iv p0.Sweep.Site.Step,iv p0.Sweep.Site.Width,iv p0.Sweep.Tilt,iv p0.Sweep.Time,sv ad1 p0.Sweep.Rays cap2]) #[.string p0.Sweep.Site.Name,iv p0.Sweep.Site.X,iv p0.Sweep.Site.Y,iv p0.Sweep.Site.Z,iv p0.Sweep.Site.Rose,iv p0.Sweep.Site.Gates,iv p0.Sweep.Site.Step,iv p0.Sweep.Site.Width,iv p0.Sweep.Tilt,iv p0.Sweep.Time,sv ad1 p0.Sweep.Rays cap2] hF hS kr ⟨kr⟩ kr (fun _=>⟨kr⟩) fun b5 w a hF hS=>?_)
 refine SK.wi (Kk (t:=48) (fun b6=>[(1,pb b5),(2,pb b6)]) #[iv 0,.string ByteArray.empty,iv 0,.string ByteArray.empty,iv 0,iv 0,iv 0,iv 0,iv 0,iv 0,iv 0,iv 0,iv 0,.slice none 0 0,iv 0,iv 0,iv 0,iv 0,iv 0,.slice none 0 0,.string ByteArray.empty] hF hS kr ⟨kr⟩ kr (fun _=>⟨kr⟩) fun b6 w a hF hS=>?_)
 refine wfn rfl ?_
 refine esr ?_
 refine ro 3 3 [(2,pb b6),(5,.agg #[iv 1,.string ByteArray.empty,iv 0,.string p0.Sweep.Site.Name,iv p0.Sweep.Site.X,iv p0.Sweep.Site.Y,iv p0.Sweep.Site.Z,iv p0.Sweep.Site.Rose,iv p0.Sweep.Site.Gates,iv p0.Sweep.Site.Step,iv p0.Sweep.Site.Width,iv p0.Sweep.Tilt,iv p0.Sweep.Time,sv ad1 p0.Sweep.Rays cap2,iv 0,iv 0,iv 0,iv 0,iv 0,.slice none 0 0,.string ByteArray.empty])] hF (oN 41 1 0 11 hS.i rfl<|A9) fun a hF=>?_
 refine SK.wi (qS 48 0 0 (.agg #[iv 1,.string ByteArray.empty,iv 0,.string p0.Sweep.Site.Name,iv p0.Sweep.Site.X,iv p0.Sweep.Site.Y,iv p0.Sweep.Site.Z,iv p0.Sweep.Site.Rose,iv p0.Sweep.Site.Gates,iv p0.Sweep.Site.Step,iv p0.Sweep.Site.Width,iv p0.Sweep.Tilt,iv p0.Sweep.Time,sv ad1 p0.Sweep.Rays cap2,iv 0,iv 0,iv 0,iv 0,iv 0,.slice none 0 0,.string ByteArray.empty]) #[iv 1,.string ByteArray.empty,iv 0,.string p0.Sweep.Site.Name,iv p0.Sweep.Site.X,iv p0.Sweep.Site.Y,iv p0.Sweep.Site.Z,iv p0.Sweep.Site.Rose,iv p0.Sweep.Site.Gates,iv p0.Sweep.Site.Step,iv p0.Sweep.Site.Width,iv p0.Sweep.Tilt,iv p0.Sweep.Time,sv ad1 p0.Sweep.Rays cap2,iv 0,iv 0,iv 0,iv 0,iv 0,.slice none 0 0,.string ByteArray.empty] hF hS rfl fun w a hF hS=>?_)
 refine wfn rfl ?_
 refine wpIn_ret (Ab [.cell 2 48] [.agg #[iv 1,.string ByteArray.empty,iv 0,.string p0.Sweep.Site.Name,iv p0.Sweep.Site.X,iv p0.Sweep.Site.Y,iv p0.Sweep.Site.Z,iv p0.Sweep.Site.Rose,iv p0.Sweep.Site.Gates,iv p0.Sweep.Site.Step,iv p0.Sweep.Site.Width,iv p0.Sweep.Tilt,iv p0.Sweep.Time,sv ad1 p0.Sweep.Rays cap2,iv 0,iv 0,iv 0,iv 0,iv 0,.slice none 0 0,.string ByteArray.empty]] hF rfl ⟨⟨_,rfl,De (cs:=[iv 1,.string ByteArray.empty,iv 0,.string p0.Sweep.Site.Name,iv p0.Sweep.Site.X,iv p0.Sweep.Site.Y,iv p0.Sweep.Site.Z,iv p0.Sweep.Site.Rose,iv p0.Sweep.Site.Gates,iv p0.Sweep.Site.Step,iv p0.Sweep.Site.Width,iv p0.Sweep.Tilt,iv p0.Sweep.Time,sv ad1 p0.Sweep.Rays cap2,iv 0,iv 0,iv 0,iv 0,iv 0,.slice none 0 0,.string ByteArray.empty]) kr ((hS.blk (i:=0) rfl).cells rfl)⟩,trivial⟩ ?_)
 subst h
 exact ⟨_,rfl,μ,ad1,cap2,css3,none,0,hext,rfl,hA4,ArrM.nil,St.pick [2] (by decide) hS⟩
theorem Lj (p0:volume_field) (res:volume_Item) (h:A2 p0=res) (μ:Frz) (w0:World) (hm:FrzAt μ w0) {ad1:Option Addr} {cap2:Nat} (hA3:ArrM μ 2 api_Span.cells ad1 cap2 p0.Field.Vals):Bu Tryz.prog 177 #[.agg #[.string p0.key,iv p0.time,iv p0.Field.Grid.X,iv p0.Field.Grid.Y,iv p0.Field.Grid.Size,iv p0.Field.Grid.Wide,iv p0.Field.Grid.High,sv ad1 p0.Field.Vals cap2]] w0 (fun e w=>∃(ν_:Frz) (ad6:Option Addr) (cap7:Nat) (css8:List (List Value)) (ad9:Option Addr) (a0:Nat),μ.ext w0.heap.size ν_∧e=(.agg #[iv res.Kind,.string res.Name,iv res.Time,.string res.Sweep.Site.Name,iv res.Sweep.Site.X,iv res.Sweep.Site.Y,iv res.Sweep.Site.Z,iv res.Sweep.Site.Rose,iv res.Sweep.Site.Gates,iv res.Sweep.Site.Step,iv res.Sweep.Site.Width,iv res.Sweep.Tilt,iv res.Sweep.Time,sv ad6 res.Sweep.Rays cap7,iv res.Field.Grid.X,iv res.Field.Grid.Y,iv res.Field.Grid.Size,iv res.Field.Grid.Wide,iv res.Field.Grid.High,sv ad9 res.Field.Vals a0,.string res.Text])∧ArrQ ν_ 1 Rp87 ad6 cap7 css8 res.Sweep.Rays∧ArrM ν_ 2 api_Span.cells ad9 a0 res.Field.Vals∧St w0 [fz w0 ν_] w):=by
 obtain ⟨hlow,hS⟩:=hm.init
 have hext:=Frz.ext_refl w0.heap.size μ
 rw [A2] at h
 refine Ah Tryz.func177 rfl 10 [(0,.agg #[.string p0.key,iv p0.time,iv p0.Field.Grid.X,iv p0.Field.Grid.Y,iv p0.Field.Grid.Size,iv p0.Field.Grid.Wide,iv p0.Field.Grid.High,sv ad1 p0.Field.Vals cap2])] rfl rfl kr fun a w hw hF=>?_
 replace hS:=hS.cast hw
 clear hw
 refine esr ?_
 refine SK.wi (Ld (t:=158) (fun b4=>[(1,pb b4)]) (.agg #[.string p0.key,iv p0.time,iv p0.Field.Grid.X,iv p0.Field.Grid.Y,iv p0.Field.Grid.Size,iv p0.Field.Grid.Wide,iv p0.Field.Grid.High,sv ad1 p0.Field.Vals cap2]) #[.string p0.key,iv p0.time,iv p0.Field.Grid.X,iv p0.Field.Grid.Y,iv p0.Field.Grid.Size,iv p0.Field.Grid.Wide,iv p0.Field.Grid.High,sv ad1 p0.Field.Vals cap2] hF hS kr ⟨kr⟩ kr (fun _=>⟨kr⟩) fun b4 w a hF hS=>?_)
 refine SK.wi (Kk (t:=48) (fun b5=>[(1,pb b4),(2,pb b5)]) #[iv 0,.string ByteArray.empty,iv 0,.string ByteArray.empty,iv 0,iv 0,iv 0,iv 0,iv 0,iv 0,iv 0,iv 0,iv 0,.slice none 0 0,iv 0,iv 0,iv 0,iv 0,iv 0,.slice none 0 0,.string ByteArray.empty] hF hS kr ⟨kr⟩ kr (fun _=>⟨kr⟩) fun b5 w a hF hS=>?_)
 refine wfn rfl ?_
 refine esr ?_
 refine ro 7 7 [(2,pb b5),(9,.agg #[iv 2,.string p0.key,iv p0.time,.string ByteArray.empty,iv 0,iv 0,iv 0,iv 0,iv 0,iv 0,iv 0,iv 0,iv 0,.slice none 0 0,iv p0.Field.Grid.X,iv p0.Field.Grid.Y,iv p0.Field.Grid.Size,iv p0.Field.Grid.Wide,iv p0.Field.Grid.High,sv ad1 p0.Field.Vals cap2,.string ByteArray.empty])] hF (oL 9 1 0 hS.i rfl rfl<|oL 3 1 1 hS.i rfl rfl<|oN 46 1 2 6 hS.i rfl<|A9) fun a hF=>?_
 refine SK.wi (qS 48 0 0 (.agg #[iv 2,.string p0.key,iv p0.time,.string ByteArray.empty,iv 0,iv 0,iv 0,iv 0,iv 0,iv 0,iv 0,iv 0,iv 0,.slice none 0 0,iv p0.Field.Grid.X,iv p0.Field.Grid.Y,iv p0.Field.Grid.Size,iv p0.Field.Grid.Wide,iv p0.Field.Grid.High,sv ad1 p0.Field.Vals cap2,.string ByteArray.empty]) #[iv 2,.string p0.key,iv p0.time,.string ByteArray.empty,iv 0,iv 0,iv 0,iv 0,iv 0,iv 0,iv 0,iv 0,iv 0,.slice none 0 0,iv p0.Field.Grid.X,iv p0.Field.Grid.Y,iv p0.Field.Grid.Size,iv p0.Field.Grid.Wide,iv p0.Field.Grid.High,sv ad1 p0.Field.Vals cap2,.string ByteArray.empty] hF hS rfl fun w a hF hS=>?_)
 refine wfn rfl ?_
 refine wpIn_ret (Ab [.cell 2 48] [.agg #[iv 2,.string p0.key,iv p0.time,.string ByteArray.empty,iv 0,iv 0,iv 0,iv 0,iv 0,iv 0,iv 0,iv 0,iv 0,.slice none 0 0,iv p0.Field.Grid.X,iv p0.Field.Grid.Y,iv p0.Field.Grid.Size,iv p0.Field.Grid.Wide,iv p0.Field.Grid.High,sv ad1 p0.Field.Vals cap2,.string ByteArray.empty]] hF rfl ⟨⟨_,rfl,De (cs:=[iv 2,.string p0.key,iv p0.time,.string ByteArray.empty,iv 0,iv 0,iv 0,iv 0,iv 0,iv 0,iv 0,iv 0,iv 0,.slice none 0 0,iv p0.Field.Grid.X,iv p0.Field.Grid.Y,iv p0.Field.Grid.Size,iv p0.Field.Grid.Wide,iv p0.Field.Grid.High,sv ad1 p0.Field.Vals cap2,.string ByteArray.empty]) kr ((hS.blk (i:=0) rfl).cells rfl)⟩,trivial⟩ ?_)
 subst h
 exact ⟨_,rfl,μ,none,0,[],ad1,cap2,hext,rfl,ArrQ.nil,hA3,St.pick [2] (by decide) hS⟩
theorem Ls (p0:volume_note) (res:volume_Item) (h:A4 p0=res) (μ:Frz) (w0:World) (hm:FrzAt μ w0):Bu Tryz.prog 185 #[.agg #[iv p0.time,.string p0.text]] w0 (fun e w=>∃(ν_:Frz) (ad3:Option Addr) (cap4:Nat) (css5:List (List Value)) (ad6:Option Addr) (cap7:Nat),μ.ext w0.heap.size ν_∧e=(.agg #[iv res.Kind,.string res.Name,iv res.Time,.string res.Sweep.Site.Name,iv res.Sweep.Site.X,iv res.Sweep.Site.Y,iv res.Sweep.Site.Z,iv res.Sweep.Site.Rose,iv res.Sweep.Site.Gates,iv res.Sweep.Site.Step,iv res.Sweep.Site.Width,iv res.Sweep.Tilt,iv res.Sweep.Time,sv ad3 res.Sweep.Rays cap4,iv res.Field.Grid.X,iv res.Field.Grid.Y,iv res.Field.Grid.Size,iv res.Field.Grid.Wide,iv res.Field.Grid.High,sv ad6 res.Field.Vals cap7,.string res.Text])∧ArrQ ν_ 1 Rp87 ad3 cap4 css5 res.Sweep.Rays∧ArrM ν_ 2 api_Span.cells ad6 cap7 res.Field.Vals∧St w0 [fz w0 ν_] w):=by
 obtain ⟨hlow,hS⟩:=hm.init
 have hext:=Frz.ext_refl w0.heap.size μ
 rw [A4] at h
 refine Ah Tryz.func185 rfl 8 [(0,.agg #[iv p0.time,.string p0.text])] rfl rfl kr fun a w hw hF=>?_
 replace hS:=hS.cast hw
 clear hw
 refine esr ?_
 refine SK.wi (Ld (t:=160) (fun b1=>[(1,pb b1)]) (.agg #[iv p0.time,.string p0.text]) #[iv p0.time,.string p0.text] hF hS kr ⟨kr⟩ kr (fun _=>⟨kr⟩) fun b1 w a hF hS=>?_)
 refine SK.wi (Kk (t:=48) (fun b2=>[(1,pb b1),(2,pb b2)]) #[iv 0,.string ByteArray.empty,iv 0,.string ByteArray.empty,iv 0,iv 0,iv 0,iv 0,iv 0,iv 0,iv 0,iv 0,iv 0,.slice none 0 0,iv 0,iv 0,iv 0,iv 0,iv 0,.slice none 0 0,.string ByteArray.empty] hF hS kr ⟨kr⟩ kr (fun _=>⟨kr⟩) fun b2 w a hF hS=>?_)
 refine wfn rfl ?_
 refine esr ?_
 refine ro 5 5 [(2,pb b2),(7,.agg #[iv 3,.string ByteArray.empty,iv p0.time,.string ByteArray.empty,iv 0,iv 0,iv 0,iv 0,iv 0,iv 0,iv 0,iv 0,iv 0,.slice none 0 0,iv 0,iv 0,iv 0,iv 0,iv 0,.slice none 0 0,.string p0.text])] hF (oL 3 1 0 hS.i rfl rfl<|oL 9 1 1 hS.i rfl rfl<|A9) fun a hF=>?_
 refine SK.wi (qS 48 0 0 (.agg #[iv 3,.string ByteArray.empty,iv p0.time,.string ByteArray.empty,iv 0,iv 0,iv 0,iv 0,iv 0,iv 0,iv 0,iv 0,iv 0,.slice none 0 0,iv 0,iv 0,iv 0,iv 0,iv 0,.slice none 0 0,.string p0.text]) #[iv 3,.string ByteArray.empty,iv p0.time,.string ByteArray.empty,iv 0,iv 0,iv 0,iv 0,iv 0,iv 0,iv 0,iv 0,iv 0,.slice none 0 0,iv 0,iv 0,iv 0,iv 0,iv 0,.slice none 0 0,.string p0.text] hF hS rfl fun w a hF hS=>?_)
 refine wfn rfl ?_
 refine wpIn_ret (Ab [.cell 2 48] [.agg #[iv 3,.string ByteArray.empty,iv p0.time,.string ByteArray.empty,iv 0,iv 0,iv 0,iv 0,iv 0,iv 0,iv 0,iv 0,iv 0,.slice none 0 0,iv 0,iv 0,iv 0,iv 0,iv 0,.slice none 0 0,.string p0.text]] hF rfl ⟨⟨_,rfl,De (cs:=[iv 3,.string ByteArray.empty,iv p0.time,.string ByteArray.empty,iv 0,iv 0,iv 0,iv 0,iv 0,iv 0,iv 0,iv 0,iv 0,.slice none 0 0,iv 0,iv 0,iv 0,iv 0,iv 0,.slice none 0 0,.string p0.text]) kr ((hS.blk (i:=0) rfl).cells rfl)⟩,trivial⟩ ?_)
 subst h
 exact ⟨_,rfl,μ,none,0,[],none,0,hext,rfl,ArrQ.nil,ArrM.nil,St.pick [2] (by decide) hS⟩
theorem N0 (F:Nat) (p0:volume_Item) (p1:volume_Item) (res:Bool) (h:Jr F p0 p1=some res) (μ:Frz) (w0:World) (hm:FrzAt μ w0) {ad1:Option Addr} {cap2:Nat} {css3:List (List Value)} {ad4:Option Addr} {cap5:Nat} {ad8:Option Addr} {cap9:Nat} {a6:List (List Value)} {a0:Option Addr} {a1:Nat} (hA6:ArrQ μ 1 Rp87 ad1 cap2 css3 p0.Sweep.Rays) (hA7:ArrM μ 2 api_Span.cells ad4 cap5 p0.Field.Vals) (a7:ArrQ μ 1 Rp87 ad8 cap9 a6 p1.Sweep.Rays) (a8:ArrM μ 2 api_Span.cells a0 a1 p1.Field.Vals):Calls Tryz.prog 27 #[.agg #[iv p0.Kind,.string p0.Name,iv p0.Time,.string p0.Sweep.Site.Name,iv p0.Sweep.Site.X,iv p0.Sweep.Site.Y,iv p0.Sweep.Site.Z,iv p0.Sweep.Site.Rose,iv p0.Sweep.Site.Gates,iv p0.Sweep.Site.Step,iv p0.Sweep.Site.Width,iv p0.Sweep.Tilt,iv p0.Sweep.Time,sv ad1 p0.Sweep.Rays cap2,iv p0.Field.Grid.X,iv p0.Field.Grid.Y,iv p0.Field.Grid.Size,iv p0.Field.Grid.Wide,iv p0.Field.Grid.High,sv ad4 p0.Field.Vals cap5,.string p0.Text],.agg #[iv p1.Kind,.string p1.Name,iv p1.Time,.string p1.Sweep.Site.Name,iv p1.Sweep.Site.X,iv p1.Sweep.Site.Y,iv p1.Sweep.Site.Z,iv p1.Sweep.Site.Rose,iv p1.Sweep.Site.Gates,iv p1.Sweep.Site.Step,iv p1.Sweep.Site.Width,iv p1.Sweep.Tilt,iv p1.Sweep.Time,sv ad8 p1.Sweep.Rays cap9,iv p1.Field.Grid.X,iv p1.Field.Grid.Y,iv p1.Field.Grid.Size,iv p1.Field.Grid.Wide,iv p1.Field.Grid.High,sv a0 p1.Field.Vals a1,.string p1.Text]] w0 (fun e w=>e=.returned (.bool res)∧Ext w0 w):=by
 obtain ⟨hlow,hS⟩:=hm.init
 have hext:=Frz.ext_refl w0.heap.size μ
 rw [Jr] at h
 refine Ah Tryz.func27 rfl 45 [(0,.agg #[iv p0.Kind,.string p0.Name,iv p0.Time,.string p0.Sweep.Site.Name,iv p0.Sweep.Site.X,iv p0.Sweep.Site.Y,iv p0.Sweep.Site.Z,iv p0.Sweep.Site.Rose,iv p0.Sweep.Site.Gates,iv p0.Sweep.Site.Step,iv p0.Sweep.Site.Width,iv p0.Sweep.Tilt,iv p0.Sweep.Time,sv ad1 p0.Sweep.Rays cap2,iv p0.Field.Grid.X,iv p0.Field.Grid.Y,iv p0.Field.Grid.Size,iv p0.Field.Grid.Wide,iv p0.Field.Grid.High,sv ad4 p0.Field.Vals cap5,.string p0.Text]),(1,.agg #[iv p1.Kind,.string p1.Name,iv p1.Time,.string p1.Sweep.Site.Name,iv p1.Sweep.Site.X,iv p1.Sweep.Site.Y,iv p1.Sweep.Site.Z,iv p1.Sweep.Site.Rose,iv p1.Sweep.Site.Gates,iv p1.Sweep.Site.Step,iv p1.Sweep.Site.Width,iv p1.Sweep.Tilt,iv p1.Sweep.Time,sv ad8 p1.Sweep.Rays cap9,iv p1.Field.Grid.X,iv p1.Field.Grid.Y,iv p1.Field.Grid.Size,iv p1.Field.Grid.Wide,iv p1.Field.Grid.High,sv a0 p1.Field.Vals a1,.string p1.Text])] rfl rfl kr fun a w hw hF=>?_
 replace hS:=hS.cast hw
 clear hw
 refine esr ?_
 refine SK.wi (qB 48 (.agg #[iv p0.Kind,.string p0.Name,iv p0.Time,.string p0.Sweep.Site.Name,iv p0.Sweep.Site.X,iv p0.Sweep.Site.Y,iv p0.Sweep.Site.Z,iv p0.Sweep.Site.Rose,iv p0.Sweep.Site.Gates,iv p0.Sweep.Site.Step,iv p0.Sweep.Site.Width,iv p0.Sweep.Tilt,iv p0.Sweep.Time,sv ad1 p0.Sweep.Rays cap2,iv p0.Field.Grid.X,iv p0.Field.Grid.Y,iv p0.Field.Grid.Size,iv p0.Field.Grid.Wide,iv p0.Field.Grid.High,sv ad4 p0.Field.Vals cap5,.string p0.Text]) #[iv p0.Kind,.string p0.Name,iv p0.Time,.string p0.Sweep.Site.Name,iv p0.Sweep.Site.X,iv p0.Sweep.Site.Y,iv p0.Sweep.Site.Z,iv p0.Sweep.Site.Rose,iv p0.Sweep.Site.Gates,iv p0.Sweep.Site.Step,iv p0.Sweep.Site.Width,iv p0.Sweep.Tilt,iv p0.Sweep.Time,sv ad1 p0.Sweep.Rays cap2,iv p0.Field.Grid.X,iv p0.Field.Grid.Y,iv p0.Field.Grid.Size,iv p0.Field.Grid.Wide,iv p0.Field.Grid.High,sv ad4 p0.Field.Vals cap5,.string p0.Text] (fun a2=>[(2,pb a2)]) hF hS fun a2 w a hF hS=>?_)
 refine SK.wi (qB 48 (.agg #[iv p1.Kind,.string p1.Name,iv p1.Time,.string p1.Sweep.Site.Name,iv p1.Sweep.Site.X,iv p1.Sweep.Site.Y,iv p1.Sweep.Site.Z,iv p1.Sweep.Site.Rose,iv p1.Sweep.Site.Gates,iv p1.Sweep.Site.Step,iv p1.Sweep.Site.Width,iv p1.Sweep.Tilt,iv p1.Sweep.Time,sv ad8 p1.Sweep.Rays cap9,iv p1.Field.Grid.X,iv p1.Field.Grid.Y,iv p1.Field.Grid.Size,iv p1.Field.Grid.Wide,iv p1.Field.Grid.High,sv a0 p1.Field.Vals a1,.string p1.Text]) #[iv p1.Kind,.string p1.Name,iv p1.Time,.string p1.Sweep.Site.Name,iv p1.Sweep.Site.X,iv p1.Sweep.Site.Y,iv p1.Sweep.Site.Z,iv p1.Sweep.Site.Rose,iv p1.Sweep.Site.Gates,iv p1.Sweep.Site.Step,iv p1.Sweep.Site.Width,iv p1.Sweep.Tilt,iv p1.Sweep.Time,sv ad8 p1.Sweep.Rays cap9,iv p1.Field.Grid.X,iv p1.Field.Grid.Y,iv p1.Field.Grid.Size,iv p1.Field.Grid.Wide,iv p1.Field.Grid.High,sv a0 p1.Field.Vals a1,.string p1.Text] (fun a3=>[(3,pb a3)]) hF hS fun a3 w a hF hS=>?_)
 refine qn 1 3 [] hF fun a hF=>?_
 refine wfn rfl ?_
 refine esr ?_
 obtain ⟨a4,a9,h⟩:=A1 h
 obtain ⟨a5,aA,h⟩:=A1 h
 refine rX 41 41 [(4,.bool (bif (bif (bif (bif (bif (p0.Kind==p1.Kind) then (sEq p0.Name p1.Name) else false) then (p0.Time==p1.Time) else false) then (sEq p0.Text p1.Text) else false) then a4 else false) then a5 else false))] hF (oL 3 1 0 hS.e rfl rfl<|oL 3 0 0 hS.e rfl rfl<|oX (.run [⟨10,true,(p0.Kind==p1.Kind)⟩] (Instr.loadAt 9 (.pointer (some ⟨a2,1,none⟩))) (.string p0.Name)) (ob1 kr (fun _ hd=>(hS.later hd).cell (i:=1) (j:=1) rfl rfl))<|oX (.run [⟨10,true,(p0.Kind==p1.Kind)⟩] (Instr.loadAt 9 (.pointer (some ⟨a3,1,none⟩))) (.string p1.Name)) (ob1 kr (fun _ hd=>(hS.later hd).cell (i:=0) (j:=1) rfl rfl))<|oX (.run [⟨10,true,(p0.Kind==p1.Kind)⟩] (Pe .eql 9 p0.Name p1.Name) (.bool (sEq p0.Name p1.Name))) Zd<|oX (.run [⟨17,true,(bif (p0.Kind==p1.Kind) then (sEq p0.Name p1.Name) else false)⟩] (Instr.loadAt 3 (.pointer (some ⟨a2,2,none⟩))) (iv p0.Time)) (ob1 kr (fun _ hd=>(hS.later hd).cell (i:=1) (j:=2) rfl rfl))<|oX (.run [⟨17,true,(bif (p0.Kind==p1.Kind) then (sEq p0.Name p1.Name) else false)⟩] (Instr.loadAt 3 (.pointer (some ⟨a3,2,none⟩))) (iv p1.Time)) (ob1 kr (fun _ hd=>(hS.later hd).cell (i:=0) (j:=2) rfl rfl))<|oX (.run [⟨24,true,(bif (bif (p0.Kind==p1.Kind) then (sEq p0.Name p1.Name) else false) then (p0.Time==p1.Time) else false)⟩] (Instr.loadAt 9 (.pointer (some ⟨a2,20,none⟩))) (.string p0.Text)) (ob1 kr (fun _ hd=>(hS.later hd).cell (i:=1) (j:=20) rfl rfl))<|oX (.run [⟨24,true,(bif (bif (p0.Kind==p1.Kind) then (sEq p0.Name p1.Name) else false) then (p0.Time==p1.Time) else false)⟩] (Instr.loadAt 9 (.pointer (some ⟨a3,20,none⟩))) (.string p1.Text)) (ob1 kr (fun _ hd=>(hS.later hd).cell (i:=0) (j:=20) rfl rfl))<|oX (.run [⟨24,true,(bif (bif (p0.Kind==p1.Kind) then (sEq p0.Name p1.Name) else false) then (p0.Time==p1.Time) else false)⟩] (Pe .eql 9 p0.Text p1.Text) (.bool (sEq p0.Text p1.Text))) Zd<|oX (.run [⟨31,true,(bif (bif (bif (p0.Kind==p1.Kind) then (sEq p0.Name p1.Name) else false) then (p0.Time==p1.Time) else false) then (sEq p0.Text p1.Text) else false)⟩] (Instr.loadAt 41 (.pointer (some ⟨a2,3,none⟩))) (.agg #[.string p0.Sweep.Site.Name,iv p0.Sweep.Site.X,iv p0.Sweep.Site.Y,iv p0.Sweep.Site.Z,iv p0.Sweep.Site.Rose,iv p0.Sweep.Site.Gates,iv p0.Sweep.Site.Step,iv p0.Sweep.Site.Width,iv p0.Sweep.Tilt,iv p0.Sweep.Time,sv ad1 p0.Sweep.Rays cap2])) (obN (us:=[.string p0.Sweep.Site.Name,iv p0.Sweep.Site.X,iv p0.Sweep.Site.Y,iv p0.Sweep.Site.Z,iv p0.Sweep.Site.Rose,iv p0.Sweep.Site.Gates,iv p0.Sweep.Site.Step,iv p0.Sweep.Site.Width,iv p0.Sweep.Tilt,iv p0.Sweep.Time,sv ad1 p0.Sweep.Rays cap2]) kr (fun _ hd=>((hS.later hd).blk (i:=1) rfl).cells rfl))<|oX (.run [⟨31,true,(bif (bif (bif (p0.Kind==p1.Kind) then (sEq p0.Name p1.Name) else false) then (p0.Time==p1.Time) else false) then (sEq p0.Text p1.Text) else false)⟩] (Instr.loadAt 41 (.pointer (some ⟨a3,3,none⟩))) (.agg #[.string p1.Sweep.Site.Name,iv p1.Sweep.Site.X,iv p1.Sweep.Site.Y,iv p1.Sweep.Site.Z,iv p1.Sweep.Site.Rose,iv p1.Sweep.Site.Gates,iv p1.Sweep.Site.Step,iv p1.Sweep.Site.Width,iv p1.Sweep.Tilt,iv p1.Sweep.Time,sv ad8 p1.Sweep.Rays cap9])) (obN (us:=[.string p1.Sweep.Site.Name,iv p1.Sweep.Site.X,iv p1.Sweep.Site.Y,iv p1.Sweep.Site.Z,iv p1.Sweep.Site.Rose,iv p1.Sweep.Site.Gates,iv p1.Sweep.Site.Step,iv p1.Sweep.Site.Width,iv p1.Sweep.Tilt,iv p1.Sweep.Time,sv ad8 p1.Sweep.Rays cap9]) kr (fun _ hd=>((hS.later hd).blk (i:=0) rfl).cells rfl))<|oX (.call [⟨31,true,(bif (bif (bif (p0.Kind==p1.Kind) then (sEq p0.Name p1.Name) else false) then (p0.Time==p1.Time) else false) then (sEq p0.Text p1.Text) else false)⟩] 60 #[.agg #[.string p0.Sweep.Site.Name,iv p0.Sweep.Site.X,iv p0.Sweep.Site.Y,iv p0.Sweep.Site.Z,iv p0.Sweep.Site.Rose,iv p0.Sweep.Site.Gates,iv p0.Sweep.Site.Step,iv p0.Sweep.Site.Width,iv p0.Sweep.Tilt,iv p0.Sweep.Time,sv ad1 p0.Sweep.Rays cap2],.agg #[.string p1.Sweep.Site.Name,iv p1.Sweep.Site.X,iv p1.Sweep.Site.Y,iv p1.Sweep.Site.Z,iv p1.Sweep.Site.Rose,iv p1.Sweep.Site.Gates,iv p1.Sweep.Site.Step,iv p1.Sweep.Site.Width,iv p1.Sweep.Tilt,iv p1.Sweep.Time,sv ad8 p1.Sweep.Rays cap9]] (.bool a4)) (show Ob.ok _ Ext _ _ from fun hk w2 hd=>Td F p0.Sweep p1.Sweep _ ((fun hk=>C9 a9 hk) hk) _ w2 (Ae w2) (hA6.mono Rp87.mono (FrzAt.le_mem ((hS.later hd).frz (i:=2) rfl hlow))) (a7.mono Rp87.mono (FrzAt.le_mem ((hS.later hd).frz (i:=2) rfl hlow))))<|oX (.run [⟨38,true,(bif (bif (bif (bif (p0.Kind==p1.Kind) then (sEq p0.Name p1.Name) else false) then (p0.Time==p1.Time) else false) then (sEq p0.Text p1.Text) else false) then a4 else false)⟩] (Instr.loadAt 46 (.pointer (some ⟨a2,14,none⟩))) (.agg #[iv p0.Field.Grid.X,iv p0.Field.Grid.Y,iv p0.Field.Grid.Size,iv p0.Field.Grid.Wide,iv p0.Field.Grid.High,sv ad4 p0.Field.Vals cap5])) (obN (us:=[iv p0.Field.Grid.X,iv p0.Field.Grid.Y,iv p0.Field.Grid.Size,iv p0.Field.Grid.Wide,iv p0.Field.Grid.High,sv ad4 p0.Field.Vals cap5]) kr (fun _ hd=>((hS.later hd).blk (i:=1) rfl).cells rfl))<|oX (.run [⟨38,true,(bif (bif (bif (bif (p0.Kind==p1.Kind) then (sEq p0.Name p1.Name) else false) then (p0.Time==p1.Time) else false) then (sEq p0.Text p1.Text) else false) then a4 else false)⟩] (Instr.loadAt 46 (.pointer (some ⟨a3,14,none⟩))) (.agg #[iv p1.Field.Grid.X,iv p1.Field.Grid.Y,iv p1.Field.Grid.Size,iv p1.Field.Grid.Wide,iv p1.Field.Grid.High,sv a0 p1.Field.Vals a1])) (obN (us:=[iv p1.Field.Grid.X,iv p1.Field.Grid.Y,iv p1.Field.Grid.Size,iv p1.Field.Grid.Wide,iv p1.Field.Grid.High,sv a0 p1.Field.Vals a1]) kr (fun _ hd=>((hS.later hd).blk (i:=0) rfl).cells rfl))<|oX (.call [⟨38,true,(bif (bif (bif (bif (p0.Kind==p1.Kind) then (sEq p0.Name p1.Name) else false) then (p0.Time==p1.Time) else false) then (sEq p0.Text p1.Text) else false) then a4 else false)⟩] 61 #[.agg #[iv p0.Field.Grid.X,iv p0.Field.Grid.Y,iv p0.Field.Grid.Size,iv p0.Field.Grid.Wide,iv p0.Field.Grid.High,sv ad4 p0.Field.Vals cap5],.agg #[iv p1.Field.Grid.X,iv p1.Field.Grid.Y,iv p1.Field.Grid.Size,iv p1.Field.Grid.Wide,iv p1.Field.Grid.High,sv a0 p1.Field.Vals a1]] (.bool a5)) (show Ob.ok _ Ext _ _ from fun hk w2 hd=>Tc F p0.Field p1.Field _ ((fun hk=>C9 aA hk) hk) _ w2 (Ae w2) (hA7.mono (FrzAt.le_mem ((hS.later hd).frz (i:=2) rfl hlow))) (a8.mono (FrzAt.le_mem ((hS.later hd).frz (i:=2) rfl hlow))))<|A9) fun a w hF hx=>?_
 replace hS:=hS.later hx
 refine wfn rfl ?_
 refine wpIn_ret (Ab [.tmp 4] [.bool (bif (bif (bif (bif (bif (p0.Kind==p1.Kind) then (sEq p0.Name p1.Name) else false) then (p0.Time==p1.Time) else false) then (sEq p0.Text p1.Text) else false) then a4 else false) then a5 else false)] hF rfl ⟨rfl,trivial⟩ ?_)
 obtain rfl:=Ao h
 exact ⟨rfl,hS.ext⟩
theorem Ka (p0:api_Span) (p1:Int) (p2:Int) (res:Bool) (h:Bm p0 p1 p2=res) (μ:Frz) (w0:World) (hm:FrzAt μ w0):Calls Tryz.prog 109 #[.agg #[iv p0.Lo,iv p0.Hi],iv p1,iv p2] w0 (fun e w=>e=.returned (.bool res)∧Ext w0 w):=by
 obtain ⟨hlow,hS⟩:=hm.init
 have hext:=Frz.ext_refl w0.heap.size μ
 rw [Bm] at h
 refine Ah Tryz.func109 rfl 24 [(0,.agg #[iv p0.Lo,iv p0.Hi]),(1,iv p1),(2,iv p2)] rfl rfl kr fun a w hw hF=>?_
 replace hS:=hS.cast hw
 clear hw
 refine esr ?_
 refine SK.wi (qB 146 (.agg #[iv p0.Lo,iv p0.Hi]) #[iv p0.Lo,iv p0.Hi] (fun b1=>[(3,pb b1)]) hF hS fun b1 w a hF hS=>?_)
 refine qn 1 2 [] hF fun a hF=>?_
 refine wfn rfl ?_
 refine roB [(6,.bool (bif (bif (decide (p0.Lo≤p0.Hi)) then (decide (p0.Lo≥p1)) else false) then (decide (p0.Hi≤p2)) else false))] hF (oL 3 0 0 hS.i rfl rfl<|oL 3 0 1 hS.i rfl rfl<|oX (.run [⟨12,true,(decide (p0.Lo≤p0.Hi))⟩] (Instr.loadAt 3 (pb b1)) (iv p0.Lo)) (ob1 kr (fun _ hd=>(hS.at_ hd).cell (i:=0) (j:=0) rfl rfl))<|oX (.run [⟨18,true,(bif (decide (p0.Lo≤p0.Hi)) then (decide (p0.Lo≥p1)) else false)⟩] (Instr.loadAt 3 (.pointer (some ⟨b1,1,none⟩))) (iv p0.Hi)) (ob1 kr (fun _ hd=>(hS.at_ hd).cell (i:=0) (j:=1) rfl rfl))<|A9) fun a hF=>?_
 refine wpIn_ret (Ab [.tmp 6] [.bool (bif (bif (decide (p0.Lo≤p0.Hi)) then (decide (p0.Lo≥p1)) else false) then (decide (p0.Hi≤p2)) else false)] hF rfl ⟨rfl,trivial⟩ ?_)
 subst h
 exact ⟨rfl,hS.ext⟩
theorem U3 (F:Nat) (p0:(List Int)) (res:Bool) (h:Mj F p0=some res) (μ:Frz) (w0:World) (hm:FrzAt μ w0) {ad1:Option Addr} {cap2:Nat} (hA3:ArrM μ 1 (fK .u8) ad1 cap2 p0):Calls Tryz.prog 40 #[sv ad1 p0 cap2] w0 (fun e w=>e=.returned (.bool res)∧Ext w0 w):=by
 obtain ⟨hlow,hS⟩:=hm.init
 have hext:=Frz.ext_refl w0.heap.size μ
 rw [Mj] at h
 refine Ah Tryz.func40 rfl 51 [(0,sv ad1 p0 cap2)] rfl rfl kr fun a w hw hF=>?_
 replace hS:=hS.cast hw
 clear hw
 refine qnB [] hF fun a hF=>?_
 refine qnB [(3,.bool true)] hF fun a hF=>?_
 refine Dg (fun a w=>∃(a5:Bool),Fr 51 [] [(0,sv ad1 p0 cap2),(3,.bool a5)] a∧St w0 [fz w0 μ] w∧Jo F p0 a5=some res) ?_ ?_
 ·skip
  refine qnB [(4,iv 0)] hF fun a hF=>?_
  refine wpIn_block ?_
  refine Cq (fun n_ a w=>∃(a3:Bool) (a2:Int),Fr 51 [] [(0,sv ad1 p0 cap2),(3,.bool a3),(4,iv a2)] a∧St w0 [fz w0 μ] w∧Hp F p0 n_ a3 a2=some res) F ⟨true,0,hF.sub kr,St.pick [0] (by decide) hS,h⟩ ?_
  rintro nk2 a w ⟨a3,a2,hF,hS,h⟩
  rcases nk2 with _|nk2
  ·cases (show (none:Option Bool)=some res from h)
  obtain ⟨k2,hk2⟩:∃k,k=Hp F p0 nk2:=⟨_,rfl⟩
  replace h:L8 F p0 k2 a3 a2=some res:=by rw [hk2];exact h
  rw [L8] at h
  refine Ar ?_
  refine qnB [(10,.bool (decide (a2<(ln p0))))] hF fun a hF=>?_
  refine Ai hF rfl (fun hc=>?_) (fun hc=>?_)
  ·replace h:=Ag h hc
   refine wpIn_skip (A0 ?_)
   refine Ar ?_
   refine wpIn_block ?_
   refine WI.region ?_
   obtain ⟨a4,aA,h⟩:=A1 h
   obtain ⟨a8,aB,h⟩:=A1 h
   refine ro 16 16 [(0,sv ad1 p0 cap2),(3,.bool (bif (bif a3 then (decide (a4≥128)) else false) then (decide (a8≤254)) else false)),(4,iv a2)] hF (oX (.run [⟨14,true,a3⟩] (Instr.indexAt 22 (sv ad1 p0 cap2) (iv a2)) (.pointer (some (Bj ad1 a2 1)))) (Hs (hA3 _ (hS.frz (i:=0) rfl hlow)) kr (fun hk=>C9 aA hk))<|oX (.run [⟨14,true,a3⟩] (Instr.loadAt 5 (.pointer (some (Bj ad1 a2 1)))) (.int .u8 a4)) (Mx (i:=a2) 0 (Bc .u8) (fun _ hd=>(hA3 _ ((hS.at_ hd).frz (i:=0) rfl hlow))) kr (fun hk=>C9 aA hk) rfl)<|oX (.run [⟨21,true,(bif a3 then (decide (a4≥128)) else false)⟩] (Instr.indexAt 22 (sv ad1 p0 cap2) (iv a2)) (.pointer (some (Bj ad1 a2 1)))) (Hs (hA3 _ (hS.frz (i:=0) rfl hlow)) kr (fun hk=>C9 aB hk))<|oX (.run [⟨21,true,(bif a3 then (decide (a4≥128)) else false)⟩] (Instr.loadAt 5 (.pointer (some (Bj ad1 a2 1)))) (.int .u8 a8)) (Mx (i:=a2) 0 (Bc .u8) (fun _ hd=>(hA3 _ ((hS.at_ hd).frz (i:=0) rfl hlow))) kr (fun hk=>C9 aB hk) rfl)<|A9) fun a hF=>?_
   refine WI.fin rfl (Aa<|A0<|?_)
   refine WI.region ?_
   obtain ⟨aE,aI,h⟩:=A1 h
   refine ro 3 3 [(0,sv ad1 p0 cap2),(3,.bool (bif (bif a3 then (decide (a4≥128)) else false) then (decide (a8≤254)) else false)),(4,iv aE)] hF (oA 3 aI<|A9) fun a hF=>?_
   refine wfn rfl ?_
   rw [hk2] at h
   exact ⟨nk2,Nat.lt_succ_self _,bif (bif a3 then (decide (a4≥128)) else false) then (decide (a8≤254)) else false,aE,hF.sub kr,St.pick [0] (by decide) hS,h⟩
  ·replace h:=Af h hc
   refine wpIn_exit (A7<|A7<|Av<|A0 ?_)
   exact ⟨a3,hF.sub kr,St.pick [0] (by decide) hS,h⟩
 rintro a w ⟨a5,hF,hS,h⟩
 rw [Jo] at h
 refine esr ?_
 refine qn 2 2 [(29,.agg #[sv ad1 p0 cap2,.bool false])] hF fun a hF=>?_
 refine SK.wi (qB 135 (.agg #[sv ad1 p0 cap2,.bool false]) #[sv ad1 p0 cap2,.bool false] (fun a1=>[(30,pb a1)]) hF hS fun a1 w a hF hS=>?_)
 refine qn 1 4 [(5,pb a1)] hF fun a hF=>?_
 refine wfn rfl ?_
 refine esr ?_
 refine qn 1 1 [(31,pb a1)] hF fun a hF=>?_
 obtain ⟨a0,aJ,h⟩:=A1 h
 replace hS:=hS.s1
 refine SK.wi (qR (fun aD=>[(32,aD)]) hF (Ap F _ _ aJ μ w0 w _ hlow hA3 hS) ?_)
 rintro aD w a ⟨ν21,aF,aG,aC,hlow,rfl,aK,hS⟩ hF
 replace hext:=Frz.ext_trans hext aC
 replace hA3:=hA3.mono aC.1
 refine qn 1 3 [(6,iv a0.1)] hF fun a hF=>?_
 refine wfn rfl ?_
 refine esr ?_
 refine rn 2 2 [(5,pb a1),(6,iv a0.1),(34,.bool a5)] hF fun a hF=>?_
 rcases Bool.eq_false_or_eq_true (a5) with a6|a6
 ·replace h:=Ag h a6
  rw [a6] at hF
  refine Be 3 [(5,pb a1),(6,iv a0.1),(34,.bool true),(35,undef)] hF kr ⟨kr⟩ ⟨kr⟩ rfl fun a hF=>?_
  refine Be 4 [(5,pb a1),(6,iv a0.1),(34,.bool true),(36,undef)] hF kr ⟨kr⟩ ⟨kr⟩ rfl fun a hF=>?_
  refine Be 5 [(5,pb a1),(6,iv a0.1),(34,.bool true),(37,undef)] hF kr ⟨kr⟩ ⟨kr⟩ rfl fun a hF=>?_
  refine Be 6 [(5,pb a1),(6,iv a0.1),(34,.bool true),(38,undef)] hF kr ⟨kr⟩ ⟨kr⟩ rfl fun a hF=>?_
  refine Be 7 [(5,pb a1),(6,iv a0.1),(34,.bool true),(39,undef)] hF kr ⟨kr⟩ ⟨kr⟩ rfl fun a hF=>?_
  refine Be 8 [(5,pb a1),(6,iv a0.1),(34,.bool true),(40,undef)] hF kr ⟨kr⟩ ⟨kr⟩ rfl fun a hF=>?_
  refine Jh 9 [(6,iv a0.1),(34,.bool true),(40,undef),(41,undef)] hF kr ⟨kr⟩ ⟨kr⟩ rfl fun a hF=>?_
  refine Jh 10 [(6,iv a0.1),(34,.bool true),(40,undef),(42,undef)] hF kr ⟨kr⟩ ⟨kr⟩ rfl fun a hF=>?_
  refine Jh 11 [(6,iv a0.1),(34,.bool true),(40,undef),(43,undef)] hF kr ⟨kr⟩ ⟨kr⟩ rfl fun a hF=>?_
  refine Jh 12 [(6,iv a0.1),(34,.bool true),(40,undef),(44,undef)] hF kr ⟨kr⟩ ⟨kr⟩ rfl fun a hF=>?_
  refine Jh 13 [(6,iv a0.1),(34,.bool true),(40,undef),(45,undef)] hF kr ⟨kr⟩ ⟨kr⟩ rfl fun a hF=>?_
  refine Jh 14 [(34,.bool true),(40,undef),(45,undef),(46,undef)] hF kr ⟨kr⟩ ⟨kr⟩ rfl fun a hF=>?_
  refine Jh 15 [(34,.bool true),(40,undef),(45,undef),(47,undef)] hF kr ⟨kr⟩ ⟨kr⟩ rfl fun a hF=>?_
  refine Jh 16 [(34,.bool true),(40,undef),(48,undef)] hF kr ⟨kr⟩ ⟨kr⟩ rfl fun a hF=>?_
  refine Be 17 [(34,.bool true),(49,undef)] hF kr ⟨kr⟩ ⟨kr⟩ rfl fun a hF=>?_
  refine rn 2 19 [(2,.bool true)] hF fun a hF=>?_
  refine wfn rfl ?_
  refine wpIn_ret (Ab [.tmp 2] [.bool true] hF rfl ⟨rfl,trivial⟩ ?_)
  obtain rfl:=Ao h
  exact ⟨rfl,hS.ext⟩
 ·replace h:=Af h a6
  rw [a6] at hF
  refine Zt (n:=6) (obs:=[.run [⟨34,false,false⟩] (Instr.loadAt 4 (.pointer (some ⟨a1,1,none⟩))) (.bool a0.2.bad)]) 8 [(5,⟨[],pb a1⟩),(6,⟨[],iv a0.1⟩),(34,⟨[],.bool false⟩),(40,⟨[⟨34,false,false⟩],.bool (!a0.2.bad)⟩)] hF kr (G9 (ob1 kr (fun _ hd=>(hS.at_ hd).cell (i:=1) (j:=1) rfl rfl)) A9) ⟨kr⟩ kr rfl fun a hF=>?_
  replace hF:Fr 51 [] [(5,pb a1),(6,iv a0.1),(34,.bool false),(40,.bool (!a0.2.bad))] a:=hF
  rcases Bool.eq_false_or_eq_true ((!a0.2.bad)) with a7|a7
  ·replace h:=Ag h a7
   rw [a7] at hF
   obtain ⟨a9,aH,h⟩:=A1 h
   refine ro 11 19 [(2,.bool (decide ((ln a0.2.b)<a9)))] hF (oX (.run [⟨40,true,true⟩] (Instr.loadAt 22 (pb a1)) (sv aF a0.2.b aG)) (ob1 kr (fun _ hd=>(hS.at_ hd).cell (i:=1) (j:=0) rfl rfl))<|oX (.run [⟨40,true,true⟩] (binOp .add 3 (iv a0.1) (iv 5)) (iv a9)) (Px (fun _=>aH))<|A9) fun a hF=>?_
   refine wfn rfl ?_
   refine wpIn_ret (Ab [.tmp 2] [.bool (decide ((ln a0.2.b)<a9))] hF rfl ⟨rfl,trivial⟩ ?_)
   obtain rfl:=Ao h
   exact ⟨rfl,hS.ext⟩
  ·replace h:=Af h a7
   rw [a7] at hF
   refine Be 9 [(6,iv a0.1),(34,.bool false),(40,.bool false),(41,undef)] hF kr ⟨kr⟩ ⟨kr⟩ rfl fun a hF=>?_
   refine Be 10 [(6,iv a0.1),(34,.bool false),(40,.bool false),(42,undef)] hF kr ⟨kr⟩ ⟨kr⟩ rfl fun a hF=>?_
   refine Be 11 [(6,iv a0.1),(34,.bool false),(40,.bool false),(43,undef)] hF kr ⟨kr⟩ ⟨kr⟩ rfl fun a hF=>?_
   refine Be 12 [(6,iv a0.1),(34,.bool false),(40,.bool false),(44,undef)] hF kr ⟨kr⟩ ⟨kr⟩ rfl fun a hF=>?_
   refine Be 13 [(6,iv a0.1),(34,.bool false),(40,.bool false),(45,undef)] hF kr ⟨kr⟩ ⟨kr⟩ rfl fun a hF=>?_
   refine Be 14 [(34,.bool false),(40,.bool false),(45,undef),(46,undef)] hF kr ⟨kr⟩ ⟨kr⟩ rfl fun a hF=>?_
   refine Be 15 [(34,.bool false),(40,.bool false),(45,undef),(47,undef)] hF kr ⟨kr⟩ ⟨kr⟩ rfl fun a hF=>?_
   refine Be 16 [(34,.bool false),(40,.bool false),(48,undef)] hF kr ⟨kr⟩ ⟨kr⟩ rfl fun a hF=>?_
   refine rn 3 19 [(2,.bool false)] hF fun a hF=>?_
   refine wfn rfl ?_
   refine wpIn_ret (Ab [.tmp 2] [.bool false] hF rfl ⟨rfl,trivial⟩ ?_)
   obtain rfl:=Ao h
   exact ⟨rfl,hS.ext⟩
end Go.Proofs.YtifbomimeodibaaGreat
