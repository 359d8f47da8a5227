import Derived.Test.YtifbomimeodibaaGreatV5XD
import Derived.Test.YtifbomimeodibaaGreatProg
import Derived.Test.YtifbomimeodibaaGreatV5XW0
import Derived.Test.YtifbomimeodibaaGreatV5XW1
import Derived.Test.YtifbomimeodibaaGreatV5WnN
namespace Go.Proofs.YtifbomimeodibaaGreat
open Go Go.RowKit Go.Eng
set_option maxRecDepth 10000
set_option maxHeartbeats 4000000
set_option linter.unusedVariables false
set_option linter.unusedSimpArgs false
theorem S9 (F:Nat) (p0:(List Int)) (p1:(List Int)) (res:Bool) (h:Fw F p0 p1=some res) (μ:Frz) (w0:World) (hm:FrzAt μ w0) {ad1:Option Addr} {cap2:Nat} {ad4:Option Addr} {cap5:Nat} (hA3:ArrM μ 1 (fK .u8) ad1 cap2 p0) (hA6:ArrM μ 1 (fK .u8) ad4 cap5 p1):Calls Tryz.prog 34 #[sv ad1 p0 cap2,sv ad4 p1 cap5] w0 (fun e w=>e=.returned (.bool res)∧Ext w0 w):=by
 obtain ⟨hlow,hS⟩:=hm.init
 have hext:=Frz.ext_refl w0.heap.size μ
 rw [Fw] at h
 refine feW Tryz.func34 18 [(0,sv ad1 p0 cap2),(1,sv ad4 p1 cap5)] hS fun a w hF hS=>?_
 refine qnB [] hF fun a hF=>?_
 refine esr<|qn 6 6 [(10,.bool (decide ((ln p0)≥(ln p1))))] hF fun a hF=>?_
 rcases Bool.eq_false_or_eq_true ((decide ((ln p0)≥(ln p1)))) with hg7|hg7
 ·replace h:=Gx h hg7
  rw [hg7] at hF
  obtain ⟨l8,hl8,h⟩:=A0 h
  have hA9:ArrM μ 1 (fK .u8) (Al ad1 cap2 (0:Int).toNat 1) (cap2-(0:Int).toNat) l8:=fun w_ hw_=>(hA3 w_ hw_).cutD (B8 .u8) hl8
  refine rX 8 14 [(4,.bool (Gy l8 p1))] hF (oGs [⟨10,true,true⟩] (oX (.run [] (Instr.sliceAt 22 (sv ad1 p0 cap2) none (some (iv (ln p1))) none) (.slice (Al ad1 cap2 (0:Int).toNat 1) l8.length (cap2-(0:Int).toNat))) (Nl kr (hA3 _ (hS.frz (i:=0) rfl hlow)) (fun _=>hl8))<|oC (fun w2 hd=>Qz l8 p1 _ rfl _ w2 (A4 w2) (hA9.mono (FrzAt.le_mem ((hS.later hd).frz (i:=0) rfl hlow))) (hA6.mono (FrzAt.le_mem ((hS.later hd).frz (i:=0) rfl hlow))))<|A1)<|A1) fun a w hF hx=>?_
  replace hS:=hS.later hx
  refine wfn rfl ?_
  refine wpIn_ret (A7 [.tmp 4] [_] hF rfl ⟨rfl,trivial⟩ ?_)
  obtain rfl:=Ae h
  exact ⟨rfl,hS.ext⟩
 ·replace h:=Gw h hg7
  rw [hg7] at hF
  refine qk 7 [(10,.bool false),(11,undef)] hF fun a hF=>?_
  refine qk 8 [(12,undef)] hF fun a hF=>?_
  refine qk 9 [(13,undef)] hF fun a hF=>?_
  refine qk 10 [(14,undef)] hF fun a hF=>?_
  refine qk 11 [(15,undef)] hF fun a hF=>?_
  refine qk 12 [(16,undef)] hF fun a hF=>?_
  refine rn 2 14 [(4,.bool false)] hF fun a hF=>wfn rfl ?_
  refine wpIn_ret (A7 [.tmp 4] [_] hF rfl ⟨rfl,trivial⟩ ?_)
  obtain rfl:=Ae h
  exact ⟨rfl,hS.ext⟩
theorem Pw (p0:(List Int)) (res:Unit) (h:S5 p0=res) (μ:Frz) (w0:World) (hm:FrzAt μ w0) {ad1:Option Addr} {cap2:Nat} (hA3:ArrM μ 1 (fK .u8) ad1 cap2 p0):Ba Tryz.prog 35 #[sv ad1 p0 cap2] w0 (fun e w=>∃zb0,e=(.func (.func 65) #[] #[pb zb0])∧St w0 [blk zb0 22 #[sv ad1 p0 cap2]] w):=by
 obtain ⟨hlow,hS⟩:=hm.init
 have hext:=Frz.ext_refl w0.heap.size μ
 rw [S5] at h
 refine feW Tryz.func35 4 [(0,sv ad1 p0 cap2)] hS fun a w hF hS=>?_
 refine esr<|SK.wi (qB 22 (sv ad1 p0 cap2) #[sv ad1 p0 cap2] (fun b4=>[(1,pb b4)]) hF hS fun b4 w a hF hS=>?_)
 refine qn 1 2 [] hF fun a hF=>wfn rfl ?_
 refine rnB [(2,.func (.func 65) #[] #[pb b4])] hF fun a hF=>?_
 refine wpIn_ret (A7 [.tmp 2] [_] hF rfl ⟨rfl,trivial⟩ ?_)
 subst h
 exact ⟨_,rfl,b4,rfl,St.pick [0] (by decide) hS⟩
theorem Nm (x0:Bool) {b0:Nat} {w0 w:World} {H:List Res} (hS:St w0 (blk b0 4 #[.bool x0]::H) w):CallsDIn (F0 none) 0 Tryz.prog 89 #[pb b0] .returning w (fun e u_ w=>e=.returned (.tuple #[])∧settle u_=.returning∧St w0 (blk b0 4 #[.bool x0]::H) w):=by
 refine L3 Tryz.func89 rfl 9 [(0,pb b0)] [(0,pb b0),(4,.nilIface)] rfl rfl kr kr ⟨kr⟩ ⟨kr⟩ fun a hF=>?_
 refine rn 6 7 [(0,pb b0),(2,.bool false)] hF fun a hF=>?_
 refine wfn rfl ?_
 refine esr ?_
 refine rn 1 1 [(0,pb b0),(8,.bool false)] hF fun a hF=>?_
 refine wfn rfl ?_
 refine wpIn_cond_false (hF.get rfl) ?_
 refine wpIn_skip ?_
 refine Jr hF rfl ?_
 exact ⟨rfl,rfl,hS⟩
theorem Nn (x0:Bool) (z_:Int) {b0:Nat} {w0 w:World} {H:List Res} (hS:St w0 (blk b0 4 #[.bool x0]::H) w):CallsDIn (F0 none) 0 Tryz.prog 89 #[pb b0] (.panicking [{ v:=.iface 128 (iv z_),recovered:=false }]) w (fun e u_ w=>e=.returned (.tuple #[])∧settle u_=.returning∧St w0 (blk b0 4 #[.bool false]::H) w):=by
 refine L3 Tryz.func89 rfl 9 [(0,pb b0)] [(0,pb b0),(4,.iface 128 (iv z_))] rfl rfl kr kr ⟨kr⟩ ⟨kr⟩ fun a hF=>?_
 refine rn 6 7 [(0,pb b0),(2,.bool true)] hF fun a hF=>?_
 refine wfn rfl ?_
 refine esr ?_
 refine rn 1 1 [(0,pb b0),(8,.bool true)] hF fun a hF=>?_
 refine wfn rfl ?_
 refine wpIn_cond_true (hF.get rfl) ?_
 refine WI.region ?_
 refine SK.wi (Pj (t:=4) [] 0 0 (.bool false) #[.bool false] hF hS rfl kr ⟨kr⟩ kr kr kr kr ⟨kr⟩ fun w a hF hS=>?_)
 refine WI.fin rfl ?_
 refine Jr hF rfl ?_
 exact ⟨rfl,rfl,hS⟩
theorem Ai (F:Nat) (p0:volume_reader) (res:Except (Value×volume_reader) (Int×volume_reader)) (h:Af F p0=some res) (μ:Frz) (w0 w1:World) (T_:List Res) (hlow:Ax w0 μ) {cb0:Nat} {ad1:Option Addr} {cap2:Nat} (hA3:ArrM μ 1 (fK .u8) ad1 cap2 p0.b) (hS:St w0 (fz w0 μ::blk cb0 125 #[sv ad1 p0.b cap2]::T_) w1):Py Tryz.prog 90 #[pb cb0] w1 res (fun r_ e w=>∃(ν_:Frz) (a9:Option Addr) (aB:Nat),μ.ext w0.heap.size ν_∧Ax w0 ν_∧e=(iv r_.1)∧(ArrM ν_ 1 (fK .u8) a9 aB r_.2.b)∧St w0 (fz w0 ν_::blk cb0 125 #[sv a9 r_.2.b aB]::T_) w) (fun e_ w=>∃(ν_:Frz) (aA:Option Addr) (aC:Nat),μ.ext w0.heap.size ν_∧Ax w0 ν_∧(ArrM ν_ 1 (fK .u8) aA aC e_.b)∧St w0 (fz w0 ν_::blk cb0 125 #[sv aA e_.b aC]::T_) w):=by
 rw [Af] at h
 have hext:=Frz.ext_refl w0.heap.size μ
 refine feW Tryz.func90 71 [(0,pb cb0)] hS fun a w hF hS=>?_
 refine qnB [] hF fun a hF=>?_
 refine qnB [(3,iv 0),(4,iv 1)] hF fun a hF=>?_
 refine Dx (fun a w=>Fr 71 [] [] a∧St w0 (fz w0 μ::blk cb0 125 #[sv ad1 p0.b cap2]::T_) w∧Fa p0=some res) ?_ ?_
 ·skip
  refine Am ?_
  obtain ⟨a0,aF,h⟩:=A0 h
  have aD:ArrM μ 1 (fK .u8) (Al ad1 cap2 (0:Int).toNat 1) (cap2-(0:Int).toNat) a0:=fun w_ hw_=>(hA3 w_ hw_).cutD (B8 .u8) aF
  refine qD 13 [(17,.slice (Al ad1 cap2 (0:Int).toNat 1) a0.length (cap2-(0:Int).toNat)),(18,iv (ln a0)),(19,iv 0)] hF (oL 22 1 0 hS.e rfl rfl<|oL 22 1 0 hS.e rfl rfl<|oX (.run [] (Instr.sliceAt 22 (sv ad1 p0.b cap2) none (some (iv (if 8<(ln p0.b) then 8 else (ln p0.b)))) none) (.slice (Al ad1 cap2 (0:Int).toNat 1) a0.length (cap2-(0:Int).toNat))) (Nl kr (hA3 _ (hS.frz (i:=0) rfl hlow)) (fun _=>aF))<|A1) fun a w hF hx=>?_
  replace hS:=hS.later hx
  refine wfn rfl ?_
  refine wpIn_block<|Ck (fun n_ a w=>∃(a1:Int) (a5:Int) (a4:Int),Fr 71 [] [(0,pb cb0),(3,iv a5),(4,iv a4),(17,.slice (Al ad1 cap2 (0:Int).toNat 1) a0.length (cap2-(0:Int).toNat)),(18,iv (ln a0)),(19,iv a1)] a∧St w0 (fz w0 μ::blk cb0 125 #[sv ad1 p0.b cap2]::T_) w∧Bk p0 a0 n_ a1 a5 a4=some res) F ⟨0,0,1,hF.sub kr,hS,h⟩ ?_
  rintro nk2 a w ⟨a1,a5,a4,hF,hS,h⟩
  rcases nk2 with _|nk2
  ·cases (show (none:Option (Except (Value×volume_reader) (Int×volume_reader)))=some res from h)
  obtain ⟨k2,hk2⟩:∃k,k=Bk p0 a0 nk2:=⟨_,rfl⟩
  replace h:F9 p0 a0 k2 a1 a5 a4=some res:=by rw [hk2];exact h
  rw [F9] at h
  refine qnB [(20,.bool (decide (a1<(ln a0))))] hF fun a hF=>?_
  refine Am<|A8 hF h (fun hc h=>?_) fun hc h=>?_
  ·refine wK<|Am<|wpIn_block<|esr ?_
   obtain ⟨a3,aG,h⟩:=A0 h
   refine qo 5 5 [(5,iv a1),(6,.int .u8 a3)] hF (oI 22 (aD _ (hS.frz (i:=0) rfl hlow)) aG<|oE 5 0 (B8 .u8) (fun _ hd=>(aD _ ((hS.at_ hd).frz (i:=0) rfl hlow))) aG rfl<|A1) fun a hF=>wfn rfl ?_
   refine Dx (fun a w=>Fr 71 [] [(0,pb cb0),(3,iv a5),(4,iv a4),(6,.int .u8 a3),(17,.slice (Al ad1 cap2 (0:Int).toNat 1) a0.length (cap2-(0:Int).toNat)),(18,iv (ln a0)),(19,iv a1)] a∧St w0 (fz w0 μ::blk cb0 125 #[sv ad1 p0.b cap2]::T_) w∧Fb a1 a5 a4 k2 a3=some res) ?_ ?_
   ·skip
    refine wpIn_block<|qnB [(24,.bool (bif (bif (a3==0) then true else (a3==255)) then true else (bif (a3==1) then (decide (a1>0)) else false)))] hF fun a hF=>?_
    refine A8 hF h (fun hc h=>?_) fun hc h=>?_
    ·refine WI.region<|qn 1 1 [(39,.iface 128 (iv 7))] hF fun a hF=>?_
     refine Qa (t:=128) (v:=iv 7) hF ⟨kr⟩ (Ah<|A6<|Ah<|A6<|A6<|Ah<|A6<|Az hF ?_)
     obtain rfl:=Ae h
     replace hS:=hS
     exact .inr ⟨_,rfl,rfl,μ,ad1,cap2,hext,hlow,hA3,hS⟩
    ·refine qnB [(40,.bool (decide (a3<128)))] hF fun a hF=>?_
     refine A8 hF h (fun hc h=>?_) fun hc h=>?_
     ·refine esr ?_
      obtain ⟨a2,aP,h⟩:=A0 h
      obtain ⟨a6,aE,h⟩:=A0 h
      have aI:ArrM μ 1 (fK .u8) (Al ad1 cap2 a2.toNat 1) (cap2-a2.toNat) a6:=fun w_ hw_=>(hA3 w_ hw_).cutD (B8 .u8) aE
      refine ro 10 10 [(3,iv a5),(4,iv a4),(6,.int .u8 a3),(50,.slice (Al ad1 cap2 a2.toNat 1) a6.length (cap2-a2.toNat)),(52,pb cb0)] hF (oL 22 1 0 hS.i rfl rfl<|oA 3 aP<|oX (.run [] (Instr.sliceAt 22 (sv ad1 p0.b cap2) (some (iv a2)) none none) (.slice (Al ad1 cap2 a2.toNat 1) a6.length (cap2-a2.toNat))) (Lv kr (hA3 _ (hS.frz (i:=0) rfl hlow)) (fun _=>aE))<|A1) fun a hF=>?_
      refine SK.wi (qs 22 1 0 (.slice (Al ad1 cap2 a2.toNat 1) a6.length (cap2-a2.toNat)) hF hS rfl fun w a hF hS=>wfn rfl ?_)
      refine esr ?_
      obtain ⟨aV,aQ,h⟩:=A0 h
      obtain ⟨aZ,aR,h⟩:=A0 h
      obtain ⟨b0,aS,h⟩:=A0 h
      obtain ⟨aW,aT,h⟩:=A0 h
      refine ro 8 8 [(2,iv aW)] hF (oX (.run [] (convert 5 3 (.int .u8 a3)) (iv aV)) (T9 kr kr (fun _=>aQ))<|oS 3 aR<|oM 3 aS<|oA 3 aT<|A1) fun a hF=>wfn rfl ?_
      refine wpIn_ret (Ab<|A2<|Ab<|A2<|A2<|Ab<|A2<|A7 [.tmp 2] [_] hF rfl ⟨rfl,trivial⟩ ?_)
      obtain rfl:=Ae h
      replace hS:=hS
      exact .inl ⟨_,_,rfl,rfl,μ,(Al ad1 cap2 a2.toNat 1),(cap2-a2.toNat),hext,hlow,rfl,aI,hS⟩
     ·refine wpIn_skip (A9<|A3<|?_)
      exact ⟨hF.sub kr,hS,h⟩
   rintro a w ⟨hF,hS,h⟩
   rw [Fb] at h
   refine esr ?_
   obtain ⟨aU,aJ,h⟩:=A0 h
   obtain ⟨aX,aK,h⟩:=A0 h
   obtain ⟨aY,aL,h⟩:=A0 h
   obtain ⟨a7,aM,h⟩:=A0 h
   refine ro 8 8 [(0,pb cb0),(3,iv a7),(4,iv a4),(17,.slice (Al ad1 cap2 (0:Int).toNat 1) a0.length (cap2-(0:Int).toNat)),(18,iv (ln a0)),(19,iv a1)] hF (oX (.run [] (convert 5 3 (.int .u8 a3)) (iv aU)) (T9 kr kr (fun _=>aJ))<|oS 3 aK<|oM 3 aL<|oA 3 aM<|A1) fun a hF=>wfn rfl ?_
   refine WI.region ?_
   obtain ⟨a8,aN,h⟩:=A0 h
   refine ro 3 3 [(0,pb cb0),(3,iv a7),(4,iv a8),(17,.slice (Al ad1 cap2 (0:Int).toNat 1) a0.length (cap2-(0:Int).toNat)),(18,iv (ln a0)),(19,iv a1)] hF (oM 3 aN<|A1) fun a hF=>WI.fin rfl (A9<|A3<|?_)
   refine WI.region ?_
   obtain ⟨aH,aO,h⟩:=A0 h
   refine ro 2 2 [(0,pb cb0),(3,iv a7),(4,iv a8),(17,.slice (Al ad1 cap2 (0:Int).toNat 1) a0.length (cap2-(0:Int).toNat)),(18,iv (ln a0)),(19,iv aH)] hF (oA 3 aO<|A1) fun a hF=>wfn rfl ?_
   rw [hk2] at h
   exact ⟨nk2,Nat.lt_succ_self _,aH,a7,a8,hF.sub kr,hS,h⟩
  ·refine wpIn_exit (A5<|A5<|Ar<|A3 ?_)
   exact ⟨hF.sub kr,hS,h⟩
 rintro a w ⟨hF,hS,h⟩
 rw [Fa] at h
 refine WI.region<|rn 1 1 [(70,.iface 128 (iv 7))] hF fun a hF=>?_
 refine Qa (t:=128) (v:=iv 7) hF ⟨kr⟩ (Az hF ?_)
 obtain rfl:=Ae h
 replace hS:=hS
 exact .inr ⟨_,rfl,rfl,μ,ad1,cap2,hext,hlow,hA3,hS⟩
theorem Sx (F:Nat) (p0:ByteArray) (res:Bool) (h:N4 F p0=some res) (μ:Frz) (w0:World) (hm:FrzAt μ w0):Calls Tryz.prog 121 #[.string p0] w0 (fun e w=>e=.returned (.bool res)∧Ext w0 w):=by
 obtain ⟨hlow,hS⟩:=hm.init
 have hext:=Frz.ext_refl w0.heap.size μ
 rw [N4] at h
 refine feW Tryz.func121 25 [(0,.string p0)] hS fun a w hF hS=>?_
 refine qnB [] hF fun a hF=>?_
 refine esr ?_
 obtain ⟨u1,hu1,h⟩:=A0 h
 obtain ⟨u2,hu2,h⟩:=A0 h
 refine rX 23 23 [(2,.bool (bif (bif (bif (bif (!(sEq p0 (⟨#[]⟩:ByteArray))) then (decide (((p0.size:Nat):Int)≤12)) else false) then (decide (u1≥97)) else false) then (decide (u2≤122)) else false) then (!(H6 p0)) else false))] hF (oX (.run [] (Qs .neq 9 p0 (⟨#[]⟩:ByteArray)) (.bool (!(sEq p0 (⟨#[]⟩:ByteArray))))) S2<|oX (.run [⟨10,true,(bif (!(sEq p0 (⟨#[]⟩:ByteArray))) then (decide (((p0.size:Nat):Int)≤12)) else false)⟩] (Instr.index 9 (.string p0) (iv 0)) (.int .u8 u1)) (Sg kr (fun hk=>Bt hu1 hk))<|oX (.run [⟨15,true,(bif (bif (!(sEq p0 (⟨#[]⟩:ByteArray))) then (decide (((p0.size:Nat):Int)≤12)) else false) then (decide (u1≥97)) else false)⟩] (Instr.index 9 (.string p0) (iv 0)) (.int .u8 u2)) (Sg kr (fun hk=>Bt hu2 hk))<|oGs [⟨20,true,(bif (bif (bif (!(sEq p0 (⟨#[]⟩:ByteArray))) then (decide (((p0.size:Nat):Int)≤12)) else false) then (decide (u1≥97)) else false) then (decide (u2≤122)) else false)⟩] (oC (fun w2 hd=>Ps p0 _ rfl _ w2 (A4 w2))<|A1)<|A1) fun a w hF hx=>?_
 replace hS:=hS.later hx
 refine wfn rfl ?_
 refine wpIn_ret (A7 [.tmp 2] [_] hF rfl ⟨rfl,trivial⟩ ?_)
 obtain rfl:=Ae h
 exact ⟨rfl,hS.ext⟩
theorem D5 (p0:Int) (p1:Int) (p2:Int) (res:Bool) (h:Ac p0 p1 p2=res) (μ:Frz) (w0:World) (hm:FrzAt μ w0):Calls Tryz.prog 122 #[iv p0,iv p1,iv p2] w0 (fun e w=>e=.returned (.bool res)∧Ext w0 w):=by
 obtain ⟨hlow,hS⟩:=hm.init
 have hext:=Frz.ext_refl w0.heap.size μ
 rw [Ac] at h
 refine feW Tryz.func122 15 [(0,iv p0),(1,iv p1),(2,iv p2)] hS fun a w hF hS=>?_
 refine qnB [] hF fun a hF=>?_
 refine rnB [(6,.bool (bif (decide (p1≤p0)) then (decide (p0≤p2)) else false))] hF fun a hF=>?_
 refine wpIn_ret (A7 [.tmp 6] [_] hF rfl ⟨rfl,trivial⟩ ?_)
 subst h
 exact ⟨rfl,hS.ext⟩
theorem J8 (p0:Int) (p1:Int) (p2:Int) (res:Bool) (h:Aw p0 p1 p2=res) (μ:Frz) (w0:World) (hm:FrzAt μ w0):Calls Tryz.prog 171 #[iv p0,iv p1,iv p2] w0 (fun e w=>e=.returned (.bool res)∧Ext w0 w):=by
 obtain ⟨hlow,hS⟩:=hm.init
 have hext:=Frz.ext_refl w0.heap.size μ
 rw [Aw] at h
 refine feW Tryz.func171 15 [(0,iv p0),(1,iv p1),(2,iv p2)] hS fun a w hF hS=>?_
 refine qnB [] hF fun a hF=>?_
 refine rnB [(6,.bool (bif (decide (p1≤p0)) then (decide (p0≤p2)) else false))] hF fun a hF=>?_
 refine wpIn_ret (A7 [.tmp 6] [_] hF rfl ⟨rfl,trivial⟩ ?_)
 subst h
 exact ⟨rfl,hS.ext⟩
theorem Mq (p0:api_Span) (p1:Int) (p2:Int) (res:Bool) (h:Ad p0 p1 p2=res) (μ:Frz) (w0:World) (hm:FrzAt μ w0):Calls Tryz.prog 174 #[.agg #[iv p0.Lo,iv p0.Hi],iv p1,iv p2] w0 (fun e w=>e=.returned (.bool res)∧Ext w0 w):=by
 obtain ⟨hlow,hS⟩:=hm.init
 have hext:=Frz.ext_refl w0.heap.size μ
 rw [Ad] at h
 refine feW Tryz.func174 24 [(0,.agg #[iv p0.Lo,iv p0.Hi]),(1,iv p1),(2,iv p2)] hS fun a w hF hS=>?_
 refine esr<|SK.wi (qBa 146 #[iv p0.Lo,iv p0.Hi] (fun b1=>[(3,pb b1)]) hF hS fun b1 w a hF hS=>?_)
 refine qn 1 2 [] hF fun a hF=>wfn rfl ?_
 refine roB [(6,.bool (bif (bif (decide (p1≤p0.Lo)) then (decide (p0.Lo≤p0.Hi)) else false) then (decide (p0.Hi≤p2)) else false))] hF (oL 3 0 0 hS.i rfl rfl<|oGs [⟨11,true,(decide (p1≤p0.Lo))⟩] (oL 3 0 0 hS.i rfl rfl<|oL 3 0 1 hS.i rfl rfl<|A1)<|oGs [⟨18,true,(bif (decide (p1≤p0.Lo)) then (decide (p0.Lo≤p0.Hi)) else false)⟩] (oL 3 0 1 hS.i rfl rfl<|A1)<|A1) fun a hF=>?_
 refine wpIn_ret (A7 [.tmp 6] [_] hF rfl ⟨rfl,trivial⟩ ?_)
 subst h
 exact ⟨rfl,hS.ext⟩
theorem Mm (F:Nat) (p0:volume_note) (res:Int) (h:Bb F p0=some res) (μ:Frz) (w0:World) (hm:FrzAt μ w0):Calls Tryz.prog 184 #[.agg #[iv p0.time,.string p0.text]] w0 (fun e w=>e=.returned (iv res)∧Ext w0 w):=by
 obtain ⟨hlow,hS⟩:=hm.init
 have hext:=Frz.ext_refl w0.heap.size μ
 rw [Bb] at h
 refine feW Tryz.func184 34 [(0,.agg #[iv p0.time,.string p0.text])] hS fun a w hF hS=>?_
 refine esr<|SK.wi (qBa 160 #[iv p0.time,.string p0.text] (fun b1=>[(1,pb b1)]) hF hS fun b1 w a hF hS=>?_)
 refine qn 1 2 [] hF fun a hF=>wfn rfl ?_
 refine Am<|wpIn_block<|qoB [(5,.bool (bif (decide (p0.time<0)) then true else (decide (p0.time>4294967296))))] hF (oL 3 0 0 hS.i rfl rfl<|oGs [⟨9,false,(decide (p0.time<0))⟩] (oL 3 0 0 hS.i rfl rfl<|A1)<|A1) fun a hF=>?_
 refine A8 hF h (fun hc h=>?_) fun hc h=>?_
 ·refine rnB [(2,iv 3)] hF fun a hF=>?_
  refine wpIn_ret (Ab<|A2<|A7 [.tmp 2] [_] hF rfl ⟨rfl,trivial⟩ ?_)
  obtain rfl:=Ae h
  exact ⟨rfl,hS.ext⟩
 ·refine qoB [(14,.bool (decide (((p0.text.size:Nat):Int)>200)))] hF (oL 9 0 1 hS.i rfl rfl<|A1) fun a hF=>?_
  refine A8 hF h (fun hc h=>?_) fun hc h=>?_
  ·refine rnB [(2,iv 8)] hF fun a hF=>?_
   refine wpIn_ret (Ab<|A2<|A7 [.tmp 2] [_] hF rfl ⟨rfl,trivial⟩ ?_)
   obtain rfl:=Ae h
   exact ⟨rfl,hS.ext⟩
  ·refine wpIn_skip (A9<|A3<|?_)
   refine Dx (fun a w=>Fr 34 [] [] a∧St w0 [blk b1 160 #[iv p0.time,.string p0.text],fz w0 μ] w∧H7=some res) ?_ ?_
   ·skip
    refine esr<|ro 2 2 [(20,.string p0.text)] hF (oL 9 0 1 hS.i rfl rfl<|A1) fun a hF=>?_
    obtain ⟨a0,a7,h⟩:=A0 h
    refine SK.wi (A12 (src:=9) (dst:=22) 5 (fun a1 a2=>[(21,sv a1 a0 a2)]) hF hS kr ⟨kr⟩ kr kr kr a7 (fun _ _=>⟨kr⟩) fun a1 a2 w a hF hS=>?_)
    refine rn 2 5 [(21,sv a1 a0 a2),(22,iv (ln a0)),(23,iv 0)] hF fun a hF=>wfn rfl ?_
    refine wpIn_block<|Ck (fun n_ a w=>∃(a3:Int),Fr 34 [] [(21,sv a1 a0 a2),(22,iv (ln a0)),(23,iv a3)] a∧St w0 [arrT 5 1 (fK .u8) a1 a0.length a2 a0,blk b1 160 #[iv p0.time,.string p0.text],fz w0 μ] w∧Ca a0 n_ a3=some res) F ⟨0,hF.sub kr,St.pick [0,1,2] (by decide) hS,h⟩ ?_
    rintro nk2 a w ⟨a3,hF,hS,h⟩
    rcases nk2 with _|nk2
    ·cases (show (none:Option Int)=some res from h)
    obtain ⟨k2,hk2⟩:∃k,k=Ca a0 nk2:=⟨_,rfl⟩
    replace h:Fp a0 k2 a3=some res:=by rw [hk2];exact h
    rw [Fp] at h
    refine qnB [(24,.bool (decide (a3<(ln a0))))] hF fun a hF=>?_
    refine Am<|A8 hF h (fun hc h=>?_) fun hc h=>?_
    ·refine wK<|Am<|wpIn_block<|esr ?_
     obtain ⟨a4,a5,h⟩:=A0 h
     refine qo 3 3 [(4,.int .u8 a4)] hF (oI 22 (hS.arrT_ (i:=0) rfl) a5<|oE 5 0 (B8 .u8) (fun _ hd=>((hS.at_ hd).arrT_ (i:=0) rfl)) a5 rfl<|A1) fun a hF=>wfn rfl ?_
     refine qnB [(32,.bool (bif (decide (a4<32)) then true else (decide (a4>126))))] hF fun a hF=>?_
     refine A8 hF h (fun hc h=>?_) fun hc h=>?_
     ·refine rnB [(2,iv 7)] hF fun a hF=>?_
      refine wpIn_ret (Ab<|A2<|A2<|Ab<|A2<|A7 [.tmp 2] [_] hF rfl ⟨rfl,trivial⟩ ?_)
      obtain rfl:=Ae h
      exact ⟨rfl,hS.ext⟩
     ·refine wpIn_skip (A9<|A3<|?_)
      refine WI.region ?_
      obtain ⟨a6,a8,h⟩:=A0 h
      refine ro 2 2 [(21,sv a1 a0 a2),(22,iv (ln a0)),(23,iv a6)] hF (oA 3 a8<|A1) fun a hF=>wfn rfl ?_
      rw [hk2] at h
      exact ⟨nk2,Nat.lt_succ_self _,a6,hF.sub kr,St.pick [0,1,2] (by decide) hS,h⟩
    ·refine wpIn_exit (A5<|A5<|Ar<|A3 ?_)
     exact ⟨hF.sub kr,St.pick [1,2] (by decide) hS,h⟩
   rintro a w ⟨hF,hS,h⟩
   rw [H7] at h
   refine rnB [(2,iv 0)] hF fun a hF=>?_
   refine wpIn_ret (A7 [.tmp 2] [_] hF rfl ⟨rfl,trivial⟩ ?_)
   obtain rfl:=Ae h
   exact ⟨rfl,hS.ext⟩
theorem Mn (p0:volume_sweep) (res:volume_Item) (h:Av p0=res) (μ:Frz) (w0:World) (hm:FrzAt μ w0) {ad1:Option Addr} {cap2:Nat} {css3:List (List Value)} (hA4:ArrQ μ 1 Rp87 ad1 cap2 css3 p0.Sweep.Rays):Ba Tryz.prog 163 #[.agg (p0.Sweep.ax ad1 cap2)] w0 (fun e w=>∃(ν_:Frz) (ad7:Option Addr) (cap8:Nat) (css9:List (List Value)) (a0:Option Addr) (a1:Nat),μ.ext w0.heap.size ν_∧e=(.agg (res.ax ad7 cap8 a0 a1))∧ArrQ ν_ 1 Rp87 ad7 cap8 css9 res.Sweep.Rays∧ArrM ν_ 2 api_Span.cells a0 a1 res.Field.Vals∧St w0 [fz w0 ν_] w):=by
 obtain ⟨hlow,hS⟩:=hm.init
 have hext:=Frz.ext_refl w0.heap.size μ
 rw [Av] at h
 refine feW Tryz.func163 6 [(0,.agg (p0.Sweep.ax ad1 cap2))] hS fun a w hF hS=>?_
 refine esr<|SK.wi (qBa 156 (p0.Sweep.ax ad1 cap2) (fun b5=>[(1,pb b5)]) hF hS fun b5 w a hF hS=>?_)
 refine SK.wi (qA 48 z48 (fun b6=>[(2,pb b6)]) hF hS fun b6 w a hF hS=>wfn rfl ?_)
 refine esr<|qo 3 3 [(5,.agg #[iv 1,.string ByteArray.empty,iv 0,.string p0.Sweep.Site.Name,iv p0.Sweep.Site.X,iv p0.Sweep.Site.Y,iv p0.Sweep.Site.Z,iv p0.Sweep.Site.Rose,iv p0.Sweep.Site.Gates,iv p0.Sweep.Site.Step,iv p0.Sweep.Site.Width,iv p0.Sweep.Tilt,iv p0.Sweep.Time,sv ad1 p0.Sweep.Rays cap2,iv 0,iv 0,iv 0,iv 0,iv 0,.slice none 0 0,.string ByteArray.empty])] hF (oN 41 1 0 11 hS.i rfl<|A1) fun a hF=>?_
 refine SK.wi (qw 48 0 #[iv 1,.string ByteArray.empty,iv 0,.string p0.Sweep.Site.Name,iv p0.Sweep.Site.X,iv p0.Sweep.Site.Y,iv p0.Sweep.Site.Z,iv p0.Sweep.Site.Rose,iv p0.Sweep.Site.Gates,iv p0.Sweep.Site.Step,iv p0.Sweep.Site.Width,iv p0.Sweep.Tilt,iv p0.Sweep.Time,sv ad1 p0.Sweep.Rays cap2,iv 0,iv 0,iv 0,iv 0,iv 0,.slice none 0 0,.string ByteArray.empty] hF hS rfl fun w a hF hS=>wfn rfl ?_)
 refine wpIn_ret (A7 [.cell 2 48] [_] hF rfl ⟨⟨_,rfl,Ea (cs:=[iv 1,.string ByteArray.empty,iv 0,.string p0.Sweep.Site.Name,iv p0.Sweep.Site.X,iv p0.Sweep.Site.Y,iv p0.Sweep.Site.Z,iv p0.Sweep.Site.Rose,iv p0.Sweep.Site.Gates,iv p0.Sweep.Site.Step,iv p0.Sweep.Site.Width,iv p0.Sweep.Tilt,iv p0.Sweep.Time,sv ad1 p0.Sweep.Rays cap2,iv 0,iv 0,iv 0,iv 0,iv 0,.slice none 0 0,.string ByteArray.empty]) kr ((hS.blk (i:=0) rfl).cells rfl)⟩,trivial⟩ ?_)
 subst h
 exact ⟨_,rfl,μ,ad1,cap2,css3,none,0,hext,rfl,hA4,ArrM.nil,St.pick [2] (by decide) hS⟩
theorem Ml (p0:volume_field) (res:volume_Item) (h:Au p0=res) (μ:Frz) (w0:World) (hm:FrzAt μ w0) {ad1:Option Addr} {cap2:Nat} (hA3:ArrM μ 2 api_Span.cells ad1 cap2 p0.Field.Vals):Ba Tryz.prog 177 #[.agg (p0.ax ad1 cap2)] w0 (fun e w=>∃(ν_:Frz) (ad6:Option Addr) (cap7:Nat) (css8:List (List Value)) (ad9:Option Addr) (a0:Nat),μ.ext w0.heap.size ν_∧e=(.agg (res.ax ad6 cap7 ad9 a0))∧ArrQ ν_ 1 Rp87 ad6 cap7 css8 res.Sweep.Rays∧ArrM ν_ 2 api_Span.cells ad9 a0 res.Field.Vals∧St w0 [fz w0 ν_] w):=by
 obtain ⟨hlow,hS⟩:=hm.init
 have hext:=Frz.ext_refl w0.heap.size μ
 rw [Au] at h
 refine feW Tryz.func177 10 [(0,.agg (p0.ax ad1 cap2))] hS fun a w hF hS=>?_
 refine esr<|SK.wi (qBa 158 (p0.ax ad1 cap2) (fun b4=>[(1,pb b4)]) hF hS fun b4 w a hF hS=>?_)
 refine SK.wi (qA 48 z48 (fun b5=>[(2,pb b5)]) hF hS fun b5 w a hF hS=>wfn rfl ?_)
 refine esr<|qo 7 7 [(9,.agg #[iv 2,.string p0.key,iv p0.time,.string ByteArray.empty,iv 0,iv 0,iv 0,iv 0,iv 0,iv 0,iv 0,iv 0,iv 0,.slice none 0 0,iv p0.Field.Grid.X,iv p0.Field.Grid.Y,iv p0.Field.Grid.Size,iv p0.Field.Grid.Wide,iv p0.Field.Grid.High,sv ad1 p0.Field.Vals cap2,.string ByteArray.empty])] hF (oL 9 1 0 hS.i rfl rfl<|oL 3 1 1 hS.i rfl rfl<|oN 46 1 2 6 hS.i rfl<|A1) fun a hF=>?_
 refine SK.wi (qw 48 0 #[iv 2,.string p0.key,iv p0.time,.string ByteArray.empty,iv 0,iv 0,iv 0,iv 0,iv 0,iv 0,iv 0,iv 0,iv 0,.slice none 0 0,iv p0.Field.Grid.X,iv p0.Field.Grid.Y,iv p0.Field.Grid.Size,iv p0.Field.Grid.Wide,iv p0.Field.Grid.High,sv ad1 p0.Field.Vals cap2,.string ByteArray.empty] hF hS rfl fun w a hF hS=>wfn rfl ?_)
 refine wpIn_ret (A7 [.cell 2 48] [_] hF rfl ⟨⟨_,rfl,Ea (cs:=[iv 2,.string p0.key,iv p0.time,.string ByteArray.empty,iv 0,iv 0,iv 0,iv 0,iv 0,iv 0,iv 0,iv 0,iv 0,.slice none 0 0,iv p0.Field.Grid.X,iv p0.Field.Grid.Y,iv p0.Field.Grid.Size,iv p0.Field.Grid.Wide,iv p0.Field.Grid.High,sv ad1 p0.Field.Vals cap2,.string ByteArray.empty]) kr ((hS.blk (i:=0) rfl).cells rfl)⟩,trivial⟩ ?_)
 subst h
 exact ⟨_,rfl,μ,none,0,[],ad1,cap2,hext,rfl,ArrQ.nil,hA3,St.pick [2] (by decide) hS⟩
theorem Mu (p0:volume_note) (res:volume_Item) (h:Ay p0=res) (μ:Frz) (w0:World) (hm:FrzAt μ w0):Ba Tryz.prog 185 #[.agg #[iv p0.time,.string p0.text]] w0 (fun e w=>∃(ν_:Frz) (ad3:Option Addr) (cap4:Nat) (css5:List (List Value)) (ad6:Option Addr) (cap7:Nat),μ.ext w0.heap.size ν_∧e=(.agg (res.ax ad3 cap4 ad6 cap7))∧ArrQ ν_ 1 Rp87 ad3 cap4 css5 res.Sweep.Rays∧ArrM ν_ 2 api_Span.cells ad6 cap7 res.Field.Vals∧St w0 [fz w0 ν_] w):=by
 obtain ⟨hlow,hS⟩:=hm.init
 have hext:=Frz.ext_refl w0.heap.size μ
 rw [Ay] at h
 refine feW Tryz.func185 8 [(0,.agg #[iv p0.time,.string p0.text])] hS fun a w hF hS=>?_
 refine esr<|SK.wi (qBa 160 #[iv p0.time,.string p0.text] (fun b1=>[(1,pb b1)]) hF hS fun b1 w a hF hS=>?_)
 refine SK.wi (qA 48 z48 (fun b2=>[(2,pb b2)]) hF hS fun b2 w a hF hS=>wfn rfl ?_)
 refine esr<|qo 5 5 [(7,.agg #[iv 3,.string ByteArray.empty,iv p0.time,.string ByteArray.empty,iv 0,iv 0,iv 0,iv 0,iv 0,iv 0,iv 0,iv 0,iv 0,.slice none 0 0,iv 0,iv 0,iv 0,iv 0,iv 0,.slice none 0 0,.string p0.text])] hF (oL 3 1 0 hS.i rfl rfl<|oL 9 1 1 hS.i rfl rfl<|A1) fun a hF=>?_
 refine SK.wi (qw 48 0 #[iv 3,.string ByteArray.empty,iv p0.time,.string ByteArray.empty,iv 0,iv 0,iv 0,iv 0,iv 0,iv 0,iv 0,iv 0,iv 0,.slice none 0 0,iv 0,iv 0,iv 0,iv 0,iv 0,.slice none 0 0,.string p0.text] hF hS rfl fun w a hF hS=>wfn rfl ?_)
 refine wpIn_ret (A7 [.cell 2 48] [_] hF rfl ⟨⟨_,rfl,Ea (cs:=[iv 3,.string ByteArray.empty,iv p0.time,.string ByteArray.empty,iv 0,iv 0,iv 0,iv 0,iv 0,iv 0,iv 0,iv 0,iv 0,.slice none 0 0,iv 0,iv 0,iv 0,iv 0,iv 0,.slice none 0 0,.string p0.text]) kr ((hS.blk (i:=0) rfl).cells rfl)⟩,trivial⟩ ?_)
 subst h
 exact ⟨_,rfl,μ,none,0,[],none,0,hext,rfl,ArrQ.nil,ArrM.nil,St.pick [2] (by decide) hS⟩
theorem S1 (F:Nat) (p0:volume_Item) (p1:volume_Item) (res:Bool) (h:Q7 F p0 p1=some res) (μ:Frz) (w0:World) (hm:FrzAt μ w0) {ad1:Option Addr} {cap2:Nat} {css3:List (List Value)} {ad4:Option Addr} {cap5:Nat} {ad8:Option Addr} {cap9:Nat} {a6:List (List Value)} {a0:Option Addr} {a1:Nat} (hA6:ArrQ μ 1 Rp87 ad1 cap2 css3 p0.Sweep.Rays) (hA7:ArrM μ 2 api_Span.cells ad4 cap5 p0.Field.Vals) (a7:ArrQ μ 1 Rp87 ad8 cap9 a6 p1.Sweep.Rays) (a8:ArrM μ 2 api_Span.cells a0 a1 p1.Field.Vals):Calls Tryz.prog 27 #[.agg (p0.ax ad1 cap2 ad4 cap5),.agg (p1.ax ad8 cap9 a0 a1)] w0 (fun e w=>e=.returned (.bool res)∧Ext w0 w):=by
 obtain ⟨hlow,hS⟩:=hm.init
 have hext:=Frz.ext_refl w0.heap.size μ
 rw [Q7] at h
 refine feW Tryz.func27 45 [(0,.agg (p0.ax ad1 cap2 ad4 cap5)),(1,.agg (p1.ax ad8 cap9 a0 a1))] hS fun a w hF hS=>?_
 refine esr<|SK.wi (qBa 48 (p0.ax ad1 cap2 ad4 cap5) (fun a3=>[(2,pb a3)]) hF hS fun a3 w a hF hS=>?_)
 refine SK.wi (qBa 48 (p1.ax ad8 cap9 a0 a1) (fun a4=>[(3,pb a4)]) hF hS fun a4 w a hF hS=>?_)
 refine qn 1 3 [] hF fun a hF=>wfn rfl ?_
 refine esr ?_
 obtain ⟨a2,a9,h⟩:=A0 h
 obtain ⟨a5,aA,h⟩:=A0 h
 refine rX 41 41 [(4,.bool (bif (bif (bif (bif (bif (p0.Kind==p1.Kind) then (sEq p0.Name p1.Name) else false) then (p0.Time==p1.Time) else false) then (sEq p0.Text p1.Text) else false) then a2 else false) then a5 else false))] hF (oL 3 1 0 hS.e rfl rfl<|oL 3 0 0 hS.e rfl rfl<|oGs [⟨10,true,(p0.Kind==p1.Kind)⟩] (oL 9 1 1 hS.e rfl rfl<|oL 9 0 1 hS.e rfl rfl<|oX (.run [] (Qs .eql 9 p0.Name p1.Name) (.bool (sEq p0.Name p1.Name))) A1n<|A1)<|oGs [⟨17,true,(bif (p0.Kind==p1.Kind) then (sEq p0.Name p1.Name) else false)⟩] (oL 3 1 2 hS.e rfl rfl<|oL 3 0 2 hS.e rfl rfl<|A1)<|oGs [⟨24,true,(bif (bif (p0.Kind==p1.Kind) then (sEq p0.Name p1.Name) else false) then (p0.Time==p1.Time) else false)⟩] (oL 9 1 20 hS.e rfl rfl<|oL 9 0 20 hS.e rfl rfl<|oX (.run [] (Qs .eql 9 p0.Text p1.Text) (.bool (sEq p0.Text p1.Text))) A1n<|A1)<|oGs [⟨31,true,(bif (bif (bif (p0.Kind==p1.Kind) then (sEq p0.Name p1.Name) else false) then (p0.Time==p1.Time) else false) then (sEq p0.Text p1.Text) else false)⟩] (oN 41 1 3 11 hS.e rfl<|oN 41 0 3 11 hS.e rfl<|A1)<|oX (.call [⟨31,true,(bif (bif (bif (p0.Kind==p1.Kind) then (sEq p0.Name p1.Name) else false) then (p0.Time==p1.Time) else false) then (sEq p0.Text p1.Text) else false)⟩] 60 #[.agg (p0.Sweep.ax ad1 cap2),.agg (p1.Sweep.ax ad8 cap9)] (.bool a2)) (show Ob.ok _ Ext _ _ from fun hk w2 hd=>V8 F p0.Sweep p1.Sweep _ ((fun hk=>Bt a9 hk) hk) _ w2 (A4 w2) (hA6.mono Rp87.mono (FrzAt.le_mem ((hS.later hd).frz (i:=2) rfl hlow))) (a7.mono Rp87.mono (FrzAt.le_mem ((hS.later hd).frz (i:=2) rfl hlow))))<|oGs [⟨38,true,(bif (bif (bif (bif (p0.Kind==p1.Kind) then (sEq p0.Name p1.Name) else false) then (p0.Time==p1.Time) else false) then (sEq p0.Text p1.Text) else false) then a2 else false)⟩] (oN 46 1 14 6 hS.e rfl<|oN 46 0 14 6 hS.e rfl<|A1)<|oX (.call [⟨38,true,(bif (bif (bif (bif (p0.Kind==p1.Kind) then (sEq p0.Name p1.Name) else false) then (p0.Time==p1.Time) else false) then (sEq p0.Text p1.Text) else false) then a2 else false)⟩] 61 #[.agg (p0.Field.ax ad4 cap5),.agg (p1.Field.ax a0 a1)] (.bool a5)) (show Ob.ok _ Ext _ _ from fun hk w2 hd=>V7 F p0.Field p1.Field _ ((fun hk=>Bt aA hk) hk) _ w2 (A4 w2) (hA7.mono (FrzAt.le_mem ((hS.later hd).frz (i:=2) rfl hlow))) (a8.mono (FrzAt.le_mem ((hS.later hd).frz (i:=2) rfl hlow))))<|A1) fun a w hF hx=>?_
 replace hS:=hS.later hx
 refine wfn rfl ?_
 refine wpIn_ret (A7 [.tmp 4] [_] hF rfl ⟨rfl,trivial⟩ ?_)
 obtain rfl:=Ae h
 exact ⟨rfl,hS.ext⟩
theorem Lb (p0:api_Span) (p1:Int) (p2:Int) (res:Bool) (h:Ct p0 p1 p2=res) (μ:Frz) (w0:World) (hm:FrzAt μ w0):Calls Tryz.prog 109 #[.agg #[iv p0.Lo,iv p0.Hi],iv p1,iv p2] w0 (fun e w=>e=.returned (.bool res)∧Ext w0 w):=by
 obtain ⟨hlow,hS⟩:=hm.init
 have hext:=Frz.ext_refl w0.heap.size μ
 rw [Ct] at h
 refine feW Tryz.func109 24 [(0,.agg #[iv p0.Lo,iv p0.Hi]),(1,iv p1),(2,iv p2)] hS fun a w hF hS=>?_
 refine esr<|SK.wi (qBa 146 #[iv p0.Lo,iv p0.Hi] (fun b1=>[(3,pb b1)]) hF hS fun b1 w a hF hS=>?_)
 refine qn 1 2 [] hF fun a hF=>wfn rfl ?_
 refine roB [(6,.bool (bif (bif (decide (p0.Lo≤p0.Hi)) then (decide (p0.Lo≥p1)) else false) then (decide (p0.Hi≤p2)) else false))] hF (oL 3 0 0 hS.i rfl rfl<|oL 3 0 1 hS.i rfl rfl<|oGs [⟨12,true,(decide (p0.Lo≤p0.Hi))⟩] (oL 3 0 0 hS.i rfl rfl<|A1)<|oGs [⟨18,true,(bif (decide (p0.Lo≤p0.Hi)) then (decide (p0.Lo≥p1)) else false)⟩] (oL 3 0 1 hS.i rfl rfl<|A1)<|A1) fun a hF=>?_
 refine wpIn_ret (A7 [.tmp 6] [_] hF rfl ⟨rfl,trivial⟩ ?_)
 subst h
 exact ⟨rfl,hS.ext⟩
theorem At:∀(F:Nat) (p0:Int) (res:(List Int)) (h:Ak F p0=some res) (μ:Frz) (w0:World) (hm:FrzAt μ w0),Ba Tryz.prog 78 #[iv p0] w0 (fun e w=>∃zad0 zcap0,e=(sv zad0 res zcap0)∧St w0 [arr 5 1 (fK .u8) zad0 res.length zcap0 res] w):=by
 intro F
 induction F with
 | zero =>
  intro p0 res h
  cases (show (none:Option (List Int))=some res from h)
 | succ F ih =>
  intro p0 res h μ w0 hm 
  obtain ⟨hlow,hS⟩:=hm.init
  have hext:=Frz.ext_refl w0.heap.size μ
  replace h:Ld (Ak F) p0=some res:=h
  obtain ⟨self_,hself⟩:∃s,s=Ak F:=⟨_,rfl⟩
  rw [←hself,Ld] at h
  refine feW Tryz.func78 18 [(0,iv p0)] hS fun a w hF hS=>?_
  refine qnB [] hF fun a hF=>?_
  refine Am<|qnB [(4,.bool (decide (p0<127)))] hF fun a hF=>?_
  refine A8 hF h (fun hc h=>?_) fun hc h=>?_
  ·refine esr ?_
   obtain ⟨x1,hx1,h⟩:=A0 h
   refine ro 3 3 [(7,.int .u8 (IntKind.u8.wrap x1))] hF (oA 3 hx1<|oX (.run [] (convert 3 5 (iv x1)) (.int .u8 (IntKind.u8.wrap x1))) (Bm kr)<|A1) fun a hF=>?_
   refine SK.wi (qL 5 22 1 [IntKind.u8.wrap x1] (fun b2=>[(8,sb b2 1)]) (B8 .u8) hF hS fun b2 w a hF hS=>?_)
   refine rn 1 5 [(2,sb b2 1)] hF fun a hF=>wfn rfl ?_
   refine wpIn_ret (A2<|A7 [.tmp 2] [_] hF rfl ⟨rfl,trivial⟩ ?_)
   obtain rfl:=Ae h
   exact ⟨_,rfl,_,_,rfl,St.pick [0] (by decide) hS⟩
  ·refine wK<|esr ?_
   obtain ⟨x3,hx3,h⟩:=A0 h
   obtain ⟨x4,hx4,h⟩:=A0 h
   refine qo 4 4 [(12,.int .u8 (IntKind.u8.wrap x4))] hF (oR 3 hx3<|oA 3 hx4<|oX (.run [] (convert 3 5 (iv x4)) (.int .u8 (IntKind.u8.wrap x4))) (Bm kr)<|A1) fun a hF=>?_
   refine SK.wi (qL 5 22 1 [IntKind.u8.wrap x4] (fun b5=>[(13,sb b5 1)]) (B8 .u8) hF hS fun b5 w a hF hS=>?_)
   obtain ⟨x6,hx6,h⟩:=A0 h
   refine qo 2 7 [(15,iv x6)] hF (oQ 3 hx6<|A1) fun a hF=>?_
   obtain ⟨y8,hy8,h⟩:=A0 h
   refine SK.wi (qR (fun v7=>[(16,v7)]) hF (ih _ _ (by rw [←hself];exact hy8) (B0 w) w (A4 w)) ?_)
   rintro v7 w a ⟨ad9,a4,rfl,hQ⟩ hF
   replace hS:=hS.madeL hQ
   obtain ⟨a2,a3,h⟩:=A0 h
   refine SK.wi (qP 22 22 1 (fun a0 a1=>[(17,sv a0 a2 a1)]) hF hS (hS.arr (i:=0) rfl) a3 rfl fun a0 a1 w a hF hS=>?_)
   refine rn 1 10 [(2,sv a0 a2 a1)] hF fun a hF=>wfn rfl ?_
   refine wpIn_ret (A7 [.tmp 2] [_] hF rfl ⟨rfl,trivial⟩ ?_)
   obtain rfl:=Ae h
   exact ⟨_,rfl,_,_,rfl,St.pick [1] (by decide) hS⟩
theorem Jd (F:Nat) (p0:(List (List Int))) (res:(List Int)) (h:Ec F p0=some res) (μ:Frz) (w0:World) (hm:FrzAt μ w0) {ad1:Option Addr} {cap2:Nat} {css3:List (List Value)} (hA4:ArrQ μ 1 Rp22 ad1 cap2 css3 p0):Ba Tryz.prog 104 #[sv ad1 p0 cap2] w0 (fun e w=>∃zad0 zcap0,e=(sv zad0 res zcap0)∧St w0 [arr 5 1 (fK .u8) zad0 res.length zcap0 res] w):=by
 obtain ⟨hlow,hS⟩:=hm.init
 have hext:=Frz.ext_refl w0.heap.size μ
 rw [Ec] at h
 refine feW Tryz.func104 18 [(0,sv ad1 p0 cap2)] hS fun a w hF hS=>?_
 refine qnB [] hF fun a hF=>?_
 refine qnB [(3,.slice none 0 0)] hF fun a hF=>?_
 refine Dx (fun a w=>∃(a1:(List Int)) (a7:Option Addr) (a8:Nat),Fr 18 [] [(3,sv a7 a1 a8)] a∧St w0 [arr 5 1 (fK .u8) a7 a1.length a8 a1,fz w0 μ] w∧Ks a1=some res) ?_ ?_
 ·skip
  refine qnB [(4,iv 0)] hF fun a hF=>?_
  refine wpIn_block ?_
  replace hS:=hS.nilarr 5 1 (fK .u8)
  refine Ck (fun n_ a w=>∃(a0:(List Int)) (a2:Int) (a3:Option Addr) (a5:Nat),Fr 18 [] [(0,sv ad1 p0 cap2),(3,sv a3 a0 a5),(4,iv a2)] a∧St w0 [arr 5 1 (fK .u8) a3 a0.length a5 a0,fz w0 μ] w∧Gv p0 n_ a0 a2=some res) F ⟨[],0,none,0,hF.sub kr,St.pick [0,1] (by decide) hS,h⟩ ?_
  rintro nk2 a w ⟨a0,a2,a3,a5,hF,hS,h⟩
  rcases nk2 with _|nk2
  ·cases (show (none:Option (List Int))=some res from h)
  obtain ⟨k2,hk2⟩:∃k,k=Gv p0 nk2:=⟨_,rfl⟩
  replace h:Kr p0 k2 a0 a2=some res:=by rw [hk2];exact h
  rw [Kr] at h
  refine Am<|qnB [(8,.bool (decide (a2<(ln p0))))] hF fun a hF=>?_
  refine A8 hF h (fun hc h=>?_) fun hc h=>?_
  ·refine wK<|Am<|wpIn_block<|WI.region ?_
   obtain ⟨aJ,aH,h⟩:=A0 h
   obtain ⟨aK,aA,aF⟩:=Cw hA4.2 aH
   obtain ⟨aC,aD,rfl,aE⟩:=aF
   refine qo 5 5 [(11,sv a3 a0 a5),(15,sv aC aJ aD)] hF (oI 105 (hA4.at (hS.frz (i:=1) rfl hlow)) aA<|oE 22 0 (Dg 1) (fun _ hd=>(hA4.at ((hS.at_ hd).frz (i:=1) rfl hlow))) aA rfl<|A1) fun a hF=>?_
   obtain ⟨a9,aG,h⟩:=A0 h
   refine SK.wi (qP 22 22 0 (fun a4 a6=>[(16,sv a4 a9 a6)]) hF hS (aE _ (hS.frz (i:=1) rfl hlow)) aG rfl fun a4 a6 w a hF hS=>?_)
   refine rn 1 7 [(0,sv ad1 p0 cap2),(3,sv a4 a9 a6),(4,iv a2)] hF fun a hF=>WI.fin rfl (A9<|A3<|?_)
   refine WI.region ?_
   obtain ⟨aB,aI,h⟩:=A0 h
   refine ro 3 3 [(0,sv ad1 p0 cap2),(3,sv a4 a9 a6),(4,iv aB)] hF (oA 3 aI<|A1) fun a hF=>wfn rfl ?_
   rw [hk2] at h
   exact ⟨nk2,Nat.lt_succ_self _,a9,aB,a4,a6,hF.sub kr,St.pick [0,1] (by decide) hS,h⟩
  ·refine wpIn_exit (A5<|A5<|Ar<|A3 ?_)
   exact ⟨a0,a3,a5,hF.sub kr,St.pick [0,1] (by decide) hS,h⟩
 rintro a w ⟨a1,a7,a8,hF,hS,h⟩
 rw [Ks] at h
 refine rnB [(2,sv a7 a1 a8)] hF fun a hF=>?_
 refine wpIn_ret (A7 [.tmp 2] [_] hF rfl ⟨rfl,trivial⟩ ?_)
 obtain rfl:=Ae h
 exact ⟨_,rfl,_,_,rfl,St.pick [0] (by decide) hS⟩
end Go.Proofs.YtifbomimeodibaaGreat
