import Derived.Test.YtifbomimeodibaaGreatV4XD
import Derived.Test.YtifbomimeodibaaGreatProg
import Derived.Test.YtifbomimeodibaaGreatV4WnB
namespace Go.Proofs.YtifbomimeodibaaGreat
open Go Go.RowKit Go.Eng
set_option maxRecDepth 10000
set_option maxHeartbeats 4000000
set_option linter.unusedVariables false
set_option linter.unusedSimpArgs false
theorem Mj {σ γ:Type} (F:Nat) (c0_:(List Int)) (body:σ→(Int×(List Int))→Option (σ×Bool)) (s_:σ) (res:σ×Bool) (h:Jc F c0_ body s_=some res) (l_:Nat) (μ:Frz) (w0 w1:World) (RC:σ→Bool→γ→List Res) (PC:σ→Bool→γ→Frz→Prop) (hPm:∀s b g μ ν,PC s b g μ→μ.le ν→PC s b g ν) (hy:∀(s:σ) (x:(Int×(List Int))) (q:σ×Bool),body s x=some q→∀(ν:Frz) (g:γ) (G:List Res) (w:World) (ad_1:Option Addr) (cap_2:Nat),μ.ext w0.heap.size ν→B2 w0 ν→PC s true g ν→ArrM ν 1 (fK .u8) ad_1 cap_2 x.2→St w0 (fz w0 ν::(RC s true g++G)) w→Eng.Yields Tryz.prog l_ #[iv x.1,sv ad_1 x.2 cap_2] w (fun c w2=>c=q.2∧∃ν2 g2,ν.ext w0.heap.size ν2∧B2 w0 ν2∧PC q.1 q.2 g2 ν2∧St w0 (fz w0 ν2::(RC q.1 q.2 g2++G)) w2)) (g_:γ) (G_:List Res) (hlow:B2 w0 μ) (hP:PC s_ true g_ μ) (hS:St w0 (fz w0 μ::(RC s_ true g_++G_)) w1) {cb1:Nat} {ad1:Option Addr} {cap2:Nat} (hcb1:BlkM μ cb1 22 #[sv ad1 c0_ cap2]) (hA3:ArrM μ 1 (fK .u8) ad1 cap2 c0_):Calls Tryz.prog 65 #[.func (.yield l_) #[] #[],pb cb1] w1 (fun e w=>∃(ν_:Frz) (g2_:γ),μ.ext w0.heap.size ν_∧B2 w0 ν_∧PC res.1 res.2 g2_ ν_∧e=.returned (.tuple #[])∧St w0 (fz w0 ν_::(RC res.1 res.2 g2_++G_)) w):=by
 rw [Jc] at h
 have hext:=Frz.ext_refl w0.heap.size μ
 refine feW Tryz.func65 45 [(0,.func (.yield l_) #[] #[]),(1,pb cb1)] hS fun a w hF hS=>?_
 refine esr<|qx 3 3 [(3,iv (C0 c0_ 0))] hF (oX (.run [] (Instr.loadAt 22 (pb cb1)) (sv ad1 c0_ cap2)) (ob1 kr (fun _ hd=>(hcb1.blk ((hS.later hd).frz (i:=0) rfl hlow)).cell1 (j:=0) rfl))<|oC (fun w2 hd=>Lx c0_ 0 _ rfl _ w2 (A1 w2) (hA3.mono (FrzAt.le_mem ((hS.later hd).frz (i:=0) rfl hlow))))<|A3) fun a w hF hx=>?_
 replace hS:=hS.later hx
 refine wfn rfl ?_
 refine wpIn_block ?_
 have aL:=Frz.le_refl μ
 refine Cc (fun n_ a w=>∃(a0:Int) (a7:σ) (ν55:Frz) (a8:γ),Fr 45 [] [(0,.func (.yield l_) #[] #[]),(1,pb cb1),(3,iv a0)] a∧St w0 (fz w0 ν55::(RC a7 true a8++G_)) w∧(PC a7 true a8 ν55)∧(μ.le ν55)∧(μ.ext w0.heap.size ν55)∧(B2 w0 ν55)∧Gh body c0_ n_ a0 a7=some res) F ⟨(C0 c0_ 0),s_,μ,g_,hF.sub kr,hS,hP,aL,hext,hlow,h⟩ ?_
 clear aL
 rintro nk1 a w ⟨a0,a7,ν55,a8,hF,hS,hP,a5,hext,hlow,h⟩
 rcases nk1 with _|nk1
 ·cases (show (none:Option (σ×Bool))=some res from h)
 replace hcb1:=hcb1.mono a5
 replace hA3:=hA3.mono a5
 obtain ⟨k1,hk1⟩:∃k,k=Gh body c0_ nk1:=⟨_,rfl⟩
 replace h:Jg body c0_ k1 a0 a7=some res:=by rw [hk1];exact h
 rw [Jg] at h
 refine Ak<|qoB [(14,.bool (bif (decide (a0≥0)) then (decide (a0<(ln c0_))) else false))] hF (oGs [⟨9,true,(decide (a0≥0))⟩] (oX (.run [] (Instr.loadAt 22 (pb cb1)) (sv ad1 c0_ cap2)) (ob1 kr (fun _ hd=>(hcb1.blk ((hS.at_ hd).frz (i:=0) rfl hlow)).cell1 (j:=0) rfl))<|A3)<|A3) fun a hF=>?_
 refine A8 hF h (fun hc h=>?_) fun hc h=>?_
 ·refine wK<|wpIn_block<|esr ?_
  obtain ⟨aI,aS,h⟩:=A0 h
  obtain ⟨a3,aM,h⟩:=A0 h
  have aE:ArrM ν55 1 (fK .u8) (Ar ad1 cap2 aI.toNat 1) (cap2-aI.toNat) a3:=fun w_ hw_=>(hA3 w_ hw_).cutD (Bs .u8) aM
  refine qx 6 6 [(4,iv (C0 a3 0))] hF (oX (.run [] (Instr.loadAt 22 (pb cb1)) (sv ad1 c0_ cap2)) (ob1 kr (fun _ hd=>(hcb1.blk ((hS.later hd).frz (i:=0) rfl hlow)).cell1 (j:=0) rfl))<|oA 3 aS<|oX (.run [] (Instr.sliceAt 22 (sv ad1 c0_ cap2) (some (iv aI)) none none) (.slice (Ar ad1 cap2 aI.toNat 1) a3.length (cap2-aI.toNat))) (Mv kr (hA3 _ (hS.frz (i:=0) rfl hlow)) (fun _=>aM))<|oC (fun w2 hd=>Lx a3 0 _ rfl _ w2 (A1 w2) (aE.mono (FrzAt.le_mem ((hS.later hd).frz (i:=0) rfl hlow))))<|A3) fun a w hF hx=>?_
  replace hS:=hS.later hx
  refine wfn rfl ?_
  refine Ak<|qnB [(21,.bool (decide ((C0 a3 0)<0)))] hF fun a hF=>?_
  refine A8 hF h (fun hc h=>?_) fun hc h=>?_
  ·refine esr ?_
   obtain ⟨a1,aT,h⟩:=A0 h
   obtain ⟨aG,aN,h⟩:=A0 h
   have aJ:ArrM ν55 1 (fK .u8) (Ar ad1 cap2 a1.toNat 1) (cap2-a1.toNat) aG:=fun w_ hw_=>(hA3 w_ hw_).cutD (Bs .u8) aN
   refine ro 6 6 [(22,.func (.yield l_) #[] #[]),(23,iv a0),(27,.slice (Ar ad1 cap2 a1.toNat 1) aG.length (cap2-a1.toNat))] hF (oX (.run [] (Instr.loadAt 22 (pb cb1)) (sv ad1 c0_ cap2)) (ob1 kr (fun _ hd=>(hcb1.blk ((hS.at_ hd).frz (i:=0) rfl hlow)).cell1 (j:=0) rfl))<|oA 3 aT<|oX (.run [] (Instr.sliceAt 22 (sv ad1 c0_ cap2) (some (iv a1)) none none) (.slice (Ar ad1 cap2 a1.toNat 1) aG.length (cap2-a1.toNat))) (Mv kr (hA3 _ (hS.frz (i:=0) rfl hlow)) (fun _=>aN))<|A3) fun a hF=>?_
   obtain ⟨aB,aQ,h⟩:=A0 h
   refine Zf (l:=l_) (args:=#[iv a0,.slice (Ar ad1 cap2 a1.toNat 1) aG.length (cap2-a1.toNat)]) 7 (fun bq_=>[]) hF kr ⟨kr⟩ (hy a7 (a0,aG) aB aQ ν55 a8 (G_++[]) w (Ar ad1 cap2 a1.toNat 1) (cap2-a1.toNat) hext hlow hP aJ (St.rot [] hS)) (fun _=>⟨kr⟩) rfl ?_
   rintro bq_ w a ⟨hc_,ν68,aC,a9,hlow,hP,hS⟩ hF
   subst hc_
   replace hS:=St.unrot [] hS
   replace hext:=hext.t a9
   replace hcb1:=hcb1.mono a9.1
   replace hA3:=hA3.mono a9.1
   replace aE:=aE.mono a9.1
   replace aJ:=aJ.mono a9.1
   replace a5:=a5.t a9.1
   replace hS:St w0 (fz w0 ν68::(RC aB.1 (aB.2) aC++G_)) w:=hS
   rcases Bool.eq_false_or_eq_true (aB.2) with aF|aF
   ·replace h:=Jq h aF
    rw [aF] at hS hP
    replace hS:St w0 (fz w0 ν68::(RC aB.1 true aC++G_)) w:=hS
    refine wfn rfl ?_
    refine wpIn_ret (A2<|Ab<|A2<|Ab<|A9 [] [] hF rfl trivial ?_)
    obtain rfl:=Ai h
    exact ⟨ν68,aC,hext,hlow,hP,rfl,hS⟩
   ·replace h:=Jp h aF
    rw [aF] at hS hP
    replace hS:St w0 (fz w0 ν68::(RC aB.1 false aC++G_)) w:=hS
    refine wfn rfl ?_
    refine wpIn_ret (A2<|Ab<|A2<|Ab<|A9 [] [] hF rfl trivial ?_)
    obtain rfl:=Ai h
    exact ⟨ν68,aC,hext,hlow,hP,rfl,hS⟩
  ·refine wK<|Ak<|esr ?_
   obtain ⟨a2,aU,h⟩:=A0 h
   obtain ⟨b0,aV,h⟩:=A0 h
   obtain ⟨aZ,aW,h⟩:=A0 h
   obtain ⟨aH,aO,h⟩:=A0 h
   have aK:ArrM ν55 1 (fK .u8) (Ar ad1 cap2 a2.toNat 1) (cap2-a2.toNat) aH:=fun w_ hw_=>(hA3 w_ hw_).cutD (Bs .u8) aO
   refine qo 10 10 [(29,.func (.yield l_) #[] #[]),(30,iv a0),(38,.slice (Ar ad1 cap2 a2.toNat 1) aH.length (cap2-a2.toNat))] hF (oX (.run [] (Instr.loadAt 22 (pb cb1)) (sv ad1 c0_ cap2)) (ob1 kr (fun _ hd=>(hcb1.blk ((hS.at_ hd).frz (i:=0) rfl hlow)).cell1 (j:=0) rfl))<|oA 3 aU<|oA 3 aV<|oA 3 aW<|oX (.run [] (Instr.sliceAt 22 (sv ad1 c0_ cap2) (some (iv a2)) (some (iv aZ)) none) (.slice (Ar ad1 cap2 a2.toNat 1) aH.length (cap2-a2.toNat))) (A00 kr (hA3 _ (hS.frz (i:=0) rfl hlow)) (fun _=>aO))<|A3) fun a hF=>?_
   obtain ⟨a6,aR,h⟩:=A0 h
   refine Zf (l:=l_) (args:=#[iv a0,.slice (Ar ad1 cap2 a2.toNat 1) aH.length (cap2-a2.toNat)]) 11 (fun bq_=>[(0,.func (.yield l_) #[] #[]),(1,pb cb1),(3,iv a0),(4,iv (C0 a3 0)),(39,.bool bq_)]) hF kr ⟨kr⟩ (hy a7 (a0,aH) a6 aR ν55 a8 (G_++[]) w (Ar ad1 cap2 a2.toNat 1) (cap2-a2.toNat) hext hlow hP aK (St.rot [] hS)) (fun _=>⟨kr⟩) rfl ?_
   rintro bq_ w a ⟨hc_,ν78,aD,aA,hlow,hP,hS⟩ hF
   subst hc_
   replace hS:=St.unrot [] hS
   replace hext:=hext.t aA
   replace hcb1:=hcb1.mono aA.1
   replace hA3:=hA3.mono aA.1
   replace aE:=aE.mono aA.1
   replace aK:=aK.mono aA.1
   replace a5:=a5.t aA.1
   replace hS:St w0 (fz w0 ν78::(RC a6.1 (a6.2) aD++G_)) w:=hS
   rcases Bool.eq_false_or_eq_true (a6.2) with a4|a4
   ·replace h:=Jq h a4
    rw [a4] at hS hP
    rw [a4] at hF
    replace hS:St w0 (fz w0 ν78::(RC a6.1 true aD++G_)) w:=hS
    refine rn 1 12 [(0,.func (.yield l_) #[] #[]),(1,pb cb1),(3,iv a0),(4,iv (C0 a3 0)),(40,.bool false)] hF fun a hF=>wfn rfl ?_
    refine wpIn_cond_false (hF.get rfl) ?_
    refine wK<|WI.region ?_
    obtain ⟨b1,aX,h⟩:=A0 h
    obtain ⟨aP,aY,h⟩:=A0 h
    refine ro 5 5 [(0,.func (.yield l_) #[] #[]),(1,pb cb1),(3,iv aP)] hF (oA 3 aX<|oA 3 aY<|A3) fun a hF=>WI.fin rfl (A7<|A4<|?_)
    rw [hk1] at h
    exact ⟨nk1,Nat.lt_succ_self _,aP,a6.1,ν78,aD,hF.sub kr,hS,hP,a5,hext,hlow,h⟩
   ·replace h:=Jp h a4
    rw [a4] at hS hP
    rw [a4] at hF
    replace hS:St w0 (fz w0 ν78::(RC a6.1 false aD++G_)) w:=hS
    refine rn 1 12 [(0,.func (.yield l_) #[] #[]),(1,pb cb1),(3,iv a0),(4,iv (C0 a3 0)),(40,.bool true)] hF fun a hF=>wfn rfl ?_
    refine wpIn_cond_true (hF.get rfl) ?_
    refine wpIn_ret (A2<|Ab<|A2<|Ab<|A9 [] [] hF rfl trivial ?_)
    obtain rfl:=Ai h
    exact ⟨ν78,aD,hext,hlow,hP,rfl,hS⟩
 ·refine wpIn_exit (A6<|A6<|Aq<|?_)
  refine H4 hF rfl ?_
  obtain rfl:=Ai h
  exact ⟨ν55,a8,hext,hlow,hP,rfl,hS⟩
theorem M8 (x0:Bool) {b0:Nat} {w0 w:World} {H:List Res} (hS:St w0 (blk b0 4 #[.bool x0]::H) w):CallsDIn (F0 none) 0 Tryz.prog 89 #[pb b0] .returning w (fun e u_ w=>e=.returned (.tuple #[])∧settle u_=.returning∧St w0 (blk b0 4 #[.bool x0]::H) w):=by
 refine Jr Tryz.func89 rfl 9 [(0,pb b0)] [(0,pb b0),(4,.nilIface)] rfl rfl kr kr ⟨kr⟩ ⟨kr⟩ fun a hF=>?_
 refine rn 6 7 [(0,pb b0),(2,.bool false)] hF fun a hF=>?_
 refine wfn rfl ?_
 refine esr ?_
 refine rn 1 1 [(0,pb b0),(8,.bool false)] hF fun a hF=>?_
 refine wfn rfl ?_
 refine wpIn_cond_false (hF.get rfl) ?_
 refine wpIn_skip ?_
 refine H4 hF rfl ?_
 exact ⟨rfl,rfl,hS⟩
theorem M9 (x0:Bool) (z_:Int) {b0:Nat} {w0 w:World} {H:List Res} (hS:St w0 (blk b0 4 #[.bool x0]::H) w):CallsDIn (F0 none) 0 Tryz.prog 89 #[pb b0] (.panicking [{ v:=.iface 128 (iv z_),recovered:=false }]) w (fun e u_ w=>e=.returned (.tuple #[])∧settle u_=.returning∧St w0 (blk b0 4 #[.bool false]::H) w):=by
 refine Jr Tryz.func89 rfl 9 [(0,pb b0)] [(0,pb b0),(4,.iface 128 (iv z_))] rfl rfl kr kr ⟨kr⟩ ⟨kr⟩ fun a hF=>?_
 refine rn 6 7 [(0,pb b0),(2,.bool true)] hF fun a hF=>?_
 refine wfn rfl ?_
 refine esr ?_
 refine rn 1 1 [(0,pb b0),(8,.bool true)] hF fun a hF=>?_
 refine wfn rfl ?_
 refine wpIn_cond_true (hF.get rfl) ?_
 refine WI.region ?_
 refine SK.wi (Mx (t:=4) [] 0 0 (.bool false) #[.bool false] hF hS rfl kr ⟨kr⟩ kr kr kr kr ⟨kr⟩ fun w a hF hS=>?_)
 refine WI.fin rfl ?_
 refine H4 hF rfl ?_
 exact ⟨rfl,rfl,hS⟩
theorem Qj (F:Nat) (p0:(List Int)) (res:(List Int)) (h:Jh F p0=some res) (μ:Frz) (w0:World) (hm:FrzAt μ w0) {ad1:Option Addr} {cap2:Nat} (hA3:ArrM μ 1 (fK .u8) ad1 cap2 p0):Bd Tryz.prog 68 #[sv ad1 p0 cap2] w0 (fun e w=>∃zad0 zcap0,e=(sv zad0 res zcap0)∧St w0 [arr 5 1 (fK .u8) zad0 res.length zcap0 res] w):=by
 obtain ⟨hlow,hS⟩:=hm.init
 have hext:=Frz.ext_refl w0.heap.size μ
 rw [Jh] at h
 refine feW Tryz.func68 43 [(0,sv ad1 p0 cap2)] hS fun a w hF hS=>?_
 refine qnB [] hF fun a hF=>?_
 refine qnB [(3,iv 1)] hF fun a hF=>?_
 refine D4 (fun a w=>∃(a9:Int),Fr 43 [] [(3,iv a9)] a∧St w0 [fz w0 μ] w∧L5 F a9=some res) ?_ ?_
 ·skip
  refine qnB [(8,sv ad1 p0 cap2),(9,iv (ln p0)),(10,iv 0)] hF fun a hF=>?_
  refine wpIn_block<|Cc (fun n_ a w=>∃(a8:Int) (aC:Int),Fr 43 [] [(3,iv aC),(8,sv ad1 p0 cap2),(9,iv (ln p0)),(10,iv a8)] a∧St w0 [fz w0 μ] w∧Gy F p0 n_ a8 aC=some res) F ⟨0,1,hF.sub kr,St.pick [0] (by decide) hS,h⟩ ?_
  rintro nk4 a w ⟨a8,aC,hF,hS,h⟩
  rcases nk4 with _|nk4
  ·cases (show (none:Option (List Int))=some res from h)
  obtain ⟨k4,hk4⟩:∃k,k=Gy F p0 nk4:=⟨_,rfl⟩
  replace h:L4 F p0 k4 a8 aC=some res:=by rw [hk4];exact h
  rw [L4] at h
  refine qnB [(11,.bool (decide (a8<(ln p0))))] hF fun a hF=>?_
  refine Ak<|A8 hF h (fun hc h=>?_) fun hc h=>?_
  ·refine wK<|Ak<|wpIn_block<|esr ?_
   obtain ⟨aN,aJ,h⟩:=A0 h
   refine qo 3 3 [(5,.int .u8 aN)] hF (oI 22 (hA3 _ (hS.frz (i:=0) rfl hlow)) aJ<|oE 5 0 (Bs .u8) (fun _ hd=>(hA3 _ ((hS.at_ hd).frz (i:=0) rfl hlow))) aJ rfl<|A3) fun a hF=>wfn rfl ?_
   refine WI.region ?_
   obtain ⟨b6,aT,h⟩:=A0 h
   obtain ⟨b5,aU,h⟩:=A0 h
   obtain ⟨b7,aV,h⟩:=A0 h
   obtain ⟨aH,aW,h⟩:=A0 h
   refine ro 7 7 [(3,iv aH),(8,sv ad1 p0 cap2),(9,iv (ln p0)),(10,iv a8)] hF (oM 3 aT<|oX (.run [] (convert 5 3 (.int .u8 aN)) (iv b5)) (Sz kr kr (fun _=>aU))<|oA 3 aV<|oR 3 aW<|A3) fun a hF=>WI.fin rfl (A7<|A4<|?_)
   refine WI.region ?_
   obtain ⟨aO,aX,h⟩:=A0 h
   refine ro 2 2 [(3,iv aH),(8,sv ad1 p0 cap2),(9,iv (ln p0)),(10,iv aO)] hF (oA 3 aX<|A3) fun a hF=>wfn rfl ?_
   rw [hk4] at h
   exact ⟨nk4,Nat.lt_succ_self _,aO,aH,hF.sub kr,St.pick [0] (by decide) hS,h⟩
  ·refine wpIn_exit (A6<|A6<|Aq<|A4 ?_)
   exact ⟨aC,hF.sub kr,St.pick [0] (by decide) hS,h⟩
 rintro a w ⟨a9,hF,hS,h⟩
 rw [L5] at h
 refine esr ?_
 obtain ⟨a4,aQ,h⟩:=A0 h
 refine SK.wi (A2f (e:=5) (sz:=1) (f:=(fK .u8)) (z:=.int .u8 0) (t:=22) (bytes:=1) (fun aF=>[(3,iv a9),(21,.slice (some ⟨aF,0,none⟩) a4.length a4.length)]) 0 hF hS kr ⟨kr⟩ kr kr rfl aQ (fun _=>⟨kr⟩) fun aF w a hF hS=>?_)
 refine rn 1 2 [(3,iv a9),(6,.slice (some ⟨aF,0,none⟩) a4.length a4.length)] hF fun a hF=>wfn rfl ?_
 refine D4 (fun a w=>∃(a7:(List Int)) (a6:Option Addr) (aA:Nat),Fr 43 [] [(6,sv a6 a7 aA)] a∧St w0 [arr 5 1 (fK .u8) a6 a7.length aA a7,fz w0 μ] w∧L6 a7=some res) ?_ ?_
 ·skip
  refine qnB [(23,iv (ln a4)),(24,iv 0)] hF fun a hF=>?_
  refine wpIn_block<|Cc (fun n_ a w=>∃(a2:Int) (a0:Int) (aD:Int) (a5:(List Int)) (a1:Option Addr) (a3:Nat),Fr 43 [] [(3,iv aD),(6,sv a1 a5 a3),(23,iv a2),(24,iv a0)] a∧St w0 [arr 5 1 (fK .u8) a1 a5.length a3 a5,fz w0 μ] w∧E6 n_ a2 a0 aD a5=some res) F ⟨(ln a4),0,a9,a4,(some ⟨aF,0,none⟩),a4.length,hF.sub kr,St.pick [0,1] (by decide) hS,h⟩ ?_
  rintro nk3 a w ⟨a2,a0,aD,a5,a1,a3,hF,hS,h⟩
  rcases nk3 with _|nk3
  ·cases (show (none:Option (List Int))=some res from h)
  obtain ⟨k3,hk3⟩:∃k,k=E6 nk3:=⟨_,rfl⟩
  replace h:J2 k3 a2 a0 aD a5=some res:=by rw [hk3];exact h
  rw [J2] at h
  refine qnB [(25,.bool (decide (a0<a2)))] hF fun a hF=>?_
  refine Ak<|A8 hF h (fun hc h=>?_) fun hc h=>?_
  ·refine wK<|Ak<|wpIn_block<|qnB [(7,iv a0)] hF fun a hF=>?_
   refine esr ?_
   obtain ⟨b8,aY,h⟩:=A0 h
   obtain ⟨aE,aZ,h⟩:=A0 h
   obtain ⟨b4,aM,h⟩:=A0 h
   refine qo 7 7 [(32,.int .u8 (IntKind.u8.wrap aE)),(33,.pointer (some (Bn a1 a0 1)))] hF (oR 3 aY<|oA 3 aZ<|oX (.run [] (convert 3 5 (iv aE)) (.int .u8 (IntKind.u8.wrap aE))) (Bb kr)<|oI 22 (hS.arr (i:=0) rfl) aM<|A3) fun a hF=>?_
   obtain ⟨aG,aS,h⟩:=A0 h
   refine SK.wi (A2v (j:=a0) (t:=5) [(3,iv aD),(6,sv a1 a5 a3),(23,iv a2),(24,iv a0)] 0 0 b4 (IntKind.u8.wrap aE) (.int .u8 (IntKind.u8.wrap aE)) hF hS rfl kr ⟨kr⟩ (Bs .u8) aM rfl kr kr kr aS ⟨kr⟩ fun w a hF hl hS=>?_)
   simp only [sv,ln,hl] at hF hS
   refine wfn rfl ?_
   refine WI.region ?_
   obtain ⟨aI,b0,h⟩:=A0 h
   refine ro 3 3 [(3,iv aI),(6,sv a1 aG a3),(23,iv a2),(24,iv a0)] hF (oQ 3 b0<|A3) fun a hF=>WI.fin rfl (A7<|A4<|?_)
   refine WI.region ?_
   obtain ⟨aP,b1,h⟩:=A0 h
   refine ro 2 2 [(3,iv aI),(6,sv a1 aG a3),(23,iv a2),(24,iv aP)] hF (oA 3 b1<|A3) fun a hF=>wfn rfl ?_
   rw [hk3] at h
   exact ⟨nk3,Nat.lt_succ_self _,a2,aP,aI,aG,a1,a3,hF.sub kr,St.pick [0,1] (by decide) hS,h⟩
  ·refine wpIn_exit (A6<|A6<|Aq<|A4 ?_)
   exact ⟨a5,a1,a3,hF.sub kr,St.pick [0,1] (by decide) hS,h⟩
 rintro a w ⟨a7,a6,aA,hF,hS,h⟩
 rw [L6] at h
 refine esr ?_
 obtain ⟨aB,aK,h⟩:=A0 h
 obtain ⟨b3,aL,h⟩:=A0 h
 refine qo 5 5 [(40,.int .u8 (IntKind.u8.wrap (aB-127))),(41,.pointer (some (Bn a6 4 1)))] hF (oI 22 (hS.arr (i:=0) rfl) aK<|oE 5 0 (Bs .u8) (fun _ hd=>((hS.at_ hd).arr (i:=0) rfl)) aK rfl<|oX (.run [] (binOp .sub 5 (.int .u8 aB) (.int .u8 127)) (.int .u8 (IntKind.u8.wrap (aB-127)))) (obW kr)<|oI 22 (hS.arr (i:=0) rfl) aL<|A3) fun a hF=>?_
 obtain ⟨b2,aR,h⟩:=A0 h
 refine SK.wi (A2v (j:=4) (t:=5) [(6,sv a6 a7 aA)] 0 0 b3 (IntKind.u8.wrap (aB-127)) (.int .u8 (IntKind.u8.wrap (aB-127))) hF hS rfl kr ⟨kr⟩ (Bs .u8) aL rfl kr kr kr aR ⟨kr⟩ fun w a hF hl hS=>?_)
 simp only [sv,ln,hl] at hF hS
 refine wfn rfl ?_
 refine rnB [(2,sv a6 b2 aA)] hF fun a hF=>?_
 refine wpIn_ret (A9 [.tmp 2] [_] hF rfl ⟨rfl,trivial⟩ ?_)
 obtain rfl:=Ai h
 exact ⟨_,rfl,_,_,rfl,St.pick [0] (by decide) hS⟩
theorem Mm (x0:Value) (x1:Int) {b0 b1:Nat} {w0 w:World} {H:List Res} (hS:St w0 (blk b0 80 #[x0]::blk b1 25 #[iv x1]::H) w):CallsDIn (F0 none) 0 Tryz.prog 69 #[pb b0,pb b1] .returning w (fun e u_ w=>e=.returned (.tuple #[])∧settle u_=.returning∧St w0 (blk b0 80 #[x0]::blk b1 25 #[iv x1]::H) w):=by
 refine Jr Tryz.func69 rfl 11 [(0,pb b0),(1,pb b1)] [(0,pb b0),(1,pb b1),(5,.nilIface)] rfl rfl kr kr ⟨kr⟩ ⟨kr⟩ fun a hF=>?_
 refine rn 6 7 [(0,pb b0),(1,pb b1),(2,iv 0),(3,.bool false)] hF fun a hF=>?_
 refine wfn rfl ?_
 refine esr ?_
 refine rn 1 1 [(0,pb b0),(1,pb b1),(2,iv 0),(9,.bool false)] hF fun a hF=>?_
 refine wfn rfl ?_
 refine wpIn_cond_false (hF.get rfl) ?_
 refine wpIn_skip ?_
 refine H4 hF rfl ?_
 exact ⟨rfl,rfl,hS⟩
theorem Mn (x0:Value) (x1:Int) (z_:Int) {b0 b1:Nat} {w0 w:World} {H:List Res} (hS:St w0 (blk b0 80 #[x0]::blk b1 25 #[iv x1]::H) w):CallsDIn (F0 none) 0 Tryz.prog 69 #[pb b0,pb b1] (.panicking [{ v:=.iface 128 (iv z_),recovered:=false }]) w (fun e u_ w=>e=.returned (.tuple #[])∧settle u_=.returning∧St w0 (blk b0 80 #[.nilIface]::blk b1 25 #[iv z_]::H) w):=by
 refine Jr Tryz.func69 rfl 11 [(0,pb b0),(1,pb b1)] [(0,pb b0),(1,pb b1),(5,.iface 128 (iv z_))] rfl rfl kr kr ⟨kr⟩ ⟨kr⟩ fun a hF=>?_
 refine rn 6 7 [(0,pb b0),(1,pb b1),(2,iv z_),(3,.bool true)] hF fun a hF=>?_
 refine wfn rfl ?_
 refine esr ?_
 refine rn 1 1 [(0,pb b0),(1,pb b1),(2,iv z_),(9,.bool true)] hF fun a hF=>?_
 refine wfn rfl ?_
 refine wpIn_cond_true (hF.get rfl) ?_
 refine WI.region ?_
 refine rn 1 1 [(0,pb b0),(1,pb b1),(10,iv z_)] hF fun a hF=>?_
 refine SK.wi (Mx (t:=80) [(1,pb b1),(10,iv z_)] 0 0 (.nilIface) #[.nilIface] hF hS rfl kr ⟨kr⟩ kr kr kr kr ⟨kr⟩ fun w a hF hS=>?_)
 refine SK.wi (Mx (t:=25) [] 1 0 (iv z_) #[iv z_] hF hS rfl kr ⟨kr⟩ kr kr kr kr ⟨kr⟩ fun w a hF hS=>?_)
 refine WI.fin rfl ?_
 refine H4 hF rfl ?_
 exact ⟨rfl,rfl,hS⟩
theorem Mi (F:Nat) (p0:Int) (res:Except Value Unit) (h:Lb F p0=some res) (μ:Frz) (w0:World) (hm:FrzAt μ w0):Y1 Tryz.prog 71 #[iv p0] w0 res (fun r_ e w=>e=(.tuple #[])∧Ext w0 w) (Ext w0):=by
 obtain ⟨hlow,hS⟩:=hm.init
 have hext:=Frz.ext_refl w0.heap.size μ
 rw [Lb] at h
 refine feW Tryz.func71 5 [(0,iv p0)] hS fun a w hF hS=>?_
 refine rnB [(3,.bool (p0 != 0))] hF fun a hF=>?_
 refine A8 hF h (fun hc h=>?_) fun hc h=>?_
 ·refine WI.region<|rn 1 1 [(4,.iface 128 (iv 7))] hF fun a hF=>?_
  refine Np (t:=128) (v:=iv 7) hF ⟨kr⟩ (Au hF ?_)
  obtain rfl:=Ai h
  exact .inr ⟨_,rfl,rfl,hS.ext⟩
 ·refine wpIn_skip ?_
  refine H4 hF rfl ?_
  obtain rfl:=Ai h
  exact .inl ⟨_,_,rfl,rfl,rfl,hS.ext⟩
theorem Al (F:Nat) (p0:volume_writer) (p1:(List Int)) (res:volume_writer) (h:Aj F p0 p1=some res) (μ:Frz) (w0 w1:World) (T_:List Res) (hlow:B2 w0 μ) {cb0:Nat} {ad1:Option Addr} {cap2:Nat} {ad3:Option Addr} {cap4:Nat} (hA5:ArrM μ 1 fI ad3 cap4 p1) (hS:St w0 (fz w0 μ::blk cb0 138 #[sv ad1 p0.b cap2]::arrT 5 1 (fK .u8) ad1 p0.b.length cap2 p0.b::T_) w1):Bd Tryz.prog 76 #[pb cb0,sv ad3 p1 cap4] w1 (fun e w=>∃(ν_:Frz) (aN:Option Addr) (aQ:Nat),μ.ext w0.heap.size ν_∧B2 w0 ν_∧e=(.tuple #[])∧St w0 (fz w0 ν_::blk cb0 138 #[sv aN res.b aQ]::arrT 5 1 (fK .u8) aN res.b.length aQ res.b::T_) w):=by
 rw [Aj] at h
 have hext:=Frz.ext_refl w0.heap.size μ
 refine feW Tryz.func76 42 [(0,pb cb0),(1,sv ad3 p1 cap4)] hS fun a w hF hS=>?_
 refine qnB [(6,sv ad3 p1 cap4),(7,iv (ln p1)),(8,iv 0)] hF fun a hF=>?_
 refine wpIn_block<|Cc (fun n_ a w=>∃(a3:(List Int)) (a0:Int) (a6:Option Addr) (aA:Nat),Fr 42 [] [(0,pb cb0),(6,sv ad3 p1 cap4),(7,iv (ln p1)),(8,iv a0)] a∧St w0 (arrT 5 1 (fK .u8) a6 a3.length aA a3::fz w0 μ::blk cb0 138 #[sv a6 a3 aA]::T_) w∧Cg F p1 n_ a3 a0=some res) F ⟨p0.b,0,ad1,cap2,hF.sub kr,hS.s2,h⟩ ?_
 rintro nk1 a w ⟨a3,a0,a6,aA,hF,hS,h⟩
 rcases nk1 with _|nk1
 ·cases (show (none:Option volume_writer)=some res from h)
 obtain ⟨k1,hk1⟩:∃k,k=Cg F p1 nk1:=⟨_,rfl⟩
 replace h:E2 F p1 k1 a3 a0=some res:=by rw [hk1];exact h
 rw [E2] at h
 refine qnB [(9,.bool (decide (a0<(ln p1))))] hF fun a hF=>?_
 refine Ak<|A8 hF h (fun hc h=>?_) fun hc h=>?_
 ·refine wK<|D4 (fun a w=>∃(a5:(List Int)) (aG:Option Addr) (aI:Nat),Fr 42 [] [(0,pb cb0),(6,sv ad3 p1 cap4),(7,iv (ln p1)),(8,iv a0)] a∧St w0 (arrT 5 1 (fK .u8) aG a5.length aI a5::fz w0 μ::blk cb0 138 #[sv aG a5 aI]::T_) w∧E4 a0 k1 a5=some res) ?_ ?_
  ·skip
   refine wpIn_block<|esr ?_
   obtain ⟨aS,aR,h⟩:=A0 h
   refine qo 3 3 [(5,iv aS)] hF (oI 69 (hA5 _ (hS.frz (i:=1) rfl hlow)) aR<|oE 3 0 Fl (fun _ hd=>(hA5 _ ((hS.at_ hd).frz (i:=1) rfl hlow))) aR rfl<|A3) fun a hF=>wfn rfl ?_
   refine D4 (fun a w=>∃(a4:(List Int)) (aM:Int) (aH:Option Addr) (aJ:Nat),Fr 42 [] [(0,pb cb0),(5,iv aM),(6,sv ad3 p1 cap4),(7,iv (ln p1)),(8,iv a0)] a∧St w0 (arrT 5 1 (fK .u8) aH a4.length aJ a4::fz w0 μ::blk cb0 138 #[sv aH a4 aJ]::T_) w∧E5 a0 k1 a4 aM=some res) ?_ ?_
   ·skip
    refine wpIn_block<|Cc (fun n_ a w=>∃(a1:(List Int)) (a2:Int) (a8:Option Addr) (aC:Nat),Fr 42 [] [(0,pb cb0),(5,iv a2),(6,sv ad3 p1 cap4),(7,iv (ln p1)),(8,iv a0)] a∧St w0 (arrT 5 1 (fK .u8) a8 a1.length aC a1::fz w0 μ::blk cb0 138 #[sv a8 a1 aC]::T_) w∧Ch a0 k1 n_ a1 a2=some res) F ⟨a3,aS,a6,aA,hF.sub kr,hS,h⟩ ?_
    rintro nk4 a w ⟨a1,a2,a8,aC,hF,hS,h⟩
    rcases nk4 with _|nk4
    ·cases (show (none:Option volume_writer)=some res from h)
    obtain ⟨k4,hk4⟩:∃k,k=Ch a0 k1 nk4:=⟨_,rfl⟩
    replace h:E3 a0 k1 k4 a1 a2=some res:=by rw [hk4];exact h
    rw [E3] at h
    refine Ak<|qnB [(13,.bool (decide (a2≥127)))] hF fun a hF=>?_
    refine A8 hF h (fun hc h=>?_) fun hc h=>?_
    ·refine wK<|Ak<|wpIn_block<|WI.region ?_
     obtain ⟨b2,aZ,h⟩:=A0 h
     obtain ⟨aF,b0,h⟩:=A0 h
     refine qo 9 9 [(16,pb cb0),(20,sv a8 a1 aC),(24,.int .u8 (IntKind.u8.wrap aF))] hF (oL 22 2 0 hS.i rfl rfl<|oR 3 aZ<|oA 3 b0<|oX (.run [] (convert 3 5 (iv aF)) (.int .u8 (IntKind.u8.wrap aF))) (Bb kr)<|A3) fun a hF=>?_
     refine SK.wi (qL 5 22 1 [IntKind.u8.wrap aF] (fun aP=>[(25,sb aP 1)]) (Bs .u8) hF hS fun aP w a hF hS=>?_)
     obtain ⟨aL,aW,h⟩:=A0 h
     refine SK.wi (R6 (t:=22) (ty:=22) (bytes:=1) (l:=a1) (l':=([IntKind.u8.wrap aF])) (fun a9 aD=>[(0,pb cb0),(5,iv a2),(6,sv ad3 p1 cap4),(7,iv (ln p1)),(8,iv a0),(16,pb cb0),(26,sv a9 aL aD)]) 1 hF hS rfl kr ⟨kr⟩ kr (hS.arr (i:=0) rfl) (fun _ _=>rfl) aW (fun _ _=>⟨kr⟩) fun a9 aD w a hF hS=>?_)
     refine rn 2 13 [(0,pb cb0),(5,iv a2),(6,sv ad3 p1 cap4),(7,iv (ln p1)),(8,iv a0),(26,sv a9 aL aD),(28,pb cb0)] hF fun a hF=>?_
     refine SK.wi (qs 22 3 0 (sv a9 aL aD) hF hS rfl fun w a hF hS=>WI.fin rfl (A7<|A4<|?_))
     refine WI.region ?_
     obtain ⟨aU,b1,h⟩:=A0 h
     refine ro 3 3 [(0,pb cb0),(5,iv aU),(6,sv ad3 p1 cap4),(7,iv (ln p1)),(8,iv a0)] hF (oQ 3 b1<|A3) fun a hF=>wfn rfl ?_
     rw [hk4] at h
     exact ⟨nk4,Nat.lt_succ_self _,aL,aU,a9,aD,hF.sub kr,hS.d0,h⟩
    ·refine wpIn_exit (A6<|A6<|Aq<|A4 ?_)
     exact ⟨a1,a2,a8,aC,hF.sub kr,hS,h⟩
   rintro a w ⟨a4,aM,aH,aJ,hF,hS,h⟩
   rw [E5] at h
   refine WI.region ?_
   obtain ⟨aE,aY,h⟩:=A0 h
   refine ro 8 8 [(0,pb cb0),(6,sv ad3 p1 cap4),(7,iv (ln p1)),(8,iv a0),(29,pb cb0),(33,sv aH a4 aJ),(36,.int .u8 (IntKind.u8.wrap aE))] hF (oL 22 2 0 hS.i rfl rfl<|oA 3 aY<|oX (.run [] (convert 3 5 (iv aE)) (.int .u8 (IntKind.u8.wrap aE))) (Bb kr)<|A3) fun a hF=>?_
   refine SK.wi (qL 5 22 1 [IntKind.u8.wrap aE] (fun aO=>[(37,sb aO 1)]) (Bs .u8) hF hS fun aO w a hF hS=>?_)
   obtain ⟨aK,aV,h⟩:=A0 h
   refine SK.wi (R6 (t:=22) (ty:=22) (bytes:=1) (l:=a4) (l':=([IntKind.u8.wrap aE])) (fun a7 aB=>[(0,pb cb0),(6,sv ad3 p1 cap4),(7,iv (ln p1)),(8,iv a0),(29,pb cb0),(38,sv a7 aK aB)]) 1 hF hS rfl kr ⟨kr⟩ kr (hS.arr (i:=0) rfl) (fun _ _=>rfl) aV (fun _ _=>⟨kr⟩) fun a7 aB w a hF hS=>?_)
   refine rn 2 12 [(0,pb cb0),(6,sv ad3 p1 cap4),(7,iv (ln p1)),(8,iv a0),(38,sv a7 aK aB),(40,pb cb0)] hF fun a hF=>?_
   refine SK.wi (qs 22 3 0 (sv a7 aK aB) hF hS rfl fun w a hF hS=>WI.fin rfl (A7<|A4<|?_))
   exact ⟨aK,a7,aB,hF.sub kr,hS.d0,h⟩
  rintro a w ⟨a5,aG,aI,hF,hS,h⟩
  rw [E4] at h
  refine WI.region ?_
  obtain ⟨aT,aX,h⟩:=A0 h
  refine ro 2 2 [(0,pb cb0),(6,sv ad3 p1 cap4),(7,iv (ln p1)),(8,iv aT)] hF (oA 3 aX<|A3) fun a hF=>wfn rfl ?_
  rw [hk1] at h
  exact ⟨nk1,Nat.lt_succ_self _,a5,aT,aG,aI,hF.sub kr,hS,h⟩
 ·refine wpIn_exit (A6<|A6<|Aq<|?_)
  refine H4 hF rfl ?_
  obtain rfl:=Ai h
  replace hS:=hS.s2.s2
  exact ⟨_,rfl,μ,a6,aA,hext,hlow,rfl,hS⟩
theorem Tc (F:Nat) (p0:api_Field) (p1:api_Field) (res:Bool) (h:Pd F p0 p1=some res) (μ:Frz) (w0:World) (hm:FrzAt μ w0) {ad1:Option Addr} {cap2:Nat} {ad4:Option Addr} {cap5:Nat} (hA3:ArrM μ 2 api_Span.cells ad1 cap2 p0.Vals) (hA6:ArrM μ 2 api_Span.cells ad4 cap5 p1.Vals):Calls Tryz.prog 61 #[.agg (p0.ax ad1 cap2),.agg (p1.ax ad4 cap5)] w0 (fun e w=>e=.returned (.bool res)∧Ext w0 w):=by
 obtain ⟨hlow,hS⟩:=hm.init
 have hext:=Frz.ext_refl w0.heap.size μ
 rw [Pd] at h
 refine feW Tryz.func61 38 [(0,.agg (p0.ax ad1 cap2)),(1,.agg (p1.ax ad4 cap5))] hS fun a w hF hS=>?_
 refine esr<|SK.wi (qBa 46 (p0.ax ad1 cap2) (fun b7=>[(2,pb b7)]) hF hS fun b7 w a hF hS=>?_)
 refine SK.wi (qBa 46 (p1.ax ad4 cap5) (fun b8=>[(3,pb b8)]) hF hS fun b8 w a hF hS=>?_)
 refine qn 1 3 [] hF fun a hF=>wfn rfl ?_
 refine Ak<|qoB [(19,.bool (bif (!(((p0.Grid.X:Int)==p1.Grid.X)&&(((p0.Grid.Y:Int)==p1.Grid.Y)&&(((p0.Grid.Size:Int)==p1.Grid.Size)&&(((p0.Grid.Wide:Int)==p1.Grid.Wide)&&(((p0.Grid.High:Int)==p1.Grid.High)&&true)))))) then true else ((ln p0.Vals) != (ln p1.Vals))))] hF (oN 43 1 0 5 hS.i rfl<|oN 43 0 0 5 hS.i rfl<|oX (.run [] (eqS .neq 43 p0.Grid.ar p1.Grid.ar) (.bool (!(((p0.Grid.X:Int)==p1.Grid.X)&&(((p0.Grid.Y:Int)==p1.Grid.Y)&&(((p0.Grid.Size:Int)==p1.Grid.Size)&&(((p0.Grid.Wide:Int)==p1.Grid.Wide)&&(((p0.Grid.High:Int)==p1.Grid.High)&&true)))))))) (P1 kr kr)<|oGs [⟨11,false,(!(((p0.Grid.X:Int)==p1.Grid.X)&&(((p0.Grid.Y:Int)==p1.Grid.Y)&&(((p0.Grid.Size:Int)==p1.Grid.Size)&&(((p0.Grid.Wide:Int)==p1.Grid.Wide)&&(((p0.Grid.High:Int)==p1.Grid.High)&&true))))))⟩] (oL 44 1 5 hS.i rfl rfl<|oL 44 0 5 hS.i rfl rfl<|A3)<|A3) fun a hF=>?_
 refine A8 hF h (fun hc h=>?_) fun hc h=>?_
 ·refine rnB [(4,.bool false)] hF fun a hF=>?_
  refine wpIn_ret (A2<|A9 [.tmp 4] [_] hF rfl ⟨rfl,trivial⟩ ?_)
  obtain rfl:=Ai h
  exact ⟨rfl,hS.ext⟩
 ·refine wK<|D4 (fun a w=>Fr 38 [] [] a∧St w0 [blk b8 46 (p1.ax ad4 cap5),blk b7 46 (p0.ax ad1 cap2),fz w0 μ] w∧Lz=some res) ?_ ?_
  ·skip
   refine qnB [(5,iv 0)] hF fun a hF=>?_
   refine wpIn_block<|Cc (fun n_ a w=>∃(a2:Int),Fr 38 [] [(2,pb b7),(3,pb b8),(5,iv a2)] a∧St w0 [blk b8 46 (p1.ax ad4 cap5),blk b7 46 (p0.ax ad1 cap2),fz w0 μ] w∧Ju p0 p1 n_ a2=some res) F ⟨0,hF.sub kr,St.pick [0,1,2] (by decide) hS,h⟩ ?_
   rintro nk2 a w ⟨a2,hF,hS,h⟩
   rcases nk2 with _|nk2
   ·cases (show (none:Option Bool)=some res from h)
   obtain ⟨k2,hk2⟩:∃k,k=Ju p0 p1 nk2:=⟨_,rfl⟩
   replace h:Ly p0 p1 k2 a2=some res:=by rw [hk2];exact h
   rw [Ly] at h
   refine Ak<|qoB [(24,.bool (decide (a2<(ln p0.Vals))))] hF (oL 44 1 5 hS.i rfl rfl<|A3) fun a hF=>?_
   refine A8 hF h (fun hc h=>?_) fun hc h=>?_
   ·refine wK<|Ak<|wpIn_block<|Ak ?_
    obtain ⟨a0,a3,h⟩:=A0 h
    obtain ⟨a1,a4,h⟩:=A0 h
    refine qD 11 [(37,.bool (!(((a0.Lo:Int)==a1.Lo)&&(((a0.Hi:Int)==a1.Hi)&&true))))] hF (oL 44 1 5 hS.e rfl rfl<|oI 44 (hA3 _ (hS.frz (i:=2) rfl hlow)) a3<|oG 146 0 2 api_Span.cells_len (fun _ hd=>(hA3 _ ((hS.later hd).frz (i:=2) rfl hlow))) a3<|oL 44 0 5 hS.e rfl rfl<|oI 44 (hA6 _ (hS.frz (i:=2) rfl hlow)) a4<|oG 146 0 2 api_Span.cells_len (fun _ hd=>(hA6 _ ((hS.later hd).frz (i:=2) rfl hlow))) a4<|oX (.run [] (eqS .neq 146 #[iv a0.Lo,iv a0.Hi] #[iv a1.Lo,iv a1.Hi]) (.bool (!(((a0.Lo:Int)==a1.Lo)&&(((a0.Hi:Int)==a1.Hi)&&true))))) (P1 kr kr)<|A3) fun a w hF hx=>?_
    replace hS:=hS.later hx
    refine wfn rfl ?_
    refine A8 hF h (fun hc h=>?_) fun hc h=>?_
    ·refine rnB [(4,.bool false)] hF fun a hF=>?_
     refine wpIn_ret (Ab<|A2<|A2<|Ab<|A2<|A9 [.tmp 4] [_] hF rfl ⟨rfl,trivial⟩ ?_)
     obtain rfl:=Ai h
     exact ⟨rfl,hS.ext⟩
    ·refine wpIn_skip (A7<|A4<|?_)
     refine WI.region ?_
     obtain ⟨a5,a6,h⟩:=A0 h
     refine ro 3 3 [(2,pb b7),(3,pb b8),(5,iv a5)] hF (oA 3 a6<|A3) fun a hF=>wfn rfl ?_
     rw [hk2] at h
     exact ⟨nk2,Nat.lt_succ_self _,a5,hF.sub kr,St.pick [0,1,2] (by decide) hS,h⟩
   ·refine wpIn_exit (A6<|A6<|Aq<|A4 ?_)
    exact ⟨hF.sub kr,St.pick [0,1,2] (by decide) hS,h⟩
  rintro a w ⟨hF,hS,h⟩
  rw [Lz] at h
  refine rnB [(4,.bool true)] hF fun a hF=>?_
  refine wpIn_ret (A9 [.tmp 4] [_] hF rfl ⟨rfl,trivial⟩ ?_)
  obtain rfl:=Ai h
  exact ⟨rfl,hS.ext⟩
theorem V0 (F:Nat) (p0:(List Int)) (res:(List Int)) (h:Lt F p0=some res) (μ:Frz) (w0:World) (hm:FrzAt μ w0) {ad1:Option Addr} {cap2:Nat} (hA3:ArrM μ 1 (fK .u8) ad1 cap2 p0):Bd Tryz.prog 74 #[sv ad1 p0 cap2] w0 (fun e w=>∃zad0 zcap0,e=(sv zad0 res zcap0)∧St w0 [arr 5 1 (fK .u8) zad0 res.length zcap0 res] w):=by
 obtain ⟨hlow,hS⟩:=hm.init
 have hext:=Frz.ext_refl w0.heap.size μ
 rw [Lt] at h
 refine feW Tryz.func74 41 [(0,sv ad1 p0 cap2)] hS fun a w hF hS=>?_
 refine qnB [] hF fun a hF=>?_
 refine qnB [(3,iv 1)] hF fun a hF=>?_
 refine D4 (fun a w=>∃(aE:Int),Fr 41 [] [(3,iv aE)] a∧St w0 [fz w0 μ] w∧Ll F aE=some res) ?_ ?_
 ·skip
  refine qnB [(4,iv 0)] hF fun a hF=>?_
  refine wpIn_block<|Cc (fun n_ a w=>∃(aA:Int) (a5:Int),Fr 41 [] [(0,sv ad1 p0 cap2),(3,iv aA),(4,iv a5)] a∧St w0 [fz w0 μ] w∧Hp F p0 n_ aA a5=some res) F ⟨1,0,hF.sub kr,St.pick [0] (by decide) hS,h⟩ ?_
  rintro nk4 a w ⟨aA,a5,hF,hS,h⟩
  rcases nk4 with _|nk4
  ·cases (show (none:Option (List Int))=some res from h)
  obtain ⟨k4,hk4⟩:∃k,k=Hp F p0 nk4:=⟨_,rfl⟩
  replace h:Lk F p0 k4 aA a5=some res:=by rw [hk4];exact h
  rw [Lk] at h
  refine Ak<|qnB [(10,.bool (decide (a5<(ln p0))))] hF fun a hF=>?_
  refine A8 hF h (fun hc h=>?_) fun hc h=>?_
  ·refine wK<|Ak<|wpIn_block<|WI.region ?_
   obtain ⟨b6,aX,h⟩:=A0 h
   obtain ⟨b3,aN,h⟩:=A0 h
   obtain ⟨b4,aY,h⟩:=A0 h
   obtain ⟨b7,aZ,h⟩:=A0 h
   obtain ⟨aJ,b0,h⟩:=A0 h
   refine ro 10 10 [(0,sv ad1 p0 cap2),(3,iv aJ),(4,iv a5)] hF (oM 3 aX<|oI 22 (hA3 _ (hS.frz (i:=0) rfl hlow)) aN<|oE 5 0 (Bs .u8) (fun _ hd=>(hA3 _ ((hS.at_ hd).frz (i:=0) rfl hlow))) aN rfl<|oX (.run [] (convert 5 3 (.int .u8 b3)) (iv b4)) (Sz kr kr (fun _=>aY))<|oA 3 aZ<|oR 3 b0<|A3) fun a hF=>WI.fin rfl (A7<|A4<|?_)
   refine WI.region ?_
   obtain ⟨aQ,b1,h⟩:=A0 h
   refine ro 3 3 [(0,sv ad1 p0 cap2),(3,iv aJ),(4,iv aQ)] hF (oA 3 b1<|A3) fun a hF=>wfn rfl ?_
   rw [hk4] at h
   exact ⟨nk4,Nat.lt_succ_self _,aJ,aQ,hF.sub kr,St.pick [0] (by decide) hS,h⟩
  ·refine wpIn_exit (A6<|A6<|Aq<|A4 ?_)
   exact ⟨aA,hF.sub kr,St.pick [0] (by decide) hS,h⟩
 rintro a w ⟨aE,hF,hS,h⟩
 rw [Ll] at h
 refine qnB [(5,.slice none 0 0)] hF fun a hF=>?_
 refine D4 (fun a w=>∃(aK:Int) (a4:(List Int)) (aB:Option Addr) (aC:Nat),Fr 41 [] [(3,iv aK),(5,sv aB a4 aC)] a∧St w0 [arr 5 1 (fK .u8) aB a4.length aC a4,fz w0 μ] w∧Lm aK a4=some res) ?_ ?_
 ·skip
  refine qnB [(6,iv 0)] hF fun a hF=>?_
  refine wpIn_block ?_
  replace hS:=hS.nilarr 5 1 (fK .u8)
  refine Cc (fun n_ a w=>∃(a6:Int) (a0:(List Int)) (a1:Int) (a7:Option Addr) (a8:Nat),Fr 41 [] [(3,iv a6),(5,sv a7 a0 a8),(6,iv a1)] a∧St w0 [arr 5 1 (fK .u8) a7 a0.length a8 a0,fz w0 μ] w∧Es n_ a6 a0 a1=some res) F ⟨aE,[],0,none,0,hF.sub kr,St.pick [0,1] (by decide) hS,h⟩ ?_
  rintro nk3 a w ⟨a6,a0,a1,a7,a8,hF,hS,h⟩
  rcases nk3 with _|nk3
  ·cases (show (none:Option (List Int))=some res from h)
  obtain ⟨k3,hk3⟩:∃k,k=Es nk3:=⟨_,rfl⟩
  replace h:K4 k3 a6 a0 a1=some res:=by rw [hk3];exact h
  rw [K4] at h
  refine Ak<|qnB [(23,.bool (decide (a1<4)))] hF fun a hF=>?_
  refine A8 hF h (fun hc h=>?_) fun hc h=>?_
  ·refine wK<|Ak<|wpIn_block<|esr ?_
   obtain ⟨b5,aT,h⟩:=A0 h
   obtain ⟨aD,aU,h⟩:=A0 h
   refine qo 5 5 [(26,sv a7 a0 a8),(30,.int .u8 (IntKind.u8.wrap aD))] hF (oR 3 aT<|oA 3 aU<|oX (.run [] (convert 3 5 (iv aD)) (.int .u8 (IntKind.u8.wrap aD))) (Bb kr)<|A3) fun a hF=>?_
   refine SK.wi (qL 5 22 1 [IntKind.u8.wrap aD] (fun aL=>[(31,sb aL 1)]) (Bs .u8) hF hS fun aL w a hF hS=>?_)
   obtain ⟨a9,aR,h⟩:=A0 h
   refine SK.wi (qP 22 22 1 (fun a2 a3=>[(32,sv a2 a9 a3)]) hF hS (hS.arr (i:=0) rfl) aR rfl fun a2 a3 w a hF hS=>?_)
   refine rn 1 8 [(3,iv a6),(5,sv a2 a9 a3),(6,iv a1)] hF fun a hF=>wfn rfl ?_
   refine WI.region ?_
   obtain ⟨aI,aV,h⟩:=A0 h
   refine ro 3 3 [(3,iv aI),(5,sv a2 a9 a3),(6,iv a1)] hF (oQ 3 aV<|A3) fun a hF=>WI.fin rfl (A7<|A4<|?_)
   refine WI.region ?_
   obtain ⟨aP,aW,h⟩:=A0 h
   refine ro 3 3 [(3,iv aI),(5,sv a2 a9 a3),(6,iv aP)] hF (oA 3 aW<|A3) fun a hF=>wfn rfl ?_
   rw [hk3] at h
   exact ⟨nk3,Nat.lt_succ_self _,aI,a9,aP,a2,a3,hF.sub kr,St.pick [1,2] (by decide) hS,h⟩
  ·refine wpIn_exit (A6<|A6<|Aq<|A4 ?_)
   exact ⟨a6,a0,a7,a8,hF.sub kr,St.pick [0,1] (by decide) hS,h⟩
 rintro a w ⟨aK,a4,aB,aC,hF,hS,h⟩
 rw [Lm] at h
 refine esr ?_
 obtain ⟨aF,b2,h⟩:=A0 h
 refine ro 4 4 [(35,sv aB a4 aC),(38,.int .u8 (IntKind.u8.wrap aF))] hF (oA 3 b2<|oX (.run [] (convert 3 5 (iv aF)) (.int .u8 (IntKind.u8.wrap aF))) (Bb kr)<|A3) fun a hF=>?_
 refine SK.wi (qL 5 22 1 [IntKind.u8.wrap aF] (fun aM=>[(39,sb aM 1)]) (Bs .u8) hF hS fun aM w a hF hS=>?_)
 obtain ⟨aO,aS,h⟩:=A0 h
 refine SK.wi (qP 22 22 1 (fun aG aH=>[(40,sv aG aO aH)]) hF hS (hS.arr (i:=0) rfl) aS rfl fun aG aH w a hF hS=>?_)
 refine rn 1 7 [(2,sv aG aO aH)] hF fun a hF=>wfn rfl ?_
 refine wpIn_ret (A9 [.tmp 2] [_] hF rfl ⟨rfl,trivial⟩ ?_)
 obtain rfl:=Ai h
 exact ⟨_,rfl,_,_,rfl,St.pick [1] (by decide) hS⟩
theorem An:∀(F:Nat) (p0:Int) (res:(List Int)) (h:Ag F p0=some res) (μ:Frz) (w0:World) (hm:FrzAt μ w0),Bd Tryz.prog 78 #[iv p0] w0 (fun e w=>∃zad0 zcap0,e=(sv zad0 res zcap0)∧St w0 [arr 5 1 (fK .u8) zad0 res.length zcap0 res] w):=by
 intro F
 induction F with
 | zero =>
  intro p0 res h
  cases (show (none:Option (List Int))=some res from h)
 | succ F ih =>
  intro p0 res h μ w0 hm 
  obtain ⟨hlow,hS⟩:=hm.init
  have hext:=Frz.ext_refl w0.heap.size μ
  replace h:K2 (Ag F) p0=some res:=h
  obtain ⟨self_,hself⟩:∃s,s=Ag F:=⟨_,rfl⟩
  rw [←hself,K2] at h
  refine feW Tryz.func78 18 [(0,iv p0)] hS fun a w hF hS=>?_
  refine qnB [] hF fun a hF=>?_
  refine Ak<|qnB [(4,.bool (decide (p0<127)))] hF fun a hF=>?_
  refine A8 hF h (fun hc h=>?_) fun hc h=>?_
  ·refine esr ?_
   obtain ⟨x1,hx1,h⟩:=A0 h
   refine ro 3 3 [(7,.int .u8 (IntKind.u8.wrap x1))] hF (oA 3 hx1<|oX (.run [] (convert 3 5 (iv x1)) (.int .u8 (IntKind.u8.wrap x1))) (Bb kr)<|A3) fun a hF=>?_
   refine SK.wi (qL 5 22 1 [IntKind.u8.wrap x1] (fun b2=>[(8,sb b2 1)]) (Bs .u8) hF hS fun b2 w a hF hS=>?_)
   refine rn 1 5 [(2,sb b2 1)] hF fun a hF=>wfn rfl ?_
   refine wpIn_ret (A2<|A9 [.tmp 2] [_] hF rfl ⟨rfl,trivial⟩ ?_)
   obtain rfl:=Ai h
   exact ⟨_,rfl,_,_,rfl,St.pick [0] (by decide) hS⟩
  ·refine wK<|esr ?_
   obtain ⟨x3,hx3,h⟩:=A0 h
   obtain ⟨x4,hx4,h⟩:=A0 h
   refine qo 4 4 [(12,.int .u8 (IntKind.u8.wrap x4))] hF (oR 3 hx3<|oA 3 hx4<|oX (.run [] (convert 3 5 (iv x4)) (.int .u8 (IntKind.u8.wrap x4))) (Bb kr)<|A3) fun a hF=>?_
   refine SK.wi (qL 5 22 1 [IntKind.u8.wrap x4] (fun b5=>[(13,sb b5 1)]) (Bs .u8) hF hS fun b5 w a hF hS=>?_)
   obtain ⟨x6,hx6,h⟩:=A0 h
   refine qo 2 7 [(15,iv x6)] hF (oQ 3 hx6<|A3) fun a hF=>?_
   obtain ⟨y8,hy8,h⟩:=A0 h
   refine SK.wi (qR (fun v7=>[(16,v7)]) hF (ih _ _ (by rw [←hself];exact hy8) (Av w) w (A1 w)) ?_)
   rintro v7 w a ⟨ad9,a4,rfl,hQ⟩ hF
   replace hS:=hS.madeL hQ
   obtain ⟨a2,a3,h⟩:=A0 h
   refine SK.wi (qP 22 22 1 (fun a0 a1=>[(17,sv a0 a2 a1)]) hF hS (hS.arr (i:=0) rfl) a3 rfl fun a0 a1 w a hF hS=>?_)
   refine rn 1 10 [(2,sv a0 a2 a1)] hF fun a hF=>wfn rfl ?_
   refine wpIn_ret (A9 [.tmp 2] [_] hF rfl ⟨rfl,trivial⟩ ?_)
   obtain rfl:=Ai h
   exact ⟨_,rfl,_,_,rfl,St.pick [1] (by decide) hS⟩
end Go.Proofs.YtifbomimeodibaaGreat
