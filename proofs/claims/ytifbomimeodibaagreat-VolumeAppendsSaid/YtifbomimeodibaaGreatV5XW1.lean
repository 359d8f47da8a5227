import Derived.Test.YtifbomimeodibaaGreatV5XD
import Derived.Test.YtifbomimeodibaaGreatProg
import Derived.Test.YtifbomimeodibaaGreatV5WnB
namespace Go.Proofs.YtifbomimeodibaaGreat
open Go Go.RowKit Go.Eng
set_option maxRecDepth 10000
set_option maxHeartbeats 4000000
set_option linter.unusedVariables false
set_option linter.unusedSimpArgs false
theorem P5 {σ γ:Type} (F:Nat) (c0_:(List Int)) (body:σ→(Int×(List Int))→Option (σ×Bool)) (s_:σ) (res:σ×Bool) (h:G1 F c0_ body s_=some res) (l_:Nat) (μ:Frz) (w0 w1:World) (RC:σ→Bool→γ→List Res) (PC:σ→Bool→γ→Frz→Prop) (hPm:∀s b g μ ν,PC s b g μ→μ.le ν→PC s b g ν) (hy:∀(s:σ) (x:(Int×(List Int))) (q:σ×Bool),body s x=some q→∀(ν:Frz) (g:γ) (G:List Res) (w:World) (ad_1:Option Addr) (cap_2:Nat),μ.ext w0.heap.size ν→Ax w0 ν→PC s true g ν→ArrM ν 1 (fK .u8) ad_1 cap_2 x.2→St w0 (fz w0 ν::(RC s true g++G)) w→Eng.Yields Tryz.prog l_ #[iv x.1,sv ad_1 x.2 cap_2] w (fun c w2=>c=q.2∧∃ν2 g2,ν.ext w0.heap.size ν2∧Ax w0 ν2∧PC q.1 q.2 g2 ν2∧St w0 (fz w0 ν2::(RC q.1 q.2 g2++G)) w2)) (g_:γ) (G_:List Res) (hlow:Ax w0 μ) (hP:PC s_ true g_ μ) (hS:St w0 (fz w0 μ::(RC s_ true g_++G_)) w1) {cb1:Nat} {ad1:Option Addr} {cap2:Nat} (hcb1:BlkM μ cb1 22 #[sv ad1 c0_ cap2]) (hA3:ArrM μ 1 (fK .u8) ad1 cap2 c0_):Calls Tryz.prog 65 #[.func (.yield l_) #[] #[],pb cb1] w1 (fun e w=>∃(ν_:Frz) (g2_:γ),μ.ext w0.heap.size ν_∧Ax w0 ν_∧PC res.1 res.2 g2_ ν_∧e=.returned (.tuple #[])∧St w0 (fz w0 ν_::(RC res.1 res.2 g2_++G_)) w):=by
 rw [G1] at h
 have hext:=Frz.ext_refl w0.heap.size μ
 refine feW Tryz.func65 45 [(0,.func (.yield l_) #[] #[]),(1,pb cb1)] hS fun a w hF hS=>?_
 refine esr<|qx 3 3 [(3,iv (Bi c0_ 0))] hF (oX (.run [] (Instr.loadAt 22 (pb cb1)) (sv ad1 c0_ cap2)) (ob1 kr (fun _ hd=>(hcb1.blk ((hS.later hd).frz (i:=0) rfl hlow)).cell1 (j:=0) rfl))<|oC (fun w2 hd=>Na c0_ 0 _ rfl _ w2 (A4 w2) (hA3.mono (FrzAt.le_mem ((hS.later hd).frz (i:=0) rfl hlow))))<|A1) fun a w hF hx=>?_
 replace hS:=hS.later hx
 refine wfn rfl ?_
 refine wpIn_block ?_
 have aL:=Frz.le_refl μ
 refine Ck (fun n_ a w=>∃(a0:Int) (a7:σ) (ν55:Frz) (a8:γ),Fr 45 [] [(0,.func (.yield l_) #[] #[]),(1,pb cb1),(3,iv a0)] a∧St w0 (fz w0 ν55::(RC a7 true a8++G_)) w∧(PC a7 true a8 ν55)∧(μ.le ν55)∧(μ.ext w0.heap.size ν55)∧(Ax w0 ν55)∧Ed body c0_ n_ a0 a7=some res) F ⟨(Bi c0_ 0),s_,μ,g_,hF.sub kr,hS,hP,aL,hext,hlow,h⟩ ?_
 clear aL
 rintro nk1 a w ⟨a0,a7,ν55,a8,hF,hS,hP,a5,hext,hlow,h⟩
 rcases nk1 with _|nk1
 ·cases (show (none:Option (σ×Bool))=some res from h)
 replace hcb1:=hcb1.mono a5
 replace hA3:=hA3.mono a5
 obtain ⟨k1,hk1⟩:∃k,k=Ed body c0_ nk1:=⟨_,rfl⟩
 replace h:Gk body c0_ k1 a0 a7=some res:=by rw [hk1];exact h
 rw [Gk] at h
 refine Am<|qoB [(14,.bool (bif (decide (a0≥0)) then (decide (a0<(ln c0_))) else false))] hF (oGs [⟨9,true,(decide (a0≥0))⟩] (oX (.run [] (Instr.loadAt 22 (pb cb1)) (sv ad1 c0_ cap2)) (ob1 kr (fun _ hd=>(hcb1.blk ((hS.at_ hd).frz (i:=0) rfl hlow)).cell1 (j:=0) rfl))<|A1)<|A1) fun a hF=>?_
 refine A8 hF h (fun hc h=>?_) fun hc h=>?_
 ·refine wK<|wpIn_block<|esr ?_
  obtain ⟨aI,aS,h⟩:=A0 h
  obtain ⟨a3,aM,h⟩:=A0 h
  have aE:ArrM ν55 1 (fK .u8) (Al ad1 cap2 aI.toNat 1) (cap2-aI.toNat) a3:=fun w_ hw_=>(hA3 w_ hw_).cutD (B8 .u8) aM
  refine qx 6 6 [(4,iv (Bi a3 0))] hF (oX (.run [] (Instr.loadAt 22 (pb cb1)) (sv ad1 c0_ cap2)) (ob1 kr (fun _ hd=>(hcb1.blk ((hS.later hd).frz (i:=0) rfl hlow)).cell1 (j:=0) rfl))<|oA 3 aS<|oX (.run [] (Instr.sliceAt 22 (sv ad1 c0_ cap2) (some (iv aI)) none none) (.slice (Al ad1 cap2 aI.toNat 1) a3.length (cap2-aI.toNat))) (Lv kr (hA3 _ (hS.frz (i:=0) rfl hlow)) (fun _=>aM))<|oC (fun w2 hd=>Na a3 0 _ rfl _ w2 (A4 w2) (aE.mono (FrzAt.le_mem ((hS.later hd).frz (i:=0) rfl hlow))))<|A1) fun a w hF hx=>?_
  replace hS:=hS.later hx
  refine wfn rfl ?_
  refine Am<|qnB [(21,.bool (decide ((Bi a3 0)<0)))] hF fun a hF=>?_
  refine A8 hF h (fun hc h=>?_) fun hc h=>?_
  ·refine esr ?_
   obtain ⟨a1,aT,h⟩:=A0 h
   obtain ⟨aG,aN,h⟩:=A0 h
   have aJ:ArrM ν55 1 (fK .u8) (Al ad1 cap2 a1.toNat 1) (cap2-a1.toNat) aG:=fun w_ hw_=>(hA3 w_ hw_).cutD (B8 .u8) aN
   refine ro 6 6 [(22,.func (.yield l_) #[] #[]),(23,iv a0),(27,.slice (Al ad1 cap2 a1.toNat 1) aG.length (cap2-a1.toNat))] hF (oX (.run [] (Instr.loadAt 22 (pb cb1)) (sv ad1 c0_ cap2)) (ob1 kr (fun _ hd=>(hcb1.blk ((hS.at_ hd).frz (i:=0) rfl hlow)).cell1 (j:=0) rfl))<|oA 3 aT<|oX (.run [] (Instr.sliceAt 22 (sv ad1 c0_ cap2) (some (iv a1)) none none) (.slice (Al ad1 cap2 a1.toNat 1) aG.length (cap2-a1.toNat))) (Lv kr (hA3 _ (hS.frz (i:=0) rfl hlow)) (fun _=>aN))<|A1) fun a hF=>?_
   obtain ⟨aB,aQ,h⟩:=A0 h
   refine A2n (l:=l_) (args:=#[iv a0,.slice (Al ad1 cap2 a1.toNat 1) aG.length (cap2-a1.toNat)]) 7 (fun bq_=>[]) hF kr ⟨kr⟩ (hy a7 (a0,aG) aB aQ ν55 a8 (G_++[]) w (Al ad1 cap2 a1.toNat 1) (cap2-a1.toNat) hext hlow hP aJ (St.rot [] hS)) (fun _=>⟨kr⟩) rfl ?_
   rintro bq_ w a ⟨hc_,ν68,aC,a9,hlow,hP,hS⟩ hF
   subst hc_
   replace hS:=St.unrot [] hS
   replace hext:=hext.t a9
   replace hcb1:=hcb1.mono a9.1
   replace hA3:=hA3.mono a9.1
   replace aE:=aE.mono a9.1
   replace aJ:=aJ.mono a9.1
   replace a5:=a5.t a9.1
   replace hS:St w0 (fz w0 ν68::(RC aB.1 (aB.2) aC++G_)) w:=hS
   rcases Bool.eq_false_or_eq_true (aB.2) with aF|aF
   ·replace h:=Gx h aF
    rw [aF] at hS hP
    replace hS:St w0 (fz w0 ν68::(RC aB.1 true aC++G_)) w:=hS
    refine wfn rfl ?_
    refine wpIn_ret (A2<|Ab<|A2<|Ab<|A7 [] [] hF rfl trivial ?_)
    obtain rfl:=Ae h
    exact ⟨ν68,aC,hext,hlow,hP,rfl,hS⟩
   ·replace h:=Gw h aF
    rw [aF] at hS hP
    replace hS:St w0 (fz w0 ν68::(RC aB.1 false aC++G_)) w:=hS
    refine wfn rfl ?_
    refine wpIn_ret (A2<|Ab<|A2<|Ab<|A7 [] [] hF rfl trivial ?_)
    obtain rfl:=Ae h
    exact ⟨ν68,aC,hext,hlow,hP,rfl,hS⟩
  ·refine wK<|Am<|esr ?_
   obtain ⟨a2,aU,h⟩:=A0 h
   obtain ⟨b0,aV,h⟩:=A0 h
   obtain ⟨aZ,aW,h⟩:=A0 h
   obtain ⟨aH,aO,h⟩:=A0 h
   have aK:ArrM ν55 1 (fK .u8) (Al ad1 cap2 a2.toNat 1) (cap2-a2.toNat) aH:=fun w_ hw_=>(hA3 w_ hw_).cutD (B8 .u8) aO
   refine qo 10 10 [(29,.func (.yield l_) #[] #[]),(30,iv a0),(38,.slice (Al ad1 cap2 a2.toNat 1) aH.length (cap2-a2.toNat))] hF (oX (.run [] (Instr.loadAt 22 (pb cb1)) (sv ad1 c0_ cap2)) (ob1 kr (fun _ hd=>(hcb1.blk ((hS.at_ hd).frz (i:=0) rfl hlow)).cell1 (j:=0) rfl))<|oA 3 aU<|oA 3 aV<|oA 3 aW<|oX (.run [] (Instr.sliceAt 22 (sv ad1 c0_ cap2) (some (iv a2)) (some (iv aZ)) none) (.slice (Al ad1 cap2 a2.toNat 1) aH.length (cap2-a2.toNat))) (Uw kr (hA3 _ (hS.frz (i:=0) rfl hlow)) (fun _=>aO))<|A1) fun a hF=>?_
   obtain ⟨a6,aR,h⟩:=A0 h
   refine A2n (l:=l_) (args:=#[iv a0,.slice (Al ad1 cap2 a2.toNat 1) aH.length (cap2-a2.toNat)]) 11 (fun bq_=>[(0,.func (.yield l_) #[] #[]),(1,pb cb1),(3,iv a0),(4,iv (Bi a3 0)),(39,.bool bq_)]) hF kr ⟨kr⟩ (hy a7 (a0,aH) a6 aR ν55 a8 (G_++[]) w (Al ad1 cap2 a2.toNat 1) (cap2-a2.toNat) hext hlow hP aK (St.rot [] hS)) (fun _=>⟨kr⟩) rfl ?_
   rintro bq_ w a ⟨hc_,ν78,aD,aA,hlow,hP,hS⟩ hF
   subst hc_
   replace hS:=St.unrot [] hS
   replace hext:=hext.t aA
   replace hcb1:=hcb1.mono aA.1
   replace hA3:=hA3.mono aA.1
   replace aE:=aE.mono aA.1
   replace aK:=aK.mono aA.1
   replace a5:=a5.t aA.1
   replace hS:St w0 (fz w0 ν78::(RC a6.1 (a6.2) aD++G_)) w:=hS
   rcases Bool.eq_false_or_eq_true (a6.2) with a4|a4
   ·replace h:=Gx h a4
    rw [a4] at hS hP
    rw [a4] at hF
    replace hS:St w0 (fz w0 ν78::(RC a6.1 true aD++G_)) w:=hS
    refine rn 1 12 [(0,.func (.yield l_) #[] #[]),(1,pb cb1),(3,iv a0),(4,iv (Bi a3 0)),(40,.bool false)] hF fun a hF=>wfn rfl ?_
    refine wpIn_cond_false (hF.get rfl) ?_
    refine wK<|WI.region ?_
    obtain ⟨b1,aX,h⟩:=A0 h
    obtain ⟨aP,aY,h⟩:=A0 h
    refine ro 5 5 [(0,.func (.yield l_) #[] #[]),(1,pb cb1),(3,iv aP)] hF (oA 3 aX<|oA 3 aY<|A1) fun a hF=>WI.fin rfl (A9<|A3<|?_)
    rw [hk1] at h
    exact ⟨nk1,Nat.lt_succ_self _,aP,a6.1,ν78,aD,hF.sub kr,hS,hP,a5,hext,hlow,h⟩
   ·replace h:=Gw h a4
    rw [a4] at hS hP
    rw [a4] at hF
    replace hS:St w0 (fz w0 ν78::(RC a6.1 false aD++G_)) w:=hS
    refine rn 1 12 [(0,.func (.yield l_) #[] #[]),(1,pb cb1),(3,iv a0),(4,iv (Bi a3 0)),(40,.bool true)] hF fun a hF=>wfn rfl ?_
    refine wpIn_cond_true (hF.get rfl) ?_
    refine wpIn_ret (A2<|Ab<|A2<|Ab<|A7 [] [] hF rfl trivial ?_)
    obtain rfl:=Ae h
    exact ⟨ν78,aD,hext,hlow,hP,rfl,hS⟩
 ·refine wpIn_exit (A5<|A5<|Ar<|?_)
  refine Jr hF rfl ?_
  obtain rfl:=Ae h
  exact ⟨ν55,a8,hext,hlow,hP,rfl,hS⟩
theorem S6 (F:Nat) (p0:(List Int)) (res:(List Int)) (h:Kw F p0=some res) (μ:Frz) (w0:World) (hm:FrzAt μ w0) {ad1:Option Addr} {cap2:Nat} (hA3:ArrM μ 1 (fK .u8) ad1 cap2 p0):Ba Tryz.prog 68 #[sv ad1 p0 cap2] w0 (fun e w=>∃zad0 zcap0,e=(sv zad0 res zcap0)∧St w0 [arr 5 1 (fK .u8) zad0 res.length zcap0 res] w):=by
 obtain ⟨hlow,hS⟩:=hm.init
 have hext:=Frz.ext_refl w0.heap.size μ
 rw [Kw] at h
 refine feW Tryz.func68 43 [(0,sv ad1 p0 cap2)] hS fun a w hF hS=>?_
 refine qnB [] hF fun a hF=>?_
 refine qnB [(3,iv 1)] hF fun a hF=>?_
 refine Dx (fun a w=>∃(a9:Int),Fr 43 [] [(3,iv a9)] a∧St w0 [fz w0 μ] w∧Mf F a9=some res) ?_ ?_
 ·skip
  refine qnB [(8,sv ad1 p0 cap2),(9,iv (ln p0)),(10,iv 0)] hF fun a hF=>?_
  refine wpIn_block<|Ck (fun n_ a w=>∃(a8:Int) (aC:Int),Fr 43 [] [(3,iv aC),(8,sv ad1 p0 cap2),(9,iv (ln p0)),(10,iv a8)] a∧St w0 [fz w0 μ] w∧Jn F p0 n_ a8 aC=some res) F ⟨0,1,hF.sub kr,St.pick [0] (by decide) hS,h⟩ ?_
  rintro nk4 a w ⟨a8,aC,hF,hS,h⟩
  rcases nk4 with _|nk4
  ·cases (show (none:Option (List Int))=some res from h)
  obtain ⟨k4,hk4⟩:∃k,k=Jn F p0 nk4:=⟨_,rfl⟩
  replace h:Me F p0 k4 a8 aC=some res:=by rw [hk4];exact h
  rw [Me] at h
  refine qnB [(11,.bool (decide (a8<(ln p0))))] hF fun a hF=>?_
  refine Am<|A8 hF h (fun hc h=>?_) fun hc h=>?_
  ·refine wK<|Am<|wpIn_block<|esr ?_
   obtain ⟨aN,aJ,h⟩:=A0 h
   refine qo 3 3 [(5,.int .u8 aN)] hF (oI 22 (hA3 _ (hS.frz (i:=0) rfl hlow)) aJ<|oE 5 0 (B8 .u8) (fun _ hd=>(hA3 _ ((hS.at_ hd).frz (i:=0) rfl hlow))) aJ rfl<|A1) fun a hF=>wfn rfl ?_
   refine WI.region ?_
   obtain ⟨b6,aT,h⟩:=A0 h
   obtain ⟨b5,aU,h⟩:=A0 h
   obtain ⟨b7,aV,h⟩:=A0 h
   obtain ⟨aH,aW,h⟩:=A0 h
   refine ro 7 7 [(3,iv aH),(8,sv ad1 p0 cap2),(9,iv (ln p0)),(10,iv a8)] hF (oM 3 aT<|oX (.run [] (convert 5 3 (.int .u8 aN)) (iv b5)) (T9 kr kr (fun _=>aU))<|oA 3 aV<|oR 3 aW<|A1) fun a hF=>WI.fin rfl (A9<|A3<|?_)
   refine WI.region ?_
   obtain ⟨aO,aX,h⟩:=A0 h
   refine ro 2 2 [(3,iv aH),(8,sv ad1 p0 cap2),(9,iv (ln p0)),(10,iv aO)] hF (oA 3 aX<|A1) fun a hF=>wfn rfl ?_
   rw [hk4] at h
   exact ⟨nk4,Nat.lt_succ_self _,aO,aH,hF.sub kr,St.pick [0] (by decide) hS,h⟩
  ·refine wpIn_exit (A5<|A5<|Ar<|A3 ?_)
   exact ⟨aC,hF.sub kr,St.pick [0] (by decide) hS,h⟩
 rintro a w ⟨a9,hF,hS,h⟩
 rw [Mf] at h
 refine esr ?_
 obtain ⟨a4,aQ,h⟩:=A0 h
 refine SK.wi (A5x (e:=5) (sz:=1) (f:=(fK .u8)) (z:=.int .u8 0) (t:=22) (bytes:=1) (fun aF=>[(3,iv a9),(21,.slice (some ⟨aF,0,none⟩) a4.length a4.length)]) 0 hF hS kr ⟨kr⟩ kr kr rfl aQ (fun _=>⟨kr⟩) fun aF w a hF hS=>?_)
 refine rn 1 2 [(3,iv a9),(6,.slice (some ⟨aF,0,none⟩) a4.length a4.length)] hF fun a hF=>wfn rfl ?_
 refine Dx (fun a w=>∃(a7:(List Int)) (a6:Option Addr) (aA:Nat),Fr 43 [] [(6,sv a6 a7 aA)] a∧St w0 [arr 5 1 (fK .u8) a6 a7.length aA a7,fz w0 μ] w∧Mg a7=some res) ?_ ?_
 ·skip
  refine qnB [(23,iv (ln a4)),(24,iv 0)] hF fun a hF=>?_
  refine wpIn_block<|Ck (fun n_ a w=>∃(a2:Int) (a0:Int) (aD:Int) (a5:(List Int)) (a1:Option Addr) (a3:Nat),Fr 43 [] [(3,iv aD),(6,sv a1 a5 a3),(23,iv a2),(24,iv a0)] a∧St w0 [arr 5 1 (fK .u8) a1 a5.length a3 a5,fz w0 μ] w∧Fi n_ a2 a0 aD a5=some res) F ⟨(ln a4),0,a9,a4,(some ⟨aF,0,none⟩),a4.length,hF.sub kr,St.pick [0,1] (by decide) hS,h⟩ ?_
  rintro nk3 a w ⟨a2,a0,aD,a5,a1,a3,hF,hS,h⟩
  rcases nk3 with _|nk3
  ·cases (show (none:Option (List Int))=some res from h)
  obtain ⟨k3,hk3⟩:∃k,k=Fi nk3:=⟨_,rfl⟩
  replace h:Kl k3 a2 a0 aD a5=some res:=by rw [hk3];exact h
  rw [Kl] at h
  refine qnB [(25,.bool (decide (a0<a2)))] hF fun a hF=>?_
  refine Am<|A8 hF h (fun hc h=>?_) fun hc h=>?_
  ·refine wK<|Am<|wpIn_block<|qnB [(7,iv a0)] hF fun a hF=>?_
   refine esr ?_
   obtain ⟨b8,aY,h⟩:=A0 h
   obtain ⟨aE,aZ,h⟩:=A0 h
   obtain ⟨b4,aM,h⟩:=A0 h
   refine qo 7 7 [(32,.int .u8 (IntKind.u8.wrap aE)),(33,.pointer (some (Bl a1 a0 1)))] hF (oR 3 aY<|oA 3 aZ<|oX (.run [] (convert 3 5 (iv aE)) (.int .u8 (IntKind.u8.wrap aE))) (Bm kr)<|oI 22 (hS.arr (i:=0) rfl) aM<|A1) fun a hF=>?_
   obtain ⟨aG,aS,h⟩:=A0 h
   refine SK.wi (A6h (j:=a0) (t:=5) [(3,iv aD),(6,sv a1 a5 a3),(23,iv a2),(24,iv a0)] 0 0 b4 (IntKind.u8.wrap aE) (.int .u8 (IntKind.u8.wrap aE)) hF hS rfl kr ⟨kr⟩ (B8 .u8) aM rfl kr kr kr aS ⟨kr⟩ fun w a hF hl hS=>?_)
   simp only [sv,ln,hl] at hF hS
   refine wfn rfl ?_
   refine WI.region ?_
   obtain ⟨aI,b0,h⟩:=A0 h
   refine ro 3 3 [(3,iv aI),(6,sv a1 aG a3),(23,iv a2),(24,iv a0)] hF (oQ 3 b0<|A1) fun a hF=>WI.fin rfl (A9<|A3<|?_)
   refine WI.region ?_
   obtain ⟨aP,b1,h⟩:=A0 h
   refine ro 2 2 [(3,iv aI),(6,sv a1 aG a3),(23,iv a2),(24,iv aP)] hF (oA 3 b1<|A1) fun a hF=>wfn rfl ?_
   rw [hk3] at h
   exact ⟨nk3,Nat.lt_succ_self _,a2,aP,aI,aG,a1,a3,hF.sub kr,St.pick [0,1] (by decide) hS,h⟩
  ·refine wpIn_exit (A5<|A5<|Ar<|A3 ?_)
   exact ⟨a5,a1,a3,hF.sub kr,St.pick [0,1] (by decide) hS,h⟩
 rintro a w ⟨a7,a6,aA,hF,hS,h⟩
 rw [Mg] at h
 refine esr ?_
 obtain ⟨aB,aK,h⟩:=A0 h
 obtain ⟨b3,aL,h⟩:=A0 h
 refine qo 5 5 [(40,.int .u8 (IntKind.u8.wrap (aB-127))),(41,.pointer (some (Bl a6 4 1)))] hF (oI 22 (hS.arr (i:=0) rfl) aK<|oE 5 0 (B8 .u8) (fun _ hd=>((hS.at_ hd).arr (i:=0) rfl)) aK rfl<|oX (.run [] (binOp .sub 5 (.int .u8 aB) (.int .u8 127)) (.int .u8 (IntKind.u8.wrap (aB-127)))) (obW kr)<|oI 22 (hS.arr (i:=0) rfl) aL<|A1) fun a hF=>?_
 obtain ⟨b2,aR,h⟩:=A0 h
 refine SK.wi (A6h (j:=4) (t:=5) [(6,sv a6 a7 aA)] 0 0 b3 (IntKind.u8.wrap (aB-127)) (.int .u8 (IntKind.u8.wrap (aB-127))) hF hS rfl kr ⟨kr⟩ (B8 .u8) aL rfl kr kr kr aR ⟨kr⟩ fun w a hF hl hS=>?_)
 simp only [sv,ln,hl] at hF hS
 refine wfn rfl ?_
 refine rnB [(2,sv a6 b2 aA)] hF fun a hF=>?_
 refine wpIn_ret (A7 [.tmp 2] [_] hF rfl ⟨rfl,trivial⟩ ?_)
 obtain rfl:=Ae h
 exact ⟨_,rfl,_,_,rfl,St.pick [0] (by decide) hS⟩
theorem P6 (x0:Value) (x1:Int) {b0 b1:Nat} {w0 w:World} {H:List Res} (hS:St w0 (blk b0 80 #[x0]::blk b1 25 #[iv x1]::H) w):CallsDIn (F0 none) 0 Tryz.prog 69 #[pb b0,pb b1] .returning w (fun e u_ w=>e=.returned (.tuple #[])∧settle u_=.returning∧St w0 (blk b0 80 #[x0]::blk b1 25 #[iv x1]::H) w):=by
 refine L3 Tryz.func69 rfl 11 [(0,pb b0),(1,pb b1)] [(0,pb b0),(1,pb b1),(5,.nilIface)] rfl rfl kr kr ⟨kr⟩ ⟨kr⟩ fun a hF=>?_
 refine rn 6 7 [(0,pb b0),(1,pb b1),(2,iv 0),(3,.bool false)] hF fun a hF=>?_
 refine wfn rfl ?_
 refine esr ?_
 refine rn 1 1 [(0,pb b0),(1,pb b1),(2,iv 0),(9,.bool false)] hF fun a hF=>?_
 refine wfn rfl ?_
 refine wpIn_cond_false (hF.get rfl) ?_
 refine wpIn_skip ?_
 refine Jr hF rfl ?_
 exact ⟨rfl,rfl,hS⟩
theorem P7 (x0:Value) (x1:Int) (z_:Int) {b0 b1:Nat} {w0 w:World} {H:List Res} (hS:St w0 (blk b0 80 #[x0]::blk b1 25 #[iv x1]::H) w):CallsDIn (F0 none) 0 Tryz.prog 69 #[pb b0,pb b1] (.panicking [{ v:=.iface 128 (iv z_),recovered:=false }]) w (fun e u_ w=>e=.returned (.tuple #[])∧settle u_=.returning∧St w0 (blk b0 80 #[.nilIface]::blk b1 25 #[iv z_]::H) w):=by
 refine L3 Tryz.func69 rfl 11 [(0,pb b0),(1,pb b1)] [(0,pb b0),(1,pb b1),(5,.iface 128 (iv z_))] rfl rfl kr kr ⟨kr⟩ ⟨kr⟩ fun a hF=>?_
 refine rn 6 7 [(0,pb b0),(1,pb b1),(2,iv z_),(3,.bool true)] hF fun a hF=>?_
 refine wfn rfl ?_
 refine esr ?_
 refine rn 1 1 [(0,pb b0),(1,pb b1),(2,iv z_),(9,.bool true)] hF fun a hF=>?_
 refine wfn rfl ?_
 refine wpIn_cond_true (hF.get rfl) ?_
 refine WI.region ?_
 refine rn 1 1 [(0,pb b0),(1,pb b1),(10,iv z_)] hF fun a hF=>?_
 refine SK.wi (Pj (t:=80) [(1,pb b1),(10,iv z_)] 0 0 (.nilIface) #[.nilIface] hF hS rfl kr ⟨kr⟩ kr kr kr kr ⟨kr⟩ fun w a hF hS=>?_)
 refine SK.wi (Pj (t:=25) [] 1 0 (iv z_) #[iv z_] hF hS rfl kr ⟨kr⟩ kr kr kr kr ⟨kr⟩ fun w a hF hS=>?_)
 refine WI.fin rfl ?_
 refine Jr hF rfl ?_
 exact ⟨rfl,rfl,hS⟩
theorem P4 (F:Nat) (p0:Int) (res:Except Value Unit) (h:Hv F p0=some res) (μ:Frz) (w0:World) (hm:FrzAt μ w0):A0t Tryz.prog 71 #[iv p0] w0 res (fun r_ e w=>e=(.tuple #[])∧Ext w0 w) (Ext w0):=by
 obtain ⟨hlow,hS⟩:=hm.init
 have hext:=Frz.ext_refl w0.heap.size μ
 rw [Hv] at h
 refine feW Tryz.func71 5 [(0,iv p0)] hS fun a w hF hS=>?_
 refine rnB [(3,.bool (p0 != 0))] hF fun a hF=>?_
 refine A8 hF h (fun hc h=>?_) fun hc h=>?_
 ·refine WI.region<|rn 1 1 [(4,.iface 128 (iv 7))] hF fun a hF=>?_
  refine Qa (t:=128) (v:=iv 7) hF ⟨kr⟩ (Az hF ?_)
  obtain rfl:=Ae h
  exact .inr ⟨_,rfl,rfl,hS.ext⟩
 ·refine wpIn_skip ?_
  refine Jr hF rfl ?_
  obtain rfl:=Ae h
  exact .inl ⟨_,_,rfl,rfl,rfl,hS.ext⟩
theorem As (F:Nat) (p0:volume_writer) (p1:(List Int)) (res:volume_writer) (h:Ao F p0 p1=some res) (μ:Frz) (w0 w1:World) (T_:List Res) (hlow:Ax w0 μ) {cb0:Nat} {ad1:Option Addr} {cap2:Nat} {ad3:Option Addr} {cap4:Nat} (hA5:ArrM μ 1 fI ad3 cap4 p1) (hS:St w0 (fz w0 μ::blk cb0 138 #[sv ad1 p0.b cap2]::arrT 5 1 (fK .u8) ad1 p0.b.length cap2 p0.b::T_) w1):Ba Tryz.prog 76 #[pb cb0,sv ad3 p1 cap4] w1 (fun e w=>∃(ν_:Frz) (aN:Option Addr) (aQ:Nat),μ.ext w0.heap.size ν_∧Ax w0 ν_∧e=(.tuple #[])∧St w0 (fz w0 ν_::blk cb0 138 #[sv aN res.b aQ]::arrT 5 1 (fK .u8) aN res.b.length aQ res.b::T_) w):=by
 rw [Ao] at h
 have hext:=Frz.ext_refl w0.heap.size μ
 refine feW Tryz.func76 42 [(0,pb cb0),(1,sv ad3 p1 cap4)] hS fun a w hF hS=>?_
 refine qnB [(6,sv ad3 p1 cap4),(7,iv (ln p1)),(8,iv 0)] hF fun a hF=>?_
 refine wpIn_block<|Ck (fun n_ a w=>∃(a3:(List Int)) (a0:Int) (a6:Option Addr) (aA:Nat),Fr 42 [] [(0,pb cb0),(6,sv ad3 p1 cap4),(7,iv (ln p1)),(8,iv a0)] a∧St w0 (arrT 5 1 (fK .u8) a6 a3.length aA a3::fz w0 μ::blk cb0 138 #[sv a6 a3 aA]::T_) w∧D8 F p1 n_ a3 a0=some res) F ⟨p0.b,0,ad1,cap2,hF.sub kr,hS.s2,h⟩ ?_
 rintro nk1 a w ⟨a3,a0,a6,aA,hF,hS,h⟩
 rcases nk1 with _|nk1
 ·cases (show (none:Option volume_writer)=some res from h)
 obtain ⟨k1,hk1⟩:∃k,k=D8 F p1 nk1:=⟨_,rfl⟩
 replace h:Fc F p1 k1 a3 a0=some res:=by rw [hk1];exact h
 rw [Fc] at h
 refine qnB [(9,.bool (decide (a0<(ln p1))))] hF fun a hF=>?_
 refine Am<|A8 hF h (fun hc h=>?_) fun hc h=>?_
 ·refine wK<|Dx (fun a w=>∃(a5:(List Int)) (aG:Option Addr) (aI:Nat),Fr 42 [] [(0,pb cb0),(6,sv ad3 p1 cap4),(7,iv (ln p1)),(8,iv a0)] a∧St w0 (arrT 5 1 (fK .u8) aG a5.length aI a5::fz w0 μ::blk cb0 138 #[sv aG a5 aI]::T_) w∧Ff a0 k1 a5=some res) ?_ ?_
  ·skip
   refine wpIn_block<|esr ?_
   obtain ⟨aS,aR,h⟩:=A0 h
   refine qo 3 3 [(5,iv aS)] hF (oI 69 (hA5 _ (hS.frz (i:=1) rfl hlow)) aR<|oE 3 0 H9 (fun _ hd=>(hA5 _ ((hS.at_ hd).frz (i:=1) rfl hlow))) aR rfl<|A1) fun a hF=>wfn rfl ?_
   refine Dx (fun a w=>∃(a4:(List Int)) (aM:Int) (aH:Option Addr) (aJ:Nat),Fr 42 [] [(0,pb cb0),(5,iv aM),(6,sv ad3 p1 cap4),(7,iv (ln p1)),(8,iv a0)] a∧St w0 (arrT 5 1 (fK .u8) aH a4.length aJ a4::fz w0 μ::blk cb0 138 #[sv aH a4 aJ]::T_) w∧Fg a0 k1 a4 aM=some res) ?_ ?_
   ·skip
    refine wpIn_block<|Ck (fun n_ a w=>∃(a1:(List Int)) (a2:Int) (a8:Option Addr) (aC:Nat),Fr 42 [] [(0,pb cb0),(5,iv a2),(6,sv ad3 p1 cap4),(7,iv (ln p1)),(8,iv a0)] a∧St w0 (arrT 5 1 (fK .u8) a8 a1.length aC a1::fz w0 μ::blk cb0 138 #[sv a8 a1 aC]::T_) w∧D9 a0 k1 n_ a1 a2=some res) F ⟨a3,aS,a6,aA,hF.sub kr,hS,h⟩ ?_
    rintro nk4 a w ⟨a1,a2,a8,aC,hF,hS,h⟩
    rcases nk4 with _|nk4
    ·cases (show (none:Option volume_writer)=some res from h)
    obtain ⟨k4,hk4⟩:∃k,k=D9 a0 k1 nk4:=⟨_,rfl⟩
    replace h:Fe a0 k1 k4 a1 a2=some res:=by rw [hk4];exact h
    rw [Fe] at h
    refine Am<|qnB [(13,.bool (decide (a2≥127)))] hF fun a hF=>?_
    refine A8 hF h (fun hc h=>?_) fun hc h=>?_
    ·refine wK<|Am<|wpIn_block<|WI.region ?_
     obtain ⟨b2,aZ,h⟩:=A0 h
     obtain ⟨aF,b0,h⟩:=A0 h
     refine qo 9 9 [(16,pb cb0),(20,sv a8 a1 aC),(24,.int .u8 (IntKind.u8.wrap aF))] hF (oL 22 2 0 hS.i rfl rfl<|oR 3 aZ<|oA 3 b0<|oX (.run [] (convert 3 5 (iv aF)) (.int .u8 (IntKind.u8.wrap aF))) (Bm kr)<|A1) fun a hF=>?_
     refine SK.wi (qL 5 22 1 [IntKind.u8.wrap aF] (fun aP=>[(25,sb aP 1)]) (B8 .u8) hF hS fun aP w a hF hS=>?_)
     obtain ⟨aL,aW,h⟩:=A0 h
     refine SK.wi (Ux (t:=22) (ty:=22) (bytes:=1) (l:=a1) (l':=([IntKind.u8.wrap aF])) (fun a9 aD=>[(0,pb cb0),(5,iv a2),(6,sv ad3 p1 cap4),(7,iv (ln p1)),(8,iv a0),(16,pb cb0),(26,sv a9 aL aD)]) 1 hF hS rfl kr ⟨kr⟩ kr (hS.arr (i:=0) rfl) (fun _ _=>rfl) aW (fun _ _=>⟨kr⟩) fun a9 aD w a hF hS=>?_)
     refine rn 2 13 [(0,pb cb0),(5,iv a2),(6,sv ad3 p1 cap4),(7,iv (ln p1)),(8,iv a0),(26,sv a9 aL aD),(28,pb cb0)] hF fun a hF=>?_
     refine SK.wi (qs 22 3 0 (sv a9 aL aD) hF hS rfl fun w a hF hS=>WI.fin rfl (A9<|A3<|?_))
     refine WI.region ?_
     obtain ⟨aU,b1,h⟩:=A0 h
     refine ro 3 3 [(0,pb cb0),(5,iv aU),(6,sv ad3 p1 cap4),(7,iv (ln p1)),(8,iv a0)] hF (oQ 3 b1<|A1) fun a hF=>wfn rfl ?_
     rw [hk4] at h
     exact ⟨nk4,Nat.lt_succ_self _,aL,aU,a9,aD,hF.sub kr,hS.d0,h⟩
    ·refine wpIn_exit (A5<|A5<|Ar<|A3 ?_)
     exact ⟨a1,a2,a8,aC,hF.sub kr,hS,h⟩
   rintro a w ⟨a4,aM,aH,aJ,hF,hS,h⟩
   rw [Fg] at h
   refine WI.region ?_
   obtain ⟨aE,aY,h⟩:=A0 h
   refine ro 8 8 [(0,pb cb0),(6,sv ad3 p1 cap4),(7,iv (ln p1)),(8,iv a0),(29,pb cb0),(33,sv aH a4 aJ),(36,.int .u8 (IntKind.u8.wrap aE))] hF (oL 22 2 0 hS.i rfl rfl<|oA 3 aY<|oX (.run [] (convert 3 5 (iv aE)) (.int .u8 (IntKind.u8.wrap aE))) (Bm kr)<|A1) fun a hF=>?_
   refine SK.wi (qL 5 22 1 [IntKind.u8.wrap aE] (fun aO=>[(37,sb aO 1)]) (B8 .u8) hF hS fun aO w a hF hS=>?_)
   obtain ⟨aK,aV,h⟩:=A0 h
   refine SK.wi (Ux (t:=22) (ty:=22) (bytes:=1) (l:=a4) (l':=([IntKind.u8.wrap aE])) (fun a7 aB=>[(0,pb cb0),(6,sv ad3 p1 cap4),(7,iv (ln p1)),(8,iv a0),(29,pb cb0),(38,sv a7 aK aB)]) 1 hF hS rfl kr ⟨kr⟩ kr (hS.arr (i:=0) rfl) (fun _ _=>rfl) aV (fun _ _=>⟨kr⟩) fun a7 aB w a hF hS=>?_)
   refine rn 2 12 [(0,pb cb0),(6,sv ad3 p1 cap4),(7,iv (ln p1)),(8,iv a0),(38,sv a7 aK aB),(40,pb cb0)] hF fun a hF=>?_
   refine SK.wi (qs 22 3 0 (sv a7 aK aB) hF hS rfl fun w a hF hS=>WI.fin rfl (A9<|A3<|?_))
   exact ⟨aK,a7,aB,hF.sub kr,hS.d0,h⟩
  rintro a w ⟨a5,aG,aI,hF,hS,h⟩
  rw [Ff] at h
  refine WI.region ?_
  obtain ⟨aT,aX,h⟩:=A0 h
  refine ro 2 2 [(0,pb cb0),(6,sv ad3 p1 cap4),(7,iv (ln p1)),(8,iv aT)] hF (oA 3 aX<|A1) fun a hF=>wfn rfl ?_
  rw [hk1] at h
  exact ⟨nk1,Nat.lt_succ_self _,a5,aT,aG,aI,hF.sub kr,hS,h⟩
 ·refine wpIn_exit (A5<|A5<|Ar<|?_)
  refine Jr hF rfl ?_
  obtain rfl:=Ae h
  replace hS:=hS.s2.s2
  exact ⟨_,rfl,μ,a6,aA,hext,hlow,rfl,hS⟩
theorem V7 (F:Nat) (p0:api_Field) (p1:api_Field) (res:Bool) (h:R1 F p0 p1=some res) (μ:Frz) (w0:World) (hm:FrzAt μ w0) {ad1:Option Addr} {cap2:Nat} {ad4:Option Addr} {cap5:Nat} (hA3:ArrM μ 2 api_Span.cells ad1 cap2 p0.Vals) (hA6:ArrM μ 2 api_Span.cells ad4 cap5 p1.Vals):Calls Tryz.prog 61 #[.agg (p0.ax ad1 cap2),.agg (p1.ax ad4 cap5)] w0 (fun e w=>e=.returned (.bool res)∧Ext w0 w):=by
 obtain ⟨hlow,hS⟩:=hm.init
 have hext:=Frz.ext_refl w0.heap.size μ
 rw [R1] at h
 refine feW Tryz.func61 38 [(0,.agg (p0.ax ad1 cap2)),(1,.agg (p1.ax ad4 cap5))] hS fun a w hF hS=>?_
 refine esr<|SK.wi (qBa 46 (p0.ax ad1 cap2) (fun b7=>[(2,pb b7)]) hF hS fun b7 w a hF hS=>?_)
 refine SK.wi (qBa 46 (p1.ax ad4 cap5) (fun b8=>[(3,pb b8)]) hF hS fun b8 w a hF hS=>?_)
 refine qn 1 3 [] hF fun a hF=>wfn rfl ?_
 refine Am<|qoB [(19,.bool (bif (!(((p0.Grid.X:Int)==p1.Grid.X)&&(((p0.Grid.Y:Int)==p1.Grid.Y)&&(((p0.Grid.Size:Int)==p1.Grid.Size)&&(((p0.Grid.Wide:Int)==p1.Grid.Wide)&&(((p0.Grid.High:Int)==p1.Grid.High)&&true)))))) then true else ((ln p0.Vals) != (ln p1.Vals))))] hF (oN 43 1 0 5 hS.i rfl<|oN 43 0 0 5 hS.i rfl<|oX (.run [] (eqS .neq 43 p0.Grid.ar p1.Grid.ar) (.bool (!(((p0.Grid.X:Int)==p1.Grid.X)&&(((p0.Grid.Y:Int)==p1.Grid.Y)&&(((p0.Grid.Size:Int)==p1.Grid.Size)&&(((p0.Grid.Wide:Int)==p1.Grid.Wide)&&(((p0.Grid.High:Int)==p1.Grid.High)&&true)))))))) (Qq kr kr)<|oGs [⟨11,false,(!(((p0.Grid.X:Int)==p1.Grid.X)&&(((p0.Grid.Y:Int)==p1.Grid.Y)&&(((p0.Grid.Size:Int)==p1.Grid.Size)&&(((p0.Grid.Wide:Int)==p1.Grid.Wide)&&(((p0.Grid.High:Int)==p1.Grid.High)&&true))))))⟩] (oL 44 1 5 hS.i rfl rfl<|oL 44 0 5 hS.i rfl rfl<|A1)<|A1) fun a hF=>?_
 refine A8 hF h (fun hc h=>?_) fun hc h=>?_
 ·refine rnB [(4,.bool false)] hF fun a hF=>?_
  refine wpIn_ret (A2<|A7 [.tmp 4] [_] hF rfl ⟨rfl,trivial⟩ ?_)
  obtain rfl:=Ae h
  exact ⟨rfl,hS.ext⟩
 ·refine wK<|Dx (fun a w=>Fr 38 [] [] a∧St w0 [blk b8 46 (p1.ax ad4 cap5),blk b7 46 (p0.ax ad1 cap2),fz w0 μ] w∧Nf=some res) ?_ ?_
  ·skip
   refine qnB [(5,iv 0)] hF fun a hF=>?_
   refine wpIn_block<|Ck (fun n_ a w=>∃(a2:Int),Fr 38 [] [(2,pb b7),(3,pb b8),(5,iv a2)] a∧St w0 [blk b8 46 (p1.ax ad4 cap5),blk b7 46 (p0.ax ad1 cap2),fz w0 μ] w∧L6 p0 p1 n_ a2=some res) F ⟨0,hF.sub kr,St.pick [0,1,2] (by decide) hS,h⟩ ?_
   rintro nk2 a w ⟨a2,hF,hS,h⟩
   rcases nk2 with _|nk2
   ·cases (show (none:Option Bool)=some res from h)
   obtain ⟨k2,hk2⟩:∃k,k=L6 p0 p1 nk2:=⟨_,rfl⟩
   replace h:Nd p0 p1 k2 a2=some res:=by rw [hk2];exact h
   rw [Nd] at h
   refine Am<|qoB [(24,.bool (decide (a2<(ln p0.Vals))))] hF (oL 44 1 5 hS.i rfl rfl<|A1) fun a hF=>?_
   refine A8 hF h (fun hc h=>?_) fun hc h=>?_
   ·refine wK<|Am<|wpIn_block<|Am ?_
    obtain ⟨a0,a3,h⟩:=A0 h
    obtain ⟨a1,a4,h⟩:=A0 h
    refine qD 11 [(37,.bool (!(((a0.Lo:Int)==a1.Lo)&&(((a0.Hi:Int)==a1.Hi)&&true))))] hF (oL 44 1 5 hS.e rfl rfl<|oI 44 (hA3 _ (hS.frz (i:=2) rfl hlow)) a3<|oG 146 0 2 api_Span.cells_len (fun _ hd=>(hA3 _ ((hS.later hd).frz (i:=2) rfl hlow))) a3<|oL 44 0 5 hS.e rfl rfl<|oI 44 (hA6 _ (hS.frz (i:=2) rfl hlow)) a4<|oG 146 0 2 api_Span.cells_len (fun _ hd=>(hA6 _ ((hS.later hd).frz (i:=2) rfl hlow))) a4<|oX (.run [] (eqS .neq 146 #[iv a0.Lo,iv a0.Hi] #[iv a1.Lo,iv a1.Hi]) (.bool (!(((a0.Lo:Int)==a1.Lo)&&(((a0.Hi:Int)==a1.Hi)&&true))))) (Qq kr kr)<|A1) fun a w hF hx=>?_
    replace hS:=hS.later hx
    refine wfn rfl ?_
    refine A8 hF h (fun hc h=>?_) fun hc h=>?_
    ·refine rnB [(4,.bool false)] hF fun a hF=>?_
     refine wpIn_ret (Ab<|A2<|A2<|Ab<|A2<|A7 [.tmp 4] [_] hF rfl ⟨rfl,trivial⟩ ?_)
     obtain rfl:=Ae h
     exact ⟨rfl,hS.ext⟩
    ·refine wpIn_skip (A9<|A3<|?_)
     refine WI.region ?_
     obtain ⟨a5,a6,h⟩:=A0 h
     refine ro 3 3 [(2,pb b7),(3,pb b8),(5,iv a5)] hF (oA 3 a6<|A1) fun a hF=>wfn rfl ?_
     rw [hk2] at h
     exact ⟨nk2,Nat.lt_succ_self _,a5,hF.sub kr,St.pick [0,1,2] (by decide) hS,h⟩
   ·refine wpIn_exit (A5<|A5<|Ar<|A3 ?_)
    exact ⟨hF.sub kr,St.pick [0,1,2] (by decide) hS,h⟩
  rintro a w ⟨hF,hS,h⟩
  rw [Nf] at h
  refine rnB [(4,.bool true)] hF fun a hF=>?_
  refine wpIn_ret (A7 [.tmp 4] [_] hF rfl ⟨rfl,trivial⟩ ?_)
  obtain rfl:=Ae h
  exact ⟨rfl,hS.ext⟩
theorem Aj (F:Nat) (p0:ref12_reader) (res:(Int×ref12_reader)) (h:Aa F p0=some res) (μ:Frz) (w0 w1:World) (T_:List Res) (hlow:Ax w0 μ) {cb0:Nat} {ad1:Option Addr} {cap2:Nat} (hA3:ArrM μ 1 (fK .u8) ad1 cap2 p0.b) (hS:St w0 (fz w0 μ::blk cb0 135 #[sv ad1 p0.b cap2,.bool p0.bad]::T_) w1):Ba Tryz.prog 72 #[pb cb0] w1 (fun e w=>∃(ν_:Frz) (a8:Option Addr) (a9:Nat),μ.ext w0.heap.size ν_∧Ax w0 ν_∧e=(iv res.1)∧(ArrM ν_ 1 (fK .u8) a8 a9 res.2.b)∧St w0 (fz w0 ν_::blk cb0 135 #[sv a8 res.2.b a9,.bool res.2.bad]::T_) w):=by
 rw [Aa] at h
 have hext:=Frz.ext_refl w0.heap.size μ
 refine feW Tryz.func72 78 [(0,pb cb0)] hS fun a w hF hS=>?_
 refine qnB [] hF fun a hF=>?_
 refine qnB [(3,iv 0),(4,iv 1)] hF fun a hF=>?_
 refine Dx (fun a w=>Fr 78 [] [(0,pb cb0)] a∧St w0 (fz w0 μ::blk cb0 135 #[sv ad1 p0.b cap2,.bool p0.bad]::T_) w∧Eh=some res) ?_ ?_
 ·skip
  refine qnB [(5,iv 0)] hF fun a hF=>?_
  refine wpIn_block<|Ck (fun n_ a w=>∃(a4:Int) (a3:Int) (a1:Int),Fr 78 [] [(0,pb cb0),(3,iv a4),(4,iv a3),(5,iv a1)] a∧St w0 (fz w0 μ::blk cb0 135 #[sv ad1 p0.b cap2,.bool p0.bad]::T_) w∧Cq p0 n_ a4 a3 a1=some res) F ⟨0,1,0,hF.sub kr,hS,h⟩ ?_
  rintro nk2 a w ⟨a4,a3,a1,hF,hS,h⟩
  rcases nk2 with _|nk2
  ·cases (show (none:Option (Int×ref12_reader))=some res from h)
  obtain ⟨k2,hk2⟩:∃k,k=Cq p0 nk2:=⟨_,rfl⟩
  replace h:Fs p0 k2 a4 a3 a1=some res:=by rw [hk2];exact h
  rw [Fs] at h
  refine Am<|qoB [(17,.bool (bif (decide (a1<(ln p0.b))) then (decide (a1<8)) else false))] hF (oL 22 1 0 hS.i rfl rfl<|A1) fun a hF=>?_
  refine A8 hF h (fun hc h=>?_) fun hc h=>?_
  ·refine wK<|Am<|wpIn_block<|esr ?_
   obtain ⟨aO,aB,h⟩:=A0 h
   obtain ⟨a2,aE,h⟩:=A0 h
   refine qo 9 9 [(6,iv a2)] hF (oL 22 1 0 hS.i rfl rfl<|oI 22 (hA3 _ (hS.frz (i:=0) rfl hlow)) aB<|oE 5 0 (B8 .u8) (fun _ hd=>(hA3 _ ((hS.at_ hd).frz (i:=0) rfl hlow))) aB rfl<|oX (.run [] (convert 5 3 (.int .u8 aO)) (iv a2)) (T9 kr kr (fun _=>aE))<|A1) fun a hF=>wfn rfl ?_
   refine Am<|qnB [(41,.bool (bif (bif (decide (a2≥1)) then (decide (a2≤127)) else false) then (bif (a1==0) then true else (decide (a2>1))) else false))] hF fun a hF=>?_
   refine A8 hF h (fun hc h=>?_) fun hc h=>?_
   ·refine esr ?_
    obtain ⟨a0,aF,h⟩:=A0 h
    obtain ⟨a5,aA,h⟩:=A0 h
    have aD:ArrM μ 1 (fK .u8) (Al ad1 cap2 a0.toNat 1) (cap2-a0.toNat) a5:=fun w_ hw_=>(hA3 w_ hw_).cutD (B8 .u8) aA
    refine ro 10 10 [(3,iv a4),(4,iv a3),(6,iv a2),(49,.slice (Al ad1 cap2 a0.toNat 1) a5.length (cap2-a0.toNat)),(51,pb cb0)] hF (oL 22 1 0 hS.i rfl rfl<|oA 3 aF<|oX (.run [] (Instr.sliceAt 22 (sv ad1 p0.b cap2) (some (iv a0)) none none) (.slice (Al ad1 cap2 a0.toNat 1) a5.length (cap2-a0.toNat))) (Lv kr (hA3 _ (hS.frz (i:=0) rfl hlow)) (fun _=>aA))<|A1) fun a hF=>?_
    refine SK.wi (qs 22 1 0 (.slice (Al ad1 cap2 a0.toNat 1) a5.length (cap2-a0.toNat)) hF hS rfl fun w a hF hS=>wfn rfl ?_)
    refine esr ?_
    obtain ⟨aQ,aG,h⟩:=A0 h
    obtain ⟨aR,aH,h⟩:=A0 h
    obtain ⟨aP,aI,h⟩:=A0 h
    refine ro 7 7 [(2,iv aP)] hF (oS 3 aG<|oM 3 aH<|oA 3 aI<|A1) fun a hF=>wfn rfl ?_
    refine wpIn_ret (A2<|Ab<|A2<|A2<|Ab<|A2<|A7 [.tmp 2] [_] hF rfl ⟨rfl,trivial⟩ ?_)
    obtain rfl:=Ae h
    replace hS:=hS
    exact ⟨_,rfl,μ,(Al ad1 cap2 a0.toNat 1),(cap2-a0.toNat),hext,hlow,rfl,aD,hS⟩
   ·refine wK<|Am<|qnB [(63,.bool (bif (decide (a2<128)) then true else (decide (a2>254))))] hF fun a hF=>?_
    refine A8 hF h (fun hc h=>?_) fun hc h=>?_
    ·refine wpIn_exit (A5<|Tp rfl<|A5<|A5<|Ar<|A3 ?_)
     exact ⟨hF.sub kr,hS,h⟩
    ·refine wK<|esr ?_
     obtain ⟨aS,aJ,h⟩:=A0 h
     obtain ⟨aT,aK,h⟩:=A0 h
     obtain ⟨a6,aL,h⟩:=A0 h
     refine ro 7 7 [(0,pb cb0),(3,iv a6),(4,iv a3),(5,iv a1)] hF (oS 3 aJ<|oM 3 aK<|oA 3 aL<|A1) fun a hF=>wfn rfl ?_
     refine WI.region ?_
     obtain ⟨a7,aM,h⟩:=A0 h
     refine ro 3 3 [(0,pb cb0),(3,iv a6),(4,iv a7),(5,iv a1)] hF (oM 3 aM<|A1) fun a hF=>WI.fin rfl (A9<|A3<|?_)
     refine WI.region ?_
     obtain ⟨aC,aN,h⟩:=A0 h
     refine ro 3 3 [(0,pb cb0),(3,iv a6),(4,iv a7),(5,iv aC)] hF (oA 3 aN<|A1) fun a hF=>wfn rfl ?_
     rw [hk2] at h
     exact ⟨nk2,Nat.lt_succ_self _,a6,a7,aC,hF.sub kr,hS,h⟩
  ·refine wpIn_exit (A5<|A5<|Ar<|A3 ?_)
   exact ⟨hF.sub kr,hS,h⟩
 rintro a w ⟨hF,hS,h⟩
 rw [Eh] at h
 refine esr<|qn 3 3 [(74,.pointer (some ⟨cb0,1,none⟩))] hF fun a hF=>?_
 refine SK.wi (qs 4 1 1 (.bool true) hF hS rfl fun w a hF hS=>wfn rfl ?_)
 refine esr<|rn 3 3 [(77,pb cb0)] hF fun a hF=>?_
 refine SK.wi (qs 22 1 0 (.slice none 0 0) hF hS rfl fun w a hF hS=>wfn rfl ?_)
 refine rnB [(2,iv 0)] hF fun a hF=>?_
 refine wpIn_ret (A7 [.tmp 2] [_] hF rfl ⟨rfl,trivial⟩ ?_)
 obtain rfl:=Ae h
 replace hS:=hS
 exact ⟨_,rfl,μ,none,0,hext,hlow,rfl,ArrM.nil,hS⟩
theorem W2 (F:Nat) (p0:(List Int)) (p1:(List Int)) (res:Bool) (h:Nu F p0 p1=some res) (μ:Frz) (w0:World) (hm:FrzAt μ w0) {ad1:Option Addr} {cap2:Nat} {ad4:Option Addr} {cap5:Nat} (hA3:ArrM μ 1 (fK .u8) ad1 cap2 p0) (hA6:ArrM μ 1 (fK .u8) ad4 cap5 p1):Calls Tryz.prog 73 #[sv ad1 p0 cap2,sv ad4 p1 cap5] w0 (fun e w=>e=.returned (.bool res)∧Ext w0 w):=by
 obtain ⟨hlow,hS⟩:=hm.init
 have hext:=Frz.ext_refl w0.heap.size μ
 rw [Nu] at h
 refine feW Tryz.func73 26 [(0,sv ad1 p0 cap2),(1,sv ad4 p1 cap5)] hS fun a w hF hS=>?_
 refine qnB [] hF fun a hF=>?_
 refine Am<|qnB [(10,.bool ((ln p0) != (ln p1)))] hF fun a hF=>?_
 refine A8 hF h (fun hc h=>?_) fun hc h=>?_
 ·refine rnB [(4,.bool false)] hF fun a hF=>?_
  refine wpIn_ret (A2<|A7 [.tmp 4] [_] hF rfl ⟨rfl,trivial⟩ ?_)
  obtain rfl:=Ae h
  exact ⟨rfl,hS.ext⟩
 ·refine wK<|Dx (fun a w=>Fr 26 [] [] a∧St w0 [fz w0 μ] w∧Pi=some res) ?_ ?_
  ·skip
   refine qnB [(5,iv 0)] hF fun a hF=>?_
   refine wpIn_block<|Ck (fun n_ a w=>∃(a0:Int),Fr 26 [] [(0,sv ad1 p0 cap2),(1,sv ad4 p1 cap5),(5,iv a0)] a∧St w0 [fz w0 μ] w∧Ji p0 p1 n_ a0=some res) F ⟨0,hF.sub kr,St.pick [0] (by decide) hS,h⟩ ?_
   rintro nk2 a w ⟨a0,hF,hS,h⟩
   rcases nk2 with _|nk2
   ·cases (show (none:Option Bool)=some res from h)
   obtain ⟨k2,hk2⟩:∃k,k=Ji p0 p1 nk2:=⟨_,rfl⟩
   replace h:Mb p0 p1 k2 a0=some res:=by rw [hk2];exact h
   rw [Mb] at h
   refine Am<|qnB [(14,.bool (decide (a0<(ln p0))))] hF fun a hF=>?_
   refine A8 hF h (fun hc h=>?_) fun hc h=>?_
   ·refine wK<|Am<|wpIn_block<|Am ?_
    obtain ⟨a5,a1,h⟩:=A0 h
    obtain ⟨a6,a2,h⟩:=A0 h
    refine qD 9 [(25,.bool (a5 != a6))] hF (oI 22 (hA3 _ (hS.frz (i:=0) rfl hlow)) a1<|oE 5 0 (B8 .u8) (fun _ hd=>(hA3 _ ((hS.later hd).frz (i:=0) rfl hlow))) a1 rfl<|oI 22 (hA6 _ (hS.frz (i:=0) rfl hlow)) a2<|oE 5 0 (B8 .u8) (fun _ hd=>(hA6 _ ((hS.later hd).frz (i:=0) rfl hlow))) a2 rfl<|A1) fun a w hF hx=>?_
    replace hS:=hS.later hx
    refine wfn rfl ?_
    refine A8 hF h (fun hc h=>?_) fun hc h=>?_
    ·refine rnB [(4,.bool false)] hF fun a hF=>?_
     refine wpIn_ret (Ab<|A2<|A2<|Ab<|A2<|A7 [.tmp 4] [_] hF rfl ⟨rfl,trivial⟩ ?_)
     obtain rfl:=Ae h
     exact ⟨rfl,hS.ext⟩
    ·refine wpIn_skip (A9<|A3<|?_)
     refine WI.region ?_
     obtain ⟨a3,a4,h⟩:=A0 h
     refine ro 3 3 [(0,sv ad1 p0 cap2),(1,sv ad4 p1 cap5),(5,iv a3)] hF (oA 3 a4<|A1) fun a hF=>wfn rfl ?_
     rw [hk2] at h
     exact ⟨nk2,Nat.lt_succ_self _,a3,hF.sub kr,St.pick [0] (by decide) hS,h⟩
   ·refine wpIn_exit (A5<|A5<|Ar<|A3 ?_)
    exact ⟨hF.sub kr,St.pick [0] (by decide) hS,h⟩
  rintro a w ⟨hF,hS,h⟩
  rw [Pi] at h
  refine rnB [(4,.bool true)] hF fun a hF=>?_
  refine wpIn_ret (A7 [.tmp 4] [_] hF rfl ⟨rfl,trivial⟩ ?_)
  obtain rfl:=Ae h
  exact ⟨rfl,hS.ext⟩
theorem Td (F:Nat) (p0:(List Int)) (res:(List Int)) (h:M3 F p0=some res) (μ:Frz) (w0:World) (hm:FrzAt μ w0) {ad1:Option Addr} {cap2:Nat} (hA3:ArrM μ 1 (fK .u8) ad1 cap2 p0):Ba Tryz.prog 74 #[sv ad1 p0 cap2] w0 (fun e w=>∃zad0 zcap0,e=(sv zad0 res zcap0)∧St w0 [arr 5 1 (fK .u8) zad0 res.length zcap0 res] w):=by
 obtain ⟨hlow,hS⟩:=hm.init
 have hext:=Frz.ext_refl w0.heap.size μ
 rw [M3] at h
 refine feW Tryz.func74 41 [(0,sv ad1 p0 cap2)] hS fun a w hF hS=>?_
 refine qnB [] hF fun a hF=>?_
 refine qnB [(3,iv 1)] hF fun a hF=>?_
 refine Dx (fun a w=>∃(aE:Int),Fr 41 [] [(3,iv aE)] a∧St w0 [fz w0 μ] w∧Mz F aE=some res) ?_ ?_
 ·skip
  refine qnB [(4,iv 0)] hF fun a hF=>?_
  refine wpIn_block<|Ck (fun n_ a w=>∃(aA:Int) (a5:Int),Fr 41 [] [(0,sv ad1 p0 cap2),(3,iv aA),(4,iv a5)] a∧St w0 [fz w0 μ] w∧Ka F p0 n_ aA a5=some res) F ⟨1,0,hF.sub kr,St.pick [0] (by decide) hS,h⟩ ?_
  rintro nk4 a w ⟨aA,a5,hF,hS,h⟩
  rcases nk4 with _|nk4
  ·cases (show (none:Option (List Int))=some res from h)
  obtain ⟨k4,hk4⟩:∃k,k=Ka F p0 nk4:=⟨_,rfl⟩
  replace h:My F p0 k4 aA a5=some res:=by rw [hk4];exact h
  rw [My] at h
  refine Am<|qnB [(10,.bool (decide (a5<(ln p0))))] hF fun a hF=>?_
  refine A8 hF h (fun hc h=>?_) fun hc h=>?_
  ·refine wK<|Am<|wpIn_block<|WI.region ?_
   obtain ⟨b6,aX,h⟩:=A0 h
   obtain ⟨b3,aN,h⟩:=A0 h
   obtain ⟨b4,aY,h⟩:=A0 h
   obtain ⟨b7,aZ,h⟩:=A0 h
   obtain ⟨aJ,b0,h⟩:=A0 h
   refine ro 10 10 [(0,sv ad1 p0 cap2),(3,iv aJ),(4,iv a5)] hF (oM 3 aX<|oI 22 (hA3 _ (hS.frz (i:=0) rfl hlow)) aN<|oE 5 0 (B8 .u8) (fun _ hd=>(hA3 _ ((hS.at_ hd).frz (i:=0) rfl hlow))) aN rfl<|oX (.run [] (convert 5 3 (.int .u8 b3)) (iv b4)) (T9 kr kr (fun _=>aY))<|oA 3 aZ<|oR 3 b0<|A1) fun a hF=>WI.fin rfl (A9<|A3<|?_)
   refine WI.region ?_
   obtain ⟨aQ,b1,h⟩:=A0 h
   refine ro 3 3 [(0,sv ad1 p0 cap2),(3,iv aJ),(4,iv aQ)] hF (oA 3 b1<|A1) fun a hF=>wfn rfl ?_
   rw [hk4] at h
   exact ⟨nk4,Nat.lt_succ_self _,aJ,aQ,hF.sub kr,St.pick [0] (by decide) hS,h⟩
  ·refine wpIn_exit (A5<|A5<|Ar<|A3 ?_)
   exact ⟨aA,hF.sub kr,St.pick [0] (by decide) hS,h⟩
 rintro a w ⟨aE,hF,hS,h⟩
 rw [Mz] at h
 refine qnB [(5,.slice none 0 0)] hF fun a hF=>?_
 refine Dx (fun a w=>∃(aK:Int) (a4:(List Int)) (aB:Option Addr) (aC:Nat),Fr 41 [] [(3,iv aK),(5,sv aB a4 aC)] a∧St w0 [arr 5 1 (fK .u8) aB a4.length aC a4,fz w0 μ] w∧N0 aK a4=some res) ?_ ?_
 ·skip
  refine qnB [(6,iv 0)] hF fun a hF=>?_
  refine wpIn_block ?_
  replace hS:=hS.nilarr 5 1 (fK .u8)
  refine Ck (fun n_ a w=>∃(a6:Int) (a0:(List Int)) (a1:Int) (a7:Option Addr) (a8:Nat),Fr 41 [] [(3,iv a6),(5,sv a7 a0 a8),(6,iv a1)] a∧St w0 [arr 5 1 (fK .u8) a7 a0.length a8 a0,fz w0 μ] w∧Gc n_ a6 a0 a1=some res) F ⟨aE,[],0,none,0,hF.sub kr,St.pick [0,1] (by decide) hS,h⟩ ?_
  rintro nk3 a w ⟨a6,a0,a1,a7,a8,hF,hS,h⟩
  rcases nk3 with _|nk3
  ·cases (show (none:Option (List Int))=some res from h)
  obtain ⟨k3,hk3⟩:∃k,k=Gc nk3:=⟨_,rfl⟩
  replace h:Lf k3 a6 a0 a1=some res:=by rw [hk3];exact h
  rw [Lf] at h
  refine Am<|qnB [(23,.bool (decide (a1<4)))] hF fun a hF=>?_
  refine A8 hF h (fun hc h=>?_) fun hc h=>?_
  ·refine wK<|Am<|wpIn_block<|esr ?_
   obtain ⟨b5,aT,h⟩:=A0 h
   obtain ⟨aD,aU,h⟩:=A0 h
   refine qo 5 5 [(26,sv a7 a0 a8),(30,.int .u8 (IntKind.u8.wrap aD))] hF (oR 3 aT<|oA 3 aU<|oX (.run [] (convert 3 5 (iv aD)) (.int .u8 (IntKind.u8.wrap aD))) (Bm kr)<|A1) fun a hF=>?_
   refine SK.wi (qL 5 22 1 [IntKind.u8.wrap aD] (fun aL=>[(31,sb aL 1)]) (B8 .u8) hF hS fun aL w a hF hS=>?_)
   obtain ⟨a9,aR,h⟩:=A0 h
   refine SK.wi (qP 22 22 1 (fun a2 a3=>[(32,sv a2 a9 a3)]) hF hS (hS.arr (i:=0) rfl) aR rfl fun a2 a3 w a hF hS=>?_)
   refine rn 1 8 [(3,iv a6),(5,sv a2 a9 a3),(6,iv a1)] hF fun a hF=>wfn rfl ?_
   refine WI.region ?_
   obtain ⟨aI,aV,h⟩:=A0 h
   refine ro 3 3 [(3,iv aI),(5,sv a2 a9 a3),(6,iv a1)] hF (oQ 3 aV<|A1) fun a hF=>WI.fin rfl (A9<|A3<|?_)
   refine WI.region ?_
   obtain ⟨aP,aW,h⟩:=A0 h
   refine ro 3 3 [(3,iv aI),(5,sv a2 a9 a3),(6,iv aP)] hF (oA 3 aW<|A1) fun a hF=>wfn rfl ?_
   rw [hk3] at h
   exact ⟨nk3,Nat.lt_succ_self _,aI,a9,aP,a2,a3,hF.sub kr,St.pick [1,2] (by decide) hS,h⟩
  ·refine wpIn_exit (A5<|A5<|Ar<|A3 ?_)
   exact ⟨a6,a0,a7,a8,hF.sub kr,St.pick [0,1] (by decide) hS,h⟩
 rintro a w ⟨aK,a4,aB,aC,hF,hS,h⟩
 rw [N0] at h
 refine esr ?_
 obtain ⟨aF,b2,h⟩:=A0 h
 refine ro 4 4 [(35,sv aB a4 aC),(38,.int .u8 (IntKind.u8.wrap aF))] hF (oA 3 b2<|oX (.run [] (convert 3 5 (iv aF)) (.int .u8 (IntKind.u8.wrap aF))) (Bm kr)<|A1) fun a hF=>?_
 refine SK.wi (qL 5 22 1 [IntKind.u8.wrap aF] (fun aM=>[(39,sb aM 1)]) (B8 .u8) hF hS fun aM w a hF hS=>?_)
 obtain ⟨aO,aS,h⟩:=A0 h
 refine SK.wi (qP 22 22 1 (fun aG aH=>[(40,sv aG aO aH)]) hF hS (hS.arr (i:=0) rfl) aS rfl fun aG aH w a hF hS=>?_)
 refine rn 1 7 [(2,sv aG aO aH)] hF fun a hF=>wfn rfl ?_
 refine wpIn_ret (A7 [.tmp 2] [_] hF rfl ⟨rfl,trivial⟩ ?_)
 obtain rfl:=Ae h
 exact ⟨_,rfl,_,_,rfl,St.pick [1] (by decide) hS⟩
end Go.Proofs.YtifbomimeodibaaGreat
