import Derived.Test.YtbhjgebjojdohaaF10XD
import Derived.Test.YtbhjgebjojdohaaProg
import Derived.Test.YtbhjgebjojdohaaF10XW0
import Derived.Test.YtbhjgebjojdohaaF10XW3
namespace Go.Proofs.Ytbhjgebjojdohaa
open Go Go.RowKit Go.Eng
set_option maxRecDepth 10000
set_option maxHeartbeats 4000000
set_option linter.unusedVariables false
set_option linter.unusedSimpArgs false
theorem S9 (F:Nat) (p0:(List (List api_Span))) (res:((List (List api_Span))×Int)) (h:Mc F p0=some res) (μ:Frz) (w0:World) (hm:FrzAt μ w0) {ad1:Option Addr} {cap2:Nat} {css3:List (List Value)} (hA4:ArrQ μ 1 Rp43 ad1 cap2 css3 p0):F1 Try.prog 65 #[sv ad1 p0 cap2] w0 (fun e w=>∃(ν_:Frz) (zad0:Option Addr) (zcap0:Nat) (zcss0:List (List Value)),μ.ext w0.heap.size ν_∧e=(.tuple #[sv zad0 res.1 zcap0,iv res.2])∧All2 (Rp132 ν_) zcss0 res.1∧St w0 [fz w0 ν_,arr 132 1 (fN 1) zad0 res.1.length zcap0 zcss0] w):=by
 obtain ⟨hlow,hS⟩:=hm.init
 have hext:=Frz.ext_refl w0.heap.size μ
 rw [Mc] at h
 refine B5 Try.func65 rfl 29 [(0,sv ad1 p0 cap2)] rfl rfl kr fun a w hw hF=>?_
 replace hS:St w0 [fz w0 μ] w:=by rw [hw];exact hS
 clear hw
 refine esr ?_
 refine rn 2 2 [(0,sv ad1 p0 cap2)] hF fun a hF=>?_
 refine wfn rfl ?_
 refine Ba ?_
 refine esr ?_
 refine rn 3 3 [(0,sv ad1 p0 cap2),(10,.bool (decide ((ln p0)>200)))] hF fun a hF=>?_
 refine wfn rfl ?_
 refine Ar hF rfl (fun hc=>?_) (fun hc=>?_)
 ·replace h:=Al h hc
  refine esr ?_
  refine rn 2 2 [(2,.slice none 0 0),(3,iv 9)] hF fun a hF=>?_
  refine wfn rfl ?_
  refine wpIn_ret (Ac<|B6 [.tmp 2,.tmp 3] [.slice none 0 0,iv 9] hF rfl ⟨rfl,rfl,trivial⟩ ?_)
  have hr_:=Option.some.inj h
  subst hr_
  replace hS:=hS.nilarr 132 1 (fN 1)
  exact ⟨_,rfl,μ,_,_,_,hext,rfl,All2.nil,St.pick [1,0] (by decide) hS⟩
 ·replace h:=Ak h hc
  refine wpIn_skip (A4 ?_)
  refine esr ?_
  refine rn 1 1 [(0,sv ad1 p0 cap2),(4,.slice none 0 0)] hF fun a hF=>?_
  refine wfn rfl ?_
  have aC:=Frz.le_refl μ
  refine Eb (fun a w=>∃(a9:(List (List api_Span))) (ν94:Frz) (aG:Option Addr) (aI:Nat) (aN:List (List Value)),Fr 29 [] [(4,sv aG a9 aI)] a∧St w0 [arr 132 1 (fN 1) aG a9.length aI aN,fz w0 ν94] w∧(All2 (Rp132 ν94) aN a9)∧(μ.le ν94)∧(μ.ext w0.heap.size ν94)∧(Bm w0 ν94)∧Ns a9=some res) ?_ ?_
  ·skip
   refine esr ?_
   refine rn 3 3 [(4,.slice none 0 0),(11,sv ad1 p0 cap2),(12,iv (ln p0)),(13,iv 0)] hF fun a hF=>?_
   refine wfn rfl ?_
   refine wpIn_block ?_
   have aR:=Frz.le_refl μ
   replace hS:=hS.nilarr 132 1 (fN 1)
   refine D2 (fun n_ a w=>∃(a1:Int) (a0:(List (List api_Span))) (ν158:Frz) (a2:Option Addr) (a3:Nat) (a7:List (List Value)),Fr 29 [] [(4,sv a2 a0 a3),(11,sv ad1 p0 cap2),(12,iv (ln p0)),(13,iv a1)] a∧St w0 [arr 132 1 (fN 1) a2 a0.length a3 a7,fz w0 ν158] w∧(All2 (Rp132 ν158) a7 a0)∧(μ.le ν158)∧(μ.ext w0.heap.size ν158)∧(Bm w0 ν158)∧G7 F p0 n_ a1 a0=some res) F ⟨0,[],μ,none,0,[],hF.sub kr,St.pick [0,1] (by decide) hS,All2.nil,aR,hext,hlow,h⟩ ?_
   clear aR
   rintro nk2 a w ⟨a1,a0,ν158,a2,a3,a7,hF,hS,aM,aJ,hext,hlow,h⟩
   rcases nk2 with _|nk2
   ·cases (show (none:Option ((List (List api_Span))×Int))=some res from h)
   replace hA4:=hA4.mono Rp43.mono aJ
   replace aC:=Frz.le_trans aC aJ
   obtain ⟨k2,hk2⟩:∃k,k=G7 F p0 nk2:=⟨_,rfl⟩
   replace h:H0 F p0 k2 a1 a0=some res:=by rw [hk2];exact h
   rw [H0] at h
   refine esr ?_
   refine rn 1 1 [(4,sv a2 a0 a3),(11,sv ad1 p0 cap2),(12,iv (ln p0)),(13,iv a1),(14,.bool (decide (a1<(ln p0))))] hF fun a hF=>?_
   refine wfn rfl ?_
   refine Ba ?_
   refine Ar hF rfl (fun hc=>?_) (fun hc=>?_)
   ·replace h:=Al h hc
    refine wpIn_skip (A4 ?_)
    refine Ba ?_
    refine wpIn_block ?_
    refine esr ?_
    replace h:=A5 h
    obtain ⟨a8,b0,h⟩:=h
    obtain ⟨b5,aQ,aW⟩:=Ae hA4.2 b0
    obtain ⟨aA,aB,rfl,aL⟩:=aW
    refine rno 3 [.run [] (Instr.indexAt 48 (sv ad1 p0 cap2) (iv a1)) (.pointer (some (A3 ad1 a1 1))),.run [] (Instr.loadAt 43 (.pointer (some (A3 ad1 a1 1)))) (sv aA a8 aB)] 3 [(4,sv a2 a0 a3),(6,sv aA a8 aB),(11,sv ad1 p0 cap2),(12,iv (ln p0)),(13,iv a1)] hF (A0 (A8 (hA4.at (hS.frz (i:=1) rfl hlow)) kr (fun _=>aQ)) (A0 (An (i:=a1) 0 (As 1) (fun _ hd=>(hA4.at ((hS.at_ hd).frz (i:=1) rfl hlow))) kr (fun _=>aQ) rfl) Af)) fun a hF=>?_
    refine wfn rfl ?_
    refine Ba ?_
    refine esr ?_
    replace h:=A5 h
    obtain ⟨aE,b2,h⟩:=h
    refine rx 3 [.call [] 61 #[sv aA a8 aB,.bool true] (iv aE)] 3 [(4,sv a2 a0 a3),(6,sv aA a8 aB),(7,iv aE),(11,sv ad1 p0 cap2),(12,iv (ln p0)),(13,iv a1)] hF (A0 (show Ob.ok _ Ext _ _ from fun hk w2 hd=>Sn F a8 true _ ((fun _=>b2) hk) _ w2 (Aj w2) (aL.mono (FrzAt.le_mem ((hS.later hd).frz (i:=1) rfl hlow)))) Af) fun a w hF hx=>?_
    replace hS:=hS.later hx
    refine wfn rfl ?_
    refine esr ?_
    refine rn 2 2 [(4,sv a2 a0 a3),(6,sv aA a8 aB),(7,iv aE),(11,sv ad1 p0 cap2),(12,iv (ln p0)),(13,iv a1),(20,.bool (aE != 0))] hF fun a hF=>?_
    refine wfn rfl ?_
    refine Ar hF rfl (fun hc=>?_) (fun hc=>?_)
    ·replace h:=Al h hc
     refine esr ?_
     refine rn 3 3 [(2,.slice none 0 0),(3,iv aE)] hF fun a hF=>?_
     refine wfn rfl ?_
     refine wpIn_ret (Ac<|Am<|Ac<|Ac<|Am<|Ac<|B6 [.tmp 2,.tmp 3] [.slice none 0 0,iv aE] hF rfl ⟨rfl,rfl,trivial⟩ ?_)
     have hr_:=Option.some.inj h
     subst hr_
     replace hS:=hS.nilarr 132 1 (fN 1)
     exact ⟨_,rfl,ν158,_,_,_,hext,rfl,All2.nil,St.pick [2,0] (by decide) hS⟩
    ·replace h:=Ak h hc
     refine wpIn_skip (A4 ?_)
     refine WI.region ?_
     refine rn 2 2 [(4,sv a2 a0 a3),(11,sv ad1 p0 cap2),(12,iv (ln p0)),(13,iv a1),(22,sv a2 a0 a3),(23,sv aA a8 aB)] hF fun a hF=>?_
     replace h:=A5 h
     obtain ⟨a4,b3,h⟩:=h
     refine SK.wi (Es (fun aU=>[(4,sv a2 a0 a3),(11,sv ad1 p0 cap2),(12,iv (ln p0)),(13,iv a1),(22,sv a2 a0 a3),(24,aU)]) hF kr ⟨kr⟩ (Gr F a8 _ b3 (Ci w) w (Aj w) (aL.mono (FrzAt.le_mem (hS.frz (i:=1) rfl hlow)))) (fun _=>⟨kr⟩) ?_)
     rintro aU w a ⟨a5,a6,rfl,hQ⟩ hF
     replace hS:St w0 [arr 25 2 api_Span.cells a5 a4.length a6 a4,arr 132 1 (fN 1) a2 a0.length a3 a7,fz w0 ν158] w:=hS.madeL hQ
     obtain ⟨ν180,aD,hlow,hS,b4⟩:=hS.freeze (i:=2) (j:=0) rfl rfl (by decide) hlow
     replace hA4:=hA4.mono Rp43.mono aD.1
     replace aM:=All2.mono Rp132.mono aD.1 aM
     replace aL:=aL.mono aD.1
     replace aC:=Frz.le_trans aC aD.1
     replace aJ:=Frz.le_trans aJ aD.1
     replace hext:=Frz.ext_trans hext aD
     replace hS:St w0 [arr 132 1 (fN 1) a2 a0.length a3 a7,fz w0 ν180] w:=hS
     have aV:=ArrM.of_arr b4
     have aT:All2 (Rp132 ν180) ([[sv a5 a4 a6]]:List (List Value)) [a4]:=(All2.cons ⟨a5,a6,rfl,aV⟩ All2.nil)
     refine SK.wi (Sb (e:=132) (sz:=1) (f:=fN 1) (t:=135) (len:=1) (fun aP=>[(4,sv a2 a0 a3),(11,sv ad1 p0 cap2),(12,iv (ln p0)),(13,iv a1),(22,sv a2 a0 a3),(25,sb aP 1)]) #[(0,sv a5 a4 a6)] #[sv a5 a4 a6] ([[sv a5 a4 a6]]:List (List Value)) ([a4]) hF hS kr ⟨kr⟩ kr (As 1) rfl rfl rfl kr (fun _=>⟨kr⟩) fun aP w a hF hS=>?_)
     replace h:=A5 h
     obtain ⟨aK,aS,h⟩:=h
     have aY:All2 (Rp132 ν180) (a7++([[sv a5 a4 a6]]:List (List Value))) aK:=by rw [(G1 aS).1];exact All2.app aM aT
     refine SK.wi (Ps (t:=135) (ty:=135) (bytes:=24) (c:=a7) (c':=([[sv a5 a4 a6]]:List (List Value))) (l:=a0) (l':=([a4])) (fun aF aH=>[(4,sv a2 a0 a3),(11,sv ad1 p0 cap2),(12,iv (ln p0)),(13,iv a1),(26,sv aF aK aH)]) 1 hF hS rfl kr ⟨kr⟩ kr (hS.arr (i:=0) rfl) (ArrQ.one aT Rp132.one) aS (fun _ _=>⟨kr⟩) fun aF aH w a hF hS=>?_)
     refine rn 1 6 [(4,sv aF aK aH),(11,sv ad1 p0 cap2),(12,iv (ln p0)),(13,iv a1)] hF fun a hF=>?_
     refine WI.fin rfl (Ab<|A4<|?_)
     refine WI.region ?_
     replace h:=A5 h
     obtain ⟨aO,b1,h⟩:=h
     refine rno 2 [.run [] (binOp .add 3 (iv a1) (iv 1)) (iv aO)] 2 [(4,sv aF aK aH),(11,sv ad1 p0 cap2),(12,iv (ln p0)),(13,iv aO)] hF (A0 (Bg (fun _=>b1)) Af) fun a hF=>?_
     refine wfn rfl ?_
     rw [hk2] at h
     exact ⟨nk2,Nat.lt_succ_self _,aO,aK,ν180,aF,aH,(a7++([[sv a5 a4 a6]]:List (List Value))),hF.sub kr,St.pick [1,2] (by decide) hS,aY,aJ,hext,hlow,h⟩
   ·replace h:=Ak h hc
    refine wpIn_exit (A6<|A6<|Ai<|A4 ?_)
    exact ⟨a0,ν158,a2,a3,a7,hF.sub kr,St.pick [0,1] (by decide) hS,aM,aC,hext,hlow,h⟩
  clear aC
  rintro a w ⟨a9,ν94,aG,aI,aN,hF,hS,aZ,aX,hext,hlow,h⟩
  replace hA4:=hA4.mono Rp43.mono aX
  rw [Ns] at h
  refine esr ?_
  refine rn 3 3 [(2,sv aG a9 aI),(3,iv 0)] hF fun a hF=>?_
  refine wfn rfl ?_
  refine wpIn_ret (B6 [.tmp 2,.tmp 3] [sv aG a9 aI,iv 0] hF rfl ⟨rfl,rfl,trivial⟩ ?_)
  have hr_:=Option.some.inj h
  subst hr_
  exact ⟨_,rfl,ν94,_,_,_,hext,rfl,aZ,St.pick [1,0] (by decide) hS⟩
theorem Po (F:Nat) (p0:(List api_Span)) (p1:(List api_Span)) (res:(List api_Span)) (h:G2 F p0 p1=some res) (μ:Frz) (w0:World) (hm:FrzAt μ w0) {ad1:Option Addr} {cap2:Nat} {ad4:Option Addr} {cap5:Nat} (hA3:ArrM μ 2 api_Span.cells ad1 cap2 p0) (hA6:ArrM μ 2 api_Span.cells ad4 cap5 p1):F1 Try.prog 102 #[sv ad1 p0 cap2,sv ad4 p1 cap5] w0 (fun e w=>∃zad0 zcap0,e=(sv zad0 res zcap0)∧St w0 [arr 25 2 api_Span.cells zad0 res.length zcap0 res] w):=by
 obtain ⟨hlow,hS⟩:=hm.init
 have hext:=Frz.ext_refl w0.heap.size μ
 rw [G2] at h
 refine B5 Try.func102 rfl 54 [(0,sv ad1 p0 cap2),(1,sv ad4 p1 cap5)] rfl rfl kr fun a w hw hF=>?_
 replace hS:St w0 [fz w0 μ] w:=by rw [hw];exact hS
 clear hw
 refine esr ?_
 refine rn 1 1 [(0,sv ad1 p0 cap2),(1,sv ad4 p1 cap5)] hF fun a hF=>?_
 refine wfn rfl ?_
 refine esr ?_
 refine rn 1 1 [(0,sv ad1 p0 cap2),(1,sv ad4 p1 cap5),(5,.slice none 0 0)] hF fun a hF=>?_
 refine wfn rfl ?_
 refine Eb (fun a w=>∃(a8:(List api_Span)) (aC:Option Addr) (aF:Nat),Fr 54 [] [(5,sv aC a8 aF)] a∧St w0 [arr 25 2 api_Span.cells aC a8.length aF a8,fz w0 μ] w∧Dn F a8=some res) ?_ ?_
 ·skip
  refine esr ?_
  refine rn 2 2 [(0,sv ad1 p0 cap2),(1,sv ad4 p1 cap5),(5,.slice none 0 0),(6,iv 0),(7,iv 0)] hF fun a hF=>?_
  refine wfn rfl ?_
  refine wpIn_block ?_
  replace hS:=hS.nilarr 25 2 api_Span.cells
  refine D2 (fun n_ a w=>∃(a4:(List api_Span)) (a2:Int) (a3:Int) (a5:Option Addr) (a6:Nat),Fr 54 [] [(0,sv ad1 p0 cap2),(1,sv ad4 p1 cap5),(5,sv a5 a4 a6),(6,iv a2),(7,iv a3)] a∧St w0 [arr 25 2 api_Span.cells a5 a4.length a6 a4,fz w0 μ] w∧C3 F p0 p1 n_ a4 a2 a3=some res) F ⟨[],0,0,none,0,hF.sub kr,St.pick [0,1] (by decide) hS,h⟩ ?_
  rintro nk2 a w ⟨a4,a2,a3,a5,a6,hF,hS,h⟩
  rcases nk2 with _|nk2
  ·cases (show (none:Option (List api_Span))=some res from h)
  obtain ⟨k2,hk2⟩:∃k,k=C3 F p0 p1 nk2:=⟨_,rfl⟩
  replace h:Cj F p0 p1 k2 a4 a2 a3=some res:=by rw [hk2];exact h
  rw [Cj] at h
  refine Ba ?_
  refine esr ?_
  refine rn 10 10 [(0,sv ad1 p0 cap2),(1,sv ad4 p1 cap5),(5,sv a5 a4 a6),(6,iv a2),(7,iv a3),(19,.bool (bif (decide (a2<(ln p0))) then (decide (a3<(ln p1))) else false))] hF fun a hF=>?_
  refine wfn rfl ?_
  refine Ar hF rfl (fun hc=>?_) (fun hc=>?_)
  ·replace h:=Al h hc
   refine wpIn_skip (A4 ?_)
   refine wpIn_block ?_
   refine Eb (fun a w=>∃(a7:(List api_Span)) (a9:Option Addr) (aA:Nat),Fr 54 [] [(0,sv ad1 p0 cap2),(1,sv ad4 p1 cap5),(5,sv a9 a7 aA),(6,iv a2),(7,iv a3)] a∧St w0 [arr 25 2 api_Span.cells a9 a7.length aA a7,fz w0 μ] w∧Do p0 p1 a2 a3 k2 a7=some res) ?_ ?_
   ·skip
    refine Ba ?_
    replace h:=A5 h
    obtain ⟨a0,aR,h⟩:=h
    replace h:=A5 h
    obtain ⟨a1,aS,h⟩:=h
    refine C5 15 [8,12,13] (fun a w=>∃(aD:Nat),Fr 54 [] [(0,sv ad1 p0 cap2),(1,sv ad4 p1 cap5),(5,sv a5 a4 a6),(6,iv a2),(7,iv a3),(8,pb aD),(9,.bool ((Aa a0 a1).2))] a∧St w0 [blk aD 25 #[iv (((Aa a0 a1).1).Lo),iv (((Aa a0 a1).1).Hi)],arr 25 2 api_Span.cells a5 a4.length a6 a4,fz w0 μ] w) (D:=fun w=>St w0 [arr 25 2 api_Span.cells a5 a4.length a6 a4] w∧FrzAt μ w) kr kr hF.size (fun w hx=>?_) ?_
    ·skip
     replace hS:=hS.later hx
     refine ⟨⟨St.pick [0] (by decide) hS,hS.frz (i:=1) rfl hlow⟩,?_⟩
     have b0:=Frz.le_refl μ
     refine WT.s [0,1,2,3,4,5,6,7] [8,12] kr kr ?_
     refine Jj (rest:=[]) (obs:=[.run [] (Instr.indexAt 132 (sv ad1 p0 cap2) (iv a2)) (.pointer (some (A3 ad1 a2 2))),.run [] (Instr.loadAt 25 (.pointer (some (A3 ad1 a2 2)))) (.agg #[iv a0.Lo,iv a0.Hi]),.run [] (Instr.indexAt 132 (sv ad4 p1 cap5) (iv a3)) (.pointer (some (A3 ad4 a3 2))),.run [] (Instr.loadAt 25 (.pointer (some (A3 ad4 a3 2)))) (.agg #[iv a1.Lo,iv a1.Hi])]) [0,1,2,3,4,5,6,7] [(0,sv ad1 p0 cap2),(1,sv ad4 p1 cap5),(5,sv a5 a4 a6),(6,iv a2),(7,iv a3),(24,.agg #[iv a0.Lo,iv a0.Hi]),(28,.agg #[iv a1.Lo,iv a1.Hi])] hF kr kr (A0 (A8 (hA3 _ (hS.frz (i:=1) rfl hlow)) kr (fun _=>aR)) (A0 (Dx (m:=2) (i:=a2) (us:=[iv a0.Lo,iv a0.Hi]) 0 api_Span.cells_len (fun _ hd=>(hA3 _ hd.2)) kr (fun _=>aR) ⟨rfl,rfl⟩) (A0 (A8 (hA6 _ (hS.frz (i:=1) rfl hlow)) kr (fun _=>aS)) (A0 (Dx (m:=2) (i:=a3) (us:=[iv a1.Lo,iv a1.Hi]) 0 api_Span.cells_len (fun _ hd=>(hA6 _ hd.2)) kr (fun _=>aS) ⟨rfl,rfl⟩) Af)))) ⟨kr⟩ fun a hF=>?_
     refine WRun.fin ?_
     refine all_cons ?_ (all_cons ?_ (Av))
     ·skip
      refine Jx [(0,sv ad1 p0 cap2),(1,sv ad4 p1 cap5),(5,sv a5 a4 a6),(6,iv a2),(7,iv a3),(29,.tuple #[.agg #[iv (((Aa a0 a1).1).Lo),iv (((Aa a0 a1).1).Hi)],.bool ((Aa a0 a1).2)])] hF kr ⟨kr⟩ (Nr a0 a1 _ rfl (Ci w) w (Aj w)) ⟨kr⟩ ?_
      intro w a hx hF
      replace hS:=hS.later hx
      refine ⟨⟨St.pick [0] (by decide) hS,(hS.frz (i:=1) rfl hlow)⟩,?_⟩
      refine WT.s [9,10,11] [12] kr kr ?_
      refine Jj (rest:=[]) (obs:=[]) [9,10,11] [(0,sv ad1 p0 cap2),(1,sv ad4 p1 cap5),(5,sv a5 a4 a6),(6,iv a2),(7,iv a3),(30,.agg #[iv (((Aa a0 a1).1).Lo),iv (((Aa a0 a1).1).Hi)]),(31,.bool ((Aa a0 a1).2))] hF kr kr Af ⟨kr⟩ fun a hF=>?_
      refine WRun.fin ?_
      refine all_cons ?_ (Av)
      refine Bu (t:=25) (fun aE=>[(0,sv ad1 p0 cap2),(1,sv ad4 p1 cap5),(5,sv a5 a4 a6),(6,iv a2),(7,iv a3),(8,pb aE),(30,.agg #[iv (((Aa a0 a1).1).Lo),iv (((Aa a0 a1).1).Hi)]),(31,.bool ((Aa a0 a1).2))]) #[iv 0,iv 0] hF hS kr ⟨kr⟩ kr (fun _=>⟨kr⟩) fun aE w a hF hS=>⟨⟨St.pick [1] (by decide) hS,(hS.frz (i:=2) rfl hlow)⟩,?_⟩
      refine WT.s [] [13] kr kr ?_
      refine WRun.fin ?_
      refine all_cons ?_ (Av)
      refine storeK (t:=25) [(0,sv ad1 p0 cap2),(1,sv ad4 p1 cap5),(5,sv a5 a4 a6),(6,iv a2),(7,iv a3),(8,pb aE),(31,.bool ((Aa a0 a1).2))] 0 0 (.agg #[iv (((Aa a0 a1).1).Lo),iv (((Aa a0 a1).1).Hi)]) #[iv (((Aa a0 a1).1).Lo),iv (((Aa a0 a1).1).Hi)] hF hS rfl kr ⟨kr⟩ kr kr kr kr ⟨kr⟩ fun w a hF hS=>⟨⟨St.pick [1] (by decide) hS,(hS.frz (i:=2) rfl hlow)⟩,?_⟩
      refine WT.z [14] kr ?_
      refine Jj (rest:=[]) (obs:=[]) [14] [(0,sv ad1 p0 cap2),(1,sv ad4 p1 cap5),(5,sv a5 a4 a6),(6,iv a2),(7,iv a3),(8,pb aE),(9,.bool ((Aa a0 a1).2))] hF kr kr Af ⟨kr⟩ fun a hF=>?_
      refine WRun.fin ?_
      exact ⟨aE,hF.sub kr,St.pick [0,1,2] (by decide) hS⟩
     ·skip
      refine Bu (t:=25) (fun aB=>[(0,sv ad1 p0 cap2),(1,sv ad4 p1 cap5),(5,sv a5 a4 a6),(6,iv a2),(7,iv a3),(8,pb aB),(24,.agg #[iv a0.Lo,iv a0.Hi]),(28,.agg #[iv a1.Lo,iv a1.Hi])]) #[iv 0,iv 0] hF hS kr ⟨kr⟩ kr (fun _=>⟨kr⟩) fun aB w a hF hS=>⟨⟨St.pick [1] (by decide) hS,(hS.frz (i:=2) rfl hlow)⟩,?_⟩
      refine WT.s [] [8] kr kr ?_
      refine WRun.fin ?_
      refine all_cons ?_ (Av)
      refine Jx [(0,sv ad1 p0 cap2),(1,sv ad4 p1 cap5),(5,sv a5 a4 a6),(6,iv a2),(7,iv a3),(8,pb aB),(29,.tuple #[.agg #[iv (((Aa a0 a1).1).Lo),iv (((Aa a0 a1).1).Hi)],.bool ((Aa a0 a1).2)])] hF kr ⟨kr⟩ (Nr a0 a1 _ rfl (Ci w) w (Aj w)) ⟨kr⟩ ?_
      intro w a hx hF
      replace hS:=hS.later hx
      refine ⟨⟨St.pick [1] (by decide) hS,(hS.frz (i:=2) rfl hlow)⟩,?_⟩
      refine WT.s [9,10,11] [13] kr kr ?_
      refine Jj (rest:=[]) (obs:=[]) [9,10,11] [(0,sv ad1 p0 cap2),(1,sv ad4 p1 cap5),(5,sv a5 a4 a6),(6,iv a2),(7,iv a3),(8,pb aB),(30,.agg #[iv (((Aa a0 a1).1).Lo),iv (((Aa a0 a1).1).Hi)]),(31,.bool ((Aa a0 a1).2))] hF kr kr Af ⟨kr⟩ fun a hF=>?_
      refine WRun.fin ?_
      refine all_cons ?_ (Av)
      refine storeK (t:=25) [(0,sv ad1 p0 cap2),(1,sv ad4 p1 cap5),(5,sv a5 a4 a6),(6,iv a2),(7,iv a3),(8,pb aB),(31,.bool ((Aa a0 a1).2))] 0 0 (.agg #[iv (((Aa a0 a1).1).Lo),iv (((Aa a0 a1).1).Hi)]) #[iv (((Aa a0 a1).1).Lo),iv (((Aa a0 a1).1).Hi)] hF hS rfl kr ⟨kr⟩ kr kr kr kr ⟨kr⟩ fun w a hF hS=>⟨⟨St.pick [1] (by decide) hS,(hS.frz (i:=2) rfl hlow)⟩,?_⟩
      refine WT.z [14] kr ?_
      refine Jj (rest:=[]) (obs:=[]) [14] [(0,sv ad1 p0 cap2),(1,sv ad4 p1 cap5),(5,sv a5 a4 a6),(6,iv a2),(7,iv a3),(8,pb aB),(9,.bool ((Aa a0 a1).2))] hF kr kr Af ⟨kr⟩ fun a hF=>?_
      refine WRun.fin ?_
      exact ⟨aB,hF.sub kr,St.pick [0,1,2] (by decide) hS⟩
    rintro a w ⟨aD,hF,hS⟩
    refine wfn rfl ?_
    refine esr ?_
    refine rn 1 1 [(0,sv ad1 p0 cap2),(1,sv ad4 p1 cap5),(5,sv a5 a4 a6),(6,iv a2),(7,iv a3),(8,pb aD),(32,.bool ((Aa a0 a1).2))] hF fun a hF=>?_
    refine wfn rfl ?_
    refine Ar hF rfl (fun hc=>?_) (fun hc=>?_)
    ·replace h:=Al h hc
     refine WI.region ?_
     refine rno 2 [.run [] (Instr.loadAt 25 (pb aD)) (.agg #[iv (((Aa a0 a1).1).Lo),iv (((Aa a0 a1).1).Hi)])] 2 [(0,sv ad1 p0 cap2),(1,sv ad4 p1 cap5),(5,sv a5 a4 a6),(6,iv a2),(7,iv a3),(33,sv a5 a4 a6),(34,.agg #[iv (((Aa a0 a1).1).Lo),iv (((Aa a0 a1).1).Hi)])] hF (A0 (obN (us:=[iv (((Aa a0 a1).1).Lo),iv (((Aa a0 a1).1).Hi)]) kr (fun _ hd=>((hS.at_ hd).blk (i:=0) rfl).cells rfl)) Af) fun a hF=>?_
     refine SK.wi (U9 (e:=25) (sz:=2) (f:=api_Span.cells) (t:=132) (len:=1) (fun aO=>[(0,sv ad1 p0 cap2),(1,sv ad4 p1 cap5),(5,sv a5 a4 a6),(6,iv a2),(7,iv a3),(33,sv a5 a4 a6),(35,sb aO 1)]) #[(0,.agg #[iv (((Aa a0 a1).1).Lo),iv (((Aa a0 a1).1).Hi)])] #[iv (((Aa a0 a1).1).Lo),iv (((Aa a0 a1).1).Hi)] ([(api_Span.mk (((Aa a0 a1).1).Lo) (((Aa a0 a1).1).Hi))]) hF hS kr ⟨kr⟩ kr api_Span.cells_len rfl rfl kr (fun _=>⟨kr⟩) fun aO w a hF hS=>?_)
     replace h:=A5 h
     obtain ⟨aL,aW,h⟩:=h
     refine SK.wi (Wj (t:=132) (ty:=132) (bytes:=16) (l:=a4) (l':=([(api_Span.mk (((Aa a0 a1).1).Lo) (((Aa a0 a1).1).Hi))])) (fun aG aH=>[(0,sv ad1 p0 cap2),(1,sv ad4 p1 cap5),(5,sv a5 a4 a6),(6,iv a2),(7,iv a3),(36,sv aG aL aH)]) 2 hF hS rfl kr ⟨kr⟩ kr (hS.arr (i:=0) rfl) (fun _ _=>rfl) aW (fun _ _=>⟨kr⟩) fun aG aH w a hF hS=>?_)
     refine rn 1 5 [(0,sv ad1 p0 cap2),(1,sv ad4 p1 cap5),(5,sv aG aL aH),(6,iv a2),(7,iv a3)] hF fun a hF=>?_
     refine wfn rfl ?_
     exact ⟨aL,aG,aH,hF.sub kr,St.pick [2,3] (by decide) hS,h⟩
    ·replace h:=Ak h hc
     refine wpIn_skip (A4 ?_)
     exact ⟨a4,a5,a6,hF.sub kr,St.pick [1,2] (by decide) hS,h⟩
   rintro a w ⟨a7,a9,aA,hF,hS,h⟩
   rw [Do] at h
   refine Ba ?_
   replace h:=A5 h
   obtain ⟨aT,aP,h⟩:=h
   replace h:=A5 h
   obtain ⟨aU,aQ,h⟩:=h
   refine L8 (obs:=[.run [] (Instr.indexAt 132 (sv ad1 p0 cap2) (iv a2)) (.pointer (some (A3 ad1 a2 2))),.run [] (Instr.loadAt 3 (.pointer (some ((A3 ad1 a2 2).add 1)))) (iv aT.Hi),.run [] (Instr.indexAt 132 (sv ad4 p1 cap5) (iv a3)) (.pointer (some (A3 ad4 a3 2))),.run [] (Instr.loadAt 3 (.pointer (some ((A3 ad4 a3 2).add 1)))) (iv aU.Hi)]) 11 [(0,sv ad1 p0 cap2),(1,sv ad4 p1 cap5),(5,sv a9 a7 aA),(6,iv a2),(7,iv a3),(47,.bool (decide (aT.Hi<aU.Hi)))] kr hF kr (A0 (A8 (hA3 _ (hS.frz (i:=1) rfl hlow)) kr (fun _=>aP)) (A0 (An (i:=a2) 1 api_Span.cells_len (fun _ hd=>(hA3 _ ((hS.later hd).frz (i:=1) rfl hlow))) kr (fun _=>aP) rfl) (A0 (A8 (hA6 _ (hS.frz (i:=1) rfl hlow)) kr (fun _=>aQ)) (A0 (An (i:=a3) 1 api_Span.cells_len (fun _ hd=>(hA6 _ ((hS.later hd).frz (i:=1) rfl hlow))) kr (fun _=>aQ) rfl) Af)))) ⟨kr⟩ fun a w hF hx=>?_
   replace hS:=hS.later hx
   refine wfn rfl ?_
   refine Ar hF rfl (fun hc=>?_) (fun hc=>?_)
   ·replace h:=Al h hc
    refine WI.region ?_
    replace h:=A5 h
    obtain ⟨aM,aX,h⟩:=h
    refine rno 3 [.run [] (binOp .add 3 (iv a2) (iv 1)) (iv aM)] 3 [(0,sv ad1 p0 cap2),(1,sv ad4 p1 cap5),(5,sv a9 a7 aA),(6,iv aM),(7,iv a3)] hF (A0 (Bg (fun _=>aX)) Af) fun a hF=>?_
    refine WI.fin rfl (Ab<|A4<|?_)
    rw [hk2] at h
    exact ⟨nk2,Nat.lt_succ_self _,a7,aM,a3,a9,aA,hF.sub kr,St.pick [0,1] (by decide) hS,h⟩
   ·replace h:=Ak h hc
    refine WI.region ?_
    replace h:=A5 h
    obtain ⟨aN,aY,h⟩:=h
    refine rno 3 [.run [] (binOp .add 3 (iv a3) (iv 1)) (iv aN)] 3 [(0,sv ad1 p0 cap2),(1,sv ad4 p1 cap5),(5,sv a9 a7 aA),(6,iv a2),(7,iv aN)] hF (A0 (Bg (fun _=>aY)) Af) fun a hF=>?_
    refine WI.fin rfl (Ab<|A4<|?_)
    rw [hk2] at h
    exact ⟨nk2,Nat.lt_succ_self _,a7,a2,aN,a9,aA,hF.sub kr,St.pick [0,1] (by decide) hS,h⟩
  ·replace h:=Ak h hc
   refine wpIn_exit (A6<|A6<|Ai<|A4 ?_)
   exact ⟨a4,a5,a6,hF.sub kr,St.pick [0,1] (by decide) hS,h⟩
 rintro a w ⟨a8,aC,aF,hF,hS,h⟩
 rw [Dn] at h
 refine esr ?_
 refine rn 1 1 [(52,sv aC a8 aF)] hF fun a hF=>?_
 replace h:=A5 h
 obtain ⟨aI,aZ,h⟩:=h
 refine SK.wi (Es (fun aV=>[(53,aV)]) hF kr ⟨kr⟩ (Gr F a8 _ aZ (Ci w) w (Aj w) (Arr.toM (hS.arr (i:=0) rfl))) (fun _=>⟨kr⟩) ?_)
 rintro aV w a ⟨aJ,aK,rfl,hQ⟩ hF
 replace hS:St w0 [arr 25 2 api_Span.cells aJ aI.length aK aI,arr 25 2 api_Span.cells aC a8.length aF a8,fz w0 μ] w:=hS.madeL hQ
 refine rn 1 3 [(4,sv aJ aI aK)] hF fun a hF=>?_
 refine wfn rfl ?_
 refine wpIn_ret (B6 [.tmp 4] [sv aJ aI aK] hF rfl ⟨rfl,trivial⟩ ?_)
 have hr_:=Option.some.inj h
 subst hr_
 exact ⟨_,rfl,_,_,rfl,St.pick [0] (by decide) hS⟩
theorem Pp (F:Nat) (p0:(List api_Span)) (p1:Int) (res:(List api_Span)) (h:G3 F p0 p1=some res) (μ:Frz) (w0:World) (hm:FrzAt μ w0) {ad1:Option Addr} {cap2:Nat} (hA3:ArrM μ 2 api_Span.cells ad1 cap2 p0):F1 Try.prog 103 #[sv ad1 p0 cap2,iv p1] w0 (fun e w=>∃zad0 zcap0,e=(sv zad0 res zcap0)∧St w0 [arr 25 2 api_Span.cells zad0 res.length zcap0 res] w):=by
 obtain ⟨hlow,hS⟩:=hm.init
 have hext:=Frz.ext_refl w0.heap.size μ
 rw [G3] at h
 refine B5 Try.func103 rfl 29 [(0,sv ad1 p0 cap2),(1,iv p1)] rfl rfl kr fun a w hw hF=>?_
 replace hS:St w0 [fz w0 μ] w:=by rw [hw];exact hS
 clear hw
 refine esr ?_
 refine rn 1 1 [(0,sv ad1 p0 cap2),(1,iv p1)] hF fun a hF=>?_
 refine wfn rfl ?_
 refine esr ?_
 refine rn 1 1 [(0,sv ad1 p0 cap2),(1,iv p1),(5,.slice none 0 0)] hF fun a hF=>?_
 refine wfn rfl ?_
 refine Eb (fun a w=>∃(a5:(List api_Span)) (a8:Option Addr) (aB:Nat),Fr 29 [] [(5,sv a8 a5 aB)] a∧St w0 [arr 25 2 api_Span.cells a8 a5.length aB a5,fz w0 μ] w∧Ej F a5=some res) ?_ ?_
 ·skip
  refine esr ?_
  refine rn 3 3 [(1,iv p1),(5,.slice none 0 0),(8,sv ad1 p0 cap2),(9,iv (ln p0)),(10,iv 0)] hF fun a hF=>?_
  refine wfn rfl ?_
  refine wpIn_block ?_
  replace hS:=hS.nilarr 25 2 api_Span.cells
  refine D2 (fun n_ a w=>∃(a0:Int) (a1:(List api_Span)) (a3:Option Addr) (a4:Nat),Fr 29 [] [(1,iv p1),(5,sv a3 a1 a4),(8,sv ad1 p0 cap2),(9,iv (ln p0)),(10,iv a0)] a∧St w0 [arr 25 2 api_Span.cells a3 a1.length a4 a1,fz w0 μ] w∧Cl F p0 p1 n_ a0 a1=some res) F ⟨0,[],none,0,hF.sub kr,St.pick [0,1] (by decide) hS,h⟩ ?_
  rintro nk2 a w ⟨a0,a1,a3,a4,hF,hS,h⟩
  rcases nk2 with _|nk2
  ·cases (show (none:Option (List api_Span))=some res from h)
  obtain ⟨k2,hk2⟩:∃k,k=Cl F p0 p1 nk2:=⟨_,rfl⟩
  replace h:Ck F p0 p1 k2 a0 a1=some res:=by rw [hk2];exact h
  rw [Ck] at h
  refine esr ?_
  refine rn 1 1 [(1,iv p1),(5,sv a3 a1 a4),(8,sv ad1 p0 cap2),(9,iv (ln p0)),(10,iv a0),(11,.bool (decide (a0<(ln p0))))] hF fun a hF=>?_
  refine wfn rfl ?_
  refine Ba ?_
  refine Ar hF rfl (fun hc=>?_) (fun hc=>?_)
  ·replace h:=Al h hc
   refine wpIn_skip (A4 ?_)
   refine Ba ?_
   refine wpIn_block ?_
   refine esr ?_
   replace h:=A5 h
   obtain ⟨a2,aJ,h⟩:=h
   refine rno 2 [.run [] (Instr.indexAt 132 (sv ad1 p0 cap2) (iv a0)) (.pointer (some (A3 ad1 a0 2))),.run [] (Instr.loadAt 25 (.pointer (some (A3 ad1 a0 2)))) (.agg #[iv a2.Lo,iv a2.Hi])] 2 [(1,iv p1),(5,sv a3 a1 a4),(8,sv ad1 p0 cap2),(9,iv (ln p0)),(10,iv a0),(13,.agg #[iv a2.Lo,iv a2.Hi])] hF (A0 (A8 (hA3 _ (hS.frz (i:=1) rfl hlow)) kr (fun _=>aJ)) (A0 (Dx (m:=2) (i:=a0) (us:=[iv a2.Lo,iv a2.Hi]) 0 api_Span.cells_len (fun _ hd=>(hA3 _ ((hS.at_ hd).frz (i:=1) rfl hlow))) kr (fun _=>aJ) ⟨rfl,rfl⟩) Af)) fun a hF=>?_
   refine SK.wi (Bu (t:=25) (fun aA=>[(1,iv p1),(5,sv a3 a1 a4),(7,pb aA),(8,sv ad1 p0 cap2),(9,iv (ln p0)),(10,iv a0),(13,.agg #[iv a2.Lo,iv a2.Hi])]) #[iv 0,iv 0] hF hS kr ⟨kr⟩ kr (fun _=>⟨kr⟩) fun aA w a hF hS=>?_)
   refine SK.wi (storeK (t:=25) [(1,iv p1),(5,sv a3 a1 a4),(7,pb aA),(8,sv ad1 p0 cap2),(9,iv (ln p0)),(10,iv a0)] 0 0 (.agg #[iv a2.Lo,iv a2.Hi]) #[iv a2.Lo,iv a2.Hi] hF hS rfl kr ⟨kr⟩ kr kr kr kr ⟨kr⟩ fun w a hF hS=>?_)
   refine wfn rfl ?_
   refine WI.region ?_
   replace h:=A5 h
   obtain ⟨a6,aM,h⟩:=h
   replace h:=A5 h
   obtain ⟨a7,aN,h⟩:=h
   refine rno 10 [.run [] (Instr.loadAt 3 (pb aA)) (iv a2.Lo),.run [] (binOp .sub 3 (iv a2.Lo) (iv p1)) (iv a6),.run [] (Instr.loadAt 3 (.pointer (some ⟨aA,1,none⟩))) (iv a2.Hi),.run [] (binOp .add 3 (iv a2.Hi) (iv p1)) (iv a7)] 10 [(1,iv p1),(5,sv a3 a1 a4),(8,sv ad1 p0 cap2),(9,iv (ln p0)),(10,iv a0),(14,sv a3 a1 a4),(23,.agg #[iv a6,iv a7])] hF (A0 (ob1 kr (fun _ hd=>(hS.at_ hd).cell (i:=0) (j:=0) rfl rfl)) (A0 (Dl (fun _=>aM)) (A0 (ob1 kr (fun _ hd=>(hS.at_ hd).cell (i:=0) (j:=1) rfl rfl)) (A0 (Bg (fun _=>aN)) Af)))) fun a hF=>?_
   refine SK.wi (U9 (e:=25) (sz:=2) (f:=api_Span.cells) (t:=132) (len:=1) (fun aI=>[(1,iv p1),(5,sv a3 a1 a4),(8,sv ad1 p0 cap2),(9,iv (ln p0)),(10,iv a0),(14,sv a3 a1 a4),(24,sb aI 1)]) #[(0,.agg #[iv a6,iv a7])] #[iv a6,iv a7] ([(api_Span.mk a6 a7)]) hF hS kr ⟨kr⟩ kr api_Span.cells_len rfl rfl kr (fun _=>⟨kr⟩) fun aI w a hF hS=>?_)
   replace h:=A5 h
   obtain ⟨aD,aL,h⟩:=h
   refine SK.wi (Wj (t:=132) (ty:=132) (bytes:=16) (l:=a1) (l':=([(api_Span.mk a6 a7)])) (fun a9 aC=>[(1,iv p1),(5,sv a3 a1 a4),(8,sv ad1 p0 cap2),(9,iv (ln p0)),(10,iv a0),(25,sv a9 aD aC)]) 2 hF hS rfl kr ⟨kr⟩ kr (hS.arr (i:=0) rfl) (fun _ _=>rfl) aL (fun _ _=>⟨kr⟩) fun a9 aC w a hF hS=>?_)
   refine rn 1 13 [(1,iv p1),(5,sv a9 aD aC),(8,sv ad1 p0 cap2),(9,iv (ln p0)),(10,iv a0)] hF fun a hF=>?_
   refine WI.fin rfl (Ab<|A4<|?_)
   refine WI.region ?_
   replace h:=A5 h
   obtain ⟨aH,aO,h⟩:=h
   refine rno 2 [.run [] (binOp .add 3 (iv a0) (iv 1)) (iv aH)] 2 [(1,iv p1),(5,sv a9 aD aC),(8,sv ad1 p0 cap2),(9,iv (ln p0)),(10,iv aH)] hF (A0 (Bg (fun _=>aO)) Af) fun a hF=>?_
   refine wfn rfl ?_
   rw [hk2] at h
   exact ⟨nk2,Nat.lt_succ_self _,aH,aD,a9,aC,hF.sub kr,St.pick [2,3] (by decide) hS,h⟩
  ·replace h:=Ak h hc
   refine wpIn_exit (A6<|A6<|Ai<|A4 ?_)
   exact ⟨a1,a3,a4,hF.sub kr,St.pick [0,1] (by decide) hS,h⟩
 rintro a w ⟨a5,a8,aB,hF,hS,h⟩
 rw [Ej] at h
 refine esr ?_
 refine rn 1 1 [(27,sv a8 a5 aB)] hF fun a hF=>?_
 replace h:=A5 h
 obtain ⟨aE,aP,h⟩:=h
 refine SK.wi (Es (fun aK=>[(28,aK)]) hF kr ⟨kr⟩ (Gr F a5 _ aP (Ci w) w (Aj w) (Arr.toM (hS.arr (i:=0) rfl))) (fun _=>⟨kr⟩) ?_)
 rintro aK w a ⟨aF,aG,rfl,hQ⟩ hF
 replace hS:St w0 [arr 25 2 api_Span.cells aF aE.length aG aE,arr 25 2 api_Span.cells a8 a5.length aB a5,fz w0 μ] w:=hS.madeL hQ
 refine rn 1 3 [(4,sv aF aE aG)] hF fun a hF=>?_
 refine wfn rfl ?_
 refine wpIn_ret (B6 [.tmp 4] [sv aF aE aG] hF rfl ⟨rfl,trivial⟩ ?_)
 have hr_:=Option.some.inj h
 subst hr_
 exact ⟨_,rfl,_,_,rfl,St.pick [0] (by decide) hS⟩
theorem L1 (F:Nat) (p0:(List api_Span)) (p1:(List api_Span)) (p2:Int) (res:(List api_Span)) (h:D4 F p0 p1 p2=some res) (μ:Frz) (w0:World) (hm:FrzAt μ w0) {ad1:Option Addr} {cap2:Nat} {ad4:Option Addr} {cap5:Nat} (hA3:ArrM μ 2 api_Span.cells ad1 cap2 p0) (hA6:ArrM μ 2 api_Span.cells ad4 cap5 p1):F1 Try.prog 69 #[sv ad1 p0 cap2,sv ad4 p1 cap5,iv p2] w0 (fun e w=>∃zad0 zcap0,e=(sv zad0 res zcap0)∧St w0 [arr 25 2 api_Span.cells zad0 res.length zcap0 res] w):=by
 obtain ⟨hlow,hS⟩:=hm.init
 have hext:=Frz.ext_refl w0.heap.size μ
 rw [D4] at h
 refine B5 Try.func69 rfl 12 [(0,sv ad1 p0 cap2),(1,sv ad4 p1 cap5),(2,iv p2)] rfl rfl kr fun a w hw hF=>?_
 replace hS:St w0 [fz w0 μ] w:=by rw [hw];exact hS
 clear hw
 refine esr ?_
 refine rn 1 1 [(0,sv ad1 p0 cap2),(1,sv ad4 p1 cap5),(2,iv p2)] hF fun a hF=>?_
 refine wfn rfl ?_
 refine esr ?_
 refine rn 3 3 [(7,sv ad1 p0 cap2),(8,sv ad4 p1 cap5),(9,iv p2)] hF fun a hF=>?_
 replace h:=A5 h
 obtain ⟨y8,hy8,h⟩:=h
 refine SK.wi (Es (fun v7=>[(7,sv ad1 p0 cap2),(10,v7)]) hF kr ⟨kr⟩ (Pp F p1 p2 _ hy8 (Ci w) w (Aj w) (hA6.mono (FrzAt.le_mem (hS.frz (i:=0) rfl hlow)))) (fun _=>⟨kr⟩) ?_)
 rintro v7 w a ⟨ad9,a3,rfl,hQ⟩ hF
 replace hS:St w0 [arr 25 2 api_Span.cells ad9 y8.length a3 y8,fz w0 μ] w:=hS.madeL hQ
 replace h:=A5 h
 obtain ⟨a0,a5,h⟩:=h
 refine SK.wi (Es (fun a4=>[(11,a4)]) hF kr ⟨kr⟩ (Po F p0 y8 _ a5 (Ci w) w (Aj w) (hA3.mono (FrzAt.le_mem (hS.frz (i:=1) rfl hlow))) (Arr.toM (hS.arr (i:=0) rfl))) (fun _=>⟨kr⟩) ?_)
 rintro a4 w a ⟨a1,a2,rfl,hQ⟩ hF
 replace hS:St w0 [arr 25 2 api_Span.cells a1 a0.length a2 a0,arr 25 2 api_Span.cells ad9 y8.length a3 y8,fz w0 μ] w:=hS.madeL hQ
 refine rn 1 6 [(6,sv a1 a0 a2)] hF fun a hF=>?_
 refine wfn rfl ?_
 refine wpIn_ret (B6 [.tmp 6] [sv a1 a0 a2] hF rfl ⟨rfl,trivial⟩ ?_)
 have hr_:=Option.some.inj h
 subst hr_
 exact ⟨_,rfl,_,_,rfl,St.pick [0] (by decide) hS⟩
theorem Pt (F:Nat) (p0:Int) (p1:Int) (c0_:(List Int)) (c1_:Int) (c2_:(List (List api_Span))) (c3_:Int) (res:(List (List api_Span))) (h:K3 F p0 p1 c0_ c1_ c2_ c3_=some res) (μ:Frz) (w0 w1:World) (T_:List Res) (hlow:Bm w0 μ) {ad1:Option Addr} {cap2:Nat} {cb2:Nat} {cb3:Nat} {ad4:Option Addr} {cap5:Nat} {css6:List (List Value)} {cb4:Nat} {cb5:Nat} (hcb2:BlkM μ cb2 60 #[sv ad1 c0_ cap2]) (hA3:ArrM μ 1 fI ad1 cap2 c0_) (hcb3:BlkM μ cb3 3 #[iv c1_]) (hq7:All2 (Rp132 μ) css6 c2_) (hcb5:BlkM μ cb5 3 #[iv c3_]) (hS:St w0 (fz w0 μ::blk cb4 135 #[sv ad4 c2_ cap5]::arr 132 1 (fN 1) ad4 c2_.length cap5 css6::T_) w1):F1 Try.prog 68 #[iv p0,iv p1,pb cb2,pb cb3,pb cb4,pb cb5] w1 (fun e w=>∃(ν_:Frz) (css_0:List (List Value)),μ.ext w0.heap.size ν_∧Bm w0 ν_∧e=(.tuple #[])∧c2_.length=res.length∧All2 (Rp132 ν_) css_0 res∧St w0 (fz w0 ν_::blk cb4 135 #[sv ad4 res cap5]::arr 132 1 (fN 1) ad4 res.length cap5 css_0::T_) w):=by
 rw [K3] at h
 have hext:=Frz.ext_refl w0.heap.size μ
 have hle4:c2_.length=c2_.length:=rfl
 refine B5 Try.func68 rfl 55 [(0,iv p0),(1,iv p1),(2,pb cb2),(3,pb cb3),(4,pb cb4),(5,pb cb5)] rfl rfl kr fun a w hw hF=>?_
 replace hS:St w0 (fz w0 μ::blk cb4 135 #[sv ad4 c2_ cap5]::arr 132 1 (fN 1) ad4 c2_.length cap5 css6::T_) w:=by rw [hw];exact hS
 clear hw
 refine Ba ?_
 replace h:=A5 h
 obtain ⟨u8,hu8,h⟩:=h
 replace h:=A5 h
 obtain ⟨u9,hu9,h⟩:=h
 replace h:=A5 h
 obtain ⟨a1,b7,h⟩:=h
 replace h:=A5 h
 obtain ⟨aT,aO,h⟩:=h
 replace h:=A5 h
 obtain ⟨aU,aP,h⟩:=h
 replace h:=A5 h
 obtain ⟨a2,b8,h⟩:=h
 refine L8 (obs:=[.run [] (Instr.loadAt 60 (pb cb2)) (sv ad1 c0_ cap2),.run [] (Instr.indexAt 60 (sv ad1 c0_ cap2) (iv p0)) (.pointer (some (A3 ad1 p0 1))),.run [] (Instr.loadAt 3 (.pointer (some (A3 ad1 p0 1)))) (iv u8),.run [] (Instr.loadAt 60 (pb cb2)) (sv ad1 c0_ cap2),.run [] (Instr.indexAt 60 (sv ad1 c0_ cap2) (iv p1)) (.pointer (some (A3 ad1 p1 1))),.run [] (Instr.loadAt 3 (.pointer (some (A3 ad1 p1 1)))) (iv u9),.run [] (binOp .sub 3 (iv u8) (iv u9)) (iv a1),.run [] (Instr.loadAt 60 (pb cb2)) (sv ad1 c0_ cap2),.run [] (Instr.indexAt 60 (sv ad1 c0_ cap2) (iv p1)) (.pointer (some (A3 ad1 p1 1))),.run [] (Instr.loadAt 3 (.pointer (some (A3 ad1 p1 1)))) (iv aT),.run [] (Instr.loadAt 60 (pb cb2)) (sv ad1 c0_ cap2),.run [] (Instr.indexAt 60 (sv ad1 c0_ cap2) (iv p0)) (.pointer (some (A3 ad1 p0 1))),.run [] (Instr.loadAt 3 (.pointer (some (A3 ad1 p0 1)))) (iv aU),.run [] (binOp .sub 3 (iv aT) (iv aU)) (iv a2)]) 20 [(0,iv p0),(1,iv p1),(2,pb cb2),(3,pb cb3),(4,pb cb4),(5,pb cb5),(8,iv (if a2>a1 then a2 else a1))] kr hF kr (A0 (ob1 kr (fun _ hd=>(hcb2.blk ((hS.later hd).frz (i:=0) rfl hlow)).cell1 (j:=0) rfl)) (A0 (A8 (hA3 _ (hS.frz (i:=0) rfl hlow)) kr (fun _=>hu8)) (A0 (An (i:=p0) 0 K2 (fun _ hd=>(hA3 _ ((hS.later hd).frz (i:=0) rfl hlow))) kr (fun _=>hu8) rfl) (A0 (ob1 kr (fun _ hd=>(hcb2.blk ((hS.later hd).frz (i:=0) rfl hlow)).cell1 (j:=0) rfl)) (A0 (A8 (hA3 _ (hS.frz (i:=0) rfl hlow)) kr (fun _=>hu9)) (A0 (An (i:=p1) 0 K2 (fun _ hd=>(hA3 _ ((hS.later hd).frz (i:=0) rfl hlow))) kr (fun _=>hu9) rfl) (A0 (Dl (fun _=>b7)) (A0 (ob1 kr (fun _ hd=>(hcb2.blk ((hS.later hd).frz (i:=0) rfl hlow)).cell1 (j:=0) rfl)) (A0 (A8 (hA3 _ (hS.frz (i:=0) rfl hlow)) kr (fun _=>aO)) (A0 (An (i:=p1) 0 K2 (fun _ hd=>(hA3 _ ((hS.later hd).frz (i:=0) rfl hlow))) kr (fun _=>aO) rfl) (A0 (ob1 kr (fun _ hd=>(hcb2.blk ((hS.later hd).frz (i:=0) rfl hlow)).cell1 (j:=0) rfl)) (A0 (A8 (hA3 _ (hS.frz (i:=0) rfl hlow)) kr (fun _=>aP)) (A0 (An (i:=p0) 0 K2 (fun _ hd=>(hA3 _ ((hS.later hd).frz (i:=0) rfl hlow))) kr (fun _=>aP) rfl) (A0 (Dl (fun _=>b8)) Af)))))))))))))) ⟨kr⟩ fun a w hF hx=>?_
 replace hS:=hS.later hx
 refine wfn rfl ?_
 refine esr ?_
 refine rno 3 [.run [] (Instr.loadAt 3 (pb cb3)) (iv c1_)] 3 [(0,iv p0),(1,iv p1),(2,pb cb2),(4,pb cb4),(5,pb cb5),(8,iv (if a2>a1 then a2 else a1)),(30,.bool (decide ((if a2>a1 then a2 else a1)≤c1_)))] hF (A0 (ob1 kr (fun _ hd=>(hcb3.blk ((hS.at_ hd).frz (i:=0) rfl hlow)).cell1 (j:=0) rfl)) Af) fun a hF=>?_
 refine wfn rfl ?_
 refine Ar hF rfl (fun hc=>?_) (fun hc=>?_)
 ·replace h:=Al h hc
  replace h:=A5 h
  obtain ⟨a3,aQ,h⟩:=h
  replace h:=A5 h
  obtain ⟨a7,aR,h⟩:=h
  replace h:=A5 h
  obtain ⟨aC,b4,h⟩:=h
  replace h:=A5 h
  obtain ⟨a8,aS,h⟩:=h
  replace h:=A5 h
  obtain ⟨aD,b5,h⟩:=h
  replace h:=A5 h
  obtain ⟨aE,b9,h⟩:=h
  replace h:=A5 h
  obtain ⟨a4,bA,h⟩:=h
  replace h:=A5 h
  obtain ⟨bC,b6,h⟩:=h
  refine C5 24 [22] _ (D:=fun w=>St w0 [blk cb4 135 #[sv ad4 c2_ cap5],arr 132 1 (fN 1) ad4 c2_.length cap5 css6] w∧FrzAt μ w) kr kr hF.size (fun w hx=>?_) (fun _ _ h=>h)
  replace hS:=hS.later hx
  refine ⟨⟨St.pick [1,2] (by decide) hS,hS.frz (i:=0) rfl hlow⟩,?_⟩
  have bG:=Frz.le_refl μ
  obtain ⟨bD,aL,aZ⟩:=Ae hq7 b4
  obtain ⟨aF,aH,rfl,aA⟩:=aZ
  obtain ⟨bE,aM,b0⟩:=Ae hq7 b5
  obtain ⟨aG,aI,rfl,aB⟩:=b0
  refine WT.s [0,1,2,3,4,5,6,7,8,9,10,11,12,13,14,15,16,17,18,19,20,21] [22] kr kr ?_
  refine Jj (rest:=[]) (obs:=[.run [] (Instr.loadAt 135 (pb cb4)) (sv ad4 c2_ cap5),.run [] (Instr.loadAt 60 (pb cb2)) (sv ad1 c0_ cap2),.run [] (Instr.indexAt 60 (sv ad1 c0_ cap2) (iv p1)) (.pointer (some (A3 ad1 p1 1))),.run [] (Instr.loadAt 3 (.pointer (some (A3 ad1 p1 1)))) (iv a3),.run [] (Instr.loadAt 135 (pb cb4)) (sv ad4 c2_ cap5),.run [] (Instr.loadAt 60 (pb cb2)) (sv ad1 c0_ cap2),.run [] (Instr.indexAt 60 (sv ad1 c0_ cap2) (iv p1)) (.pointer (some (A3 ad1 p1 1))),.run [] (Instr.loadAt 3 (.pointer (some (A3 ad1 p1 1)))) (iv a7),.run [] (Instr.indexAt 135 (sv ad4 c2_ cap5) (iv a7)) (.pointer (some (A3 ad4 a7 1))),.run [] (Instr.loadAt 132 (.pointer (some (A3 ad4 a7 1)))) (sv aF aC aH),.run [] (Instr.loadAt 135 (pb cb4)) (sv ad4 c2_ cap5),.run [] (Instr.loadAt 60 (pb cb2)) (sv ad1 c0_ cap2),.run [] (Instr.indexAt 60 (sv ad1 c0_ cap2) (iv p0)) (.pointer (some (A3 ad1 p0 1))),.run [] (Instr.loadAt 3 (.pointer (some (A3 ad1 p0 1)))) (iv a8),.run [] (Instr.indexAt 135 (sv ad4 c2_ cap5) (iv a8)) (.pointer (some (A3 ad4 a8 1))),.run [] (Instr.loadAt 132 (.pointer (some (A3 ad4 a8 1)))) (sv aG aD aI),.run [] (Instr.loadAt 3 (pb cb5)) (iv c3_),.run [] (binOp .mul 3 (iv c3_) (iv (if a2>a1 then a2 else a1))) (iv aE)]) [0,1,2,3,4,5,6,7,8,9,10,11,12,13,14,15,16,17,18,19,20,21] [(31,sv ad4 c2_ cap5),(35,iv a3),(42,sv aF aC aH),(49,sv aG aD aI),(52,iv aE)] hF kr kr (A0 (ob1 kr (fun _ hd=>hd.1.cell (i:=0) (j:=0) rfl rfl)) (A0 (ob1 kr (fun _ hd=>(hcb2.blk hd.2).cell1 (j:=0) rfl)) (A0 (A8 (hA3 _ (hS.frz (i:=0) rfl hlow)) kr (fun _=>aQ)) (A0 (An (i:=p1) 0 K2 (fun _ hd=>(hA3 _ hd.2)) kr (fun _=>aQ) rfl) (A0 (ob1 kr (fun _ hd=>hd.1.cell (i:=0) (j:=0) rfl rfl)) (A0 (ob1 kr (fun _ hd=>(hcb2.blk hd.2).cell1 (j:=0) rfl)) (A0 (A8 (hA3 _ (hS.frz (i:=0) rfl hlow)) kr (fun _=>aR)) (A0 (An (i:=p1) 0 K2 (fun _ hd=>(hA3 _ hd.2)) kr (fun _=>aR) rfl) (A0 (A8 (hS.arr (i:=2) rfl) kr (fun _=>aL)) (A0 (An (i:=a7) 0 (As 1) (fun _ hd=>(hd.1.arr (i:=1) rfl)) kr (fun _=>aL) rfl) (A0 (ob1 kr (fun _ hd=>hd.1.cell (i:=0) (j:=0) rfl rfl)) (A0 (ob1 kr (fun _ hd=>(hcb2.blk hd.2).cell1 (j:=0) rfl)) (A0 (A8 (hA3 _ (hS.frz (i:=0) rfl hlow)) kr (fun _=>aS)) (A0 (An (i:=p0) 0 K2 (fun _ hd=>(hA3 _ hd.2)) kr (fun _=>aS) rfl) (A0 (A8 (hS.arr (i:=2) rfl) kr (fun _=>aM)) (A0 (An (i:=a8) 0 (As 1) (fun _ hd=>(hd.1.arr (i:=1) rfl)) kr (fun _=>aM) rfl) (A0 (ob1 kr (fun _ hd=>(hcb5.blk hd.2).cell1 (j:=0) rfl)) (A0 (Ul (fun _=>b9)) Af)))))))))))))))))) ⟨kr⟩ fun a hF=>?_
  refine WRun.fin ?_
  refine all_cons ?_ (Av)
  refine Es (fun aV=>[(31,sv ad4 c2_ cap5),(35,iv a3),(53,aV)]) hF kr ⟨kr⟩ (L1 F aC aD aE _ bA (Ci w) w (Aj w) (aA.mono (FrzAt.le_mem (hS.frz (i:=0) rfl hlow))) (aB.mono (FrzAt.le_mem (hS.frz (i:=0) rfl hlow)))) (fun _=>⟨kr⟩) ?_
  rintro aV w a ⟨a5,a6,rfl,hQ⟩ hF
  replace hS:St w0 (arr 25 2 api_Span.cells a5 a4.length a6 a4::fz w0 μ::blk cb4 135 #[sv ad4 c2_ cap5]::arr 132 1 (fN 1) ad4 c2_.length cap5 css6::T_) w:=hS.madeL hQ
  refine ⟨⟨St.pick [2,3] (by decide) hS,(hS.frz (i:=1) rfl hlow)⟩,?_⟩
  obtain ⟨bF,aN,b1⟩:=Ae hq7 b6
  obtain ⟨aW,aX,rfl,aK⟩:=b1
  refine WT.z [23] kr ?_
  refine Jj (rest:=[]) (obs:=[.run [] (Instr.indexAt 135 (sv ad4 c2_ cap5) (iv a3)) (.pointer (some (A3 ad4 a3 1)))]) [23] [(53,sv a5 a4 a6),(54,.pointer (some (A3 ad4 a3 1)))] hF kr kr (A0 (A8 (hS.arr (i:=3) rfl) kr (fun _=>aN)) Af) ⟨kr⟩ fun a hF=>?_
  refine WRun.fin ?_
  obtain ⟨ν86,a0,hlow,hS,bB⟩:=hS.freeze (i:=1) (j:=0) rfl rfl (by decide) hlow
  replace hcb2:=hcb2.mono a0.1
  replace hA3:=hA3.mono a0.1
  replace hcb3:=hcb3.mono a0.1
  replace hq7:=All2.mono Rp132.mono a0.1 hq7
  replace hcb5:=hcb5.mono a0.1
  replace aA:=aA.mono a0.1
  replace aB:=aB.mono a0.1
  replace aK:=aK.mono a0.1
  replace hext:=Frz.ext_trans hext a0
  replace hS:St w0 (fz w0 ν86::blk cb4 135 #[sv ad4 c2_ cap5]::arr 132 1 (fN 1) ad4 c2_.length cap5 css6::T_) w:=hS
  have aY:=ArrM.of_arr bB
  replace h:=A5 h
  obtain ⟨a9,b2,h⟩:=h
  refine SK.wi (A5t (j:=a3) (t:=132) [] 2 0 [sv aW bC aX] [sv a5 a4 a6] a4 (sv a5 a4 a6) (S:=Rp132 ν86) hq7 ⟨a5,a6,rfl,aY⟩ hF hS rfl kr ⟨kr⟩ (As 1) aN rfl kr kr kr b2 ⟨kr⟩ fun aJ w a hF hl b3 hS=>?_)
  replace hle4:=hle4.trans hl
  simp only [sv,ln,hl] at hF hS
  refine WI.fin rfl ?_
  refine Mr hF rfl ?_
  have hr_:=Option.some.inj h
  subst hr_
  replace hS:St w0 (fz w0 ν86::blk cb4 135 #[sv ad4 a9 cap5]::arr 132 1 (fN 1) ad4 a9.length cap5 aJ::T_) w:=hS
  replace hS:=St.pickT (A:=[fz w0 ν86,blk cb4 135 #[sv ad4 a9 cap5],arr 132 1 (fN 1) ad4 a9.length cap5 aJ]) (T:=T_) [0,1,2] (by decide) hS
  exact ⟨_,rfl,ν86,_,hext,hlow,rfl,hle4,b3,hS⟩
 ·replace h:=Ak h hc
  refine wpIn_skip ?_
  refine Mr hF rfl ?_
  have hr_:=Option.some.inj h
  subst hr_
  replace hS:St w0 (fz w0 μ::blk cb4 135 #[sv ad4 c2_ cap5]::arr 132 1 (fN 1) ad4 c2_.length cap5 css6::T_) w:=hS
  replace hS:=St.pickT (A:=[fz w0 μ,blk cb4 135 #[sv ad4 c2_ cap5],arr 132 1 (fN 1) ad4 c2_.length cap5 css6]) (T:=T_) [0,1,2] (by decide) hS
  exact ⟨_,rfl,μ,_,hext,hlow,rfl,hle4,hq7,hS⟩
end Go.Proofs.Ytbhjgebjojdohaa
