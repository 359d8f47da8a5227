import Derived.Test.YtbhjgebjojdohaaF10XD
import Derived.Test.YtbhjgebjojdohaaProg
import Derived.Test.YtbhjgebjojdohaaF10XW0
import Derived.Test.YtbhjgebjojdohaaF10XW3
import Derived.Test.YtbhjgebjojdohaaF10XW4
import Derived.Test.YtbhjgebjojdohaaF10XW5
namespace Go.Proofs.Ytbhjgebjojdohaa
open Go Go.RowKit Go.Eng
set_option maxRecDepth 10000
set_option maxHeartbeats 4000000
set_option linter.unusedVariables false
set_option linter.unusedSimpArgs false
theorem Y4 (F:Nat) (p0:(List (List api_Span))) (p1:Int) (p2:Int) (res:((List (List api_Span))×Int)) (h:Nq F p0 p1 p2=some res) (μ:Frz) (w0:World) (hm:FrzAt μ w0) {ad1:Option Addr} {cap2:Nat} {css3:List (List Value)} (hA4:ArrQ μ 1 Rp43 ad1 cap2 css3 p0):F1 Try.prog 24 #[sv ad1 p0 cap2,iv p1,iv p2] w0 (fun e w=>∃(ν_:Frz) (zad0:Option Addr) (zcap0:Nat) (zcss0:List (List Value)),μ.ext w0.heap.size ν_∧e=(.tuple #[sv zad0 res.1 zcap0,iv res.2])∧All2 (Rp43 ν_) zcss0 res.1∧St w0 [fz w0 ν_,arr 43 1 (fN 1) zad0 res.1.length zcap0 zcss0] w):=by
 obtain ⟨hlow,hS⟩:=hm.init
 have hext:=Frz.ext_refl w0.heap.size μ
 rw [Nq] at h
 refine B5 Try.func24 rfl 55 [(0,sv ad1 p0 cap2),(1,iv p1),(2,iv p2)] rfl rfl kr fun a w hw hF=>?_
 replace hS:St w0 [fz w0 μ] w:=by rw [hw];exact hS
 clear hw
 refine esr ?_
 refine SK.wi (Tg (t:=3) (fun b5=>[(0,sv ad1 p0 cap2),(2,iv p2),(4,pb b5)]) (iv p1) #[iv p1] hF hS kr ⟨kr⟩ kr (fun _=>⟨kr⟩) fun b5 w a hF hS=>?_)
 refine SK.wi (Tg (t:=3) (fun b6=>[(0,sv ad1 p0 cap2),(4,pb b5),(5,pb b6)]) (iv p2) #[iv p2] hF hS kr ⟨kr⟩ kr (fun _=>⟨kr⟩) fun b6 w a hF hS=>?_)
 refine rn 2 4 [(0,sv ad1 p0 cap2),(4,pb b5),(5,pb b6)] hF fun a hF=>?_
 refine wfn rfl ?_
 refine esr ?_
 refine rn 1 1 [(4,pb b5),(5,pb b6),(15,sv ad1 p0 cap2)] hF fun a hF=>?_
 replace h:=A5 h
 obtain ⟨y8,hy8,h⟩:=h
 refine SK.wi (Es (fun v7=>[(4,pb b5),(5,pb b6),(16,v7)]) hF kr ⟨kr⟩ (S9 F p0 _ hy8 μ w (hS.frz (i:=2) rfl hlow) hA4) (fun _=>⟨kr⟩) ?_)
 rintro v7 w a ⟨ν9,a4,a5,aR,bF,rfl,a2,hQ⟩ hF
 replace hext:=Frz.ext_trans hext (Frz.ext_mono bF hS.ext.size)
 obtain ⟨hlow,hS⟩:=hS.frzMerge (i:=2) rfl hlow bF hQ
 replace hA4:=hA4.mono Rp43.mono bF.1
 replace hS:St w0 [arr 132 1 (fN 1) a4 y8.1.length a5 aR,blk b6 3 #[iv p2],blk b5 3 #[iv p1],fz w0 ν9] w:=hS
 refine rn 3 5 [(4,pb b5),(5,pb b6),(17,sv a4 y8.1 a5),(18,iv y8.2)] hF fun a hF=>?_
 refine SK.wi (Bu (t:=135) (fun a0=>[(4,pb b5),(5,pb b6),(8,pb a0),(17,sv a4 y8.1 a5),(18,iv y8.2)]) #[.slice none 0 0] hF hS kr ⟨kr⟩ kr (fun _=>⟨kr⟩) fun a0 w a hF hS=>?_)
 refine SK.wi (storeK (t:=135) [(4,pb b5),(5,pb b6),(8,pb a0),(18,iv y8.2)] 0 0 (sv a4 y8.1 a5) #[sv a4 y8.1 a5] hF hS rfl kr ⟨kr⟩ kr kr kr kr ⟨kr⟩ fun w a hF hS=>?_)
 refine rn 1 8 [(4,pb b5),(5,pb b6),(8,pb a0),(9,iv y8.2)] hF fun a hF=>?_
 refine wfn rfl ?_
 refine Eb (fun a w=>∃(aU:Int),Fr 55 [] [(4,pb b5),(5,pb b6),(8,pb a0),(9,iv aU)] a∧St w0 [blk a0 135 #[sv a4 y8.1 a5],arr 132 1 (fN 1) a4 y8.1.length a5 aR,blk b6 3 #[iv p2],blk b5 3 #[iv p1],fz w0 ν9] w∧Gz F p1 p2 y8 aU=some res) ?_ ?_
 ·skip
  refine esr ?_
  refine rn 2 2 [(4,pb b5),(5,pb b6),(8,pb a0),(9,iv y8.2),(20,.bool (y8.2==0))] hF fun a hF=>?_
  refine wfn rfl ?_
  refine Ar hF rfl (fun hc=>?_) (fun hc=>?_)
  ·replace h:=Al h hc
   refine WI.region ?_
   refine rx 4 [.run [] (Instr.loadAt 3 (pb b5)) (iv p1),.run [] (Instr.loadAt 3 (pb b6)) (iv p2),.call [] 66 #[iv p1,iv p2] (iv (Bk p1 p2))] 4 [(4,pb b5),(5,pb b6),(8,pb a0),(9,iv (Bk p1 p2))] hF (A0 (ob1 kr (fun _ hd=>(hS.later hd).cell (i:=3) (j:=0) rfl rfl)) (A0 (ob1 kr (fun _ hd=>(hS.later hd).cell (i:=2) (j:=0) rfl rfl)) (A0 (show Ob.ok _ Ext _ _ from fun hk w2 hd=>Nd p1 p2 _ rfl _ w2 (Aj w2)) Af))) fun a w hF hx=>?_
   replace hS:=hS.later hx
   refine wfn rfl ?_
   exact ⟨(Bk p1 p2),hF.sub kr,St.pick [0,1,2,3,4] (by decide) hS,h⟩
  ·replace h:=Ak h hc
   refine wpIn_skip (A4 ?_)
   exact ⟨y8.2,hF.sub kr,St.pick [0,1,2,3,4] (by decide) hS,h⟩
 rintro a w ⟨aU,hF,hS,h⟩
 rw [Gz] at h
 refine Ba ?_
 refine esr ?_
 refine rn 2 2 [(4,pb b5),(5,pb b6),(8,pb a0),(9,iv aU),(25,.bool (aU != 0))] hF fun a hF=>?_
 refine wfn rfl ?_
 refine Ar hF rfl (fun hc=>?_) (fun hc=>?_)
 ·replace h:=Al h hc
  refine esr ?_
  refine rn 3 3 [(6,.slice none 0 0),(7,iv aU)] hF fun a hF=>?_
  refine wfn rfl ?_
  refine wpIn_ret (Ac<|B6 [.tmp 6,.tmp 7] [.slice none 0 0,iv aU] hF rfl ⟨rfl,rfl,trivial⟩ ?_)
  have hr_:=Option.some.inj h
  subst hr_
  replace hS:=hS.nilarr 43 1 (fN 1)
  exact ⟨_,rfl,ν9,_,_,_,hext,rfl,All2.nil,St.pick [5,0] (by decide) hS⟩
 ·replace h:=Ak h hc
  refine wpIn_skip (A4 ?_)
  refine esr ?_
  refine rno 1 [.run [] (Instr.loadAt 135 (pb a0)) (sv a4 y8.1 a5)] 1 [(4,pb b5),(5,pb b6),(8,pb a0),(27,sv a4 y8.1 a5)] hF (A0 (ob1 kr (fun _ hd=>(hS.at_ hd).cell (i:=0) (j:=0) rfl rfl)) Af) fun a hF=>?_
  replace h:=A5 h
  obtain ⟨a6,c7,h⟩:=h
  refine SK.wi (Es (fun bU=>[(4,pb b5),(5,pb b6),(8,pb a0),(28,bU)]) hF kr ⟨kr⟩ (Lz F y8.1 _ c7 (Ci w) w (Aj w) (ArrQ.of_own (hS.arr (i:=1) rfl) a2 Rp132.mono (FrzAt.le_mem (hS.frz (i:=4) rfl hlow)))) (fun _=>⟨kr⟩) ?_)
  rintro bU w a ⟨aP,aQ,rfl,hQ⟩ hF
  replace hS:St w0 [arr 3 1 fI aP a6.length aQ a6,blk a0 135 #[sv a4 y8.1 a5],arr 132 1 (fN 1) a4 y8.1.length a5 aR,blk b6 3 #[iv p2],blk b5 3 #[iv p1],fz w0 ν9] w:=hS.madeL hQ
  refine SK.wi (Bu (t:=60) (fun a1=>[(4,pb b5),(5,pb b6),(8,pb a0),(10,pb a1),(28,sv aP a6 aQ)]) #[.slice none 0 0] hF hS kr ⟨kr⟩ kr (fun _=>⟨kr⟩) fun a1 w a hF hS=>?_)
  refine SK.wi (storeK (t:=60) [(4,pb b5),(5,pb b6),(8,pb a0),(10,pb a1)] 0 0 (sv aP a6 aQ) #[sv aP a6 aQ] hF hS rfl kr ⟨kr⟩ kr kr kr kr ⟨kr⟩ fun w a hF hS=>?_)
  refine wfn rfl ?_
  refine esr ?_
  obtain ⟨ν22,bG,hlow,hS,cB⟩:=hS.freeze (i:=6) (j:=1) rfl rfl (by decide) hlow
  replace hA4:=hA4.mono Rp43.mono bG.1
  replace a2:=All2.mono Rp132.mono bG.1 a2
  replace hext:=Frz.ext_trans hext bG
  replace hS:St w0 [blk a1 60 #[sv aP a6 aQ],blk a0 135 #[sv a4 y8.1 a5],arr 132 1 (fN 1) a4 y8.1.length a5 aR,blk b6 3 #[iv p2],blk b5 3 #[iv p1],fz w0 ν22] w:=hS
  have a3:=ArrM.of_arr cB
  obtain ⟨ν26,b9,hlow,hS,cC⟩:=hS.freeze (i:=5) (j:=0) rfl rfl (by decide) hlow
  replace hA4:=hA4.mono Rp43.mono b9.1
  replace a2:=All2.mono Rp132.mono b9.1 a2
  replace a3:=a3.mono b9.1
  replace hext:=Frz.ext_trans hext b9
  replace hS:St w0 [blk a0 135 #[sv a4 y8.1 a5],arr 132 1 (fN 1) a4 y8.1.length a5 aR,blk b6 3 #[iv p2],blk b5 3 #[iv p1],fz w0 ν26] w:=hS
  have hB29:BlkM ν26 a1 60 #[sv aP a6 aQ]:=cC
  obtain ⟨ν30,b1,hlow,hS,cD⟩:=hS.freeze (i:=4) (j:=2) rfl rfl (by decide) hlow
  replace hA4:=hA4.mono Rp43.mono b1.1
  replace a2:=All2.mono Rp132.mono b1.1 a2
  replace a3:=a3.mono b1.1
  replace hB29:=hB29.mono b1.1
  replace hext:=Frz.ext_trans hext b1
  replace hS:St w0 [blk a0 135 #[sv a4 y8.1 a5],arr 132 1 (fN 1) a4 y8.1.length a5 aR,blk b5 3 #[iv p1],fz w0 ν30] w:=hS
  have hB33:BlkM ν30 b6 3 #[iv p2]:=cD
  obtain ⟨ν34,aZ,hlow,hS,cE⟩:=hS.freeze (i:=3) (j:=2) rfl rfl (by decide) hlow
  replace hA4:=hA4.mono Rp43.mono aZ.1
  replace a2:=All2.mono Rp132.mono aZ.1 a2
  replace a3:=a3.mono aZ.1
  replace hB29:=hB29.mono aZ.1
  replace hB33:=hB33.mono aZ.1
  replace hext:=Frz.ext_trans hext aZ
  replace hS:St w0 [blk a0 135 #[sv a4 y8.1 a5],arr 132 1 (fN 1) a4 y8.1.length a5 aR,fz w0 ν34] w:=hS
  have hB37:BlkM ν34 b5 3 #[iv p1]:=cE
  refine rn 2 2 [(8,pb a0),(10,pb a1),(11,.func (.func 68) #[] #[pb a1,pb b6,pb a0,pb b5])] hF fun a hF=>?_
  refine wfn rfl ?_
  have aY:=Frz.le_refl ν34
  refine Eb (fun a w=>∃(b0:(List (List api_Span))) (ν82:Frz) (b2:Option Addr) (b3:Nat) (b4:List (List Value)),Fr 55 [] [(8,pb a0),(10,pb a1),(11,.func (.func 68) #[] #[pb a1,pb b6,pb a0,pb b5])] a∧St w0 [arr 132 1 (fN 1) b2 b0.length b3 b4,blk a0 135 #[sv b2 b0 b3],fz w0 ν82] w∧(All2 (Rp132 ν82) b4 b0)∧(ν34.le ν82)∧(μ.ext w0.heap.size ν82)∧(Bm w0 ν82)∧Jb F p1 p2 a6 b0=some res) ?_ ?_
  ·skip
   refine esr ?_
   refine rn 1 1 [(8,pb a0),(10,pb a1),(11,.func (.func 68) #[] #[pb a1,pb b6,pb a0,pb b5]),(12,iv 1)] hF fun a hF=>?_
   refine wfn rfl ?_
   refine wpIn_block ?_
   have bS:=Frz.le_refl ν34
   refine D2 (fun n_ a w=>∃(aD:(List (List api_Span))) (aF:Int) (ν226:Frz) (aH:Option Addr) (aJ:Nat) (aW:List (List Value)),Fr 55 [] [(8,pb a0),(10,pb a1),(11,.func (.func 68) #[] #[pb a1,pb b6,pb a0,pb b5]),(12,iv aF)] a∧St w0 [arr 132 1 (fN 1) aH aD.length aJ aW,blk a0 135 #[sv aH aD aJ],fz w0 ν226] w∧(All2 (Rp132 ν226) aW aD)∧(ν34.le ν226)∧(μ.ext w0.heap.size ν226)∧(Bm w0 ν226)∧D3 F p1 p2 a6 n_ aD aF=some res) F ⟨y8.1,1,ν34,a4,a5,aR,hF.sub kr,St.pick [1,0,2] (by decide) hS,a2,bS,hext,hlow,h⟩ ?_
   clear bS
   rintro nk5 a w ⟨aD,aF,ν226,aH,aJ,aW,hF,hS,b8,aN,hext,hlow,h⟩
   rcases nk5 with _|nk5
   ·cases (show (none:Option ((List (List api_Span))×Int))=some res from h)
   replace hA4:=hA4.mono Rp43.mono aN
   replace a2:=All2.mono Rp132.mono aN a2
   replace a3:=a3.mono aN
   replace hB29:=hB29.mono aN
   replace hB33:=hB33.mono aN
   replace hB37:=hB37.mono aN
   replace aY:=Frz.le_trans aY aN
   obtain ⟨k5,hk5⟩:∃k,k=D3 F p1 p2 a6 nk5:=⟨_,rfl⟩
   replace h:Fb F p1 p2 a6 k5 aD aF=some res:=by rw [hk5];exact h
   rw [Fb] at h
   refine Ba ?_
   refine esr ?_
   refine rno 4 [.run [] (Instr.loadAt 60 (pb a1)) (sv aP a6 aQ)] 4 [(8,pb a0),(10,pb a1),(11,.func (.func 68) #[] #[pb a1,pb b6,pb a0,pb b5]),(12,iv aF),(33,.bool (decide (aF<(ln a6))))] hF (A0 (ob1 kr (fun _ hd=>(hB29.blk ((hS.at_ hd).frz (i:=2) rfl hlow)).cell1 (j:=0) rfl)) Af) fun a hF=>?_
   refine wfn rfl ?_
   refine Ar hF rfl (fun hc=>?_) (fun hc=>?_)
   ·replace h:=Al h hc
    refine wpIn_skip (A4 ?_)
    refine Ba ?_
    refine wpIn_block ?_
    refine WI.region ?_
    replace h:=A5 h
    obtain ⟨bK,c4,h⟩:=h
    refine rno 4 [.run [] (binOp .sub 3 (iv aF) (iv 1)) (iv bK)] 4 [(8,pb a0),(10,pb a1),(11,.func (.func 68) #[] #[pb a1,pb b6,pb a0,pb b5]),(12,iv aF),(36,.func (.func 68) #[] #[pb a1,pb b6,pb a0,pb b5]),(38,iv bK),(39,iv aF)] hF (A0 (Dl (fun _=>c4)) Af) fun a hF=>?_
    replace h:=A5 h
    obtain ⟨bO,c9,h⟩:=h
    replace hS:St w0 [arr 132 1 (fN 1) aH aD.length aJ aW,blk a0 135 #[sv aH aD aJ],fz w0 ν226] w:=hS
    replace hS:St w0 [fz w0 ν226,blk a0 135 #[sv aH aD aJ],arr 132 1 (fN 1) aH aD.length aJ aW] w:=St.pick [2,1,0] (by decide) hS
    refine SK.wi (Es (fun cG=>[(8,pb a0),(10,pb a1),(11,.func (.func 68) #[] #[pb a1,pb b6,pb a0,pb b5]),(12,iv aF)]) hF kr ⟨kr⟩ (Pt F bK aF a6 p2 aD p1 _ c9 ν226 w0 w _ hlow hB29 a3 hB33 b8 hB37 hS) (fun _=>⟨kr⟩) ?_)
    rintro cG w a ⟨ν237,bQ,aO,hlow,rfl,bX,c0,hS⟩ hF
    replace hext:=Frz.ext_trans hext aO
    replace hA4:=hA4.mono Rp43.mono aO.1
    replace a2:=All2.mono Rp132.mono aO.1 a2
    replace a3:=a3.mono aO.1
    replace hB29:=hB29.mono aO.1
    replace hB33:=hB33.mono aO.1
    replace hB37:=hB37.mono aO.1
    replace b8:=All2.mono Rp132.mono aO.1 b8
    replace aY:=Frz.le_trans aY aO.1
    replace aN:=Frz.le_trans aN aO.1
    try simp only [sv,ln,bX] at hF hS
    replace hS:St w0 [fz w0 ν237,blk a0 135 #[sv aH bO aJ],arr 132 1 (fN 1) aH bO.length aJ bQ] w:=hS
    refine WI.fin rfl (Ab<|A4<|?_)
    refine WI.region ?_
    replace h:=A5 h
    obtain ⟨bL,c5,h⟩:=h
    refine rno 3 [.run [] (binOp .add 3 (iv aF) (iv 1)) (iv bL)] 3 [(8,pb a0),(10,pb a1),(11,.func (.func 68) #[] #[pb a1,pb b6,pb a0,pb b5]),(12,iv bL)] hF (A0 (Bg (fun _=>c5)) Af) fun a hF=>?_
    refine wfn rfl ?_
    rw [hk5] at h
    exact ⟨nk5,Nat.lt_succ_self _,bO,bL,ν237,aH,aJ,bQ,hF.sub kr,St.pick [2,1,0] (by decide) hS,c0,aN,hext,hlow,h⟩
   ·replace h:=Ak h hc
    refine wpIn_exit (A6<|A6<|Ai<|A4 ?_)
    exact ⟨aD,ν226,aH,aJ,aW,hF.sub kr,St.pick [0,1,2] (by decide) hS,b8,aY,hext,hlow,h⟩
  clear aY
  rintro a w ⟨b0,ν82,b2,b3,b4,hF,hS,aK,a7,hext,hlow,h⟩
  replace hA4:=hA4.mono Rp43.mono a7
  replace a2:=All2.mono Rp132.mono a7 a2
  replace a3:=a3.mono a7
  replace hB29:=hB29.mono a7
  replace hB33:=hB33.mono a7
  replace hB37:=hB37.mono a7
  rw [Jb] at h
  have aX:=Frz.le_refl ν82
  refine Eb (fun a w=>∃(aM:(List (List api_Span))) (ν134:Frz) (aS:Option Addr) (aT:Nat) (bC:List (List Value)),Fr 55 [] [(8,pb a0)] a∧St w0 [arr 132 1 (fN 1) aS aM.length aT bC,blk a0 135 #[sv aS aM aT],fz w0 ν134] w∧(All2 (Rp132 ν134) bC aM)∧(ν82.le ν134)∧(μ.ext w0.heap.size ν134)∧(Bm w0 ν134)∧Jc F aM=some res) ?_ ?_
  ·skip
   refine esr ?_
   replace h:=A5 h
   obtain ⟨bH,c1,h⟩:=h
   refine rno 4 [.run [] (Instr.loadAt 60 (pb a1)) (sv aP a6 aQ),.run [] (binOp .sub 3 (iv (ln a6)) (iv 1)) (iv bH)] 4 [(8,pb a0),(11,.func (.func 68) #[] #[pb a1,pb b6,pb a0,pb b5]),(13,iv bH)] hF (A0 (ob1 kr (fun _ hd=>(hB29.blk ((hS.at_ hd).frz (i:=2) rfl hlow)).cell1 (j:=0) rfl)) (A0 (Dl (fun _=>c1)) Af)) fun a hF=>?_
   refine wfn rfl ?_
   refine wpIn_block ?_
   have bR:=Frz.le_refl ν82
   refine D2 (fun n_ a w=>∃(aC:(List (List api_Span))) (aE:Int) (ν181:Frz) (aG:Option Addr) (aI:Nat) (aV:List (List Value)),Fr 55 [] [(8,pb a0),(11,.func (.func 68) #[] #[pb a1,pb b6,pb a0,pb b5]),(13,iv aE)] a∧St w0 [arr 132 1 (fN 1) aG aC.length aI aV,blk a0 135 #[sv aG aC aI],fz w0 ν181] w∧(All2 (Rp132 ν181) aV aC)∧(ν82.le ν181)∧(μ.ext w0.heap.size ν181)∧(Bm w0 ν181)∧Ds F p1 p2 a6 n_ aC aE=some res) F ⟨b0,bH,ν82,b2,b3,b4,hF.sub kr,St.pick [0,1,2] (by decide) hS,aK,bR,hext,hlow,h⟩ ?_
   clear bR
   rintro nk4 a w ⟨aC,aE,ν181,aG,aI,aV,hF,hS,b7,a9,hext,hlow,h⟩
   rcases nk4 with _|nk4
   ·cases (show (none:Option ((List (List api_Span))×Int))=some res from h)
   replace hA4:=hA4.mono Rp43.mono a9
   replace a2:=All2.mono Rp132.mono a9 a2
   replace a3:=a3.mono a9
   replace hB29:=hB29.mono a9
   replace hB33:=hB33.mono a9
   replace hB37:=hB37.mono a9
   replace aK:=All2.mono Rp132.mono a9 aK
   replace a7:=Frz.le_trans a7 a9
   replace aX:=Frz.le_trans aX a9
   obtain ⟨k4,hk4⟩:∃k,k=Ds F p1 p2 a6 nk4:=⟨_,rfl⟩
   replace h:Fa F p1 p2 a6 k4 aC aE=some res:=by rw [hk4];exact h
   rw [Fa] at h
   refine Ba ?_
   refine esr ?_
   refine rn 2 2 [(8,pb a0),(11,.func (.func 68) #[] #[pb a1,pb b6,pb a0,pb b5]),(13,iv aE),(45,.bool (decide (aE>0)))] hF fun a hF=>?_
   refine wfn rfl ?_
   refine Ar hF rfl (fun hc=>?_) (fun hc=>?_)
   ·replace h:=Al h hc
    refine wpIn_skip (A4 ?_)
    refine Ba ?_
    refine wpIn_block ?_
    refine WI.region ?_
    replace h:=A5 h
    obtain ⟨bI,c2,h⟩:=h
    refine rno 4 [.run [] (binOp .sub 3 (iv aE) (iv 1)) (iv bI)] 4 [(8,pb a0),(11,.func (.func 68) #[] #[pb a1,pb b6,pb a0,pb b5]),(13,iv aE),(48,.func (.func 68) #[] #[pb a1,pb b6,pb a0,pb b5]),(49,iv aE),(51,iv bI)] hF (A0 (Dl (fun _=>c2)) Af) fun a hF=>?_
    replace h:=A5 h
    obtain ⟨bN,c8,h⟩:=h
    replace hS:St w0 [arr 132 1 (fN 1) aG aC.length aI aV,blk a0 135 #[sv aG aC aI],fz w0 ν181] w:=hS
    replace hS:St w0 [fz w0 ν181,blk a0 135 #[sv aG aC aI],arr 132 1 (fN 1) aG aC.length aI aV] w:=St.pick [2,1,0] (by decide) hS
    refine SK.wi (Es (fun cF=>[(8,pb a0),(11,.func (.func 68) #[] #[pb a1,pb b6,pb a0,pb b5]),(13,iv aE)]) hF kr ⟨kr⟩ (Pt F aE bI a6 p2 aC p1 _ c8 ν181 w0 w _ hlow hB29 a3 hB33 b7 hB37 hS) (fun _=>⟨kr⟩) ?_)
    rintro cF w a ⟨ν192,bP,aB,hlow,rfl,bW,bZ,hS⟩ hF
    replace hext:=Frz.ext_trans hext aB
    replace hA4:=hA4.mono Rp43.mono aB.1
    replace a2:=All2.mono Rp132.mono aB.1 a2
    replace a3:=a3.mono aB.1
    replace hB29:=hB29.mono aB.1
    replace hB33:=hB33.mono aB.1
    replace hB37:=hB37.mono aB.1
    replace aK:=All2.mono Rp132.mono aB.1 aK
    replace b7:=All2.mono Rp132.mono aB.1 b7
    replace a7:=Frz.le_trans a7 aB.1
    replace aX:=Frz.le_trans aX aB.1
    replace a9:=Frz.le_trans a9 aB.1
    try simp only [sv,ln,bW] at hF hS
    replace hS:St w0 [fz w0 ν192,blk a0 135 #[sv aG bN aI],arr 132 1 (fN 1) aG bN.length aI bP] w:=hS
    refine WI.fin rfl (Ab<|A4<|?_)
    refine WI.region ?_
    replace h:=A5 h
    obtain ⟨bJ,c3,h⟩:=h
    refine rno 3 [.run [] (binOp .sub 3 (iv aE) (iv 1)) (iv bJ)] 3 [(8,pb a0),(11,.func (.func 68) #[] #[pb a1,pb b6,pb a0,pb b5]),(13,iv bJ)] hF (A0 (Dl (fun _=>c3)) Af) fun a hF=>?_
    refine wfn rfl ?_
    rw [hk4] at h
    exact ⟨nk4,Nat.lt_succ_self _,bN,bJ,ν192,aG,aI,bP,hF.sub kr,St.pick [2,1,0] (by decide) hS,bZ,a9,hext,hlow,h⟩
   ·replace h:=Ak h hc
    refine wpIn_exit (A6<|A6<|Ai<|A4 ?_)
    exact ⟨aC,ν181,aG,aI,aV,hF.sub kr,St.pick [0,1,2] (by decide) hS,b7,aX,hext,hlow,h⟩
  clear aX
  rintro a w ⟨aM,ν134,aS,aT,bC,hF,hS,bE,a8,hext,hlow,h⟩
  replace hA4:=hA4.mono Rp43.mono a8
  replace a2:=All2.mono Rp132.mono a8 a2
  replace a3:=a3.mono a8
  replace hB29:=hB29.mono a8
  replace hB33:=hB33.mono a8
  replace hB37:=hB37.mono a8
  replace aK:=All2.mono Rp132.mono a8 aK
  replace a7:=Frz.le_trans a7 a8
  rw [Jc] at h
  refine esr ?_
  refine rno 1 [.run [] (Instr.loadAt 135 (pb a0)) (sv aS aM aT)] 1 [(53,sv aS aM aT)] hF (A0 (ob1 kr (fun _ hd=>(hS.at_ hd).cell (i:=1) (j:=0) rfl rfl)) Af) fun a hF=>?_
  obtain ⟨ν141,aL,hlow,hS,cA⟩:=hS.freeze (i:=2) (j:=0) rfl rfl (by decide) hlow
  replace hA4:=hA4.mono Rp43.mono aL.1
  replace a2:=All2.mono Rp132.mono aL.1 a2
  replace a3:=a3.mono aL.1
  replace hB29:=hB29.mono aL.1
  replace hB33:=hB33.mono aL.1
  replace hB37:=hB37.mono aL.1
  replace aK:=All2.mono Rp132.mono aL.1 aK
  replace bE:=All2.mono Rp132.mono aL.1 bE
  replace a7:=Frz.le_trans a7 aL.1
  replace a8:=Frz.le_trans a8 aL.1
  replace hext:=Frz.ext_trans hext aL
  replace hS:St w0 [blk a0 135 #[sv aS aM aT],fz w0 ν141] w:=hS
  have bD:=ArrQ.of_arr (l:=aM) cA bE Rp132.mono (Frz.le_refl _)
  replace h:=A5 h
  obtain ⟨bM,c6,h⟩:=h
  refine SK.wi (Es (fun bT=>[(54,bT)]) hF kr ⟨kr⟩ (Qj F aM _ c6 ν141 w (hS.frz (i:=1) rfl hlow) bD) (fun _=>⟨kr⟩) ?_)
  rintro bT w a ⟨ν147,bA,bB,bV,aA,rfl,bY,hQ⟩ hF
  replace hext:=Frz.ext_trans hext (Frz.ext_mono aA hS.ext.size)
  obtain ⟨hlow,hS⟩:=hS.frzMerge (i:=1) rfl hlow aA hQ
  replace hA4:=hA4.mono Rp43.mono aA.1
  replace a2:=All2.mono Rp132.mono aA.1 a2
  replace a3:=a3.mono aA.1
  replace hB29:=hB29.mono aA.1
  replace hB33:=hB33.mono aA.1
  replace hB37:=hB37.mono aA.1
  replace aK:=All2.mono Rp132.mono aA.1 aK
  replace bD:=bD.mono Rp132.mono aA.1
  replace a7:=Frz.le_trans a7 aA.1
  replace a8:=Frz.le_trans a8 aA.1
  replace hS:St w0 [arr 43 1 (fN 1) bA bM.length bB bV,blk a0 135 #[sv aS aM aT],fz w0 ν147] w:=hS
  refine rn 2 4 [(6,sv bA bM bB),(7,iv 0)] hF fun a hF=>?_
  refine wfn rfl ?_
  refine wpIn_ret (B6 [.tmp 6,.tmp 7] [sv bA bM bB,iv 0] hF rfl ⟨rfl,rfl,trivial⟩ ?_)
  have hr_:=Option.some.inj h
  subst hr_
  exact ⟨_,rfl,ν147,_,_,_,hext,rfl,bY,St.pick [2,0] (by decide) hS⟩
theorem Mt (F:Nat) (p0:(List (List (List api_Span)))) (p1:Int) (p2:Int) (res:((List (List (List api_Span)))×Int)) (h:K4 F p0 p1 p2=some res) (μ:Frz) (w0:World) (hm:FrzAt μ w0) {ad1:Option Addr} {cap2:Nat} {css3:List (List Value)} (hA4:ArrQ μ 1 Rp48 ad1 cap2 css3 p0):F1 Try.prog 27 #[sv ad1 p0 cap2,iv p1,iv p2] w0 (fun e w=>∃(ν_:Frz) (zad0:Option Addr) (zcap0:Nat) (zcss0:List (List Value)),μ.ext w0.heap.size ν_∧e=(.tuple #[sv zad0 res.1 zcap0,iv res.2])∧All2 (Rp48 ν_) zcss0 res.1∧St w0 [fz w0 ν_,arr 48 1 (fN 1) zad0 res.1.length zcap0 zcss0] w):=by
 obtain ⟨hlow,hS⟩:=hm.init
 have hext:=Frz.ext_refl w0.heap.size μ
 rw [K4] at h
 refine B5 Try.func27 rfl 77 [(0,sv ad1 p0 cap2),(1,iv p1),(2,iv p2)] rfl rfl kr fun a w hw hF=>?_
 replace hS:St w0 [fz w0 μ] w:=by rw [hw];exact hS
 clear hw
 refine esr ?_
 refine rn 2 2 [(0,sv ad1 p0 cap2),(1,iv p1),(2,iv p2)] hF fun a hF=>?_
 refine wfn rfl ?_
 refine Ba ?_
 refine esr ?_
 refine rn 3 3 [(0,sv ad1 p0 cap2),(1,iv p1),(2,iv p2),(21,.bool (decide ((ln p0)>360)))] hF fun a hF=>?_
 refine wfn rfl ?_
 refine Ar hF rfl (fun hc=>?_) (fun hc=>?_)
 ·replace h:=Al h hc
  refine esr ?_
  refine rn 2 2 [(6,.slice none 0 0),(7,iv 9)] hF fun a hF=>?_
  refine wfn rfl ?_
  refine wpIn_ret (Ac<|B6 [.tmp 6,.tmp 7] [.slice none 0 0,iv 9] hF rfl ⟨rfl,rfl,trivial⟩ ?_)
  have hr_:=Option.some.inj h
  subst hr_
  replace hS:=hS.nilarr 48 1 (fN 1)
  exact ⟨_,rfl,μ,_,_,_,hext,rfl,All2.nil,St.pick [1,0] (by decide) hS⟩
 ·replace h:=Ak h hc
  refine wpIn_skip (A4 ?_)
  refine Eb (fun a w=>Fr 77 [] [(0,sv ad1 p0 cap2),(1,iv p1),(2,iv p2)] a∧St w0 [fz w0 μ] w∧Jm F p0 p1 p2=some res) ?_ ?_
  ·skip
   refine esr ?_
   refine rn 3 3 [(0,sv ad1 p0 cap2),(1,iv p1),(2,iv p2),(22,sv ad1 p0 cap2),(23,iv (ln p0)),(24,iv 0)] hF fun a hF=>?_
   refine wfn rfl ?_
   refine wpIn_block ?_
   refine D2 (fun n_ a w=>∃(aC:Int),Fr 77 [] [(0,sv ad1 p0 cap2),(1,iv p1),(2,iv p2),(22,sv ad1 p0 cap2),(23,iv (ln p0)),(24,iv aC)] a∧St w0 [fz w0 μ] w∧Gd F p0 p1 p2 n_ aC=some res) F ⟨0,hF.sub kr,St.pick [0] (by decide) hS,h⟩ ?_
   rintro nk6 a w ⟨aC,hF,hS,h⟩
   rcases nk6 with _|nk6
   ·cases (show (none:Option ((List (List (List api_Span)))×Int))=some res from h)
   obtain ⟨k6,hk6⟩:∃k,k=Gd F p0 p1 p2 nk6:=⟨_,rfl⟩
   replace h:Gb F p0 p1 p2 k6 aC=some res:=by rw [hk6];exact h
   rw [Gb] at h
   refine esr ?_
   refine rn 1 1 [(0,sv ad1 p0 cap2),(1,iv p1),(2,iv p2),(22,sv ad1 p0 cap2),(23,iv (ln p0)),(24,iv aC),(25,.bool (decide (aC<(ln p0))))] hF fun a hF=>?_
   refine wfn rfl ?_
   refine Ba ?_
   refine Ar hF rfl (fun hc=>?_) (fun hc=>?_)
   ·replace h:=Al h hc
    refine wpIn_skip (A4 ?_)
    refine Ba ?_
    refine wpIn_block ?_
    refine esr ?_
    replace h:=A5 h
    obtain ⟨bP,cQ,h⟩:=h
    obtain ⟨d3,c1,cJ⟩:=Ae hA4.2 cQ
    obtain ⟨bT,bW,d8,rfl,dA⟩:=cJ
    refine rno 3 [.run [] (Instr.indexAt 54 (sv ad1 p0 cap2) (iv aC)) (.pointer (some (A3 ad1 aC 1))),.run [] (Instr.loadAt 48 (.pointer (some (A3 ad1 aC 1)))) (sv bT bP bW)] 3 [(0,sv ad1 p0 cap2),(1,iv p1),(2,iv p2),(9,sv bT bP bW),(22,sv ad1 p0 cap2),(23,iv (ln p0)),(24,iv aC)] hF (A0 (A8 (hA4.at (hS.frz (i:=0) rfl hlow)) kr (fun _=>c1)) (A0 (An (i:=aC) 0 (As 1) (fun _ hd=>(hA4.at ((hS.at_ hd).frz (i:=0) rfl hlow))) kr (fun _=>c1) rfl) Af)) fun a hF=>?_
    refine wfn rfl ?_
    refine esr ?_
    replace h:=A5 h
    obtain ⟨c9,cR,h⟩:=h
    obtain ⟨d4,c2,cK⟩:=Ae hA4.2 cR
    obtain ⟨cD,cE,d9,rfl,dB⟩:=cK
    refine rno 7 [.run [] (Instr.indexAt 54 (sv ad1 p0 cap2) (iv 0)) (.pointer (some (A3 ad1 0 1))),.run [] (Instr.loadAt 48 (.pointer (some (A3 ad1 0 1)))) (sv cD c9 cE)] 7 [(0,sv ad1 p0 cap2),(1,iv p1),(2,iv p2),(22,sv ad1 p0 cap2),(23,iv (ln p0)),(24,iv aC),(34,.bool ((ln bP) != (ln c9)))] hF (A0 (A8 (hA4.at (hS.frz (i:=0) rfl hlow)) kr (fun _=>c2)) (A0 (An (i:=0) 0 (As 1) (fun _ hd=>(hA4.at ((hS.at_ hd).frz (i:=0) rfl hlow))) kr (fun _=>c2) rfl) Af)) fun a hF=>?_
    refine wfn rfl ?_
    refine Ar hF rfl (fun hc=>?_) (fun hc=>?_)
    ·replace h:=Al h hc
     refine esr ?_
     refine rn 2 2 [(6,.slice none 0 0),(7,iv 11)] hF fun a hF=>?_
     refine wfn rfl ?_
     refine wpIn_ret (Am<|Ac<|Ac<|Am<|Ac<|B6 [.tmp 6,.tmp 7] [.slice none 0 0,iv 11] hF rfl ⟨rfl,rfl,trivial⟩ ?_)
     have hr_:=Option.some.inj h
     subst hr_
     replace hS:=hS.nilarr 48 1 (fN 1)
     exact ⟨_,rfl,μ,_,_,_,hext,rfl,All2.nil,St.pick [1,0] (by decide) hS⟩
    ·replace h:=Ak h hc
     refine wpIn_skip (Ab<|A4<|?_)
     refine WI.region ?_
     replace h:=A5 h
     obtain ⟨bS,cU,h⟩:=h
     refine rno 2 [.run [] (binOp .add 3 (iv aC) (iv 1)) (iv bS)] 2 [(0,sv ad1 p0 cap2),(1,iv p1),(2,iv p2),(22,sv ad1 p0 cap2),(23,iv (ln p0)),(24,iv bS)] hF (A0 (Bg (fun _=>cU)) Af) fun a hF=>?_
     refine wfn rfl ?_
     rw [hk6] at h
     exact ⟨nk6,Nat.lt_succ_self _,bS,hF.sub kr,St.pick [0] (by decide) hS,h⟩
   ·replace h:=Ak h hc
    refine wpIn_exit (A6<|A6<|Ai<|A4 ?_)
    exact ⟨hF.sub kr,St.pick [0] (by decide) hS,h⟩
  rintro a w ⟨hF,hS,h⟩
  rw [Jm] at h
  refine esr ?_
  refine rn 1 1 [(0,sv ad1 p0 cap2),(1,iv p1),(2,iv p2),(10,.slice none 0 0)] hF fun a hF=>?_
  refine wfn rfl ?_
  have aS:=Frz.le_refl μ
  refine Eb (fun a w=>∃(aI:(List (List (List api_Span)))) (ν160:Frz) (aT:Option Addr) (aU:Nat) (bK:List (List Value)),Fr 77 [] [(1,iv p1),(2,iv p2),(10,sv aT aI aU)] a∧St w0 [arr 135 1 (fN 1) aT aI.length aU bK,fz w0 ν160] w∧(All2 (Rp135 ν160) bK aI)∧(μ.le ν160)∧(μ.ext w0.heap.size ν160)∧(Bm w0 ν160)∧Jn F p1 p2 aI=some res) ?_ ?_
  ·skip
   refine esr ?_
   refine rn 3 3 [(1,iv p1),(2,iv p2),(10,.slice none 0 0),(36,sv ad1 p0 cap2),(37,iv (ln p0)),(38,iv 0)] hF fun a hF=>?_
   refine wfn rfl ?_
   refine wpIn_block ?_
   have c4:=Frz.le_refl μ
   replace hS:=hS.nilarr 135 1 (fN 1)
   refine D2 (fun n_ a w=>∃(a1:(List (List (List api_Span)))) (a2:Int) (ν466:Frz) (a5:Option Addr) (a6:Nat) (aP:List (List Value)),Fr 77 [] [(1,iv p1),(2,iv p2),(10,sv a5 a1 a6),(36,sv ad1 p0 cap2),(37,iv (ln p0)),(38,iv a2)] a∧St w0 [arr 135 1 (fN 1) a5 a1.length a6 aP,fz w0 ν466] w∧(All2 (Rp135 ν466) aP a1)∧(μ.le ν466)∧(μ.ext w0.heap.size ν466)∧(Bm w0 ν466)∧Fc F p0 p1 p2 n_ a1 a2=some res) F ⟨[],0,μ,none,0,[],hF.sub kr,St.pick [0,1] (by decide) hS,All2.nil,c4,hext,hlow,h⟩ ?_
   clear c4
   rintro nk5 a w ⟨a1,a2,ν466,a5,a6,aP,hF,hS,b0,aV,hext,hlow,h⟩
   rcases nk5 with _|nk5
   ·cases (show (none:Option ((List (List (List api_Span)))×Int))=some res from h)
   replace hA4:=hA4.mono Rp48.mono aV
   replace aS:=Frz.le_trans aS aV
   obtain ⟨k5,hk5⟩:∃k,k=Fc F p0 p1 p2 nk5:=⟨_,rfl⟩
   replace h:Ga F p0 p1 p2 k5 a1 a2=some res:=by rw [hk5];exact h
   rw [Ga] at h
   refine esr ?_
   refine rn 1 1 [(1,iv p1),(2,iv p2),(10,sv a5 a1 a6),(36,sv ad1 p0 cap2),(37,iv (ln p0)),(38,iv a2),(39,.bool (decide (a2<(ln p0))))] hF fun a hF=>?_
   refine wfn rfl ?_
   refine Ba ?_
   refine Ar hF rfl (fun hc=>?_) (fun hc=>?_)
   ·replace h:=Al h hc
    refine wpIn_skip (A4 ?_)
    refine Ba ?_
    refine wpIn_block ?_
    refine esr ?_
    replace h:=A5 h
    obtain ⟨bF,cP,h⟩:=h
    obtain ⟨d2,c0,cI⟩:=Ae hA4.2 cP
    obtain ⟨bH,bJ,d7,rfl,b9⟩:=cI
    refine rno 3 [.run [] (Instr.indexAt 54 (sv ad1 p0 cap2) (iv a2)) (.pointer (some (A3 ad1 a2 1))),.run [] (Instr.loadAt 48 (.pointer (some (A3 ad1 a2 1)))) (sv bH bF bJ)] 3 [(1,iv p1),(2,iv p2),(10,sv a5 a1 a6),(12,sv bH bF bJ),(36,sv ad1 p0 cap2),(37,iv (ln p0)),(38,iv a2)] hF (A0 (A8 (hA4.at (hS.frz (i:=1) rfl hlow)) kr (fun _=>c0)) (A0 (An (i:=a2) 0 (As 1) (fun _ hd=>(hA4.at ((hS.at_ hd).frz (i:=1) rfl hlow))) kr (fun _=>c0) rfl) Af)) fun a hF=>?_
    refine wfn rfl ?_
    refine esr ?_
    refine rn 1 1 [(1,iv p1),(2,iv p2),(10,sv a5 a1 a6),(36,sv ad1 p0 cap2),(37,iv (ln p0)),(38,iv a2),(43,sv bH bF bJ)] hF fun a hF=>?_
    replace h:=A5 h
    obtain ⟨a3,cX,h⟩:=h
    refine SK.wi (Es (fun cC=>[(1,iv p1),(2,iv p2),(10,sv a5 a1 a6),(36,sv ad1 p0 cap2),(37,iv (ln p0)),(38,iv a2),(44,cC)]) hF kr ⟨kr⟩ (S9 F bF _ cX ν466 w (hS.frz (i:=1) rfl hlow) b9) (fun _=>⟨kr⟩) ?_)
    rintro cC w a ⟨ν485,aD,aE,bY,aW,rfl,bO,hQ⟩ hF
    replace hext:=Frz.ext_trans hext (Frz.ext_mono aW hS.ext.size)
    obtain ⟨hlow,hS⟩:=hS.frzMerge (i:=1) rfl hlow aW hQ
    replace hA4:=hA4.mono Rp48.mono aW.1
    replace b0:=All2.mono Rp135.mono aW.1 b0
    replace b9:=b9.mono Rp43.mono aW.1
    replace aS:=Frz.le_trans aS aW.1
    replace aV:=Frz.le_trans aV aW.1
    replace hS:St w0 [arr 132 1 (fN 1) aD a3.1.length aE bY,arr 135 1 (fN 1) a5 a1.length a6 aP,fz w0 ν485] w:=hS
    refine rn 5 7 [(1,iv p1),(2,iv p2),(10,sv a5 a1 a6),(13,sv aD a3.1 aE),(14,iv a3.2),(36,sv ad1 p0 cap2),(37,iv (ln p0)),(38,iv a2)] hF fun a hF=>?_
    refine wfn rfl ?_
    refine Ba ?_
    refine esr ?_
    refine rn 2 2 [(1,iv p1),(2,iv p2),(10,sv a5 a1 a6),(13,sv aD a3.1 aE),(14,iv a3.2),(36,sv ad1 p0 cap2),(37,iv (ln p0)),(38,iv a2),(48,.bool (a3.2 != 0))] hF fun a hF=>?_
    refine wfn rfl ?_
    refine Ar hF rfl (fun hc=>?_) (fun hc=>?_)
    ·replace h:=Al h hc
     refine esr ?_
     refine rn 3 3 [(6,.slice none 0 0),(7,iv a3.2)] hF fun a hF=>?_
     refine wfn rfl ?_
     refine wpIn_ret (Ac<|Am<|Ac<|Ac<|Am<|Ac<|B6 [.tmp 6,.tmp 7] [.slice none 0 0,iv a3.2] hF rfl ⟨rfl,rfl,trivial⟩ ?_)
     have hr_:=Option.some.inj h
     subst hr_
     replace hS:=hS.nilarr 48 1 (fN 1)
     exact ⟨_,rfl,ν485,_,_,_,hext,rfl,All2.nil,St.pick [3,0] (by decide) hS⟩
    ·replace h:=Ak h hc
     refine wpIn_skip (A4 ?_)
     refine WI.region ?_
     refine rn 2 2 [(1,iv p1),(2,iv p2),(10,sv a5 a1 a6),(36,sv ad1 p0 cap2),(37,iv (ln p0)),(38,iv a2),(50,sv a5 a1 a6),(51,sv aD a3.1 aE)] hF fun a hF=>?_
     obtain ⟨ν492,aX,hlow,hS,d0⟩:=hS.freeze (i:=2) (j:=0) rfl rfl (by decide) hlow
     replace hA4:=hA4.mono Rp48.mono aX.1
     replace b0:=All2.mono Rp135.mono aX.1 b0
     replace b9:=b9.mono Rp43.mono aX.1
     replace bO:=All2.mono Rp132.mono aX.1 bO
     replace aS:=Frz.le_trans aS aX.1
     replace aV:=Frz.le_trans aV aX.1
     replace hext:=Frz.ext_trans hext aX
     replace hS:St w0 [arr 135 1 (fN 1) a5 a1.length a6 aP,fz w0 ν492] w:=hS
     have cG:=ArrQ.of_arr (l:=a3.1) d0 bO Rp132.mono (Frz.le_refl _)
     have c8:All2 (Rp135 ν492) ([[sv aD a3.1 aE]]:List (List Value)) [a3.1]:=(All2.cons ⟨aD,aE,bY,rfl,cG⟩ All2.nil)
     refine SK.wi (Sb (e:=135) (sz:=1) (f:=fN 1) (t:=147) (len:=1) (fun bV=>[(1,iv p1),(2,iv p2),(10,sv a5 a1 a6),(36,sv ad1 p0 cap2),(37,iv (ln p0)),(38,iv a2),(50,sv a5 a1 a6),(52,sb bV 1)]) #[(0,sv aD a3.1 aE)] #[sv aD a3.1 aE] ([[sv aD a3.1 aE]]:List (List Value)) ([a3.1]) hF hS kr ⟨kr⟩ kr (As 1) rfl rfl rfl kr (fun _=>⟨kr⟩) fun bV w a hF hS=>?_)
     replace h:=A5 h
     obtain ⟨bD,c6,h⟩:=h
     have cN:All2 (Rp135 ν492) (aP++([[sv aD a3.1 aE]]:List (List Value))) bD:=by rw [(G1 c6).1];exact All2.app b0 c8
     refine SK.wi (Ps (t:=147) (ty:=147) (bytes:=24) (c:=aP) (c':=([[sv aD a3.1 aE]]:List (List Value))) (l:=a1) (l':=([a3.1])) (fun b4 b7=>[(1,iv p1),(2,iv p2),(10,sv a5 a1 a6),(36,sv ad1 p0 cap2),(37,iv (ln p0)),(38,iv a2),(53,sv b4 bD b7)]) 1 hF hS rfl kr ⟨kr⟩ kr (hS.arr (i:=0) rfl) (ArrQ.one c8 Rp135.one) c6 (fun _ _=>⟨kr⟩) fun b4 b7 w a hF hS=>?_)
     refine rn 1 5 [(1,iv p1),(2,iv p2),(10,sv b4 bD b7),(36,sv ad1 p0 cap2),(37,iv (ln p0)),(38,iv a2)] hF fun a hF=>?_
     refine WI.fin rfl (Ab<|A4<|?_)
     refine WI.region ?_
     replace h:=A5 h
     obtain ⟨bR,cT,h⟩:=h
     refine rno 2 [.run [] (binOp .add 3 (iv a2) (iv 1)) (iv bR)] 2 [(1,iv p1),(2,iv p2),(10,sv b4 bD b7),(36,sv ad1 p0 cap2),(37,iv (ln p0)),(38,iv bR)] hF (A0 (Bg (fun _=>cT)) Af) fun a hF=>?_
     refine wfn rfl ?_
     rw [hk5] at h
     exact ⟨nk5,Nat.lt_succ_self _,bD,bR,ν492,b4,b7,(aP++([[sv aD a3.1 aE]]:List (List Value))),hF.sub kr,St.pick [1,2] (by decide) hS,cN,aV,hext,hlow,h⟩
   ·replace h:=Ak h hc
    refine wpIn_exit (A6<|A6<|Ai<|A4 ?_)
    exact ⟨a1,ν466,a5,a6,aP,hF.sub kr,St.pick [0,1] (by decide) hS,b0,aS,hext,hlow,h⟩
  clear aS
  rintro a w ⟨aI,ν160,aT,aU,bK,hF,hS,bA,aB,hext,hlow,h⟩
  replace hA4:=hA4.mono Rp48.mono aB
  rw [Jn] at h
  refine Ba ?_
  refine esr ?_
  refine rx 4 [.call [] 66 #[iv p1,iv p2] (iv (Bk p1 p2))] 4 [(1,iv p1),(2,iv p2),(10,sv aT aI aU),(15,iv (Bk p1 p2))] hF (A0 (show Ob.ok _ Ext _ _ from fun hk w2 hd=>Nd p1 p2 _ rfl _ w2 (Aj w2)) Af) fun a w hF hx=>?_
  replace hS:=hS.later hx
  refine wfn rfl ?_
  refine esr ?_
  refine rn 2 2 [(1,iv p1),(2,iv p2),(10,sv aT aI aU),(15,iv (Bk p1 p2)),(59,.bool ((Bk p1 p2) != 0))] hF fun a hF=>?_
  refine wfn rfl ?_
  refine Ar hF rfl (fun hc=>?_) (fun hc=>?_)
  ·replace h:=Al h hc
   refine esr ?_
   refine rn 3 3 [(6,.slice none 0 0),(7,iv (Bk p1 p2))] hF fun a hF=>?_
   refine wfn rfl ?_
   refine wpIn_ret (Ac<|B6 [.tmp 6,.tmp 7] [.slice none 0 0,iv (Bk p1 p2)] hF rfl ⟨rfl,rfl,trivial⟩ ?_)
   have hr_:=Option.some.inj h
   subst hr_
   replace hS:=hS.nilarr 48 1 (fN 1)
   exact ⟨_,rfl,ν160,_,_,_,hext,rfl,All2.nil,St.pick [2,0] (by decide) hS⟩
  ·replace h:=Ak h hc
   refine wpIn_skip (A4 ?_)
   refine esr ?_
   refine rn 1 1 [(1,iv p1),(2,iv p2),(10,sv aT aI aU),(16,.slice none 0 0)] hF fun a hF=>?_
   refine wfn rfl ?_
   have aF:=Frz.le_refl ν160
   refine Eb (fun a w=>∃(aY:(List (List (List api_Span)))) (ν280:Frz) (b2:Option Addr) (b5:Nat) (bL:List (List Value)),Fr 77 [] [(16,sv b2 aY b5)] a∧St w0 [arr 48 1 (fN 1) b2 aY.length b5 bL,fz w0 ν280] w∧(All2 (Rp48 ν280) bL aY)∧(ν160.le ν280)∧(μ.ext w0.heap.size ν280)∧(Bm w0 ν280)∧Ms aY=some res) ?_ ?_
   ·skip
    refine esr ?_
    refine rn 3 3 [(16,.slice none 0 0),(61,sv aT aI aU),(62,iv p1),(63,iv p2)] hF fun a hF=>?_
    obtain ⟨ν288,bB,hlow,hS,cY⟩:=hS.freeze (i:=1) (j:=0) rfl rfl (by decide) hlow
    replace hA4:=hA4.mono Rp48.mono bB.1
    replace bA:=All2.mono Rp135.mono bB.1 bA
    replace aB:=Frz.le_trans aB bB.1
    replace aF:=Frz.le_trans aF bB.1
    replace hext:=Frz.ext_trans hext bB
    replace hS:St w0 [fz w0 ν288] w:=hS
    have aQ:=ArrQ.of_arr (l:=aI) cY bA Rp135.mono (Frz.le_refl _)
    replace h:=A5 h
    obtain ⟨a0,cV,h⟩:=h
    refine SK.wi (Es (fun cA=>[(16,.slice none 0 0),(64,cA)]) hF kr ⟨kr⟩ (Tz F aI p1 p2 _ cV ν288 w (hS.frz (i:=0) rfl hlow) aQ) (fun _=>⟨kr⟩) ?_)
    rintro cA w a ⟨ν294,aA,aH,d5,b1,rfl,aR,hQ⟩ hF
    replace hext:=Frz.ext_trans hext (Frz.ext_mono b1 hS.ext.size)
    obtain ⟨hlow,hS⟩:=hS.frzMerge (i:=0) rfl hlow b1 hQ
    replace hA4:=hA4.mono Rp48.mono b1.1
    replace aQ:=aQ.mono Rp135.mono b1.1
    replace aB:=Frz.le_trans aB b1.1
    replace aF:=Frz.le_trans aF b1.1
    replace hS:St w0 [fz w0 ν294] w:=hS
    refine rn 2 6 [(16,.slice none 0 0),(64,sv aA a0 aH),(65,iv (ln a0)),(66,iv 0)] hF fun a hF=>?_
    refine wfn rfl ?_
    refine wpIn_block ?_
    have c3:=Frz.le_refl ν294
    replace hS:=hS.nilarr 48 1 (fN 1)
    refine D2 (fun n_ a w=>∃(a4:(List (List (List api_Span)))) (a7:Int) (ν364:Frz) (a8:Option Addr) (a9:Nat) (aO:List (List Value)),Fr 77 [] [(16,sv a8 a4 a9),(64,sv aA a0 aH),(65,iv (ln a0)),(66,iv a7)] a∧St w0 [arr 48 1 (fN 1) a8 a4.length a9 aO,fz w0 ν364] w∧(All2 (Rp48 ν364) aO a4)∧(ν294.le ν364)∧(μ.ext w0.heap.size ν364)∧(Bm w0 ν364)∧Gc F a0 n_ a4 a7=some res) F ⟨[],0,ν294,none,0,[],hF.sub kr,St.pick [0,1] (by decide) hS,All2.nil,c3,hext,hlow,h⟩ ?_
    clear c3
    rintro nk4 a w ⟨a4,a7,ν364,a8,a9,aO,hF,hS,aZ,aJ,hext,hlow,h⟩
    rcases nk4 with _|nk4
    ·cases (show (none:Option ((List (List (List api_Span)))×Int))=some res from h)
    replace hA4:=hA4.mono Rp48.mono aJ
    replace aQ:=aQ.mono Rp135.mono aJ
    replace aR:=aR.mono Rp135.mono aJ
    replace aB:=Frz.le_trans aB aJ
    replace aF:=Frz.le_trans aF aJ
    obtain ⟨k4,hk4⟩:∃k,k=Gc F a0 nk4:=⟨_,rfl⟩
    replace h:G9 F a0 k4 a4 a7=some res:=by rw [hk4];exact h
    rw [G9] at h
    refine esr ?_
    refine rn 1 1 [(16,sv a8 a4 a9),(64,sv aA a0 aH),(65,iv (ln a0)),(66,iv a7),(67,.bool (decide (a7<(ln a0))))] hF fun a hF=>?_
    refine wfn rfl ?_
    refine Ba ?_
    refine Ar hF rfl (fun hc=>?_) (fun hc=>?_)
    ·replace h:=Al h hc
     refine wpIn_skip (A4 ?_)
     refine Ba ?_
     refine wpIn_block ?_
     refine esr ?_
     replace h:=A5 h
     obtain ⟨bE,cO,h⟩:=h
     obtain ⟨d1,bZ,cH⟩:=Ae aR.2 cO
     obtain ⟨bG,bI,d6,rfl,b8⟩:=cH
     refine rno 3 [.run [] (Instr.indexAt 147 (sv aA a0 aH) (iv a7)) (.pointer (some (A3 aA a7 1))),.run [] (Instr.loadAt 135 (.pointer (some (A3 aA a7 1)))) (sv bG bE bI)] 3 [(16,sv a8 a4 a9),(18,sv bG bE bI),(64,sv aA a0 aH),(65,iv (ln a0)),(66,iv a7)] hF (A0 (A8 (aR.at (hS.frz (i:=1) rfl hlow)) kr (fun _=>bZ)) (A0 (An (i:=a7) 0 (As 1) (fun _ hd=>(aR.at ((hS.at_ hd).frz (i:=1) rfl hlow))) kr (fun _=>bZ) rfl) Af)) fun a hF=>?_
     refine wfn rfl ?_
     refine WI.region ?_
     refine rn 2 2 [(16,sv a8 a4 a9),(64,sv aA a0 aH),(65,iv (ln a0)),(66,iv a7),(70,sv a8 a4 a9),(71,sv bG bE bI)] hF fun a hF=>?_
     replace h:=A5 h
     obtain ⟨aG,cW,h⟩:=h
     refine SK.wi (Es (fun cB=>[(16,sv a8 a4 a9),(64,sv aA a0 aH),(65,iv (ln a0)),(66,iv a7),(70,sv a8 a4 a9),(72,cB)]) hF kr ⟨kr⟩ (Qj F bE _ cW ν364 w (hS.frz (i:=1) rfl hlow) b8) (fun _=>⟨kr⟩) ?_)
     rintro cB w a ⟨ν383,aM,aN,bX,aK,rfl,bN,hQ⟩ hF
     replace hext:=Frz.ext_trans hext (Frz.ext_mono aK hS.ext.size)
     obtain ⟨hlow,hS⟩:=hS.frzMerge (i:=1) rfl hlow aK hQ
     replace hA4:=hA4.mono Rp48.mono aK.1
     replace aQ:=aQ.mono Rp135.mono aK.1
     replace aR:=aR.mono Rp135.mono aK.1
     replace aZ:=All2.mono Rp48.mono aK.1 aZ
     replace b8:=b8.mono Rp132.mono aK.1
     replace aB:=Frz.le_trans aB aK.1
     replace aF:=Frz.le_trans aF aK.1
     replace aJ:=Frz.le_trans aJ aK.1
     replace hS:St w0 [arr 43 1 (fN 1) aM aG.length aN bX,arr 48 1 (fN 1) a8 a4.length a9 aO,fz w0 ν383] w:=hS
     obtain ⟨ν390,aL,hlow,hS,cZ⟩:=hS.freeze (i:=2) (j:=0) rfl rfl (by decide) hlow
     replace hA4:=hA4.mono Rp48.mono aL.1
     replace aQ:=aQ.mono Rp135.mono aL.1
     replace aR:=aR.mono Rp135.mono aL.1
     replace aZ:=All2.mono Rp48.mono aL.1 aZ
     replace b8:=b8.mono Rp132.mono aL.1
     replace bN:=All2.mono Rp43.mono aL.1 bN
     replace aB:=Frz.le_trans aB aL.1
     replace aF:=Frz.le_trans aF aL.1
     replace aJ:=Frz.le_trans aJ aL.1
     replace hext:=Frz.ext_trans hext aL
     replace hS:St w0 [arr 48 1 (fN 1) a8 a4.length a9 aO,fz w0 ν390] w:=hS
     have cF:=ArrQ.of_arr (l:=aG) cZ bN Rp43.mono (Frz.le_refl _)
     have c7:All2 (Rp48 ν390) ([[sv aM aG aN]]:List (List Value)) [aG]:=(All2.cons ⟨aM,aN,bX,rfl,cF⟩ All2.nil)
     refine SK.wi (Sb (e:=48) (sz:=1) (f:=fN 1) (t:=54) (len:=1) (fun bU=>[(16,sv a8 a4 a9),(64,sv aA a0 aH),(65,iv (ln a0)),(66,iv a7),(70,sv a8 a4 a9),(73,sb bU 1)]) #[(0,sv aM aG aN)] #[sv aM aG aN] ([[sv aM aG aN]]:List (List Value)) ([aG]) hF hS kr ⟨kr⟩ kr (As 1) rfl rfl rfl kr (fun _=>⟨kr⟩) fun bU w a hF hS=>?_)
     replace h:=A5 h
     obtain ⟨bC,c5,h⟩:=h
     have cM:All2 (Rp48 ν390) (aO++([[sv aM aG aN]]:List (List Value))) bC:=by rw [(G1 c5).1];exact All2.app aZ c7
     refine SK.wi (Ps (t:=54) (ty:=54) (bytes:=24) (c:=aO) (c':=([[sv aM aG aN]]:List (List Value))) (l:=a4) (l':=([aG])) (fun b3 b6=>[(16,sv a8 a4 a9),(64,sv aA a0 aH),(65,iv (ln a0)),(66,iv a7),(74,sv b3 bC b6)]) 1 hF hS rfl kr ⟨kr⟩ kr (hS.arr (i:=0) rfl) (ArrQ.one c7 Rp48.one) c5 (fun _ _=>⟨kr⟩) fun b3 b6 w a hF hS=>?_)
     refine rn 1 6 [(16,sv b3 bC b6),(64,sv aA a0 aH),(65,iv (ln a0)),(66,iv a7)] hF fun a hF=>?_
     refine WI.fin rfl (Ab<|A4<|?_)
     refine WI.region ?_
     replace h:=A5 h
     obtain ⟨bQ,cS,h⟩:=h
     refine rno 2 [.run [] (binOp .add 3 (iv a7) (iv 1)) (iv bQ)] 2 [(16,sv b3 bC b6),(64,sv aA a0 aH),(65,iv (ln a0)),(66,iv bQ)] hF (A0 (Bg (fun _=>cS)) Af) fun a hF=>?_
     refine wfn rfl ?_
     rw [hk4] at h
     exact ⟨nk4,Nat.lt_succ_self _,bC,bQ,ν390,b3,b6,(aO++([[sv aM aG aN]]:List (List Value))),hF.sub kr,St.pick [1,2] (by decide) hS,cM,aJ,hext,hlow,h⟩
    ·replace h:=Ak h hc
     refine wpIn_exit (A6<|A6<|Ai<|A4 ?_)
     exact ⟨a4,ν364,a8,a9,aO,hF.sub kr,St.pick [0,1] (by decide) hS,aZ,aF,hext,hlow,h⟩
   clear aF
   rintro a w ⟨aY,ν280,b2,b5,bL,hF,hS,cL,bM,hext,hlow,h⟩
   replace hA4:=hA4.mono Rp48.mono bM
   replace bA:=All2.mono Rp135.mono bM bA
   replace aB:=Frz.le_trans aB bM
   rw [Ms] at h
   refine esr ?_
   refine rn 3 3 [(6,sv b2 aY b5),(7,iv 0)] hF fun a hF=>?_
   refine wfn rfl ?_
   refine wpIn_ret (B6 [.tmp 6,.tmp 7] [sv b2 aY b5,iv 0] hF rfl ⟨rfl,rfl,trivial⟩ ?_)
   have hr_:=Option.some.inj h
   subst hr_
   exact ⟨_,rfl,ν280,_,_,_,hext,rfl,cL,St.pick [1,0] (by decide) hS⟩
end Go.Proofs.Ytbhjgebjojdohaa
