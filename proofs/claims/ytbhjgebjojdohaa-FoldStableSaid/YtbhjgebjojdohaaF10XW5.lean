import Derived.Test.YtbhjgebjojdohaaF10XD
import Derived.Test.YtbhjgebjojdohaaProg
import Derived.Test.YtbhjgebjojdohaaF10XK
import Derived.Test.YtbhjgebjojdohaaF10XW0
import Derived.Test.YtbhjgebjojdohaaF10XW1
import Derived.Test.YtbhjgebjojdohaaF10XW3
import Derived.Test.YtbhjgebjojdohaaF10XW4
namespace Go.Proofs.Ytbhjgebjojdohaa
open Go Go.RowKit Go.Eng
set_option maxRecDepth 10000
set_option maxHeartbeats 4000000
set_option linter.unusedVariables false
set_option linter.unusedSimpArgs false
theorem Tz (F:Nat) (p0:(List (List (List api_Span)))) (p1:Int) (p2:Int) (res:(List (List (List api_Span)))) (h:Kp F p0 p1 p2=some res) (μ:Frz) (w0:World) (hm:FrzAt μ w0) {ad1:Option Addr} {cap2:Nat} {css3:List (List Value)} (hA4:ArrQ μ 1 Rp135 ad1 cap2 css3 p0):F1 Try.prog 76 #[sv ad1 p0 cap2,iv p1,iv p2] w0 (fun e w=>∃(ν_:Frz) (dM:Option Addr) (dR:Nat) (eL:List (List Value)),μ.ext w0.heap.size ν_∧e=(sv dM res dR)∧ArrQ ν_ 1 Rp135 dM dR eL res∧St w0 [fz w0 ν_] w):=by
 obtain ⟨hlow,hS⟩:=hm.init
 have hext:=Frz.ext_refl w0.heap.size μ
 rw [Kp] at h
 refine B5 Try.func76 rfl 125 [(0,sv ad1 p0 cap2),(1,iv p1),(2,iv p2)] rfl rfl kr fun a w hw hF=>?_
 replace hS:St w0 [fz w0 μ] w:=by rw [hw];exact hS
 clear hw
 refine esr ?_
 refine rn 1 1 [(0,sv ad1 p0 cap2),(1,iv p1),(2,iv p2)] hF fun a hF=>?_
 refine wfn rfl ?_
 refine esr ?_
 refine rn 3 3 [(0,sv ad1 p0 cap2),(20,sv ad1 p0 cap2),(21,iv p1),(22,iv p2)] hF fun a hF=>?_
 replace h:=A5 h
 obtain ⟨y5,hy5,h⟩:=h
 replace hS:St w0 [fz w0 μ] w:=hS
 replace hS:St w0 [fz w0 μ] w:=St.pick [0] (by decide) hS
 refine SK.wi (Es (fun v8=>[(0,sv ad1 p0 cap2),(23,v8)]) hF kr ⟨kr⟩ (Va F p0 p1 p2 _ hy5 μ w0 w [] hlow hA4 hS) (fun _=>⟨kr⟩) ?_)
 rintro v8 w a ⟨ν6,b9,aI,aJ,b5,b4,a3,B16,aB,hx7,hlow,rfl,aC,eT,hS⟩ hF
 replace hext:=Frz.ext_trans hext hx7
 replace hA4:=hA4.mono Rp135.mono hx7.1
 replace hS:St w0 [fz w0 ν6,blk b9 197 #[sv aI y5.sets aJ,.map (some a3)],A9 135 132 1 (fN 1) aI y5.sets.length aJ b5 b4,Ah (fA fold_place.cells) 199 3 fold_bond.cells a3 B16 aB] w:=hS
 refine rn 1 5 [(0,sv ad1 p0 cap2),(7,pb b9)] hF fun a hF=>?_
 refine wfn rfl ?_
 refine esr ?_
 refine SK.wi (Yf fold_place Bool (fA fold_place.cells) Value.bool (t:=189) (fun a4=>[(0,sv ad1 p0 cap2),(7,pb b9),(24,.map (some a4))]) hF hS kr ⟨kr⟩ (fun _=>⟨kr⟩) fun a4 w a hF hS=>?_)
 refine SK.wi (Bu (t:=189) (fun a0=>[(0,sv ad1 p0 cap2),(7,pb b9),(8,pb a0),(24,.map (some a4))]) #[.map none] hF hS kr ⟨kr⟩ kr (fun _=>⟨kr⟩) fun a0 w a hF hS=>?_)
 refine SK.wi (storeK (t:=189) [(0,sv ad1 p0 cap2),(7,pb b9),(8,pb a0)] 0 0 (.map (some a4)) #[.map (some a4)] hF hS rfl kr ⟨kr⟩ kr kr kr kr ⟨kr⟩ fun w a hF hS=>?_)
 refine wfn rfl ?_
 refine esr ?_
 refine SK.wi (Bu (t:=190) (fun a1=>[(0,sv ad1 p0 cap2),(7,pb b9),(8,pb a0),(9,pb a1)]) #[.slice none 0 0] hF hS kr ⟨kr⟩ kr (fun _=>⟨kr⟩) fun a1 w a hF hS=>?_)
 refine wfn rfl ?_
 refine esr ?_
 refine rn 2 2 [(0,sv ad1 p0 cap2),(7,pb b9),(8,pb a0),(9,pb a1),(10,.func (.func 105) #[] #[pb a0,pb a1])] hF fun a hF=>?_
 refine wfn rfl ?_
 have bA:=Frz.le_refl ν6
 refine Eb (fun a w=>∃(cA:(List fold_place)) (d4:(List (fold_place×Bool))) (ν367:Frz) (cS:Option Addr) (cW:Nat),Fr 125 [] [(7,pb b9),(8,pb a0),(9,pb a1),(10,.func (.func 105) #[] #[pb a0,pb a1])] a∧St w0 [arrT 192 2 fold_place.cells cS cA.length cW cA,blk a1 190 #[sv cS cA cW],blk a0 189 #[.map (some a4)],G6 (fA fold_place.cells) Value.bool a4 d4,fz w0 ν367,blk b9 197 #[sv aI y5.sets aJ,.map (some a3)],A9 135 132 1 (fN 1) aI y5.sets.length aJ b5 b4,Ah (fA fold_place.cells) 199 3 fold_bond.cells a3 B16 aB] w∧(ν6.le ν367)∧(μ.ext w0.heap.size ν367)∧(Bm w0 ν367)∧H1 F y5 cA d4=some res) ?_ ?_
 ·skip
  refine esr ?_
  refine rn 3 3 [(7,pb b9),(8,pb a0),(9,pb a1),(10,.func (.func 105) #[] #[pb a0,pb a1]),(26,sv ad1 p0 cap2),(27,iv (ln p0)),(28,iv 0)] hF fun a hF=>?_
  refine wfn rfl ?_
  refine wpIn_block ?_
  have e7:=Frz.le_refl ν6
  replace hS:=hS.nilT 192 2 fold_place.cells
  refine D2 (fun n_ a w=>∃(b8:(List fold_place)) (c2:(List (fold_place×Bool))) (a7:Int) (ν3572:Frz) (bX:Option Addr) (bZ:Nat),Fr 125 [] [(7,pb b9),(8,pb a0),(9,pb a1),(10,.func (.func 105) #[] #[pb a0,pb a1]),(26,sv ad1 p0 cap2),(27,iv (ln p0)),(28,iv a7)] a∧St w0 [arrT 192 2 fold_place.cells bX b8.length bZ b8,blk a1 190 #[sv bX b8 bZ],blk a0 189 #[.map (some a4)],G6 (fA fold_place.cells) Value.bool a4 c2,fz w0 ν3572,blk b9 197 #[sv aI y5.sets aJ,.map (some a3)],A9 135 132 1 (fN 1) aI y5.sets.length aJ b5 b4,Ah (fA fold_place.cells) 199 3 fold_bond.cells a3 B16 aB] w∧(ν6.le ν3572)∧(μ.ext w0.heap.size ν3572)∧(Bm w0 ν3572)∧Dg F p0 y5 n_ b8 c2 a7=some res) F ⟨[],([]:List (fold_place×Bool)),0,ν6,none,0,hF.sub kr,St.pick [0,1,2,3,4,5,6,7] (by decide) hS,e7,hext,hlow,h⟩ ?_
  clear e7
  rintro nk6 a w ⟨b8,c2,a7,ν3572,bX,bZ,hF,hS,bB,hext,hlow,h⟩
  rcases nk6 with _|nk6
  ·cases (show (none:Option (List (List (List api_Span))))=some res from h)
  replace hA4:=hA4.mono Rp135.mono bB
  replace aC:=aC.mono Rp132.mono bB
  replace bA:=Frz.le_trans bA bB
  obtain ⟨k6,hk6⟩:∃k,k=Dg F p0 y5 nk6:=⟨_,rfl⟩
  replace h:F2 F p0 y5 k6 b8 c2 a7=some res:=by rw [hk6];exact h
  rw [F2] at h
  refine esr ?_
  refine rn 1 1 [(7,pb b9),(8,pb a0),(9,pb a1),(10,.func (.func 105) #[] #[pb a0,pb a1]),(26,sv ad1 p0 cap2),(27,iv (ln p0)),(28,iv a7),(29,.bool (decide (a7<(ln p0))))] hF fun a hF=>?_
  refine wfn rfl ?_
  refine Ba ?_
  refine Ar hF rfl (fun hc=>?_) (fun hc=>?_)
  ·replace h:=Al h hc
   refine wpIn_skip (A4 ?_)
   have c4:=Frz.le_refl ν3572
   refine Eb (fun a w=>∃(c9:(List fold_place)) (d3:(List (fold_place×Bool))) (ν3631:Frz) (cR:Option Addr) (cV:Nat),Fr 125 [] [(7,pb b9),(8,pb a0),(9,pb a1),(10,.func (.func 105) #[] #[pb a0,pb a1]),(26,sv ad1 p0 cap2),(27,iv (ln p0)),(28,iv a7)] a∧St w0 [arrT 192 2 fold_place.cells cR c9.length cV c9,blk a1 190 #[sv cR c9 cV],blk a0 189 #[.map (some a4)],G6 (fA fold_place.cells) Value.bool a4 d3,fz w0 ν3631,blk b9 197 #[sv aI y5.sets aJ,.map (some a3)],A9 135 132 1 (fN 1) aI y5.sets.length aJ b5 b4,Ah (fA fold_place.cells) 199 3 fold_bond.cells a3 B16 aB] w∧(ν3572.le ν3631)∧(μ.ext w0.heap.size ν3631)∧(Bm w0 ν3631)∧H3 a7 k6 c9 d3=some res) ?_ ?_
   ·skip
    refine wpIn_block ?_
    refine esr ?_
    replace h:=A5 h
    obtain ⟨d5,f2,h⟩:=h
    obtain ⟨fQ,dY,eQ⟩:=Ae hA4.2 f2
    obtain ⟨d8,dB,fR,rfl,cH⟩:=eQ
    refine rno 5 [.run [] (Instr.indexAt 147 (sv ad1 p0 cap2) (iv a7)) (.pointer (some (A3 ad1 a7 1))),.run [] (Instr.loadAt 135 (.pointer (some (A3 ad1 a7 1)))) (sv d8 d5 dB)] 5 [(7,pb b9),(8,pb a0),(9,pb a1),(10,.func (.func 105) #[] #[pb a0,pb a1]),(11,iv a7),(12,sv d8 d5 dB),(26,sv ad1 p0 cap2),(27,iv (ln p0)),(28,iv a7)] hF (A0 (A8 (hA4.at (hS.frz (i:=4) rfl hlow)) kr (fun _=>dY)) (A0 (An (i:=a7) 0 (As 1) (fun _ hd=>(hA4.at ((hS.at_ hd).frz (i:=4) rfl hlow))) kr (fun _=>dY) rfl) Af)) fun a hF=>?_
    refine wfn rfl ?_
    refine esr ?_
    refine rn 1 1 [(7,pb b9),(8,pb a0),(9,pb a1),(10,.func (.func 105) #[] #[pb a0,pb a1]),(11,iv a7),(26,sv ad1 p0 cap2),(27,iv (ln p0)),(28,iv a7),(33,sv d8 d5 dB)] hF fun a hF=>?_
    replace h:=A5 h
    obtain ⟨a9,f9,h⟩:=h
    refine SK.wi (Es (fun eH=>[(7,pb b9),(8,pb a0),(9,pb a1),(10,.func (.func 105) #[] #[pb a0,pb a1]),(11,iv a7),(26,sv ad1 p0 cap2),(27,iv (ln p0)),(28,iv a7),(34,eH)]) hF kr ⟨kr⟩ (Lz F d5 _ f9 (Ci w) w (Aj w) (cH.mono Rp132.mono (FrzAt.le_mem (hS.frz (i:=4) rfl hlow)))) (fun _=>⟨kr⟩) ?_)
    rintro eH w a ⟨aP,aT,rfl,hQ⟩ hF
    replace hS:St w0 [arr 3 1 fI aP a9.length aT a9,arrT 192 2 fold_place.cells bX b8.length bZ b8,blk a1 190 #[sv bX b8 bZ],blk a0 189 #[.map (some a4)],G6 (fA fold_place.cells) Value.bool a4 c2,fz w0 ν3572,blk b9 197 #[sv aI y5.sets aJ,.map (some a3)],A9 135 132 1 (fN 1) aI y5.sets.length aJ b5 b4,Ah (fA fold_place.cells) 199 3 fold_bond.cells a3 B16 aB] w:=hS.madeL hQ
    refine rn 2 4 [(7,pb b9),(8,pb a0),(9,pb a1),(10,.func (.func 105) #[] #[pb a0,pb a1]),(11,iv a7),(26,sv ad1 p0 cap2),(27,iv (ln p0)),(28,iv a7),(34,sv aP a9 aT),(35,iv (ln a9)),(36,iv 0)] hF fun a hF=>?_
    refine wfn rfl ?_
    refine wpIn_block ?_
    have e8:=Frz.le_refl ν3572
    refine D2 (fun n_ a w=>∃(aU:(List fold_place)) (bV:(List (fold_place×Bool))) (aV:Int) (ν3674:Frz) (bP:Option Addr) (bR:Nat),Fr 125 [] [(7,pb b9),(8,pb a0),(9,pb a1),(10,.func (.func 105) #[] #[pb a0,pb a1]),(11,iv a7),(26,sv ad1 p0 cap2),(27,iv (ln p0)),(28,iv a7),(34,sv aP a9 aT),(35,iv (ln a9)),(36,iv aV)] a∧St w0 [arrT 192 2 fold_place.cells bP aU.length bR aU,arr 3 1 fI aP a9.length aT a9,blk a1 190 #[sv bP aU bR],blk a0 189 #[.map (some a4)],G6 (fA fold_place.cells) Value.bool a4 bV,fz w0 ν3674,blk b9 197 #[sv aI y5.sets aJ,.map (some a3)],A9 135 132 1 (fN 1) aI y5.sets.length aJ b5 b4,Ah (fA fold_place.cells) 199 3 fold_bond.cells a3 B16 aB] w∧(ν3572.le ν3674)∧(μ.ext w0.heap.size ν3674)∧(Bm w0 ν3674)∧Dh F a7 k6 a9 n_ aU bV aV=some res) F ⟨b8,c2,0,ν3572,bX,bZ,hF.sub kr,St.pick [1,0,2,3,4,5,6,7,8] (by decide) hS,e8,hext,hlow,h⟩ ?_
    clear e8
    rintro nk8 a w ⟨aU,bV,aV,ν3674,bP,bR,hF,hS,bL,hext,hlow,h⟩
    rcases nk8 with _|nk8
    ·cases (show (none:Option (List (List (List api_Span))))=some res from h)
    replace hA4:=hA4.mono Rp135.mono bL
    replace aC:=aC.mono Rp132.mono bL
    replace cH:=cH.mono Rp132.mono bL
    replace bA:=Frz.le_trans bA bL
    replace bB:=Frz.le_trans bB bL
    replace c4:=Frz.le_trans c4 bL
    obtain ⟨k8,hk8⟩:∃k,k=Dh F a7 k6 a9 nk8:=⟨_,rfl⟩
    replace h:F3 F a7 k6 a9 k8 aU bV aV=some res:=by rw [hk8];exact h
    rw [F3] at h
    refine esr ?_
    refine rn 1 1 [(7,pb b9),(8,pb a0),(9,pb a1),(10,.func (.func 105) #[] #[pb a0,pb a1]),(11,iv a7),(26,sv ad1 p0 cap2),(27,iv (ln p0)),(28,iv a7),(34,sv aP a9 aT),(35,iv (ln a9)),(36,iv aV),(37,.bool (decide (aV<(ln a9))))] hF fun a hF=>?_
    refine wfn rfl ?_
    refine Ba ?_
    refine Ar hF rfl (fun hc=>?_) (fun hc=>?_)
    ·replace h:=Al h hc
     refine wpIn_skip (A4 ?_)
     refine Ba ?_
     refine wpIn_block ?_
     refine esr ?_
     replace h:=A5 h
     obtain ⟨d6,eC,h⟩:=h
     refine rno 3 [.run [] (Instr.indexAt 60 (sv aP a9 aT) (iv aV)) (.pointer (some (A3 aP aV 1))),.run [] (Instr.loadAt 3 (.pointer (some (A3 aP aV 1)))) (iv d6)] 3 [(7,pb b9),(8,pb a0),(9,pb a1),(10,.func (.func 105) #[] #[pb a0,pb a1]),(11,iv a7),(14,iv d6),(26,sv ad1 p0 cap2),(27,iv (ln p0)),(28,iv a7),(34,sv aP a9 aT),(35,iv (ln a9)),(36,iv aV)] hF (A0 (A8 (hS.arr (i:=1) rfl) kr (fun _=>eC)) (A0 (An (i:=aV) 0 K2 (fun _ hd=>((hS.at_ hd).arr (i:=1) rfl)) kr (fun _=>eC) rfl) Af)) fun a hF=>?_
     refine wfn rfl ?_
     refine WI.region ?_
     refine rn 4 4 [(7,pb b9),(8,pb a0),(9,pb a1),(10,.func (.func 105) #[] #[pb a0,pb a1]),(11,iv a7),(26,sv ad1 p0 cap2),(27,iv (ln p0)),(28,iv a7),(34,sv aP a9 aT),(35,iv (ln a9)),(36,iv aV),(40,.func (.func 105) #[] #[pb a0,pb a1]),(43,.agg #[iv a7,iv d6])] hF fun a hF=>?_
     replace h:=A5 h
     obtain ⟨cC,fB,h⟩:=h
     replace hS:St w0 [arrT 192 2 fold_place.cells bP aU.length bR aU,arr 3 1 fI aP a9.length aT a9,blk a1 190 #[sv bP aU bR],blk a0 189 #[.map (some a4)],G6 (fA fold_place.cells) Value.bool a4 bV,fz w0 ν3674,blk b9 197 #[sv aI y5.sets aJ,.map (some a3)],A9 135 132 1 (fN 1) aI y5.sets.length aJ b5 b4,Ah (fA fold_place.cells) 199 3 fold_bond.cells a3 B16 aB] w:=hS
     replace hS:St w0 [fz w0 ν3674,blk a0 189 #[.map (some a4)],G6 (fA fold_place.cells) Value.bool a4 bV,blk a1 190 #[sv bP aU bR],arrT 192 2 fold_place.cells bP aU.length bR aU,arr 3 1 fI aP a9.length aT a9,blk b9 197 #[sv aI y5.sets aJ,.map (some a3)],A9 135 132 1 (fN 1) aI y5.sets.length aJ b5 b4,Ah (fA fold_place.cells) 199 3 fold_bond.cells a3 B16 aB] w:=St.pick [5,3,4,2,0,1,6,7,8] (by decide) hS
     refine SK.wi (Es (fun fG=>[(7,pb b9),(8,pb a0),(9,pb a1),(10,.func (.func 105) #[] #[pb a0,pb a1]),(11,iv a7),(26,sv ad1 p0 cap2),(27,iv (ln p0)),(28,iv a7),(34,sv aP a9 aT),(35,iv (ln a9)),(36,iv aV)]) hF kr ⟨kr⟩ (Md F (fold_place.mk a7 d6) bV aU _ fB ν3674 w0 w [arr 3 1 fI aP a9.length aT a9,blk b9 197 #[sv aI y5.sets aJ,.map (some a3)],A9 135 132 1 (fN 1) aI y5.sets.length aJ b5 b4,Ah (fA fold_place.cells) 199 3 fold_bond.cells a3 B16 aB] hlow  hS) (fun _=>⟨kr⟩) ?_)
     rintro fG w a ⟨ν3684,d9,dC,bT,hlow,rfl,hS⟩ hF
     replace hext:=Frz.ext_trans hext bT
     replace hA4:=hA4.mono Rp135.mono bT.1
     replace aC:=aC.mono Rp132.mono bT.1
     replace cH:=cH.mono Rp132.mono bT.1
     replace bA:=Frz.le_trans bA bT.1
     replace bB:=Frz.le_trans bB bT.1
     replace c4:=Frz.le_trans c4 bT.1
     replace bL:=Frz.le_trans bL bT.1
     replace hS:St w0 [fz w0 ν3684,blk a0 189 #[.map (some a4)],G6 (fA fold_place.cells) Value.bool a4 cC.1,blk a1 190 #[sv d9 cC.2 dC],arrT 192 2 fold_place.cells d9 cC.2.length dC cC.2,arr 3 1 fI aP a9.length aT a9,blk b9 197 #[sv aI y5.sets aJ,.map (some a3)],A9 135 132 1 (fN 1) aI y5.sets.length aJ b5 b4,Ah (fA fold_place.cells) 199 3 fold_bond.cells a3 B16 aB] w:=hS
     refine WI.fin rfl (Ab<|A4<|?_)
     refine WI.region ?_
     replace h:=A5 h
     obtain ⟨dK,f5,h⟩:=h
     refine rno 2 [.run [] (binOp .add 3 (iv aV) (iv 1)) (iv dK)] 2 [(7,pb b9),(8,pb a0),(9,pb a1),(10,.func (.func 105) #[] #[pb a0,pb a1]),(11,iv a7),(26,sv ad1 p0 cap2),(27,iv (ln p0)),(28,iv a7),(34,sv aP a9 aT),(35,iv (ln a9)),(36,iv dK)] hF (A0 (Bg (fun _=>f5)) Af) fun a hF=>?_
     refine wfn rfl ?_
     rw [hk8] at h
     exact ⟨nk8,Nat.lt_succ_self _,cC.2,cC.1,dK,ν3684,d9,dC,hF.sub kr,St.pick [4,5,3,1,2,0,6,7,8] (by decide) hS,bL,hext,hlow,h⟩
    ·replace h:=Ak h hc
     refine wpIn_exit (A6<|A6<|Ai<|Ab<|A4<|?_)
     exact ⟨aU,bV,ν3674,bP,bR,hF.sub kr,St.pick [0,2,3,4,5,6,7,8] (by decide) hS,c4,hext,hlow,h⟩
   clear c4
   rintro a w ⟨c9,d3,ν3631,cR,cV,hF,hS,d0,hext,hlow,h⟩
   replace hA4:=hA4.mono Rp135.mono d0
   replace aC:=aC.mono Rp132.mono d0
   replace bA:=Frz.le_trans bA d0
   replace bB:=Frz.le_trans bB d0
   rw [H3] at h
   refine WI.region ?_
   replace h:=A5 h
   obtain ⟨dJ,f4,h⟩:=h
   refine rno 2 [.run [] (binOp .add 3 (iv a7) (iv 1)) (iv dJ)] 2 [(7,pb b9),(8,pb a0),(9,pb a1),(10,.func (.func 105) #[] #[pb a0,pb a1]),(26,sv ad1 p0 cap2),(27,iv (ln p0)),(28,iv dJ)] hF (A0 (Bg (fun _=>f4)) Af) fun a hF=>?_
   refine wfn rfl ?_
   rw [hk6] at h
   exact ⟨nk6,Nat.lt_succ_self _,c9,d3,dJ,ν3631,cR,cV,hF.sub kr,St.pick [0,1,2,3,4,5,6,7] (by decide) hS,bB,hext,hlow,h⟩
  ·replace h:=Ak h hc
   refine wpIn_exit (A6<|A6<|Ai<|A4 ?_)
   exact ⟨b8,c2,ν3572,bX,bZ,hF.sub kr,St.pick [0,1,2,3,4,5,6,7] (by decide) hS,bA,hext,hlow,h⟩
 clear bA
 rintro a w ⟨cA,d4,ν367,cS,cW,hF,hS,aQ,hext,hlow,h⟩
 replace hA4:=hA4.mono Rp135.mono aQ
 replace aC:=aC.mono Rp132.mono aQ
 rw [H1] at h
 have b3:=Frz.le_refl ν367
 refine Eb (fun a w=>∃(bU:(List fold_place)) (bE:(List (List (List api_Span)))) (d1:(List (fold_place×Bool))) (ν1850:Frz) (cD:Option Addr) (cE:Nat) (bH:Option Addr) (bI:Nat) (cI:List Hd) (dD:List (List (List Value))),Fr 125 [] [(7,pb b9)] a∧St w0 [A9 135 132 1 (fN 1) bH bE.length bI cI dD,arrT 192 2 fold_place.cells cD bU.length cE bU,blk a1 190 #[sv cD bU cE],blk a0 189 #[.map (some a4)],G6 (fA fold_place.cells) Value.bool a4 d1,fz w0 ν1850,blk b9 197 #[sv bH bE bI,.map (some a3)],Ah (fA fold_place.cells) 199 3 fold_bond.cells a3 B16 aB] w∧(NestOk (Rp132 ν1850) cI dD bE)∧(ν367.le ν1850)∧(μ.ext w0.heap.size ν1850)∧(Bm w0 ν1850)∧Ld bU bE d1=some res) ?_ ?_
 ·skip
  refine wpIn_block ?_
  have e5:=Frz.le_refl ν367
  refine D2 (fun n_ a w=>∃(aM:(List fold_place)) (aS:(List (List (List api_Span)))) (bF:(List (fold_place×Bool))) (ν2847:Frz) (aE:Option Addr) (a8:Nat) (aW:Option Addr) (aY:Nat) (bK:List Hd) (bJ:List (List (List Value))),Fr 125 [] [(7,pb b9),(8,pb a0),(9,pb a1),(10,.func (.func 105) #[] #[pb a0,pb a1])] a∧St w0 [A9 135 132 1 (fN 1) aW aS.length aY bK bJ,arrT 192 2 fold_place.cells aE aM.length a8 aM,blk a1 190 #[sv aE aM a8],blk a0 189 #[.map (some a4)],G6 (fA fold_place.cells) Value.bool a4 bF,fz w0 ν2847,blk b9 197 #[sv aW aS aY,.map (some a3)],Ah (fA fold_place.cells) 199 3 fold_bond.cells a3 B16 aB] w∧(NestOk (Rp132 ν2847) bK bJ aS)∧(ν367.le ν2847)∧(μ.ext w0.heap.size ν2847)∧(Bm w0 ν2847)∧Df F y5 n_ aM aS bF=some res) F ⟨cA,y5.sets,d4,ν367,cS,cW,aI,aJ,b5,b4,hF.sub kr,St.pick [6,0,1,2,3,4,5,7] (by decide) hS,aC,e5,hext,hlow,h⟩ ?_
  clear e5
  rintro nk3 a w ⟨aM,aS,bF,ν2847,aE,a8,aW,aY,bK,bJ,hF,hS,bC,b0,hext,hlow,h⟩
  rcases nk3 with _|nk3
  ·cases (show (none:Option (List (List (List api_Span))))=some res from h)
  replace hA4:=hA4.mono Rp135.mono b0
  replace aC:=aC.mono Rp132.mono b0
  replace aQ:=Frz.le_trans aQ b0
  replace b3:=Frz.le_trans b3 b0
  obtain ⟨k3,hk3⟩:∃k,k=Df F y5 nk3:=⟨_,rfl⟩
  replace h:E3 F y5 k3 aM aS bF=some res:=by rw [hk3];exact h
  rw [E3] at h
  refine Ba ?_
  refine esr ?_
  refine rno 3 [.run [] (Instr.loadAt 190 (pb a1)) (sv aE aM a8)] 3 [(7,pb b9),(8,pb a0),(9,pb a1),(10,.func (.func 105) #[] #[pb a0,pb a1]),(49,.bool (decide ((ln aM)>0)))] hF (A0 (ob1 kr (fun _ hd=>(hS.at_ hd).cell (i:=2) (j:=0) rfl rfl)) Af) fun a hF=>?_
  refine wfn rfl ?_
  refine Ar hF rfl (fun hc=>?_) (fun hc=>?_)
  ·replace h:=Al h hc
   refine wpIn_skip (A4 ?_)
   refine wpIn_block ?_
   refine esr ?_
   replace h:=A5 h
   obtain ⟨a2,eA,h⟩:=h
   refine rno 3 [.run [] (Instr.loadAt 190 (pb a1)) (sv aE aM a8),.run [] (Instr.indexAt 190 (sv aE aM a8) (iv 0)) (.pointer (some (A3 aE 0 2))),.run [] (Instr.loadAt 192 (.pointer (some (A3 aE 0 2)))) (.agg #[iv a2.ray,iv a2.gate])] 3 [(7,pb b9),(8,pb a0),(9,pb a1),(10,.func (.func 105) #[] #[pb a0,pb a1]),(52,.agg #[iv a2.ray,iv a2.gate])] hF (A0 (ob1 kr (fun _ hd=>(hS.at_ hd).cell (i:=2) (j:=0) rfl rfl)) (A0 (A8 (hS.arrT_ (i:=1) rfl) kr (fun _=>eA)) (A0 (Dx (m:=2) (i:=0) (us:=[iv a2.ray,iv a2.gate]) 0 fold_place.cells_len (fun _ hd=>((hS.at_ hd).arrT_ (i:=1) rfl)) kr (fun _=>eA) ⟨rfl,rfl⟩) Af))) fun a hF=>?_
   refine SK.wi (Bu (t:=192) (fun a6=>[(7,pb b9),(8,pb a0),(9,pb a1),(10,.func (.func 105) #[] #[pb a0,pb a1]),(15,pb a6),(52,.agg #[iv a2.ray,iv a2.gate])]) #[iv 0,iv 0] hF hS kr ⟨kr⟩ kr (fun _=>⟨kr⟩) fun a6 w a hF hS=>?_)
   refine SK.wi (storeK (t:=192) [(7,pb b9),(8,pb a0),(9,pb a1),(10,.func (.func 105) #[] #[pb a0,pb a1]),(15,pb a6)] 0 0 (.agg #[iv a2.ray,iv a2.gate]) #[iv a2.ray,iv a2.gate] hF hS rfl kr ⟨kr⟩ kr kr kr kr ⟨kr⟩ fun w a hF hS=>?_)
   refine wfn rfl ?_
   refine esr ?_
   replace h:=A5 h
   obtain ⟨b6,e9,h⟩:=h
   refine rno 2 [.run [] (Instr.loadAt 190 (pb a1)) (sv aE aM a8),.run [] (Instr.sliceAt 190 (sv aE aM a8) (some (iv 1)) none none) (.slice (Dz aE a8 (1:Int).toNat 2) b6.length (a8-(1:Int).toNat))] 2 [(7,pb b9),(8,pb a0),(9,pb a1),(10,.func (.func 105) #[] #[pb a0,pb a1]),(15,pb a6),(54,.slice (Dz aE a8 (1:Int).toNat 2) b6.length (a8-(1:Int).toNat))] hF (A0 (ob1 kr (fun _ hd=>(hS.at_ hd).cell (i:=3) (j:=0) rfl rfl)) (A0 (A4y kr (hS.arrT_ (i:=2) rfl) (fun _=>e9)) Af)) fun a hF=>?_
   refine SK.wi (storeK (t:=190) [(7,pb b9),(8,pb a0),(9,pb a1),(10,.func (.func 105) #[] #[pb a0,pb a1]),(15,pb a6)] 3 0 (.slice (Dz aE a8 (1:Int).toNat 2) b6.length (a8-(1:Int).toNat)) #[.slice (Dz aE a8 (1:Int).toNat 2) b6.length (a8-(1:Int).toNat)] hF hS rfl kr ⟨kr⟩ kr kr kr kr ⟨kr⟩ fun w a hF hS=>?_)
   refine wfn rfl ?_
   refine esr ?_
   refine rno 2 [.run [] (Instr.loadAt 189 (pb a0)) (.map (some a4)),.run [] (Instr.loadAt 192 (pb a6)) (.agg #[iv a2.ray,iv a2.gate])] 2 [(7,pb b9),(8,pb a0),(9,pb a1),(10,.func (.func 105) #[] #[pb a0,pb a1]),(15,pb a6),(55,.map (some a4)),(56,.agg #[iv a2.ray,iv a2.gate])] hF (A0 (ob1 kr (fun _ hd=>(hS.at_ hd).cell (i:=4) (j:=0) rfl rfl)) (A0 (obN (us:=[iv a2.ray,iv a2.gate]) kr (fun _ hd=>((hS.at_ hd).blk (i:=0) rfl).cells rfl)) Af)) fun a hF=>?_
   refine SK.wi (B0u (kt:=192) (e:=4) (t:=189) (tx:=192) (ty:=0) [(7,pb b9),(8,pb a0),(9,pb a1),(10,.func (.func 105) #[] #[pb a0,pb a1]),(15,pb a6)] 5 a2 Rl hF hS rfl kr ⟨kr⟩ kr ⟨kr⟩ fun w a hF hS=>?_)
   refine wfn rfl ?_
   refine Ba ?_
   refine C5 8 [5] _ (D:=fun w=>St w0 [blk a6 192 #[iv a2.ray,iv a2.gate],A9 135 132 1 (fN 1) aW aS.length aY bK bJ,arrT 192 2 fold_place.cells aE aM.length a8 aM,blk a1 190 #[.slice (Dz aE a8 (1:Int).toNat 2) b6.length (a8-(1:Int).toNat)],blk a0 189 #[.map (some a4)],G6 (fA fold_place.cells) Value.bool a4 (Lr bF a2),blk b9 197 #[sv aW aS aY,.map (some a3)],Ah (fA fold_place.cells) 199 3 fold_bond.cells a3 B16 aB] w∧FrzAt ν2847 w) kr kr hF.size (fun w hx=>?_) (fun _ _ h=>h)
   replace hS:=hS.later hx
   refine ⟨⟨St.pick [0,1,2,3,4,5,7,8] (by decide) hS,hS.frz (i:=6) rfl hlow⟩,?_⟩
   have fS:=Frz.le_refl ν2847
   refine WT.s [0,1,2,3,4,7] [5] kr kr ?_
   refine Jj (rest:=[]) (obs:=[.run [] (Instr.loadAt 195 (.pointer (some ⟨b9,1,none⟩))) (.map (some a3)),.run [] (Instr.loadAt 192 (pb a6)) (.agg #[iv a2.ray,iv a2.gate])]) [0,1,2,3,4,7] [(7,pb b9),(8,pb a0),(9,pb a1),(10,.func (.func 105) #[] #[pb a0,pb a1]),(15,pb a6),(60,.map (some a3)),(61,.agg #[iv a2.ray,iv a2.gate]),(64,iv 0)] hF kr kr (A0 (ob1 kr (fun _ hd=>hd.1.cell (i:=6) (j:=1) rfl rfl)) (A0 (obN (us:=[iv a2.ray,iv a2.gate]) kr (fun _ hd=>(hd.1.blk (i:=0) rfl).cells rfl)) Af)) ⟨kr⟩ fun a hF=>?_
   refine WRun.fin ?_
   refine all_cons ?_ (Av)
   refine A4p (kt:=192) (te:=194) (t:=195) (fun aG aL=>[(7,pb b9),(8,pb a0),(9,pb a1),(10,.func (.func 105) #[] #[pb a0,pb a1]),(15,pb a6),(62,.slice aG (((lkM y5.bonds a2).getD []).length) aL),(64,iv 0)]) 8 a2 Rl eT hF hS rfl kr ⟨kr⟩ kr kr (fun _ _=>⟨kr⟩) fun aG aL fH a hF eU hr2878=>⟨⟨St.pick [0,1,2,3,4,5,7,8] (by decide) hS,(hS.frz (i:=6) rfl hlow)⟩,?_⟩
   obtain rfl:=Wi eU
   refine WT.z [6] kr ?_
   refine Jj (rest:=[]) (obs:=[]) [6] [(7,pb b9),(8,pb a0),(9,pb a1),(10,.func (.func 105) #[] #[pb a0,pb a1]),(15,pb a6),(62,.slice aG (((lkM y5.bonds a2).getD []).length) aL),(63,iv ((((lkM y5.bonds a2).getD []).length:Nat):Int)),(64,iv 0)] hF kr kr Af ⟨kr⟩ fun a hF=>?_
   refine WRun.fin ?_
   refine wfn rfl ?_
   refine wpIn_block ?_
   have e6:=Frz.le_refl ν2847
   replace hS:St w0 [blk a6 192 #[iv a2.ray,iv a2.gate],A9 135 132 1 (fN 1) aW aS.length aY bK bJ,arrT 192 2 fold_place.cells aE aM.length a8 aM,blk a1 190 #[.slice (Dz aE a8 (1:Int).toNat 2) b6.length (a8-(1:Int).toNat)],blk a0 189 #[.map (some a4)],G6 (fA fold_place.cells) Value.bool a4 (Lr bF a2),fz w0 ν2847,blk b9 197 #[sv aW aS aY,.map (some a3)],Ah (fA fold_place.cells) 199 3 fold_bond.cells a3 B16 aB] w:=hS
   replace hS:St w0 [arrT 192 2 fold_place.cells aE aM.length a8 aM,blk a6 192 #[iv a2.ray,iv a2.gate],A9 135 132 1 (fN 1) aW aS.length aY bK bJ,blk a1 190 #[.slice (Dz aE a8 (1:Int).toNat 2) b6.length (a8-(1:Int).toNat)],blk a0 189 #[.map (some a4)],G6 (fA fold_place.cells) Value.bool a4 (Lr bF a2),fz w0 ν2847,blk b9 197 #[sv aW aS aY,.map (some a3)],Ah (fA fold_place.cells) 199 3 fold_bond.cells a3 B16 aB] w:=St.pick [2,0,1,3,4,5,6,7,8] (by decide) hS
   replace hS:St w0 [arrT 192 2 fold_place.cells (Dz aE a8 (1:Int).toNat 2) b6.length (a8-(1:Int).toNat) b6,blk a6 192 #[iv a2.ray,iv a2.gate],A9 135 132 1 (fN 1) aW aS.length aY bK bJ,blk a1 190 #[.slice (Dz aE a8 (1:Int).toNat 2) b6.length (a8-(1:Int).toNat)],blk a0 189 #[.map (some a4)],G6 (fA fold_place.cells) Value.bool a4 (Lr bF a2),fz w0 ν2847,blk b9 197 #[sv aW aS aY,.map (some a3)],Ah (fA fold_place.cells) 199 3 fold_bond.cells a3 B16 aB] w:=St.cutT hS fold_place.cells_len e9
   refine D2 (fun n_ a w=>∃(aK:(List fold_place)) (aN:(List (List (List api_Span)))) (b7:(List (fold_place×Bool))) (aD:Int) (ν3184:Frz) (aX:Option Addr) (aZ:Nat) (aA:Option Addr) (aF:Nat) (b2:List Hd) (c0:List (List (List Value))),Fr 125 [] [(7,pb b9),(8,pb a0),(9,pb a1),(10,.func (.func 105) #[] #[pb a0,pb a1]),(15,pb a6),(62,.slice aG (((lkM y5.bonds a2).getD []).length) aL),(63,iv ((((lkM y5.bonds a2).getD []).length:Nat):Int)),(64,iv aD)] a∧St w0 [A9 135 132 1 (fN 1) aA aN.length aF b2 c0,arrT 192 2 fold_place.cells aX aK.length aZ aK,blk a6 192 #[iv a2.ray,iv a2.gate],blk a1 190 #[sv aX aK aZ],blk a0 189 #[.map (some a4)],G6 (fA fold_place.cells) Value.bool a4 b7,fz w0 ν3184,blk b9 197 #[sv aA aN aF,.map (some a3)],Ah (fA fold_place.cells) 199 3 fold_bond.cells a3 B16 aB] w∧(NestOk (Rp132 ν3184) b2 c0 aN)∧(ν2847.le ν3184)∧(μ.ext w0.heap.size ν3184)∧(Bm w0 ν3184)∧Bv F y5 k3 a2 n_ aK aN b7 aD=some res) F ⟨b6,aS,(Lr bF a2),0,ν2847,(Dz aE a8 (1:Int).toNat 2),(a8-(1:Int).toNat),aW,aY,bK,bJ,hF.sub kr,St.pick [2,0,1,3,4,5,6,7,8] (by decide) hS,bC,e6,hext,hlow,h⟩ ?_
   clear e6
   rintro nk4 a w ⟨aK,aN,b7,aD,ν3184,aX,aZ,aA,aF,b2,c0,hF,hS,bD,b1,hext,hlow,h⟩
   rcases nk4 with _|nk4
   ·cases (show (none:Option (List (List (List api_Span))))=some res from h)
   replace hA4:=hA4.mono Rp135.mono b1
   replace aC:=aC.mono Rp132.mono b1
   replace bC:=bC.mono Rp132.mono b1
   replace aQ:=Frz.le_trans aQ b1
   replace b3:=Frz.le_trans b3 b1
   replace b0:=Frz.le_trans b0 b1
   obtain ⟨k4,hk4⟩:∃k,k=Bv F y5 k3 a2 nk4:=⟨_,rfl⟩
   replace h:E4 F y5 k3 a2 k4 aK aN b7 aD=some res:=by rw [hk4];exact h
   rw [E4] at h
   refine esr ?_
   refine rn 1 1 [(7,pb b9),(8,pb a0),(9,pb a1),(10,.func (.func 105) #[] #[pb a0,pb a1]),(15,pb a6),(62,.slice aG (((lkM y5.bonds a2).getD []).length) aL),(63,iv ((((lkM y5.bonds a2).getD []).length:Nat):Int)),(64,iv aD),(65,.bool (decide (aD<((((lkM y5.bonds a2).getD []).length:Nat):Int))))] hF fun a hF=>?_
   refine wfn rfl ?_
   refine Ba ?_
   refine Ar hF rfl (fun hc=>?_) (fun hc=>?_)
   ·replace h:=Al h hc
    refine wpIn_skip (A4 ?_)
    have c1:=Frz.le_refl ν3184
    refine Eb (fun a w=>∃(c7:(List fold_place)) (c8:(List (List (List api_Span)))) (d2:(List (fold_place×Bool))) (ν3264:Frz) (cM:Option Addr) (cT:Nat) (cN:Option Addr) (cU:Nat) (cZ:List Hd) (cX:List (List (List Value))),Fr 125 [] [(7,pb b9),(8,pb a0),(9,pb a1),(10,.func (.func 105) #[] #[pb a0,pb a1]),(15,pb a6),(62,.slice aG (((lkM y5.bonds a2).getD []).length) aL),(63,iv ((((lkM y5.bonds a2).getD []).length:Nat):Int)),(64,iv aD)] a∧St w0 [A9 135 132 1 (fN 1) cN c8.length cU cZ cX,arrT 192 2 fold_place.cells cM c7.length cT c7,fz w0 ν3264,blk a0 189 #[.map (some a4)],G6 (fA fold_place.cells) Value.bool a4 d2,blk a1 190 #[sv cM c7 cT],blk a6 192 #[iv a2.ray,iv a2.gate],blk b9 197 #[sv cN c8 cU,.map (some a3)],Ah (fA fold_place.cells) 199 3 fold_bond.cells a3 B16 aB] w∧(NestOk (Rp132 ν3264) cZ cX c8)∧(ν3184.le ν3264)∧(μ.ext w0.heap.size ν3264)∧(Bm w0 ν3264)∧E5 aD k4 c7 c8 d2=some res) ?_ ?_
    ·skip
     refine wpIn_block ?_
     refine esr ?_
     replace h:=A5 h
     obtain ⟨a5,eB,h⟩:=h
     refine rno 2 [.run [] (Instr.indexAt 194 (.slice aG (((lkM y5.bonds a2).getD []).length) aL) (iv aD)) (.pointer (some (A3 aG aD 3))),.run [] (Instr.loadAt 199 (.pointer (some (A3 aG aD 3)))) (a5.ag)] 2 [(7,pb b9),(8,pb a0),(9,pb a1),(10,.func (.func 105) #[] #[pb a0,pb a1]),(15,pb a6),(62,.slice aG (((lkM y5.bonds a2).getD []).length) aL),(63,iv ((((lkM y5.bonds a2).getD []).length:Nat):Int)),(64,iv aD),(67,a5.ag)] hF (A0 (A8 (hr2878 _ (hS.res (i:=8) rfl)) kr (fun _=>eB)) (A0 (Dx (m:=3) (i:=aD) (us:=a5.cells) 0 fold_bond.cells_len (fun _ hd=>(hr2878 _ ((hS.at_ hd).res (i:=8) rfl))) kr (fun _=>eB) ⟨rfl,rfl⟩) Af)) fun a hF=>?_
     refine SK.wi (Bu (t:=199) (fun aH=>[(7,pb b9),(8,pb a0),(9,pb a1),(10,.func (.func 105) #[] #[pb a0,pb a1]),(15,pb a6),(17,pb aH),(62,.slice aG (((lkM y5.bonds a2).getD []).length) aL),(63,iv ((((lkM y5.bonds a2).getD []).length:Nat):Int)),(64,iv aD),(67,a5.ag)]) #[iv 0,iv 0,iv 0] hF hS kr ⟨kr⟩ kr (fun _=>⟨kr⟩) fun aH w a hF hS=>?_)
     refine SK.wi (storeK (t:=199) [(7,pb b9),(8,pb a0),(9,pb a1),(10,.func (.func 105) #[] #[pb a0,pb a1]),(15,pb a6),(17,pb aH),(62,.slice aG (((lkM y5.bonds a2).getD []).length) aL),(63,iv ((((lkM y5.bonds a2).getD []).length:Nat):Int)),(64,iv aD)] 0 0 (a5.ag) a5.ar hF hS rfl kr ⟨kr⟩ kr kr kr kr ⟨kr⟩ fun w a hF hS=>?_)
     refine wfn rfl ?_
     refine Ba ?_
     replace h:=A5 h
     obtain ⟨eD,eW,h⟩:=h
     obtain ⟨cO,dN,fJ,dZ,e2,dS,cK⟩:=NestOk.get bD eW
     replace h:=A5 h
     obtain ⟨bN,eX,h⟩:=h
     obtain ⟨fM,dV,eN⟩:=Ae cK eX
     obtain ⟨bW,bY,rfl,c3⟩:=eN
     refine L8 (obs:=[.run [] (Instr.loadAt 147 (pb b9)) (sv aA aN aF),.run [] (Instr.loadAt 3 (pb aH)) (iv a5.to.ray),.run [] (Instr.indexAt 147 (sv aA aN aF) (iv a5.to.ray)) (.pointer (some (A3 aA a5.to.ray 1))),.run [] (Instr.loadAt 135 (.pointer (some (A3 aA a5.to.ray 1)))) (sv cO eD dN),.run [] (Instr.loadAt 3 (.pointer (some ⟨aH,1,none⟩))) (iv a5.to.gate),.run [] (Instr.indexAt 135 (sv cO eD dN) (iv a5.to.gate)) (.pointer (some (A3 cO a5.to.gate 1))),.run [] (Instr.loadAt 132 (.pointer (some (A3 cO a5.to.gate 1)))) (sv bW bN bY)]) 15 [(7,pb b9),(8,pb a0),(9,pb a1),(10,.func (.func 105) #[] #[pb a0,pb a1]),(15,pb a6),(17,pb aH),(18,sv bW bN bY),(62,.slice aG (((lkM y5.bonds a2).getD []).length) aL),(63,iv ((((lkM y5.bonds a2).getD []).length:Nat):Int)),(64,iv aD)] kr hF kr (A0 (ob1 kr (fun _ hd=>(hS.later hd).cell (i:=8) (j:=0) rfl rfl)) (A0 (ob1 kr (fun _ hd=>(hS.later hd).cell (i:=0) (j:=0) rfl rfl)) (A0 (A8 (Ao (hS.res (i:=1) rfl)) kr (fun _=>dZ)) (A0 (An (i:=a5.to.ray) 0 C6 (fun _ hd=>(Ao ((hS.later hd).res (i:=1) rfl))) kr (fun _=>dZ) rfl) (A0 (ob1 kr (fun _ hd=>(hS.later hd).cell (i:=0) (j:=1) rfl rfl)) (A0 (A8 (Bb (hS.res (i:=1) rfl) e2 dS) kr (fun _=>dV)) (A0 (An (i:=a5.to.gate) 0 (As 1) (fun _ hd=>(Bb ((hS.later hd).res (i:=1) rfl) e2 dS)) kr (fun _=>dV) rfl) Af))))))) ⟨kr⟩ fun a w hF hx=>?_
     replace hS:=hS.later hx
     refine wfn rfl ?_
     refine Ba ?_
     replace h:=A5 h
     obtain ⟨eE,eY,h⟩:=h
     obtain ⟨cP,dO,fK,e0,e3,dT,cL⟩:=NestOk.get bD eY
     replace h:=A5 h
     obtain ⟨dH,eZ,h⟩:=h
     obtain ⟨fO,dW,eO⟩:=Ae cL eZ
     obtain ⟨dL,dP,rfl,cG⟩:=eO
     refine L8 (obs:=[.run [] (Instr.loadAt 147 (pb b9)) (sv aA aN aF),.run [] (Instr.loadAt 3 (pb a6)) (iv a2.ray),.run [] (Instr.indexAt 147 (sv aA aN aF) (iv a2.ray)) (.pointer (some (A3 aA a2.ray 1))),.run [] (Instr.loadAt 135 (.pointer (some (A3 aA a2.ray 1)))) (sv cP eE dO),.run [] (Instr.loadAt 3 (.pointer (some ⟨a6,1,none⟩))) (iv a2.gate),.run [] (Instr.indexAt 135 (sv cP eE dO) (iv a2.gate)) (.pointer (some (A3 cP a2.gate 1))),.run [] (Instr.loadAt 132 (.pointer (some (A3 cP a2.gate 1)))) (sv dL dH dP),.run [] (Instr.loadAt 3 (.pointer (some ⟨aH,2,none⟩))) (iv a5.most)]) 15 [(7,pb b9),(8,pb a0),(9,pb a1),(10,.func (.func 105) #[] #[pb a0,pb a1]),(15,pb a6),(17,pb aH),(18,sv bW bN bY),(62,.slice aG (((lkM y5.bonds a2).getD []).length) aL),(63,iv ((((lkM y5.bonds a2).getD []).length:Nat):Int)),(64,iv aD),(82,sv bW bN bY),(94,sv dL dH dP),(96,iv a5.most)] kr hF kr (A0 (ob1 kr (fun _ hd=>(hS.later hd).cell (i:=8) (j:=0) rfl rfl)) (A0 (ob1 kr (fun _ hd=>(hS.later hd).cell (i:=3) (j:=0) rfl rfl)) (A0 (A8 (Ao (hS.res (i:=1) rfl)) kr (fun _=>e0)) (A0 (An (i:=a2.ray) 0 C6 (fun _ hd=>(Ao ((hS.later hd).res (i:=1) rfl))) kr (fun _=>e0) rfl) (A0 (ob1 kr (fun _ hd=>(hS.later hd).cell (i:=3) (j:=1) rfl rfl)) (A0 (A8 (Bb (hS.res (i:=1) rfl) e3 dT) kr (fun _=>dW)) (A0 (An (i:=a2.gate) 0 (As 1) (fun _ hd=>(Bb ((hS.later hd).res (i:=1) rfl) e3 dT)) kr (fun _=>dW) rfl) (A0 (ob1 kr (fun _ hd=>(hS.later hd).cell (i:=0) (j:=2) rfl rfl)) Af)))))))) ⟨kr⟩ fun a w hF hx=>?_
     replace hS:=hS.later hx
     replace h:=A5 h
     obtain ⟨bG,f6,h⟩:=h
     refine SK.wi (Es (fun eG=>[(7,pb b9),(8,pb a0),(9,pb a1),(10,.func (.func 105) #[] #[pb a0,pb a1]),(15,pb a6),(17,pb aH),(18,sv bW bN bY),(62,.slice aG (((lkM y5.bonds a2).getD []).length) aL),(63,iv ((((lkM y5.bonds a2).getD []).length:Nat):Int)),(64,iv aD),(97,eG)]) hF kr ⟨kr⟩ (L1 F bN dH a5.most _ f6 (Ci w) w (Aj w) (c3.mono (FrzAt.le_mem (hS.frz (i:=7) rfl hlow))) (cG.mono (FrzAt.le_mem (hS.frz (i:=7) rfl hlow)))) (fun _=>⟨kr⟩) ?_)
     rintro eG w a ⟨bO,bQ,rfl,hQ⟩ hF
     replace hS:St w0 [arr 25 2 api_Span.cells bO bG.length bQ bG,blk aH 199 a5.ar,A9 135 132 1 (fN 1) aA aN.length aF b2 c0,arrT 192 2 fold_place.cells aX aK.length aZ aK,blk a6 192 #[iv a2.ray,iv a2.gate],blk a1 190 #[sv aX aK aZ],blk a0 189 #[.map (some a4)],G6 (fA fold_place.cells) Value.bool a4 b7,fz w0 ν3184,blk b9 197 #[sv aA aN aF,.map (some a3)],Ah (fA fold_place.cells) 199 3 fold_bond.cells a3 B16 aB] w:=hS.madeL hQ
     refine rn 1 17 [(7,pb b9),(8,pb a0),(9,pb a1),(10,.func (.func 105) #[] #[pb a0,pb a1]),(15,pb a6),(17,pb aH),(18,sv bW bN bY),(19,sv bO bG bQ),(62,.slice aG (((lkM y5.bonds a2).getD []).length) aL),(63,iv ((((lkM y5.bonds a2).getD []).length:Nat):Int)),(64,iv aD)] hF fun a hF=>?_
     refine wfn rfl ?_
     refine esr ?_
     replace h:=A5 h
     obtain ⟨eI,f7,h⟩:=h
     refine rx 4 [.call [] 106 #[sv bW bN bY,sv bO bG bQ] (.bool eI)] 4 [(7,pb b9),(8,pb a0),(9,pb a1),(10,.func (.func 105) #[] #[pb a0,pb a1]),(15,pb a6),(17,pb aH),(19,sv bO bG bQ),(62,.slice aG (((lkM y5.bonds a2).getD []).length) aL),(63,iv ((((lkM y5.bonds a2).getD []).length:Nat):Int)),(64,iv aD),(101,.bool (!eI))] hF (A0 (show Ob.ok _ Ext _ _ from fun hk w2 hd=>Hp F bN bG _ ((fun _=>f7) hk) _ w2 (Aj w2) (c3.mono (FrzAt.le_mem ((hS.later hd).frz (i:=8) rfl hlow))) (Arr.toM ((hS.later hd).arr (i:=0) rfl))) Af) fun a w hF hx=>?_
     replace hS:=hS.later hx
     refine wfn rfl ?_
     refine Ar hF rfl (fun hc=>?_) (fun hc=>?_)
     ·replace h:=Al h hc
      refine Ba ?_
      replace h:=A5 h
      obtain ⟨eF,f0,h⟩:=h
      obtain ⟨cQ,dQ,fL,e1,e4,dU,c5⟩:=NestOk.get bD f0
      replace h:=A5 h
      obtain ⟨fE,f1,h⟩:=h
      obtain ⟨fP,dX,eP⟩:=Ae c5 f1
      obtain ⟨eJ,eK,rfl,cY⟩:=eP
      refine L8 (obs:=[.run [] (Instr.loadAt 147 (pb b9)) (sv aA aN aF),.run [] (Instr.loadAt 3 (pb aH)) (iv a5.to.ray),.run [] (Instr.indexAt 147 (sv aA aN aF) (iv a5.to.ray)) (.pointer (some (A3 aA a5.to.ray 1))),.run [] (Instr.loadAt 135 (.pointer (some (A3 aA a5.to.ray 1)))) (sv cQ eF dQ),.run [] (Instr.loadAt 3 (.pointer (some ⟨aH,1,none⟩))) (iv a5.to.gate),.run [] (Instr.indexAt 135 (sv cQ eF dQ) (iv a5.to.gate)) (.pointer (some (A3 cQ a5.to.gate 1)))]) 14 [(7,pb b9),(8,pb a0),(9,pb a1),(10,.func (.func 105) #[] #[pb a0,pb a1]),(15,pb a6),(17,pb aH),(62,.slice aG (((lkM y5.bonds a2).getD []).length) aL),(63,iv ((((lkM y5.bonds a2).getD []).length:Nat):Int)),(64,iv aD),(114,sv bO bG bQ),(115,.pointer (some (A3 cQ a5.to.gate 1)))] kr hF kr (A0 (ob1 kr (fun _ hd=>(hS.later hd).cell (i:=9) (j:=0) rfl rfl)) (A0 (ob1 kr (fun _ hd=>(hS.later hd).cell (i:=1) (j:=0) rfl rfl)) (A0 (A8 (Ao (hS.res (i:=2) rfl)) kr (fun _=>e1)) (A0 (An (i:=a5.to.ray) 0 C6 (fun _ hd=>(Ao ((hS.later hd).res (i:=2) rfl))) kr (fun _=>e1) rfl) (A0 (ob1 kr (fun _ hd=>(hS.later hd).cell (i:=1) (j:=1) rfl rfl)) (A0 (A8 (Bb (hS.res (i:=2) rfl) e4 dU) kr (fun _=>dX)) Af)))))) ⟨kr⟩ fun a w hF hx=>?_
      replace hS:=hS.later hx
      obtain ⟨ν3330,aR,hlow,hS,fD⟩:=hS.freeze (i:=8) (j:=0) rfl rfl (by decide) hlow
      replace hA4:=hA4.mono Rp135.mono aR.1
      replace aC:=aC.mono Rp132.mono aR.1
      replace bC:=bC.mono Rp132.mono aR.1
      replace bD:=bD.mono Rp132.mono aR.1
      replace cK:=All2.mono Rp132.mono aR.1 cK
      replace c3:=c3.mono aR.1
      replace cL:=All2.mono Rp132.mono aR.1 cL
      replace cG:=cG.mono aR.1
      replace c5:=All2.mono Rp132.mono aR.1 c5
      replace cY:=cY.mono aR.1
      replace aQ:=Frz.le_trans aQ aR.1
      replace b3:=Frz.le_trans b3 aR.1
      replace b0:=Frz.le_trans b0 aR.1
      replace b1:=Frz.le_trans b1 aR.1
      replace c1:=Frz.le_trans c1 aR.1
      replace hext:=Frz.ext_trans hext aR
      replace hS:St w0 [blk aH 199 a5.ar,A9 135 132 1 (fN 1) aA aN.length aF b2 c0,arrT 192 2 fold_place.cells aX aK.length aZ aK,blk a6 192 #[iv a2.ray,iv a2.gate],blk a1 190 #[sv aX aK aZ],blk a0 189 #[.map (some a4)],G6 (fA fold_place.cells) Value.bool a4 b7,fz w0 ν3330,blk b9 197 #[sv aA aN aF,.map (some a3)],Ah (fA fold_place.cells) 199 3 fold_bond.cells a3 B16 aB] w:=hS
      have dE:=ArrM.of_arr fD
      replace h:=A5 h
      obtain ⟨fT,eR,h⟩:=h
      replace h:=A5 h
      obtain ⟨bM,eS,h⟩:=h
      refine SK.wi (A7z (t:=132) (j:=a5.to.gate) (S:=Rp132 ν3330) [(7,pb b9),(8,pb a0),(9,pb a1),(10,.func (.func 105) #[] #[pb a0,pb a1]),(15,pb a6),(17,pb aH),(62,.slice aG (((lkM y5.bonds a2).getD []).length) aL),(63,iv ((((lkM y5.bonds a2).getD []).length:Nat):Int)),(64,iv aD)] 1 a5.to.ray 0 [sv eJ fE eK] [sv bO bG bQ] bG (sv bO bG bQ) bD ⟨bO,bQ,rfl,dE⟩ hF hS rfl kr ⟨kr⟩ (As 1) e4 dU c5 dX rfl kr kr kr eR eS ⟨kr⟩ fun cF w a hF hL_ hl dG hS=>?_)
      simp only [sv,ln,hL_] at hF hS
      refine wfn rfl ?_
      refine WI.region ?_
      refine rno 3 [.run [] (Instr.loadAt 192 (pb aH)) (.agg #[iv a5.to.ray,iv a5.to.gate])] 3 [(7,pb b9),(8,pb a0),(9,pb a1),(10,.func (.func 105) #[] #[pb a0,pb a1]),(15,pb a6),(62,.slice aG (((lkM y5.bonds a2).getD []).length) aL),(63,iv ((((lkM y5.bonds a2).getD []).length:Nat):Int)),(64,iv aD),(116,.func (.func 105) #[] #[pb a0,pb a1]),(118,.agg #[iv a5.to.ray,iv a5.to.gate])] hF (A0 (obN (us:=[iv a5.to.ray,iv a5.to.gate]) kr (fun _ hd=>((hS.at_ hd).blk (i:=0) rfl).cells rfl)) Af) fun a hF=>?_
      replace h:=A5 h
      obtain ⟨cB,f8,h⟩:=h
      replace hS:St w0 [blk aH 199 a5.ar,A9 135 132 1 (fN 1) aA bM.length aF b2 cF,arrT 192 2 fold_place.cells aX aK.length aZ aK,blk a6 192 #[iv a2.ray,iv a2.gate],blk a1 190 #[sv aX aK aZ],blk a0 189 #[.map (some a4)],G6 (fA fold_place.cells) Value.bool a4 b7,fz w0 ν3330,blk b9 197 #[sv aA bM aF,.map (some a3)],Ah (fA fold_place.cells) 199 3 fold_bond.cells a3 B16 aB] w:=hS
      replace hS:St w0 [fz w0 ν3330,blk a0 189 #[.map (some a4)],G6 (fA fold_place.cells) Value.bool a4 b7,blk a1 190 #[sv aX aK aZ],arrT 192 2 fold_place.cells aX aK.length aZ aK,blk aH 199 a5.ar,A9 135 132 1 (fN 1) aA bM.length aF b2 cF,blk a6 192 #[iv a2.ray,iv a2.gate],blk b9 197 #[sv aA bM aF,.map (some a3)],Ah (fA fold_place.cells) 199 3 fold_bond.cells a3 B16 aB] w:=St.pick [7,5,6,4,2,0,1,3,8,9] (by decide) hS
      refine SK.wi (Es (fun fF=>[(7,pb b9),(8,pb a0),(9,pb a1),(10,.func (.func 105) #[] #[pb a0,pb a1]),(15,pb a6),(62,.slice aG (((lkM y5.bonds a2).getD []).length) aL),(63,iv ((((lkM y5.bonds a2).getD []).length:Nat):Int)),(64,iv aD)]) hF kr ⟨kr⟩ (Md F a5.to b7 aK _ f8 ν3330 w0 w [blk aH 199 a5.ar,A9 135 132 1 (fN 1) aA bM.length aF b2 cF,blk a6 192 #[iv a2.ray,iv a2.gate],blk b9 197 #[sv aA bM aF,.map (some a3)],Ah (fA fold_place.cells) 199 3 fold_bond.cells a3 B16 aB] hlow  hS) (fun _=>⟨kr⟩) ?_)
      rintro fF w a ⟨ν3339,d7,dA,aO,hlow,rfl,hS⟩ hF
      replace hext:=Frz.ext_trans hext aO
      replace hA4:=hA4.mono Rp135.mono aO.1
      replace aC:=aC.mono Rp132.mono aO.1
      replace bC:=bC.mono Rp132.mono aO.1
      replace cK:=All2.mono Rp132.mono aO.1 cK
      replace c3:=c3.mono aO.1
      replace cL:=All2.mono Rp132.mono aO.1 cL
      replace cG:=cG.mono aO.1
      replace c5:=All2.mono Rp132.mono aO.1 c5
      replace cY:=cY.mono aO.1
      replace dE:=dE.mono aO.1
      replace dG:=dG.mono Rp132.mono aO.1
      replace aQ:=Frz.le_trans aQ aO.1
      replace b3:=Frz.le_trans b3 aO.1
      replace b0:=Frz.le_trans b0 aO.1
      replace b1:=Frz.le_trans b1 aO.1
      replace c1:=Frz.le_trans c1 aO.1
      replace hS:St w0 [fz w0 ν3339,blk a0 189 #[.map (some a4)],G6 (fA fold_place.cells) Value.bool a4 cB.1,blk a1 190 #[sv d7 cB.2 dA],arrT 192 2 fold_place.cells d7 cB.2.length dA cB.2,blk aH 199 a5.ar,A9 135 132 1 (fN 1) aA bM.length aF b2 cF,blk a6 192 #[iv a2.ray,iv a2.gate],blk b9 197 #[sv aA bM aF,.map (some a3)],Ah (fA fold_place.cells) 199 3 fold_bond.cells a3 B16 aB] w:=hS
      refine WI.fin rfl (Ab<|A4<|?_)
      exact ⟨cB.2,bM,cB.1,ν3339,d7,dA,aA,aF,b2,cF,hF.sub kr,St.pick [6,4,0,1,2,3,7,8,9] (by decide) hS,dG,c1,hext,hlow,h⟩
     ·replace h:=Ak h hc
      refine wpIn_skip (Ab<|A4<|?_)
      exact ⟨aK,aN,b7,ν3184,aX,aZ,aA,aF,b2,c0,hF.sub kr,St.pick [2,3,8,6,7,5,4,9,10] (by decide) hS,bD,c1,hext,hlow,h⟩
    clear c1
    rintro a w ⟨c7,c8,d2,ν3264,cM,cT,cN,cU,cZ,cX,hF,hS,eV,bS,hext,hlow,h⟩
    replace hA4:=hA4.mono Rp135.mono bS
    replace aC:=aC.mono Rp132.mono bS
    replace bC:=bC.mono Rp132.mono bS
    replace bD:=bD.mono Rp132.mono bS
    replace aQ:=Frz.le_trans aQ bS
    replace b3:=Frz.le_trans b3 bS
    replace b0:=Frz.le_trans b0 bS
    replace b1:=Frz.le_trans b1 bS
    rw [E5] at h
    refine WI.region ?_
    replace h:=A5 h
    obtain ⟨dI,f3,h⟩:=h
    refine rno 2 [.run [] (binOp .add 3 (iv aD) (iv 1)) (iv dI)] 2 [(7,pb b9),(8,pb a0),(9,pb a1),(10,.func (.func 105) #[] #[pb a0,pb a1]),(15,pb a6),(62,.slice aG (((lkM y5.bonds a2).getD []).length) aL),(63,iv ((((lkM y5.bonds a2).getD []).length:Nat):Int)),(64,iv dI)] hF (A0 (Bg (fun _=>f3)) Af) fun a hF=>?_
    refine wfn rfl ?_
    rw [hk4] at h
    exact ⟨nk4,Nat.lt_succ_self _,c7,c8,d2,dI,ν3264,cM,cT,cN,cU,cZ,cX,hF.sub kr,St.pick [0,1,6,5,3,4,2,7,8] (by decide) hS,eV,b1,hext,hlow,h⟩
   ·replace h:=Ak h hc
    refine wpIn_exit (A6<|A6<|Ai<|Ab<|A4<|?_)
    rw [hk3] at h
    exact ⟨nk3,Nat.lt_succ_self _,aK,aN,b7,ν3184,aX,aZ,aA,aF,b2,c0,hF.sub kr,St.pick [0,1,3,4,5,6,7,8] (by decide) hS,bD,b0,hext,hlow,h⟩
  ·replace h:=Ak h hc
   refine wpIn_exit (A6<|A6<|Ai<|A4 ?_)
   exact ⟨aM,aS,bF,ν2847,aE,a8,aW,aY,bK,bJ,hF.sub kr,St.pick [0,1,2,3,4,5,6,7] (by decide) hS,bC,b3,hext,hlow,h⟩
 clear b3
 rintro a w ⟨bU,bE,d1,ν1850,cD,cE,bH,bI,cI,dD,hF,hS,dF,cJ,hext,hlow,h⟩
 replace hA4:=hA4.mono Rp135.mono cJ
 replace aC:=aC.mono Rp132.mono cJ
 replace aQ:=Frz.le_trans aQ cJ
 rw [Ld] at h
 refine esr ?_
 refine rno 5 [.run [] (Instr.loadAt 147 (pb b9)) (sv bH bE bI)] 5 [(6,sv bH bE bI)] hF (A0 (ob1 kr (fun _ hd=>(hS.at_ hd).cell (i:=6) (j:=0) rfl rfl)) Af) fun a hF=>?_
 refine wfn rfl ?_
 refine wpIn_ret (B6 [.tmp 6] [sv bH bE bI] hF rfl ⟨rfl,trivial⟩ ?_)
 obtain ⟨ν1862,c6,hlow,hS,fC⟩:=hS.freeze (i:=5) (j:=0) rfl rfl (by decide) hlow
 replace hA4:=hA4.mono Rp135.mono c6.1
 replace aC:=aC.mono Rp132.mono c6.1
 replace dF:=dF.mono Rp132.mono c6.1
 replace aQ:=Frz.le_trans aQ c6.1
 replace cJ:=Frz.le_trans cJ c6.1
 replace hext:=Frz.ext_trans hext c6
 replace hS:St w0 [arrT 192 2 fold_place.cells cD bU.length cE bU,blk a1 190 #[sv cD bU cE],blk a0 189 #[.map (some a4)],G6 (fA fold_place.cells) Value.bool a4 d1,fz w0 ν1862,blk b9 197 #[sv bH bE bI,.map (some a3)],Ah (fA fold_place.cells) 199 3 fold_bond.cells a3 B16 aB] w:=hS
 have eM:ArrQ ν1862 1 Rp135 bH bI (cI.map hdF) bE:=B0h fC dF (fun ad_ cap_ c_ x_ h1_ h2_=>⟨ad_,cap_,c_,rfl,ArrQ.of_rows h1_ h2_⟩)
 have hr_:=Option.some.inj h
 subst hr_
 exact ⟨_,rfl,ν1862,bH,bI,(cI.map hdF),hext,rfl,eM,St.pick [4] (by decide) hS⟩
end Go.Proofs.Ytbhjgebjojdohaa
