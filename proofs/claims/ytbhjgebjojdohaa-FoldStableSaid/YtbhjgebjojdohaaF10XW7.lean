import Derived.Test.YtbhjgebjojdohaaF10XD
import Derived.Test.YtbhjgebjojdohaaProg
import Derived.Test.YtbhjgebjojdohaaF10XW0
import Derived.Test.YtbhjgebjojdohaaF10XW1
import Derived.Test.YtbhjgebjojdohaaF10XW2
import Derived.Test.YtbhjgebjojdohaaF10XW6
import Derived.Test.YtbhjgebjojdohaaF10WkG
namespace Go.Proofs.Ytbhjgebjojdohaa
open Go Go.RowKit Go.Eng
set_option maxRecDepth 10000
set_option maxHeartbeats 4000000
set_option linter.unusedVariables false
set_option linter.unusedSimpArgs false
theorem Pr (F:Nat) (p0:(List (List (List Int)))) (p1:Int) (p2:Int) (p3:Int) (p4:Int) (res:Bool) (h:G5 F p0 p1 p2 p3 p4=some res) (μ:Frz) (w0:World) (hm:FrzAt μ w0) {ad1:Option Addr} {cap2:Nat} {css3:List (List Value)} (hA4:ArrQ μ 1 Rp82 ad1 cap2 css3 p0):Calls Try.prog 10 #[sv ad1 p0 cap2,.int .u8 p1,.int .u8 p2,.int .u8 p3,.int .u8 p4] w0 (fun e w=>e=.returned (.bool res)∧Ext w0 w):=by
 obtain ⟨hlow,hS⟩:=hm.init
 have hext:=Frz.ext_refl w0.heap.size μ
 rw [G5] at h
 refine B5 Try.func10 rfl 369 [(0,sv ad1 p0 cap2),(1,.int .u8 p1),(2,.int .u8 p2),(3,.int .u8 p3),(4,.int .u8 p4)] rfl rfl kr fun a w hw hF=>?_
 replace hS:St w0 [fz w0 μ] w:=by rw [hw];exact hS
 clear hw
 refine esr ?_
 refine rn 1 1 [(0,sv ad1 p0 cap2),(1,.int .u8 p1),(2,.int .u8 p2),(3,.int .u8 p3),(4,.int .u8 p4)] hF fun a hF=>?_
 refine wfn rfl ?_
 refine Ba ?_
 refine esr ?_
 refine rn 8 8 [(0,sv ad1 p0 cap2),(1,.int .u8 p1),(2,.int .u8 p2),(3,.int .u8 p3),(4,.int .u8 p4),(46,.bool (bif (decide ((ln p0)<1)) then true else (decide ((ln p0)>5))))] hF fun a hF=>?_
 refine wfn rfl ?_
 refine Ar hF rfl (fun hc=>?_) (fun hc=>?_)
 ·replace h:=Al h hc
  refine esr ?_
  refine rx 2 [.call [] 19 #[] (.bool Fg)] 2 [(10,.bool Fg)] hF (A0 (show Ob.ok _ Ext _ _ from fun hk w2 hd=>Nu  _ rfl _ w2 (Aj w2)) Af) fun a w hF hx=>?_
  replace hS:=hS.later hx
  refine wfn rfl ?_
  refine wpIn_ret (Ac<|B6 [.tmp 10] [.bool Fg] hF rfl ⟨rfl,trivial⟩ ?_)
  have hr_:=Option.some.inj h
  subst hr_
  exact ⟨rfl,hS.ext⟩
 ·replace h:=Ak h hc
  refine wpIn_skip (A4 ?_)
  refine esr ?_
  replace h:=A5 h
  obtain ⟨x5,hx5,h⟩:=h
  replace h:=A5 h
  obtain ⟨x6,hx6,h⟩:=h
  replace h:=A5 h
  obtain ⟨x7,hx7,h⟩:=h
  replace h:=A5 h
  obtain ⟨x8,hx8,h⟩:=h
  replace h:=A5 h
  obtain ⟨x9,hx9,h⟩:=h
  replace h:=A5 h
  obtain ⟨mZ,qQ,h⟩:=h
  replace h:=A5 h
  obtain ⟨n0,qR,h⟩:=h
  replace h:=A5 h
  obtain ⟨a5,qS,h⟩:=h
  refine rno 17 [.run [] (convert 5 3 (.int .u8 p1)) (iv x5),.run [] (binOp .rem 3 (iv x5) (iv 3)) (iv x6),.run [] (binOp .add 3 (iv 1) (iv x6)) (iv x7),.run [] (convert 5 3 (.int .u8 p2)) (iv x8),.run [] (binOp .rem 3 (iv x8) (iv 13)) (iv x9),.run [] (convert 5 3 (.int .u8 p3)) (iv mZ),.run [] (binOp .rem 3 (iv mZ) (iv 3)) (iv n0),.run [] (binOp .add 3 (iv 1) (iv n0)) (iv a5)] 17 [(0,sv ad1 p0 cap2),(4,.int .u8 p4),(11,iv (ln p0)),(12,iv x7),(13,iv x9),(14,iv a5)] hF (A0 (Ph kr kr (fun _=>hx5)) (A0 (Lh (fun _=>hx6)) (A0 (Bg (fun _=>hx7)) (A0 (Ph kr kr (fun _=>hx8)) (A0 (Lh (fun _=>hx9)) (A0 (Ph kr kr (fun _=>qQ)) (A0 (Lh (fun _=>qR)) (A0 (Bg (fun _=>qS)) Af)))))))) fun a hF=>?_
  refine wfn rfl ?_
  refine esr ?_
  refine rn 1 1 [(0,sv ad1 p0 cap2),(4,.int .u8 p4),(11,iv (ln p0)),(12,iv x7),(13,iv x9),(14,iv a5),(61,iv (ln p0))] hF fun a hF=>?_
  replace h:=A5 h
  obtain ⟨d9,pE,h⟩:=h
  refine SK.wi (A96 (e:=48) (sz:=1) (z:=.slice none 0 0) (t:=54) (bytes:=24) (fun e5=>[(0,sv ad1 p0 cap2),(4,.int .u8 p4),(11,iv (ln p0)),(12,iv x7),(13,iv x9),(14,iv a5),(62,.slice (some ⟨e5,0,none⟩) d9.length d9.length)]) [.slice none 0 0] ([]:(List (List api_Span))) (S:=Rp48 μ) ⟨none,0,[],rfl,ArrQ.nil⟩ hF hS kr ⟨kr⟩ kr kr rfl pE (fun _=>⟨kr⟩) fun e5 nT w a hF aH hS=>?_)
  refine rn 1 3 [(0,sv ad1 p0 cap2),(4,.int .u8 p4),(11,iv (ln p0)),(12,iv x7),(13,iv x9),(14,iv a5),(15,.slice (some ⟨e5,0,none⟩) d9.length d9.length)] hF fun a hF=>?_
  refine wfn rfl ?_
  have bB:=Frz.le_refl μ
  refine Eb (fun a w=>∃(a3:(List (List (List api_Span)))) (ν2671:Frz) (a8:Option Addr) (a7:Nat) (h1:List (List Value)),Fr 369 [] [(4,.int .u8 p4),(11,iv (ln p0)),(12,iv x7),(13,iv x9),(14,iv a5),(15,sv a8 a3 a7)] a∧St w0 [arr 48 1 (fN 1) a8 a3.length a7 h1,fz w0 ν2671] w∧(All2 (Rp48 ν2671) h1 a3)∧(μ.le ν2671)∧(μ.ext w0.heap.size ν2671)∧(Bm w0 ν2671)∧Ek F p0 p4 x7 x9 a5 a3=some res) ?_ ?_
  ·skip
   refine esr ?_
   refine rn 3 3 [(0,sv ad1 p0 cap2),(4,.int .u8 p4),(11,iv (ln p0)),(12,iv x7),(13,iv x9),(14,iv a5),(15,.slice (some ⟨e5,0,none⟩) d9.length d9.length),(64,iv (ln p0)),(65,iv 0)] hF fun a hF=>?_
   refine wfn rfl ?_
   refine wpIn_block ?_
   have lK:=Frz.le_refl μ
   refine D2 (fun n_ a w=>∃(aQ:(List (List (List api_Span)))) (aD:Int) (ν144560:Frz) (aT:Option Addr) (aX:Nat) (cL:List (List Value)),Fr 369 [] [(0,sv ad1 p0 cap2),(4,.int .u8 p4),(11,iv (ln p0)),(12,iv x7),(13,iv x9),(14,iv a5),(15,sv aT aQ aX),(64,iv (ln p0)),(65,iv aD)] a∧St w0 [arr 48 1 (fN 1) aT aQ.length aX cL,fz w0 ν144560] w∧(All2 (Rp48 ν144560) cL aQ)∧(μ.le ν144560)∧(μ.ext w0.heap.size ν144560)∧(Bm w0 ν144560)∧Bp F p0 p4 x7 x9 a5 n_ aQ aD=some res) F ⟨d9,0,μ,(some ⟨e5,0,none⟩),d9.length,nT,hF.sub kr,St.pick [0,1] (by decide) hS,aH,lK,hext,hlow,h⟩ ?_
   clear lK
   rintro gM a w ⟨aQ,aD,ν144560,aT,aX,cL,hF,hS,bG,bC,hext,hlow,h⟩
   rcases gM with _|gM
   ·cases (show (none:Option Bool)=some res from h)
   replace hA4:=hA4.mono Rp82.mono bC
   replace aH:=All2.mono Rp48.mono bC aH
   replace bB:=Frz.le_trans bB bC
   obtain ⟨dQ,lS⟩:∃k,k=Bp F p0 p4 x7 x9 a5 gM:=⟨_,rfl⟩
   replace h:Ce F p0 p4 x7 x9 a5 dQ aQ aD=some res:=by rw [lS];exact h
   rw [Ce] at h
   refine esr ?_
   refine rn 1 1 [(0,sv ad1 p0 cap2),(4,.int .u8 p4),(11,iv (ln p0)),(12,iv x7),(13,iv x9),(14,iv a5),(15,sv aT aQ aX),(64,iv (ln p0)),(65,iv aD),(66,.bool (decide (aD<(ln p0))))] hF fun a hF=>?_
   refine wfn rfl ?_
   refine Ba ?_
   refine Ar hF rfl (fun hc=>?_) (fun hc=>?_)
   ·replace h:=Al h hc
    refine wpIn_skip (A4 ?_)
    have bU:=Frz.le_refl ν144560
    refine Eb (fun a w=>∃(dG:(List (List (List api_Span)))) (ν145004:Frz) (e2:Option Addr) (e8:Nat) (g4:List (List Value)),Fr 369 [] [(0,sv ad1 p0 cap2),(4,.int .u8 p4),(11,iv (ln p0)),(12,iv x7),(13,iv x9),(14,iv a5),(15,sv e2 dG e8),(64,iv (ln p0)),(65,iv aD)] a∧St w0 [arr 48 1 (fN 1) e2 dG.length e8 g4,fz w0 ν145004] w∧(All2 (Rp48 ν145004) g4 dG)∧(ν144560.le ν145004)∧(μ.ext w0.heap.size ν145004)∧(Bm w0 ν145004)∧Fe aD dQ dG=some res) ?_ ?_
    ·skip
     refine wpIn_block ?_
     refine esr ?_
     refine rn 2 2 [(0,sv ad1 p0 cap2),(4,.int .u8 p4),(11,iv (ln p0)),(12,iv x7),(13,iv x9),(14,iv a5),(15,sv aT aQ aX),(16,iv aD),(64,iv (ln p0)),(65,iv aD)] hF fun a hF=>?_
     refine wfn rfl ?_
     refine esr ?_
     refine rn 1 1 [(0,sv ad1 p0 cap2),(4,.int .u8 p4),(11,iv (ln p0)),(12,iv x7),(13,iv x9),(14,iv a5),(15,sv aT aQ aX),(16,iv aD),(17,.slice none 0 0),(64,iv (ln p0)),(65,iv aD)] hF fun a hF=>?_
     refine wfn rfl ?_
     have dN:=Frz.le_refl ν144560
     refine Eb (fun a w=>∃(dA:(List (List Int))) (ν145213:Frz) (f8:Option Addr) (fX:Nat) (h0:List (List Value)),Fr 369 [] [(0,sv ad1 p0 cap2),(4,.int .u8 p4),(11,iv (ln p0)),(12,iv x7),(13,iv x9),(14,iv a5),(15,sv aT aQ aX),(16,iv aD),(17,sv f8 dA fX),(64,iv (ln p0)),(65,iv aD)] a∧St w0 [arr 91 1 (fN 1) f8 dA.length fX h0,arr 48 1 (fN 1) aT aQ.length aX cL,fz w0 ν145213] w∧(All2 (Rp91 ν145213) h0 dA)∧(ν144560.le ν145213)∧(μ.ext w0.heap.size ν145213)∧(Bm w0 ν145213)∧D7 F aQ aD dQ dA=some res) ?_ ?_
     ·skip
      refine esr ?_
      refine rn 2 2 [(0,sv ad1 p0 cap2),(4,.int .u8 p4),(11,iv (ln p0)),(12,iv x7),(13,iv x9),(14,iv a5),(15,sv aT aQ aX),(16,iv aD),(17,.slice none 0 0),(64,iv (ln p0)),(65,iv aD),(68,iv x7),(69,iv 0)] hF fun a hF=>?_
      refine wfn rfl ?_
      refine wpIn_block ?_
      have lL:=Frz.le_refl ν144560
      replace hS:=hS.nilarr 91 1 (fN 1)
      refine D2 (fun n_ a w=>∃(b4:(List (List Int))) (b0:Int) (ν145378:Frz) (bK:Option Addr) (bM:Nat) (d4:List (List Value)),Fr 369 [] [(0,sv ad1 p0 cap2),(4,.int .u8 p4),(11,iv (ln p0)),(12,iv x7),(13,iv x9),(14,iv a5),(15,sv aT aQ aX),(16,iv aD),(17,sv bK b4 bM),(64,iv (ln p0)),(65,iv aD),(68,iv x7),(69,iv b0)] a∧St w0 [arr 91 1 (fN 1) bK b4.length bM d4,arr 48 1 (fN 1) aT aQ.length aX cL,fz w0 ν145378] w∧(All2 (Rp91 ν145378) d4 b4)∧(ν144560.le ν145378)∧(μ.ext w0.heap.size ν145378)∧(Bm w0 ν145378)∧Bq F p0 x7 aQ aD dQ n_ b4 b0=some res) F ⟨[],0,ν144560,none,0,[],hF.sub kr,St.pick [0,1,2] (by decide) hS,All2.nil,lL,hext,hlow,h⟩ ?_
      clear lL
      rintro gN a w ⟨b4,b0,ν145378,bK,bM,d4,hF,hS,gB,cN,hext,hlow,h⟩
      rcases gN with _|gN
      ·cases (show (none:Option Bool)=some res from h)
      replace hA4:=hA4.mono Rp82.mono cN
      replace aH:=All2.mono Rp48.mono cN aH
      replace bG:=All2.mono Rp48.mono cN bG
      replace bB:=Frz.le_trans bB cN
      replace bC:=Frz.le_trans bC cN
      replace bU:=Frz.le_trans bU cN
      replace dN:=Frz.le_trans dN cN
      obtain ⟨mF,lT⟩:∃k,k=Bq F p0 x7 aQ aD dQ gN:=⟨_,rfl⟩
      replace h:Cf F p0 x7 aQ aD dQ mF b4 b0=some res:=by rw [lT];exact h
      rw [Cf] at h
      refine esr ?_
      refine rn 1 1 [(0,sv ad1 p0 cap2),(4,.int .u8 p4),(11,iv (ln p0)),(12,iv x7),(13,iv x9),(14,iv a5),(15,sv aT aQ aX),(16,iv aD),(17,sv bK b4 bM),(64,iv (ln p0)),(65,iv aD),(68,iv x7),(69,iv b0),(70,.bool (decide (b0<x7)))] hF fun a hF=>?_
      refine wfn rfl ?_
      refine Ba ?_
      refine Ar hF rfl (fun hc=>?_) (fun hc=>?_)
      ·replace h:=Al h hc
       refine wpIn_skip (A4 ?_)
       refine Ba ?_
       refine wpIn_block ?_
       refine esr ?_
       refine rn 2 2 [(0,sv ad1 p0 cap2),(4,.int .u8 p4),(11,iv (ln p0)),(12,iv x7),(13,iv x9),(14,iv a5),(15,sv aT aQ aX),(16,iv aD),(17,sv bK b4 bM),(18,iv b0),(64,iv (ln p0)),(65,iv aD),(68,iv x7),(69,iv b0)] hF fun a hF=>?_
       refine wfn rfl ?_
       refine esr ?_
       refine rn 1 1 [(0,sv ad1 p0 cap2),(4,.int .u8 p4),(11,iv (ln p0)),(12,iv x7),(13,iv x9),(14,iv a5),(15,sv aT aQ aX),(16,iv aD),(17,sv bK b4 bM),(18,iv b0),(19,.slice none 0 0),(64,iv (ln p0)),(65,iv aD),(68,iv x7),(69,iv b0)] hF fun a hF=>?_
       refine wfn rfl ?_
       have hC:=Frz.le_refl ν145378
       refine Eb (fun a w=>∃(bT:(List Int)) (ν145410:Frz) (c6:Option Addr) (c8:Nat),Fr 369 [] [(0,sv ad1 p0 cap2),(4,.int .u8 p4),(11,iv (ln p0)),(12,iv x7),(13,iv x9),(14,iv a5),(15,sv aT aQ aX),(16,iv aD),(17,sv bK b4 bM),(19,sv c6 bT c8),(64,iv (ln p0)),(65,iv aD),(68,iv x7),(69,iv b0)] a∧St w0 [arr 91 1 (fN 1) bK b4.length bM d4,arr 48 1 (fN 1) aT aQ.length aX cL,fz w0 ν145410] w∧(ArrM ν145410 1 (fK .u8) c6 c8 bT)∧(ν145378.le ν145410)∧(μ.ext w0.heap.size ν145410)∧(Bm w0 ν145410)∧D8 b4 b0 mF bT=some res) ?_ ?_
       ·skip
        refine esr ?_
        replace h:=A5 h
        obtain ⟨mO,qD,h⟩:=h
        obtain ⟨sL,kF,oI⟩:=Ae hA4.2 qD
        obtain ⟨nG,nN,tB,rfl,tP⟩:=oI
        refine rno 7 [.run [] (Instr.indexAt 90 (sv ad1 p0 cap2) (iv aD)) (.pointer (some (A3 ad1 aD 1))),.run [] (Instr.loadAt 82 (.pointer (some (A3 ad1 aD 1)))) (sv nG mO nN)] 7 [(0,sv ad1 p0 cap2),(4,.int .u8 p4),(11,iv (ln p0)),(12,iv x7),(13,iv x9),(14,iv a5),(15,sv aT aQ aX),(16,iv aD),(17,sv bK b4 bM),(18,iv b0),(19,.slice none 0 0),(64,iv (ln p0)),(65,iv aD),(68,iv x7),(69,iv b0),(78,.bool (decide (b0<(ln mO))))] hF (A0 (A8 (hA4.at (hS.frz (i:=2) rfl hlow)) kr (fun _=>kF)) (A0 (An (i:=aD) 0 (As 1) (fun _ hd=>(hA4.at ((hS.at_ hd).frz (i:=2) rfl hlow))) kr (fun _=>kF) rfl) Af)) fun a hF=>?_
        refine wfn rfl ?_
        refine Ar hF rfl (fun hc=>?_) (fun hc=>?_)
        ·replace h:=Al h hc
         refine WI.region ?_
         replace h:=A5 h
         obtain ⟨mP,qE,h⟩:=h
         obtain ⟨sM,kG,oJ⟩:=Ae hA4.2 qE
         obtain ⟨f9,j0,tC,rfl,h4⟩:=oJ
         replace h:=A5 h
         obtain ⟨hO,qF,h⟩:=h
         obtain ⟨sN,kH,oK⟩:=Ae h4.2 qF
         obtain ⟨gW,gZ,rfl,nZ⟩:=oK
         refine rno 8 [.run [] (Instr.indexAt 90 (sv ad1 p0 cap2) (iv aD)) (.pointer (some (A3 ad1 aD 1))),.run [] (Instr.loadAt 82 (.pointer (some (A3 ad1 aD 1)))) (sv f9 mP j0),.run [] (Instr.indexAt 82 (sv f9 mP j0) (iv b0)) (.pointer (some (A3 f9 b0 1))),.run [] (Instr.loadAt 91 (.pointer (some (A3 f9 b0 1)))) (sv gW hO gZ)] 8 [(0,sv ad1 p0 cap2),(4,.int .u8 p4),(11,iv (ln p0)),(12,iv x7),(13,iv x9),(14,iv a5),(15,sv aT aQ aX),(16,iv aD),(17,sv bK b4 bM),(19,sv gW hO gZ),(64,iv (ln p0)),(65,iv aD),(68,iv x7),(69,iv b0)] hF (A0 (A8 (hA4.at (hS.frz (i:=2) rfl hlow)) kr (fun _=>kG)) (A0 (An (i:=aD) 0 (As 1) (fun _ hd=>(hA4.at ((hS.at_ hd).frz (i:=2) rfl hlow))) kr (fun _=>kG) rfl) (A0 (A8 (h4.at (hS.frz (i:=2) rfl hlow)) kr (fun _=>kH)) (A0 (An (i:=b0) 0 (As 1) (fun _ hd=>(h4.at ((hS.at_ hd).frz (i:=2) rfl hlow))) kr (fun _=>kH) rfl) Af)))) fun a hF=>?_
         refine wfn rfl ?_
         exact ⟨hO,ν145378,gW,gZ,hF.sub kr,St.pick [0,1,2] (by decide) hS,nZ,hC,hext,hlow,h⟩
        ·replace h:=Ak h hc
         refine wpIn_skip (A4 ?_)
         exact ⟨[],ν145378,none,0,hF.sub kr,St.pick [0,1,2] (by decide) hS,ArrM.nil,hC,hext,hlow,h⟩
       clear hC
       rintro a w ⟨bT,ν145410,c6,c8,hF,hS,nY,cW,hext,hlow,h⟩
       replace hA4:=hA4.mono Rp82.mono cW
       replace aH:=All2.mono Rp48.mono cW aH
       replace bG:=All2.mono Rp48.mono cW bG
       replace gB:=All2.mono Rp91.mono cW gB
       replace bB:=Frz.le_trans bB cW
       replace bC:=Frz.le_trans bC cW
       replace bU:=Frz.le_trans bU cW
       replace dN:=Frz.le_trans dN cW
       replace cN:=Frz.le_trans cN cW
       rw [D8] at h
       refine WI.region ?_
       refine rn 2 2 [(0,sv ad1 p0 cap2),(4,.int .u8 p4),(11,iv (ln p0)),(12,iv x7),(13,iv x9),(14,iv a5),(15,sv aT aQ aX),(16,iv aD),(17,sv bK b4 bM),(64,iv (ln p0)),(65,iv aD),(68,iv x7),(69,iv b0),(86,sv bK b4 bM),(87,sv c6 bT c8)] hF fun a hF=>?_
       have m2:All2 (Rp91 ν145410) ([[sv c6 bT c8]]:List (List Value)) [bT]:=(All2.cons ⟨c6,c8,rfl,nY⟩ All2.nil)
       refine SK.wi (Sb (e:=91) (sz:=1) (f:=fN 1) (t:=82) (len:=1) (fun iS=>[(0,sv ad1 p0 cap2),(4,.int .u8 p4),(11,iv (ln p0)),(12,iv x7),(13,iv x9),(14,iv a5),(15,sv aT aQ aX),(16,iv aD),(17,sv bK b4 bM),(64,iv (ln p0)),(65,iv aD),(68,iv x7),(69,iv b0),(86,sv bK b4 bM),(88,sb iS 1)]) #[(0,sv c6 bT c8)] #[sv c6 bT c8] ([[sv c6 bT c8]]:List (List Value)) ([bT]) hF hS kr ⟨kr⟩ kr (As 1) rfl rfl rfl kr (fun _=>⟨kr⟩) fun iS w a hF hS=>?_)
       replace h:=A5 h
       obtain ⟨eT,lU,h⟩:=h
       have pV:All2 (Rp91 ν145410) (d4++([[sv c6 bT c8]]:List (List Value))) eT:=by rw [(G1 lU).1];exact All2.app gB m2
       refine SK.wi (Ps (t:=82) (ty:=82) (bytes:=24) (c:=d4) (c':=([[sv c6 bT c8]]:List (List Value))) (l:=b4) (l':=([bT])) (fun e4 eA=>[(0,sv ad1 p0 cap2),(4,.int .u8 p4),(11,iv (ln p0)),(12,iv x7),(13,iv x9),(14,iv a5),(15,sv aT aQ aX),(16,iv aD),(17,sv bK b4 bM),(64,iv (ln p0)),(65,iv aD),(68,iv x7),(69,iv b0),(89,sv e4 eT eA)]) 1 hF hS rfl kr ⟨kr⟩ kr (hS.arr (i:=0) rfl) (ArrQ.one m2 Rp91.one) lU (fun _ _=>⟨kr⟩) fun e4 eA w a hF hS=>?_)
       refine rn 1 5 [(0,sv ad1 p0 cap2),(4,.int .u8 p4),(11,iv (ln p0)),(12,iv x7),(13,iv x9),(14,iv a5),(15,sv aT aQ aX),(16,iv aD),(17,sv e4 eT eA),(64,iv (ln p0)),(65,iv aD),(68,iv x7),(69,iv b0)] hF fun a hF=>?_
       refine WI.fin rfl (Ab<|A4<|?_)
       refine WI.region ?_
       replace h:=A5 h
       obtain ⟨i8,r9,h⟩:=h
       refine rno 2 [.run [] (binOp .add 3 (iv b0) (iv 1)) (iv i8)] 2 [(0,sv ad1 p0 cap2),(4,.int .u8 p4),(11,iv (ln p0)),(12,iv x7),(13,iv x9),(14,iv a5),(15,sv aT aQ aX),(16,iv aD),(17,sv e4 eT eA),(64,iv (ln p0)),(65,iv aD),(68,iv x7),(69,iv i8)] hF (A0 (Bg (fun _=>r9)) Af) fun a hF=>?_
       refine wfn rfl ?_
       rw [lT] at h
       exact ⟨gN,Nat.lt_succ_self _,eT,i8,ν145410,e4,eA,(d4++([[sv c6 bT c8]]:List (List Value))),hF.sub kr,St.pick [1,2,3] (by decide) hS,pV,cN,hext,hlow,h⟩
      ·replace h:=Ak h hc
       refine wpIn_exit (A6<|A6<|Ai<|A4 ?_)
       exact ⟨b4,ν145378,bK,bM,d4,hF.sub kr,St.pick [0,1,2] (by decide) hS,gB,dN,hext,hlow,h⟩
     clear dN
     rintro a w ⟨dA,ν145213,f8,fX,h0,hF,hS,hH,cA,hext,hlow,h⟩
     replace hA4:=hA4.mono Rp82.mono cA
     replace aH:=All2.mono Rp48.mono cA aH
     replace bG:=All2.mono Rp48.mono cA bG
     replace bB:=Frz.le_trans bB cA
     replace bC:=Frz.le_trans bC cA
     replace bU:=Frz.le_trans bU cA
     rw [D7] at h
     refine WI.region ?_
     refine rn 3 3 [(0,sv ad1 p0 cap2),(4,.int .u8 p4),(11,iv (ln p0)),(12,iv x7),(13,iv x9),(14,iv a5),(15,sv aT aQ aX),(64,iv (ln p0)),(65,iv aD),(91,sv aT aQ aX),(92,iv aD),(93,sv f8 dA fX)] hF fun a hF=>?_
     obtain ⟨ν145220,cZ,hlow,hS,rW⟩:=hS.freeze (i:=2) (j:=0) rfl rfl (by decide) hlow
     replace hA4:=hA4.mono Rp82.mono cZ.1
     replace aH:=All2.mono Rp48.mono cZ.1 aH
     replace bG:=All2.mono Rp48.mono cZ.1 bG
     replace hH:=All2.mono Rp91.mono cZ.1 hH
     replace bB:=Frz.le_trans bB cZ.1
     replace bC:=Frz.le_trans bC cZ.1
     replace bU:=Frz.le_trans bU cZ.1
     replace cA:=Frz.le_trans cA cZ.1
     replace hext:=Frz.ext_trans hext cZ
     replace hS:St w0 [arr 48 1 (fN 1) aT aQ.length aX cL,fz w0 ν145220] w:=hS
     have eG:=ArrQ.of_arr (l:=dA) rW hH Rp91.mono (Frz.le_refl _)
     replace h:=A5 h
     obtain ⟨dZ,rN,h⟩:=h
     refine SK.wi (Es (fun mU=>[(0,sv ad1 p0 cap2),(4,.int .u8 p4),(11,iv (ln p0)),(12,iv x7),(13,iv x9),(14,iv a5),(15,sv aT aQ aX),(64,iv (ln p0)),(65,iv aD),(91,sv aT aQ aX),(92,iv aD),(94,mU)]) hF kr ⟨kr⟩ (Vb F dA _ rN ν145220 w (hS.frz (i:=1) rfl hlow) eG) (fun _=>⟨kr⟩) ?_)
     rintro mU w a ⟨ν145226,e3,e9,jR,cO,rfl,hI,hQ⟩ hF
     replace hext:=Frz.ext_trans hext (Frz.ext_mono cO hS.ext.size)
     obtain ⟨hlow,hS⟩:=hS.frzMerge (i:=1) rfl hlow cO hQ
     replace hA4:=hA4.mono Rp82.mono cO.1
     replace aH:=All2.mono Rp48.mono cO.1 aH
     replace bG:=All2.mono Rp48.mono cO.1 bG
     replace eG:=eG.mono Rp91.mono cO.1
     replace bB:=Frz.le_trans bB cO.1
     replace bC:=Frz.le_trans bC cO.1
     replace bU:=Frz.le_trans bU cO.1
     replace cA:=Frz.le_trans cA cO.1
     replace hS:St w0 [arr 43 1 (fN 1) e3 dZ.length e9 jR,arr 48 1 (fN 1) aT aQ.length aX cL,fz w0 ν145226] w:=hS
     replace h:=A5 h
     obtain ⟨s7,qC,h⟩:=h
     obtain ⟨sK,kE,oH⟩:=Ae bG qC
     obtain ⟨nF,nM,tA,rfl,jU⟩:=oH
     refine rno 1 [.run [] (Instr.indexAt 54 (sv aT aQ aX) (iv aD)) (.pointer (some (A3 aT aD 1)))] 5 [(0,sv ad1 p0 cap2),(4,.int .u8 p4),(11,iv (ln p0)),(12,iv x7),(13,iv x9),(14,iv a5),(15,sv aT aQ aX),(64,iv (ln p0)),(65,iv aD),(94,sv e3 dZ e9),(95,.pointer (some (A3 aT aD 1)))] hF (A0 (A8 (hS.arr (i:=1) rfl) kr (fun _=>kE)) Af) fun a hF=>?_
     obtain ⟨ν145240,cJ,hlow,hS,rX⟩:=hS.freeze (i:=2) (j:=0) rfl rfl (by decide) hlow
     replace hA4:=hA4.mono Rp82.mono cJ.1
     replace aH:=All2.mono Rp48.mono cJ.1 aH
     replace bG:=All2.mono Rp48.mono cJ.1 bG
     replace eG:=eG.mono Rp91.mono cJ.1
     replace hI:=All2.mono Rp43.mono cJ.1 hI
     replace jU:=jU.mono Rp43.mono cJ.1
     replace bB:=Frz.le_trans bB cJ.1
     replace bC:=Frz.le_trans bC cJ.1
     replace bU:=Frz.le_trans bU cJ.1
     replace cA:=Frz.le_trans cA cJ.1
     replace hext:=Frz.ext_trans hext cJ
     replace hS:St w0 [arr 48 1 (fN 1) aT aQ.length aX cL,fz w0 ν145240] w:=hS
     have nX:=ArrQ.of_arr (l:=dZ) rX hI Rp43.mono (Frz.le_refl _)
     replace h:=A5 h
     obtain ⟨s5,pJ,h⟩:=h
     refine SK.wi (A5t (j:=aD) (t:=48) [(0,sv ad1 p0 cap2),(4,.int .u8 p4),(11,iv (ln p0)),(12,iv x7),(13,iv x9),(14,iv a5),(15,sv aT aQ aX),(64,iv (ln p0)),(65,iv aD)] 0 0 [sv nF s7 nM] [sv e3 dZ e9] dZ (sv e3 dZ e9) (S:=Rp48 ν145240) bG ⟨e3,e9,jR,rfl,nX⟩ hF hS rfl kr ⟨kr⟩ (As 1) kE rfl kr kr kr pJ ⟨kr⟩ fun nS w a hF hl pU hS=>?_)
     simp only [sv,ln,hl] at hF hS
     refine WI.fin rfl (Ab<|A4<|?_)
     exact ⟨s5,ν145240,aT,aX,nS,hF.sub kr,St.pick [0,1] (by decide) hS,pU,bU,hext,hlow,h⟩
    clear bU
    rintro a w ⟨dG,ν145004,e2,e8,g4,hF,hS,pT,eN,hext,hlow,h⟩
    replace hA4:=hA4.mono Rp82.mono eN
    replace aH:=All2.mono Rp48.mono eN aH
    replace bG:=All2.mono Rp48.mono eN bG
    replace bB:=Frz.le_trans bB eN
    replace bC:=Frz.le_trans bC eN
    rw [Fe] at h
    refine WI.region ?_
    replace h:=A5 h
    obtain ⟨i7,r8,h⟩:=h
    refine rno 2 [.run [] (binOp .add 3 (iv aD) (iv 1)) (iv i7)] 2 [(0,sv ad1 p0 cap2),(4,.int .u8 p4),(11,iv (ln p0)),(12,iv x7),(13,iv x9),(14,iv a5),(15,sv e2 dG e8),(64,iv (ln p0)),(65,iv i7)] hF (A0 (Bg (fun _=>r8)) Af) fun a hF=>?_
    refine wfn rfl ?_
    rw [lS] at h
    exact ⟨gM,Nat.lt_succ_self _,dG,i7,ν145004,e2,e8,g4,hF.sub kr,St.pick [0,1] (by decide) hS,pT,bC,hext,hlow,h⟩
   ·replace h:=Ak h hc
    refine wpIn_exit (A6<|A6<|Ai<|A4 ?_)
    exact ⟨aQ,ν144560,aT,aX,cL,hF.sub kr,St.pick [0,1] (by decide) hS,bG,bB,hext,hlow,h⟩
  clear bB
  rintro a w ⟨a3,ν2671,a8,a7,h1,hF,hS,hJ,aZ,hext,hlow,h⟩
  replace hA4:=hA4.mono Rp82.mono aZ
  replace aH:=All2.mono Rp48.mono aZ aH
  rw [Ek] at h
  refine esr ?_
  refine rn 3 3 [(4,.int .u8 p4),(11,iv (ln p0)),(12,iv x7),(13,iv x9),(14,iv a5),(15,sv a8 a3 a7),(98,sv a8 a3 a7),(99,iv x9),(100,iv a5)] hF fun a hF=>?_
  obtain ⟨ν2678,eQ,hlow,hS,rY⟩:=hS.freeze (i:=1) (j:=0) rfl rfl (by decide) hlow
  replace hA4:=hA4.mono Rp82.mono eQ.1
  replace aH:=All2.mono Rp48.mono eQ.1 aH
  replace hJ:=All2.mono Rp48.mono eQ.1 hJ
  replace aZ:=Frz.le_trans aZ eQ.1
  replace hext:=Frz.ext_trans hext eQ
  replace hS:St w0 [fz w0 ν2678] w:=hS
  have aF:=ArrQ.of_arr (l:=a3) rY hJ Rp48.mono (Frz.le_refl _)
  replace h:=A5 h
  obtain ⟨a0,rO,h⟩:=h
  refine SK.wi (Es (fun mV=>[(4,.int .u8 p4),(11,iv (ln p0)),(12,iv x7),(13,iv x9),(14,iv a5),(15,sv a8 a3 a7),(101,mV)]) hF kr ⟨kr⟩ (Mt F a3 x9 a5 _ rO ν2678 w (hS.frz (i:=0) rfl hlow) aF) (fun _=>⟨kr⟩) ?_)
  rintro mV w a ⟨ν2684,a2,a4,aU,dP,rfl,aV,hQ⟩ hF
  replace hext:=Frz.ext_trans hext (Frz.ext_mono dP hS.ext.size)
  obtain ⟨hlow,hS⟩:=hS.frzMerge (i:=0) rfl hlow dP hQ
  replace hA4:=hA4.mono Rp82.mono dP.1
  replace aH:=All2.mono Rp48.mono dP.1 aH
  replace aF:=aF.mono Rp48.mono dP.1
  replace aZ:=Frz.le_trans aZ dP.1
  replace hS:St w0 [arr 48 1 (fN 1) a2 a0.1.length a4 aU,fz w0 ν2684] w:=hS
  refine rn 5 9 [(4,.int .u8 p4),(11,iv (ln p0)),(12,iv x7),(13,iv x9),(14,iv a5),(15,sv a8 a3 a7),(20,sv a2 a0.1 a4),(21,iv a0.2)] hF fun a hF=>?_
  refine wfn rfl ?_
  refine Ba ?_
  refine esr ?_
  refine rn 8 8 [(4,.int .u8 p4),(11,iv (ln p0)),(12,iv x7),(13,iv x9),(14,iv a5),(15,sv a8 a3 a7),(20,sv a2 a0.1 a4),(111,.bool (bif (a0.2 != 0) then true else ((ln a0.1) != (ln p0))))] hF fun a hF=>?_
  refine wfn rfl ?_
  refine Ar hF rfl (fun hc=>?_) (fun hc=>?_)
  ·replace h:=Al h hc
   refine esr ?_
   refine rn 1 1 [(10,.bool false)] hF fun a hF=>?_
   refine wfn rfl ?_
   refine wpIn_ret (Ac<|B6 [.tmp 10] [.bool false] hF rfl ⟨rfl,trivial⟩ ?_)
   have hr_:=Option.some.inj h
   subst hr_
   exact ⟨rfl,hS.ext⟩
  ·replace h:=Ak h hc
   refine wpIn_skip (A4 ?_)
   refine esr ?_
   refine rn 1 1 [(4,.int .u8 p4),(11,iv (ln p0)),(12,iv x7),(13,iv x9),(14,iv a5),(15,sv a8 a3 a7),(20,sv a2 a0.1 a4),(112,iv (ln p0))] hF fun a hF=>?_
   replace h:=A5 h
   obtain ⟨cP,pK,h⟩:=h
   refine SK.wi (A95 (A7 Bool 80) 85 80 (vF Value.bool) (@Eq (A7 Bool 80)) (e:=84) (t:=92) (bytes:=24) (fun dH=>[(4,.int .u8 p4),(11,iv (ln p0)),(12,iv x7),(13,iv x9),(14,iv a5),(15,sv a8 a3 a7),(20,sv a2 a0.1 a4),(113,.slice (some ⟨dH,0,none⟩) cP.length cP.length)]) hF hS kr ⟨kr⟩ kr kr pK (fun _=>⟨kr⟩) fun dH pC nU w a hF pW hS=>?_)
   refine SK.wi (Bu (t:=92) (fun a1=>[(4,.int .u8 p4),(11,iv (ln p0)),(12,iv x7),(13,iv x9),(14,iv a5),(15,sv a8 a3 a7),(20,sv a2 a0.1 a4),(22,pb a1),(113,.slice (some ⟨dH,0,none⟩) cP.length cP.length)]) #[.slice none 0 0] hF hS kr ⟨kr⟩ kr (fun _=>⟨kr⟩) fun a1 w a hF hS=>?_)
   refine SK.wi (storeK (t:=92) [(4,.int .u8 p4),(11,iv (ln p0)),(12,iv x7),(13,iv x9),(14,iv a5),(15,sv a8 a3 a7),(20,sv a2 a0.1 a4),(22,pb a1)] 0 0 (.slice (some ⟨dH,0,none⟩) cP.length cP.length) #[.slice (some ⟨dH,0,none⟩) cP.length cP.length] hF hS rfl kr ⟨kr⟩ kr kr kr kr ⟨kr⟩ fun w a hF hS=>?_)
   refine wfn rfl ?_
   refine Eb (fun a w=>∃(dV:(List (List (A7 Bool 80)))) (fA:Option Addr) (fY:Nat) (gA:List Hd) (g5:List (List (A7 Bool 80))),Fr 369 [] [(4,.int .u8 p4),(11,iv (ln p0)),(12,iv x7),(13,iv x9),(14,iv a5),(15,sv a8 a3 a7),(20,sv a2 a0.1 a4),(22,pb a1)] a∧St w0 [A9 84 85 80 (vF Value.bool) fA dV.length fY gA g5,blk a1 92 #[sv fA dV fY],arr 48 1 (fN 1) a2 a0.1.length a4 aU,fz w0 ν2684] w∧(NestOk (@Eq (A7 Bool 80)) gA g5 dV)∧El F p0 p4 x7 x9 a5 a3 a0 dV=some res) ?_ ?_
   ·skip
    refine esr ?_
    refine rn 3 3 [(4,.int .u8 p4),(11,iv (ln p0)),(12,iv x7),(13,iv x9),(14,iv a5),(15,sv a8 a3 a7),(20,sv a2 a0.1 a4),(22,pb a1),(115,iv (ln a3)),(116,iv 0)] hF fun a hF=>?_
    refine wfn rfl ?_
    refine wpIn_block ?_
    refine D2 (fun n_ a w=>∃(b9:(List (List (A7 Bool 80)))) (aK:Int) (b7:Option Addr) (bF:Nat) (cU:List Hd) (d3:List (List (A7 Bool 80))),Fr 369 [] [(4,.int .u8 p4),(11,iv (ln p0)),(12,iv x7),(13,iv x9),(14,iv a5),(15,sv a8 a3 a7),(20,sv a2 a0.1 a4),(22,pb a1),(115,iv (ln a3)),(116,iv aK)] a∧St w0 [A9 84 85 80 (vF Value.bool) b7 b9.length bF cU d3,blk a1 92 #[sv b7 b9 bF],arr 48 1 (fN 1) a2 a0.1.length a4 aU,fz w0 ν2684] w∧(NestOk (@Eq (A7 Bool 80)) cU d3 b9)∧Bo F p0 p4 x7 x9 a5 a3 a0 n_ b9 aK=some res) F ⟨cP,0,(some ⟨dH,0,none⟩),cP.length,pC,nU,hF.sub kr,St.pick [1,0,2,3] (by decide) hS,pW,h⟩ ?_
    rintro gK a w ⟨b9,aK,b7,bF,cU,d3,hF,hS,hE,h⟩
    rcases gK with _|gK
    ·cases (show (none:Option Bool)=some res from h)
    obtain ⟨eS,lQ⟩:∃k,k=Bo F p0 p4 x7 x9 a5 a3 a0 gK:=⟨_,rfl⟩
    replace h:Cb F p0 p4 x7 x9 a5 a3 a0 eS b9 aK=some res:=by rw [lQ];exact h
    rw [Cb] at h
    refine esr ?_
    refine rn 1 1 [(4,.int .u8 p4),(11,iv (ln p0)),(12,iv x7),(13,iv x9),(14,iv a5),(15,sv a8 a3 a7),(20,sv a2 a0.1 a4),(22,pb a1),(115,iv (ln a3)),(116,iv aK),(117,.bool (decide (aK<(ln a3))))] hF fun a hF=>?_
    refine wfn rfl ?_
    refine Ba ?_
    refine Ar hF rfl (fun hc=>?_) (fun hc=>?_)
    ·replace h:=Al h hc
     refine wpIn_skip (A4 ?_)
     refine Eb (fun a w=>∃(dU:(List (List (A7 Bool 80)))) (f5:Option Addr) (fW:Nat) (g9:List Hd) (g2:List (List (A7 Bool 80))),Fr 369 [] [(4,.int .u8 p4),(11,iv (ln p0)),(12,iv x7),(13,iv x9),(14,iv a5),(15,sv a8 a3 a7),(20,sv a2 a0.1 a4),(22,pb a1),(115,iv (ln a3)),(116,iv aK)] a∧St w0 [A9 84 85 80 (vF Value.bool) f5 dU.length fW g9 g2,blk a1 92 #[sv f5 dU fW],arr 48 1 (fN 1) a2 a0.1.length a4 aU,fz w0 ν2684] w∧(NestOk (@Eq (A7 Bool 80)) g9 g2 dU)∧E6 aK eS dU=some res) ?_ ?_
     ·skip
      refine wpIn_block ?_
      refine esr ?_
      refine rn 2 2 [(4,.int .u8 p4),(11,iv (ln p0)),(12,iv x7),(13,iv x9),(14,iv a5),(15,sv a8 a3 a7),(20,sv a2 a0.1 a4),(22,pb a1),(23,iv aK),(115,iv (ln a3)),(116,iv aK)] hF fun a hF=>?_
      refine wfn rfl ?_
      refine Ba ?_
      replace h:=A5 h
      obtain ⟨bQ,pF,h⟩:=h
      replace h:=A5 h
      obtain ⟨tW,q8,h⟩:=h
      refine C5 5 [3] _ (D:=fun w=>St w0 [A9 84 85 80 (vF Value.bool) b7 b9.length bF cU d3,blk a1 92 #[sv b7 b9 bF],arr 48 1 (fN 1) a2 a0.1.length a4 aU] w∧FrzAt ν2684 w) kr kr hF.size (fun w hx=>?_) (fun _ _ h=>h)
      replace hS:=hS.later hx
      refine ⟨⟨St.pick [0,1,2] (by decide) hS,hS.frz (i:=3) rfl hlow⟩,?_⟩
      have tT:=Frz.le_refl ν2684
      refine WT.s [0,1,2] [3] kr kr ?_
      refine Jj (rest:=[]) (obs:=[.run [] (Instr.loadAt 92 (pb a1)) (sv b7 b9 bF)]) [0,1,2] [(4,.int .u8 p4),(11,iv (ln p0)),(12,iv x7),(13,iv x9),(14,iv a5),(15,sv a8 a3 a7),(20,sv a2 a0.1 a4),(22,pb a1),(23,iv aK),(115,iv (ln a3)),(116,iv aK),(119,sv b7 b9 bF),(120,iv aK),(121,iv x7)] hF kr kr (A0 (ob1 kr (fun _ hd=>hd.1.cell (i:=1) (j:=0) rfl rfl)) Af) ⟨kr⟩ fun a hF=>?_
      refine WRun.fin ?_
      refine all_cons ?_ (Av)
      refine A4s (e:=85) (sz:=80) (f:=(vF Value.bool)) (z:=.agg (vF Value.bool (default:A7 Bool 80)).toArray) (t:=84) (bytes:=80) (fun dB=>[(4,.int .u8 p4),(11,iv (ln p0)),(12,iv x7),(13,iv x9),(14,iv a5),(15,sv a8 a3 a7),(20,sv a2 a0.1 a4),(22,pb a1),(23,iv aK),(115,iv (ln a3)),(116,iv aK),(119,sv b7 b9 bF),(120,iv aK),(122,.slice (some ⟨dB,0,none⟩) bQ.length bQ.length)]) (default:A7 Bool 80) hF hS kr ⟨kr⟩ kr kr rfl pF (fun _=>⟨kr⟩) fun dB w a hF hS=>⟨⟨St.pick [1,2,3] (by decide) hS,(hS.frz (i:=4) rfl hlow)⟩,?_⟩
      obtain ⟨sA,sB,pD,tU,tS⟩:=NestOk.getE hE q8
      refine WT.z [4] kr ?_
      refine Jj (rest:=[]) (obs:=[.run [] (Instr.indexAt 92 (sv b7 b9 bF) (iv aK)) (.pointer (some (A3 b7 aK 1)))]) [4] [(4,.int .u8 p4),(11,iv (ln p0)),(12,iv x7),(13,iv x9),(14,iv a5),(15,sv a8 a3 a7),(20,sv a2 a0.1 a4),(22,pb a1),(23,iv aK),(115,iv (ln a3)),(116,iv aK),(122,.slice (some ⟨dB,0,none⟩) bQ.length bQ.length),(123,.pointer (some (A3 b7 aK 1)))] hF kr kr (A0 (A8 (Ao (hS.res (i:=1) rfl)) kr (fun _=>pD)) Af) ⟨kr⟩ fun a hF=>?_
      refine WRun.fin ?_
      replace hS:St w0 [arr 85 80 (vF Value.bool) (some ⟨dB,0,none⟩) bQ.length bQ.length bQ,A9 84 85 80 (vF Value.bool) b7 b9.length bF cU d3,blk a1 92 #[sv b7 b9 bF],arr 48 1 (fN 1) a2 a0.1.length a4 aU,fz w0 ν2684] w:=hS
      replace hS:St w0 [A9 84 85 80 (vF Value.bool) b7 b9.length bF cU d3,arr 85 80 (vF Value.bool) (some ⟨dB,0,none⟩) bQ.length bQ.length bQ,blk a1 92 #[sv b7 b9 bF],arr 48 1 (fN 1) a2 a0.1.length a4 aU,fz w0 ν2684] w:=St.pick [1,0,2,3,4] (by decide) hS
      replace hS:St w0 [arr 84 1 hdF b7 b9.length bF cU,N9 85 80 (vF Value.bool) cU d3,arr 85 80 (vF Value.bool) (some ⟨dB,0,none⟩) bQ.length bQ.length bQ,blk a1 92 #[sv b7 b9 bF],arr 48 1 (fN 1) a2 a0.1.length a4 aU,fz w0 ν2684] w:=St.splitN hS
      replace h:=A5 h
      obtain ⟨s3,pG,h⟩:=h
      refine SK.wi (B0o (t:=84) (adi:=(some ⟨dB,0,none⟩)) (capi:=bQ.length) (l3:=bQ) [(4,.int .u8 p4),(11,iv (ln p0)),(12,iv x7),(13,iv x9),(14,iv a5),(15,sv a8 a3 a7),(20,sv a2 a0.1 a4),(22,pb a1),(23,iv aK),(115,iv (ln a3)),(116,iv aK)] aK hE (Ma bQ) hF hS rfl rfl kr ⟨kr⟩ kr pG ⟨kr⟩ fun pB nQ w a hF hl pR hS=>?_)
      simp only [sv,ln,hl] at hF hS
      refine wfn rfl ?_
      refine esr ?_
      refine rn 2 2 [(4,.int .u8 p4),(11,iv (ln p0)),(12,iv x7),(13,iv x9),(14,iv a5),(15,sv a8 a3 a7),(20,sv a2 a0.1 a4),(22,pb a1),(23,iv aK),(115,iv (ln a3)),(116,iv aK),(124,iv x7),(125,iv 0)] hF fun a hF=>?_
      refine wfn rfl ?_
      refine wpIn_block ?_
      refine D2 (fun n_ a w=>∃(d1:(List (List (A7 Bool 80)))) (bA:Int) (cQ:Option Addr) (dC:Nat) (eL:List Hd) (g3:List (List (A7 Bool 80))),Fr 369 [] [(4,.int .u8 p4),(11,iv (ln p0)),(12,iv x7),(13,iv x9),(14,iv a5),(15,sv a8 a3 a7),(20,sv a2 a0.1 a4),(22,pb a1),(23,iv aK),(115,iv (ln a3)),(116,iv aK),(124,iv x7),(125,iv bA)] a∧St w0 [A9 84 85 80 (vF Value.bool) cQ d1.length dC eL g3,blk a1 92 #[sv cQ d1 dC],arr 48 1 (fN 1) a2 a0.1.length a4 aU,fz w0 ν2684] w∧(NestOk (@Eq (A7 Bool 80)) eL g3 d1)∧Bz F x7 a3 aK eS n_ d1 bA=some res) F ⟨s3,0,b7,bF,pB,nQ,hF.sub kr,St.pick [0,1,2,3] (by decide) hS,pR,h⟩ ?_
      rintro gL a w ⟨d1,bA,cQ,dC,eL,g3,hF,hS,hG,h⟩
      rcases gL with _|gL
      ·cases (show (none:Option Bool)=some res from h)
      obtain ⟨s2,lR⟩:∃k,k=Bz F x7 a3 aK eS gL:=⟨_,rfl⟩
      replace h:Cc F x7 a3 aK eS s2 d1 bA=some res:=by rw [lR];exact h
      rw [Cc] at h
      refine esr ?_
      refine rn 1 1 [(4,.int .u8 p4),(11,iv (ln p0)),(12,iv x7),(13,iv x9),(14,iv a5),(15,sv a8 a3 a7),(20,sv a2 a0.1 a4),(22,pb a1),(23,iv aK),(115,iv (ln a3)),(116,iv aK),(124,iv x7),(125,iv bA),(126,.bool (decide (bA<x7)))] hF fun a hF=>?_
      refine wfn rfl ?_
      refine Ba ?_
      refine Ar hF rfl (fun hc=>?_) (fun hc=>?_)
      ·replace h:=Al h hc
       refine wpIn_skip (A4 ?_)
       refine Ba ?_
       refine wpIn_block ?_
       refine esr ?_
       refine rn 2 2 [(4,.int .u8 p4),(11,iv (ln p0)),(12,iv x7),(13,iv x9),(14,iv a5),(15,sv a8 a3 a7),(20,sv a2 a0.1 a4),(22,pb a1),(23,iv aK),(24,iv bA),(115,iv (ln a3)),(116,iv aK),(124,iv x7),(125,iv bA)] hF fun a hF=>?_
       refine wfn rfl ?_
       replace h:=A5 h
       obtain ⟨mM,q9,h⟩:=h
       obtain ⟨f6,iX,l2,lA,jV⟩:=NestOk.getE hG q9
       replace h:=A5 h
       obtain ⟨mN,qA,h⟩:=h
       obtain ⟨sI,kC,oF⟩:=Ae aF.2 qA
       obtain ⟨f7,iY,t9,rfl,h3⟩:=oF
       replace h:=A5 h
       obtain ⟨hN,qB,h⟩:=h
       obtain ⟨sJ,kD,oG⟩:=Ae h3.2 qB
       obtain ⟨iF,iZ,rfl,nW⟩:=oG
       replace h:=A5 h
       obtain ⟨iE,rM,h⟩:=h
       replace h:=A5 h
       obtain ⟨s6,m3,h⟩:=h
       refine L8 (obs:=[.run [] (Instr.loadAt 92 (pb a1)) (sv cQ d1 dC),.run [] (Instr.indexAt 92 (sv cQ d1 dC) (iv aK)) (.pointer (some (A3 cQ aK 1))),.run [] (Instr.loadAt 84 (.pointer (some (A3 cQ aK 1)))) (sv f6 mM iX),.run [] (Instr.indexAt 54 (sv a8 a3 a7) (iv aK)) (.pointer (some (A3 a8 aK 1))),.run [] (Instr.loadAt 48 (.pointer (some (A3 a8 aK 1)))) (sv f7 mN iY),.run [] (Instr.indexAt 48 (sv f7 mN iY) (iv bA)) (.pointer (some (A3 f7 bA 1))),.run [] (Instr.loadAt 43 (.pointer (some (A3 f7 bA 1)))) (sv iF hN iZ),.call [] 40 #[sv iF hN iZ] (.agg (vF Value.bool iE).toArray),.run [] (Instr.indexAt 84 (sv f6 mM iX) (iv bA)) (.pointer (some (A3 f6 bA 80)))]) 14 [(4,.int .u8 p4),(11,iv (ln p0)),(12,iv x7),(13,iv x9),(14,iv a5),(15,sv a8 a3 a7),(20,sv a2 a0.1 a4),(22,pb a1),(23,iv aK),(115,iv (ln a3)),(116,iv aK),(124,iv x7),(125,iv bA),(140,.agg (vF Value.bool iE).toArray),(141,.pointer (some (A3 f6 bA 80)))] kr hF kr (A0 (ob1 kr (fun _ hd=>(hS.later hd).cell (i:=1) (j:=0) rfl rfl)) (A0 (A8 (Ao (hS.res (i:=0) rfl)) kr (fun _=>l2)) (A0 (An (i:=aK) 0 C6 (fun _ hd=>(Ao ((hS.later hd).res (i:=0) rfl))) kr (fun _=>l2) rfl) (A0 (A8 (aF.at (hS.frz (i:=3) rfl hlow)) kr (fun _=>kC)) (A0 (An (i:=aK) 0 (As 1) (fun _ hd=>(aF.at ((hS.later hd).frz (i:=3) rfl hlow))) kr (fun _=>kC) rfl) (A0 (A8 (h3.at (hS.frz (i:=3) rfl hlow)) kr (fun _=>kD)) (A0 (An (i:=bA) 0 (As 1) (fun _ hd=>(h3.at ((hS.later hd).frz (i:=3) rfl hlow))) kr (fun _=>kD) rfl) (A0 (show Ob.ok _ Ext _ _ from fun hk w2 hd=>Hx F hN _ ((fun _=>rM) hk) _ w2 (Aj w2) (nW.mono (FrzAt.le_mem ((hS.later hd).frz (i:=3) rfl hlow)))) (A0 (A8 (Bb (hS.res (i:=0) rfl) lA jV) kr (fun _=>m3)) Af))))))))) ⟨kr⟩ fun a w hF hx=>?_
       replace hS:=hS.later hx
       replace h:=A5 h
       obtain ⟨tV,pH,h⟩:=h
       replace h:=A5 h
       obtain ⟨s4,pI,h⟩:=h
       refine SK.wi (Na (f:=Value.bool) (t:=85) (j:=bA) [(4,.int .u8 p4),(11,iv (ln p0)),(12,iv x7),(13,iv x9),(14,iv a5),(15,sv a8 a3 a7),(20,sv a2 a0.1 a4),(22,pb a1),(23,iv aK),(115,iv (ln a3)),(116,iv aK),(124,iv x7),(125,iv bA)] 0 aK s6 iE (fun _=>rfl) hG hF hS rfl kr ⟨kr⟩ lA jV m3 kr pH pI ⟨kr⟩ fun nR w a hF hL_ hl pS hS=>?_)
       simp only [sv,ln,hL_] at hF hS
       refine WI.fin rfl (Ab<|A4<|?_)
       refine WI.region ?_
       replace h:=A5 h
       obtain ⟨i6,r7,h⟩:=h
       refine rno 2 [.run [] (binOp .add 3 (iv bA) (iv 1)) (iv i6)] 2 [(4,.int .u8 p4),(11,iv (ln p0)),(12,iv x7),(13,iv x9),(14,iv a5),(15,sv a8 a3 a7),(20,sv a2 a0.1 a4),(22,pb a1),(23,iv aK),(115,iv (ln a3)),(116,iv aK),(124,iv x7),(125,iv i6)] hF (A0 (Bg (fun _=>r7)) Af) fun a hF=>?_
       refine wfn rfl ?_
       rw [lR] at h
       exact ⟨gL,Nat.lt_succ_self _,s4,i6,cQ,dC,eL,nR,hF.sub kr,St.pick [0,1,2,3] (by decide) hS,pS,h⟩
      ·replace h:=Ak h hc
       refine wpIn_exit (A6<|A6<|Ai<|Ab<|A4<|?_)
       exact ⟨d1,cQ,dC,eL,g3,hF.sub kr,St.pick [0,1,2,3] (by decide) hS,hG,h⟩
     rintro a w ⟨dU,f5,fW,g9,g2,hF,hS,pQ,h⟩
     rw [E6] at h
     refine WI.region ?_
     replace h:=A5 h
     obtain ⟨i5,r6,h⟩:=h
     refine rno 2 [.run [] (binOp .add 3 (iv aK) (iv 1)) (iv i5)] 2 [(4,.int .u8 p4),(11,iv (ln p0)),(12,iv x7),(13,iv x9),(14,iv a5),(15,sv a8 a3 a7),(20,sv a2 a0.1 a4),(22,pb a1),(115,iv (ln a3)),(116,iv i5)] hF (A0 (Bg (fun _=>r6)) Af) fun a hF=>?_
     refine wfn rfl ?_
     rw [lQ] at h
     exact ⟨gK,Nat.lt_succ_self _,dU,i5,f5,fW,g9,g2,hF.sub kr,St.pick [0,1,2,3] (by decide) hS,pQ,h⟩
    ·replace h:=Ak h hc
     refine wpIn_exit (A6<|A6<|Ai<|A4 ?_)
     exact ⟨b9,b7,bF,cU,d3,hF.sub kr,St.pick [0,1,2,3] (by decide) hS,hE,h⟩
   rintro a w ⟨dV,fA,fY,gA,g5,hF,hS,pX,h⟩
   rw [El] at h
   have b5:=Frz.le_refl ν2684
   refine Eb (fun a w=>∃(aP:(List (List (A7 Bool 80)))) (ν69312:Frz) (aO:Option Addr) (aY:Nat) (c0:List Hd) (bZ:List (List (A7 Bool 80))),Fr 369 [] [(4,.int .u8 p4),(11,iv (ln p0)),(12,iv x7),(13,iv x9),(14,iv a5),(15,sv a8 a3 a7),(20,sv a2 a0.1 a4),(22,pb a1)] a∧St w0 [A9 84 85 80 (vF Value.bool) aO aP.length aY c0 bZ,blk a1 92 #[sv aO aP aY],arr 48 1 (fN 1) a2 a0.1.length a4 aU,fz w0 ν69312] w∧(NestOk (@Eq (A7 Bool 80)) c0 bZ aP)∧(ν2684.le ν69312)∧(μ.ext w0.heap.size ν69312)∧(Bm w0 ν69312)∧Dp F p0 p4 x7 x9 a5 a3 a0 aP=some res) ?_ ?_
   ·skip
    refine esr ?_
    refine SK.wi (Bu (t:=4) (fun fQ=>[(4,.int .u8 p4),(11,iv (ln p0)),(12,iv x7),(13,iv x9),(14,iv a5),(15,sv a8 a3 a7),(20,sv a2 a0.1 a4),(22,pb a1),(25,pb fQ)]) #[.bool false] hF hS kr ⟨kr⟩ kr (fun _=>⟨kr⟩) fun fQ w a hF hS=>?_)
    refine SK.wi (storeK (t:=4) [(4,.int .u8 p4),(11,iv (ln p0)),(12,iv x7),(13,iv x9),(14,iv a5),(15,sv a8 a3 a7),(20,sv a2 a0.1 a4),(22,pb a1),(25,pb fQ)] 0 0 (.bool true) #[.bool true] hF hS rfl kr ⟨kr⟩ kr kr kr kr ⟨kr⟩ fun w a hF hS=>?_)
    refine wfn rfl ?_
    refine wpIn_block ?_
    have lH:=Frz.le_refl ν2684
    refine D2 (fun n_ a w=>∃(d7:(List (List (A7 Bool 80)))) (dI:Bool) (ν120063:Frz) (e0:Option Addr) (e6:Nat) (eJ:List Hd) (eB:List (List (A7 Bool 80))) (a9:Nat),Fr 369 [] [(4,.int .u8 p4),(11,iv (ln p0)),(12,iv x7),(13,iv x9),(14,iv a5),(15,sv a8 a3 a7),(20,sv a2 a0.1 a4),(22,pb a1),(25,pb a9)] a∧St w0 [blk a9 4 #[.bool dI],A9 84 85 80 (vF Value.bool) e0 d7.length e6 eJ eB,blk a1 92 #[sv e0 d7 e6],arr 48 1 (fN 1) a2 a0.1.length a4 aU,fz w0 ν120063] w∧(NestOk (@Eq (A7 Bool 80)) eJ eB d7)∧(ν2684.le ν120063)∧(μ.ext w0.heap.size ν120063)∧(Bm w0 ν120063)∧Bt F p0 p4 x7 x9 a5 a3 a0 n_ d7 dI=some res) F ⟨dV,true,ν2684,fA,fY,gA,g5,fQ,hF.sub kr,St.pick [0,1,2,3,4] (by decide) hS,pX,lH,hext,hlow,h⟩ ?_
    clear lH
    rintro nk9 a w ⟨d7,dI,ν120063,e0,e6,eJ,eB,a9,hF,hS,m0,b1,hext,hlow,h⟩
    rcases nk9 with _|nk9
    ·cases (show (none:Option Bool)=some res from h)
    replace hA4:=hA4.mono Rp82.mono b1
    replace aH:=All2.mono Rp48.mono b1 aH
    replace aF:=aF.mono Rp48.mono b1
    replace aV:=All2.mono Rp48.mono b1 aV
    replace aZ:=Frz.le_trans aZ b1
    replace b5:=Frz.le_trans b5 b1
    obtain ⟨k9,hk9⟩:∃k,k=Bt F p0 p4 x7 x9 a5 a3 a0 nk9:=⟨_,rfl⟩
    replace h:Co F p0 p4 x7 x9 a5 a3 a0 k9 d7 dI=some res:=by rw [hk9];exact h
    rw [Co] at h
    refine Ba ?_
    refine esr ?_
    refine rno 1 [.run [] (Instr.loadAt 4 (pb a9)) (.bool dI)] 1 [(4,.int .u8 p4),(11,iv (ln p0)),(12,iv x7),(13,iv x9),(14,iv a5),(15,sv a8 a3 a7),(20,sv a2 a0.1 a4),(22,pb a1),(25,pb a9),(144,.bool dI)] hF (A0 (ob1 kr (fun _ hd=>(hS.at_ hd).cell (i:=0) (j:=0) rfl rfl)) Af) fun a hF=>?_
    refine wfn rfl ?_
    refine Ar hF rfl (fun hc=>?_) (fun hc=>?_)
    ·replace h:=Al h hc
     refine wpIn_skip (A4 ?_)
     have bO:=Frz.le_refl ν120063
     refine Eb (fun a w=>∃(cR:Bool) (dR:(List (List (A7 Bool 80)))) (ν131036:Frz) (eZ:Option Addr) (fT:Nat) (g6:List Hd) (fZ:List (List (A7 Bool 80))),Fr 369 [] [(4,.int .u8 p4),(11,iv (ln p0)),(12,iv x7),(13,iv x9),(14,iv a5),(15,sv a8 a3 a7),(20,sv a2 a0.1 a4),(22,pb a1),(25,pb a9)] a∧St w0 [A9 84 85 80 (vF Value.bool) eZ dR.length fT g6 fZ,blk a9 4 #[.bool cR],blk a1 92 #[sv eZ dR fT],arr 48 1 (fN 1) a2 a0.1.length a4 aU,fz w0 ν131036] w∧(NestOk (@Eq (A7 Bool 80)) g6 fZ dR)∧(ν120063.le ν131036)∧(μ.ext w0.heap.size ν131036)∧(Bm w0 ν131036)∧H5 k9 cR dR=some res) ?_ ?_
     ·skip
      refine wpIn_block ?_
      refine esr ?_
      refine SK.wi (storeK (t:=4) [(4,.int .u8 p4),(11,iv (ln p0)),(12,iv x7),(13,iv x9),(14,iv a5),(15,sv a8 a3 a7),(20,sv a2 a0.1 a4),(22,pb a1),(25,pb a9)] 0 0 (.bool false) #[.bool false] hF hS rfl kr ⟨kr⟩ kr kr kr kr ⟨kr⟩ fun w a hF hS=>?_)
      refine wfn rfl ?_
      refine esr ?_
      refine rn 2 2 [(4,.int .u8 p4),(11,iv (ln p0)),(12,iv x7),(13,iv x9),(14,iv a5),(15,sv a8 a3 a7),(20,sv a2 a0.1 a4),(22,pb a1),(25,pb a9),(26,.func (.func 43) #[] #[pb a1,pb a9])] hF fun a hF=>?_
      refine wfn rfl ?_
      refine esr ?_
      refine rn 3 3 [(4,.int .u8 p4),(11,iv (ln p0)),(12,iv x7),(13,iv x9),(14,iv a5),(15,sv a8 a3 a7),(20,sv a2 a0.1 a4),(22,pb a1),(25,pb a9),(26,.func (.func 43) #[] #[pb a1,pb a9]),(147,iv (ln a3)),(148,iv 0)] hF fun a hF=>?_
      refine wfn rfl ?_
      refine wpIn_block ?_
      have lI:=Frz.le_refl ν120063
      refine D2 (fun n_ a w=>∃(dJ:Bool) (d8:(List (List (A7 Bool 80)))) (aA:Int) (ν138351:Frz) (e1:Option Addr) (e7:Nat) (eK:List Hd) (eC:List (List (A7 Bool 80))),Fr 369 [] [(4,.int .u8 p4),(11,iv (ln p0)),(12,iv x7),(13,iv x9),(14,iv a5),(15,sv a8 a3 a7),(20,sv a2 a0.1 a4),(22,pb a1),(25,pb a9),(26,.func (.func 43) #[] #[pb a1,pb a9]),(147,iv (ln a3)),(148,iv aA)] a∧St w0 [A9 84 85 80 (vF Value.bool) e1 d8.length e7 eK eC,blk a9 4 #[.bool dJ],blk a1 92 #[sv e1 d8 e7],arr 48 1 (fN 1) a2 a0.1.length a4 aU,fz w0 ν138351] w∧(NestOk (@Eq (A7 Bool 80)) eK eC d8)∧(ν120063.le ν138351)∧(μ.ext w0.heap.size ν138351)∧(Bm w0 ν138351)∧Bn F p0 x7 x9 a5 a3 k9 n_ dJ d8 aA=some res) F ⟨false,d7,0,ν120063,e0,e6,eJ,eB,hF.sub kr,St.pick [1,0,2,3,4] (by decide) hS,m0,lI,hext,hlow,h⟩ ?_
      clear lI
      rintro gG a w ⟨dJ,d8,aA,ν138351,e1,e7,eK,eC,hF,hS,m1,b3,hext,hlow,h⟩
      rcases gG with _|gG
      ·cases (show (none:Option Bool)=some res from h)
      replace hA4:=hA4.mono Rp82.mono b3
      replace aH:=All2.mono Rp48.mono b3 aH
      replace aF:=aF.mono Rp48.mono b3
      replace aV:=All2.mono Rp48.mono b3 aV
      replace aZ:=Frz.le_trans aZ b3
      replace b5:=Frz.le_trans b5 b3
      replace b1:=Frz.le_trans b1 b3
      replace bO:=Frz.le_trans bO b3
      obtain ⟨eR,lM⟩:∃k,k=Bn F p0 x7 x9 a5 a3 k9 gG:=⟨_,rfl⟩
      replace h:C7 F p0 x7 x9 a5 a3 k9 eR dJ d8 aA=some res:=by rw [lM];exact h
      rw [C7] at h
      refine esr ?_
      refine rn 1 1 [(4,.int .u8 p4),(11,iv (ln p0)),(12,iv x7),(13,iv x9),(14,iv a5),(15,sv a8 a3 a7),(20,sv a2 a0.1 a4),(22,pb a1),(25,pb a9),(26,.func (.func 43) #[] #[pb a1,pb a9]),(147,iv (ln a3)),(148,iv aA),(149,.bool (decide (aA<(ln a3))))] hF fun a hF=>?_
      refine wfn rfl ?_
      refine Ba ?_
      refine Ar hF rfl (fun hc=>?_) (fun hc=>?_)
      ·replace h:=Al h hc
       refine wpIn_skip (A4 ?_)
       have c9:=Frz.le_refl ν138351
       refine Eb (fun a w=>∃(fR:Bool) (dS:(List (List (A7 Bool 80)))) (ν140180:Frz) (f0:Option Addr) (fU:Nat) (g7:List Hd) (g0:List (List (A7 Bool 80))),Fr 369 [] [(4,.int .u8 p4),(11,iv (ln p0)),(12,iv x7),(13,iv x9),(14,iv a5),(15,sv a8 a3 a7),(20,sv a2 a0.1 a4),(22,pb a1),(25,pb a9),(26,.func (.func 43) #[] #[pb a1,pb a9]),(147,iv (ln a3)),(148,iv aA)] a∧St w0 [A9 84 85 80 (vF Value.bool) f0 dS.length fU g7 g0,blk a9 4 #[.bool fR],blk a1 92 #[sv f0 dS fU],arr 48 1 (fN 1) a2 a0.1.length a4 aU,fz w0 ν140180] w∧(NestOk (@Eq (A7 Bool 80)) g7 g0 dS)∧(ν138351.le ν140180)∧(μ.ext w0.heap.size ν140180)∧(Bm w0 ν140180)∧D5 aA eR fR dS=some res) ?_ ?_
       ·skip
        refine wpIn_block ?_
        refine esr ?_
        refine rn 2 2 [(4,.int .u8 p4),(11,iv (ln p0)),(12,iv x7),(13,iv x9),(14,iv a5),(15,sv a8 a3 a7),(20,sv a2 a0.1 a4),(22,pb a1),(25,pb a9),(26,.func (.func 43) #[] #[pb a1,pb a9]),(27,iv aA),(147,iv (ln a3)),(148,iv aA)] hF fun a hF=>?_
        refine wfn rfl ?_
        refine esr ?_
        refine rn 2 2 [(4,.int .u8 p4),(11,iv (ln p0)),(12,iv x7),(13,iv x9),(14,iv a5),(15,sv a8 a3 a7),(20,sv a2 a0.1 a4),(22,pb a1),(25,pb a9),(26,.func (.func 43) #[] #[pb a1,pb a9]),(27,iv aA),(147,iv (ln a3)),(148,iv aA),(151,iv x7),(152,iv 0)] hF fun a hF=>?_
        refine wfn rfl ?_
        refine wpIn_block ?_
        have lJ:=Frz.le_refl ν138351
        refine D2 (fun n_ a w=>∃(bR:Bool) (b6:(List (List (A7 Bool 80)))) (aB:Int) (ν141399:Frz) (bX:Option Addr) (bY:Nat) (cM:List Hd) (cK:List (List (A7 Bool 80))),Fr 369 [] [(4,.int .u8 p4),(11,iv (ln p0)),(12,iv x7),(13,iv x9),(14,iv a5),(15,sv a8 a3 a7),(20,sv a2 a0.1 a4),(22,pb a1),(25,pb a9),(26,.func (.func 43) #[] #[pb a1,pb a9]),(27,iv aA),(147,iv (ln a3)),(148,iv aA),(151,iv x7),(152,iv aB)] a∧St w0 [A9 84 85 80 (vF Value.bool) bX b6.length bY cM cK,blk a9 4 #[.bool bR],blk a1 92 #[sv bX b6 bY],arr 48 1 (fN 1) a2 a0.1.length a4 aU,fz w0 ν141399] w∧(NestOk (@Eq (A7 Bool 80)) cM cK b6)∧(ν138351.le ν141399)∧(μ.ext w0.heap.size ν141399)∧(Bm w0 ν141399)∧Bj F p0 x7 x9 a5 a3 aA eR n_ bR b6 aB=some res) F ⟨dJ,d8,0,ν138351,e1,e7,eK,eC,hF.sub kr,St.pick [0,1,2,3,4] (by decide) hS,m1,lJ,hext,hlow,h⟩ ?_
        clear lJ
        rintro gH a w ⟨bR,b6,aB,ν141399,bX,bY,cM,cK,hF,hS,eO,b8,hext,hlow,h⟩
        rcases gH with _|gH
        ·cases (show (none:Option Bool)=some res from h)
        replace hA4:=hA4.mono Rp82.mono b8
        replace aH:=All2.mono Rp48.mono b8 aH
        replace aF:=aF.mono Rp48.mono b8
        replace aV:=All2.mono Rp48.mono b8 aV
        replace aZ:=Frz.le_trans aZ b8
        replace b5:=Frz.le_trans b5 b8
        replace b1:=Frz.le_trans b1 b8
        replace bO:=Frz.le_trans bO b8
        replace b3:=Frz.le_trans b3 b8
        replace c9:=Frz.le_trans c9 b8
        obtain ⟨d0,lN⟩:∃k,k=Bj F p0 x7 x9 a5 a3 aA eR gH:=⟨_,rfl⟩
        replace h:C8 F p0 x7 x9 a5 a3 aA eR d0 bR b6 aB=some res:=by rw [lN];exact h
        rw [C8] at h
        refine esr ?_
        refine rn 1 1 [(4,.int .u8 p4),(11,iv (ln p0)),(12,iv x7),(13,iv x9),(14,iv a5),(15,sv a8 a3 a7),(20,sv a2 a0.1 a4),(22,pb a1),(25,pb a9),(26,.func (.func 43) #[] #[pb a1,pb a9]),(27,iv aA),(147,iv (ln a3)),(148,iv aA),(151,iv x7),(152,iv aB),(153,.bool (decide (aB<x7)))] hF fun a hF=>?_
        refine wfn rfl ?_
        refine Ba ?_
        refine Ar hF rfl (fun hc=>?_) (fun hc=>?_)
        ·replace h:=Al h hc
         refine wpIn_skip (A4 ?_)
         have cH:=Frz.le_refl ν141399
         refine Eb (fun a w=>∃(fS:Bool) (dT:(List (List (A7 Bool 80)))) (ν141704:Frz) (f1:Option Addr) (fV:Nat) (g8:List Hd) (g1:List (List (A7 Bool 80))),Fr 369 [] [(4,.int .u8 p4),(11,iv (ln p0)),(12,iv x7),(13,iv x9),(14,iv a5),(15,sv a8 a3 a7),(20,sv a2 a0.1 a4),(22,pb a1),(25,pb a9),(26,.func (.func 43) #[] #[pb a1,pb a9]),(27,iv aA),(147,iv (ln a3)),(148,iv aA),(151,iv x7),(152,iv aB)] a∧St w0 [A9 84 85 80 (vF Value.bool) f1 dT.length fV g8 g1,blk a9 4 #[.bool fS],blk a1 92 #[sv f1 dT fV],arr 48 1 (fN 1) a2 a0.1.length a4 aU,fz w0 ν141704] w∧(NestOk (@Eq (A7 Bool 80)) g8 g1 dT)∧(ν141399.le ν141704)∧(μ.ext w0.heap.size ν141704)∧(Bm w0 ν141704)∧Bf aB d0 fS dT=some res) ?_ ?_
         ·skip
          refine wpIn_block ?_
          refine esr ?_
          refine rn 2 2 [(4,.int .u8 p4),(11,iv (ln p0)),(12,iv x7),(13,iv x9),(14,iv a5),(15,sv a8 a3 a7),(20,sv a2 a0.1 a4),(22,pb a1),(25,pb a9),(26,.func (.func 43) #[] #[pb a1,pb a9]),(27,iv aA),(28,iv aB),(147,iv (ln a3)),(148,iv aA),(151,iv x7),(152,iv aB)] hF fun a hF=>?_
          refine wfn rfl ?_
          refine Ba ?_
          refine esr ?_
          replace h:=A5 h
          obtain ⟨mG,q2,h⟩:=h
          obtain ⟨sC,k2,o9⟩:=Ae aF.2 q2
          obtain ⟨f2,iU,t6,rfl,cT⟩:=o9
          replace h:=A5 h
          obtain ⟨mH,q3,h⟩:=h
          obtain ⟨sD,k3,oA⟩:=Ae cT.2 q3
          obtain ⟨nC,nJ,rfl,dL⟩:=oA
          refine rno 9 [.run [] (Instr.indexAt 54 (sv a8 a3 a7) (iv aA)) (.pointer (some (A3 a8 aA 1))),.run [] (Instr.loadAt 48 (.pointer (some (A3 a8 aA 1)))) (sv f2 mG iU),.run [] (Instr.indexAt 48 (sv f2 mG iU) (iv aB)) (.pointer (some (A3 f2 aB 1))),.run [] (Instr.loadAt 43 (.pointer (some (A3 f2 aB 1)))) (sv nC mH nJ)] 9 [(4,.int .u8 p4),(11,iv (ln p0)),(12,iv x7),(13,iv x9),(14,iv a5),(15,sv a8 a3 a7),(20,sv a2 a0.1 a4),(22,pb a1),(25,pb a9),(26,.func (.func 43) #[] #[pb a1,pb a9]),(27,iv aA),(28,iv aB),(147,iv (ln a3)),(148,iv aA),(151,iv x7),(152,iv aB),(163,.bool ((ln mH)==0))] hF (A0 (A8 (aF.at (hS.frz (i:=4) rfl hlow)) kr (fun _=>k2)) (A0 (An (i:=aA) 0 (As 1) (fun _ hd=>(aF.at ((hS.at_ hd).frz (i:=4) rfl hlow))) kr (fun _=>k2) rfl) (A0 (A8 (cT.at (hS.frz (i:=4) rfl hlow)) kr (fun _=>k3)) (A0 (An (i:=aB) 0 (As 1) (fun _ hd=>(cT.at ((hS.at_ hd).frz (i:=4) rfl hlow))) kr (fun _=>k3) rfl) Af)))) fun a hF=>?_
          refine wfn rfl ?_
          refine Ar hF rfl (fun hc=>?_) (fun hc=>?_)
          ·replace h:=Al h hc
           refine wpIn_exit (A6<|Ai<|A4 ?_)
           exact ⟨bR,b6,ν141399,bX,bY,cM,cK,hF.sub kr,St.pick [0,1,2,3,4] (by decide) hS,eO,cH,hext,hlow,h⟩
          ·replace h:=Ak h hc
           refine wpIn_skip (A4 ?_)
           have dM:=Frz.le_refl ν141399
           refine Eb (fun a w=>∃(c7:Bool) (bI:(List (List (A7 Bool 80)))) (ν141818:Frz) (cB:Option Addr) (cD:Nat) (d6:List Hd) (d2:List (List (A7 Bool 80))),Fr 369 [] [(4,.int .u8 p4),(11,iv (ln p0)),(12,iv x7),(13,iv x9),(14,iv a5),(15,sv a8 a3 a7),(20,sv a2 a0.1 a4),(22,pb a1),(25,pb a9),(26,.func (.func 43) #[] #[pb a1,pb a9]),(27,iv aA),(28,iv aB),(147,iv (ln a3)),(148,iv aA),(151,iv x7),(152,iv aB)] a∧St w0 [A9 84 85 80 (vF Value.bool) cB bI.length cD d6 d2,fz w0 ν141818,blk a1 92 #[sv cB bI cD],blk a9 4 #[.bool c7],arr 48 1 (fN 1) a2 a0.1.length a4 aU] w∧(NestOk (@Eq (A7 Bool 80)) d6 d2 bI)∧(ν141399.le ν141818)∧(μ.ext w0.heap.size ν141818)∧(Bm w0 ν141818)∧D6 F p0 x9 a5 a3 aA aB d0 c7 bI=some res) ?_ ?_
           ·skip
            refine esr ?_
            replace h:=A5 h
            obtain ⟨i2,r1,h⟩:=h
            refine rno 3 [.run [] (binOp .add 3 (iv aB) (iv 1)) (iv i2)] 3 [(4,.int .u8 p4),(11,iv (ln p0)),(12,iv x7),(13,iv x9),(14,iv a5),(15,sv a8 a3 a7),(20,sv a2 a0.1 a4),(22,pb a1),(25,pb a9),(26,.func (.func 43) #[] #[pb a1,pb a9]),(27,iv aA),(28,iv aB),(29,iv i2),(147,iv (ln a3)),(148,iv aA),(151,iv x7),(152,iv aB)] hF (A0 (Bg (fun _=>r1)) Af) fun a hF=>?_
            refine wfn rfl ?_
            refine wpIn_block ?_
            refine D2 (fun n_ a w=>∃(bJ:Int),Fr 369 [] [(4,.int .u8 p4),(11,iv (ln p0)),(12,iv x7),(13,iv x9),(14,iv a5),(15,sv a8 a3 a7),(20,sv a2 a0.1 a4),(22,pb a1),(25,pb a9),(26,.func (.func 43) #[] #[pb a1,pb a9]),(27,iv aA),(28,iv aB),(29,iv bJ),(147,iv (ln a3)),(148,iv aA),(151,iv x7),(152,iv aB)] a∧St w0 [A9 84 85 80 (vF Value.bool) bX b6.length bY cM cK,blk a9 4 #[.bool bR],blk a1 92 #[sv bX b6 bY],arr 48 1 (fN 1) a2 a0.1.length a4 aU,fz w0 ν141399] w∧By F p0 x7 x9 a5 a3 aA bR b6 aB d0 n_ bJ=some res) F ⟨i2,hF.sub kr,St.pick [0,1,2,3,4] (by decide) hS,h⟩ ?_
            rintro gJ a w ⟨bJ,hF,hS,h⟩
            rcases gJ with _|gJ
            ·cases (show (none:Option Bool)=some res from h)
            obtain ⟨s1,lP⟩:∃k,k=By F p0 x7 x9 a5 a3 aA bR b6 aB d0 gJ:=⟨_,rfl⟩
            replace h:Ca F p0 x7 x9 a5 a3 aA bR b6 aB d0 s1 bJ=some res:=by rw [lP];exact h
            rw [Ca] at h
            refine Ba ?_
            refine esr ?_
            refine rn 3 3 [(4,.int .u8 p4),(11,iv (ln p0)),(12,iv x7),(13,iv x9),(14,iv a5),(15,sv a8 a3 a7),(20,sv a2 a0.1 a4),(22,pb a1),(25,pb a9),(26,.func (.func 43) #[] #[pb a1,pb a9]),(27,iv aA),(28,iv aB),(29,iv bJ),(147,iv (ln a3)),(148,iv aA),(151,iv x7),(152,iv aB),(168,.bool (decide (bJ<x7)))] hF fun a hF=>?_
            refine wfn rfl ?_
            refine Ar hF rfl (fun hc=>?_) (fun hc=>?_)
            ·replace h:=Al h hc
             refine wpIn_skip (A4 ?_)
             refine Ba ?_
             refine wpIn_block ?_
             refine esr ?_
             replace h:=A5 h
             obtain ⟨mK,q6,h⟩:=h
             obtain ⟨sG,kA,oD⟩:=Ae aF.2 q6
             obtain ⟨f4,iW,t8,rfl,eF⟩:=oD
             replace h:=A5 h
             obtain ⟨mL,q7,h⟩:=h
             obtain ⟨sH,kB,oE⟩:=Ae eF.2 q7
             obtain ⟨nE,nL,rfl,jT⟩:=oE
             refine rno 9 [.run [] (Instr.indexAt 54 (sv a8 a3 a7) (iv aA)) (.pointer (some (A3 a8 aA 1))),.run [] (Instr.loadAt 48 (.pointer (some (A3 a8 aA 1)))) (sv f4 mK iW),.run [] (Instr.indexAt 48 (sv f4 mK iW) (iv bJ)) (.pointer (some (A3 f4 bJ 1))),.run [] (Instr.loadAt 43 (.pointer (some (A3 f4 bJ 1)))) (sv nE mL nL)] 9 [(4,.int .u8 p4),(11,iv (ln p0)),(12,iv x7),(13,iv x9),(14,iv a5),(15,sv a8 a3 a7),(20,sv a2 a0.1 a4),(22,pb a1),(25,pb a9),(26,.func (.func 43) #[] #[pb a1,pb a9]),(27,iv aA),(28,iv aB),(29,iv bJ),(147,iv (ln a3)),(148,iv aA),(151,iv x7),(152,iv aB),(179,.bool (decide ((ln mL)>0)))] hF (A0 (A8 (aF.at (hS.frz (i:=4) rfl hlow)) kr (fun _=>kA)) (A0 (An (i:=aA) 0 (As 1) (fun _ hd=>(aF.at ((hS.at_ hd).frz (i:=4) rfl hlow))) kr (fun _=>kA) rfl) (A0 (A8 (eF.at (hS.frz (i:=4) rfl hlow)) kr (fun _=>kB)) (A0 (An (i:=bJ) 0 (As 1) (fun _ hd=>(eF.at ((hS.at_ hd).frz (i:=4) rfl hlow))) kr (fun _=>kB) rfl) Af)))) fun a hF=>?_
             refine wfn rfl ?_
             refine Ar hF rfl (fun hc=>?_) (fun hc=>?_)
             ·replace h:=Al h hc
              refine Ba ?_
              refine esr ?_
              replace h:=A5 h
              obtain ⟨n3,r2,h⟩:=h
              refine rno 5 [.run [] (binOp .sub 3 (iv bJ) (iv aB)) (iv n3)] 5 [(4,.int .u8 p4),(11,iv (ln p0)),(12,iv x7),(13,iv x9),(14,iv a5),(15,sv a8 a3 a7),(20,sv a2 a0.1 a4),(22,pb a1),(25,pb a9),(26,.func (.func 43) #[] #[pb a1,pb a9]),(27,iv aA),(28,iv aB),(29,iv bJ),(147,iv (ln a3)),(148,iv aA),(151,iv x7),(152,iv aB),(184,.bool (decide (n3≤a5)))] hF (A0 (Dl (fun _=>r2)) Af) fun a hF=>?_
              refine wfn rfl ?_
              refine Ar hF rfl (fun hc=>?_) (fun hc=>?_)
              ·replace h:=Al h hc
               refine WI.region ?_
               replace h:=A5 h
               obtain ⟨n4,r3,h⟩:=h
               replace h:=A5 h
               obtain ⟨i3,r4,h⟩:=h
               refine rno 10 [.run [] (binOp .sub 3 (iv bJ) (iv aB)) (iv n4),.run [] (binOp .mul 3 (iv x9) (iv n4)) (iv i3)] 10 [(4,.int .u8 p4),(11,iv (ln p0)),(12,iv x7),(13,iv x9),(14,iv a5),(15,sv a8 a3 a7),(20,sv a2 a0.1 a4),(22,pb a1),(25,pb a9),(26,.func (.func 43) #[] #[pb a1,pb a9]),(27,iv aA),(28,iv aB),(147,iv (ln a3)),(148,iv aA),(151,iv x7),(152,iv aB),(185,.func (.func 43) #[] #[pb a1,pb a9]),(186,iv aA),(187,iv aB),(188,iv aA),(189,iv bJ),(194,iv i3)] hF (A0 (Dl (fun _=>r3)) (A0 (Ul (fun _=>r4)) Af)) fun a hF=>?_
               replace h:=A5 h
               obtain ⟨eY,rL,h⟩:=h
               replace hS:St w0 [A9 84 85 80 (vF Value.bool) bX b6.length bY cM cK,blk a9 4 #[.bool bR],blk a1 92 #[sv bX b6 bY],arr 48 1 (fN 1) a2 a0.1.length a4 aU,fz w0 ν141399] w:=hS
               replace hS:St w0 [fz w0 ν141399,blk a1 92 #[sv bX b6 bY],A9 84 85 80 (vF Value.bool) bX b6.length bY cM cK,blk a9 4 #[.bool bR],arr 48 1 (fN 1) a2 a0.1.length a4 aU] w:=St.pick [4,2,0,1,3] (by decide) hS
               refine SK.wi (Es (fun s9=>[(4,.int .u8 p4),(11,iv (ln p0)),(12,iv x7),(13,iv x9),(14,iv a5),(15,sv a8 a3 a7),(20,sv a2 a0.1 a4),(22,pb a1),(25,pb a9),(26,.func (.func 43) #[] #[pb a1,pb a9]),(27,iv aA),(28,iv aB),(147,iv (ln a3)),(148,iv aA),(151,iv x7),(152,iv aB)]) hF kr ⟨kr⟩ (Jy F aA aB aA bJ i3 b6 bR _ rL ν141399 w0 w [arr 48 1 (fN 1) a2 a0.1.length a4 aU] hlow eO hS) (fun _=>⟨kr⟩) ?_)
               rintro s9 w a ⟨ν142000,gV,gY,l1,jQ,bE,hlow,rfl,pP,hS⟩ hF
               replace hext:=Frz.ext_trans hext bE
               replace hA4:=hA4.mono Rp82.mono bE.1
               replace aH:=All2.mono Rp48.mono bE.1 aH
               replace aF:=aF.mono Rp48.mono bE.1
               replace aV:=All2.mono Rp48.mono bE.1 aV
               replace cT:=cT.mono Rp43.mono bE.1
               replace dL:=dL.mono bE.1
               replace eF:=eF.mono Rp43.mono bE.1
               replace jT:=jT.mono bE.1
               replace aZ:=Frz.le_trans aZ bE.1
               replace b5:=Frz.le_trans b5 bE.1
               replace b1:=Frz.le_trans b1 bE.1
               replace bO:=Frz.le_trans bO bE.1
               replace b3:=Frz.le_trans b3 bE.1
               replace c9:=Frz.le_trans c9 bE.1
               replace b8:=Frz.le_trans b8 bE.1
               replace cH:=Frz.le_trans cH bE.1
               replace dM:=Frz.le_trans dM bE.1
               replace hS:St w0 [fz w0 ν142000,blk a1 92 #[sv gV eY.1 gY],A9 84 85 80 (vF Value.bool) gV eY.1.length gY l1 jQ,blk a9 4 #[.bool eY.2],arr 48 1 (fN 1) a2 a0.1.length a4 aU] w:=hS
               refine wfn rfl ?_
               refine wpIn_exit (Lb rfl<|A6<|A6<|Ai<|A4 ?_)
               exact ⟨eY.2,eY.1,ν142000,gV,gY,l1,jQ,hF.sub kr,St.pick [2,0,1,3,4] (by decide) hS,pP,dM,hext,hlow,h⟩
              ·replace h:=Ak h hc
               refine wpIn_skip (A4 ?_)
               refine wpIn_exit (Lb rfl<|A6<|A6<|Ai<|A4 ?_)
               exact ⟨bR,b6,ν141399,bX,bY,cM,cK,hF.sub kr,St.pick [0,4,2,1,3] (by decide) hS,eO,dM,hext,hlow,h⟩
             ·replace h:=Ak h hc
              refine wpIn_skip (Ab<|A4<|?_)
              refine WI.region ?_
              replace h:=A5 h
              obtain ⟨i4,r5,h⟩:=h
              refine rno 3 [.run [] (binOp .add 3 (iv bJ) (iv 1)) (iv i4)] 3 [(4,.int .u8 p4),(11,iv (ln p0)),(12,iv x7),(13,iv x9),(14,iv a5),(15,sv a8 a3 a7),(20,sv a2 a0.1 a4),(22,pb a1),(25,pb a9),(26,.func (.func 43) #[] #[pb a1,pb a9]),(27,iv aA),(28,iv aB),(29,iv i4),(147,iv (ln a3)),(148,iv aA),(151,iv x7),(152,iv aB)] hF (A0 (Bg (fun _=>r5)) Af) fun a hF=>?_
              refine wfn rfl ?_
              rw [lP] at h
              exact ⟨gJ,Nat.lt_succ_self _,i4,hF.sub kr,St.pick [0,1,2,3,4] (by decide) hS,h⟩
            ·replace h:=Ak h hc
             refine wpIn_exit (A6<|A6<|Ai<|A4 ?_)
             exact ⟨bR,b6,ν141399,bX,bY,cM,cK,hF.sub kr,St.pick [0,4,2,1,3] (by decide) hS,eO,dM,hext,hlow,h⟩
           clear dM
           rintro a w ⟨c7,bI,ν141818,cB,cD,d6,d2,hF,hS,hD,bP,hext,hlow,h⟩
           replace hA4:=hA4.mono Rp82.mono bP
           replace aH:=All2.mono Rp48.mono bP aH
           replace aF:=aF.mono Rp48.mono bP
           replace aV:=All2.mono Rp48.mono bP aV
           replace cT:=cT.mono Rp43.mono bP
           replace dL:=dL.mono bP
           replace aZ:=Frz.le_trans aZ bP
           replace b5:=Frz.le_trans b5 bP
           replace b1:=Frz.le_trans b1 bP
           replace bO:=Frz.le_trans bO bP
           replace b3:=Frz.le_trans b3 bP
           replace c9:=Frz.le_trans c9 bP
           replace b8:=Frz.le_trans b8 bP
           replace cH:=Frz.le_trans cH bP
           rw [D6] at h
           refine esr ?_
           refine rn 1 1 [(4,.int .u8 p4),(11,iv (ln p0)),(12,iv x7),(13,iv x9),(14,iv a5),(15,sv a8 a3 a7),(20,sv a2 a0.1 a4),(22,pb a1),(25,pb a9),(26,.func (.func 43) #[] #[pb a1,pb a9]),(27,iv aA),(28,iv aB),(30,iv 1),(147,iv (ln a3)),(148,iv aA),(151,iv x7),(152,iv aB)] hF fun a hF=>?_
           refine wfn rfl ?_
           refine wpIn_block ?_
           refine D2 (fun n_ a w=>∃(c5:Int),Fr 369 [] [(4,.int .u8 p4),(11,iv (ln p0)),(12,iv x7),(13,iv x9),(14,iv a5),(15,sv a8 a3 a7),(20,sv a2 a0.1 a4),(22,pb a1),(25,pb a9),(26,.func (.func 43) #[] #[pb a1,pb a9]),(27,iv aA),(28,iv aB),(30,iv c5),(147,iv (ln a3)),(148,iv aA),(151,iv x7),(152,iv aB)] a∧St w0 [A9 84 85 80 (vF Value.bool) cB bI.length cD d6 d2,fz w0 ν141818,blk a1 92 #[sv cB bI cD],blk a9 4 #[.bool c7],arr 48 1 (fN 1) a2 a0.1.length a4 aU] w∧Bx F p0 x9 a5 a3 aA aB d0 c7 bI n_ c5=some res) F ⟨1,hF.sub kr,St.pick [0,1,2,3,4] (by decide) hS,h⟩ ?_
           rintro gI a w ⟨c5,hF,hS,h⟩
           rcases gI with _|gI
           ·cases (show (none:Option Bool)=some res from h)
           obtain ⟨s0,lO⟩:∃k,k=Bx F p0 x9 a5 a3 aA aB d0 c7 bI gI:=⟨_,rfl⟩
           replace h:C9 F p0 x9 a5 a3 aA aB d0 c7 bI s0 c5=some res:=by rw [lO];exact h
           rw [C9] at h
           refine Ba ?_
           refine esr ?_
           refine rn 3 3 [(4,.int .u8 p4),(11,iv (ln p0)),(12,iv x7),(13,iv x9),(14,iv a5),(15,sv a8 a3 a7),(20,sv a2 a0.1 a4),(22,pb a1),(25,pb a9),(26,.func (.func 43) #[] #[pb a1,pb a9]),(27,iv aA),(28,iv aB),(30,iv c5),(147,iv (ln a3)),(148,iv aA),(151,iv x7),(152,iv aB),(198,.bool (decide (c5<(ln p0))))] hF fun a hF=>?_
           refine wfn rfl ?_
           refine Ar hF rfl (fun hc=>?_) (fun hc=>?_)
           ·replace h:=Al h hc
            refine wpIn_skip (A4 ?_)
            refine Ba ?_
            refine wpIn_block ?_
            refine esr ?_
            replace h:=A5 h
            obtain ⟨n1,qV,h⟩:=h
            replace h:=A5 h
            obtain ⟨eV,qW,h⟩:=h
            replace h:=A5 h
            obtain ⟨mI,q4,h⟩:=h
            obtain ⟨sE,k4,oB⟩:=Ae aF.2 q4
            obtain ⟨f3,iV,t7,rfl,eE⟩:=oB
            replace h:=A5 h
            obtain ⟨mJ,q5,h⟩:=h
            obtain ⟨sF,k6,oC⟩:=Ae eE.2 q5
            obtain ⟨nD,nK,rfl,jS⟩:=oC
            refine rno 13 [.run [] (binOp .add 3 (iv aA) (iv c5)) (iv n1),.run [] (binOp .rem 3 (iv n1) (iv (ln p0))) (iv eV),.run [] (Instr.indexAt 54 (sv a8 a3 a7) (iv eV)) (.pointer (some (A3 a8 eV 1))),.run [] (Instr.loadAt 48 (.pointer (some (A3 a8 eV 1)))) (sv f3 mI iV),.run [] (Instr.indexAt 48 (sv f3 mI iV) (iv aB)) (.pointer (some (A3 f3 aB 1))),.run [] (Instr.loadAt 43 (.pointer (some (A3 f3 aB 1)))) (sv nD mJ nK)] 13 [(4,.int .u8 p4),(11,iv (ln p0)),(12,iv x7),(13,iv x9),(14,iv a5),(15,sv a8 a3 a7),(20,sv a2 a0.1 a4),(22,pb a1),(25,pb a9),(26,.func (.func 43) #[] #[pb a1,pb a9]),(27,iv aA),(28,iv aB),(30,iv c5),(147,iv (ln a3)),(148,iv aA),(151,iv x7),(152,iv aB),(213,.bool (decide ((ln mJ)>0)))] hF (A0 (Bg (fun _=>qV)) (A0 (Lh (fun _=>qW)) (A0 (A8 (aF.at (hS.frz (i:=1) rfl hlow)) kr (fun _=>k4)) (A0 (An (i:=eV) 0 (As 1) (fun _ hd=>(aF.at ((hS.at_ hd).frz (i:=1) rfl hlow))) kr (fun _=>k4) rfl) (A0 (A8 (eE.at (hS.frz (i:=1) rfl hlow)) kr (fun _=>k6)) (A0 (An (i:=aB) 0 (As 1) (fun _ hd=>(eE.at ((hS.at_ hd).frz (i:=1) rfl hlow))) kr (fun _=>k6) rfl) Af)))))) fun a hF=>?_
            refine wfn rfl ?_
            refine Ar hF rfl (fun hc=>?_) (fun hc=>?_)
            ·replace h:=Al h hc
             refine Ba ?_
             refine esr ?_
             refine rn 3 3 [(4,.int .u8 p4),(11,iv (ln p0)),(12,iv x7),(13,iv x9),(14,iv a5),(15,sv a8 a3 a7),(20,sv a2 a0.1 a4),(22,pb a1),(25,pb a9),(26,.func (.func 43) #[] #[pb a1,pb a9]),(27,iv aA),(28,iv aB),(30,iv c5),(147,iv (ln a3)),(148,iv aA),(151,iv x7),(152,iv aB),(216,.bool (decide (c5≤a5)))] hF fun a hF=>?_
             refine wfn rfl ?_
             refine Ar hF rfl (fun hc=>?_) (fun hc=>?_)
             ·replace h:=Al h hc
              refine WI.region ?_
              replace h:=A5 h
              obtain ⟨n2,qX,h⟩:=h
              replace h:=A5 h
              obtain ⟨hZ,qY,h⟩:=h
              replace h:=A5 h
              obtain ⟨i0,qZ,h⟩:=h
              refine rno 12 [.run [] (binOp .add 3 (iv aA) (iv c5)) (iv n2),.run [] (binOp .rem 3 (iv n2) (iv (ln p0))) (iv hZ),.run [] (binOp .mul 3 (iv x9) (iv c5)) (iv i0)] 12 [(4,.int .u8 p4),(11,iv (ln p0)),(12,iv x7),(13,iv x9),(14,iv a5),(15,sv a8 a3 a7),(20,sv a2 a0.1 a4),(22,pb a1),(25,pb a9),(26,.func (.func 43) #[] #[pb a1,pb a9]),(27,iv aA),(147,iv (ln a3)),(148,iv aA),(151,iv x7),(152,iv aB),(217,.func (.func 43) #[] #[pb a1,pb a9]),(218,iv aA),(219,iv aB),(224,iv hZ),(225,iv aB),(228,iv i0)] hF (A0 (Bg (fun _=>qX)) (A0 (Lh (fun _=>qY)) (A0 (Ul (fun _=>qZ)) Af))) fun a hF=>?_
              replace h:=A5 h
              obtain ⟨eX,rK,h⟩:=h
              replace hS:St w0 [A9 84 85 80 (vF Value.bool) cB bI.length cD d6 d2,fz w0 ν141818,blk a1 92 #[sv cB bI cD],blk a9 4 #[.bool c7],arr 48 1 (fN 1) a2 a0.1.length a4 aU] w:=hS
              replace hS:St w0 [fz w0 ν141818,blk a1 92 #[sv cB bI cD],A9 84 85 80 (vF Value.bool) cB bI.length cD d6 d2,blk a9 4 #[.bool c7],arr 48 1 (fN 1) a2 a0.1.length a4 aU] w:=St.pick [1,2,0,3,4] (by decide) hS
              refine SK.wi (Es (fun s8=>[(4,.int .u8 p4),(11,iv (ln p0)),(12,iv x7),(13,iv x9),(14,iv a5),(15,sv a8 a3 a7),(20,sv a2 a0.1 a4),(22,pb a1),(25,pb a9),(26,.func (.func 43) #[] #[pb a1,pb a9]),(27,iv aA),(147,iv (ln a3)),(148,iv aA),(151,iv x7),(152,iv aB)]) hF kr ⟨kr⟩ (Jy F aA aB hZ aB i0 bI c7 _ rK ν141818 w0 w [arr 48 1 (fN 1) a2 a0.1.length a4 aU] hlow hD hS) (fun _=>⟨kr⟩) ?_)
              rintro s8 w a ⟨ν141911,gU,gX,l0,jP,bD,hlow,rfl,pO,hS⟩ hF
              replace hext:=Frz.ext_trans hext bD
              replace hA4:=hA4.mono Rp82.mono bD.1
              replace aH:=All2.mono Rp48.mono bD.1 aH
              replace aF:=aF.mono Rp48.mono bD.1
              replace aV:=All2.mono Rp48.mono bD.1 aV
              replace cT:=cT.mono Rp43.mono bD.1
              replace dL:=dL.mono bD.1
              replace eE:=eE.mono Rp43.mono bD.1
              replace jS:=jS.mono bD.1
              replace aZ:=Frz.le_trans aZ bD.1
              replace b5:=Frz.le_trans b5 bD.1
              replace b1:=Frz.le_trans b1 bD.1
              replace bO:=Frz.le_trans bO bD.1
              replace b3:=Frz.le_trans b3 bD.1
              replace c9:=Frz.le_trans c9 bD.1
              replace b8:=Frz.le_trans b8 bD.1
              replace cH:=Frz.le_trans cH bD.1
              replace bP:=Frz.le_trans bP bD.1
              replace hS:St w0 [fz w0 ν141911,blk a1 92 #[sv gU eX.1 gX],A9 84 85 80 (vF Value.bool) gU eX.1.length gX l0 jP,blk a9 4 #[.bool eX.2],arr 48 1 (fN 1) a2 a0.1.length a4 aU] w:=hS
              refine wfn rfl ?_
              refine wpIn_exit (Lb rfl<|A6<|A6<|Ai<|Ab<|A4<|?_)
              exact ⟨eX.2,eX.1,ν141911,gU,gX,l0,jP,hF.sub kr,St.pick [2,3,1,4,0] (by decide) hS,pO,cH,hext,hlow,h⟩
             ·replace h:=Ak h hc
              refine wpIn_skip (A4 ?_)
              refine wpIn_exit (Lb rfl<|A6<|A6<|Ai<|Ab<|A4<|?_)
              exact ⟨c7,bI,ν141818,cB,cD,d6,d2,hF.sub kr,St.pick [0,3,2,4,1] (by decide) hS,hD,cH,hext,hlow,h⟩
            ·replace h:=Ak h hc
             refine wpIn_skip (Ab<|A4<|?_)
             refine WI.region ?_
             replace h:=A5 h
             obtain ⟨i1,r0,h⟩:=h
             refine rno 3 [.run [] (binOp .add 3 (iv c5) (iv 1)) (iv i1)] 3 [(4,.int .u8 p4),(11,iv (ln p0)),(12,iv x7),(13,iv x9),(14,iv a5),(15,sv a8 a3 a7),(20,sv a2 a0.1 a4),(22,pb a1),(25,pb a9),(26,.func (.func 43) #[] #[pb a1,pb a9]),(27,iv aA),(28,iv aB),(30,iv i1),(147,iv (ln a3)),(148,iv aA),(151,iv x7),(152,iv aB)] hF (A0 (Bg (fun _=>r0)) Af) fun a hF=>?_
             refine wfn rfl ?_
             rw [lO] at h
             exact ⟨gI,Nat.lt_succ_self _,i1,hF.sub kr,St.pick [0,1,2,3,4] (by decide) hS,h⟩
           ·replace h:=Ak h hc
            refine wpIn_exit (A6<|A6<|Ai<|Ab<|A4<|?_)
            exact ⟨c7,bI,ν141818,cB,cD,d6,d2,hF.sub kr,St.pick [0,3,2,4,1] (by decide) hS,hD,cH,hext,hlow,h⟩
         clear cH
         rintro a w ⟨fS,dT,ν141704,f1,fV,g8,g1,hF,hS,pN,cI,hext,hlow,h⟩
         replace hA4:=hA4.mono Rp82.mono cI
         replace aH:=All2.mono Rp48.mono cI aH
         replace aF:=aF.mono Rp48.mono cI
         replace aV:=All2.mono Rp48.mono cI aV
         replace aZ:=Frz.le_trans aZ cI
         replace b5:=Frz.le_trans b5 cI
         replace b1:=Frz.le_trans b1 cI
         replace bO:=Frz.le_trans bO cI
         replace b3:=Frz.le_trans b3 cI
         replace c9:=Frz.le_trans c9 cI
         replace b8:=Frz.le_trans b8 cI
         rw [Bf] at h
         refine WI.region ?_
         replace h:=A5 h
         obtain ⟨hY,qU,h⟩:=h
         refine rno 2 [.run [] (binOp .add 3 (iv aB) (iv 1)) (iv hY)] 2 [(4,.int .u8 p4),(11,iv (ln p0)),(12,iv x7),(13,iv x9),(14,iv a5),(15,sv a8 a3 a7),(20,sv a2 a0.1 a4),(22,pb a1),(25,pb a9),(26,.func (.func 43) #[] #[pb a1,pb a9]),(27,iv aA),(147,iv (ln a3)),(148,iv aA),(151,iv x7),(152,iv hY)] hF (A0 (Bg (fun _=>qU)) Af) fun a hF=>?_
         refine wfn rfl ?_
         rw [lN] at h
         exact ⟨gH,Nat.lt_succ_self _,fS,dT,hY,ν141704,f1,fV,g8,g1,hF.sub kr,St.pick [0,1,2,3,4] (by decide) hS,pN,b8,hext,hlow,h⟩
        ·replace h:=Ak h hc
         refine wpIn_exit (A6<|A6<|Ai<|Ab<|A4<|?_)
         exact ⟨bR,b6,ν141399,bX,bY,cM,cK,hF.sub kr,St.pick [0,1,2,3,4] (by decide) hS,eO,c9,hext,hlow,h⟩
       clear c9
       rintro a w ⟨fR,dS,ν140180,f0,fU,g7,g0,hF,hS,pM,cV,hext,hlow,h⟩
       replace hA4:=hA4.mono Rp82.mono cV
       replace aH:=All2.mono Rp48.mono cV aH
       replace aF:=aF.mono Rp48.mono cV
       replace aV:=All2.mono Rp48.mono cV aV
       replace aZ:=Frz.le_trans aZ cV
       replace b5:=Frz.le_trans b5 cV
       replace b1:=Frz.le_trans b1 cV
       replace bO:=Frz.le_trans bO cV
       replace b3:=Frz.le_trans b3 cV
       rw [D5] at h
       refine WI.region ?_
       replace h:=A5 h
       obtain ⟨hX,qT,h⟩:=h
       refine rno 2 [.run [] (binOp .add 3 (iv aA) (iv 1)) (iv hX)] 2 [(4,.int .u8 p4),(11,iv (ln p0)),(12,iv x7),(13,iv x9),(14,iv a5),(15,sv a8 a3 a7),(20,sv a2 a0.1 a4),(22,pb a1),(25,pb a9),(26,.func (.func 43) #[] #[pb a1,pb a9]),(147,iv (ln a3)),(148,iv hX)] hF (A0 (Bg (fun _=>qT)) Af) fun a hF=>?_
       refine wfn rfl ?_
       rw [lM] at h
       exact ⟨gG,Nat.lt_succ_self _,fR,dS,hX,ν140180,f0,fU,g7,g0,hF.sub kr,St.pick [0,1,2,3,4] (by decide) hS,pM,b3,hext,hlow,h⟩
      ·replace h:=Ak h hc
       refine wpIn_exit (A6<|A6<|Ai<|Ab<|A4<|?_)
       exact ⟨dJ,d8,ν138351,e1,e7,eK,eC,hF.sub kr,St.pick [0,1,2,3,4] (by decide) hS,m1,bO,hext,hlow,h⟩
     clear bO
     rintro a w ⟨cR,dR,ν131036,eZ,fT,g6,fZ,hF,hS,pL,dF,hext,hlow,h⟩
     replace hA4:=hA4.mono Rp82.mono dF
     replace aH:=All2.mono Rp48.mono dF aH
     replace aF:=aF.mono Rp48.mono dF
     replace aV:=All2.mono Rp48.mono dF aV
     replace aZ:=Frz.le_trans aZ dF
     replace b5:=Frz.le_trans b5 dF
     replace b1:=Frz.le_trans b1 dF
     rw [H5] at h
     refine esr ?_
     refine rno 1 [.run [] (Instr.loadAt 4 (pb a9)) (.bool cR)] 1 [(4,.int .u8 p4),(11,iv (ln p0)),(12,iv x7),(13,iv x9),(14,iv a5),(15,sv a8 a3 a7),(20,sv a2 a0.1 a4),(22,pb a1),(232,.bool cR)] hF (A0 (ob1 kr (fun _ hd=>(hS.at_ hd).cell (i:=1) (j:=0) rfl rfl)) Af) fun a hF=>?_
     refine wfn rfl ?_
     refine WI.region ?_
     refine SK.wi (Bu (t:=4) (fun fP=>[(4,.int .u8 p4),(11,iv (ln p0)),(12,iv x7),(13,iv x9),(14,iv a5),(15,sv a8 a3 a7),(20,sv a2 a0.1 a4),(22,pb a1),(25,pb fP),(232,.bool cR)]) #[.bool false] hF hS kr ⟨kr⟩ kr (fun _=>⟨kr⟩) fun fP w a hF hS=>?_)
     refine SK.wi (storeK (t:=4) [(4,.int .u8 p4),(11,iv (ln p0)),(12,iv x7),(13,iv x9),(14,iv a5),(15,sv a8 a3 a7),(20,sv a2 a0.1 a4),(22,pb a1),(25,pb fP)] 0 0 (.bool cR) #[.bool cR] hF hS rfl kr ⟨kr⟩ kr kr kr kr ⟨kr⟩ fun w a hF hS=>?_)
     refine wfn rfl ?_
     rw [hk9] at h
     exact ⟨nk9,Nat.lt_succ_self _,dR,cR,ν131036,eZ,fT,g6,fZ,fP,hF.sub kr,St.pick [0,1,3,4,5] (by decide) hS,pL,b1,hext,hlow,h⟩
    ·replace h:=Ak h hc
     refine wpIn_exit (A6<|A6<|Ai<|A4 ?_)
     exact ⟨d7,ν120063,e0,e6,eJ,eB,hF.sub kr,St.pick [1,2,3,4] (by decide) hS,m0,b5,hext,hlow,h⟩
   clear b5
   rintro a w ⟨aP,ν69312,aO,aY,c0,bZ,hF,hS,dO,c3,hext,hlow,h⟩
   replace hA4:=hA4.mono Rp82.mono c3
   replace aH:=All2.mono Rp48.mono c3 aH
   replace aF:=aF.mono Rp48.mono c3
   replace aV:=All2.mono Rp48.mono c3 aV
   replace aZ:=Frz.le_trans aZ c3
   rw [Dp] at h
   refine esr ?_
   replace h:=A5 h
   obtain ⟨n5,rA,h⟩:=h
   replace h:=A5 h
   obtain ⟨aE,rB,h⟩:=h
   refine rno 5 [.run [] (convert 5 3 (.int .u8 p4)) (iv n5),.run [] (binOp .rem 3 (iv n5) (iv (ln p0))) (iv aE)] 5 [(11,iv (ln p0)),(12,iv x7),(13,iv x9),(14,iv a5),(15,sv a8 a3 a7),(20,sv a2 a0.1 a4),(22,pb a1),(31,iv aE)] hF (A0 (Ph kr kr (fun _=>rA)) (A0 (Lh (fun _=>rB)) Af)) fun a hF=>?_
   refine wfn rfl ?_
   refine Ba ?_
   replace h:=A5 h
   obtain ⟨eU,lV,h⟩:=h
   replace h:=A5 h
   obtain ⟨dW,lW,h⟩:=h
   replace h:=A5 h
   obtain ⟨hM,lX,h⟩:=h
   replace h:=A5 h
   obtain ⟨gE,lY,h⟩:=h
   replace h:=A5 h
   obtain ⟨aC,rP,h⟩:=h
   refine C5 17 [0,4,8,11] _ (D:=fun w=>St w0 [A9 84 85 80 (vF Value.bool) aO aP.length aY c0 bZ,blk a1 92 #[sv aO aP aY],arr 48 1 (fN 1) a2 a0.1.length a4 aU] w∧FrzAt ν69312 w) kr kr hF.size (fun w hx=>?_) (fun _ _ h=>h)
   replace hS:=hS.later hx
   refine ⟨⟨St.pick [0,1,2] (by decide) hS,hS.frz (i:=3) rfl hlow⟩,?_⟩
   have eI:=Frz.le_refl ν69312
   obtain ⟨eD,p8,pY⟩:=Ti aF.2 lV
   have cE:ArrQ ν69312 1 Rp48 (Dz a8 a7 aE.toNat 1) (a7-aE.toNat) eD eU:=⟨fun w_ hw_=>(aF.1 w_ hw_).cutD (As 1) p8,pY⟩
   obtain ⟨h2,p9,pZ⟩:=Ti aF.2 lW
   have cF:ArrQ ν69312 1 Rp48 (Dz a8 a7 (0:Int).toNat 1) (a7-(0:Int).toNat) h2 dW:=⟨fun w_ hw_=>(aF.1 w_ hw_).cutD (As 1) p9,pZ⟩
   refine WT.s [1,2,3,5,6,7,9,10] [0] kr kr ?_
   refine Jj (rest:=[]) (obs:=[.run [] (Instr.sliceAt 54 (sv a8 a3 a7) (some (iv aE)) none none) (.slice (Dz a8 a7 aE.toNat 1) eU.length (a7-aE.toNat)),.run [] (Instr.sliceAt 54 (sv a8 a3 a7) none (some (iv aE)) none) (.slice (Dz a8 a7 (0:Int).toNat 1) dW.length (a7-(0:Int).toNat))]) [1,2,3,5,6,7,9,10] [(11,iv (ln p0)),(12,iv x7),(13,iv x9),(14,iv a5),(15,sv a8 a3 a7),(20,sv a2 a0.1 a4),(22,pb a1),(31,iv aE),(241,.slice (Dz a8 a7 aE.toNat 1) eU.length (a7-aE.toNat)),(245,.slice (Dz a8 a7 (0:Int).toNat 1) dW.length (a7-(0:Int).toNat)),(247,iv x9),(248,iv a5)] hF kr kr (A0 (A4y kr (aF.at (hS.frz (i:=3) rfl hlow)) (fun _=>lV)) (A0 (A4x kr (aF.at (hS.frz (i:=3) rfl hlow)) (fun _=>lW)) Af)) ⟨kr⟩ fun a hF=>?_
   refine WRun.fin ?_
   refine all_cons ?_ (Av)
   have cX:All2 (Rp48 ν69312) ([]:List (List Value)) ([]:List (List (List api_Span))):=All2.nil
   refine Sb (e:=48) (sz:=1) (f:=fN 1) (t:=54) (len:=0) (fun iT=>[(11,iv (ln p0)),(12,iv x7),(13,iv x9),(14,iv a5),(15,sv a8 a3 a7),(20,sv a2 a0.1 a4),(22,pb a1),(31,iv aE),(238,sb iT 0),(241,.slice (Dz a8 a7 aE.toNat 1) eU.length (a7-aE.toNat)),(245,.slice (Dz a8 a7 (0:Int).toNat 1) dW.length (a7-(0:Int).toNat)),(247,iv x9),(248,iv a5)]) #[] #[] ([]:List (List Value)) ([]:List (List (List api_Span))) hF hS kr ⟨kr⟩ kr (As 1) rfl rfl rfl kr (fun _=>⟨kr⟩) fun iT w a hF hS=>⟨⟨St.pick [1,2,3] (by decide) hS,(hS.frz (i:=4) rfl hlow)⟩,?_⟩
   refine WT.s [] [4] kr kr ?_
   refine WRun.fin ?_
   refine all_cons ?_ (Av)
   have cY:All2 (Rp48 ν69312) (([]:List (List Value))++eD) hM:=by rw [(G1 lX).1];exact All2.app cX cE.2
   refine Ps (t:=54) (ty:=54) (bytes:=24) (c:=([]:List (List Value))) (c':=eD) (l:=([]:List (List (List api_Span)))) (l':=eU) (fun iG j1=>[(11,iv (ln p0)),(12,iv x7),(13,iv x9),(14,iv a5),(15,sv a8 a3 a7),(20,sv a2 a0.1 a4),(22,pb a1),(31,iv aE),(242,sv iG hM j1),(245,.slice (Dz a8 a7 (0:Int).toNat 1) dW.length (a7-(0:Int).toNat)),(247,iv x9),(248,iv a5)]) 0 hF hS rfl kr ⟨kr⟩ kr (cE.at (hS.frz (i:=4) rfl hlow)) (ArrQ.one cE.2 Rp48.one) lX (fun _ _=>⟨kr⟩) fun iG j1 w a hF hS=>⟨⟨St.pick [1,2,3] (by decide) hS,(hS.frz (i:=4) rfl hlow)⟩,?_⟩
   refine WT.s [] [8] kr kr ?_
   refine WRun.fin ?_
   refine all_cons ?_ (Av)
   have hK:All2 (Rp48 ν69312) ((([]:List (List Value))++eD)++h2) gE:=by rw [(G1 lY).1];exact All2.app cY cF.2
   refine Ps (t:=54) (ty:=54) (bytes:=24) (c:=(([]:List (List Value))++eD)) (c':=h2) (l:=hM) (l':=dW) (fun iH j2=>[(11,iv (ln p0)),(12,iv x7),(13,iv x9),(14,iv a5),(15,sv a8 a3 a7),(20,sv a2 a0.1 a4),(22,pb a1),(31,iv aE),(246,sv iH gE j2),(247,iv x9),(248,iv a5)]) 0 hF hS rfl kr ⟨kr⟩ kr (cF.at (hS.frz (i:=4) rfl hlow)) (ArrQ.one cF.2 Rp48.one) lY (fun _ _=>⟨kr⟩) fun iH j2 w a hF hS=>⟨⟨St.pick [1,2,3] (by decide) hS,(hS.frz (i:=4) rfl hlow)⟩,?_⟩
   refine WT.s [] [11] kr kr ?_
   refine WRun.fin ?_
   refine all_cons ?_ (Av)
   obtain ⟨ν69404,c4,hlow,hS,rZ⟩:=hS.freeze (i:=4) (j:=0) rfl rfl (by decide) hlow
   replace hA4:=hA4.mono Rp82.mono c4.1
   replace aH:=All2.mono Rp48.mono c4.1 aH
   replace aF:=aF.mono Rp48.mono c4.1
   replace aV:=All2.mono Rp48.mono c4.1 aV
   replace cE:=cE.mono Rp48.mono c4.1
   replace cF:=cF.mono Rp48.mono c4.1
   replace cX:=All2.mono Rp48.mono c4.1 cX
   replace cY:=All2.mono Rp48.mono c4.1 cY
   replace hK:=All2.mono Rp48.mono c4.1 hK
   replace aZ:=Frz.le_trans aZ c4.1
   replace c3:=Frz.le_trans c3 c4.1
   replace eI:=Frz.le_trans eI c4.1
   replace hext:=Frz.ext_trans hext c4
   replace hS:St w0 [A9 84 85 80 (vF Value.bool) aO aP.length aY c0 bZ,blk a1 92 #[sv aO aP aY],arr 48 1 (fN 1) a2 a0.1.length a4 aU,fz w0 ν69404] w:=hS
   have dE:=ArrQ.of_arr (l:=gE) rZ hK Rp48.mono (Frz.le_refl _)
   refine Es (fun mW=>[(11,iv (ln p0)),(12,iv x7),(13,iv x9),(14,iv a5),(15,sv a8 a3 a7),(20,sv a2 a0.1 a4),(22,pb a1),(31,iv aE),(249,mW)]) hF kr ⟨kr⟩ (Mt F gE x9 a5 _ rP ν69404 w (hS.frz (i:=3) rfl hlow) dE) (fun _=>⟨kr⟩) ?_
   rintro mW w a ⟨ν69409,aG,aL,d5,bV,rfl,eP,hQ⟩ hF
   replace hext:=Frz.ext_trans hext (Frz.ext_mono bV hS.ext.size)
   obtain ⟨hlow,hS⟩:=hS.frzMerge (i:=3) rfl hlow bV hQ
   replace hA4:=hA4.mono Rp82.mono bV.1
   replace aH:=All2.mono Rp48.mono bV.1 aH
   replace aF:=aF.mono Rp48.mono bV.1
   replace aV:=All2.mono Rp48.mono bV.1 aV
   replace cE:=cE.mono Rp48.mono bV.1
   replace cF:=cF.mono Rp48.mono bV.1
   replace cX:=All2.mono Rp48.mono bV.1 cX
   replace cY:=All2.mono Rp48.mono bV.1 cY
   replace dE:=dE.mono Rp48.mono bV.1
   replace aZ:=Frz.le_trans aZ bV.1
   replace c3:=Frz.le_trans c3 bV.1
   replace eI:=Frz.le_trans eI bV.1
   replace hS:St w0 [arr 48 1 (fN 1) aG aC.1.length aL d5,A9 84 85 80 (vF Value.bool) aO aP.length aY c0 bZ,blk a1 92 #[sv aO aP aY],arr 48 1 (fN 1) a2 a0.1.length a4 aU,fz w0 ν69409] w:=hS
   refine ⟨⟨St.pick [1,2,3] (by decide) hS,(hS.frz (i:=4) rfl hlow).low eI⟩,?_⟩
   refine WT.z [12,13,14,15,16] kr ?_
   refine Jj (rest:=[]) (obs:=[]) [12,13,14,15,16] [(11,iv (ln p0)),(12,iv x7),(13,iv x9),(14,iv a5),(15,sv a8 a3 a7),(20,sv a2 a0.1 a4),(21,iv aC.2),(22,pb a1),(31,iv aE),(32,sv aG aC.1 aL)] hF kr kr Af ⟨kr⟩ fun a hF=>?_
   refine WRun.fin ?_
   refine wfn rfl ?_
   refine esr ?_
   replace h:=A5 h
   obtain ⟨hP,qG,h⟩:=h
   obtain ⟨sO,kI,oL⟩:=Ae aF.2 qG
   obtain ⟨iI,j3,tD,rfl,eH⟩:=oL
   refine rno 5 [.run [] (Instr.indexAt 54 (sv a8 a3 a7) (iv 0)) (.pointer (some (A3 a8 0 1))),.run [] (Instr.loadAt 48 (.pointer (some (A3 a8 0 1)))) (sv iI hP j3)] 5 [(11,iv (ln p0)),(12,iv x7),(13,iv x9),(14,iv a5),(15,sv a8 a3 a7),(20,sv a2 a0.1 a4),(21,iv aC.2),(22,pb a1),(31,iv aE),(32,sv aG aC.1 aL),(255,sv iI hP j3),(256,iv x9),(257,iv a5)] hF (A0 (A8 (aF.at (hS.frz (i:=4) rfl hlow)) kr (fun _=>kI)) (A0 (An (i:=0) 0 (As 1) (fun _ hd=>(aF.at ((hS.at_ hd).frz (i:=4) rfl hlow))) kr (fun _=>kI) rfl) Af)) fun a hF=>?_
   replace h:=A5 h
   obtain ⟨b2,rQ,h⟩:=h
   refine SK.wi (Es (fun mX=>[(11,iv (ln p0)),(12,iv x7),(13,iv x9),(14,iv a5),(15,sv a8 a3 a7),(20,sv a2 a0.1 a4),(21,iv aC.2),(22,pb a1),(31,iv aE),(32,sv aG aC.1 aL),(258,mX)]) hF kr ⟨kr⟩ (Y4 F hP x9 a5 _ rQ ν69409 w (hS.frz (i:=4) rfl hlow) eH) (fun _=>⟨kr⟩) ?_)
   rintro mX w a ⟨ν69425,bL,bN,dD,bS,rfl,hL,hQ⟩ hF
   replace hext:=Frz.ext_trans hext (Frz.ext_mono bS hS.ext.size)
   obtain ⟨hlow,hS⟩:=hS.frzMerge (i:=4) rfl hlow bS hQ
   replace hA4:=hA4.mono Rp82.mono bS.1
   replace aH:=All2.mono Rp48.mono bS.1 aH
   replace aF:=aF.mono Rp48.mono bS.1
   replace aV:=All2.mono Rp48.mono bS.1 aV
   replace cE:=cE.mono Rp48.mono bS.1
   replace cF:=cF.mono Rp48.mono bS.1
   replace cX:=All2.mono Rp48.mono bS.1 cX
   replace cY:=All2.mono Rp48.mono bS.1 cY
   replace dE:=dE.mono Rp48.mono bS.1
   replace eP:=All2.mono Rp48.mono bS.1 eP
   replace eH:=eH.mono Rp43.mono bS.1
   replace aZ:=Frz.le_trans aZ bS.1
   replace c3:=Frz.le_trans c3 bS.1
   replace hS:St w0 [arr 43 1 (fN 1) bL b2.1.length bN dD,arr 48 1 (fN 1) aG aC.1.length aL d5,A9 84 85 80 (vF Value.bool) aO aP.length aY c0 bZ,blk a1 92 #[sv aO aP aY],arr 48 1 (fN 1) a2 a0.1.length a4 aU,fz w0 ν69425] w:=hS
   refine rn 5 11 [(11,iv (ln p0)),(12,iv x7),(13,iv x9),(14,iv a5),(15,sv a8 a3 a7),(20,sv a2 a0.1 a4),(21,iv aC.2),(22,pb a1),(31,iv aE),(32,sv aG aC.1 aL),(33,sv bL b2.1 bN),(34,iv b2.2)] hF fun a hF=>?_
   refine wfn rfl ?_
   refine esr ?_
   replace h:=A5 h
   obtain ⟨gF,lZ,h⟩:=h
   obtain ⟨nV,pA,q0⟩:=Ti aF.2 lZ
   have h5:ArrQ ν69425 1 Rp48 (Dz a8 a7 (0:Int).toNat 1) (a7-(0:Int).toNat) nV gF:=⟨fun w_ hw_=>(aF.1 w_ hw_).cutD (As 1) pA,q0⟩
   refine rno 4 [.run [] (Instr.sliceAt 54 (sv a8 a3 a7) none (some (iv 1)) none) (.slice (Dz a8 a7 (0:Int).toNat 1) gF.length (a7-(0:Int).toNat))] 4 [(11,iv (ln p0)),(12,iv x7),(20,sv a2 a0.1 a4),(21,iv aC.2),(22,pb a1),(31,iv aE),(32,sv aG aC.1 aL),(33,sv bL b2.1 bN),(34,iv b2.2),(263,.slice (Dz a8 a7 (0:Int).toNat 1) gF.length (a7-(0:Int).toNat)),(264,iv x9),(265,iv a5)] hF (A0 (A4x kr (aF.at (hS.frz (i:=5) rfl hlow)) (fun _=>lZ)) Af) fun a hF=>?_
   replace h:=A5 h
   obtain ⟨bW,rR,h⟩:=h
   refine SK.wi (Es (fun mY=>[(11,iv (ln p0)),(12,iv x7),(20,sv a2 a0.1 a4),(21,iv aC.2),(22,pb a1),(31,iv aE),(32,sv aG aC.1 aL),(33,sv bL b2.1 bN),(34,iv b2.2),(266,mY)]) hF kr ⟨kr⟩ (Mt F gF x9 a5 _ rR ν69425 w (hS.frz (i:=5) rfl hlow) h5) (fun _=>⟨kr⟩) ?_)
   rintro mY w a ⟨ν69438,cC,cS,dK,bH,rfl,q1,hQ⟩ hF
   replace hext:=Frz.ext_trans hext (Frz.ext_mono bH hS.ext.size)
   obtain ⟨hlow,hS⟩:=hS.frzMerge (i:=5) rfl hlow bH hQ
   replace hA4:=hA4.mono Rp82.mono bH.1
   replace aH:=All2.mono Rp48.mono bH.1 aH
   replace aF:=aF.mono Rp48.mono bH.1
   replace aV:=All2.mono Rp48.mono bH.1 aV
   replace cE:=cE.mono Rp48.mono bH.1
   replace cF:=cF.mono Rp48.mono bH.1
   replace cX:=All2.mono Rp48.mono bH.1 cX
   replace cY:=All2.mono Rp48.mono bH.1 cY
   replace dE:=dE.mono Rp48.mono bH.1
   replace eP:=All2.mono Rp48.mono bH.1 eP
   replace eH:=eH.mono Rp43.mono bH.1
   replace hL:=All2.mono Rp43.mono bH.1 hL
   replace h5:=h5.mono Rp48.mono bH.1
   replace aZ:=Frz.le_trans aZ bH.1
   replace c3:=Frz.le_trans c3 bH.1
   replace hS:St w0 [arr 48 1 (fN 1) cC bW.1.length cS dK,arr 43 1 (fN 1) bL b2.1.length bN dD,arr 48 1 (fN 1) aG aC.1.length aL d5,A9 84 85 80 (vF Value.bool) aO aP.length aY c0 bZ,blk a1 92 #[sv aO aP aY],arr 48 1 (fN 1) a2 a0.1.length a4 aU,fz w0 ν69438] w:=hS
   refine rn 5 10 [(11,iv (ln p0)),(12,iv x7),(20,sv a2 a0.1 a4),(21,iv aC.2),(22,pb a1),(31,iv aE),(32,sv aG aC.1 aL),(33,sv bL b2.1 bN),(34,iv b2.2),(35,sv cC bW.1 cS),(36,iv bW.2)] hF fun a hF=>?_
   refine wfn rfl ?_
   refine Ba ?_
   refine esr ?_
   refine rn 22 22 [(11,iv (ln p0)),(12,iv x7),(20,sv a2 a0.1 a4),(22,pb a1),(31,iv aE),(32,sv aG aC.1 aL),(33,sv bL b2.1 bN),(35,sv cC bW.1 cS),(290,.bool (bif (bif (bif (bif (aC.2 != 0) then true else (b2.2 != 0)) then true else (bW.2 != 0)) then true else ((ln aC.1) != (ln p0))) then true else ((ln bW.1) != 1)))] hF fun a hF=>?_
   rcases Bool.eq_false_or_eq_true ((bif (bif (bif (bif (aC.2 != 0) then true else (b2.2 != 0)) then true else (bW.2 != 0)) then true else ((ln aC.1) != (ln p0))) then true else ((ln bW.1) != 1))) with eM|eM
   ·replace h:=Al h eM
    rw [eM] at hF
    refine Wc 23 [(11,iv (ln p0)),(12,iv x7),(20,sv a2 a0.1 a4),(22,pb a1),(31,iv aE),(32,sv aG aC.1 aL),(33,sv bL b2.1 bN),(290,.bool true),(291,undef)] hF kr ⟨kr⟩ ⟨kr⟩ rfl fun a hF=>?_
    refine Wc 24 [(11,iv (ln p0)),(12,iv x7),(20,sv a2 a0.1 a4),(22,pb a1),(31,iv aE),(32,sv aG aC.1 aL),(33,sv bL b2.1 bN),(290,.bool true),(292,undef)] hF kr ⟨kr⟩ ⟨kr⟩ rfl fun a hF=>?_
    refine Wc 25 [(11,iv (ln p0)),(12,iv x7),(20,sv a2 a0.1 a4),(22,pb a1),(31,iv aE),(32,sv aG aC.1 aL),(33,sv bL b2.1 bN),(290,.bool true),(293,undef)] hF kr ⟨kr⟩ ⟨kr⟩ rfl fun a hF=>?_
    refine Wc 26 [(11,iv (ln p0)),(12,iv x7),(20,sv a2 a0.1 a4),(22,pb a1),(31,iv aE),(32,sv aG aC.1 aL),(290,.bool true),(293,undef),(294,undef)] hF kr ⟨kr⟩ ⟨kr⟩ rfl fun a hF=>?_
    refine Wc 27 [(11,iv (ln p0)),(12,iv x7),(20,sv a2 a0.1 a4),(22,pb a1),(31,iv aE),(32,sv aG aC.1 aL),(290,.bool true),(295,undef)] hF kr ⟨kr⟩ ⟨kr⟩ rfl fun a hF=>?_
    refine Wc 28 [(11,iv (ln p0)),(12,iv x7),(20,sv a2 a0.1 a4),(22,pb a1),(31,iv aE),(32,sv aG aC.1 aL),(290,.bool true),(296,undef)] hF kr ⟨kr⟩ ⟨kr⟩ rfl fun a hF=>?_
    refine rn 1 29 [(11,iv (ln p0)),(12,iv x7),(20,sv a2 a0.1 a4),(22,pb a1),(31,iv aE),(32,sv aG aC.1 aL),(297,.bool true)] hF fun a hF=>?_
    refine wfn rfl ?_
    refine wpIn_cond_true (hF.get rfl) ?_
    refine esr ?_
    refine rn 1 1 [(10,.bool false)] hF fun a hF=>?_
    refine wfn rfl ?_
    refine wpIn_ret (Ac<|B6 [.tmp 10] [.bool false] hF rfl ⟨rfl,trivial⟩ ?_)
    have hr_:=Option.some.inj h
    subst hr_
    exact ⟨rfl,hS.ext⟩
   ·replace h:=Ak h eM
    rw [eM] at hF
    replace h:=A5 h
    obtain ⟨hR,qH,h⟩:=h
    obtain ⟨sP,kJ,oM⟩:=Ae q1 qH
    obtain ⟨iJ,j4,tE,rfl,o0⟩:=oM
    replace h:=A5 h
    obtain ⟨n8,rS,h⟩:=h
    refine rx 7 [.run [⟨290,false,false⟩] (Instr.indexAt 54 (sv cC bW.1 cS) (iv 0)) (.pointer (some (A3 cC 0 1))),.run [⟨290,false,false⟩] (Instr.loadAt 48 (.pointer (some (A3 cC 0 1)))) (sv iJ hR j4),.call [⟨290,false,false⟩] 26 #[sv iJ hR j4,sv bL b2.1 bN] (.bool n8)] 29 [(11,iv (ln p0)),(12,iv x7),(20,sv a2 a0.1 a4),(22,pb a1),(31,iv aE),(32,sv aG aC.1 aL),(297,.bool (!n8))] hF (A0 (A8 (hS.arr (i:=0) rfl) kr (fun _=>kJ)) (A0 (An (i:=0) 0 (As 1) (fun _ hd=>((hS.later hd).arr (i:=0) rfl)) kr (fun _=>kJ) rfl) (A0 (show Ob.ok _ Ext _ _ from fun hk w2 hd=>Pv F hR b2.1 _ ((fun _=>rS) hk) _ w2 (Aj w2) (o0.mono Rp43.mono (FrzAt.le_mem ((hS.later hd).frz (i:=6) rfl hlow))) (ArrQ.of_own ((hS.later hd).arr (i:=1) rfl) hL Rp43.mono (FrzAt.le_mem ((hS.later hd).frz (i:=6) rfl hlow)))) Af))) fun a w hF hx=>?_
    replace hS:=hS.later hx
    refine wfn rfl ?_
    refine Ar hF rfl (fun hc=>?_) (fun hc=>?_)
    ·replace h:=Al h hc
     refine esr ?_
     refine rn 1 1 [(10,.bool false)] hF fun a hF=>?_
     refine wfn rfl ?_
     refine wpIn_ret (Ac<|B6 [.tmp 10] [.bool false] hF rfl ⟨rfl,trivial⟩ ?_)
     have hr_:=Option.some.inj h
     subst hr_
     exact ⟨rfl,hS.ext⟩
    ·replace h:=Ak h hc
     refine wpIn_skip (A4 ?_)
     refine Eb (fun a w=>Fr 369 [] [] a∧St w0 [arr 48 1 (fN 1) cC bW.1.length cS dK,arr 43 1 (fN 1) bL b2.1.length bN dD,arr 48 1 (fN 1) aG aC.1.length aL d5,A9 84 85 80 (vF Value.bool) aO aP.length aY c0 bZ,blk a1 92 #[sv aO aP aY],arr 48 1 (fN 1) a2 a0.1.length a4 aU,fz w0 ν69438] w∧Hm=some res) ?_ ?_
     ·skip
      refine esr ?_
      refine rn 3 3 [(11,iv (ln p0)),(12,iv x7),(20,sv a2 a0.1 a4),(22,pb a1),(31,iv aE),(32,sv aG aC.1 aL),(299,iv (ln a0.1)),(300,iv 0)] hF fun a hF=>?_
      refine wfn rfl ?_
      refine wpIn_block ?_
      refine D2 (fun n_ a w=>∃(a6:Int),Fr 369 [] [(11,iv (ln p0)),(12,iv x7),(20,sv a2 a0.1 a4),(22,pb a1),(31,iv aE),(32,sv aG aC.1 aL),(299,iv (ln a0.1)),(300,iv a6)] a∧St w0 [arr 48 1 (fN 1) cC bW.1.length cS dK,arr 43 1 (fN 1) bL b2.1.length bN dD,arr 48 1 (fN 1) aG aC.1.length aL d5,A9 84 85 80 (vF Value.bool) aO aP.length aY c0 bZ,blk a1 92 #[sv aO aP aY],arr 48 1 (fN 1) a2 a0.1.length a4 aU,fz w0 ν69438] w∧C4 F p0 x7 a0 aP aE aC n_ a6=some res) F ⟨0,hF.sub kr,St.pick [0,1,2,3,4,5,6] (by decide) hS,h⟩ ?_
      rintro nk5 a w ⟨a6,hF,hS,h⟩
      rcases nk5 with _|nk5
      ·cases (show (none:Option Bool)=some res from h)
      obtain ⟨k5,hk5⟩:∃k,k=C4 F p0 x7 a0 aP aE aC nk5:=⟨_,rfl⟩
      replace h:Cm F p0 x7 a0 aP aE aC k5 a6=some res:=by rw [hk5];exact h
      rw [Cm] at h
      refine esr ?_
      refine rn 1 1 [(11,iv (ln p0)),(12,iv x7),(20,sv a2 a0.1 a4),(22,pb a1),(31,iv aE),(32,sv aG aC.1 aL),(299,iv (ln a0.1)),(300,iv a6),(301,.bool (decide (a6<(ln a0.1))))] hF fun a hF=>?_
      refine wfn rfl ?_
      refine Ba ?_
      refine Ar hF rfl (fun hc=>?_) (fun hc=>?_)
      ·replace h:=Al h hc
       refine wpIn_skip (A4 ?_)
       refine Eb (fun a w=>Fr 369 [] [(11,iv (ln p0)),(12,iv x7),(20,sv a2 a0.1 a4),(22,pb a1),(31,iv aE),(32,sv aG aC.1 aL),(299,iv (ln a0.1)),(300,iv a6)] a∧St w0 [arr 48 1 (fN 1) cC bW.1.length cS dK,arr 43 1 (fN 1) bL b2.1.length bN dD,arr 48 1 (fN 1) aG aC.1.length aL d5,A9 84 85 80 (vF Value.bool) aO aP.length aY c0 bZ,blk a1 92 #[sv aO aP aY],arr 48 1 (fN 1) a2 a0.1.length a4 aU,fz w0 ν69438] w∧Dq a6 k5=some res) ?_ ?_
       ·skip
        refine wpIn_block ?_
        refine esr ?_
        refine rn 2 2 [(11,iv (ln p0)),(12,iv x7),(20,sv a2 a0.1 a4),(22,pb a1),(31,iv aE),(32,sv aG aC.1 aL),(37,iv a6),(299,iv (ln a0.1)),(300,iv a6)] hF fun a hF=>?_
        refine wfn rfl ?_
        refine Ba ?_
        refine Ba ?_
        replace h:=A5 h
        obtain ⟨aW,m4,h⟩:=h
        rcases Bool.eq_false_or_eq_true (((ln aW) != x7)) with cG|cG
        ·replace h:=Al h cG
         obtain ⟨sQ,kK,oN⟩:=Ae aV m4
         obtain ⟨nH,nO,tF,rfl,tQ⟩:=oN
         refine L8 (obs:=[.run [] (Instr.indexAt 54 (sv a2 a0.1 a4) (iv a6)) (.pointer (some (A3 a2 a6 1))),.run [] (Instr.loadAt 48 (.pointer (some (A3 a2 a6 1)))) (sv nH aW nO),.run [⟨310,false,((ln aW) != x7)⟩] (Instr.indexAt 54 (sv a2 a0.1 a4) (iv a6)) (pb 0),.run [⟨310,false,((ln aW) != x7)⟩] (Instr.loadAt 48 (pb 0)) (.slice none 0 0),.run [⟨310,false,((ln aW) != x7)⟩] (binOp .sub 3 (iv a6) (iv aE)) (iv 0),.run [⟨310,false,((ln aW) != x7)⟩] (binOp .add 3 (iv 0) (iv (ln p0))) (iv 0),.run [⟨310,false,((ln aW) != x7)⟩] (binOp .rem 3 (iv 0) (iv (ln p0))) (iv 0),.run [⟨310,false,((ln aW) != x7)⟩] (Instr.indexAt 54 (sv aG aC.1 aL) (iv 0)) (pb 0),.run [⟨310,false,((ln aW) != x7)⟩] (Instr.loadAt 48 (pb 0)) (.slice none 0 0),.call [⟨310,false,((ln aW) != x7)⟩] 26 #[.slice none 0 0,.slice none 0 0] (.bool false)]) 25 [(11,iv (ln p0)),(12,iv x7),(20,sv a2 a0.1 a4),(22,pb a1),(31,iv aE),(32,sv aG aC.1 aL),(37,iv a6),(299,iv (ln a0.1)),(300,iv a6),(327,.bool (bif ((ln aW) != x7) then true else true))] kr hF kr (A0 (A8 (hS.arr (i:=5) rfl) kr (fun _=>kK)) (A0 (An (i:=a6) 0 (As 1) (fun _ hd=>((hS.later hd).arr (i:=5) rfl)) kr (fun _=>kK) rfl) (A0 (E7 (Ag (i:=0) (c:=⟨310,false,((ln aW) != x7)⟩) rfl (show (((ln aW) != x7)==false)=false by rw [cG];rfl))) (A0 (E7 (Ag (i:=0) (c:=⟨310,false,((ln aW) != x7)⟩) rfl (show (((ln aW) != x7)==false)=false by rw [cG];rfl))) (A0 (E7 (Ag (i:=0) (c:=⟨310,false,((ln aW) != x7)⟩) rfl (show (((ln aW) != x7)==false)=false by rw [cG];rfl))) (A0 (E7 (Ag (i:=0) (c:=⟨310,false,((ln aW) != x7)⟩) rfl (show (((ln aW) != x7)==false)=false by rw [cG];rfl))) (A0 (E7 (Ag (i:=0) (c:=⟨310,false,((ln aW) != x7)⟩) rfl (show (((ln aW) != x7)==false)=false by rw [cG];rfl))) (A0 (E7 (Ag (i:=0) (c:=⟨310,false,((ln aW) != x7)⟩) rfl (show (((ln aW) != x7)==false)=false by rw [cG];rfl))) (A0 (E7 (Ag (i:=0) (c:=⟨310,false,((ln aW) != x7)⟩) rfl (show (((ln aW) != x7)==false)=false by rw [cG];rfl))) (A0 (A50 (Ag (i:=0) (c:=⟨310,false,((ln aW) != x7)⟩) rfl (show (((ln aW) != x7)==false)=false by rw [cG];rfl))) Af)))))))))) ⟨kr⟩ fun a w hF hx=>?_
         replace hS:=hS.later hx
         refine wfn rfl ?_
         refine Ar hF rfl (fun hc=>?_) (fun hc=>?_)
         ·replace h:=Al h hc
          refine esr ?_
          refine rn 1 1 [(10,.bool false)] hF fun a hF=>?_
          refine wfn rfl ?_
          refine wpIn_ret (Ac<|Am<|Ac<|Ac<|Am<|Ac<|B6 [.tmp 10] [.bool false] hF rfl ⟨rfl,trivial⟩ ?_)
          have hr_:=Option.some.inj h
          subst hr_
          exact ⟨rfl,hS.ext⟩
         ·replace h:=Ak h hc
          refine wpIn_skip (A4 ?_)
          refine esr ?_
          refine rn 2 2 [(11,iv (ln p0)),(12,iv x7),(20,sv a2 a0.1 a4),(22,pb a1),(31,iv aE),(32,sv aG aC.1 aL),(37,iv a6),(299,iv (ln a0.1)),(300,iv a6),(328,iv x7),(329,iv 0)] hF fun a hF=>?_
          refine wfn rfl ?_
          refine wpIn_block ?_
          refine D2 (fun n_ a w=>∃(aR:Int),Fr 369 [] [(11,iv (ln p0)),(12,iv x7),(20,sv a2 a0.1 a4),(22,pb a1),(31,iv aE),(32,sv aG aC.1 aL),(37,iv a6),(299,iv (ln a0.1)),(300,iv a6),(328,iv x7),(329,iv aR)] a∧St w0 [arr 48 1 (fN 1) cC bW.1.length cS dK,arr 43 1 (fN 1) bL b2.1.length bN dD,arr 48 1 (fN 1) aG aC.1.length aL d5,A9 84 85 80 (vF Value.bool) aO aP.length aY c0 bZ,blk a1 92 #[sv aO aP aY],arr 48 1 (fN 1) a2 a0.1.length a4 aU,fz w0 ν69438] w∧G0 F x7 a0 aP a6 k5 n_ aR=some res) F ⟨0,hF.sub kr,St.pick [0,1,2,3,4,5,6] (by decide) hS,h⟩ ?_
          rintro nk7 a w ⟨aR,hF,hS,h⟩
          rcases nk7 with _|nk7
          ·cases (show (none:Option Bool)=some res from h)
          obtain ⟨k7,hk7⟩:∃k,k=G0 F x7 a0 aP a6 k5 nk7:=⟨_,rfl⟩
          replace h:Hl F x7 a0 aP a6 k5 k7 aR=some res:=by rw [hk7];exact h
          rw [Hl] at h
          refine esr ?_
          refine rn 1 1 [(11,iv (ln p0)),(12,iv x7),(20,sv a2 a0.1 a4),(22,pb a1),(31,iv aE),(32,sv aG aC.1 aL),(37,iv a6),(299,iv (ln a0.1)),(300,iv a6),(328,iv x7),(329,iv aR),(330,.bool (decide (aR<x7)))] hF fun a hF=>?_
          refine wfn rfl ?_
          refine Ba ?_
          refine Ar hF rfl (fun hc=>?_) (fun hc=>?_)
          ·replace h:=Al h hc
           refine wpIn_skip (A4 ?_)
           refine Ba ?_
           refine wpIn_block ?_
           refine esr ?_
           refine rn 2 2 [(11,iv (ln p0)),(12,iv x7),(20,sv a2 a0.1 a4),(22,pb a1),(31,iv aE),(32,sv aG aC.1 aL),(37,iv a6),(38,iv aR),(299,iv (ln a0.1)),(300,iv a6),(328,iv x7),(329,iv aR)] hF fun a hF=>?_
           refine wfn rfl ?_
           refine Ba ?_
           replace h:=A5 h
           obtain ⟨gO,m5,h⟩:=h
           replace h:=A5 h
           obtain ⟨dX,m6,h⟩:=h
           replace h:=A5 h
           obtain ⟨aM,mD,h⟩:=h
           replace h:=A5 h
           obtain ⟨gP,m7,h⟩:=h
           replace h:=A5 h
           obtain ⟨aI,gC,h⟩:=h
           rcases Bool.eq_false_or_eq_true ((!decide (aM=aI))) with c1|c1
           ·replace h:=Al h c1
            obtain ⟨sR,kL,oO⟩:=Ae aV m5
            obtain ⟨fB,j5,tG,rfl,h6⟩:=oO
            obtain ⟨sS,kM,oP⟩:=Ae h6.2 m6
            obtain ⟨iK,j6,rfl,o1⟩:=oP
            obtain ⟨fC,j7,l4,lB,jW⟩:=NestOk.getE dO m7
            refine L8 (obs:=[.run [] (Instr.indexAt 54 (sv a2 a0.1 a4) (iv a6)) (.pointer (some (A3 a2 a6 1))),.run [] (Instr.loadAt 48 (.pointer (some (A3 a2 a6 1)))) (sv fB gO j5),.run [] (Instr.indexAt 48 (sv fB gO j5) (iv aR)) (.pointer (some (A3 fB aR 1))),.run [] (Instr.loadAt 43 (.pointer (some (A3 fB aR 1)))) (sv iK dX j6),.call [] 40 #[sv iK dX j6] (.agg (vF Value.bool aM).toArray),.run [] (Instr.loadAt 92 (pb a1)) (sv aO aP aY),.run [] (Instr.indexAt 92 (sv aO aP aY) (iv a6)) (.pointer (some (A3 aO a6 1))),.run [] (Instr.loadAt 84 (.pointer (some (A3 aO a6 1)))) (sv fC gP j7),.run [] (Instr.indexAt 84 (sv fC gP j7) (iv aR)) (.pointer (some (A3 fC aR 80))),.run [] (Instr.loadAt 85 (.pointer (some (A3 fC aR 80)))) (.agg (vF Value.bool aI).toArray),.run [] (eqS .neq 85 (vF Value.bool aM).toArray (vF Value.bool aI).toArray) (.bool (!decide (aM=aI))),.run [⟨348,false,(!decide (aM=aI))⟩] (Instr.indexAt 54 (sv a2 a0.1 a4) (iv a6)) (pb 0),.run [⟨348,false,(!decide (aM=aI))⟩] (Instr.loadAt 48 (pb 0)) (.slice none 0 0),.run [⟨348,false,(!decide (aM=aI))⟩] (Instr.indexAt 48 (.slice none 0 0) (iv aR)) (pb 0),.run [⟨348,false,(!decide (aM=aI))⟩] (Instr.loadAt 43 (pb 0)) (.slice none 0 0),.run [⟨348,false,(!decide (aM=aI))⟩] (Instr.loadAt 92 (pb a1)) (.slice none 0 0),.run [⟨348,false,(!decide (aM=aI))⟩] (Instr.indexAt 92 (.slice none 0 0) (iv a6)) (pb 0),.run [⟨348,false,(!decide (aM=aI))⟩] (Instr.loadAt 84 (pb 0)) (.slice none 0 0),.run [⟨348,false,(!decide (aM=aI))⟩] (Instr.indexAt 84 (.slice none 0 0) (iv aR)) (pb 0),.run [⟨348,false,(!decide (aM=aI))⟩] (Instr.loadAt 85 (pb 0)) (.agg (vF Value.bool (default:A7 Bool 80)).toArray),.call [⟨348,false,(!decide (aM=aI))⟩] 42 #[.slice none 0 0,.agg (vF Value.bool (default:A7 Bool 80)).toArray] (.bool false)]) 34 [(11,iv (ln p0)),(12,iv x7),(20,sv a2 a0.1 a4),(22,pb a1),(31,iv aE),(32,sv aG aC.1 aL),(37,iv a6),(299,iv (ln a0.1)),(300,iv a6),(328,iv x7),(329,iv aR),(365,.bool (bif (!decide (aM=aI)) then true else true))] kr hF kr (A0 (A8 (hS.arr (i:=5) rfl) kr (fun _=>kL)) (A0 (An (i:=a6) 0 (As 1) (fun _ hd=>((hS.later hd).arr (i:=5) rfl)) kr (fun _=>kL) rfl) (A0 (A8 (h6.at (hS.frz (i:=6) rfl hlow)) kr (fun _=>kM)) (A0 (An (i:=aR) 0 (As 1) (fun _ hd=>(h6.at ((hS.later hd).frz (i:=6) rfl hlow))) kr (fun _=>kM) rfl) (A0 (show Ob.ok _ Ext _ _ from fun hk w2 hd=>Hx F dX _ ((fun _=>mD) hk) _ w2 (Aj w2) (o1.mono (FrzAt.le_mem ((hS.later hd).frz (i:=6) rfl hlow)))) (A0 (ob1 kr (fun _ hd=>(hS.later hd).cell (i:=4) (j:=0) rfl rfl)) (A0 (A8 (Ao (hS.res (i:=3) rfl)) kr (fun _=>l4)) (A0 (An (i:=a6) 0 C6 (fun _ hd=>(Ao ((hS.later hd).res (i:=3) rfl))) kr (fun _=>l4) rfl) (A0 (A8 (Bb (hS.res (i:=3) rfl) lB jW) kr (fun _=>gC)) (A0 (Dx (m:=80) (i:=aR) (us:=vF Value.bool aI) 0 (C2 Value.bool) (fun _ hd=>(Bb ((hS.later hd).res (i:=3) rfl) lB jW)) kr (fun _=>gC) ⟨C2 _ _,Gv _ _⟩) (A0 (Sd (e:=4) kr kr kr kr kr) (A0 (E7 (Ag (i:=0) (c:=⟨348,false,(!decide (aM=aI))⟩) rfl (show ((!decide (aM=aI))==false)=false by rw [c1];rfl))) (A0 (E7 (Ag (i:=0) (c:=⟨348,false,(!decide (aM=aI))⟩) rfl (show ((!decide (aM=aI))==false)=false by rw [c1];rfl))) (A0 (E7 (Ag (i:=0) (c:=⟨348,false,(!decide (aM=aI))⟩) rfl (show ((!decide (aM=aI))==false)=false by rw [c1];rfl))) (A0 (E7 (Ag (i:=0) (c:=⟨348,false,(!decide (aM=aI))⟩) rfl (show ((!decide (aM=aI))==false)=false by rw [c1];rfl))) (A0 (E7 (Ag (i:=0) (c:=⟨348,false,(!decide (aM=aI))⟩) rfl (show ((!decide (aM=aI))==false)=false by rw [c1];rfl))) (A0 (E7 (Ag (i:=0) (c:=⟨348,false,(!decide (aM=aI))⟩) rfl (show ((!decide (aM=aI))==false)=false by rw [c1];rfl))) (A0 (E7 (Ag (i:=0) (c:=⟨348,false,(!decide (aM=aI))⟩) rfl (show ((!decide (aM=aI))==false)=false by rw [c1];rfl))) (A0 (E7 (Ag (i:=0) (c:=⟨348,false,(!decide (aM=aI))⟩) rfl (show ((!decide (aM=aI))==false)=false by rw [c1];rfl))) (A0 (E7 (Ag (i:=0) (c:=⟨348,false,(!decide (aM=aI))⟩) rfl (show ((!decide (aM=aI))==false)=false by rw [c1];rfl))) (A0 (A50 (Ag (i:=0) (c:=⟨348,false,(!decide (aM=aI))⟩) rfl (show ((!decide (aM=aI))==false)=false by rw [c1];rfl))) Af))))))))))))))))))))) ⟨kr⟩ fun a w hF hx=>?_
            replace hS:=hS.later hx
            refine wfn rfl ?_
            refine Ar hF rfl (fun hc=>?_) (fun hc=>?_)
            ·replace h:=Al h hc
             refine esr ?_
             refine rn 1 1 [(10,.bool false)] hF fun a hF=>?_
             refine wfn rfl ?_
             refine wpIn_ret (Am<|Ac<|Ac<|Am<|Am<|Ac<|Ac<|Am<|Ac<|B6 [.tmp 10] [.bool false] hF rfl ⟨rfl,trivial⟩ ?_)
             have hr_:=Option.some.inj h
             subst hr_
             exact ⟨rfl,hS.ext⟩
            ·replace h:=Ak h hc
             refine wpIn_skip (Ab<|A4<|?_)
             refine WI.region ?_
             replace h:=A5 h
             obtain ⟨iA,rD,h⟩:=h
             refine rno 2 [.run [] (binOp .add 3 (iv aR) (iv 1)) (iv iA)] 2 [(11,iv (ln p0)),(12,iv x7),(20,sv a2 a0.1 a4),(22,pb a1),(31,iv aE),(32,sv aG aC.1 aL),(37,iv a6),(299,iv (ln a0.1)),(300,iv a6),(328,iv x7),(329,iv iA)] hF (A0 (Bg (fun _=>rD)) Af) fun a hF=>?_
             refine wfn rfl ?_
             rw [hk7] at h
             exact ⟨nk7,Nat.lt_succ_self _,iA,hF.sub kr,St.pick [0,1,2,3,4,5,6] (by decide) hS,h⟩
           ·replace h:=Ak h c1
            obtain ⟨sT,kN,oQ⟩:=Ae aV m5
            obtain ⟨fD,j8,tH,rfl,h7⟩:=oQ
            obtain ⟨sU,kO,oR⟩:=Ae h7.2 m6
            obtain ⟨iL,j9,rfl,o2⟩:=oR
            obtain ⟨fE,jA,l5,lC,jX⟩:=NestOk.getE dO m7
            replace h:=A5 h
            obtain ⟨mQ,qI,h⟩:=h
            obtain ⟨sV,kP,oS⟩:=Ae aV qI
            obtain ⟨fF,jB,tI,rfl,h8⟩:=oS
            replace h:=A5 h
            obtain ⟨hT,qJ,h⟩:=h
            obtain ⟨sW,kQ,oT⟩:=Ae h8.2 qJ
            obtain ⟨iM,jC,rfl,o3⟩:=oT
            replace h:=A5 h
            obtain ⟨mR,qK,h⟩:=h
            obtain ⟨fG,jD,l6,lD,jY⟩:=NestOk.getE dO qK
            replace h:=A5 h
            obtain ⟨gQ,m8,h⟩:=h
            replace h:=A5 h
            obtain ⟨n9,rT,h⟩:=h
            refine L8 (obs:=[.run [] (Instr.indexAt 54 (sv a2 a0.1 a4) (iv a6)) (.pointer (some (A3 a2 a6 1))),.run [] (Instr.loadAt 48 (.pointer (some (A3 a2 a6 1)))) (sv fD gO j8),.run [] (Instr.indexAt 48 (sv fD gO j8) (iv aR)) (.pointer (some (A3 fD aR 1))),.run [] (Instr.loadAt 43 (.pointer (some (A3 fD aR 1)))) (sv iL dX j9),.call [] 40 #[sv iL dX j9] (.agg (vF Value.bool aM).toArray),.run [] (Instr.loadAt 92 (pb a1)) (sv aO aP aY),.run [] (Instr.indexAt 92 (sv aO aP aY) (iv a6)) (.pointer (some (A3 aO a6 1))),.run [] (Instr.loadAt 84 (.pointer (some (A3 aO a6 1)))) (sv fE gP jA),.run [] (Instr.indexAt 84 (sv fE gP jA) (iv aR)) (.pointer (some (A3 fE aR 80))),.run [] (Instr.loadAt 85 (.pointer (some (A3 fE aR 80)))) (.agg (vF Value.bool aI).toArray),.run [] (eqS .neq 85 (vF Value.bool aM).toArray (vF Value.bool aI).toArray) (.bool (!decide (aM=aI))),.run [⟨348,false,(!decide (aM=aI))⟩] (Instr.indexAt 54 (sv a2 a0.1 a4) (iv a6)) (.pointer (some (A3 a2 a6 1))),.run [⟨348,false,(!decide (aM=aI))⟩] (Instr.loadAt 48 (.pointer (some (A3 a2 a6 1)))) (sv fF mQ jB),.run [⟨348,false,(!decide (aM=aI))⟩] (Instr.indexAt 48 (sv fF mQ jB) (iv aR)) (.pointer (some (A3 fF aR 1))),.run [⟨348,false,(!decide (aM=aI))⟩] (Instr.loadAt 43 (.pointer (some (A3 fF aR 1)))) (sv iM hT jC),.run [⟨348,false,(!decide (aM=aI))⟩] (Instr.loadAt 92 (pb a1)) (sv aO aP aY),.run [⟨348,false,(!decide (aM=aI))⟩] (Instr.indexAt 92 (sv aO aP aY) (iv a6)) (.pointer (some (A3 aO a6 1))),.run [⟨348,false,(!decide (aM=aI))⟩] (Instr.loadAt 84 (.pointer (some (A3 aO a6 1)))) (sv fG mR jD),.run [⟨348,false,(!decide (aM=aI))⟩] (Instr.indexAt 84 (sv fG mR jD) (iv aR)) (.pointer (some (A3 fG aR 80))),.run [⟨348,false,(!decide (aM=aI))⟩] (Instr.loadAt 85 (.pointer (some (A3 fG aR 80)))) (.agg (vF Value.bool gQ).toArray),.call [⟨348,false,(!decide (aM=aI))⟩] 42 #[sv iM hT jC,.agg (vF Value.bool gQ).toArray] (.bool n9)]) 34 [(11,iv (ln p0)),(12,iv x7),(20,sv a2 a0.1 a4),(22,pb a1),(31,iv aE),(32,sv aG aC.1 aL),(37,iv a6),(299,iv (ln a0.1)),(300,iv a6),(328,iv x7),(329,iv aR),(365,.bool (bif (!decide (aM=aI)) then true else (!n9)))] kr hF kr (A0 (A8 (hS.arr (i:=5) rfl) kr (fun _=>kN)) (A0 (An (i:=a6) 0 (As 1) (fun _ hd=>((hS.later hd).arr (i:=5) rfl)) kr (fun _=>kN) rfl) (A0 (A8 (h7.at (hS.frz (i:=6) rfl hlow)) kr (fun _=>kO)) (A0 (An (i:=aR) 0 (As 1) (fun _ hd=>(h7.at ((hS.later hd).frz (i:=6) rfl hlow))) kr (fun _=>kO) rfl) (A0 (show Ob.ok _ Ext _ _ from fun hk w2 hd=>Hx F dX _ ((fun _=>mD) hk) _ w2 (Aj w2) (o2.mono (FrzAt.le_mem ((hS.later hd).frz (i:=6) rfl hlow)))) (A0 (ob1 kr (fun _ hd=>(hS.later hd).cell (i:=4) (j:=0) rfl rfl)) (A0 (A8 (Ao (hS.res (i:=3) rfl)) kr (fun _=>l5)) (A0 (An (i:=a6) 0 C6 (fun _ hd=>(Ao ((hS.later hd).res (i:=3) rfl))) kr (fun _=>l5) rfl) (A0 (A8 (Bb (hS.res (i:=3) rfl) lC jX) kr (fun _=>gC)) (A0 (Dx (m:=80) (i:=aR) (us:=vF Value.bool aI) 0 (C2 Value.bool) (fun _ hd=>(Bb ((hS.later hd).res (i:=3) rfl) lC jX)) kr (fun _=>gC) ⟨C2 _ _,Gv _ _⟩) (A0 (Sd (e:=4) kr kr kr kr kr) (A0 (A8 (hS.arr (i:=5) rfl) kr (fun _=>kP)) (A0 (An (i:=a6) 0 (As 1) (fun _ hd=>((hS.later hd).arr (i:=5) rfl)) kr (fun _=>kP) rfl) (A0 (A8 (h8.at (hS.frz (i:=6) rfl hlow)) kr (fun _=>kQ)) (A0 (An (i:=aR) 0 (As 1) (fun _ hd=>(h8.at ((hS.later hd).frz (i:=6) rfl hlow))) kr (fun _=>kQ) rfl) (A0 (ob1 kr (fun _ hd=>(hS.later hd).cell (i:=4) (j:=0) rfl rfl)) (A0 (A8 (Ao (hS.res (i:=3) rfl)) kr (fun _=>l6)) (A0 (An (i:=a6) 0 C6 (fun _ hd=>(Ao ((hS.later hd).res (i:=3) rfl))) kr (fun _=>l6) rfl) (A0 (A8 (Bb (hS.res (i:=3) rfl) lD jY) kr (fun _=>m8)) (A0 (Dx (m:=80) (i:=aR) (us:=vF Value.bool gQ) 0 (C2 Value.bool) (fun _ hd=>(Bb ((hS.later hd).res (i:=3) rfl) lD jY)) kr (fun _=>m8) ⟨C2 _ _,Gv _ _⟩) (A0 (show Ob.ok _ Ext _ _ from fun hk w2 hd=>Nf F hT gQ _ ((fun _=>rT) hk) _ w2 (Aj w2) (o3.mono (FrzAt.le_mem ((hS.later hd).frz (i:=6) rfl hlow)))) Af))))))))))))))))))))) ⟨kr⟩ fun a w hF hx=>?_
            replace hS:=hS.later hx
            refine wfn rfl ?_
            refine Ar hF rfl (fun hc=>?_) (fun hc=>?_)
            ·replace h:=Al h hc
             refine esr ?_
             refine rn 1 1 [(10,.bool false)] hF fun a hF=>?_
             refine wfn rfl ?_
             refine wpIn_ret (Am<|Ac<|Ac<|Am<|Am<|Ac<|Ac<|Am<|Ac<|B6 [.tmp 10] [.bool false] hF rfl ⟨rfl,trivial⟩ ?_)
             have hr_:=Option.some.inj h
             subst hr_
             exact ⟨rfl,hS.ext⟩
            ·replace h:=Ak h hc
             refine wpIn_skip (Ab<|A4<|?_)
             refine WI.region ?_
             replace h:=A5 h
             obtain ⟨iB,rE,h⟩:=h
             refine rno 2 [.run [] (binOp .add 3 (iv aR) (iv 1)) (iv iB)] 2 [(11,iv (ln p0)),(12,iv x7),(20,sv a2 a0.1 a4),(22,pb a1),(31,iv aE),(32,sv aG aC.1 aL),(37,iv a6),(299,iv (ln a0.1)),(300,iv a6),(328,iv x7),(329,iv iB)] hF (A0 (Bg (fun _=>rE)) Af) fun a hF=>?_
             refine wfn rfl ?_
             rw [hk7] at h
             exact ⟨nk7,Nat.lt_succ_self _,iB,hF.sub kr,St.pick [0,1,2,3,4,5,6] (by decide) hS,h⟩
          ·replace h:=Ak h hc
           refine wpIn_exit (A6<|A6<|Ai<|Ab<|A4<|?_)
           exact ⟨hF.sub kr,St.pick [0,1,2,3,4,5,6] (by decide) hS,h⟩
        ·replace h:=Ak h cG
         obtain ⟨sX,kR,oU⟩:=Ae aV m4
         obtain ⟨nI,nP,tJ,rfl,tR⟩:=oU
         replace h:=A5 h
         obtain ⟨hU,qL,h⟩:=h
         obtain ⟨sY,kS,oV⟩:=Ae aV qL
         obtain ⟨iN,jE,tK,rfl,o4⟩:=oV
         replace h:=A5 h
         obtain ⟨n6,rF,h⟩:=h
         replace h:=A5 h
         obtain ⟨n7,rG,h⟩:=h
         replace h:=A5 h
         obtain ⟨eW,rH,h⟩:=h
         replace h:=A5 h
         obtain ⟨hV,qM,h⟩:=h
         obtain ⟨sZ,kT,oW⟩:=Ae eP qM
         obtain ⟨iO,jF,tL,rfl,o5⟩:=oW
         replace h:=A5 h
         obtain ⟨nA,rU,h⟩:=h
         refine L8 (obs:=[.run [] (Instr.indexAt 54 (sv a2 a0.1 a4) (iv a6)) (.pointer (some (A3 a2 a6 1))),.run [] (Instr.loadAt 48 (.pointer (some (A3 a2 a6 1)))) (sv nI aW nP),.run [⟨310,false,((ln aW) != x7)⟩] (Instr.indexAt 54 (sv a2 a0.1 a4) (iv a6)) (.pointer (some (A3 a2 a6 1))),.run [⟨310,false,((ln aW) != x7)⟩] (Instr.loadAt 48 (.pointer (some (A3 a2 a6 1)))) (sv iN hU jE),.run [⟨310,false,((ln aW) != x7)⟩] (binOp .sub 3 (iv a6) (iv aE)) (iv n6),.run [⟨310,false,((ln aW) != x7)⟩] (binOp .add 3 (iv n6) (iv (ln p0))) (iv n7),.run [⟨310,false,((ln aW) != x7)⟩] (binOp .rem 3 (iv n7) (iv (ln p0))) (iv eW),.run [⟨310,false,((ln aW) != x7)⟩] (Instr.indexAt 54 (sv aG aC.1 aL) (iv eW)) (.pointer (some (A3 aG eW 1))),.run [⟨310,false,((ln aW) != x7)⟩] (Instr.loadAt 48 (.pointer (some (A3 aG eW 1)))) (sv iO hV jF),.call [⟨310,false,((ln aW) != x7)⟩] 26 #[sv iN hU jE,sv iO hV jF] (.bool nA)]) 25 [(11,iv (ln p0)),(12,iv x7),(20,sv a2 a0.1 a4),(22,pb a1),(31,iv aE),(32,sv aG aC.1 aL),(37,iv a6),(299,iv (ln a0.1)),(300,iv a6),(327,.bool (bif ((ln aW) != x7) then true else (!nA)))] kr hF kr (A0 (A8 (hS.arr (i:=5) rfl) kr (fun _=>kR)) (A0 (An (i:=a6) 0 (As 1) (fun _ hd=>((hS.later hd).arr (i:=5) rfl)) kr (fun _=>kR) rfl) (A0 (A8 (hS.arr (i:=5) rfl) kr (fun _=>kS)) (A0 (An (i:=a6) 0 (As 1) (fun _ hd=>((hS.later hd).arr (i:=5) rfl)) kr (fun _=>kS) rfl) (A0 (Dl (fun _=>rF)) (A0 (Bg (fun _=>rG)) (A0 (Lh (fun _=>rH)) (A0 (A8 (hS.arr (i:=2) rfl) kr (fun _=>kT)) (A0 (An (i:=eW) 0 (As 1) (fun _ hd=>((hS.later hd).arr (i:=2) rfl)) kr (fun _=>kT) rfl) (A0 (show Ob.ok _ Ext _ _ from fun hk w2 hd=>Pv F hU hV _ ((fun _=>rU) hk) _ w2 (Aj w2) (o4.mono Rp43.mono (FrzAt.le_mem ((hS.later hd).frz (i:=6) rfl hlow))) (o5.mono Rp43.mono (FrzAt.le_mem ((hS.later hd).frz (i:=6) rfl hlow)))) Af)))))))))) ⟨kr⟩ fun a w hF hx=>?_
         replace hS:=hS.later hx
         refine wfn rfl ?_
         refine Ar hF rfl (fun hc=>?_) (fun hc=>?_)
         ·replace h:=Al h hc
          refine esr ?_
          refine rn 1 1 [(10,.bool false)] hF fun a hF=>?_
          refine wfn rfl ?_
          refine wpIn_ret (Ac<|Am<|Ac<|Ac<|Am<|Ac<|B6 [.tmp 10] [.bool false] hF rfl ⟨rfl,trivial⟩ ?_)
          have hr_:=Option.some.inj h
          subst hr_
          exact ⟨rfl,hS.ext⟩
         ·replace h:=Ak h hc
          refine wpIn_skip (A4 ?_)
          refine esr ?_
          refine rn 2 2 [(11,iv (ln p0)),(12,iv x7),(20,sv a2 a0.1 a4),(22,pb a1),(31,iv aE),(32,sv aG aC.1 aL),(37,iv a6),(299,iv (ln a0.1)),(300,iv a6),(328,iv x7),(329,iv 0)] hF fun a hF=>?_
          refine wfn rfl ?_
          refine wpIn_block ?_
          refine D2 (fun n_ a w=>∃(aS:Int),Fr 369 [] [(11,iv (ln p0)),(12,iv x7),(20,sv a2 a0.1 a4),(22,pb a1),(31,iv aE),(32,sv aG aC.1 aL),(37,iv a6),(299,iv (ln a0.1)),(300,iv a6),(328,iv x7),(329,iv aS)] a∧St w0 [arr 48 1 (fN 1) cC bW.1.length cS dK,arr 43 1 (fN 1) bL b2.1.length bN dD,arr 48 1 (fN 1) aG aC.1.length aL d5,A9 84 85 80 (vF Value.bool) aO aP.length aY c0 bZ,blk a1 92 #[sv aO aP aY],arr 48 1 (fN 1) a2 a0.1.length a4 aU,fz w0 ν69438] w∧Cp F x7 a0 aP a6 k5 n_ aS=some res) F ⟨0,hF.sub kr,St.pick [0,1,2,3,4,5,6] (by decide) hS,h⟩ ?_
          rintro nk8 a w ⟨aS,hF,hS,h⟩
          rcases nk8 with _|nk8
          ·cases (show (none:Option Bool)=some res from h)
          obtain ⟨k8,hk8⟩:∃k,k=Cp F x7 a0 aP a6 k5 nk8:=⟨_,rfl⟩
          replace h:Cn F x7 a0 aP a6 k5 k8 aS=some res:=by rw [hk8];exact h
          rw [Cn] at h
          refine esr ?_
          refine rn 1 1 [(11,iv (ln p0)),(12,iv x7),(20,sv a2 a0.1 a4),(22,pb a1),(31,iv aE),(32,sv aG aC.1 aL),(37,iv a6),(299,iv (ln a0.1)),(300,iv a6),(328,iv x7),(329,iv aS),(330,.bool (decide (aS<x7)))] hF fun a hF=>?_
          refine wfn rfl ?_
          refine Ba ?_
          refine Ar hF rfl (fun hc=>?_) (fun hc=>?_)
          ·replace h:=Al h hc
           refine wpIn_skip (A4 ?_)
           refine Ba ?_
           refine wpIn_block ?_
           refine esr ?_
           refine rn 2 2 [(11,iv (ln p0)),(12,iv x7),(20,sv a2 a0.1 a4),(22,pb a1),(31,iv aE),(32,sv aG aC.1 aL),(37,iv a6),(38,iv aS),(299,iv (ln a0.1)),(300,iv a6),(328,iv x7),(329,iv aS)] hF fun a hF=>?_
           refine wfn rfl ?_
           refine Ba ?_
           replace h:=A5 h
           obtain ⟨gR,m9,h⟩:=h
           replace h:=A5 h
           obtain ⟨dY,mA,h⟩:=h
           replace h:=A5 h
           obtain ⟨aN,mE,h⟩:=h
           replace h:=A5 h
           obtain ⟨gS,mB,h⟩:=h
           replace h:=A5 h
           obtain ⟨aJ,gD,h⟩:=h
           rcases Bool.eq_false_or_eq_true ((!decide (aN=aJ))) with c2|c2
           ·replace h:=Al h c2
            obtain ⟨t0,kU,oX⟩:=Ae aV m9
            obtain ⟨fH,jG,tM,rfl,h9⟩:=oX
            obtain ⟨t1,kV,oY⟩:=Ae h9.2 mA
            obtain ⟨iP,jH,rfl,o6⟩:=oY
            obtain ⟨fI,jI,l7,lE,jZ⟩:=NestOk.getE dO mB
            refine L8 (obs:=[.run [] (Instr.indexAt 54 (sv a2 a0.1 a4) (iv a6)) (.pointer (some (A3 a2 a6 1))),.run [] (Instr.loadAt 48 (.pointer (some (A3 a2 a6 1)))) (sv fH gR jG),.run [] (Instr.indexAt 48 (sv fH gR jG) (iv aS)) (.pointer (some (A3 fH aS 1))),.run [] (Instr.loadAt 43 (.pointer (some (A3 fH aS 1)))) (sv iP dY jH),.call [] 40 #[sv iP dY jH] (.agg (vF Value.bool aN).toArray),.run [] (Instr.loadAt 92 (pb a1)) (sv aO aP aY),.run [] (Instr.indexAt 92 (sv aO aP aY) (iv a6)) (.pointer (some (A3 aO a6 1))),.run [] (Instr.loadAt 84 (.pointer (some (A3 aO a6 1)))) (sv fI gS jI),.run [] (Instr.indexAt 84 (sv fI gS jI) (iv aS)) (.pointer (some (A3 fI aS 80))),.run [] (Instr.loadAt 85 (.pointer (some (A3 fI aS 80)))) (.agg (vF Value.bool aJ).toArray),.run [] (eqS .neq 85 (vF Value.bool aN).toArray (vF Value.bool aJ).toArray) (.bool (!decide (aN=aJ))),.run [⟨348,false,(!decide (aN=aJ))⟩] (Instr.indexAt 54 (sv a2 a0.1 a4) (iv a6)) (pb 0),.run [⟨348,false,(!decide (aN=aJ))⟩] (Instr.loadAt 48 (pb 0)) (.slice none 0 0),.run [⟨348,false,(!decide (aN=aJ))⟩] (Instr.indexAt 48 (.slice none 0 0) (iv aS)) (pb 0),.run [⟨348,false,(!decide (aN=aJ))⟩] (Instr.loadAt 43 (pb 0)) (.slice none 0 0),.run [⟨348,false,(!decide (aN=aJ))⟩] (Instr.loadAt 92 (pb a1)) (.slice none 0 0),.run [⟨348,false,(!decide (aN=aJ))⟩] (Instr.indexAt 92 (.slice none 0 0) (iv a6)) (pb 0),.run [⟨348,false,(!decide (aN=aJ))⟩] (Instr.loadAt 84 (pb 0)) (.slice none 0 0),.run [⟨348,false,(!decide (aN=aJ))⟩] (Instr.indexAt 84 (.slice none 0 0) (iv aS)) (pb 0),.run [⟨348,false,(!decide (aN=aJ))⟩] (Instr.loadAt 85 (pb 0)) (.agg (vF Value.bool (default:A7 Bool 80)).toArray),.call [⟨348,false,(!decide (aN=aJ))⟩] 42 #[.slice none 0 0,.agg (vF Value.bool (default:A7 Bool 80)).toArray] (.bool false)]) 34 [(11,iv (ln p0)),(12,iv x7),(20,sv a2 a0.1 a4),(22,pb a1),(31,iv aE),(32,sv aG aC.1 aL),(37,iv a6),(299,iv (ln a0.1)),(300,iv a6),(328,iv x7),(329,iv aS),(365,.bool (bif (!decide (aN=aJ)) then true else true))] kr hF kr (A0 (A8 (hS.arr (i:=5) rfl) kr (fun _=>kU)) (A0 (An (i:=a6) 0 (As 1) (fun _ hd=>((hS.later hd).arr (i:=5) rfl)) kr (fun _=>kU) rfl) (A0 (A8 (h9.at (hS.frz (i:=6) rfl hlow)) kr (fun _=>kV)) (A0 (An (i:=aS) 0 (As 1) (fun _ hd=>(h9.at ((hS.later hd).frz (i:=6) rfl hlow))) kr (fun _=>kV) rfl) (A0 (show Ob.ok _ Ext _ _ from fun hk w2 hd=>Hx F dY _ ((fun _=>mE) hk) _ w2 (Aj w2) (o6.mono (FrzAt.le_mem ((hS.later hd).frz (i:=6) rfl hlow)))) (A0 (ob1 kr (fun _ hd=>(hS.later hd).cell (i:=4) (j:=0) rfl rfl)) (A0 (A8 (Ao (hS.res (i:=3) rfl)) kr (fun _=>l7)) (A0 (An (i:=a6) 0 C6 (fun _ hd=>(Ao ((hS.later hd).res (i:=3) rfl))) kr (fun _=>l7) rfl) (A0 (A8 (Bb (hS.res (i:=3) rfl) lE jZ) kr (fun _=>gD)) (A0 (Dx (m:=80) (i:=aS) (us:=vF Value.bool aJ) 0 (C2 Value.bool) (fun _ hd=>(Bb ((hS.later hd).res (i:=3) rfl) lE jZ)) kr (fun _=>gD) ⟨C2 _ _,Gv _ _⟩) (A0 (Sd (e:=4) kr kr kr kr kr) (A0 (E7 (Ag (i:=0) (c:=⟨348,false,(!decide (aN=aJ))⟩) rfl (show ((!decide (aN=aJ))==false)=false by rw [c2];rfl))) (A0 (E7 (Ag (i:=0) (c:=⟨348,false,(!decide (aN=aJ))⟩) rfl (show ((!decide (aN=aJ))==false)=false by rw [c2];rfl))) (A0 (E7 (Ag (i:=0) (c:=⟨348,false,(!decide (aN=aJ))⟩) rfl (show ((!decide (aN=aJ))==false)=false by rw [c2];rfl))) (A0 (E7 (Ag (i:=0) (c:=⟨348,false,(!decide (aN=aJ))⟩) rfl (show ((!decide (aN=aJ))==false)=false by rw [c2];rfl))) (A0 (E7 (Ag (i:=0) (c:=⟨348,false,(!decide (aN=aJ))⟩) rfl (show ((!decide (aN=aJ))==false)=false by rw [c2];rfl))) (A0 (E7 (Ag (i:=0) (c:=⟨348,false,(!decide (aN=aJ))⟩) rfl (show ((!decide (aN=aJ))==false)=false by rw [c2];rfl))) (A0 (E7 (Ag (i:=0) (c:=⟨348,false,(!decide (aN=aJ))⟩) rfl (show ((!decide (aN=aJ))==false)=false by rw [c2];rfl))) (A0 (E7 (Ag (i:=0) (c:=⟨348,false,(!decide (aN=aJ))⟩) rfl (show ((!decide (aN=aJ))==false)=false by rw [c2];rfl))) (A0 (E7 (Ag (i:=0) (c:=⟨348,false,(!decide (aN=aJ))⟩) rfl (show ((!decide (aN=aJ))==false)=false by rw [c2];rfl))) (A0 (A50 (Ag (i:=0) (c:=⟨348,false,(!decide (aN=aJ))⟩) rfl (show ((!decide (aN=aJ))==false)=false by rw [c2];rfl))) Af))))))))))))))))))))) ⟨kr⟩ fun a w hF hx=>?_
            replace hS:=hS.later hx
            refine wfn rfl ?_
            refine Ar hF rfl (fun hc=>?_) (fun hc=>?_)
            ·replace h:=Al h hc
             refine esr ?_
             refine rn 1 1 [(10,.bool false)] hF fun a hF=>?_
             refine wfn rfl ?_
             refine wpIn_ret (Am<|Ac<|Ac<|Am<|Am<|Ac<|Ac<|Am<|Ac<|B6 [.tmp 10] [.bool false] hF rfl ⟨rfl,trivial⟩ ?_)
             have hr_:=Option.some.inj h
             subst hr_
             exact ⟨rfl,hS.ext⟩
            ·replace h:=Ak h hc
             refine wpIn_skip (Ab<|A4<|?_)
             refine WI.region ?_
             replace h:=A5 h
             obtain ⟨iC,rI,h⟩:=h
             refine rno 2 [.run [] (binOp .add 3 (iv aS) (iv 1)) (iv iC)] 2 [(11,iv (ln p0)),(12,iv x7),(20,sv a2 a0.1 a4),(22,pb a1),(31,iv aE),(32,sv aG aC.1 aL),(37,iv a6),(299,iv (ln a0.1)),(300,iv a6),(328,iv x7),(329,iv iC)] hF (A0 (Bg (fun _=>rI)) Af) fun a hF=>?_
             refine wfn rfl ?_
             rw [hk8] at h
             exact ⟨nk8,Nat.lt_succ_self _,iC,hF.sub kr,St.pick [0,1,2,3,4,5,6] (by decide) hS,h⟩
           ·replace h:=Ak h c2
            obtain ⟨t2,kW,oZ⟩:=Ae aV m9
            obtain ⟨fJ,jJ,tN,rfl,hA⟩:=oZ
            obtain ⟨t3,kX,p5⟩:=Ae hA.2 mA
            obtain ⟨iQ,jK,rfl,o7⟩:=p5
            obtain ⟨fL,jL,l8,lF,k0⟩:=NestOk.getE dO mB
            replace h:=A5 h
            obtain ⟨mS,qN,h⟩:=h
            obtain ⟨t4,kY,p6⟩:=Ae aV qN
            obtain ⟨fM,jM,tO,rfl,hB⟩:=p6
            replace h:=A5 h
            obtain ⟨hW,qO,h⟩:=h
            obtain ⟨t5,kZ,p7⟩:=Ae hB.2 qO
            obtain ⟨iR,jN,rfl,o8⟩:=p7
            replace h:=A5 h
            obtain ⟨mT,qP,h⟩:=h
            obtain ⟨fO,jO,l9,lG,k1⟩:=NestOk.getE dO qP
            replace h:=A5 h
            obtain ⟨gT,mC,h⟩:=h
            replace h:=A5 h
            obtain ⟨nB,rV,h⟩:=h
            refine L8 (obs:=[.run [] (Instr.indexAt 54 (sv a2 a0.1 a4) (iv a6)) (.pointer (some (A3 a2 a6 1))),.run [] (Instr.loadAt 48 (.pointer (some (A3 a2 a6 1)))) (sv fJ gR jJ),.run [] (Instr.indexAt 48 (sv fJ gR jJ) (iv aS)) (.pointer (some (A3 fJ aS 1))),.run [] (Instr.loadAt 43 (.pointer (some (A3 fJ aS 1)))) (sv iQ dY jK),.call [] 40 #[sv iQ dY jK] (.agg (vF Value.bool aN).toArray),.run [] (Instr.loadAt 92 (pb a1)) (sv aO aP aY),.run [] (Instr.indexAt 92 (sv aO aP aY) (iv a6)) (.pointer (some (A3 aO a6 1))),.run [] (Instr.loadAt 84 (.pointer (some (A3 aO a6 1)))) (sv fL gS jL),.run [] (Instr.indexAt 84 (sv fL gS jL) (iv aS)) (.pointer (some (A3 fL aS 80))),.run [] (Instr.loadAt 85 (.pointer (some (A3 fL aS 80)))) (.agg (vF Value.bool aJ).toArray),.run [] (eqS .neq 85 (vF Value.bool aN).toArray (vF Value.bool aJ).toArray) (.bool (!decide (aN=aJ))),.run [⟨348,false,(!decide (aN=aJ))⟩] (Instr.indexAt 54 (sv a2 a0.1 a4) (iv a6)) (.pointer (some (A3 a2 a6 1))),.run [⟨348,false,(!decide (aN=aJ))⟩] (Instr.loadAt 48 (.pointer (some (A3 a2 a6 1)))) (sv fM mS jM),.run [⟨348,false,(!decide (aN=aJ))⟩] (Instr.indexAt 48 (sv fM mS jM) (iv aS)) (.pointer (some (A3 fM aS 1))),.run [⟨348,false,(!decide (aN=aJ))⟩] (Instr.loadAt 43 (.pointer (some (A3 fM aS 1)))) (sv iR hW jN),.run [⟨348,false,(!decide (aN=aJ))⟩] (Instr.loadAt 92 (pb a1)) (sv aO aP aY),.run [⟨348,false,(!decide (aN=aJ))⟩] (Instr.indexAt 92 (sv aO aP aY) (iv a6)) (.pointer (some (A3 aO a6 1))),.run [⟨348,false,(!decide (aN=aJ))⟩] (Instr.loadAt 84 (.pointer (some (A3 aO a6 1)))) (sv fO mT jO),.run [⟨348,false,(!decide (aN=aJ))⟩] (Instr.indexAt 84 (sv fO mT jO) (iv aS)) (.pointer (some (A3 fO aS 80))),.run [⟨348,false,(!decide (aN=aJ))⟩] (Instr.loadAt 85 (.pointer (some (A3 fO aS 80)))) (.agg (vF Value.bool gT).toArray),.call [⟨348,false,(!decide (aN=aJ))⟩] 42 #[sv iR hW jN,.agg (vF Value.bool gT).toArray] (.bool nB)]) 34 [(11,iv (ln p0)),(12,iv x7),(20,sv a2 a0.1 a4),(22,pb a1),(31,iv aE),(32,sv aG aC.1 aL),(37,iv a6),(299,iv (ln a0.1)),(300,iv a6),(328,iv x7),(329,iv aS),(365,.bool (bif (!decide (aN=aJ)) then true else (!nB)))] kr hF kr (A0 (A8 (hS.arr (i:=5) rfl) kr (fun _=>kW)) (A0 (An (i:=a6) 0 (As 1) (fun _ hd=>((hS.later hd).arr (i:=5) rfl)) kr (fun _=>kW) rfl) (A0 (A8 (hA.at (hS.frz (i:=6) rfl hlow)) kr (fun _=>kX)) (A0 (An (i:=aS) 0 (As 1) (fun _ hd=>(hA.at ((hS.later hd).frz (i:=6) rfl hlow))) kr (fun _=>kX) rfl) (A0 (show Ob.ok _ Ext _ _ from fun hk w2 hd=>Hx F dY _ ((fun _=>mE) hk) _ w2 (Aj w2) (o7.mono (FrzAt.le_mem ((hS.later hd).frz (i:=6) rfl hlow)))) (A0 (ob1 kr (fun _ hd=>(hS.later hd).cell (i:=4) (j:=0) rfl rfl)) (A0 (A8 (Ao (hS.res (i:=3) rfl)) kr (fun _=>l8)) (A0 (An (i:=a6) 0 C6 (fun _ hd=>(Ao ((hS.later hd).res (i:=3) rfl))) kr (fun _=>l8) rfl) (A0 (A8 (Bb (hS.res (i:=3) rfl) lF k0) kr (fun _=>gD)) (A0 (Dx (m:=80) (i:=aS) (us:=vF Value.bool aJ) 0 (C2 Value.bool) (fun _ hd=>(Bb ((hS.later hd).res (i:=3) rfl) lF k0)) kr (fun _=>gD) ⟨C2 _ _,Gv _ _⟩) (A0 (Sd (e:=4) kr kr kr kr kr) (A0 (A8 (hS.arr (i:=5) rfl) kr (fun _=>kY)) (A0 (An (i:=a6) 0 (As 1) (fun _ hd=>((hS.later hd).arr (i:=5) rfl)) kr (fun _=>kY) rfl) (A0 (A8 (hB.at (hS.frz (i:=6) rfl hlow)) kr (fun _=>kZ)) (A0 (An (i:=aS) 0 (As 1) (fun _ hd=>(hB.at ((hS.later hd).frz (i:=6) rfl hlow))) kr (fun _=>kZ) rfl) (A0 (ob1 kr (fun _ hd=>(hS.later hd).cell (i:=4) (j:=0) rfl rfl)) (A0 (A8 (Ao (hS.res (i:=3) rfl)) kr (fun _=>l9)) (A0 (An (i:=a6) 0 C6 (fun _ hd=>(Ao ((hS.later hd).res (i:=3) rfl))) kr (fun _=>l9) rfl) (A0 (A8 (Bb (hS.res (i:=3) rfl) lG k1) kr (fun _=>mC)) (A0 (Dx (m:=80) (i:=aS) (us:=vF Value.bool gT) 0 (C2 Value.bool) (fun _ hd=>(Bb ((hS.later hd).res (i:=3) rfl) lG k1)) kr (fun _=>mC) ⟨C2 _ _,Gv _ _⟩) (A0 (show Ob.ok _ Ext _ _ from fun hk w2 hd=>Nf F hW gT _ ((fun _=>rV) hk) _ w2 (Aj w2) (o8.mono (FrzAt.le_mem ((hS.later hd).frz (i:=6) rfl hlow)))) Af))))))))))))))))))))) ⟨kr⟩ fun a w hF hx=>?_
            replace hS:=hS.later hx
            refine wfn rfl ?_
            refine Ar hF rfl (fun hc=>?_) (fun hc=>?_)
            ·replace h:=Al h hc
             refine esr ?_
             refine rn 1 1 [(10,.bool false)] hF fun a hF=>?_
             refine wfn rfl ?_
             refine wpIn_ret (Am<|Ac<|Ac<|Am<|Am<|Ac<|Ac<|Am<|Ac<|B6 [.tmp 10] [.bool false] hF rfl ⟨rfl,trivial⟩ ?_)
             have hr_:=Option.some.inj h
             subst hr_
             exact ⟨rfl,hS.ext⟩
            ·replace h:=Ak h hc
             refine wpIn_skip (Ab<|A4<|?_)
             refine WI.region ?_
             replace h:=A5 h
             obtain ⟨iD,rJ,h⟩:=h
             refine rno 2 [.run [] (binOp .add 3 (iv aS) (iv 1)) (iv iD)] 2 [(11,iv (ln p0)),(12,iv x7),(20,sv a2 a0.1 a4),(22,pb a1),(31,iv aE),(32,sv aG aC.1 aL),(37,iv a6),(299,iv (ln a0.1)),(300,iv a6),(328,iv x7),(329,iv iD)] hF (A0 (Bg (fun _=>rJ)) Af) fun a hF=>?_
             refine wfn rfl ?_
             rw [hk8] at h
             exact ⟨nk8,Nat.lt_succ_self _,iD,hF.sub kr,St.pick [0,1,2,3,4,5,6] (by decide) hS,h⟩
          ·replace h:=Ak h hc
           refine wpIn_exit (A6<|A6<|Ai<|Ab<|A4<|?_)
           exact ⟨hF.sub kr,St.pick [0,1,2,3,4,5,6] (by decide) hS,h⟩
       rintro a w ⟨hF,hS,h⟩
       rw [Dq] at h
       refine WI.region ?_
       replace h:=A5 h
       obtain ⟨i9,rC,h⟩:=h
       refine rno 2 [.run [] (binOp .add 3 (iv a6) (iv 1)) (iv i9)] 2 [(11,iv (ln p0)),(12,iv x7),(20,sv a2 a0.1 a4),(22,pb a1),(31,iv aE),(32,sv aG aC.1 aL),(299,iv (ln a0.1)),(300,iv i9)] hF (A0 (Bg (fun _=>rC)) Af) fun a hF=>?_
       refine wfn rfl ?_
       rw [hk5] at h
       exact ⟨nk5,Nat.lt_succ_self _,i9,hF.sub kr,St.pick [0,1,2,3,4,5,6] (by decide) hS,h⟩
      ·replace h:=Ak h hc
       refine wpIn_exit (A6<|A6<|Ai<|A4 ?_)
       exact ⟨hF.sub kr,St.pick [0,1,2,3,4,5,6] (by decide) hS,h⟩
     rintro a w ⟨hF,hS,h⟩
     rw [Hm] at h
     refine esr ?_
     refine rx 2 [.call [] 19 #[] (.bool Fg)] 2 [(10,.bool Fg)] hF (A0 (show Ob.ok _ Ext _ _ from fun hk w2 hd=>Nu  _ rfl _ w2 (Aj w2)) Af) fun a w hF hx=>?_
     replace hS:=hS.later hx
     refine wfn rfl ?_
     refine wpIn_ret (B6 [.tmp 10] [.bool Fg] hF rfl ⟨rfl,trivial⟩ ?_)
     have hr_:=Option.some.inj h
     subst hr_
     exact ⟨rfl,hS.ext⟩
end Go.Proofs.Ytbhjgebjojdohaa
