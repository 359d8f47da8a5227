import Derived.Test.YtifbomimeodibaaV6XD
import Derived.Test.YtifbomimeodibaaProg
import Derived.Test.YtifbomimeodibaaV6XW0
import Derived.Test.YtifbomimeodibaaV6XW8
import Derived.Test.YtifbomimeodibaaV6XW13
import Derived.Test.YtifbomimeodibaaV6XW14
namespace Go.Proofs.Ytifbomimeodibaa
open Go Go.RowKit Go.Eng
set_option maxRecDepth 10000
set_option maxHeartbeats 4000000
set_option linter.unusedVariables false
set_option linter.unusedSimpArgs false
theorem Na (F:Nat) (p0:(List law12_Thing)) (p1:Int) (p2:Int) (res:Bool) (h:G0 F p0 p1 p2=some res) (μ:Frz) (w0:World) (hm:FrzAt μ w0) {ad1:Option Addr} {cap2:Nat} {css3:List (List Value)} (hA4:ArrQ μ 6 Rp58 ad1 cap2 css3 p0):Calls Try.prog 6 #[sv ad1 p0 cap2,.int .u32 p1,.int .u32 p2] w0 (fun e w=>e=.returned (.bool res)∧Ext w0 w):=by
 obtain ⟨hlow,hS⟩:=hm.init
 have hext:=Frz.ext_refl w0.heap.size μ
 rw [G0] at h
 refine Ap Try.func6 rfl 146 [(0,sv ad1 p0 cap2),(1,.int .u32 p1),(2,.int .u32 p2)] rfl rfl kr fun a w hw hF=>?_
 replace hS:=hS.cast hw
 clear hw
 refine esr ?_
 refine rn 1 1 [(0,sv ad1 p0 cap2),(1,.int .u32 p1),(2,.int .u32 p2)] hF fun a hF=>?_
 refine wfn rfl ?_
 refine esr ?_
 refine rn 1 1 [(1,.int .u32 p1),(2,.int .u32 p2),(24,sv ad1 p0 cap2)] hF fun a hF=>?_
 replace h:=A5 h
 obtain ⟨y6,hy6,h⟩:=h
 refine SK.wi (Cb (fun v5=>[(1,.int .u32 p1),(2,.int .u32 p2),(25,v5)]) hF kr ⟨kr⟩ (Ts F _ _ hy6 μ w (hS.frz (i:=0) rfl hlow) hA4) (fun _=>⟨kr⟩) ?_)
 rintro v5 w a ⟨ν7,ad9,a2,aP,hx8,rfl,aY,hQ⟩ hF
 replace hext:=Frz.ext_trans hext (Frz.ext_mono hx8 hS.ext.size)
 obtain ⟨hlow,hS⟩:=hS.frzMerge (i:=0) rfl hlow hx8 hQ
 replace hA4:=hA4.mono Rp58.mono hx8.1
 refine rn 5 7 [(1,.int .u32 p1),(2,.int .u32 p2),(7,sv ad9 y6.1 a2),(8,.bool y6.2)] hF fun a hF=>?_
 refine wfn rfl ?_
 refine Ay ?_
 refine esr ?_
 refine rn 2 2 [(1,.int .u32 p1),(2,.int .u32 p2),(7,sv ad9 y6.1 a2),(29,.bool (!y6.2))] hF fun a hF=>?_
 refine wfn rfl ?_
 refine Ar hF rfl (fun hc=>?_) (fun hc=>?_)
 ·replace h:=Am h hc
  refine esr ?_
  replace h:=A5 h
  obtain ⟨b3,bV,h⟩:=h
  refine rx 2 [.call [] 8 #[] (.bool b3)] 2 [(6,.bool b3)] hF (A0 (show Ob.ok _ Ext _ _ from fun hk w2 hd=>Nf F  _ ((fun _=>bV) hk) _ w2 (A7 w2)) Ab) fun a w hF hx=>?_
  replace hS:=hS.later hx
  refine wfn rfl ?_
  refine wpIn_ret (A8<|Ah [.tmp 6] [.bool b3] hF rfl ⟨rfl,trivial⟩ ?_)
  have hr_:=Option.some.inj h
  subst hr_
  exact ⟨rfl,hS.ext⟩
 ·replace h:=Al h hc
  refine wpIn_skip (A1 ?_)
  refine esr ?_
  refine rn 1 1 [(1,.int .u32 p1),(2,.int .u32 p2),(7,sv ad9 y6.1 a2),(32,sv ad9 y6.1 a2)] hF fun a hF=>?_
  replace h:=A5 h
  obtain ⟨a4,bW,h⟩:=h
  refine SK.wi (Cb (fun bD=>[(1,.int .u32 p1),(2,.int .u32 p2),(7,sv ad9 y6.1 a2),(33,bD)]) hF kr ⟨kr⟩ (My F _ _ bW (Br w) w (A7 w) (ArrQ.of_own (hS.arr (i:=0) rfl) aY Rp46.mono (FrzAt.le_mem (hS.frz (i:=1) rfl hlow)))) (fun _=>⟨kr⟩) ?_)
  rintro bD w a ⟨a7,a8,rfl,hQ⟩ hF
  replace hS:=hS.madeL hQ
  refine rn 5 7 [(1,.int .u32 p1),(2,.int .u32 p2),(7,sv ad9 y6.1 a2),(9,sv a7 a4.1 a8),(10,iv a4.2)] hF fun a hF=>?_
  refine wfn rfl ?_
  refine Ay ?_
  refine esr ?_
  refine rn 2 2 [(1,.int .u32 p1),(2,.int .u32 p2),(7,sv ad9 y6.1 a2),(9,sv a7 a4.1 a8),(37,.bool (a4.2 != 0))] hF fun a hF=>?_
  refine wfn rfl ?_
  refine Ar hF rfl (fun hc=>?_) (fun hc=>?_)
  ·replace h:=Am h hc
   refine esr ?_
   refine rn 1 1 [(6,.bool false)] hF fun a hF=>?_
   refine wfn rfl ?_
   refine wpIn_ret (A8<|Ah [.tmp 6] [.bool false] hF rfl ⟨rfl,trivial⟩ ?_)
   have hr_:=Option.some.inj h
   subst hr_
   exact ⟨rfl,hS.ext⟩
  ·replace h:=Al h hc
   refine wpIn_skip (A1 ?_)
   refine esr ?_
   replace h:=A5 h
   obtain ⟨aB,bM,h⟩:=h
   replace h:=A5 h
   obtain ⟨bG,bN,h⟩:=h
   replace h:=A5 h
   obtain ⟨bH,bO,h⟩:=h
   replace h:=A5 h
   obtain ⟨aC,bP,h⟩:=h
   refine rno 8 [.run [] (convert 54 3 (.int .u32 p1)) (iv aB),.run [] (convert 54 3 (.int .u32 p1)) (iv bG),.run [] (convert 54 3 (.int .u32 p2)) (iv bH),.run [] (binOp .add 3 (iv bG) (iv bH)) (iv aC)] 8 [(7,sv ad9 y6.1 a2),(9,sv a7 a4.1 a8),(45,.agg #[iv 0,.string ByteArray.empty,iv aB,iv aC])] hF (A0 (Hd kr kr (fun _=>bM)) (A0 (Hd kr kr (fun _=>bN)) (A0 (Hd kr kr (fun _=>bO)) (A0 (Av (fun _=>bP)) Ab)))) fun a hF=>?_
   refine SK.wi (Bs (t:=63) (fun a3=>[(7,sv ad9 y6.1 a2),(9,sv a7 a4.1 a8),(11,pb a3),(45,.agg #[iv 0,.string ByteArray.empty,iv aB,iv aC])]) #[iv 0,.string ByteArray.empty,iv 0,iv 0] hF hS kr ⟨kr⟩ kr (fun _=>⟨kr⟩) fun a3 w a hF hS=>?_)
   refine SK.wi (Ao (t:=63) [(7,sv ad9 y6.1 a2),(9,sv a7 a4.1 a8),(11,pb a3)] 0 0 (.agg #[iv 0,.string ByteArray.empty,iv aB,iv aC]) #[iv 0,.string ByteArray.empty,iv aB,iv aC] hF hS rfl kr ⟨kr⟩ kr kr kr kr ⟨kr⟩ fun w a hF hS=>?_)
   refine wfn rfl ?_
   refine esr ?_
   refine rno 2 [.run [] (Instr.loadAt 63 (pb a3)) (.agg #[iv 0,.string ByteArray.empty,iv aB,iv aC])] 2 [(7,sv ad9 y6.1 a2),(9,sv a7 a4.1 a8),(11,pb a3),(47,sv a7 a4.1 a8),(48,.agg #[iv 0,.string ByteArray.empty,iv aB,iv aC])] hF (A0 (obN (us:=[iv 0,.string ByteArray.empty,iv aB,iv aC]) kr (fun _ hd=>((hS.at_ hd).blk (i:=0) rfl).cells rfl)) Ab) fun a hF=>?_
   replace h:=A5 h
   obtain ⟨a1,bX,h⟩:=h
   refine SK.wi (Cb (fun bE=>[(7,sv ad9 y6.1 a2),(9,sv a7 a4.1 a8),(11,pb a3),(49,bE)]) hF kr ⟨kr⟩ (Nu F _ _ _ bX (Br w) w (A7 w) (Arr.toM (hS.arrT_ (i:=1) rfl))) (fun _=>⟨kr⟩) ?_)
   rintro bE w a ⟨a5,a6,rfl,hQ⟩ hF
   replace hS:=hS.madeL hQ
   refine rn 5 8 [(7,sv ad9 y6.1 a2),(9,sv a7 a4.1 a8),(10,iv a1.2),(11,pb a3),(12,sv a5 a1.1 a6)] hF fun a hF=>?_
   refine wfn rfl ?_
   refine esr ?_
   refine rn 1 1 [(7,sv ad9 y6.1 a2),(9,sv a7 a4.1 a8),(10,iv a1.2),(11,pb a3),(12,sv a5 a1.1 a6),(13,iv 0)] hF fun a hF=>?_
   refine wfn rfl ?_
   refine Eg (fun a w=>∃(aR:Int) (aX:Int),Fr 146 [] [(7,sv ad9 y6.1 a2),(10,iv a1.2),(11,pb a3),(12,sv a5 a1.1 a6),(13,iv aX)] a∧St w0 [arr 3 1 fI a5 a1.1.length a6 a1.1,blk a3 63 #[iv aR,.string ByteArray.empty,iv aB,iv aC],arrT 5 1 (fK .u8) a7 a4.1.length a8 a4.1,arr 46 21 (fN 21) ad9 y6.1.length a2 aP,fz w0 ν7] w∧G3 F y6 aB aC a1 aR aX=some res) ?_ ?_
   ·skip
    refine esr ?_
    refine rn 1 1 [(7,sv ad9 y6.1 a2),(9,sv a7 a4.1 a8),(10,iv a1.2),(11,pb a3),(12,sv a5 a1.1 a6),(13,iv 0),(14,iv 1)] hF fun a hF=>?_
    refine wfn rfl ?_
    refine wpIn_block ?_
    refine E4 (fun n_ a w=>∃(aV:Int) (aO:Int) (a9:Int),Fr 146 [] [(7,sv ad9 y6.1 a2),(9,sv a7 a4.1 a8),(10,iv a1.2),(11,pb a3),(12,sv a5 a1.1 a6),(13,iv aO),(14,iv a9)] a∧St w0 [arr 3 1 fI a5 a1.1.length a6 a1.1,blk a3 63 #[iv aV,.string ByteArray.empty,iv aB,iv aC],arrT 5 1 (fK .u8) a7 a4.1.length a8 a4.1,arr 46 21 (fN 21) ad9 y6.1.length a2 aP,fz w0 ν7] w∧Ci F y6 a4 aB aC a1 n_ aV aO a9=some res) F ⟨0,0,1,hF.sub kr,St.pick [0,1,2,3,4] (by decide) hS,h⟩ ?_
    rintro nk5 a w ⟨aV,aO,a9,hF,hS,h⟩
    rcases nk5 with _|nk5
    ·cases (show (none:Option Bool)=some res from h)
    obtain ⟨k5,hk5⟩:∃k,k=Ci F y6 a4 aB aC a1 nk5:=⟨_,rfl⟩
    replace h:Eu F y6 a4 aB aC a1 k5 aV aO a9=some res:=by rw [hk5];exact h
    rw [Eu] at h
    refine Ay ?_
    refine esr ?_
    refine rn 2 2 [(7,sv ad9 y6.1 a2),(9,sv a7 a4.1 a8),(10,iv a1.2),(11,pb a3),(12,sv a5 a1.1 a6),(13,iv aO),(14,iv a9),(53,.bool (decide (a9≤3)))] hF fun a hF=>?_
    refine wfn rfl ?_
    refine Ar hF rfl (fun hc=>?_) (fun hc=>?_)
    ·replace h:=Am h hc
     refine wpIn_skip (A1 ?_)
     refine Eg (fun a w=>∃(aW:Int),Fr 146 [] [(7,sv ad9 y6.1 a2),(9,sv a7 a4.1 a8),(10,iv a1.2),(11,pb a3),(12,sv a5 a1.1 a6),(13,iv aW),(14,iv a9)] a∧St w0 [arr 3 1 fI a5 a1.1.length a6 a1.1,blk a3 63 #[iv a9,.string ByteArray.empty,iv aB,iv aC],arrT 5 1 (fK .u8) a7 a4.1.length a8 a4.1,arr 46 21 (fN 21) ad9 y6.1.length a2 aP,fz w0 ν7] w∧Ev a9 k5 aW=some res) ?_ ?_
     ·skip
      refine wpIn_block ?_
      refine esr ?_
      refine rn 2 2 [(7,sv ad9 y6.1 a2),(9,sv a7 a4.1 a8),(10,iv a1.2),(11,pb a3),(12,sv a5 a1.1 a6),(13,iv aO),(14,iv a9),(56,iv a9),(57,pb a3)] hF fun a hF=>?_
      refine SK.wi (Ao (t:=3) [(7,sv ad9 y6.1 a2),(9,sv a7 a4.1 a8),(10,iv a1.2),(11,pb a3),(12,sv a5 a1.1 a6),(13,iv aO),(14,iv a9)] 1 0 (iv a9) #[iv a9,.string ByteArray.empty,iv aB,iv aC] hF hS rfl kr ⟨kr⟩ kr kr kr kr ⟨kr⟩ fun w a hF hS=>?_)
      refine wfn rfl ?_
      refine esr ?_
      refine rno 2 [.run [] (Instr.loadAt 63 (pb a3)) (.agg #[iv a9,.string ByteArray.empty,iv aB,iv aC])] 2 [(7,sv ad9 y6.1 a2),(9,sv a7 a4.1 a8),(10,iv a1.2),(11,pb a3),(12,sv a5 a1.1 a6),(13,iv aO),(14,iv a9),(59,sv a7 a4.1 a8),(60,.agg #[iv a9,.string ByteArray.empty,iv aB,iv aC])] hF (A0 (obN (us:=[iv a9,.string ByteArray.empty,iv aB,iv aC]) kr (fun _ hd=>((hS.at_ hd).blk (i:=1) rfl).cells rfl)) Ab) fun a hF=>?_
      replace h:=A5 h
      obtain ⟨aA,bZ,h⟩:=h
      refine SK.wi (Cb (fun bF=>[(7,sv ad9 y6.1 a2),(9,sv a7 a4.1 a8),(10,iv a1.2),(11,pb a3),(12,sv a5 a1.1 a6),(13,iv aO),(14,iv a9),(61,bF)]) hF kr ⟨kr⟩ (Nu F _ _ _ bZ (Br w) w (A7 w) (Arr.toM (hS.arrT_ (i:=2) rfl))) (fun _=>⟨kr⟩) ?_)
      rintro bF w a ⟨aE,aI,rfl,hQ⟩ hF
      replace hS:=hS.madeL hQ
      refine rn 5 8 [(7,sv ad9 y6.1 a2),(9,sv a7 a4.1 a8),(10,iv a1.2),(11,pb a3),(12,sv a5 a1.1 a6),(13,iv aO),(14,iv a9),(15,sv aE aA.1 aI),(16,iv aA.2)] hF fun a hF=>?_
      refine wfn rfl ?_
      refine esr ?_
      replace h:=A5 h
      obtain ⟨aG,bT,h⟩:=h
      refine rno 5 [.run [] (binOp .add 3 (iv aO) (iv (ln aA.1))) (iv aG)] 5 [(7,sv ad9 y6.1 a2),(9,sv a7 a4.1 a8),(10,iv a1.2),(11,pb a3),(12,sv a5 a1.1 a6),(13,iv aG),(14,iv a9),(15,sv aE aA.1 aI),(16,iv aA.2)] hF (A0 (Av (fun _=>bT)) Ab) fun a hF=>?_
      refine wfn rfl ?_
      refine Ay ?_
      refine esr ?_
      refine rn 2 2 [(7,sv ad9 y6.1 a2),(9,sv a7 a4.1 a8),(10,iv a1.2),(11,pb a3),(12,sv a5 a1.1 a6),(13,iv aG),(14,iv a9),(15,sv aE aA.1 aI),(69,.bool (aA.2 != 0))] hF fun a hF=>?_
      refine wfn rfl ?_
      refine Ar hF rfl (fun hc=>?_) (fun hc=>?_)
      ·replace h:=Am h hc
       refine esr ?_
       refine rn 1 1 [(6,.bool false)] hF fun a hF=>?_
       refine wfn rfl ?_
       refine wpIn_ret (A8<|Ak<|A8<|A8<|Ak<|A8<|Ah [.tmp 6] [.bool false] hF rfl ⟨rfl,trivial⟩ ?_)
       have hr_:=Option.some.inj h
       subst hr_
       exact ⟨rfl,hS.ext⟩
      ·replace h:=Al h hc
       refine wpIn_skip (A1 ?_)
       refine esr ?_
       refine rn 3 3 [(7,sv ad9 y6.1 a2),(9,sv a7 a4.1 a8),(10,iv a1.2),(11,pb a3),(12,sv a5 a1.1 a6),(13,iv aG),(14,iv a9),(70,sv aE aA.1 aI),(71,iv (ln aA.1)),(72,iv 0)] hF fun a hF=>?_
       refine wfn rfl ?_
       refine wpIn_block ?_
       refine E4 (fun n_ a w=>∃(aH:Int),Fr 146 [] [(7,sv ad9 y6.1 a2),(9,sv a7 a4.1 a8),(10,iv a1.2),(11,pb a3),(12,sv a5 a1.1 a6),(13,iv aG),(14,iv a9),(70,sv aE aA.1 aI),(71,iv (ln aA.1)),(72,iv aH)] a∧St w0 [arr 3 1 fI aE aA.1.length aI aA.1,arr 3 1 fI a5 a1.1.length a6 a1.1,blk a3 63 #[iv a9,.string ByteArray.empty,iv aB,iv aC],arrT 5 1 (fK .u8) a7 a4.1.length a8 a4.1,arr 46 21 (fN 21) ad9 y6.1.length a2 aP,fz w0 ν7] w∧Dx y6 a9 k5 aA aG n_ aH=some res) F ⟨0,hF.sub kr,St.pick [0,1,2,3,4,5] (by decide) hS,h⟩ ?_
       rintro nk7 a w ⟨aH,hF,hS,h⟩
       rcases nk7 with _|nk7
       ·cases (show (none:Option Bool)=some res from h)
       obtain ⟨k7,hk7⟩:∃k,k=Dx y6 a9 k5 aA aG nk7:=⟨_,rfl⟩
       replace h:G2 y6 a9 k5 aA aG k7 aH=some res:=by rw [hk7];exact h
       rw [G2] at h
       refine esr ?_
       refine rn 1 1 [(7,sv ad9 y6.1 a2),(9,sv a7 a4.1 a8),(10,iv a1.2),(11,pb a3),(12,sv a5 a1.1 a6),(13,iv aG),(14,iv a9),(70,sv aE aA.1 aI),(71,iv (ln aA.1)),(72,iv aH),(73,.bool (decide (aH<(ln aA.1))))] hF fun a hF=>?_
       refine wfn rfl ?_
       refine Ay ?_
       refine Ar hF rfl (fun hc=>?_) (fun hc=>?_)
       ·replace h:=Am h hc
        refine wpIn_skip (A1 ?_)
        refine Ay ?_
        refine wpIn_block ?_
        refine esr ?_
        replace h:=A5 h
        obtain ⟨aN,bA,h⟩:=h
        refine rno 3 [.run [] (Instr.indexAt 51 (sv aE aA.1 aI) (iv aH)) (.pointer (some (An aE aH 1))),.run [] (Instr.loadAt 3 (.pointer (some (An aE aH 1)))) (iv aN)] 3 [(7,sv ad9 y6.1 a2),(9,sv a7 a4.1 a8),(10,iv a1.2),(11,pb a3),(12,sv a5 a1.1 a6),(13,iv aG),(14,iv a9),(18,iv aN),(70,sv aE aA.1 aI),(71,iv (ln aA.1)),(72,iv aH)] hF (A0 (Bi (hS.arr (i:=0) rfl) kr (fun _=>bA)) (A0 (Fm (i:=aH) 0 Et (fun _ hd=>((hS.at_ hd).arr (i:=0) rfl)) kr (fun _=>bA) rfl) Ab)) fun a hF=>?_
        refine wfn rfl ?_
        refine esr ?_
        refine rn 9 9 [(7,sv ad9 y6.1 a2),(9,sv a7 a4.1 a8),(10,iv a1.2),(11,pb a3),(12,sv a5 a1.1 a6),(13,iv aG),(14,iv a9),(18,iv aN),(70,sv aE aA.1 aI),(71,iv (ln aA.1)),(72,iv aH),(84,.bool (bif (decide (aN<0)) then true else (decide (aN≥(ln y6.1)))))] hF fun a hF=>?_
        rcases Bool.eq_false_or_eq_true ((bif (decide (aN<0)) then true else (decide (aN≥(ln y6.1))))) with aT|aT
        ·replace h:=Am h aT
         rw [aT] at hF
         refine F3 10 [(7,sv ad9 y6.1 a2),(9,sv a7 a4.1 a8),(10,iv a1.2),(11,pb a3),(12,sv a5 a1.1 a6),(13,iv aG),(14,iv a9),(18,iv aN),(70,sv aE aA.1 aI),(71,iv (ln aA.1)),(72,iv aH),(84,.bool true),(85,undef)] hF kr ⟨kr⟩ ⟨kr⟩ rfl fun a hF=>?_
         refine F3 11 [(7,sv ad9 y6.1 a2),(9,sv a7 a4.1 a8),(10,iv a1.2),(11,pb a3),(12,sv a5 a1.1 a6),(13,iv aG),(14,iv a9),(70,sv aE aA.1 aI),(71,iv (ln aA.1)),(72,iv aH),(84,.bool true),(85,undef),(86,undef)] hF kr ⟨kr⟩ ⟨kr⟩ rfl fun a hF=>?_
         refine F3 12 [(7,sv ad9 y6.1 a2),(9,sv a7 a4.1 a8),(10,iv a1.2),(11,pb a3),(12,sv a5 a1.1 a6),(13,iv aG),(14,iv a9),(70,sv aE aA.1 aI),(71,iv (ln aA.1)),(72,iv aH),(84,.bool true),(87,undef)] hF kr ⟨kr⟩ ⟨kr⟩ rfl fun a hF=>?_
         refine F3 13 [(7,sv ad9 y6.1 a2),(9,sv a7 a4.1 a8),(10,iv a1.2),(11,pb a3),(12,sv a5 a1.1 a6),(13,iv aG),(14,iv a9),(70,sv aE aA.1 aI),(71,iv (ln aA.1)),(72,iv aH),(84,.bool true),(88,undef)] hF kr ⟨kr⟩ ⟨kr⟩ rfl fun a hF=>?_
         refine F3 14 [(7,sv ad9 y6.1 a2),(9,sv a7 a4.1 a8),(10,iv a1.2),(11,pb a3),(12,sv a5 a1.1 a6),(13,iv aG),(14,iv a9),(70,sv aE aA.1 aI),(71,iv (ln aA.1)),(72,iv aH),(84,.bool true),(89,undef)] hF kr ⟨kr⟩ ⟨kr⟩ rfl fun a hF=>?_
         refine F3 15 [(7,sv ad9 y6.1 a2),(9,sv a7 a4.1 a8),(10,iv a1.2),(11,pb a3),(12,sv a5 a1.1 a6),(13,iv aG),(14,iv a9),(70,sv aE aA.1 aI),(71,iv (ln aA.1)),(72,iv aH),(84,.bool true),(89,undef),(90,undef)] hF kr ⟨kr⟩ ⟨kr⟩ rfl fun a hF=>?_
         refine F3 16 [(7,sv ad9 y6.1 a2),(9,sv a7 a4.1 a8),(10,iv a1.2),(11,pb a3),(12,sv a5 a1.1 a6),(13,iv aG),(14,iv a9),(70,sv aE aA.1 aI),(71,iv (ln aA.1)),(72,iv aH),(84,.bool true),(91,undef)] hF kr ⟨kr⟩ ⟨kr⟩ rfl fun a hF=>?_
         refine rn 1 17 [(7,sv ad9 y6.1 a2),(9,sv a7 a4.1 a8),(10,iv a1.2),(11,pb a3),(12,sv a5 a1.1 a6),(13,iv aG),(14,iv a9),(70,sv aE aA.1 aI),(71,iv (ln aA.1)),(72,iv aH),(92,.bool true)] hF fun a hF=>?_
         refine wfn rfl ?_
         refine wpIn_cond_true (hF.get rfl) ?_
         refine esr ?_
         refine rn 1 1 [(6,.bool false)] hF fun a hF=>?_
         refine wfn rfl ?_
         refine wpIn_ret (Ak<|A8<|A8<|Ak<|Ak<|A8<|A8<|Ak<|A8<|Ah [.tmp 6] [.bool false] hF rfl ⟨rfl,trivial⟩ ?_)
         have hr_:=Option.some.inj h
         subst hr_
         exact ⟨rfl,hS.ext⟩
        ·replace h:=Al h aT
         rw [aT] at hF
         replace h:=A5 h
         obtain ⟨bC,bL,h⟩:=h
         obtain ⟨c5,b8,bJ⟩:=Ef aY bL
         obtain ⟨c0,c2,c7,c1,c3,rfl,c8,c9⟩:=bJ
         refine rno 8 [.run [⟨84,false,false⟩] (Instr.indexAt 24 (sv ad9 y6.1 a2) (iv aN)) (.pointer (some (An ad9 aN 21))),.run [⟨84,false,false⟩] (Instr.loadAt 3 (.pointer (some (An ad9 aN 21)))) (iv bC.Kind)] 17 [(7,sv ad9 y6.1 a2),(9,sv a7 a4.1 a8),(10,iv a1.2),(11,pb a3),(12,sv a5 a1.1 a6),(13,iv aG),(14,iv a9),(70,sv aE aA.1 aI),(71,iv (ln aA.1)),(72,iv aH),(92,.bool (bC.Kind != a9))] hF (A0 (Bi (hS.arr (i:=4) rfl) kr (fun _=>b8)) (A0 (Fm (i:=aN) 0 (Fb 21) (fun _ hd=>((hS.at_ hd).arr (i:=4) rfl)) kr (fun _=>b8) rfl) Ab)) fun a hF=>?_
         refine wfn rfl ?_
         refine Ar hF rfl (fun hc=>?_) (fun hc=>?_)
         ·replace h:=Am h hc
          refine esr ?_
          refine rn 1 1 [(6,.bool false)] hF fun a hF=>?_
          refine wfn rfl ?_
          refine wpIn_ret (Ak<|A8<|A8<|Ak<|Ak<|A8<|A8<|Ak<|A8<|Ah [.tmp 6] [.bool false] hF rfl ⟨rfl,trivial⟩ ?_)
          have hr_:=Option.some.inj h
          subst hr_
          exact ⟨rfl,hS.ext⟩
         ·replace h:=Al h hc
          refine wpIn_skip (Ac<|A1<|?_)
          refine WI.region ?_
          replace h:=A5 h
          obtain ⟨b2,bU,h⟩:=h
          refine rno 2 [.run [] (binOp .add 3 (iv aH) (iv 1)) (iv b2)] 2 [(7,sv ad9 y6.1 a2),(9,sv a7 a4.1 a8),(10,iv a1.2),(11,pb a3),(12,sv a5 a1.1 a6),(13,iv aG),(14,iv a9),(70,sv aE aA.1 aI),(71,iv (ln aA.1)),(72,iv b2)] hF (A0 (Av (fun _=>bU)) Ab) fun a hF=>?_
          refine wfn rfl ?_
          rw [hk7] at h
          exact ⟨nk7,Nat.lt_succ_self _,b2,hF.sub kr,St.pick [0,1,2,3,4,5] (by decide) hS,h⟩
       ·replace h:=Al h hc
        refine wpIn_exit (Ad<|Ad<|B6<|Ac<|A1<|?_)
        exact ⟨aG,hF.sub kr,St.pick [1,2,3,4,5] (by decide) hS,h⟩
     rintro a w ⟨aW,hF,hS,h⟩
     rw [Ev] at h
     refine WI.region ?_
     replace h:=A5 h
     obtain ⟨b1,bS,h⟩:=h
     refine rno 3 [.run [] (binOp .add 3 (iv a9) (iv 1)) (iv b1)] 3 [(7,sv ad9 y6.1 a2),(9,sv a7 a4.1 a8),(10,iv a1.2),(11,pb a3),(12,sv a5 a1.1 a6),(13,iv aW),(14,iv b1)] hF (A0 (Av (fun _=>bS)) Ab) fun a hF=>?_
     refine wfn rfl ?_
     rw [hk5] at h
     exact ⟨nk5,Nat.lt_succ_self _,a9,aW,b1,hF.sub kr,St.pick [0,1,2,3,4] (by decide) hS,h⟩
    ·replace h:=Al h hc
     refine wpIn_exit (Ad<|Ad<|B6<|A1 ?_)
     exact ⟨aV,aO,hF.sub kr,St.pick [0,1,2,3,4] (by decide) hS,h⟩
   rintro a w ⟨aR,aX,hF,hS,h⟩
   rw [G3] at h
   refine Ay ?_
   refine esr ?_
   refine rn 8 8 [(7,sv ad9 y6.1 a2),(11,pb a3),(12,sv a5 a1.1 a6),(101,.bool (bif (a1.2 != 0) then true else (aX != (ln a1.1))))] hF fun a hF=>?_
   refine wfn rfl ?_
   refine Ar hF rfl (fun hc=>?_) (fun hc=>?_)
   ·replace h:=Am h hc
    refine esr ?_
    refine rn 1 1 [(6,.bool false)] hF fun a hF=>?_
    refine wfn rfl ?_
    refine wpIn_ret (A8<|Ah [.tmp 6] [.bool false] hF rfl ⟨rfl,trivial⟩ ?_)
    have hr_:=Option.some.inj h
    subst hr_
    exact ⟨rfl,hS.ext⟩
   ·replace h:=Al h hc
    refine wpIn_skip (A1 ?_)
    refine esr ?_
    refine rn 1 1 [(7,sv ad9 y6.1 a2),(11,pb a3),(12,sv a5 a1.1 a6),(19,iv 0)] hF fun a hF=>?_
    refine wfn rfl ?_
    refine Eg (fun a w=>∃(aS:Int),Fr 146 [] [(12,sv a5 a1.1 a6),(19,iv aS)] a∧St w0 [arr 3 1 fI a5 a1.1.length a6 a1.1,blk a3 63 #[iv aR,.string ByteArray.empty,iv aB,iv aC],arrT 5 1 (fK .u8) a7 a4.1.length a8 a4.1,arr 46 21 (fN 21) ad9 y6.1.length a2 aP,fz w0 ν7] w∧G4 F a1 aS=some res) ?_ ?_
    ·skip
     refine esr ?_
     refine rn 3 3 [(11,pb a3),(12,sv a5 a1.1 a6),(19,iv 0),(102,sv ad9 y6.1 a2),(103,iv (ln y6.1)),(104,iv 0)] hF fun a hF=>?_
     refine wfn rfl ?_
     refine wpIn_block ?_
     refine E4 (fun n_ a w=>∃(aD:Int) (aF:Int),Fr 146 [] [(11,pb a3),(12,sv a5 a1.1 a6),(19,iv aF),(102,sv ad9 y6.1 a2),(103,iv (ln y6.1)),(104,iv aD)] a∧St w0 [arr 3 1 fI a5 a1.1.length a6 a1.1,blk a3 63 #[iv aR,.string ByteArray.empty,iv aB,iv aC],arrT 5 1 (fK .u8) a7 a4.1.length a8 a4.1,arr 46 21 (fN 21) ad9 y6.1.length a2 aP,fz w0 ν7] w∧Dw F y6 aB aC a1 n_ aD aF=some res) F ⟨0,0,hF.sub kr,St.pick [0,1,2,3,4] (by decide) hS,h⟩ ?_
     rintro nk3 a w ⟨aD,aF,hF,hS,h⟩
     rcases nk3 with _|nk3
     ·cases (show (none:Option Bool)=some res from h)
     obtain ⟨k3,hk3⟩:∃k,k=Dw F y6 aB aC a1 nk3:=⟨_,rfl⟩
     replace h:G1 F y6 aB aC a1 k3 aD aF=some res:=by rw [hk3];exact h
     rw [G1] at h
     refine esr ?_
     refine rn 1 1 [(11,pb a3),(12,sv a5 a1.1 a6),(19,iv aF),(102,sv ad9 y6.1 a2),(103,iv (ln y6.1)),(104,iv aD),(105,.bool (decide (aD<(ln y6.1))))] hF fun a hF=>?_
     refine wfn rfl ?_
     refine Ay ?_
     refine Ar hF rfl (fun hc=>?_) (fun hc=>?_)
     ·replace h:=Am h hc
      refine wpIn_skip (A1 ?_)
      refine Eg (fun a w=>∃(aU:Int),Fr 146 [] [(11,pb a3),(12,sv a5 a1.1 a6),(19,iv aU),(102,sv ad9 y6.1 a2),(103,iv (ln y6.1)),(104,iv aD)] a∧St w0 [arr 3 1 fI a5 a1.1.length a6 a1.1,blk a3 63 #[iv aR,.string ByteArray.empty,iv aB,iv aC],arrT 5 1 (fK .u8) a7 a4.1.length a8 a4.1,arr 46 21 (fN 21) ad9 y6.1.length a2 aP,fz w0 ν7] w∧D8 aD k3 aU=some res) ?_ ?_
      ·skip
       refine wpIn_block ?_
       refine esr ?_
       replace h:=A5 h
       obtain ⟨a0,bK,h⟩:=h
       obtain ⟨c4,b7,bI⟩:=Ef aY bK
       obtain ⟨aJ,aL,c6,aK,aM,rfl,b5,b6⟩:=bI
       refine rno 3 [.run [] (Instr.indexAt 24 (sv ad9 y6.1 a2) (iv aD)) (.pointer (some (An ad9 aD 21))),.run [] (Instr.loadAt 46 (.pointer (some (An ad9 aD 21)))) (.agg #[iv a0.Kind,.string a0.Name,iv a0.Time,.string a0.Sweep.Site.Name,iv a0.Sweep.Site.X,iv a0.Sweep.Site.Y,iv a0.Sweep.Site.Z,iv a0.Sweep.Site.Rose,iv a0.Sweep.Site.Gates,iv a0.Sweep.Site.Step,iv a0.Sweep.Site.Width,iv a0.Sweep.Tilt,iv a0.Sweep.Time,sv aJ a0.Sweep.Rays aL,iv a0.Field.Grid.X,iv a0.Field.Grid.Y,iv a0.Field.Grid.Size,iv a0.Field.Grid.Wide,iv a0.Field.Grid.High,sv aK a0.Field.Vals aM,.string a0.Text])] 3 [(11,pb a3),(12,sv a5 a1.1 a6),(19,iv aF),(102,sv ad9 y6.1 a2),(103,iv (ln y6.1)),(104,iv aD),(106,iv aD),(108,.agg #[iv a0.Kind,.string a0.Name,iv a0.Time,.string a0.Sweep.Site.Name,iv a0.Sweep.Site.X,iv a0.Sweep.Site.Y,iv a0.Sweep.Site.Z,iv a0.Sweep.Site.Rose,iv a0.Sweep.Site.Gates,iv a0.Sweep.Site.Step,iv a0.Sweep.Site.Width,iv a0.Sweep.Tilt,iv a0.Sweep.Time,sv aJ a0.Sweep.Rays aL,iv a0.Field.Grid.X,iv a0.Field.Grid.Y,iv a0.Field.Grid.Size,iv a0.Field.Grid.Wide,iv a0.Field.Grid.High,sv aK a0.Field.Vals aM,.string a0.Text])] hF (A0 (Bi (hS.arr (i:=3) rfl) kr (fun _=>b7)) (A0 (Gw (m:=21) (i:=aD) (us:=[iv a0.Kind,.string a0.Name,iv a0.Time,.string a0.Sweep.Site.Name,iv a0.Sweep.Site.X,iv a0.Sweep.Site.Y,iv a0.Sweep.Site.Z,iv a0.Sweep.Site.Rose,iv a0.Sweep.Site.Gates,iv a0.Sweep.Site.Step,iv a0.Sweep.Site.Width,iv a0.Sweep.Tilt,iv a0.Sweep.Time,sv aJ a0.Sweep.Rays aL,iv a0.Field.Grid.X,iv a0.Field.Grid.Y,iv a0.Field.Grid.Size,iv a0.Field.Grid.Wide,iv a0.Field.Grid.High,sv aK a0.Field.Vals aM,.string a0.Text]) 0 (Fb 21) (fun _ hd=>((hS.at_ hd).arr (i:=3) rfl)) kr (fun _=>b7) ⟨rfl,rfl⟩) Ab)) fun a hF=>?_
       refine SK.wi (Bs (t:=46) (fun aQ=>[(11,pb a3),(12,sv a5 a1.1 a6),(19,iv aF),(21,pb aQ),(102,sv ad9 y6.1 a2),(103,iv (ln y6.1)),(104,iv aD),(106,iv aD),(108,.agg #[iv a0.Kind,.string a0.Name,iv a0.Time,.string a0.Sweep.Site.Name,iv a0.Sweep.Site.X,iv a0.Sweep.Site.Y,iv a0.Sweep.Site.Z,iv a0.Sweep.Site.Rose,iv a0.Sweep.Site.Gates,iv a0.Sweep.Site.Step,iv a0.Sweep.Site.Width,iv a0.Sweep.Tilt,iv a0.Sweep.Time,sv aJ a0.Sweep.Rays aL,iv a0.Field.Grid.X,iv a0.Field.Grid.Y,iv a0.Field.Grid.Size,iv a0.Field.Grid.Wide,iv a0.Field.Grid.High,sv aK a0.Field.Vals aM,.string a0.Text])]) #[iv 0,.string ByteArray.empty,iv 0,.string ByteArray.empty,iv 0,iv 0,iv 0,iv 0,iv 0,iv 0,iv 0,iv 0,iv 0,.slice none 0 0,iv 0,iv 0,iv 0,iv 0,iv 0,.slice none 0 0,.string ByteArray.empty] hF hS kr ⟨kr⟩ kr (fun _=>⟨kr⟩) fun aQ w a hF hS=>?_)
       refine rn 1 5 [(11,pb a3),(12,sv a5 a1.1 a6),(19,iv aF),(20,iv aD),(21,pb aQ),(102,sv ad9 y6.1 a2),(103,iv (ln y6.1)),(104,iv aD),(108,.agg #[iv a0.Kind,.string a0.Name,iv a0.Time,.string a0.Sweep.Site.Name,iv a0.Sweep.Site.X,iv a0.Sweep.Site.Y,iv a0.Sweep.Site.Z,iv a0.Sweep.Site.Rose,iv a0.Sweep.Site.Gates,iv a0.Sweep.Site.Step,iv a0.Sweep.Site.Width,iv a0.Sweep.Tilt,iv a0.Sweep.Time,sv aJ a0.Sweep.Rays aL,iv a0.Field.Grid.X,iv a0.Field.Grid.Y,iv a0.Field.Grid.Size,iv a0.Field.Grid.Wide,iv a0.Field.Grid.High,sv aK a0.Field.Vals aM,.string a0.Text])] hF fun a hF=>?_
       refine SK.wi (Ao (t:=46) [(11,pb a3),(12,sv a5 a1.1 a6),(19,iv aF),(20,iv aD),(21,pb aQ),(102,sv ad9 y6.1 a2),(103,iv (ln y6.1)),(104,iv aD)] 0 0 (.agg #[iv a0.Kind,.string a0.Name,iv a0.Time,.string a0.Sweep.Site.Name,iv a0.Sweep.Site.X,iv a0.Sweep.Site.Y,iv a0.Sweep.Site.Z,iv a0.Sweep.Site.Rose,iv a0.Sweep.Site.Gates,iv a0.Sweep.Site.Step,iv a0.Sweep.Site.Width,iv a0.Sweep.Tilt,iv a0.Sweep.Time,sv aJ a0.Sweep.Rays aL,iv a0.Field.Grid.X,iv a0.Field.Grid.Y,iv a0.Field.Grid.Size,iv a0.Field.Grid.Wide,iv a0.Field.Grid.High,sv aK a0.Field.Vals aM,.string a0.Text]) #[iv a0.Kind,.string a0.Name,iv a0.Time,.string a0.Sweep.Site.Name,iv a0.Sweep.Site.X,iv a0.Sweep.Site.Y,iv a0.Sweep.Site.Z,iv a0.Sweep.Site.Rose,iv a0.Sweep.Site.Gates,iv a0.Sweep.Site.Step,iv a0.Sweep.Site.Width,iv a0.Sweep.Tilt,iv a0.Sweep.Time,sv aJ a0.Sweep.Rays aL,iv a0.Field.Grid.X,iv a0.Field.Grid.Y,iv a0.Field.Grid.Size,iv a0.Field.Grid.Wide,iv a0.Field.Grid.High,sv aK a0.Field.Vals aM,.string a0.Text] hF hS rfl kr ⟨kr⟩ kr kr kr kr ⟨kr⟩ fun w a hF hS=>?_)
       refine wfn rfl ?_
       refine Ay ?_
       refine Nl (obs:=[.run [] (Instr.loadAt 46 (pb aQ)) (.agg #[iv a0.Kind,.string a0.Name,iv a0.Time,.string a0.Sweep.Site.Name,iv a0.Sweep.Site.X,iv a0.Sweep.Site.Y,iv a0.Sweep.Site.Z,iv a0.Sweep.Site.Rose,iv a0.Sweep.Site.Gates,iv a0.Sweep.Site.Step,iv a0.Sweep.Site.Width,iv a0.Sweep.Tilt,iv a0.Sweep.Time,sv aJ a0.Sweep.Rays aL,iv a0.Field.Grid.X,iv a0.Field.Grid.Y,iv a0.Field.Grid.Size,iv a0.Field.Grid.Wide,iv a0.Field.Grid.High,sv aK a0.Field.Vals aM,.string a0.Text]),.call [] 21 #[.agg #[iv a0.Kind,.string a0.Name,iv a0.Time,.string a0.Sweep.Site.Name,iv a0.Sweep.Site.X,iv a0.Sweep.Site.Y,iv a0.Sweep.Site.Z,iv a0.Sweep.Site.Rose,iv a0.Sweep.Site.Gates,iv a0.Sweep.Site.Step,iv a0.Sweep.Site.Width,iv a0.Sweep.Tilt,iv a0.Sweep.Time,sv aJ a0.Sweep.Rays aL,iv a0.Field.Grid.X,iv a0.Field.Grid.Y,iv a0.Field.Grid.Size,iv a0.Field.Grid.Wide,iv a0.Field.Grid.High,sv aK a0.Field.Vals aM,.string a0.Text]] (iv (Cc a0)),.run [] (Instr.loadAt 3 (.pointer (some ⟨a3,2,none⟩))) (iv aB),.run [⟨114,true,(decide ((Cc a0)≥aB))⟩] (Instr.loadAt 46 (pb aQ)) (.agg #[iv a0.Kind,.string a0.Name,iv a0.Time,.string a0.Sweep.Site.Name,iv a0.Sweep.Site.X,iv a0.Sweep.Site.Y,iv a0.Sweep.Site.Z,iv a0.Sweep.Site.Rose,iv a0.Sweep.Site.Gates,iv a0.Sweep.Site.Step,iv a0.Sweep.Site.Width,iv a0.Sweep.Tilt,iv a0.Sweep.Time,sv aJ a0.Sweep.Rays aL,iv a0.Field.Grid.X,iv a0.Field.Grid.Y,iv a0.Field.Grid.Size,iv a0.Field.Grid.Wide,iv a0.Field.Grid.High,sv aK a0.Field.Vals aM,.string a0.Text]),.call [⟨114,true,(decide ((Cc a0)≥aB))⟩] 21 #[.agg #[iv a0.Kind,.string a0.Name,iv a0.Time,.string a0.Sweep.Site.Name,iv a0.Sweep.Site.X,iv a0.Sweep.Site.Y,iv a0.Sweep.Site.Z,iv a0.Sweep.Site.Rose,iv a0.Sweep.Site.Gates,iv a0.Sweep.Site.Step,iv a0.Sweep.Site.Width,iv a0.Sweep.Tilt,iv a0.Sweep.Time,sv aJ a0.Sweep.Rays aL,iv a0.Field.Grid.X,iv a0.Field.Grid.Y,iv a0.Field.Grid.Size,iv a0.Field.Grid.Wide,iv a0.Field.Grid.High,sv aK a0.Field.Vals aM,.string a0.Text]] (iv (Cc a0)),.run [⟨114,true,(decide ((Cc a0)≥aB))⟩] (Instr.loadAt 3 (.pointer (some ⟨a3,3,none⟩))) (iv aC)]) 13 [(11,pb a3),(12,sv a5 a1.1 a6),(19,iv aF),(20,iv aD),(22,.bool (bif (decide ((Cc a0)≥aB)) then (decide ((Cc a0)≤aC)) else false)),(102,sv ad9 y6.1 a2),(103,iv (ln y6.1)),(104,iv aD)] kr hF kr (A0 (obN (us:=[iv a0.Kind,.string a0.Name,iv a0.Time,.string a0.Sweep.Site.Name,iv a0.Sweep.Site.X,iv a0.Sweep.Site.Y,iv a0.Sweep.Site.Z,iv a0.Sweep.Site.Rose,iv a0.Sweep.Site.Gates,iv a0.Sweep.Site.Step,iv a0.Sweep.Site.Width,iv a0.Sweep.Tilt,iv a0.Sweep.Time,sv aJ a0.Sweep.Rays aL,iv a0.Field.Grid.X,iv a0.Field.Grid.Y,iv a0.Field.Grid.Size,iv a0.Field.Grid.Wide,iv a0.Field.Grid.High,sv aK a0.Field.Vals aM,.string a0.Text]) kr (fun _ hd=>((hS.later hd).blk (i:=0) rfl).cells rfl)) (A0 (show Ob.ok _ Ext _ _ from fun hk w2 hd=>Pg a0 _ rfl _ w2 (A7 w2) (b5.mono Rp83.mono (FrzAt.le_mem ((hS.later hd).frz (i:=5) rfl hlow))) (b6.mono (FrzAt.le_mem ((hS.later hd).frz (i:=5) rfl hlow)))) (A0 (ob1 kr (fun _ hd=>(hS.later hd).cell (i:=2) (j:=2) rfl rfl)) (A0 (obN (us:=[iv a0.Kind,.string a0.Name,iv a0.Time,.string a0.Sweep.Site.Name,iv a0.Sweep.Site.X,iv a0.Sweep.Site.Y,iv a0.Sweep.Site.Z,iv a0.Sweep.Site.Rose,iv a0.Sweep.Site.Gates,iv a0.Sweep.Site.Step,iv a0.Sweep.Site.Width,iv a0.Sweep.Tilt,iv a0.Sweep.Time,sv aJ a0.Sweep.Rays aL,iv a0.Field.Grid.X,iv a0.Field.Grid.Y,iv a0.Field.Grid.Size,iv a0.Field.Grid.Wide,iv a0.Field.Grid.High,sv aK a0.Field.Vals aM,.string a0.Text]) kr (fun _ hd=>((hS.later hd).blk (i:=0) rfl).cells rfl)) (A0 (show Ob.ok _ Ext _ _ from fun hk w2 hd=>Pg a0 _ rfl _ w2 (A7 w2) (b5.mono Rp83.mono (FrzAt.le_mem ((hS.later hd).frz (i:=5) rfl hlow))) (b6.mono (FrzAt.le_mem ((hS.later hd).frz (i:=5) rfl hlow)))) (A0 (ob1 kr (fun _ hd=>(hS.later hd).cell (i:=2) (j:=3) rfl rfl)) Ab)))))) ⟨kr⟩ fun a w hF hx=>?_
       replace hS:=hS.later hx
       refine wfn rfl ?_
       refine Ay ?_
       refine esr ?_
       replace h:=A5 h
       obtain ⟨bB,b9,h⟩:=h
       refine rno 14 [.run [⟨126,true,(decide (aF<(ln a1.1)))⟩] (Instr.indexAt 51 (sv a5 a1.1 a6) (iv aF)) (.pointer (some (An a5 aF 1))),.run [⟨126,true,(decide (aF<(ln a1.1)))⟩] (Instr.loadAt 3 (.pointer (some (An a5 aF 1)))) (iv bB)] 14 [(11,pb a3),(12,sv a5 a1.1 a6),(19,iv aF),(22,.bool (bif (decide ((Cc a0)≥aB)) then (decide ((Cc a0)≤aC)) else false)),(102,sv ad9 y6.1 a2),(103,iv (ln y6.1)),(104,iv aD),(134,.bool (!((bif (decide ((Cc a0)≥aB)) then (decide ((Cc a0)≤aC)) else false)==(bif (decide (aF<(ln a1.1))) then (bB==aD) else false))))] hF (A0 (Bi (hS.arr (i:=1) rfl) kr (fun hk=>Gb b9 hk)) (A0 (Fm (i:=aF) 0 Et (fun _ hd=>((hS.at_ hd).arr (i:=1) rfl)) kr (fun hk=>Gb b9 hk) rfl) Ab)) fun a hF=>?_
       refine wfn rfl ?_
       refine Ar hF rfl (fun hc=>?_) (fun hc=>?_)
       ·replace h:=Am h hc
        refine esr ?_
        refine rn 1 1 [(6,.bool false)] hF fun a hF=>?_
        refine wfn rfl ?_
        refine wpIn_ret (A8<|Ak<|A8<|A8<|Ak<|A8<|Ah [.tmp 6] [.bool false] hF rfl ⟨rfl,trivial⟩ ?_)
        have hr_:=Option.some.inj h
        subst hr_
        exact ⟨rfl,hS.ext⟩
       ·replace h:=Al h hc
        refine wpIn_skip (A1 ?_)
        refine esr ?_
        refine rn 1 1 [(11,pb a3),(12,sv a5 a1.1 a6),(19,iv aF),(102,sv ad9 y6.1 a2),(103,iv (ln y6.1)),(104,iv aD),(135,.bool (bif (decide ((Cc a0)≥aB)) then (decide ((Cc a0)≤aC)) else false))] hF fun a hF=>?_
        refine wfn rfl ?_
        refine Ar hF rfl (fun hc=>?_) (fun hc=>?_)
        ·replace h:=Am h hc
         refine WI.region ?_
         replace h:=A5 h
         obtain ⟨b0,bR,h⟩:=h
         refine rno 3 [.run [] (binOp .add 3 (iv aF) (iv 1)) (iv b0)] 3 [(11,pb a3),(12,sv a5 a1.1 a6),(19,iv b0),(102,sv ad9 y6.1 a2),(103,iv (ln y6.1)),(104,iv aD)] hF (A0 (Av (fun _=>bR)) Ab) fun a hF=>?_
         refine WI.fin rfl (Ac<|A1<|?_)
         exact ⟨b0,hF.sub kr,St.pick [1,2,3,4,5] (by decide) hS,h⟩
        ·replace h:=Al h hc
         refine wpIn_skip (Ac<|A1<|?_)
         exact ⟨aF,hF.sub kr,St.pick [1,2,3,4,5] (by decide) hS,h⟩
      rintro a w ⟨aU,hF,hS,h⟩
      rw [D8] at h
      refine WI.region ?_
      replace h:=A5 h
      obtain ⟨aZ,bQ,h⟩:=h
      refine rno 2 [.run [] (binOp .add 3 (iv aD) (iv 1)) (iv aZ)] 2 [(11,pb a3),(12,sv a5 a1.1 a6),(19,iv aU),(102,sv ad9 y6.1 a2),(103,iv (ln y6.1)),(104,iv aZ)] hF (A0 (Av (fun _=>bQ)) Ab) fun a hF=>?_
      refine wfn rfl ?_
      rw [hk3] at h
      exact ⟨nk3,Nat.lt_succ_self _,aZ,aU,hF.sub kr,St.pick [0,1,2,3,4] (by decide) hS,h⟩
     ·replace h:=Al h hc
      refine wpIn_exit (Ad<|Ad<|B6<|A1 ?_)
      exact ⟨aF,hF.sub kr,St.pick [0,1,2,3,4] (by decide) hS,h⟩
    rintro a w ⟨aS,hF,hS,h⟩
    rw [G4] at h
    refine esr ?_
    replace h:=A5 h
    obtain ⟨b4,bY,h⟩:=h
    refine rx 8 [.call [⟨143,true,(aS==(ln a1.1))⟩] 8 #[] (.bool b4)] 8 [(6,.bool (bif (aS==(ln a1.1)) then b4 else false))] hF (A0 (show Ob.ok _ Ext _ _ from fun hk w2 hd=>Nf F  _ ((fun hk=>Gb bY hk) hk) _ w2 (A7 w2)) Ab) fun a w hF hx=>?_
    replace hS:=hS.later hx
    refine wfn rfl ?_
    refine wpIn_ret (Ah [.tmp 6] [.bool (bif (aS==(ln a1.1)) then b4 else false)] hF rfl ⟨rfl,trivial⟩ ?_)
    have hr_:=Option.some.inj h
    subst hr_
    exact ⟨rfl,hS.ext⟩
end Go.Proofs.Ytifbomimeodibaa
