import Derived.Test.YtbhjgebjojdohaaF10XD
import Derived.Test.YtbhjgebjojdohaaProg
import Derived.Test.YtbhjgebjojdohaaF10XW0
import Derived.Test.YtbhjgebjojdohaaF10XW1
import Derived.Test.YtbhjgebjojdohaaF10WkS
namespace Go.Proofs.Ytbhjgebjojdohaa
open Go Go.RowKit Go.Eng
set_option maxRecDepth 10000
set_option maxHeartbeats 4000000
set_option linter.unusedVariables false
set_option linter.unusedSimpArgs false
theorem Gr (F:Nat) (p0:(List api_Span)) (res:(List api_Span)) (h:C0 F p0=some res) (μ:Frz) (w0:World) (hm:FrzAt μ w0) {ad1:Option Addr} {cap2:Nat} (hA3:ArrM μ 2 api_Span.cells ad1 cap2 p0):F1 Try.prog 62 #[sv ad1 p0 cap2] w0 (fun e w=>∃zad0 zcap0,e=(sv zad0 res zcap0)∧St w0 [arr 25 2 api_Span.cells zad0 res.length zcap0 res] w):=by
 obtain ⟨hlow,hS⟩:=hm.init
 have hext:=Frz.ext_refl w0.heap.size μ
 rw [C0] at h
 refine B5 Try.func62 rfl 53 [(0,sv ad1 p0 cap2)] rfl rfl kr fun a w hw hF=>?_
 replace hS:St w0 [fz w0 μ] w:=by rw [hw];exact hS
 clear hw
 refine esr ?_
 refine rn 1 1 [(0,sv ad1 p0 cap2)] hF fun a hF=>?_
 refine wfn rfl ?_
 refine esr ?_
 refine rn 1 1 [(8,sv ad1 p0 cap2)] hF fun a hF=>?_
 replace h:=A5 h
 obtain ⟨y5,hy5,h⟩:=h
 refine SK.wi (Es (fun v4=>[(9,v4)]) hF kr ⟨kr⟩ (Ep F p0 _ hy5 (Ci w) w (Aj w) (hA3.mono (FrzAt.le_mem (hS.frz (i:=0) rfl hlow)))) (fun _=>⟨kr⟩) ?_)
 rintro v4 w a ⟨ad6,cap7,rfl,hQ⟩ hF
 replace hS:St w0 [arr 25 2 api_Span.cells ad6 y5.length cap7 y5,fz w0 μ] w:=hS.madeL hQ
 refine rn 1 3 [(3,sv ad6 y5 cap7)] hF fun a hF=>?_
 refine wfn rfl ?_
 refine esr ?_
 refine rn 1 1 [(3,sv ad6 y5 cap7),(10,sv ad6 y5 cap7)] hF fun a hF=>?_
 replace h:=A5 h
 obtain ⟨y9,hy9,h⟩:=h
 refine SK.wi (A7t (f:=100) (args:=#[sv ad6 y5 cap7,.func (.func 101) #[] #[]]) (R:=fun v w2=>v=.tuple #[]∧y5.length=y9.length∧St w0 [arr 25 2 api_Span.cells ad6 y9.length cap7 y9,fz w0 μ] w2) (fun v8=>[(3,sv ad6 y5 cap7)]) hF kr ⟨kr⟩ (Calls.mono (Nj F y5 _ hy9 hS (i:=0) rfl) (fun e w2 h=>⟨_,h.1,rfl,h.2.1,h.2.2⟩)) (fun _=>⟨kr⟩) ?_)
 rintro v8 w a ⟨rfl,hl,hS⟩ hF
 simp only [sv,ln,hl] at hF hS
 refine wfn rfl ?_
 refine esr ?_
 refine rn 1 1 [(3,sv ad6 y9 cap7),(4,.slice none 0 0)] hF fun a hF=>?_
 refine wfn rfl ?_
 refine Eb (fun a w=>∃(a6:(List api_Span)) (a9:Option Addr) (aB:Nat),Fr 53 [] [(4,sv a9 a6 aB)] a∧St w0 [arr 25 2 api_Span.cells a9 a6.length aB a6,arr 25 2 api_Span.cells ad6 y9.length cap7 y9,fz w0 μ] w∧Gq a6=some res) ?_ ?_
 ·skip
  refine esr ?_
  refine rn 3 3 [(4,.slice none 0 0),(12,sv ad6 y9 cap7),(13,iv (ln y9)),(14,iv 0)] hF fun a hF=>?_
  refine wfn rfl ?_
  refine wpIn_block ?_
  replace hS:=hS.nilarr 25 2 api_Span.cells
  refine D2 (fun n_ a w=>∃(a3:Int) (a0:(List api_Span)) (a2:Option Addr) (a4:Nat),Fr 53 [] [(4,sv a2 a0 a4),(12,sv ad6 y9 cap7),(13,iv (ln y9)),(14,iv a3)] a∧St w0 [arr 25 2 api_Span.cells a2 a0.length a4 a0,arr 25 2 api_Span.cells ad6 y9.length cap7 y9,fz w0 μ] w∧Ay y9 n_ a3 a0=some res) F ⟨0,[],none,0,hF.sub kr,St.pick [0,1,2] (by decide) hS,h⟩ ?_
  rintro nk2 a w ⟨a3,a0,a2,a4,hF,hS,h⟩
  rcases nk2 with _|nk2
  ·cases (show (none:Option (List api_Span))=some res from h)
  obtain ⟨k2,hk2⟩:∃k,k=Ay y9 nk2:=⟨_,rfl⟩
  replace h:Bl y9 k2 a3 a0=some res:=by rw [hk2];exact h
  rw [Bl] at h
  refine esr ?_
  refine rn 1 1 [(4,sv a2 a0 a4),(12,sv ad6 y9 cap7),(13,iv (ln y9)),(14,iv a3),(15,.bool (decide (a3<(ln y9))))] hF fun a hF=>?_
  refine wfn rfl ?_
  refine Ba ?_
  refine Ar hF rfl (fun hc=>?_) (fun hc=>?_)
  ·replace h:=Al h hc
   refine wpIn_skip (A4 ?_)
   refine Eb (fun a w=>∃(a7:(List api_Span)) (aA:Option Addr) (aC:Nat),Fr 53 [] [(4,sv aA a7 aC),(12,sv ad6 y9 cap7),(13,iv (ln y9)),(14,iv a3)] a∧St w0 [arr 25 2 api_Span.cells aA a7.length aC a7,arr 25 2 api_Span.cells ad6 y9.length cap7 y9,fz w0 μ] w∧Cr a3 k2 a7=some res) ?_ ?_
   ·skip
    refine wpIn_block ?_
    refine esr ?_
    replace h:=A5 h
    obtain ⟨a1,aL,h⟩:=h
    refine rno 2 [.run [] (Instr.indexAt 132 (sv ad6 y9 cap7) (iv a3)) (.pointer (some (A3 ad6 a3 2))),.run [] (Instr.loadAt 25 (.pointer (some (A3 ad6 a3 2)))) (.agg #[iv a1.Lo,iv a1.Hi])] 2 [(4,sv a2 a0 a4),(12,sv ad6 y9 cap7),(13,iv (ln y9)),(14,iv a3),(17,.agg #[iv a1.Lo,iv a1.Hi])] hF (A0 (A8 (hS.arr (i:=1) rfl) kr (fun _=>aL)) (A0 (Dx (m:=2) (i:=a3) (us:=[iv a1.Lo,iv a1.Hi]) 0 api_Span.cells_len (fun _ hd=>((hS.at_ hd).arr (i:=1) rfl)) kr (fun _=>aL) ⟨rfl,rfl⟩) Af)) fun a hF=>?_
    refine SK.wi (Bu (t:=25) (fun a5=>[(4,sv a2 a0 a4),(6,pb a5),(12,sv ad6 y9 cap7),(13,iv (ln y9)),(14,iv a3),(17,.agg #[iv a1.Lo,iv a1.Hi])]) #[iv 0,iv 0] hF hS kr ⟨kr⟩ kr (fun _=>⟨kr⟩) fun a5 w a hF hS=>?_)
    refine SK.wi (storeK (t:=25) [(4,sv a2 a0 a4),(6,pb a5),(12,sv ad6 y9 cap7),(13,iv (ln y9)),(14,iv a3)] 0 0 (.agg #[iv a1.Lo,iv a1.Hi]) #[iv a1.Lo,iv a1.Hi] hF hS rfl kr ⟨kr⟩ kr kr kr kr ⟨kr⟩ fun w a hF hS=>?_)
    refine wfn rfl ?_
    refine esr ?_
    refine rn 3 3 [(4,sv a2 a0 a4),(6,pb a5),(7,iv (ln a0)),(12,sv ad6 y9 cap7),(13,iv (ln y9)),(14,iv a3)] hF fun a hF=>?_
    refine wfn rfl ?_
    refine Ba ?_
    replace h:=A5 h
    obtain ⟨aD,aU,h⟩:=h
    replace h:=A5 h
    obtain ⟨aP,aM,h⟩:=h
    refine L8 (obs:=[.run [⟨22,true,(decide ((ln a0)>0))⟩] (Instr.loadAt 3 (pb a5)) (iv a1.Lo),.run [⟨22,true,(decide ((ln a0)>0))⟩] (binOp .sub 3 (iv (ln a0)) (iv 1)) (iv aD),.run [⟨22,true,(decide ((ln a0)>0))⟩] (Instr.indexAt 132 (sv a2 a0 a4) (iv aD)) (.pointer (some (A3 a2 aD 2))),.run [⟨22,true,(decide ((ln a0)>0))⟩] (Instr.loadAt 3 (.pointer (some ((A3 a2 aD 2).add 1)))) (iv aP.Hi)]) 13 [(4,sv a2 a0 a4),(6,pb a5),(7,iv (ln a0)),(12,sv ad6 y9 cap7),(13,iv (ln y9)),(14,iv a3),(32,.bool (bif (decide ((ln a0)>0)) then (decide (a1.Lo≤aP.Hi)) else false))] kr hF kr (A0 (ob1 kr (fun _ hd=>(hS.later hd).cell (i:=0) (j:=0) rfl rfl)) (A0 (Dl (fun hk=>Di aU hk)) (A0 (A8 (hS.arr (i:=1) rfl) kr (fun hk=>Di aM hk)) (A0 (An (i:=aD) 1 api_Span.cells_len (fun _ hd=>((hS.later hd).arr (i:=1) rfl)) kr (fun hk=>Di aM hk) rfl) Af)))) ⟨kr⟩ fun a w hF hx=>?_
    replace hS:=hS.later hx
    refine wfn rfl ?_
    refine Ar hF rfl (fun hc=>?_) (fun hc=>?_)
    ·replace h:=Al h hc
     replace h:=A5 h
     obtain ⟨aE,aV,h⟩:=h
     replace h:=A5 h
     obtain ⟨aF,aW,h⟩:=h
     replace h:=A5 h
     obtain ⟨a8,aN,h⟩:=h
     replace h:=A5 h
     obtain ⟨aQ,aO,h⟩:=h
     refine L8 (obs:=[.run [] (binOp .sub 3 (iv (ln a0)) (iv 1)) (iv aE),.run [] (binOp .sub 3 (iv (ln a0)) (iv 1)) (iv aF),.run [] (Instr.indexAt 132 (sv a2 a0 a4) (iv aF)) (.pointer (some (A3 a2 aF 2))),.run [] (Instr.loadAt 3 (.pointer (some ((A3 a2 aF 2).add 1)))) (iv a8.Hi),.run [] (Instr.loadAt 3 (.pointer (some ⟨a5,1,none⟩))) (iv a1.Hi),.run [] (Instr.indexAt 132 (sv a2 a0 a4) (iv aE)) (.pointer (some (A3 a2 aE 2)))]) 14 [(4,sv a2 a0 a4),(12,sv ad6 y9 cap7),(13,iv (ln y9)),(14,iv a3),(44,iv (if a1.Hi>a8.Hi then a1.Hi else a8.Hi)),(46,.pointer (some ((A3 a2 aE 2).add 1)))] kr hF kr (A0 (Dl (fun _=>aV)) (A0 (Dl (fun _=>aW)) (A0 (A8 (hS.arr (i:=1) rfl) kr (fun _=>aN)) (A0 (An (i:=aF) 1 api_Span.cells_len (fun _ hd=>((hS.later hd).arr (i:=1) rfl)) kr (fun _=>aN) rfl) (A0 (ob1 kr (fun _ hd=>(hS.later hd).cell (i:=0) (j:=1) rfl rfl)) (A0 (A8 (hS.arr (i:=1) rfl) kr (fun _=>aO)) Af)))))) ⟨kr⟩ fun a w hF hx=>?_
     replace hS:=hS.later hx
     replace h:=A5 h
     obtain ⟨aX,aR,h⟩:=h
     refine SK.wi (A7b (j:=aE) (t:=3) [(4,sv a2 a0 a4),(12,sv ad6 y9 cap7),(13,iv (ln y9)),(14,iv a3)] 1 1 aQ (api_Span.mk aQ.Lo (if a1.Hi>a8.Hi then a1.Hi else a8.Hi)) (iv (if a1.Hi>a8.Hi then a1.Hi else a8.Hi)) hF hS rfl kr ⟨kr⟩ api_Span.cells_len aO rfl kr kr kr aR ⟨kr⟩ fun w a hF hl hS=>?_)
     simp only [sv,ln,hl] at hF hS
     refine WI.fin rfl (Ab<|A4<|?_)
     exact ⟨aX,a2,a4,hF.sub kr,St.pick [1,2,3] (by decide) hS,h⟩
    ·replace h:=Ak h hc
     refine WI.region ?_
     refine rno 2 [.run [] (Instr.loadAt 25 (pb a5)) (.agg #[iv a1.Lo,iv a1.Hi])] 2 [(4,sv a2 a0 a4),(12,sv ad6 y9 cap7),(13,iv (ln y9)),(14,iv a3),(47,sv a2 a0 a4),(48,.agg #[iv a1.Lo,iv a1.Hi])] hF (A0 (obN (us:=[iv a1.Lo,iv a1.Hi]) kr (fun _ hd=>((hS.at_ hd).blk (i:=0) rfl).cells rfl)) Af) fun a hF=>?_
     refine SK.wi (U9 (e:=25) (sz:=2) (f:=api_Span.cells) (t:=132) (len:=1) (fun aK=>[(4,sv a2 a0 a4),(12,sv ad6 y9 cap7),(13,iv (ln y9)),(14,iv a3),(47,sv a2 a0 a4),(49,sb aK 1)]) #[(0,.agg #[iv a1.Lo,iv a1.Hi])] #[iv a1.Lo,iv a1.Hi] ([a1]) hF hS kr ⟨kr⟩ kr api_Span.cells_len rfl rfl kr (fun _=>⟨kr⟩) fun aK w a hF hS=>?_)
     replace h:=A5 h
     obtain ⟨aI,aS,h⟩:=h
     refine SK.wi (Wj (t:=132) (ty:=132) (bytes:=16) (l:=a0) (l':=([a1])) (fun aG aH=>[(4,sv a2 a0 a4),(12,sv ad6 y9 cap7),(13,iv (ln y9)),(14,iv a3),(50,sv aG aI aH)]) 2 hF hS rfl kr ⟨kr⟩ kr (hS.arr (i:=0) rfl) (fun _ _=>rfl) aS (fun _ _=>⟨kr⟩) fun aG aH w a hF hS=>?_)
     refine rn 1 5 [(4,sv aG aI aH),(12,sv ad6 y9 cap7),(13,iv (ln y9)),(14,iv a3)] hF fun a hF=>?_
     refine WI.fin rfl (Ab<|A4<|?_)
     exact ⟨aI,aG,aH,hF.sub kr,St.pick [2,3,4] (by decide) hS,h⟩
   rintro a w ⟨a7,aA,aC,hF,hS,h⟩
   rw [Cr] at h
   refine WI.region ?_
   replace h:=A5 h
   obtain ⟨aJ,aT,h⟩:=h
   refine rno 2 [.run [] (binOp .add 3 (iv a3) (iv 1)) (iv aJ)] 2 [(4,sv aA a7 aC),(12,sv ad6 y9 cap7),(13,iv (ln y9)),(14,iv aJ)] hF (A0 (Bg (fun _=>aT)) Af) fun a hF=>?_
   refine wfn rfl ?_
   rw [hk2] at h
   exact ⟨nk2,Nat.lt_succ_self _,aJ,a7,aA,aC,hF.sub kr,St.pick [0,1,2] (by decide) hS,h⟩
  ·replace h:=Ak h hc
   refine wpIn_exit (A6<|A6<|Ai<|A4 ?_)
   exact ⟨a0,a2,a4,hF.sub kr,St.pick [0,1,2] (by decide) hS,h⟩
 rintro a w ⟨a6,a9,aB,hF,hS,h⟩
 rw [Gq] at h
 refine esr ?_
 refine rn 2 2 [(2,sv a9 a6 aB)] hF fun a hF=>?_
 refine wfn rfl ?_
 refine wpIn_ret (B6 [.tmp 2] [sv a9 a6 aB] hF rfl ⟨rfl,trivial⟩ ?_)
 have hr_:=Option.some.inj h
 subst hr_
 exact ⟨_,rfl,_,_,rfl,St.pick [0] (by decide) hS⟩
theorem Qj (F:Nat) (p0:(List (List api_Span))) (res:(List (List api_Span))) (h:K5 F p0=some res) (μ:Frz) (w0:World) (hm:FrzAt μ w0) {ad1:Option Addr} {cap2:Nat} {css3:List (List Value)} (hA4:ArrQ μ 1 Rp132 ad1 cap2 css3 p0):F1 Try.prog 70 #[sv ad1 p0 cap2] w0 (fun e w=>∃(ν_:Frz) (zad0:Option Addr) (zcap0:Nat) (zcss0:List (List Value)),μ.ext w0.heap.size ν_∧e=(sv zad0 res zcap0)∧All2 (Rp43 ν_) zcss0 res∧St w0 [fz w0 ν_,arr 43 1 (fN 1) zad0 res.length zcap0 zcss0] w):=by
 obtain ⟨hlow,hS⟩:=hm.init
 have hext:=Frz.ext_refl w0.heap.size μ
 rw [K5] at h
 refine B5 Try.func70 rfl 19 [(0,sv ad1 p0 cap2)] rfl rfl kr fun a w hw hF=>?_
 replace hS:St w0 [fz w0 μ] w:=by rw [hw];exact hS
 clear hw
 refine esr ?_
 refine rn 1 1 [(0,sv ad1 p0 cap2)] hF fun a hF=>?_
 refine wfn rfl ?_
 refine esr ?_
 refine rn 1 1 [(0,sv ad1 p0 cap2),(3,.slice none 0 0)] hF fun a hF=>?_
 refine wfn rfl ?_
 have a9:=Frz.le_refl μ
 refine Eb (fun a w=>∃(a8:(List (List api_Span))) (ν91:Frz) (aC:Option Addr) (aE:Nat) (aL:List (List Value)),Fr 19 [] [(3,sv aC a8 aE)] a∧St w0 [arr 43 1 (fN 1) aC a8.length aE aL,fz w0 ν91] w∧(All2 (Rp43 ν91) aL a8)∧(μ.le ν91)∧(μ.ext w0.heap.size ν91)∧(Bm w0 ν91)∧Mu a8=some res) ?_ ?_
 ·skip
  refine esr ?_
  refine rn 3 3 [(3,.slice none 0 0),(6,sv ad1 p0 cap2),(7,iv (ln p0)),(8,iv 0)] hF fun a hF=>?_
  refine wfn rfl ?_
  refine wpIn_block ?_
  have aQ:=Frz.le_refl μ
  replace hS:=hS.nilarr 43 1 (fN 1)
  refine D2 (fun n_ a w=>∃(a0:(List (List api_Span))) (a1:Int) (ν153:Frz) (a2:Option Addr) (a3:Nat) (a7:List (List Value)),Fr 19 [] [(3,sv a2 a0 a3),(6,sv ad1 p0 cap2),(7,iv (ln p0)),(8,iv a1)] a∧St w0 [arr 43 1 (fN 1) a2 a0.length a3 a7,fz w0 ν153] w∧(All2 (Rp43 ν153) a7 a0)∧(μ.le ν153)∧(μ.ext w0.heap.size ν153)∧(Bm w0 ν153)∧Fd F p0 n_ a0 a1=some res) F ⟨[],0,μ,none,0,[],hF.sub kr,St.pick [0,1] (by decide) hS,All2.nil,aQ,hext,hlow,h⟩ ?_
  clear aQ
  rintro nk2 a w ⟨a0,a1,ν153,a2,a3,a7,hF,hS,aH,aF,hext,hlow,h⟩
  rcases nk2 with _|nk2
  ·cases (show (none:Option (List (List api_Span)))=some res from h)
  replace hA4:=hA4.mono Rp132.mono aF
  replace a9:=Frz.le_trans a9 aF
  obtain ⟨k2,hk2⟩:∃k,k=Fd F p0 nk2:=⟨_,rfl⟩
  replace h:Ge F p0 k2 a0 a1=some res:=by rw [hk2];exact h
  rw [Ge] at h
  refine esr ?_
  refine rn 1 1 [(3,sv a2 a0 a3),(6,sv ad1 p0 cap2),(7,iv (ln p0)),(8,iv a1),(9,.bool (decide (a1<(ln p0))))] hF fun a hF=>?_
  refine wfn rfl ?_
  refine Ba ?_
  refine Ar hF rfl (fun hc=>?_) (fun hc=>?_)
  ·replace h:=Al h hc
   refine wpIn_skip (A4 ?_)
   refine Ba ?_
   refine wpIn_block ?_
   refine esr ?_
   replace h:=A5 h
   obtain ⟨aI,aZ,h⟩:=h
   obtain ⟨b3,aP,aV⟩:=Ae hA4.2 aZ
   obtain ⟨aJ,aK,rfl,aM⟩:=aV
   refine rno 3 [.run [] (Instr.indexAt 135 (sv ad1 p0 cap2) (iv a1)) (.pointer (some (A3 ad1 a1 1))),.run [] (Instr.loadAt 132 (.pointer (some (A3 ad1 a1 1)))) (sv aJ aI aK)] 3 [(3,sv a2 a0 a3),(5,sv aJ aI aK),(6,sv ad1 p0 cap2),(7,iv (ln p0)),(8,iv a1)] hF (A0 (A8 (hA4.at (hS.frz (i:=1) rfl hlow)) kr (fun _=>aP)) (A0 (An (i:=a1) 0 (As 1) (fun _ hd=>(hA4.at ((hS.at_ hd).frz (i:=1) rfl hlow))) kr (fun _=>aP) rfl) Af)) fun a hF=>?_
   refine wfn rfl ?_
   refine WI.region ?_
   refine rn 2 2 [(3,sv a2 a0 a3),(6,sv ad1 p0 cap2),(7,iv (ln p0)),(8,iv a1),(12,sv a2 a0 a3),(13,sv aJ aI aK)] hF fun a hF=>?_
   replace h:=A5 h
   obtain ⟨a4,b1,h⟩:=h
   refine SK.wi (Es (fun aT=>[(3,sv a2 a0 a3),(6,sv ad1 p0 cap2),(7,iv (ln p0)),(8,iv a1),(12,sv a2 a0 a3),(14,aT)]) hF kr ⟨kr⟩ (Ep F aI _ b1 (Ci w) w (Aj w) (aM.mono (FrzAt.le_mem (hS.frz (i:=1) rfl hlow)))) (fun _=>⟨kr⟩) ?_)
   rintro aT w a ⟨a5,a6,rfl,hQ⟩ hF
   replace hS:St w0 [arr 25 2 api_Span.cells a5 a4.length a6 a4,arr 43 1 (fN 1) a2 a0.length a3 a7,fz w0 ν153] w:=hS.madeL hQ
   obtain ⟨ν174,aA,hlow,hS,b2⟩:=hS.freeze (i:=2) (j:=0) rfl rfl (by decide) hlow
   replace hA4:=hA4.mono Rp132.mono aA.1
   replace aH:=All2.mono Rp43.mono aA.1 aH
   replace aM:=aM.mono aA.1
   replace a9:=Frz.le_trans a9 aA.1
   replace aF:=Frz.le_trans aF aA.1
   replace hext:=Frz.ext_trans hext aA
   replace hS:St w0 [arr 43 1 (fN 1) a2 a0.length a3 a7,fz w0 ν174] w:=hS
   have aU:=ArrM.of_arr b2
   have aS:All2 (Rp43 ν174) ([[sv a5 a4 a6]]:List (List Value)) [a4]:=(All2.cons ⟨a5,a6,rfl,aU⟩ All2.nil)
   refine SK.wi (Sb (e:=43) (sz:=1) (f:=fN 1) (t:=48) (len:=1) (fun aO=>[(3,sv a2 a0 a3),(6,sv ad1 p0 cap2),(7,iv (ln p0)),(8,iv a1),(12,sv a2 a0 a3),(15,sb aO 1)]) #[(0,sv a5 a4 a6)] #[sv a5 a4 a6] ([[sv a5 a4 a6]]:List (List Value)) ([a4]) hF hS kr ⟨kr⟩ kr (As 1) rfl rfl rfl kr (fun _=>⟨kr⟩) fun aO w a hF hS=>?_)
   replace h:=A5 h
   obtain ⟨aG,aR,h⟩:=h
   have aX:All2 (Rp43 ν174) (a7++([[sv a5 a4 a6]]:List (List Value))) aG:=by rw [(G1 aR).1];exact All2.app aH aS
   refine SK.wi (Ps (t:=48) (ty:=48) (bytes:=24) (c:=a7) (c':=([[sv a5 a4 a6]]:List (List Value))) (l:=a0) (l':=([a4])) (fun aB aD=>[(3,sv a2 a0 a3),(6,sv ad1 p0 cap2),(7,iv (ln p0)),(8,iv a1),(16,sv aB aG aD)]) 1 hF hS rfl kr ⟨kr⟩ kr (hS.arr (i:=0) rfl) (ArrQ.one aS Rp43.one) aR (fun _ _=>⟨kr⟩) fun aB aD w a hF hS=>?_)
   refine rn 1 6 [(3,sv aB aG aD),(6,sv ad1 p0 cap2),(7,iv (ln p0)),(8,iv a1)] hF fun a hF=>?_
   refine WI.fin rfl (Ab<|A4<|?_)
   refine WI.region ?_
   replace h:=A5 h
   obtain ⟨aN,b0,h⟩:=h
   refine rno 2 [.run [] (binOp .add 3 (iv a1) (iv 1)) (iv aN)] 2 [(3,sv aB aG aD),(6,sv ad1 p0 cap2),(7,iv (ln p0)),(8,iv aN)] hF (A0 (Bg (fun _=>b0)) Af) fun a hF=>?_
   refine wfn rfl ?_
   rw [hk2] at h
   exact ⟨nk2,Nat.lt_succ_self _,aG,aN,ν174,aB,aD,(a7++([[sv a5 a4 a6]]:List (List Value))),hF.sub kr,St.pick [1,2] (by decide) hS,aX,aF,hext,hlow,h⟩
  ·replace h:=Ak h hc
   refine wpIn_exit (A6<|A6<|Ai<|A4 ?_)
   exact ⟨a0,ν153,a2,a3,a7,hF.sub kr,St.pick [0,1] (by decide) hS,aH,a9,hext,hlow,h⟩
 clear a9
 rintro a w ⟨a8,ν91,aC,aE,aL,hF,hS,aY,aW,hext,hlow,h⟩
 replace hA4:=hA4.mono Rp132.mono aW
 rw [Mu] at h
 refine esr ?_
 refine rn 2 2 [(2,sv aC a8 aE)] hF fun a hF=>?_
 refine wfn rfl ?_
 refine wpIn_ret (B6 [.tmp 2] [sv aC a8 aE] hF rfl ⟨rfl,trivial⟩ ?_)
 have hr_:=Option.some.inj h
 subst hr_
 exact ⟨_,rfl,ν91,_,_,_,hext,rfl,aY,St.pick [1,0] (by decide) hS⟩
theorem Va (F:Nat) (p0:(List (List (List api_Span)))) (p1:Int) (p2:Int) (res:fold_web) (h:Mv F p0 p1 p2=some res) (μ:Frz) (w0 w1:World) (T_:List Res) (hlow:Bm w0 μ) {ad1:Option Addr} {cap2:Nat} {css3:List (List Value)} (hA4:ArrQ μ 1 Rp135 ad1 cap2 css3 p0) (hS:St w0 (fz w0 μ::T_) w1):F1 Try.prog 104 #[sv ad1 p0 cap2,iv p1,iv p2] w1 (fun e w=>∃(ν_:Frz) (d6:Nat) (d5:Option Addr) (d8:Nat) (dF:List Hd) (d9:List (List (List Value))) (dR:Nat) (B24910:List (fold_place×Hd)) (dA:List (List fold_bond)),μ.ext w0.heap.size ν_∧Bm w0 ν_∧e=(pb d6)∧(NestOk (Rp132 ν_) dF d9 res.sets)∧(MNestOk Eq B24910 dA res.bonds)∧St w0 (fz w0 ν_::blk d6 197 #[sv d5 res.sets d8,.map (some dR)]::A9 135 132 1 (fN 1) d5 res.sets.length d8 dF d9::Ah (fA fold_place.cells) 199 3 fold_bond.cells dR B24910 dA::T_) w):=by
 rw [Mv] at h
 have hext:=Frz.ext_refl w0.heap.size μ
 refine B5 Try.func104 rfl 118 [(0,sv ad1 p0 cap2),(1,iv p1),(2,iv p2)] rfl rfl kr fun a w hw hF=>?_
 replace hS:St w0 (fz w0 μ::T_) w:=by rw [hw];exact hS
 clear hw
 refine esr ?_
 refine rn 1 1 [(0,sv ad1 p0 cap2),(1,iv p1),(2,iv p2)] hF fun a hF=>?_
 refine wfn rfl ?_
 refine esr ?_
 have hq6:MNestOk Eq ([]:List (fold_place×Hd)) ([]:List (List fold_bond)) ([]:List (fold_place×(List fold_bond))):=MNestOk.nil
 refine SK.wi (A2k fold_place fold_bond (fA fold_place.cells) 199 3 fold_bond.cells (t:=195) (fun m5=>[(0,sv ad1 p0 cap2),(1,iv p1),(2,iv p2),(16,.map (some m5))]) hF hS kr ⟨kr⟩ (fun _=>⟨kr⟩) fun m5 w a hF hS=>?_)
 refine rn 1 2 [(0,sv ad1 p0 cap2),(1,iv p1),(2,iv p2),(17,.agg #[.slice none 0 0,.map (some m5)])] hF fun a hF=>?_
 refine SK.wi (Tg (t:=197) (fun b7=>[(0,sv ad1 p0 cap2),(1,iv p1),(2,iv p2),(18,pb b7)]) (.agg #[.slice none 0 0,.map (some m5)]) #[.slice none 0 0,.map (some m5)] hF hS kr ⟨kr⟩ kr (fun _=>⟨kr⟩) fun b7 w a hF hS=>?_)
 refine rn 1 4 [(0,sv ad1 p0 cap2),(1,iv p1),(2,iv p2),(7,pb b7)] hF fun a hF=>?_
 refine wfn rfl ?_
 refine esr ?_
 refine rn 3 3 [(0,sv ad1 p0 cap2),(1,iv p1),(2,iv p2),(7,pb b7),(8,iv (ln p0))] hF fun a hF=>?_
 refine wfn rfl ?_
 have aA:=Frz.le_refl μ
 refine Eb (fun a w=>∃(bD:(List (List (List api_Span)))) (cX:(List (fold_place×(List fold_bond)))) (ν12449:Frz) (bF:Option Addr) (bH:Nat) (bZ:List Hd) (bX:List (List (List Value))) (B12457:List (fold_place×Hd)) (bY:List (List fold_bond)),Fr 118 [] [(7,pb b7)] a∧St w0 (A9 135 132 1 (fN 1) bF bD.length bH bZ bX::blk b7 197 #[sv bF bD bH,.map (some m5)]::Ah (fA fold_place.cells) 199 3 fold_bond.cells m5 B12457 bY::fz w0 ν12449::T_) w∧(NestOk (Rp132 ν12449) bZ bX bD)∧(MNestOk Eq B12457 bY cX)∧(μ.le ν12449)∧(μ.ext w0.heap.size ν12449)∧(Bm w0 ν12449)∧M0 bD cX=some res) ?_ ?_
 ·skip
  refine esr ?_
  refine rn 3 3 [(0,sv ad1 p0 cap2),(1,iv p1),(2,iv p2),(7,pb b7),(8,iv (ln p0)),(21,sv ad1 p0 cap2),(22,iv (ln p0)),(23,iv 0)] hF fun a hF=>?_
  refine wfn rfl ?_
  refine wpIn_block ?_
  have dG:=Frz.le_refl μ
  replace hS:=hS.nilNest 135 132 1 (fN 1)
  refine D2 (fun n_ a w=>∃(aP:(List (List (List api_Span)))) (c0:(List (fold_place×(List fold_bond)))) (a2:Int) (ν20751:Frz) (aT:Option Addr) (aU:Nat) (bM:List Hd) (bJ:List (List (List Value))) (B20759:List (fold_place×Hd)) (bK:List (List fold_bond)),Fr 118 [] [(0,sv ad1 p0 cap2),(1,iv p1),(2,iv p2),(7,pb b7),(8,iv (ln p0)),(21,sv ad1 p0 cap2),(22,iv (ln p0)),(23,iv a2)] a∧St w0 (A9 135 132 1 (fN 1) aT aP.length aU bM bJ::blk b7 197 #[sv aT aP aU,.map (some m5)]::Ah (fA fold_place.cells) 199 3 fold_bond.cells m5 B20759 bK::fz w0 ν20751::T_) w∧(NestOk (Rp132 ν20751) bM bJ aP)∧(MNestOk Eq B20759 bK c0)∧(μ.le ν20751)∧(μ.ext w0.heap.size ν20751)∧(Bm w0 ν20751)∧E0 F p0 p1 p2 n_ aP c0 a2=some res) F ⟨[],([]:List (fold_place×(List fold_bond))),0,μ,none,0,[],[],([]:List (fold_place×Hd)),([]:List (List fold_bond)),hF.sub kr,St.pickT (A:=[A9 135 132 1 (fN 1) none ([]:List (List (List api_Span))).length 0 ([]:List Hd) ([]:List (List (List Value))),blk b7 197 #[.slice none 0 0,.map (some m5)],Ah (fA fold_place.cells) 199 3 fold_bond.cells m5 ([]:List (fold_place×Hd)) ([]:List (List fold_bond)),fz w0 μ]) (T:=T_) [0,1,2,3] (by decide) hS,NestOk.nil,hq6,dG,hext,hlow,h⟩ ?_
  clear dG
  rintro nk2 a w ⟨aP,c0,a2,ν20751,aT,aU,bM,bJ,B20759,bK,hF,hS,aG,dJ,aB,hext,hlow,h⟩
  rcases nk2 with _|nk2
  ·cases (show (none:Option fold_web)=some res from h)
  replace hA4:=hA4.mono Rp135.mono aB
  replace aA:=Frz.le_trans aA aB
  obtain ⟨k2,hk2⟩:∃k,k=E0 F p0 p1 p2 nk2:=⟨_,rfl⟩
  replace h:Fk F p0 p1 p2 k2 aP c0 a2=some res:=by rw [hk2];exact h
  rw [Fk] at h
  refine esr ?_
  refine rn 1 1 [(0,sv ad1 p0 cap2),(1,iv p1),(2,iv p2),(7,pb b7),(8,iv (ln p0)),(21,sv ad1 p0 cap2),(22,iv (ln p0)),(23,iv a2),(24,.bool (decide (a2<(ln p0))))] hF fun a hF=>?_
  refine wfn rfl ?_
  refine Ba ?_
  refine Ar hF rfl (fun hc=>?_) (fun hc=>?_)
  ·replace h:=Al h hc
   refine wpIn_skip (A4 ?_)
   have aK:=Frz.le_refl ν20751
   refine Eb (fun a w=>∃(bO:(List (List (List api_Span)))) (cN:(List (fold_place×(List fold_bond)))) (ν22827:Frz) (bT:Option Addr) (bV:Nat) (cE:List Hd) (c8:List (List (List Value))) (B22835:List (fold_place×Hd)) (c9:List (List fold_bond)),Fr 118 [] [(0,sv ad1 p0 cap2),(1,iv p1),(2,iv p2),(7,pb b7),(8,iv (ln p0)),(21,sv ad1 p0 cap2),(22,iv (ln p0)),(23,iv a2)] a∧St w0 (A9 135 132 1 (fN 1) bT bO.length bV cE c8::blk b7 197 #[sv bT bO bV,.map (some m5)]::Ah (fA fold_place.cells) 199 3 fold_bond.cells m5 B22835 c9::fz w0 ν22827::T_) w∧(NestOk (Rp132 ν22827) cE c8 bO)∧(MNestOk Eq B22835 c9 cN)∧(ν20751.le ν22827)∧(μ.ext w0.heap.size ν22827)∧(Bm w0 ν22827)∧Ki a2 k2 bO cN=some res) ?_ ?_
   ·skip
    refine wpIn_block ?_
    refine esr ?_
    replace h:=A5 h
    obtain ⟨a5,eK,h⟩:=h
    obtain ⟨f6,dC,e3⟩:=Ae hA4.2 eK
    obtain ⟨a7,a8,f9,rfl,aJ⟩:=e3
    refine rno 5 [.run [] (Instr.indexAt 147 (sv ad1 p0 cap2) (iv a2)) (.pointer (some (A3 ad1 a2 1))),.run [] (Instr.loadAt 135 (.pointer (some (A3 ad1 a2 1)))) (sv a7 a5 a8)] 5 [(0,sv ad1 p0 cap2),(1,iv p1),(2,iv p2),(7,pb b7),(8,iv (ln p0)),(9,iv a2),(10,sv a7 a5 a8),(21,sv ad1 p0 cap2),(22,iv (ln p0)),(23,iv a2)] hF (A0 (A8 (hA4.at (hS.frz (i:=3) rfl hlow)) kr (fun _=>dC)) (A0 (An (i:=a2) 0 (As 1) (fun _ hd=>(hA4.at ((hS.at_ hd).frz (i:=3) rfl hlow))) kr (fun _=>dC) rfl) Af)) fun a hF=>?_
    refine wfn rfl ?_
    refine esr ?_
    refine rn 1 1 [(0,sv ad1 p0 cap2),(1,iv p1),(2,iv p2),(7,pb b7),(8,iv (ln p0)),(9,iv a2),(10,sv a7 a5 a8),(21,sv ad1 p0 cap2),(22,iv (ln p0)),(23,iv a2),(28,sv a7 a5 a8)] hF fun a hF=>?_
    replace h:=A5 h
    obtain ⟨a0,f0,h⟩:=h
    refine SK.wi (Es (fun dW=>[(0,sv ad1 p0 cap2),(1,iv p1),(2,iv p2),(7,pb b7),(8,iv (ln p0)),(9,iv a2),(10,sv a7 a5 a8),(21,sv ad1 p0 cap2),(22,iv (ln p0)),(23,iv a2),(29,dW)]) hF kr ⟨kr⟩ (Lz F a5 _ f0 (Ci w) w (Aj w) (aJ.mono Rp132.mono (FrzAt.le_mem (hS.frz (i:=3) rfl hlow)))) (fun _=>⟨kr⟩) ?_)
    rintro dW w a ⟨a1,a3,rfl,hQ⟩ hF
    replace hS:St w0 (arr 3 1 fI a1 a0.length a3 a0::A9 135 132 1 (fN 1) aT aP.length aU bM bJ::blk b7 197 #[sv aT aP aU,.map (some m5)]::Ah (fA fold_place.cells) 199 3 fold_bond.cells m5 B20759 bK::fz w0 ν20751::T_) w:=hS.madeL hQ
    refine rn 1 3 [(0,sv ad1 p0 cap2),(1,iv p1),(2,iv p2),(7,pb b7),(8,iv (ln p0)),(9,iv a2),(10,sv a7 a5 a8),(11,sv a1 a0 a3),(21,sv ad1 p0 cap2),(22,iv (ln p0)),(23,iv a2)] hF fun a hF=>?_
    refine wfn rfl ?_
    have aR:=Frz.le_refl ν20751
    refine Eb (fun a w=>∃(aC:(List (List (List api_Span)))) (cO:(List (fold_place×(List fold_bond)))) (ν23852:Frz) (aH:Option Addr) (aI:Nat) (b5:List Hd) (b1:List (List (List Value))) (B23860:List (fold_place×Hd)) (b2:List (List fold_bond)),Fr 118 [] [(0,sv ad1 p0 cap2),(1,iv p1),(2,iv p2),(7,pb b7),(8,iv (ln p0)),(10,sv a7 a5 a8),(21,sv ad1 p0 cap2),(22,iv (ln p0)),(23,iv a2)] a∧St w0 (A9 135 132 1 (fN 1) aH aC.length aI b5 b1::arr 3 1 fI a1 a0.length a3 a0::blk b7 197 #[sv aH aC aI,.map (some m5)]::Ah (fA fold_place.cells) 199 3 fold_bond.cells m5 B23860 b2::fz w0 ν23852::T_) w∧(NestOk (Rp132 ν23852) b5 b1 aC)∧(MNestOk Eq B23860 b2 cO)∧(ν20751.le ν23852)∧(μ.ext w0.heap.size ν23852)∧(Bm w0 ν23852)∧Et F a2 k2 a5 aC cO=some res) ?_ ?_
    ·skip
     refine esr ?_
     refine rn 3 3 [(0,sv ad1 p0 cap2),(1,iv p1),(2,iv p2),(7,pb b7),(8,iv (ln p0)),(9,iv a2),(10,sv a7 a5 a8),(11,sv a1 a0 a3),(21,sv ad1 p0 cap2),(22,iv (ln p0)),(23,iv a2),(30,sv a1 a0 a3),(31,iv (ln a0)),(32,iv 0)] hF fun a hF=>?_
     refine wfn rfl ?_
     refine wpIn_block ?_
     have dH:=Frz.le_refl ν20751
     refine D2 (fun n_ a w=>∃(aD:(List (List (List api_Span)))) (bS:(List (fold_place×(List fold_bond)))) (a4:Int) (ν24565:Frz) (aM:Option Addr) (aN:Nat) (b6:List Hd) (b3:List (List (List Value))) (B24573:List (fold_place×Hd)) (b4:List (List fold_bond)),Fr 118 [] [(0,sv ad1 p0 cap2),(1,iv p1),(2,iv p2),(7,pb b7),(8,iv (ln p0)),(9,iv a2),(10,sv a7 a5 a8),(11,sv a1 a0 a3),(21,sv ad1 p0 cap2),(22,iv (ln p0)),(23,iv a2),(30,sv a1 a0 a3),(31,iv (ln a0)),(32,iv a4)] a∧St w0 (A9 135 132 1 (fN 1) aM aD.length aN b6 b3::arr 3 1 fI a1 a0.length a3 a0::blk b7 197 #[sv aM aD aN,.map (some m5)]::Ah (fA fold_place.cells) 199 3 fold_bond.cells m5 B24573 b4::fz w0 ν24565::T_) w∧(NestOk (Rp132 ν24565) b6 b3 aD)∧(MNestOk Eq B24573 b4 bS)∧(ν20751.le ν24565)∧(μ.ext w0.heap.size ν24565)∧(Bm w0 ν24565)∧Dd F p0 p1 p2 a2 k2 a5 a0 n_ aD bS a4=some res) F ⟨aP,c0,0,ν20751,aT,aU,bM,bJ,B20759,bK,hF.sub kr,St.pickT (A:=[arr 3 1 fI a1 a0.length a3 a0,A9 135 132 1 (fN 1) aT aP.length aU bM bJ,blk b7 197 #[sv aT aP aU,.map (some m5)],Ah (fA fold_place.cells) 199 3 fold_bond.cells m5 B20759 bK,fz w0 ν20751]) (T:=T_) [1,0,2,3,4] (by decide) hS,aG,dJ,dH,hext,hlow,h⟩ ?_
     clear dH
     rintro nk5 a w ⟨aD,bS,a4,ν24565,aM,aN,b6,b3,B24573,b4,hF,hS,bC,cW,aL,hext,hlow,h⟩
     rcases nk5 with _|nk5
     ·cases (show (none:Option fold_web)=some res from h)
     replace hA4:=hA4.mono Rp135.mono aL
     replace aG:=aG.mono Rp132.mono aL
     replace aJ:=aJ.mono Rp132.mono aL
     replace aA:=Frz.le_trans aA aL
     replace aB:=Frz.le_trans aB aL
     replace aK:=Frz.le_trans aK aL
     replace aR:=Frz.le_trans aR aL
     obtain ⟨k5,hk5⟩:∃k,k=Dd F p0 p1 p2 a2 k2 a5 a0 nk5:=⟨_,rfl⟩
     replace h:Fl F p0 p1 p2 a2 k2 a5 a0 k5 aD bS a4=some res:=by rw [hk5];exact h
     rw [Fl] at h
     refine esr ?_
     refine rn 1 1 [(0,sv ad1 p0 cap2),(1,iv p1),(2,iv p2),(7,pb b7),(8,iv (ln p0)),(9,iv a2),(10,sv a7 a5 a8),(11,sv a1 a0 a3),(21,sv ad1 p0 cap2),(22,iv (ln p0)),(23,iv a2),(30,sv a1 a0 a3),(31,iv (ln a0)),(32,iv a4),(33,.bool (decide (a4<(ln a0))))] hF fun a hF=>?_
     refine wfn rfl ?_
     refine Ba ?_
     refine Ar hF rfl (fun hc=>?_) (fun hc=>?_)
     ·replace h:=Al h hc
      refine wpIn_skip (A4 ?_)
      have bA:=Frz.le_refl ν24565
      refine Eb (fun a w=>∃(bQ:(List (List (List api_Span)))) (cP:(List (fold_place×(List fold_bond)))) (ν24734:Frz) (bU:Option Addr) (bW:Nat) (cF:List Hd) (cA:List (List (List Value))) (B24742:List (fold_place×Hd)) (cB:List (List fold_bond)),Fr 118 [] [(0,sv ad1 p0 cap2),(1,iv p1),(2,iv p2),(7,pb b7),(8,iv (ln p0)),(9,iv a2),(10,sv a7 a5 a8),(11,sv a1 a0 a3),(21,sv ad1 p0 cap2),(22,iv (ln p0)),(23,iv a2),(30,sv a1 a0 a3),(31,iv (ln a0)),(32,iv a4)] a∧St w0 (A9 135 132 1 (fN 1) bU bQ.length bW cF cA::fz w0 ν24734::blk b7 197 #[sv bU bQ bW,.map (some m5)]::Ah (fA fold_place.cells) 199 3 fold_bond.cells m5 B24742 cB::arr 3 1 fI a1 a0.length a3 a0::T_) w∧(NestOk (Rp132 ν24734) cF cA bQ)∧(MNestOk Eq B24742 cB cP)∧(ν24565.le ν24734)∧(μ.ext w0.heap.size ν24734)∧(Bm w0 ν24734)∧Fp a4 k5 bQ cP=some res) ?_ ?_
      ·skip
       refine wpIn_block ?_
       refine esr ?_
       replace h:=A5 h
       obtain ⟨a6,dN,h⟩:=h
       refine rno 5 [.run [] (Instr.indexAt 60 (sv a1 a0 a3) (iv a4)) (.pointer (some (A3 a1 a4 1))),.run [] (Instr.loadAt 3 (.pointer (some (A3 a1 a4 1)))) (iv a6)] 5 [(0,sv ad1 p0 cap2),(1,iv p1),(2,iv p2),(7,pb b7),(8,iv (ln p0)),(9,iv a2),(10,sv a7 a5 a8),(11,sv a1 a0 a3),(12,iv a4),(13,iv a6),(21,sv ad1 p0 cap2),(22,iv (ln p0)),(23,iv a2),(30,sv a1 a0 a3),(31,iv (ln a0)),(32,iv a4)] hF (A0 (A8 (hS.arr (i:=1) rfl) kr (fun _=>dN)) (A0 (An (i:=a4) 0 K2 (fun _ hd=>((hS.at_ hd).arr (i:=1) rfl)) kr (fun _=>dN) rfl) Af)) fun a hF=>?_
       refine wfn rfl ?_
       have cG:=Frz.le_refl ν24565
       refine Eb (fun a w=>∃(a9:(List (List (List api_Span)))) (bR:(List (fold_place×(List fold_bond)))) (ν24770:Frz) (aE:Option Addr) (aF:Nat) (aX:List Hd) (aV:List (List (List Value))) (B24778:List (fold_place×Hd)) (aW:List (List fold_bond)),Fr 118 [] [(0,sv ad1 p0 cap2),(1,iv p1),(2,iv p2),(7,pb b7),(8,iv (ln p0)),(9,iv a2),(10,sv a7 a5 a8),(11,sv a1 a0 a3),(13,iv a6),(21,sv ad1 p0 cap2),(22,iv (ln p0)),(23,iv a2),(30,sv a1 a0 a3),(31,iv (ln a0)),(32,iv a4)] a∧St w0 (A9 135 132 1 (fN 1) aE a9.length aF aX aV::fz w0 ν24770::blk b7 197 #[sv aE a9 aF,.map (some m5)]::Ah (fA fold_place.cells) 199 3 fold_bond.cells m5 B24778 aW::arr 3 1 fI a1 a0.length a3 a0::T_) w∧(NestOk (Rp132 ν24770) aX aV a9)∧(MNestOk Eq B24778 aW bR)∧(ν24565.le ν24770)∧(μ.ext w0.heap.size ν24770)∧(Bm w0 ν24770)∧Gl F p0 p1 p2 a2 a4 k5 a6 a9 bR=some res) ?_ ?_
       ·skip
        refine esr ?_
        replace h:=A5 h
        obtain ⟨cH,eU,h⟩:=h
        replace h:=A5 h
        obtain ⟨dU,dO,h⟩:=h
        replace h:=A5 h
        obtain ⟨dZ,eV,h⟩:=h
        refine rno 13 [.run [⟨39,true,(decide (a4>0))⟩] (binOp .sub 3 (iv a4) (iv 1)) (iv cH),.run [⟨39,true,(decide (a4>0))⟩] (Instr.indexAt 60 (sv a1 a0 a3) (iv cH)) (.pointer (some (A3 a1 cH 1))),.run [⟨39,true,(decide (a4>0))⟩] (Instr.loadAt 3 (.pointer (some (A3 a1 cH 1)))) (iv dU),.run [⟨39,true,(decide (a4>0))⟩] (binOp .sub 3 (iv a6) (iv dU)) (iv dZ)] 13 [(0,sv ad1 p0 cap2),(1,iv p1),(2,iv p2),(7,pb b7),(8,iv (ln p0)),(9,iv a2),(10,sv a7 a5 a8),(11,sv a1 a0 a3),(12,iv a4),(13,iv a6),(21,sv ad1 p0 cap2),(22,iv (ln p0)),(23,iv a2),(30,sv a1 a0 a3),(31,iv (ln a0)),(32,iv a4),(49,.bool (bif (decide (a4>0)) then (decide (dZ≤p2)) else false))] hF (A0 (Dl (fun hk=>Di eU hk)) (A0 (A8 (hS.arr (i:=1) rfl) kr (fun hk=>Di dO hk)) (A0 (An (i:=cH) 0 K2 (fun _ hd=>((hS.at_ hd).arr (i:=1) rfl)) kr (fun hk=>Di dO hk) rfl) (A0 (Dl (fun hk=>Di eV hk)) Af)))) fun a hF=>?_
        refine wfn rfl ?_
        refine Ar hF rfl (fun hc=>?_) (fun hc=>?_)
        ·replace h:=Al h hc
         replace h:=A5 h
         obtain ⟨cI,eW,h⟩:=h
         replace h:=A5 h
         obtain ⟨cY,dP,h⟩:=h
         replace h:=A5 h
         obtain ⟨cJ,eX,h⟩:=h
         replace h:=A5 h
         obtain ⟨dV,dQ,h⟩:=h
         replace h:=A5 h
         obtain ⟨e0,eY,h⟩:=h
         replace h:=A5 h
         obtain ⟨d4,eZ,h⟩:=h
         refine L8 (obs:=[.run [] (binOp .sub 3 (iv a4) (iv 1)) (iv cI),.run [] (Instr.indexAt 60 (sv a1 a0 a3) (iv cI)) (.pointer (some (A3 a1 cI 1))),.run [] (Instr.loadAt 3 (.pointer (some (A3 a1 cI 1)))) (iv cY),.run [] (binOp .sub 3 (iv a4) (iv 1)) (iv cJ),.run [] (Instr.indexAt 60 (sv a1 a0 a3) (iv cJ)) (.pointer (some (A3 a1 cJ 1))),.run [] (Instr.loadAt 3 (.pointer (some (A3 a1 cJ 1)))) (iv dV),.run [] (binOp .sub 3 (iv a6) (iv dV)) (iv e0),.run [] (binOp .mul 3 (iv p1) (iv e0)) (iv d4)]) 20 [(0,sv ad1 p0 cap2),(1,iv p1),(2,iv p2),(7,pb b7),(8,iv (ln p0)),(9,iv a2),(10,sv a7 a5 a8),(11,sv a1 a0 a3),(13,iv a6),(21,sv ad1 p0 cap2),(22,iv (ln p0)),(23,iv a2),(30,sv a1 a0 a3),(31,iv (ln a0)),(32,iv a4),(50,pb b7),(57,.agg #[iv a2,iv cY]),(60,.agg #[iv a2,iv a6]),(69,iv d4)] kr hF kr (A0 (Dl (fun _=>eW)) (A0 (A8 (hS.arr (i:=1) rfl) kr (fun _=>dP)) (A0 (An (i:=cI) 0 K2 (fun _ hd=>((hS.later hd).arr (i:=1) rfl)) kr (fun _=>dP) rfl) (A0 (Dl (fun _=>eX)) (A0 (A8 (hS.arr (i:=1) rfl) kr (fun _=>dQ)) (A0 (An (i:=cJ) 0 K2 (fun _ hd=>((hS.later hd).arr (i:=1) rfl)) kr (fun _=>dQ) rfl) (A0 (Dl (fun _=>eY)) (A0 (Ul (fun _=>eZ)) Af)))))))) ⟨kr⟩ fun a w hF hx=>?_
         replace hS:=hS.later hx
         replace h:=A5 h
         obtain ⟨c2,f3,h⟩:=h
         replace hS:St w0 (A9 135 132 1 (fN 1) aM aD.length aN b6 b3::arr 3 1 fI a1 a0.length a3 a0::blk b7 197 #[sv aM aD aN,.map (some m5)]::Ah (fA fold_place.cells) 199 3 fold_bond.cells m5 B24573 b4::fz w0 ν24565::T_) w:=hS
         replace hS:St w0 (fz w0 ν24565::blk b7 197 #[sv aM aD aN,.map (some m5)]::A9 135 132 1 (fN 1) aM aD.length aN b6 b3::Ah (fA fold_place.cells) 199 3 fold_bond.cells m5 B24573 b4::arr 3 1 fI a1 a0.length a3 a0::T_) w:=St.pickT (A:=[A9 135 132 1 (fN 1) aM aD.length aN b6 b3,arr 3 1 fI a1 a0.length a3 a0,blk b7 197 #[sv aM aD aN,.map (some m5)],Ah (fA fold_place.cells) 199 3 fold_bond.cells m5 B24573 b4,fz w0 ν24565]) (T:=T_) [4,2,0,3,1] (by decide) hS
         refine SK.wi (Es (fun f5=>[(0,sv ad1 p0 cap2),(1,iv p1),(2,iv p2),(7,pb b7),(8,iv (ln p0)),(9,iv a2),(10,sv a7 a5 a8),(11,sv a1 a0 a3),(13,iv a6),(21,sv ad1 p0 cap2),(22,iv (ln p0)),(23,iv a2),(30,sv a1 a0 a3),(31,iv (ln a0)),(32,iv a4)]) hF kr ⟨kr⟩ (Lu F (fold_web.mk aD bS) (fold_place.mk a2 cY) (fold_place.mk a2 a6) d4 _ f3 ν24565 w0 w (arr 3 1 fI a1 a0.length a3 a0::T_) hlow bC cW hS) (fun _=>⟨kr⟩) ?_)
         rintro f5 w a ⟨ν24892,c4,c7,cV,cS,B24900,cT,aZ,hlow,rfl,eI,eJ,hS⟩ hF
         replace hext:=Frz.ext_trans hext aZ
         replace hA4:=hA4.mono Rp135.mono aZ.1
         replace aG:=aG.mono Rp132.mono aZ.1
         replace aJ:=aJ.mono Rp132.mono aZ.1
         replace aA:=Frz.le_trans aA aZ.1
         replace aB:=Frz.le_trans aB aZ.1
         replace aK:=Frz.le_trans aK aZ.1
         replace aR:=Frz.le_trans aR aZ.1
         replace aL:=Frz.le_trans aL aZ.1
         replace bA:=Frz.le_trans bA aZ.1
         replace cG:=Frz.le_trans cG aZ.1
         replace hS:St w0 (fz w0 ν24892::blk b7 197 #[sv c4 c2.sets c7,.map (some m5)]::A9 135 132 1 (fN 1) c4 c2.sets.length c7 cV cS::Ah (fA fold_place.cells) 199 3 fold_bond.cells m5 B24900 cT::arr 3 1 fI a1 a0.length a3 a0::T_) w:=hS
         refine wfn rfl ?_
         exact ⟨c2.sets,c2.bonds,ν24892,c4,c7,cV,cS,B24900,cT,hF.sub kr,St.pickT (A:=[fz w0 ν24892,blk b7 197 #[sv c4 c2.sets c7,.map (some m5)],A9 135 132 1 (fN 1) c4 c2.sets.length c7 cV cS,Ah (fA fold_place.cells) 199 3 fold_bond.cells m5 B24900 cT,arr 3 1 fI a1 a0.length a3 a0]) (T:=T_) [2,0,1,3,4] (by decide) hS,eI,eJ,cG,hext,hlow,h⟩
        ·replace h:=Ak h hc
         refine wpIn_skip (A4 ?_)
         exact ⟨aD,bS,ν24565,aM,aN,b6,b3,B24573,b4,hF.sub kr,St.pickT (A:=[A9 135 132 1 (fN 1) aM aD.length aN b6 b3,arr 3 1 fI a1 a0.length a3 a0,blk b7 197 #[sv aM aD aN,.map (some m5)],Ah (fA fold_place.cells) 199 3 fold_bond.cells m5 B24573 b4,fz w0 ν24565]) (T:=T_) [0,4,2,3,1] (by decide) hS,bC,cW,cG,hext,hlow,h⟩
       clear cG
       rintro a w ⟨a9,bR,ν24770,aE,aF,aX,aV,B24778,aW,hF,hS,dL,dM,aS,hext,hlow,h⟩
       replace hA4:=hA4.mono Rp135.mono aS
       replace aG:=aG.mono Rp132.mono aS
       replace aJ:=aJ.mono Rp132.mono aS
       replace bC:=bC.mono Rp132.mono aS
       replace aA:=Frz.le_trans aA aS
       replace aB:=Frz.le_trans aB aS
       replace aK:=Frz.le_trans aK aS
       replace aR:=Frz.le_trans aR aS
       replace aL:=Frz.le_trans aL aS
       replace bA:=Frz.le_trans bA aS
       rw [Gl] at h
       refine esr ?_
       refine rn 1 1 [(0,sv ad1 p0 cap2),(1,iv p1),(2,iv p2),(7,pb b7),(8,iv (ln p0)),(9,iv a2),(10,sv a7 a5 a8),(11,sv a1 a0 a3),(13,iv a6),(14,iv 1),(21,sv ad1 p0 cap2),(22,iv (ln p0)),(23,iv a2),(30,sv a1 a0 a3),(31,iv (ln a0)),(32,iv a4)] hF fun a hF=>?_
       refine wfn rfl ?_
       refine wpIn_block ?_
       refine D2 (fun n_ a w=>∃(b0:Int),Fr 118 [] [(0,sv ad1 p0 cap2),(1,iv p1),(2,iv p2),(7,pb b7),(8,iv (ln p0)),(9,iv a2),(10,sv a7 a5 a8),(11,sv a1 a0 a3),(13,iv a6),(14,iv b0),(21,sv ad1 p0 cap2),(22,iv (ln p0)),(23,iv a2),(30,sv a1 a0 a3),(31,iv (ln a0)),(32,iv a4)] a∧St w0 (A9 135 132 1 (fN 1) aE a9.length aF aX aV::fz w0 ν24770::blk b7 197 #[sv aE a9 aF,.map (some m5)]::Ah (fA fold_place.cells) 199 3 fold_bond.cells m5 B24778 aW::arr 3 1 fI a1 a0.length a3 a0::T_) w∧Eu F p0 p1 p2 a2 a4 k5 a6 a9 bR n_ b0=some res) F ⟨1,hF.sub kr,St.pickT (A:=[A9 135 132 1 (fN 1) aE a9.length aF aX aV,fz w0 ν24770,blk b7 197 #[sv aE a9 aF,.map (some m5)],Ah (fA fold_place.cells) 199 3 fold_bond.cells m5 B24778 aW,arr 3 1 fI a1 a0.length a3 a0]) (T:=T_) [0,1,2,3,4] (by decide) hS,h⟩ ?_
       rintro nk8 a w ⟨b0,hF,hS,h⟩
       rcases nk8 with _|nk8
       ·cases (show (none:Option fold_web)=some res from h)
       obtain ⟨k8,hk8⟩:∃k,k=Eu F p0 p1 p2 a2 a4 k5 a6 a9 bR nk8:=⟨_,rfl⟩
       replace h:Fo F p0 p1 p2 a2 a4 k5 a6 a9 bR k8 b0=some res:=by rw [hk8];exact h
       rw [Fo] at h
       refine Ba ?_
       refine esr ?_
       replace h:=A5 h
       obtain ⟨d1,eP,h⟩:=h
       refine rno 6 [.run [] (binOp .sub 3 (iv (ln p0)) (iv 1)) (iv d1)] 6 [(0,sv ad1 p0 cap2),(1,iv p1),(2,iv p2),(7,pb b7),(8,iv (ln p0)),(9,iv a2),(10,sv a7 a5 a8),(11,sv a1 a0 a3),(13,iv a6),(14,iv b0),(21,sv ad1 p0 cap2),(22,iv (ln p0)),(23,iv a2),(30,sv a1 a0 a3),(31,iv (ln a0)),(32,iv a4),(76,.bool (decide (b0≤(if d1<p2 then d1 else p2))))] hF (A0 (Dl (fun _=>eP)) Af) fun a hF=>?_
       refine wfn rfl ?_
       refine Ar hF rfl (fun hc=>?_) (fun hc=>?_)
       ·replace h:=Al h hc
        refine wpIn_skip (A4 ?_)
        refine Ba ?_
        refine wpIn_block ?_
        refine esr ?_
        replace h:=A5 h
        obtain ⟨dY,eQ,h⟩:=h
        replace h:=A5 h
        obtain ⟨bE,eR,h⟩:=h
        refine rno 6 [.run [] (binOp .add 3 (iv a2) (iv b0)) (iv dY),.run [] (binOp .rem 3 (iv dY) (iv (ln p0))) (iv bE)] 6 [(0,sv ad1 p0 cap2),(1,iv p1),(2,iv p2),(7,pb b7),(8,iv (ln p0)),(9,iv a2),(10,sv a7 a5 a8),(11,sv a1 a0 a3),(13,iv a6),(14,iv b0),(15,iv bE),(21,sv ad1 p0 cap2),(22,iv (ln p0)),(23,iv a2),(30,sv a1 a0 a3),(31,iv (ln a0)),(32,iv a4)] hF (A0 (Bg (fun _=>eQ)) (A0 (Lh (fun _=>eR)) Af)) fun a hF=>?_
        refine wfn rfl ?_
        refine esr ?_
        replace h:=A5 h
        obtain ⟨dS,eL,h⟩:=h
        obtain ⟨f7,dD,e4⟩:=Ae hA4.2 eL
        obtain ⟨cK,d7,fB,rfl,cC⟩:=e4
        replace h:=A5 h
        obtain ⟨dT,eM,h⟩:=h
        obtain ⟨f8,dE,e5⟩:=Ae cC.2 eM
        obtain ⟨e1,e2,rfl,dB⟩:=e5
        refine rno 9 [.run [] (Instr.indexAt 147 (sv ad1 p0 cap2) (iv bE)) (.pointer (some (A3 ad1 bE 1))),.run [] (Instr.loadAt 135 (.pointer (some (A3 ad1 bE 1)))) (sv cK dS d7),.run [] (Instr.indexAt 135 (sv cK dS d7) (iv a6)) (.pointer (some (A3 cK a6 1))),.run [] (Instr.loadAt 132 (.pointer (some (A3 cK a6 1)))) (sv e1 dT e2)] 9 [(0,sv ad1 p0 cap2),(1,iv p1),(2,iv p2),(7,pb b7),(8,iv (ln p0)),(9,iv a2),(10,sv a7 a5 a8),(11,sv a1 a0 a3),(13,iv a6),(14,iv b0),(15,iv bE),(21,sv ad1 p0 cap2),(22,iv (ln p0)),(23,iv a2),(30,sv a1 a0 a3),(31,iv (ln a0)),(32,iv a4),(92,.bool (decide ((ln dT)>0)))] hF (A0 (A8 (hA4.at (hS.frz (i:=1) rfl hlow)) kr (fun _=>dD)) (A0 (An (i:=bE) 0 (As 1) (fun _ hd=>(hA4.at ((hS.at_ hd).frz (i:=1) rfl hlow))) kr (fun _=>dD) rfl) (A0 (A8 (cC.at (hS.frz (i:=1) rfl hlow)) kr (fun _=>dE)) (A0 (An (i:=a6) 0 (As 1) (fun _ hd=>(cC.at ((hS.at_ hd).frz (i:=1) rfl hlow))) kr (fun _=>dE) rfl) Af)))) fun a hF=>?_
        refine wfn rfl ?_
        refine Ar hF rfl (fun hc=>?_) (fun hc=>?_)
        ·replace h:=Al h hc
         refine esr ?_
         replace h:=A5 h
         obtain ⟨d2,eS,h⟩:=h
         refine rno 10 [.run [] (binOp .mul 3 (iv p1) (iv b0)) (iv d2)] 10 [(0,sv ad1 p0 cap2),(1,iv p1),(2,iv p2),(7,pb b7),(8,iv (ln p0)),(9,iv a2),(10,sv a7 a5 a8),(11,sv a1 a0 a3),(21,sv ad1 p0 cap2),(22,iv (ln p0)),(23,iv a2),(30,sv a1 a0 a3),(31,iv (ln a0)),(32,iv a4),(93,pb b7),(96,.agg #[iv a2,iv a6]),(99,.agg #[iv bE,iv a6]),(102,iv d2)] hF (A0 (Ul (fun _=>eS)) Af) fun a hF=>?_
         replace h:=A5 h
         obtain ⟨c1,f2,h⟩:=h
         replace hS:St w0 (A9 135 132 1 (fN 1) aE a9.length aF aX aV::fz w0 ν24770::blk b7 197 #[sv aE a9 aF,.map (some m5)]::Ah (fA fold_place.cells) 199 3 fold_bond.cells m5 B24778 aW::arr 3 1 fI a1 a0.length a3 a0::T_) w:=hS
         replace hS:St w0 (fz w0 ν24770::blk b7 197 #[sv aE a9 aF,.map (some m5)]::A9 135 132 1 (fN 1) aE a9.length aF aX aV::Ah (fA fold_place.cells) 199 3 fold_bond.cells m5 B24778 aW::arr 3 1 fI a1 a0.length a3 a0::T_) w:=St.pickT (A:=[A9 135 132 1 (fN 1) aE a9.length aF aX aV,fz w0 ν24770,blk b7 197 #[sv aE a9 aF,.map (some m5)],Ah (fA fold_place.cells) 199 3 fold_bond.cells m5 B24778 aW,arr 3 1 fI a1 a0.length a3 a0]) (T:=T_) [1,2,0,3,4] (by decide) hS
         refine SK.wi (Es (fun f4=>[(0,sv ad1 p0 cap2),(1,iv p1),(2,iv p2),(7,pb b7),(8,iv (ln p0)),(9,iv a2),(10,sv a7 a5 a8),(11,sv a1 a0 a3),(21,sv ad1 p0 cap2),(22,iv (ln p0)),(23,iv a2),(30,sv a1 a0 a3),(31,iv (ln a0)),(32,iv a4)]) hF kr ⟨kr⟩ (Lu F (fold_web.mk a9 bR) (fold_place.mk a2 a6) (fold_place.mk bE a6) d2 _ f2 ν24770 w0 w (arr 3 1 fI a1 a0.length a3 a0::T_) hlow dL dM hS) (fun _=>⟨kr⟩) ?_)
         rintro f4 w a ⟨ν24869,c3,c6,cU,cQ,B24877,cR,aO,hlow,rfl,eG,eH,hS⟩ hF
         replace hext:=Frz.ext_trans hext aO
         replace hA4:=hA4.mono Rp135.mono aO.1
         replace aG:=aG.mono Rp132.mono aO.1
         replace aJ:=aJ.mono Rp132.mono aO.1
         replace bC:=bC.mono Rp132.mono aO.1
         replace cC:=cC.mono Rp132.mono aO.1
         replace dB:=dB.mono aO.1
         replace aA:=Frz.le_trans aA aO.1
         replace aB:=Frz.le_trans aB aO.1
         replace aK:=Frz.le_trans aK aO.1
         replace aR:=Frz.le_trans aR aO.1
         replace aL:=Frz.le_trans aL aO.1
         replace bA:=Frz.le_trans bA aO.1
         replace aS:=Frz.le_trans aS aO.1
         replace hS:St w0 (fz w0 ν24869::blk b7 197 #[sv c3 c1.sets c6,.map (some m5)]::A9 135 132 1 (fN 1) c3 c1.sets.length c6 cU cQ::Ah (fA fold_place.cells) 199 3 fold_bond.cells m5 B24877 cR::arr 3 1 fI a1 a0.length a3 a0::T_) w:=hS
         refine wfn rfl ?_
         refine wpIn_exit (Lb rfl<|A6<|A6<|Ai<|Ab<|A4<|?_)
         exact ⟨c1.sets,c1.bonds,ν24869,c3,c6,cU,cQ,B24877,cR,hF.sub kr,St.pickT (A:=[fz w0 ν24869,blk b7 197 #[sv c3 c1.sets c6,.map (some m5)],A9 135 132 1 (fN 1) c3 c1.sets.length c6 cU cQ,Ah (fA fold_place.cells) 199 3 fold_bond.cells m5 B24877 cR,arr 3 1 fI a1 a0.length a3 a0]) (T:=T_) [2,0,1,3,4] (by decide) hS,eG,eH,bA,hext,hlow,h⟩
        ·replace h:=Ak h hc
         refine wpIn_skip (Ab<|A4<|?_)
         refine WI.region ?_
         replace h:=A5 h
         obtain ⟨d3,eT,h⟩:=h
         refine rno 3 [.run [] (binOp .add 3 (iv b0) (iv 1)) (iv d3)] 3 [(0,sv ad1 p0 cap2),(1,iv p1),(2,iv p2),(7,pb b7),(8,iv (ln p0)),(9,iv a2),(10,sv a7 a5 a8),(11,sv a1 a0 a3),(13,iv a6),(14,iv d3),(21,sv ad1 p0 cap2),(22,iv (ln p0)),(23,iv a2),(30,sv a1 a0 a3),(31,iv (ln a0)),(32,iv a4)] hF (A0 (Bg (fun _=>eT)) Af) fun a hF=>?_
         refine wfn rfl ?_
         rw [hk8] at h
         exact ⟨nk8,Nat.lt_succ_self _,d3,hF.sub kr,St.pickT (A:=[A9 135 132 1 (fN 1) aE a9.length aF aX aV,fz w0 ν24770,blk b7 197 #[sv aE a9 aF,.map (some m5)],Ah (fA fold_place.cells) 199 3 fold_bond.cells m5 B24778 aW,arr 3 1 fI a1 a0.length a3 a0]) (T:=T_) [0,1,2,3,4] (by decide) hS,h⟩
       ·replace h:=Ak h hc
        refine wpIn_exit (A6<|A6<|Ai<|Ab<|A4<|?_)
        exact ⟨a9,bR,ν24770,aE,aF,aX,aV,B24778,aW,hF.sub kr,St.pickT (A:=[A9 135 132 1 (fN 1) aE a9.length aF aX aV,fz w0 ν24770,blk b7 197 #[sv aE a9 aF,.map (some m5)],Ah (fA fold_place.cells) 199 3 fold_bond.cells m5 B24778 aW,arr 3 1 fI a1 a0.length a3 a0]) (T:=T_) [0,1,2,3,4] (by decide) hS,dL,dM,bA,hext,hlow,h⟩
      clear bA
      rintro a w ⟨bQ,cP,ν24734,bU,bW,cF,cA,B24742,cB,hF,hS,eE,eF,bB,hext,hlow,h⟩
      replace hA4:=hA4.mono Rp135.mono bB
      replace aG:=aG.mono Rp132.mono bB
      replace aJ:=aJ.mono Rp132.mono bB
      replace bC:=bC.mono Rp132.mono bB
      replace aA:=Frz.le_trans aA bB
      replace aB:=Frz.le_trans aB bB
      replace aK:=Frz.le_trans aK bB
      replace aR:=Frz.le_trans aR bB
      replace aL:=Frz.le_trans aL bB
      rw [Fp] at h
      refine WI.region ?_
      replace h:=A5 h
      obtain ⟨d0,eO,h⟩:=h
      refine rno 2 [.run [] (binOp .add 3 (iv a4) (iv 1)) (iv d0)] 2 [(0,sv ad1 p0 cap2),(1,iv p1),(2,iv p2),(7,pb b7),(8,iv (ln p0)),(9,iv a2),(10,sv a7 a5 a8),(11,sv a1 a0 a3),(21,sv ad1 p0 cap2),(22,iv (ln p0)),(23,iv a2),(30,sv a1 a0 a3),(31,iv (ln a0)),(32,iv d0)] hF (A0 (Bg (fun _=>eO)) Af) fun a hF=>?_
      refine wfn rfl ?_
      rw [hk5] at h
      exact ⟨nk5,Nat.lt_succ_self _,bQ,cP,d0,ν24734,bU,bW,cF,cA,B24742,cB,hF.sub kr,St.pickT (A:=[A9 135 132 1 (fN 1) bU bQ.length bW cF cA,fz w0 ν24734,blk b7 197 #[sv bU bQ bW,.map (some m5)],Ah (fA fold_place.cells) 199 3 fold_bond.cells m5 B24742 cB,arr 3 1 fI a1 a0.length a3 a0]) (T:=T_) [0,4,2,3,1] (by decide) hS,eE,eF,aL,hext,hlow,h⟩
     ·replace h:=Ak h hc
      refine wpIn_exit (A6<|A6<|Ai<|A4 ?_)
      exact ⟨aD,bS,ν24565,aM,aN,b6,b3,B24573,b4,hF.sub kr,St.pickT (A:=[A9 135 132 1 (fN 1) aM aD.length aN b6 b3,arr 3 1 fI a1 a0.length a3 a0,blk b7 197 #[sv aM aD aN,.map (some m5)],Ah (fA fold_place.cells) 199 3 fold_bond.cells m5 B24573 b4,fz w0 ν24565]) (T:=T_) [0,1,2,3,4] (by decide) hS,bC,cW,aR,hext,hlow,h⟩
    clear aR
    rintro a w ⟨aC,cO,ν23852,aH,aI,b5,b1,B23860,b2,hF,hS,cM,eB,bN,hext,hlow,h⟩
    replace hA4:=hA4.mono Rp135.mono bN
    replace aG:=aG.mono Rp132.mono bN
    replace aJ:=aJ.mono Rp132.mono bN
    replace aA:=Frz.le_trans aA bN
    replace aB:=Frz.le_trans aB bN
    replace aK:=Frz.le_trans aK bN
    rw [Et] at h
    replace h:=A5 h
    obtain ⟨aQ,f1,h⟩:=h
    replace h:=A5 h
    obtain ⟨bP,dI,h⟩:=h
    refine C5 11 [6,7,8] _ (D:=fun w=>St w0 [arr 3 1 fI a1 a0.length a3 a0,blk b7 197 #[sv aH aC aI,.map (some m5)],Ah (fA fold_place.cells) 199 3 fold_bond.cells m5 B23860 b2] w∧FrzAt ν23852 w) kr kr hF.size (fun w hx=>?_) (fun _ _ h=>h)
    replace hS:=hS.later hx
    refine ⟨⟨St.pick [1,2,3] (by decide) hS,hS.frz (i:=4) rfl hlow⟩,?_⟩
    have cD:=Frz.le_refl ν23852
    refine WT.s [0,1,2,3,4,5] [6] kr kr ?_
    refine Jj (rest:=[]) (obs:=[.run [] (Instr.loadAt 147 (pb b7)) (sv aH aC aI)]) [0,1,2,3,4,5] [(0,sv ad1 p0 cap2),(1,iv p1),(2,iv p2),(7,pb b7),(8,iv (ln p0)),(21,sv ad1 p0 cap2),(22,iv (ln p0)),(23,iv a2),(105,pb b7),(109,sv aH aC aI),(110,sv a7 a5 a8)] hF kr kr (A0 (ob1 kr (fun _ hd=>hd.1.cell (i:=1) (j:=0) rfl rfl)) Af) ⟨kr⟩ fun a hF=>?_
    refine WRun.fin ?_
    refine all_cons ?_ (Av)
    refine Es (fun dX=>[(0,sv ad1 p0 cap2),(1,iv p1),(2,iv p2),(7,pb b7),(8,iv (ln p0)),(21,sv ad1 p0 cap2),(22,iv (ln p0)),(23,iv a2),(105,pb b7),(109,sv aH aC aI),(111,dX)]) hF kr ⟨kr⟩ (Gw F a5 _ f1 ν23852 w (hS.frz (i:=4) rfl hlow) aJ) (fun _=>⟨kr⟩) ?_
    rintro dX w a ⟨ν23892,b8,b9,bL,aY,rfl,eC,hQ⟩ hF
    replace hext:=Frz.ext_trans hext (Frz.ext_mono aY hS.ext.size)
    obtain ⟨hlow,hS⟩:=hS.frzMerge (i:=4) rfl hlow aY hQ
    replace hA4:=hA4.mono Rp135.mono aY.1
    replace aG:=aG.mono Rp132.mono aY.1
    replace aJ:=aJ.mono Rp132.mono aY.1
    replace cM:=cM.mono Rp132.mono aY.1
    replace aA:=Frz.le_trans aA aY.1
    replace aB:=Frz.le_trans aB aY.1
    replace aK:=Frz.le_trans aK aY.1
    replace bN:=Frz.le_trans bN aY.1
    replace cD:=Frz.le_trans cD aY.1
    replace hS:St w0 (arr 132 1 (fN 1) b8 aQ.length b9 bL::A9 135 132 1 (fN 1) aH aC.length aI b5 b1::arr 3 1 fI a1 a0.length a3 a0::blk b7 197 #[sv aH aC aI,.map (some m5)]::Ah (fA fold_place.cells) 199 3 fold_bond.cells m5 B23860 b2::fz w0 ν23892::T_) w:=hS
    refine ⟨⟨St.pick [2,3,4] (by decide) hS,(hS.frz (i:=5) rfl hlow).low cD⟩,?_⟩
    refine WT.s [] [7] kr kr ?_
    refine WRun.fin ?_
    refine all_cons ?_ (Av)
    have dK:NestOk (Rp132 ν23892) [(b8,aQ.length,b9)] [bL] [aQ]:=NestOk.one eC
    refine A8x (e:=135) (t:=147) (fun c5=>[(0,sv ad1 p0 cap2),(1,iv p1),(2,iv p2),(7,pb b7),(8,iv (ln p0)),(21,sv ad1 p0 cap2),(22,iv (ln p0)),(23,iv a2),(105,pb b7),(109,sv aH aC aI),(112,sb c5 1)]) (b8,aQ.length,b9) hF hS kr ⟨kr⟩ kr (fun _=>⟨kr⟩) fun c5 w a hF hS=>⟨⟨St.pick [2,3,4] (by decide) hS,(hS.frz (i:=5) rfl hlow).low cD⟩,?_⟩
    refine WT.s [] [8] kr kr ?_
    refine WRun.fin ?_
    refine all_cons ?_ (Av)
    replace hS:St w0 (A9 135 132 1 (fN 1) (some ⟨c5,0,none⟩) ([aQ]).length 1 ([(b8,aQ.length,b9)]) ([bL])::A9 135 132 1 (fN 1) aH aC.length aI b5 b1::arr 3 1 fI a1 a0.length a3 a0::blk b7 197 #[sv aH aC aI,.map (some m5)]::Ah (fA fold_place.cells) 199 3 fold_bond.cells m5 B23860 b2::fz w0 ν23892::T_) w:=hS
    replace hS:St w0 (A9 135 132 1 (fN 1) aH aC.length aI b5 b1::A9 135 132 1 (fN 1) (some ⟨c5,0,none⟩) ([aQ]).length 1 ([(b8,aQ.length,b9)]) ([bL])::arr 3 1 fI a1 a0.length a3 a0::blk b7 197 #[sv aH aC aI,.map (some m5)]::Ah (fA fold_place.cells) 199 3 fold_bond.cells m5 B23860 b2::fz w0 ν23892::T_) w:=St.pickT (A:=[A9 135 132 1 (fN 1) (some ⟨c5,0,none⟩) ([aQ]).length 1 ([(b8,aQ.length,b9)]) ([bL]),A9 135 132 1 (fN 1) aH aC.length aI b5 b1,arr 3 1 fI a1 a0.length a3 a0,blk b7 197 #[sv aH aC aI,.map (some m5)],Ah (fA fold_place.cells) 199 3 fold_bond.cells m5 B23860 b2,fz w0 ν23892]) (T:=T_) [1,0,2,3,4,5] (by decide) hS
    have eD:NestOk (Rp132 ν23892) (b5++[(b8,aQ.length,b9)]) (b1++[bL]) bP:=by rw [(G1 dI).1];exact NestOk.app cM dK
    refine A8d (t:=147) (ty:=147) (bytes:=24) (L:=aC) (L2:=([aQ])) (fun bG bI=>[(0,sv ad1 p0 cap2),(1,iv p1),(2,iv p2),(7,pb b7),(8,iv (ln p0)),(21,sv ad1 p0 cap2),(22,iv (ln p0)),(23,iv a2),(105,pb b7),(113,sv bG bP bI)]) cM dK hF hS kr ⟨kr⟩ kr dI (fun _ _=>⟨kr⟩) fun bG bI w a hF hS=>⟨⟨St.pick [1,2,3] (by decide) hS,(hS.frz (i:=4) rfl hlow).low cD⟩,?_⟩
    refine WT.z [9,10] kr ?_
    refine Jj (rest:=[]) (obs:=[]) [9,10] [(0,sv ad1 p0 cap2),(1,iv p1),(2,iv p2),(7,pb b7),(8,iv (ln p0)),(21,sv ad1 p0 cap2),(22,iv (ln p0)),(23,iv a2),(113,sv bG bP bI),(115,pb b7)] hF kr kr Af ⟨kr⟩ fun a hF=>?_
    refine WRun.fin ?_
    refine SK.wi (storeK (t:=147) [(0,sv ad1 p0 cap2),(1,iv p1),(2,iv p2),(7,pb b7),(8,iv (ln p0)),(21,sv ad1 p0 cap2),(22,iv (ln p0)),(23,iv a2)] 2 0 (sv bG bP bI) #[sv bG bP bI,.map (some m5)] hF hS rfl kr ⟨kr⟩ kr kr kr kr ⟨kr⟩ fun w a hF hS=>?_)
    refine WI.fin rfl (Ab<|A4<|?_)
    exact ⟨bP,cO,ν23892,bG,bI,(b5++[(b8,aQ.length,b9)]),(b1++[bL]),B23860,b2,hF.sub kr,St.pickT (A:=[A9 135 132 1 (fN 1) bG bP.length bI (b5++[(b8,aQ.length,b9)]) (b1++[bL]),arr 3 1 fI a1 a0.length a3 a0,blk b7 197 #[sv bG bP bI,.map (some m5)],Ah (fA fold_place.cells) 199 3 fold_bond.cells m5 B23860 b2,fz w0 ν23892]) (T:=T_) [0,2,3,4] (by decide) hS,eD,eB,aK,hext,hlow,h⟩
   clear aK
   rintro a w ⟨bO,cN,ν22827,bT,bV,cE,c8,B22835,c9,hF,hS,e9,eA,cL,hext,hlow,h⟩
   replace hA4:=hA4.mono Rp135.mono cL
   replace aG:=aG.mono Rp132.mono cL
   replace aA:=Frz.le_trans aA cL
   replace aB:=Frz.le_trans aB cL
   rw [Ki] at h
   refine WI.region ?_
   replace h:=A5 h
   obtain ⟨cZ,eN,h⟩:=h
   refine rno 2 [.run [] (binOp .add 3 (iv a2) (iv 1)) (iv cZ)] 2 [(0,sv ad1 p0 cap2),(1,iv p1),(2,iv p2),(7,pb b7),(8,iv (ln p0)),(21,sv ad1 p0 cap2),(22,iv (ln p0)),(23,iv cZ)] hF (A0 (Bg (fun _=>eN)) Af) fun a hF=>?_
   refine wfn rfl ?_
   rw [hk2] at h
   exact ⟨nk2,Nat.lt_succ_self _,bO,cN,cZ,ν22827,bT,bV,cE,c8,B22835,c9,hF.sub kr,St.pickT (A:=[A9 135 132 1 (fN 1) bT bO.length bV cE c8,blk b7 197 #[sv bT bO bV,.map (some m5)],Ah (fA fold_place.cells) 199 3 fold_bond.cells m5 B22835 c9,fz w0 ν22827]) (T:=T_) [0,1,2,3] (by decide) hS,e9,eA,aB,hext,hlow,h⟩
  ·replace h:=Ak h hc
   refine wpIn_exit (A6<|A6<|Ai<|A4 ?_)
   exact ⟨aP,c0,ν20751,aT,aU,bM,bJ,B20759,bK,hF.sub kr,St.pickT (A:=[A9 135 132 1 (fN 1) aT aP.length aU bM bJ,blk b7 197 #[sv aT aP aU,.map (some m5)],Ah (fA fold_place.cells) 199 3 fold_bond.cells m5 B20759 bK,fz w0 ν20751]) (T:=T_) [0,1,2,3] (by decide) hS,aG,dJ,aA,hext,hlow,h⟩
 clear aA
 rintro a w ⟨bD,cX,ν12449,bF,bH,bZ,bX,B12457,bY,hF,hS,e7,e8,e6,hext,hlow,h⟩
 replace hA4:=hA4.mono Rp135.mono e6
 rw [M0] at h
 refine esr ?_
 refine rn 2 2 [(6,pb b7)] hF fun a hF=>?_
 refine wfn rfl ?_
 refine wpIn_ret (B6 [.tmp 6] [pb b7] hF rfl ⟨rfl,trivial⟩ ?_)
 have hr_:=Option.some.inj h
 subst hr_
 replace hS:St w0 (A9 135 132 1 (fN 1) bF bD.length bH bZ bX::blk b7 197 #[sv bF bD bH,.map (some m5)]::Ah (fA fold_place.cells) 199 3 fold_bond.cells m5 B12457 bY::fz w0 ν12449::T_) w:=hS
 replace hS:=St.pickT (A:=[A9 135 132 1 (fN 1) bF bD.length bH bZ bX,blk b7 197 #[sv bF bD bH,.map (some m5)],Ah (fA fold_place.cells) 199 3 fold_bond.cells m5 B12457 bY,fz w0 ν12449]) (T:=T_) [3,1,0,2] (by decide) hS
 exact ⟨_,rfl,ν12449,b7,bF,bH,bZ,bX,m5,B12457,bY,hext,hlow,rfl,e7,e8,hS⟩
end Go.Proofs.Ytbhjgebjojdohaa
