import Derived.Test.YtbhjgebjojdohaaF10XD
import Derived.Test.YtbhjgebjojdohaaProg
namespace Go.Proofs.Ytbhjgebjojdohaa
open Go Go.RowKit Go.Eng
set_option maxRecDepth 10000
set_option maxHeartbeats 4000000
set_option linter.unusedVariables false
set_option linter.unusedSimpArgs false
theorem Nr (p0:api_Span) (p1:api_Span) (res:(api_Span×Bool)) (h:Aa p0 p1=res) (μ:Frz) (w0:World) (hm:FrzAt μ w0):Calls Try.prog 92 #[.agg #[iv p0.Lo,iv p0.Hi],.agg #[iv p1.Lo,iv p1.Hi]] w0 (fun e w=>e=.returned (.tuple #[.agg #[iv res.1.Lo,iv res.1.Hi],.bool res.2])∧Ext w0 w):=by
 obtain ⟨hlow,hS⟩:=hm.init
 have hext:=Frz.ext_refl w0.heap.size μ
 rw [Aa] at h
 refine B5 Try.func92 rfl 24 [(0,.agg #[iv p0.Lo,iv p0.Hi]),(1,.agg #[iv p1.Lo,iv p1.Hi])] rfl rfl kr fun a w hw hF=>?_
 replace hS:St w0 [fz w0 μ] w:=by rw [hw];exact hS
 clear hw
 refine esr ?_
 refine SK.wi (Tg (t:=25) (fun b1=>[(1,.agg #[iv p1.Lo,iv p1.Hi]),(2,pb b1)]) (.agg #[iv p0.Lo,iv p0.Hi]) #[iv p0.Lo,iv p0.Hi] hF hS kr ⟨kr⟩ kr (fun _=>⟨kr⟩) fun b1 w a hF hS=>?_)
 refine SK.wi (Tg (t:=25) (fun b2=>[(2,pb b1),(3,pb b2)]) (.agg #[iv p1.Lo,iv p1.Hi]) #[iv p1.Lo,iv p1.Hi] hF hS kr ⟨kr⟩ kr (fun _=>⟨kr⟩) fun b2 w a hF hS=>?_)
 refine SK.wi (Bu (t:=25) (fun b3=>[(2,pb b1),(3,pb b2),(4,pb b3)]) #[iv 0,iv 0] hF hS kr ⟨kr⟩ kr (fun _=>⟨kr⟩) fun b3 w a hF hS=>?_)
 refine rn 1 4 [(2,pb b1),(3,pb b2),(4,pb b3)] hF fun a hF=>?_
 refine wfn rfl ?_
 refine esr ?_
 refine rno 11 [.run [] (Instr.loadAt 3 (pb b1)) (iv p0.Lo),.run [] (Instr.loadAt 3 (pb b2)) (iv p1.Lo),.run [] (Instr.loadAt 3 (.pointer (some ⟨b1,1,none⟩))) (iv p0.Hi),.run [] (Instr.loadAt 3 (.pointer (some ⟨b2,1,none⟩))) (iv p1.Hi)] 11 [(4,pb b3),(17,.agg #[iv (if p1.Lo>p0.Lo then p1.Lo else p0.Lo),iv (if p1.Hi<p0.Hi then p1.Hi else p0.Hi)])] hF (A0 (ob1 kr (fun _ hd=>(hS.at_ hd).cell (i:=2) (j:=0) rfl rfl)) (A0 (ob1 kr (fun _ hd=>(hS.at_ hd).cell (i:=1) (j:=0) rfl rfl)) (A0 (ob1 kr (fun _ hd=>(hS.at_ hd).cell (i:=2) (j:=1) rfl rfl)) (A0 (ob1 kr (fun _ hd=>(hS.at_ hd).cell (i:=1) (j:=1) rfl rfl)) Af)))) fun a hF=>?_
 refine SK.wi (Bu (t:=25) (fun b4=>[(4,pb b3),(6,pb b4),(17,.agg #[iv (if p1.Lo>p0.Lo then p1.Lo else p0.Lo),iv (if p1.Hi<p0.Hi then p1.Hi else p0.Hi)])]) #[iv 0,iv 0] hF hS kr ⟨kr⟩ kr (fun _=>⟨kr⟩) fun b4 w a hF hS=>?_)
 refine SK.wi (storeK (t:=25) [(4,pb b3),(6,pb b4)] 0 0 (.agg #[iv (if p1.Lo>p0.Lo then p1.Lo else p0.Lo),iv (if p1.Hi<p0.Hi then p1.Hi else p0.Hi)]) #[iv (if p1.Lo>p0.Lo then p1.Lo else p0.Lo),iv (if p1.Hi<p0.Hi then p1.Hi else p0.Hi)] hF hS rfl kr ⟨kr⟩ kr kr kr kr ⟨kr⟩ fun w a hF hS=>?_)
 refine wfn rfl ?_
 refine Ba ?_
 refine C5 8 [6] _ (D:=fun w=>St w0 [blk b4 25 #[iv (if p1.Lo>p0.Lo then p1.Lo else p0.Lo),iv (if p1.Hi<p0.Hi then p1.Hi else p0.Hi)],blk b2 25 #[iv p1.Lo,iv p1.Hi],blk b1 25 #[iv p0.Lo,iv p0.Hi]] w∧FrzAt μ w) kr kr hF.size (fun w hx=>?_) (fun _ _ h=>h)
 replace hS:=hS.later hx
 refine ⟨⟨St.pick [0,2,3] (by decide) hS,hS.frz (i:=4) rfl hlow⟩,?_⟩
 have hcl5:=Frz.le_refl μ
 refine WT.s [0,1,2,3,4,5] [6] kr kr ?_
 refine Jj (rest:=[]) (obs:=[.run [] (Instr.loadAt 25 (pb b4)) (.agg #[iv (if p1.Lo>p0.Lo then p1.Lo else p0.Lo),iv (if p1.Hi<p0.Hi then p1.Hi else p0.Hi)]),.run [] (Instr.loadAt 3 (pb b4)) (iv (if p1.Lo>p0.Lo then p1.Lo else p0.Lo)),.run [] (Instr.loadAt 3 (.pointer (some ⟨b4,1,none⟩))) (iv (if p1.Hi<p0.Hi then p1.Hi else p0.Hi))]) [0,1,2,3,4,5] [(4,pb b3),(18,.agg #[iv (if p1.Lo>p0.Lo then p1.Lo else p0.Lo),iv (if p1.Hi<p0.Hi then p1.Hi else p0.Hi)]),(23,.bool (decide ((if p1.Lo>p0.Lo then p1.Lo else p0.Lo)≤(if p1.Hi<p0.Hi then p1.Hi else p0.Hi))))] hF kr kr (A0 (obN (us:=[iv (if p1.Lo>p0.Lo then p1.Lo else p0.Lo),iv (if p1.Hi<p0.Hi then p1.Hi else p0.Hi)]) kr (fun _ hd=>(hd.1.blk (i:=0) rfl).cells rfl)) (A0 (ob1 kr (fun _ hd=>hd.1.cell (i:=0) (j:=0) rfl rfl)) (A0 (ob1 kr (fun _ hd=>hd.1.cell (i:=0) (j:=1) rfl rfl)) Af))) ⟨kr⟩ fun a hF=>?_
 refine WRun.fin ?_
 refine all_cons ?_ (Av)
 refine storeK (t:=25) [(4,pb b3),(23,.bool (decide ((if p1.Lo>p0.Lo then p1.Lo else p0.Lo)≤(if p1.Hi<p0.Hi then p1.Hi else p0.Hi))))] 1 0 (.agg #[iv (if p1.Lo>p0.Lo then p1.Lo else p0.Lo),iv (if p1.Hi<p0.Hi then p1.Hi else p0.Hi)]) #[iv (if p1.Lo>p0.Lo then p1.Lo else p0.Lo),iv (if p1.Hi<p0.Hi then p1.Hi else p0.Hi)] hF hS rfl kr ⟨kr⟩ kr kr kr kr ⟨kr⟩ fun w a hF hS=>⟨⟨St.pick [0,2,3] (by decide) hS,(hS.frz (i:=4) rfl hlow)⟩,?_⟩
 refine WT.z [7] kr ?_
 refine Jj (rest:=[]) (obs:=[]) [7] [(4,pb b3),(5,.bool (decide ((if p1.Lo>p0.Lo then p1.Lo else p0.Lo)≤(if p1.Hi<p0.Hi then p1.Hi else p0.Hi))))] hF kr kr Af ⟨kr⟩ fun a hF=>?_
 refine WRun.fin ?_
 refine wfn rfl ?_
 refine wpIn_ret (B6 [.cell 4 25,.tmp 5] [.agg #[iv (if p1.Lo>p0.Lo then p1.Lo else p0.Lo),iv (if p1.Hi<p0.Hi then p1.Hi else p0.Hi)],.bool (decide ((if p1.Lo>p0.Lo then p1.Lo else p0.Lo)≤(if p1.Hi<p0.Hi then p1.Hi else p0.Hi)))] hF rfl ⟨⟨_,rfl,Ub (cs:=[iv (if p1.Lo>p0.Lo then p1.Lo else p0.Lo),iv (if p1.Hi<p0.Hi then p1.Hi else p0.Hi)]) kr ((hS.blk (i:=1) rfl).cells rfl)⟩,rfl,trivial⟩ ?_)
 subst h
 exact ⟨rfl,hS.ext⟩
theorem Sn (F:Nat) (p0:(List api_Span)) (p1:Bool) (res:Int) (h:Jo F p0 p1=some res) (μ:Frz) (w0:World) (hm:FrzAt μ w0) {ad1:Option Addr} {cap2:Nat} (hA3:ArrM μ 2 api_Span.cells ad1 cap2 p0):Calls Try.prog 61 #[sv ad1 p0 cap2,.bool p1] w0 (fun e w=>e=.returned (iv res)∧Ext w0 w):=by
 obtain ⟨hlow,hS⟩:=hm.init
 have hext:=Frz.ext_refl w0.heap.size μ
 rw [Jo] at h
 refine B5 Try.func61 rfl 51 [(0,sv ad1 p0 cap2),(1,.bool p1)] rfl rfl kr fun a w hw hF=>?_
 replace hS:St w0 [fz w0 μ] w:=by rw [hw];exact hS
 clear hw
 refine esr ?_
 refine rn 1 1 [(0,sv ad1 p0 cap2),(1,.bool p1)] hF fun a hF=>?_
 refine wfn rfl ?_
 refine Ba ?_
 refine esr ?_
 refine rn 3 3 [(0,sv ad1 p0 cap2),(1,.bool p1),(9,.bool (decide ((ln p0)>256)))] hF fun a hF=>?_
 refine wfn rfl ?_
 refine Ar hF rfl (fun hc=>?_) (fun hc=>?_)
 ·replace h:=Al h hc
  refine esr ?_
  refine rn 1 1 [(4,iv 9)] hF fun a hF=>?_
  refine wfn rfl ?_
  refine wpIn_ret (Ac<|B6 [.tmp 4] [iv 9] hF rfl ⟨rfl,trivial⟩ ?_)
  have hr_:=Option.some.inj h
  subst hr_
  exact ⟨rfl,hS.ext⟩
 ·replace h:=Ak h hc
  refine wpIn_skip (A4 ?_)
  refine Eb (fun a w=>Fr 51 [] [] a∧St w0 [fz w0 μ] w∧Ks=some res) ?_ ?_
  ·skip
   refine esr ?_
   refine rn 3 3 [(0,sv ad1 p0 cap2),(1,.bool p1),(10,sv ad1 p0 cap2),(11,iv (ln p0)),(12,iv 0)] hF fun a hF=>?_
   refine wfn rfl ?_
   refine wpIn_block ?_
   refine D2 (fun n_ a w=>∃(a1:Int),Fr 51 [] [(0,sv ad1 p0 cap2),(1,.bool p1),(10,sv ad1 p0 cap2),(11,iv (ln p0)),(12,iv a1)] a∧St w0 [fz w0 μ] w∧Cg p0 p1 n_ a1=some res) F ⟨0,hF.sub kr,St.pick [0] (by decide) hS,h⟩ ?_
   rintro nk2 a w ⟨a1,hF,hS,h⟩
   rcases nk2 with _|nk2
   ·cases (show (none:Option Int)=some res from h)
   obtain ⟨k2,hk2⟩:∃k,k=Cg p0 p1 nk2:=⟨_,rfl⟩
   replace h:Cv p0 p1 k2 a1=some res:=by rw [hk2];exact h
   rw [Cv] at h
   refine esr ?_
   refine rn 1 1 [(0,sv ad1 p0 cap2),(1,.bool p1),(10,sv ad1 p0 cap2),(11,iv (ln p0)),(12,iv a1),(13,.bool (decide (a1<(ln p0))))] hF fun a hF=>?_
   refine wfn rfl ?_
   refine Ba ?_
   refine Ar hF rfl (fun hc=>?_) (fun hc=>?_)
   ·replace h:=Al h hc
    refine wpIn_skip (A4 ?_)
    refine Ba ?_
    refine wpIn_block ?_
    refine esr ?_
    replace h:=A5 h
    obtain ⟨a0,a5,h⟩:=h
    refine rno 3 [.run [] (Instr.indexAt 43 (sv ad1 p0 cap2) (iv a1)) (.pointer (some (A3 ad1 a1 2))),.run [] (Instr.loadAt 25 (.pointer (some (A3 ad1 a1 2)))) (.agg #[iv a0.Lo,iv a0.Hi])] 3 [(0,sv ad1 p0 cap2),(1,.bool p1),(10,sv ad1 p0 cap2),(11,iv (ln p0)),(12,iv a1),(14,iv a1),(16,.agg #[iv a0.Lo,iv a0.Hi])] hF (A0 (A8 (hA3 _ (hS.frz (i:=0) rfl hlow)) kr (fun _=>a5)) (A0 (Dx (m:=2) (i:=a1) (us:=[iv a0.Lo,iv a0.Hi]) 0 api_Span.cells_len (fun _ hd=>(hA3 _ ((hS.at_ hd).frz (i:=0) rfl hlow))) kr (fun _=>a5) ⟨rfl,rfl⟩) Af)) fun a hF=>?_
    refine SK.wi (Bu (t:=25) (fun a2=>[(0,sv ad1 p0 cap2),(1,.bool p1),(6,pb a2),(10,sv ad1 p0 cap2),(11,iv (ln p0)),(12,iv a1),(14,iv a1),(16,.agg #[iv a0.Lo,iv a0.Hi])]) #[iv 0,iv 0] hF hS kr ⟨kr⟩ kr (fun _=>⟨kr⟩) fun a2 w a hF hS=>?_)
    refine rn 1 5 [(0,sv ad1 p0 cap2),(1,.bool p1),(5,iv a1),(6,pb a2),(10,sv ad1 p0 cap2),(11,iv (ln p0)),(12,iv a1),(16,.agg #[iv a0.Lo,iv a0.Hi])] hF fun a hF=>?_
    refine SK.wi (storeK (t:=25) [(0,sv ad1 p0 cap2),(1,.bool p1),(5,iv a1),(6,pb a2),(10,sv ad1 p0 cap2),(11,iv (ln p0)),(12,iv a1)] 0 0 (.agg #[iv a0.Lo,iv a0.Hi]) #[iv a0.Lo,iv a0.Hi] hF hS rfl kr ⟨kr⟩ kr kr kr kr ⟨kr⟩ fun w a hF hS=>?_)
    refine wfn rfl ?_
    refine wpIn_block ?_
    refine esr ?_
    refine rno 16 [.run [] (Instr.loadAt 3 (pb a2)) (iv a0.Lo),.run [] (Instr.loadAt 3 (.pointer (some ⟨a2,1,none⟩))) (iv a0.Hi),.run [⟨23,false,(decide (a0.Lo>a0.Hi))⟩] (Instr.loadAt 3 (pb a2)) (iv a0.Lo),.run [⟨28,false,(bif (decide (a0.Lo>a0.Hi)) then true else (decide (a0.Lo<(-200000))))⟩] (Instr.loadAt 3 (.pointer (some ⟨a2,1,none⟩))) (iv a0.Hi)] 16 [(0,sv ad1 p0 cap2),(1,.bool p1),(5,iv a1),(6,pb a2),(10,sv ad1 p0 cap2),(11,iv (ln p0)),(12,iv a1),(17,.bool (bif (bif (decide (a0.Lo>a0.Hi)) then true else (decide (a0.Lo<(-200000)))) then true else (decide (a0.Hi>200000))))] hF (A0 (ob1 kr (fun _ hd=>(hS.at_ hd).cell (i:=0) (j:=0) rfl rfl)) (A0 (ob1 kr (fun _ hd=>(hS.at_ hd).cell (i:=0) (j:=1) rfl rfl)) (A0 (ob1 kr (fun _ hd=>(hS.at_ hd).cell (i:=0) (j:=0) rfl rfl)) (A0 (ob1 kr (fun _ hd=>(hS.at_ hd).cell (i:=0) (j:=1) rfl rfl)) Af)))) fun a hF=>?_
    refine wfn rfl ?_
    refine Ar hF rfl (fun hc=>?_) (fun hc=>?_)
    ·replace h:=Al h hc
     refine esr ?_
     refine rn 1 1 [(4,iv 3)] hF fun a hF=>?_
     refine wfn rfl ?_
     refine wpIn_ret (Am<|Am<|Ac<|Ac<|Am<|Ac<|B6 [.tmp 4] [iv 3] hF rfl ⟨rfl,trivial⟩ ?_)
     have hr_:=Option.some.inj h
     subst hr_
     exact ⟨rfl,hS.ext⟩
    ·replace h:=Ak h hc
     refine Ba ?_
     replace h:=A5 h
     obtain ⟨a3,a8,h⟩:=h
     replace h:=A5 h
     obtain ⟨a7,a6,h⟩:=h
     refine L8 (obs:=[.run [⟨39,true,(bif p1 then (decide (a1>0)) else false)⟩] (Instr.loadAt 3 (pb a2)) (iv a0.Lo),.run [⟨39,true,(bif p1 then (decide (a1>0)) else false)⟩] (binOp .sub 3 (iv a1) (iv 1)) (iv a3),.run [⟨39,true,(bif p1 then (decide (a1>0)) else false)⟩] (Instr.indexAt 43 (sv ad1 p0 cap2) (iv a3)) (.pointer (some (A3 ad1 a3 2))),.run [⟨39,true,(bif p1 then (decide (a1>0)) else false)⟩] (Instr.loadAt 3 (.pointer (some ((A3 ad1 a3 2).add 1)))) (iv a7.Hi)]) 17 [(0,sv ad1 p0 cap2),(1,.bool p1),(10,sv ad1 p0 cap2),(11,iv (ln p0)),(12,iv a1),(33,.bool (bif (bif p1 then (decide (a1>0)) else false) then (decide (a0.Lo≤a7.Hi)) else false))] kr hF kr (A0 (ob1 kr (fun _ hd=>(hS.later hd).cell (i:=0) (j:=0) rfl rfl)) (A0 (Dl (fun hk=>Di a8 hk)) (A0 (A8 (hA3 _ (hS.frz (i:=1) rfl hlow)) kr (fun hk=>Di a6 hk)) (A0 (An (i:=a3) 1 api_Span.cells_len (fun _ hd=>(hA3 _ ((hS.later hd).frz (i:=1) rfl hlow))) kr (fun hk=>Di a6 hk) rfl) Af)))) ⟨kr⟩ fun a w hF hx=>?_
     replace hS:=hS.later hx
     refine wfn rfl ?_
     refine Ar hF rfl (fun hc=>?_) (fun hc=>?_)
     ·replace h:=Al h hc
      refine esr ?_
      refine rn 1 1 [(4,iv 12)] hF fun a hF=>?_
      refine wfn rfl ?_
      refine wpIn_ret (Am<|Am<|Ac<|Ac<|Am<|Ac<|B6 [.tmp 4] [iv 12] hF rfl ⟨rfl,trivial⟩ ?_)
      have hr_:=Option.some.inj h
      subst hr_
      exact ⟨rfl,hS.ext⟩
     ·replace h:=Ak h hc
      refine wpIn_skip (Ab<|Ab<|A4<|?_)
      refine WI.region ?_
      replace h:=A5 h
      obtain ⟨a4,a9,h⟩:=h
      refine rno 2 [.run [] (binOp .add 3 (iv a1) (iv 1)) (iv a4)] 2 [(0,sv ad1 p0 cap2),(1,.bool p1),(10,sv ad1 p0 cap2),(11,iv (ln p0)),(12,iv a4)] hF (A0 (Bg (fun _=>a9)) Af) fun a hF=>?_
      refine wfn rfl ?_
      rw [hk2] at h
      exact ⟨nk2,Nat.lt_succ_self _,a4,hF.sub kr,St.pick [1] (by decide) hS,h⟩
   ·replace h:=Ak h hc
    refine wpIn_exit (A6<|A6<|Ai<|A4 ?_)
    exact ⟨hF.sub kr,St.pick [0] (by decide) hS,h⟩
  rintro a w ⟨hF,hS,h⟩
  rw [Ks] at h
  refine esr ?_
  refine rn 1 1 [(4,iv 0)] hF fun a hF=>?_
  refine wfn rfl ?_
  refine wpIn_ret (B6 [.tmp 4] [iv 0] hF rfl ⟨rfl,trivial⟩ ?_)
  have hr_:=Option.some.inj h
  subst hr_
  exact ⟨rfl,hS.ext⟩
theorem Hk (F:Nat) (p0:(List api_Span)) (res:(List api_Span)) (h:Aw F p0=some res) (μ:Frz) (w0:World) (hm:FrzAt μ w0) {ad1x:Addr} {cap2:Nat} (hA3:ArrM μ 2 api_Span.cells (some ad1x) cap2 p0):F1 Try.prog 99 #[.slice (some ad1x) p0.length cap2] w0 (fun e w=>∃zad0 zcap0,e=(sv zad0 res zcap0)∧St w0 [arr 25 2 api_Span.cells zad0 res.length zcap0 res] w):=by
 obtain ⟨hlow,hS⟩:=hm.init
 have hext:=Frz.ext_refl w0.heap.size μ
 rw [Aw] at h
 refine B5 Try.func99 rfl 8 [(0,.slice (some ad1x) p0.length cap2)] rfl rfl kr fun a w hw hF=>?_
 replace hS:St w0 [fz w0 μ] w:=by rw [hw];exact hS
 clear hw
 refine esr ?_
 refine rn 1 1 [(0,.slice (some ad1x) p0.length cap2)] hF fun a hF=>?_
 refine wfn rfl ?_
 refine Ba ?_
 refine esr ?_
 refine rn 2 2 [(0,.slice (some ad1x) p0.length cap2),(4,.bool false)] hF fun a hF=>?_
 refine wfn rfl ?_
 refine wpIn_cond_false (hF.get rfl) ?_
 refine wpIn_skip (A4 ?_)
 refine esr ?_
 refine SK.wi (U9 (e:=25) (sz:=2) (f:=api_Span.cells) (t:=132) (len:=0) (fun b4=>[(0,.slice (some ad1x) p0.length cap2),(5,sb b4 0)]) #[] #[] ([]:List api_Span) hF hS kr ⟨kr⟩ kr api_Span.cells_len rfl rfl kr (fun _=>⟨kr⟩) fun b4 w a hF hS=>?_)
 refine rn 1 2 [(5,sb b4 0),(6,.slice (some ad1x) p0.length cap2)] hF fun a hF=>?_
 replace h:=A5 h
 obtain ⟨l5,hl5,h⟩:=h
 refine SK.wi (Wj (t:=132) (ty:=132) (bytes:=16) (l:=([]:List api_Span)) (l':=p0) (fun ad6 cap7=>[(7,sv ad6 l5 cap7)]) 0 hF hS rfl kr ⟨kr⟩ kr (hA3 _ (hS.frz (i:=1) rfl hlow)) (fun _ _=>rfl) hl5 (fun _ _=>⟨kr⟩) fun ad6 cap7 w a hF hS=>?_)
 refine rn 1 4 [(2,sv ad6 l5 cap7)] hF fun a hF=>?_
 refine wfn rfl ?_
 refine wpIn_ret (B6 [.tmp 2] [sv ad6 l5 cap7] hF rfl ⟨rfl,trivial⟩ ?_)
 have hr_:=Option.some.inj h
 subst hr_
 exact ⟨_,rfl,_,_,rfl,St.pick [0] (by decide) hS⟩
theorem Hj (res:(List api_Span)) (h:([]:List api_Span)=res) (μ:Frz) (w0:World) (hm:FrzAt μ w0) {cap2:Nat}:F1 Try.prog 99 #[.slice none 0 cap2] w0 (fun e w=>∃zad0 zcap0,e=(sv zad0 res zcap0)∧St w0 [arr 25 2 api_Span.cells zad0 res.length zcap0 res] w):=by
 obtain ⟨hlow,hS⟩:=hm.init
 have hext:=Frz.ext_refl w0.heap.size μ
 refine B5 Try.func99 rfl 8 [(0,.slice none 0 cap2)] rfl rfl kr fun a w hw hF=>?_
 replace hS:St w0 [fz w0 μ] w:=by rw [hw];exact hS
 clear hw
 refine esr ?_
 refine rn 1 1 [(0,.slice none 0 cap2)] hF fun a hF=>?_
 refine wfn rfl ?_
 refine Ba ?_
 refine esr ?_
 refine rn 2 2 [(0,.slice none 0 cap2),(4,.bool true)] hF fun a hF=>?_
 refine wfn rfl ?_
 refine wpIn_cond_true (hF.get rfl) ?_
 refine esr ?_
 refine rn 1 1 [(2,.slice none 0 0)] hF fun a hF=>?_
 refine wfn rfl ?_
 refine wpIn_ret (Ac<|B6 [.tmp 2] [.slice none 0 0] hF rfl ⟨rfl,trivial⟩ ?_)
 subst h
 replace hS:=hS.nilarr 25 2 api_Span.cells
 exact ⟨_,rfl,_,_,rfl,St.pick [0] (by decide) hS⟩
theorem Ep (F:Nat) (p0:List api_Span) (res:List api_Span) (h:Aw F p0=some res) (μ:Frz) (w0:World) (hm:FrzAt μ w0) {ad1:Option Addr} {cap2:Nat} (hA3:ArrM μ 2 api_Span.cells ad1 cap2 p0):F1 Try.prog 99 #[sv ad1 p0 cap2] w0 (fun e w=>∃zad0 zcap0,e=(sv zad0 res zcap0)∧St w0 [arr 25 2 api_Span.cells zad0 res.length zcap0 res] w):=by
 cases ad1 with
 | some a=>exact Hk F p0 res h μ w0 hm hA3
 | none =>
  obtain rfl:=hA3.none_nil hm
  have hr:[]=res:=Option.some.inj (show some ([]:List api_Span)=some res from h)
  exact Hj res hr μ w0 hm
theorem U7 (F:Nat) (p0:(List api_Span)) (p1:(List api_Span)) (res:Bool) (h:Kq F p0 p1=some res) (μ:Frz) (w0:World) (hm:FrzAt μ w0) {ad1:Option Addr} {cap2:Nat} {ad4:Option Addr} {cap5:Nat} (hA3:ArrM μ 2 api_Span.cells ad1 cap2 p0) (hA6:ArrM μ 2 api_Span.cells ad4 cap5 p1):Calls Try.prog 22 #[sv ad1 p0 cap2,sv ad4 p1 cap5] w0 (fun e w=>e=.returned (.bool res)∧Ext w0 w):=by
 obtain ⟨hlow,hS⟩:=hm.init
 have hext:=Frz.ext_refl w0.heap.size μ
 rw [Kq] at h
 refine B5 Try.func22 rfl 26 [(0,sv ad1 p0 cap2),(1,sv ad4 p1 cap5)] rfl rfl kr fun a w hw hF=>?_
 replace hS:St w0 [fz w0 μ] w:=by rw [hw];exact hS
 clear hw
 refine esr ?_
 refine rn 1 1 [(0,sv ad1 p0 cap2),(1,sv ad4 p1 cap5)] hF fun a hF=>?_
 refine wfn rfl ?_
 refine Ba ?_
 refine esr ?_
 refine rn 5 5 [(0,sv ad1 p0 cap2),(1,sv ad4 p1 cap5),(10,.bool ((ln p0) != (ln p1)))] hF fun a hF=>?_
 refine wfn rfl ?_
 refine Ar hF rfl (fun hc=>?_) (fun hc=>?_)
 ·replace h:=Al h hc
  refine esr ?_
  refine rn 1 1 [(4,.bool false)] hF fun a hF=>?_
  refine wfn rfl ?_
  refine wpIn_ret (Ac<|B6 [.tmp 4] [.bool false] hF rfl ⟨rfl,trivial⟩ ?_)
  have hr_:=Option.some.inj h
  subst hr_
  exact ⟨rfl,hS.ext⟩
 ·replace h:=Ak h hc
  refine wpIn_skip (A4 ?_)
  refine Eb (fun a w=>Fr 26 [] [] a∧St w0 [fz w0 μ] w∧Lf=some res) ?_ ?_
  ·skip
   refine esr ?_
   refine rn 1 1 [(0,sv ad1 p0 cap2),(1,sv ad4 p1 cap5),(5,iv 0)] hF fun a hF=>?_
   refine wfn rfl ?_
   refine wpIn_block ?_
   refine D2 (fun n_ a w=>∃(a0:Int),Fr 26 [] [(0,sv ad1 p0 cap2),(1,sv ad4 p1 cap5),(5,iv a0)] a∧St w0 [fz w0 μ] w∧F5 p0 p1 n_ a0=some res) F ⟨0,hF.sub kr,St.pick [0] (by decide) hS,h⟩ ?_
   rintro nk2 a w ⟨a0,hF,hS,h⟩
   rcases nk2 with _|nk2
   ·cases (show (none:Option Bool)=some res from h)
   obtain ⟨k2,hk2⟩:∃k,k=F5 p0 p1 nk2:=⟨_,rfl⟩
   replace h:F4 p0 p1 k2 a0=some res:=by rw [hk2];exact h
   rw [F4] at h
   refine Ba ?_
   refine esr ?_
   refine rn 4 4 [(0,sv ad1 p0 cap2),(1,sv ad4 p1 cap5),(5,iv a0),(14,.bool (decide (a0<(ln p0))))] hF fun a hF=>?_
   refine wfn rfl ?_
   refine Ar hF rfl (fun hc=>?_) (fun hc=>?_)
   ·replace h:=Al h hc
    refine wpIn_skip (A4 ?_)
    refine Ba ?_
    refine wpIn_block ?_
    refine Ba ?_
    replace h:=A5 h
    obtain ⟨a1,a4,h⟩:=h
    replace h:=A5 h
    obtain ⟨a2,a5,h⟩:=h
    refine L8 (obs:=[.run [] (Instr.indexAt 43 (sv ad1 p0 cap2) (iv a0)) (.pointer (some (A3 ad1 a0 2))),.run [] (Instr.loadAt 25 (.pointer (some (A3 ad1 a0 2)))) (.agg #[iv a1.Lo,iv a1.Hi]),.run [] (Instr.indexAt 43 (sv ad4 p1 cap5) (iv a0)) (.pointer (some (A3 ad4 a0 2))),.run [] (Instr.loadAt 25 (.pointer (some (A3 ad4 a0 2)))) (.agg #[iv a2.Lo,iv a2.Hi]),.run [] (eqS .neq 25 #[iv a1.Lo,iv a1.Hi] #[iv a2.Lo,iv a2.Hi]) (.bool (!(((a1.Lo:Int)==a2.Lo)&&(((a1.Hi:Int)==a2.Hi)&&true))))]) 9 [(0,sv ad1 p0 cap2),(1,sv ad4 p1 cap5),(5,iv a0),(25,.bool (!(((a1.Lo:Int)==a2.Lo)&&(((a1.Hi:Int)==a2.Hi)&&true))))] kr hF kr (A0 (A8 (hA3 _ (hS.frz (i:=0) rfl hlow)) kr (fun _=>a4)) (A0 (Dx (m:=2) (i:=a0) (us:=[iv a1.Lo,iv a1.Hi]) 0 api_Span.cells_len (fun _ hd=>(hA3 _ ((hS.later hd).frz (i:=0) rfl hlow))) kr (fun _=>a4) ⟨rfl,rfl⟩) (A0 (A8 (hA6 _ (hS.frz (i:=0) rfl hlow)) kr (fun _=>a5)) (A0 (Dx (m:=2) (i:=a0) (us:=[iv a2.Lo,iv a2.Hi]) 0 api_Span.cells_len (fun _ hd=>(hA6 _ ((hS.later hd).frz (i:=0) rfl hlow))) kr (fun _=>a5) ⟨rfl,rfl⟩) (A0 (A4z kr kr) Af))))) ⟨kr⟩ fun a w hF hx=>?_
    replace hS:=hS.later hx
    refine wfn rfl ?_
    refine Ar hF rfl (fun hc=>?_) (fun hc=>?_)
    ·replace h:=Al h hc
     refine esr ?_
     refine rn 1 1 [(4,.bool false)] hF fun a hF=>?_
     refine wfn rfl ?_
     refine wpIn_ret (Am<|Ac<|Ac<|Am<|Ac<|B6 [.tmp 4] [.bool false] hF rfl ⟨rfl,trivial⟩ ?_)
     have hr_:=Option.some.inj h
     subst hr_
     exact ⟨rfl,hS.ext⟩
    ·replace h:=Ak h hc
     refine wpIn_skip (Ab<|A4<|?_)
     refine WI.region ?_
     replace h:=A5 h
     obtain ⟨a3,a6,h⟩:=h
     refine rno 3 [.run [] (binOp .add 3 (iv a0) (iv 1)) (iv a3)] 3 [(0,sv ad1 p0 cap2),(1,sv ad4 p1 cap5),(5,iv a3)] hF (A0 (Bg (fun _=>a6)) Af) fun a hF=>?_
     refine wfn rfl ?_
     rw [hk2] at h
     exact ⟨nk2,Nat.lt_succ_self _,a3,hF.sub kr,St.pick [0] (by decide) hS,h⟩
   ·replace h:=Ak h hc
    refine wpIn_exit (A6<|A6<|Ai<|A4 ?_)
    exact ⟨hF.sub kr,St.pick [0] (by decide) hS,h⟩
  rintro a w ⟨hF,hS,h⟩
  rw [Lf] at h
  refine esr ?_
  refine rn 1 1 [(4,.bool true)] hF fun a hF=>?_
  refine wfn rfl ?_
  refine wpIn_ret (B6 [.tmp 4] [.bool true] hF rfl ⟨rfl,trivial⟩ ?_)
  have hr_:=Option.some.inj h
  subst hr_
  exact ⟨rfl,hS.ext⟩
theorem Nd (p0:Int) (p1:Int) (res:Int) (h:Bk p0 p1=res) (μ:Frz) (w0:World) (hm:FrzAt μ w0):Calls Try.prog 66 #[iv p0,iv p1] w0 (fun e w=>e=.returned (iv res)∧Ext w0 w):=by
 obtain ⟨hlow,hS⟩:=hm.init
 have hext:=Frz.ext_refl w0.heap.size μ
 rw [Bk] at h
 refine B5 Try.func66 rfl 19 [(0,iv p0),(1,iv p1)] rfl rfl kr fun a w hw hF=>?_
 replace hS:St w0 [fz w0 μ] w:=by rw [hw];exact hS
 clear hw
 refine esr ?_
 refine rn 1 1 [(0,iv p0),(1,iv p1)] hF fun a hF=>?_
 refine wfn rfl ?_
 refine Ba ?_
 refine esr ?_
 refine rn 14 14 [(18,.bool (bif (bif (bif (decide (p0<0)) then true else (decide (p0>400000))) then true else (decide (p1<1))) then true else (decide (p1>16))))] hF fun a hF=>?_
 refine wfn rfl ?_
 refine Ar hF rfl (fun hc=>?_) (fun hc=>?_)
 ·replace h:=Al h hc
  refine esr ?_
  refine rn 1 1 [(4,iv 3)] hF fun a hF=>?_
  refine wfn rfl ?_
  refine wpIn_ret (Ac<|B6 [.tmp 4] [iv 3] hF rfl ⟨rfl,trivial⟩ ?_)
  subst h
  exact ⟨rfl,hS.ext⟩
 ·replace h:=Ak h hc
  refine wpIn_skip (A4 ?_)
  refine esr ?_
  refine rn 1 1 [(4,iv 0)] hF fun a hF=>?_
  refine wfn rfl ?_
  refine wpIn_ret (B6 [.tmp 4] [iv 0] hF rfl ⟨rfl,trivial⟩ ?_)
  subst h
  exact ⟨rfl,hS.ext⟩
theorem Lz (F:Nat) (p0:(List (List api_Span))) (res:(List Int)) (h:J8 F p0=some res) (μ:Frz) (w0:World) (hm:FrzAt μ w0) {ad1:Option Addr} {cap2:Nat} {css3:List (List Value)} (hA4:ArrQ μ 1 Rp132 ad1 cap2 css3 p0):F1 Try.prog 67 #[sv ad1 p0 cap2] w0 (fun e w=>∃zad0 zcap0,e=(sv zad0 res zcap0)∧St w0 [arr 3 1 fI zad0 res.length zcap0 res] w):=by
 obtain ⟨hlow,hS⟩:=hm.init
 have hext:=Frz.ext_refl w0.heap.size μ
 rw [J8] at h
 refine B5 Try.func67 rfl 22 [(0,sv ad1 p0 cap2)] rfl rfl kr fun a w hw hF=>?_
 replace hS:St w0 [fz w0 μ] w:=by rw [hw];exact hS
 clear hw
 refine esr ?_
 refine rn 1 1 [(0,sv ad1 p0 cap2)] hF fun a hF=>?_
 refine wfn rfl ?_
 refine esr ?_
 refine rn 1 1 [(0,sv ad1 p0 cap2),(3,.slice none 0 0)] hF fun a hF=>?_
 refine wfn rfl ?_
 refine Eb (fun a w=>∃(a5:(List Int)) (a7:Option Addr) (a9:Nat),Fr 22 [] [(3,sv a7 a5 a9)] a∧St w0 [arr 3 1 fI a7 a5.length a9 a5,fz w0 μ] w∧Kh a5=some res) ?_ ?_
 ·skip
  refine esr ?_
  refine rn 3 3 [(3,.slice none 0 0),(6,sv ad1 p0 cap2),(7,iv (ln p0)),(8,iv 0)] hF fun a hF=>?_
  refine wfn rfl ?_
  refine wpIn_block ?_
  replace hS:=hS.nilarr 3 1 fI
  refine D2 (fun n_ a w=>∃(a1:(List Int)) (a0:Int) (a2:Option Addr) (a3:Nat),Fr 22 [] [(3,sv a2 a1 a3),(6,sv ad1 p0 cap2),(7,iv (ln p0)),(8,iv a0)] a∧St w0 [arr 3 1 fI a2 a1.length a3 a1,fz w0 μ] w∧Fj p0 n_ a1 a0=some res) F ⟨[],0,none,0,hF.sub kr,St.pick [0,1] (by decide) hS,h⟩ ?_
  rintro nk2 a w ⟨a1,a0,a2,a3,hF,hS,h⟩
  rcases nk2 with _|nk2
  ·cases (show (none:Option (List Int))=some res from h)
  obtain ⟨k2,hk2⟩:∃k,k=Fj p0 nk2:=⟨_,rfl⟩
  replace h:Fi p0 k2 a1 a0=some res:=by rw [hk2];exact h
  rw [Fi] at h
  refine esr ?_
  refine rn 1 1 [(3,sv a2 a1 a3),(6,sv ad1 p0 cap2),(7,iv (ln p0)),(8,iv a0),(9,.bool (decide (a0<(ln p0))))] hF fun a hF=>?_
  refine wfn rfl ?_
  refine Ba ?_
  refine Ar hF rfl (fun hc=>?_) (fun hc=>?_)
  ·replace h:=Al h hc
   refine wpIn_skip (A4 ?_)
   refine Eb (fun a w=>∃(a4:(List Int)) (a6:Option Addr) (a8:Nat),Fr 22 [] [(3,sv a6 a4 a8),(6,sv ad1 p0 cap2),(7,iv (ln p0)),(8,iv a0)] a∧St w0 [arr 3 1 fI a6 a4.length a8 a4,fz w0 μ] w∧Hr a0 k2 a4=some res) ?_ ?_
   ·skip
    refine wpIn_block ?_
    refine esr ?_
    replace h:=A5 h
    obtain ⟨aD,aL,h⟩:=h
    obtain ⟨aN,aI,aJ⟩:=Ae hA4.2 aL
    obtain ⟨aF,aH,rfl,aO⟩:=aJ
    refine rno 5 [.run [] (Instr.indexAt 135 (sv ad1 p0 cap2) (iv a0)) (.pointer (some (A3 ad1 a0 1))),.run [] (Instr.loadAt 132 (.pointer (some (A3 ad1 a0 1)))) (sv aF aD aH)] 5 [(3,sv a2 a1 a3),(4,iv a0),(5,sv aF aD aH),(6,sv ad1 p0 cap2),(7,iv (ln p0)),(8,iv a0)] hF (A0 (A8 (hA4.at (hS.frz (i:=1) rfl hlow)) kr (fun _=>aI)) (A0 (An (i:=a0) 0 (As 1) (fun _ hd=>(hA4.at ((hS.at_ hd).frz (i:=1) rfl hlow))) kr (fun _=>aI) rfl) Af)) fun a hF=>?_
    refine wfn rfl ?_
    refine esr ?_
    refine rn 3 3 [(3,sv a2 a1 a3),(4,iv a0),(6,sv ad1 p0 cap2),(7,iv (ln p0)),(8,iv a0),(15,.bool (decide ((ln aD)>0)))] hF fun a hF=>?_
    refine wfn rfl ?_
    refine Ar hF rfl (fun hc=>?_) (fun hc=>?_)
    ·replace h:=Al h hc
     refine WI.region ?_
     refine rn 2 2 [(3,sv a2 a1 a3),(6,sv ad1 p0 cap2),(7,iv (ln p0)),(8,iv a0),(16,sv a2 a1 a3),(17,iv a0)] hF fun a hF=>?_
     refine SK.wi (U9 (e:=3) (sz:=1) (f:=fI) (t:=60) (len:=1) (fun aG=>[(3,sv a2 a1 a3),(6,sv ad1 p0 cap2),(7,iv (ln p0)),(8,iv a0),(16,sv a2 a1 a3),(18,sb aG 1)]) #[(0,iv a0)] #[iv a0] ([a0]) hF hS kr ⟨kr⟩ kr K2 rfl rfl kr (fun _=>⟨kr⟩) fun aG w a hF hS=>?_)
     replace h:=A5 h
     obtain ⟨aC,aK,h⟩:=h
     refine SK.wi (Wj (t:=60) (ty:=60) (bytes:=8) (l:=a1) (l':=([a0])) (fun aA aB=>[(3,sv a2 a1 a3),(6,sv ad1 p0 cap2),(7,iv (ln p0)),(8,iv a0),(19,sv aA aC aB)]) 1 hF hS rfl kr ⟨kr⟩ kr (hS.arr (i:=0) rfl) (fun _ _=>rfl) aK (fun _ _=>⟨kr⟩) fun aA aB w a hF hS=>?_)
     refine rn 1 5 [(3,sv aA aC aB),(6,sv ad1 p0 cap2),(7,iv (ln p0)),(8,iv a0)] hF fun a hF=>?_
     refine WI.fin rfl (Ab<|A4<|?_)
     exact ⟨aC,aA,aB,hF.sub kr,St.pick [1,2] (by decide) hS,h⟩
    ·replace h:=Ak h hc
     refine wpIn_skip (Ab<|A4<|?_)
     exact ⟨a1,a2,a3,hF.sub kr,St.pick [0,1] (by decide) hS,h⟩
   rintro a w ⟨a4,a6,a8,hF,hS,h⟩
   rw [Hr] at h
   refine WI.region ?_
   replace h:=A5 h
   obtain ⟨aE,aM,h⟩:=h
   refine rno 2 [.run [] (binOp .add 3 (iv a0) (iv 1)) (iv aE)] 2 [(3,sv a6 a4 a8),(6,sv ad1 p0 cap2),(7,iv (ln p0)),(8,iv aE)] hF (A0 (Bg (fun _=>aM)) Af) fun a hF=>?_
   refine wfn rfl ?_
   rw [hk2] at h
   exact ⟨nk2,Nat.lt_succ_self _,a4,aE,a6,a8,hF.sub kr,St.pick [0,1] (by decide) hS,h⟩
  ·replace h:=Ak h hc
   refine wpIn_exit (A6<|A6<|Ai<|A4 ?_)
   exact ⟨a1,a2,a3,hF.sub kr,St.pick [0,1] (by decide) hS,h⟩
 rintro a w ⟨a5,a7,a9,hF,hS,h⟩
 rw [Kh] at h
 refine esr ?_
 refine rn 2 2 [(2,sv a7 a5 a9)] hF fun a hF=>?_
 refine wfn rfl ?_
 refine wpIn_ret (B6 [.tmp 2] [sv a7 a5 a9] hF rfl ⟨rfl,trivial⟩ ?_)
 have hr_:=Option.some.inj h
 subst hr_
 exact ⟨_,rfl,_,_,rfl,St.pick [0] (by decide) hS⟩
theorem Vc (p0:Int) (p1:Int) (res:api_Span) (h:D0 p0 p1=res) (μ:Frz) (w0:World) (hm:FrzAt μ w0):Calls Try.prog 46 #[iv p0,iv p1] w0 (fun e w=>e=.returned (.agg #[iv res.Lo,iv res.Hi])∧Ext w0 w):=by
 obtain ⟨hlow,hS⟩:=hm.init
 have hext:=Frz.ext_refl w0.heap.size μ
 rw [D0] at h
 refine B5 Try.func46 rfl 8 [(0,iv p0),(1,iv p1)] rfl rfl kr fun a w hw hF=>?_
 replace hS:St w0 [fz w0 μ] w:=by rw [hw];exact hS
 clear hw
 refine esr ?_
 refine SK.wi (Bu (t:=25) (fun b1=>[(0,iv p0),(1,iv p1),(4,pb b1)]) #[iv 0,iv 0] hF hS kr ⟨kr⟩ kr (fun _=>⟨kr⟩) fun b1 w a hF hS=>?_)
 refine wfn rfl ?_
 refine esr ?_
 refine rn 3 3 [(4,pb b1),(7,.agg #[iv p0,iv p1])] hF fun a hF=>?_
 refine SK.wi (storeK (t:=25) [(4,pb b1)] 0 0 (.agg #[iv p0,iv p1]) #[iv p0,iv p1] hF hS rfl kr ⟨kr⟩ kr kr kr kr ⟨kr⟩ fun w a hF hS=>?_)
 refine wfn rfl ?_
 refine wpIn_ret (B6 [.cell 4 25] [.agg #[iv p0,iv p1]] hF rfl ⟨⟨_,rfl,Ub (cs:=[iv p0,iv p1]) kr ((hS.blk (i:=0) rfl).cells rfl)⟩,trivial⟩ ?_)
 subst h
 exact ⟨rfl,hS.ext⟩
theorem Hx (F:Nat) (p0:(List api_Span)) (res:(A7 Bool 80)) (h:Gf F p0=some res) (μ:Frz) (w0:World) (hm:FrzAt μ w0) {ad1:Option Addr} {cap2:Nat} (hA3:ArrM μ 2 api_Span.cells ad1 cap2 p0):Calls Try.prog 40 #[sv ad1 p0 cap2] w0 (fun e w=>e=.returned (.agg (vF Value.bool res).toArray)∧Ext w0 w):=by
 obtain ⟨hlow,hS⟩:=hm.init
 have hext:=Frz.ext_refl w0.heap.size μ
 rw [Gf] at h
 refine B5 Try.func40 rfl 32 [(0,sv ad1 p0 cap2)] rfl rfl kr fun a w hw hF=>?_
 replace hS:St w0 [fz w0 μ] w:=by rw [hw];exact hS
 clear hw
 refine esr ?_
 refine SK.wi (Bu (t:=85) (fun b4=>[(0,sv ad1 p0 cap2),(2,pb b4)]) (vF Value.bool (default:A7 Bool 80)).toArray hF hS kr ⟨kr⟩ kr (fun _=>⟨kr⟩) fun b4 w a hF hS=>?_)
 refine wfn rfl ?_
 refine esr ?_
 refine SK.wi (Bu (t:=85) (fun b5=>[(0,sv ad1 p0 cap2),(2,pb b4),(3,pb b5)]) (vF Value.bool (default:A7 Bool 80)).toArray hF hS kr ⟨kr⟩ kr (fun _=>⟨kr⟩) fun b5 w a hF hS=>?_)
 refine wfn rfl ?_
 refine Eb (fun a w=>∃(a4:(A7 Bool 80)),Fr 32 [] [(2,pb b4),(3,pb b5)] a∧St w0 [blk b5 85 (vF Value.bool a4).toArray,blk b4 85 (vF Value.bool (default:A7 Bool 80)).toArray,fz w0 μ] w∧Kj a4=some res) ?_ ?_
 ·skip
  refine esr ?_
  refine rn 3 3 [(2,pb b4),(3,pb b5),(7,sv ad1 p0 cap2),(8,iv (ln p0)),(9,iv 0)] hF fun a hF=>?_
  refine wfn rfl ?_
  refine wpIn_block ?_
  refine D2 (fun n_ a w=>∃(a5:(A7 Bool 80)) (a0:Int),Fr 32 [] [(2,pb b4),(3,pb b5),(7,sv ad1 p0 cap2),(8,iv (ln p0)),(9,iv a0)] a∧St w0 [blk b5 85 (vF Value.bool a5).toArray,blk b4 85 (vF Value.bool (default:A7 Bool 80)).toArray,fz w0 μ] w∧Ew F p0 n_ a5 a0=some res) F ⟨(default:A7 Bool 80),0,hF.sub kr,St.pick [0,1,2] (by decide) hS,h⟩ ?_
  rintro nk2 a w ⟨a5,a0,hF,hS,h⟩
  rcases nk2 with _|nk2
  ·cases (show (none:Option (A7 Bool 80))=some res from h)
  obtain ⟨k2,hk2⟩:∃k,k=Ew F p0 nk2:=⟨_,rfl⟩
  replace h:Fs F p0 k2 a5 a0=some res:=by rw [hk2];exact h
  rw [Fs] at h
  refine esr ?_
  refine rn 1 1 [(2,pb b4),(3,pb b5),(7,sv ad1 p0 cap2),(8,iv (ln p0)),(9,iv a0),(10,.bool (decide (a0<(ln p0))))] hF fun a hF=>?_
  refine wfn rfl ?_
  refine Ba ?_
  refine Ar hF rfl (fun hc=>?_) (fun hc=>?_)
  ·replace h:=Al h hc
   refine wpIn_skip (A4 ?_)
   refine Eb (fun a w=>∃(a7:(A7 Bool 80)),Fr 32 [] [(2,pb b4),(3,pb b5),(7,sv ad1 p0 cap2),(8,iv (ln p0)),(9,iv a0)] a∧St w0 [blk b5 85 (vF Value.bool a7).toArray,blk b4 85 (vF Value.bool (default:A7 Bool 80)).toArray,fz w0 μ] w∧Hw a0 k2 a7=some res) ?_ ?_
   ·skip
    refine wpIn_block ?_
    refine esr ?_
    replace h:=A5 h
    obtain ⟨a1,aC,h⟩:=h
    refine rno 2 [.run [] (Instr.indexAt 43 (sv ad1 p0 cap2) (iv a0)) (.pointer (some (A3 ad1 a0 2))),.run [] (Instr.loadAt 25 (.pointer (some (A3 ad1 a0 2)))) (.agg #[iv a1.Lo,iv a1.Hi])] 2 [(2,pb b4),(3,pb b5),(7,sv ad1 p0 cap2),(8,iv (ln p0)),(9,iv a0),(12,.agg #[iv a1.Lo,iv a1.Hi])] hF (A0 (A8 (hA3 _ (hS.frz (i:=2) rfl hlow)) kr (fun _=>aC)) (A0 (Dx (m:=2) (i:=a0) (us:=[iv a1.Lo,iv a1.Hi]) 0 api_Span.cells_len (fun _ hd=>(hA3 _ ((hS.at_ hd).frz (i:=2) rfl hlow))) kr (fun _=>aC) ⟨rfl,rfl⟩) Af)) fun a hF=>?_
    refine SK.wi (Bu (t:=25) (fun a2=>[(2,pb b4),(3,pb b5),(5,pb a2),(7,sv ad1 p0 cap2),(8,iv (ln p0)),(9,iv a0),(12,.agg #[iv a1.Lo,iv a1.Hi])]) #[iv 0,iv 0] hF hS kr ⟨kr⟩ kr (fun _=>⟨kr⟩) fun a2 w a hF hS=>?_)
    refine SK.wi (storeK (t:=25) [(2,pb b4),(3,pb b5),(5,pb a2),(7,sv ad1 p0 cap2),(8,iv (ln p0)),(9,iv a0)] 0 0 (.agg #[iv a1.Lo,iv a1.Hi]) #[iv a1.Lo,iv a1.Hi] hF hS rfl kr ⟨kr⟩ kr kr kr kr ⟨kr⟩ fun w a hF hS=>?_)
    refine wfn rfl ?_
    refine esr ?_
    refine rno 3 [.run [] (Instr.loadAt 3 (pb a2)) (iv a1.Lo)] 3 [(2,pb b4),(3,pb b5),(5,pb a2),(6,iv a1.Lo),(7,sv ad1 p0 cap2),(8,iv (ln p0)),(9,iv a0)] hF (A0 (ob1 kr (fun _ hd=>(hS.at_ hd).cell (i:=0) (j:=0) rfl rfl)) Af) fun a hF=>?_
    refine wfn rfl ?_
    refine wpIn_block ?_
    refine D2 (fun n_ a w=>∃(a6:(A7 Bool 80)) (a3:Int),Fr 32 [] [(2,pb b4),(3,pb b5),(5,pb a2),(6,iv a3),(7,sv ad1 p0 cap2),(8,iv (ln p0)),(9,iv a0)] a∧St w0 [blk a2 25 #[iv a1.Lo,iv a1.Hi],blk b5 85 (vF Value.bool a6).toArray,blk b4 85 (vF Value.bool (default:A7 Bool 80)).toArray,fz w0 μ] w∧Ex a0 k2 a1 n_ a6 a3=some res) F ⟨a5,a1.Lo,hF.sub kr,St.pick [0,1,2,3] (by decide) hS,h⟩ ?_
    rintro nk4 a w ⟨a6,a3,hF,hS,h⟩
    rcases nk4 with _|nk4
    ·cases (show (none:Option (A7 Bool 80))=some res from h)
    obtain ⟨k4,hk4⟩:∃k,k=Ex a0 k2 a1 nk4:=⟨_,rfl⟩
    replace h:Ft a0 k2 a1 k4 a6 a3=some res:=by rw [hk4];exact h
    rw [Ft] at h
    refine Ba ?_
    refine esr ?_
    refine rno 8 [.run [] (Instr.loadAt 3 (.pointer (some ⟨a2,1,none⟩))) (iv a1.Hi)] 8 [(2,pb b4),(3,pb b5),(5,pb a2),(6,iv a3),(7,sv ad1 p0 cap2),(8,iv (ln p0)),(9,iv a0),(22,.bool (bif (decide (a3≤a1.Hi)) then (decide (a3<60)) else false))] hF (A0 (ob1 kr (fun _ hd=>(hS.at_ hd).cell (i:=0) (j:=1) rfl rfl)) Af) fun a hF=>?_
    refine wfn rfl ?_
    refine Ar hF rfl (fun hc=>?_) (fun hc=>?_)
    ·replace h:=Al h hc
     refine wpIn_skip (A4 ?_)
     refine Eb (fun a w=>∃(a8:(A7 Bool 80)),Fr 32 [] [(2,pb b4),(3,pb b5),(5,pb a2),(6,iv a3),(7,sv ad1 p0 cap2),(8,iv (ln p0)),(9,iv a0)] a∧St w0 [blk a2 25 #[iv a1.Lo,iv a1.Hi],blk b5 85 (vF Value.bool a8).toArray,blk b4 85 (vF Value.bool (default:A7 Bool 80)).toArray,fz w0 μ] w∧Gm a3 k4 a8=some res) ?_ ?_
     ·skip
      refine wpIn_block ?_
      refine esr ?_
      refine rn 2 2 [(2,pb b4),(3,pb b5),(5,pb a2),(6,iv a3),(7,sv ad1 p0 cap2),(8,iv (ln p0)),(9,iv a0),(26,.bool (decide (a3≥(-20))))] hF fun a hF=>?_
      refine wfn rfl ?_
      refine Ar hF rfl (fun hc=>?_) (fun hc=>?_)
      ·replace h:=Al h hc
       refine WI.region ?_
       replace h:=A5 h
       obtain ⟨a9,aH,h⟩:=h
       replace h:=A5 h
       obtain ⟨aJ,aE,h⟩:=h
       refine rno 3 [.run [] (binOp .sub 3 (iv a3) (iv (-20))) (iv a9),.run [] (Instr.indexAt 85 (pb b5) (iv a9)) (.pointer (some ((⟨b5,0,none⟩:Addr).add a9.toNat)))] 3 [(2,pb b4),(3,pb b5),(5,pb a2),(6,iv a3),(7,sv ad1 p0 cap2),(8,iv (ln p0)),(9,iv a0),(29,.pointer (some ((⟨b5,0,none⟩:Addr).add a9.toNat)))] hF (A0 (Dl (fun _=>aH)) (A0 (Q7 kr (fun _=>aE)) Af)) fun a hF=>?_
       replace h:=A5 h
       obtain ⟨aI,aD,h⟩:=h
       refine SK.wi (A81 (f:=Value.bool) (u:=true) (t:=4) [(2,pb b4),(3,pb b5),(5,pb a2),(6,iv a3),(7,sv ad1 p0 cap2),(8,iv (ln p0)),(9,iv a0)] 1 hF hS rfl kr ⟨kr⟩ kr rfl rfl aD ⟨kr⟩ fun w a hF hS=>?_)
       refine WI.fin rfl (Ab<|A4<|?_)
       exact ⟨aI,hF.sub kr,St.pick [0,1,2,3] (by decide) hS,h⟩
      ·replace h:=Ak h hc
       refine wpIn_skip (Ab<|A4<|?_)
       exact ⟨a6,hF.sub kr,St.pick [0,1,2,3] (by decide) hS,h⟩
     rintro a w ⟨a8,hF,hS,h⟩
     rw [Gm] at h
     refine WI.region ?_
     replace h:=A5 h
     obtain ⟨aB,aG,h⟩:=h
     refine rno 3 [.run [] (binOp .add 3 (iv a3) (iv 1)) (iv aB)] 3 [(2,pb b4),(3,pb b5),(5,pb a2),(6,iv aB),(7,sv ad1 p0 cap2),(8,iv (ln p0)),(9,iv a0)] hF (A0 (Bg (fun _=>aG)) Af) fun a hF=>?_
     refine wfn rfl ?_
     rw [hk4] at h
     exact ⟨nk4,Nat.lt_succ_self _,a8,aB,hF.sub kr,St.pick [0,1,2,3] (by decide) hS,h⟩
    ·replace h:=Ak h hc
     refine wpIn_exit (A6<|A6<|Ai<|Ab<|A4<|?_)
     exact ⟨a6,hF.sub kr,St.pick [1,2,3] (by decide) hS,h⟩
   rintro a w ⟨a7,hF,hS,h⟩
   rw [Hw] at h
   refine WI.region ?_
   replace h:=A5 h
   obtain ⟨aA,aF,h⟩:=h
   refine rno 2 [.run [] (binOp .add 3 (iv a0) (iv 1)) (iv aA)] 2 [(2,pb b4),(3,pb b5),(7,sv ad1 p0 cap2),(8,iv (ln p0)),(9,iv aA)] hF (A0 (Bg (fun _=>aF)) Af) fun a hF=>?_
   refine wfn rfl ?_
   rw [hk2] at h
   exact ⟨nk2,Nat.lt_succ_self _,a7,aA,hF.sub kr,St.pick [0,1,2] (by decide) hS,h⟩
  ·replace h:=Ak h hc
   refine wpIn_exit (A6<|A6<|Ai<|A4 ?_)
   exact ⟨a5,hF.sub kr,St.pick [0,1,2] (by decide) hS,h⟩
 rintro a w ⟨a4,hF,hS,h⟩
 rw [Kj] at h
 refine esr ?_
 refine rno 1 [.run [] (Instr.loadAt 85 (pb b5)) (.agg (vF Value.bool a4).toArray)] 1 [(2,pb b4),(31,.agg (vF Value.bool a4).toArray)] hF (A0 (Qr (f:=Value.bool) (tt:=85) kr (fun _ hd=>((hS.at_ hd).blk (i:=0) rfl))) Af) fun a hF=>?_
 refine SK.wi (A0o (f:=Value.bool) (y:=a4) (t:=85) [(2,pb b4)] 1 (fun _=>rfl) hF hS rfl kr ⟨kr⟩ kr ⟨kr⟩ fun w a hF hS=>?_)
 refine wfn rfl ?_
 refine wpIn_ret (B6 [.cell 2 85] [.agg (vF Value.bool a4).toArray] hF rfl ⟨⟨_,rfl,Vw (f:=Value.bool) kr (hS.blk (i:=1) rfl)⟩,trivial⟩ ?_)
 have hr_:=Option.some.inj h
 subst hr_
 exact ⟨rfl,hS.ext⟩
theorem B8 (F:Nat) (p0:(A7 Bool 80)) (p1:(A7 Bool 80)) (p2:Int) (res:(A7 Bool 80)) (h:Ff F p0 p1 p2=some res) (μ:Frz) (w0:World) (hm:FrzAt μ w0):Calls Try.prog 41 #[.agg (vF Value.bool p0).toArray,.agg (vF Value.bool p1).toArray,iv p2] w0 (fun e w=>e=.returned (.agg (vF Value.bool res).toArray)∧Ext w0 w):=by
 obtain ⟨hlow,hS⟩:=hm.init
 have hext:=Frz.ext_refl w0.heap.size μ
 rw [Ff] at h
 refine B5 Try.func41 rfl 45 [(0,.agg (vF Value.bool p0).toArray),(1,.agg (vF Value.bool p1).toArray),(2,iv p2)] rfl rfl kr fun a w hw hF=>?_
 replace hS:St w0 [fz w0 μ] w:=by rw [hw];exact hS
 clear hw
 refine esr ?_
 refine SK.wi (Tg (t:=85) (fun b1=>[(1,.agg (vF Value.bool p1).toArray),(2,iv p2),(3,pb b1)]) (.agg (vF Value.bool p0).toArray) (vF Value.bool p0).toArray hF hS kr ⟨kr⟩ kr (fun _=>⟨kr⟩) fun b1 w a hF hS=>?_)
 refine SK.wi (Tg (t:=85) (fun b2=>[(2,iv p2),(3,pb b1),(4,pb b2)]) (.agg (vF Value.bool p1).toArray) (vF Value.bool p1).toArray hF hS kr ⟨kr⟩ kr (fun _=>⟨kr⟩) fun b2 w a hF hS=>?_)
 refine SK.wi (Bu (t:=85) (fun b3=>[(2,iv p2),(3,pb b1),(4,pb b2),(6,pb b3)]) (vF Value.bool (default:A7 Bool 80)).toArray hF hS kr ⟨kr⟩ kr (fun _=>⟨kr⟩) fun b3 w a hF hS=>?_)
 refine wfn rfl ?_
 refine esr ?_
 refine SK.wi (Bu (t:=85) (fun b4=>[(2,iv p2),(3,pb b1),(4,pb b2),(6,pb b3),(7,pb b4)]) (vF Value.bool (default:A7 Bool 80)).toArray hF hS kr ⟨kr⟩ kr (fun _=>⟨kr⟩) fun b4 w a hF hS=>?_)
 refine wfn rfl ?_
 refine Eb (fun a w=>∃(a2:(A7 Bool 80)),Fr 45 [] [(6,pb b3),(7,pb b4)] a∧St w0 [blk b4 85 (vF Value.bool a2).toArray,blk b3 85 (vF Value.bool (default:A7 Bool 80)).toArray,blk b2 85 (vF Value.bool p1).toArray,blk b1 85 (vF Value.bool p0).toArray,fz w0 μ] w∧Kt a2=some res) ?_ ?_
 ·skip
  refine esr ?_
  refine rn 1 1 [(2,iv p2),(3,pb b1),(4,pb b2),(6,pb b3),(7,pb b4),(10,iv 0)] hF fun a hF=>?_
  refine wfn rfl ?_
  refine wpIn_block ?_
  refine D2 (fun n_ a w=>∃(a3:(A7 Bool 80)) (a0:Int),Fr 45 [] [(2,iv p2),(3,pb b1),(4,pb b2),(6,pb b3),(7,pb b4),(10,iv a0)] a∧St w0 [blk b4 85 (vF Value.bool a3).toArray,blk b3 85 (vF Value.bool (default:A7 Bool 80)).toArray,blk b2 85 (vF Value.bool p1).toArray,blk b1 85 (vF Value.bool p0).toArray,fz w0 μ] w∧Cw F p0 p1 p2 n_ a3 a0=some res) F ⟨(default:A7 Bool 80),0,hF.sub kr,St.pick [0,1,2,3,4] (by decide) hS,h⟩ ?_
  rintro nk2 a w ⟨a3,a0,hF,hS,h⟩
  rcases nk2 with _|nk2
  ·cases (show (none:Option (A7 Bool 80))=some res from h)
  obtain ⟨k2,hk2⟩:∃k,k=Cw F p0 p1 p2 nk2:=⟨_,rfl⟩
  replace h:Ec F p0 p1 p2 k2 a3 a0=some res:=by rw [hk2];exact h
  rw [Ec] at h
  refine esr ?_
  refine rn 1 1 [(2,iv p2),(3,pb b1),(4,pb b2),(6,pb b3),(7,pb b4),(10,iv a0),(11,.bool (decide (a0<80)))] hF fun a hF=>?_
  refine wfn rfl ?_
  refine Ba ?_
  refine Ar hF rfl (fun hc=>?_) (fun hc=>?_)
  ·replace h:=Al h hc
   refine wpIn_skip (A4 ?_)
   refine Eb (fun a w=>∃(a7:(A7 Bool 80)),Fr 45 [] [(2,iv p2),(3,pb b1),(4,pb b2),(6,pb b3),(7,pb b4),(10,iv a0)] a∧St w0 [blk b4 85 (vF Value.bool a7).toArray,blk b3 85 (vF Value.bool (default:A7 Bool 80)).toArray,blk b2 85 (vF Value.bool p1).toArray,blk b1 85 (vF Value.bool p0).toArray,fz w0 μ] w∧Gg a0 k2 a7=some res) ?_ ?_
   ·skip
    refine wpIn_block ?_
    refine esr ?_
    refine rn 2 2 [(2,iv p2),(3,pb b1),(4,pb b2),(6,pb b3),(7,pb b4),(8,iv a0),(10,iv a0)] hF fun a hF=>?_
    refine wfn rfl ?_
    refine esr ?_
    replace h:=A5 h
    obtain ⟨a6,aJ,h⟩:=h
    refine rno 5 [.run [] (binOp .sub 3 (iv a0) (iv p2)) (iv a6)] 5 [(2,iv p2),(3,pb b1),(4,pb b2),(6,pb b3),(7,pb b4),(8,iv a0),(9,iv (if a6>0 then a6 else 0)),(10,iv a0)] hF (A0 (Dl (fun _=>aJ)) Af) fun a hF=>?_
    refine wfn rfl ?_
    refine wpIn_block ?_
    refine D2 (fun n_ a w=>∃(a5:(A7 Bool 80)) (a1:Int),Fr 45 [] [(2,iv p2),(3,pb b1),(4,pb b2),(6,pb b3),(7,pb b4),(8,iv a0),(9,iv a1),(10,iv a0)] a∧St w0 [blk b4 85 (vF Value.bool a5).toArray,blk b3 85 (vF Value.bool (default:A7 Bool 80)).toArray,blk b2 85 (vF Value.bool p1).toArray,blk b1 85 (vF Value.bool p0).toArray,fz w0 μ] w∧Du p0 p1 p2 a0 k2 n_ a5 a1=some res) F ⟨a3,if a6>0 then a6 else 0,hF.sub kr,St.pick [0,1,2,3,4] (by decide) hS,h⟩ ?_
    rintro nk4 a w ⟨a5,a1,hF,hS,h⟩
    rcases nk4 with _|nk4
    ·cases (show (none:Option (A7 Bool 80))=some res from h)
    obtain ⟨k4,hk4⟩:∃k,k=Du p0 p1 p2 a0 k2 nk4:=⟨_,rfl⟩
    replace h:Ed p0 p1 p2 a0 k2 k4 a5 a1=some res:=by rw [hk4];exact h
    rw [Ed] at h
    refine Ba ?_
    refine esr ?_
    replace h:=A5 h
    obtain ⟨a8,aK,h⟩:=h
    replace h:=A5 h
    obtain ⟨aF,aC,h⟩:=h
    refine rno 14 [.run [] (binOp .add 3 (iv a0) (iv p2)) (iv a8),.run [⟨26,true,(bif (decide (a1≤a8)) then (decide (a1<80)) else false)⟩] (Instr.indexAt 85 (pb b1) (iv a0)) (.pointer (some ((⟨b1,0,none⟩:Addr).add a0.toNat))),.run [⟨26,true,(bif (decide (a1≤a8)) then (decide (a1<80)) else false)⟩] (Instr.loadAt 4 (.pointer (some ((⟨b1,0,none⟩:Addr).add a0.toNat)))) (.bool aF)] 14 [(2,iv p2),(3,pb b1),(4,pb b2),(6,pb b3),(7,pb b4),(8,iv a0),(9,iv a1),(10,iv a0),(30,.bool (bif (bif (decide (a1≤a8)) then (decide (a1<80)) else false) then aF else false))] hF (A0 (Bg (fun _=>aK)) (A0 (Q7 kr (fun hk=>Di aC hk)) (A0 (A4w (f:=Value.bool) (tt:=85) kr (fun hk=>Di aC hk) (fun _ hd=>((hS.at_ hd).blk (i:=3) rfl))) Af))) fun a hF=>?_
    refine wfn rfl ?_
    refine Ar hF rfl (fun hc=>?_) (fun hc=>?_)
    ·replace h:=Al h hc
     refine wpIn_skip (A4 ?_)
     refine Ba ?_
     refine wpIn_block ?_
     refine WI.region ?_
     replace h:=A5 h
     obtain ⟨a4,aD,h⟩:=h
     replace h:=A5 h
     obtain ⟨a9,aE,h⟩:=h
     replace h:=A5 h
     obtain ⟨aN,aH,h⟩:=h
     refine rno 10 [.run [] (Instr.indexAt 85 (pb b4) (iv a0)) (.pointer (some ((⟨b4,0,none⟩:Addr).add a0.toNat))),.run [] (Instr.loadAt 4 (.pointer (some ((⟨b4,0,none⟩:Addr).add a0.toNat)))) (.bool a4),.run [⟨37,false,a4⟩] (Instr.indexAt 85 (pb b2) (iv a1)) (.pointer (some ((⟨b2,0,none⟩:Addr).add a1.toNat))),.run [⟨37,false,a4⟩] (Instr.loadAt 4 (.pointer (some ((⟨b2,0,none⟩:Addr).add a1.toNat)))) (.bool a9),.run [] (Instr.indexAt 85 (pb b4) (iv a0)) (.pointer (some ((⟨b4,0,none⟩:Addr).add a0.toNat)))] 10 [(2,iv p2),(3,pb b1),(4,pb b2),(6,pb b3),(7,pb b4),(8,iv a0),(9,iv a1),(10,iv a0),(41,.bool (bif a4 then true else a9)),(42,.pointer (some ((⟨b4,0,none⟩:Addr).add a0.toNat)))] hF (A0 (Q7 kr (fun _=>aD)) (A0 (A4w (f:=Value.bool) (tt:=85) kr (fun _=>aD) (fun _ hd=>((hS.at_ hd).blk (i:=0) rfl))) (A0 (Q7 kr (fun hk=>Di aE hk)) (A0 (A4w (f:=Value.bool) (tt:=85) kr (fun hk=>Di aE hk) (fun _ hd=>((hS.at_ hd).blk (i:=2) rfl))) (A0 (Q7 kr (fun _=>aH)) Af))))) fun a hF=>?_
     replace h:=A5 h
     obtain ⟨aM,aG,h⟩:=h
     refine SK.wi (A81 (f:=Value.bool) (u:=bif a4 then true else a9) (t:=4) [(2,iv p2),(3,pb b1),(4,pb b2),(6,pb b3),(7,pb b4),(8,iv a0),(9,iv a1),(10,iv a0)] 0 hF hS rfl kr ⟨kr⟩ kr rfl rfl aG ⟨kr⟩ fun w a hF hS=>?_)
     refine WI.fin rfl (Ab<|A4<|?_)
     refine WI.region ?_
     replace h:=A5 h
     obtain ⟨aB,aL,h⟩:=h
     refine rno 3 [.run [] (binOp .add 3 (iv a1) (iv 1)) (iv aB)] 3 [(2,iv p2),(3,pb b1),(4,pb b2),(6,pb b3),(7,pb b4),(8,iv a0),(9,iv aB),(10,iv a0)] hF (A0 (Bg (fun _=>aL)) Af) fun a hF=>?_
     refine wfn rfl ?_
     rw [hk4] at h
     exact ⟨nk4,Nat.lt_succ_self _,aM,aB,hF.sub kr,St.pick [0,1,2,3,4] (by decide) hS,h⟩
    ·replace h:=Ak h hc
     refine wpIn_exit (A6<|A6<|Ai<|Ab<|A4<|?_)
     exact ⟨a5,hF.sub kr,St.pick [0,1,2,3,4] (by decide) hS,h⟩
   rintro a w ⟨a7,hF,hS,h⟩
   rw [Gg] at h
   refine WI.region ?_
   replace h:=A5 h
   obtain ⟨aA,aI,h⟩:=h
   refine rno 2 [.run [] (binOp .add 3 (iv a0) (iv 1)) (iv aA)] 2 [(2,iv p2),(3,pb b1),(4,pb b2),(6,pb b3),(7,pb b4),(10,iv aA)] hF (A0 (Bg (fun _=>aI)) Af) fun a hF=>?_
   refine wfn rfl ?_
   rw [hk2] at h
   exact ⟨nk2,Nat.lt_succ_self _,a7,aA,hF.sub kr,St.pick [0,1,2,3,4] (by decide) hS,h⟩
  ·replace h:=Ak h hc
   refine wpIn_exit (A6<|A6<|Ai<|A4 ?_)
   exact ⟨a3,hF.sub kr,St.pick [0,1,2,3,4] (by decide) hS,h⟩
 rintro a w ⟨a2,hF,hS,h⟩
 rw [Kt] at h
 refine esr ?_
 refine rno 1 [.run [] (Instr.loadAt 85 (pb b4)) (.agg (vF Value.bool a2).toArray)] 1 [(6,pb b3),(44,.agg (vF Value.bool a2).toArray)] hF (A0 (Qr (f:=Value.bool) (tt:=85) kr (fun _ hd=>((hS.at_ hd).blk (i:=0) rfl))) Af) fun a hF=>?_
 refine SK.wi (A0o (f:=Value.bool) (y:=a2) (t:=85) [(6,pb b3)] 1 (fun _=>rfl) hF hS rfl kr ⟨kr⟩ kr ⟨kr⟩ fun w a hF hS=>?_)
 refine wfn rfl ?_
 refine wpIn_ret (B6 [.cell 6 85] [.agg (vF Value.bool a2).toArray] hF rfl ⟨⟨_,rfl,Vw (f:=Value.bool) kr (hS.blk (i:=1) rfl)⟩,trivial⟩ ?_)
 have hr_:=Option.some.inj h
 subst hr_
 exact ⟨rfl,hS.ext⟩
theorem Nf (F:Nat) (p0:(List api_Span)) (p1:(A7 Bool 80)) (res:Bool) (h:Hb F p0 p1=some res) (μ:Frz) (w0:World) (hm:FrzAt μ w0) {ad1:Option Addr} {cap2:Nat} (hA3:ArrM μ 2 api_Span.cells ad1 cap2 p0):Calls Try.prog 42 #[sv ad1 p0 cap2,.agg (vF Value.bool p1).toArray] w0 (fun e w=>e=.returned (.bool res)∧Ext w0 w):=by
 obtain ⟨hlow,hS⟩:=hm.init
 have hext:=Frz.ext_refl w0.heap.size μ
 rw [Hb] at h
 refine B5 Try.func42 rfl 61 [(0,sv ad1 p0 cap2),(1,.agg (vF Value.bool p1).toArray)] rfl rfl kr fun a w hw hF=>?_
 replace hS:St w0 [fz w0 μ] w:=by rw [hw];exact hS
 clear hw
 refine esr ?_
 refine SK.wi (Tg (t:=85) (fun b4=>[(0,sv ad1 p0 cap2),(3,pb b4)]) (.agg (vF Value.bool p1).toArray) (vF Value.bool p1).toArray hF hS kr ⟨kr⟩ kr (fun _=>⟨kr⟩) fun b4 w a hF hS=>?_)
 refine rn 1 2 [(0,sv ad1 p0 cap2),(3,pb b4)] hF fun a hF=>?_
 refine wfn rfl ?_
 refine Eb (fun a w=>Fr 61 [] [] a∧St w0 [blk b4 85 (vF Value.bool p1).toArray,fz w0 μ] w∧Ku=some res) ?_ ?_
 ·skip
  refine esr ?_
  refine rn 3 3 [(0,sv ad1 p0 cap2),(3,pb b4),(7,sv ad1 p0 cap2),(8,iv (ln p0)),(9,iv 0)] hF fun a hF=>?_
  refine wfn rfl ?_
  refine wpIn_block ?_
  refine D2 (fun n_ a w=>∃(a1:Int),Fr 61 [] [(0,sv ad1 p0 cap2),(3,pb b4),(7,sv ad1 p0 cap2),(8,iv (ln p0)),(9,iv a1)] a∧St w0 [blk b4 85 (vF Value.bool p1).toArray,fz w0 μ] w∧Ef p0 p1 n_ a1=some res) F ⟨0,hF.sub kr,St.pick [0,1] (by decide) hS,h⟩ ?_
  rintro nk2 a w ⟨a1,hF,hS,h⟩
  rcases nk2 with _|nk2
  ·cases (show (none:Option Bool)=some res from h)
  obtain ⟨k2,hk2⟩:∃k,k=Ef p0 p1 nk2:=⟨_,rfl⟩
  replace h:Ee p0 p1 k2 a1=some res:=by rw [hk2];exact h
  rw [Ee] at h
  refine esr ?_
  refine rn 1 1 [(0,sv ad1 p0 cap2),(3,pb b4),(7,sv ad1 p0 cap2),(8,iv (ln p0)),(9,iv a1),(10,.bool (decide (a1<(ln p0))))] hF fun a hF=>?_
  refine wfn rfl ?_
  refine Ba ?_
  refine Ar hF rfl (fun hc=>?_) (fun hc=>?_)
  ·replace h:=Al h hc
   refine wpIn_skip (A4 ?_)
   refine Ba ?_
   refine wpIn_block ?_
   refine esr ?_
   replace h:=A5 h
   obtain ⟨a0,a9,h⟩:=h
   refine rno 3 [.run [] (Instr.indexAt 43 (sv ad1 p0 cap2) (iv a1)) (.pointer (some (A3 ad1 a1 2))),.run [] (Instr.loadAt 25 (.pointer (some (A3 ad1 a1 2)))) (.agg #[iv a0.Lo,iv a0.Hi])] 3 [(0,sv ad1 p0 cap2),(3,pb b4),(7,sv ad1 p0 cap2),(8,iv (ln p0)),(9,iv a1),(11,iv a1),(13,.agg #[iv a0.Lo,iv a0.Hi])] hF (A0 (A8 (hA3 _ (hS.frz (i:=1) rfl hlow)) kr (fun _=>a9)) (A0 (Dx (m:=2) (i:=a1) (us:=[iv a0.Lo,iv a0.Hi]) 0 api_Span.cells_len (fun _ hd=>(hA3 _ ((hS.at_ hd).frz (i:=1) rfl hlow))) kr (fun _=>a9) ⟨rfl,rfl⟩) Af)) fun a hF=>?_
   refine SK.wi (Bu (t:=25) (fun a3=>[(0,sv ad1 p0 cap2),(3,pb b4),(6,pb a3),(7,sv ad1 p0 cap2),(8,iv (ln p0)),(9,iv a1),(11,iv a1),(13,.agg #[iv a0.Lo,iv a0.Hi])]) #[iv 0,iv 0] hF hS kr ⟨kr⟩ kr (fun _=>⟨kr⟩) fun a3 w a hF hS=>?_)
   refine rn 1 5 [(0,sv ad1 p0 cap2),(3,pb b4),(5,iv a1),(6,pb a3),(7,sv ad1 p0 cap2),(8,iv (ln p0)),(9,iv a1),(13,.agg #[iv a0.Lo,iv a0.Hi])] hF fun a hF=>?_
   refine SK.wi (storeK (t:=25) [(0,sv ad1 p0 cap2),(3,pb b4),(5,iv a1),(6,pb a3),(7,sv ad1 p0 cap2),(8,iv (ln p0)),(9,iv a1)] 0 0 (.agg #[iv a0.Lo,iv a0.Hi]) #[iv a0.Lo,iv a0.Hi] hF hS rfl kr ⟨kr⟩ kr kr kr kr ⟨kr⟩ fun w a hF hS=>?_)
   refine wfn rfl ?_
   refine Ba ?_
   replace h:=A5 h
   obtain ⟨a5,aE,h⟩:=h
   replace h:=A5 h
   obtain ⟨a2,aA,h⟩:=h
   replace h:=A5 h
   obtain ⟨a6,aF,h⟩:=h
   replace h:=A5 h
   obtain ⟨a4,aB,h⟩:=h
   replace h:=A5 h
   obtain ⟨a7,aG,h⟩:=h
   replace h:=A5 h
   obtain ⟨aD,aC,h⟩:=h
   refine L8 (obs:=[.run [] (Instr.loadAt 3 (pb a3)) (iv a0.Lo),.run [] (Instr.loadAt 3 (.pointer (some ⟨a3,1,none⟩))) (iv a0.Hi),.run [⟨22,true,(decide (a1>0))⟩,⟨19,false,(decide (a0.Lo>a0.Hi))⟩] (Instr.loadAt 3 (pb a3)) (iv a0.Lo),.run [⟨22,true,(decide (a1>0))⟩,⟨19,false,(decide (a0.Lo>a0.Hi))⟩] (binOp .sub 3 (iv a1) (iv 1)) (iv a5),.run [⟨22,true,(decide (a1>0))⟩,⟨19,false,(decide (a0.Lo>a0.Hi))⟩] (Instr.indexAt 43 (sv ad1 p0 cap2) (iv a5)) (.pointer (some (A3 ad1 a5 2))),.run [⟨22,true,(decide (a1>0))⟩,⟨19,false,(decide (a0.Lo>a0.Hi))⟩] (Instr.loadAt 3 (.pointer (some ((A3 ad1 a5 2).add 1)))) (iv a2.Hi),.run [⟨34,false,(bif (decide (a0.Lo>a0.Hi)) then true else (bif (decide (a1>0)) then (decide (a0.Lo≤a2.Hi)) else false))⟩] (Instr.loadAt 3 (pb a3)) (iv a0.Lo),.run [⟨39,false,(bif (bif (decide (a0.Lo>a0.Hi)) then true else (bif (decide (a1>0)) then (decide (a0.Lo≤a2.Hi)) else false)) then true else (decide (a0.Lo<(-20))))⟩] (Instr.loadAt 3 (.pointer (some ⟨a3,1,none⟩))) (iv a0.Hi),.run [⟨44,false,(bif (bif (bif (decide (a0.Lo>a0.Hi)) then true else (bif (decide (a1>0)) then (decide (a0.Lo≤a2.Hi)) else false)) then true else (decide (a0.Lo<(-20)))) then true else (decide (a0.Hi≥60)))⟩] (Instr.loadAt 3 (pb a3)) (iv a0.Lo),.run [⟨44,false,(bif (bif (bif (decide (a0.Lo>a0.Hi)) then true else (bif (decide (a1>0)) then (decide (a0.Lo≤a2.Hi)) else false)) then true else (decide (a0.Lo<(-20)))) then true else (decide (a0.Hi≥60)))⟩] (binOp .sub 3 (iv a0.Lo) (iv (-20))) (iv a6),.run [⟨44,false,(bif (bif (bif (decide (a0.Lo>a0.Hi)) then true else (bif (decide (a1>0)) then (decide (a0.Lo≤a2.Hi)) else false)) then true else (decide (a0.Lo<(-20)))) then true else (decide (a0.Hi≥60)))⟩] (Instr.indexAt 85 (pb b4) (iv a6)) (.pointer (some ((⟨b4,0,none⟩:Addr).add a6.toNat))),.run [⟨44,false,(bif (bif (bif (decide (a0.Lo>a0.Hi)) then true else (bif (decide (a1>0)) then (decide (a0.Lo≤a2.Hi)) else false)) then true else (decide (a0.Lo<(-20)))) then true else (decide (a0.Hi≥60)))⟩] (Instr.loadAt 4 (.pointer (some ((⟨b4,0,none⟩:Addr).add a6.toNat)))) (.bool a4),.run [⟨52,false,(bif (bif (bif (bif (decide (a0.Lo>a0.Hi)) then true else (bif (decide (a1>0)) then (decide (a0.Lo≤a2.Hi)) else false)) then true else (decide (a0.Lo<(-20)))) then true else (decide (a0.Hi≥60))) then true else (!a4))⟩] (Instr.loadAt 3 (.pointer (some ⟨a3,1,none⟩))) (iv a0.Hi),.run [⟨52,false,(bif (bif (bif (bif (decide (a0.Lo>a0.Hi)) then true else (bif (decide (a1>0)) then (decide (a0.Lo≤a2.Hi)) else false)) then true else (decide (a0.Lo<(-20)))) then true else (decide (a0.Hi≥60))) then true else (!a4))⟩] (binOp .sub 3 (iv a0.Hi) (iv (-20))) (iv a7),.run [⟨52,false,(bif (bif (bif (bif (decide (a0.Lo>a0.Hi)) then true else (bif (decide (a1>0)) then (decide (a0.Lo≤a2.Hi)) else false)) then true else (decide (a0.Lo<(-20)))) then true else (decide (a0.Hi≥60))) then true else (!a4))⟩] (Instr.indexAt 85 (pb b4) (iv a7)) (.pointer (some ((⟨b4,0,none⟩:Addr).add a7.toNat))),.run [⟨52,false,(bif (bif (bif (bif (decide (a0.Lo>a0.Hi)) then true else (bif (decide (a1>0)) then (decide (a0.Lo≤a2.Hi)) else false)) then true else (decide (a0.Lo<(-20)))) then true else (decide (a0.Hi≥60))) then true else (!a4))⟩] (Instr.loadAt 4 (.pointer (some ((⟨b4,0,none⟩:Addr).add a7.toNat)))) (.bool aD)]) 46 [(0,sv ad1 p0 cap2),(3,pb b4),(7,sv ad1 p0 cap2),(8,iv (ln p0)),(9,iv a1),(59,.bool (bif (bif (bif (bif (bif (decide (a0.Lo>a0.Hi)) then true else (bif (decide (a1>0)) then (decide (a0.Lo≤a2.Hi)) else false)) then true else (decide (a0.Lo<(-20)))) then true else (decide (a0.Hi≥60))) then true else (!a4)) then true else (!aD)))] kr hF kr (A0 (ob1 kr (fun _ hd=>(hS.later hd).cell (i:=0) (j:=0) rfl rfl)) (A0 (ob1 kr (fun _ hd=>(hS.later hd).cell (i:=0) (j:=1) rfl rfl)) (A0 (ob1 kr (fun _ hd=>(hS.later hd).cell (i:=0) (j:=0) rfl rfl)) (A0 (Dl (fun hk=>Di aE hk)) (A0 (A8 (hA3 _ (hS.frz (i:=2) rfl hlow)) kr (fun hk=>Di aA hk)) (A0 (An (i:=a5) 1 api_Span.cells_len (fun _ hd=>(hA3 _ ((hS.later hd).frz (i:=2) rfl hlow))) kr (fun hk=>Di aA hk) rfl) (A0 (ob1 kr (fun _ hd=>(hS.later hd).cell (i:=0) (j:=0) rfl rfl)) (A0 (ob1 kr (fun _ hd=>(hS.later hd).cell (i:=0) (j:=1) rfl rfl)) (A0 (ob1 kr (fun _ hd=>(hS.later hd).cell (i:=0) (j:=0) rfl rfl)) (A0 (Dl (fun hk=>Di aF hk)) (A0 (Q7 kr (fun hk=>Di aB hk)) (A0 (A4w (f:=Value.bool) (tt:=85) kr (fun hk=>Di aB hk) (fun _ hd=>((hS.later hd).blk (i:=1) rfl))) (A0 (ob1 kr (fun _ hd=>(hS.later hd).cell (i:=0) (j:=1) rfl rfl)) (A0 (Dl (fun hk=>Di aG hk)) (A0 (Q7 kr (fun hk=>Di aC hk)) (A0 (A4w (f:=Value.bool) (tt:=85) kr (fun hk=>Di aC hk) (fun _ hd=>((hS.later hd).blk (i:=1) rfl))) Af)))))))))))))))) ⟨kr⟩ fun a w hF hx=>?_
   replace hS:=hS.later hx
   refine wfn rfl ?_
   refine Ar hF rfl (fun hc=>?_) (fun hc=>?_)
   ·replace h:=Al h hc
    refine esr ?_
    refine rn 1 1 [(4,.bool false)] hF fun a hF=>?_
    refine wfn rfl ?_
    refine wpIn_ret (Am<|Ac<|Ac<|Am<|Ac<|B6 [.tmp 4] [.bool false] hF rfl ⟨rfl,trivial⟩ ?_)
    have hr_:=Option.some.inj h
    subst hr_
    exact ⟨rfl,hS.ext⟩
   ·replace h:=Ak h hc
    refine wpIn_skip (Ab<|A4<|?_)
    refine WI.region ?_
    replace h:=A5 h
    obtain ⟨a8,aH,h⟩:=h
    refine rno 2 [.run [] (binOp .add 3 (iv a1) (iv 1)) (iv a8)] 2 [(0,sv ad1 p0 cap2),(3,pb b4),(7,sv ad1 p0 cap2),(8,iv (ln p0)),(9,iv a8)] hF (A0 (Bg (fun _=>aH)) Af) fun a hF=>?_
    refine wfn rfl ?_
    rw [hk2] at h
    exact ⟨nk2,Nat.lt_succ_self _,a8,hF.sub kr,St.pick [1,2] (by decide) hS,h⟩
  ·replace h:=Ak h hc
   refine wpIn_exit (A6<|A6<|Ai<|A4 ?_)
   exact ⟨hF.sub kr,St.pick [0,1] (by decide) hS,h⟩
 rintro a w ⟨hF,hS,h⟩
 rw [Ku] at h
 refine esr ?_
 refine rn 1 1 [(4,.bool true)] hF fun a hF=>?_
 refine wfn rfl ?_
 refine wpIn_ret (B6 [.tmp 4] [.bool true] hF rfl ⟨rfl,trivial⟩ ?_)
 have hr_:=Option.some.inj h
 subst hr_
 exact ⟨rfl,hS.ext⟩
end Go.Proofs.Ytbhjgebjojdohaa
