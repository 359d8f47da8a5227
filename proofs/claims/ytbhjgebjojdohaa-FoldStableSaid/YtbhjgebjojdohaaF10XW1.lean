import Derived.Test.YtbhjgebjojdohaaF10XD
import Derived.Test.YtbhjgebjojdohaaProg
import Derived.Test.YtbhjgebjojdohaaF10XK
import Derived.Test.YtbhjgebjojdohaaF10XW0
namespace Go.Proofs.Ytbhjgebjojdohaa
open Go Go.RowKit Go.Eng
set_option maxRecDepth 10000
set_option maxHeartbeats 4000000
set_option linter.unusedVariables false
set_option linter.unusedSimpArgs false
theorem Pv (F:Nat) (p0:(List (List api_Span))) (p1:(List (List api_Span))) (res:Bool) (h:K7 F p0 p1=some res) (μ:Frz) (w0:World) (hm:FrzAt μ w0) {ad1:Option Addr} {cap2:Nat} {css3:List (List Value)} {ad5:Option Addr} {cap6:Nat} {css7:List (List Value)} (hA4:ArrQ μ 1 Rp43 ad1 cap2 css3 p0) (hA8:ArrQ μ 1 Rp43 ad5 cap6 css7 p1):Calls Try.prog 26 #[sv ad1 p0 cap2,sv ad5 p1 cap6] w0 (fun e w=>e=.returned (.bool res)∧Ext w0 w):=by
 obtain ⟨hlow,hS⟩:=hm.init
 have hext:=Frz.ext_refl w0.heap.size μ
 rw [K7] at h
 refine B5 Try.func26 rfl 27 [(0,sv ad1 p0 cap2),(1,sv ad5 p1 cap6)] rfl rfl kr fun a w hw hF=>?_
 replace hS:St w0 [fz w0 μ] w:=by rw [hw];exact hS
 clear hw
 refine esr ?_
 refine rn 1 1 [(0,sv ad1 p0 cap2),(1,sv ad5 p1 cap6)] hF fun a hF=>?_
 refine wfn rfl ?_
 refine Ba ?_
 refine esr ?_
 refine rn 5 5 [(0,sv ad1 p0 cap2),(1,sv ad5 p1 cap6),(10,.bool ((ln p0) != (ln p1)))] hF fun a hF=>?_
 refine wfn rfl ?_
 refine Ar hF rfl (fun hc=>?_) (fun hc=>?_)
 ·replace h:=Al h hc
  refine esr ?_
  refine rn 1 1 [(4,.bool false)] hF fun a hF=>?_
  refine wfn rfl ?_
  refine wpIn_ret (Ac<|B6 [.tmp 4] [.bool false] hF rfl ⟨rfl,trivial⟩ ?_)
  have hr_:=Option.some.inj h
  subst hr_
  exact ⟨rfl,hS.ext⟩
 ·replace h:=Ak h hc
  refine wpIn_skip (A4 ?_)
  refine Eb (fun a w=>Fr 27 [] [] a∧St w0 [fz w0 μ] w∧M2=some res) ?_ ?_
  ·skip
   refine esr ?_
   refine rn 1 1 [(0,sv ad1 p0 cap2),(1,sv ad5 p1 cap6),(5,iv 0)] hF fun a hF=>?_
   refine wfn rfl ?_
   refine wpIn_block ?_
   refine D2 (fun n_ a w=>∃(a0:Int),Fr 27 [] [(0,sv ad1 p0 cap2),(1,sv ad5 p1 cap6),(5,iv a0)] a∧St w0 [fz w0 μ] w∧Fx F p0 p1 n_ a0=some res) F ⟨0,hF.sub kr,St.pick [0] (by decide) hS,h⟩ ?_
   rintro nk2 a w ⟨a0,hF,hS,h⟩
   rcases nk2 with _|nk2
   ·cases (show (none:Option Bool)=some res from h)
   obtain ⟨k2,hk2⟩:∃k,k=Fx F p0 p1 nk2:=⟨_,rfl⟩
   replace h:Fv F p0 p1 k2 a0=some res:=by rw [hk2];exact h
   rw [Fv] at h
   refine Ba ?_
   refine esr ?_
   refine rn 4 4 [(0,sv ad1 p0 cap2),(1,sv ad5 p1 cap6),(5,iv a0),(14,.bool (decide (a0<(ln p0))))] hF fun a hF=>?_
   refine wfn rfl ?_
   refine Ar hF rfl (fun hc=>?_) (fun hc=>?_)
   ·replace h:=Al h hc
    refine wpIn_skip (A4 ?_)
    refine Ba ?_
    refine wpIn_block ?_
    refine Ba ?_
    replace h:=A5 h
    obtain ⟨a2,aG,h⟩:=h
    obtain ⟨aK,a9,aE⟩:=Ae hA4.2 aG
    obtain ⟨a4,a6,rfl,aB⟩:=aE
    replace h:=A5 h
    obtain ⟨a1,aF,h⟩:=h
    obtain ⟨aJ,a8,aD⟩:=Ae hA8.2 aF
    obtain ⟨a5,a7,rfl,aC⟩:=aD
    replace h:=A5 h
    obtain ⟨aA,aI,h⟩:=h
    refine L8 (obs:=[.run [] (Instr.indexAt 48 (sv ad1 p0 cap2) (iv a0)) (.pointer (some (A3 ad1 a0 1))),.run [] (Instr.loadAt 43 (.pointer (some (A3 ad1 a0 1)))) (sv a4 a2 a6),.run [] (Instr.indexAt 48 (sv ad5 p1 cap6) (iv a0)) (.pointer (some (A3 ad5 a0 1))),.run [] (Instr.loadAt 43 (.pointer (some (A3 ad5 a0 1)))) (sv a5 a1 a7),.call [] 22 #[sv a4 a2 a6,sv a5 a1 a7] (.bool aA)]) 10 [(0,sv ad1 p0 cap2),(1,sv ad5 p1 cap6),(5,iv a0),(26,.bool (!aA))] kr hF kr (A0 (A8 (hA4.at (hS.frz (i:=0) rfl hlow)) kr (fun _=>a9)) (A0 (An (i:=a0) 0 (As 1) (fun _ hd=>(hA4.at ((hS.later hd).frz (i:=0) rfl hlow))) kr (fun _=>a9) rfl) (A0 (A8 (hA8.at (hS.frz (i:=0) rfl hlow)) kr (fun _=>a8)) (A0 (An (i:=a0) 0 (As 1) (fun _ hd=>(hA8.at ((hS.later hd).frz (i:=0) rfl hlow))) kr (fun _=>a8) rfl) (A0 (show Ob.ok _ Ext _ _ from fun hk w2 hd=>U7 F a2 a1 _ ((fun _=>aI) hk) _ w2 (Aj w2) (aB.mono (FrzAt.le_mem ((hS.later hd).frz (i:=0) rfl hlow))) (aC.mono (FrzAt.le_mem ((hS.later hd).frz (i:=0) rfl hlow)))) Af))))) ⟨kr⟩ fun a w hF hx=>?_
    replace hS:=hS.later hx
    refine wfn rfl ?_
    refine Ar hF rfl (fun hc=>?_) (fun hc=>?_)
    ·replace h:=Al h hc
     refine esr ?_
     refine rn 1 1 [(4,.bool false)] hF fun a hF=>?_
     refine wfn rfl ?_
     refine wpIn_ret (Am<|Ac<|Ac<|Am<|Ac<|B6 [.tmp 4] [.bool false] hF rfl ⟨rfl,trivial⟩ ?_)
     have hr_:=Option.some.inj h
     subst hr_
     exact ⟨rfl,hS.ext⟩
    ·replace h:=Ak h hc
     refine wpIn_skip (Ab<|A4<|?_)
     refine WI.region ?_
     replace h:=A5 h
     obtain ⟨a3,aH,h⟩:=h
     refine rno 3 [.run [] (binOp .add 3 (iv a0) (iv 1)) (iv a3)] 3 [(0,sv ad1 p0 cap2),(1,sv ad5 p1 cap6),(5,iv a3)] hF (A0 (Bg (fun _=>aH)) Af) fun a hF=>?_
     refine wfn rfl ?_
     rw [hk2] at h
     exact ⟨nk2,Nat.lt_succ_self _,a3,hF.sub kr,St.pick [0] (by decide) hS,h⟩
   ·replace h:=Ak h hc
    refine wpIn_exit (A6<|A6<|Ai<|A4 ?_)
    exact ⟨hF.sub kr,St.pick [0] (by decide) hS,h⟩
  rintro a w ⟨hF,hS,h⟩
  rw [M2] at h
  refine esr ?_
  refine rn 1 1 [(4,.bool true)] hF fun a hF=>?_
  refine wfn rfl ?_
  refine wpIn_ret (B6 [.tmp 4] [.bool true] hF rfl ⟨rfl,trivial⟩ ?_)
  have hr_:=Option.some.inj h
  subst hr_
  exact ⟨rfl,hS.ext⟩
theorem Lu (F:Nat) (p0:fold_web) (p1:fold_place) (p2:fold_place) (p3:Int) (res:fold_web) (h:Dm F p0 p1 p2 p3=some res) (μ:Frz) (w0 w1:World) (T_:List Res) (hlow:Bm w0 μ) {cb0:Nat} {ad1:Option Addr} {cap2:Nat} {hd3:List Hd} {css4:List (List (List Value))} {m6:Nat} {B7:List (fold_place×Hd)} {css8:List (List fold_bond)} (hq5:NestOk (Rp132 μ) hd3 css4 p0.sets) (hq9:MNestOk Eq B7 css8 p0.bonds) (hS:St w0 (fz w0 μ::blk cb0 197 #[sv ad1 p0.sets cap2,.map (some m6)]::A9 135 132 1 (fN 1) ad1 p0.sets.length cap2 hd3 css4::Ah (fA fold_place.cells) 199 3 fold_bond.cells m6 B7 css8::T_) w1):F1 Try.prog 118 #[pb cb0,.agg #[iv p1.ray,iv p1.gate],.agg #[iv p2.ray,iv p2.gate],iv p3] w1 (fun e w=>∃(ν_:Frz) (aE:Option Addr) (aH:Nat) (aM:List Hd) (aK:List (List (List Value))) (B105:List (fold_place×Hd)) (aL:List (List fold_bond)),μ.ext w0.heap.size ν_∧Bm w0 ν_∧e=(.tuple #[])∧(NestOk (Rp132 ν_) aM aK res.sets)∧(MNestOk Eq B105 aL res.bonds)∧St w0 (fz w0 ν_::blk cb0 197 #[sv aE res.sets aH,.map (some m6)]::A9 135 132 1 (fN 1) aE res.sets.length aH aM aK::Ah (fA fold_place.cells) 199 3 fold_bond.cells m6 B105 aL::T_) w):=by
 rw [Dm] at h
 have hext:=Frz.ext_refl w0.heap.size μ
 refine B5 Try.func118 rfl 34 [(0,pb cb0),(1,.agg #[iv p1.ray,iv p1.gate]),(2,.agg #[iv p2.ray,iv p2.gate]),(3,iv p3)] rfl rfl kr fun a w hw hF=>?_
 replace hS:St w0 (fz w0 μ::blk cb0 197 #[sv ad1 p0.sets cap2,.map (some m6)]::A9 135 132 1 (fN 1) ad1 p0.sets.length cap2 hd3 css4::Ah (fA fold_place.cells) 199 3 fold_bond.cells m6 B7 css8::T_) w:=by rw [hw];exact hS
 clear hw
 refine esr ?_
 refine SK.wi (Tg (t:=192) (fun a0=>[(0,pb cb0),(2,.agg #[iv p2.ray,iv p2.gate]),(3,iv p3),(5,pb a0)]) (.agg #[iv p1.ray,iv p1.gate]) #[iv p1.ray,iv p1.gate] hF hS kr ⟨kr⟩ kr (fun _=>⟨kr⟩) fun a0 w a hF hS=>?_)
 refine SK.wi (Tg (t:=192) (fun a1=>[(0,pb cb0),(3,iv p3),(5,pb a0),(6,pb a1)]) (.agg #[iv p2.ray,iv p2.gate]) #[iv p2.ray,iv p2.gate] hF hS kr ⟨kr⟩ kr (fun _=>⟨kr⟩) fun a1 w a hF hS=>?_)
 refine wfn rfl ?_
 refine Ba ?_
 replace h:=A5 h
 obtain ⟨a4,aP,h⟩:=h
 refine C5 13 [8,9,11] _ (D:=fun w=>St w0 [blk a1 192 #[iv p2.ray,iv p2.gate],blk a0 192 #[iv p1.ray,iv p1.gate],blk cb0 197 #[sv ad1 p0.sets cap2,.map (some m6)],A9 135 132 1 (fN 1) ad1 p0.sets.length cap2 hd3 css4] w∧FrzAt μ w) kr kr hF.size (fun w hx=>?_) (fun _ _ h=>h)
 replace hS:=hS.later hx
 refine ⟨⟨St.pick [0,1,3,4] (by decide) hS,hS.frz (i:=2) rfl hlow⟩,?_⟩
 have b1:=Frz.le_refl μ
 refine WT.s [0,1,2,3,4,5,6,7] [8] kr kr ?_
 refine Jj (rest:=[]) (obs:=[.run [] (Instr.loadAt 195 (.pointer (some ⟨cb0,1,none⟩))) (.map (some m6)),.run [] (Instr.loadAt 192 (pb a0)) (.agg #[iv p1.ray,iv p1.gate]),.run [] (Instr.loadAt 192 (pb a1)) (.agg #[iv p2.ray,iv p2.gate])]) [0,1,2,3,4,5,6,7] [(0,pb cb0),(3,iv p3),(5,pb a0),(6,pb a1),(11,.map (some m6)),(12,.agg #[iv p1.ray,iv p1.gate]),(16,.agg #[iv p2.ray,iv p2.gate,iv p3])] hF kr kr (A0 (ob1 kr (fun _ hd=>hd.1.cell (i:=2) (j:=1) rfl rfl)) (A0 (obN (us:=[iv p1.ray,iv p1.gate]) kr (fun _ hd=>(hd.1.blk (i:=1) rfl).cells rfl)) (A0 (obN (us:=[iv p2.ray,iv p2.gate]) kr (fun _ hd=>(hd.1.blk (i:=0) rfl).cells rfl)) Af))) ⟨kr⟩ fun a hF=>?_
 refine WRun.fin ?_
 refine all_cons ?_ (Av)
 refine U9 (e:=199) (sz:=3) (f:=fold_bond.cells) (t:=194) (len:=1) (fun a2=>[(0,pb cb0),(3,iv p3),(5,pb a0),(6,pb a1),(11,.map (some m6)),(12,.agg #[iv p1.ray,iv p1.gate]),(17,sb a2 1)]) #[(0,.agg #[iv p2.ray,iv p2.gate,iv p3])] #[iv p2.ray,iv p2.gate,iv p3] ([(fold_bond.mk p2 p3)]) hF hS kr ⟨kr⟩ kr fold_bond.cells_len rfl rfl kr (fun _=>⟨kr⟩) fun a2 w a hF hS=>⟨⟨St.pick [1,2,4,5] (by decide) hS,(hS.frz (i:=3) rfl hlow)⟩,?_⟩
 refine WT.s [] [9] kr kr ?_
 refine WRun.fin ?_
 refine all_cons ?_ (Av)
 replace hS:St w0 (arr 199 3 fold_bond.cells (some ⟨a2,0,none⟩) ([(fold_bond.mk p2 p3)]).length 1 ([(fold_bond.mk p2 p3)])::blk a1 192 #[iv p2.ray,iv p2.gate]::blk a0 192 #[iv p1.ray,iv p1.gate]::fz w0 μ::blk cb0 197 #[sv ad1 p0.sets cap2,.map (some m6)]::A9 135 132 1 (fN 1) ad1 p0.sets.length cap2 hd3 css4::Ah (fA fold_place.cells) 199 3 fold_bond.cells m6 B7 css8::T_) w:=hS
 replace hS:St w0 (Ah (fA fold_place.cells) 199 3 fold_bond.cells m6 B7 css8::arr 199 3 fold_bond.cells (some ⟨a2,0,none⟩) ([(fold_bond.mk p2 p3)]).length 1 ([(fold_bond.mk p2 p3)])::blk a1 192 #[iv p2.ray,iv p2.gate]::blk a0 192 #[iv p1.ray,iv p1.gate]::fz w0 μ::blk cb0 197 #[sv ad1 p0.sets cap2,.map (some m6)]::A9 135 132 1 (fN 1) ad1 p0.sets.length cap2 hd3 css4::T_) w:=St.pickT (A:=[arr 199 3 fold_bond.cells (some ⟨a2,0,none⟩) ([(fold_bond.mk p2 p3)]).length 1 ([(fold_bond.mk p2 p3)]),blk a1 192 #[iv p2.ray,iv p2.gate],blk a0 192 #[iv p1.ray,iv p1.gate],fz w0 μ,blk cb0 197 #[sv ad1 p0.sets cap2,.map (some m6)],A9 135 132 1 (fN 1) ad1 p0.sets.length cap2 hd3 css4,Ah (fA fold_place.cells) 199 3 fold_bond.cells m6 B7 css8]) (T:=T_) [6,0,1,2,3,4,5] (by decide) hS
 refine Ue (kt:=192) (te:=194) (t:=195) (fun a7 a9 a5=>[(0,pb cb0),(3,iv p3),(5,pb a0),(6,pb a1),(11,.map (some m6)),(17,sb a2 1),(18,.tuple #[.slice a7 (((lkM p0.bonds p1).getD []).length) a9,iv ((a5:Nat):Int)])]) p1 Rl hq9 hF hS kr ⟨kr⟩ kr kr (fun _ _ _=>⟨kr⟩) fun a7 a9 a5 j44 B45 aZ aX w a hF aR aN aS hS=>⟨⟨St.pick [3,4,6,7] (by decide) hS,(hS.frz (i:=5) rfl hlow)⟩,?_⟩
 obtain rfl:=Wi aS
 refine WT.s [10,12] [11] kr kr ?_
 refine Jj (rest:=[]) (obs:=[]) [10,12] [(0,pb cb0),(3,iv p3),(5,pb a0),(6,pb a1),(11,.map (some m6)),(13,.slice a7 (((lkM p0.bonds p1).getD []).length) a9),(17,sb a2 1),(20,iv ((a5:Nat):Int))] hF kr kr Af ⟨kr⟩ fun a hF=>?_
 refine WRun.fin ?_
 refine all_cons ?_ (Av)
 refine Wj (t:=194) (ty:=194) (bytes:=24) (l:=((lkM p0.bonds p1).getD [])) (l':=([(fold_bond.mk p2 p3)])) (fun aF aI=>[(0,pb cb0),(3,iv p3),(5,pb a0),(6,pb a1),(11,.map (some m6)),(19,sv aF a4 aI),(20,iv ((a5:Nat):Int))]) 1 hF hS rfl kr ⟨kr⟩ kr (hS.arr (i:=2) rfl) (fun _ _=>rfl) aP (fun _ _=>⟨kr⟩) fun aF aI w a hF hS=>⟨⟨St.pick [3,4,6,7] (by decide) hS,(hS.frz (i:=5) rfl hlow)⟩,?_⟩
 refine WT.z [] kr ?_
 refine WRun.fin ?_
 refine SK.wi (Qg (t:=195) (l0:=((lkM p0.bonds p1).getD [])) (l3:=a4) [(0,pb cb0),(3,iv p3),(5,pb a0),(6,pb a1)] aR aN (Ma a4) hF hS kr ⟨kr⟩ ⟨kr⟩ fun B53 aB w a hF aT hS=>?_)
 refine wfn rfl ?_
 replace h:=A5 h
 obtain ⟨aD,aQ,h⟩:=h
 refine C5 13 [8,9,11] _ (D:=fun w=>St w0 [arr 199 3 fold_bond.cells (some ⟨a2,0,none⟩) ([(fold_bond.mk p2 p3)]).length 1 ([(fold_bond.mk p2 p3)]),blk a1 192 #[iv p2.ray,iv p2.gate],blk a0 192 #[iv p1.ray,iv p1.gate],blk cb0 197 #[sv ad1 p0.sets cap2,.map (some m6)],A9 135 132 1 (fN 1) ad1 p0.sets.length cap2 hd3 css4] w∧FrzAt μ w) kr kr hF.size (fun w hx=>?_) (fun _ _ h=>h)
 replace hS:=hS.later hx
 refine ⟨⟨St.pick [1,2,3,5,6] (by decide) hS,hS.frz (i:=4) rfl hlow⟩,?_⟩
 have b2:=Frz.le_refl μ
 refine WT.s [0,1,2,3,4,5,6,7] [8] kr kr ?_
 refine Jj (rest:=[]) (obs:=[.run [] (Instr.loadAt 195 (.pointer (some ⟨cb0,1,none⟩))) (.map (some m6)),.run [] (Instr.loadAt 192 (pb a1)) (.agg #[iv p2.ray,iv p2.gate]),.run [] (Instr.loadAt 192 (pb a0)) (.agg #[iv p1.ray,iv p1.gate])]) [0,1,2,3,4,5,6,7] [(24,.map (some m6)),(25,.agg #[iv p2.ray,iv p2.gate]),(29,.agg #[iv p1.ray,iv p1.gate,iv p3])] hF kr kr (A0 (ob1 kr (fun _ hd=>hd.1.cell (i:=3) (j:=1) rfl rfl)) (A0 (obN (us:=[iv p2.ray,iv p2.gate]) kr (fun _ hd=>(hd.1.blk (i:=1) rfl).cells rfl)) (A0 (obN (us:=[iv p1.ray,iv p1.gate]) kr (fun _ hd=>(hd.1.blk (i:=2) rfl).cells rfl)) Af))) ⟨kr⟩ fun a hF=>?_
 refine WRun.fin ?_
 refine all_cons ?_ (Av)
 refine U9 (e:=199) (sz:=3) (f:=fold_bond.cells) (t:=194) (len:=1) (fun a3=>[(24,.map (some m6)),(25,.agg #[iv p2.ray,iv p2.gate]),(30,sb a3 1)]) #[(0,.agg #[iv p1.ray,iv p1.gate,iv p3])] #[iv p1.ray,iv p1.gate,iv p3] ([(fold_bond.mk p1 p3)]) hF hS kr ⟨kr⟩ kr fold_bond.cells_len rfl rfl kr (fun _=>⟨kr⟩) fun a3 w a hF hS=>⟨⟨St.pick [2,3,4,6,7] (by decide) hS,(hS.frz (i:=5) rfl hlow)⟩,?_⟩
 refine WT.s [] [9] kr kr ?_
 refine WRun.fin ?_
 refine all_cons ?_ (Av)
 replace hS:St w0 (arr 199 3 fold_bond.cells (some ⟨a3,0,none⟩) ([(fold_bond.mk p1 p3)]).length 1 ([(fold_bond.mk p1 p3)])::Ah (fA fold_place.cells) 199 3 fold_bond.cells m6 B53 aB::arr 199 3 fold_bond.cells (some ⟨a2,0,none⟩) ([(fold_bond.mk p2 p3)]).length 1 ([(fold_bond.mk p2 p3)])::blk a1 192 #[iv p2.ray,iv p2.gate]::blk a0 192 #[iv p1.ray,iv p1.gate]::fz w0 μ::blk cb0 197 #[sv ad1 p0.sets cap2,.map (some m6)]::A9 135 132 1 (fN 1) ad1 p0.sets.length cap2 hd3 css4::T_) w:=hS
 replace hS:St w0 (Ah (fA fold_place.cells) 199 3 fold_bond.cells m6 B53 aB::arr 199 3 fold_bond.cells (some ⟨a3,0,none⟩) ([(fold_bond.mk p1 p3)]).length 1 ([(fold_bond.mk p1 p3)])::arr 199 3 fold_bond.cells (some ⟨a2,0,none⟩) ([(fold_bond.mk p2 p3)]).length 1 ([(fold_bond.mk p2 p3)])::blk a1 192 #[iv p2.ray,iv p2.gate]::blk a0 192 #[iv p1.ray,iv p1.gate]::fz w0 μ::blk cb0 197 #[sv ad1 p0.sets cap2,.map (some m6)]::A9 135 132 1 (fN 1) ad1 p0.sets.length cap2 hd3 css4::T_) w:=St.pickT (A:=[arr 199 3 fold_bond.cells (some ⟨a3,0,none⟩) ([(fold_bond.mk p1 p3)]).length 1 ([(fold_bond.mk p1 p3)]),Ah (fA fold_place.cells) 199 3 fold_bond.cells m6 B53 aB,arr 199 3 fold_bond.cells (some ⟨a2,0,none⟩) ([(fold_bond.mk p2 p3)]).length 1 ([(fold_bond.mk p2 p3)]),blk a1 192 #[iv p2.ray,iv p2.gate],blk a0 192 #[iv p1.ray,iv p1.gate],fz w0 μ,blk cb0 197 #[sv ad1 p0.sets cap2,.map (some m6)],A9 135 132 1 (fN 1) ad1 p0.sets.length cap2 hd3 css4]) (T:=T_) [1,0,2,3,4,5,6,7] (by decide) hS
 refine Ue (kt:=192) (te:=194) (t:=195) (fun a8 aA a6=>[(24,.map (some m6)),(30,sb a3 1),(31,.tuple #[.slice a8 (((lkM (upM p0.bonds p1 a4) p2).getD []).length) aA,iv ((a6:Nat):Int)])]) p2 Rl aT hF hS kr ⟨kr⟩ kr kr (fun _ _ _=>⟨kr⟩) fun a8 aA a6 j88 B89 b0 aY w a hF aU aO aV hS=>⟨⟨St.pick [3,4,5,7,8] (by decide) hS,(hS.frz (i:=6) rfl hlow)⟩,?_⟩
 obtain rfl:=Wi aV
 refine WT.s [10,12] [11] kr kr ?_
 refine Jj (rest:=[]) (obs:=[]) [10,12] [(24,.map (some m6)),(26,.slice a8 (((lkM (upM p0.bonds p1 a4) p2).getD []).length) aA),(30,sb a3 1),(33,iv ((a6:Nat):Int))] hF kr kr Af ⟨kr⟩ fun a hF=>?_
 refine WRun.fin ?_
 refine all_cons ?_ (Av)
 refine Wj (t:=194) (ty:=194) (bytes:=24) (l:=((lkM (upM p0.bonds p1 a4) p2).getD [])) (l':=([(fold_bond.mk p1 p3)])) (fun aG aJ=>[(24,.map (some m6)),(32,sv aG aD aJ),(33,iv ((a6:Nat):Int))]) 1 hF hS rfl kr ⟨kr⟩ kr (hS.arr (i:=2) rfl) (fun _ _=>rfl) aQ (fun _ _=>⟨kr⟩) fun aG aJ w a hF hS=>⟨⟨St.pick [3,4,5,7,8] (by decide) hS,(hS.frz (i:=6) rfl hlow)⟩,?_⟩
 refine WT.z [] kr ?_
 refine WRun.fin ?_
 refine SK.wi (Qg (t:=195) (l0:=((lkM (upM p0.bonds p1 a4) p2).getD [])) (l3:=aD) [] aU aO (Ma aD) hF hS kr ⟨kr⟩ ⟨kr⟩ fun B97 aC w a hF aW hS=>?_)
 refine WI.fin rfl ?_
 refine Mr hF rfl ?_
 have hr_:=Option.some.inj h
 subst hr_
 replace hS:St w0 (Ah (fA fold_place.cells) 199 3 fold_bond.cells m6 B97 aC::arr 199 3 fold_bond.cells (some ⟨a3,0,none⟩) ([(fold_bond.mk p1 p3)]).length 1 ([(fold_bond.mk p1 p3)])::arr 199 3 fold_bond.cells (some ⟨a2,0,none⟩) ([(fold_bond.mk p2 p3)]).length 1 ([(fold_bond.mk p2 p3)])::blk a1 192 #[iv p2.ray,iv p2.gate]::blk a0 192 #[iv p1.ray,iv p1.gate]::fz w0 μ::blk cb0 197 #[sv ad1 p0.sets cap2,.map (some m6)]::A9 135 132 1 (fN 1) ad1 p0.sets.length cap2 hd3 css4::T_) w:=hS
 replace hS:=St.pickT (A:=[Ah (fA fold_place.cells) 199 3 fold_bond.cells m6 B97 aC,arr 199 3 fold_bond.cells (some ⟨a3,0,none⟩) ([(fold_bond.mk p1 p3)]).length 1 ([(fold_bond.mk p1 p3)]),arr 199 3 fold_bond.cells (some ⟨a2,0,none⟩) ([(fold_bond.mk p2 p3)]).length 1 ([(fold_bond.mk p2 p3)]),blk a1 192 #[iv p2.ray,iv p2.gate],blk a0 192 #[iv p1.ray,iv p1.gate],fz w0 μ,blk cb0 197 #[sv ad1 p0.sets cap2,.map (some m6)],A9 135 132 1 (fN 1) ad1 p0.sets.length cap2 hd3 css4]) (T:=T_) [5,6,7,0] (by decide) hS
 exact ⟨_,rfl,μ,ad1,cap2,hd3,css4,B97,aC,hext,hlow,rfl,hq5,aW,hS⟩
theorem Gt (F:Nat) (p0:(List (List api_Span))) (res:(List (List api_Span))) (h:Bh F p0=some res) (μ:Frz) (w0:World) (hm:FrzAt μ w0) {ad1x:Addr} {cap2:Nat} {css3:List (List Value)} (hA4:ArrQ μ 1 Rp132 (some ad1x) cap2 css3 p0):F1 Try.prog 119 #[.slice (some ad1x) p0.length cap2] w0 (fun e w=>∃(ν_:Frz) (zad0:Option Addr) (zcap0:Nat) (zcss0:List (List Value)),μ.ext w0.heap.size ν_∧e=(sv zad0 res zcap0)∧All2 (Rp132 ν_) zcss0 res∧St w0 [fz w0 ν_,arr 132 1 (fN 1) zad0 res.length zcap0 zcss0] w):=by
 obtain ⟨hlow,hS⟩:=hm.init
 have hext:=Frz.ext_refl w0.heap.size μ
 rw [Bh] at h
 refine B5 Try.func119 rfl 8 [(0,.slice (some ad1x) p0.length cap2)] rfl rfl kr fun a w hw hF=>?_
 replace hS:St w0 [fz w0 μ] w:=by rw [hw];exact hS
 clear hw
 refine esr ?_
 refine rn 1 1 [(0,.slice (some ad1x) p0.length cap2)] hF fun a hF=>?_
 refine wfn rfl ?_
 refine Ba ?_
 refine esr ?_
 refine rn 2 2 [(0,.slice (some ad1x) p0.length cap2),(4,.bool false)] hF fun a hF=>?_
 refine wfn rfl ?_
 refine wpIn_cond_false (hF.get rfl) ?_
 refine wpIn_skip (A4 ?_)
 refine esr ?_
 have hq6:All2 (Rp132 μ) ([]:List (List Value)) ([]:List (List api_Span)):=All2.nil
 refine SK.wi (Sb (e:=132) (sz:=1) (f:=fN 1) (t:=135) (len:=0) (fun b5=>[(0,.slice (some ad1x) p0.length cap2),(5,sb b5 0)]) #[] #[] ([]:List (List Value)) ([]:List (List api_Span)) hF hS kr ⟨kr⟩ kr (As 1) rfl rfl rfl kr (fun _=>⟨kr⟩) fun b5 w a hF hS=>?_)
 refine rn 1 2 [(5,sb b5 0),(6,.slice (some ad1x) p0.length cap2)] hF fun a hF=>?_
 replace h:=A5 h
 obtain ⟨l7,hl7,h⟩:=h
 have a0:All2 (Rp132 μ) (([]:List (List Value))++css3) l7:=by rw [(G1 hl7).1];exact All2.app hq6 hA4.2
 refine SK.wi (Ps (t:=135) (ty:=135) (bytes:=24) (c:=([]:List (List Value))) (c':=css3) (l:=([]:List (List api_Span))) (l':=p0) (fun ad8 cap9=>[(7,sv ad8 l7 cap9)]) 0 hF hS rfl kr ⟨kr⟩ kr (hA4.at (hS.frz (i:=1) rfl hlow)) (ArrQ.one hA4.2 Rp132.one) hl7 (fun _ _=>⟨kr⟩) fun ad8 cap9 w a hF hS=>?_)
 refine rn 1 4 [(2,sv ad8 l7 cap9)] hF fun a hF=>?_
 refine wfn rfl ?_
 refine wpIn_ret (B6 [.tmp 2] [sv ad8 l7 cap9] hF rfl ⟨rfl,trivial⟩ ?_)
 have hr_:=Option.some.inj h
 subst hr_
 exact ⟨_,rfl,μ,_,_,_,hext,rfl,a0,St.pick [1,0] (by decide) hS⟩
theorem Gs (res:(List (List api_Span))) (h:([]:List (List api_Span))=res) (μ:Frz) (w0:World) (hm:FrzAt μ w0) {cap2:Nat}:F1 Try.prog 119 #[.slice none 0 cap2] w0 (fun e w=>∃(ν_:Frz) (zad0:Option Addr) (zcap0:Nat) (zcss0:List (List Value)),μ.ext w0.heap.size ν_∧e=(sv zad0 res zcap0)∧All2 (Rp132 ν_) zcss0 res∧St w0 [fz w0 ν_,arr 132 1 (fN 1) zad0 res.length zcap0 zcss0] w):=by
 obtain ⟨hlow,hS⟩:=hm.init
 have hext:=Frz.ext_refl w0.heap.size μ
 refine B5 Try.func119 rfl 8 [(0,.slice none 0 cap2)] rfl rfl kr fun a w hw hF=>?_
 replace hS:St w0 [fz w0 μ] w:=by rw [hw];exact hS
 clear hw
 refine esr ?_
 refine rn 1 1 [(0,.slice none 0 cap2)] hF fun a hF=>?_
 refine wfn rfl ?_
 refine Ba ?_
 refine esr ?_
 refine rn 2 2 [(0,.slice none 0 cap2),(4,.bool true)] hF fun a hF=>?_
 refine wfn rfl ?_
 refine wpIn_cond_true (hF.get rfl) ?_
 refine esr ?_
 refine rn 1 1 [(2,.slice none 0 0)] hF fun a hF=>?_
 refine wfn rfl ?_
 refine wpIn_ret (Ac<|B6 [.tmp 2] [.slice none 0 0] hF rfl ⟨rfl,trivial⟩ ?_)
 subst h
 replace hS:=hS.nilarr 132 1 (fN 1)
 exact ⟨_,rfl,μ,_,_,_,hext,rfl,All2.nil,St.pick [1,0] (by decide) hS⟩
theorem Gw (F:Nat) (p0:List (List api_Span)) (res:List (List api_Span)) (h:Bh F p0=some res) (μ:Frz) (w0:World) (hm:FrzAt μ w0) {ad1:Option Addr} {cap2:Nat} {css3:List (List Value)} (hA4:ArrQ μ 1 Rp132 ad1 cap2 css3 p0):F1 Try.prog 119 #[sv ad1 p0 cap2] w0 (fun e w=>∃(ν_:Frz) (zad0:Option Addr) (zcap0:Nat) (zcss0:List (List Value)),μ.ext w0.heap.size ν_∧e=(sv zad0 res zcap0)∧All2 (Rp132 ν_) zcss0 res∧St w0 [fz w0 ν_,arr 132 1 (fN 1) zad0 res.length zcap0 zcss0] w):=by
 cases ad1 with
 | some a=>exact Gt F p0 res h μ w0 hm hA4
 | none =>
  obtain rfl:=hA4.1.none_nil hm
  obtain rfl:p0=[]:=by cases hA4.2;rfl
  have hr:[]=res:=Option.some.inj (show some ([]:List (List api_Span))=some res from h)
  exact Gs res hr μ w0 hm
theorem Md (F:Nat) (p0:fold_place) (c0_:(List (fold_place×Bool))) (c1_:(List fold_place)) (res:((List (fold_place×Bool))×(List fold_place))) (h:Dc F p0 c0_ c1_=some res) (μ:Frz) (w0 w1:World) (T_:List Res) (hlow:Bm w0 μ) {cb1:Nat} {m1:Nat} {cb2:Nat} {ad2:Option Addr} {cap3:Nat} (hS:St w0 (fz w0 μ::blk cb1 189 #[.map (some m1)]::G6 (fA fold_place.cells) Value.bool m1 c0_::blk cb2 190 #[sv ad2 c1_ cap3]::arrT 192 2 fold_place.cells ad2 c1_.length cap3 c1_::T_) w1):F1 Try.prog 105 #[.agg #[iv p0.ray,iv p0.gate],pb cb1,pb cb2] w1 (fun e w=>∃(ν_:Frz) (ad9:Option Addr) (a0:Nat),μ.ext w0.heap.size ν_∧Bm w0 ν_∧e=(.tuple #[])∧St w0 (fz w0 ν_::blk cb1 189 #[.map (some m1)]::G6 (fA fold_place.cells) Value.bool m1 res.1::blk cb2 190 #[sv ad9 res.2 a0]::arrT 192 2 fold_place.cells ad9 res.2.length a0 res.2::T_) w):=by
 rw [Dc] at h
 have hext:=Frz.ext_refl w0.heap.size μ
 refine B5 Try.func105 rfl 14 [(0,.agg #[iv p0.ray,iv p0.gate]),(1,pb cb1),(2,pb cb2)] rfl rfl kr fun a w hw hF=>?_
 replace hS:St w0 (fz w0 μ::blk cb1 189 #[.map (some m1)]::G6 (fA fold_place.cells) Value.bool m1 c0_::blk cb2 190 #[sv ad2 c1_ cap3]::arrT 192 2 fold_place.cells ad2 c1_.length cap3 c1_::T_) w:=by rw [hw];exact hS
 clear hw
 refine esr ?_
 refine SK.wi (Tg (t:=192) (fun b4=>[(1,pb cb1),(2,pb cb2),(3,pb b4)]) (.agg #[iv p0.ray,iv p0.gate]) #[iv p0.ray,iv p0.gate] hF hS kr ⟨kr⟩ kr (fun _=>⟨kr⟩) fun b4 w a hF hS=>?_)
 refine wfn rfl ?_
 refine esr ?_
 refine rno 2 [.run [] (Instr.loadAt 189 (pb cb1)) (.map (some m1)),.run [] (Instr.loadAt 192 (pb b4)) (.agg #[iv p0.ray,iv p0.gate])] 2 [(1,pb cb1),(2,pb cb2),(3,pb b4),(4,.map (some m1)),(5,.agg #[iv p0.ray,iv p0.gate])] hF (A0 (ob1 kr (fun _ hd=>(hS.at_ hd).cell (i:=2) (j:=0) rfl rfl)) (A0 (obN (us:=[iv p0.ray,iv p0.gate]) kr (fun _ hd=>((hS.at_ hd).blk (i:=0) rfl).cells rfl)) Af)) fun a hF=>?_
 refine SK.wi (Wy (kt:=192) (e:=4) (t:=189) [(1,pb cb1),(2,pb cb2),(3,pb b4),(6,.bool ((lkM c0_ p0).getD false))] 3 p0 false Rl hF hS rfl kr ⟨kr⟩ kr kr ⟨kr⟩ fun a hF=>?_)
 refine rn 1 4 [(1,pb cb1),(2,pb cb2),(3,pb b4),(7,.bool (!((lkM c0_ p0).getD false)))] hF fun a hF=>?_
 refine wfn rfl ?_
 refine Ar hF rfl (fun hc=>?_) (fun hc=>?_)
 ·replace h:=Al h hc
  refine esr ?_
  refine rno 2 [.run [] (Instr.loadAt 189 (pb cb1)) (.map (some m1)),.run [] (Instr.loadAt 192 (pb b4)) (.agg #[iv p0.ray,iv p0.gate])] 2 [(2,pb cb2),(3,pb b4),(8,.map (some m1)),(9,.agg #[iv p0.ray,iv p0.gate])] hF (A0 (ob1 kr (fun _ hd=>(hS.at_ hd).cell (i:=2) (j:=0) rfl rfl)) (A0 (obN (us:=[iv p0.ray,iv p0.gate]) kr (fun _ hd=>((hS.at_ hd).blk (i:=0) rfl).cells rfl)) Af)) fun a hF=>?_
  refine SK.wi (B15 (kt:=192) (e:=4) (t:=189) [(2,pb cb2),(3,pb b4)] 3 p0 true Rl hF hS rfl kr ⟨kr⟩ kr ⟨kr⟩ fun w a hF hS=>?_)
  refine wfn rfl ?_
  refine WI.region ?_
  refine rno 2 [.run [] (Instr.loadAt 190 (pb cb2)) (sv ad2 c1_ cap3),.run [] (Instr.loadAt 192 (pb b4)) (.agg #[iv p0.ray,iv p0.gate])] 2 [(2,pb cb2),(10,sv ad2 c1_ cap3),(11,.agg #[iv p0.ray,iv p0.gate])] hF (A0 (ob1 kr (fun _ hd=>(hS.at_ hd).cell (i:=4) (j:=0) rfl rfl)) (A0 (obN (us:=[iv p0.ray,iv p0.gate]) kr (fun _ hd=>((hS.at_ hd).blk (i:=0) rfl).cells rfl)) Af)) fun a hF=>?_
  refine SK.wi (U9 (e:=192) (sz:=2) (f:=fold_place.cells) (t:=190) (len:=1) (fun b5=>[(2,pb cb2),(10,sv ad2 c1_ cap3),(12,sb b5 1)]) #[(0,.agg #[iv p0.ray,iv p0.gate])] #[iv p0.ray,iv p0.gate] ([p0]) hF hS kr ⟨kr⟩ kr fold_place.cells_len rfl rfl kr (fun _=>⟨kr⟩) fun b5 w a hF hS=>?_)
  replace h:=A5 h
  obtain ⟨l6,hl6,h⟩:=h
  refine SK.wi (B05 (t:=190) (ty:=190) (bytes:=16) (l:=c1_) (l':=([p0])) (fun ad7 cap8=>[(2,pb cb2),(13,sv ad7 l6 cap8)]) 6 hF hS rfl kr ⟨kr⟩ kr (hS.arr (i:=0) rfl) (fun _ _=>rfl) hl6 (fun _ _=>⟨kr⟩) fun ad7 cap8 w a hF hS=>?_)
  refine SK.wi (storeK (t:=190) [] 5 0 (sv ad7 l6 cap8) #[sv ad7 l6 cap8] hF hS rfl kr ⟨kr⟩ kr kr kr kr ⟨kr⟩ fun w a hF hS=>?_)
  refine WI.fin rfl ?_
  refine Mr hF rfl ?_
  have hr_:=Option.some.inj h
  subst hr_
  replace hS:St w0 (arr 192 2 fold_place.cells (some ⟨b5,0,none⟩) ([p0]).length 1 ([p0])::blk b4 192 #[iv p0.ray,iv p0.gate]::fz w0 μ::blk cb1 189 #[.map (some m1)]::G6 (fA fold_place.cells) Value.bool m1 (upM c0_ p0 true)::blk cb2 190 #[sv ad7 l6 cap8]::arrT 192 2 fold_place.cells ad7 l6.length cap8 l6::T_) w:=hS
  replace hS:=St.pickT (A:=[arr 192 2 fold_place.cells (some ⟨b5,0,none⟩) ([p0]).length 1 ([p0]),blk b4 192 #[iv p0.ray,iv p0.gate],fz w0 μ,blk cb1 189 #[.map (some m1)],G6 (fA fold_place.cells) Value.bool m1 (upM c0_ p0 true),blk cb2 190 #[sv ad7 l6 cap8],arrT 192 2 fold_place.cells ad7 l6.length cap8 l6]) (T:=T_) [2,3,4,5,6] (by decide) hS
  exact ⟨_,rfl,μ,ad7,cap8,hext,hlow,rfl,hS⟩
 ·replace h:=Ak h hc
  refine wpIn_skip ?_
  refine Mr hF rfl ?_
  have hr_:=Option.some.inj h
  subst hr_
  replace hS:St w0 (blk b4 192 #[iv p0.ray,iv p0.gate]::fz w0 μ::blk cb1 189 #[.map (some m1)]::G6 (fA fold_place.cells) Value.bool m1 c0_::blk cb2 190 #[sv ad2 c1_ cap3]::arrT 192 2 fold_place.cells ad2 c1_.length cap3 c1_::T_) w:=hS
  replace hS:=St.pickT (A:=[blk b4 192 #[iv p0.ray,iv p0.gate],fz w0 μ,blk cb1 189 #[.map (some m1)],G6 (fA fold_place.cells) Value.bool m1 c0_,blk cb2 190 #[sv ad2 c1_ cap3],arrT 192 2 fold_place.cells ad2 c1_.length cap3 c1_]) (T:=T_) [1,2,3,4,5] (by decide) hS
  exact ⟨_,rfl,μ,ad2,cap3,hext,hlow,rfl,hS⟩
theorem Hp (F:Nat) (p0:(List api_Span)) (p1:(List api_Span)) (res:Bool) (h:Bc F p0 p1=some res) (μ:Frz) (w0:World) (hm:FrzAt μ w0) {ad1:Option Addr} {cap2:Nat} {ad4:Option Addr} {cap5:Nat} (hA3:ArrM μ 2 api_Span.cells ad1 cap2 p0) (hA6:ArrM μ 2 api_Span.cells ad4 cap5 p1):Calls Try.prog 106 #[sv ad1 p0 cap2,sv ad4 p1 cap5] w0 (fun e w=>e=.returned (.bool res)∧Ext w0 w):=by
 obtain ⟨hlow,hS⟩:=hm.init
 have hext:=Frz.ext_refl w0.heap.size μ
 rw [Bc] at h
 refine B5 Try.func106 rfl 26 [(0,sv ad1 p0 cap2),(1,sv ad4 p1 cap5)] rfl rfl kr fun a w hw hF=>?_
 replace hS:St w0 [fz w0 μ] w:=by rw [hw];exact hS
 clear hw
 refine esr ?_
 refine rn 1 1 [(0,sv ad1 p0 cap2),(1,sv ad4 p1 cap5)] hF fun a hF=>?_
 refine wfn rfl ?_
 refine Ba ?_
 refine esr ?_
 refine rn 5 5 [(0,sv ad1 p0 cap2),(1,sv ad4 p1 cap5),(10,.bool ((ln p0) != (ln p1)))] hF fun a hF=>?_
 refine wfn rfl ?_
 refine Ar hF rfl (fun hc=>?_) (fun hc=>?_)
 ·replace h:=Al h hc
  refine esr ?_
  refine rn 1 1 [(4,.bool false)] hF fun a hF=>?_
  refine wfn rfl ?_
  refine wpIn_ret (Ac<|B6 [.tmp 4] [.bool false] hF rfl ⟨rfl,trivial⟩ ?_)
  have hr_:=Option.some.inj h
  subst hr_
  exact ⟨rfl,hS.ext⟩
 ·replace h:=Ak h hc
  refine wpIn_skip (A4 ?_)
  refine Eb (fun a w=>Fr 26 [] [] a∧St w0 [fz w0 μ] w∧Cq=some res) ?_ ?_
  ·skip
   refine esr ?_
   refine rn 3 3 [(0,sv ad1 p0 cap2),(1,sv ad4 p1 cap5),(12,iv (ln p0)),(13,iv 0)] hF fun a hF=>?_
   refine wfn rfl ?_
   refine wpIn_block ?_
   refine D2 (fun n_ a w=>∃(a0:Int),Fr 26 [] [(0,sv ad1 p0 cap2),(1,sv ad4 p1 cap5),(12,iv (ln p0)),(13,iv a0)] a∧St w0 [fz w0 μ] w∧Aq p0 p1 n_ a0=some res) F ⟨0,hF.sub kr,St.pick [0] (by decide) hS,h⟩ ?_
   rintro nk2 a w ⟨a0,hF,hS,h⟩
   rcases nk2 with _|nk2
   ·cases (show (none:Option Bool)=some res from h)
   obtain ⟨k2,hk2⟩:∃k,k=Aq p0 p1 nk2:=⟨_,rfl⟩
   replace h:Ap p0 p1 k2 a0=some res:=by rw [hk2];exact h
   rw [Ap] at h
   refine esr ?_
   refine rn 1 1 [(0,sv ad1 p0 cap2),(1,sv ad4 p1 cap5),(12,iv (ln p0)),(13,iv a0),(14,.bool (decide (a0<(ln p0))))] hF fun a hF=>?_
   refine wfn rfl ?_
   refine Ba ?_
   refine Ar hF rfl (fun hc=>?_) (fun hc=>?_)
   ·replace h:=Al h hc
    refine wpIn_skip (A4 ?_)
    refine Ba ?_
    refine wpIn_block ?_
    refine esr ?_
    refine rn 2 2 [(0,sv ad1 p0 cap2),(1,sv ad4 p1 cap5),(5,iv a0),(12,iv (ln p0)),(13,iv a0)] hF fun a hF=>?_
    refine wfn rfl ?_
    refine Ba ?_
    replace h:=A5 h
    obtain ⟨a1,a4,h⟩:=h
    replace h:=A5 h
    obtain ⟨a2,a5,h⟩:=h
    refine L8 (obs:=[.run [] (Instr.indexAt 132 (sv ad1 p0 cap2) (iv a0)) (.pointer (some (A3 ad1 a0 2))),.run [] (Instr.loadAt 25 (.pointer (some (A3 ad1 a0 2)))) (.agg #[iv a1.Lo,iv a1.Hi]),.run [] (Instr.indexAt 132 (sv ad4 p1 cap5) (iv a0)) (.pointer (some (A3 ad4 a0 2))),.run [] (Instr.loadAt 25 (.pointer (some (A3 ad4 a0 2)))) (.agg #[iv a2.Lo,iv a2.Hi]),.run [] (eqS .neq 25 #[iv a1.Lo,iv a1.Hi] #[iv a2.Lo,iv a2.Hi]) (.bool (!(((a1.Lo:Int)==a2.Lo)&&(((a1.Hi:Int)==a2.Hi)&&true))))]) 9 [(0,sv ad1 p0 cap2),(1,sv ad4 p1 cap5),(12,iv (ln p0)),(13,iv a0),(24,.bool (!(((a1.Lo:Int)==a2.Lo)&&(((a1.Hi:Int)==a2.Hi)&&true))))] kr hF kr (A0 (A8 (hA3 _ (hS.frz (i:=0) rfl hlow)) kr (fun _=>a4)) (A0 (Dx (m:=2) (i:=a0) (us:=[iv a1.Lo,iv a1.Hi]) 0 api_Span.cells_len (fun _ hd=>(hA3 _ ((hS.later hd).frz (i:=0) rfl hlow))) kr (fun _=>a4) ⟨rfl,rfl⟩) (A0 (A8 (hA6 _ (hS.frz (i:=0) rfl hlow)) kr (fun _=>a5)) (A0 (Dx (m:=2) (i:=a0) (us:=[iv a2.Lo,iv a2.Hi]) 0 api_Span.cells_len (fun _ hd=>(hA6 _ ((hS.later hd).frz (i:=0) rfl hlow))) kr (fun _=>a5) ⟨rfl,rfl⟩) (A0 (A4z kr kr) Af))))) ⟨kr⟩ fun a w hF hx=>?_
    replace hS:=hS.later hx
    refine wfn rfl ?_
    refine Ar hF rfl (fun hc=>?_) (fun hc=>?_)
    ·replace h:=Al h hc
     refine esr ?_
     refine rn 1 1 [(4,.bool false)] hF fun a hF=>?_
     refine wfn rfl ?_
     refine wpIn_ret (Am<|Ac<|Ac<|Am<|Ac<|B6 [.tmp 4] [.bool false] hF rfl ⟨rfl,trivial⟩ ?_)
     have hr_:=Option.some.inj h
     subst hr_
     exact ⟨rfl,hS.ext⟩
    ·replace h:=Ak h hc
     refine wpIn_skip (Ab<|A4<|?_)
     refine WI.region ?_
     replace h:=A5 h
     obtain ⟨a3,a6,h⟩:=h
     refine rno 2 [.run [] (binOp .add 3 (iv a0) (iv 1)) (iv a3)] 2 [(0,sv ad1 p0 cap2),(1,sv ad4 p1 cap5),(12,iv (ln p0)),(13,iv a3)] hF (A0 (Bg (fun _=>a6)) Af) fun a hF=>?_
     refine wfn rfl ?_
     rw [hk2] at h
     exact ⟨nk2,Nat.lt_succ_self _,a3,hF.sub kr,St.pick [0] (by decide) hS,h⟩
   ·replace h:=Ak h hc
    refine wpIn_exit (A6<|A6<|Ai<|A4 ?_)
    exact ⟨hF.sub kr,St.pick [0] (by decide) hS,h⟩
  rintro a w ⟨hF,hS,h⟩
  rw [Cq] at h
  refine esr ?_
  refine rn 1 1 [(4,.bool true)] hF fun a hF=>?_
  refine wfn rfl ?_
  refine wpIn_ret (B6 [.tmp 4] [.bool true] hF rfl ⟨rfl,trivial⟩ ?_)
  have hr_:=Option.some.inj h
  subst hr_
  exact ⟨rfl,hS.ext⟩
theorem Vb (F:Nat) (p0:(List (List Int))) (res:(List (List api_Span))) (h:My F p0=some res) (μ:Frz) (w0:World) (hm:FrzAt μ w0) {ad1:Option Addr} {cap2:Nat} {css3:List (List Value)} (hA4:ArrQ μ 1 Rp91 ad1 cap2 css3 p0):F1 Try.prog 39 #[sv ad1 p0 cap2] w0 (fun e w=>∃(ν_:Frz) (zad0:Option Addr) (zcap0:Nat) (zcss0:List (List Value)),μ.ext w0.heap.size ν_∧e=(sv zad0 res zcap0)∧All2 (Rp43 ν_) zcss0 res∧St w0 [fz w0 ν_,arr 43 1 (fN 1) zad0 res.length zcap0 zcss0] w):=by
 obtain ⟨hlow,hS⟩:=hm.init
 have hext:=Frz.ext_refl w0.heap.size μ
 rw [My] at h
 refine B5 Try.func39 rfl 65 [(0,sv ad1 p0 cap2)] rfl rfl kr fun a w hw hF=>?_
 replace hS:St w0 [fz w0 μ] w:=by rw [hw];exact hS
 clear hw
 refine esr ?_
 refine rn 1 1 [(0,sv ad1 p0 cap2)] hF fun a hF=>?_
 refine wfn rfl ?_
 refine esr ?_
 refine rn 1 1 [(0,sv ad1 p0 cap2),(3,.slice none 0 0)] hF fun a hF=>?_
 refine wfn rfl ?_
 have aJ:=Frz.le_refl μ
 refine Eb (fun a w=>∃(aM:(List (List api_Span))) (ν1801:Frz) (aS:Option Addr) (aV:Nat) (bA:List (List Value)),Fr 65 [] [(3,sv aS aM aV)] a∧St w0 [arr 43 1 (fN 1) aS aM.length aV bA,fz w0 ν1801] w∧(All2 (Rp43 ν1801) bA aM)∧(μ.le ν1801)∧(μ.ext w0.heap.size ν1801)∧(Bm w0 ν1801)∧M1 aM=some res) ?_ ?_
 ·skip
  refine esr ?_
  refine rn 3 3 [(3,.slice none 0 0),(10,sv ad1 p0 cap2),(11,iv (ln p0)),(12,iv 0)] hF fun a hF=>?_
  refine wfn rfl ?_
  refine wpIn_block ?_
  have bH:=Frz.le_refl μ
  replace hS:=hS.nilarr 43 1 (fN 1)
  refine D2 (fun n_ a w=>∃(a2:Int) (a0:(List (List api_Span))) (ν3003:Frz) (a3:Option Addr) (a4:Nat) (aH:List (List Value)),Fr 65 [] [(3,sv a3 a0 a4),(10,sv ad1 p0 cap2),(11,iv (ln p0)),(12,iv a2)] a∧St w0 [arr 43 1 (fN 1) a3 a0.length a4 aH,fz w0 ν3003] w∧(All2 (Rp43 ν3003) aH a0)∧(μ.le ν3003)∧(μ.ext w0.heap.size ν3003)∧(Bm w0 ν3003)∧E2 F p0 n_ a2 a0=some res) F ⟨0,[],μ,none,0,[],hF.sub kr,St.pick [0,1] (by decide) hS,All2.nil,bH,hext,hlow,h⟩ ?_
  clear bH
  rintro nk2 a w ⟨a2,a0,ν3003,a3,a4,aH,hF,hS,aQ,aK,hext,hlow,h⟩
  rcases nk2 with _|nk2
  ·cases (show (none:Option (List (List api_Span)))=some res from h)
  replace hA4:=hA4.mono Rp91.mono aK
  replace aJ:=Frz.le_trans aJ aK
  obtain ⟨k2,hk2⟩:∃k,k=E2 F p0 nk2:=⟨_,rfl⟩
  replace h:Fu F p0 k2 a2 a0=some res:=by rw [hk2];exact h
  rw [Fu] at h
  refine esr ?_
  refine rn 1 1 [(3,sv a3 a0 a4),(10,sv ad1 p0 cap2),(11,iv (ln p0)),(12,iv a2),(13,.bool (decide (a2<(ln p0))))] hF fun a hF=>?_
  refine wfn rfl ?_
  refine Ba ?_
  refine Ar hF rfl (fun hc=>?_) (fun hc=>?_)
  ·replace h:=Al h hc
   refine wpIn_skip (A4 ?_)
   have b6:=Frz.le_refl ν3003
   refine Eb (fun a w=>∃(aN:(List (List api_Span))) (ν3304:Frz) (aT:Option Addr) (aW:Nat) (b4:List (List Value)),Fr 65 [] [(3,sv aT aN aW),(10,sv ad1 p0 cap2),(11,iv (ln p0)),(12,iv a2)] a∧St w0 [arr 43 1 (fN 1) aT aN.length aW b4,fz w0 ν3304] w∧(All2 (Rp43 ν3304) b4 aN)∧(ν3003.le ν3304)∧(μ.ext w0.heap.size ν3304)∧(Bm w0 ν3304)∧Kk a2 k2 aN=some res) ?_ ?_
   ·skip
    refine wpIn_block ?_
    refine esr ?_
    replace h:=A5 h
    obtain ⟨a1,c1,h⟩:=h
    obtain ⟨cI,bG,bU⟩:=Ae hA4.2 c1
    obtain ⟨a7,a9,rfl,b5⟩:=bU
    refine rno 3 [.run [] (Instr.indexAt 82 (sv ad1 p0 cap2) (iv a2)) (.pointer (some (A3 ad1 a2 1))),.run [] (Instr.loadAt 91 (.pointer (some (A3 ad1 a2 1)))) (sv a7 a1 a9)] 3 [(3,sv a3 a0 a4),(5,sv a7 a1 a9),(10,sv ad1 p0 cap2),(11,iv (ln p0)),(12,iv a2)] hF (A0 (A8 (hA4.at (hS.frz (i:=1) rfl hlow)) kr (fun _=>bG)) (A0 (An (i:=a2) 0 (As 1) (fun _ hd=>(hA4.at ((hS.at_ hd).frz (i:=1) rfl hlow))) kr (fun _=>bG) rfl) Af)) fun a hF=>?_
    refine wfn rfl ?_
    refine esr ?_
    refine rn 1 1 [(3,sv a3 a0 a4),(5,sv a7 a1 a9),(6,.slice none 0 0),(10,sv ad1 p0 cap2),(11,iv (ln p0)),(12,iv a2)] hF fun a hF=>?_
    refine wfn rfl ?_
    refine esr ?_
    refine rn 1 1 [(3,sv a3 a0 a4),(5,sv a7 a1 a9),(6,.slice none 0 0),(7,iv 0),(10,sv ad1 p0 cap2),(11,iv (ln p0)),(12,iv a2)] hF fun a hF=>?_
    refine wfn rfl ?_
    refine Eb (fun a w=>∃(aB:(List api_Span)) (aE:Option Addr) (aF:Nat),Fr 65 [] [(3,sv a3 a0 a4),(6,sv aE aB aF),(10,sv ad1 p0 cap2),(11,iv (ln p0)),(12,iv a2)] a∧St w0 [arr 25 2 api_Span.cells aE aB.length aF aB,arr 43 1 (fN 1) a3 a0.length a4 aH,fz w0 ν3003] w∧Ey a2 a0 k2 aB=some res) ?_ ?_
    ·skip
     refine esr ?_
     refine rn 3 3 [(3,sv a3 a0 a4),(6,.slice none 0 0),(7,iv 0),(10,sv ad1 p0 cap2),(11,iv (ln p0)),(12,iv a2),(16,sv a7 a1 a9),(17,iv (ln a1)),(18,iv 0)] hF fun a hF=>?_
     refine wfn rfl ?_
     refine wpIn_block ?_
     replace hS:=hS.nilarr 25 2 api_Span.cells
     refine D2 (fun n_ a w=>∃(a5:Int) (a6:(List api_Span)) (aG:Int) (a8:Option Addr) (aA:Nat),Fr 65 [] [(3,sv a3 a0 a4),(6,sv a8 a6 aA),(7,iv aG),(10,sv ad1 p0 cap2),(11,iv (ln p0)),(12,iv a2),(16,sv a7 a1 a9),(17,iv (ln a1)),(18,iv a5)] a∧St w0 [arr 25 2 api_Span.cells a8 a6.length aA a6,arr 43 1 (fN 1) a3 a0.length a4 aH,fz w0 ν3003] w∧Ct a2 a0 k2 a1 n_ a5 a6 aG=some res) F ⟨0,[],0,none,0,hF.sub kr,St.pick [0,1,2] (by decide) hS,h⟩ ?_
     rintro nk5 a w ⟨a5,a6,aG,a8,aA,hF,hS,h⟩
     rcases nk5 with _|nk5
     ·cases (show (none:Option (List (List api_Span)))=some res from h)
     obtain ⟨k5,hk5⟩:∃k,k=Ct a2 a0 k2 a1 nk5:=⟨_,rfl⟩
     replace h:Hy a2 a0 k2 a1 k5 a5 a6 aG=some res:=by rw [hk5];exact h
     rw [Hy] at h
     refine esr ?_
     refine rn 1 1 [(3,sv a3 a0 a4),(6,sv a8 a6 aA),(7,iv aG),(10,sv ad1 p0 cap2),(11,iv (ln p0)),(12,iv a2),(16,sv a7 a1 a9),(17,iv (ln a1)),(18,iv a5),(19,.bool (decide (a5<(ln a1))))] hF fun a hF=>?_
     refine wfn rfl ?_
     refine Ba ?_
     refine Ar hF rfl (fun hc=>?_) (fun hc=>?_)
     ·replace h:=Al h hc
      refine wpIn_skip (A4 ?_)
      refine Eb (fun a w=>∃(aO:(List api_Span)) (aY:Int) (aU:Option Addr) (aX:Nat),Fr 65 [] [(3,sv a3 a0 a4),(6,sv aU aO aX),(7,iv aY),(10,sv ad1 p0 cap2),(11,iv (ln p0)),(12,iv a2),(16,sv a7 a1 a9),(17,iv (ln a1)),(18,iv a5)] a∧St w0 [arr 25 2 api_Span.cells aU aO.length aX aO,arr 43 1 (fN 1) a3 a0.length a4 aH,fz w0 ν3003] w∧De a5 k5 aO aY=some res) ?_ ?_
      ·skip
       refine wpIn_block ?_
       refine esr ?_
       replace h:=A5 h
       obtain ⟨aP,bK,h⟩:=h
       refine rno 5 [.run [] (Instr.indexAt 91 (sv a7 a1 a9) (iv a5)) (.pointer (some (A3 a7 a5 1))),.run [] (Instr.loadAt 5 (.pointer (some (A3 a7 a5 1)))) (.int .u8 aP)] 5 [(3,sv a3 a0 a4),(6,sv a8 a6 aA),(7,iv aG),(8,iv a5),(9,.int .u8 aP),(10,sv ad1 p0 cap2),(11,iv (ln p0)),(12,iv a2),(16,sv a7 a1 a9),(17,iv (ln a1)),(18,iv a5)] hF (A0 (A8 (b5 _ (hS.frz (i:=2) rfl hlow)) kr (fun _=>bK)) (A0 (An (i:=a5) 0 (A4b .u8) (fun _ hd=>(b5 _ ((hS.at_ hd).frz (i:=2) rfl hlow))) kr (fun _=>bK) rfl) Af)) fun a hF=>?_
       refine wfn rfl ?_
       refine Ba ?_
       refine esr ?_
       refine rn 2 2 [(3,sv a3 a0 a4),(6,sv a8 a6 aA),(7,iv aG),(8,iv a5),(9,.int .u8 aP),(10,sv ad1 p0 cap2),(11,iv (ln p0)),(12,iv a2),(16,sv a7 a1 a9),(17,iv (ln a1)),(18,iv a5),(24,.bool (decide (a5≥6)))] hF fun a hF=>?_
       refine wfn rfl ?_
       refine Ar hF rfl (fun hc=>?_) (fun hc=>?_)
       ·replace h:=Al h hc
        refine wpIn_exit (A6<|Lb rfl<|A6<|A6<|Ai<|A4 ?_)
        exact ⟨a6,a8,aA,hF.sub kr,St.pick [0,1,2] (by decide) hS,h⟩
       ·replace h:=Ak h hc
        refine wpIn_skip (A4 ?_)
        refine esr ?_
        replace h:=A5 h
        obtain ⟨bN,c4,h⟩:=h
        refine rno 3 [.run [] (binOp .rem 3 (iv a5) (iv 2)) (iv bN)] 3 [(3,sv a3 a0 a4),(6,sv a8 a6 aA),(7,iv aG),(9,.int .u8 aP),(10,sv ad1 p0 cap2),(11,iv (ln p0)),(12,iv a2),(16,sv a7 a1 a9),(17,iv (ln a1)),(18,iv a5),(27,.bool (bN==0))] hF (A0 (Lh (fun _=>c4)) Af) fun a hF=>?_
        refine wfn rfl ?_
        refine Ar hF rfl (fun hc=>?_) (fun hc=>?_)
        ·replace h:=Al h hc
         refine esr ?_
         replace h:=A5 h
         obtain ⟨bO,c5,h⟩:=h
         replace h:=A5 h
         obtain ⟨bP,c6,h⟩:=h
         replace h:=A5 h
         obtain ⟨bQ,c7,h⟩:=h
         replace h:=A5 h
         obtain ⟨aI,c8,h⟩:=h
         refine rno 7 [.run [] (convert 5 3 (.int .u8 aP)) (iv bO),.run [] (binOp .rem 3 (iv bO) (iv 12)) (iv bP),.run [] (binOp .add 3 (iv 1) (iv bP)) (iv bQ),.run [] (binOp .add 3 (iv aG) (iv bQ)) (iv aI)] 7 [(3,sv a3 a0 a4),(6,sv a8 a6 aA),(7,iv aI),(10,sv ad1 p0 cap2),(11,iv (ln p0)),(12,iv a2),(16,sv a7 a1 a9),(17,iv (ln a1)),(18,iv a5)] hF (A0 (Ph kr kr (fun _=>c5)) (A0 (Lh (fun _=>c6)) (A0 (Bg (fun _=>c7)) (A0 (Bg (fun _=>c8)) Af)))) fun a hF=>?_
         refine wfn rfl ?_
         refine WI.region ?_
         replace h:=A5 h
         obtain ⟨aC,c9,h⟩:=h
         replace h:=A5 h
         obtain ⟨aD,cA,h⟩:=h
         refine rx 6 [.run [] (binOp .sub 3 (iv aI) (iv 20)) (iv aC),.run [] (binOp .sub 3 (iv aI) (iv 20)) (iv aD),.call [] 46 #[iv aC,iv aD] (.agg #[iv ((D0 aC aD).Lo),iv ((D0 aC aD).Hi)])] 6 [(3,sv a3 a0 a4),(6,sv a8 a6 aA),(7,iv aI),(10,sv ad1 p0 cap2),(11,iv (ln p0)),(12,iv a2),(16,sv a7 a1 a9),(17,iv (ln a1)),(18,iv a5),(34,sv a8 a6 aA),(39,.agg #[iv ((D0 aC aD).Lo),iv ((D0 aC aD).Hi)])] hF (A0 (Dl (fun _=>c9)) (A0 (Dl (fun _=>cA)) (A0 (show Ob.ok _ Ext _ _ from fun hk w2 hd=>Vc aC aD _ rfl _ w2 (Aj w2)) Af))) fun a w hF hx=>?_
         replace hS:=hS.later hx
         refine SK.wi (U9 (e:=25) (sz:=2) (f:=api_Span.cells) (t:=43) (len:=1) (fun bF=>[(3,sv a3 a0 a4),(6,sv a8 a6 aA),(7,iv aI),(10,sv ad1 p0 cap2),(11,iv (ln p0)),(12,iv a2),(16,sv a7 a1 a9),(17,iv (ln a1)),(18,iv a5),(34,sv a8 a6 aA),(40,sb bF 1)]) #[(0,.agg #[iv ((D0 aC aD).Lo),iv ((D0 aC aD).Hi)])] #[iv ((D0 aC aD).Lo),iv ((D0 aC aD).Hi)] ([(D0 aC aD)]) hF hS kr ⟨kr⟩ kr api_Span.cells_len rfl rfl kr (fun _=>⟨kr⟩) fun bF w a hF hS=>?_)
         replace h:=A5 h
         obtain ⟨bB,bV,h⟩:=h
         refine SK.wi (Wj (t:=43) (ty:=43) (bytes:=16) (l:=a6) (l':=([(D0 aC aD)])) (fun b1 b3=>[(3,sv a3 a0 a4),(6,sv a8 a6 aA),(7,iv aI),(10,sv ad1 p0 cap2),(11,iv (ln p0)),(12,iv a2),(16,sv a7 a1 a9),(17,iv (ln a1)),(18,iv a5),(41,sv b1 bB b3)]) 1 hF hS rfl kr ⟨kr⟩ kr (hS.arr (i:=0) rfl) (fun _ _=>rfl) bV (fun _ _=>⟨kr⟩) fun b1 b3 w a hF hS=>?_)
         refine rn 1 9 [(3,sv a3 a0 a4),(6,sv b1 bB b3),(7,iv aI),(10,sv ad1 p0 cap2),(11,iv (ln p0)),(12,iv a2),(16,sv a7 a1 a9),(17,iv (ln a1)),(18,iv a5)] hF fun a hF=>?_
         refine WI.fin rfl (Ab<|A4<|?_)
         exact ⟨bB,aI,b1,b3,hF.sub kr,St.pick [1,2,3] (by decide) hS,h⟩
        ·replace h:=Ak h hc
         refine esr ?_
         refine rn 3 3 [(3,sv a3 a0 a4),(6,sv a8 a6 aA),(7,iv aG),(9,.int .u8 aP),(10,sv ad1 p0 cap2),(11,iv (ln p0)),(12,iv a2),(16,sv a7 a1 a9),(17,iv (ln a1)),(18,iv a5),(44,.bool (decide ((ln a6)>0)))] hF fun a hF=>?_
         refine wfn rfl ?_
         refine Ar hF rfl (fun hc=>?_) (fun hc=>?_)
         ·replace h:=Al h hc
          refine esr ?_
          replace h:=A5 h
          obtain ⟨bR,cB,h⟩:=h
          replace h:=A5 h
          obtain ⟨bS,cC,h⟩:=h
          replace h:=A5 h
          obtain ⟨aR,cD,h⟩:=h
          refine rno 6 [.run [] (convert 5 3 (.int .u8 aP)) (iv bR),.run [] (binOp .rem 3 (iv bR) (iv 8)) (iv bS),.run [] (binOp .add 3 (iv aG) (iv bS)) (iv aR)] 6 [(3,sv a3 a0 a4),(6,sv a8 a6 aA),(7,iv aR),(10,sv ad1 p0 cap2),(11,iv (ln p0)),(12,iv a2),(16,sv a7 a1 a9),(17,iv (ln a1)),(18,iv a5)] hF (A0 (Ph kr kr (fun _=>cB)) (A0 (Lh (fun _=>cC)) (A0 (Bg (fun _=>cD)) Af))) fun a hF=>?_
          refine wfn rfl ?_
          refine WI.region ?_
          replace h:=A5 h
          obtain ⟨aZ,cE,h⟩:=h
          replace h:=A5 h
          obtain ⟨b9,cF,h⟩:=h
          replace h:=A5 h
          obtain ⟨bM,bL,h⟩:=h
          refine rno 8 [.run [] (binOp .sub 3 (iv (ln a6)) (iv 1)) (iv aZ),.run [] (binOp .sub 3 (iv aR) (iv 20)) (iv b9),.run [] (Instr.indexAt 43 (sv a8 a6 aA) (iv aZ)) (.pointer (some (A3 a8 aZ 2)))] 8 [(3,sv a3 a0 a4),(6,sv a8 a6 aA),(7,iv aR),(10,sv ad1 p0 cap2),(11,iv (ln p0)),(12,iv a2),(16,sv a7 a1 a9),(17,iv (ln a1)),(18,iv a5),(55,iv b9),(57,.pointer (some ((A3 a8 aZ 2).add 1)))] hF (A0 (Dl (fun _=>cE)) (A0 (Dl (fun _=>cF)) (A0 (A8 (hS.arr (i:=0) rfl) kr (fun _=>bL)) Af))) fun a hF=>?_
          replace h:=A5 h
          obtain ⟨cH,bW,h⟩:=h
          refine SK.wi (A7b (j:=aZ) (t:=3) [(3,sv a3 a0 a4),(6,sv a8 a6 aA),(7,iv aR),(10,sv ad1 p0 cap2),(11,iv (ln p0)),(12,iv a2),(16,sv a7 a1 a9),(17,iv (ln a1)),(18,iv a5)] 0 1 bM (api_Span.mk bM.Lo b9) (iv b9) hF hS rfl kr ⟨kr⟩ api_Span.cells_len bL rfl kr kr kr bW ⟨kr⟩ fun w a hF hl hS=>?_)
          simp only [sv,ln,hl] at hF hS
          refine WI.fin rfl (Ab<|A4<|?_)
          exact ⟨cH,aR,a8,aA,hF.sub kr,St.pick [0,1,2] (by decide) hS,h⟩
         ·replace h:=Ak h hc
          refine wpIn_skip (Ab<|A4<|?_)
          exact ⟨a6,aG,a8,aA,hF.sub kr,St.pick [0,1,2] (by decide) hS,h⟩
      rintro a w ⟨aO,aY,aU,aX,hF,hS,h⟩
      rw [De] at h
      refine WI.region ?_
      replace h:=A5 h
      obtain ⟨bD,c3,h⟩:=h
      refine rno 2 [.run [] (binOp .add 3 (iv a5) (iv 1)) (iv bD)] 2 [(3,sv a3 a0 a4),(6,sv aU aO aX),(7,iv aY),(10,sv ad1 p0 cap2),(11,iv (ln p0)),(12,iv a2),(16,sv a7 a1 a9),(17,iv (ln a1)),(18,iv bD)] hF (A0 (Bg (fun _=>c3)) Af) fun a hF=>?_
      refine wfn rfl ?_
      rw [hk5] at h
      exact ⟨nk5,Nat.lt_succ_self _,bD,aO,aY,aU,aX,hF.sub kr,St.pick [0,1,2] (by decide) hS,h⟩
     ·replace h:=Ak h hc
      refine wpIn_exit (A6<|A6<|Ai<|A4 ?_)
      exact ⟨a6,a8,aA,hF.sub kr,St.pick [0,1,2] (by decide) hS,h⟩
    rintro a w ⟨aB,aE,aF,hF,hS,h⟩
    rw [Ey] at h
    refine WI.region ?_
    refine rn 2 2 [(3,sv a3 a0 a4),(10,sv ad1 p0 cap2),(11,iv (ln p0)),(12,iv a2),(59,sv a3 a0 a4),(60,sv aE aB aF)] hF fun a hF=>?_
    obtain ⟨ν3459,aL,hlow,hS,cG⟩:=hS.freeze (i:=2) (j:=0) rfl rfl (by decide) hlow
    replace hA4:=hA4.mono Rp91.mono aL.1
    replace aQ:=All2.mono Rp43.mono aL.1 aQ
    replace b5:=b5.mono aL.1
    replace aJ:=Frz.le_trans aJ aL.1
    replace aK:=Frz.le_trans aK aL.1
    replace b6:=Frz.le_trans b6 aL.1
    replace hext:=Frz.ext_trans hext aL
    replace hS:St w0 [arr 43 1 (fN 1) a3 a0.length a4 aH,fz w0 ν3459] w:=hS
    have bT:=ArrM.of_arr cG
    have bJ:All2 (Rp43 ν3459) ([[sv aE aB aF]]:List (List Value)) [aB]:=(All2.cons ⟨aE,aF,rfl,bT⟩ All2.nil)
    refine SK.wi (Sb (e:=43) (sz:=1) (f:=fN 1) (t:=48) (len:=1) (fun bE=>[(3,sv a3 a0 a4),(10,sv ad1 p0 cap2),(11,iv (ln p0)),(12,iv a2),(59,sv a3 a0 a4),(61,sb bE 1)]) #[(0,sv aE aB aF)] #[sv aE aB aF] ([[sv aE aB aF]]:List (List Value)) ([aB]) hF hS kr ⟨kr⟩ kr (As 1) rfl rfl rfl kr (fun _=>⟨kr⟩) fun bE w a hF hS=>?_)
    replace h:=A5 h
    obtain ⟨b8,bI,h⟩:=h
    have c0:All2 (Rp43 ν3459) (aH++([[sv aE aB aF]]:List (List Value))) b8:=by rw [(G1 bI).1];exact All2.app aQ bJ
    refine SK.wi (Ps (t:=48) (ty:=48) (bytes:=24) (c:=aH) (c':=([[sv aE aB aF]]:List (List Value))) (l:=a0) (l':=([aB])) (fun b0 b2=>[(3,sv a3 a0 a4),(10,sv ad1 p0 cap2),(11,iv (ln p0)),(12,iv a2),(62,sv b0 b8 b2)]) 1 hF hS rfl kr ⟨kr⟩ kr (hS.arr (i:=0) rfl) (ArrQ.one bJ Rp43.one) bI (fun _ _=>⟨kr⟩) fun b0 b2 w a hF hS=>?_)
    refine rn 1 5 [(3,sv b0 b8 b2),(10,sv ad1 p0 cap2),(11,iv (ln p0)),(12,iv a2)] hF fun a hF=>?_
    refine WI.fin rfl (Ab<|A4<|?_)
    exact ⟨b8,ν3459,b0,b2,(aH++([[sv aE aB aF]]:List (List Value))),hF.sub kr,St.pick [1,2] (by decide) hS,c0,b6,hext,hlow,h⟩
   clear b6
   rintro a w ⟨aN,ν3304,aT,aW,b4,hF,hS,bZ,b7,hext,hlow,h⟩
   replace hA4:=hA4.mono Rp91.mono b7
   replace aQ:=All2.mono Rp43.mono b7 aQ
   replace aJ:=Frz.le_trans aJ b7
   replace aK:=Frz.le_trans aK b7
   rw [Kk] at h
   refine WI.region ?_
   replace h:=A5 h
   obtain ⟨bC,c2,h⟩:=h
   refine rno 2 [.run [] (binOp .add 3 (iv a2) (iv 1)) (iv bC)] 2 [(3,sv aT aN aW),(10,sv ad1 p0 cap2),(11,iv (ln p0)),(12,iv bC)] hF (A0 (Bg (fun _=>c2)) Af) fun a hF=>?_
   refine wfn rfl ?_
   rw [hk2] at h
   exact ⟨nk2,Nat.lt_succ_self _,bC,aN,ν3304,aT,aW,b4,hF.sub kr,St.pick [0,1] (by decide) hS,bZ,aK,hext,hlow,h⟩
  ·replace h:=Ak h hc
   refine wpIn_exit (A6<|A6<|Ai<|A4 ?_)
   exact ⟨a0,ν3003,a3,a4,aH,hF.sub kr,St.pick [0,1] (by decide) hS,aQ,aJ,hext,hlow,h⟩
 clear aJ
 rintro a w ⟨aM,ν1801,aS,aV,bA,hF,hS,bY,bX,hext,hlow,h⟩
 replace hA4:=hA4.mono Rp91.mono bX
 rw [M1] at h
 refine esr ?_
 refine rn 2 2 [(2,sv aS aM aV)] hF fun a hF=>?_
 refine wfn rfl ?_
 refine wpIn_ret (B6 [.tmp 2] [sv aS aM aV] hF rfl ⟨rfl,trivial⟩ ?_)
 have hr_:=Option.some.inj h
 subst hr_
 exact ⟨_,rfl,ν1801,_,_,_,hext,rfl,bY,St.pick [1,0] (by decide) hS⟩
end Go.Proofs.Ytbhjgebjojdohaa
