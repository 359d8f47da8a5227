import Derived.Test.YtbhjgebjojdohaaF10XD
import Derived.Test.YtbhjgebjojdohaaProg
import Derived.Test.YtbhjgebjojdohaaF10XW0
namespace Go.Proofs.Ytbhjgebjojdohaa
open Go Go.RowKit Go.Eng
set_option maxRecDepth 10000
set_option maxHeartbeats 4000000
set_option linter.unusedVariables false
set_option linter.unusedSimpArgs false
theorem Jy (F:Nat) (p0:Int) (p1:Int) (p2:Int) (p3:Int) (p4:Int) (c0_:(List (List (A7 Bool 80)))) (c1_:Bool) (res:((List (List (A7 Bool 80)))×Bool)) (h:Br F p0 p1 p2 p3 p4 c0_ c1_=some res) (μ:Frz) (w0 w1:World) (T_:List Res) (hlow:Bm w0 μ) {cb5:Nat} {ad1:Option Addr} {cap2:Nat} {hd3:List Hd} {css4:List (List (A7 Bool 80))} {cb6:Nat} (hq5:NestOk (@Eq (A7 Bool 80)) hd3 css4 c0_) (hS:St w0 (fz w0 μ::blk cb5 92 #[sv ad1 c0_ cap2]::A9 84 85 80 (vF Value.bool) ad1 c0_.length cap2 hd3 css4::blk cb6 4 #[.bool c1_]::T_) w1):F1 Try.prog 43 #[iv p0,iv p1,iv p2,iv p3,iv p4,pb cb5,pb cb6] w1 (fun e w=>∃(ν_:Frz) (c0:Option Addr) (cC:Nat) (cV:List Hd) (cE:List (List (A7 Bool 80))),μ.ext w0.heap.size ν_∧Bm w0 ν_∧e=(.tuple #[])∧(NestOk (@Eq (A7 Bool 80)) cV cE res.1)∧St w0 (fz w0 ν_::blk cb5 92 #[sv c0 res.1 cC]::A9 84 85 80 (vF Value.bool) c0 res.1.length cC cV cE::blk cb6 4 #[.bool res.2]::T_) w):=by
 rw [Br] at h
 have hext:=Frz.ext_refl w0.heap.size μ
 refine B5 Try.func43 rfl 83 [(0,iv p0),(1,iv p1),(2,iv p2),(3,iv p3),(4,iv p4),(5,pb cb5),(6,pb cb6)] rfl rfl kr fun a w hw hF=>?_
 replace hS:St w0 (fz w0 μ::blk cb5 92 #[sv ad1 c0_ cap2]::A9 84 85 80 (vF Value.bool) ad1 c0_.length cap2 hd3 css4::blk cb6 4 #[.bool c1_]::T_) w:=by rw [hw];exact hS
 clear hw
 refine Ba ?_
 replace h:=A5 h
 obtain ⟨u6,hu6,h⟩:=h
 replace h:=A5 h
 obtain ⟨aC,dS,h⟩:=h
 replace h:=A5 h
 obtain ⟨e7,f8,h⟩:=h
 replace h:=A5 h
 obtain ⟨aD,dV,h⟩:=h
 replace h:=A5 h
 obtain ⟨e9,fC,h⟩:=h
 replace h:=A5 h
 obtain ⟨a5,dZ,h⟩:=h
 replace h:=A5 h
 obtain ⟨eC,fH,h⟩:=h
 replace h:=A5 h
 obtain ⟨a6,e2,h⟩:=h
 replace h:=A5 h
 obtain ⟨a0,b1,h⟩:=h
 replace h:=A5 h
 obtain ⟨a1,aE,h⟩:=h
 refine C5 34 [15,31,32,33] (fun a w=>∃(a3:Nat) (a4:Nat),Fr 83 [] [(0,iv p0),(1,iv p1),(2,iv p2),(3,iv p3),(5,pb cb5),(6,pb cb6),(12,pb a3),(13,pb a4),(29,.agg (vF Value.bool a0).toArray),(45,.agg (vF Value.bool a1).toArray)] a∧St w0 (blk a3 85 (vF Value.bool (default:A7 Bool 80)).toArray::blk a4 85 (vF Value.bool (default:A7 Bool 80)).toArray::fz w0 μ::blk cb5 92 #[sv ad1 c0_ cap2]::A9 84 85 80 (vF Value.bool) ad1 c0_.length cap2 hd3 css4::blk cb6 4 #[.bool c1_]::T_) w) (D:=fun w=>St w0 [blk cb5 92 #[sv ad1 c0_ cap2],A9 84 85 80 (vF Value.bool) ad1 c0_.length cap2 hd3 css4,blk cb6 4 #[.bool c1_]] w∧FrzAt μ w) kr kr hF.size (fun w hx=>?_) ?_
 ·skip
  replace hS:=hS.later hx
  refine ⟨⟨St.pick [1,2,3] (by decide) hS,hS.frz (i:=0) rfl hlow⟩,?_⟩
  have gL:=Frz.le_refl μ
  obtain ⟨bD,cD,cW,dC,cF⟩:=NestOk.getE hq5 hu6
  obtain ⟨b2,c1,cX,dD,cG⟩:=NestOk.getE hq5 f8
  obtain ⟨b3,c2,cY,dE,cH⟩:=NestOk.getE hq5 fC
  obtain ⟨b4,c3,cZ,dF,cI⟩:=NestOk.getE hq5 fH
  refine WT.s [0,1,2,3,4,5,6,7,8,9,10,11,12,13,14,16,17,18,19,20,21,22,23,24,25,26,27,28,29,30] [15,32,33] kr kr ?_
  refine Jj (rest:=[]) (obs:=[.run [] (Instr.loadAt 92 (pb cb5)) (sv ad1 c0_ cap2),.run [] (Instr.indexAt 92 (sv ad1 c0_ cap2) (iv p0)) (.pointer (some (A3 ad1 p0 1))),.run [] (Instr.loadAt 84 (.pointer (some (A3 ad1 p0 1)))) (sv bD u6 cD),.run [] (Instr.indexAt 84 (sv bD u6 cD) (iv p1)) (.pointer (some (A3 bD p1 80))),.run [] (Instr.loadAt 85 (.pointer (some (A3 bD p1 80)))) (.agg (vF Value.bool aC).toArray),.run [] (Instr.loadAt 92 (pb cb5)) (sv ad1 c0_ cap2),.run [] (Instr.indexAt 92 (sv ad1 c0_ cap2) (iv p2)) (.pointer (some (A3 ad1 p2 1))),.run [] (Instr.loadAt 84 (.pointer (some (A3 ad1 p2 1)))) (sv b2 e7 c1),.run [] (Instr.indexAt 84 (sv b2 e7 c1) (iv p3)) (.pointer (some (A3 b2 p3 80))),.run [] (Instr.loadAt 85 (.pointer (some (A3 b2 p3 80)))) (.agg (vF Value.bool aD).toArray),.run [] (Instr.loadAt 92 (pb cb5)) (sv ad1 c0_ cap2),.run [] (Instr.indexAt 92 (sv ad1 c0_ cap2) (iv p2)) (.pointer (some (A3 ad1 p2 1))),.run [] (Instr.loadAt 84 (.pointer (some (A3 ad1 p2 1)))) (sv b3 e9 c2),.run [] (Instr.indexAt 84 (sv b3 e9 c2) (iv p3)) (.pointer (some (A3 b3 p3 80))),.run [] (Instr.loadAt 85 (.pointer (some (A3 b3 p3 80)))) (.agg (vF Value.bool a5).toArray),.run [] (Instr.loadAt 92 (pb cb5)) (sv ad1 c0_ cap2),.run [] (Instr.indexAt 92 (sv ad1 c0_ cap2) (iv p0)) (.pointer (some (A3 ad1 p0 1))),.run [] (Instr.loadAt 84 (.pointer (some (A3 ad1 p0 1)))) (sv b4 eC c3),.run [] (Instr.indexAt 84 (sv b4 eC c3) (iv p1)) (.pointer (some (A3 b4 p1 80))),.run [] (Instr.loadAt 85 (.pointer (some (A3 b4 p1 80)))) (.agg (vF Value.bool a6).toArray)]) [0,1,2,3,4,5,6,7,8,9,10,11,12,13,14,16,17,18,19,20,21,22,23,24,25,26,27,28,29,30] [(0,iv p0),(1,iv p1),(2,iv p2),(3,iv p3),(5,pb cb5),(6,pb cb6),(20,.agg (vF Value.bool aC).toArray),(27,.agg (vF Value.bool aD).toArray),(28,iv p4),(36,.agg (vF Value.bool a5).toArray),(43,.agg (vF Value.bool a6).toArray),(44,iv p4)] hF kr kr (A0 (ob1 kr (fun _ hd=>hd.1.cell (i:=0) (j:=0) rfl rfl)) (A0 (A8 (Ao (hS.res (i:=2) rfl)) kr (fun _=>cW)) (A0 (An (i:=p0) 0 C6 (fun _ hd=>(Ao (hd.1.res (i:=1) rfl))) kr (fun _=>cW) rfl) (A0 (A8 (Bb (hS.res (i:=2) rfl) dC cF) kr (fun _=>dS)) (A0 (Dx (m:=80) (i:=p1) (us:=vF Value.bool aC) 0 (C2 Value.bool) (fun _ hd=>(Bb (hd.1.res (i:=1) rfl) dC cF)) kr (fun _=>dS) ⟨C2 _ _,Gv _ _⟩) (A0 (ob1 kr (fun _ hd=>hd.1.cell (i:=0) (j:=0) rfl rfl)) (A0 (A8 (Ao (hS.res (i:=2) rfl)) kr (fun _=>cX)) (A0 (An (i:=p2) 0 C6 (fun _ hd=>(Ao (hd.1.res (i:=1) rfl))) kr (fun _=>cX) rfl) (A0 (A8 (Bb (hS.res (i:=2) rfl) dD cG) kr (fun _=>dV)) (A0 (Dx (m:=80) (i:=p3) (us:=vF Value.bool aD) 0 (C2 Value.bool) (fun _ hd=>(Bb (hd.1.res (i:=1) rfl) dD cG)) kr (fun _=>dV) ⟨C2 _ _,Gv _ _⟩) (A0 (ob1 kr (fun _ hd=>hd.1.cell (i:=0) (j:=0) rfl rfl)) (A0 (A8 (Ao (hS.res (i:=2) rfl)) kr (fun _=>cY)) (A0 (An (i:=p2) 0 C6 (fun _ hd=>(Ao (hd.1.res (i:=1) rfl))) kr (fun _=>cY) rfl) (A0 (A8 (Bb (hS.res (i:=2) rfl) dE cH) kr (fun _=>dZ)) (A0 (Dx (m:=80) (i:=p3) (us:=vF Value.bool a5) 0 (C2 Value.bool) (fun _ hd=>(Bb (hd.1.res (i:=1) rfl) dE cH)) kr (fun _=>dZ) ⟨C2 _ _,Gv _ _⟩) (A0 (ob1 kr (fun _ hd=>hd.1.cell (i:=0) (j:=0) rfl rfl)) (A0 (A8 (Ao (hS.res (i:=2) rfl)) kr (fun _=>cZ)) (A0 (An (i:=p0) 0 C6 (fun _ hd=>(Ao (hd.1.res (i:=1) rfl))) kr (fun _=>cZ) rfl) (A0 (A8 (Bb (hS.res (i:=2) rfl) dF cI) kr (fun _=>e2)) (A0 (Dx (m:=80) (i:=p1) (us:=vF Value.bool a6) 0 (C2 Value.bool) (fun _ hd=>(Bb (hd.1.res (i:=1) rfl) dF cI)) kr (fun _=>e2) ⟨C2 _ _,Gv _ _⟩) Af)))))))))))))))))))) ⟨kr⟩ fun a hF=>?_
  refine WRun.fin ?_
  refine all_cons ?_ (all_cons ?_ (all_cons ?_ (Av)))
  ·skip
   refine Jx [(0,iv p0),(1,iv p1),(2,iv p2),(3,iv p3),(5,pb cb5),(6,pb cb6),(29,.agg (vF Value.bool a0).toArray),(36,.agg (vF Value.bool a5).toArray),(43,.agg (vF Value.bool a6).toArray),(44,iv p4)] hF kr ⟨kr⟩ (B8 F aC aD p4 _ b1 (Ci w) w (Aj w)) ⟨kr⟩ ?_
   intro w a hx hF
   replace hS:=hS.later hx
   refine ⟨⟨St.pick [1,2,3] (by decide) hS,(hS.frz (i:=0) rfl hlow)⟩,?_⟩
   refine WT.s [] [31,32,33] kr kr ?_
   refine WRun.fin ?_
   refine all_cons ?_ (all_cons ?_ (all_cons ?_ (Av)))
   ·skip
    refine Jx [(0,iv p0),(1,iv p1),(2,iv p2),(3,iv p3),(5,pb cb5),(6,pb cb6),(29,.agg (vF Value.bool a0).toArray),(45,.agg (vF Value.bool a1).toArray)] hF kr ⟨kr⟩ (B8 F a5 a6 p4 _ aE (Ci w) w (Aj w)) ⟨kr⟩ ?_
    intro w a hx hF
    replace hS:=hS.later hx
    refine ⟨⟨St.pick [1,2,3] (by decide) hS,(hS.frz (i:=0) rfl hlow)⟩,?_⟩
    refine WT.s [] [32,33] kr kr ?_
    refine WRun.fin ?_
    refine all_cons ?_ (all_cons ?_ (Av))
    ·skip
     refine Bu (t:=85) (fun aP=>[(0,iv p0),(1,iv p1),(2,iv p2),(3,iv p3),(5,pb cb5),(6,pb cb6),(12,pb aP),(29,.agg (vF Value.bool a0).toArray),(45,.agg (vF Value.bool a1).toArray)]) (vF Value.bool (default:A7 Bool 80)).toArray hF hS kr ⟨kr⟩ kr (fun _=>⟨kr⟩) fun aP w a hF hS=>⟨⟨St.pick [2,3,4] (by decide) hS,(hS.frz (i:=1) rfl hlow)⟩,?_⟩
     refine WT.s [] [33] kr kr ?_
     refine WRun.fin ?_
     refine all_cons ?_ (Av)
     refine Bu (t:=85) (fun aV=>[(0,iv p0),(1,iv p1),(2,iv p2),(3,iv p3),(5,pb cb5),(6,pb cb6),(12,pb aP),(13,pb aV),(29,.agg (vF Value.bool a0).toArray),(45,.agg (vF Value.bool a1).toArray)]) (vF Value.bool (default:A7 Bool 80)).toArray hF hS kr ⟨kr⟩ kr (fun _=>⟨kr⟩) fun aV w a hF hS=>⟨⟨St.pick [3,4,5] (by decide) hS,(hS.frz (i:=2) rfl hlow)⟩,?_⟩
     refine WT.z [] kr ?_
     refine WRun.fin ?_
     replace hS:St w0 (blk aV 85 (vF Value.bool (default:A7 Bool 80)).toArray::blk aP 85 (vF Value.bool (default:A7 Bool 80)).toArray::fz w0 μ::blk cb5 92 #[sv ad1 c0_ cap2]::A9 84 85 80 (vF Value.bool) ad1 c0_.length cap2 hd3 css4::blk cb6 4 #[.bool c1_]::T_) w:=hS
     exact ⟨aP,aV,hF.sub kr,St.pickT (A:=[blk aV 85 (vF Value.bool (default:A7 Bool 80)).toArray,blk aP 85 (vF Value.bool (default:A7 Bool 80)).toArray,fz w0 μ,blk cb5 92 #[sv ad1 c0_ cap2],A9 84 85 80 (vF Value.bool) ad1 c0_.length cap2 hd3 css4,blk cb6 4 #[.bool c1_]]) (T:=T_) [1,0,2,3,4,5] (by decide) hS⟩
    ·skip
     refine Bu (t:=85) (fun aQ=>[(0,iv p0),(1,iv p1),(2,iv p2),(3,iv p3),(5,pb cb5),(6,pb cb6),(13,pb aQ),(29,.agg (vF Value.bool a0).toArray),(45,.agg (vF Value.bool a1).toArray)]) (vF Value.bool (default:A7 Bool 80)).toArray hF hS kr ⟨kr⟩ kr (fun _=>⟨kr⟩) fun aQ w a hF hS=>⟨⟨St.pick [2,3,4] (by decide) hS,(hS.frz (i:=1) rfl hlow)⟩,?_⟩
     refine WT.s [] [32] kr kr ?_
     refine WRun.fin ?_
     refine all_cons ?_ (Av)
     refine Bu (t:=85) (fun aW=>[(0,iv p0),(1,iv p1),(2,iv p2),(3,iv p3),(5,pb cb5),(6,pb cb6),(12,pb aW),(13,pb aQ),(29,.agg (vF Value.bool a0).toArray),(45,.agg (vF Value.bool a1).toArray)]) (vF Value.bool (default:A7 Bool 80)).toArray hF hS kr ⟨kr⟩ kr (fun _=>⟨kr⟩) fun aW w a hF hS=>⟨⟨St.pick [3,4,5] (by decide) hS,(hS.frz (i:=2) rfl hlow)⟩,?_⟩
     refine WT.z [] kr ?_
     refine WRun.fin ?_
     replace hS:St w0 (blk aW 85 (vF Value.bool (default:A7 Bool 80)).toArray::blk aQ 85 (vF Value.bool (default:A7 Bool 80)).toArray::fz w0 μ::blk cb5 92 #[sv ad1 c0_ cap2]::A9 84 85 80 (vF Value.bool) ad1 c0_.length cap2 hd3 css4::blk cb6 4 #[.bool c1_]::T_) w:=hS
     exact ⟨aW,aQ,hF.sub kr,St.pickT (A:=[blk aW 85 (vF Value.bool (default:A7 Bool 80)).toArray,blk aQ 85 (vF Value.bool (default:A7 Bool 80)).toArray,fz w0 μ,blk cb5 92 #[sv ad1 c0_ cap2],A9 84 85 80 (vF Value.bool) ad1 c0_.length cap2 hd3 css4,blk cb6 4 #[.bool c1_]]) (T:=T_) [0,1,2,3,4,5] (by decide) hS⟩
   ·skip
    refine Bu (t:=85) (fun aA=>[(0,iv p0),(1,iv p1),(2,iv p2),(3,iv p3),(5,pb cb5),(6,pb cb6),(12,pb aA),(29,.agg (vF Value.bool a0).toArray),(36,.agg (vF Value.bool a5).toArray),(43,.agg (vF Value.bool a6).toArray),(44,iv p4)]) (vF Value.bool (default:A7 Bool 80)).toArray hF hS kr ⟨kr⟩ kr (fun _=>⟨kr⟩) fun aA w a hF hS=>⟨⟨St.pick [2,3,4] (by decide) hS,(hS.frz (i:=1) rfl hlow)⟩,?_⟩
    refine WT.s [] [31,33] kr kr ?_
    refine WRun.fin ?_
    refine all_cons ?_ (all_cons ?_ (Av))
    ·skip
     refine Jx [(0,iv p0),(1,iv p1),(2,iv p2),(3,iv p3),(5,pb cb5),(6,pb cb6),(12,pb aA),(29,.agg (vF Value.bool a0).toArray),(45,.agg (vF Value.bool a1).toArray)] hF kr ⟨kr⟩ (B8 F a5 a6 p4 _ aE (Ci w) w (Aj w)) ⟨kr⟩ ?_
     intro w a hx hF
     replace hS:=hS.later hx
     refine ⟨⟨St.pick [2,3,4] (by decide) hS,(hS.frz (i:=1) rfl hlow)⟩,?_⟩
     refine WT.s [] [33] kr kr ?_
     refine WRun.fin ?_
     refine all_cons ?_ (Av)
     refine Bu (t:=85) (fun aX=>[(0,iv p0),(1,iv p1),(2,iv p2),(3,iv p3),(5,pb cb5),(6,pb cb6),(12,pb aA),(13,pb aX),(29,.agg (vF Value.bool a0).toArray),(45,.agg (vF Value.bool a1).toArray)]) (vF Value.bool (default:A7 Bool 80)).toArray hF hS kr ⟨kr⟩ kr (fun _=>⟨kr⟩) fun aX w a hF hS=>⟨⟨St.pick [3,4,5] (by decide) hS,(hS.frz (i:=2) rfl hlow)⟩,?_⟩
     refine WT.z [] kr ?_
     refine WRun.fin ?_
     replace hS:St w0 (blk aX 85 (vF Value.bool (default:A7 Bool 80)).toArray::blk aA 85 (vF Value.bool (default:A7 Bool 80)).toArray::fz w0 μ::blk cb5 92 #[sv ad1 c0_ cap2]::A9 84 85 80 (vF Value.bool) ad1 c0_.length cap2 hd3 css4::blk cb6 4 #[.bool c1_]::T_) w:=hS
     exact ⟨aA,aX,hF.sub kr,St.pickT (A:=[blk aX 85 (vF Value.bool (default:A7 Bool 80)).toArray,blk aA 85 (vF Value.bool (default:A7 Bool 80)).toArray,fz w0 μ,blk cb5 92 #[sv ad1 c0_ cap2],A9 84 85 80 (vF Value.bool) ad1 c0_.length cap2 hd3 css4,blk cb6 4 #[.bool c1_]]) (T:=T_) [1,0,2,3,4,5] (by decide) hS⟩
    ·skip
     refine Bu (t:=85) (fun aR=>[(0,iv p0),(1,iv p1),(2,iv p2),(3,iv p3),(5,pb cb5),(6,pb cb6),(12,pb aA),(13,pb aR),(29,.agg (vF Value.bool a0).toArray),(36,.agg (vF Value.bool a5).toArray),(43,.agg (vF Value.bool a6).toArray),(44,iv p4)]) (vF Value.bool (default:A7 Bool 80)).toArray hF hS kr ⟨kr⟩ kr (fun _=>⟨kr⟩) fun aR w a hF hS=>⟨⟨St.pick [3,4,5] (by decide) hS,(hS.frz (i:=2) rfl hlow)⟩,?_⟩
     refine WT.s [] [31] kr kr ?_
     refine WRun.fin ?_
     refine all_cons ?_ (Av)
     refine Jx [(0,iv p0),(1,iv p1),(2,iv p2),(3,iv p3),(5,pb cb5),(6,pb cb6),(12,pb aA),(13,pb aR),(29,.agg (vF Value.bool a0).toArray),(45,.agg (vF Value.bool a1).toArray)] hF kr ⟨kr⟩ (B8 F a5 a6 p4 _ aE (Ci w) w (Aj w)) ⟨kr⟩ ?_
     intro w a hx hF
     replace hS:=hS.later hx
     refine ⟨⟨St.pick [3,4,5] (by decide) hS,(hS.frz (i:=2) rfl hlow)⟩,?_⟩
     refine WT.z [] kr ?_
     refine WRun.fin ?_
     replace hS:St w0 (blk aR 85 (vF Value.bool (default:A7 Bool 80)).toArray::blk aA 85 (vF Value.bool (default:A7 Bool 80)).toArray::fz w0 μ::blk cb5 92 #[sv ad1 c0_ cap2]::A9 84 85 80 (vF Value.bool) ad1 c0_.length cap2 hd3 css4::blk cb6 4 #[.bool c1_]::T_) w:=hS
     exact ⟨aA,aR,hF.sub kr,St.pickT (A:=[blk aR 85 (vF Value.bool (default:A7 Bool 80)).toArray,blk aA 85 (vF Value.bool (default:A7 Bool 80)).toArray,fz w0 μ,blk cb5 92 #[sv ad1 c0_ cap2],A9 84 85 80 (vF Value.bool) ad1 c0_.length cap2 hd3 css4,blk cb6 4 #[.bool c1_]]) (T:=T_) [1,0,2,3,4,5] (by decide) hS⟩
   ·skip
    refine Bu (t:=85) (fun aB=>[(0,iv p0),(1,iv p1),(2,iv p2),(3,iv p3),(5,pb cb5),(6,pb cb6),(13,pb aB),(29,.agg (vF Value.bool a0).toArray),(36,.agg (vF Value.bool a5).toArray),(43,.agg (vF Value.bool a6).toArray),(44,iv p4)]) (vF Value.bool (default:A7 Bool 80)).toArray hF hS kr ⟨kr⟩ kr (fun _=>⟨kr⟩) fun aB w a hF hS=>⟨⟨St.pick [2,3,4] (by decide) hS,(hS.frz (i:=1) rfl hlow)⟩,?_⟩
    refine WT.s [] [31,32] kr kr ?_
    refine WRun.fin ?_
    refine all_cons ?_ (all_cons ?_ (Av))
    ·skip
     refine Jx [(0,iv p0),(1,iv p1),(2,iv p2),(3,iv p3),(5,pb cb5),(6,pb cb6),(13,pb aB),(29,.agg (vF Value.bool a0).toArray),(45,.agg (vF Value.bool a1).toArray)] hF kr ⟨kr⟩ (B8 F a5 a6 p4 _ aE (Ci w) w (Aj w)) ⟨kr⟩ ?_
     intro w a hx hF
     replace hS:=hS.later hx
     refine ⟨⟨St.pick [2,3,4] (by decide) hS,(hS.frz (i:=1) rfl hlow)⟩,?_⟩
     refine WT.s [] [32] kr kr ?_
     refine WRun.fin ?_
     refine all_cons ?_ (Av)
     refine Bu (t:=85) (fun aY=>[(0,iv p0),(1,iv p1),(2,iv p2),(3,iv p3),(5,pb cb5),(6,pb cb6),(12,pb aY),(13,pb aB),(29,.agg (vF Value.bool a0).toArray),(45,.agg (vF Value.bool a1).toArray)]) (vF Value.bool (default:A7 Bool 80)).toArray hF hS kr ⟨kr⟩ kr (fun _=>⟨kr⟩) fun aY w a hF hS=>⟨⟨St.pick [3,4,5] (by decide) hS,(hS.frz (i:=2) rfl hlow)⟩,?_⟩
     refine WT.z [] kr ?_
     refine WRun.fin ?_
     replace hS:St w0 (blk aY 85 (vF Value.bool (default:A7 Bool 80)).toArray::blk aB 85 (vF Value.bool (default:A7 Bool 80)).toArray::fz w0 μ::blk cb5 92 #[sv ad1 c0_ cap2]::A9 84 85 80 (vF Value.bool) ad1 c0_.length cap2 hd3 css4::blk cb6 4 #[.bool c1_]::T_) w:=hS
     exact ⟨aY,aB,hF.sub kr,St.pickT (A:=[blk aY 85 (vF Value.bool (default:A7 Bool 80)).toArray,blk aB 85 (vF Value.bool (default:A7 Bool 80)).toArray,fz w0 μ,blk cb5 92 #[sv ad1 c0_ cap2],A9 84 85 80 (vF Value.bool) ad1 c0_.length cap2 hd3 css4,blk cb6 4 #[.bool c1_]]) (T:=T_) [0,1,2,3,4,5] (by decide) hS⟩
    ·skip
     refine Bu (t:=85) (fun aS=>[(0,iv p0),(1,iv p1),(2,iv p2),(3,iv p3),(5,pb cb5),(6,pb cb6),(12,pb aS),(13,pb aB),(29,.agg (vF Value.bool a0).toArray),(36,.agg (vF Value.bool a5).toArray),(43,.agg (vF Value.bool a6).toArray),(44,iv p4)]) (vF Value.bool (default:A7 Bool 80)).toArray hF hS kr ⟨kr⟩ kr (fun _=>⟨kr⟩) fun aS w a hF hS=>⟨⟨St.pick [3,4,5] (by decide) hS,(hS.frz (i:=2) rfl hlow)⟩,?_⟩
     refine WT.s [] [31] kr kr ?_
     refine WRun.fin ?_
     refine all_cons ?_ (Av)
     refine Jx [(0,iv p0),(1,iv p1),(2,iv p2),(3,iv p3),(5,pb cb5),(6,pb cb6),(12,pb aS),(13,pb aB),(29,.agg (vF Value.bool a0).toArray),(45,.agg (vF Value.bool a1).toArray)] hF kr ⟨kr⟩ (B8 F a5 a6 p4 _ aE (Ci w) w (Aj w)) ⟨kr⟩ ?_
     intro w a hx hF
     replace hS:=hS.later hx
     refine ⟨⟨St.pick [3,4,5] (by decide) hS,(hS.frz (i:=2) rfl hlow)⟩,?_⟩
     refine WT.z [] kr ?_
     refine WRun.fin ?_
     replace hS:St w0 (blk aS 85 (vF Value.bool (default:A7 Bool 80)).toArray::blk aB 85 (vF Value.bool (default:A7 Bool 80)).toArray::fz w0 μ::blk cb5 92 #[sv ad1 c0_ cap2]::A9 84 85 80 (vF Value.bool) ad1 c0_.length cap2 hd3 css4::blk cb6 4 #[.bool c1_]::T_) w:=hS
     exact ⟨aS,aB,hF.sub kr,St.pickT (A:=[blk aS 85 (vF Value.bool (default:A7 Bool 80)).toArray,blk aB 85 (vF Value.bool (default:A7 Bool 80)).toArray,fz w0 μ,blk cb5 92 #[sv ad1 c0_ cap2],A9 84 85 80 (vF Value.bool) ad1 c0_.length cap2 hd3 css4,blk cb6 4 #[.bool c1_]]) (T:=T_) [0,1,2,3,4,5] (by decide) hS⟩
  ·skip
   refine Bu (t:=85) (fun a7=>[(0,iv p0),(1,iv p1),(2,iv p2),(3,iv p3),(5,pb cb5),(6,pb cb6),(12,pb a7),(20,.agg (vF Value.bool aC).toArray),(27,.agg (vF Value.bool aD).toArray),(28,iv p4),(36,.agg (vF Value.bool a5).toArray),(43,.agg (vF Value.bool a6).toArray),(44,iv p4)]) (vF Value.bool (default:A7 Bool 80)).toArray hF hS kr ⟨kr⟩ kr (fun _=>⟨kr⟩) fun a7 w a hF hS=>⟨⟨St.pick [2,3,4] (by decide) hS,(hS.frz (i:=1) rfl hlow)⟩,?_⟩
   refine WT.s [] [15,33] kr kr ?_
   refine WRun.fin ?_
   refine all_cons ?_ (all_cons ?_ (Av))
   ·skip
    refine Jx [(0,iv p0),(1,iv p1),(2,iv p2),(3,iv p3),(5,pb cb5),(6,pb cb6),(12,pb a7),(29,.agg (vF Value.bool a0).toArray),(36,.agg (vF Value.bool a5).toArray),(43,.agg (vF Value.bool a6).toArray),(44,iv p4)] hF kr ⟨kr⟩ (B8 F aC aD p4 _ b1 (Ci w) w (Aj w)) ⟨kr⟩ ?_
    intro w a hx hF
    replace hS:=hS.later hx
    refine ⟨⟨St.pick [2,3,4] (by decide) hS,(hS.frz (i:=1) rfl hlow)⟩,?_⟩
    refine WT.s [] [31,33] kr kr ?_
    refine WRun.fin ?_
    refine all_cons ?_ (all_cons ?_ (Av))
    ·skip
     refine Jx [(0,iv p0),(1,iv p1),(2,iv p2),(3,iv p3),(5,pb cb5),(6,pb cb6),(12,pb a7),(29,.agg (vF Value.bool a0).toArray),(45,.agg (vF Value.bool a1).toArray)] hF kr ⟨kr⟩ (B8 F a5 a6 p4 _ aE (Ci w) w (Aj w)) ⟨kr⟩ ?_
     intro w a hx hF
     replace hS:=hS.later hx
     refine ⟨⟨St.pick [2,3,4] (by decide) hS,(hS.frz (i:=1) rfl hlow)⟩,?_⟩
     refine WT.s [] [33] kr kr ?_
     refine WRun.fin ?_
     refine all_cons ?_ (Av)
     refine Bu (t:=85) (fun aZ=>[(0,iv p0),(1,iv p1),(2,iv p2),(3,iv p3),(5,pb cb5),(6,pb cb6),(12,pb a7),(13,pb aZ),(29,.agg (vF Value.bool a0).toArray),(45,.agg (vF Value.bool a1).toArray)]) (vF Value.bool (default:A7 Bool 80)).toArray hF hS kr ⟨kr⟩ kr (fun _=>⟨kr⟩) fun aZ w a hF hS=>⟨⟨St.pick [3,4,5] (by decide) hS,(hS.frz (i:=2) rfl hlow)⟩,?_⟩
     refine WT.z [] kr ?_
     refine WRun.fin ?_
     replace hS:St w0 (blk aZ 85 (vF Value.bool (default:A7 Bool 80)).toArray::blk a7 85 (vF Value.bool (default:A7 Bool 80)).toArray::fz w0 μ::blk cb5 92 #[sv ad1 c0_ cap2]::A9 84 85 80 (vF Value.bool) ad1 c0_.length cap2 hd3 css4::blk cb6 4 #[.bool c1_]::T_) w:=hS
     exact ⟨a7,aZ,hF.sub kr,St.pickT (A:=[blk aZ 85 (vF Value.bool (default:A7 Bool 80)).toArray,blk a7 85 (vF Value.bool (default:A7 Bool 80)).toArray,fz w0 μ,blk cb5 92 #[sv ad1 c0_ cap2],A9 84 85 80 (vF Value.bool) ad1 c0_.length cap2 hd3 css4,blk cb6 4 #[.bool c1_]]) (T:=T_) [1,0,2,3,4,5] (by decide) hS⟩
    ·skip
     refine Bu (t:=85) (fun aT=>[(0,iv p0),(1,iv p1),(2,iv p2),(3,iv p3),(5,pb cb5),(6,pb cb6),(12,pb a7),(13,pb aT),(29,.agg (vF Value.bool a0).toArray),(36,.agg (vF Value.bool a5).toArray),(43,.agg (vF Value.bool a6).toArray),(44,iv p4)]) (vF Value.bool (default:A7 Bool 80)).toArray hF hS kr ⟨kr⟩ kr (fun _=>⟨kr⟩) fun aT w a hF hS=>⟨⟨St.pick [3,4,5] (by decide) hS,(hS.frz (i:=2) rfl hlow)⟩,?_⟩
     refine WT.s [] [31] kr kr ?_
     refine WRun.fin ?_
     refine all_cons ?_ (Av)
     refine Jx [(0,iv p0),(1,iv p1),(2,iv p2),(3,iv p3),(5,pb cb5),(6,pb cb6),(12,pb a7),(13,pb aT),(29,.agg (vF Value.bool a0).toArray),(45,.agg (vF Value.bool a1).toArray)] hF kr ⟨kr⟩ (B8 F a5 a6 p4 _ aE (Ci w) w (Aj w)) ⟨kr⟩ ?_
     intro w a hx hF
     replace hS:=hS.later hx
     refine ⟨⟨St.pick [3,4,5] (by decide) hS,(hS.frz (i:=2) rfl hlow)⟩,?_⟩
     refine WT.z [] kr ?_
     refine WRun.fin ?_
     replace hS:St w0 (blk aT 85 (vF Value.bool (default:A7 Bool 80)).toArray::blk a7 85 (vF Value.bool (default:A7 Bool 80)).toArray::fz w0 μ::blk cb5 92 #[sv ad1 c0_ cap2]::A9 84 85 80 (vF Value.bool) ad1 c0_.length cap2 hd3 css4::blk cb6 4 #[.bool c1_]::T_) w:=hS
     exact ⟨a7,aT,hF.sub kr,St.pickT (A:=[blk aT 85 (vF Value.bool (default:A7 Bool 80)).toArray,blk a7 85 (vF Value.bool (default:A7 Bool 80)).toArray,fz w0 μ,blk cb5 92 #[sv ad1 c0_ cap2],A9 84 85 80 (vF Value.bool) ad1 c0_.length cap2 hd3 css4,blk cb6 4 #[.bool c1_]]) (T:=T_) [1,0,2,3,4,5] (by decide) hS⟩
   ·skip
    refine Bu (t:=85) (fun aJ=>[(0,iv p0),(1,iv p1),(2,iv p2),(3,iv p3),(5,pb cb5),(6,pb cb6),(12,pb a7),(13,pb aJ),(20,.agg (vF Value.bool aC).toArray),(27,.agg (vF Value.bool aD).toArray),(28,iv p4),(36,.agg (vF Value.bool a5).toArray),(43,.agg (vF Value.bool a6).toArray),(44,iv p4)]) (vF Value.bool (default:A7 Bool 80)).toArray hF hS kr ⟨kr⟩ kr (fun _=>⟨kr⟩) fun aJ w a hF hS=>⟨⟨St.pick [3,4,5] (by decide) hS,(hS.frz (i:=2) rfl hlow)⟩,?_⟩
    refine WT.s [] [15] kr kr ?_
    refine WRun.fin ?_
    refine all_cons ?_ (Av)
    refine Jx [(0,iv p0),(1,iv p1),(2,iv p2),(3,iv p3),(5,pb cb5),(6,pb cb6),(12,pb a7),(13,pb aJ),(29,.agg (vF Value.bool a0).toArray),(36,.agg (vF Value.bool a5).toArray),(43,.agg (vF Value.bool a6).toArray),(44,iv p4)] hF kr ⟨kr⟩ (B8 F aC aD p4 _ b1 (Ci w) w (Aj w)) ⟨kr⟩ ?_
    intro w a hx hF
    replace hS:=hS.later hx
    refine ⟨⟨St.pick [3,4,5] (by decide) hS,(hS.frz (i:=2) rfl hlow)⟩,?_⟩
    refine WT.s [] [31] kr kr ?_
    refine WRun.fin ?_
    refine all_cons ?_ (Av)
    refine Jx [(0,iv p0),(1,iv p1),(2,iv p2),(3,iv p3),(5,pb cb5),(6,pb cb6),(12,pb a7),(13,pb aJ),(29,.agg (vF Value.bool a0).toArray),(45,.agg (vF Value.bool a1).toArray)] hF kr ⟨kr⟩ (B8 F a5 a6 p4 _ aE (Ci w) w (Aj w)) ⟨kr⟩ ?_
    intro w a hx hF
    replace hS:=hS.later hx
    refine ⟨⟨St.pick [3,4,5] (by decide) hS,(hS.frz (i:=2) rfl hlow)⟩,?_⟩
    refine WT.z [] kr ?_
    refine WRun.fin ?_
    replace hS:St w0 (blk aJ 85 (vF Value.bool (default:A7 Bool 80)).toArray::blk a7 85 (vF Value.bool (default:A7 Bool 80)).toArray::fz w0 μ::blk cb5 92 #[sv ad1 c0_ cap2]::A9 84 85 80 (vF Value.bool) ad1 c0_.length cap2 hd3 css4::blk cb6 4 #[.bool c1_]::T_) w:=hS
    exact ⟨a7,aJ,hF.sub kr,St.pickT (A:=[blk aJ 85 (vF Value.bool (default:A7 Bool 80)).toArray,blk a7 85 (vF Value.bool (default:A7 Bool 80)).toArray,fz w0 μ,blk cb5 92 #[sv ad1 c0_ cap2],A9 84 85 80 (vF Value.bool) ad1 c0_.length cap2 hd3 css4,blk cb6 4 #[.bool c1_]]) (T:=T_) [1,0,2,3,4,5] (by decide) hS⟩
  ·skip
   refine Bu (t:=85) (fun a8=>[(0,iv p0),(1,iv p1),(2,iv p2),(3,iv p3),(5,pb cb5),(6,pb cb6),(13,pb a8),(20,.agg (vF Value.bool aC).toArray),(27,.agg (vF Value.bool aD).toArray),(28,iv p4),(36,.agg (vF Value.bool a5).toArray),(43,.agg (vF Value.bool a6).toArray),(44,iv p4)]) (vF Value.bool (default:A7 Bool 80)).toArray hF hS kr ⟨kr⟩ kr (fun _=>⟨kr⟩) fun a8 w a hF hS=>⟨⟨St.pick [2,3,4] (by decide) hS,(hS.frz (i:=1) rfl hlow)⟩,?_⟩
   refine WT.s [] [15,32] kr kr ?_
   refine WRun.fin ?_
   refine all_cons ?_ (all_cons ?_ (Av))
   ·skip
    refine Jx [(0,iv p0),(1,iv p1),(2,iv p2),(3,iv p3),(5,pb cb5),(6,pb cb6),(13,pb a8),(29,.agg (vF Value.bool a0).toArray),(36,.agg (vF Value.bool a5).toArray),(43,.agg (vF Value.bool a6).toArray),(44,iv p4)] hF kr ⟨kr⟩ (B8 F aC aD p4 _ b1 (Ci w) w (Aj w)) ⟨kr⟩ ?_
    intro w a hx hF
    replace hS:=hS.later hx
    refine ⟨⟨St.pick [2,3,4] (by decide) hS,(hS.frz (i:=1) rfl hlow)⟩,?_⟩
    refine WT.s [] [31,32] kr kr ?_
    refine WRun.fin ?_
    refine all_cons ?_ (all_cons ?_ (Av))
    ·skip
     refine Jx [(0,iv p0),(1,iv p1),(2,iv p2),(3,iv p3),(5,pb cb5),(6,pb cb6),(13,pb a8),(29,.agg (vF Value.bool a0).toArray),(45,.agg (vF Value.bool a1).toArray)] hF kr ⟨kr⟩ (B8 F a5 a6 p4 _ aE (Ci w) w (Aj w)) ⟨kr⟩ ?_
     intro w a hx hF
     replace hS:=hS.later hx
     refine ⟨⟨St.pick [2,3,4] (by decide) hS,(hS.frz (i:=1) rfl hlow)⟩,?_⟩
     refine WT.s [] [32] kr kr ?_
     refine WRun.fin ?_
     refine all_cons ?_ (Av)
     refine Bu (t:=85) (fun b0=>[(0,iv p0),(1,iv p1),(2,iv p2),(3,iv p3),(5,pb cb5),(6,pb cb6),(12,pb b0),(13,pb a8),(29,.agg (vF Value.bool a0).toArray),(45,.agg (vF Value.bool a1).toArray)]) (vF Value.bool (default:A7 Bool 80)).toArray hF hS kr ⟨kr⟩ kr (fun _=>⟨kr⟩) fun b0 w a hF hS=>⟨⟨St.pick [3,4,5] (by decide) hS,(hS.frz (i:=2) rfl hlow)⟩,?_⟩
     refine WT.z [] kr ?_
     refine WRun.fin ?_
     replace hS:St w0 (blk b0 85 (vF Value.bool (default:A7 Bool 80)).toArray::blk a8 85 (vF Value.bool (default:A7 Bool 80)).toArray::fz w0 μ::blk cb5 92 #[sv ad1 c0_ cap2]::A9 84 85 80 (vF Value.bool) ad1 c0_.length cap2 hd3 css4::blk cb6 4 #[.bool c1_]::T_) w:=hS
     exact ⟨b0,a8,hF.sub kr,St.pickT (A:=[blk b0 85 (vF Value.bool (default:A7 Bool 80)).toArray,blk a8 85 (vF Value.bool (default:A7 Bool 80)).toArray,fz w0 μ,blk cb5 92 #[sv ad1 c0_ cap2],A9 84 85 80 (vF Value.bool) ad1 c0_.length cap2 hd3 css4,blk cb6 4 #[.bool c1_]]) (T:=T_) [0,1,2,3,4,5] (by decide) hS⟩
    ·skip
     refine Bu (t:=85) (fun aU=>[(0,iv p0),(1,iv p1),(2,iv p2),(3,iv p3),(5,pb cb5),(6,pb cb6),(12,pb aU),(13,pb a8),(29,.agg (vF Value.bool a0).toArray),(36,.agg (vF Value.bool a5).toArray),(43,.agg (vF Value.bool a6).toArray),(44,iv p4)]) (vF Value.bool (default:A7 Bool 80)).toArray hF hS kr ⟨kr⟩ kr (fun _=>⟨kr⟩) fun aU w a hF hS=>⟨⟨St.pick [3,4,5] (by decide) hS,(hS.frz (i:=2) rfl hlow)⟩,?_⟩
     refine WT.s [] [31] kr kr ?_
     refine WRun.fin ?_
     refine all_cons ?_ (Av)
     refine Jx [(0,iv p0),(1,iv p1),(2,iv p2),(3,iv p3),(5,pb cb5),(6,pb cb6),(12,pb aU),(13,pb a8),(29,.agg (vF Value.bool a0).toArray),(45,.agg (vF Value.bool a1).toArray)] hF kr ⟨kr⟩ (B8 F a5 a6 p4 _ aE (Ci w) w (Aj w)) ⟨kr⟩ ?_
     intro w a hx hF
     replace hS:=hS.later hx
     refine ⟨⟨St.pick [3,4,5] (by decide) hS,(hS.frz (i:=2) rfl hlow)⟩,?_⟩
     refine WT.z [] kr ?_
     refine WRun.fin ?_
     replace hS:St w0 (blk aU 85 (vF Value.bool (default:A7 Bool 80)).toArray::blk a8 85 (vF Value.bool (default:A7 Bool 80)).toArray::fz w0 μ::blk cb5 92 #[sv ad1 c0_ cap2]::A9 84 85 80 (vF Value.bool) ad1 c0_.length cap2 hd3 css4::blk cb6 4 #[.bool c1_]::T_) w:=hS
     exact ⟨aU,a8,hF.sub kr,St.pickT (A:=[blk aU 85 (vF Value.bool (default:A7 Bool 80)).toArray,blk a8 85 (vF Value.bool (default:A7 Bool 80)).toArray,fz w0 μ,blk cb5 92 #[sv ad1 c0_ cap2],A9 84 85 80 (vF Value.bool) ad1 c0_.length cap2 hd3 css4,blk cb6 4 #[.bool c1_]]) (T:=T_) [0,1,2,3,4,5] (by decide) hS⟩
   ·skip
    refine Bu (t:=85) (fun aK=>[(0,iv p0),(1,iv p1),(2,iv p2),(3,iv p3),(5,pb cb5),(6,pb cb6),(12,pb aK),(13,pb a8),(20,.agg (vF Value.bool aC).toArray),(27,.agg (vF Value.bool aD).toArray),(28,iv p4),(36,.agg (vF Value.bool a5).toArray),(43,.agg (vF Value.bool a6).toArray),(44,iv p4)]) (vF Value.bool (default:A7 Bool 80)).toArray hF hS kr ⟨kr⟩ kr (fun _=>⟨kr⟩) fun aK w a hF hS=>⟨⟨St.pick [3,4,5] (by decide) hS,(hS.frz (i:=2) rfl hlow)⟩,?_⟩
    refine WT.s [] [15] kr kr ?_
    refine WRun.fin ?_
    refine all_cons ?_ (Av)
    refine Jx [(0,iv p0),(1,iv p1),(2,iv p2),(3,iv p3),(5,pb cb5),(6,pb cb6),(12,pb aK),(13,pb a8),(29,.agg (vF Value.bool a0).toArray),(36,.agg (vF Value.bool a5).toArray),(43,.agg (vF Value.bool a6).toArray),(44,iv p4)] hF kr ⟨kr⟩ (B8 F aC aD p4 _ b1 (Ci w) w (Aj w)) ⟨kr⟩ ?_
    intro w a hx hF
    replace hS:=hS.later hx
    refine ⟨⟨St.pick [3,4,5] (by decide) hS,(hS.frz (i:=2) rfl hlow)⟩,?_⟩
    refine WT.s [] [31] kr kr ?_
    refine WRun.fin ?_
    refine all_cons ?_ (Av)
    refine Jx [(0,iv p0),(1,iv p1),(2,iv p2),(3,iv p3),(5,pb cb5),(6,pb cb6),(12,pb aK),(13,pb a8),(29,.agg (vF Value.bool a0).toArray),(45,.agg (vF Value.bool a1).toArray)] hF kr ⟨kr⟩ (B8 F a5 a6 p4 _ aE (Ci w) w (Aj w)) ⟨kr⟩ ?_
    intro w a hx hF
    replace hS:=hS.later hx
    refine ⟨⟨St.pick [3,4,5] (by decide) hS,(hS.frz (i:=2) rfl hlow)⟩,?_⟩
    refine WT.z [] kr ?_
    refine WRun.fin ?_
    replace hS:St w0 (blk aK 85 (vF Value.bool (default:A7 Bool 80)).toArray::blk a8 85 (vF Value.bool (default:A7 Bool 80)).toArray::fz w0 μ::blk cb5 92 #[sv ad1 c0_ cap2]::A9 84 85 80 (vF Value.bool) ad1 c0_.length cap2 hd3 css4::blk cb6 4 #[.bool c1_]::T_) w:=hS
    exact ⟨aK,a8,hF.sub kr,St.pickT (A:=[blk aK 85 (vF Value.bool (default:A7 Bool 80)).toArray,blk a8 85 (vF Value.bool (default:A7 Bool 80)).toArray,fz w0 μ,blk cb5 92 #[sv ad1 c0_ cap2],A9 84 85 80 (vF Value.bool) ad1 c0_.length cap2 hd3 css4,blk cb6 4 #[.bool c1_]]) (T:=T_) [0,1,2,3,4,5] (by decide) hS⟩
 rintro a w ⟨a3,a4,hF,hS⟩
 refine SK.wi (A0o (f:=Value.bool) (y:=a0) (t:=85) [(0,iv p0),(1,iv p1),(2,iv p2),(3,iv p3),(5,pb cb5),(6,pb cb6),(12,pb a3),(13,pb a4),(45,.agg (vF Value.bool a1).toArray)] 0 (fun _=>rfl) hF hS rfl kr ⟨kr⟩ kr ⟨kr⟩ fun w a hF hS=>?_)
 refine SK.wi (A0o (f:=Value.bool) (y:=a1) (t:=85) [(0,iv p0),(1,iv p1),(2,iv p2),(3,iv p3),(5,pb cb5),(6,pb cb6),(12,pb a3),(13,pb a4)] 1 (fun _=>rfl) hF hS rfl kr ⟨kr⟩ kr ⟨kr⟩ fun w a hF hS=>?_)
 refine wfn rfl ?_
 refine Ba ?_
 rcases Bool.eq_false_or_eq_true (c1_) with a9|a9
 ·replace h:=Al h a9
  rcases Bool.eq_false_or_eq_true ((bif c1_ then true else false)) with aF|aF
  ·replace h:=Al h aF
   refine L8 (obs:=[.run [] (Instr.loadAt 4 (pb cb6)) (.bool c1_),.run [⟨47,false,c1_⟩] (Instr.loadAt 85 (pb a3)) (.agg (vF Value.bool (default:A7 Bool 80)).toArray),.run [⟨47,false,c1_⟩] (Instr.loadAt 92 (pb cb5)) (.slice none 0 0),.run [⟨47,false,c1_⟩] (Instr.indexAt 92 (.slice none 0 0) (iv p0)) (pb 0),.run [⟨47,false,c1_⟩] (Instr.loadAt 84 (pb 0)) (.slice none 0 0),.run [⟨47,false,c1_⟩] (Instr.indexAt 84 (.slice none 0 0) (iv p1)) (pb 0),.run [⟨47,false,c1_⟩] (Instr.loadAt 85 (pb 0)) (.agg (vF Value.bool (default:A7 Bool 80)).toArray),.run [⟨47,false,c1_⟩] (eqS .neq 85 (vF Value.bool (default:A7 Bool 80)).toArray (vF Value.bool (default:A7 Bool 80)).toArray) (.bool false),.run [⟨58,false,(bif c1_ then true else false)⟩] (Instr.loadAt 85 (pb a4)) (.agg (vF Value.bool (default:A7 Bool 80)).toArray),.run [⟨58,false,(bif c1_ then true else false)⟩] (Instr.loadAt 92 (pb cb5)) (.slice none 0 0),.run [⟨58,false,(bif c1_ then true else false)⟩] (Instr.indexAt 92 (.slice none 0 0) (iv p2)) (pb 0),.run [⟨58,false,(bif c1_ then true else false)⟩] (Instr.loadAt 84 (pb 0)) (.slice none 0 0),.run [⟨58,false,(bif c1_ then true else false)⟩] (Instr.indexAt 84 (.slice none 0 0) (iv p3)) (pb 0),.run [⟨58,false,(bif c1_ then true else false)⟩] (Instr.loadAt 85 (pb 0)) (.agg (vF Value.bool (default:A7 Bool 80)).toArray),.run [⟨58,false,(bif c1_ then true else false)⟩] (eqS .neq 85 (vF Value.bool (default:A7 Bool 80)).toArray (vF Value.bool (default:A7 Bool 80)).toArray) (.bool false)]) 23 [(0,iv p0),(1,iv p1),(2,iv p2),(3,iv p3),(5,pb cb5),(6,pb cb6),(12,pb a3),(13,pb a4),(68,.bool (bif (bif c1_ then true else false) then true else false))] kr hF kr (A0 (ob1 kr (fun _ hd=>(hS.later hd).cell (i:=5) (j:=0) rfl rfl)) (A0 (E7 (Ag (i:=0) (c:=⟨47,false,c1_⟩) rfl (show (c1_==false)=false by rw [a9];rfl))) (A0 (E7 (Ag (i:=0) (c:=⟨47,false,c1_⟩) rfl (show (c1_==false)=false by rw [a9];rfl))) (A0 (E7 (Ag (i:=0) (c:=⟨47,false,c1_⟩) rfl (show (c1_==false)=false by rw [a9];rfl))) (A0 (E7 (Ag (i:=0) (c:=⟨47,false,c1_⟩) rfl (show (c1_==false)=false by rw [a9];rfl))) (A0 (E7 (Ag (i:=0) (c:=⟨47,false,c1_⟩) rfl (show (c1_==false)=false by rw [a9];rfl))) (A0 (E7 (Ag (i:=0) (c:=⟨47,false,c1_⟩) rfl (show (c1_==false)=false by rw [a9];rfl))) (A0 (E7 (Ag (i:=0) (c:=⟨47,false,c1_⟩) rfl (show (c1_==false)=false by rw [a9];rfl))) (A0 (E7 (Ag (i:=0) (c:=⟨58,false,(bif c1_ then true else false)⟩) rfl (show ((bif c1_ then true else false)==false)=false by rw [aF];rfl))) (A0 (E7 (Ag (i:=0) (c:=⟨58,false,(bif c1_ then true else false)⟩) rfl (show ((bif c1_ then true else false)==false)=false by rw [aF];rfl))) (A0 (E7 (Ag (i:=0) (c:=⟨58,false,(bif c1_ then true else false)⟩) rfl (show ((bif c1_ then true else false)==false)=false by rw [aF];rfl))) (A0 (E7 (Ag (i:=0) (c:=⟨58,false,(bif c1_ then true else false)⟩) rfl (show ((bif c1_ then true else false)==false)=false by rw [aF];rfl))) (A0 (E7 (Ag (i:=0) (c:=⟨58,false,(bif c1_ then true else false)⟩) rfl (show ((bif c1_ then true else false)==false)=false by rw [aF];rfl))) (A0 (E7 (Ag (i:=0) (c:=⟨58,false,(bif c1_ then true else false)⟩) rfl (show ((bif c1_ then true else false)==false)=false by rw [aF];rfl))) (A0 (E7 (Ag (i:=0) (c:=⟨58,false,(bif c1_ then true else false)⟩) rfl (show ((bif c1_ then true else false)==false)=false by rw [aF];rfl))) Af))))))))))))))) ⟨kr⟩ fun a w hF hx=>?_
   replace hS:=hS.later hx
   refine SK.wi (storeK (t:=4) [(0,iv p0),(1,iv p1),(2,iv p2),(3,iv p3),(5,pb cb5),(12,pb a3),(13,pb a4)] 5 0 (.bool (bif (bif c1_ then true else false) then true else false)) #[.bool (bif (bif c1_ then true else false) then true else false)] hF hS rfl kr ⟨kr⟩ kr kr kr kr ⟨kr⟩ fun w a hF hS=>?_)
   refine wfn rfl ?_
   replace h:=A5 h
   obtain ⟨e8,f9,h⟩:=h
   replace h:=A5 h
   obtain ⟨bW,fA,h⟩:=h
   replace h:=A5 h
   obtain ⟨fP,dT,h⟩:=h
   replace h:=A5 h
   obtain ⟨gQ,eK,h⟩:=h
   replace h:=A5 h
   obtain ⟨gR,eL,h⟩:=h
   replace h:=A5 h
   obtain ⟨fQ,fB,h⟩:=h
   replace h:=A5 h
   obtain ⟨fR,dU,h⟩:=h
   refine C5 15 [13] _ (D:=fun w=>St w0 [blk a3 85 (vF Value.bool a0).toArray,blk a4 85 (vF Value.bool a1).toArray,blk cb5 92 #[sv ad1 c0_ cap2],blk cb6 4 #[.bool (bif (bif c1_ then true else false) then true else false)]] w∧FrzAt μ w∧Arr w 1 hdF ad1 hd3.length hd3.length hd3) kr kr hF.size (fun w hx=>?_) (fun _ _ h=>h)
   replace hS:=hS.later hx
   refine ⟨⟨St.pick [0,1,3,5] (by decide) hS,hS.frz (i:=2) rfl hlow,(Ao (hS.res (i:=4) rfl)).tight⟩,?_⟩
   have gH:=Frz.le_refl μ
   obtain ⟨b5,c4,d0,dG,cJ⟩:=NestOk.getE hq5 f9
   obtain ⟨aL,bE,d1,eG,gD⟩:=NestOk.getE hq5 fA
   refine WT.s [0,1,2,3,4,5,6,7,8,9,10,11,12] [13] kr kr ?_
   refine Jj (rest:=[]) (obs:=[.run [] (Instr.loadAt 92 (pb cb5)) (sv ad1 c0_ cap2),.run [] (Instr.indexAt 92 (sv ad1 c0_ cap2) (iv p0)) (.pointer (some (A3 ad1 p0 1))),.run [] (Instr.loadAt 84 (.pointer (some (A3 ad1 p0 1)))) (sv b5 e8 c4),.run [] (Instr.loadAt 92 (pb cb5)) (sv ad1 c0_ cap2),.run [] (Instr.indexAt 92 (sv ad1 c0_ cap2) (iv p2)) (.pointer (some (A3 ad1 p2 1))),.run [] (Instr.loadAt 84 (.pointer (some (A3 ad1 p2 1)))) (sv aL bW bE),.run [] (Instr.loadAt 85 (pb a3)) (.agg (vF Value.bool a0).toArray),.run [] (Instr.loadAt 85 (pb a4)) (.agg (vF Value.bool a1).toArray),.run [] (Instr.indexAt 84 (sv b5 e8 c4) (iv p1)) (.pointer (some (A3 b5 p1 80)))]) [0,1,2,3,4,5,6,7,8,9,10,11,12] [(77,sv aL bW bE),(78,iv p3),(79,.agg (vF Value.bool a0).toArray),(80,.agg (vF Value.bool a1).toArray),(81,.pointer (some (A3 b5 p1 80)))] hF kr kr (A0 (ob1 kr (fun _ hd=>hd.1.cell (i:=2) (j:=0) rfl rfl)) (A0 (A8 (Ao (hS.res (i:=4) rfl)) kr (fun _=>d0)) (A0 (An (i:=p0) 0 C6 (fun _ hd=>hd.2.2) kr (fun _=>d0) rfl) (A0 (ob1 kr (fun _ hd=>hd.1.cell (i:=2) (j:=0) rfl rfl)) (A0 (A8 (Ao (hS.res (i:=4) rfl)) kr (fun _=>d1)) (A0 (An (i:=p2) 0 C6 (fun _ hd=>hd.2.2) kr (fun _=>d1) rfl) (A0 (Qr (f:=Value.bool) (tt:=85) kr (fun _ hd=>(hd.1.blk (i:=0) rfl))) (A0 (Qr (f:=Value.bool) (tt:=85) kr (fun _ hd=>(hd.1.blk (i:=1) rfl))) (A0 (A8 (Bb (hS.res (i:=4) rfl) dG cJ) kr (fun _=>dT)) Af))))))))) ⟨kr⟩ fun a hF=>?_
   refine WRun.fin ?_
   refine all_cons ?_ (Av)
   refine Na (f:=Value.bool) (t:=85) (j:=p1) [(77,sv aL bW bE),(78,iv p3),(80,.agg (vF Value.bool a1).toArray)] 4 p0 fP a0 (fun _=>rfl) hq5 hF hS rfl kr ⟨kr⟩ dG cJ dT kr eK eL ⟨kr⟩ fun g9 w a hF hL_ hl dO hS=>⟨⟨St.pick [0,1,3,5] (by decide) hS,(hS.frz (i:=2) rfl hlow),(Ao (hS.res (i:=4) rfl)).tight⟩,?_⟩
   simp only [sv,ln,hL_] at hF hS
   obtain ⟨g1,g5,gM,bS,cK⟩:=NestOk.getE dO fB
   obtain ⟨e1_,eM,e2_⟩:=Wu eG bS
   subst e1_
   subst e2_
   simp only [sv,ln,eM] at hF
   refine WT.z [14] kr ?_
   refine Jj (rest:=[]) (obs:=[.run [] (Instr.indexAt 84 (sv aL fQ bE) (iv p3)) (.pointer (some (A3 aL p3 80)))]) [14] [(80,.agg (vF Value.bool a1).toArray),(82,.pointer (some (A3 aL p3 80)))] hF kr kr (A0 (A8 (Bb (hS.res (i:=4) rfl) bS cK) kr (fun _=>dU)) Af) ⟨kr⟩ fun a hF=>?_
   refine WRun.fin ?_
   replace h:=A5 h
   obtain ⟨gS,eN,h⟩:=h
   replace h:=A5 h
   obtain ⟨bJ,eO,h⟩:=h
   refine SK.wi (Na (f:=Value.bool) (t:=85) (j:=p3) [] 4 p2 fR a1 (fun _=>rfl) dO hF hS rfl kr ⟨kr⟩ bS cK dU kr eN eO ⟨kr⟩ fun bO w a hF hL_ hl f4 hS=>?_)
   simp only [sv,ln,hL_] at hF hS
   refine WI.fin rfl ?_
   refine Mr hF rfl ?_
   have hr_:=Option.some.inj h
   subst hr_
   replace hS:St w0 (blk a3 85 (vF Value.bool a0).toArray::blk a4 85 (vF Value.bool a1).toArray::fz w0 μ::blk cb5 92 #[sv ad1 bJ cap2]::A9 84 85 80 (vF Value.bool) ad1 bJ.length cap2 hd3 bO::blk cb6 4 #[.bool (bif (bif c1_ then true else false) then true else false)]::T_) w:=hS
   replace hS:=St.pickT (A:=[blk a3 85 (vF Value.bool a0).toArray,blk a4 85 (vF Value.bool a1).toArray,fz w0 μ,blk cb5 92 #[sv ad1 bJ cap2],A9 84 85 80 (vF Value.bool) ad1 bJ.length cap2 hd3 bO,blk cb6 4 #[.bool (bif (bif c1_ then true else false) then true else false)]]) (T:=T_) [2,3,4,5] (by decide) hS
   exact ⟨_,rfl,μ,ad1,cap2,hd3,bO,hext,hlow,rfl,f4,hS⟩
  ·replace h:=Ak h aF
   replace h:=A5 h
   obtain ⟨eA,fD,h⟩:=h
   obtain ⟨b6,c5,d2,dH,cL⟩:=NestOk.getE hq5 fD
   replace h:=A5 h
   obtain ⟨aH,dW,h⟩:=h
   refine L8 (obs:=[.run [] (Instr.loadAt 4 (pb cb6)) (.bool c1_),.run [⟨47,false,c1_⟩] (Instr.loadAt 85 (pb a3)) (.agg (vF Value.bool (default:A7 Bool 80)).toArray),.run [⟨47,false,c1_⟩] (Instr.loadAt 92 (pb cb5)) (.slice none 0 0),.run [⟨47,false,c1_⟩] (Instr.indexAt 92 (.slice none 0 0) (iv p0)) (pb 0),.run [⟨47,false,c1_⟩] (Instr.loadAt 84 (pb 0)) (.slice none 0 0),.run [⟨47,false,c1_⟩] (Instr.indexAt 84 (.slice none 0 0) (iv p1)) (pb 0),.run [⟨47,false,c1_⟩] (Instr.loadAt 85 (pb 0)) (.agg (vF Value.bool (default:A7 Bool 80)).toArray),.run [⟨47,false,c1_⟩] (eqS .neq 85 (vF Value.bool (default:A7 Bool 80)).toArray (vF Value.bool (default:A7 Bool 80)).toArray) (.bool false),.run [⟨58,false,(bif c1_ then true else false)⟩] (Instr.loadAt 85 (pb a4)) (.agg (vF Value.bool a1).toArray),.run [⟨58,false,(bif c1_ then true else false)⟩] (Instr.loadAt 92 (pb cb5)) (sv ad1 c0_ cap2),.run [⟨58,false,(bif c1_ then true else false)⟩] (Instr.indexAt 92 (sv ad1 c0_ cap2) (iv p2)) (.pointer (some (A3 ad1 p2 1))),.run [⟨58,false,(bif c1_ then true else false)⟩] (Instr.loadAt 84 (.pointer (some (A3 ad1 p2 1)))) (sv b6 eA c5),.run [⟨58,false,(bif c1_ then true else false)⟩] (Instr.indexAt 84 (sv b6 eA c5) (iv p3)) (.pointer (some (A3 b6 p3 80))),.run [⟨58,false,(bif c1_ then true else false)⟩] (Instr.loadAt 85 (.pointer (some (A3 b6 p3 80)))) (.agg (vF Value.bool aH).toArray),.run [⟨58,false,(bif c1_ then true else false)⟩] (eqS .neq 85 (vF Value.bool a1).toArray (vF Value.bool aH).toArray) (.bool (!decide (a1=aH)))]) 23 [(0,iv p0),(1,iv p1),(2,iv p2),(3,iv p3),(5,pb cb5),(6,pb cb6),(12,pb a3),(13,pb a4),(68,.bool (bif (bif c1_ then true else false) then true else (!decide (a1=aH))))] kr hF kr (A0 (ob1 kr (fun _ hd=>(hS.later hd).cell (i:=5) (j:=0) rfl rfl)) (A0 (E7 (Ag (i:=0) (c:=⟨47,false,c1_⟩) rfl (show (c1_==false)=false by rw [a9];rfl))) (A0 (E7 (Ag (i:=0) (c:=⟨47,false,c1_⟩) rfl (show (c1_==false)=false by rw [a9];rfl))) (A0 (E7 (Ag (i:=0) (c:=⟨47,false,c1_⟩) rfl (show (c1_==false)=false by rw [a9];rfl))) (A0 (E7 (Ag (i:=0) (c:=⟨47,false,c1_⟩) rfl (show (c1_==false)=false by rw [a9];rfl))) (A0 (E7 (Ag (i:=0) (c:=⟨47,false,c1_⟩) rfl (show (c1_==false)=false by rw [a9];rfl))) (A0 (E7 (Ag (i:=0) (c:=⟨47,false,c1_⟩) rfl (show (c1_==false)=false by rw [a9];rfl))) (A0 (E7 (Ag (i:=0) (c:=⟨47,false,c1_⟩) rfl (show (c1_==false)=false by rw [a9];rfl))) (A0 (Qr (f:=Value.bool) (tt:=85) kr (fun _ hd=>((hS.later hd).blk (i:=1) rfl))) (A0 (ob1 kr (fun _ hd=>(hS.later hd).cell (i:=3) (j:=0) rfl rfl)) (A0 (A8 (Ao (hS.res (i:=4) rfl)) kr (fun _=>d2)) (A0 (An (i:=p2) 0 C6 (fun _ hd=>(Ao ((hS.later hd).res (i:=4) rfl))) kr (fun _=>d2) rfl) (A0 (A8 (Bb (hS.res (i:=4) rfl) dH cL) kr (fun _=>dW)) (A0 (Dx (m:=80) (i:=p3) (us:=vF Value.bool aH) 0 (C2 Value.bool) (fun _ hd=>(Bb ((hS.later hd).res (i:=4) rfl) dH cL)) kr (fun _=>dW) ⟨C2 _ _,Gv _ _⟩) (A0 (Sd (e:=4) kr kr kr kr kr) Af))))))))))))))) ⟨kr⟩ fun a w hF hx=>?_
   replace hS:=hS.later hx
   refine SK.wi (storeK (t:=4) [(0,iv p0),(1,iv p1),(2,iv p2),(3,iv p3),(5,pb cb5),(12,pb a3),(13,pb a4)] 5 0 (.bool (bif (bif c1_ then true else false) then true else (!decide (a1=aH)))) #[.bool (bif (bif c1_ then true else false) then true else (!decide (a1=aH)))] hF hS rfl kr ⟨kr⟩ kr kr kr kr ⟨kr⟩ fun w a hF hS=>?_)
   refine wfn rfl ?_
   replace h:=A5 h
   obtain ⟨eB,fE,h⟩:=h
   replace h:=A5 h
   obtain ⟨bX,fF,h⟩:=h
   replace h:=A5 h
   obtain ⟨fS,dX,h⟩:=h
   replace h:=A5 h
   obtain ⟨gT,eP,h⟩:=h
   replace h:=A5 h
   obtain ⟨gU,eQ,h⟩:=h
   replace h:=A5 h
   obtain ⟨fT,fG,h⟩:=h
   replace h:=A5 h
   obtain ⟨fU,dY,h⟩:=h
   refine C5 15 [13] _ (D:=fun w=>St w0 [blk a3 85 (vF Value.bool a0).toArray,blk a4 85 (vF Value.bool a1).toArray,blk cb5 92 #[sv ad1 c0_ cap2],blk cb6 4 #[.bool (bif (bif c1_ then true else false) then true else (!decide (a1=aH)))]] w∧FrzAt μ w∧Arr w 1 hdF ad1 hd3.length hd3.length hd3) kr kr hF.size (fun w hx=>?_) (fun _ _ h=>h)
   replace hS:=hS.later hx
   refine ⟨⟨St.pick [0,1,3,5] (by decide) hS,hS.frz (i:=2) rfl hlow,(Ao (hS.res (i:=4) rfl)).tight⟩,?_⟩
   have gI:=Frz.le_refl μ
   obtain ⟨b7,c6,d3,dI,cM⟩:=NestOk.getE hq5 fE
   obtain ⟨aM,bF,d4,eH,gE⟩:=NestOk.getE hq5 fF
   refine WT.s [0,1,2,3,4,5,6,7,8,9,10,11,12] [13] kr kr ?_
   refine Jj (rest:=[]) (obs:=[.run [] (Instr.loadAt 92 (pb cb5)) (sv ad1 c0_ cap2),.run [] (Instr.indexAt 92 (sv ad1 c0_ cap2) (iv p0)) (.pointer (some (A3 ad1 p0 1))),.run [] (Instr.loadAt 84 (.pointer (some (A3 ad1 p0 1)))) (sv b7 eB c6),.run [] (Instr.loadAt 92 (pb cb5)) (sv ad1 c0_ cap2),.run [] (Instr.indexAt 92 (sv ad1 c0_ cap2) (iv p2)) (.pointer (some (A3 ad1 p2 1))),.run [] (Instr.loadAt 84 (.pointer (some (A3 ad1 p2 1)))) (sv aM bX bF),.run [] (Instr.loadAt 85 (pb a3)) (.agg (vF Value.bool a0).toArray),.run [] (Instr.loadAt 85 (pb a4)) (.agg (vF Value.bool a1).toArray),.run [] (Instr.indexAt 84 (sv b7 eB c6) (iv p1)) (.pointer (some (A3 b7 p1 80)))]) [0,1,2,3,4,5,6,7,8,9,10,11,12] [(77,sv aM bX bF),(78,iv p3),(79,.agg (vF Value.bool a0).toArray),(80,.agg (vF Value.bool a1).toArray),(81,.pointer (some (A3 b7 p1 80)))] hF kr kr (A0 (ob1 kr (fun _ hd=>hd.1.cell (i:=2) (j:=0) rfl rfl)) (A0 (A8 (Ao (hS.res (i:=4) rfl)) kr (fun _=>d3)) (A0 (An (i:=p0) 0 C6 (fun _ hd=>hd.2.2) kr (fun _=>d3) rfl) (A0 (ob1 kr (fun _ hd=>hd.1.cell (i:=2) (j:=0) rfl rfl)) (A0 (A8 (Ao (hS.res (i:=4) rfl)) kr (fun _=>d4)) (A0 (An (i:=p2) 0 C6 (fun _ hd=>hd.2.2) kr (fun _=>d4) rfl) (A0 (Qr (f:=Value.bool) (tt:=85) kr (fun _ hd=>(hd.1.blk (i:=0) rfl))) (A0 (Qr (f:=Value.bool) (tt:=85) kr (fun _ hd=>(hd.1.blk (i:=1) rfl))) (A0 (A8 (Bb (hS.res (i:=4) rfl) dI cM) kr (fun _=>dX)) Af))))))))) ⟨kr⟩ fun a hF=>?_
   refine WRun.fin ?_
   refine all_cons ?_ (Av)
   refine Na (f:=Value.bool) (t:=85) (j:=p1) [(77,sv aM bX bF),(78,iv p3),(80,.agg (vF Value.bool a1).toArray)] 4 p0 fS a0 (fun _=>rfl) hq5 hF hS rfl kr ⟨kr⟩ dI cM dX kr eP eQ ⟨kr⟩ fun gA w a hF hL_ hl dP hS=>⟨⟨St.pick [0,1,3,5] (by decide) hS,(hS.frz (i:=2) rfl hlow),(Ao (hS.res (i:=4) rfl)).tight⟩,?_⟩
   simp only [sv,ln,hL_] at hF hS
   obtain ⟨g2,g6,gN,bT,cN⟩:=NestOk.getE dP fG
   obtain ⟨e1_,eR,e2_⟩:=Wu eH bT
   subst e1_
   subst e2_
   simp only [sv,ln,eR] at hF
   refine WT.z [14] kr ?_
   refine Jj (rest:=[]) (obs:=[.run [] (Instr.indexAt 84 (sv aM fT bF) (iv p3)) (.pointer (some (A3 aM p3 80)))]) [14] [(80,.agg (vF Value.bool a1).toArray),(82,.pointer (some (A3 aM p3 80)))] hF kr kr (A0 (A8 (Bb (hS.res (i:=4) rfl) bT cN) kr (fun _=>dY)) Af) ⟨kr⟩ fun a hF=>?_
   refine WRun.fin ?_
   replace h:=A5 h
   obtain ⟨gV,eS,h⟩:=h
   replace h:=A5 h
   obtain ⟨bK,eT,h⟩:=h
   refine SK.wi (Na (f:=Value.bool) (t:=85) (j:=p3) [] 4 p2 fU a1 (fun _=>rfl) dP hF hS rfl kr ⟨kr⟩ bT cN dY kr eS eT ⟨kr⟩ fun bP w a hF hL_ hl f5 hS=>?_)
   simp only [sv,ln,hL_] at hF hS
   refine WI.fin rfl ?_
   refine Mr hF rfl ?_
   have hr_:=Option.some.inj h
   subst hr_
   replace hS:St w0 (blk a3 85 (vF Value.bool a0).toArray::blk a4 85 (vF Value.bool a1).toArray::fz w0 μ::blk cb5 92 #[sv ad1 bK cap2]::A9 84 85 80 (vF Value.bool) ad1 bK.length cap2 hd3 bP::blk cb6 4 #[.bool (bif (bif c1_ then true else false) then true else (!decide (a1=aH)))]::T_) w:=hS
   replace hS:=St.pickT (A:=[blk a3 85 (vF Value.bool a0).toArray,blk a4 85 (vF Value.bool a1).toArray,fz w0 μ,blk cb5 92 #[sv ad1 bK cap2],A9 84 85 80 (vF Value.bool) ad1 bK.length cap2 hd3 bP,blk cb6 4 #[.bool (bif (bif c1_ then true else false) then true else (!decide (a1=aH)))]]) (T:=T_) [2,3,4,5] (by decide) hS
   exact ⟨_,rfl,μ,ad1,cap2,hd3,bP,hext,hlow,rfl,f5,hS⟩
 ·replace h:=Ak h a9
  replace h:=A5 h
  obtain ⟨bN,e0,h⟩:=h
  replace h:=A5 h
  obtain ⟨a2,bI,h⟩:=h
  rcases Bool.eq_false_or_eq_true ((bif c1_ then true else (!decide (a0=a2)))) with aG|aG
  ·replace h:=Al h aG
   obtain ⟨b8,c7,d5,dJ,cO⟩:=NestOk.getE hq5 e0
   refine L8 (obs:=[.run [] (Instr.loadAt 4 (pb cb6)) (.bool c1_),.run [⟨47,false,c1_⟩] (Instr.loadAt 85 (pb a3)) (.agg (vF Value.bool a0).toArray),.run [⟨47,false,c1_⟩] (Instr.loadAt 92 (pb cb5)) (sv ad1 c0_ cap2),.run [⟨47,false,c1_⟩] (Instr.indexAt 92 (sv ad1 c0_ cap2) (iv p0)) (.pointer (some (A3 ad1 p0 1))),.run [⟨47,false,c1_⟩] (Instr.loadAt 84 (.pointer (some (A3 ad1 p0 1)))) (sv b8 bN c7),.run [⟨47,false,c1_⟩] (Instr.indexAt 84 (sv b8 bN c7) (iv p1)) (.pointer (some (A3 b8 p1 80))),.run [⟨47,false,c1_⟩] (Instr.loadAt 85 (.pointer (some (A3 b8 p1 80)))) (.agg (vF Value.bool a2).toArray),.run [⟨47,false,c1_⟩] (eqS .neq 85 (vF Value.bool a0).toArray (vF Value.bool a2).toArray) (.bool (!decide (a0=a2))),.run [⟨58,false,(bif c1_ then true else (!decide (a0=a2)))⟩] (Instr.loadAt 85 (pb a4)) (.agg (vF Value.bool (default:A7 Bool 80)).toArray),.run [⟨58,false,(bif c1_ then true else (!decide (a0=a2)))⟩] (Instr.loadAt 92 (pb cb5)) (.slice none 0 0),.run [⟨58,false,(bif c1_ then true else (!decide (a0=a2)))⟩] (Instr.indexAt 92 (.slice none 0 0) (iv p2)) (pb 0),.run [⟨58,false,(bif c1_ then true else (!decide (a0=a2)))⟩] (Instr.loadAt 84 (pb 0)) (.slice none 0 0),.run [⟨58,false,(bif c1_ then true else (!decide (a0=a2)))⟩] (Instr.indexAt 84 (.slice none 0 0) (iv p3)) (pb 0),.run [⟨58,false,(bif c1_ then true else (!decide (a0=a2)))⟩] (Instr.loadAt 85 (pb 0)) (.agg (vF Value.bool (default:A7 Bool 80)).toArray),.run [⟨58,false,(bif c1_ then true else (!decide (a0=a2)))⟩] (eqS .neq 85 (vF Value.bool (default:A7 Bool 80)).toArray (vF Value.bool (default:A7 Bool 80)).toArray) (.bool false)]) 23 [(0,iv p0),(1,iv p1),(2,iv p2),(3,iv p3),(5,pb cb5),(6,pb cb6),(12,pb a3),(13,pb a4),(68,.bool (bif (bif c1_ then true else (!decide (a0=a2))) then true else false))] kr hF kr (A0 (ob1 kr (fun _ hd=>(hS.later hd).cell (i:=5) (j:=0) rfl rfl)) (A0 (Qr (f:=Value.bool) (tt:=85) kr (fun _ hd=>((hS.later hd).blk (i:=0) rfl))) (A0 (ob1 kr (fun _ hd=>(hS.later hd).cell (i:=3) (j:=0) rfl rfl)) (A0 (A8 (Ao (hS.res (i:=4) rfl)) kr (fun _=>d5)) (A0 (An (i:=p0) 0 C6 (fun _ hd=>(Ao ((hS.later hd).res (i:=4) rfl))) kr (fun _=>d5) rfl) (A0 (A8 (Bb (hS.res (i:=4) rfl) dJ cO) kr (fun _=>bI)) (A0 (Dx (m:=80) (i:=p1) (us:=vF Value.bool a2) 0 (C2 Value.bool) (fun _ hd=>(Bb ((hS.later hd).res (i:=4) rfl) dJ cO)) kr (fun _=>bI) ⟨C2 _ _,Gv _ _⟩) (A0 (Sd (e:=4) kr kr kr kr kr) (A0 (E7 (Ag (i:=0) (c:=⟨58,false,(bif c1_ then true else (!decide (a0=a2)))⟩) rfl (show ((bif c1_ then true else (!decide (a0=a2)))==false)=false by rw [aG];rfl))) (A0 (E7 (Ag (i:=0) (c:=⟨58,false,(bif c1_ then true else (!decide (a0=a2)))⟩) rfl (show ((bif c1_ then true else (!decide (a0=a2)))==false)=false by rw [aG];rfl))) (A0 (E7 (Ag (i:=0) (c:=⟨58,false,(bif c1_ then true else (!decide (a0=a2)))⟩) rfl (show ((bif c1_ then true else (!decide (a0=a2)))==false)=false by rw [aG];rfl))) (A0 (E7 (Ag (i:=0) (c:=⟨58,false,(bif c1_ then true else (!decide (a0=a2)))⟩) rfl (show ((bif c1_ then true else (!decide (a0=a2)))==false)=false by rw [aG];rfl))) (A0 (E7 (Ag (i:=0) (c:=⟨58,false,(bif c1_ then true else (!decide (a0=a2)))⟩) rfl (show ((bif c1_ then true else (!decide (a0=a2)))==false)=false by rw [aG];rfl))) (A0 (E7 (Ag (i:=0) (c:=⟨58,false,(bif c1_ then true else (!decide (a0=a2)))⟩) rfl (show ((bif c1_ then true else (!decide (a0=a2)))==false)=false by rw [aG];rfl))) (A0 (E7 (Ag (i:=0) (c:=⟨58,false,(bif c1_ then true else (!decide (a0=a2)))⟩) rfl (show ((bif c1_ then true else (!decide (a0=a2)))==false)=false by rw [aG];rfl))) Af))))))))))))))) ⟨kr⟩ fun a w hF hx=>?_
   replace hS:=hS.later hx
   refine SK.wi (storeK (t:=4) [(0,iv p0),(1,iv p1),(2,iv p2),(3,iv p3),(5,pb cb5),(12,pb a3),(13,pb a4)] 5 0 (.bool (bif (bif c1_ then true else (!decide (a0=a2))) then true else false)) #[.bool (bif (bif c1_ then true else (!decide (a0=a2))) then true else false)] hF hS rfl kr ⟨kr⟩ kr kr kr kr ⟨kr⟩ fun w a hF hS=>?_)
   refine wfn rfl ?_
   replace h:=A5 h
   obtain ⟨eD,fI,h⟩:=h
   replace h:=A5 h
   obtain ⟨bY,fJ,h⟩:=h
   replace h:=A5 h
   obtain ⟨fV,e1,h⟩:=h
   replace h:=A5 h
   obtain ⟨gW,eU,h⟩:=h
   replace h:=A5 h
   obtain ⟨gX,eV,h⟩:=h
   replace h:=A5 h
   obtain ⟨fW,fK,h⟩:=h
   replace h:=A5 h
   obtain ⟨fX,e3,h⟩:=h
   refine C5 15 [13] _ (D:=fun w=>St w0 [blk a3 85 (vF Value.bool a0).toArray,blk a4 85 (vF Value.bool a1).toArray,blk cb5 92 #[sv ad1 c0_ cap2],blk cb6 4 #[.bool (bif (bif c1_ then true else (!decide (a0=a2))) then true else false)]] w∧FrzAt μ w∧Arr w 1 hdF ad1 hd3.length hd3.length hd3) kr kr hF.size (fun w hx=>?_) (fun _ _ h=>h)
   replace hS:=hS.later hx
   refine ⟨⟨St.pick [0,1,3,5] (by decide) hS,hS.frz (i:=2) rfl hlow,(Ao (hS.res (i:=4) rfl)).tight⟩,?_⟩
   have gJ:=Frz.le_refl μ
   obtain ⟨b9,c8,d6,dK,cP⟩:=NestOk.getE hq5 fI
   obtain ⟨aN,bG,d7,eI,gF⟩:=NestOk.getE hq5 fJ
   refine WT.s [0,1,2,3,4,5,6,7,8,9,10,11,12] [13] kr kr ?_
   refine Jj (rest:=[]) (obs:=[.run [] (Instr.loadAt 92 (pb cb5)) (sv ad1 c0_ cap2),.run [] (Instr.indexAt 92 (sv ad1 c0_ cap2) (iv p0)) (.pointer (some (A3 ad1 p0 1))),.run [] (Instr.loadAt 84 (.pointer (some (A3 ad1 p0 1)))) (sv b9 eD c8),.run [] (Instr.loadAt 92 (pb cb5)) (sv ad1 c0_ cap2),.run [] (Instr.indexAt 92 (sv ad1 c0_ cap2) (iv p2)) (.pointer (some (A3 ad1 p2 1))),.run [] (Instr.loadAt 84 (.pointer (some (A3 ad1 p2 1)))) (sv aN bY bG),.run [] (Instr.loadAt 85 (pb a3)) (.agg (vF Value.bool a0).toArray),.run [] (Instr.loadAt 85 (pb a4)) (.agg (vF Value.bool a1).toArray),.run [] (Instr.indexAt 84 (sv b9 eD c8) (iv p1)) (.pointer (some (A3 b9 p1 80)))]) [0,1,2,3,4,5,6,7,8,9,10,11,12] [(77,sv aN bY bG),(78,iv p3),(79,.agg (vF Value.bool a0).toArray),(80,.agg (vF Value.bool a1).toArray),(81,.pointer (some (A3 b9 p1 80)))] hF kr kr (A0 (ob1 kr (fun _ hd=>hd.1.cell (i:=2) (j:=0) rfl rfl)) (A0 (A8 (Ao (hS.res (i:=4) rfl)) kr (fun _=>d6)) (A0 (An (i:=p0) 0 C6 (fun _ hd=>hd.2.2) kr (fun _=>d6) rfl) (A0 (ob1 kr (fun _ hd=>hd.1.cell (i:=2) (j:=0) rfl rfl)) (A0 (A8 (Ao (hS.res (i:=4) rfl)) kr (fun _=>d7)) (A0 (An (i:=p2) 0 C6 (fun _ hd=>hd.2.2) kr (fun _=>d7) rfl) (A0 (Qr (f:=Value.bool) (tt:=85) kr (fun _ hd=>(hd.1.blk (i:=0) rfl))) (A0 (Qr (f:=Value.bool) (tt:=85) kr (fun _ hd=>(hd.1.blk (i:=1) rfl))) (A0 (A8 (Bb (hS.res (i:=4) rfl) dK cP) kr (fun _=>e1)) Af))))))))) ⟨kr⟩ fun a hF=>?_
   refine WRun.fin ?_
   refine all_cons ?_ (Av)
   refine Na (f:=Value.bool) (t:=85) (j:=p1) [(77,sv aN bY bG),(78,iv p3),(80,.agg (vF Value.bool a1).toArray)] 4 p0 fV a0 (fun _=>rfl) hq5 hF hS rfl kr ⟨kr⟩ dK cP e1 kr eU eV ⟨kr⟩ fun gB w a hF hL_ hl dQ hS=>⟨⟨St.pick [0,1,3,5] (by decide) hS,(hS.frz (i:=2) rfl hlow),(Ao (hS.res (i:=4) rfl)).tight⟩,?_⟩
   simp only [sv,ln,hL_] at hF hS
   obtain ⟨g3,g7,gO,bU,cQ⟩:=NestOk.getE dQ fK
   obtain ⟨e1_,eW,e2_⟩:=Wu eI bU
   subst e1_
   subst e2_
   simp only [sv,ln,eW] at hF
   refine WT.z [14] kr ?_
   refine Jj (rest:=[]) (obs:=[.run [] (Instr.indexAt 84 (sv aN fW bG) (iv p3)) (.pointer (some (A3 aN p3 80)))]) [14] [(80,.agg (vF Value.bool a1).toArray),(82,.pointer (some (A3 aN p3 80)))] hF kr kr (A0 (A8 (Bb (hS.res (i:=4) rfl) bU cQ) kr (fun _=>e3)) Af) ⟨kr⟩ fun a hF=>?_
   refine WRun.fin ?_
   replace h:=A5 h
   obtain ⟨gY,eX,h⟩:=h
   replace h:=A5 h
   obtain ⟨bL,eY,h⟩:=h
   refine SK.wi (Na (f:=Value.bool) (t:=85) (j:=p3) [] 4 p2 fX a1 (fun _=>rfl) dQ hF hS rfl kr ⟨kr⟩ bU cQ e3 kr eX eY ⟨kr⟩ fun bQ w a hF hL_ hl f6 hS=>?_)
   simp only [sv,ln,hL_] at hF hS
   refine WI.fin rfl ?_
   refine Mr hF rfl ?_
   have hr_:=Option.some.inj h
   subst hr_
   replace hS:St w0 (blk a3 85 (vF Value.bool a0).toArray::blk a4 85 (vF Value.bool a1).toArray::fz w0 μ::blk cb5 92 #[sv ad1 bL cap2]::A9 84 85 80 (vF Value.bool) ad1 bL.length cap2 hd3 bQ::blk cb6 4 #[.bool (bif (bif c1_ then true else (!decide (a0=a2))) then true else false)]::T_) w:=hS
   replace hS:=St.pickT (A:=[blk a3 85 (vF Value.bool a0).toArray,blk a4 85 (vF Value.bool a1).toArray,fz w0 μ,blk cb5 92 #[sv ad1 bL cap2],A9 84 85 80 (vF Value.bool) ad1 bL.length cap2 hd3 bQ,blk cb6 4 #[.bool (bif (bif c1_ then true else (!decide (a0=a2))) then true else false)]]) (T:=T_) [2,3,4,5] (by decide) hS
   exact ⟨_,rfl,μ,ad1,cap2,hd3,bQ,hext,hlow,rfl,f6,hS⟩
  ·replace h:=Ak h aG
   obtain ⟨bA,c9,d8,dL,cR⟩:=NestOk.getE hq5 e0
   replace h:=A5 h
   obtain ⟨eE,fL,h⟩:=h
   obtain ⟨bB,cA,d9,dM,cS⟩:=NestOk.getE hq5 fL
   replace h:=A5 h
   obtain ⟨aI,e4,h⟩:=h
   refine L8 (obs:=[.run [] (Instr.loadAt 4 (pb cb6)) (.bool c1_),.run [⟨47,false,c1_⟩] (Instr.loadAt 85 (pb a3)) (.agg (vF Value.bool a0).toArray),.run [⟨47,false,c1_⟩] (Instr.loadAt 92 (pb cb5)) (sv ad1 c0_ cap2),.run [⟨47,false,c1_⟩] (Instr.indexAt 92 (sv ad1 c0_ cap2) (iv p0)) (.pointer (some (A3 ad1 p0 1))),.run [⟨47,false,c1_⟩] (Instr.loadAt 84 (.pointer (some (A3 ad1 p0 1)))) (sv bA bN c9),.run [⟨47,false,c1_⟩] (Instr.indexAt 84 (sv bA bN c9) (iv p1)) (.pointer (some (A3 bA p1 80))),.run [⟨47,false,c1_⟩] (Instr.loadAt 85 (.pointer (some (A3 bA p1 80)))) (.agg (vF Value.bool a2).toArray),.run [⟨47,false,c1_⟩] (eqS .neq 85 (vF Value.bool a0).toArray (vF Value.bool a2).toArray) (.bool (!decide (a0=a2))),.run [⟨58,false,(bif c1_ then true else (!decide (a0=a2)))⟩] (Instr.loadAt 85 (pb a4)) (.agg (vF Value.bool a1).toArray),.run [⟨58,false,(bif c1_ then true else (!decide (a0=a2)))⟩] (Instr.loadAt 92 (pb cb5)) (sv ad1 c0_ cap2),.run [⟨58,false,(bif c1_ then true else (!decide (a0=a2)))⟩] (Instr.indexAt 92 (sv ad1 c0_ cap2) (iv p2)) (.pointer (some (A3 ad1 p2 1))),.run [⟨58,false,(bif c1_ then true else (!decide (a0=a2)))⟩] (Instr.loadAt 84 (.pointer (some (A3 ad1 p2 1)))) (sv bB eE cA),.run [⟨58,false,(bif c1_ then true else (!decide (a0=a2)))⟩] (Instr.indexAt 84 (sv bB eE cA) (iv p3)) (.pointer (some (A3 bB p3 80))),.run [⟨58,false,(bif c1_ then true else (!decide (a0=a2)))⟩] (Instr.loadAt 85 (.pointer (some (A3 bB p3 80)))) (.agg (vF Value.bool aI).toArray),.run [⟨58,false,(bif c1_ then true else (!decide (a0=a2)))⟩] (eqS .neq 85 (vF Value.bool a1).toArray (vF Value.bool aI).toArray) (.bool (!decide (a1=aI)))]) 23 [(0,iv p0),(1,iv p1),(2,iv p2),(3,iv p3),(5,pb cb5),(6,pb cb6),(12,pb a3),(13,pb a4),(68,.bool (bif (bif c1_ then true else (!decide (a0=a2))) then true else (!decide (a1=aI))))] kr hF kr (A0 (ob1 kr (fun _ hd=>(hS.later hd).cell (i:=5) (j:=0) rfl rfl)) (A0 (Qr (f:=Value.bool) (tt:=85) kr (fun _ hd=>((hS.later hd).blk (i:=0) rfl))) (A0 (ob1 kr (fun _ hd=>(hS.later hd).cell (i:=3) (j:=0) rfl rfl)) (A0 (A8 (Ao (hS.res (i:=4) rfl)) kr (fun _=>d8)) (A0 (An (i:=p0) 0 C6 (fun _ hd=>(Ao ((hS.later hd).res (i:=4) rfl))) kr (fun _=>d8) rfl) (A0 (A8 (Bb (hS.res (i:=4) rfl) dL cR) kr (fun _=>bI)) (A0 (Dx (m:=80) (i:=p1) (us:=vF Value.bool a2) 0 (C2 Value.bool) (fun _ hd=>(Bb ((hS.later hd).res (i:=4) rfl) dL cR)) kr (fun _=>bI) ⟨C2 _ _,Gv _ _⟩) (A0 (Sd (e:=4) kr kr kr kr kr) (A0 (Qr (f:=Value.bool) (tt:=85) kr (fun _ hd=>((hS.later hd).blk (i:=1) rfl))) (A0 (ob1 kr (fun _ hd=>(hS.later hd).cell (i:=3) (j:=0) rfl rfl)) (A0 (A8 (Ao (hS.res (i:=4) rfl)) kr (fun _=>d9)) (A0 (An (i:=p2) 0 C6 (fun _ hd=>(Ao ((hS.later hd).res (i:=4) rfl))) kr (fun _=>d9) rfl) (A0 (A8 (Bb (hS.res (i:=4) rfl) dM cS) kr (fun _=>e4)) (A0 (Dx (m:=80) (i:=p3) (us:=vF Value.bool aI) 0 (C2 Value.bool) (fun _ hd=>(Bb ((hS.later hd).res (i:=4) rfl) dM cS)) kr (fun _=>e4) ⟨C2 _ _,Gv _ _⟩) (A0 (Sd (e:=4) kr kr kr kr kr) Af))))))))))))))) ⟨kr⟩ fun a w hF hx=>?_
   replace hS:=hS.later hx
   refine SK.wi (storeK (t:=4) [(0,iv p0),(1,iv p1),(2,iv p2),(3,iv p3),(5,pb cb5),(12,pb a3),(13,pb a4)] 5 0 (.bool (bif (bif c1_ then true else (!decide (a0=a2))) then true else (!decide (a1=aI)))) #[.bool (bif (bif c1_ then true else (!decide (a0=a2))) then true else (!decide (a1=aI)))] hF hS rfl kr ⟨kr⟩ kr kr kr kr ⟨kr⟩ fun w a hF hS=>?_)
   refine wfn rfl ?_
   replace h:=A5 h
   obtain ⟨eF,fM,h⟩:=h
   replace h:=A5 h
   obtain ⟨bZ,fN,h⟩:=h
   replace h:=A5 h
   obtain ⟨fY,e5,h⟩:=h
   replace h:=A5 h
   obtain ⟨gZ,eZ,h⟩:=h
   replace h:=A5 h
   obtain ⟨h0,f0,h⟩:=h
   replace h:=A5 h
   obtain ⟨fZ,fO,h⟩:=h
   replace h:=A5 h
   obtain ⟨g0,e6,h⟩:=h
   refine C5 15 [13] _ (D:=fun w=>St w0 [blk a3 85 (vF Value.bool a0).toArray,blk a4 85 (vF Value.bool a1).toArray,blk cb5 92 #[sv ad1 c0_ cap2],blk cb6 4 #[.bool (bif (bif c1_ then true else (!decide (a0=a2))) then true else (!decide (a1=aI)))]] w∧FrzAt μ w∧Arr w 1 hdF ad1 hd3.length hd3.length hd3) kr kr hF.size (fun w hx=>?_) (fun _ _ h=>h)
   replace hS:=hS.later hx
   refine ⟨⟨St.pick [0,1,3,5] (by decide) hS,hS.frz (i:=2) rfl hlow,(Ao (hS.res (i:=4) rfl)).tight⟩,?_⟩
   have gK:=Frz.le_refl μ
   obtain ⟨bC,cB,dA,dN,cT⟩:=NestOk.getE hq5 fM
   obtain ⟨aO,bH,dB,eJ,gG⟩:=NestOk.getE hq5 fN
   refine WT.s [0,1,2,3,4,5,6,7,8,9,10,11,12] [13] kr kr ?_
   refine Jj (rest:=[]) (obs:=[.run [] (Instr.loadAt 92 (pb cb5)) (sv ad1 c0_ cap2),.run [] (Instr.indexAt 92 (sv ad1 c0_ cap2) (iv p0)) (.pointer (some (A3 ad1 p0 1))),.run [] (Instr.loadAt 84 (.pointer (some (A3 ad1 p0 1)))) (sv bC eF cB),.run [] (Instr.loadAt 92 (pb cb5)) (sv ad1 c0_ cap2),.run [] (Instr.indexAt 92 (sv ad1 c0_ cap2) (iv p2)) (.pointer (some (A3 ad1 p2 1))),.run [] (Instr.loadAt 84 (.pointer (some (A3 ad1 p2 1)))) (sv aO bZ bH),.run [] (Instr.loadAt 85 (pb a3)) (.agg (vF Value.bool a0).toArray),.run [] (Instr.loadAt 85 (pb a4)) (.agg (vF Value.bool a1).toArray),.run [] (Instr.indexAt 84 (sv bC eF cB) (iv p1)) (.pointer (some (A3 bC p1 80)))]) [0,1,2,3,4,5,6,7,8,9,10,11,12] [(77,sv aO bZ bH),(78,iv p3),(79,.agg (vF Value.bool a0).toArray),(80,.agg (vF Value.bool a1).toArray),(81,.pointer (some (A3 bC p1 80)))] hF kr kr (A0 (ob1 kr (fun _ hd=>hd.1.cell (i:=2) (j:=0) rfl rfl)) (A0 (A8 (Ao (hS.res (i:=4) rfl)) kr (fun _=>dA)) (A0 (An (i:=p0) 0 C6 (fun _ hd=>hd.2.2) kr (fun _=>dA) rfl) (A0 (ob1 kr (fun _ hd=>hd.1.cell (i:=2) (j:=0) rfl rfl)) (A0 (A8 (Ao (hS.res (i:=4) rfl)) kr (fun _=>dB)) (A0 (An (i:=p2) 0 C6 (fun _ hd=>hd.2.2) kr (fun _=>dB) rfl) (A0 (Qr (f:=Value.bool) (tt:=85) kr (fun _ hd=>(hd.1.blk (i:=0) rfl))) (A0 (Qr (f:=Value.bool) (tt:=85) kr (fun _ hd=>(hd.1.blk (i:=1) rfl))) (A0 (A8 (Bb (hS.res (i:=4) rfl) dN cT) kr (fun _=>e5)) Af))))))))) ⟨kr⟩ fun a hF=>?_
   refine WRun.fin ?_
   refine all_cons ?_ (Av)
   refine Na (f:=Value.bool) (t:=85) (j:=p1) [(77,sv aO bZ bH),(78,iv p3),(80,.agg (vF Value.bool a1).toArray)] 4 p0 fY a0 (fun _=>rfl) hq5 hF hS rfl kr ⟨kr⟩ dN cT e5 kr eZ f0 ⟨kr⟩ fun gC w a hF hL_ hl dR hS=>⟨⟨St.pick [0,1,3,5] (by decide) hS,(hS.frz (i:=2) rfl hlow),(Ao (hS.res (i:=4) rfl)).tight⟩,?_⟩
   simp only [sv,ln,hL_] at hF hS
   obtain ⟨g4,g8,gP,bV,cU⟩:=NestOk.getE dR fO
   obtain ⟨e1_,f1,e2_⟩:=Wu eJ bV
   subst e1_
   subst e2_
   simp only [sv,ln,f1] at hF
   refine WT.z [14] kr ?_
   refine Jj (rest:=[]) (obs:=[.run [] (Instr.indexAt 84 (sv aO fZ bH) (iv p3)) (.pointer (some (A3 aO p3 80)))]) [14] [(80,.agg (vF Value.bool a1).toArray),(82,.pointer (some (A3 aO p3 80)))] hF kr kr (A0 (A8 (Bb (hS.res (i:=4) rfl) bV cU) kr (fun _=>e6)) Af) ⟨kr⟩ fun a hF=>?_
   refine WRun.fin ?_
   replace h:=A5 h
   obtain ⟨h1,f2,h⟩:=h
   replace h:=A5 h
   obtain ⟨bM,f3,h⟩:=h
   refine SK.wi (Na (f:=Value.bool) (t:=85) (j:=p3) [] 4 p2 g0 a1 (fun _=>rfl) dR hF hS rfl kr ⟨kr⟩ bV cU e6 kr f2 f3 ⟨kr⟩ fun bR w a hF hL_ hl f7 hS=>?_)
   simp only [sv,ln,hL_] at hF hS
   refine WI.fin rfl ?_
   refine Mr hF rfl ?_
   have hr_:=Option.some.inj h
   subst hr_
   replace hS:St w0 (blk a3 85 (vF Value.bool a0).toArray::blk a4 85 (vF Value.bool a1).toArray::fz w0 μ::blk cb5 92 #[sv ad1 bM cap2]::A9 84 85 80 (vF Value.bool) ad1 bM.length cap2 hd3 bR::blk cb6 4 #[.bool (bif (bif c1_ then true else (!decide (a0=a2))) then true else (!decide (a1=aI)))]::T_) w:=hS
   replace hS:=St.pickT (A:=[blk a3 85 (vF Value.bool a0).toArray,blk a4 85 (vF Value.bool a1).toArray,fz w0 μ,blk cb5 92 #[sv ad1 bM cap2],A9 84 85 80 (vF Value.bool) ad1 bM.length cap2 hd3 bR,blk cb6 4 #[.bool (bif (bif c1_ then true else (!decide (a0=a2))) then true else (!decide (a1=aI)))]]) (T:=T_) [2,3,4,5] (by decide) hS
   exact ⟨_,rfl,μ,ad1,cap2,hd3,bR,hext,hlow,rfl,f7,hS⟩
end Go.Proofs.Ytbhjgebjojdohaa
