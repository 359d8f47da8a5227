import Derived.Shelf.SlMaps.Clone
import Derived.Test.YtkbjbnkkfifbmaaGreatF8WnK
set_option linter.unusedVariables false
set_option linter.unusedSimpArgs false
set_option linter.unusedSectionVars false
namespace Go.Proofs
open Go.Shelf
def Tryz.mcKSp_ren:Go.Shelf.Ren:=⟨fun|5=>94|7=>138|n=>n,fun|23=>105|25=>46|3=>147|n=>n,fun|n=>n⟩
theorem Tryz.mcKSp:Go.Proofs.SlLaysW.n5 Tryz.prog Tryz.mcKSp_ren:={
 mixed:=by kernel_rfl
 f5:=⟨Tryz.f94.name,by decide,Tryz.func94.trans (congrArg some (by kernel_rfl))⟩
 f7:=Tryz.func138.trans (congrArg some (by kernel_rfl))
 t4:=Tryz.underlying4
 a4:=Tryz.isAgg4
 z4:=Tryz.sizeOf4
 v4:=Tryz.zeroValue4
 t20:=Tryz.underlying20
 a20:=Tryz.isAgg20
 z20:=Tryz.sizeOf20
 v20:=Tryz.zeroValue20
 t23:=Tryz.underlying105
 a23:=Tryz.isAgg105
 z23:=Tryz.sizeOf105
 v23:=Tryz.zeroValue105 }
def Tryz.mcWSp_ren:Go.Shelf.Ren:=⟨fun|5=>95|7=>138|n=>n,fun|23=>106|25=>200|3=>153|n=>n,fun|n=>n⟩
theorem Tryz.mcWSp:Go.Proofs.SlLaysW.n5 Tryz.prog Tryz.mcWSp_ren:={
 mixed:=by kernel_rfl
 f5:=⟨Tryz.f95.name,by decide,Tryz.func95.trans (congrArg some (by kernel_rfl))⟩
 f7:=Tryz.func138.trans (congrArg some (by kernel_rfl))
 t4:=Tryz.underlying4
 a4:=Tryz.isAgg4
 z4:=Tryz.sizeOf4
 v4:=Tryz.zeroValue4
 t20:=Tryz.underlying20
 a20:=Tryz.isAgg20
 z20:=Tryz.sizeOf20
 v20:=Tryz.zeroValue20
 t23:=Tryz.underlying106
 a23:=Tryz.isAgg106
 z23:=Tryz.sizeOf106
 v23:=Tryz.zeroValue106 }
end Go.Proofs
namespace Go.Proofs.YtkbjbnkkfifbmaaGreat
open Go Go.RowKit Go.Eng
set_option linter.unusedVariables false
set_option maxRecDepth 10000
set_option maxHeartbeats 4000000
theorem P1 {κ ν:Type} {kf:κ→Value} {vf:ν→Value} {m i:Nat} {B:List (κ×ν)} {ρ:Go.Shelf.Ren} (L:Go.Proofs.SlLaysW.n5 Tryz.prog ρ) (w0 w1:World) {H:List Res} (hS:St w0 H w1) (hi:H[i]? = some (A0 kf vf m B)) :
  B1 Tryz.prog (ρ.f 5) #[.map (some m)] w1 (fun v w=>∃m',v=.map (some m')∧St w0 (A0 kf vf m' B::H) w):=by
 obtain ⟨es,c,h1,h2,h3,h4⟩:=hS.res hi;refine Calls.mono (Go.Proofs.AnyW.maps_Clone L m es.toArray c w1 h1) ?_;rintro e w ⟨rfl,rfl⟩;refine ⟨_,rfl,w1.heap.size,rfl,?_⟩;exact hS.push ((Below.refl _ w1).alloc (Nat.le_refl _) _) ⟨es,c,World.alloc_heap_new w1 _,h2,h3,h4⟩ (fun b hb=>by rw [show b=w1.heap.size from hb];exact Nat.le_refl _)
theorem N5 (F:Nat) (p0:mosaic_Node) (res:mosaic_Node) (h:M3 F p0=some res) (μ:Frz) (w0 w1:World) (T_:List Res) (hlow:B2 w0 μ) {cb0:Nat} {ad1:Option Addr} {cap2:Nat} {m4:Nat} {m5:Nat} {B6:List (mosaic_Key×Value)} {m8:Nat} {B9:List (mosaic_where×Value)} (hA3:ArrM μ 10 mosaic_Radar.cells ad1 cap2 p0.spec.Radars) (hq7:MapQ 1 Rp47 μ B6 p0.kept) (hq10:MapM 2 api_Span.cells μ B9 p0.looks) (hS:St w0 (Cl w0.heap.size μ::blk cb0 108 #[.int .i64 p0.spec.Grid.X,.int .i64 p0.spec.Grid.Y,.int .i64 p0.spec.Grid.Size,.int .i64 p0.spec.Grid.Wide,.int .i64 p0.spec.Grid.High,.int .i64 p0.spec.Earth.Lo,.int .i64 p0.spec.Earth.Hi,.slice ad1 p0.spec.Radars.length cap2,.int .i64 p0.spec.Age,.map (some m4),.int .i64 p0.horizon,.map (some m5),.int .i64 p0.count,.map (some m8)]::A0 Value.string (fA mosaic_Radar.cells) m4 p0.radars::A0 (fA mosaic_Key.cells) (fun v=>v) m5 B6::A0 (fA mosaic_where.cells) (fun v=>v) m8 B9::T_) w1):B1 Tryz.prog 33 #[.pointer (some ⟨cb0,0,none⟩)] w1 (fun e w=>∃(ν_:Frz) (b10:Nat) (ad11:Option Addr) (cap12:Nat) (m13:Nat) (B14:List (mosaic_Key×Value)) (m15:Nat) (B16:List (mosaic_where×Value)),μ.ext w0.heap.size ν_∧B2 w0 ν_∧e=(.pointer (some ⟨b10,0,none⟩))∧(ArrM ν_ 10 mosaic_Radar.cells ad11 cap12 res.spec.Radars)∧(MapQ 1 Rp47 ν_ B14 res.kept)∧(MapM 2 api_Span.cells ν_ B16 res.looks)∧St w0 (Cl w0.heap.size ν_::blk b10 108 #[.int .i64 res.spec.Grid.X,.int .i64 res.spec.Grid.Y,.int .i64 res.spec.Grid.Size,.int .i64 res.spec.Grid.Wide,.int .i64 res.spec.Grid.High,.int .i64 res.spec.Earth.Lo,.int .i64 res.spec.Earth.Hi,.slice ad11 res.spec.Radars.length cap12,.int .i64 res.spec.Age,.map (some m4),.int .i64 res.horizon,.map (some m13),.int .i64 res.count,.map (some m15)]::A0 (fA mosaic_Key.cells) (fun v=>v) m13 B14::A0 (fA mosaic_where.cells) (fun v=>v) m15 B16::blk cb0 108 #[.int .i64 p0.spec.Grid.X,.int .i64 p0.spec.Grid.Y,.int .i64 p0.spec.Grid.Size,.int .i64 p0.spec.Grid.Wide,.int .i64 p0.spec.Grid.High,.int .i64 p0.spec.Earth.Lo,.int .i64 p0.spec.Earth.Hi,.slice ad1 p0.spec.Radars.length cap2,.int .i64 p0.spec.Age,.map (some m4),.int .i64 p0.horizon,.map (some m5),.int .i64 p0.count,.map (some m8)]::A0 Value.string (fA mosaic_Radar.cells) m4 p0.radars::A0 (fA mosaic_Key.cells) (fun v=>v) m5 B6::A0 (fA mosaic_where.cells) (fun v=>v) m8 B9::T_) w):=by
 cases h
 refine feW Tryz.func33 21 [(0,pb cb0)] hS fun a w hF hS=>?_;refine qnB [] hF fun a hF=>?_;refine Ah<|esr<|qn 1 1 [(4,pb cb0)] hF fun a hF=>?_;replace hS:=hS.s1;refine SK.wi (qR (fun v=>[(5,v)]) hF (Lt cb0 m5 #[.int .i64 p0.spec.Grid.X,.int .i64 p0.spec.Grid.Y,.int .i64 p0.spec.Grid.Size,.int .i64 p0.spec.Grid.Wide,.int .i64 p0.spec.Grid.High,.int .i64 p0.spec.Earth.Lo,.int .i64 p0.spec.Earth.Hi,.slice ad1 p0.spec.Radars.length cap2,.int .i64 p0.spec.Age,.map (some m4),.int .i64 p0.horizon,.map (some m5),.int .i64 p0.count,.map (some m8)] rfl w0 w _ hS) ?_);rintro v w a ⟨rfl,hS⟩ hF;refine WI.fin rfl<|A6 ?_;refine Dt hF rfl (fun hc=>by cases hc) fun _=>?_
 refine wpIn_skip (A6 ?_);refine esr<|qo 3 3 [(8,.agg #[.int .i64 p0.spec.Grid.X,.int .i64 p0.spec.Grid.Y,.int .i64 p0.spec.Grid.Size,.int .i64 p0.spec.Grid.Wide,.int .i64 p0.spec.Grid.High,.int .i64 p0.spec.Earth.Lo,.int .i64 p0.spec.Earth.Hi,.slice ad1 p0.spec.Radars.length cap2,.int .i64 p0.spec.Age,.map (some m4),.int .i64 p0.horizon,.map (some m5),.int .i64 p0.count,.map (some m8)])] hF (oN 108 0 0 14 hS.i rfl<|A3) fun a hF=>?_;refine SK.wi (qA 108 #[.int .i64 0,.int .i64 0,.int .i64 0,.int .i64 0,.int .i64 0,.int .i64 0,.int .i64 0,.slice none 0 0,.int .i64 0,.map none,.int .i64 0,.map none,.int .i64 0,.map none] (fun b=>[(3,pb b)]) hF hS fun b w a hF hS=>?_);refine SK.wi (qw 108 0 #[.int .i64 p0.spec.Grid.X,.int .i64 p0.spec.Grid.Y,.int .i64 p0.spec.Grid.Size,.int .i64 p0.spec.Grid.Wide,.int .i64 p0.spec.Grid.High,.int .i64 p0.spec.Earth.Lo,.int .i64 p0.spec.Earth.Hi,.slice ad1 p0.spec.Radars.length cap2,.int .i64 p0.spec.Age,.map (some m4),.int .i64 p0.horizon,.map (some m5),.int .i64 p0.count,.map (some m8)] hF hS rfl fun w a hF hS=>wfn rfl ?_);replace hS:St w0 (blk b 108 #[.int .i64 p0.spec.Grid.X,.int .i64 p0.spec.Grid.Y,.int .i64 p0.spec.Grid.Size,.int .i64 p0.spec.Grid.Wide,.int .i64 p0.spec.Grid.High,.int .i64 p0.spec.Earth.Lo,.int .i64 p0.spec.Earth.Hi,.slice ad1 p0.spec.Radars.length cap2,.int .i64 p0.spec.Age,.map (some m4),.int .i64 p0.horizon,.map (some m5),.int .i64 p0.count,.map (some m8)]::blk cb0 108 #[.int .i64 p0.spec.Grid.X,.int .i64 p0.spec.Grid.Y,.int .i64 p0.spec.Grid.Size,.int .i64 p0.spec.Grid.Wide,.int .i64 p0.spec.Grid.High,.int .i64 p0.spec.Earth.Lo,.int .i64 p0.spec.Earth.Hi,.slice ad1 p0.spec.Radars.length cap2,.int .i64 p0.spec.Age,.map (some m4),.int .i64 p0.horizon,.map (some m5),.int .i64 p0.count,.map (some m8)]::Cl w0.heap.size μ::A0 Value.string (fA mosaic_Radar.cells) m4 p0.radars::A0 (fA mosaic_Key.cells) (fun v=>v) m5 B6::A0 (fA mosaic_where.cells) (fun v=>v) m8 B9::T_) w:=hS;refine Ah<|Al 14 [4,9,11,13] _ (D:=fun w=>St w0 [blk cb0 108 #[.int .i64 p0.spec.Grid.X,.int .i64 p0.spec.Grid.Y,.int .i64 p0.spec.Grid.Size,.int .i64 p0.spec.Grid.Wide,.int .i64 p0.spec.Grid.High,.int .i64 p0.spec.Earth.Lo,.int .i64 p0.spec.Earth.Hi,.slice ad1 p0.spec.Radars.length cap2,.int .i64 p0.spec.Age,.map (some m4),.int .i64 p0.horizon,.map (some m5),.int .i64 p0.count,.map (some m8)]] w) (by kernel_rfl) (by kernel_rfl) hF.size (fun w hx=>?_) (fun _ _ h=>h);replace hS:=hS.later hx;refine ⟨St.pick [1] (by decide) hS,?_⟩;refine WT.s [0,1,2,3,5,6,7,8] [4] (by kernel_rfl) (by kernel_rfl) ?_;refine qC 8 [(12,.map (some m5)),(17,.map (some m8))] hF (oL 105 0 11 (fun _ hd=>hd) rfl rfl<|oL 106 0 13 (fun _ hd=>hd) rfl rfl<|A3) fun a hF=>?_;refine WRun.fin<|all_cons ?_ Af;refine qR (fun v=>[(13,v)]) hF (P1 (i:=4) Tryz.mcKSp w0 w hS rfl) ?_;rintro v w a ⟨m13,rfl,hS⟩ hF;refine ⟨St.pick [2] (by decide) hS,?_⟩;refine WT.s [] [9] (by kernel_rfl) (by kernel_rfl) ?_;refine WRun.fin<|all_cons ?_ Af;refine qR (fun v=>[(18,v)]) hF (P1 (i:=6) Tryz.mcWSp w0 w hS rfl) ?_;rintro v w a ⟨m15,rfl,hS⟩ hF;refine ⟨St.pick [3] (by decide) hS,?_⟩;refine WT.s [10] [11] (by kernel_rfl) (by kernel_rfl) ?_;refine qC 1 [(19,.pointer (some ⟨b,11,none⟩))] hF A3 fun a hF=>?_;refine WRun.fin<|all_cons ?_ Af;refine qS 105 2 11 (.map (some m13)) #[.int .i64 p0.spec.Grid.X,.int .i64 p0.spec.Grid.Y,.int .i64 p0.spec.Grid.Size,.int .i64 p0.spec.Grid.Wide,.int .i64 p0.spec.Grid.High,.int .i64 p0.spec.Earth.Lo,.int .i64 p0.spec.Earth.Hi,.slice ad1 p0.spec.Radars.length cap2,.int .i64 p0.spec.Age,.map (some m4),.int .i64 p0.horizon,.map (some m13),.int .i64 p0.count,.map (some m8)] hF hS rfl fun w a hF hS=>?_;refine ⟨St.pick [3] (by decide) hS,?_⟩;refine WT.s [12] [13] (by kernel_rfl) (by kernel_rfl) ?_;refine qC 1 [(20,.pointer (some ⟨b,13,none⟩))] hF A3 fun a hF=>?_;refine WRun.fin<|all_cons ?_ Af;refine qS 106 2 13 (.map (some m15)) #[.int .i64 p0.spec.Grid.X,.int .i64 p0.spec.Grid.Y,.int .i64 p0.spec.Grid.Size,.int .i64 p0.spec.Grid.Wide,.int .i64 p0.spec.Grid.High,.int .i64 p0.spec.Earth.Lo,.int .i64 p0.spec.Earth.Hi,.slice ad1 p0.spec.Radars.length cap2,.int .i64 p0.spec.Age,.map (some m4),.int .i64 p0.horizon,.map (some m13),.int .i64 p0.count,.map (some m15)] hF hS rfl fun w a hF hS=>?_
 refine ⟨St.pick [3] (by decide) hS,?_⟩;refine WT.z [] (by kernel_rfl)<|WRun.fin ?_;refine wfn rfl ?_;refine esr<|rn 1 1 [(2,pb b)] hF fun a hF=>wfn rfl ?_;refine wpIn_ret (A5 [.tmp 2] [_] hF rfl ⟨rfl,trivial⟩ ⟨_,rfl,μ,b,ad1,cap2,m13,B6,m15,B9,Frz.ext_refl _ _,hlow,rfl,hA3,hq7,hq10,?_⟩);exact St.pickT (A:=[A0 (fA mosaic_where.cells) (fun v=>v) m15 B9,A0 (fA mosaic_Key.cells) (fun v=>v) m13 B6,blk b 108 #[.int .i64 p0.spec.Grid.X,.int .i64 p0.spec.Grid.Y,.int .i64 p0.spec.Grid.Size,.int .i64 p0.spec.Grid.Wide,.int .i64 p0.spec.Grid.High,.int .i64 p0.spec.Earth.Lo,.int .i64 p0.spec.Earth.Hi,.slice ad1 p0.spec.Radars.length cap2,.int .i64 p0.spec.Age,.map (some m4),.int .i64 p0.horizon,.map (some m13),.int .i64 p0.count,.map (some m15)],blk cb0 108 #[.int .i64 p0.spec.Grid.X,.int .i64 p0.spec.Grid.Y,.int .i64 p0.spec.Grid.Size,.int .i64 p0.spec.Grid.Wide,.int .i64 p0.spec.Grid.High,.int .i64 p0.spec.Earth.Lo,.int .i64 p0.spec.Earth.Hi,.slice ad1 p0.spec.Radars.length cap2,.int .i64 p0.spec.Age,.map (some m4),.int .i64 p0.horizon,.map (some m5),.int .i64 p0.count,.map (some m8)],Cl w0.heap.size μ,A0 Value.string (fA mosaic_Radar.cells) m4 p0.radars,A0 (fA mosaic_Key.cells) (fun v=>v) m5 B6,A0 (fA mosaic_where.cells) (fun v=>v) m8 B9]) (T:=T_) [4,2,1,0,3,5,6,7] (by decide) hS
end Go.Proofs.YtkbjbnkkfifbmaaGreat
