import Derived.Shelf.SlMaps.Clone
import Derived.Test.YtjfhcbjhjeklbaaGreatT3WnK
set_option linter.unusedVariables false
set_option linter.unusedSimpArgs false
set_option linter.unusedSectionVars false
namespace Go.Proofs
open Go.Shelf
def Tryz.mcKSp_ren:Go.Shelf.Ren:=⟨fun|5=>65|7=>95|n=>n,fun|23=>98|25=>63|3=>160|n=>n,fun|n=>n⟩
theorem Tryz.mcKSp:Go.Proofs.SlLaysW.n5 Tryz.prog Tryz.mcKSp_ren:={
 mixed:=by kernel_rfl
 f5:=⟨Tryz.f65.name,by decide,Tryz.func65.trans (congrArg some (by kernel_rfl))⟩
 f7:=Tryz.func95.trans (congrArg some (by kernel_rfl))
 t4:=Tryz.underlying4
 a4:=Tryz.isAgg4
 z4:=Tryz.sizeOf4
 v4:=Tryz.zeroValue4
 t20:=Tryz.underlying20
 a20:=Tryz.isAgg20
 z20:=Tryz.sizeOf20
 v20:=Tryz.zeroValue20
 t23:=Tryz.underlying98
 a23:=Tryz.isAgg98
 z23:=Tryz.sizeOf98
 v23:=Tryz.zeroValue98 }
def Tryz.mcWSp_ren:Go.Shelf.Ren:=⟨fun|5=>66|7=>95|n=>n,fun|23=>99|25=>163|3=>131|n=>n,fun|n=>n⟩
theorem Tryz.mcWSp:Go.Proofs.SlLaysW.n5 Tryz.prog Tryz.mcWSp_ren:={
 mixed:=by kernel_rfl
 f5:=⟨Tryz.f66.name,by decide,Tryz.func66.trans (congrArg some (by kernel_rfl))⟩
 f7:=Tryz.func95.trans (congrArg some (by kernel_rfl))
 t4:=Tryz.underlying4
 a4:=Tryz.isAgg4
 z4:=Tryz.sizeOf4
 v4:=Tryz.zeroValue4
 t20:=Tryz.underlying20
 a20:=Tryz.isAgg20
 z20:=Tryz.sizeOf20
 v20:=Tryz.zeroValue20
 t23:=Tryz.underlying99
 a23:=Tryz.isAgg99
 z23:=Tryz.sizeOf99
 v23:=Tryz.zeroValue99 }
end Go.Proofs
namespace Go.Proofs.YtjfhcbjhjeklbaaGreat
open Go Go.RowKit Go.Eng
set_option linter.unusedVariables false
set_option maxRecDepth 10000
set_option maxHeartbeats 4000000
theorem A00 {κ ν:Type} {kf:κ->Value} {vf:ν->Value} {m i:Nat} {B:List (κ×ν)} {ρ:Go.Shelf.Ren} (L:Go.Proofs.SlLaysW.n5 Tryz.prog ρ) (w0 w1:World) {H:List Res} (hS:St w0 H w1) (hi:H[i]? = some (A0 kf vf m B)) :
  Fg Tryz.prog (ρ.f 5) #[.map (some m)] w1 (λv w=>∃m',v=.map (some m')/\St w0 (A0 kf vf m' B::H) w):=by
 obtain ⟨es,c,h1,h2,h3,h4⟩:=hS.res hi;refine Calls.mono (Go.Proofs.AnyW.maps_Clone L m es.toArray c w1 h1) ?_;rintro e w ⟨rfl,rfl⟩;refine ⟨_,rfl,w1.heap.size,rfl,?_⟩;exact hS.push ((Below.refl _ w1).alloc (Nat.le_refl _) _) ⟨es,c,World.alloc_heap_new w1 _,h2,h3,h4⟩ (λb hb=>by rw [show b=w1.heap.size from hb];exact Nat.le_refl _)
theorem Ys (F:Nat) (p0:mosaic_Node) (res:mosaic_Node) (h:X8 F p0=some res) (μ:Frz) (w0 w1:World) (T_:List Res) (hlow:Ak w0 μ) {cb0:Nat} {ad1:Option Addr} {cap2:Nat} {m4:Nat} {m5:Nat} {B6:List (mosaic_Key×Value)} {m8:Nat} {B9:List (mosaic_where×Value)} (hA3:ArrM μ 10 mosaic_Radar.cells ad1 cap2 p0.spec.Radars) (hq7:MapQ 1 Rp53 μ B6 p0.kept) (hq10:MapM 2 api_Span.cells μ B9 p0.looks) (hS:St w0 (Eo w0.heap.size μ::blk cb0 101 #[.int .i64 p0.spec.Grid.X,.int .i64 p0.spec.Grid.Y,.int .i64 p0.spec.Grid.Size,.int .i64 p0.spec.Grid.Wide,.int .i64 p0.spec.Grid.High,.int .i64 p0.spec.Earth.Lo,.int .i64 p0.spec.Earth.Hi,.slice ad1 p0.spec.Radars.length cap2,.int .i64 p0.spec.Age,.map (some m4),.int .i64 p0.horizon,.map (some m5),.int .i64 p0.count,.map (some m8)]::A0 Value.string (fA mosaic_Radar.cells) m4 p0.radars::A0 (fA mosaic_Key.cells) (λv=>v) m5 B6::A0 (fA mosaic_where.cells) (λv=>v) m8 B9::T_) w1):Fg Tryz.prog 32 #[.pointer (some ⟨cb0,0,none⟩)] w1 (λe w=>∃(ν_:Frz) (b10:Nat) (ad11:Option Addr) (cap12:Nat) (m13:Nat) (B14:List (mosaic_Key×Value)) (m15:Nat) (B16:List (mosaic_where×Value)),μ.ext w0.heap.size ν_/\Ak w0 ν_/\e=(.pointer (some ⟨b10,0,none⟩))/\(ArrM ν_ 10 mosaic_Radar.cells ad11 cap12 res.spec.Radars)/\(MapQ 1 Rp53 ν_ B14 res.kept)/\(MapM 2 api_Span.cells ν_ B16 res.looks)/\St w0 (Eo w0.heap.size ν_::blk b10 101 #[.int .i64 res.spec.Grid.X,.int .i64 res.spec.Grid.Y,.int .i64 res.spec.Grid.Size,.int .i64 res.spec.Grid.Wide,.int .i64 res.spec.Grid.High,.int .i64 res.spec.Earth.Lo,.int .i64 res.spec.Earth.Hi,.slice ad11 res.spec.Radars.length cap12,.int .i64 res.spec.Age,.map (some m4),.int .i64 res.horizon,.map (some m13),.int .i64 res.count,.map (some m15)]::A0 (fA mosaic_Key.cells) (λv=>v) m13 B14::A0 (fA mosaic_where.cells) (λv=>v) m15 B16::blk cb0 101 #[.int .i64 p0.spec.Grid.X,.int .i64 p0.spec.Grid.Y,.int .i64 p0.spec.Grid.Size,.int .i64 p0.spec.Grid.Wide,.int .i64 p0.spec.Grid.High,.int .i64 p0.spec.Earth.Lo,.int .i64 p0.spec.Earth.Hi,.slice ad1 p0.spec.Radars.length cap2,.int .i64 p0.spec.Age,.map (some m4),.int .i64 p0.horizon,.map (some m5),.int .i64 p0.count,.map (some m8)]::A0 Value.string (fA mosaic_Radar.cells) m4 p0.radars::A0 (fA mosaic_Key.cells) (λv=>v) m5 B6::A0 (fA mosaic_where.cells) (λv=>v) m8 B9::T_) w):=by
 cases h
 refine feW Tryz.func32 21 [(0,pb cb0)] hS λa w hF hS=>?_;refine qnB [] hF λa hF=>?_;refine Ad<|esr<|qn 1 1 [(4,pb cb0)] hF λa hF=>?_;replace hS:=hS.s1;refine SK.wi (qR (λv=>[(5,v)]) hF (A03 cb0 m5 #[.int .i64 p0.spec.Grid.X,.int .i64 p0.spec.Grid.Y,.int .i64 p0.spec.Grid.Size,.int .i64 p0.spec.Grid.Wide,.int .i64 p0.spec.Grid.High,.int .i64 p0.spec.Earth.Lo,.int .i64 p0.spec.Earth.Hi,.slice ad1 p0.spec.Radars.length cap2,.int .i64 p0.spec.Age,.map (some m4),.int .i64 p0.horizon,.map (some m5),.int .i64 p0.count,.map (some m8)] rfl w0 w _ hS) ?_);rintro v w a ⟨rfl,hS⟩ hF;refine WI.fin rfl<|A7 ?_;refine Ns hF rfl (λhc=>by cases hc) λ_=>?_
 refine wpIn_skip (A7 ?_);refine esr<|qo 3 3 [(8,.agg #[.int .i64 p0.spec.Grid.X,.int .i64 p0.spec.Grid.Y,.int .i64 p0.spec.Grid.Size,.int .i64 p0.spec.Grid.Wide,.int .i64 p0.spec.Grid.High,.int .i64 p0.spec.Earth.Lo,.int .i64 p0.spec.Earth.Hi,.slice ad1 p0.spec.Radars.length cap2,.int .i64 p0.spec.Age,.map (some m4),.int .i64 p0.horizon,.map (some m5),.int .i64 p0.count,.map (some m8)])] hF (oN 101 0 0 14 hS.i rfl<|A6) λa hF=>?_;refine SK.wi (qA 101 #[.int .i64 0,.int .i64 0,.int .i64 0,.int .i64 0,.int .i64 0,.int .i64 0,.int .i64 0,.slice none 0 0,.int .i64 0,.map none,.int .i64 0,.map none,.int .i64 0,.map none] (λb=>[(3,pb b)]) hF hS λb w a hF hS=>?_);refine SK.wi (qw 101 0 #[.int .i64 p0.spec.Grid.X,.int .i64 p0.spec.Grid.Y,.int .i64 p0.spec.Grid.Size,.int .i64 p0.spec.Grid.Wide,.int .i64 p0.spec.Grid.High,.int .i64 p0.spec.Earth.Lo,.int .i64 p0.spec.Earth.Hi,.slice ad1 p0.spec.Radars.length cap2,.int .i64 p0.spec.Age,.map (some m4),.int .i64 p0.horizon,.map (some m5),.int .i64 p0.count,.map (some m8)] hF hS rfl λw a hF hS=>wfn rfl ?_);replace hS:St w0 (blk b 101 #[.int .i64 p0.spec.Grid.X,.int .i64 p0.spec.Grid.Y,.int .i64 p0.spec.Grid.Size,.int .i64 p0.spec.Grid.Wide,.int .i64 p0.spec.Grid.High,.int .i64 p0.spec.Earth.Lo,.int .i64 p0.spec.Earth.Hi,.slice ad1 p0.spec.Radars.length cap2,.int .i64 p0.spec.Age,.map (some m4),.int .i64 p0.horizon,.map (some m5),.int .i64 p0.count,.map (some m8)]::blk cb0 101 #[.int .i64 p0.spec.Grid.X,.int .i64 p0.spec.Grid.Y,.int .i64 p0.spec.Grid.Size,.int .i64 p0.spec.Grid.Wide,.int .i64 p0.spec.Grid.High,.int .i64 p0.spec.Earth.Lo,.int .i64 p0.spec.Earth.Hi,.slice ad1 p0.spec.Radars.length cap2,.int .i64 p0.spec.Age,.map (some m4),.int .i64 p0.horizon,.map (some m5),.int .i64 p0.count,.map (some m8)]::Eo w0.heap.size μ::A0 Value.string (fA mosaic_Radar.cells) m4 p0.radars::A0 (fA mosaic_Key.cells) (λv=>v) m5 B6::A0 (fA mosaic_where.cells) (λv=>v) m8 B9::T_) w:=hS;refine Ad<|An 14 [4,9,11,13] _ (D:=λw=>St w0 [blk cb0 101 #[.int .i64 p0.spec.Grid.X,.int .i64 p0.spec.Grid.Y,.int .i64 p0.spec.Grid.Size,.int .i64 p0.spec.Grid.Wide,.int .i64 p0.spec.Grid.High,.int .i64 p0.spec.Earth.Lo,.int .i64 p0.spec.Earth.Hi,.slice ad1 p0.spec.Radars.length cap2,.int .i64 p0.spec.Age,.map (some m4),.int .i64 p0.horizon,.map (some m5),.int .i64 p0.count,.map (some m8)]] w) (by kernel_rfl) (by kernel_rfl) hF.size (λw hx=>?_) (λ_ _ h=>h);replace hS:=hS.later hx;refine ⟨St.pick [1] (by decide) hS,?_⟩;refine WT.s [0,1,2,3,5,6,7,8] [4] (by kernel_rfl) (by kernel_rfl) ?_;refine qC 8 [(12,.map (some m5)),(17,.map (some m8))] hF (oL 98 0 11 (λ_ hd=>hd) rfl rfl<|oL 99 0 13 (λ_ hd=>hd) rfl rfl<|A6) λa hF=>?_;refine WRun.fin<|all_cons ?_ Av;refine qR (λv=>[(13,v)]) hF (A00 (i:=4) Tryz.mcKSp w0 w hS rfl) ?_;rintro v w a ⟨m13,rfl,hS⟩ hF;refine ⟨St.pick [2] (by decide) hS,?_⟩;refine WT.s [] [9] (by kernel_rfl) (by kernel_rfl) ?_;refine WRun.fin<|all_cons ?_ Av;refine qR (λv=>[(18,v)]) hF (A00 (i:=6) Tryz.mcWSp w0 w hS rfl) ?_;rintro v w a ⟨m15,rfl,hS⟩ hF;refine ⟨St.pick [3] (by decide) hS,?_⟩;refine WT.s [10] [11] (by kernel_rfl) (by kernel_rfl) ?_;refine qC 1 [(19,.pointer (some ⟨b,11,none⟩))] hF A6 λa hF=>?_;refine WRun.fin<|all_cons ?_ Av;refine qS 98 2 11 (.map (some m13)) #[.int .i64 p0.spec.Grid.X,.int .i64 p0.spec.Grid.Y,.int .i64 p0.spec.Grid.Size,.int .i64 p0.spec.Grid.Wide,.int .i64 p0.spec.Grid.High,.int .i64 p0.spec.Earth.Lo,.int .i64 p0.spec.Earth.Hi,.slice ad1 p0.spec.Radars.length cap2,.int .i64 p0.spec.Age,.map (some m4),.int .i64 p0.horizon,.map (some m13),.int .i64 p0.count,.map (some m8)] hF hS rfl λw a hF hS=>?_;refine ⟨St.pick [3] (by decide) hS,?_⟩;refine WT.s [12] [13] (by kernel_rfl) (by kernel_rfl) ?_;refine qC 1 [(20,.pointer (some ⟨b,13,none⟩))] hF A6 λa hF=>?_;refine WRun.fin<|all_cons ?_ Av;refine qS 99 2 13 (.map (some m15)) #[.int .i64 p0.spec.Grid.X,.int .i64 p0.spec.Grid.Y,.int .i64 p0.spec.Grid.Size,.int .i64 p0.spec.Grid.Wide,.int .i64 p0.spec.Grid.High,.int .i64 p0.spec.Earth.Lo,.int .i64 p0.spec.Earth.Hi,.slice ad1 p0.spec.Radars.length cap2,.int .i64 p0.spec.Age,.map (some m4),.int .i64 p0.horizon,.map (some m13),.int .i64 p0.count,.map (some m15)] hF hS rfl λw a hF hS=>?_
 refine ⟨St.pick [3] (by decide) hS,?_⟩;refine WT.z [] (by kernel_rfl)<|WRun.fin ?_;refine wfn rfl ?_;refine esr<|rn 1 1 [(2,pb b)] hF λa hF=>wfn rfl ?_;refine wpIn_ret (Bz [.tmp 2] [_] hF rfl ⟨rfl,trivial⟩ ⟨_,rfl,μ,b,ad1,cap2,m13,B6,m15,B9,Frz.ext_refl _ _,hlow,rfl,hA3,hq7,hq10,?_⟩);exact St.pickT (A:=[A0 (fA mosaic_where.cells) (λv=>v) m15 B9,A0 (fA mosaic_Key.cells) (λv=>v) m13 B6,blk b 101 #[.int .i64 p0.spec.Grid.X,.int .i64 p0.spec.Grid.Y,.int .i64 p0.spec.Grid.Size,.int .i64 p0.spec.Grid.Wide,.int .i64 p0.spec.Grid.High,.int .i64 p0.spec.Earth.Lo,.int .i64 p0.spec.Earth.Hi,.slice ad1 p0.spec.Radars.length cap2,.int .i64 p0.spec.Age,.map (some m4),.int .i64 p0.horizon,.map (some m13),.int .i64 p0.count,.map (some m15)],blk cb0 101 #[.int .i64 p0.spec.Grid.X,.int .i64 p0.spec.Grid.Y,.int .i64 p0.spec.Grid.Size,.int .i64 p0.spec.Grid.Wide,.int .i64 p0.spec.Grid.High,.int .i64 p0.spec.Earth.Lo,.int .i64 p0.spec.Earth.Hi,.slice ad1 p0.spec.Radars.length cap2,.int .i64 p0.spec.Age,.map (some m4),.int .i64 p0.horizon,.map (some m5),.int .i64 p0.count,.map (some m8)],Eo w0.heap.size μ,A0 Value.string (fA mosaic_Radar.cells) m4 p0.radars,A0 (fA mosaic_Key.cells) (λv=>v) m5 B6,A0 (fA mosaic_where.cells) (λv=>v) m8 B9]) (T:=T_) [4,2,1,0,3,5,6,7] (by decide) hS
end Go.Proofs.YtjfhcbjhjeklbaaGreat
