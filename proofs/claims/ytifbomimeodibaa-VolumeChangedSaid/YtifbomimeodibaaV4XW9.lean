import Derived.Test.YtifbomimeodibaaV4XD
import Derived.Test.YtifbomimeodibaaProg
import Derived.Test.YtifbomimeodibaaV4XW1
import Derived.Test.YtifbomimeodibaaV4XW3
import Derived.Test.YtifbomimeodibaaV4XW6
import Derived.Test.YtifbomimeodibaaV4XW7
namespace Go.Proofs.Ytifbomimeodibaa
open Go Go.RowKit Go.Eng
set_option maxRecDepth 10000
set_option maxHeartbeats 4000000
set_option linter.unusedVariables false
set_option linter.unusedSimpArgs false
theorem Km (F:Nat) (p0:volume_sweep) (res:Int) (h:D8 F p0=some res) (μ:Frz) (w0:World) (hm:FrzAt μ w0) {ad1:Option Addr} {cap2:Nat} {css3:List (List Value)} (hA4:ArrQ μ 1 Rp83 ad1 cap2 css3 p0.Sweep.Rays):Calls Try.prog 85 #[.agg #[.string p0.Sweep.Site.Name,iv p0.Sweep.Site.X,iv p0.Sweep.Site.Y,iv p0.Sweep.Site.Z,iv p0.Sweep.Site.Rose,iv p0.Sweep.Site.Gates,iv p0.Sweep.Site.Step,iv p0.Sweep.Site.Width,iv p0.Sweep.Tilt,iv p0.Sweep.Time,sv ad1 p0.Sweep.Rays cap2]] w0 (fun e w=>e=.returned (iv res)∧Ext w0 w):=by
 obtain ⟨hlow,hS⟩:=hm.init
 have hext:=Frz.ext_refl w0.heap.size μ
 rw [D8] at h
 refine Aq Try.func85 rfl 6 [(0,.agg #[.string p0.Sweep.Site.Name,iv p0.Sweep.Site.X,iv p0.Sweep.Site.Y,iv p0.Sweep.Site.Z,iv p0.Sweep.Site.Rose,iv p0.Sweep.Site.Gates,iv p0.Sweep.Site.Step,iv p0.Sweep.Site.Width,iv p0.Sweep.Tilt,iv p0.Sweep.Time,sv ad1 p0.Sweep.Rays cap2])] rfl rfl kr fun a w hw hF=>?_
 replace hS:=hS.cast hw
 clear hw
 refine esr ?_
 refine SK.wi (H4 (t:=112) (fun b5=>[(1,pb b5)]) (.agg #[.string p0.Sweep.Site.Name,iv p0.Sweep.Site.X,iv p0.Sweep.Site.Y,iv p0.Sweep.Site.Z,iv p0.Sweep.Site.Rose,iv p0.Sweep.Site.Gates,iv p0.Sweep.Site.Step,iv p0.Sweep.Site.Width,iv p0.Sweep.Tilt,iv p0.Sweep.Time,sv ad1 p0.Sweep.Rays cap2]) #[.string p0.Sweep.Site.Name,iv p0.Sweep.Site.X,iv p0.Sweep.Site.Y,iv p0.Sweep.Site.Z,iv p0.Sweep.Site.Rose,iv p0.Sweep.Site.Gates,iv p0.Sweep.Site.Step,iv p0.Sweep.Site.Width,iv p0.Sweep.Tilt,iv p0.Sweep.Time,sv ad1 p0.Sweep.Rays cap2] hF hS kr ⟨kr⟩ kr (fun _=>⟨kr⟩) fun b5 w a hF hS=>?_)
 refine rn 1 2 [(1,pb b5)] hF fun a hF=>?_
 refine wfn rfl ?_
 refine esr ?_
 replace h:=A4 h
 obtain ⟨y6,hy6,h⟩:=h
 refine rx 4 [.run [] (Instr.loadAt 39 (pb b5)) (.agg #[.string p0.Sweep.Site.Name,iv p0.Sweep.Site.X,iv p0.Sweep.Site.Y,iv p0.Sweep.Site.Z,iv p0.Sweep.Site.Rose,iv p0.Sweep.Site.Gates,iv p0.Sweep.Site.Step,iv p0.Sweep.Site.Width,iv p0.Sweep.Tilt,iv p0.Sweep.Time,sv ad1 p0.Sweep.Rays cap2]),.call [] 90 #[.agg #[.string p0.Sweep.Site.Name,iv p0.Sweep.Site.X,iv p0.Sweep.Site.Y,iv p0.Sweep.Site.Z,iv p0.Sweep.Site.Rose,iv p0.Sweep.Site.Gates,iv p0.Sweep.Site.Step,iv p0.Sweep.Site.Width,iv p0.Sweep.Tilt,iv p0.Sweep.Time,sv ad1 p0.Sweep.Rays cap2]] (iv y6)] 4 [(2,iv y6)] hF (A0 (obN (us:=[.string p0.Sweep.Site.Name,iv p0.Sweep.Site.X,iv p0.Sweep.Site.Y,iv p0.Sweep.Site.Z,iv p0.Sweep.Site.Rose,iv p0.Sweep.Site.Gates,iv p0.Sweep.Site.Step,iv p0.Sweep.Site.Width,iv p0.Sweep.Tilt,iv p0.Sweep.Time,sv ad1 p0.Sweep.Rays cap2]) kr (fun _ hd=>((hS.later hd).blk (i:=0) rfl).cells rfl)) (A0 (show Ob.ok _ Ext _ _ from fun hk w2 hd=>Pn F p0.Sweep _ ((fun _=>hy6) hk) _ w2 (A7 w2) (hA4.mono Rp83.mono (FrzAt.le_mem ((hS.later hd).frz (i:=1) rfl hlow)))) Aa)) fun a w hF hx=>?_
 replace hS:=hS.later hx
 refine wfn rfl ?_
 refine wpIn_ret (Ak [.tmp 2] [iv y6] hF rfl ⟨rfl,trivial⟩ ?_)
 have hr_:=Option.some.inj h
 subst hr_
 exact ⟨rfl,hS.ext⟩
theorem Kl (F:Nat) (p0:volume_field) (res:Int) (h:D7 F p0=some res) (μ:Frz) (w0:World) (hm:FrzAt μ w0) {ad1:Option Addr} {cap2:Nat} (hA3:ArrM μ 2 api_Span.cells ad1 cap2 p0.Field.Vals):Calls Try.prog 99 #[.agg #[.string p0.key,iv p0.time,iv p0.Field.Grid.X,iv p0.Field.Grid.Y,iv p0.Field.Grid.Size,iv p0.Field.Grid.Wide,iv p0.Field.Grid.High,sv ad1 p0.Field.Vals cap2]] w0 (fun e w=>e=.returned (iv res)∧Ext w0 w):=by
 obtain ⟨hlow,hS⟩:=hm.init
 have hext:=Frz.ext_refl w0.heap.size μ
 rw [D7] at h
 refine Aq Try.func99 rfl 20 [(0,.agg #[.string p0.key,iv p0.time,iv p0.Field.Grid.X,iv p0.Field.Grid.Y,iv p0.Field.Grid.Size,iv p0.Field.Grid.Wide,iv p0.Field.Grid.High,sv ad1 p0.Field.Vals cap2])] rfl rfl kr fun a w hw hF=>?_
 replace hS:=hS.cast hw
 clear hw
 refine esr ?_
 refine SK.wi (H4 (t:=114) (fun b4=>[(1,pb b4)]) (.agg #[.string p0.key,iv p0.time,iv p0.Field.Grid.X,iv p0.Field.Grid.Y,iv p0.Field.Grid.Size,iv p0.Field.Grid.Wide,iv p0.Field.Grid.High,sv ad1 p0.Field.Vals cap2]) #[.string p0.key,iv p0.time,iv p0.Field.Grid.X,iv p0.Field.Grid.Y,iv p0.Field.Grid.Size,iv p0.Field.Grid.Wide,iv p0.Field.Grid.High,sv ad1 p0.Field.Vals cap2] hF hS kr ⟨kr⟩ kr (fun _=>⟨kr⟩) fun b4 w a hF hS=>?_)
 refine rn 1 2 [(1,pb b4)] hF fun a hF=>?_
 refine wfn rfl ?_
 refine B0 ?_
 refine wpIn_block ?_
 refine esr ?_
 replace h:=A4 h
 obtain ⟨y5,hy5,h⟩:=h
 refine rx 5 [.run [] (Instr.loadAt 9 (pb b4)) (.string p0.key),.call [] 55 #[.string p0.key] (.bool y5)] 5 [(1,pb b4),(3,.bool (!y5))] hF (A0 (ob1 kr (fun _ hd=>(hS.later hd).cell (i:=0) (j:=0) rfl rfl)) (A0 (show Ob.ok _ Ext _ _ from fun hk w2 hd=>Qd F p0.key _ ((fun _=>hy5) hk) _ w2 (A7 w2)) Aa)) fun a w hF hx=>?_
 replace hS:=hS.later hx
 refine wfn rfl ?_
 refine As hF rfl (fun hc=>?_) (fun hc=>?_)
 ·replace h:=Ao h hc
  refine esr ?_
  refine rn 1 1 [(2,iv 10)] hF fun a hF=>?_
  refine wfn rfl ?_
  refine wpIn_ret (Ar<|Ab<|Ak [.tmp 2] [iv 10] hF rfl ⟨rfl,trivial⟩ ?_)
  have hr_:=Option.some.inj h
  subst hr_
  exact ⟨rfl,hS.ext⟩
 ·replace h:=An h hc
  refine esr ?_
  refine rno 9 [.run [] (Instr.loadAt 3 (.pointer (some ⟨b4,1,none⟩))) (iv p0.time),.run [⟨12,false,(decide (p0.time<0))⟩] (Instr.loadAt 3 (.pointer (some ⟨b4,1,none⟩))) (iv p0.time)] 9 [(1,pb b4),(8,.bool (bif (decide (p0.time<0)) then true else (decide (p0.time>4294967296))))] hF (A0 (ob1 kr (fun _ hd=>(hS.at_ hd).cell (i:=0) (j:=1) rfl rfl)) (A0 (ob1 kr (fun _ hd=>(hS.at_ hd).cell (i:=0) (j:=1) rfl rfl)) Aa)) fun a hF=>?_
  refine wfn rfl ?_
  refine As hF rfl (fun hc=>?_) (fun hc=>?_)
  ·replace h:=Ao h hc
   refine esr ?_
   refine rn 1 1 [(2,iv 3)] hF fun a hF=>?_
   refine wfn rfl ?_
   refine wpIn_ret (Ar<|Ab<|Ak [.tmp 2] [iv 3] hF rfl ⟨rfl,trivial⟩ ?_)
   have hr_:=Option.some.inj h
   subst hr_
   exact ⟨rfl,hS.ext⟩
  ·replace h:=An h hc
   refine wpIn_skip (Ac<|A1<|?_)
   refine esr ?_
   replace h:=A4 h
   obtain ⟨y6,hy6,h⟩:=h
   refine rx 4 [.run [] (Instr.loadAt 44 (.pointer (some ⟨b4,2,none⟩))) (.agg #[iv p0.Field.Grid.X,iv p0.Field.Grid.Y,iv p0.Field.Grid.Size,iv p0.Field.Grid.Wide,iv p0.Field.Grid.High,sv ad1 p0.Field.Vals cap2]),.call [] 104 #[.agg #[iv p0.Field.Grid.X,iv p0.Field.Grid.Y,iv p0.Field.Grid.Size,iv p0.Field.Grid.Wide,iv p0.Field.Grid.High,sv ad1 p0.Field.Vals cap2]] (iv y6)] 4 [(2,iv y6)] hF (A0 (obN (us:=[iv p0.Field.Grid.X,iv p0.Field.Grid.Y,iv p0.Field.Grid.Size,iv p0.Field.Grid.Wide,iv p0.Field.Grid.High,sv ad1 p0.Field.Vals cap2]) kr (fun _ hd=>((hS.later hd).blk (i:=0) rfl).cells rfl)) (A0 (show Ob.ok _ Ext _ _ from fun hk w2 hd=>Pv F p0.Field _ ((fun _=>hy6) hk) _ w2 (A7 w2) (hA3.mono (FrzAt.le_mem ((hS.later hd).frz (i:=1) rfl hlow)))) Aa)) fun a w hF hx=>?_
   replace hS:=hS.later hx
   refine wfn rfl ?_
   refine wpIn_ret (Ak [.tmp 2] [iv y6] hF rfl ⟨rfl,trivial⟩ ?_)
   have hr_:=Option.some.inj h
   subst hr_
   exact ⟨rfl,hS.ext⟩
theorem Jr (F:Nat) (p0:volume_writer) (p1:(List api_Echo)) (p2:api_Echo) (res:volume_writer) (h:Cc F p0 p1 p2=some res) (μ:Frz) (w0 w1:World) (T_:List Res) (hlow:Ba w0 μ) {cb0:Nat} {ad1:Option Addr} {cap2:Nat} {ad3:Option Addr} {cap4:Nat} (hA5:ArrM μ 14 api_Echo.cells ad3 cap4 p1) (hS:St w0 (fz w0 μ::blk cb0 106 #[sv ad1 p0.b cap2]::arrT 5 1 (fK .u8) ad1 p0.b.length cap2 p0.b::T_) w1):Dd Try.prog 92 #[pb cb0,sv ad3 p1 cap4,p2.ag,.func (.func 93) #[pb cb0] #[]] w1 (fun e w=>∃(ν_:Frz) (b2:Option Addr) (b4:Nat),μ.ext w0.heap.size ν_∧Ba w0 ν_∧e=(.tuple #[])∧St w0 (fz w0 ν_::blk cb0 106 #[sv b2 res.b b4]::arrT 5 1 (fK .u8) b2 res.b.length b4 res.b::T_) w):=by
 rw [Cc] at h
 have hext:=Frz.ext_refl w0.heap.size μ
 refine Aq Try.func92 rfl 44 [(0,pb cb0),(1,sv ad3 p1 cap4),(2,p2.ag),(3,.func (.func 93) #[pb cb0] #[])] rfl rfl kr fun a w hw hF=>?_
 replace hS:=hS.cast hw
 clear hw
 refine esr ?_
 refine SK.wi (H4 (t:=88) (fun b6=>[(0,pb cb0),(1,sv ad3 p1 cap4),(3,.func (.func 93) #[pb cb0] #[]),(6,pb b6)]) (p2.ag) p2.ar hF hS kr ⟨kr⟩ kr (fun _=>⟨kr⟩) fun b6 w a hF hS=>?_)
 refine wfn rfl ?_
 refine wpIn_block ?_
 have b5:=Frz.le_refl μ
 refine E4 (fun n_ a w=>∃(a7:Int) (a8:Int) (a9:Int) (aA:Int) (aB:Int) (aC:Int) (aD:Int) (aE:Int) (aF:Int) (aG:Int) (aH:Int) (aI:Int) (aJ:Int) (aK:Int) (a6:(List Int)) (a4:(List api_Echo)) (ν120:Frz) (aP:Option Addr) (aQ:Nat) (a2:Option Addr) (a0:Nat),Fr 44 [] [(0,pb cb0),(1,sv a2 a4 a0),(3,.func (.func 93) #[pb cb0] #[]),(6,pb b6)] a∧St w0 (arrT 5 1 (fK .u8) aP a6.length aQ a6::blk b6 88 #[iv a7,iv a8,iv aD,iv aE,iv aF,iv aG,iv aH,iv aI,iv aJ,iv aK,iv a9,iv aA,iv aB,iv aC]::fz w0 ν120::blk cb0 106 #[sv aP a6 aQ]::T_) w∧(ArrM ν120 14 api_Echo.cells a2 a0 a4)∧(μ.le ν120)∧(μ.ext w0.heap.size ν120)∧(Ba w0 ν120)∧Bd F n_ a7 a8 a9 aA aB aC aD aE aF aG aH aI aJ aK a6 a4=some res) F ⟨p2.Kind,p2.Power.Lo,p2.Match.Lo,p2.Match.Hi,p2.Turn.Lo,p2.Turn.Hi,p2.Power.Hi,p2.Steps.1.Lo,p2.Steps.1.Hi,p2.Steps.2.Lo,p2.Steps.2.Hi,p2.Spread,p2.Ratio.Lo,p2.Ratio.Hi,p0.b,p1,μ,ad1,cap2,ad3,cap4,hF.sub kr,hS.s3,hA5,b5,hext,hlow,h⟩ ?_
 clear b5
 rintro nk1 a w ⟨a7,a8,a9,aA,aB,aC,aD,aE,aF,aG,aH,aI,aJ,aK,a6,a4,ν120,aP,aQ,a2,a0,hF,hS,aM,aO,hext,hlow,h⟩
 rcases nk1 with _|nk1
 ·cases (show (none:Option volume_writer)=some res from h)
 replace hA5:=hA5.mono aO
 obtain ⟨k1,hk1⟩:∃k,k=Bd F nk1:=⟨_,rfl⟩
 replace h:Bu F k1 a7 a8 a9 aA aB aC aD aE aF aG aH aI aJ aK a6 a4=some res:=by rw [hk1];exact h
 rw [Bu] at h
 refine B0 ?_
 refine esr ?_
 refine rn 3 3 [(0,pb cb0),(1,sv a2 a4 a0),(3,.func (.func 93) #[pb cb0] #[]),(6,pb b6),(11,.bool (decide ((ln a4)>0)))] hF fun a hF=>?_
 refine wfn rfl ?_
 refine As hF rfl (fun hc=>?_) (fun hc=>?_)
 ·replace h:=Ao h hc
  refine wpIn_skip (A1 ?_)
  refine wpIn_block ?_
  refine esr ?_
  refine rn 1 1 [(0,pb cb0),(1,sv a2 a4 a0),(3,.func (.func 93) #[pb cb0] #[]),(6,pb b6),(8,iv 0)] hF fun a hF=>?_
  refine wfn rfl ?_
  refine Ei (fun a w=>∃(a1:Int),Fr 44 [] [(0,pb cb0),(1,sv a2 a4 a0),(3,.func (.func 93) #[pb cb0] #[]),(6,pb b6),(8,iv a1)] a∧St w0 (arrT 5 1 (fK .u8) aP a6.length aQ a6::blk b6 88 #[iv a7,iv a8,iv aD,iv aE,iv aF,iv aG,iv aH,iv aI,iv aJ,iv aK,iv a9,iv aA,iv aB,iv aC]::fz w0 ν120::blk cb0 106 #[sv aP a6 aQ]::T_) w∧Bv F a7 a8 a9 aA aB aC aD aE aF aG aH aI aJ aK a6 a4 k1 a1=some res) ?_ ?_
  ·skip
   refine wpIn_block ?_
   refine E4 (fun n_ a w=>∃(aL:Int),Fr 44 [] [(0,pb cb0),(1,sv a2 a4 a0),(3,.func (.func 93) #[pb cb0] #[]),(6,pb b6),(8,iv aL)] a∧St w0 (arrT 5 1 (fK .u8) aP a6.length aQ a6::blk b6 88 #[iv a7,iv a8,iv aD,iv aE,iv aF,iv aG,iv aH,iv aI,iv aJ,iv aK,iv a9,iv aA,iv aB,iv aC]::fz w0 ν120::blk cb0 106 #[sv aP a6 aQ]::T_) w∧Bk F a7 a8 a9 aA aB aC aD aE aF aG aH aI aJ aK a6 a4 k1 n_ aL=some res) F ⟨0,hF.sub kr,hS,h⟩ ?_
   rintro nk3 a w ⟨aL,hF,hS,h⟩
   rcases nk3 with _|nk3
   ·cases (show (none:Option volume_writer)=some res from h)
   obtain ⟨k3,hk3⟩:∃k,k=Bk F a7 a8 a9 aA aB aC aD aE aF aG aH aI aJ aK a6 a4 k1 nk3:=⟨_,rfl⟩
   replace h:Ct F a7 a8 a9 aA aB aC aD aE aF aG aH aI aJ aK a6 a4 k1 k3 aL=some res:=by rw [hk3];exact h
   rw [Ct] at h
   refine B0 ?_
   refine B0 ?_
   replace h:=A4 h
   obtain ⟨a3,bA,h⟩:=h
   refine Po (obs:=[.run [⟨16,true,(decide (aL<(ln a4)))⟩] (Instr.indexAt 83 (sv a2 a4 a0) (iv aL)) (.pointer (some (Ag a2 aL 14))),.run [⟨16,true,(decide (aL<(ln a4)))⟩] (Instr.loadAt 88 (.pointer (some (Ag a2 aL 14)))) (a3.ag),.run [⟨16,true,(decide (aL<(ln a4)))⟩] (Instr.loadAt 88 (pb b6)) (.agg #[iv a7,iv a8,iv aD,iv aE,iv aF,iv aG,iv aH,iv aI,iv aJ,iv aK,iv a9,iv aA,iv aB,iv aC]),.run [⟨16,true,(decide (aL<(ln a4)))⟩] (eqS .eql 88 a3.ar #[iv a7,iv a8,iv aD,iv aE,iv aF,iv aG,iv aH,iv aI,iv aJ,iv aK,iv a9,iv aA,iv aB,iv aC]) (.bool (((a3.Kind:Int)==a7)&&((((a3.Power.Lo:Int)==a8)&&(((a3.Power.Hi:Int)==aD)&&true))&&(((((a3.Steps.1.Lo:Int)==aE)&&(((a3.Steps.1.Hi:Int)==aF)&&true))&&((((a3.Steps.2.Lo:Int)==aG)&&(((a3.Steps.2.Hi:Int)==aH)&&true))&&true))&&(((a3.Spread:Int)==aI)&&((((a3.Ratio.Lo:Int)==aJ)&&(((a3.Ratio.Hi:Int)==aK)&&true))&&((((a3.Match.Lo:Int)==a9)&&(((a3.Match.Hi:Int)==aA)&&true))&&((((a3.Turn.Lo:Int)==aB)&&(((a3.Turn.Hi:Int)==aC)&&true))&&true))))))))]) 12 [(0,pb cb0),(1,sv a2 a4 a0),(3,.func (.func 93) #[pb cb0] #[]),(6,pb b6),(8,iv aL),(23,.bool (bif (decide (aL<(ln a4))) then (((a3.Kind:Int)==a7)&&((((a3.Power.Lo:Int)==a8)&&(((a3.Power.Hi:Int)==aD)&&true))&&(((((a3.Steps.1.Lo:Int)==aE)&&(((a3.Steps.1.Hi:Int)==aF)&&true))&&((((a3.Steps.2.Lo:Int)==aG)&&(((a3.Steps.2.Hi:Int)==aH)&&true))&&true))&&(((a3.Spread:Int)==aI)&&((((a3.Ratio.Lo:Int)==aJ)&&(((a3.Ratio.Hi:Int)==aK)&&true))&&((((a3.Match.Lo:Int)==a9)&&(((a3.Match.Hi:Int)==aA)&&true))&&((((a3.Turn.Lo:Int)==aB)&&(((a3.Turn.Hi:Int)==aC)&&true))&&true))))))) else false))] kr hF kr (A0 (Bc (aM _ (hS.frz (i:=2) rfl hlow)) kr (fun hk=>E3 bA hk)) (A0 (Ft (m:=14) (i:=aL) (us:=a3.cells) 0 api_Echo.cells_len (fun _ hd=>(aM _ ((hS.later hd).frz (i:=2) rfl hlow))) kr (fun hk=>E3 bA hk) ⟨rfl,rfl⟩) (A0 (obN (us:=[iv a7,iv a8,iv aD,iv aE,iv aF,iv aG,iv aH,iv aI,iv aJ,iv aK,iv a9,iv aA,iv aB,iv aC]) kr (fun _ hd=>((hS.later hd).blk (i:=1) rfl).cells rfl)) (A0 (Mo kr kr) Aa)))) ⟨kr⟩ fun a w hF hx=>?_
   replace hS:=hS.later hx
   refine wfn rfl ?_
   refine As hF rfl (fun hc=>?_) (fun hc=>?_)
   ·replace h:=Ao h hc
    refine wpIn_skip (A1 ?_)
    refine wpIn_block ?_
    refine WI.region ?_
    replace h:=A4 h
    obtain ⟨b1,bD,h⟩:=h
    refine rno 3 [.run [] (binOp .add 3 (iv aL) (iv 1)) (iv b1)] 3 [(0,pb cb0),(1,sv a2 a4 a0),(3,.func (.func 93) #[pb cb0] #[]),(6,pb b6),(8,iv b1)] hF (A0 (Aw (fun _=>bD)) Aa) fun a hF=>?_
    refine WI.fin rfl (Ac<|A1<|?_)
    rw [hk3] at h
    exact ⟨nk3,Nat.lt_succ_self _,b1,hF.sub kr,hS,h⟩
   ·replace h:=An h hc
    refine wpIn_exit (Ad<|Ad<|Bb<|A1 ?_)
    exact ⟨aL,hF.sub kr,hS,h⟩
  rintro a w ⟨a1,hF,hS,h⟩
  rw [Bv] at h
  refine esr ?_
  refine rn 2 2 [(0,pb cb0),(1,sv a2 a4 a0),(3,.func (.func 93) #[pb cb0] #[]),(6,pb b6),(8,iv a1),(26,pb cb0),(27,iv a1)] hF fun a hF=>?_
  refine SK.wi (G0 (e:=3) (sz:=1) (f:=fI) (t:=51) (len:=1) (fun b3=>[(0,pb cb0),(1,sv a2 a4 a0),(3,.func (.func 93) #[pb cb0] #[]),(6,pb b6),(8,iv a1),(26,pb cb0),(28,sb b3 1)]) #[(0,iv a1)] #[iv a1] ([a1]) hF hS kr ⟨kr⟩ kr Ee rfl rfl kr (fun _=>⟨kr⟩) fun b3 w a hF hS=>?_)
  obtain ⟨ν155,aW,hlow,hS,bG⟩:=hS.freeze (i:=3) (j:=0) rfl rfl (by decide) hlow
  replace hA5:=hA5.mono aW.1
  replace aM:=aM.mono aW.1
  replace aO:=Frz.le_trans aO aW.1
  replace hext:=Frz.ext_trans hext aW
  have aU:=ArrM.of_arr bG
  replace h:=A4 h
  obtain ⟨aX,bE,h⟩:=h
  replace hS:=hS.s3.s3
  refine SK.wi (Bz (fun bH=>[(0,pb cb0),(1,sv a2 a4 a0),(3,.func (.func 93) #[pb cb0] #[]),(6,pb b6),(8,iv a1)]) hF kr ⟨kr⟩ (Ax F _ _ _ bE ν155 w0 w _ hlow aU hS) (fun _=>⟨kr⟩) ?_)
  rintro bH w a ⟨ν160,aY,aZ,aV,hlow,rfl,hS⟩ hF
  replace hext:=Frz.ext_trans hext aV
  replace hA5:=hA5.mono aV.1
  replace aM:=aM.mono aV.1
  replace aU:=aU.mono aV.1
  replace aO:=Frz.le_trans aO aV.1
  refine wfn rfl ?_
  refine esr ?_
  replace h:=A4 h
  obtain ⟨aN,b7,h⟩:=h
  have aS:ArrM ν160 14 api_Echo.cells (Am a2 a0 a1.toNat 14) (a0-a1.toNat) aN:=fun w_ hw_=>(aM w_ hw_).cutD api_Echo.cells_len b7
  refine rno 4 [.run [] (Instr.sliceAt 83 (sv a2 a4 a0) (some (iv a1)) none none) (.slice (Am a2 a0 a1.toNat 14) aN.length (a0-a1.toNat))] 4 [(0,pb cb0),(1,.slice (Am a2 a0 a1.toNat 14) aN.length (a0-a1.toNat)),(3,.func (.func 93) #[pb cb0] #[]),(6,pb b6)] hF (A0 (M3 kr (aM _ (hS.frz (i:=0) rfl hlow)) (fun _=>b7)) Aa) fun a hF=>?_
  refine wfn rfl ?_
  refine esr ?_
  refine rn 3 3 [(0,pb cb0),(1,.slice (Am a2 a0 a1.toNat 14) aN.length (a0-a1.toNat)),(3,.func (.func 93) #[pb cb0] #[]),(6,pb b6),(35,.bool (decide ((ln aN)>0)))] hF fun a hF=>?_
  refine wfn rfl ?_
  refine As hF rfl (fun hc=>?_) (fun hc=>?_)
  ·replace h:=Ao h hc
   refine B0 ?_
   replace h:=A4 h
   obtain ⟨a5,b9,h⟩:=h
   replace h:=A4 h
   obtain ⟨aR,b8,h⟩:=h
   refine Cz 7 [5] _ (D:=fun w=>St w0 [blk cb0 106 #[sv aY aX.b aZ],arrT 5 1 (fK .u8) aY aX.b.length aZ aX.b] w∧FrzAt ν160 w) kr kr hF.size (fun w hx=>?_) (fun _ _ h=>h)
   replace hS:=hS.later hx
   refine ⟨⟨St.pick [1,2] (by decide) hS,hS.frz (i:=0) rfl hlow⟩,?_⟩
   have bK:=Frz.le_refl ν160
   have b0:ArrM ν160 14 api_Echo.cells (Am (Am a2 a0 a1.toNat 14) (a0-a1.toNat) (1:Int).toNat 14) ((a0-a1.toNat)-(1:Int).toNat) aR:=fun w_ hw_=>(aS w_ hw_).cutD api_Echo.cells_len b8
   refine WT.s [0,1,2,3,4] [5] kr kr ?_
   refine Ek (rest:=[]) (obs:=[.run [] (Instr.indexAt 83 (.slice (Am a2 a0 a1.toNat 14) aN.length (a0-a1.toNat)) (iv 0)) (.pointer (some (Ag (Am a2 a0 a1.toNat 14) 0 14))),.run [] (Instr.loadAt 88 (.pointer (some (Ag (Am a2 a0 a1.toNat 14) 0 14)))) (a5.ag),.run [] (Instr.sliceAt 83 (.slice (Am a2 a0 a1.toNat 14) aN.length (a0-a1.toNat)) (some (iv 1)) none none) (.slice (Am (Am a2 a0 a1.toNat 14) (a0-a1.toNat) (1:Int).toNat 14) aR.length ((a0-a1.toNat)-(1:Int).toNat))]) [0,1,2,3,4] [(0,pb cb0),(1,.slice (Am a2 a0 a1.toNat 14) aN.length (a0-a1.toNat)),(3,.func (.func 93) #[pb cb0] #[]),(6,pb b6),(38,a5.ag),(40,.slice (Am (Am a2 a0 a1.toNat 14) (a0-a1.toNat) (1:Int).toNat 14) aR.length ((a0-a1.toNat)-(1:Int).toNat))] hF kr kr (A0 (Bc (aS _ (hS.frz (i:=0) rfl hlow)) kr (fun _=>b9)) (A0 (Ft (m:=14) (i:=0) (us:=a5.cells) 0 api_Echo.cells_len (fun _ hd=>(aS _ hd.2)) kr (fun _=>b9) ⟨rfl,rfl⟩) (A0 (M3 kr (aS _ (hS.frz (i:=0) rfl hlow)) (fun _=>b8)) Aa))) ⟨kr⟩ fun a hF=>?_
   refine WRun.fin ?_
   refine all_cons ?_ (Ay)
   refine Ap (t:=88) [(0,pb cb0),(1,.slice (Am a2 a0 a1.toNat 14) aN.length (a0-a1.toNat)),(3,.func (.func 93) #[pb cb0] #[]),(6,pb b6),(40,.slice (Am (Am a2 a0 a1.toNat 14) (a0-a1.toNat) (1:Int).toNat 14) aR.length ((a0-a1.toNat)-(1:Int).toNat))] 3 0 (a5.ag) a5.ar hF hS rfl kr ⟨kr⟩ kr kr kr kr ⟨kr⟩ fun w a hF hS=>⟨⟨St.pick [1,2] (by decide) hS,(hS.frz (i:=0) rfl hlow)⟩,?_⟩
   refine WT.z [6] kr ?_
   refine Ek (rest:=[]) (obs:=[]) [6] [(0,pb cb0),(1,.slice (Am (Am a2 a0 a1.toNat 14) (a0-a1.toNat) (1:Int).toNat 14) aR.length ((a0-a1.toNat)-(1:Int).toNat)),(3,.func (.func 93) #[pb cb0] #[]),(6,pb b6)] hF kr kr Aa ⟨kr⟩ fun a hF=>?_
   refine WRun.fin ?_
   refine wfn rfl ?_
   refine WI.region ?_
   refine rno 2 [.run [] (Instr.loadAt 88 (pb b6)) (a5.ag)] 2 [(0,pb cb0),(1,.slice (Am (Am a2 a0 a1.toNat 14) (a0-a1.toNat) (1:Int).toNat 14) aR.length ((a0-a1.toNat)-(1:Int).toNat)),(3,.func (.func 93) #[pb cb0] #[]),(6,pb b6),(41,.func (.func 93) #[pb cb0] #[]),(42,a5.ag)] hF (A0 (obN (us:=a5.cells) kr (fun _ hd=>((hS.at_ hd).blk (i:=3) rfl).cells rfl)) Aa) fun a hF=>?_
   replace h:=A4 h
   obtain ⟨bJ,bF,h⟩:=h
   refine SK.wi (Bz (fun bI=>[(0,pb cb0),(1,.slice (Am (Am a2 a0 a1.toNat 14) (a0-a1.toNat) (1:Int).toNat 14) aR.length ((a0-a1.toNat)-(1:Int).toNat)),(3,.func (.func 93) #[pb cb0] #[]),(6,pb b6)]) hF kr ⟨kr⟩ (Nd F _ _ _ bF ν160 w0 w _ hlow  hS) (fun _=>⟨kr⟩) ?_)
   rintro bI w a ⟨ν174,bB,bC,aT,hlow,rfl,hS⟩ hF
   replace hext:=Frz.ext_trans hext aT
   replace hA5:=hA5.mono aT.1
   replace aM:=aM.mono aT.1
   replace aU:=aU.mono aT.1
   replace aS:=aS.mono aT.1
   replace b0:=b0.mono aT.1
   replace aO:=Frz.le_trans aO aT.1
   refine WI.fin rfl (Ac<|A1<|?_)
   rw [hk1] at h
   exact ⟨nk1,Nat.lt_succ_self _,a5.Kind,a5.Power.Lo,a5.Match.Lo,a5.Match.Hi,a5.Turn.Lo,a5.Turn.Hi,a5.Power.Hi,a5.Steps.1.Lo,a5.Steps.1.Hi,a5.Steps.2.Lo,a5.Steps.2.Hi,a5.Spread,a5.Ratio.Lo,a5.Ratio.Hi,bJ.b,aR,ν174,bB,bC,(Am (Am a2 a0 a1.toNat 14) (a0-a1.toNat) (1:Int).toNat 14),((a0-a1.toNat)-(1:Int).toNat),hF.sub kr,hS.s3.s3,b0,aO,hext,hlow,h⟩
  ·replace h:=An h hc
   refine wpIn_skip (Ac<|A1<|?_)
   rw [hk1] at h
   exact ⟨nk1,Nat.lt_succ_self _,a7,a8,a9,aA,aB,aC,aD,aE,aF,aG,aH,aI,aJ,aK,aX.b,aN,ν160,aY,aZ,(Am a2 a0 a1.toNat 14),(a0-a1.toNat),hF.sub kr,hS.s3.s3,aS,aO,hext,hlow,h⟩
 ·replace h:=An h hc
  refine wpIn_exit (Ad<|Ad<|Bb<|?_)
  refine Hm hF rfl ?_
  have hr_:=Option.some.inj h
  subst hr_
  replace hS:=hS.d1.s2.s2
  exact ⟨_,rfl,ν120,aP,aQ,hext,hlow,rfl,hS⟩
theorem No (F:Nat) (p0:volume_sweep) (p1:volume_writer) (res:volume_writer) (h:Fw F p0 p1=some res) (μ:Frz) (w0 w1:World) (T_:List Res) (hlow:Ba w0 μ) {ad1:Option Addr} {cap2:Nat} {css3:List (List Value)} {cb1:Nat} {ad5:Option Addr} {cap6:Nat} (hA4:ArrQ μ 1 Rp83 ad1 cap2 css3 p0.Sweep.Rays) (hS:St w0 (fz w0 μ::blk cb1 106 #[sv ad5 p1.b cap6]::arrT 5 1 (fK .u8) ad5 p1.b.length cap6 p1.b::T_) w1):Dd Try.prog 89 #[.agg #[.string p0.Sweep.Site.Name,iv p0.Sweep.Site.X,iv p0.Sweep.Site.Y,iv p0.Sweep.Site.Z,iv p0.Sweep.Site.Rose,iv p0.Sweep.Site.Gates,iv p0.Sweep.Site.Step,iv p0.Sweep.Site.Width,iv p0.Sweep.Tilt,iv p0.Sweep.Time,sv ad1 p0.Sweep.Rays cap2],pb cb1] w1 (fun e w=>∃(ν_:Frz) (aT:Option Addr) (aW:Nat),μ.ext w0.heap.size ν_∧Ba w0 ν_∧e=(.tuple #[])∧St w0 (fz w0 ν_::blk cb1 106 #[sv aT res.b aW]::arrT 5 1 (fK .u8) aT res.b.length aW res.b::T_) w):=by
 rw [Fw] at h
 have hext:=Frz.ext_refl w0.heap.size μ
 refine Aq Try.func89 rfl 74 [(0,.agg #[.string p0.Sweep.Site.Name,iv p0.Sweep.Site.X,iv p0.Sweep.Site.Y,iv p0.Sweep.Site.Z,iv p0.Sweep.Site.Rose,iv p0.Sweep.Site.Gates,iv p0.Sweep.Site.Step,iv p0.Sweep.Site.Width,iv p0.Sweep.Tilt,iv p0.Sweep.Time,sv ad1 p0.Sweep.Rays cap2]),(1,pb cb1)] rfl rfl kr fun a w hw hF=>?_
 replace hS:=hS.cast hw
 clear hw
 refine esr ?_
 refine SK.wi (H4 (t:=112) (fun b7=>[(1,pb cb1),(2,pb b7)]) (.agg #[.string p0.Sweep.Site.Name,iv p0.Sweep.Site.X,iv p0.Sweep.Site.Y,iv p0.Sweep.Site.Z,iv p0.Sweep.Site.Rose,iv p0.Sweep.Site.Gates,iv p0.Sweep.Site.Step,iv p0.Sweep.Site.Width,iv p0.Sweep.Tilt,iv p0.Sweep.Time,sv ad1 p0.Sweep.Rays cap2]) #[.string p0.Sweep.Site.Name,iv p0.Sweep.Site.X,iv p0.Sweep.Site.Y,iv p0.Sweep.Site.Z,iv p0.Sweep.Site.Rose,iv p0.Sweep.Site.Gates,iv p0.Sweep.Site.Step,iv p0.Sweep.Site.Width,iv p0.Sweep.Tilt,iv p0.Sweep.Time,sv ad1 p0.Sweep.Rays cap2] hF hS kr ⟨kr⟩ kr (fun _=>⟨kr⟩) fun b7 w a hF hS=>?_)
 refine wfn rfl ?_
 refine esr ?_
 refine rn 1 1 [(1,pb cb1),(2,pb b7),(7,pb cb1)] hF fun a hF=>?_
 refine SK.wi (G0 (e:=3) (sz:=1) (f:=fI) (t:=51) (len:=1) (fun b8=>[(1,pb cb1),(2,pb b7),(7,pb cb1),(8,sb b8 1)]) #[(0,iv 1)] #[iv 1] ([1]) hF hS kr ⟨kr⟩ kr Ee rfl rfl kr (fun _=>⟨kr⟩) fun b8 w a hF hS=>?_)
 obtain ⟨ν9,aY,hlow,hS,bD⟩:=hS.freeze (i:=2) (j:=0) rfl rfl (by decide) hlow
 replace hA4:=hA4.mono Rp83.mono aY.1
 replace hext:=Frz.ext_trans hext aY
 have a0:=ArrM.of_arr bD
 replace h:=A4 h
 obtain ⟨bT,b6,h⟩:=h
 replace hS:=hS.s3.s3.s3
 refine SK.wi (Bz (fun bH=>[(1,pb cb1),(2,pb b7)]) hF kr ⟨kr⟩ (Ax F _ _ _ b6 ν9 w0 w _ hlow a0 hS) (fun _=>⟨kr⟩) ?_)
 rintro bH w a ⟨ν14,bM,bP,aP,hlow,rfl,hS⟩ hF
 replace hext:=Frz.ext_trans hext aP
 replace hA4:=hA4.mono Rp83.mono aP.1
 replace a0:=a0.mono aP.1
 refine wfn rfl ?_
 refine esr ?_
 refine rno 5 [.run [] (Instr.loadAt 9 (pb b7)) (.string p0.Sweep.Site.Name)] 5 [(1,pb cb1),(2,pb b7),(10,pb cb1),(14,.string p0.Sweep.Site.Name)] hF (A0 (ob1 kr (fun _ hd=>(hS.at_ hd).cell (i:=3) (j:=0) rfl rfl)) Aa) fun a hF=>?_
 replace h:=A4 h
 obtain ⟨bU,b9,h⟩:=h
 refine SK.wi (Bz (fun bI=>[(1,pb cb1),(2,pb b7)]) hF kr ⟨kr⟩ (H8 F _ _ _ b9 ν14 w0 w _ hlow  hS) (fun _=>⟨kr⟩) ?_)
 rintro bI w a ⟨ν20,bN,bQ,aQ,hlow,rfl,hS⟩ hF
 replace hext:=Frz.ext_trans hext aQ
 replace hA4:=hA4.mono Rp83.mono aQ.1
 replace a0:=a0.mono aQ.1
 refine wfn rfl ?_
 refine esr ?_
 refine rno 9 [.run [] (Instr.loadAt 3 (.pointer (some ⟨b7,1,none⟩))) (iv p0.Sweep.Site.X),.run [] (Instr.loadAt 3 (.pointer (some ⟨b7,2,none⟩))) (iv p0.Sweep.Site.Y)] 9 [(1,pb cb1),(2,pb b7),(16,pb cb1),(20,iv p0.Sweep.Site.X),(24,iv p0.Sweep.Site.Y)] hF (A0 (ob1 kr (fun _ hd=>(hS.at_ hd).cell (i:=3) (j:=1) rfl rfl)) (A0 (ob1 kr (fun _ hd=>(hS.at_ hd).cell (i:=3) (j:=2) rfl rfl)) Aa)) fun a hF=>?_
 refine SK.wi (G0 (e:=3) (sz:=1) (f:=fI) (t:=51) (len:=2) (fun aU=>[(1,pb cb1),(2,pb b7),(16,pb cb1),(25,sb aU 2)]) #[(0,iv p0.Sweep.Site.X),(1,iv p0.Sweep.Site.Y)] #[iv p0.Sweep.Site.X,iv p0.Sweep.Site.Y] ([p0.Sweep.Site.X,p0.Sweep.Site.Y]) hF hS kr ⟨kr⟩ kr Ee rfl rfl kr (fun _=>⟨kr⟩) fun aU w a hF hS=>?_)
 obtain ⟨ν26,aR,hlow,hS,bE⟩:=hS.freeze (i:=1) (j:=0) rfl rfl (by decide) hlow
 replace hA4:=hA4.mono Rp83.mono aR.1
 replace a0:=a0.mono aR.1
 replace hext:=Frz.ext_trans hext aR
 have a3:=ArrM.of_arr bE
 replace h:=A4 h
 obtain ⟨bV,bA,h⟩:=h
 refine SK.wi (Bz (fun bJ=>[(1,pb cb1),(2,pb b7)]) hF kr ⟨kr⟩ (G1 F _ _ _ bA ν26 w0 w _ hlow a3 hS) (fun _=>⟨kr⟩) ?_)
 rintro bJ w a ⟨ν31,bO,bR,aI,hlow,rfl,hS⟩ hF
 replace hext:=Frz.ext_trans hext aI
 replace hA4:=hA4.mono Rp83.mono aI.1
 replace a0:=a0.mono aI.1
 replace a3:=a3.mono aI.1
 refine wfn rfl ?_
 refine esr ?_
 refine rno 27 [.run [] (Instr.loadAt 3 (.pointer (some ⟨b7,3,none⟩))) (iv p0.Sweep.Site.Z),.run [] (Instr.loadAt 3 (.pointer (some ⟨b7,4,none⟩))) (iv p0.Sweep.Site.Rose),.run [] (Instr.loadAt 3 (.pointer (some ⟨b7,5,none⟩))) (iv p0.Sweep.Site.Gates),.run [] (Instr.loadAt 3 (.pointer (some ⟨b7,6,none⟩))) (iv p0.Sweep.Site.Step),.run [] (Instr.loadAt 3 (.pointer (some ⟨b7,7,none⟩))) (iv p0.Sweep.Site.Width),.run [] (Instr.loadAt 3 (.pointer (some ⟨b7,8,none⟩))) (iv p0.Sweep.Tilt),.run [] (Instr.loadAt 3 (.pointer (some ⟨b7,9,none⟩))) (iv p0.Sweep.Time)] 27 [(1,pb cb1),(2,pb b7),(27,pb cb1),(31,iv p0.Sweep.Site.Z),(35,iv p0.Sweep.Site.Rose),(39,iv p0.Sweep.Site.Gates),(43,iv p0.Sweep.Site.Step),(47,iv p0.Sweep.Site.Width),(50,iv p0.Sweep.Tilt),(53,iv p0.Sweep.Time)] hF (A0 (ob1 kr (fun _ hd=>(hS.at_ hd).cell (i:=3) (j:=3) rfl rfl)) (A0 (ob1 kr (fun _ hd=>(hS.at_ hd).cell (i:=3) (j:=4) rfl rfl)) (A0 (ob1 kr (fun _ hd=>(hS.at_ hd).cell (i:=3) (j:=5) rfl rfl)) (A0 (ob1 kr (fun _ hd=>(hS.at_ hd).cell (i:=3) (j:=6) rfl rfl)) (A0 (ob1 kr (fun _ hd=>(hS.at_ hd).cell (i:=3) (j:=7) rfl rfl)) (A0 (ob1 kr (fun _ hd=>(hS.at_ hd).cell (i:=3) (j:=8) rfl rfl)) (A0 (ob1 kr (fun _ hd=>(hS.at_ hd).cell (i:=3) (j:=9) rfl rfl)) Aa))))))) fun a hF=>?_
 refine SK.wi (G0 (e:=3) (sz:=1) (f:=fI) (t:=51) (len:=7) (fun aV=>[(1,pb cb1),(2,pb b7),(27,pb cb1),(54,sb aV 7)]) #[(0,iv p0.Sweep.Site.Z),(1,iv p0.Sweep.Site.Rose),(2,iv p0.Sweep.Site.Gates),(3,iv p0.Sweep.Site.Step),(4,iv p0.Sweep.Site.Width),(5,iv p0.Sweep.Tilt),(6,iv p0.Sweep.Time)] #[iv p0.Sweep.Site.Z,iv p0.Sweep.Site.Rose,iv p0.Sweep.Site.Gates,iv p0.Sweep.Site.Step,iv p0.Sweep.Site.Width,iv p0.Sweep.Tilt,iv p0.Sweep.Time] ([p0.Sweep.Site.Z,p0.Sweep.Site.Rose,p0.Sweep.Site.Gates,p0.Sweep.Site.Step,p0.Sweep.Site.Width,p0.Sweep.Tilt,p0.Sweep.Time]) hF hS kr ⟨kr⟩ kr Ee rfl rfl kr (fun _=>⟨kr⟩) fun aV w a hF hS=>?_)
 obtain ⟨ν37,aJ,hlow,hS,bF⟩:=hS.freeze (i:=1) (j:=0) rfl rfl (by decide) hlow
 replace hA4:=hA4.mono Rp83.mono aJ.1
 replace a0:=a0.mono aJ.1
 replace a3:=a3.mono aJ.1
 replace hext:=Frz.ext_trans hext aJ
 have a7:=ArrM.of_arr bF
 replace h:=A4 h
 obtain ⟨a4,bB,h⟩:=h
 refine SK.wi (Bz (fun bK=>[(1,pb cb1),(2,pb b7)]) hF kr ⟨kr⟩ (Ax F _ _ _ bB ν37 w0 w _ hlow a7 hS) (fun _=>⟨kr⟩) ?_)
 rintro bK w a ⟨ν42,aE,aG,aC,hlow,rfl,hS⟩ hF
 replace hext:=Frz.ext_trans hext aC
 replace hA4:=hA4.mono Rp83.mono aC.1
 replace a0:=a0.mono aC.1
 replace a3:=a3.mono aC.1
 replace a7:=a7.mono aC.1
 refine wfn rfl ?_
 refine esr ?_
 refine rn 1 1 [(1,pb cb1),(2,pb b7),(4,.slice none 0 0)] hF fun a hF=>?_
 refine wfn rfl ?_
 refine Ei (fun a w=>∃(a9:(List api_Echo)) (aF:Option Addr) (aH:Nat),Fr 74 [] [(1,pb cb1),(4,sv aF a9 aH)] a∧St w0 (arr 88 14 api_Echo.cells aF a9.length aH a9::fz w0 ν42::blk cb1 106 #[sv aE a4.b aG]::arrT 5 1 (fK .u8) aE a4.b.length aG a4.b::blk b7 112 #[.string p0.Sweep.Site.Name,iv p0.Sweep.Site.X,iv p0.Sweep.Site.Y,iv p0.Sweep.Site.Z,iv p0.Sweep.Site.Rose,iv p0.Sweep.Site.Gates,iv p0.Sweep.Site.Step,iv p0.Sweep.Site.Width,iv p0.Sweep.Tilt,iv p0.Sweep.Time,sv ad1 p0.Sweep.Rays cap2]::T_) w∧Fz F a4 a9=some res) ?_ ?_
 ·skip
  refine esr ?_
  refine rno 5 [.run [] (Instr.loadAt 37 (.pointer (some ⟨b7,10,none⟩))) (sv ad1 p0.Sweep.Rays cap2)] 5 [(1,pb cb1),(4,.slice none 0 0),(58,sv ad1 p0.Sweep.Rays cap2),(59,iv (ln p0.Sweep.Rays)),(60,iv 0)] hF (A0 (ob1 kr (fun _ hd=>(hS.at_ hd).cell (i:=3) (j:=10) rfl rfl)) Aa) fun a hF=>?_
  refine wfn rfl ?_
  refine wpIn_block ?_
  replace hS:=hS.nilarr 88 14 api_Echo.cells
  refine E4 (fun n_ a w=>∃(a2:(List api_Echo)) (a1:Int) (a5:Option Addr) (a6:Nat),Fr 74 [] [(1,pb cb1),(4,sv a5 a2 a6),(58,sv ad1 p0.Sweep.Rays cap2),(59,iv (ln p0.Sweep.Rays)),(60,iv a1)] a∧St w0 (arr 88 14 api_Echo.cells a5 a2.length a6 a2::fz w0 ν42::blk cb1 106 #[sv aE a4.b aG]::arrT 5 1 (fK .u8) aE a4.b.length aG a4.b::blk b7 112 #[.string p0.Sweep.Site.Name,iv p0.Sweep.Site.X,iv p0.Sweep.Site.Y,iv p0.Sweep.Site.Z,iv p0.Sweep.Site.Rose,iv p0.Sweep.Site.Gates,iv p0.Sweep.Site.Step,iv p0.Sweep.Site.Width,iv p0.Sweep.Tilt,iv p0.Sweep.Time,sv ad1 p0.Sweep.Rays cap2]::T_) w∧Do F p0 a4 n_ a2 a1=some res) F ⟨[],0,none,0,hF.sub kr,hS,h⟩ ?_
  rintro nk2 a w ⟨a2,a1,a5,a6,hF,hS,h⟩
  rcases nk2 with _|nk2
  ·cases (show (none:Option volume_writer)=some res from h)
  obtain ⟨k2,hk2⟩:∃k,k=Do F p0 a4 nk2:=⟨_,rfl⟩
  replace h:Fy F p0 a4 k2 a2 a1=some res:=by rw [hk2];exact h
  rw [Fy] at h
  refine esr ?_
  refine rn 1 1 [(1,pb cb1),(4,sv a5 a2 a6),(58,sv ad1 p0.Sweep.Rays cap2),(59,iv (ln p0.Sweep.Rays)),(60,iv a1),(61,.bool (decide (a1<(ln p0.Sweep.Rays))))] hF fun a hF=>?_
  refine wfn rfl ?_
  refine B0 ?_
  refine As hF rfl (fun hc=>?_) (fun hc=>?_)
  ·replace h:=Ao h hc
   refine wpIn_skip (A1 ?_)
   refine B0 ?_
   refine wpIn_block ?_
   refine esr ?_
   replace h:=A4 h
   obtain ⟨aL,b4,h⟩:=h
   obtain ⟨bS,aX,b2⟩:=Dn hA4.2 b4
   obtain ⟨aM,aN,rfl,b1⟩:=b2
   refine rno 3 [.run [] (Instr.indexAt 37 (sv ad1 p0.Sweep.Rays cap2) (iv a1)) (.pointer (some (Ag ad1 a1 1))),.run [] (Instr.loadAt 83 (.pointer (some (Ag ad1 a1 1)))) (sv aM aL aN)] 3 [(1,pb cb1),(4,sv a5 a2 a6),(6,sv aM aL aN),(58,sv ad1 p0.Sweep.Rays cap2),(59,iv (ln p0.Sweep.Rays)),(60,iv a1)] hF (A0 (Bc (hA4.at (hS.frz (i:=1) rfl hlow)) kr (fun _=>aX)) (A0 (Ey (i:=a1) 0 (Dp 1) (fun _ hd=>(hA4.at ((hS.at_ hd).frz (i:=1) rfl hlow))) kr (fun _=>aX) rfl) Aa)) fun a hF=>?_
   refine wfn rfl ?_
   refine WI.region ?_
   refine rn 2 2 [(1,pb cb1),(4,sv a5 a2 a6),(58,sv ad1 p0.Sweep.Rays cap2),(59,iv (ln p0.Sweep.Rays)),(60,iv a1),(64,sv a5 a2 a6),(65,sv aM aL aN)] hF fun a hF=>?_
   replace h:=A4 h
   obtain ⟨aK,b3,h⟩:=h
   refine SK.wi (S4 (t:=83) (ty:=83) (bytes:=112) (l:=a2) (l':=aL) (fun aA aB=>[(1,pb cb1),(4,sv a5 a2 a6),(58,sv ad1 p0.Sweep.Rays cap2),(59,iv (ln p0.Sweep.Rays)),(60,iv a1),(66,sv aA aK aB)]) 0 hF hS rfl kr ⟨kr⟩ kr (b1 _ (hS.frz (i:=1) rfl hlow)) (fun _ _=>rfl) b3 (fun _ _=>⟨kr⟩) fun aA aB w a hF hS=>?_)
   refine rn 1 4 [(1,pb cb1),(4,sv aA aK aB),(58,sv ad1 p0.Sweep.Rays cap2),(59,iv (ln p0.Sweep.Rays)),(60,iv a1)] hF fun a hF=>?_
   refine WI.fin rfl (Ac<|A1<|?_)
   refine WI.region ?_
   replace h:=A4 h
   obtain ⟨aS,b5,h⟩:=h
   refine rno 2 [.run [] (binOp .add 3 (iv a1) (iv 1)) (iv aS)] 2 [(1,pb cb1),(4,sv aA aK aB),(58,sv ad1 p0.Sweep.Rays cap2),(59,iv (ln p0.Sweep.Rays)),(60,iv aS)] hF (A0 (Aw (fun _=>b5)) Aa) fun a hF=>?_
   refine wfn rfl ?_
   rw [hk2] at h
   exact ⟨nk2,Nat.lt_succ_self _,aK,aS,aA,aB,hF.sub kr,hS,h⟩
  ·replace h:=An h hc
   refine wpIn_exit (Ad<|Ad<|Bb<|A1 ?_)
   exact ⟨a2,a5,a6,hF.sub kr,hS,h⟩
 rintro a w ⟨a9,aF,aH,hF,hS,h⟩
 rw [Fz] at h
 refine WI.region ?_
 refine rn 5 5 [(68,pb cb1),(69,sv aF a9 aH),(70,.agg #[iv 1,iv 0,iv 0,iv 0,iv 0,iv 0,iv 0,iv 0,iv 0,iv 0,iv 0,iv 0,iv 0,iv 0]),(72,.func (.func 93) #[pb cb1] #[])] hF fun a hF=>?_
 obtain ⟨ν92,aD,hlow,hS,bG⟩:=hS.freeze (i:=1) (j:=0) rfl rfl (by decide) hlow
 replace hA4:=hA4.mono Rp83.mono aD.1
 replace a0:=a0.mono aD.1
 replace a3:=a3.mono aD.1
 replace a7:=a7.mono aD.1
 replace hext:=Frz.ext_trans hext aD
 have aO:=ArrM.of_arr bG
 replace h:=A4 h
 obtain ⟨bW,bC,h⟩:=h
 refine SK.wi (Bz (fun bL=>[]) hF kr ⟨kr⟩ (Jr F _ _ _ _ bC ν92 w0 w _ hlow aO hS) (fun _=>⟨kr⟩) ?_)
 rintro bL w a ⟨ν97,aZ,b0,a8,hlow,rfl,hS⟩ hF
 replace hext:=Frz.ext_trans hext a8
 replace hA4:=hA4.mono Rp83.mono a8.1
 replace a0:=a0.mono a8.1
 replace a3:=a3.mono a8.1
 replace a7:=a7.mono a8.1
 replace aO:=aO.mono a8.1
 refine WI.fin rfl ?_
 refine Hm hF rfl ?_
 have hr_:=Option.some.inj h
 subst hr_
 replace hS:=hS.d3
 exact ⟨_,rfl,ν97,aZ,b0,hext,hlow,rfl,hS⟩
end Go.Proofs.Ytifbomimeodibaa
