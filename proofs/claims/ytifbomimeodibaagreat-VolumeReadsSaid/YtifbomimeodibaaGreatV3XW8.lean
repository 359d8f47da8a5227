import Derived.Test.YtifbomimeodibaaGreatV3XD
import Derived.Test.YtifbomimeodibaaGreatProg
import Derived.Test.YtifbomimeodibaaGreatV3XW1
import Derived.Test.YtifbomimeodibaaGreatV3XW2
import Derived.Test.YtifbomimeodibaaGreatV3XW4
import Derived.Test.YtifbomimeodibaaGreatV3XW6
namespace Go.Proofs.YtifbomimeodibaaGreat
open Go Go.RowKit Go.Eng
set_option maxRecDepth 10000
set_option maxHeartbeats 4000000
set_option linter.unusedVariables false
set_option linter.unusedSimpArgs false
theorem Qi (F:Nat) (p0:api_Sweep) (res:Int) (h:Bw F p0=some res) (μ:Frz) (w0:World) (hm:FrzAt μ w0) {ad1:Option Addr} {cap2:Nat} {css3:List (List Value)} (hA4:ArrQ μ 1 Rp87 ad1 cap2 css3 p0.Rays):Calls Tryz.prog 167 #[.agg #[.string p0.Site.Name,iv p0.Site.X,iv p0.Site.Y,iv p0.Site.Z,iv p0.Site.Rose,iv p0.Site.Gates,iv p0.Site.Step,iv p0.Site.Width,iv p0.Tilt,iv p0.Time,sv ad1 p0.Rays cap2]] w0 (fun e w=>e=.returned (iv res)∧Ext w0 w):=by
 obtain ⟨hlow,hS⟩:=hm.init
 have hext:=Frz.ext_refl w0.heap.size μ
 rw [Bw] at h
 refine Ah Tryz.func167 rfl 69 [(0,.agg #[.string p0.Site.Name,iv p0.Site.X,iv p0.Site.Y,iv p0.Site.Z,iv p0.Site.Rose,iv p0.Site.Gates,iv p0.Site.Step,iv p0.Site.Width,iv p0.Tilt,iv p0.Time,sv ad1 p0.Rays cap2])] rfl rfl kr fun a w hw hF=>?_
 replace hS:=hS.cast hw
 clear hw
 refine esr ?_
 refine SK.wi (Ld (t:=41) (fun b5=>[(1,pb b5)]) (.agg #[.string p0.Site.Name,iv p0.Site.X,iv p0.Site.Y,iv p0.Site.Z,iv p0.Site.Rose,iv p0.Site.Gates,iv p0.Site.Step,iv p0.Site.Width,iv p0.Tilt,iv p0.Time,sv ad1 p0.Rays cap2]) #[.string p0.Site.Name,iv p0.Site.X,iv p0.Site.Y,iv p0.Site.Z,iv p0.Site.Rose,iv p0.Site.Gates,iv p0.Site.Step,iv p0.Site.Width,iv p0.Tilt,iv p0.Time,sv ad1 p0.Rays cap2] hF hS kr ⟨kr⟩ kr (fun _=>⟨kr⟩) fun b5 w a hF hS=>?_)
 refine rn 1 2 [(1,pb b5)] hF fun a hF=>?_
 refine wfn rfl ?_
 refine Ar ?_
 refine esr ?_
 obtain ⟨y6,hy6,h⟩:=A1 h
 refine qx 4 4 [(3,iv y6)] hF (oN 38 0 0 8 hS.e rfl<|oC (fun w2 hd=>Mt F p0.Site _ hy6 _ w2 (Ae w2))<|A9) fun a w hF hx=>?_
 replace hS:=hS.later hx
 refine wfn rfl ?_
 refine qnB [(15,.bool (y6 != 0))] hF fun a hF=>?_
 refine Ai hF rfl (fun hc=>?_) (fun hc=>?_)
 ·replace h:=Ag h hc
  refine rnB [(2,iv y6)] hF fun a hF=>?_
  refine wpIn_ret (A5<|Ab [.tmp 2] [iv y6] hF rfl ⟨rfl,trivial⟩ ?_)
  obtain rfl:=Ao h
  exact ⟨rfl,hS.ext⟩
 ·replace h:=Af h hc
  refine wpIn_skip (A0 ?_)
  refine Ar ?_
  refine esr ?_
  refine qx 10 10 [(26,.bool (bif (!(As p0.Tilt 0 256)) then true else (!(As p0.Time 0 4294967296))))] hF (oL 3 0 8 hS.e rfl rfl<|oC (fun w2 hd=>He p0.Tilt 0 256 _ rfl _ w2 (Ae w2))<|oX (.run [⟨21,false,(!(As p0.Tilt 0 256))⟩] (Instr.loadAt 3 (.pointer (some ⟨b5,9,none⟩))) (iv p0.Time)) (ob1 kr (fun _ hd=>(hS.later hd).cell (i:=0) (j:=9) rfl rfl))<|oX (.call [⟨21,false,(!(As p0.Tilt 0 256))⟩] 171 #[iv p0.Time,iv 0,iv 4294967296] (.bool (As p0.Time 0 4294967296))) (show Ob.ok _ Ext _ _ from fun hk w2 hd=>He p0.Time 0 4294967296 _ rfl _ w2 (Ae w2))<|A9) fun a w hF hx=>?_
  replace hS:=hS.later hx
  refine wfn rfl ?_
  refine Ai hF rfl (fun hc=>?_) (fun hc=>?_)
  ·replace h:=Ag h hc
   refine rnB [(2,iv 3)] hF fun a hF=>?_
   refine wpIn_ret (A5<|Ab [.tmp 2] [iv 3] hF rfl ⟨rfl,trivial⟩ ?_)
   obtain rfl:=Ao h
   exact ⟨rfl,hS.ext⟩
  ·replace h:=Af h hc
   refine wpIn_skip (A0 ?_)
   refine Ar ?_
   refine esr ?_
   obtain ⟨x7,hx7,h⟩:=A1 h
   refine qo 8 8 [(34,.bool ((ln p0.Rays) != x7))] hF (oL 39 0 10 hS.i rfl rfl<|oL 3 0 4 hS.i rfl rfl<|oM 3 hx7<|A9) fun a hF=>?_
   refine wfn rfl ?_
   refine Ai hF rfl (fun hc=>?_) (fun hc=>?_)
   ·replace h:=Ag h hc
    refine rnB [(2,iv 11)] hF fun a hF=>?_
    refine wpIn_ret (A5<|Ab [.tmp 2] [iv 11] hF rfl ⟨rfl,trivial⟩ ?_)
    obtain rfl:=Ao h
    exact ⟨rfl,hS.ext⟩
   ·replace h:=Af h hc
    refine wpIn_skip (A0 ?_)
    refine Dg (fun a w=>Fr 69 [] [(1,pb b5)] a∧St w0 [blk b5 41 #[.string p0.Site.Name,iv p0.Site.X,iv p0.Site.Y,iv p0.Site.Z,iv p0.Site.Rose,iv p0.Site.Gates,iv p0.Site.Step,iv p0.Site.Width,iv p0.Tilt,iv p0.Time,sv ad1 p0.Rays cap2],fz w0 μ] w∧Ff F p0=some res) ?_ ?_
    ·skip
     refine qoB [(36,sv ad1 p0.Rays cap2),(37,iv (ln p0.Rays)),(38,iv 0)] hF (oL 39 0 10 hS.i rfl rfl<|A9) fun a hF=>?_
     refine wpIn_block ?_
     refine Cq (fun n_ a w=>∃(a4:Int),Fr 69 [] [(1,pb b5),(36,sv ad1 p0.Rays cap2),(37,iv (ln p0.Rays)),(38,iv a4)] a∧St w0 [blk b5 41 #[.string p0.Site.Name,iv p0.Site.X,iv p0.Site.Y,iv p0.Site.Z,iv p0.Site.Rose,iv p0.Site.Gates,iv p0.Site.Step,iv p0.Site.Width,iv p0.Tilt,iv p0.Time,sv ad1 p0.Rays cap2],fz w0 μ] w∧Cu F p0 n_ a4=some res) F ⟨0,hF.sub kr,St.pick [0,1] (by decide) hS,h⟩ ?_
     rintro nk6 a w ⟨a4,hF,hS,h⟩
     rcases nk6 with _|nk6
     ·cases (show (none:Option Int)=some res from h)
     obtain ⟨k6,hk6⟩:∃k,k=Cu F p0 nk6:=⟨_,rfl⟩
     replace h:Fe F p0 k6 a4=some res:=by rw [hk6];exact h
     rw [Fe] at h
     refine qnB [(39,.bool (decide (a4<(ln p0.Rays))))] hF fun a hF=>?_
     refine Ar ?_
     refine Ai hF rfl (fun hc=>?_) (fun hc=>?_)
     ·replace h:=Ag h hc
      refine wpIn_skip (A0 ?_)
      refine Ar ?_
      refine wpIn_block ?_
      refine esr ?_
      obtain ⟨aD,aM,h⟩:=A1 h
      obtain ⟨aS,aB,aK⟩:=Dq hA4.2 aM
      obtain ⟨aH,aI,rfl,aT⟩:=aK
      refine qo 3 3 [(5,sv aH aD aI)] hF (oI 39 (hA4.at (hS.frz (i:=1) rfl hlow)) aB<|oE 87 0 (Eg 1) (fun _ hd=>(hA4.at ((hS.at_ hd).frz (i:=1) rfl hlow))) aB rfl<|A9) fun a hF=>?_
      refine wfn rfl ?_
      refine qoB [(47,.bool ((ln aD) != p0.Site.Gates))] hF (oL 3 0 5 hS.i rfl rfl<|A9) fun a hF=>?_
      refine Ai hF rfl (fun hc=>?_) (fun hc=>?_)
      ·replace h:=Ag h hc
       refine rnB [(2,iv 11)] hF fun a hF=>?_
       refine wpIn_ret (Al<|A5<|A5<|Al<|A5<|Ab [.tmp 2] [iv 11] hF rfl ⟨rfl,trivial⟩ ?_)
       obtain rfl:=Ao h
       exact ⟨rfl,hS.ext⟩
      ·replace h:=Af h hc
       refine wpIn_skip (Aa<|A0<|?_)
       refine WI.region ?_
       obtain ⟨aG,aP,h⟩:=A1 h
       refine ro 2 2 [(1,pb b5),(36,sv ad1 p0.Rays cap2),(37,iv (ln p0.Rays)),(38,iv aG)] hF (oA 3 aP<|A9) fun a hF=>?_
       refine wfn rfl ?_
       rw [hk6] at h
       exact ⟨nk6,Nat.lt_succ_self _,aG,hF.sub kr,St.pick [0,1] (by decide) hS,h⟩
     ·replace h:=Af h hc
      refine wpIn_exit (A7<|A7<|Av<|A0 ?_)
      exact ⟨hF.sub kr,St.pick [0,1] (by decide) hS,h⟩
    rintro a w ⟨hF,hS,h⟩
    rw [Ff] at h
    refine Dg (fun a w=>Fr 69 [] [] a∧St w0 [blk b5 41 #[.string p0.Site.Name,iv p0.Site.X,iv p0.Site.Y,iv p0.Site.Z,iv p0.Site.Rose,iv p0.Site.Gates,iv p0.Site.Step,iv p0.Site.Width,iv p0.Tilt,iv p0.Time,sv ad1 p0.Rays cap2],fz w0 μ] w∧Gl=some res) ?_ ?_
    ·skip
     refine roB [(50,sv ad1 p0.Rays cap2),(51,iv (ln p0.Rays)),(52,iv 0)] hF (oL 39 0 10 hS.i rfl rfl<|A9) fun a hF=>?_
     refine wpIn_block ?_
     refine Cq (fun n_ a w=>∃(a1:Int),Fr 69 [] [(50,sv ad1 p0.Rays cap2),(51,iv (ln p0.Rays)),(52,iv a1)] a∧St w0 [blk b5 41 #[.string p0.Site.Name,iv p0.Site.X,iv p0.Site.Y,iv p0.Site.Z,iv p0.Site.Rose,iv p0.Site.Gates,iv p0.Site.Step,iv p0.Site.Width,iv p0.Tilt,iv p0.Time,sv ad1 p0.Rays cap2],fz w0 μ] w∧Cb F p0 n_ a1=some res) F ⟨0,hF.sub kr,St.pick [0,1] (by decide) hS,h⟩ ?_
     rintro nk3 a w ⟨a1,hF,hS,h⟩
     rcases nk3 with _|nk3
     ·cases (show (none:Option Int)=some res from h)
     obtain ⟨k3,hk3⟩:∃k,k=Cb F p0 nk3:=⟨_,rfl⟩
     replace h:Fb F p0 k3 a1=some res:=by rw [hk3];exact h
     rw [Fb] at h
     refine qnB [(53,.bool (decide (a1<(ln p0.Rays))))] hF fun a hF=>?_
     refine Ar ?_
     refine Ai hF rfl (fun hc=>?_) (fun hc=>?_)
     ·replace h:=Ag h hc
      refine wpIn_skip (A0 ?_)
      refine Dg (fun a w=>Fr 69 [] [(50,sv ad1 p0.Rays cap2),(51,iv (ln p0.Rays)),(52,iv a1)] a∧St w0 [blk b5 41 #[.string p0.Site.Name,iv p0.Site.X,iv p0.Site.Y,iv p0.Site.Z,iv p0.Site.Rose,iv p0.Site.Gates,iv p0.Site.Step,iv p0.Site.Width,iv p0.Tilt,iv p0.Time,sv ad1 p0.Rays cap2],fz w0 μ] w∧Ea a1 k3=some res) ?_ ?_
      ·skip
       refine wpIn_block ?_
       refine esr ?_
       obtain ⟨a2,aL,h⟩:=A1 h
       obtain ⟨aR,aA,aJ⟩:=Dq hA4.2 aL
       obtain ⟨a5,a6,rfl,a9⟩:=aJ
       refine qo 3 3 [(7,sv a5 a2 a6)] hF (oI 39 (hA4.at (hS.frz (i:=1) rfl hlow)) aA<|oE 87 0 (Eg 1) (fun _ hd=>(hA4.at ((hS.at_ hd).frz (i:=1) rfl hlow))) aA rfl<|A9) fun a hF=>?_
       refine wfn rfl ?_
       refine qnB [(56,sv a5 a2 a6),(57,iv (ln a2)),(58,iv 0)] hF fun a hF=>?_
       refine wpIn_block ?_
       refine Cq (fun n_ a w=>∃(a3:Int),Fr 69 [] [(50,sv ad1 p0.Rays cap2),(51,iv (ln p0.Rays)),(52,iv a1),(56,sv a5 a2 a6),(57,iv (ln a2)),(58,iv a3)] a∧St w0 [blk b5 41 #[.string p0.Site.Name,iv p0.Site.X,iv p0.Site.Y,iv p0.Site.Z,iv p0.Site.Rose,iv p0.Site.Gates,iv p0.Site.Step,iv p0.Site.Width,iv p0.Tilt,iv p0.Time,sv ad1 p0.Rays cap2],fz w0 μ] w∧Cc F a1 k3 a2 n_ a3=some res) F ⟨0,hF.sub kr,St.pick [0,1] (by decide) hS,h⟩ ?_
       rintro nk5 a w ⟨a3,hF,hS,h⟩
       rcases nk5 with _|nk5
       ·cases (show (none:Option Int)=some res from h)
       obtain ⟨k5,hk5⟩:∃k,k=Cc F a1 k3 a2 nk5:=⟨_,rfl⟩
       replace h:Fc F a1 k3 a2 k5 a3=some res:=by rw [hk5];exact h
       rw [Fc] at h
       refine qnB [(59,.bool (decide (a3<(ln a2))))] hF fun a hF=>?_
       refine Ar ?_
       refine Ai hF rfl (fun hc=>?_) (fun hc=>?_)
       ·replace h:=Ag h hc
        refine wpIn_skip (A0 ?_)
        refine Ar ?_
        refine wpIn_block ?_
        refine esr ?_
        obtain ⟨a0,aC,h⟩:=A1 h
        refine qo 2 2 [(61,a0.ag)] hF (oI 87 (a9 _ (hS.frz (i:=1) rfl hlow)) aC<|oG 149 0 14 api_Echo.cells_len (fun _ hd=>(a9 _ ((hS.at_ hd).frz (i:=1) rfl hlow))) aC<|A9) fun a hF=>?_
        refine SK.wi (qA 149 #[iv 0,iv 0,iv 0,iv 0,iv 0,iv 0,iv 0,iv 0,iv 0,iv 0,iv 0,iv 0,iv 0,iv 0] (fun a8=>[(9,pb a8)]) hF hS fun a8 w a hF hS=>?_)
        refine SK.wi (qS 149 0 0 (a0.ag) a0.ar hF hS rfl fun w a hF hS=>?_)
        refine wfn rfl ?_
        refine esr ?_
        obtain ⟨a7,aQ,h⟩:=A1 h
        refine qx 3 3 [(10,iv a7)] hF (oN 149 0 0 14 hS.e rfl<|oC (fun w2 hd=>R6 F (api_Echo.mk a0.Kind a0.Power ((api_Span.mk a0.Steps.1.Lo a0.Steps.1.Hi),(api_Span.mk a0.Steps.2.Lo a0.Steps.2.Hi)) a0.Spread a0.Ratio a0.Match a0.Turn) _ aQ _ w2 (Ae w2))<|A9) fun a w hF hx=>?_
        replace hS:=hS.later hx
        refine wfn rfl ?_
        refine qnB [(65,.bool (a7 != 0))] hF fun a hF=>?_
        refine Ai hF rfl (fun hc=>?_) (fun hc=>?_)
        ·replace h:=Ag h hc
         refine rnB [(2,iv a7)] hF fun a hF=>?_
         refine wpIn_ret (Al<|A5<|A5<|Al<|Al<|A5<|A5<|Al<|A5<|Ab [.tmp 2] [iv a7] hF rfl ⟨rfl,trivial⟩ ?_)
         obtain rfl:=Ao h
         exact ⟨rfl,hS.ext⟩
        ·replace h:=Af h hc
         refine wpIn_skip (Aa<|A0<|?_)
         refine WI.region ?_
         obtain ⟨aF,aO,h⟩:=A1 h
         refine ro 2 2 [(50,sv ad1 p0.Rays cap2),(51,iv (ln p0.Rays)),(52,iv a1),(56,sv a5 a2 a6),(57,iv (ln a2)),(58,iv aF)] hF (oA 3 aO<|A9) fun a hF=>?_
         refine wfn rfl ?_
         rw [hk5] at h
         exact ⟨nk5,Nat.lt_succ_self _,aF,hF.sub kr,St.pick [1,2] (by decide) hS,h⟩
       ·replace h:=Af h hc
        refine wpIn_exit (A7<|A7<|Av<|Aa<|A0<|?_)
        exact ⟨hF.sub kr,St.pick [0,1] (by decide) hS,h⟩
      rintro a w ⟨hF,hS,h⟩
      rw [Ea] at h
      refine WI.region ?_
      obtain ⟨aE,aN,h⟩:=A1 h
      refine ro 2 2 [(50,sv ad1 p0.Rays cap2),(51,iv (ln p0.Rays)),(52,iv aE)] hF (oA 3 aN<|A9) fun a hF=>?_
      refine wfn rfl ?_
      rw [hk3] at h
      exact ⟨nk3,Nat.lt_succ_self _,aE,hF.sub kr,St.pick [0,1] (by decide) hS,h⟩
     ·replace h:=Af h hc
      refine wpIn_exit (A7<|A7<|Av<|A0 ?_)
      exact ⟨hF.sub kr,St.pick [0,1] (by decide) hS,h⟩
    rintro a w ⟨hF,hS,h⟩
    rw [Gl] at h
    refine rnB [(2,iv 0)] hF fun a hF=>?_
    refine wpIn_ret (Ab [.tmp 2] [iv 0] hF rfl ⟨rfl,trivial⟩ ?_)
    obtain rfl:=Ao h
    exact ⟨rfl,hS.ext⟩
theorem Qw (F:Nat) (p0:api_Field) (res:Int) (h:F7 F p0=some res) (μ:Frz) (w0:World) (hm:FrzAt μ w0) {ad1:Option Addr} {cap2:Nat} (hA3:ArrM μ 2 api_Span.cells ad1 cap2 p0.Vals):Calls Tryz.prog 181 #[.agg #[iv p0.Grid.X,iv p0.Grid.Y,iv p0.Grid.Size,iv p0.Grid.Wide,iv p0.Grid.High,sv ad1 p0.Vals cap2]] w0 (fun e w=>e=.returned (iv res)∧Ext w0 w):=by
 obtain ⟨hlow,hS⟩:=hm.init
 have hext:=Frz.ext_refl w0.heap.size μ
 rw [F7] at h
 refine Ah Tryz.func181 rfl 5 [(0,.agg #[iv p0.Grid.X,iv p0.Grid.Y,iv p0.Grid.Size,iv p0.Grid.Wide,iv p0.Grid.High,sv ad1 p0.Vals cap2])] rfl rfl kr fun a w hw hF=>?_
 replace hS:=hS.cast hw
 clear hw
 refine esr ?_
 refine SK.wi (Ld (t:=46) (fun b4=>[(1,pb b4)]) (.agg #[iv p0.Grid.X,iv p0.Grid.Y,iv p0.Grid.Size,iv p0.Grid.Wide,iv p0.Grid.High,sv ad1 p0.Vals cap2]) #[iv p0.Grid.X,iv p0.Grid.Y,iv p0.Grid.Size,iv p0.Grid.Wide,iv p0.Grid.High,sv ad1 p0.Vals cap2] hF hS kr ⟨kr⟩ kr (fun _=>⟨kr⟩) fun b4 w a hF hS=>?_)
 refine rn 1 2 [(1,pb b4)] hF fun a hF=>?_
 refine wfn rfl ?_
 refine esr ?_
 obtain ⟨y5,hy5,h⟩:=A1 h
 refine rX 3 3 [(2,iv y5)] hF (oN 46 0 0 6 hS.e rfl<|oC (fun w2 hd=>Tu F p0 1073741824 _ hy5 _ w2 (Ae w2) (hA3.mono (FrzAt.le_mem ((hS.later hd).frz (i:=1) rfl hlow))))<|A9) fun a w hF hx=>?_
 replace hS:=hS.later hx
 refine wfn rfl ?_
 refine wpIn_ret (Ab [.tmp 2] [iv y5] hF rfl ⟨rfl,trivial⟩ ?_)
 obtain rfl:=Ao h
 exact ⟨rfl,hS.ext⟩
theorem P2 (F:Nat) (p0:volume_writer) (p1:api_Echo) (res:volume_writer) (h:Jf F p0 p1=some res) (μ:Frz) (w0 w1:World) (T_:List Res) (hlow:Ay w0 μ) {cb0:Nat} {ad1:Option Addr} {cap2:Nat} (hS:St w0 (fz w0 μ::blk cb0 138 #[sv ad1 p0.b cap2]::arrT 5 1 (fK .u8) ad1 p0.b.length cap2 p0.b::T_) w1):Bu Tryz.prog 170 #[pb cb0,p1.ag] w1 (fun e w=>∃(ν_:Frz) (aQ:Option Addr) (aW:Nat),μ.ext w0.heap.size ν_∧Ay w0 ν_∧e=(.tuple #[])∧St w0 (fz w0 ν_::blk cb0 138 #[sv aQ res.b aW]::arrT 5 1 (fK .u8) aQ res.b.length aW res.b::T_) w):=by
 rw [Jf] at h
 have hext:=Frz.ext_refl w0.heap.size μ
 refine Ah Tryz.func170 rfl 66 [(0,pb cb0),(1,p1.ag)] rfl rfl kr fun a w hw hF=>?_
 replace hS:=hS.cast hw
 clear hw
 refine esr ?_
 refine SK.wi (qB 149 (p1.ag) p1.ar (fun b3=>[(3,pb b3)]) hF hS fun b3 w a hF hS=>?_)
 refine wfn rfl ?_
 refine esr ?_
 refine qo 3 3 [(9,pb cb0),(11,iv p1.Kind)] hF (oL 3 0 0 hS.i rfl rfl<|A9) fun a hF=>?_
 refine SK.wi (G3 (e:=3) (sz:=1) (f:=fI) (t:=69) (len:=1) (fun b4=>[(0,pb cb0),(3,pb b3),(9,pb cb0),(12,sb b4 1)]) #[(0,iv p1.Kind)] #[iv p1.Kind] ([p1.Kind]) hF hS kr ⟨kr⟩ kr Gc rfl rfl kr (fun _=>⟨kr⟩) fun b4 w a hF hS=>?_)
 obtain ⟨ν5,hx6,hlow,hS,hz7⟩:=hS.freeze (i:=2) (j:=0) rfl rfl (by decide) hlow
 replace hext:=Frz.ext_trans hext hx6
 have hA8:=ArrM.of_arr hz7
 obtain ⟨y9,hy9,h⟩:=A1 h
 replace hS:=hS.s3.s3.s3
 refine SK.wi (rR (fun bO=>[(0,pb cb0),(3,pb b3)]) hF (At F _ _ _ hy9 ν5 w0 w _ hlow hA8 hS) ?_)
 rintro bO w a ⟨ν10,b9,bD,b2,hlow,rfl,hS⟩ hF
 replace hext:=Frz.ext_trans hext b2
 replace hA8:=hA8.mono b2.1
 refine wfn rfl ?_
 refine Ar ?_
 refine qoB [(16,.bool (p1.Kind==1))] hF (oL 3 3 0 hS.i rfl rfl<|A9) fun a hF=>?_
 refine Ai hF rfl (fun hc=>?_) (fun hc=>?_)
 ·replace h:=Ag h hc
  refine esr ?_
  refine ro 4 4 [(17,pb cb0),(20,iv p1.Power.Hi)] hF (oL 3 3 2 hS.i rfl rfl<|A9) fun a hF=>?_
  refine SK.wi (G3 (e:=3) (sz:=1) (f:=fI) (t:=69) (len:=1) (fun aT=>[(17,pb cb0),(21,sb aT 1)]) #[(0,iv p1.Power.Hi)] #[iv p1.Power.Hi] ([p1.Power.Hi]) hF hS kr ⟨kr⟩ kr Gc rfl rfl kr (fun _=>⟨kr⟩) fun aT w a hF hS=>?_)
  obtain ⟨ν16,b5,hlow,hS,bM⟩:=hS.freeze (i:=1) (j:=0) rfl rfl (by decide) hlow
  replace hA8:=hA8.mono b5.1
  replace hext:=Frz.ext_trans hext b5
  have aN:=ArrM.of_arr bM
  obtain ⟨bW,bK,h⟩:=A1 h
  refine SK.wi (rR (fun bR=>[]) hF (At F _ _ _ bK ν16 w0 w _ hlow aN hS) ?_)
  rintro bR w a ⟨ν21,bB,bF,aO,hlow,rfl,hS⟩ hF
  replace hext:=Frz.ext_trans hext aO
  replace hA8:=hA8.mono aO.1
  replace aN:=aN.mono aO.1
  refine wfn rfl ?_
  refine wpIn_ret (A5<|Ab [] [] hF rfl trivial ?_)
  obtain rfl:=Ao h
  replace hS:=hS.d3
  exact ⟨_,rfl,ν21,bB,bF,hext,hlow,rfl,hS⟩
 ·replace h:=Af h hc
  refine wpIn_skip (A0 ?_)
  refine esr ?_
  refine qo 6 6 [(24,.agg #[iv p1.Power.Lo,iv p1.Power.Hi]),(26,.agg #[iv p1.Ratio.Lo,iv p1.Ratio.Hi]),(28,.agg #[iv p1.Match.Lo,iv p1.Match.Hi])] hF (oN 146 3 1 2 hS.i rfl<|oN 146 3 8 2 hS.i rfl<|oN 146 3 10 2 hS.i rfl<|A9) fun a hF=>?_
  refine SK.wi (G3 (e:=146) (sz:=2) (f:=api_Span.cells) (t:=44) (len:=3) (fun a0=>[(0,pb cb0),(3,pb b3),(29,sb a0 3)]) #[(0,.agg #[iv p1.Power.Lo,iv p1.Power.Hi]),(1,.agg #[iv p1.Ratio.Lo,iv p1.Ratio.Hi]),(2,.agg #[iv p1.Match.Lo,iv p1.Match.Hi])] #[iv p1.Power.Lo,iv p1.Power.Hi,iv p1.Ratio.Lo,iv p1.Ratio.Hi,iv p1.Match.Lo,iv p1.Match.Hi] ([p1.Power,p1.Ratio,p1.Match]) hF hS kr ⟨kr⟩ kr api_Span.cells_len rfl rfl kr (fun _=>⟨kr⟩) fun a0 w a hF hS=>?_)
  refine rn 1 8 [(0,pb cb0),(3,pb b3),(4,sb a0 3)] hF fun a hF=>?_
  refine wfn rfl ?_
  have a7:=Frz.le_refl ν10
  refine Dg (fun a w=>∃(aC:(List Int)) (ν67:Frz) (aL:Option Addr) (aM:Nat),Fr 66 [] [(0,pb cb0),(3,pb b3)] a∧St w0 (arrT 5 1 (fK .u8) aL aC.length aM aC::arr 146 2 api_Span.cells (some ⟨a0,0,none⟩) ([p1.Power,p1.Ratio,p1.Match]).length 3 ([p1.Power,p1.Ratio,p1.Match])::fz w0 ν67::blk cb0 138 #[sv aL aC aM]::blk b3 149 p1.ar::T_) w∧(ν10.le ν67)∧(μ.ext w0.heap.size ν67)∧(Ay w0 ν67)∧H9 F p1 aC=some res) ?_ ?_
  ·skip
   refine qnB [(30,sb a0 3),(31,iv ((3:Nat):Int)),(32,iv 0)] hF fun a hF=>?_
   refine wpIn_block ?_
   have aZ:=Frz.le_refl ν10
   refine Cq (fun n_ a w=>∃(a5:(List Int)) (aE:Int) (ν149:Frz) (aG:Option Addr) (aI:Nat),Fr 66 [] [(0,pb cb0),(3,pb b3),(30,sb a0 3),(31,iv ((3:Nat):Int)),(32,iv aE)] a∧St w0 (arrT 5 1 (fK .u8) aG a5.length aI a5::arr 146 2 api_Span.cells (some ⟨a0,0,none⟩) ([p1.Power,p1.Ratio,p1.Match]).length 3 ([p1.Power,p1.Ratio,p1.Match])::fz w0 ν149::blk cb0 138 #[sv aG a5 aI]::blk b3 149 p1.ar::T_) w∧(ν10.le ν149)∧(μ.ext w0.heap.size ν149)∧(Ay w0 ν149)∧Fo F p1 n_ a5 aE=some res) F ⟨y9.b,0,ν10,b9,bD,hF.sub kr,hS.s3,aZ,hext,hlow,h⟩ ?_
   clear aZ
   rintro nk3 a w ⟨a5,aE,ν149,aG,aI,hF,hS,aA,hext,hlow,h⟩
   rcases nk3 with _|nk3
   ·cases (show (none:Option volume_writer)=some res from h)
   replace hA8:=hA8.mono aA
   replace a7:=Frz.le_trans a7 aA
   obtain ⟨k3,hk3⟩:∃k,k=Fo F p1 nk3:=⟨_,rfl⟩
   replace h:H8 F p1 k3 a5 aE=some res:=by rw [hk3];exact h
   rw [H8] at h
   refine qnB [(33,.bool (decide (aE<((3:Nat):Int))))] hF fun a hF=>?_
   refine Ar ?_
   refine Ai hF rfl (fun hc=>?_) (fun hc=>?_)
   ·replace h:=Ag h hc
    refine wpIn_skip (A0 ?_)
    refine Ar ?_
    refine wpIn_block ?_
    refine esr ?_
    obtain ⟨a3,b1,h⟩:=A1 h
    refine qo 2 2 [(35,.agg #[iv a3.Lo,iv a3.Hi])] hF (oI 44 (hS.arr (i:=1) rfl) b1<|oG 146 0 2 api_Span.cells_len (fun _ hd=>((hS.at_ hd).arr (i:=1) rfl)) b1<|A9) fun a hF=>?_
    refine SK.wi (qA 146 #[iv 0,iv 0] (fun aU=>[(6,pb aU)]) hF hS fun aU w a hF hS=>?_)
    refine SK.wi (qS 146 0 0 (.agg #[iv a3.Lo,iv a3.Hi]) #[iv a3.Lo,iv a3.Hi] hF hS rfl fun w a hF hS=>?_)
    refine wfn rfl ?_
    refine WI.region ?_
    refine qo 2 2 [(36,pb cb0),(37,.agg #[iv a3.Lo,iv a3.Hi])] hF (oN 146 0 0 2 hS.i rfl<|A9) fun a hF=>?_
    obtain ⟨bU,bJ,h⟩:=A1 h
    replace hS:=hS.s1.s4.s4
    refine SK.wi (qR (fun bQ=>[]) hF (Ha F _ _ _ bJ ν149 w0 w _ hlow  hS) ?_)
    rintro bQ w a ⟨ν159,bA,bE,aJ,hlow,rfl,hS⟩ hF
    replace hext:=Frz.ext_trans hext aJ
    replace hA8:=hA8.mono aJ.1
    replace a7:=Frz.le_trans a7 aJ.1
    replace aA:=Frz.le_trans aA aJ.1
    refine WI.fin rfl (Aa<|A0<|?_)
    refine WI.region ?_
    obtain ⟨b7,bH,h⟩:=A1 h
    refine ro 2 2 [(0,pb cb0),(3,pb b3),(30,sb a0 3),(31,iv ((3:Nat):Int)),(32,iv b7)] hF (oA 3 bH<|A9) fun a hF=>?_
    refine wfn rfl ?_
    rw [hk3] at h
    exact ⟨nk3,Nat.lt_succ_self _,bU.b,b7,ν159,bA,bE,hF.sub kr,hS.d3.s3.s3,aA,hext,hlow,h⟩
   ·replace h:=Af h hc
    refine wpIn_exit (A7<|A7<|Av<|A0 ?_)
    exact ⟨a5,ν149,aG,aI,hF.sub kr,hS,a7,hext,hlow,h⟩
  clear a7
  rintro a w ⟨aC,ν67,aL,aM,hF,hS,a1,hext,hlow,h⟩
  replace hA8:=hA8.mono a1
  rw [H9] at h
  refine esr ?_
  refine qo 3 3 [(40,pb cb0),(42,iv p1.Spread)] hF (oL 3 4 7 hS.i rfl rfl<|A9) fun a hF=>?_
  refine SK.wi (G3 (e:=3) (sz:=1) (f:=fI) (t:=69) (len:=1) (fun aV=>[(0,pb cb0),(3,pb b3),(40,pb cb0),(43,sb aV 1)]) #[(0,iv p1.Spread)] #[iv p1.Spread] ([p1.Spread]) hF hS kr ⟨kr⟩ kr Gc rfl rfl kr (fun _=>⟨kr⟩) fun aV w a hF hS=>?_)
  obtain ⟨ν73,aP,hlow,hS,bN⟩:=hS.freeze (i:=3) (j:=0) rfl rfl (by decide) hlow
  replace hA8:=hA8.mono aP.1
  replace a1:=Frz.le_trans a1 aP.1
  replace hext:=Frz.ext_trans hext aP
  have a4:=ArrM.of_arr bN
  obtain ⟨bV,bL,h⟩:=A1 h
  replace hS:=hS.s3.s3
  refine SK.wi (rR (fun bS=>[(0,pb cb0),(3,pb b3)]) hF (At F _ _ _ bL ν73 w0 w _ hlow a4 hS) ?_)
  rintro bS w a ⟨ν78,aR,aX,aK,hlow,rfl,hS⟩ hF
  replace hext:=Frz.ext_trans hext aK
  replace hA8:=hA8.mono aK.1
  replace a4:=a4.mono aK.1
  replace a1:=Frz.le_trans a1 aK.1
  refine wfn rfl ?_
  refine qoB [(47,.bool (p1.Kind==3))] hF (oL 3 4 0 hS.i rfl rfl<|A9) fun a hF=>?_
  refine Ai hF rfl (fun hc=>?_) (fun hc=>?_)
  ·replace h:=Ag h hc
   refine esr ?_
   refine qo 8 8 [(50,.agg #[iv p1.Steps.1.Lo,iv p1.Steps.1.Hi]),(53,.agg #[iv p1.Steps.2.Lo,iv p1.Steps.2.Hi]),(55,.agg #[iv p1.Turn.Lo,iv p1.Turn.Hi])] hF (oX (.run [] (Instr.indexAt 147 (.pointer (some ⟨b3,3,none⟩)) (iv 0)) (.pointer (some ⟨b3,3,none⟩))) (Bs kr)<|oN 146 4 3 2 hS.i rfl<|oX (.run [] (Instr.indexAt 147 (.pointer (some ⟨b3,3,none⟩)) (iv 1)) (.pointer (some ⟨b3,5,none⟩))) (Bs kr)<|oN 146 4 5 2 hS.i rfl<|oN 146 4 12 2 hS.i rfl<|A9) fun a hF=>?_
   refine SK.wi (G3 (e:=146) (sz:=2) (f:=api_Span.cells) (t:=44) (len:=3) (fun a6=>[(0,pb cb0),(56,sb a6 3)]) #[(0,.agg #[iv p1.Steps.1.Lo,iv p1.Steps.1.Hi]),(1,.agg #[iv p1.Steps.2.Lo,iv p1.Steps.2.Hi]),(2,.agg #[iv p1.Turn.Lo,iv p1.Turn.Hi])] #[iv p1.Steps.1.Lo,iv p1.Steps.1.Hi,iv p1.Steps.2.Lo,iv p1.Steps.2.Hi,iv p1.Turn.Lo,iv p1.Turn.Hi] ([(api_Span.mk p1.Steps.1.Lo p1.Steps.1.Hi),(api_Span.mk p1.Steps.2.Lo p1.Steps.2.Hi),p1.Turn]) hF hS kr ⟨kr⟩ kr api_Span.cells_len rfl rfl kr (fun _=>⟨kr⟩) fun a6 w a hF hS=>?_)
   refine rn 2 11 [(0,pb cb0),(56,sb a6 3),(57,iv ((3:Nat):Int)),(58,iv 0)] hF fun a hF=>?_
   refine wfn rfl ?_
   refine wpIn_block ?_
   have aY:=Frz.le_refl ν78
   refine Cq (fun n_ a w=>∃(a9:(List Int)) (aD:Int) (ν108:Frz) (aF:Option Addr) (aH:Nat),Fr 66 [] [(0,pb cb0),(56,sb a6 3),(57,iv ((3:Nat):Int)),(58,iv aD)] a∧St w0 (arrT 5 1 (fK .u8) aF a9.length aH a9::arr 146 2 api_Span.cells (some ⟨a6,0,none⟩) ([(api_Span.mk p1.Steps.1.Lo p1.Steps.1.Hi),(api_Span.mk p1.Steps.2.Lo p1.Steps.2.Hi),p1.Turn]).length 3 ([(api_Span.mk p1.Steps.1.Lo p1.Steps.1.Hi),(api_Span.mk p1.Steps.2.Lo p1.Steps.2.Hi),p1.Turn])::fz w0 ν108::blk cb0 138 #[sv aF a9 aH]::arr 146 2 api_Span.cells (some ⟨a0,0,none⟩) ([p1.Power,p1.Ratio,p1.Match]).length 3 ([p1.Power,p1.Ratio,p1.Match])::blk b3 149 p1.ar::T_) w∧(ν78.le ν108)∧(μ.ext w0.heap.size ν108)∧(Ay w0 ν108)∧Fm F p1 n_ a9 aD=some res) F ⟨bV.b,0,ν78,aR,aX,hF.sub kr,hS.s3,aY,hext,hlow,h⟩ ?_
   clear aY
   rintro nk2 a w ⟨a9,aD,ν108,aF,aH,hF,hS,a8,hext,hlow,h⟩
   rcases nk2 with _|nk2
   ·cases (show (none:Option volume_writer)=some res from h)
   replace hA8:=hA8.mono a8
   replace a4:=a4.mono a8
   replace a1:=Frz.le_trans a1 a8
   obtain ⟨k2,hk2⟩:∃k,k=Fm F p1 nk2:=⟨_,rfl⟩
   replace h:H7 F p1 k2 a9 aD=some res:=by rw [hk2];exact h
   rw [H7] at h
   refine qnB [(59,.bool (decide (aD<((3:Nat):Int))))] hF fun a hF=>?_
   refine Ar ?_
   refine Ai hF rfl (fun hc=>?_) (fun hc=>?_)
   ·replace h:=Ag h hc
    refine wpIn_skip (A0 ?_)
    refine Ar ?_
    refine wpIn_block ?_
    refine esr ?_
    obtain ⟨a2,b0,h⟩:=A1 h
    refine qo 2 2 [(61,.agg #[iv a2.Lo,iv a2.Hi])] hF (oI 44 (hS.arr (i:=1) rfl) b0<|oG 146 0 2 api_Span.cells_len (fun _ hd=>((hS.at_ hd).arr (i:=1) rfl)) b0<|A9) fun a hF=>?_
    refine SK.wi (qA 146 #[iv 0,iv 0] (fun aS=>[(8,pb aS)]) hF hS fun aS w a hF hS=>?_)
    refine SK.wi (qS 146 0 0 (.agg #[iv a2.Lo,iv a2.Hi]) #[iv a2.Lo,iv a2.Hi] hF hS rfl fun w a hF hS=>?_)
    refine wfn rfl ?_
    refine WI.region ?_
    refine qo 2 2 [(62,pb cb0),(63,.agg #[iv a2.Lo,iv a2.Hi])] hF (oN 146 0 0 2 hS.i rfl<|A9) fun a hF=>?_
    obtain ⟨bT,bI,h⟩:=A1 h
    replace hS:=hS.s1.s4.s4
    refine SK.wi (qR (fun bP=>[]) hF (Ha F _ _ _ bI ν108 w0 w _ hlow  hS) ?_)
    rintro bP w a ⟨ν118,b8,bC,aB,hlow,rfl,hS⟩ hF
    replace hext:=Frz.ext_trans hext aB
    replace hA8:=hA8.mono aB.1
    replace a4:=a4.mono aB.1
    replace a1:=Frz.le_trans a1 aB.1
    replace a8:=Frz.le_trans a8 aB.1
    refine WI.fin rfl (Aa<|A0<|?_)
    refine WI.region ?_
    obtain ⟨b6,bG,h⟩:=A1 h
    refine ro 2 2 [(0,pb cb0),(56,sb a6 3),(57,iv ((3:Nat):Int)),(58,iv b6)] hF (oA 3 bG<|A9) fun a hF=>?_
    refine wfn rfl ?_
    rw [hk2] at h
    exact ⟨nk2,Nat.lt_succ_self _,bT.b,b6,ν118,b8,bC,hF.sub kr,hS.d3.s3.s3,a8,hext,hlow,h⟩
   ·replace h:=Af h hc
    refine wpIn_exit (A7<|A7<|Av<|?_)
    refine J0 hF rfl ?_
    obtain rfl:=Ao h
    replace hS:=hS.d5.d4.d1.s2.s2
    exact ⟨_,rfl,ν108,aF,aH,hext,hlow,rfl,hS⟩
  ·replace h:=Af h hc
   refine wpIn_skip ?_
   refine J0 hF rfl ?_
   obtain rfl:=Ao h
   replace hS:=hS.d4.d3
   exact ⟨_,rfl,ν78,aR,aX,hext,hlow,rfl,hS⟩
theorem Jv (F:Nat) (p0:volume_writer) (p1:(List api_Span)) (p2:api_Span) (res:volume_writer) (h:Ej F p0 p1 p2=some res) (μ:Frz) (w0 w1:World) (T_:List Res) (hlow:Ay w0 μ) {cb0:Nat} {ad1:Option Addr} {cap2:Nat} {ad3:Option Addr} {cap4:Nat} (hA5:ArrM μ 2 api_Span.cells ad3 cap4 p1) (hS:St w0 (fz w0 μ::blk cb0 138 #[sv ad1 p0.b cap2]::arrT 5 1 (fK .u8) ad1 p0.b.length cap2 p0.b::T_) w1):Bu Tryz.prog 182 #[pb cb0,sv ad3 p1 cap4,.agg #[iv p2.Lo,iv p2.Hi],.func (.func 173) #[pb cb0] #[]] w1 (fun e w=>∃(ν_:Frz) (aP:Option Addr) (aR:Nat),μ.ext w0.heap.size ν_∧Ay w0 ν_∧e=(.tuple #[])∧St w0 (fz w0 ν_::blk cb0 138 #[sv aP res.b aR]::arrT 5 1 (fK .u8) aP res.b.length aR res.b::T_) w):=by
 rw [Ej] at h
 have hext:=Frz.ext_refl w0.heap.size μ
 refine Ah Tryz.func182 rfl 44 [(0,pb cb0),(1,sv ad3 p1 cap4),(2,.agg #[iv p2.Lo,iv p2.Hi]),(3,.func (.func 173) #[pb cb0] #[])] rfl rfl kr fun a w hw hF=>?_
 replace hS:=hS.cast hw
 clear hw
 refine esr ?_
 refine SK.wi (qB 146 (.agg #[iv p2.Lo,iv p2.Hi]) #[iv p2.Lo,iv p2.Hi] (fun b6=>[(6,pb b6)]) hF hS fun b6 w a hF hS=>?_)
 refine wfn rfl ?_
 refine wpIn_block ?_
 have aS:=Frz.le_refl μ
 refine Cq (fun n_ a w=>∃(a5:Int) (a6:Int) (a4:(List Int)) (a3:(List api_Span)) (ν108:Frz) (aC:Option Addr) (aD:Nat) (a2:Option Addr) (a0:Nat),Fr 44 [] [(0,pb cb0),(1,sv a2 a3 a0),(3,.func (.func 173) #[pb cb0] #[]),(6,pb b6)] a∧St w0 (arrT 5 1 (fK .u8) aC a4.length aD a4::blk b6 146 #[iv a5,iv a6]::fz w0 ν108::blk cb0 138 #[sv aC a4 aD]::T_) w∧(ArrM ν108 2 api_Span.cells a2 a0 a3)∧(μ.le ν108)∧(μ.ext w0.heap.size ν108)∧(Ay w0 ν108)∧Co F n_ a5 a6 a4 a3=some res) F ⟨p2.Lo,p2.Hi,p0.b,p1,μ,ad1,cap2,ad3,cap4,hF.sub kr,hS.s3,hA5,aS,hext,hlow,h⟩ ?_
 clear aS
 rintro nk1 a w ⟨a5,a6,a4,a3,ν108,aC,aD,a2,a0,hF,hS,a8,aB,hext,hlow,h⟩
 rcases nk1 with _|nk1
 ·cases (show (none:Option volume_writer)=some res from h)
 replace hA5:=hA5.mono aB
 obtain ⟨k1,hk1⟩:∃k,k=Co F nk1:=⟨_,rfl⟩
 replace h:Dm F k1 a5 a6 a4 a3=some res:=by rw [hk1];exact h
 rw [Dm] at h
 refine Ar ?_
 refine qnB [(11,.bool (decide ((ln a3)>0)))] hF fun a hF=>?_
 refine Ai hF rfl (fun hc=>?_) (fun hc=>?_)
 ·replace h:=Ag h hc
  refine wpIn_skip (A0 ?_)
  refine wpIn_block ?_
  refine qnB [(8,iv 0)] hF fun a hF=>?_
  refine Dg (fun a w=>∃(a1:Int),Fr 44 [] [(0,pb cb0),(1,sv a2 a3 a0),(3,.func (.func 173) #[pb cb0] #[]),(6,pb b6),(8,iv a1)] a∧St w0 (arrT 5 1 (fK .u8) aC a4.length aD a4::blk b6 146 #[iv a5,iv a6]::fz w0 ν108::blk cb0 138 #[sv aC a4 aD]::T_) w∧Do F a5 a6 a4 a3 k1 a1=some res) ?_ ?_
  ·skip
   refine wpIn_block ?_
   refine Cq (fun n_ a w=>∃(a7:Int),Fr 44 [] [(0,pb cb0),(1,sv a2 a3 a0),(3,.func (.func 173) #[pb cb0] #[]),(6,pb b6),(8,iv a7)] a∧St w0 (arrT 5 1 (fK .u8) aC a4.length aD a4::blk b6 146 #[iv a5,iv a6]::fz w0 ν108::blk cb0 138 #[sv aC a4 aD]::T_) w∧Cp F a5 a6 a4 a3 k1 n_ a7=some res) F ⟨0,hF.sub kr,hS,h⟩ ?_
   rintro nk3 a w ⟨a7,hF,hS,h⟩
   rcases nk3 with _|nk3
   ·cases (show (none:Option volume_writer)=some res from h)
   obtain ⟨k3,hk3⟩:∃k,k=Cp F a5 a6 a4 a3 k1 nk3:=⟨_,rfl⟩
   replace h:Dn F a5 a6 a4 a3 k1 k3 a7=some res:=by rw [hk3];exact h
   rw [Dn] at h
   refine Ar ?_
   refine Ar ?_
   obtain ⟨aA,aW,h⟩:=A1 h
   refine qD 12 [(23,.bool (bif (decide (a7<(ln a3))) then (((aA.Lo:Int)==a5)&&(((aA.Hi:Int)==a6)&&true)) else false))] hF (oX (.run [⟨16,true,(decide (a7<(ln a3)))⟩] (Instr.indexAt 44 (sv a2 a3 a0) (iv a7)) (.pointer (some (Bj a2 a7 2)))) (Hs (a8 _ (hS.frz (i:=2) rfl hlow)) kr (fun hk=>C9 aW hk))<|oX (.run [⟨16,true,(decide (a7<(ln a3)))⟩] (Instr.loadAt 146 (.pointer (some (Bj a2 a7 2)))) (.agg #[iv aA.Lo,iv aA.Hi])) (Ti (m:=2) (i:=a7) (us:=[iv aA.Lo,iv aA.Hi]) 0 api_Span.cells_len (fun _ hd=>(a8 _ ((hS.later hd).frz (i:=2) rfl hlow))) kr (fun hk=>C9 aW hk) ⟨rfl,rfl⟩)<|oX (.run [⟨16,true,(decide (a7<(ln a3)))⟩] (Instr.loadAt 146 (pb b6)) (.agg #[iv a5,iv a6])) (obN (us:=[iv a5,iv a6]) kr (fun _ hd=>((hS.later hd).blk (i:=1) rfl).cells rfl))<|oX (.run [⟨16,true,(decide (a7<(ln a3)))⟩] (eqS .eql 146 #[iv aA.Lo,iv aA.Hi] #[iv a5,iv a6]) (.bool (((aA.Lo:Int)==a5)&&(((aA.Hi:Int)==a6)&&true)))) (Lg kr kr)<|A9) fun a w hF hx=>?_
   replace hS:=hS.later hx
   refine wfn rfl ?_
   refine Ai hF rfl (fun hc=>?_) (fun hc=>?_)
   ·replace h:=Ag h hc
    refine wpIn_skip (A0 ?_)
    refine wpIn_block ?_
    refine WI.region ?_
    obtain ⟨aX,b0,h⟩:=A1 h
    refine ro 3 3 [(0,pb cb0),(1,sv a2 a3 a0),(3,.func (.func 173) #[pb cb0] #[]),(6,pb b6),(8,iv aX)] hF (oA 3 b0<|A9) fun a hF=>?_
    refine WI.fin rfl (Aa<|A0<|?_)
    rw [hk3] at h
    exact ⟨nk3,Nat.lt_succ_self _,aX,hF.sub kr,hS,h⟩
   ·replace h:=Af h hc
    refine wpIn_exit (A7<|A7<|Av<|A0 ?_)
    exact ⟨a7,hF.sub kr,hS,h⟩
  rintro a w ⟨a1,hF,hS,h⟩
  rw [Do] at h
  refine esr ?_
  refine qn 2 2 [(26,pb cb0),(27,iv a1)] hF fun a hF=>?_
  refine SK.wi (G3 (e:=3) (sz:=1) (f:=fI) (t:=69) (len:=1) (fun aQ=>[(0,pb cb0),(1,sv a2 a3 a0),(3,.func (.func 173) #[pb cb0] #[]),(6,pb b6),(8,iv a1),(26,pb cb0),(28,sb aQ 1)]) #[(0,iv a1)] #[iv a1] ([a1]) hF hS kr ⟨kr⟩ kr Gc rfl rfl kr (fun _=>⟨kr⟩) fun aQ w a hF hS=>?_)
  obtain ⟨ν131,aK,hlow,hS,b3⟩:=hS.freeze (i:=3) (j:=0) rfl rfl (by decide) hlow
  replace hA5:=hA5.mono aK.1
  replace a8:=a8.mono aK.1
  replace aB:=Frz.le_trans aB aK.1
  replace hext:=Frz.ext_trans hext aK
  have aH:=ArrM.of_arr b3
  obtain ⟨aL,b1,h⟩:=A1 h
  replace hS:=hS.s3.s3
  refine SK.wi (rR (fun b4=>[(0,pb cb0),(1,sv a2 a3 a0),(3,.func (.func 173) #[pb cb0] #[]),(6,pb b6),(8,iv a1)]) hF (At F _ _ _ b1 ν131 w0 w _ hlow aH hS) ?_)
  rintro b4 w a ⟨ν136,aM,aN,aI,hlow,rfl,hS⟩ hF
  replace hext:=Frz.ext_trans hext aI
  replace hA5:=hA5.mono aI.1
  replace a8:=a8.mono aI.1
  replace aH:=aH.mono aI.1
  replace aB:=Frz.le_trans aB aI.1
  refine wfn rfl ?_
  refine esr ?_
  obtain ⟨aG,aT,h⟩:=A1 h
  have aE:ArrM ν136 2 api_Span.cells (Aq a2 a0 a1.toNat 2) (a0-a1.toNat) aG:=fun w_ hw_=>(a8 w_ hw_).cutD api_Span.cells_len aT
  refine ro 4 4 [(0,pb cb0),(1,.slice (Aq a2 a0 a1.toNat 2) aG.length (a0-a1.toNat)),(3,.func (.func 173) #[pb cb0] #[]),(6,pb b6)] hF (oX (.run [] (Instr.sliceAt 44 (sv a2 a3 a0) (some (iv a1)) none none) (.slice (Aq a2 a0 a1.toNat 2) aG.length (a0-a1.toNat))) (Kq kr (a8 _ (hS.frz (i:=0) rfl hlow)) (fun _=>aT))<|A9) fun a hF=>?_
  refine wfn rfl ?_
  refine qnB [(35,.bool (decide ((ln aG)>0)))] hF fun a hF=>?_
  refine Ai hF rfl (fun hc=>?_) (fun hc=>?_)
  ·replace h:=Ag h hc
   refine Ar ?_
   obtain ⟨a9,aV,h⟩:=A1 h
   obtain ⟨aJ,aU,h⟩:=A1 h
   refine Cz 7 [5] _ (D:=fun w=>St w0 [blk cb0 138 #[sv aM aL.b aN],arrT 5 1 (fK .u8) aM aL.b.length aN aL.b] w∧FrzAt ν136 w) kr kr hF.size (fun w hx=>?_) (fun _ _ h=>h)
   replace hS:=hS.later hx
   refine ⟨⟨St.pick [1,2] (by decide) hS,hS.frz (i:=0) rfl hlow⟩,?_⟩
   have b8:=Frz.le_refl ν136
   have aO:ArrM ν136 2 api_Span.cells (Aq (Aq a2 a0 a1.toNat 2) (a0-a1.toNat) (1:Int).toNat 2) ((a0-a1.toNat)-(1:Int).toNat) aJ:=fun w_ hw_=>(aE w_ hw_).cutD api_Span.cells_len aU
   refine WT.s [0,1,2,3,4] [5] kr kr ?_
   refine qC 5 [(38,.agg #[iv a9.Lo,iv a9.Hi]),(40,.slice (Aq (Aq a2 a0 a1.toNat 2) (a0-a1.toNat) (1:Int).toNat 2) aJ.length ((a0-a1.toNat)-(1:Int).toNat))] hF (oI 44 (aE _ (hS.frz (i:=0) rfl hlow)) aV<|oG 146 0 2 api_Span.cells_len (fun _ hd=>(aE _ hd.2)) aV<|oX (.run [] (Instr.sliceAt 44 (.slice (Aq a2 a0 a1.toNat 2) aG.length (a0-a1.toNat)) (some (iv 1)) none none) (.slice (Aq (Aq a2 a0 a1.toNat 2) (a0-a1.toNat) (1:Int).toNat 2) aJ.length ((a0-a1.toNat)-(1:Int).toNat))) (Kq kr (aE _ (hS.frz (i:=0) rfl hlow)) (fun _=>aU))<|A9) fun a hF=>?_
   refine WRun.fin ?_
   refine all_cons ?_ (B8)
   refine qS 146 3 0 (.agg #[iv a9.Lo,iv a9.Hi]) #[iv a9.Lo,iv a9.Hi] hF hS rfl fun w a hF hS=>⟨⟨St.pick [1,2] (by decide) hS,(hS.frz (i:=0) rfl hlow)⟩,?_⟩
   refine WT.z [6] kr ?_
   refine rC 1 [(0,pb cb0),(1,.slice (Aq (Aq a2 a0 a1.toNat 2) (a0-a1.toNat) (1:Int).toNat 2) aJ.length ((a0-a1.toNat)-(1:Int).toNat)),(3,.func (.func 173) #[pb cb0] #[]),(6,pb b6)] hF A9 fun a hF=>?_
   refine WRun.fin ?_
   refine wfn rfl ?_
   refine WI.region ?_
   refine qo 2 2 [(41,.func (.func 173) #[pb cb0] #[]),(42,.agg #[iv a9.Lo,iv a9.Hi])] hF (oN 146 3 0 2 hS.i rfl<|A9) fun a hF=>?_
   obtain ⟨b7,b2,h⟩:=A1 h
   refine SK.wi (qR (fun b5=>[]) hF (Ha F _ _ _ b2 ν136 w0 w _ hlow  hS) ?_)
   rintro b5 w a ⟨ν150,aY,aZ,aF,hlow,rfl,hS⟩ hF
   replace hext:=Frz.ext_trans hext aF
   replace hA5:=hA5.mono aF.1
   replace a8:=a8.mono aF.1
   replace aH:=aH.mono aF.1
   replace aE:=aE.mono aF.1
   replace aO:=aO.mono aF.1
   replace aB:=Frz.le_trans aB aF.1
   refine WI.fin rfl (Aa<|A0<|?_)
   rw [hk1] at h
   exact ⟨nk1,Nat.lt_succ_self _,a9.Lo,a9.Hi,b7.b,aJ,ν150,aY,aZ,(Aq (Aq a2 a0 a1.toNat 2) (a0-a1.toNat) (1:Int).toNat 2),((a0-a1.toNat)-(1:Int).toNat),hF.sub kr,hS.s3.s3,aO,aB,hext,hlow,h⟩
  ·replace h:=Af h hc
   refine wpIn_skip (Aa<|A0<|?_)
   rw [hk1] at h
   exact ⟨nk1,Nat.lt_succ_self _,a5,a6,aL.b,aG,ν136,aM,aN,(Aq a2 a0 a1.toNat 2),(a0-a1.toNat),hF.sub kr,hS.s3.s3,aE,aB,hext,hlow,h⟩
 ·replace h:=Af h hc
  refine wpIn_exit (A7<|A7<|Av<|?_)
  refine J0 hF rfl ?_
  obtain rfl:=Ao h
  replace hS:=hS.d1.s2.s2
  exact ⟨_,rfl,ν108,aC,aD,hext,hlow,rfl,hS⟩
theorem Ph (F:Nat) (p0:volume_field) (p1:volume_writer) (res:volume_writer) (h:Js F p0 p1=some res) (μ:Frz) (w0 w1:World) (T_:List Res) (hlow:Ay w0 μ) {ad1:Option Addr} {cap2:Nat} {cb1:Nat} {ad4:Option Addr} {cap5:Nat} (hA3:ArrM μ 2 api_Span.cells ad1 cap2 p0.Field.Vals) (hS:St w0 (fz w0 μ::blk cb1 138 #[sv ad4 p1.b cap5]::arrT 5 1 (fK .u8) ad4 p1.b.length cap5 p1.b::T_) w1):Bu Tryz.prog 180 #[.agg #[.string p0.key,iv p0.time,iv p0.Field.Grid.X,iv p0.Field.Grid.Y,iv p0.Field.Grid.Size,iv p0.Field.Grid.Wide,iv p0.Field.Grid.High,sv ad1 p0.Field.Vals cap2],pb cb1] w1 (fun e w=>∃(ν_:Frz) (aD:Option Addr) (aH:Nat),μ.ext w0.heap.size ν_∧Ay w0 ν_∧e=(.tuple #[])∧St w0 (fz w0 ν_::blk cb1 138 #[sv aD res.b aH]::arrT 5 1 (fK .u8) aD res.b.length aH res.b::T_) w):=by
 rw [Js] at h
 have hext:=Frz.ext_refl w0.heap.size μ
 refine Ah Tryz.func180 rfl 50 [(0,.agg #[.string p0.key,iv p0.time,iv p0.Field.Grid.X,iv p0.Field.Grid.Y,iv p0.Field.Grid.Size,iv p0.Field.Grid.Wide,iv p0.Field.Grid.High,sv ad1 p0.Field.Vals cap2]),(1,pb cb1)] rfl rfl kr fun a w hw hF=>?_
 replace hS:=hS.cast hw
 clear hw
 refine esr ?_
 refine SK.wi (qB 158 (.agg #[.string p0.key,iv p0.time,iv p0.Field.Grid.X,iv p0.Field.Grid.Y,iv p0.Field.Grid.Size,iv p0.Field.Grid.Wide,iv p0.Field.Grid.High,sv ad1 p0.Field.Vals cap2]) #[.string p0.key,iv p0.time,iv p0.Field.Grid.X,iv p0.Field.Grid.Y,iv p0.Field.Grid.Size,iv p0.Field.Grid.Wide,iv p0.Field.Grid.High,sv ad1 p0.Field.Vals cap2] (fun b6=>[(2,pb b6)]) hF hS fun b6 w a hF hS=>?_)
 refine wfn rfl ?_
 refine esr ?_
 refine qn 1 1 [(4,pb cb1)] hF fun a hF=>?_
 refine SK.wi (G3 (e:=3) (sz:=1) (f:=fI) (t:=69) (len:=1) (fun b7=>[(1,pb cb1),(2,pb b6),(4,pb cb1),(5,sb b7 1)]) #[(0,iv 2)] #[iv 2] ([2]) hF hS kr ⟨kr⟩ kr Gc rfl rfl kr (fun _=>⟨kr⟩) fun b7 w a hF hS=>?_)
 obtain ⟨ν8,hx9,hlow,hS,aQ⟩:=hS.freeze (i:=2) (j:=0) rfl rfl (by decide) hlow
 replace hA3:=hA3.mono hx9.1
 replace hext:=Frz.ext_trans hext hx9
 have a0:=ArrM.of_arr aQ
 obtain ⟨bC,aK,h⟩:=A1 h
 replace hS:=hS.s3.s3.s3
 refine SK.wi (rR (fun aU=>[(1,pb cb1),(2,pb b6)]) hF (At F _ _ _ aK ν8 w0 w _ hlow a0 hS) ?_)
 rintro aU w a ⟨ν13,b0,b5,aA,hlow,rfl,hS⟩ hF
 replace hext:=Frz.ext_trans hext aA
 replace hA3:=hA3.mono aA.1
 replace a0:=a0.mono aA.1
 refine wfn rfl ?_
 refine esr ?_
 refine qo 3 3 [(7,pb cb1),(9,.string p0.key)] hF (oL 9 3 0 hS.i rfl rfl<|A9) fun a hF=>?_
 obtain ⟨bD,aL,h⟩:=A1 h
 refine SK.wi (qR (fun aV=>[]) hF (Hb F _ _ _ aL ν13 w0 w _ hlow  hS) ?_)
 rintro aV w a ⟨ν19,b1,b8,aB,hlow,rfl,hS⟩ hF
 replace hext:=Frz.ext_trans hext aB
 replace hA3:=hA3.mono aB.1
 replace a0:=a0.mono aB.1
 refine wfn rfl ?_
 refine esr ?_
 refine qo 3 3 [(11,pb cb1),(13,iv p0.time)] hF (oL 3 3 1 hS.i rfl rfl<|A9) fun a hF=>?_
 refine SK.wi (G3 (e:=3) (sz:=1) (f:=fI) (t:=69) (len:=1) (fun aE=>[(1,pb cb1),(2,pb b6),(11,pb cb1),(14,sb aE 1)]) #[(0,iv p0.time)] #[iv p0.time] ([p0.time]) hF hS kr ⟨kr⟩ kr Gc rfl rfl kr (fun _=>⟨kr⟩) fun aE w a hF hS=>?_)
 obtain ⟨ν25,aC,hlow,hS,aR⟩:=hS.freeze (i:=1) (j:=0) rfl rfl (by decide) hlow
 replace hA3:=hA3.mono aC.1
 replace a0:=a0.mono aC.1
 replace hext:=Frz.ext_trans hext aC
 have a1:=ArrM.of_arr aR
 obtain ⟨bE,aM,h⟩:=A1 h
 refine SK.wi (rR (fun aW=>[(1,pb cb1),(2,pb b6)]) hF (At F _ _ _ aM ν25 w0 w _ hlow a1 hS) ?_)
 rintro aW w a ⟨ν30,b2,b9,a8,hlow,rfl,hS⟩ hF
 replace hext:=Frz.ext_trans hext a8
 replace hA3:=hA3.mono a8.1
 replace a0:=a0.mono a8.1
 replace a1:=a1.mono a8.1
 refine wfn rfl ?_
 refine esr ?_
 refine qo 9 9 [(16,pb cb1),(20,iv p0.Field.Grid.X),(24,iv p0.Field.Grid.Y)] hF (oL 3 3 2 hS.i rfl rfl<|oL 3 3 3 hS.i rfl rfl<|A9) fun a hF=>?_
 refine SK.wi (G3 (e:=3) (sz:=1) (f:=fI) (t:=69) (len:=2) (fun aF=>[(1,pb cb1),(2,pb b6),(16,pb cb1),(25,sb aF 2)]) #[(0,iv p0.Field.Grid.X),(1,iv p0.Field.Grid.Y)] #[iv p0.Field.Grid.X,iv p0.Field.Grid.Y] ([p0.Field.Grid.X,p0.Field.Grid.Y]) hF hS kr ⟨kr⟩ kr Gc rfl rfl kr (fun _=>⟨kr⟩) fun aF w a hF hS=>?_)
 obtain ⟨ν36,a9,hlow,hS,aS⟩:=hS.freeze (i:=1) (j:=0) rfl rfl (by decide) hlow
 replace hA3:=hA3.mono a9.1
 replace a0:=a0.mono a9.1
 replace a1:=a1.mono a9.1
 replace hext:=Frz.ext_trans hext a9
 have a2:=ArrM.of_arr aS
 obtain ⟨bF,aN,h⟩:=A1 h
 refine SK.wi (rR (fun aX=>[(1,pb cb1),(2,pb b6)]) hF (G5 F _ _ _ aN ν36 w0 w _ hlow a2 hS) ?_)
 rintro aX w a ⟨ν41,b3,bA,a6,hlow,rfl,hS⟩ hF
 replace hext:=Frz.ext_trans hext a6
 replace hA3:=hA3.mono a6.1
 replace a0:=a0.mono a6.1
 replace a1:=a1.mono a6.1
 replace a2:=a2.mono a6.1
 refine wfn rfl ?_
 refine esr ?_
 refine qo 13 13 [(27,pb cb1),(31,iv p0.Field.Grid.Size),(35,iv p0.Field.Grid.Wide),(39,iv p0.Field.Grid.High)] hF (oL 3 3 4 hS.i rfl rfl<|oL 3 3 5 hS.i rfl rfl<|oL 3 3 6 hS.i rfl rfl<|A9) fun a hF=>?_
 refine SK.wi (G3 (e:=3) (sz:=1) (f:=fI) (t:=69) (len:=3) (fun aG=>[(1,pb cb1),(2,pb b6),(27,pb cb1),(40,sb aG 3)]) #[(0,iv p0.Field.Grid.Size),(1,iv p0.Field.Grid.Wide),(2,iv p0.Field.Grid.High)] #[iv p0.Field.Grid.Size,iv p0.Field.Grid.Wide,iv p0.Field.Grid.High] ([p0.Field.Grid.Size,p0.Field.Grid.Wide,p0.Field.Grid.High]) hF hS kr ⟨kr⟩ kr Gc rfl rfl kr (fun _=>⟨kr⟩) fun aG w a hF hS=>?_)
 obtain ⟨ν47,a7,hlow,hS,aT⟩:=hS.freeze (i:=1) (j:=0) rfl rfl (by decide) hlow
 replace hA3:=hA3.mono a7.1
 replace a0:=a0.mono a7.1
 replace a1:=a1.mono a7.1
 replace a2:=a2.mono a7.1
 replace hext:=Frz.ext_trans hext a7
 have a5:=ArrM.of_arr aT
 obtain ⟨bG,aO,h⟩:=A1 h
 refine SK.wi (rR (fun aY=>[(1,pb cb1),(2,pb b6)]) hF (At F _ _ _ aO ν47 w0 w _ hlow a5 hS) ?_)
 rintro aY w a ⟨ν52,b4,bB,a3,hlow,rfl,hS⟩ hF
 replace hext:=Frz.ext_trans hext a3
 replace hA3:=hA3.mono a3.1
 replace a0:=a0.mono a3.1
 replace a1:=a1.mono a3.1
 replace a2:=a2.mono a3.1
 replace a5:=a5.mono a3.1
 refine wfn rfl ?_
 refine WI.region ?_
 refine ro 7 7 [(42,pb cb1),(45,sv ad1 p0.Field.Vals cap2),(46,.agg #[iv 0,iv 0]),(48,.func (.func 173) #[pb cb1] #[])] hF (oL 44 3 7 hS.i rfl rfl<|A9) fun a hF=>?_
 obtain ⟨bH,aP,h⟩:=A1 h
 refine SK.wi (rR (fun aZ=>[]) hF (Jv F _ _ _ _ aP ν52 w0 w _ hlow hA3 hS) ?_)
 rintro aZ w a ⟨ν58,aI,aJ,a4,hlow,rfl,hS⟩ hF
 replace hext:=Frz.ext_trans hext a4
 replace hA3:=hA3.mono a4.1
 replace a0:=a0.mono a4.1
 replace a1:=a1.mono a4.1
 replace a2:=a2.mono a4.1
 replace a5:=a5.mono a4.1
 refine WI.fin rfl ?_
 refine J0 hF rfl ?_
 obtain rfl:=Ao h
 replace hS:=hS.d3
 exact ⟨_,rfl,ν58,aI,aJ,hext,hlow,rfl,hS⟩
end Go.Proofs.YtifbomimeodibaaGreat
