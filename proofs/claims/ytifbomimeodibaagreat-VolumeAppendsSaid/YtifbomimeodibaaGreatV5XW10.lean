import Derived.Test.YtifbomimeodibaaGreatV5XD
import Derived.Test.YtifbomimeodibaaGreatProg
import Derived.Test.YtifbomimeodibaaGreatV5XW0
import Derived.Test.YtifbomimeodibaaGreatV5XW1
import Derived.Test.YtifbomimeodibaaGreatV5XW5
import Derived.Test.YtifbomimeodibaaGreatV5XW7
namespace Go.Proofs.YtifbomimeodibaaGreat
open Go Go.RowKit Go.Eng
set_option maxRecDepth 10000
set_option maxHeartbeats 4000000
set_option linter.unusedVariables false
set_option linter.unusedSimpArgs false
theorem S8 (F:Nat) (p0:api_Field) (res:Int) (h:Fv F p0=some res) (μ:Frz) (w0:World) (hm:FrzAt μ w0) {ad1:Option Addr} {cap2:Nat} (hA3:ArrM μ 2 api_Span.cells ad1 cap2 p0.Vals):Calls Tryz.prog 181 #[.agg (p0.ax ad1 cap2)] w0 (fun e w=>e=.returned (iv res)∧Ext w0 w):=by
 obtain ⟨hlow,hS⟩:=hm.init
 have hext:=Frz.ext_refl w0.heap.size μ
 rw [Fv] at h
 refine feW Tryz.func181 5 [(0,.agg (p0.ax ad1 cap2))] hS fun a w hF hS=>?_
 refine esr<|SK.wi (qBa 46 (p0.ax ad1 cap2) (fun b4=>[(1,pb b4)]) hF hS fun b4 w a hF hS=>?_)
 refine qn 1 2 [] hF fun a hF=>wfn rfl ?_
 refine esr ?_
 obtain ⟨y5,hy5,h⟩:=A0 h
 refine rX 3 3 [(2,iv y5)] hF (oN 46 0 0 6 hS.e rfl<|oC (fun w2 hd=>Vw F p0 1073741824 _ hy5 _ w2 (A4 w2) (hA3.mono (FrzAt.le_mem ((hS.later hd).frz (i:=1) rfl hlow))))<|A1) fun a w hF hx=>?_
 replace hS:=hS.later hx
 refine wfn rfl ?_
 refine wpIn_ret (A7 [.tmp 2] [_] hF rfl ⟨rfl,trivial⟩ ?_)
 obtain rfl:=Ae h
 exact ⟨rfl,hS.ext⟩
theorem Qd (F:Nat) (p0:volume_writer) (p1:api_Echo) (res:volume_writer) (h:G8 F p0 p1=some res) (μ:Frz) (w0 w1:World) (T_:List Res) (hlow:Ax w0 μ) {cb0:Nat} {ad1:Option Addr} {cap2:Nat} (hS:St w0 (fz w0 μ::blk cb0 138 #[sv ad1 p0.b cap2]::arrT 5 1 (fK .u8) ad1 p0.b.length cap2 p0.b::T_) w1):Ba Tryz.prog 170 #[pb cb0,p1.ag] w1 (fun e w=>∃(ν_:Frz) (aQ:Option Addr) (aW:Nat),μ.ext w0.heap.size ν_∧Ax w0 ν_∧e=(.tuple #[])∧St w0 (fz w0 ν_::blk cb0 138 #[sv aQ res.b aW]::arrT 5 1 (fK .u8) aQ res.b.length aW res.b::T_) w):=by
 rw [G8] at h
 have hext:=Frz.ext_refl w0.heap.size μ
 refine feW Tryz.func170 66 [(0,pb cb0),(1,p1.ag)] hS fun a w hF hS=>?_
 refine esr<|SK.wi (qBa 149 p1.ar (fun b3=>[(3,pb b3)]) hF hS fun b3 w a hF hS=>wfn rfl ?_)
 refine esr<|qo 3 3 [(9,pb cb0),(11,iv p1.Kind)] hF (oL 3 0 0 hS.i rfl rfl<|A1) fun a hF=>?_
 refine SK.wi (qL 3 69 1 [p1.Kind] (fun b4=>[(12,sb b4 1)]) H9 hF hS fun b4 w a hF hS=>?_)
 obtain ⟨ν5,hx6,hlow,hS,hz7⟩:=hS.freeze (i:=2) (j:=0) rfl rfl (by decide) hlow
 replace hext:=hext.t hx6
 have hA8:=ArrM.of_arr hz7
 obtain ⟨y9,hy9,h⟩:=A0 h
 replace hS:=hS.s3.s3.s3
 refine SK.wi (qR (fun bO=>[]) hF (As F _ _ _ hy9 ν5 w0 w _ hlow hA8 hS) ?_)
 rintro bO w a ⟨ν10,b9,bD,b2,hlow,rfl,hS⟩ hF
 replace hext:=hext.t b2
 replace hA8:=hA8.mono b2.1
 refine wfn rfl ?_
 refine Am<|qoB [(16,.bool (p1.Kind==1))] hF (oL 3 3 0 hS.i rfl rfl<|A1) fun a hF=>?_
 refine A8 hF h (fun hc h=>?_) fun hc h=>?_
 ·refine esr<|ro 4 4 [(17,pb cb0),(20,iv p1.Power.Hi)] hF (oL 3 3 2 hS.i rfl rfl<|A1) fun a hF=>?_
  refine SK.wi (qL 3 69 1 [p1.Power.Hi] (fun aT=>[(21,sb aT 1)]) H9 hF hS fun aT w a hF hS=>?_)
  obtain ⟨ν16,b5,hlow,hS,bM⟩:=hS.freeze (i:=1) (j:=0) rfl rfl (by decide) hlow
  replace hA8:=hA8.mono b5.1
  replace hext:=hext.t b5
  have aN:=ArrM.of_arr bM
  obtain ⟨bW,bK,h⟩:=A0 h
  refine SK.wi (rR (fun bR=>[]) hF (As F _ _ _ bK ν16 w0 w _ hlow aN hS) ?_)
  rintro bR w a ⟨ν21,bB,bF,aO,hlow,rfl,hS⟩ hF
  replace hext:=hext.t aO
  replace hA8:=hA8.mono aO.1
  replace aN:=aN.mono aO.1
  refine wfn rfl ?_
  refine wpIn_ret (A2<|A7 [] [] hF rfl trivial ?_)
  obtain rfl:=Ae h
  replace hS:=hS.d3
  exact ⟨_,rfl,ν21,bB,bF,hext,hlow,rfl,hS⟩
 ·refine wK<|esr<|qo 6 6 [(24,.agg #[iv p1.Power.Lo,iv p1.Power.Hi]),(26,.agg #[iv p1.Ratio.Lo,iv p1.Ratio.Hi]),(28,.agg #[iv p1.Match.Lo,iv p1.Match.Hi])] hF (oN 146 3 1 2 hS.i rfl<|oN 146 3 8 2 hS.i rfl<|oN 146 3 10 2 hS.i rfl<|A1) fun a hF=>?_
  refine SK.wi (qL 146 44 3 [p1.Power,p1.Ratio,p1.Match] (fun a0=>[(29,sb a0 3)]) api_Span.cells_len hF hS fun a0 w a hF hS=>?_)
  refine qn 1 8 [(4,sb a0 3)] hF fun a hF=>wfn rfl ?_
  have a4:=Frz.le_refl ν10
  refine Dx (fun a w=>∃(aC:(List Int)) (ν67:Frz) (aL:Option Addr) (aM:Nat),Fr 66 [] [(0,pb cb0),(3,pb b3)] a∧St w0 (arrT 5 1 (fK .u8) aL aC.length aM aC::arr 146 2 api_Span.cells (some ⟨a0,0,none⟩) ([p1.Power,p1.Ratio,p1.Match]).length 3 ([p1.Power,p1.Ratio,p1.Match])::fz w0 ν67::blk cb0 138 #[sv aL aC aM]::blk b3 149 p1.ar::T_) w∧(ν10.le ν67)∧(μ.ext w0.heap.size ν67)∧(Ax w0 ν67)∧Gb F p1 aC=some res) ?_ ?_
  ·skip
   refine qnB [(30,sb a0 3),(31,iv ((3:Nat):Int)),(32,iv 0)] hF fun a hF=>?_
   refine wpIn_block ?_
   have aZ:=Frz.le_refl ν10
   refine Ck (fun n_ a w=>∃(a3:(List Int)) (aE:Int) (ν149:Frz) (aG:Option Addr) (aI:Nat),Fr 66 [] [(0,pb cb0),(3,pb b3),(30,sb a0 3),(31,iv ((3:Nat):Int)),(32,iv aE)] a∧St w0 (arrT 5 1 (fK .u8) aG a3.length aI a3::arr 146 2 api_Span.cells (some ⟨a0,0,none⟩) ([p1.Power,p1.Ratio,p1.Match]).length 3 ([p1.Power,p1.Ratio,p1.Match])::fz w0 ν149::blk cb0 138 #[sv aG a3 aI]::blk b3 149 p1.ar::T_) w∧(ν10.le ν149)∧(μ.ext w0.heap.size ν149)∧(Ax w0 ν149)∧C9 F p1 n_ a3 aE=some res) F ⟨y9.b,0,ν10,b9,bD,hF.sub kr,hS.s3,aZ,hext,hlow,h⟩ ?_
   clear aZ
   rintro nk3 a w ⟨a3,aE,ν149,aG,aI,hF,hS,aA,hext,hlow,h⟩
   rcases nk3 with _|nk3
   ·cases (show (none:Option volume_writer)=some res from h)
   replace hA8:=hA8.mono aA
   replace a4:=a4.t aA
   obtain ⟨k3,hk3⟩:∃k,k=C9 F p1 nk3:=⟨_,rfl⟩
   replace h:D1 F p1 k3 a3 aE=some res:=by rw [hk3];exact h
   rw [D1] at h
   refine qnB [(33,.bool (decide (aE<((3:Nat):Int))))] hF fun a hF=>?_
   refine Am<|A8 hF h (fun hc h=>?_) fun hc h=>?_
   ·refine wK<|Am<|wpIn_block<|esr ?_
    obtain ⟨a8,b1,h⟩:=A0 h
    refine qo 2 2 [(35,.agg #[iv a8.Lo,iv a8.Hi])] hF (oI 44 (hS.arr (i:=1) rfl) b1<|oG 146 0 2 api_Span.cells_len (fun _ hd=>((hS.at_ hd).arr (i:=1) rfl)) b1<|A1) fun a hF=>?_
    refine SK.wi (qA 146 #[iv 0,iv 0] (fun aU=>[(6,pb aU)]) hF hS fun aU w a hF hS=>?_)
    refine SK.wi (qw 146 0 #[iv a8.Lo,iv a8.Hi] hF hS rfl fun w a hF hS=>wfn rfl ?_)
    refine WI.region<|qo 2 2 [(36,pb cb0),(37,.agg #[iv a8.Lo,iv a8.Hi])] hF (oN 146 0 0 2 hS.i rfl<|A1) fun a hF=>?_
    obtain ⟨bU,bJ,h⟩:=A0 h
    replace hS:=hS.s1.s4.s4
    refine SK.wi (qR (fun bQ=>[]) hF (J3 F _ _ _ bJ ν149 w0 w _ hlow  hS) ?_)
    rintro bQ w a ⟨ν159,bA,bE,aJ,hlow,rfl,hS⟩ hF
    replace hext:=hext.t aJ
    replace hA8:=hA8.mono aJ.1
    replace a4:=a4.t aJ.1
    replace aA:=aA.t aJ.1
    refine WI.fin rfl (A9<|A3<|?_)
    refine WI.region ?_
    obtain ⟨b7,bH,h⟩:=A0 h
    refine ro 2 2 [(0,pb cb0),(3,pb b3),(30,sb a0 3),(31,iv ((3:Nat):Int)),(32,iv b7)] hF (oA 3 bH<|A1) fun a hF=>wfn rfl ?_
    rw [hk3] at h
    exact ⟨nk3,Nat.lt_succ_self _,bU.b,b7,ν159,bA,bE,hF.sub kr,hS.d3.s3.s3,aA,hext,hlow,h⟩
   ·refine wpIn_exit (A5<|A5<|Ar<|A3 ?_)
    exact ⟨a3,ν149,aG,aI,hF.sub kr,hS,a4,hext,hlow,h⟩
  clear a4
  rintro a w ⟨aC,ν67,aL,aM,hF,hS,a1,hext,hlow,h⟩
  replace hA8:=hA8.mono a1
  rw [Gb] at h
  refine esr<|qo 3 3 [(40,pb cb0),(42,iv p1.Spread)] hF (oL 3 4 7 hS.i rfl rfl<|A1) fun a hF=>?_
  refine SK.wi (qL 3 69 1 [p1.Spread] (fun aV=>[(43,sb aV 1)]) H9 hF hS fun aV w a hF hS=>?_)
  obtain ⟨ν73,aP,hlow,hS,bN⟩:=hS.freeze (i:=3) (j:=0) rfl rfl (by decide) hlow
  replace hA8:=hA8.mono aP.1
  replace a1:=a1.t aP.1
  replace hext:=hext.t aP
  have a2:=ArrM.of_arr bN
  obtain ⟨bV,bL,h⟩:=A0 h
  replace hS:=hS.s3.s3
  refine SK.wi (qR (fun bS=>[]) hF (As F _ _ _ bL ν73 w0 w _ hlow a2 hS) ?_)
  rintro bS w a ⟨ν78,aR,aX,aK,hlow,rfl,hS⟩ hF
  replace hext:=hext.t aK
  replace hA8:=hA8.mono aK.1
  replace a2:=a2.mono aK.1
  replace a1:=a1.t aK.1
  refine wfn rfl ?_
  refine qoB [(47,.bool (p1.Kind==3))] hF (oL 3 4 0 hS.i rfl rfl<|A1) fun a hF=>?_
  refine A8 hF h (fun hc h=>?_) fun hc h=>?_
  ·refine esr<|qo 8 8 [(50,.agg #[iv p1.Steps.1.Lo,iv p1.Steps.1.Hi]),(53,.agg #[iv p1.Steps.2.Lo,iv p1.Steps.2.Hi]),(55,.agg #[iv p1.Turn.Lo,iv p1.Turn.Hi])] hF (oX (.run [] (Instr.indexAt 147 (.pointer (some ⟨b3,3,none⟩)) (iv 0)) (.pointer (some ⟨b3,3,none⟩))) (Bm kr)<|oN 146 4 3 2 hS.i rfl<|oX (.run [] (Instr.indexAt 147 (.pointer (some ⟨b3,3,none⟩)) (iv 1)) (.pointer (some ⟨b3,5,none⟩))) (Bm kr)<|oN 146 4 5 2 hS.i rfl<|oN 146 4 12 2 hS.i rfl<|A1) fun a hF=>?_
   refine SK.wi (qL 146 44 3 [(api_Span.mk p1.Steps.1.Lo p1.Steps.1.Hi),(api_Span.mk p1.Steps.2.Lo p1.Steps.2.Hi),p1.Turn] (fun a9=>[(56,sb a9 3)]) api_Span.cells_len hF hS fun a9 w a hF hS=>?_)
   refine qn 2 11 [(57,iv ((3:Nat):Int)),(58,iv 0)] hF fun a hF=>wfn rfl ?_
   refine wpIn_block ?_
   have aY:=Frz.le_refl ν78
   refine Ck (fun n_ a w=>∃(a6:(List Int)) (aD:Int) (ν108:Frz) (aF:Option Addr) (aH:Nat),Fr 66 [] [(0,pb cb0),(56,sb a9 3),(57,iv ((3:Nat):Int)),(58,iv aD)] a∧St w0 (arrT 5 1 (fK .u8) aF a6.length aH a6::arr 146 2 api_Span.cells (some ⟨a9,0,none⟩) ([(api_Span.mk p1.Steps.1.Lo p1.Steps.1.Hi),(api_Span.mk p1.Steps.2.Lo p1.Steps.2.Hi),p1.Turn]).length 3 ([(api_Span.mk p1.Steps.1.Lo p1.Steps.1.Hi),(api_Span.mk p1.Steps.2.Lo p1.Steps.2.Hi),p1.Turn])::fz w0 ν108::blk cb0 138 #[sv aF a6 aH]::arr 146 2 api_Span.cells (some ⟨a0,0,none⟩) ([p1.Power,p1.Ratio,p1.Match]).length 3 ([p1.Power,p1.Ratio,p1.Match])::blk b3 149 p1.ar::T_) w∧(ν78.le ν108)∧(μ.ext w0.heap.size ν108)∧(Ax w0 ν108)∧C8 F p1 n_ a6 aD=some res) F ⟨bV.b,0,ν78,aR,aX,hF.sub kr,hS.s3,aY,hext,hlow,h⟩ ?_
   clear aY
   rintro nk2 a w ⟨a6,aD,ν108,aF,aH,hF,hS,a5,hext,hlow,h⟩
   rcases nk2 with _|nk2
   ·cases (show (none:Option volume_writer)=some res from h)
   replace hA8:=hA8.mono a5
   replace a2:=a2.mono a5
   replace a1:=a1.t a5
   obtain ⟨k2,hk2⟩:∃k,k=C8 F p1 nk2:=⟨_,rfl⟩
   replace h:D0 F p1 k2 a6 aD=some res:=by rw [hk2];exact h
   rw [D0] at h
   refine qnB [(59,.bool (decide (aD<((3:Nat):Int))))] hF fun a hF=>?_
   refine Am<|A8 hF h (fun hc h=>?_) fun hc h=>?_
   ·refine wK<|Am<|wpIn_block<|esr ?_
    obtain ⟨a7,b0,h⟩:=A0 h
    refine qo 2 2 [(61,.agg #[iv a7.Lo,iv a7.Hi])] hF (oI 44 (hS.arr (i:=1) rfl) b0<|oG 146 0 2 api_Span.cells_len (fun _ hd=>((hS.at_ hd).arr (i:=1) rfl)) b0<|A1) fun a hF=>?_
    refine SK.wi (qA 146 #[iv 0,iv 0] (fun aS=>[(8,pb aS)]) hF hS fun aS w a hF hS=>?_)
    refine SK.wi (qw 146 0 #[iv a7.Lo,iv a7.Hi] hF hS rfl fun w a hF hS=>wfn rfl ?_)
    refine WI.region<|qo 2 2 [(62,pb cb0),(63,.agg #[iv a7.Lo,iv a7.Hi])] hF (oN 146 0 0 2 hS.i rfl<|A1) fun a hF=>?_
    obtain ⟨bT,bI,h⟩:=A0 h
    replace hS:=hS.s1.s4.s4
    refine SK.wi (qR (fun bP=>[]) hF (J3 F _ _ _ bI ν108 w0 w _ hlow  hS) ?_)
    rintro bP w a ⟨ν118,b8,bC,aB,hlow,rfl,hS⟩ hF
    replace hext:=hext.t aB
    replace hA8:=hA8.mono aB.1
    replace a2:=a2.mono aB.1
    replace a1:=a1.t aB.1
    replace a5:=a5.t aB.1
    refine WI.fin rfl (A9<|A3<|?_)
    refine WI.region ?_
    obtain ⟨b6,bG,h⟩:=A0 h
    refine ro 2 2 [(0,pb cb0),(56,sb a9 3),(57,iv ((3:Nat):Int)),(58,iv b6)] hF (oA 3 bG<|A1) fun a hF=>wfn rfl ?_
    rw [hk2] at h
    exact ⟨nk2,Nat.lt_succ_self _,bT.b,b6,ν118,b8,bC,hF.sub kr,hS.d3.s3.s3,a5,hext,hlow,h⟩
   ·refine wpIn_exit (A5<|A5<|Ar<|?_)
    refine Jr hF rfl ?_
    obtain rfl:=Ae h
    replace hS:=hS.d5.d4.d1.s2.s2
    exact ⟨_,rfl,ν108,aF,aH,hext,hlow,rfl,hS⟩
  ·refine wpIn_skip ?_
   refine Jr hF rfl ?_
   obtain rfl:=Ae h
   replace hS:=hS.d4.d3
   exact ⟨_,rfl,ν78,aR,aX,hext,hlow,rfl,hS⟩
theorem Kz (F:Nat) (p0:volume_writer) (p1:(List api_Span)) (p2:api_Span) (res:volume_writer) (h:Cm F p0 p1 p2=some res) (μ:Frz) (w0 w1:World) (T_:List Res) (hlow:Ax w0 μ) {cb0:Nat} {ad1:Option Addr} {cap2:Nat} {ad3:Option Addr} {cap4:Nat} (hA5:ArrM μ 2 api_Span.cells ad3 cap4 p1) (hS:St w0 (fz w0 μ::blk cb0 138 #[sv ad1 p0.b cap2]::arrT 5 1 (fK .u8) ad1 p0.b.length cap2 p0.b::T_) w1):Ba Tryz.prog 182 #[pb cb0,sv ad3 p1 cap4,.agg #[iv p2.Lo,iv p2.Hi],.func (.func 173) #[pb cb0] #[]] w1 (fun e w=>∃(ν_:Frz) (aP:Option Addr) (aR:Nat),μ.ext w0.heap.size ν_∧Ax w0 ν_∧e=(.tuple #[])∧St w0 (fz w0 ν_::blk cb0 138 #[sv aP res.b aR]::arrT 5 1 (fK .u8) aP res.b.length aR res.b::T_) w):=by
 rw [Cm] at h
 have hext:=Frz.ext_refl w0.heap.size μ
 refine feW Tryz.func182 44 [(0,pb cb0),(1,sv ad3 p1 cap4),(2,.agg #[iv p2.Lo,iv p2.Hi]),(3,.func (.func 173) #[pb cb0] #[])] hS fun a w hF hS=>?_
 refine esr<|SK.wi (qBa 146 #[iv p2.Lo,iv p2.Hi] (fun b6=>[(6,pb b6)]) hF hS fun b6 w a hF hS=>wfn rfl ?_)
 refine wpIn_block ?_
 have aS:=Frz.le_refl μ
 refine Ck (fun n_ a w=>∃(a5:Int) (a6:Int) (a4:(List Int)) (a3:(List api_Span)) (ν108:Frz) (aB:Option Addr) (aC:Nat) (a2:Option Addr) (a0:Nat),Fr 44 [] [(0,pb cb0),(1,sv a2 a3 a0),(3,.func (.func 173) #[pb cb0] #[]),(6,pb b6)] a∧St w0 (arrT 5 1 (fK .u8) aB a4.length aC a4::blk b6 146 #[iv a5,iv a6]::fz w0 ν108::blk cb0 138 #[sv aB a4 aC]::T_) w∧(ArrM ν108 2 api_Span.cells a2 a0 a3)∧(μ.le ν108)∧(μ.ext w0.heap.size ν108)∧(Ax w0 ν108)∧B7 F n_ a5 a6 a4 a3=some res) F ⟨p2.Lo,p2.Hi,p0.b,p1,μ,ad1,cap2,ad3,cap4,hF.sub kr,hS.s3,hA5,aS,hext,hlow,h⟩ ?_
 clear aS
 rintro nk1 a w ⟨a5,a6,a4,a3,ν108,aB,aC,a2,a0,hF,hS,a8,aA,hext,hlow,h⟩
 rcases nk1 with _|nk1
 ·cases (show (none:Option volume_writer)=some res from h)
 replace hA5:=hA5.mono aA
 obtain ⟨k1,hk1⟩:∃k,k=B7 F nk1:=⟨_,rfl⟩
 replace h:C2 F k1 a5 a6 a4 a3=some res:=by rw [hk1];exact h
 rw [C2] at h
 refine Am<|qnB [(11,.bool (decide ((ln a3)>0)))] hF fun a hF=>?_
 refine A8 hF h (fun hc h=>?_) fun hc h=>?_
 ·refine wK<|wpIn_block<|qnB [(8,iv 0)] hF fun a hF=>?_
  refine Dx (fun a w=>∃(a1:Int),Fr 44 [] [(0,pb cb0),(1,sv a2 a3 a0),(3,.func (.func 173) #[pb cb0] #[]),(6,pb b6),(8,iv a1)] a∧St w0 (arrT 5 1 (fK .u8) aB a4.length aC a4::blk b6 146 #[iv a5,iv a6]::fz w0 ν108::blk cb0 138 #[sv aB a4 aC]::T_) w∧C3 F a5 a6 a4 a3 k1 a1=some res) ?_ ?_
  ·skip
   refine wpIn_block<|Ck (fun n_ a w=>∃(a7:Int),Fr 44 [] [(0,pb cb0),(1,sv a2 a3 a0),(3,.func (.func 173) #[pb cb0] #[]),(6,pb b6),(8,iv a7)] a∧St w0 (arrT 5 1 (fK .u8) aB a4.length aC a4::blk b6 146 #[iv a5,iv a6]::fz w0 ν108::blk cb0 138 #[sv aB a4 aC]::T_) w∧Bh F a5 a6 a4 a3 k1 n_ a7=some res) F ⟨0,hF.sub kr,hS,h⟩ ?_
   rintro nk3 a w ⟨a7,hF,hS,h⟩
   rcases nk3 with _|nk3
   ·cases (show (none:Option volume_writer)=some res from h)
   obtain ⟨k3,hk3⟩:∃k,k=Bh F a5 a6 a4 a3 k1 nk3:=⟨_,rfl⟩
   replace h:D4 F a5 a6 a4 a3 k1 k3 a7=some res:=by rw [hk3];exact h
   rw [D4] at h
   refine Am<|Am ?_
   obtain ⟨a9,aW,h⟩:=A0 h
   refine qD 12 [(23,.bool (bif (decide (a7<(ln a3))) then (((a9.Lo:Int)==a5)&&(((a9.Hi:Int)==a6)&&true)) else false))] hF (oX (.run [⟨16,true,(decide (a7<(ln a3)))⟩] (Instr.indexAt 44 (sv a2 a3 a0) (iv a7)) (.pointer (some (Bl a2 a7 2)))) (J0 (a8 _ (hS.frz (i:=2) rfl hlow)) kr (fun hk=>Bt aW hk))<|oX (.run [⟨16,true,(decide (a7<(ln a3)))⟩] (Instr.loadAt 146 (.pointer (some (Bl a2 a7 2)))) (.agg #[iv a9.Lo,iv a9.Hi])) (Tv (m:=2) (i:=a7) (us:=[iv a9.Lo,iv a9.Hi]) 0 api_Span.cells_len (fun _ hd=>(a8 _ ((hS.later hd).frz (i:=2) rfl hlow))) kr (fun hk=>Bt aW hk) ⟨rfl,rfl⟩)<|oGs [⟨16,true,(decide (a7<(ln a3)))⟩] (oN 146 1 0 2 hS.e rfl<|oX (.run [] (eqS .eql 146 #[iv a9.Lo,iv a9.Hi] #[iv a5,iv a6]) (.bool (((a9.Lo:Int)==a5)&&(((a9.Hi:Int)==a6)&&true)))) (La kr kr)<|A1)<|A1) fun a w hF hx=>?_
   replace hS:=hS.later hx
   refine wfn rfl ?_
   refine A8 hF h (fun hc h=>?_) fun hc h=>?_
   ·refine wK<|wpIn_block<|WI.region ?_
    obtain ⟨aX,b0,h⟩:=A0 h
    refine ro 3 3 [(0,pb cb0),(1,sv a2 a3 a0),(3,.func (.func 173) #[pb cb0] #[]),(6,pb b6),(8,iv aX)] hF (oA 3 b0<|A1) fun a hF=>WI.fin rfl (A9<|A3<|?_)
    rw [hk3] at h
    exact ⟨nk3,Nat.lt_succ_self _,aX,hF.sub kr,hS,h⟩
   ·refine wpIn_exit (A5<|A5<|Ar<|A3 ?_)
    exact ⟨a7,hF.sub kr,hS,h⟩
  rintro a w ⟨a1,hF,hS,h⟩
  rw [C3] at h
  refine esr<|qn 2 2 [(26,pb cb0),(27,iv a1)] hF fun a hF=>?_
  refine SK.wi (qL 3 69 1 [a1] (fun aQ=>[(28,sb aQ 1)]) H9 hF hS fun aQ w a hF hS=>?_)
  obtain ⟨ν131,aK,hlow,hS,b3⟩:=hS.freeze (i:=3) (j:=0) rfl rfl (by decide) hlow
  replace hA5:=hA5.mono aK.1
  replace a8:=a8.mono aK.1
  replace aA:=aA.t aK.1
  replace hext:=hext.t aK
  have aH:=ArrM.of_arr b3
  obtain ⟨aL,b1,h⟩:=A0 h
  replace hS:=hS.s3.s3
  refine SK.wi (qR (fun b4=>[]) hF (As F _ _ _ b1 ν131 w0 w _ hlow aH hS) ?_)
  rintro b4 w a ⟨ν136,aM,aN,aI,hlow,rfl,hS⟩ hF
  replace hext:=hext.t aI
  replace hA5:=hA5.mono aI.1
  replace a8:=a8.mono aI.1
  replace aH:=aH.mono aI.1
  replace aA:=aA.t aI.1
  refine wfn rfl ?_
  refine esr ?_
  obtain ⟨aG,aT,h⟩:=A0 h
  have aE:ArrM ν136 2 api_Span.cells (Al a2 a0 a1.toNat 2) (a0-a1.toNat) aG:=fun w_ hw_=>(a8 w_ hw_).cutD api_Span.cells_len aT
  refine ro 4 4 [(0,pb cb0),(1,.slice (Al a2 a0 a1.toNat 2) aG.length (a0-a1.toNat)),(3,.func (.func 173) #[pb cb0] #[]),(6,pb b6)] hF (oX (.run [] (Instr.sliceAt 44 (sv a2 a3 a0) (some (iv a1)) none none) (.slice (Al a2 a0 a1.toNat 2) aG.length (a0-a1.toNat))) (Lv kr (a8 _ (hS.frz (i:=0) rfl hlow)) (fun _=>aT))<|A1) fun a hF=>wfn rfl ?_
  refine qnB [(35,.bool (decide ((ln aG)>0)))] hF fun a hF=>?_
  refine A8 hF h (fun hc h=>?_) fun hc h=>?_
  ·refine Am ?_
   obtain ⟨aD,aV,h⟩:=A0 h
   obtain ⟨aJ,aU,h⟩:=A0 h
   refine Bq 7 [5] _ (D:=fun w=>St w0 [blk cb0 138 #[sv aM aL.b aN],arrT 5 1 (fK .u8) aM aL.b.length aN aL.b] w∧FrzAt ν136 w) kr kr hF.size (fun w hx=>?_) (fun _ _ h=>h)
   replace hS:=hS.later hx
   refine ⟨⟨St.pick [1,2] (by decide) hS,hS.frz (i:=0) rfl hlow⟩,?_⟩
   have b8:=Frz.le_refl ν136
   have aO:ArrM ν136 2 api_Span.cells (Al (Al a2 a0 a1.toNat 2) (a0-a1.toNat) (1:Int).toNat 2) ((a0-a1.toNat)-(1:Int).toNat) aJ:=fun w_ hw_=>(aE w_ hw_).cutD api_Span.cells_len aU
   refine WT.s [0,1,2,3,4] [5] kr kr ?_
   refine qC 5 [(38,.agg #[iv aD.Lo,iv aD.Hi]),(40,.slice (Al (Al a2 a0 a1.toNat 2) (a0-a1.toNat) (1:Int).toNat 2) aJ.length ((a0-a1.toNat)-(1:Int).toNat))] hF (oI 44 (aE _ (hS.frz (i:=0) rfl hlow)) aV<|oG 146 0 2 api_Span.cells_len (fun _ hd=>(aE _ hd.2)) aV<|oX (.run [] (Instr.sliceAt 44 (.slice (Al a2 a0 a1.toNat 2) aG.length (a0-a1.toNat)) (some (iv 1)) none none) (.slice (Al (Al a2 a0 a1.toNat 2) (a0-a1.toNat) (1:Int).toNat 2) aJ.length ((a0-a1.toNat)-(1:Int).toNat))) (Lv kr (aE _ (hS.frz (i:=0) rfl hlow)) (fun _=>aU))<|A1) fun a hF=>?_
   refine WRun.fin ?_
   refine all_cons ?_ (Aq)
   refine qw 146 3 #[iv aD.Lo,iv aD.Hi] hF hS rfl fun w a hF hS=>⟨⟨St.pick [1,2] (by decide) hS,(hS.frz (i:=0) rfl hlow)⟩,?_⟩
   refine WT.z [6] kr ?_
   refine rC 1 [(0,pb cb0),(1,.slice (Al (Al a2 a0 a1.toNat 2) (a0-a1.toNat) (1:Int).toNat 2) aJ.length ((a0-a1.toNat)-(1:Int).toNat)),(3,.func (.func 173) #[pb cb0] #[]),(6,pb b6)] hF A1 fun a hF=>?_
   refine WRun.fin ?_
   refine wfn rfl ?_
   refine WI.region<|qo 2 2 [(41,.func (.func 173) #[pb cb0] #[]),(42,.agg #[iv aD.Lo,iv aD.Hi])] hF (oN 146 3 0 2 hS.i rfl<|A1) fun a hF=>?_
   obtain ⟨b7,b2,h⟩:=A0 h
   refine SK.wi (qR (fun b5=>[]) hF (J3 F _ _ _ b2 ν136 w0 w _ hlow  hS) ?_)
   rintro b5 w a ⟨ν150,aY,aZ,aF,hlow,rfl,hS⟩ hF
   replace hext:=hext.t aF
   replace hA5:=hA5.mono aF.1
   replace a8:=a8.mono aF.1
   replace aH:=aH.mono aF.1
   replace aE:=aE.mono aF.1
   replace aO:=aO.mono aF.1
   replace aA:=aA.t aF.1
   refine WI.fin rfl (A9<|A3<|?_)
   rw [hk1] at h
   exact ⟨nk1,Nat.lt_succ_self _,aD.Lo,aD.Hi,b7.b,aJ,ν150,aY,aZ,(Al (Al a2 a0 a1.toNat 2) (a0-a1.toNat) (1:Int).toNat 2),((a0-a1.toNat)-(1:Int).toNat),hF.sub kr,hS.s3.s3,aO,aA,hext,hlow,h⟩
  ·refine wpIn_skip (A9<|A3<|?_)
   rw [hk1] at h
   exact ⟨nk1,Nat.lt_succ_self _,a5,a6,aL.b,aG,ν136,aM,aN,(Al a2 a0 a1.toNat 2),(a0-a1.toNat),hF.sub kr,hS.s3.s3,aE,aA,hext,hlow,h⟩
 ·refine wpIn_exit (A5<|A5<|Ar<|?_)
  refine Jr hF rfl ?_
  obtain rfl:=Ae h
  replace hS:=hS.d1.s2.s2
  exact ⟨_,rfl,ν108,aB,aC,hext,hlow,rfl,hS⟩
theorem Qv (F:Nat) (p0:volume_field) (p1:volume_writer) (res:volume_writer) (h:Gj F p0 p1=some res) (μ:Frz) (w0 w1:World) (T_:List Res) (hlow:Ax w0 μ) {ad1:Option Addr} {cap2:Nat} {cb1:Nat} {ad4:Option Addr} {cap5:Nat} (hA3:ArrM μ 2 api_Span.cells ad1 cap2 p0.Field.Vals) (hS:St w0 (fz w0 μ::blk cb1 138 #[sv ad4 p1.b cap5]::arrT 5 1 (fK .u8) ad4 p1.b.length cap5 p1.b::T_) w1):Ba Tryz.prog 180 #[.agg (p0.ax ad1 cap2),pb cb1] w1 (fun e w=>∃(ν_:Frz) (aD:Option Addr) (aH:Nat),μ.ext w0.heap.size ν_∧Ax w0 ν_∧e=(.tuple #[])∧St w0 (fz w0 ν_::blk cb1 138 #[sv aD res.b aH]::arrT 5 1 (fK .u8) aD res.b.length aH res.b::T_) w):=by
 rw [Gj] at h
 have hext:=Frz.ext_refl w0.heap.size μ
 refine feW Tryz.func180 50 [(0,.agg (p0.ax ad1 cap2)),(1,pb cb1)] hS fun a w hF hS=>?_
 refine esr<|SK.wi (qBa 158 (p0.ax ad1 cap2) (fun b6=>[(2,pb b6)]) hF hS fun b6 w a hF hS=>wfn rfl ?_)
 refine esr<|qn 1 1 [(4,pb cb1)] hF fun a hF=>?_
 refine SK.wi (qL 3 69 1 [2] (fun b7=>[(5,sb b7 1)]) H9 hF hS fun b7 w a hF hS=>?_)
 obtain ⟨ν8,hx9,hlow,hS,aQ⟩:=hS.freeze (i:=2) (j:=0) rfl rfl (by decide) hlow
 replace hA3:=hA3.mono hx9.1
 replace hext:=hext.t hx9
 have a0:=ArrM.of_arr aQ
 obtain ⟨bC,aK,h⟩:=A0 h
 replace hS:=hS.s3.s3.s3
 refine SK.wi (qR (fun aU=>[]) hF (As F _ _ _ aK ν8 w0 w _ hlow a0 hS) ?_)
 rintro aU w a ⟨ν13,b0,b5,aA,hlow,rfl,hS⟩ hF
 replace hext:=hext.t aA
 replace hA3:=hA3.mono aA.1
 replace a0:=a0.mono aA.1
 refine wfn rfl ?_
 refine esr<|qo 3 3 [(7,pb cb1),(9,.string p0.key)] hF (oL 9 3 0 hS.i rfl rfl<|A1) fun a hF=>?_
 obtain ⟨bD,aL,h⟩:=A0 h
 refine SK.wi (qR (fun aV=>[]) hF (J4 F _ _ _ aL ν13 w0 w _ hlow  hS) ?_)
 rintro aV w a ⟨ν19,b1,b8,aB,hlow,rfl,hS⟩ hF
 replace hext:=hext.t aB
 replace hA3:=hA3.mono aB.1
 replace a0:=a0.mono aB.1
 refine wfn rfl ?_
 refine esr<|qo 3 3 [(11,pb cb1),(13,iv p0.time)] hF (oL 3 3 1 hS.i rfl rfl<|A1) fun a hF=>?_
 refine SK.wi (qL 3 69 1 [p0.time] (fun aE=>[(14,sb aE 1)]) H9 hF hS fun aE w a hF hS=>?_)
 obtain ⟨ν25,aC,hlow,hS,aR⟩:=hS.freeze (i:=1) (j:=0) rfl rfl (by decide) hlow
 replace hA3:=hA3.mono aC.1
 replace a0:=a0.mono aC.1
 replace hext:=hext.t aC
 have a1:=ArrM.of_arr aR
 obtain ⟨bE,aM,h⟩:=A0 h
 refine SK.wi (qR (fun aW=>[]) hF (As F _ _ _ aM ν25 w0 w _ hlow a1 hS) ?_)
 rintro aW w a ⟨ν30,b2,b9,a8,hlow,rfl,hS⟩ hF
 replace hext:=hext.t a8
 replace hA3:=hA3.mono a8.1
 replace a0:=a0.mono a8.1
 replace a1:=a1.mono a8.1
 refine wfn rfl ?_
 refine esr<|qo 9 9 [(16,pb cb1),(20,iv p0.Field.Grid.X),(24,iv p0.Field.Grid.Y)] hF (oL 3 3 2 hS.i rfl rfl<|oL 3 3 3 hS.i rfl rfl<|A1) fun a hF=>?_
 refine SK.wi (qL 3 69 2 [p0.Field.Grid.X,p0.Field.Grid.Y] (fun aF=>[(25,sb aF 2)]) H9 hF hS fun aF w a hF hS=>?_)
 obtain ⟨ν36,a9,hlow,hS,aS⟩:=hS.freeze (i:=1) (j:=0) rfl rfl (by decide) hlow
 replace hA3:=hA3.mono a9.1
 replace a0:=a0.mono a9.1
 replace a1:=a1.mono a9.1
 replace hext:=hext.t a9
 have a2:=ArrM.of_arr aS
 obtain ⟨bF,aN,h⟩:=A0 h
 refine SK.wi (qR (fun aX=>[]) hF (Gr F _ _ _ aN ν36 w0 w _ hlow a2 hS) ?_)
 rintro aX w a ⟨ν41,b3,bA,a6,hlow,rfl,hS⟩ hF
 replace hext:=hext.t a6
 replace hA3:=hA3.mono a6.1
 replace a0:=a0.mono a6.1
 replace a1:=a1.mono a6.1
 replace a2:=a2.mono a6.1
 refine wfn rfl ?_
 refine esr<|qo 13 13 [(27,pb cb1),(31,iv p0.Field.Grid.Size),(35,iv p0.Field.Grid.Wide),(39,iv p0.Field.Grid.High)] hF (oL 3 3 4 hS.i rfl rfl<|oL 3 3 5 hS.i rfl rfl<|oL 3 3 6 hS.i rfl rfl<|A1) fun a hF=>?_
 refine SK.wi (qL 3 69 3 [p0.Field.Grid.Size,p0.Field.Grid.Wide,p0.Field.Grid.High] (fun aG=>[(40,sb aG 3)]) H9 hF hS fun aG w a hF hS=>?_)
 obtain ⟨ν47,a7,hlow,hS,aT⟩:=hS.freeze (i:=1) (j:=0) rfl rfl (by decide) hlow
 replace hA3:=hA3.mono a7.1
 replace a0:=a0.mono a7.1
 replace a1:=a1.mono a7.1
 replace a2:=a2.mono a7.1
 replace hext:=hext.t a7
 have a5:=ArrM.of_arr aT
 obtain ⟨bG,aO,h⟩:=A0 h
 refine SK.wi (qR (fun aY=>[]) hF (As F _ _ _ aO ν47 w0 w _ hlow a5 hS) ?_)
 rintro aY w a ⟨ν52,b4,bB,a3,hlow,rfl,hS⟩ hF
 replace hext:=hext.t a3
 replace hA3:=hA3.mono a3.1
 replace a0:=a0.mono a3.1
 replace a1:=a1.mono a3.1
 replace a2:=a2.mono a3.1
 replace a5:=a5.mono a3.1
 refine wfn rfl ?_
 refine WI.region<|ro 7 7 [(42,pb cb1),(45,sv ad1 p0.Field.Vals cap2),(46,.agg #[iv 0,iv 0]),(48,.func (.func 173) #[pb cb1] #[])] hF (oL 44 3 7 hS.i rfl rfl<|A1) fun a hF=>?_
 obtain ⟨bH,aP,h⟩:=A0 h
 refine SK.wi (rR (fun aZ=>[]) hF (Kz F _ _ _ _ aP ν52 w0 w _ hlow hA3 hS) ?_)
 rintro aZ w a ⟨ν58,aI,aJ,a4,hlow,rfl,hS⟩ hF
 replace hext:=hext.t a4
 replace hA3:=hA3.mono a4.1
 replace a0:=a0.mono a4.1
 replace a1:=a1.mono a4.1
 replace a2:=a2.mono a4.1
 replace a5:=a5.mono a4.1
 refine WI.fin rfl ?_
 refine Jr hF rfl ?_
 obtain rfl:=Ae h
 replace hS:=hS.d3
 exact ⟨_,rfl,ν58,aI,aJ,hext,hlow,rfl,hS⟩
theorem Ns (F:Nat) (p0:ref12_Item) (res:Int) (h:Df F p0=some res) (μ:Frz) (w0:World) (hm:FrzAt μ w0) {ad1:Option Addr} {cap2:Nat} {css3:List (List Value)} {ad4:Option Addr} {cap5:Nat} (hA6:ArrQ μ 1 Rp87 ad1 cap2 css3 p0.Sweep.Rays) (hA7:ArrM μ 2 api_Span.cells ad4 cap5 p0.Field.Vals):Calls Tryz.prog 20 #[.agg (p0.ax ad1 cap2 ad4 cap5)] w0 (fun e w=>e=.returned (iv res)∧Ext w0 w):=by
 obtain ⟨hlow,hS⟩:=hm.init
 have hext:=Frz.ext_refl w0.heap.size μ
 rw [Df] at h
 refine feW Tryz.func20 117 [(0,.agg (p0.ax ad1 cap2 ad4 cap5))] hS fun a w hF hS=>?_
 refine esr<|SK.wi (qBa 49 (p0.ax ad1 cap2 ad4 cap5) (fun b8=>[(1,pb b8)]) hF hS fun b8 w a hF hS=>?_)
 refine qn 1 2 [] hF fun a hF=>wfn rfl ?_
 refine Am<|qoB [(17,.bool (bif (bif (p0.Kind != 1) then (p0.Kind != 2) else false) then (p0.Kind != 3) else false))] hF (oL 3 0 0 hS.i rfl rfl<|oGs [⟨8,true,(p0.Kind != 1)⟩] (oL 3 0 0 hS.i rfl rfl<|A1)<|oGs [⟨13,true,(bif (p0.Kind != 1) then (p0.Kind != 2) else false)⟩] (oL 3 0 0 hS.i rfl rfl<|A1)<|A1) fun a hF=>?_
 refine A8 hF h (fun hc h=>?_) fun hc h=>?_
 ·refine rnB [(2,iv 2)] hF fun a hF=>?_
  refine wpIn_ret (A2<|A7 [.tmp 2] [_] hF rfl ⟨rfl,trivial⟩ ?_)
  obtain rfl:=Ae h
  exact ⟨rfl,hS.ext⟩
 ·refine wK<|Am<|esr<|qx 45 45 [(62,.bool (bif (bif (bif (bif (p0.Kind != 1) then (!(Cj p0.Sweep)) else false) then true else (bif (p0.Kind != 2) then (bif (!(Dc p0.Field)) then true else (!(sEq p0.Name (⟨#[]⟩:ByteArray)))) else false)) then true else (bif (p0.Kind != 3) then (!(sEq p0.Text (⟨#[]⟩:ByteArray))) else false)) then true else (bif (p0.Kind==1) then (p0.Time != 0) else false)))] hF (oL 3 0 0 hS.e rfl rfl<|oGs [⟨21,true,(p0.Kind != 1)⟩] (oN 41 0 3 11 hS.e rfl<|oC (fun w2 hd=>Ty p0.Sweep _ rfl _ w2 (A4 w2) (hA6.mono Rp87.mono (FrzAt.le_mem ((hS.later hd).frz (i:=1) rfl hlow))))<|A1)<|oGs [⟨27,false,(bif (p0.Kind != 1) then (!(Cj p0.Sweep)) else false)⟩] (oL 3 0 0 hS.e rfl rfl<|A1)<|oGs [⟨31,true,(p0.Kind != 2)⟩,⟨27,false,(bif (p0.Kind != 1) then (!(Cj p0.Sweep)) else false)⟩] (oN 46 0 14 6 hS.e rfl<|oC (fun w2 hd=>Tx p0.Field _ rfl _ w2 (A4 w2) (hA7.mono (FrzAt.le_mem ((hS.later hd).frz (i:=1) rfl hlow))))<|A1)<|oGs [⟨36,false,(!(Dc p0.Field))⟩,⟨31,true,(p0.Kind != 2)⟩,⟨27,false,(bif (p0.Kind != 1) then (!(Cj p0.Sweep)) else false)⟩] (oL 9 0 1 hS.e rfl rfl<|oX (.run [] (Qs .neq 9 p0.Name (⟨#[]⟩:ByteArray)) (.bool (!(sEq p0.Name (⟨#[]⟩:ByteArray))))) S2<|A1)<|oGs [⟨43,false,(bif (bif (p0.Kind != 1) then (!(Cj p0.Sweep)) else false) then true else (bif (p0.Kind != 2) then (bif (!(Dc p0.Field)) then true else (!(sEq p0.Name (⟨#[]⟩:ByteArray)))) else false))⟩] (oL 3 0 0 hS.e rfl rfl<|A1)<|oGs [⟨47,true,(p0.Kind != 3)⟩,⟨43,false,(bif (bif (p0.Kind != 1) then (!(Cj p0.Sweep)) else false) then true else (bif (p0.Kind != 2) then (bif (!(Dc p0.Field)) then true else (!(sEq p0.Name (⟨#[]⟩:ByteArray)))) else false))⟩] (oL 9 0 20 hS.e rfl rfl<|oX (.run [] (Qs .neq 9 p0.Text (⟨#[]⟩:ByteArray)) (.bool (!(sEq p0.Text (⟨#[]⟩:ByteArray))))) S2<|A1)<|oGs [⟨53,false,(bif (bif (bif (p0.Kind != 1) then (!(Cj p0.Sweep)) else false) then true else (bif (p0.Kind != 2) then (bif (!(Dc p0.Field)) then true else (!(sEq p0.Name (⟨#[]⟩:ByteArray)))) else false)) then true else (bif (p0.Kind != 3) then (!(sEq p0.Text (⟨#[]⟩:ByteArray))) else false))⟩] (oL 3 0 0 hS.e rfl rfl<|A1)<|oGs [⟨57,true,(p0.Kind==1)⟩,⟨53,false,(bif (bif (bif (p0.Kind != 1) then (!(Cj p0.Sweep)) else false) then true else (bif (p0.Kind != 2) then (bif (!(Dc p0.Field)) then true else (!(sEq p0.Name (⟨#[]⟩:ByteArray)))) else false)) then true else (bif (p0.Kind != 3) then (!(sEq p0.Text (⟨#[]⟩:ByteArray))) else false))⟩] (oL 3 0 2 hS.e rfl rfl<|A1)<|A1) fun a w hF hx=>?_
  replace hS:=hS.later hx
  refine wfn rfl ?_
  refine A8 hF h (fun hc h=>?_) fun hc h=>?_
  ·refine rnB [(2,iv 2)] hF fun a hF=>?_
   refine wpIn_ret (A2<|A7 [.tmp 2] [_] hF rfl ⟨rfl,trivial⟩ ?_)
   obtain rfl:=Ae h
   exact ⟨rfl,hS.ext⟩
  ·refine wK<|esr<|qx 4 4 [(3,.bool (Ag p0.Time 0 4294967296))] hF (oL 3 0 2 hS.e rfl rfl<|oC (fun w2 hd=>Cn p0.Time 0 4294967296 _ rfl _ w2 (A4 w2))<|A1) fun a w hF hx=>?_
   replace hS:=hS.later hx
   refine wfn rfl ?_
   refine Am<|wpIn_block<|qoB [(66,.bool (p0.Kind==1))] hF (oL 3 0 0 hS.i rfl rfl<|A1) fun a hF=>?_
   refine A8 hF h (fun hc h=>?_) fun hc h=>?_
   ·refine esr ?_
    obtain ⟨y9,hy9,h⟩:=A0 h
    refine rX 4 4 [(2,iv y9)] hF (oN 41 0 3 11 hS.e rfl<|oC (fun w2 hd=>Rz F p0.Sweep _ hy9 _ w2 (A4 w2) (hA6.mono Rp87.mono (FrzAt.le_mem ((hS.later hd).frz (i:=1) rfl hlow))))<|A1) fun a w hF hx=>?_
    replace hS:=hS.later hx
    refine wfn rfl ?_
    refine wpIn_ret (Ab<|A2<|A7 [.tmp 2] [_] hF rfl ⟨rfl,trivial⟩ ?_)
    obtain rfl:=Ae h
    exact ⟨rfl,hS.ext⟩
   ·refine esr ?_
    obtain ⟨a4,a8,h⟩:=A0 h
    refine qx 10 10 [(73,.bool (bif (p0.Kind==2) then (!a4) else false))] hF (oL 3 0 0 hS.e rfl rfl<|oGs [⟨77,true,(p0.Kind==2)⟩] (oL 9 0 1 hS.e rfl rfl<|A1)<|oX (.call [⟨77,true,(p0.Kind==2)⟩] 48 #[.string p0.Name] (.bool a4)) (show Ob.ok _ Ext _ _ from fun hk w2 hd=>S3 F p0.Name _ ((fun hk=>Bt a8 hk) hk) _ w2 (A4 w2))<|A1) fun a w hF hx=>?_
    replace hS:=hS.later hx
    refine wfn rfl ?_
    refine A8 hF h (fun hc h=>?_) fun hc h=>?_
    ·refine rnB [(2,iv 10)] hF fun a hF=>?_
     refine wpIn_ret (Ab<|A2<|A7 [.tmp 2] [_] hF rfl ⟨rfl,trivial⟩ ?_)
     obtain rfl:=Ae h
     exact ⟨rfl,hS.ext⟩
    ·refine qnB [(83,.bool (!(Ag p0.Time 0 4294967296)))] hF fun a hF=>?_
     refine A8 hF h (fun hc h=>?_) fun hc h=>?_
     ·refine rnB [(2,iv 3)] hF fun a hF=>?_
      refine wpIn_ret (Ab<|A2<|A7 [.tmp 2] [_] hF rfl ⟨rfl,trivial⟩ ?_)
      obtain rfl:=Ae h
      exact ⟨rfl,hS.ext⟩
     ·refine qoB [(86,.bool (p0.Kind==2))] hF (oL 3 0 0 hS.i rfl rfl<|A1) fun a hF=>?_
      refine A8 hF h (fun hc h=>?_) fun hc h=>?_
      ·refine esr ?_
       obtain ⟨aA,a9,h⟩:=A0 h
       refine rX 4 4 [(2,iv aA)] hF (oN 46 0 14 6 hS.e rfl<|oC (fun w2 hd=>Ry F p0.Field _ a9 _ w2 (A4 w2) (hA7.mono (FrzAt.le_mem ((hS.later hd).frz (i:=1) rfl hlow))))<|A1) fun a w hF hx=>?_
       replace hS:=hS.later hx
       refine wfn rfl ?_
       refine wpIn_ret (Ab<|A2<|A7 [.tmp 2] [_] hF rfl ⟨rfl,trivial⟩ ?_)
       obtain rfl:=Ae h
       exact ⟨rfl,hS.ext⟩
      ·refine qoB [(93,.bool (decide (((p0.Text.size:Nat):Int)>200)))] hF (oL 9 0 20 hS.i rfl rfl<|A1) fun a hF=>?_
       refine A8 hF h (fun hc h=>?_) fun hc h=>?_
       ·refine rnB [(2,iv 8)] hF fun a hF=>?_
        refine wpIn_ret (Ab<|A2<|A7 [.tmp 2] [_] hF rfl ⟨rfl,trivial⟩ ?_)
        obtain rfl:=Ae h
        exact ⟨rfl,hS.ext⟩
       ·refine wpIn_skip (A9<|A3<|?_)
        refine Dx (fun a w=>Fr 117 [] [] a∧St w0 [blk b8 49 (p0.ax ad1 cap2 ad4 cap5),fz w0 μ] w∧Nr=some res) ?_ ?_
        ·skip
         refine qnB [(4,iv 0)] hF fun a hF=>?_
         refine wpIn_block<|Ck (fun n_ a w=>∃(a0:Int),Fr 117 [] [(1,pb b8),(4,iv a0)] a∧St w0 [blk b8 49 (p0.ax ad1 cap2 ad4 cap5),fz w0 μ] w∧Fm p0 n_ a0=some res) F ⟨0,hF.sub kr,St.pick [0,1] (by decide) hS,h⟩ ?_
         rintro nk2 a w ⟨a0,hF,hS,h⟩
         rcases nk2 with _|nk2
         ·cases (show (none:Option Int)=some res from h)
         obtain ⟨k2,hk2⟩:∃k,k=Fm p0 nk2:=⟨_,rfl⟩
         replace h:Lc p0 k2 a0=some res:=by rw [hk2];exact h
         rw [Lc] at h
         refine Am<|qoB [(102,.bool (decide (a0<((p0.Text.size:Nat):Int))))] hF (oL 9 0 20 hS.i rfl rfl<|A1) fun a hF=>?_
         refine A8 hF h (fun hc h=>?_) fun hc h=>?_
         ·refine wK<|Am<|wpIn_block<|esr ?_
          obtain ⟨a1,a5,h⟩:=A0 h
          obtain ⟨a2,a6,h⟩:=A0 h
          refine qo 12 12 [(116,.bool (bif (decide (a1<32)) then true else (decide (a2>126))))] hF (oL 9 0 20 hS.i rfl rfl<|oX (.run [] (Instr.index 9 (.string p0.Text) (iv a0)) (.int .u8 a1)) (Sg kr (fun _=>a5))<|oGs [⟨110,false,(decide (a1<32))⟩] (oL 9 0 20 hS.i rfl rfl<|A1)<|oX (.run [⟨110,false,(decide (a1<32))⟩] (Instr.index 9 (.string p0.Text) (iv a0)) (.int .u8 a2)) (Sg kr (fun hk=>Bt a6 hk))<|A1) fun a hF=>wfn rfl ?_
          refine A8 hF h (fun hc h=>?_) fun hc h=>?_
          ·refine rnB [(2,iv 7)] hF fun a hF=>?_
           refine wpIn_ret (Ab<|A2<|A2<|Ab<|A2<|A7 [.tmp 2] [_] hF rfl ⟨rfl,trivial⟩ ?_)
           obtain rfl:=Ae h
           exact ⟨rfl,hS.ext⟩
          ·refine wpIn_skip (A9<|A3<|?_)
           refine WI.region ?_
           obtain ⟨a3,a7,h⟩:=A0 h
           refine ro 3 3 [(1,pb b8),(4,iv a3)] hF (oA 3 a7<|A1) fun a hF=>wfn rfl ?_
           rw [hk2] at h
           exact ⟨nk2,Nat.lt_succ_self _,a3,hF.sub kr,St.pick [0,1] (by decide) hS,h⟩
         ·refine wpIn_exit (A5<|A5<|Ar<|A3 ?_)
          exact ⟨hF.sub kr,St.pick [0,1] (by decide) hS,h⟩
        rintro a w ⟨hF,hS,h⟩
        rw [Nr] at h
        refine rnB [(2,iv 0)] hF fun a hF=>?_
        refine wpIn_ret (A7 [.tmp 2] [_] hF rfl ⟨rfl,trivial⟩ ?_)
        obtain rfl:=Ae h
        exact ⟨rfl,hS.ext⟩
end Go.Proofs.YtifbomimeodibaaGreat
