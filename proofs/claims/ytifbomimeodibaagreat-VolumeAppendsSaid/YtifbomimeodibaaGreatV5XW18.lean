import Derived.Test.YtifbomimeodibaaGreatV5XD
import Derived.Test.YtifbomimeodibaaGreatProg
import Derived.Test.YtifbomimeodibaaGreatV5XW1
import Derived.Test.YtifbomimeodibaaGreatV5XW2
import Derived.Test.YtifbomimeodibaaGreatV5XW15
import Derived.Test.YtifbomimeodibaaGreatV5XW16
namespace Go.Proofs.YtifbomimeodibaaGreat
open Go Go.RowKit Go.Eng
set_option maxRecDepth 10000
set_option maxHeartbeats 4000000
set_option linter.unusedVariables false
set_option linter.unusedSimpArgs false
theorem Vn (F:Nat) (p0:(List Int)) (res:(ref12_Item×Int)) (h:Mk F p0=some res) (μ:Frz) (w0:World) (hm:FrzAt μ w0) {ad1:Option Addr} {cap2:Nat} (hA3:ArrM μ 1 (fK .u8) ad1 cap2 p0):Ba Tryz.prog 39 #[sv ad1 p0 cap2] w0 (fun e w=>∃(ν_:Frz) (aI:Option Addr) (aL:Nat) (aX:List (List Value)) (aJ:Option Addr) (aM:Nat),μ.ext w0.heap.size ν_∧e=(.tuple #[.agg (res.1.ax aI aL aJ aM),iv res.2])∧ArrQ ν_ 1 Rp87 aI aL aX res.1.Sweep.Rays∧ArrM ν_ 2 api_Span.cells aJ aM res.1.Field.Vals∧St w0 [fz w0 ν_] w):=by
 obtain ⟨hlow,hS⟩:=hm.init
 have hext:=Frz.ext_refl w0.heap.size μ
 rw [Mk] at h
 refine feW Tryz.func39 57 [(0,sv ad1 p0 cap2)] hS fun a w hF hS=>?_
 refine esr<|SK.wi (qA 49 z48 (fun b4=>[(2,pb b4)]) hF hS fun b4 w a hF hS=>?_)
 refine qn 1 2 [] hF fun a hF=>wfn rfl ?_
 refine esr<|qn 2 2 [(9,.agg #[sv ad1 p0 cap2,.bool false])] hF fun a hF=>?_
 refine SK.wi (qBa 135 #[sv ad1 p0 cap2,.bool false] (fun b5=>[(10,pb b5)]) hF hS fun b5 w a hF hS=>?_)
 refine qn 1 4 [(4,pb b5)] hF fun a hF=>wfn rfl ?_
 refine esr<|qn 1 1 [(11,pb b5)] hF fun a hF=>?_
 obtain ⟨y6,hy6,h⟩:=A0 h
 replace hS:=hS.s2
 refine SK.wi (qR (fun v9=>[(12,v9)]) hF (Aj F _ _ hy6 μ w0 w _ hlow hA3 hS) ?_)
 rintro v9 w a ⟨ν7,a8,a2,hx8,hlow,rfl,aB,hS⟩ hF
 replace hext:=hext.t hx8
 replace hA3:=hA3.mono hx8.1
 refine qn 1 3 [(5,iv y6.1)] hF fun a hF=>wfn rfl ?_
 refine Am<|Am<|Bq 29 [25,26] _ (D:=fun w=>St w0 [blk b5 135 #[sv a8 y6.2.b a2,.bool y6.2.bad],blk b4 49 z48] w∧FrzAt ν7 w) kr kr hF.size (fun w hx=>?_) (fun _ _ h=>h)
 replace hS:=hS.later hx
 refine ⟨⟨St.pick [1,2] (by decide) hS,hS.frz (i:=0) rfl hlow⟩,?_⟩
 have aN:=Frz.le_refl ν7
 refine WT.s [0,1,2,3,4,5,6,7,8,9,10,11,12,13,14,15,16,17,18,19,20,21,22,23,24] [25] kr kr ?_
 refine qC 5 [(17,.bool y6.2.bad)] hF (oL 4 0 1 (fun _ hd=>hd.1) rfl rfl<|A1) fun a hF=>?_
 rcases Bool.eq_false_or_eq_true (y6.2.bad) with a9|a9
 ·replace h:=Gx h a9
  rw [a9] at hF
  refine qkW [(17,.bool true),(18,undef)] hF fun a hF=>?_
  refine qkW [(19,undef)] hF fun a hF=>?_
  refine qkW [(20,undef)] hF fun a hF=>?_
  refine qkW [(21,undef)] hF fun a hF=>?_
  refine qkW [(22,undef)] hF fun a hF=>?_
  refine qkW [(23,undef)] hF fun a hF=>?_
  refine qkW [(24,undef)] hF fun a hF=>?_
  refine qkW [(25,undef)] hF fun a hF=>?_
  refine qC 2 [(27,.bool true)] hF A1 fun a hF=>?_
  refine qkW [(28,undef)] hF fun a hF=>?_
  refine qkW [(29,undef)] hF fun a hF=>?_
  refine qkW [(30,undef)] hF fun a hF=>?_
  refine qkW [(31,undef)] hF fun a hF=>?_
  refine qkW [(32,undef)] hF fun a hF=>?_
  refine qkW [(33,undef)] hF fun a hF=>?_
  refine qkW [(34,undef)] hF fun a hF=>?_
  refine qkW [(35,undef)] hF fun a hF=>?_
  refine qkW [(36,undef)] hF fun a hF=>?_
  refine qkW [(37,undef)] hF fun a hF=>?_
  refine WRun.fin ?_
  refine all_cons ?_ Aq
  refine qkS [(38,undef)] hF fun a hF=>?_
  refine ⟨⟨St.pick [1,2] (by decide) hS,(hS.frz (i:=0) rfl hlow)⟩,?_⟩
  refine WT.s [] [26] kr kr ?_
  refine WRun.fin ?_
  refine all_cons ?_ Aq
  refine qkS [(39,undef)] hF fun a hF=>?_
  refine ⟨⟨St.pick [1,2] (by decide) hS,(hS.frz (i:=0) rfl hlow)⟩,?_⟩
  refine WT.z [27,28] kr ?_
  refine qkW [(40,undef)] hF fun a hF=>?_
  refine qC 1 [(41,.bool true)] hF A1 fun a hF=>?_
  refine WRun.fin ?_
  refine wfn rfl ?_
  refine wpIn_cond_true (hF.get rfl) ?_
  refine esr<|qn 1 1 [(42,.agg z48)] hF fun a hF=>?_
  refine SK.wi (qw 49 2 z48 hF hS rfl fun w a hF hS=>?_)
  refine qn 1 3 [(3,iv 15)] hF fun a hF=>wfn rfl ?_
  refine wpIn_ret (A2<|A7 [.cell 2 49,.tmp 3] [_,_] hF rfl ⟨⟨_,rfl,Ea (cs:=[iv 0,.string ByteArray.empty,iv 0,.string ByteArray.empty,iv 0,iv 0,iv 0,iv 0,iv 0,iv 0,iv 0,iv 0,iv 0,.slice none 0 0,iv 0,iv 0,iv 0,iv 0,iv 0,.slice none 0 0,.string ByteArray.empty]) kr ((hS.blk (i:=2) rfl).cells rfl)⟩,rfl,trivial⟩ ?_)
  obtain rfl:=Ae h
  exact ⟨_,rfl,ν7,none,0,[],none,0,hext,rfl,ArrQ.nil,ArrM.nil,St.pick [0] (by decide) hS⟩
 ·replace h:=Gw h a9
  rw [a9] at hF
  obtain ⟨aT,b0,h⟩:=A0 h
  refine qC 10 [(27,.bool ((ln y6.2.b) != aT))] hF (oGs [⟨17,false,false⟩] (oL 22 0 0 (fun _ hd=>hd.1) rfl rfl<|oA 3 b0<|A1)<|A1) fun a hF=>?_
  rcases Bool.eq_false_or_eq_true (((ln y6.2.b) != aT)) with aA|aA
  ·replace h:=Gx h aA
   rw [aA] at hF
   refine qkW [(27,.bool true),(28,undef)] hF fun a hF=>?_
   refine qkW [(29,undef)] hF fun a hF=>?_
   refine qkW [(30,undef)] hF fun a hF=>?_
   refine qkW [(31,undef)] hF fun a hF=>?_
   refine qkW [(32,undef)] hF fun a hF=>?_
   refine qkW [(33,undef)] hF fun a hF=>?_
   refine qkW [(34,undef)] hF fun a hF=>?_
   refine qkW [(35,undef)] hF fun a hF=>?_
   refine qkW [(36,undef)] hF fun a hF=>?_
   refine qkW [(37,undef)] hF fun a hF=>?_
   refine WRun.fin ?_
   refine all_cons ?_ Aq
   refine qkS [(38,undef)] hF fun a hF=>?_
   refine ⟨⟨St.pick [1,2] (by decide) hS,(hS.frz (i:=0) rfl hlow)⟩,?_⟩
   refine WT.s [] [26] kr kr ?_
   refine WRun.fin ?_
   refine all_cons ?_ Aq
   refine qkS [(39,undef)] hF fun a hF=>?_
   refine ⟨⟨St.pick [1,2] (by decide) hS,(hS.frz (i:=0) rfl hlow)⟩,?_⟩
   refine WT.z [27,28] kr ?_
   refine qkW [(40,undef)] hF fun a hF=>?_
   refine qC 1 [(41,.bool true)] hF A1 fun a hF=>?_
   refine WRun.fin ?_
   refine wfn rfl ?_
   refine wpIn_cond_true (hF.get rfl) ?_
   refine esr<|qn 1 1 [(42,.agg z48)] hF fun a hF=>?_
   refine SK.wi (qw 49 2 z48 hF hS rfl fun w a hF hS=>?_)
   refine qn 1 3 [(3,iv 15)] hF fun a hF=>wfn rfl ?_
   refine wpIn_ret (A2<|A7 [.cell 2 49,.tmp 3] [_,_] hF rfl ⟨⟨_,rfl,Ea (cs:=[iv 0,.string ByteArray.empty,iv 0,.string ByteArray.empty,iv 0,iv 0,iv 0,iv 0,iv 0,iv 0,iv 0,iv 0,iv 0,.slice none 0 0,iv 0,iv 0,iv 0,iv 0,iv 0,.slice none 0 0,.string ByteArray.empty]) kr ((hS.blk (i:=2) rfl).cells rfl)⟩,rfl,trivial⟩ ?_)
   obtain rfl:=Ae h
   exact ⟨_,rfl,ν7,none,0,[],none,0,hext,rfl,ArrQ.nil,ArrM.nil,St.pick [0] (by decide) hS⟩
  ·replace h:=Gw h aA
   rw [aA] at hF
   obtain ⟨a1,b1,h⟩:=A0 h
   obtain ⟨aC,aO,h⟩:=A0 h
   have aE:ArrM ν7 1 (fK .u8) (Al ad1 cap2 a1.toNat 1) (cap2-a1.toNat) aC:=fun w_ hw_=>(hA3 w_ hw_).cutD (B8 .u8) aO
   obtain ⟨aU,b2,h⟩:=A0 h
   obtain ⟨aD,aP,h⟩:=A0 h
   have aF:ArrM ν7 1 (fK .u8) (Al ad1 cap2 (0:Int).toNat 1) (cap2-(0:Int).toNat) aD:=fun w_ hw_=>(hA3 w_ hw_).cutD (B8 .u8) aP
   refine Y0 (rest:=[]) (obs:=[.run [⟨27,false,false⟩] (binOp .sub 3 (iv (ln p0)) (iv 5)) (iv a1),.run [⟨27,false,false⟩] (Instr.sliceAt 22 (sv ad1 p0 cap2) (some (iv a1)) none none) (.slice (Al ad1 cap2 a1.toNat 1) aC.length (cap2-a1.toNat)),.run [⟨27,false,false⟩] (binOp .sub 3 (iv (ln p0)) (iv 5)) (iv aU),.run [⟨27,false,false⟩] (Instr.sliceAt 22 (sv ad1 p0 cap2) none (some (iv aU)) none) (.slice (Al ad1 cap2 (0:Int).toNat 1) aD.length (cap2-(0:Int).toNat))]) [15,16,17,18,19,20,21,22,23,24] [(2,⟨[],pb b4⟩),(4,⟨[],pb b5⟩),(5,⟨[],iv y6.1⟩),(27,⟨[],.bool false⟩),(32,⟨[⟨27,false,false⟩],.slice (Al ad1 cap2 a1.toNat 1) aC.length (cap2-a1.toNat)⟩),(37,⟨[⟨27,false,false⟩],.slice (Al ad1 cap2 (0:Int).toNat 1) aD.length (cap2-(0:Int).toNat)⟩)] hF kr kr (Gq (Sh (fun _=>b1)) (Gq (Lv kr (hA3 _ (hS.frz (i:=0) rfl hlow)) (fun _=>aO)) (Gq (Sh (fun _=>b2)) (Gq (Nl kr (hA3 _ (hS.frz (i:=0) rfl hlow)) (fun _=>aP)) A1)))) ⟨kr⟩ kr fun a hF=>?_
   replace hF:Fr 57 [] [(2,pb b4),(4,pb b5),(5,iv y6.1),(27,.bool false),(32,.slice (Al ad1 cap2 a1.toNat 1) aC.length (cap2-a1.toNat)),(37,.slice (Al ad1 cap2 (0:Int).toNat 1) aD.length (cap2-(0:Int).toNat))] a:=hF
   refine WRun.fin ?_
   refine all_cons ?_ Aq
   obtain ⟨bA,b3,h⟩:=A0 h
   refine qR (fun aR=>[(38,aR)]) hF (Td F _ _ b3 (B0 w) w (A4 w) (aF.mono (FrzAt.le_mem (hS.frz (i:=0) rfl hlow)))) ?_
   rintro aR w a ⟨b8,b9,rfl,hQ⟩ hF
   replace hS:=hS.madeL hQ
   refine ⟨⟨St.pick [2,3] (by decide) hS,(hS.frz (i:=1) rfl hlow)⟩,?_⟩
   refine WT.s [] [26] kr kr ?_
   refine WRun.fin ?_
   refine all_cons ?_ Aq
   obtain ⟨aV,b6,h⟩:=A0 h
   refine Xf [(2,pb b4),(4,pb b5),(5,iv y6.1),(27,.bool false),(39,.bool aV)] hF kr ⟨kr⟩ (W2 F _ _ _ b6 (B0 w) w (A4 w) (aE.mono (FrzAt.le_mem (hS.frz (i:=1) rfl hlow))) (Arr.toM (hS.arr (i:=0) rfl))) ⟨kr⟩ ?_
   intro w a hx hF
   replace hS:=hS.later hx
   refine ⟨⟨St.pick [2,3] (by decide) hS,(hS.frz (i:=1) rfl hlow)⟩,?_⟩
   refine WT.z [27,28] kr ?_
   refine rC 2 [(2,pb b4),(4,pb b5),(5,iv y6.1),(41,.bool (!aV))] hF A1 fun a hF=>?_
   refine WRun.fin ?_
   refine wfn rfl ?_
   refine A8 hF h (fun hc h=>?_) fun hc h=>?_
   ·refine esr<|qn 1 1 [(42,.agg z48)] hF fun a hF=>?_
    refine SK.wi (qw 49 3 z48 hF hS rfl fun w a hF hS=>?_)
    refine qn 1 3 [(3,iv 15)] hF fun a hF=>wfn rfl ?_
    refine wpIn_ret (A2<|A7 [.cell 2 49,.tmp 3] [_,_] hF rfl ⟨⟨_,rfl,Ea (cs:=[iv 0,.string ByteArray.empty,iv 0,.string ByteArray.empty,iv 0,iv 0,iv 0,iv 0,iv 0,iv 0,iv 0,iv 0,iv 0,.slice none 0 0,iv 0,iv 0,iv 0,iv 0,iv 0,.slice none 0 0,.string ByteArray.empty]) kr ((hS.blk (i:=3) rfl).cells rfl)⟩,rfl,trivial⟩ ?_)
    obtain rfl:=Ae h
    exact ⟨_,rfl,ν7,none,0,[],none,0,hext,rfl,ArrQ.nil,ArrM.nil,St.pick [1] (by decide) hS⟩
   ·refine wK<|esr ?_
    obtain ⟨aH,aQ,h⟩:=A0 h
    have aG:ArrM ν7 1 (fK .u8) (Al a8 a2 (0:Int).toNat 1) (a2-(0:Int).toNat) aH:=fun w_ hw_=>(aB w_ hw_).cutD (B8 .u8) aQ
    refine qo 6 6 [(49,.slice (Al a8 a2 (0:Int).toNat 1) aH.length (a2-(0:Int).toNat))] hF (oL 22 2 0 hS.i rfl rfl<|oX (.run [] (Instr.sliceAt 22 (sv a8 y6.2.b a2) none (some (iv y6.1)) none) (.slice (Al a8 a2 (0:Int).toNat 1) aH.length (a2-(0:Int).toNat))) (Nl kr (aB _ (hS.frz (i:=1) rfl hlow)) (fun _=>aQ))<|A1) fun a hF=>?_
    obtain ⟨a0,b7,h⟩:=A0 h
    refine SK.wi (qR (fun aS=>[(50,aS)]) hF (W5 F _ _ b7 ν7 w (hS.frz (i:=1) rfl hlow) aG) ?_)
    rintro aS w a ⟨ν33,a4,a6,aW,a5,a7,a3,rfl,aY,aZ,hQ⟩ hF
    replace hext:=hext.t (Frz.ext_mono a3 hS.ext.size)
    obtain ⟨hlow,hS⟩:=hS.frzMerge (i:=1) rfl hlow a3 hQ
    replace hA3:=hA3.mono a3.1
    replace aB:=aB.mono a3.1
    replace aE:=aE.mono a3.1
    replace aF:=aF.mono a3.1
    replace aG:=aG.mono a3.1
    replace aN:=aN.t a3.1
    refine qn 3 10 [(51,.agg (a0.1.ax a4 a6 a5 a7)),(52,.bool a0.2)] hF fun a hF=>?_
    refine SK.wi (qA 49 z48 (fun aK=>[(6,pb aK)]) hF hS fun aK w a hF hS=>?_)
    refine SK.wi (qw 49 0 (a0.1.ax a4 a6 a5 a7) hF hS rfl fun w a hF hS=>?_)
    refine qn 1 13 [(7,.bool a0.2)] hF fun a hF=>wfn rfl ?_
    refine Am<|qnB [(54,.bool (!a0.2))] hF fun a hF=>?_
    refine A8 hF h (fun hc h=>?_) fun hc h=>?_
    ·refine esr<|qn 1 1 [(55,.agg z48)] hF fun a hF=>?_
     refine SK.wi (qw 49 4 z48 hF hS rfl fun w a hF hS=>?_)
     refine qn 1 3 [(3,iv 7)] hF fun a hF=>wfn rfl ?_
     refine wpIn_ret (A2<|A7 [.cell 2 49,.tmp 3] [_,_] hF rfl ⟨⟨_,rfl,Ea (cs:=[iv 0,.string ByteArray.empty,iv 0,.string ByteArray.empty,iv 0,iv 0,iv 0,iv 0,iv 0,iv 0,iv 0,iv 0,iv 0,.slice none 0 0,iv 0,iv 0,iv 0,iv 0,iv 0,.slice none 0 0,.string ByteArray.empty]) kr ((hS.blk (i:=4) rfl).cells rfl)⟩,rfl,trivial⟩ ?_)
     obtain rfl:=Ae h
     exact ⟨_,rfl,ν33,none,0,[],none,0,hext,rfl,ArrQ.nil,ArrM.nil,St.pick [2] (by decide) hS⟩
    ·refine wK<|esr<|qo 1 1 [(56,.agg (a0.1.ax a4 a6 a5 a7))] hF (oN 49 0 0 21 hS.i rfl<|A1) fun a hF=>?_
     refine SK.wi (qw 49 4 (a0.1.ax a4 a6 a5 a7) hF hS rfl fun w a hF hS=>?_)
     refine qn 1 3 [(3,iv 0)] hF fun a hF=>wfn rfl ?_
     refine wpIn_ret (A7 [.cell 2 49,.tmp 3] [_,_] hF rfl ⟨⟨_,rfl,Ea (cs:=[iv a0.1.Kind,.string a0.1.Name,iv a0.1.Time,.string a0.1.Sweep.Site.Name,iv a0.1.Sweep.Site.X,iv a0.1.Sweep.Site.Y,iv a0.1.Sweep.Site.Z,iv a0.1.Sweep.Site.Rose,iv a0.1.Sweep.Site.Gates,iv a0.1.Sweep.Site.Step,iv a0.1.Sweep.Site.Width,iv a0.1.Sweep.Tilt,iv a0.1.Sweep.Time,sv a4 a0.1.Sweep.Rays a6,iv a0.1.Field.Grid.X,iv a0.1.Field.Grid.Y,iv a0.1.Field.Grid.Size,iv a0.1.Field.Grid.Wide,iv a0.1.Field.Grid.High,sv a5 a0.1.Field.Vals a7,.string a0.1.Text]) kr ((hS.blk (i:=4) rfl).cells rfl)⟩,rfl,trivial⟩ ?_)
     obtain rfl:=Ae h
     exact ⟨_,rfl,ν33,a4,a6,aW,a5,a7,hext,rfl,aY,aZ,St.pick [2] (by decide) hS⟩
theorem Vl (F:Nat) (p0:ref12_Item) (res:(List Int)) (h:Hu F p0=some res) (μ:Frz) (w0:World) (hm:FrzAt μ w0) {ad1:Option Addr} {cap2:Nat} {css3:List (List Value)} {ad4:Option Addr} {cap5:Nat} (hA6:ArrQ μ 1 Rp87 ad1 cap2 css3 p0.Sweep.Rays) (hA7:ArrM μ 2 api_Span.cells ad4 cap5 p0.Field.Vals):Ba Tryz.prog 43 #[.agg (p0.ax ad1 cap2 ad4 cap5)] w0 (fun e w=>∃zad0 zcap0,e=(sv zad0 res zcap0)∧St w0 [arr 5 1 (fK .u8) zad0 res.length zcap0 res] w):=by
 obtain ⟨hlow,hS⟩:=hm.init
 have hext:=Frz.ext_refl w0.heap.size μ
 rw [Hu] at h
 refine feW Tryz.func43 15 [(0,.agg (p0.ax ad1 cap2 ad4 cap5))] hS fun a w hF hS=>?_
 refine esr<|SK.wi (qBa 49 (p0.ax ad1 cap2 ad4 cap5) (fun b8=>[(1,pb b8)]) hF hS fun b8 w a hF hS=>?_)
 refine qn 1 2 [] hF fun a hF=>wfn rfl ?_
 refine esr<|ro 1 1 [(4,.agg (p0.ax ad1 cap2 ad4 cap5))] hF (oN 49 0 0 21 hS.i rfl<|A1) fun a hF=>?_
 obtain ⟨a5,aF,h⟩:=A0 h
 refine SK.wi (rR (fun v9=>[(5,v9)]) hF (W3 F _ _ aF (B0 w) w (A4 w) (hA6.mono Rp87.mono (FrzAt.le_mem (hS.frz (i:=1) rfl hlow))) (hA7.mono (FrzAt.le_mem (hS.frz (i:=1) rfl hlow)))) ?_)
 rintro v9 w a ⟨a6,a7,rfl,hQ⟩ hF
 replace hS:=hS.madeL hQ
 refine rn 1 3 [(3,sv a6 a5 a7)] hF fun a hF=>wfn rfl ?_
 refine esr<|qn 2 2 [(7,iv (ln a5))] hF fun a hF=>?_
 obtain ⟨aI,aG,h⟩:=A0 h
 refine SK.wi (qR (fun a9=>[(8,a9)]) hF (At F _ _ aG (B0 w) w (A4 w)) ?_)
 rintro a9 w a ⟨aB,aC,rfl,hQ⟩ hF
 replace hS:=hS.madeL hQ
 refine qn 1 4 [(8,sv aB aI aC),(9,sv a6 a5 a7)] hF fun a hF=>?_
 obtain ⟨a2,aD,h⟩:=A0 h
 refine SK.wi (qP 22 22 0 (fun a0 a1=>[(10,sv a0 a2 a1)]) hF hS (hS.arr (i:=1) rfl) aD rfl fun a0 a1 w a hF hS=>?_)
 refine rn 1 6 [(3,sv a0 a2 a1)] hF fun a hF=>wfn rfl ?_
 refine esr<|rn 2 2 [(11,sv a0 a2 a1),(12,sv a0 a2 a1)] hF fun a hF=>?_
 obtain ⟨aL,aH,h⟩:=A0 h
 refine SK.wi (qR (fun aA=>[(13,aA)]) hF (Td F _ _ aH (B0 w) w (A4 w) (Arr.toM (hS.arr (i:=0) rfl))) ?_)
 rintro aA w a ⟨aJ,aK,rfl,hQ⟩ hF
 replace hS:=hS.madeL hQ
 obtain ⟨a8,aE,h⟩:=A0 h
 refine SK.wi (qP 22 22 1 (fun a3 a4=>[(14,sv a3 a8 a4)]) hF hS (hS.arr (i:=0) rfl) aE rfl fun a3 a4 w a hF hS=>?_)
 refine rn 1 5 [(2,sv a3 a8 a4)] hF fun a hF=>wfn rfl ?_
 refine wpIn_ret (A7 [.tmp 2] [_] hF rfl ⟨rfl,trivial⟩ ?_)
 obtain rfl:=Ae h
 exact ⟨_,rfl,_,_,rfl,St.pick [1] (by decide) hS⟩
end Go.Proofs.YtifbomimeodibaaGreat
