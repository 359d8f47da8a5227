import Derived.Test.YtifbomimeodibaaGreatV5XD
import Derived.Test.YtifbomimeodibaaGreatProg
import Derived.Test.YtifbomimeodibaaGreatV5XW0
import Derived.Test.YtifbomimeodibaaGreatV5XW3
import Derived.Test.YtifbomimeodibaaGreatV5XW17
import Derived.Test.YtifbomimeodibaaGreatV5XW18
namespace Go.Proofs.YtifbomimeodibaaGreat
open Go Go.RowKit Go.Eng
set_option maxRecDepth 10000
set_option maxHeartbeats 4000000
set_option linter.unusedVariables false
set_option linter.unusedSimpArgs false
theorem Uk (F:Nat) (p0:(List volume_Item)) (res:((List Int)×Int)) (h:Qm F p0=some res) (μ:Frz) (w0:World) (hm:FrzAt μ w0) {ad1:Option Addr} {cap2:Nat} {css3:List (List Value)} (hA4:ArrQ μ 21 Rp48 ad1 cap2 css3 p0):Ba Tryz.prog 21 #[sv ad1 p0 cap2] w0 (fun e w=>∃zad0 zcap0,e=(.tuple #[sv zad0 res.1 zcap0,iv res.2])∧St w0 [arrT 5 1 (fK .u8) zad0 res.1.length zcap0 res.1] w):=by
 obtain ⟨hlow,hS⟩:=hm.init
 have hext:=Frz.ext_refl w0.heap.size μ
 rw [Qm] at h
 refine feW Tryz.func21 36 [(0,sv ad1 p0 cap2)] hS fun a w hF hS=>?_
 refine qnB [] hF fun a hF=>?_
 refine Am<|qnB [(11,.bool (decide ((ln p0)>1000)))] hF fun a hF=>?_
 refine A8 hF h (fun hc h=>?_) fun hc h=>?_
 ·refine rnB [(2,.slice none 0 0),(3,iv 9)] hF fun a hF=>?_
  refine wpIn_ret (A2<|A7 [.tmp 2,.tmp 3] [_,_] hF rfl ⟨rfl,rfl,trivial⟩ ?_)
  obtain rfl:=Ae h
  replace hS:=hS.nilT 5 1 (fK .u8)
  exact ⟨_,rfl,_,_,rfl,St.pick [0] (by decide) hS⟩
 ·refine wK<|esr<|SK.wi (qL 5 22 4 [82,86,70,49] (fun b5=>[(12,sb b5 4)]) (B8 .u8) hF hS fun b5 w a hF hS=>?_)
  replace hS:St w0 [arrT 5 1 (fK .u8) (some ⟨b5,0,none⟩) ([82,86,70,49]).length 4 ([82,86,70,49]),fz w0 μ] w:=St.toT hS
  refine SK.wi (Sa (src:=22) [(0,sv ad1 p0 cap2),(13,sb b5 4)] 0 hF hS rfl (by decide) kr ⟨kr⟩ kr ⟨kr⟩ fun w a hF hS=>?_)
  refine rn 1 3 [(0,sv ad1 p0 cap2),(4,sb b5 4)] hF fun a hF=>wfn rfl ?_
  refine Dx (fun a w=>∃(a1:(List Int)) (a8:Option Addr) (a9:Nat),Fr 36 [] [(4,sv a8 a1 a9)] a∧St w0 [arrT 5 1 (fK .u8) a8 a1.length a9 a1,fz w0 μ] w∧Mt a1=some res) ?_ ?_
  ·skip
   refine qnB [(14,sv ad1 p0 cap2),(15,iv (ln p0)),(16,iv 0)] hF fun a hF=>?_
   refine wpIn_block<|Ck (fun n_ a w=>∃(a2:Int) (a0:(List Int)) (a3:Option Addr) (a4:Nat),Fr 36 [] [(4,sv a3 a0 a4),(14,sv ad1 p0 cap2),(15,iv (ln p0)),(16,iv a2)] a∧St w0 [arrT 5 1 (fK .u8) a3 a0.length a4 a0,fz w0 μ] w∧Kt F p0 n_ a2 a0=some res) F ⟨0,[82,86,70,49],(some ⟨b5,0,none⟩),4,hF.sub kr,St.pick [0,1] (by decide) hS,h⟩ ?_
   rintro nk2 a w ⟨a2,a0,a3,a4,hF,hS,h⟩
   rcases nk2 with _|nk2
   ·cases (show (none:Option ((List Int)×Int))=some res from h)
   obtain ⟨k2,hk2⟩:∃k,k=Kt F p0 nk2:=⟨_,rfl⟩
   replace h:Ms F p0 k2 a2 a0=some res:=by rw [hk2];exact h
   rw [Ms] at h
   refine qnB [(17,.bool (decide (a2<(ln p0))))] hF fun a hF=>?_
   refine Am<|A8 hF h (fun hc h=>?_) fun hc h=>?_
   ·refine wK<|Am<|wpIn_block<|esr ?_
    obtain ⟨aF,aQ,h⟩:=A0 h
    obtain ⟨aT,aJ,aO⟩:=Cw hA4.2 aQ
    obtain ⟨aB,aD,aU,aC,aE,rfl,aM,aN⟩:=aO
    refine qo 2 2 [(19,.agg (aF.ax aB aD aC aE))] hF (oI 24 (hA4.at (hS.frz (i:=1) rfl hlow)) aJ<|oG 48 0 21 (Dg 21) (fun _ hd=>(hA4.at ((hS.at_ hd).frz (i:=1) rfl hlow))) aJ<|A1) fun a hF=>?_
    refine SK.wi (qA 48 z48 (fun aH=>[(6,pb aH)]) hF hS fun aH w a hF hS=>?_)
    refine SK.wi (qw 48 0 (aF.ax aB aD aC aE) hF hS rfl fun w a hF hS=>wfn rfl ?_)
    refine esr<|qo 1 1 [(21,.agg (aF.ax aB aD aC aE))] hF (oN 48 0 0 21 hS.i rfl<|A1) fun a hF=>?_
    obtain ⟨a5,aS,h⟩:=A0 h
    refine SK.wi (qR (fun aK=>[(22,aK)]) hF (P2 F _ _ aS (B0 w) w (A4 w) (aM.mono Rp87.mono (FrzAt.le_mem (hS.frz (i:=2) rfl hlow))) (aN.mono (FrzAt.le_mem (hS.frz (i:=2) rfl hlow)))) ?_)
    rintro aK w a ⟨aG,aI,rfl,hQ⟩ hF
    replace hS:=hS.madeL hQ
    refine qn 5 7 [(7,sv aG a5.1 aI),(8,iv a5.2)] hF fun a hF=>wfn rfl ?_
    refine Am<|qnB [(26,.bool (a5.2 != 0))] hF fun a hF=>?_
    refine A8 hF h (fun hc h=>?_) fun hc h=>?_
    ·refine rnB [(2,.slice none 0 0),(3,iv a5.2)] hF fun a hF=>?_
     refine wpIn_ret (A2<|Ab<|A2<|A2<|Ab<|A2<|A7 [.tmp 2,.tmp 3] [_,_] hF rfl ⟨rfl,rfl,trivial⟩ ?_)
     obtain rfl:=Ae h
     replace hS:=hS.nilT 5 1 (fK .u8)
     exact ⟨_,rfl,_,_,rfl,St.pick [0] (by decide) hS⟩
    ·refine wK<|WI.region<|qn 2 2 [(28,sv a3 a0 a4),(29,sv aG a5.1 aI)] hF fun a hF=>?_
     obtain ⟨aA,aP,h⟩:=A0 h
     refine SK.wi (Ux (t:=22) (ty:=22) (bytes:=1) (l:=a0) (l':=a5.1) (fun a6 a7=>[(4,sv a3 a0 a4),(14,sv ad1 p0 cap2),(15,iv (ln p0)),(16,iv a2),(30,sv a6 aA a7)]) 2 hF hS rfl kr ⟨kr⟩ kr (hS.arr (i:=0) rfl) (fun _ _=>rfl) aP (fun _ _=>⟨kr⟩) fun a6 a7 w a hF hS=>?_)
     refine rn 1 4 [(4,sv a6 aA a7),(14,sv ad1 p0 cap2),(15,iv (ln p0)),(16,iv a2)] hF fun a hF=>WI.fin rfl (A9<|A3<|?_)
     refine WI.region ?_
     obtain ⟨aL,aR,h⟩:=A0 h
     refine ro 2 2 [(4,sv a6 aA a7),(14,sv ad1 p0 cap2),(15,iv (ln p0)),(16,iv aL)] hF (oA 3 aR<|A1) fun a hF=>wfn rfl ?_
     rw [hk2] at h
     exact ⟨nk2,Nat.lt_succ_self _,aL,aA,a6,a7,hF.sub kr,St.pick [2,3] (by decide) hS,h⟩
   ·refine wpIn_exit (A5<|A5<|Ar<|A3 ?_)
    exact ⟨a0,a3,a4,hF.sub kr,St.pick [0,1] (by decide) hS,h⟩
  rintro a w ⟨a1,a8,a9,hF,hS,h⟩
  rw [Mt] at h
  refine Am<|qnB [(34,.bool (decide ((ln a1)>16777216)))] hF fun a hF=>?_
  refine A8 hF h (fun hc h=>?_) fun hc h=>?_
  ·refine rnB [(2,.slice none 0 0),(3,iv 8)] hF fun a hF=>?_
   refine wpIn_ret (A2<|A7 [.tmp 2,.tmp 3] [_,_] hF rfl ⟨rfl,rfl,trivial⟩ ?_)
   obtain rfl:=Ae h
   replace hS:=hS.nilT 5 1 (fK .u8)
   exact ⟨_,rfl,_,_,rfl,St.pick [0] (by decide) hS⟩
  ·refine wK<|rnB [(2,sv a8 a1 a9),(3,iv 0)] hF fun a hF=>?_
   refine wpIn_ret (A7 [.tmp 2,.tmp 3] [_,_] hF rfl ⟨rfl,rfl,trivial⟩ ?_)
   obtain rfl:=Ae h
   exact ⟨_,rfl,_,_,rfl,St.pick [0] (by decide) hS⟩
theorem W0 (F:Nat) (p0:(List Int)) (res:((List ref12_Item)×Int×Int)) (h:Jw F p0=some res) (μ:Frz) (w0:World) (hm:FrzAt μ w0) {ad1:Option Addr} {cap2:Nat} (hA3:ArrM μ 1 (fK .u8) ad1 cap2 p0):Ba Tryz.prog 10 #[sv ad1 p0 cap2] w0 (fun e w=>∃(ν_:Frz) (zad0:Option Addr) (zcap0:Nat) (zcss0:List (List Value)),μ.ext w0.heap.size ν_∧e=(.tuple #[sv zad0 res.1 zcap0,iv res.2.1,iv res.2.2])∧All2 (Rp49 ν_) zcss0 res.1∧St w0 [fz w0 ν_,arr 49 21 (fN 21) zad0 res.1.length zcap0 zcss0] w):=by
 obtain ⟨hlow,hS⟩:=hm.init
 have hext:=Frz.ext_refl w0.heap.size μ
 rw [Jw] at h
 refine feW Tryz.func10 91 [(0,sv ad1 p0 cap2)] hS fun a w hF hS=>?_
 refine qnB [] hF fun a hF=>?_
 refine Am<|qnB [(14,.bool (decide ((ln p0)>16777216)))] hF fun a hF=>?_
 refine A8 hF h (fun hc h=>?_) fun hc h=>?_
 ·refine rnB [(2,.slice none 0 0),(3,iv 0),(4,iv 8)] hF fun a hF=>?_
  refine wpIn_ret (A2<|A7 [.tmp 2,.tmp 3,.tmp 4] [_,_,_] hF rfl ⟨rfl,rfl,rfl,trivial⟩ ?_)
  obtain rfl:=Ae h
  replace hS:=hS.nilarr 49 21 (fN 21)
  exact ⟨_,rfl,μ,_,_,_,hext,rfl,All2.nil,St.pick [1,0] (by decide) hS⟩
 ·refine wK<|qnB [(5,iv 4)] hF fun a hF=>?_
  refine Am<|esr<|qn 5 5 [(19,.bool (decide ((ln p0)<4)))] hF fun a hF=>?_
  rcases Bool.eq_false_or_eq_true ((decide ((ln p0)<4))) with hg4|hg4
  ·replace h:=Gx h hg4
   rw [hg4] at hF
   refine qk 6 [(19,.bool true),(20,undef)] hF fun a hF=>?_
   refine qk 7 [(21,undef)] hF fun a hF=>?_
   refine qk 8 [(22,undef)] hF fun a hF=>?_
   refine qk 9 [(23,undef)] hF fun a hF=>?_
   refine qk 10 [(24,undef)] hF fun a hF=>?_
   obtain ⟨u5,hu5,h⟩:=A0 h
   refine qo 14 24 [(38,.bool true)] hF (oX (.run [⟨31,true,(decide ((ln p0)>4))⟩,⟨26,false,true⟩] (Instr.indexAt 22 (sv ad1 p0 cap2) (iv 4)) (.pointer (some (Bl ad1 4 1)))) (J0 (hA3 _ (hS.frz (i:=0) rfl hlow)) kr (fun hk=>Bt hu5 hk))<|oX (.run [⟨31,true,(decide ((ln p0)>4))⟩,⟨26,false,true⟩] (Instr.loadAt 5 (.pointer (some (Bl ad1 4 1)))) (.int .u8 u5)) (Pf (i:=4) 0 (B8 .u8) (fun _ hd=>(hA3 _ ((hS.at_ hd).frz (i:=0) rfl hlow))) kr (fun hk=>Bt hu5 hk) rfl)<|A1) fun a hF=>wfn rfl ?_
   refine wpIn_cond_true (hF.get rfl) ?_
   refine rnB [(2,.slice none 0 0),(3,iv 0),(4,iv 7)] hF fun a hF=>?_
   refine wpIn_ret (A2<|A7 [.tmp 2,.tmp 3,.tmp 4] [_,_,_] hF rfl ⟨rfl,rfl,rfl,trivial⟩ ?_)
   obtain rfl:=Ae h
   replace hS:=hS.nilarr 49 21 (fN 21)
   exact ⟨_,rfl,μ,_,_,_,hext,rfl,All2.nil,St.pick [1,0] (by decide) hS⟩
  ·replace h:=Gw h hg4
   rw [hg4] at hF
   obtain ⟨l6,hl6,h⟩:=A0 h
   have hA7:ArrM μ 1 (fK .u8) (Al ad1 cap2 (0:Int).toNat 1) (cap2-(0:Int).toNat) l6:=fun w_ hw_=>(hA3 w_ hw_).cutD (B8 .u8) hl6
   obtain ⟨u8,hu8,h⟩:=A0 h
   refine qo 19 24 [(38,.bool (bif (!(sEq (bst l6) (⟨#[82,86,70,49]⟩:ByteArray))) then true else (bif (decide ((ln p0)>4)) then (u8 != 0) else false)))] hF (oGs [⟨19,false,false⟩] (oX (.run [] (Instr.sliceAt 22 (sv ad1 p0 cap2) none (some (iv 4)) none) (.slice (Al ad1 cap2 (0:Int).toNat 1) l6.length (cap2-(0:Int).toNat))) (Nl kr (hA3 _ (hS.frz (i:=0) rfl hlow)) (fun _=>hl6))<|oX (.run [] (convert 22 9 (.slice (Al ad1 cap2 (0:Int).toNat 1) l6.length (cap2-(0:Int).toNat))) (.string (bst l6))) (Xq kr kr (fun _ hd=>(hA7 _ ((hS.at_ hd).frz (i:=0) rfl hlow))))<|oX (.run [] (Qs .neq 9 (bst l6) (⟨#[82,86,70,49]⟩:ByteArray)) (.bool (!(sEq (bst l6) (⟨#[82,86,70,49]⟩:ByteArray))))) S2<|A1)<|oX (.run [⟨31,true,(decide ((ln p0)>4))⟩,⟨26,false,(!(sEq (bst l6) (⟨#[82,86,70,49]⟩:ByteArray)))⟩] (Instr.indexAt 22 (sv ad1 p0 cap2) (iv 4)) (.pointer (some (Bl ad1 4 1)))) (J0 (hA3 _ (hS.frz (i:=0) rfl hlow)) kr (fun hk=>Bt hu8 hk))<|oX (.run [⟨31,true,(decide ((ln p0)>4))⟩,⟨26,false,(!(sEq (bst l6) (⟨#[82,86,70,49]⟩:ByteArray)))⟩] (Instr.loadAt 5 (.pointer (some (Bl ad1 4 1)))) (.int .u8 u8)) (Pf (i:=4) 0 (B8 .u8) (fun _ hd=>(hA3 _ ((hS.at_ hd).frz (i:=0) rfl hlow))) kr (fun hk=>Bt hu8 hk) rfl)<|A1) fun a hF=>wfn rfl ?_
   refine A8 hF h (fun hc h=>?_) fun hc h=>?_
   ·refine rnB [(2,.slice none 0 0),(3,iv 0),(4,iv 7)] hF fun a hF=>?_
    refine wpIn_ret (A2<|A7 [.tmp 2,.tmp 3,.tmp 4] [_,_,_] hF rfl ⟨rfl,rfl,rfl,trivial⟩ ?_)
    obtain rfl:=Ae h
    replace hS:=hS.nilarr 49 21 (fN 21)
    exact ⟨_,rfl,μ,_,_,_,hext,rfl,All2.nil,St.pick [1,0] (by decide) hS⟩
   ·refine wK<|qnB [(6,.slice none 0 0)] hF fun a hF=>?_
    refine qnB [(7,iv 4)] hF fun a hF=>?_
    refine qnB [(8,iv 0)] hF fun a hF=>?_
    have aH:=Frz.le_refl μ
    refine Dx (fun a w=>∃(aE:(List ref12_Item)) (aR:Int) (aS:Int) (ν136:Frz) (aM:Option Addr) (aO:Nat) (aT:List (List Value)),Fr 91 [] [(6,sv aM aE aO),(7,iv aR),(8,iv aS)] a∧St w0 [arr 49 21 (fN 21) aM aE.length aO aT,fz w0 ν136] w∧(All2 (Rp49 ν136) aT aE)∧(μ.le ν136)∧(μ.ext w0.heap.size ν136)∧(Ax w0 ν136)∧Ha aE aR aS=some res) ?_ ?_
    ·skip
     refine wpIn_block ?_
     have aY:=Frz.le_refl μ
     replace hS:=hS.nilarr 49 21 (fN 21)
     refine Ck (fun n_ a w=>∃(a1:(List ref12_Item)) (a9:Int) (aI:Int) (ν227:Frz) (a2:Option Addr) (a3:Nat) (aB:List (List Value)),Fr 91 [] [(0,sv ad1 p0 cap2),(6,sv a2 a1 a3),(7,iv a9),(8,iv aI)] a∧St w0 [arr 49 21 (fN 21) a2 a1.length a3 aB,fz w0 ν227] w∧(All2 (Rp49 ν227) aB a1)∧(μ.le ν227)∧(μ.ext w0.heap.size ν227)∧(Ax w0 ν227)∧Fh F p0 n_ a1 a9 aI=some res) F ⟨[],4,0,μ,none,0,[],hF.sub kr,St.pick [0,1] (by decide) hS,All2.nil,aY,hext,hlow,h⟩ ?_
     clear aY
     rintro nk2 a w ⟨a1,a9,aI,ν227,a2,a3,aB,hF,hS,aK,aD,hext,hlow,h⟩
     rcases nk2 with _|nk2
     ·cases (show (none:Option ((List ref12_Item)×Int×Int))=some res from h)
     replace hA3:=hA3.mono aD
     replace hA7:=hA7.mono aD
     replace aH:=aH.t aD
     obtain ⟨k2,hk2⟩:∃k,k=Fh F p0 nk2:=⟨_,rfl⟩
     replace h:Jh F p0 k2 a1 a9 aI=some res:=by rw [hk2];exact h
     rw [Jh] at h
     refine Am<|qnB [(47,.bool (bif (decide (a9<(ln p0))) then (aI==0) else false))] hF fun a hF=>?_
     refine A8 hF h (fun hc h=>?_) fun hc h=>?_
     ·refine wK<|wpIn_block<|esr ?_
      obtain ⟨bH,bB,h⟩:=A0 h
      obtain ⟨a4,bE,h⟩:=A0 h
      refine rX 5 5 [(0,sv ad1 p0 cap2),(6,sv a2 a1 a3),(7,iv a9),(9,iv a4)] hF (oA 3 bB<|oC (fun w2 hd=>Wz F p0 bH _ bE _ w2 (A4 w2) (hA3.mono (FrzAt.le_mem ((hS.later hd).frz (i:=1) rfl hlow))))<|A1) fun a w hF hx=>?_
      replace hS:=hS.later hx
      refine wfn rfl ?_
      refine esr ?_
      obtain ⟨aF,bC,h⟩:=A0 h
      obtain ⟨aV,aZ,h⟩:=A0 h
      have aU:ArrM ν227 1 (fK .u8) (Al ad1 cap2 aF.toNat 1) (cap2-aF.toNat) aV:=fun w_ hw_=>(hA3 w_ hw_).cutD (B8 .u8) aZ
      refine qo 5 5 [(57,.slice (Al ad1 cap2 aF.toNat 1) aV.length (cap2-aF.toNat))] hF (oA 3 bC<|oX (.run [] (Instr.sliceAt 22 (sv ad1 p0 cap2) (some (iv aF)) (some (iv a4)) none) (.slice (Al ad1 cap2 aF.toNat 1) aV.length (cap2-aF.toNat))) (Uw kr (hA3 _ (hS.frz (i:=1) rfl hlow)) (fun _=>aZ))<|A1) fun a hF=>?_
      obtain ⟨a0,bF,h⟩:=A0 h
      refine SK.wi (qR (fun b4=>[(58,b4)]) hF (Vn F _ _ bF ν227 w (hS.frz (i:=1) rfl hlow) aU) ?_)
      rintro b4 w a ⟨ν244,a5,a7,b5,a6,a8,aC,rfl,b6,b7,hQ⟩ hF
      replace hext:=hext.t (Frz.ext_mono aC hS.ext.size)
      obtain ⟨hlow,hS⟩:=hS.frzMerge (i:=1) rfl hlow aC hQ
      replace hA3:=hA3.mono aC.1
      replace hA7:=hA7.mono aC.1
      replace aK:=All2.mono Rp49.mono aC.1 aK
      replace aU:=aU.mono aC.1
      replace aH:=aH.t aC.1
      replace aD:=aD.t aC.1
      refine qn 3 9 [(59,.agg (a0.1.ax a5 a7 a6 a8)),(60,iv a0.2)] hF fun a hF=>?_
      refine SK.wi (qA 49 z48 (fun aG=>[(10,pb aG)]) hF hS fun aG w a hF hS=>?_)
      refine SK.wi (qw 49 0 (a0.1.ax a5 a7 a6 a8) hF hS rfl fun w a hF hS=>?_)
      refine qn 1 12 [(11,iv a0.2)] hF fun a hF=>wfn rfl ?_
      refine Dx (fun a w=>∃(aA:Int),Fr 91 [] [(0,sv ad1 p0 cap2),(6,sv a2 a1 a3),(7,iv a9),(9,iv a4),(10,pb aG),(11,iv aA)] a∧St w0 [blk aG 49 (a0.1.ax a5 a7 a6 a8),arr 49 21 (fN 21) a2 a1.length a3 aB,fz w0 ν244] w∧Gf a1 a9 k2 a4 a0 aA=some res) ?_ ?_
      ·skip
       refine esr<|qn 9 9 [(69,.bool (bif (a0.2 != 0) then (a4==(ln p0)) else false))] hF fun a hF=>?_
       rcases Bool.eq_false_or_eq_true ((bif (a0.2 != 0) then (a4==(ln p0)) else false)) with aJ|aJ
       ·replace h:=Gx h aJ
        rw [aJ] at hF
        obtain ⟨aL,bD,h⟩:=A0 h
        obtain ⟨aW,b1,h⟩:=A0 h
        have b8:ArrM ν244 1 (fK .u8) (Al ad1 cap2 aL.toNat 1) (cap2-aL.toNat) aW:=fun w_ hw_=>(hA3 w_ hw_).cutD (B8 .u8) b1
        obtain ⟨bI,bG,h⟩:=A0 h
        refine qx 7 16 [(76,.bool bI)] hF (oGs [⟨69,true,true⟩] (oA 3 bD<|oX (.run [] (Instr.sliceAt 22 (sv ad1 p0 cap2) (some (iv aL)) (some (iv a4)) none) (.slice (Al ad1 cap2 aL.toNat 1) aW.length (cap2-aL.toNat))) (Uw kr (hA3 _ (hS.frz (i:=2) rfl hlow)) (fun _=>b1))<|oC (fun w2 hd=>W6 F aW _ bG _ w2 (A4 w2) (b8.mono (FrzAt.le_mem ((hS.later hd).frz (i:=2) rfl hlow))))<|A1)<|A1) fun a w hF hx=>?_
        replace hS:=hS.later hx
        refine wfn rfl ?_
        refine A8 hF h (fun hc h=>?_) fun hc h=>?_
        ·refine WI.region<|rn 1 1 [(0,sv ad1 p0 cap2),(6,sv a2 a1 a3),(7,iv a9),(9,iv a4),(10,pb aG),(11,iv 16)] hF fun a hF=>wfn rfl ?_
         exact ⟨16,hF.sub kr,St.pick [0,1,2] (by decide) hS,h⟩
        ·refine wK ?_
         exact ⟨a0.2,hF.sub kr,St.pick [0,1,2] (by decide) hS,h⟩
       ·replace h:=Gw h aJ
        rw [aJ] at hF
        refine qk 10 [(69,.bool false),(70,undef)] hF fun a hF=>?_
        refine qk 11 [(71,undef)] hF fun a hF=>?_
        refine qk 12 [(72,undef)] hF fun a hF=>?_
        refine qk 13 [(73,undef)] hF fun a hF=>?_
        refine qk 14 [(74,undef)] hF fun a hF=>?_
        refine qk 15 [(75,undef)] hF fun a hF=>?_
        refine qn 1 16 [(76,.bool false)] hF fun a hF=>wfn rfl ?_
        refine wpIn_cond_false (hF.get rfl) ?_
        refine wK ?_
        exact ⟨a0.2,hF.sub kr,St.pick [0,1,2] (by decide) hS,h⟩
      rintro a w ⟨aA,hF,hS,h⟩
      rw [Gf] at h
      refine qnB [(8,iv aA)] hF fun a hF=>?_
      refine rnB [(0,sv ad1 p0 cap2),(6,sv a2 a1 a3),(7,iv a9),(8,iv aA),(9,iv a4),(10,pb aG),(79,.bool (aA==0))] hF fun a hF=>?_
      refine A8 hF h (fun hc h=>?_) fun hc h=>?_
      ·refine esr<|ro 2 2 [(0,sv ad1 p0 cap2),(6,sv a2 a1 a3),(8,iv aA),(9,iv a4),(80,sv a2 a1 a3),(81,.agg (a0.1.ax a5 a7 a6 a8))] hF (oN 49 0 0 21 hS.i rfl<|A1) fun a hF=>?_
       have b3:All2 (Rp49 ν244) ([[iv a0.1.Kind,.string a0.1.Name,iv a0.1.Time,.string a0.1.Sweep.Site.Name,iv a0.1.Sweep.Site.X,iv a0.1.Sweep.Site.Y,iv a0.1.Sweep.Site.Z,iv a0.1.Sweep.Site.Rose,iv a0.1.Sweep.Site.Gates,iv a0.1.Sweep.Site.Step,iv a0.1.Sweep.Site.Width,iv a0.1.Sweep.Tilt,iv a0.1.Sweep.Time,sv a5 a0.1.Sweep.Rays a7,iv a0.1.Field.Grid.X,iv a0.1.Field.Grid.Y,iv a0.1.Field.Grid.Size,iv a0.1.Field.Grid.Wide,iv a0.1.Field.Grid.High,sv a6 a0.1.Field.Vals a8,.string a0.1.Text]]:List (List Value)) [(ref12_Item.mk a0.1.Kind a0.1.Name a0.1.Time (api_Sweep.mk (api_Site.mk a0.1.Sweep.Site.Name a0.1.Sweep.Site.X a0.1.Sweep.Site.Y a0.1.Sweep.Site.Z a0.1.Sweep.Site.Rose a0.1.Sweep.Site.Gates a0.1.Sweep.Site.Step a0.1.Sweep.Site.Width) a0.1.Sweep.Tilt a0.1.Sweep.Time a0.1.Sweep.Rays) (api_Field.mk (api_Grid.mk a0.1.Field.Grid.X a0.1.Field.Grid.Y a0.1.Field.Grid.Size a0.1.Field.Grid.Wide a0.1.Field.Grid.High) a0.1.Field.Vals) a0.1.Text)]:=(All2.cons ⟨a5,a7,b5,a6,a8,rfl,b6,b7⟩ All2.nil)
       refine SK.wi (Qn (e:=49) (sz:=21) (f:=fN 21) (t:=28) (len:=1) (fun aX=>[(0,sv ad1 p0 cap2),(6,sv a2 a1 a3),(8,iv aA),(9,iv a4),(80,sv a2 a1 a3),(82,sb aX 1)]) #[(0,.agg (a0.1.ax a5 a7 a6 a8))] (a0.1.ax a5 a7 a6 a8) ([[iv a0.1.Kind,.string a0.1.Name,iv a0.1.Time,.string a0.1.Sweep.Site.Name,iv a0.1.Sweep.Site.X,iv a0.1.Sweep.Site.Y,iv a0.1.Sweep.Site.Z,iv a0.1.Sweep.Site.Rose,iv a0.1.Sweep.Site.Gates,iv a0.1.Sweep.Site.Step,iv a0.1.Sweep.Site.Width,iv a0.1.Sweep.Tilt,iv a0.1.Sweep.Time,sv a5 a0.1.Sweep.Rays a7,iv a0.1.Field.Grid.X,iv a0.1.Field.Grid.Y,iv a0.1.Field.Grid.Size,iv a0.1.Field.Grid.Wide,iv a0.1.Field.Grid.High,sv a6 a0.1.Field.Vals a8,.string a0.1.Text]]:List (List Value)) ([(ref12_Item.mk a0.1.Kind a0.1.Name a0.1.Time (api_Sweep.mk (api_Site.mk a0.1.Sweep.Site.Name a0.1.Sweep.Site.X a0.1.Sweep.Site.Y a0.1.Sweep.Site.Z a0.1.Sweep.Site.Rose a0.1.Sweep.Site.Gates a0.1.Sweep.Site.Step a0.1.Sweep.Site.Width) a0.1.Sweep.Tilt a0.1.Sweep.Time a0.1.Sweep.Rays) (api_Field.mk (api_Grid.mk a0.1.Field.Grid.X a0.1.Field.Grid.Y a0.1.Field.Grid.Size a0.1.Field.Grid.Wide a0.1.Field.Grid.High) a0.1.Field.Vals) a0.1.Text)]) hF hS kr ⟨kr⟩ kr (Dg 21) rfl rfl rfl kr (fun _=>⟨kr⟩) fun aX w a hF hS=>?_)
       obtain ⟨aQ,b0,h⟩:=A0 h
       have bA:All2 (Rp49 ν244) (aB++([[iv a0.1.Kind,.string a0.1.Name,iv a0.1.Time,.string a0.1.Sweep.Site.Name,iv a0.1.Sweep.Site.X,iv a0.1.Sweep.Site.Y,iv a0.1.Sweep.Site.Z,iv a0.1.Sweep.Site.Rose,iv a0.1.Sweep.Site.Gates,iv a0.1.Sweep.Site.Step,iv a0.1.Sweep.Site.Width,iv a0.1.Sweep.Tilt,iv a0.1.Sweep.Time,sv a5 a0.1.Sweep.Rays a7,iv a0.1.Field.Grid.X,iv a0.1.Field.Grid.Y,iv a0.1.Field.Grid.Size,iv a0.1.Field.Grid.Wide,iv a0.1.Field.Grid.High,sv a6 a0.1.Field.Vals a8,.string a0.1.Text]]:List (List Value))) aQ:=by rw [(Mh b0).1];exact All2.app aK b3
       refine SK.wi (Xc (t:=28) (ty:=28) (bytes:=224) (c:=aB) (c':=([[iv a0.1.Kind,.string a0.1.Name,iv a0.1.Time,.string a0.1.Sweep.Site.Name,iv a0.1.Sweep.Site.X,iv a0.1.Sweep.Site.Y,iv a0.1.Sweep.Site.Z,iv a0.1.Sweep.Site.Rose,iv a0.1.Sweep.Site.Gates,iv a0.1.Sweep.Site.Step,iv a0.1.Sweep.Site.Width,iv a0.1.Sweep.Tilt,iv a0.1.Sweep.Time,sv a5 a0.1.Sweep.Rays a7,iv a0.1.Field.Grid.X,iv a0.1.Field.Grid.Y,iv a0.1.Field.Grid.Size,iv a0.1.Field.Grid.Wide,iv a0.1.Field.Grid.High,sv a6 a0.1.Field.Vals a8,.string a0.1.Text]]:List (List Value))) (l:=a1) (l':=([(ref12_Item.mk a0.1.Kind a0.1.Name a0.1.Time (api_Sweep.mk (api_Site.mk a0.1.Sweep.Site.Name a0.1.Sweep.Site.X a0.1.Sweep.Site.Y a0.1.Sweep.Site.Z a0.1.Sweep.Site.Rose a0.1.Sweep.Site.Gates a0.1.Sweep.Site.Step a0.1.Sweep.Site.Width) a0.1.Sweep.Tilt a0.1.Sweep.Time a0.1.Sweep.Rays) (api_Field.mk (api_Grid.mk a0.1.Field.Grid.X a0.1.Field.Grid.Y a0.1.Field.Grid.Size a0.1.Field.Grid.Wide a0.1.Field.Grid.High) a0.1.Field.Vals) a0.1.Text)])) (fun aN aP=>[(0,sv ad1 p0 cap2),(6,sv a2 a1 a3),(8,iv aA),(9,iv a4),(83,sv aN aQ aP)]) 2 hF hS rfl kr ⟨kr⟩ kr (hS.arr (i:=0) rfl) (ArrQ.one b3 Rp49.one) b0 (fun _ _=>⟨kr⟩) fun aN aP w a hF hS=>?_)
       refine rn 1 5 [(0,sv ad1 p0 cap2),(6,sv aN aQ aP),(8,iv aA),(9,iv a4)] hF fun a hF=>wfn rfl ?_
       refine WI.region<|qn 2 2 [(7,iv a4)] hF fun a hF=>WI.fin rfl (A9<|A3<|?_)
       rw [hk2] at h
       exact ⟨nk2,Nat.lt_succ_self _,aQ,a4,aA,ν244,aN,aP,(aB++([[iv a0.1.Kind,.string a0.1.Name,iv a0.1.Time,.string a0.1.Sweep.Site.Name,iv a0.1.Sweep.Site.X,iv a0.1.Sweep.Site.Y,iv a0.1.Sweep.Site.Z,iv a0.1.Sweep.Site.Rose,iv a0.1.Sweep.Site.Gates,iv a0.1.Sweep.Site.Step,iv a0.1.Sweep.Site.Width,iv a0.1.Sweep.Tilt,iv a0.1.Sweep.Time,sv a5 a0.1.Sweep.Rays a7,iv a0.1.Field.Grid.X,iv a0.1.Field.Grid.Y,iv a0.1.Field.Grid.Size,iv a0.1.Field.Grid.Wide,iv a0.1.Field.Grid.High,sv a6 a0.1.Field.Vals a8,.string a0.1.Text]]:List (List Value))),hF.sub kr,St.pick [2,3] (by decide) hS,bA,aD,hext,hlow,h⟩
      ·refine wpIn_skip (A9<|A3<|?_)
       rw [hk2] at h
       exact ⟨nk2,Nat.lt_succ_self _,a1,a9,aA,ν244,a2,a3,aB,hF.sub kr,St.pick [1,2] (by decide) hS,aK,aD,hext,hlow,h⟩
     ·refine wpIn_exit (A5<|A5<|Ar<|A3 ?_)
      exact ⟨a1,a9,aI,ν227,a2,a3,aB,hF.sub kr,St.pick [0,1] (by decide) hS,aK,aH,hext,hlow,h⟩
    clear aH
    rintro a w ⟨aE,aR,aS,ν136,aM,aO,aT,hF,hS,b9,b2,hext,hlow,h⟩
    replace hA3:=hA3.mono b2
    replace hA7:=hA7.mono b2
    rw [Ha] at h
    refine Am<|qnB [(87,.bool (decide ((ln aE)>1000)))] hF fun a hF=>?_
    refine A8 hF h (fun hc h=>?_) fun hc h=>?_
    ·refine rnB [(2,.slice none 0 0),(3,iv 0),(4,iv 9)] hF fun a hF=>?_
     refine wpIn_ret (A2<|A7 [.tmp 2,.tmp 3,.tmp 4] [_,_,_] hF rfl ⟨rfl,rfl,rfl,trivial⟩ ?_)
     obtain rfl:=Ae h
     replace hS:=hS.nilarr 49 21 (fN 21)
     exact ⟨_,rfl,ν136,_,_,_,hext,rfl,All2.nil,St.pick [2,0] (by decide) hS⟩
    ·refine wK<|rnB [(2,sv aM aE aO),(3,iv aR),(4,iv aS)] hF fun a hF=>?_
     refine wpIn_ret (A7 [.tmp 2,.tmp 3,.tmp 4] [_,_,_] hF rfl ⟨rfl,rfl,rfl,trivial⟩ ?_)
     obtain rfl:=Ae h
     exact ⟨_,rfl,ν136,_,_,_,hext,rfl,b9,St.pick [1,0] (by decide) hS⟩
theorem U4 (F:Nat) (p0:(List Int)) (p1:volume_Item) (res:((List Int)×Int)) (h:Jm F p0 p1=some res) (μ:Frz) (w0:World) (hm:FrzAt μ w0) {ad1:Option Addr} {cap2:Nat} {ad4:Option Addr} {cap5:Nat} {css6:List (List Value)} {ad7:Option Addr} {cap8:Nat} (hA3:ArrM μ 1 (fK .u8) ad1 cap2 p0) (hA9:ArrQ μ 1 Rp87 ad4 cap5 css6 p1.Sweep.Rays) (a7:ArrM μ 2 api_Span.cells ad7 cap8 p1.Field.Vals):Ba Tryz.prog 23 #[sv ad1 p0 cap2,.agg (p1.ax ad4 cap5 ad7 cap8)] w0 (fun e w=>∃zad0 zcap0,e=(.tuple #[sv zad0 res.1 zcap0,iv res.2])∧St w0 [arr 5 1 (fK .u8) zad0 res.1.length zcap0 res.1] w):=by
 obtain ⟨hlow,hS⟩:=hm.init
 have hext:=Frz.ext_refl w0.heap.size μ
 rw [Jm] at h
 refine feW Tryz.func23 48 [(0,sv ad1 p0 cap2),(1,.agg (p1.ax ad4 cap5 ad7 cap8))] hS fun a w hF hS=>?_
 refine esr<|SK.wi (qBa 48 (p1.ax ad4 cap5 ad7 cap8) (fun aA=>[(3,pb aA)]) hF hS fun aA w a hF hS=>?_)
 refine qn 2 3 [] hF fun a hF=>wfn rfl ?_
 refine esr<|qn 1 1 [(11,sv ad1 p0 cap2)] hF fun a hF=>?_
 obtain ⟨a0,aM,h⟩:=A0 h
 refine SK.wi (qR (fun aE=>[(12,aE)]) hF (Hr F _ _ aM μ w (hS.frz (i:=1) rfl hlow) hA3) ?_)
 rintro aE w a ⟨ν14,a9,aB,aR,a2,rfl,aS,hQ⟩ hF
 replace hext:=hext.t (Frz.ext_mono a2 hS.ext.size)
 obtain ⟨hlow,hS⟩:=hS.frzMerge (i:=1) rfl hlow a2 hQ
 replace hA3:=hA3.mono a2.1
 replace hA9:=hA9.mono Rp87.mono a2.1
 replace a7:=a7.mono a2.1
 refine qn 7 9 [(6,sv a9 a0.1 aB),(7,iv a0.2.1),(8,iv a0.2.2)] hF fun a hF=>wfn rfl ?_
 refine Am<|qnB [(21,.bool (bif (a0.2.2 != 0) then (a0.2.2 != 16) else false))] hF fun a hF=>?_
 refine A8 hF h (fun hc h=>?_) fun hc h=>?_
 ·refine rnB [(4,.slice none 0 0),(5,iv a0.2.2)] hF fun a hF=>?_
  refine wpIn_ret (A2<|A7 [.tmp 4,.tmp 5] [_,_] hF rfl ⟨rfl,rfl,trivial⟩ ?_)
  obtain rfl:=Ae h
  replace hS:=hS.nilarr 5 1 (fK .u8)
  exact ⟨_,rfl,_,_,rfl,St.pick [0] (by decide) hS⟩
 ·refine wK<|esr<|qo 1 1 [(24,.agg (p1.ax ad4 cap5 ad7 cap8))] hF (oN 48 1 0 21 hS.i rfl<|A1) fun a hF=>?_
  obtain ⟨a1,aN,h⟩:=A0 h
  refine SK.wi (qR (fun aF=>[(25,aF)]) hF (P2 F _ _ aN (B0 w) w (A4 w) (hA9.mono Rp87.mono (FrzAt.le_mem (hS.frz (i:=2) rfl hlow))) (a7.mono (FrzAt.le_mem (hS.frz (i:=2) rfl hlow)))) ?_)
  rintro aF w a ⟨a3,a5,rfl,hQ⟩ hF
  replace hS:=hS.madeL hQ
  refine rn 5 7 [(0,sv ad1 p0 cap2),(6,sv a9 a0.1 aB),(7,iv a0.2.1),(8,iv a1.2),(9,sv a3 a1.1 a5)] hF fun a hF=>wfn rfl ?_
  refine Am<|wpIn_block<|qnB [(28,.bool (a1.2 != 0))] hF fun a hF=>?_
  refine A8 hF h (fun hc h=>?_) fun hc h=>?_
  ·refine rnB [(4,.slice none 0 0),(5,iv a1.2)] hF fun a hF=>?_
   refine wpIn_ret (Ab<|A2<|A7 [.tmp 4,.tmp 5] [_,_] hF rfl ⟨rfl,rfl,trivial⟩ ?_)
   obtain rfl:=Ae h
   replace hS:=hS.nilarr 5 1 (fK .u8)
   exact ⟨_,rfl,_,_,rfl,St.pick [0] (by decide) hS⟩
  ·refine rnB [(0,sv ad1 p0 cap2),(7,iv a0.2.1),(9,sv a3 a1.1 a5),(32,.bool ((ln a0.1)==1000))] hF fun a hF=>?_
   refine A8 hF h (fun hc h=>?_) fun hc h=>?_
   ·refine rnB [(4,.slice none 0 0),(5,iv 13)] hF fun a hF=>?_
    refine wpIn_ret (Ab<|A2<|A7 [.tmp 4,.tmp 5] [_,_] hF rfl ⟨rfl,rfl,trivial⟩ ?_)
    obtain rfl:=Ae h
    replace hS:=hS.nilarr 5 1 (fK .u8)
    exact ⟨_,rfl,_,_,rfl,St.pick [0] (by decide) hS⟩
   ·refine esr ?_
    obtain ⟨aP,aL,h⟩:=A0 h
    refine qo 6 6 [(36,.bool (decide (aP>16777216)))] hF (oA 3 aL<|A1) fun a hF=>wfn rfl ?_
    refine A8 hF h (fun hc h=>?_) fun hc h=>?_
    ·refine rnB [(4,.slice none 0 0),(5,iv 8)] hF fun a hF=>?_
     refine wpIn_ret (Ab<|A2<|A7 [.tmp 4,.tmp 5] [_,_] hF rfl ⟨rfl,rfl,trivial⟩ ?_)
     obtain rfl:=Ae h
     replace hS:=hS.nilarr 5 1 (fK .u8)
     exact ⟨_,rfl,_,_,rfl,St.pick [0] (by decide) hS⟩
    ·refine wpIn_skip (A9<|A3<|?_)
     refine esr ?_
     obtain ⟨a8,aC,h⟩:=A0 h
     have aJ:ArrM ν14 1 (fK .u8) (Al ad1 cap2 (0:Int).toNat 1) (cap2-(0:Int).toNat) a8:=fun w_ hw_=>(hA3 w_ hw_).cutD (B8 .u8) aC
     refine qo 3 3 [(44,.slice (Al ad1 cap2 (0:Int).toNat 1) a8.length (cap2-(0:Int).toNat))] hF (oX (.run [] (Instr.sliceAt 22 (sv ad1 p0 cap2) none (some (iv a0.2.1)) none) (.slice (Al ad1 cap2 (0:Int).toNat 1) a8.length (cap2-(0:Int).toNat))) (Nl kr (hA3 _ (hS.frz (i:=3) rfl hlow)) (fun _=>aC))<|A1) fun a hF=>?_
     obtain ⟨aQ,aO,h⟩:=A0 h
     refine SK.wi (qR (fun aG=>[(45,aG)]) hF (P8 F _ _ aO (B0 w) w (A4 w) (aJ.mono (FrzAt.le_mem (hS.frz (i:=3) rfl hlow)))) ?_)
     rintro aG w a ⟨aH,aI,rfl,hQ⟩ hF
     replace hS:=hS.madeL hQ
     refine rn 1 5 [(45,sv aH aQ aI),(46,sv a3 a1.1 a5)] hF fun a hF=>?_
     obtain ⟨aD,aK,h⟩:=A0 h
     refine SK.wi (qP 22 22 0 (fun a4 a6=>[(47,sv a4 aD a6)]) hF hS (hS.arr (i:=1) rfl) aK rfl fun a4 a6 w a hF hS=>?_)
     refine rn 2 8 [(4,sv a4 aD a6),(5,iv 0)] hF fun a hF=>wfn rfl ?_
     refine wpIn_ret (A7 [.tmp 4,.tmp 5] [_,_] hF rfl ⟨rfl,rfl,trivial⟩ ?_)
     obtain rfl:=Ae h
     exact ⟨_,rfl,_,_,rfl,St.pick [0] (by decide) hS⟩
end Go.Proofs.YtifbomimeodibaaGreat
