import Derived.Test.YtifbomimeodibaaGreatV5XD
import Derived.Test.YtifbomimeodibaaGreatProg
import Derived.Test.YtifbomimeodibaaGreatV5XW0
import Derived.Test.YtifbomimeodibaaGreatV5XW2
import Derived.Test.YtifbomimeodibaaGreatV5XW17
import Derived.Test.YtifbomimeodibaaGreatV5XW19
namespace Go.Proofs.YtifbomimeodibaaGreat
open Go Go.RowKit Go.Eng
set_option maxRecDepth 10000
set_option maxHeartbeats 4000000
set_option linter.unusedVariables false
set_option linter.unusedSimpArgs false
theorem Nk (F:Nat) (res:Bool) (h:Ht F=some res) (μ:Frz) (w0:World) (hm:FrzAt μ w0):Calls Tryz.prog 8 #[] w0 (fun e w=>e=.returned (.bool res)∧Ext w0 w):=by
 obtain ⟨hlow,hS⟩:=hm.init
 have hext:=Frz.ext_refl w0.heap.size μ
 rw [Ht] at h
 refine feW Tryz.func8 175 [] hS fun a w hF hS=>?_
 refine rnB [] hF fun a hF=>?_
 refine esr<|rn 1 1 [(21,.agg #[iv 3,.string ByteArray.empty,iv 5,.string ByteArray.empty,iv 0,iv 0,iv 0,iv 0,iv 0,iv 0,iv 0,iv 0,iv 0,.slice none 0 0,iv 0,iv 0,iv 0,iv 0,iv 0,.slice none 0 0,.string (⟨#[97]⟩:ByteArray)])] hF fun a hF=>?_
 refine SK.wi (qA 48 z48 (fun b1=>[(1,pb b1)]) hF hS fun b1 w a hF hS=>?_)
 refine SK.wi (qw 48 0 #[iv 3,.string ByteArray.empty,iv 5,.string ByteArray.empty,iv 0,iv 0,iv 0,iv 0,iv 0,iv 0,iv 0,iv 0,iv 0,.slice none 0 0,iv 0,iv 0,iv 0,iv 0,iv 0,.slice none 0 0,.string (⟨#[97]⟩:ByteArray)] hF hS rfl fun w a hF hS=>wfn rfl ?_)
 refine esr<|qo 1 1 [(23,.agg #[iv 3,.string ByteArray.empty,iv 5,.string ByteArray.empty,iv 0,iv 0,iv 0,iv 0,iv 0,iv 0,iv 0,iv 0,iv 0,.slice none 0 0,iv 0,iv 0,iv 0,iv 0,iv 0,.slice none 0 0,.string (⟨#[97]⟩:ByteArray)])] hF (oN 48 0 0 21 hS.i rfl<|A1) fun a hF=>?_
 obtain ⟨y3,hy3,h⟩:=A0 h
 refine SK.wi (qR (fun v2=>[(24,v2)]) hF (P2 F _ _ hy3 (B0 w) w (A4 w) ArrQ.nil ArrM.nil) ?_)
 rintro v2 w a ⟨ad4,cap5,rfl,hQ⟩ hF
 replace hS:=hS.madeL hQ
 refine qn 5 7 [(2,sv ad4 y3.1 cap5),(3,iv y3.2)] hF fun a hF=>wfn rfl ?_
 refine esr<|qo 1 1 [(28,.agg #[iv 3,.string ByteArray.empty,iv 5,.string ByteArray.empty,iv 0,iv 0,iv 0,iv 0,iv 0,iv 0,iv 0,iv 0,iv 0,.slice none 0 0,iv 0,iv 0,iv 0,iv 0,iv 0,.slice none 0 0,.string (⟨#[97]⟩:ByteArray)])] hF (oN 48 1 0 21 hS.i rfl<|A1) fun a hF=>?_
 have hq7:All2 (Rp48 μ) ([[iv 3,.string ByteArray.empty,iv 5,.string ByteArray.empty,iv 0,iv 0,iv 0,iv 0,iv 0,iv 0,iv 0,iv 0,iv 0,.slice none 0 0,iv 0,iv 0,iv 0,iv 0,iv 0,.slice none 0 0,.string (⟨#[97]⟩:ByteArray)]]:List (List Value)) [(volume_Item.mk 3 ByteArray.empty 5 (api_Sweep.mk (api_Site.mk ByteArray.empty 0 0 0 0 0 0 0) 0 0 ([]:(List (List api_Echo)))) (api_Field.mk (api_Grid.mk 0 0 0 0 0) ([]:(List api_Span))) (⟨#[97]⟩:ByteArray))]:=(All2.cons ⟨none,0,[],none,0,rfl,ArrQ.nil,ArrM.nil⟩ All2.nil)
 refine SK.wi (Qn (e:=48) (sz:=21) (f:=fN 21) (t:=24) (len:=1) (fun b6=>[(1,pb b1),(2,sv ad4 y3.1 cap5),(3,iv y3.2),(29,sb b6 1)]) #[(0,.agg #[iv 3,.string ByteArray.empty,iv 5,.string ByteArray.empty,iv 0,iv 0,iv 0,iv 0,iv 0,iv 0,iv 0,iv 0,iv 0,.slice none 0 0,iv 0,iv 0,iv 0,iv 0,iv 0,.slice none 0 0,.string (⟨#[97]⟩:ByteArray)])] #[iv 3,.string ByteArray.empty,iv 5,.string ByteArray.empty,iv 0,iv 0,iv 0,iv 0,iv 0,iv 0,iv 0,iv 0,iv 0,.slice none 0 0,iv 0,iv 0,iv 0,iv 0,iv 0,.slice none 0 0,.string (⟨#[97]⟩:ByteArray)] ([[iv 3,.string ByteArray.empty,iv 5,.string ByteArray.empty,iv 0,iv 0,iv 0,iv 0,iv 0,iv 0,iv 0,iv 0,iv 0,.slice none 0 0,iv 0,iv 0,iv 0,iv 0,iv 0,.slice none 0 0,.string (⟨#[97]⟩:ByteArray)]]:List (List Value)) ([(volume_Item.mk 3 ByteArray.empty 5 (api_Sweep.mk (api_Site.mk ByteArray.empty 0 0 0 0 0 0 0) 0 0 ([]:(List (List api_Echo)))) (api_Field.mk (api_Grid.mk 0 0 0 0 0) ([]:(List api_Span))) (⟨#[97]⟩:ByteArray))]) hF hS kr ⟨kr⟩ kr (Dg 21) rfl rfl rfl kr (fun _=>⟨kr⟩) fun b6 w a hF hS=>?_)
 obtain ⟨y9,hy9,h⟩:=A0 h
 refine SK.wi (rR (fun v8=>[(1,pb b1),(2,sv ad4 y3.1 cap5),(3,iv y3.2),(30,v8)]) hF (Uk F _ _ hy9 (B0 w) w (A4 w) (ArrQ.of_own (hS.arr (i:=0) rfl) hq7 Rp48.mono (FrzAt.le_mem (hS.frz (i:=3) rfl hlow)))) ?_)
 rintro v8 w a ⟨a6,a8,rfl,hQ⟩ hF
 replace hS:=hS.madeL hQ
 refine qn 5 8 [(4,sv a6 y9.1 a8),(5,iv y9.2)] hF fun a hF=>wfn rfl ?_
 refine esr<|qn 1 1 [(34,sv a6 y9.1 a8)] hF fun a hF=>?_
 have cT:=hq7
 have cU:=hext
 have cV:=hlow
 obtain ⟨ν15,bU,hlow,hS,cA,hft18⟩:=hS.freezeT (i:=4) (j:=0) rfl rfl (by decide) hlow
 replace hq7:=All2.mono Rp48.mono bU.1 hq7
 replace hext:=hext.t bU
 replace hS:St w0 [arr 48 21 (fN 21) (some ⟨b6,0,none⟩) ([(volume_Item.mk 3 ByteArray.empty 5 (api_Sweep.mk (api_Site.mk ByteArray.empty 0 0 0 0 0 0 0) 0 0 ([]:(List (List api_Echo)))) (api_Field.mk (api_Grid.mk 0 0 0 0 0) ([]:(List api_Span))) (⟨#[97]⟩:ByteArray))]).length 1 ([[iv 3,.string ByteArray.empty,iv 5,.string ByteArray.empty,iv 0,iv 0,iv 0,iv 0,iv 0,iv 0,iv 0,iv 0,iv 0,.slice none 0 0,iv 0,iv 0,iv 0,iv 0,iv 0,.slice none 0 0,.string (⟨#[97]⟩:ByteArray)]]:List (List Value)),arr 5 1 (fK .u8) ad4 y3.1.length cap5 y3.1,blk b1 48 #[iv 3,.string ByteArray.empty,iv 5,.string ByteArray.empty,iv 0,iv 0,iv 0,iv 0,iv 0,iv 0,iv 0,iv 0,iv 0,.slice none 0 0,iv 0,iv 0,iv 0,iv 0,iv 0,.slice none 0 0,.string (⟨#[97]⟩:ByteArray)],fz w0 ν15] w:=hS
 have bT:=Frz.le_refl ν15
 have b3:=ArrM.of_arrT cA
 obtain ⟨a3,d2,h⟩:=A0 h
 refine SK.wi (qR (fun cE=>[(35,cE)]) hF (Hr F _ _ d2 ν15 w (hS.frz (i:=3) rfl hlow) b3) ?_)
 rintro cE w a ⟨ν23,a5,a7,aR,bD,rfl,cS,hQ⟩ hF
 replace hext:=hext.t (Frz.ext_mono bD hS.ext.size)
 obtain ⟨hlow,hS⟩:=hS.frzMerge (i:=3) rfl hlow bD hQ
 replace hq7:=All2.mono Rp48.mono bD.1 hq7
 replace b3:=b3.mono bD.1
 replace bT:=bT.t bD.1
 refine qn 7 9 [(6,sv a5 a3.1 a7),(7,iv a3.2.1),(8,iv a3.2.2)] hF fun a hF=>wfn rfl ?_
 refine Am<|Am<|Bq 44 [12,13,18,19,21,22,41] _ (D:=fun w=>St w0 [arr 48 21 (fN 21) a5 a3.1.length a7 aR,arr 48 21 (fN 21) (some ⟨b6,0,none⟩) ([(volume_Item.mk 3 ByteArray.empty 5 (api_Sweep.mk (api_Site.mk ByteArray.empty 0 0 0 0 0 0 0) 0 0 ([]:(List (List api_Echo)))) (api_Field.mk (api_Grid.mk 0 0 0 0 0) ([]:(List api_Span))) (⟨#[97]⟩:ByteArray))]).length 1 ([[iv 3,.string ByteArray.empty,iv 5,.string ByteArray.empty,iv 0,iv 0,iv 0,iv 0,iv 0,iv 0,iv 0,iv 0,iv 0,.slice none 0 0,iv 0,iv 0,iv 0,iv 0,iv 0,.slice none 0 0,.string (⟨#[97]⟩:ByteArray)]]:List (List Value)),arr 5 1 (fK .u8) ad4 y3.1.length cap5 y3.1,blk b1 48 #[iv 3,.string ByteArray.empty,iv 5,.string ByteArray.empty,iv 0,iv 0,iv 0,iv 0,iv 0,iv 0,iv 0,iv 0,iv 0,.slice none 0 0,iv 0,iv 0,iv 0,iv 0,iv 0,.slice none 0 0,.string (⟨#[97]⟩:ByteArray)]] w∧FrzAt ν23 w) kr kr hF.size (fun w hx=>?_) (fun _ _ h=>h)
 replace hS:=hS.later hx
 refine ⟨⟨St.pick [0,1,2,3] (by decide) hS,hS.frz (i:=4) rfl hlow⟩,?_⟩
 have dR:=Frz.le_refl ν23
 refine WT.s [0,1,2,3,4,5,6,7,8,9,10,11] [12] kr kr ?_
 refine rC 11 [(1,pb b1),(2,sv ad4 y3.1 cap5),(4,sv a6 y9.1 a8),(6,sv a5 a3.1 a7),(7,iv a3.2.1),(49,.bool (bif (bif (y3.2 != 0) then true else (y9.2 != 0)) then true else (a3.2.2 != 0)))] hF A1 fun a hF=>?_
 rcases Bool.eq_false_or_eq_true ((bif (bif (y3.2 != 0) then true else (y9.2 != 0)) then true else (a3.2.2 != 0))) with b9|b9
 ·replace h:=Gx h b9
  rw [b9] at hF
  refine qkW [(49,.bool true),(50,undef)] hF fun a hF=>?_
  refine WRun.fin ?_
  refine all_cons ?_ Aq
  refine qkS [(51,undef)] hF fun a hF=>?_
  refine ⟨⟨St.pick [0,1,2,3] (by decide) hS,(hS.frz (i:=4) rfl hlow)⟩,?_⟩
  refine WT.s [] [13] kr kr ?_
  refine WRun.fin ?_
  refine all_cons ?_ Aq
  refine qkS [(52,undef)] hF fun a hF=>?_
  refine ⟨⟨St.pick [0,1,2,3] (by decide) hS,(hS.frz (i:=4) rfl hlow)⟩,?_⟩
  refine WT.s [14,15,16,17,20] [18] kr kr ?_
  refine qkW [(53,undef)] hF fun a hF=>?_
  refine qC 2 [(55,.bool true)] hF A1 fun a hF=>?_
  refine qkW [(56,undef)] hF fun a hF=>?_
  refine qkW [(59,undef)] hF fun a hF=>?_
  refine WRun.fin ?_
  refine all_cons ?_ Aq
  refine qkS [(57,undef)] hF fun a hF=>?_
  refine ⟨⟨St.pick [0,1,2,3] (by decide) hS,(hS.frz (i:=4) rfl hlow)⟩,?_⟩
  refine WT.s [] [19] kr kr ?_
  refine WRun.fin ?_
  refine all_cons ?_ Aq
  refine qkS [(58,undef)] hF fun a hF=>?_
  refine ⟨⟨St.pick [0,1,2,3] (by decide) hS,(hS.frz (i:=4) rfl hlow)⟩,?_⟩
  refine WT.s [] [21] kr kr ?_
  refine WRun.fin ?_
  refine all_cons ?_ Aq
  refine qkS [(60,undef)] hF fun a hF=>?_
  refine ⟨⟨St.pick [0,1,2,3] (by decide) hS,(hS.frz (i:=4) rfl hlow)⟩,?_⟩
  refine WT.s [] [22] kr kr ?_
  refine WRun.fin ?_
  refine all_cons ?_ Aq
  refine qkS [(61,undef)] hF fun a hF=>?_
  refine ⟨⟨St.pick [0,1,2,3] (by decide) hS,(hS.frz (i:=4) rfl hlow)⟩,?_⟩
  refine WT.s [23,24,25,26,27,28,29,30,31,32,33,34,35,36,37,38,39,40] [41] kr kr ?_
  refine qkW [(62,undef)] hF fun a hF=>?_
  refine qC 13 [(75,.bool true)] hF A1 fun a hF=>?_
  refine qkW [(76,undef)] hF fun a hF=>?_
  refine qkW [(77,undef)] hF fun a hF=>?_
  refine qkW [(78,undef)] hF fun a hF=>?_
  refine qkW [(79,undef)] hF fun a hF=>?_
  refine WRun.fin ?_
  refine all_cons ?_ Aq
  refine qkS [(80,undef)] hF fun a hF=>?_
  refine ⟨⟨St.pick [0,1,2,3] (by decide) hS,(hS.frz (i:=4) rfl hlow)⟩,?_⟩
  refine WT.z [42,43] kr ?_
  refine qkW [(81,undef)] hF fun a hF=>?_
  refine qC 1 [(82,.bool true)] hF A1 fun a hF=>?_
  refine WRun.fin ?_
  refine wfn rfl ?_
  refine wpIn_cond_true (hF.get rfl) ?_
  refine rnB [(0,.bool false)] hF fun a hF=>?_
  refine wpIn_ret (A2<|A7 [.tmp 0] [_] hF rfl ⟨rfl,trivial⟩ ?_)
  obtain rfl:=Ae h
  exact ⟨rfl,hS.ext⟩
 ·replace h:=Gw h b9
  rw [b9] at hF
  refine Y0 (rest:=[]) (obs:=[]) [11] [(1,⟨[],pb b1⟩),(2,⟨[],sv ad4 y3.1 cap5⟩),(4,⟨[],sv a6 y9.1 a8⟩),(6,⟨[],sv a5 a3.1 a7⟩),(7,⟨[],iv a3.2.1⟩),(49,⟨[],.bool false⟩),(50,⟨[⟨49,false,false⟩],sv ad4 y3.1 cap5⟩)] hF kr kr A1 ⟨kr⟩ kr fun a hF=>?_
  replace hF:Fr 175 [] [(1,pb b1),(2,sv ad4 y3.1 cap5),(4,sv a6 y9.1 a8),(6,sv a5 a3.1 a7),(7,iv a3.2.1),(49,.bool false),(50,sv ad4 y3.1 cap5)] a:=hF
  refine WRun.fin ?_
  refine all_cons ?_ Aq
  refine qL 5 22 11 [0,5,4,6,2,97,183,135,165,144,1] (fun aN=>[(51,sb aN 11)]) (B8 .u8) hF hS fun aN w a hF hS=>⟨⟨St.pick [1,2,3,4] (by decide) hS,(hS.frz (i:=5) rfl hlow)⟩,?_⟩
  refine WT.s [] [13] kr kr ?_
  refine WRun.fin ?_
  refine all_cons ?_ Aq
  obtain ⟨bV,d3,h⟩:=A0 h
  refine Xf [(1,pb b1),(2,sv ad4 y3.1 cap5),(4,sv a6 y9.1 a8),(6,sv a5 a3.1 a7),(7,iv a3.2.1),(49,.bool false),(52,.bool bV)] hF kr ⟨kr⟩ (Nc F _ _ _ d3 (B0 w) w (A4 w) (Arr.toM (hS.arr (i:=3) rfl)) (Arr.toM (hS.arr (i:=0) rfl))) ⟨kr⟩ ?_
  intro w a hx hF
  replace hS:=hS.later hx
  refine ⟨⟨St.pick [1,2,3,4] (by decide) hS,(hS.frz (i:=5) rfl hlow)⟩,?_⟩
  refine WT.s [14,15,16,17,20] [18] kr kr ?_
  refine rC 3 [(1,pb b1),(2,sv ad4 y3.1 cap5),(4,sv a6 y9.1 a8),(6,sv a5 a3.1 a7),(7,iv a3.2.1),(55,.bool (!bV))] hF A1 fun a hF=>?_
  rcases Bool.eq_false_or_eq_true ((!bV)) with bA|bA
  ·replace h:=Gx h bA
   rw [bA] at hF
   refine qkW [(55,.bool true),(56,undef)] hF fun a hF=>?_
   refine qkW [(59,undef)] hF fun a hF=>?_
   refine WRun.fin ?_
   refine all_cons ?_ Aq
   refine qkS [(57,undef)] hF fun a hF=>?_
   refine ⟨⟨St.pick [1,2,3,4] (by decide) hS,(hS.frz (i:=5) rfl hlow)⟩,?_⟩
   refine WT.s [] [19] kr kr ?_
   refine WRun.fin ?_
   refine all_cons ?_ Aq
   refine qkS [(58,undef)] hF fun a hF=>?_
   refine ⟨⟨St.pick [1,2,3,4] (by decide) hS,(hS.frz (i:=5) rfl hlow)⟩,?_⟩
   refine WT.s [] [21] kr kr ?_
   refine WRun.fin ?_
   refine all_cons ?_ Aq
   refine qkS [(60,undef)] hF fun a hF=>?_
   refine ⟨⟨St.pick [1,2,3,4] (by decide) hS,(hS.frz (i:=5) rfl hlow)⟩,?_⟩
   refine WT.s [] [22] kr kr ?_
   refine WRun.fin ?_
   refine all_cons ?_ Aq
   refine qkS [(61,undef)] hF fun a hF=>?_
   refine ⟨⟨St.pick [1,2,3,4] (by decide) hS,(hS.frz (i:=5) rfl hlow)⟩,?_⟩
   refine WT.s [23,24,25,26,27,28,29,30,31,32,33,34,35,36,37,38,39,40] [41] kr kr ?_
   refine qkW [(62,undef)] hF fun a hF=>?_
   refine qC 13 [(75,.bool true)] hF A1 fun a hF=>?_
   refine qkW [(76,undef)] hF fun a hF=>?_
   refine qkW [(77,undef)] hF fun a hF=>?_
   refine qkW [(78,undef)] hF fun a hF=>?_
   refine qkW [(79,undef)] hF fun a hF=>?_
   refine WRun.fin ?_
   refine all_cons ?_ Aq
   refine qkS [(80,undef)] hF fun a hF=>?_
   refine ⟨⟨St.pick [1,2,3,4] (by decide) hS,(hS.frz (i:=5) rfl hlow)⟩,?_⟩
   refine WT.z [42,43] kr ?_
   refine qkW [(81,undef)] hF fun a hF=>?_
   refine qC 1 [(82,.bool true)] hF A1 fun a hF=>?_
   refine WRun.fin ?_
   refine wfn rfl ?_
   refine wpIn_cond_true (hF.get rfl) ?_
   refine rnB [(0,.bool false)] hF fun a hF=>?_
   refine wpIn_ret (A2<|A7 [.tmp 0] [_] hF rfl ⟨rfl,trivial⟩ ?_)
   obtain rfl:=Ae h
   exact ⟨rfl,hS.ext⟩
  ·replace h:=Gw h bA
   rw [bA] at hF
   refine Y0 (rest:=[]) (obs:=[]) [17,20] [(1,⟨[],pb b1⟩),(2,⟨[],sv ad4 y3.1 cap5⟩),(4,⟨[],sv a6 y9.1 a8⟩),(6,⟨[],sv a5 a3.1 a7⟩),(7,⟨[],iv a3.2.1⟩),(55,⟨[],.bool false⟩),(56,⟨[⟨55,false,false⟩],sv a6 y9.1 a8⟩),(59,⟨[⟨55,false,false⟩],sv ad4 y3.1 cap5⟩)] hF kr kr A1 ⟨kr⟩ kr fun a hF=>?_
   replace hF:Fr 175 [] [(1,pb b1),(2,sv ad4 y3.1 cap5),(4,sv a6 y9.1 a8),(6,sv a5 a3.1 a7),(7,iv a3.2.1),(55,.bool false),(56,sv a6 y9.1 a8),(59,sv ad4 y3.1 cap5)] a:=hF
   refine WRun.fin ?_
   refine all_cons ?_ Aq
   refine qL 5 22 4 [82,86,70,49] (fun bL=>[(57,sb bL 4)]) (B8 .u8) hF hS fun bL w a hF hS=>⟨⟨St.pick [2,3,4,5] (by decide) hS,(hS.frz (i:=6) rfl hlow)⟩,?_⟩
   refine WT.s [] [19] kr kr ?_
   refine WRun.fin ?_
   refine all_cons ?_ Aq
   replace hS:St w0 [arrT 5 1 (fK .u8) (some ⟨bL,0,none⟩) ([82,86,70,49]).length 4 ([82,86,70,49]),arr 5 1 (fK .u8) (some ⟨aN,0,none⟩) ([0,5,4,6,2,97,183,135,165,144,1]).length 11 ([0,5,4,6,2,97,183,135,165,144,1]),arr 48 21 (fN 21) a5 a3.1.length a7 aR,arr 48 21 (fN 21) (some ⟨b6,0,none⟩) ([(volume_Item.mk 3 ByteArray.empty 5 (api_Sweep.mk (api_Site.mk ByteArray.empty 0 0 0 0 0 0 0) 0 0 ([]:(List (List api_Echo)))) (api_Field.mk (api_Grid.mk 0 0 0 0 0) ([]:(List api_Span))) (⟨#[97]⟩:ByteArray))]).length 1 ([[iv 3,.string ByteArray.empty,iv 5,.string ByteArray.empty,iv 0,iv 0,iv 0,iv 0,iv 0,iv 0,iv 0,iv 0,iv 0,.slice none 0 0,iv 0,iv 0,iv 0,iv 0,iv 0,.slice none 0 0,.string (⟨#[97]⟩:ByteArray)]]:List (List Value)),arr 5 1 (fK .u8) ad4 y3.1.length cap5 y3.1,blk b1 48 #[iv 3,.string ByteArray.empty,iv 5,.string ByteArray.empty,iv 0,iv 0,iv 0,iv 0,iv 0,iv 0,iv 0,iv 0,iv 0,.slice none 0 0,iv 0,iv 0,iv 0,iv 0,iv 0,.slice none 0 0,.string (⟨#[97]⟩:ByteArray)],fz w0 ν23] w:=St.toT hS
   refine Sa (src:=22) [(1,pb b1),(2,sv ad4 y3.1 cap5),(4,sv a6 y9.1 a8),(6,sv a5 a3.1 a7),(7,iv a3.2.1),(55,.bool false),(56,sv a6 y9.1 a8),(58,sb bL 4),(59,sv ad4 y3.1 cap5)] 0 hF hS rfl (by decide) kr ⟨kr⟩ kr ⟨kr⟩ fun w a hF hS=>⟨⟨St.pick [2,3,4,5] (by decide) hS,(hS.frz (i:=6) rfl hlow)⟩,?_⟩
   refine WT.s [] [21] kr kr ?_
   refine WRun.fin ?_
   refine all_cons ?_ Aq
   obtain ⟨aD,cP,h⟩:=A0 h
   refine Ux (t:=22) (ty:=22) (bytes:=1) (l:=([82,86,70,49])) (l':=y3.1) (fun aP aQ=>[(1,pb b1),(2,sv ad4 y3.1 cap5),(4,sv a6 y9.1 a8),(6,sv a5 a3.1 a7),(7,iv a3.2.1),(55,.bool false),(56,sv a6 y9.1 a8),(60,sv aP aD aQ)]) 0 hF hS rfl kr ⟨kr⟩ kr (hS.arr (i:=4) rfl) (fun _ _=>rfl) cP (fun _ _=>⟨kr⟩) fun aP aQ w a hF hS=>⟨⟨St.pick [2,3,4,5] (by decide) hS,(hS.frz (i:=6) rfl hlow)⟩,?_⟩
   refine WT.s [] [22] kr kr ?_
   refine WRun.fin ?_
   refine all_cons ?_ Aq
   obtain ⟨bW,d4,h⟩:=A0 h
   refine Xf [(1,pb b1),(2,sv ad4 y3.1 cap5),(4,sv a6 y9.1 a8),(6,sv a5 a3.1 a7),(7,iv a3.2.1),(55,.bool false),(61,.bool bW)] hF kr ⟨kr⟩ (Nc F _ _ _ d4 (B0 w) w (A4 w) (b3.mono (FrzAt.le_mem (hS.frz (i:=6) rfl hlow))) (Arr.toM (hS.arrT_ (i:=0) rfl))) ⟨kr⟩ ?_
   intro w a hx hF
   replace hS:=hS.later hx
   refine ⟨⟨St.pick [2,3,4,5] (by decide) hS,(hS.frz (i:=6) rfl hlow)⟩,?_⟩
   refine WT.s [23,24,25,26,27,28,29,30,31,32,33,34,35,36,37,38,39,40] [41] kr kr ?_
   refine rC 14 [(1,pb b1),(2,sv ad4 y3.1 cap5),(4,sv a6 y9.1 a8),(6,sv a5 a3.1 a7),(75,.bool (bif (bif (!bW) then true else (a3.2.1 != (ln y9.1))) then true else ((ln a3.1) != 1)))] hF A1 fun a hF=>?_
   rcases Bool.eq_false_or_eq_true ((bif (bif (!bW) then true else (a3.2.1 != (ln y9.1))) then true else ((ln a3.1) != 1))) with bB|bB
   ·replace h:=Gx h bB
    rw [bB] at hF
    refine qkW [(75,.bool true),(76,undef)] hF fun a hF=>?_
    refine qkW [(77,undef)] hF fun a hF=>?_
    refine qkW [(78,undef)] hF fun a hF=>?_
    refine qkW [(79,undef)] hF fun a hF=>?_
    refine WRun.fin ?_
    refine all_cons ?_ Aq
    refine qkS [(80,undef)] hF fun a hF=>?_
    refine ⟨⟨St.pick [2,3,4,5] (by decide) hS,(hS.frz (i:=6) rfl hlow)⟩,?_⟩
    refine WT.z [42,43] kr ?_
    refine qkW [(81,undef)] hF fun a hF=>?_
    refine qC 1 [(82,.bool true)] hF A1 fun a hF=>?_
    refine WRun.fin ?_
    refine wfn rfl ?_
    refine wpIn_cond_true (hF.get rfl) ?_
    refine rnB [(0,.bool false)] hF fun a hF=>?_
    refine wpIn_ret (A2<|A7 [.tmp 0] [_] hF rfl ⟨rfl,trivial⟩ ?_)
    obtain rfl:=Ae h
    exact ⟨rfl,hS.ext⟩
   ·replace h:=Gw h bB
    rw [bB] at hF
    obtain ⟨a9,cX,h⟩:=A0 h
    obtain ⟨dN,c5,cN⟩:=Cw cS cX
    obtain ⟨bI,bP,dQ,bJ,bQ,rfl,cK,cL⟩:=cN
    refine Y0 (rest:=[]) (obs:=[.run [⟨75,false,false⟩] (Instr.indexAt 24 (sv a5 a3.1 a7) (iv 0)) (.pointer (some (Bl a5 0 21))),.run [⟨75,false,false⟩] (Instr.loadAt 48 (.pointer (some (Bl a5 0 21)))) (.agg (a9.ax bI bP bJ bQ)),.run [⟨75,false,false⟩] (Instr.loadAt 48 (pb b1)) (.agg #[iv 3,.string ByteArray.empty,iv 5,.string ByteArray.empty,iv 0,iv 0,iv 0,iv 0,iv 0,iv 0,iv 0,iv 0,iv 0,.slice none 0 0,iv 0,iv 0,iv 0,iv 0,iv 0,.slice none 0 0,.string (⟨#[97]⟩:ByteArray)])]) [37,38,39,40] [(1,⟨[],pb b1⟩),(2,⟨[],sv ad4 y3.1 cap5⟩),(4,⟨[],sv a6 y9.1 a8⟩),(75,⟨[],.bool false⟩),(78,⟨[⟨75,false,false⟩],.agg (a9.ax bI bP bJ bQ)⟩),(79,⟨[⟨75,false,false⟩],.agg #[iv 3,.string ByteArray.empty,iv 5,.string ByteArray.empty,iv 0,iv 0,iv 0,iv 0,iv 0,iv 0,iv 0,iv 0,iv 0,.slice none 0 0,iv 0,iv 0,iv 0,iv 0,iv 0,.slice none 0 0,.string (⟨#[97]⟩:ByteArray)]⟩)] hF kr kr (Gq (J0 (hS.arr (i:=2) rfl) kr (fun _=>c5)) (Gq (Tv (m:=21) (i:=0) (us:=[iv a9.Kind,.string a9.Name,iv a9.Time,.string a9.Sweep.Site.Name,iv a9.Sweep.Site.X,iv a9.Sweep.Site.Y,iv a9.Sweep.Site.Z,iv a9.Sweep.Site.Rose,iv a9.Sweep.Site.Gates,iv a9.Sweep.Site.Step,iv a9.Sweep.Site.Width,iv a9.Sweep.Tilt,iv a9.Sweep.Time,sv bI a9.Sweep.Rays bP,iv a9.Field.Grid.X,iv a9.Field.Grid.Y,iv a9.Field.Grid.Size,iv a9.Field.Grid.Wide,iv a9.Field.Grid.High,sv bJ a9.Field.Vals bQ,.string a9.Text]) 0 (Dg 21) (fun _ hd=>(hd.1.arr (i:=0) rfl)) kr (fun _=>c5) ⟨rfl,rfl⟩) (Gq (obN (us:=[iv 3,.string ByteArray.empty,iv 5,.string ByteArray.empty,iv 0,iv 0,iv 0,iv 0,iv 0,iv 0,iv 0,iv 0,iv 0,.slice none 0 0,iv 0,iv 0,iv 0,iv 0,iv 0,.slice none 0 0,.string (⟨#[97]⟩:ByteArray)]) kr (fun _ hd=>(hd.1.blk (i:=3) rfl).cells rfl)) A1))) ⟨kr⟩ kr fun a hF=>?_
    replace hF:Fr 175 [] [(1,pb b1),(2,sv ad4 y3.1 cap5),(4,sv a6 y9.1 a8),(75,.bool false),(78,.agg (a9.ax bI bP bJ bQ)),(79,.agg #[iv 3,.string ByteArray.empty,iv 5,.string ByteArray.empty,iv 0,iv 0,iv 0,iv 0,iv 0,iv 0,iv 0,iv 0,iv 0,.slice none 0 0,iv 0,iv 0,iv 0,iv 0,iv 0,.slice none 0 0,.string (⟨#[97]⟩:ByteArray)])] a:=hF
    refine WRun.fin ?_
    refine all_cons ?_ Aq
    obtain ⟨cH,d5,h⟩:=A0 h
    refine Xf [(1,pb b1),(2,sv ad4 y3.1 cap5),(4,sv a6 y9.1 a8),(75,.bool false),(80,.bool cH)] hF kr ⟨kr⟩ (S1 F _ _ _ d5 (B0 w) w (A4 w) (cK.mono Rp87.mono (FrzAt.le_mem (hS.frz (i:=6) rfl hlow))) (cL.mono (FrzAt.le_mem (hS.frz (i:=6) rfl hlow))) ArrQ.nil ArrM.nil) ⟨kr⟩ ?_
    intro w a hx hF
    replace hS:=hS.later hx
    refine ⟨⟨St.pick [2,3,4,5] (by decide) hS,(hS.frz (i:=6) rfl hlow)⟩,?_⟩
    refine WT.z [42,43] kr ?_
    refine rC 2 [(1,pb b1),(2,sv ad4 y3.1 cap5),(4,sv a6 y9.1 a8),(82,.bool (!cH))] hF A1 fun a hF=>?_
    refine WRun.fin ?_
    refine wfn rfl ?_
    refine A8 hF h (fun hc h=>?_) fun hc h=>?_
    ·refine rnB [(0,.bool false)] hF fun a hF=>?_
     refine wpIn_ret (A2<|A7 [.tmp 0] [_] hF rfl ⟨rfl,trivial⟩ ?_)
     obtain rfl:=Ae h
     exact ⟨rfl,hS.ext⟩
    ·refine wK<|esr ?_
     obtain ⟨bG,c7,h⟩:=A0 h
     obtain ⟨dG,c8,h⟩:=A0 h
     refine qo 5 5 [(86,.int .u8 (IntKind.u8.wrap (bG+1))),(87,.pointer (some (Bl a6 8 1)))] hF (oI 22 (b3 _ (hS.frz (i:=6) rfl hlow)) c7<|oE 5 0 (B8 .u8) (fun _ hd=>(b3 _ ((hS.at_ hd).frz (i:=6) rfl hlow))) c7 rfl<|oX (.run [] (binOp .add 5 (.int .u8 bG) (.int .u8 1)) (.int .u8 (IntKind.u8.wrap (bG+1)))) (obW kr)<|oI 22 (b3 _ (hS.frz (i:=6) rfl hlow)) c8<|A1) fun a hF=>?_
     replace hS:=hS.s6
     replace hS:=St.thaw hS hlow bT bU.1 cA hft18
     replace hq7:=cT
     replace hext:=cU
     replace hlow:=cV
     replace hS:St w0 [arrT 5 1 (fK .u8) a6 y9.1.length a8 y9.1,fz w0 μ,arrT 5 1 (fK .u8) aP aD.length aQ aD,arr 5 1 (fK .u8) (some ⟨aN,0,none⟩) ([0,5,4,6,2,97,183,135,165,144,1]).length 11 ([0,5,4,6,2,97,183,135,165,144,1]),arr 48 21 (fN 21) a5 a3.1.length a7 aR,arr 48 21 (fN 21) (some ⟨b6,0,none⟩) ([(volume_Item.mk 3 ByteArray.empty 5 (api_Sweep.mk (api_Site.mk ByteArray.empty 0 0 0 0 0 0 0) 0 0 ([]:(List (List api_Echo)))) (api_Field.mk (api_Grid.mk 0 0 0 0 0) ([]:(List api_Span))) (⟨#[97]⟩:ByteArray))]).length 1 ([[iv 3,.string ByteArray.empty,iv 5,.string ByteArray.empty,iv 0,iv 0,iv 0,iv 0,iv 0,iv 0,iv 0,iv 0,iv 0,.slice none 0 0,iv 0,iv 0,iv 0,iv 0,iv 0,.slice none 0 0,.string (⟨#[97]⟩:ByteArray)]]:List (List Value)),arr 5 1 (fK .u8) ad4 y3.1.length cap5 y3.1,blk b1 48 #[iv 3,.string ByteArray.empty,iv 5,.string ByteArray.empty,iv 0,iv 0,iv 0,iv 0,iv 0,iv 0,iv 0,iv 0,iv 0,.slice none 0 0,iv 0,iv 0,iv 0,iv 0,iv 0,.slice none 0 0,.string (⟨#[97]⟩:ByteArray)]] w:=hS
     obtain ⟨dE,cQ,h⟩:=A0 h
     refine SK.wi (A6i (j:=8) (t:=5) [(1,pb b1),(2,sv ad4 y3.1 cap5),(4,sv a6 y9.1 a8)] 0 0 dG (IntKind.u8.wrap (bG+1)) (.int .u8 (IntKind.u8.wrap (bG+1))) hF hS rfl kr ⟨kr⟩ (B8 .u8) c8 rfl kr kr kr cQ ⟨kr⟩ fun w a hF hl hS=>?_)
     simp only [sv,ln,hl] at hF hS
     refine wfn rfl ?_
     refine esr<|rn 1 1 [(1,pb b1),(2,sv ad4 y3.1 cap5),(89,sv a6 dE a8)] hF fun a hF=>?_
     have eP:=hq7
     have eQ:=hext
     have eR:=hlow
     obtain ⟨ν61,c9,hlow,hS,dB,hft64⟩:=hS.freezeT (i:=1) (j:=0) rfl rfl (by decide) hlow
     replace hq7:=All2.mono Rp48.mono c9.1 hq7
     replace hext:=hext.t c9
     replace hS:St w0 [fz w0 ν61,arrT 5 1 (fK .u8) aP aD.length aQ aD,arr 5 1 (fK .u8) (some ⟨aN,0,none⟩) ([0,5,4,6,2,97,183,135,165,144,1]).length 11 ([0,5,4,6,2,97,183,135,165,144,1]),arr 48 21 (fN 21) a5 a3.1.length a7 aR,arr 48 21 (fN 21) (some ⟨b6,0,none⟩) ([(volume_Item.mk 3 ByteArray.empty 5 (api_Sweep.mk (api_Site.mk ByteArray.empty 0 0 0 0 0 0 0) 0 0 ([]:(List (List api_Echo)))) (api_Field.mk (api_Grid.mk 0 0 0 0 0) ([]:(List api_Span))) (⟨#[97]⟩:ByteArray))]).length 1 ([[iv 3,.string ByteArray.empty,iv 5,.string ByteArray.empty,iv 0,iv 0,iv 0,iv 0,iv 0,iv 0,iv 0,iv 0,iv 0,.slice none 0 0,iv 0,iv 0,iv 0,iv 0,iv 0,.slice none 0 0,.string (⟨#[97]⟩:ByteArray)]]:List (List Value)),arr 5 1 (fK .u8) ad4 y3.1.length cap5 y3.1,blk b1 48 #[iv 3,.string ByteArray.empty,iv 5,.string ByteArray.empty,iv 0,iv 0,iv 0,iv 0,iv 0,iv 0,iv 0,iv 0,iv 0,.slice none 0 0,iv 0,iv 0,iv 0,iv 0,iv 0,.slice none 0 0,.string (⟨#[97]⟩:ByteArray)]] w:=hS
     have aC:=Frz.le_refl ν61
     have aA:=ArrM.of_arrT dB
     obtain ⟨a1,d6,h⟩:=A0 h
     refine SK.wi (qR (fun cF=>[(90,cF)]) hF (Hr F _ _ d6 ν61 w (hS.frz (i:=0) rfl hlow) aA) ?_)
     rintro cF w a ⟨ν69,aW,aX,aY,bE,rfl,aE,hQ⟩ hF
     replace hext:=hext.t (Frz.ext_mono bE hS.ext.size)
     obtain ⟨hlow,hS⟩:=hS.frzMerge (i:=0) rfl hlow bE hQ
     replace hq7:=All2.mono Rp48.mono bE.1 hq7
     replace aA:=aA.mono bE.1
     replace aC:=aC.t bE.1
     refine qn 7 9 [(3,iv a1.2.2),(10,iv a1.2.1)] hF fun a hF=>wfn rfl ?_
     refine esr<|SK.wi (qL 5 22 4 [82,86,70,49] (fun bM=>[(95,sb bM 4)]) (B8 .u8) hF hS fun bM w a hF hS=>?_)
     replace hS:St w0 [arrT 5 1 (fK .u8) (some ⟨bM,0,none⟩) ([82,86,70,49]).length 4 ([82,86,70,49]),arr 48 21 (fN 21) aW a1.1.length aX aY,fz w0 ν69,arrT 5 1 (fK .u8) aP aD.length aQ aD,arr 5 1 (fK .u8) (some ⟨aN,0,none⟩) ([0,5,4,6,2,97,183,135,165,144,1]).length 11 ([0,5,4,6,2,97,183,135,165,144,1]),arr 48 21 (fN 21) a5 a3.1.length a7 aR,arr 48 21 (fN 21) (some ⟨b6,0,none⟩) ([(volume_Item.mk 3 ByteArray.empty 5 (api_Sweep.mk (api_Site.mk ByteArray.empty 0 0 0 0 0 0 0) 0 0 ([]:(List (List api_Echo)))) (api_Field.mk (api_Grid.mk 0 0 0 0 0) ([]:(List api_Span))) (⟨#[97]⟩:ByteArray))]).length 1 ([[iv 3,.string ByteArray.empty,iv 5,.string ByteArray.empty,iv 0,iv 0,iv 0,iv 0,iv 0,iv 0,iv 0,iv 0,iv 0,.slice none 0 0,iv 0,iv 0,iv 0,iv 0,iv 0,.slice none 0 0,.string (⟨#[97]⟩:ByteArray)]]:List (List Value)),arr 5 1 (fK .u8) ad4 y3.1.length cap5 y3.1,blk b1 48 #[iv 3,.string ByteArray.empty,iv 5,.string ByteArray.empty,iv 0,iv 0,iv 0,iv 0,iv 0,iv 0,iv 0,iv 0,iv 0,.slice none 0 0,iv 0,iv 0,iv 0,iv 0,iv 0,.slice none 0 0,.string (⟨#[97]⟩:ByteArray)]] w:=St.toT hS
     refine SK.wi (Sa (src:=22) [(1,pb b1),(2,sv ad4 y3.1 cap5),(3,iv a1.2.2),(10,iv a1.2.1),(96,sb bM 4)] 0 hF hS rfl (by decide) kr ⟨kr⟩ kr ⟨kr⟩ fun w a hF hS=>?_)
     have eS:=hq7
     have eT:=aA
     have eU:=aE
     have eV:=aC
     have eW:=hext
     have eX:=hlow
     obtain ⟨ν82,bF,hlow,hS,dC,hft85⟩:=hS.freezeT (i:=2) (j:=0) rfl rfl (by decide) hlow
     replace hq7:=All2.mono Rp48.mono bF.1 hq7
     replace aA:=aA.mono bF.1
     replace aE:=All2.mono Rp48.mono bF.1 aE
     replace aC:=aC.t bF.1
     replace hext:=hext.t bF
     replace hS:St w0 [arr 48 21 (fN 21) aW a1.1.length aX aY,fz w0 ν82,arrT 5 1 (fK .u8) aP aD.length aQ aD,arr 5 1 (fK .u8) (some ⟨aN,0,none⟩) ([0,5,4,6,2,97,183,135,165,144,1]).length 11 ([0,5,4,6,2,97,183,135,165,144,1]),arr 48 21 (fN 21) a5 a3.1.length a7 aR,arr 48 21 (fN 21) (some ⟨b6,0,none⟩) ([(volume_Item.mk 3 ByteArray.empty 5 (api_Sweep.mk (api_Site.mk ByteArray.empty 0 0 0 0 0 0 0) 0 0 ([]:(List (List api_Echo)))) (api_Field.mk (api_Grid.mk 0 0 0 0 0) ([]:(List api_Span))) (⟨#[97]⟩:ByteArray))]).length 1 ([[iv 3,.string ByteArray.empty,iv 5,.string ByteArray.empty,iv 0,iv 0,iv 0,iv 0,iv 0,iv 0,iv 0,iv 0,iv 0,.slice none 0 0,iv 0,iv 0,iv 0,iv 0,iv 0,.slice none 0 0,.string (⟨#[97]⟩:ByteArray)]]:List (List Value)),arr 5 1 (fK .u8) ad4 y3.1.length cap5 y3.1,blk b1 48 #[iv 3,.string ByteArray.empty,iv 5,.string ByteArray.empty,iv 0,iv 0,iv 0,iv 0,iv 0,iv 0,iv 0,iv 0,iv 0,.slice none 0 0,iv 0,iv 0,iv 0,iv 0,iv 0,.slice none 0 0,.string (⟨#[97]⟩:ByteArray)]] w:=hS
     have aG:=Frz.le_refl ν82
     have aF:=ArrM.of_arrT dC
     obtain ⟨a0,d7,h⟩:=A0 h
     refine SK.wi (rR (fun cG=>[(1,pb b1),(2,sv ad4 y3.1 cap5),(3,iv a1.2.2),(10,iv a1.2.1),(97,cG)]) hF (Hr F _ _ d7 ν82 w (hS.frz (i:=1) rfl hlow) aF) ?_)
     rintro cG w a ⟨ν90,aI,aJ,b7,b2,rfl,aK,hQ⟩ hF
     replace hext:=hext.t (Frz.ext_mono b2 hS.ext.size)
     obtain ⟨hlow,hS⟩:=hS.frzMerge (i:=1) rfl hlow b2 hQ
     replace hq7:=All2.mono Rp48.mono b2.1 hq7
     replace aA:=aA.mono b2.1
     replace aE:=All2.mono Rp48.mono b2.1 aE
     replace aF:=aF.mono b2.1
     replace aC:=aC.t b2.1
     replace aG:=aG.t b2.1
     refine qn 7 10 [(5,iv a0.2.2),(11,sv aI a0.1 aJ),(12,iv a0.2.1)] hF fun a hF=>wfn rfl ?_
     refine esr<|SK.wi (qL 5 22 7 [82,86,70,49,0,5,4] (fun bN=>[(102,sb bN 7)]) (B8 .u8) hF hS fun bN w a hF hS=>?_)
     replace hS:St w0 [arrT 5 1 (fK .u8) (some ⟨bN,0,none⟩) ([82,86,70,49,0,5,4]).length 7 ([82,86,70,49,0,5,4]),arr 48 21 (fN 21) aI a0.1.length aJ b7,arr 48 21 (fN 21) aW a1.1.length aX aY,fz w0 ν90,arrT 5 1 (fK .u8) aP aD.length aQ aD,arr 5 1 (fK .u8) (some ⟨aN,0,none⟩) ([0,5,4,6,2,97,183,135,165,144,1]).length 11 ([0,5,4,6,2,97,183,135,165,144,1]),arr 48 21 (fN 21) a5 a3.1.length a7 aR,arr 48 21 (fN 21) (some ⟨b6,0,none⟩) ([(volume_Item.mk 3 ByteArray.empty 5 (api_Sweep.mk (api_Site.mk ByteArray.empty 0 0 0 0 0 0 0) 0 0 ([]:(List (List api_Echo)))) (api_Field.mk (api_Grid.mk 0 0 0 0 0) ([]:(List api_Span))) (⟨#[97]⟩:ByteArray))]).length 1 ([[iv 3,.string ByteArray.empty,iv 5,.string ByteArray.empty,iv 0,iv 0,iv 0,iv 0,iv 0,iv 0,iv 0,iv 0,iv 0,.slice none 0 0,iv 0,iv 0,iv 0,iv 0,iv 0,.slice none 0 0,.string (⟨#[97]⟩:ByteArray)]]:List (List Value)),arr 5 1 (fK .u8) ad4 y3.1.length cap5 y3.1,blk b1 48 #[iv 3,.string ByteArray.empty,iv 5,.string ByteArray.empty,iv 0,iv 0,iv 0,iv 0,iv 0,iv 0,iv 0,iv 0,iv 0,.slice none 0 0,iv 0,iv 0,iv 0,iv 0,iv 0,.slice none 0 0,.string (⟨#[97]⟩:ByteArray)]] w:=St.toT hS
     refine SK.wi (Sa (src:=22) [(1,pb b1),(2,sv ad4 y3.1 cap5),(3,iv a1.2.2),(5,iv a0.2.2),(10,iv a1.2.1),(11,sv aI a0.1 aJ),(12,iv a0.2.1),(103,sb bN 7)] 0 hF hS rfl (by decide) kr ⟨kr⟩ kr ⟨kr⟩ fun w a hF hS=>?_)
     have eY:=hq7
     have eZ:=aA
     have f0:=aE
     have dS:=aF
     have dT:=aK
     have dU:=aC
     have dV:=aG
     have dW:=hext
     have dX:=hlow
     obtain ⟨ν106,b0,hlow,hS,d8,hft109⟩:=hS.freezeT (i:=3) (j:=0) rfl rfl (by decide) hlow
     replace hq7:=All2.mono Rp48.mono b0.1 hq7
     replace aA:=aA.mono b0.1
     replace aE:=All2.mono Rp48.mono b0.1 aE
     replace aF:=aF.mono b0.1
     replace aK:=All2.mono Rp48.mono b0.1 aK
     replace aC:=aC.t b0.1
     replace aG:=aG.t b0.1
     replace hext:=hext.t b0
     replace hS:St w0 [arr 48 21 (fN 21) aI a0.1.length aJ b7,arr 48 21 (fN 21) aW a1.1.length aX aY,fz w0 ν106,arrT 5 1 (fK .u8) aP aD.length aQ aD,arr 5 1 (fK .u8) (some ⟨aN,0,none⟩) ([0,5,4,6,2,97,183,135,165,144,1]).length 11 ([0,5,4,6,2,97,183,135,165,144,1]),arr 48 21 (fN 21) a5 a3.1.length a7 aR,arr 48 21 (fN 21) (some ⟨b6,0,none⟩) ([(volume_Item.mk 3 ByteArray.empty 5 (api_Sweep.mk (api_Site.mk ByteArray.empty 0 0 0 0 0 0 0) 0 0 ([]:(List (List api_Echo)))) (api_Field.mk (api_Grid.mk 0 0 0 0 0) ([]:(List api_Span))) (⟨#[97]⟩:ByteArray))]).length 1 ([[iv 3,.string ByteArray.empty,iv 5,.string ByteArray.empty,iv 0,iv 0,iv 0,iv 0,iv 0,iv 0,iv 0,iv 0,iv 0,.slice none 0 0,iv 0,iv 0,iv 0,iv 0,iv 0,.slice none 0 0,.string (⟨#[97]⟩:ByteArray)]]:List (List Value)),arr 5 1 (fK .u8) ad4 y3.1.length cap5 y3.1,blk b1 48 #[iv 3,.string ByteArray.empty,iv 5,.string ByteArray.empty,iv 0,iv 0,iv 0,iv 0,iv 0,iv 0,iv 0,iv 0,iv 0,.slice none 0 0,iv 0,iv 0,iv 0,iv 0,iv 0,.slice none 0 0,.string (⟨#[97]⟩:ByteArray)]] w:=hS
     have aS:=Frz.le_refl ν106
     have aO:=ArrM.of_arrT d8
     obtain ⟨a2,cY,h⟩:=A0 h
     refine SK.wi (rR (fun cB=>[(1,pb b1),(2,sv ad4 y3.1 cap5),(3,iv a1.2.2),(5,iv a0.2.2),(10,iv a1.2.1),(11,sv aI a0.1 aJ),(12,iv a0.2.1),(104,cB)]) hF (Hr F _ _ cY ν106 w (hS.frz (i:=2) rfl hlow) aO) ?_)
     rintro cB w a ⟨ν114,bH,bO,bR,aT,rfl,aV,hQ⟩ hF
     replace hext:=hext.t (Frz.ext_mono aT hS.ext.size)
     obtain ⟨hlow,hS⟩:=hS.frzMerge (i:=2) rfl hlow aT hQ
     replace hq7:=All2.mono Rp48.mono aT.1 hq7
     replace aA:=aA.mono aT.1
     replace aE:=All2.mono Rp48.mono aT.1 aE
     replace aF:=aF.mono aT.1
     replace aK:=All2.mono Rp48.mono aT.1 aK
     replace aO:=aO.mono aT.1
     replace aC:=aC.t aT.1
     replace aG:=aG.t aT.1
     replace aS:=aS.t aT.1
     refine qn 7 10 [(8,iv a2.2.2),(14,iv a2.2.1)] hF fun a hF=>wfn rfl ?_
     refine esr<|SK.wi (qL 5 22 4 [82,86,70,50] (fun bK=>[(109,sb bK 4)]) (B8 .u8) hF hS fun bK w a hF hS=>?_)
     replace hS:St w0 [arrT 5 1 (fK .u8) (some ⟨bK,0,none⟩) ([82,86,70,50]).length 4 ([82,86,70,50]),arr 48 21 (fN 21) bH a2.1.length bO bR,arr 48 21 (fN 21) aI a0.1.length aJ b7,arr 48 21 (fN 21) aW a1.1.length aX aY,fz w0 ν114,arrT 5 1 (fK .u8) aP aD.length aQ aD,arr 5 1 (fK .u8) (some ⟨aN,0,none⟩) ([0,5,4,6,2,97,183,135,165,144,1]).length 11 ([0,5,4,6,2,97,183,135,165,144,1]),arr 48 21 (fN 21) a5 a3.1.length a7 aR,arr 48 21 (fN 21) (some ⟨b6,0,none⟩) ([(volume_Item.mk 3 ByteArray.empty 5 (api_Sweep.mk (api_Site.mk ByteArray.empty 0 0 0 0 0 0 0) 0 0 ([]:(List (List api_Echo)))) (api_Field.mk (api_Grid.mk 0 0 0 0 0) ([]:(List api_Span))) (⟨#[97]⟩:ByteArray))]).length 1 ([[iv 3,.string ByteArray.empty,iv 5,.string ByteArray.empty,iv 0,iv 0,iv 0,iv 0,iv 0,iv 0,iv 0,iv 0,iv 0,.slice none 0 0,iv 0,iv 0,iv 0,iv 0,iv 0,.slice none 0 0,.string (⟨#[97]⟩:ByteArray)]]:List (List Value)),arr 5 1 (fK .u8) ad4 y3.1.length cap5 y3.1,blk b1 48 #[iv 3,.string ByteArray.empty,iv 5,.string ByteArray.empty,iv 0,iv 0,iv 0,iv 0,iv 0,iv 0,iv 0,iv 0,iv 0,.slice none 0 0,iv 0,iv 0,iv 0,iv 0,iv 0,.slice none 0 0,.string (⟨#[97]⟩:ByteArray)]] w:=St.toT hS
     refine SK.wi (Sa (src:=22) [(1,pb b1),(2,sv ad4 y3.1 cap5),(3,iv a1.2.2),(5,iv a0.2.2),(8,iv a2.2.2),(10,iv a1.2.1),(11,sv aI a0.1 aJ),(12,iv a0.2.1),(14,iv a2.2.1),(110,sb bK 4)] 0 hF hS rfl (by decide) kr ⟨kr⟩ kr ⟨kr⟩ fun w a hF hS=>?_)
     have dY:=hq7
     have dZ:=aA
     have e0:=aE
     have e1:=aF
     have e2:=aK
     have e3:=aO
     have e4:=aV
     have e5:=aC
     have e6:=aG
     have e7:=aS
     have e8:=hext
     have e9:=hlow
     obtain ⟨ν133,aU,hlow,hS,d9,hft136⟩:=hS.freezeT (i:=4) (j:=0) rfl rfl (by decide) hlow
     replace hq7:=All2.mono Rp48.mono aU.1 hq7
     replace aA:=aA.mono aU.1
     replace aE:=All2.mono Rp48.mono aU.1 aE
     replace aF:=aF.mono aU.1
     replace aK:=All2.mono Rp48.mono aU.1 aK
     replace aO:=aO.mono aU.1
     replace aV:=All2.mono Rp48.mono aU.1 aV
     replace aC:=aC.t aU.1
     replace aG:=aG.t aU.1
     replace aS:=aS.t aU.1
     replace hext:=hext.t aU
     replace hS:St w0 [arr 48 21 (fN 21) bH a2.1.length bO bR,arr 48 21 (fN 21) aI a0.1.length aJ b7,arr 48 21 (fN 21) aW a1.1.length aX aY,fz w0 ν133,arrT 5 1 (fK .u8) aP aD.length aQ aD,arr 5 1 (fK .u8) (some ⟨aN,0,none⟩) ([0,5,4,6,2,97,183,135,165,144,1]).length 11 ([0,5,4,6,2,97,183,135,165,144,1]),arr 48 21 (fN 21) a5 a3.1.length a7 aR,arr 48 21 (fN 21) (some ⟨b6,0,none⟩) ([(volume_Item.mk 3 ByteArray.empty 5 (api_Sweep.mk (api_Site.mk ByteArray.empty 0 0 0 0 0 0 0) 0 0 ([]:(List (List api_Echo)))) (api_Field.mk (api_Grid.mk 0 0 0 0 0) ([]:(List api_Span))) (⟨#[97]⟩:ByteArray))]).length 1 ([[iv 3,.string ByteArray.empty,iv 5,.string ByteArray.empty,iv 0,iv 0,iv 0,iv 0,iv 0,iv 0,iv 0,iv 0,iv 0,.slice none 0 0,iv 0,iv 0,iv 0,iv 0,iv 0,.slice none 0 0,.string (⟨#[97]⟩:ByteArray)]]:List (List Value)),arr 5 1 (fK .u8) ad4 y3.1.length cap5 y3.1,blk b1 48 #[iv 3,.string ByteArray.empty,iv 5,.string ByteArray.empty,iv 0,iv 0,iv 0,iv 0,iv 0,iv 0,iv 0,iv 0,iv 0,.slice none 0 0,iv 0,iv 0,iv 0,iv 0,iv 0,.slice none 0 0,.string (⟨#[97]⟩:ByteArray)]] w:=hS
     have b5:=Frz.le_refl ν133
     have aZ:=ArrM.of_arrT d9
     obtain ⟨aB,cZ,h⟩:=A0 h
     refine SK.wi (rR (fun cC=>[(1,pb b1),(2,sv ad4 y3.1 cap5),(3,iv a1.2.2),(5,iv a0.2.2),(8,iv a2.2.2),(10,iv a1.2.1),(11,sv aI a0.1 aJ),(12,iv a0.2.1),(14,iv a2.2.1),(111,cC)]) hF (Hr F _ _ cZ ν133 w (hS.frz (i:=3) rfl hlow) aZ) ?_)
     rintro cC w a ⟨ν141,bX,c0,c3,aL,rfl,bC,hQ⟩ hF
     replace hext:=hext.t (Frz.ext_mono aL hS.ext.size)
     obtain ⟨hlow,hS⟩:=hS.frzMerge (i:=3) rfl hlow aL hQ
     replace hq7:=All2.mono Rp48.mono aL.1 hq7
     replace aA:=aA.mono aL.1
     replace aE:=All2.mono Rp48.mono aL.1 aE
     replace aF:=aF.mono aL.1
     replace aK:=All2.mono Rp48.mono aL.1 aK
     replace aO:=aO.mono aL.1
     replace aV:=All2.mono Rp48.mono aL.1 aV
     replace aZ:=aZ.mono aL.1
     replace aC:=aC.t aL.1
     replace aG:=aG.t aL.1
     replace aS:=aS.t aL.1
     replace b5:=b5.t aL.1
     refine qn 7 10 [(17,iv aB.2.2)] hF fun a hF=>wfn rfl ?_
     refine esr<|SK.wi (qL 5 22 3 [120,0,121] (fun b8=>[(116,sb b8 3)]) (B8 .u8) hF hS fun b8 w a hF hS=>?_)
     replace hS:St w0 [arrT 5 1 (fK .u8) (some ⟨b8,0,none⟩) ([120,0,121]).length 3 ([120,0,121]),arr 48 21 (fN 21) bX aB.1.length c0 c3,arr 48 21 (fN 21) bH a2.1.length bO bR,arr 48 21 (fN 21) aI a0.1.length aJ b7,arr 48 21 (fN 21) aW a1.1.length aX aY,fz w0 ν141,arrT 5 1 (fK .u8) aP aD.length aQ aD,arr 5 1 (fK .u8) (some ⟨aN,0,none⟩) ([0,5,4,6,2,97,183,135,165,144,1]).length 11 ([0,5,4,6,2,97,183,135,165,144,1]),arr 48 21 (fN 21) a5 a3.1.length a7 aR,arr 48 21 (fN 21) (some ⟨b6,0,none⟩) ([(volume_Item.mk 3 ByteArray.empty 5 (api_Sweep.mk (api_Site.mk ByteArray.empty 0 0 0 0 0 0 0) 0 0 ([]:(List (List api_Echo)))) (api_Field.mk (api_Grid.mk 0 0 0 0 0) ([]:(List api_Span))) (⟨#[97]⟩:ByteArray))]).length 1 ([[iv 3,.string ByteArray.empty,iv 5,.string ByteArray.empty,iv 0,iv 0,iv 0,iv 0,iv 0,iv 0,iv 0,iv 0,iv 0,.slice none 0 0,iv 0,iv 0,iv 0,iv 0,iv 0,.slice none 0 0,.string (⟨#[97]⟩:ByteArray)]]:List (List Value)),arr 5 1 (fK .u8) ad4 y3.1.length cap5 y3.1,blk b1 48 #[iv 3,.string ByteArray.empty,iv 5,.string ByteArray.empty,iv 0,iv 0,iv 0,iv 0,iv 0,iv 0,iv 0,iv 0,iv 0,.slice none 0 0,iv 0,iv 0,iv 0,iv 0,iv 0,.slice none 0 0,.string (⟨#[97]⟩:ByteArray)]] w:=St.toT hS
     refine SK.wi (Sa (src:=22) [(1,pb b1),(2,sv ad4 y3.1 cap5),(3,iv a1.2.2),(5,iv a0.2.2),(8,iv a2.2.2),(10,iv a1.2.1),(11,sv aI a0.1 aJ),(12,iv a0.2.1),(14,iv a2.2.1),(17,iv aB.2.2),(117,sb b8 3)] 0 hF hS rfl (by decide) kr ⟨kr⟩ kr ⟨kr⟩ fun w a hF hS=>?_)
     refine rn 1 3 [(1,pb b1),(3,iv a1.2.2),(5,iv a0.2.2),(8,iv a2.2.2),(10,iv a1.2.1),(11,sv aI a0.1 aJ),(12,iv a0.2.1),(14,iv a2.2.1),(17,iv aB.2.2),(117,sb b8 3),(118,sv ad4 y3.1 cap5)] hF fun a hF=>?_
     obtain ⟨dD,cO,h⟩:=A0 h
     refine SK.wi (Ux (t:=22) (ty:=22) (bytes:=1) (l:=([120,0,121])) (l':=y3.1) (fun bY c1=>[(1,pb b1),(3,iv a1.2.2),(5,iv a0.2.2),(8,iv a2.2.2),(10,iv a1.2.1),(11,sv aI a0.1 aJ),(12,iv a0.2.1),(14,iv a2.2.1),(17,iv aB.2.2),(119,sv bY dD c1)]) 0 hF hS rfl kr ⟨kr⟩ kr (hS.arr (i:=10) rfl) (fun _ _=>rfl) cO (fun _ _=>⟨kr⟩) fun bY c1 w a hF hS=>?_)
     have eA:=hq7
     have eB:=aA
     have eC:=aE
     have eD:=aF
     have eE:=aK
     have eF:=aO
     have eG:=aV
     have eH:=aZ
     have eI:=bC
     have eJ:=aC
     have eK:=aG
     have eL:=aS
     have eM:=b5
     have eN:=hext
     have eO:=hlow
     obtain ⟨ν166,aM,hlow,hS,dA,hft169⟩:=hS.freezeT (i:=5) (j:=0) rfl rfl (by decide) hlow
     replace hq7:=All2.mono Rp48.mono aM.1 hq7
     replace aA:=aA.mono aM.1
     replace aE:=All2.mono Rp48.mono aM.1 aE
     replace aF:=aF.mono aM.1
     replace aK:=All2.mono Rp48.mono aM.1 aK
     replace aO:=aO.mono aM.1
     replace aV:=All2.mono Rp48.mono aM.1 aV
     replace aZ:=aZ.mono aM.1
     replace bC:=All2.mono Rp48.mono aM.1 bC
     replace aC:=aC.t aM.1
     replace aG:=aG.t aM.1
     replace aS:=aS.t aM.1
     replace b5:=b5.t aM.1
     replace hext:=hext.t aM
     replace hS:St w0 [arr 48 21 (fN 21) bX aB.1.length c0 c3,arr 48 21 (fN 21) bH a2.1.length bO bR,arr 48 21 (fN 21) aI a0.1.length aJ b7,arr 48 21 (fN 21) aW a1.1.length aX aY,fz w0 ν166,arrT 5 1 (fK .u8) aP aD.length aQ aD,arr 5 1 (fK .u8) (some ⟨aN,0,none⟩) ([0,5,4,6,2,97,183,135,165,144,1]).length 11 ([0,5,4,6,2,97,183,135,165,144,1]),arr 48 21 (fN 21) a5 a3.1.length a7 aR,arr 48 21 (fN 21) (some ⟨b6,0,none⟩) ([(volume_Item.mk 3 ByteArray.empty 5 (api_Sweep.mk (api_Site.mk ByteArray.empty 0 0 0 0 0 0 0) 0 0 ([]:(List (List api_Echo)))) (api_Field.mk (api_Grid.mk 0 0 0 0 0) ([]:(List api_Span))) (⟨#[97]⟩:ByteArray))]).length 1 ([[iv 3,.string ByteArray.empty,iv 5,.string ByteArray.empty,iv 0,iv 0,iv 0,iv 0,iv 0,iv 0,iv 0,iv 0,iv 0,.slice none 0 0,iv 0,iv 0,iv 0,iv 0,iv 0,.slice none 0 0,.string (⟨#[97]⟩:ByteArray)]]:List (List Value)),arr 5 1 (fK .u8) ad4 y3.1.length cap5 y3.1,blk b1 48 #[iv 3,.string ByteArray.empty,iv 5,.string ByteArray.empty,iv 0,iv 0,iv 0,iv 0,iv 0,iv 0,iv 0,iv 0,iv 0,.slice none 0 0,iv 0,iv 0,iv 0,iv 0,iv 0,.slice none 0 0,.string (⟨#[97]⟩:ByteArray)]] w:=hS
     have c6:=Frz.le_refl ν166
     have bS:=ArrM.of_arrT dA
     obtain ⟨a4,d0,h⟩:=A0 h
     refine SK.wi (rR (fun cD=>[(1,pb b1),(3,iv a1.2.2),(5,iv a0.2.2),(8,iv a2.2.2),(10,iv a1.2.1),(11,sv aI a0.1 aJ),(12,iv a0.2.1),(14,iv a2.2.1),(17,iv aB.2.2),(120,cD)]) hF (Th F _ _ d0 ν166 w (hS.frz (i:=4) rfl hlow) bS) ?_)
     rintro cD w a ⟨ν174,bZ,c2,dO,aH,rfl,cR,hQ⟩ hF
     replace hext:=hext.t (Frz.ext_mono aH hS.ext.size)
     obtain ⟨hlow,hS⟩:=hS.frzMerge (i:=4) rfl hlow aH hQ
     replace hq7:=All2.mono Rp48.mono aH.1 hq7
     replace aA:=aA.mono aH.1
     replace aE:=All2.mono Rp48.mono aH.1 aE
     replace aF:=aF.mono aH.1
     replace aK:=All2.mono Rp48.mono aH.1 aK
     replace aO:=aO.mono aH.1
     replace aV:=All2.mono Rp48.mono aH.1 aV
     replace aZ:=aZ.mono aH.1
     replace bC:=All2.mono Rp48.mono aH.1 bC
     replace bS:=bS.mono aH.1
     replace aC:=aC.t aH.1
     replace aG:=aG.t aH.1
     replace aS:=aS.t aH.1
     replace b5:=b5.t aH.1
     replace c6:=c6.t aH.1
     refine qn 7 12 [(18,sv bZ a4.1 c2),(19,iv a4.2.1),(20,iv a4.2.2)] hF fun a hF=>wfn rfl ?_
     refine Am ?_
     rcases Bool.eq_false_or_eq_true ((bif (bif (bif (bif (bif (bif (bif (bif (bif (a1.2.2==15) then (a0.2.2==0) else false) then (a2.2.2==16) else false) then (aB.2.2==7) else false) then (a4.2.2==0) else false) then (a1.2.1==4) else false) then ((ln a0.1)==0) else false) then (a0.2.1==4) else false) then (a2.2.1==4) else false) then ((ln a4.1)==1) else false)) with b4|b4
     ·replace h:=Gx h b4
      obtain ⟨dF,cW,h⟩:=A0 h
      obtain ⟨dM,c4,cM⟩:=Cw cR cW
      obtain ⟨dI,dK,dP,dJ,dL,rfl,cI,cJ⟩:=cM
      obtain ⟨dH,d1,h⟩:=A0 h
      refine rD 52 [(0,.bool (bif (bif (bif (bif (bif (bif (bif (bif (bif (bif (bif (a1.2.2==15) then (a0.2.2==0) else false) then (a2.2.2==16) else false) then (aB.2.2==7) else false) then (a4.2.2==0) else false) then (a1.2.1==4) else false) then ((ln a0.1)==0) else false) then (a0.2.1==4) else false) then (a2.2.1==4) else false) then ((ln a4.1)==1) else false) then dH else false) then (a4.2.1==1) else false))] hF (oGs [⟨164,true,(bif (bif (bif (bif (bif (bif (bif (bif (bif (a1.2.2==15) then (a0.2.2==0) else false) then (a2.2.2==16) else false) then (aB.2.2==7) else false) then (a4.2.2==0) else false) then (a1.2.1==4) else false) then ((ln a0.1)==0) else false) then (a0.2.1==4) else false) then (a2.2.1==4) else false) then ((ln a4.1)==1) else false)⟩] (oI 24 (hS.arr (i:=0) rfl) c4<|oG 48 0 21 (Dg 21) (fun _ hd=>((hS.later hd).arr (i:=0) rfl)) c4<|oN 48 11 0 21 hS.e rfl<|oC (fun w2 hd=>S1 F dF (volume_Item.mk 3 ByteArray.empty 5 (api_Sweep.mk (api_Site.mk ByteArray.empty 0 0 0 0 0 0 0) 0 0 ([]:(List (List api_Echo)))) (api_Field.mk (api_Grid.mk 0 0 0 0 0) ([]:(List api_Span))) (⟨#[97]⟩:ByteArray)) _ d1 _ w2 (A4 w2) (cI.mono Rp87.mono (FrzAt.le_mem ((hS.later hd).frz (i:=5) rfl hlow))) (cJ.mono (FrzAt.le_mem ((hS.later hd).frz (i:=5) rfl hlow))) ArrQ.nil ArrM.nil)<|A1)<|A1) fun a w hF hx=>?_
      replace hS:=hS.later hx
      refine wfn rfl ?_
      refine wpIn_ret (A7 [.tmp 0] [_] hF rfl ⟨rfl,trivial⟩ ?_)
      obtain rfl:=Ae h
      exact ⟨rfl,hS.ext⟩
     ·replace h:=Gw h b4
      refine rD 52 [(0,.bool (bif (bif (bif (bif (bif (bif (bif (bif (bif (bif (bif (a1.2.2==15) then (a0.2.2==0) else false) then (a2.2.2==16) else false) then (aB.2.2==7) else false) then (a4.2.2==0) else false) then (a1.2.1==4) else false) then ((ln a0.1)==0) else false) then (a0.2.1==4) else false) then (a2.2.1==4) else false) then ((ln a4.1)==1) else false) then false else false) then (a4.2.1==1) else false))] hF (oX (.run [⟨164,true,(bif (bif (bif (bif (bif (bif (bif (bif (bif (a1.2.2==15) then (a0.2.2==0) else false) then (a2.2.2==16) else false) then (aB.2.2==7) else false) then (a4.2.2==0) else false) then (a1.2.1==4) else false) then ((ln a0.1)==0) else false) then (a0.2.1==4) else false) then (a2.2.1==4) else false) then ((ln a4.1)==1) else false)⟩] (Instr.indexAt 24 (sv bZ a4.1 c2) (iv 0)) (pb 0)) (A4w (T0 (i:=0) (c:=⟨164,true,(bif (bif (bif (bif (bif (bif (bif (bif (bif (a1.2.2==15) then (a0.2.2==0) else false) then (a2.2.2==16) else false) then (aB.2.2==7) else false) then (a4.2.2==0) else false) then (a1.2.1==4) else false) then ((ln a0.1)==0) else false) then (a0.2.1==4) else false) then (a2.2.1==4) else false) then ((ln a4.1)==1) else false)⟩) rfl (show ((bif (bif (bif (bif (bif (bif (bif (bif (bif (a1.2.2==15) then (a0.2.2==0) else false) then (a2.2.2==16) else false) then (aB.2.2==7) else false) then (a4.2.2==0) else false) then (a1.2.1==4) else false) then ((ln a0.1)==0) else false) then (a0.2.1==4) else false) then (a2.2.1==4) else false) then ((ln a4.1)==1) else false)==true)=false by rw [b4];rfl)))<|oX (.run [⟨164,true,(bif (bif (bif (bif (bif (bif (bif (bif (bif (a1.2.2==15) then (a0.2.2==0) else false) then (a2.2.2==16) else false) then (aB.2.2==7) else false) then (a4.2.2==0) else false) then (a1.2.1==4) else false) then ((ln a0.1)==0) else false) then (a0.2.1==4) else false) then (a2.2.1==4) else false) then ((ln a4.1)==1) else false)⟩] (Instr.loadAt 48 (pb 0)) (.agg z48)) (A4w (T0 (i:=0) (c:=⟨164,true,(bif (bif (bif (bif (bif (bif (bif (bif (bif (a1.2.2==15) then (a0.2.2==0) else false) then (a2.2.2==16) else false) then (aB.2.2==7) else false) then (a4.2.2==0) else false) then (a1.2.1==4) else false) then ((ln a0.1)==0) else false) then (a0.2.1==4) else false) then (a2.2.1==4) else false) then ((ln a4.1)==1) else false)⟩) rfl (show ((bif (bif (bif (bif (bif (bif (bif (bif (bif (a1.2.2==15) then (a0.2.2==0) else false) then (a2.2.2==16) else false) then (aB.2.2==7) else false) then (a4.2.2==0) else false) then (a1.2.1==4) else false) then ((ln a0.1)==0) else false) then (a0.2.1==4) else false) then (a2.2.1==4) else false) then ((ln a4.1)==1) else false)==true)=false by rw [b4];rfl)))<|oX (.run [⟨164,true,(bif (bif (bif (bif (bif (bif (bif (bif (bif (a1.2.2==15) then (a0.2.2==0) else false) then (a2.2.2==16) else false) then (aB.2.2==7) else false) then (a4.2.2==0) else false) then (a1.2.1==4) else false) then ((ln a0.1)==0) else false) then (a0.2.1==4) else false) then (a2.2.1==4) else false) then ((ln a4.1)==1) else false)⟩] (Instr.loadAt 48 (pb b1)) (.agg z48)) (A4w (T0 (i:=0) (c:=⟨164,true,(bif (bif (bif (bif (bif (bif (bif (bif (bif (a1.2.2==15) then (a0.2.2==0) else false) then (a2.2.2==16) else false) then (aB.2.2==7) else false) then (a4.2.2==0) else false) then (a1.2.1==4) else false) then ((ln a0.1)==0) else false) then (a0.2.1==4) else false) then (a2.2.1==4) else false) then ((ln a4.1)==1) else false)⟩) rfl (show ((bif (bif (bif (bif (bif (bif (bif (bif (bif (a1.2.2==15) then (a0.2.2==0) else false) then (a2.2.2==16) else false) then (aB.2.2==7) else false) then (a4.2.2==0) else false) then (a1.2.1==4) else false) then ((ln a0.1)==0) else false) then (a0.2.1==4) else false) then (a2.2.1==4) else false) then ((ln a4.1)==1) else false)==true)=false by rw [b4];rfl)))<|oX (.call [⟨164,true,(bif (bif (bif (bif (bif (bif (bif (bif (bif (a1.2.2==15) then (a0.2.2==0) else false) then (a2.2.2==16) else false) then (aB.2.2==7) else false) then (a4.2.2==0) else false) then (a1.2.1==4) else false) then ((ln a0.1)==0) else false) then (a0.2.1==4) else false) then (a2.2.1==4) else false) then ((ln a4.1)==1) else false)⟩] 27 #[.agg z48,.agg z48] (.bool false)) (A61 (T0 (i:=0) (c:=⟨164,true,(bif (bif (bif (bif (bif (bif (bif (bif (bif (a1.2.2==15) then (a0.2.2==0) else false) then (a2.2.2==16) else false) then (aB.2.2==7) else false) then (a4.2.2==0) else false) then (a1.2.1==4) else false) then ((ln a0.1)==0) else false) then (a0.2.1==4) else false) then (a2.2.1==4) else false) then ((ln a4.1)==1) else false)⟩) rfl (show ((bif (bif (bif (bif (bif (bif (bif (bif (bif (a1.2.2==15) then (a0.2.2==0) else false) then (a2.2.2==16) else false) then (aB.2.2==7) else false) then (a4.2.2==0) else false) then (a1.2.1==4) else false) then ((ln a0.1)==0) else false) then (a0.2.1==4) else false) then (a2.2.1==4) else false) then ((ln a4.1)==1) else false)==true)=false by rw [b4];rfl)))<|A1) fun a w hF hx=>?_
      replace hS:=hS.later hx
      refine wfn rfl ?_
      refine wpIn_ret (A7 [.tmp 0] [_] hF rfl ⟨rfl,trivial⟩ ?_)
      obtain rfl:=Ae h
      exact ⟨rfl,hS.ext⟩
end Go.Proofs.YtifbomimeodibaaGreat
