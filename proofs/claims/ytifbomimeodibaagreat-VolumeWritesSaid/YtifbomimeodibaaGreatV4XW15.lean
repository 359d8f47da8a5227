import Derived.Test.YtifbomimeodibaaGreatV4XD
import Derived.Test.YtifbomimeodibaaGreatProg
import Derived.Test.YtifbomimeodibaaGreatV4XW0
import Derived.Test.YtifbomimeodibaaGreatV4XW2
import Derived.Test.YtifbomimeodibaaGreatV4XW13
import Derived.Test.YtifbomimeodibaaGreatV4XW14
namespace Go.Proofs.YtifbomimeodibaaGreat
open Go Go.RowKit Go.Eng
set_option maxRecDepth 10000
set_option maxHeartbeats 4000000
set_option linter.unusedVariables false
set_option linter.unusedSimpArgs false
theorem Po (F:Nat) (res:Bool) (h:Hd F=some res) (μ:Frz) (w0:World) (hm:FrzAt μ w0):Calls Tryz.prog 8 #[] w0 (fun e w=>e=.returned (.bool res)∧Ext w0 w):=by
 obtain ⟨hlow,hS⟩:=hm.init
 have hext:=Frz.ext_refl w0.heap.size μ
 rw [Hd] at h
 refine Ag Tryz.func8 rfl 175 [] rfl rfl kr fun a w hw hF=>?_
 replace hS:=hS.cast hw
 clear hw
 refine rnB [] hF fun a hF=>?_
 refine esr ?_
 refine rn 1 1 [(21,.agg #[iv 3,.string ByteArray.empty,iv 5,.string ByteArray.empty,iv 0,iv 0,iv 0,iv 0,iv 0,iv 0,iv 0,iv 0,iv 0,.slice none 0 0,iv 0,iv 0,iv 0,iv 0,iv 0,.slice none 0 0,.string (⟨#[97]⟩:ByteArray)])] hF fun a hF=>?_
 refine SK.wi (qA 48 #[iv 0,.string ByteArray.empty,iv 0,.string ByteArray.empty,iv 0,iv 0,iv 0,iv 0,iv 0,iv 0,iv 0,iv 0,iv 0,.slice none 0 0,iv 0,iv 0,iv 0,iv 0,iv 0,.slice none 0 0,.string ByteArray.empty] (fun b1=>[(1,pb b1)]) hF hS fun b1 w a hF hS=>?_)
 refine SK.wi (qS 48 0 0 (.agg #[iv 3,.string ByteArray.empty,iv 5,.string ByteArray.empty,iv 0,iv 0,iv 0,iv 0,iv 0,iv 0,iv 0,iv 0,iv 0,.slice none 0 0,iv 0,iv 0,iv 0,iv 0,iv 0,.slice none 0 0,.string (⟨#[97]⟩:ByteArray)]) #[iv 3,.string ByteArray.empty,iv 5,.string ByteArray.empty,iv 0,iv 0,iv 0,iv 0,iv 0,iv 0,iv 0,iv 0,iv 0,.slice none 0 0,iv 0,iv 0,iv 0,iv 0,iv 0,.slice none 0 0,.string (⟨#[97]⟩:ByteArray)] hF hS rfl fun w a hF hS=>?_)
 refine wfn rfl ?_
 refine esr ?_
 refine qo 1 1 [(23,.agg #[iv 3,.string ByteArray.empty,iv 5,.string ByteArray.empty,iv 0,iv 0,iv 0,iv 0,iv 0,iv 0,iv 0,iv 0,iv 0,.slice none 0 0,iv 0,iv 0,iv 0,iv 0,iv 0,.slice none 0 0,.string (⟨#[97]⟩:ByteArray)])] hF (oN 48 0 0 21 hS.i rfl<|A9) fun a hF=>?_
 obtain ⟨y3,hy3,h⟩:=A1 h
 refine SK.wi (qR (fun v2=>[(24,v2)]) hF (Mn F _ _ hy3 (Ay w) w (A5 w) ArrQ.nil ArrM.nil) ?_)
 rintro v2 w a ⟨ad4,cap5,rfl,hQ⟩ hF
 replace hS:=hS.madeL hQ
 refine qn 5 7 [(2,sv ad4 y3.1 cap5),(3,iv y3.2)] hF fun a hF=>?_
 refine wfn rfl ?_
 refine esr ?_
 refine qo 1 1 [(28,.agg #[iv 3,.string ByteArray.empty,iv 5,.string ByteArray.empty,iv 0,iv 0,iv 0,iv 0,iv 0,iv 0,iv 0,iv 0,iv 0,.slice none 0 0,iv 0,iv 0,iv 0,iv 0,iv 0,.slice none 0 0,.string (⟨#[97]⟩:ByteArray)])] hF (oN 48 1 0 21 hS.i rfl<|A9) fun a hF=>?_
 have hq7:All2 (Rp48 μ) ([[iv 3,.string ByteArray.empty,iv 5,.string ByteArray.empty,iv 0,iv 0,iv 0,iv 0,iv 0,iv 0,iv 0,iv 0,iv 0,.slice none 0 0,iv 0,iv 0,iv 0,iv 0,iv 0,.slice none 0 0,.string (⟨#[97]⟩:ByteArray)]]:List (List Value)) [(volume_Item.mk 3 ByteArray.empty 5 (api_Sweep.mk (api_Site.mk ByteArray.empty 0 0 0 0 0 0 0) 0 0 ([]:(List (List api_Echo)))) (api_Field.mk (api_Grid.mk 0 0 0 0 0) ([]:(List api_Span))) (⟨#[97]⟩:ByteArray))]:=(All2.cons ⟨none,0,[],none,0,rfl,ArrQ.nil,ArrM.nil⟩ All2.nil)
 refine SK.wi (Qp (e:=48) (sz:=21) (f:=fN 21) (t:=24) (len:=1) (fun b6=>[(1,pb b1),(2,sv ad4 y3.1 cap5),(3,iv y3.2),(29,sb b6 1)]) #[(0,.agg #[iv 3,.string ByteArray.empty,iv 5,.string ByteArray.empty,iv 0,iv 0,iv 0,iv 0,iv 0,iv 0,iv 0,iv 0,iv 0,.slice none 0 0,iv 0,iv 0,iv 0,iv 0,iv 0,.slice none 0 0,.string (⟨#[97]⟩:ByteArray)])] #[iv 3,.string ByteArray.empty,iv 5,.string ByteArray.empty,iv 0,iv 0,iv 0,iv 0,iv 0,iv 0,iv 0,iv 0,iv 0,.slice none 0 0,iv 0,iv 0,iv 0,iv 0,iv 0,.slice none 0 0,.string (⟨#[97]⟩:ByteArray)] ([[iv 3,.string ByteArray.empty,iv 5,.string ByteArray.empty,iv 0,iv 0,iv 0,iv 0,iv 0,iv 0,iv 0,iv 0,iv 0,.slice none 0 0,iv 0,iv 0,iv 0,iv 0,iv 0,.slice none 0 0,.string (⟨#[97]⟩:ByteArray)]]:List (List Value)) ([(volume_Item.mk 3 ByteArray.empty 5 (api_Sweep.mk (api_Site.mk ByteArray.empty 0 0 0 0 0 0 0) 0 0 ([]:(List (List api_Echo)))) (api_Field.mk (api_Grid.mk 0 0 0 0 0) ([]:(List api_Span))) (⟨#[97]⟩:ByteArray))]) hF hS kr ⟨kr⟩ kr (Bz 21) rfl rfl rfl kr (fun _=>⟨kr⟩) fun b6 w a hF hS=>?_)
 obtain ⟨y9,hy9,h⟩:=A1 h
 refine SK.wi (rR (fun v8=>[(1,pb b1),(2,sv ad4 y3.1 cap5),(3,iv y3.2),(30,v8)]) hF (Pb F _ _ hy9 (Ay w) w (A5 w) (ArrQ.of_own (hS.arr (i:=0) rfl) hq7 Rp48.mono (FrzAt.le_mem (hS.frz (i:=3) rfl hlow)))) ?_)
 rintro v8 w a ⟨a4,a5,rfl,hQ⟩ hF
 replace hS:=hS.madeL hQ
 refine qn 5 8 [(4,sv a4 y9.1 a5),(5,iv y9.2)] hF fun a hF=>?_
 refine wfn rfl ?_
 refine esr ?_
 refine qn 1 1 [(34,sv a4 y9.1 a5)] hF fun a hF=>?_
 have cZ:=hq7
 have d0:=hext
 have d1:=hlow
 obtain ⟨ν15,c1,hlow,hS,cG,hft18⟩:=hS.freezeT (i:=4) (j:=0) rfl rfl (by decide) hlow
 replace hq7:=All2.mono Rp48.mono c1.1 hq7
 replace hext:=Frz.ext_trans hext c1
 replace hS:St w0 [arr 48 21 (fN 21) (some ⟨b6,0,none⟩) ([(volume_Item.mk 3 ByteArray.empty 5 (api_Sweep.mk (api_Site.mk ByteArray.empty 0 0 0 0 0 0 0) 0 0 ([]:(List (List api_Echo)))) (api_Field.mk (api_Grid.mk 0 0 0 0 0) ([]:(List api_Span))) (⟨#[97]⟩:ByteArray))]).length 1 ([[iv 3,.string ByteArray.empty,iv 5,.string ByteArray.empty,iv 0,iv 0,iv 0,iv 0,iv 0,iv 0,iv 0,iv 0,iv 0,.slice none 0 0,iv 0,iv 0,iv 0,iv 0,iv 0,.slice none 0 0,.string (⟨#[97]⟩:ByteArray)]]:List (List Value)),arr 5 1 (fK .u8) ad4 y3.1.length cap5 y3.1,blk b1 48 #[iv 3,.string ByteArray.empty,iv 5,.string ByteArray.empty,iv 0,iv 0,iv 0,iv 0,iv 0,iv 0,iv 0,iv 0,iv 0,.slice none 0 0,iv 0,iv 0,iv 0,iv 0,iv 0,.slice none 0 0,.string (⟨#[97]⟩:ByteArray)],fz w0 ν15] w:=hS
 have c0:=Frz.le_refl ν15
 have b4:=ArrM.of_arrT cG
 obtain ⟨a1,d8,h⟩:=A1 h
 refine SK.wi (qR (fun cK=>[(35,cK)]) hF (Ht F _ _ d8 ν15 w (hS.frz (i:=3) rfl hlow) b4) ?_)
 rintro cK w a ⟨ν23,a9,aA,aS,bF,rfl,cY,hQ⟩ hF
 replace hext:=Frz.ext_trans hext (Frz.ext_mono bF hS.ext.size)
 obtain ⟨hlow,hS⟩:=hS.frzMerge (i:=3) rfl hlow bF hQ
 replace hq7:=All2.mono Rp48.mono bF.1 hq7
 replace b4:=b4.mono bF.1
 replace c0:=Frz.le_trans c0 bF.1
 refine qn 7 9 [(6,sv a9 a1.1 aA),(7,iv a1.2.1),(8,iv a1.2.2)] hF fun a hF=>?_
 refine wfn rfl ?_
 refine Ar ?_
 refine Ar ?_
 refine Bt 44 [12,13,18,19,21,22,41] _ (D:=fun w=>St w0 [arr 48 21 (fN 21) a9 a1.1.length aA aS,arr 48 21 (fN 21) (some ⟨b6,0,none⟩) ([(volume_Item.mk 3 ByteArray.empty 5 (api_Sweep.mk (api_Site.mk ByteArray.empty 0 0 0 0 0 0 0) 0 0 ([]:(List (List api_Echo)))) (api_Field.mk (api_Grid.mk 0 0 0 0 0) ([]:(List api_Span))) (⟨#[97]⟩:ByteArray))]).length 1 ([[iv 3,.string ByteArray.empty,iv 5,.string ByteArray.empty,iv 0,iv 0,iv 0,iv 0,iv 0,iv 0,iv 0,iv 0,iv 0,.slice none 0 0,iv 0,iv 0,iv 0,iv 0,iv 0,.slice none 0 0,.string (⟨#[97]⟩:ByteArray)]]:List (List Value)),arr 5 1 (fK .u8) ad4 y3.1.length cap5 y3.1,blk b1 48 #[iv 3,.string ByteArray.empty,iv 5,.string ByteArray.empty,iv 0,iv 0,iv 0,iv 0,iv 0,iv 0,iv 0,iv 0,iv 0,.slice none 0 0,iv 0,iv 0,iv 0,iv 0,iv 0,.slice none 0 0,.string (⟨#[97]⟩:ByteArray)]] w∧FrzAt ν23 w) kr kr hF.size (fun w hx=>?_) (fun _ _ h=>h)
 replace hS:=hS.later hx
 refine ⟨⟨St.pick [0,1,2,3] (by decide) hS,hS.frz (i:=4) rfl hlow⟩,?_⟩
 have dR:=Frz.le_refl ν23
 refine WT.s [0,1,2,3,4,5,6,7,8,9,10,11] [12] kr kr ?_
 refine rC 11 [(1,pb b1),(2,sv ad4 y3.1 cap5),(4,sv a4 y9.1 a5),(6,sv a9 a1.1 aA),(7,iv a1.2.1),(49,.bool (bif (bif (y3.2 != 0) then true else (y9.2 != 0)) then true else (a1.2.2 != 0)))] hF A9 fun a hF=>?_
 rcases Bool.eq_false_or_eq_true ((bif (bif (y3.2 != 0) then true else (y9.2 != 0)) then true else (a1.2.2 != 0))) with bB|bB
 ·replace h:=Af h bB
  rw [bB] at hF
  refine C6 [(1,pb b1),(2,sv ad4 y3.1 cap5),(4,sv a4 y9.1 a5),(6,sv a9 a1.1 aA),(7,iv a1.2.1),(49,.bool true),(50,undef)] hF kr kr ⟨kr⟩ ⟨kr⟩ fun a hF=>?_
  refine WRun.fin ?_
  refine all_cons ?_ At
  refine Ho [(1,pb b1),(2,sv ad4 y3.1 cap5),(4,sv a4 y9.1 a5),(6,sv a9 a1.1 aA),(7,iv a1.2.1),(49,.bool true),(50,undef),(51,undef)] hF kr ⟨kr⟩ ⟨kr⟩ fun a hF=>?_
  refine ⟨⟨St.pick [0,1,2,3] (by decide) hS,(hS.frz (i:=4) rfl hlow)⟩,?_⟩
  refine WT.s [] [13] kr kr ?_
  refine WRun.fin ?_
  refine all_cons ?_ At
  refine Ho [(1,pb b1),(2,sv ad4 y3.1 cap5),(4,sv a4 y9.1 a5),(6,sv a9 a1.1 aA),(7,iv a1.2.1),(49,.bool true),(52,undef)] hF kr ⟨kr⟩ ⟨kr⟩ fun a hF=>?_
  refine ⟨⟨St.pick [0,1,2,3] (by decide) hS,(hS.frz (i:=4) rfl hlow)⟩,?_⟩
  refine WT.s [14,15,16,17,20] [18] kr kr ?_
  refine C6 [(1,pb b1),(2,sv ad4 y3.1 cap5),(4,sv a4 y9.1 a5),(6,sv a9 a1.1 aA),(7,iv a1.2.1),(49,.bool true),(53,undef)] hF kr kr ⟨kr⟩ ⟨kr⟩ fun a hF=>?_
  refine rC 2 [(1,pb b1),(2,sv ad4 y3.1 cap5),(4,sv a4 y9.1 a5),(6,sv a9 a1.1 aA),(7,iv a1.2.1),(55,.bool true)] hF A9 fun a hF=>?_
  refine C6 [(1,pb b1),(2,sv ad4 y3.1 cap5),(4,sv a4 y9.1 a5),(6,sv a9 a1.1 aA),(7,iv a1.2.1),(55,.bool true),(56,undef)] hF kr kr ⟨kr⟩ ⟨kr⟩ fun a hF=>?_
  refine C6 [(1,pb b1),(2,sv ad4 y3.1 cap5),(4,sv a4 y9.1 a5),(6,sv a9 a1.1 aA),(7,iv a1.2.1),(55,.bool true),(56,undef),(59,undef)] hF kr kr ⟨kr⟩ ⟨kr⟩ fun a hF=>?_
  refine WRun.fin ?_
  refine all_cons ?_ At
  refine Ho [(1,pb b1),(2,sv ad4 y3.1 cap5),(4,sv a4 y9.1 a5),(6,sv a9 a1.1 aA),(7,iv a1.2.1),(55,.bool true),(56,undef),(57,undef),(59,undef)] hF kr ⟨kr⟩ ⟨kr⟩ fun a hF=>?_
  refine ⟨⟨St.pick [0,1,2,3] (by decide) hS,(hS.frz (i:=4) rfl hlow)⟩,?_⟩
  refine WT.s [] [19] kr kr ?_
  refine WRun.fin ?_
  refine all_cons ?_ At
  refine Ho [(1,pb b1),(2,sv ad4 y3.1 cap5),(4,sv a4 y9.1 a5),(6,sv a9 a1.1 aA),(7,iv a1.2.1),(55,.bool true),(56,undef),(58,undef),(59,undef)] hF kr ⟨kr⟩ ⟨kr⟩ fun a hF=>?_
  refine ⟨⟨St.pick [0,1,2,3] (by decide) hS,(hS.frz (i:=4) rfl hlow)⟩,?_⟩
  refine WT.s [] [21] kr kr ?_
  refine WRun.fin ?_
  refine all_cons ?_ At
  refine Ho [(1,pb b1),(2,sv ad4 y3.1 cap5),(4,sv a4 y9.1 a5),(6,sv a9 a1.1 aA),(7,iv a1.2.1),(55,.bool true),(56,undef),(60,undef)] hF kr ⟨kr⟩ ⟨kr⟩ fun a hF=>?_
  refine ⟨⟨St.pick [0,1,2,3] (by decide) hS,(hS.frz (i:=4) rfl hlow)⟩,?_⟩
  refine WT.s [] [22] kr kr ?_
  refine WRun.fin ?_
  refine all_cons ?_ At
  refine Ho [(1,pb b1),(2,sv ad4 y3.1 cap5),(4,sv a4 y9.1 a5),(6,sv a9 a1.1 aA),(7,iv a1.2.1),(55,.bool true),(61,undef)] hF kr ⟨kr⟩ ⟨kr⟩ fun a hF=>?_
  refine ⟨⟨St.pick [0,1,2,3] (by decide) hS,(hS.frz (i:=4) rfl hlow)⟩,?_⟩
  refine WT.s [23,24,25,26,27,28,29,30,31,32,33,34,35,36,37,38,39,40] [41] kr kr ?_
  refine C6 [(1,pb b1),(2,sv ad4 y3.1 cap5),(4,sv a4 y9.1 a5),(6,sv a9 a1.1 aA),(7,iv a1.2.1),(55,.bool true),(62,undef)] hF kr kr ⟨kr⟩ ⟨kr⟩ fun a hF=>?_
  refine rC 13 [(1,pb b1),(2,sv ad4 y3.1 cap5),(4,sv a4 y9.1 a5),(6,sv a9 a1.1 aA),(75,.bool true)] hF A9 fun a hF=>?_
  refine C6 [(1,pb b1),(2,sv ad4 y3.1 cap5),(4,sv a4 y9.1 a5),(75,.bool true),(76,undef)] hF kr kr ⟨kr⟩ ⟨kr⟩ fun a hF=>?_
  refine C6 [(1,pb b1),(2,sv ad4 y3.1 cap5),(4,sv a4 y9.1 a5),(75,.bool true),(77,undef)] hF kr kr ⟨kr⟩ ⟨kr⟩ fun a hF=>?_
  refine C6 [(1,pb b1),(2,sv ad4 y3.1 cap5),(4,sv a4 y9.1 a5),(75,.bool true),(78,undef)] hF kr kr ⟨kr⟩ ⟨kr⟩ fun a hF=>?_
  refine C6 [(1,pb b1),(2,sv ad4 y3.1 cap5),(4,sv a4 y9.1 a5),(75,.bool true),(78,undef),(79,undef)] hF kr kr ⟨kr⟩ ⟨kr⟩ fun a hF=>?_
  refine WRun.fin ?_
  refine all_cons ?_ At
  refine Ho [(1,pb b1),(2,sv ad4 y3.1 cap5),(4,sv a4 y9.1 a5),(75,.bool true),(80,undef)] hF kr ⟨kr⟩ ⟨kr⟩ fun a hF=>?_
  refine ⟨⟨St.pick [0,1,2,3] (by decide) hS,(hS.frz (i:=4) rfl hlow)⟩,?_⟩
  refine WT.z [42,43] kr ?_
  refine C6 [(1,pb b1),(2,sv ad4 y3.1 cap5),(4,sv a4 y9.1 a5),(75,.bool true),(81,undef)] hF kr kr ⟨kr⟩ ⟨kr⟩ fun a hF=>?_
  refine rC 1 [(1,pb b1),(2,sv ad4 y3.1 cap5),(4,sv a4 y9.1 a5),(82,.bool true)] hF A9 fun a hF=>?_
  refine WRun.fin ?_
  refine wfn rfl ?_
  refine wpIn_cond_true (hF.get rfl) ?_
  refine rnB [(0,.bool false)] hF fun a hF=>?_
  refine wpIn_ret (A6<|Ad [.tmp 0] [.bool false] hF rfl ⟨rfl,trivial⟩ ?_)
  obtain rfl:=Ao h
  exact ⟨rfl,hS.ext⟩
 ·replace h:=Ae h bB
  rw [bB] at hF
  refine Xe (rest:=[]) (obs:=[]) [11] [(1,⟨[],pb b1⟩),(2,⟨[],sv ad4 y3.1 cap5⟩),(4,⟨[],sv a4 y9.1 a5⟩),(6,⟨[],sv a9 a1.1 aA⟩),(7,⟨[],iv a1.2.1⟩),(49,⟨[],.bool false⟩),(50,⟨[⟨49,false,false⟩],sv ad4 y3.1 cap5⟩)] hF kr kr A9 ⟨kr⟩ kr fun a hF=>?_
  replace hF:Fr 175 [] [(1,pb b1),(2,sv ad4 y3.1 cap5),(4,sv a4 y9.1 a5),(6,sv a9 a1.1 aA),(7,iv a1.2.1),(49,.bool false),(50,sv ad4 y3.1 cap5)] a:=hF
  refine WRun.fin ?_
  refine all_cons ?_ At
  refine Fe (e:=5) (sz:=1) (f:=(fK .u8)) (t:=22) (len:=11) (fun aO=>[(1,pb b1),(2,sv ad4 y3.1 cap5),(4,sv a4 y9.1 a5),(6,sv a9 a1.1 aA),(7,iv a1.2.1),(49,.bool false),(50,sv ad4 y3.1 cap5),(51,sb aO 11)]) #[(0,.int .u8 0),(1,.int .u8 5),(2,.int .u8 4),(3,.int .u8 6),(4,.int .u8 2),(5,.int .u8 97),(6,.int .u8 183),(7,.int .u8 135),(8,.int .u8 165),(9,.int .u8 144),(10,.int .u8 1)] #[.int .u8 0,.int .u8 5,.int .u8 4,.int .u8 6,.int .u8 2,.int .u8 97,.int .u8 183,.int .u8 135,.int .u8 165,.int .u8 144,.int .u8 1] ([0,5,4,6,2,97,183,135,165,144,1]) hF hS kr ⟨kr⟩ kr (Bx .u8) rfl rfl kr (fun _=>⟨kr⟩) fun aO w a hF hS=>⟨⟨St.pick [1,2,3,4] (by decide) hS,(hS.frz (i:=5) rfl hlow)⟩,?_⟩
  refine WT.s [] [13] kr kr ?_
  refine WRun.fin ?_
  refine all_cons ?_ At
  obtain ⟨c3,d9,h⟩:=A1 h
  refine X3 [(1,pb b1),(2,sv ad4 y3.1 cap5),(4,sv a4 y9.1 a5),(6,sv a9 a1.1 aA),(7,iv a1.2.1),(49,.bool false),(52,.bool c3)] hF kr ⟨kr⟩ (Hc F _ _ _ d9 (Ay w) w (A5 w) (Arr.toM (hS.arr (i:=3) rfl)) (Arr.toM (hS.arr (i:=0) rfl))) ⟨kr⟩ ?_
  intro w a hx hF
  replace hS:=hS.later hx
  refine ⟨⟨St.pick [1,2,3,4] (by decide) hS,(hS.frz (i:=5) rfl hlow)⟩,?_⟩
  refine WT.s [14,15,16,17,20] [18] kr kr ?_
  refine rC 3 [(1,pb b1),(2,sv ad4 y3.1 cap5),(4,sv a4 y9.1 a5),(6,sv a9 a1.1 aA),(7,iv a1.2.1),(55,.bool (!c3))] hF A9 fun a hF=>?_
  rcases Bool.eq_false_or_eq_true ((!c3)) with bC|bC
  ·replace h:=Af h bC
   rw [bC] at hF
   refine C6 [(1,pb b1),(2,sv ad4 y3.1 cap5),(4,sv a4 y9.1 a5),(6,sv a9 a1.1 aA),(7,iv a1.2.1),(55,.bool true),(56,undef)] hF kr kr ⟨kr⟩ ⟨kr⟩ fun a hF=>?_
   refine C6 [(1,pb b1),(2,sv ad4 y3.1 cap5),(4,sv a4 y9.1 a5),(6,sv a9 a1.1 aA),(7,iv a1.2.1),(55,.bool true),(56,undef),(59,undef)] hF kr kr ⟨kr⟩ ⟨kr⟩ fun a hF=>?_
   refine WRun.fin ?_
   refine all_cons ?_ At
   refine Ho [(1,pb b1),(2,sv ad4 y3.1 cap5),(4,sv a4 y9.1 a5),(6,sv a9 a1.1 aA),(7,iv a1.2.1),(55,.bool true),(56,undef),(57,undef),(59,undef)] hF kr ⟨kr⟩ ⟨kr⟩ fun a hF=>?_
   refine ⟨⟨St.pick [1,2,3,4] (by decide) hS,(hS.frz (i:=5) rfl hlow)⟩,?_⟩
   refine WT.s [] [19] kr kr ?_
   refine WRun.fin ?_
   refine all_cons ?_ At
   refine Ho [(1,pb b1),(2,sv ad4 y3.1 cap5),(4,sv a4 y9.1 a5),(6,sv a9 a1.1 aA),(7,iv a1.2.1),(55,.bool true),(56,undef),(58,undef),(59,undef)] hF kr ⟨kr⟩ ⟨kr⟩ fun a hF=>?_
   refine ⟨⟨St.pick [1,2,3,4] (by decide) hS,(hS.frz (i:=5) rfl hlow)⟩,?_⟩
   refine WT.s [] [21] kr kr ?_
   refine WRun.fin ?_
   refine all_cons ?_ At
   refine Ho [(1,pb b1),(2,sv ad4 y3.1 cap5),(4,sv a4 y9.1 a5),(6,sv a9 a1.1 aA),(7,iv a1.2.1),(55,.bool true),(56,undef),(60,undef)] hF kr ⟨kr⟩ ⟨kr⟩ fun a hF=>?_
   refine ⟨⟨St.pick [1,2,3,4] (by decide) hS,(hS.frz (i:=5) rfl hlow)⟩,?_⟩
   refine WT.s [] [22] kr kr ?_
   refine WRun.fin ?_
   refine all_cons ?_ At
   refine Ho [(1,pb b1),(2,sv ad4 y3.1 cap5),(4,sv a4 y9.1 a5),(6,sv a9 a1.1 aA),(7,iv a1.2.1),(55,.bool true),(61,undef)] hF kr ⟨kr⟩ ⟨kr⟩ fun a hF=>?_
   refine ⟨⟨St.pick [1,2,3,4] (by decide) hS,(hS.frz (i:=5) rfl hlow)⟩,?_⟩
   refine WT.s [23,24,25,26,27,28,29,30,31,32,33,34,35,36,37,38,39,40] [41] kr kr ?_
   refine C6 [(1,pb b1),(2,sv ad4 y3.1 cap5),(4,sv a4 y9.1 a5),(6,sv a9 a1.1 aA),(7,iv a1.2.1),(55,.bool true),(62,undef)] hF kr kr ⟨kr⟩ ⟨kr⟩ fun a hF=>?_
   refine rC 13 [(1,pb b1),(2,sv ad4 y3.1 cap5),(4,sv a4 y9.1 a5),(6,sv a9 a1.1 aA),(75,.bool true)] hF A9 fun a hF=>?_
   refine C6 [(1,pb b1),(2,sv ad4 y3.1 cap5),(4,sv a4 y9.1 a5),(75,.bool true),(76,undef)] hF kr kr ⟨kr⟩ ⟨kr⟩ fun a hF=>?_
   refine C6 [(1,pb b1),(2,sv ad4 y3.1 cap5),(4,sv a4 y9.1 a5),(75,.bool true),(77,undef)] hF kr kr ⟨kr⟩ ⟨kr⟩ fun a hF=>?_
   refine C6 [(1,pb b1),(2,sv ad4 y3.1 cap5),(4,sv a4 y9.1 a5),(75,.bool true),(78,undef)] hF kr kr ⟨kr⟩ ⟨kr⟩ fun a hF=>?_
   refine C6 [(1,pb b1),(2,sv ad4 y3.1 cap5),(4,sv a4 y9.1 a5),(75,.bool true),(78,undef),(79,undef)] hF kr kr ⟨kr⟩ ⟨kr⟩ fun a hF=>?_
   refine WRun.fin ?_
   refine all_cons ?_ At
   refine Ho [(1,pb b1),(2,sv ad4 y3.1 cap5),(4,sv a4 y9.1 a5),(75,.bool true),(80,undef)] hF kr ⟨kr⟩ ⟨kr⟩ fun a hF=>?_
   refine ⟨⟨St.pick [1,2,3,4] (by decide) hS,(hS.frz (i:=5) rfl hlow)⟩,?_⟩
   refine WT.z [42,43] kr ?_
   refine C6 [(1,pb b1),(2,sv ad4 y3.1 cap5),(4,sv a4 y9.1 a5),(75,.bool true),(81,undef)] hF kr kr ⟨kr⟩ ⟨kr⟩ fun a hF=>?_
   refine rC 1 [(1,pb b1),(2,sv ad4 y3.1 cap5),(4,sv a4 y9.1 a5),(82,.bool true)] hF A9 fun a hF=>?_
   refine WRun.fin ?_
   refine wfn rfl ?_
   refine wpIn_cond_true (hF.get rfl) ?_
   refine rnB [(0,.bool false)] hF fun a hF=>?_
   refine wpIn_ret (A6<|Ad [.tmp 0] [.bool false] hF rfl ⟨rfl,trivial⟩ ?_)
   obtain rfl:=Ao h
   exact ⟨rfl,hS.ext⟩
  ·replace h:=Ae h bC
   rw [bC] at hF
   refine Xe (rest:=[]) (obs:=[]) [17,20] [(1,⟨[],pb b1⟩),(2,⟨[],sv ad4 y3.1 cap5⟩),(4,⟨[],sv a4 y9.1 a5⟩),(6,⟨[],sv a9 a1.1 aA⟩),(7,⟨[],iv a1.2.1⟩),(55,⟨[],.bool false⟩),(56,⟨[⟨55,false,false⟩],sv a4 y9.1 a5⟩),(59,⟨[⟨55,false,false⟩],sv ad4 y3.1 cap5⟩)] hF kr kr A9 ⟨kr⟩ kr fun a hF=>?_
   replace hF:Fr 175 [] [(1,pb b1),(2,sv ad4 y3.1 cap5),(4,sv a4 y9.1 a5),(6,sv a9 a1.1 aA),(7,iv a1.2.1),(55,.bool false),(56,sv a4 y9.1 a5),(59,sv ad4 y3.1 cap5)] a:=hF
   refine WRun.fin ?_
   refine all_cons ?_ At
   refine Fe (e:=5) (sz:=1) (f:=(fK .u8)) (t:=22) (len:=4) (fun bN=>[(1,pb b1),(2,sv ad4 y3.1 cap5),(4,sv a4 y9.1 a5),(6,sv a9 a1.1 aA),(7,iv a1.2.1),(55,.bool false),(56,sv a4 y9.1 a5),(57,sb bN 4),(59,sv ad4 y3.1 cap5)]) #[(0,.int .u8 82),(1,.int .u8 86),(2,.int .u8 70),(3,.int .u8 49)] #[.int .u8 82,.int .u8 86,.int .u8 70,.int .u8 49] ([82,86,70,49]) hF hS kr ⟨kr⟩ kr (Bx .u8) rfl rfl kr (fun _=>⟨kr⟩) fun bN w a hF hS=>⟨⟨St.pick [2,3,4,5] (by decide) hS,(hS.frz (i:=6) rfl hlow)⟩,?_⟩
   refine WT.s [] [19] kr kr ?_
   refine WRun.fin ?_
   refine all_cons ?_ At
   replace hS:St w0 [arrT 5 1 (fK .u8) (some ⟨bN,0,none⟩) ([82,86,70,49]).length 4 ([82,86,70,49]),arr 5 1 (fK .u8) (some ⟨aO,0,none⟩) ([0,5,4,6,2,97,183,135,165,144,1]).length 11 ([0,5,4,6,2,97,183,135,165,144,1]),arr 48 21 (fN 21) a9 a1.1.length aA aS,arr 48 21 (fN 21) (some ⟨b6,0,none⟩) ([(volume_Item.mk 3 ByteArray.empty 5 (api_Sweep.mk (api_Site.mk ByteArray.empty 0 0 0 0 0 0 0) 0 0 ([]:(List (List api_Echo)))) (api_Field.mk (api_Grid.mk 0 0 0 0 0) ([]:(List api_Span))) (⟨#[97]⟩:ByteArray))]).length 1 ([[iv 3,.string ByteArray.empty,iv 5,.string ByteArray.empty,iv 0,iv 0,iv 0,iv 0,iv 0,iv 0,iv 0,iv 0,iv 0,.slice none 0 0,iv 0,iv 0,iv 0,iv 0,iv 0,.slice none 0 0,.string (⟨#[97]⟩:ByteArray)]]:List (List Value)),arr 5 1 (fK .u8) ad4 y3.1.length cap5 y3.1,blk b1 48 #[iv 3,.string ByteArray.empty,iv 5,.string ByteArray.empty,iv 0,iv 0,iv 0,iv 0,iv 0,iv 0,iv 0,iv 0,iv 0,.slice none 0 0,iv 0,iv 0,iv 0,iv 0,iv 0,.slice none 0 0,.string (⟨#[97]⟩:ByteArray)],fz w0 ν23] w:=St.toT hS
   refine Pj (src:=22) [(1,pb b1),(2,sv ad4 y3.1 cap5),(4,sv a4 y9.1 a5),(6,sv a9 a1.1 aA),(7,iv a1.2.1),(55,.bool false),(56,sv a4 y9.1 a5),(58,sb bN 4),(59,sv ad4 y3.1 cap5)] 0 hF hS rfl (by decide) kr ⟨kr⟩ kr ⟨kr⟩ fun w a hF hS=>⟨⟨St.pick [2,3,4,5] (by decide) hS,(hS.frz (i:=6) rfl hlow)⟩,?_⟩
   refine WT.s [] [21] kr kr ?_
   refine WRun.fin ?_
   refine all_cons ?_ At
   obtain ⟨aE,cV,h⟩:=A1 h
   refine Ri (t:=22) (ty:=22) (bytes:=1) (l:=([82,86,70,49])) (l':=y3.1) (fun aQ aR=>[(1,pb b1),(2,sv ad4 y3.1 cap5),(4,sv a4 y9.1 a5),(6,sv a9 a1.1 aA),(7,iv a1.2.1),(55,.bool false),(56,sv a4 y9.1 a5),(60,sv aQ aE aR)]) 0 hF hS rfl kr ⟨kr⟩ kr (hS.arr (i:=4) rfl) (fun _ _=>rfl) cV (fun _ _=>⟨kr⟩) fun aQ aR w a hF hS=>⟨⟨St.pick [2,3,4,5] (by decide) hS,(hS.frz (i:=6) rfl hlow)⟩,?_⟩
   refine WT.s [] [22] kr kr ?_
   refine WRun.fin ?_
   refine all_cons ?_ At
   obtain ⟨c4,dA,h⟩:=A1 h
   refine X3 [(1,pb b1),(2,sv ad4 y3.1 cap5),(4,sv a4 y9.1 a5),(6,sv a9 a1.1 aA),(7,iv a1.2.1),(55,.bool false),(61,.bool c4)] hF kr ⟨kr⟩ (Hc F _ _ _ dA (Ay w) w (A5 w) (b4.mono (FrzAt.le_mem (hS.frz (i:=6) rfl hlow))) (Arr.toM (hS.arrT_ (i:=0) rfl))) ⟨kr⟩ ?_
   intro w a hx hF
   replace hS:=hS.later hx
   refine ⟨⟨St.pick [2,3,4,5] (by decide) hS,(hS.frz (i:=6) rfl hlow)⟩,?_⟩
   refine WT.s [23,24,25,26,27,28,29,30,31,32,33,34,35,36,37,38,39,40] [41] kr kr ?_
   refine rC 14 [(1,pb b1),(2,sv ad4 y3.1 cap5),(4,sv a4 y9.1 a5),(6,sv a9 a1.1 aA),(75,.bool (bif (bif (!c4) then true else (a1.2.1 != (ln y9.1))) then true else ((ln a1.1) != 1)))] hF A9 fun a hF=>?_
   rcases Bool.eq_false_or_eq_true ((bif (bif (!c4) then true else (a1.2.1 != (ln y9.1))) then true else ((ln a1.1) != 1))) with bD|bD
   ·replace h:=Af h bD
    rw [bD] at hF
    refine C6 [(1,pb b1),(2,sv ad4 y3.1 cap5),(4,sv a4 y9.1 a5),(75,.bool true),(76,undef)] hF kr kr ⟨kr⟩ ⟨kr⟩ fun a hF=>?_
    refine C6 [(1,pb b1),(2,sv ad4 y3.1 cap5),(4,sv a4 y9.1 a5),(75,.bool true),(77,undef)] hF kr kr ⟨kr⟩ ⟨kr⟩ fun a hF=>?_
    refine C6 [(1,pb b1),(2,sv ad4 y3.1 cap5),(4,sv a4 y9.1 a5),(75,.bool true),(78,undef)] hF kr kr ⟨kr⟩ ⟨kr⟩ fun a hF=>?_
    refine C6 [(1,pb b1),(2,sv ad4 y3.1 cap5),(4,sv a4 y9.1 a5),(75,.bool true),(78,undef),(79,undef)] hF kr kr ⟨kr⟩ ⟨kr⟩ fun a hF=>?_
    refine WRun.fin ?_
    refine all_cons ?_ At
    refine Ho [(1,pb b1),(2,sv ad4 y3.1 cap5),(4,sv a4 y9.1 a5),(75,.bool true),(80,undef)] hF kr ⟨kr⟩ ⟨kr⟩ fun a hF=>?_
    refine ⟨⟨St.pick [2,3,4,5] (by decide) hS,(hS.frz (i:=6) rfl hlow)⟩,?_⟩
    refine WT.z [42,43] kr ?_
    refine C6 [(1,pb b1),(2,sv ad4 y3.1 cap5),(4,sv a4 y9.1 a5),(75,.bool true),(81,undef)] hF kr kr ⟨kr⟩ ⟨kr⟩ fun a hF=>?_
    refine rC 1 [(1,pb b1),(2,sv ad4 y3.1 cap5),(4,sv a4 y9.1 a5),(82,.bool true)] hF A9 fun a hF=>?_
    refine WRun.fin ?_
    refine wfn rfl ?_
    refine wpIn_cond_true (hF.get rfl) ?_
    refine rnB [(0,.bool false)] hF fun a hF=>?_
    refine wpIn_ret (A6<|Ad [.tmp 0] [.bool false] hF rfl ⟨rfl,trivial⟩ ?_)
    obtain rfl:=Ao h
    exact ⟨rfl,hS.ext⟩
   ·replace h:=Ae h bD
    rw [bD] at hF
    obtain ⟨a2,d3,h⟩:=A1 h
    obtain ⟨dN,cB,cT⟩:=Bd cY d3
    obtain ⟨bK,bR,dQ,bL,bS,rfl,cQ,cR⟩:=cT
    refine Xe (rest:=[]) (obs:=[.run [⟨75,false,false⟩] (Instr.indexAt 24 (sv a9 a1.1 aA) (iv 0)) (.pointer (some (Bc a9 0 21))),.run [⟨75,false,false⟩] (Instr.loadAt 48 (.pointer (some (Bc a9 0 21)))) (.agg #[iv a2.Kind,.string a2.Name,iv a2.Time,.string a2.Sweep.Site.Name,iv a2.Sweep.Site.X,iv a2.Sweep.Site.Y,iv a2.Sweep.Site.Z,iv a2.Sweep.Site.Rose,iv a2.Sweep.Site.Gates,iv a2.Sweep.Site.Step,iv a2.Sweep.Site.Width,iv a2.Sweep.Tilt,iv a2.Sweep.Time,sv bK a2.Sweep.Rays bR,iv a2.Field.Grid.X,iv a2.Field.Grid.Y,iv a2.Field.Grid.Size,iv a2.Field.Grid.Wide,iv a2.Field.Grid.High,sv bL a2.Field.Vals bS,.string a2.Text]),.run [⟨75,false,false⟩] (Instr.loadAt 48 (pb b1)) (.agg #[iv 3,.string ByteArray.empty,iv 5,.string ByteArray.empty,iv 0,iv 0,iv 0,iv 0,iv 0,iv 0,iv 0,iv 0,iv 0,.slice none 0 0,iv 0,iv 0,iv 0,iv 0,iv 0,.slice none 0 0,.string (⟨#[97]⟩:ByteArray)])]) [37,38,39,40] [(1,⟨[],pb b1⟩),(2,⟨[],sv ad4 y3.1 cap5⟩),(4,⟨[],sv a4 y9.1 a5⟩),(75,⟨[],.bool false⟩),(78,⟨[⟨75,false,false⟩],.agg #[iv a2.Kind,.string a2.Name,iv a2.Time,.string a2.Sweep.Site.Name,iv a2.Sweep.Site.X,iv a2.Sweep.Site.Y,iv a2.Sweep.Site.Z,iv a2.Sweep.Site.Rose,iv a2.Sweep.Site.Gates,iv a2.Sweep.Site.Step,iv a2.Sweep.Site.Width,iv a2.Sweep.Tilt,iv a2.Sweep.Time,sv bK a2.Sweep.Rays bR,iv a2.Field.Grid.X,iv a2.Field.Grid.Y,iv a2.Field.Grid.Size,iv a2.Field.Grid.Wide,iv a2.Field.Grid.High,sv bL a2.Field.Vals bS,.string a2.Text]⟩),(79,⟨[⟨75,false,false⟩],.agg #[iv 3,.string ByteArray.empty,iv 5,.string ByteArray.empty,iv 0,iv 0,iv 0,iv 0,iv 0,iv 0,iv 0,iv 0,iv 0,.slice none 0 0,iv 0,iv 0,iv 0,iv 0,iv 0,.slice none 0 0,.string (⟨#[97]⟩:ByteArray)]⟩)] hF kr kr (Ha (Gj (hS.arr (i:=2) rfl) kr (fun _=>cB)) (Ha (Nx (m:=21) (i:=0) (us:=[iv a2.Kind,.string a2.Name,iv a2.Time,.string a2.Sweep.Site.Name,iv a2.Sweep.Site.X,iv a2.Sweep.Site.Y,iv a2.Sweep.Site.Z,iv a2.Sweep.Site.Rose,iv a2.Sweep.Site.Gates,iv a2.Sweep.Site.Step,iv a2.Sweep.Site.Width,iv a2.Sweep.Tilt,iv a2.Sweep.Time,sv bK a2.Sweep.Rays bR,iv a2.Field.Grid.X,iv a2.Field.Grid.Y,iv a2.Field.Grid.Size,iv a2.Field.Grid.Wide,iv a2.Field.Grid.High,sv bL a2.Field.Vals bS,.string a2.Text]) 0 (Bz 21) (fun _ hd=>(hd.1.arr (i:=0) rfl)) kr (fun _=>cB) ⟨rfl,rfl⟩) (Ha (obN (us:=[iv 3,.string ByteArray.empty,iv 5,.string ByteArray.empty,iv 0,iv 0,iv 0,iv 0,iv 0,iv 0,iv 0,iv 0,iv 0,.slice none 0 0,iv 0,iv 0,iv 0,iv 0,iv 0,.slice none 0 0,.string (⟨#[97]⟩:ByteArray)]) kr (fun _ hd=>(hd.1.blk (i:=3) rfl).cells rfl)) A9))) ⟨kr⟩ kr fun a hF=>?_
    replace hF:Fr 175 [] [(1,pb b1),(2,sv ad4 y3.1 cap5),(4,sv a4 y9.1 a5),(75,.bool false),(78,.agg #[iv a2.Kind,.string a2.Name,iv a2.Time,.string a2.Sweep.Site.Name,iv a2.Sweep.Site.X,iv a2.Sweep.Site.Y,iv a2.Sweep.Site.Z,iv a2.Sweep.Site.Rose,iv a2.Sweep.Site.Gates,iv a2.Sweep.Site.Step,iv a2.Sweep.Site.Width,iv a2.Sweep.Tilt,iv a2.Sweep.Time,sv bK a2.Sweep.Rays bR,iv a2.Field.Grid.X,iv a2.Field.Grid.Y,iv a2.Field.Grid.Size,iv a2.Field.Grid.Wide,iv a2.Field.Grid.High,sv bL a2.Field.Vals bS,.string a2.Text]),(79,.agg #[iv 3,.string ByteArray.empty,iv 5,.string ByteArray.empty,iv 0,iv 0,iv 0,iv 0,iv 0,iv 0,iv 0,iv 0,iv 0,.slice none 0 0,iv 0,iv 0,iv 0,iv 0,iv 0,.slice none 0 0,.string (⟨#[97]⟩:ByteArray)])] a:=hF
    refine WRun.fin ?_
    refine all_cons ?_ At
    obtain ⟨cN,dB,h⟩:=A1 h
    refine X3 [(1,pb b1),(2,sv ad4 y3.1 cap5),(4,sv a4 y9.1 a5),(75,.bool false),(80,.bool cN)] hF kr ⟨kr⟩ (Qo F _ _ _ dB (Ay w) w (A5 w) (cQ.mono Rp87.mono (FrzAt.le_mem (hS.frz (i:=6) rfl hlow))) (cR.mono (FrzAt.le_mem (hS.frz (i:=6) rfl hlow))) ArrQ.nil ArrM.nil) ⟨kr⟩ ?_
    intro w a hx hF
    replace hS:=hS.later hx
    refine ⟨⟨St.pick [2,3,4,5] (by decide) hS,(hS.frz (i:=6) rfl hlow)⟩,?_⟩
    refine WT.z [42,43] kr ?_
    refine rC 2 [(1,pb b1),(2,sv ad4 y3.1 cap5),(4,sv a4 y9.1 a5),(82,.bool (!cN))] hF A9 fun a hF=>?_
    refine WRun.fin ?_
    refine wfn rfl ?_
    refine Aj hF rfl (fun hc=>?_) (fun hc=>?_)
    ·replace h:=Af h hc
     refine rnB [(0,.bool false)] hF fun a hF=>?_
     refine wpIn_ret (A6<|Ad [.tmp 0] [.bool false] hF rfl ⟨rfl,trivial⟩ ?_)
     obtain rfl:=Ao h
     exact ⟨rfl,hS.ext⟩
    ·replace h:=Ae h hc
     refine wpIn_skip (A0 ?_)
     refine esr ?_
     obtain ⟨bI,cD,h⟩:=A1 h
     obtain ⟨dL,cE,h⟩:=A1 h
     refine qo 5 5 [(86,.int .u8 (IntKind.u8.wrap (bI+1))),(87,.pointer (some (Bc a4 8 1)))] hF (oI 22 (b4 _ (hS.frz (i:=6) rfl hlow)) cD<|oE 5 0 (Bx .u8) (fun _ hd=>(b4 _ ((hS.at_ hd).frz (i:=6) rfl hlow))) cD rfl<|oX (.run [] (binOp .add 5 (.int .u8 bI) (.int .u8 1)) (.int .u8 (IntKind.u8.wrap (bI+1)))) (obW kr)<|oI 22 (b4 _ (hS.frz (i:=6) rfl hlow)) cE<|A9) fun a hF=>?_
     replace hS:=hS.s6
     replace hS:=St.thaw hS hlow c0 c1.1 cG hft18
     replace hq7:=cZ
     replace hext:=d0
     replace hlow:=d1
     replace hS:St w0 [arrT 5 1 (fK .u8) a4 y9.1.length a5 y9.1,fz w0 μ,arrT 5 1 (fK .u8) aQ aE.length aR aE,arr 5 1 (fK .u8) (some ⟨aO,0,none⟩) ([0,5,4,6,2,97,183,135,165,144,1]).length 11 ([0,5,4,6,2,97,183,135,165,144,1]),arr 48 21 (fN 21) a9 a1.1.length aA aS,arr 48 21 (fN 21) (some ⟨b6,0,none⟩) ([(volume_Item.mk 3 ByteArray.empty 5 (api_Sweep.mk (api_Site.mk ByteArray.empty 0 0 0 0 0 0 0) 0 0 ([]:(List (List api_Echo)))) (api_Field.mk (api_Grid.mk 0 0 0 0 0) ([]:(List api_Span))) (⟨#[97]⟩:ByteArray))]).length 1 ([[iv 3,.string ByteArray.empty,iv 5,.string ByteArray.empty,iv 0,iv 0,iv 0,iv 0,iv 0,iv 0,iv 0,iv 0,iv 0,.slice none 0 0,iv 0,iv 0,iv 0,iv 0,iv 0,.slice none 0 0,.string (⟨#[97]⟩:ByteArray)]]:List (List Value)),arr 5 1 (fK .u8) ad4 y3.1.length cap5 y3.1,blk b1 48 #[iv 3,.string ByteArray.empty,iv 5,.string ByteArray.empty,iv 0,iv 0,iv 0,iv 0,iv 0,iv 0,iv 0,iv 0,iv 0,.slice none 0 0,iv 0,iv 0,iv 0,iv 0,iv 0,.slice none 0 0,.string (⟨#[97]⟩:ByteArray)]] w:=hS
     obtain ⟨dK,cW,h⟩:=A1 h
     refine SK.wi (A2v (j:=8) (t:=5) [(1,pb b1),(2,sv ad4 y3.1 cap5),(4,sv a4 y9.1 a5)] 0 0 dL (IntKind.u8.wrap (bI+1)) (.int .u8 (IntKind.u8.wrap (bI+1))) hF hS rfl kr ⟨kr⟩ (Bx .u8) cE rfl kr kr kr cW ⟨kr⟩ fun w a hF hl hS=>?_)
     simp only [sv,ln,hl] at hF hS
     refine wfn rfl ?_
     refine esr ?_
     refine rn 1 1 [(1,pb b1),(2,sv ad4 y3.1 cap5),(89,sv a4 dK a5)] hF fun a hF=>?_
     have eP:=hq7
     have eQ:=hext
     have eR:=hlow
     obtain ⟨ν61,cF,hlow,hS,dH,hft64⟩:=hS.freezeT (i:=1) (j:=0) rfl rfl (by decide) hlow
     replace hq7:=All2.mono Rp48.mono cF.1 hq7
     replace hext:=Frz.ext_trans hext cF
     replace hS:St w0 [fz w0 ν61,arrT 5 1 (fK .u8) aQ aE.length aR aE,arr 5 1 (fK .u8) (some ⟨aO,0,none⟩) ([0,5,4,6,2,97,183,135,165,144,1]).length 11 ([0,5,4,6,2,97,183,135,165,144,1]),arr 48 21 (fN 21) a9 a1.1.length aA aS,arr 48 21 (fN 21) (some ⟨b6,0,none⟩) ([(volume_Item.mk 3 ByteArray.empty 5 (api_Sweep.mk (api_Site.mk ByteArray.empty 0 0 0 0 0 0 0) 0 0 ([]:(List (List api_Echo)))) (api_Field.mk (api_Grid.mk 0 0 0 0 0) ([]:(List api_Span))) (⟨#[97]⟩:ByteArray))]).length 1 ([[iv 3,.string ByteArray.empty,iv 5,.string ByteArray.empty,iv 0,iv 0,iv 0,iv 0,iv 0,iv 0,iv 0,iv 0,iv 0,.slice none 0 0,iv 0,iv 0,iv 0,iv 0,iv 0,.slice none 0 0,.string (⟨#[97]⟩:ByteArray)]]:List (List Value)),arr 5 1 (fK .u8) ad4 y3.1.length cap5 y3.1,blk b1 48 #[iv 3,.string ByteArray.empty,iv 5,.string ByteArray.empty,iv 0,iv 0,iv 0,iv 0,iv 0,iv 0,iv 0,iv 0,iv 0,.slice none 0 0,iv 0,iv 0,iv 0,iv 0,iv 0,.slice none 0 0,.string (⟨#[97]⟩:ByteArray)]] w:=hS
     have aD:=Frz.le_refl ν61
     have aC:=ArrM.of_arrT dH
     obtain ⟨a3,dC,h⟩:=A1 h
     refine SK.wi (qR (fun cL=>[(90,cL)]) hF (Ht F _ _ dC ν61 w (hS.frz (i:=0) rfl hlow) aC) ?_)
     rintro cL w a ⟨ν69,aX,aY,aZ,bG,rfl,aF,hQ⟩ hF
     replace hext:=Frz.ext_trans hext (Frz.ext_mono bG hS.ext.size)
     obtain ⟨hlow,hS⟩:=hS.frzMerge (i:=0) rfl hlow bG hQ
     replace hq7:=All2.mono Rp48.mono bG.1 hq7
     replace aC:=aC.mono bG.1
     replace aD:=Frz.le_trans aD bG.1
     refine qn 7 9 [(3,iv a3.2.2),(10,iv a3.2.1)] hF fun a hF=>?_
     refine wfn rfl ?_
     refine esr ?_
     refine SK.wi (Fe (e:=5) (sz:=1) (f:=(fK .u8)) (t:=22) (len:=4) (fun bO=>[(1,pb b1),(2,sv ad4 y3.1 cap5),(3,iv a3.2.2),(10,iv a3.2.1),(95,sb bO 4)]) #[(0,.int .u8 82),(1,.int .u8 86),(2,.int .u8 70),(3,.int .u8 49)] #[.int .u8 82,.int .u8 86,.int .u8 70,.int .u8 49] ([82,86,70,49]) hF hS kr ⟨kr⟩ kr (Bx .u8) rfl rfl kr (fun _=>⟨kr⟩) fun bO w a hF hS=>?_)
     replace hS:St w0 [arrT 5 1 (fK .u8) (some ⟨bO,0,none⟩) ([82,86,70,49]).length 4 ([82,86,70,49]),arr 48 21 (fN 21) aX a3.1.length aY aZ,fz w0 ν69,arrT 5 1 (fK .u8) aQ aE.length aR aE,arr 5 1 (fK .u8) (some ⟨aO,0,none⟩) ([0,5,4,6,2,97,183,135,165,144,1]).length 11 ([0,5,4,6,2,97,183,135,165,144,1]),arr 48 21 (fN 21) a9 a1.1.length aA aS,arr 48 21 (fN 21) (some ⟨b6,0,none⟩) ([(volume_Item.mk 3 ByteArray.empty 5 (api_Sweep.mk (api_Site.mk ByteArray.empty 0 0 0 0 0 0 0) 0 0 ([]:(List (List api_Echo)))) (api_Field.mk (api_Grid.mk 0 0 0 0 0) ([]:(List api_Span))) (⟨#[97]⟩:ByteArray))]).length 1 ([[iv 3,.string ByteArray.empty,iv 5,.string ByteArray.empty,iv 0,iv 0,iv 0,iv 0,iv 0,iv 0,iv 0,iv 0,iv 0,.slice none 0 0,iv 0,iv 0,iv 0,iv 0,iv 0,.slice none 0 0,.string (⟨#[97]⟩:ByteArray)]]:List (List Value)),arr 5 1 (fK .u8) ad4 y3.1.length cap5 y3.1,blk b1 48 #[iv 3,.string ByteArray.empty,iv 5,.string ByteArray.empty,iv 0,iv 0,iv 0,iv 0,iv 0,iv 0,iv 0,iv 0,iv 0,.slice none 0 0,iv 0,iv 0,iv 0,iv 0,iv 0,.slice none 0 0,.string (⟨#[97]⟩:ByteArray)]] w:=St.toT hS
     refine SK.wi (Pj (src:=22) [(1,pb b1),(2,sv ad4 y3.1 cap5),(3,iv a3.2.2),(10,iv a3.2.1),(96,sb bO 4)] 0 hF hS rfl (by decide) kr ⟨kr⟩ kr ⟨kr⟩ fun w a hF hS=>?_)
     have eS:=hq7
     have eT:=aC
     have eU:=aF
     have eV:=aD
     have eW:=hext
     have eX:=hlow
     obtain ⟨ν82,bH,hlow,hS,dI,hft85⟩:=hS.freezeT (i:=2) (j:=0) rfl rfl (by decide) hlow
     replace hq7:=All2.mono Rp48.mono bH.1 hq7
     replace aC:=aC.mono bH.1
     replace aF:=All2.mono Rp48.mono bH.1 aF
     replace aD:=Frz.le_trans aD bH.1
     replace hext:=Frz.ext_trans hext bH
     replace hS:St w0 [arr 48 21 (fN 21) aX a3.1.length aY aZ,fz w0 ν82,arrT 5 1 (fK .u8) aQ aE.length aR aE,arr 5 1 (fK .u8) (some ⟨aO,0,none⟩) ([0,5,4,6,2,97,183,135,165,144,1]).length 11 ([0,5,4,6,2,97,183,135,165,144,1]),arr 48 21 (fN 21) a9 a1.1.length aA aS,arr 48 21 (fN 21) (some ⟨b6,0,none⟩) ([(volume_Item.mk 3 ByteArray.empty 5 (api_Sweep.mk (api_Site.mk ByteArray.empty 0 0 0 0 0 0 0) 0 0 ([]:(List (List api_Echo)))) (api_Field.mk (api_Grid.mk 0 0 0 0 0) ([]:(List api_Span))) (⟨#[97]⟩:ByteArray))]).length 1 ([[iv 3,.string ByteArray.empty,iv 5,.string ByteArray.empty,iv 0,iv 0,iv 0,iv 0,iv 0,iv 0,iv 0,iv 0,iv 0,.slice none 0 0,iv 0,iv 0,iv 0,iv 0,iv 0,.slice none 0 0,.string (⟨#[97]⟩:ByteArray)]]:List (List Value)),arr 5 1 (fK .u8) ad4 y3.1.length cap5 y3.1,blk b1 48 #[iv 3,.string ByteArray.empty,iv 5,.string ByteArray.empty,iv 0,iv 0,iv 0,iv 0,iv 0,iv 0,iv 0,iv 0,iv 0,.slice none 0 0,iv 0,iv 0,iv 0,iv 0,iv 0,.slice none 0 0,.string (⟨#[97]⟩:ByteArray)]] w:=hS
     have aJ:=Frz.le_refl ν82
     have aI:=ArrM.of_arrT dI
     obtain ⟨a0,dD,h⟩:=A1 h
     refine SK.wi (rR (fun cM=>[(1,pb b1),(2,sv ad4 y3.1 cap5),(3,iv a3.2.2),(10,iv a3.2.1),(97,cM)]) hF (Ht F _ _ dD ν82 w (hS.frz (i:=1) rfl hlow) aI) ?_)
     rintro cM w a ⟨ν90,aG,aH,b8,b3,rfl,aL,hQ⟩ hF
     replace hext:=Frz.ext_trans hext (Frz.ext_mono b3 hS.ext.size)
     obtain ⟨hlow,hS⟩:=hS.frzMerge (i:=1) rfl hlow b3 hQ
     replace hq7:=All2.mono Rp48.mono b3.1 hq7
     replace aC:=aC.mono b3.1
     replace aF:=All2.mono Rp48.mono b3.1 aF
     replace aI:=aI.mono b3.1
     replace aD:=Frz.le_trans aD b3.1
     replace aJ:=Frz.le_trans aJ b3.1
     refine qn 7 10 [(5,iv a0.2.2),(11,sv aG a0.1 aH),(12,iv a0.2.1)] hF fun a hF=>?_
     refine wfn rfl ?_
     refine esr ?_
     refine SK.wi (Fe (e:=5) (sz:=1) (f:=(fK .u8)) (t:=22) (len:=7) (fun bP=>[(1,pb b1),(2,sv ad4 y3.1 cap5),(3,iv a3.2.2),(5,iv a0.2.2),(10,iv a3.2.1),(11,sv aG a0.1 aH),(12,iv a0.2.1),(102,sb bP 7)]) #[(0,.int .u8 82),(1,.int .u8 86),(2,.int .u8 70),(3,.int .u8 49),(4,.int .u8 0),(5,.int .u8 5),(6,.int .u8 4)] #[.int .u8 82,.int .u8 86,.int .u8 70,.int .u8 49,.int .u8 0,.int .u8 5,.int .u8 4] ([82,86,70,49,0,5,4]) hF hS kr ⟨kr⟩ kr (Bx .u8) rfl rfl kr (fun _=>⟨kr⟩) fun bP w a hF hS=>?_)
     replace hS:St w0 [arrT 5 1 (fK .u8) (some ⟨bP,0,none⟩) ([82,86,70,49,0,5,4]).length 7 ([82,86,70,49,0,5,4]),arr 48 21 (fN 21) aG a0.1.length aH b8,arr 48 21 (fN 21) aX a3.1.length aY aZ,fz w0 ν90,arrT 5 1 (fK .u8) aQ aE.length aR aE,arr 5 1 (fK .u8) (some ⟨aO,0,none⟩) ([0,5,4,6,2,97,183,135,165,144,1]).length 11 ([0,5,4,6,2,97,183,135,165,144,1]),arr 48 21 (fN 21) a9 a1.1.length aA aS,arr 48 21 (fN 21) (some ⟨b6,0,none⟩) ([(volume_Item.mk 3 ByteArray.empty 5 (api_Sweep.mk (api_Site.mk ByteArray.empty 0 0 0 0 0 0 0) 0 0 ([]:(List (List api_Echo)))) (api_Field.mk (api_Grid.mk 0 0 0 0 0) ([]:(List api_Span))) (⟨#[97]⟩:ByteArray))]).length 1 ([[iv 3,.string ByteArray.empty,iv 5,.string ByteArray.empty,iv 0,iv 0,iv 0,iv 0,iv 0,iv 0,iv 0,iv 0,iv 0,.slice none 0 0,iv 0,iv 0,iv 0,iv 0,iv 0,.slice none 0 0,.string (⟨#[97]⟩:ByteArray)]]:List (List Value)),arr 5 1 (fK .u8) ad4 y3.1.length cap5 y3.1,blk b1 48 #[iv 3,.string ByteArray.empty,iv 5,.string ByteArray.empty,iv 0,iv 0,iv 0,iv 0,iv 0,iv 0,iv 0,iv 0,iv 0,.slice none 0 0,iv 0,iv 0,iv 0,iv 0,iv 0,.slice none 0 0,.string (⟨#[97]⟩:ByteArray)]] w:=St.toT hS
     refine SK.wi (Pj (src:=22) [(1,pb b1),(2,sv ad4 y3.1 cap5),(3,iv a3.2.2),(5,iv a0.2.2),(10,iv a3.2.1),(11,sv aG a0.1 aH),(12,iv a0.2.1),(103,sb bP 7)] 0 hF hS rfl (by decide) kr ⟨kr⟩ kr ⟨kr⟩ fun w a hF hS=>?_)
     have eY:=hq7
     have eZ:=aC
     have f0:=aF
     have dS:=aI
     have dT:=aL
     have dU:=aD
     have dV:=aJ
     have dW:=hext
     have dX:=hlow
     obtain ⟨ν106,b2,hlow,hS,dE,hft109⟩:=hS.freezeT (i:=3) (j:=0) rfl rfl (by decide) hlow
     replace hq7:=All2.mono Rp48.mono b2.1 hq7
     replace aC:=aC.mono b2.1
     replace aF:=All2.mono Rp48.mono b2.1 aF
     replace aI:=aI.mono b2.1
     replace aL:=All2.mono Rp48.mono b2.1 aL
     replace aD:=Frz.le_trans aD b2.1
     replace aJ:=Frz.le_trans aJ b2.1
     replace hext:=Frz.ext_trans hext b2
     replace hS:St w0 [arr 48 21 (fN 21) aG a0.1.length aH b8,arr 48 21 (fN 21) aX a3.1.length aY aZ,fz w0 ν106,arrT 5 1 (fK .u8) aQ aE.length aR aE,arr 5 1 (fK .u8) (some ⟨aO,0,none⟩) ([0,5,4,6,2,97,183,135,165,144,1]).length 11 ([0,5,4,6,2,97,183,135,165,144,1]),arr 48 21 (fN 21) a9 a1.1.length aA aS,arr 48 21 (fN 21) (some ⟨b6,0,none⟩) ([(volume_Item.mk 3 ByteArray.empty 5 (api_Sweep.mk (api_Site.mk ByteArray.empty 0 0 0 0 0 0 0) 0 0 ([]:(List (List api_Echo)))) (api_Field.mk (api_Grid.mk 0 0 0 0 0) ([]:(List api_Span))) (⟨#[97]⟩:ByteArray))]).length 1 ([[iv 3,.string ByteArray.empty,iv 5,.string ByteArray.empty,iv 0,iv 0,iv 0,iv 0,iv 0,iv 0,iv 0,iv 0,iv 0,.slice none 0 0,iv 0,iv 0,iv 0,iv 0,iv 0,.slice none 0 0,.string (⟨#[97]⟩:ByteArray)]]:List (List Value)),arr 5 1 (fK .u8) ad4 y3.1.length cap5 y3.1,blk b1 48 #[iv 3,.string ByteArray.empty,iv 5,.string ByteArray.empty,iv 0,iv 0,iv 0,iv 0,iv 0,iv 0,iv 0,iv 0,iv 0,.slice none 0 0,iv 0,iv 0,iv 0,iv 0,iv 0,.slice none 0 0,.string (⟨#[97]⟩:ByteArray)]] w:=hS
     have aT:=Frz.le_refl ν106
     have aP:=ArrM.of_arrT dE
     obtain ⟨a7,d4,h⟩:=A1 h
     refine SK.wi (rR (fun cH=>[(1,pb b1),(2,sv ad4 y3.1 cap5),(3,iv a3.2.2),(5,iv a0.2.2),(10,iv a3.2.1),(11,sv aG a0.1 aH),(12,iv a0.2.1),(104,cH)]) hF (Ht F _ _ d4 ν106 w (hS.frz (i:=2) rfl hlow) aP) ?_)
     rintro cH w a ⟨ν114,bJ,bQ,bT,aU,rfl,aW,hQ⟩ hF
     replace hext:=Frz.ext_trans hext (Frz.ext_mono aU hS.ext.size)
     obtain ⟨hlow,hS⟩:=hS.frzMerge (i:=2) rfl hlow aU hQ
     replace hq7:=All2.mono Rp48.mono aU.1 hq7
     replace aC:=aC.mono aU.1
     replace aF:=All2.mono Rp48.mono aU.1 aF
     replace aI:=aI.mono aU.1
     replace aL:=All2.mono Rp48.mono aU.1 aL
     replace aP:=aP.mono aU.1
     replace aD:=Frz.le_trans aD aU.1
     replace aJ:=Frz.le_trans aJ aU.1
     replace aT:=Frz.le_trans aT aU.1
     refine qn 7 10 [(8,iv a7.2.2),(14,iv a7.2.1)] hF fun a hF=>?_
     refine wfn rfl ?_
     refine esr ?_
     refine SK.wi (Fe (e:=5) (sz:=1) (f:=(fK .u8)) (t:=22) (len:=4) (fun bM=>[(1,pb b1),(2,sv ad4 y3.1 cap5),(3,iv a3.2.2),(5,iv a0.2.2),(8,iv a7.2.2),(10,iv a3.2.1),(11,sv aG a0.1 aH),(12,iv a0.2.1),(14,iv a7.2.1),(109,sb bM 4)]) #[(0,.int .u8 82),(1,.int .u8 86),(2,.int .u8 70),(3,.int .u8 50)] #[.int .u8 82,.int .u8 86,.int .u8 70,.int .u8 50] ([82,86,70,50]) hF hS kr ⟨kr⟩ kr (Bx .u8) rfl rfl kr (fun _=>⟨kr⟩) fun bM w a hF hS=>?_)
     replace hS:St w0 [arrT 5 1 (fK .u8) (some ⟨bM,0,none⟩) ([82,86,70,50]).length 4 ([82,86,70,50]),arr 48 21 (fN 21) bJ a7.1.length bQ bT,arr 48 21 (fN 21) aG a0.1.length aH b8,arr 48 21 (fN 21) aX a3.1.length aY aZ,fz w0 ν114,arrT 5 1 (fK .u8) aQ aE.length aR aE,arr 5 1 (fK .u8) (some ⟨aO,0,none⟩) ([0,5,4,6,2,97,183,135,165,144,1]).length 11 ([0,5,4,6,2,97,183,135,165,144,1]),arr 48 21 (fN 21) a9 a1.1.length aA aS,arr 48 21 (fN 21) (some ⟨b6,0,none⟩) ([(volume_Item.mk 3 ByteArray.empty 5 (api_Sweep.mk (api_Site.mk ByteArray.empty 0 0 0 0 0 0 0) 0 0 ([]:(List (List api_Echo)))) (api_Field.mk (api_Grid.mk 0 0 0 0 0) ([]:(List api_Span))) (⟨#[97]⟩:ByteArray))]).length 1 ([[iv 3,.string ByteArray.empty,iv 5,.string ByteArray.empty,iv 0,iv 0,iv 0,iv 0,iv 0,iv 0,iv 0,iv 0,iv 0,.slice none 0 0,iv 0,iv 0,iv 0,iv 0,iv 0,.slice none 0 0,.string (⟨#[97]⟩:ByteArray)]]:List (List Value)),arr 5 1 (fK .u8) ad4 y3.1.length cap5 y3.1,blk b1 48 #[iv 3,.string ByteArray.empty,iv 5,.string ByteArray.empty,iv 0,iv 0,iv 0,iv 0,iv 0,iv 0,iv 0,iv 0,iv 0,.slice none 0 0,iv 0,iv 0,iv 0,iv 0,iv 0,.slice none 0 0,.string (⟨#[97]⟩:ByteArray)]] w:=St.toT hS
     refine SK.wi (Pj (src:=22) [(1,pb b1),(2,sv ad4 y3.1 cap5),(3,iv a3.2.2),(5,iv a0.2.2),(8,iv a7.2.2),(10,iv a3.2.1),(11,sv aG a0.1 aH),(12,iv a0.2.1),(14,iv a7.2.1),(110,sb bM 4)] 0 hF hS rfl (by decide) kr ⟨kr⟩ kr ⟨kr⟩ fun w a hF hS=>?_)
     have dY:=hq7
     have dZ:=aC
     have e0:=aF
     have e1:=aI
     have e2:=aL
     have e3:=aP
     have e4:=aW
     have e5:=aD
     have e6:=aJ
     have e7:=aT
     have e8:=hext
     have e9:=hlow
     obtain ⟨ν133,aV,hlow,hS,dF,hft136⟩:=hS.freezeT (i:=4) (j:=0) rfl rfl (by decide) hlow
     replace hq7:=All2.mono Rp48.mono aV.1 hq7
     replace aC:=aC.mono aV.1
     replace aF:=All2.mono Rp48.mono aV.1 aF
     replace aI:=aI.mono aV.1
     replace aL:=All2.mono Rp48.mono aV.1 aL
     replace aP:=aP.mono aV.1
     replace aW:=All2.mono Rp48.mono aV.1 aW
     replace aD:=Frz.le_trans aD aV.1
     replace aJ:=Frz.le_trans aJ aV.1
     replace aT:=Frz.le_trans aT aV.1
     replace hext:=Frz.ext_trans hext aV
     replace hS:St w0 [arr 48 21 (fN 21) bJ a7.1.length bQ bT,arr 48 21 (fN 21) aG a0.1.length aH b8,arr 48 21 (fN 21) aX a3.1.length aY aZ,fz w0 ν133,arrT 5 1 (fK .u8) aQ aE.length aR aE,arr 5 1 (fK .u8) (some ⟨aO,0,none⟩) ([0,5,4,6,2,97,183,135,165,144,1]).length 11 ([0,5,4,6,2,97,183,135,165,144,1]),arr 48 21 (fN 21) a9 a1.1.length aA aS,arr 48 21 (fN 21) (some ⟨b6,0,none⟩) ([(volume_Item.mk 3 ByteArray.empty 5 (api_Sweep.mk (api_Site.mk ByteArray.empty 0 0 0 0 0 0 0) 0 0 ([]:(List (List api_Echo)))) (api_Field.mk (api_Grid.mk 0 0 0 0 0) ([]:(List api_Span))) (⟨#[97]⟩:ByteArray))]).length 1 ([[iv 3,.string ByteArray.empty,iv 5,.string ByteArray.empty,iv 0,iv 0,iv 0,iv 0,iv 0,iv 0,iv 0,iv 0,iv 0,.slice none 0 0,iv 0,iv 0,iv 0,iv 0,iv 0,.slice none 0 0,.string (⟨#[97]⟩:ByteArray)]]:List (List Value)),arr 5 1 (fK .u8) ad4 y3.1.length cap5 y3.1,blk b1 48 #[iv 3,.string ByteArray.empty,iv 5,.string ByteArray.empty,iv 0,iv 0,iv 0,iv 0,iv 0,iv 0,iv 0,iv 0,iv 0,.slice none 0 0,iv 0,iv 0,iv 0,iv 0,iv 0,.slice none 0 0,.string (⟨#[97]⟩:ByteArray)]] w:=hS
     have b7:=Frz.le_refl ν133
     have b0:=ArrM.of_arrT dF
     obtain ⟨aB,d5,h⟩:=A1 h
     refine SK.wi (rR (fun cI=>[(1,pb b1),(2,sv ad4 y3.1 cap5),(3,iv a3.2.2),(5,iv a0.2.2),(8,iv a7.2.2),(10,iv a3.2.1),(11,sv aG a0.1 aH),(12,iv a0.2.1),(14,iv a7.2.1),(111,cI)]) hF (Ht F _ _ d5 ν133 w (hS.frz (i:=3) rfl hlow) b0) ?_)
     rintro cI w a ⟨ν141,c5,c7,c9,aM,rfl,bE,hQ⟩ hF
     replace hext:=Frz.ext_trans hext (Frz.ext_mono aM hS.ext.size)
     obtain ⟨hlow,hS⟩:=hS.frzMerge (i:=3) rfl hlow aM hQ
     replace hq7:=All2.mono Rp48.mono aM.1 hq7
     replace aC:=aC.mono aM.1
     replace aF:=All2.mono Rp48.mono aM.1 aF
     replace aI:=aI.mono aM.1
     replace aL:=All2.mono Rp48.mono aM.1 aL
     replace aP:=aP.mono aM.1
     replace aW:=All2.mono Rp48.mono aM.1 aW
     replace b0:=b0.mono aM.1
     replace aD:=Frz.le_trans aD aM.1
     replace aJ:=Frz.le_trans aJ aM.1
     replace aT:=Frz.le_trans aT aM.1
     replace b7:=Frz.le_trans b7 aM.1
     refine qn 7 10 [(17,iv aB.2.2)] hF fun a hF=>?_
     refine wfn rfl ?_
     refine esr ?_
     refine SK.wi (Fe (e:=5) (sz:=1) (f:=(fK .u8)) (t:=22) (len:=3) (fun bA=>[(1,pb b1),(2,sv ad4 y3.1 cap5),(3,iv a3.2.2),(5,iv a0.2.2),(8,iv a7.2.2),(10,iv a3.2.1),(11,sv aG a0.1 aH),(12,iv a0.2.1),(14,iv a7.2.1),(17,iv aB.2.2),(116,sb bA 3)]) #[(0,.int .u8 120),(1,.int .u8 0),(2,.int .u8 121)] #[.int .u8 120,.int .u8 0,.int .u8 121] ([120,0,121]) hF hS kr ⟨kr⟩ kr (Bx .u8) rfl rfl kr (fun _=>⟨kr⟩) fun bA w a hF hS=>?_)
     replace hS:St w0 [arrT 5 1 (fK .u8) (some ⟨bA,0,none⟩) ([120,0,121]).length 3 ([120,0,121]),arr 48 21 (fN 21) c5 aB.1.length c7 c9,arr 48 21 (fN 21) bJ a7.1.length bQ bT,arr 48 21 (fN 21) aG a0.1.length aH b8,arr 48 21 (fN 21) aX a3.1.length aY aZ,fz w0 ν141,arrT 5 1 (fK .u8) aQ aE.length aR aE,arr 5 1 (fK .u8) (some ⟨aO,0,none⟩) ([0,5,4,6,2,97,183,135,165,144,1]).length 11 ([0,5,4,6,2,97,183,135,165,144,1]),arr 48 21 (fN 21) a9 a1.1.length aA aS,arr 48 21 (fN 21) (some ⟨b6,0,none⟩) ([(volume_Item.mk 3 ByteArray.empty 5 (api_Sweep.mk (api_Site.mk ByteArray.empty 0 0 0 0 0 0 0) 0 0 ([]:(List (List api_Echo)))) (api_Field.mk (api_Grid.mk 0 0 0 0 0) ([]:(List api_Span))) (⟨#[97]⟩:ByteArray))]).length 1 ([[iv 3,.string ByteArray.empty,iv 5,.string ByteArray.empty,iv 0,iv 0,iv 0,iv 0,iv 0,iv 0,iv 0,iv 0,iv 0,.slice none 0 0,iv 0,iv 0,iv 0,iv 0,iv 0,.slice none 0 0,.string (⟨#[97]⟩:ByteArray)]]:List (List Value)),arr 5 1 (fK .u8) ad4 y3.1.length cap5 y3.1,blk b1 48 #[iv 3,.string ByteArray.empty,iv 5,.string ByteArray.empty,iv 0,iv 0,iv 0,iv 0,iv 0,iv 0,iv 0,iv 0,iv 0,.slice none 0 0,iv 0,iv 0,iv 0,iv 0,iv 0,.slice none 0 0,.string (⟨#[97]⟩:ByteArray)]] w:=St.toT hS
     refine SK.wi (Pj (src:=22) [(1,pb b1),(2,sv ad4 y3.1 cap5),(3,iv a3.2.2),(5,iv a0.2.2),(8,iv a7.2.2),(10,iv a3.2.1),(11,sv aG a0.1 aH),(12,iv a0.2.1),(14,iv a7.2.1),(17,iv aB.2.2),(117,sb bA 3)] 0 hF hS rfl (by decide) kr ⟨kr⟩ kr ⟨kr⟩ fun w a hF hS=>?_)
     refine rn 1 3 [(1,pb b1),(3,iv a3.2.2),(5,iv a0.2.2),(8,iv a7.2.2),(10,iv a3.2.1),(11,sv aG a0.1 aH),(12,iv a0.2.1),(14,iv a7.2.1),(17,iv aB.2.2),(117,sb bA 3),(118,sv ad4 y3.1 cap5)] hF fun a hF=>?_
     obtain ⟨dJ,cU,h⟩:=A1 h
     refine SK.wi (Ri (t:=22) (ty:=22) (bytes:=1) (l:=([120,0,121])) (l':=y3.1) (fun c6 c8=>[(1,pb b1),(3,iv a3.2.2),(5,iv a0.2.2),(8,iv a7.2.2),(10,iv a3.2.1),(11,sv aG a0.1 aH),(12,iv a0.2.1),(14,iv a7.2.1),(17,iv aB.2.2),(119,sv c6 dJ c8)]) 0 hF hS rfl kr ⟨kr⟩ kr (hS.arr (i:=10) rfl) (fun _ _=>rfl) cU (fun _ _=>⟨kr⟩) fun c6 c8 w a hF hS=>?_)
     have eA:=hq7
     have eB:=aC
     have eC:=aF
     have eD:=aI
     have eE:=aL
     have eF:=aP
     have eG:=aW
     have eH:=b0
     have eI:=bE
     have eJ:=aD
     have eK:=aJ
     have eL:=aT
     have eM:=b7
     have eN:=hext
     have eO:=hlow
     obtain ⟨ν166,aN,hlow,hS,dG,hft169⟩:=hS.freezeT (i:=5) (j:=0) rfl rfl (by decide) hlow
     replace hq7:=All2.mono Rp48.mono aN.1 hq7
     replace aC:=aC.mono aN.1
     replace aF:=All2.mono Rp48.mono aN.1 aF
     replace aI:=aI.mono aN.1
     replace aL:=All2.mono Rp48.mono aN.1 aL
     replace aP:=aP.mono aN.1
     replace aW:=All2.mono Rp48.mono aN.1 aW
     replace b0:=b0.mono aN.1
     replace bE:=All2.mono Rp48.mono aN.1 bE
     replace aD:=Frz.le_trans aD aN.1
     replace aJ:=Frz.le_trans aJ aN.1
     replace aT:=Frz.le_trans aT aN.1
     replace b7:=Frz.le_trans b7 aN.1
     replace hext:=Frz.ext_trans hext aN
     replace hS:St w0 [arr 48 21 (fN 21) c5 aB.1.length c7 c9,arr 48 21 (fN 21) bJ a7.1.length bQ bT,arr 48 21 (fN 21) aG a0.1.length aH b8,arr 48 21 (fN 21) aX a3.1.length aY aZ,fz w0 ν166,arrT 5 1 (fK .u8) aQ aE.length aR aE,arr 5 1 (fK .u8) (some ⟨aO,0,none⟩) ([0,5,4,6,2,97,183,135,165,144,1]).length 11 ([0,5,4,6,2,97,183,135,165,144,1]),arr 48 21 (fN 21) a9 a1.1.length aA aS,arr 48 21 (fN 21) (some ⟨b6,0,none⟩) ([(volume_Item.mk 3 ByteArray.empty 5 (api_Sweep.mk (api_Site.mk ByteArray.empty 0 0 0 0 0 0 0) 0 0 ([]:(List (List api_Echo)))) (api_Field.mk (api_Grid.mk 0 0 0 0 0) ([]:(List api_Span))) (⟨#[97]⟩:ByteArray))]).length 1 ([[iv 3,.string ByteArray.empty,iv 5,.string ByteArray.empty,iv 0,iv 0,iv 0,iv 0,iv 0,iv 0,iv 0,iv 0,iv 0,.slice none 0 0,iv 0,iv 0,iv 0,iv 0,iv 0,.slice none 0 0,.string (⟨#[97]⟩:ByteArray)]]:List (List Value)),arr 5 1 (fK .u8) ad4 y3.1.length cap5 y3.1,blk b1 48 #[iv 3,.string ByteArray.empty,iv 5,.string ByteArray.empty,iv 0,iv 0,iv 0,iv 0,iv 0,iv 0,iv 0,iv 0,iv 0,.slice none 0 0,iv 0,iv 0,iv 0,iv 0,iv 0,.slice none 0 0,.string (⟨#[97]⟩:ByteArray)]] w:=hS
     have cC:=Frz.le_refl ν166
     have bZ:=ArrM.of_arrT dG
     obtain ⟨a8,d6,h⟩:=A1 h
     refine SK.wi (rR (fun cJ=>[(1,pb b1),(3,iv a3.2.2),(5,iv a0.2.2),(8,iv a7.2.2),(10,iv a3.2.1),(11,sv aG a0.1 aH),(12,iv a0.2.1),(14,iv a7.2.1),(17,iv aB.2.2),(120,cJ)]) hF (S0 F _ _ d6 ν166 w (hS.frz (i:=4) rfl hlow) bZ) ?_)
     rintro cJ w a ⟨ν174,b9,bW,dO,aK,rfl,cX,hQ⟩ hF
     replace hext:=Frz.ext_trans hext (Frz.ext_mono aK hS.ext.size)
     obtain ⟨hlow,hS⟩:=hS.frzMerge (i:=4) rfl hlow aK hQ
     replace hq7:=All2.mono Rp48.mono aK.1 hq7
     replace aC:=aC.mono aK.1
     replace aF:=All2.mono Rp48.mono aK.1 aF
     replace aI:=aI.mono aK.1
     replace aL:=All2.mono Rp48.mono aK.1 aL
     replace aP:=aP.mono aK.1
     replace aW:=All2.mono Rp48.mono aK.1 aW
     replace b0:=b0.mono aK.1
     replace bE:=All2.mono Rp48.mono aK.1 bE
     replace bZ:=bZ.mono aK.1
     replace aD:=Frz.le_trans aD aK.1
     replace aJ:=Frz.le_trans aJ aK.1
     replace aT:=Frz.le_trans aT aK.1
     replace b7:=Frz.le_trans b7 aK.1
     replace cC:=Frz.le_trans cC aK.1
     refine qn 7 12 [(18,sv b9 a8.1 bW),(19,iv a8.2.1),(20,iv a8.2.2)] hF fun a hF=>?_
     refine wfn rfl ?_
     refine Ar ?_
     rcases Bool.eq_false_or_eq_true ((bif (bif (bif (bif (bif (bif (bif (bif (bif (a3.2.2==15) then (a0.2.2==0) else false) then (a7.2.2==16) else false) then (aB.2.2==7) else false) then (a8.2.2==0) else false) then (a3.2.1==4) else false) then ((ln a0.1)==0) else false) then (a0.2.1==4) else false) then (a7.2.1==4) else false) then ((ln a8.1)==1) else false)) with b5|b5
     ·replace h:=Af h b5
      obtain ⟨a6,d2,h⟩:=A1 h
      obtain ⟨dM,cA,cS⟩:=Bd cX d2
      obtain ⟨bU,bX,dP,bV,bY,rfl,cO,cP⟩:=cS
      obtain ⟨c2,d7,h⟩:=A1 h
      refine rD 52 [(0,.bool (bif (bif (bif (bif (bif (bif (bif (bif (bif (bif (bif (a3.2.2==15) then (a0.2.2==0) else false) then (a7.2.2==16) else false) then (aB.2.2==7) else false) then (a8.2.2==0) else false) then (a3.2.1==4) else false) then ((ln a0.1)==0) else false) then (a0.2.1==4) else false) then (a7.2.1==4) else false) then ((ln a8.1)==1) else false) then c2 else false) then (a8.2.1==1) else false))] hF (oX (.run [⟨164,true,(bif (bif (bif (bif (bif (bif (bif (bif (bif (a3.2.2==15) then (a0.2.2==0) else false) then (a7.2.2==16) else false) then (aB.2.2==7) else false) then (a8.2.2==0) else false) then (a3.2.1==4) else false) then ((ln a0.1)==0) else false) then (a0.2.1==4) else false) then (a7.2.1==4) else false) then ((ln a8.1)==1) else false)⟩] (Instr.indexAt 24 (sv b9 a8.1 bW) (iv 0)) (.pointer (some (Bc b9 0 21)))) (Gj (hS.arr (i:=0) rfl) kr (fun _=>cA))<|oX (.run [⟨164,true,(bif (bif (bif (bif (bif (bif (bif (bif (bif (a3.2.2==15) then (a0.2.2==0) else false) then (a7.2.2==16) else false) then (aB.2.2==7) else false) then (a8.2.2==0) else false) then (a3.2.1==4) else false) then ((ln a0.1)==0) else false) then (a0.2.1==4) else false) then (a7.2.1==4) else false) then ((ln a8.1)==1) else false)⟩] (Instr.loadAt 48 (.pointer (some (Bc b9 0 21)))) (.agg #[iv a6.Kind,.string a6.Name,iv a6.Time,.string a6.Sweep.Site.Name,iv a6.Sweep.Site.X,iv a6.Sweep.Site.Y,iv a6.Sweep.Site.Z,iv a6.Sweep.Site.Rose,iv a6.Sweep.Site.Gates,iv a6.Sweep.Site.Step,iv a6.Sweep.Site.Width,iv a6.Sweep.Tilt,iv a6.Sweep.Time,sv bU a6.Sweep.Rays bX,iv a6.Field.Grid.X,iv a6.Field.Grid.Y,iv a6.Field.Grid.Size,iv a6.Field.Grid.Wide,iv a6.Field.Grid.High,sv bV a6.Field.Vals bY,.string a6.Text])) (Nx (m:=21) (i:=0) (us:=[iv a6.Kind,.string a6.Name,iv a6.Time,.string a6.Sweep.Site.Name,iv a6.Sweep.Site.X,iv a6.Sweep.Site.Y,iv a6.Sweep.Site.Z,iv a6.Sweep.Site.Rose,iv a6.Sweep.Site.Gates,iv a6.Sweep.Site.Step,iv a6.Sweep.Site.Width,iv a6.Sweep.Tilt,iv a6.Sweep.Time,sv bU a6.Sweep.Rays bX,iv a6.Field.Grid.X,iv a6.Field.Grid.Y,iv a6.Field.Grid.Size,iv a6.Field.Grid.Wide,iv a6.Field.Grid.High,sv bV a6.Field.Vals bY,.string a6.Text]) 0 (Bz 21) (fun _ hd=>((hS.later hd).arr (i:=0) rfl)) kr (fun _=>cA) ⟨rfl,rfl⟩)<|oX (.run [⟨164,true,(bif (bif (bif (bif (bif (bif (bif (bif (bif (a3.2.2==15) then (a0.2.2==0) else false) then (a7.2.2==16) else false) then (aB.2.2==7) else false) then (a8.2.2==0) else false) then (a3.2.1==4) else false) then ((ln a0.1)==0) else false) then (a0.2.1==4) else false) then (a7.2.1==4) else false) then ((ln a8.1)==1) else false)⟩] (Instr.loadAt 48 (pb b1)) (.agg #[iv 3,.string ByteArray.empty,iv 5,.string ByteArray.empty,iv 0,iv 0,iv 0,iv 0,iv 0,iv 0,iv 0,iv 0,iv 0,.slice none 0 0,iv 0,iv 0,iv 0,iv 0,iv 0,.slice none 0 0,.string (⟨#[97]⟩:ByteArray)])) (obN (us:=[iv 3,.string ByteArray.empty,iv 5,.string ByteArray.empty,iv 0,iv 0,iv 0,iv 0,iv 0,iv 0,iv 0,iv 0,iv 0,.slice none 0 0,iv 0,iv 0,iv 0,iv 0,iv 0,.slice none 0 0,.string (⟨#[97]⟩:ByteArray)]) kr (fun _ hd=>((hS.later hd).blk (i:=11) rfl).cells rfl))<|oX (.call [⟨164,true,(bif (bif (bif (bif (bif (bif (bif (bif (bif (a3.2.2==15) then (a0.2.2==0) else false) then (a7.2.2==16) else false) then (aB.2.2==7) else false) then (a8.2.2==0) else false) then (a3.2.1==4) else false) then ((ln a0.1)==0) else false) then (a0.2.1==4) else false) then (a7.2.1==4) else false) then ((ln a8.1)==1) else false)⟩] 27 #[.agg #[iv a6.Kind,.string a6.Name,iv a6.Time,.string a6.Sweep.Site.Name,iv a6.Sweep.Site.X,iv a6.Sweep.Site.Y,iv a6.Sweep.Site.Z,iv a6.Sweep.Site.Rose,iv a6.Sweep.Site.Gates,iv a6.Sweep.Site.Step,iv a6.Sweep.Site.Width,iv a6.Sweep.Tilt,iv a6.Sweep.Time,sv bU a6.Sweep.Rays bX,iv a6.Field.Grid.X,iv a6.Field.Grid.Y,iv a6.Field.Grid.Size,iv a6.Field.Grid.Wide,iv a6.Field.Grid.High,sv bV a6.Field.Vals bY,.string a6.Text],.agg #[iv 3,.string ByteArray.empty,iv 5,.string ByteArray.empty,iv 0,iv 0,iv 0,iv 0,iv 0,iv 0,iv 0,iv 0,iv 0,.slice none 0 0,iv 0,iv 0,iv 0,iv 0,iv 0,.slice none 0 0,.string (⟨#[97]⟩:ByteArray)]] (.bool c2)) (show Ob.ok _ Ext _ _ from fun hk w2 hd=>Qo F a6 (volume_Item.mk 3 ByteArray.empty 5 (api_Sweep.mk (api_Site.mk ByteArray.empty 0 0 0 0 0 0 0) 0 0 ([]:(List (List api_Echo)))) (api_Field.mk (api_Grid.mk 0 0 0 0 0) ([]:(List api_Span))) (⟨#[97]⟩:ByteArray)) _ ((fun _=>d7) hk) _ w2 (A5 w2) (cO.mono Rp87.mono (FrzAt.le_mem ((hS.later hd).frz (i:=5) rfl hlow))) (cP.mono (FrzAt.le_mem ((hS.later hd).frz (i:=5) rfl hlow))) ArrQ.nil ArrM.nil)<|A9) fun a w hF hx=>?_
      replace hS:=hS.later hx
      refine wfn rfl ?_
      refine wpIn_ret (Ad [.tmp 0] [.bool (bif (bif (bif (bif (bif (bif (bif (bif (bif (bif (bif (a3.2.2==15) then (a0.2.2==0) else false) then (a7.2.2==16) else false) then (aB.2.2==7) else false) then (a8.2.2==0) else false) then (a3.2.1==4) else false) then ((ln a0.1)==0) else false) then (a0.2.1==4) else false) then (a7.2.1==4) else false) then ((ln a8.1)==1) else false) then c2 else false) then (a8.2.1==1) else false)] hF rfl ⟨rfl,trivial⟩ ?_)
      obtain rfl:=Ao h
      exact ⟨rfl,hS.ext⟩
     ·replace h:=Ae h b5
      refine rD 52 [(0,.bool (bif (bif (bif (bif (bif (bif (bif (bif (bif (bif (bif (a3.2.2==15) then (a0.2.2==0) else false) then (a7.2.2==16) else false) then (aB.2.2==7) else false) then (a8.2.2==0) else false) then (a3.2.1==4) else false) then ((ln a0.1)==0) else false) then (a0.2.1==4) else false) then (a7.2.1==4) else false) then ((ln a8.1)==1) else false) then false else false) then (a8.2.1==1) else false))] hF (oX (.run [⟨164,true,(bif (bif (bif (bif (bif (bif (bif (bif (bif (a3.2.2==15) then (a0.2.2==0) else false) then (a7.2.2==16) else false) then (aB.2.2==7) else false) then (a8.2.2==0) else false) then (a3.2.1==4) else false) then ((ln a0.1)==0) else false) then (a0.2.1==4) else false) then (a7.2.1==4) else false) then ((ln a8.1)==1) else false)⟩] (Instr.indexAt 24 (sv b9 a8.1 bW) (iv 0)) (pb 0)) (Wo (J7 (i:=0) (c:=⟨164,true,(bif (bif (bif (bif (bif (bif (bif (bif (bif (a3.2.2==15) then (a0.2.2==0) else false) then (a7.2.2==16) else false) then (aB.2.2==7) else false) then (a8.2.2==0) else false) then (a3.2.1==4) else false) then ((ln a0.1)==0) else false) then (a0.2.1==4) else false) then (a7.2.1==4) else false) then ((ln a8.1)==1) else false)⟩) rfl (show ((bif (bif (bif (bif (bif (bif (bif (bif (bif (a3.2.2==15) then (a0.2.2==0) else false) then (a7.2.2==16) else false) then (aB.2.2==7) else false) then (a8.2.2==0) else false) then (a3.2.1==4) else false) then ((ln a0.1)==0) else false) then (a0.2.1==4) else false) then (a7.2.1==4) else false) then ((ln a8.1)==1) else false)==true)=false by rw [b5];rfl)))<|oX (.run [⟨164,true,(bif (bif (bif (bif (bif (bif (bif (bif (bif (a3.2.2==15) then (a0.2.2==0) else false) then (a7.2.2==16) else false) then (aB.2.2==7) else false) then (a8.2.2==0) else false) then (a3.2.1==4) else false) then ((ln a0.1)==0) else false) then (a0.2.1==4) else false) then (a7.2.1==4) else false) then ((ln a8.1)==1) else false)⟩] (Instr.loadAt 48 (pb 0)) (.agg #[iv 0,.string ByteArray.empty,iv 0,.string ByteArray.empty,iv 0,iv 0,iv 0,iv 0,iv 0,iv 0,iv 0,iv 0,iv 0,.slice none 0 0,iv 0,iv 0,iv 0,iv 0,iv 0,.slice none 0 0,.string ByteArray.empty])) (Wo (J7 (i:=0) (c:=⟨164,true,(bif (bif (bif (bif (bif (bif (bif (bif (bif (a3.2.2==15) then (a0.2.2==0) else false) then (a7.2.2==16) else false) then (aB.2.2==7) else false) then (a8.2.2==0) else false) then (a3.2.1==4) else false) then ((ln a0.1)==0) else false) then (a0.2.1==4) else false) then (a7.2.1==4) else false) then ((ln a8.1)==1) else false)⟩) rfl (show ((bif (bif (bif (bif (bif (bif (bif (bif (bif (a3.2.2==15) then (a0.2.2==0) else false) then (a7.2.2==16) else false) then (aB.2.2==7) else false) then (a8.2.2==0) else false) then (a3.2.1==4) else false) then ((ln a0.1)==0) else false) then (a0.2.1==4) else false) then (a7.2.1==4) else false) then ((ln a8.1)==1) else false)==true)=false by rw [b5];rfl)))<|oX (.run [⟨164,true,(bif (bif (bif (bif (bif (bif (bif (bif (bif (a3.2.2==15) then (a0.2.2==0) else false) then (a7.2.2==16) else false) then (aB.2.2==7) else false) then (a8.2.2==0) else false) then (a3.2.1==4) else false) then ((ln a0.1)==0) else false) then (a0.2.1==4) else false) then (a7.2.1==4) else false) then ((ln a8.1)==1) else false)⟩] (Instr.loadAt 48 (pb b1)) (.agg #[iv 0,.string ByteArray.empty,iv 0,.string ByteArray.empty,iv 0,iv 0,iv 0,iv 0,iv 0,iv 0,iv 0,iv 0,iv 0,.slice none 0 0,iv 0,iv 0,iv 0,iv 0,iv 0,.slice none 0 0,.string ByteArray.empty])) (Wo (J7 (i:=0) (c:=⟨164,true,(bif (bif (bif (bif (bif (bif (bif (bif (bif (a3.2.2==15) then (a0.2.2==0) else false) then (a7.2.2==16) else false) then (aB.2.2==7) else false) then (a8.2.2==0) else false) then (a3.2.1==4) else false) then ((ln a0.1)==0) else false) then (a0.2.1==4) else false) then (a7.2.1==4) else false) then ((ln a8.1)==1) else false)⟩) rfl (show ((bif (bif (bif (bif (bif (bif (bif (bif (bif (a3.2.2==15) then (a0.2.2==0) else false) then (a7.2.2==16) else false) then (aB.2.2==7) else false) then (a8.2.2==0) else false) then (a3.2.1==4) else false) then ((ln a0.1)==0) else false) then (a0.2.1==4) else false) then (a7.2.1==4) else false) then ((ln a8.1)==1) else false)==true)=false by rw [b5];rfl)))<|oX (.call [⟨164,true,(bif (bif (bif (bif (bif (bif (bif (bif (bif (a3.2.2==15) then (a0.2.2==0) else false) then (a7.2.2==16) else false) then (aB.2.2==7) else false) then (a8.2.2==0) else false) then (a3.2.1==4) else false) then ((ln a0.1)==0) else false) then (a0.2.1==4) else false) then (a7.2.1==4) else false) then ((ln a8.1)==1) else false)⟩] 27 #[.agg #[iv 0,.string ByteArray.empty,iv 0,.string ByteArray.empty,iv 0,iv 0,iv 0,iv 0,iv 0,iv 0,iv 0,iv 0,iv 0,.slice none 0 0,iv 0,iv 0,iv 0,iv 0,iv 0,.slice none 0 0,.string ByteArray.empty],.agg #[iv 0,.string ByteArray.empty,iv 0,.string ByteArray.empty,iv 0,iv 0,iv 0,iv 0,iv 0,iv 0,iv 0,iv 0,iv 0,.slice none 0 0,iv 0,iv 0,iv 0,iv 0,iv 0,.slice none 0 0,.string ByteArray.empty]] (.bool false)) (Yy (J7 (i:=0) (c:=⟨164,true,(bif (bif (bif (bif (bif (bif (bif (bif (bif (a3.2.2==15) then (a0.2.2==0) else false) then (a7.2.2==16) else false) then (aB.2.2==7) else false) then (a8.2.2==0) else false) then (a3.2.1==4) else false) then ((ln a0.1)==0) else false) then (a0.2.1==4) else false) then (a7.2.1==4) else false) then ((ln a8.1)==1) else false)⟩) rfl (show ((bif (bif (bif (bif (bif (bif (bif (bif (bif (a3.2.2==15) then (a0.2.2==0) else false) then (a7.2.2==16) else false) then (aB.2.2==7) else false) then (a8.2.2==0) else false) then (a3.2.1==4) else false) then ((ln a0.1)==0) else false) then (a0.2.1==4) else false) then (a7.2.1==4) else false) then ((ln a8.1)==1) else false)==true)=false by rw [b5];rfl)))<|A9) fun a w hF hx=>?_
      replace hS:=hS.later hx
      refine wfn rfl ?_
      refine wpIn_ret (Ad [.tmp 0] [.bool (bif (bif (bif (bif (bif (bif (bif (bif (bif (bif (bif (a3.2.2==15) then (a0.2.2==0) else false) then (a7.2.2==16) else false) then (aB.2.2==7) else false) then (a8.2.2==0) else false) then (a3.2.1==4) else false) then ((ln a0.1)==0) else false) then (a0.2.1==4) else false) then (a7.2.1==4) else false) then ((ln a8.1)==1) else false) then false else false) then (a8.2.1==1) else false)] hF rfl ⟨rfl,trivial⟩ ?_)
      obtain rfl:=Ao h
      exact ⟨rfl,hS.ext⟩
end Go.Proofs.YtifbomimeodibaaGreat
