import Derived.Test.YtbhjgebjojdohaaF6XD
import Derived.Test.YtbhjgebjojdohaaProg
import Derived.Test.YtbhjgebjojdohaaF6XK
import Derived.Test.YtbhjgebjojdohaaF6XW0
namespace Go.Proofs.Ytbhjgebjojdohaa
open Go Go.RowKit Go.Eng
set_option maxRecDepth 10000
set_option maxHeartbeats 4000000
set_option linter.unusedVariables false
set_option linter.unusedSimpArgs false
theorem fold_common_ok (p0 : api_Span) (p1 : api_Span) (res : (api_Span×Bool)) (h : fold_common p0 p1 = res) (μ : Frz) (w0 : World) (hm : FrzAt μ w0) : Calls Try.prog 92 #[.agg #[iv p0.Lo,iv p0.Hi],.agg #[iv p1.Lo,iv p1.Hi]] w0 (fun e w=>e = .returned (.tuple #[.agg #[iv res.1.Lo,iv res.1.Hi],.bool res.2])∧Ext w0 w):=by
 obtain ⟨hlow,hS⟩:=hm.init
 have hext:=Frz.ext_refl w0.heap.size μ
 rw [fold_common] at h
 refine fn_enterW Try.func92 rfl 24 [(0,.agg #[iv p0.Lo,iv p0.Hi]),(1,.agg #[iv p1.Lo,iv p1.Hi])] rfl rfl (by kernel_rfl) fun a w hw hF=>?_
 replace hS : St w0 [fz w0 μ] w:=by rw [hw]; exact hS
 clear hw
 refine esr ?_
 refine SK.wi (boxK (t:=25) (fun b1=>[(1,.agg #[iv p1.Lo,iv p1.Hi]),(2,pb b1)]) (.agg #[iv p0.Lo,iv p0.Hi]) #[iv p0.Lo,iv p0.Hi] hF hS (by kernel_rfl) ⟨by kernel_rfl⟩ (by kernel_rfl) (fun _=>⟨by kernel_rfl⟩) fun b1 w a hF hS=>?_)
 refine SK.wi (boxK (t:=25) (fun b2=>[(2,pb b1),(3,pb b2)]) (.agg #[iv p1.Lo,iv p1.Hi]) #[iv p1.Lo,iv p1.Hi] hF hS (by kernel_rfl) ⟨by kernel_rfl⟩ (by kernel_rfl) (fun _=>⟨by kernel_rfl⟩) fun b2 w a hF hS=>?_)
 refine SK.wi (allocK (t:=25) (fun b3=>[(2,pb b1),(3,pb b2),(4,pb b3)]) #[iv 0,iv 0] hF hS (by kernel_rfl) ⟨by kernel_rfl⟩ (by kernel_rfl) (fun _=>⟨by kernel_rfl⟩) fun b3 w a hF hS=>?_)
 refine rn 1 4 [(2,pb b1),(3,pb b2),(4,pb b3)] hF fun a hF=>?_
 refine wfn rfl ?_
 refine esr ?_
 refine rno 11 [.run [] (Instr.loadAt 3 (pb b1)) (iv p0.Lo),.run [] (Instr.loadAt 3 (pb b2)) (iv p1.Lo),.run [] (Instr.loadAt 3 (.pointer (some ⟨b1,1,none⟩))) (iv p0.Hi),.run [] (Instr.loadAt 3 (.pointer (some ⟨b2,1,none⟩))) (iv p1.Hi)] 11 [(4,pb b3),(17,.agg #[iv (if p1.Lo > p0.Lo then p1.Lo else p0.Lo),iv (if p1.Hi < p0.Hi then p1.Hi else p0.Hi)])] hF (ocons (ob1 (by kernel_rfl) (fun _ hd=>(hS.at_ hd).cell (i:=2) (j:=0) rfl rfl)) (ocons (ob1 (by kernel_rfl) (fun _ hd=>(hS.at_ hd).cell (i:=1) (j:=0) rfl rfl)) (ocons (ob1 (by kernel_rfl) (fun _ hd=>(hS.at_ hd).cell (i:=2) (j:=1) rfl rfl)) (ocons (ob1 (by kernel_rfl) (fun _ hd=>(hS.at_ hd).cell (i:=1) (j:=1) rfl rfl)) onil)))) fun a hF=>?_
 refine SK.wi (allocK (t:=25) (fun b4=>[(4,pb b3),(6,pb b4),(17,.agg #[iv (if p1.Lo > p0.Lo then p1.Lo else p0.Lo),iv (if p1.Hi < p0.Hi then p1.Hi else p0.Hi)])]) #[iv 0,iv 0] hF hS (by kernel_rfl) ⟨by kernel_rfl⟩ (by kernel_rfl) (fun _=>⟨by kernel_rfl⟩) fun b4 w a hF hS=>?_)
 refine SK.wi (storeK (t:=25) [(4,pb b3),(6,pb b4)] 0 0 (.agg #[iv (if p1.Lo > p0.Lo then p1.Lo else p0.Lo),iv (if p1.Hi < p0.Hi then p1.Hi else p0.Hi)]) #[iv (if p1.Lo > p0.Lo then p1.Lo else p0.Lo),iv (if p1.Hi < p0.Hi then p1.Hi else p0.Hi)] hF hS rfl (by kernel_rfl) ⟨by kernel_rfl⟩ (by kernel_rfl) (by kernel_rfl) (by kernel_rfl) (by kernel_rfl) ⟨by kernel_rfl⟩ fun w a hF hS=>?_)
 refine wfn rfl ?_
 refine eseq ?_
 refine region_treeW 8 [6] _ (D:=fun w=>St w0 [blk b4 25 #[iv (if p1.Lo > p0.Lo then p1.Lo else p0.Lo),iv (if p1.Hi < p0.Hi then p1.Hi else p0.Hi)],blk b2 25 #[iv p1.Lo,iv p1.Hi],blk b1 25 #[iv p0.Lo,iv p0.Hi]] w∧FrzAt μ w) (by kernel_rfl) (by kernel_rfl) hF.size (fun w hx=>?_) (fun _ _ h=>h)
 replace hS:=hS.later hx
 refine ⟨⟨St.pick [0,2,3] (by decide) hS,hS.frz (i:=4) rfl hlow⟩,?_⟩
 have hcl5:=Frz.le_refl μ
 refine WT.s [0,1,2,3,4,5] [6] (by kernel_rfl) (by kernel_rfl) ?_
 refine runC (rest:=[]) (obs:=[.run [] (Instr.loadAt 25 (pb b4)) (.agg #[iv (if p1.Lo > p0.Lo then p1.Lo else p0.Lo),iv (if p1.Hi < p0.Hi then p1.Hi else p0.Hi)]),.run [] (Instr.loadAt 3 (pb b4)) (iv (if p1.Lo > p0.Lo then p1.Lo else p0.Lo)),.run [] (Instr.loadAt 3 (.pointer (some ⟨b4,1,none⟩))) (iv (if p1.Hi < p0.Hi then p1.Hi else p0.Hi))]) [0,1,2,3,4,5] [(4,pb b3),(18,.agg #[iv (if p1.Lo > p0.Lo then p1.Lo else p0.Lo),iv (if p1.Hi < p0.Hi then p1.Hi else p0.Hi)]),(23,.bool (decide ((if p1.Lo > p0.Lo then p1.Lo else p0.Lo)≤(if p1.Hi < p0.Hi then p1.Hi else p0.Hi))))] hF (by kernel_rfl) (by kernel_rfl) (ocons (obN (us:=[iv (if p1.Lo > p0.Lo then p1.Lo else p0.Lo),iv (if p1.Hi < p0.Hi then p1.Hi else p0.Hi)]) (by kernel_rfl) (fun _ hd=>(hd.1.blk (i:=0) rfl).cells rfl)) (ocons (ob1 (by kernel_rfl) (fun _ hd=>hd.1.cell (i:=0) (j:=0) rfl rfl)) (ocons (ob1 (by kernel_rfl) (fun _ hd=>hd.1.cell (i:=0) (j:=1) rfl rfl)) onil))) ⟨by kernel_rfl⟩ fun a hF=>?_
 refine WRun.fin ?_
 refine all_cons ?_ (all_nil)
 refine storeK (t:=25) [(4,pb b3),(23,.bool (decide ((if p1.Lo > p0.Lo then p1.Lo else p0.Lo)≤(if p1.Hi < p0.Hi then p1.Hi else p0.Hi))))] 1 0 (.agg #[iv (if p1.Lo > p0.Lo then p1.Lo else p0.Lo),iv (if p1.Hi < p0.Hi then p1.Hi else p0.Hi)]) #[iv (if p1.Lo > p0.Lo then p1.Lo else p0.Lo),iv (if p1.Hi < p0.Hi then p1.Hi else p0.Hi)] hF hS rfl (by kernel_rfl) ⟨by kernel_rfl⟩ (by kernel_rfl) (by kernel_rfl) (by kernel_rfl) (by kernel_rfl) ⟨by kernel_rfl⟩ fun w a hF hS=>⟨⟨St.pick [0,2,3] (by decide) hS,(hS.frz (i:=4) rfl hlow)⟩,?_⟩
 refine WT.z [7] (by kernel_rfl) ?_
 refine runC (rest:=[]) (obs:=[]) [7] [(4,pb b3),(5,.bool (decide ((if p1.Lo > p0.Lo then p1.Lo else p0.Lo)≤(if p1.Hi < p0.Hi then p1.Hi else p0.Hi))))] hF (by kernel_rfl) (by kernel_rfl) onil ⟨by kernel_rfl⟩ fun a hF=>?_
 refine WRun.fin ?_
 refine wfn rfl ?_
 refine wpIn_ret (fn_ret [.cell 4 25,.tmp 5] [.agg #[iv (if p1.Lo > p0.Lo then p1.Lo else p0.Lo),iv (if p1.Hi < p0.Hi then p1.Hi else p0.Hi)],.bool (decide ((if p1.Lo > p0.Lo then p1.Lo else p0.Lo)≤(if p1.Hi < p0.Hi then p1.Hi else p0.Hi)))] hF rfl ⟨⟨_,rfl,loadVarN (cs:=[iv (if p1.Lo > p0.Lo then p1.Lo else p0.Lo),iv (if p1.Hi < p0.Hi then p1.Hi else p0.Hi)]) (by kernel_rfl) ((hS.blk (i:=1) rfl).cells rfl)⟩,rfl,trivial⟩ ?_)
 subst h
 exact ⟨rfl,hS.ext⟩
theorem ref01_Valid_ok (p0 : api_Span) (p1 : Int) (p2 : Int) (res : Bool) (h : ref01_Valid p0 p1 p2 = res) (μ : Frz) (w0 : World) (hm : FrzAt μ w0) : Calls Try.prog 94 #[.agg #[iv p0.Lo,iv p0.Hi],iv p1,iv p2] w0 (fun e w=>e = .returned (.bool res)∧Ext w0 w):=by
 obtain ⟨hlow,hS⟩:=hm.init
 have hext:=Frz.ext_refl w0.heap.size μ
 rw [ref01_Valid] at h
 refine fn_enterW Try.func94 rfl 24 [(0,.agg #[iv p0.Lo,iv p0.Hi]),(1,iv p1),(2,iv p2)] rfl rfl (by kernel_rfl) fun a w hw hF=>?_
 replace hS : St w0 [fz w0 μ] w:=by rw [hw]; exact hS
 clear hw
 refine esr ?_
 refine SK.wi (boxK (t:=25) (fun b1=>[(1,iv p1),(2,iv p2),(3,pb b1)]) (.agg #[iv p0.Lo,iv p0.Hi]) #[iv p0.Lo,iv p0.Hi] hF hS (by kernel_rfl) ⟨by kernel_rfl⟩ (by kernel_rfl) (fun _=>⟨by kernel_rfl⟩) fun b1 w a hF hS=>?_)
 refine rn 1 2 [(1,iv p1),(2,iv p2),(3,pb b1)] hF fun a hF=>?_
 refine wfn rfl ?_
 refine esr ?_
 refine rno 18 [.run [] (Instr.loadAt 3 (pb b1)) (iv p0.Lo),.run [] (Instr.loadAt 3 (.pointer (some ⟨b1,1,none⟩))) (iv p0.Hi),.run [⟨12,true,(decide (p0.Lo≤p0.Hi))⟩] (Instr.loadAt 3 (pb b1)) (iv p0.Lo),.run [⟨18,true,(bif (decide (p0.Lo≤p0.Hi)) then (decide (p0.Lo ≥ p1)) else false)⟩] (Instr.loadAt 3 (.pointer (some ⟨b1,1,none⟩))) (iv p0.Hi)] 18 [(6,.bool (bif (bif (decide (p0.Lo≤p0.Hi)) then (decide (p0.Lo ≥ p1)) else false) then (decide (p0.Hi≤p2)) else false))] hF (ocons (ob1 (by kernel_rfl) (fun _ hd=>(hS.at_ hd).cell (i:=0) (j:=0) rfl rfl)) (ocons (ob1 (by kernel_rfl) (fun _ hd=>(hS.at_ hd).cell (i:=0) (j:=1) rfl rfl)) (ocons (ob1 (by kernel_rfl) (fun _ hd=>(hS.at_ hd).cell (i:=0) (j:=0) rfl rfl)) (ocons (ob1 (by kernel_rfl) (fun _ hd=>(hS.at_ hd).cell (i:=0) (j:=1) rfl rfl)) onil)))) fun a hF=>?_
 refine wfn rfl ?_
 refine wpIn_ret (fn_ret [.tmp 6] [.bool (bif (bif (decide (p0.Lo≤p0.Hi)) then (decide (p0.Lo ≥ p1)) else false) then (decide (p0.Hi≤p2)) else false)] hF rfl ⟨rfl,trivial⟩ ?_)
 subst h
 exact ⟨rfl,hS.ext⟩
theorem slices_Clone_fold_speeds_api_Span_okS (F : Nat) (p0 : (List api_Span)) (res : (List api_Span)) (h : slices_Clone_fold_speeds_api_Span F p0 = some res) (μ : Frz) (w0 : World) (hm : FrzAt μ w0) {ad1x : Addr} {cap2 : Nat} (hA3 : ArrM μ 2 api_Span.cells (some ad1x) cap2 p0) : Calls Try.prog 99 #[.slice (some ad1x) p0.length cap2] w0 (fun e w=>∃ zad0 zcap0,e = .returned (sv zad0 res zcap0)∧St w0 [arr 25 2 api_Span.cells zad0 res.length zcap0 res] w):=by
 obtain ⟨hlow,hS⟩:=hm.init
 have hext:=Frz.ext_refl w0.heap.size μ
 rw [slices_Clone_fold_speeds_api_Span] at h
 refine fn_enterW Try.func99 rfl 8 [(0,.slice (some ad1x) p0.length cap2)] rfl rfl (by kernel_rfl) fun a w hw hF=>?_
 replace hS : St w0 [fz w0 μ] w:=by rw [hw]; exact hS
 clear hw
 refine esr ?_
 refine rn 1 1 [(0,.slice (some ad1x) p0.length cap2)] hF fun a hF=>?_
 refine wfn rfl ?_
 refine eseq ?_
 refine esr ?_
 refine rn 2 2 [(0,.slice (some ad1x) p0.length cap2),(4,.bool false)] hF fun a hF=>?_
 refine wfn rfl ?_
 refine wpIn_cond_false (hF.get rfl) ?_
 refine wpIn_skip (norm_then ?_)
 refine esr ?_
 refine SK.wi (litK (e:=25) (sz:=2) (f:=api_Span.cells) (t:=132) (len:=0) (fun b4=>[(0,.slice (some ad1x) p0.length cap2),(5,sb b4 0)]) #[] #[] ([] : List api_Span) hF hS (by kernel_rfl) ⟨by kernel_rfl⟩ (by kernel_rfl) api_Span.cells_len rfl rfl (by kernel_rfl) (fun _=>⟨by kernel_rfl⟩) fun b4 w a hF hS=>?_)
 refine rn 1 2 [(5,sb b4 0),(6,.slice (some ad1x) p0.length cap2)] hF fun a hF=>?_
 replace h:=bindS h
 obtain ⟨l5,hl5,h⟩:=h
 refine SK.wi (appK (t:=132) (ty:=132) (bytes:=16) (l:=([] : List api_Span)) (l':=p0) (fun ad6 cap7=>[(7,sv ad6 l5 cap7)]) 0 hF hS rfl (by kernel_rfl) ⟨by kernel_rfl⟩ (by kernel_rfl) (hA3 _ (hS.frz (i:=1) rfl hlow)) (fun _ _=>rfl) hl5 (fun _ _=>⟨by kernel_rfl⟩) fun ad6 cap7 w a hF hS=>?_)
 refine rn 1 4 [(2,sv ad6 l5 cap7)] hF fun a hF=>?_
 refine wfn rfl ?_
 refine wpIn_ret (fn_ret [.tmp 2] [sv ad6 l5 cap7] hF rfl ⟨rfl,trivial⟩ ?_)
 have hr_:=Option.some.inj h
 subst hr_
 exact ⟨_,_,rfl,St.pick [0] (by decide) hS⟩
theorem slices_Clone_fold_speeds_api_Span_okN (res : (List api_Span)) (h : ([] : List api_Span) = res) (μ : Frz) (w0 : World) (hm : FrzAt μ w0) {cap2 : Nat} : Calls Try.prog 99 #[.slice none 0 cap2] w0 (fun e w=>∃ zad0 zcap0,e = .returned (sv zad0 res zcap0)∧St w0 [arr 25 2 api_Span.cells zad0 res.length zcap0 res] w):=by
 obtain ⟨hlow,hS⟩:=hm.init
 have hext:=Frz.ext_refl w0.heap.size μ
 refine fn_enterW Try.func99 rfl 8 [(0,.slice none 0 cap2)] rfl rfl (by kernel_rfl) fun a w hw hF=>?_
 replace hS : St w0 [fz w0 μ] w:=by rw [hw]; exact hS
 clear hw
 refine esr ?_
 refine rn 1 1 [(0,.slice none 0 cap2)] hF fun a hF=>?_
 refine wfn rfl ?_
 refine eseq ?_
 refine esr ?_
 refine rn 2 2 [(0,.slice none 0 cap2),(4,.bool true)] hF fun a hF=>?_
 refine wfn rfl ?_
 refine wpIn_cond_true (hF.get rfl) ?_
 refine esr ?_
 refine rn 1 1 [(2,.slice none 0 0)] hF fun a hF=>?_
 refine wfn rfl ?_
 refine wpIn_ret (ret_then <| fn_ret [.tmp 2] [.slice none 0 0] hF rfl ⟨rfl,trivial⟩ ?_)
 subst h
 replace hS:=hS.nilarr 25 2 api_Span.cells
 exact ⟨_,_,rfl,St.pick [0] (by decide) hS⟩
theorem slices_Clone_fold_speeds_api_Span_ok (F : Nat) (p0 : List api_Span) (res : List api_Span) (h : slices_Clone_fold_speeds_api_Span F p0 = some res) (μ : Frz) (w0 : World) (hm : FrzAt μ w0) {ad1 : Option Addr} {cap2 : Nat} (hA3 : ArrM μ 2 api_Span.cells ad1 cap2 p0) : Calls Try.prog 99 #[sv ad1 p0 cap2] w0 (fun e w=>∃ zad0 zcap0,e = .returned (sv zad0 res zcap0)∧St w0 [arr 25 2 api_Span.cells zad0 res.length zcap0 res] w):=by
 cases ad1 with
 | some a=>exact slices_Clone_fold_speeds_api_Span_okS F p0 res h μ w0 hm hA3
 | none =>
  obtain rfl:=hA3.none_nil hm
  have hr : [] = res:=Option.some.inj (show some ([] : List api_Span) = some res from h)
  exact slices_Clone_fold_speeds_api_Span_okN res hr μ w0 hm
theorem law03_sets_ok (F : Nat) (p0 : (List (List api_Span))) (p1 : (List (List api_Span))) (res : Bool) (h : law03_sets F p0 p1 = some res) (μ : Frz) (w0 : World) (hm : FrzAt μ w0) {ad1 : Option Addr} {cap2 : Nat} {css3 : List (List Value)} {ad5 : Option Addr} {cap6 : Nat} {css7 : List (List Value)} (hA4 : ArrQ μ 1 Rp43 ad1 cap2 css3 p0) (hA8 : ArrQ μ 1 Rp43 ad5 cap6 css7 p1) : Calls Try.prog 26 #[sv ad1 p0 cap2,sv ad5 p1 cap6] w0 (fun e w=>e = .returned (.bool res)∧Ext w0 w):=by
 obtain ⟨hlow,hS⟩:=hm.init
 have hext:=Frz.ext_refl w0.heap.size μ
 rw [law03_sets] at h
 refine fn_enterW Try.func26 rfl 27 [(0,sv ad1 p0 cap2),(1,sv ad5 p1 cap6)] rfl rfl (by kernel_rfl) fun a w hw hF=>?_
 replace hS : St w0 [fz w0 μ] w:=by rw [hw]; exact hS
 clear hw
 refine esr ?_
 refine rn 1 1 [(0,sv ad1 p0 cap2),(1,sv ad5 p1 cap6)] hF fun a hF=>?_
 refine wfn rfl ?_
 refine eseq ?_
 refine esr ?_
 refine rn 5 5 [(0,sv ad1 p0 cap2),(1,sv ad5 p1 cap6),(10,.bool ((ln p0) != (ln p1)))] hF fun a hF=>?_
 refine wfn rfl ?_
 refine econd hF rfl (fun hc=>?_) (fun hc=>?_)
 ·replace h:=bif_t h hc
  refine esr ?_
  refine rn 1 1 [(4,.bool false)] hF fun a hF=>?_
  refine wfn rfl ?_
  refine wpIn_ret (ret_then <| fn_ret [.tmp 4] [.bool false] hF rfl ⟨rfl,trivial⟩ ?_)
  have hr_:=Option.some.inj h
  subst hr_
  exact ⟨rfl,hS.ext⟩
 ·replace h:=bif_f h hc
  refine wpIn_skip (norm_then ?_)
  refine ecut (fun a w=>Fr 27 [] [] a∧St w0 [fz w0 μ] w∧law03_sets_K1 = some res) ?_ ?_
  ·skip
   refine esr ?_
   refine rn 1 1 [(0,sv ad1 p0 cap2),(1,sv ad5 p1 cap6),(5,iv 0)] hF fun a hF=>?_
   refine wfn rfl ?_
   refine wpIn_block ?_
   refine eloop (fun n_ a w=>∃ (a0 : Int),Fr 27 [] [(0,sv ad1 p0 cap2),(1,sv ad5 p1 cap6),(5,iv a0)] a∧St w0 [fz w0 μ] w∧law03_sets_L2 F p0 p1 n_ a0 = some res) F ⟨0,hF.sub (by kernel_rfl),St.pick [0] (by decide) hS,h⟩ ?_
   rintro nk2 a w ⟨a0,hF,hS,h⟩
   rcases nk2 with _ | nk2
   ·cases (show (none : Option Bool) = some res from h)
   obtain ⟨k2,hk2⟩ : ∃ k,k = law03_sets_L2 F p0 p1 nk2:=⟨_,rfl⟩
   replace h : law03_sets_B2 F p0 p1 k2 a0 = some res:=by rw [hk2]; exact h
   rw [law03_sets_B2] at h
   refine eseq ?_
   refine esr ?_
   refine rn 4 4 [(0,sv ad1 p0 cap2),(1,sv ad5 p1 cap6),(5,iv a0),(14,.bool (decide (a0 < (ln p0))))] hF fun a hF=>?_
   refine wfn rfl ?_
   refine econd hF rfl (fun hc=>?_) (fun hc=>?_)
   ·replace h:=bif_t h hc
    refine wpIn_skip (norm_then ?_)
    refine eseq ?_
    refine wpIn_block ?_
    refine eseq ?_
    replace h:=bindS h
    obtain ⟨a2,aG,h⟩:=h
    obtain ⟨aK,a9,aE⟩:=getI_all2 hA4.2 aG
    obtain ⟨a4,a6,rfl,aB⟩:=aE
    replace h:=bindS h
    obtain ⟨a1,aF,h⟩:=h
    obtain ⟨aJ,a8,aD⟩:=getI_all2 hA8.2 aF
    obtain ⟨a5,a7,rfl,aC⟩:=aD
    replace h:=bindS h
    obtain ⟨aA,aI,h⟩:=h
    refine runD (obs:=[.run [] (Instr.indexAt 48 (sv ad1 p0 cap2) (iv a0)) (.pointer (some (slAddr ad1 a0 1))),.run [] (Instr.loadAt 43 (.pointer (some (slAddr ad1 a0 1)))) (sv a4 a2 a6),.run [] (Instr.indexAt 48 (sv ad5 p1 cap6) (iv a0)) (.pointer (some (slAddr ad5 a0 1))),.run [] (Instr.loadAt 43 (.pointer (some (slAddr ad5 a0 1)))) (sv a5 a1 a7),.call [] 22 #[sv a4 a2 a6,sv a5 a1 a7] (.bool aA)]) 10 [(0,sv ad1 p0 cap2),(1,sv ad5 p1 cap6),(5,iv a0),(26,.bool (!aA))] (by kernel_rfl) hF (by kernel_rfl) (ocons (obIdxQ (hA4.at (hS.frz (i:=0) rfl hlow)) (by kernel_rfl) (fun _=>a9)) (ocons (obElQ (i:=a0) 0 (fN_len 1) (fun _ hd=>(hA4.at ((hS.later hd).frz (i:=0) rfl hlow))) (by kernel_rfl) (fun _=>a9) rfl) (ocons (obIdxQ (hA8.at (hS.frz (i:=0) rfl hlow)) (by kernel_rfl) (fun _=>a8)) (ocons (obElQ (i:=a0) 0 (fN_len 1) (fun _ hd=>(hA8.at ((hS.later hd).frz (i:=0) rfl hlow))) (by kernel_rfl) (fun _=>a8) rfl) (ocons (show Ob.ok _ Ext _ _ from fun hk w2 hd=>law03_spans_ok F a2 a1 _ ((fun _=>aI) hk) _ w2 (memOf_at w2) (aB.mono (FrzAt.le_mem ((hS.later hd).frz (i:=0) rfl hlow))) (aC.mono (FrzAt.le_mem ((hS.later hd).frz (i:=0) rfl hlow)))) onil))))) ⟨by kernel_rfl⟩ fun a w hF hx=>?_
    replace hS:=hS.later hx
    refine wfn rfl ?_
    refine econd hF rfl (fun hc=>?_) (fun hc=>?_)
    ·replace h:=bif_t h hc
     refine esr ?_
     refine rn 1 1 [(4,.bool false)] hF fun a hF=>?_
     refine wfn rfl ?_
     refine wpIn_ret (ret_block <| ret_then <| ret_then <| ret_block <| ret_then <| fn_ret [.tmp 4] [.bool false] hF rfl ⟨rfl,trivial⟩ ?_)
     have hr_:=Option.some.inj h
     subst hr_
     exact ⟨rfl,hS.ext⟩
    ·replace h:=bif_f h hc
     refine wpIn_skip (norm_block <| norm_then <| ?_)
     refine WI.region ?_
     replace h:=bindS h
     obtain ⟨a3,aH,h⟩:=h
     refine rno 3 [.run [] (binOp .add 3 (iv a0) (iv 1)) (iv a3)] 3 [(0,sv ad1 p0 cap2),(1,sv ad5 p1 cap6),(5,iv a3)] hF (ocons (obAddC (fun _=>aH)) onil) fun a hF=>?_
     refine wfn rfl ?_
     rw [hk2] at h
     exact ⟨nk2,Nat.lt_succ_self _,a3,hF.sub (by kernel_rfl),St.pick [0] (by decide) hS,h⟩
   ·replace h:=bif_f h hc
    refine wpIn_exit (exit_then <| exit_then <| exit_hit <| norm_then ?_)
    exact ⟨hF.sub (by kernel_rfl),St.pick [0] (by decide) hS,h⟩
  rintro a w ⟨hF,hS,h⟩
  rw [law03_sets_K1] at h
  refine esr ?_
  refine rn 1 1 [(4,.bool true)] hF fun a hF=>?_
  refine wfn rfl ?_
  refine wpIn_ret (fn_ret [.tmp 4] [.bool true] hF rfl ⟨rfl,trivial⟩ ?_)
  have hr_:=Option.some.inj h
  subst hr_
  exact ⟨rfl,hS.ext⟩
theorem pfold_web_link_ok (F : Nat) (p0 : fold_web) (p1 : fold_place) (p2 : fold_place) (p3 : Int) (res : fold_web) (h : pfold_web_link F p0 p1 p2 p3 = some res) (μ : Frz) (w0 w1 : World) (T_ : List Res) (hlow : FrzIn w0 μ) {cb0 : Nat} {ad1 : Option Addr} {cap2 : Nat} {hd3 : List Hd} {css4 : List (List (List Value))} {m6 : Nat} {B7 : List (fold_place×Hd)} {css8 : List (List fold_bond)} (hq5 : NestOk (Rp132 μ) hd3 css4 p0.sets) (hq9 : MNestOk Eq B7 css8 p0.bonds) (hS : St w0 (fz w0 μ :: blk cb0 197 #[sv ad1 p0.sets cap2,.map (some m6)] :: nestR 135 132 1 (fN 1) ad1 p0.sets.length cap2 hd3 css4 :: mnestR (fA fold_place.cells) 199 3 fold_bond.cells m6 B7 css8 :: T_) w1) : Calls Try.prog 118 #[pb cb0,.agg #[iv p1.ray,iv p1.gate],.agg #[iv p2.ray,iv p2.gate],iv p3] w1 (fun e w=>∃ (ν_ : Frz) (aE : Option Addr) (aH : Nat) (aM : List Hd) (aK : List (List (List Value))) (B105 : List (fold_place×Hd)) (aL : List (List fold_bond)),μ.ext w0.heap.size ν_∧FrzIn w0 ν_∧e = .returned (.tuple #[])∧(NestOk (Rp132 ν_) aM aK res.sets)∧(MNestOk Eq B105 aL res.bonds)∧St w0 (fz w0 ν_ :: blk cb0 197 #[sv aE res.sets aH,.map (some m6)] :: nestR 135 132 1 (fN 1) aE res.sets.length aH aM aK :: mnestR (fA fold_place.cells) 199 3 fold_bond.cells m6 B105 aL :: T_) w):=by
 rw [pfold_web_link] at h
 have hext:=Frz.ext_refl w0.heap.size μ
 refine fn_enterW Try.func118 rfl 34 [(0,pb cb0),(1,.agg #[iv p1.ray,iv p1.gate]),(2,.agg #[iv p2.ray,iv p2.gate]),(3,iv p3)] rfl rfl (by kernel_rfl) fun a w hw hF=>?_
 replace hS : St w0 (fz w0 μ :: blk cb0 197 #[sv ad1 p0.sets cap2,.map (some m6)] :: nestR 135 132 1 (fN 1) ad1 p0.sets.length cap2 hd3 css4 :: mnestR (fA fold_place.cells) 199 3 fold_bond.cells m6 B7 css8 :: T_) w:=by rw [hw]; exact hS
 clear hw
 refine esr ?_
 refine SK.wi (boxK (t:=192) (fun a0=>[(0,pb cb0),(2,.agg #[iv p2.ray,iv p2.gate]),(3,iv p3),(5,pb a0)]) (.agg #[iv p1.ray,iv p1.gate]) #[iv p1.ray,iv p1.gate] hF hS (by kernel_rfl) ⟨by kernel_rfl⟩ (by kernel_rfl) (fun _=>⟨by kernel_rfl⟩) fun a0 w a hF hS=>?_)
 refine SK.wi (boxK (t:=192) (fun a1=>[(0,pb cb0),(3,iv p3),(5,pb a0),(6,pb a1)]) (.agg #[iv p2.ray,iv p2.gate]) #[iv p2.ray,iv p2.gate] hF hS (by kernel_rfl) ⟨by kernel_rfl⟩ (by kernel_rfl) (fun _=>⟨by kernel_rfl⟩) fun a1 w a hF hS=>?_)
 refine wfn rfl ?_
 refine eseq ?_
 replace h:=bindS h
 obtain ⟨a4,aP,h⟩:=h
 refine region_treeW 13 [8,9,11] _ (D:=fun w=>St w0 [blk a1 192 #[iv p2.ray,iv p2.gate],blk a0 192 #[iv p1.ray,iv p1.gate],blk cb0 197 #[sv ad1 p0.sets cap2,.map (some m6)],nestR 135 132 1 (fN 1) ad1 p0.sets.length cap2 hd3 css4] w∧FrzAt μ w) (by kernel_rfl) (by kernel_rfl) hF.size (fun w hx=>?_) (fun _ _ h=>h)
 replace hS:=hS.later hx
 refine ⟨⟨St.pick [0,1,3,4] (by decide) hS,hS.frz (i:=2) rfl hlow⟩,?_⟩
 have b1:=Frz.le_refl μ
 refine WT.s [0,1,2,3,4,5,6,7] [8] (by kernel_rfl) (by kernel_rfl) ?_
 refine runC (rest:=[]) (obs:=[.run [] (Instr.loadAt 195 (.pointer (some ⟨cb0,1,none⟩))) (.map (some m6)),.run [] (Instr.loadAt 192 (pb a0)) (.agg #[iv p1.ray,iv p1.gate]),.run [] (Instr.loadAt 192 (pb a1)) (.agg #[iv p2.ray,iv p2.gate])]) [0,1,2,3,4,5,6,7] [(0,pb cb0),(3,iv p3),(5,pb a0),(6,pb a1),(11,.map (some m6)),(12,.agg #[iv p1.ray,iv p1.gate]),(16,.agg #[iv p2.ray,iv p2.gate,iv p3])] hF (by kernel_rfl) (by kernel_rfl) (ocons (ob1 (by kernel_rfl) (fun _ hd=>hd.1.cell (i:=2) (j:=1) rfl rfl)) (ocons (obN (us:=[iv p1.ray,iv p1.gate]) (by kernel_rfl) (fun _ hd=>(hd.1.blk (i:=1) rfl).cells rfl)) (ocons (obN (us:=[iv p2.ray,iv p2.gate]) (by kernel_rfl) (fun _ hd=>(hd.1.blk (i:=0) rfl).cells rfl)) onil))) ⟨by kernel_rfl⟩ fun a hF=>?_
 refine WRun.fin ?_
 refine all_cons ?_ (all_nil)
 refine litK (e:=199) (sz:=3) (f:=fold_bond.cells) (t:=194) (len:=1) (fun a2=>[(0,pb cb0),(3,iv p3),(5,pb a0),(6,pb a1),(11,.map (some m6)),(12,.agg #[iv p1.ray,iv p1.gate]),(17,sb a2 1)]) #[(0,.agg #[iv p2.ray,iv p2.gate,iv p3])] #[iv p2.ray,iv p2.gate,iv p3] ([(fold_bond.mk p2 p3)]) hF hS (by kernel_rfl) ⟨by kernel_rfl⟩ (by kernel_rfl) fold_bond.cells_len rfl rfl (by kernel_rfl) (fun _=>⟨by kernel_rfl⟩) fun a2 w a hF hS=>⟨⟨St.pick [1,2,4,5] (by decide) hS,(hS.frz (i:=3) rfl hlow)⟩,?_⟩
 refine WT.s [] [9] (by kernel_rfl) (by kernel_rfl) ?_
 refine WRun.fin ?_
 refine all_cons ?_ (all_nil)
 replace hS : St w0 (arr 199 3 fold_bond.cells (some ⟨a2,0,none⟩) ([(fold_bond.mk p2 p3)]).length 1 ([(fold_bond.mk p2 p3)]) :: blk a1 192 #[iv p2.ray,iv p2.gate] :: blk a0 192 #[iv p1.ray,iv p1.gate] :: fz w0 μ :: blk cb0 197 #[sv ad1 p0.sets cap2,.map (some m6)] :: nestR 135 132 1 (fN 1) ad1 p0.sets.length cap2 hd3 css4 :: mnestR (fA fold_place.cells) 199 3 fold_bond.cells m6 B7 css8 :: T_) w:=hS
 replace hS : St w0 (mnestR (fA fold_place.cells) 199 3 fold_bond.cells m6 B7 css8 :: arr 199 3 fold_bond.cells (some ⟨a2,0,none⟩) ([(fold_bond.mk p2 p3)]).length 1 ([(fold_bond.mk p2 p3)]) :: blk a1 192 #[iv p2.ray,iv p2.gate] :: blk a0 192 #[iv p1.ray,iv p1.gate] :: fz w0 μ :: blk cb0 197 #[sv ad1 p0.sets cap2,.map (some m6)] :: nestR 135 132 1 (fN 1) ad1 p0.sets.length cap2 hd3 css4 :: T_) w:=St.pickT (A:=[arr 199 3 fold_bond.cells (some ⟨a2,0,none⟩) ([(fold_bond.mk p2 p3)]).length 1 ([(fold_bond.mk p2 p3)]),blk a1 192 #[iv p2.ray,iv p2.gate],blk a0 192 #[iv p1.ray,iv p1.gate],fz w0 μ,blk cb0 197 #[sv ad1 p0.sets cap2,.map (some m6)],nestR 135 132 1 (fN 1) ad1 p0.sets.length cap2 hd3 css4,mnestR (fA fold_place.cells) 199 3 fold_bond.cells m6 B7 css8]) (T:=T_) [6,0,1,2,3,4,5] (by decide) hS
 refine mapEntryNK (kt:=192) (te:=194) (t:=195) (fun a7 a9 a5=>[(0,pb cb0),(3,iv p3),(5,pb a0),(6,pb a1),(11,.map (some m6)),(17,sb a2 1),(18,.tuple #[.slice a7 (((lkM p0.bonds p1).getD []).length) a9,iv ((a5 : Nat) : Int)])]) p1 key192 hq9 hF hS (by kernel_rfl) ⟨by kernel_rfl⟩ (by kernel_rfl) (by kernel_rfl) (fun _ _ _=>⟨by kernel_rfl⟩) fun a7 a9 a5 j44 B45 aZ aX w a hF aR aN aS hS=>⟨⟨St.pick [3,4,6,7] (by decide) hS,(hS.frz (i:=5) rfl hlow)⟩,?_⟩
 obtain rfl:=all2_eq aS
 refine WT.s [10,12] [11] (by kernel_rfl) (by kernel_rfl) ?_
 refine runC (rest:=[]) (obs:=[]) [10,12] [(0,pb cb0),(3,iv p3),(5,pb a0),(6,pb a1),(11,.map (some m6)),(13,.slice a7 (((lkM p0.bonds p1).getD []).length) a9),(17,sb a2 1),(20,iv ((a5 : Nat) : Int))] hF (by kernel_rfl) (by kernel_rfl) onil ⟨by kernel_rfl⟩ fun a hF=>?_
 refine WRun.fin ?_
 refine all_cons ?_ (all_nil)
 refine appK (t:=194) (ty:=194) (bytes:=24) (l:=((lkM p0.bonds p1).getD [])) (l':=([(fold_bond.mk p2 p3)])) (fun aF aI=>[(0,pb cb0),(3,iv p3),(5,pb a0),(6,pb a1),(11,.map (some m6)),(19,sv aF a4 aI),(20,iv ((a5 : Nat) : Int))]) 1 hF hS rfl (by kernel_rfl) ⟨by kernel_rfl⟩ (by kernel_rfl) (hS.arr (i:=2) rfl) (fun _ _=>rfl) aP (fun _ _=>⟨by kernel_rfl⟩) fun aF aI w a hF hS=>⟨⟨St.pick [3,4,6,7] (by decide) hS,(hS.frz (i:=5) rfl hlow)⟩,?_⟩
 refine WT.z [] (by kernel_rfl) ?_
 refine WRun.fin ?_
 refine SK.wi (entryStoreNK (t:=195) (l0:=((lkM p0.bonds p1).getD [])) (l3:=a4) [(0,pb cb0),(3,iv p3),(5,pb a0),(6,pb a1)] aR aN (all2_refl a4) hF hS (by kernel_rfl) ⟨by kernel_rfl⟩ ⟨by kernel_rfl⟩ fun B53 aB w a hF aT hS=>?_)
 refine wfn rfl ?_
 replace h:=bindS h
 obtain ⟨aD,aQ,h⟩:=h
 refine region_treeW 13 [8,9,11] _ (D:=fun w=>St w0 [arr 199 3 fold_bond.cells (some ⟨a2,0,none⟩) ([(fold_bond.mk p2 p3)]).length 1 ([(fold_bond.mk p2 p3)]),blk a1 192 #[iv p2.ray,iv p2.gate],blk a0 192 #[iv p1.ray,iv p1.gate],blk cb0 197 #[sv ad1 p0.sets cap2,.map (some m6)],nestR 135 132 1 (fN 1) ad1 p0.sets.length cap2 hd3 css4] w∧FrzAt μ w) (by kernel_rfl) (by kernel_rfl) hF.size (fun w hx=>?_) (fun _ _ h=>h)
 replace hS:=hS.later hx
 refine ⟨⟨St.pick [1,2,3,5,6] (by decide) hS,hS.frz (i:=4) rfl hlow⟩,?_⟩
 have b2:=Frz.le_refl μ
 refine WT.s [0,1,2,3,4,5,6,7] [8] (by kernel_rfl) (by kernel_rfl) ?_
 refine runC (rest:=[]) (obs:=[.run [] (Instr.loadAt 195 (.pointer (some ⟨cb0,1,none⟩))) (.map (some m6)),.run [] (Instr.loadAt 192 (pb a1)) (.agg #[iv p2.ray,iv p2.gate]),.run [] (Instr.loadAt 192 (pb a0)) (.agg #[iv p1.ray,iv p1.gate])]) [0,1,2,3,4,5,6,7] [(24,.map (some m6)),(25,.agg #[iv p2.ray,iv p2.gate]),(29,.agg #[iv p1.ray,iv p1.gate,iv p3])] hF (by kernel_rfl) (by kernel_rfl) (ocons (ob1 (by kernel_rfl) (fun _ hd=>hd.1.cell (i:=3) (j:=1) rfl rfl)) (ocons (obN (us:=[iv p2.ray,iv p2.gate]) (by kernel_rfl) (fun _ hd=>(hd.1.blk (i:=1) rfl).cells rfl)) (ocons (obN (us:=[iv p1.ray,iv p1.gate]) (by kernel_rfl) (fun _ hd=>(hd.1.blk (i:=2) rfl).cells rfl)) onil))) ⟨by kernel_rfl⟩ fun a hF=>?_
 refine WRun.fin ?_
 refine all_cons ?_ (all_nil)
 refine litK (e:=199) (sz:=3) (f:=fold_bond.cells) (t:=194) (len:=1) (fun a3=>[(24,.map (some m6)),(25,.agg #[iv p2.ray,iv p2.gate]),(30,sb a3 1)]) #[(0,.agg #[iv p1.ray,iv p1.gate,iv p3])] #[iv p1.ray,iv p1.gate,iv p3] ([(fold_bond.mk p1 p3)]) hF hS (by kernel_rfl) ⟨by kernel_rfl⟩ (by kernel_rfl) fold_bond.cells_len rfl rfl (by kernel_rfl) (fun _=>⟨by kernel_rfl⟩) fun a3 w a hF hS=>⟨⟨St.pick [2,3,4,6,7] (by decide) hS,(hS.frz (i:=5) rfl hlow)⟩,?_⟩
 refine WT.s [] [9] (by kernel_rfl) (by kernel_rfl) ?_
 refine WRun.fin ?_
 refine all_cons ?_ (all_nil)
 replace hS : St w0 (arr 199 3 fold_bond.cells (some ⟨a3,0,none⟩) ([(fold_bond.mk p1 p3)]).length 1 ([(fold_bond.mk p1 p3)]) :: mnestR (fA fold_place.cells) 199 3 fold_bond.cells m6 B53 aB :: arr 199 3 fold_bond.cells (some ⟨a2,0,none⟩) ([(fold_bond.mk p2 p3)]).length 1 ([(fold_bond.mk p2 p3)]) :: blk a1 192 #[iv p2.ray,iv p2.gate] :: blk a0 192 #[iv p1.ray,iv p1.gate] :: fz w0 μ :: blk cb0 197 #[sv ad1 p0.sets cap2,.map (some m6)] :: nestR 135 132 1 (fN 1) ad1 p0.sets.length cap2 hd3 css4 :: T_) w:=hS
 replace hS : St w0 (mnestR (fA fold_place.cells) 199 3 fold_bond.cells m6 B53 aB :: arr 199 3 fold_bond.cells (some ⟨a3,0,none⟩) ([(fold_bond.mk p1 p3)]).length 1 ([(fold_bond.mk p1 p3)]) :: arr 199 3 fold_bond.cells (some ⟨a2,0,none⟩) ([(fold_bond.mk p2 p3)]).length 1 ([(fold_bond.mk p2 p3)]) :: blk a1 192 #[iv p2.ray,iv p2.gate] :: blk a0 192 #[iv p1.ray,iv p1.gate] :: fz w0 μ :: blk cb0 197 #[sv ad1 p0.sets cap2,.map (some m6)] :: nestR 135 132 1 (fN 1) ad1 p0.sets.length cap2 hd3 css4 :: T_) w:=St.pickT (A:=[arr 199 3 fold_bond.cells (some ⟨a3,0,none⟩) ([(fold_bond.mk p1 p3)]).length 1 ([(fold_bond.mk p1 p3)]),mnestR (fA fold_place.cells) 199 3 fold_bond.cells m6 B53 aB,arr 199 3 fold_bond.cells (some ⟨a2,0,none⟩) ([(fold_bond.mk p2 p3)]).length 1 ([(fold_bond.mk p2 p3)]),blk a1 192 #[iv p2.ray,iv p2.gate],blk a0 192 #[iv p1.ray,iv p1.gate],fz w0 μ,blk cb0 197 #[sv ad1 p0.sets cap2,.map (some m6)],nestR 135 132 1 (fN 1) ad1 p0.sets.length cap2 hd3 css4]) (T:=T_) [1,0,2,3,4,5,6,7] (by decide) hS
 refine mapEntryNK (kt:=192) (te:=194) (t:=195) (fun a8 aA a6=>[(24,.map (some m6)),(30,sb a3 1),(31,.tuple #[.slice a8 (((lkM (upM p0.bonds p1 a4) p2).getD []).length) aA,iv ((a6 : Nat) : Int)])]) p2 key192 aT hF hS (by kernel_rfl) ⟨by kernel_rfl⟩ (by kernel_rfl) (by kernel_rfl) (fun _ _ _=>⟨by kernel_rfl⟩) fun a8 aA a6 j88 B89 b0 aY w a hF aU aO aV hS=>⟨⟨St.pick [3,4,5,7,8] (by decide) hS,(hS.frz (i:=6) rfl hlow)⟩,?_⟩
 obtain rfl:=all2_eq aV
 refine WT.s [10,12] [11] (by kernel_rfl) (by kernel_rfl) ?_
 refine runC (rest:=[]) (obs:=[]) [10,12] [(24,.map (some m6)),(26,.slice a8 (((lkM (upM p0.bonds p1 a4) p2).getD []).length) aA),(30,sb a3 1),(33,iv ((a6 : Nat) : Int))] hF (by kernel_rfl) (by kernel_rfl) onil ⟨by kernel_rfl⟩ fun a hF=>?_
 refine WRun.fin ?_
 refine all_cons ?_ (all_nil)
 refine appK (t:=194) (ty:=194) (bytes:=24) (l:=((lkM (upM p0.bonds p1 a4) p2).getD [])) (l':=([(fold_bond.mk p1 p3)])) (fun aG aJ=>[(24,.map (some m6)),(32,sv aG aD aJ),(33,iv ((a6 : Nat) : Int))]) 1 hF hS rfl (by kernel_rfl) ⟨by kernel_rfl⟩ (by kernel_rfl) (hS.arr (i:=2) rfl) (fun _ _=>rfl) aQ (fun _ _=>⟨by kernel_rfl⟩) fun aG aJ w a hF hS=>⟨⟨St.pick [3,4,5,7,8] (by decide) hS,(hS.frz (i:=6) rfl hlow)⟩,?_⟩
 refine WT.z [] (by kernel_rfl) ?_
 refine WRun.fin ?_
 refine SK.wi (entryStoreNK (t:=195) (l0:=((lkM (upM p0.bonds p1 a4) p2).getD [])) (l3:=aD) [] aU aO (all2_refl aD) hF hS (by kernel_rfl) ⟨by kernel_rfl⟩ ⟨by kernel_rfl⟩ fun B97 aC w a hF aW hS=>?_)
 refine WI.fin rfl ?_
 refine fn_end hF rfl ?_
 have hr_:=Option.some.inj h
 subst hr_
 replace hS : St w0 (mnestR (fA fold_place.cells) 199 3 fold_bond.cells m6 B97 aC :: arr 199 3 fold_bond.cells (some ⟨a3,0,none⟩) ([(fold_bond.mk p1 p3)]).length 1 ([(fold_bond.mk p1 p3)]) :: arr 199 3 fold_bond.cells (some ⟨a2,0,none⟩) ([(fold_bond.mk p2 p3)]).length 1 ([(fold_bond.mk p2 p3)]) :: blk a1 192 #[iv p2.ray,iv p2.gate] :: blk a0 192 #[iv p1.ray,iv p1.gate] :: fz w0 μ :: blk cb0 197 #[sv ad1 p0.sets cap2,.map (some m6)] :: nestR 135 132 1 (fN 1) ad1 p0.sets.length cap2 hd3 css4 :: T_) w:=hS
 replace hS:=St.pickT (A:=[mnestR (fA fold_place.cells) 199 3 fold_bond.cells m6 B97 aC,arr 199 3 fold_bond.cells (some ⟨a3,0,none⟩) ([(fold_bond.mk p1 p3)]).length 1 ([(fold_bond.mk p1 p3)]),arr 199 3 fold_bond.cells (some ⟨a2,0,none⟩) ([(fold_bond.mk p2 p3)]).length 1 ([(fold_bond.mk p2 p3)]),blk a1 192 #[iv p2.ray,iv p2.gate],blk a0 192 #[iv p1.ray,iv p1.gate],fz w0 μ,blk cb0 197 #[sv ad1 p0.sets cap2,.map (some m6)],nestR 135 132 1 (fN 1) ad1 p0.sets.length cap2 hd3 css4]) (T:=T_) [5,6,7,0] (by decide) hS
 exact ⟨μ,ad1,cap2,hd3,css4,B97,aC,hext,hlow,rfl,hq5,aW,hS⟩
theorem slices_Clone_fold_speeds_fold_speeds_okS (F : Nat) (p0 : (List (List api_Span))) (res : (List (List api_Span))) (h : slices_Clone_fold_speeds_fold_speeds F p0 = some res) (μ : Frz) (w0 : World) (hm : FrzAt μ w0) {ad1x : Addr} {cap2 : Nat} {css3 : List (List Value)} (hA4 : ArrQ μ 1 Rp132 (some ad1x) cap2 css3 p0) : Calls Try.prog 119 #[.slice (some ad1x) p0.length cap2] w0 (fun e w=>∃ (ν_ : Frz) (zad0 : Option Addr) (zcap0 : Nat) (zcss0 : List (List Value)),μ.ext w0.heap.size ν_∧e = .returned (sv zad0 res zcap0)∧All2 (Rp132 ν_) zcss0 res∧St w0 [fz w0 ν_,arr 132 1 (fN 1) zad0 res.length zcap0 zcss0] w):=by
 obtain ⟨hlow,hS⟩:=hm.init
 have hext:=Frz.ext_refl w0.heap.size μ
 rw [slices_Clone_fold_speeds_fold_speeds] at h
 refine fn_enterW Try.func119 rfl 8 [(0,.slice (some ad1x) p0.length cap2)] rfl rfl (by kernel_rfl) fun a w hw hF=>?_
 replace hS : St w0 [fz w0 μ] w:=by rw [hw]; exact hS
 clear hw
 refine esr ?_
 refine rn 1 1 [(0,.slice (some ad1x) p0.length cap2)] hF fun a hF=>?_
 refine wfn rfl ?_
 refine eseq ?_
 refine esr ?_
 refine rn 2 2 [(0,.slice (some ad1x) p0.length cap2),(4,.bool false)] hF fun a hF=>?_
 refine wfn rfl ?_
 refine wpIn_cond_false (hF.get rfl) ?_
 refine wpIn_skip (norm_then ?_)
 refine esr ?_
 have hq6 : All2 (Rp132 μ) ([] : List (List Value)) ([] : List (List api_Span)):=All2.nil
 refine SK.wi (litQK (e:=132) (sz:=1) (f:=fN 1) (t:=135) (len:=0) (fun b5=>[(0,.slice (some ad1x) p0.length cap2),(5,sb b5 0)]) #[] #[] ([] : List (List Value)) ([] : List (List api_Span)) hF hS (by kernel_rfl) ⟨by kernel_rfl⟩ (by kernel_rfl) (fN_len 1) rfl rfl rfl (by kernel_rfl) (fun _=>⟨by kernel_rfl⟩) fun b5 w a hF hS=>?_)
 refine rn 1 2 [(5,sb b5 0),(6,.slice (some ad1x) p0.length cap2)] hF fun a hF=>?_
 replace h:=bindS h
 obtain ⟨l7,hl7,h⟩:=h
 have a0 : All2 (Rp132 μ) (([] : List (List Value)) ++ css3) l7:=by rw [(apd_some hl7).1]; exact All2.app hq6 hA4.2
 refine SK.wi (appQK (t:=135) (ty:=135) (bytes:=24) (c:=([] : List (List Value))) (c':=css3) (l:=([] : List (List api_Span))) (l':=p0) (fun ad8 cap9=>[(7,sv ad8 l7 cap9)]) 0 hF hS rfl (by kernel_rfl) ⟨by kernel_rfl⟩ (by kernel_rfl) (hA4.at (hS.frz (i:=1) rfl hlow)) (ArrQ.one hA4.2 Rp132.one) hl7 (fun _ _=>⟨by kernel_rfl⟩) fun ad8 cap9 w a hF hS=>?_)
 refine rn 1 4 [(2,sv ad8 l7 cap9)] hF fun a hF=>?_
 refine wfn rfl ?_
 refine wpIn_ret (fn_ret [.tmp 2] [sv ad8 l7 cap9] hF rfl ⟨rfl,trivial⟩ ?_)
 have hr_:=Option.some.inj h
 subst hr_
 exact ⟨μ,_,_,_,hext,rfl,a0,St.pick [1,0] (by decide) hS⟩
theorem slices_Clone_fold_speeds_fold_speeds_okN (res : (List (List api_Span))) (h : ([] : List (List api_Span)) = res) (μ : Frz) (w0 : World) (hm : FrzAt μ w0) {cap2 : Nat} : Calls Try.prog 119 #[.slice none 0 cap2] w0 (fun e w=>∃ (ν_ : Frz) (zad0 : Option Addr) (zcap0 : Nat) (zcss0 : List (List Value)),μ.ext w0.heap.size ν_∧e = .returned (sv zad0 res zcap0)∧All2 (Rp132 ν_) zcss0 res∧St w0 [fz w0 ν_,arr 132 1 (fN 1) zad0 res.length zcap0 zcss0] w):=by
 obtain ⟨hlow,hS⟩:=hm.init
 have hext:=Frz.ext_refl w0.heap.size μ
 refine fn_enterW Try.func119 rfl 8 [(0,.slice none 0 cap2)] rfl rfl (by kernel_rfl) fun a w hw hF=>?_
 replace hS : St w0 [fz w0 μ] w:=by rw [hw]; exact hS
 clear hw
 refine esr ?_
 refine rn 1 1 [(0,.slice none 0 cap2)] hF fun a hF=>?_
 refine wfn rfl ?_
 refine eseq ?_
 refine esr ?_
 refine rn 2 2 [(0,.slice none 0 cap2),(4,.bool true)] hF fun a hF=>?_
 refine wfn rfl ?_
 refine wpIn_cond_true (hF.get rfl) ?_
 refine esr ?_
 refine rn 1 1 [(2,.slice none 0 0)] hF fun a hF=>?_
 refine wfn rfl ?_
 refine wpIn_ret (ret_then <| fn_ret [.tmp 2] [.slice none 0 0] hF rfl ⟨rfl,trivial⟩ ?_)
 subst h
 replace hS:=hS.nilarr 132 1 (fN 1)
 exact ⟨μ,_,_,_,hext,rfl,All2.nil,St.pick [1,0] (by decide) hS⟩
theorem slices_Clone_fold_speeds_fold_speeds_ok (F : Nat) (p0 : List (List api_Span)) (res : List (List api_Span)) (h : slices_Clone_fold_speeds_fold_speeds F p0 = some res) (μ : Frz) (w0 : World) (hm : FrzAt μ w0) {ad1 : Option Addr} {cap2 : Nat} {css3 : List (List Value)} (hA4 : ArrQ μ 1 Rp132 ad1 cap2 css3 p0) : Calls Try.prog 119 #[sv ad1 p0 cap2] w0 (fun e w=>∃ (ν_ : Frz) (zad0 : Option Addr) (zcap0 : Nat) (zcss0 : List (List Value)),μ.ext w0.heap.size ν_∧e = .returned (sv zad0 res zcap0)∧All2 (Rp132 ν_) zcss0 res∧St w0 [fz w0 ν_,arr 132 1 (fN 1) zad0 res.length zcap0 zcss0] w):=by
 cases ad1 with
 | some a=>exact slices_Clone_fold_speeds_fold_speeds_okS F p0 res h μ w0 hm hA4
 | none =>
  obtain rfl:=hA4.1.none_nil hm
  obtain rfl : p0 = []:=by cases hA4.2; rfl
  have hr : [] = res:=Option.some.inj (show some ([] : List (List api_Span)) = some res from h)
  exact slices_Clone_fold_speeds_fold_speeds_okN res hr μ w0 hm
theorem fold_settle_1_ok (F : Nat) (p0 : fold_place) (c0_ : (List (fold_place×Bool))) (c1_ : (List fold_place)) (res : ((List (fold_place×Bool))×(List fold_place))) (h : fold_settle_1 F p0 c0_ c1_ = some res) (μ : Frz) (w0 w1 : World) (T_ : List Res) (hlow : FrzIn w0 μ) {cb1 : Nat} {m1 : Nat} {cb2 : Nat} {ad2 : Option Addr} {cap3 : Nat} (hS : St w0 (fz w0 μ :: blk cb1 189 #[.map (some m1)] :: mapR (fA fold_place.cells) Value.bool m1 c0_ :: blk cb2 190 #[sv ad2 c1_ cap3] :: arrT 192 2 fold_place.cells ad2 c1_.length cap3 c1_ :: T_) w1) : Calls Try.prog 105 #[.agg #[iv p0.ray,iv p0.gate],pb cb1,pb cb2] w1 (fun e w=>∃ (ν_ : Frz) (ad9 : Option Addr) (a0 : Nat),μ.ext w0.heap.size ν_∧FrzIn w0 ν_∧e = .returned (.tuple #[])∧St w0 (fz w0 ν_ :: blk cb1 189 #[.map (some m1)] :: mapR (fA fold_place.cells) Value.bool m1 res.1 :: blk cb2 190 #[sv ad9 res.2 a0] :: arrT 192 2 fold_place.cells ad9 res.2.length a0 res.2 :: T_) w):=by
 rw [fold_settle_1] at h
 have hext:=Frz.ext_refl w0.heap.size μ
 refine fn_enterW Try.func105 rfl 14 [(0,.agg #[iv p0.ray,iv p0.gate]),(1,pb cb1),(2,pb cb2)] rfl rfl (by kernel_rfl) fun a w hw hF=>?_
 replace hS : St w0 (fz w0 μ :: blk cb1 189 #[.map (some m1)] :: mapR (fA fold_place.cells) Value.bool m1 c0_ :: blk cb2 190 #[sv ad2 c1_ cap3] :: arrT 192 2 fold_place.cells ad2 c1_.length cap3 c1_ :: T_) w:=by rw [hw]; exact hS
 clear hw
 refine esr ?_
 refine SK.wi (boxK (t:=192) (fun b4=>[(1,pb cb1),(2,pb cb2),(3,pb b4)]) (.agg #[iv p0.ray,iv p0.gate]) #[iv p0.ray,iv p0.gate] hF hS (by kernel_rfl) ⟨by kernel_rfl⟩ (by kernel_rfl) (fun _=>⟨by kernel_rfl⟩) fun b4 w a hF hS=>?_)
 refine wfn rfl ?_
 refine esr ?_
 refine rno 2 [.run [] (Instr.loadAt 189 (pb cb1)) (.map (some m1)),.run [] (Instr.loadAt 192 (pb b4)) (.agg #[iv p0.ray,iv p0.gate])] 2 [(1,pb cb1),(2,pb cb2),(3,pb b4),(4,.map (some m1)),(5,.agg #[iv p0.ray,iv p0.gate])] hF (ocons (ob1 (by kernel_rfl) (fun _ hd=>(hS.at_ hd).cell (i:=2) (j:=0) rfl rfl)) (ocons (obN (us:=[iv p0.ray,iv p0.gate]) (by kernel_rfl) (fun _ hd=>((hS.at_ hd).blk (i:=0) rfl).cells rfl)) onil)) fun a hF=>?_
 refine SK.wi (lookupK (kt:=192) (e:=4) (t:=189) [(1,pb cb1),(2,pb cb2),(3,pb b4),(6,.bool ((lkM c0_ p0).getD false))] 3 p0 false key192 hF hS rfl (by kernel_rfl) ⟨by kernel_rfl⟩ (by kernel_rfl) (by kernel_rfl) ⟨by kernel_rfl⟩ fun a hF=>?_)
 refine rn 1 4 [(1,pb cb1),(2,pb cb2),(3,pb b4),(7,.bool (!((lkM c0_ p0).getD false)))] hF fun a hF=>?_
 refine wfn rfl ?_
 refine econd hF rfl (fun hc=>?_) (fun hc=>?_)
 ·replace h:=bif_t h hc
  refine esr ?_
  refine rno 2 [.run [] (Instr.loadAt 189 (pb cb1)) (.map (some m1)),.run [] (Instr.loadAt 192 (pb b4)) (.agg #[iv p0.ray,iv p0.gate])] 2 [(2,pb cb2),(3,pb b4),(8,.map (some m1)),(9,.agg #[iv p0.ray,iv p0.gate])] hF (ocons (ob1 (by kernel_rfl) (fun _ hd=>(hS.at_ hd).cell (i:=2) (j:=0) rfl rfl)) (ocons (obN (us:=[iv p0.ray,iv p0.gate]) (by kernel_rfl) (fun _ hd=>((hS.at_ hd).blk (i:=0) rfl).cells rfl)) onil)) fun a hF=>?_
  refine SK.wi (updK (kt:=192) (e:=4) (t:=189) [(2,pb cb2),(3,pb b4)] 3 p0 true key192 hF hS rfl (by kernel_rfl) ⟨by kernel_rfl⟩ (by kernel_rfl) ⟨by kernel_rfl⟩ fun w a hF hS=>?_)
  refine wfn rfl ?_
  refine WI.region ?_
  refine rno 2 [.run [] (Instr.loadAt 190 (pb cb2)) (sv ad2 c1_ cap3),.run [] (Instr.loadAt 192 (pb b4)) (.agg #[iv p0.ray,iv p0.gate])] 2 [(2,pb cb2),(10,sv ad2 c1_ cap3),(11,.agg #[iv p0.ray,iv p0.gate])] hF (ocons (ob1 (by kernel_rfl) (fun _ hd=>(hS.at_ hd).cell (i:=4) (j:=0) rfl rfl)) (ocons (obN (us:=[iv p0.ray,iv p0.gate]) (by kernel_rfl) (fun _ hd=>((hS.at_ hd).blk (i:=0) rfl).cells rfl)) onil)) fun a hF=>?_
  refine SK.wi (litK (e:=192) (sz:=2) (f:=fold_place.cells) (t:=190) (len:=1) (fun b5=>[(2,pb cb2),(10,sv ad2 c1_ cap3),(12,sb b5 1)]) #[(0,.agg #[iv p0.ray,iv p0.gate])] #[iv p0.ray,iv p0.gate] ([p0]) hF hS (by kernel_rfl) ⟨by kernel_rfl⟩ (by kernel_rfl) fold_place.cells_len rfl rfl (by kernel_rfl) (fun _=>⟨by kernel_rfl⟩) fun b5 w a hF hS=>?_)
  replace h:=bindS h
  obtain ⟨l6,hl6,h⟩:=h
  refine SK.wi (appTK (t:=190) (ty:=190) (bytes:=16) (l:=c1_) (l':=([p0])) (fun ad7 cap8=>[(2,pb cb2),(13,sv ad7 l6 cap8)]) 6 hF hS rfl (by kernel_rfl) ⟨by kernel_rfl⟩ (by kernel_rfl) (hS.arr (i:=0) rfl) (fun _ _=>rfl) hl6 (fun _ _=>⟨by kernel_rfl⟩) fun ad7 cap8 w a hF hS=>?_)
  refine SK.wi (storeK (t:=190) [] 5 0 (sv ad7 l6 cap8) #[sv ad7 l6 cap8] hF hS rfl (by kernel_rfl) ⟨by kernel_rfl⟩ (by kernel_rfl) (by kernel_rfl) (by kernel_rfl) (by kernel_rfl) ⟨by kernel_rfl⟩ fun w a hF hS=>?_)
  refine WI.fin rfl ?_
  refine fn_end hF rfl ?_
  have hr_:=Option.some.inj h
  subst hr_
  replace hS : St w0 (arr 192 2 fold_place.cells (some ⟨b5,0,none⟩) ([p0]).length 1 ([p0]) :: blk b4 192 #[iv p0.ray,iv p0.gate] :: fz w0 μ :: blk cb1 189 #[.map (some m1)] :: mapR (fA fold_place.cells) Value.bool m1 (upM c0_ p0 true) :: blk cb2 190 #[sv ad7 l6 cap8] :: arrT 192 2 fold_place.cells ad7 l6.length cap8 l6 :: T_) w:=hS
  replace hS:=St.pickT (A:=[arr 192 2 fold_place.cells (some ⟨b5,0,none⟩) ([p0]).length 1 ([p0]),blk b4 192 #[iv p0.ray,iv p0.gate],fz w0 μ,blk cb1 189 #[.map (some m1)],mapR (fA fold_place.cells) Value.bool m1 (upM c0_ p0 true),blk cb2 190 #[sv ad7 l6 cap8],arrT 192 2 fold_place.cells ad7 l6.length cap8 l6]) (T:=T_) [2,3,4,5,6] (by decide) hS
  exact ⟨μ,ad7,cap8,hext,hlow,rfl,hS⟩
 ·replace h:=bif_f h hc
  refine wpIn_skip ?_
  refine fn_end hF rfl ?_
  have hr_:=Option.some.inj h
  subst hr_
  replace hS : St w0 (blk b4 192 #[iv p0.ray,iv p0.gate] :: fz w0 μ :: blk cb1 189 #[.map (some m1)] :: mapR (fA fold_place.cells) Value.bool m1 c0_ :: blk cb2 190 #[sv ad2 c1_ cap3] :: arrT 192 2 fold_place.cells ad2 c1_.length cap3 c1_ :: T_) w:=hS
  replace hS:=St.pickT (A:=[blk b4 192 #[iv p0.ray,iv p0.gate],fz w0 μ,blk cb1 189 #[.map (some m1)],mapR (fA fold_place.cells) Value.bool m1 c0_,blk cb2 190 #[sv ad2 c1_ cap3],arrT 192 2 fold_place.cells ad2 c1_.length cap3 c1_]) (T:=T_) [1,2,3,4,5] (by decide) hS
  exact ⟨μ,ad2,cap3,hext,hlow,rfl,hS⟩
theorem slices_Equal_fold_speeds_api_Span_ok (F : Nat) (p0 : (List api_Span)) (p1 : (List api_Span)) (res : Bool) (h : slices_Equal_fold_speeds_api_Span F p0 p1 = some res) (μ : Frz) (w0 : World) (hm : FrzAt μ w0) {ad1 : Option Addr} {cap2 : Nat} {ad4 : Option Addr} {cap5 : Nat} (hA3 : ArrM μ 2 api_Span.cells ad1 cap2 p0) (hA6 : ArrM μ 2 api_Span.cells ad4 cap5 p1) : Calls Try.prog 106 #[sv ad1 p0 cap2,sv ad4 p1 cap5] w0 (fun e w=>e = .returned (.bool res)∧Ext w0 w):=by
 obtain ⟨hlow,hS⟩:=hm.init
 have hext:=Frz.ext_refl w0.heap.size μ
 rw [slices_Equal_fold_speeds_api_Span] at h
 refine fn_enterW Try.func106 rfl 26 [(0,sv ad1 p0 cap2),(1,sv ad4 p1 cap5)] rfl rfl (by kernel_rfl) fun a w hw hF=>?_
 replace hS : St w0 [fz w0 μ] w:=by rw [hw]; exact hS
 clear hw
 refine esr ?_
 refine rn 1 1 [(0,sv ad1 p0 cap2),(1,sv ad4 p1 cap5)] hF fun a hF=>?_
 refine wfn rfl ?_
 refine eseq ?_
 refine esr ?_
 refine rn 5 5 [(0,sv ad1 p0 cap2),(1,sv ad4 p1 cap5),(10,.bool ((ln p0) != (ln p1)))] hF fun a hF=>?_
 refine wfn rfl ?_
 refine econd hF rfl (fun hc=>?_) (fun hc=>?_)
 ·replace h:=bif_t h hc
  refine esr ?_
  refine rn 1 1 [(4,.bool false)] hF fun a hF=>?_
  refine wfn rfl ?_
  refine wpIn_ret (ret_then <| fn_ret [.tmp 4] [.bool false] hF rfl ⟨rfl,trivial⟩ ?_)
  have hr_:=Option.some.inj h
  subst hr_
  exact ⟨rfl,hS.ext⟩
 ·replace h:=bif_f h hc
  refine wpIn_skip (norm_then ?_)
  refine ecut (fun a w=>Fr 26 [] [] a∧St w0 [fz w0 μ] w∧slices_Equal_fold_speeds_api_Span_K1 = some res) ?_ ?_
  ·skip
   refine esr ?_
   refine rn 3 3 [(0,sv ad1 p0 cap2),(1,sv ad4 p1 cap5),(12,iv (ln p0)),(13,iv 0)] hF fun a hF=>?_
   refine wfn rfl ?_
   refine wpIn_block ?_
   refine eloop (fun n_ a w=>∃ (a0 : Int),Fr 26 [] [(0,sv ad1 p0 cap2),(1,sv ad4 p1 cap5),(12,iv (ln p0)),(13,iv a0)] a∧St w0 [fz w0 μ] w∧slices_Equal_fold_speeds_api_Span_L2 p0 p1 n_ a0 = some res) F ⟨0,hF.sub (by kernel_rfl),St.pick [0] (by decide) hS,h⟩ ?_
   rintro nk2 a w ⟨a0,hF,hS,h⟩
   rcases nk2 with _ | nk2
   ·cases (show (none : Option Bool) = some res from h)
   obtain ⟨k2,hk2⟩ : ∃ k,k = slices_Equal_fold_speeds_api_Span_L2 p0 p1 nk2:=⟨_,rfl⟩
   replace h : slices_Equal_fold_speeds_api_Span_B2 p0 p1 k2 a0 = some res:=by rw [hk2]; exact h
   rw [slices_Equal_fold_speeds_api_Span_B2] at h
   refine esr ?_
   refine rn 1 1 [(0,sv ad1 p0 cap2),(1,sv ad4 p1 cap5),(12,iv (ln p0)),(13,iv a0),(14,.bool (decide (a0 < (ln p0))))] hF fun a hF=>?_
   refine wfn rfl ?_
   refine eseq ?_
   refine econd hF rfl (fun hc=>?_) (fun hc=>?_)
   ·replace h:=bif_t h hc
    refine wpIn_skip (norm_then ?_)
    refine eseq ?_
    refine wpIn_block ?_
    refine esr ?_
    refine rn 2 2 [(0,sv ad1 p0 cap2),(1,sv ad4 p1 cap5),(5,iv a0),(12,iv (ln p0)),(13,iv a0)] hF fun a hF=>?_
    refine wfn rfl ?_
    refine eseq ?_
    replace h:=bindS h
    obtain ⟨a1,a4,h⟩:=h
    replace h:=bindS h
    obtain ⟨a2,a5,h⟩:=h
    refine runD (obs:=[.run [] (Instr.indexAt 132 (sv ad1 p0 cap2) (iv a0)) (.pointer (some (slAddr ad1 a0 2))),.run [] (Instr.loadAt 25 (.pointer (some (slAddr ad1 a0 2)))) (.agg #[iv a1.Lo,iv a1.Hi]),.run [] (Instr.indexAt 132 (sv ad4 p1 cap5) (iv a0)) (.pointer (some (slAddr ad4 a0 2))),.run [] (Instr.loadAt 25 (.pointer (some (slAddr ad4 a0 2)))) (.agg #[iv a2.Lo,iv a2.Hi]),.run [] (eqS .neq 25 #[iv a1.Lo,iv a1.Hi] #[iv a2.Lo,iv a2.Hi]) (.bool (!(((a1.Lo : Int) == a2.Lo) && (((a1.Hi : Int) == a2.Hi) && true))))]) 9 [(0,sv ad1 p0 cap2),(1,sv ad4 p1 cap5),(12,iv (ln p0)),(13,iv a0),(24,.bool (!(((a1.Lo : Int) == a2.Lo) && (((a1.Hi : Int) == a2.Hi) && true))))] (by kernel_rfl) hF (by kernel_rfl) (ocons (obIdxQ (hA3 _ (hS.frz (i:=0) rfl hlow)) (by kernel_rfl) (fun _=>a4)) (ocons (obElNQ (m:=2) (i:=a0) (us:=[iv a1.Lo,iv a1.Hi]) 0 api_Span.cells_len (fun _ hd=>(hA3 _ ((hS.later hd).frz (i:=0) rfl hlow))) (by kernel_rfl) (fun _=>a4) ⟨rfl,rfl⟩) (ocons (obIdxQ (hA6 _ (hS.frz (i:=0) rfl hlow)) (by kernel_rfl) (fun _=>a5)) (ocons (obElNQ (m:=2) (i:=a0) (us:=[iv a2.Lo,iv a2.Hi]) 0 api_Span.cells_len (fun _ hd=>(hA6 _ ((hS.later hd).frz (i:=0) rfl hlow))) (by kernel_rfl) (fun _=>a5) ⟨rfl,rfl⟩) (ocons (obNeC (by kernel_rfl) (by kernel_rfl)) onil))))) ⟨by kernel_rfl⟩ fun a w hF hx=>?_
    replace hS:=hS.later hx
    refine wfn rfl ?_
    refine econd hF rfl (fun hc=>?_) (fun hc=>?_)
    ·replace h:=bif_t h hc
     refine esr ?_
     refine rn 1 1 [(4,.bool false)] hF fun a hF=>?_
     refine wfn rfl ?_
     refine wpIn_ret (ret_block <| ret_then <| ret_then <| ret_block <| ret_then <| fn_ret [.tmp 4] [.bool false] hF rfl ⟨rfl,trivial⟩ ?_)
     have hr_:=Option.some.inj h
     subst hr_
     exact ⟨rfl,hS.ext⟩
    ·replace h:=bif_f h hc
     refine wpIn_skip (norm_block <| norm_then <| ?_)
     refine WI.region ?_
     replace h:=bindS h
     obtain ⟨a3,a6,h⟩:=h
     refine rno 2 [.run [] (binOp .add 3 (iv a0) (iv 1)) (iv a3)] 2 [(0,sv ad1 p0 cap2),(1,sv ad4 p1 cap5),(12,iv (ln p0)),(13,iv a3)] hF (ocons (obAddC (fun _=>a6)) onil) fun a hF=>?_
     refine wfn rfl ?_
     rw [hk2] at h
     exact ⟨nk2,Nat.lt_succ_self _,a3,hF.sub (by kernel_rfl),St.pick [0] (by decide) hS,h⟩
   ·replace h:=bif_f h hc
    refine wpIn_exit (exit_then <| exit_then <| exit_hit <| norm_then ?_)
    exact ⟨hF.sub (by kernel_rfl),St.pick [0] (by decide) hS,h⟩
  rintro a w ⟨hF,hS,h⟩
  rw [slices_Equal_fold_speeds_api_Span_K1] at h
  refine esr ?_
  refine rn 1 1 [(4,.bool true)] hF fun a hF=>?_
  refine wfn rfl ?_
  refine wpIn_ret (fn_ret [.tmp 4] [.bool true] hF rfl ⟨rfl,trivial⟩ ?_)
  have hr_:=Option.some.inj h
  subst hr_
  exact ⟨rfl,hS.ext⟩
theorem ref03_Next_ok (F : Nat) (p0 : (List (List api_Span))) (p1 : Int) (p2 : Int) (res : Int) (h : ref03_Next F p0 p1 p2 = some res) (μ : Frz) (w0 : World) (hm : FrzAt μ w0) {ad1 : Option Addr} {cap2 : Nat} {css3 : List (List Value)} (hA4 : ArrQ μ 1 Rp43 ad1 cap2 css3 p0) : Calls Try.prog 73 #[sv ad1 p0 cap2,iv p1,iv p2] w0 (fun e w=>e = .returned (iv res)∧Ext w0 w):=by
 obtain ⟨hlow,hS⟩:=hm.init
 have hext:=Frz.ext_refl w0.heap.size μ
 rw [ref03_Next] at h
 refine fn_enterW Try.func73 rfl 38 [(0,sv ad1 p0 cap2),(1,iv p1),(2,iv p2)] rfl rfl (by kernel_rfl) fun a w hw hF=>?_
 replace hS : St w0 [fz w0 μ] w:=by rw [hw]; exact hS
 clear hw
 refine esr ?_
 refine rn 1 1 [(0,sv ad1 p0 cap2),(1,iv p1),(2,iv p2)] hF fun a hF=>?_
 refine wfn rfl ?_
 refine ecut (fun a w=>Fr 38 [] [] a∧St w0 [fz w0 μ] w∧ref03_Next_K1 = some res) ?_ ?_
 ·skip
  refine esr ?_
  replace h:=bindS h
  obtain ⟨a3,aI,h⟩:=h
  refine rno 3 [.run [] (binOp .add 3 (iv p1) (iv 1)) (iv a3)] 3 [(0,sv ad1 p0 cap2),(1,iv p1),(2,iv p2),(7,iv a3)] hF (ocons (obAddC (fun _=>aI)) onil) fun a hF=>?_
  refine wfn rfl ?_
  refine wpIn_block ?_
  refine eloop (fun n_ a w=>∃ (a0 : Int),Fr 38 [] [(0,sv ad1 p0 cap2),(1,iv p1),(2,iv p2),(7,iv a0)] a∧St w0 [fz w0 μ] w∧ref03_Next_L2 p0 p1 p2 n_ a0 = some res) F ⟨a3,hF.sub (by kernel_rfl),St.pick [0] (by decide) hS,h⟩ ?_
  rintro nk2 a w ⟨a0,hF,hS,h⟩
  rcases nk2 with _ | nk2
  ·cases (show (none : Option Int) = some res from h)
  obtain ⟨k2,hk2⟩ : ∃ k,k = ref03_Next_L2 p0 p1 p2 nk2:=⟨_,rfl⟩
  replace h : ref03_Next_B2 p0 p1 p2 k2 a0 = some res:=by rw [hk2]; exact h
  rw [ref03_Next_B2] at h
  refine eseq ?_
  refine esr ?_
  replace h:=bindS h
  obtain ⟨a4,aJ,h⟩:=h
  refine rno 12 [.run [⟨14,true,(decide (a0 < (ln p0)))⟩] (binOp .sub 3 (iv a0) (iv p1)) (iv a4)] 12 [(0,sv ad1 p0 cap2),(1,iv p1),(2,iv p2),(7,iv a0),(21,.bool (bif (decide (a0 < (ln p0))) then (decide (a4≤p2)) else false))] hF (ocons (obSubC (fun hk=>gd_some aJ hk)) onil) fun a hF=>?_
  rcases Bool.eq_false_or_eq_true ((bif (decide (a0 < (ln p0))) then (decide (a4≤p2)) else false)) with a1 | a1
  ·replace h:=bif_t h a1
   rw [a1] at hF
   replace h:=bindS h
   obtain ⟨a7,aF,h⟩:=h
   obtain ⟨aK,a5,aD⟩:=getI_all2 hA4.2 aF
   obtain ⟨a9,aB,rfl,aM⟩:=aD
   refine rno 7 [.run [⟨21,true,true⟩] (Instr.indexAt 48 (sv ad1 p0 cap2) (iv p1)) (.pointer (some (slAddr ad1 p1 1))),.run [⟨21,true,true⟩] (Instr.loadAt 43 (.pointer (some (slAddr ad1 p1 1)))) (sv a9 a7 aB)] 19 [(0,sv ad1 p0 cap2),(1,iv p1),(2,iv p2),(7,iv a0),(28,.bool (decide ((ln a7) > 0)))] hF (ocons (obIdxQ (hA4.at (hS.frz (i:=0) rfl hlow)) (by kernel_rfl) (fun _=>a5)) (ocons (obElQ (i:=p1) 0 (fN_len 1) (fun _ hd=>(hA4.at ((hS.at_ hd).frz (i:=0) rfl hlow))) (by kernel_rfl) (fun _=>a5) rfl) onil)) fun a hF=>?_
   refine wfn rfl ?_
   refine econd hF rfl (fun hc=>?_) (fun hc=>?_)
   ·replace h:=bif_t h hc
    refine wpIn_skip (norm_then ?_)
    refine eseq ?_
    refine wpIn_block ?_
    refine esr ?_
    replace h:=bindS h
    obtain ⟨a8,aG,h⟩:=h
    obtain ⟨aL,a6,aE⟩:=getI_all2 hA4.2 aG
    obtain ⟨aA,aC,rfl,aN⟩:=aE
    refine rno 6 [.run [] (Instr.indexAt 48 (sv ad1 p0 cap2) (iv a0)) (.pointer (some (slAddr ad1 a0 1))),.run [] (Instr.loadAt 43 (.pointer (some (slAddr ad1 a0 1)))) (sv aA a8 aC)] 6 [(0,sv ad1 p0 cap2),(1,iv p1),(2,iv p2),(7,iv a0),(36,.bool (decide ((ln a8) > 0)))] hF (ocons (obIdxQ (hA4.at (hS.frz (i:=0) rfl hlow)) (by kernel_rfl) (fun _=>a6)) (ocons (obElQ (i:=a0) 0 (fN_len 1) (fun _ hd=>(hA4.at ((hS.at_ hd).frz (i:=0) rfl hlow))) (by kernel_rfl) (fun _=>a6) rfl) onil)) fun a hF=>?_
    refine wfn rfl ?_
    refine econd hF rfl (fun hc=>?_) (fun hc=>?_)
    ·replace h:=bif_t h hc
     refine esr ?_
     refine rn 2 2 [(6,iv a0)] hF fun a hF=>?_
     refine wfn rfl ?_
     refine wpIn_ret (ret_block <| ret_then <| ret_then <| ret_block <| ret_then <| fn_ret [.tmp 6] [iv a0] hF rfl ⟨rfl,trivial⟩ ?_)
     have hr_:=Option.some.inj h
     subst hr_
     exact ⟨rfl,hS.ext⟩
    ·replace h:=bif_f h hc
     refine wpIn_skip (norm_block <| norm_then <| ?_)
     refine WI.region ?_
     replace h:=bindS h
     obtain ⟨a2,aH,h⟩:=h
     refine rno 3 [.run [] (binOp .add 3 (iv a0) (iv 1)) (iv a2)] 3 [(0,sv ad1 p0 cap2),(1,iv p1),(2,iv p2),(7,iv a2)] hF (ocons (obAddC (fun _=>aH)) onil) fun a hF=>?_
     refine wfn rfl ?_
     rw [hk2] at h
     exact ⟨nk2,Nat.lt_succ_self _,a2,hF.sub (by kernel_rfl),St.pick [0] (by decide) hS,h⟩
   ·replace h:=bif_f h hc
    refine wpIn_exit (exit_then <| exit_then <| exit_hit <| norm_then ?_)
    exact ⟨hF.sub (by kernel_rfl),St.pick [0] (by decide) hS,h⟩
  ·replace h:=bif_f h a1
   rw [a1] at hF
   refine skip_ 13 [(0,sv ad1 p0 cap2),(1,iv p1),(2,iv p2),(7,iv a0),(21,.bool false),(22,undef)] hF (by kernel_rfl) ⟨by kernel_rfl⟩ ⟨by kernel_rfl⟩ rfl fun a hF=>?_
   refine skip_ 14 [(0,sv ad1 p0 cap2),(1,iv p1),(2,iv p2),(7,iv a0),(21,.bool false),(22,undef),(23,undef)] hF (by kernel_rfl) ⟨by kernel_rfl⟩ ⟨by kernel_rfl⟩ rfl fun a hF=>?_
   refine skip_ 15 [(0,sv ad1 p0 cap2),(1,iv p1),(2,iv p2),(7,iv a0),(21,.bool false),(24,undef)] hF (by kernel_rfl) ⟨by kernel_rfl⟩ ⟨by kernel_rfl⟩ rfl fun a hF=>?_
   refine skip_ 16 [(0,sv ad1 p0 cap2),(1,iv p1),(2,iv p2),(7,iv a0),(21,.bool false),(25,undef)] hF (by kernel_rfl) ⟨by kernel_rfl⟩ ⟨by kernel_rfl⟩ rfl fun a hF=>?_
   refine skip_ 17 [(0,sv ad1 p0 cap2),(1,iv p1),(2,iv p2),(7,iv a0),(21,.bool false),(26,undef)] hF (by kernel_rfl) ⟨by kernel_rfl⟩ ⟨by kernel_rfl⟩ rfl fun a hF=>?_
   refine skip_ 18 [(0,sv ad1 p0 cap2),(1,iv p1),(2,iv p2),(7,iv a0),(21,.bool false),(27,undef)] hF (by kernel_rfl) ⟨by kernel_rfl⟩ ⟨by kernel_rfl⟩ rfl fun a hF=>?_
   refine rn 1 19 [(0,sv ad1 p0 cap2),(1,iv p1),(2,iv p2),(7,iv a0),(28,.bool false)] hF fun a hF=>?_
   refine wfn rfl ?_
   refine wpIn_cond_false (hF.get rfl) ?_
   refine wpIn_exit (exit_then <| exit_then <| exit_hit <| norm_then ?_)
   exact ⟨hF.sub (by kernel_rfl),St.pick [0] (by decide) hS,h⟩
 rintro a w ⟨hF,hS,h⟩
 rw [ref03_Next_K1] at h
 refine esr ?_
 refine rn 1 1 [(6,iv (-1))] hF fun a hF=>?_
 refine wfn rfl ?_
 refine wpIn_ret (fn_ret [.tmp 6] [iv (-1)] hF rfl ⟨rfl,trivial⟩ ?_)
 have hr_:=Option.some.inj h
 subst hr_
 exact ⟨rfl,hS.ext⟩
theorem ref03_Same_ok (F : Nat) (p0 : (List api_Span)) (p1 : (List api_Span)) (res : Bool) (h : ref03_Same F p0 p1 = some res) (μ : Frz) (w0 : World) (hm : FrzAt μ w0) {ad1 : Option Addr} {cap2 : Nat} {ad4 : Option Addr} {cap5 : Nat} (hA3 : ArrM μ 2 api_Span.cells ad1 cap2 p0) (hA6 : ArrM μ 2 api_Span.cells ad4 cap5 p1) : Calls Try.prog 108 #[sv ad1 p0 cap2,sv ad4 p1 cap5] w0 (fun e w=>e = .returned (.bool res)∧Ext w0 w):=by
 obtain ⟨hlow,hS⟩:=hm.init
 have hext:=Frz.ext_refl w0.heap.size μ
 rw [ref03_Same] at h
 refine fn_enterW Try.func108 rfl 26 [(0,sv ad1 p0 cap2),(1,sv ad4 p1 cap5)] rfl rfl (by kernel_rfl) fun a w hw hF=>?_
 replace hS : St w0 [fz w0 μ] w:=by rw [hw]; exact hS
 clear hw
 refine esr ?_
 refine rn 1 1 [(0,sv ad1 p0 cap2),(1,sv ad4 p1 cap5)] hF fun a hF=>?_
 refine wfn rfl ?_
 refine eseq ?_
 refine esr ?_
 refine rn 5 5 [(0,sv ad1 p0 cap2),(1,sv ad4 p1 cap5),(10,.bool ((ln p0) != (ln p1)))] hF fun a hF=>?_
 refine wfn rfl ?_
 refine econd hF rfl (fun hc=>?_) (fun hc=>?_)
 ·replace h:=bif_t h hc
  refine esr ?_
  refine rn 1 1 [(4,.bool false)] hF fun a hF=>?_
  refine wfn rfl ?_
  refine wpIn_ret (ret_then <| fn_ret [.tmp 4] [.bool false] hF rfl ⟨rfl,trivial⟩ ?_)
  have hr_:=Option.some.inj h
  subst hr_
  exact ⟨rfl,hS.ext⟩
 ·replace h:=bif_f h hc
  refine wpIn_skip (norm_then ?_)
  refine ecut (fun a w=>Fr 26 [] [] a∧St w0 [fz w0 μ] w∧ref03_Same_K1 = some res) ?_ ?_
  ·skip
   refine esr ?_
   refine rn 1 1 [(0,sv ad1 p0 cap2),(1,sv ad4 p1 cap5),(5,iv 0)] hF fun a hF=>?_
   refine wfn rfl ?_
   refine wpIn_block ?_
   refine eloop (fun n_ a w=>∃ (a0 : Int),Fr 26 [] [(0,sv ad1 p0 cap2),(1,sv ad4 p1 cap5),(5,iv a0)] a∧St w0 [fz w0 μ] w∧ref03_Same_L2 p0 p1 n_ a0 = some res) F ⟨0,hF.sub (by kernel_rfl),St.pick [0] (by decide) hS,h⟩ ?_
   rintro nk2 a w ⟨a0,hF,hS,h⟩
   rcases nk2 with _ | nk2
   ·cases (show (none : Option Bool) = some res from h)
   obtain ⟨k2,hk2⟩ : ∃ k,k = ref03_Same_L2 p0 p1 nk2:=⟨_,rfl⟩
   replace h : ref03_Same_B2 p0 p1 k2 a0 = some res:=by rw [hk2]; exact h
   rw [ref03_Same_B2] at h
   refine eseq ?_
   refine esr ?_
   refine rn 4 4 [(0,sv ad1 p0 cap2),(1,sv ad4 p1 cap5),(5,iv a0),(14,.bool (decide (a0 < (ln p0))))] hF fun a hF=>?_
   refine wfn rfl ?_
   refine econd hF rfl (fun hc=>?_) (fun hc=>?_)
   ·replace h:=bif_t h hc
    refine wpIn_skip (norm_then ?_)
    refine eseq ?_
    refine wpIn_block ?_
    refine eseq ?_
    replace h:=bindS h
    obtain ⟨a1,a4,h⟩:=h
    replace h:=bindS h
    obtain ⟨a2,a5,h⟩:=h
    refine runD (obs:=[.run [] (Instr.indexAt 43 (sv ad1 p0 cap2) (iv a0)) (.pointer (some (slAddr ad1 a0 2))),.run [] (Instr.loadAt 25 (.pointer (some (slAddr ad1 a0 2)))) (.agg #[iv a1.Lo,iv a1.Hi]),.run [] (Instr.indexAt 43 (sv ad4 p1 cap5) (iv a0)) (.pointer (some (slAddr ad4 a0 2))),.run [] (Instr.loadAt 25 (.pointer (some (slAddr ad4 a0 2)))) (.agg #[iv a2.Lo,iv a2.Hi]),.run [] (eqS .neq 25 #[iv a1.Lo,iv a1.Hi] #[iv a2.Lo,iv a2.Hi]) (.bool (!(((a1.Lo : Int) == a2.Lo) && (((a1.Hi : Int) == a2.Hi) && true))))]) 9 [(0,sv ad1 p0 cap2),(1,sv ad4 p1 cap5),(5,iv a0),(25,.bool (!(((a1.Lo : Int) == a2.Lo) && (((a1.Hi : Int) == a2.Hi) && true))))] (by kernel_rfl) hF (by kernel_rfl) (ocons (obIdxQ (hA3 _ (hS.frz (i:=0) rfl hlow)) (by kernel_rfl) (fun _=>a4)) (ocons (obElNQ (m:=2) (i:=a0) (us:=[iv a1.Lo,iv a1.Hi]) 0 api_Span.cells_len (fun _ hd=>(hA3 _ ((hS.later hd).frz (i:=0) rfl hlow))) (by kernel_rfl) (fun _=>a4) ⟨rfl,rfl⟩) (ocons (obIdxQ (hA6 _ (hS.frz (i:=0) rfl hlow)) (by kernel_rfl) (fun _=>a5)) (ocons (obElNQ (m:=2) (i:=a0) (us:=[iv a2.Lo,iv a2.Hi]) 0 api_Span.cells_len (fun _ hd=>(hA6 _ ((hS.later hd).frz (i:=0) rfl hlow))) (by kernel_rfl) (fun _=>a5) ⟨rfl,rfl⟩) (ocons (obNeC (by kernel_rfl) (by kernel_rfl)) onil))))) ⟨by kernel_rfl⟩ fun a w hF hx=>?_
    replace hS:=hS.later hx
    refine wfn rfl ?_
    refine econd hF rfl (fun hc=>?_) (fun hc=>?_)
    ·replace h:=bif_t h hc
     refine esr ?_
     refine rn 1 1 [(4,.bool false)] hF fun a hF=>?_
     refine wfn rfl ?_
     refine wpIn_ret (ret_block <| ret_then <| ret_then <| ret_block <| ret_then <| fn_ret [.tmp 4] [.bool false] hF rfl ⟨rfl,trivial⟩ ?_)
     have hr_:=Option.some.inj h
     subst hr_
     exact ⟨rfl,hS.ext⟩
    ·replace h:=bif_f h hc
     refine wpIn_skip (norm_block <| norm_then <| ?_)
     refine WI.region ?_
     replace h:=bindS h
     obtain ⟨a3,a6,h⟩:=h
     refine rno 3 [.run [] (binOp .add 3 (iv a0) (iv 1)) (iv a3)] 3 [(0,sv ad1 p0 cap2),(1,sv ad4 p1 cap5),(5,iv a3)] hF (ocons (obAddC (fun _=>a6)) onil) fun a hF=>?_
     refine wfn rfl ?_
     rw [hk2] at h
     exact ⟨nk2,Nat.lt_succ_self _,a3,hF.sub (by kernel_rfl),St.pick [0] (by decide) hS,h⟩
   ·replace h:=bif_f h hc
    refine wpIn_exit (exit_then <| exit_then <| exit_hit <| norm_then ?_)
    exact ⟨hF.sub (by kernel_rfl),St.pick [0] (by decide) hS,h⟩
  rintro a w ⟨hF,hS,h⟩
  rw [ref03_Same_K1] at h
  refine esr ?_
  refine rn 1 1 [(4,.bool true)] hF fun a hF=>?_
  refine wfn rfl ?_
  refine wpIn_ret (fn_ret [.tmp 4] [.bool true] hF rfl ⟨rfl,trivial⟩ ?_)
  have hr_:=Option.some.inj h
  subst hr_
  exact ⟨rfl,hS.ext⟩
end Go.Proofs.Ytbhjgebjojdohaa
