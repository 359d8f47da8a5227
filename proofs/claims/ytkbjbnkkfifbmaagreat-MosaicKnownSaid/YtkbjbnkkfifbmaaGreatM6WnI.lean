import Derived.Test.YtkbjbnkkfifbmaaGreatM6XD
import Derived.Test.YtkbjbnkkfifbmaaGreatProg
namespace Go.Proofs.YtkbjbnkkfifbmaaGreat
open Go Go.RowKit Go.Eng
set_option linter.unusedVariables false
set_option maxRecDepth 10000
set_option maxHeartbeats 4000000
theorem Kx (F:Nat) (p0:(List (List api_Span))) (p1:Int) (p2:(List (List api_Span))) (res:(List (List api_Span))) (h:Gk F p0 p1 p2=some res) (μ:Frz) (w0 w1:World) (T_:List Res) (hlow:B4 w0 μ) {ad1:Option Addr} {cap2:Nat} {css3:List (List Value)} {ad5:Option Addr} {cap6:Nat} {css7:List (List Value)} (hq4:All2 (Rp47 μ) css3 p0) (hA8:ArrQ μ 1 Rp47 ad5 cap6 css7 p2) (hS:St w0 (Cj w0.heap.size μ::arr 47 1 (fN 1) ad1 p0.length cap2 css3::T_) w1):Ax Tryz.prog 113 #[.slice ad1 p0.length cap2,.int .i64 p1,.slice ad5 p2.length cap6] w1 (fun e w=>∃(ν_:Frz) (ad9:Option Addr) (cap10:Nat) (css11:List (List Value)),μ.ext w0.heap.size ν_∧B4 w0 ν_∧e=(.slice ad9 res.length cap10)∧(All2 (Rp47 ν_) css11 res)∧St w0 (Cj w0.heap.size ν_::arr 47 1 (fN 1) ad9 res.length cap10 css11::T_) w):=by
 unfold Gk at h
 split at h
 ·rename_i hb
  obtain ⟨rfl,hl2,hl⟩:=hb
  cases h
  have hlen:(p0++p2).length=p0.length+1:=by simp [hl2]
  have hl7:css7.length=1:=by rw [hA8.2.len];exact hl2
  have hl3:css3.length=p0.length:=hq4.len;refine feW Tryz.func113 95 [(0,.slice ad1 p0.length cap2),(1,iv p0.length),(2,.slice ad5 p2.length cap6)] hS fun a w hF hS=>?_;have hap:apd 24 css3 css7=some (css3++css7):=by
   unfold apd;rw [if_pos];rw [hl7,hl3];omega
  refine qnB [] hF fun a hF=>?_;refine qoB [] hF (oX (.run [] (Instr.sliceAt 147 (.slice ad1 p0.length cap2) (some (iv p0.length)) none none) (.slice (C9 ad1 cap2 p0.length 1) (p0.length-p0.length) (cap2-p0.length))) (Ku (sz:=1) (by kernel_rfl) (fun _=>Nat.le_refl _))<|A3) fun a hF=>?_;rw [←hA8.2.len,←hl3] at hF;rw [←hl3] at hS;refine qnB [(7,iv css7.length)] hF fun a hF=>?_;refine Ad<|qnB [(16,.bool ((css7.length:Int)==0))] hF fun a hF=>?_;refine Db hF rfl (fun hc=>by rw [hl7] at hc;cases hc) fun _=>?_
  refine wpIn_skip (A4 ?_);refine qnB [(8,iv css3.length)] hF fun a hF=>?_;refine Ad<|qnB [(22,.bool ((css3.length:Int)==css3.length))] hF fun a hF=>?_;refine Db hF rfl (fun _=>?_) fun hc=>by simp at hc
  refine esr<|rn 2 2 [(23,.slice ad1 css3.length cap2),(24,.slice ad5 css7.length cap6)] (hF.sub (M':=[(0,.slice ad1 css3.length cap2),(2,.slice ad5 css7.length cap6)]) (by kernel_rfl)) fun a hF=>?_;refine SK.wi (qP 147 147 1 (bytes:=24) (fun ad2 cap2=>[(25,.slice ad2 (css3++css7).length cap2)]) hF hS (hA8.1 _ (hS.frz (i:=0) rfl hlow)) hap rfl (h1:=ArrQ.one hA8.2 Rp47.one) fun ad2 cap2 w a hF hS=>?_);refine rn 1 4 [(6,.slice ad2 (css3++css7).length cap2)] hF fun a hF=>wfn rfl ?_;have e:(css3++css7).length=(p0++p2).length:=by rw [List.length_append,List.length_append,hl3,hl7,hl2]
  refine wpIn_ret (A5<|A6 [.tmp 6] [_] hF rfl ⟨rfl,trivial⟩ ⟨_,rfl,μ,ad2,cap2,css3++css7,Frz.ext_refl _ _,hlow,?_,All2.app hq4 hA8.2,?_⟩)
  ·show Value.slice ad2 (css3++css7).length cap2=_;rw [e]
  ·rw [←e];exact hS
 ·cases h
end Go.Proofs.YtkbjbnkkfifbmaaGreat
