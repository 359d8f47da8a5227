import Derived.Test.YtifbomimeodibaaV4XD
import Derived.Test.YtifbomimeodibaaProg
import Derived.Test.YtifbomimeodibaaV4WnB
namespace Go.Proofs.Ytifbomimeodibaa
open Go Go.RowKit Go.Eng
set_option maxRecDepth 10000
set_option maxHeartbeats 4000000
set_option linter.unusedVariables false
set_option linter.unusedSimpArgs false
theorem A8 (F:Nat) (p0:law12_Thing) (p1:Int) (p2:Int) (res:Int) (h:Ae F p0 p1 p2=some res) (μ:Frz) (w0:World) (hm:FrzAt μ w0) {ad1:Option Addr} {cap2:Nat} (hA3:ArrM μ 1 (fK .i16) ad1 cap2 p0.Numbers):Calls Try.prog 31 #[.agg #[.int .u8 p0.Kind,.int .u32 p0.Time,.int .u8 p0.Sides.1,.int .u8 p0.Sides.2.1,.int .u8 p0.Sides.2.2,sv ad1 p0.Numbers cap2],iv p1,iv p2] w0 (fun e w=>e=.returned (iv res)∧Ext w0 w):=by
 obtain ⟨hlow,hS⟩:=hm.init
 have hext:=Frz.ext_refl w0.heap.size μ
 rw [Ae] at h
 refine Aq Try.func31 rfl 29 [(0,.agg #[.int .u8 p0.Kind,.int .u32 p0.Time,.int .u8 p0.Sides.1,.int .u8 p0.Sides.2.1,.int .u8 p0.Sides.2.2,sv ad1 p0.Numbers cap2]),(1,iv p1),(2,iv p2)] rfl rfl kr fun a w hw hF=>?_
 replace hS:=hS.cast hw
 clear hw
 refine esr ?_
 refine SK.wi (H4 (t:=58) (fun b4=>[(1,iv p1),(2,iv p2),(3,pb b4)]) (.agg #[.int .u8 p0.Kind,.int .u32 p0.Time,.int .u8 p0.Sides.1,.int .u8 p0.Sides.2.1,.int .u8 p0.Sides.2.2,sv ad1 p0.Numbers cap2]) #[.int .u8 p0.Kind,.int .u32 p0.Time,.int .u8 p0.Sides.1,.int .u8 p0.Sides.2.1,.int .u8 p0.Sides.2.2,sv ad1 p0.Numbers cap2] hF hS kr ⟨kr⟩ kr (fun _=>⟨kr⟩) fun b4 w a hF hS=>?_)
 refine rn 1 2 [(1,iv p1),(2,iv p2),(3,pb b4)] hF fun a hF=>?_
 refine wfn rfl ?_
 refine B0 ?_
 refine esr ?_
 refine rno 4 [.run [] (Instr.loadAt 56 (.pointer (some ⟨b4,5,none⟩))) (sv ad1 p0.Numbers cap2)] 4 [(1,iv p1),(2,iv p2),(3,pb b4),(11,.bool ((ln p0.Numbers)==0))] hF (A0 (ob1 kr (fun _ hd=>(hS.at_ hd).cell (i:=0) (j:=5) rfl rfl)) Aa) fun a hF=>?_
 refine wfn rfl ?_
 refine As hF rfl (fun hc=>?_) (fun hc=>?_)
 ·replace h:=Ao h hc
  refine esr ?_
  refine rn 1 1 [(6,iv 0)] hF fun a hF=>?_
  refine wfn rfl ?_
  refine wpIn_ret (Ab<|Ak [.tmp 6] [iv 0] hF rfl ⟨rfl,trivial⟩ ?_)
  have hr_:=Option.some.inj h
  subst hr_
  exact ⟨rfl,hS.ext⟩
 ·replace h:=An h hc
  refine wpIn_skip (A1 ?_)
  refine B0 ?_
  replace h:=A4 h
  obtain ⟨x5,hx5,h⟩:=h
  replace h:=A4 h
  obtain ⟨u6,hu6,h⟩:=h
  replace h:=A4 h
  obtain ⟨x7,hx7,h⟩:=h
  replace h:=A4 h
  obtain ⟨x8,hx8,h⟩:=h
  refine Po (obs:=[.run [] (Instr.loadAt 56 (.pointer (some ⟨b4,5,none⟩))) (sv ad1 p0.Numbers cap2),.run [] (Instr.loadAt 56 (.pointer (some ⟨b4,5,none⟩))) (sv ad1 p0.Numbers cap2),.run [] (binOp .rem 3 (iv p1) (iv (ln p0.Numbers))) (iv x5),.run [] (Instr.indexAt 56 (sv ad1 p0.Numbers cap2) (iv x5)) (.pointer (some (Ag ad1 x5 1))),.run [] (Instr.loadAt 110 (.pointer (some (Ag ad1 x5 1)))) (.int .i16 u6),.run [] (convert 110 3 (.int .i16 u6)) (iv x7),.run [] (binOp .rem 3 (iv x7) (iv p2)) (iv x8)]) 13 [(2,iv p2),(7,iv x8)] kr hF kr (A0 (ob1 kr (fun _ hd=>(hS.later hd).cell (i:=0) (j:=5) rfl rfl)) (A0 (ob1 kr (fun _ hd=>(hS.later hd).cell (i:=0) (j:=5) rfl rfl)) (A0 (Jj (fun _=>hx5)) (A0 (Bc (hA3 _ (hS.frz (i:=1) rfl hlow)) kr (fun _=>hu6)) (A0 (Ey (i:=x5) 0 (Cf .i16) (fun _ hd=>(hA3 _ ((hS.later hd).frz (i:=1) rfl hlow))) kr (fun _=>hu6) rfl) (A0 (J4 kr kr (fun _=>hx7)) (A0 (Jj (fun _=>hx8)) Aa))))))) ⟨kr⟩ fun a w hF hx=>?_
  replace hS:=hS.later hx
  refine wfn rfl ?_
  refine esr ?_
  replace h:=A4 h
  obtain ⟨x9,hx9,h⟩:=h
  replace h:=A4 h
  obtain ⟨a0,a1,h⟩:=h
  refine rno 6 [.run [] (binOp .add 3 (iv x8) (iv p2)) (iv x9),.run [] (binOp .rem 3 (iv x9) (iv p2)) (iv a0)] 6 [(6,iv a0)] hF (A0 (Aw (fun _=>hx9)) (A0 (Jj (fun _=>a1)) Aa)) fun a hF=>?_
  refine wfn rfl ?_
  refine wpIn_ret (Ak [.tmp 6] [iv a0] hF rfl ⟨rfl,trivial⟩ ?_)
  have hr_:=Option.some.inj h
  subst hr_
  exact ⟨rfl,hS.ext⟩
theorem Pt (F:Nat) (p0:(List Int)) (res:(List Int)) (h:Jn F p0=some res) (μ:Frz) (w0:World) (hm:FrzAt μ w0) {ad1:Option Addr} {cap2:Nat} (hA3:ArrM μ 1 (fK .u8) ad1 cap2 p0):Dd Try.prog 39 #[sv ad1 p0 cap2] w0 (fun e w=>∃zad0 zcap0,e=(sv zad0 res zcap0)∧St w0 [arr 5 1 (fK .u8) zad0 res.length zcap0 res] w):=by
 obtain ⟨hlow,hS⟩:=hm.init
 have hext:=Frz.ext_refl w0.heap.size μ
 rw [Jn] at h
 refine Aq Try.func39 rfl 43 [(0,sv ad1 p0 cap2)] rfl rfl kr fun a w hw hF=>?_
 replace hS:=hS.cast hw
 clear hw
 refine esr ?_
 refine rn 1 1 [(0,sv ad1 p0 cap2)] hF fun a hF=>?_
 refine wfn rfl ?_
 refine esr ?_
 refine rn 1 1 [(0,sv ad1 p0 cap2),(3,iv 1)] hF fun a hF=>?_
 refine wfn rfl ?_
 refine Ei (fun a w=>∃(aC:Int),Fr 43 [] [(3,iv aC)] a∧St w0 [fz w0 μ] w∧L4 F aC=some res) ?_ ?_
 ·skip
  refine esr ?_
  refine rn 3 3 [(3,iv 1),(8,sv ad1 p0 cap2),(9,iv (ln p0)),(10,iv 0)] hF fun a hF=>?_
  refine wfn rfl ?_
  refine wpIn_block ?_
  refine E4 (fun n_ a w=>∃(a3:Int) (aB:Int),Fr 43 [] [(3,iv aB),(8,sv ad1 p0 cap2),(9,iv (ln p0)),(10,iv a3)] a∧St w0 [fz w0 μ] w∧Hg F p0 n_ a3 aB=some res) F ⟨0,1,hF.sub kr,St.pick [0] (by decide) hS,h⟩ ?_
  rintro nk4 a w ⟨a3,aB,hF,hS,h⟩
  rcases nk4 with _|nk4
  ·cases (show (none:Option (List Int))=some res from h)
  obtain ⟨k4,hk4⟩:∃k,k=Hg F p0 nk4:=⟨_,rfl⟩
  replace h:L3 F p0 k4 a3 aB=some res:=by rw [hk4];exact h
  rw [L3] at h
  refine esr ?_
  refine rn 1 1 [(3,iv aB),(8,sv ad1 p0 cap2),(9,iv (ln p0)),(10,iv a3),(11,.bool (decide (a3<(ln p0))))] hF fun a hF=>?_
  refine wfn rfl ?_
  refine B0 ?_
  refine As hF rfl (fun hc=>?_) (fun hc=>?_)
  ·replace h:=Ao h hc
   refine wpIn_skip (A1 ?_)
   refine B0 ?_
   refine wpIn_block ?_
   refine esr ?_
   replace h:=A4 h
   obtain ⟨aJ,aM,h⟩:=h
   refine rno 3 [.run [] (Instr.indexAt 23 (sv ad1 p0 cap2) (iv a3)) (.pointer (some (Ag ad1 a3 1))),.run [] (Instr.loadAt 5 (.pointer (some (Ag ad1 a3 1)))) (.int .u8 aJ)] 3 [(3,iv aB),(5,.int .u8 aJ),(8,sv ad1 p0 cap2),(9,iv (ln p0)),(10,iv a3)] hF (A0 (Bc (hA3 _ (hS.frz (i:=0) rfl hlow)) kr (fun _=>aM)) (A0 (Ey (i:=a3) 0 (Cf .u8) (fun _ hd=>(hA3 _ ((hS.at_ hd).frz (i:=0) rfl hlow))) kr (fun _=>aM) rfl) Aa)) fun a hF=>?_
   refine wfn rfl ?_
   refine WI.region ?_
   replace h:=A4 h
   obtain ⟨aR,aY,h⟩:=h
   replace h:=A4 h
   obtain ⟨aS,aZ,h⟩:=h
   replace h:=A4 h
   obtain ⟨aT,b0,h⟩:=h
   replace h:=A4 h
   obtain ⟨aG,b1,h⟩:=h
   refine rno 7 [.run [] (binOp .mul 3 (iv 31) (iv aB)) (iv aR),.run [] (convert 5 3 (.int .u8 aJ)) (iv aS),.run [] (binOp .add 3 (iv aR) (iv aS)) (iv aT),.run [] (binOp .rem 3 (iv aT) (iv 2147483647)) (iv aG)] 7 [(3,iv aG),(8,sv ad1 p0 cap2),(9,iv (ln p0)),(10,iv a3)] hF (A0 (K8 (fun _=>aY)) (A0 (J4 kr kr (fun _=>aZ)) (A0 (Aw (fun _=>b0)) (A0 (Jj (fun _=>b1)) Aa)))) fun a hF=>?_
   refine WI.fin rfl (Ac<|A1<|?_)
   refine WI.region ?_
   replace h:=A4 h
   obtain ⟨aK,b2,h⟩:=h
   refine rno 2 [.run [] (binOp .add 3 (iv a3) (iv 1)) (iv aK)] 2 [(3,iv aG),(8,sv ad1 p0 cap2),(9,iv (ln p0)),(10,iv aK)] hF (A0 (Aw (fun _=>b2)) Aa) fun a hF=>?_
   refine wfn rfl ?_
   rw [hk4] at h
   exact ⟨nk4,Nat.lt_succ_self _,aK,aG,hF.sub kr,St.pick [0] (by decide) hS,h⟩
  ·replace h:=An h hc
   refine wpIn_exit (Ad<|Ad<|Bb<|A1 ?_)
   exact ⟨aB,hF.sub kr,St.pick [0] (by decide) hS,h⟩
 rintro a w ⟨aC,hF,hS,h⟩
 rw [L4] at h
 refine esr ?_
 replace h:=A4 h
 obtain ⟨a7,aV,h⟩:=h
 refine SK.wi (A2b (e:=5) (sz:=1) (f:=(fK .u8)) (z:=.int .u8 0) (t:=23) (bytes:=1) (fun aF=>[(3,iv aC),(21,.slice (some ⟨aF,0,none⟩) a7.length a7.length)]) 0 hF hS kr ⟨kr⟩ kr kr rfl aV (fun _=>⟨kr⟩) fun aF w a hF hS=>?_)
 refine rn 1 2 [(3,iv aC),(6,.slice (some ⟨aF,0,none⟩) a7.length a7.length)] hF fun a hF=>?_
 refine wfn rfl ?_
 refine Ei (fun a w=>∃(aA:(List Int)) (a2:Option Addr) (a9:Nat),Fr 43 [] [(6,sv a2 aA a9)] a∧St w0 [arr 5 1 (fK .u8) a2 aA.length a9 aA,fz w0 μ] w∧L5 aA=some res) ?_ ?_
 ·skip
  refine esr ?_
  refine rn 3 3 [(3,iv aC),(6,.slice (some ⟨aF,0,none⟩) a7.length a7.length),(23,iv (ln a7)),(24,iv 0)] hF fun a hF=>?_
  refine wfn rfl ?_
  refine wpIn_block ?_
  refine E4 (fun n_ a w=>∃(a6:Int) (a0:Int) (a8:Int) (a5:(List Int)) (a1:Option Addr) (a4:Nat),Fr 43 [] [(3,iv a8),(6,sv a1 a5 a4),(23,iv a6),(24,iv a0)] a∧St w0 [arr 5 1 (fK .u8) a1 a5.length a4 a5,fz w0 μ] w∧Ew n_ a6 a0 a8 a5=some res) F ⟨(ln a7),0,aC,a7,(some ⟨aF,0,none⟩),a7.length,hF.sub kr,St.pick [0,1] (by decide) hS,h⟩ ?_
  rintro nk3 a w ⟨a6,a0,a8,a5,a1,a4,hF,hS,h⟩
  rcases nk3 with _|nk3
  ·cases (show (none:Option (List Int))=some res from h)
  obtain ⟨k3,hk3⟩:∃k,k=Ew nk3:=⟨_,rfl⟩
  replace h:Jc k3 a6 a0 a8 a5=some res:=by rw [hk3];exact h
  rw [Jc] at h
  refine esr ?_
  refine rn 1 1 [(3,iv a8),(6,sv a1 a5 a4),(23,iv a6),(24,iv a0),(25,.bool (decide (a0<a6)))] hF fun a hF=>?_
  refine wfn rfl ?_
  refine B0 ?_
  refine As hF rfl (fun hc=>?_) (fun hc=>?_)
  ·replace h:=Ao h hc
   refine wpIn_skip (A1 ?_)
   refine B0 ?_
   refine wpIn_block ?_
   refine esr ?_
   refine rn 2 2 [(3,iv a8),(6,sv a1 a5 a4),(7,iv a0),(23,iv a6),(24,iv a0)] hF fun a hF=>?_
   refine wfn rfl ?_
   refine esr ?_
   replace h:=A4 h
   obtain ⟨aU,b3,h⟩:=h
   replace h:=A4 h
   obtain ⟨aE,b4,h⟩:=h
   replace h:=A4 h
   obtain ⟨b8,aP,h⟩:=h
   refine rno 7 [.run [] (binOp .rem 3 (iv a8) (iv 127)) (iv aU),.run [] (binOp .add 3 (iv 128) (iv aU)) (iv aE),.run [] (convert 3 5 (iv aE)) (.int .u8 (IntKind.u8.wrap aE)),.run [] (Instr.indexAt 23 (sv a1 a5 a4) (iv a0)) (.pointer (some (Ag a1 a0 1)))] 7 [(3,iv a8),(6,sv a1 a5 a4),(23,iv a6),(24,iv a0),(32,.int .u8 (IntKind.u8.wrap aE)),(33,.pointer (some (Ag a1 a0 1)))] hF (A0 (Jj (fun _=>b3)) (A0 (Aw (fun _=>b4)) (A0 (Ca kr) (A0 (Bc (hS.arr (i:=0) rfl) kr (fun _=>aP)) Aa)))) fun a hF=>?_
   replace h:=A4 h
   obtain ⟨aI,aX,h⟩:=h
   refine SK.wi (A2r (j:=a0) (t:=5) [(3,iv a8),(6,sv a1 a5 a4),(23,iv a6),(24,iv a0)] 0 0 b8 (IntKind.u8.wrap aE) (.int .u8 (IntKind.u8.wrap aE)) hF hS rfl kr ⟨kr⟩ (Cf .u8) aP rfl kr kr kr aX ⟨kr⟩ fun w a hF hl hS=>?_)
   simp only [sv,ln,hl] at hF hS
   refine wfn rfl ?_
   refine WI.region ?_
   replace h:=A4 h
   obtain ⟨aH,b5,h⟩:=h
   refine rno 3 [.run [] (binOp .quo 3 (iv a8) (iv 127)) (iv aH)] 3 [(3,iv aH),(6,sv a1 aI a4),(23,iv a6),(24,iv a0)] hF (A0 (R5 (fun _=>b5)) Aa) fun a hF=>?_
   refine WI.fin rfl (Ac<|A1<|?_)
   refine WI.region ?_
   replace h:=A4 h
   obtain ⟨aL,b6,h⟩:=h
   refine rno 2 [.run [] (binOp .add 3 (iv a0) (iv 1)) (iv aL)] 2 [(3,iv aH),(6,sv a1 aI a4),(23,iv a6),(24,iv aL)] hF (A0 (Aw (fun _=>b6)) Aa) fun a hF=>?_
   refine wfn rfl ?_
   rw [hk3] at h
   exact ⟨nk3,Nat.lt_succ_self _,a6,aL,aH,aI,a1,a4,hF.sub kr,St.pick [0,1] (by decide) hS,h⟩
  ·replace h:=An h hc
   refine wpIn_exit (Ad<|Ad<|Bb<|A1 ?_)
   exact ⟨a5,a1,a4,hF.sub kr,St.pick [0,1] (by decide) hS,h⟩
 rintro a w ⟨aA,a2,a9,hF,hS,h⟩
 rw [L5] at h
 refine esr ?_
 replace h:=A4 h
 obtain ⟨aD,aN,h⟩:=h
 replace h:=A4 h
 obtain ⟨b7,aO,h⟩:=h
 refine rno 5 [.run [] (Instr.indexAt 23 (sv a2 aA a9) (iv 4)) (.pointer (some (Ag a2 4 1))),.run [] (Instr.loadAt 5 (.pointer (some (Ag a2 4 1)))) (.int .u8 aD),.run [] (binOp .sub 5 (.int .u8 aD) (.int .u8 127)) (.int .u8 (IntKind.u8.wrap (aD-127))),.run [] (Instr.indexAt 23 (sv a2 aA a9) (iv 4)) (.pointer (some (Ag a2 4 1)))] 5 [(6,sv a2 aA a9),(40,.int .u8 (IntKind.u8.wrap (aD-127))),(41,.pointer (some (Ag a2 4 1)))] hF (A0 (Bc (hS.arr (i:=0) rfl) kr (fun _=>aN)) (A0 (Ey (i:=4) 0 (Cf .u8) (fun _ hd=>((hS.at_ hd).arr (i:=0) rfl)) kr (fun _=>aN) rfl) (A0 (obW kr) (A0 (Bc (hS.arr (i:=0) rfl) kr (fun _=>aO)) Aa)))) fun a hF=>?_
 replace h:=A4 h
 obtain ⟨aQ,aW,h⟩:=h
 refine SK.wi (A2r (j:=4) (t:=5) [(6,sv a2 aA a9)] 0 0 b7 (IntKind.u8.wrap (aD-127)) (.int .u8 (IntKind.u8.wrap (aD-127))) hF hS rfl kr ⟨kr⟩ (Cf .u8) aO rfl kr kr kr aW ⟨kr⟩ fun w a hF hl hS=>?_)
 simp only [sv,ln,hl] at hF hS
 refine wfn rfl ?_
 refine esr ?_
 refine rn 2 2 [(2,sv a2 aQ a9)] hF fun a hF=>?_
 refine wfn rfl ?_
 refine wpIn_ret (Ak [.tmp 2] [sv a2 aQ a9] hF rfl ⟨rfl,trivial⟩ ?_)
 have hr_:=Option.some.inj h
 subst hr_
 exact ⟨_,rfl,_,_,rfl,St.pick [0] (by decide) hS⟩
theorem Nr (p0:(List Int)) (p1:(List Int)) (res:Bool) (h:Ex p0 p1=res) (μ:Frz) (w0:World) (hm:FrzAt μ w0) {ad1:Option Addr} {cap2:Nat} {ad4:Option Addr} {cap5:Nat} (hA3:ArrM μ 1 (fK .u8) ad1 cap2 p0) (hA6:ArrM μ 1 (fK .u8) ad4 cap5 p1):Calls Try.prog 35 #[sv ad1 p0 cap2,sv ad4 p1 cap5] w0 (fun e w=>e=.returned (.bool res)∧Ext w0 w):=by
 obtain ⟨hlow,hS⟩:=hm.init
 have hext:=Frz.ext_refl w0.heap.size μ
 rw [Ex] at h
 refine Aq Try.func35 rfl 10 [(0,sv ad1 p0 cap2),(1,sv ad4 p1 cap5)] rfl rfl kr fun a w hw hF=>?_
 replace hS:=hS.cast hw
 clear hw
 refine esr ?_
 refine rn 1 1 [(0,sv ad1 p0 cap2),(1,sv ad4 p1 cap5)] hF fun a hF=>?_
 refine wfn rfl ?_
 refine esr ?_
 refine rno 6 [.run [] (convert 23 9 (sv ad1 p0 cap2)) (.string (bst p0)),.run [] (convert 23 9 (sv ad4 p1 cap5)) (.string (bst p1)),.run [] (Py .eql 9 (bst p0) (bst p1)) (.bool (sEq (bst p0) (bst p1)))] 6 [(4,.bool (sEq (bst p0) (bst p1)))] hF (A0 (Wk kr kr (fun _ hd=>(hA3 _ ((hS.at_ hd).frz (i:=0) rfl hlow)))) (A0 (Wk kr kr (fun _ hd=>(hA6 _ ((hS.at_ hd).frz (i:=0) rfl hlow)))) (A0 Yg Aa))) fun a hF=>?_
 refine wfn rfl ?_
 refine wpIn_ret (Ak [.tmp 4] [.bool (sEq (bst p0) (bst p1))] hF rfl ⟨rfl,trivial⟩ ?_)
 subst h
 exact ⟨rfl,hS.ext⟩
theorem Ma {σ γ:Type} (F:Nat) (c0_:(List Int)) (body:σ→(Int×(List Int))→Option (σ×Bool)) (s_:σ) (res:σ×Bool) (h:F6 F c0_ body s_=some res) (l_:Nat) (μ:Frz) (w0 w1:World) (RC:σ→Bool→γ→List Res) (PC:σ→Bool→γ→Frz→Prop) (hPm:∀s b g μ ν,PC s b g μ→μ.le ν→PC s b g ν) (hy:∀(s:σ) (x:(Int×(List Int))) (q:σ×Bool),body s x=some q→∀(ν:Frz) (g:γ) (G:List Res) (w:World) (ad_1:Option Addr) (cap_2:Nat),μ.ext w0.heap.size ν→Ba w0 ν→PC s true g ν→ArrM ν 1 (fK .u8) ad_1 cap_2 x.2→St w0 (fz w0 ν::(RC s true g++G)) w→Eng.Yields Try.prog l_ #[iv x.1,sv ad_1 x.2 cap_2] w (fun c w2=>c=q.2∧∃ν2 g2,ν.ext w0.heap.size ν2∧Ba w0 ν2∧PC q.1 q.2 g2 ν2∧St w0 (fz w0 ν2::(RC q.1 q.2 g2++G)) w2)) (g_:γ) (G_:List Res) (hlow:Ba w0 μ) (hP:PC s_ true g_ μ) (hS:St w0 (fz w0 μ::(RC s_ true g_++G_)) w1) {cb1:Nat} {ad1:Option Addr} {cap2:Nat} (hcb1:BlkM μ cb1 23 #[sv ad1 c0_ cap2]) (hA3:ArrM μ 1 (fK .u8) ad1 cap2 c0_):Calls Try.prog 36 #[.func (.yield l_) #[] #[],pb cb1] w1 (fun e w=>∃(ν_:Frz) (g2_:γ),μ.ext w0.heap.size ν_∧Ba w0 ν_∧PC res.1 res.2 g2_ ν_∧e=.returned (.tuple #[])∧St w0 (fz w0 ν_::(RC res.1 res.2 g2_++G_)) w):=by
 rw [F6] at h
 have hext:=Frz.ext_refl w0.heap.size μ
 refine Aq Try.func36 rfl 45 [(0,.func (.yield l_) #[] #[]),(1,pb cb1)] rfl rfl kr fun a w hw hF=>?_
 replace hS:=hS.cast hw
 clear hw
 refine esr ?_
 refine rx 3 [.run [] (Instr.loadAt 23 (pb cb1)) (sv ad1 c0_ cap2),.call [] 37 #[sv ad1 c0_ cap2,.int .u8 0] (iv (B2 c0_ 0))] 3 [(0,.func (.yield l_) #[] #[]),(1,pb cb1),(3,iv (B2 c0_ 0))] hF (A0 (ob1 kr (fun _ hd=>(hcb1.blk ((hS.later hd).frz (i:=0) rfl hlow)).cell1 (j:=0) rfl)) (A0 (show Ob.ok _ Ext _ _ from fun hk w2 hd=>Lx c0_ 0 _ rfl _ w2 (A7 w2) (hA3.mono (FrzAt.le_mem ((hS.later hd).frz (i:=0) rfl hlow)))) Aa)) fun a w hF hx=>?_
 replace hS:=hS.later hx
 refine wfn rfl ?_
 refine wpIn_block ?_
 have aM:=Frz.le_refl μ
 refine E4 (fun n_ a w=>∃(a0:Int) (a8:σ) (ν55:Frz) (a9:γ),Fr 45 [] [(0,.func (.yield l_) #[] #[]),(1,pb cb1),(3,iv a0)] a∧St w0 (fz w0 ν55::(RC a8 true a9++G_)) w∧(PC a8 true a9 ν55)∧(μ.le ν55)∧(μ.ext w0.heap.size ν55)∧(Ba w0 ν55)∧Dt body c0_ n_ a0 a8=some res) F ⟨(B2 c0_ 0),s_,μ,g_,hF.sub kr,hS,hP,aM,hext,hlow,h⟩ ?_
 clear aM
 rintro nk1 a w ⟨a0,a8,ν55,a9,hF,hS,hP,a6,hext,hlow,h⟩
 rcases nk1 with _|nk1
 ·cases (show (none:Option (σ×Bool))=some res from h)
 replace hcb1:=hcb1.mono a6
 replace hA3:=hA3.mono a6
 obtain ⟨k1,hk1⟩:∃k,k=Dt body c0_ nk1:=⟨_,rfl⟩
 replace h:Fv body c0_ k1 a0 a8=some res:=by rw [hk1];exact h
 rw [Fv] at h
 refine B0 ?_
 refine esr ?_
 refine rno 8 [.run [⟨9,true,(decide (a0≥0))⟩] (Instr.loadAt 23 (pb cb1)) (sv ad1 c0_ cap2)] 8 [(0,.func (.yield l_) #[] #[]),(1,pb cb1),(3,iv a0),(14,.bool (bif (decide (a0≥0)) then (decide (a0<(ln c0_))) else false))] hF (A0 (ob1 kr (fun _ hd=>(hcb1.blk ((hS.at_ hd).frz (i:=0) rfl hlow)).cell1 (j:=0) rfl)) Aa) fun a hF=>?_
 refine wfn rfl ?_
 refine As hF rfl (fun hc=>?_) (fun hc=>?_)
 ·replace h:=Ao h hc
  refine wpIn_skip (A1 ?_)
  refine wpIn_block ?_
  refine esr ?_
  replace h:=A4 h
  obtain ⟨a4,aV,h⟩:=h
  replace h:=A4 h
  obtain ⟨a1,aN,h⟩:=h
  have aF:ArrM ν55 1 (fK .u8) (Am ad1 cap2 a4.toNat 1) (cap2-a4.toNat) a1:=fun w_ hw_=>(hA3 w_ hw_).cutD (Cf .u8) aN
  refine rx 6 [.run [] (Instr.loadAt 23 (pb cb1)) (sv ad1 c0_ cap2),.run [] (binOp .add 3 (iv a0) (iv 1)) (iv a4),.run [] (Instr.sliceAt 23 (sv ad1 c0_ cap2) (some (iv a4)) none none) (.slice (Am ad1 cap2 a4.toNat 1) a1.length (cap2-a4.toNat)),.call [] 37 #[.slice (Am ad1 cap2 a4.toNat 1) a1.length (cap2-a4.toNat),.int .u8 0] (iv (B2 a1 0))] 6 [(0,.func (.yield l_) #[] #[]),(1,pb cb1),(3,iv a0),(4,iv (B2 a1 0))] hF (A0 (ob1 kr (fun _ hd=>(hcb1.blk ((hS.later hd).frz (i:=0) rfl hlow)).cell1 (j:=0) rfl)) (A0 (Aw (fun _=>aV)) (A0 (M3 kr (hA3 _ (hS.frz (i:=0) rfl hlow)) (fun _=>aN)) (A0 (show Ob.ok _ Ext _ _ from fun hk w2 hd=>Lx a1 0 _ rfl _ w2 (A7 w2) (aF.mono (FrzAt.le_mem ((hS.later hd).frz (i:=0) rfl hlow)))) Aa)))) fun a w hF hx=>?_
  replace hS:=hS.later hx
  refine wfn rfl ?_
  refine B0 ?_
  refine esr ?_
  refine rn 2 2 [(0,.func (.yield l_) #[] #[]),(1,pb cb1),(3,iv a0),(4,iv (B2 a1 0)),(21,.bool (decide ((B2 a1 0)<0)))] hF fun a hF=>?_
  refine wfn rfl ?_
  refine As hF rfl (fun hc=>?_) (fun hc=>?_)
  ·replace h:=Ao h hc
   refine esr ?_
   replace h:=A4 h
   obtain ⟨a2,aW,h⟩:=h
   replace h:=A4 h
   obtain ⟨aH,aO,h⟩:=h
   have aJ:ArrM ν55 1 (fK .u8) (Am ad1 cap2 a2.toNat 1) (cap2-a2.toNat) aH:=fun w_ hw_=>(hA3 w_ hw_).cutD (Cf .u8) aO
   refine rno 6 [.run [] (Instr.loadAt 23 (pb cb1)) (sv ad1 c0_ cap2),.run [] (binOp .add 3 (iv a0) (iv 1)) (iv a2),.run [] (Instr.sliceAt 23 (sv ad1 c0_ cap2) (some (iv a2)) none none) (.slice (Am ad1 cap2 a2.toNat 1) aH.length (cap2-a2.toNat))] 6 [(22,.func (.yield l_) #[] #[]),(23,iv a0),(27,.slice (Am ad1 cap2 a2.toNat 1) aH.length (cap2-a2.toNat))] hF (A0 (ob1 kr (fun _ hd=>(hcb1.blk ((hS.at_ hd).frz (i:=0) rfl hlow)).cell1 (j:=0) rfl)) (A0 (Aw (fun _=>aW)) (A0 (M3 kr (hA3 _ (hS.frz (i:=0) rfl hlow)) (fun _=>aO)) Aa))) fun a hF=>?_
   replace h:=A4 h
   obtain ⟨aC,aT,h⟩:=h
   refine Ze (l:=l_) (args:=#[iv a0,.slice (Am ad1 cap2 a2.toNat 1) aH.length (cap2-a2.toNat)]) 7 (fun bq_=>[]) hF kr ⟨kr⟩ (hy a8 (a0,aH) aC aT ν55 a9 (G_++[]) w (Am ad1 cap2 a2.toNat 1) (cap2-a2.toNat) hext hlow hP aJ (St.rot [] hS)) (fun _=>⟨kr⟩) rfl ?_
   rintro bq_ w a ⟨hc_,ν68,aD,aA,hlow,hP,hS⟩ hF
   subst hc_
   replace hS:=St.unrot [] hS
   replace hext:=Frz.ext_trans hext aA
   replace hcb1:=hcb1.mono aA.1
   replace hA3:=hA3.mono aA.1
   replace aF:=aF.mono aA.1
   replace aJ:=aJ.mono aA.1
   replace a6:=Frz.le_trans a6 aA.1
   replace hS:St w0 (fz w0 ν68::(RC aC.1 (aC.2) aD++G_)) w:=hS
   rcases Bool.eq_false_or_eq_true (aC.2) with aG|aG
   ·replace h:=Ao h aG
    rw [aG] at hS hP
    replace hS:St w0 (fz w0 ν68::(RC aC.1 true aD++G_)) w:=hS
    refine wfn rfl ?_
    refine wpIn_ret (Ab<|Ar<|Ab<|Ar<|Ak [] [] hF rfl trivial ?_)
    have hr_:=Option.some.inj h
    subst hr_
    exact ⟨ν68,aD,hext,hlow,hP,rfl,hS⟩
   ·replace h:=An h aG
    rw [aG] at hS hP
    replace hS:St w0 (fz w0 ν68::(RC aC.1 false aD++G_)) w:=hS
    refine wfn rfl ?_
    refine wpIn_ret (Ab<|Ar<|Ab<|Ar<|Ak [] [] hF rfl trivial ?_)
    have hr_:=Option.some.inj h
    subst hr_
    exact ⟨ν68,aD,hext,hlow,hP,rfl,hS⟩
  ·replace h:=An h hc
   refine wpIn_skip (A1 ?_)
   refine B0 ?_
   refine esr ?_
   replace h:=A4 h
   obtain ⟨a3,aX,h⟩:=h
   replace h:=A4 h
   obtain ⟨aQ,aY,h⟩:=h
   replace h:=A4 h
   obtain ⟨aR,aZ,h⟩:=h
   replace h:=A4 h
   obtain ⟨aI,aP,h⟩:=h
   have aK:ArrM ν55 1 (fK .u8) (Am ad1 cap2 a3.toNat 1) (cap2-a3.toNat) aI:=fun w_ hw_=>(hA3 w_ hw_).cutD (Cf .u8) aP
   refine rno 10 [.run [] (Instr.loadAt 23 (pb cb1)) (sv ad1 c0_ cap2),.run [] (binOp .add 3 (iv a0) (iv 1)) (iv a3),.run [] (binOp .add 3 (iv a0) (iv 1)) (iv aQ),.run [] (binOp .add 3 (iv aQ) (iv (B2 a1 0))) (iv aR),.run [] (Instr.sliceAt 23 (sv ad1 c0_ cap2) (some (iv a3)) (some (iv aR)) none) (.slice (Am ad1 cap2 a3.toNat 1) aI.length (cap2-a3.toNat))] 10 [(0,.func (.yield l_) #[] #[]),(1,pb cb1),(3,iv a0),(4,iv (B2 a1 0)),(29,.func (.yield l_) #[] #[]),(30,iv a0),(38,.slice (Am ad1 cap2 a3.toNat 1) aI.length (cap2-a3.toNat))] hF (A0 (ob1 kr (fun _ hd=>(hcb1.blk ((hS.at_ hd).frz (i:=0) rfl hlow)).cell1 (j:=0) rfl)) (A0 (Aw (fun _=>aX)) (A0 (Aw (fun _=>aY)) (A0 (Aw (fun _=>aZ)) (A0 (Zt kr (hA3 _ (hS.frz (i:=0) rfl hlow)) (fun _=>aP)) Aa))))) fun a hF=>?_
   replace h:=A4 h
   obtain ⟨a7,aU,h⟩:=h
   refine Ze (l:=l_) (args:=#[iv a0,.slice (Am ad1 cap2 a3.toNat 1) aI.length (cap2-a3.toNat)]) 11 (fun bq_=>[(0,.func (.yield l_) #[] #[]),(1,pb cb1),(3,iv a0),(4,iv (B2 a1 0)),(39,.bool bq_)]) hF kr ⟨kr⟩ (hy a8 (a0,aI) a7 aU ν55 a9 (G_++[]) w (Am ad1 cap2 a3.toNat 1) (cap2-a3.toNat) hext hlow hP aK (St.rot [] hS)) (fun _=>⟨kr⟩) rfl ?_
   rintro bq_ w a ⟨hc_,ν78,aE,aB,hlow,hP,hS⟩ hF
   subst hc_
   replace hS:=St.unrot [] hS
   replace hext:=Frz.ext_trans hext aB
   replace hcb1:=hcb1.mono aB.1
   replace hA3:=hA3.mono aB.1
   replace aF:=aF.mono aB.1
   replace aK:=aK.mono aB.1
   replace a6:=Frz.le_trans a6 aB.1
   replace hS:St w0 (fz w0 ν78::(RC a7.1 (a7.2) aE++G_)) w:=hS
   rcases Bool.eq_false_or_eq_true (a7.2) with a5|a5
   ·replace h:=Ao h a5
    rw [a5] at hS hP
    rw [a5] at hF
    replace hS:St w0 (fz w0 ν78::(RC a7.1 true aE++G_)) w:=hS
    refine rn 1 12 [(0,.func (.yield l_) #[] #[]),(1,pb cb1),(3,iv a0),(4,iv (B2 a1 0)),(40,.bool false)] hF fun a hF=>?_
    refine wfn rfl ?_
    refine wpIn_cond_false (hF.get rfl) ?_
    refine wpIn_skip (A1 ?_)
    refine WI.region ?_
    replace h:=A4 h
    obtain ⟨aS,b0,h⟩:=h
    replace h:=A4 h
    obtain ⟨aL,b1,h⟩:=h
    refine rno 5 [.run [] (binOp .add 3 (iv 1) (iv (B2 a1 0))) (iv aS),.run [] (binOp .add 3 (iv a0) (iv aS)) (iv aL)] 5 [(0,.func (.yield l_) #[] #[]),(1,pb cb1),(3,iv aL)] hF (A0 (Aw (fun _=>b0)) (A0 (Aw (fun _=>b1)) Aa)) fun a hF=>?_
    refine WI.fin rfl (Ac<|A1<|?_)
    rw [hk1] at h
    exact ⟨nk1,Nat.lt_succ_self _,aL,a7.1,ν78,aE,hF.sub kr,hS,hP,a6,hext,hlow,h⟩
   ·replace h:=An h a5
    rw [a5] at hS hP
    rw [a5] at hF
    replace hS:St w0 (fz w0 ν78::(RC a7.1 false aE++G_)) w:=hS
    refine rn 1 12 [(0,.func (.yield l_) #[] #[]),(1,pb cb1),(3,iv a0),(4,iv (B2 a1 0)),(40,.bool true)] hF fun a hF=>?_
    refine wfn rfl ?_
    refine wpIn_cond_true (hF.get rfl) ?_
    refine wpIn_ret (Ab<|Ar<|Ab<|Ar<|Ak [] [] hF rfl trivial ?_)
    have hr_:=Option.some.inj h
    subst hr_
    exact ⟨ν78,aE,hext,hlow,hP,rfl,hS⟩
 ·replace h:=An h hc
  refine wpIn_exit (Ad<|Ad<|Bb<|?_)
  refine Hm hF rfl ?_
  have hr_:=Option.some.inj h
  subst hr_
  exact ⟨ν55,a9,hext,hlow,hP,rfl,hS⟩
theorem Mb (x0:Value) (x1:Int) {b0 b1:Nat} {w0 w:World} {H:List Res} (hS:St w0 (blk b0 72 #[x0]::blk b1 28 #[iv x1]::H) w):CallsDIn (F0 none) 0 Try.prog 40 #[pb b0,pb b1] .returning w (fun e u_ w=>e=.returned (.tuple #[])∧settle u_=.returning∧St w0 (blk b0 72 #[x0]::blk b1 28 #[iv x1]::H) w):=by
 refine Jt Try.func40 rfl 11 [(0,pb b0),(1,pb b1)] [(0,pb b0),(1,pb b1),(5,.nilIface)] rfl rfl kr kr ⟨kr⟩ ⟨kr⟩ fun a hF=>?_
 refine rn 6 7 [(0,pb b0),(1,pb b1),(2,iv 0),(3,.bool false)] hF fun a hF=>?_
 refine wfn rfl ?_
 refine esr ?_
 refine rn 1 1 [(0,pb b0),(1,pb b1),(2,iv 0),(9,.bool false)] hF fun a hF=>?_
 refine wfn rfl ?_
 refine wpIn_cond_false (hF.get rfl) ?_
 refine wpIn_skip ?_
 refine Hm hF rfl ?_
 exact ⟨rfl,rfl,hS⟩
theorem Mc (x0:Value) (x1:Int) (z_:Int) {b0 b1:Nat} {w0 w:World} {H:List Res} (hS:St w0 (blk b0 72 #[x0]::blk b1 28 #[iv x1]::H) w):CallsDIn (F0 none) 0 Try.prog 40 #[pb b0,pb b1] (.panicking [{ v:=.iface 101 (iv z_),recovered:=false }]) w (fun e u_ w=>e=.returned (.tuple #[])∧settle u_=.returning∧St w0 (blk b0 72 #[.nilIface]::blk b1 28 #[iv z_]::H) w):=by
 refine Jt Try.func40 rfl 11 [(0,pb b0),(1,pb b1)] [(0,pb b0),(1,pb b1),(5,.iface 101 (iv z_))] rfl rfl kr kr ⟨kr⟩ ⟨kr⟩ fun a hF=>?_
 refine rn 6 7 [(0,pb b0),(1,pb b1),(2,iv z_),(3,.bool true)] hF fun a hF=>?_
 refine wfn rfl ?_
 refine esr ?_
 refine rn 1 1 [(0,pb b0),(1,pb b1),(2,iv z_),(9,.bool true)] hF fun a hF=>?_
 refine wfn rfl ?_
 refine wpIn_cond_true (hF.get rfl) ?_
 refine WI.region ?_
 refine rn 1 1 [(0,pb b0),(1,pb b1),(10,iv z_)] hF fun a hF=>?_
 refine SK.wi (Ap (t:=72) [(1,pb b1),(10,iv z_)] 0 0 (.nilIface) #[.nilIface] hF hS rfl kr ⟨kr⟩ kr kr kr kr ⟨kr⟩ fun w a hF hS=>?_)
 refine SK.wi (Ap (t:=28) [] 1 0 (iv z_) #[iv z_] hF hS rfl kr ⟨kr⟩ kr kr kr kr ⟨kr⟩ fun w a hF hS=>?_)
 refine WI.fin rfl ?_
 refine Hm hF rfl ?_
 exact ⟨rfl,rfl,hS⟩
theorem M9 (F:Nat) (p0:Int) (res:Except Value Unit) (h:H3 F p0=some res) (μ:Frz) (w0:World) (hm:FrzAt μ w0):Xq Try.prog 42 #[iv p0] w0 res (fun r_ e w=>e=(.tuple #[])∧Ext w0 w) (Ext w0):=by
 obtain ⟨hlow,hS⟩:=hm.init
 have hext:=Frz.ext_refl w0.heap.size μ
 rw [H3] at h
 refine Aq Try.func42 rfl 5 [(0,iv p0)] rfl rfl kr fun a w hw hF=>?_
 replace hS:=hS.cast hw
 clear hw
 refine esr ?_
 refine rn 2 2 [(3,.bool (p0 != 0))] hF fun a hF=>?_
 refine wfn rfl ?_
 refine As hF rfl (fun hc=>?_) (fun hc=>?_)
 ·replace h:=Ao h hc
  refine WI.region ?_
  refine rn 1 1 [(4,.iface 101 (iv 7))] hF fun a hF=>?_
  refine Nb (t:=101) (v:=iv 7) hF ⟨kr⟩ (B1 hF ?_)
  have hr_:=Option.some.inj h
  subst hr_
  exact .inr ⟨_,rfl,rfl,hS.ext⟩
 ·replace h:=An h hc
  refine wpIn_skip ?_
  refine Hm hF rfl ?_
  have hr_:=Option.some.inj h
  subst hr_
  exact .inl ⟨_,_,rfl,rfl,rfl,hS.ext⟩
theorem Nv (F:Nat) (p0:(List Int)) (p1:(List Int)) (res:Bool) (h:Mh F p0 p1=some res) (μ:Frz) (w0:World) (hm:FrzAt μ w0) {ad1:Option Addr} {cap2:Nat} {ad4:Option Addr} {cap5:Nat} (hA3:ArrM μ 1 (fK .u8) ad1 cap2 p0) (hA6:ArrM μ 1 (fK .u8) ad4 cap5 p1):Calls Try.prog 12 #[sv ad1 p0 cap2,sv ad4 p1 cap5] w0 (fun e w=>e=.returned (.bool res)∧Ext w0 w):=by
 obtain ⟨hlow,hS⟩:=hm.init
 have hext:=Frz.ext_refl w0.heap.size μ
 rw [Mh] at h
 refine Aq Try.func12 rfl 26 [(0,sv ad1 p0 cap2),(1,sv ad4 p1 cap5)] rfl rfl kr fun a w hw hF=>?_
 replace hS:=hS.cast hw
 clear hw
 refine esr ?_
 refine rn 1 1 [(0,sv ad1 p0 cap2),(1,sv ad4 p1 cap5)] hF fun a hF=>?_
 refine wfn rfl ?_
 refine B0 ?_
 refine esr ?_
 refine rn 5 5 [(0,sv ad1 p0 cap2),(1,sv ad4 p1 cap5),(10,.bool ((ln p0) != (ln p1)))] hF fun a hF=>?_
 refine wfn rfl ?_
 refine As hF rfl (fun hc=>?_) (fun hc=>?_)
 ·replace h:=Ao h hc
  refine esr ?_
  refine rn 1 1 [(4,.bool false)] hF fun a hF=>?_
  refine wfn rfl ?_
  refine wpIn_ret (Ab<|Ak [.tmp 4] [.bool false] hF rfl ⟨rfl,trivial⟩ ?_)
  have hr_:=Option.some.inj h
  subst hr_
  exact ⟨rfl,hS.ext⟩
 ·replace h:=An h hc
  refine wpIn_skip (A1 ?_)
  refine Ei (fun a w=>Fr 26 [] [] a∧St w0 [fz w0 μ] w∧M0=some res) ?_ ?_
  ·skip
   refine esr ?_
   refine rn 1 1 [(0,sv ad1 p0 cap2),(1,sv ad4 p1 cap5),(5,iv 0)] hF fun a hF=>?_
   refine wfn rfl ?_
   refine wpIn_block ?_
   refine E4 (fun n_ a w=>∃(a0:Int),Fr 26 [] [(0,sv ad1 p0 cap2),(1,sv ad4 p1 cap5),(5,iv a0)] a∧St w0 [fz w0 μ] w∧Jy p0 p1 n_ a0=some res) F ⟨0,hF.sub kr,St.pick [0] (by decide) hS,h⟩ ?_
   rintro nk2 a w ⟨a0,hF,hS,h⟩
   rcases nk2 with _|nk2
   ·cases (show (none:Option Bool)=some res from h)
   obtain ⟨k2,hk2⟩:∃k,k=Jy p0 p1 nk2:=⟨_,rfl⟩
   replace h:Lz p0 p1 k2 a0=some res:=by rw [hk2];exact h
   rw [Lz] at h
   refine B0 ?_
   refine esr ?_
   refine rn 4 4 [(0,sv ad1 p0 cap2),(1,sv ad4 p1 cap5),(5,iv a0),(14,.bool (decide (a0<(ln p0))))] hF fun a hF=>?_
   refine wfn rfl ?_
   refine As hF rfl (fun hc=>?_) (fun hc=>?_)
   ·replace h:=Ao h hc
    refine wpIn_skip (A1 ?_)
    refine B0 ?_
    refine wpIn_block ?_
    refine B0 ?_
    replace h:=A4 h
    obtain ⟨a4,a2,h⟩:=h
    replace h:=A4 h
    obtain ⟨a5,a3,h⟩:=h
    refine Po (obs:=[.run [] (Instr.indexAt 23 (sv ad1 p0 cap2) (iv a0)) (.pointer (some (Ag ad1 a0 1))),.run [] (Instr.loadAt 5 (.pointer (some (Ag ad1 a0 1)))) (.int .u8 a4),.run [] (Instr.indexAt 23 (sv ad4 p1 cap5) (iv a0)) (.pointer (some (Ag ad4 a0 1))),.run [] (Instr.loadAt 5 (.pointer (some (Ag ad4 a0 1)))) (.int .u8 a5)]) 9 [(0,sv ad1 p0 cap2),(1,sv ad4 p1 cap5),(5,iv a0),(25,.bool (a4 != a5))] kr hF kr (A0 (Bc (hA3 _ (hS.frz (i:=0) rfl hlow)) kr (fun _=>a2)) (A0 (Ey (i:=a0) 0 (Cf .u8) (fun _ hd=>(hA3 _ ((hS.later hd).frz (i:=0) rfl hlow))) kr (fun _=>a2) rfl) (A0 (Bc (hA6 _ (hS.frz (i:=0) rfl hlow)) kr (fun _=>a3)) (A0 (Ey (i:=a0) 0 (Cf .u8) (fun _ hd=>(hA6 _ ((hS.later hd).frz (i:=0) rfl hlow))) kr (fun _=>a3) rfl) Aa)))) ⟨kr⟩ fun a w hF hx=>?_
    replace hS:=hS.later hx
    refine wfn rfl ?_
    refine As hF rfl (fun hc=>?_) (fun hc=>?_)
    ·replace h:=Ao h hc
     refine esr ?_
     refine rn 1 1 [(4,.bool false)] hF fun a hF=>?_
     refine wfn rfl ?_
     refine wpIn_ret (Ar<|Ab<|Ab<|Ar<|Ab<|Ak [.tmp 4] [.bool false] hF rfl ⟨rfl,trivial⟩ ?_)
     have hr_:=Option.some.inj h
     subst hr_
     exact ⟨rfl,hS.ext⟩
    ·replace h:=An h hc
     refine wpIn_skip (Ac<|A1<|?_)
     refine WI.region ?_
     replace h:=A4 h
     obtain ⟨a1,a6,h⟩:=h
     refine rno 3 [.run [] (binOp .add 3 (iv a0) (iv 1)) (iv a1)] 3 [(0,sv ad1 p0 cap2),(1,sv ad4 p1 cap5),(5,iv a1)] hF (A0 (Aw (fun _=>a6)) Aa) fun a hF=>?_
     refine wfn rfl ?_
     rw [hk2] at h
     exact ⟨nk2,Nat.lt_succ_self _,a1,hF.sub kr,St.pick [0] (by decide) hS,h⟩
   ·replace h:=An h hc
    refine wpIn_exit (Ad<|Ad<|Bb<|A1 ?_)
    exact ⟨hF.sub kr,St.pick [0] (by decide) hS,h⟩
  rintro a w ⟨hF,hS,h⟩
  rw [M0] at h
  refine esr ?_
  refine rn 1 1 [(4,.bool true)] hF fun a hF=>?_
  refine wfn rfl ?_
  refine wpIn_ret (Ak [.tmp 4] [.bool true] hF rfl ⟨rfl,trivial⟩ ?_)
  have hr_:=Option.some.inj h
  subst hr_
  exact ⟨rfl,hS.ext⟩
theorem Sj (F:Nat) (p0:api_Sweep) (p1:api_Sweep) (res:Bool) (h:L9 F p0 p1=some res) (μ:Frz) (w0:World) (hm:FrzAt μ w0) {ad1:Option Addr} {cap2:Nat} {css3:List (List Value)} {ad5:Option Addr} {cap6:Nat} {css7:List (List Value)} (hA4:ArrQ μ 1 Rp83 ad1 cap2 css3 p0.Rays) (hA8:ArrQ μ 1 Rp83 ad5 cap6 css7 p1.Rays):Calls Try.prog 28 #[.agg #[.string p0.Site.Name,iv p0.Site.X,iv p0.Site.Y,iv p0.Site.Z,iv p0.Site.Rose,iv p0.Site.Gates,iv p0.Site.Step,iv p0.Site.Width,iv p0.Tilt,iv p0.Time,sv ad1 p0.Rays cap2],.agg #[.string p1.Site.Name,iv p1.Site.X,iv p1.Site.Y,iv p1.Site.Z,iv p1.Site.Rose,iv p1.Site.Gates,iv p1.Site.Step,iv p1.Site.Width,iv p1.Tilt,iv p1.Time,sv ad5 p1.Rays cap6]] w0 (fun e w=>e=.returned (.bool res)∧Ext w0 w):=by
 obtain ⟨hlow,hS⟩:=hm.init
 have hext:=Frz.ext_refl w0.heap.size μ
 rw [L9] at h
 refine Aq Try.func28 rfl 82 [(0,.agg #[.string p0.Site.Name,iv p0.Site.X,iv p0.Site.Y,iv p0.Site.Z,iv p0.Site.Rose,iv p0.Site.Gates,iv p0.Site.Step,iv p0.Site.Width,iv p0.Tilt,iv p0.Time,sv ad1 p0.Rays cap2]),(1,.agg #[.string p1.Site.Name,iv p1.Site.X,iv p1.Site.Y,iv p1.Site.Z,iv p1.Site.Rose,iv p1.Site.Gates,iv p1.Site.Step,iv p1.Site.Width,iv p1.Tilt,iv p1.Time,sv ad5 p1.Rays cap6])] rfl rfl kr fun a w hw hF=>?_
 replace hS:=hS.cast hw
 clear hw
 refine esr ?_
 refine SK.wi (H4 (t:=39) (fun b9=>[(1,.agg #[.string p1.Site.Name,iv p1.Site.X,iv p1.Site.Y,iv p1.Site.Z,iv p1.Site.Rose,iv p1.Site.Gates,iv p1.Site.Step,iv p1.Site.Width,iv p1.Tilt,iv p1.Time,sv ad5 p1.Rays cap6]),(2,pb b9)]) (.agg #[.string p0.Site.Name,iv p0.Site.X,iv p0.Site.Y,iv p0.Site.Z,iv p0.Site.Rose,iv p0.Site.Gates,iv p0.Site.Step,iv p0.Site.Width,iv p0.Tilt,iv p0.Time,sv ad1 p0.Rays cap2]) #[.string p0.Site.Name,iv p0.Site.X,iv p0.Site.Y,iv p0.Site.Z,iv p0.Site.Rose,iv p0.Site.Gates,iv p0.Site.Step,iv p0.Site.Width,iv p0.Tilt,iv p0.Time,sv ad1 p0.Rays cap2] hF hS kr ⟨kr⟩ kr (fun _=>⟨kr⟩) fun b9 w a hF hS=>?_)
 refine SK.wi (H4 (t:=39) (fun a3=>[(2,pb b9),(3,pb a3)]) (.agg #[.string p1.Site.Name,iv p1.Site.X,iv p1.Site.Y,iv p1.Site.Z,iv p1.Site.Rose,iv p1.Site.Gates,iv p1.Site.Step,iv p1.Site.Width,iv p1.Tilt,iv p1.Time,sv ad5 p1.Rays cap6]) #[.string p1.Site.Name,iv p1.Site.X,iv p1.Site.Y,iv p1.Site.Z,iv p1.Site.Rose,iv p1.Site.Gates,iv p1.Site.Step,iv p1.Site.Width,iv p1.Tilt,iv p1.Time,sv ad5 p1.Rays cap6] hF hS kr ⟨kr⟩ kr (fun _=>⟨kr⟩) fun a3 w a hF hS=>?_)
 refine rn 1 3 [(2,pb b9),(3,pb a3)] hF fun a hF=>?_
 refine wfn rfl ?_
 refine B0 ?_
 refine esr ?_
 refine rno 28 [.run [] (Instr.loadAt 36 (pb b9)) (p0.Site.ag),.run [] (Instr.loadAt 36 (pb a3)) (p1.Site.ag),.run [] (eqS .neq 36 p0.Site.ar p1.Site.ar) (.bool (!((p0.Site.Name==p1.Site.Name)&&(((p0.Site.X:Int)==p1.Site.X)&&(((p0.Site.Y:Int)==p1.Site.Y)&&(((p0.Site.Z:Int)==p1.Site.Z)&&(((p0.Site.Rose:Int)==p1.Site.Rose)&&(((p0.Site.Gates:Int)==p1.Site.Gates)&&(((p0.Site.Step:Int)==p1.Site.Step)&&(((p0.Site.Width:Int)==p1.Site.Width)&&true)))))))))),.run [⟨12,false,(!((p0.Site.Name==p1.Site.Name)&&(((p0.Site.X:Int)==p1.Site.X)&&(((p0.Site.Y:Int)==p1.Site.Y)&&(((p0.Site.Z:Int)==p1.Site.Z)&&(((p0.Site.Rose:Int)==p1.Site.Rose)&&(((p0.Site.Gates:Int)==p1.Site.Gates)&&(((p0.Site.Step:Int)==p1.Site.Step)&&(((p0.Site.Width:Int)==p1.Site.Width)&&true)))))))))⟩] (Instr.loadAt 3 (.pointer (some ⟨b9,8,none⟩))) (iv p0.Tilt),.run [⟨12,false,(!((p0.Site.Name==p1.Site.Name)&&(((p0.Site.X:Int)==p1.Site.X)&&(((p0.Site.Y:Int)==p1.Site.Y)&&(((p0.Site.Z:Int)==p1.Site.Z)&&(((p0.Site.Rose:Int)==p1.Site.Rose)&&(((p0.Site.Gates:Int)==p1.Site.Gates)&&(((p0.Site.Step:Int)==p1.Site.Step)&&(((p0.Site.Width:Int)==p1.Site.Width)&&true)))))))))⟩] (Instr.loadAt 3 (.pointer (some ⟨a3,8,none⟩))) (iv p1.Tilt),.run [⟨19,false,(bif (!((p0.Site.Name==p1.Site.Name)&&(((p0.Site.X:Int)==p1.Site.X)&&(((p0.Site.Y:Int)==p1.Site.Y)&&(((p0.Site.Z:Int)==p1.Site.Z)&&(((p0.Site.Rose:Int)==p1.Site.Rose)&&(((p0.Site.Gates:Int)==p1.Site.Gates)&&(((p0.Site.Step:Int)==p1.Site.Step)&&(((p0.Site.Width:Int)==p1.Site.Width)&&true))))))))) then true else (p0.Tilt != p1.Tilt))⟩] (Instr.loadAt 3 (.pointer (some ⟨b9,9,none⟩))) (iv p0.Time),.run [⟨19,false,(bif (!((p0.Site.Name==p1.Site.Name)&&(((p0.Site.X:Int)==p1.Site.X)&&(((p0.Site.Y:Int)==p1.Site.Y)&&(((p0.Site.Z:Int)==p1.Site.Z)&&(((p0.Site.Rose:Int)==p1.Site.Rose)&&(((p0.Site.Gates:Int)==p1.Site.Gates)&&(((p0.Site.Step:Int)==p1.Site.Step)&&(((p0.Site.Width:Int)==p1.Site.Width)&&true))))))))) then true else (p0.Tilt != p1.Tilt))⟩] (Instr.loadAt 3 (.pointer (some ⟨a3,9,none⟩))) (iv p1.Time),.run [⟨26,false,(bif (bif (!((p0.Site.Name==p1.Site.Name)&&(((p0.Site.X:Int)==p1.Site.X)&&(((p0.Site.Y:Int)==p1.Site.Y)&&(((p0.Site.Z:Int)==p1.Site.Z)&&(((p0.Site.Rose:Int)==p1.Site.Rose)&&(((p0.Site.Gates:Int)==p1.Site.Gates)&&(((p0.Site.Step:Int)==p1.Site.Step)&&(((p0.Site.Width:Int)==p1.Site.Width)&&true))))))))) then true else (p0.Tilt != p1.Tilt)) then true else (p0.Time != p1.Time))⟩] (Instr.loadAt 37 (.pointer (some ⟨b9,10,none⟩))) (sv ad1 p0.Rays cap2),.run [⟨26,false,(bif (bif (!((p0.Site.Name==p1.Site.Name)&&(((p0.Site.X:Int)==p1.Site.X)&&(((p0.Site.Y:Int)==p1.Site.Y)&&(((p0.Site.Z:Int)==p1.Site.Z)&&(((p0.Site.Rose:Int)==p1.Site.Rose)&&(((p0.Site.Gates:Int)==p1.Site.Gates)&&(((p0.Site.Step:Int)==p1.Site.Step)&&(((p0.Site.Width:Int)==p1.Site.Width)&&true))))))))) then true else (p0.Tilt != p1.Tilt)) then true else (p0.Time != p1.Time))⟩] (Instr.loadAt 37 (.pointer (some ⟨a3,10,none⟩))) (sv ad5 p1.Rays cap6)] 28 [(2,pb b9),(3,pb a3),(34,.bool (bif (bif (bif (!((p0.Site.Name==p1.Site.Name)&&(((p0.Site.X:Int)==p1.Site.X)&&(((p0.Site.Y:Int)==p1.Site.Y)&&(((p0.Site.Z:Int)==p1.Site.Z)&&(((p0.Site.Rose:Int)==p1.Site.Rose)&&(((p0.Site.Gates:Int)==p1.Site.Gates)&&(((p0.Site.Step:Int)==p1.Site.Step)&&(((p0.Site.Width:Int)==p1.Site.Width)&&true))))))))) then true else (p0.Tilt != p1.Tilt)) then true else (p0.Time != p1.Time)) then true else ((ln p0.Rays) != (ln p1.Rays))))] hF (A0 (obN (us:=p0.Site.cells) kr (fun _ hd=>((hS.at_ hd).blk (i:=1) rfl).cells rfl)) (A0 (obN (us:=p1.Site.cells) kr (fun _ hd=>((hS.at_ hd).blk (i:=0) rfl).cells rfl)) (A0 (Wl kr kr) (A0 (ob1 kr (fun _ hd=>(hS.at_ hd).cell (i:=1) (j:=8) rfl rfl)) (A0 (ob1 kr (fun _ hd=>(hS.at_ hd).cell (i:=0) (j:=8) rfl rfl)) (A0 (ob1 kr (fun _ hd=>(hS.at_ hd).cell (i:=1) (j:=9) rfl rfl)) (A0 (ob1 kr (fun _ hd=>(hS.at_ hd).cell (i:=0) (j:=9) rfl rfl)) (A0 (ob1 kr (fun _ hd=>(hS.at_ hd).cell (i:=1) (j:=10) rfl rfl)) (A0 (ob1 kr (fun _ hd=>(hS.at_ hd).cell (i:=0) (j:=10) rfl rfl)) Aa))))))))) fun a hF=>?_
 refine wfn rfl ?_
 refine As hF rfl (fun hc=>?_) (fun hc=>?_)
 ·replace h:=Ao h hc
  refine esr ?_
  refine rn 1 1 [(4,.bool false)] hF fun a hF=>?_
  refine wfn rfl ?_
  refine wpIn_ret (Ab<|Ak [.tmp 4] [.bool false] hF rfl ⟨rfl,trivial⟩ ?_)
  have hr_:=Option.some.inj h
  subst hr_
  exact ⟨rfl,hS.ext⟩
 ·replace h:=An h hc
  refine wpIn_skip (A1 ?_)
  refine Ei (fun a w=>Fr 82 [] [] a∧St w0 [blk a3 39 #[.string p1.Site.Name,iv p1.Site.X,iv p1.Site.Y,iv p1.Site.Z,iv p1.Site.Rose,iv p1.Site.Gates,iv p1.Site.Step,iv p1.Site.Width,iv p1.Tilt,iv p1.Time,sv ad5 p1.Rays cap6],blk b9 39 #[.string p0.Site.Name,iv p0.Site.X,iv p0.Site.Y,iv p0.Site.Z,iv p0.Site.Rose,iv p0.Site.Gates,iv p0.Site.Step,iv p0.Site.Width,iv p0.Tilt,iv p0.Time,sv ad1 p0.Rays cap2],fz w0 μ] w∧K6=some res) ?_ ?_
  ·skip
   refine esr ?_
   refine rn 1 1 [(2,pb b9),(3,pb a3),(5,iv 0)] hF fun a hF=>?_
   refine wfn rfl ?_
   refine wpIn_block ?_
   refine E4 (fun n_ a w=>∃(a0:Int),Fr 82 [] [(2,pb b9),(3,pb a3),(5,iv a0)] a∧St w0 [blk a3 39 #[.string p1.Site.Name,iv p1.Site.X,iv p1.Site.Y,iv p1.Site.Z,iv p1.Site.Rose,iv p1.Site.Gates,iv p1.Site.Step,iv p1.Site.Width,iv p1.Tilt,iv p1.Time,sv ad5 p1.Rays cap6],blk b9 39 #[.string p0.Site.Name,iv p0.Site.X,iv p0.Site.Y,iv p0.Site.Z,iv p0.Site.Rose,iv p0.Site.Gates,iv p0.Site.Step,iv p0.Site.Width,iv p0.Tilt,iv p0.Time,sv ad1 p0.Rays cap2],fz w0 μ] w∧Fp F p0 p1 n_ a0=some res) F ⟨0,hF.sub kr,St.pick [0,1,2] (by decide) hS,h⟩ ?_
   rintro nk2 a w ⟨a0,hF,hS,h⟩
   rcases nk2 with _|nk2
   ·cases (show (none:Option Bool)=some res from h)
   obtain ⟨k2,hk2⟩:∃k,k=Fp F p0 p1 nk2:=⟨_,rfl⟩
   replace h:K4 F p0 p1 k2 a0=some res:=by rw [hk2];exact h
   rw [K4] at h
   refine B0 ?_
   refine esr ?_
   refine rno 5 [.run [] (Instr.loadAt 37 (.pointer (some ⟨b9,10,none⟩))) (sv ad1 p0.Rays cap2)] 5 [(2,pb b9),(3,pb a3),(5,iv a0),(39,.bool (decide (a0<(ln p0.Rays))))] hF (A0 (ob1 kr (fun _ hd=>(hS.at_ hd).cell (i:=1) (j:=10) rfl rfl)) Aa) fun a hF=>?_
   refine wfn rfl ?_
   refine As hF rfl (fun hc=>?_) (fun hc=>?_)
   ·replace h:=Ao h hc
    refine wpIn_skip (A1 ?_)
    refine Ei (fun a w=>Fr 82 [] [(2,pb b9),(3,pb a3),(5,iv a0)] a∧St w0 [blk a3 39 #[.string p1.Site.Name,iv p1.Site.X,iv p1.Site.Y,iv p1.Site.Z,iv p1.Site.Rose,iv p1.Site.Gates,iv p1.Site.Step,iv p1.Site.Width,iv p1.Tilt,iv p1.Time,sv ad5 p1.Rays cap6],blk b9 39 #[.string p0.Site.Name,iv p0.Site.X,iv p0.Site.Y,iv p0.Site.Z,iv p0.Site.Rose,iv p0.Site.Gates,iv p0.Site.Step,iv p0.Site.Width,iv p0.Tilt,iv p0.Time,sv ad1 p0.Rays cap2],fz w0 μ] w∧Hp a0 k2=some res) ?_ ?_
    ·skip
     refine wpIn_block ?_
     refine B0 ?_
     refine B0 ?_
     replace h:=A4 h
     obtain ⟨aK,b0,h⟩:=h
     obtain ⟨b7,aD,aV⟩:=Dn hA4.2 b0
     obtain ⟨aP,aS,rfl,bD⟩:=aV
     replace h:=A4 h
     obtain ⟨aL,b1,h⟩:=h
     obtain ⟨b8,aE,aW⟩:=Dn hA8.2 b1
     obtain ⟨aQ,aT,rfl,bE⟩:=aW
     refine Po (obs:=[.run [] (Instr.loadAt 37 (.pointer (some ⟨b9,10,none⟩))) (sv ad1 p0.Rays cap2),.run [] (Instr.indexAt 37 (sv ad1 p0.Rays cap2) (iv a0)) (.pointer (some (Ag ad1 a0 1))),.run [] (Instr.loadAt 83 (.pointer (some (Ag ad1 a0 1)))) (sv aP aK aS),.run [] (Instr.loadAt 37 (.pointer (some ⟨a3,10,none⟩))) (sv ad5 p1.Rays cap6),.run [] (Instr.indexAt 37 (sv ad5 p1.Rays cap6) (iv a0)) (.pointer (some (Ag ad5 a0 1))),.run [] (Instr.loadAt 83 (.pointer (some (Ag ad5 a0 1)))) (sv aQ aL aT)]) 13 [(2,pb b9),(3,pb a3),(5,iv a0),(54,.bool ((ln aK) != (ln aL)))] kr hF kr (A0 (ob1 kr (fun _ hd=>(hS.later hd).cell (i:=1) (j:=10) rfl rfl)) (A0 (Bc (hA4.at (hS.frz (i:=2) rfl hlow)) kr (fun _=>aD)) (A0 (Ey (i:=a0) 0 (Dp 1) (fun _ hd=>(hA4.at ((hS.later hd).frz (i:=2) rfl hlow))) kr (fun _=>aD) rfl) (A0 (ob1 kr (fun _ hd=>(hS.later hd).cell (i:=0) (j:=10) rfl rfl)) (A0 (Bc (hA8.at (hS.frz (i:=2) rfl hlow)) kr (fun _=>aE)) (A0 (Ey (i:=a0) 0 (Dp 1) (fun _ hd=>(hA8.at ((hS.later hd).frz (i:=2) rfl hlow))) kr (fun _=>aE) rfl) Aa)))))) ⟨kr⟩ fun a w hF hx=>?_
     replace hS:=hS.later hx
     refine wfn rfl ?_
     refine As hF rfl (fun hc=>?_) (fun hc=>?_)
     ·replace h:=Ao h hc
      refine esr ?_
      refine rn 1 1 [(4,.bool false)] hF fun a hF=>?_
      refine wfn rfl ?_
      refine wpIn_ret (Ab<|Ar<|Ab<|Ab<|Ar<|Ab<|Ak [.tmp 4] [.bool false] hF rfl ⟨rfl,trivial⟩ ?_)
      have hr_:=Option.some.inj h
      subst hr_
      exact ⟨rfl,hS.ext⟩
     ·replace h:=An h hc
      refine wpIn_skip (A1 ?_)
      refine esr ?_
      refine rn 1 1 [(2,pb b9),(3,pb a3),(5,iv a0),(6,iv 0)] hF fun a hF=>?_
      refine wfn rfl ?_
      refine wpIn_block ?_
      refine E4 (fun n_ a w=>∃(a4:Int),Fr 82 [] [(2,pb b9),(3,pb a3),(5,iv a0),(6,iv a4)] a∧St w0 [blk a3 39 #[.string p1.Site.Name,iv p1.Site.X,iv p1.Site.Y,iv p1.Site.Z,iv p1.Site.Rose,iv p1.Site.Gates,iv p1.Site.Step,iv p1.Site.Width,iv p1.Tilt,iv p1.Time,sv ad5 p1.Rays cap6],blk b9 39 #[.string p0.Site.Name,iv p0.Site.X,iv p0.Site.Y,iv p0.Site.Z,iv p0.Site.Rose,iv p0.Site.Gates,iv p0.Site.Step,iv p0.Site.Width,iv p0.Tilt,iv p0.Time,sv ad1 p0.Rays cap2],fz w0 μ] w∧Gt p0 p1 a0 k2 n_ a4=some res) F ⟨0,hF.sub kr,St.pick [0,1,2] (by decide) hS,h⟩ ?_
      rintro nk4 a w ⟨a4,hF,hS,h⟩
      rcases nk4 with _|nk4
      ·cases (show (none:Option Bool)=some res from h)
      obtain ⟨k4,hk4⟩:∃k,k=Gt p0 p1 a0 k2 nk4:=⟨_,rfl⟩
      replace h:K5 p0 p1 a0 k2 k4 a4=some res:=by rw [hk4];exact h
      rw [K5] at h
      refine B0 ?_
      refine esr ?_
      replace h:=A4 h
      obtain ⟨aM,b2,h⟩:=h
      obtain ⟨bA,aF,aX⟩:=Dn hA4.2 b2
      obtain ⟨aR,aU,rfl,bF⟩:=aX
      refine rno 8 [.run [] (Instr.loadAt 37 (.pointer (some ⟨b9,10,none⟩))) (sv ad1 p0.Rays cap2),.run [] (Instr.indexAt 37 (sv ad1 p0.Rays cap2) (iv a0)) (.pointer (some (Ag ad1 a0 1))),.run [] (Instr.loadAt 83 (.pointer (some (Ag ad1 a0 1)))) (sv aR aM aU)] 8 [(2,pb b9),(3,pb a3),(5,iv a0),(6,iv a4),(62,.bool (decide (a4<(ln aM))))] hF (A0 (ob1 kr (fun _ hd=>(hS.at_ hd).cell (i:=1) (j:=10) rfl rfl)) (A0 (Bc (hA4.at (hS.frz (i:=2) rfl hlow)) kr (fun _=>aF)) (A0 (Ey (i:=a0) 0 (Dp 1) (fun _ hd=>(hA4.at ((hS.at_ hd).frz (i:=2) rfl hlow))) kr (fun _=>aF) rfl) Aa))) fun a hF=>?_
      refine wfn rfl ?_
      refine As hF rfl (fun hc=>?_) (fun hc=>?_)
      ·replace h:=Ao h hc
       refine wpIn_skip (A1 ?_)
       refine B0 ?_
       refine wpIn_block ?_
       refine B0 ?_
       replace h:=A4 h
       obtain ⟨aN,b3,h⟩:=h
       obtain ⟨bB,aG,aY⟩:=Dn hA4.2 b3
       obtain ⟨a5,a9,rfl,aB⟩:=aY
       replace h:=A4 h
       obtain ⟨a1,aI,h⟩:=h
       replace h:=A4 h
       obtain ⟨aO,b4,h⟩:=h
       obtain ⟨bC,aH,aZ⟩:=Dn hA8.2 b4
       obtain ⟨a6,aA,rfl,aC⟩:=aZ
       replace h:=A4 h
       obtain ⟨a2,aJ,h⟩:=h
       refine Po (obs:=[.run [] (Instr.loadAt 37 (.pointer (some ⟨b9,10,none⟩))) (sv ad1 p0.Rays cap2),.run [] (Instr.indexAt 37 (sv ad1 p0.Rays cap2) (iv a0)) (.pointer (some (Ag ad1 a0 1))),.run [] (Instr.loadAt 83 (.pointer (some (Ag ad1 a0 1)))) (sv a5 aN a9),.run [] (Instr.indexAt 83 (sv a5 aN a9) (iv a4)) (.pointer (some (Ag a5 a4 14))),.run [] (Instr.loadAt 88 (.pointer (some (Ag a5 a4 14)))) (a1.ag),.run [] (Instr.loadAt 37 (.pointer (some ⟨a3,10,none⟩))) (sv ad5 p1.Rays cap6),.run [] (Instr.indexAt 37 (sv ad5 p1.Rays cap6) (iv a0)) (.pointer (some (Ag ad5 a0 1))),.run [] (Instr.loadAt 83 (.pointer (some (Ag ad5 a0 1)))) (sv a6 aO aA),.run [] (Instr.indexAt 83 (sv a6 aO aA) (iv a4)) (.pointer (some (Ag a6 a4 14))),.run [] (Instr.loadAt 88 (.pointer (some (Ag a6 a4 14)))) (a2.ag),.run [] (eqS .neq 88 a1.ar a2.ar) (.bool (!(((a1.Kind:Int)==a2.Kind)&&((((a1.Power.Lo:Int)==a2.Power.Lo)&&(((a1.Power.Hi:Int)==a2.Power.Hi)&&true))&&(((((a1.Steps.1.Lo:Int)==a2.Steps.1.Lo)&&(((a1.Steps.1.Hi:Int)==a2.Steps.1.Hi)&&true))&&((((a1.Steps.2.Lo:Int)==a2.Steps.2.Lo)&&(((a1.Steps.2.Hi:Int)==a2.Steps.2.Hi)&&true))&&true))&&(((a1.Spread:Int)==a2.Spread)&&((((a1.Ratio.Lo:Int)==a2.Ratio.Lo)&&(((a1.Ratio.Hi:Int)==a2.Ratio.Hi)&&true))&&((((a1.Match.Lo:Int)==a2.Match.Lo)&&(((a1.Match.Hi:Int)==a2.Match.Hi)&&true))&&((((a1.Turn.Lo:Int)==a2.Turn.Lo)&&(((a1.Turn.Hi:Int)==a2.Turn.Hi)&&true))&&true)))))))))]) 17 [(2,pb b9),(3,pb a3),(5,iv a0),(6,iv a4),(81,.bool (!(((a1.Kind:Int)==a2.Kind)&&((((a1.Power.Lo:Int)==a2.Power.Lo)&&(((a1.Power.Hi:Int)==a2.Power.Hi)&&true))&&(((((a1.Steps.1.Lo:Int)==a2.Steps.1.Lo)&&(((a1.Steps.1.Hi:Int)==a2.Steps.1.Hi)&&true))&&((((a1.Steps.2.Lo:Int)==a2.Steps.2.Lo)&&(((a1.Steps.2.Hi:Int)==a2.Steps.2.Hi)&&true))&&true))&&(((a1.Spread:Int)==a2.Spread)&&((((a1.Ratio.Lo:Int)==a2.Ratio.Lo)&&(((a1.Ratio.Hi:Int)==a2.Ratio.Hi)&&true))&&((((a1.Match.Lo:Int)==a2.Match.Lo)&&(((a1.Match.Hi:Int)==a2.Match.Hi)&&true))&&((((a1.Turn.Lo:Int)==a2.Turn.Lo)&&(((a1.Turn.Hi:Int)==a2.Turn.Hi)&&true))&&true)))))))))] kr hF kr (A0 (ob1 kr (fun _ hd=>(hS.later hd).cell (i:=1) (j:=10) rfl rfl)) (A0 (Bc (hA4.at (hS.frz (i:=2) rfl hlow)) kr (fun _=>aG)) (A0 (Ey (i:=a0) 0 (Dp 1) (fun _ hd=>(hA4.at ((hS.later hd).frz (i:=2) rfl hlow))) kr (fun _=>aG) rfl) (A0 (Bc (aB _ (hS.frz (i:=2) rfl hlow)) kr (fun _=>aI)) (A0 (Ft (m:=14) (i:=a4) (us:=a1.cells) 0 api_Echo.cells_len (fun _ hd=>(aB _ ((hS.later hd).frz (i:=2) rfl hlow))) kr (fun _=>aI) ⟨rfl,rfl⟩) (A0 (ob1 kr (fun _ hd=>(hS.later hd).cell (i:=0) (j:=10) rfl rfl)) (A0 (Bc (hA8.at (hS.frz (i:=2) rfl hlow)) kr (fun _=>aH)) (A0 (Ey (i:=a0) 0 (Dp 1) (fun _ hd=>(hA8.at ((hS.later hd).frz (i:=2) rfl hlow))) kr (fun _=>aH) rfl) (A0 (Bc (aC _ (hS.frz (i:=2) rfl hlow)) kr (fun _=>aJ)) (A0 (Ft (m:=14) (i:=a4) (us:=a2.cells) 0 api_Echo.cells_len (fun _ hd=>(aC _ ((hS.later hd).frz (i:=2) rfl hlow))) kr (fun _=>aJ) ⟨rfl,rfl⟩) (A0 (Wl kr kr) Aa))))))))))) ⟨kr⟩ fun a w hF hx=>?_
       replace hS:=hS.later hx
       refine wfn rfl ?_
       refine As hF rfl (fun hc=>?_) (fun hc=>?_)
       ·replace h:=Ao h hc
        refine esr ?_
        refine rn 1 1 [(4,.bool false)] hF fun a hF=>?_
        refine wfn rfl ?_
        refine wpIn_ret (Ar<|Ab<|Ab<|Ar<|Ar<|Ab<|Ab<|Ar<|Ab<|Ak [.tmp 4] [.bool false] hF rfl ⟨rfl,trivial⟩ ?_)
        have hr_:=Option.some.inj h
        subst hr_
        exact ⟨rfl,hS.ext⟩
       ·replace h:=An h hc
        refine wpIn_skip (Ac<|A1<|?_)
        refine WI.region ?_
        replace h:=A4 h
        obtain ⟨a8,b6,h⟩:=h
        refine rno 3 [.run [] (binOp .add 3 (iv a4) (iv 1)) (iv a8)] 3 [(2,pb b9),(3,pb a3),(5,iv a0),(6,iv a8)] hF (A0 (Aw (fun _=>b6)) Aa) fun a hF=>?_
        refine wfn rfl ?_
        rw [hk4] at h
        exact ⟨nk4,Nat.lt_succ_self _,a8,hF.sub kr,St.pick [0,1,2] (by decide) hS,h⟩
      ·replace h:=An h hc
       refine wpIn_exit (Ad<|Ad<|Bb<|Ac<|A1<|?_)
       exact ⟨hF.sub kr,St.pick [0,1,2] (by decide) hS,h⟩
    rintro a w ⟨hF,hS,h⟩
    rw [Hp] at h
    refine WI.region ?_
    replace h:=A4 h
    obtain ⟨a7,b5,h⟩:=h
    refine rno 3 [.run [] (binOp .add 3 (iv a0) (iv 1)) (iv a7)] 3 [(2,pb b9),(3,pb a3),(5,iv a7)] hF (A0 (Aw (fun _=>b5)) Aa) fun a hF=>?_
    refine wfn rfl ?_
    rw [hk2] at h
    exact ⟨nk2,Nat.lt_succ_self _,a7,hF.sub kr,St.pick [0,1,2] (by decide) hS,h⟩
   ·replace h:=An h hc
    refine wpIn_exit (Ad<|Ad<|Bb<|A1 ?_)
    exact ⟨hF.sub kr,St.pick [0,1,2] (by decide) hS,h⟩
  rintro a w ⟨hF,hS,h⟩
  rw [K6] at h
  refine esr ?_
  refine rn 1 1 [(4,.bool true)] hF fun a hF=>?_
  refine wfn rfl ?_
  refine wpIn_ret (Ak [.tmp 4] [.bool true] hF rfl ⟨rfl,trivial⟩ ?_)
  have hr_:=Option.some.inj h
  subst hr_
  exact ⟨rfl,hS.ext⟩
theorem Si (F:Nat) (p0:api_Field) (p1:api_Field) (res:Bool) (h:L8 F p0 p1=some res) (μ:Frz) (w0:World) (hm:FrzAt μ w0) {ad1:Option Addr} {cap2:Nat} {ad4:Option Addr} {cap5:Nat} (hA3:ArrM μ 2 api_Span.cells ad1 cap2 p0.Vals) (hA6:ArrM μ 2 api_Span.cells ad4 cap5 p1.Vals):Calls Try.prog 29 #[.agg #[iv p0.Grid.X,iv p0.Grid.Y,iv p0.Grid.Size,iv p0.Grid.Wide,iv p0.Grid.High,sv ad1 p0.Vals cap2],.agg #[iv p1.Grid.X,iv p1.Grid.Y,iv p1.Grid.Size,iv p1.Grid.Wide,iv p1.Grid.High,sv ad4 p1.Vals cap5]] w0 (fun e w=>e=.returned (.bool res)∧Ext w0 w):=by
 obtain ⟨hlow,hS⟩:=hm.init
 have hext:=Frz.ext_refl w0.heap.size μ
 rw [L8] at h
 refine Aq Try.func29 rfl 38 [(0,.agg #[iv p0.Grid.X,iv p0.Grid.Y,iv p0.Grid.Size,iv p0.Grid.Wide,iv p0.Grid.High,sv ad1 p0.Vals cap2]),(1,.agg #[iv p1.Grid.X,iv p1.Grid.Y,iv p1.Grid.Size,iv p1.Grid.Wide,iv p1.Grid.High,sv ad4 p1.Vals cap5])] rfl rfl kr fun a w hw hF=>?_
 replace hS:=hS.cast hw
 clear hw
 refine esr ?_
 refine SK.wi (H4 (t:=44) (fun b7=>[(1,.agg #[iv p1.Grid.X,iv p1.Grid.Y,iv p1.Grid.Size,iv p1.Grid.Wide,iv p1.Grid.High,sv ad4 p1.Vals cap5]),(2,pb b7)]) (.agg #[iv p0.Grid.X,iv p0.Grid.Y,iv p0.Grid.Size,iv p0.Grid.Wide,iv p0.Grid.High,sv ad1 p0.Vals cap2]) #[iv p0.Grid.X,iv p0.Grid.Y,iv p0.Grid.Size,iv p0.Grid.Wide,iv p0.Grid.High,sv ad1 p0.Vals cap2] hF hS kr ⟨kr⟩ kr (fun _=>⟨kr⟩) fun b7 w a hF hS=>?_)
 refine SK.wi (H4 (t:=44) (fun b8=>[(2,pb b7),(3,pb b8)]) (.agg #[iv p1.Grid.X,iv p1.Grid.Y,iv p1.Grid.Size,iv p1.Grid.Wide,iv p1.Grid.High,sv ad4 p1.Vals cap5]) #[iv p1.Grid.X,iv p1.Grid.Y,iv p1.Grid.Size,iv p1.Grid.Wide,iv p1.Grid.High,sv ad4 p1.Vals cap5] hF hS kr ⟨kr⟩ kr (fun _=>⟨kr⟩) fun b8 w a hF hS=>?_)
 refine rn 1 3 [(2,pb b7),(3,pb b8)] hF fun a hF=>?_
 refine wfn rfl ?_
 refine B0 ?_
 refine esr ?_
 refine rno 14 [.run [] (Instr.loadAt 41 (pb b7)) (p0.Grid.ag),.run [] (Instr.loadAt 41 (pb b8)) (p1.Grid.ag),.run [] (eqS .neq 41 p0.Grid.ar p1.Grid.ar) (.bool (!(((p0.Grid.X:Int)==p1.Grid.X)&&(((p0.Grid.Y:Int)==p1.Grid.Y)&&(((p0.Grid.Size:Int)==p1.Grid.Size)&&(((p0.Grid.Wide:Int)==p1.Grid.Wide)&&(((p0.Grid.High:Int)==p1.Grid.High)&&true))))))),.run [⟨11,false,(!(((p0.Grid.X:Int)==p1.Grid.X)&&(((p0.Grid.Y:Int)==p1.Grid.Y)&&(((p0.Grid.Size:Int)==p1.Grid.Size)&&(((p0.Grid.Wide:Int)==p1.Grid.Wide)&&(((p0.Grid.High:Int)==p1.Grid.High)&&true))))))⟩] (Instr.loadAt 42 (.pointer (some ⟨b7,5,none⟩))) (sv ad1 p0.Vals cap2),.run [⟨11,false,(!(((p0.Grid.X:Int)==p1.Grid.X)&&(((p0.Grid.Y:Int)==p1.Grid.Y)&&(((p0.Grid.Size:Int)==p1.Grid.Size)&&(((p0.Grid.Wide:Int)==p1.Grid.Wide)&&(((p0.Grid.High:Int)==p1.Grid.High)&&true))))))⟩] (Instr.loadAt 42 (.pointer (some ⟨b8,5,none⟩))) (sv ad4 p1.Vals cap5)] 14 [(2,pb b7),(3,pb b8),(19,.bool (bif (!(((p0.Grid.X:Int)==p1.Grid.X)&&(((p0.Grid.Y:Int)==p1.Grid.Y)&&(((p0.Grid.Size:Int)==p1.Grid.Size)&&(((p0.Grid.Wide:Int)==p1.Grid.Wide)&&(((p0.Grid.High:Int)==p1.Grid.High)&&true)))))) then true else ((ln p0.Vals) != (ln p1.Vals))))] hF (A0 (obN (us:=p0.Grid.cells) kr (fun _ hd=>((hS.at_ hd).blk (i:=1) rfl).cells rfl)) (A0 (obN (us:=p1.Grid.cells) kr (fun _ hd=>((hS.at_ hd).blk (i:=0) rfl).cells rfl)) (A0 (Wl kr kr) (A0 (ob1 kr (fun _ hd=>(hS.at_ hd).cell (i:=1) (j:=5) rfl rfl)) (A0 (ob1 kr (fun _ hd=>(hS.at_ hd).cell (i:=0) (j:=5) rfl rfl)) Aa))))) fun a hF=>?_
 refine wfn rfl ?_
 refine As hF rfl (fun hc=>?_) (fun hc=>?_)
 ·replace h:=Ao h hc
  refine esr ?_
  refine rn 1 1 [(4,.bool false)] hF fun a hF=>?_
  refine wfn rfl ?_
  refine wpIn_ret (Ab<|Ak [.tmp 4] [.bool false] hF rfl ⟨rfl,trivial⟩ ?_)
  have hr_:=Option.some.inj h
  subst hr_
  exact ⟨rfl,hS.ext⟩
 ·replace h:=An h hc
  refine wpIn_skip (A1 ?_)
  refine Ei (fun a w=>Fr 38 [] [] a∧St w0 [blk b8 44 #[iv p1.Grid.X,iv p1.Grid.Y,iv p1.Grid.Size,iv p1.Grid.Wide,iv p1.Grid.High,sv ad4 p1.Vals cap5],blk b7 44 #[iv p0.Grid.X,iv p0.Grid.Y,iv p0.Grid.Size,iv p0.Grid.Wide,iv p0.Grid.High,sv ad1 p0.Vals cap2],fz w0 μ] w∧K0=some res) ?_ ?_
  ·skip
   refine esr ?_
   refine rn 1 1 [(2,pb b7),(3,pb b8),(5,iv 0)] hF fun a hF=>?_
   refine wfn rfl ?_
   refine wpIn_block ?_
   refine E4 (fun n_ a w=>∃(a0:Int),Fr 38 [] [(2,pb b7),(3,pb b8),(5,iv a0)] a∧St w0 [blk b8 44 #[iv p1.Grid.X,iv p1.Grid.Y,iv p1.Grid.Size,iv p1.Grid.Wide,iv p1.Grid.High,sv ad4 p1.Vals cap5],blk b7 44 #[iv p0.Grid.X,iv p0.Grid.Y,iv p0.Grid.Size,iv p0.Grid.Wide,iv p0.Grid.High,sv ad1 p0.Vals cap2],fz w0 μ] w∧Gr p0 p1 n_ a0=some res) F ⟨0,hF.sub kr,St.pick [0,1,2] (by decide) hS,h⟩ ?_
   rintro nk2 a w ⟨a0,hF,hS,h⟩
   rcases nk2 with _|nk2
   ·cases (show (none:Option Bool)=some res from h)
   obtain ⟨k2,hk2⟩:∃k,k=Gr p0 p1 nk2:=⟨_,rfl⟩
   replace h:Jz p0 p1 k2 a0=some res:=by rw [hk2];exact h
   rw [Jz] at h
   refine B0 ?_
   refine esr ?_
   refine rno 5 [.run [] (Instr.loadAt 42 (.pointer (some ⟨b7,5,none⟩))) (sv ad1 p0.Vals cap2)] 5 [(2,pb b7),(3,pb b8),(5,iv a0),(24,.bool (decide (a0<(ln p0.Vals))))] hF (A0 (ob1 kr (fun _ hd=>(hS.at_ hd).cell (i:=1) (j:=5) rfl rfl)) Aa) fun a hF=>?_
   refine wfn rfl ?_
   refine As hF rfl (fun hc=>?_) (fun hc=>?_)
   ·replace h:=Ao h hc
    refine wpIn_skip (A1 ?_)
    refine B0 ?_
    refine wpIn_block ?_
    refine B0 ?_
    replace h:=A4 h
    obtain ⟨a1,a4,h⟩:=h
    replace h:=A4 h
    obtain ⟨a2,a5,h⟩:=h
    refine Po (obs:=[.run [] (Instr.loadAt 42 (.pointer (some ⟨b7,5,none⟩))) (sv ad1 p0.Vals cap2),.run [] (Instr.indexAt 42 (sv ad1 p0.Vals cap2) (iv a0)) (.pointer (some (Ag ad1 a0 2))),.run [] (Instr.loadAt 85 (.pointer (some (Ag ad1 a0 2)))) (.agg #[iv a1.Lo,iv a1.Hi]),.run [] (Instr.loadAt 42 (.pointer (some ⟨b8,5,none⟩))) (sv ad4 p1.Vals cap5),.run [] (Instr.indexAt 42 (sv ad4 p1.Vals cap5) (iv a0)) (.pointer (some (Ag ad4 a0 2))),.run [] (Instr.loadAt 85 (.pointer (some (Ag ad4 a0 2)))) (.agg #[iv a2.Lo,iv a2.Hi]),.run [] (eqS .neq 85 #[iv a1.Lo,iv a1.Hi] #[iv a2.Lo,iv a2.Hi]) (.bool (!(((a1.Lo:Int)==a2.Lo)&&(((a1.Hi:Int)==a2.Hi)&&true))))]) 11 [(2,pb b7),(3,pb b8),(5,iv a0),(37,.bool (!(((a1.Lo:Int)==a2.Lo)&&(((a1.Hi:Int)==a2.Hi)&&true))))] kr hF kr (A0 (ob1 kr (fun _ hd=>(hS.later hd).cell (i:=1) (j:=5) rfl rfl)) (A0 (Bc (hA3 _ (hS.frz (i:=2) rfl hlow)) kr (fun _=>a4)) (A0 (Ft (m:=2) (i:=a0) (us:=[iv a1.Lo,iv a1.Hi]) 0 api_Span.cells_len (fun _ hd=>(hA3 _ ((hS.later hd).frz (i:=2) rfl hlow))) kr (fun _=>a4) ⟨rfl,rfl⟩) (A0 (ob1 kr (fun _ hd=>(hS.later hd).cell (i:=0) (j:=5) rfl rfl)) (A0 (Bc (hA6 _ (hS.frz (i:=2) rfl hlow)) kr (fun _=>a5)) (A0 (Ft (m:=2) (i:=a0) (us:=[iv a2.Lo,iv a2.Hi]) 0 api_Span.cells_len (fun _ hd=>(hA6 _ ((hS.later hd).frz (i:=2) rfl hlow))) kr (fun _=>a5) ⟨rfl,rfl⟩) (A0 (Wl kr kr) Aa))))))) ⟨kr⟩ fun a w hF hx=>?_
    replace hS:=hS.later hx
    refine wfn rfl ?_
    refine As hF rfl (fun hc=>?_) (fun hc=>?_)
    ·replace h:=Ao h hc
     refine esr ?_
     refine rn 1 1 [(4,.bool false)] hF fun a hF=>?_
     refine wfn rfl ?_
     refine wpIn_ret (Ar<|Ab<|Ab<|Ar<|Ab<|Ak [.tmp 4] [.bool false] hF rfl ⟨rfl,trivial⟩ ?_)
     have hr_:=Option.some.inj h
     subst hr_
     exact ⟨rfl,hS.ext⟩
    ·replace h:=An h hc
     refine wpIn_skip (Ac<|A1<|?_)
     refine WI.region ?_
     replace h:=A4 h
     obtain ⟨a3,a6,h⟩:=h
     refine rno 3 [.run [] (binOp .add 3 (iv a0) (iv 1)) (iv a3)] 3 [(2,pb b7),(3,pb b8),(5,iv a3)] hF (A0 (Aw (fun _=>a6)) Aa) fun a hF=>?_
     refine wfn rfl ?_
     rw [hk2] at h
     exact ⟨nk2,Nat.lt_succ_self _,a3,hF.sub kr,St.pick [0,1,2] (by decide) hS,h⟩
   ·replace h:=An h hc
    refine wpIn_exit (Ad<|Ad<|Bb<|A1 ?_)
    exact ⟨hF.sub kr,St.pick [0,1,2] (by decide) hS,h⟩
  rintro a w ⟨hF,hS,h⟩
  rw [K0] at h
  refine esr ?_
  refine rn 1 1 [(4,.bool true)] hF fun a hF=>?_
  refine wfn rfl ?_
  refine wpIn_ret (Ak [.tmp 4] [.bool true] hF rfl ⟨rfl,trivial⟩ ?_)
  have hr_:=Option.some.inj h
  subst hr_
  exact ⟨rfl,hS.ext⟩
end Go.Proofs.Ytifbomimeodibaa
