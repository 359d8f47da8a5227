import Derived.Test.YtifbomimeodibaaV4XD
import Derived.Test.YtifbomimeodibaaProg
import Derived.Test.YtifbomimeodibaaV4XW1
namespace Go.Proofs.Ytifbomimeodibaa
open Go Go.RowKit Go.Eng
set_option maxRecDepth 10000
set_option maxHeartbeats 4000000
set_option linter.unusedVariables false
set_option linter.unusedSimpArgs false
theorem Me (F:Nat) (p0:api_Site) (res:Int) (h:Gp F p0=some res) (μ:Frz) (w0:World) (hm:FrzAt μ w0):Calls Try.prog 49 #[p0.ag] w0 (fun e w=>e=.returned (iv res)∧Ext w0 w):=by
 obtain ⟨hlow,hS⟩:=hm.init
 have hext:=Frz.ext_refl w0.heap.size μ
 rw [Gp] at h
 refine Aq Try.func49 rfl 38 [(0,p0.ag)] rfl rfl kr fun a w hw hF=>?_
 replace hS:=hS.cast hw
 clear hw
 refine esr ?_
 refine SK.wi (H4 (t:=36) (fun b1=>[(1,pb b1)]) (p0.ag) p0.ar hF hS kr ⟨kr⟩ kr (fun _=>⟨kr⟩) fun b1 w a hF hS=>?_)
 refine rn 1 2 [(1,pb b1)] hF fun a hF=>?_
 refine wfn rfl ?_
 refine B0 ?_
 refine wpIn_block ?_
 refine esr ?_
 replace h:=A4 h
 obtain ⟨y2,hy2,h⟩:=h
 refine rx 5 [.run [] (Instr.loadAt 9 (pb b1)) (.string p0.Name),.call [] 55 #[.string p0.Name] (.bool y2)] 5 [(1,pb b1),(3,.bool (!y2))] hF (A0 (ob1 kr (fun _ hd=>(hS.later hd).cell (i:=0) (j:=0) rfl rfl)) (A0 (show Ob.ok _ Ext _ _ from fun hk w2 hd=>Qd F p0.Name _ ((fun _=>hy2) hk) _ w2 (A7 w2)) Aa)) fun a w hF hx=>?_
 replace hS:=hS.later hx
 refine wfn rfl ?_
 refine As hF rfl (fun hc=>?_) (fun hc=>?_)
 ·replace h:=Ao h hc
  refine esr ?_
  refine rn 1 1 [(2,iv 10)] hF fun a hF=>?_
  refine wfn rfl ?_
  refine wpIn_ret (Ar<|Ab<|Ak [.tmp 2] [iv 10] hF rfl ⟨rfl,trivial⟩ ?_)
  have hr_:=Option.some.inj h
  subst hr_
  exact ⟨rfl,hS.ext⟩
 ·replace h:=An h hc
  refine Ei (fun a w=>∃(c3:Bool),Fr 38 [] [(1,pb b1),(8,.bool c3)] a∧St w0 [blk b1 36 p0.ar,fz w0 μ] w∧F1 p0 c3=some res) ?_ ?_
  ·skip
   refine esr ?_
   refine rx 5 [.run [] (Instr.loadAt 3 (.pointer (some ⟨b1,1,none⟩))) (iv p0.X),.call [] 56 #[iv p0.X,iv (-1048576),iv 1048576] (.bool (Af p0.X (-1048576) 1048576))] 5 [(1,pb b1),(8,.bool (!(Af p0.X (-1048576) 1048576)))] hF (A0 (ob1 kr (fun _ hd=>(hS.later hd).cell (i:=0) (j:=1) rfl rfl)) (A0 (show Ob.ok _ Ext _ _ from fun hk w2 hd=>Cq p0.X (-1048576) 1048576 _ rfl _ w2 (A7 w2)) Aa)) fun a w hF hx=>?_
   replace hS:=hS.later hx
   refine wfn rfl ?_
   refine As hF rfl (fun hc=>?_) (fun hc=>?_)
   ·replace h:=Ao h hc
    refine wpIn_skip (A1 ?_)
    exact ⟨!(Af p0.X (-1048576) 1048576),hF.sub kr,St.pick [0,1] (by decide) hS,h⟩
   ·replace h:=An h hc
    refine esr ?_
    refine rx 5 [.run [] (Instr.loadAt 3 (.pointer (some ⟨b1,2,none⟩))) (iv p0.Y),.call [] 56 #[iv p0.Y,iv (-1048576),iv 1048576] (.bool (Af p0.Y (-1048576) 1048576))] 5 [(1,pb b1),(8,.bool (!(Af p0.Y (-1048576) 1048576)))] hF (A0 (ob1 kr (fun _ hd=>(hS.later hd).cell (i:=0) (j:=2) rfl rfl)) (A0 (show Ob.ok _ Ext _ _ from fun hk w2 hd=>Cq p0.Y (-1048576) 1048576 _ rfl _ w2 (A7 w2)) Aa)) fun a w hF hx=>?_
    replace hS:=hS.later hx
    refine wfn rfl ?_
    refine As hF rfl (fun hc=>?_) (fun hc=>?_)
    ·replace h:=Ao h hc
     refine wpIn_skip (A1 ?_)
     exact ⟨!(Af p0.Y (-1048576) 1048576),hF.sub kr,St.pick [0,1] (by decide) hS,h⟩
    ·replace h:=An h hc
     refine WI.region ?_
     refine rx 5 [.run [] (Instr.loadAt 3 (.pointer (some ⟨b1,3,none⟩))) (iv p0.Z),.call [] 56 #[iv p0.Z,iv 0,iv 20000] (.bool (Af p0.Z 0 20000))] 5 [(1,pb b1),(8,.bool (!(Af p0.Z 0 20000)))] hF (A0 (ob1 kr (fun _ hd=>(hS.later hd).cell (i:=0) (j:=3) rfl rfl)) (A0 (show Ob.ok _ Ext _ _ from fun hk w2 hd=>Cq p0.Z 0 20000 _ rfl _ w2 (A7 w2)) Aa)) fun a w hF hx=>?_
     replace hS:=hS.later hx
     refine wfn rfl ?_
     exact ⟨!(Af p0.Z 0 20000),hF.sub kr,St.pick [0,1] (by decide) hS,h⟩
  rintro a w ⟨c3,hF,hS,h⟩
  rw [F1] at h
  refine As hF rfl (fun hc=>?_) (fun hc=>?_)
  ·replace h:=Ao h hc
   refine esr ?_
   refine rn 1 1 [(2,iv 3)] hF fun a hF=>?_
   refine wfn rfl ?_
   refine wpIn_ret (Ar<|Ab<|Ak [.tmp 2] [iv 3] hF rfl ⟨rfl,trivial⟩ ?_)
   have hr_:=Option.some.inj h
   subst hr_
   exact ⟨rfl,hS.ext⟩
  ·replace h:=An h hc
   refine Ei (fun a w=>∃(c4:Bool),Fr 38 [] [(21,.bool c4)] a∧St w0 [blk b1 36 p0.ar,fz w0 μ] w∧E7 c4=some res) ?_ ?_
   ·skip
    refine esr ?_
    refine rx 5 [.run [] (Instr.loadAt 3 (.pointer (some ⟨b1,4,none⟩))) (iv p0.Rose),.call [] 56 #[iv p0.Rose,iv 1,iv 90] (.bool (Af p0.Rose 1 90))] 5 [(1,pb b1),(21,.bool (!(Af p0.Rose 1 90)))] hF (A0 (ob1 kr (fun _ hd=>(hS.later hd).cell (i:=0) (j:=4) rfl rfl)) (A0 (show Ob.ok _ Ext _ _ from fun hk w2 hd=>Cq p0.Rose 1 90 _ rfl _ w2 (A7 w2)) Aa)) fun a w hF hx=>?_
    replace hS:=hS.later hx
    refine wfn rfl ?_
    refine As hF rfl (fun hc=>?_) (fun hc=>?_)
    ·replace h:=Ao h hc
     refine wpIn_skip (A1 ?_)
     exact ⟨!(Af p0.Rose 1 90),hF.sub kr,St.pick [0,1] (by decide) hS,h⟩
    ·replace h:=An h hc
     refine esr ?_
     refine rx 5 [.run [] (Instr.loadAt 3 (.pointer (some ⟨b1,5,none⟩))) (iv p0.Gates),.call [] 56 #[iv p0.Gates,iv 1,iv 200] (.bool (Af p0.Gates 1 200))] 5 [(1,pb b1),(21,.bool (!(Af p0.Gates 1 200)))] hF (A0 (ob1 kr (fun _ hd=>(hS.later hd).cell (i:=0) (j:=5) rfl rfl)) (A0 (show Ob.ok _ Ext _ _ from fun hk w2 hd=>Cq p0.Gates 1 200 _ rfl _ w2 (A7 w2)) Aa)) fun a w hF hx=>?_
     replace hS:=hS.later hx
     refine wfn rfl ?_
     refine As hF rfl (fun hc=>?_) (fun hc=>?_)
     ·replace h:=Ao h hc
      refine wpIn_skip (A1 ?_)
      exact ⟨!(Af p0.Gates 1 200),hF.sub kr,St.pick [0,1] (by decide) hS,h⟩
     ·replace h:=An h hc
      refine esr ?_
      refine rx 5 [.run [] (Instr.loadAt 3 (.pointer (some ⟨b1,6,none⟩))) (iv p0.Step),.call [] 56 #[iv p0.Step,iv 50,iv 2000] (.bool (Af p0.Step 50 2000))] 5 [(1,pb b1),(21,.bool (!(Af p0.Step 50 2000)))] hF (A0 (ob1 kr (fun _ hd=>(hS.later hd).cell (i:=0) (j:=6) rfl rfl)) (A0 (show Ob.ok _ Ext _ _ from fun hk w2 hd=>Cq p0.Step 50 2000 _ rfl _ w2 (A7 w2)) Aa)) fun a w hF hx=>?_
      replace hS:=hS.later hx
      refine wfn rfl ?_
      refine As hF rfl (fun hc=>?_) (fun hc=>?_)
      ·replace h:=Ao h hc
       refine wpIn_skip (A1 ?_)
       exact ⟨!(Af p0.Step 50 2000),hF.sub kr,St.pick [0,1] (by decide) hS,h⟩
      ·replace h:=An h hc
       refine WI.region ?_
       refine rx 5 [.run [] (Instr.loadAt 3 (.pointer (some ⟨b1,7,none⟩))) (iv p0.Width),.call [] 56 #[iv p0.Width,iv 0,iv 8] (.bool (Af p0.Width 0 8))] 5 [(21,.bool (!(Af p0.Width 0 8)))] hF (A0 (ob1 kr (fun _ hd=>(hS.later hd).cell (i:=0) (j:=7) rfl rfl)) (A0 (show Ob.ok _ Ext _ _ from fun hk w2 hd=>Cq p0.Width 0 8 _ rfl _ w2 (A7 w2)) Aa)) fun a w hF hx=>?_
       replace hS:=hS.later hx
       refine wfn rfl ?_
       exact ⟨!(Af p0.Width 0 8),hF.sub kr,St.pick [0,1] (by decide) hS,h⟩
   rintro a w ⟨c4,hF,hS,h⟩
   rw [E7] at h
   refine As hF rfl (fun hc=>?_) (fun hc=>?_)
   ·replace h:=Ao h hc
    refine esr ?_
    refine rn 1 1 [(2,iv 3)] hF fun a hF=>?_
    refine wfn rfl ?_
    refine wpIn_ret (Ar<|Ab<|Ak [.tmp 2] [iv 3] hF rfl ⟨rfl,trivial⟩ ?_)
    have hr_:=Option.some.inj h
    subst hr_
    exact ⟨rfl,hS.ext⟩
   ·replace h:=An h hc
    refine wpIn_skip (Ac<|A1<|?_)
    refine esr ?_
    refine rn 1 1 [(2,iv 0)] hF fun a hF=>?_
    refine wfn rfl ?_
    refine wpIn_ret (Ak [.tmp 2] [iv 0] hF rfl ⟨rfl,trivial⟩ ?_)
    have hr_:=Option.some.inj h
    subst hr_
    exact ⟨rfl,hS.ext⟩
theorem R6 (F:Nat) (p0:(List api_Span)) (res:Bool) (h:J9 F p0=some res) (μ:Frz) (w0:World) (hm:FrzAt μ w0) {ad1:Option Addr} {cap2:Nat} (hA3:ArrM μ 2 api_Span.cells ad1 cap2 p0):Calls Try.prog 98 #[sv ad1 p0 cap2] w0 (fun e w=>e=.returned (.bool res)∧Ext w0 w):=by
 obtain ⟨hlow,hS⟩:=hm.init
 have hext:=Frz.ext_refl w0.heap.size μ
 rw [J9] at h
 refine Aq Try.func98 rfl 28 [(0,sv ad1 p0 cap2)] rfl rfl kr fun a w hw hF=>?_
 replace hS:=hS.cast hw
 clear hw
 refine esr ?_
 refine rn 1 1 [(0,sv ad1 p0 cap2)] hF fun a hF=>?_
 refine wfn rfl ?_
 refine Ei (fun a w=>Fr 28 [] [] a∧St w0 [fz w0 μ] w∧J5=some res) ?_ ?_
 ·skip
  refine esr ?_
  refine rn 3 3 [(5,sv ad1 p0 cap2),(6,iv (ln p0)),(7,iv 0)] hF fun a hF=>?_
  refine wfn rfl ?_
  refine wpIn_block ?_
  refine E4 (fun n_ a w=>∃(a1:Int),Fr 28 [] [(5,sv ad1 p0 cap2),(6,iv (ln p0)),(7,iv a1)] a∧St w0 [fz w0 μ] w∧Dx p0 n_ a1=some res) F ⟨0,hF.sub kr,St.pick [0] (by decide) hS,h⟩ ?_
  rintro nk2 a w ⟨a1,hF,hS,h⟩
  rcases nk2 with _|nk2
  ·cases (show (none:Option Bool)=some res from h)
  obtain ⟨k2,hk2⟩:∃k,k=Dx p0 nk2:=⟨_,rfl⟩
  replace h:Fm p0 k2 a1=some res:=by rw [hk2];exact h
  rw [Fm] at h
  refine esr ?_
  refine rn 1 1 [(5,sv ad1 p0 cap2),(6,iv (ln p0)),(7,iv a1),(8,.bool (decide (a1<(ln p0))))] hF fun a hF=>?_
  refine wfn rfl ?_
  refine B0 ?_
  refine As hF rfl (fun hc=>?_) (fun hc=>?_)
  ·replace h:=Ao h hc
   refine wpIn_skip (A1 ?_)
   refine B0 ?_
   refine wpIn_block ?_
   refine esr ?_
   replace h:=A4 h
   obtain ⟨a0,a5,h⟩:=h
   refine rno 2 [.run [] (Instr.indexAt 42 (sv ad1 p0 cap2) (iv a1)) (.pointer (some (Ag ad1 a1 2))),.run [] (Instr.loadAt 85 (.pointer (some (Ag ad1 a1 2)))) (.agg #[iv a0.Lo,iv a0.Hi])] 2 [(5,sv ad1 p0 cap2),(6,iv (ln p0)),(7,iv a1),(10,.agg #[iv a0.Lo,iv a0.Hi])] hF (A0 (Bc (hA3 _ (hS.frz (i:=0) rfl hlow)) kr (fun _=>a5)) (A0 (Ft (m:=2) (i:=a1) (us:=[iv a0.Lo,iv a0.Hi]) 0 api_Span.cells_len (fun _ hd=>(hA3 _ ((hS.at_ hd).frz (i:=0) rfl hlow))) kr (fun _=>a5) ⟨rfl,rfl⟩) Aa)) fun a hF=>?_
   refine SK.wi (Bs (t:=85) (fun a2=>[(4,pb a2),(5,sv ad1 p0 cap2),(6,iv (ln p0)),(7,iv a1),(10,.agg #[iv a0.Lo,iv a0.Hi])]) #[iv 0,iv 0] hF hS kr ⟨kr⟩ kr (fun _=>⟨kr⟩) fun a2 w a hF hS=>?_)
   refine SK.wi (Ap (t:=85) [(4,pb a2),(5,sv ad1 p0 cap2),(6,iv (ln p0)),(7,iv a1)] 0 0 (.agg #[iv a0.Lo,iv a0.Hi]) #[iv a0.Lo,iv a0.Hi] hF hS rfl kr ⟨kr⟩ kr kr kr kr ⟨kr⟩ fun w a hF hS=>?_)
   refine wfn rfl ?_
   refine esr ?_
   replace h:=A4 h
   obtain ⟨a6,a7,h⟩:=h
   replace h:=A4 h
   obtain ⟨a3,a8,h⟩:=h
   refine rx 16 [.run [] (Instr.loadAt 3 (pb a2)) (iv a0.Lo),.call [] 94 #[iv a0.Lo,iv (-32768),iv 32767] (.bool (Au a0.Lo (-32768) 32767)),.run [⟨15,false,(!(Au a0.Lo (-32768) 32767))⟩] (Instr.loadAt 3 (.pointer (some ⟨a2,1,none⟩))) (iv a0.Hi),.run [⟨15,false,(!(Au a0.Lo (-32768) 32767))⟩] (Instr.loadAt 3 (pb a2)) (iv a0.Lo),.run [⟨15,false,(!(Au a0.Lo (-32768) 32767))⟩] (Instr.loadAt 3 (pb a2)) (iv a0.Lo),.run [⟨15,false,(!(Au a0.Lo (-32768) 32767))⟩] (binOp .add 3 (iv a0.Lo) (iv 65536)) (iv a6),.run [⟨15,false,(!(Au a0.Lo (-32768) 32767))⟩] (binOp .sub 3 (iv a6) (iv 1)) (iv a3),.call [⟨15,false,(!(Au a0.Lo (-32768) 32767))⟩] 94 #[iv a0.Hi,iv a0.Lo,iv a3] (.bool (Au a0.Hi a0.Lo a3))] 16 [(5,sv ad1 p0 cap2),(6,iv (ln p0)),(7,iv a1),(26,.bool (bif (!(Au a0.Lo (-32768) 32767)) then true else (!(Au a0.Hi a0.Lo a3))))] hF (A0 (ob1 kr (fun _ hd=>(hS.later hd).cell (i:=0) (j:=0) rfl rfl)) (A0 (show Ob.ok _ Ext _ _ from fun hk w2 hd=>Hc a0.Lo (-32768) 32767 _ rfl _ w2 (A7 w2)) (A0 (ob1 kr (fun _ hd=>(hS.later hd).cell (i:=0) (j:=1) rfl rfl)) (A0 (ob1 kr (fun _ hd=>(hS.later hd).cell (i:=0) (j:=0) rfl rfl)) (A0 (ob1 kr (fun _ hd=>(hS.later hd).cell (i:=0) (j:=0) rfl rfl)) (A0 (Aw (fun hk=>E3 a7 hk)) (A0 (Jk (fun hk=>E3 a8 hk)) (A0 (show Ob.ok _ Ext _ _ from fun hk w2 hd=>Hc a0.Hi a0.Lo a3 _ rfl _ w2 (A7 w2)) Aa)))))))) fun a w hF hx=>?_
   replace hS:=hS.later hx
   refine wfn rfl ?_
   refine As hF rfl (fun hc=>?_) (fun hc=>?_)
   ·replace h:=Ao h hc
    refine esr ?_
    refine rn 1 1 [(2,.bool false)] hF fun a hF=>?_
    refine wfn rfl ?_
    refine wpIn_ret (Ar<|Ab<|Ab<|Ar<|Ab<|Ak [.tmp 2] [.bool false] hF rfl ⟨rfl,trivial⟩ ?_)
    have hr_:=Option.some.inj h
    subst hr_
    exact ⟨rfl,hS.ext⟩
   ·replace h:=An h hc
    refine wpIn_skip (Ac<|A1<|?_)
    refine WI.region ?_
    replace h:=A4 h
    obtain ⟨a4,a9,h⟩:=h
    refine rno 2 [.run [] (binOp .add 3 (iv a1) (iv 1)) (iv a4)] 2 [(5,sv ad1 p0 cap2),(6,iv (ln p0)),(7,iv a4)] hF (A0 (Aw (fun _=>a9)) Aa) fun a hF=>?_
    refine wfn rfl ?_
    rw [hk2] at h
    exact ⟨nk2,Nat.lt_succ_self _,a4,hF.sub kr,St.pick [1] (by decide) hS,h⟩
  ·replace h:=An h hc
   refine wpIn_exit (Ad<|Ad<|Bb<|A1 ?_)
   exact ⟨hF.sub kr,St.pick [0] (by decide) hS,h⟩
 rintro a w ⟨hF,hS,h⟩
 rw [J5] at h
 refine esr ?_
 refine rn 1 1 [(2,.bool true)] hF fun a hF=>?_
 refine wfn rfl ?_
 refine wpIn_ret (Ak [.tmp 2] [.bool true] hF rfl ⟨rfl,trivial⟩ ?_)
 have hr_:=Option.some.inj h
 subst hr_
 exact ⟨rfl,hS.ext⟩
theorem Md (p0:api_Grid) (res:Int) (h:Bh p0=res) (μ:Frz) (w0:World) (hm:FrzAt μ w0):Calls Try.prog 52 #[p0.ag] w0 (fun e w=>e=.returned (iv res)∧Ext w0 w):=by
 obtain ⟨hlow,hS⟩:=hm.init
 have hext:=Frz.ext_refl w0.heap.size μ
 rw [Bh] at h
 refine Aq Try.func52 rfl 24 [(0,p0.ag)] rfl rfl kr fun a w hw hF=>?_
 replace hS:=hS.cast hw
 clear hw
 refine esr ?_
 refine SK.wi (H4 (t:=41) (fun b1=>[(1,pb b1)]) (p0.ag) p0.ar hF hS kr ⟨kr⟩ kr (fun _=>⟨kr⟩) fun b1 w a hF hS=>?_)
 refine rn 1 2 [(1,pb b1)] hF fun a hF=>?_
 refine wfn rfl ?_
 refine B0 ?_
 refine wpIn_block ?_
 refine Ei (fun a w=>∃(c2:Bool),Fr 24 [] [(3,.bool c2)] a∧St w0 [blk b1 41 p0.ar,fz w0 μ] w∧Dk c2=res) ?_ ?_
 ·skip
  refine esr ?_
  refine rx 5 [.run [] (Instr.loadAt 3 (pb b1)) (iv p0.X),.call [] 56 #[iv p0.X,iv (-1048576),iv 1048576] (.bool (Af p0.X (-1048576) 1048576))] 5 [(1,pb b1),(3,.bool (!(Af p0.X (-1048576) 1048576)))] hF (A0 (ob1 kr (fun _ hd=>(hS.later hd).cell (i:=0) (j:=0) rfl rfl)) (A0 (show Ob.ok _ Ext _ _ from fun hk w2 hd=>Cq p0.X (-1048576) 1048576 _ rfl _ w2 (A7 w2)) Aa)) fun a w hF hx=>?_
  replace hS:=hS.later hx
  refine wfn rfl ?_
  refine As hF rfl (fun hc=>?_) (fun hc=>?_)
  ·replace h:=Ao h hc
   refine wpIn_skip (A1 ?_)
   exact ⟨!(Af p0.X (-1048576) 1048576),hF.sub kr,St.pick [0,1] (by decide) hS,h⟩
  ·replace h:=An h hc
   refine esr ?_
   refine rx 5 [.run [] (Instr.loadAt 3 (.pointer (some ⟨b1,1,none⟩))) (iv p0.Y),.call [] 56 #[iv p0.Y,iv (-1048576),iv 1048576] (.bool (Af p0.Y (-1048576) 1048576))] 5 [(1,pb b1),(3,.bool (!(Af p0.Y (-1048576) 1048576)))] hF (A0 (ob1 kr (fun _ hd=>(hS.later hd).cell (i:=0) (j:=1) rfl rfl)) (A0 (show Ob.ok _ Ext _ _ from fun hk w2 hd=>Cq p0.Y (-1048576) 1048576 _ rfl _ w2 (A7 w2)) Aa)) fun a w hF hx=>?_
   replace hS:=hS.later hx
   refine wfn rfl ?_
   refine As hF rfl (fun hc=>?_) (fun hc=>?_)
   ·replace h:=Ao h hc
    refine wpIn_skip (A1 ?_)
    exact ⟨!(Af p0.Y (-1048576) 1048576),hF.sub kr,St.pick [0,1] (by decide) hS,h⟩
   ·replace h:=An h hc
    refine esr ?_
    refine rx 5 [.run [] (Instr.loadAt 3 (.pointer (some ⟨b1,2,none⟩))) (iv p0.Size),.call [] 56 #[iv p0.Size,iv 1,iv 10000] (.bool (Af p0.Size 1 10000))] 5 [(1,pb b1),(3,.bool (!(Af p0.Size 1 10000)))] hF (A0 (ob1 kr (fun _ hd=>(hS.later hd).cell (i:=0) (j:=2) rfl rfl)) (A0 (show Ob.ok _ Ext _ _ from fun hk w2 hd=>Cq p0.Size 1 10000 _ rfl _ w2 (A7 w2)) Aa)) fun a w hF hx=>?_
    replace hS:=hS.later hx
    refine wfn rfl ?_
    refine As hF rfl (fun hc=>?_) (fun hc=>?_)
    ·replace h:=Ao h hc
     refine wpIn_skip (A1 ?_)
     exact ⟨!(Af p0.Size 1 10000),hF.sub kr,St.pick [0,1] (by decide) hS,h⟩
    ·replace h:=An h hc
     refine esr ?_
     refine rx 5 [.run [] (Instr.loadAt 3 (.pointer (some ⟨b1,3,none⟩))) (iv p0.Wide),.call [] 56 #[iv p0.Wide,iv 1,iv 64] (.bool (Af p0.Wide 1 64))] 5 [(1,pb b1),(3,.bool (!(Af p0.Wide 1 64)))] hF (A0 (ob1 kr (fun _ hd=>(hS.later hd).cell (i:=0) (j:=3) rfl rfl)) (A0 (show Ob.ok _ Ext _ _ from fun hk w2 hd=>Cq p0.Wide 1 64 _ rfl _ w2 (A7 w2)) Aa)) fun a w hF hx=>?_
     replace hS:=hS.later hx
     refine wfn rfl ?_
     refine As hF rfl (fun hc=>?_) (fun hc=>?_)
     ·replace h:=Ao h hc
      refine wpIn_skip (A1 ?_)
      exact ⟨!(Af p0.Wide 1 64),hF.sub kr,St.pick [0,1] (by decide) hS,h⟩
     ·replace h:=An h hc
      refine WI.region ?_
      refine rx 5 [.run [] (Instr.loadAt 3 (.pointer (some ⟨b1,4,none⟩))) (iv p0.High),.call [] 56 #[iv p0.High,iv 1,iv 64] (.bool (Af p0.High 1 64))] 5 [(3,.bool (!(Af p0.High 1 64)))] hF (A0 (ob1 kr (fun _ hd=>(hS.later hd).cell (i:=0) (j:=4) rfl rfl)) (A0 (show Ob.ok _ Ext _ _ from fun hk w2 hd=>Cq p0.High 1 64 _ rfl _ w2 (A7 w2)) Aa)) fun a w hF hx=>?_
      replace hS:=hS.later hx
      refine wfn rfl ?_
      exact ⟨!(Af p0.High 1 64),hF.sub kr,St.pick [0,1] (by decide) hS,h⟩
 rintro a w ⟨c2,hF,hS,h⟩
 rw [Dk] at h
 refine As hF rfl (fun hc=>?_) (fun hc=>?_)
 ·replace h:=Ao h hc
  refine esr ?_
  refine rn 1 1 [(2,iv 3)] hF fun a hF=>?_
  refine wfn rfl ?_
  refine wpIn_ret (Ar<|Ab<|Ak [.tmp 2] [iv 3] hF rfl ⟨rfl,trivial⟩ ?_)
  subst h
  exact ⟨rfl,hS.ext⟩
 ·replace h:=An h hc
  refine wpIn_skip (Ac<|A1<|?_)
  refine esr ?_
  refine rn 1 1 [(2,iv 0)] hF fun a hF=>?_
  refine wfn rfl ?_
  refine wpIn_ret (Ak [.tmp 2] [iv 0] hF rfl ⟨rfl,trivial⟩ ?_)
  subst h
  exact ⟨rfl,hS.ext⟩
theorem H8 (F:Nat) (p0:volume_writer) (p1:ByteArray) (res:volume_writer) (h:Dj F p0 p1=some res) (μ:Frz) (w0 w1:World) (T_:List Res) (hlow:Ba w0 μ) {cb0:Nat} {ad1:Option Addr} {cap2:Nat} (hS:St w0 (fz w0 μ::blk cb0 106 #[sv ad1 p0.b cap2]::arrT 5 1 (fK .u8) ad1 p0.b.length cap2 p0.b::T_) w1):Dd Try.prog 84 #[pb cb0,.string p1] w1 (fun e w=>∃(ν_:Frz) (a4:Option Addr) (a6:Nat),μ.ext w0.heap.size ν_∧Ba w0 ν_∧e=(.tuple #[])∧St w0 (fz w0 ν_::blk cb0 106 #[sv a4 res.b a6]::arrT 5 1 (fK .u8) a4 res.b.length a6 res.b::T_) w):=by
 rw [Dj] at h
 have hext:=Frz.ext_refl w0.heap.size μ
 refine Aq Try.func84 rfl 18 [(0,pb cb0),(1,.string p1)] rfl rfl kr fun a w hw hF=>?_
 replace hS:=hS.cast hw
 clear hw
 refine esr ?_
 refine rn 3 3 [(0,pb cb0),(1,.string p1),(4,pb cb0),(6,iv ((p1.size:Nat):Int))] hF fun a hF=>?_
 refine SK.wi (G0 (e:=3) (sz:=1) (f:=fI) (t:=51) (len:=1) (fun b3=>[(0,pb cb0),(1,.string p1),(4,pb cb0),(7,sb b3 1)]) #[(0,iv ((p1.size:Nat):Int))] #[iv ((p1.size:Nat):Int)] ([((p1.size:Nat):Int)]) hF hS kr ⟨kr⟩ kr Ee rfl rfl kr (fun _=>⟨kr⟩) fun b3 w a hF hS=>?_)
 obtain ⟨ν4,hx5,hlow,hS,hz6⟩:=hS.freeze (i:=1) (j:=0) rfl rfl (by decide) hlow
 replace hext:=Frz.ext_trans hext hx5
 have hA7:=ArrM.of_arr hz6
 replace h:=A4 h
 obtain ⟨y8,hy8,h⟩:=h
 refine SK.wi (Bz (fun a9=>[(0,pb cb0),(1,.string p1)]) hF kr ⟨kr⟩ (Ax F _ _ _ hy8 ν4 w0 w _ hlow hA7 hS) (fun _=>⟨kr⟩) ?_)
 rintro a9 w a ⟨ν9,a3,a5,a7,hlow,rfl,hS⟩ hF
 replace hext:=Frz.ext_trans hext a7
 replace hA7:=hA7.mono a7.1
 refine wfn rfl ?_
 refine WI.region ?_
 refine rno 6 [.run [] (Instr.loadAt 23 (pb cb0)) (sv a3 y8.b a5)] 6 [(9,pb cb0),(13,sv a3 y8.b a5),(14,.string p1)] hF (A0 (ob1 kr (fun _ hd=>(hS.at_ hd).cell (i:=1) (j:=0) rfl rfl)) Aa) fun a hF=>?_
 replace h:=A4 h
 obtain ⟨a2,a8,h⟩:=h
 refine SK.wi (A24 (t:=23) (xt:=9) (ty:=23) (bytes:=1) (l:=y8.b) (fun a0 a1=>[(9,pb cb0),(15,sv a0 a2 a1)]) 2 hF hS rfl kr ⟨kr⟩ kr kr a8 (fun _ _=>⟨kr⟩) fun a0 a1 w a hF hS=>?_)
 refine rn 2 9 [(15,sv a0 a2 a1),(17,pb cb0)] hF fun a hF=>?_
 refine SK.wi (Ap (t:=23) [] 1 0 (sv a0 a2 a1) #[sv a0 a2 a1] hF hS rfl kr ⟨kr⟩ kr kr kr kr ⟨kr⟩ fun w a hF hS=>?_)
 refine WI.fin rfl ?_
 refine Hm hF rfl ?_
 have hr_:=Option.some.inj h
 subst hr_
 replace hS:=hS
 exact ⟨_,rfl,ν9,a0,a1,hext,hlow,rfl,hS⟩
theorem G1 (F:Nat) (p0:volume_writer) (p1:(List Int)) (res:volume_writer) (h:Cp F p0 p1=some res) (μ:Frz) (w0 w1:World) (T_:List Res) (hlow:Ba w0 μ) {cb0:Nat} {ad1:Option Addr} {cap2:Nat} {ad3:Option Addr} {cap4:Nat} (hA5:ArrM μ 1 fI ad3 cap4 p1) (hS:St w0 (fz w0 μ::blk cb0 106 #[sv ad1 p0.b cap2]::arrT 5 1 (fK .u8) ad1 p0.b.length cap2 p0.b::T_) w1):Dd Try.prog 91 #[pb cb0,sv ad3 p1 cap4] w1 (fun e w=>∃(ν_:Frz) (aJ:Option Addr) (aM:Nat),μ.ext w0.heap.size ν_∧Ba w0 ν_∧e=(.tuple #[])∧St w0 (fz w0 ν_::blk cb0 106 #[sv aJ res.b aM]::arrT 5 1 (fK .u8) aJ res.b.length aM res.b::T_) w):=by
 rw [Cp] at h
 have hext:=Frz.ext_refl w0.heap.size μ
 refine Aq Try.func91 rfl 26 [(0,pb cb0),(1,sv ad3 p1 cap4)] rfl rfl kr fun a w hw hF=>?_
 replace hS:=hS.cast hw
 clear hw
 refine esr ?_
 refine rn 3 3 [(0,pb cb0),(6,sv ad3 p1 cap4),(7,iv (ln p1)),(8,iv 0)] hF fun a hF=>?_
 refine wfn rfl ?_
 refine wpIn_block ?_
 have aN:=Frz.le_refl μ
 refine E4 (fun n_ a w=>∃(a3:(List Int)) (a0:Int) (ν130:Frz) (aA:Option Addr) (aC:Nat),Fr 26 [] [(0,pb cb0),(6,sv ad3 p1 cap4),(7,iv (ln p1)),(8,iv a0)] a∧St w0 (arrT 5 1 (fK .u8) aA a3.length aC a3::fz w0 ν130::blk cb0 106 #[sv aA a3 aC]::T_) w∧(μ.le ν130)∧(μ.ext w0.heap.size ν130)∧(Ba w0 ν130)∧Bn F p1 n_ a3 a0=some res) F ⟨p0.b,0,μ,ad1,cap2,hF.sub kr,hS.s2,aN,hext,hlow,h⟩ ?_
 clear aN
 rintro nk1 a w ⟨a3,a0,ν130,aA,aC,hF,hS,a1,hext,hlow,h⟩
 rcases nk1 with _|nk1
 ·cases (show (none:Option volume_writer)=some res from h)
 replace hA5:=hA5.mono a1
 obtain ⟨k1,hk1⟩:∃k,k=Bn F p1 nk1:=⟨_,rfl⟩
 replace h:Eg F p1 k1 a3 a0=some res:=by rw [hk1];exact h
 rw [Eg] at h
 refine esr ?_
 refine rn 1 1 [(0,pb cb0),(6,sv ad3 p1 cap4),(7,iv (ln p1)),(8,iv a0),(9,.bool (decide (a0<(ln p1))))] hF fun a hF=>?_
 refine wfn rfl ?_
 refine B0 ?_
 refine As hF rfl (fun hc=>?_) (fun hc=>?_)
 ·replace h:=Ao h hc
  refine wpIn_skip (A1 ?_)
  have a2:=Frz.le_refl ν130
  refine Ei (fun a w=>∃(a4:(List Int)) (ν163:Frz) (aB:Option Addr) (aD:Nat),Fr 26 [] [(0,pb cb0),(6,sv ad3 p1 cap4),(7,iv (ln p1)),(8,iv a0)] a∧St w0 (arrT 5 1 (fK .u8) aB a4.length aD a4::fz w0 ν163::blk cb0 106 #[sv aB a4 aD]::T_) w∧(ν130.le ν163)∧(μ.ext w0.heap.size ν163)∧(Ba w0 ν163)∧Ck a0 k1 a4=some res) ?_ ?_
  ·skip
   refine wpIn_block ?_
   refine esr ?_
   replace h:=A4 h
   obtain ⟨a5,aP,h⟩:=h
   refine rno 3 [.run [] (Instr.indexAt 51 (sv ad3 p1 cap4) (iv a0)) (.pointer (some (Ag ad3 a0 1))),.run [] (Instr.loadAt 3 (.pointer (some (Ag ad3 a0 1)))) (iv a5)] 3 [(0,pb cb0),(5,iv a5),(6,sv ad3 p1 cap4),(7,iv (ln p1)),(8,iv a0)] hF (A0 (Bc (hA5 _ (hS.frz (i:=1) rfl hlow)) kr (fun _=>aP)) (A0 (Ey (i:=a0) 0 Ee (fun _ hd=>(hA5 _ ((hS.at_ hd).frz (i:=1) rfl hlow))) kr (fun _=>aP) rfl) Aa)) fun a hF=>?_
   refine wfn rfl ?_
   refine esr ?_
   refine rn 2 2 [(0,pb cb0),(5,iv a5),(6,sv ad3 p1 cap4),(7,iv (ln p1)),(8,iv a0),(13,.bool (decide (a5<0)))] hF fun a hF=>?_
   refine wfn rfl ?_
   refine As hF rfl (fun hc=>?_) (fun hc=>?_)
   ·replace h:=Ao h hc
    refine WI.region ?_
    replace h:=A4 h
    obtain ⟨aQ,aW,h⟩:=h
    replace h:=A4 h
    obtain ⟨a8,aX,h⟩:=h
    refine rno 4 [.run [] (binOp .mul 3 (iv (-2)) (iv a5)) (iv aQ),.run [] (binOp .sub 3 (iv aQ) (iv 1)) (iv a8)] 4 [(0,pb cb0),(6,sv ad3 p1 cap4),(7,iv (ln p1)),(8,iv a0),(14,pb cb0),(17,iv a8)] hF (A0 (K8 (fun _=>aW)) (A0 (Jk (fun _=>aX)) Aa)) fun a hF=>?_
    refine SK.wi (G0 (e:=3) (sz:=1) (f:=fI) (t:=51) (len:=1) (fun aK=>[(0,pb cb0),(6,sv ad3 p1 cap4),(7,iv (ln p1)),(8,iv a0),(14,pb cb0),(18,sb aK 1)]) #[(0,iv a8)] #[iv a8] ([a8]) hF hS kr ⟨kr⟩ kr Ee rfl rfl kr (fun _=>⟨kr⟩) fun aK w a hF hS=>?_)
    obtain ⟨ν174,aE,hlow,hS,b1⟩:=hS.freeze (i:=2) (j:=0) rfl rfl (by decide) hlow
    replace hA5:=hA5.mono aE.1
    replace a1:=Frz.le_trans a1 aE.1
    replace a2:=Frz.le_trans a2 aE.1
    replace hext:=Frz.ext_trans hext aE
    have aG:=ArrM.of_arr b1
    replace h:=A4 h
    obtain ⟨b5,aZ,h⟩:=h
    replace hS:=hS.s2.s2
    refine SK.wi (Bz (fun b3=>[(0,pb cb0),(6,sv ad3 p1 cap4),(7,iv (ln p1)),(8,iv a0)]) hF kr ⟨kr⟩ (Ax F _ _ _ aZ ν174 w0 w _ hlow aG hS) (fun _=>⟨kr⟩) ?_)
    rintro b3 w a ⟨ν179,aR,aT,a6,hlow,rfl,hS⟩ hF
    replace hext:=Frz.ext_trans hext a6
    replace hA5:=hA5.mono a6.1
    replace aG:=aG.mono a6.1
    replace a1:=Frz.le_trans a1 a6.1
    replace a2:=Frz.le_trans a2 a6.1
    refine WI.fin rfl (Ac<|A1<|?_)
    exact ⟨b5.b,ν179,aR,aT,hF.sub kr,hS.s2,a2,hext,hlow,h⟩
   ·replace h:=An h hc
    refine WI.region ?_
    replace h:=A4 h
    obtain ⟨a9,aY,h⟩:=h
    refine rno 3 [.run [] (binOp .mul 3 (iv 2) (iv a5)) (iv a9)] 3 [(0,pb cb0),(6,sv ad3 p1 cap4),(7,iv (ln p1)),(8,iv a0),(20,pb cb0),(22,iv a9)] hF (A0 (K8 (fun _=>aY)) Aa) fun a hF=>?_
    refine SK.wi (G0 (e:=3) (sz:=1) (f:=fI) (t:=51) (len:=1) (fun aL=>[(0,pb cb0),(6,sv ad3 p1 cap4),(7,iv (ln p1)),(8,iv a0),(20,pb cb0),(23,sb aL 1)]) #[(0,iv a9)] #[iv a9] ([a9]) hF hS kr ⟨kr⟩ kr Ee rfl rfl kr (fun _=>⟨kr⟩) fun aL w a hF hS=>?_)
    obtain ⟨ν186,aF,hlow,hS,b2⟩:=hS.freeze (i:=2) (j:=0) rfl rfl (by decide) hlow
    replace hA5:=hA5.mono aF.1
    replace a1:=Frz.le_trans a1 aF.1
    replace a2:=Frz.le_trans a2 aF.1
    replace hext:=Frz.ext_trans hext aF
    have aH:=ArrM.of_arr b2
    replace h:=A4 h
    obtain ⟨b6,b0,h⟩:=h
    replace hS:=hS.s2.s2
    refine SK.wi (Bz (fun b4=>[(0,pb cb0),(6,sv ad3 p1 cap4),(7,iv (ln p1)),(8,iv a0)]) hF kr ⟨kr⟩ (Ax F _ _ _ b0 ν186 w0 w _ hlow aH hS) (fun _=>⟨kr⟩) ?_)
    rintro b4 w a ⟨ν191,aS,aU,a7,hlow,rfl,hS⟩ hF
    replace hext:=Frz.ext_trans hext a7
    replace hA5:=hA5.mono a7.1
    replace aH:=aH.mono a7.1
    replace a1:=Frz.le_trans a1 a7.1
    replace a2:=Frz.le_trans a2 a7.1
    refine WI.fin rfl (Ac<|A1<|?_)
    exact ⟨b6.b,ν191,aS,aU,hF.sub kr,hS.s2,a2,hext,hlow,h⟩
  clear a2
  rintro a w ⟨a4,ν163,aB,aD,hF,hS,aO,hext,hlow,h⟩
  replace hA5:=hA5.mono aO
  replace a1:=Frz.le_trans a1 aO
  rw [Ck] at h
  refine WI.region ?_
  replace h:=A4 h
  obtain ⟨aI,aV,h⟩:=h
  refine rno 2 [.run [] (binOp .add 3 (iv a0) (iv 1)) (iv aI)] 2 [(0,pb cb0),(6,sv ad3 p1 cap4),(7,iv (ln p1)),(8,iv aI)] hF (A0 (Aw (fun _=>aV)) Aa) fun a hF=>?_
  refine wfn rfl ?_
  rw [hk1] at h
  exact ⟨nk1,Nat.lt_succ_self _,a4,aI,ν163,aB,aD,hF.sub kr,hS,a1,hext,hlow,h⟩
 ·replace h:=An h hc
  refine wpIn_exit (Ad<|Ad<|Bb<|?_)
  refine Hm hF rfl ?_
  have hr_:=Option.some.inj h
  subst hr_
  replace hS:=hS.s2.s2
  exact ⟨_,rfl,ν130,aA,aC,hext,hlow,rfl,hS⟩
theorem Ja (F:Nat) (p0:volume_reader) (res:(Int×Bool×volume_reader)) (h:Cy F p0=some res) (μ:Frz) (w0 w1:World) (T_:List Res) (hlow:Ba w0 μ) {cb0:Nat} {ad1:Option Addr} {cap2:Nat} (hA3:ArrM μ 1 (fK .u8) ad1 cap2 p0.b) (hS:St w0 (fz w0 μ::blk cb0 98 #[sv ad1 p0.b cap2]::T_) w1):Dd Try.prog 38 #[pb cb0] w1 (fun e w=>∃(ν_:Frz) (a2:Option Addr) (a5:Nat),μ.ext w0.heap.size ν_∧Ba w0 ν_∧e=(.tuple #[iv res.1,.bool res.2.1])∧(ArrM ν_ 1 (fK .u8) a2 a5 res.2.2.b)∧St w0 (fz w0 ν_::blk cb0 98 #[sv a2 res.2.2.b a5]::T_) w):=by
 rw [Cy] at h
 have hext:=Frz.ext_refl w0.heap.size μ
 refine To Try.func38 rfl 7 [(0,pb cb0)] rfl rfl kr fun a w hw hF=>?_
 replace hS:=hS.cast hw
 clear hw
 refine esr ?_
 refine rn 1 1 [(0,pb cb0),(2,iv 0)] hF fun a hF=>?_
 refine SK.wi (Bs (t:=4) (fun b4=>[(0,pb cb0),(2,iv 0),(3,pb b4)]) #[.bool false] hF hS kr ⟨kr⟩ kr (fun _=>⟨kr⟩) fun b4 w a hF hS=>?_)
 refine wfn rfl ?_
 refine esr ?_
 refine rn 1 1 [(0,pb cb0),(2,iv 0),(3,pb b4),(4,.func (.func 45) #[] #[pb b4])] hF fun a hF=>?_
 refine Y0 2 ⟨.fn (.func 45) #[pb b4],#[]⟩ [(0,pb cb0),(2,iv 0),(3,pb b4)] hF kr ⟨kr⟩ ⟨kr⟩ rfl fun a hF=>?_
 refine wfn rfl ?_
 refine esr ?_
 refine rn 1 1 [(2,iv 0),(3,pb b4),(5,pb cb0)] hF fun a hF=>?_
 replace h:=A4 h
 obtain ⟨y5,hy5,h⟩:=h
 replace hS:=hS.s2.s2
 refine Dv (fun a7=>[(2,iv 0),(3,pb b4),(6,a7)]) hF kr ⟨kr⟩ (Aj F _ _ hy5 μ w0 w _ hlow hA3 hS) (fun _=>⟨kr⟩) ?_ ?_
 ·rintro e7 w he_ ⟨ν14,a1,a4,a6,hlow,a9,hS⟩
  replace h:=G3 h he_
  replace hext:=Frz.ext_trans hext a6
  replace hA3:=hA3.mono a6.1
  replace h:=A4 h
  obtain ⟨aB,aA,h⟩:=h
  rw [Vd aA]
  refine A6<|Pz [.tmp 2,.cell 3 4] hF rfl (fun _=>by kernel_rfl) ?_
  refine CallsDIn.mono (M5 false aB (hS.s2)) ?_
  rintro e u_ w ⟨rfl,hu_,hS⟩
  replace hS:St w0 (blk b4 4 #[.bool false]::fz w0 ν14::blk cb0 98 #[sv a1 e7.2.b a4]::T_) w:=hS
  refine ⟨_,rfl,hu_,[iv 0,.bool false],⟨rfl,⟨_,rfl,Bm kr (hS.cell (i:=0) (j:=0) rfl rfl)⟩,trivial⟩,?_⟩
  have hr_:=Option.some.inj h
  subst hr_
  replace hS:=hS.d0
  exact ⟨_,rfl,ν14,a1,a4,hext,hlow,rfl,a9,hS⟩
 rintro y6 a7 w a he_ ⟨ν8,a0,a3,hx9,hlow,rfl,a8,hS⟩ hF
 replace h:=G4 h he_
 replace hext:=Frz.ext_trans hext hx9
 replace hA3:=hA3.mono hx9.1
 refine rn 1 3 [(2,iv y6.1),(3,pb b4)] hF fun a hF=>?_
 refine SK.wi (Ap (t:=4) [(2,iv y6.1),(3,pb b4)] 2 0 (.bool true) #[.bool true] hF hS rfl kr ⟨kr⟩ kr kr kr kr ⟨kr⟩ fun w a hF hS=>?_)
 refine wfn rfl ?_
 refine wpIn_ret (Se [.tmp 2,.cell 3 4] hF rfl (fun _=>by kernel_rfl) ?_)
 refine CallsDIn.mono (M4 true (hS.s2)) ?_
 rintro e u_ w ⟨rfl,hu_,hS⟩
 replace hS:St w0 (blk b4 4 #[.bool true]::fz w0 ν8::blk cb0 98 #[sv a0 y6.2.b a3]::T_) w:=hS
 refine ⟨_,rfl,hu_,[iv y6.1,.bool true],⟨rfl,⟨_,rfl,Bm kr (hS.cell (i:=0) (j:=0) rfl rfl)⟩,trivial⟩,?_⟩
 have hr_:=Option.some.inj h
 subst hr_
 replace hS:=hS.d0
 exact ⟨_,rfl,ν8,a0,a3,hext,hlow,rfl,a8,hS⟩
theorem H6 (F:Nat) (p0:volume_reader) (res:Except (Value×volume_reader) (ByteArray×volume_reader)) (h:Dh F p0=some res) (μ:Frz) (w0 w1:World) (T_:List Res) (hlow:Ba w0 μ) {cb0:Nat} {ad1:Option Addr} {cap2:Nat} (hA3:ArrM μ 1 (fK .u8) ad1 cap2 p0.b) (hS:St w0 (fz w0 μ::blk cb0 98 #[sv ad1 p0.b cap2]::T_) w1):Mx Try.prog 47 #[pb cb0] w1 res (fun r_ e w=>∃(ν_:Frz) (a5:Option Addr) (a7:Nat),μ.ext w0.heap.size ν_∧Ba w0 ν_∧e=(.string r_.1)∧(ArrM ν_ 1 (fK .u8) a5 a7 r_.2.b)∧St w0 (fz w0 ν_::blk cb0 98 #[sv a5 r_.2.b a7]::T_) w) (fun e_ w=>∃(ν_:Frz) (a6:Option Addr) (a8:Nat),μ.ext w0.heap.size ν_∧Ba w0 ν_∧(ArrM ν_ 1 (fK .u8) a6 a8 e_.b)∧St w0 (fz w0 ν_::blk cb0 98 #[sv a6 e_.b a8]::T_) w):=by
 rw [Dh] at h
 have hext:=Frz.ext_refl w0.heap.size μ
 refine Aq Try.func47 rfl 32 [(0,pb cb0)] rfl rfl kr fun a w hw hF=>?_
 replace hS:=hS.cast hw
 clear hw
 refine esr ?_
 refine rn 1 1 [(0,pb cb0)] hF fun a hF=>?_
 refine wfn rfl ?_
 refine esr ?_
 refine rn 1 1 [(0,pb cb0),(5,pb cb0)] hF fun a hF=>?_
 replace h:=A4 h
 obtain ⟨y4,hy4,h⟩:=h
 refine Dv (fun v9=>[(0,pb cb0),(6,v9)]) hF kr ⟨kr⟩ (Aj F _ _ hy4 μ w0 w _ hlow hA3 hS) (fun _=>⟨kr⟩) ?_ ?_
 ·rintro e6 w he_ ⟨ν13,aC,aD,aB,hlow,aE,hS⟩
  replace h:=G3 h he_
  replace hext:=Frz.ext_trans hext aB
  replace hA3:=hA3.mono aB.1
  refine A6<|B1 hF ?_
  have hr_:=Option.some.inj h
  subst hr_
  replace hS:=hS
  exact .inr ⟨_,rfl,rfl,ν13,aC,aD,hext,hlow,aE,hS⟩
 rintro y5 v9 w a he_ ⟨ν7,a1,a0,hx8,hlow,rfl,a3,hS⟩ hF
 replace h:=G4 h he_
 replace hext:=Frz.ext_trans hext hx8
 replace hA3:=hA3.mono hx8.1
 refine rn 1 3 [(0,pb cb0),(3,iv y5.1)] hF fun a hF=>?_
 refine wfn rfl ?_
 refine Ei (fun a w=>Fr 32 [] [(0,pb cb0),(3,iv y5.1)] a∧St w0 (fz w0 ν7::blk cb0 98 #[sv a1 y5.2.b a0]::T_) w∧Fi y5=some res) ?_ ?_
 ·skip
  refine esr ?_
  refine rno 7 [.run [] (Instr.loadAt 23 (pb cb0)) (sv a1 y5.2.b a0)] 7 [(0,pb cb0),(3,iv y5.1),(13,.bool (decide (y5.1>(ln y5.2.b))))] hF (A0 (ob1 kr (fun _ hd=>(hS.at_ hd).cell (i:=1) (j:=0) rfl rfl)) Aa) fun a hF=>?_
  refine wfn rfl ?_
  refine As hF rfl (fun hc=>?_) (fun hc=>?_)
  ·replace h:=Ao h hc
   refine WI.region ?_
   refine rn 1 1 [(0,pb cb0),(3,iv y5.1),(14,.iface 101 (iv 7))] hF fun a hF=>?_
   refine Nb (t:=101) (v:=iv 7) hF ⟨kr⟩ (A6<|B1 hF ?_)
   have hr_:=Option.some.inj h
   subst hr_
   replace hS:=hS
   exact .inr ⟨_,rfl,rfl,ν7,a1,a0,hext,hlow,a3,hS⟩
  ·replace h:=An h hc
   refine wpIn_skip (A1 ?_)
   exact ⟨hF.sub kr,hS,h⟩
 rintro a w ⟨hF,hS,h⟩
 rw [Fi] at h
 refine esr ?_
 replace h:=A4 h
 obtain ⟨a2,a9,h⟩:=h
 have aF:ArrM ν7 1 (fK .u8) (Am a1 a0 (0:Int).toNat 1) (a0-(0:Int).toNat) a2:=fun w_ hw_=>(a3 w_ hw_).cutD (Cf .u8) a9
 refine rno 8 [.run [] (Instr.loadAt 23 (pb cb0)) (sv a1 y5.2.b a0),.run [] (Instr.sliceAt 23 (sv a1 y5.2.b a0) none (some (iv y5.1)) none) (.slice (Am a1 a0 (0:Int).toNat 1) a2.length (a0-(0:Int).toNat)),.run [] (convert 23 9 (.slice (Am a1 a0 (0:Int).toNat 1) a2.length (a0-(0:Int).toNat))) (.string (bst a2))] 8 [(0,pb cb0),(3,iv y5.1),(4,.string (bst a2))] hF (A0 (ob1 kr (fun _ hd=>(hS.at_ hd).cell (i:=1) (j:=0) rfl rfl)) (A0 (P0 kr (a3 _ (hS.frz (i:=0) rfl hlow)) (fun _=>a9)) (A0 (Wk kr kr (fun _ hd=>(aF _ ((hS.at_ hd).frz (i:=0) rfl hlow)))) Aa))) fun a hF=>?_
 refine wfn rfl ?_
 refine esr ?_
 replace h:=A4 h
 obtain ⟨a4,aA,h⟩:=h
 have aG:ArrM ν7 1 (fK .u8) (Am a1 a0 y5.1.toNat 1) (a0-y5.1.toNat) a4:=fun w_ hw_=>(a3 w_ hw_).cutD (Cf .u8) aA
 refine rno 9 [.run [] (Instr.loadAt 23 (pb cb0)) (sv a1 y5.2.b a0),.run [] (Instr.sliceAt 23 (sv a1 y5.2.b a0) (some (iv y5.1)) none none) (.slice (Am a1 a0 y5.1.toNat 1) a4.length (a0-y5.1.toNat))] 9 [(4,.string (bst a2)),(28,.slice (Am a1 a0 y5.1.toNat 1) a4.length (a0-y5.1.toNat)),(30,pb cb0)] hF (A0 (ob1 kr (fun _ hd=>(hS.at_ hd).cell (i:=1) (j:=0) rfl rfl)) (A0 (M3 kr (a3 _ (hS.frz (i:=0) rfl hlow)) (fun _=>aA)) Aa)) fun a hF=>?_
 refine SK.wi (Ap (t:=23) [(4,.string (bst a2))] 1 0 (.slice (Am a1 a0 y5.1.toNat 1) a4.length (a0-y5.1.toNat)) #[.slice (Am a1 a0 y5.1.toNat 1) a4.length (a0-y5.1.toNat)] hF hS rfl kr ⟨kr⟩ kr kr kr kr ⟨kr⟩ fun w a hF hS=>?_)
 refine wfn rfl ?_
 refine esr ?_
 refine rn 2 2 [(2,.string (bst a2))] hF fun a hF=>?_
 refine wfn rfl ?_
 refine wpIn_ret (Ak [.tmp 2] [.string (bst a2)] hF rfl ⟨rfl,trivial⟩ ?_)
 have hr_:=Option.some.inj h
 subst hr_
 replace hS:=hS
 exact .inl ⟨_,_,rfl,rfl,ν7,(Am a1 a0 y5.1.toNat 1),(a0-y5.1.toNat),hext,hlow,rfl,aG,hS⟩
theorem Db (F:Nat) (p0:volume_reader) (res:Except (Value×volume_reader) (Int×volume_reader)) (h:Bq F p0=some res) (μ:Frz) (w0 w1:World) (T_:List Res) (hlow:Ba w0 μ) {cb0:Nat} {ad1:Option Addr} {cap2:Nat} (hA3:ArrM μ 1 (fK .u8) ad1 cap2 p0.b) (hS:St w0 (fz w0 μ::blk cb0 98 #[sv ad1 p0.b cap2]::T_) w1):Mx Try.prog 48 #[pb cb0] w1 res (fun r_ e w=>∃(ν_:Frz) (a3:Option Addr) (a6:Nat),μ.ext w0.heap.size ν_∧Ba w0 ν_∧e=(iv r_.1)∧(ArrM ν_ 1 (fK .u8) a3 a6 r_.2.b)∧St w0 (fz w0 ν_::blk cb0 98 #[sv a3 r_.2.b a6]::T_) w) (fun e_ w=>∃(ν_:Frz) (a4:Option Addr) (a7:Nat),μ.ext w0.heap.size ν_∧Ba w0 ν_∧(ArrM ν_ 1 (fK .u8) a4 a7 e_.b)∧St w0 (fz w0 ν_::blk cb0 98 #[sv a4 e_.b a7]::T_) w):=by
 rw [Bq] at h
 have hext:=Frz.ext_refl w0.heap.size μ
 refine Aq Try.func48 rfl 15 [(0,pb cb0)] rfl rfl kr fun a w hw hF=>?_
 replace hS:=hS.cast hw
 clear hw
 refine esr ?_
 refine rn 1 1 [(0,pb cb0)] hF fun a hF=>?_
 refine wfn rfl ?_
 refine esr ?_
 refine rn 1 1 [(4,pb cb0)] hF fun a hF=>?_
 replace h:=A4 h
 obtain ⟨y4,hy4,h⟩:=h
 refine Dv (fun v9=>[(5,v9)]) hF kr ⟨kr⟩ (Aj F _ _ hy4 μ w0 w _ hlow hA3 hS) (fun _=>⟨kr⟩) ?_ ?_
 ·rintro e6 w he_ ⟨ν13,aC,aD,a9,hlow,aE,hS⟩
  replace h:=G3 h he_
  replace hext:=Frz.ext_trans hext a9
  replace hA3:=hA3.mono a9.1
  refine A6<|B1 hF ?_
  have hr_:=Option.some.inj h
  subst hr_
  replace hS:=hS
  exact .inr ⟨_,rfl,rfl,ν13,aC,aD,hext,hlow,aE,hS⟩
 rintro y5 v9 w a he_ ⟨ν7,a2,a5,hx8,hlow,rfl,a8,hS⟩ hF
 replace h:=G4 h he_
 replace hext:=Frz.ext_trans hext hx8
 replace hA3:=hA3.mono hx8.1
 refine rn 1 3 [(3,iv y5.1)] hF fun a hF=>?_
 refine wfn rfl ?_
 refine B0 ?_
 refine esr ?_
 replace h:=A4 h
 obtain ⟨aA,aF,h⟩:=h
 refine rno 3 [.run [] (binOp .rem 3 (iv y5.1) (iv 2)) (iv aA)] 3 [(3,iv y5.1),(8,.bool (aA==1))] hF (A0 (Jj (fun _=>aF)) Aa) fun a hF=>?_
 refine wfn rfl ?_
 refine As hF rfl (fun hc=>?_) (fun hc=>?_)
 ·replace h:=Ao h hc
  refine esr ?_
  replace h:=A4 h
  obtain ⟨aB,aG,h⟩:=h
  replace h:=A4 h
  obtain ⟨a0,aH,h⟩:=h
  refine rno 5 [.run [] (binOp .add 3 (iv y5.1) (iv 1)) (iv aB),.run [] (binOp .quo 3 (iv (IntKind.i64.wrap (0-aB))) (iv 2)) (iv a0)] 5 [(2,iv a0)] hF (A0 (Aw (fun _=>aG)) (A0 (R5 (fun _=>aH)) Aa)) fun a hF=>?_
  refine wfn rfl ?_
  refine wpIn_ret (Ab<|Ak [.tmp 2] [iv a0] hF rfl ⟨rfl,trivial⟩ ?_)
  have hr_:=Option.some.inj h
  subst hr_
  replace hS:=hS
  exact .inl ⟨_,_,rfl,rfl,ν7,a2,a5,hext,hlow,rfl,a8,hS⟩
 ·replace h:=An h hc
  refine wpIn_skip (A1 ?_)
  refine esr ?_
  replace h:=A4 h
  obtain ⟨a1,aI,h⟩:=h
  refine rno 3 [.run [] (binOp .quo 3 (iv y5.1) (iv 2)) (iv a1)] 3 [(2,iv a1)] hF (A0 (R5 (fun _=>aI)) Aa) fun a hF=>?_
  refine wfn rfl ?_
  refine wpIn_ret (Ak [.tmp 2] [iv a1] hF rfl ⟨rfl,trivial⟩ ?_)
  have hr_:=Option.some.inj h
  subst hr_
  replace hS:=hS
  exact .inl ⟨_,_,rfl,rfl,ν7,a2,a5,hext,hlow,rfl,a8,hS⟩
theorem K3 (F:Nat) (p0:(List volume_Item)) (p1:(List volume_Item)) (res:Bool) (h:Gz F p0 p1=some res) (μ:Frz) (w0:World) (hm:FrzAt μ w0) {ad1:Option Addr} {cap2:Nat} {css3:List (List Value)} {ad5:Option Addr} {cap6:Nat} {css7:List (List Value)} (hA4:ArrQ μ 21 Rp46 ad1 cap2 css3 p0) (hA8:ArrQ μ 21 Rp46 ad5 cap6 css7 p1):Calls Try.prog 11 #[sv ad1 p0 cap2,sv ad5 p1 cap6] w0 (fun e w=>e=.returned (.bool res)∧Ext w0 w):=by
 obtain ⟨hlow,hS⟩:=hm.init
 have hext:=Frz.ext_refl w0.heap.size μ
 rw [Gz] at h
 refine Aq Try.func11 rfl 27 [(0,sv ad1 p0 cap2),(1,sv ad5 p1 cap6)] rfl rfl kr fun a w hw hF=>?_
 replace hS:=hS.cast hw
 clear hw
 refine esr ?_
 refine rn 1 1 [(0,sv ad1 p0 cap2),(1,sv ad5 p1 cap6)] hF fun a hF=>?_
 refine wfn rfl ?_
 refine B0 ?_
 refine esr ?_
 refine rn 5 5 [(0,sv ad1 p0 cap2),(1,sv ad5 p1 cap6),(10,.bool ((ln p0) != (ln p1)))] hF fun a hF=>?_
 refine wfn rfl ?_
 refine As hF rfl (fun hc=>?_) (fun hc=>?_)
 ·replace h:=Ao h hc
  refine esr ?_
  refine rn 1 1 [(4,.bool false)] hF fun a hF=>?_
  refine wfn rfl ?_
  refine wpIn_ret (Ab<|Ak [.tmp 4] [.bool false] hF rfl ⟨rfl,trivial⟩ ?_)
  have hr_:=Option.some.inj h
  subst hr_
  exact ⟨rfl,hS.ext⟩
 ·replace h:=An h hc
  refine wpIn_skip (A1 ?_)
  refine Ei (fun a w=>Fr 27 [] [] a∧St w0 [fz w0 μ] w∧K2=some res) ?_ ?_
  ·skip
   refine esr ?_
   refine rn 1 1 [(0,sv ad1 p0 cap2),(1,sv ad5 p1 cap6),(5,iv 0)] hF fun a hF=>?_
   refine wfn rfl ?_
   refine wpIn_block ?_
   refine E4 (fun n_ a w=>∃(a2:Int),Fr 27 [] [(0,sv ad1 p0 cap2),(1,sv ad5 p1 cap6),(5,iv a2)] a∧St w0 [fz w0 μ] w∧Gs F p0 p1 n_ a2=some res) F ⟨0,hF.sub kr,St.pick [0] (by decide) hS,h⟩ ?_
   rintro nk2 a w ⟨a2,hF,hS,h⟩
   rcases nk2 with _|nk2
   ·cases (show (none:Option Bool)=some res from h)
   obtain ⟨k2,hk2⟩:∃k,k=Gs F p0 p1 nk2:=⟨_,rfl⟩
   replace h:K1 F p0 p1 k2 a2=some res:=by rw [hk2];exact h
   rw [K1] at h
   refine B0 ?_
   refine esr ?_
   refine rn 4 4 [(0,sv ad1 p0 cap2),(1,sv ad5 p1 cap6),(5,iv a2),(14,.bool (decide (a2<(ln p0))))] hF fun a hF=>?_
   refine wfn rfl ?_
   refine As hF rfl (fun hc=>?_) (fun hc=>?_)
   ·replace h:=Ao h hc
    refine wpIn_skip (A1 ?_)
    refine B0 ?_
    refine wpIn_block ?_
    refine B0 ?_
    replace h:=A4 h
    obtain ⟨a0,aL,h⟩:=h
    obtain ⟨aP,aC,aJ⟩:=Dn hA4.2 aL
    obtain ⟨a3,a7,aR,a4,a8,rfl,aF,aG⟩:=aJ
    replace h:=A4 h
    obtain ⟨a1,aM,h⟩:=h
    obtain ⟨aQ,aD,aK⟩:=Dn hA8.2 aM
    obtain ⟨a5,a9,aS,a6,aA,rfl,aH,aI⟩:=aK
    replace h:=A4 h
    obtain ⟨aE,aO,h⟩:=h
    refine Po (obs:=[.run [] (Instr.indexAt 24 (sv ad1 p0 cap2) (iv a2)) (.pointer (some (Ag ad1 a2 21))),.run [] (Instr.loadAt 46 (.pointer (some (Ag ad1 a2 21)))) (.agg #[iv a0.Kind,.string a0.Name,iv a0.Time,.string a0.Sweep.Site.Name,iv a0.Sweep.Site.X,iv a0.Sweep.Site.Y,iv a0.Sweep.Site.Z,iv a0.Sweep.Site.Rose,iv a0.Sweep.Site.Gates,iv a0.Sweep.Site.Step,iv a0.Sweep.Site.Width,iv a0.Sweep.Tilt,iv a0.Sweep.Time,sv a3 a0.Sweep.Rays a7,iv a0.Field.Grid.X,iv a0.Field.Grid.Y,iv a0.Field.Grid.Size,iv a0.Field.Grid.Wide,iv a0.Field.Grid.High,sv a4 a0.Field.Vals a8,.string a0.Text]),.run [] (Instr.indexAt 24 (sv ad5 p1 cap6) (iv a2)) (.pointer (some (Ag ad5 a2 21))),.run [] (Instr.loadAt 46 (.pointer (some (Ag ad5 a2 21)))) (.agg #[iv a1.Kind,.string a1.Name,iv a1.Time,.string a1.Sweep.Site.Name,iv a1.Sweep.Site.X,iv a1.Sweep.Site.Y,iv a1.Sweep.Site.Z,iv a1.Sweep.Site.Rose,iv a1.Sweep.Site.Gates,iv a1.Sweep.Site.Step,iv a1.Sweep.Site.Width,iv a1.Sweep.Tilt,iv a1.Sweep.Time,sv a5 a1.Sweep.Rays a9,iv a1.Field.Grid.X,iv a1.Field.Grid.Y,iv a1.Field.Grid.Size,iv a1.Field.Grid.Wide,iv a1.Field.Grid.High,sv a6 a1.Field.Vals aA,.string a1.Text]),.call [] 14 #[.agg #[iv a0.Kind,.string a0.Name,iv a0.Time,.string a0.Sweep.Site.Name,iv a0.Sweep.Site.X,iv a0.Sweep.Site.Y,iv a0.Sweep.Site.Z,iv a0.Sweep.Site.Rose,iv a0.Sweep.Site.Gates,iv a0.Sweep.Site.Step,iv a0.Sweep.Site.Width,iv a0.Sweep.Tilt,iv a0.Sweep.Time,sv a3 a0.Sweep.Rays a7,iv a0.Field.Grid.X,iv a0.Field.Grid.Y,iv a0.Field.Grid.Size,iv a0.Field.Grid.Wide,iv a0.Field.Grid.High,sv a4 a0.Field.Vals a8,.string a0.Text],.agg #[iv a1.Kind,.string a1.Name,iv a1.Time,.string a1.Sweep.Site.Name,iv a1.Sweep.Site.X,iv a1.Sweep.Site.Y,iv a1.Sweep.Site.Z,iv a1.Sweep.Site.Rose,iv a1.Sweep.Site.Gates,iv a1.Sweep.Site.Step,iv a1.Sweep.Site.Width,iv a1.Sweep.Tilt,iv a1.Sweep.Time,sv a5 a1.Sweep.Rays a9,iv a1.Field.Grid.X,iv a1.Field.Grid.Y,iv a1.Field.Grid.Size,iv a1.Field.Grid.Wide,iv a1.Field.Grid.High,sv a6 a1.Field.Vals aA,.string a1.Text]] (.bool aE)]) 10 [(0,sv ad1 p0 cap2),(1,sv ad5 p1 cap6),(5,iv a2),(26,.bool (!aE))] kr hF kr (A0 (Bc (hA4.at (hS.frz (i:=0) rfl hlow)) kr (fun _=>aC)) (A0 (Ft (m:=21) (i:=a2) (us:=[iv a0.Kind,.string a0.Name,iv a0.Time,.string a0.Sweep.Site.Name,iv a0.Sweep.Site.X,iv a0.Sweep.Site.Y,iv a0.Sweep.Site.Z,iv a0.Sweep.Site.Rose,iv a0.Sweep.Site.Gates,iv a0.Sweep.Site.Step,iv a0.Sweep.Site.Width,iv a0.Sweep.Tilt,iv a0.Sweep.Time,sv a3 a0.Sweep.Rays a7,iv a0.Field.Grid.X,iv a0.Field.Grid.Y,iv a0.Field.Grid.Size,iv a0.Field.Grid.Wide,iv a0.Field.Grid.High,sv a4 a0.Field.Vals a8,.string a0.Text]) 0 (Dp 21) (fun _ hd=>(hA4.at ((hS.later hd).frz (i:=0) rfl hlow))) kr (fun _=>aC) ⟨rfl,rfl⟩) (A0 (Bc (hA8.at (hS.frz (i:=0) rfl hlow)) kr (fun _=>aD)) (A0 (Ft (m:=21) (i:=a2) (us:=[iv a1.Kind,.string a1.Name,iv a1.Time,.string a1.Sweep.Site.Name,iv a1.Sweep.Site.X,iv a1.Sweep.Site.Y,iv a1.Sweep.Site.Z,iv a1.Sweep.Site.Rose,iv a1.Sweep.Site.Gates,iv a1.Sweep.Site.Step,iv a1.Sweep.Site.Width,iv a1.Sweep.Tilt,iv a1.Sweep.Time,sv a5 a1.Sweep.Rays a9,iv a1.Field.Grid.X,iv a1.Field.Grid.Y,iv a1.Field.Grid.Size,iv a1.Field.Grid.Wide,iv a1.Field.Grid.High,sv a6 a1.Field.Vals aA,.string a1.Text]) 0 (Dp 21) (fun _ hd=>(hA8.at ((hS.later hd).frz (i:=0) rfl hlow))) kr (fun _=>aD) ⟨rfl,rfl⟩) (A0 (show Ob.ok _ Ext _ _ from fun hk w2 hd=>L1 F a0 a1 _ ((fun _=>aO) hk) _ w2 (A7 w2) (aF.mono Rp83.mono (FrzAt.le_mem ((hS.later hd).frz (i:=0) rfl hlow))) (aG.mono (FrzAt.le_mem ((hS.later hd).frz (i:=0) rfl hlow))) (aH.mono Rp83.mono (FrzAt.le_mem ((hS.later hd).frz (i:=0) rfl hlow))) (aI.mono (FrzAt.le_mem ((hS.later hd).frz (i:=0) rfl hlow)))) Aa))))) ⟨kr⟩ fun a w hF hx=>?_
    replace hS:=hS.later hx
    refine wfn rfl ?_
    refine As hF rfl (fun hc=>?_) (fun hc=>?_)
    ·replace h:=Ao h hc
     refine esr ?_
     refine rn 1 1 [(4,.bool false)] hF fun a hF=>?_
     refine wfn rfl ?_
     refine wpIn_ret (Ar<|Ab<|Ab<|Ar<|Ab<|Ak [.tmp 4] [.bool false] hF rfl ⟨rfl,trivial⟩ ?_)
     have hr_:=Option.some.inj h
     subst hr_
     exact ⟨rfl,hS.ext⟩
    ·replace h:=An h hc
     refine wpIn_skip (Ac<|A1<|?_)
     refine WI.region ?_
     replace h:=A4 h
     obtain ⟨aB,aN,h⟩:=h
     refine rno 3 [.run [] (binOp .add 3 (iv a2) (iv 1)) (iv aB)] 3 [(0,sv ad1 p0 cap2),(1,sv ad5 p1 cap6),(5,iv aB)] hF (A0 (Aw (fun _=>aN)) Aa) fun a hF=>?_
     refine wfn rfl ?_
     rw [hk2] at h
     exact ⟨nk2,Nat.lt_succ_self _,aB,hF.sub kr,St.pick [0] (by decide) hS,h⟩
   ·replace h:=An h hc
    refine wpIn_exit (Ad<|Ad<|Bb<|A1 ?_)
    exact ⟨hF.sub kr,St.pick [0] (by decide) hS,h⟩
  rintro a w ⟨hF,hS,h⟩
  rw [K2] at h
  refine esr ?_
  refine rn 1 1 [(4,.bool true)] hF fun a hF=>?_
  refine wfn rfl ?_
  refine wpIn_ret (Ak [.tmp 4] [.bool true] hF rfl ⟨rfl,trivial⟩ ?_)
  have hr_:=Option.some.inj h
  subst hr_
  exact ⟨rfl,hS.ext⟩
theorem Sh (F:Nat) (p0:(List volume_Item)) (p1:(List volume_Item)) (res:Bool) (h:L7 F p0 p1=some res) (μ:Frz) (w0:World) (hm:FrzAt μ w0) {ad1:Option Addr} {cap2:Nat} {css3:List (List Value)} {ad5:Option Addr} {cap6:Nat} {css7:List (List Value)} (hA4:ArrQ μ 21 Rp46 ad1 cap2 css3 p0) (hA8:ArrQ μ 21 Rp46 ad5 cap6 css7 p1):Calls Try.prog 17 #[sv ad1 p0 cap2,sv ad5 p1 cap6] w0 (fun e w=>e=.returned (.bool res)∧Ext w0 w):=by
 obtain ⟨hlow,hS⟩:=hm.init
 have hext:=Frz.ext_refl w0.heap.size μ
 rw [L7] at h
 refine Aq Try.func17 rfl 33 [(0,sv ad1 p0 cap2),(1,sv ad5 p1 cap6)] rfl rfl kr fun a w hw hF=>?_
 replace hS:=hS.cast hw
 clear hw
 refine esr ?_
 refine rn 1 1 [(0,sv ad1 p0 cap2),(1,sv ad5 p1 cap6)] hF fun a hF=>?_
 refine wfn rfl ?_
 refine esr ?_
 refine rn 1 1 [(0,sv ad1 p0 cap2),(1,sv ad5 p1 cap6),(5,iv 0)] hF fun a hF=>?_
 refine wfn rfl ?_
 refine Ei (fun a w=>∃(aA:Int),Fr 33 [] [(0,sv ad1 p0 cap2),(5,iv aA)] a∧St w0 [fz w0 μ] w∧Jx p0 aA=some res) ?_ ?_
 ·skip
  refine esr ?_
  refine rn 3 3 [(0,sv ad1 p0 cap2),(5,iv 0),(8,sv ad5 p1 cap6),(9,iv (ln p1)),(10,iv 0)] hF fun a hF=>?_
  refine wfn rfl ?_
  refine wpIn_block ?_
  refine E4 (fun n_ a w=>∃(a3:Int) (a2:Int),Fr 33 [] [(0,sv ad1 p0 cap2),(5,iv a2),(8,sv ad5 p1 cap6),(9,iv (ln p1)),(10,iv a3)] a∧St w0 [fz w0 μ] w∧Gq F p0 p1 n_ a3 a2=some res) F ⟨0,0,hF.sub kr,St.pick [0] (by decide) hS,h⟩ ?_
  rintro nk2 a w ⟨a3,a2,hF,hS,h⟩
  rcases nk2 with _|nk2
  ·cases (show (none:Option Bool)=some res from h)
  obtain ⟨k2,hk2⟩:∃k,k=Gq F p0 p1 nk2:=⟨_,rfl⟩
  replace h:Jw F p0 p1 k2 a3 a2=some res:=by rw [hk2];exact h
  rw [Jw] at h
  refine esr ?_
  refine rn 1 1 [(0,sv ad1 p0 cap2),(5,iv a2),(8,sv ad5 p1 cap6),(9,iv (ln p1)),(10,iv a3),(11,.bool (decide (a3<(ln p1))))] hF fun a hF=>?_
  refine wfn rfl ?_
  refine B0 ?_
  refine As hF rfl (fun hc=>?_) (fun hc=>?_)
  ·replace h:=Ao h hc
   refine wpIn_skip (A1 ?_)
   refine Ei (fun a w=>∃(aB:Int),Fr 33 [] [(0,sv ad1 p0 cap2),(5,iv aB),(8,sv ad5 p1 cap6),(9,iv (ln p1)),(10,iv a3)] a∧St w0 [fz w0 μ] w∧E9 a3 k2 aB=some res) ?_ ?_
   ·skip
    refine wpIn_block ?_
    refine esr ?_
    replace h:=A4 h
    obtain ⟨a0,aS,h⟩:=h
    obtain ⟨aY,aJ,aQ⟩:=Dn hA8.2 aS
    obtain ⟨a4,a6,b0,a5,a7,rfl,aM,aN⟩:=aQ
    refine rno 2 [.run [] (Instr.indexAt 24 (sv ad5 p1 cap6) (iv a3)) (.pointer (some (Ag ad5 a3 21))),.run [] (Instr.loadAt 46 (.pointer (some (Ag ad5 a3 21)))) (.agg #[iv a0.Kind,.string a0.Name,iv a0.Time,.string a0.Sweep.Site.Name,iv a0.Sweep.Site.X,iv a0.Sweep.Site.Y,iv a0.Sweep.Site.Z,iv a0.Sweep.Site.Rose,iv a0.Sweep.Site.Gates,iv a0.Sweep.Site.Step,iv a0.Sweep.Site.Width,iv a0.Sweep.Tilt,iv a0.Sweep.Time,sv a4 a0.Sweep.Rays a6,iv a0.Field.Grid.X,iv a0.Field.Grid.Y,iv a0.Field.Grid.Size,iv a0.Field.Grid.Wide,iv a0.Field.Grid.High,sv a5 a0.Field.Vals a7,.string a0.Text])] 2 [(0,sv ad1 p0 cap2),(5,iv a2),(8,sv ad5 p1 cap6),(9,iv (ln p1)),(10,iv a3),(13,.agg #[iv a0.Kind,.string a0.Name,iv a0.Time,.string a0.Sweep.Site.Name,iv a0.Sweep.Site.X,iv a0.Sweep.Site.Y,iv a0.Sweep.Site.Z,iv a0.Sweep.Site.Rose,iv a0.Sweep.Site.Gates,iv a0.Sweep.Site.Step,iv a0.Sweep.Site.Width,iv a0.Sweep.Tilt,iv a0.Sweep.Time,sv a4 a0.Sweep.Rays a6,iv a0.Field.Grid.X,iv a0.Field.Grid.Y,iv a0.Field.Grid.Size,iv a0.Field.Grid.Wide,iv a0.Field.Grid.High,sv a5 a0.Field.Vals a7,.string a0.Text])] hF (A0 (Bc (hA8.at (hS.frz (i:=0) rfl hlow)) kr (fun _=>aJ)) (A0 (Ft (m:=21) (i:=a3) (us:=[iv a0.Kind,.string a0.Name,iv a0.Time,.string a0.Sweep.Site.Name,iv a0.Sweep.Site.X,iv a0.Sweep.Site.Y,iv a0.Sweep.Site.Z,iv a0.Sweep.Site.Rose,iv a0.Sweep.Site.Gates,iv a0.Sweep.Site.Step,iv a0.Sweep.Site.Width,iv a0.Sweep.Tilt,iv a0.Sweep.Time,sv a4 a0.Sweep.Rays a6,iv a0.Field.Grid.X,iv a0.Field.Grid.Y,iv a0.Field.Grid.Size,iv a0.Field.Grid.Wide,iv a0.Field.Grid.High,sv a5 a0.Field.Vals a7,.string a0.Text]) 0 (Dp 21) (fun _ hd=>(hA8.at ((hS.at_ hd).frz (i:=0) rfl hlow))) kr (fun _=>aJ) ⟨rfl,rfl⟩) Aa)) fun a hF=>?_
    refine SK.wi (Bs (t:=46) (fun a9=>[(0,sv ad1 p0 cap2),(5,iv a2),(7,pb a9),(8,sv ad5 p1 cap6),(9,iv (ln p1)),(10,iv a3),(13,.agg #[iv a0.Kind,.string a0.Name,iv a0.Time,.string a0.Sweep.Site.Name,iv a0.Sweep.Site.X,iv a0.Sweep.Site.Y,iv a0.Sweep.Site.Z,iv a0.Sweep.Site.Rose,iv a0.Sweep.Site.Gates,iv a0.Sweep.Site.Step,iv a0.Sweep.Site.Width,iv a0.Sweep.Tilt,iv a0.Sweep.Time,sv a4 a0.Sweep.Rays a6,iv a0.Field.Grid.X,iv a0.Field.Grid.Y,iv a0.Field.Grid.Size,iv a0.Field.Grid.Wide,iv a0.Field.Grid.High,sv a5 a0.Field.Vals a7,.string a0.Text])]) #[iv 0,.string ByteArray.empty,iv 0,.string ByteArray.empty,iv 0,iv 0,iv 0,iv 0,iv 0,iv 0,iv 0,iv 0,iv 0,.slice none 0 0,iv 0,iv 0,iv 0,iv 0,iv 0,.slice none 0 0,.string ByteArray.empty] hF hS kr ⟨kr⟩ kr (fun _=>⟨kr⟩) fun a9 w a hF hS=>?_)
    refine SK.wi (Ap (t:=46) [(0,sv ad1 p0 cap2),(5,iv a2),(7,pb a9),(8,sv ad5 p1 cap6),(9,iv (ln p1)),(10,iv a3)] 0 0 (.agg #[iv a0.Kind,.string a0.Name,iv a0.Time,.string a0.Sweep.Site.Name,iv a0.Sweep.Site.X,iv a0.Sweep.Site.Y,iv a0.Sweep.Site.Z,iv a0.Sweep.Site.Rose,iv a0.Sweep.Site.Gates,iv a0.Sweep.Site.Step,iv a0.Sweep.Site.Width,iv a0.Sweep.Tilt,iv a0.Sweep.Time,sv a4 a0.Sweep.Rays a6,iv a0.Field.Grid.X,iv a0.Field.Grid.Y,iv a0.Field.Grid.Size,iv a0.Field.Grid.Wide,iv a0.Field.Grid.High,sv a5 a0.Field.Vals a7,.string a0.Text]) #[iv a0.Kind,.string a0.Name,iv a0.Time,.string a0.Sweep.Site.Name,iv a0.Sweep.Site.X,iv a0.Sweep.Site.Y,iv a0.Sweep.Site.Z,iv a0.Sweep.Site.Rose,iv a0.Sweep.Site.Gates,iv a0.Sweep.Site.Step,iv a0.Sweep.Site.Width,iv a0.Sweep.Tilt,iv a0.Sweep.Time,sv a4 a0.Sweep.Rays a6,iv a0.Field.Grid.X,iv a0.Field.Grid.Y,iv a0.Field.Grid.Size,iv a0.Field.Grid.Wide,iv a0.Field.Grid.High,sv a5 a0.Field.Vals a7,.string a0.Text] hF hS rfl kr ⟨kr⟩ kr kr kr kr ⟨kr⟩ fun w a hF hS=>?_)
    refine wfn rfl ?_
    refine B0 ?_
    rcases Bool.eq_false_or_eq_true ((decide (a2<(ln p0)))) with a8|a8
    ·replace h:=Ao h a8
     replace h:=A4 h
     obtain ⟨a1,aT,h⟩:=h
     obtain ⟨aZ,aK,aR⟩:=Dn hA4.2 aT
     obtain ⟨aC,aE,b1,aD,aF,rfl,aO,aP⟩:=aR
     replace h:=A4 h
     obtain ⟨aL,aX,h⟩:=h
     refine Po (obs:=[.run [⟨18,true,(decide (a2<(ln p0)))⟩] (Instr.indexAt 24 (sv ad1 p0 cap2) (iv a2)) (.pointer (some (Ag ad1 a2 21))),.run [⟨18,true,(decide (a2<(ln p0)))⟩] (Instr.loadAt 46 (.pointer (some (Ag ad1 a2 21)))) (.agg #[iv a1.Kind,.string a1.Name,iv a1.Time,.string a1.Sweep.Site.Name,iv a1.Sweep.Site.X,iv a1.Sweep.Site.Y,iv a1.Sweep.Site.Z,iv a1.Sweep.Site.Rose,iv a1.Sweep.Site.Gates,iv a1.Sweep.Site.Step,iv a1.Sweep.Site.Width,iv a1.Sweep.Tilt,iv a1.Sweep.Time,sv aC a1.Sweep.Rays aE,iv a1.Field.Grid.X,iv a1.Field.Grid.Y,iv a1.Field.Grid.Size,iv a1.Field.Grid.Wide,iv a1.Field.Grid.High,sv aD a1.Field.Vals aF,.string a1.Text]),.run [⟨18,true,(decide (a2<(ln p0)))⟩] (Instr.loadAt 46 (pb a9)) (.agg #[iv a0.Kind,.string a0.Name,iv a0.Time,.string a0.Sweep.Site.Name,iv a0.Sweep.Site.X,iv a0.Sweep.Site.Y,iv a0.Sweep.Site.Z,iv a0.Sweep.Site.Rose,iv a0.Sweep.Site.Gates,iv a0.Sweep.Site.Step,iv a0.Sweep.Site.Width,iv a0.Sweep.Tilt,iv a0.Sweep.Time,sv a4 a0.Sweep.Rays a6,iv a0.Field.Grid.X,iv a0.Field.Grid.Y,iv a0.Field.Grid.Size,iv a0.Field.Grid.Wide,iv a0.Field.Grid.High,sv a5 a0.Field.Vals a7,.string a0.Text]),.call [⟨18,true,(decide (a2<(ln p0)))⟩] 14 #[.agg #[iv a1.Kind,.string a1.Name,iv a1.Time,.string a1.Sweep.Site.Name,iv a1.Sweep.Site.X,iv a1.Sweep.Site.Y,iv a1.Sweep.Site.Z,iv a1.Sweep.Site.Rose,iv a1.Sweep.Site.Gates,iv a1.Sweep.Site.Step,iv a1.Sweep.Site.Width,iv a1.Sweep.Tilt,iv a1.Sweep.Time,sv aC a1.Sweep.Rays aE,iv a1.Field.Grid.X,iv a1.Field.Grid.Y,iv a1.Field.Grid.Size,iv a1.Field.Grid.Wide,iv a1.Field.Grid.High,sv aD a1.Field.Vals aF,.string a1.Text],.agg #[iv a0.Kind,.string a0.Name,iv a0.Time,.string a0.Sweep.Site.Name,iv a0.Sweep.Site.X,iv a0.Sweep.Site.Y,iv a0.Sweep.Site.Z,iv a0.Sweep.Site.Rose,iv a0.Sweep.Site.Gates,iv a0.Sweep.Site.Step,iv a0.Sweep.Site.Width,iv a0.Sweep.Tilt,iv a0.Sweep.Time,sv a4 a0.Sweep.Rays a6,iv a0.Field.Grid.X,iv a0.Field.Grid.Y,iv a0.Field.Grid.Size,iv a0.Field.Grid.Wide,iv a0.Field.Grid.High,sv a5 a0.Field.Vals a7,.string a0.Text]] (.bool aL)]) 12 [(0,sv ad1 p0 cap2),(5,iv a2),(8,sv ad5 p1 cap6),(9,iv (ln p1)),(10,iv a3),(25,.bool (bif (decide (a2<(ln p0))) then aL else false))] kr hF kr (A0 (Bc (hA4.at (hS.frz (i:=1) rfl hlow)) kr (fun _=>aK)) (A0 (Ft (m:=21) (i:=a2) (us:=[iv a1.Kind,.string a1.Name,iv a1.Time,.string a1.Sweep.Site.Name,iv a1.Sweep.Site.X,iv a1.Sweep.Site.Y,iv a1.Sweep.Site.Z,iv a1.Sweep.Site.Rose,iv a1.Sweep.Site.Gates,iv a1.Sweep.Site.Step,iv a1.Sweep.Site.Width,iv a1.Sweep.Tilt,iv a1.Sweep.Time,sv aC a1.Sweep.Rays aE,iv a1.Field.Grid.X,iv a1.Field.Grid.Y,iv a1.Field.Grid.Size,iv a1.Field.Grid.Wide,iv a1.Field.Grid.High,sv aD a1.Field.Vals aF,.string a1.Text]) 0 (Dp 21) (fun _ hd=>(hA4.at ((hS.later hd).frz (i:=1) rfl hlow))) kr (fun _=>aK) ⟨rfl,rfl⟩) (A0 (obN (us:=[iv a0.Kind,.string a0.Name,iv a0.Time,.string a0.Sweep.Site.Name,iv a0.Sweep.Site.X,iv a0.Sweep.Site.Y,iv a0.Sweep.Site.Z,iv a0.Sweep.Site.Rose,iv a0.Sweep.Site.Gates,iv a0.Sweep.Site.Step,iv a0.Sweep.Site.Width,iv a0.Sweep.Tilt,iv a0.Sweep.Time,sv a4 a0.Sweep.Rays a6,iv a0.Field.Grid.X,iv a0.Field.Grid.Y,iv a0.Field.Grid.Size,iv a0.Field.Grid.Wide,iv a0.Field.Grid.High,sv a5 a0.Field.Vals a7,.string a0.Text]) kr (fun _ hd=>((hS.later hd).blk (i:=0) rfl).cells rfl)) (A0 (show Ob.ok _ Ext _ _ from fun hk w2 hd=>L1 F a1 a0 _ ((fun _=>aX) hk) _ w2 (A7 w2) (aO.mono Rp83.mono (FrzAt.le_mem ((hS.later hd).frz (i:=1) rfl hlow))) (aP.mono (FrzAt.le_mem ((hS.later hd).frz (i:=1) rfl hlow))) (aM.mono Rp83.mono (FrzAt.le_mem ((hS.later hd).frz (i:=1) rfl hlow))) (aN.mono (FrzAt.le_mem ((hS.later hd).frz (i:=1) rfl hlow)))) Aa)))) ⟨kr⟩ fun a w hF hx=>?_
     replace hS:=hS.later hx
     refine wfn rfl ?_
     refine As hF rfl (fun hc=>?_) (fun hc=>?_)
     ·replace h:=Ao h hc
      refine WI.region ?_
      replace h:=A4 h
      obtain ⟨aH,aV,h⟩:=h
      refine rno 3 [.run [] (binOp .add 3 (iv a2) (iv 1)) (iv aH)] 3 [(0,sv ad1 p0 cap2),(5,iv aH),(8,sv ad5 p1 cap6),(9,iv (ln p1)),(10,iv a3)] hF (A0 (Aw (fun _=>aV)) Aa) fun a hF=>?_
      refine WI.fin rfl (Ac<|A1<|?_)
      exact ⟨aH,hF.sub kr,St.pick [1] (by decide) hS,h⟩
     ·replace h:=An h hc
      refine wpIn_skip (Ac<|A1<|?_)
      exact ⟨a2,hF.sub kr,St.pick [1] (by decide) hS,h⟩
    ·replace h:=An h a8
     refine Po (obs:=[.run [⟨18,true,(decide (a2<(ln p0)))⟩] (Instr.indexAt 24 (sv ad1 p0 cap2) (iv a2)) (pb 0),.run [⟨18,true,(decide (a2<(ln p0)))⟩] (Instr.loadAt 46 (pb 0)) (.agg #[iv 0,.string ByteArray.empty,iv 0,.string ByteArray.empty,iv 0,iv 0,iv 0,iv 0,iv 0,iv 0,iv 0,iv 0,iv 0,.slice none 0 0,iv 0,iv 0,iv 0,iv 0,iv 0,.slice none 0 0,.string ByteArray.empty]),.run [⟨18,true,(decide (a2<(ln p0)))⟩] (Instr.loadAt 46 (pb a9)) (.agg #[iv 0,.string ByteArray.empty,iv 0,.string ByteArray.empty,iv 0,iv 0,iv 0,iv 0,iv 0,iv 0,iv 0,iv 0,iv 0,.slice none 0 0,iv 0,iv 0,iv 0,iv 0,iv 0,.slice none 0 0,.string ByteArray.empty]),.call [⟨18,true,(decide (a2<(ln p0)))⟩] 14 #[.agg #[iv 0,.string ByteArray.empty,iv 0,.string ByteArray.empty,iv 0,iv 0,iv 0,iv 0,iv 0,iv 0,iv 0,iv 0,iv 0,.slice none 0 0,iv 0,iv 0,iv 0,iv 0,iv 0,.slice none 0 0,.string ByteArray.empty],.agg #[iv 0,.string ByteArray.empty,iv 0,.string ByteArray.empty,iv 0,iv 0,iv 0,iv 0,iv 0,iv 0,iv 0,iv 0,iv 0,.slice none 0 0,iv 0,iv 0,iv 0,iv 0,iv 0,.slice none 0 0,.string ByteArray.empty]] (.bool false)]) 12 [(0,sv ad1 p0 cap2),(5,iv a2),(8,sv ad5 p1 cap6),(9,iv (ln p1)),(10,iv a3),(25,.bool (bif (decide (a2<(ln p0))) then false else false))] kr hF kr (A0 (Xc (L6 (i:=0) (c:=⟨18,true,(decide (a2<(ln p0)))⟩) rfl (show ((decide (a2<(ln p0)))==true)=false by rw [a8];rfl))) (A0 (Xc (L6 (i:=0) (c:=⟨18,true,(decide (a2<(ln p0)))⟩) rfl (show ((decide (a2<(ln p0)))==true)=false by rw [a8];rfl))) (A0 (Xc (L6 (i:=0) (c:=⟨18,true,(decide (a2<(ln p0)))⟩) rfl (show ((decide (a2<(ln p0)))==true)=false by rw [a8];rfl))) (A0 (A0m (L6 (i:=0) (c:=⟨18,true,(decide (a2<(ln p0)))⟩) rfl (show ((decide (a2<(ln p0)))==true)=false by rw [a8];rfl))) Aa)))) ⟨kr⟩ fun a w hF hx=>?_
     replace hS:=hS.later hx
     refine wfn rfl ?_
     refine As hF rfl (fun hc=>?_) (fun hc=>?_)
     ·replace h:=Ao h hc
      refine WI.region ?_
      replace h:=A4 h
      obtain ⟨aI,aW,h⟩:=h
      refine rno 3 [.run [] (binOp .add 3 (iv a2) (iv 1)) (iv aI)] 3 [(0,sv ad1 p0 cap2),(5,iv aI),(8,sv ad5 p1 cap6),(9,iv (ln p1)),(10,iv a3)] hF (A0 (Aw (fun _=>aW)) Aa) fun a hF=>?_
      refine WI.fin rfl (Ac<|A1<|?_)
      exact ⟨aI,hF.sub kr,St.pick [1] (by decide) hS,h⟩
     ·replace h:=An h hc
      refine wpIn_skip (Ac<|A1<|?_)
      exact ⟨a2,hF.sub kr,St.pick [1] (by decide) hS,h⟩
   rintro a w ⟨aB,hF,hS,h⟩
   rw [E9] at h
   refine WI.region ?_
   replace h:=A4 h
   obtain ⟨aG,aU,h⟩:=h
   refine rno 2 [.run [] (binOp .add 3 (iv a3) (iv 1)) (iv aG)] 2 [(0,sv ad1 p0 cap2),(5,iv aB),(8,sv ad5 p1 cap6),(9,iv (ln p1)),(10,iv aG)] hF (A0 (Aw (fun _=>aU)) Aa) fun a hF=>?_
   refine wfn rfl ?_
   rw [hk2] at h
   exact ⟨nk2,Nat.lt_succ_self _,aG,aB,hF.sub kr,St.pick [0] (by decide) hS,h⟩
  ·replace h:=An h hc
   refine wpIn_exit (Ad<|Ad<|Bb<|A1 ?_)
   exact ⟨a2,hF.sub kr,St.pick [0] (by decide) hS,h⟩
 rintro a w ⟨aA,hF,hS,h⟩
 rw [Jx] at h
 refine esr ?_
 refine rn 5 5 [(4,.bool (aA==(ln p0)))] hF fun a hF=>?_
 refine wfn rfl ?_
 refine wpIn_ret (Ak [.tmp 4] [.bool (aA==(ln p0))] hF rfl ⟨rfl,trivial⟩ ?_)
 have hr_:=Option.some.inj h
 subst hr_
 exact ⟨rfl,hS.ext⟩
end Go.Proofs.Ytifbomimeodibaa
