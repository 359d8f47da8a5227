import Derived.Test.YtifbomimeodibaaV4XD
import Derived.Test.YtifbomimeodibaaProg
import Derived.Test.YtifbomimeodibaaV4XW0
import Derived.Test.YtifbomimeodibaaV4XW1
import Derived.Test.YtifbomimeodibaaV4XW2
import Derived.Test.YtifbomimeodibaaV4XW3
namespace Go.Proofs.Ytifbomimeodibaa
open Go Go.RowKit Go.Eng
set_option maxRecDepth 10000
set_option maxHeartbeats 4000000
set_option linter.unusedVariables false
set_option linter.unusedSimpArgs false
theorem Pl (F:Nat) (p0:law12_Thing) (p1:Int) (res:api_Echo) (h:Fk F p0 p1=some res) (μ:Frz) (w0:World) (hm:FrzAt μ w0) {ad1:Option Addr} {cap2:Nat} (hA3:ArrM μ 1 (fK .i16) ad1 cap2 p0.Numbers):Calls Try.prog 32 #[.agg #[.int .u8 p0.Kind,.int .u32 p0.Time,.int .u8 p0.Sides.1,.int .u8 p0.Sides.2.1,.int .u8 p0.Sides.2.2,sv ad1 p0.Numbers cap2],iv p1] w0 (fun e w=>e=.returned (res.ag)∧Ext w0 w):=by
 obtain ⟨hlow,hS⟩:=hm.init
 have hext:=Frz.ext_refl w0.heap.size μ
 rw [Fk] at h
 refine Aq Try.func32 rfl 67 [(0,.agg #[.int .u8 p0.Kind,.int .u32 p0.Time,.int .u8 p0.Sides.1,.int .u8 p0.Sides.2.1,.int .u8 p0.Sides.2.2,sv ad1 p0.Numbers cap2]),(1,iv p1)] rfl rfl kr fun a w hw hF=>?_
 replace hS:=hS.cast hw
 clear hw
 refine esr ?_
 refine SK.wi (H4 (t:=58) (fun b4=>[(1,iv p1),(2,pb b4)]) (.agg #[.int .u8 p0.Kind,.int .u32 p0.Time,.int .u8 p0.Sides.1,.int .u8 p0.Sides.2.1,.int .u8 p0.Sides.2.2,sv ad1 p0.Numbers cap2]) #[.int .u8 p0.Kind,.int .u32 p0.Time,.int .u8 p0.Sides.1,.int .u8 p0.Sides.2.1,.int .u8 p0.Sides.2.2,sv ad1 p0.Numbers cap2] hF hS kr ⟨kr⟩ kr (fun _=>⟨kr⟩) fun b4 w a hF hS=>?_)
 refine SK.wi (Bs (t:=88) (fun b5=>[(1,iv p1),(2,pb b4),(4,pb b5)]) #[iv 0,iv 0,iv 0,iv 0,iv 0,iv 0,iv 0,iv 0,iv 0,iv 0,iv 0,iv 0,iv 0,iv 0] hF hS kr ⟨kr⟩ kr (fun _=>⟨kr⟩) fun b5 w a hF hS=>?_)
 refine wfn rfl ?_
 refine B0 ?_
 refine esr ?_
 replace h:=A4 h
 obtain ⟨y6,hy6,h⟩:=h
 refine rx 3 [.run [] (Instr.loadAt 58 (pb b4)) (.agg #[.int .u8 p0.Kind,.int .u32 p0.Time,.int .u8 p0.Sides.1,.int .u8 p0.Sides.2.1,.int .u8 p0.Sides.2.2,sv ad1 p0.Numbers cap2]),.call [] 31 #[.agg #[.int .u8 p0.Kind,.int .u32 p0.Time,.int .u8 p0.Sides.1,.int .u8 p0.Sides.2.1,.int .u8 p0.Sides.2.2,sv ad1 p0.Numbers cap2],iv p1,iv 4] (iv y6)] 3 [(1,iv p1),(2,pb b4),(4,pb b5),(7,iv y6)] hF (A0 (obN (us:=[.int .u8 p0.Kind,.int .u32 p0.Time,.int .u8 p0.Sides.1,.int .u8 p0.Sides.2.1,.int .u8 p0.Sides.2.2,sv ad1 p0.Numbers cap2]) kr (fun _ hd=>((hS.later hd).blk (i:=1) rfl).cells rfl)) (A0 (show Ob.ok _ Ext _ _ from fun hk w2 hd=>A8 F (law12_Thing.mk p0.Kind p0.Time (p0.Sides.1,p0.Sides.2.1,p0.Sides.2.2) p0.Numbers) p1 4 _ ((fun _=>hy6) hk) _ w2 (A7 w2) (hA3.mono (FrzAt.le_mem ((hS.later hd).frz (i:=2) rfl hlow)))) Aa)) fun a w hF hx=>?_
 replace hS:=hS.later hx
 refine wfn rfl ?_
 refine wpIn_block ?_
 refine esr ?_
 refine rn 2 2 [(1,iv p1),(2,pb b4),(4,pb b5),(7,iv y6),(8,.bool (y6==0))] hF fun a hF=>?_
 refine wfn rfl ?_
 refine As hF rfl (fun hc=>?_) (fun hc=>?_)
 ·replace h:=Ao h hc
  refine esr ?_
  replace h:=A4 h
  obtain ⟨x7,hx7,h⟩:=h
  replace h:=A4 h
  obtain ⟨y8,hy8,h⟩:=h
  refine rx 6 [.run [] (Instr.loadAt 58 (pb b4)) (.agg #[.int .u8 p0.Kind,.int .u32 p0.Time,.int .u8 p0.Sides.1,.int .u8 p0.Sides.2.1,.int .u8 p0.Sides.2.2,sv ad1 p0.Numbers cap2]),.run [] (binOp .add 3 (iv p1) (iv 1)) (iv x7),.call [] 31 #[.agg #[.int .u8 p0.Kind,.int .u32 p0.Time,.int .u8 p0.Sides.1,.int .u8 p0.Sides.2.1,.int .u8 p0.Sides.2.2,sv ad1 p0.Numbers cap2],iv x7,iv 200] (iv y8)] 6 [(4,pb b5),(15,.agg #[iv 1,iv 0,iv y8,iv 0,iv 0,iv 0,iv 0,iv 0,iv 0,iv 0,iv 0,iv 0,iv 0,iv 0])] hF (A0 (obN (us:=[.int .u8 p0.Kind,.int .u32 p0.Time,.int .u8 p0.Sides.1,.int .u8 p0.Sides.2.1,.int .u8 p0.Sides.2.2,sv ad1 p0.Numbers cap2]) kr (fun _ hd=>((hS.later hd).blk (i:=1) rfl).cells rfl)) (A0 (Aw (fun _=>hx7)) (A0 (show Ob.ok _ Ext _ _ from fun hk w2 hd=>A8 F (law12_Thing.mk p0.Kind p0.Time (p0.Sides.1,p0.Sides.2.1,p0.Sides.2.2) p0.Numbers) x7 200 _ ((fun _=>hy8) hk) _ w2 (A7 w2) (hA3.mono (FrzAt.le_mem ((hS.later hd).frz (i:=2) rfl hlow)))) Aa))) fun a w hF hx=>?_
  replace hS:=hS.later hx
  refine SK.wi (Ap (t:=88) [(4,pb b5)] 0 0 (.agg #[iv 1,iv 0,iv y8,iv 0,iv 0,iv 0,iv 0,iv 0,iv 0,iv 0,iv 0,iv 0,iv 0,iv 0]) #[iv 1,iv 0,iv y8,iv 0,iv 0,iv 0,iv 0,iv 0,iv 0,iv 0,iv 0,iv 0,iv 0,iv 0] hF hS rfl kr ⟨kr⟩ kr kr kr kr ⟨kr⟩ fun w a hF hS=>?_)
  refine wfn rfl ?_
  refine wpIn_ret (Ar<|Ab<|Ak [.cell 4 88] [.agg #[iv 1,iv 0,iv y8,iv 0,iv 0,iv 0,iv 0,iv 0,iv 0,iv 0,iv 0,iv 0,iv 0,iv 0]] hF rfl ⟨⟨_,rfl,Fq (cs:=[iv 1,iv 0,iv y8,iv 0,iv 0,iv 0,iv 0,iv 0,iv 0,iv 0,iv 0,iv 0,iv 0,iv 0]) kr ((hS.blk (i:=0) rfl).cells rfl)⟩,trivial⟩ ?_)
  have hr_:=Option.some.inj h
  subst hr_
  exact ⟨rfl,hS.ext⟩
 ·replace h:=An h hc
  refine esr ?_
  refine rn 2 2 [(1,iv p1),(2,pb b4),(4,pb b5),(7,iv y6),(16,.bool (y6==1))] hF fun a hF=>?_
  refine wfn rfl ?_
  refine As hF rfl (fun hc=>?_) (fun hc=>?_)
  ·replace h:=Ao h hc
   refine B0 ?_
   replace h:=A4 h
   obtain ⟨x9,hx9,h⟩:=h
   replace h:=A4 h
   obtain ⟨a0,aT,h⟩:=h
   replace h:=A4 h
   obtain ⟨aB,aK,h⟩:=h
   replace h:=A4 h
   obtain ⟨a1,aU,h⟩:=h
   replace h:=A4 h
   obtain ⟨aC,aL,h⟩:=h
   replace h:=A4 h
   obtain ⟨a2,aV,h⟩:=h
   replace h:=A4 h
   obtain ⟨aD,aM,h⟩:=h
   replace h:=A4 h
   obtain ⟨a9,aW,h⟩:=h
   refine Po (obs:=[.run [] (Instr.loadAt 58 (pb b4)) (.agg #[.int .u8 p0.Kind,.int .u32 p0.Time,.int .u8 p0.Sides.1,.int .u8 p0.Sides.2.1,.int .u8 p0.Sides.2.2,sv ad1 p0.Numbers cap2]),.run [] (binOp .add 3 (iv p1) (iv 1)) (iv x9),.call [] 33 #[.agg #[.int .u8 p0.Kind,.int .u32 p0.Time,.int .u8 p0.Sides.1,.int .u8 p0.Sides.2.1,.int .u8 p0.Sides.2.2,sv ad1 p0.Numbers cap2],iv x9,iv 1,iv 1000] (.agg #[iv a0.Lo,iv a0.Hi]),.run [] (Instr.loadAt 58 (pb b4)) (.agg #[.int .u8 p0.Kind,.int .u32 p0.Time,.int .u8 p0.Sides.1,.int .u8 p0.Sides.2.1,.int .u8 p0.Sides.2.2,sv ad1 p0.Numbers cap2]),.run [] (binOp .add 3 (iv p1) (iv 3)) (iv aB),.call [] 33 #[.agg #[.int .u8 p0.Kind,.int .u32 p0.Time,.int .u8 p0.Sides.1,.int .u8 p0.Sides.2.1,.int .u8 p0.Sides.2.2,sv ad1 p0.Numbers cap2],iv aB,iv 0,iv 50000] (.agg #[iv a1.Lo,iv a1.Hi]),.run [] (Instr.loadAt 58 (pb b4)) (.agg #[.int .u8 p0.Kind,.int .u32 p0.Time,.int .u8 p0.Sides.1,.int .u8 p0.Sides.2.1,.int .u8 p0.Sides.2.2,sv ad1 p0.Numbers cap2]),.run [] (binOp .add 3 (iv p1) (iv 2)) (iv aC),.call [] 33 #[.agg #[.int .u8 p0.Kind,.int .u32 p0.Time,.int .u8 p0.Sides.1,.int .u8 p0.Sides.2.1,.int .u8 p0.Sides.2.2,sv ad1 p0.Numbers cap2],iv aC,iv 0,iv 500] (.agg #[iv a2.Lo,iv a2.Hi]),.run [] (Instr.loadAt 58 (pb b4)) (.agg #[.int .u8 p0.Kind,.int .u32 p0.Time,.int .u8 p0.Sides.1,.int .u8 p0.Sides.2.1,.int .u8 p0.Sides.2.2,sv ad1 p0.Numbers cap2]),.run [] (binOp .add 3 (iv p1) (iv 5)) (iv aD),.call [] 31 #[.agg #[.int .u8 p0.Kind,.int .u32 p0.Time,.int .u8 p0.Sides.1,.int .u8 p0.Sides.2.1,.int .u8 p0.Sides.2.2,sv ad1 p0.Numbers cap2],iv aD,iv 65536] (iv a9)]) 17 [(4,pb b5),(34,.agg #[iv 2,iv a0.Lo,iv a0.Hi,iv 0,iv 0,iv 0,iv 0,iv a9,iv a1.Lo,iv a1.Hi,iv a2.Lo,iv a2.Hi,iv 0,iv 0])] kr hF kr (A0 (obN (us:=[.int .u8 p0.Kind,.int .u32 p0.Time,.int .u8 p0.Sides.1,.int .u8 p0.Sides.2.1,.int .u8 p0.Sides.2.2,sv ad1 p0.Numbers cap2]) kr (fun _ hd=>((hS.later hd).blk (i:=1) rfl).cells rfl)) (A0 (Aw (fun _=>hx9)) (A0 (show Ob.ok _ Ext _ _ from fun hk w2 hd=>Bt F (law12_Thing.mk p0.Kind p0.Time (p0.Sides.1,p0.Sides.2.1,p0.Sides.2.2) p0.Numbers) x9 1 1000 _ ((fun _=>aT) hk) _ w2 (A7 w2) (hA3.mono (FrzAt.le_mem ((hS.later hd).frz (i:=2) rfl hlow)))) (A0 (obN (us:=[.int .u8 p0.Kind,.int .u32 p0.Time,.int .u8 p0.Sides.1,.int .u8 p0.Sides.2.1,.int .u8 p0.Sides.2.2,sv ad1 p0.Numbers cap2]) kr (fun _ hd=>((hS.later hd).blk (i:=1) rfl).cells rfl)) (A0 (Aw (fun _=>aK)) (A0 (show Ob.ok _ Ext _ _ from fun hk w2 hd=>Bt F (law12_Thing.mk p0.Kind p0.Time (p0.Sides.1,p0.Sides.2.1,p0.Sides.2.2) p0.Numbers) aB 0 50000 _ ((fun _=>aU) hk) _ w2 (A7 w2) (hA3.mono (FrzAt.le_mem ((hS.later hd).frz (i:=2) rfl hlow)))) (A0 (obN (us:=[.int .u8 p0.Kind,.int .u32 p0.Time,.int .u8 p0.Sides.1,.int .u8 p0.Sides.2.1,.int .u8 p0.Sides.2.2,sv ad1 p0.Numbers cap2]) kr (fun _ hd=>((hS.later hd).blk (i:=1) rfl).cells rfl)) (A0 (Aw (fun _=>aL)) (A0 (show Ob.ok _ Ext _ _ from fun hk w2 hd=>Bt F (law12_Thing.mk p0.Kind p0.Time (p0.Sides.1,p0.Sides.2.1,p0.Sides.2.2) p0.Numbers) aC 0 500 _ ((fun _=>aV) hk) _ w2 (A7 w2) (hA3.mono (FrzAt.le_mem ((hS.later hd).frz (i:=2) rfl hlow)))) (A0 (obN (us:=[.int .u8 p0.Kind,.int .u32 p0.Time,.int .u8 p0.Sides.1,.int .u8 p0.Sides.2.1,.int .u8 p0.Sides.2.2,sv ad1 p0.Numbers cap2]) kr (fun _ hd=>((hS.later hd).blk (i:=1) rfl).cells rfl)) (A0 (Aw (fun _=>aM)) (A0 (show Ob.ok _ Ext _ _ from fun hk w2 hd=>A8 F (law12_Thing.mk p0.Kind p0.Time (p0.Sides.1,p0.Sides.2.1,p0.Sides.2.2) p0.Numbers) aD 65536 _ ((fun _=>aW) hk) _ w2 (A7 w2) (hA3.mono (FrzAt.le_mem ((hS.later hd).frz (i:=2) rfl hlow)))) Aa)))))))))))) ⟨kr⟩ fun a w hF hx=>?_
   replace hS:=hS.later hx
   refine SK.wi (Ap (t:=88) [(4,pb b5)] 0 0 (.agg #[iv 2,iv a0.Lo,iv a0.Hi,iv 0,iv 0,iv 0,iv 0,iv a9,iv a1.Lo,iv a1.Hi,iv a2.Lo,iv a2.Hi,iv 0,iv 0]) #[iv 2,iv a0.Lo,iv a0.Hi,iv 0,iv 0,iv 0,iv 0,iv a9,iv a1.Lo,iv a1.Hi,iv a2.Lo,iv a2.Hi,iv 0,iv 0] hF hS rfl kr ⟨kr⟩ kr kr kr kr ⟨kr⟩ fun w a hF hS=>?_)
   refine wfn rfl ?_
   refine wpIn_ret (Ar<|Ab<|Ak [.cell 4 88] [.agg #[iv 2,iv a0.Lo,iv a0.Hi,iv 0,iv 0,iv 0,iv 0,iv a9,iv a1.Lo,iv a1.Hi,iv a2.Lo,iv a2.Hi,iv 0,iv 0]] hF rfl ⟨⟨_,rfl,Fq (cs:=[iv 2,iv a0.Lo,iv a0.Hi,iv 0,iv 0,iv 0,iv 0,iv a9,iv a1.Lo,iv a1.Hi,iv a2.Lo,iv a2.Hi,iv 0,iv 0]) kr ((hS.blk (i:=0) rfl).cells rfl)⟩,trivial⟩ ?_)
   have hr_:=Option.some.inj h
   subst hr_
   exact ⟨rfl,hS.ext⟩
  ·replace h:=An h hc
   refine esr ?_
   refine rn 2 2 [(1,iv p1),(2,pb b4),(4,pb b5),(35,.bool (y6==2))] hF fun a hF=>?_
   refine wfn rfl ?_
   refine As hF rfl (fun hc=>?_) (fun hc=>?_)
   ·replace h:=Ao h hc
    refine B0 ?_
    replace h:=A4 h
    obtain ⟨aE,aN,h⟩:=h
    replace h:=A4 h
    obtain ⟨a3,aX,h⟩:=h
    replace h:=A4 h
    obtain ⟨aF,aO,h⟩:=h
    replace h:=A4 h
    obtain ⟨a4,aY,h⟩:=h
    replace h:=A4 h
    obtain ⟨aG,aP,h⟩:=h
    replace h:=A4 h
    obtain ⟨a5,aZ,h⟩:=h
    replace h:=A4 h
    obtain ⟨aH,aQ,h⟩:=h
    replace h:=A4 h
    obtain ⟨aA,b0,h⟩:=h
    replace h:=A4 h
    obtain ⟨a6,b1,h⟩:=h
    replace h:=A4 h
    obtain ⟨aI,aR,h⟩:=h
    replace h:=A4 h
    obtain ⟨a7,b2,h⟩:=h
    replace h:=A4 h
    obtain ⟨aJ,aS,h⟩:=h
    replace h:=A4 h
    obtain ⟨a8,b3,h⟩:=h
    refine Po (obs:=[.run [] (Instr.loadAt 58 (pb b4)) (.agg #[.int .u8 p0.Kind,.int .u32 p0.Time,.int .u8 p0.Sides.1,.int .u8 p0.Sides.2.1,.int .u8 p0.Sides.2.2,sv ad1 p0.Numbers cap2]),.run [] (binOp .add 3 (iv p1) (iv 1)) (iv aE),.call [] 33 #[.agg #[.int .u8 p0.Kind,.int .u32 p0.Time,.int .u8 p0.Sides.1,.int .u8 p0.Sides.2.1,.int .u8 p0.Sides.2.2,sv ad1 p0.Numbers cap2],iv aE,iv 1,iv 1000] (.agg #[iv a3.Lo,iv a3.Hi]),.run [] (Instr.loadAt 58 (pb b4)) (.agg #[.int .u8 p0.Kind,.int .u32 p0.Time,.int .u8 p0.Sides.1,.int .u8 p0.Sides.2.1,.int .u8 p0.Sides.2.2,sv ad1 p0.Numbers cap2]),.run [] (binOp .add 3 (iv p1) (iv 3)) (iv aF),.call [] 33 #[.agg #[.int .u8 p0.Kind,.int .u32 p0.Time,.int .u8 p0.Sides.1,.int .u8 p0.Sides.2.1,.int .u8 p0.Sides.2.2,sv ad1 p0.Numbers cap2],iv aF,iv 0,iv 50000] (.agg #[iv a4.Lo,iv a4.Hi]),.run [] (Instr.loadAt 58 (pb b4)) (.agg #[.int .u8 p0.Kind,.int .u32 p0.Time,.int .u8 p0.Sides.1,.int .u8 p0.Sides.2.1,.int .u8 p0.Sides.2.2,sv ad1 p0.Numbers cap2]),.run [] (binOp .add 3 (iv p1) (iv 2)) (iv aG),.call [] 33 #[.agg #[.int .u8 p0.Kind,.int .u32 p0.Time,.int .u8 p0.Sides.1,.int .u8 p0.Sides.2.1,.int .u8 p0.Sides.2.2,sv ad1 p0.Numbers cap2],iv aG,iv 0,iv 500] (.agg #[iv a5.Lo,iv a5.Hi]),.run [] (Instr.loadAt 58 (pb b4)) (.agg #[.int .u8 p0.Kind,.int .u32 p0.Time,.int .u8 p0.Sides.1,.int .u8 p0.Sides.2.1,.int .u8 p0.Sides.2.2,sv ad1 p0.Numbers cap2]),.run [] (binOp .add 3 (iv p1) (iv 5)) (iv aH),.call [] 31 #[.agg #[.int .u8 p0.Kind,.int .u32 p0.Time,.int .u8 p0.Sides.1,.int .u8 p0.Sides.2.1,.int .u8 p0.Sides.2.2,sv ad1 p0.Numbers cap2],iv aH,iv 3000] (iv aA),.run [] (Instr.loadAt 58 (pb b4)) (.agg #[.int .u8 p0.Kind,.int .u32 p0.Time,.int .u8 p0.Sides.1,.int .u8 p0.Sides.2.1,.int .u8 p0.Sides.2.2,sv ad1 p0.Numbers cap2]),.call [] 33 #[.agg #[.int .u8 p0.Kind,.int .u32 p0.Time,.int .u8 p0.Sides.1,.int .u8 p0.Sides.2.1,.int .u8 p0.Sides.2.2,sv ad1 p0.Numbers cap2],iv p1,iv (-200),iv 30000] (.agg #[iv a6.Lo,iv a6.Hi]),.run [] (Instr.loadAt 58 (pb b4)) (.agg #[.int .u8 p0.Kind,.int .u32 p0.Time,.int .u8 p0.Sides.1,.int .u8 p0.Sides.2.1,.int .u8 p0.Sides.2.2,sv ad1 p0.Numbers cap2]),.run [] (binOp .add 3 (iv p1) (iv 4)) (iv aI),.call [] 33 #[.agg #[.int .u8 p0.Kind,.int .u32 p0.Time,.int .u8 p0.Sides.1,.int .u8 p0.Sides.2.1,.int .u8 p0.Sides.2.2,sv ad1 p0.Numbers cap2],iv aI,iv (-32768),iv 3] (.agg #[iv a7.Lo,iv a7.Hi]),.run [] (Instr.loadAt 58 (pb b4)) (.agg #[.int .u8 p0.Kind,.int .u32 p0.Time,.int .u8 p0.Sides.1,.int .u8 p0.Sides.2.1,.int .u8 p0.Sides.2.2,sv ad1 p0.Numbers cap2]),.run [] (binOp .add 3 (iv p1) (iv 1)) (iv aJ),.call [] 33 #[.agg #[.int .u8 p0.Kind,.int .u32 p0.Time,.int .u8 p0.Sides.1,.int .u8 p0.Sides.2.1,.int .u8 p0.Sides.2.2,sv ad1 p0.Numbers cap2],iv aJ,iv 500,iv 40] (.agg #[iv a8.Lo,iv a8.Hi])]) 29 [(4,pb b5),(65,.agg #[iv 3,iv a3.Lo,iv a3.Hi,iv a6.Lo,iv a6.Hi,iv a7.Lo,iv a7.Hi,iv aA,iv a4.Lo,iv a4.Hi,iv a5.Lo,iv a5.Hi,iv a8.Lo,iv a8.Hi])] kr hF kr (A0 (obN (us:=[.int .u8 p0.Kind,.int .u32 p0.Time,.int .u8 p0.Sides.1,.int .u8 p0.Sides.2.1,.int .u8 p0.Sides.2.2,sv ad1 p0.Numbers cap2]) kr (fun _ hd=>((hS.later hd).blk (i:=1) rfl).cells rfl)) (A0 (Aw (fun _=>aN)) (A0 (show Ob.ok _ Ext _ _ from fun hk w2 hd=>Bt F (law12_Thing.mk p0.Kind p0.Time (p0.Sides.1,p0.Sides.2.1,p0.Sides.2.2) p0.Numbers) aE 1 1000 _ ((fun _=>aX) hk) _ w2 (A7 w2) (hA3.mono (FrzAt.le_mem ((hS.later hd).frz (i:=2) rfl hlow)))) (A0 (obN (us:=[.int .u8 p0.Kind,.int .u32 p0.Time,.int .u8 p0.Sides.1,.int .u8 p0.Sides.2.1,.int .u8 p0.Sides.2.2,sv ad1 p0.Numbers cap2]) kr (fun _ hd=>((hS.later hd).blk (i:=1) rfl).cells rfl)) (A0 (Aw (fun _=>aO)) (A0 (show Ob.ok _ Ext _ _ from fun hk w2 hd=>Bt F (law12_Thing.mk p0.Kind p0.Time (p0.Sides.1,p0.Sides.2.1,p0.Sides.2.2) p0.Numbers) aF 0 50000 _ ((fun _=>aY) hk) _ w2 (A7 w2) (hA3.mono (FrzAt.le_mem ((hS.later hd).frz (i:=2) rfl hlow)))) (A0 (obN (us:=[.int .u8 p0.Kind,.int .u32 p0.Time,.int .u8 p0.Sides.1,.int .u8 p0.Sides.2.1,.int .u8 p0.Sides.2.2,sv ad1 p0.Numbers cap2]) kr (fun _ hd=>((hS.later hd).blk (i:=1) rfl).cells rfl)) (A0 (Aw (fun _=>aP)) (A0 (show Ob.ok _ Ext _ _ from fun hk w2 hd=>Bt F (law12_Thing.mk p0.Kind p0.Time (p0.Sides.1,p0.Sides.2.1,p0.Sides.2.2) p0.Numbers) aG 0 500 _ ((fun _=>aZ) hk) _ w2 (A7 w2) (hA3.mono (FrzAt.le_mem ((hS.later hd).frz (i:=2) rfl hlow)))) (A0 (obN (us:=[.int .u8 p0.Kind,.int .u32 p0.Time,.int .u8 p0.Sides.1,.int .u8 p0.Sides.2.1,.int .u8 p0.Sides.2.2,sv ad1 p0.Numbers cap2]) kr (fun _ hd=>((hS.later hd).blk (i:=1) rfl).cells rfl)) (A0 (Aw (fun _=>aQ)) (A0 (show Ob.ok _ Ext _ _ from fun hk w2 hd=>A8 F (law12_Thing.mk p0.Kind p0.Time (p0.Sides.1,p0.Sides.2.1,p0.Sides.2.2) p0.Numbers) aH 3000 _ ((fun _=>b0) hk) _ w2 (A7 w2) (hA3.mono (FrzAt.le_mem ((hS.later hd).frz (i:=2) rfl hlow)))) (A0 (obN (us:=[.int .u8 p0.Kind,.int .u32 p0.Time,.int .u8 p0.Sides.1,.int .u8 p0.Sides.2.1,.int .u8 p0.Sides.2.2,sv ad1 p0.Numbers cap2]) kr (fun _ hd=>((hS.later hd).blk (i:=1) rfl).cells rfl)) (A0 (show Ob.ok _ Ext _ _ from fun hk w2 hd=>Bt F (law12_Thing.mk p0.Kind p0.Time (p0.Sides.1,p0.Sides.2.1,p0.Sides.2.2) p0.Numbers) p1 (-200) 30000 _ ((fun _=>b1) hk) _ w2 (A7 w2) (hA3.mono (FrzAt.le_mem ((hS.later hd).frz (i:=2) rfl hlow)))) (A0 (obN (us:=[.int .u8 p0.Kind,.int .u32 p0.Time,.int .u8 p0.Sides.1,.int .u8 p0.Sides.2.1,.int .u8 p0.Sides.2.2,sv ad1 p0.Numbers cap2]) kr (fun _ hd=>((hS.later hd).blk (i:=1) rfl).cells rfl)) (A0 (Aw (fun _=>aR)) (A0 (show Ob.ok _ Ext _ _ from fun hk w2 hd=>Bt F (law12_Thing.mk p0.Kind p0.Time (p0.Sides.1,p0.Sides.2.1,p0.Sides.2.2) p0.Numbers) aI (-32768) 3 _ ((fun _=>b2) hk) _ w2 (A7 w2) (hA3.mono (FrzAt.le_mem ((hS.later hd).frz (i:=2) rfl hlow)))) (A0 (obN (us:=[.int .u8 p0.Kind,.int .u32 p0.Time,.int .u8 p0.Sides.1,.int .u8 p0.Sides.2.1,.int .u8 p0.Sides.2.2,sv ad1 p0.Numbers cap2]) kr (fun _ hd=>((hS.later hd).blk (i:=1) rfl).cells rfl)) (A0 (Aw (fun _=>aS)) (A0 (show Ob.ok _ Ext _ _ from fun hk w2 hd=>Bt F (law12_Thing.mk p0.Kind p0.Time (p0.Sides.1,p0.Sides.2.1,p0.Sides.2.2) p0.Numbers) aJ 500 40 _ ((fun _=>b3) hk) _ w2 (A7 w2) (hA3.mono (FrzAt.le_mem ((hS.later hd).frz (i:=2) rfl hlow)))) Aa)))))))))))))))))))) ⟨kr⟩ fun a w hF hx=>?_
    replace hS:=hS.later hx
    refine SK.wi (Ap (t:=88) [(4,pb b5)] 0 0 (.agg #[iv 3,iv a3.Lo,iv a3.Hi,iv a6.Lo,iv a6.Hi,iv a7.Lo,iv a7.Hi,iv aA,iv a4.Lo,iv a4.Hi,iv a5.Lo,iv a5.Hi,iv a8.Lo,iv a8.Hi]) #[iv 3,iv a3.Lo,iv a3.Hi,iv a6.Lo,iv a6.Hi,iv a7.Lo,iv a7.Hi,iv aA,iv a4.Lo,iv a4.Hi,iv a5.Lo,iv a5.Hi,iv a8.Lo,iv a8.Hi] hF hS rfl kr ⟨kr⟩ kr kr kr kr ⟨kr⟩ fun w a hF hS=>?_)
    refine wfn rfl ?_
    refine wpIn_ret (Ar<|Ab<|Ak [.cell 4 88] [.agg #[iv 3,iv a3.Lo,iv a3.Hi,iv a6.Lo,iv a6.Hi,iv a7.Lo,iv a7.Hi,iv aA,iv a4.Lo,iv a4.Hi,iv a5.Lo,iv a5.Hi,iv a8.Lo,iv a8.Hi]] hF rfl ⟨⟨_,rfl,Fq (cs:=[iv 3,iv a3.Lo,iv a3.Hi,iv a6.Lo,iv a6.Hi,iv a7.Lo,iv a7.Hi,iv aA,iv a4.Lo,iv a4.Hi,iv a5.Lo,iv a5.Hi,iv a8.Lo,iv a8.Hi]) kr ((hS.blk (i:=0) rfl).cells rfl)⟩,trivial⟩ ?_)
    have hr_:=Option.some.inj h
    subst hr_
    exact ⟨rfl,hS.ext⟩
   ·replace h:=An h hc
    refine wpIn_skip (Ac<|A1<|?_)
    refine esr ?_
    refine rn 1 1 [(4,pb b5),(66,.agg #[iv 1,iv 0,iv 0,iv 0,iv 0,iv 0,iv 0,iv 0,iv 0,iv 0,iv 0,iv 0,iv 0,iv 0])] hF fun a hF=>?_
    refine SK.wi (Ap (t:=88) [(4,pb b5)] 0 0 (.agg #[iv 1,iv 0,iv 0,iv 0,iv 0,iv 0,iv 0,iv 0,iv 0,iv 0,iv 0,iv 0,iv 0,iv 0]) #[iv 1,iv 0,iv 0,iv 0,iv 0,iv 0,iv 0,iv 0,iv 0,iv 0,iv 0,iv 0,iv 0,iv 0] hF hS rfl kr ⟨kr⟩ kr kr kr kr ⟨kr⟩ fun w a hF hS=>?_)
    refine wfn rfl ?_
    refine wpIn_ret (Ak [.cell 4 88] [.agg #[iv 1,iv 0,iv 0,iv 0,iv 0,iv 0,iv 0,iv 0,iv 0,iv 0,iv 0,iv 0,iv 0,iv 0]] hF rfl ⟨⟨_,rfl,Fq (cs:=[iv 1,iv 0,iv 0,iv 0,iv 0,iv 0,iv 0,iv 0,iv 0,iv 0,iv 0,iv 0,iv 0,iv 0]) kr ((hS.blk (i:=0) rfl).cells rfl)⟩,trivial⟩ ?_)
    have hr_:=Option.some.inj h
    subst hr_
    exact ⟨rfl,hS.ext⟩
theorem Q3 (F:Nat) (p0:api_Echo) (res:Int) (h:Hb F p0=some res) (μ:Frz) (w0:World) (hm:FrzAt μ w0):Calls Try.prog 95 #[p0.ag] w0 (fun e w=>e=.returned (iv res)∧Ext w0 w):=by
 obtain ⟨hlow,hS⟩:=hm.init
 have hext:=Frz.ext_refl w0.heap.size μ
 rw [Hb] at h
 refine Aq Try.func95 rfl 77 [(0,p0.ag)] rfl rfl kr fun a w hw hF=>?_
 replace hS:=hS.cast hw
 clear hw
 refine esr ?_
 refine SK.wi (H4 (t:=88) (fun b1=>[(1,pb b1)]) (p0.ag) p0.ar hF hS kr ⟨kr⟩ kr (fun _=>⟨kr⟩) fun b1 w a hF hS=>?_)
 refine rn 1 2 [(1,pb b1)] hF fun a hF=>?_
 refine wfn rfl ?_
 refine esr ?_
 refine rx 4 [.run [] (Instr.loadAt 85 (.pointer (some ⟨b1,1,none⟩))) (.agg #[iv p0.Power.Lo,iv p0.Power.Hi]),.call [] 97 #[.agg #[iv p0.Power.Lo,iv p0.Power.Hi],iv 0,iv 1073741824] (.bool (A9 p0.Power 0 1073741824))] 4 [(1,pb b1),(3,.bool (A9 p0.Power 0 1073741824))] hF (A0 (obN (us:=[iv p0.Power.Lo,iv p0.Power.Hi]) kr (fun _ hd=>((hS.later hd).blk (i:=0) rfl).cells rfl)) (A0 (show Ob.ok _ Ext _ _ from fun hk w2 hd=>Lh p0.Power 0 1073741824 _ rfl _ w2 (A7 w2)) Aa)) fun a w hF hx=>?_
 replace hS:=hS.later hx
 refine wfn rfl ?_
 refine Ei (fun a w=>∃(c7:Bool),Fr 77 [] [(3,.bool c7)] a∧St w0 [blk b1 88 p0.ar,fz w0 μ] w∧Dr c7=some res) ?_ ?_
 ·skip
  refine esr ?_
  refine rno 2 [.run [] (Instr.loadAt 3 (pb b1)) (iv p0.Kind)] 2 [(1,pb b1),(3,.bool (A9 p0.Power 0 1073741824)),(8,iv p0.Kind)] hF (A0 (ob1 kr (fun _ hd=>(hS.at_ hd).cell (i:=0) (j:=0) rfl rfl)) Aa) fun a hF=>?_
  refine wfn rfl ?_
  refine wpIn_block ?_
  refine esr ?_
  refine rn 2 2 [(1,pb b1),(3,.bool (A9 p0.Power 0 1073741824)),(8,iv p0.Kind),(9,.bool (p0.Kind==1))] hF fun a hF=>?_
  refine wfn rfl ?_
  refine As hF rfl (fun hc=>?_) (fun hc=>?_)
  ·replace h:=Ao h hc
   refine WI.region ?_
   refine rno 11 [.run [⟨12,true,(A9 p0.Power 0 1073741824)⟩] (Instr.loadAt 88 (pb b1)) (p0.ag),.run [⟨12,true,(A9 p0.Power 0 1073741824)⟩] (Instr.loadAt 3 (.pointer (some ⟨b1,2,none⟩))) (iv p0.Power.Hi),.run [⟨12,true,(A9 p0.Power 0 1073741824)⟩] (eqS .eql 88 p0.ar #[iv 1,iv 0,iv p0.Power.Hi,iv 0,iv 0,iv 0,iv 0,iv 0,iv 0,iv 0,iv 0,iv 0,iv 0,iv 0]) (.bool (((p0.Kind:Int)==1)&&((((p0.Power.Lo:Int)==0)&&(((p0.Power.Hi:Int)==p0.Power.Hi)&&true))&&(((((p0.Steps.1.Lo:Int)==0)&&(((p0.Steps.1.Hi:Int)==0)&&true))&&((((p0.Steps.2.Lo:Int)==0)&&(((p0.Steps.2.Hi:Int)==0)&&true))&&true))&&(((p0.Spread:Int)==0)&&((((p0.Ratio.Lo:Int)==0)&&(((p0.Ratio.Hi:Int)==0)&&true))&&((((p0.Match.Lo:Int)==0)&&(((p0.Match.Hi:Int)==0)&&true))&&((((p0.Turn.Lo:Int)==0)&&(((p0.Turn.Hi:Int)==0)&&true))&&true))))))))] 11 [(3,.bool (bif (A9 p0.Power 0 1073741824) then (((p0.Kind:Int)==1)&&((((p0.Power.Lo:Int)==0)&&(((p0.Power.Hi:Int)==p0.Power.Hi)&&true))&&(((((p0.Steps.1.Lo:Int)==0)&&(((p0.Steps.1.Hi:Int)==0)&&true))&&((((p0.Steps.2.Lo:Int)==0)&&(((p0.Steps.2.Hi:Int)==0)&&true))&&true))&&(((p0.Spread:Int)==0)&&((((p0.Ratio.Lo:Int)==0)&&(((p0.Ratio.Hi:Int)==0)&&true))&&((((p0.Match.Lo:Int)==0)&&(((p0.Match.Hi:Int)==0)&&true))&&((((p0.Turn.Lo:Int)==0)&&(((p0.Turn.Hi:Int)==0)&&true))&&true))))))) else false))] hF (A0 (obN (us:=p0.cells) kr (fun _ hd=>((hS.at_ hd).blk (i:=0) rfl).cells rfl)) (A0 (ob1 kr (fun _ hd=>(hS.at_ hd).cell (i:=0) (j:=2) rfl rfl)) (A0 (Mo kr kr) Aa))) fun a hF=>?_
   refine WI.fin rfl (Ac<|A1<|?_)
   exact ⟨bif (A9 p0.Power 0 1073741824) then (((p0.Kind:Int)==1)&&((((p0.Power.Lo:Int)==0)&&(((p0.Power.Hi:Int)==p0.Power.Hi)&&true))&&(((((p0.Steps.1.Lo:Int)==0)&&(((p0.Steps.1.Hi:Int)==0)&&true))&&((((p0.Steps.2.Lo:Int)==0)&&(((p0.Steps.2.Hi:Int)==0)&&true))&&true))&&(((p0.Spread:Int)==0)&&((((p0.Ratio.Lo:Int)==0)&&(((p0.Ratio.Hi:Int)==0)&&true))&&((((p0.Match.Lo:Int)==0)&&(((p0.Match.Hi:Int)==0)&&true))&&((((p0.Turn.Lo:Int)==0)&&(((p0.Turn.Hi:Int)==0)&&true))&&true))))))) else false,hF.sub kr,St.pick [0,1] (by decide) hS,h⟩
  ·replace h:=An h hc
   refine Ei (fun a w=>∃(c9:Bool),Fr 77 [] [(1,pb b1),(3,.bool (A9 p0.Power 0 1073741824)),(21,.bool c9)] a∧St w0 [blk b1 88 p0.ar,fz w0 μ] w∧D6 F p0 c9=some res) ?_ ?_
   ·skip
    refine esr ?_
    refine rn 2 2 [(1,pb b1),(3,.bool (A9 p0.Power 0 1073741824)),(8,iv p0.Kind),(21,.bool (p0.Kind==2))] hF fun a hF=>?_
    refine wfn rfl ?_
    refine As hF rfl (fun hc=>?_) (fun hc=>?_)
    ·replace h:=Ao h hc
     refine wpIn_skip (A1 ?_)
     exact ⟨p0.Kind==2,hF.sub kr,St.pick [0,1] (by decide) hS,h⟩
    ·replace h:=An h hc
     refine WI.region ?_
     refine rn 2 2 [(1,pb b1),(3,.bool (A9 p0.Power 0 1073741824)),(21,.bool (p0.Kind==3))] hF fun a hF=>?_
     refine wfn rfl ?_
     exact ⟨p0.Kind==3,hF.sub kr,St.pick [0,1] (by decide) hS,h⟩
   rintro a w ⟨c9,hF,hS,h⟩
   rw [D6] at h
   refine As hF rfl (fun hc=>?_) (fun hc=>?_)
   ·replace h:=Ao h hc
    refine esr ?_
    refine rx 23 [.run [⟨25,true,(A9 p0.Power 0 1073741824)⟩] (Instr.loadAt 3 (.pointer (some ⟨b1,1,none⟩))) (iv p0.Power.Lo),.run [⟨31,true,(bif (A9 p0.Power 0 1073741824) then (decide (p0.Power.Lo>0)) else false)⟩] (Instr.loadAt 85 (.pointer (some ⟨b1,8,none⟩))) (.agg #[iv p0.Ratio.Lo,iv p0.Ratio.Hi]),.call [⟨31,true,(bif (A9 p0.Power 0 1073741824) then (decide (p0.Power.Lo>0)) else false)⟩] 97 #[.agg #[iv p0.Ratio.Lo,iv p0.Ratio.Hi],iv 0,iv 1000000] (.bool (A9 p0.Ratio 0 1000000)),.run [⟨36,true,(bif (bif (A9 p0.Power 0 1073741824) then (decide (p0.Power.Lo>0)) else false) then (A9 p0.Ratio 0 1000000) else false)⟩] (Instr.loadAt 85 (.pointer (some ⟨b1,10,none⟩))) (.agg #[iv p0.Match.Lo,iv p0.Match.Hi]),.call [⟨36,true,(bif (bif (A9 p0.Power 0 1073741824) then (decide (p0.Power.Lo>0)) else false) then (A9 p0.Ratio 0 1000000) else false)⟩] 97 #[.agg #[iv p0.Match.Lo,iv p0.Match.Hi],iv 0,iv 1000] (.bool (A9 p0.Match 0 1000)),.run [⟨41,true,(bif (bif (bif (A9 p0.Power 0 1073741824) then (decide (p0.Power.Lo>0)) else false) then (A9 p0.Ratio 0 1000000) else false) then (A9 p0.Match 0 1000) else false)⟩] (Instr.loadAt 3 (.pointer (some ⟨b1,7,none⟩))) (iv p0.Spread),.call [⟨41,true,(bif (bif (bif (A9 p0.Power 0 1073741824) then (decide (p0.Power.Lo>0)) else false) then (A9 p0.Ratio 0 1000000) else false) then (A9 p0.Match 0 1000) else false)⟩] 94 #[iv p0.Spread,iv 0,iv 65535] (.bool (Au p0.Spread 0 65535))] 23 [(1,pb b1),(3,.bool (bif (bif (bif (bif (A9 p0.Power 0 1073741824) then (decide (p0.Power.Lo>0)) else false) then (A9 p0.Ratio 0 1000000) else false) then (A9 p0.Match 0 1000) else false) then (Au p0.Spread 0 65535) else false))] hF (A0 (ob1 kr (fun _ hd=>(hS.later hd).cell (i:=0) (j:=1) rfl rfl)) (A0 (obN (us:=[iv p0.Ratio.Lo,iv p0.Ratio.Hi]) kr (fun _ hd=>((hS.later hd).blk (i:=0) rfl).cells rfl)) (A0 (show Ob.ok _ Ext _ _ from fun hk w2 hd=>Lh p0.Ratio 0 1000000 _ rfl _ w2 (A7 w2)) (A0 (obN (us:=[iv p0.Match.Lo,iv p0.Match.Hi]) kr (fun _ hd=>((hS.later hd).blk (i:=0) rfl).cells rfl)) (A0 (show Ob.ok _ Ext _ _ from fun hk w2 hd=>Lh p0.Match 0 1000 _ rfl _ w2 (A7 w2)) (A0 (ob1 kr (fun _ hd=>(hS.later hd).cell (i:=0) (j:=7) rfl rfl)) (A0 (show Ob.ok _ Ext _ _ from fun hk w2 hd=>Hc p0.Spread 0 65535 _ rfl _ w2 (A7 w2)) Aa))))))) fun a w hF hx=>?_
    replace hS:=hS.later hx
    refine wfn rfl ?_
    refine esr ?_
    refine rno 3 [.run [] (Instr.loadAt 3 (pb b1)) (iv p0.Kind)] 3 [(1,pb b1),(3,.bool (bif (bif (bif (bif (A9 p0.Power 0 1073741824) then (decide (p0.Power.Lo>0)) else false) then (A9 p0.Ratio 0 1000000) else false) then (A9 p0.Match 0 1000) else false) then (Au p0.Spread 0 65535) else false)),(48,.bool (p0.Kind==2))] hF (A0 (ob1 kr (fun _ hd=>(hS.at_ hd).cell (i:=0) (j:=0) rfl rfl)) Aa) fun a hF=>?_
    refine wfn rfl ?_
    refine As hF rfl (fun hc=>?_) (fun hc=>?_)
    ·replace h:=Ao h hc
     refine WI.region ?_
     refine rno 14 [.run [⟨50,true,(bif (bif (bif (bif (A9 p0.Power 0 1073741824) then (decide (p0.Power.Lo>0)) else false) then (A9 p0.Ratio 0 1000000) else false) then (A9 p0.Match 0 1000) else false) then (Au p0.Spread 0 65535) else false)⟩] (Instr.loadAt 86 (.pointer (some ⟨b1,3,none⟩))) (.agg #[iv p0.Steps.1.Lo,iv p0.Steps.1.Hi,iv p0.Steps.2.Lo,iv p0.Steps.2.Hi]),.run [⟨50,true,(bif (bif (bif (bif (A9 p0.Power 0 1073741824) then (decide (p0.Power.Lo>0)) else false) then (A9 p0.Ratio 0 1000000) else false) then (A9 p0.Match 0 1000) else false) then (Au p0.Spread 0 65535) else false)⟩] (eqS .eql 86 #[iv p0.Steps.1.Lo,iv p0.Steps.1.Hi,iv p0.Steps.2.Lo,iv p0.Steps.2.Hi] #[iv 0,iv 0,iv 0,iv 0]) (.bool ((((p0.Steps.1.Lo:Int)==0)&&(((p0.Steps.1.Hi:Int)==0)&&true))&&((((p0.Steps.2.Lo:Int)==0)&&(((p0.Steps.2.Hi:Int)==0)&&true))&&true))),.run [⟨56,true,(bif (bif (bif (bif (bif (A9 p0.Power 0 1073741824) then (decide (p0.Power.Lo>0)) else false) then (A9 p0.Ratio 0 1000000) else false) then (A9 p0.Match 0 1000) else false) then (Au p0.Spread 0 65535) else false) then ((((p0.Steps.1.Lo:Int)==0)&&(((p0.Steps.1.Hi:Int)==0)&&true))&&((((p0.Steps.2.Lo:Int)==0)&&(((p0.Steps.2.Hi:Int)==0)&&true))&&true)) else false)⟩] (Instr.loadAt 85 (.pointer (some ⟨b1,12,none⟩))) (.agg #[iv p0.Turn.Lo,iv p0.Turn.Hi]),.run [⟨56,true,(bif (bif (bif (bif (bif (A9 p0.Power 0 1073741824) then (decide (p0.Power.Lo>0)) else false) then (A9 p0.Ratio 0 1000000) else false) then (A9 p0.Match 0 1000) else false) then (Au p0.Spread 0 65535) else false) then ((((p0.Steps.1.Lo:Int)==0)&&(((p0.Steps.1.Hi:Int)==0)&&true))&&((((p0.Steps.2.Lo:Int)==0)&&(((p0.Steps.2.Hi:Int)==0)&&true))&&true)) else false)⟩] (eqS .eql 85 #[iv p0.Turn.Lo,iv p0.Turn.Hi] #[iv 0,iv 0]) (.bool (((p0.Turn.Lo:Int)==0)&&(((p0.Turn.Hi:Int)==0)&&true)))] 14 [(3,.bool (bif (bif (bif (bif (bif (bif (A9 p0.Power 0 1073741824) then (decide (p0.Power.Lo>0)) else false) then (A9 p0.Ratio 0 1000000) else false) then (A9 p0.Match 0 1000) else false) then (Au p0.Spread 0 65535) else false) then ((((p0.Steps.1.Lo:Int)==0)&&(((p0.Steps.1.Hi:Int)==0)&&true))&&((((p0.Steps.2.Lo:Int)==0)&&(((p0.Steps.2.Hi:Int)==0)&&true))&&true)) else false) then (((p0.Turn.Lo:Int)==0)&&(((p0.Turn.Hi:Int)==0)&&true)) else false))] hF (A0 (obN (us:=[iv p0.Steps.1.Lo,iv p0.Steps.1.Hi,iv p0.Steps.2.Lo,iv p0.Steps.2.Hi]) kr (fun _ hd=>((hS.at_ hd).blk (i:=0) rfl).cells rfl)) (A0 (Mo kr kr) (A0 (obN (us:=[iv p0.Turn.Lo,iv p0.Turn.Hi]) kr (fun _ hd=>((hS.at_ hd).blk (i:=0) rfl).cells rfl)) (A0 (Mo kr kr) Aa)))) fun a hF=>?_
     refine WI.fin rfl (Ac<|A1<|?_)
     exact ⟨bif (bif (bif (bif (bif (bif (A9 p0.Power 0 1073741824) then (decide (p0.Power.Lo>0)) else false) then (A9 p0.Ratio 0 1000000) else false) then (A9 p0.Match 0 1000) else false) then (Au p0.Spread 0 65535) else false) then ((((p0.Steps.1.Lo:Int)==0)&&(((p0.Steps.1.Hi:Int)==0)&&true))&&((((p0.Steps.2.Lo:Int)==0)&&(((p0.Steps.2.Hi:Int)==0)&&true))&&true)) else false) then (((p0.Turn.Lo:Int)==0)&&(((p0.Turn.Hi:Int)==0)&&true)) else false,hF.sub kr,St.pick [0,1] (by decide) hS,h⟩
    ·replace h:=An h hc
     refine WI.region ?_
     refine rn 2 2 [(1,pb b1),(3,.bool (bif (bif (bif (bif (A9 p0.Power 0 1073741824) then (decide (p0.Power.Lo>0)) else false) then (A9 p0.Ratio 0 1000000) else false) then (A9 p0.Match 0 1000) else false) then (Au p0.Spread 0 65535) else false)),(63,.bool (bif (bif (bif (bif (A9 p0.Power 0 1073741824) then (decide (p0.Power.Lo>0)) else false) then (A9 p0.Ratio 0 1000000) else false) then (A9 p0.Match 0 1000) else false) then (Au p0.Spread 0 65535) else false))] hF fun a hF=>?_
     rcases Bool.eq_false_or_eq_true ((bif (bif (bif (bif (A9 p0.Power 0 1073741824) then (decide (p0.Power.Lo>0)) else false) then (A9 p0.Ratio 0 1000000) else false) then (A9 p0.Match 0 1000) else false) then (Au p0.Spread 0 65535) else false)) with a0|a0
     ·replace h:=Ao h a0
      rw [a0] at hF
      refine A0p (n:=8) (obs:=[.run [⟨63,true,true⟩] (Instr.indexAt 86 (.pointer (some ⟨b1,3,none⟩)) (iv 0)) (.pointer (some ⟨b1,3,none⟩)),.run [⟨63,true,true⟩] (Instr.loadAt 85 (.pointer (some ⟨b1,3,none⟩))) (.agg #[iv p0.Steps.1.Lo,iv p0.Steps.1.Hi]),.run [⟨63,true,true⟩] (Instr.indexAt 86 (.pointer (some ⟨b1,3,none⟩)) (iv 1)) (.pointer (some ⟨b1,5,none⟩)),.run [⟨63,true,true⟩] (Instr.loadAt 85 (.pointer (some ⟨b1,5,none⟩))) (.agg #[iv p0.Steps.2.Lo,iv p0.Steps.2.Hi]),.run [⟨63,true,true⟩] (Instr.loadAt 85 (.pointer (some ⟨b1,12,none⟩))) (.agg #[iv p0.Turn.Lo,iv p0.Turn.Hi])]) 10 [(3,⟨[],.bool true⟩),(63,⟨[],.bool true⟩),(66,⟨[⟨63,true,true⟩],.agg #[iv p0.Steps.1.Lo,iv p0.Steps.1.Hi]⟩),(69,⟨[⟨63,true,true⟩],.agg #[iv p0.Steps.2.Lo,iv p0.Steps.2.Hi]⟩),(71,⟨[⟨63,true,true⟩],.agg #[iv p0.Turn.Lo,iv p0.Turn.Hi]⟩)] hF kr (A0 (Ca kr) (A0 (obN (us:=[iv p0.Steps.1.Lo,iv p0.Steps.1.Hi]) kr (fun _ hd=>((hS.at_ hd).blk (i:=0) rfl).cells rfl)) (A0 (Ca kr) (A0 (obN (us:=[iv p0.Steps.2.Lo,iv p0.Steps.2.Hi]) kr (fun _ hd=>((hS.at_ hd).blk (i:=0) rfl).cells rfl)) (A0 (obN (us:=[iv p0.Turn.Lo,iv p0.Turn.Hi]) kr (fun _ hd=>((hS.at_ hd).blk (i:=0) rfl).cells rfl)) Aa))))) ⟨kr⟩ kr rfl fun a hF=>?_
      replace hF:Fr 77 [] [(3,.bool true),(63,.bool true),(66,.agg #[iv p0.Steps.1.Lo,iv p0.Steps.1.Hi]),(69,.agg #[iv p0.Steps.2.Lo,iv p0.Steps.2.Hi]),(71,.agg #[iv p0.Turn.Lo,iv p0.Turn.Hi])] a:=hF
      refine SK.wi (G0 (e:=85) (sz:=2) (f:=api_Span.cells) (t:=42) (len:=3) (fun a1=>[(3,.bool true),(63,.bool true),(72,sb a1 3)]) #[(0,.agg #[iv p0.Steps.1.Lo,iv p0.Steps.1.Hi]),(1,.agg #[iv p0.Steps.2.Lo,iv p0.Steps.2.Hi]),(2,.agg #[iv p0.Turn.Lo,iv p0.Turn.Hi])] #[iv p0.Steps.1.Lo,iv p0.Steps.1.Hi,iv p0.Steps.2.Lo,iv p0.Steps.2.Hi,iv p0.Turn.Lo,iv p0.Turn.Hi] ([(api_Span.mk p0.Steps.1.Lo p0.Steps.1.Hi),(api_Span.mk p0.Steps.2.Lo p0.Steps.2.Hi),p0.Turn]) hF hS kr ⟨kr⟩ kr api_Span.cells_len rfl rfl kr (fun _=>⟨kr⟩) fun a1 w a hF hS=>?_)
      replace h:=A4 h
      obtain ⟨a2,a3,h⟩:=h
      refine rx 3 [.call [⟨63,true,true⟩] 98 #[sb a1 3] (.bool a2)] 14 [(3,.bool a2)] hF (A0 (show Ob.ok _ Ext _ _ from fun hk w2 hd=>R6 F ([(api_Span.mk p0.Steps.1.Lo p0.Steps.1.Hi),(api_Span.mk p0.Steps.2.Lo p0.Steps.2.Hi),p0.Turn]) _ ((fun _=>a3) hk) _ w2 (A7 w2) (Arr.toM ((hS.later hd).arr (i:=0) rfl))) Aa) fun a w hF hx=>?_
      replace hS:=hS.later hx
      refine WI.fin rfl (Ac<|A1<|?_)
      exact ⟨a2,hF.sub kr,St.pick [1,2] (by decide) hS,h⟩
     ·replace h:=An h a0
      rw [a0] at hF
      refine E6 3 [(1,pb b1),(3,.bool false),(63,.bool false),(64,undef)] hF kr ⟨kr⟩ ⟨kr⟩ rfl fun a hF=>?_
      refine E6 4 [(1,pb b1),(3,.bool false),(63,.bool false),(65,undef)] hF kr ⟨kr⟩ ⟨kr⟩ rfl fun a hF=>?_
      refine E6 5 [(1,pb b1),(3,.bool false),(63,.bool false),(66,undef)] hF kr ⟨kr⟩ ⟨kr⟩ rfl fun a hF=>?_
      refine E6 6 [(1,pb b1),(3,.bool false),(63,.bool false),(66,undef),(67,undef)] hF kr ⟨kr⟩ ⟨kr⟩ rfl fun a hF=>?_
      refine E6 7 [(1,pb b1),(3,.bool false),(63,.bool false),(66,undef),(68,undef)] hF kr ⟨kr⟩ ⟨kr⟩ rfl fun a hF=>?_
      refine E6 8 [(1,pb b1),(3,.bool false),(63,.bool false),(66,undef),(69,undef)] hF kr ⟨kr⟩ ⟨kr⟩ rfl fun a hF=>?_
      refine E6 9 [(3,.bool false),(63,.bool false),(66,undef),(69,undef),(70,undef)] hF kr ⟨kr⟩ ⟨kr⟩ rfl fun a hF=>?_
      refine E6 10 [(3,.bool false),(63,.bool false),(66,undef),(69,undef),(71,undef)] hF kr ⟨kr⟩ ⟨kr⟩ rfl fun a hF=>?_
      refine E6 11 [(3,.bool false),(63,.bool false),(72,undef)] hF kr ⟨kr⟩ ⟨kr⟩ rfl fun a hF=>?_
      refine E6 12 [(3,.bool false),(63,.bool false),(73,undef)] hF kr ⟨kr⟩ ⟨kr⟩ rfl fun a hF=>?_
      refine rn 2 14 [(3,.bool false)] hF fun a hF=>?_
      refine WI.fin rfl (Ac<|A1<|?_)
      exact ⟨false,hF.sub kr,St.pick [0,1] (by decide) hS,h⟩
   ·replace h:=An h hc
    refine esr ?_
    refine rn 1 1 [(2,iv 2)] hF fun a hF=>?_
    refine wfn rfl ?_
    refine wpIn_ret (Ar<|Ab<|Ak [.tmp 2] [iv 2] hF rfl ⟨rfl,trivial⟩ ?_)
    have hr_:=Option.some.inj h
    subst hr_
    exact ⟨rfl,hS.ext⟩
 rintro a w ⟨c7,hF,hS,h⟩
 rw [Dr] at h
 refine B0 ?_
 refine esr ?_
 refine rn 2 2 [(76,.bool (!c7))] hF fun a hF=>?_
 refine wfn rfl ?_
 refine As hF rfl (fun hc=>?_) (fun hc=>?_)
 ·replace h:=Ao h hc
  refine esr ?_
  refine rn 1 1 [(2,iv 3)] hF fun a hF=>?_
  refine wfn rfl ?_
  refine wpIn_ret (Ab<|Ak [.tmp 2] [iv 3] hF rfl ⟨rfl,trivial⟩ ?_)
  have hr_:=Option.some.inj h
  subst hr_
  exact ⟨rfl,hS.ext⟩
 ·replace h:=An h hc
  refine wpIn_skip (A1 ?_)
  refine esr ?_
  refine rn 1 1 [(2,iv 0)] hF fun a hF=>?_
  refine wfn rfl ?_
  refine wpIn_ret (Ak [.tmp 2] [iv 0] hF rfl ⟨rfl,trivial⟩ ?_)
  have hr_:=Option.some.inj h
  subst hr_
  exact ⟨rfl,hS.ext⟩
theorem T9 (F:Nat) (p0:api_Field) (p1:Int) (res:Int) (h:Mz F p0 p1=some res) (μ:Frz) (w0:World) (hm:FrzAt μ w0) {ad1:Option Addr} {cap2:Nat} (hA3:ArrM μ 2 api_Span.cells ad1 cap2 p0.Vals):Calls Try.prog 106 #[.agg #[iv p0.Grid.X,iv p0.Grid.Y,iv p0.Grid.Size,iv p0.Grid.Wide,iv p0.Grid.High,sv ad1 p0.Vals cap2],iv p1] w0 (fun e w=>e=.returned (iv res)∧Ext w0 w):=by
 obtain ⟨hlow,hS⟩:=hm.init
 have hext:=Frz.ext_refl w0.heap.size μ
 rw [Mz] at h
 refine Aq Try.func106 rfl 49 [(0,.agg #[iv p0.Grid.X,iv p0.Grid.Y,iv p0.Grid.Size,iv p0.Grid.Wide,iv p0.Grid.High,sv ad1 p0.Vals cap2]),(1,iv p1)] rfl rfl kr fun a w hw hF=>?_
 replace hS:=hS.cast hw
 clear hw
 refine esr ?_
 refine SK.wi (H4 (t:=44) (fun b4=>[(1,iv p1),(2,pb b4)]) (.agg #[iv p0.Grid.X,iv p0.Grid.Y,iv p0.Grid.Size,iv p0.Grid.Wide,iv p0.Grid.High,sv ad1 p0.Vals cap2]) #[iv p0.Grid.X,iv p0.Grid.Y,iv p0.Grid.Size,iv p0.Grid.Wide,iv p0.Grid.High,sv ad1 p0.Vals cap2] hF hS kr ⟨kr⟩ kr (fun _=>⟨kr⟩) fun b4 w a hF hS=>?_)
 refine rn 1 2 [(1,iv p1),(2,pb b4)] hF fun a hF=>?_
 refine wfn rfl ?_
 refine B0 ?_
 refine esr ?_
 refine rx 4 [.run [] (Instr.loadAt 41 (pb b4)) (p0.Grid.ag),.call [] 52 #[p0.Grid.ag] (iv (Bh p0.Grid))] 4 [(1,iv p1),(2,pb b4),(5,iv (Bh p0.Grid))] hF (A0 (obN (us:=p0.Grid.cells) kr (fun _ hd=>((hS.later hd).blk (i:=0) rfl).cells rfl)) (A0 (show Ob.ok _ Ext _ _ from fun hk w2 hd=>Md p0.Grid _ rfl _ w2 (A7 w2)) Aa)) fun a w hF hx=>?_
 replace hS:=hS.later hx
 refine wfn rfl ?_
 refine esr ?_
 refine rn 2 2 [(1,iv p1),(2,pb b4),(5,iv (Bh p0.Grid)),(12,.bool ((Bh p0.Grid) != 0))] hF fun a hF=>?_
 refine wfn rfl ?_
 refine As hF rfl (fun hc=>?_) (fun hc=>?_)
 ·replace h:=Ao h hc
  refine esr ?_
  refine rn 2 2 [(4,iv (Bh p0.Grid))] hF fun a hF=>?_
  refine wfn rfl ?_
  refine wpIn_ret (Ab<|Ak [.tmp 4] [iv (Bh p0.Grid)] hF rfl ⟨rfl,trivial⟩ ?_)
  have hr_:=Option.some.inj h
  subst hr_
  exact ⟨rfl,hS.ext⟩
 ·replace h:=An h hc
  refine wpIn_skip (A1 ?_)
  refine B0 ?_
  refine esr ?_
  replace h:=A4 h
  obtain ⟨x5,hx5,h⟩:=h
  refine rno 11 [.run [] (Instr.loadAt 42 (.pointer (some ⟨b4,5,none⟩))) (sv ad1 p0.Vals cap2),.run [] (Instr.loadAt 3 (.pointer (some ⟨b4,3,none⟩))) (iv p0.Grid.Wide),.run [] (Instr.loadAt 3 (.pointer (some ⟨b4,4,none⟩))) (iv p0.Grid.High),.run [] (binOp .mul 3 (iv p0.Grid.Wide) (iv p0.Grid.High)) (iv x5)] 11 [(1,iv p1),(2,pb b4),(24,.bool ((ln p0.Vals) != x5))] hF (A0 (ob1 kr (fun _ hd=>(hS.at_ hd).cell (i:=0) (j:=5) rfl rfl)) (A0 (ob1 kr (fun _ hd=>(hS.at_ hd).cell (i:=0) (j:=3) rfl rfl)) (A0 (ob1 kr (fun _ hd=>(hS.at_ hd).cell (i:=0) (j:=4) rfl rfl)) (A0 (K8 (fun _=>hx5)) Aa)))) fun a hF=>?_
  refine wfn rfl ?_
  refine As hF rfl (fun hc=>?_) (fun hc=>?_)
  ·replace h:=Ao h hc
   refine esr ?_
   refine rn 1 1 [(4,iv 11)] hF fun a hF=>?_
   refine wfn rfl ?_
   refine wpIn_ret (Ab<|Ak [.tmp 4] [iv 11] hF rfl ⟨rfl,trivial⟩ ?_)
   have hr_:=Option.some.inj h
   subst hr_
   exact ⟨rfl,hS.ext⟩
  ·replace h:=An h hc
   refine wpIn_skip (A1 ?_)
   refine Ei (fun a w=>Fr 49 [] [] a∧St w0 [blk b4 44 #[iv p0.Grid.X,iv p0.Grid.Y,iv p0.Grid.Size,iv p0.Grid.Wide,iv p0.Grid.High,sv ad1 p0.Vals cap2],fz w0 μ] w∧Kz=some res) ?_ ?_
   ·skip
    refine esr ?_
    refine rno 4 [.run [] (Instr.loadAt 42 (.pointer (some ⟨b4,5,none⟩))) (sv ad1 p0.Vals cap2)] 4 [(1,iv p1),(26,sv ad1 p0.Vals cap2),(27,iv (ln p0.Vals)),(28,iv 0)] hF (A0 (ob1 kr (fun _ hd=>(hS.at_ hd).cell (i:=0) (j:=5) rfl rfl)) Aa) fun a hF=>?_
    refine wfn rfl ?_
    refine wpIn_block ?_
    refine E4 (fun n_ a w=>∃(a1:Int),Fr 49 [] [(1,iv p1),(26,sv ad1 p0.Vals cap2),(27,iv (ln p0.Vals)),(28,iv a1)] a∧St w0 [blk b4 44 #[iv p0.Grid.X,iv p0.Grid.Y,iv p0.Grid.Size,iv p0.Grid.Wide,iv p0.Grid.High,sv ad1 p0.Vals cap2],fz w0 μ] w∧He p0 p1 n_ a1=some res) F ⟨0,hF.sub kr,St.pick [0,1] (by decide) hS,h⟩ ?_
    rintro nk2 a w ⟨a1,hF,hS,h⟩
    rcases nk2 with _|nk2
    ·cases (show (none:Option Int)=some res from h)
    obtain ⟨k2,hk2⟩:∃k,k=He p0 p1 nk2:=⟨_,rfl⟩
    replace h:Ky p0 p1 k2 a1=some res:=by rw [hk2];exact h
    rw [Ky] at h
    refine esr ?_
    refine rn 1 1 [(1,iv p1),(26,sv ad1 p0.Vals cap2),(27,iv (ln p0.Vals)),(28,iv a1),(29,.bool (decide (a1<(ln p0.Vals))))] hF fun a hF=>?_
    refine wfn rfl ?_
    refine B0 ?_
    refine As hF rfl (fun hc=>?_) (fun hc=>?_)
    ·replace h:=Ao h hc
     refine wpIn_skip (A1 ?_)
     refine B0 ?_
     refine wpIn_block ?_
     refine esr ?_
     replace h:=A4 h
     obtain ⟨a0,a4,h⟩:=h
     refine rno 2 [.run [] (Instr.indexAt 42 (sv ad1 p0.Vals cap2) (iv a1)) (.pointer (some (Ag ad1 a1 2))),.run [] (Instr.loadAt 85 (.pointer (some (Ag ad1 a1 2)))) (.agg #[iv a0.Lo,iv a0.Hi])] 2 [(1,iv p1),(26,sv ad1 p0.Vals cap2),(27,iv (ln p0.Vals)),(28,iv a1),(31,.agg #[iv a0.Lo,iv a0.Hi])] hF (A0 (Bc (hA3 _ (hS.frz (i:=1) rfl hlow)) kr (fun _=>a4)) (A0 (Ft (m:=2) (i:=a1) (us:=[iv a0.Lo,iv a0.Hi]) 0 api_Span.cells_len (fun _ hd=>(hA3 _ ((hS.at_ hd).frz (i:=1) rfl hlow))) kr (fun _=>a4) ⟨rfl,rfl⟩) Aa)) fun a hF=>?_
     refine SK.wi (Bs (t:=85) (fun a2=>[(1,iv p1),(7,pb a2),(26,sv ad1 p0.Vals cap2),(27,iv (ln p0.Vals)),(28,iv a1),(31,.agg #[iv a0.Lo,iv a0.Hi])]) #[iv 0,iv 0] hF hS kr ⟨kr⟩ kr (fun _=>⟨kr⟩) fun a2 w a hF hS=>?_)
     refine SK.wi (Ap (t:=85) [(1,iv p1),(7,pb a2),(26,sv ad1 p0.Vals cap2),(27,iv (ln p0.Vals)),(28,iv a1)] 0 0 (.agg #[iv a0.Lo,iv a0.Hi]) #[iv a0.Lo,iv a0.Hi] hF hS rfl kr ⟨kr⟩ kr kr kr kr ⟨kr⟩ fun w a hF hS=>?_)
     refine wfn rfl ?_
     refine esr ?_
     refine rno 16 [.run [] (Instr.loadAt 3 (pb a2)) (iv a0.Lo),.run [⟨35,false,(decide (a0.Lo<0))⟩] (Instr.loadAt 3 (.pointer (some ⟨a2,1,none⟩))) (iv a0.Hi),.run [⟨35,false,(decide (a0.Lo<0))⟩] (Instr.loadAt 3 (pb a2)) (iv a0.Lo),.run [⟨42,false,(bif (decide (a0.Lo<0)) then true else (decide (a0.Hi<a0.Lo)))⟩] (Instr.loadAt 3 (.pointer (some ⟨a2,1,none⟩))) (iv a0.Hi)] 16 [(1,iv p1),(26,sv ad1 p0.Vals cap2),(27,iv (ln p0.Vals)),(28,iv a1),(47,.bool (bif (bif (decide (a0.Lo<0)) then true else (decide (a0.Hi<a0.Lo))) then true else (decide (a0.Hi>p1))))] hF (A0 (ob1 kr (fun _ hd=>(hS.at_ hd).cell (i:=0) (j:=0) rfl rfl)) (A0 (ob1 kr (fun _ hd=>(hS.at_ hd).cell (i:=0) (j:=1) rfl rfl)) (A0 (ob1 kr (fun _ hd=>(hS.at_ hd).cell (i:=0) (j:=0) rfl rfl)) (A0 (ob1 kr (fun _ hd=>(hS.at_ hd).cell (i:=0) (j:=1) rfl rfl)) Aa)))) fun a hF=>?_
     refine wfn rfl ?_
     refine As hF rfl (fun hc=>?_) (fun hc=>?_)
     ·replace h:=Ao h hc
      refine esr ?_
      refine rn 1 1 [(4,iv 3)] hF fun a hF=>?_
      refine wfn rfl ?_
      refine wpIn_ret (Ar<|Ab<|Ab<|Ar<|Ab<|Ak [.tmp 4] [iv 3] hF rfl ⟨rfl,trivial⟩ ?_)
      have hr_:=Option.some.inj h
      subst hr_
      exact ⟨rfl,hS.ext⟩
     ·replace h:=An h hc
      refine wpIn_skip (Ac<|A1<|?_)
      refine WI.region ?_
      replace h:=A4 h
      obtain ⟨a3,a5,h⟩:=h
      refine rno 2 [.run [] (binOp .add 3 (iv a1) (iv 1)) (iv a3)] 2 [(1,iv p1),(26,sv ad1 p0.Vals cap2),(27,iv (ln p0.Vals)),(28,iv a3)] hF (A0 (Aw (fun _=>a5)) Aa) fun a hF=>?_
      refine wfn rfl ?_
      rw [hk2] at h
      exact ⟨nk2,Nat.lt_succ_self _,a3,hF.sub kr,St.pick [1,2] (by decide) hS,h⟩
    ·replace h:=An h hc
     refine wpIn_exit (Ad<|Ad<|Bb<|A1 ?_)
     exact ⟨hF.sub kr,St.pick [0,1] (by decide) hS,h⟩
   rintro a w ⟨hF,hS,h⟩
   rw [Kz] at h
   refine esr ?_
   refine rn 1 1 [(4,iv 0)] hF fun a hF=>?_
   refine wfn rfl ?_
   refine wpIn_ret (Ak [.tmp 4] [iv 0] hF rfl ⟨rfl,trivial⟩ ?_)
   have hr_:=Option.some.inj h
   subst hr_
   exact ⟨rfl,hS.ext⟩
theorem H7 (F:Nat) (p0:volume_writer) (p1:api_Span) (res:volume_writer) (h:Di F p0 p1=some res) (μ:Frz) (w0 w1:World) (T_:List Res) (hlow:Ba w0 μ) {cb0:Nat} {ad1:Option Addr} {cap2:Nat} (hS:St w0 (fz w0 μ::blk cb0 106 #[sv ad1 p0.b cap2]::arrT 5 1 (fK .u8) ad1 p0.b.length cap2 p0.b::T_) w1):Dd Try.prog 96 #[pb cb0,.agg #[iv p1.Lo,iv p1.Hi]] w1 (fun e w=>∃(ν_:Frz) (a3:Option Addr) (a5:Nat),μ.ext w0.heap.size ν_∧Ba w0 ν_∧e=(.tuple #[])∧St w0 (fz w0 ν_::blk cb0 106 #[sv a3 res.b a5]::arrT 5 1 (fK .u8) a3 res.b.length a5 res.b::T_) w):=by
 rw [Di] at h
 have hext:=Frz.ext_refl w0.heap.size μ
 refine Aq Try.func96 rfl 17 [(0,pb cb0),(1,.agg #[iv p1.Lo,iv p1.Hi])] rfl rfl kr fun a w hw hF=>?_
 replace hS:=hS.cast hw
 clear hw
 refine esr ?_
 refine SK.wi (H4 (t:=85) (fun b3=>[(0,pb cb0),(3,pb b3)]) (.agg #[iv p1.Lo,iv p1.Hi]) #[iv p1.Lo,iv p1.Hi] hF hS kr ⟨kr⟩ kr (fun _=>⟨kr⟩) fun b3 w a hF hS=>?_)
 refine wfn rfl ?_
 refine esr ?_
 refine rno 3 [.run [] (Instr.loadAt 3 (pb b3)) (iv p1.Lo)] 3 [(0,pb cb0),(3,pb b3),(4,pb cb0),(6,iv p1.Lo)] hF (A0 (ob1 kr (fun _ hd=>(hS.at_ hd).cell (i:=0) (j:=0) rfl rfl)) Aa) fun a hF=>?_
 refine SK.wi (G0 (e:=3) (sz:=1) (f:=fI) (t:=51) (len:=1) (fun b4=>[(0,pb cb0),(3,pb b3),(4,pb cb0),(7,sb b4 1)]) #[(0,iv p1.Lo)] #[iv p1.Lo] ([p1.Lo]) hF hS kr ⟨kr⟩ kr Ee rfl rfl kr (fun _=>⟨kr⟩) fun b4 w a hF hS=>?_)
 obtain ⟨ν5,hx6,hlow,hS,hz7⟩:=hS.freeze (i:=2) (j:=0) rfl rfl (by decide) hlow
 replace hext:=Frz.ext_trans hext hx6
 have hA8:=ArrM.of_arr hz7
 replace h:=A4 h
 obtain ⟨y9,hy9,h⟩:=h
 replace hS:=hS.s3.s3.s3
 refine SK.wi (Bz (fun aD=>[(0,pb cb0),(3,pb b3)]) hF kr ⟨kr⟩ (G1 F _ _ _ hy9 ν5 w0 w _ hlow hA8 hS) (fun _=>⟨kr⟩) ?_)
 rintro aD w a ⟨ν10,aF,aG,a6,hlow,rfl,hS⟩ hF
 replace hext:=Frz.ext_trans hext a6
 replace hA8:=hA8.mono a6.1
 refine wfn rfl ?_
 refine WI.region ?_
 replace h:=A4 h
 obtain ⟨a0,aA,h⟩:=h
 refine rno 6 [.run [] (Instr.loadAt 3 (.pointer (some ⟨b3,1,none⟩))) (iv p1.Hi),.run [] (Instr.loadAt 3 (pb b3)) (iv p1.Lo),.run [] (binOp .sub 3 (iv p1.Hi) (iv p1.Lo)) (iv a0)] 6 [(9,pb cb0),(14,iv a0)] hF (A0 (ob1 kr (fun _ hd=>(hS.at_ hd).cell (i:=3) (j:=1) rfl rfl)) (A0 (ob1 kr (fun _ hd=>(hS.at_ hd).cell (i:=3) (j:=0) rfl rfl)) (A0 (Jk (fun _=>aA)) Aa))) fun a hF=>?_
 refine SK.wi (G0 (e:=3) (sz:=1) (f:=fI) (t:=51) (len:=1) (fun a4=>[(9,pb cb0),(15,sb a4 1)]) #[(0,iv a0)] #[iv a0] ([a0]) hF hS kr ⟨kr⟩ kr Ee rfl rfl kr (fun _=>⟨kr⟩) fun a4 w a hF hS=>?_)
 obtain ⟨ν17,a7,hlow,hS,aC⟩:=hS.freeze (i:=1) (j:=0) rfl rfl (by decide) hlow
 replace hA8:=hA8.mono a7.1
 replace hext:=Frz.ext_trans hext a7
 have a1:=ArrM.of_arr aC
 replace h:=A4 h
 obtain ⟨aH,aB,h⟩:=h
 refine SK.wi (Bz (fun aE=>[]) hF kr ⟨kr⟩ (Ax F _ _ _ aB ν17 w0 w _ hlow a1 hS) (fun _=>⟨kr⟩) ?_)
 rintro aE w a ⟨ν22,a8,a9,a2,hlow,rfl,hS⟩ hF
 replace hext:=Frz.ext_trans hext a2
 replace hA8:=hA8.mono a2.1
 replace a1:=a1.mono a2.1
 refine WI.fin rfl ?_
 refine Hm hF rfl ?_
 have hr_:=Option.some.inj h
 subst hr_
 replace hS:=hS.d3
 exact ⟨_,rfl,ν22,a8,a9,hext,hlow,rfl,hS⟩
theorem Pc (F:Nat) (p0:volume_note) (p1:volume_writer) (res:volume_writer) (h:Ga F p0 p1=some res) (μ:Frz) (w0 w1:World) (T_:List Res) (hlow:Ba w0 μ) {cb1:Nat} {ad1:Option Addr} {cap2:Nat} (hS:St w0 (fz w0 μ::blk cb1 106 #[sv ad1 p1.b cap2]::arrT 5 1 (fK .u8) ad1 p1.b.length cap2 p1.b::T_) w1):Dd Try.prog 111 #[.agg #[iv p0.time,.string p0.text],pb cb1] w1 (fun e w=>∃(ν_:Frz) (a0:Option Addr) (a1:Nat),μ.ext w0.heap.size ν_∧Ba w0 ν_∧e=(.tuple #[])∧St w0 (fz w0 ν_::blk cb1 106 #[sv a0 res.b a1]::arrT 5 1 (fK .u8) a0 res.b.length a1 res.b::T_) w):=by
 rw [Ga] at h
 have hext:=Frz.ext_refl w0.heap.size μ
 refine Aq Try.func111 rfl 13 [(0,.agg #[iv p0.time,.string p0.text]),(1,pb cb1)] rfl rfl kr fun a w hw hF=>?_
 replace hS:=hS.cast hw
 clear hw
 refine esr ?_
 refine SK.wi (H4 (t:=116) (fun b3=>[(1,pb cb1),(2,pb b3)]) (.agg #[iv p0.time,.string p0.text]) #[iv p0.time,.string p0.text] hF hS kr ⟨kr⟩ kr (fun _=>⟨kr⟩) fun b3 w a hF hS=>?_)
 refine wfn rfl ?_
 refine esr ?_
 refine rno 3 [.run [] (Instr.loadAt 3 (pb b3)) (iv p0.time)] 3 [(1,pb cb1),(2,pb b3),(4,pb cb1),(6,iv p0.time)] hF (A0 (ob1 kr (fun _ hd=>(hS.at_ hd).cell (i:=0) (j:=0) rfl rfl)) Aa) fun a hF=>?_
 refine SK.wi (G0 (e:=3) (sz:=1) (f:=fI) (t:=51) (len:=2) (fun b4=>[(1,pb cb1),(2,pb b3),(4,pb cb1),(7,sb b4 2)]) #[(0,iv 3),(1,iv p0.time)] #[iv 3,iv p0.time] ([3,p0.time]) hF hS kr ⟨kr⟩ kr Ee rfl rfl kr (fun _=>⟨kr⟩) fun b4 w a hF hS=>?_)
 obtain ⟨ν5,hx6,hlow,hS,hz7⟩:=hS.freeze (i:=2) (j:=0) rfl rfl (by decide) hlow
 replace hext:=Frz.ext_trans hext hx6
 have hA8:=ArrM.of_arr hz7
 replace h:=A4 h
 obtain ⟨y9,hy9,h⟩:=h
 replace hS:=hS.s3.s3.s3
 refine SK.wi (Bz (fun a7=>[(1,pb cb1),(2,pb b3)]) hF kr ⟨kr⟩ (Ax F _ _ _ hy9 ν5 w0 w _ hlow hA8 hS) (fun _=>⟨kr⟩) ?_)
 rintro a7 w a ⟨ν10,a9,aA,a2,hlow,rfl,hS⟩ hF
 replace hext:=Frz.ext_trans hext a2
 replace hA8:=hA8.mono a2.1
 refine wfn rfl ?_
 refine WI.region ?_
 refine rno 3 [.run [] (Instr.loadAt 9 (.pointer (some ⟨b3,1,none⟩))) (.string p0.text)] 3 [(9,pb cb1),(11,.string p0.text)] hF (A0 (ob1 kr (fun _ hd=>(hS.at_ hd).cell (i:=3) (j:=1) rfl rfl)) Aa) fun a hF=>?_
 replace h:=A4 h
 obtain ⟨aB,a6,h⟩:=h
 refine SK.wi (Bz (fun a8=>[]) hF kr ⟨kr⟩ (H8 F _ _ _ a6 ν10 w0 w _ hlow  hS) (fun _=>⟨kr⟩) ?_)
 rintro a8 w a ⟨ν16,a4,a5,a3,hlow,rfl,hS⟩ hF
 replace hext:=Frz.ext_trans hext a3
 replace hA8:=hA8.mono a3.1
 refine WI.fin rfl ?_
 refine Hm hF rfl ?_
 have hr_:=Option.some.inj h
 subst hr_
 replace hS:=hS.d3
 exact ⟨_,rfl,ν16,a4,a5,hext,hlow,rfl,hS⟩
theorem Cm (F:Nat) (p0:volume_reader) (res:Except (Value×volume_reader) (api_Span×volume_reader)) (h:Bo F p0=some res) (μ:Frz) (w0 w1:World) (T_:List Res) (hlow:Ba w0 μ) {cb0:Nat} {ad1:Option Addr} {cap2:Nat} (hA3:ArrM μ 1 (fK .u8) ad1 cap2 p0.b) (hS:St w0 (fz w0 μ::blk cb0 98 #[sv ad1 p0.b cap2]::T_) w1):Mx Try.prog 54 #[pb cb0] w1 res (fun r_ e w=>∃(ν_:Frz) (a4:Option Addr) (a6:Nat),μ.ext w0.heap.size ν_∧Ba w0 ν_∧e=(.agg #[iv r_.1.Lo,iv r_.1.Hi])∧(ArrM ν_ 1 (fK .u8) a4 a6 r_.2.b)∧St w0 (fz w0 ν_::blk cb0 98 #[sv a4 r_.2.b a6]::T_) w) (fun e_ w=>∃(ν_:Frz) (a5:Option Addr) (a7:Nat),μ.ext w0.heap.size ν_∧Ba w0 ν_∧(ArrM ν_ 1 (fK .u8) a5 a7 e_.b)∧St w0 (fz w0 ν_::blk cb0 98 #[sv a5 e_.b a7]::T_) w):=by
 rw [Bo] at h
 have hext:=Frz.ext_refl w0.heap.size μ
 refine Aq Try.func54 rfl 12 [(0,pb cb0)] rfl rfl kr fun a w hw hF=>?_
 replace hS:=hS.cast hw
 clear hw
 refine esr ?_
 refine SK.wi (Bs (t:=85) (fun b4=>[(0,pb cb0),(2,pb b4)]) #[iv 0,iv 0] hF hS kr ⟨kr⟩ kr (fun _=>⟨kr⟩) fun b4 w a hF hS=>?_)
 refine wfn rfl ?_
 refine esr ?_
 refine rn 1 1 [(0,pb cb0),(2,pb b4),(4,pb cb0)] hF fun a hF=>?_
 replace h:=A4 h
 obtain ⟨y5,hy5,h⟩:=h
 replace hS:=hS.s2.s2
 refine Dv (fun a9=>[(0,pb cb0),(2,pb b4),(5,a9)]) hF kr ⟨kr⟩ (Db F _ _ hy5 μ w0 w _ hlow hA3 hS) (fun _=>⟨kr⟩) ?_ ?_
 ·rintro e7 w he_ ⟨ν14,aB,aE,a8,hlow,aH,hS⟩
  replace h:=G3 h he_
  replace hext:=Frz.ext_trans hext a8
  replace hA3:=hA3.mono a8.1
  refine A6<|B1 hF ?_
  have hr_:=Option.some.inj h
  subst hr_
  replace hS:=hS.d2
  exact .inr ⟨_,rfl,rfl,ν14,aB,aE,hext,hlow,aH,hS⟩
 rintro y6 a9 w a he_ ⟨ν8,aN,aO,hx9,hlow,rfl,a1,hS⟩ hF
 replace h:=G4 h he_
 replace hext:=Frz.ext_trans hext hx9
 replace hA3:=hA3.mono hx9.1
 refine rn 1 3 [(0,pb cb0),(2,pb b4),(3,iv y6.1)] hF fun a hF=>?_
 refine wfn rfl ?_
 refine esr ?_
 refine rn 3 3 [(2,pb b4),(6,iv y6.1),(7,iv y6.1),(8,pb cb0)] hF fun a hF=>?_
 replace h:=A4 h
 obtain ⟨aQ,aL,h⟩:=h
 refine Dv (fun aA=>[(2,pb b4),(6,iv y6.1),(7,iv y6.1),(9,aA)]) hF kr ⟨kr⟩ (Aj F _ _ aL ν8 w0 w _ hlow a1 hS) (fun _=>⟨kr⟩) ?_ ?_
 ·rintro aP w he_ ⟨ν28,aD,aG,a3,hlow,aJ,hS⟩
  replace h:=G3 h he_
  replace hext:=Frz.ext_trans hext a3
  replace hA3:=hA3.mono a3.1
  replace a1:=a1.mono a3.1
  refine A6<|B1 hF ?_
  have hr_:=Option.some.inj h
  subst hr_
  replace hS:=hS.d2
  exact .inr ⟨_,rfl,rfl,ν28,aD,aG,hext,hlow,aJ,hS⟩
 rintro aM aA w a he_ ⟨ν22,aC,aF,a2,hlow,rfl,aI,hS⟩ hF
 replace h:=G4 h he_
 replace hext:=Frz.ext_trans hext a2
 replace hA3:=hA3.mono a2.1
 replace a1:=a1.mono a2.1
 replace h:=A4 h
 obtain ⟨a0,aK,h⟩:=h
 refine rno 2 [.run [] (binOp .add 3 (iv y6.1) (iv aM.1)) (iv a0)] 6 [(2,pb b4),(11,.agg #[iv y6.1,iv a0])] hF (A0 (Aw (fun _=>aK)) Aa) fun a hF=>?_
 refine SK.wi (Ap (t:=85) [(2,pb b4)] 2 0 (.agg #[iv y6.1,iv a0]) #[iv y6.1,iv a0] hF hS rfl kr ⟨kr⟩ kr kr kr kr ⟨kr⟩ fun w a hF hS=>?_)
 refine wfn rfl ?_
 refine wpIn_ret (Ak [.cell 2 85] [.agg #[iv y6.1,iv a0]] hF rfl ⟨⟨_,rfl,Fq (cs:=[iv y6.1,iv a0]) kr ((hS.blk (i:=2) rfl).cells rfl)⟩,trivial⟩ ?_)
 have hr_:=Option.some.inj h
 subst hr_
 replace hS:=hS.d2
 exact .inl ⟨_,_,rfl,rfl,ν22,aC,aF,hext,hlow,rfl,aI,hS⟩
theorem T6 (F:Nat) (p0:(List Int)) (res:Bool) (h:Lg F p0=some res) (μ:Frz) (w0:World) (hm:FrzAt μ w0) {ad1:Option Addr} {cap2:Nat} (hA3:ArrM μ 1 (fK .u8) ad1 cap2 p0):Calls Try.prog 25 #[sv ad1 p0 cap2] w0 (fun e w=>e=.returned (.bool res)∧Ext w0 w):=by
 obtain ⟨hlow,hS⟩:=hm.init
 have hext:=Frz.ext_refl w0.heap.size μ
 rw [Lg] at h
 refine Aq Try.func25 rfl 47 [(0,sv ad1 p0 cap2)] rfl rfl kr fun a w hw hF=>?_
 replace hS:=hS.cast hw
 clear hw
 refine esr ?_
 refine rn 1 1 [(0,sv ad1 p0 cap2)] hF fun a hF=>?_
 refine wfn rfl ?_
 refine esr ?_
 refine rn 1 1 [(0,sv ad1 p0 cap2),(3,.bool true)] hF fun a hF=>?_
 refine wfn rfl ?_
 refine Ei (fun a w=>∃(a3:Bool),Fr 47 [] [(0,sv ad1 p0 cap2),(3,.bool a3)] a∧St w0 [fz w0 μ] w∧Hv F p0 a3=some res) ?_ ?_
 ·skip
  refine esr ?_
  refine rn 3 3 [(0,sv ad1 p0 cap2),(3,.bool true),(9,sv ad1 p0 cap2),(10,iv (ln p0)),(11,iv 0)] hF fun a hF=>?_
  refine wfn rfl ?_
  refine wpIn_block ?_
  refine E4 (fun n_ a w=>∃(a2:Int) (a4:Bool),Fr 47 [] [(0,sv ad1 p0 cap2),(3,.bool a4),(9,sv ad1 p0 cap2),(10,iv (ln p0)),(11,iv a2)] a∧St w0 [fz w0 μ] w∧Gy F p0 n_ a2 a4=some res) F ⟨0,true,hF.sub kr,St.pick [0] (by decide) hS,h⟩ ?_
  rintro nk2 a w ⟨a2,a4,hF,hS,h⟩
  rcases nk2 with _|nk2
  ·cases (show (none:Option Bool)=some res from h)
  obtain ⟨k2,hk2⟩:∃k,k=Gy F p0 nk2:=⟨_,rfl⟩
  replace h:Kj F p0 k2 a2 a4=some res:=by rw [hk2];exact h
  rw [Kj] at h
  refine esr ?_
  refine rn 1 1 [(0,sv ad1 p0 cap2),(3,.bool a4),(9,sv ad1 p0 cap2),(10,iv (ln p0)),(11,iv a2),(12,.bool (decide (a2<(ln p0))))] hF fun a hF=>?_
  refine wfn rfl ?_
  refine B0 ?_
  refine As hF rfl (fun hc=>?_) (fun hc=>?_)
  ·replace h:=Ao h hc
   refine wpIn_skip (A1 ?_)
   refine B0 ?_
   refine wpIn_block ?_
   refine esr ?_
   replace h:=A4 h
   obtain ⟨a5,aA,h⟩:=h
   refine rno 3 [.run [] (Instr.indexAt 23 (sv ad1 p0 cap2) (iv a2)) (.pointer (some (Ag ad1 a2 1))),.run [] (Instr.loadAt 5 (.pointer (some (Ag ad1 a2 1)))) (.int .u8 a5)] 3 [(0,sv ad1 p0 cap2),(3,.bool a4),(5,.int .u8 a5),(9,sv ad1 p0 cap2),(10,iv (ln p0)),(11,iv a2)] hF (A0 (Bc (hA3 _ (hS.frz (i:=0) rfl hlow)) kr (fun _=>aA)) (A0 (Ey (i:=a2) 0 (Cf .u8) (fun _ hd=>(hA3 _ ((hS.at_ hd).frz (i:=0) rfl hlow))) kr (fun _=>aA) rfl) Aa)) fun a hF=>?_
   refine wfn rfl ?_
   refine WI.region ?_
   refine rn 10 10 [(0,sv ad1 p0 cap2),(3,.bool (bif (bif a4 then (decide (a5≥128)) else false) then (decide (a5≤254)) else false)),(9,sv ad1 p0 cap2),(10,iv (ln p0)),(11,iv a2)] hF fun a hF=>?_
   refine WI.fin rfl (Ac<|A1<|?_)
   refine WI.region ?_
   replace h:=A4 h
   obtain ⟨a9,aG,h⟩:=h
   refine rno 2 [.run [] (binOp .add 3 (iv a2) (iv 1)) (iv a9)] 2 [(0,sv ad1 p0 cap2),(3,.bool (bif (bif a4 then (decide (a5≥128)) else false) then (decide (a5≤254)) else false)),(9,sv ad1 p0 cap2),(10,iv (ln p0)),(11,iv a9)] hF (A0 (Aw (fun _=>aG)) Aa) fun a hF=>?_
   refine wfn rfl ?_
   rw [hk2] at h
   exact ⟨nk2,Nat.lt_succ_self _,a9,bif (bif a4 then (decide (a5≥128)) else false) then (decide (a5≤254)) else false,hF.sub kr,St.pick [0] (by decide) hS,h⟩
  ·replace h:=An h hc
   refine wpIn_exit (Ad<|Ad<|Bb<|A1 ?_)
   exact ⟨a4,hF.sub kr,St.pick [0] (by decide) hS,h⟩
 rintro a w ⟨a3,hF,hS,h⟩
 rw [Hv] at h
 refine esr ?_
 refine rn 2 2 [(3,.bool a3),(26,.agg #[sv ad1 p0 cap2])] hF fun a hF=>?_
 refine SK.wi (H4 (t:=98) (fun a1=>[(3,.bool a3),(27,pb a1)]) (.agg #[sv ad1 p0 cap2]) #[sv ad1 p0 cap2] hF hS kr ⟨kr⟩ kr (fun _=>⟨kr⟩) fun a1 w a hF hS=>?_)
 refine rn 1 4 [(3,.bool a3),(6,pb a1)] hF fun a hF=>?_
 refine wfn rfl ?_
 refine esr ?_
 refine rn 1 1 [(3,.bool a3),(6,pb a1),(29,pb a1)] hF fun a hF=>?_
 replace h:=A4 h
 obtain ⟨a0,aH,h⟩:=h
 replace hS:=hS.s1
 refine SK.wi (Bz (fun aC=>[(3,.bool a3),(6,pb a1),(30,aC)]) hF kr ⟨kr⟩ (Ja F _ _ aH μ w0 w _ hlow hA3 hS) (fun _=>⟨kr⟩) ?_)
 rintro aC w a ⟨ν18,aD,aE,aB,hlow,rfl,aI,hS⟩ hF
 replace hext:=Frz.ext_trans hext aB
 replace hA3:=hA3.mono aB.1
 refine rn 5 7 [(3,.bool a3),(6,pb a1),(7,iv a0.1),(8,.bool a0.2.1)] hF fun a hF=>?_
 refine wfn rfl ?_
 refine esr ?_
 refine rn 2 2 [(6,pb a1),(7,iv a0.1),(8,.bool a0.2.1),(34,.bool a3)] hF fun a hF=>?_
 rcases Bool.eq_false_or_eq_true (a3) with a6|a6
 ·replace h:=Ao h a6
  rw [a6] at hF
  refine E6 3 [(6,pb a1),(7,iv a0.1),(34,.bool true),(35,undef)] hF kr ⟨kr⟩ ⟨kr⟩ rfl fun a hF=>?_
  refine E6 4 [(6,pb a1),(7,iv a0.1),(34,.bool true),(36,undef)] hF kr ⟨kr⟩ ⟨kr⟩ rfl fun a hF=>?_
  refine P5 5 [(7,iv a0.1),(34,.bool true),(36,undef),(37,undef)] hF kr ⟨kr⟩ ⟨kr⟩ rfl fun a hF=>?_
  refine P5 6 [(7,iv a0.1),(34,.bool true),(36,undef),(38,undef)] hF kr ⟨kr⟩ ⟨kr⟩ rfl fun a hF=>?_
  refine P5 7 [(7,iv a0.1),(34,.bool true),(36,undef),(39,undef)] hF kr ⟨kr⟩ ⟨kr⟩ rfl fun a hF=>?_
  refine P5 8 [(7,iv a0.1),(34,.bool true),(36,undef),(40,undef)] hF kr ⟨kr⟩ ⟨kr⟩ rfl fun a hF=>?_
  refine P5 9 [(7,iv a0.1),(34,.bool true),(36,undef),(41,undef)] hF kr ⟨kr⟩ ⟨kr⟩ rfl fun a hF=>?_
  refine P5 10 [(34,.bool true),(36,undef),(41,undef),(42,undef)] hF kr ⟨kr⟩ ⟨kr⟩ rfl fun a hF=>?_
  refine P5 11 [(34,.bool true),(36,undef),(41,undef),(43,undef)] hF kr ⟨kr⟩ ⟨kr⟩ rfl fun a hF=>?_
  refine P5 12 [(34,.bool true),(36,undef),(44,undef)] hF kr ⟨kr⟩ ⟨kr⟩ rfl fun a hF=>?_
  refine E6 13 [(34,.bool true),(45,undef)] hF kr ⟨kr⟩ ⟨kr⟩ rfl fun a hF=>?_
  refine rn 2 15 [(2,.bool true)] hF fun a hF=>?_
  refine wfn rfl ?_
  refine wpIn_ret (Ak [.tmp 2] [.bool true] hF rfl ⟨rfl,trivial⟩ ?_)
  have hr_:=Option.some.inj h
  subst hr_
  exact ⟨rfl,hS.ext⟩
 ·replace h:=An h a6
  rw [a6] at hF
  refine A0p (n:=2) (obs:=[]) 4 [(6,⟨[],pb a1⟩),(7,⟨[],iv a0.1⟩),(34,⟨[],.bool false⟩),(36,⟨[⟨34,false,false⟩],.bool a0.2.1⟩)] hF kr Aa ⟨kr⟩ kr rfl fun a hF=>?_
  replace hF:Fr 47 [] [(6,pb a1),(7,iv a0.1),(34,.bool false),(36,.bool a0.2.1)] a:=hF
  rcases Bool.eq_false_or_eq_true (a0.2.1) with a7|a7
  ·replace h:=Ao h a7
   rw [a7] at hF
   replace h:=A4 h
   obtain ⟨a8,aF,h⟩:=h
   refine rno 11 [.run [⟨36,true,true⟩] (Instr.loadAt 23 (pb a1)) (sv aD a0.2.2.b aE),.run [⟨36,true,true⟩] (binOp .add 3 (iv a0.1) (iv 5)) (iv a8)] 15 [(2,.bool (decide ((ln a0.2.2.b)<a8)))] hF (A0 (ob1 kr (fun _ hd=>(hS.at_ hd).cell (i:=1) (j:=0) rfl rfl)) (A0 (Aw (fun _=>aF)) Aa)) fun a hF=>?_
   refine wfn rfl ?_
   refine wpIn_ret (Ak [.tmp 2] [.bool (decide ((ln a0.2.2.b)<a8))] hF rfl ⟨rfl,trivial⟩ ?_)
   have hr_:=Option.some.inj h
   subst hr_
   exact ⟨rfl,hS.ext⟩
  ·replace h:=An h a7
   rw [a7] at hF
   refine E6 5 [(7,iv a0.1),(34,.bool false),(36,.bool false),(37,undef)] hF kr ⟨kr⟩ ⟨kr⟩ rfl fun a hF=>?_
   refine E6 6 [(7,iv a0.1),(34,.bool false),(36,.bool false),(38,undef)] hF kr ⟨kr⟩ ⟨kr⟩ rfl fun a hF=>?_
   refine E6 7 [(7,iv a0.1),(34,.bool false),(36,.bool false),(39,undef)] hF kr ⟨kr⟩ ⟨kr⟩ rfl fun a hF=>?_
   refine E6 8 [(7,iv a0.1),(34,.bool false),(36,.bool false),(40,undef)] hF kr ⟨kr⟩ ⟨kr⟩ rfl fun a hF=>?_
   refine E6 9 [(7,iv a0.1),(34,.bool false),(36,.bool false),(41,undef)] hF kr ⟨kr⟩ ⟨kr⟩ rfl fun a hF=>?_
   refine E6 10 [(34,.bool false),(36,.bool false),(41,undef),(42,undef)] hF kr ⟨kr⟩ ⟨kr⟩ rfl fun a hF=>?_
   refine E6 11 [(34,.bool false),(36,.bool false),(41,undef),(43,undef)] hF kr ⟨kr⟩ ⟨kr⟩ rfl fun a hF=>?_
   refine E6 12 [(34,.bool false),(36,.bool false),(44,undef)] hF kr ⟨kr⟩ ⟨kr⟩ rfl fun a hF=>?_
   refine rn 3 15 [(2,.bool false)] hF fun a hF=>?_
   refine wfn rfl ?_
   refine wpIn_ret (Ak [.tmp 2] [.bool false] hF rfl ⟨rfl,trivial⟩ ?_)
   have hr_:=Option.some.inj h
   subst hr_
   exact ⟨rfl,hS.ext⟩
end Go.Proofs.Ytifbomimeodibaa
