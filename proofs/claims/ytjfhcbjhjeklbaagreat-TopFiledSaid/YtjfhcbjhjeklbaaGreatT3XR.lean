import Derived.Test.YtjfhcbjhjeklbaaGreatT3XD
import Derived.OpenShut
import Derived.ChangeArms
namespace Go.Proofs.YtjfhcbjhjeklbaaGreat
open Go Go.RowKit Go.Eng
set_option linter.unusedVariables false
def ok5 (x:Int):Prop:=0<=x/\x<=255
theorem rd5 {H:Type} {enc:TypeId×Value->H} {w:World} {cs:List Value} (h:Reads enc Tryz.prog w 5 cs):∃(x:Int),cs=[.int .u8 x]/\ok5 x:=by
  obtain ⟨n,e,k⟩:=Reads.int Tryz.underlying5 h;exact ⟨n,e,bounds_u8 k⟩
def B3w (x:(Int×Int×Int)):Prop:=ok5 x.1/\ok5 x.2.1/\ok5 x.2.2
theorem B7g {H:Type} {enc:TypeId×Value->H} {w:World} {cs:List Value} (h:Reads enc Tryz.prog w 59 cs):∃(x:(Int×Int×Int)),cs=[.int .u8 x.1,.int .u8 x.2.1,.int .u8 x.2.2]/\B3w x:=by
  have hl:=(Reads.arrLen Tryz.underlying59 h).trans (show Tryz.prog.cellsOf 59=3 by kernel_rfl)
  match cs,hl with
  | [c0,c1,c2],_ =>
    obtain ⟨x0,e0,k0⟩:=rd5 (Reads.part Tryz.underlying59 h 0 (by decide) 1 (by kernel_rfl));replace e0:[c0]=_:=e0;simp only [List.cons.injEq,and_true] at e0;obtain ⟨x1,e1,k1⟩:=rd5 (Reads.part Tryz.underlying59 h 1 (by decide) 1 (by kernel_rfl));replace e1:[c1]=_:=e1;simp only [List.cons.injEq,and_true] at e1;obtain ⟨x2,e2,k2⟩:=rd5 (Reads.part Tryz.underlying59 h 2 (by decide) 1 (by kernel_rfl));replace e2:[c2]=_:=e2;simp only [List.cons.injEq,and_true] at e2;obtain rfl:=e0;obtain rfl:=e1;obtain rfl:=e2;exact ⟨⟨x0,x1,x2⟩,rfl,k0,k1,k2⟩
def B62 (l:(List (Int×Int×Int))):Prop:=∀y∈l,B3w y
theorem B7c {H:Type} {enc:TypeId×Value->H} {w:World} {cs:List Value} (h:Reads enc Tryz.prog w 22 cs):∃(x:(List (Int×Int×Int))) (ad1:Option Addr) (cap2:Nat),cs=[.slice ad1 x.length cap2]/\ArrM (Cv w) 3 ar59.cells ad1 cap2 x/\B62 x:=by
  obtain ⟨ad,cap,l,e,hA,k⟩:=Reads.slice (f:=ar59.cells) (ok:=B3w) (sz:=3) Tryz.underlying22 (by kernel_rfl) (by decide) (λc _ hr=>B7g hr) ar59.cells_len h;exact ⟨l,ad,cap,e,hA,k⟩
def B3v (x:Int):Prop:=0<=x/\x<=4294967295
theorem B6d {H:Type} {enc:TypeId×Value->H} {w:World} {cs:List Value} (h:Reads enc Tryz.prog w 23 cs):∃(x:Int),cs=[.int .u32 x]/\B3v x:=by
  obtain ⟨n,e,k⟩:=Reads.int Tryz.underlying23 h;exact ⟨n,e,bounds_u32 k⟩
def B63 (l:(List Int)):Prop:=∀y∈l,ok5 y
theorem B7d {H:Type} {enc:TypeId×Value->H} {w:World} {cs:List Value} (h:Reads enc Tryz.prog w 24 cs):∃(x:(List Int)) (ad1:Option Addr) (cap2:Nat),cs=[.slice ad1 x.length cap2]/\ArrM (Cv w) 1 (fK .u8) ad1 cap2 x/\B63 x:=by
  obtain ⟨ad,cap,l,e,hA,k⟩:=Reads.slice (f:=(fK .u8)) (ok:=ok5) (sz:=1) Tryz.underlying24 (by kernel_rfl) (by decide) (λc _ hr=>rd5 hr) (Cr .u8) h;exact ⟨l,ad,cap,e,hA,k⟩
def B64 (x:Int):Prop:=0<=x/\x<=65535
theorem B7e {H:Type} {enc:TypeId×Value->H} {w:World} {cs:List Value} (h:Reads enc Tryz.prog w 25 cs):∃(x:Int),cs=[.int .u16 x]/\B64 x:=by
  obtain ⟨n,e,k⟩:=Reads.int Tryz.underlying25 h;exact ⟨n,e,bounds_u16 k⟩
def B7a (x:top_Filed):Prop:=B62 x.Messages/\B3v x.First/\B3v x.Second/\B63 x.Order/\B64 x.Time
theorem B7f {H:Type} {enc:TypeId×Value->H} {w:World} {cs:List Value} (h:Reads enc Tryz.prog w 27 cs):∃(x:top_Filed) (ad1:Option Addr) (cap2:Nat) (ad3:Option Addr) (cap4:Nat),cs=[.slice ad1 x.Messages.length cap2,.int .u32 x.First,.int .u32 x.Second,.slice ad3 x.Order.length cap4,.int .u16 x.Time]/\ArrM (Cv w) 3 ar59.cells ad1 cap2 x.Messages/\ArrM (Cv w) 1 (fK .u8) ad3 cap4 x.Order/\B7a x:=by
  have hl:=(Reads.len Tryz.underlying27 h).trans (show Tryz.prog.cellsOf 27=5 by kernel_rfl)
  match cs,hl with
  | [c0,c1,c2,c3,c4],_ =>
    obtain ⟨x0,ad1_0,cap2_0,e0,f0_0,k0⟩:=B7c (Reads.field Tryz.underlying27 h 0 rfl 1 (by kernel_rfl));replace e0:[c0]=_:=e0;simp only [List.cons.injEq,and_true] at e0;obtain ⟨x1,e1,k1⟩:=B6d (Reads.field Tryz.underlying27 h 1 rfl 1 (by kernel_rfl));replace e1:[c1]=_:=e1;simp only [List.cons.injEq,and_true] at e1;obtain ⟨x2,e2,k2⟩:=B6d (Reads.field Tryz.underlying27 h 2 rfl 1 (by kernel_rfl));replace e2:[c2]=_:=e2;simp only [List.cons.injEq,and_true] at e2;obtain ⟨x3,ad1_3,cap2_3,e3,f3_0,k3⟩:=B7d (Reads.field Tryz.underlying27 h 3 rfl 1 (by kernel_rfl));replace e3:[c3]=_:=e3;simp only [List.cons.injEq,and_true] at e3;obtain ⟨x4,e4,k4⟩:=B7e (Reads.field Tryz.underlying27 h 4 rfl 1 (by kernel_rfl));replace e4:[c4]=_:=e4;simp only [List.cons.injEq,and_true] at e4;obtain rfl:=e0;obtain rfl:=e1;obtain rfl:=e2;obtain rfl:=e3;obtain rfl:=e4;exact ⟨⟨x0,x1,x2,x3,x4⟩,ad1_0,cap2_0,ad1_3,cap2_3,rfl,f0_0,f3_0,k0,k1,k2,k3,k4⟩
end Go.Proofs.YtjfhcbjhjeklbaaGreat
