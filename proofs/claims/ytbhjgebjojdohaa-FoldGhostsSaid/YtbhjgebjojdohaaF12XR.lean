import Derived.Test.YtbhjgebjojdohaaF12XD
import Derived.Test.YtbhjgebjojdohaaProg
import Derived.OpenShut
import Derived.ChangeArms
namespace Go.Proofs.Ytbhjgebjojdohaa
open Go Go.RowKit Go.Eng
set_option linter.unusedVariables false
def ok5 (x:Int):Prop:=0≤x∧x≤255
theorem rd5 {H:Type} {enc:TypeId×Value→H} {w:World} {cs:List Value} (h:Reads enc Try.prog w 5 cs):∃(x:Int),cs=[.int .u8 x]∧ok5 x:=by
  obtain ⟨n,e,k⟩:=Reads.int Try.underlying5 h;exact ⟨n,e,bounds_u8 k⟩
def A25 (x:(Int×Int)):Prop:=ok5 x.1∧ok5 x.2
theorem A26 {H:Type} {enc:TypeId×Value→H} {w:World} {cs:List Value} (h:Reads enc Try.prog w 95 cs):∃(x:(Int×Int)),cs=[.int .u8 x.1,.int .u8 x.2]∧A25 x:=by
  have hl:=(Reads.arrLen Try.underlying95 h).trans (show Try.prog.cellsOf 95=2 by kernel_rfl)
  match cs,hl with
  | [c0,c1],_ =>
    obtain ⟨x0,e0,k0⟩:=rd5 (Reads.part Try.underlying95 h 0 (by decide) 1 (by kernel_rfl));replace e0:[c0]=_:=e0;simp only [List.cons.injEq,and_true] at e0;obtain ⟨x1,e1,k1⟩:=rd5 (Reads.part Try.underlying95 h 1 (by decide) 1 (by kernel_rfl));replace e1:[c1]=_:=e1;simp only [List.cons.injEq,and_true] at e1;obtain rfl:=e0;obtain rfl:=e1;exact ⟨⟨x0,x1⟩,rfl,k0,k1⟩
def A24 (l:(List Int)):Prop:=∀y∈l,ok5 y
theorem A14 {H:Type} {enc:TypeId×Value→H} {w:World} {cs:List Value} (h:Reads enc Try.prog w 91 cs):∃(x:(List Int)) (ad1:Option Addr) (cap2:Nat),cs=[.slice ad1 x.length cap2]∧ArrM (Ap w) 1 (fK .u8) ad1 cap2 x∧A24 x:=by
  obtain ⟨ad,cap,l,e,hA,k⟩:=Reads.slice (f:=(fK .u8)) (ok:=ok5) (sz:=1) Try.underlying91 (by kernel_rfl) (by decide) (fun c _ hr=>rd5 hr) (Gp .u8) h;exact ⟨l,ad,cap,e,hA,k⟩
end Go.Proofs.Ytbhjgebjojdohaa
