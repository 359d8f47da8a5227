import Derived.Test.YtbhjgebjojdohaaF7XD
import Derived.Test.YtbhjgebjojdohaaProg
import Derived.OpenShut
import Derived.ChangeArms
namespace Go.Proofs.Ytbhjgebjojdohaa
open Go Go.RowKit Go.Eng
set_option linter.unusedVariables false
def ok3 (x:Int):Prop:=-9223372036854775808≤x∧x≤9223372036854775807
theorem rd3 {H:Type} {enc:TypeId×Value→H} {w:World} {cs:List Value} (h:Reads enc Try.prog w 3 cs):∃(x:Int),cs=[.int .i64 x]∧ok3 x:=by
  obtain ⟨n,e,k⟩:=Reads.int Try.underlying3 h;exact ⟨n,e,bounds_i64 k⟩
def A5k (x:api_Span):Prop:=ok3 x.Lo∧ok3 x.Hi
theorem A70 {H:Type} {enc:TypeId×Value→H} {w:World} {cs:List Value} (h:Reads enc Try.prog w 25 cs):∃(x:api_Span),cs=[.int .i64 x.Lo,.int .i64 x.Hi]∧A5k x:=by
  have hl:=(Reads.len Try.underlying25 h).trans (show Try.prog.cellsOf 25=2 by kernel_rfl)
  match cs,hl with
  | [c0,c1],_ =>
    obtain ⟨x0,e0,k0⟩:=rd3 (Reads.field Try.underlying25 h 0 rfl 1 (by kernel_rfl));replace e0:[c0]=_:=e0;simp only [List.cons.injEq,and_true] at e0;obtain ⟨x1,e1,k1⟩:=rd3 (Reads.field Try.underlying25 h 1 rfl 1 (by kernel_rfl));replace e1:[c1]=_:=e1;simp only [List.cons.injEq,and_true] at e1;obtain rfl:=e0;obtain rfl:=e1;exact ⟨⟨x0,x1⟩,rfl,k0,k1⟩
def A6z (l:(List api_Span)):Prop:=∀y∈l,A5k y
theorem A6m {H:Type} {enc:TypeId×Value→H} {w:World} {cs:List Value} (h:Reads enc Try.prog w 43 cs):∃(x:(List api_Span)) (ad1:Option Addr) (cap2:Nat),cs=[.slice ad1 x.length cap2]∧ArrM (Gx w) 2 api_Span.cells ad1 cap2 x∧A6z x:=by
  obtain ⟨ad,cap,l,e,hA,k⟩:=Reads.slice (f:=api_Span.cells) (ok:=A5k) (sz:=2) Try.underlying43 (by kernel_rfl) (by decide) (fun c _ hr=>A70 hr) api_Span.cells_len h;exact ⟨l,ad,cap,e,hA,k⟩
end Go.Proofs.Ytbhjgebjojdohaa
