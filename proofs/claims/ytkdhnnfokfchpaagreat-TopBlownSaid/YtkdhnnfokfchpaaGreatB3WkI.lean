import Derived.Test.YtkdhnnfokfchpaaGreatB3XD
import Derived.Test.YtkdhnnfokfchpaaGreatB3WkK
import Derived.Test.YtkdhnnfokfchpaaGreatB3WkM
import Derived.Shelf.Sort.Plain
import Derived.Shelf.Slices.CompactI
set_option linter.unusedVariables false
set_option linter.unusedSimpArgs false
set_option linter.unusedSectionVars false
namespace Go.Proofs.YtkdhnnfokfchpaaGreat
open Go Go.RowKit Go.Eng Go.Sort Go.Shelf Go.Lib
set_option linter.unusedVariables false
set_option maxRecDepth 100000
theorem Ti (x:Int):∀l:List Int,(Uh x l).Perm (x::l)
 | []=>.refl _
 | y::l=>by
  unfold Uh
  cases decide (x<=y) with
  | true=>exact .refl _
  | false=>exact ((Ti x l).cons y).trans (.swap x y l)
theorem Q2:∀l:List Int,(sortI l).Perm l
 | []=>.refl _
 | x::l=>(Ti x (sortI l)).trans ((Q2 l).cons x)
theorem U5 (x:Int):∀l:List Int,l.Pairwise (·<=·)->(Uh x l).Pairwise (·<=·)
 | [],_=>by unfold Uh;simp
 | y::l,h=>by
  have h1:=List.pairwise_cons.1 h;unfold Uh
  cases hd:decide (x<=y) with
  | true =>
   have:=of_decide_eq_true hd;refine List.pairwise_cons.2 ⟨λz hz=>?_,h⟩;rcases List.mem_cons.1 hz with rfl|hz
   ·exact this
   ·have:=h1.1 z hz;omega
  | false =>
   have:=of_decide_eq_false hd;refine List.pairwise_cons.2 ⟨λz hz=>?_,U5 x l h1.2⟩;rcases List.mem_cons.1 ((Ti x l).mem_iff.1 hz) with rfl|hz
   ·omega
   ·exact h1.1 z hz
theorem T0:∀l:List Int,(sortI l).Pairwise (·<=·)
 | []=>.nil
 | x::l=>U5 x _ (T0 l)
theorem A5m (l:List Int):(l.mergeSort λx y=>decide (x<=y))=sortI l:=by
 refine List.Perm.eq_of_pairwise (le:=(·<=·)) (λa b _ _ h1 h2=>by omega) ?_ (T0 l) ((List.mergeSort_perm _ _).trans (Q2 l).symm);have h:=List.pairwise_mergeSort (le:=λx y:Int=>decide (x<=y)) (λa b c h1 h2=>by simp at *;omega) (λa b=>by simp;omega) l;exact h.imp λh=>of_decide_eq_true h
theorem A7v (d:Array Int) (j:Nat) (h:j<d.size):(flatK fI 1 d)[j]! = .int .i64 d[j]!:=by
 rw [get_flatK fI 1 d j (by omega),Nat.div_one,Nat.mod_one];rfl
theorem A4k {w:World} {b:Nat} {d:Array Int} (h:HoldsK fI 1 w b 0 d):Holds (Value.int .i64) w b 0 d:=by
 intro j hj;have:=h j (by simpa using hj)
 rwa [A7v d j hj] at this
theorem B0i (w:World) (b:Nat) (d:Array Int):putRow (Value.int .i64) w b 0 d=putRowK fI 1 w b 0 d:=by
 unfold putRowK putRow
 congr 1
 funext c
 unfold putCells
 congr 1
 funext k x
 rw [size_flatK,Nat.mul_one]
 split
 ·rename_i h
  rw [A7v d _ (by omega)];rfl
 ·rfl
theorem A4h (w:World):grow w #[]=w:=by unfold grow;simp
end Go.Proofs.YtkdhnnfokfchpaaGreat
