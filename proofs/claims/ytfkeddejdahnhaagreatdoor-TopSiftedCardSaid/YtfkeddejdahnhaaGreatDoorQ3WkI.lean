import Derived.Test.YtfkeddejdahnhaaGreatDoorQ3XD
import Derived.Test.YtfkeddejdahnhaaGreatDoorQ3WkK
import Derived.Test.YtfkeddejdahnhaaGreatDoorQ3WkM
import Derived.Shelf.Sort.Plain
import Derived.Shelf.Slices.CompactI
set_option linter.unusedVariables false
set_option linter.unusedSimpArgs false
set_option linter.unusedSectionVars false
namespace Go.Proofs.YtfkeddejdahnhaaGreatDoor
open Go Go.RowKit Go.Eng Go.Sort Go.Shelf Go.Lib
set_option maxRecDepth 100000
theorem Zi (x:Int):∀l:List Int,(A0i x l).Perm (x::l)
 | []=>.refl _
 | y::l=>by
  unfold A0i
  cases decide (x<=y) with
  | true=>exact .refl _
  | false=>exact ((Zi x l).cons y).trans (.swap x y l)
theorem Vd:∀l:List Int,(sortI l).Perm l
 | []=>.refl _
 | x::l=>(Zi x (sortI l)).trans ((Vd l).cons x)
theorem A05 (x:Int):∀l:List Int,l.Pairwise (·<=·)->(A0i x l).Pairwise (·<=·)
 | [],_=>by unfold A0i;simp
 | y::l,h=>by
  have h1:=List.pairwise_cons.1 h;unfold A0i
  cases hd:decide (x<=y) with
  | true =>
   have:=of_decide_eq_true hd;refine List.pairwise_cons.2 ⟨λz hz=>?_,h⟩;rcases List.mem_cons.1 hz with rfl|hz
   ·exact this
   ·have:=h1.1 z hz;omega
  | false =>
   have:=of_decide_eq_false hd;refine List.pairwise_cons.2 ⟨λz hz=>?_,A05 x l h1.2⟩;rcases List.mem_cons.1 ((Zi x l).mem_iff.1 hz) with rfl|hz
   ·omega
   ·exact h1.1 z hz
theorem Z7:∀l:List Int,(sortI l).Pairwise (·<=·)
 | []=>.nil
 | x::l=>A05 x _ (Z7 l)
theorem B33 (l:List Int):(l.mergeSort λx y=>decide (x<=y))=sortI l:=by
 refine List.Perm.eq_of_pairwise (le:=(·<=·)) (λa b _ _ h1 h2=>by omega) ?_ (Z7 l) ((List.mergeSort_perm _ _).trans (Vd l).symm);have h:=List.pairwise_mergeSort (le:=λx y:Int=>decide (x<=y)) (λa b c h1 h2=>by simp at *;omega) (λa b=>by simp;omega) l;exact h.imp λh=>of_decide_eq_true h
theorem B64 (d:Array Int) (j:Nat) (h:j<d.size):(flatK fI 1 d)[j]! = .int .i64 d[j]!:=by
 rw [get_flatK fI 1 d j om,Nat.div_one,Nat.mod_one];rfl
theorem B1i {w:World} {b:Nat} {d:Array Int} (h:HoldsK fI 1 w b 0 d):Holds (Value.int .i64) w b 0 d:=by
 intro j hj;have:=h j (by simpa using hj)
 rwa [B64 d j hj] at this
theorem C0d (w:World) (b:Nat) (d:Array Int):putRow (Value.int .i64) w b 0 d=putRowK fI 1 w b 0 d:=by
 unfold putRowK putRow
 congr 1
 funext c
 unfold putCells
 congr 1
 funext k x
 rw [size_flatK,Nat.mul_one]
 split
 ·rename_i h
  rw [B64 d _ om];rfl
 ·rfl
theorem B1f (w:World):grow w #[]=w:=by unfold grow;simp
end Go.Proofs.YtfkeddejdahnhaaGreatDoor
