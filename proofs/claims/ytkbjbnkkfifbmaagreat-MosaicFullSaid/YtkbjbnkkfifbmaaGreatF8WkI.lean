import Derived.Test.YtkbjbnkkfifbmaaGreatF8WkH
set_option linter.unusedVariables false
set_option linter.unusedSimpArgs false
set_option linter.unusedSectionVars false
namespace Go.Proofs.YtkbjbnkkfifbmaaGreat
open Go Go.RowKit Go.Eng
set_option linter.unusedVariables false
set_option maxRecDepth 10000
set_option maxHeartbeats 4000000
theorem Ry (ad:Option Addr) (m sz:Nat):Fc ad m 0 sz=ad:=by
 unfold Fc
 split
 ·rfl
 ·cases ad with
  | none=>rfl
  | some a=>simp [Addr.add]
theorem Nn {α:Type} {l:List α} {i:Nat} (u:α) (h:i<l.length):(l.set i u).take (i+1)=l.take i++[u]:=by
 rw [List.take_add_one,List.getElem?_set_self h]
 congr 1
 apply List.ext_getElem?;intro q
 by_cases hq:q<i
 ·rw [List.getElem?_take_of_lt hq,List.getElem?_take_of_lt hq,List.getElem?_set_ne (by omega)]
 ·rw [List.getElem?_eq_none (by simp;omega),List.getElem?_eq_none (by simp;omega)]
end Go.Proofs.YtkbjbnkkfifbmaaGreat
