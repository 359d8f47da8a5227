import Derived.Test.YtkbjbnkkfifbmaaGreatF8WnK
import Derived.Test.YtkbjbnkkfifbmaaGreatF8XK
set_option linter.unusedVariables false
set_option linter.unusedSimpArgs false
set_option linter.unusedSectionVars false
namespace Go.Eng
open Go Go.RowKit
theorem St.arrTake {w w0:World} {H:List Res} {α:Type} {e sz n cap:Nat} {f:α→List Value} {ad:Option Addr} {l:List α} {i k:Nat} (hS:St w0 H w) (hi:H[i]? = some (Go.Eng.arr e sz f ad n cap l)) (hf:∀x,(f x).length=sz) (hk:k≤l.length):St w0 (H.set i (Go.Eng.arr e sz f ad k cap (l.take k))) w:=by
 have hold:=hS.holds _ (List.mem_of_getElem? hi);have hl:l.length=n:=hold.1;have htl:(l.take k).length=k:=by rw [List.length_take];omega
 have hfl:(l.take k).flatMap f=(l.flatMap f).take (k*sz):=by
  have e2:l.flatMap f=(l.take k).flatMap f++(l.drop k).flatMap f:=by rw [←List.flatMap_append,List.take_append_drop]
  have e3:((l.take k).flatMap f).length=k*sz:=by rw [Ci hf,htl]
  rw [e2,←e3,List.take_left]
 refine hS.upd hi rfl rfl rfl (Nat.le_refl _) (fun _ _ _=>rfl) ⟨htl,by rw [Ci hf,htl],?_⟩ (fun q hq=>.inl (by cases ad<;>exact hq))
 rcases hold.2.2 with ⟨h',hz⟩|⟨g,cap',cur,h',hbase,hg,hnc,hcm,hcs,htake⟩
 ·cases h'
  exact .inl ⟨by rw [show k=0 by omega],by omega⟩
 ·cases h'
  refine .inr ⟨g,cap,cur,rfl,hbase,hg,by omega,hcm,hcs,?_⟩;rw [hfl,←htake,List.take_take,Nat.min_eq_left (Nat.mul_le_mul_right sz (by omega))]
end Go.Eng
namespace Go.Proofs.YtkbjbnkkfifbmaaGreat
open Go Go.RowKit Go.Eng
set_option linter.unusedVariables false
set_option maxRecDepth 10000
set_option maxHeartbeats 4000000
end Go.Proofs.YtkbjbnkkfifbmaaGreat
