import Derived.Test.YtbhjgebjojdohaaF12EE
import Derived.RecoverIn
import Derived.ProofKit
import Derived.OpenShut
import Derived.ChangeOld
import Derived.Carry
import Derived.DataElems
import Derived.Laws.StructEq
import Derived.Shelf.SlSortCmp.WholeK
import Derived.Shelf.SlSortCmp.NoneTotal
import Derived.Laws.BytesString
import Derived.Lib.ConvBytes
import Derived.LoopNIn
import Derived.Lib.Bytes
import Derived.Lib.Bytealg
import Derived.Lib.Strings
import Derived.Shelf.GgClosure.StringsIndexFunc
import Derived.Lib.LaidTab
import Derived.Lib.ItoaMem
import Derived.Lib.UnsafeStr
import Derived.MapKept
import Derived.Scope
import Derived.Maps.RangeRun
import Derived.Lib.AppendZerosOnto
import Derived.Laws.Externs
set_option linter.unusedVariables false
set_option linter.unusedSimpArgs false
set_option linter.unusedSectionVars false
namespace Go.Eng
open Go Go.RowKit
def ck (x:Int):Option Int:=if -9223372036854775808≤x∧x≤9223372036854775807 then some x else none
def W6 (x y:Int):Option Int:=if y=0 then none else ck (x.tdiv y)
def By (x y:Int):Option Int:=if y=0 then none else some (x.tmod y)
def getI {α:Type} (l:List α) (i:Int):Option α:=if 0≤i then l[i.toNat]? else none
def Cb {α:Type} (l:List α) (i:Int) (x:α):Option (List α):=if 0≤i∧i<l.length then some (l.set i.toNat x) else none
def Nz {α:Type} (l:List α) (lo hi:Int):Option (List α):=if 0≤lo∧lo≤hi∧hi≤l.length then some ((l.drop lo.toNat).take (hi.toNat-lo.toNat)) else none
def apd {α:Type} (B:Nat) (l k:List α):Option (List α):=if (l.length+k.length)*B≤140737488355328∧l.length+k.length≤9223372036854775807 then some (l++k) else none
def mkI {α:Type} (B:Nat) (n:Int) (x:α):Option (List α):=if 0≤n∧B*n.toNat≤281474976710656∧n≤9223372036854775807 then some (List.replicate n.toNat x) else none
def gd {α:Type} (g:Bool) (o:Option α) (d:α):Option α:=bif g then o else some d
theorem A6 {α β:Type} {o:Option α} {f:α→Option β} {r:β} (h:o.bind f=some r):∃x,o=some x∧f x=some r:=Option.bind_eq_some_iff.1 h
theorem Co {α:Type} {g:Bool} {o:Option α} {d x:α} (h:gd g o d=some x) (hg:g=true):o=some x:=by subst hg;exact h
theorem A1e {α:Type} {c:Bool} {x y z:α} (h:(bif c then x else y)=z) (hc:c=true):x=z:=by subst hc;exact h
theorem A1d {α:Type} {c:Bool} {x y z:α} (h:(bif c then x else y)=z) (hc:c=false):y=z:=by subst hc;exact h
theorem Lr {x y:Int} (h:ck x=some y):y=x∧-9223372036854775808≤x∧x≤9223372036854775807:=by
 unfold ck at h
 split at h
 ·cases h;exact ⟨rfl,by assumption⟩
 ·cases h
theorem Db {α:Type} {l:List α} {i:Int} {x:α} (h:getI l i=some x):0≤i∧i<l.length∧l[i.toNat]? = some x:=by
 unfold getI at h
 split at h
 ·have:=(List.getElem?_eq_some_iff.1 h).1;exact ⟨by assumption,by omega,h⟩
 ·cases h
section
variable {P:Program} {T:World→World→Prop} {D:World→Prop} {w w':World} {cs:List Cd} {t:TypeId} {x y z:Int}
theorem A0k (h:Ak cs=true→ck (x+y)=some z):Ob.ok P T D (.run cs (binOp .add t (.int .i64 x) (.int .i64 y)) (.int .i64 z)) :=
 obC fun hk=>by obtain ⟨rfl,hb⟩:=Lr (h hk);exact A1o hb
theorem A0t (h:Ak cs=true→ck (x-y)=some z):Ob.ok P T D (.run cs (binOp .sub t (.int .i64 x) (.int .i64 y)) (.int .i64 z)) :=
 obC fun hk=>by obtain ⟨rfl,hb⟩:=Lr (h hk);exact A1r hb
theorem A0p (h:Ak cs=true→W6 x y=some z):Ob.ok P T D (.run cs (binOp .quo t (.int .i64 x) (.int .i64 y)) (.int .i64 z)) :=
 obC fun hk=>by
  have h:=h hk;unfold W6 at h
  split at h
  ·cases h
  ·obtain ⟨rfl,hb⟩:=Lr h;have:=A0q (P:=P) (T:=T) (D:=D) (cs:=cs) (t:=t) (x:=x) (y:=y) (by assumption)
   rwa [Go.Eng.wrap64 hb] at this
theorem A0r (h:Ak cs=true→By x y=some z):Ob.ok P T D (.run cs (binOp .rem t (.int .i64 x) (.int .i64 y)) (.int .i64 z)) :=
 obC fun hk=>by
  have h:=h hk;unfold By at h
  split at h
  ·cases h
  ·cases h;exact A0s (by assumption)
theorem Ej {src dst:TypeId} {k:IntKind} (hs:(P.underlying src).isSome=true) (hd:P.underlying dst=some (.int .i64)) (h:Ak cs=true→ck x=some z) :
  Ob.ok P T D (.run cs (convert src dst (.int k x)) (.int .i64 z)):=obC fun hk=>by obtain ⟨rfl,hb⟩:=Lr (h hk);exact A0l hs hd hb
variable {α:Type} {sz cap:Nat} {f:α→List Value} {ad:Option Addr} {l:List α}
theorem Ue {i:Nat} {u d:α} (h:l[i]? = some u):l.getD i d=u:=by rw [List.getD_eq_getElem?_getD,h];rfl
end
abbrev Frz:=Nat→Option Obj
def Frz.le (μ ν:Frz):Prop:=∀b o,μ b=some o→ν b=some o
def FrzAt (μ:Frz) (w:World):Prop:=∀b o,μ b=some o→w.heap[b]? = some o
def Ap (w:World):Frz:=fun b=>w.heap[b]?
def Frz.ext (n:Nat) (μ ν:Frz):Prop:=μ.le ν∧∀b o,ν b=some o→b<n→μ b=some o
def Wd (w0:World) (μ:Frz):Prop:=∀b o,b<w0.heap.size→μ b=some o→w0.heap[b]? = some o
def A0b (n:Nat) (μ:Frz):Res where
 foot:=fun b=>n≤b∧∃o,μ b=some o
 holds:=fun w=>∀b o,n≤b→μ b=some o→w.heap[b]? = some o
 loc:=fun w w' h hb b o hn ho=>(h b ⟨hn,o,ho⟩).trans (hb b o hn ho)
 lt:=fun w b hb hk=>by obtain ⟨hn,o,ho⟩:=hk;exact (Array.getElem?_eq_some_iff.1 (hb b o hn ho)).1
theorem Frz.le_refl (μ:Frz):μ.le μ:=fun _ _ h=>h
theorem Frz.le_trans {a b c:Frz} (h:a.le b) (k:b.le c):a.le c:=fun x o hx=>k x o (h x o hx)
theorem Frz.ext_refl (n:Nat) (μ:Frz):μ.ext n μ:=⟨μ.le_refl,fun _ _ h _=>h⟩
theorem Frz.ext_trans {n:Nat} {a b c:Frz} (h:a.ext n b) (k:b.ext n c):a.ext n c:=⟨Frz.le_trans h.1 k.1,fun x o hx hn=>h.2 x o (k.2 x o hx hn) hn⟩
theorem Ab (w:World):FrzAt (Ap w) w:=fun _ _ h=>h
theorem FrzAt.low {μ ν:Frz} {w:World} (h:FrzAt ν w) (hle:μ.le ν):FrzAt μ w:=fun b o hb=>h b o (hle b o hb)
section
variable {w0 w w':World} {H:List Res} {μ ν:Frz} {R:Res}
theorem FrzAt.init (h:FrzAt μ w0):Wd w0 μ∧St w0 [A0b w0.heap.size μ] w0 :=
 ⟨fun b o _ hb=>h b o hb,(St.init w0).push (Ext.refl w0) (fun b o _ hb=>h b o hb) (fun _ hb=>hb.1)⟩
theorem St.frz {i:Nat} (h:St w0 H w) (hi:H[i]? = some (A0b w0.heap.size μ)) (hl:Wd w0 μ):FrzAt μ w:=fun b o hb=>by
 rcases Nat.lt_or_ge b w0.heap.size with hlt|hge
 ·exact h.ext.block (hl b o hlt hb)
 ·exact h.res hi b o hge hb
end
inductive All2 {α β:Type} (R:α→β→Prop):List α→List β→Prop
 | nil:All2 R [] []
 | cons {x:α} {y:β} {xs:List α} {ys:List β}:R x y→All2 R xs ys→All2 R (x::xs) (y::ys)
def ArrM {α:Type} (μ:Frz) (sz:Nat) (f:α→List Value) (ad:Option Addr) (cap:Nat) (l:List α):Prop:=∀w,FrzAt μ w→Arr w sz f ad l.length cap l
def BlkM (μ:Frz) (b:Nat) (t:TypeId) (cs:Array Value):Prop:=∀w,FrzAt μ w→Blk w b t cs
section
variable {w w':World} {μ ν:Frz} {α:Type} {sz cap n e:Nat} {f:α→List Value} {ad:Option Addr} {l:List α}
theorem ArrM.mono (h:ArrM μ sz f ad cap l) (hle:μ.le ν):ArrM ν sz f ad cap l:=fun w hw=>h w (hw.low hle)
theorem BlkM.mono {b:Nat} {t:TypeId} {cs:Array Value} (h:BlkM μ b t cs) (hle:μ.le ν):BlkM ν b t cs:=fun w hw=>h w (hw.low hle)
theorem ArrM.nil:ArrM μ sz f none 0 ([]:List α):=fun _ _=>Arr.nil
theorem Arr.alike (h:Arr w sz f ad n cap l) (hw:FrzAt (Ap w) w'):Arr w' sz f ad n cap l:=by
 obtain ⟨h1,ad',cap',e,h2,h3,h4,h5⟩:=h;refine ⟨h1,ad',cap',e,h2,h3,h4,fun hn=>?_⟩;obtain ⟨a,h6,h7,h8⟩:=h5 hn;have hb:∀k,k<w.heap.size→w'.heap[k]? = w.heap[k]?:=fun k hk=>by
  have:w.heap[k]? = some w.heap[k]:=Array.getElem?_eq_getElem hk;rw [this];exact hw k _ this
 refine ⟨a,h6,?_,fun j u hu=>?_⟩
 ·have:=hb _ h7;rw [Array.getElem?_eq_getElem h7] at this;exact (Array.getElem?_eq_some_iff.1 this).1
 ·have:=h8 j u hu;unfold World.cell? at this ⊢;rw [Hv] at this ⊢;rw [hb _ h7];exact this
theorem Arr.toM (h:Arr w sz f ad l.length cap l):ArrM (Ap w) sz f ad cap l:=fun _ hw=>h.alike hw
theorem Ko {β:Type} {R:α→β→Prop} {xs:List α} {ys:List β} (h:All2 R xs ys) {i:Int} {y:β} (hy:getI ys i=some y):∃x,getI xs i=some x∧R x y:=by
 have h0:=(Db hy).1;have hg:=(Db hy).2.2;unfold getI;rw [if_pos h0]
 clear hy h0
 generalize i.toNat=k at hg
 induction h generalizing k with
 | nil=>simp at hg
 | cons hR _ ih =>
  cases k with
  | zero=>simp at hg;subst hg;exact ⟨_,rfl,hR⟩
  | succ k=>simp at hg;exact ih k hg
end
end Go.Eng
namespace Go.Eng
open Go Go.RowKit
def SK (P:Program) (r:Option Nat) (ops:Array Oper) (k:Nat) (K:Act→World→Prop) (a:Act) (w:World):Prop :=
 ∃o,ops[k]? = some o∧OpG P r ops o a w (fun v w'=>K (a.put o.dst v) w')
section
variable {P:Program} {r:Option Nat} {ops:Array Oper} {Q:Exit→Act→World→Prop} {K:Act→World→Prop} {N:Nat} {ds:List Deferred} {M M':List (Nat×Value)} {a:Act} {w w0 w':World} {H:List Res} {k:Nat}
theorem SK.wi (h:SK P r ops k (fun a w=>WI P r ops Q (k+1) a w) a w):WI P r ops Q k a w:=by
 obtain ⟨o,ho,h⟩:=h;exact WI.cons ho h (fun _ _ h=>h)
theorem A1t {o:Oper} {v:Value} (hF:Fr N ds M a) (hdst:Al ops N=true) (ho:plainAt ops k M=some o) (hr:(execOp (rhoE (ofM M)) o).run P w=.ok (.value v) w')
  (hM:NextM ops k M v M') (next:∀a',Fr N ds M' a'→K a' w'):SK P r ops k K a w:=by
 obtain ⟨h1,h2,h3⟩:=El (r:=r) ho hF;refine ⟨o,h1,?_⟩;unfold OpG OpR;rw [if_pos h2,h3,hr];exact next _ (G4 h1 hdst hF hM)
theorem A1x {o:Oper} (hF:Fr N ds M a) (hdst:Al ops N=true) (ho:plainAt ops k M=some o) (hr:(execOp (rhoE (ofM M)) o).run P w=.ok .skip w')
  (hM:NextM ops k M undef M') (next:∀a',Fr N ds M' a'→K a' w'):SK P r ops k K a w:=by
 obtain ⟨h1,h2,h3⟩:=El (r:=r) ho hF;refine ⟨o,h1,?_⟩;unfold OpG OpR;rw [if_pos h2,h3,hr];exact next _ (G4 h1 hdst hF hM)
theorem V9 {s:Sem Value} {v:Value} (hF:Fr N ds M a) (hdst:Al ops N=true) (hs:EffAt ops k M s) (hr:s.run P w=.ok v w')
  (hM:NextM ops k M v M') (next:∀a',Fr N ds M' a'→K a' w'):SK P r ops k K a w:=by
 have hs:=hs.eq
 cases ho:plainAt ops k M with
 | none=>rw [ho] at hs;simp at hs
 | some o =>
  rw [ho] at hs;exact A1t hF hdst ho (T8 hs hr).2 hM next
theorem A20 (M':Nat→List (Nat×Value)) {t:TypeId} (v:Value) (cs:Array Value) (hF:Fr N ds M a) (hS:St w0 H w) (hdst:Al ops N=true) (hs:EffAt ops k M (Instr.box t v)) (hcs:v.cells=cs)
  (hM:∀b,NextM ops k M (.pointer (some ⟨b,0,none⟩)) (M' b))
  (next:∀b w' a',Fr N ds (M' b) a'→St w0 (blk b t cs::H) w'→K a' w'):SK P r ops k K a w:=by
 refine V9 hF hdst hs (v:=.pointer (some ⟨w.heap.size,0,none⟩)) (w':={ w with heap:=w.heap.push (.cells cs t) }) ?_ (hM _) ?_
 ·subst hcs;simp [Instr.box,newVar,newRow]
 ·intro a' hF';exact next _ _ a' hF' (hS.push (Es w _) (Q3 w t cs) (fun b hb=>by rw [show b=w.heap.size from hb];exact Nat.le_refl _))
theorem Zu (M':Nat→List (Nat×Value)) {t:TypeId} (cs:Array Value) (hF:Fr N ds M a) (hS:St w0 H w) (hdst:Al ops N=true) (hs:EffAt ops k M (Instr.alloc t true (.tuple #[])))
  (hz:((P.info? t).bind (·.zero)).map Value.cells=some cs) (hM:∀b,NextM ops k M (.pointer (some ⟨b,0,none⟩)) (M' b))
  (next:∀b w' a',Fr N ds (M' b) a'→St w0 (blk b t cs::H) w'→K a' w'):SK P r ops k K a w:=by
 refine V9 hF hdst hs (v:=.pointer (some ⟨w.heap.size,0,none⟩)) (w':={ w with heap:=w.heap.push (.cells cs t) }) ?_ (hM _) ?_
 ·cases hi:P.info? t with
  | none=>rw [hi] at hz;simp at hz
  | some i =>
   cases hzz:i.zero with
   | none=>rw [hi] at hz;simp [hzz] at hz
   | some z =>
    rw [hi] at hz;simp [hzz] at hz;subst hz;simp [Instr.alloc,zeroValue,typeInfo,hi,hzz,newVar,newRow]
 ·intro a' hF';exact next _ _ a' hF' (hS.push (Es w _) (Q3 w t cs) (fun b hb=>by rw [show b=w.heap.size from hb];exact Nat.le_refl _))
theorem Pv {t:TypeId} {p:Addr} {v:Value} (hF:Fr N ds M a) (hdst:Al ops N=true) (hs:StoreAt ops k M t (.pointer (some p)) v) (hr:(storeVar t p v).run P w=.ok () w')
  (hM:NextM ops k M undef M') (next:∀a',Fr N ds M' a'→K a' w'):SK P r ops k K a w:=by
 have hs:=hs.eq
 cases ho:plainAt ops k M with
 | none=>rw [ho] at hs;simp at hs
 | some o =>
  rw [ho] at hs;simp only [Option.bind_some] at hs
  split at hs
  ·rename_i t' x y hop
   simp at hs;obtain ⟨rfl,h1,h2⟩:=hs;refine A1x hF hdst ho ?_ hM next
   unfold execOp;rw [hop];simp [Instr.storeAt,Instr.sureAddr,h1,h2,hr]
  ·simp at hs
theorem storeK (M':List (Nat×Value)) (i:Nat) {t tt:TypeId} {b:Nat} {cs:Array Value} (off:Nat) (v:Value) (cs':Array Value) (hF:Fr N ds M a) (hS:St w0 H w) (hi:H[i]? = some (blk b tt cs)) (hdst:Al ops N=true)
  (hs:StoreAt ops k M t (.pointer (some ⟨b,off,none⟩)) v) (hsz:pureSem P (sizeOf t)=some v.cells.size) (hone:v.cells.toList.all Value.oneCell'=true) (hfit:Nat.ble (off+v.cells.size) cs.size=true) (hcs:Nm cs off v.cells.toList=cs')
  (hM:NextM ops k M undef M') (next:∀w' a',Fr N ds M' a'→St w0 (H.set i (blk b tt cs')) w'→K a' w'):SK P r ops k K a w:=by
 have hb:=hS.blk hi;have hsz':=Aq _ _ hsz w;have hst:=run_storeCells_at P b off tt v.cells.toList 0 cs w hb (by simpa using Nat.le_of_ble_eq_true hfit) (fun u hu=>List.all_eq_true.1 hone u hu);simp only [Nat.add_zero] at hst;refine Pv hF hdst hs (w':=w.setRow b cs') ?_ hM ?_
 ·subst hcs;unfold Nm;simp [storeVar,hsz',hst]
 ·intro a' hF';refine next _ a' hF' (hS.upd hi rfl rfl rfl (by simp [World.setRow]) (fun j _ hj=>setRow_other w b j _ hj) ?_ (fun j hj=>.inl hj))
  show (w.setRow b cs').heap[b]? = _;exact setRow_heap w b cs _ tt _ hb
theorem A1f (M':Value→List (Nat×Value)) {f:FuncId} {args:Array Value} {R:Value→World→Prop} (hF:Fr N ds M a) (hdst:Al ops N=true) (hs:CallAt P ops k M f args)
  (hc:Calls P f args w (fun e w'=>∃v,e=.returned v∧R v w')) (hM:∀v,NextM ops k M v (M' v)) (next:∀v w' a',R v w'→Fr N ds (M' v) a'→K a' w'):SK P r ops k K a w:=by
 have hs:=hs.eq
 cases ho:plainAt ops k M with
 | none=>rw [ho] at hs;simp at hs
 | some o =>
  rw [ho] at hs;simp only [Option.bind_some] at hs
  split at hs
  ·rename_i f' args' hp
   simp at hs;obtain ⟨rfl,rfl⟩:=hs;obtain ⟨h1,h2,h3⟩:=El (r:=r) ho hF;refine ⟨o,h1,?_⟩;unfold OpG OpR;rw [if_pos h2,h3,Aq _ _ hp w];refine Calls.mono hc ?_;rintro e w'' ⟨v,rfl,hv⟩;exact ⟨v,rfl,next v w'' _ hv (G4 h1 hdst hF (hM v))⟩
  ·simp at hs
def Et (P:Program) (f:FuncId) (args:Array Value) (w:World) (R:Value→World→Prop):Prop:=Calls P f args w (fun e w'=>∃v,e=.returned v∧R v w')
theorem A1g (M':Value→List (Nat×Value)) {f:FuncId} {args:Array Value} {R:Value→World→Prop} (hF:Fr N ds M a) (hdst:Al ops N=true) (hs:CallAt P ops k M f args)
  (hc:Et P f args w R) (hM:∀v,NextM ops k M v (M' v)) (next:∀v w' a',R v w'→Fr N ds (M' v) a'→K a' w'):SK P r ops k K a w:=A1f M' hF hdst hs hc hM next
theorem B5 (M':List (Nat×Value)) {f:FuncId} {args:Array Value} {v:Value} (hF:Fr N ds M a) (hdst:Al ops N=true) (hs:CallAt P ops k M f args)
  (hc:Calls P f args w (fun e w'=>e=.returned v∧Ext w w')) (hM:NextM ops k M v M') (next:∀w' a',Ext w w'→Fr N ds M' a'→K a' w'):SK P r ops k K a w:=by
 have hs:=hs.eq
 cases ho:plainAt ops k M with
 | none=>rw [ho] at hs;simp at hs
 | some o =>
  rw [ho] at hs;simp only [Option.bind_some] at hs
  split at hs
  ·rename_i f' args' hp
   simp at hs;obtain ⟨rfl,rfl⟩:=hs;obtain ⟨h1,h2,h3⟩:=El (r:=r) ho hF;refine ⟨o,h1,?_⟩;unfold OpG OpR;rw [if_pos h2,h3,Aq _ _ hp w];refine Calls.mono hc ?_;rintro e w'' ⟨rfl,hv⟩;exact ⟨v,rfl,next w'' _ hv (G4 h1 hdst hF hM)⟩
  ·simp at hs
variable {α:Type} {e sz cap:Nat} {f:α→List Value} {ad:Option Addr} {l:List α}
theorem A0e (M':Nat→List (Nat×Value)) {t len:Nat} (parts:Array (Nat×Value)) (cs:Array Value) (l:List α) (hF:Fr N ds M a) (hS:St w0 H w) (hdst:Al ops N=true) (hs:EffAt ops k M (Instr.buildSlice t len parts))
  (hb:D2 P t len parts=some (e,cs)) (hf:∀x,(f x).length=sz) (hl:l.length=len) (hc:l.flatMap f=cs.toList) (hn:Nat.ble len 16777216=true) (hM:∀b,NextM ops k M (.slice (some ⟨b,0,none⟩) len len) (M' b))
  (next:∀b w' a',Fr N ds (M' b) a'→St w0 (arr e sz f (some ⟨b,0,none⟩) l.length len l::H) w'→K a' w'):SK P r ops k K a w:=by
 subst hl;refine V9 hF hdst hs (Gl hb) (hM _) ?_;intro a' hF';have h1:St w0 (blk w.heap.size e cs::H) { w with heap:=w.heap.push (.cells cs e) }:=hS.push (Es w _) (Q3 w e cs) (fun b hb=>by rw [show b=w.heap.size from hb];exact Nat.le_refl _);have h2:=h1.blk_arr (f:=f) (sz:=sz) (l:=l) (n:=l.length) hf rfl hc (by have:=Nat.le_of_ble_eq_true hn;simp only [maxLen];omega);exact next _ _ a' hF' h2
theorem Gj {B:Nat} {l l' l3:List α} (h:apd B l l'=some l3):l3=l++l'∧(l.length+l'.length)*B≤140737488355328∧l.length+l'.length≤maxLen:=by
 unfold apd at h
 split at h
 ·cases h;rename_i h;exact ⟨rfl,h.1,h.2⟩
 ·cases h
theorem A1a (M':Option Addr→Nat→List (Nat×Value)) (i:Nat) {t ty bytes scap:Nat} {sad:Option Addr} {l' l3:List α} (hF:Fr N ds M a) (hS:St w0 H w) (hi:H[i]? = some (arr e sz f ad l.length cap l)) (hdst:Al ops N=true)
  (hs:EffAt ops k M (Builtin.append_ #[t,t] ty #[.slice ad l.length cap,.slice sad l'.length scap])) (hty:Ed P t e sz bytes=true) (hsrc:Arr w sz f sad l'.length scap l') (h1:∀x∈l',(f x).all Value.oneCell'=true) (hap:apd bytes l l'=some l3)
  (hM:∀ad2 cap2,NextM ops k M (.slice ad2 l3.length cap2) (M' ad2 cap2))
  (next:∀ad2 cap2 w' a',Fr N ds (M' ad2 cap2) a'→St w0 (H.set i (arr e sz f ad2 l3.length cap2 l3)) w'→K a' w'):SK P r ops k K a w:=by
 obtain ⟨rfl,hb,h63⟩:=Gj hap;have hold:=hS.holds _ (List.mem_of_getElem? hi);obtain ⟨ad2,cap2,w',hr,hown,hg,hblk⟩:=Za (ty:=ty) hty hold.2 hsrc.2 (fun u hu=>by
  obtain ⟨x,hx,hux⟩:=List.mem_flatMap.1 hu;exact List.all_eq_true.1 (h1 x hx) u hux) hb h63
 have hlen:(l++l').length=l.length+l'.length:=List.length_append;refine V9 hF hdst hs hr (by rw [←hlen];exact hM ad2 cap2) ?_;intro a' hF';rw [←List.flatMap_append] at hown;refine next ad2 cap2 w' a' hF' (hS.upd hi hg.os hg.tape hg.output hg.size (fun j hj hnj=>hg.block j hj (fun e=>hnj e.symm)) ⟨rfl,?_⟩ ?_)
 ·rw [hlen];exact hown
 ·rw [hlen];exact hblk
theorem N3 (z:Array Value) (n:Nat):(madeCells z (n*z.size)).toList=(List.replicate n ()).flatMap fun _=>z.toList:=by
 unfold madeCells;simp only [Array.toList_map,Array.toList_range]
 induction n with
 | zero=>simp
 | succ n ih =>
  rw [List.replicate_succ',List.flatMap_append,←ih];rw [show (n+1)*z.size=n*z.size+z.size by rw [Nat.add_mul,Nat.one_mul],List.range_add,List.map_append]
  congr 1
  simp only [List.map_map,List.flatMap_cons,List.flatMap_nil,List.append_nil];apply List.ext_getElem
  ·simp
  ·intro i h1 h2;simp at h1 h2;simp only [List.getElem_map,List.getElem_range,Function.comp];have:(n*z.size+i)%z.size=i:=by rw [Nat.mul_comm,Nat.mul_add_mod];exact Nat.mod_eq_of_lt h2
   rw [this];simp [h2]
theorem N4 {B:Nat} {n:Int} {x:α} {l:List α} (h:mkI B n x=some l):0≤n∧l=List.replicate n.toNat x∧B*n.toNat≤281474976710656∧n.toNat≤maxLen:=by
 unfold mkI at h
 split at h
 ·cases h;rename_i h;exact ⟨h.1,rfl,h.2.1,by simp only [maxLen];omega⟩
 ·cases h
theorem Pl (M':Nat→List (Nat×Value)) {t bytes:Nat} {n:Int} (x0:α) {z:Value} {l3:List α} (hF:Fr N ds M a) (hS:St w0 H w) (hdst:Al ops N=true) (hs:EffAt ops k M (Instr.makeSlice t (.int .i64 n) (.int .i64 n)))
  (hty:Ed P t e sz bytes=true) (hz:(P.info? e).bind (·.zero)=some z) (hx0:f x0=z.cells.toList) (hmk:mkI bytes n x0=some l3) (hM:∀b,NextM ops k M (.slice (some ⟨b,0,none⟩) l3.length l3.length) (M' b))
  (next:∀b w' a',Fr N ds (M' b) a'→St w0 (arr e sz f (some ⟨b,0,none⟩) l3.length l3.length l3::H) w'→K a' w'):SK P r ops k K a w:=by
 obtain ⟨h0,rfl,hb,h63⟩:=N4 hmk;obtain ⟨i,z',ht,hi,hz',h1,rfl,hzs,_⟩:=Ep hty;have hzz:z'=z:=by rw [hi] at hz;simp [hz'] at hz;exact hz
 subst hzz;have hn:n=(n.toNat:Int):=by omega
 rw [hn] at hs;obtain ⟨w',hr,hown,hg⟩:=run_make_full (P:=P) w 0 t e i z' sz ht hi hz' h1 .i64 .i64 n.toNat hb h63 (Nat.zero_le _);have hx:Ext w w':=⟨hg.os,hg.tape,hg.output,hg.size,fun j hj=>hg.block j hj (by simp)⟩;have hlen:(List.replicate n.toNat x0).length=n.toNat:=List.length_replicate;refine V9 hF hdst hs hr (by have:=hM w.heap.size;rw [hlen] at this;exact this) ?_;intro a' hF';refine next _ w' a' hF' (hS.push hx ⟨rfl,?_⟩ (fun b hb=>by simp [Go.Eng.arr,Value.ownBlock] at hb;omega))
 rw [hlen];have e1:(List.replicate n.toNat x0).flatMap f=(madeCells z'.cells (n.toNat*sz)).toList:=by
  rw [←hzs,N3,←hx0];generalize n.toNat=m
  induction m with
  | zero=>rfl
  | succ m ih=>simp [List.replicate_succ,ih]
 rw [e1];exact hown
theorem Rl (hf:∀x,(f x).length=sz) {x':α} {us:List Value} {j:Nat} (hj:j+us.length≤sz):∀(l:List α) (i:Nat) (x:α),l[i]? = some x→f x'=(f x).take j++us++(f x).drop (j+us.length) →
  (l.flatMap f).take (i*sz+j)++us++(l.flatMap f).drop (i*sz+j+us.length)=(l.set i x').flatMap f:=by
 intro l
 induction l with
 | nil=>intro i x h;simp at h
 | cons y l ih =>
  intro i x h hx
  cases i with
  | zero =>
   simp at h;subst h;have hy:=hf y;simp only [Nat.zero_mul,Nat.zero_add,List.flatMap_cons,List.set_cons_zero,hx];rw [List.take_append_of_le_length (by omega),List.drop_append_of_le_length (by omega)];simp [List.append_assoc]
  | succ i =>
   simp at h;have:=ih i x h hx;have hy:=hf y;have e1:(i+1)*sz+j=(f y).length+(i*sz+j):=by rw [hy,Nat.add_mul];omega
   simp only [List.flatMap_cons,List.set_cons_succ];rw [e1,List.take_length_add_append,Nat.add_assoc,List.drop_length_add_append,←this];simp [List.append_assoc]
theorem Sj {β:Type} {cur us:List β} {p T:Nat} (h1:p+us.length≤T) (h2:T≤cur.length):(cur.take p++us++cur.drop (p+us.length)).take T=(cur.take T).take p++us++(cur.take T).drop (p+us.length):=by
 have e1:(cur.take p).length=p:=by rw [List.length_take];omega
 have e2:(cur.take p++us).length=p+us.length:=by rw [List.length_append,e1]
 rw [List.take_append,List.take_append,e1,e2,List.take_take,List.take_take,Nat.min_eq_right (by omega),Nat.min_eq_left (by omega),List.take_of_length_le (l:=us) (by omega),List.drop_take]
theorem Bx {l l3:List α} {i:Int} {x:α} (h:Cb l i x=some l3):0≤i∧i<l.length∧l3=l.set i.toNat x:=by
 unfold Cb at h
 split at h
 ·cases h;rename_i h;exact ⟨h.1,h.2,rfl⟩
 ·cases h
theorem J4 (M':List (Nat×Value)) (i:Nat) {t:Nat} {j:Int} (off:Nat) (u x:α) (v:Value) {l3:List α} (hF:Fr N ds M a) (hS:St w0 H w) (hi:H[i]? = some (arr e sz f ad l.length cap l)) (hdst:Al ops N=true)
  (hs:StoreAt ops k M t (.pointer (some ((Ag ad j sz).add off))) v) (hf:∀x,(f x).length=sz) (hu:getI l j=some u) (hx:f x=(f u).take off++v.cells.toList++(f u).drop (off+v.cells.toList.length)) (hfit:Nat.ble (off+v.cells.toList.length) sz=true)
  (hsz:pureSem P (sizeOf t)=some v.cells.size) (hone:v.cells.toList.all Value.oneCell'=true) (hl3:Cb l j x=some l3) (hM:NextM ops k M undef M')
  (next:∀w' a',Fr N ds M' a'→l.length=l3.length→St w0 (H.set i (arr e sz f ad l.length cap l3)) w'→K a' w'):SK P r ops k K a w:=by
 have hold:=hS.holds _ (List.mem_of_getElem? hi);obtain ⟨h0,hjl,hgu⟩:=Db hu;obtain ⟨_,_,rfl⟩:=Bx hl3;have hfit':=Nat.le_of_ble_eq_true hfit;rcases hold.2.2 with ⟨h',hz⟩|⟨g,cap',cur,h',hbase,hg,hnc,hcm,hcs,htake⟩
 ·have:l.length=0:=hz;omega
 ·simp only [Value.slice.injEq,true_and] at h';obtain ⟨rfl,rfl⟩:=h';have hjn:j.toNat<l.length:=by omega
  have hoff:j.toNat*sz+off+v.cells.toList.length≤l.length*sz:=by
   have:=Nat.mul_le_mul_right sz (show j.toNat+1≤l.length by omega);rw [Nat.add_mul] at this;omega
  have hcap:l.length*sz≤cap*sz:=Nat.mul_le_mul_right sz hnc;have hadd:(Ag (some ⟨g,0,none⟩) j sz).add off=⟨g,j.toNat*sz+off,none⟩:=by
   unfold Ag;rw [Jb];unfold Addr.add
   split
   ·rename_i h;simp [h]
   ·simp
  rw [hadd] at hs;have hsz':=Aq _ _ hsz w;have hst:=run_storeCells_at P g (j.toNat*sz+off) e v.cells.toList 0 cur w hg (by omega) (fun u hu=>List.all_eq_true.1 hone u hu);simp only [Nat.add_zero] at hst;have hsp:=Rl (f:=f) hf (x':=x) (us:=v.cells.toList) (j:=off) hfit' l j.toNat u hgu hx;have hlen3:l.length=(l.set j.toNat x).length:=by simp
  refine Pv hF hdst hs (w':=w.setRow g (cur.toList.take (j.toNat*sz+off)++v.cells.toList++cur.toList.drop (j.toNat*sz+off+v.cells.toList.length)).toArray) ?_ hM ?_
  ·simp [storeVar,hsz',hst]
  ·intro a' hF';refine next _ a' hF' hlen3 (hS.upd hi rfl rfl rfl (by simp [World.setRow]) (fun q _ hq=>setRow_other w g q _ (fun e=>hq (by simp [Go.Eng.arr,Value.ownBlock,e]))) ⟨hlen3.symm,?_,.inr ⟨g,cap,_,rfl,hbase,setRow_heap w g cur _ e _ hg,hnc,hcm,?_,?_⟩⟩ (fun q hq=>.inl hq))
   ·rw [←hsp];have h1:=hold.2.1;simp only [List.length_append,List.length_take,List.length_drop] at h1 ⊢;omega
   ·have:cur.toList.length=cur.size:=by simp
    simp only [List.size_toArray,List.length_append,List.length_take,List.length_drop];omega
   ·rw [←hsp,←htake];have:cur.toList.length=cur.size:=by simp
    exact Sj (by omega) (by omega)
end
end Go.Eng
namespace Go.Eng
open Go Go.RowKit
def lastW (ops:Array Oper):List Nat→Nat→Option Nat
 | [],_=>none
 | j::l,t=>match lastW ops l t with|some q=>some q|none=>bif (match dstAt ops j with|some d=>Nat.beq d t|none=>false) then some j else none
def Zs (P:Program) (r:Option Nat) (ops:Array Oper) (D:World→Prop) (i:Nat) (a:Act) (v:Value):Prop :=
 ∃o,ops[i]? = some o∧∀a' w',(∀t∈o.looksAt ops,a'.tmps.getD t undef=a.tmps.getD t undef)→D w'→OpG P r ops o a' w' (fun v' w''=>v'=v∧w''=w')
def WRun (P:Program) (r:Option Nat) (ops:Array Oper) (D:World→Prop) (eff:List Nat) (K:Act→World→Prop):List Nat→Act→World→Prop
 | [],a,w=>K a w
 | i::l,a,w=>bif eff.contains i then SK P r ops i (fun a' w'=>D w'∧WRun P r ops D eff K l a' w') a w else ∃v,Zs P r ops D i a v∧WRun P r ops D eff K l (a.put (dstAt ops i) v) w
def J6 (ops:Array Oper):List Nat→List Nat→Bool
 | _,[]=>true
 | pre,i::l=>(match ops[i]? with|some o=>(o.looksAt ops).all fun t=>lastW ops pre t==D8 ops i t|none=>false)&&J6 ops (pre++[i]) l
def G5:List Nat→Bool
 | []=>true
 | i::l=>!l.contains i&&G5 l
section
variable {P:Program} {r:Option Nat} {ops:Array Oper} {Q:Exit→Act→World→Prop} {K:Act→World→Prop} {D:World→Prop} {N m:Nat} {eff:List Nat}
theorem Gv:∀{l:List Nat},G5 l=true→l.Nodup:=by
 intro l
 induction l with
 | nil=>intro _;exact List.nodup_nil
 | cons i l ih =>
  intro h;rw [G5,Bool.and_eq_true] at h;exact List.nodup_cons.2 ⟨by simpa using h.1,ih h.2⟩
theorem Hb:∀{l:List Nat} {t j:Nat},lastW ops l t=some j→j∈l∧dstAt ops j=some t:=by
 intro l
 induction l with
 | nil=>intro t j h;simp [lastW] at h
 | cons i l ih =>
  intro t j h;rw [lastW] at h
  cases hl:lastW ops l t with
  | some q=>rw [hl] at h;cases h;exact ⟨List.mem_cons_of_mem _ (ih hl).1,(ih hl).2⟩
  | none =>
   rw [hl] at h;simp only at h
   cases hd:dstAt ops i with
   | none=>rw [hd] at h;simp at h
   | some d =>
    rw [hd] at h;simp only at h
    cases hb:Nat.beq d t with
    | false=>rw [hb] at h;simp at h
    | true=>rw [hb] at h;simp at h;rw [Nat.beq_eq] at hb;subst hb;subst h;exact ⟨List.mem_cons_self ..,hd⟩
theorem Th {l:List Nat} {i t:Nat}:lastW ops (l++[i]) t=if dstAt ops i=some t then some i else lastW ops l t:=by
 induction l with
 | nil =>
  simp only [List.nil_append,lastW]
  cases hd:dstAt ops i with
  | none=>simp
  | some d =>
   by_cases h:d=t
   ·subst h;simp
   ·have:Nat.beq d t=false:=by rw [←Bool.not_eq_true,Nat.beq_eq];exact h
    simp [this,h]
 | cons j l ih =>
  simp only [List.cons_append,lastW,ih]
  by_cases h:dstAt ops i=some t
  ·rw [if_pos h];simp [h]
  ·rw [if_neg h,if_neg h]
theorem getElem?_of_getD {x y:Array Value} {t:Nat} (hs:x.size=y.size) (h:x.getD t undef=y.getD t undef):x[t]? = y[t]?:=by
 rw [Array.getD_eq_getD_getElem?,Array.getD_eq_getD_getElem?] at h
 by_cases ht:t<x.size
 ·rw [Array.getElem?_eq_getElem ht,Array.getElem?_eq_getElem (by omega)] at h ⊢
  simpa using h
 ·rw [Array.getElem?_eq_none (by omega),Array.getElem?_eq_none (by omega)]
theorem K5 {o:Oper} {a a':Act} (hs:a'.tmps.size=a.tmps.size) (h:∀t∈o.looksAt ops,a'.tmps.getD t undef=a.tmps.getD t undef):Region.wanted o (yielded ops a'.tmps)=Region.wanted o (yielded ops a.tmps):=by
 unfold Region.wanted
 cases hg:o.guard with
 | none=>rfl
 | some jw =>
  obtain ⟨j,want⟩:=jw;simp only;have:yielded ops a'.tmps j=yielded ops a.tmps j:=by
   unfold yielded
   cases hd:(ops[j]?).bind (·.dst) with
   | none=>simp
   | some g =>
    have hmem:g∈o.looksAt ops:=by
     unfold Oper.looksAt;rw [hg];refine List.mem_append_right _ ?_;simp [hd]
    have:=getElem?_of_getD hs (h g hmem);simp [this]
  rw [this]
theorem Li {o:Oper} {a a':Act} (hp:Bp o.op=true) (h:∀t∈o.looksAt ops,a'.tmps.getD t undef=a.tmps.getD t undef):o.semAt r a'.eval=o.semAt r a.eval:=by
 rw [Dv hp,Dv hp];refine execOp_congr o (fun cs b hh=>by rw [hh] at hp;simp [Bp] at hp) ?_;intro x hx
 cases x with
 | tmp t=>exact h t (List.mem_append_left _ (List.mem_filterMap.2 ⟨.tmp t,by simpa using hx,rfl⟩))
 | const v=>rfl
 | global g=>rfl
 | func f=>rfl
theorem V2 {o:Oper} {a a':Act} {w:World} {R:Value→World→Prop} (hp:Bp o.op=true) (hs:a'.tmps.size=a.tmps.size) (h:∀t∈o.looksAt ops,a'.tmps.getD t undef=a.tmps.getD t undef) (hG:OpG P r ops o a w R):OpG P r ops o a' w R:=by
 unfold OpG OpR at *;rw [K5 hs h,Li hp h];exact hG
structure FIs (ops:Array Oper) (N:Nat) (a0:Act) (vals:Nat→Value) (l:List Nat) (b:Act):Prop where
 size:b.tmps.size=N
 dfs:b.defers=a0.defers
 slot:∀t,b.tmps.getD t undef=(match lastW ops l t with|some j=>vals j|none=>a0.tmps.getD t undef)
theorem FIs.put {a0 b:Act} {vals:Nat→Value} {l:List Nat} {i:Nat} {v:Value} (h:FIs ops N a0 vals l b) (hdst:Al ops N=true) (hi:i<ops.size) (hn:i∉l):FIs ops N a0 (Fu vals i v) (l++[i]) (b.put (dstAt ops i) v):=by
 refine ⟨by rw [Ex];exact h.size,by rw [Dq];exact h.dfs,fun t=>?_⟩;rw [Th]
 by_cases hd:dstAt ops i=some t
 ·rw [if_pos hd,hd];have:t<b.tmps.size:=by
   rw [h.size];exact D3 hdst (Array.getElem?_eq_getElem hi) (by simpa [dstAt,Array.getElem?_eq_getElem hi] using hd)
  rw [Fq this];simp [Fu]
 ·rw [if_neg hd,Du hd,h.slot t]
  cases hl:lastW ops l t with
  | none=>rfl
  | some j =>
   have:j≠i:=fun e=>hn (e▸(Hb hl).1);simp [Fu,this]
end
def evalL (P:Program) (ops:Array Oper):List Nat→List (Nat×En)→List Value→Option (List (Nat×En)×List Ob)
 | [],E,vs=>match vs with|[]=>some (E,[])|_=>none
 | i::l,E,vs =>
  match ops[i]? with
  | none=>none
  | some o =>
   match Ki P ops E o vs with
   | none=>none
   | some (e,ob,vs') =>
    bif H7 E o.dst e then
     match evalL P ops l (Qr E o.dst e) vs' with
     | none=>none
     | some (E',obs)=>some (E',ob++obs)
    else none
structure EndsL (P:Program) (ops:Array Oper) (rs:List Nat) (M M':List (Nat×Value)) (obs:List Ob):Prop where
 eq:((evalL P ops rs (ofM M) (obs.map Ob.v)).map fun x=>(M'.map (fun p=>lookE x.1 p.1),x.2))=some (M'.map (fun p=>some ⟨[],p.2⟩),obs)
section
variable {P:Program} {r:Option Nat} {ops:Array Oper} {K:Act→World→Prop} {D:World→Prop} {N:Nat} {eff:List Nat} {ds:List Deferred} {M M':List (Nat×Value)} {a:Act} {w:World} {obs:List Ob}
theorem Ve (hdst:Al ops N=true) {rest:List Nat}:∀(rs:List Nat) (E E':List (Nat×En)) (vs:List Value) (obs:List Ob) (a:Act),evalL P ops rs E vs=some (E',obs)→Px E→Obs P (fun a b=>b=a) D obs→rs.all (fun i=>!eff.contains i)=true →
  a.tmps.size=N→EnvOk (toA E) a w→(∀a',a'.tmps.size=N→a'.defers=a.defers→EnvOk (toA E') a' w→WRun P r ops D eff K rest a' w)→WRun P r ops D eff K (rs++rest) a w:=by
 intro rs
 induction rs with
 | nil =>
  intro E E' vs obs a h _ _ _ hN hE next
  cases vs with
  | nil=>simp [evalL] at h;rw [h.1] at hE;exact next a hN rfl hE
  | cons=>simp [evalL] at h
 | cons i rs ih =>
  intro E E' vs obs a h hc hob hne hN hE next
  simp only [evalL] at h
  cases ho:ops[i]? with
  | none=>rw [ho] at h;simp at h
  | some o =>
   rw [ho] at h;simp only at h
   cases hev:Ki P ops E o vs with
   | none=>rw [hev] at h;simp at h
   | some x =>
    obtain ⟨e,ob,vs'⟩:=x;rw [hev] at h;simp only at h
    cases hf:H7 E o.dst e with
    | false=>rw [hf] at h;simp at h
    | true =>
     rw [hf] at h;simp only [cond_true] at h
     cases hr:evalL P ops rs (Qr E o.dst e) vs' with
     | none=>rw [hr] at h;simp at h
     | some y =>
      obtain ⟨E1,obs1⟩:=y;rw [hr] at h;simp at h;obtain ⟨rfl,rfl⟩:=h;rw [Obs.append] at hob;obtain ⟨h1,h2⟩:=La (r:=r) Nu hc hev hob.1;rw [List.all_cons,Bool.and_eq_true] at hne;have hni:eff.contains i=false:=by simpa using hne.1
      have hd:dstAt ops i=o.dst:=by simp [dstAt,ho]
      rw [List.cons_append,WRun,hni];simp only [cond_false];refine ⟨e.val,⟨o,ho,fun a' w' hs hw'=>?_⟩,?_⟩
      ·refine (h2 a' w' hw' (fun t ht ψ hl=>?_)).mono (fun v w'' hh=>⟨hh.2,hh.1⟩);rw [hs t ht];have:=hE t ψ hl;rw [E5] at hl
       cases hle:lookE E t with
       | none=>rw [hle] at hl;simp at hl
       | some e'=>rw [hle] at hl;simp at hl;subst hl;exact this
      ·rw [hd];refine ih _ _ _ _ _ hr (U7 hc h1 hf) hob.2 hne.2 (by rw [Ex];exact hN) ?_ (fun a' hN' hd' hE'=>next a' hN' (hd'.trans (Dq _ _ _)) hE');rw [Uy];exact hE.push (T:=fun a b=>b=a) (K2 _ _) rfl (fun t ht=>hN▸D3 hdst ho ht) rfl
theorem A1v {rest:List Nat} (rs:List Nat) (M':List (Nat×Value)) (hF:Fr N ds M a) (hdst:Al ops N=true) (hne:rs.all (fun i=>!eff.contains i)=true) (hob:Obs P (fun a b=>b=a) D obs) (h:EndsL P ops rs M M' obs)
  (next:∀a',Fr N ds M' a'→WRun P r ops D eff K rest a' w):WRun P r ops D eff K (rs++rest) a w:=by
 have h:=h.eq
 cases hev:evalL P ops rs (ofM M) (obs.map Ob.v) with
 | none=>rw [hev] at h;simp at h
 | some x =>
  obtain ⟨E',obs'⟩:=x;rw [hev] at h;simp only [Option.map_some,Option.some.injEq,Prod.mk.injEq] at h;obtain ⟨h1,rfl⟩:=h;refine Ve hdst rs _ _ _ _ a hev (Q5 M) hob hne hF.size (H8 hF w) ?_;intro a' hN hd hE;refine next a' ⟨hN,hd.trans hF.defers,fun p hp=>?_⟩
  have hlk:lookE E' p.1=some ⟨[],p.2⟩:=List.map_inj_left.1 h1 p hp;have:=hE p.1 (fun v _=>v=(⟨[],p.2⟩:En).val) (by rw [E5,hlk];rfl)
  simpa [En.val,Ak] using this
theorem WRun.fin (h:K a w):WRun P r ops D eff K [] a w:=h
end
end Go.Eng
namespace Go.Eng
open Go Go.RowKit
def fK (k:IntKind) (x:Int):List Value:=[.int k x]
theorem Gp (k:IntKind) (x:Int):(fK k x).length=1:=rfl
def fB (x:Bool):List Value:=[.bool x]
theorem Kj (x:Bool):(fB x).length=1:=rfl
section
variable {P:Program} {T:World→World→Prop} {D:World→Prop} {w:World} {cs:List Cd} {t:Nat} {α:Type} {sz n cap:Nat} {f:α→List Value} {ad:Option Addr} {l l2:List α} {lo hi:Int} {γ:Type} {c:List γ} {g:γ→List Value}
theorem V7 (h:Nz l lo hi=some l2):∃a b:Nat,lo=a∧hi=b∧a≤b∧b≤l.length∧l2=(l.drop a).take (b-a)∧l2.length=b-a:=by
 unfold Nz at h
 split at h
 ·rename_i hc
  cases h
  refine ⟨lo.toNat,hi.toNat,by omega,by omega,by omega,by omega,rfl,?_⟩;simp;omega
 ·cases h
theorem A0m (ht:Eo P t sz=true) (_h:Arr w sz g ad l.length cap c) (hx:Ak cs=true→Nz l lo ((l.length:Nat):Int)=some l2) :
  Ob.ok P T D (.run cs (Instr.sliceAt t (.slice ad l.length cap) (some (.int .i64 lo)) none none) (.slice (H1 ad cap lo.toNat sz) l2.length (cap-lo.toNat))):=by
 intro hk;obtain ⟨a,b,rfl,hb,h1,h2,rfl,h3⟩:=V7 (hx hk);have hb':l.length=b:=by omega
 rw [h3,Int.toNat_natCast,←hb'];exact Xj (P:=P) (T:=T) (D:=D) (cs:=cs) ht (fun _=>by omega) hk
end
end Go.Eng
namespace Go.Eng
open Go Go.RowKit
abbrev Rel (α:Type):=Frz→List Value→α→Prop
def Rel.Mono {α:Type} (R:Rel α):Prop:=∀(μ ν:Frz) (cs:List Value) (x:α),μ.le ν→R μ cs x→R ν cs x
def fN (sz:Nat) (cs:List Value):List Value:=(cs++List.replicate sz undef).take sz
theorem Mo (sz:Nat) (cs:List Value):(fN sz cs).length=sz:=by simp [fN]
def RpF {α:Type} (f:α→List Value):Rel α:=fun _ cs x=>cs=f x
theorem RpF.mono {α:Type} {f:α→List Value}:(RpF f).Mono:=fun _ _ _ _ _ h=>h
def ArrQ {α:Type} (μ:Frz) (sz:Nat) (R:Rel α) (ad:Option Addr) (cap:Nat) (css:List (List Value)) (l:List α):Prop:=ArrM μ sz (fN sz) ad cap css∧All2 (R μ) css l
def PtM {α:Type} (μ:Frz) (T:TypeId) (R:Rel α) (pa:Option Addr) (x:Option α):Prop :=
 (pa=none∧x=none)∨∃b cs d,pa=some ⟨b,0,none⟩∧x=some d∧BlkM μ b T cs.toArray∧R μ cs d
section
variable {α β:Type} {R:Rel α} {μ ν:Frz} {sz cap:Nat} {ad:Option Addr} {css css':List (List Value)} {l l':List α} {w:World}
theorem All2.len {R:α→β→Prop} {xs:List α} {ys:List β} (h:All2 R xs ys):xs.length=ys.length:=by
 induction h with
 | nil=>rfl
 | cons _ _ ih=>simp [ih]
theorem All2.imp {R S:α→β→Prop} {xs:List α} {ys:List β} (h:All2 R xs ys) (hi:∀x y,R x y→S x y):All2 S xs ys:=by
 induction h with
 | nil=>exact .nil
 | cons h _ ih=>exact .cons (hi _ _ h) ih
theorem All2.set {R:α→β→Prop} {xs:List α} {ys:List β} {x:α} {y:β} (h:All2 R xs ys) (hxy:R x y):∀k,All2 R (xs.set k x) (ys.set k y):=by
 induction h with
 | nil=>intro k;simp;exact .nil
 | cons h h2 ih=>intro k;cases k with
  | zero=>exact .cons hxy h2
  | succ k=>exact .cons h (ih k)
theorem All2.rep {R:α→β→Prop} {x:α} {y:β} (h:R x y) (n:Nat):All2 R (List.replicate n x) (List.replicate n y):=by
 induction n with
 | zero=>exact .nil
 | succ n ih=>exact .cons h ih
theorem All2.mono (hR:R.Mono) (hle:μ.le ν) (h:All2 (R μ) css l):All2 (R ν) css l:=h.imp fun _ _=>hR _ _ _ _ hle
theorem ArrQ.mono (h:ArrQ μ sz R ad cap css l) (hR:R.Mono) (hle:μ.le ν):ArrQ ν sz R ad cap css l:=⟨h.1.mono hle,h.2.mono hR hle⟩
theorem ArrQ.at (h:ArrQ μ sz R ad cap css l) (hw:FrzAt μ w):Arr w sz (fN sz) ad l.length cap css:=by
 have:=h.1 w hw
 rwa [h.2.len] at this
theorem PtM.mono {T:TypeId} {pa:Option Addr} {x:Option α} (h:PtM μ T R pa x) (hR:R.Mono) (hle:μ.le ν):PtM ν T R pa x:=by
 rcases h with h|⟨b,cs,d,h1,h2,h3,h4⟩
 ·exact .inl h
 ·exact .inr ⟨b,cs,d,h1,h2,h3.mono hle,hR _ _ _ _ hle h4⟩
theorem PtM.some {T:TypeId} {pa:Option Addr} {x:Option α} {d:α} (h:PtM μ T R pa x) (hx:x=.some d):∃b cs,pa=Option.some ⟨b,0,none⟩∧BlkM μ b T cs.toArray∧R μ cs d:=by
 rcases h with ⟨_,rfl⟩|⟨b,cs,d',h1,h2,h3,h4⟩
 ·cases hx
 ·rw [hx] at h2;cases h2;exact ⟨b,cs,h1,h3,h4⟩
end
section
variable {P:Program} {T:World→World→Prop} {D:World→Prop} {w:World} {cs:List Cd} {t:Nat} {α:Type} {sz n cap:Nat} {f:α→List Value} {ad:Option Addr} {l:List α}
theorem Gx {i:Int} {u:α} (h:Arr w sz f ad n cap l) (ht:Eo P t sz=true) (hx:Ak cs=true→getI l i=some u) :
  Ob.ok P T D (.run cs (Instr.indexAt t (.slice ad n cap) (.int .i64 i)) (.pointer (some (Ag ad i sz)))) :=
 A1p h ht fun hk=>by have:=Db (hx hk);have:=h.len;exact ⟨by omega,by omega⟩
theorem Js {i:Int} {u:α} {v:Value} (j:Nat) (hf:∀x,(f x).length=sz) (h:∀w',D w'→Arr w' sz f ad n cap l) (ht:Eh P t=true) (hx:Ak cs=true→getI l i=some u) (hj:(f u)[j]? = some v) :
  Ob.ok P T D (.run cs (Instr.loadAt t (.pointer (some ((Ag ad i sz).add j)))) v):=by
 intro hk w' e;obtain ⟨h0,hi,hg⟩:=Db (hx hk);have hl:=(h w' e).len;obtain ⟨_,_,hc⟩:=(h w' e).cells hf h0 (by omega) u;rw [Ue hg] at hc;exact Fj ht (hc j _ hj)
theorem A0n {m:Nat} {i:Int} {u:α} {us:List Value} (j:Nat) (hf:∀x,(f x).length=sz) (h:∀w',D w'→Arr w' sz f ad n cap l) (ht:Ea P t=some m) (hx:Ak cs=true→getI l i=some u) (hg:us.length=m∧((f u).drop j).take m=us) :
  Ob.ok P T D (.run cs (Instr.loadAt t (.pointer (some ((Ag ad i sz).add j)))) (.agg us.toArray)):=by
 intro hk w' e;obtain ⟨h0,hi,hgu⟩:=Db (hx hk);have hl:=(h w' e).len;obtain ⟨_,_,hc⟩:=(h w' e).cells hf h0 (by omega) u;rw [Ue hgu] at hc;refine Fk (by rw [hg.1];exact ht) (fun q u' hu=>?_);rw [Jb];refine hc (j+q) u' ?_;rw [←hg.2,List.getElem?_take] at hu
 split at hu
 ·rwa [List.getElem?_drop] at hu
 ·cases hu
end
section
variable {P:Program} {r:Option Nat} {ops:Array Oper} {K:Act→World→Prop} {N:Nat} {ds:List Deferred} {M:List (Nat×Value)} {a:Act} {w w0:World} {H:List Res} {k:Nat} {α β:Type} {e sz cap:Nat} {f:α→List Value} {ad:Option Addr} {c c':List α} {l l' l3:List β}
theorem A1n (M':Nat→List (Nat×Value)) {t len:Nat} (parts:Array (Nat×Value)) (cs:Array Value) (c:List α) (l:List β) (hF:Fr N ds M a) (hS:St w0 H w) (hdst:Al ops N=true) (hs:EffAt ops k M (Instr.buildSlice t len parts))
  (hb:D2 P t len parts=some (e,cs)) (hf:∀x,(f x).length=sz) (hl:c.length=len) (hll:l.length=len) (hc:c.flatMap f=cs.toList) (hn:Nat.ble len 16777216=true) (hM:∀b,NextM ops k M (.slice (some ⟨b,0,none⟩) len len) (M' b))
  (next:∀b w' a',Fr N ds (M' b) a'→St w0 (arr e sz f (some ⟨b,0,none⟩) l.length len c::H) w'→K a' w'):SK P r ops k K a w:=by
 refine A0e M' parts cs c hF hS hdst hs hb hf hl hc hn hM ?_;intro b w' a' h1 h2;rw [hl] at h2;exact next b w' a' h1 (by rw [hll];exact h2)
end
end Go.Eng
namespace Go.Eng
open Go Go.RowKit
def Lk (ops:Array Oper) (e i:Nat):Bool:=((Ht ops.toList []).getD i 0).testBit e
def Ar (ops:Array Oper) (m:Nat) (eff done:List Nat):List Nat :=
 (List.range m).filter fun i=>!eff.contains i&&(eff.all fun e=>!Lk ops e i||done.contains e)&&(match done.getLast? with|some e=>Lk ops e i|none=>true)
def Lg (ops:Array Oper) (eff done:List Nat):List Nat:=eff.filter fun e=>!done.contains e&&eff.all fun d=>!Lk ops d e||done.contains d
def WT (P:Program) (r:Option Nat) (ops:Array Oper) (D:World→Prop) (m:Nat) (eff:List Nat) (K:Act→World→Prop):Nat→List Nat→Act→World→Prop
 | 0,done,a,w=>WRun P r ops D [] K (Ar ops m eff done) a w
 | n+1,done,a,w=>WRun P r ops D [] (fun a w=>∀e∈Lg ops eff done,SK P r ops e (fun a' w'=>D w'∧WT P r ops D m eff K n (done++[e]) a' w') a w) (Ar ops m eff done) a w
def SKB (P:Program) (r:Option Nat) (ops:Array Oper) (k:Nat) (B:List PanicEntry→World→Prop) (K:Act→World→Prop) (a:Act) (w:World):Prop :=
 ∃o,ops[k]? = some o∧OpGB P r ops o a w (fun v w'=>K (a.put o.dst v) w') B
def WTB (P:Program) (r:Option Nat) (ops:Array Oper) (D:World→Prop) (m:Nat) (eff:List Nat) (B:List PanicEntry→World→Prop) (K:Act→World→Prop):Nat→List Nat→Act→World→Prop
 | 0,done,a,w=>WRun P r ops D [] K (Ar ops m eff done) a w
 | n+1,done,a,w=>WRun P r ops D [] (fun a w=>∀e∈Lg ops eff done,SKB P r ops e B (fun a' w'=>D w'∧WTB P r ops D m eff B K n (done++[e]) a' w') a w) (Ar ops m eff done) a w
def G2 (ops:Array Oper) (pre:List Nat) (i:Nat):Bool:=match ops[i]? with|some o=>(o.looksAt ops).all fun t=>lastW ops pre t==D8 ops i t|none=>false
def Ga (ops:Array Oper) (m:Nat) (eff:List Nat):Nat→List Nat→List Nat→Bool
 | 0,done,pre=>J6 ops pre (Ar ops m eff done)&&G5 (pre++Ar ops m eff done)&&(List.range m).all (fun i=>(pre++Ar ops m eff done).contains i) &&
   ((List.range m).all fun j=>match dstAt ops j with|some t=>lastW ops (pre++Ar ops m eff done) t==D8 ops m t|none=>true)
 | n+1,done,pre=>J6 ops pre (Ar ops m eff done)&&G5 (pre++Ar ops m eff done) &&
   (Lg ops eff done).all fun e=>G2 ops (pre++Ar ops m eff done) e&&!(pre++Ar ops m eff done).contains e&&Ga ops m eff n (done++[e]) (pre++Ar ops m eff done++[e])
section
variable {P:Program} {r:Option Nat} {ops:Array Oper} {Q:Exit→Act→World→Prop} {K:Act→World→Prop} {D:World→Prop} {N:Nat} {eff:List Nat} {B:List PanicEntry→World→Prop}
theorem SK.toB {k:Nat} {a:Act} {w:World} (h:SK P r ops k K a w):SKB P r ops k B K a w:=by
 obtain ⟨o,ho,h⟩:=h;exact ⟨o,ho,.inl h⟩
theorem Su {o:Oper} {a a':Act} {w:World} {R:Value→World→Prop} (hp:Bp o.op=true) (hs:a'.tmps.size=a.tmps.size) (h:∀t∈o.looksAt ops,a'.tmps.getD t undef=a.tmps.getD t undef) (hG:OpGB P r ops o a w R B):OpGB P r ops o a' w R B:=by
 rcases hG with hG|⟨hw,f,args,w',h1,hc⟩
 ·exact .inl (V2 hp hs h hG)
 ·refine .inr ⟨?_,f,args,w',?_,hc⟩
  ·rw [←hw];exact K5 hs h
  ·rw [←h1,Li hp h]
theorem Pn:∀(l k:List Nat),l.Nodup→(∀x∈l,x∈k)→l.length≤k.length:=by
 intro l
 induction l with
 | nil=>intro k _ _;simp
 | cons x l ih =>
  intro k hn hs;have hx:=hs x (List.mem_cons_self ..);have hn':=List.nodup_cons.1 hn;have:=ih (k.erase x) hn'.2 (fun y hy=>by
   have hne:y≠x:=fun e=>hn'.1 (e▸hy);exact (List.mem_erase_of_ne hne).2 (hs y (List.mem_cons_of_mem _ hy)))
  rw [List.length_erase_of_mem hx] at this;have hpos:0<k.length:=List.length_pos_of_mem hx;simp;omega
theorem Vs {l k:List Nat} (hn:l.Nodup) (hs:∀x∈l,x∈k) (hl:k.length≤l.length):∀x∈k,x∈l:=by
 intro x hx
 by_cases h:x∈l
 ·exact h
 ·have:=Pn (x::l) k (List.nodup_cons.2 ⟨h,hn⟩) (fun y hy=>by
   rcases List.mem_cons.1 hy with rfl|hy
   ·exact hx
   ·exact hs y hy)
  simp at this;omega
theorem P8 {e i:Nat} (h:Lk ops e i=true):Anc ops e i:=Fb h
theorem Sk {pre:List Nat} {i:Nat} {l:List Nat} (h:J6 ops pre (i::l)=true):G2 ops pre i=true∧J6 ops (pre++[i]) l=true:=by
 rw [J6,Bool.and_eq_true] at h;exact h
theorem G3 {pre:List Nat} {i:Nat} {o:Oper} (h:G2 ops pre i=true) (ho:ops[i]? = some o):∀t∈o.looksAt ops,lastW ops pre t=D8 ops i t:=by
 unfold G2 at h;rw [ho] at h;intro t ht
 simpa using List.all_eq_true.1 h t ht
theorem J1 {l:List Nat} {i:Nat} {k:List Nat} (h:(l++i::k).Nodup):i∉l:=by
 intro hi;have:=(List.nodup_append.1 h).2.2 i hi i (List.mem_cons_self ..);exact this rfl
def P7 (P:Program) (r:Option Nat) (ops:Array Oper) (D:World→Prop) (a:Act) (vals:Nat→Value) (i:Nat):Prop :=
 ∃o,ops[i]? = some o∧∀a' w',(∀t∈o.looksAt ops,a'.tmps.getD t undef=E7 ops a vals i t)→D w'→OpG P r ops o a' w' (fun v' w''=>v'=vals i∧w''=w')
def Told (ops:Array Oper) (l:List Nat):Prop:=∀pre i post,l=pre++i::post→G2 ops pre i=true
theorem Told.snoc {l:List Nat} {i:Nat} (h:Told ops l) (hi:G2 ops l i=true):Told ops (l++[i]):=by
 intro pre j post e;rcases List.eq_nil_or_concat post with rfl|⟨q,x,rfl⟩
 ·have:=List.append_inj' e (by simp);obtain ⟨e1,e2⟩:=this
  cases e2
  rw [←e1];exact hi
 ·rw [List.concat_eq_append,←List.cons_append,←List.append_assoc] at e;obtain ⟨e1,_⟩:=List.append_inj' e (by simp);exact h pre j q e1
theorem Nc {a:Act} {l:List Nat} (ht:Told ops l) {vals vals':Nat→Value} (hv:∀i∈l,vals' i=vals i) {i:Nat} (hi:i∈l) (h:P7 P r ops D a vals i):P7 P r ops D a vals' i:=by
 obtain ⟨o,ho,h⟩:=h;obtain ⟨pre,post,e⟩:=List.append_of_mem hi;refine ⟨o,ho,fun a' w' hs hw=>?_⟩;rw [hv i hi];refine h a' w' (fun t htt=>?_) hw;rw [hs t htt];unfold E7;have hl:=G3 (ht pre i post e) ho t htt
 cases hs:D8 ops i t with
 | none=>rfl
 | some j =>
  rw [hs] at hl;exact hv j (by rw [e];exact List.mem_append_left _ (Hb hl).1)
theorem U3 {l0:List Nat} {a:Act} {K:Act→World→Prop} {w:World} (hdst:Al ops N=true) (hsz:∀i∈l0,i<ops.size):∀(rs:List Nat) (pre:List Nat) (vals:Nat→Value) (b:Act),(∀i∈rs,i∈l0)→J6 ops pre rs=true→(pre++rs).Nodup→Told ops pre →
  FIs ops N a vals pre b→(∀i∈pre,i∉eff→P7 P r ops D a vals i)→(∀i∈rs,i∉eff)→WRun P r ops D [] K rs b w →
  ∃vals' b',(∀i∈pre,vals' i=vals i)∧FIs ops N a vals' (pre++rs) b'∧(∀i∈pre++rs,i∉eff→P7 P r ops D a vals' i)∧Told ops (pre++rs)∧K b' w:=by
 intro rs
 induction rs with
 | nil=>intro pre vals b _ _ _ ht hb hr _ hw;exact ⟨vals,b,fun _ _=>rfl,by simpa using hb,by simpa using hr,by simpa using ht,hw⟩
 | cons i rs ih =>
  intro pre vals b hl0 hs hnd ht hb hr hne hw;obtain ⟨h1,h2⟩:=Sk hs;rw [WRun] at hw;simp only [List.contains_nil,cond_false] at hw;obtain ⟨v,hrd,hw⟩:=hw;have hni:=J1 hnd;have hag:∀j∈pre,Fu vals i v j=vals j:=fun j hj=>by
   have:j≠i:=fun e=>hni (e▸hj);simp [Fu,this]
  have hb':=hb.put (v:=v) hdst (hsz i (hl0 i (List.mem_cons_self ..))) hni;have ht':=ht.snoc h1;obtain ⟨vals',b',k1,k2,k3,k4,k5⟩:=ih (pre++[i]) (Fu vals i v) _ (fun j hj=>hl0 j (List.mem_cons_of_mem _ hj)) h2 (by simpa using hnd) ht' hb' (fun j hj hje=>by
   rcases List.mem_append.1 hj with hj|hj
   ·exact Nc ht hag hj (hr j hj hje)
   ·simp at hj;subst hj;obtain ⟨o,ho,hro⟩:=hrd;refine ⟨o,ho,fun a' w' hs hw'=>?_⟩;have:Fu vals j v j=v:=by simp [Fu]
    rw [this];refine hro a' w' (fun t htt=>?_) hw';rw [hs t htt,hb.slot t];unfold E7;have hl:=G3 h1 ho t htt;rw [hl]
    cases hs:D8 ops j t with
    | none=>rfl
    | some q =>
     rw [hs] at hl;exact hag q (Hb hl).1) (fun j hj=>hne j (List.mem_cons_of_mem _ hj)) hw
  refine ⟨vals',b',fun j hj=>?_,by simpa using k2,by simpa using k3,by simpa using k4,k5⟩;rw [k1 j (List.mem_append_left _ hj),hag j hj]
theorem Qt {id:Nat} (m:Nat) (eff:List Nat) {a:Act} {w:World} (hmo:P.follows .mixedOrders=true) (hck:(Al ops N&&F9 ops m&&E9 ops m&&Cf ops&&Nat.ble m ops.size&&Ga ops m eff eff.length [] []&&eff.all (fun e=>Nat.blt e m&&(match ops[e]? with|some o=>Bp o.op|none=>false))&&G5 eff)=true) (hN:a.tmps.size=N)
  (hB:∀ch a' w,a'.defers=a.defers→B ch w→Q (.panic ch) a' w) (hD:D { w with drawn:=w.drawn+1 }) (h:WTB P r ops D m eff B (fun a w=>WI P r ops Q m a w) eff.length [] a { w with drawn:=w.drawn+1 }):WP P r (.region id ops true) Q a w:=by
 simp only [Bool.and_eq_true] at hck;obtain ⟨⟨⟨⟨⟨⟨⟨h1,h2⟩,h3⟩,h4⟩,h5⟩,h6⟩,h7⟩,h8⟩:=hck;have hmn:=Nat.le_of_ble_eq_true h5;have heff:∀e∈eff,e<m∧∀o,ops[e]? = some o→Bp o.op=true:=fun e he=>by
  have:=List.all_eq_true.1 h7 e he;rw [Bool.and_eq_true] at this;exact ⟨Nat.blt_eq.mp this.1,fun o ho=>by have:=this.2;rw [ho] at this;exact this⟩
 have hnde:=Gv h8;have newR:∀done i,i∈Ar ops m eff done→i<m∧i∉eff:=by
  intro done i hi;unfold Ar at hi;have:=List.mem_filter.1 hi;simp only [Bool.and_eq_true] at this;exact ⟨List.mem_range.1 this.1,by simpa using this.2.1.1⟩
 let St:Nat→List Nat→List Nat→(Nat→Value)→Act→World→Prop:=fun n done pre vals b w =>
  FIs ops N a vals pre b∧(∀i∈pre,i∉eff→P7 P r ops D a vals i)∧Told ops pre∧pre.Nodup∧(∀i∈pre,i<m)∧(∀e∈eff,e∈pre↔e∈done)∧(∀e∈done,e∈eff)∧done.Nodup∧done.length+n=eff.length ∧
  (∀i,i<m→i∉eff→(∀e∈eff,Lk ops e i=true→e∈done)→i∈pre) ∧
  (match n with
   | 0=>WI P r ops Q m b w∧∀t,lastW ops pre t=D8 ops m t
   | n+1=>(∀e∈Lg ops eff done,SKB P r ops e B (fun a' w'=>D w'∧WTB P r ops D m eff B (fun a w=>WI P r ops Q m a w) n (done++[e]) a' w') b w)∧∀e∈Lg ops eff done,G2 ops pre e=true∧e∉pre∧Ga ops m eff n (done++[e]) (pre++[e])=true)
 have enter:∀n done pre vals b w,FIs ops N a vals pre b→(∀i∈pre,i∉eff→P7 P r ops D a vals i)→Told ops pre→(∀i∈pre,i<m)→(∀e∈eff,e∈pre↔e∈done)→(∀e∈done,e∈eff)→done.Nodup→done.length+n=eff.length →
   (∀i,i<m→i∉eff→(∀e∈eff,Lk ops e i=true→e∈done)→i∈pre++Ar ops m eff done)→Ga ops m eff n done pre=true→WTB P r ops D m eff B (fun a w=>WI P r ops Q m a w) n done b w →
   ∃vals' b',(∀i∈pre,vals' i=vals i)∧St n done (pre++Ar ops m eff done) vals' b' w:=by
  intro n done pre vals b w hb hr ht hlt hed hde hdn hdl hall hok hw;have hne:∀i∈Ar ops m eff done,i∉eff:=fun i hi=>(newR done i hi).2;have hl0:∀i∈Ar ops m eff done,i<ops.size:=fun i hi=>by have:=(newR done i hi).1;omega
  have hlt':∀i∈pre++Ar ops m eff done,i<m:=fun i hi=>by
   rcases List.mem_append.1 hi with hi|hi
   ·exact hlt i hi
   ·exact (newR done i hi).1
  have hed':∀e∈eff,e∈pre++Ar ops m eff done↔e∈done:=fun e he=>by
   rw [List.mem_append,hed e he];exact ⟨fun h=>h.elim (fun h=>h) (fun h=>absurd he (hne e h)),.inl⟩
  cases n with
  | zero =>
   simp only [Ga,Bool.and_eq_true] at hok;obtain ⟨⟨⟨o1,o2⟩,o3⟩,o4⟩:=hok;have hnd:=Gv o2;rw [WTB] at hw;obtain ⟨vals',b',k1,k2,k3,k4,k5⟩:=U3 (l0:=Ar ops m eff done) (eff:=eff) h1 hl0 _ pre vals b (fun _ h=>h) o1 hnd ht hb hr hne hw;refine ⟨vals',b',k1,k2,k3,k4,hnd,hlt',hed',hde,hdn,hdl,hall,k5,fun t=>?_⟩
   cases hs:D8 ops m t with
   | some j =>
    obtain ⟨hjm,hdj,_⟩:=F2 hs;have:=List.all_eq_true.1 o4 j (List.mem_range.2 hjm);rw [hdj] at this;rw [←hs]
    simpa using this
   | none =>
    cases hl:lastW ops (pre++Ar ops m eff done) t with
    | none=>rfl
    | some j =>
     obtain ⟨hjl,hdj⟩:=Hb hl;exact absurd hdj (J5 hs j (hlt' j hjl))
  | succ n =>
   simp only [Ga,Bool.and_eq_true] at hok;obtain ⟨⟨o1,o2⟩,o3⟩:=hok;have hnd:=Gv o2;rw [WTB] at hw;obtain ⟨vals',b',k1,k2,k3,k4,k5⟩:=U3 (l0:=Ar ops m eff done) (eff:=eff) h1 hl0 _ pre vals b (fun _ h=>h) o1 hnd ht hb hr hne hw;refine ⟨vals',b',k1,k2,k3,k4,hnd,hlt',hed',hde,hdn,hdl,hall,k5,fun e he=>?_⟩;have:=List.all_eq_true.1 o3 e he;simp only [Bool.and_eq_true] at this;exact ⟨this.1.1,by simpa using this.1.2,this.2⟩
 let G:(Nat→Bool)→(Nat→Value)→World→Prop:=fun S σ w=>∃n done pre vals b,St n done pre vals b w∧D w∧(∀i,S i=true→i∈pre)∧(∀e∈done,S e=true)∧(∀i,S i=true→σ i=vals i)
 refine Qs (B:=B) (N:=N) (m:=m) (G:=G) hmo h1 h2 h3 h4 hmn hB ?_ hN ?_ (fun _=>undef) ?_ ?_
 ·intro S σ a1 w1 i o him ho hSi hanc hcl hlow hsz hdf hG hlook;obtain ⟨n,done,pre,vals,b,⟨s1,s2,s3,s4,s5,s6,s7,s8,s9,s10,s11⟩,g1,g2,g3,g4⟩:=hG;have hsrc:∀t∈o.looksAt ops,∀j,D8 ops i t=some j→S j=true:=by
   intro t ht j hj;obtain ⟨hji,hdj,_⟩:=F2 hj;obtain ⟨xo,hxo,hxd⟩:=Fx hdj;rcases G6 h2 hji him hxo ho with hap|hA
   ·exact absurd ht ((Oper.apart_spec hap).1 t hxd)
   ·exact hanc j hA
  have hslot:∀t∈o.looksAt ops,a1.tmps.getD t undef=E7 ops a vals i t:=by
   intro t ht;rw [hlook t ht];unfold E7
   cases hl:D8 ops i t with
   | none=>rfl
   | some j=>exact g4 j (hsrc t ht j hl)
  by_cases hie:i∈eff
  ·
   have hdone:∀e∈eff,Lk ops e i=true→e∈done:=fun e he hA=>(s6 e he).1 (g2 e (hanc e (P8 hA)));have hid:i∉done:=fun hd=>by have:=g3 i hd;rw [hSi] at this;cases this
   have hnx:i∈Lg ops eff done:=by
    unfold Lg;refine List.mem_filter.2 ⟨hie,?_⟩;rw [Bool.and_eq_true];refine ⟨by simpa using hid,List.all_eq_true.2 fun d hd=>?_⟩
    cases hA:Lk ops d i with
    | false=>simp
    | true=>simpa using hdone d hd hA
   cases n with
   | zero =>
    exfalso;have hp:done.length=eff.length:=by omega
    have hsub:∀x∈done,x∈eff:=s7;have:i∈done:=by
     exact Vs s8 hsub (by omega) i hie
    exact hid this
   | succ n =>
    obtain ⟨hstep,hlk⟩:=s11;obtain ⟨l1,l2,l3⟩:=hlk i hnx;obtain ⟨o',ho',hop⟩:=hstep i hnx;rw [ho] at ho'
    cases ho'
    have hop':=Su (a':=a1) ((heff i hie).2 o ho) (by rw [hsz,s1.size]) (fun t ht=>by
     rw [hslot t ht,s1.slot t,G3 l1 ho t ht];rfl) hop
    refine hop'.mono ?_;rintro v w' ⟨hDw,hw⟩;have hag:∀j∈pre,Fu vals i v j=vals j:=fun j hj=>by
     have:j≠i:=fun e=>l2 (e▸hj);simp [Fu,this]
    have hb':=s1.put (v:=v) h1 (by omega) l2;have hdo:o.dst=dstAt ops i:=by simp [dstAt,ho]
    rw [hdo] at hw;obtain ⟨vals',b',k1,k2⟩:=enter n (done++[i]) (pre++[i]) (Fu vals i v) _ w' hb' (fun j hj hje=>by
      rcases List.mem_append.1 hj with hj|hj
      ·exact Nc s3 hag hj (s2 j hj hje)
      ·simp at hj;subst hj;exact absurd hie hje) (s3.snoc l1) (fun j hj=>by
      rcases List.mem_append.1 hj with hj|hj
      ·exact s5 j hj
      ·simp at hj;subst hj;exact him) (fun e he=>by rw [List.mem_append,List.mem_append,s6 e he]) (fun e he=>by
      rcases List.mem_append.1 he with he|he
      ·exact s7 e he
      ·simp at he;subst he;exact hie) (List.nodup_append.2 ⟨s8,by simp,fun x hx y hy=>by simp at hy;subst hy;exact fun e=>hid (e▸hx)⟩) (by simp;omega) (fun j hj hje hAj=>by
      by_cases hold:∀e∈eff,Lk ops e j=true→e∈done
      ·exact List.mem_append_left _ (List.mem_append_left _ (s10 j hj hje hold))
      ·refine List.mem_append_right _ ?_;unfold Ar;refine List.mem_filter.2 ⟨List.mem_range.2 hj,?_⟩;have hij:Lk ops i j=true:=by
        simp only [Classical.not_forall] at hold;obtain ⟨e,he,hAe,hed⟩:=hold;rcases List.mem_append.1 (hAj e he hAe) with h'|h'
        ·exact absurd h' hed
        ·simp at h';subst h';exact hAe
       simp only [Bool.and_eq_true];refine ⟨⟨by simpa using hje,List.all_eq_true.2 fun e he=>?_⟩,by simpa using hij⟩
       cases hAe:Lk ops e j with
       | false=>simp
       | true=>simpa using hAj e he hAe) l3 hw
    refine ⟨n,done++[i],_,vals',b',k2,hDw,fun j hj=>?_,fun e he=>?_,fun j hj=>?_⟩
    ·rcases Bool.or_eq_true _ _▸hj with hj|hj
     ·exact List.mem_append_left _ (List.mem_append_left _ (g2 j hj))
     ·rw [Nat.beq_eq] at hj;subst hj;exact List.mem_append_left _ (by simp)
    ·rcases List.mem_append.1 he with he|he
     ·simp [g3 e he]
     ·simp at he;subst he;simp
    ·rcases Bool.or_eq_true _ _▸hj with hj|hj
     ·have hjl:=g2 j hj;have hji:j≠i:=fun e=>l2 (e▸hjl);rw [k1 j (List.mem_append_left _ hjl),hag j hjl];simp [Fu,hji,g4 j hj]
     ·rw [Nat.beq_eq] at hj;subst hj;rw [k1 j (by simp)];simp [Fu]
  ·have hip:i∈pre:=s10 i him hie (fun e he hA=>(s6 e he).1 (g2 e (hanc e (P8 hA))));obtain ⟨o',ho',hr⟩:=s2 i hip hie;rw [ho] at ho'
   cases ho'
   refine .inl ((hr a1 w1 hslot g1).mono ?_);rintro v w' ⟨rfl,rfl⟩;refine ⟨n,done,pre,vals,b,⟨s1,s2,s3,s4,s5,s6,s7,s8,s9,s10,s11⟩,g1,fun j hj=>?_,fun e he=>by simp [g3 e he],fun j hj=>?_⟩
   ·rcases Bool.or_eq_true _ _▸hj with hj|hj
    ·exact g2 j hj
    ·rw [Nat.beq_eq] at hj;subst hj;exact hip
   ·rcases Bool.or_eq_true _ _▸hj with hj|hj
    ·by_cases hji:j=i
     ·subst hji;simp [Fu]
     ·simp [Fu,hji,g4 j hj]
    ·rw [Nat.beq_eq] at hj;subst hj;simp [Fu]
 ·intro S S' σ w1 hSS hG;have:S=S':=funext hSS;rw [←this];exact hG
 ·obtain ⟨vals',b',k1,k2⟩:=enter eff.length [] [] (fun _=>undef) a _ ⟨hN,rfl,fun t=>by simp [lastW]⟩ (fun i hi=>by simp at hi) (fun pre i post e=>by simp at e) (fun i hi=>by simp at hi) (fun e he=>by simp) (fun e he=>by simp at he) List.nodup_nil (by simp) (fun i hi hie hA=>by
    refine List.mem_append_right _ (List.mem_filter.2 ⟨List.mem_range.2 hi,?_⟩);simp only [Bool.and_eq_true];refine ⟨⟨by simpa using hie,List.all_eq_true.2 fun e he=>?_⟩,rfl⟩
    cases hAe:Lk ops e i with
    | false=>simp
    | true=>exact absurd (hA e he hAe) (by simp)) h6 h
  exact ⟨_,_,_,vals',b',k2,hD,fun i hi=>by simp at hi,fun e he=>by simp at he,fun i hi=>by simp at hi⟩
 ·intro a' w' σ hNa hdf hG hslots;obtain ⟨n,done,pre,vals,b,⟨s1,s2,s3,s4,s5,s6,s7,s8,s9,s10,s11⟩,g1,g2,g3,g4⟩:=hG;have hn:n=0:=by
   have hsub:∀e∈eff,e∈done:=fun e he=>(s6 e he).1 (g2 e (Nat.blt_eq.mpr (heff e he).1));have:=Pn eff done hnde hsub;omega
  subst hn;obtain ⟨hWI,hfin⟩:=s11;have hab:a'=b:=by
   have ht:a'.tmps=b.tmps:=by
    refine Array.ext (by rw [hNa,s1.size]) (fun t ht1 ht2=>?_);have e1:=hslots t;have e2:=s1.slot t;have hsl:E7 ops a σ m t=(match lastW ops pre t with|some j=>vals j|none=>a.tmps.getD t undef):=by
     rw [hfin t];unfold E7
     cases hs:D8 ops m t with
     | none=>rfl
     | some j=>exact g4 j (Nat.blt_eq.mpr (F2 hs).1)
    replace e1:a'.tmps.getD t undef=b.tmps.getD t undef:=e1.trans (hsl.trans e2.symm);rw [Array.getD_eq_getD_getElem?,Array.getD_eq_getD_getElem?,Array.getElem?_eq_getElem ht1,Array.getElem?_eq_getElem ht2] at e1
    simpa using e1
   cases a';cases b
   simp only at ht;subst ht;have:=hdf.trans s1.dfs.symm;simp only at this;rw [this]
  rw [hab];exact hWI
theorem WRun.mono0 {K K':Act→World→Prop} (hK:∀a w,K a w→K' a w):∀{l:List Nat} {a:Act} {w:World},WRun P r ops D [] K l a w→WRun P r ops D [] K' l a w:=by
 intro l
 induction l with
 | nil=>intro a w h;exact hK a w h
 | cons i l ih =>
  intro a w h;rw [WRun] at h ⊢;simp only [List.contains_nil,cond_false] at h ⊢;obtain ⟨v,h1,h2⟩:=h;exact ⟨v,h1,ih h2⟩
theorem WT.toB {m:Nat}:∀{n:Nat} {done:List Nat} {a:Act} {w:World},WT P r ops D m eff K n done a w→WTB P r ops D m eff B K n done a w:=by
 intro n
 induction n with
 | zero=>intro done a w h;rw [WT] at h;rw [WTB];exact h
 | succ n ih =>
  intro done a w h;rw [WT] at h;rw [WTB];refine WRun.mono0 (fun a w h e he=>SK.toB ?_) h;obtain ⟨o,ho,h⟩:=h e he;exact ⟨o,ho,h.mono fun _ _ h=>⟨h.1,ih h.2⟩⟩
theorem S7 {id:Nat} (m:Nat) (eff:List Nat) {a:Act} {w:World} (hmo:P.follows .mixedOrders=true) (hck:(Al ops N&&F9 ops m&&E9 ops m&&Cf ops&&Nat.ble m ops.size&&Ga ops m eff eff.length [] []&&eff.all (fun e=>Nat.blt e m&&(match ops[e]? with|some o=>Bp o.op|none=>false))&&G5 eff)=true) (hN:a.tmps.size=N)
  (hD:D { w with drawn:=w.drawn+1 }) (h:WT P r ops D m eff (fun a w=>WI P r ops Q m a w) eff.length [] a { w with drawn:=w.drawn+1 }):WP P r (.region id ops true) Q a w:=by
 refine Qt (B:=fun _ _=>False) m eff hmo hck hN (fun _ _ _ _ h=>h.elim) hD (WT.toB h)
theorem WRun.mono {K K':Act→World→Prop} (hK:∀a w,K a w→K' a w) {l:List Nat} {a:Act} {w:World} (h:WRun P r ops D [] K l a w):WRun P r ops D [] K' l a w:=WRun.mono0 hK h
theorem SK.mono {k:Nat} {K K':Act→World→Prop} {a:Act} {w:World} (hK:∀a w,K a w→K' a w) (h:SK P r ops k K a w):SK P r ops k K' a w:=by
 obtain ⟨o,ho,h⟩:=h;exact ⟨o,ho,h.mono fun _ _=>hK _ _⟩
theorem WT.mono {m:Nat} {K K':Act→World→Prop} (hK:∀a w,K a w→K' a w):∀{n:Nat} {done:List Nat} {a:Act} {w:World},WT P r ops D m eff K n done a w→WT P r ops D m eff K' n done a w:=by
 intro n
 induction n with
 | zero=>intro done a w h;rw [WT] at h ⊢;exact WRun.mono hK h
 | succ n ih =>
  intro done a w h;rw [WT] at h ⊢;exact WRun.mono (fun a w h e he=>(h e he).mono fun a w h=>⟨h.1,ih h.2⟩) h
theorem Qu {id:Nat} (m:Nat) (eff:List Nat) (J:Act→World→Prop) {a:Act} {w:World} (hmo:P.follows .mixedOrders=true) (hck:(Al ops N&&F9 ops m&&E9 ops m&&Cf ops&&Nat.ble m ops.size&&Ga ops m eff eff.length [] []&&eff.all (fun e=>Nat.blt e m&&(match ops[e]? with|some o=>Bp o.op|none=>false))&&G5 eff)=true) (hN:a.tmps.size=N)
  (hD:D { w with drawn:=w.drawn+1 }) (h:WT P r ops D m eff J eff.length [] a { w with drawn:=w.drawn+1 }) (hJ:∀a w,J a w→WI P r ops Q m a w):WP P r (.region id ops true) Q a w :=
 S7 m eff hmo hck hN hD (WT.mono hJ h)
theorem WT.z {m:Nat} {done:List Nat} {a:Act} {w:World} (rs:List Nat) (hr:Ar ops m eff done=rs) (h:WRun P r ops D [] K rs a w):WT P r ops D m eff K 0 done a w:=by rw [WT,hr];exact h
theorem WT.s {m n:Nat} {done:List Nat} {a:Act} {w:World} (rs es:List Nat) (hr:Ar ops m eff done=rs) (hx:Lg ops eff done=es)
  (h:WRun P r ops D [] (fun a w=>∀e∈es,SK P r ops e (fun a' w'=>D w'∧WT P r ops D m eff K n (done++[e]) a' w') a w) rs a w):WT P r ops D m eff K (n+1) done a w:=by rw [WT,hr,hx];exact h
theorem A0 {p:Nat→Prop}:∀e∈([]:List Nat),p e:=fun e h=>by simp at h
theorem all_cons {p:Nat→Prop} {x:Nat} {l:List Nat} (h:p x) (t:∀e∈l,p e):∀e∈x::l,p e:=fun e he=>by
 rcases List.mem_cons.1 he with rfl|he
 ·exact h
 ·exact t e he
theorem Cl {id:Nat} (m:Nat) (eff:List Nat) (J:Act→World→Prop) {a:Act} {w:World} (hmo:P.follows .mixedOrders=true) (hck:(Al ops N&&F9 ops m&&E9 ops m&&Cf ops&&Nat.ble m ops.size&&Ga ops m eff eff.length [] []&&eff.all (fun e=>Nat.blt e m&&(match ops[e]? with|some o=>Bp o.op|none=>false))&&G5 eff)=true) (hN:a.tmps.size=N)
  (h:∀w1,Ext w w1→D w1∧WT P r ops D m eff J eff.length [] a w1) (hJ:∀a w,J a w→WI P r ops Q m a w):WP P r (.region id ops true) Q a w :=
 Qu m eff J hmo hck hN (h _ (Ml w)).1 (h _ (Ml w)).2 hJ
theorem Vj {f:FuncId} {fn:Func} {c:Code} {args:Array Value} {R:Ending→World→Prop} {w:World} (hf:P.funcs[f]? = some fn) (hb:fn.body=some c) (N:Nat) (M:List (Nat×Value)) (hN:fn.ntmps=N)
  (hsz:Nat.ble args.size N=true) (hM:M.map (fun p=>(args++Array.replicate (N-args.size) undef).getD p.1 undef)=M.map Prod.snd) (h:∀a w1,w1=w→Fr N [] M a→WP P none c (bodyPost P fn R) a w1):Calls P f args w R :=
 X6 hf hb N M hN hsz hM fun a=>h a w rfl
theorem A0o {T:World→World→Prop} {cs:List Cd} {s:Sem Value} {v:Value} (h:Ak cs=false):Ob.ok P T D (.run cs s v):=fun hk=>by rw [h] at hk;cases hk
end
end Go.Eng
namespace Go.Eng
open Go Go.RowKit
section
variable {P:Program} {ops:Array Oper} {Q:Exit→Act→World→Prop} {N:Nat} {ds:List Deferred} {M:List (Nat×Value)} {a:Act} {w w0:World} {H:List Res}
end
end Go.Eng
namespace Go.Eng
open Go Go.RowKit
section
variable {w w0:World} {A R G:List Res} {f:Res}
end
end Go.Eng
namespace Go.Eng
open Go Go.RowKit
set_option linter.unusedVariables false
set_option linter.unusedSimpArgs false
section
variable {P:Program} {r:Option Nat} {ops:Array Oper} {T:World→World→Prop} {Q:Exit→Act→World→Prop} {N:Nat} {ds:List Deferred} {M:List (Nat×Value)} {M':List (Nat×En)} {a:Act} {w:World} {obs:List Ob}
end
end Go.Eng
namespace Go.Eng
open Go Go.RowKit
set_option linter.unusedVariables false
set_option linter.unusedSimpArgs false
def exc {ε α β:Type} (y:Except ε α) (f:ε→β) (g:α→β):β:=match y with|.error e=>f e|.ok x=>g x
section
variable {P:Program} {r:Option Nat} {ops:Array Oper} {Q:Exit→Act→World→Prop} {K:Act→World→Prop} {N:Nat} {ds:List Deferred} {M M':List (Nat×Value)} {a:Act} {w w0 w':World} {H:List Res} {k:Nat}
end
end Go.Eng
namespace Go.Eng
open Go Go.RowKit
end Go.Eng
namespace Go.Eng
open Go Go.RowKit
set_option linter.unusedVariables false
section
variable {P:Program} {r:Option Nat} {ops:Array Oper} {D:World→Prop} {eff:List Nat} {K:Act→World→Prop} {N:Nat} {ds:List Deferred} {M M':List (Nat×Value)} {a:Act} {w:World} {obs:List Ob} {k:Nat}
end
end Go.Eng
namespace Go.Eng
open Go Go.RowKit
section
variable {H:Type} {enc:TypeId×Value→H} {P:Program} {w:World} {α:Type} {t e:TypeId} {cs:List Value} {sz:Nat}
def Reads (enc:TypeId×Value→H) (P:Program) (w:World) (t:TypeId) (cs:List Value):Prop:=∃fuel d,DataW.trod enc P w 0 (fun _=>true) true fuel t cs=some d
theorem Reads.of {v:Value} {d:DataW H} {p:List MemPlace} (h:DataW.Trod enc P w 0 (fun _=>true) true t v d p):Reads enc P w t v.cells.toList:=by
 obtain ⟨f,h⟩:=h;exact ⟨f,_,h⟩
theorem Reads.int {k:IntKind} (ht:P.underlying t=some (.int k)) (h:Reads enc P w t cs):∃n,cs=[.int k n]∧(Lit.int k n).wf=true:=by
 obtain ⟨f,d,h⟩:=h;obtain ⟨n,h1,_,h2⟩:=DataW.trod_int ht h;exact ⟨n,h1,h2⟩
theorem Reads.arrLen {n:Nat} (ht:P.underlying t=some (.array n e)) (h:Reads enc P w t cs):cs.length=P.cellsOf t:=by
 obtain ⟨f,d,h⟩:=h;obtain ⟨_,_,_,_,hl,_⟩:=DataW.trod_array ht h;exact hl
theorem Reads.part {n:Nat} (ht:P.underlying t=some (.array n e)) (h:Reads enc P w t cs) (i:Nat) (hi:i<n) (m:Nat) (hm:P.cellsOf e=m):Reads enc P w e ((cs.drop (i*m)).take m):=by
 obtain ⟨fu,d,h⟩:=h;obtain ⟨xs,q,_,_,_,hx,hall⟩:=DataW.trod_array ht h;have:=hall i hi;rw [List.getElem?_eq_getElem (by omega),hm] at this;exact ⟨q,_,this⟩
theorem L6 {β:Type} {R:β→α→Prop} {ok:α→Prop}:∀(css:List β),(∀c∈css,∃x,R c x∧ok x)→∃l,All2 R css l∧∀x∈l,ok x
 | [],_=>⟨[],.nil,by simp⟩
 | c::css,h=>by
  obtain ⟨x,hx,hk⟩:=h c (by simp);obtain ⟨l,hl,hl2⟩:=L6 css (fun c hc=>h c (by simp [hc]));exact ⟨x::l,.cons hx hl,by simpa using ⟨hk,hl2⟩⟩
theorem Reads.row (ht:P.underlying t=some (.slice e)) (hsz:P.cellsOf e=sz) (h0:0<sz) (h:Reads enc P w t cs) :
  ∃(ad:Option Addr) (cap:Nat) (css:List (List Value)),cs=[.slice ad css.length cap]∧ArrM (Ap w) sz (fN sz) ad cap css∧∀c∈css,c.length=sz∧Reads enc P w e c:=by
 obtain ⟨f,d,h⟩:=h;rcases DataW.trod_slice ht h with ⟨rfl,_⟩|⟨a,len,cap,elems,rest,n,_,rfl,_,_,hl,hm,hlen,hel,_,_⟩
 ·exact ⟨none,0,[],rfl,ArrM.nil,by simp⟩
 ·rw [hsz] at hel;have hget:∀i,i<len→∃c,w.cells? 0 (a.add (i*sz)) sz=some c∧Reads enc P w e c:=by
   intro i hi;have:=hel i hi;rw [List.getElem?_eq_getElem (by omega),Option.bind_eq_some_iff] at this;obtain ⟨c,h1,h2⟩:=this;exact ⟨c,h1,n,_,h2⟩
  let css:=(List.range len).map fun i=>(w.cells? 0 (a.add (i*sz)) sz).getD []
  have hcl:css.length=len:=by simp [css]
  have hci:∀i,i<len→∃c,css[i]? = some c∧w.cells? 0 (a.add (i*sz)) sz=some c∧Reads enc P w e c:=by
   intro i hi;obtain ⟨c,h1,h2⟩:=hget i hi;exact ⟨c,by simp [css,hi,h1],h1,h2⟩
  have hlen':∀c∈css,c.length=sz∧Reads enc P w e c:=by
   intro c hc;obtain ⟨i,hi,he⟩:=List.mem_iff_getElem.1 hc;obtain ⟨c',h1,h2,h3⟩:=hci i (by omega);rw [List.getElem?_eq_getElem hi,he] at h1;obtain rfl:=Option.some.inj h1;exact ⟨(World.cells?_some h2).2.1,h3⟩
  refine ⟨some a,cap,css,by rw [hcl],Arr.toM ⟨rfl,some a,cap,rfl,?_,by omega,hm,fun hn=>⟨a,rfl,?_,?_⟩⟩,hlen'⟩
  ·exact C6 (Mo sz) css
  ·obtain ⟨c,h1,_⟩:=hget 0 (by omega);have:=World.cells?_block h1 h0
   simpa [Addr.add] using this
  ·intro j u hj;have hjl:j<(css.flatMap (fN sz)).length:=(List.getElem?_eq_some_iff.1 hj).1;rw [C6 (Mo sz),hcl] at hjl;have hd:j/sz<len:=Nat.div_lt_of_lt_mul (by rwa [Nat.mul_comm]);obtain ⟨c,h1,h2,h3⟩:=hci (j/sz) hd;have hc:=(hlen' c (List.mem_of_getElem? h1)).1;have hmod:=Nat.mod_lt j h0;have hj2:j=j/sz*sz+j%sz:=by rw [Nat.mul_comm];exact (Nat.div_add_mod j sz).symm
   rw [hj2,C2 (Mo sz) css _ _ c h1 hmod] at hj;have hfn:fN sz c=c:=by simp [fN,←hc]
   rw [hfn] at hj;have:=(World.cells?_some h2).2.2 (j%sz) hmod;rw [Addr.add_add,←hj2] at this;rw [this,hj]
theorem Reads.sliceQ (ht:P.underlying t=some (.slice e)) (hsz:P.cellsOf e=sz) (h0:0<sz) {R:Rel α} {ok:α→Prop} (hR:∀c,c.length=sz→Reads enc P w e c→∃x,R (Ap w) c x∧ok x) (h:Reads enc P w t cs) :
  ∃(ad:Option Addr) (cap:Nat) (css:List (List Value)) (l:List α),cs=[.slice ad l.length cap]∧ArrQ (Ap w) sz R ad cap css l∧∀x∈l,ok x:=by
 obtain ⟨ad,cap,css,rfl,hA,hall⟩:=Reads.row ht hsz h0 h;obtain ⟨l,h1,h2⟩:=L6 (R:=R (Ap w)) (ok:=ok) css (fun c hc=>hR c (hall c hc).1 (hall c hc).2);exact ⟨ad,cap,css,l,by rw [h1.len],⟨hA,h1⟩,h2⟩
theorem Reads.slice (ht:P.underlying t=some (.slice e)) (hsz:P.cellsOf e=sz) (h0:0<sz) {f:α→List Value} {ok:α→Prop} (hR:∀c,c.length=sz→Reads enc P w e c→∃x,c=f x∧ok x) (hf:∀x,(f x).length=sz) (h:Reads enc P w t cs) :
  ∃(ad:Option Addr) (cap:Nat) (l:List α),cs=[.slice ad l.length cap]∧ArrM (Ap w) sz f ad cap l∧∀x∈l,ok x:=by
 obtain ⟨ad,cap,css,l,rfl,⟨hA,h1⟩,h2⟩:=Reads.sliceQ (R:=RpF f) ht hsz h0 hR h;have hcs:css=l.map f:=by
  clear hA h h2
  induction h1 with
  | nil=>rfl
  | cons h _ ih=>rw [List.map_cons,←ih,←(show _=f _ from h)]
 subst hcs;refine ⟨ad,cap,l,rfl,fun w' hw'=>?_,h2⟩;have:=hA w' hw';have hfm:(l.map f).flatMap (fN sz)=l.flatMap f:=by
  rw [List.flatMap_map]
  congr 1
  funext x
  simp [fN,←hf x]
 unfold Arr at this ⊢;rw [hfm] at this
 simpa using this
theorem Reads.arrayV {n:Nat} (ht:P.underlying t=some (.array n e)) {r:Reach} {b0:Nat} {v:Value} (hv:Value.okWide P w r b0 t v):∃cs:List Value,v=.agg cs.toArray∧v.cells.toList=cs:=by
 unfold Value.okWide at hv;rw [ht] at hv;obtain ⟨c,rfl,_⟩:=hv;exact ⟨c.toList,by simp,by simp [Value.cells]⟩
end
end Go.Eng
namespace Go.Eng
open Go Go.RowKit
abbrev iv (n:Int):Value:=.int .i64 n
abbrev pb (b:Nat):Value:=.pointer (some ⟨b,0,none⟩)
section
variable {P:Program} {r:Option Nat} {ops:Array Oper} {Q:Exit→Act→World→Prop} {K:Act→World→Prop} {N:Nat} {ds:List Deferred} {M:List (Nat×Value)} {a:Act} {w:World}
theorem esr {id:Nat} {ops:Array Oper} {y:Code} (h:WI P r ops (Exit.then (fun a w=>WP P r y Q a w) Q) 0 a w):WP P r (.seq (.region id ops false) y) Q a w:=Bb (WI.region h)
theorem wfn {k:Nat} (hk:Nat.beq k ops.size=true) (h:K a w):WI P r ops (Exit.then K Q) k a w:=WI.fin hk (Ae h)
theorem rn {k:Nat} (n k':Nat) (M':List (Nat×Value)) (hF:Fr N ds M a) (next:∀a',Fr N ds M' a'→WI P r ops Q k' a' w) (hdst:Al ops N=true:=by kernel_rfl) (h:Ends P ops n k M M' []:=by exact ⟨by kernel_rfl⟩) (hk:k+n=k':=by rfl):WI P r ops Q k a w :=
 Ty k' M' hF hdst Aa h hk next
end
end Go.Eng
namespace Go.Eng
open Go Go.RowKit
abbrev sv {α:Type} (ad:Option Addr) (l:List α) (cap:Nat):Value:=.slice ad l.length cap
abbrev sb (b n:Nat):Value:=.slice (some ⟨b,0,none⟩) n n
abbrev ln {α:Type} (l:List α):Int:=((l.length:Nat):Int)
abbrev fz (w:World) (μ:Frz):Res:=A0b w.heap.size μ
section
variable {P:Program} {r:Option Nat} {ops:Array Oper} {Q:Exit→Act→World→Prop} {K:Act→World→Prop} {N:Nat} {ds:List Deferred} {M:List (Nat×Value)} {a:Act} {w:World} {H:List Res}
end
section
variable {P:Program} {r:Option Nat} {ops:Array Oper} {K:Act→World→Prop} {N:Nat} {ds:List Deferred} {M:List (Nat×Value)} {a:Act} {w0 w:World} {k:Nat} {H:List Res} {α β:Type} {e sz cap:Nat} {f:α→List Value} {ad:Option Addr} {c:List α} {l:List β}
end
end Go.Eng
namespace Go.Eng
open Go Go.RowKit
variable {P:Program}
section
variable {T:World→World→Prop} {D:World→Prop} {cs:List Cd} {t:TypeId} {xs ys:Array Value} {b:Bool}
end
section
variable {P:Program} {r:Option Nat} {ops:Array Oper} {K:Act→World→Prop} {N k:Nat} {ds:List Deferred} {M:List (Nat×Value)} {a:Act} {w w0:World} {H:List Res} {β:Type} {e sz:Nat}
end
end Go.Eng
namespace Go.Eng
open Go Go.RowKit Go.Proofs Go.Sort Go.Shelf
section
variable {α:Type} [Inhabited α]
end
section
variable {α:Type} [Inhabited α] {enc:α→List Value} {k b n cap e:Nat} {l:List α} {w:World}
end
end Go.Eng
namespace Go.Eng
open Go Go.RowKit
set_option linter.unusedVariables false
def Ny (α:Type) (n:Nat):Type:={l:List α // l.length=n}
instance {α:Type} {n:Nat} [DecidableEq α]:DecidableEq (Ny α n):=fun a b=>if h:a.1=b.1 then isTrue (Subtype.ext h) else isFalse (fun e=>h (by rw [e]))
instance {α:Type} {n:Nat} [Inhabited α]:Inhabited (Ny α n):=⟨⟨List.replicate n default,List.length_replicate⟩⟩
section
variable {α:Type} {n:Nat} (f:α→Value)
end
section
variable {P:Program} {T:World→World→Prop} {D:World→Prop} {cs:List Cd} {α:Type} {n:Nat} {f:α→Value} {b:Nat} {tt:TypeId} {x:Ny α n} {i:Int} {u:α}
end
section
variable {P:Program} {r:Option Nat} {ops:Array Oper} {K:Act→World→Prop} {N k:Nat} {ds:List Deferred} {M:List (Nat×Value)} {a:Act} {w w0:World} {H:List Res} {α:Type} {n:Nat} {f:α→Value} {x y:Ny α n} {j:Int} {u:α}
end
section
variable {P:Program} {T:World→World→Prop} {D:World→Prop} {cs:List Cd} {n:Nat} {t e:TypeId} {x y:Ny Bool n}
end
end Go.Eng
namespace Go.Eng
open Go Go.RowKit
set_option linter.unusedVariables false
abbrev Hd:=Option Addr×Nat×Nat
def hdF (h:Hd):List Value:=[.slice h.1 h.2.1 h.2.2]
theorem E0 (h:Hd):(hdF h).length=1:=rfl
def D1:Hd:=(none,0,0)
def Mc (Rs:List Res):Res where
 foot:=fun b=>∃R∈Rs,R.foot b
 holds:=fun w=>(∀R∈Rs,R.holds w)∧Rs.Pairwise (fun (R S:Res)=>∀b:Nat,R.foot b→¬S.foot b)
 loc:=fun w w' h hb=>⟨fun R hR=>R.loc w w' (fun b hf=>h b ⟨R,hR,hf⟩) (hb.1 R hR),hb.2⟩
 lt:=fun w b hb hk=>by obtain ⟨R,hR,hf⟩:=hk;exact R.lt w b (hb.1 R hR) hf
section
variable {w w0:World} {H Rs:List Res}
theorem St.openG (h:St w0 (Mc Rs::H) w):St w0 (Rs++H) w:=by
 have hb:=h.holds _ (List.mem_cons_self ..);have hp:=List.pairwise_cons.1 h.apart;refine ⟨h.ext,fun R hR=>?_,fun R hR b hf=>?_,List.pairwise_append.2 ⟨hb.2,hp.2,fun R hR S hS b h1 h2=>hp.1 S hS b ⟨R,hR,h1⟩ h2⟩⟩
 ·rcases List.mem_append.1 hR with hR|hR
  ·exact hb.1 R hR
  ·exact h.holds R (List.mem_cons_of_mem _ hR)
 ·rcases List.mem_append.1 hR with hR|hR
  ·exact h.low _ (List.mem_cons_self ..) b ⟨R,hR,hf⟩
  ·exact h.low R (List.mem_cons_of_mem _ hR) b hf
theorem St.closeG (h:St w0 (Rs++H) w):St w0 (Mc Rs::H) w:=by
 have hp:=List.pairwise_append.1 h.apart;refine ⟨h.ext,fun R hR=>?_,fun R hR b hf=>?_,List.pairwise_cons.2 ⟨fun S hS b h1 h2=>?_,hp.2.1⟩⟩
 ·rcases List.mem_cons.1 hR with rfl|hR
  ·exact ⟨fun S hS=>h.holds S (List.mem_append_left _ hS),hp.1⟩
  ·exact h.holds R (List.mem_append_right _ hR)
 ·rcases List.mem_cons.1 hR with rfl|hR
  ·obtain ⟨S,hS,hf⟩:=hf;exact h.low S (List.mem_append_left _ hS) b hf
  ·exact h.low R (List.mem_append_right _ hR) b hf
 ·obtain ⟨R,hR,h1⟩:=h1;exact hp.2.2 R hR S hS b h1 h2
end
def rwL {α:Type} (e sz:Nat) (f:α→List Value) (hd:List Hd) (xss:List (List α)):List Res:=List.zipWith (fun (h:Hd) x=>arr e sz f h.1 h.2.1 h.2.2 x) hd xss
def Fg {α:Type} (e sz:Nat) (f:α→List Value) (hd:List Hd) (xss:List (List α)):Res:=Mc (rwL e sz f hd xss)
section
variable {α β:Type} {e sz:Nat} {f:α→List Value} {hd:List Hd} {xss:List (List α)} {w w0:World} {H:List Res} {i:Nat} {h:Hd} {x:List α}
theorem Uu (hh:hd[i]? = some h) (hx:xss[i]? = some x):(rwL e sz f hd xss)[i]? = some (arr e sz f h.1 h.2.1 h.2.2 x):=by
 unfold rwL;rw [List.getElem?_zipWith,hh,hx]
theorem Uv (hd:List Hd) (xss:List (List α)) (i:Nat) (h:Hd) (x:List α):rwL e sz f (hd.set i h) (xss.set i x)=(rwL e sz f hd xss).set i (arr e sz f h.1 h.2.1 h.2.2 x):=by
 unfold rwL;apply List.ext_getElem?;intro j;rw [List.getElem?_zipWith,List.getElem?_set,List.getElem?_set,List.getElem?_set,List.length_zipWith,List.getElem?_zipWith]
 by_cases hij:i=j
 ·subst hij
  by_cases h1:i<hd.length
  ·by_cases h2:i<xss.length
   ·have h3:i<min hd.length xss.length:=by omega
    simp [h1,h2];omega
   ·have h3:¬i<min hd.length xss.length:=by omega
    simp [h1,h2];omega
  ·have h3:¬i<min hd.length xss.length:=by omega
   simp [h1];omega
 ·simp only [if_neg hij]
theorem St.nilRws (h:St w0 H w) (e sz:Nat) (f:α→List Value) (n:Nat):St w0 (Fg e sz f (List.replicate n D1) (List.replicate n ([]:List α))::H) w:=by
 apply St.closeG;have:rwL e sz f (List.replicate n D1) (List.replicate n ([]:List α))=List.replicate n (Go.Eng.arr e sz f none 0 0 ([]:List α)):=by
  unfold rwL;rw [List.zipWith_replicate,Nat.min_self];rfl
 rw [this]
 induction n with
 | zero=>exact h
 | succ n ih=>exact St.nilarr (ih (by unfold rwL;rw [List.zipWith_replicate,Nat.min_self];rfl)) e sz f
theorem St.putRow (i:Nat) (hi:i<hd.length) (hl:hd.length=xss.length) (hS:St w0 (Fg e sz f hd xss::Go.Eng.arr e sz f h.1 h.2.1 h.2.2 x::H) w):St w0 (Fg e sz f (hd.set i h) (xss.set i x)::H) w:=by
 apply St.closeG;have h1:=hS.openG;rw [Uv];have hil:i<(rwL e sz f hd xss).length:=by unfold rwL;rw [List.length_zipWith];omega
 generalize rwL e sz f hd xss=Rs at h1 hil ⊢;generalize Go.Eng.arr e sz f h.1 h.2.1 h.2.2 x=R at h1 ⊢;have hd':Rs=Rs.take i++Rs[i]::Rs.drop (i+1):=by rw [List.getElem_cons_drop,List.take_append_drop]
 rw [List.set_eq_take_append_cons_drop,if_pos hil];have h2:St w0 ((Rs.take i++Rs[i]::Rs.drop (i+1))++R::H) w:=by rw [←hd'];exact h1
 refine (h2.sub (H':=(Rs.take i++Rs.drop (i+1))++R::H) ?_).perm ?_
 ·exact List.Sublist.append (List.Sublist.append (List.Sublist.refl _) (List.sublist_cons_self ..)) (List.Sublist.refl _)
 ·rw [List.append_assoc,List.append_assoc];refine List.Perm.append_left _ ?_;exact List.perm_middle
theorem St.takeRow (hh:hd[i]? = some h) (hx:xss[i]? = some x) (hS:St w0 (Fg e sz f hd xss::H) w):St w0 (Fg e sz f (hd.set i D1) (xss.set i [])::Go.Eng.arr e sz f h.1 h.2.1 h.2.2 x::H) w:=by
 have h1:=hS.openG;have hg:=Uu (e:=e) (sz:=sz) (f:=f) hh hx;apply St.closeG;rw [Uv];obtain ⟨hil,hgi⟩:=List.getElem?_eq_some_iff.1 hg;generalize rwL e sz f hd xss=Rs at h1 hil hgi hg ⊢;have hd':Rs=Rs.take i++Rs[i]::Rs.drop (i+1):=by rw [List.getElem_cons_drop,List.take_append_drop]
 rw [List.set_eq_take_append_cons_drop,if_pos hil];rw [hd',hgi] at h1;refine (St.nilarr h1 e sz f).perm ?_;rw [List.append_assoc,List.append_assoc];refine List.Perm.trans ?_ List.perm_middle.symm;refine List.Perm.cons _ ?_;refine List.Perm.trans (List.perm_middle) ?_;refine List.Perm.trans ?_ (List.Perm.append_left _ List.perm_middle.symm);exact List.perm_middle.symm
end
def NestOk {α β:Type} (S:α→β→Prop) (hd:List Hd) (css:List (List α)) (L:List (List β)):Prop:=All2 (fun (h:Hd) l=>h.2.1=l.length) hd L∧All2 (All2 S) css L
section
variable {α β:Type} {S:α→β→Prop} {hd:List Hd} {css:List (List α)} {L L3:List (List β)} {i:Int} {u l3:List β}
theorem NestOk.lenH (h:NestOk S hd css L):hd.length=L.length:=h.1.len
theorem NestOk.get (h:NestOk S hd css L) (hu:getI L i=some u):∃(ad:Option Addr) (cap:Nat) (c:List α),getI hd i=some (ad,u.length,cap)∧hd[i.toNat]? = some (ad,u.length,cap)∧css[i.toNat]? = some c∧All2 S c u:=by
 obtain ⟨⟨ad,n,cap⟩,h1,h2⟩:=Ko h.1 hu;obtain ⟨c,h3,h4⟩:=Ko h.2 hu;have h2:n=u.length:=h2;subst h2;exact ⟨ad,cap,c,h1,(Db h1).2.2,(Db h3).2.2,h4⟩
theorem NestOk.put (h:NestOk S hd css L) {h0:Hd} (hl:h0.2.1=l3.length) {c3:List α} (hq:All2 S c3 l3) (hs:Cb L i l3=some L3):NestOk S (hd.set i.toNat h0) (css.set i.toNat c3) L3:=by
 obtain ⟨_,_,rfl⟩:=Bx hs;exact ⟨h.1.set (R:=fun (h:Hd) (l:List β)=>h.2.1=l.length) hl _,h.2.set hq _⟩
theorem NestOk.rep (n:Nat):NestOk S (List.replicate n D1) (List.replicate n ([]:List α)) (List.replicate n ([]:List β)) :=
 ⟨All2.rep (R:=fun (h:Hd) (l:List β)=>h.2.1=l.length) rfl n,All2.rep .nil n⟩
theorem NestOk.mono {R:Rel β} {μ ν:Frz} {css:List (List (List Value))} (hR:R.Mono) (hle:μ.le ν) (h:NestOk (R μ) hd css L):NestOk (R ν) hd css L :=
 ⟨h.1,h.2.imp fun _ _ h=>All2.mono hR hle h⟩
end
section
variable {P:Program} {r:Option Nat} {ops:Array Oper} {K:Act→World→Prop} {N:Nat} {ds:List Deferred} {M:List (Nat×Value)} {a:Act} {w0 w:World} {k:Nat} {H:List Res} {α β:Type} {e sz n cap:Nat} {f:α→List Value} {ad:Option Addr} {c:List α} {l l3:List β} {hd:List Hd} {css:List (List α)} {p:Nat}
end
end Go.Eng
namespace Go.Eng
open Go Go.RowKit
set_option linter.unusedVariables false
set_option maxRecDepth 10000
section
variable {κ ν:Type} [DecidableEq κ]
def ixM:List (κ×ν)→κ→Option Nat
 | [],_=>none
 | p::B,x=>if x=p.1 then some 0 else (ixM B x).map (·+1)
def lkM:List (κ×ν)→κ→Option ν
 | [],_=>none
 | p::B,x=>if x=p.1 then some p.2 else lkM B x
end
def ixL {κ:Type} [DecidableEq κ]:List κ→κ→Option Nat
 | [],_=>none
 | p::B,x=>if x=p then some 0 else (ixL B x).map (·+1)
structure KeyOk (P:Program) {κ:Type} [DecidableEq κ] (kt:TypeId) (kf:κ→Value):Prop where
 ck:∀em x,pureSem P (Instr.checkKey em 10000 kt (kf x))=some ()
 bits:∀x,Instr.sameBits 10000 (kf x) (kf x)=true
 find:∀(x:κ) (es:List MapEntry) (ks:List κ),es.map (·.key)=ks.map kf→∀w,(Instr.findKey kt (kf x) es).run P w=.ok ((ixL ks x).bind fun i=>(es[i]?).map fun e=>(i,e.val)) w
structure KeyAsk (P:Program) {κ:Type} [DecidableEq κ] (kt:TypeId) (kf:κ→Value):Prop where
 ck:∀em x,pureSem P (Instr.checkKey em 10000 kt (kf x))=some ()
 bits:∀x,Instr.sameBits 10000 (kf x) (kf x)=true
 eq:∀x y w,(Op.equal kt (kf x) (kf y)).run P w=.ok (decide (x=y)) w
 now:∀x y,(pureSem P (underlying kt)).bind (fun d=>Instr.sameNow d (kf x) (kf y))=none
 und:(pureSem P (underlying kt)).isSome=true
structure KeyNow (P:Program) {κ:Type} [DecidableEq κ] (kt:TypeId) (kf:κ→Value):Prop where
 ck:∀em x,pureSem P (Instr.checkKey em 10000 kt (kf x))=some ()
 bits:∀x,Instr.sameBits 10000 (kf x) (kf x)=true
 now:∀x y,(pureSem P (underlying kt)).bind (fun d=>Instr.sameNow d (kf x) (kf y))=some (decide (x=y))
 und:(pureSem P (underlying kt)).isSome=true
section
variable {P:Program} {κ ν:Type} [DecidableEq κ] {kt:TypeId} {kf:κ→Value} {vf:ν→Value}
theorem V4 (hk:KeyAsk P kt kf) (x:κ) (w:World):∀{es:List MapEntry} {ks:List κ} (i:Nat),es.map (·.key)=ks.map kf→(Instr.findAsking kt (kf x) es i).run P w=.ok ((ixL ks x).bind fun j=>(es[j]?).map fun e=>(j+i,e.val)) w:=by
 intro es
 induction es with
 | nil =>
  intro ks i h
  cases ks with
  | nil=>rfl
  | cons _ _=>cases h
 | cons e es ih =>
  intro ks i h
  cases ks with
  | nil=>cases h
  | cons p ks =>
   simp only [List.map_cons,List.cons.injEq] at h;have hq:=hk.eq x p w;rw [←h.1] at hq;unfold Instr.findAsking;simp only [Sem.run_bind,hq,Result.andThen_ok];unfold ixL
   by_cases hx:x=p
   ·rw [decide_eq_true hx,if_pos hx];simp
   ·rw [decide_eq_false hx,if_neg hx];have:=ih (i+1) h.2;simp only [Bool.false_eq_true,if_false];rw [this]
    cases ixL ks x with
    | none=>rfl
    | some j=>simp [Nat.add_assoc,Nat.add_comm 1 i]
theorem Tc {d:TypeDesc} (hn:∀x y:κ,Instr.sameNow d (kf x) (kf y)=some (decide (x=y))) (x:κ):∀{es:List MapEntry} {ks:List κ} (i:Nat),es.map (·.key)=ks.map kf→Instr.findNow d (kf x) es i=some ((ixL ks x).bind fun j=>(es[j]?).map fun e=>(j+i,e.val)):=by
 intro es
 induction es with
 | nil =>
  intro ks i h
  cases ks with
  | nil=>rfl
  | cons _ _=>cases h
 | cons e es ih =>
  intro ks i h
  cases ks with
  | nil=>cases h
  | cons p ks =>
   simp only [List.map_cons,List.cons.injEq] at h;have hq:=hn x p;rw [←h.1] at hq;unfold Instr.findNow;rw [hq];unfold ixL
   by_cases hx:x=p
   ·rw [decide_eq_true hx,if_pos hx];simp
   ·rw [decide_eq_false hx,if_neg hx];have:=ih (i+1) h.2;simp only [];rw [this]
    cases ixL ks x with
    | none=>rfl
    | some j=>simp [Nat.add_assoc,Nat.add_comm 1 i]
theorem KeyAsk.ok (hk:KeyAsk P kt kf):KeyOk P kt kf:=by
 refine ⟨hk.ck,hk.bits,fun x es ks h=>?_⟩;intro w;unfold Instr.findKey;obtain ⟨d,hd⟩:=Option.isSome_iff_exists.1 hk.und;have hdr:=Aq _ _ hd w;simp only [Sem.run_bind,hdr,Result.andThen_ok]
 cases es with
 | nil =>
  cases ks with
  | nil=>rfl
  | cons _ _=>cases h
 | cons e es =>
  cases ks with
  | nil=>cases h
  | cons p ks =>
   have hn:=hk.now x p;have h1:e.key=kf p:=by simp only [List.map_cons,List.cons.injEq] at h;exact h.1
   rw [hd,Option.bind_some,←h1] at hn;have:Instr.findNow d (kf x) (e::es) 0=none:=by
    unfold Instr.findNow;rw [hn]
   rw [this];exact V4 hk x w 0 h
theorem KeyNow.ok (hk:KeyNow P kt kf):KeyOk P kt kf:=by
 refine ⟨hk.ck,hk.bits,fun x es ks h=>?_⟩;intro w;unfold Instr.findKey;obtain ⟨d,hd⟩:=Option.isSome_iff_exists.1 hk.und;have hdr:=Aq _ _ hd w;simp only [Sem.run_bind,hdr,Result.andThen_ok];have:=Tc (kf:=kf) (d:=d) (fun x y=>by have:=hk.now x y;rw [hd] at this;exact this) x 0 h;rw [this];rfl
theorem Xc {B:List (κ×ν)} {x:κ}:lkM B x=(ixM B x).bind fun i=>(B[i]?).map (·.2):=by
 induction B with
 | nil=>rfl
 | cons p B ih =>
  unfold lkM ixM
  by_cases hx:x=p.1
  ·simp [hx]
  ·rw [if_neg hx,if_neg hx,ih]
   cases ixM B x<;>simp
theorem A1l {B:List (κ×ν)} {x:κ} {i:Nat} (h:ixM B x=some i):i<B.length∧∃p,B[i]? = some p∧p.1=x∧lkM B x=some p.2:=by
 induction B generalizing i with
 | nil=>cases h
 | cons p B ih =>
  unfold ixM at h
  by_cases hx:x=p.1
  ·rw [if_pos hx] at h
   cases h
   exact ⟨by simp,p,rfl,hx.symm,by unfold lkM;rw [if_pos hx]⟩
  ·rw [if_neg hx] at h;obtain ⟨j,hj,rfl⟩:=Option.map_eq_some_iff.1 h;obtain ⟨h1,q,h2,h3,h4⟩:=ih hj;exact ⟨by simp;omega,q,by simpa using h2,h3,by unfold lkM;rw [if_neg hx];exact h4⟩
end
section
variable {P:Program} {r:Option Nat} {ops:Array Oper} {K:Act→World→Prop} {N:Nat} {ds:List Deferred} {M M':List (Nat×Value)} {a:Act} {w0 w w':World} {k:Nat} {H:List Res}
variable {κ ν:Type} [DecidableEq κ] {kt e t:TypeId} {kf:κ→Value} {vf:ν→Value} {m:Nat} {B:List (κ×ν)} {x:κ} {v d:ν}
end
end Go.Eng
namespace Go.Eng
open Go Go.RowKit
set_option linter.unusedVariables false
def Dl {α:Type} (eo e sz:Nat) (f:α→List Value) (ad:Option Addr) (n cap:Nat) (hd:List Hd) (css:List (List α)):Res:=Mc (arr eo 1 hdF ad n cap hd::rwL e sz f hd css)
section
variable {w w0:World} {H Rs Rs':List Res} {i:Nat} {R:Res}
theorem Hu {α:Type} {l:List α} {i:Nat} {x:α} (h:l[i]? = some x):l.Perm (x::l.eraseIdx i):=by
 obtain ⟨h1,h2⟩:=List.getElem?_eq_some_iff.1 h;have:l=l.take i++x::l.drop (i+1):=by rw [←h2,List.getElem_cons_drop,List.take_append_drop]
 rw [List.eraseIdx_eq_take_drop_succ]
 conv=>lhs;rw [this]
 exact List.perm_middle
theorem St.openAt (h:St w0 H w) (hi:H[i]? = some (Mc Rs)):St w0 (Rs++H.eraseIdx i) w:=(h.perm (Hu hi)).openG
theorem St.closeAt (hi:i<H.length) (h:St w0 (Rs++H.eraseIdx i) w):St w0 (H.set i (Mc Rs)) w:=by
 refine (h.closeG).perm ?_;have:=Hu (l:=H.set i (Mc Rs)) (i:=i) (x:=Mc Rs) (by simp [hi]);rw [List.eraseIdx_set_eq] at this;exact this.symm
theorem Vo {α:Type} {l:List α} {i:Nat} {x:α} (h:l[i]? = some x):i<l.length:=(List.getElem?_eq_some_iff.1 h).1
end
section
variable {w w0:World} {H:List Res} {α β:Type} {eo e sz n cap q:Nat} {f:α→List Value} {ad:Option Addr} {hd hd':List Hd} {css css':List (List α)} {h:Hd} {c:List α}
theorem Uk (hr:(Dl eo e sz f ad n cap hd css).holds w):Arr w 1 hdF ad n cap hd:=by
 have:=hr.1 _ (List.mem_cons_self ..);exact ⟨this.1,Sl.of_own this.2⟩
theorem Qj (hr:(Dl eo e sz f ad n cap hd css).holds w) (hh:hd[q]? = some h) (hc:css[q]? = some c):Arr w sz f h.1 h.2.1 h.2.2 c:=by
 have:=hr.1 _ (List.mem_cons_of_mem _ (List.mem_of_getElem? (Uu (e:=e) (sz:=sz) (f:=f) hh hc)));exact ⟨this.1,Sl.of_own this.2⟩
theorem St.makeNest {m:Nat} (hS:St w0 (Go.Eng.arr eo 1 hdF ad n cap (List.replicate m D1)::H) w) (e sz:Nat) (f:α→List Value):St w0 (Dl eo e sz f ad n cap (List.replicate m D1) (List.replicate m ([]:List α))::H) w:=by
 apply St.closeG;have h1:St w0 (Fg e sz f (List.replicate m D1) (List.replicate m ([]:List α))::Go.Eng.arr eo 1 hdF ad n cap (List.replicate m D1)::H) w:=St.nilRws hS e sz f m;have h2:=h1.openG;exact h2.perm (List.perm_middle)
theorem St.takeN (hS:St w0 (Dl eo e sz f ad n cap hd css::H) w) (hh:hd[q]? = some h) (hc:css[q]? = some c) (hn:hd.length=n) :
  St w0 (Go.Eng.arr eo 1 hdF ad n cap hd::Fg e sz f (hd.set q D1) (css.set q [])::Go.Eng.arr e sz f h.1 h.2.1 h.2.2 c::H) w:=by
 have h1:St w0 (Go.Eng.arr eo 1 hdF ad n cap hd::(rwL e sz f hd css++H)) w:=hS.openG;have h2:St w0 (Fg e sz f hd css::Go.Eng.arr eo 1 hdF ad n cap hd::H) w:=by
  apply St.closeG;exact h1.perm (List.perm_middle.symm)
 have h3:=St.takeRow hh hc h2;exact h3.perm ((List.Perm.cons _ (List.Perm.swap _ _ _)).trans (List.Perm.swap _ _ _))
theorem St.joinN (hS:St w0 (Go.Eng.arr eo 1 hdF ad n cap hd::Fg e sz f hd css::H) w):St w0 (Dl eo e sz f ad n cap hd css::H) w:=by
 apply St.closeG;have h1:=(hS.perm (List.Perm.swap _ _ _)).openG;exact h1.perm (List.perm_middle)
end
section
variable {P:Program} {r:Option Nat} {ops:Array Oper} {K:Act→World→Prop} {N:Nat} {ds:List Deferred} {M:List (Nat×Value)} {a:Act} {w0 w:World} {k:Nat} {H:List Res} {α β:Type} {eo e sz n cap:Nat} {f:α→List Value} {ad:Option Addr} {c:List α} {l l3:List β} {hd hd2:List Hd} {css css2:List (List α)} {L L3:List (List β)} {S:α→β→Prop}
theorem NestOk.getE {L:List (List α)} {css:List (List α)} {u:List α} {i:Int} (h:NestOk Eq hd css L) (hu:getI L i=some u):∃(ad:Option Addr) (cap:Nat),getI hd i=some (ad,u.length,cap)∧hd[i.toNat]? = some (ad,u.length,cap)∧css[i.toNat]? = some u:=by
 obtain ⟨ad,cap,c,h1,h2,h3,h4⟩:=h.get hu;have:c=u:=by
  clear h1 h2 h3 hu
  induction h4 with
  | nil=>rfl
  | cons h _ ih=>rw [h,ih]
 subst this;exact ⟨ad,cap,h1,h2,h3⟩
theorem Kc {α:Type}:∀(l:List α),All2 Eq l l
 | []=>.nil
 | _::l=>.cons rfl (Kc l)
end
end Go.Eng
namespace Go.Eng
open Go Go.RowKit
set_option linter.unusedVariables false
set_option maxRecDepth 10000
section
variable {P:Program} {κ ν:Type} [DecidableEq κ] {kt:TypeId} {kf:κ→Value} {vf:ν→Value} {es:List MapEntry} {B:List (κ×ν)} {x:κ} {v:ν} {clock:Nat}
variable {t e:TypeId} {m:Nat} {w:World}
end
section
variable {P:Program} {r:Option Nat} {ops:Array Oper} {K:Act→World→Prop} {N:Nat} {ds:List Deferred} {M M':List (Nat×Value)} {a:Act} {w0 w w':World} {k:Nat} {H:List Res} {κ ν:Type} [DecidableEq κ] {kt e t:TypeId} {kf:κ→Value} {vf:ν→Value} {m:Nat} {B:List (κ×ν)} {x:κ} {v d:ν}
end
end Go.Eng
namespace Go.Eng
open Go Go.RowKit
set_option linter.unusedVariables false
def MNestOk {κ α β:Type} (S:α→β→Prop) (B:List (κ×Hd)) (css:List (List α)) (L:List (κ×List β)):Prop:=All2 (fun (h:κ×Hd) (p:κ×List β)=>h.1=p.1∧h.2.2.1=p.2.length) B L∧All2 (fun c (p:κ×List β)=>All2 S c p.2) css L
section
variable {κ α β:Type} [DecidableEq κ] {S:α→β→Prop} {B:List (κ×Hd)} {css:List (List α)} {L:List (κ×List β)} {x:κ} {i:Nat}
theorem MNestOk.mono {R:Rel β} {μ ν:Frz} {css:List (List (List Value))} (hR:R.Mono) (hle:μ.le ν) (h:MNestOk (R μ) B css L):MNestOk (R ν) B css L:=⟨h.1,h.2.imp fun _ _ h=>All2.mono hR hle h⟩
theorem MNestOk.ix (h:MNestOk S B css L) (x:κ):ixM B x=ixM L x:=by
 have h1:=h.1
 clear h
 induction h1 with
 | nil=>rfl
 | cons h _ ih=>simp only [ixM,h.1,ih]
theorem R6 {γ δ:Type} {R:γ→δ→Prop} {xs:List γ} {ys:List δ} (h:All2 R xs ys) {i:Nat} {y:δ} (hy:ys[i]? = some y):∃x,xs[i]? = some x∧R x y:=by
 induction h generalizing i with
 | nil=>simp at hy
 | cons h _ ih=>cases i with
  | zero=>simp at hy;subst hy;exact ⟨_,rfl,h⟩
  | succ i=>obtain ⟨x,h1,h2⟩:=ih (by simpa using hy);exact ⟨x,by simpa using h1,h2⟩
theorem MNestOk.at (h:MNestOk S B css L) (x:κ):(∃(i:Nat) (ad:Option Addr) (cap:Nat) (c:List α) (l:List β),ixM B x=some i∧B[i]? = some (x,(ad,l.length,cap))∧lkM B x=some (ad,l.length,cap)∧css[i]? = some c∧L[i]? = some (x,l)∧lkM L x=some l∧All2 S c l)∨(ixM B x=none∧ixM L x=none∧lkM B x=none∧lkM L x=none):=by
 have hx:=h.ix x
 cases hi:ixM L x with
 | none =>
  rw [hi] at hx;exact .inr ⟨hx,rfl,by rw [Xc,hx];rfl,by rw [Xc,hi];rfl⟩
 | some i =>
  rw [hi] at hx;obtain ⟨hlt,p,hp,hpx,hlk⟩:=A1l hi;obtain ⟨q,q1,q2,q3⟩:=R6 h.1 hp;obtain ⟨c,c1,c2⟩:=R6 h.2 hp;obtain ⟨k,l⟩:=p;obtain ⟨k',ad,n,cap⟩:=q;simp only at hpx q2 q3 c2;subst hpx q2 q3;exact .inl ⟨i,ad,cap,c,l,hx,q1,by rw [Xc,hx];simp [q1],c1,hp,hlk,c2⟩
end
section
variable {w w0:World} {H:List Res} {κ α β:Type} [DecidableEq κ] {e sz m i:Nat} {kf:κ→Value} {f:α→List Value} {B:List (κ×Hd)} {css:List (List α)} {h:κ×Hd} {c:List α}
end
section
variable {P:Program} {r:Option Nat} {ops:Array Oper} {K:Act→World→Prop} {N:Nat} {ds:List Deferred} {M M':List (Nat×Value)} {a:Act} {w0 w w':World} {k:Nat} {H:List Res} {κ α β:Type} [DecidableEq κ] {kt te t e sz:Nat} {kf:κ→Value} {f:α→List Value} {m:Nat} {B:List (κ×Hd)} {css:List (List α)} {L:List (κ×List β)} {x:κ} {S:α→β→Prop}
end
end Go.Eng
namespace Go.Eng
open Go Go.RowKit
set_option linter.unusedVariables false
theorem Uh (w:World) (o:Obj) (j:Nat) (h:j<w.heap.size):(w.alloc o).heap[j]? = w.heap[j]?:=by
 show (w.heap.push o)[j]? = _;rw [Array.getElem?_push,if_neg (Nat.ne_of_lt h)]
def arrT {α:Type} (e sz:Nat) (f:α→List Value) (ad:Option Addr) (n cap:Nat) (l:List α):Res where
 foot:=fun k=>∃off,ad=some ⟨k,off,none⟩
 holds:=fun w=>l.length=n∧(l.flatMap f).length=n*sz∧((ad=none∧n=0∧cap=0)∨∃g off cur fz,ad=some ⟨g,off,none⟩∧w.heap[g]? = some (.cells cur e fz)∧(fz=(0,0)∨cur.size≤fz.1)∧n≤cap∧cap≤maxLen∧off+cap*sz≤cur.size∧(cur.toList.drop off).take (n*sz)=l.flatMap f)
 loc:=fun w w' h hb=>by
  refine ⟨hb.1,hb.2.1,?_⟩;rcases hb.2.2 with hn|⟨g,off,cur,fz,rfl,hg,rest⟩
  ·exact .inl hn
  ·exact .inr ⟨g,off,cur,fz,rfl,(h g ⟨off,rfl⟩).trans hg,rest⟩
 lt:=fun w k hb hk=>by
  obtain ⟨off,rfl⟩:=hk;rcases hb.2.2 with ⟨hn,_⟩|⟨g,off',cur,fz,he,hg,_⟩
  ·cases hn
  ·cases he;exact (Array.getElem?_eq_some_iff.1 hg).1
section
variable {w w0:World} {H:List Res} {α:Type} {e sz n cap i:Nat} {f:α→List Value} {ad:Option Addr} {l l2:List α} {lo hi:Int}
theorem St.conv1 {R R':Res} (h:St w0 (R::H) w) (hR:R'.holds w) (hf:∀b,R'.foot b→R.foot b):St w0 (R'::H) w:=by
 refine ⟨h.ext,fun S hS=>?_,fun S hS b hb=>?_,?_⟩
 ·rcases List.mem_cons.1 hS with rfl|hS
  ·exact hR
  ·exact h.holds S (List.mem_cons_of_mem _ hS)
 ·rcases List.mem_cons.1 hS with rfl|hS
  ·exact h.low R (List.mem_cons_self ..) b (hf b hb)
  ·exact h.low S (List.mem_cons_of_mem _ hS) b hb
 ·have:=List.pairwise_cons.1 h.apart;exact List.pairwise_cons.2 ⟨fun S hS b h1 h2=>this.1 S hS b (hf b h1) h2,this.2⟩
theorem St.toT (h:St w0 (Go.Eng.arr e sz f ad n cap l::H) w):St w0 (arrT e sz f ad n cap l::H) w:=by
 have hb:=h.holds _ (List.mem_cons_self ..);refine h.conv1 ⟨hb.1,hb.2.1,?_⟩ ?_
 ·rcases hb.2.2 with ⟨h1,h2⟩|⟨g,cap',cur,h1,_,hg,hnc,hcm,hcs,htake⟩
  ·cases h1;exact .inl ⟨rfl,h2,rfl⟩
  ·cases h1
   refine .inr ⟨g,0,cur,_,rfl,hg,.inl rfl,hnc,hcm,by rw [hcs];omega,?_⟩;rw [List.drop_zero];exact htake
 ·rintro b ⟨off,rfl⟩;rcases hb.2.2 with ⟨h1,_⟩|⟨g,cap',cur,h1,_⟩
  ·cases h1
  ·cases h1;rfl
theorem Yi (h:(arrT e sz f ad n cap l).holds w):Arr w sz f ad n cap l:=by
 obtain ⟨h1,h2,h3⟩:=h;refine ⟨h1,ad,cap,rfl,h2,?_⟩;rcases h3 with ⟨rfl,rfl,rfl⟩|⟨g,off,cur,fz,rfl,hg,hfz,hnc,hcm,hcs,htake⟩
 ·exact ⟨Nat.le_refl _,by simp [maxLen],fun h=>by omega⟩
 ·refine ⟨hnc,hcm,fun _=>⟨_,rfl,(Array.getElem?_eq_some_iff.1 hg).1,fun j u hu=>?_⟩⟩;have hadd:(⟨g,off,none⟩:Addr).add j=⟨g,off+j,none⟩:=by unfold Addr.add;split<;>simp_all
  rw [hadd];rw [←htake,List.getElem?_take] at hu
  split at hu
  ·rw [List.getElem?_drop] at hu;simp only [World.cell?,hg]
   simpa using hu
  ·cases hu
theorem St.arrT_ {i:Nat} (h:St w0 H w) (hi:H[i]? = some (Go.Eng.arrT e sz f ad n cap l)):Arr w sz f ad n cap l:=Yi (h.holds _ (List.mem_of_getElem? hi))
theorem St.cutT (h:St w0 (arrT e sz f ad l.length cap l::H) w) (hf:∀x,(f x).length=sz) (hx:Nz l lo hi=some l2):St w0 (arrT e sz f (H1 ad cap lo.toNat sz) l2.length (cap-lo.toNat) l2::H) w:=by
 have hb:=h.holds _ (List.mem_cons_self ..);unfold Nz at hx
 split at hx
 ·rename_i hc
  cases hx
  obtain ⟨_,hl,h3⟩:=hb;have hlen:((l.drop lo.toNat).take (hi.toNat-lo.toNat)).length=hi.toNat-lo.toNat:=by rw [List.length_take,List.length_drop];omega
  refine h.conv1 ⟨rfl,C6 hf _,?_⟩ ?_
  ·rcases h3 with ⟨rfl,h4,rfl⟩|⟨g,off,cur,fz,rfl,hg,hfz,hnc,hcm,hcs,htake⟩
   ·refine .inl ⟨?_,by rw [hlen];omega,by omega⟩;unfold H1;split<;>rfl
   ·by_cases hcl:cap=lo.toNat
    ·refine .inr ⟨g,off,cur,fz,by unfold H1;rw [if_pos hcl],hg,hfz,by rw [hlen];omega,by omega,by
      have:(cap-lo.toNat)*sz≤cap*sz:=Nat.mul_le_mul_right _ (Nat.sub_le _ _);omega,?_⟩
     have h0:(l.drop lo.toNat).take (hi.toNat-lo.toNat)=[]:=List.eq_nil_of_length_eq_zero (by rw [hlen];omega);rw [h0];simp
    ·have hle:(cap-lo.toNat)*sz+lo.toNat*sz=cap*sz:=by rw [←Nat.add_mul];congr 1;omega
     refine .inr ⟨g,off+lo.toNat*sz,cur,fz,?_,hg,hfz,by rw [hlen];omega,by omega,by omega,?_⟩
     ·unfold H1;rw [if_neg hcl];show some ((⟨g,off,none⟩:Addr).add (lo.toNat*sz))=_;unfold Addr.add;split<;>simp_all
     ·have e1:(l.drop lo.toNat).flatMap f=(l.flatMap f).drop (lo.toNat*sz):=by
       have h1:=C6 hf (l.take lo.toNat);have h2:l.flatMap f=(l.take lo.toNat).flatMap f++(l.drop lo.toNat).flatMap f:=by rw [←List.flatMap_append,List.take_append_drop]
       have h3:(l.take lo.toNat).length=lo.toNat:=by rw [List.length_take];omega
       rw [h2];exact (List.drop_left' (by rw [h1,h3])).symm
      have e2:∀(k:List α) (m:Nat),m≤k.length→(k.take m).flatMap f=(k.flatMap f).take (m*sz):=by
       intro k m hm;have h1:=C6 hf (k.take m);have h3:(k.take m).length=m:=by rw [List.length_take];omega
       have h2:k.flatMap f=(k.take m).flatMap f++(k.drop m).flatMap f:=by rw [←List.flatMap_append,List.take_append_drop]
       rw [h2];exact (List.take_left' (by rw [h1,h3])).symm
      rw [e2 _ _ (by rw [List.length_drop];omega),e1,hlen,←htake,List.drop_take,List.take_take,List.drop_drop]
      congr 1
      have:(hi.toNat-lo.toNat)*sz+lo.toNat*sz≤l.length*sz:=by rw [←Nat.add_mul];exact Nat.mul_le_mul_right _ (by omega)
      omega
  ·rintro b ⟨off,hb2⟩;unfold H1 at hb2
   split at hb2
   ·exact ⟨off,hb2⟩
   ·cases had:ad with
    | none=>rw [had] at hb2;cases hb2
    | some a =>
     rw [had] at hb2;rcases h3 with ⟨h1,_⟩|⟨g,off',cur,fz,h1,_⟩
     ·rw [had] at h1;cases h1
     ·rw [had] at h1
      cases h1
      have:(⟨g,off',none⟩:Addr).add (lo.toNat*sz)=⟨g,off'+lo.toNat*sz,none⟩:=by unfold Addr.add;split<;>simp_all
      simp only [Option.map_some,Option.some.injEq] at hb2;rw [this] at hb2
      cases hb2
      exact ⟨off',rfl⟩
 ·cases hx
end
section
variable {P:Program} {r:Option Nat} {ops:Array Oper} {K:Act→World→Prop} {N:Nat} {ds:List Deferred} {M:List (Nat×Value)} {a:Act} {w0 w:World} {k:Nat} {H:List Res} {α:Type} {e sz cap:Nat} {f:α→List Value} {ad:Option Addr} {l:List α}
theorem Ng (g o:Nat) (t:TypeId) (fz:Nat×Nat):∀(vs:List Value) (i:Nat) (cur:Array Value) (w:World),w.heap[g]? = some (.cells cur t fz)→(fz=(0,0)∨cur.size≤fz.1)→o+i+vs.length≤cur.size→(∀v∈vs,v.oneCell'=true) →
  (storeCells ⟨g,o,none⟩ vs i).run P w=.ok () (w.setRow g (cur.toList.take (o+i)++vs++cur.toList.drop (o+i+vs.length)).toArray)
 | [],i,cur,w,hg,_,_,_=>by
  simp only [storeCells,List.append_nil,List.length_nil,Nat.add_zero,List.take_append_drop,Array.toArray_toList];rw [setRow_self w g cur t fz hg];rfl
 | v::rest,i,cur,w,hg,hfz,hl,h1=>by
  have hi:o+i<cur.size:=by simp at hl;omega
  have hadd:(⟨g,o,none⟩:Addr).add i=⟨g,o+i,none⟩:=by unfold Addr.add;split<;>simp_all
  have hcell:w.cell? ⟨g,o+i,none⟩=some cur[o+i]:=by simp [World.cell?,hg,hi]
  have hfro:w.frozen? ⟨g,o+i,none⟩=false:=by
   obtain ⟨x,y⟩:=fz;simp only [World.frozen?,hg];rcases hfz with h|h
   ·cases h;simp
   ·simp only [Bool.and_eq_false_iff,decide_eq_false_iff_not];left;simp only at h;omega
  have hst:(store ((⟨g,o,none⟩:Addr).add i) v).run P w=.ok () (w.setRow g (cur.setIfInBounds (o+i) v)):=by
   rw [hadd,run_store P w _ v _ (h1 v (by simp)),hcell];simp [hfro,setCell_eq_setRow w g (o+i) cur t fz v hg]
  have ih:=Ng g o t fz rest (i+1) (cur.setIfInBounds (o+i) v) (w.setRow g (cur.setIfInBounds (o+i) v)) (setRow_heap w g cur _ t _ hg) (by simpa using hfz) (by simp at hl ⊢;omega) (fun x hx=>h1 x (by simp [hx]));simp only [storeCells,Sem.run_bind,hst,Result.andThen_ok,ih,setRow_setRow]
  congr 3
  have e:=list_seg_step cur.toList (o+i) v rest (by simp at hl ⊢;omega)
  simpa [Array.toList_setIfInBounds,Nat.add_assoc] using e
structure Src (P:Program) (w:World) (xt:TypeId) (sz:Nat) (x:Value) (n:Nat) (news:List Value):Prop where
 ty:∃u,P.underlying xt=some u∧((∃e,u=.slice e)∨u=.string)
 len:Builtin.lenOf x=pure n
 cells:∀w':World,(∀j,j<w.heap.size→w'.heap[j]? = w.heap[j]?)→(Builtin.firstCells sz n x).run P w'=.ok news.toArray w'
 size:news.length=n*sz
theorem Src.drew {w:World} {xt sz n:Nat} {x:Value} {news:List Value} (h:Src P w xt sz x n news):(Builtin.firstCells sz n x).run P w.drew=.ok news.toArray w.drew:=h.cells w.drew (fun _ _=>rfl)
theorem Src.slice {w:World} {xt u sz n cap:Nat} {ad:Option Addr} {l:List α} (ht:P.underlying xt=some (.slice u)) (hs:Arr w sz f ad n cap l):Src P w xt sz (.slice ad n cap) n (l.flatMap f):=by
 obtain ⟨_,ad',cap',he,hl,_,_,hcell⟩:=hs
 cases he
 refine ⟨⟨_,ht,.inl ⟨_,rfl⟩⟩,rfl,fun w' hw=>?_,hl⟩
 by_cases hn:n=0
 ·subst hn;have:l.flatMap f=[]:=List.eq_nil_of_length_eq_zero (by rw [hl];simp);rw [this]
  cases ad<;>simp [Builtin.firstCells,loadCells,loadCellsFrom]
 ·obtain ⟨a,rfl,hb,hc⟩:=hcell (by omega);refine run_firstCells_some (P:=P) w' sz n a n cap (l.flatMap f) hl (fun j u hu=>?_);have h:=hc j u hu;have hbl:(a.add j).block<w.heap.size:=by rw [Hv];exact hb
  unfold World.cell? at h ⊢;rw [hw _ hbl];exact h
theorem Tz (w:World) (t xt ty e:TypeId) (i:TypeInfo) (z:Value) (ht:P.underlying t=some (.slice e)) (hi:P.info? e=some i) (hz:i.zero=some z) {x:Value} {n:Nat} {news:List Value} (hs:Src P w xt i.size x n news)
  (hn:0<n) (h63:(n:Int)≤9223372036854775807) (hfit:Builtin.nextslicecap n 0*i.bytes≤281474976710656) :
  (Builtin.append_ #[t,xt] ty #[.slice none 0 0,x]).run P w=.ok (.slice (some ⟨w.heap.size,0,none⟩) n (grownCap w n 0 e)) (w.drew.alloc (.cells (news.toArray++Builtin.zeroCells z.cells (grownCap w n 0 e-n)) e)):=by
 obtain ⟨u,hu,hnu⟩:=hs.ty;have h63':¬(9223372036854775807<(n:Int)):=by omega
 have h48':¬(281474976710656<Builtin.nextslicecap n 0*i.bytes):=by omega
 have hn':¬n=0:=by omega
 have hd:=hs.drew;have hf0:∀w':World,(Builtin.firstCells i.size 0 (.slice none 0 0)).run P w'=.ok #[] w':=fun _=>rfl;rcases hnu with ⟨e',rfl⟩|rfl<;>simp [Builtin.append_,run_underlying ht,run_underlying hu,sizeOf,typeInfo,zeroValue,hi,hz,hs.len,hn',h63',h48',Question.forced,hd,hf0,newRow,grownCap]
theorem Sb (w:World) (t xt ty e:TypeId) (i:TypeInfo) (z:Value) (ht:P.underlying t=some (.slice e)) (hi:P.info? e=some i) (hz:i.zero=some z) (b:Addr) (sLen sCap:Nat) (olds:List Value) (hlo:olds.length=sLen*i.size) (holds:∀j v,olds[j]? = some v→w.cell? (b.add j)=some v)
  {x:Value} {n:Nat} {news:List Value} (hs:Src P w xt i.size x n news) (hg:sCap<sLen+n) (h63:((sLen+n:Nat):Int)≤9223372036854775807) (hfit:Builtin.nextslicecap (sLen+n) sCap*i.bytes≤281474976710656) :
  (Builtin.append_ #[t,xt] ty #[.slice (some b) sLen sCap,x]).run P w =
   .ok (.slice (some ⟨w.heap.size,0,none⟩) (sLen+n) (grownCap w (sLen+n) sCap e)) (w.drew.alloc (.cells (olds.toArray++news.toArray++Builtin.zeroCells z.cells (grownCap w (sLen+n) sCap e-(sLen+n))) e)):=by
 obtain ⟨u,hu,hnu⟩:=hs.ty;have hn:¬(sLen+n≤sCap):=by omega
 have h63':¬(9223372036854775807<((sLen:Int)+(n:Int))):=by omega
 have h48':¬(281474976710656<Builtin.nextslicecap (sLen+n) sCap*i.bytes):=by omega
 have hd:=hs.drew;have hfo:=run_firstCells_some (P:=P) w.drew i.size sLen b sLen sCap olds hlo (by simpa using holds);rcases hnu with ⟨e',rfl⟩|rfl<;>simp [Builtin.append_,run_underlying ht,run_underlying hu,sizeOf,typeInfo,zeroValue,hi,hz,hs.len,hn,h63',h48',Question.forced,hd,hfo,newRow,grownCap]<;>simp [←Array.append_assoc]
theorem Sd (w w':World) (t xt ty e:TypeId) (i:TypeInfo) (ht:P.underlying t=some (.slice e)) (hi:P.info? e=some i) (base:Addr) (sLen sCap:Nat)
  {x:Value} {n:Nat} {news:List Value} (hs:Src P w xt i.size x n news) (hr:sLen+n≤sCap) (hst:(storeCells (base.add (sLen*i.size)) news).run P w=.ok () w') :
  (Builtin.append_ #[t,xt] ty #[.slice (some base) sLen sCap,x]).run P w=.ok (.slice (some base) (sLen+n) sCap) w':=by
 obtain ⟨u,hu,hnu⟩:=hs.ty;have hd:=hs.cells w (fun _ _=>rfl);rcases hnu with ⟨e',rfl⟩|rfl<;>simp [Builtin.append_,run_underlying ht,run_underlying hu,sizeOf,typeInfo,hi,hs.len,hr,hd,hst]
theorem Sc (w:World) (t xt ty e:TypeId) (i:TypeInfo) (ht:P.underlying t=some (.slice e)) (hi:P.info? e=some i) {x:Value} {news:List Value} (hs:Src P w xt i.size x 0 news) :
  (Builtin.append_ #[t,xt] ty #[.slice none 0 0,x]).run P w=.ok (.slice none 0 0) w:=by
 obtain ⟨u,hu,hnu⟩:=hs.ty;have hd:=hs.cells w (fun _ _=>rfl);rcases hnu with ⟨e',rfl⟩|rfl<;>simp [Builtin.append_,run_underlying ht,run_underlying hu,sizeOf,typeInfo,hi,hs.len,hd]
theorem A1c (M':Option Addr→Nat→List (Nat×Value)) (i:Nat) {t xt ty bytes:Nat} {x:Value} {l' l3:List α} (hF:Fr N ds M a) (hS:St w0 H w) (hi:H[i]? = some (arrT e sz f ad l.length cap l)) (hdst:Al ops N=true)
  (hs:EffAt ops k M (Builtin.append_ #[t,xt] ty #[.slice ad l.length cap,x])) (hty:Ed P t e sz bytes=true) (hsrc:Src P w xt sz x l'.length (l'.flatMap f)) (h1:∀x∈l',(f x).all Value.oneCell'=true) (hap:apd bytes l l'=some l3)
  (hM:∀ad2 cap2,NextM ops k M (.slice ad2 l3.length cap2) (M' ad2 cap2))
  (next:∀ad2 cap2 w' a',Fr N ds (M' ad2 cap2) a'→St w0 (H.set i (arrT e sz f ad2 l3.length cap2 l3)) w'→K a' w'):SK P r ops k K a w:=by
 obtain ⟨rfl,hb,h63⟩:=Gj hap;have hold:=hS.holds _ (List.mem_of_getElem? hi);have hlen:(l++l').length=l.length+l'.length:=List.length_append;obtain ⟨_,hll,h3⟩:=hold;obtain ⟨inf,z,ht,hi',hz,hsz',hby,hzs,hszp⟩:=Ep hty;subst hsz' hby;have hone:∀u∈l'.flatMap f,u.oneCell'=true:=fun u hu=>by
  obtain ⟨x,hx,hux⟩:=List.mem_flatMap.1 hu;exact List.all_eq_true.1 (h1 x hx) u hux
 have hl:=hsrc.size;have fin:∀(ad2:Option Addr) (cap2:Nat) (w':World),(Builtin.append_ #[t,xt] ty #[.slice ad l.length cap,x]).run P w=.ok (.slice ad2 (l.length+l'.length) cap2) w' →
   (arrT e inf.size f ad2 (l++l').length cap2 (l++l')).holds w'→w'.os=w.os→w'.tape=w.tape→w'.output=w.output→w.heap.size≤w'.heap.size→(∀j,j<w.heap.size→¬(Go.Eng.arrT e inf.size f ad l.length cap l).foot j→w'.heap[j]? = w.heap[j]?) →
   (∀j,(Go.Eng.arrT e inf.size f ad2 (l++l').length cap2 (l++l')).foot j→(Go.Eng.arrT e inf.size f ad l.length cap l).foot j∨w.heap.size≤j)→SK P r ops k K a w:=by
  intro ad2 cap2 w' hr hh g1 g2 g3 g4 g5 g6;refine V9 hF hdst hs hr (by rw [←hlen];exact hM ad2 cap2) ?_;intro a' hF';exact next ad2 cap2 w' a' hF' (hS.upd hi g1 g2 g3 g4 g5 hh g6)
 have hflat:(l++l').flatMap f=l.flatMap f++l'.flatMap f:=List.flatMap_append;have hfl:((l++l').flatMap f).length=(l++l').length*inf.size:=by rw [hflat,List.length_append,hll,hl,hlen,Nat.add_mul]
 have hsmall:l.length+l'.length≤9223372036854775807:=by simp only [maxLen] at h63;omega
 have grown:∀(old:Nat),old<l.length+l'.length →
   (Go.Eng.arrT e inf.size f (some ⟨w.heap.size,0,none⟩) (l++l').length (grownCap w (l.length+l'.length) old e) (l++l')).holds (w.drew.alloc (.cells ((l.flatMap f).toArray++(l'.flatMap f).toArray++Builtin.zeroCells z.cells (grownCap w (l.length+l'.length) old e-(l.length+l'.length))) e)):=by
  intro old ho;have hge:=grownCap_ge w (l.length+l'.length) old e;have hcm:grownCap w (l.length+l'.length) old e≤maxLen:=grownCap_le_maxLen w (l.length+l'.length) old e h63;refine ⟨rfl,hfl,.inr ⟨w.heap.size,0,_,_,rfl,heap_alloc_new w.drew _,.inl rfl,by rw [hlen];exact hge,hcm,?_,?_⟩⟩
  ·simp only [Array.size_append,List.size_toArray,size_zeroCells,hzs,hll,hl,←Nat.add_mul];rw [Nat.zero_add];exact Nat.mul_le_mul_right _ (by omega)
  ·simp only [Array.toList_append,List.drop_zero];rw [←hfl,hflat];exact List.take_left
 rcases h3 with ⟨rfl,h4,rfl⟩|⟨g,off,cur,fz,rfl,hg,hfz,hnc,hcm,hcs,htake⟩
 ·have hx:l=[]:=List.eq_nil_of_length_eq_zero h4;subst hx
  by_cases hm:l'.length=0
  ·have hn:l'=[]:=List.eq_nil_of_length_eq_zero hm;subst hn;refine fin none 0 w ?_ ⟨rfl,by simp,.inl ⟨rfl,by simp,rfl⟩⟩ rfl rfl rfl (Nat.le_refl _) (fun _ _ _=>rfl) (fun j hj=>.inl hj);exact Sc w t xt ty e inf ht hi' hsrc
  ·have hr:=Tz (P:=P) w t xt ty e inf z ht hi' hz hsrc (by omega) (by simp at hsmall;omega) (growslice_fits (by omega) (by simpa using hb));have hgr:=grown 0 (by simp;omega);simp only [List.length_nil,Nat.zero_add,List.nil_append,List.flatMap_nil,Array.empty_append] at hgr hr fin ⊢;refine fin _ _ _ hr hgr rfl rfl rfl (by simp) (fun j hj _=>Uh w.drew _ j hj) (fun j hj=>?_);obtain ⟨_,hj⟩:=hj
   cases hj
   exact .inr (Nat.le_refl _)
 ·by_cases hroom:l.length+l'.length≤cap
  ·have hcap:(l.length+l'.length)*inf.size≤cap*inf.size:=Nat.mul_le_mul_right _ hroom;have hadd:=Nat.add_mul l.length l'.length inf.size;have hfit:off+l.length*inf.size+(l'.flatMap f).length≤cur.size:=by rw [hl];omega
   have hst:=Ng (P:=P) g (off+l.length*inf.size) e fz (l'.flatMap f) 0 cur w hg hfz (by simpa using hfit) hone;simp only [Nat.add_zero] at hst;refine fin (some ⟨g,off,none⟩) cap (w.setRow g (cur.toList.take (off+l.length*inf.size)++l'.flatMap f++cur.toList.drop (off+l.length*inf.size+(l'.flatMap f).length)).toArray) ?_ ⟨rfl,hfl,.inr ⟨g,off,_,fz,rfl,setRow_heap w g cur _ e _ hg,?_,by rw [hlen];exact hroom,hcm,?_,?_⟩⟩ rfl rfl rfl (by simp [World.setRow]) (fun j _ hj=>setRow_other w g j _ (fun he=>hj ⟨off,by rw [he]⟩)) (fun j hj=>.inl hj)
   ·exact Sd w _ t xt ty e inf ht hi' _ _ _ hsrc hroom (by rw [Addr.add_lit];exact hst)
   ·refine hfz.imp id fun h=>?_;have:cur.toList.length=cur.size:=by simp
    simp only [List.size_toArray,List.length_append,List.length_take,List.length_drop];omega
   ·have:cur.toList.length=cur.size:=by simp
    simp only [List.size_toArray,List.length_append,List.length_take,List.length_drop];omega
   ·have hcl:cur.toList.length=cur.size:=by simp
    have hz:(cur.toList.take (off+l.length*inf.size)).length=off+l.length*inf.size:=by rw [List.length_take];omega
    rw [hlen,hflat,←htake,Nat.add_mul,←hl];simp only [List.append_assoc];rw [List.drop_append_of_le_length (by omega),List.drop_take,Nat.add_sub_cancel_left,List.take_append,List.length_take,List.length_drop,hcl];have e1:min (l.length*inf.size) (cur.size-off)=l.length*inf.size:=by omega
    rw [e1,List.take_of_length_le (by rw [List.length_take,List.length_drop];omega),Nat.add_sub_cancel_left,List.take_append_of_le_length (by omega),List.take_of_length_le (Nat.le_refl _)]
  ·have holds:∀j u,(l.flatMap f)[j]? = some u→w.cell? ((⟨g,off,none⟩:Addr).add j)=some u:=by
    intro j u hu;have hadd:(⟨g,off,none⟩:Addr).add j=⟨g,off+j,none⟩:=by unfold Addr.add;split<;>simp_all
    rw [hadd];rw [←htake,List.getElem?_take] at hu
    split at hu
    ·rw [List.getElem?_drop] at hu;simp only [World.cell?,hg]
     simpa using hu
    ·cases hu
   have hr:=Sb (P:=P) w t xt ty e inf z ht hi' hz ⟨g,off,none⟩ l.length cap (l.flatMap f) hll holds hsrc (by omega) (by omega) (growslice_fits (by omega) hb);refine fin _ _ _ hr (grown cap (by omega)) rfl rfl rfl (by simp) (fun j hj _=>Uh w.drew _ j hj) (fun j hj=>?_);obtain ⟨_,hj⟩:=hj
   cases hj
   exact .inr (Nat.le_refl _)
theorem A1b (M':Option Addr→Nat→List (Nat×Value)) (i:Nat) {t ty bytes scap:Nat} {sad:Option Addr} {l' l3:List α} (hF:Fr N ds M a) (hS:St w0 H w) (hi:H[i]? = some (arrT e sz f ad l.length cap l)) (hdst:Al ops N=true)
  (hs:EffAt ops k M (Builtin.append_ #[t,t] ty #[.slice ad l.length cap,.slice sad l'.length scap])) (hty:Ed P t e sz bytes=true) (hsrc:Arr w sz f sad l'.length scap l') (h1:∀x∈l',(f x).all Value.oneCell'=true) (hap:apd bytes l l'=some l3)
  (hM:∀ad2 cap2,NextM ops k M (.slice ad2 l3.length cap2) (M' ad2 cap2))
  (next:∀ad2 cap2 w' a',Fr N ds (M' ad2 cap2) a'→St w0 (H.set i (arrT e sz f ad2 l3.length cap2 l3)) w'→K a' w'):SK P r ops k K a w:=by
 obtain ⟨inf,z,ht,_⟩:=Ep hty;exact A1c M' i hF hS hi hdst hs hty (Src.slice ht hsrc) h1 hap hM next
end
end Go.Eng
namespace Go.Eng
open Go Go.RowKit
set_option linter.unusedVariables false
section
variable {α β:Type} {c:List α} {l:List β} {S:α→β→Prop} {ν:Frz} {sz cap:Nat} {ad:Option Addr} {f:α→List Value}
theorem Yf {c l:List α} (h:All2 Eq c l):c=l:=by
 induction h with
 | nil=>rfl
 | cons h _ ih=>rw [h,ih]
end
section
variable {P:Program} {r:Option Nat} {ops:Array Oper} {K:Act→World→Prop} {N:Nat} {ds:List Deferred} {M:List (Nat×Value)} {a:Act} {w0 w:World} {k:Nat} {H:List Res} {α β:Type} {e t bytes:Nat} {S:α→β→Prop}
theorem A0g (α:Type) (ei sz:Nat) (f:α→List Value) (S:α→β→Prop) (M':Nat→List (Nat×Value)) {n:Int} {L:List (List β)} (hF:Fr N ds M a) (hS:St w0 H w) (hdst:Al ops N=true) (hs:EffAt ops k M (Instr.makeSlice t (.int .i64 n) (.int .i64 n)))
  (hty:Ed P t e 1 bytes=true) (hz:(P.info? e).bind (·.zero)=some (.slice none 0 0)) (hmk:mkI bytes n ([]:List β)=some L) (hM:∀b,NextM ops k M (.slice (some ⟨b,0,none⟩) L.length L.length) (M' b))
  (next:∀b hd css w' a',Fr N ds (M' b) a'→NestOk S hd css L→St w0 (Dl e ei sz f (some ⟨b,0,none⟩) L.length L.length hd css::H) w'→K a' w'):SK P r ops k K a w:=by
 obtain ⟨h0,rfl,hb,h63⟩:=N4 hmk;have hlen:(List.replicate n.toNat ([]:List β)).length=(List.replicate n.toNat D1).length:=by simp
 have hmk':mkI bytes n D1=some (List.replicate n.toNat D1):=by
  unfold mkI at hmk ⊢
  split at hmk
  ·rename_i hc;rw [if_pos hc]
  ·cases hmk
 refine Pl M' D1 hF hS hdst hs hty hz (f:=hdF) rfl hmk' (by rw [←hlen];exact hM) ?_;intro b w' a' g1 g2;rw [←hlen] at g2;exact next b _ _ w' a' g1 (NestOk.rep _) (St.makeNest g2 ei sz f)
end
end Go.Eng
namespace Go.Eng
open Go Go.RowKit
set_option linter.unusedVariables false
section
variable {P:Program} {ops:Array Oper} {Q:Exit→Act→World→Prop} {N:Nat} {ds:List Deferred} {M:List (Nat×Value)} {a:Act} {w:World}
end
end Go.Eng
namespace Go.Eng
open Go Go.RowKit
set_option linter.unusedVariables false
section
variable {P:Program} {r:Option Nat} {ops:Array Oper} {K:Act→World→Prop} {N:Nat} {ds:List Deferred} {M M':List (Nat×Value)} {a:Act} {w0 w:World} {k:Nat} {H:List Res} {γ:Type} {n:Nat} {f:γ→Value} {hd:List Hd} {css:List (List (Ny γ n))} {L L3:List (List (Ny γ n))} {l l3:List (Ny γ n)} {eo e cap:Nat} {ad:Option Addr}
end
end Go.Eng
namespace Go.Eng
open Go Go.RowKit
set_option linter.unusedVariables false
set_option linter.unusedSimpArgs false
theorem A01 {P:Program} {r:Option Nat} {c:Code} {Q:Exit→Act→World→Prop} {a:Act} {w:World} (m:Nat) (h:Code.roundsIn (F0 r) 0 P c Q m a w):WP P r (.loop c) Q a w:=wpIn_loop_rounds m h
theorem Q7 {P:Program} {r:Option Nat} {c:Code} {Q:Exit→Act→World→Prop} {a:Act} {w:World} {m:Nat} (h:WP P r c (Exit.then (fun a w=>Code.roundsIn (F0 r) 0 P c Q m a w) Q) a w):Code.roundsIn (F0 r) 0 P c Q (m+1) a w:=h
section
variable {P:Program} {r:Option Nat} {ops:Array Oper} {K:Act→World→Prop} {N:Nat} {ds:List Deferred} {M:List (Nat×Value)} {a:Act} {w0 w:World} {k:Nat} {H:List Res} {cs:List Cd}
end
end Go.Eng
namespace Go.Eng
open Go Go.RowKit
set_option linter.unusedVariables false
set_option linter.unusedSimpArgs false
abbrev FM:=List (Nat×Value)
class Pre (n M:FM) (M':outParam FM):Prop
instance {M:FM}:Pre [] M M:=⟨⟩
instance {e:Nat×Value} {n M M':FM} [Pre n M M']:Pre (e::n) M (e::M'):=⟨⟩
class SetL (l:List Value) (i:Nat) (v:Value) (l':outParam (List Value)):Prop
instance {x v:Value} {l:List Value}:SetL (x::l) 0 v (v::l):=⟨⟩
instance {x v:Value} {l l':List Value} {i:Nat} [SetL l i v l']:SetL (x::l) (i+1) v (x::l'):=⟨⟩
class Spt (n:Nat) (l:List Nat) (a b:outParam (List Nat)):Prop
instance {l:List Nat}:Spt 0 l [] l:=⟨⟩
instance {n x:Nat} {l a b:List Nat} [Spt n l a b]:Spt (n+1) (x::l) (x::a) b:=⟨⟩
theorem Ky {α:Type _} {a b:α} (h:some a=some b):a=b:=Option.some.inj h
section
variable {P:Program} {r:Option Nat} {ops:Array Oper} {Q:Exit→Act→World→Prop} {K:Act→World→Prop} {N:Nat} {ds:List Deferred} {M M':FM} {a:Act} {w w0:World} {H:List Res} {obs:List Ob}
theorem qn {k:Nat} (n k':Nat) (nw:FM) (hF:Fr N ds M a) (next:∀a',Fr N ds M' a'→WI P r ops Q k' a' w) [Pre nw M M'] (hdst:Al ops N=true:=by kernel_rfl) (h:Ends P ops n k M M' []:=by exact ⟨by kernel_rfl⟩) (hk:k+n=k':=by rfl):WI P r ops Q k a w :=
 Ty k' M' hF hdst Aa h hk next
theorem qo {k:Nat} (n k':Nat) (nw:FM) (hF:Fr N ds M a) (hob:Obs P (fun a b=>b=a) (fun x=>x=w) obs) (next:∀a',Fr N ds M' a'→WI P r ops Q k' a' w) [Pre nw M M'] (hdst:Al ops N=true:=by kernel_rfl) (h:Ends P ops n k M M' obs:=by exact ⟨by kernel_rfl⟩) (hk:k+n=k':=by rfl):WI P r ops Q k a w :=
 Ty k' M' hF hdst hob h hk next
theorem qx {k:Nat} (n k':Nat) (nw:FM) (hF:Fr N ds M a) (hob:Obs P Ext (Ext w) obs) (next:∀a' w',Fr N ds M' a'→Ext w w'→WI P r ops Q k' a' w') [Pre nw M M'] (hdst:Al ops N=true:=by kernel_rfl) (h:Ends P ops n k M M' obs:=by exact ⟨by kernel_rfl⟩) (hk:k+n=k':=by rfl):WI P r ops Q k a w :=
 A15 k' M' hF hdst hob h hk next
end
section
variable {P:Program} {r:Option Nat} {ops:Array Oper} {y:Code} {id:Nat} {Q:Exit→Act→World→Prop} {K:Act→World→Prop} {N:Nat} {ds:List Deferred} {M M':FM} {a:Act} {w w0:World} {H:List Res} {obs:List Ob}
theorem qnB (nw:FM) (hF:Fr N ds M a) (next:∀a',Fr N ds M' a'→WP P r y Q a' w) [Pre nw M M'] (hdst:Al ops N=true:=by kernel_rfl) (h:Ends P ops ops.size 0 M M' []:=by exact ⟨by kernel_rfl⟩):WP P r (.seq (.region id ops false) y) Q a w :=
 esr (Ty ops.size M' hF hdst Aa h (Nat.zero_add _) fun a' hF'=>wfn (Nat.beq_refl _) (next a' hF'))
theorem qoB (nw:FM) (hF:Fr N ds M a) (hob:Obs P (fun a b=>b=a) (fun x=>x=w) obs) (next:∀a',Fr N ds M' a'→WP P r y Q a' w) [Pre nw M M'] (hdst:Al ops N=true:=by kernel_rfl) (h:Ends P ops ops.size 0 M M' obs:=by exact ⟨by kernel_rfl⟩):WP P r (.seq (.region id ops false) y) Q a w :=
 esr (Ty ops.size M' hF hdst hob h (Nat.zero_add _) fun a' hF'=>wfn (Nat.beq_refl _) (next a' hF'))
theorem qxB (nw:FM) (hF:Fr N ds M a) (hob:Obs P Ext (Ext w) obs) (next:∀a' w',Fr N ds M' a'→Ext w w'→WP P r y Q a' w') [Pre nw M M'] (hdst:Al ops N=true:=by kernel_rfl) (h:Ends P ops ops.size 0 M M' obs:=by exact ⟨by kernel_rfl⟩):WP P r (.seq (.region id ops false) y) Q a w :=
 esr (A15 ops.size M' hF hdst hob h (Nat.zero_add _) fun a' w' hF' hx=>wfn (Nat.beq_refl _) (next a' w' hF' hx))
theorem rnB (M':FM) (hF:Fr N ds M a) (next:∀a',Fr N ds M' a'→WP P r y Q a' w) (hdst:Al ops N=true:=by kernel_rfl) (h:Ends P ops ops.size 0 M M' []:=by exact ⟨by kernel_rfl⟩):WP P r (.seq (.region id ops false) y) Q a w :=
 esr (Ty ops.size M' hF hdst Aa h (Nat.zero_add _) fun a' hF'=>wfn (Nat.beq_refl _) (next a' hF'))
end
section
variable {P:Program} {r:Option Nat} {ops:Array Oper} {Q:Exit→Act→World→Prop} {K:Act→World→Prop} {N:Nat} {ds:List Deferred} {M M':FM} {a:Act} {w w0:World} {H:List Res} {obs:List Ob}
theorem ro {k:Nat} (n k':Nat) (M':FM) (hF:Fr N ds M a) (hob:Obs P (fun a b=>b=a) (fun x=>x=w) obs) (next:∀a',Fr N ds M' a'→WI P r ops Q k' a' w) (hdst:Al ops N=true:=by kernel_rfl) (h:Ends P ops n k M M' obs:=by exact ⟨by kernel_rfl⟩) (hk:k+n=k':=by rfl):WI P r ops Q k a w :=
 Ty k' M' hF hdst hob h hk next
theorem rX {k:Nat} (n k':Nat) (M':FM) (hF:Fr N ds M a) (hob:Obs P Ext (Ext w) obs) (next:∀a' w',Fr N ds M' a'→Ext w w'→WI P r ops Q k' a' w') (hdst:Al ops N=true:=by kernel_rfl) (h:Ends P ops n k M M' obs:=by exact ⟨by kernel_rfl⟩) (hk:k+n=k':=by rfl):WI P r ops Q k a w :=
 A15 k' M' hF hdst hob h hk next
theorem qD {id:Nat} (m:Nat) (nw:FM) (hF:Fr N ds M a) (hob:Obs P Ext (Ext w) obs) (next:∀a' w',Fr N ds M' a'→Ext w w'→WI P r ops Q m a' w') [Pre nw M M'] (hmo:P.follows .mixedOrders=true:=by kernel_rfl) (hck:(Al ops N&&F9 ops m&&E9 ops m&&Cf ops&&Nat.ble m ops.size)=true:=by kernel_rfl)
  (h:Ends P ops m 0 M M' obs:=by exact ⟨by kernel_rfl⟩):WP P r (.region id ops true) Q a w:=A27 m M' hmo hF hck hob h next
variable {k:Nat}
theorem qs (t i off:Nat) (v:Value) {tt:TypeId} {b:Nat} {cs cs':List Value} (hF:Fr N ds M a) (hS:St w0 H w) (hi:H[i]? = some (blk b tt cs.toArray)) (next:∀w' a',Fr N ds M a'→St w0 (H.set i (blk b tt cs'.toArray)) w'→K a' w') [SetL cs off v cs'] (hdst:Al ops N=true:=by kernel_rfl)
  (hs:StoreAt ops k M t (.pointer (some ⟨b,off,none⟩)) v:=by exact ⟨by kernel_rfl⟩) (hsz:pureSem P (sizeOf t)=some v.cells.size:=by kernel_rfl) (hone:v.cells.toList.all Value.oneCell'=true:=by kernel_rfl) (hfit:Nat.ble (off+v.cells.size) cs.toArray.size=true:=by kernel_rfl) (hcs:Nm cs.toArray off v.cells.toList=cs'.toArray:=by kernel_rfl)
  (hM:NextM ops k M undef M:=by exact ⟨by kernel_rfl⟩):SK P r ops k K a w:=storeK M i off v cs'.toArray hF hS hi hdst hs hsz hone hfit hcs hM next
theorem qA {M':Nat→FM} (t:TypeId) (cs:Array Value) (nw:Nat→FM) (hF:Fr N ds M a) (hS:St w0 H w) (next:∀b w' a',Fr N ds (M' b) a'→St w0 (blk b t cs::H) w'→K a' w') [∀b,Pre (nw b) M (M' b)] (hdst:Al ops N=true:=by kernel_rfl) (hs:EffAt ops k M (Instr.alloc t true (.tuple #[])):=by exact ⟨by kernel_rfl⟩)
  (hz:((P.info? t).bind (·.zero)).map Value.cells=some cs:=by kernel_rfl) (hM:∀b,NextM ops k M (.pointer (some ⟨b,0,none⟩)) (M' b):=by exact fun _=>⟨by kernel_rfl⟩):SK P r ops k K a w:=Zu M' cs hF hS hdst hs hz hM next
theorem qR {M':Value→FM} (nw:Value→FM) {f:FuncId} {args:Array Value} {R:Value→World→Prop} (hF:Fr N ds M a) (hc:Et P f args w R) (next:∀v w' a',R v w'→Fr N ds (M' v) a'→K a' w') [∀v,Pre (nw v) M (M' v)] (hdst:Al ops N=true:=by kernel_rfl) (hs:CallAt P ops k M f args:=by exact ⟨by kernel_rfl⟩)
  (hM:∀v,NextM ops k M v (M' v):=by exact fun _=>⟨by kernel_rfl⟩):SK P r ops k K a w:=A1g M' hF hdst hs hc hM next
variable {T:World→World→Prop} {D:World→Prop}
theorem St.i (h:St w0 H w):∀w',w'=w→St w0 H w':=fun _ e=>h.at_ e
theorem St.e (h:St w0 H w):∀w',Ext w w'→St w0 H w':=fun _ e=>h.later e
theorem oL (t i j:Nat) {H:List Res} {b:Nat} {tt:TypeId} {cs:Array Value} {u:Value} (hs:∀w',D w'→St w0 H w') (hi:H[i]? = some (blk b tt cs)) (hj:cs[j]? = some u) (l:Obs P T D obs) (ht:Eh P t=true:=by kernel_rfl):Obs P T D (.run [] (Instr.loadAt t (.pointer (some ⟨b,j,none⟩))) u::obs) :=
 Gg (ob1 ht fun w' hd=>(hs w' hd).cell hi hj) l
theorem oN (t i off n:Nat) {H:List Res} {b:Nat} {tt:TypeId} {cs:Array Value} (hs:∀w',D w'→St w0 H w') (hi:H[i]? = some (blk b tt cs)) (l:Obs P T D obs) (ht:Ea P t=some ((cs.toList.drop off).take n).length:=by kernel_rfl) (hn:(cs.toList.drop off).take ((cs.toList.drop off).take n).length=(cs.toList.drop off).take n:=by kernel_rfl) :
  Obs P T D (.run [] (Instr.loadAt t (.pointer (some ⟨b,off,none⟩))) (.agg ((cs.toList.drop off).take n).toArray)::obs):=Gg (obN ht fun w' hd=>((hs w' hd).blk hi).cells hn) l
theorem oA (t:TypeId) {x y z:Int} (h:ck (x+y)=some z) (l:Obs P T D obs):Obs P T D (.run [] (binOp .add t (.int .i64 x) (.int .i64 y)) (.int .i64 z)::obs):=Gg (A0k fun _=>h) l
theorem oS (t:TypeId) {x y z:Int} (h:ck (x-y)=some z) (l:Obs P T D obs):Obs P T D (.run [] (binOp .sub t (.int .i64 x) (.int .i64 y)) (.int .i64 z)::obs):=Gg (A0t fun _=>h) l
theorem oQ (t:TypeId) {x y z:Int} (h:W6 x y=some z) (l:Obs P T D obs):Obs P T D (.run [] (binOp .quo t (.int .i64 x) (.int .i64 y)) (.int .i64 z)::obs):=Gg (A0p fun _=>h) l
theorem oR (t:TypeId) {x y z:Int} (h:By x y=some z) (l:Obs P T D obs):Obs P T D (.run [] (binOp .rem t (.int .i64 x) (.int .i64 y)) (.int .i64 z)::obs):=Gg (A0r fun _=>h) l
theorem oC {f:FuncId} {args:Array Value} {v:Value} (h:∀w',D w'→Calls P f args w' (fun e w''=>e=.returned v∧T w' w'')) (l:Obs P T D obs):Obs P T D (.call [] f args v::obs):=Gg (show Ob.ok P T D (.call [] f args v) from fun _=>h) l
theorem oX (o:Ob) (h:Ob.ok P T D o) (l:Obs P T D obs):Obs P T D (o::obs):=Gg h l
def Ob.gd (cs:List Cd):Ob→Ob
 | .run [] s v=>.run cs s v
 | .call [] f x v=>.call cs f x v
 | o=>o
theorem Ob.gd_ok (cs:List Cd) {o:Ob} (h:o.ok P T D):(o.gd cs).ok P T D:=by
 cases o with
 | run c s v=>cases c with
  | nil=>exact fun _=>h rfl
  | cons _ _=>exact h
 | call c f x v=>cases c with
  | nil=>exact fun _=>h rfl
  | cons _ _=>exact h
theorem oGs (cs:List Cd) {l1:List Ob} (h:Obs P T D l1) (l:Obs P T D obs):Obs P T D (l1.map (Ob.gd cs)++obs):=by
 induction l1 with
 | nil=>exact l
 | cons o r ih=>exact ⟨Ob.gd_ok cs h.1,ih h.2⟩
section
variable {α:Type} {sz n cap:Nat} {f:α→List Value} {ad:Option Addr} {l:List α}
theorem oI (t:TypeId) {i:Int} {u:α} (h:Arr w sz f ad n cap l) (hx:getI l i=some u) (k:Obs P T D obs) (ht:Eo P t sz=true:=by kernel_rfl):Obs P T D (.run [] (Instr.indexAt t (.slice ad n cap) (.int .i64 i)) (.pointer (some (Ag ad i sz)))::obs):=Gg (Gx h ht fun _=>hx) k
theorem oE (t j:Nat) {i:Int} {u:α} {v:Value} (hf:∀x,(f x).length=sz) (h:∀w',D w'→Arr w' sz f ad n cap l) (hx:getI l i=some u) (hj:(f u)[j]? = some v) (k:Obs P T D obs) (ht:Eh P t=true:=by kernel_rfl) :
  Obs P T D (.run [] (Instr.loadAt t (.pointer (some ((Ag ad i sz).add j)))) v::obs):=Gg (Js j hf h ht (fun _=>hx) hj) k
theorem oG (t j m:Nat) {i:Int} {u:α} (hf:∀x,(f x).length=sz) (h:∀w',D w'→Arr w' sz f ad n cap l) (hx:getI l i=some u) (k:Obs P T D obs) (hg:(((f u).drop j).take m).length=m:=by kernel_rfl) (ht:Ea P t=some m:=by kernel_rfl) :
  Obs P T D (.run [] (Instr.loadAt t (.pointer (some ((Ag ad i sz).add j)))) (.agg (((f u).drop j).take m).toArray)::obs):=Gg (A0n j hf h ht (fun _=>hx) ⟨hg,rfl⟩) k
end
end
section
variable {P:Program} {ops:Array Oper} {D:World→Prop} {eff:List Nat} {K:Act→World→Prop} {N:Nat} {ds:List Deferred} {M M':FM} {a:Act} {w:World} {obs:List Ob} {r:Option Nat}
theorem qC {l rs rest:List Nat} (n:Nat) (nw:FM) (hF:Fr N ds M a) (hob:Obs P (fun a b=>b=a) D obs) (next:∀a',Fr N ds M' a'→WRun P r ops D eff K rest a' w) [Spt n l rs rest] [Pre nw M M'] (hl:l=rs++rest:=by rfl) (hdst:Al ops N=true:=by kernel_rfl) (hne:rs.all (fun i=>!eff.contains i)=true:=by kernel_rfl) (h:EndsL P ops rs M M' obs:=by exact ⟨by kernel_rfl⟩):WRun P r ops D eff K l a w :=
 hl▸A1v rs M' hF hdst hne hob h next
theorem rC {l rs rest:List Nat} (n:Nat) (M':FM) (hF:Fr N ds M a) (hob:Obs P (fun a b=>b=a) D obs) (next:∀a',Fr N ds M' a'→WRun P r ops D eff K rest a' w) [Spt n l rs rest] (hl:l=rs++rest:=by rfl) (hdst:Al ops N=true:=by kernel_rfl) (hne:rs.all (fun i=>!eff.contains i)=true:=by kernel_rfl) (h:EndsL P ops rs M M' obs:=by exact ⟨by kernel_rfl⟩):WRun P r ops D eff K l a w :=
 hl▸A1v rs M' hF hdst hne hob h next
end
section
variable {P:Program} {w:World} {f:FuncId} {fn:Func} {c:Code} {args:Array Value} {R:Ending→World→Prop} {w0:World} {H:List Res}
class Arg (i:Nat) (l:List Value) (M:outParam FM):Prop
instance {i:Nat}:Arg i [] []:=⟨⟩
instance {i:Nat} {x:Value} {l:List Value} {M:FM} [Arg (i+1) l M]:Arg i (x::l) ((i,x)::M):=⟨⟩
theorem feW (hf:P.funcs[f]? = some fn) (N:Nat) (M:FM) (hS:St w0 H w) (h:∀a w1,Fr N [] M a→St w0 H w1→WP P none c (bodyPost P fn R) a w1) (hb:fn.body=some c:=by rfl) (hN:fn.ntmps=N:=by rfl) (hsz:Nat.ble args.size N=true:=by rfl)
  (hM:M.map (fun p=>(args++Array.replicate (N-args.size) undef).getD p.1 undef)=M.map Prod.snd:=by kernel_rfl):Calls P f args w R :=
 Vj hf hb N M hN hsz hM fun a w1 e hF=>h a w1 hF (hS.cast e)
end
section
variable {P:Program} {r:Option Nat} {Q:Exit→Act→World→Prop} {K:Act→World→Prop} {N:Nat} {ds:List Deferred} {M:FM} {a:Act} {w:World}
theorem Av {β:Type} {c:Nat} {x y:Code} {t:Bool} {u v z:β} (hF:Fr N ds M a) (h:(bif t then u else v)=z) (ht:t=true→u=z→WP P r x Q a w) (hf:t=false→v=z→WP P r y Q a w) (hl:lookM M c=some (.bool t):=by rfl):WP P r (.cond (.tmp c) x y) Q a w :=
 Pe hF hl (fun hc=>ht hc (A1e h hc)) (fun hc=>hf hc (A1d h hc))
theorem wK (h:K a w):WP P r .skip (Exit.then K Q) a w:=wpIn_skip (Ae h)
theorem Frz.ext.t {n:Nat} {μ ν ξ:Frz} (h:μ.ext n ν) (k:ν.ext n ξ):μ.ext n ξ:=Frz.ext_trans h k
theorem Frz.le.t {μ ν ξ:Frz} (h:μ.le ν) (k:ν.le ξ):μ.le ξ:=Frz.le_trans h k
end
class Spl (l:List Value) (i:Nat) (us:List Value) (l':outParam (List Value)):Prop
instance {l:List Value}:Spl l 0 [] l:=⟨⟩
instance {x u:Value} {l us l':List Value} [Spl l 0 us l']:Spl (x::l) 0 (u::us) (u::l'):=⟨⟩
instance {x:Value} {l us l':List Value} {i:Nat} [Spl l i us l']:Spl (x::l) (i+1) us (x::l'):=⟨⟩
section
variable {P:Program} {r:Option Nat} {ops:Array Oper} {Q:Exit→Act→World→Prop} {K:Act→World→Prop} {N:Nat} {ds:List Deferred} {M:FM} {a:Act} {w w0:World} {H:List Res} {k:Nat}
theorem qw (t i:Nat) (cs':Array Value) {tt:TypeId} {b:Nat} {cs:Array Value} (hF:Fr N ds M a) (hS:St w0 H w) (hi:H[i]? = some (blk b tt cs)) (next:∀w' a',Fr N ds M a'→St w0 (H.set i (blk b tt cs')) w'→K a' w') (hdst:Al ops N=true:=by kernel_rfl)
  (hs:StoreAt ops k M t (.pointer (some ⟨b,0,none⟩)) (.agg cs'):=by exact ⟨by kernel_rfl⟩) (hsz:pureSem P (sizeOf t)=some (Value.agg cs').cells.size:=by kernel_rfl) (hone:(Value.agg cs').cells.toList.all Value.oneCell'=true:=by kernel_rfl) (hfit:Nat.ble (0+(Value.agg cs').cells.size) cs.size=true:=by kernel_rfl) (hcs:Nm cs 0 (Value.agg cs').cells.toList=cs':=by kernel_rfl)
  (hM:NextM ops k M undef M:=by exact ⟨by kernel_rfl⟩):SK P r ops k K a w:=storeK M i 0 (.agg cs') cs' hF hS hi hdst hs hsz hone hfit hcs hM next
theorem qBa {M':Nat→FM} (t:TypeId) (cs:Array Value) (nw:Nat→FM) (hF:Fr N ds M a) (hS:St w0 H w) (next:∀b w' a',Fr N ds (M' b) a'→St w0 (blk b t cs::H) w'→K a' w') [∀b,Pre (nw b) M (M' b)] (hdst:Al ops N=true:=by kernel_rfl) (hs:EffAt ops k M (Instr.box t (.agg cs)):=by exact ⟨by kernel_rfl⟩)
  (hM:∀b,NextM ops k M (.pointer (some ⟨b,0,none⟩)) (M' b):=by exact fun _=>⟨by kernel_rfl⟩):SK P r ops k K a w:=A20 M' (.agg cs) cs hF hS hdst hs rfl hM next
variable {α:Type} {e sz cap:Nat} {f:α→List Value} {ad:Option Addr} {l l' l3:List α}
def Vm (f:α→List Value) (l:List α):Array (Nat×Value):=(l.zipIdx.map fun p=>(p.2,match f p.1 with|[v]=>v|us=>.agg us.toArray)).toArray
theorem qL (e t len:Nat) (l:List α) (nw:Nat→FM) {M':Nat→FM} (hf:∀x,(f x).length=sz) (hF:Fr N ds M a) (hS:St w0 H w) (next:∀b w' a',Fr N ds (M' b) a'→St w0 (arr e sz f (some ⟨b,0,none⟩) l.length len l::H) w'→K a' w') [∀b,Pre (nw b) M (M' b)] (hdst:Al ops N=true:=by kernel_rfl)
  (hs:EffAt ops k M (Instr.buildSlice t len (Vm f l)):=by exact ⟨by kernel_rfl⟩) (hb:D2 P t len (Vm f l)=some (e,(l.flatMap f).toArray):=by kernel_rfl) (hl:l.length=len:=by rfl) (hn:Nat.ble len 16777216=true:=by kernel_rfl) (hM:∀b,NextM ops k M (.slice (some ⟨b,0,none⟩) len len) (M' b):=by exact fun _=>⟨by kernel_rfl⟩):SK P r ops k K a w :=
 A0e M' (Vm f l) _ l hF hS hdst hs hb hf hl rfl hn hM next
theorem rL_ (e t len:Nat) (l:List α) (M':Nat→FM) (hf:∀x,(f x).length=sz) (hF:Fr N ds M a) (hS:St w0 H w) (next:∀b w' a',Fr N ds (M' b) a'→St w0 (arr e sz f (some ⟨b,0,none⟩) l.length len l::H) w'→K a' w') (hdst:Al ops N=true:=by kernel_rfl)
  (hs:EffAt ops k M (Instr.buildSlice t len (Vm f l)):=by exact ⟨by kernel_rfl⟩) (hb:D2 P t len (Vm f l)=some (e,(l.flatMap f).toArray):=by kernel_rfl) (hl:l.length=len:=by rfl) (hn:Nat.ble len 16777216=true:=by kernel_rfl) (hM:∀b,NextM ops k M (.slice (some ⟨b,0,none⟩) len len) (M' b):=by exact fun _=>⟨by kernel_rfl⟩):SK P r ops k K a w :=
 A0e M' (Vm f l) _ l hF hS hdst hs hb hf hl rfl hn hM next
theorem qP (t ty i:Nat) (nw:Option Addr→Nat→FM) {M':Option Addr→Nat→FM} {bytes scap:Nat} {sad:Option Addr} (hF:Fr N ds M a) (hS:St w0 H w) (hsrc:Arr w sz f sad l'.length scap l') (hap:apd bytes l l'=some l3) (hi:H[i]? = some (arr e sz f ad l.length cap l))
  (next:∀ad2 cap2 w' a',Fr N ds (M' ad2 cap2) a'→St w0 (H.set i (arr e sz f ad2 l3.length cap2 l3)) w'→K a' w') [∀ad2 cap2,Pre (nw ad2 cap2) M (M' ad2 cap2)] (h1:∀x∈l',(f x).all Value.oneCell'=true:=by exact fun _ _=>rfl) (hdst:Al ops N=true:=by kernel_rfl)
  (hs:EffAt ops k M (Builtin.append_ #[t,t] ty #[.slice ad l.length cap,.slice sad l'.length scap]):=by exact ⟨by kernel_rfl⟩) (hty:Ed P t e sz bytes=true:=by kernel_rfl) (hM:∀ad2 cap2,NextM ops k M (.slice ad2 l3.length cap2) (M' ad2 cap2):=by exact fun _ _=>⟨by kernel_rfl⟩):SK P r ops k K a w :=
 A1a M' i hF hS hi hdst hs hty hsrc h1 hap hM next
theorem rP (t ty i:Nat) (M':Option Addr→Nat→FM) {bytes scap:Nat} {sad:Option Addr} (hF:Fr N ds M a) (hS:St w0 H w) (hsrc:Arr w sz f sad l'.length scap l') (hap:apd bytes l l'=some l3) (hi:H[i]? = some (arr e sz f ad l.length cap l))
  (next:∀ad2 cap2 w' a',Fr N ds (M' ad2 cap2) a'→St w0 (H.set i (arr e sz f ad2 l3.length cap2 l3)) w'→K a' w') (h1:∀x∈l',(f x).all Value.oneCell'=true:=by exact fun _ _=>rfl) (hdst:Al ops N=true:=by kernel_rfl)
  (hs:EffAt ops k M (Builtin.append_ #[t,t] ty #[.slice ad l.length cap,.slice sad l'.length scap]):=by exact ⟨by kernel_rfl⟩) (hty:Ed P t e sz bytes=true:=by kernel_rfl) (hM:∀ad2 cap2,NextM ops k M (.slice ad2 l3.length cap2) (M' ad2 cap2):=by exact fun _ _=>⟨by kernel_rfl⟩):SK P r ops k K a w :=
 A1a M' i hF hS hi hdst hs hty hsrc h1 hap hM next
end
section
variable {P:Program} {r:Option Nat} {ops:Array Oper} {Q:Exit→Act→World→Prop} {K:Act→World→Prop} {N:Nat} {ds:List Deferred} {M M':FM} {a:Act} {w:World}
variable {k:Nat} {D:World→Prop} {eff rest:List Nat}
end
end Go.Eng
namespace Go.Eng
open Go Go.RowKit
set_option linter.unusedVariables false
set_option linter.unusedSimpArgs false
section
variable {P:Program} {T:World→World→Prop} {D:World→Prop} {cs:List Cd} {t:Nat} {s r:ByteArray} {lo hi:Int}
end
section
variable {P:Program} {T:World→World→Prop} {D:World→Prop} {cs:List Cd} {α:Type} {n:Nat} {f:α→Value} {b:Nat} {tt:TypeId} {x:Ny α n} {lo hi:Int} {l2:List α} {w:World}
end
end Go.Eng
namespace Go.Eng
open Go Go.RowKit
set_option linter.unusedVariables false
set_option maxRecDepth 10000
def SlM {α:Type} (sz:Nat) (f:α→List Value) (μ:Frz) (v:Value) (l:List α):Prop:=∃ad cap,v=.slice ad l.length cap∧ArrM μ sz f ad cap l
def SlQ {α:Type} (sz:Nat) (R:Rel α) (μ:Frz) (v:Value) (l:List α):Prop:=∃ad cap css,v=.slice ad l.length cap∧ArrQ μ sz R ad cap css l
def MapS {κ ν:Type} (S:Value→ν→Prop) (Bv:List (κ×Value)) (B:List (κ×ν)):Prop:=All2 (fun (p:κ×Value) (q:κ×ν)=>p.1=q.1∧S p.2 q.2) Bv B
def MapM {κ α:Type} (sz:Nat) (f:α→List Value) (μ:Frz) (Bv:List (κ×Value)) (B:List (κ×List α)):Prop:=MapS (SlM sz f μ) Bv B
def MapQ {κ α:Type} (sz:Nat) (R:Rel α) (μ:Frz) (Bv:List (κ×Value)) (B:List (κ×List α)):Prop:=MapS (SlQ sz R μ) Bv B
section
variable {κ ν α:Type} [DecidableEq κ] {S S2:Value→ν→Prop} {Bv:List (κ×Value)} {B:List (κ×ν)} {x:κ} {v:Value} {y:ν} {μ μ':Frz}
theorem MapS.imp (h:MapS S Bv B) (hs:∀v y,S v y→S2 v y):MapS S2 Bv B:=by
 unfold MapS at *
 induction h with
 | nil=>exact .nil
 | cons h _ ih=>exact .cons ⟨h.1,hs _ _ h.2⟩ ih
theorem SlM.mono {sz:Nat} {f:α→List Value} {l:List α} (h:SlM sz f μ v l) (hle:μ.le μ'):SlM sz f μ' v l:=by
 obtain ⟨ad,cap,rfl,h⟩:=h;exact ⟨ad,cap,rfl,h.mono hle⟩
theorem SlQ.mono {sz:Nat} {R:Rel α} {l:List α} (h:SlQ sz R μ v l) (hR:R.Mono) (hle:μ.le μ'):SlQ sz R μ' v l:=by
 obtain ⟨ad,cap,css,rfl,h⟩:=h;exact ⟨ad,cap,css,rfl,h.mono hR hle⟩
theorem MapM.mono {sz:Nat} {f:α→List Value} {B:List (κ×List α)} (h:MapM sz f μ Bv B) (hle:μ.le μ'):MapM sz f μ' Bv B:=MapS.imp h fun _ _ h=>h.mono hle
theorem MapQ.mono {sz:Nat} {R:Rel α} {B:List (κ×List α)} (h:MapQ sz R μ Bv B) (hR:R.Mono) (hle:μ.le μ'):MapQ sz R μ' Bv B:=MapS.imp h fun _ _ h=>h.mono hR hle
end
section
variable {P:Program} {r:Option Nat} {ops:Array Oper} {K:Act→World→Prop} {N:Nat} {ds:List Deferred} {M:List (Nat×Value)} {a:Act} {w0 w w':World} {k:Nat} {H:List Res}
variable {κ ν α:Type} [DecidableEq κ] {kt e t:TypeId} {kf:κ→Value} {vf:ν→Value} {m:Nat} {B:List (κ×ν)} {x:κ} {v d:ν}
end
end Go.Eng
namespace Go.Eng
open Go Go.RowKit
set_option linter.unusedVariables false
set_option linter.unusedSimpArgs false
set_option maxRecDepth 10000
def obSem (ρ:Operand→Value):Op→Option (Sem Value)
 | .binOp .shr t x y _=>some (binOp .shr t (ρ x) (ρ y))
 | .binOp .shl t x y _=>some (binOp .shl t (ρ x) (ρ y))
 | o=>Jo ρ o
theorem Vu {P:Program} {ρ:Operand→Value} {o:Oper} {s:Sem Value} {v:Value} {w:World} (h:obSem ρ o.op=some s) (hr:s.run P w=.ok v w):(execOp ρ o).run P w=.ok (.value v) w:=by
 unfold obSem at h
 split at h
 ·rename_i t x y z hop
  unfold execOp;rw [hop]
  cases h
  simp [hr,eqGuard]
 ·rename_i t x y z hop
  unfold execOp;rw [hop]
  cases h
  simp [hr,eqGuard]
 ·exact (Le h hr).2
structure ObAt (ops:Array Oper) (k:Nat) (M:List (Nat×Value)) (s:Sem Value):Prop where
 eq:((plainAt ops k M).bind fun o=>obSem (rhoE (ofM M)) o.op)=some s
section
variable {P:Program} {r:Option Nat} {ops:Array Oper} {K:Act→World→Prop} {N:Nat} {ds:List Deferred} {M:List (Nat×Value)} {a:Act} {w:World} {k:Nat} {s:Sem Value} {v:Value} {T:World→World→Prop}
theorem obK (M':List (Nat×Value)) (hF:Fr N ds M a) (hdst:Al ops N=true) (hs:ObAt ops k M s) (ho:Ob.ok P T (fun w'=>w'=w) (.run [] s v)) (hM:NextM ops k M v M') (next:∀a',Fr N ds M' a'→K a' w):SK P r ops k K a w:=by
 have hs:=hs.eq
 cases hp:plainAt ops k M with
 | none=>rw [hp] at hs;simp at hs
 | some o =>
  rw [hp] at hs;exact A1t hF hdst hp (Vu hs (ho rfl w rfl)) hM next
end
section
variable {P:Program} {T:World→World→Prop} {D:World→Prop} {cs:List Cd} {α:Type} {n:Nat} {f:α→Value} {x:Ny α n} {i:Int} {u:α}
end
end Go.Eng
namespace Go.Eng
open Go Go.RowKit
set_option linter.unusedVariables false
set_option linter.unusedSimpArgs false
def TabM (P:Program) (name:String) (k:IntKind) (zs:List Int) (μ:Frz):Prop:=∀w,FrzAt μ w→Lib.TabIs P w name k zs
theorem TabM.mono {P:Program} {name:String} {k:IntKind} {zs:List Int} {μ ν:Frz} (h:TabM P name k zs μ) (hle:μ.le ν):TabM P name k zs ν:=fun w hw=>h w (hw.low hle)
section
variable {P:Program} (w:World)
end
end Go.Eng
namespace Go.Eng
open Go Go.RowKit
section
variable {F:Fence} {n:Nat} {P:Program} {Q:Exit→Act→World→Prop} {a:Act} {w:World}
end
end Go.Eng
namespace Go.Eng
open Go Go.RowKit
open Go.ChangeMaps (setBlock)
set_option linter.unusedVariables false
section
variable {P:Program} {w w0 w':World} {H:List Res} {κ ν:Type} {kf:κ→Value} {vf:ν→Value} {m i:Nat} {B:List (κ×ν)} {bs:List Nat} {c:Nat}
end
section
variable {P:Program} {r:Option Nat} {ops:Array Oper} {K:Act→World→Prop} {N:Nat} {ds:List Deferred} {M M':List (Nat×Value)} {a:Act} {w0 w w':World} {k:Nat} {H:List Res} {κ ν:Type} [DecidableEq κ] {kt e t:TypeId} {kf:κ→Value} {vf:ν→Value} {m:Nat} {B:List (κ×ν)} {bs:List Nat} {c:Nat}
end
section
variable {P:Program} {r:Option Nat} {ops:Array Oper} {Q:Exit→Act→World→Prop} {N:Nat} {ds:List Deferred} {M:List (Nat×Value)} {a:Act} {w:World} {obs:List Ob}
end
section
variable {P:Program} {r:Option Nat} {ops:Array Oper} {K:Act→World→Prop} {N k:Nat} {ds:List Deferred} {M:List (Nat×Value)} {a:Act} {w w0:World} {H:List Res} {α:Type} {e sz:Nat}
end
section
variable {P:Program} {r:Option Nat} {ops:Array Oper} {Q:Exit→Act→World→Prop} {N:Nat} {ds:List Deferred} {M M':List (Nat×Value)} {a:Act} {w:World} {obs:List Ob}
end
end Go.Eng
namespace Go.Eng
open Go Go.RowKit
set_option linter.unusedVariables false
section
variable {P:Program} {r:Option Nat} {ops:Array Oper} {K:Act→World→Prop} {N:Nat} {ds:List Deferred} {M M':List (Nat×Value)} {a:Act} {w0 w w':World} {k:Nat} {H:List Res} {α:Type} {e sz cap:Nat} {f:α→List Value} {ad:Option Addr} {l:List α}
end
end Go.Eng
namespace Go.Eng
open Go Go.RowKit
set_option linter.unusedVariables false
section
variable {P:Program} {r:Option Nat} {ops:Array Oper} {K:Act→World→Prop} {N:Nat} {ds:List Deferred} {M M':List (Nat×Value)} {a:Act} {w0 w w':World} {k:Nat} {H:List Res} {α:Type} {e sz cap bytes:Nat} {f:α→List Value} {ad:Option Addr} {l:List α} {μ:Frz}
end
end Go.Eng
namespace Go.Eng
open Go Go.RowKit
set_option linter.unusedVariables false
section
variable {P:Program} {r:Option Nat} {ops:Array Oper} {Q:Exit→Act→World→Prop} {K:Act→World→Prop} {D:World→Prop} {N:Nat} {eff:List Nat}
end
end Go.Eng
namespace Go.Eng
open Go Go.RowKit
set_option linter.unusedVariables false
section
variable {P:Program} {r:Option Nat} {ops:Array Oper} {Q:Exit→Act→World→Prop} {N:Nat} {B:List PanicEntry→World→Prop}
end
section
variable {P:Program} {r:Option Nat} {ops:Array Oper} {Q:Exit→Act→World→Prop} {K:Act→World→Prop} {D:World→Prop} {N:Nat} {eff:List Nat} {B:List PanicEntry→World→Prop}
end
section
variable {P:Program} {r:Option Nat} {ops:Array Oper} {K:Act→World→Prop} {N:Nat} {ds:List Deferred} {M M':FM} {a:Act} {w:World} {k:Nat} {D:World→Prop} {eff rest:List Nat}
end
end Go.Eng
