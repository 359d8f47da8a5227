import Derived.Test.YtjfhcbjhjeklbaaGreatT3XV
import Derived.Test.YtjfhcbjhjeklbaaGreatT3WvL
import Derived.Lib.BytesEntry
import Derived.Lib.SlKept
import Derived.WalkKit
set_option linter.unusedVariables false
set_option linter.unusedSimpArgs false
set_option linter.unusedSectionVars false
namespace Go.Proofs.YtjfhcbjhjeklbaaGreat
open Go Go.RowKit Go.Eng Go.Sort Go.Shelf Go.Lib
set_option linter.unusedVariables false
set_option maxHeartbeats 4000000
set_option maxRecDepth 100000
theorem Y5:∀a b:List Int,(∀x∈a,0<=x/\x<256)->(∀x∈b,0<=x/\x<256)->compareBytes (bytesOf a) (bytesOf b)=Le a b
 | [],[],_,_=>rfl
 | [],_::_,_,_=>rfl
 | _::_,[],_,_=>rfl
 | x::a,y::b,ha,hb=>by
  have ih:=Y5 a b (λz hz=>ha z (List.mem_cons_of_mem _ hz)) (λz hz=>hb z (List.mem_cons_of_mem _ hz));have hx:=ha x List.mem_cons_self;have hy:=hb y List.mem_cons_self;have key:∀u v:Int,0<=u/\u<256->0<=v/\v<256->((u.toNat.toUInt8<v.toNat.toUInt8)↔u<v):=by
   intro u v hu hv;rw [UInt8.lt_iff_toNat_lt];simp only [Nat.toUInt8,UInt8.toNat_ofNat'];omega
  show compareBytes (x.toNat.toUInt8::bytesOf a) (y.toNat.toUInt8::bytesOf b)=_;unfold compareBytes Le;rw [ih];have k1:=key x y hx hy;have k2:=key y x hy hx
  by_cases h1:x<y
  ·rw [if_pos h1,if_pos (k1.2 h1)]
  ·rw [if_neg h1,if_neg (λh=>h1 (k1.1 h))]
   by_cases h2:y<x
   ·rw [if_pos h2,if_pos (k2.2 h2)]
   ·rw [if_neg h2,if_neg (λh=>h2 (k2.1 h))]
theorem A5v {w:World} {ad:Option Addr} {n cap:Nat} {l:List Int} (h:Arr w 1 (fK .u8) ad n cap l):(Extern.Bytes.bytesOf (.slice ad l.length cap)).run Tryz.prog w=.ok ⟨(bytesOf l).toArray⟩ w:=by
 obtain ⟨hn,ad',cap',he,_,_,_,hc⟩:=h
 cases he
 cases ad with
 | none =>
  have hl:l=[]:=by
   rcases Nat.eq_zero_or_pos n with h0|h0
   ·exact List.eq_nil_of_length_eq_zero (by omega)
   ·obtain ⟨a,ha,_⟩:=hc h0;cases ha
  subst hl;rfl
 | some a =>
  have:=run_loadBytesX (P:=Tryz.prog) w l a .empty (λj x hj=>by
   have hj':j<l.length:=(List.getElem?_eq_some_iff.1 hj).1;obtain ⟨b,hb,_,h⟩:=hc (by omega)
   cases hb
   refine h j _ ?_;show (l.flatMap λx=>[Value.int .u8 x])[j]? = _;rw [A5g,List.getElem?_map,hj];rfl)
  rw [show (⟨ByteArray.empty.data++(bytesOf l).toArray⟩:ByteArray)=⟨(bytesOf l).toArray⟩ from by
   apply ByteArray.ext;show (#[]:Array UInt8)++(bytesOf l).toArray=(bytesOf l).toArray;simp] at this
  exact this
theorem B1j {w:World} {ad ad':Option Addr} {cap cap':Nat} {l l':List Int} (h:Arr w 1 (fK .u8) ad l.length cap l) (h':Arr w 1 (fK .u8) ad' l'.length cap' l') :
  (Extern.BytealgCompare.compare #[.slice ad l.length cap,.slice ad' l'.length cap']).run Tryz.prog w=.ok (.int .i64 (compareBytes (bytesOf l) (bytesOf l'))) w:=by
 change Sem.run Tryz.prog (do pure (goInt (Extern.BytealgCompare.cmp (←Extern.Bytes.bytesOf (.slice ad l.length cap)) (←Extern.Bytes.bytesOf (.slice ad' l'.length cap'))))) w=_
 simp only [Sem.run_bind,Sem.run_pure,A5v h,A5v h',Result.andThen];rw [cmp_eq];rfl
theorem Xd {w:World} {ad ad':Option Addr} {cap cap':Nat} {l l':List Int} (h:Arr w 1 (fK .u8) ad l.length cap l) (h':Arr w 1 (fK .u8) ad' l'.length cap' l') :
  Calls Tryz.prog 24 #[.slice ad l.length cap,.slice ad' l'.length cap'] w λe w'=>e=.returned (.int .i64 (compareBytes (bytesOf l) (bytesOf l')))/\w'=w:=by
 have hr:=B1j h h'
 clear h h'
 generalize compareBytes (bytesOf l) (bytesOf l')=R at *;generalize l.length=n at *;generalize l'.length=n' at *
 go_enter Tryz.func24,Tryz.ntmps24
 go_wp2
 rw [run_callFunc_extern Tryz.func59 (by kernel_rfl) (by kernel_rfl) (by kernel_rfl) (e:=Extern.BytealgCompare.compare) (by kernel_rfl),hr];simp only [Result.andThen];rw [Oper.upon_value]
 go_wp2
 go_ret
 exact ⟨rfl,rfl⟩
theorem Zb {w:World} {ad ad':Option Addr} {cap cap':Nat} {l l':List Int} (h:Arr w 1 (fK .u8) ad l.length cap l) (h':Arr w 1 (fK .u8) ad' l'.length cap' l') :
  Calls Tryz.prog 27 #[.slice ad l.length cap,.slice ad' l'.length cap'] w λe w'=>e=.returned (.bool (sEq (bst l) (bst l')))/\w'=w:=by
 have h1:(convert 24 9 (.slice ad l.length cap)).run Tryz.prog w=.ok (.string (bst l)) w:=Yv (P:=Tryz.prog) (T:=Ext) (D:=(·=w)) (cs:=[]) (by kernel_rfl) (by kernel_rfl) (λ_ e=>by subst e;exact h) rfl w rfl;have h2:(convert 24 9 (.slice ad' l'.length cap')).run Tryz.prog w=.ok (.string (bst l')) w:=Yv (P:=Tryz.prog) (T:=Ext) (D:=(·=w)) (cs:=[]) (by kernel_rfl) (by kernel_rfl) (λ_ e=>by subst e;exact h') rfl w rfl
 clear h h'
 rw [←Q3];generalize bst l=R at *;generalize bst l'=R' at *;generalize l.length=n at *;generalize l'.length=n' at *
 go_enter Tryz.func27,Tryz.ntmps27
 go_wp2
 go_ret
 exact ⟨rfl,rfl⟩
abbrev EnA (μ:Frz):={p:List Value×volume_entry // Rp86 μ p.1 p.2/\enB p.2}
instance (μ:Frz):Inhabited (EnA μ):=⟨⟨([.int .i64 0,.slice none 0 0],⟨0,[]⟩),⟨none,0,rfl,ArrM.nil⟩,by decide⟩⟩
def Gm {μ:Frz} (x:EnA μ):List Value:=fN 2 x.val.1
theorem Li {μ:Frz} (x:EnA μ):(Gm x).length=2:=C1 _ _
theorem Nl {μ:Frz} (x:EnA μ):∃ad cap,Gm x=[.int .i64 x.val.2.time,.slice ad x.val.2.block.length cap]/\ArrM μ 1 (fK .u8) ad cap x.val.2.block:=by
 obtain ⟨ad,cap,hc,hA⟩:=x.property.1;exact ⟨ad,cap,by unfold Gm;rw [hc];rfl,hA⟩
theorem B5b {μ:Frz} (x y:EnA μ) (W:World) (hm:FrzAt μ W):Calls Tryz.prog 23 #[.agg (Gm x).toArray,.agg (Gm y).toArray] W λe w'=>e=.returned (.int .i64 (Dk x.val.2 y.val.2))/\∃q os',w'=grow (W.drewN q) os':=by
 have hx:=x.property.2;have hy:=y.property.2;obtain ⟨ad,cap,e1,hA⟩:=Nl x;obtain ⟨ad',cap',e2,hA'⟩:=Nl y;rw [e1,e2];have hcb:=Y5 _ _ hx.2 hy.2;have hcall:∀W',FrzAt μ W'->Calls Tryz.prog 24 #[.slice ad x.val.2.block.length cap,.slice ad' y.val.2.block.length cap'] W' λe w'=>e=.returned (.int .i64 (Le x.val.2.block y.val.2.block))/\w'=W':=λW' h=>by
  rw [←hcb];exact Xd (hA W' h) (hA' W' h)
 have hw:IntKind.i64.wrap (x.val.2.time-y.val.2.time)=x.val.2.time-y.val.2.time:=Go.Eng.wrap64 (by have:=hx.1;have:=hy.1;omega);have hal:∀W' (o:Obj),FrzAt μ W'->FrzAt μ (W'.alloc o):=λW' o h b ob hb=>by
  have:=h b ob hb;have hlt:=(Array.getElem?_eq_some_iff.1 this).1;simp only [World.alloc,Array.getElem?_push,Nat.ne_of_lt hlt,if_false];exact this
 unfold Dk
 clear e1 e2 hA hA' hcb hx hy
 generalize x.val.2.block.length=n at *;generalize y.val.2.block.length=n' at *;generalize Le x.val.2.block y.val.2.block=R at *;generalize x.val.2.time=t at *;generalize y.val.2.time=t' at *;have h2:=hcall _ (hal _ (.cells #[.int .i64 t',.slice ad' n' cap'] 86) (hal _ (.cells #[.int .i64 t,.slice ad n cap] 86) hm))
 clear hcall hal hm
 by_cases ht:t=t'
 ·subst ht;rw [if_pos rfl]
  go_enter Tryz.func23,Tryz.ntmps23
  go_wp2_with fail
  refine h2.mono ?_;rintro e w' ⟨rfl,rfl⟩
  go_wp2
  go_ret
  exact ⟨rfl,0,_,by rw [alloc_eq_grow,alloc_eq_grow,grow_grow];rfl⟩
 ·rw [if_neg ht]
  go_enter Tryz.func23,Tryz.ntmps23
  go_wp2
  go_ret
  exact ⟨rfl,0,_,by rw [alloc_eq_grow,alloc_eq_grow,grow_grow];rfl⟩
theorem B5h {μ:Frz} (x y:EnA μ) (W:World) (hm:FrzAt μ W):Calls Tryz.prog 26 #[.agg (Gm x).toArray,.agg (Gm y).toArray] W λe w'=>e=.returned (.bool (sEq (bst x.val.2.block) (bst y.val.2.block)))/\∃q os',w'=grow (W.drewN q) os':=by
 obtain ⟨ad,cap,e1,hA⟩:=Nl x;obtain ⟨ad',cap',e2,hA'⟩:=Nl y;rw [e1,e2];have hcall:∀W',FrzAt μ W'->Calls Tryz.prog 27 #[.slice ad x.val.2.block.length cap,.slice ad' y.val.2.block.length cap'] W' λe w'=>e=.returned (.bool (sEq (bst x.val.2.block) (bst y.val.2.block)))/\w'=W':=λW' h=>Zb (hA W' h) (hA' W' h);have hal:∀W' (o:Obj),FrzAt μ W'->FrzAt μ (W'.alloc o):=λW' o h b ob hb=>by
  have:=h b ob hb;have hlt:=(Array.getElem?_eq_some_iff.1 this).1;simp only [World.alloc,Array.getElem?_push,Nat.ne_of_lt hlt,if_false];exact this
 clear e1 e2 hA hA'
 generalize sEq (bst x.val.2.block) (bst y.val.2.block)=R at *;generalize x.val.2.block.length=n at *;generalize y.val.2.block.length=n' at *;generalize x.val.2.time=t at *;generalize y.val.2.time=t' at *;have h2:=hcall _ (hal _ (.cells #[.int .i64 t',.slice ad' n' cap'] 86) (hal _ (.cells #[.int .i64 t,.slice ad n cap] 86) hm))
 clear hcall hal hm
 go_enter Tryz.func26,Tryz.ntmps26
 go_wp2_with fail
 refine h2.mono ?_;rintro e w' ⟨rfl,rfl⟩
 go_wp2
 go_ret
 exact ⟨rfl,0,_,by rw [alloc_eq_grow,alloc_eq_grow,grow_grow];rfl⟩
end Go.Proofs.YtjfhcbjhjeklbaaGreat
