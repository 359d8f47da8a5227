import Derived.Test.YtkjnafecmjakcaaGreatDoorS10XD
import Derived.Test.YtkjnafecmjakcaaGreatDoorS10WnG
import Derived.Test.YtkjnafecmjakcaaGreatDoorS10WnM
import Derived.WalkKit
import Derived.WalkMore
import Derived.BigQuiet
import Derived.Laws.Externs
import Derived.Lib.Builder
import Derived.Lib.AppendIntMem
namespace Go.Proofs.YtkjnafecmjakcaaGreatDoor
open Go Go.RowKit Go.Eng Go.Shelf
set_option linter.unusedVariables false
set_option linter.unusedSimpArgs false
set_option maxHeartbeats 4000000
set_option maxRecDepth 100000
theorem Nw (p0:ByteArray) (p1 res:Int) (h:C4 p0 p1=res) (μ:Frz) (w0:World) (hm:FrzAt μ w0):Calls Tryz.prog 161 #[.string p0,.int .u8 p1] w0 (λe w=>e=.returned (.int .i64 res)/\Ext w0 w):=by
 subst h;unfold C4;have hr:=Lib.run_indexByteString (P:=Tryz.prog) p0 p1 w0;generalize Lib.indexByte p0.data.toList p1.toNat.toUInt8=R at *;have h67:Calls Tryz.prog 174 #[.string p0,.int .u8 p1] w0 (λe w'=>e=.returned (.int .i64 R)/\w'=w0):=by
  go_enter Tryz.func174,Tryz.ntmps174
  go_wp2
  rw [run_callFunc_extern Tryz.func182 (by kernel_rfl) (by kernel_rfl) (by kernel_rfl) (e:=Extern.BytealgIndexByte.indexByte) (by kernel_rfl),hr];simp only [Result.andThen];rw [Oper.upon_value]
  go_wp2
  go_ret
  exact ⟨rfl,rfl⟩
 go_enter Tryz.func161,Tryz.ntmps161
 go_wp2_with (go_at_call 174;refine h67.mono ?_;rintro e w' ⟨rfl,hw⟩;rw [hw])
 go_ret
 exact ⟨rfl,Ext.refl _⟩
theorem B7 (F:Nat) (p0 p1:ByteArray) (res:Bool) (h:Bb F p0 p1=some res) (μ:Frz) (w0:World) (hm:FrzAt μ w0):Calls Tryz.prog 114 #[.string p0,.string p1] w0 (λe w=>e=.returned (.bool res)/\Ext w0 w):=by
 unfold Bb at h
 split at h
 ·rename_i c hc
  cases h
  have e:p1=⟨#[c]⟩:=by
   cases p1;rename_i d
   simp only at hc;rw [ByteArray.mk.injEq];exact Array.toList_inj.1 hc
  subst e;refine (Any.strings_Contains_one Tryz.laysHas p0 c w0).mono ?_;rintro e w ⟨rfl,rfl⟩;exact ⟨rfl,Ext.refl _⟩
 ·cases h
theorem Sh (F:Nat) (p0:Int) (res:ByteArray) (h:strconv_Itoa F p0=some res) (μ:Frz) (w0:World) (hm:FrzAt μ w0) (hG:GlM μ):Calls Tryz.prog 91 #[.int .i64 p0] w0 (λe w=>e=.returned (.string res)/\Ext w0 w):=by
 unfold strconv_Itoa at h
 split at h
 ·rename_i hc
  cases h
  refine (Any.strconv_Itoa Tryz.laysItoa p0 hc.1 hc.2 w0 (hG w0 hm)).mono ?_;rintro e w ⟨rfl,k,os,rfl⟩;exact ⟨rfl,Lib.below_grow _ w0 (Nat.le_refl _) k os⟩
 ·cases h
theorem B12 (b:Nat) (w:World) (h0:w.cell? ⟨b,0,none⟩=some (.pointer (some ⟨b,0,none⟩))):Calls Tryz.prog 89 #[.pointer (some ⟨b,0,none⟩)] w λe w'=>e=.returned (.tuple #[])/\w'=w:=by
 have hsz:(Tryz.prog.info? 114).map (·.size)=some 2:=by kernel_rfl
 obtain ⟨j,hj,_⟩:=Option.map_eq_some_iff.1 hsz
 go_enter Tryz.func89,Tryz.ntmps89
 go_wp2
 rw [Lib.run_neq_ptr_same w _ Tryz.underlying112 hj]
 go_wp2
 go_end0
 exact ⟨rfl,rfl⟩
theorem A8l (b:Nat) (w:World) (h0:w.cell? ⟨b,0,none⟩=some (.pointer none)) (hsh:w.shape? b=some (114,2)) (hfz:w.frozen? ⟨b,0,none⟩=false) :
  Calls Tryz.prog 89 #[.pointer (some ⟨b,0,none⟩)] w λe w'=>e=.returned (.tuple #[])/\w'=w.setCell ⟨b,0,none⟩ (.pointer (some ⟨b,0,none⟩)):=by
 have hsz:(Tryz.prog.info? 114).map (·.size)=some 2:=by kernel_rfl
 obtain ⟨j,hj,hjs⟩:=Option.map_eq_some_iff.1 hsz
 go_enter Tryz.func89,Tryz.ntmps89
 go_wp2
 rw [Lib.run_to_unsafe w ⟨b,0,none⟩ Tryz.underlying112 Tryz.underlying197 hj (by rw [hjs];decide) hsh (Nat.zero_lt_succ 1)];simp only [Result.andThen];rw [Oper.upon_value]
 go_wp2
 rw [run_callFunc_extern Tryz.func127 (by kernel_rfl) (by kernel_rfl) (by kernel_rfl) (e:=Extern.AbiNoEscape.same) (by kernel_rfl)];rw [Lib.run_noEscape];simp only [Result.andThen];rw [Oper.upon_value]
 go_wp2
 rw [Lib.run_from_unsafe w ⟨b,0,none⟩ Tryz.underlying197 Tryz.underlying112 hj hsh (by kernel_rfl)];simp only [Result.andThen];rw [Oper.upon_value]
 go_wp2
 go_end0
 exact ⟨rfl,rfl⟩
theorem A39 (F:Nat) (p0 res:Bool×List Int) (h:A2j F p0=some res) (μ:Frz) (w0 w1:World) (T_:List Res) (hlow:Ar w0 μ) {ad:Option Addr} {cap cb0:Nat}
  (hS:St w0 (Jv w0.heap.size μ::blk cb0 114 #[.pointer (Sn cb0 p0.1),.slice ad p0.2.length cap]::arrT 5 1 (fK .u8) ad p0.2.length cap p0.2::T_) w1) :
  Xx Tryz.prog 89 #[.pointer (some ⟨cb0,0,none⟩)] w1 (λe w=>∃(ν_:Frz) (ad2:Option Addr) (cap2:Nat),μ.ext w0.heap.size ν_/\Ar w0 ν_/\e=(.tuple #[])/\St w0 (Jv w0.heap.size ν_::blk cb0 114 #[.pointer (Sn cb0 res.1),.slice ad2 res.2.length cap2]::arrT 5 1 (fK .u8) ad2 res.2.length cap2 res.2::T_) w):=by
 obtain ⟨u,l⟩:=p0;have h:=Option.some.inj (show some (true,l)=some res from h);subst h;have hb:w1.heap[cb0]? = some (.cells #[.pointer (Sn cb0 u),.slice ad l.length cap] 114 (0,0)):=hS.blk (i:=1) rfl;have c0:w1.cell? ⟨cb0,0,none⟩=some (.pointer (Sn cb0 u)):=by rw [Lib.cell_of_heap hb];rfl
 cases u with
 | true =>
  refine Calls.mono (B12 cb0 w1 c0) ?_;rintro e w ⟨rfl,rfl⟩;exact ⟨_,rfl,μ,ad,cap,Frz.ext_refl _ _,hlow,rfl,hS⟩
 | false =>
  refine Calls.mono (A8l cb0 w1 c0 (by simp [World.shape?,hb]) (Lib.frozen_of_heap hb 0)) ?_;rintro e w ⟨rfl,rfl⟩;refine ⟨_,rfl,μ,ad,cap,Frz.ext_refl _ _,hlow,rfl,?_⟩;refine hS.upd (i:=1) (R:=blk cb0 114 #[.pointer (Sn cb0 false),.slice ad l.length cap]) (R':=blk cb0 114 #[.pointer (Sn cb0 true),.slice ad l.length cap]) rfl rfl rfl rfl (by simp [World.setCell]) (λk _ hk=>Below.heap_setCell _ _ _ _ hk) ?_ (λk hk=>.inl hk);show (w1.setCell ⟨cb0,0,none⟩ (.pointer (some ⟨cb0,0,none⟩))).heap[cb0]? = _;simp [World.setCell,Array.getElem?_modify,hb,Sn]
theorem B3c (b:Nat) (ad q:Option Addr) (n cap:Nat) (R:ByteArray) (w w2 w3:World) (hSD:(Builtin.unsafeSliceData_ #[41] 170 #[.slice ad n cap]).run Tryz.prog w.drew=.ok (.pointer q) w2)
  (hUS:(Builtin.unsafeString_ #[170,3] 9 #[.pointer q,.int .i64 (n:Int)]).run Tryz.prog w2=.ok (.string R) w3)
  (c1:w.drew.cell? ⟨b,1,none⟩=some (.slice ad n cap)) (c2:w2.cell? ⟨b,1,none⟩=some (.slice ad n cap)) :
  Calls Tryz.prog 52 #[.pointer (some ⟨b,0,none⟩)] w λe w'=>e=.returned (.string R)/\w'=w3:=by
 go_enter Tryz.func52,Tryz.ntmps52
 go_wp2
 go_region
 all_goals (go_wp2;go_ret;exact ⟨rfl,rfl⟩)
theorem B2b {w0 w w':World} {μ:Frz} {b:Nat} {cs:Array Value} {ad:Option Addr} {n cap:Nat} {l:List Int} {T_:List Res} (hS:St w0 (Jv w0.heap.size μ::blk b 114 cs::arrT 5 1 (fK .u8) ad n cap l::T_) w) (hos:w'.os=w.os) (htp:w'.tape=w.tape) (hout:w'.output=w.output) (hsz:w.heap.size<=w'.heap.size)
  (hh:∀k,k<w.heap.size->(∀off,ad≠some ⟨k,off,none⟩)->w'.heap[k]? = w.heap[k]?):St w0 (Jv w0.heap.size μ::T_) w':=by
 have h2:=hS.upd (i:=2) (R:=arrT 5 1 (fK .u8) ad n cap l) (R':=Res.none) (w':=w') rfl hos htp hout hsz (λk hk hnk=>hh k hk λoff e=>hnk ⟨off,e⟩) trivial (λk hk=>hk.elim);exact h2.sub (by
  show List.Sublist (Jv w0.heap.size μ::T_) (Jv w0.heap.size μ::blk b 114 cs::Res.none::T_);exact .cons_cons _ (.cons _ (.cons _ (List.Sublist.refl _))))
theorem Zn (F:Nat) (p0:Bool×List Int) (res:ByteArray) (h:Xp F p0=some res) (μ:Frz) (w0 w1:World) (T_:List Res) (hlow:Ar w0 μ) {ad:Option Addr} {cap cb0:Nat}
  (hS:St w0 (Jv w0.heap.size μ::blk cb0 114 #[.pointer (Sn cb0 p0.1),.slice ad p0.2.length cap]::arrT 5 1 (fK .u8) ad p0.2.length cap p0.2::T_) w1) :
  Xx Tryz.prog 52 #[.pointer (some ⟨cb0,0,none⟩)] w1 (λe w=>∃(ν_:Frz),μ.ext w0.heap.size ν_/\Ar w0 ν_/\e=(.string res)/\St w0 (Jv w0.heap.size ν_::T_) w):=by
 obtain ⟨u,l⟩:=p0;have h:=Option.some.inj (show some (bst l)=some res from h);subst h;have hb:w1.heap[cb0]? = some (.cells #[.pointer (Sn cb0 u),.slice ad l.length cap] 114 (0,0)):=hS.blk (i:=1) rfl;have hlt:cb0<w1.heap.size:=(Array.getElem?_eq_some_iff.1 hb).1;have hbd:w1.drew.heap[cb0]? = some (.cells #[.pointer (Sn cb0 u),.slice ad l.length cap] 114 (0,0)):=hb;have c1:w1.drew.cell? ⟨cb0,1,none⟩=some (.slice ad l.length cap):=by rw [Lib.cell_of_heap hbd];rfl
 have hA:(arrT 5 1 (fK .u8) ad l.length cap l).holds w1:=hS.holds _ (by simp);have fin:∀(q:Option Addr) (w2 w3:World),(Builtin.unsafeSliceData_ #[41] 170 #[.slice ad l.length cap]).run Tryz.prog w1.drew=.ok (.pointer q) w2->(Builtin.unsafeString_ #[170,3] 9 #[.pointer q,.int .i64 (l.length:Int)]).run Tryz.prog w2=.ok (.string (bst l)) w3 ->
   w2.cell? ⟨cb0,1,none⟩=some (.slice ad l.length cap)->w3.os=w1.os->w3.tape=w1.tape->w3.output=w1.output->w1.heap.size<=w3.heap.size->(∀k,k<w1.heap.size->(∀off,ad≠some ⟨k,off,none⟩)->w3.heap[k]? = w1.heap[k]?) ->
   Xx Tryz.prog 52 #[.pointer (some ⟨cb0,0,none⟩)] w1 (λe w=>∃(ν_:Frz),μ.ext w0.heap.size ν_/\Ar w0 ν_/\e=(.string (bst l))/\St w0 (Jv w0.heap.size ν_::T_) w):=by
  intro q w2 w3 h1 h2 h3 e1 e2 e3 e4 e5;refine Calls.mono (B3c cb0 ad q l.length cap (bst l) w1 w2 w3 h1 h2 c1 h3) ?_;rintro e w ⟨rfl,rfl⟩;exact ⟨_,rfl,μ,Frz.ext_refl _ _,hlow,rfl,B2b hS e1 e2 e3 e4 e5⟩
 obtain ⟨_,hl2,hc⟩:=hA;rcases hc with ⟨rfl,h0,rfl⟩|⟨g,off,cur,fz,rfl,hg,hfz,hnc,hcm,hcs,htake⟩
 ·obtain rfl:=List.eq_nil_of_length_eq_zero h0;exact fin none w1.drew w1.drew rfl (Lib.run_unsafeString_none w1.drew _ _ _ none) c1 rfl rfl rfl (Nat.le_refl _) λ_ _ _=>rfl
 ·have hgd:w1.drew.heap[g]? = some (.cells cur 5 fz):=hg
  by_cases hl:l=[]
  ·subst hl
   by_cases hc0:cap=0
   ·subst hc0;have hsh:w1.drew.shape? g=some (5,cur.size):=by simp [World.shape?,hgd]
    have hnew:∀k,k<w1.heap.size->(w1.drew.alloc (.view ⟨g,off,none⟩ 5)).heap[k]? = w1.heap[k]?:=λk hk=>A3e w1.drew _ k hk;refine fin _ _ _ (Lib.run_unsafeSliceData_zero w1.drew _ _ 5 Tryz.underlying170 ⟨g,off,none⟩ 0 (5,cur.size) hsh) (Lib.run_unsafeString_none _ _ _ _ _) ?_ rfl rfl rfl ?_ λk hk _=>hnew k hk
    ·have:(w1.drew.alloc (.view ⟨g,off,none⟩ 5)).heap[cb0]? = _:=(hnew cb0 hlt).trans hb;rw [Lib.cell_of_heap this];rfl
    ·show w1.heap.size<=(w1.heap.push _).size;simp
   ·exact fin _ w1.drew w1.drew (Lib.run_unsafeSliceData_row _ _ _ _ _ _ hc0) (Lib.run_unsafeString_none w1.drew _ _ _ _) c1 rfl rfl rfl (Nat.le_refl _) λ_ _ _=>rfl
  ·have hpos:0<l.length:=List.length_pos_iff.2 hl;have hmx:l.length<=9223372036854775807:=by unfold maxLen at hcm;omega
   have hsz:off+l.length<=cur.size:=by rw [Nat.mul_one] at hcs;omega
   have hus:=Zf (P:=Tryz.prog) w1.drew 170 3 9 5 Tryz.underlying170 (by kernel_rfl) g off cur.size (by simp [World.shape?,hgd]) l hl hsz hmx (λj x hx=>by
    have hadd:(⟨g,off,none⟩:Addr).add j=⟨g,off+j,none⟩:=by unfold Addr.add;split<;>simp_all
    rw [hadd];have h1:(l.flatMap (fK .u8))[j]? = some (.int .u8 x):=by
     show (l.flatMap λx=>[Value.int .u8 x])[j]? = _;rw [A6l,List.getElem?_map,hx];rfl
    rw [←htake,List.getElem?_take] at h1
    split at h1
    ·rw [List.getElem?_drop] at h1;simp only [World.cell?,hgd]
     simpa using h1
    ·cases h1)
   have hfr:∀k,k≠g->(w1.drew.freeze ⟨g,off,none⟩ l.length).heap[k]? = w1.heap[k]?:=λk hk=>by
    unfold World.freeze
    split
    ·rfl
    ·simp only [Array.getElem?_modify];rw [if_neg (λe=>hk e.symm)];rfl
   have hfs:w1.heap.size<=(w1.drew.freeze ⟨g,off,none⟩ l.length).heap.size:=by
    unfold World.freeze
    split
    ·exact Nat.le_refl _
    ·rw [Array.size_modify];exact Nat.le_refl _
   refine fin _ w1.drew _ (Lib.run_unsafeSliceData_row _ _ _ _ _ _ (by omega)) hus c1 ?_ ?_ ?_ hfs λk _ hk=>hfr k λe=>hk off (by rw [e])
   all_goals (unfold World.freeze;split<;>rfl)
end Go.Proofs.YtkjnafecmjakcaaGreatDoor
