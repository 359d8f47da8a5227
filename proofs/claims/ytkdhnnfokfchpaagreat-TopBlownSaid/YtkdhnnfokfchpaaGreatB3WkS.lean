import Derived.Test.YtkdhnnfokfchpaaGreatB3XD
import Derived.Test.YtkdhnnfokfchpaaGreatB3WkL
import Derived.WalkKit
set_option linter.unusedVariables false
set_option linter.unusedSimpArgs false
set_option linter.unusedSectionVars false
namespace Go.Proofs.YtkdhnnfokfchpaaGreat
open Go Go.RowKit Go.Eng Go.Sort Go.Shelf Go.Lib
set_option linter.unusedVariables false
set_option maxHeartbeats 4000000
set_option maxRecDepth 100000
abbrev SpB:={s:api_Span // spB s}
def Ut (s:SpB):List Value:=s.val.cells
theorem A8h (x y:SpB) (W:World):Calls Tryz.prog 59 #[.agg (Ut x).toArray,.agg (Ut y).toArray] W λe w'=>e=.returned (.int .i64 (Lm x y))/\∃q os',w'=grow (W.drewN q) os':=by
 have hx:=x.property;have hy:=y.property;unfold spB at hx hy;have hw:IntKind.i64.wrap (x.val.Lo-y.val.Lo)=x.val.Lo-y.val.Lo:=Go.Eng.wrap64 (by omega);show Calls Tryz.prog 59 #[.agg #[.int .i64 x.val.Lo,.int .i64 x.val.Hi],.agg #[.int .i64 y.val.Lo,.int .i64 y.val.Hi]] W λe w'=>e=.returned (.int .i64 (x.val.Lo-y.val.Lo))/\∃q os',w'=grow (W.drewN q) os';generalize x.val.Lo=a at *;generalize x.val.Hi=a2 at *;generalize y.val.Lo=b at *;generalize y.val.Hi=b2 at *
 go_enter Tryz.func59,Tryz.ntmps59
 go_wp2
 go_ret
 exact ⟨rfl,0,_,by rw [alloc_eq_grow,alloc_eq_grow,grow_grow];rfl⟩
theorem Zo (blk off size:Nat) (w:World):CmpLays Tryz.prog 59 #[] Ut 2 Lm blk off size w:=λ_ _ _ _ x y=>A8h x y _
theorem A81:SWO (ltOf Lm):=by
 have hlt:∀x y:SpB,ltOf Lm x y=decide (x.val.Lo<y.val.Lo):=by
  intro x y;unfold ltOf Lm
  congr 1
  simp only [eq_iff_iff];omega
 constructor
 ·intro x;rw [hlt];simp
 ·intro x y z h1 h2;rw [hlt] at *;simp at *;omega
 ·intro x y z h1 h2;rw [hlt] at *;simp at *;omega
theorem A7b (blk cap:Nat) (d:Array SpB) (w:World) (hH:HoldsK Ut 2 w blk 0 d) (hblk:blk<w.heap.size) (hsz:d.size<4611686018427387904) :
  Calls Tryz.prog 58 #[.slice (some ⟨blk,0,none⟩) d.size cap,.func (.func 59) #[] #[]] w λe w' =>
   e=.returned (.tuple #[])/\∃n os,w'=sortWorldK Ut 2 w blk 0 n (pdq (ltOf Lm) d 0 d.size (Lib.bitLen d.size) true true) os:=by
 have eg:∀args w,(callFunc 59 args).run Tryz.prog w=.ok (.enter 59 args) w:=enters_of Tryz.func59 (by kernel_rfl) rfl;have e116:∀args w,(callFunc 93 args).run Tryz.prog w=.ok (.enter 93 args) w:=enters_of Tryz.func93 (by kernel_rfl) rfl;have e117:∀args w,(callFunc 94 args).run Tryz.prog w=.ok (.enter 94 args) w:=enters_of Tryz.func94 (by kernel_rfl) rfl;have hlim:Lib.bitLen d.size<4611686018427387904:=Nat.lt_of_le_of_lt (Lib.bitLen_le d.size 62 (by omega) (by omega)) (by omega);have hp:=AnyQ.pdqsortCmpFunc_all (P:=Tryz.prog) (ρ:=Tryz.pdqSp_ren) Tryz.pdqSp 2 Tryz.isAgg39 Tryz.sizeOf39 Ut Lm 59 #[] A81 blk 0 cap d w eg (Zo blk 0 d.size w) ⟨λ_=>rfl,λx v hv=>by simp [Ut,api_Span.cells] at hv;rcases hv with rfl|rfl<;>rfl,hH,hblk⟩ (d.size+1) 0 d.size (Lib.bitLen d.size) d w (by omega) rfl (SWK.start hH) (Nat.zero_le _) (Nat.le_refl _) hsz hlim (Or.inl rfl)
 change Calls Tryz.prog 93 _ _ _ at hp
 have hl:Calls Tryz.prog 94 #[.int .u64 (d.size:Int)] w λe w'=>e=.returned (.int .i64 (Lib.bitLen d.size:Nat))/\w'=w:=by
  have h:=Any.bits_Len (SlLaysF0.n15.bits (P:=Tryz.prog) (ρ:=Tryz.pdqSp_ren) { Tryz.pdqSp with }) (d.size:Int) w (by omega) (by omega)
  rwa [Int.toNat_natCast] at h
 have wr:IntKind.u64.wrap (d.size:Int)=d.size:=by simp [IntKind.wrap,IntKind.bits,IntKind.signed];omega
 clear hH
 go_enter Tryz.func58,Tryz.ntmps58
 go_wp2_with (first|(go_at_fn 94;refine hl.mono ?_;rintro e w' ⟨rfl,rfl⟩)|(go_at_fn 93;refine hp.mono ?_;rintro e w' ⟨rfl,n,os,rfl⟩))
 go_end0
 exact ⟨rfl,n,os,rfl⟩
theorem Xj (cap:Nat) (w:World):Calls Tryz.prog 58 #[.slice none 0 cap,.func (.func 59) #[] #[]] w λe w'=>e=.returned (.tuple #[])/\w'=w:=by
 have e116:∀args w,(callFunc 93 args).run Tryz.prog w=.ok (.enter 93 args) w:=enters_of Tryz.func93 (by kernel_rfl) rfl;have e117:∀args w,(callFunc 94 args).run Tryz.prog w=.ok (.enter 94 args) w:=enters_of Tryz.func94 (by kernel_rfl) rfl;have hp:=λlim=>AnyF.pdqsortCmpFunc_none (P:=Tryz.prog) (ρ:=Tryz.pdqSp_ren) Tryz.pdqSp none cap lim (.func (.func 59) #[] #[]) w
 change ∀lim,Calls Tryz.prog 93 _ _ _ at hp
 have hl:Calls Tryz.prog 94 #[.int .u64 0] w λe w'=>e=.returned (.int .i64 (Lib.bitLen 0:Nat))/\w'=w:=by
  have h:=Any.bits_Len (SlLaysF0.n15.bits (P:=Tryz.prog) (ρ:=Tryz.pdqSp_ren) { Tryz.pdqSp with }) 0 w (by omega) (by omega);exact h
 have wr:IntKind.u64.wrap 0=0:=rfl
 go_enter Tryz.func58,Tryz.ntmps58
 go_wp2_with (first|(go_at_fn 94;refine hl.mono ?_;rintro e w' ⟨rfl,rfl⟩)|(go_at_fn 93;refine (hp _).mono ?_;rintro e w' ⟨rfl,rfl⟩))
 go_end0
 exact ⟨rfl,rfl⟩
theorem Qc (F:Nat) (p0 res:List api_Span) (h:G4 F p0=some res) {w0 w:World} {H:List Res} {i cap:Nat} {ad:Option Addr} (hS:St w0 H w) (hi:H[i]? = some (arr 39 2 api_Span.cells ad p0.length cap p0)) :
  Calls Tryz.prog 58 #[.slice ad p0.length cap,.func (.func 59) #[] #[]] w λe w'=>e=.returned (.tuple #[])/\p0.length=res.length/\St w0 (H.set i (arr 39 2 api_Span.cells ad res.length cap res)) w':=by
 unfold G4 at h
 split at h
 ·rename_i hb
  cases h
  obtain ⟨L,hL⟩:∃L:List SpB,L=p0.pmap Subtype.mk hb.1:=⟨_,rfl⟩;have hmap:L.map Subtype.val=p0:=by rw [hL,List.map_pmap];simp
  rw [←hL];have hlen:L.length=p0.length:=by rw [←hmap];simp
  obtain ⟨s1,_,_⟩:=U8 Lm A81 L;have harr:∀(M:List SpB) (a:Option Addr) (m c:Nat),arr 39 2 Ut a m c M=arr 39 2 api_Span.cells a m c (M.map Subtype.val):=by
   intro M a m c;unfold arr
   congr 1
   ·funext w
    simp only [List.length_map,List.flatMap_map];rfl
  have hh:=hS.holds _ (List.mem_of_getElem? hi);have hi':H[i]? = some (arr 39 2 Ut ad p0.length cap L):=by rw [harr,hmap];exact hi
  have hk:∀x:SpB,(Ut x).length=2:=λ_=>rfl
  cases ad with
  | none =>
   have h0:p0=[]:=by
    obtain ⟨_,_,hx⟩:=hh;rcases hx with ⟨_,hx⟩|⟨g,c,cur,hv,_⟩
    ·exact List.length_eq_zero_iff.1 hx
    ·cases hv
   subst h0;have hL0:L=[]:=List.length_eq_zero_iff.1 hlen;subst hL0;refine (Xj cap w).mono ?_;rintro e w' ⟨rfl,rfl⟩;have e0:(T3 Lm ([]:List SpB)).map Subtype.val=[]:=List.length_eq_zero_iff.1 (by simpa using s1);rw [e0];refine ⟨rfl,rfl,?_⟩;have:H.set i (arr 39 2 api_Span.cells none ([]:List api_Span).length cap [])=H:=by
    apply List.ext_getElem?;intro j;rw [List.getElem?_set]
    split
    ·rename_i hij;subst hij;split
     ·exact hi.symm
     ·rename_i hlt;rw [List.getElem?_eq_none (by omega)]
    ·rfl
   rw [this];exact hS
  | some a =>
   have hh':=hh;obtain ⟨_,_,hx⟩:=hh';rcases hx with ⟨hx,_⟩|⟨g,c,cur,hv,_⟩
   ·cases hx
   ·cases hv
    have hrow:(arr 39 2 Ut (some ⟨g,0,none⟩) p0.length cap L).holds w:=hS.holds _ (List.mem_of_getElem? hi');have hsz:L.toArray.size<4611686018427387904:=by simp [hlen];exact hb.2
    ·have hH:=Th hk (by decide) hrow;have hc:=A7b g cap L.toArray w hH.1 hH.2 hsz;have e1:L.toArray.size=p0.length:=by simp [hlen]
     rw [e1] at hc;refine hc.mono ?_;rintro e w' ⟨rfl,m,os,rfl⟩;have hd:(pdq (ltOf Lm) L.toArray 0 p0.length (Lib.bitLen p0.length) true true).toList=T3 Lm L:=by unfold T3;rw [hlen]
     have hds:(pdq (ltOf Lm) L.toArray 0 p0.length (Lib.bitLen p0.length) true true).size=p0.length:=by
      rw [←Array.length_toList,hd,s1,hlen]
     refine ⟨rfl,by simp [s1,hlen],?_⟩;have:=Ts hk (by decide) hS hi' _ hds m os;rw [hd,harr] at this;have e2:((T3 Lm L).map Subtype.val).length=p0.length:=by simp [s1,hlen]
     rw [e2];exact this
 ·cases h
end Go.Proofs.YtkdhnnfokfchpaaGreat
