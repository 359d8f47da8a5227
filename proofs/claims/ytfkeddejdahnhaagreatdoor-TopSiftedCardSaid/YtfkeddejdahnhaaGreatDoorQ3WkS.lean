import Derived.Test.YtfkeddejdahnhaaGreatDoorQ3XD
import Derived.Test.YtfkeddejdahnhaaGreatDoorQ3WkL
import Derived.WalkKit
set_option linter.unusedVariables false
set_option linter.unusedSimpArgs false
set_option linter.unusedSectionVars false
namespace Go.Proofs.YtfkeddejdahnhaaGreatDoor
open Go Go.RowKit Go.Eng Go.Sort Go.Shelf Go.Lib
set_option maxHeartbeats 4000000
set_option maxRecDepth 100000
abbrev SpB:={s:zA // spB s}
def A17 (s:SpB):List Value:=s.val.cells
theorem B76 (x y:SpB) (W:World):Calls Tryz.prog 63 #[.agg (A17 x).toArray,.agg (A17 y).toArray] W λe w'=>e=.returned (.int .i64 (Rb x y))/\∃q os',w'=grow (W.drewN q) os':=by
 have hx:=x.property;have hy:=y.property;unfold spB at hx hy;have hw:IntKind.i64.wrap (x.val.Lo-y.val.Lo)=x.val.Lo-y.val.Lo:=Go.Eng.wrap64 om;show Calls Tryz.prog 63 #[.agg #[.int .i64 x.val.Lo,.int .i64 x.val.Hi],.agg #[.int .i64 y.val.Lo,.int .i64 y.val.Hi]] W λe w'=>e=.returned (.int .i64 (x.val.Lo-y.val.Lo))/\∃q os',w'=grow (W.drewN q) os';generalize x.val.Lo=a at *;generalize x.val.Hi=a2 at *;generalize y.val.Lo=b at *;generalize y.val.Hi=b2 at *
 go_enter Tryz.func63,Tryz.ntmps63
 go_wp2
 go_ret
 exact ⟨rfl,0,_,by rw [alloc_eq_grow,alloc_eq_grow,grow_grow];rfl⟩
theorem A62 (blk off size:Nat) (w:World):CmpLays Tryz.prog 63 #[] A17 2 Rb blk off size w:=λ_ _ _ _ x y=>B76 x y _
theorem B6d:SWO (ltOf Rb):=by
 have hlt:∀x y:SpB,ltOf Rb x y=decide (x.val.Lo<y.val.Lo):=by
  intro x y;unfold ltOf Rb
  congr 1
  simp only [eq_iff_iff];omega
 constructor
 ·intro x;rw [hlt];simp
 ·intro x y z h1 h2;rw [hlt] at *;simp at *;omega
 ·intro x y z h1 h2;rw [hlt] at *;simp at *;omega
theorem B5d (blk cap:Nat) (d:Array SpB) (w:World) (hH:HoldsK A17 2 w blk 0 d) (hblk:blk<w.heap.size) (hsz:d.size<4611686018427387904) :
  Calls Tryz.prog 62 #[.slice (some ⟨blk,0,none⟩) d.size cap,.func (.func 63) #[] #[]] w λe w' =>
   e=.returned (.tuple #[])/\∃n os,w'=sortWorldK A17 2 w blk 0 n (pdq (ltOf Rb) d 0 d.size (Lib.bitLen d.size) true true) os:=by
 have eg:∀args w,(callFunc 63 args).run Tryz.prog w=.ok (.enter 63 args) w:=enters_of Tryz.func63 (by kernel_rfl) rfl;have e116:∀args w,(callFunc 106 args).run Tryz.prog w=.ok (.enter 106 args) w:=enters_of Tryz.func106 (by kernel_rfl) rfl;have e117:∀args w,(callFunc 107 args).run Tryz.prog w=.ok (.enter 107 args) w:=enters_of Tryz.func107 (by kernel_rfl) rfl;have hlim:Lib.bitLen d.size<4611686018427387904:=Nat.lt_of_le_of_lt (Lib.bitLen_le d.size 62 om om) om;have hp:=AnyQ.pdqsortCmpFunc_all (P:=Tryz.prog) (ρ:=Tryz.pdqSp_ren) Tryz.pdqSp 2 Tryz.isAgg63 Tryz.sizeOf63 A17 Rb 63 #[] B6d blk 0 cap d w eg (A62 blk 0 d.size w) ⟨λ_=>rfl,λx v hv=>by simp [A17,zA.cells] at hv;rcases hv with rfl|rfl<;>rfl,hH,hblk⟩ (d.size+1) 0 d.size (Lib.bitLen d.size) d w om rfl (SWK.start hH) (Nat.zero_le _) (Nat.le_refl _) hsz hlim (Or.inl rfl)
 change Calls Tryz.prog 106 _ _ _ at hp
 have hl:Calls Tryz.prog 107 #[.int .u64 (d.size:Int)] w λe w'=>e=.returned (.int .i64 (Lib.bitLen d.size:Nat))/\w'=w:=by
  have h:=Any.bits_Len (SlLaysF0.n15.bits (P:=Tryz.prog) (ρ:=Tryz.pdqSp_ren) { Tryz.pdqSp with }) (d.size:Int) w om om
  rwa [Int.toNat_natCast] at h
 have wr:IntKind.u64.wrap (d.size:Int)=d.size:=by simp [IntKind.wrap,IntKind.bits,IntKind.signed];omega
 clear hH
 go_enter Tryz.func62,Tryz.ntmps62
 go_wp2_with (first|(go_at_fn 107;refine hl.mono ?_;rintro e w' ⟨rfl,rfl⟩)|(go_at_fn 106;refine hp.mono ?_;rintro e w' ⟨rfl,n,os,rfl⟩))
 go_end0
 exact ⟨rfl,n,os,rfl⟩
theorem A46 (cap:Nat) (w:World):Calls Tryz.prog 62 #[.slice none 0 cap,.func (.func 63) #[] #[]] w λe w'=>e=.returned (.tuple #[])/\w'=w:=by
 have e116:∀args w,(callFunc 106 args).run Tryz.prog w=.ok (.enter 106 args) w:=enters_of Tryz.func106 (by kernel_rfl) rfl;have e117:∀args w,(callFunc 107 args).run Tryz.prog w=.ok (.enter 107 args) w:=enters_of Tryz.func107 (by kernel_rfl) rfl;have hp:=λlim=>AnyF.pdqsortCmpFunc_none (P:=Tryz.prog) (ρ:=Tryz.pdqSp_ren) Tryz.pdqSp none cap lim (.func (.func 63) #[] #[]) w
 change ∀lim,Calls Tryz.prog 106 _ _ _ at hp
 have hl:Calls Tryz.prog 107 #[.int .u64 0] w λe w'=>e=.returned (.int .i64 (Lib.bitLen 0:Nat))/\w'=w:=by
  have h:=Any.bits_Len (SlLaysF0.n15.bits (P:=Tryz.prog) (ρ:=Tryz.pdqSp_ren) { Tryz.pdqSp with }) 0 w om om;exact h
 have wr:IntKind.u64.wrap 0=0:=rfl
 go_enter Tryz.func62,Tryz.ntmps62
 go_wp2_with (first|(go_at_fn 107;refine hl.mono ?_;rintro e w' ⟨rfl,rfl⟩)|(go_at_fn 106;refine (hp _).mono ?_;rintro e w' ⟨rfl,rfl⟩))
 go_end0
 exact ⟨rfl,rfl⟩
theorem Vr (F:Nat) (p0 res:List zA) (h:Kf F p0=some res) {w0 w:World} {H:List Res} {i cap:Nat} {ad:Option Addr} (hS:St w0 H w) (hi:H[i]? = some (arr 63 2 zA.cells ad p0.length cap p0)) :
  Calls Tryz.prog 62 #[.slice ad p0.length cap,.func (.func 63) #[] #[]] w λe w'=>e=.returned (.tuple #[])/\p0.length=res.length/\St w0 (H.set i (arr 63 2 zA.cells ad res.length cap res)) w':=by
 unfold Kf at h
 split at h
 ·rename_i hb
  cases h
  obtain ⟨L,hL⟩:∃L:List SpB,L=p0.pmap Subtype.mk hb.1:=⟨_,rfl⟩;have hmap:L.map Subtype.val=p0:=by rw [hL,List.map_pmap];simp
  rw [←hL];have hlen:L.length=p0.length:=by rw [←hmap];simp
  obtain ⟨s1,_,_⟩:=A0a Rb B6d L;have harr:∀(M:List SpB) (a:Option Addr) (m c:Nat),arr 63 2 A17 a m c M=arr 63 2 zA.cells a m c (M.map Subtype.val):=by
   intro M a m c;unfold arr
   congr 1
   ·funext w
    simp only [List.length_map,List.flatMap_map];rfl
  have hh:=hS.holds _ (List.mem_of_getElem? hi);have hi':H[i]? = some (arr 63 2 A17 ad p0.length cap L):=by rw [harr,hmap];exact hi
  have hk:∀x:SpB,(A17 x).length=2:=λ_=>rfl
  cases ad with
  | none =>
   have h0:p0=[]:=by
    obtain ⟨_,_,hx⟩:=hh;rcases hx with ⟨_,hx⟩|⟨g,c,cur,hv,_⟩
    ·exact List.length_eq_zero_iff.1 hx
    ·cases hv
   subst h0;have hL0:L=[]:=List.length_eq_zero_iff.1 hlen;subst hL0;refine (A46 cap w).mono ?_;rintro e w' ⟨rfl,rfl⟩;have e0:(Z8 Rb ([]:List SpB)).map Subtype.val=[]:=List.length_eq_zero_iff.1 (by simpa using s1);rw [e0];refine ⟨rfl,rfl,?_⟩;have:H.set i (arr 63 2 zA.cells none ([]:List zA).length cap [])=H:=by
    apply List.ext_getElem?;intro j;rw [List.getElem?_set]
    split
    ·rename_i hij;subst hij;split
     ·exact hi.symm
     ·rename_i hlt;rw [List.getElem?_eq_none om]
    ·rfl
   rw [this];exact hS
  | some a =>
   have hh':=hh;obtain ⟨_,_,hx⟩:=hh';rcases hx with ⟨hx,_⟩|⟨g,c,cur,hv,_⟩
   ·cases hx
   ·cases hv
    have hrow:(arr 63 2 A17 (some ⟨g,0,none⟩) p0.length cap L).holds w:=hS.holds _ (List.mem_of_getElem? hi');have hsz:L.toArray.size<4611686018427387904:=by simp [hlen];exact hb.2
    ·have hH:=Zh hk dc hrow;have hc:=B5d g cap L.toArray w hH.1 hH.2 hsz;have e1:L.toArray.size=p0.length:=by simp [hlen]
     rw [e1] at hc;refine hc.mono ?_;rintro e w' ⟨rfl,m,os,rfl⟩;have hd:(pdq (ltOf Rb) L.toArray 0 p0.length (Lib.bitLen p0.length) true true).toList=Z8 Rb L:=by unfold Z8;rw [hlen]
     have hds:(pdq (ltOf Rb) L.toArray 0 p0.length (Lib.bitLen p0.length) true true).size=p0.length:=by
      rw [←Array.length_toList,hd,s1,hlen]
     refine ⟨rfl,by simp [s1,hlen],?_⟩;have:=Zu hk dc hS hi' _ hds m os;rw [hd,harr] at this;have e2:((Z8 Rb L).map Subtype.val).length=p0.length:=by simp [s1,hlen]
     rw [e2];exact this
 ·cases h
end Go.Proofs.YtfkeddejdahnhaaGreatDoor
