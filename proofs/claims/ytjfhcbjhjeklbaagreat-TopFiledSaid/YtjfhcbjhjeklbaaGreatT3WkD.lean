import Derived.Test.YtjfhcbjhjeklbaaGreatT3WkC
set_option linter.unusedVariables false
set_option linter.unusedSimpArgs false
set_option linter.unusedSectionVars false
namespace Go.Proofs.YtjfhcbjhjeklbaaGreat
open Go Go.RowKit Go.Eng Go.Sort Go.Shelf Go.Lib
set_option linter.unusedVariables false
set_option maxHeartbeats 4000000
set_option maxRecDepth 100000
theorem Rb (a b:ByteArray):Wt a b=true↔a.toList<b.toList:=by
 unfold Wt;rw [bytesLess_eq];simp
theorem Vz (a b:ByteArray):Vy a b=true↔¬a.toList<b.toList/\a.toList≠b.toList:=by
 unfold Vy;rw [bytesLess_eq];simp
def c3i (a b:Int):Int:=if a<b then -1 else if b<a then 1 else 0
def c3s (a b:ByteArray):Int:=if Wt a b then -1 else if Vy a b then 1 else 0
theorem A6q (x y:mosaic_Key):Jf x y=or3 (c3i x.Time y.Time) (c3s x.Name y.Name) (c3i x.Tilt y.Tilt):=rfl
def KLt (x y:mosaic_Key):Prop:=x.Time<y.Time\/x.Time=y.Time/\(x.Name.toList<y.Name.toList\/x.Name.toList=y.Name.toList/\x.Tilt<y.Tilt)
theorem A6r (x y:mosaic_Key):Jf x y<0↔KLt x y:=by
 rw [A6q];unfold or3 c3i c3s KLt
 by_cases h1:x.Time<y.Time
 ·simp [h1]
 ·by_cases h2:y.Time<x.Time
  ·simp [h1,h2];omega
  ·have h3:x.Time=y.Time:=by omega
   simp only [h1,h2,if_false,ne_eq,not_true_eq_false,h3,Int.lt_irrefl,false_or,true_and]
   by_cases h4:x.Name.toList<y.Name.toList
   ·have:=(Rb x.Name y.Name).2 h4;simp [this,h4]
   ·have h4':Wt x.Name y.Name=false:=by
     rw [Bool.eq_false_iff];exact λh=>h4 ((Rb _ _).1 h)
    by_cases h5:x.Name.toList=y.Name.toList
    ·have h5':Vy x.Name y.Name=false:=by
      rw [Bool.eq_false_iff];exact λh=>((Vz _ _).1 h).2 h5
     simp only [h4',h5',Bool.false_eq_true,if_false,not_true_eq_false,h4,h5,false_or,true_and]
     by_cases h6:x.Tilt<y.Tilt
     ·simp [h6]
     ·by_cases h7:y.Tilt<x.Tilt
      ·simp [h6,h7]
      ·simp [h6,h7]
    ·have h5':Vy x.Name y.Name=true:=(Vz _ _).2 ⟨h4,h5⟩;simp [h4',h5',h4,h5]
theorem Ut (a:List UInt8):¬a<a:=List.lt_irrefl a
theorem A5s {a b c:List UInt8} (h:a<b) (k:b<c):a<c:=List.lt_trans h k
theorem A47 (a b:List UInt8):a<b\/a=b\/b<a:=by
 rcases Decidable.em (a<b) with h|h
 ·exact .inl h
 ·rcases Decidable.em (b<a) with k|k
  ·exact .inr (.inr k)
  ·exact .inr (.inl (List.le_antisymm (List.not_lt.1 k) (List.not_lt.1 h)))
theorem A17 (x:mosaic_Key):¬KLt x x:=by
 rintro (h|⟨_,h|⟨_,h⟩⟩)
 ·omega
 ·exact Ut _ h
 ·omega
theorem A44 {x y z:mosaic_Key} (h:KLt x y) (k:KLt y z):KLt x z:=by
 rcases h with h|⟨h0,h⟩<;>rcases k with k|⟨k0,k⟩
 ·exact .inl (by omega)
 ·exact .inl (by omega)
 ·exact .inl (by omega)
 ·refine .inr ⟨by omega,?_⟩;rcases h with h|⟨h1,h⟩<;>rcases k with k|⟨k1,k⟩
  ·exact .inl (A5s h k)
  ·exact .inl (k1▸h)
  ·exact .inl (h1▸k)
  ·exact .inr ⟨h1.trans k1,by omega⟩
theorem A18 (x y:mosaic_Key):KLt x y\/x=y\/KLt y x:=by
 obtain ⟨xn,xt,xu⟩:=x;obtain ⟨yn,yt,yu⟩:=y;unfold KLt;dsimp only;rcases Int.lt_trichotomy xu yu with h|h|h
 ·exact .inl (.inl h)
 ·rcases A47 xn.toList yn.toList with k|k|k
  ·exact .inl (.inr ⟨h,.inl k⟩)
  ·rcases Int.lt_trichotomy xt yt with l|l|l
   ·exact .inl (.inr ⟨h,.inr ⟨k,l⟩⟩)
   ·have:xn=yn:=by
     exact Vx.1 (by rw [←Q3];simp [k])
    subst this;exact .inr (.inl (by rw [h,l]))
   ·exact .inr (.inr (.inr ⟨h.symm,.inr ⟨k.symm,l⟩⟩))
  ·exact .inr (.inr (.inr ⟨h.symm,.inl k⟩))
 ·exact .inr (.inr (.inl h))
theorem Vl (x y:mosaic_Key):ltOf Jf x y=true↔KLt x y:=by
 unfold ltOf;rw [decide_eq_true_eq];exact A6r x y
theorem Ym:SWO (ltOf Jf):=by
 have f:∀x y,ltOf Jf x y=false↔¬KLt x y:=λx y=>by rw [Bool.eq_false_iff,Ne,Vl]
 constructor
 ·intro x;rw [f];exact A17 x
 ·intro x y z h k;rw [Vl] at *;exact A44 h k
 ·intro x y z h k;rw [f] at *;intro l;rcases A18 y x with a|a|a
  ·rcases A18 z y with b|b|b
   ·exact A17 x (A44 l (A44 b a))
   ·subst b;exact h l
   ·exact k b
  ·subst a;exact k l
  ·exact h a
theorem B0x (blk off size:Nat) (w:World):CmpLays Tryz.prog 123 #[] mosaic_Key.cells 3 Jf blk off size w:=λ_ _ _ _ x y=>cK x y _
theorem B1p (blk cap:Nat) (d:Array mosaic_Key) (w:World) (hH:HoldsK mosaic_Key.cells 3 w blk 0 d) (hblk:blk<w.heap.size) (hsz:d.size<4611686018427387904) :
  Calls Tryz.prog 137 #[.slice (some ⟨blk,0,none⟩) d.size cap,.func (.func 123) #[] #[]] w λe w' =>
   e=.returned (.tuple #[])/\∃n os,w'=sortWorldK mosaic_Key.cells 3 w blk 0 n (pdq (ltOf Jf) d 0 d.size (Lib.bitLen d.size) true true) os:=by
 have eg:∀args w,(callFunc 123 args).run Tryz.prog w=.ok (.enter 123 args) w:=enters_of Tryz.func123 (by kernel_rfl) rfl;have e166:∀args w,(callFunc 149 args).run Tryz.prog w=.ok (.enter 149 args) w:=enters_of Tryz.func149 (by kernel_rfl) rfl;have e167:∀args w,(callFunc 58 args).run Tryz.prog w=.ok (.enter 58 args) w:=enters_of Tryz.func58 (by kernel_rfl) rfl;have hlim:Lib.bitLen d.size<4611686018427387904:=Nat.lt_of_le_of_lt (Lib.bitLen_le d.size 62 (by omega) (by omega)) (by omega);have hp:=AnyQ.pdqsortCmpFunc_all (P:=Tryz.prog) (ρ:=Tryz.pdqSp_ren) Tryz.pdqSp 3 Tryz.isAgg63 Tryz.sizeOf63 mosaic_Key.cells Jf 123 #[] Ym blk 0 cap d w eg (B0x blk 0 d.size w) ⟨λ_=>rfl,λx v hv=>by simp [mosaic_Key.cells] at hv;rcases hv with rfl|rfl|rfl<;>rfl,hH,hblk⟩ (d.size+1) 0 d.size (Lib.bitLen d.size) d w (by omega) rfl (SWK.start hH) (Nat.zero_le _) (Nat.le_refl _) hsz hlim (Or.inl rfl)
 change Calls Tryz.prog 149 _ _ _ at hp
 have hl:Calls Tryz.prog 58 #[.int .u64 (d.size:Int)] w λe w'=>e=.returned (.int .i64 (Lib.bitLen d.size:Nat))/\w'=w:=by
  have h:=Any.bits_Len (SlLaysF0.n15.bits (P:=Tryz.prog) (ρ:=Tryz.pdqSp_ren) { Tryz.pdqSp with }) (d.size:Int) w (by omega) (by omega)
  rwa [Int.toNat_natCast] at h
 have wr:IntKind.u64.wrap (d.size:Int)=d.size:=by simp [IntKind.wrap,IntKind.bits,IntKind.signed];omega
 clear hH
 go_enter Tryz.func137,Tryz.ntmps137
 go_wp2_with (first|(go_at_fn 58;refine hl.mono ?_;rintro e w' ⟨rfl,rfl⟩)|(go_at_fn 149;refine hp.mono ?_;rintro e w' ⟨rfl,n,os,rfl⟩))
 go_end0
 exact ⟨rfl,n,os,rfl⟩
theorem A1n (cap:Nat) (w:World):Calls Tryz.prog 137 #[.slice none 0 cap,.func (.func 123) #[] #[]] w λe w'=>e=.returned (.tuple #[])/\w'=w:=by
 have e166:∀args w,(callFunc 149 args).run Tryz.prog w=.ok (.enter 149 args) w:=enters_of Tryz.func149 (by kernel_rfl) rfl;have e167:∀args w,(callFunc 58 args).run Tryz.prog w=.ok (.enter 58 args) w:=enters_of Tryz.func58 (by kernel_rfl) rfl;have hp:=λlim=>AnyF.pdqsortCmpFunc_none (P:=Tryz.prog) (ρ:=Tryz.pdqSp_ren) Tryz.pdqSp none cap lim (.func (.func 123) #[] #[]) w
 change ∀lim,Calls Tryz.prog 149 _ _ _ at hp
 have hl:Calls Tryz.prog 58 #[.int .u64 0] w λe w'=>e=.returned (.int .i64 (Lib.bitLen 0:Nat))/\w'=w:=by
  have h:=Any.bits_Len (SlLaysF0.n15.bits (P:=Tryz.prog) (ρ:=Tryz.pdqSp_ren) { Tryz.pdqSp with }) 0 w (by omega) (by omega);exact h
 have wr:IntKind.u64.wrap 0=0:=rfl
 go_enter Tryz.func137,Tryz.ntmps137
 go_wp2_with (first|(go_at_fn 58;refine hl.mono ?_;rintro e w' ⟨rfl,rfl⟩)|(go_at_fn 149;refine (hp _).mono ?_;rintro e w' ⟨rfl,rfl⟩))
 go_end0
 exact ⟨rfl,rfl⟩
theorem A9v (p0:List mosaic_Key) (hb:p0.length<4611686018427387904) {w0 w:World} {H:List Res} {i cap:Nat} {ad:Option Addr} (hS:St w0 H w) (hi:H[i]? = some (arr 63 3 mosaic_Key.cells ad p0.length cap p0)) :
  Calls Tryz.prog 137 #[.slice ad p0.length cap,.func (.func 123) #[] #[]] w λe w'=>e=.returned (.tuple #[])/\(Gd p0).length=p0.length/\St w0 (H.set i (arr 63 3 mosaic_Key.cells ad p0.length cap (Gd p0))) w':=by
 obtain ⟨s1,_,_⟩:=Ny Jf Ym p0;have hh:=hS.holds _ (List.mem_of_getElem? hi);have hk:∀x:mosaic_Key,(mosaic_Key.cells x).length=3:=λ_=>rfl
 cases ad with
 | none =>
  have h0:p0=[]:=by
   obtain ⟨_,_,hx⟩:=hh;rcases hx with ⟨_,hx⟩|⟨g,c,cur,hv,_⟩
   ·exact List.length_eq_zero_iff.1 hx
   ·cases hv
  subst h0;refine (A1n cap w).mono ?_;rintro e w' ⟨rfl,rfl⟩;have e0:Gd ([]:List mosaic_Key)=[]:=List.length_eq_zero_iff.1 (show (Sg Jf ([]:List mosaic_Key)).length=0 from s1);rw [e0];refine ⟨rfl,rfl,?_⟩;have:H.set i (arr 63 3 mosaic_Key.cells none ([]:List mosaic_Key).length cap [])=H:=by
   apply List.ext_getElem?;intro j;rw [List.getElem?_set]
   split
   ·rename_i hij;subst hij;split
    ·exact hi.symm
    ·rename_i hlt;rw [List.getElem?_eq_none (by omega)]
   ·rfl
  rw [this];exact hS
 | some a =>
  have hh':=hh;obtain ⟨_,_,hx⟩:=hh';rcases hx with ⟨hx,_⟩|⟨g,c,cur,hv,_⟩
  ·cases hx
  ·cases hv
   have hrow:(arr 63 3 mosaic_Key.cells (some ⟨g,0,none⟩) p0.length cap p0).holds w:=hh;have hsz:p0.toArray.size<4611686018427387904:=by simpa using hb
   have hH:=Wi hk (by decide) hrow;have hc:=B1p g cap p0.toArray w hH.1 hH.2 hsz;have e1:p0.toArray.size=p0.length:=by simp
   rw [e1] at hc;refine hc.mono ?_;rintro e w' ⟨rfl,m,os,rfl⟩;have hd:(pdq (ltOf Jf) p0.toArray 0 p0.length (Lib.bitLen p0.length) true true).toList=Gd p0:=rfl;have hds:(pdq (ltOf Jf) p0.toArray 0 p0.length (Lib.bitLen p0.length) true true).size=p0.length:=by
    rw [←Array.length_toList,hd];exact s1
   refine ⟨rfl,s1,?_⟩;have:=Tx hk (by decide) hS hi _ hds m os;rw [hd] at this;exact this
theorem Z3 {l l':List mosaic_Key} (h:l.Perm l'):Gd l=Gd l':=by
 obtain ⟨_,p1,s1⟩:=Ny Jf Ym l;obtain ⟨_,p2,s2⟩:=Ny Jf Ym l';refine List.Perm.eq_of_pairwise (le:=λx y=>ltOf Jf y x=false) ?_ s1 s2 (p1.trans (h.trans p2.symm));intro x y _ _ hx hy;rcases A18 x y with h|h|h
 ·rw [(Vl _ _).2 h] at hy;cases hy
 ·exact h
 ·rw [(Vl _ _).2 h] at hx;cases hx
end Go.Proofs.YtjfhcbjhjeklbaaGreat
