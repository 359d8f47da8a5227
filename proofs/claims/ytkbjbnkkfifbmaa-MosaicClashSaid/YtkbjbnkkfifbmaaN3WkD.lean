import Derived.Test.YtkbjbnkkfifbmaaN3WkC
set_option linter.unusedVariables false
set_option linter.unusedSimpArgs false
set_option linter.unusedSectionVars false
namespace Go.Proofs.Ytkbjbnkkfifbmaa
open Go Go.RowKit Go.Eng Go.Sort Go.Shelf Go.Lib
set_option linter.unusedVariables false
set_option maxHeartbeats 4000000
set_option maxRecDepth 100000
theorem Rd (a b:ByteArray):P0 a b=true↔a.toList<b.toList:=by
 unfold P0;rw [bytesLess_eq];simp
theorem Rc (a b:ByteArray):Mv a b=true↔¬a.toList<b.toList∧a.toList≠b.toList:=by
 unfold Mv;rw [bytesLess_eq];simp
def c3i (a b:Int):Int:=if a<b then -1 else if b<a then 1 else 0
def c3s (a b:ByteArray):Int:=if P0 a b then -1 else if Mv a b then 1 else 0
theorem Tk (x y:mosaic_Key):E7 x y=or3 (c3i x.Time y.Time) (c3s x.Name y.Name) (c3i x.Tilt y.Tilt):=rfl
def KLt (x y:mosaic_Key):Prop:=x.Time<y.Time∨x.Time=y.Time∧(x.Name.toList<y.Name.toList∨x.Name.toList=y.Name.toList∧x.Tilt<y.Tilt)
theorem Tl (x y:mosaic_Key):E7 x y<0↔KLt x y:=by
 rw [Tk];unfold or3 c3i c3s KLt
 by_cases h1:x.Time<y.Time
 ·simp [h1]
 ·by_cases h2:y.Time<x.Time
  ·simp [h1,h2];omega
  ·have h3:x.Time=y.Time:=by omega
   simp only [h1,h2,if_false,ne_eq,not_true_eq_false,h3,Int.lt_irrefl,false_or,true_and]
   by_cases h4:x.Name.toList<y.Name.toList
   ·have:=(Rd x.Name y.Name).2 h4;simp [this,h4]
   ·have h4':P0 x.Name y.Name=false:=by
     rw [Bool.eq_false_iff];exact fun h=>h4 ((Rd _ _).1 h)
    by_cases h5:x.Name.toList=y.Name.toList
    ·have h5':Mv x.Name y.Name=false:=by
      rw [Bool.eq_false_iff];exact fun h=>((Rc _ _).1 h).2 h5
     simp only [h4',h5',Bool.false_eq_true,if_false,not_true_eq_false,h4,h5,false_or,true_and]
     by_cases h6:x.Tilt<y.Tilt
     ·simp [h6]
     ·by_cases h7:y.Tilt<x.Tilt
      ·simp [h6,h7]
      ·simp [h6,h7]
    ·have h5':Mv x.Name y.Name=true:=(Rc _ _).2 ⟨h4,h5⟩;simp [h4',h5',h4,h5]
theorem Uq (a:List UInt8):¬a<a:=List.lt_irrefl a
theorem Yj {a b c:List UInt8} (h:a<b) (k:b<c):a<c:=List.lt_trans h k
theorem Xh (a b:List UInt8):a<b∨a=b∨b<a:=by
 rcases Decidable.em (a<b) with h|h
 ·exact .inl h
 ·rcases Decidable.em (b<a) with k|k
  ·exact .inr (.inr k)
  ·exact .inr (.inl (List.le_antisymm (List.not_lt.1 k) (List.not_lt.1 h)))
theorem Qa (x:mosaic_Key):¬KLt x x:=by
 rintro (h|⟨_,h|⟨_,h⟩⟩)
 ·omega
 ·exact Uq _ h
 ·omega
theorem S3 {x y z:mosaic_Key} (h:KLt x y) (k:KLt y z):KLt x z:=by
 rcases h with h|⟨h0,h⟩<;>rcases k with k|⟨k0,k⟩
 ·exact .inl (by omega)
 ·exact .inl (by omega)
 ·exact .inl (by omega)
 ·refine .inr ⟨by omega,?_⟩;rcases h with h|⟨h1,h⟩<;>rcases k with k|⟨k1,k⟩
  ·exact .inl (Yj h k)
  ·exact .inl (k1▸h)
  ·exact .inl (h1▸k)
  ·exact .inr ⟨h1.trans k1,by omega⟩
theorem Qb (x y:mosaic_Key):KLt x y∨x=y∨KLt y x:=by
 obtain ⟨xn,xt,xu⟩:=x;obtain ⟨yn,yt,yu⟩:=y;unfold KLt;dsimp only;rcases Int.lt_trichotomy xu yu with h|h|h
 ·exact .inl (.inl h)
 ·rcases Xh xn.toList yn.toList with k|k|k
  ·exact .inl (.inr ⟨h,.inl k⟩)
  ·rcases Int.lt_trichotomy xt yt with l|l|l
   ·exact .inl (.inr ⟨h,.inr ⟨k,l⟩⟩)
   ·have:xn=yn:=by
     exact Wi.1 (by rw [←Lf];simp [k])
    subst this;exact .inr (.inl (by rw [h,l]))
   ·exact .inr (.inr (.inr ⟨h.symm,.inr ⟨k.symm,l⟩⟩))
  ·exact .inr (.inr (.inr ⟨h.symm,.inl k⟩))
 ·exact .inr (.inr (.inl h))
theorem Ly (x y:mosaic_Key):ltOf E7 x y=true↔KLt x y:=by
 unfold ltOf;rw [decide_eq_true_eq];exact Tl x y
theorem Nh:SWO (ltOf E7):=by
 have f:∀x y,ltOf E7 x y=false↔¬KLt x y:=fun x y=>by rw [Bool.eq_false_iff,Ne,Ly]
 constructor
 ·intro x;rw [f];exact Qa x
 ·intro x y z h k;rw [Ly] at *;exact S3 h k
 ·intro x y z h k;rw [f] at *;intro l;rcases Qb y x with a|a|a
  ·rcases Qb z y with b|b|b
   ·exact Qa x (S3 l (S3 b a))
   ·subst b;exact h l
   ·exact k b
  ·subst a;exact k l
  ·exact h a
theorem Vw (blk off size:Nat) (w:World):CmpLays Try.prog 56 #[] mosaic_Key.cells 3 E7 blk off size w:=fun _ _ _ _ x y=>cK x y _
theorem Wl (blk cap:Nat) (d:Array mosaic_Key) (w:World) (hH:HoldsK mosaic_Key.cells 3 w blk 0 d) (hblk:blk<w.heap.size) (hsz:d.size<4611686018427387904) :
  Calls Try.prog 69 #[.slice (some ⟨blk,0,none⟩) d.size cap,.func (.func 56) #[] #[]] w fun e w' =>
   e=.returned (.tuple #[])∧∃n os,w'=sortWorldK mosaic_Key.cells 3 w blk 0 n (pdq (ltOf E7) d 0 d.size (Lib.bitLen d.size) true true) os:=by
 have eg:∀args w,(callFunc 56 args).run Try.prog w=.ok (.enter 56 args) w:=enters_of Try.func56 (by kernel_rfl) rfl;have e166:∀args w,(callFunc 80 args).run Try.prog w=.ok (.enter 80 args) w:=enters_of Try.func80 (by kernel_rfl) rfl;have e167:∀args w,(callFunc 81 args).run Try.prog w=.ok (.enter 81 args) w:=enters_of Try.func81 (by kernel_rfl) rfl;have hlim:Lib.bitLen d.size<4611686018427387904:=Nat.lt_of_le_of_lt (Lib.bitLen_le d.size 62 (by omega) (by omega)) (by omega);have hp:=AnyQ.pdqsortCmpFunc_all (P:=Try.prog) (ρ:=Try.pdqSp_ren) Try.pdqSp 3 Try.isAgg46 Try.sizeOf46 mosaic_Key.cells E7 56 #[] Nh blk 0 cap d w eg (Vw blk 0 d.size w) ⟨fun _=>rfl,fun x v hv=>by simp [mosaic_Key.cells] at hv;rcases hv with rfl|rfl|rfl<;>rfl,hH,hblk⟩ (d.size+1) 0 d.size (Lib.bitLen d.size) d w (by omega) rfl (SWK.start hH) (Nat.zero_le _) (Nat.le_refl _) hsz hlim (Or.inl rfl)
 change Calls Try.prog 80 _ _ _ at hp
 have hl:Calls Try.prog 81 #[.int .u64 (d.size:Int)] w fun e w'=>e=.returned (.int .i64 (Lib.bitLen d.size:Nat))∧w'=w:=by
  have h:=Any.bits_Len (SlLaysF0.n15.bits (P:=Try.prog) (ρ:=Try.pdqSp_ren) { Try.pdqSp with }) (d.size:Int) w (by omega) (by omega)
  rwa [Int.toNat_natCast] at h
 have wr:IntKind.u64.wrap (d.size:Int)=d.size:=by simp [IntKind.wrap,IntKind.bits,IntKind.signed];omega
 clear hH
 go_enter Try.func69,Try.ntmps69
 go_wp2_with (first|(go_at_fn 81;refine hl.mono ?_;rintro e w' ⟨rfl,rfl⟩)|(go_at_fn 80;refine hp.mono ?_;rintro e w' ⟨rfl,n,os,rfl⟩))
 go_end0
 exact ⟨rfl,n,os,rfl⟩
theorem Ql (cap:Nat) (w:World):Calls Try.prog 69 #[.slice none 0 cap,.func (.func 56) #[] #[]] w fun e w'=>e=.returned (.tuple #[])∧w'=w:=by
 have e166:∀args w,(callFunc 80 args).run Try.prog w=.ok (.enter 80 args) w:=enters_of Try.func80 (by kernel_rfl) rfl;have e167:∀args w,(callFunc 81 args).run Try.prog w=.ok (.enter 81 args) w:=enters_of Try.func81 (by kernel_rfl) rfl;have hp:=fun lim=>AnyF.pdqsortCmpFunc_none (P:=Try.prog) (ρ:=Try.pdqSp_ren) Try.pdqSp none cap lim (.func (.func 56) #[] #[]) w
 change ∀lim,Calls Try.prog 80 _ _ _ at hp
 have hl:Calls Try.prog 81 #[.int .u64 0] w fun e w'=>e=.returned (.int .i64 (Lib.bitLen 0:Nat))∧w'=w:=by
  have h:=Any.bits_Len (SlLaysF0.n15.bits (P:=Try.prog) (ρ:=Try.pdqSp_ren) { Try.pdqSp with }) 0 w (by omega) (by omega);exact h
 have wr:IntKind.u64.wrap 0=0:=rfl
 go_enter Try.func69,Try.ntmps69
 go_wp2_with (first|(go_at_fn 81;refine hl.mono ?_;rintro e w' ⟨rfl,rfl⟩)|(go_at_fn 80;refine (hp _).mono ?_;rintro e w' ⟨rfl,rfl⟩))
 go_end0
 exact ⟨rfl,rfl⟩
theorem V5 (p0:List mosaic_Key) (hb:p0.length<4611686018427387904) {w0 w:World} {H:List Res} {i cap:Nat} {ad:Option Addr} (hS:St w0 H w) (hi:H[i]? = some (arr 46 3 mosaic_Key.cells ad p0.length cap p0)) :
  Calls Try.prog 69 #[.slice ad p0.length cap,.func (.func 56) #[] #[]] w fun e w'=>e=.returned (.tuple #[])∧(D4 p0).length=p0.length∧St w0 (H.set i (arr 46 3 mosaic_Key.cells ad p0.length cap (D4 p0))) w':=by
 obtain ⟨s1,_,_⟩:=J4 E7 Nh p0;have hh:=hS.holds _ (List.mem_of_getElem? hi);have hk:∀x:mosaic_Key,(mosaic_Key.cells x).length=3:=fun _=>rfl
 cases ad with
 | none =>
  have h0:p0=[]:=by
   obtain ⟨_,_,hx⟩:=hh;rcases hx with ⟨_,hx⟩|⟨g,c,cur,hv,_⟩
   ·exact List.length_eq_zero_iff.1 hx
   ·cases hv
  subst h0;refine (Ql cap w).mono ?_;rintro e w' ⟨rfl,rfl⟩;have e0:D4 ([]:List mosaic_Key)=[]:=List.length_eq_zero_iff.1 (show (Po E7 ([]:List mosaic_Key)).length=0 from s1);rw [e0];refine ⟨rfl,rfl,?_⟩;have:H.set i (arr 46 3 mosaic_Key.cells none ([]:List mosaic_Key).length cap [])=H:=by
   apply List.ext_getElem?;intro j;rw [List.getElem?_set]
   split
   ·rename_i hij;subst hij;split
    ·exact hi.symm
    ·rename_i hlt;rw [List.getElem?_eq_none (by omega)]
   ·rfl
  rw [this];exact hS
 | some a =>
  have hh':=hh;obtain ⟨_,_,hx⟩:=hh';rcases hx with ⟨hx,_⟩|⟨g,c,cur,hv,_⟩
  ·cases hx
  ·cases hv
   have hrow:(arr 46 3 mosaic_Key.cells (some ⟨g,0,none⟩) p0.length cap p0).holds w:=hh;have hsz:p0.toArray.size<4611686018427387904:=by simpa using hb
   have hH:=Tf hk (by decide) hrow;have hc:=Wl g cap p0.toArray w hH.1 hH.2 hsz;have e1:p0.toArray.size=p0.length:=by simp
   rw [e1] at hc;refine hc.mono ?_;rintro e w' ⟨rfl,m,os,rfl⟩;have hd:(pdq (ltOf E7) p0.toArray 0 p0.length (Lib.bitLen p0.length) true true).toList=D4 p0:=rfl;have hds:(pdq (ltOf E7) p0.toArray 0 p0.length (Lib.bitLen p0.length) true true).size=p0.length:=by
    rw [←Array.length_toList,hd];exact s1
   refine ⟨rfl,s1,?_⟩;have:=Tu hk (by decide) hS hi _ hds m os;rw [hd] at this;exact this
theorem Sj {l l':List mosaic_Key} (h:l.Perm l'):D4 l=D4 l':=by
 obtain ⟨_,p1,s1⟩:=J4 E7 Nh l;obtain ⟨_,p2,s2⟩:=J4 E7 Nh l';refine List.Perm.eq_of_pairwise (le:=fun x y=>ltOf E7 y x=false) ?_ s1 s2 (p1.trans (h.trans p2.symm));intro x y _ _ hx hy;rcases Qb x y with h|h|h
 ·rw [(Ly _ _).2 h] at hy;cases hy
 ·exact h
 ·rw [(Ly _ _).2 h] at hx;cases hx
end Go.Proofs.Ytkbjbnkkfifbmaa
