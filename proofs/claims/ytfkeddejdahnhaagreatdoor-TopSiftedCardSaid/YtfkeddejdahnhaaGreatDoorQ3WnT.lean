import Derived.Test.YtfkeddejdahnhaaGreatDoorQ3WkI
set_option linter.unusedVariables false
set_option linter.unusedSimpArgs false
set_option linter.unusedSectionVars false
namespace Go.Proofs.YtfkeddejdahnhaaGreatDoor
open Go Go.RowKit Go.Eng Go.Sort Go.Shelf Go.Lib
set_option maxRecDepth 100000
theorem A7i (a:Array Int):∀(m i:Nat),i+m=a.size->0<i->((List.range' i m).filter (keeps a)).map (a[·]!)=Xl a[i-1]! (a.toList.drop i)
 | 0,i,h,_=>by
  rw [List.drop_eq_nil_of_le (by simp;omega)];rfl
 | m+1,i,h,h0=>by
  have hi:i<a.size:=om
  have e:a.toList.drop i=a[i]!::a.toList.drop (i+1):=by
   rw [List.drop_eq_getElem_cons (by simpa using hi),getElem!_pos a i hi];simp
  have ih:=A7i a m (i+1) om om;rw [Nat.add_sub_cancel] at ih;rw [List.range'_succ,e];unfold Xl;have hk:keeps a i = !((a[i]!)==(a[i-1]!)):=by
   unfold keeps;simp [show ¬i=0 by omega]
   by_cases hh:a[i]! = a[i-1]!<;>simp [hh]
  cases hq:((a[i]!)==(a[i-1]!)) with
  | true =>
   rw [hq] at hk;rw [List.filter_cons_of_neg (by rw [hk];decide),ih,eq_of_beq hq];rfl
  | false =>
   rw [hq] at hk;rw [List.filter_cons_of_pos (by rw [hk];rfl),List.map_cons,ih];rfl
theorem B3y (l:List Int):Lib.compact l=S5 l:=by
 unfold Lib.compact compactUpTo
 match l with
 | []=>rfl
 | x::m =>
  have h:=A7i (x::m).toArray m.length 1 (by simp;omega) om;rw [List.range_eq_range',List.length_cons,List.range'_succ,List.filter_cons_of_pos (by simp [keeps]),List.map_cons,h];simp [S5]
theorem A15:∀(l:List Int) (x:Int),(Xl x l).length<=l.length
 | [],_=>Nat.le_refl _
 | y::l,x=>by
  unfold Xl
  cases (y==x) with
  | true=>exact Nat.le_trans (A15 l y) (Nat.le_succ _)
  | false=>exact Nat.succ_le_succ (A15 l y)
theorem B0p:∀l:List Int,(S5 l).length<=l.length
 | []=>Nat.le_refl _
 | x::l=>Nat.succ_le_succ (A15 l x)
theorem B5b {w:World} {K L:List Int} {g cap:Nat} (h:(arr 3 1 fI (some ⟨g,0,none⟩) (K++L).length cap (K++L)).holds w):(arr 3 1 fI (some ⟨g,0,none⟩) K.length cap K).holds w:=by
 obtain ⟨h1,h2,h⟩:=h;refine ⟨rfl,by simp [Kr D8],?_⟩;rcases h with ⟨hn,h⟩|⟨g',c,cur,hv,hb0,hg,hnc,hcm,hcs,hct⟩
 ·cases hn
 ·cases hv
  right;refine ⟨g,cap,cur,rfl,hb0,hg,by simp at hnc;omega,hcm,hcs,?_⟩;have h3:=congrArg (List.take (K.length*1)) hct;rw [List.take_take,Nat.min_eq_left sm,List.flatMap_append,List.take_append_of_le_length (by rw [Kr D8];omega),List.take_of_length_le (l:=List.flatMap fI K) (by rw [Kr D8];omega)] at h3;exact h3
theorem Y0 (F:Nat) (p0 res:List Int) (h:Q5 F p0=some res) {w0 w:World} {H:List Res} {i cap:Nat} {ad:Option Addr} (hS:St w0 H w) (hi:H[i]? = some (arr 3 1 fI ad p0.length cap p0)) :
  Calls Tryz.prog 120 #[.slice ad p0.length cap] w λe w'=>e=.returned (.slice ad res.length cap)/\St w0 (H.set i (arr 3 1 fI ad res.length cap res)) w':=by
 unfold Q5 at h
 split at h
 ·rename_i hl
  cases h
  have hh:=hS.holds _ (List.mem_of_getElem? hi);have same:∀{R:Res},H[i]? = some R->H.set i R=H:=by
   intro R hR;apply List.ext_getElem?;intro j;rw [List.getElem?_set]
   split
   ·rename_i hij;subst hij;split
    ·exact hR.symm
    ·rename_i hlt;rw [List.getElem?_eq_none om]
   ·rfl
  cases ad with
  | none =>
   have h0:p0=[]:=by
    obtain ⟨_,_,hx⟩:=hh;rcases hx with ⟨_,hx⟩|⟨g,c,cur,hv,_⟩
    ·exact List.length_eq_zero_iff.1 hx
    ·cases hv
   subst h0;refine (Any.slices_Compact_int_empty (P:=Tryz.prog) (ρ:=Tryz.cmpI_ren) Tryz.cmpI none cap w).mono ?_;rintro e w' ⟨rfl,rfl⟩;refine ⟨rfl,?_⟩;show St w0 (H.set i (arr 3 1 fI none ([]:List Int).length cap [])) w';rw [same hi];exact hS
  | some a =>
   obtain ⟨_,_,hx⟩:=id hh;rcases hx with ⟨hx,_⟩|⟨g,c,cur,hv,_,_,hnc,_⟩
   ·cases hx
   ·cases hv
    have hK:=Zh D8 dc hh;refine (Any.slices_Compact_int (P:=Tryz.prog) (ρ:=Tryz.cmpI_ren) Tryz.cmpI g 0 cap p0 w (B1i hK.1) om hnc).mono ?_;rintro e w' ⟨rfl,m,rfl⟩;rw [B3y];refine ⟨rfl,?_⟩;have hle:=B0p p0;rw [C0d];have hs:=Zu D8 dc hS hi (S5 p0++List.replicate (p0.length-(S5 p0).length) 0).toArray (by simp;omega) m #[];have hw:sortWorldK fI 1 w g 0 m (S5 p0++List.replicate (p0.length-(S5 p0).length) 0).toArray #[]=putRowK fI 1 (Sort.ahead w m) g 0 (S5 p0++List.replicate (p0.length-(S5 p0).length) 0).toArray:=B1f _;rw [hw] at hs;generalize putRowK fI 1 (Sort.ahead w m) g 0 (S5 p0++List.replicate (p0.length-(S5 p0).length) 0).toArray=W at *;have hlt:=(List.getElem?_eq_some_iff.1 hi).1;have e1:(S5 p0++List.replicate (p0.length-(S5 p0).length) 0).length=p0.length:=by simp;omega
    have hi2:(H.set i (arr 3 1 fI (some ⟨g,0,none⟩) p0.length cap (S5 p0++List.replicate (p0.length-(S5 p0).length) 0)))[i]? = some (arr 3 1 fI (some ⟨g,0,none⟩) p0.length cap (S5 p0++List.replicate (p0.length-(S5 p0).length) 0)):=by
     rw [List.getElem?_set_self hlt]
    have h3:(arr 3 1 fI (some ⟨g,0,none⟩) (S5 p0++List.replicate (p0.length-(S5 p0).length) 0).length cap (S5 p0++List.replicate (p0.length-(S5 p0).length) 0)).holds W:=by
     rw [e1];exact hs.holds _ (List.mem_of_getElem? hi2)
    have:=hs.upd hi2 rfl rfl rfl (Nat.le_refl _) (λ_ _ _=>rfl) (B5b h3) (λk hk=>.inl hk);rw [List.set_set] at this;exact this
 ·cases h
end Go.Proofs.YtfkeddejdahnhaaGreatDoor
