import Derived.Test.YtbhjgebjojdohaaF10XD
set_option linter.unusedVariables false
set_option linter.unusedSimpArgs false
set_option linter.unusedSectionVars false
namespace Go.Proofs.Ytbhjgebjojdohaa
open Go Go.RowKit Go.Eng
set_option maxRecDepth 10000
set_option linter.unusedVariables false
set_option linter.unusedSimpArgs false
theorem ckb {β:Type} {x:Int} {f:Int→Option β} (h:-9000000000000000000≤x∧x≤9000000000000000000):(ck x).bind f=f x:=by
 unfold ck;rw [if_pos (by omega)];rfl
theorem ck1 {x:Int} (h:-9000000000000000000≤x∧x≤9000000000000000000):ck x=some x:=by
 unfold ck;rw [if_pos (by omega)]
theorem gdT {α:Type} {g:Bool} {o:Option α} {d:α} (h:g=true):gd g o d=o:=by subst h;rfl
theorem gdF {α:Type} {g:Bool} {o:Option α} {d:α} (h:g=false):gd g o d=some d:=by subst h;rfl
theorem Bs {α:Type} {c:Bool} {x y:α} (h:c=true):(bif c then x else y)=x:=by rw [h];rfl
theorem B9 {α:Type} {c:Bool} {x y:α} (h:c=false):(bif c then x else y)=y:=by rw [h];rfl
theorem sb {α β:Type} {x:α} {f:α→Option β}:(some x).bind f=f x:=rfl
theorem Jh {α β:Type} {l:List α} {i:Int} {f:α→Option β} (d:α) (h:0≤i∧i<l.length):(Ad l i).bind f=f (l.getD i.toNat d):=by
 unfold Ad
 rw [if_pos h.1,List.getElem?_eq_getElem (by omega),List.getD_eq_getElem?_getD,List.getElem?_eq_getElem (by omega)]
 rfl
theorem K0 {α β:Type} {l k:List α} {B:Nat} {f:List α→Option β} (h:(l.length+k.length)*B≤140737488355328∧l.length+k.length≤9223372036854775807):(apd B l k).bind f=f (l++k):=by
 unfold apd
 rw [if_pos h]
 rfl
end Go.Proofs.Ytbhjgebjojdohaa
namespace Go.Proofs.Ytbhjgebjojdohaa
open Go Go.RowKit Go.Eng
set_option maxRecDepth 10000
set_option linter.unusedVariables false
set_option linter.unusedSimpArgs false
def us (t:ref02_Train) (w:Int):Int:=if w=0 then t.First else t.Second
def spd (t:ref02_Train) (w:Int) (s:api_Span) (k:Int):api_Span :=
 ⟨500*t.Lambda*(s.Lo+k*65536)/(65536*us t w),-(-(500*t.Lambda*(s.Hi+k*65536))/(65536*us t w))⟩
def Lx (a b:api_Span):api_Span:=⟨if b.Lo>a.Lo then b.Lo else a.Lo,if b.Hi<a.Hi then b.Hi else a.Hi⟩
theorem Ty (a b:api_Span):Aa a b=(Lx a b,decide ((Lx a b).Lo≤(Lx a b).Hi)):=rfl
theorem Vh (a b:api_Span):L7 a b=(Lx a b,decide ((Lx a b).Lo≤(Lx a b).Hi)):=rfl
def A9u (x:api_Echo) (w:Int):api_Span:=if w=0 then x.Steps.1 else x.Steps.2
def spw (t:ref02_Train) (x:api_Echo) (m:Int) (w k:Int):api_Span:=Lx (spd t w (A9u x w) k) ⟨-m,m⟩
def isw (t:ref02_Train) (x:api_Echo) (m:Int) (w k:Int):Bool:=decide ((spw t x m w k).Lo≤(spw t x m w k).Hi)
end Go.Proofs.Ytbhjgebjojdohaa
namespace Go.Proofs.Ytbhjgebjojdohaa
open Go Go.RowKit Go.Eng
set_option maxRecDepth 10000
set_option linter.unusedVariables false
set_option linter.unusedSimpArgs false
section
variable {t:ref02_Train} {x:api_Echo} {m w:Int}
end
end Go.Proofs.Ytbhjgebjojdohaa
namespace Go.Proofs.Ytbhjgebjojdohaa
open Go Go.RowKit Go.Eng
set_option maxRecDepth 10000
set_option linter.unusedVariables false
set_option linter.unusedSimpArgs false
def Qq (s:api_Span):Bool:=decide (s.Lo≤s.Hi)
theorem E8 {α:Type} {l:List α} {i:Nat} (h:i<l.length) (d:α):l.drop i=l.getD i d::l.drop (i+1):=by
 rw [List.drop_eq_getElem_cons h,List.getD_eq_getElem?_getD,List.getElem?_eq_getElem h];rfl
section
variable {t:ref02_Train} {x:api_Echo} {m:Int}
end
end Go.Proofs.Ytbhjgebjojdohaa
namespace Go.Proofs.Ytbhjgebjojdohaa
open Go Go.RowKit Go.Eng
set_option maxRecDepth 10000
set_option linter.unusedVariables false
set_option linter.unusedSimpArgs false
def conv (g:fold_Guess):ref03_Guess:=⟨g.Whole,g.Speed⟩
section
variable {t:ref02_Train} {x:api_Echo} {m:Int}
def B07 (t:ref02_Train) (x:api_Echo) (m w:Int):Prop:=isw t x m w (-64)=true∨isw t x m w 64=true
instance (w:Int):Decidable (B07 t x m w):=by unfold B07;infer_instance
end
end Go.Proofs.Ytbhjgebjojdohaa
namespace Go.Proofs.Ytbhjgebjojdohaa
open Go Go.RowKit Go.Eng
set_option maxRecDepth 10000
set_option linter.unusedVariables false
set_option linter.unusedSimpArgs false
theorem A3e (F:Nat) (l:List api_Span) (hb:∀s∈l,spB s) (hl:l.length<4611686018427387904):∃l',F7 F l=some l'∧l'.Perm l∧l'.Pairwise (fun x y=>x.Lo≤y.Lo):=by
 unfold F7
 rw [dif_pos ⟨hb,hl⟩]
 have hlt:∀x y:{s:api_Span // spB s},Go.Proofs.ltOf Jz x y=decide (x.val.Lo<y.val.Lo):=by
  intro x y
  unfold Go.Proofs.ltOf Jz
  congr 1
  simp only [eq_iff_iff]
  omega
 have hO:Go.Sort.SWO (Go.Proofs.ltOf Jz):=by
  constructor
  ·intro x;rw [hlt];simp
  ·intro x y z h1 h2;rw [hlt] at *;simp at *;omega
  ·intro x y z h1 h2;rw [hlt] at *;simp at *;omega
 obtain ⟨_,h2,h3⟩:=Sg Jz hO (l.pmap Subtype.mk hb)
 refine ⟨_,rfl,?_,?_⟩
 ·have:=h2.map Subtype.val
  refine this.trans ?_
  rw [List.map_pmap]
  simp
 ·rw [List.pairwise_map]
  refine h3.imp ?_
  intro x y h
  rw [hlt] at h
  simpa using h
def mg:api_Span→List api_Span→List api_Span
 | c,[]=>[c]
 | c,x::xs=>if x.Lo≤c.Hi then mg ⟨c.Lo,if x.Hi>c.Hi then x.Hi else c.Hi⟩ xs else c::mg x xs
def K9:List api_Span→List api_Span
 | []=>[]
 | x::xs=>mg x xs
def closed (l:List api_Span) (H:Int):Prop:=∀x∈l,x.Lo≤H→x.Hi≤H
theorem A6u:∀(xs:List api_Span) (c:api_Span),xs.Pairwise (fun x y=>x.Lo≤y.Lo)→∃H,mg c xs=⟨c.Lo,H⟩::K9 (xs.filter (fun x=>decide (x.Lo>H)))∧c.Hi≤H∧closed xs H∧∀K,c.Hi≤K→closed xs K→H≤K:=by
 intro xs
 induction xs with
 | nil=>intro c _;exact ⟨c.Hi,rfl,Int.le_refl _,(fun x hx=>by cases hx),fun K h _=>h⟩
 | cons x xs ih =>
  intro c hs
  rw [List.pairwise_cons] at hs
  by_cases h:x.Lo≤c.Hi
  ·obtain ⟨H,h1,h2,h3,h4⟩:=ih ⟨c.Lo,if x.Hi>c.Hi then x.Hi else c.Hi⟩ hs.2
   have hc:c.Hi≤H∧x.Hi≤H:=by simp only at h2;split at h2<;>omega
   refine ⟨H,?_,hc.1,?_,?_⟩
   ·unfold mg
    rw [if_pos h,h1,List.filter_cons_of_neg (by simp;omega)]
   ·intro y hy hyl
    rcases List.mem_cons.1 hy with rfl|hy
    ·exact hc.2
    ·exact h3 y hy hyl
   ·intro K hK hcl
    have:=hcl x (by simp) (by omega)
    exact h4 K (by simp only;split<;>omega) (fun y hy=>hcl y (by simp [hy]))
  ·refine ⟨c.Hi,?_,Int.le_refl _,?_,fun K h _=>h⟩
   ·have hall:(x::xs).filter (fun x=>decide (x.Lo>c.Hi))=x::xs:=by
     rw [List.filter_eq_self]
     intro y hy
     rcases List.mem_cons.1 hy with rfl|hy
     ·simp;omega
     ·have:=hs.1 y hy;simp;omega
    rw [hall]
    unfold mg
    rw [if_neg h]
    rfl
   ·intro y hy hyl
    rcases List.mem_cons.1 hy with rfl|hy
    ·omega
    ·have:=hs.1 y hy;omega
theorem Z9 (y:List api_Span):∀(n N i:Nat) (pre:List api_Span) (c:api_Span),i+n=y.length→n<N→pre.length+n≤8000000000000→y.length≤8000000000000 →
  Ay y N (i:Int) (pre++[c])=some (pre++mg c (y.drop i)):=by
 intro n
 induction n with
 | zero =>
  intro N i pre c hi hN hp hi2
  obtain ⟨N,rfl⟩:∃N',N=N'+1:=⟨N-1,by omega⟩
  show Bl y (Ay y N) (i:Int) (pre++[c])=_
  unfold Bl
  rw [B9 (by simp;omega),List.drop_eq_nil_of_le (by omega)]
  rfl
 | succ n ih =>
  intro N i pre c hi hN hp hi2
  obtain ⟨N,rfl⟩:∃N',N=N'+1:=⟨N-1,by omega⟩
  show Bl y (Ay y N) (i:Int) (pre++[c])=_
  unfold Bl
  rw [E8 (i:=i) (by omega) default]
  rw [Bs (by simp;omega),Jh default (by omega),Int.toNat_natCast]
  generalize y.getD i default=x
  have hlen:(pre++[c]).length=pre.length+1:=by simp
  have hpos:decide ((((pre++[c]).length:Nat):Int)>0)=true:=by rw [hlen];simp
  have hidx:((((pre++[c]).length:Nat):Int)-1)=(pre.length:Nat):=by rw [hlen];omega
  have hget:(pre++[c]).getD pre.length default=c:=by simp [List.getD_eq_getElem?_getD]
  simp only [hpos]
  rw [gdT (g:=true==true&&true) rfl,ckb (by rw [hlen];omega),gdT (g:=true==true&&true) rfl,hidx,Jh default (by rw [hlen];omega),Int.toNat_natCast,hget]
  unfold Cr
  have hck:∀(l:List api_Span),(ck ((i:Int)+1)).bind (fun x179=>Ay y N x179 l)=Ay y N (((i+1:Nat):Int)) l:=fun l=>by rw [ckb (by omega),Int.natCast_add];rfl
  by_cases h:x.Lo≤c.Hi
  ·refine Eq.trans (Bs (by simpa using h)) ?_
   rw [ckb (by omega),ckb (by omega),Jh default (by rw [hlen];omega),Jh default (by rw [hlen];omega),Int.toNat_natCast,hget]
   unfold D1
   rw [if_pos (by rw [hlen];omega),sb,Int.toNat_natCast,hck]
   have hset:(pre++[c]).set pre.length ⟨c.Lo,if x.Hi>c.Hi then x.Hi else c.Hi⟩=pre++[⟨c.Lo,if x.Hi>c.Hi then x.Hi else c.Hi⟩]:=by simp
   rw [hset,ih N (i+1) _ _ (by omega) (by omega) (by omega) (by omega)]
   conv=>rhs;unfold mg
   rw [if_pos h]
  ·refine Eq.trans (B9 (by simpa using h)) ?_
   rw [K0 (by rw [hlen];simp;omega),hck,ih N (i+1) (pre++[c]) x (by omega) (by omega) (by rw [hlen];omega) (by omega)]
   conv=>rhs;unfold mg
   rw [if_neg h]
   simp
theorem Vl (F:Nat) (y:List api_Span) (hy:y.length<F) (hl:y.length≤1000000000000):Ay y F 0 []=some (K9 y):=by
 obtain ⟨N,rfl⟩:∃N',F=N'+1:=⟨F-1,by omega⟩
 show Bl y (Ay y N) 0 []=_
 unfold Bl
 cases y with
 | nil=>rfl
 | cons x xs =>
  have hpos:decide (((([]:List api_Span).length:Nat):Int)>0)=false:=rfl
  rw [Bs (by simp),Jh default (by simp)]
  simp only [hpos]
  rw [gdF (g:=false==true&&true) rfl,sb,gdF (g:=false==true&&true) rfl,sb]
  refine Eq.trans (B9 rfl) ?_
  rw [K0 (by simp)]
  unfold Cr
  rw [ckb (by omega)]
  have:=Z9 (x::xs) xs.length N 1 [] x (by simp;omega) (by simp at hy;omega) (by simp at hl ⊢;omega) (by omega)
  exact this
theorem A3k (F:Nat) (l:List api_Span) (hF:l.length<F) (hl:l.length≤1000000000000) (hb:∀s∈l,spB s):∃l',C0 F l=some (K9 l')∧l'.Perm l∧l'.Pairwise (fun x y=>x.Lo≤y.Lo):=by
 obtain ⟨l',h1,h2,h3⟩:=A3e F l hb (by omega)
 refine ⟨l',?_,h2,h3⟩
 unfold C0 Aw
 have hlen:=h2.length_eq
 rw [K0 (by simp;omega),sb,List.nil_append,h1,sb,Vl F l' (by omega) (by omega)]
section
variable {out left:List api_Span} {k2:List api_Span→List api_Span→Option (List api_Span)}
theorem Y2 (hl:left.length≤1000000000000) (ho:out.length≤1000000000000) (m H:Int):∀(n N i:Nat) (acc:List api_Span),i+n=left.length→n<N→acc.length+n≤8000000000000 →
  Eh out left k2 m H N (i:Int) acc=k2 (out++[⟨m,H⟩]) (acc++(left.drop i).filter (fun x=>decide (x.Lo>H))):=by
 intro n
 induction n with
 | zero =>
  intro N i acc hi hN ha
  obtain ⟨N,rfl⟩:∃N',N=N'+1:=⟨N-1,by omega⟩
  show Gj out left k2 m H (Eh out left k2 m H N) (i:Int) acc=_
  unfold Gj
  rw [B9 (by simp;omega),List.drop_eq_nil_of_le (by omega)]
  unfold Nh
  rw [K0 (by simp;omega)]
  simp
 | succ n ih =>
  intro N i acc hi hN ha
  obtain ⟨N,rfl⟩:∃N',N=N'+1:=⟨N-1,by omega⟩
  show Gj out left k2 m H (Eh out left k2 m H N) (i:Int) acc=_
  unfold Gj
  rw [E8 (i:=i) (by omega) default]
  rw [Bs (by simp;omega),Jh default (by omega),Jh default (by omega),Int.toNat_natCast]
  generalize left.getD i default=x
  unfold Kz
  have hck:∀(l:List api_Span),(ck ((i:Int)+1)).bind (fun x2455=>Eh out left k2 m H N x2455 l)=Eh out left k2 m H N (((i+1:Nat):Int)) l:=fun l=>by rw [ckb (by omega),Int.natCast_add];rfl
  by_cases h:x.Lo>H
  ·rw [Bs (by simpa using h),K0 (by simp;omega),hck,ih N (i+1) _ (by omega) (by omega) (by simp;omega),List.filter_cons_of_pos (by simpa using h)]
   simp
  ·rw [B9 (by simpa using h),hck,ih N (i+1) _ (by omega) (by omega) (by omega),List.filter_cons_of_neg (by simpa using h)]
def pass:Int→Bool→List api_Span→Int×Bool
 | H,c,[]=>(H,c)
 | H,c,x::xs=>if x.Lo≤H∧x.Hi>H then pass x.Hi true xs else pass H c xs
theorem A30:∀(xs:List api_Span) (H:Int),(pass H true xs).2=true:=by
 intro xs
 induction xs with
 | nil=>intro H;rfl
 | cons x xs ih=>intro H;unfold pass;split<;>exact ih _
theorem A74:∀(xs:List api_Span) (H:Int) (c:Bool),H≤(pass H c xs).1:=by
 intro xs
 induction xs with
 | nil=>intro H c;exact Int.le_refl _
 | cons x xs ih =>
  intro H c
  unfold pass
  split
  ·have:=ih x.Hi true;omega
  ·exact ih H c
theorem A5k:∀(xs:List api_Span) (H:Int) (c:Bool) (K:Int),H≤K→closed xs K→(pass H c xs).1≤K:=by
 intro xs
 induction xs with
 | nil=>intro H c K h _;exact h
 | cons x xs ih =>
  intro H c K h hc
  unfold pass
  split
  ·rename_i hx
   exact ih _ _ K (hc x (by simp) (by omega)) (fun y hy=>hc y (by simp [hy]))
  ·exact ih _ _ K h (fun y hy=>hc y (by simp [hy]))
theorem Uo:∀(xs:List api_Span) (H:Int),(pass H false xs).2=false→(pass H false xs).1=H∧closed xs H:=by
 intro xs
 induction xs with
 | nil=>intro H _;exact ⟨rfl,fun x hx=>by cases hx⟩
 | cons x xs ih =>
  intro H h
  unfold pass at h ⊢
  split
  ·rename_i hx
   rw [if_pos hx,A30] at h
   cases h
  ·rename_i hx
   rw [if_neg hx] at h
   obtain ⟨h1,h2⟩:=ih H h
   refine ⟨h1,?_⟩
   intro y hy hyl
   rcases List.mem_cons.1 hy with rfl|hy
   ·omega
   ·exact h2 y hy hyl
theorem W6:∀(xs:List api_Span) (H:Int) (c:Bool),(pass H c xs).1=H∨(H<(pass H c xs).1∧∃x∈xs,x.Hi=(pass H c xs).1):=by
 intro xs
 induction xs with
 | nil=>intro H c;exact .inl rfl
 | cons x xs ih =>
  intro H c
  unfold pass
  split
  ·rename_i hx
   rcases ih x.Hi true with h|⟨h,y,hy,hyh⟩
   ·rw [h];exact .inr ⟨by omega,x,by simp,rfl⟩
   ·exact .inr ⟨by omega,y,by simp [hy],hyh⟩
  ·rcases ih H c with h|⟨h,y,hy,hyh⟩
   ·exact .inl h
   ·exact .inr ⟨h,y,by simp [hy],hyh⟩
theorem W7:∀(xs:List api_Span) (H:Int),(pass H false xs).1=H→(pass H false xs).2=false:=by
 intro xs
 induction xs with
 | nil=>intro H _;rfl
 | cons x xs ih =>
  intro H h
  unfold pass at h ⊢
  split
  ·rename_i hx
   rw [if_pos hx] at h
   have:=A74 xs x.Hi true
   omega
  ·rename_i hx
   rw [if_neg hx] at h
   exact ih H h
theorem Wa (hl:left.length≤1000000000000) (k8:Int→Bool→Option (List api_Span)):∀(n N i:Nat) (H:Int) (c:Bool),i+n=left.length→n<N →
  Ei left k8 N H c (i:Int)=k8 (pass H c (left.drop i)).1 (pass H c (left.drop i)).2:=by
 intro n
 induction n with
 | zero =>
  intro N i H c hi hN
  obtain ⟨N,rfl⟩:∃N',N=N'+1:=⟨N-1,by omega⟩
  show Gk left k8 (Ei left k8 N) H c (i:Int)=_
  unfold Gk
  rw [B9 (by simp;omega),List.drop_eq_nil_of_le (by omega)]
  rfl
 | succ n ih =>
  intro N i H c hi hN
  obtain ⟨N,rfl⟩:∃N',N=N'+1:=⟨N-1,by omega⟩
  show Gk left k8 (Ei left k8 N) H c (i:Int)=_
  unfold Gk
  rw [E8 (i:=i) (by omega) default]
  rw [Bs (by simp;omega),Jh default (by omega),Int.toNat_natCast]
  have hgb:∀{β:Type} (f:api_Span→Option β),(Ad left (i:Int)).bind f=f (left.getD i default):=fun f=>by rw [Jh default (by omega),Int.toNat_natCast]
  obtain ⟨x,hx⟩:∃x,left.getD i default=x:=⟨_,rfl⟩
  rw [hx] at hgb ⊢
  unfold Kc
  have hck:∀(H:Int) (c:Bool),(ck ((i:Int)+1)).bind (fun x2575=>Ei left k8 N H c x2575)=Ei left k8 N H c (((i+1:Nat):Int)):=fun H c=>by rw [ckb (by omega),Int.natCast_add];rfl
  by_cases h1:x.Lo≤H
  ·have e1:decide (x.Lo≤H)=true:=by simpa using h1
   rw [e1,gdT (g:=true==true&&true) rfl,hgb]
   by_cases h2:x.Hi>H
   ·rw [Bs (by simpa using h2),hgb,hck,ih N (i+1) _ _ (by omega) (by omega)]
    conv=>rhs;unfold pass
    rw [if_pos ⟨h1,h2⟩]
   ·rw [B9 (by simpa using h2),hck,ih N (i+1) _ _ (by omega) (by omega)]
    conv=>rhs;unfold pass
    rw [if_neg (by omega)]
  ·have e1:decide (x.Lo≤H)=false:=by simpa using h1
   rw [e1,gdF (g:=false==true&&true) rfl,sb]
   refine Eq.trans (B9 rfl) ?_
   rw [hck,ih N (i+1) _ _ (by omega) (by omega)]
   conv=>rhs;unfold pass
   rw [if_neg (by omega)]
theorem A2d (F:Nat) (hF:left.length<F) (hl:left.length≤1000000000000) (m:Int):∀(q N:Nat) (H:Int),(left.filter (fun x=>decide (x.Hi>H))).length≤q→q+2≤N →
  ∃H',Dw F out left k2 m N H true=Ky F out left k2 m H'∧H≤H'∧closed left H'∧∀K,H≤K→closed left K→H'≤K:=by
 intro q
 induction q with
 | zero =>
  intro N H hq hN
  obtain ⟨N,rfl⟩:∃N',N=N'+2:=⟨N-2,by omega⟩
  have hs:=Wa (left:=left) hl (Dw F out left k2 m (N+1)) left.length F 0 H false (by omega) hF
  rw [List.drop_zero] at hs
  have hno:(pass H false left).1=H:=by
   rcases W6 left H false with h|⟨h,x,hx,hxh⟩
   ·exact h
   ·have:x∈left.filter (fun x=>decide (x.Hi>H)):=List.mem_filter.2 ⟨hx,by simp;omega⟩
    have:=List.length_pos_of_mem this
    omega
  have h2:=W7 left H hno
  rw [hno,h2] at hs
  refine ⟨H,?_,Int.le_refl _,(Uo left H h2).2,fun K h _=>h⟩
  show Eg F out left k2 m (Dw F out left k2 m (N+1)) H true=_
  unfold Eg
  refine Eq.trans (Bs rfl) (Eq.trans hs ?_)
  rfl
 | succ q ih =>
  intro N H hq hN
  obtain ⟨N,rfl⟩:∃N',N=N'+2:=⟨N-2,by omega⟩
  have hs:=Wa (left:=left) hl (Dw F out left k2 m (N+1)) left.length F 0 H false (by omega) hF
  rw [List.drop_zero] at hs
  cases h2:(pass H false left).2 with
  | false =>
   obtain ⟨h3,h4⟩:=Uo left H h2
   rw [h3,h2] at hs
   refine ⟨H,?_,Int.le_refl _,h4,fun K h _=>h⟩
   show Eg F out left k2 m (Dw F out left k2 m (N+1)) H true=_
   unfold Eg
   refine Eq.trans (Bs rfl) (Eq.trans hs ?_)
   rfl
  | true =>
   rw [h2] at hs
   have hne:(pass H false left).1≠H:=fun h=>by rw [W7 left H h] at h2;cases h2
   rcases W6 left H false with h|⟨h,x,hx,hxh⟩
   ·exact absurd h hne
   have hlt:(left.filter (fun x=>decide (x.Hi>(pass H false left).1))).length<(left.filter (fun x=>decide (x.Hi>H))).length:=by
    have e:left.filter (fun x=>decide (x.Hi>(pass H false left).1))=(left.filter (fun x=>decide (x.Hi>H))).filter (fun x=>decide (x.Hi>(pass H false left).1)):=by
     rw [List.filter_filter]
     apply List.filter_congr
     intro y _
     simp
     omega
    rw [e]
    apply List.length_filter_lt_length_iff_exists.2
    exact ⟨x,List.mem_filter.2 ⟨hx,by simp;omega⟩,by simp;omega⟩
   obtain ⟨H',e1,e2,e3,e4⟩:=ih (N+1) (pass H false left).1 (by omega) (by omega)
   refine ⟨H',?_,by omega,e3,fun K hK hc=>e4 K (A5k left H false K hK hc) hc⟩
   show Eg F out left k2 m (Dw F out left k2 m (N+1)) H true=_
   unfold Eg
   exact Eq.trans (Bs rfl) (Eq.trans hs e1)
theorem A4t (F:Nat) (hl:left.length≤1000000000000):∀(n N i:Nat) (m h:Int),i+n=left.length→n<N →
  ∃m' h',D9 F out left k2 N m h (i:Int)=Kx F out left k2 m' h'∧m'≤m∧(∀x∈left.drop i,m'≤x.Lo)∧((m'=m∧h'=h)∨∃x∈left.drop i,x.Lo=m'∧x.Hi=h'):=by
 intro n
 induction n with
 | zero =>
  intro N i m h hi hN
  obtain ⟨N,rfl⟩:∃N',N=N'+1:=⟨N-1,by omega⟩
  refine ⟨m,h,?_,Int.le_refl _,?_,.inl ⟨rfl,rfl⟩⟩
  ·show Dy F out left k2 (D9 F out left k2 N) m h (i:Int)=_
   unfold Dy
   rw [B9 (by simp;omega)]
  ·rw [List.drop_eq_nil_of_le (by omega)];intro x hx;cases hx
 | succ n ih =>
  intro N i m h hi hN
  obtain ⟨N,rfl⟩:∃N',N=N'+1:=⟨N-1,by omega⟩
  have hgb:∀{β:Type} (f:api_Span→Option β),(Ad left (i:Int)).bind f=f (left.getD i default):=fun f=>by rw [Jh default (by omega),Int.toNat_natCast]
  rw [E8 (i:=i) (by omega) default]
  obtain ⟨x,hx⟩:∃x,left.getD i default=x:=⟨_,rfl⟩
  rw [hx] at hgb ⊢
  have hck:∀(a b:Int),(ck ((i:Int)+1)).bind (fun x2608=>D9 F out left k2 N a b x2608)=D9 F out left k2 N a b (((i+1:Nat):Int)):=fun a b=>by rw [ckb (by omega),Int.natCast_add];rfl
  by_cases hlt:x.Lo<m
  ·obtain ⟨m',h',e1,e2,e3,e4⟩:=ih N (i+1) x.Lo x.Hi (by omega) (by omega)
   refine ⟨m',h',?_,by omega,?_,?_⟩
   ·show Dy F out left k2 (D9 F out left k2 N) m h (i:Int)=_
    unfold Dy Hf
    rw [Bs (by simp;omega),hgb,Bs (by simpa using hlt),hgb,hck,e1]
   ·intro y hy
    rcases List.mem_cons.1 hy with rfl|hy
    ·exact e2
    ·exact e3 y hy
   ·rcases e4 with ⟨rfl,rfl⟩|⟨y,hy,e⟩
    ·exact .inr ⟨x,by simp,rfl,rfl⟩
    ·exact .inr ⟨y,by simp [hy],e⟩
  ·obtain ⟨m',h',e1,e2,e3,e4⟩:=ih N (i+1) m h (by omega) (by omega)
   refine ⟨m',h',?_,by omega,?_,?_⟩
   ·show Dy F out left k2 (D9 F out left k2 N) m h (i:Int)=_
    unfold Dy Hf
    rw [Bs (by simp;omega),hgb,B9 (by simpa using hlt),hck,e1]
   ·intro y hy
    rcases List.mem_cons.1 hy with rfl|hy
    ·omega
    ·exact e3 y hy
   ·rcases e4 with h|⟨y,hy,e⟩
    ·exact .inl h
    ·exact .inr ⟨y,by simp [hy],e⟩
end
theorem A0a (F:Nat):∀(n N:Nat) (out left σ:List api_Span),left.length≤n→n<N→n+3≤F→n≤1000000000000→out.length+n≤1000000000000→σ.Perm left→σ.Pairwise (fun x y=>x.Lo≤y.Lo)→(∀x∈left,x.Lo≤x.Hi) →
  Dv F N out left=some (out++K9 σ):=by
 intro n
 induction n with
 | zero =>
  intro N out left σ hl hN hF hn ho hp hs hv
  obtain ⟨N,rfl⟩:∃N',N=N'+1:=⟨N-1,by omega⟩
  have:left=[]:=List.length_eq_zero_iff.1 (by omega)
  subst this
  have:σ=[]:=List.Perm.eq_nil hp
  subst this
  show Gi F (Dv F N) out []=_
  simp [Gi,Kw,K9]
 | succ n ih =>
  intro N out left σ hl hN hF hn ho hp hs hv
  obtain ⟨N,rfl⟩:∃N',N=N'+1:=⟨N-1,by omega⟩
  show Gi F (Dv F N) out left=_
  unfold Gi
  cases σ with
  | nil =>
   have:left=[]:=List.Perm.eq_nil hp.symm
   subst this
   simp [Kw,K9]
  | cons x1 xs =>
   have hlen:=hp.length_eq
   simp at hlen
   rw [Bs (by simp;omega),Jh default (by omega)]
   have hm0:left.getD (0:Int).toNat default∈left:=by
    show left.getD 0 default∈left
    rw [List.getD_eq_getElem?_getD,List.getElem?_eq_getElem (by omega:0<left.length)]
    exact List.getElem_mem _
   generalize left.getD (0:Int).toNat default=u at *
   obtain ⟨m,h,e1,e2,e3,e4⟩:=A4t (out:=out) (left:=left) (k2:=Dv F N) F (by omega) left.length F 0 u.Lo u.Hi (by omega) (by omega)
   refine Eq.trans e1 ?_
   rw [List.drop_zero] at e3 e4
   obtain ⟨s,hsl,hs1,hs2⟩:∃s∈left,s.Lo=m∧s.Hi=h:=by
    rcases e4 with ⟨rfl,rfl⟩|⟨y,hy,e⟩
    ·exact ⟨u,hm0,rfl,rfl⟩
    ·exact ⟨y,hy,e⟩
   rw [List.pairwise_cons] at hs
   have hx1:x1∈left:=hp.mem_iff.1 (by simp)
   have hmx:m=x1.Lo:=by
    have h1:=e3 x1 hx1
    have h2:s∈x1::xs:=hp.mem_iff.2 hsl
    rcases List.mem_cons.1 h2 with rfl|h2
    ·exact hs1.symm
    ·have:=hs.1 s h2;omega
   have hvs:=hv s hsl
   have hvx:=hv x1 hx1
   unfold Kx
   obtain ⟨H,g1,g2,g3,g4⟩:=A2d (out:=out) (left:=left) (k2:=Dv F N) F (by omega) (by omega) m left.length F h (List.length_filter_le _ _) (by omega)
   rw [g1]
   unfold Ky
   have hf:=Y2 (out:=out) (left:=left) (k2:=Dv F N) (by omega) (by omega) m H left.length F 0 [] (by omega) (by omega) (by simp;omega)
   refine Eq.trans hf ?_
   rw [List.drop_zero,List.nil_append]
   obtain ⟨H2,q1,q2,q3,q4⟩:=A6u xs x1 hs.2
   have hc2:closed left H2:=by
    intro y hy hyl
    rcases List.mem_cons.1 (hp.mem_iff.2 hy) with rfl|hy
    ·exact q2
    ·exact q3 y hy hyl
   have hHH:H=H2:=by
    apply Int.le_antisymm
    ·exact g4 H2 (by have:=hc2 s hsl (by omega);omega) hc2
    ·exact q4 H (g3 x1 hx1 (by omega)) (fun y hy=>g3 y (hp.mem_iff.1 (by simp [hy])))
   subst hHH
   have hfx:(x1::xs).filter (fun x=>decide (x.Lo>H))=xs.filter (fun x=>decide (x.Lo>H)):=List.filter_cons_of_neg (by simp;omega)
   have hpf:(xs.filter (fun x=>decide (x.Lo>H))).Perm (left.filter (fun x=>decide (x.Lo>H))):=by
    rw [←hfx];exact hp.filter _
   have hfl:(left.filter (fun x=>decide (x.Lo>H))).length≤n:=by
    have h1:=hpf.length_eq
    have h2:=List.length_filter_le (fun x:api_Span=>decide (x.Lo>H)) xs
    omega
   rw [ih N _ _ _ hfl (by omega) (by omega) (by omega) (by simp;omega) hpf (hs.2.filter _) (fun x hx=>hv x (List.mem_filter.1 hx).1)]
   show _=some (out++mg x1 xs)
   rw [q1,hmx]
   simp
theorem Vi (F:Nat) (l σ:List api_Span) (hl:l.length≤1000000000000) (hF:l.length+3<F) (hp:σ.Perm l) (hs:σ.Pairwise (fun x y=>x.Lo≤y.Lo)) (hv:∀x∈l,x.Lo≤x.Hi):Fh F l=some (K9 σ):=by
 unfold Fh
 rw [K0 (by simp;omega),List.nil_append,A0a F l.length F [] l σ (Nat.le_refl _) (by omega) (by omega) (by omega) (by simp;omega) hp hs hv,List.nil_append]
def A6y (s:api_Span):Bool:=decide (s.Lo≤s.Hi∧-200000≤s.Lo∧s.Hi≤200000)
theorem U8 (a:List api_Span) (ha:a.length≤1000000000000):∀(n N i:Nat),i+n=a.length→n<N→F5 a a N (i:Int)=some true:=by
 intro n
 induction n with
 | zero =>
  intro N i hi hN
  obtain ⟨N,rfl⟩:∃N',N=N'+1:=⟨N-1,by omega⟩
  show F4 a a (F5 a a N) (i:Int)=_
  unfold F4
  rw [B9 (by simp;omega)]
  rfl
 | succ n ih =>
  intro N i hi hN
  obtain ⟨N,rfl⟩:∃N',N=N'+1:=⟨N-1,by omega⟩
  show F4 a a (F5 a a N) (i:Int)=_
  unfold F4
  rw [Bs (by simp;omega),Jh default (by omega),Jh default (by omega),Int.toNat_natCast,B9 (by simp),ckb (by omega)]
  have:=ih N (i+1) (by omega) (by omega)
  rw [Int.natCast_add] at this
  exact this
theorem Wx (F:Nat) (a:List api_Span) (ha:a.length≤1000000000000) (hF:a.length<F):Kq F a a=some true:=by
 unfold Kq
 rw [B9 (by simp)]
 exact U8 a ha a.length F 0 (by omega) hF
theorem A9a:∀(xs:List api_Span) (c:api_Span),(mg c xs).length≤xs.length+1:=by
 intro xs
 induction xs with
 | nil=>intro c;simp [mg]
 | cons x xs ih =>
  intro c
  unfold mg
  split
  ·have:=ih ⟨c.Lo,if x.Hi>c.Hi then x.Hi else c.Hi⟩;rw [List.length_cons];omega
  ·have:=ih x;simp;omega
theorem A04 (l:List api_Span):(K9 l).length≤l.length:=by
 cases l with
 | nil=>simp [K9]
 | cons x xs=>exact A9a xs x
end Go.Proofs.Ytbhjgebjojdohaa
namespace Go.Proofs.Ytbhjgebjojdohaa
open Go Go.RowKit Go.Eng
set_option maxRecDepth 10000
set_option linter.unusedVariables false
set_option linter.unusedSimpArgs false
def inS (z:Int) (s:api_Span):Prop:=2*s.Lo≤z∧z≤2*s.Hi
def mem (z:Int) (l:List api_Span):Prop:=∃s∈l,inS z s
def Er (l:List api_Span):Prop:=∀s∈l,s.Lo≤s.Hi
def Canon (l:List api_Span):Prop:=l.Pairwise (fun a b=>a.Hi<b.Lo)∧Er l
theorem Gu (z:Int):¬mem z []:=by rintro ⟨s,hs,_⟩;cases hs
theorem mem_cons {z:Int} {s:api_Span} {l:List api_Span}:mem z (s::l)↔inS z s∨mem z l:=by
 constructor
 ·rintro ⟨t,ht,h⟩
  rcases List.mem_cons.1 ht with rfl|ht
  ·exact .inl h
  ·exact .inr ⟨t,ht,h⟩
 ·rintro (h|⟨t,ht,h⟩)
  ·exact ⟨s,by simp,h⟩
  ·exact ⟨t,by simp [ht],h⟩
theorem Canon.tail {s:api_Span} {l:List api_Span} (h:Canon (s::l)):Canon l:=⟨(List.pairwise_cons.1 h.1).2,fun t ht=>h.2 t (by simp [ht])⟩
theorem Canon.beyond {s:api_Span} {l:List api_Span} (h:Canon (s::l)) {z:Int} (hz:mem z l):2*s.Hi+2≤z:=by
 obtain ⟨t,ht,h1,_⟩:=hz
 have:=(List.pairwise_cons.1 h.1).1 t ht
 omega
theorem Ko:∀{a b:List api_Span},Canon a→Canon b→(∀z,mem z a↔mem z b)→a=b:=by
 intro a
 induction a with
 | nil =>
  intro b _ hb h
  cases b with
  | nil=>rfl
  | cons t b =>
   have hv:=hb.2 t (by simp)
   exact absurd ((h (2*t.Lo)).2 (mem_cons.2 (.inl ⟨by omega,by omega⟩))) (Gu _)
 | cons s a ih =>
  intro b ha hb h
  have hs:=ha.2 s (by simp)
  cases b with
  | nil=>exact absurd ((h (2*s.Lo)).1 (mem_cons.2 (.inl ⟨by omega,by omega⟩))) (Gu _)
  | cons t b =>
   have ht:=hb.2 t (by simp)
   have e1:s.Lo=t.Lo:=by
    have h1:2*t.Lo≤2*s.Lo:=by
     rcases mem_cons.1 ((h (2*s.Lo)).1 (mem_cons.2 (.inl ⟨by omega,by omega⟩))) with h1|h1
     ·exact h1.1
     ·have:=hb.beyond h1;omega
    have h2:2*s.Lo≤2*t.Lo:=by
     rcases mem_cons.1 ((h (2*t.Lo)).2 (mem_cons.2 (.inl ⟨by omega,by omega⟩))) with h1|h1
     ·exact h1.1
     ·have:=ha.beyond h1;omega
    omega
   have e2:s.Hi=t.Hi:=by
    rcases Int.lt_trichotomy s.Hi t.Hi with hlt|hlt|hlt
    ·rcases mem_cons.1 ((h (2*s.Hi+1)).2 (mem_cons.2 (.inl ⟨by omega,by omega⟩))) with h1|h1
     ·have:=h1.2;omega
     ·have:=ha.beyond h1;omega
    ·exact hlt
    ·rcases mem_cons.1 ((h (2*t.Hi+1)).1 (mem_cons.2 (.inl ⟨by omega,by omega⟩))) with h1|h1
     ·have:=h1.2;omega
     ·have:=hb.beyond h1;omega
   have e3:s=t:=by cases s;cases t;simp_all
   subst e3
   rw [ih ha.tail hb.tail]
   intro z
   constructor
   ·intro hz
    have hb1:=ha.beyond hz
    rcases mem_cons.1 ((h z).1 (mem_cons.2 (.inr hz))) with h1|h1
    ·have:=h1.2;omega
    ·exact h1
   ·intro hz
    have hb1:=hb.beyond hz
    rcases mem_cons.1 ((h z).2 (mem_cons.2 (.inr hz))) with h1|h1
    ·have:=h1.2;omega
    ·exact h1
theorem A9b:∀(xs:List api_Span) (c:api_Span),c.Lo≤c.Hi→xs.Pairwise (fun x y=>x.Lo≤y.Lo)→(∀x∈xs,c.Lo≤x.Lo)→Er xs →
  (∀z,mem z (mg c xs)↔inS z c∨mem z xs)∧Canon (mg c xs)∧∀s∈mg c xs,c.Lo≤s.Lo:=by
 intro xs
 induction xs with
 | nil =>
  intro c hc _ _ _
  refine ⟨fun z=>mem_cons,⟨by simp [mg],fun s hs=>?_⟩,fun s hs=>?_⟩<;>simp [mg] at hs<;>subst hs
  ·exact hc
  ·exact Int.le_refl _
 | cons x xs ih =>
  intro c hc hs hl hv
  have hx:=hv x (by simp)
  have hcx:=hl x (by simp)
  rw [List.pairwise_cons] at hs
  unfold mg
  by_cases h:x.Lo≤c.Hi
  ·rw [if_pos h]
   obtain ⟨h1,h2,h3⟩:=ih ⟨c.Lo,if x.Hi>c.Hi then x.Hi else c.Hi⟩ (by simp only;split<;>omega) hs.2 (fun y hy=>hl y (by simp [hy])) (fun y hy=>hv y (by simp [hy]))
   refine ⟨fun z=>?_,h2,h3⟩
   rw [h1 z,mem_cons]
   have:inS z ⟨c.Lo,if x.Hi>c.Hi then x.Hi else c.Hi⟩↔inS z c∨inS z x:=by
    unfold inS
    simp only
    split<;>omega
   rw [this,or_assoc]
  ·rw [if_neg h]
   obtain ⟨h1,h2,h3⟩:=ih x hx hs.2 hs.1 (fun y hy=>hv y (by simp [hy]))
   refine ⟨fun z=>?_,⟨List.pairwise_cons.2 ⟨fun y hy=>?_,h2.1⟩,fun s hs=>?_⟩,fun s hs=>?_⟩
   ·rw [mem_cons,h1 z,mem_cons]
   ·have:=h3 y hy;omega
   ·rcases List.mem_cons.1 hs with rfl|hs
    ·exact hc
    ·exact h2.2 s hs
   ·rcases List.mem_cons.1 hs with rfl|hs
    ·exact Int.le_refl _
    ·have:=h3 s hs;omega
theorem Q5 {l:List api_Span} (hs:l.Pairwise (fun x y=>x.Lo≤y.Lo)) (hv:Er l):(∀z,mem z (K9 l)↔mem z l)∧Canon (K9 l):=by
 cases l with
 | nil=>exact ⟨fun z=>Iff.rfl,⟨List.Pairwise.nil,fun s hs=>by cases hs⟩⟩
 | cons x xs =>
  rw [List.pairwise_cons] at hs
  obtain ⟨h1,h2,_⟩:=A9b xs x (hv x (by simp)) hs.2 hs.1 (fun y hy=>hv y (by simp [hy]))
  exact ⟨fun z=>(h1 z).trans mem_cons.symm,h2⟩
def un (l:List api_Span):List api_Span:=K9 (l.mergeSort (fun x y=>decide (x.Lo≤y.Lo)))
theorem P4 (l:List api_Span):(l.mergeSort (fun x y=>decide (x.Lo≤y.Lo))).Pairwise (fun x y=>x.Lo≤y.Lo):=by
 have:=List.pairwise_mergeSort (le:=fun x y:api_Span=>decide (x.Lo≤y.Lo)) (fun a b c h1 h2=>by simp at *;omega) (fun a b=>by simp;omega) l
 exact this.imp (fun h=>by simpa using h)
theorem Yl {a b:List api_Span} (h:a.Perm b) (z:Int):mem z a↔mem z b:=by
 constructor
 ·rintro ⟨s,hs,hz⟩;exact ⟨s,h.mem_iff.1 hs,hz⟩
 ·rintro ⟨s,hs,hz⟩;exact ⟨s,h.mem_iff.2 hs,hz⟩
theorem Q8 {a b:List api_Span} (h:a.Perm b) (hv:Er b):Er a:=fun s hs=>hv s (h.mem_iff.1 hs)
theorem V4 {l:List api_Span} (hv:Er l) (z:Int):mem z (un l)↔mem z l:=by
 have hp:=List.mergeSort_perm l (fun x y=>decide (x.Lo≤y.Lo))
 exact ((Q5 (P4 l) (Q8 hp hv)).1 z).trans (Yl hp z)
theorem P8 {l:List api_Span} (hv:Er l):Canon (un l):=(Q5 (P4 l) (Q8 (List.mergeSort_perm l _) hv)).2
theorem A3j {l σ:List api_Span} (hp:σ.Perm l) (hs:σ.Pairwise (fun x y=>x.Lo≤y.Lo)) (hv:Er l):K9 σ=un l:=by
 obtain ⟨h1,h2⟩:=Q5 hs (Q8 hp hv)
 exact Ko h2 (P8 hv) fun z=>(h1 z).trans ((Yl hp z).trans (V4 hv z).symm)
theorem A85 {l:List api_Span} (h:Canon l):un l=l:=Ko (P8 h.2) h (V4 h.2)
def Kf (B:Int) (l:List api_Span):Prop:=∀s∈l,-B≤s.Lo∧s.Hi≤B
theorem Q0 {B:Int} {l:List api_Span} (hv:Er l) (h:∀z,mem z l→-2*B≤z∧z≤2*B):Kf B l:=by
 intro s hs
 have hvs:=hv s hs
 have h1:=h (2*s.Lo) ⟨s,hs,by unfold inS;omega⟩
 have h2:=h (2*s.Hi) ⟨s,hs,by unfold inS;omega⟩
 omega
theorem Q4 {B:Int} {l:List api_Span} (h:Kf B l) {z:Int} (hz:mem z l):-2*B≤z∧z≤2*B:=by
 obtain ⟨s,hs,h1,h2⟩:=hz
 have:=h s hs
 omega
theorem R8:∀{l:List api_Span} {lo hi:Int},Canon l→(∀s∈l,lo≤s.Lo∧s.Hi≤hi)→lo≤hi+1→(l.length:Int)≤hi-lo+1:=by
 intro l
 induction l with
 | nil=>intro lo hi _ _ h;simp;omega
 | cons s l ih =>
  intro lo hi hc hb h
  have hs:=hb s (by simp)
  have hv:=hc.2 s (by simp)
  have hp:=(List.pairwise_cons.1 hc.1).1
  have:=ih (lo:=s.Hi+1) (hi:=hi) hc.tail (fun t ht=>⟨by have:=hp t ht;omega,(hb t (by simp [ht])).2⟩) (by omega)
  simp
  omega
def wd (l:List api_Span) (d:Int):List api_Span:=un (l.map fun s=>⟨s.Lo-d,s.Hi+d⟩)
theorem R4 {l:List api_Span} {d:Int} (hv:Er l) (hd:0≤d):Er (l.map fun s=>(⟨s.Lo-d,s.Hi+d⟩:api_Span)):=by
 intro s hs
 obtain ⟨t,ht,rfl⟩:=List.mem_map.1 hs
 have:=hv t ht
 simp only
 omega
theorem B00 {l:List api_Span} {d:Int} (hv:Er l) (hd:0≤d) (z:Int):mem z (wd l d)↔∃y,mem y l∧y-2*d≤z∧z≤y+2*d:=by
 unfold wd
 rw [V4 (R4 hv hd)]
 constructor
 ·rintro ⟨s,hs,h1,h2⟩
  obtain ⟨t,ht,rfl⟩:=List.mem_map.1 hs
  have hvt:=hv t ht
  simp only at h1 h2
  by_cases ha:z<2*t.Lo
  ·exact ⟨2*t.Lo,⟨t,ht,by unfold inS;omega⟩,by omega,by omega⟩
  ·by_cases hb:2*t.Hi<z
   ·exact ⟨2*t.Hi,⟨t,ht,by unfold inS;omega⟩,by omega,by omega⟩
   ·exact ⟨z,⟨t,ht,by unfold inS;omega⟩,by omega,by omega⟩
 ·rintro ⟨y,⟨t,ht,h1,h2⟩,h3,h4⟩
  exact ⟨_,List.mem_map.2 ⟨t,ht,rfl⟩,by unfold inS;simp only;omega⟩
def cm (a b:api_Span):Option api_Span:=if Qq (Lx a b)=true then some (Lx a b) else none
theorem Xw {a b:api_Span} {z:Int}:inS z (Lx a b)↔inS z a∧inS z b:=by
 unfold Lx inS
 simp only
 split<;>split<;>omega
theorem A3w {a b:api_Span} {z:Int}:(∃s,cm a b=some s∧inS z s)↔inS z a∧inS z b:=by
 rw [←Xw]
 unfold cm Qq
 simp only [decide_eq_true_eq]
 constructor
 ·rintro ⟨s,h,h1⟩
  by_cases hc:(Lx a b).Lo≤(Lx a b).Hi
  ·rw [if_pos hc] at h;cases h;exact h1
  ·rw [if_neg hc] at h;cases h
 ·intro h
  rw [if_pos (by unfold inS at h;omega)]
  exact ⟨_,rfl,h⟩
theorem Xu {a b s:api_Span} (h:cm a b=some s):s.Lo≤s.Hi:=by
 unfold cm Qq at h
 simp only [decide_eq_true_eq] at h
 by_cases hc:(Lx a b).Lo≤(Lx a b).Hi
 ·rw [if_pos hc] at h;cases h;exact hc
 ·rw [if_neg hc] at h;cases h
def prs (a b:List api_Span):List api_Span:=a.flatMap fun x=>b.filterMap (cm x)
theorem Rr (a b:List api_Span):Er (prs a b):=by
 intro s hs
 obtain ⟨x,_,hs⟩:=List.mem_flatMap.1 hs
 obtain ⟨y,_,hs⟩:=List.mem_filterMap.1 hs
 exact Xu hs
theorem A76 (a b:List api_Span) (z:Int):mem z (prs a b)↔mem z a∧mem z b:=by
 constructor
 ·rintro ⟨s,hs,hz⟩
  obtain ⟨x,hx,hs⟩:=List.mem_flatMap.1 hs
  obtain ⟨y,hy,hs⟩:=List.mem_filterMap.1 hs
  obtain ⟨h1,h2⟩:=A3w.1 ⟨s,hs,hz⟩
  exact ⟨⟨x,hx,h1⟩,⟨y,hy,h2⟩⟩
 ·rintro ⟨⟨x,hx,h1⟩,⟨y,hy,h2⟩⟩
  obtain ⟨s,hs,hz⟩:=A3w.2 ⟨h1,h2⟩
  exact ⟨s,List.mem_flatMap.2 ⟨x,hx,List.mem_filterMap.2 ⟨y,hy,hs⟩⟩,hz⟩
def mt (a b:List api_Span):List api_Span:=un (prs a b)
theorem X2 (a b:List api_Span) (z:Int):mem z (mt a b)↔mem z a∧mem z b:=(V4 (Rr a b) z).trans (A76 a b z)
theorem Uh (a b:List api_Span):Canon (mt a b):=P8 (Rr a b)
def nr (a b:List api_Span) (d:Int):List api_Span:=mt a (wd b d)
theorem Fy {a b:List api_Span} {d:Int} (hv:Er b) (hd:0≤d) (z:Int):mem z (nr a b d)↔mem z a∧∃y,mem y b∧y-2*d≤z∧z≤y+2*d:=by
 unfold nr
 rw [X2,B00 hv hd]
theorem Uk (a b:List api_Span) (d:Int):Canon (nr a b d):=Uh _ _
theorem A2q {B:Int} {a b:List api_Span} {d:Int} (hv:Er b) (hd:0≤d) (h:Kf B a):Kf B (nr a b d) :=
 Q0 (Uk _ _ _).2 fun z hz=>Q4 h ((Fy hv hd z).1 hz).1
def tp:Nat→List api_Span→List api_Span→List api_Span
 | 0,_,_=>[]
 | n+1,a::ys,b::zs=>(cm a b).toList++(if a.Hi<b.Hi then tp n ys (b::zs) else tp n (a::ys) zs)
 | _+1,_,_=>[]
theorem V2:∀(n:Nat) (a b:List api_Span),Er (tp n a b):=by
 intro n
 induction n with
 | zero=>intro a b s hs;simp [tp] at hs
 | succ n ih =>
  intro a b s hs
  cases a with
  | nil=>simp [tp] at hs
  | cons x a =>
   cases b with
   | nil=>simp [tp] at hs
   | cons y b =>
    unfold tp at hs
    rcases List.mem_append.1 hs with hs|hs
    ·cases hc:cm x y with
     | none=>rw [hc] at hs;simp at hs
     | some t=>rw [hc] at hs;simp at hs;subst hs;exact Xu hc
    ·split at hs
     ·exact ih _ _ s hs
     ·exact ih _ _ s hs
theorem A6t {a b:List api_Span} {z:Int}:mem z (a++b)↔mem z a∨mem z b:=by
 constructor
 ·rintro ⟨s,hs,hz⟩
  rcases List.mem_append.1 hs with h|h
  ·exact .inl ⟨s,h,hz⟩
  ·exact .inr ⟨s,h,hz⟩
 ·rintro (⟨s,h,hz⟩|⟨s,h,hz⟩)
  ·exact ⟨s,List.mem_append.2 (.inl h),hz⟩
  ·exact ⟨s,List.mem_append.2 (.inr h),hz⟩
theorem A97 {a b:api_Span} {z:Int}:mem z (cm a b).toList↔inS z a∧inS z b:=by
 rw [←A3w]
 constructor
 ·rintro ⟨s,hs,hz⟩
  cases hc:cm a b with
  | none=>rw [hc] at hs;simp at hs
  | some t=>rw [hc] at hs;simp at hs;subst hs;exact ⟨_,rfl,hz⟩
 ·rintro ⟨s,hs,hz⟩
  exact ⟨s,by rw [hs];simp,hz⟩
theorem A5x:∀(n:Nat) (a b:List api_Span),a.length+b.length≤n→Canon a→Canon b→∀z,mem z (tp n a b)↔mem z a∧mem z b:=by
 intro n
 induction n with
 | zero =>
  intro a b hn _ _ z
  have:a=[]:=List.length_eq_zero_iff.1 (by omega)
  subst this
  exact ⟨fun h=>absurd h (Gu z),fun h=>absurd h.1 (Gu z)⟩
 | succ n ih =>
  intro a b hn ha hb z
  cases a with
  | nil=>exact ⟨fun h=>absurd h (Gu z),fun h=>absurd h.1 (Gu z)⟩
  | cons x a =>
   cases b with
   | nil=>exact ⟨fun h=>absurd h (Gu z),fun h=>absurd h.2 (Gu z)⟩
   | cons y b =>
    simp only [List.length_cons] at hn
    unfold tp
    rw [A6t,A97]
    by_cases hlt:x.Hi<y.Hi
    ·rw [if_pos hlt,ih a (y::b) (by simp only [List.length_cons];omega) ha.tail hb z]
     constructor
     ·rintro (⟨h1,h2⟩|⟨h1,h2⟩)
      ·exact ⟨mem_cons.2 (.inl h1),mem_cons.2 (.inl h2)⟩
      ·exact ⟨mem_cons.2 (.inr h1),h2⟩
     ·rintro ⟨h1,h2⟩
      rcases mem_cons.1 h1 with h1|h1
      ·rcases mem_cons.1 h2 with h2|h2
       ·exact .inl ⟨h1,h2⟩
       ·have:=hb.beyond h2;have:=h1.2;omega
      ·exact .inr ⟨h1,h2⟩
    ·rw [if_neg hlt,ih (x::a) b (by simp only [List.length_cons];omega) ha hb.tail z]
     constructor
     ·rintro (⟨h1,h2⟩|⟨h1,h2⟩)
      ·exact ⟨mem_cons.2 (.inl h1),mem_cons.2 (.inl h2)⟩
      ·exact ⟨h1,mem_cons.2 (.inr h2)⟩
     ·rintro ⟨h1,h2⟩
      rcases mem_cons.1 h2 with h2|h2
      ·rcases mem_cons.1 h1 with h1|h1
       ·exact .inl ⟨h1,h2⟩
       ·have:=ha.beyond h1;have:=h2.2;omega
      ·exact .inr ⟨h1,h2⟩
theorem A9v:∀(n:Nat) (a b:List api_Span),(tp n a b).length≤n:=by
 intro n
 induction n with
 | zero=>intro a b;simp [tp]
 | succ n ih =>
  intro a b
  cases a with
  | nil=>simp [tp]
  | cons x a =>
   cases b with
   | nil=>simp [tp]
   | cons y b =>
    unfold tp
    have h1:(cm x y).toList.length≤1:=by cases cm x y<;>simp
    rw [List.length_append]
    split
    ·have:=ih a (y::b);omega
    ·have:=ih (x::a) b;omega
theorem B0s {n:Nat} {a b:List api_Span} (hn:a.length+b.length≤n) (ha:Canon a) (hb:Canon b):un (tp n a b)=mt a b :=
 Ko (P8 (V2 n a b)) (Uh a b) fun z=>(V4 (V2 n a b) z).trans ((A5x n a b hn ha hb z).trans (X2 a b z).symm)
end Go.Proofs.Ytbhjgebjojdohaa
namespace Go.Proofs.Ytbhjgebjojdohaa
open Go Go.RowKit Go.Eng
set_option maxRecDepth 10000
set_option linter.unusedVariables false
set_option linter.unusedSimpArgs false
def FF:Nat:=2000000000000
theorem F9 (i:Nat):((i:Int)+1)=((i+1:Nat):Int):=by omega
theorem S1 {F:Nat} (hF:FF≤F) {l:List api_Span} (hv:Er l) (hb:∀s∈l,spB s) (hl:l.length≤1000000000000):C0 F l=some (un l):=by
 unfold FF at hF
 obtain ⟨σ,h1,h2,h3⟩:=A3k F l (by omega) hl hb
 rw [h1,A3j h2 h3 hv]
theorem M7 {F:Nat} (hF:FF≤F) {l:List api_Span} (hv:Er l) (hl:l.length≤1000000000000):Fh F l=some (un l):=by
 unfold FF at hF
 exact Vi F l _ hl (by omega) (List.mergeSort_perm l _) (P4 l) hv
section
variable {l:List api_Span} {d:Int}
theorem A3m (F:Nat) (hB:Kf 1000000000 l) (hv:Er l) (hd:0≤d∧d≤1000000000) (hl:l.length≤1000000000000):∀(n N i:Nat) (acc:List api_Span),i+n=l.length→n<N→acc.length+n≤1000000000000 →
  Cl F l d N (i:Int) acc=Ej F (acc++(l.drop i).map fun s=>⟨s.Lo-d,s.Hi+d⟩):=by
 intro n
 induction n with
 | zero =>
  intro N i acc hi hN ha
  obtain ⟨N,rfl⟩:∃N',N=N'+1:=⟨N-1,by omega⟩
  show Ck F l d (Cl F l d N) (i:Int) acc=_
  unfold Ck
  rw [B9 (by simp;omega),List.drop_eq_nil_of_le (by omega)]
  simp
 | succ n ih =>
  intro N i acc hi hN ha
  obtain ⟨N,rfl⟩:∃N',N=N'+1:=⟨N-1,by omega⟩
  show Ck F l d (Cl F l d N) (i:Int) acc=_
  unfold Ck
  have hm:l.getD i default∈l:=by rw [List.getD_eq_getElem?_getD,List.getElem?_eq_getElem (by omega:i<l.length)];exact List.getElem_mem _
  have hb:=hB _ hm
  rw [E8 (i:=i) (by omega) default]
  rw [Bs (by simp;omega),Jh default (by omega),Int.toNat_natCast]
  have hvx:=hv _ hm
  generalize l.getD i default=x at *
  rw [ckb (by omega),ckb (by omega),K0 (by simp;omega),ckb (by omega),F9,ih N (i+1) _ (by omega) (by omega) (by simp;omega)]
  simp
theorem A0f (F:Nat) (hB:Kf 1000000000 l) (hv:Er l) (hd:0≤d∧d≤1000000000) (hl:l.length≤1000000000000):∀(n N i:Nat) (acc:List api_Span),i+n=l.length→n<N→acc.length+n≤1000000000000 →
  J5 F l d N acc (i:Int)=M6 F (acc++(l.drop i).map fun s=>⟨s.Lo-d,s.Hi+d⟩):=by
 intro n
 induction n with
 | zero =>
  intro N i acc hi hN ha
  obtain ⟨N,rfl⟩:∃N',N=N'+1:=⟨N-1,by omega⟩
  show J4 F l d (J5 F l d N) acc (i:Int)=_
  unfold J4
  rw [B9 (by simp;omega),List.drop_eq_nil_of_le (by omega)]
  simp
 | succ n ih =>
  intro N i acc hi hN ha
  obtain ⟨N,rfl⟩:∃N',N=N'+1:=⟨N-1,by omega⟩
  show J4 F l d (J5 F l d N) acc (i:Int)=_
  unfold J4
  have hm:l.getD i default∈l:=by rw [List.getD_eq_getElem?_getD,List.getElem?_eq_getElem (by omega:i<l.length)];exact List.getElem_mem _
  have hb:=hB _ hm
  have hvx:=hv _ hm
  rw [E8 (i:=i) (by omega) default]
  rw [Bs (by simp;omega),Jh default (by omega),Int.toNat_natCast,ckb (by omega),Jh default (by omega),Int.toNat_natCast,ckb (by omega),K0 (by simp;omega),ckb (by omega),F9,ih N (i+1) _ (by omega) (by omega) (by simp;omega)]
  simp
theorem B01 (hB:Kf 1000000000 l) (hv:Er l) (hd:0≤d∧d≤1000000000):∀s∈l.map (fun s=>(⟨s.Lo-d,s.Hi+d⟩:api_Span)),spB s:=by
 intro s hs
 obtain ⟨t,ht,rfl⟩:=List.mem_map.1 hs
 have:=hB t ht
 have:=hv t ht
 unfold spB
 simp only
 omega
theorem A7m {F:Nat} (hF:FF≤F) (hB:Kf 1000000000 l) (hv:Er l) (hd:0≤d∧d≤1000000000) (hl:l.length≤1000000000000):G3 F l d=some (wd l d):=by
 have hF':=hF
 unfold FF at hF'
 unfold G3
 have hh:=A3m F hB hv hd hl l.length F 0 [] (by omega) (by omega) (by simp;omega)
 refine Eq.trans hh ?_
 unfold Ej
 rw [List.drop_zero,List.nil_append,S1 hF (R4 hv hd.1) (B01 hB hv hd) (by simpa using hl),sb]
 rfl
theorem Yo {F:Nat} (hF:FF≤F) (hB:Kf 1000000000 l) (hv:Er l) (hd:0≤d∧d≤1000000000) (hl:l.length≤1000000000000):Lk F l d=some (wd l d):=by
 have hF':=hF
 unfold FF at hF'
 unfold Lk
 have hh:=A0f F hB hv hd hl l.length F 0 [] (by omega) (by omega) (by simp;omega)
 refine Eq.trans hh ?_
 unfold M6
 rw [List.drop_zero,List.nil_append,M7 hF (R4 hv hd.1) (by simpa using hl),sb]
 rfl
end
theorem cmB {a b:api_Span} {β:Type} (x y:β):(bif (decide ((Lx a b).Lo≤(Lx a b).Hi)) then x else y)=match cm a b with|some _=>x|none=>y:=by
 unfold cm Qq
 by_cases h:(Lx a b).Lo≤(Lx a b).Hi<;>simp [h]
section
variable {a b:List api_Span}
theorem A2n (F:Nat) (ha:a.length≤100000000000) (hb:b.length≤100000000000):∀(n N i k:Nat) (acc:List api_Span),i≤a.length→k≤b.length→a.length-i+(b.length-k)≤n→n<N→acc.length+n≤1000000000000 →
  C3 F a b N acc (i:Int) (k:Int)=Dn F (acc++tp n (a.drop i) (b.drop k)):=by
 intro n
 induction n with
 | zero =>
  intro N i k acc hi hk hn hN hacc
  obtain ⟨N,rfl⟩:∃N',N=N'+1:=⟨N-1,by omega⟩
  show Cj F a b (C3 F a b N) acc (i:Int) (k:Int)=_
  unfold Cj
  rw [B9 (by simp [cond_eq_ite];omega)]
  simp [tp]
 | succ n ih =>
  intro N i k acc hi hk hn hN hacc
  obtain ⟨N,rfl⟩:∃N',N=N'+1:=⟨N-1,by omega⟩
  show Cj F a b (C3 F a b N) acc (i:Int) (k:Int)=_
  unfold Cj
  by_cases h1:i<a.length
  ·by_cases h2:k<b.length
   ·rw [Bs (by simp [cond_eq_ite];omega),Jh default (by omega),Jh default (by omega),Int.toNat_natCast,Int.toNat_natCast,Ty]
    have ga:∀{β:Type} (f:api_Span→Option β),(Ad a (i:Int)).bind f=f (a.getD i default):=fun f=>by rw [Jh default (by omega),Int.toNat_natCast]
    have gb:∀{β:Type} (f:api_Span→Option β),(Ad b (k:Int)).bind f=f (b.getD k default):=fun f=>by rw [Jh default (by omega),Int.toNat_natCast]
    rw [E8 (i:=i) h1 default,E8 (i:=k) h2 default]
    generalize hx:a.getD i default=x at *
    generalize hy:b.getD k default=y at *
    have hK:∀(c:List api_Span),c.length+n≤1000000000000→Do a b (i:Int) (k:Int) (C3 F a b N) c=Dn F (c++if x.Hi<y.Hi then tp n (a.drop (i+1)) (y::b.drop (k+1)) else tp n (x::a.drop (i+1)) (b.drop (k+1))):=by
     intro c hc
     unfold Do
     rw [ga,gb]
     by_cases hlt:x.Hi<y.Hi
     ·rw [Bs (by simpa using hlt),ckb (by omega),F9,ih N (i+1) k c (by omega) hk (by omega) (by omega) hc,if_pos hlt,E8 (i:=k) h2 default,hy]
     ·rw [B9 (by simpa using hlt),ckb (by omega),F9,ih N i (k+1) c hi (by omega) (by omega) (by omega) hc,if_neg hlt,E8 (i:=i) h1 default,hx]
    refine Eq.trans (cmB _ _) ?_
    conv=>rhs;unfold tp
    cases hc:cm x y with
    | none=>simp only;rw [hK acc (by omega)];simp
    | some s =>
     have hs:s=Lx x y:=by unfold cm at hc;split at hc<;>simp_all
     subst hs
     simp only
     rw [K0 (by simp;omega),hK _ (by simp;omega)]
     simp
   ·rw [B9 (by simp [cond_eq_ite];omega),List.drop_eq_nil_of_le (by omega:b.length≤k)]
    cases a.drop i<;>simp [tp]
  ·rw [B9 (by simp [cond_eq_ite];omega),List.drop_eq_nil_of_le (by omega:a.length≤i)]
   simp [tp]
theorem A6s {F:Nat} (hF:FF≤F) (ha:a.length≤100000000000) (hb:b.length≤100000000000) (hca:Canon a) (hcb:Canon b) (hB:Kf 1000000000 a):G2 F a b=some (mt a b):=by
 have hF':=hF
 unfold FF at hF'
 unfold G2
 have hh:=A2n F ha hb (a.length+b.length) F 0 0 [] (by omega) (by omega) (by omega) (by omega) (by simp;omega)
 refine Eq.trans hh ?_
 unfold Dn
 have hlen:=A9v (a.length+b.length) a b
 have hv:=V2 (a.length+b.length) a b
 have hw:Kf 1000000000 (tp (a.length+b.length) a b):=Q0 hv fun z hz=>Q4 hB ((A5x _ a b (Nat.le_refl _) hca hcb z).1 hz).1
 rw [List.drop_zero,List.drop_zero,List.nil_append,S1 hF hv (fun s hs=>by have:=hw s hs;have:=hv s hs;unfold spB;omega) (by omega),sb,B0s (Nat.le_refl _) hca hcb]
theorem Yu (ha:a.length≤1000000) (hb:b.length≤1000000) (i:Nat) (hi:i<a.length) (k2:List api_Span→Int→Option (List api_Span)):∀(n N j:Nat) (acc:List api_Span),j+n=b.length→n<N→acc.length+n≤2000000000000 →
  Fz a b (i:Int) k2 N acc (j:Int)=M4 (i:Int) k2 (acc++(b.drop j).filterMap (cm (a.getD i default))):=by
 intro n
 induction n with
 | zero =>
  intro N j acc hj hN hacc
  obtain ⟨N,rfl⟩:∃N',N=N'+1:=⟨N-1,by omega⟩
  show J3 a b (i:Int) k2 (Fz a b (i:Int) k2 N) acc (j:Int)=_
  unfold J3
  rw [B9 (by simp;omega),List.drop_eq_nil_of_le (by omega)]
  simp
 | succ n ih =>
  intro N j acc hj hN hacc
  obtain ⟨N,rfl⟩:∃N',N=N'+1:=⟨N-1,by omega⟩
  show J3 a b (i:Int) k2 (Fz a b (i:Int) k2 N) acc (j:Int)=_
  unfold J3 M5
  rw [E8 (i:=j) (by omega) default]
  rw [Bs (by simp;omega),Jh default (by omega),Jh default (by omega),Int.toNat_natCast,Int.toNat_natCast,Vh]
  have hck:∀(l:List api_Span),(ck ((j:Int)+1)).bind (fun x1698=>Fz a b (i:Int) k2 N l x1698)=Fz a b (i:Int) k2 N l ((j+1:Nat):Int):=fun l=>by rw [ckb (by omega),F9]
  refine Eq.trans (cmB _ _) ?_
  cases hc:cm (a.getD i default) (b.getD j default) with
  | none=>simp only;rw [hck,ih N (j+1) acc (by omega) (by omega) (by omega),List.filterMap_cons,hc]
  | some s =>
   have hs:s=Lx (a.getD i default) (b.getD j default):=by unfold cm at hc;split at hc<;>simp_all
   simp only
   rw [K0 (by simp;omega),hck,ih N (j+1) _ (by omega) (by omega) (by simp;omega),List.filterMap_cons,hc,hs,List.append_assoc]
   rfl
theorem A0d (F:Nat) (hF:FF≤F) (ha:a.length≤1000000) (hb:b.length≤1000000):∀(n N i:Nat) (acc:List api_Span),i+n=a.length→n<N→acc.length+n*b.length≤1000000000000 →
  Gp F a b N acc (i:Int)=M3 F (acc++prs (a.drop i) b):=by
 have hF':=hF
 unfold FF at hF'
 intro n
 induction n with
 | zero =>
  intro N i acc hi hN hacc
  obtain ⟨N,rfl⟩:∃N',N=N'+1:=⟨N-1,by omega⟩
  show J2 F a b (Gp F a b N) acc (i:Int)=_
  unfold J2
  rw [B9 (by simp;omega),List.drop_eq_nil_of_le (by omega)]
  simp [prs]
 | succ n ih =>
  intro N i acc hi hN hacc
  obtain ⟨N,rfl⟩:∃N',N=N'+1:=⟨N-1,by omega⟩
  show J2 F a b (Gp F a b N) acc (i:Int)=_
  unfold J2
  have hmul:(n+1)*b.length=n*b.length+b.length:=Nat.succ_mul ..
  rw [Bs (by simp;omega)]
  have h:=Yu ha hb i (by omega) (Gp F a b N) b.length F 0 acc (by omega) (by omega) (by omega)
  refine Eq.trans h ?_
  unfold M4
  have hlen:=List.length_filterMap_le (cm (a.getD i default)) b
  rw [ckb (by omega),F9,List.drop_zero,ih N (i+1) _ (by omega) (by omega) (by rw [List.length_append];omega),E8 (i:=i) (by omega) default,List.append_assoc]
  rfl
theorem Se {F:Nat} (hF:FF≤F) (ha:a.length≤1000000) (hb:b.length≤1000000):Kb F a b=some (mt a b):=by
 have hF':=hF
 unfold FF at hF'
 unfold Kb
 have hmul:a.length*b.length≤1000000*1000000:=Nat.mul_le_mul ha hb
 have hh:=A0d F hF ha hb a.length F 0 [] (by omega) (by omega) (by simp;omega)
 refine Eq.trans hh ?_
 unfold M3
 have hlen:(prs a b).length≤a.length*b.length:=by
  unfold prs
  clear hmul hh ha
  induction a with
  | nil=>simp
  | cons x a ih =>
   have:=List.length_filterMap_le (cm x) b
   simp [Nat.succ_mul] at ih ⊢
   omega
 rw [List.drop_zero,List.nil_append,M7 hF (Rr a b) (by omega),sb]
 rfl
end
def Good (l:List api_Span):Prop:=Canon l∧Kf 200000 l
theorem Good.len {l:List api_Span} (h:Good l):l.length≤400001:=by
 have:=R8 (lo:=-200000) (hi:=200000) h.1 h.2 (by omega)
 omega
theorem A9w (l:List api_Span):(un l).length≤l.length:=by
 have:=A04 (l.mergeSort (fun x y=>decide (x.Lo≤y.Lo)))
 rw [List.length_mergeSort] at this
 exact this
theorem A61 (l:List api_Span) (d:Int):(wd l d).length≤l.length:=by
 have:=A9w (l.map fun s=>(⟨s.Lo-d,s.Hi+d⟩:api_Span))
 simpa [wd] using this
theorem Good.nr {a b:List api_Span} {d:Int} (ha:Good a) (hb:Good b) (hd:0≤d):Good (nr a b d):=⟨Uk a b d,A2q hb.1.2 hd ha.2⟩
theorem Good.big {l:List api_Span} (h:Good l):Kf 1000000000 l:=fun s hs=>by have:=h.2 s hs;omega
theorem A1a {F:Nat} (hF:FF≤F) {a b:List api_Span} {d:Int} (ha:Good a) (hb:Good b) (hd:0≤d∧d≤1000000000):D4 F a b d=some (nr a b d):=by
 have h1:=ha.len
 have h2:=hb.len
 have h3:=A61 b d
 unfold D4
 rw [A7m hF hb.big hb.1.2 hd (by omega),sb,A6s hF (by omega) (by omega) ha.1 (show Canon (wd b d) from P8 (R4 hb.1.2 hd.1)) ha.big,sb]
 rfl
theorem Sf {F:Nat} (hF:FF≤F) {a b:List api_Span} {d:Int} (ha:Good a) (hb:Good b) (hd:0≤d∧d≤1000000000) {β:Type} (f:List api_Span→Option β) :
  ((Lk F b d).bind fun y=>(Kb F a y).bind f)=f (nr a b d):=by
 have h1:=ha.len
 have h2:=hb.len
 have h3:=A61 b d
 rw [Yo hF hb.big hb.1.2 hd (by omega),sb,Se hF (by omega) (by omega),sb]
 rfl
end Go.Proofs.Ytbhjgebjojdohaa
namespace Go.Proofs.Ytbhjgebjojdohaa
open Go Go.RowKit Go.Eng
set_option maxRecDepth 10000
set_option linter.unusedVariables false
set_option linter.unusedSimpArgs false
abbrev Da:=List (List api_Span)
def gt (S:Da) (i:Nat):List api_Span:=S.getD i []
def ne (S:Da) (i:Nat):Bool:=decide ((gt S i).length>0)
def lk (S:Da) (br:Int) (i j:Nat):Prop:=i<j∧j<S.length∧ne S i=true∧ne S j=true∧(∀x,i<x→x<j→ne S x=false)∧(j:Int)-i≤br
theorem A17 {S:Da} {br:Int} {i i' j:Nat} (h:lk S br i j) (h':lk S br i' j):i=i':=by
 obtain ⟨h1,h2,h3,h4,h5,h6⟩:=h
 obtain ⟨g1,g2,g3,g4,g5,g6⟩:=h'
 rcases Nat.lt_trichotomy i i' with hlt|hlt|hlt
 ·have:=h5 i' hlt g1;rw [this] at g3;cases g3
 ·exact hlt
 ·have:=g5 i hlt h1;rw [this] at h3;cases h3
theorem Ua {S:Da} {br:Int} {i j j':Nat} (h:lk S br i j) (h':lk S br i j'):j=j':=by
 obtain ⟨h1,h2,h3,h4,h5,h6⟩:=h
 obtain ⟨g1,g2,g3,g4,g5,g6⟩:=h'
 rcases Nat.lt_trichotomy j j' with hlt|hlt|hlt
 ·have:=g5 j h1 hlt;rw [this] at h4;cases h4
 ·exact hlt
 ·have:=h5 j' g1 hlt;rw [this] at g4;cases g4
section
variable (S:Da) (br jp:Int)
def pF (f:Da) (j:Nat):Prop:=(∀i,lk S br i j→gt f j=nr (gt S j) (gt f i) (jp*((j:Int)-i)))∧((∀i,¬lk S br i j)→gt f j=gt S j)
def pB (b:Da) (i:Nat):Prop:=(∀j,lk S br i j→gt b i=nr (gt S i) (gt b j) (jp*((j:Int)-i)))∧((∀j,¬lk S br i j)→gt b i=gt S i)
def pP (f p:Da) (i:Nat):Prop:=(∀j,lk S br i j→gt p i=nr (gt f i) (gt p j) (jp*((j:Int)-i)))∧((∀j,¬lk S br i j)→gt p i=gt f i)
end
def AllGood (f:Da):Prop:=∀x∈f,Good x
theorem Y9:Good []:=⟨⟨.nil,fun s hs=>by cases hs⟩,fun s hs=>by cases hs⟩
theorem AllGood.gt {f:Da} (h:AllGood f) (i:Nat):Good (gt f i):=by
 unfold Proofs.Ytbhjgebjojdohaa.gt
 rw [List.getD_eq_getElem?_getD]
 by_cases hi:i<f.length
 ·rw [List.getElem?_eq_getElem hi];exact h _ (List.getElem_mem hi)
 ·rw [List.getElem?_eq_none (by omega)];exact Y9
theorem AllGood.set {f:Da} (h:AllGood f) (i:Nat) {x:List api_Span} (hx:Good x):AllGood (f.set i x):=by
 intro y hy
 rcases List.mem_or_eq_of_mem_set hy with h1|h1
 ·exact h y h1
 ·rw [h1];exact hx
theorem Dk {f:Da} {i j:Nat} {x:List api_Span} (hi:i<f.length):gt (f.set i x) j=if i=j then x else gt f j:=by
 unfold gt
 rw [List.getD_eq_getElem?_getD,List.getD_eq_getElem?_getD,List.getElem?_set]
 by_cases h:i=j
 ·rw [if_pos h,if_pos h,if_pos hi];rfl
 ·rw [if_neg h,if_neg h]
theorem Ws {a b:Da} (hl:a.length=b.length) (h:∀i<a.length,gt a i=gt b i):a=b:=by
 apply List.ext_getElem hl
 intro i h1 h2
 have:=h i h1
 unfold gt at this
 rw [List.getD_eq_getElem?_getD,List.getD_eq_getElem?_getD,List.getElem?_eq_getElem h1,List.getElem?_eq_getElem h2] at this
 exact this
section
variable {S:Da} {br jp:Int}
theorem Sk (hj:0≤jp∧jp≤400000) (hb:br≤16) {i j:Nat} (h:lk S br i j):0≤jp*((j:Int)-i)∧jp*((j:Int)-i)≤1000000000:=by
 obtain ⟨h1,_,_,_,_,h6⟩:=h
 constructor
 ·exact Int.mul_nonneg hj.1 (by omega)
 ·have h2:jp*((j:Int)-i)≤jp*16:=Int.mul_le_mul_of_nonneg_left (by omega) hj.1
  omega
theorem A3n {f g:Da} (hf:∀j<S.length,pF S br jp f j) (hg:∀j<S.length,pF S br jp g j):∀(n j:Nat),j<n→j<S.length→gt f j=gt g j:=by
 intro n
 induction n with
 | zero=>intro j h;omega
 | succ n ih =>
  intro j hj hjl
  by_cases h:∃i,lk S br i j
  ·obtain ⟨i,hi⟩:=h
   rw [(hf j hjl).1 i hi,(hg j hjl).1 i hi,ih i (by have:=hi.1;omega) (by have:=hi.1;have:=hi.2.1;omega)]
  ·have h':∀i,¬lk S br i j:=fun i hi=>h ⟨i,hi⟩
   rw [(hf j hjl).2 h',(hg j hjl).2 h']
theorem A20 (hS:AllGood S) (hj:0≤jp∧jp≤400000) (hb:br≤16) {f b p:Da} (hfG:AllGood f) (hbG:AllGood b) (hpG:AllGood p) (hf:∀j<S.length,pF S br jp f j) (hB:∀i<S.length,pB S br jp b i) (hP:∀i<S.length,pP S br jp f p i) :
  ∀(n i:Nat),S.length-i≤n→i<S.length→∀z,mem z (gt p i)↔mem z (gt f i)∧mem z (gt b i):=by
 have hfS:∀j<S.length,∀z,mem z (gt f j)→mem z (gt S j):=by
  intro j hjl z hz
  by_cases h:∃i,lk S br i j
  ·obtain ⟨i,hi⟩:=h
   rw [(hf j hjl).1 i hi] at hz
   exact ((Fy (hfG.gt i).1.2 (Sk hj hb hi).1 z).1 hz).1
  ·rw [(hf j hjl).2 (fun i hi=>h ⟨i,hi⟩)] at hz;exact hz
 have hbS:∀i<S.length,∀z,mem z (gt b i)→mem z (gt S i):=by
  intro i hil z hz
  by_cases h:∃j,lk S br i j
  ·obtain ⟨j,hij⟩:=h
   rw [(hB i hil).1 j hij] at hz
   exact ((Fy (hbG.gt j).1.2 (Sk hj hb hij).1 z).1 hz).1
  ·rw [(hB i hil).2 (fun j hj=>h ⟨j,hj⟩)] at hz;exact hz
 intro n
 induction n with
 | zero=>intro i h1 h2;omega
 | succ n ih =>
  intro i hn hil z
  by_cases h:∃j,lk S br i j
  ·obtain ⟨j,hij⟩:=h
   have hd:=Sk hj hb hij
   have hjl:=hij.2.1
   rw [(hP i hil).1 j hij,(hB i hil).1 j hij,Fy (hpG.gt j).1.2 hd.1,Fy (hbG.gt j).1.2 hd.1]
   constructor
   ·rintro ⟨h1,y,hy,h2⟩
    have:=(ih j (by have:=hij.1;omega) hjl y).1 hy
    exact ⟨h1,hfS i hil z h1,y,this.2,h2⟩
   ·rintro ⟨h1,h2,y,hy,h3⟩
    refine ⟨h1,y,(ih j (by have:=hij.1;omega) hjl y).2 ⟨?_,hy⟩,h3⟩
    rw [(hf j hjl).1 i hij,Fy (hfG.gt i).1.2 hd.1]
    exact ⟨hbS j hjl y hy,z,h1,by omega,by omega⟩
  ·have h':∀j,¬lk S br i j:=fun j hij=>h ⟨j,hij⟩
   rw [(hP i hil).2 h',(hB i hil).2 h']
   exact ⟨fun hz=>⟨hz,hfS i hil z hz⟩,fun hz=>hz.1⟩
theorem H4 {β:Type} {f:Da} {i:Nat} (hi:i<f.length) (k:List api_Span→Option β):(Ad f (i:Int)).bind k=k (gt f i):=by
 rw [Jh [] (by omega),Int.toNat_natCast];rfl
theorem A2o (i:Nat) (hi:i<S.length) (hl:S.length≤100000) (hbr:br≤16):∀(n N j:Nat),j+n=S.length→n<N→i<j→(∀x,i<x→x<j→ne S x=false) →
  ∃r,Ez S (i:Int) br N (j:Int)=some r∧((∃k:Nat,lk S br i k∧r=(k:Int))∨(r=-1∧∀k,¬lk S br i k)):=by
 intro n
 induction n with
 | zero =>
  intro N j hj hN hij hno
  obtain ⟨N,rfl⟩:∃N',N=N'+1:=⟨N-1,by omega⟩
  refine ⟨-1,?_,.inr ⟨rfl,?_⟩⟩
  ·show Cu S (i:Int) br (Ez S (i:Int) br N) (j:Int)=_
   unfold Cu
   have e:decide ((j:Int)<((S.length:Nat):Int))=false:=by simp;omega
   rw [e,gdF (g:=false==true&&true) rfl,sb]
   rfl
  ·rintro k ⟨h1,h2,h3,h4,h5,h6⟩
   have:=hno k h1 (by omega)
   rw [this] at h4;cases h4
 | succ n ih =>
  intro N j hj hN hij hno
  obtain ⟨N,rfl⟩:∃N',N=N'+1:=⟨N-1,by omega⟩
  have e:decide ((j:Int)<((S.length:Nat):Int))=true:=by simp;omega
  by_cases hd:(j:Int)-i≤br
  ·by_cases hni:ne S i=true
   ·by_cases hnj:ne S j=true
    ·refine ⟨j,?_,.inl ⟨j,⟨hij,by omega,hni,hnj,hno,hd⟩,rfl⟩⟩
     show Cu S (i:Int) br (Ez S (i:Int) br N) (j:Int)=_
     unfold Cu
     unfold ne at hni hnj
     rw [e,gdT (g:=true==true&&true) rfl,ckb (by omega)]
     refine Eq.trans (Bs (by simpa using hd)) ?_
     rw [H4 hi,Bs (by simpa using hni),H4 (by omega),Bs (by simpa using hnj)]
    ·have hnj':ne S j=false:=by simpa using hnj
     obtain ⟨r,h1,h2⟩:=ih N (j+1) (by omega) (by omega) (by omega) (fun x hx hx2=>by
      by_cases hxj:x=j
      ·rw [hxj];exact hnj'
      ·exact hno x hx (by omega))
     refine ⟨r,?_,h2⟩
     show Cu S (i:Int) br (Ez S (i:Int) br N) (j:Int)=_
     unfold Cu
     unfold ne at hni hnj'
     rw [e,gdT (g:=true==true&&true) rfl,ckb (by omega)]
     refine Eq.trans (Bs (by simpa using hd)) ?_
     rw [H4 hi,Bs (by simpa using hni),H4 (by omega),B9 (by simpa using hnj'),ckb (by omega),F9]
     exact h1
   ·refine ⟨-1,?_,.inr ⟨rfl,fun k hk=>hni hk.2.2.1⟩⟩
    have hni':ne S i=false:=by simpa using hni
    show Cu S (i:Int) br (Ez S (i:Int) br N) (j:Int)=_
    unfold Cu
    unfold ne at hni'
    rw [e,gdT (g:=true==true&&true) rfl,ckb (by omega)]
    refine Eq.trans (Bs (by simpa using hd)) ?_
    rw [H4 hi,B9 (by simpa using hni')]
    rfl
  ·refine ⟨-1,?_,.inr ⟨rfl,?_⟩⟩
   ·show Cu S (i:Int) br (Ez S (i:Int) br N) (j:Int)=_
    unfold Cu
    rw [e,gdT (g:=true==true&&true) rfl,ckb (by omega)]
    refine Eq.trans (B9 (by simpa using hd)) ?_
    rfl
   ·rintro k ⟨h1,h2,h3,h4,h5,h6⟩
    by_cases hk:k<j
    ·have:=hno k h1 hk;rw [this] at h4;cases h4
    ·omega
theorem A1b {F:Nat} (hF:FF≤F) (i:Nat) (hi:i<S.length) (hl:S.length≤100000) (hbr:br≤16) :
  ∃r,N4 F S (i:Int) br=some r∧((∃k:Nat,lk S br i k∧r=(k:Int))∨(r=-1∧∀k,¬lk S br i k)):=by
 unfold FF at hF
 unfold N4
 rw [ckb (by omega),F9]
 exact A2o i hi hl hbr (S.length-(i+1)) F (i+1) (by omega) (by omega) (by omega) (fun x h1 h2=>by omega)
end
end Go.Proofs.Ytbhjgebjojdohaa
namespace Go.Proofs.Ytbhjgebjojdohaa
open Go Go.RowKit Go.Eng
set_option maxRecDepth 10000
set_option linter.unusedVariables false
set_option linter.unusedSimpArgs false
section
variable {S:Da} {br jp:Int} {F:Nat}
theorem A3a {β:Type} {f:Da} {i:Nat} {x:List api_Span} (hi:i<f.length) (k:Da→Option β):(D1 f (i:Int) x).bind k=k (f.set i x):=by
 unfold D1
 rw [if_pos (by omega),sb,Int.toNat_natCast]
theorem A2g (hF:FF≤F) (hS:AllGood S) (hl:S.length≤100000):∀(n N i:Nat) (A B:Da),i+n=S.length→n<N→A.length=S.length→B.length=S.length→(∀x<i,gt A x=gt S x)→(∀x<i,gt B x=gt S x) →
  J1 F S jp br N A (i:Int) B=N5 F S jp br S S:=by
 intro n
 induction n with
 | zero =>
  intro N i A B hi hN hA hB h1 h2
  obtain ⟨N,rfl⟩:∃N',N=N'+1:=⟨N-1,by omega⟩
  show J0 F S jp br (J1 F S jp br N) A (i:Int) B=_
  unfold J0
  rw [B9 (by simp;omega),Ws hA (fun x hx=>h1 x (by omega)),Ws hB (fun x hx=>h2 x (by omega))]
 | succ n ih =>
  intro N i A B hi hN hA hB h1 h2
  obtain ⟨N,rfl⟩:∃N',N=N'+1:=⟨N-1,by omega⟩
  show J0 F S jp br (J1 F S jp br N) A (i:Int) B=_
  unfold J0
  have hg:=hS.gt i
  have hlen:=hg.len
  have hu:Fh F (gt S i)=some (gt S i):=by rw [M7 hF hg.1.2 (by omega),A85 hg.1]
  rw [Bs (by simp;omega),H4 (by omega),H4 (by omega),hu,sb,sb,H4 (by omega),A3a (by omega),H4 (by omega),A3a (by omega),ckb (by omega),F9]
  refine ih N (i+1) _ _ (by omega) (by omega) (by simpa using hA) (by simpa using hB) (fun x hx=>?_) (fun x hx=>?_)
  ·rw [Dk (by omega)]
   by_cases hxi:i=x
   ·rw [if_pos hxi,hxi]
   ·rw [if_neg hxi];exact h1 x (by omega)
  ·rw [Dk (by omega)]
   by_cases hxi:i=x
   ·rw [if_pos hxi,hxi]
   ·rw [if_neg hxi];exact h2 x (by omega)
theorem A36 (hF:FF≤F) (hS:AllGood S) (hl:S.length≤100000) (hj:0≤jp∧jp≤400000) (hb:br≤16) (bk:Da):∀(n N i:Nat) (f:Da),i+n=S.length→n<N→f.length=S.length→AllGood f →
  (∀j<S.length,((∃p,i≤p∧lk S br p j)→gt f j=gt S j)∧((∀p,i≤p→¬lk S br p j)→pF S br jp f j)) →
  ∃f',He F S jp br bk N (i:Int) f=N6 F S jp br bk f'∧f'.length=S.length∧AllGood f'∧∀j<S.length,pF S br jp f' j:=by
 intro n
 induction n with
 | zero =>
  intro N i f hi hN hf hfG hinv
  obtain ⟨N,rfl⟩:∃N',N=N'+1:=⟨N-1,by omega⟩
  refine ⟨f,?_,hf,hfG,fun j hjl=>(hinv j hjl).2 (fun p hp hk=>by have:=hk.1;omega)⟩
  show Js F S jp br bk (He F S jp br bk N) (i:Int) f=_
  unfold Js
  rw [B9 (by simp;omega)]
 | succ n ih =>
  intro N i f hi hN hf hfG hinv
  obtain ⟨N,rfl⟩:∃N',N=N'+1:=⟨N-1,by omega⟩
  obtain ⟨r,hr,hcase⟩:=A1b (S:=S) (br:=br) hF i (by omega) hl hb
  have hstep:He F S jp br bk (N+1) (i:Int) f=Js F S jp br bk (He F S jp br bk N) (i:Int) f:=rfl
  rw [hstep]
  unfold Js
  rw [Bs (by simp;omega),hr,sb]
  rcases hcase with ⟨k,hk,rfl⟩|⟨rfl,hno⟩
  ·have hkl:=hk.2.1
   have hik:=hk.1
   have hd:=Sk hj hb hk
   rw [Bs (by simp),H4 (by omega),H4 (by omega),ckb (by omega),ckb (by omega),Sf hF (hS.gt k) (hfG.gt i) hd,H4 (by omega),A3a (by omega)]
   unfold Kl
   rw [ckb (by omega),F9]
   refine ih N (i+1) _ (by omega) (by omega) (by simpa using hf) (hfG.set k ((hS.gt k).nr (hfG.gt i) hd.1)) (fun j hjl=>⟨?_,?_⟩)
   ·rintro ⟨p,hp,hpj⟩
    have hne:k≠j:=fun h=>by subst h;have:=A17 hk hpj;omega
    rw [Dk (by omega),if_neg hne]
    exact (hinv j hjl).1 ⟨p,by omega,hpj⟩
   ·intro hnop
    by_cases hkj:k=j
    ·subst hkj
     refine ⟨fun i' hi'=>?_,fun h=>absurd hk (h i)⟩
     have:=A17 hk hi'
     subst this
     rw [Dk (by omega),if_pos rfl,Dk (by omega),if_neg (by omega)]
    ·have hnoi:¬lk S br i j:=fun h=>hkj (Ua hk h)
     have hold:=(hinv j hjl).2 (fun p hp hpj=>by
      by_cases hpi:p=i
      ·subst hpi;exact hnoi hpj
      ·exact hnop p (by omega) hpj)
     refine ⟨fun i' hi'=>?_,fun h=>?_⟩
     ·have hlt:i'<i:=by
       apply Nat.lt_of_not_le
       intro hle
       by_cases hpi:i'=i
       ·subst hpi;exact hnoi hi'
       ·exact hnop i' (by omega) hi'
      rw [Dk (by omega),if_neg hkj,Dk (by omega),if_neg (by omega)]
      exact hold.1 i' hi'
     ·rw [Dk (by omega),if_neg hkj];exact hold.2 h
  ·rw [B9 (by simp)]
   unfold Kl
   rw [ckb (by omega),F9]
   refine ih N (i+1) f (by omega) (by omega) hf hfG (fun j hjl=>⟨?_,?_⟩)
   ·rintro ⟨p,hp,hpj⟩
    exact (hinv j hjl).1 ⟨p,by omega,hpj⟩
   ·intro hnop
    exact (hinv j hjl).2 (fun p hp hpj=>by
     by_cases hpi:p=i
     ·subst hpi;exact hno j hpj
     ·exact hnop p (by omega) hpj)
theorem A32 (hF:FF≤F) (hS:AllGood S) (hl:S.length≤100000) (hj:0≤jp∧jp≤400000) (hb:br≤16) (f:Da):∀(m N:Nat) (b:Da),m≤S.length→m<N→b.length=S.length→AllGood b →
  (∀j<S.length,(j<m→gt b j=gt S j)∧(m≤j→pB S br jp b j)) →
  ∃b',Hc F S jp br f N b ((m:Int)-1)=N7 F S f b'∧b'.length=S.length∧AllGood b'∧∀j<S.length,pB S br jp b' j:=by
 intro m
 induction m with
 | zero =>
  intro N b hm hN hbl hbG hinv
  obtain ⟨N,rfl⟩:∃N',N=N'+1:=⟨N-1,by omega⟩
  refine ⟨b,?_,hbl,hbG,fun j hjl=>(hinv j hjl).2 (by omega)⟩
  show Jr F S jp br f (Hc F S jp br f N) b _=_
  unfold Jr
  rw [B9 (by simp)]
 | succ m ih =>
  intro N b hm hN hbl hbG hinv
  obtain ⟨N,rfl⟩:∃N',N=N'+1:=⟨N-1,by omega⟩
  have e:(((m+1:Nat):Int)-1)=(m:Int):=by omega
  rw [e]
  obtain ⟨r,hr,hcase⟩:=A1b (S:=S) (br:=br) hF m (by omega) hl hb
  have hstep:Hc F S jp br f (N+1) b (m:Int)=Jr F S jp br f (Hc F S jp br f N) b (m:Int):=rfl
  rw [hstep]
  unfold Jr
  rw [Bs (by simp),hr,sb]
  rcases hcase with ⟨k,hk,rfl⟩|⟨rfl,hno⟩
  ·have hkl:=hk.2.1
   have hik:=hk.1
   have hd:=Sk hj hb hk
   rw [Bs (by simp),H4 (by omega),H4 (by omega),ckb (by omega),ckb (by omega),Sf hF (hS.gt m) (hbG.gt k) hd,H4 (by omega),A3a (by omega)]
   unfold L6
   rw [ckb (by omega)]
   refine ih N _ (by omega) (by omega) (by simpa using hbl) (hbG.set m ((hS.gt m).nr (hbG.gt k) hd.1)) (fun j hjl=>⟨fun hjm=>?_,fun hjm=>?_⟩)
   ·rw [Dk (by omega),if_neg (by omega)];exact (hinv j hjl).1 (by omega)
   ·by_cases hmj:m=j
    ·subst hmj
     refine ⟨fun k' hk'=>?_,fun h=>absurd hk (h k)⟩
     have:=Ua hk hk'
     subst this
     rw [Dk (by omega),if_pos rfl,Dk (by omega),if_neg (by omega)]
    ·have hold:=(hinv j hjl).2 (by omega)
     refine ⟨fun k' hk'=>?_,fun h=>?_⟩
     ·have:=hk'.1
      rw [Dk (by omega),if_neg hmj,Dk (by omega),if_neg (by omega)]
      exact hold.1 k' hk'
     ·rw [Dk (by omega),if_neg hmj];exact hold.2 h
  ·rw [B9 (by simp)]
   unfold L6
   rw [ckb (by omega)]
   refine ih N b (by omega) (by omega) hbl hbG (fun j hjl=>⟨fun hjm=>(hinv j hjl).1 (by omega),fun hjm=>?_⟩)
   by_cases hmj:m=j
   ·subst hmj
    exact ⟨fun k hk=>absurd hk (hno k),fun _=>(hinv m hjl).1 (by omega)⟩
   ·exact (hinv j hjl).2 (by omega)
theorem A37 (hF:FF≤F) (hl:S.length≤100000) {f b:Da} (hfl:f.length=S.length) (hbl:b.length=S.length) (hfG:AllGood f) (hbG:AllGood b):∀(n N i:Nat) (acc:Da),i+n=S.length→n<N→acc.length=i →
  ∃o,Jt F S f b N acc (i:Int)=some (o,0)∧o.length=S.length∧(∀x<i,gt o x=gt acc x)∧∀x,i≤x→x<S.length→gt o x=mt (gt f x) (gt b x):=by
 intro n
 induction n with
 | zero =>
  intro N i acc hi hN ha
  obtain ⟨N,rfl⟩:∃N',N=N'+1:=⟨N-1,by omega⟩
  refine ⟨acc,?_,by omega,fun x _=>rfl,fun x h1 h2=>by omega⟩
  show Jq F S f b (Jt F S f b N) acc (i:Int)=_
  unfold Jq
  rw [B9 (by simp;omega)]
  rfl
 | succ n ih =>
  intro N i acc hi hN ha
  obtain ⟨N,rfl⟩:∃N',N=N'+1:=⟨N-1,by omega⟩
  have h1:=(hfG.gt i).len
  have h2:=(hbG.gt i).len
  obtain ⟨o,ho,hol,hlow,hhigh⟩:=ih N (i+1) (acc++[mt (gt f i) (gt b i)]) (by omega) (by omega) (by simp [ha])
  have hgl:∀x<i,gt (acc++[mt (gt f i) (gt b i)]) x=gt acc x:=by
   intro x hx
   unfold gt
   rw [List.getD_eq_getElem?_getD,List.getElem?_append_left (by omega),←List.getD_eq_getElem?_getD]
  have hgi:gt (acc++[mt (gt f i) (gt b i)]) i=mt (gt f i) (gt b i):=by
   conv=>lhs;unfold gt
   rw [List.getD_eq_getElem?_getD,List.getElem?_append_right (by omega),ha,Nat.sub_self]
   rfl
  refine ⟨o,?_,hol,fun x hx=>(hlow x (by omega)).trans (hgl x hx),fun x hx hxl=>?_⟩
  ·show Jq F S f b (Jt F S f b N) acc (i:Int)=_
   unfold Jq
   rw [Bs (by simp;omega),H4 (by omega),H4 (by omega),Se hF (by omega) (by omega),sb,K0 (by simp;omega),ckb (by omega),F9]
   exact ho
  ·by_cases hxi:i=x
   ·subst hxi;exact (hlow i (by omega)).trans hgi
   ·exact hhigh x (by omega) hxl
theorem Yn (hF:FF≤F) (hS:AllGood S) (hl:S.length≤100000) (hj:0≤jp∧jp≤400000) (hb:br≤16) :
  ∃f b o,Qw F S jp br 0=some (o,0)∧o.length=S.length∧AllGood f∧AllGood b∧(∀j<S.length,pF S br jp f j)∧(∀j<S.length,pB S br jp b j)∧∀x<S.length,gt o x=mt (gt f x) (gt b x):=by
 have hF':=hF
 unfold FF at hF'
 have hmk:mkI 24 ((S.length:Nat):Int) ([]:List api_Span)=some (List.replicate S.length []):=by
  unfold mkI
  rw [if_pos (by omega),Int.toNat_natCast]
 obtain ⟨f,h1,h2,h3,h4⟩:=A36 hF hS hl hj hb S S.length F 0 S (by omega) (by omega) rfl hS (fun j hjl=>⟨fun _=>rfl,fun hno=>⟨fun i hi=>absurd hi (hno i (by omega)),fun _=>rfl⟩⟩)
 obtain ⟨b,g1,g2,g3,g4⟩:=A32 hF hS hl hj hb f S.length F S (Nat.le_refl _) (by omega) rfl hS (fun j hjl=>⟨fun _=>rfl,fun hle=>by omega⟩)
 obtain ⟨o,o1,o2,_,o4⟩:=A37 hF hl h2 g2 h3 g3 S.length F 0 [] (by omega) (by omega) rfl
 refine ⟨f,b,o,?_,o2,h3,g3,h4,g4,fun x hx=>o4 x (by omega) hx⟩
 unfold Qw
 refine Eq.trans (B9 rfl) ?_
 rw [hmk,sb,sb]
 have hinit:=A2g (jp:=jp) (br:=br) hF hS hl S.length F 0 (List.replicate S.length []) (List.replicate S.length []) (by omega) (by omega) (by simp) (by simp) (fun x hx=>by omega) (fun x hx=>by omega)
 refine Eq.trans hinit ?_
 unfold N5
 refine Eq.trans h1 ?_
 unfold N6
 rw [ckb (by omega)]
 refine Eq.trans g1 ?_
 unfold N7
 exact o1
end
end Go.Proofs.Ytbhjgebjojdohaa
namespace Go.Proofs.Ytbhjgebjojdohaa
open Go Go.RowKit Go.Eng
set_option maxRecDepth 10000
set_option linter.unusedVariables false
set_option linter.unusedSimpArgs false
section
variable {S:Da} {br jp:Int} {F:Nat}
def Kn (S:Da):List Nat:=(List.range S.length).filter (ne S)
def toI (l:List Nat):List Int:=List.map (fun (x:Nat)=>(x:Int)) l
theorem Tb:(Kn S).length≤S.length:=by
 unfold Kn
 have:=List.length_filter_le (ne S) (List.range S.length)
 simpa using this
theorem Jk {x:Nat}:x∈Kn S↔x<S.length∧ne S x=true:=by unfold Kn;rw [List.mem_filter,List.mem_range]
theorem A1s:(Kn S).Pairwise (· < ·):=List.pairwise_lt_range.filter _
def kn (S:Da) (t:Nat):Nat:=(Kn S).getD t 0
theorem Jp {t:Nat} (h:t<(Kn S).length):kn S t∈Kn S∧(Kn S)[t]? = some (kn S t):=by
 unfold kn
 rw [List.getD_eq_getElem?_getD,List.getElem?_eq_getElem h]
 exact ⟨List.getElem_mem h,rfl⟩
theorem Yd {t u:Nat} (h:t<u) (hu:u<(Kn S).length):kn S t<kn S u:=by
 have:=List.pairwise_iff_getElem.1 (A1s (S:=S)) t u (by omega) hu h
 unfold kn
 rw [List.getD_eq_getElem?_getD,List.getD_eq_getElem?_getD,List.getElem?_eq_getElem (by omega:t<(Kn S).length),List.getElem?_eq_getElem hu]
 exact this
theorem U5 {x:Nat} (h:x<S.length) (hn:ne S x=true):∃t,t<(Kn S).length∧kn S t=x:=by
 obtain ⟨t,ht,e⟩:=List.mem_iff_getElem.1 (Jk.2 ⟨h,hn⟩)
 refine ⟨t,ht,?_⟩
 unfold kn
 rw [List.getD_eq_getElem?_getD,List.getElem?_eq_getElem ht,e];rfl
theorem A16 {t u:Nat} (h:t≤u) (hu:u<(Kn S).length):kn S t≤kn S u:=by
 by_cases e:t=u
 ·rw [e];exact Nat.le_refl _
 ·exact Nat.le_of_lt (Yd (by omega) hu)
theorem Wl {t x:Nat} (ht:t+1<(Kn S).length) (h1:kn S t<x) (h2:x<kn S (t+1)):ne S x=false:=by
 cases hx:ne S x with
 | false=>rfl
 | true =>
  have hb:=(Jk.1 (Jp ht).1).1
  obtain ⟨u,hu,rfl⟩:=U5 (by omega) hx
  by_cases hut:u≤t
  ·have:=A16 hut (by omega:t<(Kn S).length);omega
  ·have:=A16 (by omega:t+1≤u) hu;omega
theorem Wk {x:Nat} (h0:0<(Kn S).length) (h:x<kn S 0):ne S x=false:=by
 cases hx:ne S x with
 | false=>rfl
 | true =>
  have hb:=(Jk.1 (Jp h0).1).1
  obtain ⟨u,hu,rfl⟩:=U5 (by omega) hx
  have:=A16 (Nat.zero_le u) hu;omega
theorem A3q {x:Nat} (h0:0<(Kn S).length) (hxl:x<S.length) (h:kn S ((Kn S).length-1)<x):ne S x=false:=by
 cases hx:ne S x with
 | false=>rfl
 | true =>
  obtain ⟨u,hu,rfl⟩:=U5 hxl hx
  have:=A16 (S:=S) (by omega:u≤(Kn S).length-1) (by omega);omega
theorem Zw (hl:S.length≤100000):∀(n N i:Nat) (acc:List Int),i+n=S.length→n<N→acc.length≤i →
  Fj S N acc (i:Int)=some (acc++toI ((List.range' i n).filter (ne S))):=by
 intro n
 induction n with
 | zero =>
  intro N i acc hi hN ha
  obtain ⟨N,rfl⟩:∃N',N=N'+1:=⟨N-1,by omega⟩
  show Fi S (Fj S N) acc (i:Int)=_
  unfold Fi
  rw [B9 (by simp;omega)]
  simp [Kh,toI]
 | succ n ih =>
  intro N i acc hi hN ha
  obtain ⟨N,rfl⟩:∃N',N=N'+1:=⟨N-1,by omega⟩
  show Fi S (Fj S N) acc (i:Int)=_
  unfold Fi Hr
  rw [Bs (by simp;omega),H4 (by omega),List.range'_succ]
  by_cases h:ne S i=true
  ·have h':=h
   unfold ne at h'
   rw [Bs (by simpa using h'),K0 (by simp;omega),ckb (by omega),F9,ih N (i+1) _ (by omega) (by omega) (by simp;omega),List.filter_cons_of_pos h]
   simp [toI]
  ·have h':ne S i=false:=by simpa using h
   have h2:=h'
   unfold ne at h2
   rw [B9 (by simpa using h2),ckb (by omega),F9,ih N (i+1) _ (by omega) (by omega) (by omega),List.filter_cons_of_neg h]
theorem U6 (hF:FF≤F) (hl:S.length≤100000):J8 F S=some (toI (Kn S)):=by
 unfold FF at hF
 unfold J8
 have:=Zw (S:=S) hl S.length F 0 [] (by omega) (by omega) (by simp)
 refine Eq.trans this ?_
 unfold Kn
 rw [List.range_eq_range',List.nil_append]
theorem So {β:Type} {t:Nat} (h:t<(Kn S).length) (k:Int→Option β):(Ad (toI (Kn S)) (t:Int)).bind k=k ((kn S t:Nat):Int):=by
 rw [Jh 0 (by simp [toI];omega),Int.toNat_natCast]
 have:(toI (Kn S)).getD t 0=((kn S t:Nat):Int):=by
  unfold toI
  rw [List.getD_eq_getElem?_getD,List.getElem?_map,(Jp h).2];rfl
 rw [this]
theorem A1i (hF:FF≤F) (hl:S.length≤100000) (hj:0≤jp∧jp≤400000) (hb:br≤16) {l:Da} (hll:l.length=S.length) (hG:AllGood l) {p q:Nat} (hp:p<(Kn S).length) (hq:q<(Kn S).length) (D:Int) (hD:D=if ((kn S q:Int)-kn S p)>((kn S p:Int)-kn S q) then ((kn S q:Int)-kn S p) else ((kn S p:Int)-kn S q)) :
  K3 F (p:Int) (q:Int) (toI (Kn S)) br l jp=some (if D≤br then l.set (kn S q) (nr (gt l (kn S q)) (gt l (kn S p)) (jp*D)) else l):=by
 have hp1:=(Jk.1 (Jp hp).1).1
 have hq1:=(Jk.1 (Jp hq).1).1
 unfold K3
 rw [So hp,So hq,ckb (by omega),So hq,So hp,ckb (by omega)]
 have hD2:(if ((kn S q:Int)-(kn S p:Int))>((kn S p:Int)-(kn S q:Int)) then ((kn S q:Int)-(kn S p:Int)) else ((kn S p:Int)-(kn S q:Int)))=D:=hD.symm
 rw [hD2]
 by_cases h:D≤br
 ·have hd0:0≤D:=by rw [hD];split<;>omega
  have hd:0≤jp*D∧jp*D≤1000000000:=by
   constructor
   ·exact Int.mul_nonneg hj.1 hd0
   ·have h2:jp*D≤jp*16:=Int.mul_le_mul_of_nonneg_left (by omega) hj.1
    omega
  rw [Bs (by simpa using h),So hq,So hq,H4 (by omega),So hp,H4 (by omega),ckb (by omega),A1a hF (hG.gt _) (hG.gt _) hd,sb,H4 (by omega),A3a (by omega),if_pos h]
 ·rw [B9 (by simpa using h),if_neg h]
theorem A4e (hF:FF≤F) (hS:AllGood S) (hl:S.length≤100000) (hj:0≤jp∧jp≤400000) (hb:br≤16):∀(n N t:Nat) (l:Da),t+n=(Kn S).length→1≤t→n<N→l.length=S.length→AllGood l →
  (∀j<S.length,(j≤kn S (t-1)→pF S br jp l j)∧(kn S (t-1)<j→gt l j=gt S j)) →
  ∃f,D3 F jp br (toI (Kn S)) N l (t:Int)=Jb F jp br (toI (Kn S)) f∧f.length=S.length∧AllGood f∧∀j<S.length,pF S br jp f j:=by
 intro n
 induction n with
 | zero =>
  intro N t l ht h1 hN hll hG hinv
  obtain ⟨N,rfl⟩:∃N',N=N'+1:=⟨N-1,by omega⟩
  refine ⟨l,?_,hll,hG,fun j hjl=>?_⟩
  ·show Fb F jp br (toI (Kn S)) (D3 F jp br (toI (Kn S)) N) l (t:Int)=_
   unfold Fb
   rw [B9 (by simp [toI];omega)]
  ·by_cases h:j≤kn S (t-1)
   ·exact (hinv j hjl).1 h
   ·have hb':=A3q (S:=S) (x:=j) (by omega) hjl (by rw [show (Kn S).length-1=t-1 by omega];omega)
    refine ⟨fun i hi=>?_,fun _=>(hinv j hjl).2 (by omega)⟩
    have:=hi.2.2.2.1
    rw [hb'] at this;cases this
 | succ n ih =>
  intro N t l ht h1 hN hll hG hinv
  obtain ⟨N,rfl⟩:∃N',N=N'+1:=⟨N-1,by omega⟩
  have hstep:D3 F jp br (toI (Kn S)) (N+1) l (t:Int)=Fb F jp br (toI (Kn S)) (D3 F jp br (toI (Kn S)) N) l (t:Int):=rfl
  rw [hstep]
  unfold Fb
  have e1:((t:Int)-1)=((t-1:Nat):Int):=by omega
  have hKl:=Tb (S:=S)
  have hlt:=Yd (S:=S) (t:=t-1) (u:=t) (by omega) (by omega)
  have hA:=Jk.1 (Jp (S:=S) (t:=t-1) (by omega)).1
  have hB:=Jk.1 (Jp (S:=S) (t:=t) (by omega)).1
  have hbt:∀x,kn S (t-1)<x→x<kn S t→ne S x=false:=fun x g1 g2=>Wl (S:=S) (t:=t-1) (by omega) g1 (by rw [show t-1+1=t by omega];exact g2)
  have hD:=A1i hF hl hj hb hll hG (p:=t-1) (q:=t) (by omega) (by omega) ((kn S t:Int)-kn S (t-1)) (by split<;>omega)
  rw [Bs (by simp [toI];omega),ckb (by omega),e1,hD,sb,ckb (by omega),F9]
  generalize hu:kn S (t-1)=a at *
  generalize hv:kn S t=b at *
  have hpred:∀i,lk S br i b→i=a:=by
   intro i hi
   rcases Nat.lt_trichotomy i a with hlt'|hlt'|hlt'
   ·have:=hi.2.2.2.2.1 a hlt' hlt;rw [this] at hA;exact absurd hA.2 (by simp)
   ·exact hlt'
   ·have:=hbt i hlt' hi.1;have h3:=hi.2.2.1;rw [this] at h3;cases h3
  by_cases hlink:(b:Int)-a≤br
  ·rw [if_pos hlink]
   have hk:lk S br a b:=⟨hlt,hB.1,hA.2,hB.2,hbt,hlink⟩
   have hd:=Sk hj hb hk
   refine ih N (t+1) _ (by omega) (by omega) (by omega) (by simpa using hll) (hG.set b ((hG.gt b).nr (hG.gt a) hd.1)) (fun j hjl=>?_)
   rw [show t+1-1=t by omega,hv]
   refine ⟨fun hjb=>?_,fun hjb=>by rw [Dk (by omega),if_neg (by omega)];exact (hinv j hjl).2 (by omega)⟩
   by_cases hjb2:b=j
   ·subst hjb2
    refine ⟨fun i hi=>?_,fun h=>absurd hk (h a)⟩
    have:=hpred i hi
    subst this
    rw [Dk (by omega),if_pos rfl,Dk (by omega),if_neg (by omega),(hinv b hjl).2 (by omega)]
   ·by_cases hja:j≤a
    ·have hold:=(hinv j hjl).1 hja
     refine ⟨fun i hi=>?_,fun h=>?_⟩
     ·have:=hi.1
      rw [Dk (by omega),if_neg hjb2,Dk (by omega),if_neg (by omega)]
      exact hold.1 i hi
     ·rw [Dk (by omega),if_neg hjb2];exact hold.2 h
    ·have hno:=hbt j (by omega) (by omega)
     refine ⟨fun i hi=>?_,fun h=>?_⟩
     ·have:=hi.2.2.2.1;rw [hno] at this;cases this
     ·rw [Dk (by omega),if_neg hjb2];exact (hinv j hjl).2 (by omega)
  ·rw [if_neg hlink]
   refine ih N (t+1) l (by omega) (by omega) (by omega) hll hG (fun j hjl=>?_)
   rw [show t+1-1=t by omega,hv]
   refine ⟨fun hjb=>?_,fun hjb=>(hinv j hjl).2 (by omega)⟩
   by_cases hja:j≤a
   ·exact (hinv j hjl).1 hja
   ·refine ⟨fun i hi=>?_,fun _=>(hinv j hjl).2 (by omega)⟩
    by_cases hjb2:j=b
    ·subst hjb2
     have:=hpred i hi
     subst this
     exact absurd hi.2.2.2.2.2 hlink
    ·have hno:=hbt j (by omega) (by omega)
     have:=hi.2.2.2.1;rw [hno] at this;cases this
theorem A3t (hF:FF≤F) (hS:AllGood S) (hl:S.length≤100000) (hj:0≤jp∧jp≤400000) (hb:br≤16) {f:Da}:∀(t N:Nat) (l:Da),t<(Kn S).length→t<N→l.length=S.length→AllGood l →
  (∀j<S.length,(kn S t≤j→pP S br jp f l j)∧(j<kn S t→gt l j=gt f j)) →
  ∃p,Ds F jp br (toI (Kn S)) N l (t:Int)=Jc F p∧p.length=S.length∧AllGood p∧∀j<S.length,pP S br jp f p j:=by
 intro t
 induction t with
 | zero =>
  intro N l ht hN hll hG hinv
  obtain ⟨N,rfl⟩:∃N',N=N'+1:=⟨N-1,by omega⟩
  refine ⟨l,?_,hll,hG,fun j hjl=>?_⟩
  ·show Fa F jp br (toI (Kn S)) (Ds F jp br (toI (Kn S)) N) l ((0:Nat):Int)=_
   unfold Fa
   rw [B9 (by simp)]
  ·by_cases h:kn S 0≤j
   ·exact (hinv j hjl).1 h
   ·have hno:=Wk (S:=S) (x:=j) (by omega) (by omega)
    refine ⟨fun k hk=>?_,fun _=>(hinv j hjl).2 (by omega)⟩
    have:=hk.2.2.1;rw [hno] at this;cases this
 | succ t ih =>
  intro N l ht hN hll hG hinv
  obtain ⟨N,rfl⟩:∃N',N=N'+1:=⟨N-1,by omega⟩
  have hstep:Ds F jp br (toI (Kn S)) (N+1) l ((t+1:Nat):Int)=Fa F jp br (toI (Kn S)) (Ds F jp br (toI (Kn S)) N) l ((t+1:Nat):Int):=rfl
  rw [hstep]
  unfold Fa
  have e1:(((t+1:Nat):Int)-1)=(t:Int):=by omega
  have hlt:=Yd (S:=S) (t:=t) (u:=t+1) (by omega) ht
  have hA:=Jk.1 (Jp (S:=S) (t:=t) (by omega)).1
  have hB:=Jk.1 (Jp (S:=S) (t:=t+1) ht).1
  have hbt:∀x,kn S t<x→x<kn S (t+1)→ne S x=false:=fun x g1 g2=>Wl (S:=S) ht g1 g2
  have hD:=A1i hF hl hj hb hll hG (p:=t+1) (q:=t) ht (by omega) ((kn S (t+1):Int)-kn S t) (by split<;>omega)
  have hpos:decide ((((t+1:Nat):Int))>0)=true:=by simp
  have hlen:(Kn S).length≤S.length:=by unfold Kn;have:=List.length_filter_le (ne S) (List.range S.length);simpa using this
  rw [hpos,cond_true,ckb (by omega),e1,hD,sb,ckb (by omega)]
  generalize hu:kn S t=a at *
  generalize hv:kn S (t+1)=b at *
  have hsucc:∀k,lk S br a k→k=b:=by
   intro k hk
   rcases Nat.lt_trichotomy k b with hlt'|hlt'|hlt'
   ·have:=hbt k hk.1 hlt';have h3:=hk.2.2.2.1;rw [this] at h3;cases h3
   ·exact hlt'
   ·have:=hk.2.2.2.2.1 b hlt hlt';rw [this] at hB;exact absurd hB.2 (by simp)
  by_cases hlink:(b:Int)-a≤br
  ·rw [if_pos hlink]
   have hk:lk S br a b:=⟨hlt,hB.1,hA.2,hB.2,hbt,hlink⟩
   have hd:=Sk hj hb hk
   refine ih N _ (by omega) (by omega) (by simpa using hll) (hG.set a ((hG.gt a).nr (hG.gt b) hd.1)) (fun j hjl=>⟨fun hja=>?_,fun hja=>by rw [Dk (by omega),if_neg (by omega)];exact (hinv j hjl).2 (by omega)⟩)
   by_cases hja2:a=j
   ·subst hja2
    refine ⟨fun k hk'=>?_,fun h=>absurd hk (h b)⟩
    have:=hsucc k hk'
    subst this
    rw [Dk (by omega),if_pos rfl,Dk (by omega),if_neg (by omega),(hinv a hjl).2 (by omega)]
   ·by_cases hjb:b≤j
    ·have hold:=(hinv j hjl).1 hjb
     refine ⟨fun k hk'=>?_,fun h=>?_⟩
     ·have:=hk'.1
      rw [Dk (by omega),if_neg hja2,Dk (by omega),if_neg (by omega)]
      exact hold.1 k hk'
     ·rw [Dk (by omega),if_neg hja2];exact hold.2 h
    ·have hno:=hbt j (by omega) (by omega)
     refine ⟨fun k hk'=>?_,fun h=>?_⟩
     ·have:=hk'.2.2.1;rw [hno] at this;cases this
     ·rw [Dk (by omega),if_neg hja2];exact (hinv j hjl).2 (by omega)
  ·rw [if_neg hlink]
   refine ih N l (by omega) (by omega) hll hG (fun j hjl=>⟨fun hja=>?_,fun hja=>(hinv j hjl).2 (by omega)⟩)
   by_cases hjb:b≤j
   ·exact (hinv j hjl).1 hjb
   ·refine ⟨fun k hk'=>?_,fun _=>(hinv j hjl).2 (by omega)⟩
    by_cases hja2:j=a
    ·subst hja2
     have:=hsucc k hk'
     subst this
     exact absurd hk'.2.2.2.2.2 hlink
    ·have hno:=hbt j (by omega) (by omega)
     have:=hk'.2.2.1;rw [hno] at this;cases this
theorem Vr (hF:FF≤F) (hl:S.length≤100000) (hG:AllGood S):∀(n N i:Nat),i+n=S.length→n<N→Fd F S N (S.take i) (i:Int)=some S:=by
 intro n
 induction n with
 | zero =>
  intro N i hi hN
  obtain ⟨N,rfl⟩:∃N',N=N'+1:=⟨N-1,by omega⟩
  show Ge F S (Fd F S N) (S.take i) (i:Int)=_
  unfold Ge
  rw [B9 (by simp;omega),List.take_of_length_le (by omega)]
  rfl
 | succ n ih =>
  intro N i hi hN
  obtain ⟨N,rfl⟩:∃N',N=N'+1:=⟨N-1,by omega⟩
  show Ge F S (Fd F S N) (S.take i) (i:Int)=_
  unfold Ge Aw
  have hlen:=(hG.gt i).len
  rw [Bs (by simp;omega),H4 (by omega),K0 (by simp;omega),List.nil_append,sb,K0 (by simp;omega),ckb (by omega),F9]
  have:S.take i++[gt S i]=S.take (i+1):=by
   rw [List.take_add_one,List.getElem?_eq_getElem (by omega:i<S.length)]
   unfold gt
   rw [List.getD_eq_getElem?_getD,List.getElem?_eq_getElem (by omega:i<S.length)]
   rfl
  rw [this]
  exact ih N (i+1) (by omega) (by omega)
theorem X9 (hF:FF≤F) (hS:AllGood S) (hl:S.length≤100000) (hj:0≤jp∧jp≤400000) (hb:br≤16) (e:Int) :
  ∃f p,Gz F jp br (S,e) 0=some (p,0)∧p.length=S.length∧AllGood f∧AllGood p∧(∀j<S.length,pF S br jp f j)∧(∀j<S.length,pP S br jp f p j):=by
 have hF':=hF
 unfold FF at hF'
 have hKl:(Kn S).length≤S.length:=by unfold Kn;have:=List.length_filter_le (ne S) (List.range S.length);simpa using this
 have hback:∀(p:Da),p.length=S.length→AllGood p→Jc F p=some (p,0):=by
  intro p hpl hpG
  unfold Jc K5
  have:=Vr (S:=p) hF (by omega) hpG p.length F 0 (by omega) (by omega)
  have h9:Fd F p F [] 0=some p:=this
  rw [h9,sb]
 have hstart:Gz F jp br (S,e) 0=D3 F jp br (toI (Kn S)) F S ((1:Nat):Int):=by
  unfold Gz
  refine Eq.trans (B9 rfl) ?_
  rw [U6 hF hl,sb]
  rfl
 by_cases h0:(Kn S).length=0
 ·have hno:∀x<S.length,ne S x=false:=by
   intro x hx
   cases h:ne S x with
   | false=>rfl
   | true=>obtain ⟨t,ht,_⟩:=U5 hx h;omega
  have hnolk:∀i j,¬lk S br i j:=by
   intro i j h
   have:=hno j h.2.1
   have h2:=h.2.2.2.1
   rw [this] at h2;cases h2
  refine ⟨S,S,?_,rfl,hS,hS,fun j hjl=>⟨fun i hi=>absurd hi (hnolk _ _),fun _=>rfl⟩,fun j hjl=>⟨fun k hk=>absurd hk (hnolk _ _),fun _=>rfl⟩⟩
  rw [hstart]
  obtain ⟨N,hN⟩:∃N',F=N'+1:=⟨F-1,by omega⟩
  have e1:D3 F jp br (toI (Kn S)) F S ((1:Nat):Int)=D3 F jp br (toI (Kn S)) (N+1) S ((1:Nat):Int):=by rw [←hN]
  rw [e1]
  have hstep:D3 F jp br (toI (Kn S)) (N+1) S ((1:Nat):Int)=Fb F jp br (toI (Kn S)) (D3 F jp br (toI (Kn S)) N) S ((1:Nat):Int):=rfl
  rw [hstep]
  unfold Fb Jb
  have hlen:(toI (Kn S)).length=0:=by simp [toI,h0]
  rw [hlen,B9 (by decide),ckb (by decide)]
  have e2:Ds F jp br (toI (Kn S)) F S (((0:Nat):Int)-1)=Ds F jp br (toI (Kn S)) (N+1) S (((0:Nat):Int)-1):=by rw [←hN]
  rw [e2]
  have hstep2:Ds F jp br (toI (Kn S)) (N+1) S (((0:Nat):Int)-1)=Fa F jp br (toI (Kn S)) (Ds F jp br (toI (Kn S)) N) S (((0:Nat):Int)-1):=rfl
  rw [hstep2]
  unfold Fa
  rw [B9 (by decide)]
  exact hback S rfl hS
 ·have hi1:∀j<S.length,j≤kn S 0→∀i,¬lk S br i j:=by
   intro j hjl hjk i hi
   have h5:=hi.1
   have:=Wk (S:=S) (x:=i) (by omega) (by omega)
   have h6:=hi.2.2.1
   rw [this] at h6;cases h6
  have hi2:∀j<S.length,kn S ((Kn S).length-1)≤j→∀k,¬lk S br j k:=by
   intro j hjl hjk k hk
   have h5:=hk.1
   have h7:=hk.2.1
   have:=A3q (S:=S) (x:=k) (by omega) h7 (by omega)
   have h6:=hk.2.2.2.1
   rw [this] at h6;cases h6
  obtain ⟨f,h1,h2,h3,h4⟩:=A4e hF hS hl hj hb ((Kn S).length-1) F 1 S (by omega) (by omega) (by omega) rfl hS (fun j hjl=>⟨fun hjk=>⟨fun i hi=>absurd hi (hi1 j hjl hjk i),fun _=>rfl⟩,fun _=>rfl⟩)
  obtain ⟨p,g1,g2,g3,g4⟩:=A3t (f:=f) hF hS hl hj hb ((Kn S).length-1) F f (by omega) (by omega) h2 h3 (fun j hjl=>⟨fun hjk=>⟨fun k hk=>absurd hk (hi2 j hjl hjk k),fun _=>rfl⟩,fun _=>rfl⟩)
  refine ⟨f,p,?_,g2,h3,g3,h4,g4⟩
  rw [hstart,h1]
  unfold Jb
  have hlen:(toI (Kn S)).length=(Kn S).length:=by simp [toI]
  rw [hlen,ckb (by omega)]
  have e1:(((Kn S).length:Nat):Int)-1=(((Kn S).length-1:Nat):Int):=by omega
  rw [e1,g1]
  exact hback p g2 g3
end
end Go.Proofs.Ytbhjgebjojdohaa
namespace Go.Proofs.Ytbhjgebjojdohaa
open Go Go.RowKit Go.Eng
set_option maxRecDepth 10000
set_option linter.unusedVariables false
set_option linter.unusedSimpArgs false
def gx (l:List api_Span) (x:Nat):api_Span:=l.getD x default
theorem Y7 {β:Type} {l:List api_Span} {i:Nat} (hi:i<l.length) (k:api_Span→Option β):(Ad l (i:Int)).bind k=k (gx l i):=by
 rw [Jh default (by omega),Int.toNat_natCast];rfl
theorem Yj (s:api_Span):(bif (bif (decide (s.Lo>s.Hi)) then true else (decide (s.Lo<(-200000)))) then true else (decide (s.Hi>200000)))=!A6y s:=by
 unfold A6y;rw [Bool.eq_iff_iff];simp [cond_eq_ite];omega
section
variable {S:Da} {F:Nat}
theorem A3b (hF:FF≤F) {a:Da} (hG:AllGood a) (hl:a.length≤100000):∀(n N i:Nat),i+n=a.length→n<N→Fx F a a N (i:Int)=some true:=by
 have hF':=hF
 unfold FF at hF'
 intro n
 induction n with
 | zero =>
  intro N i hi hN
  obtain ⟨N,rfl⟩:∃N',N=N'+1:=⟨N-1,by omega⟩
  show Fv F a a (Fx F a a N) (i:Int)=_
  unfold Fv
  rw [B9 (by simp;omega)];rfl
 | succ n ih =>
  intro N i hi hN
  obtain ⟨N,rfl⟩:∃N',N=N'+1:=⟨N-1,by omega⟩
  show Fv F a a (Fx F a a N) (i:Int)=_
  unfold Fv
  have hlen:=(hG.gt i).len
  rw [Bs (by simp;omega),H4 (by omega),H4 (by omega),Wx F _ (by omega) (by omega),sb]
  refine Eq.trans (B9 rfl) ?_
  rw [ckb (by omega),F9]
  exact ih N (i+1) (by omega) (by omega)
end
end Go.Proofs.Ytbhjgebjojdohaa
namespace Go.Proofs.Ytbhjgebjojdohaa
open Go Go.RowKit Go.Eng
set_option maxRecDepth 10000
set_option linter.unusedVariables false
set_option linter.unusedSimpArgs false
abbrev Pl:=Nat×Nat
abbrev Fam:=Pl→List api_Span
abbrev Lnk:=Pl→Pl→Int→Prop
def Supp (f:Fam) (p q:Pl) (d:Int):Prop:=∀z,mem z (f q)→∃y,mem y (f p)∧y-2*d≤z∧z≤y+2*d
def both (R:Lnk):Lnk:=fun p q d=>R p q d∨R q p d
def Stable (R:Lnk) (f:Fam):Prop:=∀p q d,both R p q d→Supp f p q d
def Below (f g:Fam):Prop:=∀p z,mem z (f p)→mem z (g p)
def T9 (f:Fam):Prop:=∀p,Good (f p)
def Za (f:Fam) (p:Pl) (x:List api_Span):Fam:=fun q=>if q=p then x else f q
theorem Below.refl (f:Fam):Below f f:=fun _ _ h=>h
theorem Below.trans {f g h:Fam} (a:Below f g) (b:Below g h):Below f h:=fun p z hz=>b p z (a p z hz)
section
variable {R:Lnk} {f g h:Fam} {p q:Pl} {d:Int}
theorem Yh (hf:T9 f) (hd:0≤d):Below (Za f q (nr (f q) (f p) d)) f:=by
 intro r z hz
 unfold Za at hz
 split at hz
 ·rename_i e;subst e;exact ((Fy (hf p).1.2 hd z).1 hz).1
 ·exact hz
theorem A4v (hf:T9 f) (hd:0≤d) (hs:Stable R h) (hb:Below h f) (hl:both R p q d):Below h (Za f q (nr (f q) (f p) d)):=by
 intro r z hz
 unfold Za
 split
 ·rename_i e
  subst e
  refine (Fy (hf p).1.2 hd z).2 ⟨hb _ z hz,?_⟩
  obtain ⟨y,hy,h1⟩:=hs p r d hl z hz
  exact ⟨y,hb _ y hy,h1⟩
 ·exact hb r z hz
theorem A1c (hf:T9 f) (hd:0≤d):nr (f q) (f p) d=f q↔Supp f p q d:=by
 constructor
 ·intro e z hz
  rw [←e] at hz
  exact ((Fy (hf p).1.2 hd z).1 hz).2
 ·intro hs
  refine Ko (Uk _ _ _) (hf q).1 fun z=>?_
  rw [Fy (hf p).1.2 hd z]
  exact ⟨fun h=>h.1,fun h=>⟨h,hs z h⟩⟩
theorem Vk {S:Fam} (hf:T9 f) (hg:T9 g) (h1:Stable R f) (h2:Stable R g) (b1:Below f S) (b2:Below g S) (m1:∀h,Stable R h→Below h S→Below h f) (m2:∀h,Stable R h→Below h S→Below h g) (p:Pl):f p=g p :=
 Ko (hf p).1 (hg p).1 fun z=>⟨fun hz=>m2 f h1 b1 p z hz,fun hz=>m1 g h2 b2 p z hz⟩
end
instance (z:Int) (s:api_Span):Decidable (inS z s):=by unfold inS;infer_instance
instance (z:Int) (l:List api_Span):Decidable (mem z l):=by unfold mem;infer_instance
def HN:Nat:=800001
theorem A7o:HN=800001:=rfl
attribute [irreducible] HN
def vol (l:List api_Span):Nat:=(List.range HN).countP (fun k:Nat=>decide (mem ((k:Int)-400000) l))
theorem R9 {α:Type} {p q:α→Bool}:∀(l:List α),(∀x∈l,p x=true→q x=true)→l.countP p≤l.countP q
 | [],_=>Nat.le_refl _
 | a::l,h=>by
  have ih:=R9 l fun x hx=>h x (by simp [hx])
  have ha:=h a (by simp)
  rw [List.countP_cons,List.countP_cons]
  split
  ·rw [if_pos (ha (by assumption))];omega
  ·split<;>omega
theorem Ra {α:Type} {p q:α→Bool}:∀(l:List α),(∀x∈l,p x=true→q x=true)→(∃x∈l,q x=true∧p x=false)→l.countP p<l.countP q
 | [],_,h=>by obtain ⟨x,hx,_⟩:=h;cases hx
 | a::l,h,he=>by
  have hl:=R9 l fun x hx=>h x (by simp [hx])
  have ha:=h a (by simp)
  rw [List.countP_cons,List.countP_cons]
  obtain ⟨x,hx,h1,h2⟩:=he
  rcases List.mem_cons.1 hx with rfl|hx
  ·rw [h1,h2];simp;omega
  ·have:=Ra l (fun x hx=>h x (by simp [hx])) ⟨x,hx,h1,h2⟩
   cases hp:p a with
   | true=>rw [ha hp];simp;omega
   | false=>simp;omega
theorem A9z {a b:List api_Span} (hs:∀z,mem z a→mem z b) (ha:Canon a) (hb:Good b) (hne:a≠b):vol a<vol b:=by
 refine Ra _ (fun k _ hk=>?_) ?_
 ·simp only [decide_eq_true_eq] at hk ⊢
  exact hs _ hk
 ·have:∃z,mem z b∧¬mem z a:=by
   apply Classical.byContradiction
   intro hn
   refine hne (Ko ha hb.1 fun z=>⟨hs z,fun hz=>?_⟩)
   apply Classical.byContradiction
   intro h
   exact hn ⟨z,hz,h⟩
  obtain ⟨z,h1,h2⟩:=this
  have hz:=Q4 hb.2 h1
  have:=A7o
  refine ⟨(z+400000).toNat,List.mem_range.2 (by omega),?_,?_⟩
  ·have e:(((z+400000).toNat:Nat):Int)-400000=z:=by omega
   rw [e];simpa using h1
  ·have e:(((z+400000).toNat:Nat):Int)-400000=z:=by omega
   rw [e];simpa using h2
theorem A9y (l:List api_Span):vol l≤HN:=by
 have:vol l≤(List.range HN).length:=List.countP_le_length ..
 rwa [List.length_range] at this
abbrev Rays:=List Da
def gf (G:Rays):Fam:=fun p=>gt (G.getD p.1 []) p.2
def sf (G:Rays) (p:Pl) (x:List api_Span):Rays:=G.set p.1 ((G.getD p.1 []).set p.2 x)
def Shape (G:Rays) (n m:Nat):Prop:=G.length=n∧∀r∈G,r.length=m
def AllG (G:Rays):Prop:=∀r∈G,AllGood r
section
variable {G:Rays} {n m a:Nat} {p q:Pl} {x:List api_Span}
theorem Hu {α:Type} {l:List α} {i:Nat} {d:α} (h:i<l.length):l.getD i d∈l:=by
 rw [List.getD_eq_getElem?_getD,List.getElem?_eq_getElem h];exact List.getElem_mem h
theorem Shape.row (h:Shape G n m) (ha:a<n):(G.getD a []).length=m:=h.2 _ (Hu (by rw [h.1];exact ha))
theorem AllG.row (h:AllG G) (a:Nat):AllGood (G.getD a []):=by
 by_cases ha:a<G.length
 ·exact h _ (Hu ha)
 ·rw [List.getD_eq_getElem?_getD,List.getElem?_eq_none (by omega)]
  intro x hx;cases hx
theorem AllG.good (h:AllG G):T9 (gf G):=fun p=>(h.row p.1).gt p.2
theorem AllG.sf (h:AllG G) (hx:Good x):AllG (sf G p x):=by
 intro r hr
 rcases List.mem_or_eq_of_mem_set hr with h1|h1
 ·exact h r h1
 ·rw [h1];exact (h.row p.1).set p.2 hx
theorem Shape.sf (h:Shape G n m) (hp:p.1<n):Shape (sf G p x) n m:=by
 refine ⟨by unfold Proofs.Ytbhjgebjojdohaa.sf;rw [List.length_set];exact h.1,fun r hr=>?_⟩
 rcases List.mem_or_eq_of_mem_set hr with h1|h1
 ·exact h.2 r h1
 ·rw [h1,List.length_set];exact h.row hp
theorem Hv {α:Type} {l:List α} {i j:Nat} {x d:α} (hi:i<l.length):(l.set i x).getD j d=if i=j then x else l.getD j d:=by
 rw [List.getD_eq_getElem?_getD,List.getD_eq_getElem?_getD,List.getElem?_set]
 by_cases h:i=j
 ·rw [if_pos h,if_pos h,if_pos hi];rfl
 ·rw [if_neg h,if_neg h]
theorem A4f (h:Shape G n m) (hp:p.1<n∧p.2<m):gf (sf G p x)=Za (gf G) p x:=by
 funext q
 unfold gf sf Za
 rw [Hv (by rw [h.1];exact hp.1)]
 by_cases h1:p.1=q.1
 ·rw [if_pos h1,Dk (by rw [h.row hp.1];exact hp.2)]
  by_cases h2:p.2=q.2
  ·rw [if_pos h2,if_pos (Prod.ext h1.symm h2.symm)]
  ·rw [if_neg h2,if_neg (fun e=>h2 (by rw [e])),h1]
 ·rw [if_neg h1,if_neg (fun e=>h1 (by rw [e]))]
def Vol (G:Rays):Nat:=(G.map fun r=>(r.map vol).sum).sum
theorem R1 {α:Type} (f:α→Nat) (d:α):∀(l:List α) (i:Nat) (x:α),i<l.length→((l.set i x).map f).sum+f (l.getD i d)=(l.map f).sum+f x
 | [],i,x,h=>by simp at h
 | a::l,0,x,h=>by simp;omega
 | a::l,i+1,x,h=>by
  have:=R1 f d l i x (by simpa using h)
  simp only [List.set_cons_succ,List.map_cons,List.sum_cons,List.getD_cons_succ]
  omega
theorem A8b (h:Shape G n m) (hp:p.1<n∧p.2<m):Vol (sf G p x)+vol (gf G p)=Vol G+vol x:=by
 have h1:=R1 (fun r:Da=>(r.map vol).sum) [] G p.1 ((G.getD p.1 []).set p.2 x) (by rw [h.1];exact hp.1)
 have h2:=R1 vol [] (G.getD p.1 []) p.2 x (by rw [h.row hp.1];exact hp.2)
 have e1:(((G.getD p.1 []).getD p.2 []):List api_Span)=gf G p:=rfl
 rw [e1] at h2
 unfold Vol sf
 omega
theorem A8a (h:Shape G n m):Vol G≤n*(m*HN):=by
 obtain ⟨h1,h2⟩:=h
 subst h1
 unfold Vol
 induction G with
 | nil=>simp
 | cons r G ih =>
  have hr:∀(l:Da),(l.map vol).sum≤l.length*HN:=by
   intro l
   induction l with
   | nil=>simp
   | cons a l ih=>have:=A9y a;simp only [List.map_cons,List.sum_cons,List.length_cons,Nat.add_mul,Nat.one_mul];omega
  have e:=hr r
  rw [h2 r (by simp)] at e
  have ih:=ih fun r hr=>h2 r (by simp [hr])
  simp only [List.map_cons,List.sum_cons,List.length_cons,Nat.add_mul,Nat.one_mul]
  omega
end
end Go.Proofs.Ytbhjgebjojdohaa
namespace Go.Proofs.Ytbhjgebjojdohaa
open Go Go.RowKit Go.Eng
set_option maxRecDepth 10000
set_option linter.unusedVariables false
set_option linter.unusedSimpArgs false
section
variable (S:Rays) (br jp:Int)
def LA:Lnk:=fun p q d=>p.1=q.1∧p.1<S.length∧lk (S.getD p.1 []) br p.2 q.2∧d=jp*((q.2:Int)-p.2)
def fst (a i k:Nat):Prop:=1≤k∧(k:Int)≤br∧k<S.length∧ne (S.getD ((a+k)%S.length) []) i=true∧∀k',1≤k'→k'<k→ne (S.getD ((a+k')%S.length) []) i=false
def LO:Lnk:=fun p q d=>p.1<S.length∧ne (S.getD p.1 []) p.2=true∧p.2=q.2∧∃k,fst S br p.1 p.2 k∧q.1=(p.1+k)%S.length∧d=jp*(k:Int)
def LL:Lnk:=fun p q d=>LA S br jp p q d∨LO S br jp p q d
end
theorem Zr {S:Rays} {br:Int} {a i k k':Nat} (h:fst S br a i k) (h':fst S br a i k'):k=k':=by
 rcases Nat.lt_trichotomy k k' with hlt|hlt|hlt
 ·have h1:=h'.2.2.2.2 k h.1 hlt;have h2:=h.2.2.2.1;rw [h1] at h2;cases h2
 ·exact hlt
 ·have h1:=h.2.2.2.2 k' h'.1 hlt;have h2:=h'.2.2.2.1;rw [h1] at h2;cases h2
theorem A19 {S:Da} {i:Nat} (h:ne S i=true):i<S.length:=by
 apply Classical.byContradiction
 intro hn
 unfold ne gt at h
 rw [List.getD_eq_getElem?_getD,List.getElem?_eq_none (by omega)] at h
 simp at h
section
variable {S:Rays} {br jp:Int} {n m:Nat} {F:Nat}
theorem Ls (hS:Shape S n m) {p q:Pl} {d:Int} (h:LL S br jp p q d):p.1<n∧p.2<m∧q.1<n∧q.2<m∧p≠q:=by
 rcases h with ⟨h1,h2,h3,h4⟩|⟨h1,h2,h3,k,h4,h5,h6⟩
 ·rw [hS.1] at h2
  have:=hS.row h2
  have h5:=A19 h3.2.2.1
  have h6:=h3.2.1
  rw [this] at h5 h6
  exact ⟨h2,h5,h1▸h2,h6,fun e=>by have:=h3.1;rw [e] at this;omega⟩
 ·have hn0:0<S.length:=by omega
  have h7:=A19 h2
  rw [hS.1] at *
  rw [hS.row h1] at h7
  refine ⟨h1,h7,h5▸Nat.mod_lt _ hn0,h3▸h7,fun e=>?_⟩
  have hk:=h4.1
  have hk2:=h4.2.2.1
  rw [hS.1] at hk2
  have e1:p.1=(p.1+k)%n:=by rw [←h5,←e]
  by_cases hlt:p.1+k<n
  ·rw [Nat.mod_eq_of_lt hlt] at e1;omega
  ·rw [Nat.mod_eq_sub_mod (by omega),Nat.mod_eq_of_lt (by omega)] at e1;omega
theorem A1t (hS:Shape S n m) (hj:0≤jp∧jp≤400000) (hb:br≤16) {p q:Pl} {d:Int} (h:LL S br jp p q d):0≤d∧d≤1000000000:=by
 have key:∀c:Int,0≤c→c≤16→0≤jp*c∧jp*c≤1000000000:=by
  intro c h0 h1
  have e1:=Int.mul_nonneg hj.1 h0
  have e2:jp*c≤400000*16:=Int.mul_le_mul hj.2 h1 h0 (by omega)
  omega
 rcases h with ⟨h1,h2,h3,h4⟩|⟨h1,h2,h3,k,h4,h5,h6⟩
 ·rw [h4]
  have:=h3.1
  have:=h3.2.2.2.2.2
  exact key _ (by omega) (by omega)
 ·rw [h6]
  have:=h4.1
  have:=h4.2.1
  exact key _ (by omega) (by omega)
theorem Ni {β:Type} {G:Rays} {a:Nat} (ha:a<G.length) (k:Da→Option β):(Ad G (a:Int)).bind k=k (G.getD a []):=by
 rw [Jh [] (by omega),Int.toNat_natCast]
theorem A5o {β:Type} {a b:Nat} (hb:0<b) (k:Int→Option β):(N8 (a:Int) (b:Int)).bind k=k ((a%b:Nat):Int):=by
 unfold N8
 rw [if_neg (by omega)]
 show k _=_
 congr 1
theorem A05 (G:Da) (i:Nat):decide ((((gt G i).length:Nat):Int)>0)=ne G i:=by
 unfold ne
 rw [Bool.eq_iff_iff];simp only [decide_eq_true_eq];omega
end
end Go.Proofs.Ytbhjgebjojdohaa
namespace Go.Proofs.Ytbhjgebjojdohaa
open Go Go.RowKit Go.Eng
set_option maxRecDepth 10000
set_option linter.unusedVariables false
set_option linter.unusedSimpArgs false
theorem H7 (a b:List api_Span) (hl:a.length=b.length) (hb:a.length≤1000000000):∀(n N i:Nat),i+n=a.length→n<N →
  Aq a b N (i:Int)=some (decide (a.drop i=b.drop i)):=by
 intro n
 induction n with
 | zero =>
  intro N i hi hN
  obtain ⟨N,rfl⟩:∃N',N=N'+1:=⟨N-1,by omega⟩
  show Ap a b (Aq a b N) (i:Int)=_
  unfold Ap
  rw [B9 (by simp;omega),List.drop_eq_nil_of_le (by omega),List.drop_eq_nil_of_le (by omega)]
  rfl
 | succ n ih =>
  intro N i hi hN
  obtain ⟨N,rfl⟩:∃N',N=N'+1:=⟨N-1,by omega⟩
  show Ap a b (Aq a b N) (i:Int)=_
  unfold Ap
  rw [Bs (by simp;omega),Y7 (by omega),Y7 (by omega),E8 (i:=i) (l:=a) (by omega) default,E8 (i:=i) (l:=b) (by omega) default]
  show (bif (!(((gx a i).Lo==(gx b i).Lo)&&(((gx a i).Hi==(gx b i).Hi)&&true))) then _ else _)=some (decide (gx a i::a.drop (i+1)=gx b i::b.drop (i+1)))
  by_cases he:gx a i=gx b i
  ·rw [he,B9 (by simp),ckb (by omega),F9,ih N (i+1) (by omega) (by omega)]
   congr 1
   simp
  ·rw [Bs]
   ·congr 1
    simp [he]
   ·apply Classical.byContradiction
    intro hn
    apply he
    simp only [Bool.not_eq_true,Bool.not_eq_false',Bool.and_eq_true,beq_iff_eq,and_true] at hn
    obtain ⟨h1,h2⟩:=hn
    cases hx:gx a i;cases hy:gx b i
    rw [hx,hy] at h1 h2
    simp only at h1 h2
    rw [h1,h2]
theorem Ho {F:Nat} (hF:FF≤F) (a b:List api_Span) (ha:a.length≤1000000000):Bc F a b=some (decide (a=b)):=by
 unfold FF at hF
 unfold Bc
 by_cases hl:a.length=b.length
 ·rw [B9 (by simp;omega)]
  exact H7 a b hl ha a.length F 0 (by omega) (by omega)
 ·rw [Bs (by simp;omega)]
  congr 1
  have:a≠b:=fun e=>hl (by rw [e])
  simp [this]
section
variable {S:Rays} {br jp:Int} {n m:Nat} {F:Nat}
theorem B14 {β:Type} {G:Rays} {a:Nat} {x:Da} (ha:a<G.length) (k:Rays→Option β):(D1 G (a:Int) x).bind k=k (G.set a x):=by
 unfold D1
 rw [if_pos (by omega),sb,Int.toNat_natCast]
structure Inv (S:Rays) (R:Lnk) (n m:Nat) (G:Rays):Prop where
 shape:Shape G n m
 good:AllG G
 below:Below (gf G) (gf S)
 most:∀h,Stable R h→Below h (gf S)→Below h (gf G)
theorem Inv.step {R:Lnk} {G:Rays} (h:Inv S R n m G) {p q:Pl} {d:Int} (hd:0≤d) (hq:q.1<n∧q.2<m) (hl:both R p q d):Inv S R n m (sf G q (nr (gf G q) (gf G p) d))∧(nr (gf G q) (gf G p) d≠gf G q→Vol (sf G q (nr (gf G q) (gf G p) d))<Vol G):=by
 have hg:=h.good.good
 have hgood:Good (nr (gf G q) (gf G p) d):=(hg q).nr (hg p) hd
 refine ⟨⟨h.shape.sf hq.1,h.good.sf hgood,?_,fun k hk hb=>?_⟩,fun hne=>?_⟩
 ·rw [A4f h.shape hq];exact (Yh hg hd).trans h.below
 ·rw [A4f h.shape hq];exact A4v hg hd hk (h.most k hk hb) hl
 ·have h1:=A8b (x:=nr (gf G q) (gf G p) d) h.shape hq
  have h2:=A9z (a:=nr (gf G q) (gf G p) d) (b:=gf G q) (fun z hz=>((Fy (hg p).1.2 hd z).1 hz).1) hgood.1 (hg q) hne
  omega
def FS:Nat:=4000000000000
end
end Go.Proofs.Ytbhjgebjojdohaa
namespace Go.Proofs.Ytbhjgebjojdohaa
open Go Go.RowKit Go.Eng
set_option maxRecDepth 10000
set_option linter.unusedVariables false
set_option linter.unusedSimpArgs false
section
variable {κ ν:Type} [DecidableEq κ]
theorem A18 (B:List (κ×ν)) (x y:κ) (v:ν):lkM (upM B x v) y=if y=x then some v else lkM B y:=by
 induction B with
 | nil=>unfold upM lkM;split<;>rfl
 | cons p B ih =>
  unfold upM
  by_cases hx:x=p.1
  ·rw [if_pos hx]
   unfold lkM
   by_cases hy:y=x
   ·simp [hy]
   ·simp only [if_neg hy]
    rw [if_neg (by rw [←hx];exact hy)]
  ·rw [if_neg hx]
   unfold lkM
   by_cases hy:y=p.1
   ·rw [if_pos hy,if_pos hy,if_neg (fun e=>hx (by rw [←e,hy]))]
   ·rw [if_neg hy,if_neg hy,ih]
def keysNd (B:List (κ×ν)):Prop:=(B.map (·.1)).Nodup
theorem A7h (B:List (κ×ν)) (x:κ) (v:ν):∀k,k∈(upM B x v).map (·.1)↔k∈B.map (·.1)∨k=x:=by
 intro k
 induction B with
 | nil=>simp [upM]
 | cons p B ih =>
  unfold upM
  by_cases hx:x=p.1
  ·rw [if_pos hx]
   simp only [List.map_cons,List.mem_cons,hx]
   constructor
   ·rintro (h|h)
    ·exact .inr h
    ·exact .inl (.inr h)
   ·rintro ((h|h)|h)
    ·exact .inl h
    ·exact .inr h
    ·exact .inl h
  ·rw [if_neg hx]
   simp only [List.map_cons,List.mem_cons,ih]
   constructor
   ·rintro (h|h|h)
    ·exact .inl (.inl h)
    ·exact .inl (.inr h)
    ·exact .inr h
   ·rintro ((h|h)|h)
    ·exact .inl h
    ·exact .inr (.inl h)
    ·exact .inr (.inr h)
theorem B0t {B:List (κ×ν)} (h:keysNd B) (x:κ) (v:ν):keysNd (upM B x v):=by
 induction B with
 | nil=>simp [keysNd,upM]
 | cons p B ih =>
  unfold keysNd at h ⊢
  rw [List.map_cons,List.nodup_cons] at h
  unfold upM
  by_cases hx:x=p.1
  ·rw [if_pos hx,List.map_cons,List.nodup_cons]
   exact ⟨by rw [hx];exact h.1,h.2⟩
  ·rw [if_neg hx,List.map_cons,List.nodup_cons,A7h]
   exact ⟨fun hh=>hh.elim h.1 (fun e=>hx e.symm),ih h.2⟩
theorem A6o {B:List (κ×ν)} {y:κ} (h:y∉B.map (·.1)):lkM B y=none:=by
 induction B with
 | nil=>rfl
 | cons p B ih =>
  simp only [List.map_cons,List.mem_cons,not_or] at h
  unfold lkM
  rw [if_neg h.1,ih h.2]
theorem A6d (B:List (κ×ν)) (x k:κ) (h:k∈(Lr B x).map (·.1)):k∈B.map (·.1):=by
 induction B with
 | nil=>exact h
 | cons p B ih =>
  unfold Lr at h
  by_cases hx:x=p.1
  ·rw [if_pos hx] at h;simp [h]
  ·rw [if_neg hx,List.map_cons,List.mem_cons] at h
   rw [List.map_cons,List.mem_cons]
   exact h.imp id ih
theorem A8i {B:List (κ×ν)} (h:keysNd B) (x:κ):keysNd (Lr B x):=by
 induction B with
 | nil=>exact h
 | cons p B ih =>
  unfold keysNd at h ⊢
  rw [List.map_cons,List.nodup_cons] at h
  unfold Lr
  by_cases hx:x=p.1
  ·rw [if_pos hx];exact h.2
  ·rw [if_neg hx,List.map_cons,List.nodup_cons]
   exact ⟨fun hh=>h.1 (A6d B x _ hh),ih h.2⟩
theorem A8y {B:List (κ×ν)} (h:keysNd B) (x y:κ):lkM (Lr B x) y=if y=x then none else lkM B y:=by
 induction B with
 | nil=>unfold Lr lkM;split<;>rfl
 | cons p B ih =>
  have h':=h
  unfold keysNd at h
  rw [List.map_cons,List.nodup_cons] at h
  unfold Lr
  by_cases hx:x=p.1
  ·rw [if_pos hx]
   by_cases hy:y=x
   ·rw [if_pos hy];exact A6o (by rw [hy,hx];exact h.1)
   ·rw [if_neg hy]
    conv=>rhs;unfold lkM
    rw [if_neg (by rw [←hx];exact hy)]
  ·rw [if_neg hx]
   conv=>lhs;unfold lkM
   by_cases hy:y=p.1
   ·rw [if_pos hy,if_neg (fun e=>hx (by rw [←e,hy]))]
    unfold lkM
    rw [if_pos hy]
   ·rw [if_neg hy,ih h.2]
    conv=>rhs;unfold lkM
    rw [if_neg hy]
end
abbrev Bonds:=List (fold_place×List fold_bond)
def pl (p:Pl):fold_place:=⟨(p.1:Int),(p.2:Int)⟩
theorem Nz {p q:Pl} (h:pl p=pl q):p=q:=by
 unfold pl at h
 simp only [fold_place.mk.injEq] at h
 exact Prod.ext (by omega) (by omega)
def Bd (B:Bonds) (r:fold_place):List fold_bond:=(lkM B r).getD []
theorem A6n (F:Nat) (W:Rays) (B:Bonds) {p q:fold_place} (hpq:p≠q) (d:Int) (h1:(Bd B p).length≤100000000) (h2:(Bd B q).length≤100000000) :
  ∃B',Dm F ⟨W,B⟩ p q d=some ⟨W,B'⟩∧∀r,Bd B' r=if r=p then Bd B p++[⟨q,d⟩] else if r=q then Bd B q++[⟨p,d⟩] else Bd B r:=by
 unfold Dm
 unfold Bd at h1 h2
 have e:lkM (upM B p ((lkM B p).getD []++[(⟨q,d⟩:fold_bond)])) q=lkM B q:=by rw [A18,if_neg (fun e=>hpq e.symm)]
 show ∃B',((apd 24 ((lkM B p).getD []) [(⟨q,d⟩:fold_bond)]).bind fun l23=>(apd 24 ((lkM (upM B p l23) q).getD []) [(⟨p,d⟩:fold_bond)]).bind fun l67=>some (⟨W,upM (upM B p l23) q l67⟩:fold_web))=some ⟨W,B'⟩∧_
 rw [K0 (by simp;omega),e,K0 (by simp;omega)]
 refine ⟨_,rfl,fun r=>?_⟩
 unfold Bd
 rw [A18,A18]
 by_cases hrq:r=q
 ·rw [if_pos hrq,if_neg (fun e=>hpq (by rw [←e,hrq])),if_pos hrq];rfl
 ·rw [if_neg hrq]
  by_cases hrp:r=p
  ·rw [if_pos hrp,if_pos hrp];rfl
  ·rw [if_neg hrp,if_neg hrp,if_neg hrq]
structure WI (P:Lnk) (B:Bonds) (c:Nat):Prop where
 len:∀r,(Bd B r).length≤c
 iff:∀(p q:Pl) d,(⟨pl q,d⟩:fold_bond)∈Bd B (pl p)↔both P p q d
 form:∀r b,b∈Bd B r→∃p q:Pl,r=pl p∧b.to=pl q
def A66 (P:Lnk) (p q:Pl) (d:Int):Lnk:=fun a b e=>P a b e∨(a=p∧b=q∧e=d)
theorem WI.link {P:Lnk} {B:Bonds} {c:Nat} (h:WI P B c) (hc:c≤100000000) (F:Nat) (W:Rays) {p q:Pl} (hpq:p≠q) (d:Int):∃B',Dm F ⟨W,B⟩ (pl p) (pl q) d=some ⟨W,B'⟩∧WI (A66 P p q d) B' (c+1):=by
 have h1:=h.len (pl p)
 have h2:=h.len (pl q)
 obtain ⟨B',b1,b2⟩:=A6n F W B (fun e=>hpq (Nz e)) d (by omega) (by omega)
 refine ⟨B',b1,fun r=>?_,fun a b e=>?_,fun r b hb=>?_⟩
 ·have h3:=h.len r
  rw [b2]
  split
  ·simp;omega
  ·split
   ·simp;omega
   ·omega
 ·rw [b2]
  have hi:=h.iff a b e
  unfold both A66 at *
  by_cases hap:a=p
  ·subst hap
   rw [if_pos rfl,List.mem_append,List.mem_singleton,hi]
   have hn:¬(a=q):=hpq
   constructor
   ·rintro ((h|h)|h)
    ·exact .inl (.inl h)
    ·exact .inr (.inl h)
    ·simp only [fold_bond.mk.injEq] at h
     exact .inl (.inr ⟨rfl,Nz h.1,h.2⟩)
   ·rintro ((h|⟨_,rfl,rfl⟩)|(h|⟨_,h,_⟩))
    ·exact .inl (.inl h)
    ·exact .inr rfl
    ·exact .inl (.inr h)
    ·exact absurd h hn
  ·rw [if_neg (fun e=>hap (Nz e))]
   by_cases haq:a=q
   ·subst haq
    rw [if_pos rfl,List.mem_append,List.mem_singleton,hi]
    constructor
    ·rintro ((h|h)|h)
     ·exact .inl (.inl h)
     ·exact .inr (.inl h)
     ·simp only [fold_bond.mk.injEq] at h
      exact .inr (.inr ⟨Nz h.1,rfl,h.2⟩)
    ·rintro ((h|⟨h,_⟩)|(h|⟨rfl,_,rfl⟩))
     ·exact .inl (.inl h)
     ·exact absurd h hap
     ·exact .inl (.inr h)
     ·exact .inr rfl
   ·rw [if_neg (fun e=>haq (Nz e)),hi]
    constructor
    ·rintro (h|h)
     ·exact .inl (.inl h)
     ·exact .inr (.inl h)
    ·rintro ((h|⟨h,_⟩)|(h|⟨_,h,_⟩))
     ·exact .inl h
     ·exact absurd h hap
     ·exact .inr h
     ·exact absurd h haq
 ·rw [b2] at hb
  split at hb
  ·rename_i e
   rcases List.mem_append.1 hb with hb|hb
   ·obtain ⟨a,b',e1,e2⟩:=h.form _ _ hb;exact ⟨p,b',e,e2⟩
   ·simp at hb;subst hb;exact ⟨p,q,e,rfl⟩
  ·split at hb
   ·rename_i e
    rcases List.mem_append.1 hb with hb|hb
    ·obtain ⟨a,b',e1,e2⟩:=h.form _ _ hb;exact ⟨q,b',e,e2⟩
    ·simp at hb;subst hb;exact ⟨q,p,e,rfl⟩
   ·exact h.form r b hb
theorem WI.same {P Q:Lnk} {B:Bonds} {c c':Nat} (h:WI P B c) (hc:c≤c') (hPQ:∀p q d,P p q d↔Q p q d):WI Q B c' :=
 ⟨fun r=>Nat.le_trans (h.len r) hc,fun p q d=>by rw [h.iff];unfold both;rw [hPQ,hPQ],h.form⟩
section
variable {S:Rays} {br jp:Int} {n m:Nat} {F:Nat}
theorem A0l (hS:Shape S n m) (hn:n≤1000) (hm:m≤1000) (hj:0≤jp∧jp≤400000) (hb:br≤16) {a i:Nat} (ha:a<n) (hi:i<m) (hk:ne (S.getD a []) i=true) (k5:Rays→Bonds→Int→Option fold_web) (t0:Int) (W:Rays) {P:Lnk} {B:Bonds} {c:Nat} (hW:WI P B c) (hc:c≤10000000) :
  ∀(t N k:Nat),k+t=n→1≤k→t<N→(∀k',1≤k'→k'<k→ne (S.getD ((a+k')%n) []) i=false) →
  ∃B',Eu F S jp br (a:Int) t0 k5 (i:Int) W B N (k:Int)=Fp t0 k5 W B'∧WI (fun p q d=>P p q d∨(p=(a,i)∧LO S br jp p q d)) B' (c+1):=by
 have hnone:∀k:Nat,((k:Int)>br∨k≥n)→(∀k',1≤k'→k'<k→ne (S.getD ((a+k')%n) []) i=false)→∀p q d,¬(p=(a,i)∧LO S br jp p q d):=by
  rintro k hk1 hno p q d ⟨rfl,h1,h2,h3,k2,h4,h5,h6⟩
  obtain ⟨g1,g2,g3,g4,g5⟩:=h4
  rw [hS.1] at g3 g4
  have:k2<k:=by omega
  rw [hno k2 g1 this] at g4
  cases g4
 intro t
 induction t with
 | zero =>
  intro N k hkt h1 hN hno
  obtain ⟨N,rfl⟩:∃N',N=N'+1:=⟨N-1,by omega⟩
  refine ⟨B,?_,hW.same (by omega) fun p q d=>⟨.inl,fun h=>h.elim id fun h=>absurd h (hnone k (.inr (by omega)) hno p q d)⟩⟩
  show Fo F S jp br (a:Int) t0 k5 (i:Int) W B (Eu F S jp br (a:Int) t0 k5 (i:Int) W B N) (k:Int)=_
  unfold Fo
  rw [hS.1,ckb (by omega),B9 (by simp only [decide_eq_false_iff_not];split<;>omega)]
 | succ t ih =>
  intro N k hkt h1 hN hno
  obtain ⟨N,rfl⟩:∃N',N=N'+1:=⟨N-1,by omega⟩
  have s1:Eu F S jp br (a:Int) t0 k5 (i:Int) W B (N+1) (k:Int)=Fo F S jp br (a:Int) t0 k5 (i:Int) W B (Eu F S jp br (a:Int) t0 k5 (i:Int) W B N) (k:Int):=rfl
  rw [s1]
  unfold Fo
  rw [hS.1,ckb (by omega)]
  by_cases hkb:(k:Int)≤br
  ·rw [Bs (by simp only [decide_eq_true_eq];split<;>omega)]
   have hal:a<S.length:=by rw [hS.1];exact ha
   have hb2:(a+k)%n<n:=Nat.mod_lt _ (by omega)
   have hb3:(a+k)%n<S.length:=by rw [hS.1];exact hb2
   have hrow2:=hS.row hb2
   have hjk:0≤jp*(k:Int)∧jp*(k:Int)≤1000000000:=by
    have e1:=Int.mul_nonneg hj.1 (Int.natCast_nonneg k)
    have e2:jp*(k:Int)≤400000*16:=Int.mul_le_mul hj.2 (by omega) (by omega) (by omega)
    omega
   have e3:((a:Int)+(k:Int))=((a+k:Nat):Int):=by omega
   rw [e3,ckb (by omega),A5o (by omega),Ni hb3,H4 (by rw [hrow2];exact hi),A05]
   cases hq:ne (S.getD ((a+k)%n) []) i with
   | true =>
    have hl:LO S br jp (a,i) ((a+k)%n,i) (jp*(k:Int)):=⟨hal,hk,rfl,k,⟨h1,hkb,by rw [hS.1];omega,by rw [hS.1];exact hq,by rw [hS.1];exact hno⟩,by rw [hS.1],rfl⟩
    have hne:=(Ls (br:=br) (jp:=jp) hS (.inr hl)).2.2.2.2
    obtain ⟨B',b1,b2⟩:=hW.link (by omega) F W hne (jp*(k:Int))
    refine ⟨B',?_,b2.same (Nat.le_refl _) fun p q d=>?_⟩
    ·rw [Bs rfl,ckb (by omega)]
     show ((Dm F ⟨W,B⟩ (pl (a,i)) (pl ((a+k)%n,i)) (jp*(k:Int))).bind fun y=>Fp t0 k5 y.sets y.bonds)=_
     rw [b1,sb]
    ·unfold A66
     constructor
     ·rintro (h|⟨rfl,rfl,rfl⟩)
      ·exact .inl h
      ·exact .inr ⟨rfl,hl⟩
     ·rintro (h|⟨rfl,g1,g2,g3,k2,g4,g5,g6⟩)
      ·exact .inl h
      ·have hk2:k2=k:=by
        obtain ⟨f1,f2,f3,f4,f5⟩:=g4
        rw [hS.1] at f3 f4 f5
        rcases Nat.lt_trichotomy k2 k with hlt|hlt|hlt
        ·have:=hno k2 f1 hlt;rw [this] at f4;cases f4
        ·exact hlt
        ·have:=f5 k h1 hlt;rw [this] at hq;cases hq
       subst hk2
       refine .inr ⟨rfl,?_,g6⟩
       rw [hS.1] at g5
       exact Prod.ext g5 g3.symm
   | false =>
    rw [B9 rfl,ckb (by omega),F9]
    exact ih N (k+1) (by omega) (by omega) (by omega) (fun k' q1 q2=>by
     by_cases hkk:k'=k
     ·subst hkk;exact hq
     ·exact hno k' q1 (by omega))
  ·rw [B9 (by simp only [decide_eq_false_iff_not];split<;>omega)]
   exact ⟨B,rfl,hW.same (by omega) fun p q d=>⟨.inl,fun h=>h.elim id fun h=>absurd h (hnone k (.inl (by omega)) hno p q d)⟩⟩
theorem B0f {T:Da} {u:Nat} (h0:0<u) (hu:u<(Kn T).length) {x y:Nat}:(lk T br x y∧y=kn T u)↔(x=kn T (u-1)∧y=kn T u∧((kn T u:Nat):Int)-(kn T (u-1):Nat)≤br):=by
 have hm1:=Jk.1 (Jp hu).1
 have hm0:=Jk.1 (Jp (S:=T) (t:=u-1) (by omega)).1
 have hlt:=Yd (S:=T) (t:=u-1) (u:=u) (by omega) hu
 have hbt:∀x,kn T (u-1)<x→x<kn T u→ne T x=false:=fun x h1 h2=>Wl (S:=T) (t:=u-1) (by omega) h1 (by rw [show u-1+1=u by omega];exact h2)
 constructor
 ·rintro ⟨⟨g1,g2,g3,g4,g5,g6⟩,rfl⟩
  have hx:x=kn T (u-1):=by
   rcases Nat.lt_trichotomy x (kn T (u-1)) with h|h|h
   ·have:=g5 _ h hlt;rw [this] at hm0;exact absurd hm0.2 (by simp)
   ·exact h
   ·have:=hbt x h g1;rw [this] at g3;cases g3
  subst hx
  exact ⟨rfl,rfl,g6⟩
 ·rintro ⟨rfl,rfl,h3⟩
  exact ⟨⟨hlt,hm1.1,hm0.2,hm1.2,hbt,h3⟩,rfl⟩
def QW (S:Rays) (br jp:Int) (a t:Nat):Lnk:=fun p q d=>p.1=a∧((LA S br jp p q d∧∃u,t≤u∧u<(Kn (S.getD a [])).length∧q.2=kn (S.getD a []) u)∨(LO S br jp p q d∧∃u,t≤u∧u<(Kn (S.getD a [])).length∧p.2=kn (S.getD a []) u))
theorem A7l (hF:FF≤F) (hS:Shape S n m) (hn:n≤1000) (hm:m≤1000) (hj:0≤jp∧jp≤400000) (hb:br≤16) {a:Nat} (ha:a<n) (k2:Rays→Bonds→Int→Option fold_web) (W:Rays) :
  ∀(s N t:Nat) (P:Lnk) (B:Bonds) (c:Nat),t+s=(Kn (S.getD a [])).length→s<N→WI P B c→c+2*s≤10000000 →
  ∃B',Dd F S jp br (a:Int) k2 (S.getD a []) (toI (Kn (S.getD a []))) N W B (t:Int)=Et F (a:Int) k2 (S.getD a []) W B'∧WI (fun p q d=>P p q d∨QW S br jp a t p q d) B' (c+2*s):=by
 have hal:a<S.length:=by rw [hS.1];exact ha
 have hrow:=hS.row ha
 have hKn:=Tb (S:=S.getD a [])
 have hkl:(toI (Kn (S.getD a []))).length=(Kn (S.getD a [])).length:=by unfold toI;rw [List.length_map]
 have hF':=hF
 unfold FF at hF'
 intro s
 induction s with
 | zero =>
  intro N t P B c hts hN hW hc
  obtain ⟨N,rfl⟩:∃N',N=N'+1:=⟨N-1,by omega⟩
  refine ⟨B,?_,hW.same (by omega) fun p q d=>⟨.inl,fun h=>h.elim id fun h=>?_⟩⟩
  ·show Fl F S jp br (a:Int) k2 (S.getD a []) (toI (Kn (S.getD a []))) (Dd F S jp br (a:Int) k2 (S.getD a []) (toI (Kn (S.getD a []))) N) W B (t:Int)=_
   unfold Fl
   rw [hkl,B9 (by simp only [decide_eq_false_iff_not];omega)]
  ·obtain ⟨_,⟨_,u,u1,u2,_⟩|⟨_,u,u1,u2,_⟩⟩:=h<;>omega
 | succ s ih =>
  intro N t P B c hts hN hW hc
  obtain ⟨N,rfl⟩:∃N',N=N'+1:=⟨N-1,by omega⟩
  have s1:Dd F S jp br (a:Int) k2 (S.getD a []) (toI (Kn (S.getD a []))) (N+1) W B (t:Int)=Fl F S jp br (a:Int) k2 (S.getD a []) (toI (Kn (S.getD a []))) (Dd F S jp br (a:Int) k2 (S.getD a []) (toI (Kn (S.getD a []))) N) W B (t:Int):=rfl
  rw [s1]
  have htl:t<(Kn (S.getD a [])).length:=by omega
  have hkt:=Jk.1 (Jp htl).1
  rw [hrow] at hkt
  have fin:∀(P1:Lnk) (B1:Bonds),WI P1 B1 (c+1)→(∀p q d,P1 p q d↔P p q d∨(p.1=a∧LA S br jp p q d∧q.2=kn (S.getD a []) t)) →
    ∃B',Gl F S jp br (a:Int) (t:Int) (Dd F S jp br (a:Int) k2 (S.getD a []) (toI (Kn (S.getD a []))) N) ((kn (S.getD a []) t:Nat):Int) W B1=Et F (a:Int) k2 (S.getD a []) W B'∧WI (fun p q d=>P p q d∨QW S br jp a t p q d) B' (c+2*(s+1)):=by
   intro P1 B1 hW1 hP1
   unfold Gl
   obtain ⟨B2,b1,b2⟩:=A0l (F:=F) hS hn hm hj hb ha hkt.1 hkt.2 (Dd F S jp br (a:Int) k2 (S.getD a []) (toI (Kn (S.getD a []))) N) (t:Int) W hW1 (by omega) (n-1) F 1 (by omega) (by omega) (by omega) (fun k' h1 h2=>by omega)
   rw [show ((1:Nat):Int)=1 from rfl] at b1
   rw [b1]
   unfold Fp
   rw [ckb (by omega),F9]
   obtain ⟨B3,c1,c2⟩:=ih N (t+1) _ B2 (c+1+1) (by omega) (by omega) b2 (by omega)
   refine ⟨B3,c1,c2.same (by omega) fun p q d=>?_⟩
   rw [hP1]
   constructor
   ·rintro (((h|⟨h1,h2,h3⟩)|⟨rfl,h2⟩)|⟨h1,⟨h2,u,u1,u2,u3⟩|⟨h2,u,u1,u2,u3⟩⟩)
    ·exact .inl h
    ·exact .inr ⟨h1,.inl ⟨h2,t,Nat.le_refl _,htl,h3⟩⟩
    ·exact .inr ⟨rfl,.inr ⟨h2,t,Nat.le_refl _,htl,rfl⟩⟩
    ·exact .inr ⟨h1,.inl ⟨h2,u,by omega,u2,u3⟩⟩
    ·exact .inr ⟨h1,.inr ⟨h2,u,by omega,u2,u3⟩⟩
   ·rintro (h|⟨h1,⟨h2,u,u1,u2,u3⟩|⟨h2,u,u1,u2,u3⟩⟩)
    ·exact .inl (.inl (.inl h))
    ·by_cases hut:u=t
     ·subst hut;exact .inl (.inl (.inr ⟨h1,h2,u3⟩))
     ·exact .inr ⟨h1,.inl ⟨h2,u,by omega,u2,u3⟩⟩
    ·by_cases hut:u=t
     ·subst hut;exact .inl (.inr ⟨Prod.ext h1 u3,h2⟩)
     ·exact .inr ⟨h1,.inr ⟨h2,u,by omega,u2,u3⟩⟩
  unfold Fl
  rw [hkl,Bs (by simp only [decide_eq_true_eq];omega),So htl]
  by_cases ht0:t=0
  ·subst ht0
   have eg:((decide (((0:Nat):Int)>0))==true&&true)=false:=by simp
   rw [gdF eg,sb,gdF eg,sb,gdF eg,sb]
   rw [B9 (by simp)]
   refine fin P B (hW.same (by omega) fun _ _ _=>Iff.rfl) fun p q d=>⟨.inl,fun h=>h.elim id ?_⟩
   rintro ⟨rfl,⟨h1,h2,h3,h4⟩,h5⟩
   exfalso
   have:=Wk (S:=S.getD p.1 []) (by omega) (by rw [←h5];exact h3.1)
   have h6:=h3.2.2.1
   rw [this] at h6;cases h6
  ·have eg:((decide ((t:Int)>0))==true&&true)=true:=by simp;omega
   have e1:((t:Int)-1)=((t-1:Nat):Int):=by omega
   have hkp:=Jk.1 (Jp (S:=S.getD a []) (t:=t-1) (by omega)).1
   rw [hrow] at hkp
   have hlt:=Yd (S:=S.getD a []) (t:=t-1) (u:=t) (by omega) htl
   rw [gdT eg,ckb (by omega),e1,gdT eg,So (by omega),gdT eg,ckb (by omega)]
   have e2:decide ((t:Int)>0)=true:=by simp;omega
   rw [e2]
   have hlk:=fun {x y:Nat}=>B0f (br:=br) (T:=S.getD a []) (u:=t) (by omega) htl (x:=x) (y:=y)
   by_cases hd:((kn (S.getD a []) t:Nat):Int)-((kn (S.getD a []) (t-1):Nat):Int)≤br
   ·have e3:(bif true then (decide (((kn (S.getD a []) t:Nat):Int)-((kn (S.getD a []) (t-1):Nat):Int)≤br)) else false)=true:=by rw [cond_true];simpa using hd
    rw [e3]
    refine (congrArg (fun z=>∃B',z=Et F (a:Int) k2 (S.getD a []) W B'∧WI (fun p q d=>P p q d∨QW S br jp a t p q d) B' (c+2*(s+1))) (Bs rfl)).mpr ?_
    have hdj:0≤jp*(((kn (S.getD a []) t:Nat):Int)-((kn (S.getD a []) (t-1):Nat):Int))∧jp*(((kn (S.getD a []) t:Nat):Int)-((kn (S.getD a []) (t-1):Nat):Int))≤1000000000:=by
     have q1:=Int.mul_nonneg hj.1 (show (0:Int)≤((kn (S.getD a []) t:Nat):Int)-((kn (S.getD a []) (t-1):Nat):Int) by omega)
     have q2:jp*(((kn (S.getD a []) t:Nat):Int)-((kn (S.getD a []) (t-1):Nat):Int))≤400000*16:=Int.mul_le_mul hj.2 (by omega) (by omega) (by omega)
     omega
    have hne:((a,kn (S.getD a []) (t-1)):Pl)≠(a,kn (S.getD a []) t):=fun e=>by simp only [Prod.mk.injEq] at e;omega
    obtain ⟨B1,b1,b2⟩:=hW.link (by omega) F W hne (jp*(((kn (S.getD a []) t:Nat):Int)-((kn (S.getD a []) (t-1):Nat):Int)))
    rw [ckb (by omega),So (by omega),ckb (by omega),So (by omega),ckb (by omega),ckb (by omega)]
    have b1':Dm F { sets:=W,bonds:=B } { ray:=(a:Int),gate:=((kn (S.getD a []) (t-1):Nat):Int) } { ray:=(a:Int),gate:=((kn (S.getD a []) t:Nat):Int) } (jp*(((kn (S.getD a []) t:Nat):Int)-((kn (S.getD a []) (t-1):Nat):Int)))=some ⟨W,B1⟩:=b1
    rw [b1',sb]
    refine fin _ B1 b2 fun p q d=>?_
    unfold A66
    constructor
    ·rintro (h|⟨rfl,rfl,rfl⟩)
     ·exact .inl h
     ·exact .inr ⟨rfl,⟨rfl,hal,(hlk.2 ⟨rfl,rfl,hd⟩).1,rfl⟩,rfl⟩
    ·rintro (h|⟨h0,⟨h1,h2,h3,h4⟩,h5⟩)
     ·exact .inl h
     ·rw [h0] at h3
      obtain ⟨g1,g2,g3⟩:=hlk.1 ⟨h3,h5⟩
      refine .inr ⟨Prod.ext h0 g1,Prod.ext (h1▸h0) g2,?_⟩
      rw [h4,g1,g2]
   ·have e3:(bif true then (decide (((kn (S.getD a []) t:Nat):Int)-((kn (S.getD a []) (t-1):Nat):Int)≤br)) else false)=false:=by rw [cond_true];simpa using hd
    rw [e3]
    refine (congrArg (fun z=>∃B',z=Et F (a:Int) k2 (S.getD a []) W B'∧WI (fun p q d=>P p q d∨QW S br jp a t p q d) B' (c+2*(s+1))) (B9 rfl)).mpr ?_
    refine fin P B (hW.same (by omega) fun _ _ _=>Iff.rfl) fun p q d=>⟨.inl,fun h=>h.elim id ?_⟩
    rintro ⟨h0,⟨h1,h2,h3,h4⟩,h5⟩
    rw [h0] at h3
    exact absurd (hlk.1 ⟨h3,h5⟩).2.2 hd
theorem A88 (hS:Shape S n m) {a:Nat} (p q:Pl) (d:Int):QW S br jp a 0 p q d↔p.1=a∧LL S br jp p q d:=by
 unfold QW LL
 constructor
 ·rintro ⟨h,⟨h1,_⟩|⟨h1,_⟩⟩
  ·exact ⟨h,.inl h1⟩
  ·exact ⟨h,.inr h1⟩
 ·rintro ⟨rfl,h|h⟩
  ·obtain ⟨h1,h2,h3,h4⟩:=h
   obtain ⟨u,u1,u2⟩:=U5 (S:=S.getD p.1 []) h3.2.1 h3.2.2.2.1
   exact ⟨rfl,.inl ⟨⟨h1,h2,h3,h4⟩,u,Nat.zero_le _,u1,u2.symm⟩⟩
  ·have h2:=h.2.1
   obtain ⟨u,u1,u2⟩:=U5 (S:=S.getD p.1 []) (A19 h2) h2
   exact ⟨rfl,.inr ⟨h,u,Nat.zero_le _,u1,u2.symm⟩⟩
theorem A7k (hF:FF≤F) (hS:Shape S n m) (hn:n≤1000) (hm:m≤1000) (hj:0≤jp∧jp≤400000) (hb:br≤16) :
  ∀(t N a:Nat) (P:Lnk) (B:Bonds) (c:Nat),a+t=n→t<N→WI P B c→c+t*(2*m)≤9000000 →
  ∃B',E0 F S jp br N (S.take a) B (a:Int)=some ⟨S,B'⟩∧WI (fun p q d=>P p q d∨(a≤p.1∧LL S br jp p q d)) B' (c+t*(2*m)):=by
 have hF':=hF
 unfold FF at hF'
 intro t
 induction t with
 | zero =>
  intro N a P B c hat hN hW hc
  obtain ⟨N,rfl⟩:∃N',N=N'+1:=⟨N-1,by omega⟩
  refine ⟨B,?_,hW.same (by omega) fun p q d=>⟨.inl,fun h=>h.elim id fun h=>?_⟩⟩
  ·show Fk F S jp br (E0 F S jp br N) (S.take a) B (a:Int)=_
   unfold Fk
   rw [hS.1,B9 (by simp;omega),List.take_of_length_le (by rw [hS.1];omega)];rfl
  ·have:=Ls hS h.2
   omega
 | succ t ih =>
  intro N a P B c hat hN hW hc
  obtain ⟨N,rfl⟩:∃N',N=N'+1:=⟨N-1,by omega⟩
  have s1:E0 F S jp br (N+1) (S.take a) B (a:Int)=Fk F S jp br (E0 F S jp br N) (S.take a) B (a:Int):=rfl
  rw [s1]
  have hal:a<S.length:=by rw [hS.1];omega
  have hrow:=hS.row (a:=a) (by omega)
  have hKn:=Tb (S:=S.getD a [])
  rw [Nat.add_mul] at hc
  unfold Fk
  rw [hS.1,Bs (by simp;omega),Ni hal,U6 hF (by rw [hrow];omega),sb]
  obtain ⟨B1,b1,b2⟩:=A7l hF hS hn hm hj hb (a:=a) (by omega) (E0 F S jp br N) (S.take a) (Kn (S.getD a [])).length F 0 P B c (by omega) (by omega) hW (by omega)
  rw [show ((0:Nat):Int)=0 from rfl] at b1
  rw [b1]
  unfold Et Bh Ki
  have ht:(S.take a).length=a:=by rw [List.length_take];omega
  rw [K0 (by rw [hrow];simp;omega),sb,List.nil_append,K0 (by rw [ht];simp;omega),ckb (by omega),F9]
  have e:S.take a++[S.getD a []]=S.take (a+1):=by
   rw [List.take_add_one]
   congr 1
   rw [List.getD_eq_getElem?_getD,List.getElem?_eq_getElem hal];rfl
  rw [e]
  obtain ⟨B2,c1,c2⟩:=ih N (a+1) _ B1 (c+2*m) (by omega) (by omega) (b2.same (by omega) fun _ _ _=>Iff.rfl) (by omega)
  refine ⟨B2,c1,c2.same (by rw [Nat.add_mul];omega) fun p q d=>?_⟩
  rw [A88 hS]
  constructor
  ·rintro ((h|⟨h1,h2⟩)|⟨h1,h2⟩)
   ·exact .inl h
   ·exact .inr ⟨by omega,h2⟩
   ·exact .inr ⟨by omega,h2⟩
  ·rintro (h|⟨h1,h2⟩)
   ·exact .inl (.inl h)
   ·by_cases hpa:p.1=a
    ·exact .inl (.inr ⟨hpa,h2⟩)
    ·exact .inr ⟨by omega,h2⟩
theorem A62 (hF:FF≤F) (hS:Shape S n m) (hn:n≤1000) (hm:m≤1000) (hj:0≤jp∧jp≤400000) (hb:br≤16) :
  ∃B,Mv F S jp br=some ⟨S,B⟩∧WI (LL S br jp) B 9000000:=by
 have hF':=hF
 unfold FF at hF'
 have hnm:n*(2*m)≤1000*(2*1000):=Nat.mul_le_mul hn (by omega)
 obtain ⟨B,b1,b2⟩:=A7k hF hS hn hm hj hb n F 0 (fun _ _ _=>False) [] 0 (by omega) (by omega) ⟨fun r=>by simp [Bd,lkM],fun p q d=>by simp [Bd,lkM,both],fun r b hb=>by simp [Bd,lkM] at hb⟩ (by omega)
 refine ⟨B,b1,b2.same (by omega) fun p q d=>⟨fun h=>h.elim False.elim fun h=>h.2,fun h=>.inr ⟨Nat.zero_le _,h⟩⟩⟩
end
end Go.Proofs.Ytbhjgebjojdohaa
namespace Go.Proofs.Ytbhjgebjojdohaa
open Go Go.RowKit Go.Eng
set_option maxRecDepth 10000
set_option linter.unusedVariables false
set_option linter.unusedSimpArgs false
theorem nb {α β:Type} {f:α→Option β}:(none:Option α).bind f=none:=rfl
abbrev Waits:=List (fold_place×Bool)
structure TI (B:Waits) (todo:List fold_place):Prop where
 nd:keysNd B
 inl:∀r,(lkM B r).getD false=true→r∈todo
theorem A1p (F:Nat) (r:fold_place) {B:Waits} {todo:List fold_place} (h:TI B todo) (hl:todo.length≤8000000000000):∃B' todo',Dc F r B todo=some (B',todo')∧TI B' todo'∧r∈todo'∧(∀x,x∈todo→x∈todo')∧(∀x,x∈todo'→x∈todo∨x=r)∧todo'.length≤todo.length+1:=by
 unfold Dc
 cases hb:(lkM B r).getD false with
 | true =>
  refine ⟨B,todo,B9 rfl,h,h.inl r hb,fun _ h=>h,fun _ h=>.inl h,by omega⟩
 | false =>
  refine ⟨upM B r true,todo++[r],?_,⟨B0t h.nd r true,fun x hx=>?_⟩,by simp,fun x hx=>by simp [hx],fun x hx=>by simpa using hx,by simp⟩
  ·refine (Bs rfl).trans ?_
   rw [K0 (by simp;omega)]
  ·rw [A18] at hx
   split at hx
   ·rename_i e;simp [e]
   ·simp [h.inl x hx]
section
variable {S:Rays} {br jp:Int} {n m:Nat} {F:Nat}
theorem Xq (hF:FF≤F) {a:Nat} {T:Da} (hT:T.length≤1000) (k6:List fold_place→Waits→Int→Option Rays) (x:Int):∀(s N t:Nat) (B:Waits) (todo:List fold_place),t+s=(Kn T).length→s<N→TI B todo→todo.length+s≤2000000 →
  ∃B' todo',Dh F (a:Int) k6 (toI (Kn T)) N todo B (t:Int)=H3 (a:Int) k6 todo' B'∧TI B' todo'∧(∀x,x∈todo→x∈todo')∧(∀u,t≤u→u<(Kn T).length→pl (a,kn T u)∈todo')∧(∀x,x∈todo'→x∈todo∨∃u,u<(Kn T).length∧x=pl (a,kn T u))∧todo'.length≤todo.length+s:=by
 have hkl:(toI (Kn T)).length=(Kn T).length:=by unfold toI;rw [List.length_map]
 have hKn:=Tb (S:=T)
 intro s
 induction s with
 | zero =>
  intro N t B todo hts hN hI hl
  obtain ⟨N,rfl⟩:∃N',N=N'+1:=⟨N-1,by omega⟩
  refine ⟨B,todo,?_,hI,fun _ h=>h,fun u h1 h2=>by omega,fun _ h=>.inl h,by omega⟩
  show F3 F (a:Int) k6 (toI (Kn T)) (Dh F (a:Int) k6 (toI (Kn T)) N) todo B (t:Int)=_
  unfold F3
  rw [hkl,B9 (by simp;omega)]
 | succ s ih =>
  intro N t B todo hts hN hI hl
  obtain ⟨N,rfl⟩:∃N',N=N'+1:=⟨N-1,by omega⟩
  have s1:Dh F (a:Int) k6 (toI (Kn T)) (N+1) todo B (t:Int)=F3 F (a:Int) k6 (toI (Kn T)) (Dh F (a:Int) k6 (toI (Kn T)) N) todo B (t:Int):=rfl
  rw [s1]
  obtain ⟨B1,t1,w1,w2,w3,w4,w5,w6⟩:=A1p F (pl (a,kn T t)) hI (by omega)
  obtain ⟨B2,t2,g1,g2,g3,g4,g5,g6⟩:=ih N (t+1) B1 t1 (by omega) (by omega) w2 (by omega)
  refine ⟨B2,t2,?_,g2,fun x hx=>g3 x (w4 x hx),fun u h1 h2=>?_,fun x hx=>?_,by omega⟩
  ·rw [←g1]
   unfold F3
   rw [hkl,Bs (by simp;omega),So (by omega)]
   show ((Dc F (pl (a,kn T t)) B todo).bind fun y=>(ck ((t:Int)+1)).bind fun z=>Dh F (a:Int) k6 (toI (Kn T)) N y.2 y.1 z)=_
   rw [w1,sb,ckb (by omega),F9]
  ·by_cases hut:u=t
   ·subst hut;exact g3 _ w3
   ·exact g4 u (by omega) h2
  ·rcases g5 x hx with h|h
   ·rcases w5 x h with h|h
    ·exact .inl h
    ·exact .inr ⟨t,by omega,h⟩
   ·exact .inr h
theorem A1y (hF:FF≤F) (hS:Shape S n m) (hn:n≤1000) (hm:m≤1000) (y5:fold_web):∀(t N a:Nat) (B:Waits) (todo:List fold_place),a+t=n→t<N→TI B todo→todo.length+t*m≤2000000→(∀x,x∈todo→∃p:Pl,x=pl p∧p.1<n∧p.2<m) →
  (∀p:Pl,p.1<a→ne (S.getD p.1 []) p.2=true→pl p∈todo) →
  ∃B' todo',Dg F S y5 N todo B (a:Int)=H1 F y5 todo' B'∧TI B' todo'∧(∀x,x∈todo'→∃p:Pl,x=pl p∧p.1<n∧p.2<m)∧(∀p:Pl,p.1<n→ne (S.getD p.1 []) p.2=true→pl p∈todo')∧todo'.length≤todo.length+t*m:=by
 have hF':=hF
 unfold FF at hF'
 intro t
 induction t with
 | zero =>
  intro N a B todo hat hN hI hl hin hall
  obtain ⟨N,rfl⟩:∃N',N=N'+1:=⟨N-1,by omega⟩
  refine ⟨B,todo,?_,hI,hin,fun p h1 h2=>hall p (by omega) h2,by omega⟩
  show F2 F S y5 (Dg F S y5 N) todo B (a:Int)=_
  unfold F2
  rw [hS.1,B9 (by simp;omega)]
 | succ t ih =>
  intro N a B todo hat hN hI hl hin hall
  obtain ⟨N,rfl⟩:∃N',N=N'+1:=⟨N-1,by omega⟩
  have s1:Dg F S y5 (N+1) todo B (a:Int)=F2 F S y5 (Dg F S y5 N) todo B (a:Int):=rfl
  rw [s1]
  have hal:a<S.length:=by rw [hS.1];omega
  have hrow:=hS.row (a:=a) (by omega)
  have hKn:=Tb (S:=S.getD a [])
  rw [hrow] at hKn
  rw [Nat.add_mul] at hl
  obtain ⟨B1,t1,w1,w2,w3,w4,w5,w6⟩:=Xq hF (a:=a) (T:=S.getD a []) (by rw [hrow];exact hm) (Dg F S y5 N) 0 (Kn (S.getD a [])).length F 0 B todo (by omega) (by omega) hI (by omega)
  obtain ⟨B2,t2,g1,g2,g3,g4,g5⟩:=ih N (a+1) B1 t1 (by omega) (by omega) w2 (by omega) (fun x hx=>by
   rcases w5 x hx with h|⟨u,h1,h2⟩
   ·exact hin x h
   ·have:=(Jk.1 (Jp h1).1).1
    rw [hrow] at this
    exact ⟨(a,kn (S.getD a []) u),h2,by show a<n;omega,this⟩) (fun p hp hne=>by
   by_cases hpa:p.1=a
   ·rw [hpa] at hne
    obtain ⟨u,h1,h2⟩:=U5 (A19 hne) hne
    have:=w4 u (Nat.zero_le _) h1
    rw [h2,←hpa] at this
    exact this
   ·exact w3 _ (hall p (by omega) hne))
  refine ⟨B2,t2,?_,g2,g3,g4,by rw [Nat.add_mul];omega⟩
  rw [←g1]
  unfold F2
  rw [hS.1,Bs (by simp;omega),Ni hal,U6 hF (by rw [hrow];omega),sb]
  rw [show ((0:Nat):Int)=0 from rfl] at w1
  rw [w1]
  unfold H3
  rw [ckb (by omega),F9]
structure MI (S:Rays) (R:Lnk) (n m:Nat) (W:Rays) (todo:List fold_place) (B:Waits):Prop where
 inv:Inv S R n m W
 ti:TI B todo
 inr:∀x,x∈todo→∃p:Pl,x=pl p∧p.1<n∧p.2<m
theorem A0i (hF:FF≤F) {R:Lnk} (hR:∀p q d,both R p q d→0≤d∧d≤1000000000∧p.1<n∧p.2<m∧q.1<n∧q.2<m) {B0:Bonds} {c0:Nat} (hW0:WI R B0 c0) (hc0:c0≤9000000) (S0:Rays) (p:Pl) (hp:p.1<n∧p.2<m) (k3:List fold_place→Rays→Waits→Option Rays) :
  ∀(t N k:Nat) (W:Rays) (todo:List fold_place) (B:Waits),k+t=(Bd B0 (pl p)).length→t<N→MI S R n m W todo B→todo.length+t≤5000000000000 →
  (∀r q d,both R r q d→pl r∈todo∨Supp (gf W) r q d∨(r=p∧(⟨pl q,d⟩:fold_bond)∈(Bd B0 (pl p)).drop k)) →
  ∃W' todo' B',Bv F ⟨S0,B0⟩ k3 (pl p) N todo W B (k:Int)=k3 todo' W' B'∧MI S R n m W' todo' B'∧(∀r q d,both R r q d→pl r∈todo'∨Supp (gf W') r q d)∧todo'.length+Vol W'≤todo.length+Vol W:=by
 have hlen:=hW0.len (pl p)
 intro t
 induction t with
 | zero =>
  intro N k W todo B hk hN hM hl hs
  obtain ⟨N,rfl⟩:∃N',N=N'+1:=⟨N-1,by omega⟩
  refine ⟨W,todo,B,?_,hM,fun r q d h=>?_,Nat.le_refl _⟩
  ·show E4 F ⟨S0,B0⟩ k3 (pl p) (Bv F ⟨S0,B0⟩ k3 (pl p) N) todo W B (k:Int)=_
   unfold E4
   refine B9 ?_
   show decide ((k:Int)<(((Bd B0 (pl p)).length:Nat):Int))=false
   simp;omega
  ·rcases hs r q d h with h|h|⟨_,h⟩
   ·exact .inl h
   ·exact .inr h
   ·rw [List.drop_eq_nil_of_le (by omega)] at h;cases h
 | succ t ih =>
  intro N k W todo B hk hN hM hl hs
  obtain ⟨N,rfl⟩:∃N',N=N'+1:=⟨N-1,by omega⟩
  have s1:Bv F ⟨S0,B0⟩ k3 (pl p) (N+1) todo W B (k:Int)=E4 F ⟨S0,B0⟩ k3 (pl p) (Bv F ⟨S0,B0⟩ k3 (pl p) N) todo W B (k:Int):=rfl
  rw [s1]
  have hkl:k<(Bd B0 (pl p)).length:=by omega
  have hmem:(Bd B0 (pl p))[k]∈Bd B0 (pl p):=List.getElem_mem hkl
  obtain ⟨p',q,e1,e2⟩:=hW0.form _ _ hmem
  obtain ⟨d,hd⟩:∃d,(Bd B0 (pl p))[k]=⟨pl q,d⟩:=by
   refine ⟨(Bd B0 (pl p))[k].most,?_⟩
   rw [←e2]
  rw [hd] at hmem
  have hpq:both R p q d:=(hW0.iff p q d).1 hmem
  obtain ⟨d1,d2,d3,d4,d5,d6⟩:=hR p q d hpq
  have hdrop:(Bd B0 (pl p)).drop k=⟨pl q,d⟩::(Bd B0 (pl p)).drop (k+1):=by rw [List.drop_eq_getElem_cons hkl,hd]
  have hg:=hM.inv.good.good
  have hnew:Good (nr (gf W q) (gf W p) d):=(hg q).nr (hg p) d1
  have hold:=(hg q).len
  have hget:Ad ((lkM B0 (pl p)).getD []) (k:Int)=some ⟨pl q,d⟩:=by
   show Ad (Bd B0 (pl p)) (k:Int)=_
   unfold Ad
   rw [if_pos (by omega),Int.toNat_natCast,List.getElem?_eq_getElem hkl,hd]
  have hsh:=hM.inv.shape
  have key:E4 F ⟨S0,B0⟩ k3 (pl p) (Bv F ⟨S0,B0⟩ k3 (pl p) N) todo W B (k:Int) =
    if gf W q=nr (gf W q) (gf W p) d then Bv F ⟨S0,B0⟩ k3 (pl p) N todo W B ((k+1:Nat):Int)
    else (Dc F (pl q) B todo).bind fun y=>Bv F ⟨S0,B0⟩ k3 (pl p) N y.2 (sf W q (nr (gf W q) (gf W p) d)) y.1 ((k+1:Nat):Int):=by
   unfold E4
   have e3:decide ((k:Int)<((((lkM B0 (pl p)).getD []).length:Nat):Int))=true:=by
    show decide ((k:Int)<(((Bd B0 (pl p)).length:Nat):Int))=true
    simp;omega
   refine (Bs e3).trans ?_
   show ((Ad ((lkM B0 (pl p)).getD []) (k:Int)).bind _)=_
   rw [hget,sb]
   show ((Ad W (q.1:Int)).bind fun u3280=>(Ad u3280 (q.2:Int)).bind fun u3288=>(Ad W (p.1:Int)).bind fun u3295=>(Ad u3295 (p.2:Int)).bind fun u3303=>(D4 F u3288 u3303 d).bind fun y3311=>(Bc F u3288 y3311).bind fun y3314 =>
    bif (!y3314) then ((Ad W (q.1:Int)).bind fun u3315=>(Ad u3315 (q.2:Int)).bind fun u3323=>(D1 u3315 (q.2:Int) y3311).bind fun l3334=>(D1 W (q.1:Int) l3334).bind fun l3335=>(Dc F (pl q) B todo).bind fun y3338=>E5 (k:Int) (Bv F ⟨S0,B0⟩ k3 (pl p) N) y3338.2 l3335 y3338.1) else (E5 (k:Int) (Bv F ⟨S0,B0⟩ k3 (pl p) N) todo W B))=_
   have r1:=hsh.row d5
   have r2:=hsh.row d3
   rw [Ni (by rw [hsh.1];exact d5),H4 (by rw [r1];exact d6),Ni (by rw [hsh.1];exact d3),H4 (by rw [r2];exact d4)]
   have hne:=A1a hF (hg q) (hg p) ⟨d1,d2⟩
   have hne':D4 F (gt (W.getD q.1 []) q.2) (gt (W.getD p.1 []) p.2) d=some (nr (gf W q) (gf W p) d):=hne
   rw [hne',sb,Ho hF _ _ (by show (gf W q).length≤_;omega),sb]
   by_cases he:gf W q=nr (gf W q) (gf W p) d
   ·have e4:decide (gt (W.getD q.1 []) q.2=nr (gf W q) (gf W p) d)=true:=decide_eq_true he
    rw [e4,if_pos he]
    refine (B9 rfl).trans ?_
    unfold E5
    rw [ckb (by omega),F9]
   ·have e4:decide (gt (W.getD q.1 []) q.2=nr (gf W q) (gf W p) d)=false:=decide_eq_false he
    rw [e4,if_neg he]
    unfold sf
    refine (Bs rfl).trans ?_
    rw [Ni (by rw [hsh.1];exact d5),H4 (by rw [r1];exact d6),A3a (by rw [r1];exact d6),B14 (by rw [hsh.1];exact d5)]
    generalize Dc F (pl q) B todo=o
    cases o with
    | none=>rw [nb,nb]
    | some y =>
     rw [sb,sb]
     unfold E5
     rw [ckb (by omega),F9]
  rw [key]
  by_cases he:gf W q=nr (gf W q) (gf W p) d
  ·rw [if_pos he]
   refine ih N (k+1) W todo B (by omega) (by omega) hM (by omega) fun r q' d' h=>?_
   rcases hs r q' d' h with h|h|⟨h1,h2⟩
   ·exact .inl h
   ·exact .inr (.inl h)
   ·rw [hdrop] at h2
    rcases List.mem_cons.1 h2 with h7|h7
    ·clear h2
     simp only [fold_bond.mk.injEq] at h7
     have hq':=Nz h7.1
     have hd':=h7.2
     clear h7
     subst hq' hd' h1
     exact .inr (.inl ((A1c hg d1).1 he.symm))
    ·exact .inr (.inr ⟨h1,h7⟩)
  ·rw [if_neg he]
   obtain ⟨B1,t1,w1,w2,w3,w4,w5,w6⟩:=A1p F (pl q) hM.ti (by omega)
   rw [w1,sb]
   obtain ⟨i1,i2⟩:=hM.inv.step (p:=p) (q:=q) d1 ⟨d5,d6⟩ hpq
   have hv:=i2 (fun e=>he e.symm)
   have hgf:=A4f (x:=nr (gf W q) (gf W p) d) hsh ⟨d5,d6⟩
   obtain ⟨W',t',B',g1,g2,g3,g4⟩:=ih N (k+1) _ t1 B1 (by omega) (by omega) ⟨i1,w2,fun x hx=>by
    rcases w5 x hx with h|h
    ·exact hM.inr x h
    ·exact ⟨q,h,d5,d6⟩⟩ (by omega) (fun r q' d' h=>by
    by_cases hrq:r=q
    ·subst hrq;exact .inl w3
    ·have hsub:∀x:Pl,∀z,mem z (gf (sf W q (nr (gf W q) (gf W p) d)) x)→mem z (gf W x):=by rw [hgf];exact Yh hg d1
     have hsame:gf (sf W q (nr (gf W q) (gf W p) d)) r=gf W r:=by rw [hgf];unfold Za;rw [if_neg hrq]
     rcases hs r q' d' h with h|h|⟨h1,h2⟩
     ·exact .inl (w4 _ h)
     ·refine .inr (.inl fun z hz=>?_)
      rw [hsame]
      exact h z (hsub q' z hz)
     ·rw [hdrop] at h2
      rcases List.mem_cons.1 h2 with h7|h7
      ·clear h2
       simp only [fold_bond.mk.injEq] at h7
       have hq':=Nz h7.1
       have hd':=h7.2
       clear h7
       subst hq' hd' h1
       refine .inr (.inl fun z hz=>?_)
       rw [hsame]
       rw [hgf] at hz
       unfold Za at hz
       rw [if_pos rfl] at hz
       exact ((Fy (hg r).1.2 d1 z).1 hz).2
      ·exact .inr (.inr ⟨h1,h7⟩))
   exact ⟨W',t',B',g1,g2,g3,by omega⟩
theorem Z0 (hF:FF≤F) {R:Lnk} (hR:∀p q d,both R p q d→0≤d∧d≤1000000000∧p.1<n∧p.2<m∧q.1<n∧q.2<m) {B0:Bonds} {c0:Nat} (hW0:WI R B0 c0) (hc0:c0≤9000000) (S0:Rays) :
  ∀(v:Nat) (N:Nat) (W:Rays) (todo:List fold_place) (B:Waits),todo.length+Vol W≤v→v<N→v≤4000000000000→MI S R n m W todo B→(∀r q d,both R r q d→pl r∈todo∨Supp (gf W) r q d) →
  ∃G,Df F ⟨S0,B0⟩ N todo W B=some G∧Inv S R n m G∧Stable R (gf G):=by
 have hF':=hF
 unfold FF at hF'
 intro v
 induction v with
 | zero =>
  intro N W todo B hv hN hV hM hs
  obtain ⟨N,rfl⟩:∃N',N=N'+1:=⟨N-1,by omega⟩
  have ht:todo=[]:=List.eq_nil_of_length_eq_zero (by omega)
  subst ht
  refine ⟨W,?_,hM.inv,fun r q d h=>(hs r q d h).elim (fun h=>by cases h) id⟩
  show E3 F ⟨S0,B0⟩ (Df F ⟨S0,B0⟩ N) [] W B=_
  unfold E3
  rw [B9 (by simp)];rfl
 | succ v ih =>
  intro N W todo B hv hN hV hM hs
  obtain ⟨N,rfl⟩:∃N',N=N'+1:=⟨N-1,by omega⟩
  have s1:Df F ⟨S0,B0⟩ (N+1) todo W B=E3 F ⟨S0,B0⟩ (Df F ⟨S0,B0⟩ N) todo W B:=rfl
  rw [s1]
  cases todo with
  | nil =>
   refine ⟨W,?_,hM.inv,fun r q d h=>(hs r q d h).elim (fun h=>by cases h) id⟩
   unfold E3
   rw [B9 (by simp)];rfl
  | cons x rest =>
   obtain ⟨p,rfl,hp1,hp2⟩:=hM.inr x (by simp)
   have hlen:=hW0.len (pl p)
   simp only [List.length_cons] at hv
   have hcut:Ly (pl p::rest) 1 (((pl p::rest).length:Nat):Int)=some rest:=by
    unfold Ly
    rw [if_pos ⟨by omega,by simp only [List.length_cons];omega,Int.le_refl _⟩]
    congr 1
    show (rest.drop 0).take ((((pl p::rest).length:Nat):Int).toNat-1)=rest
    rw [List.drop_zero,Int.toNat_natCast,List.length_cons]
    exact List.take_of_length_le (by omega)
   have hget:Ad (pl p::rest) 0=some (pl p):=rfl
   unfold E3
   rw [Bs (by simp),hget,sb,hcut,sb]
   have hti:TI (Lr B (pl p)) rest:=⟨A8i hM.ti.nd _,fun r hr=>by
    rw [A8y hM.ti.nd] at hr
    split at hr
    ·simp at hr
    ·rename_i hne
     rcases List.mem_cons.1 (hM.ti.inl r hr) with h|h
     ·exact absurd h hne
     ·exact h⟩
   obtain ⟨W',t',B',g1,g2,g3,g4⟩:=A0i (S:=S) hF hR hW0 hc0 S0 p ⟨hp1,hp2⟩ (Df F ⟨S0,B0⟩ N) (Bd B0 (pl p)).length F 0 W rest (Lr B (pl p)) (by omega) (by omega) ⟨hM.inv,hti,fun x hx=>hM.inr x (by simp [hx])⟩ (by omega) (fun r q d h=>by
    rcases hs r q d h with h1|h1
    ·rcases List.mem_cons.1 h1 with h1|h1
     ·have:=Nz h1
      subst this
      exact .inr (.inr ⟨rfl,by rw [List.drop_zero];exact (hW0.iff r q d).2 h⟩)
     ·exact .inl h1
    ·exact .inr (.inl h1))
   rw [show ((0:Nat):Int)=0 from rfl] at g1
   rw [g1]
   exact ih N W' t' B' (by omega) (by omega) (by omega) g2 g3
theorem A3c (hF:FS≤F) (hS:Shape S n m) (hG:AllG S) (hn:n≤1000) (hm:m≤1000) (hj:0≤jp∧jp≤400000) (hb:br≤16) :
  ∃G,Kp F S jp br=some G∧Inv S (LL S br jp) n m G∧Stable (LL S br jp) (gf G):=by
 have hF2:FF≤F:=by unfold FS at hF;unfold FF;omega
 obtain ⟨B0,b1,b2⟩:=A62 hF2 hS hn hm hj hb
 unfold Kp
 rw [b1,sb]
 have hF':=hF2
 unfold FF at hF'
 have hnm:n*m≤1000*1000:=Nat.mul_le_mul hn hm
 obtain ⟨B1,t1,w1,w2,w3,w4,w5⟩:=A1y hF2 hS hn hm ⟨S,B0⟩ n F 0 [] [] (by omega) (by omega) ⟨.nil,fun r hr=>by simp [lkM] at hr⟩ (by simp;omega) (fun x hx=>by cases hx) (fun p hp=>by omega)
 rw [show ((0:Nat):Int)=0 from rfl] at w1
 rw [w1]
 unfold H1
 have hR:∀p q d,both (LL S br jp) p q d→0≤d∧d≤1000000000∧p.1<n∧p.2<m∧q.1<n∧q.2<m:=by
  rintro p q d (h|h)
  ·have h1:=Ls hS h
   have h2:=A1t hS hj hb h
   exact ⟨h2.1,h2.2,h1.1,h1.2.1,h1.2.2.1,h1.2.2.2.1⟩
  ·have h1:=Ls hS h
   have h2:=A1t hS hj hb h
   exact ⟨h2.1,h2.2,h1.2.2.1,h1.2.2.2.1,h1.1,h1.2.1⟩
 have hv:=A8a hS
 have hh:n*(m*HN)≤1000*(1000*HN):=Nat.mul_le_mul hn (Nat.mul_le_mul hm (Nat.le_refl _))
 have hHN:=A7o
 unfold FS at hF
 simp only [List.length_nil] at w5
 refine Z0 hF2 hR b2 (by omega) S (t1.length+Vol S) F S t1 B1 (Nat.le_refl _) (by omega) (by omega) ⟨⟨hS,hG,Below.refl _,fun h _ hb=>hb⟩,w2,w3⟩ fun r q d h=>.inl ?_
 have hne:∀p q d,LL S br jp p q d→ne (S.getD p.1 []) p.2=true∧ne (S.getD q.1 []) q.2=true:=by
  rintro p q d (⟨h1,h2,h3,h4⟩|⟨h1,h2,h3,k,h4,h5,h6⟩)
  ·exact ⟨h3.2.2.1,by rw [←h1];exact h3.2.2.2.1⟩
  ·exact ⟨h2,by rw [h5,←h3];exact h4.2.2.2.1⟩
 rcases h with h|h
 ·exact w4 r (Ls hS h).1 (hne _ _ _ h).1
 ·exact w4 r (Ls hS h).2.2.1 (hne _ _ _ h).2
end
end Go.Proofs.Ytbhjgebjojdohaa
namespace Go.Proofs.Ytbhjgebjojdohaa
open Go Go.RowKit Go.Eng
set_option maxRecDepth 10000
set_option linter.unusedVariables false
set_option linter.unusedSimpArgs false
section
variable {S:Rays} {br jp:Int} {n m:Nat} {F:Nat}
theorem A1x (hF:FF≤F) (hG:AllG S) (hn:S.length≤1000) (hm:∀r∈S,r.length≤1000):∀(t N a:Nat),a+t=S.length→t<N→Gc F S N (S.take a) (a:Int)=some (S,0):=by
 have hF':=hF
 unfold FF at hF'
 intro t
 induction t with
 | zero =>
  intro N a ha hN
  obtain ⟨N,rfl⟩:∃N',N=N'+1:=⟨N-1,by omega⟩
  show G9 F S (Gc F S N) (S.take a) (a:Int)=_
  unfold G9
  rw [B9 (by simp;omega),List.take_of_length_le (by omega)];rfl
 | succ t ih =>
  intro N a ha hN
  obtain ⟨N,rfl⟩:∃N',N=N'+1:=⟨N-1,by omega⟩
  show G9 F S (Gc F S N) (S.take a) (a:Int)=_
  unfold G9
  have hl:=hm _ (Hu (d:=[]) (show a<S.length by omega))
  have hb:K5 F (S.getD a [])=some (S.getD a []):=by
   unfold K5
   have:=Vr (S:=S.getD a []) hF (by omega) (hG.row a) (S.getD a []).length F 0 (by omega) (by omega)
   exact this
  have ht:(S.take a).length=a:=by rw [List.length_take];omega
  rw [Bs (by simp;omega),Ni (by omega),hb,sb,K0 (by rw [ht];simp;omega),ckb (by omega),F9]
  have e2:S.take a++[S.getD a []]=S.take (a+1):=by
   rw [List.take_add_one]
   congr 1
   rw [List.getD_eq_getElem?_getD,List.getElem?_eq_getElem (by omega)];rfl
  rw [e2]
  exact ih N (a+1) (by omega) (by omega)
end
end Go.Proofs.Ytbhjgebjojdohaa
namespace Go.Proofs.Ytbhjgebjojdohaa
open Go Go.RowKit Go.Eng
set_option maxRecDepth 10000
set_option linter.unusedVariables false
set_option linter.unusedSimpArgs false
abbrev V80:=A7 Bool 80
def vb (v:V80) (k:Nat):Bool:=v.1.getD k false
theorem Xi {v w:V80} (h:∀k<80,vb v k=vb w k):v=w:=by
 apply Subtype.ext
 apply List.ext_getElem (by rw [v.2,w.2])
 intro i h1 h2
 have:=h i (by rw [v.2] at h1;exact h1)
 unfold vb at this
 rw [List.getD_eq_getElem?_getD,List.getD_eq_getElem?_getD,List.getElem?_eq_getElem h1,List.getElem?_eq_getElem h2] at this
 exact this
theorem Y8 {β:Type} {v:V80} {i:Int} (h:0≤i∧i<80) (k:Bool→Option β):(Pq v i).bind k=k (vb v i.toNat):=by
 unfold Pq
 rw [Jh false (by rw [v.2];omega)];rfl
theorem A7w {v:V80} {i:Int} (h:0≤i∧i<80):Pq v i=some (vb v i.toNat):=by
 have:=Y8 (v:=v) h (fun b=>some b)
 simpa using this
theorem A80 (v:V80) {i:Int} (h:0≤i∧i<80) (u:Bool):∃w,Xe v i u=some w∧∀k<80,vb w k=if k=i.toNat then u else vb v k:=by
 unfold Xe
 rw [if_pos (by omega)]
 refine ⟨_,rfl,fun k hk=>?_⟩
 show (v.1.set i.toNat u).getD k false=_
 have hl:=v.2
 unfold vb
 rw [List.getD_eq_getElem?_getD,List.getD_eq_getElem?_getD,List.getElem?_set]
 by_cases e:i.toNat=k
 ·rw [if_pos e,if_pos e.symm,if_pos (by omega)];rfl
 ·rw [if_neg e,if_neg (fun h=>e h.symm)]
def dt (l:List api_Span) (k:Nat):Bool:=l.any fun s=>decide (s.Lo≤(k:Int)-20∧(k:Int)-20≤s.Hi)
theorem Nn {l:List api_Span} {k:Nat}:dt l k=true↔mem (2*((k:Int)-20)) l:=by
 unfold dt mem inS
 rw [List.any_eq_true]
 constructor
 ·rintro ⟨s,hs,h⟩
  have:=of_decide_eq_true h
  exact ⟨s,hs,by omega,by omega⟩
 ·rintro ⟨s,hs,h1,h2⟩
  exact ⟨s,hs,decide_eq_true (by omega)⟩
def Dt (l:List api_Span):V80:=⟨(List.range 80).map (dt l),by simp⟩
theorem R3 {l:List api_Span} {k:Nat} (h:k<80):vb (Dt l) k=dt l k:=by
 unfold vb Dt
 rw [List.getD_eq_getElem?_getD,List.getElem?_map,List.getElem?_range h];rfl
theorem V5 {k:Nat}:vb (default:V80) k=false:=by
 show (List.replicate 80 (default:Bool)).getD k false=false
 rw [List.getD_eq_getElem?_getD,List.getElem?_replicate]
 split<;>rfl
section
variable {F:Nat}
theorem A6e (X:Int) (k2:V80→Int→Option V80) (s:api_Span) (hs:-1000000≤s.Lo∧s.Hi≤1000000):∀(n N:Nat) (v:V80) (x:Int),n<N→-1000000≤x→(s.Hi<x∨60≤x∨(60-x).toNat≤n) →
  ∃w,Ex X k2 s N v x=Hw X k2 w∧∀k<80,vb w k=(vb v k||decide (x≤(k:Int)-20∧(k:Int)-20≤s.Hi)):=by
 intro n
 induction n with
 | zero =>
  intro N v x hN hx h
  obtain ⟨N,rfl⟩:∃N',N=N'+1:=⟨N-1,by omega⟩
  have h':s.Hi<x∨60≤x:=by omega
  refine ⟨v,?_,fun k hk=>?_⟩
  ·show Ft X k2 s (Ex X k2 s N) v x=_
   unfold Ft
   refine B9 ?_
   cases h' with
   | inl h =>
     have e:decide (x≤s.Hi)=false:=by simpa using h
     rw [e];rfl
   | inr h =>
     have e:decide (x<60)=false:=by simpa using h
     rw [e];cases decide (x≤s.Hi)<;>rfl
  ·have e:decide (x≤(k:Int)-20∧(k:Int)-20≤s.Hi)=false:=decide_eq_false (by omega)
   rw [e,Bool.or_false]
 | succ n ih =>
  intro N v x hN hx h
  obtain ⟨N,rfl⟩:∃N',N=N'+1:=⟨N-1,by omega⟩
  have step:Ex X k2 s (N+1) v x=Ft X k2 s (Ex X k2 s N) v x:=rfl
  rw [step]
  unfold Ft
  by_cases h1:x≤s.Hi∧x<60
  ·have hc:(bif decide (x≤s.Hi) then decide (x<60) else false)=true:=by
    rw [decide_eq_true h1.1,decide_eq_true h1.2];rfl
   by_cases h2:-20≤x
   ·obtain ⟨u,hu,hu2⟩:=A80 v (i:=x-(-20)) (by omega) true
    obtain ⟨w,hw,hw2⟩:=ih N u (x+1) (by omega) (by omega) (by omega)
    refine ⟨w,?_,fun k hk=>?_⟩
    ·refine Eq.trans (Bs hc) ?_
     refine Eq.trans (Bs (decide_eq_true h2)) ?_
     rw [ckb (by omega),Y8 (by omega),hu,sb]
     unfold Gm
     rw [ckb (by omega)]
     exact hw
    ·rw [hw2 k hk,hu2 k hk]
     by_cases e:k=(x-(-20)).toNat
     ·rw [if_pos e,decide_eq_true (p:=x≤(k:Int)-20∧(k:Int)-20≤s.Hi) (by omega)];simp
     ·rw [if_neg e]
      congr 1
      rw [decide_eq_decide]
      omega
   ·obtain ⟨w,hw,hw2⟩:=ih N v (x+1) (by omega) (by omega) (by omega)
    refine ⟨w,?_,fun k hk=>?_⟩
    ·refine Eq.trans (Bs hc) ?_
     refine Eq.trans (B9 (decide_eq_false (by omega))) ?_
     unfold Gm
     rw [ckb (by omega)]
     exact hw
    ·rw [hw2 k hk]
     congr 1
     rw [decide_eq_decide]
     omega
  ·refine ⟨v,?_,fun k hk=>?_⟩
   ·refine B9 ?_
    by_cases h2:x≤s.Hi
    ·rw [decide_eq_true h2,decide_eq_false (by omega)];rfl
    ·rw [decide_eq_false h2];rfl
   ·have e:decide (x≤(k:Int)-20∧(k:Int)-20≤s.Hi)=false:=decide_eq_false (by omega)
    rw [e,Bool.or_false]
theorem A3z (hF:FF≤F) (l:List api_Span) (hl:l.length≤100000) (hs:∀s∈l,-1000000≤s.Lo∧s.Hi≤1000000):∀(n N i:Nat) (v:V80),i+n=l.length→n<N →
  (∀k<80,vb v k=dt (l.take i) k)→Ew F l N v (i:Int)=some (Dt l):=by
 have hF':=hF
 unfold FF at hF'
 intro n
 induction n with
 | zero =>
  intro N i v hi hN hv
  obtain ⟨N,rfl⟩:∃N',N=N'+1:=⟨N-1,by omega⟩
  show Fs F l (Ew F l N) v (i:Int)=_
  unfold Fs
  rw [B9 (by simp;omega)]
  unfold Kj
  congr 1
  apply Xi
  intro k hk
  rw [hv k hk,R3 hk,List.take_of_length_le (by omega)]
 | succ n ih =>
  intro N i v hi hN hv
  obtain ⟨N,rfl⟩:∃N',N=N'+1:=⟨N-1,by omega⟩
  show Fs F l (Ew F l N) v (i:Int)=_
  unfold Fs
  have hin:l[i]? = some (gx l i):=by
   unfold gx
   rw [List.getD_eq_getElem?_getD,List.getElem?_eq_getElem (by omega:i<l.length)];rfl
  have hsi:=hs (gx l i) (List.mem_of_getElem? hin)
  rw [Bs (by simp;omega),Y7 (by omega)]
  obtain ⟨w,hw,hw2⟩:=A6e (i:Int) (Ew F l N) (gx l i) hsi 1000100 F v (gx l i).Lo (by omega) (by omega) (by omega)
  rw [hw]
  unfold Hw
  rw [ckb (by omega),F9]
  refine ih N (i+1) w (by omega) (by omega) fun k hk=>?_
  rw [hw2 k hk,hv k hk,List.take_add_one,hin]
  unfold dt
  rw [List.any_append]
  simp
theorem A0v (hF:FF≤F) (l:List api_Span) (hl:l.length≤100000) (hs:∀s∈l,-1000000≤s.Lo∧s.Hi≤1000000):Gf F l=some (Dt l):=by
 unfold Gf
 have hF':=hF
 unfold FF at hF'
 exact A3z hF l hl hs l.length F 0 _ (by omega) (by omega) (fun k hk=>by rw [V5];rfl)
theorem A1z (a b:V80) (d:Int) (hd:0≤d∧d≤1000000000) (i:Nat) (hi:i<80) (k2:V80→Int→Option V80):∀(n N:Nat) (v:V80) (x:Int),n<N→0≤x→x≤1000000000→(80-x).toNat≤n →
  ∃w,Du a b d (i:Int) k2 N v x=Gg (i:Int) k2 w∧(∀k<80,k≠i→vb w k=vb v k)∧(vb w i=true↔vb v i=true∨(vb a i=true∧∃q:Nat,x≤q∧(q:Int)≤i+d∧q<80∧vb b q=true)):=by
 intro n
 induction n with
 | zero =>
  intro N v x hN hx hx2 h
  obtain ⟨N,rfl⟩:∃N',N=N'+1:=⟨N-1,by omega⟩
  refine ⟨v,?_,fun _ _ _=>rfl,?_⟩
  ·show Ed a b d (i:Int) k2 (Du a b d (i:Int) k2 N) v x=_
   unfold Ed
   have e:(bif decide (x≤(i:Int)+d) then decide (x<80) else false)=false:=by
    rw [decide_eq_false (p:=x<80) (by omega)];cases decide (x≤(i:Int)+d)<;>rfl
   rw [ckb (by omega),e,gdF (g:=false==true&&true) rfl,sb]
   exact B9 rfl
  ·constructor
   ·intro h;exact .inl h
   ·rintro (h|⟨_,q,h1,h2,h3,_⟩)
    ·exact h
    ·omega
 | succ n ih =>
  intro N v x hN hx hx2 h
  obtain ⟨N,rfl⟩:∃N',N=N'+1:=⟨N-1,by omega⟩
  have step:Du a b d (i:Int) k2 (N+1) v x=Ed a b d (i:Int) k2 (Du a b d (i:Int) k2 N) v x:=rfl
  rw [step]
  unfold Ed
  rw [ckb (by omega)]
  by_cases hc:x≤(i:Int)+d∧x<80
  ·have e:(bif decide (x≤(i:Int)+d) then decide (x<80) else false)=true:=by
    rw [decide_eq_true hc.1,decide_eq_true hc.2];rfl
   rw [e,gdT (g:=true==true&&true) rfl,Y8 (by omega),Int.toNat_natCast]
   rcases Bool.eq_false_or_eq_true (vb a i) with ha|ha
   case inr =>
    refine ⟨v,by rw [ha];exact B9 rfl,fun _ _ _=>rfl,?_⟩
    rw [ha];simp
   case inl =>
    obtain ⟨u,hu,hu2⟩:=A80 v (i:=(i:Int)) (by omega) (bif vb v i then true else vb b x.toNat)
    rw [Int.toNat_natCast] at hu2
    obtain ⟨w,hw,hw2,hw3⟩:=ih N u (x+1) (by omega) (by omega) (by omega) (by omega)
    refine ⟨w,?_,fun k hk hne=>?_,?_⟩
    ·rw [ha]
     refine Eq.trans (Bs rfl) ?_
     rw [Y8 (by omega),Int.toNat_natCast]
     have hg:gd (vb v i==false&&true) (Pq b x) default=some (bif vb v i then default else vb b x.toNat):=by
      cases vb v i with
      | true=>rfl
      | false=>rw [gdT (g:=false==false&&true) rfl,A7w (by omega)];rfl
     rw [hg,sb,Y8 (by omega)]
     have hv:Xe v (i:Int) (bif vb v i then true else (bif vb v i then default else vb b x.toNat))=some u:=by
      rw [←hu];congr 1;cases vb v i<;>rfl
     refine Eq.trans (congrArg (fun o=>Option.bind o _) hv) ?_
     rw [sb,ckb (by omega)]
     exact hw
    ·rw [hw2 k hk hne,hu2 k hk,if_neg hne]
    ·rw [hw3,hu2 i hi,if_pos rfl]
     cases hvi:vb v i with
     | true=>simp
     | false =>
      simp only [cond_false,Bool.false_eq_true,false_or]
      constructor
      ·rintro (h1|⟨h1,q,h2,h3⟩)
       ·exact ⟨ha,x.toNat,by omega,by omega,by omega,h1⟩
       ·exact ⟨ha,q,by omega,h3⟩
      ·rintro ⟨h1,q,h2,h3,h4,h5⟩
       by_cases e:(q:Int)=x
       ·left
        rw [←e,Int.toNat_natCast];exact h5
       ·exact .inr ⟨h1,q,by omega,h3,h4,h5⟩
  ·have e:(bif decide (x≤(i:Int)+d) then decide (x<80) else false)=false:=by
    by_cases h1:x≤(i:Int)+d
    ·rw [decide_eq_true h1,decide_eq_false (by omega)];rfl
    ·rw [decide_eq_false h1];rfl
   refine ⟨v,?_,fun _ _ _=>rfl,?_⟩
   ·rw [e,gdF (g:=false==true&&true) rfl,sb]
    exact B9 rfl
   ·constructor
    ·intro h;exact .inl h
    ·rintro (h|⟨_,q,h1,h2,h3,_⟩)
     ·exact h
     ·omega
theorem Zh (hF:FF≤F) (a b:V80) (d:Int) (hd:0≤d∧d≤1000000000):∀(n N i:Nat) (v:V80),i+n=80→n<N→(∀k<80,i≤k→vb v k=false) →
  ∃w,Cw F a b d N v (i:Int)=some w∧(∀k<80,k<i→vb w k=vb v k)∧∀k<80,i≤k→(vb w k=true↔vb a k=true∧∃q:Nat,(k:Int)-d≤q∧(q:Int)≤k+d∧q<80∧vb b q=true):=by
 have hF':=hF
 unfold FF at hF'
 intro n
 induction n with
 | zero =>
  intro N i v hi hN hv
  obtain ⟨N,rfl⟩:∃N',N=N'+1:=⟨N-1,by omega⟩
  refine ⟨v,?_,fun _ _ _=>rfl,fun k hk h=>by omega⟩
  show Ec F a b d (Cw F a b d N) v (i:Int)=_
  unfold Ec
  rw [B9 (decide_eq_false (by omega))];rfl
 | succ n ih =>
  intro N i v hi hN hv
  obtain ⟨N,rfl⟩:∃N',N=N'+1:=⟨N-1,by omega⟩
  have step:Cw F a b d (N+1) v (i:Int)=Ec F a b d (Cw F a b d N) v (i:Int):=rfl
  rw [step]
  unfold Ec
  obtain ⟨u,hu,hu2,hu3⟩:=A1z a b d hd i (by omega) (Cw F a b d N) 80 F v (if (i:Int)-d>0 then (i:Int)-d else 0) (by omega) (by split<;>omega) (by split<;>omega) (by split<;>omega)
  obtain ⟨w,hw,hw2,hw3⟩:=ih N (i+1) u (by omega) (by omega) (fun k hk hik=>by rw [hu2 k hk (by omega)];exact hv k hk (by omega))
  refine ⟨w,?_,fun k hk hki=>?_,fun k hk hik=>?_⟩
  ·rw [Bs (decide_eq_true (by omega)),ckb (by omega),hu]
   unfold Gg
   rw [ckb (by omega),F9]
   exact hw
  ·rw [hw2 k hk (by omega),hu2 k hk (by omega)]
  ·by_cases e:k=i
   ·subst e
    rw [hw2 k hk (by omega),hu3,hv k hk (by omega)]
    simp only [Bool.false_eq_true,false_or]
    constructor
    ·rintro ⟨h1,q,h2,h3⟩
     exact ⟨h1,q,by split at h2<;>omega,h3⟩
    ·rintro ⟨h1,q,h2,h3⟩
     exact ⟨h1,q,by split<;>omega,h3⟩
   ·exact hw3 k hk (by omega)
theorem Mb (hF:FF≤F) (a b:V80) (d:Int) (hd:0≤d∧d≤1000000000):∃w,Ff F a b d=some w∧∀k<80,(vb w k=true↔vb a k=true∧∃q:Nat,(k:Int)-d≤q∧(q:Int)≤k+d∧q<80∧vb b q=true):=by
 have hF':=hF
 unfold FF at hF'
 obtain ⟨w,h1,_,h3⟩:=Zh hF a b d hd 80 F 0 (default:V80) (by omega) (by omega) (fun k _ _=>V5)
 exact ⟨w,h1,fun k hk=>h3 k hk (by omega)⟩
theorem A65 (hF:FF≤F) {a b:List api_Span} {d:Int} (hv:Er b) (hd:0≤d∧d≤1000000000) (hb:∀s∈b,-20≤s.Lo∧s.Hi≤59):Ff F (Dt a) (Dt b) d=some (Dt (nr a b d)):=by
 obtain ⟨w,hw,hw2⟩:=Mb hF (Dt a) (Dt b) d hd
 rw [hw]
 congr 1
 apply Xi
 intro k hk
 rw [R3 hk,Bool.eq_iff_iff,hw2 k hk,R3 hk,Nn,Nn,Fy hv hd.1]
 constructor
 ·rintro ⟨h1,q,h2,h3,h4,h5⟩
  rw [R3 h4,Nn] at h5
  exact ⟨h1,_,h5,by omega,by omega⟩
 ·rintro ⟨h1,y,⟨s,hs,hy1,hy2⟩,h2,h3⟩
  refine ⟨h1,?_⟩
  have hsb:=hb s hs
  obtain ⟨q,hq1,hq2,hq3,hq4⟩:∃q:Int,s.Lo≤q∧q≤s.Hi∧2*q-2*d≤2*((k:Int)-20)∧2*((k:Int)-20)≤2*q+2*d:=by
   by_cases hp:y≤2*((k:Int)-20)
   ·exact ⟨(y+1)/2,by omega,by omega,by omega,by omega⟩
   ·exact ⟨y/2,by omega,by omega,by omega,by omega⟩
  refine ⟨(q+20).toNat,by omega,by omega,by omega,?_⟩
  rw [R3 (by omega),Nn]
  exact ⟨s,hs,by omega,by omega⟩
theorem Y6 (hF:FF≤F) (l:List api_Span) (hl:l.length≤100000) (hg:Canon l) (hs:∀s∈l,-20≤s.Lo∧s.Hi≤59):∀(n N i:Nat),i+n=l.length→n<N →
  Ef l (Dt l) N (i:Int)=some true:=by
 have hF':=hF
 unfold FF at hF'
 intro n
 induction n with
 | zero =>
  intro N i hi hN
  obtain ⟨N,rfl⟩:∃N',N=N'+1:=⟨N-1,by omega⟩
  show Ee l (Dt l) (Ef l (Dt l) N) (i:Int)=_
  unfold Ee
  rw [B9 (by simp;omega)];rfl
 | succ n ih =>
  intro N i hi hN
  obtain ⟨N,rfl⟩:∃N',N=N'+1:=⟨N-1,by omega⟩
  show Ee l (Dt l) (Ef l (Dt l) N) (i:Int)=_
  unfold Ee
  have hin:l[i]? = some (gx l i):=by
   unfold gx
   rw [List.getD_eq_getElem?_getD,List.getElem?_eq_getElem (by omega:i<l.length)];rfl
  have hmem:=List.mem_of_getElem? hin
  have hsi:=hs _ hmem
  have hvi:=hg.2 _ hmem
  have e1:decide ((gx l i).Lo>(gx l i).Hi)=false:=decide_eq_false (by omega)
  have e2:decide ((gx l i).Lo < -20)=false:=decide_eq_false (by omega)
  have e3:decide ((gx l i).Hi≥60)=false:=decide_eq_false (by omega)
  have hd:∀z:Int,(gx l i).Lo≤z→z≤(gx l i).Hi→Pq (Dt l) (z-(-20))=some true:=by
   intro z h1 h2
   rw [A7w (by omega),R3 (by omega)]
   congr 1
   rw [Nn]
   exact ⟨_,hmem,by omega,by omega⟩
  have hprev:∃u:api_Span,gd (decide ((i:Int)>0)==true&&(decide ((gx l i).Lo>(gx l i).Hi)==false&&true)) (ck ((i:Int)-1)) 0=some (if i=0 then 0 else (i:Int)-1) ∧
    gd (decide ((i:Int)>0)==true&&(decide ((gx l i).Lo>(gx l i).Hi)==false&&true)) (Ad l (if i=0 then 0 else (i:Int)-1)) default=some u∧(bif decide ((i:Int)>0) then decide ((gx l i).Lo≤u.Hi) else false)=false:=by
   rw [e1]
   by_cases h0:i=0
   ·subst h0
    exact ⟨default,gdF rfl,gdF rfl,rfl⟩
   ·have hc:decide ((i:Int)>0)=true:=decide_eq_true (by omega)
    rw [hc,if_neg h0]
    have hlt:(gx l (i-1)).Hi<(gx l i).Lo:=by
     have:=List.pairwise_iff_getElem.1 hg.1 (i-1) i (by omega) (by omega) (by omega)
     unfold gx
     rw [List.getD_eq_getElem?_getD,List.getD_eq_getElem?_getD,List.getElem?_eq_getElem (by omega:i-1<l.length),List.getElem?_eq_getElem (by omega:i<l.length)]
     exact this
    refine ⟨gx l (i-1),?_,?_,?_⟩
    ·exact (gdT rfl).trans (ck1 (by omega))
    ·refine (gdT rfl).trans ?_
     have:=Y7 (l:=l) (i:=i-1) (by omega) (fun u=>some u)
     rw [show ((i:Int)-1)=((i-1:Nat):Int) by omega]
     simpa using this
    ·rw [cond_true];exact decide_eq_false (by omega)
  obtain ⟨u,p1,p2,p3⟩:=hprev
  rw [Bs (by simp;omega),Y7 (by omega),p1,sb,p2,sb,p3,e1,e2,e3]
  simp only [cond_false]
  rw [gdT (g:=false==false&&true) rfl,ckb (by omega),gdT (g:=false==false&&true) rfl,hd _ (by omega) (by omega),sb]
  simp only [Bool.not_true,cond_false]
  rw [gdT (g:=false==false&&true) rfl,ckb (by omega),gdT (g:=false==false&&true) rfl,hd _ (by omega) (by omega),sb]
  refine Eq.trans (B9 rfl) ?_
  rw [ckb (by omega),F9]
  exact ih N (i+1) (by omega) (by omega)
theorem A2c (hF:FF≤F) (l:List api_Span) (hl:l.length≤100000) (hg:Canon l) (hs:∀s∈l,-20≤s.Lo∧s.Hi≤59):Hb F l (Dt l)=some true:=by
 have hF':=hF
 unfold FF at hF'
 exact Y6 hF l hl hg hs l.length F 0 (by omega) (by omega)
end
end Go.Proofs.Ytbhjgebjojdohaa
namespace Go.Proofs.Ytbhjgebjojdohaa
open Go Go.RowKit Go.Eng
set_option maxRecDepth 10000
set_option linter.unusedVariables false
set_option linter.unusedSimpArgs false
theorem A33 {x y:Int} (hx:0≤x) (hy:0<y):N8 x y=some (x%y):=by
 rw [N8,if_neg (by omega),Int.tmod_eq_emod_of_nonneg hx]
def okR (pos:Int) (l:List api_Span):Prop:=Canon l∧∀s∈l,-20≤s.Lo∧s.Hi≤pos-20
theorem A6x:okR 0 []:=⟨⟨.nil,fun s hs=>by cases hs⟩,fun s hs=>by cases hs⟩
theorem A6w {pos q:Int} {l:List api_Span} (h:okR pos l) (hq:pos<q) (h0:0≤pos):okR q (l++[⟨q-20,q-20⟩]):=by
 refine ⟨⟨?_,fun s hs=>?_⟩,fun s hs=>?_⟩
 ·rw [List.pairwise_append]
  refine ⟨h.1.1,List.pairwise_singleton _ _,fun a ha b hb=>?_⟩
  rw [List.mem_singleton] at hb
  subst hb
  have:=(h.2 a ha).2
  show a.Hi<q-20
  omega
 ·rw [List.mem_append,List.mem_singleton] at hs
  rcases hs with hs|rfl
  ·exact h.1.2 s hs
  ·exact Int.le_refl _
 ·rw [List.mem_append,List.mem_singleton] at hs
  rcases hs with hs|rfl
  ·have:=h.2 s hs;omega
  ·exact ⟨by show -20≤q-20;omega,Int.le_refl _⟩
theorem A55 {pos q:Int} {l:List api_Span} {u:api_Span} (h:okR pos (l++[u])) (hq:pos≤q):okR q (l++[⟨u.Lo,q-20⟩]):=by
 have hu:=h.2 u (by simp)
 have hv:=h.1.2 u (by simp)
 have hp:=List.pairwise_append.1 h.1.1
 refine ⟨⟨?_,fun s hs=>?_⟩,fun s hs=>?_⟩
 ·rw [List.pairwise_append]
  refine ⟨hp.1,List.pairwise_singleton _ _,fun a ha b hb=>?_⟩
  rw [List.mem_singleton] at hb
  subst hb
  exact hp.2.2 a ha u (by simp)
 ·rw [List.mem_append,List.mem_singleton] at hs
  rcases hs with hs|rfl
  ·exact h.1.2 s (by simp [hs])
  ·show u.Lo≤q-20;omega
 ·rw [List.mem_append,List.mem_singleton] at hs
  rcases hs with hs|rfl
  ·have:=h.2 s (by simp [hs]);omega
  ·exact ⟨hu.1,Int.le_refl _⟩
theorem X7 {pos:Int} {l:List api_Span} (h:okR pos l) (hp:0≤pos∧pos≤79):l.length≤80:=by
 have:=R8 (lo:=-20) (hi:=pos-20) h.1 h.2 (by omega)
 omega
theorem A7d (x y:Int):D0 x y=⟨x,y⟩:=rfl
theorem A6q (u:List Int) (hu:∀b∈u,0≤b∧b≤255) (X:Int) (acc:Da) (k2:Int→Da→Option Da):∀(n N i:Nat) (l:List api_Span) (pos:Int),i+n=7→n<N→i≤6→0≤pos→pos≤12*i→okR pos l →
  ∃r,Ct X acc k2 u N (i:Int) l pos=Ey X acc k2 r∧okR 79 r:=by
 intro n
 induction n with
 | zero=>intro N i l pos h1 h2 h3;omega
 | succ n ih =>
  intro N i l pos h1 h2 h3 h4 h5 h6
  obtain ⟨N,rfl⟩:∃N',N=N'+1:=⟨N-1,by omega⟩
  have hend:okR 79 l:=⟨h6.1,fun s hs=>by have:=h6.2 s hs;omega⟩
  have step:Ct X acc k2 u (N+1) (i:Int) l pos=Hy X acc k2 u (Ct X acc k2 u N) (i:Int) l pos:=rfl
  rw [step]
  unfold Hy
  by_cases hi:i<u.length
  ·rw [Bs (by simp;omega),Jh 0 (by omega),Int.toNat_natCast]
   have hb:0≤u.getD i 0∧u.getD i 0≤255:=by
    rw [List.getD_eq_getElem?_getD,List.getElem?_eq_getElem hi]
    exact hu _ (List.getElem_mem hi)
   generalize u.getD i 0=b at hb ⊢
   by_cases h66:i=6
   ·exact ⟨l,Bs (by simp;omega),hend⟩
   ·refine Exists.elim (?_:∃r,(bif ((i:Int)%2==0) then ((ck b).bind fun x3588=>(N8 x3588 12).bind fun x3589=>(ck (1+x3589)).bind fun x3590=>(ck (pos+x3590)).bind fun x3591=>(ck (x3591-20)).bind fun x3592=>(ck (x3591-20)).bind fun x3593=>(apd 16 l ([(D0 x3592 x3593)])).bind fun l3595=>De (i:Int) (Ct X acc k2 u N) l3595 x3591)
      else (bif (decide (((l.length:Nat):Int)>0)) then ((ck b).bind fun x3598=>(N8 x3598 8).bind fun x3599=>(ck (pos+x3599)).bind fun x3600=>(ck (((l.length:Nat):Int)-1)).bind fun x3601=>(ck (x3600-20)).bind fun x3602=>(Ad l x3601).bind fun u3603=>(D1 l x3601 (api_Span.mk u3603.Lo x3602)).bind fun l3604=>De (i:Int) (Ct X acc k2 u N) l3604 x3600) else (De (i:Int) (Ct X acc k2 u N) l pos)))=Ey X acc k2 r∧okR 79 r) ?_
    ·have hlen:=X7 h6 (by omega)
     have hK:∀(l':List api_Span) (q:Int),0≤q→q≤12*(i+1)→okR q l'→∃r,De (i:Int) (Ct X acc k2 u N) l' q=Ey X acc k2 r∧okR 79 r:=by
      intro l' q hq1 hq2 hq3
      unfold De
      rw [ckb (by omega),F9]
      exact ih N (i+1) l' q (by omega) (by omega) (by omega) hq1 (by omega) hq3
     cases h2':((i:Int)%2==0) with
     | true =>
      rw [cond_true,ckb (by omega),A33 (by omega) (by omega),sb,ckb (by omega),ckb (by omega),ckb (by omega),ckb (by omega),K0 (by simp;omega)]
      rw [A7d]
      generalize hq:pos+(1+b%12)=q
      exact hK _ q (by omega) (by omega) (A6w h6 (by omega) h4)
     | false =>
      rw [cond_false]
      rcases List.eq_nil_or_concat l with rfl|⟨a,z,rfl⟩
      ·rw [B9 (by simp)]
       exact hK [] pos h4 (by omega) h6
      ·rw [List.concat_eq_append] at h6 ⊢
       have hal:(((a++[z]).length:Nat):Int)-1=((a.length:Nat):Int):=by simp
       have hg:Ad (a++[z]) ((a.length:Nat):Int)=some z:=by
        unfold Ad
        rw [if_pos (by omega),Int.toNat_natCast,List.getElem?_concat_length]
       have hs:∀y,D1 (a++[z]) ((a.length:Nat):Int) y=some (a++[y]):=by
        intro y
        unfold D1
        rw [if_pos (by simp;omega),Int.toNat_natCast]
        congr 1
        rw [List.set_append_right _ _ (Nat.le_refl _)];simp
       have hl2:(a++[z]).length≤80:=by rw [List.concat_eq_append] at hlen;exact hlen
       rw [Bs (by simp),ckb (by omega),A33 (by omega) (by omega),sb,ckb (by omega),ckb (by omega),hal,ckb (by omega),hg,sb,hs,sb]
       exact hK _ _ (by omega) (by omega) (A55 h6 (by omega))
    ·rintro r ⟨hr,hr2⟩
     refine ⟨r,?_,hr2⟩
     rw [B9 (by simp;omega),A33 (by omega) (by omega),sb]
     exact hr
  ·exact ⟨l,B9 (by simp;omega),hend⟩
section
variable {F:Nat}
theorem A4r (hF:FF≤F) (p0:List (List Int)) (h0:∀r∈p0,∀b∈r,0≤b∧b≤255) (hl:p0.length≤7):∀(n N i:Nat) (acc:Da),i+n=p0.length→n<N→acc.length=i→(∀s∈acc,okR 79 s) →
  ∃S,E2 F p0 N (i:Int) acc=some S∧S.length=p0.length∧∀s∈S,okR 79 s:=by
 have hF':=hF
 unfold FF at hF'
 intro n
 induction n with
 | zero =>
  intro N i acc hi hN ha hok
  obtain ⟨N,rfl⟩:∃N',N=N'+1:=⟨N-1,by omega⟩
  refine ⟨acc,?_,by omega,hok⟩
  show Fu F p0 (E2 F p0 N) (i:Int) acc=_
  unfold Fu
  rw [B9 (by simp;omega)];rfl
 | succ n ih =>
  intro N i acc hi hN ha hok
  obtain ⟨N,rfl⟩:∃N',N=N'+1:=⟨N-1,by omega⟩
  have step:E2 F p0 (N+1) (i:Int) acc=Fu F p0 (E2 F p0 N) (i:Int) acc:=rfl
  rw [step]
  unfold Fu
  rw [Bs (by simp;omega),Jh [] (by omega),Int.toNat_natCast]
  have hu:∀b∈p0.getD i [],0≤b∧b≤255:=by
   rw [List.getD_eq_getElem?_getD,List.getElem?_eq_getElem (by omega:i<p0.length)]
   exact h0 _ (List.getElem_mem _)
  obtain ⟨r,hr,hr2⟩:=A6q (p0.getD i []) hu (i:Int) acc (E2 F p0 N) 7 F 0 [] 0 (by omega) (by omega) (by omega) (by omega) (by omega) A6x
  refine Exists.elim (ih N (i+1) (acc++[r]) (by omega) (by omega) (by simp [ha]) (fun s hs=>?_)) fun S hS=>⟨S,?_,hS.2⟩
  ·rw [List.mem_append,List.mem_singleton] at hs
   rcases hs with hs|rfl
   ·exact hok s hs
   ·exact hr2
  ·refine Eq.trans hr ?_
   unfold Ey
   rw [K0 (by simp;omega)]
   unfold Kk
   rw [ckb (by omega),F9]
   exact hS.1
theorem A6p (hF:FF≤F) (p0:List (List Int)) (h0:∀r∈p0,∀b∈r,0≤b∧b≤255) (hl:p0.length≤7):∃S,My F p0=some S∧S.length=p0.length∧∀s∈S,okR 79 s:=by
 have hF':=hF
 unfold FF at hF'
 exact A4r hF p0 h0 hl p0.length F 0 [] (by omega) (by omega) rfl (fun s hs=>by cases hs)
theorem A54 {l:List api_Span} (h:okR 79 l):Good l:=⟨h.1,fun s hs=>by have:=h.2 s hs;omega⟩
theorem V9 (l:List api_Span) (hl:l.length≤100000) (hg:Good l):∀(n N i:Nat),i+n=l.length→n<N→Cg l true N (i:Int)=some 0:=by
 intro n
 induction n with
 | zero =>
  intro N i hi hN
  obtain ⟨N,rfl⟩:∃N',N=N'+1:=⟨N-1,by omega⟩
  show Cv l true (Cg l true N) (i:Int)=_
  unfold Cv
  rw [B9 (by simp;omega)];rfl
 | succ n ih =>
  intro N i hi hN
  obtain ⟨N,rfl⟩:∃N',N=N'+1:=⟨N-1,by omega⟩
  have s1:Cg l true (N+1) (i:Int)=Cv l true (Cg l true N) (i:Int):=rfl
  rw [s1]
  have hc:decide ((i:Int)<((l.length:Nat):Int))=true:=by simp;omega
  have hin:l[i]? = some (gx l i):=by
   unfold gx
   rw [List.getD_eq_getElem?_getD,List.getElem?_eq_getElem (by omega:i<l.length)];rfl
  have hmem:=List.mem_of_getElem? hin
  have hok:A6y (gx l i)=true:=by
   unfold A6y
   have:=hg.2 _ hmem
   have:=hg.1.2 _ hmem
   simp only [decide_eq_true_eq]
   omega
  by_cases h0:i=0
  ·subst h0
   unfold Cv
   refine Eq.trans (Bs hc) ?_
   rw [Y7 (by omega),Yj,hok]
   refine Eq.trans (B9 rfl) ?_
   rw [gdF (g:=(bif true then (decide (((0:Nat):Int)>0)) else false)==true&&true) rfl,sb,gdF (g:=(bif true then (decide (((0:Nat):Int)>0)) else false)==true&&true) rfl,sb]
   refine Eq.trans (B9 rfl) ?_
   rw [ckb (by omega)]
   exact ih N 1 (by omega) (by omega)
  ·have e0:decide ((i:Int)>0)=true:=by simp;omega
   have e1:((i:Int)-1)=((i-1:Nat):Int):=by omega
   have eg:((bif true then (decide ((i:Int)>0)) else false)==true&&true)=true:=by rw [e0];rfl
   have P1:Cv l true (Cg l true N) (i:Int)=bif decide ((gx l i).Lo≤(gx l (i-1)).Hi) then some 12 else Cg l true N ((i+1:Nat):Int):=by
    unfold Cv
    refine Eq.trans (Bs hc) ?_
    rw [Y7 (by omega),Yj,hok]
    refine Eq.trans (B9 rfl) ?_
    rw [gdT eg,ckb (by omega),e1,gdT eg,Y7 (by omega),e0,ckb (by omega),F9]
    rfl
   have hlt:(gx l (i-1)).Hi<(gx l i).Lo:=by
    have:=List.pairwise_iff_getElem.1 hg.1.1 (i-1) i (by omega) (by omega) (by omega)
    unfold gx
    rw [List.getD_eq_getElem?_getD,List.getD_eq_getElem?_getD,List.getElem?_eq_getElem (by omega:i-1<l.length),List.getElem?_eq_getElem (by omega:i<l.length)]
    exact this
   rw [P1,B9 (decide_eq_false (by omega))]
   exact ih N (i+1) (by omega) (by omega)
theorem A3v (hF:FF≤F) {l:List api_Span} (hl:l.length≤256) (hg:Good l):Jo F l true=some 0:=by
 unfold FF at hF
 unfold Jo
 rw [B9 (decide_eq_false (by omega))]
 exact V9 l (by omega) hg l.length F 0 (by omega) (by omega)
theorem Yv (hF:FF≤F) {S:Da} (hl:S.length≤200) (hS:∀s∈S,s.length≤256∧Good s):Mc F S=some (S,0):=by
 have hF':=hF
 unfold FF at hF'
 unfold Mc
 rw [B9 (decide_eq_false (by omega))]
 have:∀(n N i:Nat),i+n=S.length→n<N→G7 F S N (i:Int) (S.take i)=some (S,0):=by
  intro n
  induction n with
  | zero =>
   intro N i hi hN
   obtain ⟨N,rfl⟩:∃N',N=N'+1:=⟨N-1,by omega⟩
   show H0 F S (G7 F S N) (i:Int) (S.take i)=_
   unfold H0
   rw [B9 (by simp;omega),List.take_of_length_le (by omega)];rfl
  | succ n ih =>
   intro N i hi hN
   obtain ⟨N,rfl⟩:∃N',N=N'+1:=⟨N-1,by omega⟩
   have s1:G7 F S (N+1) (i:Int) (S.take i)=H0 F S (G7 F S N) (i:Int) (S.take i):=rfl
   rw [s1]
   unfold H0
   have hgt:S[i]? = some (gt S i):=by
    unfold gt
    rw [List.getD_eq_getElem?_getD,List.getElem?_eq_getElem (by omega:i<S.length)];rfl
   obtain ⟨hlen,hg⟩:=hS _ (List.mem_of_getElem? hgt)
   have hu:C0 F (gt S i)=some (gt S i):=by
    rw [S1 hF hg.1.2 (fun s hs=>by have:=hg.2 s hs;have:=hg.1.2 s hs;unfold spB;omega) (by omega),A85 hg.1]
   have ht:S.take i++[gt S i]=S.take (i+1):=by rw [List.take_add_one,hgt];rfl
   rw [Bs (by simp;omega),H4 (by omega),A3v hF hlen hg,sb]
   refine Eq.trans (B9 rfl) ?_
   rw [hu,sb,K0 (by simp;omega),ht,ckb (by omega),F9]
   exact ih N (i+1) (by omega) (by omega)
 exact this S.length F 0 (by omega) (by omega)
theorem A5n (hF:FF≤F) {S:Da} (hl:S.length≤200) (hS:∀s∈S,s.length≤256∧Good s) {jp br:Int} (hj:0≤jp∧jp≤400000) (hb:1≤br∧br≤16) :
  ∃f b p,Nq F S jp br=some (p,0)∧p.length=S.length∧AllGood f∧AllGood b∧AllGood p∧(∀j<S.length,pF S br jp f j)∧(∀j<S.length,pB S br jp b j)∧∀x<S.length,gt p x=mt (gt f x) (gt b x):=by
 have hG:AllGood S:=fun s hs=>(hS s hs).2
 obtain ⟨f,b,o,a1,a2,a3,a4,a5,a6,a7⟩:=Yn hF hG (by omega) hj hb.2
 obtain ⟨f',p,c1,c2,c3,c4,c5,c6⟩:=X9 hF hG (by omega) hj hb.2 0
 have hff:∀j<S.length,gt f' j=gt f j:=fun j hj=>A3n c5 a5 (j+1) j (by omega) hj
 have hpo:∀x<S.length,gt p x=mt (gt f x) (gt b x):=by
  intro x hx
  refine Ko (c4.gt x).1 (Uh _ _) fun z=>?_
  rw [A20 hG hj hb.2 c3 a4 c4 c5 a6 c6 S.length x (by omega) (by omega) z,X2,hff x (by omega)]
 refine ⟨f,b,p,?_,c2,a3,a4,c4,a5,a6,hpo⟩
 unfold Nq
 have hlim:Bk jp br=0:=by
  unfold Bk
  simp [cond_eq_ite]
  omega
 rw [Yv hF hl hS,sb]
 refine Eq.trans (Bs rfl) ?_
 rw [hlim]
 exact c1
end
end Go.Proofs.Ytbhjgebjojdohaa
namespace Go.Proofs.Ytbhjgebjojdohaa
open Go Go.RowKit Go.Eng
set_option maxRecDepth 10000
set_option linter.unusedVariables false
set_option linter.unusedSimpArgs false
def inR (l:List api_Span):Prop:=∀s∈l,-20≤s.Lo∧s.Hi≤59
theorem A13 {a b:List api_Span} (hv:Er a) (hb:inR b) (h:∀z,mem z a→mem z b):inR a:=by
 intro s hs
 have hvs:=hv s hs
 obtain ⟨t,ht,h1,h2⟩:=h (2*s.Lo) ⟨s,hs,by omega,by omega⟩
 obtain ⟨u,hu,h3,h4⟩:=h (2*s.Hi) ⟨s,hs,by omega,by omega⟩
 have:=hb t ht
 have:=hb u hu
 omega
theorem A4l {l:List api_Span} (h:inR l) (hv:Er l):∀s∈l,-1000000≤s.Lo∧s.Hi≤1000000:=fun s hs=>by have:=h s hs;omega
section
variable {F:Nat} {S f b p:Da} {br jp:Int}
theorem A84 (hj:0≤jp∧jp≤400000) (hb:br≤16) (hfG:AllGood f) (hf:∀j<S.length,pF S br jp f j) {j:Nat} (hjl:j<S.length) {z:Int} (hz:mem z (gt f j)):mem z (gt S j):=by
 by_cases h:∃i,lk S br i j
 ·obtain ⟨i,hi⟩:=h
  rw [(hf j hjl).1 i hi] at hz
  exact ((Fy (hfG.gt i).1.2 (Sk hj hb hi).1 z).1 hz).1
 ·rw [(hf j hjl).2 (fun i hi=>h ⟨i,hi⟩)] at hz;exact hz
theorem B0r (hj:0≤jp∧jp≤400000) (hb:br≤16) (hbG:AllGood b) (hB:∀j<S.length,pB S br jp b j) {j:Nat} (hjl:j<S.length) {z:Int} (hz:mem z (gt b j)):mem z (gt S j):=by
 by_cases h:∃i,lk S br j i
 ·obtain ⟨i,hi⟩:=h
  rw [(hB j hjl).1 i hi] at hz
  exact ((Fy (hbG.gt i).1.2 (Sk hj hb hi).1 z).1 hz).1
 ·rw [(hB j hjl).2 (fun i hi=>h ⟨i,hi⟩)] at hz;exact hz
theorem ne_eq (i:Nat):decide (((((gt S i).length:Nat):Int))>0)=ne S i:=by
 unfold ne;rw [decide_eq_decide];omega
end
end Go.Proofs.Ytbhjgebjojdohaa
namespace Go.Proofs.Ytbhjgebjojdohaa
open Go Go.RowKit Go.Eng
set_option maxRecDepth 10000
set_option linter.unusedVariables false
set_option linter.unusedSimpArgs false
section
variable {G S T:Rays} {br jp:Int} {n m:Nat} {F:Nat}
theorem A0j (hS:Shape G n m) (hn:n≤1000):∀(t N a:Nat),a+t=n→t<N→Gd F G jp br N (a:Int)=Jm F G jp br:=by
 have hl:=hS.1
 intro t
 induction t with
 | zero =>
  intro N a ha hN
  obtain ⟨N,rfl⟩:∃N',N=N'+1:=⟨N-1,by omega⟩
  show Gb F G jp br (Gd F G jp br N) (a:Int)=_
  unfold Gb
  rw [B9 (by simp;omega)]
 | succ t ih =>
  intro N a ha hN
  obtain ⟨N,rfl⟩:∃N',N=N'+1:=⟨N-1,by omega⟩
  show Gb F G jp br (Gd F G jp br N) (a:Int)=_
  unfold Gb
  have h0:(Ad G 0)=some (G.getD 0 []):=by
   unfold Ad
   rw [if_pos (Int.le_refl _),List.getD_eq_getElem?_getD]
   show G[0]? = _
   rw [List.getElem?_eq_getElem (by omega)];rfl
  rw [Bs (by simp;omega),Ni (by omega),h0,sb,B9 (by rw [hS.row (by omega),hS.row (by omega)];simp),ckb (by omega),F9]
  exact ih N (a+1) (by omega) (by omega)
theorem A38 (hF:FF≤F) (hS:Shape G n m) (hn:n≤1000) (hm:m≤200) (hg:∀r∈G,∀s∈r,s.length≤256∧Good s):∀(t N a:Nat),a+t=n→t<N→Fc F G jp br N (G.take a) (a:Int)=Jn F jp br G:=by
 have hl:=hS.1
 intro t
 induction t with
 | zero =>
  intro N a ha hN
  obtain ⟨N,rfl⟩:∃N',N=N'+1:=⟨N-1,by omega⟩
  show Ga F G jp br (Fc F G jp br N) (G.take a) (a:Int)=_
  unfold Ga
  rw [B9 (by simp;omega),List.take_of_length_le (by omega)]
 | succ t ih =>
  intro N a ha hN
  obtain ⟨N,rfl⟩:∃N',N=N'+1:=⟨N-1,by omega⟩
  show Ga F G jp br (Fc F G jp br N) (G.take a) (a:Int)=_
  unfold Ga
  have hr:=Yv hF (S:=G.getD a []) (by rw [hS.row (by omega)];exact hm) (hg _ (Hu (by omega)))
  have ht:(G.take a).length=a:=by rw [List.length_take];omega
  rw [Bs (by simp;omega),Ni (by omega),hr,sb]
  refine Eq.trans (B9 rfl) ?_
  rw [K0 (by rw [ht];simp;omega),ckb (by omega),F9]
  have e2:G.take a++[G.getD a []]=G.take (a+1):=by
   rw [List.take_add_one]
   congr 1
   rw [List.getD_eq_getElem?_getD,List.getElem?_eq_getElem (by omega)];rfl
  show Fc F G jp br N (G.take a++[G.getD a []]) ((a+1:Nat):Int)=_
  rw [e2]
  exact ih N (a+1) (by omega) (by omega)
theorem Rz (hF:FS≤F) (hS:Shape G n m) (hn:n≤360) (hm:m≤200) (hg:∀r∈G,∀s∈r,s.length≤256∧Good s) (hj:0≤jp∧jp≤400000) (hb:1≤br∧br≤16) :
  ∃W,K4 F G jp br=some (W,0)∧Inv G (LL G br jp) n m W∧Stable (LL G br jp) (gf W):=by
 have hF2:FF≤F:=by unfold FS at hF;unfold FF;omega
 have hF':=hF2
 unfold FF at hF'
 have hl:=hS.1
 have hG:AllG G:=fun r hr s hs=>(hg r hr s hs).2
 obtain ⟨W,g1,g3,g4⟩:=A3c hF hS hG (by omega) (by omega) hj hb.2
 refine ⟨W,?_,g3,g4⟩
 unfold K4
 have e0:decide (((G.length:Nat):Int)>360)=false:=by simp;omega
 rw [e0,cond_false]
 have h1:=A0j (F:=F) (jp:=jp) (br:=br) hS (by omega) n F 0 (by omega) (by omega)
 rw [show ((0:Nat):Int)=0 from rfl] at h1
 rw [h1]
 unfold Jm
 have h2:=A38 (jp:=jp) (br:=br) hF2 hS (by omega) hm hg n F 0 (by omega) (by omega)
 rw [show ((0:Nat):Int)=0 from rfl,List.take_zero] at h2
 rw [h2]
 unfold Jn
 have hlim:Bk jp br=0:=by
  unfold Bk
  simp [cond_eq_ite]
  omega
 rw [hlim]
 refine Eq.trans (B9 rfl) ?_
 rw [g1,sb]
 have hWl:W.length=n:=g3.shape.1
 have hback:=A1x (S:=W) hF2 g3.good (by omega) (fun r hr=>by rw [g3.shape.2 r hr];omega) W.length F 0 (by omega) (by omega)
 rwa [show ((0:Nat):Int)=0 from rfl,List.take_zero] at hback
theorem Supp.mono {f:Fam} {p q:Pl} {d e:Int} (h:Supp f p q d) (hd:d≤e):Supp f p q e:=fun z hz=>by
 obtain ⟨y,h1,h2,h3⟩:=h z hz
 exact ⟨y,h1,by omega,by omega⟩
end
end Go.Proofs.Ytbhjgebjojdohaa
namespace Go.Proofs.Ytbhjgebjojdohaa
open Go Go.RowKit Go.Eng
set_option maxRecDepth 10000
set_option linter.unusedVariables false
set_option linter.unusedSimpArgs false
structure Fw (s y:List api_Span):Prop where
 ok:okR 79 s
 oky:okR 79 y
 sub:∀z,mem z y→mem z s
 ne:y.length=0↔s.length=0
theorem B0m:okR 79 []:=⟨⟨.nil,fun s hs=>by cases hs⟩,fun s hs=>by cases hs⟩
section
variable {F:Nat} {s:List api_Span} {drop:List Int}
end
end Go.Proofs.Ytbhjgebjojdohaa
namespace Go.Proofs.Ytbhjgebjojdohaa
open Go Go.RowKit Go.Eng
set_option maxRecDepth 10000
set_option linter.unusedVariables false
set_option linter.unusedSimpArgs false
section
variable {F:Nat}
theorem A98 {r:Da} {s:List api_Span} (h:s∈r):∃i,gt r i=s:=by
 obtain ⟨i,hi,rfl⟩:=List.mem_iff_getElem.1 h
 exact ⟨i,by unfold gt;rw [List.getD_eq_getElem?_getD,List.getElem?_eq_getElem hi];rfl⟩
theorem A99 {G:Rays} {r:Da} (h:r∈G):∃a,G.getD a []=r:=by
 obtain ⟨i,hi,rfl⟩:=List.mem_iff_getElem.1 h
 exact ⟨i,by rw [List.getD_eq_getElem?_getD,List.getElem?_eq_getElem hi];rfl⟩
theorem A9h {s:List api_Span} (h:okR 79 s):s.length≤256∧Good s:=⟨by have:=X7 h (by omega);omega,A54 h⟩
variable {n m:Nat} {d far:Int} {X U V:Rays}
end
end Go.Proofs.Ytbhjgebjojdohaa
namespace Go.Proofs.Ytbhjgebjojdohaa
open Go Go.RowKit Go.Eng
set_option maxRecDepth 10000
set_option linter.unusedVariables false
set_option linter.unusedSimpArgs false
theorem B0e {a b:List api_Span} (ha:Canon a) (hb:okR 79 b) (h:∀z,mem z a→mem z b):a.length≤256:=by
 have hR:inR b:=fun s hs=>by have:=hb.2 s hs;omega
 have:=R8 (lo:=-20) (hi:=59) ha (A13 ha.2 hR h) (by omega)
 omega
end Go.Proofs.Ytbhjgebjojdohaa
namespace Go.Proofs.Ytbhjgebjojdohaa
open Go Go.RowKit Go.Eng
set_option maxRecDepth 10000
set_option linter.unusedVariables false
set_option linter.unusedSimpArgs false
abbrev WW:=List (List V80)
def wg (W:WW) (p:Pl):V80:=(W.getD p.1 []).getD p.2 default
def sw (W:WW) (p:Pl) (x:V80):WW:=W.set p.1 ((W.getD p.1 []).set p.2 x)
def ShW (W:WW) (n m:Nat):Prop:=W.length=n∧∀r∈W,r.length=m
def subV (v w:V80):Prop:=∀k<80,vb v k=true→vb w k=true
def isB (a b:V80) (d:Int) (w:V80):Prop:=∀k<80,(vb w k=true↔vb a k=true∧∃q:Nat,(k:Int)-d≤q∧(q:Int)≤k+d∧q<80∧vb b q=true)
theorem subV.refl (v:V80):subV v v:=fun _ _ h=>h
theorem subV.trans {a b c:V80} (h:subV a b) (h':subV b c):subV a c:=fun k hk hv=>h' k hk (h k hk hv)
theorem subV.antisymm {a b:V80} (h:subV a b) (h':subV b a):a=b:=Xi fun k hk=>by rw [Bool.eq_iff_iff];exact ⟨h k hk,h' k hk⟩
theorem isB.sub {a b w:V80} {d:Int} (h:isB a b d w):subV w a:=fun k hk hv=>((h k hk).1 hv).1
theorem isB.eq {a b w u:V80} {d:Int} (h:isB a b d w) (h':isB a b d u):w=u:=Xi fun k hk=>by rw [Bool.eq_iff_iff,h k hk,h' k hk]
theorem isB.mono {a b a' b' w u:V80} {d:Int} (h:isB a b d w) (h':isB a' b' d u) (ha:subV a a') (hb:subV b b'):subV w u:=fun k hk hv=>by
 obtain ⟨h1,q,h2,h3,h4,h5⟩:=(h k hk).1 hv
 exact (h' k hk).2 ⟨ha k hk h1,q,h2,h3,h4,hb q h4 h5⟩
theorem A8v {F:Nat} (hF:FF≤F) {a b:List api_Span} {d:Int} (hv:Er b) (hd:0≤d∧d≤1000000000) (hb:inR b):isB (Dt a) (Dt b) d (Dt (nr a b d)):=by
 obtain ⟨w,hw,hw2⟩:=Mb hF (Dt a) (Dt b) d hd
 have:=A65 hF (a:=a) hv hd hb
 rw [hw] at this
 rw [←Option.some.inj this]
 exact hw2
theorem A87 {a b:List api_Span} (h:∀z,mem z a→mem z b):subV (Dt a) (Dt b):=fun k hk hv=>by
 rw [R3 hk,Nn] at hv ⊢
 exact h _ hv
section
variable {W:WW} {n m:Nat} {p q:Pl} {x:V80}
theorem ShW.row (h:ShW W n m) {a:Nat} (ha:a<n):(W.getD a []).length=m:=h.2 _ (Hu (by rw [h.1];exact ha))
theorem ShW.sw (h:ShW W n m) (hp:p.1<n):ShW (sw W p x) n m:=by
 refine ⟨by unfold Proofs.Ytbhjgebjojdohaa.sw;rw [List.length_set];exact h.1,fun r hr=>?_⟩
 rcases List.mem_or_eq_of_mem_set hr with h1|h1
 ·exact h.2 r h1
 ·rw [h1,List.length_set];exact h.row hp
theorem A63 (h:ShW W n m) (hp:p.1<n∧p.2<m):wg (sw W p x) q=if q=p then x else wg W q:=by
 unfold wg sw
 rw [Hv (by rw [h.1];exact hp.1)]
 by_cases h1:p.1=q.1
 ·rw [if_pos h1,Hv (by rw [h.row hp.1];exact hp.2)]
  by_cases h2:p.2=q.2
  ·rw [if_pos h2,if_pos (Prod.ext h1.symm h2.symm)]
  ·rw [if_neg h2,if_neg (fun e=>h2 (by rw [e])),h1]
 ·rw [if_neg h1,if_neg (fun e=>h1 (by rw [e]))]
theorem A8t {A B:WW} (hA:ShW A n m) (hB:ShW B n m) (h:∀p:Pl,p.1<n→p.2<m→wg A p=wg B p):A=B:=by
 apply List.ext_getElem (hA.1.trans hB.1.symm)
 intro i h1 h2
 have hi:i<n:=by rw [←hA.1];exact h1
 have e1:A.getD i []=A[i]:=by rw [List.getD_eq_getElem?_getD,List.getElem?_eq_getElem h1];rfl
 have e2:B.getD i []=B[i]:=by rw [List.getD_eq_getElem?_getD,List.getElem?_eq_getElem h2];rfl
 rw [←e1,←e2]
 apply List.ext_getElem ((hA.row hi).trans (hB.row hi).symm)
 intro j g1 g2
 have:=h (i,j) hi (by rw [←hA.row hi];exact g1)
 unfold wg at this
 simp only at this
 rw [List.getD_eq_getElem?_getD (l:=A.getD i []),List.getD_eq_getElem?_getD (l:=B.getD i []),List.getElem?_eq_getElem g1,List.getElem?_eq_getElem g2] at this
 exact this
def cV (v:V80):Nat:=(List.range 80).countP fun k=>vb v k
def cW (W:WW):Nat:=(W.map fun r=>(r.map cV).sum).sum
theorem A7q {a b:V80} (h:subV a b):cV a≤cV b:=R9 _ fun k hk hv=>h k (List.mem_range.1 hk) hv
theorem A7r {a b:V80} (h:subV a b) (hne:a≠b):cV a<cV b:=by
 refine Ra _ (fun k hk hv=>h k (List.mem_range.1 hk) hv) ?_
 apply Classical.byContradiction
 intro hc
 refine hne (h.antisymm fun k hk hv=>?_)
 cases hw:vb a k with
 | true=>rfl
 | false=>exact absurd ⟨k,List.mem_range.2 hk,hv,hw⟩ hc
theorem B08 (v:V80):cV v≤80:=by
 have:cV v≤(List.range 80).length:=List.countP_le_length ..
 rwa [List.length_range] at this
theorem A7s (h:ShW W n m) (hp:p.1<n∧p.2<m):cW (sw W p x)+cV (wg W p)=cW W+cV x:=by
 have h1:=R1 (fun r:List V80=>(r.map cV).sum) [] W p.1 ((W.getD p.1 []).set p.2 x) (by rw [h.1];exact hp.1)
 have h2:=R1 cV default (W.getD p.1 []) p.2 x (by rw [h.row hp.1];exact hp.2)
 have e1:(W.getD p.1 []).getD p.2 default=wg W p:=rfl
 rw [e1] at h2
 unfold cW sw
 omega
theorem B09 (h:ShW W n m):cW W≤n*(m*80):=by
 obtain ⟨h1,h2⟩:=h
 subst h1
 unfold cW
 induction W with
 | nil=>simp
 | cons r G ih =>
  have hr:∀(l:List V80),(l.map cV).sum≤l.length*80:=by
   intro l
   induction l with
   | nil=>simp
   | cons a l ih=>have:=B08 a;simp only [List.map_cons,List.sum_cons,List.length_cons,Nat.add_mul,Nat.one_mul];omega
  have e:=hr r
  rw [h2 r (by simp)] at e
  have ih:=ih fun r hr=>h2 r (by simp [hr])
  simp only [List.map_cons,List.sum_cons,List.length_cons,Nat.add_mul,Nat.one_mul]
  omega
end
def Sup (W:WW) (p q:Pl) (d:Int):Prop:=isB (wg W p) (wg W q) d (wg W p)∧isB (wg W q) (wg W p) d (wg W q)
def pts (v:V80):List api_Span:=((List.range 80).filter fun k=>vb v k).map fun (k:Nat)=>⟨(k:Int)-20,(k:Int)-20⟩
theorem Sz {v:V80} {z:Int}:mem z (pts v)↔∃k,k<80∧vb v k=true∧z=2*((k:Int)-20):=by
 unfold mem pts inS
 constructor
 ·rintro ⟨s,hs,h1,h2⟩
  obtain ⟨k,hk,rfl⟩:=List.mem_map.1 hs
  rw [List.mem_filter,List.mem_range] at hk
  exact ⟨k,hk.1,hk.2,by simp only at h1 h2;omega⟩
 ·rintro ⟨k,h1,h2,rfl⟩
  exact ⟨_,List.mem_map.2 ⟨k,List.mem_filter.2 ⟨List.mem_range.2 h1,h2⟩,rfl⟩,by simp only;omega,by simp only;omega⟩
section
variable {S U:Rays} {br jp:Int} {n m:Nat} {W:WW}
theorem V0 (hS:Shape S n m) (hU:Inv S (LL S br jp) n m U) (hW:ShW W n m) (hlo:∀p:Pl,p.1<n→p.2<m→subV (Dt (gf U p)) (wg W p)) (hhi:∀p:Pl,p.1<n→p.2<m→subV (wg W p) (Dt (gf S p)))
  (hs:∀p q d,LL S br jp p q d→Sup W p q d) (p:Pl) (h1:p.1<n) (h2:p.2<m):wg W p=Dt (gf U p):=by
 let f:Fam:=fun p=>if p.1<n∧p.2<m then pts (wg W p) else []
 have hf:∀p:Pl,p.1<n→p.2<m→f p=pts (wg W p):=fun p h1 h2=>if_pos ⟨h1,h2⟩
 have hsup:∀(p q:Pl) (d:Int),p.1<n→p.2<m→q.1<n→q.2<m→isB (wg W q) (wg W p) d (wg W q)→Supp f p q d:=by
  intro p q d a b c e hb z hz
  rw [hf q c e,Sz] at hz
  obtain ⟨k,k1,k2,rfl⟩:=hz
  obtain ⟨_,r,r1,r2,r3,r4⟩:=(hb k k1).1 k2
  refine ⟨2*((r:Int)-20),?_,by omega,by omega⟩
  rw [hf p a b,Sz]
  exact ⟨r,r3,r4,rfl⟩
 have hst:Stable (LL S br jp) f:=by
  rintro p q d (h|h)
  ·obtain ⟨a,b,c,e,_⟩:=Ls hS h
   exact hsup p q d a b c e (hs p q d h).2
  ·obtain ⟨a,b,c,e,_⟩:=Ls hS h
   exact hsup p q d c e a b (hs q p d h).1
 have hbl:Below f (gf S):=by
  intro p z hz
  by_cases hp:p.1<n∧p.2<m
  ·rw [hf p hp.1 hp.2,Sz] at hz
   obtain ⟨k,k1,k2,rfl⟩:=hz
   have:=hhi p hp.1 hp.2 k k1 k2
   rwa [R3 k1,Nn] at this
  ·have:f p=[]:=if_neg hp
   rw [this] at hz
   exact absurd hz (Gu z)
 have hm:=hU.most f hst hbl
 refine subV.antisymm (fun k hk hv=>?_) (hlo p h1 h2)
 rw [R3 hk,Nn]
 refine hm p _ ?_
 rw [hf p h1 h2,Sz]
 exact ⟨k,hk,hv,rfl⟩
structure PI (S U:Rays) (n m:Nat) (W0:WW) (Done:Pl→Pl→Int→Prop) (c:Bool) (W:WW):Prop where
 sh:ShW W n m
 lo:∀p:Pl,p.1<n→p.2<m→subV (Dt (gf U p)) (wg W p)
 hi:∀p:Pl,p.1<n→p.2<m→subV (wg W p) (Dt (gf S p))
 le:cW W≤cW W0
 fresh:c=false→W=W0∧∀p q d,Done p q d→Sup W0 p q d
 less:c=true→cW W<cW W0
theorem PI.mono {W0:WW} {D D':Pl→Pl→Int→Prop} {c:Bool} (h:PI S U n m W0 D c W) (hD:∀p q d,D' p q d→D p q d):PI S U n m W0 D' c W :=
 ⟨h.sh,h.lo,h.hi,h.le,fun hc=>⟨(h.fresh hc).1,fun p q d hd=>(h.fresh hc).2 p q d (hD p q d hd)⟩,h.less⟩
theorem PI.leave {W0:WW} {D:Pl→Pl→Int→Prop} {c:Bool} (h:PI S U n m W0 D c W) (hst:∀p q d,both (LL S br jp) p q d→∀x,isB (Dt (gf U q)) (Dt (gf U p)) d x→x=Dt (gf U q)) {p q:Pl} {d:Int} (hp:p.1<n∧p.2<m) (hq:q.1<n∧q.2<m) (hpq:p≠q) (hl:LL S br jp p q d)
  (hex:∀a b:V80,∃w,isB a b d w) {x y:V80} (hx:isB (wg W p) (wg W q) d x) (hy:isB (wg W q) (wg W p) d y) {c':Bool} (hc':c'=false→c=false∧x=wg W p∧y=wg W q) (hc2:c'=true→c=true∨x≠wg W p∨y≠wg W q) :
  PI S U n m W0 (fun p' q' d'=>D p' q' d'∨(p'=p∧q'=q∧d'=d)) c' (sw (sw W p x) q y):=by
 have s1:=h.sh.sw (p:=p) (x:=x) hp.1
 have s2:=s1.sw (p:=q) (x:=y) hq.1
 have g:∀r,wg (sw (sw W p x) q y) r=if r=q then y else if r=p then x else wg W r:=fun r=>by rw [A63 s1 hq,A63 h.sh hp]
 have hgq:wg (sw W p x) q=wg W q:=by rw [A63 h.sh hp,if_neg (fun e=>hpq e.symm)]
 have k1:=A7s (x:=x) h.sh hp
 have k2:=A7s (x:=y) s1 hq
 rw [hgq] at k2
 have l1:=A7q hx.sub
 have l2:=A7q hy.sub
 have hle:=h.le
 refine ⟨s2,fun r r1 r2=>?_,fun r r1 r2=>?_,by omega,fun hc=>?_,fun hc=>?_⟩
 ·rw [g]
  split
  ·rename_i e;subst e
   obtain ⟨w,hw⟩:=hex (Dt (gf U r)) (Dt (gf U p))
   have:=hst p r d (.inl hl) w hw
   subst this
   exact hw.mono hy (h.lo r r1 r2) (h.lo p hp.1 hp.2)
  ·split
   ·rename_i e;subst e
    obtain ⟨w,hw⟩:=hex (Dt (gf U r)) (Dt (gf U q))
    have:=hst q r d (.inr hl) w hw
    subst this
    exact hw.mono hx (h.lo r r1 r2) (h.lo q hq.1 hq.2)
   ·exact h.lo r r1 r2
 ·rw [g]
  split
  ·rename_i e;subst e;exact hy.sub.trans (h.hi r r1 r2)
  ·split
   ·rename_i e;subst e;exact hx.sub.trans (h.hi r r1 r2)
   ·exact h.hi r r1 r2
 ·obtain ⟨e1,e2,e3⟩:=hc' hc
  obtain ⟨f1,f2⟩:=h.fresh e1
  have hW:sw (sw W p x) q y=W:=A8t s2 h.sh fun r _ _=>by
   rw [g]
   split
   ·rename_i e;subst e;exact e3
   ·split
    ·rename_i e;subst e;exact e2
    ·rfl
  refine ⟨hW.trans f1,?_⟩
  rintro p' q' d' (h1|⟨rfl,rfl,rfl⟩)
  ·exact f2 _ _ _ h1
  ·rw [e2] at hx
   rw [e3] at hy
   rw [←f1]
   exact ⟨hx,hy⟩
 ·rcases hc2 hc with h1|h1|h1
  ·have:=h.less h1;omega
  ·have:=A7r hx.sub h1;omega
  ·have:=A7r hy.sub h1;omega
theorem A2h {F:Nat} (hF:FF≤F) (hU:AllG U) (hR:∀p,inR (gf U p)) (hs:Stable (LL S br jp) (gf U)) (hd:∀p q d,LL S br jp p q d→0≤d∧d≤1000000000) :
  ∀p q d,both (LL S br jp) p q d→∀x,isB (Dt (gf U q)) (Dt (gf U p)) d x→x=Dt (gf U q):=by
 intro p q d h x hx
 have hdd:0≤d∧d≤1000000000:=h.elim (hd p q d) (hd q p d)
 have h1:=A8v hF (a:=gf U q) (b:=gf U p) (hU.good p).1.2 hdd (hR p)
 rw [(A1c hU.good hdd.1).2 (hs p q d h)] at h1
 exact hx.eq h1
end
end Go.Proofs.Ytbhjgebjojdohaa
namespace Go.Proofs.Ytbhjgebjojdohaa
open Go Go.RowKit Go.Eng
set_option maxRecDepth 10000
set_option linter.unusedVariables false
set_option linter.unusedSimpArgs false
theorem Jw {α β:Type} {l:List α} {i:Nat} (d:α) (hi:i<l.length) (k:α→Option β):(Ad l (i:Int)).bind k=k (l.getD i d):=by
 rw [Jh d (by omega),Int.toNat_natCast]
theorem Yz {α β:Type} {l:List α} {i:Nat} {x:α} (hi:i<l.length) (k:List α→Option β):(D1 l (i:Int) x).bind k=k (l.set i x):=by
 unfold D1
 rw [if_pos (by omega),Int.toNat_natCast];rfl
theorem B0x (a k:Nat):((a:Int)+(k:Int))=((a+k:Nat):Int):=by omega
section
variable {F:Nat} {W:WW} {n m:Nat} {p q:Pl}
theorem T5 (h:ShW W n m) (hp:p.1<n∧p.2<m) (hq:q.1<n∧q.2<m) (x y:V80) (c:Bool) :
  ((Ad W (p.1:Int)).bind fun u154=>(Ad W (q.1:Int)).bind fun u160=>(Ad u154 (p.2:Int)).bind fun u166=>(D1 u154 (p.2:Int) x).bind fun l167=>(D1 W (p.1:Int) l167).bind fun l168=>(Ad l168 (q.1:Int)).bind fun u171=>(Ad u171 (q.2:Int)).bind fun u178=>(D1 u171 (q.2:Int) y).bind fun l216=>(D1 l168 (q.1:Int) l216).bind fun l217=>some (l217,c))=some (sw (sw W p x) q y,c):=by
 have h1:=h.1
 have r1:=h.row hp.1
 have r2:=h.row hq.1
 have s1:=h.sw (p:=p) (x:=x) hp.1
 have s2:=s1.1
 have s3:=s1.row hq.1
 rw [Jw [] (by omega),Jw [] (by omega),Jw default (by omega),Yz (by omega),Yz (by omega)]
 show ((Ad (sw W p x) (q.1:Int)).bind fun u171=>(Ad u171 (q.2:Int)).bind fun u178=>(D1 u171 (q.2:Int) y).bind fun l216=>(D1 (sw W p x) (q.1:Int) l216).bind fun l217=>some (l217,c))=_
 rw [Jw [] (by omega),Jw default (by omega),Yz (by omega),Yz (by omega)]
 rfl
theorem A4n (hF:FF≤F) (h:ShW W n m) (hp:p.1<n∧p.2<m) (hq:q.1<n∧q.2<m) (d:Int) (hd:0≤d∧d≤1000000000) (c:Bool) :
  ∃x y c',Br F (p.1:Int) (p.2:Int) (q.1:Int) (q.2:Int) d W c=some (sw (sw W p x) q y,c')∧isB (wg W p) (wg W q) d x∧isB (wg W q) (wg W p) d y∧(c'=false→c=false∧x=wg W p∧y=wg W q)∧(c'=true→c=true∨x≠wg W p∨y≠wg W q):=by
 have h1:=h.1
 have r1:=h.row hp.1
 have r2:=h.row hq.1
 obtain ⟨x,hx,hx2⟩:=Mb hF (wg W p) (wg W q) d hd
 obtain ⟨y,hy,hy2⟩:=Mb hF (wg W q) (wg W p) d hd
 have hx':Ff F ((W.getD p.1 []).getD p.2 default) ((W.getD q.1 []).getD q.2 default) d=some x:=hx
 have hy':Ff F ((W.getD q.1 []).getD q.2 default) ((W.getD p.1 []).getD p.2 default) d=some y:=hy
 refine Exists.elim (?_:∃c',Br F (p.1:Int) (p.2:Int) (q.1:Int) (q.2:Int) d W c=some (sw (sw W p x) q y,c')∧(c'=false→c=false∧x=wg W p∧y=wg W q)∧(c'=true→c=true∨x≠wg W p∨y≠wg W q)) fun c' hc=>⟨x,y,c',hc.1,hx2,hy2,hc.2⟩
 unfold Br
 rw [Jw [] (by omega),Jw default (by omega),Jw [] (by omega),Jw default (by omega),Jw [] (by omega),Jw default (by omega),Jw [] (by omega),Jw default (by omega),hx',sb,hy',sb]
 cases c with
 | true =>
  refine ⟨true,?_,fun h=>(by cases h),fun _=>.inl rfl⟩
  exact T5 h hp hq x y true
 | false =>
  rw [cond_false,Jw [] (by omega),Jw default (by omega)]
  by_cases e1:x=wg W p
  ·have d1:(!decide (x=(W.getD p.1 []).getD p.2 default))=false:=by rw [decide_eq_true (show x=(W.getD p.1 []).getD p.2 default from e1)];rfl
   have g1:(bif false then true else (!decide (x=(W.getD p.1 []).getD p.2 default)))=false:=d1
   rw [g1,cond_false,Jw [] (by omega),Jw default (by omega)]
   by_cases e2:y=wg W q
   ·have d2:(!decide (y=(W.getD q.1 []).getD q.2 default))=false:=by rw [decide_eq_true (show y=(W.getD q.1 []).getD q.2 default from e2)];rfl
    refine ⟨false,?_,fun _=>⟨rfl,e1,e2⟩,fun h=>(by cases h)⟩
    rw [d2]
    exact T5 h hp hq x y false
   ·have d2:(!decide (y=(W.getD q.1 []).getD q.2 default))=true:=by rw [decide_eq_false (show ¬y=(W.getD q.1 []).getD q.2 default from e2)];rfl
    refine ⟨true,?_,fun h=>(by cases h),fun _=>.inr (.inr e2)⟩
    rw [d2]
    exact T5 h hp hq x y true
  ·have d1:(!decide (x=(W.getD p.1 []).getD p.2 default))=true:=by rw [decide_eq_false (show ¬x=(W.getD p.1 []).getD p.2 default from e1)];rfl
   have g1:(bif false then true else (!decide (x=(W.getD p.1 []).getD p.2 default)))=true:=d1
   refine ⟨true,?_,fun h=>(by cases h),fun _=>.inr (.inl e1)⟩
   rw [g1]
   exact T5 h hp hq x y true
end
section
variable {S U:Rays} {far jp:Int} {n m:Nat} {F:Nat} {W0:WW} {a i:Nat} {p0:List (List (List Int))}
structure Ctx (F:Nat) (S U:Rays) (far jp:Int) (n m:Nat) (p0:List (List (List Int))):Prop where
 hF:FF≤F
 hS:Shape S n m
 hn:1≤n∧n≤5
 hm:m≤3
 len:p0.length=n
 hj:0≤jp∧jp≤400000
 hb:1≤far∧far≤16
 hU:Inv S (LL S far jp) n m U
 hst:∀p q d,both (LL S far jp) p q d→∀x,isB (Dt (gf U q)) (Dt (gf U p)) d x→x=Dt (gf U q)
theorem Ye (C:Ctx F S U far jp n m p0) {D:Pl→Pl→Int→Prop} {c:Bool} {W:WW} (h:PI S U n m W0 D c W) {p q:Pl} {d:Int} (hl:LL S far jp p q d) :
  ∃c' W',Br F (p.1:Int) (p.2:Int) (q.1:Int) (q.2:Int) d W c=some (W',c')∧PI S U n m W0 (fun p' q' d'=>D p' q' d'∨(p'=p∧q'=q∧d'=d)) c' W':=by
 obtain ⟨p1,p2,q1,q2,hpq⟩:=Ls C.hS hl
 have hd:=A1t C.hS C.hj C.hb.2 hl
 obtain ⟨x,y,c',e,hx,hy,g1,g2⟩:=A4n C.hF h.sh (p:=p) (q:=q) ⟨p1,p2⟩ ⟨q1,q2⟩ d hd c
 exact ⟨c',_,e,h.leave C.hst ⟨p1,p2⟩ ⟨q1,q2⟩ hpq hl (fun a b=>by obtain ⟨w,_,hw⟩:=Mb C.hF a b d hd;exact ⟨w,hw⟩) hx hy g1 g2⟩
theorem A90 (C:Ctx F S U far jp n m p0) (ha:a<n) (hi:i<m) (hne:ne (S.getD a []) i=true) {k13:Bool→WW→Int→Option Bool} {D:Pl→Pl→Int→Prop} {c:Bool} {W:WW} (h:PI S U n m W0 D c W) :
  ∀(t N k:Nat),k+t=n→t<N→1≤k→(∀k',1≤k'→k'<k→ne (S.getD ((a+k')%n) []) i=false)→∃c' W',PI S U n m W0 (fun p q d=>D p q d∨(LO S far jp p q d∧p=(a,i))) c' W' ∧
   Bx F p0 jp far S (a:Int) (i:Int) k13 c W N (k:Int)=Bf (i:Int) k13 c' W':=by
 have hSl:=C.hS.1
 have hp0:=C.len
 have hn:=C.hn
 have hm:=C.hm
 have hj:=C.hj
 have hb:=C.hb
 have none16:∀k:Nat,(∀k',1≤k'→k'<k→ne (S.getD ((a+k')%n) []) i=false)→(k=n∨far<(k:Int))→PI S U n m W0 (fun p q d=>D p q d∨(LO S far jp p q d∧p=(a,i))) c W:=by
  intro k hk hc
  refine h.mono ?_
  rintro p q d (h1|⟨⟨g1,g2,g3,k2,g4,g5,g6⟩,rfl⟩)
  ·exact h1
  ·exfalso
   have:=hk k2 g4.1 (by have:=g4.2.1;have:=g4.2.2.1;omega)
   have h2:=g4.2.2.2.1
   rw [hSl] at h2
   rw [this] at h2
   cases h2
 intro t
 induction t with
 | zero =>
  intro N k hk hN h1 hq
  obtain ⟨N,rfl⟩:∃N',N=N'+1:=⟨N-1,by omega⟩
  refine ⟨c,W,none16 k hq (.inl (by omega)),?_⟩
  show C9 F p0 jp far S (a:Int) (i:Int) k13 c W (Bx F p0 jp far S (a:Int) (i:Int) k13 c W N) (k:Int)=_
  unfold C9
  exact B9 (decide_eq_false (by omega))
 | succ t ih =>
  intro N k hk hN h1 hq
  obtain ⟨N,rfl⟩:∃N',N=N'+1:=⟨N-1,by omega⟩
  have step:Bx F p0 jp far S (a:Int) (i:Int) k13 c W (N+1) (k:Int)=C9 F p0 jp far S (a:Int) (i:Int) k13 c W (Bx F p0 jp far S (a:Int) (i:Int) k13 c W N) (k:Int):=rfl
  rw [step]
  unfold C9
  have hb1:(a+k)%n<n:=Nat.mod_lt _ (by omega)
  have hrow:=C.hS.row hb1
  rw [Bs (decide_eq_true (by omega)),ckb (by omega),B0x,hp0,A5o (by omega),Ni (by omega),H4 (by omega),A05]
  cases hc:ne (S.getD ((a+k)%n) []) i with
  | true =>
   rw [cond_true]
   by_cases hk2:(k:Int)≤far
   ·have hf:fst S far a i k:=⟨h1,hk2,by omega,by rw [hSl];exact hc,fun k' q1 q2=>by rw [hSl];exact hq k' q1 q2⟩
    have hl:LL S far jp (a,i) ((a+k)%n,i) (jp*(k:Int)):=.inr ⟨by rw [hSl];exact ha,hne,rfl,k,hf,by rw [hSl],rfl⟩
    have hd:=A1t C.hS C.hj C.hb.2 hl
    obtain ⟨c',W',e,g⟩:=Ye C h hl
    refine ⟨c',W',g.mono ?_,?_⟩
    ·rintro p q d (h1|⟨⟨g1,g2,g3,k2,g4,g5,g6⟩,rfl⟩)
     ·exact .inl h1
     ·have:=Zr g4 hf
      subst this
      refine .inr ⟨rfl,Prod.ext (by rw [g5,hSl]) g3.symm,g6⟩
    ·have e':Br F (a:Int) (i:Int) (((a+k)%n:Nat):Int) (i:Int) (jp*(k:Int)) W c=some (W',c'):=e
     rw [Bs (decide_eq_true hk2),ckb (by omega),A5o (by omega),ckb (by omega),e',sb]
   ·refine ⟨c,W,none16 k hq (.inr (by omega)),?_⟩
    exact B9 (decide_eq_false hk2)
  | false =>
   rw [cond_false,ckb (by omega),F9]
   refine ih N (k+1) (by omega) (by omega) (by omega) fun k' q1 q2=>?_
   by_cases e:k'=k
   ·rw [e];exact hc
   ·exact hq k' q1 (by omega)
theorem A91 (C:Ctx F S U far jp n m p0) (ha:a<n) (hi:i<m) (hne:ne (S.getD a []) i=true) {k13:Bool→WW→Int→Option Bool} {D:Pl→Pl→Int→Prop} {c:Bool} {W:WW} (h:PI S U n m W0 D c W) :
  ∀(t N j:Nat),j+t=m→t<N→i<j→(∀x,i<x→x<j→ne (S.getD a []) x=false)→∃c' W',PI S U n m W0 (fun p q d=>D p q d∨(LL S far jp p q d∧p=(a,i))) c' W' ∧
   By F p0 (m:Int) jp far S (a:Int) c W (i:Int) k13 N (j:Int)=Bf (i:Int) k13 c' W':=by
 have hSl:=C.hS.1
 have hp0:=C.len
 have hn:=C.hn
 have hm:=C.hm
 have hj:=C.hj
 have hb:=C.hb
 have hF':=C.hF
 unfold FF at hF'
 have hrow:=C.hS.row ha
 have k15:∀{c:Bool} {W:WW} {D':Pl→Pl→Int→Prop},PI S U n m W0 D' c W→(∀p q d,D p q d∨(LA S far jp p q d∧p=(a,i))→D' p q d)→∃c' W',PI S U n m W0 (fun p q d=>D p q d∨(LL S far jp p q d∧p=(a,i))) c' W' ∧
   D6 F p0 jp far S (a:Int) (i:Int) k13 c W=Bf (i:Int) k13 c' W':=by
  intro c W D' hP hD
  obtain ⟨c',W',g1,g2⟩:=A90 C ha hi hne (k13:=k13) hP (n-1) F 1 (by omega) (by omega) (by omega) (fun k' q1 q2=>by omega)
  refine ⟨c',W',g1.mono ?_,g2⟩
  rintro p q d (h1|⟨h1|h1,h2⟩)
  ·exact .inl (hD p q d (.inl h1))
  ·exact .inl (hD p q d (.inr ⟨h1,h2⟩))
  ·exact .inr ⟨h1,h2⟩
 have none17:∀j:Nat,(∀x,i<x→x<j→ne (S.getD a []) x=false)→(j=m∨far<(j:Int)-i)→∀p q d,D p q d∨(LA S far jp p q d∧p=(a,i))→D p q d:=by
  rintro j hq hc p q d (h1|⟨⟨g1,g2,g3,g4⟩,rfl⟩)
  ·exact h1
  ·exfalso
   obtain ⟨l1,l2,l3,l4,l5,l6⟩:=g3
   rw [hrow] at l2
   have:=hq q.2 l1 (by simp only at l6;omega)
   rw [this] at l4
   cases l4
 intro t
 induction t with
 | zero =>
  intro N j hjt hN hij hq
  obtain ⟨N,rfl⟩:∃N',N=N'+1:=⟨N-1,by omega⟩
  obtain ⟨c',W',g1,g2⟩:=k15 h (none17 j hq (.inl (by omega)))
  refine ⟨c',W',g1,Eq.trans ?_ g2⟩
  show Ca F p0 (m:Int) jp far S (a:Int) c W (i:Int) k13 (By F p0 (m:Int) jp far S (a:Int) c W (i:Int) k13 N) (j:Int)=_
  unfold Ca
  exact B9 (decide_eq_false (by omega))
 | succ t ih =>
  intro N j hjt hN hij hq
  obtain ⟨N,rfl⟩:∃N',N=N'+1:=⟨N-1,by omega⟩
  have step:By F p0 (m:Int) jp far S (a:Int) c W (i:Int) k13 (N+1) (j:Int)=Ca F p0 (m:Int) jp far S (a:Int) c W (i:Int) k13 (By F p0 (m:Int) jp far S (a:Int) c W (i:Int) k13 N) (j:Int):=rfl
  rw [step]
  unfold Ca
  rw [Bs (decide_eq_true (by omega)),Ni (by omega),H4 (by omega),A05]
  cases hc:ne (S.getD a []) j with
  | true =>
   rw [cond_true,ckb (by omega)]
   by_cases hk2:(j:Int)-(i:Int)≤far
   ·have hlk:lk (S.getD a []) far i j:=⟨hij,by omega,hne,hc,hq,hk2⟩
    have hl:LL S far jp (a,i) (a,j) (jp*((j:Int)-(i:Int))):=.inl ⟨rfl,by rw [hSl];exact ha,hlk,rfl⟩
    have hd:=A1t C.hS C.hj C.hb.2 hl
    obtain ⟨c',W',e,g⟩:=Ye C h hl
    obtain ⟨c2,W2,g1,g2⟩:=k15 g (by
     rintro p q d (h1|⟨⟨g1,g2,g3,g4⟩,rfl⟩)
     ·exact .inl h1
     ·have e2:q.2=j:=Ua g3 hlk
      exact .inr ⟨rfl,Prod.ext g1.symm e2,by rw [g4,e2]⟩)
    refine ⟨c2,W2,g1,?_⟩
    have e':Br F (a:Int) (i:Int) (a:Int) (j:Int) (jp*((j:Int)-(i:Int))) W c=some (W',c'):=e
    rw [Bs (decide_eq_true hk2),ckb (by omega),ckb (by omega),e',sb]
    exact g2
   ·obtain ⟨c',W',g1,g2⟩:=k15 h (none17 j hq (.inr (by omega)))
    exact ⟨c',W',g1,Eq.trans (B9 (decide_eq_false hk2)) g2⟩
  | false =>
   rw [cond_false,ckb (by omega),F9]
   refine ih N (j+1) (by omega) (by omega) (by omega) fun x q1 q2=>?_
   by_cases e:x=j
   ·rw [e];exact hc
   ·exact hq x q1 (by omega)
def DA (S:Rays) (far jp:Int) (a i:Nat):Pl→Pl→Int→Prop:=fun p q d=>LL S far jp p q d∧(p.1<a∨(p.1=a∧p.2<i))
theorem B03 {p q:Pl} {d:Int} (h:LL S far jp p q d):ne (S.getD p.1 []) p.2=true:=by
 rcases h with ⟨h1,h2,h3,h4⟩|⟨h1,h2,h3,k,h4,h5,h6⟩
 ·exact h3.2.2.1
 ·exact h2
theorem A8z (C:Ctx F S U far jp n m p0) (ha:a<n) {k11:Bool→WW→Int→Option Bool} :
  ∀(t N i:Nat) (c:Bool) (W:WW),i+t=m→t<N→PI S U n m W0 (DA S far jp a i) c W→∃c' W',PI S U n m W0 (DA S far jp a m) c' W' ∧
   Bj F p0 (m:Int) jp far S (a:Int) k11 N c W (i:Int)=D5 (a:Int) k11 c' W':=by
 have hSl:=C.hS.1
 have hm:=C.hm
 have hF':=C.hF
 unfold FF at hF'
 have hrow:=C.hS.row ha
 intro t
 induction t with
 | zero =>
  intro N i c W hi hN h
  obtain ⟨N,rfl⟩:∃N',N=N'+1:=⟨N-1,by omega⟩
  refine ⟨c,W,h.mono (fun p q d hd=>⟨hd.1,by have:=hd.2;omega⟩),?_⟩
  show C8 F p0 (m:Int) jp far S (a:Int) k11 (Bj F p0 (m:Int) jp far S (a:Int) k11 N) c W (i:Int)=_
  unfold C8
  exact B9 (decide_eq_false (by omega))
 | succ t ih =>
  intro N i c W hi hN h
  obtain ⟨N,rfl⟩:∃N',N=N'+1:=⟨N-1,by omega⟩
  have step:Bj F p0 (m:Int) jp far S (a:Int) k11 (N+1) c W (i:Int)=C8 F p0 (m:Int) jp far S (a:Int) k11 (Bj F p0 (m:Int) jp far S (a:Int) k11 N) c W (i:Int):=rfl
  rw [step]
  unfold C8
  have k14:∀{c:Bool} {W:WW},PI S U n m W0 (DA S far jp a (i+1)) c W→∃c' W',PI S U n m W0 (DA S far jp a m) c' W'∧Bf (i:Int) (Bj F p0 (m:Int) jp far S (a:Int) k11 N) c W=D5 (a:Int) k11 c' W':=by
   intro c W hP
   unfold Bf
   rw [ckb (by omega),F9]
   exact ih N (i+1) c W (by omega) (by omega) hP
  rw [Bs (decide_eq_true (by omega)),Ni (by omega),H4 (by omega)]
  by_cases h0:(gt (S.getD a []) i).length=0
  ·have e0:((((gt (S.getD a []) i).length:Nat):Int)==0)=true:=by rw [h0];rfl
   rw [Bs e0]
   refine k14 (h.mono ?_)
   rintro p q d ⟨h1,h2⟩
   refine ⟨h1,?_⟩
   by_cases e:p.1=a∧p.2=i
   ·exfalso
    have:=B03 h1
    rw [e.1,e.2] at this
    unfold ne at this
    have:=of_decide_eq_true this
    omega
   ·omega
  ·have e0:((((gt (S.getD a []) i).length:Nat):Int)==0)=false:=by simp only [beq_eq_false_iff_ne,ne_eq];omega
   rw [B9 e0,ckb (by omega),F9]
   have hne:ne (S.getD a []) i=true:=by unfold ne;exact decide_eq_true (by omega)
   obtain ⟨c',W',g1,g2⟩:=A91 C ha (by omega) hne (k13:=Bj F p0 (m:Int) jp far S (a:Int) k11 N) h (m-(i+1)) F (i+1) (by omega) (by omega) (by omega) (fun x q1 q2=>by omega)
   rw [g2]
   refine k14 (g1.mono ?_)
   rintro p q d ⟨h1,h2⟩
   by_cases e:p=(a,i)
   ·exact .inr ⟨h1,e⟩
   ·refine .inl ⟨h1,?_⟩
    by_cases e2:p.1=a∧p.2=i
    ·exact absurd (Prod.ext e2.1 e2.2) e
    ·omega
theorem A4q (C:Ctx F S U far jp n m p0) {k9:WW→Bool→Option Bool} :
  ∀(t N a:Nat) (c:Bool) (W:WW),a+t=n→t<N→PI S U n m W0 (DA S far jp a 0) c W→∃c' W',PI S U n m W0 (DA S far jp n 0) c' W' ∧
   Bn F p0 (m:Int) jp far S k9 N c W (a:Int)=k9 W' c':=by
 have hSl:=C.hS.1
 have hn:=C.hn
 have hm:=C.hm
 have hF':=C.hF
 unfold FF at hF'
 intro t
 induction t with
 | zero =>
  intro N a c W hi hN h
  obtain ⟨N,rfl⟩:∃N',N=N'+1:=⟨N-1,by omega⟩
  refine ⟨c,W,h.mono (fun p q d hd=>⟨hd.1,by have:=hd.2;omega⟩),?_⟩
  show C7 F p0 (m:Int) jp far S k9 (Bn F p0 (m:Int) jp far S k9 N) c W (a:Int)=_
  unfold C7
  exact B9 (decide_eq_false (by omega))
 | succ t ih =>
  intro N a c W hi hN h
  obtain ⟨N,rfl⟩:∃N',N=N'+1:=⟨N-1,by omega⟩
  have step:Bn F p0 (m:Int) jp far S k9 (N+1) c W (a:Int)=C7 F p0 (m:Int) jp far S k9 (Bn F p0 (m:Int) jp far S k9 N) c W (a:Int):=rfl
  rw [step]
  unfold C7
  rw [Bs (decide_eq_true (by omega))]
  obtain ⟨c',W',g1,g2⟩:=A8z C (a:=a) (by omega) (k11:=Bn F p0 (m:Int) jp far S k9 N) m F 0 c W (by omega) (by omega) h
  rw [show ((0:Nat):Int)=0 from rfl] at g2
  rw [g2]
  unfold D5
  rw [ckb (by omega),F9]
  refine ih N (a+1) c' W' (by omega) (by omega) (g1.mono ?_)
  rintro p q d ⟨h1,h2⟩
  refine ⟨h1,?_⟩
  have:=(Ls C.hS h1).2.1
  omega
theorem A75 (C:Ctx F S U far jp n m p0) (p4:Int) (y:Rays×Int):∀(M N:Nat) (W:WW),cW W≤M→M+1<N→PI S U n m W (fun _ _ _=>False) false W→∃W',ShW W' n m∧(∀p:Pl,p.1<n→p.2<m→wg W' p=Dt (gf U p)) ∧
  Bt F p0 p4 (m:Int) jp far S y N W true=Dp F p0 p4 (m:Int) jp far S y W':=by
 have hn:=C.hn
 have hF':=C.hF
 unfold FF at hF'
 intro M
 induction M with
 | zero =>
  intro N W hM hN h
  obtain ⟨N,rfl⟩:∃N',N=N'+2:=⟨N-2,by omega⟩
  show ∃W',ShW W' n m∧_∧Co F p0 p4 (m:Int) jp far S y (Bt F p0 p4 (m:Int) jp far S y (N+1)) W true=_
  unfold Co
  rw [cond_true]
  obtain ⟨c',W',g1,g2⟩:=A4q C (k9:=Bt F p0 p4 (m:Int) jp far S y (N+1)) n F 0 false W (by omega) (by omega) (h.mono (fun p q d hd=>by have:=hd.2;omega))
  rw [show ((0:Nat):Int)=0 from rfl] at g2
  rw [g2]
  cases c' with
  | true=>have:=g1.less rfl;omega
  | false =>
   obtain ⟨e,hs⟩:=g1.fresh rfl
   subst e
   refine ⟨W',g1.sh,fun p p1 p2=>V0 C.hS C.hU g1.sh g1.lo g1.hi (fun p q d hl=>hs p q d ⟨hl,.inl (Ls C.hS hl).1⟩) p p1 p2,rfl⟩
 | succ M ih =>
  intro N W hM hN h
  obtain ⟨N,rfl⟩:∃N',N=N'+2:=⟨N-2,by omega⟩
  show ∃W',ShW W' n m∧_∧Co F p0 p4 (m:Int) jp far S y (Bt F p0 p4 (m:Int) jp far S y (N+1)) W true=_
  unfold Co
  rw [cond_true]
  obtain ⟨c',W',g1,g2⟩:=A4q C (k9:=Bt F p0 p4 (m:Int) jp far S y (N+1)) n F 0 false W (by omega) (by omega) (h.mono (fun p q d hd=>by have:=hd.2;omega))
  rw [show ((0:Nat):Int)=0 from rfl] at g2
  rw [g2]
  cases c' with
  | true =>
   have:=g1.less rfl
   exact ih (N+1) W' (by omega) (by omega) ⟨g1.sh,g1.lo,g1.hi,Nat.le_refl _,fun _=>⟨rfl,fun _ _ _ h=>h.elim⟩,fun h=>by cases h⟩
  | false =>
   obtain ⟨e,hs⟩:=g1.fresh rfl
   subst e
   refine ⟨W',g1.sh,fun p p1 p2=>V0 C.hS C.hU g1.sh g1.lo g1.hi (fun p q d hl=>hs p q d ⟨hl,.inl (Ls C.hS hl).1⟩) p p1 p2,rfl⟩
end
end Go.Proofs.Ytbhjgebjojdohaa
namespace Go.Proofs.Ytbhjgebjojdohaa
open Go Go.RowKit Go.Eng
set_option maxRecDepth 10000
set_option linter.unusedVariables false
set_option linter.unusedSimpArgs false
section
variable {F:Nat} {n m:Nat} {p0:List (List (List Int))}
structure RowsIn (n m a:Nat) (l:Rays):Prop where
 len:l.length=n
 row:∀b<a,(l.getD b []).length=m∧∀s∈l.getD b [],okR 79 s
theorem RowsIn.set {a:Nat} {l:Rays} (h:RowsIn n m a l) (ha:a<n) {y:Da} (h1:y.length=m) (h2:∀s∈y,okR 79 s):RowsIn n m (a+1) (l.set a y):=by
 refine ⟨by rw [List.length_set];exact h.len,fun b hb=>?_⟩
 rw [Hv (by rw [h.len];exact ha)]
 split
 ·exact ⟨h1,h2⟩
 ·exact h.row b (by omega)
theorem RowsIn.shape {l:Rays} (h:RowsIn n m n l):Shape l n m:=by
 refine ⟨h.len,fun r hr=>?_⟩
 obtain ⟨i,hi,rfl⟩:=List.mem_iff_getElem.1 hr
 have:=(h.row i (by rw [←h.len];exact hi)).1
 rwa [List.getD_eq_getElem?_getD,List.getElem?_eq_getElem hi] at this
theorem RowsIn.ok {l:Rays} (h:RowsIn n m n l) (a i:Nat):okR 79 (gt (l.getD a []) i):=by
 by_cases ha:a<n
 ·by_cases hi:i<m
  ·have h1:=h.row a ha
   have:gt (l.getD a []) i∈l.getD a []:=by
    unfold gt
    exact Hu (by rw [h1.1];exact hi)
   exact h1.2 _ this
  ·have e:gt (l.getD a []) i=[]:=by
    unfold gt
    rw [List.getD_eq_getElem?_getD,List.getElem?_eq_none (by rw [(h.row a ha).1];omega)];rfl
   rw [e];exact B0m
 ·have e1:l.getD a []=[]:=by rw [List.getD_eq_getElem?_getD,List.getElem?_eq_none (by rw [h.len];omega)];rfl
  rw [e1];exact B0m
theorem RowsIn.good {l:Rays} (h:RowsIn n m n l):∀r∈l,∀s∈r,s.length≤256∧Good s:=by
 intro r hr s hs
 obtain ⟨a,rfl⟩:=A99 hr
 obtain ⟨i,rfl⟩:=A98 hs
 exact A9h (h.ok a i)
theorem A69 {a:Nat} (hm:m≤7) (h0:∀r∈p0,∀x∈r,∀b∈x,0≤b∧b≤255) (ha:a<p0.length) (X:Rays) (k21:Rays→Int→Option Bool) :
  ∀(t N i:Nat) (l:List (List Int)),i+t=m→t<N→l.length=i→(∀x∈l,∀b∈x,0≤b∧b≤255)→∃l',l'.length=m∧(∀x∈l',∀b∈x,0≤b∧b≤255)∧Bq F p0 (m:Int) X (a:Int) k21 N l (i:Int)=D7 F X (a:Int) k21 l':=by
 intro t
 induction t with
 | zero =>
  intro N i l hi hN hli hq
  obtain ⟨N,rfl⟩:∃N',N=N'+1:=⟨N-1,by omega⟩
  refine ⟨l,by omega,hq,?_⟩
  show Cf F p0 (m:Int) X (a:Int) k21 (Bq F p0 (m:Int) X (a:Int) k21 N) l (i:Int)=_
  unfold Cf
  exact B9 (decide_eq_false (by omega))
 | succ t ih =>
  intro N i l hi hN hli hq
  obtain ⟨N,rfl⟩:∃N',N=N'+1:=⟨N-1,by omega⟩
  have step:Bq F p0 (m:Int) X (a:Int) k21 (N+1) l (i:Int)=Cf F p0 (m:Int) X (a:Int) k21 (Bq F p0 (m:Int) X (a:Int) k21 N) l (i:Int):=rfl
  rw [step]
  unfold Cf
  have hK:∀x:List Int,(∀b∈x,0≤b∧b≤255)→∃l',l'.length=m∧(∀x∈l',∀b∈x,0≤b∧b≤255)∧D8 l (i:Int) (Bq F p0 (m:Int) X (a:Int) k21 N) x=D7 F X (a:Int) k21 l':=by
   intro x hx
   unfold D8
   rw [K0 (by simp;omega),ckb (by omega),F9]
   refine ih N (i+1) (l++[x]) (by omega) (by omega) (by simp [hli]) fun u hu=>?_
   rw [List.mem_append,List.mem_singleton] at hu
   rcases hu with hu|rfl
   ·exact hq u hu
   ·exact hx
  rw [Bs (decide_eq_true (by omega)),Jw [] (by omega)]
  have hr:∀x∈p0.getD a [],∀b∈x,0≤b∧b≤255:=h0 _ (Hu ha)
  by_cases hc:i<(p0.getD a []).length
  ·rw [Bs (decide_eq_true (by omega)),Jw [] (by omega),Jw [] (by omega)]
   exact hK _ (hr _ (Hu hc))
  ·rw [B9 (decide_eq_false (by omega))]
   exact hK [] (fun b hb=>by cases hb)
theorem A94 (hF:FF≤F) (h0:∀r∈p0,∀x∈r,∀b∈x,0≤b∧b≤255) (hp:p0.length=n) (hn:n≤5) (hm:m≤3) (p4 x9 x12:Int) :
  ∀(t N a:Nat) (X:Rays),a+t=n→t<N→RowsIn n m a X→∃X',RowsIn n m n X'∧Bp F p0 p4 (m:Int) x9 x12 N X (a:Int)=Ek F p0 p4 (m:Int) x9 x12 X':=by
 have hF':=hF
 unfold FF at hF'
 intro t
 induction t with
 | zero =>
  intro N a X ha hN h
  obtain ⟨N,rfl⟩:∃N',N=N'+1:=⟨N-1,by omega⟩
  refine ⟨X,⟨h.len,fun b hb=>h.row b (by omega)⟩,?_⟩
  show Ce F p0 p4 (m:Int) x9 x12 (Bp F p0 p4 (m:Int) x9 x12 N) X (a:Int)=_
  unfold Ce
  exact B9 (decide_eq_false (by omega))
 | succ t ih =>
  intro N a X ha hN h
  obtain ⟨N,rfl⟩:∃N',N=N'+1:=⟨N-1,by omega⟩
  have step:Bp F p0 p4 (m:Int) x9 x12 (N+1) X (a:Int)=Ce F p0 p4 (m:Int) x9 x12 (Bp F p0 p4 (m:Int) x9 x12 N) X (a:Int):=rfl
  rw [step]
  unfold Ce
  rw [Bs (decide_eq_true (by omega))]
  obtain ⟨l1,g1,g2,g3⟩:=A69 (F:=F) (m:=m) (by omega) h0 (a:=a) (by omega) X (Bp F p0 p4 (m:Int) x9 x12 N) m F 0 [] (by omega) (by omega) rfl (fun x hx=>by cases hx)
  rw [show ((0:Nat):Int)=0 from rfl] at g3
  rw [g3]
  unfold D7
  obtain ⟨y,y1,y2,y3⟩:=A6p hF l1 g2 (by omega)
  have hl:=h.len
  rw [y1,sb,Jw [] (by omega),Yz (by omega)]
  unfold Fe
  rw [ckb (by omega),F9]
  exact ih N (a+1) _ (by omega) (by omega) (h.set (by omega) (by omega) y3)
structure WIn (S:Rays) (n m a:Nat) (W:WW):Prop where
 len:W.length=n
 row:∀b<a,(W.getD b []).length=m∧∀i<m,(W.getD b []).getD i default=Dt (gt (S.getD b []) i)
variable {S:Rays}
theorem A93 (hF:FF≤F) (hS:Shape S n m) (hn:n≤5) (hm:m≤3) (hok:∀a i,okR 79 (gt (S.getD a []) i)) {a:Nat} (ha:a<n) (k18:WW→Int→Option Bool) :
  ∀(t N i:Nat) (W:WW),i+t=m→t<N→WIn S n m a W→(W.getD a []).length=m→(∀j<i,(W.getD a []).getD j default=Dt (gt (S.getD a []) j))→∃W',WIn S n m (a+1) W'∧Bz F (m:Int) S (a:Int) k18 N W (i:Int)=E6 (a:Int) k18 W':=by
 intro t
 induction t with
 | zero =>
  intro N i W hi hN h h1 h2
  obtain ⟨N,rfl⟩:∃N',N=N'+1:=⟨N-1,by omega⟩
  refine ⟨W,⟨h.len,fun b hb=>?_⟩,?_⟩
  ·by_cases e:b=a
   ·rw [e];exact ⟨h1,fun j hj=>h2 j (by omega)⟩
   ·exact h.row b (by omega)
  ·show Cc F (m:Int) S (a:Int) k18 (Bz F (m:Int) S (a:Int) k18 N) W (i:Int)=_
   unfold Cc
   exact B9 (decide_eq_false (by omega))
 | succ t ih =>
  intro N i W hi hN h h1 h2
  obtain ⟨N,rfl⟩:∃N',N=N'+1:=⟨N-1,by omega⟩
  have step:Bz F (m:Int) S (a:Int) k18 (N+1) W (i:Int)=Cc F (m:Int) S (a:Int) k18 (Bz F (m:Int) S (a:Int) k18 N) W (i:Int):=rfl
  rw [step]
  unfold Cc
  have hl:=h.len
  have hSl:=hS.1
  have hrow:=hS.row ha
  have hk:=hok a i
  have hd:Gf F (gt (S.getD a []) i)=some (Dt (gt (S.getD a []) i)):=A0v hF _ (by have:=X7 hk (by omega);omega) (fun s hs=>by have:=hk.2 s hs;have:=hk.1.2 s hs;omega)
  rw [Bs (decide_eq_true (by omega)),Jw [] (by omega),Ni (by omega),H4 (by omega),hd,sb,Jw default (by omega),Yz (by omega),Yz (by omega),ckb (by omega),F9]
  refine ih N (i+1) _ (by omega) (by omega) ⟨by rw [List.length_set];exact hl,fun b hb=>?_⟩ ?_ fun j hj=>?_
  ·rw [Hv (by omega),if_neg (by omega)];exact h.row b hb
  ·rw [Hv (by omega),if_pos rfl,List.length_set];exact h1
  ·rw [Hv (by omega),if_pos rfl,Hv (by omega)]
   split
   ·rename_i e;rw [e]
   ·exact h2 j (by omega)
theorem A92 (hF:FF≤F) (hS:Shape S n m) (hn:n≤5) (hm:m≤3) (hok:∀a i,okR 79 (gt (S.getD a []) i)) (p4 x9 x12:Int) (y:Rays×Int) :
  ∀(t N a:Nat) (W:WW),a+t=n→t<N→WIn S n m a W→∃W',WIn S n m n W'∧Bo F p0 p4 (m:Int) x9 x12 S y N W (a:Int)=El F p0 p4 (m:Int) x9 x12 S y W':=by
 have hF':=hF
 unfold FF at hF'
 have hSl:=hS.1
 intro t
 induction t with
 | zero =>
  intro N a W ha hN h
  obtain ⟨N,rfl⟩:∃N',N=N'+1:=⟨N-1,by omega⟩
  refine ⟨W,⟨h.len,fun b hb=>h.row b (by omega)⟩,?_⟩
  show Cb F p0 p4 (m:Int) x9 x12 S y (Bo F p0 p4 (m:Int) x9 x12 S y N) W (a:Int)=_
  unfold Cb
  exact B9 (decide_eq_false (by omega))
 | succ t ih =>
  intro N a W ha hN h
  obtain ⟨N,rfl⟩:∃N',N=N'+1:=⟨N-1,by omega⟩
  have step:Bo F p0 p4 (m:Int) x9 x12 S y (N+1) W (a:Int)=Cb F p0 p4 (m:Int) x9 x12 S y (Bo F p0 p4 (m:Int) x9 x12 S y N) W (a:Int):=rfl
  rw [step]
  unfold Cb
  have hl:=h.len
  have hmk:mkI 80 (m:Int) (default:V80)=some (List.replicate m default):=by
   unfold mkI
   rw [if_pos (by omega),Int.toNat_natCast]
  rw [Bs (decide_eq_true (by omega)),hmk,sb,Jw [] (by omega),Yz (by omega)]
  obtain ⟨W',g1,g2⟩:=A93 hF hS hn hm hok (a:=a) (by omega) (Bo F p0 p4 (m:Int) x9 x12 S y N) m F 0 (W.set a (List.replicate m default)) (by omega) (by omega) ⟨by rw [List.length_set];exact hl,fun b hb=>by rw [Hv (by omega),if_neg (by omega)];exact h.row b hb⟩ (by rw [Hv (by omega),if_pos rfl,List.length_replicate]) (fun j hj=>by omega)
  rw [show ((0:Nat):Int)=0 from rfl] at g2
  rw [g2]
  unfold E6
  rw [ckb (by omega),F9]
  exact ih N (a+1) W' (by omega) (by omega) g1
theorem WIn.sh {W:WW} (h:WIn S n m n W):ShW W n m:=by
 refine ⟨h.len,fun r hr=>?_⟩
 obtain ⟨i,hi,rfl⟩:=List.mem_iff_getElem.1 hr
 have:=(h.row i (by rw [←h.len];exact hi)).1
 rwa [List.getD_eq_getElem?_getD,List.getElem?_eq_getElem hi] at this
theorem WIn.wg {W:WW} (h:WIn S n m n W) {p:Pl} (h1:p.1<n) (h2:p.2<m):wg W p=Dt (gf S p):=(h.row p.1 h1).2 p.2 h2
end
end Go.Proofs.Ytbhjgebjojdohaa
namespace Go.Proofs.Ytbhjgebjojdohaa
open Go Go.RowKit Go.Eng
set_option maxRecDepth 10000
set_option linter.unusedVariables false
set_option linter.unusedSimpArgs false
theorem X0 {x n:Nat} (h:x<2*n):x%n=if x<n then x else x-n:=by
 split
 ·exact Nat.mod_eq_of_lt (by omega)
 ·rw [Nat.mod_eq_sub_mod (by omega),Nat.mod_eq_of_lt (by omega)]
structure Rot (n m s:Nat) (S T:Rays):Prop where
 hS:Shape S n m
 hT:Shape T n m
 hs:s≤n
 row:∀a<n,T.getD a []=S.getD ((a+s)%n) []
theorem A5q {n m s:Nat} {S:Rays} (hS:Shape S n m) (hs:s<n):Rot n m s S (S.drop s++S.take s):=by
 have hl:=hS.1
 refine ⟨hS,⟨by rw [List.length_append,List.length_drop,List.length_take];omega,fun r hr=>?_⟩,by omega,fun a ha=>?_⟩
 ·rw [List.mem_append] at hr
  rcases hr with hr|hr
  ·exact hS.2 r (List.mem_of_mem_drop hr)
  ·exact hS.2 r (List.mem_of_mem_take hr)
 ·rw [X0 (by omega),List.getD_eq_getElem?_getD,List.getD_eq_getElem?_getD,List.getElem?_append,List.length_drop]
  split
  ·rw [List.getElem?_drop,if_pos (by omega),Nat.add_comm]
  ·rw [List.getElem?_take,if_pos (by omega),if_neg (by omega)]
   congr 2
   omega
theorem Rot.back {n m s:Nat} {S T:Rays} (h:Rot n m s S T):Rot n m (n-s) T S:=by
 have hs:=h.hs
 refine ⟨h.hT,h.hS,by omega,fun a ha=>?_⟩
 have hb:(a+(n-s))%n<n:=Nat.mod_lt _ (by omega)
 rw [h.row _ hb]
 congr 1
 rw [X0 (x:=a+(n-s)) (by omega),X0 (by split<;>omega)]
 split<;>split<;>omega
theorem Rot.link {n m s:Nat} {S T:Rays} (h:Rot n m s S T) {br jp:Int} {p q:Pl} {d:Int} (hl:LL T br jp p q d):LL S br jp ((p.1+s)%n,p.2) ((q.1+s)%n,q.2) d:=by
 have hs:=h.hs
 have hSl:=h.hS.1
 have hTl:=h.hT.1
 obtain ⟨p1,p2,q1,q2,_⟩:=Ls h.hT hl
 have hb:(p.1+s)%n<n:=Nat.mod_lt _ (by omega)
 rcases hl with ⟨h1,h2,h3,h4⟩|⟨h1,h2,h3,k,h4,h5,h6⟩
 ·rw [h.row _ p1] at h3
  exact .inl ⟨by simp only;rw [h1],by simp only;omega,h3,h4⟩
 ·have hk:∀k,k<n→(T.getD ((p.1+k)%n) [])=S.getD (((p.1+s)%n+k)%n) []:=by
   intro k hk
   have hc:(p.1+k)%n<n:=Nat.mod_lt _ (by omega)
   rw [h.row _ hc]
   congr 1
   rw [Nat.mod_add_mod,Nat.mod_add_mod,Nat.add_right_comm]
  rw [hTl] at h5
  rw [h.row _ p1] at h2
  obtain ⟨f1,f2,f3,f4,f5⟩:=h4
  rw [hTl] at f3 f4 f5
  refine .inr ⟨by simp only;omega,h2,h3,k,⟨f1,f2,by omega,?_,fun k' g1 g2=>?_⟩,?_,h6⟩
  ·rw [hSl];simp only;rw [←hk k (by omega)];exact f4
  ·rw [hSl];simp only;rw [←hk k' (by omega)];exact f5 k' g1 g2
  ·simp only
   rw [h5,hSl,Nat.mod_add_mod,Nat.mod_add_mod,Nat.add_right_comm]
theorem A5r {n m s:Nat} {S T U Y:Rays} {br jp:Int} (h:Rot n m s S T) (hU:Inv S (LL S br jp) n m U) (hUs:Stable (LL S br jp) (gf U)) (hY:Inv T (LL T br jp) n m Y) (hYs:Stable (LL T br jp) (gf Y)) :
  ∀a<n,Y.getD a []=U.getD ((a+s)%n) []:=by
 have hs:=h.hs
 have tr:∀{S T:Rays} {s:Nat},Rot n m s S T→∀f:Fam,Stable (LL S br jp) f→Stable (LL T br jp) (fun p=>if p.1<n then f ((p.1+s)%n,p.2) else []):=by
  intro S T s h f hf
  have key:∀p q d,LL T br jp p q d→Supp (fun p=>if p.1<n then f ((p.1+s)%n,p.2) else []) p q d∧Supp (fun p=>if p.1<n then f ((p.1+s)%n,p.2) else []) q p d:=by
   intro p q d hl
   obtain ⟨p1,p2,q1,q2,_⟩:=Ls h.hT hl
   have:=h.link hl
   constructor
   ·intro z hz
    simp only [if_pos p1,if_pos q1] at hz ⊢
    exact hf _ _ _ (.inl this) z hz
   ·intro z hz
    simp only [if_pos p1,if_pos q1] at hz ⊢
    exact hf _ _ _ (.inr this) z hz
  rintro p q d (h1|h1)
  ·exact (key p q d h1).1
  ·exact (key q p d h1).2
 have bel:∀{S T:Rays} {s:Nat},Rot n m s S T→∀f:Fam,Below f (gf S)→Below (fun p=>if p.1<n then f ((p.1+s)%n,p.2) else []) (gf T):=by
  intro S T s h f hf p z hz
  by_cases p1:p.1<n
  ·simp only [if_pos p1] at hz
   have:=hf _ z hz
   unfold gf at this ⊢
   rwa [h.row _ p1]
  ·simp only [if_neg p1] at hz
   exact absurd hz (Gu z)
 have inv:∀a<n,((a+(n-s))%n+s)%n=a:=by
  intro a ha
  rw [X0 (x:=a+(n-s)) (by omega),X0 (by split<;>omega)]
  split<;>split<;>omega
 have inv2:∀a<n,((a+s)%n+(n-s))%n=a:=by
  intro a ha
  rw [X0 (x:=a+s) (by omega),X0 (by split<;>omega)]
  split<;>split<;>omega
 intro a ha
 have hb:(a+s)%n<n:=Nat.mod_lt _ (by omega)
 refine Ws ((hY.shape.row ha).trans (hU.shape.row hb).symm) fun i hi=>?_
 refine Ko ((hY.good.row a).gt i).1 ((hU.good.row _).gt i).1 fun z=>⟨fun hz=>?_,fun hz=>?_⟩
 ·have h1:=tr h.back (gf Y) hYs
  have h2:=bel h.back (gf Y) hY.below
  have:=hU.most _ h1 h2 ((a+s)%n,i) z (by
   simp only [if_pos hb,inv2 a ha]
   exact hz)
  exact this
 ·have h1:=tr h (gf U) hUs
  have h2:=bel h (gf U) hU.below
  exact hY.most _ h1 h2 (a,i) z (by simp only [if_pos ha];exact hz)
theorem Ze {S0 f b p:Da} {br jp:Int} {m:Nat} {Z:Rays} (hl:S0.length=m) (hj:0≤jp∧jp≤400000) (hb:1≤br∧br≤16) (hpl:p.length=S0.length) (hfG:AllGood f) (hbG:AllGood b) (hpG:AllGood p)
  (hf:∀j<S0.length,pF S0 br jp f j) (hB:∀j<S0.length,pB S0 br jp b j) (hp:∀x<S0.length,gt p x=mt (gt f x) (gt b x)) (hZ:Inv [S0] (LL [S0] br jp) 1 m Z) (hZs:Stable (LL [S0] br jp) (gf Z)):Z.getD 0 []=p:=by
 have hm:∀{x:Nat} {z:Int},x<S0.length→(mem z (gt p x)↔mem z (gt f x)∧mem z (gt b x)):=fun {x z} hx=>by rw [hp x hx,X2]
 have hSh:Shape [S0] 1 m:=⟨rfl,fun r hr=>by rw [List.mem_singleton] at hr;rw [hr];exact hl⟩
 have only:∀u v d,LL [S0] br jp u v d→u.1=0∧v.1=0∧lk S0 br u.2 v.2∧d=jp*((v.2:Int)-u.2):=by
  rintro u v d (⟨h1,h2,h3,h4⟩|⟨h1,h2,h3,k,h4,h5,h6⟩)
  ·have e:u.1=0:=by simp only [List.length_singleton] at h2;omega
   rw [e] at h3
   exact ⟨e,by omega,h3,h4⟩
  ·have:=h4.1
   have h7:=h4.2.2.1
   simp only [List.length_singleton] at h7
   omega
 have hst:Stable (LL [S0] br jp) (gf [p]):=by
  have key:∀u v d,LL [S0] br jp u v d→Supp (gf [p]) u v d∧Supp (gf [p]) v u d:=by
   intro u v d h
   obtain ⟨e1,e2,h3,e4⟩:=only u v d h
   have hv:=h3.2.1
   have hu:u.2<S0.length:=by have:=h3.1;omega
   have gu:gf [p] u=gt p u.2:=by unfold gf;rw [e1];rfl
   have gv:gf [p] v=gt p v.2:=by unfold gf;rw [e2];rfl
   have d0:=Sk hj hb.2 h3
   subst e4
   have fv:=(hf v.2 hv).1 u.2 h3
   have bu:=(hB u.2 hu).1 v.2 h3
   constructor
   ·intro z hz
    rw [gv,hm hv,fv,Fy (hfG.gt _).1.2 d0.1] at hz
    obtain ⟨⟨h1,y,h2,h4⟩,h5⟩:=hz
    refine ⟨y,?_,h4⟩
    rw [gu,hm hu,bu,Fy (hbG.gt _).1.2 d0.1]
    exact ⟨h2,A84 hj hb.2 hfG hf hu h2,z,h5,by omega,by omega⟩
   ·intro z hz
    rw [gu,hm hu,bu,Fy (hbG.gt _).1.2 d0.1] at hz
    obtain ⟨h5,h1,y,h2,h4⟩:=hz
    refine ⟨y,?_,h4⟩
    rw [gv,hm hv,fv,Fy (hfG.gt _).1.2 d0.1]
    exact ⟨⟨B0r hj hb.2 hbG hB hv h2,z,h5,by omega,by omega⟩,h2⟩
  rintro u v d (h1|h1)
  ·exact (key u v d h1).1
  ·exact (key v u d h1).2
 have out:∀(G:Da) (u:Pl),gf [G] u=if u.1=0 then gt G u.2 else []:=by
  intro G u
  unfold gf
  split
  ·rename_i e;rw [e];rfl
  ·rename_i e
   rw [List.getD_eq_getElem?_getD,List.getElem?_eq_none (by simp;omega)];rfl
 have big:∀(G:Da) (x:Nat),G.length≤x→gt G x=[]:=fun G x h=>by unfold gt;rw [List.getD_eq_getElem?_getD,List.getElem?_eq_none h];rfl
 have hbel:Below (gf [p]) (gf [S0]):=by
  intro u z hz
  rw [out] at hz ⊢
  split
  ·rename_i e
   rw [if_pos e] at hz
   by_cases hx:u.2<S0.length
   ·exact A84 hj hb.2 hfG hf hx ((hm hx).1 hz).1
   ·rw [big p _ (by omega)] at hz;exact absurd hz (Gu z)
  ·rename_i e;rw [if_neg e] at hz;exact absurd hz (Gu z)
 have hmost:∀h,Stable (LL [S0] br jp) h→Below h (gf [S0])→Below h (gf [p]):=by
  intro h hs hbl
  have hS:∀x z,mem z (h (0,x))→mem z (gt S0 x):=fun x z hz=>hbl (0,x) z hz
  have lnk:∀{i j:Nat},lk S0 br i j→LL [S0] br jp (0,i) (0,j) (jp*((j:Int)-i)):=fun {i j} hl=>.inl ⟨rfl,by simp,hl,rfl⟩
  have goF:∀(N j:Nat),j<N→j<S0.length→∀z,mem z (h (0,j))→mem z (gt f j):=by
   intro N
   induction N with
   | zero=>intro j h1;omega
   | succ N ih =>
    intro j h1 h2 z hz
    by_cases he:∃i,lk S0 br i j
    ·obtain ⟨i,hi⟩:=he
     have d0:=Sk hj hb.2 hi
     rw [(hf j h2).1 i hi,Fy (hfG.gt _).1.2 d0.1]
     obtain ⟨y,y1,y2⟩:=hs (0,i) (0,j) _ (.inl (lnk hi)) z hz
     have hij:=hi.1
     exact ⟨hS j z hz,y,ih i (by omega) (by omega) y y1,y2⟩
    ·rw [(hf j h2).2 (fun i hi=>he ⟨i,hi⟩)]
     exact hS j z hz
  have goB:∀(N j:Nat),S0.length-j<N→j<S0.length→∀z,mem z (h (0,j))→mem z (gt b j):=by
   intro N
   induction N with
   | zero=>intro j h1;omega
   | succ N ih =>
    intro j h1 h2 z hz
    by_cases he:∃i,lk S0 br j i
    ·obtain ⟨i,hi⟩:=he
     have d0:=Sk hj hb.2 hi
     rw [(hB j h2).1 i hi,Fy (hbG.gt _).1.2 d0.1]
     obtain ⟨y,y1,y2⟩:=hs (0,i) (0,j) _ (.inr (lnk hi)) z hz
     have hij:=hi.1
     have hil:=hi.2.1
     exact ⟨hS j z hz,y,ih i (by omega) hil y y1,y2⟩
    ·rw [(hB j h2).2 (fun i hi=>he ⟨i,hi⟩)]
     exact hS j z hz
  intro u z hz
  have h0:=hbl u z hz
  rw [out] at h0 ⊢
  split
  ·rename_i e
   rw [if_pos e] at h0
   have eu:u=(0,u.2):=Prod.ext e rfl
   rw [eu] at hz
   by_cases hx:u.2<S0.length
   ·exact (hm hx).2 ⟨goF (u.2+1) u.2 (by omega) hx z hz,goB (S0.length-u.2+1) u.2 (by omega) hx z hz⟩
   ·rw [big S0 _ (by omega)] at h0;exact absurd h0 (Gu z)
  ·rename_i e;rw [if_neg e] at h0;exact absurd h0 (Gu z)
 have hgp:T9 (gf [p]):=fun u=>by
  rw [out]
  split
  ·exact hpG.gt _
  ·exact Y9
 refine Ws ((hZ.shape.row (a:=0) (by omega)).trans (by omega)) fun i hi=>?_
 have:=Vk hZ.good.good hgp hZs hst hZ.below hbel hZ.most hmost (0,i)
 exact this
end Go.Proofs.Ytbhjgebjojdohaa
namespace Go.Proofs.Ytbhjgebjojdohaa
open Go Go.RowKit Go.Eng
set_option maxRecDepth 10000
set_option linter.unusedVariables false
set_option linter.unusedSimpArgs false
section
variable {F:Nat} {n m:Nat} {p0:List (List (List Int))} {S U Y:Rays} {far jp:Int} {W:WW}
theorem mkN {α:Type} {B:Nat} (n:Nat) (x:α) (h:B*n≤281474976710656) (h2:n≤1000):mkI B (n:Int) x=some (List.replicate n x):=by
 unfold mkI
 rw [Int.toNat_natCast,if_pos ⟨by omega,h,by omega⟩]
theorem A8h {α:Type} {l:List α} {a b:Nat} (h:a≤b) (h2:b≤l.length):Ly l (a:Int) (b:Int)=some ((l.drop a).take (b-a)):=by
 unfold Ly
 rw [if_pos (by omega),Int.toNat_natCast,Int.toNat_natCast]
theorem B12 (C:Ctx F S U far jp n m p0) (hR:∀p,inR (gf U p)) (hlen:∀a i,(gt (U.getD a []) i).length≤256) (hW:ShW W n m) (hw:∀p:Pl,p.1<n→p.2<m→wg W p=Dt (gf U p)) {a:Nat} (ha:a<n) (e:Int) (k5:Int→Option Bool) :
  ∀(t N i:Nat),i+t=m→t<N→Cp F (m:Int) (U,e) W (a:Int) k5 N (i:Int)=Dq (a:Int) k5:=by
 have hm:=C.hm
 have hUl:=C.hU.shape.1
 have hWl:=hW.1
 have hrU:=C.hU.shape.row ha
 have hrW:=hW.row ha
 intro t
 induction t with
 | zero =>
  intro N i hi hN
  obtain ⟨N,rfl⟩:∃N',N=N'+1:=⟨N-1,by omega⟩
  show Cn F (m:Int) (U,e) W (a:Int) k5 (Cp F (m:Int) (U,e) W (a:Int) k5 N) (i:Int)=_
  unfold Cn
  exact B9 (decide_eq_false (by omega))
 | succ t ih =>
  intro N i hi hN
  obtain ⟨N,rfl⟩:∃N',N=N'+1:=⟨N-1,by omega⟩
  show Cn F (m:Int) (U,e) W (a:Int) k5 (Cp F (m:Int) (U,e) W (a:Int) k5 N) (i:Int)=_
  unfold Cn
  have hg:=(C.hU.good.row a).gt i
  have hr:inR (gt (U.getD a []) i):=hR (a,i)
  have hd:Gf F (gt (U.getD a []) i)=some (Dt (gt (U.getD a []) i)):=A0v C.hF _ (by have:=hlen a i;omega) (A4l hr hg.1.2)
  have hv:(W.getD a []).getD i default=Dt (gt (U.getD a []) i):=hw (a,i) ha (by show i<m;omega)
  have hf:Hb F (gt (U.getD a []) i) (Dt (gt (U.getD a []) i))=some true:=A2c C.hF _ (by have:=hlen a i;omega) hg.1 hr
  have d1:(!decide (Dt (gt (U.getD a []) i)=Dt (gt (U.getD a []) i)))=false:=by rw [decide_eq_true rfl];rfl
  rw [Bs (decide_eq_true (by omega)),Ni (by show a<U.length;omega),H4 (by show i<(U.getD a []).length;omega),hd,sb,Jw [] (by omega),Jw default (by omega),hv,d1,cond_false,Ni (by show a<U.length;omega),H4 (by show i<(U.getD a []).length;omega),Jw [] (by omega),Jw default (by omega),hv,hf,sb]
  refine Eq.trans (B9 rfl) ?_
  rw [ckb (by omega),F9]
  exact ih N (i+1) (by omega) (by omega)
theorem Wb (hF:FF≤F) {a:Da} (hG:AllGood a) (hl:a.length≤100000):K7 F a a=some true:=by
 have hF':=hF
 unfold FF at hF'
 unfold K7
 rw [B9 (by simp)]
 exact A3b hF hG hl a.length F 0 (by omega) (by omega)
theorem B0g (C:Ctx F S U far jp n m p0) (hR:∀p,inR (gf U p)) (hlen:∀a i,(gt (U.getD a []) i).length≤256) (hW:ShW W n m) (hw:∀p:Pl,p.1<n→p.2<m→wg W p=Dt (gf U p)) {s:Nat} (hs:s<n) (hYl:Y.length=n) (hY:∀a<n,Y.getD a []=U.getD ((a+s)%n) []) (e e':Int) :
  ∀(t N a:Nat),a+t=n→t<N→C4 F p0 (m:Int) (U,e) W (s:Int) (Y,e') N (a:Int)=some true:=by
 have hn:=C.hn
 have hm:=C.hm
 have hp:=C.len
 have hF':=C.hF
 unfold FF at hF'
 have hUl:=C.hU.shape.1
 intro t
 induction t with
 | zero =>
  intro N a hi hN
  obtain ⟨N,rfl⟩:∃N',N=N'+1:=⟨N-1,by omega⟩
  show Cm F p0 (m:Int) (U,e) W (s:Int) (Y,e') (C4 F p0 (m:Int) (U,e) W (s:Int) (Y,e') N) (a:Int)=_
  unfold Cm
  rw [B9 (decide_eq_false (by show ¬(a:Int)<((U.length:Nat):Int);omega))];rfl
 | succ t ih =>
  intro N a hi hN
  obtain ⟨N,rfl⟩:∃N',N=N'+1:=⟨N-1,by omega⟩
  show Cm F p0 (m:Int) (U,e) W (s:Int) (Y,e') (C4 F p0 (m:Int) (U,e) W (s:Int) (Y,e') N) (a:Int)=_
  unfold Cm
  have hrU:=C.hU.shape.row (a:=a) (by omega)
  have hb:(a+(n-s))%n<n:=Nat.mod_lt _ (by omega)
  have hYa:Y.getD ((a+(n-s))%n) []=U.getD a []:=by
   rw [hY _ hb]
   congr 1
   rw [X0 (x:=a+(n-s)) (by omega),X0 (by split<;>omega)]
   split<;>split<;>omega
  have e1:(a:Int)-(s:Int)+((n:Nat):Int)=((a+(n-s):Nat):Int):=by omega
  have e2:(((((U.getD a []).length:Nat):Int)) != (m:Int))=false:=by rw [hrU];simp
  rw [Bs (decide_eq_true (by show (a:Int)<((U.length:Nat):Int);omega)),Ni (by show a<U.length;omega),e2,cond_false,Ni (by show a<U.length;omega),ckb (by omega),hp,ckb (by omega),e1,A5o (by omega),Ni (by show _<Y.length;omega),hYa,Wb C.hF (C.hU.good.row a) (by omega),sb]
  refine Eq.trans (B9 rfl) ?_
  have g:=B12 C hR hlen hW hw (a:=a) (by omega) e (C4 F p0 (m:Int) (U,e) W (s:Int) (Y,e') N) m F 0 (by omega) (by omega)
  rw [show ((0:Nat):Int)=0 from rfl] at g
  rw [g]
  unfold Dq
  rw [ckb (by omega),F9]
  exact ih N (a+1) (by omega) (by omega)
theorem A8r (hF:FS≤F) (C:Ctx F S U far jp n m p0) (hSok:RowsIn n m n S) (hUs:Stable (LL S far jp) (gf U)) (hR:∀p,inR (gf U p)) (hlen:∀a i,(gt (U.getD a []) i).length≤256) (hW:ShW W n m) (hw:∀p:Pl,p.1<n→p.2<m→wg W p=Dt (gf U p)) (p4:Int) (h4:0≤p4∧p4≤255) :
  Dp F p0 p4 (m:Int) jp far S (U,0) W=some true:=by
 have hn:=C.hn
 have hm:=C.hm
 have hp:=C.len
 have hF':=C.hF
 unfold FF at hF'
 have hSl:=C.hS.1
 obtain ⟨q,hq⟩:∃q:Nat,(q:Int)=p4:=⟨p4.toNat,by omega⟩
 subst hq
 unfold Dp
 have hs:q%n<n:=Nat.mod_lt _ (by omega)
 rw [ckb (by omega),hp,A5o (by omega)]
 generalize q%n=s at hs ⊢
 have e1:Ly S (s:Int) ((S.length:Nat):Int)=some (S.drop s):=by
  rw [A8h (by omega) (Nat.le_refl _),List.take_of_length_le (by rw [List.length_drop];omega)]
 have e2:Ly S (0:Int) (s:Int)=some (S.take s):=by
  have:=A8h (l:=S) (a:=0) (b:=s) (by omega) (by omega)
  rw [show ((0:Nat):Int)=0 from rfl,List.drop_zero,Nat.sub_zero] at this
  exact this
 have e3:Ly S (0:Int) 1=some (S.take 1):=by
  have:=A8h (l:=S) (a:=0) (b:=1) (by omega) (by omega)
  rw [show ((0:Nat):Int)=0 from rfl,show ((1:Nat):Int)=1 from rfl,List.drop_zero,Nat.sub_zero] at this
  exact this
 have h0:(Ad S 0)=some (S.getD 0 []):=by
  unfold Ad
  rw [if_pos (Int.le_refl _),List.getD_eq_getElem?_getD]
  show S[0]? = _
  rw [List.getElem?_eq_getElem (by omega)];rfl
 have ht1:S.take 1=[S.getD 0 []]:=by
  cases S with
  | nil=>simp at hSl;omega
  | cons r S=>rfl
 have hrot:=A5q C.hS hs
 have hgT:∀r∈S.drop s++S.take s,∀u∈r,u.length≤256∧Good u:=by
  intro r hr
  rw [List.mem_append] at hr
  exact hSok.good r (hr.elim List.mem_of_mem_drop List.mem_of_mem_take)
 obtain ⟨Y,y1,y2,y3⟩:=Rz (F:=F) hF hrot.hT (by omega) (by omega) hgT C.hj C.hb
 have hS0:Shape [S.getD 0 []] 1 m:=⟨rfl,fun r hr=>by rw [List.mem_singleton] at hr;rw [hr];exact C.hS.row (by omega)⟩
 have hg0:∀r∈[S.getD 0 []],∀u∈r,u.length≤256∧Good u:=by
  intro r hr
  rw [List.mem_singleton] at hr
  rw [hr]
  exact hSok.good _ (Hu (by omega))
 obtain ⟨Z,z1,z2,z3⟩:=Rz (F:=F) hF hS0 (by omega) (by omega) hg0 C.hj C.hb
 have hr0:=C.hS.row (a:=0) (by omega)
 obtain ⟨f,b,p,a1,a2,a3,a4,a5,a6,a7,a8⟩:=A5n C.hF (S:=S.getD 0 []) (by omega) (hSok.good _ (Hu (by omega))) C.hj C.hb
 have hZp:=Ze hr0 C.hj C.hb a2 a3 a4 a5 a6 a7 a8 z2 z3
 have hZl:=z2.shape.1
 have hYl:=y2.shape.1
 have hz0:(Ad Z 0)=some (Z.getD 0 []):=by
  unfold Ad
  rw [if_pos (Int.le_refl _),List.getD_eq_getElem?_getD]
  show Z[0]? = _
  rw [List.getElem?_eq_getElem (by omega)];rfl
 rw [e1,sb,e2,sb,K0 (by simp;omega),List.nil_append,K0 (by simp;omega),y1,sb,h0,sb,a1,sb,e3,sb,ht1,z1,sb]
 refine Eq.trans (B9 (by simp;omega)) ?_
 have hz0':(Ad (Z,(0:Int)).1 0)=some (Z.getD 0 []):=hz0
 rw [hz0',sb,hZp,Wb C.hF a5 (by omega),sb]
 refine Eq.trans (B9 rfl) ?_
 exact B0g C hR hlen hW hw hs hYl (A5r hrot C.hU hUs y2 y3) 0 0 n F 0 (by omega) (by omega)
end
theorem V8 (F:Nat) (hF:FS≤F) (p0:List (List (List Int))) (h0:∀r∈p0,∀x∈r,∀b∈x,0≤b∧b≤255) (p1 p2 p3 p4:Int) (h1:0≤p1∧p1≤255) (h2:0≤p2∧p2≤255) (h3:0≤p3∧p3≤255) (h4:0≤p4∧p4≤255) :
  G5 F p0 p1 p2 p3 p4=some true:=by
 have hF2:FF≤F:=by unfold FS at hF;unfold FF;omega
 have hF':=hF2
 unfold FF at hF'
 unfold G5
 by_cases hg:p0.length<1∨p0.length>5
 ·have e:(bif (decide (((p0.length:Nat):Int)<1)) then true else (decide (((p0.length:Nat):Int)>5)))=true:=by
   rcases hg with hg|hg
   ·rw [decide_eq_true (show ((p0.length:Nat):Int)<1 by omega)];rfl
   ·rw [decide_eq_true (show ((p0.length:Nat):Int)>5 by omega)];cases decide (((p0.length:Nat):Int)<1)<;>rfl
  exact (Bs e).trans rfl
 ·have e:(bif (decide (((p0.length:Nat):Int)<1)) then true else (decide (((p0.length:Nat):Int)>5)))=false:=by
   rw [decide_eq_false (show ¬((p0.length:Nat):Int)<1 by omega),decide_eq_false (show ¬((p0.length:Nat):Int)>5 by omega)];rfl
  refine Eq.trans (B9 e) ?_
  obtain ⟨m,hm⟩:∃m:Nat,(m:Int)=1+p1%3:=⟨(1+p1%3).toNat,by omega⟩
  rw [ckb (by omega),A33 (by omega) (by omega),sb,ckb (by omega),ckb (by omega),A33 (by omega) (by omega),sb,ckb (by omega),A33 (by omega) (by omega),sb,ckb (by omega),←hm,mkN p0.length _ (by omega) (by omega),sb]
  have hj:0≤p2%13∧p2%13≤400000:=by omega
  have hb:1≤1+p3%3∧1+p3%3≤16:=by omega
  generalize p2%13=jp at hj ⊢
  generalize 1+p3%3=far at hb ⊢
  have hm3:m≤3:=by omega
  obtain ⟨S,s1,s2⟩:=A94 hF2 h0 rfl (by omega) hm3 p4 jp far p0.length F 0 (List.replicate p0.length []) (by omega) (by omega) ⟨List.length_replicate,fun b hb=>by omega⟩
  rw [show ((0:Nat):Int)=0 from rfl] at s2
  rw [s2]
  unfold Ek
  obtain ⟨U,u1,u2,u3⟩:=Rz (F:=F) hF s1.shape (by omega) (by omega) s1.good hj hb
  have hUl:=u2.shape.1
  rw [u1,sb]
  refine Eq.trans (B9 (by simp;omega)) ?_
  rw [mkN p0.length _ (by omega) (by omega),sb]
  obtain ⟨W,w1,w2⟩:=A92 hF2 s1.shape (by omega) hm3 s1.ok p4 jp far (U,0) p0.length F 0 (List.replicate p0.length []) (by omega) (by omega) ⟨List.length_replicate,fun b hb=>by omega⟩
  rw [show ((0:Nat):Int)=0 from rfl] at w2
  rw [w2]
  unfold El
  have hR:∀p,inR (gf U p):=fun p=>A13 (u2.good.good p).1.2 (fun s hs=>by have:=(s1.ok p.1 p.2).2 s hs;omega) (u2.below p)
  have hlen:∀a i,(gt (U.getD a []) i).length≤256:=fun a i=>B0e ((u2.good.row a).gt i).1 (s1.ok a i) (u2.below (a,i))
  have C:Ctx F S U far jp p0.length m p0:=⟨hF2,s1.shape,by omega,hm3,rfl,hj,hb,u2,A2h hF2 u2.good hR u3 (fun p q d h=>A1t s1.shape hj hb.2 h)⟩
  have hW:=w1.sh
  have hc:=B09 hW
  have hc2:p0.length*(m*80)≤5*(3*80):=Nat.mul_le_mul (by omega) (Nat.mul_le_mul hm3 (Nat.le_refl _))
  obtain ⟨W',g1,g2,g3⟩:=A75 C p4 (U,0) 1200 F W (by omega) (by omega) ⟨hW,fun p q1 q2=>by rw [w1.wg q1 q2];exact A87 (u2.below p),fun p q1 q2=>by rw [w1.wg q1 q2];exact subV.refl _,Nat.le_refl _,fun _=>⟨rfl,fun _ _ _ h=>h.elim⟩,fun h=>by cases h⟩
  rw [g3]
  exact A8r hF C s1 u3 hR hlen g1 g2 p4 h4
end Go.Proofs.Ytbhjgebjojdohaa
