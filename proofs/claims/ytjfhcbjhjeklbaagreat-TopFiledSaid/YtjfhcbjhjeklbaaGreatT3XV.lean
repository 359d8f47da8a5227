import Derived.Test.YtjfhcbjhjeklbaaGreatT3XD
import Derived.Shelf.SlSortCmp.Insertion
set_option linter.unusedVariables false
set_option linter.unusedSimpArgs false
set_option linter.unusedSectionVars false
namespace Go.Proofs.YtjfhcbjhjeklbaaGreat
open Go Go.RowKit Go.Eng
set_option maxRecDepth 10000
set_option linter.unusedVariables false
set_option linter.unusedSimpArgs false
variable {β α:Type} {x i:Int} {f:List α->Option β} {g:α×List Int->Option (β×List Int)} {o:Option (α×List Int)} {p l r:List Int} {n F:Nat} {w:volume_writer} {s:ByteArray} {e:α->List Int} {t:volume_thing}
theorem ckb {f:Int->Option β} (h:-9000000000000000000<=x/\x<=9000000000000000000):(ck x).bind f=f x:=by
 unfold ck;rw [if_pos (by omega)];rfl
theorem gdT {g:Bool} {o:Option α} {d:α} (h:g=true):gd g o d=o:=by subst h;rfl
theorem gdF {g:Bool} {o:Option α} {d:α} (h:g=false):gd g o d=some d:=by subst h;rfl
theorem Bx {c:Bool} {x y:α} (h:c=true):(bif c then x else y)=x:=by rw [h];rfl
theorem Aq {c:Bool} {x y:α} (h:c=false):(bif c then x else y)=y:=by rw [h];rfl
theorem sbd {x:α} {f:α->Option β}:(some x).bind f=f x:=rfl
theorem dT {p:Prop} [Decidable p] (h:p):decide p=true:=decide_eq_true h
theorem dF {p:Prop} [Decidable p] (h:¬p):decide p=false:=decide_eq_false h
theorem Ej {l:List α} {f:α->Option β} (n:Nat) (x:α) (hi:i=(n:Int)) (h:l[n]? = some x):(Cj l i).bind f=f x:=by
 subst hi;unfold Cj;rw [if_pos (by omega),show ((n:Int)).toNat=n by omega,h];rfl
theorem Me {l k:List α} {B:Nat} (h:(l.length+k.length)*B<=140737488355328) (b:1<=B):(apd B l k).bind f=f (l++k):=by
 unfold apd;have:l.length+k.length<=(l.length+k.length)*B:=Nat.le_mul_of_pos_right _ b;rw [if_pos ⟨h,by omega⟩];rfl
theorem B35 {l:List α} {j:Int} (m n:Nat) (hi:i=(m:Int)) (hj:j=(n:Int)) (h:m<=n/\n<=l.length):(K4 l i j).bind f=f ((l.drop m).take (n-m)):=by
 subst hi;subst hj;unfold K4;rw [if_pos (by omega)];rfl
theorem Vc {l:List α} {j:Int} (n:Nat) (hi:i=0) (hj:j=(n:Int)) (h:n<=l.length):(K4 l i j).bind f=f (l.take n):=by
 rw [B35 0 n hi hj ⟨Nat.zero_le _,h⟩];simp
theorem Rv {l:List α} {j:Int} (m:Nat) (hi:i=(m:Int)) (hj:j=(l.length:Int)) (h:m<=l.length):(K4 l i j).bind f=f (l.drop m):=by
 rw [B35 m l.length hi hj ⟨h,Nat.le_refl _⟩,List.take_of_length_le (by simp)]
def By (l:List Int):Prop:=∀x∈l,0<=x/\x<256
theorem By.app {k:List Int} (h:By l) (h':By k):By (l++k):=λx b=>(List.mem_append.1 b).elim (h x) (h' x)
theorem A62 (h:0<=x/\x<256):IntKind.u8.wrap x=x:=by
 have:=h.1;have:=h.2;simp only [IntKind.wrap,IntKind.signed,IntKind.bits];simp;omega
def E5 (n:Nat):List Int:=if h:n<127 then [(n:Int)+1] else (128+((n%127:Nat):Int))::E5 (n/127)
termination_by n
theorem S5 (h:n<127):E5 n=[(n:Int)+1]:=by rw [E5,dif_pos h]
theorem Vr (h:127<=n):E5 n=(128+((n%127:Nat):Int))::E5 (n/127):=by rw [E5,dif_neg (by omega)]
theorem A96:∀(k n:Nat),n<127 ^ (k+1)->(E5 n).length<=k+1:=by
 intro k
 induction k with
 | zero=>intro n h;rw [S5 (by simpa using h)];simp
 | succ k ih =>
  intro n h
  by_cases b:n<127
  ·rw [S5 b];simp
  ·rw [Vr (by omega),List.length_cons];have:=ih (n/127) (Nat.div_lt_of_lt_mul (by rw [Nat.pow_succ] at h;omega));omega
theorem A5u (n:Nat):∀x∈E5 n,1<=x/\x<255:=by
 induction n using Nat.strongRecOn with
 | _ n ih =>
  intro x b
  by_cases c:n<127
  ·rw [S5 c] at b;simp at b;omega
  ·rw [Vr (by omega)] at b;rcases List.mem_cons.1 b with rfl|b
   ·have:=Nat.mod_lt n (show 0<127 by decide);omega
   ·exact ih (n/127) (Nat.div_lt_self (by omega) (by decide)) x b
theorem tdm (n:Nat):J9 (n:Int) 127=some ((n%127:Nat):Int)/\Mc (n:Int) 127=ck ((n/127:Nat):Int):=by
 unfold J9 Mc;rw [if_neg (by decide),if_neg (by decide)];exact ⟨by congr 1,by congr 1⟩
theorem B4x (x307:Int) (k1:List Int->Int->Option volume_writer) (d:0<=x307/\x307<=1000000000000):∀(F k n:Nat) (l:List Int),n<127 ^ (k+1)->k<10->k<F->n<=4611686018427387904->l.length+k<=1000000000000 ->
  D9 x307 k1 F l n=k1 (l++E5 n) (x307+1):=by
 intro F
 induction F with
 | zero=>intro k n l h b c;omega
 | succ F ih =>
  intro k n l h b c e f;rw [D9,Fa]
  by_cases hb:(n:Int)>=127
  ·rw [Bx (dT hb),(tdm n).1,sbd];have:=Nat.mod_lt n (show 0<127 by decide);rw [ckb (by omega),A62 (by omega),Me (by simp;omega) (by decide),(tdm n).2];have hd:n/127<=n:=Nat.div_le_self _ _;rw [ckb (by omega)]
   cases k with
   | zero=>simp at h;omega
   | succ k =>
    rw [ih k (n/127) _ (Nat.div_lt_of_lt_mul (by rw [Nat.pow_succ] at h;omega)) (by omega) (by omega) (by omega) (by simp;omega),Vr (n:=n) (by omega)];simp
  ·rw [Aq (dF hb),Fc,ckb (by omega),A62 (by omega),Me (by simp;omega) (by decide),Fb,ckb (by omega),S5 (by omega),show (1:Int)+n=n+1 by omega]
def okN (x:Int):Prop:=0<=x/\x<=4611686018427387904
def Pk (l:List Int):List Int:=l.flatMap λx=>E5 x.toNat
theorem Jg (h:okN x):(E5 x.toNat).length<=9:=A96 8 x.toNat (by have:=h.1;have:=h.2;omega)
theorem B4w (F:Nat) (p1:List Int) (f:100<=F) (d:∀x∈p1,okN x):∀(m i:Nat) (l:List Int),p1.length-i<m->i<=p1.length->p1.length<=100->l.length+9*(p1.length-i)<=999999999000 ->
  D8 F p1 m l i=some ⟨l++Pk (p1.drop i)⟩:=by
 intro m
 induction m with
 | zero=>intro i l h;omega
 | succ m ih =>
  intro i l h hi c g;rw [D8,F9]
  by_cases hb:i<p1.length
  ·have b:=d p1[i] (List.getElem_mem hb);have j:=Jg b;rw [Bx (dT (by omega)),Ej i p1[i] rfl (List.getElem?_eq_getElem hb)];have e:p1[i]=((p1[i].toNat:Nat):Int):=by have:=b.1;omega
   rw [e,B4x i _ (by omega) F 8 p1[i].toNat l (by have:=b.1;have:=b.2;omega) (by decide) (by omega) (by have:=b.2;omega) (by omega)];rw [show ((i:Int)+1)=((i+1:Nat):Int) by omega,ih (i+1) _ (by omega) (by omega) c (by rw [List.length_append];omega),List.drop_eq_getElem_cons hb];simp only [Pk,List.flatMap_cons,List.append_assoc]
  ·rw [Aq (dF (by omega)),List.drop_of_length_le (by omega)];simp [Pk]
def okW (l:List Int):Prop:=l.length<=999999990000
theorem P4 (f:1000<=F) (c:okW w.b) (d:∀x∈l,okN x) (e:l.length<=100):B3 F w l=some ⟨w.b++Pk l⟩:=by
 rw [B3];unfold okW at c;exact B4w F l (by omega) d F 0 w.b (by omega) (by omega) e (by omega)
def zig (x:Int):Nat:=if x<0 then (-2*x-1).toNat else (2*x).toNat
def okZ (x:Int):Prop:=-2305843009213693952<=x/\x<=2305843009213693952
theorem B4v (F:Nat) (p1:List Int) (f:1000<=F) (g:∀x∈p1,okZ x):∀(m i:Nat) (l:List Int),p1.length-i<m->i<=p1.length->p1.length<=100->l.length+9*(p1.length-i)<=999999990000 ->
  C0 F p1 m l i=some ⟨l++(p1.drop i).flatMap λx=>E5 (zig x)⟩:=by
 intro m
 induction m with
 | zero=>intro i l h;omega
 | succ m ih =>
  intro i l h hi c n;rw [C0,El]
  by_cases hb:i<p1.length
  ·have e:=g p1[i] (List.getElem_mem hb);have j:=e.1;have k:=e.2;rw [Bx (dT (by omega)),Ej i p1[i] rfl (List.getElem?_eq_getElem hb)];have fin:∀z:Int,okN z->z.toNat=zig p1[i]->((B3 F (volume_writer.mk l) [z]).bind λy178=>Cx i (C0 F p1 m) y178.b)=some ⟨l++(p1.drop i).flatMap λx=>E5 (zig x)⟩:=by
    intro z hz d;have o:=Jg hz;rw [P4 f (show okW l by unfold okW;omega) (by simpa using hz) (by simp),sbd,Cx,ckb (by omega)];show C0 F p1 m (l++Pk [z]) ((i:Int)+1)=_;rw [show ((i:Int)+1)=((i+1:Nat):Int) by omega,ih (i+1) _ (by omega) (by omega) c (by simp [Pk];omega),List.drop_eq_getElem_cons hb];simp only [Pk,List.flatMap_cons,List.flatMap_nil,List.append_nil,List.append_assoc,d]
   by_cases hs:p1[i]<0
   ·rw [Bx (dT hs),ckb (by omega),ckb (by omega)];exact fin _ ⟨by omega,by omega⟩ (by unfold zig;rw [if_pos hs])
   ·rw [Aq (dF hs),ckb (by omega)];exact fin _ ⟨by omega,by omega⟩ (by unfold zig;rw [if_neg hs])
  ·rw [Aq (dF (by omega)),List.drop_of_length_le (by omega)];simp
theorem A0h (c:1000<=F) (f:w.b.length<=999999980000) (d:∀x∈l,okZ x) (e:l.length<=100):Dm F w l=some ⟨w.b++l.flatMap λx=>E5 (zig x)⟩:=by
 rw [Dm];exact B4v F l c d F 0 w.b (by omega) (by omega) e (by omega)
theorem A4z (h:okZ x):okN (zig x:Int):=by
 unfold okZ at h;unfold okN zig;split<;>omega
theorem B4z (d:1000<=F) (e:w.b.length<=999999980000) (hs:s.size<=10000000):Fw F w s=some ⟨w.b++(E5 s.size++sby s)⟩:=by
 have f:=Jg (x:=(s.size:Int)) ⟨by omega,by omega⟩;rw [Fw,P4 d (show okW w.b by unfold okW;omega) (by intro x c;simp at c;subst c;exact ⟨by omega,by omega⟩) (by simp),sbd,Me (by simp only [Pk,List.flatMap_cons,List.flatMap_nil,List.append_nil,List.length_append,Qp];omega) (by decide)];simp [Pk]
def okS (s:api_Span):Prop:=-1000000000000000000<=s.Lo/\s.Lo<=s.Hi/\s.Hi<=1000000000000000000
def Qq (s:api_Span):List Int:=E5 (zig s.Lo)++E5 (s.Hi-s.Lo).toNat
theorem B4y (d:1000<=F) {s:api_Span} (f:w.b.length<=999999970000) (hs:okS s):Fv F w s=some ⟨w.b++Qq s⟩:=by
 obtain ⟨h1,g,i⟩:=hs;have e:=Jg (A4z (x:=s.Lo) ⟨by omega,by omega⟩);rw [Int.toNat_natCast] at e;rw [Fv,A0h d (by omega) (by intro x c;simp at c;subst c;exact ⟨by omega,by omega⟩) (by simp),sbd,ckb (by omega),P4 d (by unfold okW;simp;omega) (by intro x c;simp at c;subst c;exact ⟨by omega,by omega⟩) (by simp)];simp [Qq,Pk]
theorem A0b {s:api_Span} (hs:okS s):(Qq s).length<=18:=by
 obtain ⟨h1,c,d⟩:=hs;have b:=Jg (A4z (x:=s.Lo) ⟨by omega,by omega⟩);have e:=Jg (x:=s.Hi-s.Lo) ⟨by omega,by omega⟩;rw [Int.toNat_natCast] at b;unfold Qq;rw [List.length_append];omega
def Q2 {α:Type} [DecidableEq α] (e:α->List Int):α->Nat->List α->List Int
 | _,n,[]=>if n=0 then [] else E5 n
 | b,n,x::l=>if x=b then Q2 e b (n+1) l else E5 n++(e x++Q2 e x 0 l)
def Ph {α:Type} [DecidableEq α] (b:α):List α->Nat
 | []=>0
 | x::l=>if x=b then Ph b l+1 else 0
theorem A5q [DecidableEq α] (b:α) (l:List α):Ph b l<=l.length:=by
 induction l with
 | nil=>exact Nat.le_refl _
 | cons x l ih=>unfold Ph;split<;>simp<;>omega
theorem B10 [DecidableEq α] {b:α} {l:List α} {i:Nat} (h:i<Ph b l):l[i]? = some b:=by
 induction l generalizing i with
 | nil=>simp [Ph] at h
 | cons x l ih =>
  unfold Ph at h
  split at h
  ·rename_i c
   cases i with
   | zero=>simp [c]
   | succ i=>simpa using ih (by omega)
  ·omega
theorem B0z [DecidableEq α] {b:α} {l:List α} {x:α} (h:l[Ph b l]? = some x):x≠b:=by
 induction l with
 | nil=>simp at h
 | cons y l ih =>
  unfold Ph at h
  split at h
  ·exact ih (by simpa using h)
  ·rename_i c;simp at h;subst h;exact c
theorem A74 [DecidableEq α] (e:α->List Int) (b:α) (n:Nat) (l:List α) (h:n≠0\/l≠[]):Q2 e b n l=E5 (n+Ph b l)++(match l.drop (Ph b l) with|[]=>[]|y::r=>e y++Q2 e y 0 r):=by
 induction l generalizing n with
 | nil=>rw [Q2,Ph,if_neg (by simpa using h)];simp
 | cons x l ih =>
  rw [Q2,Ph]
  split
  ·rw [ih (n+1) (.inl (by omega))];simp only [List.drop_succ_cons];rw [show n+1+Ph b l=n+(Ph b l+1) by omega]
  ·simp
theorem A9o [DecidableEq α] {c:Nat}:∀(l:List α) (b:α) (n:Nat),(∀x∈l,(e x).length<=c)->n+l.length<=1000000000->(Q2 e b n l).length<=9+(c+9)*l.length:=by
 intro l
 induction l with
 | nil =>
  intro b n h d;have:=Jg (x:=(n:Int)) ⟨by omega,by simp at d;omega⟩;rw [Q2]
  split<;>simp at*<;>omega
 | cons x l ih =>
  intro b n h d;have h1:=Jg (x:=(n:Int)) ⟨by omega,by simp at d;omega⟩;have i:=h x (by simp);have g:(c+9)*(l.length+1)=(c+9)*l.length+(c+9):=by rw [Nat.mul_add,Nat.mul_one]
  rw [Q2];simp only [List.length_cons] at d ⊢;rw [g]
  split
  ·have:=ih b (n+1) (λy f=>h y (by simp [f])) (by omega);omega
  ·have:=ih x 0 (λy f=>h y (by simp [f])) (by omega);simp at h1 ⊢;omega
theorem A1p (u b:api_Span):(((u.Lo:Int)==b.Lo)&&(((u.Hi:Int)==b.Hi)&&true))=decide (u=b):=by
 cases u;cases b
 rw [Bool.eq_iff_iff];simp
theorem gdt {g:Bool} (h:g=true):((g==true&&true))=true:=by rw [h];rfl
theorem gdf {g:Bool} (h:g=false):((g==true&&true))=false:=by rw [h];rfl
theorem B2f (F:Nat) (b:api_Span) (w:List Int) (l:List api_Span) (k1:Int->Int->List Int->List api_Span->Option volume_writer) (g:l.length<=1000000000):∀(m i:Nat),i<=Ph b l->Ph b l-i<m ->
  Bo F b.Lo b.Hi w l k1 m i=C8 F b.Lo b.Hi w l k1 (Ph b l:Nat):=by
 intro m;have d:=A5q b l
 induction m with
 | zero=>intro i _ h;omega
 | succ m ih =>
  intro i hi j;rw [Bo,D0]
  by_cases hb:i<Ph b l
  ·have e:=B10 hb;rw [gdT (gdt (dT (by omega))),Ej i b rfl e,A1p b b,Bx (x:=decide (b=b)) (dT (by omega)),Bx (dT rfl),ckb (by omega)];exact ih (i+1) (by omega) (by omega)
  ·have he:i=Ph b l:=by omega
   subst he
   by_cases f:Ph b l<l.length
   ·have c:=List.getElem?_eq_getElem f;rw [gdT (gdt (dT (by omega))),Ej _ _ rfl c,A1p _ b,Bx (x:=decide (l[Ph b l]=b)) (dT (by omega)),Aq (dF (B0z c))]
   ·rw [gdF (gdf (dF (by omega))),sbd,Aq (Aq (dF (by omega)))]
theorem A6f {l:List α} {y:α} {r:List α} (h:l.drop n=y::r):l[n]? = some y/\n<l.length/\r=l.drop (n+1)/\r.length<l.length/\y∈l:=by
 have b:n<l.length:=by
  rcases Nat.lt_or_ge n l.length with h1|h1
  ·exact h1
  ·rw [List.drop_of_length_le h1] at h;cases h
 rw [List.drop_eq_getElem_cons b] at h
 cases h
 refine ⟨List.getElem?_eq_getElem b,b,rfl,by simp;omega,List.getElem_mem b⟩
theorem B6z (F:Nat) (g:1000<=F):∀(m:Nat) (l:List api_Span) (b:api_Span) (w:List Int),l.length<m->l.length<F->l.length<=1000000000->(∀x∈l,okS x)->w.length+200*l.length<=999999900000 ->
  Bg F m b.Lo b.Hi w l=some ⟨w++Q2 Qq b 0 l⟩:=by
 intro m
 induction m with
 | zero=>intro l b w h;omega
 | succ m ih =>
  intro l b w h n d c s;rw [Bg,C7]
  cases e:l with
  | nil=>simp [Q2]
  | cons x0 l0 =>
   rw [←e];have i:0<l.length:=by rw [e];simp
   have f:=A5q b l;have o:=Jg (x:=(Ph b l:Int)) ⟨by omega,by omega⟩;rw [Int.toNat_natCast] at o;rw [Bx (dT (by omega)),show (0:Int)=((0:Nat):Int) from rfl,B2f F b w l _ d F 0 (by omega) (by omega),C8,P4 g (by unfold okW;simp;omega) (by intro x j;simp at j;subst j;exact ⟨by omega,by omega⟩) (by simp),sbd,
    Rv (Ph b l) rfl rfl f,A74 Qq b 0 l (.inr (by rw [e];simp))]
   cases hd:l.drop (Ph b l) with
   | nil =>
    rw [Aq (dF (by simp))]
    cases m with
    | zero=>omega
    | succ m=>rw [Bg,C7,Aq (dF (by simp))];simp [Pk]
   | cons y r =>
    obtain ⟨t,u,p,q,k⟩:=A6f hd;rw [Bx (dT (by simp)),Ej 0 y (by rfl) (by rfl),Rv 1 (by decide) (by rfl) (by simp),B4y g (by simp [Pk];omega) (c y k),sbd];simp only [List.drop_succ_cons,List.drop_zero];rw [ih r y _ (by omega) (by omega) (by omega) (λz hz=>c z (by rw [p] at hz;exact List.mem_of_mem_drop hz)) (by have:=A0b (c y k);simp [Pk];omega)];simp [Pk]
theorem B2b (f:1000<=F) {l:List api_Span} {b:api_Span} (e:l.length<F) (c:l.length<=1000000000) (d:∀x∈l,okS x) (g:w.b.length+200*l.length<=999999900000):Co F w l b=some ⟨w.b++Q2 Qq b 0 l⟩:=by
 rw [Co];exact B6z F f F l b w.b e e c d g
def e0:api_Echo:=⟨1,⟨0,0⟩,(⟨0,0⟩,⟨0,0⟩),0,⟨0,0⟩,⟨0,0⟩,⟨0,0⟩⟩
def Re (s:ByteArray):List Int:=E5 s.size++sby s
def A14 (l:List Int):List Int:=l.flatMap λx=>E5 (zig x)
def Up (f:volume_field):List Int:=Pk [2]++(Re f.key++(Pk [f.time]++(A14 [f.Field.Grid.X,f.Field.Grid.Y]++(Pk [f.Field.Grid.Size,f.Field.Grid.Wide,f.Field.Grid.High]++Q2 Qq ⟨0,0⟩ 0 f.Field.Vals))))
def Bk (t:volume_thing):List Int:=t.cs [] Up
def Vt (f:volume_field):Prop:=f.key.size<=1000/\okN f.time/\okZ f.Field.Grid.X/\okZ f.Field.Grid.Y/\okN f.Field.Grid.Size/\okN f.Field.Grid.Wide/\okN f.Field.Grid.High/\f.Field.Vals.length<=100000/\∀x∈f.Field.Vals,okS x
def okT (t:volume_thing):Prop:=t.cs False Vt
theorem R7 (h:∀x∈l,okN x):(Pk l).length<=9*l.length:=by
 induction l with
 | nil=>simp [Pk]
 | cons x l ih =>
  have h1:=Jg (h x (by simp));have b:=ih λy c=>h y (by simp [c]);simp only [Pk,List.flatMap_cons,List.length_append,List.length_cons] at b ⊢;omega
theorem A2m (h:∀x∈l,okZ x):(A14 l).length<=9*l.length:=by
 induction l with
 | nil=>simp [A14]
 | cons x l ih =>
  have h1:=Jg (A4z (h x (by simp)));rw [Int.toNat_natCast] at h1;have b:=ih λy c=>h y (by simp [c]);simp only [A14,List.flatMap_cons,List.length_append,List.length_cons] at b ⊢;omega
theorem A0e (h:s.size<=1000):(Re s).length<=1009:=by
 have b:=Jg (x:=(s.size:Int)) ⟨by omega,by omega⟩;rw [Int.toNat_natCast] at b;unfold Re;rw [List.length_append,Qp];omega
theorem A05 (h:0<=x/\x<=1000000):okN x:=⟨h.1,by omega⟩
theorem B2c (c:200000<=F) (h:okT t):M3 F t ⟨[]⟩=some ⟨Bk t⟩:=by
 cases t with
 | nil_=>exact h.elim
 | ic142 f =>
  obtain ⟨a1,a2,a3,a4,a5,a6,a7,a8,a9⟩:=(show Vt f from h);have o1:∀x∈[(2:Int)],okN x:=by intro x b;simp at b;subst b;exact A05 (by decide)
  have o4:∀x∈[f.time],okN x:=by intro x b;simp at b;subst b;exact a2
  have o2:∀x∈[f.Field.Grid.X,f.Field.Grid.Y],okZ x:=by intro x b;simp at b;rcases b with rfl|rfl<;>assumption
  have o3:∀x∈[f.Field.Grid.Size,f.Field.Grid.Wide,f.Field.Grid.High],okN x:=by intro x b;simp at b;rcases b with rfl|rfl|rfl<;>assumption
  have l1:=R7 o1;have l2:=A0e a1;have l3:=A2m o2;have l4:=R7 o3;have l5:=R7 o4;simp only [List.length_cons,List.length_nil] at l1 l3 l4 l5;show Gh F f ⟨[]⟩=some ⟨Up f⟩;rw [Gh,P4 (by omega) (by unfold okW;simp) o1 (by simp),sbd,B4z (by omega) (by simp only [List.nil_append];omega) (by omega),sbd];rw [P4 (by omega) (by unfold okW;unfold Re at l2;simp only [List.nil_append,List.length_append] at *;omega) o4 (by simp),sbd];rw [A0h (by omega) (by unfold Re at l2;simp only [List.nil_append,List.length_append] at *;omega) o2 (by simp),sbd,P4 (by omega) (by unfold okW;unfold A14 at l3;unfold Re at l2;simp only [List.nil_append,List.length_append] at *;omega) o3 (by simp),sbd];rw [B2b (by omega) (by omega) (by omega) a9 (by unfold A14 at l3;unfold Re at l2;simp only [List.nil_append,List.length_append] at *;omega),sbd];simp [Up,Re,A14]
def A3j:Nat->List Int->Nat
 | c,[]=>c
 | c,x::l=>A3j ((31*c+x.toNat)%2147483647) l
def B1s (c:Nat):List Int:=[128+((c%127:Nat):Int),128+((c/127%127:Nat):Int),128+((c/127/127%127:Nat):Int),128+((c/127/127/127%127:Nat):Int),1+((c/127/127/127/127%127:Nat):Int)]
def Qe (l:List Int):List Int:=B1s (A3j 1 l)
theorem Q7 (l:List Int):(Qe l).length=5:=rfl
theorem B6p {l:List α} {x:α} (n:Nat) (hi:i=(n:Int)) (h:n<l.length):(A4r l i x).bind f=f (l.set n x):=by
 subst hi;unfold A4r;rw [if_pos (by omega)];rfl
theorem B1k (F:Nat) (f:10<=F) (c:Nat) (b:c<2147483647):Fe F 5 0 c (List.replicate 5 0)=some (B1s c):=by
 obtain ⟨G,rfl⟩:∃G,F=G+6:=⟨F-6,by omega⟩;have step:∀(m i d:Nat) (l:List Int),i<5->l.length=5->d<2147483647->Fe (m+1) 5 i d l=Fe m 5 (i+1:Nat) (d/127:Nat) (l.set i (128+((d%127:Nat):Int))):=by
  intro m i d l hi g hd;rw [Fe,Lm,Bx (dT (by omega)),(tdm d).1,sbd];have:=Nat.mod_lt d (show 0<127 by decide);rw [ckb (by omega),Ej i l[i] rfl (List.getElem?_eq_getElem (by omega)),B6p i rfl (by omega),(tdm d).2,ckb (by omega),ckb (by omega),A62 (by omega)];rfl
 rw [show (0:Int)=((0:Nat):Int) from rfl,step (G+5) 0 c _ (by decide) (by simp) b,step (G+4) 1 _ _ (by decide) (by simp) (by omega),step (G+3) 2 _ _ (by decide) (by simp) (by omega),step (G+2) 3 _ _ (by decide) (by simp) (by omega),step (G+1) 4 _ _ (by decide) (by simp) (by omega)];rw [Fe,Lm,Aq (dF (by decide)),Nq];simp only [List.replicate,List.set_cons_zero,List.set_cons_succ];have e:(128:Int)+((c/127/127/127/127%127:Nat):Int)-127=1+((c/127/127/127/127%127:Nat):Int):=by omega
 have:=Nat.mod_lt (c/127/127/127/127) (show 0<127 by decide);rw [Ej 4 (128+((c/127/127/127/127%127:Nat):Int)) (by decide) (by rfl),Ej 4 (128+((c/127/127/127/127%127:Nat):Int)) (by decide) (by rfl),B6p 4 (by decide) (by simp),e,A62 (by omega)];rfl
theorem B1l (F:Nat) (b:10<=F) (p:List Int) (d:By p) (f:p.length<=1000000000):∀(m i c:Nat),p.length-i<m->i<=p.length->c<2147483647->K2 F p m i c=some (B1s (A3j c (p.drop i))):=by
 intro m
 induction m with
 | zero=>intro i c h;omega
 | succ m ih =>
  intro i c h hi g;rw [K2,No]
  by_cases hb:i<p.length
  ·have j:=d p[i] (List.getElem_mem hb);rw [Bx (dT (by omega)),Ej i p[i] rfl (List.getElem?_eq_getElem hb),ckb (by omega),ckb (by omega),ckb (by omega)];have e:J9 (31*(c:Int)+p[i]) 2147483647=some (((31*c+p[i].toNat)%2147483647:Nat):Int):=by
    have e1:31*(c:Int)+p[i]=((31*c+p[i].toNat:Nat):Int):=by omega
    rw [e1];unfold J9;rw [if_neg (by decide)]
    congr 1
   rw [e,sbd,ckb (by omega)];have:=ih (i+1) _ (by omega) (by omega) (Nat.mod_lt (31*c+p[i].toNat) (show 0<2147483647 by decide));rw [show ((i:Int)+1)=((i+1:Nat):Int) by omega,this,List.drop_eq_getElem_cons hb];rfl
  ·rw [Aq (dF (by omega)),Np,List.drop_of_length_le (by omega)];show (mkI 1 5 0).bind _=_;rw [show mkI 1 5 (0:Int)=some (List.replicate 5 0) from by unfold mkI;rw [if_pos (by decide)];rfl,sbd];exact B1k F b c g
theorem A9y (c:10<=F) (d:By p) (e:p.length<F) (b:p.length<=1000000000):Lz F p=some (Qe p):=by
 rw [Lz];exact B1l F c p d b F 0 1 (by omega) (by omega) (by decide)
theorem Xv (n:Nat):By (E5 n):=λx b=>by have:=A5u n x b;omega
def Nz (l:List Int):Prop:=∀x∈l,1<=x/\x<256
theorem Nz.by (h:Nz l):By l:=λx b=>by have:=h x b;omega
theorem Nz.app {k:List Int} (h:Nz l) (h':Nz k):Nz (l++k):=λx b=>(List.mem_append.1 b).elim (h x) (h' x)
theorem Nz.nil:Nz []:=λx b=>by cases b
theorem Nz.fm {l:List α} {f:α->List Int} (h:∀x∈l,Nz (f x)):Nz (l.flatMap f):=λx b=>by
 obtain ⟨y,c,b⟩:=List.mem_flatMap.1 b;exact h y c x b
theorem Qn (n:Nat):Nz (E5 n):=λx b=>by have:=A5u n x b;omega
theorem Tv (l:List Int):Nz (Pk l):=Nz.fm λx _=>Qn _
theorem A5n (l:List Int):Nz (A14 l):=Nz.fm λx _=>Qn _
theorem A3g (s:api_Span):Nz (Qq s):=(Qn _).app (Qn _)
theorem A5w [DecidableEq α] (he:∀x,Nz (e x)):∀(l:List α) (b:α) (n:Nat),Nz (Q2 e b n l):=by
 intro l
 induction l with
 | nil=>intro b n;rw [Q2];split;exact Nz.nil;exact Qn _
 | cons x l ih =>
  intro b n;rw [Q2]
  split
  ·exact ih _ _
  ·exact (Qn _).app ((he x).app (ih _ _))
theorem W6 (l:List Int):Nz (Qe l):=by
 have h:∀c:Nat,(0:Int)<=((c%127:Nat):Int)/\((c%127:Nat):Int)<127:=λc=>by have:=Nat.mod_lt c (show 0<127 by decide);omega
 intro x b;unfold Qe B1s at b;simp only [List.mem_cons,List.not_mem_nil,or_false] at b;rcases b with rfl|rfl|rfl|rfl|rfl
 ·have:=h (A3j 1 l);omega
 ·have:=h (A3j 1 l/127);omega
 ·have:=h (A3j 1 l/127/127);omega
 ·have:=h (A3j 1 l/127/127/127);omega
 ·have:=h (A3j 1 l/127/127/127/127);omega
def Tz (s:ByteArray):Prop:=Nz (sby s)
theorem B00 (h:Tz s):Nz (Re s):=(Qn _).app h
def tzT (t:volume_thing):Prop:=t.cs True (λf=>Tz f.key)
theorem A7b (h:tzT t):Nz (Bk t):=by
 cases t with
 | nil_=>exact Nz.nil
 | ic142 f=>exact (Tv _).app ((B00 h).app ((Tv _).app ((A5n _).app ((Tv _).app (A5w A3g _ _ _)))))
def cnt (t:volume_thing):Nat:=t.cs 0 (λf=>f.Field.Vals.length)
theorem Xb (h:okT t):(Bk t).length<=1200+139*cnt t:=by
 cases t with
 | nil_=>exact h.elim
 | ic142 f =>
  obtain ⟨a1,a2,a3,a4,a5,a6,a7,a8,a9⟩:=(show Vt f from h);have l1:=R7 (l:=[(2:Int)]) (by intro x b;simp at b;subst b;exact A05 (by decide));have l2:=A0e a1;have l3:=A2m (l:=[f.Field.Grid.X,f.Field.Grid.Y]) (by intro x b;simp at b;rcases b with rfl|rfl<;>assumption)
  have l4:=R7 (l:=[f.Field.Grid.Size,f.Field.Grid.Wide,f.Field.Grid.High]) (by intro x b;simp at b;rcases b with rfl|rfl|rfl<;>assumption)
  have l6:=R7 (l:=[f.time]) (by intro x b;simp at b;subst b;exact a2);have l5:=A9o (e:=Qq) (c:=18) f.Field.Vals ⟨0,0⟩ 0 (λx b=>A0b (a9 x b)) (by omega);simp only [List.length_cons,List.length_nil] at l1 l3 l4 l6;show (Up f).length<=1200+139*f.Field.Vals.length;simp only [Up,List.length_append];omega
theorem B4k (s:ByteArray):By (sby s):=λx c=>by
 obtain ⟨b,_,rfl⟩:=List.mem_map.1 c;have:=b.toNat_lt;omega
theorem A9z (s:ByteArray):By (Re s):=(Xv _).app (B4k s)
theorem Ty (t:volume_thing):By (Bk t):=by
 cases t with
 | nil_=>exact Nz.nil.by
 | ic142 f=>exact (Tv _).by.app ((A9z _).app ((Tv _).by.app ((A5n _).by.app ((Tv _).by.app (A5w A3g _ _ _).by))))
theorem A4t (h:okT t):(Bk t).length<=14000000:=by
 have h1:=Xb h;have b:cnt t<=100000:=by
  cases t with
  | nil_=>exact h.elim
  | ic142 f=>exact (show Vt f from h).2.2.2.2.2.2.2.1
 omega
def Dt (b:List Int):List Int:=E5 b.length++b
def Ba (t:volume_thing):List Int:=Dt (Bk t)++Qe (Dt (Bk t))
def K3 (t:volume_thing):List Int:=0::Ba t
theorem A9d (h:tzT t):Nz (Dt (Bk t)):=(Qn _).app (A7b h)
theorem A6z (h:tzT t):Nz (Ba t):=(A9d h).app (W6 _)
theorem A1y (f:200000<=F) (h:okT t) (j:(Bk t).length+100<=F):Hc F t=some (K3 t):=by
 have c:=A4t h;have g:=Jg (x:=((Bk t).length:Int)) ⟨by omega,by omega⟩;rw [Int.toNat_natCast] at g;rw [Hc,B2c f h,sbd,P4 (by omega) (by unfold okW;simp) (by intro x d;simp at d;subst d;exact ⟨by omega,by omega⟩) (by simp),sbd];have e:([]:List Int)++Pk [((Bk t).length:Int)]=E5 (Bk t).length:=by simp [Pk]
 simp only [e];rw [Me (by omega) (by decide)];show (Lz F (Dt (Bk t))).bind _=_;have i:(Dt (Bk t)).length=(E5 (Bk t).length).length+(Bk t).length:=by unfold Dt;rw [List.length_append]
 have b:By (Dt (Bk t)):=(Xv _).app (Ty t);rw [A9y (by omega) b (by omega) (by omega),sbd,Me (by rw [List.length_append,Q7];omega) (by decide)];rw [show E5 (Bk t).length++Bk t=Dt (Bk t) from rfl];rw [Me (by rw [List.length_append,Q7];simp;omega) (by decide)];rfl
abbrev RE (α:Type):=Option (Except (Value×volume_reader) (α×volume_reader))
def W7:Value:=.iface 177 (.int .i64 7)
def Rd {α:Type} (y:RE α) (o:Option (α×List Int)):Prop:=match o with
 | some x=>y=some (.ok (x.1,⟨x.2⟩))
 | none=>∃r,y=some (.error (W7,r))
theorem Rd.ok {x:α} :Rd (some (.ok (x,⟨r⟩))) (some (x,r)):=rfl
theorem Rd.bad {r:volume_reader}:Rd (α:=α) (some (.error (W7,r))) none:=⟨r,rfl⟩
theorem By.suf {k:List Int} (h:By l) (hs:k <:+ l):By k:=λx b=>h x (hs.subset b)
def rdD:Nat->Bool->List Int->Option (Int×List Int)
 | 0,_,_=>none
 | _+1,_,[]=>none
 | k+1,f,c::l=>if c=0\/c=255\/(c=1/\f=false) then none else if c<128 then some (c-1,l) else (rdD k false l).map λy=>(c-128+127*y.1,y.2)
def rN (l:List Int):Option (Int×List Int):=rdD 8 true l
theorem B67:∀(k:Nat) (f:Bool) (l:List Int) (x:Int) (r:List Int),By l->rdD k f l=some (x,r)->0<=x/\x<127 ^ k/\r <:+ l:=by
 intro k
 induction k with
 | zero=>intro f l x r _ h;cases h
 | succ k ih =>
  intro f l x r hb h
  cases l with
  | nil=>cases h
  | cons c l =>
   have g:=hb c (by simp);have i:(0:Int)<127 ^ k:=Int.pow_pos (by decide);rw [rdD] at h
   split at h
   ·cases h
   ·rename_i g1
    have g2:c≠0:=λe=>g1 (.inl e);have g3:c≠255:=λe=>g1 (.inr (.inl e));rw [Int.pow_succ]
    split at h
    ·cases h
     exact ⟨by omega,by omega,List.suffix_cons ..⟩
    ·obtain ⟨z,hz,he⟩:=Option.map_eq_some_iff.1 h
     cases he
     obtain ⟨h1,j,b⟩:=ih false l z.1 z.2 (λx d=>hb x (by simp [d])) hz;exact ⟨by omega,by omega,b.trans (List.suffix_cons ..)⟩
theorem Yz (hb:By l) (h:rN l=some (x,r)):0<=x/\x<67675234241018881/\r <:+ l:=by
 have:=B67 8 true l x r hb h;exact this
theorem B4c (p:List Int) (o:By p):∀(m i k:Nat) (n:Int),i+k=8->k<m->0<=n->n<=127 ^ i ->
  Rd (Br ⟨p⟩ (p.take 8) m i n (127 ^ i:Nat)) ((rdD k (i==0) (p.drop i)).map λy=>(n+127 ^ i*y.1,y.2)):=by
 intro m
 induction m with
 | zero=>intro i k n _ h;omega
 | succ m ih =>
  intro i k n q x r z;rw [Br,F6];have s:(127:Int) ^ i<=127 ^ 8:=by
   have:(127:Nat) ^ i<=127 ^ 8:=Nat.pow_le_pow_right (by decide) (by omega)
   exact_mod_cast this
  have e8:(127:Int) ^ 8=67675234241018881:=by decide
  have t:(0:Int)<127 ^ i:=Int.pow_pos (by decide);have ecast:((127 ^ i:Nat):Int)=127 ^ i:=by push_cast;rfl
  rw [ecast]
  by_cases hb:i<(p.take 8).length
  ·have b:i<p.length/\i<8:=by rw [List.length_take] at hb;omega
   obtain ⟨k,rfl⟩:∃k',k=k'+1:=⟨k-1,by omega⟩;have hx:=o p[i] (List.getElem_mem b.1);rw [Bx (dT (by omega)),Ej i p[i] rfl (by rw [List.getElem?_take];rw [if_pos b.2];exact List.getElem?_eq_getElem b.1),List.drop_eq_getElem_cons b.1,rdD];have u:(127:Int) ^ i<=127 ^ 7:=by
    have:(127:Nat) ^ i<=127 ^ 7:=Nat.pow_le_pow_right (by decide) (by omega)
    exact_mod_cast this
   have e7:(127:Int) ^ 7=532875860165503:=by decide
   have j:p[i]*127 ^ i<=256*127 ^ i:=Int.mul_le_mul_of_nonneg_right (by omega) (by omega);have d:0<=p[i]*127 ^ i:=Int.mul_nonneg (by omega) (by omega)
   by_cases c:p[i]=0\/p[i]=255\/(p[i]=1/\(i==0)=false)
   ·rw [if_pos c,Bx ?_]
    ·exact Rd.bad
    ·rcases c with h|h|⟨h1,f⟩
     ·simp [h]
     ·simp [h]
     ·simp at f;simp [h1];omega
   ·rw [if_neg c,Aq ?_]
    ·by_cases hs:p[i]<128
     ·have e1:(p[i]-1)*127 ^ i=p[i]*127 ^ i-127 ^ i:=by rw [Int.sub_mul,Int.one_mul]
      rw [if_pos hs,Bx (dT hs),ckb (by omega),Rv (i+1) (by omega) rfl (by simp;omega),ckb (by omega),ckb (by omega),ckb (by omega),ckb (by omega)];show some (Except.ok (n+(p[i]-1)*127 ^ i,volume_reader.mk (p.drop (i+1))))=some (.ok (n+127 ^ i*(p[i]-1),⟨p.drop (i+1)⟩));rw [Int.mul_comm (127 ^ i) (p[i]-1)]
     ·have e1:(p[i]-128)*127 ^ i=p[i]*127 ^ i-128*127 ^ i:=by rw [Int.sub_mul]
      have e2:(p[i]-128)*127 ^ i<=126*127 ^ i:=Int.mul_le_mul_of_nonneg_right (by have:p[i]≠255:=λe=>c (.inr (.inl e));omega) (by omega);have e3:0<=(p[i]-128)*127 ^ i:=Int.mul_nonneg (by omega) (by omega);have e4:(127:Int) ^ (i+1)=127 ^ i*127:=Int.pow_succ ..;rw [if_neg hs,Aq (dF hs),F8,ckb (by omega),ckb (by omega),ckb (by omega),ckb (by omega),ckb (by omega),ckb (by omega)];have:=ih (i+1) k (n+(p[i]-128)*127 ^ i) (by omega) (by omega) (by omega) (by rw [e4];omega);have ecast2:((127 ^ (i+1):Nat):Int)=127 ^ i*127:=by rw [←e4];push_cast;rfl
      rw [ecast2] at this;rw [show ((i:Int)+1)=((i+1:Nat):Int) by omega];rw [Option.map_map];have ef:(i+1==0)=false:=rfl;rw [ef] at this
      cases l:rdD k false (p.drop (i+1)) with
      | none=>rw [l] at this;exact this
      | some y =>
       rw [l] at this;have this':_=some (Except.ok (n+(p[i]-128)*127 ^ i+127 ^ (i+1)*y.1,volume_reader.mk y.2)):=this;show _=some (Except.ok (n+127 ^ i*(p[i]-128+127*y.1),volume_reader.mk y.2));rw [this',e4,Int.mul_add,Int.mul_comm (127 ^ i) (p[i]-128),←Int.add_assoc,←Int.mul_assoc]
    ·have h1:¬p[i]=0:=λe=>c (.inl e);have f:¬p[i]=255:=λe=>c (.inr (.inl e));simp only [beq_eq_false_iff_ne.2 h1,beq_eq_false_iff_ne.2 f,cond_false]
     by_cases g:p[i]=1
     ·have v:i=0:=by
       rcases Nat.eq_zero_or_pos i with h|h
       ·exact h
       ·exact absurd (.inr (.inr ⟨g,by simp;omega⟩)) c
      simp [g,v]
     ·simp [g]
  ·rw [Aq (dF (by omega)),F7];have:rdD k (i==0) (p.drop i)=none:=by
    rw [List.length_take] at hb;rcases Nat.eq_zero_or_pos k with h|h
    ·subst h;rfl
    ·rw [List.drop_of_length_le (by omega)];obtain ⟨k,rfl⟩:∃k',k=k'+1:=⟨k-1,by omega⟩;rfl
   rw [this];exact Rd.bad
theorem Ra (d:1000<=F) (c:By p):Rd (Am F ⟨p⟩) (rN p):=by
 rw [Am];have h:(K4 p (0:Int) (if 8<(p.length:Int) then 8 else (p.length:Int))).bind (λl80=>Br ⟨p⟩ l80 F 0 0 1)=Br ⟨p⟩ (p.take 8) F 0 0 1:=by
  by_cases e:8<p.length
  ·rw [if_pos (by omega),Vc 8 (by rfl) (by rfl) (by omega)]
  ·rw [if_neg (by omega),Vc p.length (by rfl) (by rfl) (by omega),List.take_of_length_le (by omega),List.take_of_length_le (by omega)]
 show Rd ((K4 p (0:Int) (if 8<(p.length:Int) then 8 else (p.length:Int))).bind (λl80=>Br ⟨p⟩ l80 F 0 0 1)) _;rw [h];have:=B4c p c F 0 8 0 (by omega) (by omega) (by omega) (by decide)
 cases b:rN p with
 | none =>
  rw [show rdD 8 (0==0) (p.drop 0)=none from b] at this;exact this
 | some y =>
  rw [show rdD 8 (0==0) (p.drop 0)=some y from b] at this;have this':_=some (Except.ok (0+127 ^ 0*y.1,volume_reader.mk y.2)):=this;rw [show (0:Int)+127 ^ 0*y.1=y.1 by simp] at this';exact this'
def unz (n:Int):Int:=if n%2=1 then -((n+1)/2) else n/2
def rI (l:List Int):Option (Int×List Int):=(rN l).bind λy=>some (unz y.1,y.2)
def rT (l:List Int):Option (ByteArray×List Int):=(rN l).bind λy=>if y.1>(y.2.length:Int) then none else some (bst (y.2.take y.1.toNat),y.2.drop y.1.toNat)
def rS (l:List Int):Option (api_Span×List Int):=(rI l).bind λy=>(rN y.2).bind λz=>some (⟨y.1,y.1+z.1⟩,z.2)
theorem A3r {f:α×List Int->Option β} {y:β} (h:o.bind f=some y):∃x r,o=some (x,r)/\f (x,r)=some y:=by
 obtain ⟨⟨x,r⟩,h1,b⟩:=Option.bind_eq_some_iff.1 h;exact ⟨x,r,h1,b⟩
def B3x (x:Int):Prop:=-67675234241018881<=x/\x<=67675234241018881
theorem B4s {n:Int} (h:0<=n/\n<67675234241018881):B3x (unz n):=by
 unfold unz B3x;split<;>omega
theorem B2s (hb:By l) (h:rI l=some (x,r)):B3x x/\r <:+ l:=by
 obtain ⟨n,r',h1,d⟩:=A3r h
 cases d
 obtain ⟨a,b,c⟩:=Yz hb h1;exact ⟨B4s ⟨a,b⟩,c⟩
def okS' (s:api_Span):Prop:=-67675234241018881<=s.Lo/\s.Lo<=s.Hi/\s.Hi<=200000000000000000
theorem okS'.ok {s:api_Span} (h:okS' s):okS s:=by obtain ⟨a,b,c⟩:=h;exact ⟨by omega,b,by omega⟩
theorem B69 {x:api_Span} (hb:By l) (h:rS l=some (x,r)):okS' x/\r <:+ l:=by
 obtain ⟨lo,r1,h1,g⟩:=A3r h;obtain ⟨n,r2,i,j⟩:=A3r g
 cases j
 obtain ⟨⟨a,b⟩,c⟩:=B2s hb h1;obtain ⟨d,e,f⟩:=Yz (hb.suf c) i;exact ⟨⟨a,by simp only;omega,by simp only;omega⟩,f.trans c⟩
def Rq {α:Type} (y:Option (α×volume_reader)) (o:Option (α×List Int)):Prop:=y=o.map λx=>(x.1,⟨x.2⟩)
theorem Rd.bindq {y:RE α} (h:Rd y o) {f:α×volume_reader->Option (β×volume_reader)} (b:∀x r,o=some (x,r)->Rq (f (x,⟨r⟩)) (g (x,r))) :
  Rq (y.bind λz=>exc z (λe=>none) f) (o.bind g):=by
 cases o with
 | none=>obtain ⟨r,c⟩:=h;rw [c];rfl
 | some x =>
  rw [show y=some (.ok (x.1,⟨x.2⟩)) from h];exact b x.1 x.2 rfl
theorem Rq.bind {y:Option (α×volume_reader)} (h:Rq y o) {f:α×volume_reader->Option (β×volume_reader)} (b:∀x r,o=some (x,r)->Rq (f (x,⟨r⟩)) (g (x,r))) :
  Rq (y.bind f) (o.bind g):=by
 cases o with
 | none=>rw [show y=none from h];rfl
 | some x =>
  rw [show y=some (x.1,⟨x.2⟩) from h];exact b x.1 x.2 rfl
theorem Rq.ok {x:α} :Rq (some (x,⟨r⟩)) (some (x,r)):=rfl
theorem Rq.bad:Rq (α:=α) none none:=rfl
theorem Wr (f:1000<=F) (d:By p):Rq (C2 F ⟨p⟩) (rI p):=by
 rw [C2,rI];refine (Ra f d).bindq λn r h=>?_;obtain ⟨a,b,c⟩:=Yz d h;have e:J9 n 2=some (n%2):=by
  unfold J9;rw [if_neg (by decide),Int.tmod_eq_emod_of_nonneg a]
 show Rq ((J9 n 2).bind _) _;rw [e,sbd];unfold unz
 by_cases h1:n%2=1
 ·rw [if_pos h1,Bx (by simp [h1]),ckb (by omega)];have ew:IntKind.i64.wrap (0-(n+1))=-(n+1):=by
   simp only [IntKind.wrap,IntKind.signed,IntKind.bits];simp;omega
  have eq:Mc (IntKind.i64.wrap (0-(n+1))) 2=some (-((n+1)/2)):=by
   rw [ew];unfold Mc;rw [if_neg (by decide),Int.neg_tdiv,Int.tdiv_eq_ediv_of_nonneg (by omega)];unfold ck;rw [if_pos (by omega)]
  show Rq ((Mc (IntKind.i64.wrap (0-(n+1))) 2).bind _) _;rw [eq];exact Rq.ok
 ·rw [if_neg h1,Aq (by simp [h1])];have eq:Mc n 2=some (n/2):=by
   unfold Mc;rw [if_neg (by decide),Int.tdiv_eq_ediv_of_nonneg a];unfold ck;rw [if_pos (by omega)]
  show Rq ((Mc n 2).bind _) _;rw [eq];exact Rq.ok
theorem B4e (e:1000<=F) (d:By p):Rq (Ei F ⟨p⟩) (rT p):=by
 rw [Ei,rT];refine (Ra e d).bindq λn r h=>?_;obtain ⟨a,b,c⟩:=Yz d h;show Rq (bif decide (n>(r.length:Int)) then _ else _) (if n>(r.length:Int) then _ else _)
 by_cases h1:n>(r.length:Int)
 ·rw [if_pos h1,Bx (dT h1)];exact Rq.bad
 ·rw [if_neg h1,Aq (dF h1),Fz];have en:n=((n.toNat:Nat):Int):=by omega
  rw [Vc n.toNat rfl en (show n.toNat<=r.length by omega),Rv n.toNat en rfl (show n.toNat<=r.length by omega)];exact Rq.ok
theorem B4d (i:1000<=F) (g:By p):Rq (Fu F ⟨p⟩) (rS p):=by
 rw [Fu,rS];refine (Wr i g).bind λx r h=>?_;obtain ⟨⟨a,b⟩,c⟩:=B2s g h;refine (Ra i (g.suf c)).bindq λn r2 j=>?_;obtain ⟨d,e,f⟩:=Yz (g.suf c) j;rw [ckb (by simp only;omega)];exact Rq.ok
def rL {α:Type} [DecidableEq α] (rd:List Int->Option (α×List Int)):Nat->Nat->α->List Int->Option (List α×List Int)
 | 0,_,_,_=>none
 | m+1,n,b,l=>if n=0 then some ([],l) else (rN l).bind λy=>if y.1>(n:Int) then none else if n=y.1.toNat then some (List.replicate n b,y.2) else
   (rd y.2).bind λz=>if z.1=b then none else (rL rd m (n-y.1.toNat-1) z.1 z.2).map λu=>(List.replicate y.1.toNat b++z.1::u.1,u.2)
theorem B4h (F:Nat) (N:Int) (b:api_Span) (k2:Int->Int->List Int->List api_Span->Option (List api_Span×volume_reader)) (y:Int×volume_reader) (d:y.1<=1000000):∀(m i:Nat) (out:List api_Span),(i:Int)<=y.1->y.1-i<m->out.length+(y.1-i)<=2000000 ->
  Bh F N b.Lo b.Hi k2 y m i out=Cf F N b.Lo b.Hi k2 y (out++List.replicate (y.1-i).toNat b):=by
 intro m
 induction m with
 | zero=>intro i out h1 c;omega
 | succ m ih =>
  intro i out h1 c e;rw [Bh,D2]
  by_cases hb:(i:Int)<y.1
  ·rw [Bx (dT hb),Me (by simp;omega) (by decide),ckb (by omega)];have:=ih (i+1) (out++[b]) (by omega) (by omega) (by simp;omega);show Bh F N b.Lo b.Hi k2 y m ((i:Int)+1) (out++[b])=_;rw [show ((i:Int)+1)=((i+1:Nat):Int) by omega,this,List.append_assoc]
   congr 2
   rw [show (y.1-(i:Int)).toNat=(y.1-((i+1:Nat):Int)).toNat+1 by omega,List.replicate_succ];rfl
  ·rw [Aq (dF hb),show (y.1-(i:Int)).toNat=0 by omega];simp
theorem B6f (F:Nat) (q:200000<=F) (N:Nat) (s:N<=100000):∀(m m':Nat) (b:api_Span) (l:List Int) (out:List api_Span),By l->out.length<=N->N-out.length<m->N-out.length<m' ->
  Rq (B7 F N m b.Lo b.Hi l out) ((rL rS m' (N-out.length) b l).map λu=>(out++u.1,u.2)):=by
 intro m
 induction m with
 | zero=>intro m' b l out _ _ h;omega
 | succ m ih =>
  intro m' b l out hb ho t n;obtain ⟨m',rfl⟩:∃k,m'=k+1:=⟨m'-1,by omega⟩;rw [B7,Cc,rL]
  by_cases i:N-out.length=0
  ·rw [if_pos i,Aq (dF (by omega)),Ce];show _=some (out++[],volume_reader.mk l);rw [List.append_nil]
  ·rw [if_neg i,Bx (dT (by omega)),Option.map_bind];refine (Ra (by omega) hb).bindq λk r h=>?_;obtain ⟨a,b1,c⟩:=Yz hb h;rw [ckb (by omega)];simp only [Function.comp]
   by_cases j:k>((N-out.length:Nat):Int)
   ·rw [if_pos j,Bx (dT (by omega))];exact Rq.bad
   ·rw [if_neg j,Aq (dF (by omega)),D3];have o:=B4h F N b (B7 F N m) (k,⟨r⟩) (by simp only;omega) F 0 out (by simp only;omega) (by simp only;omega) (by simp only;omega);rw [show (0:Int)=((0:Nat):Int) from rfl,o,Cf,show (k-((0:Nat):Int)).toNat=k.toNat by omega]
    by_cases d:N-out.length=k.toNat
    ·rw [if_pos d,Aq (dF (by simp;omega))]
     cases m with
     | zero=>omega
     | succ m =>
      rw [B7,Cc,Aq (dF (by simp;omega)),Ce,d];rfl
    ·rw [if_neg d,Bx (dT (by simp;omega)),Option.map_bind];have e:=hb.suf c;refine (B4d (by omega) e).bind λx r2 p=>?_;have g:=e.suf (B69 e p).2;simp only [Function.comp];rw [A1p x b]
     by_cases f:x=b
     ·rw [if_pos f,Bx (dT f)];exact Rq.bad
     ·rw [if_neg f,Aq (dF f),D4,Me (by simp;omega) (by decide)];have:=ih m' x r2 (out++List.replicate k.toNat b++[x]) g (by simp;omega) (by simp;omega) (by simp;omega);rw [show N-(out++List.replicate k.toNat b++[x]).length=N-out.length-k.toNat-1 by simp;omega] at this;rw [Option.map_map];simp only [Function.comp_def]
      simpa only [List.append_assoc,List.cons_append,List.nil_append] using this
theorem B1e (c:200000<=F) {N:Nat} (d:N<=100000) (e:By l) (b:api_Span):Rq (Ct F ⟨l⟩ N b) (rL rS (N+1) N b l):=by
 rw [Ct];have:=B6f F c N d F (N+1) b l [] e (by simp) (by simp;omega) (by simp)
 simpa using this
theorem Vv (c:1000<=F) (d:By p):(∃r,Bm F ⟨p⟩=some (0,false,r)/\rN p=none)\/∃n r,Bm F ⟨p⟩=some (n,true,⟨r⟩)/\rN p=some (n,r):=by
 have h:=Ra c d;unfold Bm
 cases b:rN p with
 | none =>
  rw [b] at h;obtain ⟨r,h⟩:=h;rw [h];exact .inl ⟨_,rfl,rfl⟩
 | some y =>
  rw [b] at h;rw [show Am F ⟨p⟩=some (.ok (y.1,⟨y.2⟩)) from h];exact .inr ⟨y.1,y.2,rfl,rfl⟩
theorem A5x (h:By l):sby (bst l)=l:=by
 unfold sby bst;simp only [List.map_map]
 conv=>rhs;rw [←List.map_id l]
 apply List.map_congr_left;intro x b;have:=h x b;simp only [Function.comp,id];rw [UInt8.toNat_ofNat_of_lt' (show x.toNat<256 by omega)];omega
theorem A55 (s:ByteArray):bst (sby s)=s:=by
 unfold sby bst
 cases s with
 | mk d =>
  congr 1
  apply Array.toList_inj.1;simp only [List.map_map]
  conv=>rhs;rw [←List.map_id d.toList]
  apply List.map_congr_left;intro x b;simp
theorem bEq {a b:List Int} (c:By a) (hb:By b):H3 a b=decide (a=b):=by
 unfold H3;rw [Bool.eq_iff_iff,Vx,decide_eq_true_eq];exact ⟨λh=>by rw [←A5x c,←A5x hb,h],λh=>by rw [h]⟩
theorem B4a:∀(k n:Nat) (f:Bool) (r:List Int),n<127 ^ (k+1)->(f=true\/n≠0)->rdD (k+1) f (E5 n++r)=some ((n:Int),r):=by
 intro k
 induction k with
 | zero =>
  intro n f r h d;have e:n<127:=by simpa using h
  rw [S5 e];show rdD 1 f (((n:Int)+1)::r)=_;rw [rdD,if_neg ?_,if_pos (by omega)]
  ·congr 2;omega
  ·rintro (h1|h1|⟨h1,b⟩)
   ·omega
   ·omega
   ·rcases d with c|c
    ·rw [c] at b;cases b
    ·omega
 | succ k ih =>
  intro n f r h d
  by_cases e:n<127
  ·rw [S5 e];show rdD (k+1+1) f (((n:Int)+1)::r)=_;rw [rdD,if_neg ?_,if_pos (by omega)]
   ·congr 2;omega
   ·rintro (h1|h1|⟨h1,b⟩)
    ·omega
    ·omega
    ·rcases d with c|c
     ·rw [c] at b;cases b
     ·omega
  ·rw [Vr (by omega)];have g:=Nat.mod_lt n (show 0<127 by decide);show rdD (k+1+1) f ((128+((n%127:Nat):Int))::(E5 (n/127)++r))=_;rw [rdD,if_neg (by rintro (h1|h1|⟨h1,b⟩)<;>omega),if_neg (by omega),ih (n/127) false r (Nat.div_lt_of_lt_mul (by rw [Nat.pow_succ] at h;omega)) (.inr (by omega))];show some (128+((n%127:Nat):Int)-128+127*((n/127:Nat):Int),r)=_
   congr 2;omega
theorem T8 (r:List Int) (h:n<67675234241018881):rN (E5 n++r)=some ((n:Int),r):=B4a 7 n true r h (.inl rfl)
def sm (x:Int):Prop:=-1000000000000000<=x/\x<=1000000000000000
theorem A08 (r:List Int) (b:0<=x) (h:sm x):rN (E5 x.toNat++r)=some (x,r):=by
 rw [T8 r (by have:=h.2;omega)];congr 2;omega
theorem B1x (x:Int):unz (zig x:Int)=x:=by
 unfold unz zig
 split<;>split<;>omega
theorem A9i (r:List Int) (h:sm x):rI (E5 (zig x)++r)=some (x,r):=by
 obtain ⟨h1,b⟩:=h;rw [rI,T8 r (by unfold zig;split<;>omega)];show some (unz (zig x:Int),r)=_;rw [B1x]
theorem B6b (r:List Int) (h:s.size<=1000000):rT (Re s++r)=some (s,r):=by
 rw [rT,Re,List.append_assoc,T8 _ (by omega)];have b:=Qp s;show (if ((s.size:Nat):Int)>((sby s++r).length:Int) then none else some (bst ((sby s++r).take ((s.size:Nat):Int).toNat),(sby s++r).drop ((s.size:Nat):Int).toNat))=_;rw [if_neg (by rw [List.length_append];omega),Int.toNat_natCast,List.take_left' b,List.drop_left' b,A55]
def smS (s:api_Span):Prop:=-1000000000<=s.Lo/\s.Lo<=s.Hi/\s.Hi<=2000000000
theorem B6a {s:api_Span} (r:List Int) (h:smS s):rS (Qq s++r)=some (s,r):=by
 obtain ⟨h1,b,c⟩:=h;rw [rS,Qq,List.append_assoc,A9i _ ⟨by omega,by omega⟩];show (rN (E5 (s.Hi-s.Lo).toNat++r)).bind _=_;rw [A08 r (by omega) ⟨by omega,by omega⟩];show some ((⟨s.Lo,s.Lo+(s.Hi-s.Lo)⟩:api_Span),r)=_;rw [show s.Lo+(s.Hi-s.Lo)=s.Hi by omega]
theorem B4b [DecidableEq α] {rd:List Int->Option (α×List Int)} (r:List Int):∀(l:List α) (n m:Nat) (b:α),n+l.length<m->n+l.length<1000000000->(∀x∈l,∀r,rd (e x++r)=some (x,r)) ->
  rL rd m (n+l.length) b (Q2 e b n l++r)=some (List.replicate n b++l,r):=by
 intro l
 induction l with
 | nil =>
  intro n m b f g d;obtain ⟨m,rfl⟩:∃k,m=k+1:=⟨m-1,by omega⟩;rw [rL,Q2];simp only [List.length_nil,Nat.add_zero] at f g ⊢
  by_cases c:n=0
  ·rw [if_pos c,if_pos c,c];rfl
  ·rw [if_neg c,if_neg c,T8 _ (by omega)];show (if (n:Int)>(n:Int) then none else if n=((n:Nat):Int).toNat then some (List.replicate n b,r) else _)=_;rw [if_neg (by omega),if_pos (by omega),List.append_nil]
 | cons x l ih =>
  intro n m b f g d;simp only [List.length_cons] at f g ⊢;rw [Q2]
  by_cases hb:x=b
  ·rw [if_pos hb];have:=ih (n+1) m b (by omega) (by omega) (λy i=>d y (by simp [i]));rw [show n+(l.length+1)=n+1+l.length by omega,this,hb,List.replicate_succ',List.append_assoc];rfl
  ·rw [if_neg hb];obtain ⟨m,rfl⟩:∃k,m=k+1:=⟨m-1,by omega⟩;rw [rL,if_neg (by omega),List.append_assoc,T8 _ (by omega)];show (if (n:Int)>((n+(l.length+1):Nat):Int) then none else if n+(l.length+1)=((n:Nat):Int).toNat then _ else (rd ((e x++Q2 e x 0 l)++r)).bind λz=>if z.1=b then none else (rL rd m (n+(l.length+1)-((n:Nat):Int).toNat-1) z.1 z.2).map λu=>(List.replicate ((n:Nat):Int).toNat b++z.1::u.1,u.2))=_;rw [if_neg (by omega),if_neg (by omega),List.append_assoc,d x (by simp)];show (if x=b then none else (rL rd m (n+(l.length+1)-((n:Nat):Int).toNat-1) x (Q2 e x 0 l++r)).map λu=>(List.replicate ((n:Nat):Int).toNat b++x::u.1,u.2))=_;have:=ih 0 m x (by omega) (by omega) (λy i=>d y (by simp [i]));rw [if_neg hb,Int.toNat_natCast,show n+(l.length+1)-n-1=0+l.length by omega,this];rfl
theorem B68 [DecidableEq α] {rd:List Int->Option (α×List Int)} (r:List Int) (l:List α) (b:α) (d:l.length<1000000000) (c:∀x∈l,∀r,rd (e x++r)=some (x,r)) :
  rL rd (l.length+1) l.length b (Q2 e b 0 l++r)=some (l,r):=by
 have:=B4b (rd:=rd) r l 0 (l.length+1) b (by omega) (by omega) c
 simpa using this
end Go.Proofs.YtjfhcbjhjeklbaaGreat
namespace Go.Proofs.YtjfhcbjhjeklbaaGreat
open Go Go.RowKit Go.Eng Go.Sort
set_option linter.unusedVariables false
variable {β α:Type} {x i:Int} {f:List α->Option β} {g:α×List Int->Option (β×List Int)} {o:Option (α×List Int)} {p l r:List Int} {n F:Nat} {w:volume_writer} {s:ByteArray} {e:α->List Int} {t:volume_thing}
theorem Qj:∀a b:List Int,(Le a b<0↔0<Le b a)/\(Le a b=0↔a=b)
 | [],[]=>by simp [Le]
 | [],_::_=>by simp [Le]
 | _::_,[]=>by simp [Le]
 | x::a,y::b=>by
  have ih:=Qj a b;unfold Le
  by_cases h:x<y
  ·rw [if_pos h,if_neg (show ¬y<x by omega),if_pos h];have:x≠y:=by omega
   simp [this]
  ·rw [if_neg h]
   by_cases h':y<x
   ·rw [if_pos h',if_pos h'];have:x≠y:=by omega
    simp [this]
   ·rw [if_neg h',if_neg h',if_neg h];obtain rfl:x=y:=by omega
    simp only [List.cons.injEq,true_and];exact ih
theorem Wz:∀a b c:List Int,Le a b<=0->Le b c<=0->Le a c<=0
 | [],_,[]=>by simp [Le]
 | [],_,_::_=>by simp [Le]
 | _::_,[],_=>by simp [Le]
 | _::_,_::_,[]=>by simp [Le]
 | x::a,y::b,z::c=>by
  have ih:=Wz a b c;unfold Le
  by_cases h:x<y
  ·rw [if_pos h]
   by_cases d:y<z
   ·rw [if_pos d,if_pos (show x<z by omega)];omega
   ·rw [if_neg d]
    by_cases e:z<y
    ·rw [if_pos e];omega
    ·rw [if_neg e,if_pos (show x<z by omega)];omega
  ·rw [if_neg h]
   by_cases h':y<x
   ·rw [if_pos h'];omega
   ·rw [if_neg h'];obtain rfl:x=y:=by omega
    by_cases d:x<z
    ·rw [if_pos d,if_pos d];omega
    ·rw [if_neg d,if_neg d]
     by_cases e:z<x
     ·rw [if_pos e];omega
     ·rw [if_neg e,if_neg e];exact ih
theorem A3u (a:List Int):Le a a=0:=(Qj a a).2.2 rfl
theorem R3 (x y:volume_entry):Dk x y<0↔0<Dk y x:=by
 unfold Dk
 by_cases h:x.time=y.time
 ·rw [if_pos h,if_pos h.symm];exact (Qj _ _).1
 ·rw [if_neg h,if_neg (Ne.symm h)];omega
theorem Uo {x y:volume_entry} (h:Dk x y=0):x=y:=by
 unfold Dk at h
 by_cases h':x.time=y.time
 ·rw [if_pos h'] at h;have:=(Qj _ _).2.1 h
  cases x;cases y;simp_all
 ·rw [if_neg h'] at h;omega
theorem Un (x:volume_entry):Dk x x=0:=by unfold Dk;rw [if_pos rfl];exact A3u _
theorem Nt {x y z:volume_entry} (h:Dk x y<=0) (h':Dk y z<=0):Dk x z<=0:=by
 unfold Dk at *
 by_cases h1:x.time=y.time
 ·rw [if_pos h1] at h
  by_cases b:y.time=z.time
  ·rw [if_pos b] at h';rw [if_pos (h1.trans b)];exact Wz _ _ _ h h'
  ·rw [if_neg b] at h';rw [if_neg (by omega)];omega
 ·rw [if_neg h1] at h
  by_cases b:y.time=z.time
  ·rw [if_neg (by omega)];omega
  ·rw [if_neg b] at h';rw [if_neg (by omega)];omega
theorem Ky {x y:volume_entry}:¬Dk x y<0↔Dk y x<=0:=by rw [R3];omega
theorem enSWO:SWO (ltOf Dk):=by
 constructor
 ·intro x;unfold ltOf;rw [Un];rfl
 ·intro x y z h1 b;unfold ltOf at *;simp only [decide_eq_true_eq] at *;apply Classical.byContradiction;intro c;have d:=Nt (Ky.1 c) (show Dk x y<=0 by omega);have:=(R3 y z).1 b;omega
 ·intro x y z h1 b;unfold ltOf at *;simp only [decide_eq_false_iff_not] at *;exact Ky.2 (Nt (Ky.1 b) (Ky.1 h1))
theorem A6h {l m:List volume_entry} (e:m.Perm l) (hs:m.Pairwise (λx y=>ltOf Dk y x=false)):m=l.mergeSort λx y=>decide (Dk x y<=0):=by
 refine List.Perm.eq_of_pairwise (le:=λx y=>Dk x y<=0) (λx y _ _ h1 d=>?_) (hs.imp λ{x y} h=>?_) ?_ (e.trans (List.mergeSort_perm _ _).symm)
 ·refine Uo ?_;have:=R3 x y;omega
 ·unfold ltOf at h;exact Ky.1 (by simpa using h)
 ·refine (List.pairwise_mergeSort (le:=λx y=>decide (Dk x y<=0)) (λa b c h1 d=>?_) (λa b=>?_) l).imp λ{x y} h=>by simpa using h
  ·simp only [decide_eq_true_eq] at *;exact Nt h1 d
  ·simp only [Bool.or_eq_true,decide_eq_true_eq]
   by_cases h:Dk a b<0
   ·left;omega
   ·right;exact Ky.1 h
end Go.Proofs.YtjfhcbjhjeklbaaGreat
