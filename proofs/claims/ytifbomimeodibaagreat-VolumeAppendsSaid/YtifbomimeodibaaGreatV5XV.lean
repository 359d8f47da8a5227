import Derived.Test.YtifbomimeodibaaGreatV5XD
import Derived.Lib.DecodeN
set_option linter.unusedVariables false
set_option linter.unusedSimpArgs false
set_option linter.unusedSectionVars false
namespace Go.Proofs.YtifbomimeodibaaGreat
open Go Go.RowKit Go.Eng
set_option maxRecDepth 10000
set_option linter.unusedVariables false
set_option linter.unusedSimpArgs false
theorem ckb {β:Type} {x:Int} {f:Int→Option β} (h:-9000000000000000000≤x∧x≤9000000000000000000):(ck x).bind f=f x:=by
 unfold ck;rw [if_pos (by omega)];rfl
theorem gdT {α:Type} {g:Bool} {o:Option α} {d:α} (h:g=true):gd g o d=o:=by subst h;rfl
theorem gdF {α:Type} {g:Bool} {o:Option α} {d:α} (h:g=false):gd g o d=some d:=by subst h;rfl
theorem Ap {α:Type} {c:Bool} {x y:α} (h:c=true):(bif c then x else y)=x:=by rw [h];rfl
theorem An {α:Type} {c:Bool} {x y:α} (h:c=false):(bif c then x else y)=y:=by rw [h];rfl
theorem sb {α β:Type} {x:α} {f:α→Option β}:(some x).bind f=f x:=rfl
theorem dT {p:Prop} [Decidable p] (h:p):decide p=true:=decide_eq_true h
theorem dF {p:Prop} [Decidable p] (h:¬p):decide p=false:=decide_eq_false h
theorem Fk {α β:Type} {l:List α} {i:Int} {f:α→Option β} (n:Nat) (x:α) (hi:i=(n:Int)) (h:l[n]? = some x):(C5 l i).bind f=f x:=by
 subst hi
 unfold C5
 rw [if_pos (by omega),show ((n:Int)).toNat=n by omega,h]
 rfl
theorem Hl {α β:Type} {l k:List α} {B:Nat} {f:List α→Option β} (h:(l.length+k.length)*B≤140737488355328) (hB:1≤B):(apd B l k).bind f=f (l++k):=by
 unfold apd
 have:l.length+k.length≤(l.length+k.length)*B:=Nat.le_mul_of_pos_right _ hB
 rw [if_pos ⟨h,by omega⟩]
 rfl
theorem Zw {α β:Type} {l:List α} {i j:Int} {f:List α→Option β} (m n:Nat) (hi:i=(m:Int)) (hj:j=(n:Int)) (h:m≤n∧n≤l.length):(Gz l i j).bind f=f ((l.drop m).take (n-m)):=by
 subst hi;subst hj
 unfold Gz
 rw [if_pos (by omega)]
 rfl
theorem Nb {α β:Type} {l:List α} {i j:Int} {f:List α→Option β} (n:Nat) (hi:i=0) (hj:j=(n:Int)) (h:n≤l.length):(Gz l i j).bind f=f (l.take n):=by
 rw [Zw 0 n hi hj ⟨Nat.zero_le _,h⟩];simp
theorem K4 {α β:Type} {l:List α} {i j:Int} {f:List α→Option β} (m:Nat) (hi:i=(m:Int)) (hj:j=(l.length:Int)) (h:m≤l.length):(Gz l i j).bind f=f (l.drop m):=by
 rw [Zw m l.length hi hj ⟨h,Nat.le_refl _⟩,List.take_of_length_le (by simp)]
def FV:Nat:=200000
def By (l:List Int):Prop:=∀x∈l,0≤x∧x<256
theorem By.app {l k:List Int} (h:By l) (h':By k):By (l++k):=fun x hx=>(List.mem_append.1 hx).elim (h x) (h' x)
theorem Ud {x:Int} (h:0≤x∧x<256):IntKind.u8.wrap x=x:=by
 have:=h.1;have:=h.2
 simp only [IntKind.wrap,IntKind.signed,IntKind.bits]
 simp
 omega
def F8 (n:Nat):List Int:=if h:n<127 then [(n:Int)+1] else (128+((n%127:Nat):Int))::F8 (n/127)
termination_by n
theorem T8 {n:Nat} (h:n<127):F8 n=[(n:Int)+1]:=by rw [F8,dif_pos h]
theorem Uv {n:Nat} (h:127≤n):F8 n=(128+((n%127:Nat):Int))::F8 (n/127):=by rw [F8,dif_neg (by omega)]
theorem Xp:∀(k n:Nat),n<127 ^ (k+1)→(F8 n).length≤k+1:=by
 intro k
 induction k with
 | zero=>intro n h;rw [T8 (by simpa using h)];simp
 | succ k ih =>
  intro n h
  by_cases hn:n<127
  ·rw [T8 hn];simp
  ·rw [Uv (by omega),List.length_cons]
   have:=ih (n/127) (Nat.div_lt_of_lt_mul (by rw [Nat.pow_succ] at h;omega))
   omega
theorem Zj (n:Nat):∀x∈F8 n,1≤x∧x<255:=by
 induction n using Nat.strongRecOn with
 | _ n ih =>
  intro x hx
  by_cases hn:n<127
  ·rw [T8 hn] at hx;simp at hx;omega
  ·rw [Uv (by omega)] at hx
   rcases List.mem_cons.1 hx with rfl|hx
   ·have:=Nat.mod_lt n (show 0<127 by decide);omega
   ·exact ih (n/127) (Nat.div_lt_self (by omega) (by decide)) x hx
theorem tdm (n:Nat):Nw (n:Int) 127=some ((n%127:Nat):Int)∧Mr (n:Int) 127=ck ((n/127:Nat):Int):=by
 unfold Nw Mr
 rw [if_neg (by decide),if_neg (by decide)]
 exact ⟨by congr 1,by congr 1⟩
theorem A5o (x307:Int) (k1:List Int→Int→Option volume_writer) (h0:0≤x307∧x307≤1000000000000):∀(F k n:Nat) (l:List Int),n<127 ^ (k+1)→k<10→k<F→n≤4611686018427387904→l.length+k≤1000000000000 →
  D9 x307 k1 F l n=k1 (l++F8 n) (x307+1):=by
 intro F
 induction F with
 | zero=>intro k n l h hk hF;omega
 | succ F ih =>
  intro k n l h hk hF hn hl
  rw [D9,Fe]
  by_cases hb:(n:Int)≥127
  ·rw [Ap (dT hb),(tdm n).1,sb]
   have:=Nat.mod_lt n (show 0<127 by decide)
   rw [ckb (by omega),Ud (by omega),Hl (by simp;omega) (by decide),(tdm n).2]
   have hd:n/127≤n:=Nat.div_le_self _ _
   rw [ckb (by omega)]
   cases k with
   | zero=>simp at h;omega
   | succ k =>
    rw [ih k (n/127) _ (Nat.div_lt_of_lt_mul (by rw [Nat.pow_succ] at h;omega)) (by omega) (by omega) (by omega) (by simp;omega),Uv (n:=n) (by omega)]
    simp
  ·rw [An (dF hb),Fg,ckb (by omega),Ud (by omega),Hl (by simp;omega) (by decide),Ff,ckb (by omega),T8 (by omega),show (1:Int)+n=n+1 by omega]
def okN (x:Int):Prop:=0≤x∧x≤4611686018427387904
def H4 (l:List Int):List Int:=l.flatMap fun x=>F8 x.toNat
theorem D7 {x:Int} (h:okN x):(F8 x.toNat).length≤9:=Xp 8 x.toNat (by have:=h.1;have:=h.2;omega)
theorem A5n (F:Nat) (p1:List Int) (hF:100≤F) (hp:∀x∈p1,okN x):∀(m i:Nat) (l:List Int),p1.length-i<m→i≤p1.length→p1.length≤100→l.length+9*(p1.length-i)≤999999999000 →
  D8 F p1 m l i=some ⟨l++H4 (p1.drop i)⟩:=by
 intro m
 induction m with
 | zero=>intro i l h;omega
 | succ m ih =>
  intro i l h hi hp1 hl
  rw [D8,Fc]
  by_cases hb:i<p1.length
  ·have hx:=hp p1[i] (List.getElem_mem hb)
   have h9:=D7 hx
   rw [Ap (dT (by omega)),Fk i p1[i] rfl (List.getElem?_eq_getElem hb)]
   have e:p1[i]=((p1[i].toNat:Nat):Int):=by have:=hx.1;omega
   rw [e,A5o i _ (by omega) F 8 p1[i].toNat l (by have:=hx.1;have:=hx.2;omega) (by decide) (by omega) (by have:=hx.2;omega) (by omega)]
   rw [show ((i:Int)+1)=((i+1:Nat):Int) by omega,ih (i+1) _ (by omega) (by omega) hp1 (by rw [List.length_append];omega),List.drop_eq_getElem_cons hb]
   simp only [H4,List.flatMap_cons,List.append_assoc]
  ·rw [An (dF (by omega)),List.drop_of_length_le (by omega)]
   simp [H4]
def okW (l:List Int):Prop:=l.length≤999999990000
theorem Gm {F:Nat} (hF:1000≤F) {w:volume_writer} {l:List Int} (hw:okW w.b) (hl:∀x∈l,okN x) (hn:l.length≤100):Ao F w l=some ⟨w.b++H4 l⟩:=by
 rw [Ao]
 unfold okW at hw
 exact A5n F l (by omega) hl F 0 w.b (by omega) (by omega) hn (by omega)
def zig (x:Int):Nat:=if x<0 then (-2*x-1).toNat else (2*x).toNat
def okZ (x:Int):Prop:=-2305843009213693952≤x∧x≤2305843009213693952
theorem A5m (F:Nat) (p1:List Int) (hF:1000≤F) (hp:∀x∈p1,okZ x):∀(m i:Nat) (l:List Int),p1.length-i<m→i≤p1.length→p1.length≤100→l.length+9*(p1.length-i)≤999999990000 →
  Bs F p1 m l i=some ⟨l++(p1.drop i).flatMap fun x=>F8 (zig x)⟩:=by
 intro m
 induction m with
 | zero=>intro i l h;omega
 | succ m ih =>
  intro i l h hi hp1 hl
  rw [Bs,F4]
  by_cases hb:i<p1.length
  ·have hx:=hp p1[i] (List.getElem_mem hb)
   have hx1:=hx.1
   have hx2:=hx.2
   rw [Ap (dT (by omega)),Fk i p1[i] rfl (List.getElem?_eq_getElem hb)]
   have fin:∀z:Int,okN z→z.toNat=zig p1[i]→((Ao F (volume_writer.mk l) [z]).bind fun y178=>Cx i (Bs F p1 m) y178.b)=some ⟨l++(p1.drop i).flatMap fun x=>F8 (zig x)⟩:=by
    intro z hz hzz
    have h9:=D7 hz
    rw [Gm hF (show okW l by unfold okW;omega) (by simpa using hz) (by simp),sb,Cx,ckb (by omega)]
    show Bs F p1 m (l++H4 [z]) ((i:Int)+1)=_
    rw [show ((i:Int)+1)=((i+1:Nat):Int) by omega,ih (i+1) _ (by omega) (by omega) hp1 (by simp [H4];omega),List.drop_eq_getElem_cons hb]
    simp only [H4,List.flatMap_cons,List.flatMap_nil,List.append_nil,List.append_assoc,hzz]
   by_cases hs:p1[i]<0
   ·rw [Ap (dT hs),ckb (by omega),ckb (by omega)]
    exact fin _ ⟨by omega,by omega⟩ (by unfold zig;rw [if_pos hs])
   ·rw [An (dF hs),ckb (by omega)]
    exact fin _ ⟨by omega,by omega⟩ (by unfold zig;rw [if_neg hs])
  ·rw [An (dF (by omega)),List.drop_of_length_le (by omega)]
   simp
theorem U5 {F:Nat} (hF:1000≤F) {w:volume_writer} {l:List Int} (hw:w.b.length≤999999980000) (hl:∀x∈l,okZ x) (hn:l.length≤100):D2 F w l=some ⟨w.b++l.flatMap fun x=>F8 (zig x)⟩:=by
 rw [D2]
 exact A5m F l hF hl F 0 w.b (by omega) (by omega) hn (by omega)
theorem Vv {x:Int} (h:okZ x):okN (zig x:Int):=by
 unfold okZ at h;unfold okN zig;split<;>omega
theorem Z6 {F:Nat} (hF:1000≤F) {w:volume_writer} {s:ByteArray} (hw:w.b.length≤999999980000) (hs:s.size≤10000000):E7 F w s=some ⟨w.b++(F8 s.size++sby s)⟩:=by
 have h9:=D7 (x:=(s.size:Int)) ⟨by omega,by omega⟩
 rw [E7,Gm hF (show okW w.b by unfold okW;omega) (by intro x hx;simp at hx;subst hx;exact ⟨by omega,by omega⟩) (by simp),sb,Hl (by simp only [H4,List.flatMap_cons,List.flatMap_nil,List.append_nil,List.length_append,Lg];omega) (by decide)]
 simp [H4]
def okS (s:api_Span):Prop:=-1000000000000000000≤s.Lo∧s.Lo≤s.Hi∧s.Hi≤1000000000000000000
def K0 (s:api_Span):List Int:=F8 (zig s.Lo)++F8 (s.Hi-s.Lo).toNat
theorem Su {F:Nat} (hF:1000≤F) {w:volume_writer} {s:api_Span} (hw:w.b.length≤999999970000) (hs:okS s):E6 F w s=some ⟨w.b++K0 s⟩:=by
 obtain ⟨h1,h2,h3⟩:=hs
 have h9:=D7 (Vv (x:=s.Lo) ⟨by omega,by omega⟩)
 rw [Int.toNat_natCast] at h9
 rw [E6,U5 hF (by omega) (by intro x hx;simp at hx;subst hx;exact ⟨by omega,by omega⟩) (by simp),sb,ckb (by omega),Gm hF (by unfold okW;simp;omega) (by intro x hx;simp at hx;subst hx;exact ⟨by omega,by omega⟩) (by simp)]
 simp [K0,H4]
theorem Du {s:api_Span} (hs:okS s):(K0 s).length≤18:=by
 obtain ⟨h1,h2,h3⟩:=hs
 have h8:=D7 (Vv (x:=s.Lo) ⟨by omega,by omega⟩)
 have h9:=D7 (x:=s.Hi-s.Lo) ⟨by omega,by omega⟩
 rw [Int.toNat_natCast] at h8
 unfold K0;rw [List.length_append];omega
end Go.Proofs.YtifbomimeodibaaGreat
namespace Go.Proofs.YtifbomimeodibaaGreat
open Go Go.RowKit Go.Eng
set_option maxRecDepth 10000
set_option linter.unusedVariables false
set_option linter.unusedSimpArgs false
def Kc (x:api_Echo):List Int:=F8 x.Kind.toNat++if x.Kind=1 then F8 x.Power.Hi.toNat else K0 x.Power++(K0 x.Ratio++(K0 x.Match++(F8 x.Spread.toNat++if x.Kind=3 then K0 x.Steps.1++(K0 x.Steps.2++K0 x.Turn) else [])))
def okE (x:api_Echo):Prop:=okN x.Kind∧okN x.Power.Hi∧okN x.Spread∧okS x.Power∧okS x.Ratio∧okS x.Match∧okS x.Steps.1∧okS x.Steps.2∧okS x.Turn
theorem A5l {F:Nat} (hF:1000≤F) {w:volume_writer} {x:api_Echo} (hw:w.b.length≤999999960000) (hx:okE x):G8 F w x=some ⟨w.b++Kc x⟩:=by
 obtain ⟨h1,h2,h3,h4,h5,h6,h7,h8,h9⟩:=hx
 have a1:=D7 h1
 have a2:=D7 h2
 have a3:=D7 h3
 have a4:=Du h4
 have a5:=Du h5
 have a6:=Du h6
 have a7:=Du h7
 have a8:=Du h8
 obtain ⟨G,rfl⟩:∃G,F=G+4:=⟨F-4,by omega⟩
 rw [G8,Gm hF (by unfold okW;omega) (by simpa using h1) (by simp),sb]
 by_cases hk:x.Kind=1
 ·rw [Ap (by simp [hk]),Gm hF (by unfold okW;simp [H4];omega) (by simpa using h2) (by simp),sb]
  simp [Kc,hk,H4]
 ·rw [An (by simp [hk]),C9,D1,Ap (dT (by decide)),Fk 0 x.Power (by decide) (by rfl),Su hF (by simp [H4];omega) h4,sb,ckb (by omega),
   C9,D1,Ap (dT (by decide)),Fk 1 x.Ratio (by decide) (by rfl),Su hF (by simp [H4];omega) h5,sb,ckb (by omega),
   C9,D1,Ap (dT (by decide)),Fk 2 x.Match (by decide) (by rfl),Su hF (by simp [H4];omega) h6,sb,ckb (by omega),
   C9,D1,An (dF (by decide)),Gb,Gm hF (by unfold okW;simp [H4];omega) (by simpa using h3) (by simp),sb]
  by_cases hk3:x.Kind=3
  ·rw [Ap (by simp [hk3]),C8,D0,Ap (dT (by decide)),Fk 0 x.Steps.1 (by decide) (by rfl),Su hF (by simp [H4];omega) h7,sb,ckb (by omega),
    C8,D0,Ap (dT (by decide)),Fk 1 x.Steps.2 (by decide) (by rfl),Su hF (by simp [H4];omega) h8,sb,ckb (by omega),
    C8,D0,Ap (dT (by decide)),Fk 2 x.Turn (by decide) (by rfl),Su hF (by simp [H4];omega) h9,sb,ckb (by omega),
    C8,D0,An (dF (by decide))]
   simp [Kc,hk3,H4]
  ·rw [An (by simp [hk3])]
   simp [Kc,hk,hk3,H4]
theorem Tl {x:api_Echo} (hx:okE x):(Kc x).length≤130:=by
 obtain ⟨h1,h2,h3,h4,h5,h6,h7,h8,h9⟩:=hx
 have a1:=D7 h1
 have a2:=D7 h2
 have a3:=D7 h3
 have a4:=Du h4
 have a5:=Du h5
 have a6:=Du h6
 have a7:=Du h7
 have a8:=Du h8
 have a9:=Du h9
 unfold Kc
 split
 ·simp;omega
 ·split<;>simp<;>omega
def Kv {α:Type} [DecidableEq α] (e:α→List Int):α→Nat→List α→List Int
 | _,n,[]=>if n=0 then [] else F8 n
 | b,n,x::l=>if x=b then Kv e b (n+1) l else F8 n++(e x++Kv e x 0 l)
def Dy {α:Type} [DecidableEq α] (b:α):List α→Nat
 | []=>0
 | x::l=>if x=b then Dy b l+1 else 0
theorem Pe {α:Type} [DecidableEq α] (b:α) (l:List α):Dy b l≤l.length:=by
 induction l with
 | nil=>exact Nat.le_refl _
 | cons x l ih=>unfold Dy;split<;>simp<;>omega
theorem Ut {α:Type} [DecidableEq α] {b:α} {l:List α} {i:Nat} (h:i<Dy b l):l[i]? = some b:=by
 induction l generalizing i with
 | nil=>simp [Dy] at h
 | cons x l ih =>
  unfold Dy at h
  split at h
  ·rename_i hx
   cases i with
   | zero=>simp [hx]
   | succ i=>simpa using ih (by omega)
  ·omega
theorem Us {α:Type} [DecidableEq α] {b:α} {l:List α} {x:α} (h:l[Dy b l]? = some x):x≠b:=by
 induction l with
 | nil=>simp at h
 | cons y l ih =>
  unfold Dy at h
  split at h
  ·exact ih (by simpa using h)
  ·rename_i hy;simp at h;subst h;exact hy
theorem Ru {α:Type} [DecidableEq α] (e:α→List Int) (b:α) (n:Nat) (l:List α) (h:n≠0∨l≠[]):Kv e b n l=F8 (n+Dy b l)++(match l.drop (Dy b l) with|[]=>[]|y::r=>e y++Kv e y 0 r):=by
 induction l generalizing n with
 | nil=>rw [Kv,Dy,if_neg (by simpa using h)];simp
 | cons x l ih =>
  rw [Kv,Dy]
  split
  ·rw [ih (n+1) (.inl (by omega))]
   simp only [List.drop_succ_cons]
   rw [show n+1+Dy b l=n+(Dy b l+1) by omega]
  ·simp
theorem Y1 {α:Type} [DecidableEq α] {e:α→List Int} {c:Nat}:∀(l:List α) (b:α) (n:Nat),(∀x∈l,(e x).length≤c)→n+l.length≤1000000000→(Kv e b n l).length≤9+(c+9)*l.length:=by
 intro l
 induction l with
 | nil =>
  intro b n h hn
  have:=D7 (x:=(n:Int)) ⟨by omega,by simp at hn;omega⟩
  rw [Kv]
  split<;>simp at*<;>omega
 | cons x l ih =>
  intro b n h hn
  have h1:=D7 (x:=(n:Int)) ⟨by omega,by simp at hn;omega⟩
  have h2:=h x (by simp)
  have hm:(c+9)*(l.length+1)=(c+9)*l.length+(c+9):=by rw [Nat.mul_add,Nat.mul_one]
  rw [Kv]
  simp only [List.length_cons] at hn ⊢
  rw [hm]
  split
  ·have:=ih b (n+1) (fun y hy=>h y (by simp [hy])) (by omega)
   omega
  ·have:=ih x 0 (fun y hy=>h y (by simp [hy])) (by omega)
   simp at h1 ⊢
   omega
theorem Rw (u b:api_Span):(((u.Lo:Int)==b.Lo)&&(((u.Hi:Int)==b.Hi)&&true))=decide (u=b):=by
 cases u;cases b
 rw [Bool.eq_iff_iff]
 simp
theorem Rl (u b:api_Echo):(((u.Kind:Int)==b.Kind)&&((((u.Power.Lo:Int)==b.Power.Lo)&&(((u.Power.Hi:Int)==b.Power.Hi)&&true))&&(((((u.Steps.1.Lo:Int)==b.Steps.1.Lo)&&(((u.Steps.1.Hi:Int)==b.Steps.1.Hi)&&true))&&((((u.Steps.2.Lo:Int)==b.Steps.2.Lo)&&(((u.Steps.2.Hi:Int)==b.Steps.2.Hi)&&true))&&true))&&(((u.Spread:Int)==b.Spread)&&((((u.Ratio.Lo:Int)==b.Ratio.Lo)&&(((u.Ratio.Hi:Int)==b.Ratio.Hi)&&true))&&((((u.Match.Lo:Int)==b.Match.Lo)&&(((u.Match.Hi:Int)==b.Match.Hi)&&true))&&((((u.Turn.Lo:Int)==b.Turn.Lo)&&(((u.Turn.Hi:Int)==b.Turn.Hi)&&true))&&true)))))))=decide (u=b):=by
 rcases u with ⟨k,⟨p1,p2⟩,⟨⟨s1,s2⟩,⟨s3,s4⟩⟩,sp,⟨r1,r2⟩,⟨m1,m2⟩,⟨t1,t2⟩⟩
 rcases b with ⟨k',⟨p1',p2'⟩,⟨⟨s1',s2'⟩,⟨s3',s4'⟩⟩,sp',⟨r1',r2'⟩,⟨m1',m2'⟩,⟨t1',t2'⟩⟩
 rw [Bool.eq_iff_iff]
 simp [and_assoc]
theorem gdt {g:Bool} (h:g=true):((g==true&&true))=true:=by rw [h];rfl
theorem gdf {g:Bool} (h:g=false):((g==true&&true))=false:=by rw [h];rfl
theorem A3z (F:Nat) (b:api_Span) (w:List Int) (l:List api_Span) (k1:Int→Int→List Int→List api_Span→Option volume_writer) (hl:l.length≤1000000000):∀(m i:Nat),i≤Dy b l→Dy b l-i<m →
  Bh F b.Lo b.Hi w l k1 m i=C3 F b.Lo b.Hi w l k1 (Dy b l:Nat):=by
 intro m
 have hle:=Pe b l
 induction m with
 | zero=>intro i _ h;omega
 | succ m ih =>
  intro i hi hm
  rw [Bh,D4]
  by_cases hb:i<Dy b l
  ·have hx:=Ut hb
   rw [gdT (gdt (dT (by omega))),Fk i b rfl hx,Rw b b,Ap (x:=decide (b=b)) (dT (by omega)),Ap (dT rfl),ckb (by omega)]
   exact ih (i+1) (by omega) (by omega)
  ·have he:i=Dy b l:=by omega
   subst he
   by_cases hc:Dy b l<l.length
   ·have hg:=List.getElem?_eq_getElem hc
    rw [gdT (gdt (dT (by omega))),Fk _ _ rfl hg,Rw _ b,Ap (x:=decide (l[Dy b l]=b)) (dT (by omega)),An (dF (Us hg))]
   ·rw [gdF (gdf (dF (by omega))),sb,An (An (dF (by omega)))]
theorem Rj {α:Type} {l:List α} {n:Nat} {y:α} {r:List α} (h:l.drop n=y::r):l[n]? = some y∧n<l.length∧r=l.drop (n+1)∧r.length<l.length∧y∈l:=by
 have hn:n<l.length:=by
  rcases Nat.lt_or_ge n l.length with h1|h1
  ·exact h1
  ·rw [List.drop_of_length_le h1] at h;cases h
 rw [List.drop_eq_getElem_cons hn] at h
 cases h
 refine ⟨List.getElem?_eq_getElem hn,hn,rfl,by simp;omega,List.getElem_mem hn⟩
theorem A6o (F:Nat) (hF:1000≤F):∀(m:Nat) (l:List api_Span) (b:api_Span) (w:List Int),l.length<m→l.length<F→l.length≤1000000000→(∀x∈l,okS x)→w.length+200*l.length≤999999900000 →
  B7 F m b.Lo b.Hi w l=some ⟨w++Kv K0 b 0 l⟩:=by
 intro m
 induction m with
 | zero=>intro l b w h;omega
 | succ m ih =>
  intro l b w h hlF hl9 hok hw
  rw [B7,C2]
  cases hl:l with
  | nil=>simp [Kv]
  | cons x0 l0 =>
   rw [←hl]
   have hpos:0<l.length:=by rw [hl];simp
   have hle:=Pe b l
   have h9:=D7 (x:=(Dy b l:Int)) ⟨by omega,by omega⟩
   rw [Int.toNat_natCast] at h9
   rw [Ap (dT (by omega)),show (0:Int)=((0:Nat):Int) from rfl,A3z F b w l _ hl9 F 0 (by omega) (by omega),C3,Gm hF (by unfold okW;simp;omega) (by intro x hx;simp at hx;subst hx;exact ⟨by omega,by omega⟩) (by simp),sb,
    K4 (Dy b l) rfl rfl hle,Ru K0 b 0 l (.inr (by rw [hl];simp))]
   cases hd:l.drop (Dy b l) with
   | nil =>
    rw [An (dF (by simp))]
    cases m with
    | zero=>omega
    | succ m=>rw [B7,C2,An (dF (by simp))];simp [H4]
   | cons y r =>
    obtain ⟨hg,hn,hr,hrl,hy⟩:=Rj hd
    rw [Ap (dT (by simp)),Fk 0 y (by rfl) (by rfl),K4 1 (by decide) (by rfl) (by simp),Su hF (by simp [H4];omega) (hok y hy),sb]
    simp only [List.drop_succ_cons,List.drop_zero]
    rw [ih r y _ (by omega) (by omega) (by omega) (fun z hz=>hok z (by rw [hr] at hz;exact List.mem_of_mem_drop hz)) (by have:=Du (hok y hy);simp [H4];omega)]
    simp [H4]
theorem A3w {F:Nat} (hF:1000≤F) {w:volume_writer} {l:List api_Span} {b:api_Span} (hl:l.length<F) (hl9:l.length≤1000000000) (hok:∀x∈l,okS x) (hw:w.b.length+200*l.length≤999999900000):Cm F w l b=some ⟨w.b++Kv K0 b 0 l⟩:=by
 rw [Cm]
 exact A6o F hF F l b w.b hl hl hl9 hok hw
theorem A3y (F:Nat) (b:api_Echo) (w:List Int) (l:List api_Echo) (k1:Int→Int→Int→Int→Int→Int→Int→Int→Int→Int→Int→Int→Int→Int→List Int→List api_Echo→Option volume_writer) (hl:l.length≤1000000000):∀(m i:Nat),i≤Dy b l→Dy b l-i<m →
  Bg F b.Kind b.Power.Lo b.Match.Lo b.Match.Hi b.Turn.Lo b.Turn.Hi b.Power.Hi b.Steps.1.Lo b.Steps.1.Hi b.Steps.2.Lo b.Steps.2.Hi b.Spread b.Ratio.Lo b.Ratio.Hi w l k1 m i=C1 F b.Kind b.Power.Lo b.Match.Lo b.Match.Hi b.Turn.Lo b.Turn.Hi b.Power.Hi b.Steps.1.Lo b.Steps.1.Hi b.Steps.2.Lo b.Steps.2.Hi b.Spread b.Ratio.Lo b.Ratio.Hi w l k1 (Dy b l:Nat):=by
 intro m
 have hle:=Pe b l
 induction m with
 | zero=>intro i _ h;omega
 | succ m ih =>
  intro i hi hm
  rw [Bg,D3]
  by_cases hb:i<Dy b l
  ·have hx:=Ut hb
   rw [gdT (gdt (dT (by omega))),Fk i b rfl hx,Rl b b,Ap (x:=decide (b=b)) (dT (by omega)),Ap (dT rfl),ckb (by omega)]
   exact ih (i+1) (by omega) (by omega)
  ·have he:i=Dy b l:=by omega
   subst he
   by_cases hc:Dy b l<l.length
   ·have hg:=List.getElem?_eq_getElem hc
    rw [gdT (gdt (dT (by omega))),Fk _ _ rfl hg,Rl _ b,Ap (x:=decide (l[Dy b l]=b)) (dT (by omega)),An (dF (Us hg))]
   ·rw [gdF (gdf (dF (by omega))),sb,An (An (dF (by omega)))]
theorem A6n (F:Nat) (hF:1000≤F):∀(m:Nat) (l:List api_Echo) (b:api_Echo) (w:List Int),l.length<m→l.length<F→l.length≤1000000000→(∀x∈l,okE x)→w.length+300*l.length≤999999900000 →
  B6 F m b.Kind b.Power.Lo b.Match.Lo b.Match.Hi b.Turn.Lo b.Turn.Hi b.Power.Hi b.Steps.1.Lo b.Steps.1.Hi b.Steps.2.Lo b.Steps.2.Hi b.Spread b.Ratio.Lo b.Ratio.Hi w l=some ⟨w++Kv Kc b 0 l⟩:=by
 intro m
 induction m with
 | zero=>intro l b w h;omega
 | succ m ih =>
  intro l b w h hlF hl9 hok hw
  rw [B6,C0]
  cases hl:l with
  | nil=>simp [Kv]
  | cons x0 l0 =>
   rw [←hl]
   have hpos:0<l.length:=by rw [hl];simp
   have hle:=Pe b l
   have h9:=D7 (x:=(Dy b l:Int)) ⟨by omega,by omega⟩
   rw [Int.toNat_natCast] at h9
   rw [Ap (dT (by omega)),show (0:Int)=((0:Nat):Int) from rfl,A3y F b w l _ hl9 F 0 (by omega) (by omega),C1,Gm hF (by unfold okW;simp;omega) (by intro x hx;simp at hx;subst hx;exact ⟨by omega,by omega⟩) (by simp),sb,
    K4 (Dy b l) rfl rfl hle,Ru Kc b 0 l (.inr (by rw [hl];simp))]
   cases hd:l.drop (Dy b l) with
   | nil =>
    rw [An (dF (by simp))]
    cases m with
    | zero=>omega
    | succ m=>rw [B6,C0,An (dF (by simp))];simp [H4]
   | cons y r =>
    obtain ⟨hg,hn,hr,hrl,hy⟩:=Rj hd
    rw [Ap (dT (by simp)),Fk 0 y (by rfl) (by rfl),K4 1 (by decide) (by rfl) (by simp),A5l hF (by simp [H4];omega) (hok y hy),sb]
    simp only [List.drop_succ_cons,List.drop_zero]
    rw [ih r y _ (by omega) (by omega) (by omega) (fun z hz=>hok z (by rw [hr] at hz;exact List.mem_of_mem_drop hz)) (by have:=Tl (hok y hy);simp [H4];omega)]
    simp [H4]
theorem A2m {F:Nat} (hF:1000≤F) {w:volume_writer} {l:List api_Echo} {b:api_Echo} (hl:l.length<F) (hl9:l.length≤1000000000) (hok:∀x∈l,okE x) (hw:w.b.length+300*l.length≤999999900000):Cl F w l b=some ⟨w.b++Kv Kc b 0 l⟩:=by
 rw [Cl]
 exact A6n F hF F l b w.b hl hl hl9 hok hw
def e0:api_Echo:=⟨1,⟨0,0⟩,(⟨0,0⟩,⟨0,0⟩),0,⟨0,0⟩,⟨0,0⟩,⟨0,0⟩⟩
def L2 (s:ByteArray):List Int:=F8 s.size++sby s
def T4 (l:List Int):List Int:=l.flatMap fun x=>F8 (zig x)
def Sr (s:api_Sweep):List Int:=H4 [1]++(L2 s.Site.Name++(T4 [s.Site.X,s.Site.Y]++(H4 [s.Site.Z,s.Site.Rose,s.Site.Gates,s.Site.Step,s.Site.Width,s.Tilt,s.Time]++Kv Kc e0 0 s.Rays.flatten)))
def Sb (f:volume_field):List Int:=H4 [2]++(L2 f.key++(H4 [f.time]++(T4 [f.Field.Grid.X,f.Field.Grid.Y]++(H4 [f.Field.Grid.Size,f.Field.Grid.Wide,f.Field.Grid.High]++Kv K0 ⟨0,0⟩ 0 f.Field.Vals))))
def Vd (n:volume_note):List Int:=H4 [3,n.time]++L2 n.text
def E0 (t:volume_thing):List Int:=t.cs [] (fun s=>Sr s.Sweep) Sb Vd
def A53 (s:api_Site):Prop:=s.Name.size≤1000∧okZ s.X∧okZ s.Y∧okN s.Z∧okN s.Rose∧okN s.Gates∧okN s.Step∧okN s.Width
def Rs (s:api_Sweep):Prop:=A53 s.Site∧okN s.Tilt∧okN s.Time∧s.Rays.length≤1000∧s.Rays.flatten.length≤100000∧∀r∈s.Rays,∀x∈r,okE x
def Tb (f:volume_field):Prop:=f.key.size≤1000∧okN f.time∧okZ f.Field.Grid.X∧okZ f.Field.Grid.Y∧okN f.Field.Grid.Size∧okN f.Field.Grid.Wide∧okN f.Field.Grid.High∧f.Field.Vals.length≤100000∧∀x∈f.Field.Vals,okS x
def Wx (n:volume_note):Prop:=okN n.time∧n.text.size≤1000
def okT (t:volume_thing):Prop:=t.cs False (fun s=>Rs s.Sweep) Tb Wx
theorem J7 {l:List Int} (h:∀x∈l,okN x):(H4 l).length≤9*l.length:=by
 induction l with
 | nil=>simp [H4]
 | cons x l ih =>
  have h1:=D7 (h x (by simp))
  have h2:=ih fun y hy=>h y (by simp [hy])
  simp only [H4,List.flatMap_cons,List.length_append,List.length_cons] at h2 ⊢
  omega
theorem T5 {l:List Int} (h:∀x∈l,okZ x):(T4 l).length≤9*l.length:=by
 induction l with
 | nil=>simp [T4]
 | cons x l ih =>
  have h1:=D7 (Vv (h x (by simp)))
  rw [Int.toNat_natCast] at h1
  have h2:=ih fun y hy=>h y (by simp [hy])
  simp only [T4,List.flatMap_cons,List.length_append,List.length_cons] at h2 ⊢
  omega
theorem Pt {s:ByteArray} (h:s.size≤1000):(L2 s).length≤1009:=by
 have h9:=D7 (x:=(s.size:Int)) ⟨by omega,by omega⟩
 rw [Int.toNat_natCast] at h9
 unfold L2
 rw [List.length_append,Lg];omega
theorem N7 {x:Int} (h:0≤x∧x≤1000000):okN x:=⟨h.1,by omega⟩
theorem A5p (F:Nat) (hF:200000≤F) (s:volume_sweep) (y:volume_writer) (hok:Rs s.Sweep) (hy:y.b.length≤1000000):∀(m i:Nat) (acc:List api_Echo),s.Sweep.Rays.length-i<m→i≤s.Sweep.Rays.length→acc++(s.Sweep.Rays.drop i).flatten=s.Sweep.Rays.flatten →
  E9 F s y m acc i=some ⟨y.b++Kv Kc e0 0 s.Sweep.Rays.flatten⟩:=by
 intro m
 obtain ⟨h1,h2,h3,h4,h5,h6⟩:=hok
 induction m with
 | zero=>intro i acc h;omega
 | succ m ih =>
  intro i acc h hi hacc
  have hal:acc.length≤100000:=by
   have:=congrArg List.length hacc
   rw [List.length_append] at this;omega
  rw [E9,Gn]
  by_cases hb:i<s.Sweep.Rays.length
  ·have hd:=List.drop_eq_getElem_cons hb
   have hacc2:(acc++s.Sweep.Rays[i])++(s.Sweep.Rays.drop (i+1)).flatten=s.Sweep.Rays.flatten:=by rw [←hacc,hd,List.flatten_cons,List.append_assoc]
   have hal2:acc.length+s.Sweep.Rays[i].length≤100000:=by
    have:=congrArg List.length hacc2
    simp only [List.length_append] at this;omega
   rw [Ap (dT (by omega)),Fk i _ rfl (List.getElem?_eq_getElem hb),Hl (by omega) (by decide),ckb (by omega)]
   exact ih (i+1) _ (by omega) (by omega) hacc2
  ·have he:acc=s.Sweep.Rays.flatten:=by
    rw [List.drop_of_length_le (by omega)] at hacc;simpa using hacc
   rw [An (dF (by omega)),he,Gp,A2m (by omega) (by omega) (by omega) (fun x hx=>?_) (by omega)]
   ·rfl
   ·obtain ⟨r,hr,hx⟩:=List.mem_flatten.1 hx
    exact h6 r hr x hx
theorem A3x {F:Nat} (hF:200000≤F) {t:volume_thing} (h:okT t):Kx F t ⟨[]⟩=some ⟨E0 t⟩:=by
 cases t with
 | nil_=>exact h.elim
 | ic156 s =>
  have hs:Rs s.Sweep:=h
  have h':=hs
  obtain ⟨⟨a1,a2,a3,a4,a5,a6,a7,a8⟩,h2,h3,h4,h5,h6⟩:=h'
  have o1:∀x∈[(1:Int)],okN x:=by intro x hx;simp at hx;subst hx;exact N7 (by decide)
  have o2:∀x∈[s.Sweep.Site.X,s.Sweep.Site.Y],okZ x:=by intro x hx;simp at hx;rcases hx with rfl|rfl<;>assumption
  have o3:∀x∈[s.Sweep.Site.Z,s.Sweep.Site.Rose,s.Sweep.Site.Gates,s.Sweep.Site.Step,s.Sweep.Site.Width,s.Sweep.Tilt,s.Sweep.Time],okN x:=by intro x hx;simp at hx;rcases hx with rfl|rfl|rfl|rfl|rfl|rfl|rfl<;>assumption
  have l1:=J7 o1
  have l2:=Pt a1
  have l3:=T5 o2
  have l4:=J7 o3
  simp only [List.length_cons,List.length_nil] at l1 l3 l4
  show Gl F s ⟨[]⟩=some ⟨Sr s.Sweep⟩
  rw [Gl,Gm (by omega) (by unfold okW;simp) o1 (by simp),sb,Z6 (by omega) (by simp only [List.nil_append];omega) (by omega),sb]
  rw [U5 (by omega) (by simp only [List.nil_append,List.length_append];unfold L2 at l2;rw [List.length_append] at l2;omega) o2 (by simp),sb,Gm (by omega) (by unfold okW;unfold T4 at l3;unfold L2 at l2;simp only [List.nil_append,List.length_append] at *;omega) o3 (by simp),sb]
  rw [show (0:Int)=((0:Nat):Int) from rfl,A5p F hF s _ hs (by unfold T4 at l3;unfold L2 at l2;simp only [List.nil_append,List.length_append] at *;omega) F 0 [] (by omega) (by omega) (by simp)]
  simp [Sr,L2,T4]
 | ic158 f =>
  obtain ⟨a1,a2,a3,a4,a5,a6,a7,a8,a9⟩:=(show Tb f from h)
  have o1:∀x∈[(2:Int)],okN x:=by intro x hx;simp at hx;subst hx;exact N7 (by decide)
  have o4:∀x∈[f.time],okN x:=by intro x hx;simp at hx;subst hx;exact a2
  have o2:∀x∈[f.Field.Grid.X,f.Field.Grid.Y],okZ x:=by intro x hx;simp at hx;rcases hx with rfl|rfl<;>assumption
  have o3:∀x∈[f.Field.Grid.Size,f.Field.Grid.Wide,f.Field.Grid.High],okN x:=by intro x hx;simp at hx;rcases hx with rfl|rfl|rfl<;>assumption
  have l1:=J7 o1
  have l2:=Pt a1
  have l3:=T5 o2
  have l4:=J7 o3
  have l5:=J7 o4
  simp only [List.length_cons,List.length_nil] at l1 l3 l4 l5
  show Gj F f ⟨[]⟩=some ⟨Sb f⟩
  rw [Gj,Gm (by omega) (by unfold okW;simp) o1 (by simp),sb,Z6 (by omega) (by simp only [List.nil_append];omega) (by omega),sb]
  rw [Gm (by omega) (by unfold okW;unfold L2 at l2;simp only [List.nil_append,List.length_append] at *;omega) o4 (by simp),sb]
  rw [U5 (by omega) (by unfold L2 at l2;simp only [List.nil_append,List.length_append] at *;omega) o2 (by simp),sb,Gm (by omega) (by unfold okW;unfold T4 at l3;unfold L2 at l2;simp only [List.nil_append,List.length_append] at *;omega) o3 (by simp),sb]
  rw [A3w (by omega) (by omega) (by omega) a9 (by unfold T4 at l3;unfold L2 at l2;simp only [List.nil_append,List.length_append] at *;omega),sb]
  simp [Sb,L2,T4]
 | ic160 n =>
  obtain ⟨a1,a2⟩:=(show Wx n from h)
  have o1:∀x∈[(3:Int),n.time],okN x:=by intro x hx;simp at hx;rcases hx with rfl|rfl;(exact N7 (by decide));exact a1
  have l1:=J7 o1
  simp only [List.length_cons,List.length_nil] at l1
  show H8 F n ⟨[]⟩=some ⟨Vd n⟩
  rw [H8,Gm (by omega) (by unfold okW;simp) o1 (by simp),sb,Z6 (by omega) (by simp only [List.nil_append];omega) (by omega),sb]
  simp [Vd,L2]
end Go.Proofs.YtifbomimeodibaaGreat
namespace Go.Proofs.YtifbomimeodibaaGreat
open Go Go.RowKit Go.Eng
set_option maxRecDepth 10000
set_option linter.unusedVariables false
set_option linter.unusedSimpArgs false
def X6:Nat→List Int→Nat
 | c,[]=>c
 | c,x::l=>X6 ((31*c+x.toNat)%2147483647) l
def Yy (c:Nat):List Int:=[128+((c%127:Nat):Int),128+((c/127%127:Nat):Int),128+((c/127/127%127:Nat):Int),128+((c/127/127/127%127:Nat):Int),1+((c/127/127/127/127%127:Nat):Int)]
def X5 (l:List Int):List Int:=Yy (X6 1 l)
theorem Te (l:List Int):(X5 l).length=5:=rfl
theorem A6j {α β:Type} {l:List α} {i:Int} {x:α} {f:List α→Option β} (n:Nat) (hi:i=(n:Int)) (h:n<l.length):(X3 l i x).bind f=f (l.set n x):=by
 subst hi
 unfold X3
 rw [if_pos (by omega)]
 rfl
theorem A3i (F:Nat) (hF:10≤F) (c:Nat) (hc:c<2147483647):Fi F 5 0 c (List.replicate 5 0)=some (Yy c):=by
 obtain ⟨G,rfl⟩:∃G,F=G+6:=⟨F-6,by omega⟩
 have step:∀(m i d:Nat) (l:List Int),i<5→l.length=5→d<2147483647→Fi (m+1) 5 i d l=Fi m 5 (i+1:Nat) (d/127:Nat) (l.set i (128+((d%127:Nat):Int))):=by
  intro m i d l hi hl hd
  rw [Fi,Kl,Ap (dT (by omega)),(tdm d).1,sb]
  have:=Nat.mod_lt d (show 0<127 by decide)
  rw [ckb (by omega),Fk i l[i] rfl (List.getElem?_eq_getElem (by omega)),A6j i rfl (by omega),(tdm d).2,ckb (by omega),ckb (by omega),Ud (by omega)]
  rfl
 rw [show (0:Int)=((0:Nat):Int) from rfl,step (G+5) 0 c _ (by decide) (by simp) hc,step (G+4) 1 _ _ (by decide) (by simp) (by omega),step (G+3) 2 _ _ (by decide) (by simp) (by omega),step (G+2) 3 _ _ (by decide) (by simp) (by omega),step (G+1) 4 _ _ (by decide) (by simp) (by omega)]
 rw [Fi,Kl,An (dF (by decide)),Mg]
 simp only [List.replicate,List.set_cons_zero,List.set_cons_succ]
 have h4:(128:Int)+((c/127/127/127/127%127:Nat):Int)-127=1+((c/127/127/127/127%127:Nat):Int):=by omega
 have:=Nat.mod_lt (c/127/127/127/127) (show 0<127 by decide)
 rw [Fk 4 (128+((c/127/127/127/127%127:Nat):Int)) (by decide) (by rfl),Fk 4 (128+((c/127/127/127/127%127:Nat):Int)) (by decide) (by rfl),A6j 4 (by decide) (by simp),h4,Ud (by omega)]
 rfl
theorem A3j (F:Nat) (hF:10≤F) (p:List Int) (hp:By p) (hpl:p.length≤1000000000):∀(m i c:Nat),p.length-i<m→i≤p.length→c<2147483647→Jn F p m i c=some (Yy (X6 c (p.drop i))):=by
 intro m
 induction m with
 | zero=>intro i c h;omega
 | succ m ih =>
  intro i c h hi hc
  rw [Jn,Me]
  by_cases hb:i<p.length
  ·have hx:=hp p[i] (List.getElem_mem hb)
   rw [Ap (dT (by omega)),Fk i p[i] rfl (List.getElem?_eq_getElem hb),ckb (by omega),ckb (by omega),ckb (by omega)]
   have e:Nw (31*(c:Int)+p[i]) 2147483647=some (((31*c+p[i].toNat)%2147483647:Nat):Int):=by
    have e1:31*(c:Int)+p[i]=((31*c+p[i].toNat:Nat):Int):=by omega
    rw [e1]
    unfold Nw
    rw [if_neg (by decide)]
    congr 1
   rw [e,sb,ckb (by omega)]
   have:=ih (i+1) _ (by omega) (by omega) (Nat.mod_lt (31*c+p[i].toNat) (show 0<2147483647 by decide))
   rw [show ((i:Int)+1)=((i+1:Nat):Int) by omega,this,List.drop_eq_getElem_cons hb]
   rfl
  ·rw [An (dF (by omega)),Mf,List.drop_of_length_le (by omega)]
   show (mkI 1 5 0).bind _=_
   rw [show mkI 1 5 (0:Int)=some (List.replicate 5 0) from by unfold mkI;rw [if_pos (by decide)];rfl,sb]
   exact A3i F hF c hc
theorem A24 {F:Nat} (hF:10≤F) {p:List Int} (hp:By p) (hl:p.length<F) (hl9:p.length≤1000000000):Kw F p=some (X5 p):=by
 rw [Kw]
 exact A3j F hF p hp hl9 F 0 1 (by omega) (by omega) (by decide)
theorem Ww (n:Nat):By (F8 n):=fun x hx=>by have:=Zj n x hx;omega
def Nz (l:List Int):Prop:=∀x∈l,1≤x∧x<256
theorem Nz.by {l:List Int} (h:Nz l):By l:=fun x hx=>by have:=h x hx;omega
theorem Nz.app {l k:List Int} (h:Nz l) (h':Nz k):Nz (l++k):=fun x hx=>(List.mem_append.1 hx).elim (h x) (h' x)
theorem Nz.nil:Nz []:=fun x hx=>by cases hx
theorem Nz.fm {α:Type} {l:List α} {f:α→List Int} (h:∀x∈l,Nz (f x)):Nz (l.flatMap f):=fun x hx=>by
 obtain ⟨y,hy,hx⟩:=List.mem_flatMap.1 hx
 exact h y hy x hx
theorem Mw (n:Nat):Nz (F8 n):=fun x hx=>by have:=Zj n x hx;omega
theorem Rr (l:List Int):Nz (H4 l):=Nz.fm fun x _=>Mw _
theorem Zh (l:List Int):Nz (T4 l):=Nz.fm fun x _=>Mw _
theorem P0 (s:api_Span):Nz (K0 s):=(Mw _).app (Mw _)
theorem A14 (x:api_Echo):Nz (Kc x):=by
 unfold Kc
 refine (Mw _).app ?_
 split
 ·exact Mw _
 ·refine (P0 _).app ((P0 _).app ((P0 _).app ((Mw _).app ?_)))
  split
  ·exact (P0 _).app ((P0 _).app (P0 _))
  ·exact Nz.nil
theorem Zl {α:Type} [DecidableEq α] {e:α→List Int} (he:∀x,Nz (e x)):∀(l:List α) (b:α) (n:Nat),Nz (Kv e b n l):=by
 intro l
 induction l with
 | nil=>intro b n;rw [Kv];split;exact Nz.nil;exact Mw _
 | cons x l ih =>
  intro b n
  rw [Kv]
  split
  ·exact ih _ _
  ·exact (Mw _).app ((he x).app (ih _ _))
theorem A3n (l:List Int):Nz (X5 l):=by
 have h:∀c:Nat,(0:Int)≤((c%127:Nat):Int)∧((c%127:Nat):Int)<127:=fun c=>by have:=Nat.mod_lt c (show 0<127 by decide);omega
 intro x hx
 unfold X5 Yy at hx
 simp only [List.mem_cons,List.not_mem_nil,or_false] at hx
 rcases hx with rfl|rfl|rfl|rfl|rfl
 ·have:=h (X6 1 l);omega
 ·have:=h (X6 1 l/127);omega
 ·have:=h (X6 1 l/127/127);omega
 ·have:=h (X6 1 l/127/127/127);omega
 ·have:=h (X6 1 l/127/127/127/127);omega
def Tz (s:ByteArray):Prop:=Nz (sby s)
def tzT (t:volume_thing):Prop:=t.cs True (fun s=>Tz s.Sweep.Site.Name) (fun f=>Tz f.key) (fun n=>Tz n.text)
def cnt (t:volume_thing):Nat:=t.cs 0 (fun s=>s.Sweep.Rays.flatten.length) (fun f=>f.Field.Vals.length) (fun _=>0)
theorem Re {t:volume_thing} (h:okT t):(E0 t).length≤1200+139*cnt t:=by
 cases t with
 | nil_=>exact h.elim
 | ic156 s =>
  obtain ⟨⟨a1,a2,a3,a4,a5,a6,a7,a8⟩,h2,h3,h4,h5,h6⟩:=(show Rs s.Sweep from h)
  have l1:=J7 (l:=[(1:Int)]) (by intro x hx;simp at hx;subst hx;exact N7 (by decide))
  have l2:=Pt a1
  have l3:=T5 (l:=[s.Sweep.Site.X,s.Sweep.Site.Y]) (by intro x hx;simp at hx;rcases hx with rfl|rfl<;>assumption)
  have l4:=J7 (l:=[s.Sweep.Site.Z,s.Sweep.Site.Rose,s.Sweep.Site.Gates,s.Sweep.Site.Step,s.Sweep.Site.Width,s.Sweep.Tilt,s.Sweep.Time]) (by intro x hx;simp at hx;rcases hx with rfl|rfl|rfl|rfl|rfl|rfl|rfl<;>assumption)
  have l5:=Y1 (e:=Kc) (c:=130) s.Sweep.Rays.flatten e0 0 (fun x hx=>Tl (by obtain ⟨r,hr,hx⟩:=List.mem_flatten.1 hx;exact h6 r hr x hx)) (by omega)
  simp only [List.length_cons,List.length_nil] at l1 l3 l4
  show (Sr s.Sweep).length≤1200+139*s.Sweep.Rays.flatten.length
  simp only [Sr,List.length_append]
  omega
 | ic158 f =>
  obtain ⟨a1,a2,a3,a4,a5,a6,a7,a8,a9⟩:=(show Tb f from h)
  have l1:=J7 (l:=[(2:Int)]) (by intro x hx;simp at hx;subst hx;exact N7 (by decide))
  have l2:=Pt a1
  have l3:=T5 (l:=[f.Field.Grid.X,f.Field.Grid.Y]) (by intro x hx;simp at hx;rcases hx with rfl|rfl<;>assumption)
  have l4:=J7 (l:=[f.Field.Grid.Size,f.Field.Grid.Wide,f.Field.Grid.High]) (by intro x hx;simp at hx;rcases hx with rfl|rfl|rfl<;>assumption)
  have l6:=J7 (l:=[f.time]) (by intro x hx;simp at hx;subst hx;exact a2)
  have l5:=Y1 (e:=K0) (c:=18) f.Field.Vals ⟨0,0⟩ 0 (fun x hx=>Du (a9 x hx)) (by omega)
  simp only [List.length_cons,List.length_nil] at l1 l3 l4 l6
  show (Sb f).length≤1200+139*f.Field.Vals.length
  simp only [Sb,List.length_append]
  omega
 | ic160 n =>
  obtain ⟨a1,a2⟩:=(show Wx n from h)
  have l1:=J7 (l:=[(3:Int),n.time]) (by intro x hx;simp at hx;rcases hx with rfl|rfl;(exact N7 (by decide));exact a1)
  have l2:=Pt a2
  simp only [List.length_cons,List.length_nil] at l1
  show (Vd n).length≤1200+139*0
  simp only [Vd,List.length_append]
  omega
theorem A5d (s:ByteArray):By (sby s):=fun x hx=>by
 obtain ⟨b,_,rfl⟩:=List.mem_map.1 hx
 have:=b.toNat_lt
 omega
theorem Vp (s:ByteArray):By (L2 s):=(Ww _).app (A5d s)
theorem Wm (t:volume_thing):By (E0 t):=by
 cases t with
 | nil_=>exact Nz.nil.by
 | ic156 s=>exact (Rr _).by.app ((Vp _).app ((Zh _).by.app ((Rr _).by.app (Zl A14 _ _ _).by)))
 | ic158 f=>exact (Rr _).by.app ((Vp _).app ((Rr _).by.app ((Zh _).by.app ((Rr _).by.app (Zl P0 _ _ _).by))))
 | ic160 n=>exact (Rr _).by.app (Vp _)
theorem Qk {t:volume_thing} (h:okT t):(E0 t).length≤14000000:=by
 have h1:=Re h
 have h2:cnt t≤100000:=by
  cases t with
  | nil_=>exact h.elim
  | ic156 s=>exact (show Rs s.Sweep from h).2.2.2.2.1
  | ic158 f=>exact (show Tb f from h).2.2.2.2.2.2.2.1
  | ic160 n=>exact Nat.zero_le _
 omega
def Pn (b:List Int):List Int:=F8 b.length++b
def R6 (t:volume_thing):List Int:=Pn (E0 t)++X5 (Pn (E0 t))
def Pg (t:volume_thing):List Int:=0::R6 t
theorem A0v {F:Nat} (hF:200000≤F) {t:volume_thing} (h:okT t) (hl:(E0 t).length+100≤F):Kb F t=some (Pg t):=by
 have hlen:=Qk h
 have h9:=D7 (x:=((E0 t).length:Int)) ⟨by omega,by omega⟩
 rw [Int.toNat_natCast] at h9
 rw [Kb,A3x hF h,sb,Gm (by omega) (by unfold okW;simp) (by intro x hx;simp at hx;subst hx;exact ⟨by omega,by omega⟩) (by simp),sb]
 have e:([]:List Int)++H4 [((E0 t).length:Int)]=F8 (E0 t).length:=by simp [H4]
 simp only [e]
 rw [Hl (by omega) (by decide)]
 show (Kw F (Pn (E0 t))).bind _=_
 have hpl:(Pn (E0 t)).length=(F8 (E0 t).length).length+(E0 t).length:=by unfold Pn;rw [List.length_append]
 have hby:By (Pn (E0 t)):=(Ww _).app (Wm t)
 rw [A24 (by omega) hby (by omega) (by omega),sb,Hl (by rw [List.length_append,Te];omega) (by decide)]
 rw [show F8 (E0 t).length++E0 t=Pn (E0 t) from rfl]
 rw [Hl (by rw [List.length_append,Te];simp;omega) (by decide)]
 rfl
end Go.Proofs.YtifbomimeodibaaGreat
namespace Go.Proofs.YtifbomimeodibaaGreat
open Go Go.RowKit Go.Eng
set_option maxRecDepth 10000
set_option linter.unusedVariables false
set_option linter.unusedSimpArgs false
abbrev RE (α:Type):=Option (Except (Value×volume_reader) (α×volume_reader))
def W7:Value:=.iface 128 (.int .i64 7)
def Rd {α:Type} (y:RE α) (o:Option (α×List Int)):Prop:=match o with
 | some x=>y=some (.ok (x.1,⟨x.2⟩))
 | none=>∃r,y=some (.error (W7,r))
theorem Rd.bind {α β:Type} {y:RE α} {o:Option (α×List Int)} (h:Rd y o) {f:α×volume_reader→RE β} {g:α×List Int→Option (β×List Int)} (hf:∀x r,o=some (x,r)→Rd (f (x,⟨r⟩)) (g (x,r))) :
  Rd (y.bind fun z=>exc z (fun e=>some (.error (e.1,volume_reader.mk e.2.b))) f) (o.bind g):=by
 cases o with
 | none=>obtain ⟨r,hr⟩:=h;rw [hr];exact ⟨_,rfl⟩
 | some x =>
  rw [show y=some (.ok (x.1,⟨x.2⟩)) from h]
  exact hf x.1 x.2 rfl
theorem Rd.ok {α:Type} {x:α} {r:List Int}:Rd (some (.ok (x,⟨r⟩))) (some (x,r)):=rfl
theorem Rd.bad {α:Type} {r:volume_reader}:Rd (α:=α) (some (.error (W7,r))) none:=⟨r,rfl⟩
theorem By.suf {l k:List Int} (h:By l) (hs:k <:+ l):By k:=fun x hx=>h x (hs.subset hx)
def rD:Nat→Bool→List Int→Option (Int×List Int)
 | 0,_,_=>none
 | _+1,_,[]=>none
 | k+1,f,c::l=>if c=0∨c=255∨(c=1∧f=false) then none else if c<128 then some (c-1,l) else (rD k false l).map fun y=>(c-128+127*y.1,y.2)
def rN (l:List Int):Option (Int×List Int):=rD 8 true l
theorem A69:∀(k:Nat) (f:Bool) (l:List Int) (x:Int) (r:List Int),By l→rD k f l=some (x,r)→0≤x∧x<127 ^ k∧r <:+ l:=by
 intro k
 induction k with
 | zero=>intro f l x r _ h;cases h
 | succ k ih =>
  intro f l x r hb h
  cases l with
  | nil=>cases h
  | cons c l =>
   have hc:=hb c (by simp)
   have hp:(0:Int)<127 ^ k:=Int.pow_pos (by decide)
   rw [rD] at h
   split at h
   ·cases h
   ·rename_i g1
    have g2:c≠0:=fun e=>g1 (.inl e)
    have g3:c≠255:=fun e=>g1 (.inr (.inl e))
    rw [Int.pow_succ]
    split at h
    ·cases h
     exact ⟨by omega,by omega,List.suffix_cons ..⟩
    ·obtain ⟨z,hz,he⟩:=Option.map_eq_some_iff.1 h
     cases he
     obtain ⟨h1,h2,h3⟩:=ih false l z.1 z.2 (fun x hx=>hb x (by simp [hx])) hz
     exact ⟨by omega,by omega,h3.trans (List.suffix_cons ..)⟩
theorem Ge {l:List Int} {x:Int} {r:List Int} (hb:By l) (h:rN l=some (x,r)):0≤x∧x<67675234241018881∧r <:+ l:=by
 have:=A69 8 true l x r hb h
 exact this
theorem A56 (p:List Int) (hp:By p):∀(m i k:Nat) (n:Int),i+k=8→k<m→0≤n→n≤127 ^ i →
  Rd (Bk ⟨p⟩ (p.take 8) m i n (127 ^ i:Nat)) ((rD k (i==0) (p.drop i)).map fun y=>(n+127 ^ i*y.1,y.2)):=by
 intro m
 induction m with
 | zero=>intro i k n _ h;omega
 | succ m ih =>
  intro i k n hik hk hn0 hn
  rw [Bk,F9]
  have hpi:(127:Int) ^ i≤127 ^ 8:=by
   have:(127:Nat) ^ i≤127 ^ 8:=Nat.pow_le_pow_right (by decide) (by omega)
   exact_mod_cast this
  have e8:(127:Int) ^ 8=67675234241018881:=by decide
  have hp0:(0:Int)<127 ^ i:=Int.pow_pos (by decide)
  have ecast:((127 ^ i:Nat):Int)=127 ^ i:=by push_cast;rfl
  rw [ecast]
  by_cases hb:i<(p.take 8).length
  ·have hb':i<p.length∧i<8:=by rw [List.length_take] at hb;omega
   obtain ⟨k,rfl⟩:∃k',k=k'+1:=⟨k-1,by omega⟩
   have hx:=hp p[i] (List.getElem_mem hb'.1)
   rw [Ap (dT (by omega)),Fk i p[i] rfl (by rw [List.getElem?_take];rw [if_pos hb'.2];exact List.getElem?_eq_getElem hb'.1),List.drop_eq_getElem_cons hb'.1,rD]
   have hp7:(127:Int) ^ i≤127 ^ 7:=by
    have:(127:Nat) ^ i≤127 ^ 7:=Nat.pow_le_pow_right (by decide) (by omega)
    exact_mod_cast this
   have e7:(127:Int) ^ 7=532875860165503:=by decide
   have hmul:p[i]*127 ^ i≤256*127 ^ i:=Int.mul_le_mul_of_nonneg_right (by omega) (by omega)
   have hmul0:0≤p[i]*127 ^ i:=Int.mul_nonneg (by omega) (by omega)
   by_cases hc:p[i]=0∨p[i]=255∨(p[i]=1∧(i==0)=false)
   ·rw [if_pos hc,Ap ?_]
    ·exact Rd.bad
    ·rcases hc with h|h|⟨h1,h2⟩
     ·simp [h]
     ·simp [h]
     ·simp at h2
      simp [h1];omega
   ·rw [if_neg hc,An ?_]
    ·by_cases hs:p[i]<128
     ·have e1:(p[i]-1)*127 ^ i=p[i]*127 ^ i-127 ^ i:=by rw [Int.sub_mul,Int.one_mul]
      rw [if_pos hs,Ap (dT hs),ckb (by omega),K4 (i+1) (by omega) rfl (by simp;omega),ckb (by omega),ckb (by omega),ckb (by omega),ckb (by omega)]
      show some (Except.ok (n+(p[i]-1)*127 ^ i,volume_reader.mk (p.drop (i+1))))=some (.ok (n+127 ^ i*(p[i]-1),⟨p.drop (i+1)⟩))
      rw [Int.mul_comm (127 ^ i) (p[i]-1)]
     ·have e1:(p[i]-128)*127 ^ i=p[i]*127 ^ i-128*127 ^ i:=by rw [Int.sub_mul]
      have e2:(p[i]-128)*127 ^ i≤126*127 ^ i:=Int.mul_le_mul_of_nonneg_right (by have:p[i]≠255:=fun e=>hc (.inr (.inl e));omega) (by omega)
      have e3:0≤(p[i]-128)*127 ^ i:=Int.mul_nonneg (by omega) (by omega)
      have e4:(127:Int) ^ (i+1)=127 ^ i*127:=Int.pow_succ ..
      rw [if_neg hs,An (dF hs),Fb,ckb (by omega),ckb (by omega),ckb (by omega),ckb (by omega),ckb (by omega),ckb (by omega)]
      have:=ih (i+1) k (n+(p[i]-128)*127 ^ i) (by omega) (by omega) (by omega) (by rw [e4];omega)
      have ecast2:((127 ^ (i+1):Nat):Int)=127 ^ i*127:=by rw [←e4];push_cast;rfl
      rw [ecast2] at this
      rw [show ((i:Int)+1)=((i+1:Nat):Int) by omega]
      rw [Option.map_map]
      have ef:(i+1==0)=false:=rfl
      rw [ef] at this
      cases hr:rD k false (p.drop (i+1)) with
      | none=>rw [hr] at this;exact this
      | some y =>
       rw [hr] at this
       have this':_=some (Except.ok (n+(p[i]-128)*127 ^ i+127 ^ (i+1)*y.1,volume_reader.mk y.2)):=this
       show _=some (Except.ok (n+127 ^ i*(p[i]-128+127*y.1),volume_reader.mk y.2))
       rw [this',e4,Int.mul_add,Int.mul_comm (127 ^ i) (p[i]-128),←Int.add_assoc,←Int.mul_assoc]
    ·have h1:¬p[i]=0:=fun e=>hc (.inl e)
     have h2:¬p[i]=255:=fun e=>hc (.inr (.inl e))
     simp only [beq_eq_false_iff_ne.2 h1,beq_eq_false_iff_ne.2 h2,cond_false]
     by_cases h3:p[i]=1
     ·have h4:i=0:=by
       rcases Nat.eq_zero_or_pos i with h|h
       ·exact h
       ·exact absurd (.inr (.inr ⟨h3,by simp;omega⟩)) hc
      simp [h3,h4]
     ·simp [h3]
  ·rw [An (dF (by omega)),Fa]
   have:rD k (i==0) (p.drop i)=none:=by
    rw [List.length_take] at hb
    rcases Nat.eq_zero_or_pos k with h|h
    ·subst h;rfl
    ·rw [List.drop_of_length_le (by omega)]
     obtain ⟨k,rfl⟩:∃k',k=k'+1:=⟨k-1,by omega⟩
     rfl
   rw [this]
   exact Rd.bad
theorem E3 {F:Nat} (hF:1000≤F) {p:List Int} (hp:By p):Rd (Af F ⟨p⟩) (rN p):=by
 rw [Af]
 have h:(Gz p (0:Int) (if 8<((p.length:Nat):Int) then 8 else ((p.length:Nat):Int))).bind (fun l80=>Bk ⟨p⟩ l80 F 0 0 1)=Bk ⟨p⟩ (p.take 8) F 0 0 1:=by
  by_cases h8:8<p.length
  ·rw [if_pos (by omega),Nb 8 (by rfl) (by rfl) (by omega)]
  ·rw [if_neg (by omega),Nb p.length (by rfl) (by rfl) (by omega),List.take_of_length_le (by omega),List.take_of_length_le (by omega)]
 show Rd ((Gz p (0:Int) (if 8<((p.length:Nat):Int) then 8 else ((p.length:Nat):Int))).bind (fun l80=>Bk ⟨p⟩ l80 F 0 0 1)) _
 rw [h]
 have:=A56 p hp F 0 8 0 (by omega) (by omega) (by omega) (by decide)
 cases hr:rN p with
 | none =>
  rw [show rD 8 (0==0) (p.drop 0)=none from hr] at this
  exact this
 | some y =>
  rw [show rD 8 (0==0) (p.drop 0)=some y from hr] at this
  have this':_=some (Except.ok (0+127 ^ 0*y.1,volume_reader.mk y.2)):=this
  rw [show (0:Int)+127 ^ 0*y.1=y.1 by simp] at this'
  exact this'
end Go.Proofs.YtifbomimeodibaaGreat
namespace Go.Proofs.YtifbomimeodibaaGreat
open Go Go.RowKit Go.Eng
set_option maxRecDepth 10000
set_option linter.unusedVariables false
set_option linter.unusedSimpArgs false
def unz (n:Int):Int:=if n%2=1 then -((n+1)/2) else n/2
def rI (l:List Int):Option (Int×List Int):=(rN l).bind fun y=>some (unz y.1,y.2)
def rT (l:List Int):Option (ByteArray×List Int):=(rN l).bind fun y=>if y.1>(y.2.length:Int) then none else some (bst (y.2.take y.1.toNat),y.2.drop y.1.toNat)
def rS (l:List Int):Option (api_Span×List Int):=(rI l).bind fun y=>(rN y.2).bind fun z=>some (⟨y.1,y.1+z.1⟩,z.2)
def rE (l:List Int):Option (api_Echo×List Int):=(rN l).bind fun k=>if k.1=1 then (rN k.2).bind fun h=>some (⟨k.1,⟨0,h.1⟩,(⟨0,0⟩,⟨0,0⟩),0,⟨0,0⟩,⟨0,0⟩,⟨0,0⟩⟩,h.2)
 else (rS k.2).bind fun p=>(rS p.2).bind fun r=>(rS r.2).bind fun m=>(rN m.2).bind fun s=>if k.1=3 then (rS s.2).bind fun a=>(rS a.2).bind fun b=>(rS b.2).bind fun t=>some (⟨k.1,p.1,(a.1,b.1),s.1,r.1,m.1,t.1⟩,t.2)
  else some (⟨k.1,p.1,(⟨0,0⟩,⟨0,0⟩),s.1,r.1,m.1,⟨0,0⟩⟩,s.2)
theorem F5 {α β:Type} {o:Option (α×List Int)} {f:α×List Int→Option β} {y:β} (h:o.bind f=some y):∃x r,o=some (x,r)∧f (x,r)=some y:=by
 obtain ⟨⟨x,r⟩,h1,h2⟩:=Option.bind_eq_some_iff.1 h
 exact ⟨x,r,h1,h2⟩
def A1r (x:Int):Prop:=-67675234241018881≤x∧x≤67675234241018881
theorem A2c {n:Int} (h:0≤n∧n<67675234241018881):A1r (unz n):=by
 unfold unz A1r;split<;>omega
theorem Wj {l:List Int} {x:Int} {r:List Int} (hb:By l) (h:rI l=some (x,r)):A1r x∧r <:+ l:=by
 obtain ⟨n,r',h1,h2⟩:=F5 h
 cases h2
 obtain ⟨a,b,c⟩:=Ge hb h1
 exact ⟨A2c ⟨a,b⟩,c⟩
theorem A48 {l:List Int} {x:ByteArray} {r:List Int} (hb:By l) (h:rT l=some (x,r)):r <:+ l∧x.size≤l.length:=by
 obtain ⟨n,r',h1,h2⟩:=F5 h
 obtain ⟨a,b,c⟩:=Ge hb h1
 split at h2
 ·cases h2
 ·rename_i hg
  cases h2
  refine ⟨(List.drop_suffix ..).trans c,?_⟩
  have:=c.length_le
  show (bst (r'.take n.toNat)).size≤_
  unfold bst
  simp only [ByteArray.size,List.size_toArray,List.length_map,List.length_take]
  simp only at hg
  omega
def okS' (s:api_Span):Prop:=-67675234241018881≤s.Lo∧s.Lo≤s.Hi∧s.Hi≤200000000000000000
theorem okS'.ok {s:api_Span} (h:okS' s):okS s:=by obtain ⟨a,b,c⟩:=h;exact ⟨by omega,b,by omega⟩
theorem Qr {l:List Int} {x:api_Span} {r:List Int} (hb:By l) (h:rS l=some (x,r)):okS' x∧r <:+ l:=by
 obtain ⟨lo,r1,h1,h2⟩:=F5 h
 obtain ⟨n,r2,h3,h4⟩:=F5 h2
 cases h4
 obtain ⟨⟨a,b⟩,c⟩:=Wj hb h1
 obtain ⟨d,e,f⟩:=Ge (hb.suf c) h3
 exact ⟨⟨a,by simp only;omega,by simp only;omega⟩,f.trans c⟩
theorem Yt {l:List Int} {x:api_Echo} {r:List Int} (hb:By l) (h:rE l=some (x,r)):r <:+ l:=by
 obtain ⟨k,r0,h0,h⟩:=F5 h
 obtain ⟨a0,b0,c0⟩:=Ge hb h0
 have hb0:=hb.suf c0
 split at h
 ·obtain ⟨n,r1,h1,h⟩:=F5 h
  cases h
  obtain ⟨a1,b1,c1⟩:=Ge hb0 h1
  exact c1.trans c0
 ·obtain ⟨p,r1,h1,h⟩:=F5 h
  obtain ⟨p1,c1⟩:=Qr hb0 h1
  have hb1:=hb0.suf c1
  obtain ⟨q,r2,h2,h⟩:=F5 h
  obtain ⟨p2,c2⟩:=Qr hb1 h2
  have hb2:=hb1.suf c2
  obtain ⟨m,r3,h3,h⟩:=F5 h
  obtain ⟨p3,c3⟩:=Qr hb2 h3
  have hb3:=hb2.suf c3
  obtain ⟨s,r4,h4,h⟩:=F5 h
  obtain ⟨a4,b4,c4⟩:=Ge hb3 h4
  have hb4:=hb3.suf c4
  have hs:s∈[s]:=by simp
  split at h
  ·obtain ⟨a,r5,h5,h⟩:=F5 h
   obtain ⟨p5,c5⟩:=Qr hb4 h5
   have hb5:=hb4.suf c5
   obtain ⟨b,r6,h6,h⟩:=F5 h
   obtain ⟨p6,c6⟩:=Qr hb5 h6
   have hb6:=hb5.suf c6
   obtain ⟨t,r7,h7,h⟩:=F5 h
   obtain ⟨p7,c7⟩:=Qr hb6 h7
   cases h
   exact c7.trans (c6.trans (c5.trans (c4.trans (c3.trans (c2.trans (c1.trans c0))))))
  ·cases h
   exact c4.trans (c3.trans (c2.trans (c1.trans c0)))
theorem Pr {F:Nat} (hF:1000≤F) {p:List Int} (hp:By p):Rd (Bw F ⟨p⟩) (rI p):=by
 rw [Bw,rI]
 refine (E3 hF hp).bind fun n r h=>?_
 obtain ⟨a,b,c⟩:=Ge hp h
 have e:Nw n 2=some (n%2):=by
  unfold Nw
  rw [if_neg (by decide),Int.tmod_eq_emod_of_nonneg a]
 show Rd ((Nw n 2).bind _) _
 rw [e,sb]
 unfold unz
 by_cases h1:n%2=1
 ·rw [if_pos h1,Ap (by simp [h1]),ckb (by omega)]
  have ew:IntKind.i64.wrap (0-(n+1))=-(n+1):=by
   simp only [IntKind.wrap,IntKind.signed,IntKind.bits]
   simp
   omega
  have eq:Mr (IntKind.i64.wrap (0-(n+1))) 2=some (-((n+1)/2)):=by
   rw [ew]
   unfold Mr
   rw [if_neg (by decide),Int.neg_tdiv,Int.tdiv_eq_ediv_of_nonneg (by omega)]
   unfold ck
   rw [if_pos (by omega)]
  show Rd ((Mr (IntKind.i64.wrap (0-(n+1))) 2).bind _) _
  rw [eq]
  exact Rd.ok
 ·rw [if_neg h1,An (by simp [h1])]
  have eq:Mr n 2=some (n/2):=by
   unfold Mr
   rw [if_neg (by decide),Int.tdiv_eq_ediv_of_nonneg a]
   unfold ck
   rw [if_pos (by omega)]
  show Rd ((Mr n 2).bind _) _
  rw [eq]
  exact Rd.ok
theorem Yu {F:Nat} (hF:1000≤F) {p:List Int} (hp:By p):Rd (E5 F ⟨p⟩) (rT p):=by
 rw [E5,rT]
 refine (E3 hF hp).bind fun n r h=>?_
 obtain ⟨a,b,c⟩:=Ge hp h
 show Rd (bif decide (n>(r.length:Int)) then _ else _) (if n>(r.length:Int) then _ else _)
 by_cases h1:n>(r.length:Int)
 ·rw [if_pos h1,Ap (dT h1)];exact Rd.bad
 ·rw [if_neg h1,An (dF h1),Ga]
  have en:n=((n.toNat:Nat):Int):=by omega
  rw [Nb n.toNat rfl en (show n.toNat≤r.length by omega),K4 n.toNat en rfl (show n.toNat≤r.length by omega)]
  exact Rd.ok
theorem Sk {F:Nat} (hF:1000≤F) {p:List Int} (hp:By p):Rd (Bu F ⟨p⟩) (rS p):=by
 rw [Bu,rS]
 refine (Pr hF hp).bind fun x r h=>?_
 obtain ⟨⟨a,b⟩,c⟩:=Wj hp h
 refine (E3 hF (hp.suf c)).bind fun n r2 h2=>?_
 obtain ⟨d,e,f⟩:=Ge (hp.suf c) h2
 rw [ckb (by simp only;omega)]
 exact Rd.ok
theorem A55 {F:Nat} (hF:1000≤F) {p:List Int} (hp:By p):Rd (G7 F ⟨p⟩) (rE p):=by
 rw [G7,rE]
 refine (E3 hF hp).bind fun k r0 h0=>?_
 obtain ⟨a0,b0,c0⟩:=Ge hp h0
 have hb0:=hp.suf c0
 show Rd (bif k==1 then _ else _) (if k=1 then _ else _)
 by_cases hk:k=1
 ·rw [if_pos hk,Ap (by simp [hk])]
  refine (E3 hF hb0).bind fun n r h=>?_
  exact Rd.ok
 ·rw [if_neg hk,An (by simp [hk])]
  refine (Sk hF hb0).bind fun p r1 h1=>?_
  have hb1:=hb0.suf (Qr hb0 h1).2
  refine (Sk hF hb1).bind fun q r2 h2=>?_
  have hb2:=hb1.suf (Qr hb1 h2).2
  refine (Sk hF hb2).bind fun m r3 h3=>?_
  have hb3:=hb2.suf (Qr hb2 h3).2
  refine (E3 hF hb3).bind fun s r4 h4=>?_
  have hb4:=hb3.suf (Ge hb3 h4).2.2
  show Rd (bif k==3 then _ else _) (if k=3 then _ else _)
  by_cases hk3:k=3
  ·rw [if_pos hk3,Ap (by simp [hk3])]
   refine (Sk hF hb4).bind fun a r5 h5=>?_
   have hb5:=hb4.suf (Qr hb4 h5).2
   refine (Sk hF hb5).bind fun b r6 h6=>?_
   have hb6:=hb5.suf (Qr hb5 h6).2
   refine (Sk hF hb6).bind fun t r7 h7=>?_
   exact Rd.ok
  ·rw [if_neg hk3,An (by simp [hk3])]
   exact Rd.ok
def rL {α:Type} [DecidableEq α] (rd:List Int→Option (α×List Int)):Nat→Nat→α→List Int→Option (List α×List Int)
 | 0,_,_,_=>none
 | m+1,n,b,l=>if n=0 then some ([],l) else (rN l).bind fun y=>if y.1>(n:Int) then none else if n=y.1.toNat then some (List.replicate n b,y.2) else
   (rd y.2).bind fun z=>if z.1=b then none else (rL rd m (n-y.1.toNat-1) z.1 z.2).map fun u=>(List.replicate y.1.toNat b++z.1::u.1,u.2)
theorem A1t {α:Type} [DecidableEq α] {rd:List Int→Option (α×List Int)} (hrd:∀l x r,By l→rd l=some (x,r)→r <:+ l):∀(m n:Nat) (b:α) (l:List Int) (u:List α) (r:List Int),By l→rL rd m n b l=some (u,r)→u.length=n∧r <:+ l:=by
 intro m
 induction m with
 | zero=>intro n b l u r _ h;cases h
 | succ m ih =>
  intro n b l u r hb h
  rw [rL] at h
  split at h
  ·cases h;rename_i h0;exact ⟨h0.symm,List.suffix_refl _⟩
  ·obtain ⟨k,r1,h1,h⟩:=F5 h
   obtain ⟨a,b1,c⟩:=Ge hb h1
   simp only at h
   split at h
   ·cases h
   ·split at h
    ·cases h;exact ⟨by simp,c⟩
    ·obtain ⟨z,r2,h2,h⟩:=F5 h
     simp only at h
     split at h
     ·cases h
     ·obtain ⟨⟨u',r'⟩,h3,h4⟩:=Option.map_eq_some_iff.1 h
      cases h4
      have hc:=hrd _ _ _ (hb.suf c) h2
      obtain ⟨i1,i2⟩:=ih _ _ _ _ _ (hb.suf (hc.trans c)) h3
      refine ⟨?_,i2.trans (hc.trans c)⟩
      simp only [List.length_append,List.length_replicate,List.length_cons,i1]
      omega
theorem A5c (F:Nat) (N:Int) (b:api_Span) (k2:Int→Int→List Int→List api_Span→RE (List api_Span)) (y:Int×volume_reader) (hy:y.1≤1000000):∀(m i:Nat) (out:List api_Span),(i:Int)≤y.1→y.1-i<m→out.length+(y.1-i)≤2000000 →
  Bd F N b.Lo b.Hi k2 y m i out=Ch F N b.Lo b.Hi k2 y (out++List.replicate (y.1-i).toNat b):=by
 intro m
 induction m with
 | zero=>intro i out h1 h2;omega
 | succ m ih =>
  intro i out h1 h2 h3
  rw [Bd,Dp]
  by_cases hb:(i:Int)<y.1
  ·rw [Ap (dT hb),Hl (by simp;omega) (by decide),ckb (by omega)]
   have:=ih (i+1) (out++[b]) (by omega) (by omega) (by simp;omega)
   show Bd F N b.Lo b.Hi k2 y m ((i:Int)+1) (out++[b])=_
   rw [show ((i:Int)+1)=((i+1:Nat):Int) by omega,this,List.append_assoc]
   congr 2
   rw [show (y.1-(i:Int)).toNat=(y.1-((i+1:Nat):Int)).toNat+1 by omega,List.replicate_succ]
   rfl
  ·rw [An (dF hb),show (y.1-(i:Int)).toNat=0 by omega]
   simp
theorem A6d (F:Nat) (hF:200000≤F) (N:Nat) (hN:N≤100000):∀(m m':Nat) (b:api_Span) (l:List Int) (out:List api_Span),By l→out.length≤N→N-out.length<m→N-out.length<m' →
  Rd (B2 F N m b.Lo b.Hi l out) ((rL rS m' (N-out.length) b l).map fun u=>(out++u.1,u.2)):=by
 intro m
 induction m with
 | zero=>intro m' b l out _ _ h;omega
 | succ m ih =>
  intro m' b l out hb ho hm hm'
  obtain ⟨m',rfl⟩:∃k,m'=k+1:=⟨m'-1,by omega⟩
  rw [B2,Cf,rL]
  by_cases h0:N-out.length=0
  ·rw [if_pos h0,An (dF (by omega)),Cg]
   show _=some (Except.ok (out++[],volume_reader.mk l))
   rw [List.append_nil]
  ·rw [if_neg h0,Ap (dT (by omega)),Option.map_bind]
   refine (E3 (by omega) hb).bind fun k r h=>?_
   obtain ⟨a,b1,c⟩:=Ge hb h
   rw [ckb (by omega)]
   simp only [Function.comp]
   by_cases hk:k>((N-out.length:Nat):Int)
   ·rw [if_pos hk,Ap (dT (by omega))];exact Rd.bad
   ·rw [if_neg hk,An (dF (by omega)),Dq]
    have hr:=A5c F N b (B2 F N m) (k,⟨r⟩) (by simp only;omega) F 0 out (by simp only;omega) (by simp only;omega) (by simp only;omega)
    rw [show (0:Int)=((0:Nat):Int) from rfl,hr,Ch,show (k-((0:Nat):Int)).toNat=k.toNat by omega]
    by_cases hk2:N-out.length=k.toNat
    ·rw [if_pos hk2,An (dF (by simp;omega))]
     cases m with
     | zero=>omega
     | succ m =>
      rw [B2,Cf,An (dF (by simp;omega)),Cg,hk2]
      rfl
    ·rw [if_neg hk2,Ap (dT (by simp;omega)),Option.map_bind]
     have hbr:=hb.suf c
     refine (Sk (by omega) hbr).bind fun x r2 h2=>?_
     have hb2:=hbr.suf (Qr hbr h2).2
     simp only [Function.comp]
     rw [Rw x b]
     by_cases hx:x=b
     ·rw [if_pos hx,Ap (dT hx)];exact Rd.bad
     ·rw [if_neg hx,An (dF hx),Dr,Hl (by simp;omega) (by decide)]
      have:=ih m' x r2 (out++List.replicate k.toNat b++[x]) hb2 (by simp;omega) (by simp;omega) (by simp;omega)
      rw [show N-(out++List.replicate k.toNat b++[x]).length=N-out.length-k.toNat-1 by simp;omega] at this
      rw [Option.map_map]
      simp only [Function.comp_def]
      simpa only [List.append_assoc,List.cons_append,List.nil_append] using this
theorem A38 {F:Nat} (hF:200000≤F) {N:Nat} (hN:N≤100000) {l:List Int} (hl:By l) (b:api_Span):Rd (Cv F ⟨l⟩ N b) (rL rS (N+1) N b l):=by
 rw [Cv]
 have:=A6d F hF N hN F (N+1) b l [] hl (by simp) (by simp;omega) (by simp)
 simpa using this
theorem A59 (F:Nat) (N:Int) (b:api_Echo) (k2:Int→Int→Int→Int→Int→Int→Int→Int→Int→Int→Int→Int→Int→Int→List Int→List api_Echo→RE (List api_Echo)) (y:Int×volume_reader) (hy:y.1≤1000000):∀(m i:Nat) (out:List api_Echo),(i:Int)≤y.1→y.1-i<m→out.length+(y.1-i)≤2000000 →
  Bc F N b.Kind b.Power.Lo b.Match.Lo b.Match.Hi b.Turn.Lo b.Turn.Hi b.Power.Hi b.Steps.1.Lo b.Steps.1.Hi b.Steps.2.Lo b.Steps.2.Hi b.Spread b.Ratio.Lo b.Ratio.Hi k2 y m i out=Ce F N b.Kind b.Power.Lo b.Match.Lo b.Match.Hi b.Turn.Lo b.Turn.Hi b.Power.Hi b.Steps.1.Lo b.Steps.1.Hi b.Steps.2.Lo b.Steps.2.Hi b.Spread b.Ratio.Lo b.Ratio.Hi k2 y (out++List.replicate (y.1-i).toNat b):=by
 intro m
 induction m with
 | zero=>intro i out h1 h2;omega
 | succ m ih =>
  intro i out h1 h2 h3
  rw [Bc,Dm]
  by_cases hb:(i:Int)<y.1
  ·rw [Ap (dT hb),Hl (by simp;omega) (by decide),ckb (by omega)]
   have:=ih (i+1) (out++[b]) (by omega) (by omega) (by simp;omega)
   show Bc F N b.Kind b.Power.Lo b.Match.Lo b.Match.Hi b.Turn.Lo b.Turn.Hi b.Power.Hi b.Steps.1.Lo b.Steps.1.Hi b.Steps.2.Lo b.Steps.2.Hi b.Spread b.Ratio.Lo b.Ratio.Hi k2 y m ((i:Int)+1) (out++[b])=_
   rw [show ((i:Int)+1)=((i+1:Nat):Int) by omega,this,List.append_assoc]
   congr 2
   rw [show (y.1-(i:Int)).toNat=(y.1-((i+1:Nat):Int)).toNat+1 by omega,List.replicate_succ]
   rfl
  ·rw [An (dF hb),show (y.1-(i:Int)).toNat=0 by omega]
   simp
theorem A6c (F:Nat) (hF:200000≤F) (N:Nat) (hN:N≤100000):∀(m m':Nat) (b:api_Echo) (l:List Int) (out:List api_Echo),By l→out.length≤N→N-out.length<m→N-out.length<m' →
  Rd (B1 F N m b.Kind b.Power.Lo b.Match.Lo b.Match.Hi b.Turn.Lo b.Turn.Hi b.Power.Hi b.Steps.1.Lo b.Steps.1.Hi b.Steps.2.Lo b.Steps.2.Hi b.Spread b.Ratio.Lo b.Ratio.Hi l out) ((rL rE m' (N-out.length) b l).map fun u=>(out++u.1,u.2)):=by
 intro m
 induction m with
 | zero=>intro m' b l out _ _ h;omega
 | succ m ih =>
  intro m' b l out hb ho hm hm'
  obtain ⟨m',rfl⟩:∃k,m'=k+1:=⟨m'-1,by omega⟩
  rw [B1,Cb,rL]
  by_cases h0:N-out.length=0
  ·rw [if_pos h0,An (dF (by omega)),Cc]
   show _=some (Except.ok (out++[],volume_reader.mk l))
   rw [List.append_nil]
  ·rw [if_neg h0,Ap (dT (by omega)),Option.map_bind]
   refine (E3 (by omega) hb).bind fun k r h=>?_
   obtain ⟨a,b1,c⟩:=Ge hb h
   rw [ckb (by omega)]
   simp only [Function.comp]
   by_cases hk:k>((N-out.length:Nat):Int)
   ·rw [if_pos hk,Ap (dT (by omega))];exact Rd.bad
   ·rw [if_neg hk,An (dF (by omega)),Dn]
    have hr:=A59 F N b (B1 F N m) (k,⟨r⟩) (by simp only;omega) F 0 out (by simp only;omega) (by simp only;omega) (by simp only;omega)
    rw [show (0:Int)=((0:Nat):Int) from rfl,hr,Ce,show (k-((0:Nat):Int)).toNat=k.toNat by omega]
    by_cases hk2:N-out.length=k.toNat
    ·rw [if_pos hk2,An (dF (by simp;omega))]
     cases m with
     | zero=>omega
     | succ m =>
      rw [B1,Cb,An (dF (by simp;omega)),Cc,hk2]
      rfl
    ·rw [if_neg hk2,Ap (dT (by simp;omega)),Option.map_bind]
     have hbr:=hb.suf c
     refine (A55 (by omega) hbr).bind fun x r2 h2=>?_
     have hb2:=hbr.suf (Yt hbr h2)
     simp only [Function.comp]
     rw [Rl x b]
     by_cases hx:x=b
     ·rw [if_pos hx,Ap (dT hx)];exact Rd.bad
     ·rw [if_neg hx,An (dF hx),Do,Hl (by simp;omega) (by decide)]
      have:=ih m' x r2 (out++List.replicate k.toNat b++[x]) hb2 (by simp;omega) (by simp;omega) (by simp;omega)
      rw [show N-(out++List.replicate k.toNat b++[x]).length=N-out.length-k.toNat-1 by simp;omega] at this
      rw [Option.map_map]
      simp only [Function.comp_def]
      simpa only [List.append_assoc,List.cons_append,List.nil_append] using this
theorem A1u {F:Nat} (hF:200000≤F) {N:Nat} (hN:N≤100000) {l:List Int} (hl:By l) (b:api_Echo):Rd (Cu F ⟨l⟩ N b) (rL rE (N+1) N b l):=by
 rw [Cu]
 have:=A6c F hF N hN F (N+1) b l [] hl (by simp) (by simp;omega) (by simp)
 simpa using this
end Go.Proofs.YtifbomimeodibaaGreat
namespace Go.Proofs.YtifbomimeodibaaGreat
open Go Go.RowKit Go.Eng
set_option maxRecDepth 10000
set_option linter.unusedVariables false
set_option linter.unusedSimpArgs false
def Qp (s:ByteArray):Bool:=(!(sEq s ⟨#[]⟩))&&(decide ((s.size:Int)≤12)&&(decide ((Qt s 0).getD 0≥97)&&(decide ((Qt s 0).getD 0≤122)&&!A1m s)))
theorem Uu (F:Nat) (s:ByteArray):N4 F s=some (Qp s):=by
 have hg:sEq s ⟨#[]⟩=false→Qt s 0=some ((Qt s 0).getD 0):=by
  intro h
  have hs:s.size≠0:=by
   intro h0
   have:s=⟨#[]⟩:=by
    cases s with
    | mk d =>
     have:d=#[]:=Array.eq_empty_of_size_eq_zero h0
     rw [this]
   rw [Qi.2 this] at h
   cases h
  unfold Qt
  rw [if_pos (by omega)]
  rfl
 unfold N4 Qp H6
 cases h1:sEq s ⟨#[]⟩ with
 | true=>simp [gd]
 | false =>
  have e:=hg h1
  generalize hu:(Qt s 0).getD 0=u at e ⊢
  rw [e]
  by_cases h2:(s.size:Int)≤12
  ·by_cases h3:u≥97
   ·simp [gd,h2,h3]
   ·simp [gd,h2,h3]
  ·simp [gd,h2]
def inB (x lo hi:Int):Prop:=lo≤x∧x≤hi
instance (x lo hi:Int):Decidable (inB x lo hi):=by unfold inB;infer_instance
theorem Vu {x lo hi:Int}:Ac x lo hi=decide (inB x lo hi):=by
 unfold Ac inB
 by_cases h:lo≤x<;>simp [h]
def Uc (s:api_Site):Prop:=Qp s.Name=true∧inB s.X (-1048576) 1048576∧inB s.Y (-1048576) 1048576∧inB s.Z 0 20000∧inB s.Rose 1 90∧inB s.Gates 1 200∧inB s.Step 50 2000∧inB s.Width 0 8
instance (s:api_Site):Decidable (Uc s):=by unfold Uc;infer_instance
theorem X4 (F:Nat) (s:api_Site):∃e,Fj F s=some e∧(e=0↔Uc s):=by
 unfold Fj Ep E8 Uc
 rw [Uu,sb]
 simp only [Vu]
 cases Qp s.Name with
 | false=>exact ⟨10,by simp,by simp⟩
 | true =>
  by_cases h1:inB s.X (-1048576) 1048576
  ·by_cases h2:inB s.Y (-1048576) 1048576
   ·by_cases h3:inB s.Z 0 20000
    ·by_cases h4:inB s.Rose 1 90
     ·by_cases h5:inB s.Gates 1 200
      ·by_cases h6:inB s.Step 50 2000
       ·by_cases h7:inB s.Width 0 8
        ·exact ⟨0,by simp [h1,h2,h3,h4,h5,h6,h7],by simp [h1,h2,h3,h4,h5,h6,h7]⟩
        ·exact ⟨3,by simp [h1,h2,h3,h4,h5,h6,h7],by simp [h1,h2,h3,h4,h5,h6,h7]⟩
       ·exact ⟨3,by simp [h1,h2,h3,h4,h5,h6],by simp [h1,h2,h3,h4,h5,h6]⟩
      ·exact ⟨3,by simp [h1,h2,h3,h4,h5],by simp [h1,h2,h3,h4,h5]⟩
     ·exact ⟨3,by simp [h1,h2,h3,h4],by simp [h1,h2,h3,h4]⟩
    ·exact ⟨3,by simp [h1,h2,h3],by simp [h1,h2,h3]⟩
   ·exact ⟨3,by simp [h1,h2],by simp [h1,h2]⟩
  ·exact ⟨3,by simp [h1],by simp [h1]⟩
def Tg (g:api_Grid):Prop:=inB g.X (-1048576) 1048576∧inB g.Y (-1048576) 1048576∧inB g.Size 1 10000∧inB g.Wide 1 64∧inB g.High 1 64
theorem Un (g:api_Grid):Bn g=0↔Tg g:=by
 unfold Bn Dk Tg
 simp only [Vu]
 by_cases h1:inB g.X (-1048576) 1048576
 ·by_cases h2:inB g.Y (-1048576) 1048576
  ·by_cases h3:inB g.Size 1 10000
   ·by_cases h4:inB g.Wide 1 64
    ·by_cases h5:inB g.High 1 64<;>simp [h1,h2,h3,h4,h5]
    ·simp [h1,h2,h3,h4]
   ·simp [h1,h2,h3]
  ·simp [h1,h2]
 ·simp [h1]
def Q4 (s:api_Span) (lo hi:Int):Prop:=lo≤s.Lo∧s.Lo≤s.Hi∧s.Hi≤hi
instance (s:api_Span) (lo hi:Int):Decidable (Q4 s lo hi):=by unfold Q4;infer_instance
theorem V6 {s:api_Span} {lo hi:Int}:Ad s lo hi=decide (Q4 s lo hi):=by
 unfold Ad Q4
 by_cases h:lo≤s.Lo
 ·by_cases h2:s.Lo≤s.Hi<;>simp [h,h2]
 ·simp [h]
theorem Mj {x lo hi:Int}:Aw x lo hi=decide (inB x lo hi):=by
 unfold Aw inB
 by_cases h:lo≤x<;>simp [h]
def Hd (s:api_Span):Prop:=-32768≤s.Lo∧s.Lo≤32767∧s.Lo≤s.Hi∧s.Hi≤s.Lo+65535
instance (s:api_Span):Decidable (Hd s):=by unfold Hd;infer_instance
theorem A26 (p:List api_Span) (k2:Int→Option Bool) (i:Nat) (u:api_Span) (h:p[i]? = some u) (hi:i<p.length) (h9:i≤100):Gh p k2 i=bif decide (Hd u) then k2 (i+1) else some false:=by
 have e1:-9000000000000000000≤(i:Int)+1∧(i:Int)+1≤9000000000000000000:=by omega
 rw [Gh,Ap (dT (by omega)),Fk i u rfl h]
 simp only [Mj]
 by_cases h1:inB u.Lo (-32768) 32767
 ·have h1':=h1
  obtain ⟨a,b⟩:=h1'
  simp only [dT h1]
  rw [gdT (by rfl),ckb (by omega),gdT (by rfl),ckb (by omega)]
  obtain ⟨z,hz⟩:∃z,z=u.Lo+65536-1:=⟨_,rfl⟩
  rw [←hz]
  by_cases h2:inB u.Hi u.Lo z
  ·have ht:Hd u:=⟨a,b,h2.1,by have:=h2.2;omega⟩
   rw [dT h2,dT ht]
   rw [An (by rfl),Ap (by rfl),ckb e1]
  ·have ht:¬Hd u:=fun h=>h2 ⟨h.2.2.1,by have:=h.2.2.2;omega⟩
   rw [dF h2,dF ht,Ap (by rfl),An (by rfl)]
 ·simp only [dF h1]
  rw [gdF (by rfl),sb,gdF (by rfl),sb,dF (show ¬Hd u from fun h=>h1 ⟨h.1,h.2.1⟩),Ap (by rfl),An (by rfl)]
theorem Vr {F:Nat} (hF:10≤F) (a b c:api_Span):Kg F [a,b,c]=some (decide (Hd a∧Hd b∧Hd c)):=by
 obtain ⟨G,rfl⟩:∃G,F=G+4:=⟨F-4,by omega⟩
 rw [Kg,Ei,show (0:Int)=((0:Nat):Int) from rfl,A26 _ _ 0 a rfl (by simp) (by decide)]
 by_cases h1:Hd a
 ·rw [Ap (dT h1),show (((0:Nat):Int)+1)=((1:Nat):Int) from rfl,Ei,A26 _ _ 1 b rfl (by simp) (by decide)]
  by_cases h2:Hd b
  ·rw [Ap (dT h2),show (((1:Nat):Int)+1)=((2:Nat):Int) from rfl,Ei,A26 _ _ 2 c rfl (by simp) (by decide)]
   by_cases h3:Hd c
   ·rw [Ap (dT h3),Ei,Gh,An (dF (by simp)),K6]
    simp [h1,h2,h3]
   ·rw [An (dF h3)];simp [h3]
  ·rw [An (dF h2)];simp [h2]
 ·rw [An (dF h1)];simp [h1]
def z0 (s:api_Span):Prop:=s.Lo=0∧s.Hi=0
def vEcho (x:api_Echo):Prop:=(x.Kind=1∧Q4 x.Power 0 1073741824∧x.Power.Lo=0∧z0 x.Steps.1∧z0 x.Steps.2∧x.Spread=0∧z0 x.Ratio∧z0 x.Match∧z0 x.Turn) ∨
 ((x.Kind=2∨x.Kind=3)∧Q4 x.Power 0 1073741824∧x.Power.Lo>0∧Q4 x.Ratio 0 1000000∧Q4 x.Match 0 1000∧inB x.Spread 0 65535∧(x.Kind=2→z0 x.Steps.1∧z0 x.Steps.2∧z0 x.Turn)∧(x.Kind=3→Hd x.Steps.1∧Hd x.Steps.2∧Hd x.Turn))
theorem A41 (c:Bool):Dv c=some (if c=true then 0 else 3):=by cases c<;>rfl
theorem A2u {F:Nat} (hF:10≤F) (x:api_Echo):∃e,Fx F x=some e∧(e=0↔vEcho x):=by
 unfold Fx vEcho
 simp only [A41,V6]
 by_cases h1:x.Kind=1
 ·rw [Ap (by simp [h1])]
  refine ⟨_,rfl,?_⟩
  simp only [h1,z0]
  by_cases h2:Q4 x.Power 0 1073741824
  ·simp [h2,and_assoc]
  ·simp [h2]
 ·rw [An (by simp [h1])]
  have hK:∀c:Bool,c=(decide (x.Kind=2∨x.Kind=3))→∃e,Cy F x c=some e∧(e=0↔((x.Kind=2∨x.Kind=3)∧Q4 x.Power 0 1073741824∧x.Power.Lo>0∧Q4 x.Ratio 0 1000000∧Q4 x.Match 0 1000∧inB x.Spread 0 65535∧(x.Kind=2→z0 x.Steps.1∧z0 x.Steps.2∧z0 x.Turn)∧(x.Kind=3→Hd x.Steps.1∧Hd x.Steps.2∧Hd x.Turn))):=by
   intro c hc
   unfold Cy
   simp only [A41,V6,Mj]
   by_cases h23:x.Kind=2∨x.Kind=3
   ·rw [hc,Ap (dT h23)]
    by_cases h2:x.Kind=2
    ·rw [Ap (by simp [h2])]
     refine ⟨_,rfl,?_⟩
     simp only [h2,z0]
     by_cases a1:Q4 x.Power 0 1073741824
     ·by_cases a2:x.Power.Lo>0
      ·by_cases a3:Q4 x.Ratio 0 1000000
       ·by_cases a4:Q4 x.Match 0 1000
        ·by_cases a5:inB x.Spread 0 65535
         ·simp [a1,a2,a3,a4,a5,and_assoc]
         ·simp [a1,a2,a3,a4,a5]
        ·simp [a1,a2,a3,a4]
       ·simp [a1,a2,a3]
      ·simp [a1,a2]
     ·simp [a1]
    ·have h3:x.Kind=3:=h23.resolve_left h2
     rw [An (by simp [h2])]
     by_cases a1:Q4 x.Power 0 1073741824
     ·by_cases a2:x.Power.Lo>0
      ·by_cases a3:Q4 x.Ratio 0 1000000
       ·by_cases a4:Q4 x.Match 0 1000
        ·by_cases a5:inB x.Spread 0 65535
         ·rw [Ap (by simp [a1,a2,a3,a4,a5]),show (⟨x.Steps.1.Lo,x.Steps.1.Hi⟩:api_Span)=x.Steps.1 from rfl,show (⟨x.Steps.2.Lo,x.Steps.2.Hi⟩:api_Span)=x.Steps.2 from rfl,Vr hF,sb]
          refine ⟨_,rfl,?_⟩
          simp [h3,a1,a2,a3,a4,a5]
         ·rw [An (by simp [a5])];exact ⟨_,rfl,by simp [a5]⟩
        ·rw [An (by simp [a4])];exact ⟨_,rfl,by simp [a4]⟩
       ·rw [An (by simp [a3])];exact ⟨_,rfl,by simp [a3]⟩
      ·rw [An (by simp [a2])];exact ⟨_,rfl,by simp [a2]⟩
     ·rw [An (by simp [a1])];exact ⟨_,rfl,by simp [a1]⟩
   ·rw [hc,An (dF h23)]
    exact ⟨2,rfl,by simp [h23]⟩
  obtain ⟨e,he,hv⟩:∃e,(bif x.Kind==2 then Cy F x (x.Kind==2) else Cy F x (x.Kind==3))=some e∧(e=0↔_):=by
   by_cases h2:x.Kind=2
   ·rw [Ap (by simp [h2])];exact hK _ (by simp [h2])
   ·rw [An (by simp [h2])];exact hK _ (by simp [h2];rfl)
  exact ⟨e,he,hv.trans ⟨fun h=>.inr h,fun h=>h.resolve_left fun h=>h1 h.1⟩⟩
end Go.Proofs.YtifbomimeodibaaGreat
namespace Go.Proofs.YtifbomimeodibaaGreat
open Go Go.RowKit Go.Eng
set_option maxRecDepth 10000
set_option linter.unusedVariables false
set_option linter.unusedSimpArgs false
theorem A5b {F:Nat} (hF:5000≤F) (x270:Int) (k3:Int→Option Int) (u:List api_Echo) (hu:u.length≤1000):∀(m i:Nat),u.length-i<m→i≤u.length →
  ((∀x∈u.drop i,vEcho x)∧Cp F x270 k3 u m i=Ew x270 k3)∨(∃e,e≠0∧Cp F x270 k3 u m i=some e∧¬∀x∈u.drop i,vEcho x):=by
 intro m
 induction m with
 | zero=>intro i h;omega
 | succ m ih =>
  intro i h hi
  rw [Cp,G4]
  by_cases hb:i<u.length
  ·have hd:=List.drop_eq_getElem_cons hb
   obtain ⟨e,he,hv⟩:=A2u (F:=F) (by omega) u[i]
   rw [Ap (dT (by omega)),Fk i u[i] rfl (List.getElem?_eq_getElem hb)]
   rw [show (⟨u[i].Kind,u[i].Power,(⟨u[i].Steps.1.Lo,u[i].Steps.1.Hi⟩,⟨u[i].Steps.2.Lo,u[i].Steps.2.Hi⟩),u[i].Spread,u[i].Ratio,u[i].Match,u[i].Turn⟩:api_Echo)=u[i] from rfl,he,sb]
   by_cases h0:e=0
   ·rw [An (by simp [h0]),ckb (by omega)]
    rcases ih (i+1) (by omega) (by omega) with ⟨h1,h2⟩|⟨e',h1,h2,h3⟩
    ·refine .inl ⟨?_,h2⟩
     rw [hd]
     intro x hx
     rcases List.mem_cons.1 hx with rfl|hx
     ·exact hv.1 h0
     ·exact h1 x hx
    ·exact .inr ⟨e',h1,h2,fun h=>h3 fun x hx=>h x (by rw [hd];exact List.mem_cons_of_mem _ hx)⟩
   ·rw [Ap (by simp [h0])]
    exact .inr ⟨e,h0,rfl,fun h=>h0 (hv.2 (h u[i] (by rw [hd];exact List.mem_cons_self ..)))⟩
  ·rw [An (dF (by omega))]
   exact .inl ⟨fun x hx=>(by rw [List.drop_of_length_le (by omega)] at hx;cases hx),rfl⟩
theorem A3f {F:Nat} (hF:5000≤F) (p:api_Sweep) (hp:p.Rays.length≤1000) (hr:∀r∈p.Rays,r.length≤1000):∀(m i:Nat),p.Rays.length-i<m→i≤p.Rays.length →
  ∃e,Co F p m i=some e∧(e=0↔∀r∈p.Rays.drop i,∀x∈r,vEcho x):=by
 intro m
 induction m with
 | zero=>intro i h;omega
 | succ m ih =>
  intro i h hi
  rw [Co,G3]
  by_cases hb:i<p.Rays.length
  ·have hd:=List.drop_eq_getElem_cons hb
   have hl:=hr p.Rays[i] (List.getElem_mem hb)
   rw [Ap (dT (by omega)),Fk i p.Rays[i] rfl (List.getElem?_eq_getElem hb)]
   rcases A5b hF i (Co F p m) p.Rays[i] hl F 0 (by omega) (by omega) with ⟨h1,h2⟩|⟨e,h1,h2,h3⟩
   ·rw [show (0:Int)=((0:Nat):Int) from rfl,h2,Ew,ckb (by omega)]
    obtain ⟨e,he,hv⟩:=ih (i+1) (by omega) (by omega)
    refine ⟨e,he,hv.trans ?_⟩
    rw [hd]
    constructor
    ·intro h r hr'
     rcases List.mem_cons.1 hr' with rfl|hr'
     ·exact h1
     ·exact h r hr'
    ·exact fun h r hr'=>h r (List.mem_cons_of_mem _ hr')
   ·refine ⟨e,h2,⟨fun h=>absurd h h1,fun h=>absurd (h p.Rays[i] (by rw [hd];exact List.mem_cons_self ..)) h3⟩⟩
  ·rw [An (dF (by omega)),He]
   exact ⟨0,rfl,by simp [List.drop_of_length_le (show p.Rays.length≤i by omega)]⟩
theorem A1b {F:Nat} (hF:5000≤F) (p:api_Sweep) (hp:p.Rays.length≤1000) (hg:p.Site.Gates≤200):∀(m i:Nat),p.Rays.length-i<m→i≤p.Rays.length→(∀r∈p.Rays.take i,(r.length:Int)=p.Site.Gates) →
  ∃e,De F p m i=some e∧(e=0↔(∀r∈p.Rays,(r.length:Int)=p.Site.Gates)∧∀r∈p.Rays,∀x∈r,vEcho x):=by
 intro m
 induction m with
 | zero=>intro i h;omega
 | succ m ih =>
  intro i h hi hpre
  rw [De,G5]
  by_cases hb:i<p.Rays.length
  ·rw [Ap (dT (by omega)),Fk i p.Rays[i] rfl (List.getElem?_eq_getElem hb)]
   by_cases hl:(p.Rays[i].length:Int)=p.Site.Gates
   ·rw [An (by simp [hl]),ckb (by omega)]
    refine ih (i+1) (by omega) (by omega) fun r hr=>?_
    rw [List.take_succ_eq_append_getElem hb] at hr
    rcases List.mem_append.1 hr with hr|hr
    ·exact hpre r hr
    ·simp at hr;rw [hr];exact hl
   ·rw [Ap (by simp [hl])]
    exact ⟨11,rfl,⟨fun h=>by simp at h,fun h=>absurd (h.1 p.Rays[i] (List.getElem_mem hb)) hl⟩⟩
  ·rw [An (dF (by omega)),G6]
   rw [List.take_of_length_le (by omega)] at hpre
   obtain ⟨e,he,hv⟩:=A3f hF p hp (fun r hr=>by have:=hpre r hr;omega) F 0 (by omega) (by omega)
   exact ⟨e,he,hv.trans ⟨fun h=>⟨hpre,h⟩,fun h=>h.2⟩⟩
def vSweep (s:api_Sweep):Prop:=Uc s.Site∧inB s.Tilt 0 256∧inB s.Time 0 4294967296∧(s.Rays.length:Int)=4*s.Site.Rose∧(∀r∈s.Rays,(r.length:Int)=s.Site.Gates)∧∀r∈s.Rays,∀x∈r,vEcho x
theorem A25 {F:Nat} (hF:5000≤F) (p:api_Sweep):∃e,Bx F p=some e∧(e=0↔vSweep p):=by
 obtain ⟨e,he,hv⟩:=X4 F p.Site
 unfold Bx vSweep
 rw [he,sb]
 simp only [Mj]
 by_cases h0:e=0
 ·have hs:=hv.1 h0
  obtain ⟨_,_,_,_,⟨r1,r2⟩,⟨g1,g2⟩,_⟩:=hv.1 h0
  rw [An (by simp [h0])]
  by_cases h1:inB p.Tilt 0 256
  ·by_cases h2:inB p.Time 0 4294967296
   ·rw [An (by simp [h1,h2]),ckb (by omega)]
    by_cases h3:(p.Rays.length:Int)=4*p.Site.Rose
    ·rw [An (by simp [h3])]
     obtain ⟨e',he',hv'⟩:=A1b hF p (by omega) g2 F 0 (by omega) (by omega) (fun r hr=>by simp at hr)
     exact ⟨e',he',hv'.trans ⟨fun h=>⟨hs,h1,h2,h3,h.1,h.2⟩,fun h=>⟨h.2.2.2.2.1,h.2.2.2.2.2⟩⟩⟩
    ·rw [Ap (by simp [h3])]
     exact ⟨11,rfl,⟨fun h=>by simp at h,fun h=>absurd h.2.2.2.1 h3⟩⟩
   ·rw [Ap (by simp [h2])]
    exact ⟨3,rfl,⟨fun h=>by simp at h,fun h=>absurd h.2.2.1 h2⟩⟩
  ·rw [Ap (by simp [h1])]
   exact ⟨3,rfl,⟨fun h=>by simp at h,fun h=>absurd h.2.1 h1⟩⟩
 ·rw [Ap (by simp [h0])]
  exact ⟨e,rfl,⟨fun h=>absurd h h0,fun h=>absurd (hv.2 h.1) h0⟩⟩
def A5k (v:api_Span):Prop:=0≤v.Lo∧v.Lo≤v.Hi∧v.Hi≤1073741824
theorem A3v {p:api_Field} (hp:p.Vals.length≤1000000):∀(m i:Nat),p.Vals.length-i<m→i≤p.Vals.length →
  ∃e,Gd p 1073741824 m i=some e∧(e=0↔∀v∈p.Vals.drop i,A5k v):=by
 intro m
 induction m with
 | zero=>intro i h;omega
 | succ m ih =>
  intro i h hi
  rw [Gd,Kf]
  by_cases hb:i<p.Vals.length
  ·have hd:=List.drop_eq_getElem_cons hb
   rw [Ap (dT (by omega)),Fk i p.Vals[i] rfl (List.getElem?_eq_getElem hb)]
   by_cases hv:A5k p.Vals[i]
   ·obtain ⟨a,b,c⟩:=hv
    rw [An (by rw [dF (show ¬p.Vals[i].Lo<0 by omega),dF (show ¬p.Vals[i].Hi<p.Vals[i].Lo by omega),dF (show ¬p.Vals[i].Hi>1073741824 by omega)];rfl),ckb (by omega)]
    obtain ⟨e,he,hv⟩:=ih (i+1) (by omega) (by omega)
    refine ⟨e,he,hv.trans ?_⟩
    rw [hd]
    constructor
    ·intro h v hv'
     rcases List.mem_cons.1 hv' with rfl|hv'
     ·exact ⟨a,b,c⟩
     ·exact h v hv'
    ·exact fun h v hv'=>h v (List.mem_cons_of_mem _ hv')
   ·rw [Ap ?_]
    ·exact ⟨3,rfl,⟨fun h=>by simp at h,fun h=>absurd (h p.Vals[i] (by rw [hd];exact List.mem_cons_self ..)) hv⟩⟩
    ·by_cases h1:p.Vals[i].Lo<0
     ·simp [h1]
     ·by_cases h2:p.Vals[i].Hi<p.Vals[i].Lo
      ·simp [h2]
      ·have:p.Vals[i].Hi>1073741824:=by
        rcases Int.lt_or_le 1073741824 p.Vals[i].Hi with h|h
        ·exact h
        ·exact absurd ⟨by omega,by omega,h⟩ hv
       simp [this]
  ·rw [An (dF (by omega)),M6]
   exact ⟨0,rfl,by simp [List.drop_of_length_le (show p.Vals.length≤i by omega)]⟩
def X8 (f:volume_field):Prop:=Qp f.key=true∧inB f.time 0 4294967296∧Tg f.Field.Grid∧(f.Field.Vals.length:Int)=f.Field.Grid.Wide*f.Field.Grid.High∧∀v∈f.Field.Vals,A5k v
theorem T3 {g:api_Grid} (h:Tg g):0≤g.Wide*g.High∧g.Wide*g.High≤4096:=by
 obtain ⟨_,_,_,⟨a,b⟩,⟨c,d⟩⟩:=h
 have h1:g.Wide*g.High≤64*g.High:=Int.mul_le_mul_of_nonneg_right b (by omega)
 exact ⟨Int.mul_nonneg (by omega) (by omega),by omega⟩
theorem A19 {F:Nat} (hF:5000≤F) (f:volume_field):∃e,B5 F f=some e∧(e=0↔X8 f):=by
 unfold B5 X8 Fv N8
 rw [Uu,sb]
 cases Qp f.key with
 | false=>exact ⟨10,by rw [Ap (by rfl)],by simp⟩
 | true =>
  rw [An (by rfl)]
  by_cases h1:inB f.time 0 4294967296
  ·rw [An (by have:=h1.1;have:=h1.2;rw [dF (show ¬f.time<0 by omega),dF (show ¬f.time>4294967296 by omega)];rfl)]
   have hg:=Un f.Field.Grid
   by_cases h2:Bn f.Field.Grid=0
   ·obtain ⟨c1,c2⟩:=T3 (hg.1 h2)
    rw [An (by simp [h2]),ckb (by omega)]
    by_cases h3:(f.Field.Vals.length:Int)=f.Field.Grid.Wide*f.Field.Grid.High
    ·rw [An (by simp [h3])]
     obtain ⟨e,he,hv⟩:=A3v (p:=f.Field) (by omega) F 0 (by omega) (by omega)
     rw [show (0:Int)=((0:Nat):Int) from rfl,he]
     exact ⟨e,rfl,hv.trans ⟨fun h=>⟨rfl,h1,hg.1 h2,h3,h⟩,fun h=>h.2.2.2.2⟩⟩
    ·rw [Ap (by simp [h3])]
     exact ⟨11,rfl,⟨fun h=>by simp at h,fun h=>absurd h.2.2.2.1 h3⟩⟩
   ·rw [Ap (by simp [h2])]
    exact ⟨_,rfl,⟨fun h=>absurd h h2,fun h=>absurd (hg.2 h.2.2.1) h2⟩⟩
  ·rw [Ap ?_]
   ·exact ⟨3,rfl,⟨fun h=>by simp at h,fun h=>absurd h.2.1 h1⟩⟩
   ·by_cases h:f.time<0
    ·simp [h]
    ·have:f.time>4294967296:=by
      rcases Int.lt_or_le 4294967296 f.time with h|h
      ·exact h
      ·exact absurd ⟨by omega,h⟩ h1
     simp [this]
def Zr (n:volume_note):Prop:=inB n.time 0 4294967296∧n.text.size≤200∧∀c∈sby n.text,32≤c∧c≤126
theorem A11 (l:List Int) (hl:l.length≤1000000):∀(m i:Nat),l.length-i<m→i≤l.length →
  ∃e,Ca l m i=some e∧(e=0↔∀c∈l.drop i,32≤c∧c≤126):=by
 intro m
 induction m with
 | zero=>intro i h;omega
 | succ m ih =>
  intro i h hi
  rw [Ca,Fp]
  by_cases hb:i<l.length
  ·have hd:=List.drop_eq_getElem_cons hb
   rw [Ap (dT (by omega)),Fk i l[i] rfl (List.getElem?_eq_getElem hb)]
   by_cases hv:32≤l[i]∧l[i]≤126
   ·rw [An (by rw [dF (show ¬l[i]<32 by omega),dF (show ¬l[i]>126 by omega)];rfl),ckb (by omega)]
    obtain ⟨e,he,hv'⟩:=ih (i+1) (by omega) (by omega)
    refine ⟨e,he,hv'.trans ?_⟩
    rw [hd]
    constructor
    ·intro h v hv'
     rcases List.mem_cons.1 hv' with rfl|hv'
     ·exact hv
     ·exact h v hv'
    ·exact fun h v hv'=>h v (List.mem_cons_of_mem _ hv')
   ·rw [Ap ?_]
    ·exact ⟨7,rfl,⟨fun h=>by simp at h,fun h=>absurd (h l[i] (by rw [hd];exact List.mem_cons_self ..)) hv⟩⟩
    ·by_cases h1:l[i]<32
     ·simp [h1]
     ·have:l[i]>126:=by omega
      simp [this]
  ·rw [An (dF (by omega)),H7]
   exact ⟨0,rfl,by simp [List.drop_of_length_le (show l.length≤i by omega)]⟩
theorem A35 {F:Nat} (hF:5000≤F) (n:volume_note):∃e,Bb F n=some e∧(e=0↔Zr n):=by
 unfold Bb Zr
 by_cases h1:inB n.time 0 4294967296
 ·rw [An (by have:=h1.1;have:=h1.2;rw [dF (show ¬n.time<0 by omega),dF (show ¬n.time>4294967296 by omega)];rfl)]
  by_cases h2:n.text.size≤200
  ·have hs:s2b n.text=some (sby n.text):=by unfold s2b;rw [if_pos (by omega)]
   rw [An (dF (by omega)),hs,sb]
   obtain ⟨e,he,hv⟩:=A11 (sby n.text) (by rw [Lg];omega) F 0 (by rw [Lg];omega) (by omega)
   exact ⟨e,he,hv.trans ⟨fun h=>⟨h1,h2,h⟩,fun h=>h.2.2⟩⟩
  ·rw [Ap (dT (by omega))]
   exact ⟨8,rfl,⟨fun h=>by simp at h,fun h=>absurd h.2.1 h2⟩⟩
 ·rw [Ap ?_]
  ·exact ⟨3,rfl,⟨fun h=>by simp at h,fun h=>absurd h.1 h1⟩⟩
  ·by_cases h:n.time<0
   ·simp [h]
   ·have:n.time>4294967296:=by
     rcases Int.lt_or_le 4294967296 n.time with h|h
     ·exact h
     ·exact absurd ⟨by omega,h⟩ h1
    simp [this]
def vT (t:volume_thing):Prop:=t.cs False (fun s=>vSweep s.Sweep) X8 Zr
theorem Sy {F:Nat} (hF:5000≤F) {t:volume_thing} (ht:t≠.nil_):∃e,Dw F t=some e∧(e=0↔vT t):=by
 cases t with
 | nil_=>exact absurd rfl ht
 | ic156 s =>
  obtain ⟨e,he,hv⟩:=A25 (F:=F) (by omega) s.Sweep
  exact ⟨e,by show Bz F s=_;rw [Bz,he];rfl,hv⟩
 | ic158 f=>exact A19 hF f
 | ic160 n=>exact A35 (by omega) n
theorem Lw {x lo hi:Int} (h:inB x lo hi) (h0:0≤lo) (h1:hi≤4611686018427387904):okN x:=⟨by have:=h.1;omega,by have:=h.2;omega⟩
theorem Wh {s:ByteArray} (h:Qp s=true):s.size≤12:=by
 unfold Qp at h
 simp only [Bool.and_eq_true,decide_eq_true_eq] at h
 omega
theorem vEcho.ok {x:api_Echo} (h:vEcho x):okE x:=by
 have hz:∀{s:api_Span},z0 s→okS s:=fun {s} h=>⟨by have:=h.1;omega,by have:=h.1;have:=h.2;omega,by have:=h.2;omega⟩
 have hi:∀{s:api_Span} {lo hi:Int},Q4 s lo hi→-1000000000000000000≤lo→hi≤1000000000000000000→okS s:=fun {s lo hi} h h1 h2=>⟨by have:=h.1;omega,h.2.1,by have:=h.2.2;omega⟩
 have ht:∀{s:api_Span},Hd s→okS s:=fun {s} h=>⟨by have:=h.1;omega,h.2.2.1,by have:=h.2.1;have:=h.2.2.2;omega⟩
 rcases h with ⟨a,b,c,d,e,f,g,h,i⟩|⟨a,b,c,d,e,f,g,h⟩
 ·exact ⟨⟨by omega,by omega⟩,⟨by have:=b.1;have:=b.2.1;omega,by have:=b.2.2;omega⟩,⟨by omega,by omega⟩,hi b (by decide) (by decide),hz g,hz h,hz d,hz e,hz i⟩
 ·have hh:okS x.Steps.1∧okS x.Steps.2∧okS x.Turn:=by
   rcases a with a|a
   ·obtain ⟨u,v,w⟩:=g a;exact ⟨hz u,hz v,hz w⟩
   ·obtain ⟨u,v,w⟩:=h a;exact ⟨ht u,ht v,ht w⟩
  exact ⟨⟨by omega,by omega⟩,⟨by have:=b.1;have:=b.2.1;omega,by have:=b.2.2;omega⟩,Lw f (by decide) (by decide),hi b (by decide) (by decide),hi d (by decide) (by decide),hi e (by decide) (by decide),hh.1,hh.2.1,hh.2.2⟩
theorem A2v {α:Type} {l:List (List α)} {n:Nat} (h:∀r∈l,r.length=n):l.flatten.length=l.length*n:=by
 induction l with
 | nil=>simp
 | cons r l ih =>
  rw [List.flatten_cons,List.length_append,h r (by simp),ih fun r hr=>h r (by simp [hr]),List.length_cons,Nat.add_mul,Nat.one_mul];omega
theorem vSweep.len {s:api_Sweep} (h:vSweep s):(s.Rays.flatten.length:Int)=4*s.Site.Rose*s.Site.Gates:=by
 obtain ⟨_,_,_,h1,h2,_⟩:=h
 have hg:∀r∈s.Rays,r.length=s.Site.Gates.toNat:=fun r hr=>by have:=h2 r hr;omega
 rw [A2v hg]
 cases hr:s.Rays with
 | nil=>rw [hr] at h1;simp at h1;simp;rw [show s.Site.Rose=0 by omega];simp
 | cons r l =>
  have:=h2 r (by rw [hr];simp)
  rw [←hr,←h1]
  push_cast
  congr 1
  omega
theorem vT.ok {t:volume_thing} (h:vT t):okT t:=by
 cases t with
 | nil_=>exact h
 | ic156 s =>
  have hv:vSweep s.Sweep:=h
  have hlen:=hv.len
  obtain ⟨⟨n,x,y,z,r,g,st,w⟩,ti,tm,h1,h2,h3⟩:=hv
  have hm:4*s.Sweep.Site.Rose*s.Sweep.Site.Gates≤360*s.Sweep.Site.Gates:=Int.mul_le_mul_of_nonneg_right (by have:=r.2;omega) (by have:=g.1;omega)
  refine ⟨⟨by have:=Wh n;omega,⟨by have:=x.1;omega,by have:=x.2;omega⟩,⟨by have:=y.1;omega,by have:=y.2;omega⟩,Lw z (by decide) (by decide),Lw r (by decide) (by decide),Lw g (by decide) (by decide),Lw st (by decide) (by decide),Lw w (by decide) (by decide)⟩,Lw ti (by decide) (by decide),Lw tm (by decide) (by decide),by have:=r.2;omega,by have:=g.2;omega,fun r hr x hx=>(h3 r hr x hx).ok⟩
 | ic158 f =>
  obtain ⟨n,tm,hg,h1,h2⟩:=(show X8 f from h)
  have:=T3 hg
  obtain ⟨x,y,z,r,g⟩:=hg
  exact ⟨by have:=Wh n;omega,Lw tm (by decide) (by decide),⟨by have:=x.1;omega,by have:=x.2;omega⟩,⟨by have:=y.1;omega,by have:=y.2;omega⟩,Lw z (by decide) (by decide),Lw r (by decide) (by decide),Lw g (by decide) (by decide),by omega,fun v hv=>by obtain ⟨a,b,c⟩:=h2 v hv;exact ⟨by omega,b,by omega⟩⟩
 | ic160 n =>
  obtain ⟨tm,h1,h2⟩:=(show Zr n from h)
  exact ⟨Lw tm (by decide) (by decide),by omega⟩
end Go.Proofs.YtifbomimeodibaaGreat
namespace Go.Proofs.YtifbomimeodibaaGreat
open Go Go.RowKit Go.Eng
set_option maxRecDepth 10000
set_option linter.unusedVariables false
set_option linter.unusedSimpArgs false
instance (g:api_Grid):Decidable (Tg g):=by unfold Tg;infer_instance
def Uf {α:Type} (g:Nat):Nat→List α→List (List α)
 | 0,_=>[]
 | n+1,l=>l.take g::Uf g n (l.drop g)
def Vi (l:List Int):Option (volume_thing×List Int):=(rT l).bind fun nm=>(rI nm.2).bind fun x=>(rI x.2).bind fun y=>(rN y.2).bind fun z=>(rN z.2).bind fun ro=>(rN ro.2).bind fun g=>(rN g.2).bind fun st=>(rN st.2).bind fun w=>(rN w.2).bind fun ti=>(rN ti.2).bind fun tm =>
 if Uc ⟨nm.1,x.1,y.1,z.1,ro.1,g.1,st.1,w.1⟩ then (rL rE ((4*ro.1*g.1).toNat+1) (4*ro.1*g.1).toNat e0 tm.2).bind fun all=>some (.ic156 ⟨⟨⟨nm.1,x.1,y.1,z.1,ro.1,g.1,st.1,w.1⟩,ti.1,tm.1,Uf g.1.toNat (4*ro.1).toNat all.1⟩⟩,all.2) else none
def Vh (l:List Int):Option (volume_thing×List Int):=(rT l).bind fun nm=>(rN nm.2).bind fun tm=>(rI tm.2).bind fun x=>(rI x.2).bind fun y=>(rN y.2).bind fun sz=>(rN sz.2).bind fun wd=>(rN wd.2).bind fun hi =>
 if Tg ⟨x.1,y.1,sz.1,wd.1,hi.1⟩ then (rL rS ((wd.1*hi.1).toNat+1) (wd.1*hi.1).toNat ⟨0,0⟩ hi.2).bind fun all=>some (.ic158 ⟨nm.1,tm.1,⟨⟨x.1,y.1,sz.1,wd.1,hi.1⟩,all.1⟩⟩,all.2) else none
def Xt (l:List Int):Option (volume_thing×List Int):=(rN l).bind fun tm=>(rT tm.2).bind fun tx=>some (.ic160 ⟨tm.1,tx.1⟩,tx.2)
def Qe (l:List Int):Option (volume_thing×List Int):=(rN l).bind fun k=>if k.1=1 then Vi k.2 else if k.1=2 then Vh k.2 else if k.1=3 then Xt k.2 else none
theorem A3a (a:ByteArray×volume_reader) (b c:Int×volume_reader) (x1 x2 x3 x4 x5 x6 x7:Int) (y:List api_Echo×volume_reader) (hg:1≤x3∧x3≤1000):∀(m n:Nat) (acc:List (List api_Echo)) (l:List api_Echo),n<m→l.length=n*x3.toNat→n+acc.length≤1000 →
  Cr a b c x1 x2 x3 x4 x5 x6 x7 y m acc l=Ek a b c x1 x2 x3 x4 x5 x6 x7 y (acc++Uf x3.toNat n l):=by
 intro m
 induction m with
 | zero=>intro n acc l h;omega
 | succ m ih =>
  intro n acc l h hl hn
  rw [Cr,Ft]
  cases n with
  | zero =>
   rw [An (dF (by omega)),Uf,List.append_nil]
  | succ n =>
   rw [Nat.add_mul,Nat.one_mul] at hl
   rw [Ap (dT (by omega)),Nb x3.toNat rfl (by omega) (by omega),Hl (by simp;omega) (by decide),K4 x3.toNat (by omega) rfl (by omega)]
   rw [ih n (acc++[l.take x3.toNat]) (l.drop x3.toNat) (by omega) (by simp;omega) (by simp;omega)]
   rw [Uf,List.append_assoc]
   rfl
theorem Wv (F:Nat) (e:Int):Hv F e=some (if e=0 then .ok () else .error W7):=by
 unfold Hv
 by_cases h:e=0
 ·rw [An (by simp [h]),if_pos h]
 ·rw [Ap (by simp [h]),if_neg h];rfl
theorem A1v {F:Nat} (hF:200000≤F) (nm:ByteArray) (x y z ro g st w ti tm:Int) (r0 r1 r2:volume_reader) {l:List Int} (hl:By l) :
  Rd (Ej F (nm,r0) (x,r1) (y,r2) z ro g st w ti tm l) (if Uc ⟨nm,x,y,z,ro,g,st,w⟩ then (rL rE ((4*ro*g).toNat+1) (4*ro*g).toNat e0 l).bind fun all=>some (.ic156 ⟨⟨⟨nm,x,y,z,ro,g,st,w⟩,ti,tm,Uf g.toNat (4*ro).toNat all.1⟩⟩,all.2) else none):=by
 unfold Ej
 obtain ⟨e,he,hv⟩:=X4 F ⟨nm,x,y,z,ro,g,st,w⟩
 rw [he,sb,Wv,sb]
 by_cases h:e=0
 ·rw [if_pos h,if_pos (hv.1 h)]
  obtain ⟨_,_,_,_,⟨b1,b2⟩,⟨b3,b4⟩,_⟩:=hv.1 h
  simp only at b1 b2 b3 b4
  have hm:4*ro*g≤360*g:=Int.mul_le_mul_of_nonneg_right (by omega) (by omega)
  have hm0:0≤4*ro*g:=Int.mul_nonneg (by omega) (by omega)
  show Rd ((ck (4*ro)).bind _) _
  rw [ckb (by omega),ckb (by omega)]
  have hr:=A1u hF (N:=(4*ro*g).toNat) (by omega) hl e0
  rw [show (((4*ro*g).toNat:Nat):Int)=4*ro*g by omega] at hr
  refine Rd.bind hr fun all r h2=>?_
  have hlen:=(A1t (fun l x r hb h=>Yt hb h) _ _ _ _ _ _ hl h2).1
  have hl2:all.length=(4*ro).toNat*g.toNat:=by
   rw [hlen]
   have:(4*ro*g)=(((4*ro).toNat*g.toNat:Nat):Int):=by
    push_cast
    rw [show ((4*ro).toNat:Int)=4*ro by omega,show (g.toNat:Int)=g by omega]
   omega
  show Rd (Cr _ _ _ z ro g st w ti tm _ F [] all) _
  rw [A3a _ _ _ z ro g st w ti tm _ ⟨b3,by omega⟩ F (4*ro).toNat [] all (by omega) hl2 (by simp;omega),Ek]
  exact Rd.ok
 ·rw [if_neg h,if_neg (fun h'=>h (hv.2 h'))]
  exact Rd.bad
theorem A39 {F:Nat} (hF:200000≤F) {l:List Int} (hl:By l):Rd (Cs F ⟨l⟩) (Qe l):=by
 have h1000:1000≤F:=by omega
 rw [Cs,Qe]
 refine (E3 h1000 hl).bind fun k r h=>?_
 have hb:=hl.suf (Ge hl h).2.2
 show Rd (bif k==1 then _ else bif k==2 then _ else bif k==3 then _ else _) (if k=1 then _ else if k=2 then _ else if k=3 then _ else _)
 by_cases k1:k=1
 ·rw [if_pos k1,Ap (by simp [k1]),Vi]
  refine (Yu h1000 hb).bind fun nm r1 h1=>?_
  have b1:=hb.suf (A48 hb h1).1
  refine (Pr h1000 b1).bind fun x r2 h2=>?_
  have b2:=b1.suf (Wj b1 h2).2
  refine (Pr h1000 b2).bind fun y r3 h3=>?_
  have b3:=b2.suf (Wj b2 h3).2
  refine (E3 h1000 b3).bind fun z r4 h4=>?_
  have b4:=b3.suf (Ge b3 h4).2.2
  refine (E3 h1000 b4).bind fun ro r5 h5=>?_
  have b5:=b4.suf (Ge b4 h5).2.2
  refine (E3 h1000 b5).bind fun g r6 h6=>?_
  have b6:=b5.suf (Ge b5 h6).2.2
  refine (E3 h1000 b6).bind fun st r7 h7=>?_
  have b7:=b6.suf (Ge b6 h7).2.2
  refine (E3 h1000 b7).bind fun w r8 h8=>?_
  have b8:=b7.suf (Ge b7 h8).2.2
  refine (E3 h1000 b8).bind fun ti r9 h9=>?_
  have b9:=b8.suf (Ge b8 h9).2.2
  refine (E3 h1000 b9).bind fun tm r10 h10=>?_
  have b10:=b9.suf (Ge b9 h10).2.2
  exact A1v hF nm x y z ro g st w ti tm _ _ _ b10
 ·rw [if_neg k1,An (by simp [k1])]
  by_cases k2:k=2
  ·rw [if_pos k2,Ap (by simp [k2]),Vh]
   refine (Yu h1000 hb).bind fun nm r1 h1=>?_
   have b1:=hb.suf (A48 hb h1).1
   refine (E3 h1000 b1).bind fun tm r2 h2=>?_
   have b2:=b1.suf (Ge b1 h2).2.2
   refine (Pr h1000 b2).bind fun x r3 h3=>?_
   have b3:=b2.suf (Wj b2 h3).2
   refine (Pr h1000 b3).bind fun y r4 h4=>?_
   have b4:=b3.suf (Wj b3 h4).2
   refine (E3 h1000 b4).bind fun sz r5 h5=>?_
   have b5:=b4.suf (Ge b4 h5).2.2
   refine (E3 h1000 b5).bind fun wd r6 h6=>?_
   have b6:=b5.suf (Ge b5 h6).2.2
   refine (E3 h1000 b6).bind fun hi r7 h7=>?_
   have b7:=b6.suf (Ge b6 h7).2.2
   show Rd ((Hv F (Bn ⟨x,y,sz,wd,hi⟩)).bind _) (if Tg ⟨x,y,sz,wd,hi⟩ then _ else _)
   rw [Wv,sb]
   have hg:=Un ⟨x,y,sz,wd,hi⟩
   by_cases h0:Bn ⟨x,y,sz,wd,hi⟩=0
   ·rw [if_pos h0,if_pos (hg.1 h0)]
    obtain ⟨c1,c2⟩:=T3 (hg.1 h0)
    simp only at c1 c2
    show Rd ((ck (wd*hi)).bind _) _
    rw [ckb (by omega)]
    have hr:=A38 hF (N:=(wd*hi).toNat) (by omega) b7 ⟨0,0⟩
    rw [show (((wd*hi).toNat:Nat):Int)=wd*hi by omega] at hr
    refine Rd.bind hr fun all r h2=>?_
    exact Rd.ok
   ·rw [if_neg h0,if_neg (fun h'=>h0 (hg.2 h'))]
    exact Rd.bad
  ·rw [if_neg k2,An (by simp [k2])]
   by_cases k3:k=3
   ·rw [if_pos k3,Ap (by simp [k3]),Xt]
    refine (E3 h1000 hb).bind fun tm r1 h1=>?_
    have b1:=hb.suf (Ge hb h1).2.2
    refine (Yu h1000 b1).bind fun tx r2 h2=>?_
    exact Rd.ok
   ·rw [if_neg k3,An (by simp [k3]),Fu]
    exact Rd.bad
theorem Xu {F:Nat} (hF:1000≤F) {p:List Int} (hp:By p):(∃r,Dj F ⟨p⟩=some (0,false,r)∧rN p=none)∨∃n r,Dj F ⟨p⟩=some (n,true,⟨r⟩)∧rN p=some (n,r):=by
 have h:=E3 hF hp
 unfold Dj
 cases hn:rN p with
 | none =>
  rw [hn] at h
  obtain ⟨r,h⟩:=h
  rw [h]
  exact .inl ⟨_,rfl,rfl⟩
 | some y =>
  rw [hn] at h
  rw [show Af F ⟨p⟩=some (.ok (y.1,⟨y.2⟩)) from h]
  exact .inr ⟨y.1,y.2,rfl,rfl⟩
theorem Zn {l:List Int} (h:By l):sby (bst l)=l:=by
 unfold sby bst
 simp only [List.map_map]
 conv=>rhs;rw [←List.map_id l]
 apply List.map_congr_left
 intro x hx
 have:=h x hx
 simp only [Function.comp,id]
 rw [UInt8.toNat_ofNat_of_lt' (show x.toNat<256 by omega)]
 omega
theorem bEq {a b:List Int} (ha:By a) (hb:By b):Gy a b=decide (a=b):=by
 unfold Gy
 rw [Bool.eq_iff_iff,Qi,decide_eq_true_eq]
 exact ⟨fun h=>by rw [←Zn ha,←Zn hb,h],fun h=>by rw [h]⟩
theorem A0g {l:List Int} {t:volume_thing} {r:List Int} (h:Qe l=some (t,r)):t≠.nil_:=by
 obtain ⟨k,r1,h1,h⟩:=F5 h
 split at h
 ·unfold Vi at h
  obtain ⟨_,_,_,h⟩:=F5 h
  obtain ⟨_,_,_,h⟩:=F5 h
  obtain ⟨_,_,_,h⟩:=F5 h
  obtain ⟨_,_,_,h⟩:=F5 h
  obtain ⟨_,_,_,h⟩:=F5 h
  obtain ⟨_,_,_,h⟩:=F5 h
  obtain ⟨_,_,_,h⟩:=F5 h
  obtain ⟨_,_,_,h⟩:=F5 h
  obtain ⟨_,_,_,h⟩:=F5 h
  obtain ⟨_,_,_,h⟩:=F5 h
  split at h
  ·obtain ⟨_,_,_,h⟩:=F5 h
   cases h
   simp
  ·cases h
 ·split at h
  ·unfold Vh at h
   obtain ⟨_,_,_,h⟩:=F5 h
   obtain ⟨_,_,_,h⟩:=F5 h
   obtain ⟨_,_,_,h⟩:=F5 h
   obtain ⟨_,_,_,h⟩:=F5 h
   obtain ⟨_,_,_,h⟩:=F5 h
   obtain ⟨_,_,_,h⟩:=F5 h
   obtain ⟨_,_,_,h⟩:=F5 h
   split at h
   ·obtain ⟨_,_,_,h⟩:=F5 h
    cases h
    simp
   ·cases h
  ·split at h
   ·unfold Xt at h
    obtain ⟨_,_,_,h⟩:=F5 h
    obtain ⟨_,_,_,h⟩:=F5 h
    cases h
    simp
   ·cases h
noncomputable instance (t:volume_thing):Decidable (vT t):=Classical.propDecidable _
noncomputable def unS (p:List Int):volume_thing×Int:=match rN p with
 | none=>(.nil_,15)
 | some (n,r)=>if (r.length:Int)≠n+5 then (.nil_,15) else if p.drop (p.length-5)≠X5 (p.take (p.length-5)) then (.nil_,15) else match Qe (r.take n.toNat) with
  | none=>(.nil_,7)
  | some (t,r2)=>if vT t∧r2=[] then (t,0) else (.nil_,7)
theorem A6m {F:Nat} (hF:200000≤F) {p:List Int} (hp:By p) (hl:p.length<F) (hl9:p.length≤1000000000):Jo F p=some (unS p):=by
 unfold Jo unS
 rcases Xu (F:=F) (by omega) hp with ⟨r,h1,h2⟩|⟨n,r,h1,h2⟩
 ·rw [h1,h2,sb,Ap (by rfl)]
 ·obtain ⟨a,b,c⟩:=Ge hp h2
  have hrl:=c.length_le
  rw [h1,h2,sb,An (by rfl),ckb (by simp only;omega)]
  show (bif (r.length:Int) != n+5 then _ else _)=some (if (r.length:Int)≠n+5 then _ else _)
  by_cases h3:(r.length:Int)=n+5
  ·rw [if_neg (by simp [h3]),An (by simp [h3]),ckb (by omega),K4 (p.length-5) (by omega) rfl (by omega),ckb (by omega),Nb (p.length-5) rfl (by omega) (by omega)]
   have hby1:By (p.take (p.length-5)):=fun x hx=>hp x (List.mem_of_mem_take hx)
   have hby2:By (p.drop (p.length-5)):=fun x hx=>hp x (List.mem_of_mem_drop hx)
   rw [A24 (by omega) hby1 (by rw [List.length_take];omega) (by rw [List.length_take];omega),sb,bEq hby2 (A3n _).by]
   by_cases h4:p.drop (p.length-5)=X5 (p.take (p.length-5))
   ·rw [if_neg (by simp [h4]),dT h4,An (by rfl),Nb n.toNat rfl (by simp only;omega) (show n.toNat≤r.length by omega)]
    have hbr:By (r.take n.toNat):=fun x hx=>(hp.suf c) x (List.mem_of_mem_take hx)
    have ht:=A39 hF hbr
    cases h5:Qe (r.take n.toNat) with
    | none =>
     rw [h5] at ht
     obtain ⟨r',ht⟩:=ht
     show (Cs F ⟨r.take n.toNat⟩).bind _=_
     rw [ht,sb]
     rfl
    | some y =>
     obtain ⟨t,r2⟩:=y
     rw [h5] at ht
     show (Cs F ⟨r.take n.toNat⟩).bind _=_
     rw [show Cs F ⟨r.take n.toNat⟩=some (.ok (t,⟨r2⟩)) from ht,sb]
     obtain ⟨e,he,hv⟩:=Sy (F:=F) (by omega) (A0g h5)
     show (Dw F t).bind _=_
     rw [he,sb,Wv,sb]
     by_cases h6:e=0
     ·rw [if_pos h6]
      by_cases h7:r2=[]
      ·subst h7
       show _=some (if vT t∧([]:List Int)=[] then _ else _)
       rw [if_pos ⟨hv.1 h6,rfl⟩]
       rfl
      ·show (bif decide ((r2.length:Int)>0) then _ else _)=some (if vT t∧r2=[] then _ else _)
       rw [if_neg (fun h=>h7 h.2),Ap (dT (by have:=List.length_pos_iff.2 h7;omega))]
     ·rw [if_neg h6]
      show _=some (if vT t∧r2=[] then _ else _)
      rw [if_neg (fun h=>h6 (hv.2 h.1))]
      rfl
   ·rw [if_pos h4,dF h4,Ap (by rfl)]
  ·rw [if_pos h3,Ap (by simp [h3])]
end Go.Proofs.YtifbomimeodibaaGreat
namespace Go.Proofs.YtifbomimeodibaaGreat
open Go Go.RowKit Go.Eng
set_option maxRecDepth 10000
set_option linter.unusedVariables false
set_option linter.unusedSimpArgs false
end Go.Proofs.YtifbomimeodibaaGreat
namespace Go.Proofs.YtifbomimeodibaaGreat
open Go Go.RowKit Go.Eng
set_option maxRecDepth 10000
set_option linter.unusedVariables false
set_option linter.unusedSimpArgs false
def Br (ps:List (List Int)):List Int:=ps.flatMap fun p=>0::p
theorem Dh (p:List Int) (ps:List (List Int)):Br (p::ps)=0::(p++Br ps):=by simp [Br]
theorem A5f (l:List Int) (h:By l):∃p ps,l=p++Br ps∧Nz p∧∀q∈ps,Nz q:=by
 induction l with
 | nil=>exact ⟨[],[],rfl,Nz.nil,fun q hq=>by cases hq⟩
 | cons x l ih =>
  obtain ⟨p,ps,h1,h2,h3⟩:=ih fun y hy=>h y (by simp [hy])
  have hx:=h x (by simp)
  by_cases h0:x=0
  ·refine ⟨[],p::ps,by rw [h0,h1,Dh];rfl,Nz.nil,fun q hq=>?_⟩
   rcases List.mem_cons.1 hq with rfl|hq
   ·exact h2
   ·exact h3 q hq
  ·refine ⟨x::p,ps,by rw [h1];rfl,fun y hy=>?_,h3⟩
   rcases List.mem_cons.1 hy with rfl|hy
   ·omega
   ·exact h2 y hy
theorem A1g {ps:List (List Int)} (h:∀q∈ps,Nz q):By (Br ps):=fun x hx=>by
 obtain ⟨p,hp,hx⟩:=List.mem_flatMap.1 hx
 rcases List.mem_cons.1 hx with rfl|hx
 ·exact ⟨by decide,by decide⟩
 ·exact (h p hp).by x hx
theorem A4a {x:Int} (h:1≤x∧x<256):(UInt8.ofNat x.toNat==(0:Int).toNat.toUInt8)=false:=by
 rw [beq_eq_false_iff_ne]
 intro he
 have:=congrArg UInt8.toNat he
 rw [UInt8.toNat_ofNat_of_lt' (show x.toNat<256 by omega)] at this
 simp at this
 omega
theorem A1f {p:List Int} (h:Nz p):A1d p 0=-1:=by
 induction p with
 | nil=>rfl
 | cons x p ih =>
  have:=ih fun y hy=>h y (by simp [hy])
  unfold A1d at this ⊢
  show Lib.indexByte (UInt8.ofNat x.toNat::Lib.bytesOf p) _=_
  rw [Lib.indexByte,A4a (h x (by simp)),if_neg (by simp),this]
  rfl
theorem A1e {p:List Int} (l:List Int) (h:Nz p):A1d (p++0::l) 0=p.length:=by
 induction p with
 | nil=>rfl
 | cons x p ih =>
  have:=ih fun y hy=>h y (by simp [hy])
  unfold A1d at this ⊢
  show Lib.indexByte (UInt8.ofNat x.toNat::Lib.bytesOf (p++0::l)) _=_
  rw [Lib.indexByte,A4a (h x (by simp)),if_neg (by simp),this,if_neg (by rw [beq_iff_eq];omega)]
  simp
def V5 {σ X:Type} (body:σ→X→Option (σ×Bool)):List X→σ→Option (σ×Bool)
 | [],s=>some (s,true)
 | x::l,s=>(body s x).bind fun q=>bif q.2 then V5 body l q.1 else some (q.1,false)
def Vf:Int→List (List Int)→List (Int×List Int)
 | _,[]=>[]
 | k,p::ps=>(k,p)::Vf (k+1+p.length) ps
theorem Xs {σ:Type} (body:σ→Int×List Int→Option (σ×Bool)) (b:List Int) (hb:b.length≤1000000000):∀(ps:List (List Int)) (m k:Nat) (s:σ),ps≠[]→b.drop k=Br ps→(∀q∈ps,Nz q)→ps.length<m →
  Ed body b m k s=V5 body (Vf k ps) s:=by
 intro ps
 induction ps with
 | nil=>intro m k s h;exact absurd rfl h
 | cons p ps ih =>
  intro m k s _ hd hz hm
  obtain ⟨m,rfl⟩:∃m',m=m'+1:=⟨m-1,by omega⟩
  rw [Dh] at hd
  have hk:k<b.length:=by
   rcases Nat.lt_or_ge k b.length with h|h
   ·exact h
   ·rw [List.drop_of_length_le h] at hd;cases hd
  have hd1:b.drop (k+1)=p++Br ps:=by
   have:=congrArg List.tail hd
   rw [List.tail_drop] at this
   exact this
  have hlen:=congrArg List.length hd1
  rw [List.length_drop,List.length_append] at hlen
  have hp:Nz p:=hz p (by simp)
  rw [Ed,Gk,Ap (by rw [dT (show (k:Int)≥0 by omega),dT (show (k:Int)<(b.length:Int) by omega)];rfl),ckb (by omega),K4 (k+1) (by omega) rfl (by omega),hd1]
  cases ps with
  | nil =>
   have e:p++Br []=p:=by simp [Br]
   have hi:Bi (p++Br []) 0=-1:=by rw [e];exact A1f hp
   rw [hi,Ap (by rfl),ckb (by omega),K4 (k+1) (by omega) rfl (by omega),hd1,e]
   rfl
  | cons p2 ps =>
   have hi:Bi (p++Br (p2::ps)) 0=p.length:=by rw [Dh];exact A1e _ hp
   have hj:(Br (p2::ps)).length≥1:=by rw [Dh];simp
   rw [hi,An (dF (by omega)),ckb (by omega),ckb (by omega),ckb (by omega),Zw (k+1) (k+1+p.length) (by omega) (by omega) (by omega),hd1,show k+1+p.length-(k+1)=p.length by omega,List.take_left]
   rw [Vf,V5]
   congr 1
   funext q
   cases hq:q.2 with
   | false=>rfl
   | true =>
    rw [Ap rfl,Ap rfl,ckb (by omega),ckb (by omega)]
    have:=ih m (k+1+p.length) q.1 (by simp) (by rw [←List.drop_drop,hd1,List.drop_left]) (fun r hr=>hz r (by simp [hr])) (by simp at hm ⊢;omega)
    rw [show ((k:Int)+(1+(p.length:Int)))=((k+1+p.length:Nat):Int) by omega,this]
    rw [show ((k+1+p.length:Nat):Int)=(k:Int)+1+p.length by omega]
theorem A0e {σ:Type} (F:Nat) (body:σ→Int×List Int→Option (σ×Bool)) {p:List Int} {ps:List (List Int)} (hp:Nz p) (hz:∀q∈ps,Nz q) (hl:(p++Br ps).length≤1000000000) (hF:ps.length<F) (s:σ) :
  G1 F (p++Br ps) body s=V5 body (Vf p.length ps) s:=by
 rw [G1]
 cases ps with
 | nil =>
  have e:p++Br []=p:=by simp [Br]
  have hi:Bi (p++Br []) 0=-1:=by rw [e];exact A1f hp
  obtain ⟨G,rfl⟩:∃G,F=G+1:=⟨F-1,by omega⟩
  rw [hi,Ed,Gk,An (by rfl)]
  rfl
 | cons q qs =>
  have hi:Bi (p++Br (q::qs)) 0=p.length:=by rw [Dh];exact A1e _ hp
  rw [hi]
  exact Xs body _ hl _ F p.length s (by simp) (by rw [List.drop_left]) hz hF
theorem Ts (ps:List (List Int)):ps.length≤(Br ps).length:=by
 induction ps with
 | nil=>simp
 | cons p ps ih=>rw [Dh];simp;omega
def Fl (t:volume_thing):volume_Item:=t.cs default Av Au Ay
theorem A31 (F:Nat) {t:volume_thing} (h:t≠.nil_):Jq F t=some (Fl t):=by
 cases t with
 | nil_=>exact absurd rfl h
 | ic156 s=>rfl
 | ic158 f=>rfl
 | ic160 n=>rfl
theorem A5j {p:List Int} (h:(unS p).2=0):vT (unS p).1:=by
 unfold unS at h ⊢
 split
 ·rename_i h1;rw [h1] at h;cases h
 ·rename_i n r h1
  rw [h1] at h
  simp only at h
  split
  ·rename_i h2;rw [if_pos h2] at h;cases h
  ·rename_i h2
   rw [if_neg h2] at h
   split
   ·rename_i h3;rw [if_pos h3] at h;cases h
   ·rename_i h3
    rw [if_neg h3] at h
    split
    ·rename_i h4;rw [h4] at h;cases h
    ·rename_i t r2 h4
     rw [h4] at h
     simp only at h
     split
     ·rename_i h5;exact h5.1
     ·rename_i h5;rw [if_neg h5] at h;cases h
theorem vT.nn {t:volume_thing} (h:vT t):t≠.nil_:=fun e=>by rw [e] at h;exact h
def Tr (p:List Int):Bool:=p.all fun c=>decide (c≥128)&&decide (c≤254)
def Vq (p:List Int):Bool:=Tr p||match rN p with
 | none=>false
 | some (n,r)=>decide ((r.length:Int)<n+5)
theorem A0l {F:Nat} (hF:1000≤F) {p:List Int} (hp:By p) (hl:p.length≤1000000000):∀(m i:Nat) (c:Bool),p.length-i<m→i≤p.length →
  Hs F p m i c=K3 F p (c&&Tr (p.drop i)):=by
 intro m
 induction m with
 | zero=>intro i c h;omega
 | succ m ih =>
  intro i c h hi
  rw [Hs,Lm]
  by_cases hb:i<p.length
  ·have hd:=List.drop_eq_getElem_cons hb
   rw [Ap (dT (by omega)),Fk i p[i] rfl (List.getElem?_eq_getElem hb),ckb (by omega),show ((i:Int)+1)=((i+1:Nat):Int) by omega,ih (i+1) _ (by omega) (by omega)]
   congr 1
   rw [hd]
   have e:Tr (p[i]::p.drop (i+1))=(decide (p[i]≥128)&&decide (p[i]≤254)&&Tr (p.drop (i+1))):=List.all_cons ..
   rw [e]
   cases c<;>cases decide (p[i]≥128)<;>cases decide (p[i]≤254)<;>cases Tr (p.drop (i+1))<;>rfl
  ·rw [An (dF (by omega)),List.drop_of_length_le (by omega)]
   simp [Tr]
theorem A3o {F:Nat} (hF:1000≤F) {p:List Int} (hp:By p) (hlF:p.length<F) (hl:p.length≤1000000000):Mp F p=some (Vq p):=by
 rw [Mp,show (0:Int)=((0:Nat):Int) from rfl,A0l hF hp hl F 0 true (by omega) (by omega),K3,List.drop_zero,Bool.true_and]
 unfold Vq
 rcases Xu hF hp with ⟨r,h1,h2⟩|⟨n,r,h1,h2⟩
 ·rw [h1,h2,sb]
  cases Tr p<;>rfl
 ·obtain ⟨a,b,c⟩:=Ge hp h2
  have:=c.length_le
  rw [h1,h2,sb]
  cases Tr p with
  | true=>rfl
  | false =>
   show ((ck (n+5)).bind fun x26=>some (decide ((r.length:Int)<x26)))=_
   rw [ckb (by omega)]
   rfl
noncomputable def rdF (total:Int):Int→List (List Int)→List volume_Item×Int×Int
 | _,[]=>([],total,0)
 | k,p::ps=>if (unS p).2=0 then (Fl (unS p).1::(rdF total (k+1+p.length) ps).1,(rdF total (k+1+p.length) ps).2) else ([],k,if ps=[]∧Vq p=true then 16 else (unS p).2)
theorem A0h {F:Nat} (hF:200000≤F) (b:List Int) (hb:b.length<F) (hb9:b.length≤1000000000) (total:Int):∀(ps:List (List Int)) (k:Int) (acc:List volume_Item),0≤k→k+(Br ps).length=b.length→(∀q∈ps,Nz q)→acc.length+ps.length≤1000000000 →
  ∃tg:Nat,V5 (Hq F b) (Vf k ps) (acc,total,0,0)=some ((acc++(rdF total k ps).1,(rdF total k ps).2.1,(rdF total k ps).2.2,tg),decide (tg≠3))∧(tg=0∨tg=3):=by
 intro ps
 induction ps with
 | nil=>intro k acc h0 h1 h2 h3;exact ⟨0,by simp [Vf,V5,rdF],.inl rfl⟩
 | cons p ps ih =>
  intro k acc h0 h1 h2 h3
  have hp:=(h2 p (by simp)).by
  rw [Dh] at h1
  simp only [List.length_cons,List.length_append] at h1 h3
  have hun:=A6m hF hp (by omega) (by omega)
  rw [Vf,V5,rdF,Hq]
  simp only [hun,sb]
  by_cases h:(unS p).2=0
  ·have hv:=A5j h
   have happ:(apd 224 acc [Fl (unS p).1]).bind (fun l405=>some ((l405,total,(0:Int),0),true))=some ((acc++[Fl (unS p).1],total,(0:Int),(0:Nat)),true):=Hl (by simp;omega) (by decide)
   rw [An (by simp [h]),A31 F hv.nn,sb,if_pos h,happ,sb,Ap rfl]
   obtain ⟨tg,h4,h5⟩:=ih (k+1+p.length) (acc++[Fl (unS p).1]) (by omega) (by omega) (fun q hq=>h2 q (by simp [hq])) (by simp;omega)
   refine ⟨tg,?_,h5⟩
   rw [h4,List.append_assoc]
   rfl
  ·rw [Ap (by simp [h]),ckb (by omega),ckb (by omega),if_neg h]
   refine ⟨3,?_,.inr rfl⟩
   have hlast:(k+1+(p.length:Int)==(b.length:Int))=decide (ps=[]):=by
    cases ps with
    | nil=>simp [Br] at h1;simp;omega
    | cons q qs=>rw [Dh] at h1;simp at h1;simp;omega
   rw [hlast]
   by_cases h6:ps=[]
   ·rw [dT h6,gdT (by rfl),A3o (by omega) hp (by omega) (by omega),sb,Ap (c:=true) rfl]
    cases ht:Vq p with
    | true=>rw [Ap (by rfl),sb,An rfl,if_pos ⟨h6,rfl⟩];simp
    | false=>rw [An (by rfl),sb,An rfl,if_neg (by simp)];simp
   ·rw [dF h6,gdF (by rfl),sb,An (c:=false) rfl,An (by rfl),sb,An rfl,if_neg (fun h=>h6 h.1)];simp
def RVF1:List Int:=[82,86,70,49]
theorem RVF1_nz:Nz RVF1:=by intro x hx;simp [RVF1] at hx;omega
theorem A0f (F:Nat) (l:List Int) (hl:By l):Fw F (RVF1++l) RVF1=some true:=by
 unfold Fw
 rw [Ap (dT (by rw [List.length_append];omega)),Nb 4 rfl (by rfl) (by rw [List.length_append];simp [RVF1]),show (4:Nat)=RVF1.length from rfl,List.take_left,bEq RVF1_nz.by RVF1_nz.by]
 simp
end Go.Proofs.YtifbomimeodibaaGreat
namespace Go.Proofs.YtifbomimeodibaaGreat
open Go Go.RowKit Go.Eng
set_option maxRecDepth 10000
set_option linter.unusedVariables false
set_option linter.unusedSimpArgs false
def okI (t:volume_thing):Prop:=vT t∧tzT t∧(E0 t).length≤6000
theorem okI.of {t:volume_thing} (h1:vT t) (h2:tzT t) (h3:cnt t≤32):okI t:=⟨h1,h2,by have:=Re h1.ok;omega⟩
end Go.Proofs.YtifbomimeodibaaGreat
namespace Go.Proofs.YtifbomimeodibaaGreat
open Go Go.RowKit Go.Eng
set_option maxRecDepth 10000
set_option linter.unusedVariables false
set_option linter.unusedSimpArgs false
theorem R9 (s:ByteArray):sEq s s=true:=Qi.2 rfl
theorem Xe {x:Int}:(x != x)=false:=by simp
theorem Zk {t:volume_thing} (h:t≠.nil_):Dd (Fl t)=t:=by
 cases t with
 | nil_=>exact absurd rfl h
 | ic156 s =>
  show Dd (Av s)=_
  simp [Dd,Av,R9]
 | ic158 f =>
  show Dd (Au f)=_
  simp [Dd,Au,R9]
  rfl
 | ic160 n =>
  show Dd (Ay n)=_
  simp [Dd,Ay,R9]
  rfl
theorem Yg {F:Nat} (hF:5000≤F) {t:volume_thing} (h:vT t):Fo F (Fl t)=some (t,0):=by
 obtain ⟨e,he,hv⟩:=Sy hF h.nn
 have h0:e=0:=hv.2 h
 subst h0
 rw [Fo,Zk h.nn]
 cases t with
 | nil_=>exact h.elim
 | ic156 s=>rw [show Dw F (.ic156 s)=Bz F s from rfl] at he;show (Bz F s).bind _=_;rw [he];rfl
 | ic158 s=>rw [show Dw F (.ic158 s)=B5 F s from rfl] at he;show (B5 F s).bind _=_;rw [he];rfl
 | ic160 s=>rw [show Dw F (.ic160 s)=Bb F s from rfl] at he;show (Bb F s).bind _=_;rw [he];rfl
theorem A37 {F:Nat} (hF:200000≤F) {t:volume_thing} (h:vT t) (hl:(E0 t).length+100≤F):F2 F (Fl t)=some (Pg t,0):=by
 rw [F2,Yg (by omega) h,sb,An (by rfl)]
 show (Kb F t).bind _=_
 rw [A0v hF h.ok hl]
 rfl
def A5u (ts:List volume_thing):List Int:=Br (ts.map R6)
theorem Ys {t:volume_thing} (h:vT t):(R6 t).length≤(E0 t).length+14:=by
 have hl:=Qk h.ok
 have h9:=D7 (x:=((E0 t).length:Int)) ⟨by omega,by omega⟩
 rw [Int.toNat_natCast] at h9
 unfold R6 Pn
 simp only [List.length_append,Te]
 omega
end Go.Proofs.YtifbomimeodibaaGreat
namespace Go.Proofs.YtifbomimeodibaaGreat
open Go Go.RowKit Go.Eng
set_option maxRecDepth 10000
set_option linter.unusedVariables false
set_option linter.unusedSimpArgs false
theorem Zb {α:Type} [DecidableEq α] {a b:List α} {i:Nat} (ha:i<a.length) (hb:i<b.length):decide (a.drop i=b.drop i)=(decide (a[i]=b[i])&&decide (a.drop (i+1)=b.drop (i+1))):=by
 rw [List.drop_eq_getElem_cons ha,List.drop_eq_getElem_cons hb,Bool.eq_iff_iff,decide_eq_true_eq,List.cons.injEq,Bool.and_eq_true,decide_eq_true_eq,decide_eq_true_eq]
theorem Xh {α:Type} [DecidableEq α] {a b:List α} {i:Nat} (ha:a.length≤i) (hb:b.length≤i):decide (a.drop i=b.drop i)=true:=by
 rw [List.drop_of_length_le ha,List.drop_of_length_le hb];simp
theorem Yf (a b:List Int) (hl:a.length=b.length) (h9:a.length≤1000000000):∀(m i:Nat),a.length-i<m→i≤a.length→Hm a b m i=some (decide (a.drop i=b.drop i)):=by
 intro m
 induction m with
 | zero=>intro i h;omega
 | succ m ih =>
  intro i h hi
  rw [Hm,L4]
  by_cases hb:i<a.length
  ·rw [Ap (dT (by omega)),Fk i a[i] rfl (List.getElem?_eq_getElem hb),Fk i b[i] rfl (List.getElem?_eq_getElem (by omega)),Zb hb (by omega)]
   by_cases he:a[i]=b[i]
   ·rw [An (by simp [he]),ckb (by omega)]
    have:=ih (i+1) (by omega) (by omega)
    rw [show ((i:Int)+1)=((i+1:Nat):Int) by omega,this,dT he,Bool.true_and]
   ·rw [Ap (by simp [he]),dF he,Bool.false_and]
  ·rw [An (dF (by omega)),L5,Xh (by omega) (by omega)]
theorem A0y {F:Nat} {a b:List Int} (hF:a.length<F) (h9:a.length≤1000000000):Js F a b=some (decide (a=b)):=by
 rw [Js]
 by_cases h:a.length=b.length
 ·rw [An (by simp [h]),show (0:Int)=((0:Nat):Int) from rfl,Yf a b h h9 F 0 (by omega) (by omega),List.drop_zero,List.drop_zero]
 ·rw [Ap (by simp;omega),dF (fun e=>h (by rw [e]))]
theorem A5r (a b:ByteArray):(a==b)=decide (a=b):=by
 rw [Bool.eq_iff_iff,decide_eq_true_eq]
 cases a with
 | mk x =>
  cases b with
  | mk y =>
   rw [ByteArray.mk.injEq,←beq_iff_eq (a:=x)]
   rfl
theorem A3m (a b:api_Site):((a.Name==b.Name)&&(((a.X:Int)==b.X)&&(((a.Y:Int)==b.Y)&&(((a.Z:Int)==b.Z)&&(((a.Rose:Int)==b.Rose)&&(((a.Gates:Int)==b.Gates)&&(((a.Step:Int)==b.Step)&&(((a.Width:Int)==b.Width)&&true))))))))=decide (a=b):=by
 rw [A5r]
 cases a;cases b
 rw [Bool.eq_iff_iff]
 simp [and_assoc]
theorem A2x (a b:api_Grid):(((a.X:Int)==b.X)&&(((a.Y:Int)==b.Y)&&(((a.Size:Int)==b.Size)&&(((a.Wide:Int)==b.Wide)&&(((a.High:Int)==b.High)&&true)))))=decide (a=b):=by
 cases a;cases b
 rw [Bool.eq_iff_iff]
 simp [and_assoc]
end Go.Proofs.YtifbomimeodibaaGreat
namespace Go.Proofs.YtifbomimeodibaaGreat
open Go Go.RowKit Go.Eng
set_option maxRecDepth 10000
set_option linter.unusedVariables false
set_option linter.unusedSimpArgs false
def off (ts:List volume_thing) (i:Nat):Nat:=4+(A5u (ts.take i)).length
end Go.Proofs.YtifbomimeodibaaGreat
namespace Go.Proofs.YtifbomimeodibaaGreat
open Go Go.RowKit Go.Eng
set_option maxRecDepth 10000
set_option linter.unusedVariables false
set_option linter.unusedSimpArgs false
end Go.Proofs.YtifbomimeodibaaGreat
namespace Go.Proofs.YtifbomimeodibaaGreat
open Go Go.RowKit Go.Eng
set_option maxRecDepth 10000
set_option linter.unusedVariables false
set_option linter.unusedSimpArgs false
end Go.Proofs.YtifbomimeodibaaGreat
namespace Go.Proofs.YtifbomimeodibaaGreat
open Go Go.RowKit Go.Eng
set_option maxRecDepth 10000
set_option linter.unusedVariables false
set_option linter.unusedSimpArgs false
def Uq {α:Type} (b:List Int) (bad:Bool) (y:Option (α×ref12_reader)) (o:Option (α×List Int)) (ok:α→Prop):Prop :=
 ∃x r,y=some (x,r)∧r.b <:+ b∧ok x∧((bad=false∧o=some (x,r.b)∧r.bad=false)∨(r.bad=true∧(bad=true∨o=none)))
theorem Uq.bind {α β:Type} {b:List Int} {bad:Bool} {y:Option (α×ref12_reader)} {o:Option (α×List Int)} {ok:α→Prop} {ok':β→Prop} (h:Uq b bad y o ok) {f:α×ref12_reader→Option (β×ref12_reader)} {g:α×List Int→Option (β×List Int)}
  (hf:∀x r,r.b <:+ b→ok x→Uq r.b r.bad (f (x,r)) (g (x,r.b)) ok'):Uq b bad (y.bind f) (o.bind g) ok':=by
 obtain ⟨x,r,h1,h2,h3,h4⟩:=h
 obtain ⟨x',r',k1,k2,k3,k4⟩:=hf x r h2 h3
 refine ⟨x',r',by rw [h1];exact k1,k2.trans h2,k3,?_⟩
 rcases h4 with ⟨e1,e2,e3⟩|⟨e1,e2⟩
 ·rcases k4 with ⟨d1,d2,d3⟩|⟨d1,d2⟩
  ·exact .inl ⟨e1,by rw [e2];exact d2,d3⟩
  ·refine .inr ⟨d1,.inr ?_⟩
   rcases d2 with d2|d2
   ·rw [e3] at d2;cases d2
   ·rw [e2];exact d2
 ·rcases k4 with ⟨d1,d2,d3⟩|⟨d1,d2⟩
  ·rw [e1] at d1;cases d1
  ·refine .inr ⟨d1,?_⟩
   rcases e2 with e2|e2
   ·exact .inl e2
   ·exact .inr (by rw [e2];rfl)
theorem Uq.okk {α:Type} {r:ref12_reader} {x:α} {ok:α→Prop} (h:ok x):Uq r.b r.bad (some (x,⟨r.b,r.bad⟩)) (some (x,r.b)) ok:=by
 refine ⟨x,⟨r.b,r.bad⟩,rfl,List.suffix_refl _,h,?_⟩
 cases hb:r.bad with
 | true=>exact .inr ⟨rfl,.inl rfl⟩
 | false=>exact .inl ⟨rfl,rfl,rfl⟩
theorem Uq.no {α:Type} {r:ref12_reader} {x:α} {ok:α→Prop} {l:List Int} (hl:l <:+ r.b) (h:ok x):Uq r.b r.bad (some (x,⟨l,true⟩)) none ok:=⟨x,⟨l,true⟩,rfl,hl,h,.inr ⟨rfl,.inr rfl⟩⟩
theorem A5i (p:List Int) (bad:Bool) (hp:By p):∀(m i k:Nat) (n:Int),i+k=8→k<m→0≤n→n≤127 ^ i →
  Cq ⟨p,bad⟩ m n (127 ^ i:Nat) i=some (match rD k (i==0) (p.drop i) with|some y=>(n+127 ^ i*y.1,⟨y.2,bad⟩)|none=>(0,⟨[],true⟩)):=by
 intro m
 induction m with
 | zero=>intro i k n _ h;omega
 | succ m ih =>
  intro i k n hik hk hn0 hn
  rw [Cq,Fs]
  have hpi:(127:Int) ^ i≤127 ^ 8:=by
   have:(127:Nat) ^ i≤127 ^ 8:=Nat.pow_le_pow_right (by decide) (by omega)
   exact_mod_cast this
  have e8:(127:Int) ^ 8=67675234241018881:=by decide
  have hp0:(0:Int)<127 ^ i:=Int.pow_pos (by decide)
  have ecast:((127 ^ i:Nat):Int)=127 ^ i:=by push_cast;rfl
  rw [ecast]
  simp only
  by_cases hb:i<p.length∧i<8
  ·obtain ⟨k,rfl⟩:∃k',k=k'+1:=⟨k-1,by omega⟩
   have hx:=hp p[i] (List.getElem_mem hb.1)
   rw [dT (show (i:Int)<((p.length:Nat):Int) by omega),dT (show (i:Int)<8 by omega),Ap (by rfl),Fk i p[i] rfl (List.getElem?_eq_getElem hb.1),ckb (by omega),List.drop_eq_getElem_cons hb.1,rD]
   have hp7:(127:Int) ^ i≤127 ^ 7:=by
    have:(127:Nat) ^ i≤127 ^ 7:=Nat.pow_le_pow_right (by decide) (by omega)
    exact_mod_cast this
   have e7:(127:Int) ^ 7=532875860165503:=by decide
   have hmul:p[i]*127 ^ i≤256*127 ^ i:=Int.mul_le_mul_of_nonneg_right (by omega) (by omega)
   have hmul0:0≤p[i]*127 ^ i:=Int.mul_nonneg (by omega) (by omega)
   by_cases hc:p[i]=0∨p[i]=255∨(p[i]=1∧(i==0)=false)
   ·rw [if_pos hc]
    rcases hc with h|h|⟨h1,h2⟩
    ·rw [h];rfl
    ·rw [h];rfl
    ·rw [h1]
     have:((i:Int)==0)=false:=by simp at h2;simp;omega
     rw [this];rfl
   ·rw [if_neg hc]
    have h1:¬p[i]=0:=fun e=>hc (.inl e)
    have h2:¬p[i]=255:=fun e=>hc (.inr (.inl e))
    have h3:p[i]=1→i=0:=fun e=>by
     rcases Nat.eq_zero_or_pos i with h|h
     ·exact h
     ·exact absurd (.inr (.inr ⟨e,by simp;omega⟩)) hc
    by_cases hs:p[i]<128
    ·have e1:(p[i]-1)*127 ^ i=p[i]*127 ^ i-127 ^ i:=by rw [Int.sub_mul,Int.one_mul]
     have hcond:(bif (bif (decide (p[i]≥1)) then (decide (p[i]≤127)) else false) then (bif ((i:Int)==0) then true else (decide (p[i]>1))) else false)=true:=by
      rw [dT (show p[i]≥1 by omega),dT (show p[i]≤127 by omega)]
      by_cases hi0:i=0
      ·subst hi0;rfl
      ·rw [dT (show p[i]>1 by have:=fun e=>hi0 (h3 e);omega)];cases ((i:Int)==0)<;>rfl
     rw [if_pos hs,Ap hcond,ckb (by omega),K4 (i+1) (by omega) rfl (by omega),ckb (by omega),ckb (by omega),ckb (by omega)]
     show some (n+(p[i]-1)*127 ^ i,ref12_reader.mk (p.drop (i+1)) bad)=some (n+127 ^ i*(p[i]-1),⟨p.drop (i+1),bad⟩)
     rw [Int.mul_comm (127 ^ i) (p[i]-1)]
    ·have e1:(p[i]-128)*127 ^ i=p[i]*127 ^ i-128*127 ^ i:=by rw [Int.sub_mul]
     have e2:(p[i]-128)*127 ^ i≤126*127 ^ i:=Int.mul_le_mul_of_nonneg_right (by omega) (by omega)
     have e3:0≤(p[i]-128)*127 ^ i:=Int.mul_nonneg (by omega) (by omega)
     have e4:(127:Int) ^ (i+1)=127 ^ i*127:=Int.pow_succ ..
     have hcond:(bif (bif (decide (p[i]≥1)) then (decide (p[i]≤127)) else false) then (bif ((i:Int)==0) then true else (decide (p[i]>1))) else false)=false:=by
      rw [dF (show ¬p[i]≤127 by omega)];cases decide (p[i]≥1)<;>rfl
     rw [if_neg hs,An hcond,dF hs,dF (show ¬p[i]>254 by omega),An (by rfl),ckb (by omega),ckb (by omega),ckb (by omega),ckb (by omega),ckb (by omega)]
     have:=ih (i+1) k (n+(p[i]-128)*127 ^ i) (by omega) (by omega) (by omega) (by rw [e4];omega)
     have ecast2:((127 ^ (i+1):Nat):Int)=127 ^ i*127:=by rw [←e4];push_cast;rfl
     rw [ecast2] at this
     rw [show ((i:Int)+1)=((i+1:Nat):Int) by omega,this]
     have ef:(i+1==0)=false:=rfl
     rw [ef]
     cases hr:rD k false (p.drop (i+1)) with
     | none=>rfl
     | some y =>
      show some (n+(p[i]-128)*127 ^ i+127 ^ (i+1)*y.1,ref12_reader.mk y.2 bad)=some (n+127 ^ i*(p[i]-128+127*y.1),ref12_reader.mk y.2 bad)
      rw [e4,Int.mul_add,Int.mul_comm (127 ^ i) (p[i]-128),←Int.add_assoc,←Int.mul_assoc]
  ·have hcond:(bif (decide ((i:Int)<((p.length:Nat):Int))) then (decide ((i:Int)<8)) else false)=false:=by
    by_cases h1:i<p.length
    ·rw [dF (show ¬(i:Int)<8 by omega)];cases decide ((i:Int)<((p.length:Nat):Int))<;>rfl
    ·rw [dF (show ¬(i:Int)<((p.length:Nat):Int) by omega)];rfl
   rw [An hcond,Eh]
   have:rD k (i==0) (p.drop i)=none:=by
    rcases Nat.eq_zero_or_pos k with h|h
    ·subst h;rfl
    ·rw [List.drop_of_length_le (by omega)]
     obtain ⟨k,rfl⟩:∃k',k=k'+1:=⟨k-1,by omega⟩
     rfl
   rw [this]
def okR (x:Int):Prop:=0≤x∧x<67675234241018881
theorem E4 {F:Nat} (hF:1000≤F) {r:ref12_reader} (hp:By r.b):Uq r.b r.bad (Aa F r) (rN r.b) okR:=by
 have:=A5i r.b r.bad hp F 0 8 0 (by omega) (by omega) (by omega) (by decide)
 have h:Aa F r=some (match rN r.b with|some y=>(y.1,⟨y.2,r.bad⟩)|none=>(0,⟨[],true⟩)):=by
  have e:Aa F r=Cq ⟨r.b,r.bad⟩ F 0 (127 ^ 0:Nat) (0:Nat):=rfl
  rw [e,this]
  show some (match rN r.b with|some y=>(0+127 ^ 0*y.1,ref12_reader.mk y.2 r.bad)|none=>(0,⟨[],true⟩))=_
  cases rN r.b with
  | none=>rfl
  | some y=>show some ((0:Int)+127 ^ 0*y.1,_)=_;rw [show (0:Int)+127 ^ 0*y.1=y.1 by simp]
 rw [h]
 cases hr:rN r.b with
 | none=>exact Uq.no (List.nil_suffix) ⟨by decide,by decide⟩
 | some y =>
  obtain ⟨a,b,c⟩:=Ge hp (show rN r.b=some (y.1,y.2) from hr)
  refine ⟨y.1,⟨y.2,r.bad⟩,rfl,c,⟨a,b⟩,?_⟩
  cases hb:r.bad with
  | true=>exact .inr ⟨rfl,.inl rfl⟩
  | false=>exact .inl ⟨rfl,rfl,rfl⟩
theorem Pu {F:Nat} (hF:1000≤F) {r:ref12_reader} (hp:By r.b):Uq r.b r.bad (B9 F r) (rI r.b) A1r:=by
 refine (E4 hF hp).bind fun x s hs hx=>?_
 obtain ⟨h0,h1⟩:=hx
 have hz:=A2c ⟨h0,h1⟩
 show Uq s.b s.bad ((Nw x 2).bind fun x11=>bif (x11==1) then (ck (x+1)).bind fun x12=>(Mr (IntKind.i64.wrap (0-x12)) 2).bind fun x13=>some (x13,ref12_reader.mk s.b s.bad) else (Mr x 2).bind fun x14=>some (x14,ref12_reader.mk s.b s.bad)) (some (unz x,s.b)) A1r
 unfold unz at hz ⊢
 have hrem:Nw x 2=some (x%2):=by
  unfold Nw
  rw [if_neg (by decide),Int.tmod_eq_emod_of_nonneg h0]
 rw [hrem,sb]
 by_cases h2:x%2=1
 ·rw [Ap (by simp [h2]),ckb (by omega),if_pos h2]
  have hw:IntKind.i64.wrap (0-(x+1))=-(x+1):=by
   simp only [IntKind.wrap,IntKind.signed,IntKind.bits]
   simp
   omega
  rw [hw]
  have hq:(Mr (-(x+1)) 2)=ck (-((x+1)/2)):=by
   unfold Mr
   rw [if_neg (by decide),Int.neg_tdiv,Int.tdiv_eq_ediv_of_nonneg (by omega)]
  rw [hq,ckb (by omega)]
  rw [if_pos h2] at hz
  exact Uq.okk hz
 ·rw [An (by simp [h2]),if_neg h2]
  have hq:(Mr x 2)=ck (x/2):=by
   unfold Mr
   rw [if_neg (by decide),Int.tdiv_eq_ediv_of_nonneg h0]
  rw [hq,ckb (by omega)]
  rw [if_neg h2] at hz
  exact Uq.okk hz
theorem A29 {F:Nat} (hF:1000≤F) {r:ref12_reader} (hp:By r.b):Uq r.b r.bad (Dl F r) (rT r.b) (fun s=>s.size≤r.b.length):=by
 refine (E4 hF hp).bind fun x s hs hx=>?_
 obtain ⟨h0,h1⟩:=hx
 have hl:=hs.length_le
 show Uq s.b s.bad (bif (decide (x>((s.b.length:Nat):Int))) then _ else _) (if x>(s.b.length:Int) then none else _) _
 by_cases h2:x>(s.b.length:Int)
 ·rw [Ap (dT h2),if_pos h2]
  exact Uq.no (List.suffix_refl _) (Nat.zero_le _)
 ·rw [An (dF h2),if_neg h2,Nb x.toNat rfl (by simp only;omega) (by simp only;omega),K4 x.toNat (by simp only;omega) rfl (by simp only;omega)]
  refine ⟨_,⟨s.b.drop x.toNat,s.bad⟩,rfl,List.drop_suffix _ _,?_,?_⟩
  ·show (bst (s.b.take x.toNat)).size≤_
   have:(bst (s.b.take x.toNat)).size=(s.b.take x.toNat).length:=by simp [bst,ByteArray.size]
   rw [this,List.length_take];omega
  ·cases hb:s.bad with
   | true=>exact .inr ⟨rfl,.inl rfl⟩
   | false=>exact .inl ⟨rfl,rfl,rfl⟩
theorem Ss {F:Nat} (hF:1000≤F) {r:ref12_reader} (hp:By r.b):Uq r.b r.bad (Ci F r) (rS r.b) okS':=by
 refine (Pu hF hp).bind fun x s hs hx=>?_
 refine (E4 hF (hp.suf hs)).bind fun y t ht hy=>?_
 obtain ⟨a,b⟩:=hx
 obtain ⟨c,d⟩:=hy
 show Uq t.b t.bad ((ck (x+y)).bind _) (some (⟨x,x+y⟩,t.b)) okS'
 rw [ckb (by omega)]
 exact Uq.okk ⟨a,by show x≤x+y;omega,by show x+y≤_;omega⟩
theorem A4b {F:Nat} (hF:1000≤F) {r:ref12_reader} (hp:By r.b) (p:Int) (h0:0≤p):Uq r.b r.bad (Er F r p) ((rN r.b).bind fun y=>if y.1>p then none else some y) (fun x=>0≤x∧x≤p):=by
 refine (E4 hF hp).bind fun x s hs hx=>?_
 show Uq s.b s.bad (bif (decide (x>p)) then _ else _) (if x>p then none else _) _
 by_cases h2:x>p
 ·rw [Ap (dT h2),if_pos h2]
  exact Uq.no (List.suffix_refl _) ⟨by decide,h0⟩
 ·rw [An (dF h2),if_neg h2]
  exact Uq.okk ⟨hx.1,by omega⟩
theorem A5g {F:Nat} (hF:1000≤F) {r:ref12_reader} (hp:By r.b):Uq r.b r.bad (J1 F r) (rE r.b) (fun _=>True):=by
 refine (E4 hF hp).bind fun k s hs hk=>?_
 have b1:=hp.suf hs
 show Uq s.b s.bad (bif (k==1) then _ else _) (if k=1 then _ else _) _
 by_cases h1:k=1
 ·rw [Ap (by simp [h1]),if_pos h1]
  exact (E4 hF b1).bind fun x t ht hx=>Uq.okk trivial
 ·rw [An (by simp [h1]),if_neg h1]
  refine (Ss hF b1).bind fun p s1 hs1 _=>?_
  refine (Ss hF (b1.suf hs1)).bind fun q s2 hs2 _=>?_
  refine (Ss hF ((b1.suf hs1).suf hs2)).bind fun m s3 hs3 _=>?_
  refine (E4 hF (((b1.suf hs1).suf hs2).suf hs3)).bind fun sp s4 hs4 _=>?_
  have b4:=(((b1.suf hs1).suf hs2).suf hs3).suf hs4
  show Uq s4.b s4.bad (bif (k==3) then _ else _) (if k=3 then _ else _) _
  by_cases h3:k=3
  ·rw [Ap (by simp [h3]),if_pos h3]
   refine (Ss hF b4).bind fun a s5 hs5 _=>?_
   refine (Ss hF (b4.suf hs5)).bind fun b s6 hs6 _=>?_
   exact (Ss hF ((b4.suf hs5).suf hs6)).bind fun t s7 hs7 _=>Uq.okk trivial
  ·rw [An (by simp [h3]),if_neg h3]
   exact Uq.okk trivial
end Go.Proofs.YtifbomimeodibaaGreat
namespace Go.Proofs.YtifbomimeodibaaGreat
open Go Go.RowKit Go.Eng
set_option maxRecDepth 10000
set_option linter.unusedVariables false
set_option linter.unusedSimpArgs false
theorem A0p (F:Nat) (N:Int) (b:api_Span) (k2:Int→Int→List Int→Bool→List api_Span→Option (List api_Span×ref12_reader)) (y:Int×ref12_reader) (hy:y.1≤1000000):∀(m i:Nat) (out:List api_Span),(i:Int)≤y.1→y.1-i<m→out.length+(y.1-i)≤2000000 →
  C7 F N b.Lo b.Hi k2 y m out i=Es F N b.Lo b.Hi k2 y (out++List.replicate (y.1-i).toNat b):=by
 intro m
 induction m with
 | zero=>intro i out h1 h2;omega
 | succ m ih =>
  intro i out h1 h2 h3
  rw [C7,G9]
  by_cases hb:(i:Int)<y.1
  ·rw [Ap (dT hb),Hl (by simp;omega) (by decide),ckb (by omega)]
   have:=ih (i+1) (out++[b]) (by omega) (by omega) (by simp;omega)
   show C7 F N b.Lo b.Hi k2 y m (out++[b]) ((i:Int)+1)=_
   rw [show ((i:Int)+1)=((i+1:Nat):Int) by omega,this,List.append_assoc]
   congr 2
   rw [show (y.1-(i:Int)).toNat=(y.1-((i+1:Nat):Int)).toNat+1 by omega,List.replicate_succ]
   rfl
  ·rw [An (dF hb),show (y.1-(i:Int)).toNat=0 by omega]
   simp
theorem A2g (F:Nat) (hF:200000≤F) (N:Nat) (hN:N≤100000):∀(m m':Nat) (b:api_Span) (r:ref12_reader) (out:List api_Span),By r.b→out.length≤N→N-out.length<m→N-out.length<m' →
  Uq r.b r.bad (Bj F N m b.Lo b.Hi r.b r.bad out) ((rL rS m' (N-out.length) b r.b).map fun u=>(out++u.1,u.2)) (fun _=>True):=by
 intro m
 induction m with
 | zero=>intro m' b r out _ _ h;omega
 | succ m ih =>
  intro m' b r out hb ho hm hm'
  obtain ⟨m',rfl⟩:∃k,m'=k+1:=⟨m'-1,by omega⟩
  rw [Bj,Dz,rL]
  by_cases h0:N-out.length=0
  ·rw [if_pos h0,An (dF (by omega)),Bv]
   have:=Uq.okk (r:=r) (x:=out) (ok:=fun _=>True) trivial
   simpa using this
  ·rw [if_neg h0,Ap (dT (by omega))]
   cases hbad:r.bad with
   | true =>
    rw [An (by rfl),Bv]
    exact ⟨out,⟨r.b,true⟩,rfl,List.suffix_refl _,trivial,.inr ⟨rfl,.inl rfl⟩⟩
   | false =>
    rw [Ap (by rfl),ckb (by omega)]
    have hrun:=A4b (F:=F) (by omega) (r:=⟨r.b,false⟩) hb ((N:Int)-(out.length:Nat)) (by omega)
    have ho:((rN r.b).bind fun y=>if y.1>((N-out.length:Nat):Int) then none else if N-out.length=y.1.toNat then some (List.replicate (N-out.length) b,y.2) else (rS y.2).bind fun z=>if z.1=b then none else (rL rS m' (N-out.length-y.1.toNat-1) z.1 z.2).map fun u=>(List.replicate y.1.toNat b++z.1::u.1,u.2)) =
      ((rN r.b).bind fun y=>if y.1>(N:Int)-(out.length:Nat) then none else some y).bind fun y=>if N-out.length=y.1.toNat then some (List.replicate (N-out.length) b,y.2) else (rS y.2).bind fun z=>if z.1=b then none else (rL rS m' (N-out.length-y.1.toNat-1) z.1 z.2).map fun u=>(List.replicate y.1.toNat b++z.1::u.1,u.2):=by
     rw [Option.bind_assoc]
     congr 1
     funext y
     rw [show ((N-out.length:Nat):Int)=(N:Int)-(out.length:Nat) by omega]
     by_cases h:y.1>(N:Int)-(out.length:Nat)
     ·rw [if_pos h,if_pos h];rfl
     ·rw [if_neg h,if_neg h];rfl
    rw [ho,Option.map_bind]
    refine hrun.bind fun k s hs hk=>?_
    have hbs:=hb.suf hs
    simp only [Function.comp]
    have hr:=A0p F N b (Bj F N m) (k,s) (by simp only;omega) F 0 out (by simp only;omega) (by simp only;omega) (by simp only;omega)
    rw [show (0:Int)=((0:Nat):Int) from rfl,hr,Es,show (k-((0:Nat):Int)).toNat=k.toNat by omega]
    by_cases hk2:N-out.length=k.toNat
    ·rw [if_pos hk2,An (dF (by simp;omega))]
     cases m with
     | zero=>omega
     | succ m =>
      rw [Bj,Dz,An (dF (by simp;omega)),Bv,hk2]
      exact Uq.okk (r:=s) (x:=out++List.replicate k.toNat b) trivial
    ·rw [if_neg hk2,Ap (dT (by simp;omega)),Option.map_bind]
     refine (Ss (F:=F) (by omega) hbs).bind fun x t ht _=>?_
     have hbt:=hbs.suf ht
     simp only [Function.comp]
     rw [Rw x b,Hl (by simp;omega) (by decide)]
     by_cases hx:x=b
     ·rw [if_pos hx,dT hx,show (bif t.bad then true else true)=true by cases t.bad<;>rfl]
      cases m with
      | zero=>omega
      | succ m =>
       rw [Bj,Dz]
       have hz:∀c:Bool,(bif c then (bif (!true) then ((ck ((N:Int)-(((out++List.replicate k.toNat b++[x]).length:Nat):Int))).bind fun x438 =>
         (Er F (ref12_reader.mk t.b true) x438).bind fun y439=>C7 F N x.Lo x.Hi (Bj F N m) y439 F (out++List.replicate k.toNat b++[x]) 0) else (Bv x.Lo x.Hi t.b true (out++List.replicate k.toNat b++[x]))) else (Bv x.Lo x.Hi t.b true (out++List.replicate k.toNat b++[x])))=some (out++List.replicate k.toNat b++[x],ref12_reader.mk t.b true):=by
        intro c;cases c<;>rfl
       show Uq t.b t.bad (bif _ then _ else _) _ _
       rw [show (out++List.replicate k.toNat b++[x]:List api_Span)=out++List.replicate k.toNat b++[x] from rfl]
       exact (hz (decide ((((out++List.replicate k.toNat b++[x]).length:Nat):Int)<N)))▸Uq.no (List.suffix_refl _) trivial
     ·rw [if_neg hx,dF hx,show (bif t.bad then true else false)=t.bad by cases t.bad<;>rfl]
      have:=ih m' x t (out++List.replicate k.toNat b++[x]) hbt (by simp;omega) (by simp;omega) (by simp;omega)
      rw [show N-(out++List.replicate k.toNat b++[x]).length=N-out.length-k.toNat-1 by simp;omega] at this
      rw [Option.map_map]
      simp only [Function.comp_def]
      simpa only [List.append_assoc,List.cons_append,List.nil_append] using this
theorem A3q {F:Nat} (hF:200000≤F) {N:Nat} (hN:N≤100000) {r:ref12_reader} (hl:By r.b):Uq r.b r.bad (Ev F r N) (rL rS (N+1) N ⟨0,0⟩ r.b) (fun _=>True):=by
 have:Uq r.b r.bad (Ev F r N) ((rL rS (N+1) (N-([]:List api_Span).length) ⟨0,0⟩ r.b).map fun u=>([]++u.1,u.2)) (fun _=>True):=A2g F hF N hN F (N+1) ⟨0,0⟩ r [] hl (by simp) (by simp;omega) (by simp)
 simpa using this
theorem Yz (F:Nat) (N:Int) (b:api_Echo) (k2:Int→Int→Int→Int→Int→Int→Int→Int→Int→Int→Int→Int→Int→Int→List Int→Bool→List api_Echo→Option (List api_Echo×ref12_reader)) (y:Int×ref12_reader) (hy:y.1≤1000000):∀(m i:Nat) (out:List api_Echo),(i:Int)≤y.1→y.1-i<m→out.length+(y.1-i)≤2000000 →
  C4 F N b.Kind b.Power.Lo b.Match.Lo b.Match.Hi b.Turn.Lo b.Turn.Hi b.Power.Hi b.Steps.1.Lo b.Steps.1.Hi b.Steps.2.Lo b.Steps.2.Hi b.Spread b.Ratio.Lo b.Ratio.Hi k2 y m out i=Eg F N b.Kind b.Power.Lo b.Match.Lo b.Match.Hi b.Turn.Lo b.Turn.Hi b.Power.Hi b.Steps.1.Lo b.Steps.1.Hi b.Steps.2.Lo b.Steps.2.Hi b.Spread b.Ratio.Lo b.Ratio.Hi k2 y (out++List.replicate (y.1-i).toNat b):=by
 intro m
 induction m with
 | zero=>intro i out h1 h2;omega
 | succ m ih =>
  intro i out h1 h2 h3
  rw [C4,Fq]
  by_cases hb:(i:Int)<y.1
  ·rw [Ap (dT hb),Hl (by simp;omega) (by decide),ckb (by omega)]
   have:=ih (i+1) (out++[b]) (by omega) (by omega) (by simp;omega)
   show C4 F N b.Kind b.Power.Lo b.Match.Lo b.Match.Hi b.Turn.Lo b.Turn.Hi b.Power.Hi b.Steps.1.Lo b.Steps.1.Hi b.Steps.2.Lo b.Steps.2.Hi b.Spread b.Ratio.Lo b.Ratio.Hi k2 y m (out++[b]) ((i:Int)+1)=_
   rw [show ((i:Int)+1)=((i+1:Nat):Int) by omega,this,List.append_assoc]
   congr 2
   rw [show (y.1-(i:Int)).toNat=(y.1-((i+1:Nat):Int)).toNat+1 by omega,List.replicate_succ]
   rfl
  ·rw [An (dF hb),show (y.1-(i:Int)).toNat=0 by omega]
   simp
theorem A0m (F:Nat) (hF:200000≤F) (N:Nat) (hN:N≤100000):∀(m m':Nat) (b:api_Echo) (r:ref12_reader) (out:List api_Echo),By r.b→out.length≤N→N-out.length<m→N-out.length<m' →
  Uq r.b r.bad (Be F N m b.Kind b.Power.Lo b.Match.Lo b.Match.Hi b.Turn.Lo b.Turn.Hi b.Power.Hi b.Steps.1.Lo b.Steps.1.Hi b.Steps.2.Lo b.Steps.2.Hi b.Spread b.Ratio.Lo b.Ratio.Hi r.b r.bad out) ((rL rE m' (N-out.length) b r.b).map fun u=>(out++u.1,u.2)) (fun _=>True):=by
 intro m
 induction m with
 | zero=>intro m' b r out _ _ h;omega
 | succ m ih =>
  intro m' b r out hb ho hm hm'
  obtain ⟨m',rfl⟩:∃k,m'=k+1:=⟨m'-1,by omega⟩
  rw [Be,Dt,rL]
  by_cases h0:N-out.length=0
  ·rw [if_pos h0,An (dF (by omega)),Bp]
   have:=Uq.okk (r:=r) (x:=out) (ok:=fun _=>True) trivial
   simpa using this
  ·rw [if_neg h0,Ap (dT (by omega))]
   cases hbad:r.bad with
   | true =>
    rw [An (by rfl),Bp]
    exact ⟨out,⟨r.b,true⟩,rfl,List.suffix_refl _,trivial,.inr ⟨rfl,.inl rfl⟩⟩
   | false =>
    rw [Ap (by rfl),ckb (by omega)]
    have hrun:=A4b (F:=F) (by omega) (r:=⟨r.b,false⟩) hb ((N:Int)-(out.length:Nat)) (by omega)
    have ho:((rN r.b).bind fun y=>if y.1>((N-out.length:Nat):Int) then none else if N-out.length=y.1.toNat then some (List.replicate (N-out.length) b,y.2) else (rE y.2).bind fun z=>if z.1=b then none else (rL rE m' (N-out.length-y.1.toNat-1) z.1 z.2).map fun u=>(List.replicate y.1.toNat b++z.1::u.1,u.2)) =
      ((rN r.b).bind fun y=>if y.1>(N:Int)-(out.length:Nat) then none else some y).bind fun y=>if N-out.length=y.1.toNat then some (List.replicate (N-out.length) b,y.2) else (rE y.2).bind fun z=>if z.1=b then none else (rL rE m' (N-out.length-y.1.toNat-1) z.1 z.2).map fun u=>(List.replicate y.1.toNat b++z.1::u.1,u.2):=by
     rw [Option.bind_assoc]
     congr 1
     funext y
     rw [show ((N-out.length:Nat):Int)=(N:Int)-(out.length:Nat) by omega]
     by_cases h:y.1>(N:Int)-(out.length:Nat)
     ·rw [if_pos h,if_pos h];rfl
     ·rw [if_neg h,if_neg h];rfl
    rw [ho,Option.map_bind]
    refine hrun.bind fun k s hs hk=>?_
    have hbs:=hb.suf hs
    simp only [Function.comp]
    have hr:=Yz F N b (Be F N m) (k,s) (by simp only;omega) F 0 out (by simp only;omega) (by simp only;omega) (by simp only;omega)
    rw [show (0:Int)=((0:Nat):Int) from rfl,hr,Eg,show (k-((0:Nat):Int)).toNat=k.toNat by omega]
    by_cases hk2:N-out.length=k.toNat
    ·rw [if_pos hk2,An (dF (by simp;omega))]
     cases m with
     | zero=>omega
     | succ m =>
      rw [Be,Dt,An (dF (by simp;omega)),Bp,hk2]
      exact Uq.okk (r:=s) (x:=out++List.replicate k.toNat b) trivial
    ·rw [if_neg hk2,Ap (dT (by simp;omega)),Option.map_bind]
     refine (A5g (F:=F) (by omega) hbs).bind fun x t ht _=>?_
     have hbt:=hbs.suf ht
     simp only [Function.comp]
     rw [Rl x b,Hl (by simp;omega) (by decide)]
     by_cases hx:x=b
     ·rw [if_pos hx,dT hx,show (bif t.bad then true else true)=true by cases t.bad<;>rfl]
      cases m with
      | zero=>omega
      | succ m =>
       rw [Be,Dt]
       have hz:∀c:Bool,(bif c then (bif (!true) then ((ck ((N:Int)-(((out++List.replicate k.toNat b++[x]).length:Nat):Int))).bind fun x438 =>
         (Er F (ref12_reader.mk t.b true) x438).bind fun y439=>C4 F N x.Kind x.Power.Lo x.Match.Lo x.Match.Hi x.Turn.Lo x.Turn.Hi x.Power.Hi x.Steps.1.Lo x.Steps.1.Hi x.Steps.2.Lo x.Steps.2.Hi x.Spread x.Ratio.Lo x.Ratio.Hi (Be F N m) y439 F (out++List.replicate k.toNat b++[x]) 0) else (Bp x.Kind x.Power.Lo x.Match.Lo x.Match.Hi x.Turn.Lo x.Turn.Hi x.Power.Hi x.Steps.1.Lo x.Steps.1.Hi x.Steps.2.Lo x.Steps.2.Hi x.Spread x.Ratio.Lo x.Ratio.Hi t.b true (out++List.replicate k.toNat b++[x]))) else (Bp x.Kind x.Power.Lo x.Match.Lo x.Match.Hi x.Turn.Lo x.Turn.Hi x.Power.Hi x.Steps.1.Lo x.Steps.1.Hi x.Steps.2.Lo x.Steps.2.Hi x.Spread x.Ratio.Lo x.Ratio.Hi t.b true (out++List.replicate k.toNat b++[x])))=some (out++List.replicate k.toNat b++[x],ref12_reader.mk t.b true):=by
        intro c;cases c<;>rfl
       show Uq t.b t.bad (bif _ then _ else _) _ _
       rw [show (out++List.replicate k.toNat b++[x]:List api_Echo)=out++List.replicate k.toNat b++[x] from rfl]
       exact (hz (decide ((((out++List.replicate k.toNat b++[x]).length:Nat):Int)<N)))▸Uq.no (List.suffix_refl _) trivial
     ·rw [if_neg hx,dF hx,show (bif t.bad then true else false)=t.bad by cases t.bad<;>rfl]
      have:=ih m' x t (out++List.replicate k.toNat b++[x]) hbt (by simp;omega) (by simp;omega) (by simp;omega)
      rw [show N-(out++List.replicate k.toNat b++[x]).length=N-out.length-k.toNat-1 by simp;omega] at this
      rw [Option.map_map]
      simp only [Function.comp_def]
      simpa only [List.append_assoc,List.cons_append,List.nil_append] using this
theorem A28 {F:Nat} (hF:200000≤F) {N:Nat} (hN:N≤100000) {r:ref12_reader} (hl:By r.b):Uq r.b r.bad (Ef F r N) (rL rE (N+1) N e0 r.b) (fun _=>True):=by
 have:Uq r.b r.bad (Ef F r N) ((rL rE (N+1) (N-([]:List api_Echo).length) e0 r.b).map fun u=>([]++u.1,u.2)) (fun _=>True):=A0m F hF N hN F (N+1) e0 r [] hl (by simp) (by simp;omega) (by simp)
 simpa using this
end Go.Proofs.YtifbomimeodibaaGreat
namespace Go.Proofs.YtifbomimeodibaaGreat
open Go Go.RowKit Go.Eng
set_option maxRecDepth 10000
set_option linter.unusedVariables false
set_option linter.unusedSimpArgs false
theorem A2t (n b0 b1 b2 b3:Nat) (h:128≤b0):128≤(Lib.decodeN n b0 b1 b2 b3).1:=by
 unfold Lib.decodeN
 repeat' split
 all_goals first|(simp only;omega)|omega
theorem A4k {s:ByteArray} {i:Nat} (h:(s.get! i).toNat<128):Utf8.decode s i=((s.get! i).toNat,1):=by
 rw [Lib.decode_at];unfold Lib.decodeN;rw [if_pos h]
theorem A4j {s:ByteArray} {i:Nat} (h:128≤(s.get! i).toNat):128≤(Utf8.decode s i).1:=by
 rw [Lib.decode_at];exact A2t _ _ _ _ _ h
theorem A1l {x:Nat} (h:128≤x):nmC x=true:=by
 unfold nmC
 have h1:decide (x≤122)=false:=by simp;omega
 have h2:decide (x≤57)=false:=by simp;omega
 have h3:(x==95)=false:=by simp;omega
 rw [h1,h2,h3];simp
theorem Up (s:ByteArray):∀(f pos:Nat),s.size≤pos+f→(0≤Lib.idxFuncFrom nmC true s f pos↔∃j,pos≤j∧j<s.size∧nmC (s.get! j).toNat=true):=by
 intro f
 induction f with
 | zero =>
  intro pos h
  rw [Lib.idxFuncFrom_end nmC true s 0 pos (by omega)]
  constructor
  ·intro h;omega
  ·rintro ⟨j,h1,h2,_⟩;omega
 | succ f ih =>
  intro pos h
  rw [Lib.idxFuncFrom]
  by_cases hp:pos<s.size
  ·rw [if_pos hp]
   by_cases hb:(s.get! pos).toNat<128
   ·rw [A4k hb]
    simp only
    by_cases hn:nmC (s.get! pos).toNat=true
    ·rw [if_pos hn]
     exact ⟨fun _=>⟨pos,Nat.le_refl _,hp,hn⟩,fun _=>by omega⟩
    ·rw [if_neg hn,ih (pos+1) (by omega)]
     constructor
     ·rintro ⟨j,h1,h2,h3⟩;exact ⟨j,by omega,h2,h3⟩
     ·rintro ⟨j,h1,h2,h3⟩
      refine ⟨j,?_,h2,h3⟩
      rcases Nat.lt_or_ge pos j with h4|h4
      ·omega
      ·obtain rfl:j=pos:=by omega
       exact absurd h3 hn
   ·rw [if_pos (A1l (A4j (by omega)))]
    exact ⟨fun _=>⟨pos,Nat.le_refl _,hp,A1l (by omega)⟩,fun _=>by omega⟩
  ·rw [if_neg hp]
   constructor
   ·intro h;omega
   ·rintro ⟨j,h1,h2,_⟩;omega
theorem Ze {s:ByteArray} {i:Nat} (h:i<s.size):s[i]=s.get! i:=by
 cases s with
 | mk d =>
  show d[i]=d[i]!
  rw [getElem!_pos d i h]
theorem Wu {s:ByteArray} {i:Nat} (h:i<s.size):Qt s i=some (((s.get! i).toNat:Nat):Int):=by
 unfold Qt
 rw [if_pos (by omega),Int.toNat_natCast,getElem!_pos s i h,Ze h]
theorem A09 (s:ByteArray):∀(m i f:Nat),s.size-i<m→i≤s.size→s.size≤1000000→s.size≤i+f→Jf s m i=some (!decide (0≤Lib.idxFuncFrom nmC true s f i)):=by
 intro m
 induction m with
 | zero=>intro i f h;omega
 | succ m ih =>
  intro i f h hi h9 hf
  rw [Jf,M8]
  by_cases hb:i<s.size
  ·rw [Ap (dT (by omega)),Wu hb,sb]
   have hx:=UInt8.toNat_lt (s.get! i)
   generalize hu:(s.get! i).toNat=u at *
   have e:(bif (bif (bif (decide (((u:Nat):Int)<97)) then true else (decide (((u:Nat):Int)>122))) then (bif (decide (((u:Nat):Int)<48)) then true else (decide (((u:Nat):Int)>57))) else false) then (((u:Nat):Int) != 95) else false)=nmC u:=by
    unfold nmC
    rw [Bool.eq_iff_iff]
    simp only [cond_eq_ite,Bool.if_true_left,Bool.and_eq_true,Bool.or_eq_true,decide_eq_true_eq,bne_iff_ne,ne_eq,Bool.not_eq_true',Bool.or_eq_false_iff,Bool.and_eq_false_iff,decide_eq_false_iff_not,beq_eq_false_iff_ne,Bool.if_false_right]
    omega
   rw [e]
   by_cases hn:nmC u=true
   ·rw [Ap hn,dT ((Up s f i hf).2 ⟨i,Nat.le_refl _,hb,by rw [hu];exact hn⟩)];rfl
   ·rw [An (by simpa using hn),ckb (by omega),show ((i:Int)+1)=((i+1:Nat):Int) by omega,ih (i+1) f (by omega) (by omega) h9 (by omega)]
    rw [decide_eq_decide.2]
    rw [Up s f (i+1) (by omega),Up s f i hf]
    constructor
    ·rintro ⟨j,h1,h2,h3⟩;exact ⟨j,by omega,h2,h3⟩
    ·rintro ⟨j,h1,h2,h3⟩
     refine ⟨j,?_,h2,h3⟩
     rcases Nat.lt_or_ge i j with h4|h4
     ·omega
     ·obtain rfl:j=i:=by omega
      rw [hu] at h3
      exact absurd h3 hn
  ·rw [An (dF (by omega)),M9,dF]
   ·rfl
   ·rw [Up s f i hf]
    rintro ⟨j,h1,h2,_⟩;omega
theorem A3h (s:ByteArray):sEq s ⟨#[]⟩=decide (s.size=0):=by
 unfold sEq
 cases s with
 | mk d =>
  show decide (d.toList=[])=decide (d.size=0)
  rw [decide_eq_decide]
  constructor
  ·intro h;have:=congrArg List.length h;simpa using this
  ·intro h;rw [Array.eq_empty_of_size_eq_zero h]
theorem Xo {F:Nat} (hF:100≤F) (s:ByteArray):Ju F s=some (Qp s):=by
 rw [Ju]
 unfold Qp A1m
 rw [A3h]
 by_cases h1:s.size=0∨s.size>12
 ·have hc:(bif (decide (((s.size:Nat):Int)<1)) then true else (decide (((s.size:Nat):Int)>12)))=true:=by
   rcases h1 with h|h
   ·rw [dT (by omega)];rfl
   ·rw [dT (show ((s.size:Nat):Int)>12 by omega)];cases decide (((s.size:Nat):Int)<1)<;>rfl
  rw [hc,gdF (by rfl),sb,Ap (c:=true) rfl,gdF (by rfl),sb]
  simp only [cond_true]
  rcases h1 with h|h
  ·rw [dT h];rfl
  ·rw [dF (show ¬((s.size:Nat):Int)≤12 by omega)];cases decide (s.size=0)<;>rfl
 ·have hc:(bif (decide (((s.size:Nat):Int)<1)) then true else (decide (((s.size:Nat):Int)>12)))=false:=by
   rw [dF (by omega),dF (by omega)];rfl
  have hg:Qt s 0=some (((s.get! 0).toNat:Nat):Int):=Wu (i:=0) (by omega)
  rw [hc,gdT (by rfl),hg,sb,An (c:=false) rfl,dF (show ¬s.size=0 by omega),dT (show ((s.size:Nat):Int)≤12 by omega)]
  rw [Option.getD_some]
  generalize hu:(((s.get! 0).toNat:Nat):Int)=u
  by_cases h2:u<97
  ·rw [dT h2,gdF (by rfl),sb,Ap (c:=true) rfl,Ap (c:=true) rfl,dF (show ¬u≥97 by omega)];rfl
  ·rw [dF h2,gdT (by rfl),sb,An (c:=false) rfl,dT (show u≥97 by omega)]
   by_cases h3:u>122
   ·rw [dT h3,Ap (c:=true) rfl,dF (show ¬u≤122 by omega)];rfl
   ·rw [dF h3,An (c:=false) rfl,dT (show u≤122 by omega),show (0:Int)=((0:Nat):Int) from rfl,A09 s F 0 s.size (by omega) (by omega) (by omega) (by omega)]
    rfl
theorem A40 (x lo hi:Int):Ag x lo hi=Ac x lo hi:=rfl
theorem A4d (x lo hi:Int):Ag x lo hi=Aw x lo hi:=rfl
theorem Y8 {F:Nat} (hF:100≤F) (s:api_Site):F1 F s=Fj F s:=by
 rw [F1,Fj,Xo hF,Uu,sb,sb]
 simp only [A40,Ep,E8]
 cases Qp s.Name<;>cases Ac s.X (-1048576) 1048576<;>cases Ac s.Y (-1048576) 1048576<;>cases Ac s.Z 0 20000<;>cases Ac s.Rose 1 90<;>cases Ac s.Gates 1 200<;>cases Ac s.Step 50 2000<;>cases Ac s.Width 0 8<;>rfl
theorem Xk (g:api_Grid):C6 g=Bn g:=by
 rw [C6,Bn]
 simp only [A40,Dk]
 cases Ac g.X (-1048576) 1048576<;>cases Ac g.Y (-1048576) 1048576<;>cases Ac g.Size 1 10000<;>cases Ac g.Wide 1 64<;>cases Ac g.High 1 64<;>rfl
theorem A2i (s:api_Span) (lo hi:Int):Ct s lo hi=Ad s lo hi:=by
 unfold Ct Ad
 have e:decide (s.Lo≥lo)=decide (lo≤s.Lo):=rfl
 rw [e]
 cases decide (s.Lo≤s.Hi)<;>cases decide (lo≤s.Lo)<;>rfl
theorem A27 (F:Nat) (s:api_Span):Jv F s=some (decide (Hd s)):=by
 unfold Jv
 have hw:Ag s.Lo (-32768) 32767=decide (inB s.Lo (-32768) 32767):=Mj
 rw [hw]
 by_cases h:inB s.Lo (-32768) 32767
 ·have h1:=h.1;have h2:=h.2
  rw [dT h,gdT (by rfl),ckb (by omega),gdT (by rfl),ckb (by omega),Ap (c:=true) rfl]
  have:Ag s.Hi s.Lo (s.Lo+65536-1)=decide (inB s.Hi s.Lo (s.Lo+65536-1)):=Mj
  rw [this]
  congr 1
  rw [decide_eq_decide]
  unfold inB Hd at *
  omega
 ·rw [dF h,gdF (by rfl),sb,gdF (by rfl),sb,An (c:=false) rfl,dF]
  unfold inB Hd at *
  omega
theorem A15 {F:Nat} (hF:10≤F) (x:api_Echo):J9 F x=Fx F x:=by
 have ht:=Vr hF (api_Span.mk x.Steps.1.Lo x.Steps.1.Hi) (api_Span.mk x.Steps.2.Lo x.Steps.2.Hi) x.Turn
 rw [J9,Fx]
 simp only [A27,A2i,A4d,Cy,Dv,ht]
 have e1:decide (x.Power.Lo<1)=!decide (x.Power.Lo>0):=by
  by_cases h:x.Power.Lo<1
  ·rw [dT h,dF (by omega)];rfl
  ·rw [dF h,dT (by omega)];rfl
 have e2:(x.Power.Lo != 0)=!((0:Int)==0&&x.Power.Lo==0):=by simp [bne]
 rw [e1]
 generalize hA:decide (Hd (api_Span.mk x.Steps.1.Lo x.Steps.1.Hi))=A
 generalize hB:decide (Hd (api_Span.mk x.Steps.2.Lo x.Steps.2.Hi))=B
 generalize hC:decide (Hd x.Turn)=C
 have hABC:decide (Hd (api_Span.mk x.Steps.1.Lo x.Steps.1.Hi)∧Hd (api_Span.mk x.Steps.2.Lo x.Steps.2.Hi)∧Hd x.Turn)=(A&&(B&&C)):=by
  rw [←hA,←hB,←hC,Bool.decide_and,Bool.decide_and]
 rw [hABC]
 by_cases h1:x.Kind=1
 ·have k1:(x.Kind==1)=true:=by simp [h1]
  have k1':(x.Kind != 1)=false:=by simp [h1]
  simp only [k1,k1',cond_true,cond_false,Bool.true_and]
  have e5:((x.Power.Hi:Int)==x.Power.Hi)=true:=by simp
  rw [e5]
  have e4:(x.Power.Lo != 0)=!(x.Power.Lo==0):=rfl
  have e6:(x.Spread != 0)=!(x.Spread==0):=rfl
  rw [e4,e6]
  generalize Ad x.Power 0 1073741824=b0
  generalize (x.Power.Lo==0)=b1
  generalize (x.Steps.1.Lo==0)=b2
  generalize (x.Steps.1.Hi==0)=b3
  generalize (x.Steps.2.Lo==0)=b4
  generalize (x.Steps.2.Hi==0)=b5
  generalize (x.Spread==0)=b6
  generalize (x.Ratio.Lo==0)=b7
  generalize (x.Ratio.Hi==0)=b8
  generalize (x.Match.Lo==0)=b9
  generalize (x.Match.Hi==0)=b10
  generalize (x.Turn.Lo==0)=b11
  generalize (x.Turn.Hi==0)=b12
  cases b0
  ·rfl
  cases b1
  ·rfl
  cases b2
  ·rfl
  cases b3
  ·rfl
  cases b4
  ·rfl
  cases b5
  ·rfl
  cases b6
  ·rfl
  cases b7
  ·rfl
  cases b8
  ·rfl
  cases b9
  ·rfl
  cases b10
  ·rfl
  cases b11
  ·rfl
  cases b12<;>rfl
 ·have k1:(x.Kind==1)=false:=by simp [h1]
  have k1':(x.Kind != 1)=true:=by simp [h1]
  simp only [k1,k1',cond_true,cond_false]
  by_cases h2:x.Kind=2
  ·have k2:(x.Kind==2)=true:=by simp [h2]
   have k2':(x.Kind != 2)=false:=by simp [h2]
   simp only [k2,k2',cond_true,cond_false]
   generalize Ad x.Power 0 1073741824=b0
   generalize decide (x.Power.Lo>0)=b1
   generalize Ad x.Ratio 0 1000000=b2
   generalize Ad x.Match 0 1000=b3
   generalize Aw x.Spread 0 65535=b4
   generalize (x.Steps.1.Lo==0)=b5
   generalize (x.Steps.1.Hi==0)=b6
   generalize (x.Steps.2.Lo==0)=b7
   generalize (x.Steps.2.Hi==0)=b8
   generalize (x.Turn.Lo==0)=b9
   generalize (x.Turn.Hi==0)=b10
   cases b0
   ·rfl
   cases b1
   ·rfl
   cases b2
   ·rfl
   cases b3
   ·rfl
   cases b4
   ·rfl
   cases b5
   ·rfl
   cases b6
   ·rfl
   cases b7
   ·rfl
   cases b8
   ·rfl
   cases b9
   ·rfl
   cases b10<;>rfl
  ·have k2:(x.Kind==2)=false:=by simp [h2]
   have k2':(x.Kind != 2)=true:=by simp [h2]
   simp only [k2,k2',cond_true,cond_false]
   by_cases h3:x.Kind=3
   ·have k3:(x.Kind==3)=true:=by simp [h3]
    have k3':(x.Kind != 3)=false:=by simp [h3]
    simp only [k3,k3',cond_true,cond_false]
    generalize Ad x.Power 0 1073741824=b0
    generalize decide (x.Power.Lo>0)=b1
    generalize Ad x.Ratio 0 1000000=b2
    generalize Ad x.Match 0 1000=b3
    generalize Aw x.Spread 0 65535=b4
    cases b0
    ·rfl
    cases b1
    ·rfl
    cases b2
    ·rfl
    cases b3
    ·rfl
    cases b4
    ·rfl
    cases A<;>cases B<;>cases C<;>rfl
   ·have k3:(x.Kind==3)=false:=by simp [h3]
    have k3':(x.Kind != 3)=true:=by simp [h3]
    simp only [k3,k3',cond_true,cond_false]
end Go.Proofs.YtifbomimeodibaaGreat
namespace Go.Proofs.YtifbomimeodibaaGreat
open Go Go.RowKit Go.Eng
set_option maxRecDepth 10000
set_option linter.unusedVariables false
set_option linter.unusedSimpArgs false
theorem Um {β:Type} {x:Int} {f g:Int→Option β} (h:f x=g x):(ck x).bind f=(ck x).bind g:=by
 unfold ck
 split
 ·exact h
 ·rfl
theorem A3e {F:Nat} (hF:10≤F) (p:api_Sweep) (i:Int) (u:List api_Echo) (hu:C5 p.Rays i=some u) (k k':Int→Option Int) (hk:k (i+1)=k' (i+1)):∀(m:Nat) (j:Int),Ey F p i k m j=Cp F i k' u m j:=by
 intro m
 induction m with
 | zero=>intro j;rfl
 | succ m ih =>
  intro j
  rw [Ey,Hg,Cp,G4,hu,sb,sb]
  cases decide (j<((u.length:Nat):Int)) with
  | true =>
   simp only [cond_true]
   congr 1;funext x
   rw [A15 hF]
   congr 1;funext y
   cases (y != 0) with
   | true=>rfl
   | false=>simp only [cond_false];congr 1;funext z;exact ih z
  | false =>
   simp only [cond_false,Hk,Ew]
   exact Um hk
theorem A21 {F:Nat} (hF:10≤F) (p:api_Sweep):∀(m:Nat) (i:Int),0≤i→Ex F p m i=Co F p m i:=by
 intro m
 induction m with
 | zero=>intro i _;rfl
 | succ m ih =>
  intro i h0
  rw [Ex,Hf,Co,G3]
  by_cases hb:i<((p.Rays.length:Nat):Int)
  ·have hu:C5 p.Rays i=some (p.Rays[i.toNat]'(by omega)):=by
    unfold C5
    rw [if_pos h0,List.getElem?_eq_getElem (by omega)]
   rw [Ap (dT hb),Ap (dT hb),hu,sb]
   exact A3e hF p i _ hu _ _ (ih (i+1) (by omega)) F 0
  ·rw [An (dF hb),An (dF hb)];rfl
theorem A01 {F:Nat} (hF:10≤F) (p:api_Sweep):∀(m:Nat) (i:Int),Ez F p m i=De F p m i:=by
 intro m
 induction m with
 | zero=>intro i;rfl
 | succ m ih =>
  intro i
  rw [Ez,Hh,De,G5]
  cases decide (i<((p.Rays.length:Nat):Int)) with
  | true =>
   simp only [cond_true]
   congr 1;funext u
   cases (((u.length:Nat):Int) != p.Site.Gates) with
   | true=>rfl
   | false=>simp only [cond_false];exact Um (ih (i+1))
  | false =>
   simp only [cond_false,Hj,G6]
   exact A21 hF p F 0 (by decide)
theorem A0k {F:Nat} (hF:100≤F) (p:api_Sweep):El F p=Bx F p:=by
 rw [El,Bx,Y8 hF]
 congr 1;funext y
 rw [A01 (by omega)]
 rfl
theorem A2k (p:api_Field) (hi:Int):∀(m:Nat) (i:Int),Jg p hi m i=Gd p hi m i:=by
 intro m
 induction m with
 | zero=>intro i;rfl
 | succ m ih =>
  intro i
  rw [Jg,Ma,Gd,Kf]
  cases decide (i<((p.Vals.length:Nat):Int)) with
  | true =>
   simp only [cond_true]
   congr 1;funext u
   have e:(!(Ct u 0 hi))=(bif (bif (decide (u.Lo<0)) then true else (decide (u.Hi<u.Lo))) then true else (decide (u.Hi>hi))):=by
    unfold Ct
    rw [Bool.eq_iff_iff]
    simp only [cond_eq_ite,Bool.if_true_left,Bool.and_eq_true,Bool.or_eq_true,decide_eq_true_eq,Bool.not_eq_true',Bool.if_false_right,Bool.and_eq_false_iff,decide_eq_false_iff_not]
    omega
   rw [e]
   cases (bif (bif (decide (u.Lo<0)) then true else (decide (u.Hi<u.Lo))) then true else (decide (u.Hi>hi))) with
   | true=>rfl
   | false=>simp only [cond_false];exact Um (ih (i+1))
  | false=>rfl
theorem Zy (F:Nat) (p:api_Field):F7 F p=Fv F p:=by
 rw [F7,Fv,Qf,N8,Xk,A2k]
def toR (x:volume_Item):ref12_Item:=⟨x.Kind,x.Name,x.Time,x.Sweep,x.Field,x.Text⟩
theorem A4i {s:ByteArray} {i:Nat} (h:i<s.size):s.data.toList[i]? = some (s[i]):=by
 cases s with
 | mk d =>
  show d.toList[i]? = some d[i]
  rw [Array.getElem?_toList,Array.getElem?_eq_getElem h]
theorem A10 (x:ref12_Item):∀(m i:Nat),Fm x m i=Ca (sby x.Text) m i:=by
 intro m
 induction m with
 | zero=>intro i;rfl
 | succ m ih =>
  intro i
  rw [Fm,Lc,Ca,Fp,Lg]
  by_cases hb:i<x.Text.size
  ·rw [Ap (dT (by omega)),Ap (dT (by omega)),Wu hb,sb]
   have hg:C5 (sby x.Text) (i:Int)=some (((x.Text.get! i).toNat:Nat):Int):=by
    unfold C5 sby
    rw [if_pos (by omega),Int.toNat_natCast,List.getElem?_map]
    rw [A4i hb,Ze hb];rfl
   rw [hg,sb]
   generalize (((x.Text.get! i).toNat:Nat):Int)=u
   have hk:=ih (i+1)
   rw [show (((i+1:Nat)):Int)=(i:Int)+1 by omega] at hk
   by_cases h1:u<32
   ·rw [dT h1,gdF (by rfl),sb,Ap (by rfl),Ap (by rfl)]
   ·rw [dF h1,gdT (by rfl),sb]
    by_cases h2:u>126
    ·rw [dT h2,Ap (by rfl),Ap (by rfl)]
    ·rw [dF h2,An (by rfl),An (by rfl)]
     exact Um hk
  ·rw [An (dF (by omega)),An (dF (by omega))];rfl
theorem Ye {α:Type} (o:Option α):(o.bind fun y=>some y)=o:=by cases o<;>rfl
def Pc (F:Nat) (t:volume_thing):Option Int:=(volume_thing.cs t (some (volume_thing.nil_,(2:Int))) (fun z15=>(Bz F z15).bind fun y22=>some ((volume_thing.ic156 z15),y22)) (fun z15=>(B5 F z15).bind fun y28=>some ((volume_thing.ic158 z15),y28)) (fun z15=>(Bb F z15).bind fun y31=>some ((volume_thing.ic160 z15),y31))).bind fun y10=>some y10.2
theorem Yk (F:Nat) (s:volume_sweep):Pc F (.ic156 s)=Bx F s.Sweep:=by
 show ((((Bx F s.Sweep).bind fun y6=>some y6)).bind fun y22=>some ((volume_thing.ic156 s),y22)).bind (fun y10=>some y10.2)=_
 cases Bx F s.Sweep<;>rfl
theorem Yl (F:Nat) (s:volume_field):Pc F (.ic158 s)=B5 F s:=by
 show ((B5 F s).bind fun y22=>some ((volume_thing.ic158 s),y22)).bind (fun y10=>some y10.2)=_
 cases B5 F s<;>rfl
theorem Ym (F:Nat) (s:volume_note):Pc F (.ic160 s)=Bb F s:=by
 show ((Bb F s).bind fun y22=>some ((volume_thing.ic160 s),y22)).bind (fun y10=>some y10.2)=_
 cases Bb F s<;>rfl
theorem A46 (x:Int):(!(Ag x 0 4294967296))=(bif (decide (x<0)) then true else (decide (x>4294967296))):=by
 unfold Ag
 rw [Bool.eq_iff_iff]
 simp only [cond_eq_ite,Bool.if_true_left,Bool.and_eq_true,Bool.or_eq_true,decide_eq_true_eq,Bool.not_eq_true',Bool.if_false_right,Bool.and_eq_false_iff,decide_eq_false_iff_not]
 omega
theorem Tk {F:Nat} (hF:100≤F) (x:volume_Item):Df F (toR x)=Pc F (Dd x):=by
 rw [Df,Dd]
 show (bif (bif (bif (x.Kind != 1) then (x.Kind != 2) else false) then (x.Kind != 3) else false) then _ else _)=_
 have hs:Cj x.Sweep=(bif (bif (bif ((x.Sweep.Site.Name==ByteArray.empty)&&(((x.Sweep.Site.X:Int)==0)&&(((x.Sweep.Site.Y:Int)==0)&&(((x.Sweep.Site.Z:Int)==0)&&(((x.Sweep.Site.Rose:Int)==0)&&(((x.Sweep.Site.Gates:Int)==0)&&(((x.Sweep.Site.Step:Int)==0)&&(((x.Sweep.Site.Width:Int)==0)&&true)))))))) then (x.Sweep.Tilt==0) else false) then (x.Sweep.Time==0) else false) then (((x.Sweep.Rays.length:Nat):Int)==0) else false):=rfl
 have hf:Dc x.Field=(bif (((x.Field.Grid.X:Int)==0)&&(((x.Field.Grid.Y:Int)==0)&&(((x.Field.Grid.Size:Int)==0)&&(((x.Field.Grid.Wide:Int)==0)&&(((x.Field.Grid.High:Int)==0)&&true))))) then (((x.Field.Vals.length:Nat):Int)==0) else false):=rfl
 have e0:∀s:ByteArray,sEq s ByteArray.empty=sEq s ⟨#[]⟩:=fun _=>rfl
 by_cases h1:x.Kind=1
 ·have k1:(x.Kind==1)=true:=by simp [h1]
  have k1':(x.Kind != 1)=false:=by simp [h1]
  have k2':(x.Kind != 2)=true:=by simp [h1]
  have k3':(x.Kind != 3)=true:=by simp [h1]
  show (bif (bif (bif (x.Kind != 1) then (x.Kind != 2) else false) then (x.Kind != 3) else false) then (some 2) else (bif (bif (bif (bif (bif (x.Kind != 1) then (!(Cj x.Sweep)) else false) then true else (bif (x.Kind != 2) then (bif (!(Dc x.Field)) then true else (!(sEq x.Name (⟨#[]⟩:ByteArray)))) else false)) then true else (bif (x.Kind != 3) then (!(sEq x.Text (⟨#[]⟩:ByteArray))) else false)) then true else (bif (x.Kind==1) then (x.Time != 0) else false)) then (some 2) else (bif (x.Kind==1) then ((El F x.Sweep).bind fun y9=>some y9) else _)))=_
  rw [k1,k1',k2',k3']
  simp only [cond_true,cond_false]
  rw [hf]
  show _=Pc F (bif (bif (bif (bif (bif (!(sEq x.Name ⟨#[]⟩)) then true else (x.Time != 0)) then true else (!(sEq x.Text ⟨#[]⟩))) then true else false) then true else (!(bif (((x.Field.Grid.X:Int)==0)&&(((x.Field.Grid.Y:Int)==0)&&(((x.Field.Grid.Size:Int)==0)&&(((x.Field.Grid.Wide:Int)==0)&&(((x.Field.Grid.High:Int)==0)&&true))))) then (((x.Field.Vals.length:Nat):Int)==0) else false))) then (volume_thing.nil_) else (volume_thing.ic156 (volume_sweep.mk x.Sweep)))
  generalize (bif (((x.Field.Grid.X:Int)==0)&&(((x.Field.Grid.Y:Int)==0)&&(((x.Field.Grid.Size:Int)==0)&&(((x.Field.Grid.Wide:Int)==0)&&(((x.Field.Grid.High:Int)==0)&&true))))) then (((x.Field.Vals.length:Nat):Int)==0) else false)=a
  generalize sEq x.Name ⟨#[]⟩=b
  generalize sEq x.Text ⟨#[]⟩=c
  generalize (x.Time != 0)=d
  have hgood:((Bx F x.Sweep).bind fun y9=>some y9)=Pc F (volume_thing.ic156 (volume_sweep.mk x.Sweep)):=by
   rw [Yk,Ye]
  rw [A0k hF]
  cases a<;>cases b<;>cases c<;>cases d<;>first|exact hgood|rfl
 ·by_cases h2:x.Kind=2
  ·have k1:(x.Kind==1)=false:=by simp [h1]
   have k1':(x.Kind != 1)=true:=by simp [h1]
   have k2:(x.Kind==2)=true:=by simp [h2]
   have k2':(x.Kind != 2)=false:=by simp [h2]
   have k3':(x.Kind != 3)=true:=by simp [h2]
   show (bif (bif (bif (x.Kind != 1) then (x.Kind != 2) else false) then (x.Kind != 3) else false) then (some 2) else (bif (bif (bif (bif (bif (x.Kind != 1) then (!(Cj x.Sweep)) else false) then true else (bif (x.Kind != 2) then (bif (!(Dc x.Field)) then true else (!(sEq x.Name (⟨#[]⟩:ByteArray)))) else false)) then true else (bif (x.Kind != 3) then (!(sEq x.Text (⟨#[]⟩:ByteArray))) else false)) then true else (bif (x.Kind==1) then (x.Time != 0) else false)) then (some 2) else (bif (x.Kind==1) then ((El F x.Sweep).bind fun y9=>some y9) else ((gd (((x.Kind==2)==true&&true)) (Ju F x.Name) default).bind fun y10 =>
    bif (bif (x.Kind==2) then (!y10) else false) then (some 10) else (bif (!(Ag x.Time 0 4294967296)) then (some 3) else (bif (x.Kind==2) then ((F7 F x.Field).bind fun y11=>some y11) else _))))))=_
   rw [k1,k1',k2,k2',k3']
   simp only [cond_true,cond_false]
   rw [hs,gdT (by rfl),Xo hF,sb,Zy]
   show _=Pc F (bif (bif (bif (bif (bif (!(sEq x.Name x.Name)) then true else (x.Time != x.Time)) then true else (!(sEq x.Text ⟨#[]⟩))) then true else (!(bif (bif (bif ((x.Sweep.Site.Name==ByteArray.empty)&&(((x.Sweep.Site.X:Int)==0)&&(((x.Sweep.Site.Y:Int)==0)&&(((x.Sweep.Site.Z:Int)==0)&&(((x.Sweep.Site.Rose:Int)==0)&&(((x.Sweep.Site.Gates:Int)==0)&&(((x.Sweep.Site.Step:Int)==0)&&(((x.Sweep.Site.Width:Int)==0)&&true)))))))) then (x.Sweep.Tilt==0) else false) then (x.Sweep.Time==0) else false) then (((x.Sweep.Rays.length:Nat):Int)==0) else false))) then true else false) then (volume_thing.nil_) else (volume_thing.ic158 (volume_field.mk x.Name x.Time x.Field)))
   rw [R9,Xe]
   generalize (bif (bif (bif ((x.Sweep.Site.Name==ByteArray.empty)&&(((x.Sweep.Site.X:Int)==0)&&(((x.Sweep.Site.Y:Int)==0)&&(((x.Sweep.Site.Z:Int)==0)&&(((x.Sweep.Site.Rose:Int)==0)&&(((x.Sweep.Site.Gates:Int)==0)&&(((x.Sweep.Site.Step:Int)==0)&&(((x.Sweep.Site.Width:Int)==0)&&true)))))))) then (x.Sweep.Tilt==0) else false) then (x.Sweep.Time==0) else false) then (((x.Sweep.Rays.length:Nat):Int)==0) else false)=a
   generalize sEq x.Text ⟨#[]⟩=c
   have hgood:(bif (!Qp x.Name) then (some 10) else (bif (!(Ag x.Time 0 4294967296)) then (some 3) else ((Fv F x.Field).bind fun y11=>some y11)))=Pc F (volume_thing.ic158 (volume_field.mk x.Name x.Time x.Field)):=by
    rw [Yl,B5,Uu,sb,A46]
   cases a<;>cases c<;>first|exact hgood|rfl
  ·by_cases h3:x.Kind=3
   ·have k1:(x.Kind==1)=false:=by simp [h1]
    have k1':(x.Kind != 1)=true:=by simp [h1]
    have k2:(x.Kind==2)=false:=by simp [h2]
    have k2':(x.Kind != 2)=true:=by simp [h2]
    have k3:(x.Kind==3)=true:=by simp [h3]
    have k3':(x.Kind != 3)=false:=by simp [h3]
    show (bif (bif (bif (x.Kind != 1) then (x.Kind != 2) else false) then (x.Kind != 3) else false) then (some 2) else (bif (bif (bif (bif (bif (x.Kind != 1) then (!(Cj x.Sweep)) else false) then true else (bif (x.Kind != 2) then (bif (!(Dc x.Field)) then true else (!(sEq x.Name (⟨#[]⟩:ByteArray)))) else false)) then true else (bif (x.Kind != 3) then (!(sEq x.Text (⟨#[]⟩:ByteArray))) else false)) then true else (bif (x.Kind==1) then (x.Time != 0) else false)) then (some 2) else (bif (x.Kind==1) then ((El F x.Sweep).bind fun y9=>some y9) else ((gd (((x.Kind==2)==true&&true)) (Ju F x.Name) default).bind fun y10 =>
     bif (bif (x.Kind==2) then (!y10) else false) then (some 10) else (bif (!(Ag x.Time 0 4294967296)) then (some 3) else (bif (x.Kind==2) then ((F7 F x.Field).bind fun y11=>some y11) else (bif (decide (((x.Text.size:Nat):Int)>200)) then (some 8) else (Fm (toR x) F 0))))))))=_
    rw [k1,k1',k2,k2',k3,k3']
    simp only [cond_true,cond_false]
    rw [hs,hf,gdF (by rfl),sb]
    show _=Pc F (bif (bif (bif (bif (bif (!(sEq x.Name ⟨#[]⟩)) then true else (x.Time != x.Time)) then true else (!(sEq x.Text x.Text))) then true else (!(bif (bif (bif ((x.Sweep.Site.Name==ByteArray.empty)&&(((x.Sweep.Site.X:Int)==0)&&(((x.Sweep.Site.Y:Int)==0)&&(((x.Sweep.Site.Z:Int)==0)&&(((x.Sweep.Site.Rose:Int)==0)&&(((x.Sweep.Site.Gates:Int)==0)&&(((x.Sweep.Site.Step:Int)==0)&&(((x.Sweep.Site.Width:Int)==0)&&true)))))))) then (x.Sweep.Tilt==0) else false) then (x.Sweep.Time==0) else false) then (((x.Sweep.Rays.length:Nat):Int)==0) else false))) then true else (!(bif (((x.Field.Grid.X:Int)==0)&&(((x.Field.Grid.Y:Int)==0)&&(((x.Field.Grid.Size:Int)==0)&&(((x.Field.Grid.Wide:Int)==0)&&(((x.Field.Grid.High:Int)==0)&&true))))) then (((x.Field.Vals.length:Nat):Int)==0) else false))) then (volume_thing.nil_) else (volume_thing.ic160 (volume_note.mk x.Time x.Text)))
    rw [R9,Xe]
    generalize (bif (bif (bif ((x.Sweep.Site.Name==ByteArray.empty)&&(((x.Sweep.Site.X:Int)==0)&&(((x.Sweep.Site.Y:Int)==0)&&(((x.Sweep.Site.Z:Int)==0)&&(((x.Sweep.Site.Rose:Int)==0)&&(((x.Sweep.Site.Gates:Int)==0)&&(((x.Sweep.Site.Step:Int)==0)&&(((x.Sweep.Site.Width:Int)==0)&&true)))))))) then (x.Sweep.Tilt==0) else false) then (x.Sweep.Time==0) else false) then (((x.Sweep.Rays.length:Nat):Int)==0) else false)=a
    generalize (bif (((x.Field.Grid.X:Int)==0)&&(((x.Field.Grid.Y:Int)==0)&&(((x.Field.Grid.Size:Int)==0)&&(((x.Field.Grid.Wide:Int)==0)&&(((x.Field.Grid.High:Int)==0)&&true))))) then (((x.Field.Vals.length:Nat):Int)==0) else false)=b
    generalize sEq x.Name ⟨#[]⟩=c
    have hgood:(bif (!(Ag x.Time 0 4294967296)) then (some 3) else (bif (decide (((x.Text.size:Nat):Int)>200)) then (some 8) else (Fm (toR x) F 0)))=Pc F (volume_thing.ic160 (volume_note.mk x.Time x.Text)):=by
     rw [Ym,Bb,A46]
     show (bif _ then _ else _)=(bif (bif (decide (x.Time<0)) then true else (decide (x.Time>4294967296))) then _ else _)
     congr 1
     by_cases hz:((x.Text.size:Nat):Int)>200
     ·rw [Ap (dT hz)]
      show _=(bif (decide (((x.Text.size:Nat):Int)>200)) then _ else _)
      rw [Ap (dT hz)]
     ·have h2b:s2b x.Text=some (sby x.Text):=by unfold s2b;rw [if_pos (by omega)]
      rw [An (dF hz)]
      show _=(bif (decide (((x.Text.size:Nat):Int)>200)) then _ else (s2b x.Text).bind fun l15=>Ca l15 F 0)
      rw [An (dF hz),h2b,sb]
      exact A10 (toR x) F 0
    cases a<;>cases b<;>cases c<;>first|exact hgood|rfl
   ·have k1:(x.Kind==1)=false:=by simp [h1]
    have k1':(x.Kind != 1)=true:=by simp [h1]
    have k2:(x.Kind==2)=false:=by simp [h2]
    have k2':(x.Kind != 2)=true:=by simp [h2]
    have k3:(x.Kind==3)=false:=by simp [h3]
    have k3':(x.Kind != 3)=true:=by simp [h3]
    rw [k1',k2',k3',k1,k2,k3]
    rfl
end Go.Proofs.YtifbomimeodibaaGreat
namespace Go.Proofs.YtifbomimeodibaaGreat
open Go Go.RowKit Go.Eng
set_option maxRecDepth 10000
set_option linter.unusedVariables false
set_option linter.unusedSimpArgs false
theorem A2e (F:Nat) (hF:10≤F) (c:Nat) (hc:c<2147483647):Gc F c [] 0=some (Yy c):=by
 obtain ⟨G,rfl⟩:∃G,F=G+6:=⟨F-6,by omega⟩
 have step:∀(m i d:Nat) (l:List Int),i<4→l.length=i→d<2147483647→Gc (m+1) d l i=Gc m (d/127:Nat) (l++[128+((d%127:Nat):Int)]) (i+1:Nat):=by
  intro m i d l hi hl hd
  rw [Gc,Lf,Ap (dT (by omega)),(tdm d).1,sb]
  have:=Nat.mod_lt d (show 0<127 by decide)
  rw [ckb (by omega),Hl (by simp;omega) (by decide),(tdm d).2,ckb (by omega),ckb (by omega),Ud (by omega)]
  rfl
 rw [show (0:Int)=((0:Nat):Int) from rfl,step (G+5) 0 c _ (by decide) (by simp) hc,step (G+4) 1 _ _ (by decide) (by simp) (by omega),step (G+3) 2 _ _ (by decide) (by simp) (by omega),step (G+2) 3 _ _ (by decide) (by simp) (by omega)]
 rw [Gc,Lf,An (dF (by decide)),N0]
 have h5:c/127/127/127/127<127:=by omega
 have h6:c/127/127/127/127%127=c/127/127/127/127:=Nat.mod_eq_of_lt h5
 rw [ckb (by omega),Hl (by simp) (by decide),Ud (by omega)]
 unfold Yy
 rw [h6]
 rfl
theorem A2f (F:Nat) (hF:10≤F) (p:List Int) (hp:By p) (hpl:p.length≤1000000000):∀(m i c:Nat),p.length-i<m→i≤p.length→c<2147483647→Ka F p m c i=some (Yy (X6 c (p.drop i))):=by
 intro m
 induction m with
 | zero=>intro i c h;omega
 | succ m ih =>
  intro i c h hi hc
  rw [Ka,My]
  by_cases hb:i<p.length
  ·have hx:=hp p[i] (List.getElem_mem hb)
   rw [Ap (dT (by omega)),ckb (by omega),Fk i p[i] rfl (List.getElem?_eq_getElem hb),ckb (by omega),ckb (by omega)]
   have e:Nw (31*(c:Int)+p[i]) 2147483647=some (((31*c+p[i].toNat)%2147483647:Nat):Int):=by
    have e1:31*(c:Int)+p[i]=((31*c+p[i].toNat:Nat):Int):=by omega
    rw [e1]
    unfold Nw
    rw [if_neg (by decide)]
    congr 1
   rw [e,sb,ckb (by omega)]
   have:=ih (i+1) _ (by omega) (by omega) (Nat.mod_lt (31*c+p[i].toNat) (show 0<2147483647 by decide))
   rw [show ((i:Int)+1)=((i+1:Nat):Int) by omega,this,List.drop_eq_getElem_cons hb]
   rfl
  ·rw [An (dF (by omega)),Mz,List.drop_of_length_le (by omega)]
   exact A2e F hF c hc
theorem Zq {F:Nat} (hF:10≤F) {p:List Int} (hp:By p) (hl:p.length<F) (hl9:p.length≤1000000000):M3 F p=some (X5 p):=by
 rw [M3]
 exact A2f F hF p hp hl9 F 0 1 (by omega) (by omega) (by decide)
theorem A0i (a b:List Int) (hl:a.length=b.length) (h9:a.length≤1000000000):∀(m i:Nat),a.length-i<m→i≤a.length→Ji a b m i=some (decide (a.drop i=b.drop i)):=by
 intro m
 induction m with
 | zero=>intro i h;omega
 | succ m ih =>
  intro i h hi
  rw [Ji,Mb]
  by_cases hb:i<a.length
  ·have hb':i<b.length:=by omega
   rw [Ap (dT (by omega)),Fk i a[i] rfl (List.getElem?_eq_getElem hb),Fk i b[i] rfl (List.getElem?_eq_getElem hb'),Zb hb hb']
   by_cases hx:a[i]=b[i]
   ·rw [An (by simp [hx]),ckb (by omega),show ((i:Int)+1)=((i+1:Nat):Int) by omega,ih (i+1) (by omega) (by omega),dT hx,Bool.true_and]
   ·rw [Ap (by simp [hx]),dF hx];rfl
  ·rw [An (dF (by omega)),Xh (by omega) (by omega)];rfl
theorem A3k {F:Nat} {a b:List Int} (hF:a.length<F) (h9:a.length≤1000000000):Nu F a b=some (decide (a=b)):=by
 rw [Nu]
 by_cases h:a.length=b.length
 ·rw [An (by simp [h]),show (0:Int)=((0:Nat):Int) from rfl,A0i a b h h9 F 0 (by omega) (by omega)];rfl
 ·rw [Ap (by simp;omega),dF (fun e=>h (by rw [e]))]
def zR:ref12_Item:=⟨0,ByteArray.empty,0,⟨⟨ByteArray.empty,0,0,0,0,0,0,0⟩,0,0,[]⟩,⟨⟨0,0,0,0,0⟩,[]⟩,ByteArray.empty⟩
noncomputable def fin:Option (volume_thing×List Int)→ref12_Item×Bool
 | none=>(zR,false)
 | some (t,r)=>if vT t∧r=[] then (toR (Fl t),true) else (zR,false)
def Fin (bad:Bool) (Z:Option (ref12_Item×Bool)) (o:Option (volume_thing×List Int)):Prop:=Z=some (fin (bif bad then none else o))
theorem Fin.bind {α:Type} {b:List Int} {bad:Bool} {y:Option (α×ref12_reader)} {o:Option (α×List Int)} {ok:α→Prop} (h:Uq b bad y o ok) {f:α×ref12_reader→Option (ref12_Item×Bool)} {g:α×List Int→Option (volume_thing×List Int)}
  (hf:∀x r,r.b <:+ b→ok x→(r.bad=false→o=some (x,r.b))→Fin r.bad (f (x,r)) (g (x,r.b))):Fin bad (y.bind f) (o.bind g):=by
 obtain ⟨x,r,h1,h2,h3,h4⟩:=h
 rw [h1,sb]
 rcases h4 with ⟨e1,e2,e3⟩|⟨e1,e2⟩
 ·have:=hf x r h2 h3 (fun _=>e2)
  rw [e3] at this
  rw [e1,e2]
  exact this
 ·have:=hf x r h2 h3 (fun h=>by rw [e1] at h;cases h)
  rw [e1] at this
  rcases e2 with e2|e2
  ·rw [e2];exact this
  ·rw [e2];cases bad<;>exact this
theorem Fin.no {bad:Bool}:Fin bad (some (zR,false)) none:=by cases bad<;>rfl
theorem A2l {F:Nat} (hF:5000≤F) {t:volume_thing} (ht:t≠.nil_):∃e,Df F (toR (Fl t))=some e∧(e=0↔vT t):=by
 obtain ⟨e,h1,h2⟩:=Sy hF ht
 refine ⟨e,?_,h2⟩
 rw [Tk (by omega),Zk ht,←h1]
 cases t with
 | nil_=>exact absurd rfl ht
 | ic156 s=>rw [Yk];show _=(Bx F s.Sweep).bind fun y=>some y;rw [Ye]
 | ic158 s=>rw [Yl];rfl
 | ic160 s=>rw [Ym];rfl
theorem A6q {F:Nat} (hF:5000≤F) {t:volume_thing} (ht:t≠.nil_) (x:ref12_Item) (hx:x=toR (Fl t)) (l:List Int) (c:Bool) :
  Fin c (bif c then ((gd ((true==false&&true)) (Df F x) default).bind fun y319=>some (zR,false)) else ((gd (((decide (((l.length:Nat):Int)>0))==false&&true)) (Df F x) default).bind fun y320 =>
   bif (bif (decide (((l.length:Nat):Int)>0)) then true else (y320 != 0)) then (some (zR,false)) else (some (x,true)))) (some (t,l)):=by
 cases c with
 | true=>rw [Ap rfl,gdF (by rfl),sb];rfl
 | false =>
  rw [An rfl]
  show _=some (if vT t∧l=[] then (toR (Fl t),true) else (zR,false))
  subst hx
  obtain ⟨e,h1,h2⟩:=A2l hF ht
  by_cases hl:l=[]
  ·subst hl
   rw [show decide ((((([]:List Int).length):Nat):Int)>0)=false from rfl,gdT (by rfl),h1,sb,An (c:=false) rfl]
   by_cases he:e=0
   ·rw [An (by simp [he]),if_pos ⟨h2.1 he,rfl⟩]
   ·rw [Ap (by simp [he]),if_neg (fun h=>he (h2.2 h.1))]
  ·have:=List.length_pos_iff.2 hl
   rw [dT (show ((l.length:Nat):Int)>0 by omega),gdF (by rfl),sb,Ap (c:=true) rfl,Ap rfl,if_neg (fun h=>hl h.2)]
theorem A30 {F:Nat} (y6:Int×ref12_reader) (y326:ByteArray×ref12_reader) (y334 y341 y348 y355 y362 y369 y376 y383 y403:Int×ref12_reader) (y413:List api_Echo×ref12_reader) (hb:y413.2.bad=false) (hr:1≤y355.1∧y355.1≤90) (hg:1≤y362.1∧y362.1≤200) (hl:y413.1.length=(4*y355.1).toNat*y362.1.toNat) :
  ∀(m i n:Nat) (acc:List (List api_Echo)),n<m→(i:Int)+n=4*y355.1→acc.length=i→Gg F y6 y326 y334 y341 y348 y355 y362 y369 y376 y383 y403 y413 m acc i =
   Db F y6 ByteArray.empty y376.1 y383.1 y403.1 (acc++Uf y362.1.toNat n (y413.1.drop (i*y362.1.toNat))) 0 0 0 0 0 ([]) 0 ByteArray.empty y326.1 y334.1 y341.1 y348.1 y355.1 y362.1 y369.1 y413.2.b y413.2.bad:=by
 intro m
 induction m with
 | zero=>intro i n acc h;omega
 | succ m ih =>
  intro i n acc h hi ha
  rw [Gg,Kj,ckb (by omega)]
  cases n with
  | zero=>rw [An (dF (by omega)),Uf,List.append_nil]
  | succ n =>
   have e1:(i:Int)*y362.1=((i*y362.1.toNat:Nat):Int):=by push_cast;rw [show (y362.1.toNat:Int)=y362.1 by omega]
   have e2:((i:Int)+1)*y362.1=((i*y362.1.toNat+y362.1.toNat:Nat):Int):=by rw [Int.add_mul,e1,Int.one_mul];omega
   have hle:i*y362.1.toNat+y362.1.toNat≤(4*y355.1).toNat*y362.1.toNat:=by
    rw [show i*y362.1.toNat+y362.1.toNat=(i+1)*y362.1.toNat by rw [Nat.add_mul,Nat.one_mul]]
    exact Nat.mul_le_mul_right _ (by omega)
   have hle2:(4*y355.1).toNat*y362.1.toNat≤360*200:=Nat.mul_le_mul (by omega) (by omega)
   rw [Ap (dT (by omega)),hb,Ap (by rfl),ckb (by omega),ckb (by omega),ckb (by omega),Zw (i*y362.1.toNat) (i*y362.1.toNat+y362.1.toNat) e1 e2 (by omega),Hl (by simp;omega) (by decide),ckb (by omega)]
   rw [show ((i:Int)+1)=((i+1:Nat):Int) by omega,ih (i+1) n _ (by omega) (by omega) (by simp;omega)]
   rw [Uf,List.append_assoc,List.drop_drop,hb,show i*y362.1.toNat+y362.1.toNat-i*y362.1.toNat=y362.1.toNat by omega,show (i+1)*y362.1.toNat=i*y362.1.toNat+y362.1.toNat by rw [Nat.add_mul,Nat.one_mul]]
   rfl
end Go.Proofs.YtifbomimeodibaaGreat
namespace Go.Proofs.YtifbomimeodibaaGreat
open Go Go.RowKit Go.Eng
set_option maxRecDepth 10000
set_option linter.unusedVariables false
set_option linter.unusedSimpArgs false
theorem A1h {F:Nat} (hF:5000≤F) {t:volume_thing} (ht:t≠.nil_) (y6:Int×ref12_reader) (s285:ByteArray) (x286 x287 x288:Int) (l291:List (List api_Echo)) (x294 x295 x296 x297 x298:Int) (l301:List api_Span) (x303:Int) (s304 s305:ByteArray) (x306 x307 x308 x309 x310 x311:Int) (l:List Int) (c:Bool)
  (hx:ref12_Item.mk y6.1 s285 x303 (api_Sweep.mk (api_Site.mk s305 x306 x307 x308 x309 x310 x311 x286) x287 x288 l291) (api_Field.mk (api_Grid.mk x294 x295 x296 x297 x298) l301) s304=toR (Fl t)) :
  Fin c (Db F y6 s285 x286 x287 x288 l291 x294 x295 x296 x297 x298 l301 x303 s304 s305 x306 x307 x308 x309 x310 x311 l c) (some (t,l)):=A6q hF ht _ hx l c
theorem A3r {F:Nat} (hF:200000≤F) (y6:Int×ref12_reader) (h6:y6.1=1) {r:ref12_reader} (hb:By r.b):Fin r.bad ((Dl F r).bind fun y326 =>
 (B9 F (ref12_reader.mk y326.2.b y326.2.bad)).bind fun y334 =>
 (B9 F (ref12_reader.mk y334.2.b y334.2.bad)).bind fun y341 =>
 (Aa F (ref12_reader.mk y341.2.b y341.2.bad)).bind fun y348 =>
 (Aa F (ref12_reader.mk y348.2.b y348.2.bad)).bind fun y355 =>
 (Aa F (ref12_reader.mk y355.2.b y355.2.bad)).bind fun y362 =>
 (Aa F (ref12_reader.mk y362.2.b y362.2.bad)).bind fun y369 =>
 (Aa F (ref12_reader.mk y369.2.b y369.2.bad)).bind fun y376 =>
 (Aa F (ref12_reader.mk y376.2.b y376.2.bad)).bind fun y383 =>
 (Aa F (ref12_reader.mk y383.2.b y383.2.bad)).bind fun y403 =>
 (F1 F (api_Site.mk y326.1 y334.1 y341.1 y348.1 y355.1 y362.1 y369.1 y376.1)).bind fun y410 =>
 bif (y410 != 0) then (some (zR,false)) else ((ck (4*y355.1)).bind fun x411 =>
 (ck (x411*y362.1)).bind fun x412 =>
 (Ef F (ref12_reader.mk y403.2.b y403.2.bad) x412).bind fun y413 =>
 Gg F y6 y326 y334 y341 y348 y355 y362 y369 y376 y383 y403 y413 F ([]) 0)) (Vi r.b):=by
 have h1:1000≤F:=by omega
 unfold Vi
 refine Fin.bind (A29 h1 hb) fun nm s1 hs1 _ _=>?_
 have b1:=hb.suf hs1
 refine Fin.bind (Pu h1 b1) fun x s2 hs2 _ _=>?_
 have b2:=b1.suf hs2
 refine Fin.bind (Pu h1 b2) fun y s3 hs3 _ _=>?_
 have b3:=b2.suf hs3
 refine Fin.bind (E4 h1 b3) fun z s4 hs4 _ _=>?_
 have b4:=b3.suf hs4
 refine Fin.bind (E4 h1 b4) fun ro s5 hs5 _ _=>?_
 have b5:=b4.suf hs5
 refine Fin.bind (E4 h1 b5) fun g s6 hs6 _ _=>?_
 have b6:=b5.suf hs6
 refine Fin.bind (E4 h1 b6) fun st s7 hs7 _ _=>?_
 have b7:=b6.suf hs7
 refine Fin.bind (E4 h1 b7) fun w s8 hs8 _ _=>?_
 have b8:=b7.suf hs8
 refine Fin.bind (E4 h1 b8) fun ti s9 hs9 _ _=>?_
 have b9:=b8.suf hs9
 refine Fin.bind (E4 h1 b9) fun tm s10 hs10 _ _=>?_
 have b10:=b9.suf hs10
 obtain ⟨e,he,hv⟩:=X4 F ⟨nm,x,y,z,ro,g,st,w⟩
 show Fin s10.bad ((F1 F ⟨nm,x,y,z,ro,g,st,w⟩).bind _) (if Uc ⟨nm,x,y,z,ro,g,st,w⟩ then _ else _)
 rw [Y8 (by omega),he,sb]
 by_cases h0:e=0
 ·rw [An (by simp [h0]),if_pos (hv.1 h0)]
  obtain ⟨_,_,_,_,⟨c1,c2⟩,⟨c3,c4⟩,_⟩:=hv.1 h0
  simp only at c1 c2 c3 c4
  have hm:4*ro*g≤360*g:=Int.mul_le_mul_of_nonneg_right (by omega) (by omega)
  have hm0:0≤4*ro*g:=Int.mul_nonneg (by omega) (by omega)
  show Fin s10.bad ((ck (4*ro)).bind fun x411=>(ck (x411*g)).bind fun x412=>_) _
  rw [ckb (by omega),ckb (by omega)]
  have hr:=A28 hF (N:=(4*ro*g).toNat) (by omega) (r:=s10) b10
  rw [show (((4*ro*g).toNat:Nat):Int)=4*ro*g by omega] at hr
  refine Fin.bind hr fun all s11 hs11 _ hgood=>?_
  cases hbad:s11.bad with
  | true =>
   obtain ⟨G,rfl⟩:∃G,F=G+1:=⟨F-1,by omega⟩
   rw [Gg,Kj]
   show Fin true ((ck (4*ro)).bind fun x480=>bif (decide ((0:Int)<x480)) then (bif (!s11.bad) then _ else _) else _) _
   rw [ckb (by omega),Ap (dT (by omega)),hbad,An (by rfl)]
   show (bif true then _ else _)=_
   rw [Ap rfl,gdF (by rfl),sb]
   rfl
  | false =>
   have hlen:=(A1t (fun l x r hb h=>Yt hb h) _ _ _ _ _ _ b10 (hgood hbad)).1
   have hl2:all.length=(4*ro).toNat*g.toNat:=by
    rw [hlen]
    have:(4*ro*g)=(((4*ro).toNat*g.toNat:Nat):Int):=by
     push_cast
     rw [show ((4*ro).toNat:Int)=4*ro by omega,show (g.toNat:Int)=g by omega]
    omega
   rw [show (0:Int)=((0:Nat):Int) from rfl,A30 y6 (nm,s1) (x,s2) (y,s3) (z,s4) (ro,s5) (g,s6) (st,s7) (w,s8) (ti,s9) (tm,s10) (all,s11) hbad ⟨c1,c2⟩ ⟨c3,c4⟩ hl2 F 0 (4*ro).toNat [] (by omega) (by simp only;omega) rfl]
   rw [Nat.zero_mul,List.drop_zero,List.nil_append]
   have:=A1h (F:=F) (by omega) (t:=.ic156 ⟨⟨⟨nm,x,y,z,ro,g,st,w⟩,ti,tm,Uf g.toNat (4*ro).toNat all⟩⟩) (by simp) y6 ByteArray.empty w ti tm (Uf g.toNat (4*ro).toNat all) 0 0 0 0 0 [] 0 ByteArray.empty nm x y z ro g st s11.b s11.bad (by rw [h6];rfl)
   rw [hbad] at this
   show Fin false (Db F y6 ByteArray.empty w ti tm (Uf g.toNat (4*ro).toNat all) 0 0 0 0 0 [] 0 ByteArray.empty nm x y z ro g st s11.b s11.bad) _
   rw [hbad]
   exact this
 ·rw [Ap (by simp [h0]),if_neg (fun h=>h0 (hv.2 h))]
  exact Fin.no
theorem A3p {F:Nat} (hF:200000≤F) (y6:Int×ref12_reader) (h6:y6.1=2) {r:ref12_reader} (hb:By r.b):Fin r.bad ((Dl F r).bind fun y502 =>
 (Aa F (ref12_reader.mk y502.2.b y502.2.bad)).bind fun y509 =>
 (B9 F (ref12_reader.mk y509.2.b y509.2.bad)).bind fun y516 =>
 (B9 F (ref12_reader.mk y516.2.b y516.2.bad)).bind fun y524 =>
 (Aa F (ref12_reader.mk y524.2.b y524.2.bad)).bind fun y531 =>
 (Aa F (ref12_reader.mk y531.2.b y531.2.bad)).bind fun y538 =>
 (Aa F (ref12_reader.mk y538.2.b y538.2.bad)).bind fun y545 =>
 bif ((C6 (api_Grid.mk y516.1 y524.1 y531.1 y538.1 y545.1)) != 0) then (some (zR,false)) else ((ck (y538.1*y545.1)).bind fun x552 =>
 (Ev F (ref12_reader.mk y545.2.b y545.2.bad) x552).bind fun y553 =>
 Db F y6 y502.1 0 0 0 ([]) y516.1 y524.1 y531.1 y538.1 y545.1 y553.1 y509.1 ByteArray.empty ByteArray.empty 0 0 0 0 0 0 y553.2.b y553.2.bad)) (Vh r.b):=by
 have h1:1000≤F:=by omega
 unfold Vh
 refine Fin.bind (A29 h1 hb) fun nm s1 hs1 _ _=>?_
 have b1:=hb.suf hs1
 refine Fin.bind (E4 h1 b1) fun tm s2 hs2 _ _=>?_
 have b2:=b1.suf hs2
 refine Fin.bind (Pu h1 b2) fun x s3 hs3 _ _=>?_
 have b3:=b2.suf hs3
 refine Fin.bind (Pu h1 b3) fun y s4 hs4 _ _=>?_
 have b4:=b3.suf hs4
 refine Fin.bind (E4 h1 b4) fun sz s5 hs5 _ _=>?_
 have b5:=b4.suf hs5
 refine Fin.bind (E4 h1 b5) fun wd s6 hs6 _ _=>?_
 have b6:=b5.suf hs6
 refine Fin.bind (E4 h1 b6) fun hi s7 hs7 _ _=>?_
 have b7:=b6.suf hs7
 show Fin s7.bad (bif ((C6 ⟨x,y,sz,wd,hi⟩) != 0) then _ else _) (if Tg ⟨x,y,sz,wd,hi⟩ then _ else _)
 rw [Xk]
 by_cases h0:Bn ⟨x,y,sz,wd,hi⟩=0
 ·have hv:=(Un _).1 h0
  have hgl:=T3 hv
  simp only at hgl
  rw [An (by simp [h0]),if_pos hv]
  show Fin s7.bad ((ck (wd*hi)).bind fun x552=>_) _
  rw [ckb (by omega)]
  have hr:=A3q hF (N:=(wd*hi).toNat) (by omega) (r:=s7) b7
  rw [show (((wd*hi).toNat:Nat):Int)=wd*hi by omega] at hr
  refine Fin.bind hr fun all s8 hs8 _ _=>?_
  exact A1h (F:=F) (by omega) (t:=.ic158 ⟨nm,tm,⟨⟨x,y,sz,wd,hi⟩,all⟩⟩) (by simp) y6 nm 0 0 0 [] x y sz wd hi all tm ByteArray.empty ByteArray.empty 0 0 0 0 0 0 s8.b s8.bad (by rw [h6];rfl)
 ·rw [Ap (by simp [h0]),if_neg (fun h=>h0 ((Un _).2 h))]
  exact Fin.no
theorem A5h {F:Nat} (hF:200000≤F) (y6:Int×ref12_reader) (h6:y6.1=3) {r:ref12_reader} (hb:By r.b):Fin r.bad ((Aa F r).bind fun y582 =>
 (Dl F (ref12_reader.mk y582.2.b y582.2.bad)).bind fun y589 =>
 Db F y6 ByteArray.empty 0 0 0 ([]) 0 0 0 0 0 ([]) y582.1 y589.1 ByteArray.empty 0 0 0 0 0 0 y589.2.b y589.2.bad) (Xt r.b):=by
 have h1:1000≤F:=by omega
 unfold Xt
 refine Fin.bind (E4 h1 hb) fun tm s1 hs1 _ _=>?_
 have b1:=hb.suf hs1
 refine Fin.bind (A29 h1 b1) fun tx s2 hs2 _ _=>?_
 exact A1h (F:=F) (by omega) (t:=.ic160 ⟨tm,tx⟩) (by simp) y6 ByteArray.empty 0 0 0 [] 0 0 0 0 0 [] tm tx ByteArray.empty 0 0 0 0 0 0 s2.b s2.bad (by rw [h6];rfl)
theorem A2b {F:Nat} (hF:200000≤F) {l:List Int} (hl:By l):M0 F l=some (fin (Qe l)):=by
 have h1:1000≤F:=by omega
 have:Fin false (M0 F l) (Qe l):=by
  rw [M0,Qe]
  refine Fin.bind (b:=l) (bad:=false) (E4 h1 (r:=⟨l,false⟩) hl) fun k s hs _ _=>?_
  have b1:=hl.suf hs
  show Fin s.bad (bif (k==1) then _ else _) (if k=1 then _ else _)
  by_cases k1:k=1
  ·rw [Ap (by simp [k1]),if_pos k1]
   exact A3r hF (k,s) k1 b1
  ·rw [An (by simp [k1]),if_neg k1]
   by_cases k2:k=2
   ·rw [Ap (by simp [k2]),if_pos k2]
    exact A3p hF (k,s) k2 b1
   ·rw [An (by simp [k2]),if_neg k2]
    by_cases k3:k=3
    ·rw [Ap (by simp [k3]),if_pos k3]
     exact A5h hF (k,s) k3 b1
    ·rw [An (by simp [k3]),if_neg k3]
     rw [Db]
     have hc:Df F (ref12_Item.mk k ByteArray.empty 0 (api_Sweep.mk (api_Site.mk ByteArray.empty 0 0 0 0 0 0 0) 0 0 []) (api_Field.mk (api_Grid.mk 0 0 0 0 0) []) ByteArray.empty)=some 2:=by
      rw [Df]
      have a1:(k != 1)=true:=by simp [k1]
      have a2:(k != 2)=true:=by simp [k2]
      have a3:(k != 3)=true:=by simp [k3]
      rw [Ap (show (bif (bif (k != 1) then (k != 2) else false) then (k != 3) else false)=true by rw [a1,a2,a3];rfl)]
     show Fin s.bad (bif s.bad then _ else ((gd (((decide (((s.b.length:Nat):Int)>0))==false&&true)) (Df F (ref12_Item.mk k ByteArray.empty 0 (api_Sweep.mk (api_Site.mk ByteArray.empty 0 0 0 0 0 0 0) 0 0 []) (api_Field.mk (api_Grid.mk 0 0 0 0 0) []) ByteArray.empty)) default).bind fun y320=>bif (bif (decide (((s.b.length:Nat):Int)>0)) then true else (y320 != 0)) then _ else _)) none
     rw [hc]
     cases s.bad with
     | true=>rw [Ap rfl,gdF (by rfl),sb];exact Fin.no
     | false =>
      rw [An rfl]
      cases decide (((s.b.length:Nat):Int)>0) with
      | true=>rw [gdF (by rfl),sb,Ap (by rfl)];exact Fin.no
      | false=>rw [gdT (by rfl),sb,Ap (by rfl)];exact Fin.no
 exact this
noncomputable def tkS (p:List Int):ref12_Item×Int:=if (unS p).2=0 then (toR (Fl (unS p).1),0) else (zR,(unS p).2)
theorem A0q {F:Nat} (hF:200000≤F) {p:List Int} (hp:By p) (hl:p.length<F) (hl9:p.length≤1000000000):Mk F p=some (tkS p):=by
 obtain ⟨x,r,h1,h2,h3,h4⟩:=E4 (F:=F) (by omega) (r:=⟨p,false⟩) hp
 unfold Mk tkS unS
 rw [h1,sb]
 rcases h4 with ⟨_,e2,e3⟩|⟨e1,e2⟩
 ·have e2:rN p=some (x,r.b):=e2
  obtain ⟨a,b,c⟩:=Ge hp e2
  have hrl:=c.length_le
  rw [e2]
  show (bif r.bad then _ else _)=_
  rw [e3,An rfl,ckb (by simp only;omega)]
  show (bif ((r.b.length:Nat):Int) != x+5 then _ else _)=_
  by_cases q3:(r.b.length:Int)=x+5
  ·rw [An (by simp [q3]),ckb (by omega),K4 (p.length-5) (by omega) rfl (by omega),ckb (by omega),Nb (p.length-5) rfl (by omega) (by omega)]
   have hby1:By (p.take (p.length-5)):=fun x hx=>hp x (List.mem_of_mem_take hx)
   rw [Zq (by omega) hby1 (by rw [List.length_take];omega) (by rw [List.length_take];omega),sb,A3k (by rw [List.length_drop];omega) (by rw [List.length_drop];omega),sb]
   by_cases q4:p.drop (p.length-5)=X5 (p.take (p.length-5))
   ·rw [dT q4,An (by rfl),Nb x.toNat rfl (by simp only;omega) (show x.toNat≤r.b.length by omega)]
    have hbr:By (r.b.take x.toNat):=fun y hy=>(hp.suf c) y (List.mem_of_mem_take hy)
    rw [A2b hF hbr,sb]
    simp only [q3,q4,ne_eq,not_true_eq_false,if_false]
    cases q5:Qe (r.b.take x.toNat) with
    | none=>rfl
    | some y =>
     obtain ⟨t,r2⟩:=y
     simp only [fin]
     by_cases q6:vT t∧r2=[]
     ·rw [if_pos q6,if_pos q6];rfl
     ·rw [if_neg q6,if_neg q6];rfl
   ·rw [dF q4,Ap (by rfl)]
    simp only [q3,q4,ne_eq,not_true_eq_false,not_false_eq_true,if_false,if_true]
    rfl
  ·rw [Ap (by simp [q3])]
   simp only [q3,ne_eq,not_false_eq_true,if_true]
   rfl
 ·rcases e2 with e2|e2
  ·cases e2
  ·have e2:rN p=none:=e2
   rw [e2]
   show (bif r.bad then _ else _)=_
   rw [e1,Ap rfl]
   rfl
theorem Z3 {F:Nat} {p:List Int} (hp:By p) (hl:p.length≤1000000000):∀(m i:Nat) (c:Bool),p.length-i<m→i≤p.length →
  Jl F p m c i=Kk F p (c&&Tr (p.drop i)):=by
 intro m
 induction m with
 | zero=>intro i c h;omega
 | succ m ih =>
  intro i c h hi
  rw [Jl,Md]
  by_cases hb:i<p.length
  ·have hd:=List.drop_eq_getElem_cons hb
   have hg:C5 p (i:Int)=some p[i]:=by unfold C5;rw [if_pos (by omega),Int.toNat_natCast,List.getElem?_eq_getElem hb]
   have e:Tr (p[i]::p.drop (i+1))=(decide (p[i]≥128)&&decide (p[i]≤254)&&Tr (p.drop (i+1))):=List.all_cons ..
   rw [Ap (dT (by omega)),hg,hd,e]
   cases c with
   | false =>
    rw [gdF (by rfl),sb,gdF (by rfl),sb,ckb (by omega),show ((i:Int)+1)=((i+1:Nat):Int) by omega,ih (i+1) _ (by omega) (by omega)]
    rfl
   | true =>
    rw [gdT (by rfl),sb]
    cases decide (p[i]≥128) with
    | false =>
     rw [gdF (by rfl),sb,ckb (by omega),show ((i:Int)+1)=((i+1:Nat):Int) by omega,ih (i+1) _ (by omega) (by omega)]
     rfl
    | true =>
     rw [gdT (by rfl),sb,ckb (by omega),show ((i:Int)+1)=((i+1:Nat):Int) by omega,ih (i+1) _ (by omega) (by omega)]
     cases decide (p[i]≤254)<;>rfl
  ·rw [An (dF (by omega)),List.drop_of_length_le (by omega)]
   simp [Tr]
theorem A2h {F:Nat} (hF:1000≤F) {p:List Int} (hp:By p) (hlF:p.length<F) (hl:p.length≤1000000000):Nv F p=some (Vq p):=by
 rw [Nv,show (0:Int)=((0:Nat):Int) from rfl,Z3 hp hl F 0 true (by omega) (by omega),Kk,List.drop_zero,Bool.true_and]
 unfold Vq
 obtain ⟨x,r,h1,h2,h3,h4⟩:=E4 (F:=F) hF (r:=⟨p,false⟩) hp
 rw [h1,sb]
 cases Tr p with
 | true=>rfl
 | false =>
  rcases h4 with ⟨_,e2,e3⟩|⟨e1,e2⟩
  ·have e2:rN p=some (x,r.b):=e2
   obtain ⟨a,b,c⟩:=Ge hp e2
   rw [e2]
   show (bif (!r.bad) then ((ck (x+5)).bind fun x29=>some (decide (((r.b.length:Nat):Int)<x29))) else _)=_
   rw [e3,Ap (by rfl),ckb (by omega)]
   rfl
  ·rcases e2 with e2|e2
   ·cases e2
   ·have e2:rN p=none:=e2
    rw [e2]
    show (bif (!r.bad) then _ else _)=_
    rw [e1,An (by rfl)]
    rfl
end Go.Proofs.YtifbomimeodibaaGreat
namespace Go.Proofs.YtifbomimeodibaaGreat
open Go Go.RowKit Go.Eng
set_option maxRecDepth 10000
set_option linter.unusedVariables false
set_option linter.unusedSimpArgs false
noncomputable def cap (x:List volume_Item×Int×Int):List volume_Item×Int×Int:=if x.1.length>1000 then ([],0,9) else x
theorem A4h (x:List volume_Item×Int×Int):Eu x.1 x.2.1 x.2.2=some (cap x):=by
 unfold Eu cap
 by_cases h:x.1.length>1000
 ·rw [Ap (dT (by omega)),if_pos h]
 ·rw [An (dF (by omega)),if_neg h]
theorem A1y {F:Nat} (hF:200000≤F) {ps:List (List Int)} (hz:∀q∈ps,Nz q) (hl:4+(Br ps).length<F) (hl2:4+(Br ps).length≤16777216) (hn:ps.length≤1000000) :
  Em F (RVF1++Br ps)=some (cap (rdF (4+(Br ps).length:Nat) 4 ps)):=by
 have hlen:(RVF1++Br ps).length=4+(Br ps).length:=by rw [List.length_append];rfl
 have hj:=Ts ps
 rw [Em,An (dF (by omega)),show ([82,86,70,49]:List Int)=RVF1 from rfl,A0f F _ (A1g hz),sb]
 obtain ⟨tg,h1,h2⟩:=A0h hF (RVF1++Br ps) (by omega) (by omega) ((RVF1++Br ps).length:Nat) ps 4 [] (by decide) (by omega) hz (by simp;omega)
 have hfin:((G1 F (RVF1++Br ps) (Hq F (RVF1++Br ps)) (([]:List volume_Item),(((RVF1++Br ps).length:Nat):Int),0,0)).bind fun r410 =>
   bif r410.2 then (Eu r410.1.1 r410.1.2.1 r410.1.2.2.1) else (bif (r410.1.2.2.2==3) then (Eu r410.1.1 r410.1.2.1 r410.1.2.2.1) else (none)))=some (cap (rdF (4+(Br ps).length:Nat) 4 ps)):=by
  rw [A0e F _ RVF1_nz hz (by omega) (by omega),show ((RVF1.length:Nat):Int)=4 from rfl,h1,sb]
  have hk:Eu ([]++(rdF ((RVF1++Br ps).length:Nat) 4 ps).1) (rdF ((RVF1++Br ps).length:Nat) 4 ps).2.1 (rdF ((RVF1++Br ps).length:Nat) 4 ps).2.2=some (cap (rdF (4+(Br ps).length:Nat) 4 ps)):=by
   rw [hlen,List.nil_append];exact A4h _
  rcases h2 with rfl|rfl
  ·exact hk
  ·exact hk
 cases ps with
 | nil =>
  rw [gdF (by rfl),sb,An (by rfl)]
  exact hfin
 | cons p ps =>
  have hg:(C5 (RVF1++Br (p::ps)) 4)=some 0:=by rw [Dh];rfl
  rw [gdT (by rw [dT (show (((RVF1++Br (p::ps)).length:Nat):Int)>4 by rw [hlen,Dh];simp;omega)];rfl),hg,sb,An (by cases decide ((((RVF1++Br (p::ps)).length:Nat):Int)>4)<;>rfl)]
  exact hfin
theorem A2w {b p:List Int} {ps:List (List Int)} (hb:b=p++Br ps) (hp:Nz p) (h4:4≤b.length) (ht:b.take 4=RVF1) (h0:∀x,b[4]? = some x→x=0):p=RVF1:=by
 have hnz:∀i (x:Int),i<4→b[i]? = some x→x≠0:=by
  intro i x hi hx e
  have:(b.take 4)[i]? = some x:=by rw [List.getElem?_take,if_pos hi];exact hx
  rw [ht] at this
  have hm:=RVF1_nz x (List.mem_of_getElem? this)
  omega
 have hlen:p.length=4:=by
  rcases Nat.lt_trichotomy p.length 4 with h|h|h
  ·exfalso
   cases ps with
   | nil=>rw [hb] at h4;simp [Br] at h4;omega
   | cons q qs =>
    refine hnz p.length 0 h ?_ rfl
    rw [hb,Dh,List.getElem?_append_right (Nat.le_refl _),Nat.sub_self];rfl
  ·exact h
  ·exfalso
   have hx:=hp p[4] (List.getElem_mem h)
   have:=h0 p[4] (by rw [hb,List.getElem?_append_left h,List.getElem?_eq_getElem h])
   omega
 rw [←ht,hb,←hlen,List.take_left]
theorem A2y (F:Nat) (b:List Int) (hb:By b):Fw F b RVF1=some (decide (4≤b.length∧b.take 4=RVF1)):=by
 unfold Fw
 by_cases h:4≤b.length
 ·rw [Ap (dT (by show ((b.length:Nat):Int)≥((4:Nat):Int);omega)),Nb 4 rfl (by rfl) h,bEq (fun x hx=>hb x (List.mem_of_mem_take hx)) RVF1_nz.by]
  congr 1
  rw [decide_eq_decide]
  exact ⟨fun e=>⟨h,e⟩,fun e=>e.2⟩
 ·rw [An (dF (by show ¬((b.length:Nat):Int)≥((4:Nat):Int);omega)),dF (fun e=>h e.1)]
theorem A1x {F:Nat} {b p:List Int} {ps:List (List Int)} (hB:By b) (hb:b=p++Br ps) (hp:Nz p) (hl:b.length≤16777216) (hne:p≠RVF1):Em F b=some ([],0,7):=by
 rw [Em,An (dF (by omega)),show ([82,86,70,49]:List Int)=RVF1 from rfl,A2y F b hB,sb]
 by_cases h:4≤b.length∧b.take 4=RVF1
 ·rw [dT h]
  by_cases h5:4<b.length
  ·rw [dT (show ((b.length:Nat):Int)>4 by omega),gdT (by rfl),Fk 4 b[4] (by rfl) (List.getElem?_eq_getElem h5)]
   by_cases h6:b[4]=0
   ·exact absurd (A2w hb hp h.1 h.2 (fun x hx=>by rw [List.getElem?_eq_getElem h5] at hx;cases hx;exact h6)) hne
   ·rw [Ap]
    show (bif false then true else (bif true then (b[4] != 0) else false))=true
    simp [h6]
  ·exact absurd (A2w hb hp h.1 h.2 (fun x hx=>by rw [List.getElem?_eq_none (by omega)] at hx;cases hx)) hne
 ·rw [dF h,gdF (by cases decide (((b.length:Nat):Int)>4)<;>rfl),sb,Ap (by rfl)]
theorem A4m (b pre p rest:List Int) (hb:b=pre++(p++rest)) (hp:Nz p) (hr:rest=[]∨∃l,rest=0::l) (h9:b.length≤1000000000):∀(m i:Nat),i≤p.length→p.length-i<m→K9 b m ((pre.length+i:Nat):Int)=some ((pre.length+p.length:Nat):Int):=by
 have hlen:b.length=pre.length+(p.length+rest.length):=by rw [hb];simp
 intro m
 induction m with
 | zero=>intro i _ h;omega
 | succ m ih =>
  intro i hi h
  rw [K9,Mx]
  by_cases he:i<p.length
  ·have hg:b[pre.length+i]? = some p[i]:=by
    rw [hb,List.getElem?_append_right (by omega),show pre.length+i-pre.length=i by omega,List.getElem?_append_left he,List.getElem?_eq_getElem he]
   have hx:=hp p[i] (List.getElem_mem he)
   rw [dT (show ((pre.length+i:Nat):Int)<((b.length:Nat):Int) by omega),gdT (by rfl),Fk (pre.length+i) p[i] rfl hg,Ap (by show (bif true then (p[i] != 0) else false)=true;simp;omega),ckb (by omega),show (((pre.length+i:Nat):Int)+1)=((pre.length+(i+1):Nat):Int) by omega]
   exact ih (i+1) (by omega) (by omega)
  ·obtain rfl:i=p.length:=by omega
   rcases hr with hr|⟨l,hr⟩
   ·have:rest.length=0:=by rw [hr];rfl
    rw [dF (by omega),gdF (by rfl),sb,An (by rfl)];rfl
   ·have hg:b[pre.length+p.length]? = some 0:=by
     rw [hb,hr,List.getElem?_append_right (by omega),show pre.length+p.length-pre.length=p.length by omega,List.getElem?_append_right (Nat.le_refl _),Nat.sub_self];rfl
    have:rest.length=l.length+1:=by rw [hr];rfl
    rw [dT (by omega),gdT (by rfl),Fk (pre.length+p.length) 0 rfl hg,An (by rfl)];rfl
theorem Xm (ps:List (List Int)):Br ps=[]∨∃l,Br ps=0::l:=by
 cases ps with
 | nil=>exact .inl rfl
 | cons p ps=>exact .inr ⟨_,Dh p ps⟩
theorem Z2 {F:Nat} (hF:200000≤F) (b:List Int) (hbF:b.length<F) (h9:b.length≤1000000000):∀(ps:List (List Int)) (pre:List Int) (m:Nat) (acc:List ref12_Item),b=pre++Br ps→(∀q∈ps,Nz q)→ps.length<m→acc.length+ps.length≤1000000000 →
  Fh F b m acc pre.length 0=Ha (acc++(rdF b.length pre.length ps).1.map toR) (rdF b.length pre.length ps).2.1 (rdF b.length pre.length ps).2.2:=by
 intro ps
 induction ps with
 | nil =>
  intro pre m acc hb hz hm ha
  obtain ⟨m,rfl⟩:∃k,m=k+1:=⟨m-1,by omega⟩
  have hlen:b.length=pre.length:=by rw [hb];simp [Br]
  rw [Fh,Jh,dF (by omega),An (by rfl),rdF,hlen]
  simp
 | cons p ps ih =>
  intro pre m acc hb hz hm ha
  obtain ⟨m,rfl⟩:∃k,m=k+1:=⟨m-1,by omega⟩
  simp only [List.length_cons] at hm ha
  have hp:=hz p (by simp)
  have hb2:b=(pre++[0])++(p++Br ps):=by rw [hb,Dh];simp
  have hlen:b.length=pre.length+1+(p.length+(Br ps).length):=by rw [hb2];simp;omega
  have hend:=A4m b (pre++[0]) p (Br ps) hb2 hp (Xm ps) h9 F 0 (by omega) (by omega)
  have hpl:(pre++[0]).length=pre.length+1:=by simp
  rw [hpl,Nat.add_zero] at hend
  have hcut:((b.drop (pre.length+1)).take (pre.length+1+p.length-(pre.length+1)))=p:=by
   rw [hb2,←hpl,List.drop_left,show (pre++[(0:Int)]).length+p.length-(pre++[(0:Int)]).length=p.length by omega,List.take_left]
  rw [Fh,Jh,dT (show ((pre.length:Nat):Int)<((b.length:Nat):Int) by omega),Ap (by rfl),ckb (by omega),Rt,show ((pre.length:Nat):Int)+1=((pre.length+1:Nat):Int) by omega,hend,sb,ckb (by omega),Zw (pre.length+1) (pre.length+1+p.length) rfl rfl (by omega),hcut,A0q hF hp.by (by omega) (by omega),sb,rdF]
  by_cases h:(unS p).2=0
  ·have htk:tkS p=(toR (Fl (unS p).1),0):=by unfold tkS;rw [if_pos h]
   rw [htk,if_pos h,An (by rfl),Gf,Ap (by rfl),Hl (by simp;omega) (by decide)]
   have:=ih (pre++0::p) m (acc++[toR (Fl (unS p).1)]) (by rw [hb,Dh];simp) (fun q hq=>hz q (by simp [hq])) (by omega) (by simp;omega)
   have hl2:(pre++0::p).length=pre.length+1+p.length:=by simp;omega
   rw [hl2] at this
   refine Eq.trans this ?_
   rw [show ((pre.length+1+p.length:Nat):Int)=(pre.length:Int)+1+p.length by omega]
   simp
  ·have htk:tkS p=(zR,(unS p).2):=by unfold tkS;rw [if_neg h]
   rw [htk,if_neg h]
   have hstop:∀e:Int,e≠0→Gf acc (pre.length:Nat) (Fh F b m) ((pre.length+1+p.length:Nat):Int) (zR,(unS p).2) e=Ha acc (pre.length:Nat) e:=by
    intro e he
    obtain ⟨m,rfl⟩:∃k,m=k+1:=⟨m-1,by omega⟩
    rw [Gf,An (by simp [he]),Fh,Jh,dT (show ((pre.length:Nat):Int)<((b.length:Nat):Int) by omega),An (by show (bif true then (e==0) else false)=false;simp [he])]
   have hlast:(((pre.length+1+p.length:Nat):Int)==((b.length:Nat):Int))=decide (ps=[]):=by
    cases ps with
    | nil=>simp [Br] at hlen;simp;omega
    | cons q qs=>rw [Dh] at hlen;simp at hlen;simp;omega
   have hne:((unS p).2 != 0)=true:=by simp [h]
   rw [hlast]
   show (bif (bif ((unS p).2 != 0) then decide (ps=[]) else false) then _ else _)=_
   rw [hne]
   by_cases hps:ps=[]
   ·rw [dT hps,Ap (by rfl),ckb (by omega),Zw (pre.length+1) (pre.length+1+p.length) rfl rfl (by omega),hcut,A2h (by omega) hp.by (by omega) (by omega),sb]
    cases ht:Vq p with
    | true=>rw [Ap rfl,hstop 16 (by decide),if_pos ⟨hps,rfl⟩];simp
    | false=>rw [An rfl,hstop _ h,if_neg (by simp)];simp
   ·rw [dF hps,An (by rfl),hstop _ h,if_neg (fun e=>hps e.1)];simp
def A1j (x:List volume_Item×Int×Int):List ref12_Item×Int×Int:=(x.1.map toR,x.2)
theorem A72 (x:List volume_Item×Int×Int):Ha (x.1.map toR) x.2.1 x.2.2=some (A1j (cap x)):=by
 unfold Ha cap A1j
 by_cases h:x.1.length>1000
 ·rw [Ap (dT (by simp;omega)),if_pos h];rfl
 ·rw [An (dF (by simp;omega)),if_neg h]
theorem A2d {F:Nat} (hF:200000≤F) {ps:List (List Int)} (hz:∀q∈ps,Nz q) (hl:4+(Br ps).length<F) (hl2:4+(Br ps).length≤16777216):Jw F (RVF1++Br ps)=some (A1j (cap (rdF (4+(Br ps).length:Nat) 4 ps))):=by
 have hlen:(RVF1++Br ps).length=4+(Br ps).length:=by rw [List.length_append];rfl
 have hj:=Ts ps
 have hloop:=Z2 hF (RVF1++Br ps) (by omega) (by omega) ps RVF1 F [] rfl hz (by omega) (by simp;omega)
 rw [hlen] at hloop
 have e4:((RVF1.length:Nat):Int)=4:=rfl
 rw [e4,List.nil_append,A72] at hloop
 rw [Jw,An (dF (by omega)),An (dF (by omega)),Nb 4 rfl (by rfl) (by omega)]
 have ht:(RVF1++Br ps).take 4=RVF1:=List.take_left' rfl
 have hq:sEq (bst RVF1) (⟨#[82,86,70,49]⟩:ByteArray)=true:=by decide
 rw [ht,hq]
 cases ps with
 | nil=>rw [gdF (by rfl),sb,An (by rfl)];exact hloop
 | cons p ps =>
  have hg:(C5 (RVF1++Br (p::ps)) 4)=some 0:=by rw [Dh];rfl
  rw [gdT (by rw [dT (show (((RVF1++Br (p::ps)).length:Nat):Int)>4 by rw [hlen,Dh];simp;omega)];rfl),hg,sb,An (by cases decide ((((RVF1++Br (p::ps)).length:Nat):Int)>4)<;>rfl)]
  exact hloop
theorem A0o {F:Nat} {b p:List Int} {ps:List (List Int)} (hB:By b) (hb:b=p++Br ps) (hp:Nz p) (hl:b.length≤16777216) (hne:p≠RVF1):Jw F b=some ([],0,7):=by
 rw [Jw,An (dF (by omega))]
 by_cases h4:4≤b.length
 ·rw [An (dF (by omega)),Nb 4 rfl (by rfl) h4]
  have hq:sEq (bst (b.take 4)) (⟨#[82,86,70,49]⟩:ByteArray)=decide (b.take 4=RVF1):=by
   have:=bEq (a:=b.take 4) (fun x hx=>hB x (List.mem_of_mem_take hx)) RVF1_nz.by
   exact this
  rw [hq]
  by_cases ht:b.take 4=RVF1
  ·rw [dT ht]
   by_cases h5:4<b.length
   ·rw [dT (show ((b.length:Nat):Int)>4 by omega),gdT (by rfl),Fk 4 b[4] (by rfl) (List.getElem?_eq_getElem h5)]
    by_cases h6:b[4]=0
    ·exact absurd (A2w hb hp h4 ht (fun x hx=>by rw [List.getElem?_eq_getElem h5] at hx;cases hx;exact h6)) hne
    ·rw [Ap]
     show (bif false then true else (bif true then (b[4] != 0) else false))=true
     simp [h6]
   ·exact absurd (A2w hb hp h4 ht (fun x hx=>by rw [List.getElem?_eq_none (by omega)] at hx;cases hx)) hne
  ·rw [dF ht,gdF (by cases decide (((b.length:Nat):Int)>4)<;>rfl),sb,Ap (by rfl)]
 ·rw [Ap (dT (by omega)),gdF (by cases decide (((b.length:Nat):Int)>4)<;>rfl),sb]
theorem A2r (x:List volume_Item×Int×Int):(cap x).1.length≤1000:=by
 unfold cap
 split
 ·simp
 ·omega
end Go.Proofs.YtifbomimeodibaaGreat
namespace Go.Proofs.YtifbomimeodibaaGreat
open Go Go.RowKit Go.Eng
set_option maxRecDepth 10000
set_option linter.unusedVariables false
set_option linter.unusedSimpArgs false
theorem A3u:∀(F k n:Nat),n<127 ^ (k+1)→k<F→k<10→n≤4611686018427387904→Ak F (n:Int)=some (F8 n):=by
 intro F
 induction F with
 | zero=>intro k n _ h;omega
 | succ F ih =>
  intro k n hn hk h10 h9
  rw [Ak,Ld]
  by_cases h:n<127
  ·rw [Ap (dT (by omega)),ckb (by omega),Ud (by omega),T8 h,show (1:Int)+(n:Int)=(n:Int)+1 by omega]
  ·have hm:=Nat.mod_lt n (show 0<127 by decide)
   obtain ⟨k,rfl⟩:∃j,k=j+1:=by
    cases k with
    | zero=>simp at hn;omega
    | succ j=>exact ⟨j,rfl⟩
   have hd:n/127<127 ^ (k+1):=by
    rw [Nat.pow_succ] at hn
    exact Nat.div_lt_of_lt_mul (by rw [Nat.mul_comm];exact hn)
   have hlen:=Xp k (n/127) hd
   rw [An (dF (by omega)),(tdm n).1,sb,ckb (by omega),(tdm n).2,ckb (by omega),ih k (n/127) hd (by omega) (by omega) (by omega),sb,Hl (by simp;omega) (by decide),Ud (by omega),Uv (n:=n) (by omega)]
   rfl
theorem G0 {F:Nat} (hF:20≤F) {x:Int} (h:okN x):Ak F x=some (F8 x.toNat):=by
 obtain ⟨h0,h1⟩:=h
 have e:x=((x.toNat:Nat):Int):=by omega
 have hp:(127:Nat) ^ (8+1)=8594754748609397887:=by decide
 have:=A3u F 8 x.toNat (by rw [hp];omega) (by omega) (by decide) (by omega)
 rw [←e] at this
 exact this
theorem Vs {F:Nat} (hF:20≤F) {x:Int} (h:okZ x):Da F x=some (F8 (zig x)):=by
 have hz:=Vv h
 obtain ⟨h0,h1⟩:=h
 rw [Da]
 unfold zig at hz ⊢
 by_cases hx:x<0
 ·rw [if_pos hx] at hz ⊢
  rw [Ap (dT hx),ckb (by omega),ckb (by omega)]
  have e:(((-2*x-1).toNat:Nat):Int)=-2*x-1:=by omega
  rw [e] at hz
  rw [G0 hF hz,sb]
 ·rw [if_neg hx] at hz ⊢
  rw [An (dF hx),ckb (by omega)]
  have e:(((2*x).toNat:Nat):Int)=2*x:=by omega
  rw [e] at hz
  rw [G0 hF hz,sb]
theorem Z0 {F:Nat} (hF:20≤F) {s:ByteArray} (h:s.size≤1000000):Jk F s=some (L2 s):=by
 have hk:okN ((s.size:Nat):Int):=⟨by omega,by omega⟩
 have h9:=D7 hk
 rw [Int.toNat_natCast] at h9
 have h2b:s2b s=some (sby s):=by unfold s2b;rw [if_pos (by omega)]
 have:=Lg s
 rw [Jk,G0 hF hk,sb,Int.toNat_natCast,h2b,sb,Hl (by omega) (by decide)]
 rfl
theorem Ql {F:Nat} (hF:20≤F) {s:api_Span} (h:okS s):Fz F s=some (K0 s):=by
 obtain ⟨h0,h1,h2⟩:=h
 have hz:okZ s.Lo:=⟨by omega,by omega⟩
 have hn:okN (s.Hi-s.Lo):=⟨by omega,by omega⟩
 have a1:=D7 (Vv hz)
 rw [Int.toNat_natCast] at a1
 have a2:=D7 hn
 rw [Fz,ckb (by omega),Vs hF hz,sb,G0 hF hn,sb,Hl (by omega) (by decide)]
 rfl
theorem A06 (ls:List (List Int)):∀(m i:Nat) (acc:List Int),ls.length-i<m→i≤ls.length→ls.length≤1000→acc.length+(ls.drop i).flatten.length≤1000000000000→Gv ls m acc i=some (acc++(ls.drop i).flatten):=by
 intro m
 induction m with
 | zero=>intro i acc h;omega
 | succ m ih =>
  intro i acc h hi hn ha
  rw [Gv,Kr]
  by_cases hb:i<ls.length
  ·rw [List.drop_eq_getElem_cons hb,List.flatten_cons,List.length_append] at ha
   rw [Ap (dT (by omega)),Fk i ls[i] rfl (List.getElem?_eq_getElem hb),Hl (by omega) (by decide),ckb (by omega),show ((i:Int)+1)=((i+1:Nat):Int) by omega]
   refine Eq.trans (ih (i+1) _ (by omega) (by omega) hn (by simp only [List.length_append];omega)) ?_
   rw [List.drop_eq_getElem_cons hb,List.flatten_cons,List.append_assoc]
  ·rw [An (dF (by omega)),Ks,List.drop_of_length_le (by omega)];simp
theorem Tf {F:Nat} {ls:List (List Int)} (hF:1000<F) (hn:ls.length≤1000) (ha:ls.flatten.length≤1000000000000):Ec F ls=some ls.flatten:=by
 rw [Ec,show (0:Int)=((0:Nat):Int) from rfl,A06 ls F 0 [] (by omega) (by omega) hn (by simpa using ha)]
 simp
theorem A3t {F:Nat} (hF:2000≤F) {x:api_Echo} (h:okE x):Lz F x=some (Kc x):=by
 obtain ⟨hk,hh,hs,h1,h2,h3,h4,h5,h6⟩:=h
 have l1:=Du h1
 have l2:=Du h2
 have l3:=Du h3
 have l4:=Du h4
 have l5:=Du h5
 have l6:=Du h6
 have lk:=D7 hk
 have lh:=D7 hh
 have ls:=D7 hs
 rw [Lz,G0 (by omega) hk,sb]
 unfold Kc
 by_cases hk1:x.Kind=1
 ·rw [Ap (by simp [hk1]),G0 (by omega) hh,sb,Hl (by omega) (by decide),if_pos hk1]
 ·rw [An (by simp [hk1]),Ql (by omega) h1,sb,Ql (by omega) h2,sb,Ql (by omega) h3,sb,G0 (by omega) hs,sb,Tf (by omega) (by simp) (by simp;omega),sb,Hl (by simp;omega) (by decide),if_neg hk1]
  by_cases hk3:x.Kind=3
  ·have e4:(⟨x.Steps.1.Lo,x.Steps.1.Hi⟩:api_Span)=x.Steps.1:=rfl
   have e5:(⟨x.Steps.2.Lo,x.Steps.2.Hi⟩:api_Span)=x.Steps.2:=rfl
   rw [Ap (by simp [hk3]),e4,e5,Ql (by omega) h4,sb,Ql (by omega) h5,sb,Ql (by omega) h6,sb,Tf (by omega) (by simp) (by simp;omega),sb,Hl (by simp;omega) (by decide),if_pos hk3]
   simp
  ·rw [An (by simp [hk3]),if_neg hk3]
   simp
theorem Yb (F:Nat) (p:List api_Span) (b:api_Span) (w:List Int) (i:Nat) (k2:Int→Int→List Int→Int→Option (List Int)) (hl:p.length≤1000000000) (hi:i≤p.length):∀(m j:Nat),j≤Dy b (p.drop i)→Dy b (p.drop i)-j<m →
  Hp F p b.Lo b.Hi w i k2 m j=Jz F p b.Lo b.Hi w i k2 (Dy b (p.drop i):Nat):=by
 intro m
 have hle:=Pe b (p.drop i)
 rw [List.length_drop] at hle
 induction m with
 | zero=>intro j _ h;omega
 | succ m ih =>
  intro j hj hm
  rw [Hp,Le,ckb (by omega)]
  by_cases hb:j<Dy b (p.drop i)
  ·have hx:=Ut hb
   rw [List.getElem?_drop] at hx
   rw [gdT (gdt (dT (by omega))),ckb (by omega),gdT (gdt (dT (by omega))),Fk (i+j) b (by omega) hx,Rw b b,Ap (x:=decide (b=b)) (dT (by omega)),Ap (dT rfl),ckb (by omega)]
   exact ih (j+1) (by omega) (by omega)
  ·have he:j=Dy b (p.drop i):=by omega
   subst he
   by_cases hc:i+Dy b (p.drop i)<p.length
   ·have hg:=List.getElem?_eq_getElem hc
    have hg2:(p.drop i)[Dy b (p.drop i)]? = some p[i+Dy b (p.drop i)]:=by rw [List.getElem?_drop];exact hg
    rw [gdT (gdt (dT (by omega))),ckb (by omega),gdT (gdt (dT (by omega))),Fk _ _ (by omega) hg,Rw _ b,Ap (x:=decide (p[i+Dy b (p.drop i)]=b)) (dT (by omega)),An (dF (Us hg2))]
   ·rw [gdF (gdf (dF (by omega))),sb,gdF (gdf (dF (by omega))),sb,An (An (dF (by omega)))]
theorem A0r (F:Nat) (hF:2000≤F) (p:List api_Span) (hlF:p.length<F) (hl9:p.length≤1000000000) (hok:∀x∈p,okS x):∀(m i:Nat) (b:api_Span) (w:List Int),p.length-i<m→i≤p.length→w.length+200*(p.length-i)≤999999900000 →
  Gi F p m b.Lo b.Hi w i=some (w++Kv K0 b 0 (p.drop i)):=by
 intro m
 induction m with
 | zero=>intro i b w h;omega
 | succ m ih =>
  intro i b w h hi hw
  rw [Gi,Jx]
  by_cases hb:i<p.length
  ·have hle:=Pe b (p.drop i)
   rw [List.length_drop] at hle
   have hk:okN ((Dy b (p.drop i):Nat):Int):=⟨by omega,by omega⟩
   have h9:=D7 hk
   rw [Int.toNat_natCast] at h9
   have hne:p.drop i≠[]:=by intro e;have:=congrArg List.length e;simp at this;omega
   rw [Ap (dT (by omega)),show (0:Int)=((0:Nat):Int) from rfl,Yb F p b w i _ hl9 hi F 0 (by omega) (by omega),Jz,G0 (by omega) hk,sb,Int.toNat_natCast,Hl (by omega) (by decide),ckb (by omega),Ru K0 b 0 (p.drop i) (.inr hne)]
   cases hd:(p.drop i).drop (Dy b (p.drop i)) with
   | nil =>
    have hlen:i+Dy b (p.drop i)=p.length:=by
     have:=congrArg List.length hd
     rw [List.length_drop,List.length_drop] at this
     simp at this
     omega
    obtain ⟨m,rfl⟩:∃k,m=k+1:=⟨m-1,by omega⟩
    rw [An (dF (by omega)),Gi,Jx,An (dF (by omega)),Jy]
    simp
   | cons y r =>
    obtain ⟨hg,hn,hr,hrl,hy⟩:=Rj hd
    rw [List.length_drop] at hn hrl
    rw [List.getElem?_drop] at hg
    have hy2:y∈p:=List.mem_of_mem_drop hy
    have hyl:=Du (hok y hy2)
    rw [Ap (dT (by omega)),Fk (i+Dy b (p.drop i)) y (by omega) hg]
    rw [show (Fz F y)=some (K0 y) from Ql (by omega) (hok y hy2),sb,Hl (by simp;omega) (by decide),Fk (i+Dy b (p.drop i)) y (by omega) hg,ckb (by omega),show ((i:Int)+((Dy b (p.drop i):Nat):Int)+1)=((i+Dy b (p.drop i)+1:Nat):Int) by omega]
    have e2:r=p.drop (i+Dy b (p.drop i)+1):=by rw [hr,List.drop_drop];congr 1
    rw [e2]
    refine Eq.trans (ih (i+Dy b (p.drop i)+1) y _ (by omega) (by omega) (by simp;omega)) ?_
    simp
  ·rw [An (dF (by omega)),Jy,List.drop_of_length_le (by omega)];simp [Kv]
theorem A0n {F:Nat} (hF:2000≤F) {p:List api_Span} (hlF:p.length<F) (hl9:p.length≤1000000000) (hok:∀x∈p,okS x):L0 F p=some (Kv K0 ⟨0,0⟩ 0 p):=by
 have:L0 F p=some ([]++Kv K0 ⟨0,0⟩ 0 (p.drop 0)):=A0r F hF p hlF hl9 hok F 0 ⟨0,0⟩ [] (by omega) (by omega) (by simp;omega)
 simpa using this
theorem X7 (F:Nat) (p:List api_Echo) (b:api_Echo) (w:List Int) (i:Nat) (k2:Int→Int→Int→Int→Int→Int→Int→Int→Int→Int→Int→Int→Int→Int→List Int→Int→Option (List Int)) (hl:p.length≤1000000000) (hi:i≤p.length):∀(m j:Nat),j≤Dy b (p.drop i)→Dy b (p.drop i)-j<m →
  Gu F p b.Kind b.Power.Lo b.Match.Lo b.Match.Hi b.Turn.Lo b.Turn.Hi b.Power.Hi b.Steps.1.Lo b.Steps.1.Hi b.Steps.2.Lo b.Steps.2.Hi b.Spread b.Ratio.Lo b.Ratio.Hi w i k2 m j=Jc F p b.Kind b.Power.Lo b.Match.Lo b.Match.Hi b.Turn.Lo b.Turn.Hi b.Power.Hi b.Steps.1.Lo b.Steps.1.Hi b.Steps.2.Lo b.Steps.2.Hi b.Spread b.Ratio.Lo b.Ratio.Hi w i k2 (Dy b (p.drop i):Nat):=by
 intro m
 have hle:=Pe b (p.drop i)
 rw [List.length_drop] at hle
 induction m with
 | zero=>intro j _ h;omega
 | succ m ih =>
  intro j hj hm
  rw [Gu,Kq,ckb (by omega)]
  by_cases hb:j<Dy b (p.drop i)
  ·have hx:=Ut hb
   rw [List.getElem?_drop] at hx
   rw [gdT (gdt (dT (by omega))),ckb (by omega),gdT (gdt (dT (by omega))),Fk (i+j) b (by omega) hx,Rl b b,Ap (x:=decide (b=b)) (dT (by omega)),Ap (dT rfl),ckb (by omega)]
   exact ih (j+1) (by omega) (by omega)
  ·have he:j=Dy b (p.drop i):=by omega
   subst he
   by_cases hc:i+Dy b (p.drop i)<p.length
   ·have hg:=List.getElem?_eq_getElem hc
    have hg2:(p.drop i)[Dy b (p.drop i)]? = some p[i+Dy b (p.drop i)]:=by rw [List.getElem?_drop];exact hg
    rw [gdT (gdt (dT (by omega))),ckb (by omega),gdT (gdt (dT (by omega))),Fk _ _ (by omega) hg,Rl _ b,Ap (x:=decide (p[i+Dy b (p.drop i)]=b)) (dT (by omega)),An (dF (Us hg2))]
   ·rw [gdF (gdf (dF (by omega))),sb,gdF (gdf (dF (by omega))),sb,An (An (dF (by omega)))]
theorem Z4 (F:Nat) (hF:2000≤F) (p:List api_Echo) (hlF:p.length<F) (hl9:p.length≤1000000000) (hok:∀x∈p,okE x):∀(m i:Nat) (b:api_Echo) (w:List Int),p.length-i<m→i≤p.length→w.length+200*(p.length-i)≤999999900000 →
  Fy F p m b.Kind b.Power.Lo b.Match.Lo b.Match.Hi b.Turn.Lo b.Turn.Hi b.Power.Hi b.Steps.1.Lo b.Steps.1.Hi b.Steps.2.Lo b.Steps.2.Hi b.Spread b.Ratio.Lo b.Ratio.Hi w i=some (w++Kv Kc b 0 (p.drop i)):=by
 intro m
 induction m with
 | zero=>intro i b w h;omega
 | succ m ih =>
  intro i b w h hi hw
  rw [Fy,Ja]
  by_cases hb:i<p.length
  ·have hle:=Pe b (p.drop i)
   rw [List.length_drop] at hle
   have hk:okN ((Dy b (p.drop i):Nat):Int):=⟨by omega,by omega⟩
   have h9:=D7 hk
   rw [Int.toNat_natCast] at h9
   have hne:p.drop i≠[]:=by intro e;have:=congrArg List.length e;simp at this;omega
   rw [Ap (dT (by omega)),show (0:Int)=((0:Nat):Int) from rfl,X7 F p b w i _ hl9 hi F 0 (by omega) (by omega),Jc,G0 (by omega) hk,sb,Int.toNat_natCast,Hl (by omega) (by decide),ckb (by omega),Ru Kc b 0 (p.drop i) (.inr hne)]
   cases hd:(p.drop i).drop (Dy b (p.drop i)) with
   | nil =>
    have hlen:i+Dy b (p.drop i)=p.length:=by
     have:=congrArg List.length hd
     rw [List.length_drop,List.length_drop] at this
     simp at this
     omega
    obtain ⟨m,rfl⟩:∃k,m=k+1:=⟨m-1,by omega⟩
    rw [An (dF (by omega)),Fy,Ja,An (dF (by omega)),Jb]
    simp
   | cons y r =>
    obtain ⟨hg,hn,hr,hrl,hy⟩:=Rj hd
    rw [List.length_drop] at hn hrl
    rw [List.getElem?_drop] at hg
    have hy2:y∈p:=List.mem_of_mem_drop hy
    have hyl:=Tl (hok y hy2)
    rw [Ap (dT (by omega)),Fk (i+Dy b (p.drop i)) y (by omega) hg]
    rw [show (Lz F (api_Echo.mk y.Kind y.Power ((api_Span.mk y.Steps.1.Lo y.Steps.1.Hi),(api_Span.mk y.Steps.2.Lo y.Steps.2.Hi)) y.Spread y.Ratio y.Match y.Turn))=some (Kc y) from A3t (by omega) (hok y hy2),sb,Hl (by simp;omega) (by decide),Fk (i+Dy b (p.drop i)) y (by omega) hg,ckb (by omega),show ((i:Int)+((Dy b (p.drop i):Nat):Int)+1)=((i+Dy b (p.drop i)+1:Nat):Int) by omega]
    have e2:r=p.drop (i+Dy b (p.drop i)+1):=by rw [hr,List.drop_drop];congr 1
    rw [e2]
    refine Eq.trans (ih (i+Dy b (p.drop i)+1) y _ (by omega) (by omega) (by simp;omega)) ?_
    simp
  ·rw [An (dF (by omega)),Jb,List.drop_of_length_le (by omega)];simp [Kv]
theorem Z1 {F:Nat} (hF:2000≤F) {p:List api_Echo} (hlF:p.length<F) (hl9:p.length≤1000000000) (hok:∀x∈p,okE x):K8 F p=some (Kv Kc e0 0 p):=by
 have:K8 F p=some ([]++Kv Kc e0 0 (p.drop 0)):=Z4 F hF p hlF hl9 hok F 0 e0 [] (by omega) (by omega) (by simp;omega)
 simpa using this
end Go.Proofs.YtifbomimeodibaaGreat
namespace Go.Proofs.YtifbomimeodibaaGreat
open Go Go.RowKit Go.Eng
set_option maxRecDepth 10000
set_option linter.unusedVariables false
set_option linter.unusedSimpArgs false
theorem A3s (F:Nat) (x:ref12_Item) (h9:x.Sweep.Rays.length≤1000) (hfl:x.Sweep.Rays.flatten.length≤100000):∀(m i:Nat) (acc:List api_Echo),x.Sweep.Rays.length-i<m→i≤x.Sweep.Rays.length→acc++(x.Sweep.Rays.drop i).flatten=x.Sweep.Rays.flatten →
  Hb F x m acc i=Jj F x x.Sweep.Rays.flatten:=by
 intro m
 induction m with
 | zero=>intro i acc h;omega
 | succ m ih =>
  intro i acc h hi ha
  rw [Hb,Mc]
  have hal:=congrArg List.length ha
  rw [List.length_append] at hal
  by_cases hb:i<x.Sweep.Rays.length
  ·have hd:=List.drop_eq_getElem_cons hb
   rw [hd,List.flatten_cons,List.length_append] at hal
   rw [Ap (dT (by omega)),Fk i x.Sweep.Rays[i] rfl (List.getElem?_eq_getElem hb),Hl (by omega) (by decide),ckb (by omega),show ((i:Int)+1)=((i+1:Nat):Int) by omega]
   exact ih (i+1) _ (by omega) (by omega) (by rw [←ha,hd,List.flatten_cons,List.append_assoc])
  ·rw [An (dF (by omega))]
   rw [List.drop_of_length_le (by omega)] at ha
   simp at ha
   rw [ha]
theorem A2a {F:Nat} (hF:200000≤F) {t:volume_thing} (h:okT t):Ku F (toR (Fl t))=some (E0 t):=by
 have hlen:=Qk h
 cases t with
 | nil_=>exact h.elim
 | ic156 s =>
  obtain ⟨⟨a1,a2,a3,a4,a5,a6,a7,a8⟩,h2,h3,h4,h5,h6⟩:=(show Rs s.Sweep from h)
  have e:([F8 (1:Int).toNat,L2 s.Sweep.Site.Name,F8 (zig s.Sweep.Site.X),F8 (zig s.Sweep.Site.Y),F8 s.Sweep.Site.Z.toNat,F8 s.Sweep.Site.Rose.toNat,F8 s.Sweep.Site.Gates.toNat,F8 s.Sweep.Site.Step.toNat,F8 s.Sweep.Site.Width.toNat,F8 s.Sweep.Tilt.toNat,F8 s.Sweep.Time.toNat,Kv Kc e0 0 s.Sweep.Rays.flatten]:List (List Int)).flatten=E0 (.ic156 s):=by
   show _=Sr s.Sweep
   simp [Sr,H4,T4,List.append_assoc]
  have hloop:=A3s F (toR (Fl (.ic156 s))) h4 h5 F 0 [] (by show s.Sweep.Rays.length-0<F;omega) (Nat.zero_le _) (by simp)
  rw [Ku]
  show (bif ((1:Int)==1) then Hb F (toR (Fl (.ic156 s))) F [] ((0:Nat):Int) else _)=_
  rw [Ap (by rfl),hloop]
  show Jj F (toR (Fl (.ic156 s))) s.Sweep.Rays.flatten=_
  rw [Jj]
  show ((Ak F 1).bind fun y486=>(Jk F s.Sweep.Site.Name).bind fun y490=>(Da F s.Sweep.Site.X).bind fun y494=>(Da F s.Sweep.Site.Y).bind fun y498=>(Ak F s.Sweep.Site.Z).bind fun y502=>(Ak F s.Sweep.Site.Rose).bind fun y506=>(Ak F s.Sweep.Site.Gates).bind fun y510=>(Ak F s.Sweep.Site.Step).bind fun y514=>(Ak F s.Sweep.Site.Width).bind fun y518=>(Ak F s.Sweep.Tilt).bind fun y522=>(Ak F s.Sweep.Time).bind fun y526=>(K8 F s.Sweep.Rays.flatten).bind fun y597=>(Ec F ([y486,y490,y494,y498,y502,y506,y510,y514,y518,y522,y526,y597])).bind fun y651=>some y651)=_
  rw [G0 (by omega) ⟨by decide,by decide⟩,sb,Z0 (by omega) (by omega),sb,Vs (by omega) a2,sb,Vs (by omega) a3,sb,G0 (by omega) a4,sb,G0 (by omega) a5,sb,G0 (by omega) a6,sb,G0 (by omega) a7,sb,G0 (by omega) a8,sb,G0 (by omega) h2,sb,G0 (by omega) h3,sb,
   Z1 (by omega) (by omega) (by omega) (fun x hx=>by obtain ⟨r,hr,hx⟩:=List.mem_flatten.1 hx;exact h6 r hr x hx),sb,Tf (by omega) (by simp) (by rw [e];omega),sb,e]
 | ic158 f =>
  obtain ⟨b1,b2,b3,b4,b5,b6,b7,b8,b9⟩:=(show Tb f from h)
  have e:([F8 (2:Int).toNat,L2 f.key,F8 f.time.toNat,F8 (zig f.Field.Grid.X),F8 (zig f.Field.Grid.Y),F8 f.Field.Grid.Size.toNat,F8 f.Field.Grid.Wide.toNat,F8 f.Field.Grid.High.toNat,Kv K0 ⟨0,0⟩ 0 f.Field.Vals]:List (List Int)).flatten=E0 (.ic158 f):=by
   show _=Sb f
   simp [Sb,H4,T4,List.append_assoc]
  rw [Ku]
  show (bif ((2:Int)==1) then _ else (bif ((2:Int)==2) then ((Ak F 2).bind fun y699=>(Jk F f.key).bind fun y703=>(Ak F f.time).bind fun y707=>(Da F f.Field.Grid.X).bind fun y711=>(Da F f.Field.Grid.Y).bind fun y715=>(Ak F f.Field.Grid.Size).bind fun y719=>(Ak F f.Field.Grid.Wide).bind fun y723=>(Ak F f.Field.Grid.High).bind fun y727=>(L0 F f.Field.Vals).bind fun y780=>(Ec F ([y699,y703,y707,y711,y715,y719,y723,y727,y780])).bind fun y822=>some y822) else _))=_
  rw [An (by rfl),Ap (by rfl),G0 (by omega) ⟨by decide,by decide⟩,sb,Z0 (by omega) (by omega),sb,G0 (by omega) b2,sb,Vs (by omega) b3,sb,Vs (by omega) b4,sb,G0 (by omega) b5,sb,G0 (by omega) b6,sb,G0 (by omega) b7,sb,
   A0n (by omega) (by omega) (by omega) b9,sb,Tf (by omega) (by simp) (by rw [e];omega),sb,e]
 | ic160 n =>
  obtain ⟨c1,c2⟩:=(show Wx n from h)
  have e:([F8 (3:Int).toNat,F8 n.time.toNat,L2 n.text]:List (List Int)).flatten=E0 (.ic160 n):=by
   show _=Vd n
   simp [Vd,H4,List.append_assoc]
  rw [Ku]
  show (bif ((3:Int)==1) then _ else (bif ((3:Int)==2) then _ else Ki F (toR (Fl (.ic160 n)))))=_
  rw [An (by rfl),An (by rfl),Ki]
  show ((Ak F 3).bind fun y396=>(Ak F n.time).bind fun y400=>(Jk F n.text).bind fun y417=>(Ec F ([y396,y400,y417])).bind fun y435=>some y435)=_
  rw [G0 (by omega) ⟨by decide,by decide⟩,sb,G0 (by omega) c1,sb,Z0 (by omega) (by omega),sb,Tf (by omega) (by simp) (by rw [e];omega),sb,e]
theorem Wn {F:Nat} (hF:200000≤F) {t:volume_thing} (h:okT t) (hl:(E0 t).length+100≤F):Hu F (toR (Fl t))=some (R6 t):=by
 have hlen:=Qk h
 have hk:okN (((E0 t).length:Nat):Int):=⟨by omega,by omega⟩
 have h9:=D7 hk
 rw [Int.toNat_natCast] at h9
 have hpl:(Pn (E0 t)).length=(F8 (E0 t).length).length+(E0 t).length:=by unfold Pn;rw [List.length_append]
 have hby:By (Pn (E0 t)):=(Ww _).app (Wm t)
 rw [Hu,A2a hF h,sb,G0 (by omega) hk,sb,Int.toNat_natCast,Hl (by omega) (by decide)]
 show (M3 F (Pn (E0 t))).bind (fun y21=>(apd 1 (Pn (E0 t)) y21).bind fun l24=>some l24)=_
 rw [Zq (by omega) hby (by omega) (by omega),sb,Hl (by rw [Te];omega) (by decide)]
 rfl
theorem nob {a b:Bool} (h:(bif a then true else b)=false):a=false∧b=false:=by cases a<;>cases b<;>simp_all
theorem A6p {a b:Bool} (h:(!(bif a then b else false))=false):a=true∧b=true:=by cases a<;>cases b<;>simp_all
theorem A4c {a b:Bool} (h:(bif a then b else false)=true):a=true∧b=true:=by cases a<;>cases b<;>simp_all
theorem A4s {c:Bool} {y:volume_thing} (h:(bif c then volume_thing.nil_ else y)≠.nil_):c=false∧(bif c then volume_thing.nil_ else y)=y:=by
 cases c with
 | true=>exact absurd rfl h
 | false=>exact ⟨rfl,rfl⟩
theorem A2o {f:api_Field} (h:(!(bif (((f.Grid.X:Int)==0)&&(((f.Grid.Y:Int)==0)&&(((f.Grid.Size:Int)==0)&&(((f.Grid.Wide:Int)==0)&&(((f.Grid.High:Int)==0)&&true))))) then (((f.Vals.length:Nat):Int)==0) else false))=false):f=⟨⟨0,0,0,0,0⟩,[]⟩:=by
 obtain ⟨h1,h2⟩:=A6p h
 have:=A2x f.Grid ⟨0,0,0,0,0⟩
 rw [show (((f.Grid.X:Int)==0)&&(((f.Grid.Y:Int)==0)&&(((f.Grid.Size:Int)==0)&&(((f.Grid.Wide:Int)==0)&&(((f.Grid.High:Int)==0)&&true)))))=decide (f.Grid=⟨0,0,0,0,0⟩) from this] at h1
 have h3:f.Vals=[]:=List.eq_nil_of_length_eq_zero (by simpa using h2)
 cases f
 simp at h1 h3
 rw [h1,h3]
theorem A2p {s:api_Sweep} (h:(!(bif (bif (bif ((s.Site.Name==ByteArray.empty)&&(((s.Site.X:Int)==0)&&(((s.Site.Y:Int)==0)&&(((s.Site.Z:Int)==0)&&(((s.Site.Rose:Int)==0)&&(((s.Site.Gates:Int)==0)&&(((s.Site.Step:Int)==0)&&(((s.Site.Width:Int)==0)&&true)))))))) then (s.Tilt==0) else false) then (s.Time==0) else false) then (((s.Rays.length:Nat):Int)==0) else false))=false):s=⟨⟨ByteArray.empty,0,0,0,0,0,0,0⟩,0,0,[]⟩:=by
 obtain ⟨h1,h2⟩:=A6p h
 obtain ⟨h1,h3⟩:=A4c h1
 obtain ⟨h1,h4⟩:=A4c h1
 have:=A3m s.Site ⟨ByteArray.empty,0,0,0,0,0,0,0⟩
 rw [show ((s.Site.Name==ByteArray.empty)&&(((s.Site.X:Int)==0)&&(((s.Site.Y:Int)==0)&&(((s.Site.Z:Int)==0)&&(((s.Site.Rose:Int)==0)&&(((s.Site.Gates:Int)==0)&&(((s.Site.Step:Int)==0)&&(((s.Site.Width:Int)==0)&&true))))))))=decide (s.Site=⟨ByteArray.empty,0,0,0,0,0,0,0⟩) from this] at h1
 have h5:s.Rays=[]:=List.eq_nil_of_length_eq_zero (by simpa using h2)
 cases s
 simp at h1 h3 h4 h5
 rw [h1,h3,h4,h5]
theorem A51 {x:volume_Item} (h:Dd x≠.nil_):x=Fl (Dd x):=by
 rw [Dd] at h ⊢
 have eE:(⟨#[]⟩:ByteArray)=ByteArray.empty:=rfl
 by_cases k1:x.Kind=1
 ·rw [Ap (by simp [k1])] at h ⊢
  obtain ⟨hc,he⟩:=A4s h
  rw [he]
  obtain ⟨hc,h5⟩:=nob hc
  obtain ⟨hc,h4⟩:=nob hc
  obtain ⟨hc,h3⟩:=nob hc
  obtain ⟨h1,h2⟩:=nob hc
  have n1:x.Name=ByteArray.empty:=Qi.1 (by have h1:(!sEq x.Name ByteArray.empty)=false:=h1;simpa using h1)
  have n3:x.Text=ByteArray.empty:=Qi.1 (by have h3:(!sEq x.Text ByteArray.empty)=false:=h3;simpa using h3)
  have n2:x.Time=0:=by have:(x.Time != 0)=false:=h2;simpa using this
  have n5:=A2o h5
  cases x
  simp at k1 n1 n2 n3 n5
  subst k1 n1 n2 n3 n5
  rfl
 ·rw [An (by simp [k1])] at h ⊢
  by_cases k2:x.Kind=2
  ·rw [Ap (by simp [k2])] at h ⊢
   obtain ⟨hc,he⟩:=A4s h
   rw [he]
   obtain ⟨hc,h5⟩:=nob hc
   obtain ⟨hc,h4⟩:=nob hc
   obtain ⟨hc,h3⟩:=nob hc
   have n3:x.Text=ByteArray.empty:=Qi.1 (by have h3:(!sEq x.Text ByteArray.empty)=false:=h3;simpa using h3)
   have n4:=A2p h4
   cases x
   simp at k2 n3 n4
   subst k2 n3 n4
   rfl
  ·rw [An (by simp [k2])] at h ⊢
   by_cases k3:x.Kind=3
   ·rw [Ap (by simp [k3])] at h ⊢
    obtain ⟨hc,he⟩:=A4s h
    rw [he]
    obtain ⟨hc,h5⟩:=nob hc
    obtain ⟨hc,h4⟩:=nob hc
    obtain ⟨hc,h3⟩:=nob hc
    obtain ⟨h1,h2⟩:=nob hc
    have n1:x.Name=ByteArray.empty:=Qi.1 (by have h1:(!sEq x.Name ByteArray.empty)=false:=h1;simpa using h1)
    have n4:=A2p h4
    have n5:=A2o h5
    cases x
    simp at k3 n1 n4 n5
    subst k3 n1 n4 n5
    rfl
   ·rw [An (by simp [k3])] at h
    exact absurd rfl h
end Go.Proofs.YtifbomimeodibaaGreat
namespace Go.Proofs.YtifbomimeodibaaGreat
open Go Go.RowKit Go.Eng
set_option maxRecDepth 10000
set_option linter.unusedVariables false
set_option linter.unusedSimpArgs false
theorem A0s (k:Nat):Ht (k+FV)=some true:=by kernel_rfl
end Go.Proofs.YtifbomimeodibaaGreat
namespace Go.Proofs.YtifbomimeodibaaGreat
open Go Go.RowKit Go.Eng
set_option maxRecDepth 10000
set_option linter.unusedVariables false
set_option linter.unusedSimpArgs false
theorem ckm {β:Type} {x:Int} {f:Int→Option β} (h:-9223372036854775808≤x∧x≤9223372036854775807):(ck x).bind f=f x:=by
 unfold ck
 rw [if_pos h];rfl
def S4:Int→List (List api_Echo)→Int
 | n,[]=>n
 | n,r::rs=>S4 (IntKind.i64.wrap (n+((r.length:Nat):Int))) rs
theorem wrap64 {x:Int} (h:0≤x∧x≤1000000000):IntKind.i64.wrap x=x:=by
 simp only [IntKind.wrap,IntKind.signed,IntKind.bits]
 simp
 omega
theorem Xz:∀(rs:List (List api_Echo)) (n:Int),0≤n→n+(rs.flatten.length:Int)≤1000000000→S4 n rs=n+rs.flatten.length:=by
 intro rs
 induction rs with
 | nil=>intro n _ _;simp [S4]
 | cons r rs ih =>
  intro n h0 h
  rw [List.flatten_cons,List.length_append] at h
  rw [S4,wrap64 (by omega),ih _ (by omega) (by omega),List.flatten_cons,List.length_append]
  omega
def A02 (x:ref12_Item):Prop:=S4 ((x.Field.Vals.length:Nat):Int) x.Sweep.Rays≤200∧x.Sweep.Rays.length≤100∧x.Text.size≤400
theorem A4p (l:List ref12_Item) (i:Nat) (x:ref12_Item) (hx:l[i]? = some x) (hmx:x.Sweep.Rays.length≤9223372036854775807) (k2:Int→Option Bool):∀(m j:Nat) (n:Int),x.Sweep.Rays.length-j<m→j≤x.Sweep.Rays.length →
  Gt l i k2 m n j=J6 l i k2 (S4 n (x.Sweep.Rays.drop j)):=by
 intro m
 induction m with
 | zero=>intro j n h;omega
 | succ m ih =>
  intro j n h hj
  rw [Gt,Kn,Fk i x rfl hx]
  by_cases hb:j<x.Sweep.Rays.length
  ·have hd:=List.drop_eq_getElem_cons hb
   rw [Ap (dT (by omega)),Fk i x rfl hx,Fk j x.Sweep.Rays[j] rfl (List.getElem?_eq_getElem hb),ckm (by omega),hd,S4,show ((j:Int)+1)=((j+1:Nat):Int) by omega]
   exact ih (j+1) _ (by omega) (by omega)
  ·rw [An (dF (by omega)),List.drop_of_length_le (by omega),S4]
theorem A32 {F:Nat} (l:List ref12_Item) (hmx:∀x∈l,x.Sweep.Rays.length≤9223372036854775807∧x.Sweep.Rays.length<F) (hn:l.length≤1002):∀(m i:Nat),l.length-i<m→i≤l.length→∃c,Gs F l m i=some c∧(c=true→∀x∈l.drop i,A02 x):=by
 intro m
 induction m with
 | zero=>intro i h;omega
 | succ m ih =>
  intro i h hi
  rw [Gs,Km]
  by_cases hb:i<l.length
  ·have hd:=List.drop_eq_getElem_cons hb
   have hx:=List.getElem?_eq_getElem hb
   obtain ⟨h1,h2⟩:=hmx l[i] (List.getElem_mem hb)
   rw [Ap (dT (by omega)),Fk i l[i] rfl hx,show (0:Int)=((0:Nat):Int) from rfl,A4p l i l[i] hx h1 _ F 0 _ (by omega) (by omega),List.drop_zero,J6]
   by_cases q1:S4 ((l[i].Field.Vals.length:Nat):Int) l[i].Sweep.Rays>200
   ·rw [Ap (dT q1)];exact ⟨false,rfl,fun h=>by cases h⟩
   ·rw [An (dF q1),Fk i l[i] rfl hx]
    by_cases q2:l[i].Sweep.Rays.length>100
    ·rw [Ap (dT (by omega))];exact ⟨false,rfl,fun h=>by cases h⟩
    ·rw [An (dF (by omega)),Fk i l[i] rfl hx]
     by_cases q3:l[i].Text.size>400
     ·rw [Ap (dT (by omega))];exact ⟨false,rfl,fun h=>by cases h⟩
     ·rw [An (dF (by omega)),Kp,ckb (by omega),show ((i:Int)+1)=((i+1:Nat):Int) by omega]
      obtain ⟨c,k1,k2⟩:=ih (i+1) (by omega) (by omega)
      refine ⟨c,k1,fun hc y hy=>?_⟩
      rw [hd] at hy
      rcases List.mem_cons.1 hy with rfl|hy
      ·exact ⟨by omega,by omega,by omega⟩
      ·exact k2 hc y hy
  ·rw [An (dF (by omega)),Ko,List.drop_of_length_le (by omega)]
   exact ⟨true,rfl,fun _ y hy=>by cases hy⟩
theorem A07 {F:Nat} (hF:2000≤F) (l:List ref12_Item) (hmx:∀x∈l,x.Sweep.Rays.length≤9223372036854775807∧x.Sweep.Rays.length<F):∃c,L7 F l=some c∧(c=true→(l.length≤12∨l.length>1000)∧l.length≤1002∧∀x∈l,A02 x):=by
 rw [L7]
 by_cases h1:l.length>1002
 ·rw [dT (show ((l.length:Nat):Int)>1002 by omega),Ap (by cases (bif decide (((l.length:Nat):Int)>12) then decide (((l.length:Nat):Int)≤1000) else false)<;>rfl)]
  exact ⟨false,rfl,fun h=>by cases h⟩
 ·rw [dF (show ¬((l.length:Nat):Int)>1002 by omega)]
  by_cases h2:l.length>12∧l.length≤1000
  ·rw [dT (show ((l.length:Nat):Int)>12 by omega),dT (show ((l.length:Nat):Int)≤1000 by omega),Ap (by rfl)]
   exact ⟨false,rfl,fun h=>by cases h⟩
  ·rw [An ?_,show (0:Int)=((0:Nat):Int) from rfl]
   ·obtain ⟨c,k1,k2⟩:=A32 l hmx (by omega) F 0 (by omega) (by omega)
    exact ⟨c,k1,fun hc=>⟨by omega,by omega,k2 hc⟩⟩
   ·by_cases h3:l.length>12
    ·rw [dF (show ¬((l.length:Nat):Int)≤1000 by omega)];cases decide (((l.length:Nat):Int)>12)<;>rfl
    ·rw [dF (show ¬((l.length:Nat):Int)>12 by omega)];rfl
theorem A1c {t:volume_thing} (h:vT t) (hg:A02 (toR (Fl t))):cnt t≤200:=by
 obtain ⟨h1,h2,h3⟩:=hg
 cases t with
 | nil_=>exact h.elim
 | ic156 s =>
  have hv:vSweep s.Sweep:=h
  have h1:S4 (0:Int) s.Sweep.Rays≤200:=h1
  have h2:s.Sweep.Rays.length≤100:=h2
  have hl:=hv.len
  obtain ⟨⟨_,_,_,_,⟨c1,c2⟩,⟨c3,c4⟩,_⟩,_,_,hr,_⟩:=hv
  have hm:4*s.Sweep.Site.Rose*s.Sweep.Site.Gates≤360*s.Sweep.Site.Gates:=Int.mul_le_mul_of_nonneg_right (by omega) (by omega)
  rw [Xz _ _ (by decide) (by omega)] at h1
  show s.Sweep.Rays.flatten.length≤200
  omega
 | ic158 f =>
  have h1:((f.Field.Vals.length:Nat):Int)≤200:=h1
  show f.Field.Vals.length≤200
  omega
 | ic160 n=>exact Nat.zero_le _
def pkS (F:Nat) (x:volume_Item):List Int×Int:=(F2 F x).getD ([],0)
theorem A0d {F:Nat} (hF:200000≤F) {x:volume_Item} (hg:A02 (toR x)):F2 F x=some (pkS F x)∧Nt F (toR x)=some (pkS F x)∧Df F (toR x)=some (pkS F x).2∧Pc F (Dd x)=some (pkS F x).2∧(pkS F x).1.length≤40000 ∧
  ((pkS F x).2=0→∃t,(pkS F x).1=Pg t∧Hu F (toR x)=some (R6 t)):=by
 have key:∃a e,F2 F x=some (a,e)∧Nt F (toR x)=some (a,e)∧Df F (toR x)=some e∧Pc F (Dd x)=some e∧a.length≤40000∧(e=0→∃t,a=Pg t∧Hu F (toR x)=some (R6 t)):=by
  by_cases hn:Dd x=.nil_
  ·have hE:Pc F (Dd x)=some 2:=by rw [hn];rfl
   have hR:=Tk (F:=F) (by omega) x
   rw [hE] at hR
   refine ⟨[],2,?_,?_,hR,hE,by simp,fun h=>by cases h⟩
   ·rw [F2,Fo,hn];rfl
   ·rw [Nt,hR,sb,Ap (by rfl)]
  ·have hx:=A51 hn
   generalize ht:Dd x=t at hn hx
   subst hx
   obtain ⟨e,he,hv⟩:=Sy (F:=F) (by omega) hn
   obtain ⟨e',he',hv'⟩:=A2l (F:=F) (by omega) hn
   have hE:=Tk (F:=F) (by omega) (Fl t)
   rw [he',ht] at hE
   have hee:e'=e:=by
    have h2:Pc F t=Dw F t:=by
     cases t with
     | nil_=>exact absurd rfl hn
     | ic156 s=>rw [Yk];show _=(Bx F s.Sweep).bind fun y=>some y;rw [Ye]
     | ic158 s=>rw [Yl];rfl
     | ic160 s=>rw [Ym];rfl
    rw [h2,he] at hE
    exact Option.some.inj hE
   subst hee
   by_cases h0:e'=0
   ·subst h0
    have hvt:=hv.1 rfl
    have hc:=A1c hvt hg
    have hl2:=Re hvt.ok
    have hpl:=Ys hvt
    refine ⟨Pg t,0,A37 hF hvt (by omega),?_,he',hE.symm,?_,fun _=>⟨t,rfl,Wn hF hvt.ok (by omega)⟩⟩
    ·rw [Nt,he',sb,An (by rfl),Wn hF hvt.ok (by omega),sb,Hl (by simp;omega) (by decide)];rfl
    ·unfold Pg;simp;omega
   ·refine ⟨[],e',?_,?_,he',hE.symm,by simp,fun h=>absurd h h0⟩
    ·have hck:Fo F (Fl t)=some (t,e'):=by
      rw [Fo,ht]
      cases t with
      | nil_=>exact absurd rfl hn
      | ic156 s=>show (Bz F s).bind _=_;rw [show Bz F s=some e' from he];rfl
      | ic158 s=>show (B5 F s).bind _=_;rw [show B5 F s=some e' from he];rfl
      | ic160 s=>show (Bb F s).bind _=_;rw [show Bb F s=some e' from he];rfl
     rw [F2,hck,sb,Ap (by simp [h0])]
    ·rw [Nt,he',sb,Ap (by simp [h0])]
 obtain ⟨a,e,h1,h2,h3,h4,h5,h6⟩:=key
 have hp:pkS F x=(a,e):=by unfold pkS;rw [h1];rfl
 rw [hp]
 exact ⟨h1,h2,h3,h4,h5,h6⟩
end Go.Proofs.YtifbomimeodibaaGreat
namespace Go.Proofs.YtifbomimeodibaaGreat
open Go Go.RowKit Go.Eng
set_option maxRecDepth 10000
set_option linter.unusedVariables false
set_option linter.unusedSimpArgs false
def ofR (x:ref12_Item):volume_Item:=⟨x.Kind,x.Name,x.Time,x.Sweep,x.Field,x.Text⟩
end Go.Proofs.YtifbomimeodibaaGreat
namespace Go.Proofs.YtifbomimeodibaaGreat
open Go Go.RowKit Go.Eng
set_option maxRecDepth 10000
set_option linter.unusedVariables false
set_option linter.unusedSimpArgs false
theorem A3b (total:Int):∀(ps:List (List Int)) (k:Int),k+(Br ps).length=total→k≤(rdF total k ps).2.1∧(rdF total k ps).2.1≤total:=by
 intro ps
 induction ps with
 | nil=>intro k h;rw [rdF];simp [Br] at h;simp only;omega
 | cons p ps ih =>
  intro k h
  rw [Dh] at h
  simp only [List.length_cons,List.length_append] at h
  rw [rdF]
  split
  ·have:=ih (k+1+p.length) (by omega)
   simp only;omega
  ·simp only;omega
theorem A2s {x:List volume_Item×Int×Int} {n:Int} (h:0≤x.2.1∧x.2.1≤n):0≤(cap x).2.1∧(cap x).2.1≤n:=by
 unfold cap
 split
 ·simp only;omega
 ·exact h
theorem Xv {F:Nat} (hF:200000≤F) {b:List Int} (hB:By b) (hl:b.length≤4000):∃x,Em F b=some x∧Jw F b=some (A1j x)∧x.1.length≤1000∧0≤x.2.1∧x.2.1≤(b.length:Int):=by
 obtain ⟨p,ps,hb,hp,hz⟩:=A5f b hB
 have hj:=Ts ps
 have hlen:b.length=p.length+(Br ps).length:=by rw [hb];simp
 by_cases h:p=RVF1
 ·subst h
  have e4:RVF1.length=4:=rfl
  subst hb
  refine ⟨_,A1y hF hz (by omega) (by omega) (by omega),A2d hF hz (by omega) (by omega),A2r _,?_⟩
  have:=A3b ((4+(Br ps).length:Nat):Int) ps 4 (by omega)
  exact A2s ⟨by omega,by omega⟩
 ·exact ⟨([],0,7),A1x hB hb hp (by omega) h,A0o hB hb hp (by omega) h,by simp,by simp,by simp⟩
theorem Xd {F:Nat} (hF:200000≤F) {b:List Int} (hB:By b) (hl:b.length≤4000) {x:volume_Item} (hg:A02 (toR x)):∃r,Jm F b x=some r∧K7 F b (toR x)=some r∧r.1.length≤50000:=by
 obtain ⟨y,h1,h2,h3,h4,h5⟩:=Xv hF hB hl
 obtain ⟨p1,p2,p3,p4,p5,p6⟩:=A0d hF hg
 rw [Jm,K7,h1,sb,h2,sb]
 show ∃r,(bif (bif (y.2.2 != 0) then (y.2.2 != 16) else false) then some ([],y.2.2) else _)=some r∧(bif (bif (y.2.2 != 0) then (y.2.2 != 16) else false) then some ([],y.2.2) else _)=some r∧_
 cases hc:(bif (y.2.2 != 0) then (y.2.2 != 16) else false) with
 | true=>exact ⟨([],y.2.2),by rw [Ap rfl],by rw [Ap rfl],by simp⟩
 | false =>
  rw [An (c:=false) rfl,An (c:=false) rfl,p1,sb,p3,sb]
  by_cases h0:(pkS F x).2=0
  ·obtain ⟨t,e1,e2⟩:=p6 h0
   have h0':((pkS F x).2 != 0)=false:=by simp [h0]
   rw [h0',An (c:=false) rfl,An (c:=false) rfl]
   have hm:((A1j y).1.length:Int)=(y.1.length:Int):=by show (((y.1.map toR).length:Nat):Int)=_;rw [List.length_map]
   rw [hm]
   cases hq:(((y.1.length:Nat):Int)==1000) with
   | true=>exact ⟨([],13),by rw [Ap rfl],by rw [Ap rfl],by simp⟩
   | false =>
    have hbl:(Pg t).length=(R6 t).length+1:=by unfold Pg;simp
    rw [e1] at p5
    have hT:(b.take y.2.1.toNat).length≤4000:=by rw [List.length_take];omega
    refine ⟨(b.take y.2.1.toNat++Pg t,0),?_,?_,?_⟩
    ·rw [An rfl,e1,ckb (by omega),An (dF (by omega)),Nb y.2.1.toNat rfl (by omega) (by omega),Et,Hl (by simp;omega) (by decide),sb,List.nil_append,Hl (by omega) (by decide)]
    ·show (bif false then _ else ((Gz b (0:Int) y.2.1).bind _))=_
     rw [An rfl,Nb y.2.1.toNat rfl (by omega) (by omega),Hl (by simp;omega) (by decide),List.nil_append,Hl (by simp;omega) (by decide),e2,sb,Hl (by simp;omega) (by decide),An (dF (by simp;omega))]
     unfold Pg
     simp
    ·simp only [List.length_append];omega
  ·have h0':((pkS F x).2 != 0)=true:=by simp [h0]
   rw [h0',Ap (c:=true) rfl,Ap (c:=true) rfl]
   exact ⟨([],(pkS F x).2),rfl,rfl,by simp⟩
theorem Tj (b:List Int) (hb:∀x∈b,0≤x∧x≤255) (x:ref12_Item) (hx:x.Sweep.Rays.length≤9223372036854775807):∃F,G2 F b x=some true:=by
 refine ⟨x.Sweep.Rays.length+1000000+FV,?_⟩
 have hFV:FV=200000:=rfl
 have hB:By b:=fun x hx=>by have:=hb x hx;omega
 obtain ⟨F,hFe⟩:∃F,F=x.Sweep.Rays.length+1000000+FV:=⟨_,rfl⟩
 have hw:Ht F=some true:=by rw [hFe];exact A0s _
 rw [←hFe]
 have hF:200000≤F:=by omega
 rw [G2]
 by_cases h:((b.length:Nat):Int)>3000
 ·rw [Ap (dT h),hw];rfl
 ·rw [An (dF h)]
  obtain ⟨c,h1,h2⟩:=A07 (F:=F) (by omega) [x] (fun y hy=>by
   obtain rfl:y=x:=by simpa using hy
   exact ⟨hx,by omega⟩)
  rw [h1,sb]
  cases c with
  | false=>rw [Ap (by rfl),hw];rfl
  | true =>
   have hg:A02 (toR (ofR x)):=(h2 rfl).2.2 x (by simp)
   obtain ⟨r,k1,k2,k3⟩:=Xd hF hB (by omega) hg
   rw [An (by rfl)]
   show (Jm F b (ofR x)).bind _=_
   rw [k1,sb]
   show (K7 F b (toR (ofR x))).bind _=_
   rw [k2,sb,A0y (by omega) (by omega),sb,dT rfl]
   show ((gd (((bif true then (r.2==r.2) else false)==true&&true)) (Ht F) default).bind fun y27=>some (bif (bif true then (r.2==r.2) else false) then y27 else false))=_
   rw [show (r.2==r.2)=true by simp,gdT (by rfl),hw,sb]
   rfl
end Go.Proofs.YtifbomimeodibaaGreat
