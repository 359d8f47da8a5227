import Derived.Test.YtifbomimeodibaaV3XD
set_option linter.unusedVariables false
set_option linter.unusedSimpArgs false
set_option linter.unusedSectionVars false
namespace Go.Proofs.Ytifbomimeodibaa
open Go Go.RowKit Go.Eng
set_option maxRecDepth 10000
set_option linter.unusedVariables false
set_option linter.unusedSimpArgs false
theorem ckb {β:Type} {x:Int} {f:Int→Option β} (h:-9000000000000000000≤x∧x≤9000000000000000000):(ck x).bind f=f x:=by
 unfold ck;rw [if_pos (by omega)];rfl
theorem gdT {α:Type} {g:Bool} {o:Option α} {d:α} (h:g=true):gd g o d=o:=by subst h;rfl
theorem gdF {α:Type} {g:Bool} {o:Option α} {d:α} (h:g=false):gd g o d=some d:=by subst h;rfl
theorem B7 {α:Type} {c:Bool} {x y:α} (h:c=true):(bif c then x else y)=x:=by rw [h];rfl
theorem B2 {α:Type} {c:Bool} {x y:α} (h:c=false):(bif c then x else y)=y:=by rw [h];rfl
theorem sb {α β:Type} {x:α} {f:α→Option β}:(some x).bind f=f x:=rfl
theorem dT {p:Prop} [Decidable p] (h:p):decide p=true:=decide_eq_true h
theorem dF {p:Prop} [Decidable p] (h:¬p):decide p=false:=decide_eq_false h
theorem Ft {α β:Type} {l:List α} {i:Int} {f:α→Option β} (n:Nat) (x:α) (hi:i=(n:Int)) (h:l[n]? = some x):(E0 l i).bind f=f x:=by
 subst hi
 unfold E0
 rw [if_pos (by omega),show ((n:Int)).toNat=n by omega,h]
 rfl
theorem M6 {α β:Type} {l k:List α} {B:Nat} {f:List α→Option β} (h:(l.length+k.length)*B≤140737488355328) (hB:1≤B):(apd B l k).bind f=f (l++k):=by
 unfold apd
 have:l.length+k.length≤(l.length+k.length)*B:=Nat.le_mul_of_pos_right _ hB
 rw [if_pos ⟨h,by omega⟩]
 rfl
theorem A06 {α β:Type} {l:List α} {i j:Int} {f:List α→Option β} (m n:Nat) (hi:i=(m:Int)) (hj:j=(n:Int)) (h:m≤n∧n≤l.length):(Hg l i j).bind f=f ((l.drop m).take (n-m)):=by
 subst hi;subst hj
 unfold Hg
 rw [if_pos (by omega)]
 rfl
theorem Pd {α β:Type} {l:List α} {i j:Int} {f:List α→Option β} (n:Nat) (hi:i=0) (hj:j=(n:Int)) (h:n≤l.length):(Hg l i j).bind f=f (l.take n):=by
 rw [A06 0 n hi hj ⟨Nat.zero_le _,h⟩];simp
theorem Kp {α β:Type} {l:List α} {i j:Int} {f:List α→Option β} (m:Nat) (hi:i=(m:Int)) (hj:j=(l.length:Int)) (h:m≤l.length):(Hg l i j).bind f=f (l.drop m):=by
 rw [A06 m l.length hi hj ⟨h,Nat.le_refl _⟩,List.take_of_length_le (by simp)]
def FV:Nat:=200000
def By (l:List Int):Prop:=∀x∈l,0≤x∧x<256
theorem By.app {l k:List Int} (h:By l) (h':By k):By (l++k):=fun x hx=>(List.mem_append.1 hx).elim (h x) (h' x)
theorem Uu {x:Int} (h:0≤x∧x<256):IntKind.u8.wrap x=x:=by
 have:=h.1;have:=h.2
 simp only [IntKind.wrap,IntKind.signed,IntKind.bits]
 simp
 omega
def Dw (n:Nat):List Int:=if h:n<127 then [(n:Int)+1] else (128+((n%127:Nat):Int))::Dw (n/127)
termination_by n
theorem M0 {n:Nat} (h:n<127):Dw n=[(n:Int)+1]:=by rw [Dw,dif_pos h]
theorem P4 {n:Nat} (h:127≤n):Dw n=(128+((n%127:Nat):Int))::Dw (n/127):=by rw [Dw,dif_neg (by omega)]
theorem Xu:∀(k n:Nat),n<127 ^ (k+1)→(Dw n).length≤k+1:=by
 intro k
 induction k with
 | zero=>intro n h;rw [M0 (by simpa using h)];simp
 | succ k ih =>
  intro n h
  by_cases hn:n<127
  ·rw [M0 hn];simp
  ·rw [P4 (by omega),List.length_cons]
   have:=ih (n/127) (Nat.div_lt_of_lt_mul (by rw [Nat.pow_succ] at h;omega))
   omega
theorem W2 (n:Nat):∀x∈Dw n,1≤x∧x<255:=by
 induction n using Nat.strongRecOn with
 | _ n ih =>
  intro x hx
  by_cases hn:n<127
  ·rw [M0 hn] at hx;simp at hx;omega
  ·rw [P4 (by omega)] at hx
   rcases List.mem_cons.1 hx with rfl|hx
   ·have:=Nat.mod_lt n (show 0<127 by decide);omega
   ·exact ih (n/127) (Nat.div_lt_self (by omega) (by decide)) x hx
theorem tdm (n:Nat):K0 (n:Int) 127=some ((n%127:Nat):Int)∧N3 (n:Int) 127=ck ((n/127:Nat):Int):=by
 unfold K0 N3
 rw [if_neg (by decide),if_neg (by decide)]
 exact ⟨by congr 1,by congr 1⟩
theorem A1b (x307:Int) (k1:List Int→Int→Option volume_writer) (h0:0≤x307∧x307≤1000000000000):∀(F k n:Nat) (l:List Int),n<127 ^ (k+1)→k<10→k<F→n≤4611686018427387904→l.length+k≤1000000000000 →
  Cr x307 k1 F l n=k1 (l++Dw n) (x307+1):=by
 intro F
 induction F with
 | zero=>intro k n l h hk hF;omega
 | succ F ih =>
  intro k n l h hk hF hn hl
  rw [Cr,Eh]
  by_cases hb:(n:Int)≥127
  ·rw [B7 (dT hb),(tdm n).1,sb]
   have:=Nat.mod_lt n (show 0<127 by decide)
   rw [ckb (by omega),Uu (by omega),M6 (by simp;omega) (by decide),(tdm n).2]
   have hd:n/127≤n:=Nat.div_le_self _ _
   rw [ckb (by omega)]
   cases k with
   | zero=>simp at h;omega
   | succ k =>
    rw [ih k (n/127) _ (Nat.div_lt_of_lt_mul (by rw [Nat.pow_succ] at h;omega)) (by omega) (by omega) (by omega) (by simp;omega),P4 (n:=n) (by omega)]
    simp
  ·rw [B2 (dF hb),Ej,ckb (by omega),Uu (by omega),M6 (by simp;omega) (by decide),Ei,ckb (by omega),M0 (by omega),show (1:Int)+n=n+1 by omega]
def okN (x:Int):Prop:=0≤x∧x≤4611686018427387904
def Fj (l:List Int):List Int:=l.flatMap fun x=>Dw x.toNat
theorem Ec {x:Int} (h:okN x):(Dw x.toNat).length≤9:=Xu 8 x.toNat (by have:=h.1;have:=h.2;omega)
theorem A1a (F:Nat) (p1:List Int) (hF:100≤F) (hp:∀x∈p1,okN x):∀(m i:Nat) (l:List Int),p1.length-i<m→i≤p1.length→p1.length≤100→l.length+9*(p1.length-i)≤999999999000 →
  Cq F p1 m l i=some ⟨l++Fj (p1.drop i)⟩:=by
 intro m
 induction m with
 | zero=>intro i l h;omega
 | succ m ih =>
  intro i l h hi hp1 hl
  rw [Cq,Eg]
  by_cases hb:i<p1.length
  ·have hx:=hp p1[i] (List.getElem_mem hb)
   have h9:=Ec hx
   rw [B7 (dT (by omega)),Ft i p1[i] rfl (List.getElem?_eq_getElem hb)]
   have e:p1[i]=((p1[i].toNat:Nat):Int):=by have:=hx.1;omega
   rw [e,A1b i _ (by omega) F 8 p1[i].toNat l (by have:=hx.1;have:=hx.2;omega) (by decide) (by omega) (by have:=hx.2;omega) (by omega)]
   rw [show ((i:Int)+1)=((i+1:Nat):Int) by omega,ih (i+1) _ (by omega) (by omega) hp1 (by rw [List.length_append];omega),List.drop_eq_getElem_cons hb]
   simp only [Fj,List.flatMap_cons,List.append_assoc]
  ·rw [B2 (dF (by omega)),List.drop_of_length_le (by omega)]
   simp [Fj]
def okW (l:List Int):Prop:=l.length≤999999990000
theorem Fp {F:Nat} (hF:1000≤F) {w:volume_writer} {l:List Int} (hw:okW w.b) (hl:∀x∈l,okN x) (hn:l.length≤100):Ar F w l=some ⟨w.b++Fj l⟩:=by
 rw [Ar]
 unfold okW at hw
 exact A1a F l (by omega) hl F 0 w.b (by omega) (by omega) hn (by omega)
def zig (x:Int):Nat:=if x<0 then (-2*x-1).toNat else (2*x).toNat
def okZ (x:Int):Prop:=-2305843009213693952≤x∧x≤2305843009213693952
theorem A19 (F:Nat) (p1:List Int) (hF:1000≤F) (hp:∀x∈p1,okZ x):∀(m i:Nat) (l:List Int),p1.length-i<m→i≤p1.length→p1.length≤100→l.length+9*(p1.length-i)≤999999990000 →
  Bl F p1 m l i=some ⟨l++(p1.drop i).flatMap fun x=>Dw (zig x)⟩:=by
 intro m
 induction m with
 | zero=>intro i l h;omega
 | succ m ih =>
  intro i l h hi hp1 hl
  rw [Bl,Eb]
  by_cases hb:i<p1.length
  ·have hx:=hp p1[i] (List.getElem_mem hb)
   have hx1:=hx.1
   have hx2:=hx.2
   rw [B7 (dT (by omega)),Ft i p1[i] rfl (List.getElem?_eq_getElem hb)]
   have fin:∀z:Int,okN z→z.toNat=zig p1[i]→((Ar F (volume_writer.mk l) [z]).bind fun y178=>Ch i (Bl F p1 m) y178.b)=some ⟨l++(p1.drop i).flatMap fun x=>Dw (zig x)⟩:=by
    intro z hz hzz
    have h9:=Ec hz
    rw [Fp hF (show okW l by unfold okW;omega) (by simpa using hz) (by simp),sb,Ch,ckb (by omega)]
    show Bl F p1 m (l++Fj [z]) ((i:Int)+1)=_
    rw [show ((i:Int)+1)=((i+1:Nat):Int) by omega,ih (i+1) _ (by omega) (by omega) hp1 (by simp [Fj];omega),List.drop_eq_getElem_cons hb]
    simp only [Fj,List.flatMap_cons,List.flatMap_nil,List.append_nil,List.append_assoc,hzz]
   by_cases hs:p1[i]<0
   ·rw [B7 (dT hs),ckb (by omega),ckb (by omega)]
    exact fin _ ⟨by omega,by omega⟩ (by unfold zig;rw [if_pos hs])
   ·rw [B2 (dF hs),ckb (by omega)]
    exact fin _ ⟨by omega,by omega⟩ (by unfold zig;rw [if_neg hs])
  ·rw [B2 (dF (by omega)),List.drop_of_length_le (by omega)]
   simp
theorem Qy {F:Nat} (hF:1000≤F) {w:volume_writer} {l:List Int} (hw:w.b.length≤999999980000) (hl:∀x∈l,okZ x) (hn:l.length≤100):Cl F w l=some ⟨w.b++l.flatMap fun x=>Dw (zig x)⟩:=by
 rw [Cl]
 exact A19 F l hF hl F 0 w.b (by omega) (by omega) hn (by omega)
theorem Vl {x:Int} (h:okZ x):okN (zig x:Int):=by
 unfold okZ at h;unfold okN zig;split<;>omega
theorem Vj {F:Nat} (hF:1000≤F) {w:volume_writer} {s:ByteArray} (hw:w.b.length≤999999980000) (hs:s.size≤10000000):Dg F w s=some ⟨w.b++(Dw s.size++sby s)⟩:=by
 have h9:=Ec (x:=(s.size:Int)) ⟨by omega,by omega⟩
 rw [Dg,Fp hF (show okW w.b by unfold okW;omega) (by intro x hx;simp at hx;subst hx;exact ⟨by omega,by omega⟩) (by simp),sb,M6 (by simp only [Fj,List.flatMap_cons,List.flatMap_nil,List.append_nil,List.length_append,Jd];omega) (by decide)]
 simp [Fj]
def okS (s:api_Span):Prop:=-1000000000000000000≤s.Lo∧s.Lo≤s.Hi∧s.Hi≤1000000000000000000
def G8 (s:api_Span):List Int:=Dw (zig s.Lo)++Dw (s.Hi-s.Lo).toNat
theorem Py {F:Nat} (hF:1000≤F) {w:volume_writer} {s:api_Span} (hw:w.b.length≤999999970000) (hs:okS s):Df F w s=some ⟨w.b++G8 s⟩:=by
 obtain ⟨h1,h2,h3⟩:=hs
 have h9:=Ec (Vl (x:=s.Lo) ⟨by omega,by omega⟩)
 rw [Int.toNat_natCast] at h9
 rw [Df,Qy hF (by omega) (by intro x hx;simp at hx;subst hx;exact ⟨by omega,by omega⟩) (by simp),sb,ckb (by omega),Fp hF (by unfold okW;simp;omega) (by intro x hx;simp at hx;subst hx;exact ⟨by omega,by omega⟩) (by simp)]
 simp [G8,Fj]
theorem Ff {s:api_Span} (hs:okS s):(G8 s).length≤18:=by
 obtain ⟨h1,h2,h3⟩:=hs
 have h8:=Ec (Vl (x:=s.Lo) ⟨by omega,by omega⟩)
 have h9:=Ec (x:=s.Hi-s.Lo) ⟨by omega,by omega⟩
 rw [Int.toNat_natCast] at h8
 unfold G8;rw [List.length_append];omega
end Go.Proofs.Ytifbomimeodibaa
namespace Go.Proofs.Ytifbomimeodibaa
open Go Go.RowKit Go.Eng
set_option maxRecDepth 10000
set_option linter.unusedVariables false
set_option linter.unusedSimpArgs false
def Hk (x:api_Echo):List Int:=Dw x.Kind.toNat++if x.Kind=1 then Dw x.Power.Hi.toNat else G8 x.Power++(G8 x.Ratio++(G8 x.Match++(Dw x.Spread.toNat++if x.Kind=3 then G8 x.Steps.1++(G8 x.Steps.2++G8 x.Turn) else [])))
def okE (x:api_Echo):Prop:=okN x.Kind∧okN x.Power.Hi∧okN x.Spread∧okS x.Power∧okS x.Ratio∧okS x.Match∧okS x.Steps.1∧okS x.Steps.2∧okS x.Turn
theorem A18 {F:Nat} (hF:1000≤F) {w:volume_writer} {x:api_Echo} (hw:w.b.length≤999999960000) (hx:okE x):F5 F w x=some ⟨w.b++Hk x⟩:=by
 obtain ⟨h1,h2,h3,h4,h5,h6,h7,h8,h9⟩:=hx
 have a1:=Ec h1
 have a2:=Ec h2
 have a3:=Ec h3
 have a4:=Ff h4
 have a5:=Ff h5
 have a6:=Ff h6
 have a7:=Ff h7
 have a8:=Ff h8
 obtain ⟨G,rfl⟩:∃G,F=G+4:=⟨F-4,by omega⟩
 rw [F5,Fp hF (by unfold okW;omega) (by simpa using h1) (by simp),sb]
 by_cases hk:x.Kind=1
 ·rw [B7 (by simp [hk]),Fp hF (by unfold okW;simp [Fj];omega) (by simpa using h2) (by simp),sb]
  simp [Hk,hk,Fj]
 ·rw [B2 (by simp [hk]),C0,Ck,B7 (dT (by decide)),Ft 0 x.Power (by decide) (by rfl),Py hF (by simp [Fj];omega) h4,sb,ckb (by omega),
   C0,Ck,B7 (dT (by decide)),Ft 1 x.Ratio (by decide) (by rfl),Py hF (by simp [Fj];omega) h5,sb,ckb (by omega),
   C0,Ck,B7 (dT (by decide)),Ft 2 x.Match (by decide) (by rfl),Py hF (by simp [Fj];omega) h6,sb,ckb (by omega),
   C0,Ck,B2 (dF (by decide)),F8,Fp hF (by unfold okW;simp [Fj];omega) (by simpa using h3) (by simp),sb]
  by_cases hk3:x.Kind=3
  ·rw [B7 (by simp [hk3]),Bz,Cj,B7 (dT (by decide)),Ft 0 x.Steps.1 (by decide) (by rfl),Py hF (by simp [Fj];omega) h7,sb,ckb (by omega),
    Bz,Cj,B7 (dT (by decide)),Ft 1 x.Steps.2 (by decide) (by rfl),Py hF (by simp [Fj];omega) h8,sb,ckb (by omega),
    Bz,Cj,B7 (dT (by decide)),Ft 2 x.Turn (by decide) (by rfl),Py hF (by simp [Fj];omega) h9,sb,ckb (by omega),
    Bz,Cj,B2 (dF (by decide))]
   simp [Hk,hk3,Fj]
  ·rw [B2 (by simp [hk3])]
   simp [Hk,hk,hk3,Fj]
theorem T4 {x:api_Echo} (hx:okE x):(Hk x).length≤130:=by
 obtain ⟨h1,h2,h3,h4,h5,h6,h7,h8,h9⟩:=hx
 have a1:=Ec h1
 have a2:=Ec h2
 have a3:=Ec h3
 have a4:=Ff h4
 have a5:=Ff h5
 have a6:=Ff h6
 have a7:=Ff h7
 have a8:=Ff h8
 have a9:=Ff h9
 unfold Hk
 split
 ·simp;omega
 ·split<;>simp<;>omega
def Hp {α:Type} [DecidableEq α] (e:α→List Int):α→Nat→List α→List Int
 | _,n,[]=>if n=0 then [] else Dw n
 | b,n,x::l=>if x=b then Hp e b (n+1) l else Dw n++(e x++Hp e x 0 l)
def J0 {α:Type} [DecidableEq α] (b:α):List α→Nat
 | []=>0
 | x::l=>if x=b then J0 b l+1 else 0
theorem Rg {α:Type} [DecidableEq α] (b:α) (l:List α):J0 b l≤l.length:=by
 induction l with
 | nil=>exact Nat.le_refl _
 | cons x l ih=>unfold J0;split<;>simp<;>omega
theorem Vy {α:Type} [DecidableEq α] {b:α} {l:List α} {i:Nat} (h:i<J0 b l):l[i]? = some b:=by
 induction l generalizing i with
 | nil=>simp [J0] at h
 | cons x l ih =>
  unfold J0 at h
  split at h
  ·rename_i hx
   cases i with
   | zero=>simp [hx]
   | succ i=>simpa using ih (by omega)
  ·omega
theorem Vx {α:Type} [DecidableEq α] {b:α} {l:List α} {x:α} (h:l[J0 b l]? = some x):x≠b:=by
 induction l with
 | nil=>simp at h
 | cons y l ih =>
  unfold J0 at h
  split at h
  ·exact ih (by simpa using h)
  ·rename_i hy;simp at h;subst h;exact hy
theorem Tf {α:Type} [DecidableEq α] (e:α→List Int) (b:α) (n:Nat) (l:List α) (h:n≠0∨l≠[]):Hp e b n l=Dw (n+J0 b l)++(match l.drop (J0 b l) with|[]=>[]|y::r=>e y++Hp e y 0 r):=by
 induction l generalizing n with
 | nil=>rw [Hp,J0,if_neg (by simpa using h)];simp
 | cons x l ih =>
  rw [Hp,J0]
  split
  ·rw [ih (n+1) (.inl (by omega))]
   simp only [List.drop_succ_cons]
   rw [show n+1+J0 b l=n+(J0 b l+1) by omega]
  ·simp
theorem Uj {α:Type} [DecidableEq α] {e:α→List Int} {c:Nat}:∀(l:List α) (b:α) (n:Nat),(∀x∈l,(e x).length≤c)→n+l.length≤1000000000→(Hp e b n l).length≤9+(c+9)*l.length:=by
 intro l
 induction l with
 | nil =>
  intro b n h hn
  have:=Ec (x:=(n:Int)) ⟨by omega,by simp at hn;omega⟩
  rw [Hp]
  split<;>simp at*<;>omega
 | cons x l ih =>
  intro b n h hn
  have h1:=Ec (x:=(n:Int)) ⟨by omega,by simp at hn;omega⟩
  have h2:=h x (by simp)
  have hm:(c+9)*(l.length+1)=(c+9)*l.length+(c+9):=by rw [Nat.mul_add,Nat.mul_one]
  rw [Hp]
  simp only [List.length_cons] at hn ⊢
  rw [hm]
  split
  ·have:=ih b (n+1) (fun y hy=>h y (by simp [hy])) (by omega)
   omega
  ·have:=ih x 0 (fun y hy=>h y (by simp [hy])) (by omega)
   simp at h1 ⊢
   omega
theorem Rk (u b:api_Span):(((u.Lo:Int)==b.Lo)&&(((u.Hi:Int)==b.Hi)&&true))=decide (u=b):=by
 cases u;cases b
 rw [Bool.eq_iff_iff]
 simp
theorem Rb (u b:api_Echo):(((u.Kind:Int)==b.Kind)&&((((u.Power.Lo:Int)==b.Power.Lo)&&(((u.Power.Hi:Int)==b.Power.Hi)&&true))&&(((((u.Steps.1.Lo:Int)==b.Steps.1.Lo)&&(((u.Steps.1.Hi:Int)==b.Steps.1.Hi)&&true))&&((((u.Steps.2.Lo:Int)==b.Steps.2.Lo)&&(((u.Steps.2.Hi:Int)==b.Steps.2.Hi)&&true))&&true))&&(((u.Spread:Int)==b.Spread)&&((((u.Ratio.Lo:Int)==b.Ratio.Lo)&&(((u.Ratio.Hi:Int)==b.Ratio.Hi)&&true))&&((((u.Match.Lo:Int)==b.Match.Lo)&&(((u.Match.Hi:Int)==b.Match.Hi)&&true))&&((((u.Turn.Lo:Int)==b.Turn.Lo)&&(((u.Turn.Hi:Int)==b.Turn.Hi)&&true))&&true)))))))=decide (u=b):=by
 rcases u with ⟨k,⟨p1,p2⟩,⟨⟨s1,s2⟩,⟨s3,s4⟩⟩,sp,⟨r1,r2⟩,⟨m1,m2⟩,⟨t1,t2⟩⟩
 rcases b with ⟨k',⟨p1',p2'⟩,⟨⟨s1',s2'⟩,⟨s3',s4'⟩⟩,sp',⟨r1',r2'⟩,⟨m1',m2'⟩,⟨t1',t2'⟩⟩
 rw [Bool.eq_iff_iff]
 simp [and_assoc]
theorem gdt {g:Bool} (h:g=true):((g==true&&true))=true:=by rw [h];rfl
theorem gdf {g:Bool} (h:g=false):((g==true&&true))=false:=by rw [h];rfl
theorem Zq (F:Nat) (b:api_Span) (w:List Int) (l:List api_Span) (k1:Int→Int→List Int→List api_Span→Option volume_writer) (hl:l.length≤1000000000):∀(m i:Nat),i≤J0 b l→J0 b l-i<m →
  Bi F b.Lo b.Hi w l k1 m i=Bu F b.Lo b.Hi w l k1 (J0 b l:Nat):=by
 intro m
 have hle:=Rg b l
 induction m with
 | zero=>intro i _ h;omega
 | succ m ih =>
  intro i hi hm
  rw [Bi,Cp]
  by_cases hb:i<J0 b l
  ·have hx:=Vy hb
   rw [gdT (gdt (dT (by omega))),Ft i b rfl hx,Rk b b,B7 (x:=decide (b=b)) (dT (by omega)),B7 (dT rfl),ckb (by omega)]
   exact ih (i+1) (by omega) (by omega)
  ·have he:i=J0 b l:=by omega
   subst he
   by_cases hc:J0 b l<l.length
   ·have hg:=List.getElem?_eq_getElem hc
    rw [gdT (gdt (dT (by omega))),Ft _ _ rfl hg,Rk _ b,B7 (x:=decide (l[J0 b l]=b)) (dT (by omega)),B2 (dF (Vx hg))]
   ·rw [gdF (gdf (dF (by omega))),sb,B2 (B2 (dF (by omega)))]
theorem T3 {α:Type} {l:List α} {n:Nat} {y:α} {r:List α} (h:l.drop n=y::r):l[n]? = some y∧n<l.length∧r=l.drop (n+1)∧r.length<l.length∧y∈l:=by
 have hn:n<l.length:=by
  rcases Nat.lt_or_ge n l.length with h1|h1
  ·exact h1
  ·rw [List.drop_of_length_le h1] at h;cases h
 rw [List.drop_eq_getElem_cons hn] at h
 cases h
 refine ⟨List.getElem?_eq_getElem hn,hn,rfl,by simp;omega,List.getElem_mem hn⟩
theorem A25 (F:Nat) (hF:1000≤F):∀(m:Nat) (l:List api_Span) (b:api_Span) (w:List Int),l.length<m→l.length<F→l.length≤1000000000→(∀x∈l,okS x)→w.length+200*l.length≤999999900000 →
  Ba F m b.Lo b.Hi w l=some ⟨w++Hp G8 b 0 l⟩:=by
 intro m
 induction m with
 | zero=>intro l b w h;omega
 | succ m ih =>
  intro l b w h hlF hl9 hok hw
  rw [Ba,Bt]
  cases hl:l with
  | nil=>simp [Hp]
  | cons x0 l0 =>
   rw [←hl]
   have hpos:0<l.length:=by rw [hl];simp
   have hle:=Rg b l
   have h9:=Ec (x:=(J0 b l:Int)) ⟨by omega,by omega⟩
   rw [Int.toNat_natCast] at h9
   rw [B7 (dT (by omega)),show (0:Int)=((0:Nat):Int) from rfl,Zq F b w l _ hl9 F 0 (by omega) (by omega),Bu,Fp hF (by unfold okW;simp;omega) (by intro x hx;simp at hx;subst hx;exact ⟨by omega,by omega⟩) (by simp),sb,
    Kp (J0 b l) rfl rfl hle,Tf G8 b 0 l (.inr (by rw [hl];simp))]
   cases hd:l.drop (J0 b l) with
   | nil =>
    rw [B2 (dF (by simp))]
    cases m with
    | zero=>omega
    | succ m=>rw [Ba,Bt,B2 (dF (by simp))];simp [Fj]
   | cons y r =>
    obtain ⟨hg,hn,hr,hrl,hy⟩:=T3 hd
    rw [B7 (dT (by simp)),Ft 0 y (by rfl) (by rfl),Kp 1 (by decide) (by rfl) (by simp),Py hF (by simp [Fj];omega) (hok y hy),sb]
    simp only [List.drop_succ_cons,List.drop_zero]
    rw [ih r y _ (by omega) (by omega) (by omega) (fun z hz=>hok z (by rw [hr] at hz;exact List.mem_of_mem_drop hz)) (by have:=Ff (hok y hy);simp [Fj];omega)]
    simp [Fj]
theorem Zn {F:Nat} (hF:1000≤F) {w:volume_writer} {l:List api_Span} {b:api_Span} (hl:l.length<F) (hl9:l.length≤1000000000) (hok:∀x∈l,okS x) (hw:w.b.length+200*l.length≤999999900000):Cb F w l b=some ⟨w.b++Hp G8 b 0 l⟩:=by
 rw [Cb]
 exact A25 F hF F l b w.b hl hl hl9 hok hw
theorem Zp (F:Nat) (b:api_Echo) (w:List Int) (l:List api_Echo) (k1:Int→Int→Int→Int→Int→Int→Int→Int→Int→Int→Int→Int→Int→Int→List Int→List api_Echo→Option volume_writer) (hl:l.length≤1000000000):∀(m i:Nat),i≤J0 b l→J0 b l-i<m →
  Bh F b.Kind b.Power.Lo b.Match.Lo b.Match.Hi b.Turn.Lo b.Turn.Hi b.Power.Hi b.Steps.1.Lo b.Steps.1.Hi b.Steps.2.Lo b.Steps.2.Hi b.Spread b.Ratio.Lo b.Ratio.Hi w l k1 m i=Bs F b.Kind b.Power.Lo b.Match.Lo b.Match.Hi b.Turn.Lo b.Turn.Hi b.Power.Hi b.Steps.1.Lo b.Steps.1.Hi b.Steps.2.Lo b.Steps.2.Hi b.Spread b.Ratio.Lo b.Ratio.Hi w l k1 (J0 b l:Nat):=by
 intro m
 have hle:=Rg b l
 induction m with
 | zero=>intro i _ h;omega
 | succ m ih =>
  intro i hi hm
  rw [Bh,Co]
  by_cases hb:i<J0 b l
  ·have hx:=Vy hb
   rw [gdT (gdt (dT (by omega))),Ft i b rfl hx,Rb b b,B7 (x:=decide (b=b)) (dT (by omega)),B7 (dT rfl),ckb (by omega)]
   exact ih (i+1) (by omega) (by omega)
  ·have he:i=J0 b l:=by omega
   subst he
   by_cases hc:J0 b l<l.length
   ·have hg:=List.getElem?_eq_getElem hc
    rw [gdT (gdt (dT (by omega))),Ft _ _ rfl hg,Rb _ b,B7 (x:=decide (l[J0 b l]=b)) (dT (by omega)),B2 (dF (Vx hg))]
   ·rw [gdF (gdf (dF (by omega))),sb,B2 (B2 (dF (by omega)))]
theorem A24 (F:Nat) (hF:1000≤F):∀(m:Nat) (l:List api_Echo) (b:api_Echo) (w:List Int),l.length<m→l.length<F→l.length≤1000000000→(∀x∈l,okE x)→w.length+300*l.length≤999999900000 →
  B9 F m b.Kind b.Power.Lo b.Match.Lo b.Match.Hi b.Turn.Lo b.Turn.Hi b.Power.Hi b.Steps.1.Lo b.Steps.1.Hi b.Steps.2.Lo b.Steps.2.Hi b.Spread b.Ratio.Lo b.Ratio.Hi w l=some ⟨w++Hp Hk b 0 l⟩:=by
 intro m
 induction m with
 | zero=>intro l b w h;omega
 | succ m ih =>
  intro l b w h hlF hl9 hok hw
  rw [B9,Br]
  cases hl:l with
  | nil=>simp [Hp]
  | cons x0 l0 =>
   rw [←hl]
   have hpos:0<l.length:=by rw [hl];simp
   have hle:=Rg b l
   have h9:=Ec (x:=(J0 b l:Int)) ⟨by omega,by omega⟩
   rw [Int.toNat_natCast] at h9
   rw [B7 (dT (by omega)),show (0:Int)=((0:Nat):Int) from rfl,Zp F b w l _ hl9 F 0 (by omega) (by omega),Bs,Fp hF (by unfold okW;simp;omega) (by intro x hx;simp at hx;subst hx;exact ⟨by omega,by omega⟩) (by simp),sb,
    Kp (J0 b l) rfl rfl hle,Tf Hk b 0 l (.inr (by rw [hl];simp))]
   cases hd:l.drop (J0 b l) with
   | nil =>
    rw [B2 (dF (by simp))]
    cases m with
    | zero=>omega
    | succ m=>rw [B9,Br,B2 (dF (by simp))];simp [Fj]
   | cons y r =>
    obtain ⟨hg,hn,hr,hrl,hy⟩:=T3 hd
    rw [B7 (dT (by simp)),Ft 0 y (by rfl) (by rfl),Kp 1 (by decide) (by rfl) (by simp),A18 hF (by simp [Fj];omega) (hok y hy),sb]
    simp only [List.drop_succ_cons,List.drop_zero]
    rw [ih r y _ (by omega) (by omega) (by omega) (fun z hz=>hok z (by rw [hr] at hz;exact List.mem_of_mem_drop hz)) (by have:=T4 (hok y hy);simp [Fj];omega)]
    simp [Fj]
theorem Yq {F:Nat} (hF:1000≤F) {w:volume_writer} {l:List api_Echo} {b:api_Echo} (hl:l.length<F) (hl9:l.length≤1000000000) (hok:∀x∈l,okE x) (hw:w.b.length+300*l.length≤999999900000):Ca F w l b=some ⟨w.b++Hp Hk b 0 l⟩:=by
 rw [Ca]
 exact A24 F hF F l b w.b hl hl hl9 hok hw
def e0:api_Echo:=⟨1,⟨0,0⟩,(⟨0,0⟩,⟨0,0⟩),0,⟨0,0⟩,⟨0,0⟩,⟨0,0⟩⟩
def J8 (s:ByteArray):List Int:=Dw s.size++sby s
def P6 (l:List Int):List Int:=l.flatMap fun x=>Dw (zig x)
def My (s:api_Sweep):List Int:=Fj [1]++(J8 s.Site.Name++(P6 [s.Site.X,s.Site.Y]++(Fj [s.Site.Z,s.Site.Rose,s.Site.Gates,s.Site.Step,s.Site.Width,s.Tilt,s.Time]++Hp Hk e0 0 s.Rays.flatten)))
def Mn (f:volume_field):List Int:=Fj [2]++(J8 f.key++(Fj [f.time]++(P6 [f.Field.Grid.X,f.Field.Grid.Y]++(Fj [f.Field.Grid.Size,f.Field.Grid.Wide,f.Field.Grid.High]++Hp G8 ⟨0,0⟩ 0 f.Field.Vals))))
def Qb (n:volume_note):List Int:=Fj [3,n.time]++J8 n.text
def B1 (t:volume_thing):List Int:=t.cs [] (fun s=>My s.Sweep) Mn Qb
def A0j (s:api_Site):Prop:=s.Name.size≤1000∧okZ s.X∧okZ s.Y∧okN s.Z∧okN s.Rose∧okN s.Gates∧okN s.Step∧okN s.Width
def Qc (s:api_Sweep):Prop:=A0j s.Site∧okN s.Tilt∧okN s.Time∧s.Rays.length≤1000∧s.Rays.flatten.length≤100000∧∀r∈s.Rays,∀x∈r,okE x
def Rh (f:volume_field):Prop:=f.key.size≤1000∧okN f.time∧okZ f.Field.Grid.X∧okZ f.Field.Grid.Y∧okN f.Field.Grid.Size∧okN f.Field.Grid.Wide∧okN f.Field.Grid.High∧f.Field.Vals.length≤100000∧∀x∈f.Field.Vals,okS x
def V7 (n:volume_note):Prop:=okN n.time∧n.text.size≤1000
def okT (t:volume_thing):Prop:=t.cs False (fun s=>Qc s.Sweep) Rh V7
theorem H9 {l:List Int} (h:∀x∈l,okN x):(Fj l).length≤9*l.length:=by
 induction l with
 | nil=>simp [Fj]
 | cons x l ih =>
  have h1:=Ec (h x (by simp))
  have h2:=ih fun y hy=>h y (by simp [hy])
  simp only [Fj,List.flatMap_cons,List.length_append,List.length_cons] at h2 ⊢
  omega
theorem Q7 {l:List Int} (h:∀x∈l,okZ x):(P6 l).length≤9*l.length:=by
 induction l with
 | nil=>simp [P6]
 | cons x l ih =>
  have h1:=Ec (Vl (h x (by simp)))
  rw [Int.toNat_natCast] at h1
  have h2:=ih fun y hy=>h y (by simp [hy])
  simp only [P6,List.flatMap_cons,List.length_append,List.length_cons] at h2 ⊢
  omega
theorem Me {s:ByteArray} (h:s.size≤1000):(J8 s).length≤1009:=by
 have h9:=Ec (x:=(s.size:Int)) ⟨by omega,by omega⟩
 rw [Int.toNat_natCast] at h9
 unfold J8
 rw [List.length_append,Jd];omega
theorem Lj {x:Int} (h:0≤x∧x≤1000000):okN x:=⟨h.1,by omega⟩
theorem A1c (F:Nat) (hF:200000≤F) (s:volume_sweep) (y:volume_writer) (hok:Qc s.Sweep) (hy:y.b.length≤1000000):∀(m i:Nat) (acc:List api_Echo),s.Sweep.Rays.length-i<m→i≤s.Sweep.Rays.length→acc++(s.Sweep.Rays.drop i).flatten=s.Sweep.Rays.flatten →
  Dj F s y m acc i=some ⟨y.b++Hp Hk e0 0 s.Sweep.Rays.flatten⟩:=by
 intro m
 obtain ⟨h1,h2,h3,h4,h5,h6⟩:=hok
 induction m with
 | zero=>intro i acc h;omega
 | succ m ih =>
  intro i acc h hi hacc
  have hal:acc.length≤100000:=by
   have:=congrArg List.length hacc
   rw [List.length_append] at this;omega
  rw [Dj,Fq]
  by_cases hb:i<s.Sweep.Rays.length
  ·have hd:=List.drop_eq_getElem_cons hb
   have hacc2:(acc++s.Sweep.Rays[i])++(s.Sweep.Rays.drop (i+1)).flatten=s.Sweep.Rays.flatten:=by rw [←hacc,hd,List.flatten_cons,List.append_assoc]
   have hal2:acc.length+s.Sweep.Rays[i].length≤100000:=by
    have:=congrArg List.length hacc2
    simp only [List.length_append] at this;omega
   rw [B7 (dT (by omega)),Ft i _ rfl (List.getElem?_eq_getElem hb),M6 (by omega) (by decide),ckb (by omega)]
   exact ih (i+1) _ (by omega) (by omega) hacc2
  ·have he:acc=s.Sweep.Rays.flatten:=by
    rw [List.drop_of_length_le (by omega)] at hacc;simpa using hacc
   rw [B2 (dF (by omega)),he,Fs,Yq (by omega) (by omega) (by omega) (fun x hx=>?_) (by omega)]
   ·rfl
   ·obtain ⟨r,hr,hx⟩:=List.mem_flatten.1 hx
    exact h6 r hr x hx
theorem Zo {F:Nat} (hF:200000≤F) {t:volume_thing} (h:okT t):Jh F t ⟨[]⟩=some ⟨B1 t⟩:=by
 cases t with
 | nil_=>exact h.elim
 | ic112 s =>
  have hs:Qc s.Sweep:=h
  have h':=hs
  obtain ⟨⟨a1,a2,a3,a4,a5,a6,a7,a8⟩,h2,h3,h4,h5,h6⟩:=h'
  have o1:∀x∈[(1:Int)],okN x:=by intro x hx;simp at hx;subst hx;exact Lj (by decide)
  have o2:∀x∈[s.Sweep.Site.X,s.Sweep.Site.Y],okZ x:=by intro x hx;simp at hx;rcases hx with rfl|rfl<;>assumption
  have o3:∀x∈[s.Sweep.Site.Z,s.Sweep.Site.Rose,s.Sweep.Site.Gates,s.Sweep.Site.Step,s.Sweep.Site.Width,s.Sweep.Tilt,s.Sweep.Time],okN x:=by intro x hx;simp at hx;rcases hx with rfl|rfl|rfl|rfl|rfl|rfl|rfl<;>assumption
  have l1:=H9 o1
  have l2:=Me a1
  have l3:=Q7 o2
  have l4:=H9 o3
  simp only [List.length_cons,List.length_nil] at l1 l3 l4
  show Fo F s ⟨[]⟩=some ⟨My s.Sweep⟩
  rw [Fo,Fp (by omega) (by unfold okW;simp) o1 (by simp),sb,Vj (by omega) (by simp only [List.nil_append];omega) (by omega),sb]
  rw [Qy (by omega) (by simp only [List.nil_append,List.length_append];unfold J8 at l2;rw [List.length_append] at l2;omega) o2 (by simp),sb,Fp (by omega) (by unfold okW;unfold P6 at l3;unfold J8 at l2;simp only [List.nil_append,List.length_append] at *;omega) o3 (by simp),sb]
  rw [show (0:Int)=((0:Nat):Int) from rfl,A1c F hF s _ hs (by unfold P6 at l3;unfold J8 at l2;simp only [List.nil_append,List.length_append] at *;omega) F 0 [] (by omega) (by omega) (by simp)]
  simp [My,J8,P6]
 | ic114 f =>
  obtain ⟨a1,a2,a3,a4,a5,a6,a7,a8,a9⟩:=(show Rh f from h)
  have o1:∀x∈[(2:Int)],okN x:=by intro x hx;simp at hx;subst hx;exact Lj (by decide)
  have o4:∀x∈[f.time],okN x:=by intro x hx;simp at hx;subst hx;exact a2
  have o2:∀x∈[f.Field.Grid.X,f.Field.Grid.Y],okZ x:=by intro x hx;simp at hx;rcases hx with rfl|rfl<;>assumption
  have o3:∀x∈[f.Field.Grid.Size,f.Field.Grid.Wide,f.Field.Grid.High],okN x:=by intro x hx;simp at hx;rcases hx with rfl|rfl|rfl<;>assumption
  have l1:=H9 o1
  have l2:=Me a1
  have l3:=Q7 o2
  have l4:=H9 o3
  have l5:=H9 o4
  simp only [List.length_cons,List.length_nil] at l1 l3 l4 l5
  show Fl F f ⟨[]⟩=some ⟨Mn f⟩
  rw [Fl,Fp (by omega) (by unfold okW;simp) o1 (by simp),sb,Vj (by omega) (by simp only [List.nil_append];omega) (by omega),sb]
  rw [Fp (by omega) (by unfold okW;unfold J8 at l2;simp only [List.nil_append,List.length_append] at *;omega) o4 (by simp),sb]
  rw [Qy (by omega) (by unfold J8 at l2;simp only [List.nil_append,List.length_append] at *;omega) o2 (by simp),sb,Fp (by omega) (by unfold okW;unfold P6 at l3;unfold J8 at l2;simp only [List.nil_append,List.length_append] at *;omega) o3 (by simp),sb]
  rw [Zn (by omega) (by omega) (by omega) a9 (by unfold P6 at l3;unfold J8 at l2;simp only [List.nil_append,List.length_append] at *;omega),sb]
  simp [Mn,J8,P6]
 | ic116 n =>
  obtain ⟨a1,a2⟩:=(show V7 n from h)
  have o1:∀x∈[(3:Int),n.time],okN x:=by intro x hx;simp at hx;rcases hx with rfl|rfl;(exact Lj (by decide));exact a1
  have l1:=H9 o1
  simp only [List.length_cons,List.length_nil] at l1
  show G3 F n ⟨[]⟩=some ⟨Qb n⟩
  rw [G3,Fp (by omega) (by unfold okW;simp) o1 (by simp),sb,Vj (by omega) (by simp only [List.nil_append];omega) (by omega),sb]
  simp [Qb,J8]
end Go.Proofs.Ytifbomimeodibaa
namespace Go.Proofs.Ytifbomimeodibaa
open Go Go.RowKit Go.Eng
set_option maxRecDepth 10000
set_option linter.unusedVariables false
set_option linter.unusedSimpArgs false
def Us:Nat→List Int→Nat
 | c,[]=>c
 | c,x::l=>Us ((31*c+x.toNat)%2147483647) l
def Zi (c:Nat):List Int:=[128+((c%127:Nat):Int),128+((c/127%127:Nat):Int),128+((c/127/127%127:Nat):Int),128+((c/127/127/127%127:Nat):Int),1+((c/127/127/127/127%127:Nat):Int)]
def Nq (l:List Int):List Int:=Zi (Us 1 l)
theorem Lp (l:List Int):(Nq l).length=5:=rfl
theorem A20 {α β:Type} {l:List α} {i:Int} {x:α} {f:List α→Option β} (n:Nat) (hi:i=(n:Int)) (h:n<l.length):(Ty l i x).bind f=f (l.set n x):=by
 subst hi
 unfold Ty
 rw [if_pos (by omega)]
 rfl
theorem Ze (F:Nat) (hF:10≤F) (c:Nat) (hc:c<2147483647):El F 5 0 c (List.replicate 5 0)=some (Zi c):=by
 obtain ⟨G,rfl⟩:∃G,F=G+6:=⟨F-6,by omega⟩
 have step:∀(m i d:Nat) (l:List Int),i<5→l.length=5→d<2147483647→El (m+1) 5 i d l=El m 5 (i+1:Nat) (d/127:Nat) (l.set i (128+((d%127:Nat):Int))):=by
  intro m i d l hi hl hd
  rw [El,J9,B7 (dT (by omega)),(tdm d).1,sb]
  have:=Nat.mod_lt d (show 0<127 by decide)
  rw [ckb (by omega),Ft i l[i] rfl (List.getElem?_eq_getElem (by omega)),A20 i rfl (by omega),(tdm d).2,ckb (by omega),ckb (by omega),Uu (by omega)]
  rfl
 rw [show (0:Int)=((0:Nat):Int) from rfl,step (G+5) 0 c _ (by decide) (by simp) hc,step (G+4) 1 _ _ (by decide) (by simp) (by omega),step (G+3) 2 _ _ (by decide) (by simp) (by omega),step (G+2) 3 _ _ (by decide) (by simp) (by omega),step (G+1) 4 _ _ (by decide) (by simp) (by omega)]
 rw [El,J9,B2 (dF (by decide)),Ku]
 simp only [List.replicate,List.set_cons_zero,List.set_cons_succ]
 have h4:(128:Int)+((c/127/127/127/127%127:Nat):Int)-127=1+((c/127/127/127/127%127:Nat):Int):=by omega
 have:=Nat.mod_lt (c/127/127/127/127) (show 0<127 by decide)
 rw [Ft 4 (128+((c/127/127/127/127%127:Nat):Int)) (by decide) (by rfl),Ft 4 (128+((c/127/127/127/127%127:Nat):Int)) (by decide) (by rfl),A20 4 (by decide) (by simp),h4,Uu (by omega)]
 rfl
theorem Zf (F:Nat) (hF:10≤F) (p:List Int) (hp:By p) (hpl:p.length≤1000000000):∀(m i c:Nat),p.length-i<m→i≤p.length→c<2147483647→He F p m i c=some (Zi (Us c (p.drop i))):=by
 intro m
 induction m with
 | zero=>intro i c h;omega
 | succ m ih =>
  intro i c h hi hc
  rw [He,Ks]
  by_cases hb:i<p.length
  ·have hx:=hp p[i] (List.getElem_mem hb)
   rw [B7 (dT (by omega)),Ft i p[i] rfl (List.getElem?_eq_getElem hb),ckb (by omega),ckb (by omega),ckb (by omega)]
   have e:K0 (31*(c:Int)+p[i]) 2147483647=some (((31*c+p[i].toNat)%2147483647:Nat):Int):=by
    have e1:31*(c:Int)+p[i]=((31*c+p[i].toNat:Nat):Int):=by omega
    rw [e1]
    unfold K0
    rw [if_neg (by decide)]
    congr 1
   rw [e,sb,ckb (by omega)]
   have:=ih (i+1) _ (by omega) (by omega) (Nat.mod_lt (31*c+p[i].toNat) (show 0<2147483647 by decide))
   rw [show ((i:Int)+1)=((i+1:Nat):Int) by omega,this,List.drop_eq_getElem_cons hb]
   rfl
  ·rw [B2 (dF (by omega)),Kt,List.drop_of_length_le (by omega)]
   show (mkI 1 5 0).bind _=_
   rw [show mkI 1 5 (0:Int)=some (List.replicate 5 0) from by unfold mkI;rw [if_pos (by decide)];rfl,sb]
   exact Ze F hF c hc
theorem Yk {F:Nat} (hF:10≤F) {p:List Int} (hp:By p) (hl:p.length<F) (hl9:p.length≤1000000000):Jg F p=some (Nq p):=by
 rw [Jg]
 exact Zf F hF p hp hl9 F 0 1 (by omega) (by omega) (by decide)
theorem W0 (n:Nat):By (Dw n):=fun x hx=>by have:=W2 n x hx;omega
theorem By.fm {α:Type} {l:List α} {f:α→List Int} (h:∀x∈l,By (f x)):By (l.flatMap f):=fun x hx=>by
 obtain ⟨y,hy,hx⟩:=List.mem_flatMap.1 hx
 exact h y hy x hx
def Nz (l:List Int):Prop:=∀x∈l,1≤x∧x<256
theorem Nz.by {l:List Int} (h:Nz l):By l:=fun x hx=>by have:=h x hx;omega
theorem Nz.app {l k:List Int} (h:Nz l) (h':Nz k):Nz (l++k):=fun x hx=>(List.mem_append.1 hx).elim (h x) (h' x)
theorem Nz.nil:Nz []:=fun x hx=>by cases hx
theorem Nz.fm {α:Type} {l:List α} {f:α→List Int} (h:∀x∈l,Nz (f x)):Nz (l.flatMap f):=fun x hx=>by
 obtain ⟨y,hy,hx⟩:=List.mem_flatMap.1 hx
 exact h y hy x hx
theorem Jw (n:Nat):Nz (Dw n):=fun x hx=>by have:=W2 n x hx;omega
theorem Jc (l:List Int):Nz (Fj l):=Nz.fm fun x _=>Jw _
theorem Re (l:List Int):Nz (P6 l):=Nz.fm fun x _=>Jw _
theorem L1 (s:api_Span):Nz (G8 s):=(Jw _).app (Jw _)
theorem U5 (x:api_Echo):Nz (Hk x):=by
 unfold Hk
 refine (Jw _).app ?_
 split
 ·exact Jw _
 ·refine (L1 _).app ((L1 _).app ((L1 _).app ((Jw _).app ?_)))
  split
  ·exact (L1 _).app ((L1 _).app (L1 _))
  ·exact Nz.nil
theorem Ri {α:Type} [DecidableEq α] {e:α→List Int} (he:∀x,Nz (e x)):∀(l:List α) (b:α) (n:Nat),Nz (Hp e b n l):=by
 intro l
 induction l with
 | nil=>intro b n;rw [Hp];split;exact Nz.nil;exact Jw _
 | cons x l ih =>
  intro b n
  rw [Hp]
  split
  ·exact ih _ _
  ·exact (Jw _).app ((he x).app (ih _ _))
theorem Wd (l:List Int):Nz (Nq l):=by
 have h:∀c:Nat,(0:Int)≤((c%127:Nat):Int)∧((c%127:Nat):Int)<127:=fun c=>by have:=Nat.mod_lt c (show 0<127 by decide);omega
 intro x hx
 unfold Nq Zi at hx
 simp only [List.mem_cons,List.not_mem_nil,or_false] at hx
 rcases hx with rfl|rfl|rfl|rfl|rfl
 ·have:=h (Us 1 l);omega
 ·have:=h (Us 1 l/127);omega
 ·have:=h (Us 1 l/127/127);omega
 ·have:=h (Us 1 l/127/127/127);omega
 ·have:=h (Us 1 l/127/127/127/127);omega
def Tz (s:ByteArray):Prop:=Nz (sby s)
theorem Si {s:ByteArray} (h:Tz s):Nz (J8 s):=(Jw _).app h
def tzT (t:volume_thing):Prop:=t.cs True (fun s=>Tz s.Sweep.Site.Name) (fun f=>Tz f.key) (fun n=>Tz n.text)
theorem X6 {t:volume_thing} (h:tzT t):Nz (B1 t):=by
 cases t with
 | nil_=>exact Nz.nil
 | ic112 s=>exact (Jc _).app ((Si h).app ((Re _).app ((Jc _).app (Ri U5 _ _ _))))
 | ic114 f=>exact (Jc _).app ((Si h).app ((Jc _).app ((Re _).app ((Jc _).app (Ri L1 _ _ _)))))
 | ic116 n=>exact (Jc _).app (Si h)
def cnt (t:volume_thing):Nat:=t.cs 0 (fun s=>s.Sweep.Rays.flatten.length) (fun f=>f.Field.Vals.length) (fun _=>0)
theorem R6 {t:volume_thing} (h:okT t):(B1 t).length≤1200+139*cnt t:=by
 cases t with
 | nil_=>exact h.elim
 | ic112 s =>
  obtain ⟨⟨a1,a2,a3,a4,a5,a6,a7,a8⟩,h2,h3,h4,h5,h6⟩:=(show Qc s.Sweep from h)
  have l1:=H9 (l:=[(1:Int)]) (by intro x hx;simp at hx;subst hx;exact Lj (by decide))
  have l2:=Me a1
  have l3:=Q7 (l:=[s.Sweep.Site.X,s.Sweep.Site.Y]) (by intro x hx;simp at hx;rcases hx with rfl|rfl<;>assumption)
  have l4:=H9 (l:=[s.Sweep.Site.Z,s.Sweep.Site.Rose,s.Sweep.Site.Gates,s.Sweep.Site.Step,s.Sweep.Site.Width,s.Sweep.Tilt,s.Sweep.Time]) (by intro x hx;simp at hx;rcases hx with rfl|rfl|rfl|rfl|rfl|rfl|rfl<;>assumption)
  have l5:=Uj (e:=Hk) (c:=130) s.Sweep.Rays.flatten e0 0 (fun x hx=>T4 (by obtain ⟨r,hr,hx⟩:=List.mem_flatten.1 hx;exact h6 r hr x hx)) (by omega)
  simp only [List.length_cons,List.length_nil] at l1 l3 l4
  show (My s.Sweep).length≤1200+139*s.Sweep.Rays.flatten.length
  simp only [My,List.length_append]
  omega
 | ic114 f =>
  obtain ⟨a1,a2,a3,a4,a5,a6,a7,a8,a9⟩:=(show Rh f from h)
  have l1:=H9 (l:=[(2:Int)]) (by intro x hx;simp at hx;subst hx;exact Lj (by decide))
  have l2:=Me a1
  have l3:=Q7 (l:=[f.Field.Grid.X,f.Field.Grid.Y]) (by intro x hx;simp at hx;rcases hx with rfl|rfl<;>assumption)
  have l4:=H9 (l:=[f.Field.Grid.Size,f.Field.Grid.Wide,f.Field.Grid.High]) (by intro x hx;simp at hx;rcases hx with rfl|rfl|rfl<;>assumption)
  have l6:=H9 (l:=[f.time]) (by intro x hx;simp at hx;subst hx;exact a2)
  have l5:=Uj (e:=G8) (c:=18) f.Field.Vals ⟨0,0⟩ 0 (fun x hx=>Ff (a9 x hx)) (by omega)
  simp only [List.length_cons,List.length_nil] at l1 l3 l4 l6
  show (Mn f).length≤1200+139*f.Field.Vals.length
  simp only [Mn,List.length_append]
  omega
 | ic116 n =>
  obtain ⟨a1,a2⟩:=(show V7 n from h)
  have l1:=H9 (l:=[(3:Int),n.time]) (by intro x hx;simp at hx;rcases hx with rfl|rfl;(exact Lj (by decide));exact a1)
  have l2:=Me a2
  simp only [List.length_cons,List.length_nil] at l1
  show (Qb n).length≤1200+139*0
  simp only [Qb,List.length_append]
  omega
theorem A10 (s:ByteArray):By (sby s):=fun x hx=>by
 obtain ⟨b,_,rfl⟩:=List.mem_map.1 hx
 have:=b.toNat_lt
 omega
theorem Sh (s:ByteArray):By (J8 s):=(W0 _).app (A10 s)
theorem X5 (t:volume_thing):By (B1 t):=by
 cases t with
 | nil_=>exact Nz.nil.by
 | ic112 s=>exact (Jc _).by.app ((Sh _).app ((Re _).by.app ((Jc _).by.app (Ri U5 _ _ _).by)))
 | ic114 f=>exact (Jc _).by.app ((Sh _).app ((Jc _).by.app ((Re _).by.app ((Jc _).by.app (Ri L1 _ _ _).by))))
 | ic116 n=>exact (Jc _).by.app (Sh _)
theorem Mz {t:volume_thing} (h:okT t):(B1 t).length≤14000000:=by
 have h1:=R6 h
 have h2:cnt t≤100000:=by
  cases t with
  | nil_=>exact h.elim
  | ic112 s=>exact (show Qc s.Sweep from h).2.2.2.2.1
  | ic114 f=>exact (show Rh f from h).2.2.2.2.2.2.2.1
  | ic116 n=>exact Nat.zero_le _
 omega
def J5 (b:List Int):List Int:=Dw b.length++b
def D5 (t:volume_thing):List Int:=J5 (B1 t)++Nq (J5 (B1 t))
def Bw (t:volume_thing):List Int:=0::D5 t
theorem Y5 {t:volume_thing} (h:tzT t):Nz (J5 (B1 t)):=(Jw _).app (X6 h)
theorem Wv {t:volume_thing} (h:tzT t):Nz (D5 t):=(Y5 h).app (Wd _)
theorem Xc {F:Nat} (hF:200000≤F) {t:volume_thing} (h:okT t) (hl:(B1 t).length+100≤F):J3 F t=some (Bw t):=by
 have hlen:=Mz h
 have h9:=Ec (x:=((B1 t).length:Int)) ⟨by omega,by omega⟩
 rw [Int.toNat_natCast] at h9
 rw [J3,Zo hF h,sb,Fp (by omega) (by unfold okW;simp) (by intro x hx;simp at hx;subst hx;exact ⟨by omega,by omega⟩) (by simp),sb]
 have e:([]:List Int)++Fj [((B1 t).length:Int)]=Dw (B1 t).length:=by simp [Fj]
 simp only [e]
 rw [M6 (by omega) (by decide)]
 show (Jg F (J5 (B1 t))).bind _=_
 have hpl:(J5 (B1 t)).length=(Dw (B1 t).length).length+(B1 t).length:=by unfold J5;rw [List.length_append]
 have hby:By (J5 (B1 t)):=(W0 _).app (X5 t)
 rw [Yk (by omega) hby (by omega) (by omega),sb,M6 (by rw [List.length_append,Lp];omega) (by decide)]
 rw [show Dw (B1 t).length++B1 t=J5 (B1 t) from rfl]
 rw [M6 (by rw [List.length_append,Lp];simp;omega) (by decide)]
 rfl
end Go.Proofs.Ytifbomimeodibaa
namespace Go.Proofs.Ytifbomimeodibaa
open Go Go.RowKit Go.Eng
set_option maxRecDepth 10000
set_option linter.unusedVariables false
set_option linter.unusedSimpArgs false
abbrev RE (α:Type):=Option (Except (Value×volume_reader) (α×volume_reader))
def W7:Value:=.iface 101 (.int .i64 7)
def Rd {α:Type} (y:RE α) (o:Option (α×List Int)):Prop:=match o with
 | some x=>y=some (.ok (x.1,⟨x.2⟩))
 | none=>∃r,y=some (.error (W7,r))
theorem Rd.bind {α β:Type} {y:RE α} {o:Option (α×List Int)} (h:Rd y o) {f:α×volume_reader→RE β} {g:α×List Int→Option (β×List Int)} (hf:∀x r,o=some (x,r)→Rd (f (x,⟨r⟩)) (g (x,r))) :
  Rd (y.bind fun z=>exc z (fun e=>some (.error (e.1,volume_reader.mk e.2.b))) f) (o.bind g):=by
 cases o with
 | none=>obtain ⟨r,hr⟩:=h;rw [hr];exact ⟨_,rfl⟩
 | some x =>
  rw [show y=some (.ok (x.1,⟨x.2⟩)) from h]
  exact hf x.1 x.2 rfl
theorem Rd.ok {α:Type} {x:α} {r:List Int}:Rd (some (.ok (x,⟨r⟩))) (some (x,r)):=rfl
theorem Rd.bad {α:Type} {r:volume_reader}:Rd (α:=α) (some (.error (W7,r))) none:=⟨r,rfl⟩
theorem By.suf {l k:List Int} (h:By l) (hs:k <:+ l):By k:=fun x hx=>h x (hs.subset hx)
def rD:Nat→Bool→List Int→Option (Int×List Int)
 | 0,_,_=>none
 | _+1,_,[]=>none
 | k+1,f,c::l=>if c=0∨c=255∨(c=1∧f=false) then none else if c<128 then some (c-1,l) else (rD k false l).map fun y=>(c-128+127*y.1,y.2)
def rN (l:List Int):Option (Int×List Int):=rD 8 true l
theorem A1s:∀(k:Nat) (f:Bool) (l:List Int) (x:Int) (r:List Int),By l→rD k f l=some (x,r)→0≤x∧x<127 ^ k∧r <:+ l:=by
 intro k
 induction k with
 | zero=>intro f l x r _ h;cases h
 | succ k ih =>
  intro f l x r hb h
  cases l with
  | nil=>cases h
  | cons c l =>
   have hc:=hb c (by simp)
   have hp:(0:Int)<127 ^ k:=Int.pow_pos (by decide)
   rw [rD] at h
   split at h
   ·cases h
   ·rename_i g1
    have g2:c≠0:=fun e=>g1 (.inl e)
    have g3:c≠255:=fun e=>g1 (.inr (.inl e))
    rw [Int.pow_succ]
    split at h
    ·cases h
     exact ⟨by omega,by omega,List.suffix_cons ..⟩
    ·obtain ⟨z,hz,he⟩:=Option.map_eq_some_iff.1 h
     cases he
     obtain ⟨h1,h2,h3⟩:=ih false l z.1 z.2 (fun x hx=>hb x (by simp [hx])) hz
     exact ⟨by omega,by omega,h3.trans (List.suffix_cons ..)⟩
theorem D1 {l:List Int} {x:Int} {r:List Int} (hb:By l) (h:rN l=some (x,r)):0≤x∧x<67675234241018881∧r <:+ l:=by
 have:=A1s 8 true l x r hb h
 exact this
theorem A0t (p:List Int) (hp:By p):∀(m i k:Nat) (n:Int),i+k=8→k<m→0≤n→n≤127 ^ i →
  Rd (Bg ⟨p⟩ (p.take 8) m i n (127 ^ i:Nat)) ((rD k (i==0) (p.drop i)).map fun y=>(n+127 ^ i*y.1,y.2)):=by
 intro m
 induction m with
 | zero=>intro i k n _ h;omega
 | succ m ih =>
  intro i k n hik hk hn0 hn
  rw [Bg,Ed]
  have hpi:(127:Int) ^ i≤127 ^ 8:=by
   have:(127:Nat) ^ i≤127 ^ 8:=Nat.pow_le_pow_right (by decide) (by omega)
   exact_mod_cast this
  have e8:(127:Int) ^ 8=67675234241018881:=by decide
  have hp0:(0:Int)<127 ^ i:=Int.pow_pos (by decide)
  have ecast:((127 ^ i:Nat):Int)=127 ^ i:=by push_cast;rfl
  rw [ecast]
  by_cases hb:i<(p.take 8).length
  ·have hb':i<p.length∧i<8:=by rw [List.length_take] at hb;omega
   obtain ⟨k,rfl⟩:∃k',k=k'+1:=⟨k-1,by omega⟩
   have hx:=hp p[i] (List.getElem_mem hb'.1)
   rw [B7 (dT (by omega)),Ft i p[i] rfl (by rw [List.getElem?_take];rw [if_pos hb'.2];exact List.getElem?_eq_getElem hb'.1),List.drop_eq_getElem_cons hb'.1,rD]
   have hp7:(127:Int) ^ i≤127 ^ 7:=by
    have:(127:Nat) ^ i≤127 ^ 7:=Nat.pow_le_pow_right (by decide) (by omega)
    exact_mod_cast this
   have e7:(127:Int) ^ 7=532875860165503:=by decide
   have hmul:p[i]*127 ^ i≤256*127 ^ i:=Int.mul_le_mul_of_nonneg_right (by omega) (by omega)
   have hmul0:0≤p[i]*127 ^ i:=Int.mul_nonneg (by omega) (by omega)
   by_cases hc:p[i]=0∨p[i]=255∨(p[i]=1∧(i==0)=false)
   ·rw [if_pos hc,B7 ?_]
    ·exact Rd.bad
    ·rcases hc with h|h|⟨h1,h2⟩
     ·simp [h]
     ·simp [h]
     ·simp at h2
      simp [h1];omega
   ·rw [if_neg hc,B2 ?_]
    ·by_cases hs:p[i]<128
     ·have e1:(p[i]-1)*127 ^ i=p[i]*127 ^ i-127 ^ i:=by rw [Int.sub_mul,Int.one_mul]
      rw [if_pos hs,B7 (dT hs),ckb (by omega),Kp (i+1) (by omega) rfl (by simp;omega),ckb (by omega),ckb (by omega),ckb (by omega),ckb (by omega)]
      show some (Except.ok (n+(p[i]-1)*127 ^ i,volume_reader.mk (p.drop (i+1))))=some (.ok (n+127 ^ i*(p[i]-1),⟨p.drop (i+1)⟩))
      rw [Int.mul_comm (127 ^ i) (p[i]-1)]
     ·have e1:(p[i]-128)*127 ^ i=p[i]*127 ^ i-128*127 ^ i:=by rw [Int.sub_mul]
      have e2:(p[i]-128)*127 ^ i≤126*127 ^ i:=Int.mul_le_mul_of_nonneg_right (by have:p[i]≠255:=fun e=>hc (.inr (.inl e));omega) (by omega)
      have e3:0≤(p[i]-128)*127 ^ i:=Int.mul_nonneg (by omega) (by omega)
      have e4:(127:Int) ^ (i+1)=127 ^ i*127:=Int.pow_succ ..
      rw [if_neg hs,B2 (dF hs),Ef,ckb (by omega),ckb (by omega),ckb (by omega),ckb (by omega),ckb (by omega),ckb (by omega)]
      have:=ih (i+1) k (n+(p[i]-128)*127 ^ i) (by omega) (by omega) (by omega) (by rw [e4];omega)
      have ecast2:((127 ^ (i+1):Nat):Int)=127 ^ i*127:=by rw [←e4];push_cast;rfl
      rw [ecast2] at this
      rw [show ((i:Int)+1)=((i+1:Nat):Int) by omega]
      rw [Option.map_map]
      have ef:(i+1==0)=false:=rfl
      rw [ef] at this
      cases hr:rD k false (p.drop (i+1)) with
      | none=>rw [hr] at this;exact this
      | some y =>
       rw [hr] at this
       have this':_=some (Except.ok (n+(p[i]-128)*127 ^ i+127 ^ (i+1)*y.1,volume_reader.mk y.2)):=this
       show _=some (Except.ok (n+127 ^ i*(p[i]-128+127*y.1),volume_reader.mk y.2))
       rw [this',e4,Int.mul_add,Int.mul_comm (127 ^ i) (p[i]-128),←Int.add_assoc,←Int.mul_assoc]
    ·have h1:¬p[i]=0:=fun e=>hc (.inl e)
     have h2:¬p[i]=255:=fun e=>hc (.inr (.inl e))
     simp only [beq_eq_false_iff_ne.2 h1,beq_eq_false_iff_ne.2 h2,cond_false]
     by_cases h3:p[i]=1
     ·have h4:i=0:=by
       rcases Nat.eq_zero_or_pos i with h|h
       ·exact h
       ·exact absurd (.inr (.inr ⟨h3,by simp;omega⟩)) hc
      simp [h3,h4]
     ·simp [h3]
  ·rw [B2 (dF (by omega)),Ee]
   have:rD k (i==0) (p.drop i)=none:=by
    rw [List.length_take] at hb
    rcases Nat.eq_zero_or_pos k with h|h
    ·subst h;rfl
    ·rw [List.drop_of_length_le (by omega)]
     obtain ⟨k,rfl⟩:∃k',k=k'+1:=⟨k-1,by omega⟩
     rfl
   rw [this]
   exact Rd.bad
theorem D9 {F:Nat} (hF:1000≤F) {p:List Int} (hp:By p):Rd (Ag F ⟨p⟩) (rN p):=by
 rw [Ag]
 have h:(Hg p (0:Int) (if 8<((p.length:Nat):Int) then 8 else ((p.length:Nat):Int))).bind (fun l80=>Bg ⟨p⟩ l80 F 0 0 1)=Bg ⟨p⟩ (p.take 8) F 0 0 1:=by
  by_cases h8:8<p.length
  ·rw [if_pos (by omega),Pd 8 (by rfl) (by rfl) (by omega)]
  ·rw [if_neg (by omega),Pd p.length (by rfl) (by rfl) (by omega),List.take_of_length_le (by omega),List.take_of_length_le (by omega)]
 show Rd ((Hg p (0:Int) (if 8<((p.length:Nat):Int) then 8 else ((p.length:Nat):Int))).bind (fun l80=>Bg ⟨p⟩ l80 F 0 0 1)) _
 rw [h]
 have:=A0t p hp F 0 8 0 (by omega) (by omega) (by omega) (by decide)
 cases hr:rN p with
 | none =>
  rw [show rD 8 (0==0) (p.drop 0)=none from hr] at this
  exact this
 | some y =>
  rw [show rD 8 (0==0) (p.drop 0)=some y from hr] at this
  have this':_=some (Except.ok (0+127 ^ 0*y.1,volume_reader.mk y.2)):=this
  rw [show (0:Int)+127 ^ 0*y.1=y.1 by simp] at this'
  exact this'
end Go.Proofs.Ytifbomimeodibaa
namespace Go.Proofs.Ytifbomimeodibaa
open Go Go.RowKit Go.Eng
set_option maxRecDepth 10000
set_option linter.unusedVariables false
set_option linter.unusedSimpArgs false
def unz (n:Int):Int:=if n%2=1 then -((n+1)/2) else n/2
def rI (l:List Int):Option (Int×List Int):=(rN l).bind fun y=>some (unz y.1,y.2)
def rT (l:List Int):Option (ByteArray×List Int):=(rN l).bind fun y=>if y.1>(y.2.length:Int) then none else some (bst (y.2.take y.1.toNat),y.2.drop y.1.toNat)
def rS (l:List Int):Option (api_Span×List Int):=(rI l).bind fun y=>(rN y.2).bind fun z=>some (⟨y.1,y.1+z.1⟩,z.2)
def rE (l:List Int):Option (api_Echo×List Int):=(rN l).bind fun k=>if k.1=1 then (rN k.2).bind fun h=>some (⟨k.1,⟨0,h.1⟩,(⟨0,0⟩,⟨0,0⟩),0,⟨0,0⟩,⟨0,0⟩,⟨0,0⟩⟩,h.2)
 else (rS k.2).bind fun p=>(rS p.2).bind fun r=>(rS r.2).bind fun m=>(rN m.2).bind fun s=>if k.1=3 then (rS s.2).bind fun a=>(rS a.2).bind fun b=>(rS b.2).bind fun t=>some (⟨k.1,p.1,(a.1,b.1),s.1,r.1,m.1,t.1⟩,t.2)
  else some (⟨k.1,p.1,(⟨0,0⟩,⟨0,0⟩),s.1,r.1,m.1,⟨0,0⟩⟩,s.2)
theorem Be {α β:Type} {o:Option (α×List Int)} {f:α×List Int→Option β} {y:β} (h:o.bind f=some y):∃x r,o=some (x,r)∧f (x,r)=some y:=by
 obtain ⟨⟨x,r⟩,h1,h2⟩:=Option.bind_eq_some_iff.1 h
 exact ⟨x,r,h1,h2⟩
def A0k (x:Int):Prop:=-67675234241018881≤x∧x≤67675234241018881
theorem A17 {n:Int} (h:0≤n∧n<67675234241018881):A0k (unz n):=by
 unfold unz A0k;split<;>omega
theorem Nl {l:List Int} {x:Int} {r:List Int} (hb:By l) (h:rI l=some (x,r)):A0k x∧r <:+ l:=by
 obtain ⟨n,r',h1,h2⟩:=Be h
 cases h2
 obtain ⟨a,b,c⟩:=D1 hb h1
 exact ⟨A17 ⟨a,b⟩,c⟩
theorem W5 {l:List Int} {x:ByteArray} {r:List Int} (hb:By l) (h:rT l=some (x,r)):r <:+ l∧x.size≤l.length:=by
 obtain ⟨n,r',h1,h2⟩:=Be h
 obtain ⟨a,b,c⟩:=D1 hb h1
 split at h2
 ·cases h2
 ·rename_i hg
  cases h2
  refine ⟨(List.drop_suffix ..).trans c,?_⟩
  have:=c.length_le
  show (bst (r'.take n.toNat)).size≤_
  unfold bst
  simp only [ByteArray.size,List.size_toArray,List.length_map,List.length_take]
  simp only at hg
  omega
def okS' (s:api_Span):Prop:=-67675234241018881≤s.Lo∧s.Lo≤s.Hi∧s.Hi≤200000000000000000
theorem okS'.ok {s:api_Span} (h:okS' s):okS s:=by obtain ⟨a,b,c⟩:=h;exact ⟨by omega,b,by omega⟩
theorem okS'.z:okS' ⟨0,0⟩:=by unfold okS';decide
theorem K7 {l:List Int} {x:api_Span} {r:List Int} (hb:By l) (h:rS l=some (x,r)):okS' x∧r <:+ l:=by
 obtain ⟨lo,r1,h1,h2⟩:=Be h
 obtain ⟨n,r2,h3,h4⟩:=Be h2
 cases h4
 obtain ⟨⟨a,b⟩,c⟩:=Nl hb h1
 obtain ⟨d,e,f⟩:=D1 (hb.suf c) h3
 exact ⟨⟨a,by simp only;omega,by simp only;omega⟩,f.trans c⟩
theorem Tt {l:List Int} {x:api_Echo} {r:List Int} (hb:By l) (h:rE l=some (x,r)):r <:+ l:=by
 obtain ⟨k,r0,h0,h⟩:=Be h
 obtain ⟨a0,b0,c0⟩:=D1 hb h0
 have hb0:=hb.suf c0
 split at h
 ·obtain ⟨n,r1,h1,h⟩:=Be h
  cases h
  obtain ⟨a1,b1,c1⟩:=D1 hb0 h1
  exact c1.trans c0
 ·obtain ⟨p,r1,h1,h⟩:=Be h
  obtain ⟨p1,c1⟩:=K7 hb0 h1
  have hb1:=hb0.suf c1
  obtain ⟨q,r2,h2,h⟩:=Be h
  obtain ⟨p2,c2⟩:=K7 hb1 h2
  have hb2:=hb1.suf c2
  obtain ⟨m,r3,h3,h⟩:=Be h
  obtain ⟨p3,c3⟩:=K7 hb2 h3
  have hb3:=hb2.suf c3
  obtain ⟨s,r4,h4,h⟩:=Be h
  obtain ⟨a4,b4,c4⟩:=D1 hb3 h4
  have hb4:=hb3.suf c4
  have hs:s∈[s]:=by simp
  split at h
  ·obtain ⟨a,r5,h5,h⟩:=Be h
   obtain ⟨p5,c5⟩:=K7 hb4 h5
   have hb5:=hb4.suf c5
   obtain ⟨b,r6,h6,h⟩:=Be h
   obtain ⟨p6,c6⟩:=K7 hb5 h6
   have hb6:=hb5.suf c6
   obtain ⟨t,r7,h7,h⟩:=Be h
   obtain ⟨p7,c7⟩:=K7 hb6 h7
   cases h
   exact c7.trans (c6.trans (c5.trans (c4.trans (c3.trans (c2.trans (c1.trans c0))))))
  ·cases h
   exact c4.trans (c3.trans (c2.trans (c1.trans c0)))
theorem Mc {F:Nat} (hF:1000≤F) {p:List Int} (hp:By p):Rd (Bo F ⟨p⟩) (rI p):=by
 rw [Bo,rI]
 refine (D9 hF hp).bind fun n r h=>?_
 obtain ⟨a,b,c⟩:=D1 hp h
 have e:K0 n 2=some (n%2):=by
  unfold K0
  rw [if_neg (by decide),Int.tmod_eq_emod_of_nonneg a]
 show Rd ((K0 n 2).bind _) _
 rw [e,sb]
 unfold unz
 by_cases h1:n%2=1
 ·rw [if_pos h1,B7 (by simp [h1]),ckb (by omega)]
  have ew:IntKind.i64.wrap (0-(n+1))=-(n+1):=by
   simp only [IntKind.wrap,IntKind.signed,IntKind.bits]
   simp
   omega
  have eq:N3 (IntKind.i64.wrap (0-(n+1))) 2=some (-((n+1)/2)):=by
   rw [ew]
   unfold N3
   rw [if_neg (by decide),Int.neg_tdiv,Int.tdiv_eq_ediv_of_nonneg (by omega)]
   unfold ck
   rw [if_pos (by omega)]
  show Rd ((N3 (IntKind.i64.wrap (0-(n+1))) 2).bind _) _
  rw [eq]
  exact Rd.ok
 ·rw [if_neg h1,B2 (by simp [h1])]
  have eq:N3 n 2=some (n/2):=by
   unfold N3
   rw [if_neg (by decide),Int.tdiv_eq_ediv_of_nonneg a]
   unfold ck
   rw [if_pos (by omega)]
  show Rd ((N3 n 2).bind _) _
  rw [eq]
  exact Rd.ok
theorem Vb {F:Nat} (hF:1000≤F) {p:List Int} (hp:By p):Rd (De F ⟨p⟩) (rT p):=by
 rw [De,rT]
 refine (D9 hF hp).bind fun n r h=>?_
 obtain ⟨a,b,c⟩:=D1 hp h
 show Rd (bif decide (n>(r.length:Int)) then _ else _) (if n>(r.length:Int) then _ else _)
 by_cases h1:n>(r.length:Int)
 ·rw [if_pos h1,B7 (dT h1)];exact Rd.bad
 ·rw [if_neg h1,B2 (dF h1),F7]
  have en:n=((n.toNat:Nat):Int):=by omega
  rw [Pd n.toNat rfl en (show n.toNat≤r.length by omega),Kp n.toNat en rfl (show n.toNat≤r.length by omega)]
  exact Rd.ok
theorem Pt {F:Nat} (hF:1000≤F) {p:List Int} (hp:By p):Rd (Bn F ⟨p⟩) (rS p):=by
 rw [Bn,rS]
 refine (Mc hF hp).bind fun x r h=>?_
 obtain ⟨⟨a,b⟩,c⟩:=Nl hp h
 refine (D9 hF (hp.suf c)).bind fun n r2 h2=>?_
 obtain ⟨d,e,f⟩:=D1 (hp.suf c) h2
 rw [ckb (by simp only;omega)]
 exact Rd.ok
theorem A0s {F:Nat} (hF:1000≤F) {p:List Int} (hp:By p):Rd (F4 F ⟨p⟩) (rE p):=by
 rw [F4,rE]
 refine (D9 hF hp).bind fun k r0 h0=>?_
 obtain ⟨a0,b0,c0⟩:=D1 hp h0
 have hb0:=hp.suf c0
 show Rd (bif k==1 then _ else _) (if k=1 then _ else _)
 by_cases hk:k=1
 ·rw [if_pos hk,B7 (by simp [hk])]
  refine (D9 hF hb0).bind fun n r h=>?_
  exact Rd.ok
 ·rw [if_neg hk,B2 (by simp [hk])]
  refine (Pt hF hb0).bind fun p r1 h1=>?_
  have hb1:=hb0.suf (K7 hb0 h1).2
  refine (Pt hF hb1).bind fun q r2 h2=>?_
  have hb2:=hb1.suf (K7 hb1 h2).2
  refine (Pt hF hb2).bind fun m r3 h3=>?_
  have hb3:=hb2.suf (K7 hb2 h3).2
  refine (D9 hF hb3).bind fun s r4 h4=>?_
  have hb4:=hb3.suf (D1 hb3 h4).2.2
  show Rd (bif k==3 then _ else _) (if k=3 then _ else _)
  by_cases hk3:k=3
  ·rw [if_pos hk3,B7 (by simp [hk3])]
   refine (Pt hF hb4).bind fun a r5 h5=>?_
   have hb5:=hb4.suf (K7 hb4 h5).2
   refine (Pt hF hb5).bind fun b r6 h6=>?_
   have hb6:=hb5.suf (K7 hb5 h6).2
   refine (Pt hF hb6).bind fun t r7 h7=>?_
   exact Rd.ok
  ·rw [if_neg hk3,B2 (by simp [hk3])]
   exact Rd.ok
def rL {α:Type} [DecidableEq α] (rd:List Int→Option (α×List Int)):Nat→Nat→α→List Int→Option (List α×List Int)
 | 0,_,_,_=>none
 | m+1,n,b,l=>if n=0 then some ([],l) else (rN l).bind fun y=>if y.1>(n:Int) then none else if n=y.1.toNat then some (List.replicate n b,y.2) else
   (rd y.2).bind fun z=>if z.1=b then none else (rL rd m (n-y.1.toNat-1) z.1 z.2).map fun u=>(List.replicate y.1.toNat b++z.1::u.1,u.2)
theorem Y8 {α:Type} [DecidableEq α] {rd:List Int→Option (α×List Int)} (hrd:∀l x r,By l→rd l=some (x,r)→r <:+ l):∀(m n:Nat) (b:α) (l:List Int) (u:List α) (r:List Int),By l→rL rd m n b l=some (u,r)→u.length=n∧r <:+ l:=by
 intro m
 induction m with
 | zero=>intro n b l u r _ h;cases h
 | succ m ih =>
  intro n b l u r hb h
  rw [rL] at h
  split at h
  ·cases h;rename_i h0;exact ⟨h0.symm,List.suffix_refl _⟩
  ·obtain ⟨k,r1,h1,h⟩:=Be h
   obtain ⟨a,b1,c⟩:=D1 hb h1
   simp only at h
   split at h
   ·cases h
   ·split at h
    ·cases h;exact ⟨by simp,c⟩
    ·obtain ⟨z,r2,h2,h⟩:=Be h
     simp only at h
     split at h
     ·cases h
     ·obtain ⟨⟨u',r'⟩,h3,h4⟩:=Option.map_eq_some_iff.1 h
      cases h4
      have hc:=hrd _ _ _ (hb.suf c) h2
      obtain ⟨i1,i2⟩:=ih _ _ _ _ _ (hb.suf (hc.trans c)) h3
      refine ⟨?_,i2.trans (hc.trans c)⟩
      simp only [List.length_append,List.length_replicate,List.length_cons,i1]
      omega
theorem A0z (F:Nat) (N:Int) (b:api_Span) (k2:Int→Int→List Int→List api_Span→RE (List api_Span)) (y:Int×volume_reader) (hy:y.1≤1000000):∀(m i:Nat) (out:List api_Span),(i:Int)≤y.1→y.1-i<m→out.length+(y.1-i)≤2000000 →
  Bc F N b.Lo b.Hi k2 y m i out=C6 F N b.Lo b.Hi k2 y (out++List.replicate (y.1-i).toNat b):=by
 intro m
 induction m with
 | zero=>intro i out h1 h2;omega
 | succ m ih =>
  intro i out h1 h2 h3
  rw [Bc,Cx]
  by_cases hb:(i:Int)<y.1
  ·rw [B7 (dT hb),M6 (by simp;omega) (by decide),ckb (by omega)]
   have:=ih (i+1) (out++[b]) (by omega) (by omega) (by simp;omega)
   show Bc F N b.Lo b.Hi k2 y m ((i:Int)+1) (out++[b])=_
   rw [show ((i:Int)+1)=((i+1:Nat):Int) by omega,this,List.append_assoc]
   congr 2
   rw [show (y.1-(i:Int)).toNat=(y.1-((i+1:Nat):Int)).toNat+1 by omega,List.replicate_succ]
   rfl
  ·rw [B2 (dF hb),show (y.1-(i:Int)).toNat=0 by omega]
   simp
theorem A1w (F:Nat) (hF:200000≤F) (N:Nat) (hN:N≤100000):∀(m m':Nat) (b:api_Span) (l:List Int) (out:List api_Span),By l→out.length≤N→N-out.length<m→N-out.length<m' →
  Rd (B5 F N m b.Lo b.Hi l out) ((rL rS m' (N-out.length) b l).map fun u=>(out++u.1,u.2)):=by
 intro m
 induction m with
 | zero=>intro m' b l out _ _ h;omega
 | succ m ih =>
  intro m' b l out hb ho hm hm'
  obtain ⟨m',rfl⟩:∃k,m'=k+1:=⟨m'-1,by omega⟩
  rw [B5,C4,rL]
  by_cases h0:N-out.length=0
  ·rw [if_pos h0,B2 (dF (by omega)),C5]
   show _=some (Except.ok (out++[],volume_reader.mk l))
   rw [List.append_nil]
  ·rw [if_neg h0,B7 (dT (by omega)),Option.map_bind]
   refine (D9 (by omega) hb).bind fun k r h=>?_
   obtain ⟨a,b1,c⟩:=D1 hb h
   rw [ckb (by omega)]
   simp only [Function.comp]
   by_cases hk:k>((N-out.length:Nat):Int)
   ·rw [if_pos hk,B7 (dT (by omega))];exact Rd.bad
   ·rw [if_neg hk,B2 (dF (by omega)),Cy]
    have hr:=A0z F N b (B5 F N m) (k,⟨r⟩) (by simp only;omega) F 0 out (by simp only;omega) (by simp only;omega) (by simp only;omega)
    rw [show (0:Int)=((0:Nat):Int) from rfl,hr,C6,show (k-((0:Nat):Int)).toNat=k.toNat by omega]
    by_cases hk2:N-out.length=k.toNat
    ·rw [if_pos hk2,B2 (dF (by simp;omega))]
     cases m with
     | zero=>omega
     | succ m =>
      rw [B5,C4,B2 (dF (by simp;omega)),C5,hk2]
      rfl
    ·rw [if_neg hk2,B7 (dT (by simp;omega)),Option.map_bind]
     have hbr:=hb.suf c
     refine (Pt (by omega) hbr).bind fun x r2 h2=>?_
     have hb2:=hbr.suf (K7 hbr h2).2
     simp only [Function.comp]
     rw [Rk x b]
     by_cases hx:x=b
     ·rw [if_pos hx,B7 (dT hx)];exact Rd.bad
     ·rw [if_neg hx,B2 (dF hx),Cz,M6 (by simp;omega) (by decide)]
      have:=ih m' x r2 (out++List.replicate k.toNat b++[x]) hb2 (by simp;omega) (by simp;omega) (by simp;omega)
      rw [show N-(out++List.replicate k.toNat b++[x]).length=N-out.length-k.toNat-1 by simp;omega] at this
      rw [Option.map_map]
      simp only [Function.comp_def]
      simpa only [List.append_assoc,List.cons_append,List.nil_append] using this
theorem Z8 {F:Nat} (hF:200000≤F) {N:Nat} (hN:N≤100000) {l:List Int} (hl:By l) (b:api_Span):Rd (Cg F ⟨l⟩ N b) (rL rS (N+1) N b l):=by
 rw [Cg]
 have:=A1w F hF N hN F (N+1) b l [] hl (by simp) (by simp;omega) (by simp)
 simpa using this
theorem A0w (F:Nat) (N:Int) (b:api_Echo) (k2:Int→Int→Int→Int→Int→Int→Int→Int→Int→Int→Int→Int→Int→Int→List Int→List api_Echo→RE (List api_Echo)) (y:Int×volume_reader) (hy:y.1≤1000000):∀(m i:Nat) (out:List api_Echo),(i:Int)≤y.1→y.1-i<m→out.length+(y.1-i)≤2000000 →
  Bb F N b.Kind b.Power.Lo b.Match.Lo b.Match.Hi b.Turn.Lo b.Turn.Hi b.Power.Hi b.Steps.1.Lo b.Steps.1.Hi b.Steps.2.Lo b.Steps.2.Hi b.Spread b.Ratio.Lo b.Ratio.Hi k2 y m i out=C3 F N b.Kind b.Power.Lo b.Match.Lo b.Match.Hi b.Turn.Lo b.Turn.Hi b.Power.Hi b.Steps.1.Lo b.Steps.1.Hi b.Steps.2.Lo b.Steps.2.Hi b.Spread b.Ratio.Lo b.Ratio.Hi k2 y (out++List.replicate (y.1-i).toNat b):=by
 intro m
 induction m with
 | zero=>intro i out h1 h2;omega
 | succ m ih =>
  intro i out h1 h2 h3
  rw [Bb,Cu]
  by_cases hb:(i:Int)<y.1
  ·rw [B7 (dT hb),M6 (by simp;omega) (by decide),ckb (by omega)]
   have:=ih (i+1) (out++[b]) (by omega) (by omega) (by simp;omega)
   show Bb F N b.Kind b.Power.Lo b.Match.Lo b.Match.Hi b.Turn.Lo b.Turn.Hi b.Power.Hi b.Steps.1.Lo b.Steps.1.Hi b.Steps.2.Lo b.Steps.2.Hi b.Spread b.Ratio.Lo b.Ratio.Hi k2 y m ((i:Int)+1) (out++[b])=_
   rw [show ((i:Int)+1)=((i+1:Nat):Int) by omega,this,List.append_assoc]
   congr 2
   rw [show (y.1-(i:Int)).toNat=(y.1-((i+1:Nat):Int)).toNat+1 by omega,List.replicate_succ]
   rfl
  ·rw [B2 (dF hb),show (y.1-(i:Int)).toNat=0 by omega]
   simp
theorem A1v (F:Nat) (hF:200000≤F) (N:Nat) (hN:N≤100000):∀(m m':Nat) (b:api_Echo) (l:List Int) (out:List api_Echo),By l→out.length≤N→N-out.length<m→N-out.length<m' →
  Rd (B4 F N m b.Kind b.Power.Lo b.Match.Lo b.Match.Hi b.Turn.Lo b.Turn.Hi b.Power.Hi b.Steps.1.Lo b.Steps.1.Hi b.Steps.2.Lo b.Steps.2.Hi b.Spread b.Ratio.Lo b.Ratio.Hi l out) ((rL rE m' (N-out.length) b l).map fun u=>(out++u.1,u.2)):=by
 intro m
 induction m with
 | zero=>intro m' b l out _ _ h;omega
 | succ m ih =>
  intro m' b l out hb ho hm hm'
  obtain ⟨m',rfl⟩:∃k,m'=k+1:=⟨m'-1,by omega⟩
  rw [B4,C1,rL]
  by_cases h0:N-out.length=0
  ·rw [if_pos h0,B2 (dF (by omega)),C2]
   show _=some (Except.ok (out++[],volume_reader.mk l))
   rw [List.append_nil]
  ·rw [if_neg h0,B7 (dT (by omega)),Option.map_bind]
   refine (D9 (by omega) hb).bind fun k r h=>?_
   obtain ⟨a,b1,c⟩:=D1 hb h
   rw [ckb (by omega)]
   simp only [Function.comp]
   by_cases hk:k>((N-out.length:Nat):Int)
   ·rw [if_pos hk,B7 (dT (by omega))];exact Rd.bad
   ·rw [if_neg hk,B2 (dF (by omega)),Cv]
    have hr:=A0w F N b (B4 F N m) (k,⟨r⟩) (by simp only;omega) F 0 out (by simp only;omega) (by simp only;omega) (by simp only;omega)
    rw [show (0:Int)=((0:Nat):Int) from rfl,hr,C3,show (k-((0:Nat):Int)).toNat=k.toNat by omega]
    by_cases hk2:N-out.length=k.toNat
    ·rw [if_pos hk2,B2 (dF (by simp;omega))]
     cases m with
     | zero=>omega
     | succ m =>
      rw [B4,C1,B2 (dF (by simp;omega)),C2,hk2]
      rfl
    ·rw [if_neg hk2,B7 (dT (by simp;omega)),Option.map_bind]
     have hbr:=hb.suf c
     refine (A0s (by omega) hbr).bind fun x r2 h2=>?_
     have hb2:=hbr.suf (Tt hbr h2)
     simp only [Function.comp]
     rw [Rb x b]
     by_cases hx:x=b
     ·rw [if_pos hx,B7 (dT hx)];exact Rd.bad
     ·rw [if_neg hx,B2 (dF hx),Cw,M6 (by simp;omega) (by decide)]
      have:=ih m' x r2 (out++List.replicate k.toNat b++[x]) hb2 (by simp;omega) (by simp;omega) (by simp;omega)
      rw [show N-(out++List.replicate k.toNat b++[x]).length=N-out.length-k.toNat-1 by simp;omega] at this
      rw [Option.map_map]
      simp only [Function.comp_def]
      simpa only [List.append_assoc,List.cons_append,List.nil_append] using this
theorem Ya {F:Nat} (hF:200000≤F) {N:Nat} (hN:N≤100000) {l:List Int} (hl:By l) (b:api_Echo):Rd (Cf F ⟨l⟩ N b) (rL rE (N+1) N b l):=by
 rw [Cf]
 have:=A1v F hF N hN F (N+1) b l [] hl (by simp) (by simp;omega) (by simp)
 simpa using this
end Go.Proofs.Ytifbomimeodibaa
namespace Go.Proofs.Ytifbomimeodibaa
open Go Go.RowKit Go.Eng
set_option maxRecDepth 10000
set_option linter.unusedVariables false
set_option linter.unusedSimpArgs false
def Qa (s:ByteArray):Bool:=(!(sEq s ⟨#[]⟩))&&(decide ((s.size:Int)≤12)&&(decide ((Sr s 0).getD 0≥97)&&(decide ((Sr s 0).getD 0≤122)&&!Zy s)))
theorem Vz (F:Nat) (s:ByteArray):Lf F s=some (Qa s):=by
 have hg:sEq s ⟨#[]⟩=false→Sr s 0=some ((Sr s 0).getD 0):=by
  intro h
  have hs:s.size≠0:=by
   intro h0
   have:s=⟨#[]⟩:=by
    cases s with
    | mk d =>
     have:d=#[]:=Array.eq_empty_of_size_eq_zero h0
     rw [this]
   rw [Rj.2 this] at h
   cases h
  unfold Sr
  rw [if_pos (by omega)]
  rfl
 unfold Lf Qa Du
 cases h1:sEq s ⟨#[]⟩ with
 | true=>simp [gd]
 | false =>
  have e:=hg h1
  generalize hu:(Sr s 0).getD 0=u at e ⊢
  rw [e]
  by_cases h2:(s.size:Int)≤12
  ·by_cases h3:u≥97
   ·simp [gd,h2,h3]
   ·simp [gd,h2,h3]
  ·simp [gd,h2]
def inB (x lo hi:Int):Prop:=lo≤x∧x≤hi
instance (x lo hi:Int):Decidable (inB x lo hi):=by unfold inB;infer_instance
theorem Sm {x lo hi:Int}:Af x lo hi=decide (inB x lo hi):=by
 unfold Af inB
 by_cases h:lo≤x<;>simp [h]
def R7 (s:api_Site):Prop:=Qa s.Name=true∧inB s.X (-1048576) 1048576∧inB s.Y (-1048576) 1048576∧inB s.Z 0 20000∧inB s.Rose 1 90∧inB s.Gates 1 200∧inB s.Step 50 2000∧inB s.Width 0 8
instance (s:api_Site):Decidable (R7 s):=by unfold R7;infer_instance
theorem Wb (F:Nat) (s:api_Site):∃e,Gn F s=some e∧(e=0↔R7 s):=by
 unfold Gn Es Dy R7
 rw [Vz,sb]
 simp only [Sm]
 cases Qa s.Name with
 | false=>exact ⟨10,by simp,by simp⟩
 | true =>
  by_cases h1:inB s.X (-1048576) 1048576
  ·by_cases h2:inB s.Y (-1048576) 1048576
   ·by_cases h3:inB s.Z 0 20000
    ·by_cases h4:inB s.Rose 1 90
     ·by_cases h5:inB s.Gates 1 200
      ·by_cases h6:inB s.Step 50 2000
       ·by_cases h7:inB s.Width 0 8
        ·exact ⟨0,by simp [h1,h2,h3,h4,h5,h6,h7],by simp [h1,h2,h3,h4,h5,h6,h7]⟩
        ·exact ⟨3,by simp [h1,h2,h3,h4,h5,h6,h7],by simp [h1,h2,h3,h4,h5,h6,h7]⟩
       ·exact ⟨3,by simp [h1,h2,h3,h4,h5,h6],by simp [h1,h2,h3,h4,h5,h6]⟩
      ·exact ⟨3,by simp [h1,h2,h3,h4,h5],by simp [h1,h2,h3,h4,h5]⟩
     ·exact ⟨3,by simp [h1,h2,h3,h4],by simp [h1,h2,h3,h4]⟩
    ·exact ⟨3,by simp [h1,h2,h3],by simp [h1,h2,h3]⟩
   ·exact ⟨3,by simp [h1,h2],by simp [h1,h2]⟩
  ·exact ⟨3,by simp [h1],by simp [h1]⟩
def Qg (g:api_Grid):Prop:=inB g.X (-1048576) 1048576∧inB g.Y (-1048576) 1048576∧inB g.Size 1 10000∧inB g.Wide 1 64∧inB g.High 1 64
theorem Vt (g:api_Grid):Bd g=0↔Qg g:=by
 unfold Bd Dh Qg
 simp only [Sm]
 by_cases h1:inB g.X (-1048576) 1048576
 ·by_cases h2:inB g.Y (-1048576) 1048576
  ·by_cases h3:inB g.Size 1 10000
   ·by_cases h4:inB g.Wide 1 64
    ·by_cases h5:inB g.High 1 64<;>simp [h1,h2,h3,h4,h5]
    ·simp [h1,h2,h3,h4]
   ·simp [h1,h2,h3]
  ·simp [h1,h2]
 ·simp [h1]
def Kf (s:api_Span) (lo hi:Int):Prop:=lo≤s.Lo∧s.Lo≤s.Hi∧s.Hi≤hi
instance (s:api_Span) (lo hi:Int):Decidable (Kf s lo hi):=by unfold Kf;infer_instance
theorem Ry {s:api_Span} {lo hi:Int}:A9 s lo hi=decide (Kf s lo hi):=by
 unfold A9 Kf
 by_cases h:lo≤s.Lo
 ·by_cases h2:s.Lo≤s.Hi<;>simp [h,h2]
 ·simp [h]
theorem Nk {x lo hi:Int}:At x lo hi=decide (inB x lo hi):=by
 unfold At inB
 by_cases h:lo≤x<;>simp [h]
def Hs (s:api_Span):Prop:=-32768≤s.Lo∧s.Lo≤32767∧s.Lo≤s.Hi∧s.Hi≤s.Lo+65535
instance (s:api_Span):Decidable (Hs s):=by unfold Hs;infer_instance
theorem Yn (p:List api_Span) (k2:Int→Option Bool) (i:Nat) (u:api_Span) (h:p[i]? = some u) (hi:i<p.length) (h9:i≤100):Fe p k2 i=bif decide (Hs u) then k2 (i+1) else some false:=by
 have e1:-9000000000000000000≤(i:Int)+1∧(i:Int)+1≤9000000000000000000:=by omega
 rw [Fe,B7 (dT (by omega)),Ft i u rfl h]
 simp only [Nk]
 by_cases h1:inB u.Lo (-32768) 32767
 ·have h1':=h1
  obtain ⟨a,b⟩:=h1'
  simp only [dT h1]
  rw [gdT (by rfl),ckb (by omega),gdT (by rfl),ckb (by omega)]
  obtain ⟨z,hz⟩:∃z,z=u.Lo+65536-1:=⟨_,rfl⟩
  rw [←hz]
  by_cases h2:inB u.Hi u.Lo z
  ·have ht:Hs u:=⟨a,b,h2.1,by have:=h2.2;omega⟩
   rw [dT h2,dT ht]
   rw [B2 (by rfl),B7 (by rfl),ckb e1]
  ·have ht:¬Hs u:=fun h=>h2 ⟨h.2.2.1,by have:=h.2.2.2;omega⟩
   rw [dF h2,dF ht,B7 (by rfl),B2 (by rfl)]
 ·simp only [dF h1]
  rw [gdF (by rfl),sb,gdF (by rfl),sb,dF (show ¬Hs u from fun h=>h1 ⟨h.1,h.2.1⟩),B7 (by rfl),B2 (by rfl)]
theorem Vh {F:Nat} (hF:10≤F) (a b c:api_Span):J6 F [a,b,c]=some (decide (Hs a∧Hs b∧Hs c)):=by
 obtain ⟨G,rfl⟩:∃G,F=G+4:=⟨F-4,by omega⟩
 rw [J6,Dq,show (0:Int)=((0:Nat):Int) from rfl,Yn _ _ 0 a rfl (by simp) (by decide)]
 by_cases h1:Hs a
 ·rw [B7 (dT h1),show (((0:Nat):Int)+1)=((1:Nat):Int) from rfl,Dq,Yn _ _ 1 b rfl (by simp) (by decide)]
  by_cases h2:Hs b
  ·rw [B7 (dT h2),show (((1:Nat):Int)+1)=((2:Nat):Int) from rfl,Dq,Yn _ _ 2 c rfl (by simp) (by decide)]
   by_cases h3:Hs c
   ·rw [B7 (dT h3),Dq,Fe,B2 (dF (by simp)),J2]
    simp [h1,h2,h3]
   ·rw [B2 (dF h3)];simp [h3]
  ·rw [B2 (dF h2)];simp [h2]
 ·rw [B2 (dF h1)];simp [h1]
def z0 (s:api_Span):Prop:=s.Lo=0∧s.Hi=0
def vEcho (x:api_Echo):Prop:=(x.Kind=1∧Kf x.Power 0 1073741824∧x.Power.Lo=0∧z0 x.Steps.1∧z0 x.Steps.2∧x.Spread=0∧z0 x.Ratio∧z0 x.Match∧z0 x.Turn) ∨
 ((x.Kind=2∨x.Kind=3)∧Kf x.Power 0 1073741824∧x.Power.Lo>0∧Kf x.Ratio 0 1000000∧Kf x.Match 0 1000∧inB x.Spread 0 65535∧(x.Kind=2→z0 x.Steps.1∧z0 x.Steps.2∧z0 x.Turn)∧(x.Kind=3→Hs x.Steps.1∧Hs x.Steps.2∧Hs x.Turn))
theorem Zs (c:Bool):Dl c=some (if c=true then 0 else 3):=by cases c<;>rfl
theorem Yx {F:Nat} (hF:10≤F) (x:api_Echo):∃e,Ha F x=some e∧(e=0↔vEcho x):=by
 unfold Ha vEcho
 simp only [Zs,Ry]
 by_cases h1:x.Kind=1
 ·rw [B7 (by simp [h1])]
  refine ⟨_,rfl,?_⟩
  simp only [h1,z0]
  by_cases h2:Kf x.Power 0 1073741824
  ·simp [h2,and_assoc]
  ·simp [h2]
 ·rw [B2 (by simp [h1])]
  have hK:∀c:Bool,c=(decide (x.Kind=2∨x.Kind=3))→∃e,D0 F x c=some e∧(e=0↔((x.Kind=2∨x.Kind=3)∧Kf x.Power 0 1073741824∧x.Power.Lo>0∧Kf x.Ratio 0 1000000∧Kf x.Match 0 1000∧inB x.Spread 0 65535∧(x.Kind=2→z0 x.Steps.1∧z0 x.Steps.2∧z0 x.Turn)∧(x.Kind=3→Hs x.Steps.1∧Hs x.Steps.2∧Hs x.Turn))):=by
   intro c hc
   unfold D0
   simp only [Zs,Ry,Nk]
   by_cases h23:x.Kind=2∨x.Kind=3
   ·rw [hc,B7 (dT h23)]
    by_cases h2:x.Kind=2
    ·rw [B7 (by simp [h2])]
     refine ⟨_,rfl,?_⟩
     simp only [h2,z0]
     by_cases a1:Kf x.Power 0 1073741824
     ·by_cases a2:x.Power.Lo>0
      ·by_cases a3:Kf x.Ratio 0 1000000
       ·by_cases a4:Kf x.Match 0 1000
        ·by_cases a5:inB x.Spread 0 65535
         ·simp [a1,a2,a3,a4,a5,and_assoc]
         ·simp [a1,a2,a3,a4,a5]
        ·simp [a1,a2,a3,a4]
       ·simp [a1,a2,a3]
      ·simp [a1,a2]
     ·simp [a1]
    ·have h3:x.Kind=3:=h23.resolve_left h2
     rw [B2 (by simp [h2])]
     by_cases a1:Kf x.Power 0 1073741824
     ·by_cases a2:x.Power.Lo>0
      ·by_cases a3:Kf x.Ratio 0 1000000
       ·by_cases a4:Kf x.Match 0 1000
        ·by_cases a5:inB x.Spread 0 65535
         ·rw [B7 (by simp [a1,a2,a3,a4,a5]),show (⟨x.Steps.1.Lo,x.Steps.1.Hi⟩:api_Span)=x.Steps.1 from rfl,show (⟨x.Steps.2.Lo,x.Steps.2.Hi⟩:api_Span)=x.Steps.2 from rfl,Vh hF,sb]
          refine ⟨_,rfl,?_⟩
          simp [h3,a1,a2,a3,a4,a5]
         ·rw [B2 (by simp [a5])];exact ⟨_,rfl,by simp [a5]⟩
        ·rw [B2 (by simp [a4])];exact ⟨_,rfl,by simp [a4]⟩
       ·rw [B2 (by simp [a3])];exact ⟨_,rfl,by simp [a3]⟩
      ·rw [B2 (by simp [a2])];exact ⟨_,rfl,by simp [a2]⟩
     ·rw [B2 (by simp [a1])];exact ⟨_,rfl,by simp [a1]⟩
   ·rw [hc,B2 (dF h23)]
    exact ⟨2,rfl,by simp [h23]⟩
  obtain ⟨e,he,hv⟩:∃e,(bif x.Kind==2 then D0 F x (x.Kind==2) else D0 F x (x.Kind==3))=some e∧(e=0↔_):=by
   by_cases h2:x.Kind=2
   ·rw [B7 (by simp [h2])];exact hK _ (by simp [h2])
   ·rw [B2 (by simp [h2])];exact hK _ (by simp [h2];rfl)
  exact ⟨e,he,hv.trans ⟨fun h=>.inr h,fun h=>h.resolve_left fun h=>h1 h.1⟩⟩
end Go.Proofs.Ytifbomimeodibaa
namespace Go.Proofs.Ytifbomimeodibaa
open Go Go.RowKit Go.Eng
set_option maxRecDepth 10000
set_option linter.unusedVariables false
set_option linter.unusedSimpArgs false
theorem A0y {F:Nat} (hF:5000≤F) (x270:Int) (k3:Int→Option Int) (u:List api_Echo) (hu:u.length≤1000):∀(m i:Nat),u.length-i<m→i≤u.length →
  ((∀x∈u.drop i,vEcho x)∧Dd F x270 k3 u m i=F3 x270 k3)∨(∃e,e≠0∧Dd F x270 k3 u m i=some e∧¬∀x∈u.drop i,vEcho x):=by
 intro m
 induction m with
 | zero=>intro i h;omega
 | succ m ih =>
  intro i h hi
  rw [Dd,Gj]
  by_cases hb:i<u.length
  ·have hd:=List.drop_eq_getElem_cons hb
   obtain ⟨e,he,hv⟩:=Yx (F:=F) (by omega) u[i]
   rw [B7 (dT (by omega)),Ft i u[i] rfl (List.getElem?_eq_getElem hb)]
   rw [show (⟨u[i].Kind,u[i].Power,(⟨u[i].Steps.1.Lo,u[i].Steps.1.Hi⟩,⟨u[i].Steps.2.Lo,u[i].Steps.2.Hi⟩),u[i].Spread,u[i].Ratio,u[i].Match,u[i].Turn⟩:api_Echo)=u[i] from rfl,he,sb]
   by_cases h0:e=0
   ·rw [B2 (by simp [h0]),ckb (by omega)]
    rcases ih (i+1) (by omega) (by omega) with ⟨h1,h2⟩|⟨e',h1,h2,h3⟩
    ·refine .inl ⟨?_,h2⟩
     rw [hd]
     intro x hx
     rcases List.mem_cons.1 hx with rfl|hx
     ·exact hv.1 h0
     ·exact h1 x hx
    ·exact .inr ⟨e',h1,h2,fun h=>h3 fun x hx=>h x (by rw [hd];exact List.mem_cons_of_mem _ hx)⟩
   ·rw [B7 (by simp [h0])]
    exact .inr ⟨e,h0,rfl,fun h=>h0 (hv.2 (h u[i] (by rw [hd];exact List.mem_cons_self ..)))⟩
  ·rw [B2 (dF (by omega))]
   exact .inl ⟨fun x hx=>(by rw [List.drop_of_length_le (by omega)] at hx;cases hx),rfl⟩
theorem Zd {F:Nat} (hF:5000≤F) (p:api_Sweep) (hp:p.Rays.length≤1000) (hr:∀r∈p.Rays,r.length≤1000):∀(m i:Nat),p.Rays.length-i<m→i≤p.Rays.length →
  ∃e,Dc F p m i=some e∧(e=0↔∀r∈p.Rays.drop i,∀x∈r,vEcho x):=by
 intro m
 induction m with
 | zero=>intro i h;omega
 | succ m ih =>
  intro i h hi
  rw [Dc,Gi]
  by_cases hb:i<p.Rays.length
  ·have hd:=List.drop_eq_getElem_cons hb
   have hl:=hr p.Rays[i] (List.getElem_mem hb)
   rw [B7 (dT (by omega)),Ft i p.Rays[i] rfl (List.getElem?_eq_getElem hb)]
   rcases A0y hF i (Dc F p m) p.Rays[i] hl F 0 (by omega) (by omega) with ⟨h1,h2⟩|⟨e,h1,h2,h3⟩
   ·rw [show (0:Int)=((0:Nat):Int) from rfl,h2,F3,ckb (by omega)]
    obtain ⟨e,he,hv⟩:=ih (i+1) (by omega) (by omega)
    refine ⟨e,he,hv.trans ?_⟩
    rw [hd]
    constructor
    ·intro h r hr'
     rcases List.mem_cons.1 hr' with rfl|hr'
     ·exact h1
     ·exact h r hr'
    ·exact fun h r hr'=>h r (List.mem_cons_of_mem _ hr')
   ·refine ⟨e,h2,⟨fun h=>absurd h h1,fun h=>absurd (h p.Rays[i] (by rw [hd];exact List.mem_cons_self ..)) h3⟩⟩
  ·rw [B2 (dF (by omega)),Gm]
   exact ⟨0,rfl,by simp [List.drop_of_length_le (show p.Rays.length≤i by omega)]⟩
theorem Xo {F:Nat} (hF:5000≤F) (p:api_Sweep) (hp:p.Rays.length≤1000) (hg:p.Site.Gates≤200):∀(m i:Nat),p.Rays.length-i<m→i≤p.Rays.length→(∀r∈p.Rays.take i,(r.length:Int)=p.Site.Gates) →
  ∃e,E9 F p m i=some e∧(e=0↔(∀r∈p.Rays,(r.length:Int)=p.Site.Gates)∧∀r∈p.Rays,∀x∈r,vEcho x):=by
 intro m
 induction m with
 | zero=>intro i h;omega
 | succ m ih =>
  intro i h hi hpre
  rw [E9,Gk]
  by_cases hb:i<p.Rays.length
  ·rw [B7 (dT (by omega)),Ft i p.Rays[i] rfl (List.getElem?_eq_getElem hb)]
   by_cases hl:(p.Rays[i].length:Int)=p.Site.Gates
   ·rw [B2 (by simp [hl]),ckb (by omega)]
    refine ih (i+1) (by omega) (by omega) fun r hr=>?_
    rw [List.take_succ_eq_append_getElem hb] at hr
    rcases List.mem_append.1 hr with hr|hr
    ·exact hpre r hr
    ·simp at hr;rw [hr];exact hl
   ·rw [B7 (by simp [hl])]
    exact ⟨11,rfl,⟨fun h=>by simp at h,fun h=>absurd (h.1 p.Rays[i] (List.getElem_mem hb)) hl⟩⟩
  ·rw [B2 (dF (by omega)),Gl]
   rw [List.take_of_length_le (by omega)] at hpre
   obtain ⟨e,he,hv⟩:=Zd hF p hp (fun r hr=>by have:=hpre r hr;omega) F 0 (by omega) (by omega)
   exact ⟨e,he,hv.trans ⟨fun h=>⟨hpre,h⟩,fun h=>h.2⟩⟩
def vSweep (s:api_Sweep):Prop:=R7 s.Site∧inB s.Tilt 0 256∧inB s.Time 0 4294967296∧(s.Rays.length:Int)=4*s.Site.Rose∧(∀r∈s.Rays,(r.length:Int)=s.Site.Gates)∧∀r∈s.Rays,∀x∈r,vEcho x
theorem Yl {F:Nat} (hF:5000≤F) (p:api_Sweep):∃e,Gu F p=some e∧(e=0↔vSweep p):=by
 obtain ⟨e,he,hv⟩:=Wb F p.Site
 unfold Gu vSweep
 rw [he,sb]
 simp only [Nk]
 by_cases h0:e=0
 ·have hs:=hv.1 h0
  obtain ⟨_,_,_,_,⟨r1,r2⟩,⟨g1,g2⟩,_⟩:=hv.1 h0
  rw [B2 (by simp [h0])]
  by_cases h1:inB p.Tilt 0 256
  ·by_cases h2:inB p.Time 0 4294967296
   ·rw [B2 (by simp [h1,h2]),ckb (by omega)]
    by_cases h3:(p.Rays.length:Int)=4*p.Site.Rose
    ·rw [B2 (by simp [h3])]
     obtain ⟨e',he',hv'⟩:=Xo hF p (by omega) g2 F 0 (by omega) (by omega) (fun r hr=>by simp at hr)
     exact ⟨e',he',hv'.trans ⟨fun h=>⟨hs,h1,h2,h3,h.1,h.2⟩,fun h=>⟨h.2.2.2.2.1,h.2.2.2.2.2⟩⟩⟩
    ·rw [B7 (by simp [h3])]
     exact ⟨11,rfl,⟨fun h=>by simp at h,fun h=>absurd h.2.2.2.1 h3⟩⟩
   ·rw [B7 (by simp [h2])]
    exact ⟨3,rfl,⟨fun h=>by simp at h,fun h=>absurd h.2.2.1 h2⟩⟩
  ·rw [B7 (by simp [h1])]
   exact ⟨3,rfl,⟨fun h=>by simp at h,fun h=>absurd h.2.1 h1⟩⟩
 ·rw [B7 (by simp [h0])]
  exact ⟨e,rfl,⟨fun h=>absurd h h0,fun h=>absurd (hv.2 h.1) h0⟩⟩
def vVal (v:api_Span):Prop:=0≤v.Lo∧v.Lo≤v.Hi∧v.Hi≤1073741824
theorem Zm {p:api_Field} (hp:p.Vals.length≤1000000):∀(m i:Nat),p.Vals.length-i<m→i≤p.Vals.length →
  ∃e,Hc p 1073741824 m i=some e∧(e=0↔∀v∈p.Vals.drop i,vVal v):=by
 intro m
 induction m with
 | zero=>intro i h;omega
 | succ m ih =>
  intro i h hi
  rw [Hc,Kn]
  by_cases hb:i<p.Vals.length
  ·have hd:=List.drop_eq_getElem_cons hb
   rw [B7 (dT (by omega)),Ft i p.Vals[i] rfl (List.getElem?_eq_getElem hb)]
   by_cases hv:vVal p.Vals[i]
   ·obtain ⟨a,b,c⟩:=hv
    rw [B2 (by rw [dF (show ¬p.Vals[i].Lo<0 by omega),dF (show ¬p.Vals[i].Hi<p.Vals[i].Lo by omega),dF (show ¬p.Vals[i].Hi>1073741824 by omega)];rfl),ckb (by omega)]
    obtain ⟨e,he,hv⟩:=ih (i+1) (by omega) (by omega)
    refine ⟨e,he,hv.trans ?_⟩
    rw [hd]
    constructor
    ·intro h v hv'
     rcases List.mem_cons.1 hv' with rfl|hv'
     ·exact ⟨a,b,c⟩
     ·exact h v hv'
    ·exact fun h v hv'=>h v (List.mem_cons_of_mem _ hv')
   ·rw [B7 ?_]
    ·exact ⟨3,rfl,⟨fun h=>by simp at h,fun h=>absurd (h p.Vals[i] (by rw [hd];exact List.mem_cons_self ..)) hv⟩⟩
    ·by_cases h1:p.Vals[i].Lo<0
     ·simp [h1]
     ·by_cases h2:p.Vals[i].Hi<p.Vals[i].Lo
      ·simp [h2]
      ·have:p.Vals[i].Hi>1073741824:=by
        rcases Int.lt_or_le 1073741824 p.Vals[i].Hi with h|h
        ·exact h
        ·exact absurd ⟨by omega,by omega,h⟩ hv
       simp [this]
  ·rw [B2 (dF (by omega)),Ko]
   exact ⟨0,rfl,by simp [List.drop_of_length_le (show p.Vals.length≤i by omega)]⟩
def Qx (f:volume_field):Prop:=Qa f.key=true∧inB f.time 0 4294967296∧Qg f.Field.Grid∧(f.Field.Vals.length:Int)=f.Field.Grid.Wide*f.Field.Grid.High∧∀v∈f.Field.Vals,vVal v
theorem Nd {g:api_Grid} (h:Qg g):0≤g.Wide*g.High∧g.Wide*g.High≤4096:=by
 obtain ⟨_,_,_,⟨a,b⟩,⟨c,d⟩⟩:=h
 have h1:g.Wide*g.High≤64*g.High:=Int.mul_le_mul_of_nonneg_right b (by omega)
 exact ⟨Int.mul_nonneg (by omega) (by omega),by omega⟩
theorem Xm {F:Nat} (hF:5000≤F) (f:volume_field):∃e,D3 F f=some e∧(e=0↔Qx f):=by
 unfold D3 Qx Ja Mk
 rw [Vz,sb]
 cases Qa f.key with
 | false=>exact ⟨10,by rw [B7 (by rfl)],by simp⟩
 | true =>
  rw [B2 (by rfl)]
  by_cases h1:inB f.time 0 4294967296
  ·rw [B2 (by have:=h1.1;have:=h1.2;rw [dF (show ¬f.time<0 by omega),dF (show ¬f.time>4294967296 by omega)];rfl)]
   have hg:=Vt f.Field.Grid
   by_cases h2:Bd f.Field.Grid=0
   ·obtain ⟨c1,c2⟩:=Nd (hg.1 h2)
    rw [B2 (by simp [h2]),ckb (by omega)]
    by_cases h3:(f.Field.Vals.length:Int)=f.Field.Grid.Wide*f.Field.Grid.High
    ·rw [B2 (by simp [h3])]
     obtain ⟨e,he,hv⟩:=Zm (p:=f.Field) (by omega) F 0 (by omega) (by omega)
     rw [show (0:Int)=((0:Nat):Int) from rfl,he]
     exact ⟨e,rfl,hv.trans ⟨fun h=>⟨rfl,h1,hg.1 h2,h3,h⟩,fun h=>h.2.2.2.2⟩⟩
    ·rw [B7 (by simp [h3])]
     exact ⟨11,rfl,⟨fun h=>by simp at h,fun h=>absurd h.2.2.2.1 h3⟩⟩
   ·rw [B7 (by simp [h2])]
    exact ⟨_,rfl,⟨fun h=>absurd h h2,fun h=>absurd (hg.2 h.2.2.1) h2⟩⟩
  ·rw [B7 ?_]
   ·exact ⟨3,rfl,⟨fun h=>by simp at h,fun h=>absurd h.2.1 h1⟩⟩
   ·by_cases h:f.time<0
    ·simp [h]
    ·have:f.time>4294967296:=by
      rcases Int.lt_or_le 4294967296 f.time with h|h
      ·exact h
      ·exact absurd ⟨by omega,h⟩ h1
     simp [this]
def Ut (n:volume_note):Prop:=inB n.time 0 4294967296∧n.text.size≤200∧∀c∈sby n.text,32≤c∧c≤126
theorem Xg (l:List Int) (hl:l.length≤1000000):∀(m i:Nat),l.length-i<m→i≤l.length →
  ∃e,Dv l m i=some e∧(e=0↔∀c∈l.drop i,32≤c∧c≤126):=by
 intro m
 induction m with
 | zero=>intro i h;omega
 | succ m ih =>
  intro i h hi
  rw [Dv,G1]
  by_cases hb:i<l.length
  ·have hd:=List.drop_eq_getElem_cons hb
   rw [B7 (dT (by omega)),Ft i l[i] rfl (List.getElem?_eq_getElem hb)]
   by_cases hv:32≤l[i]∧l[i]≤126
   ·rw [B2 (by rw [dF (show ¬l[i]<32 by omega),dF (show ¬l[i]>126 by omega)];rfl),ckb (by omega)]
    obtain ⟨e,he,hv'⟩:=ih (i+1) (by omega) (by omega)
    refine ⟨e,he,hv'.trans ?_⟩
    rw [hd]
    constructor
    ·intro h v hv'
     rcases List.mem_cons.1 hv' with rfl|hv'
     ·exact hv
     ·exact h v hv'
    ·exact fun h v hv'=>h v (List.mem_cons_of_mem _ hv')
   ·rw [B7 ?_]
    ·exact ⟨7,rfl,⟨fun h=>by simp at h,fun h=>absurd (h l[i] (by rw [hd];exact List.mem_cons_self ..)) hv⟩⟩
    ·by_cases h1:l[i]<32
     ·simp [h1]
     ·have:l[i]>126:=by omega
      simp [this]
  ·rw [B2 (dF (by omega)),G2]
   exact ⟨0,rfl,by simp [List.drop_of_length_le (show l.length≤i by omega)]⟩
theorem Z5 {F:Nat} (hF:5000≤F) (n:volume_note):∃e,Di F n=some e∧(e=0↔Ut n):=by
 unfold Di Ut
 by_cases h1:inB n.time 0 4294967296
 ·rw [B2 (by have:=h1.1;have:=h1.2;rw [dF (show ¬n.time<0 by omega),dF (show ¬n.time>4294967296 by omega)];rfl)]
  by_cases h2:n.text.size≤200
  ·have hs:s2b n.text=some (sby n.text):=by unfold s2b;rw [if_pos (by omega)]
   rw [B2 (dF (by omega)),hs,sb]
   obtain ⟨e,he,hv⟩:=Xg (sby n.text) (by rw [Jd];omega) F 0 (by rw [Jd];omega) (by omega)
   exact ⟨e,he,hv.trans ⟨fun h=>⟨h1,h2,h⟩,fun h=>h.2.2⟩⟩
  ·rw [B7 (dT (by omega))]
   exact ⟨8,rfl,⟨fun h=>by simp at h,fun h=>absurd h.2.1 h2⟩⟩
 ·rw [B7 ?_]
  ·exact ⟨3,rfl,⟨fun h=>by simp at h,fun h=>absurd h.1 h1⟩⟩
  ·by_cases h:n.time<0
   ·simp [h]
   ·have:n.time>4294967296:=by
     rcases Int.lt_or_le 4294967296 n.time with h|h
     ·exact h
     ·exact absurd ⟨by omega,h⟩ h1
    simp [this]
def vT (t:volume_thing):Prop:=t.cs False (fun s=>vSweep s.Sweep) Qx Ut
theorem U3 {F:Nat} (hF:5000≤F) {t:volume_thing} (ht:t≠.nil_):∃e,Dn F t=some e∧(e=0↔vT t):=by
 cases t with
 | nil_=>exact absurd rfl ht
 | ic112 s =>
  obtain ⟨e,he,hv⟩:=Yl (F:=F) (by omega) s.Sweep
  exact ⟨e,by show D4 F s=_;rw [D4,he];rfl,hv⟩
 | ic114 f=>exact Xm hF f
 | ic116 n=>exact Z5 (by omega) n
theorem Ki {x lo hi:Int} (h:inB x lo hi) (h0:0≤lo) (h1:hi≤4611686018427387904):okN x:=⟨by have:=h.1;omega,by have:=h.2;omega⟩
theorem P3 {s:ByteArray} (h:Qa s=true):s.size≤12:=by
 unfold Qa at h
 simp only [Bool.and_eq_true,decide_eq_true_eq] at h
 omega
theorem vEcho.ok {x:api_Echo} (h:vEcho x):okE x:=by
 have hz:∀{s:api_Span},z0 s→okS s:=fun {s} h=>⟨by have:=h.1;omega,by have:=h.1;have:=h.2;omega,by have:=h.2;omega⟩
 have hi:∀{s:api_Span} {lo hi:Int},Kf s lo hi→-1000000000000000000≤lo→hi≤1000000000000000000→okS s:=fun {s lo hi} h h1 h2=>⟨by have:=h.1;omega,h.2.1,by have:=h.2.2;omega⟩
 have ht:∀{s:api_Span},Hs s→okS s:=fun {s} h=>⟨by have:=h.1;omega,h.2.2.1,by have:=h.2.1;have:=h.2.2.2;omega⟩
 rcases h with ⟨a,b,c,d,e,f,g,h,i⟩|⟨a,b,c,d,e,f,g,h⟩
 ·exact ⟨⟨by omega,by omega⟩,⟨by have:=b.1;have:=b.2.1;omega,by have:=b.2.2;omega⟩,⟨by omega,by omega⟩,hi b (by decide) (by decide),hz g,hz h,hz d,hz e,hz i⟩
 ·have hh:okS x.Steps.1∧okS x.Steps.2∧okS x.Turn:=by
   rcases a with a|a
   ·obtain ⟨u,v,w⟩:=g a;exact ⟨hz u,hz v,hz w⟩
   ·obtain ⟨u,v,w⟩:=h a;exact ⟨ht u,ht v,ht w⟩
  exact ⟨⟨by omega,by omega⟩,⟨by have:=b.1;have:=b.2.1;omega,by have:=b.2.2;omega⟩,Ki f (by decide) (by decide),hi b (by decide) (by decide),hi d (by decide) (by decide),hi e (by decide) (by decide),hh.1,hh.2.1,hh.2.2⟩
theorem Vr {α:Type} {l:List (List α)} {n:Nat} (h:∀r∈l,r.length=n):l.flatten.length=l.length*n:=by
 induction l with
 | nil=>simp
 | cons r l ih =>
  rw [List.flatten_cons,List.length_append,h r (by simp),ih fun r hr=>h r (by simp [hr]),List.length_cons,Nat.add_mul,Nat.one_mul];omega
theorem vSweep.len {s:api_Sweep} (h:vSweep s):(s.Rays.flatten.length:Int)=4*s.Site.Rose*s.Site.Gates:=by
 obtain ⟨_,_,_,h1,h2,_⟩:=h
 have hg:∀r∈s.Rays,r.length=s.Site.Gates.toNat:=fun r hr=>by have:=h2 r hr;omega
 rw [Vr hg]
 cases hr:s.Rays with
 | nil=>rw [hr] at h1;simp at h1;simp;rw [show s.Site.Rose=0 by omega];simp
 | cons r l =>
  have:=h2 r (by rw [hr];simp)
  rw [←hr,←h1]
  push_cast
  congr 1
  omega
theorem vT.ok {t:volume_thing} (h:vT t):okT t:=by
 cases t with
 | nil_=>exact h
 | ic112 s =>
  have hv:vSweep s.Sweep:=h
  have hlen:=hv.len
  obtain ⟨⟨n,x,y,z,r,g,st,w⟩,ti,tm,h1,h2,h3⟩:=hv
  have hm:4*s.Sweep.Site.Rose*s.Sweep.Site.Gates≤360*s.Sweep.Site.Gates:=Int.mul_le_mul_of_nonneg_right (by have:=r.2;omega) (by have:=g.1;omega)
  refine ⟨⟨by have:=P3 n;omega,⟨by have:=x.1;omega,by have:=x.2;omega⟩,⟨by have:=y.1;omega,by have:=y.2;omega⟩,Ki z (by decide) (by decide),Ki r (by decide) (by decide),Ki g (by decide) (by decide),Ki st (by decide) (by decide),Ki w (by decide) (by decide)⟩,Ki ti (by decide) (by decide),Ki tm (by decide) (by decide),by have:=r.2;omega,by have:=g.2;omega,fun r hr x hx=>(h3 r hr x hx).ok⟩
 | ic114 f =>
  obtain ⟨n,tm,hg,h1,h2⟩:=(show Qx f from h)
  have:=Nd hg
  obtain ⟨x,y,z,r,g⟩:=hg
  exact ⟨by have:=P3 n;omega,Ki tm (by decide) (by decide),⟨by have:=x.1;omega,by have:=x.2;omega⟩,⟨by have:=y.1;omega,by have:=y.2;omega⟩,Ki z (by decide) (by decide),Ki r (by decide) (by decide),Ki g (by decide) (by decide),by omega,fun v hv=>by obtain ⟨a,b,c⟩:=h2 v hv;exact ⟨by omega,b,by omega⟩⟩
 | ic116 n =>
  obtain ⟨tm,h1,h2⟩:=(show Ut n from h)
  exact ⟨Ki tm (by decide) (by decide),by omega⟩
end Go.Proofs.Ytifbomimeodibaa
namespace Go.Proofs.Ytifbomimeodibaa
open Go Go.RowKit Go.Eng
set_option maxRecDepth 10000
set_option linter.unusedVariables false
set_option linter.unusedSimpArgs false
instance (g:api_Grid):Decidable (Qg g):=by unfold Qg;infer_instance
def Qj {α:Type} (g:Nat):Nat→List α→List (List α)
 | 0,_=>[]
 | n+1,l=>l.take g::Qj g n (l.drop g)
def Qt (l:List Int):Option (volume_thing×List Int):=(rT l).bind fun nm=>(rI nm.2).bind fun x=>(rI x.2).bind fun y=>(rN y.2).bind fun z=>(rN z.2).bind fun ro=>(rN ro.2).bind fun g=>(rN g.2).bind fun st=>(rN st.2).bind fun w=>(rN w.2).bind fun ti=>(rN ti.2).bind fun tm =>
 if R7 ⟨nm.1,x.1,y.1,z.1,ro.1,g.1,st.1,w.1⟩ then (rL rE ((4*ro.1*g.1).toNat+1) (4*ro.1*g.1).toNat e0 tm.2).bind fun all=>some (.ic112 ⟨⟨⟨nm.1,x.1,y.1,z.1,ro.1,g.1,st.1,w.1⟩,ti.1,tm.1,Qj g.1.toNat (4*ro.1).toNat all.1⟩⟩,all.2) else none
def Qs (l:List Int):Option (volume_thing×List Int):=(rT l).bind fun nm=>(rN nm.2).bind fun tm=>(rI tm.2).bind fun x=>(rI x.2).bind fun y=>(rN y.2).bind fun sz=>(rN sz.2).bind fun wd=>(rN wd.2).bind fun hi =>
 if Qg ⟨x.1,y.1,sz.1,wd.1,hi.1⟩ then (rL rS ((wd.1*hi.1).toNat+1) (wd.1*hi.1).toNat ⟨0,0⟩ hi.2).bind fun all=>some (.ic114 ⟨nm.1,tm.1,⟨⟨x.1,y.1,sz.1,wd.1,hi.1⟩,all.1⟩⟩,all.2) else none
def Te (l:List Int):Option (volume_thing×List Int):=(rN l).bind fun tm=>(rT tm.2).bind fun tx=>some (.ic116 ⟨tm.1,tx.1⟩,tx.2)
def Kl (l:List Int):Option (volume_thing×List Int):=(rN l).bind fun k=>if k.1=1 then Qt k.2 else if k.1=2 then Qs k.2 else if k.1=3 then Te k.2 else none
theorem Za (a:ByteArray×volume_reader) (b c:Int×volume_reader) (x1 x2 x3 x4 x5 x6 x7:Int) (y:List api_Echo×volume_reader) (hg:1≤x3∧x3≤1000):∀(m n:Nat) (acc:List (List api_Echo)) (l:List api_Echo),n<m→l.length=n*x3.toNat→n+acc.length≤1000 →
  C9 a b c x1 x2 x3 x4 x5 x6 x7 y m acc l=Dt a b c x1 x2 x3 x4 x5 x6 x7 y (acc++Qj x3.toNat n l):=by
 intro m
 induction m with
 | zero=>intro n acc l h;omega
 | succ m ih =>
  intro n acc l h hl hn
  rw [C9,Ev]
  cases n with
  | zero =>
   rw [B2 (dF (by omega)),Qj,List.append_nil]
  | succ n =>
   rw [Nat.add_mul,Nat.one_mul] at hl
   rw [B7 (dT (by omega)),Pd x3.toNat rfl (by omega) (by omega),M6 (by simp;omega) (by decide),Kp x3.toNat (by omega) rfl (by omega)]
   rw [ih n (acc++[l.take x3.toNat]) (l.drop x3.toNat) (by omega) (by simp;omega) (by simp;omega)]
   rw [Qj,List.append_assoc]
   rfl
theorem Tp (F:Nat) (e:Int):H0 F e=some (if e=0 then .ok () else .error W7):=by
 unfold H0
 by_cases h:e=0
 ·rw [B2 (by simp [h]),if_pos h]
 ·rw [B7 (by simp [h]),if_neg h];rfl
theorem Yb {F:Nat} (hF:200000≤F) (nm:ByteArray) (x y z ro g st w ti tm:Int) (r0 r1 r2:volume_reader) {l:List Int} (hl:By l) :
  Rd (Dr F (nm,r0) (x,r1) (y,r2) z ro g st w ti tm l) (if R7 ⟨nm,x,y,z,ro,g,st,w⟩ then (rL rE ((4*ro*g).toNat+1) (4*ro*g).toNat e0 l).bind fun all=>some (.ic112 ⟨⟨⟨nm,x,y,z,ro,g,st,w⟩,ti,tm,Qj g.toNat (4*ro).toNat all.1⟩⟩,all.2) else none):=by
 unfold Dr
 obtain ⟨e,he,hv⟩:=Wb F ⟨nm,x,y,z,ro,g,st,w⟩
 rw [he,sb,Tp,sb]
 by_cases h:e=0
 ·rw [if_pos h,if_pos (hv.1 h)]
  obtain ⟨_,_,_,_,⟨b1,b2⟩,⟨b3,b4⟩,_⟩:=hv.1 h
  simp only at b1 b2 b3 b4
  have hm:4*ro*g≤360*g:=Int.mul_le_mul_of_nonneg_right (by omega) (by omega)
  have hm0:0≤4*ro*g:=Int.mul_nonneg (by omega) (by omega)
  show Rd ((ck (4*ro)).bind _) _
  rw [ckb (by omega),ckb (by omega)]
  have hr:=Ya hF (N:=(4*ro*g).toNat) (by omega) hl e0
  rw [show (((4*ro*g).toNat:Nat):Int)=4*ro*g by omega] at hr
  refine Rd.bind hr fun all r h2=>?_
  have hlen:=(Y8 (fun l x r hb h=>Tt hb h) _ _ _ _ _ _ hl h2).1
  have hl2:all.length=(4*ro).toNat*g.toNat:=by
   rw [hlen]
   have:(4*ro*g)=(((4*ro).toNat*g.toNat:Nat):Int):=by
    push_cast
    rw [show ((4*ro).toNat:Int)=4*ro by omega,show (g.toNat:Int)=g by omega]
   omega
  show Rd (C9 _ _ _ z ro g st w ti tm _ F [] all) _
  rw [Za _ _ _ z ro g st w ti tm _ ⟨b3,by omega⟩ F (4*ro).toNat [] all (by omega) hl2 (by simp;omega),Dt]
  exact Rd.ok
 ·rw [if_neg h,if_neg (fun h'=>h (hv.2 h'))]
  exact Rd.bad
theorem Z9 {F:Nat} (hF:200000≤F) {l:List Int} (hl:By l):Rd (Cc F ⟨l⟩) (Kl l):=by
 have h1000:1000≤F:=by omega
 rw [Cc,Kl]
 refine (D9 h1000 hl).bind fun k r h=>?_
 have hb:=hl.suf (D1 hl h).2.2
 show Rd (bif k==1 then _ else bif k==2 then _ else bif k==3 then _ else _) (if k=1 then _ else if k=2 then _ else if k=3 then _ else _)
 by_cases k1:k=1
 ·rw [if_pos k1,B7 (by simp [k1]),Qt]
  refine (Vb h1000 hb).bind fun nm r1 h1=>?_
  have b1:=hb.suf (W5 hb h1).1
  refine (Mc h1000 b1).bind fun x r2 h2=>?_
  have b2:=b1.suf (Nl b1 h2).2
  refine (Mc h1000 b2).bind fun y r3 h3=>?_
  have b3:=b2.suf (Nl b2 h3).2
  refine (D9 h1000 b3).bind fun z r4 h4=>?_
  have b4:=b3.suf (D1 b3 h4).2.2
  refine (D9 h1000 b4).bind fun ro r5 h5=>?_
  have b5:=b4.suf (D1 b4 h5).2.2
  refine (D9 h1000 b5).bind fun g r6 h6=>?_
  have b6:=b5.suf (D1 b5 h6).2.2
  refine (D9 h1000 b6).bind fun st r7 h7=>?_
  have b7:=b6.suf (D1 b6 h7).2.2
  refine (D9 h1000 b7).bind fun w r8 h8=>?_
  have b8:=b7.suf (D1 b7 h8).2.2
  refine (D9 h1000 b8).bind fun ti r9 h9=>?_
  have b9:=b8.suf (D1 b8 h9).2.2
  refine (D9 h1000 b9).bind fun tm r10 h10=>?_
  have b10:=b9.suf (D1 b9 h10).2.2
  exact Yb hF nm x y z ro g st w ti tm _ _ _ b10
 ·rw [if_neg k1,B2 (by simp [k1])]
  by_cases k2:k=2
  ·rw [if_pos k2,B7 (by simp [k2]),Qs]
   refine (Vb h1000 hb).bind fun nm r1 h1=>?_
   have b1:=hb.suf (W5 hb h1).1
   refine (D9 h1000 b1).bind fun tm r2 h2=>?_
   have b2:=b1.suf (D1 b1 h2).2.2
   refine (Mc h1000 b2).bind fun x r3 h3=>?_
   have b3:=b2.suf (Nl b2 h3).2
   refine (Mc h1000 b3).bind fun y r4 h4=>?_
   have b4:=b3.suf (Nl b3 h4).2
   refine (D9 h1000 b4).bind fun sz r5 h5=>?_
   have b5:=b4.suf (D1 b4 h5).2.2
   refine (D9 h1000 b5).bind fun wd r6 h6=>?_
   have b6:=b5.suf (D1 b5 h6).2.2
   refine (D9 h1000 b6).bind fun hi r7 h7=>?_
   have b7:=b6.suf (D1 b6 h7).2.2
   show Rd ((H0 F (Bd ⟨x,y,sz,wd,hi⟩)).bind _) (if Qg ⟨x,y,sz,wd,hi⟩ then _ else _)
   rw [Tp,sb]
   have hg:=Vt ⟨x,y,sz,wd,hi⟩
   by_cases h0:Bd ⟨x,y,sz,wd,hi⟩=0
   ·rw [if_pos h0,if_pos (hg.1 h0)]
    obtain ⟨c1,c2⟩:=Nd (hg.1 h0)
    simp only at c1 c2
    show Rd ((ck (wd*hi)).bind _) _
    rw [ckb (by omega)]
    have hr:=Z8 hF (N:=(wd*hi).toNat) (by omega) b7 ⟨0,0⟩
    rw [show (((wd*hi).toNat:Nat):Int)=wd*hi by omega] at hr
    refine Rd.bind hr fun all r h2=>?_
    exact Rd.ok
   ·rw [if_neg h0,if_neg (fun h'=>h0 (hg.2 h'))]
    exact Rd.bad
  ·rw [if_neg k2,B2 (by simp [k2])]
   by_cases k3:k=3
   ·rw [if_pos k3,B7 (by simp [k3]),Te]
    refine (D9 h1000 hb).bind fun tm r1 h1=>?_
    have b1:=hb.suf (D1 hb h1).2.2
    refine (Vb h1000 b1).bind fun tx r2 h2=>?_
    exact Rd.ok
   ·rw [if_neg k3,B2 (by simp [k3]),Ew]
    exact Rd.bad
theorem Uf {F:Nat} (hF:1000≤F) {p:List Int} (hp:By p):(∃r,Ct F ⟨p⟩=some (0,false,r)∧rN p=none)∨∃n r,Ct F ⟨p⟩=some (n,true,⟨r⟩)∧rN p=some (n,r):=by
 have h:=D9 hF hp
 unfold Ct
 cases hn:rN p with
 | none =>
  rw [hn] at h
  obtain ⟨r,h⟩:=h
  rw [h]
  exact .inl ⟨_,rfl,rfl⟩
 | some y =>
  rw [hn] at h
  rw [show Ag F ⟨p⟩=some (.ok (y.1,⟨y.2⟩)) from h]
  exact .inr ⟨y.1,y.2,rfl,rfl⟩
theorem Mw {l:List Int} (h:By l):sby (bst l)=l:=by
 unfold sby bst
 simp only [List.map_map]
 conv=>rhs;rw [←List.map_id l]
 apply List.map_congr_left
 intro x hx
 have:=h x hx
 simp only [Function.comp,id]
 rw [UInt8.toNat_ofNat_of_lt' (show x.toNat<256 by omega)]
 omega
theorem Yv (s:ByteArray):bst (sby s)=s:=by
 unfold sby bst
 cases s with
 | mk d =>
  congr 1
  apply Array.toList_inj.1
  simp only [List.map_map]
  conv=>rhs;rw [←List.map_id d.toList]
  apply List.map_congr_left
  intro x hx
  simp
theorem bEq {a b:List Int} (ha:By a) (hb:By b):Em a b=decide (a=b):=by
 unfold Em
 rw [Bool.eq_iff_iff,Rj,decide_eq_true_eq]
 exact ⟨fun h=>by rw [←Mw ha,←Mw hb,h],fun h=>by rw [h]⟩
theorem Wx {l:List Int} {t:volume_thing} {r:List Int} (h:Kl l=some (t,r)):t≠.nil_:=by
 obtain ⟨k,r1,h1,h⟩:=Be h
 split at h
 ·unfold Qt at h
  obtain ⟨_,_,_,h⟩:=Be h
  obtain ⟨_,_,_,h⟩:=Be h
  obtain ⟨_,_,_,h⟩:=Be h
  obtain ⟨_,_,_,h⟩:=Be h
  obtain ⟨_,_,_,h⟩:=Be h
  obtain ⟨_,_,_,h⟩:=Be h
  obtain ⟨_,_,_,h⟩:=Be h
  obtain ⟨_,_,_,h⟩:=Be h
  obtain ⟨_,_,_,h⟩:=Be h
  obtain ⟨_,_,_,h⟩:=Be h
  split at h
  ·obtain ⟨_,_,_,h⟩:=Be h
   cases h
   simp
  ·cases h
 ·split at h
  ·unfold Qs at h
   obtain ⟨_,_,_,h⟩:=Be h
   obtain ⟨_,_,_,h⟩:=Be h
   obtain ⟨_,_,_,h⟩:=Be h
   obtain ⟨_,_,_,h⟩:=Be h
   obtain ⟨_,_,_,h⟩:=Be h
   obtain ⟨_,_,_,h⟩:=Be h
   obtain ⟨_,_,_,h⟩:=Be h
   split at h
   ·obtain ⟨_,_,_,h⟩:=Be h
    cases h
    simp
   ·cases h
  ·split at h
   ·unfold Te at h
    obtain ⟨_,_,_,h⟩:=Be h
    obtain ⟨_,_,_,h⟩:=Be h
    cases h
    simp
   ·cases h
noncomputable instance (t:volume_thing):Decidable (vT t):=Classical.propDecidable _
noncomputable def unS (p:List Int):volume_thing×Int:=match rN p with
 | none=>(.nil_,15)
 | some (n,r)=>if (r.length:Int)≠n+5 then (.nil_,15) else if p.drop (p.length-5)≠Nq (p.take (p.length-5)) then (.nil_,15) else match Kl (r.take n.toNat) with
  | none=>(.nil_,7)
  | some (t,r2)=>if vT t∧r2=[] then (t,0) else (.nil_,7)
theorem A23 {F:Nat} (hF:200000≤F) {p:List Int} (hp:By p) (hl:p.length<F) (hl9:p.length≤1000000000):Hf F p=some (unS p):=by
 unfold Hf unS
 rcases Uf (F:=F) (by omega) hp with ⟨r,h1,h2⟩|⟨n,r,h1,h2⟩
 ·rw [h1,h2,sb,B7 (by rfl)]
 ·obtain ⟨a,b,c⟩:=D1 hp h2
  have hrl:=c.length_le
  rw [h1,h2,sb,B2 (by rfl),ckb (by simp only;omega)]
  show (bif (r.length:Int) != n+5 then _ else _)=some (if (r.length:Int)≠n+5 then _ else _)
  by_cases h3:(r.length:Int)=n+5
  ·rw [if_neg (by simp [h3]),B2 (by simp [h3]),ckb (by omega),Kp (p.length-5) (by omega) rfl (by omega),ckb (by omega),Pd (p.length-5) rfl (by omega) (by omega)]
   have hby1:By (p.take (p.length-5)):=fun x hx=>hp x (List.mem_of_mem_take hx)
   have hby2:By (p.drop (p.length-5)):=fun x hx=>hp x (List.mem_of_mem_drop hx)
   rw [Yk (by omega) hby1 (by rw [List.length_take];omega) (by rw [List.length_take];omega),sb,bEq hby2 (Wd _).by]
   by_cases h4:p.drop (p.length-5)=Nq (p.take (p.length-5))
   ·rw [if_neg (by simp [h4]),dT h4,B2 (by rfl),Pd n.toNat rfl (by simp only;omega) (show n.toNat≤r.length by omega)]
    have hbr:By (r.take n.toNat):=fun x hx=>(hp.suf c) x (List.mem_of_mem_take hx)
    have ht:=Z9 hF hbr
    cases h5:Kl (r.take n.toNat) with
    | none =>
     rw [h5] at ht
     obtain ⟨r',ht⟩:=ht
     show (Cc F ⟨r.take n.toNat⟩).bind _=_
     rw [ht,sb]
     rfl
    | some y =>
     obtain ⟨t,r2⟩:=y
     rw [h5] at ht
     show (Cc F ⟨r.take n.toNat⟩).bind _=_
     rw [show Cc F ⟨r.take n.toNat⟩=some (.ok (t,⟨r2⟩)) from ht,sb]
     obtain ⟨e,he,hv⟩:=U3 (F:=F) (by omega) (Wx h5)
     show (Dn F t).bind _=_
     rw [he,sb,Tp,sb]
     by_cases h6:e=0
     ·rw [if_pos h6]
      by_cases h7:r2=[]
      ·subst h7
       show _=some (if vT t∧([]:List Int)=[] then _ else _)
       rw [if_pos ⟨hv.1 h6,rfl⟩]
       rfl
      ·show (bif decide ((r2.length:Int)>0) then _ else _)=some (if vT t∧r2=[] then _ else _)
       rw [if_neg (fun h=>h7 h.2),B7 (dT (by have:=List.length_pos_iff.2 h7;omega))]
     ·rw [if_neg h6]
      show _=some (if vT t∧r2=[] then _ else _)
      rw [if_neg (fun h=>h6 (hv.2 h.1))]
      rfl
   ·rw [if_pos h4,dF h4,B7 (by rfl)]
  ·rw [if_pos h3,B7 (by simp [h3])]
end Go.Proofs.Ytifbomimeodibaa
namespace Go.Proofs.Ytifbomimeodibaa
open Go Go.RowKit Go.Eng
set_option maxRecDepth 10000
set_option linter.unusedVariables false
set_option linter.unusedSimpArgs false
theorem A0p:∀(k n:Nat) (f:Bool) (r:List Int),n<127 ^ (k+1)→(f=true∨n≠0)→rD (k+1) f (Dw n++r)=some ((n:Int),r):=by
 intro k
 induction k with
 | zero =>
  intro n f r h hf
  have hn:n<127:=by simpa using h
  rw [M0 hn]
  show rD 1 f (((n:Int)+1)::r)=_
  rw [rD,if_neg ?_,if_pos (by omega)]
  ·congr 2;omega
  ·rintro (h1|h1|⟨h1,h2⟩)
   ·omega
   ·omega
   ·rcases hf with h3|h3
    ·rw [h3] at h2;cases h2
    ·omega
 | succ k ih =>
  intro n f r h hf
  by_cases hn:n<127
  ·rw [M0 hn]
   show rD (k+1+1) f (((n:Int)+1)::r)=_
   rw [rD,if_neg ?_,if_pos (by omega)]
   ·congr 2;omega
   ·rintro (h1|h1|⟨h1,h2⟩)
    ·omega
    ·omega
    ·rcases hf with h3|h3
     ·rw [h3] at h2;cases h2
     ·omega
  ·rw [P4 (by omega)]
   have hm:=Nat.mod_lt n (show 0<127 by decide)
   show rD (k+1+1) f ((128+((n%127:Nat):Int))::(Dw (n/127)++r))=_
   rw [rD,if_neg (by rintro (h1|h1|⟨h1,h2⟩)<;>omega),if_neg (by omega),ih (n/127) false r (Nat.div_lt_of_lt_mul (by rw [Nat.pow_succ] at h;omega)) (.inr (by omega))]
   show some (128+((n%127:Nat):Int)-128+127*((n/127:Nat):Int),r)=_
   congr 2;omega
theorem Pr {n:Nat} (r:List Int) (h:n<67675234241018881):rN (Dw n++r)=some ((n:Int),r):=A0p 7 n true r h (.inl rfl)
def sm (x:Int):Prop:=-1000000000000000≤x∧x≤1000000000000000
theorem Ji {x:Int} (r:List Int) (h0:0≤x) (h:sm x):rN (Dw x.toNat++r)=some (x,r):=by
 rw [Pr r (by have:=h.2;omega)];congr 2;omega
theorem Zl (x:Int):unz (zig x:Int)=x:=by
 unfold unz zig
 split<;>split<;>omega
theorem Ue {x:Int} (r:List Int) (h:sm x):rI (Dw (zig x)++r)=some (x,r):=by
 obtain ⟨h1,h2⟩:=h
 rw [rI,Pr r (by unfold zig;split<;>omega)]
 show some (unz (zig x:Int),r)=_
 rw [Zl]
theorem Y9 {s:ByteArray} (r:List Int) (h:s.size≤1000000):rT (J8 s++r)=some (s,r):=by
 rw [rT,J8,List.append_assoc,Pr _ (by omega)]
 have hl:=Jd s
 show (if ((s.size:Nat):Int)>((sby s++r).length:Int) then none else some (bst ((sby s++r).take ((s.size:Nat):Int).toNat),(sby s++r).drop ((s.size:Nat):Int).toNat))=_
 rw [if_neg (by rw [List.length_append];omega),Int.toNat_natCast,List.take_left' hl,List.drop_left' hl,Yv]
def smS (s:api_Span):Prop:=-1000000000≤s.Lo∧s.Lo≤s.Hi∧s.Hi≤2000000000
theorem Sd {s:api_Span} (r:List Int) (h:smS s):rS (G8 s++r)=some (s,r):=by
 obtain ⟨h1,h2,h3⟩:=h
 rw [rS,G8,List.append_assoc,Ue _ ⟨by omega,by omega⟩]
 show (rN (Dw (s.Hi-s.Lo).toNat++r)).bind _=_
 rw [Ji r (by omega) ⟨by omega,by omega⟩]
 show some ((⟨s.Lo,s.Lo+(s.Hi-s.Lo)⟩:api_Span),r)=_
 rw [show s.Lo+(s.Hi-s.Lo)=s.Hi by omega]
theorem No {s:api_Span} (h:z0 s):s=⟨0,0⟩:=by cases s;obtain ⟨h1,h2⟩:=h;simp only at h1 h2;rw [h1,h2]
theorem A1t {x:api_Echo} (r:List Int) (h:vEcho x):rE (Hk x++r)=some (x,r):=by
 have hi:∀{s:api_Span} {lo hi:Int},Kf s lo hi→0≤lo→hi≤1073741824→smS s:=fun {s lo hi} h h1 h2=>⟨by have:=h.1;omega,h.2.1,by have:=h.2.2;omega⟩
 have ht:∀{s:api_Span},Hs s→smS s:=fun {s} h=>⟨by have:=h.1;omega,h.2.2.1,by have:=h.2.1;have:=h.2.2.2;omega⟩
 rcases h with ⟨a,b,c,d,e,f,g,h,i⟩|⟨a,b,c,d,e,f,g,h⟩
 ·have hp:x=⟨1,⟨0,x.Power.Hi⟩,(⟨0,0⟩,⟨0,0⟩),0,⟨0,0⟩,⟨0,0⟩,⟨0,0⟩⟩:=by
   rcases x with ⟨k,⟨p1,p2⟩,⟨s1,s2⟩,sp,ra,ma,tu⟩
   simp only at a c d e f g h i
   rw [a,c,f,No d,No e,No g,No h,No i]
  rw [rE,Hk,List.append_assoc,if_pos a,Ji _ (by omega) ⟨by omega,by omega⟩]
  show (if x.Kind=1 then _ else _)=_
  rw [if_pos a]
  show (rN (Dw x.Power.Hi.toNat++r)).bind _=_
  rw [Ji _ (by have:=b.1;have:=b.2.1;omega) ⟨by have:=b.1;have:=b.2.1;omega,by have:=b.2.2;omega⟩]
  show some ((⟨x.Kind,⟨0,x.Power.Hi⟩,(⟨0,0⟩,⟨0,0⟩),0,⟨0,0⟩,⟨0,0⟩,⟨0,0⟩⟩:api_Echo),r)=_
  rw [a,←hp]
 ·have hk:x.Kind≠1:=by omega
  rw [rE,Hk,List.append_assoc,if_neg hk,Ji _ (by omega) ⟨by omega,by omega⟩]
  show (if x.Kind=1 then _ else _)=_
  rw [if_neg hk]
  simp only [List.append_assoc]
  show (rS (G8 x.Power++_)).bind _=_
  rw [Sd _ (hi b (by decide) (by decide))]
  show (rS (G8 x.Ratio++_)).bind _=_
  rw [Sd _ (hi d (by decide) (by decide))]
  show (rS (G8 x.Match++_)).bind _=_
  rw [Sd _ (hi e (by decide) (by decide))]
  show (rN (Dw x.Spread.toNat++_)).bind _=_
  rw [Ji _ (by have:=f.1;omega) ⟨by have:=f.1;omega,by have:=f.2;omega⟩]
  show (if x.Kind=3 then _ else _)=_
  by_cases h3:x.Kind=3
  ·obtain ⟨t1,t2,t3⟩:=h h3
   rw [if_pos h3,if_pos h3]
   simp only [List.append_assoc]
   show (rS (G8 x.Steps.1++_)).bind _=_
   rw [Sd _ (ht t1)]
   show (rS (G8 x.Steps.2++_)).bind _=_
   rw [Sd _ (ht t2)]
   show (rS (G8 x.Turn++_)).bind _=_
   rw [Sd _ (ht t3)]
   rfl
  ·obtain ⟨t1,t2,t3⟩:=g (by omega)
   rw [if_neg h3,if_neg h3]
   show some ((⟨x.Kind,x.Power,(⟨0,0⟩,⟨0,0⟩),x.Spread,x.Ratio,x.Match,⟨0,0⟩⟩:api_Echo),r)=_
   have hp:x=⟨x.Kind,x.Power,(⟨0,0⟩,⟨0,0⟩),x.Spread,x.Ratio,x.Match,⟨0,0⟩⟩:=by
    rcases x with ⟨k,p,⟨s1,s2⟩,sp,ra,ma,tu⟩
    simp only at t1 t2 t3
    rw [No t1,No t2,No t3]
   rw [←hp]
theorem A0r {α:Type} [DecidableEq α] {rd:List Int→Option (α×List Int)} {e:α→List Int} (r:List Int):∀(l:List α) (n m:Nat) (b:α),n+l.length<m→n+l.length<1000000000→(∀x∈l,∀r,rd (e x++r)=some (x,r)) →
  rL rd m (n+l.length) b (Hp e b n l++r)=some (List.replicate n b++l,r):=by
 intro l
 induction l with
 | nil =>
  intro n m b hm hn hx
  obtain ⟨m,rfl⟩:∃k,m=k+1:=⟨m-1,by omega⟩
  rw [rL,Hp]
  simp only [List.length_nil,Nat.add_zero] at hm hn ⊢
  by_cases h0:n=0
  ·rw [if_pos h0,if_pos h0,h0];rfl
  ·rw [if_neg h0,if_neg h0,Pr _ (by omega)]
   show (if (n:Int)>(n:Int) then none else if n=((n:Nat):Int).toNat then some (List.replicate n b,r) else _)=_
   rw [if_neg (by omega),if_pos (by omega),List.append_nil]
 | cons x l ih =>
  intro n m b hm hn hx
  simp only [List.length_cons] at hm hn ⊢
  rw [Hp]
  by_cases hb:x=b
  ·rw [if_pos hb]
   have:=ih (n+1) m b (by omega) (by omega) (fun y hy=>hx y (by simp [hy]))
   rw [show n+(l.length+1)=n+1+l.length by omega,this,hb,List.replicate_succ',List.append_assoc]
   rfl
  ·rw [if_neg hb]
   obtain ⟨m,rfl⟩:∃k,m=k+1:=⟨m-1,by omega⟩
   rw [rL,if_neg (by omega),List.append_assoc,Pr _ (by omega)]
   show (if (n:Int)>((n+(l.length+1):Nat):Int) then none else if n+(l.length+1)=((n:Nat):Int).toNat then _ else (rd ((e x++Hp e x 0 l)++r)).bind fun z=>if z.1=b then none else (rL rd m (n+(l.length+1)-((n:Nat):Int).toNat-1) z.1 z.2).map fun u=>(List.replicate ((n:Nat):Int).toNat b++z.1::u.1,u.2))=_
   rw [if_neg (by omega),if_neg (by omega),List.append_assoc,hx x (by simp)]
   show (if x=b then none else (rL rd m (n+(l.length+1)-((n:Nat):Int).toNat-1) x (Hp e x 0 l++r)).map fun u=>(List.replicate ((n:Nat):Int).toNat b++x::u.1,u.2))=_
   have:=ih 0 m x (by omega) (by omega) (fun y hy=>hx y (by simp [hy]))
   rw [if_neg hb,Int.toNat_natCast,show n+(l.length+1)-n-1=0+l.length by omega,this]
   rfl
theorem Zz {α:Type} [DecidableEq α] {rd:List Int→Option (α×List Int)} {e:α→List Int} (r:List Int) (l:List α) (b:α) (hl:l.length<1000000000) (hx:∀x∈l,∀r,rd (e x++r)=some (x,r)) :
  rL rd (l.length+1) l.length b (Hp e b 0 l++r)=some (l,r):=by
 have:=A0r (rd:=rd) r l 0 (l.length+1) b (by omega) (by omega) hx
 simpa using this
theorem Wk {α:Type} {g:Nat}:∀(rows:List (List α)),(∀r∈rows,r.length=g)→Qj g rows.length rows.flatten=rows:=by
 intro rows
 induction rows with
 | nil=>intro _;rfl
 | cons r rows ih =>
  intro h
  have hr:=h r (by simp)
  rw [List.length_cons,Qj,List.flatten_cons,List.take_left' hr,List.drop_left' hr,ih fun r hr=>h r (by simp [hr])]
theorem vVal.sm {v:api_Span} (h:vVal v):smS v:=by obtain ⟨a,b,c⟩:=h;exact ⟨by omega,b,by omega⟩
theorem smI {x lo hi:Int} (h:inB x lo hi) (h1:-100000000000≤lo) (h2:hi≤100000000000):Go.Proofs.Ytifbomimeodibaa.sm x:=⟨by have:=h.1;omega,by have:=h.2;omega⟩
theorem Wy {t:volume_thing} (r:List Int) (h:vT t):Kl (B1 t++r)=some (t,r):=by
 cases t with
 | nil_=>exact h.elim
 | ic112 s =>
  have hv:vSweep s.Sweep:=h
  have hlen:=hv.len
  have hv':=hv
  obtain ⟨hsite,ti,tm,h1,h2,h3⟩:=hv'
  have hsite':=hsite
  obtain ⟨n,x,y,z,ro,g,st,w⟩:=hsite'
  have hm:4*s.Sweep.Site.Rose*s.Sweep.Site.Gates≤360*s.Sweep.Site.Gates:=Int.mul_le_mul_of_nonneg_right (by have:=ro.2;omega) (by have:=g.1;omega)
  have hg2:=g.2
  show Kl (My s.Sweep++r)=_
  simp only [My,Fj,P6,List.flatMap_cons,List.flatMap_nil,List.append_nil,List.append_assoc]
  rw [Kl,Ji _ (by decide) ⟨by decide,by decide⟩]
  show Qt _=_
  rw [Qt,Y9 _ (by have:=P3 n;omega)]
  show (rI _).bind _=_
  rw [Ue _ (smI x (by decide) (by decide))]
  show (rI _).bind _=_
  rw [Ue _ (smI y (by decide) (by decide))]
  show (rN _).bind _=_
  rw [Ji _ (by have:=z.1;omega) (smI z (by decide) (by decide))]
  show (rN _).bind _=_
  rw [Ji _ (by have:=ro.1;omega) (smI ro (by decide) (by decide))]
  show (rN _).bind _=_
  rw [Ji _ (by have:=g.1;omega) (smI g (by decide) (by decide))]
  show (rN _).bind _=_
  rw [Ji _ (by have:=st.1;omega) (smI st (by decide) (by decide))]
  show (rN _).bind _=_
  rw [Ji _ (by have:=w.1;omega) (smI w (by decide) (by decide))]
  show (rN _).bind _=_
  rw [Ji _ (by have:=ti.1;omega) (smI ti (by decide) (by decide))]
  show (rN _).bind _=_
  rw [Ji _ (by have:=tm.1;omega) (smI tm (by decide) (by decide))]
  show (if R7 s.Sweep.Site then (rL rE ((4*s.Sweep.Site.Rose*s.Sweep.Site.Gates).toNat+1) (4*s.Sweep.Site.Rose*s.Sweep.Site.Gates).toNat e0 (Hp Hk e0 0 s.Sweep.Rays.flatten++r)).bind fun all=>some (volume_thing.ic112 ⟨⟨s.Sweep.Site,s.Sweep.Tilt,s.Sweep.Time,Qj s.Sweep.Site.Gates.toNat (4*s.Sweep.Site.Rose).toNat all.1⟩⟩,all.2) else none)=_
  rw [if_pos hsite,←hlen,Int.toNat_natCast,Zz r s.Sweep.Rays.flatten e0 (by omega) (fun x hx r=>A1t r (by obtain ⟨row,hr,hx⟩:=List.mem_flatten.1 hx;exact h3 row hr x hx))]
  show some (volume_thing.ic112 ⟨⟨s.Sweep.Site,s.Sweep.Tilt,s.Sweep.Time,Qj s.Sweep.Site.Gates.toNat (4*s.Sweep.Site.Rose).toNat s.Sweep.Rays.flatten⟩⟩,r)=_
  rw [←h1,Int.toNat_natCast,Wk _ (fun r hr=>by have:=h2 r hr;omega)]
 | ic114 f =>
  obtain ⟨n,tm,hg,h1,h2⟩:=(show Qx f from h)
  have hgl:=Nd hg
  have hg':=hg
  obtain ⟨x,y,z,ro,g⟩:=hg'
  show Kl (Mn f++r)=_
  simp only [Mn,Fj,P6,List.flatMap_cons,List.flatMap_nil,List.append_nil,List.append_assoc]
  rw [Kl,Ji _ (by decide) ⟨by decide,by decide⟩]
  show Qs _=_
  rw [Qs,Y9 _ (by have:=P3 n;omega)]
  show (rN _).bind _=_
  rw [Ji _ (by have:=tm.1;omega) (smI tm (by decide) (by decide))]
  show (rI _).bind _=_
  rw [Ue _ (smI x (by decide) (by decide))]
  show (rI _).bind _=_
  rw [Ue _ (smI y (by decide) (by decide))]
  show (rN _).bind _=_
  rw [Ji _ (by have:=z.1;omega) (smI z (by decide) (by decide))]
  show (rN _).bind _=_
  rw [Ji _ (by have:=ro.1;omega) (smI ro (by decide) (by decide))]
  show (rN _).bind _=_
  rw [Ji _ (by have:=g.1;omega) (smI g (by decide) (by decide))]
  show (if Qg f.Field.Grid then (rL rS ((f.Field.Grid.Wide*f.Field.Grid.High).toNat+1) (f.Field.Grid.Wide*f.Field.Grid.High).toNat ⟨0,0⟩ (Hp G8 ⟨0,0⟩ 0 f.Field.Vals++r)).bind fun all=>some (volume_thing.ic114 ⟨f.key,f.time,⟨f.Field.Grid,all.1⟩⟩,all.2) else none)=_
  rw [if_pos hg,←h1,Int.toNat_natCast,Zz r f.Field.Vals ⟨0,0⟩ (by omega) (fun v hv r=>Sd r (h2 v hv).sm)]
  rfl
 | ic116 n =>
  obtain ⟨tm,h1,h2⟩:=(show Ut n from h)
  show Kl (Qb n++r)=_
  simp only [Qb,Fj,List.flatMap_cons,List.flatMap_nil,List.append_nil,List.append_assoc]
  rw [Kl,Ji _ (by decide) ⟨by decide,by decide⟩]
  show Te _=_
  rw [Te,Ji _ (by have:=tm.1;omega) (smI tm (by decide) (by decide))]
  show (rT _).bind _=_
  rw [Y9 _ (by omega)]
  rfl
theorem Qf {t:volume_thing} (h:vT t):unS (D5 t)=(t,0):=by
 have hl:=Mz h.ok
 unfold unS D5 J5
 rw [List.append_assoc,Pr _ (by omega)]
 show (if (((B1 t++Nq (Dw (B1 t).length++B1 t)).length:Nat):Int)≠((B1 t).length:Int)+5 then _ else _)=_
 rw [if_neg (by rw [List.length_append,Lp];simp)]
 have e:(Dw (B1 t).length++(B1 t++Nq (Dw (B1 t).length++B1 t))).length-5=(Dw (B1 t).length++B1 t).length:=by simp only [List.length_append,Lp];omega
 rw [e,←List.append_assoc,List.drop_left,List.take_left,if_neg (by simp),Int.toNat_natCast,List.take_left]
 have:=Wy [] h
 rw [List.append_nil] at this
 rw [this]
 show (if vT t∧([]:List Int)=[] then _ else _)=_
 rw [if_pos ⟨h,rfl⟩]
end Go.Proofs.Ytifbomimeodibaa
namespace Go.Proofs.Ytifbomimeodibaa
open Go Go.RowKit Go.Eng
set_option maxRecDepth 10000
set_option linter.unusedVariables false
set_option linter.unusedSimpArgs false
def D7 (ps:List (List Int)):List Int:=ps.flatMap fun p=>0::p
theorem Ex (p:List Int) (ps:List (List Int)):D7 (p::ps)=0::(p++D7 ps):=by simp [D7]
theorem A11 (l:List Int) (h:By l):∃p ps,l=p++D7 ps∧Nz p∧∀q∈ps,Nz q:=by
 induction l with
 | nil=>exact ⟨[],[],rfl,Nz.nil,fun q hq=>by cases hq⟩
 | cons x l ih =>
  obtain ⟨p,ps,h1,h2,h3⟩:=ih fun y hy=>h y (by simp [hy])
  have hx:=h x (by simp)
  by_cases h0:x=0
  ·refine ⟨[],p::ps,by rw [h0,h1,Ex];rfl,Nz.nil,fun q hq=>?_⟩
   rcases List.mem_cons.1 hq with rfl|hq
   ·exact h2
   ·exact h3 q hq
  ·refine ⟨x::p,ps,by rw [h1];rfl,fun y hy=>?_,h3⟩
   rcases List.mem_cons.1 hy with rfl|hy
   ·omega
   ·exact h2 y hy
theorem Ua {ps:List (List Int)} (h:∀q∈ps,Nz q):By (D7 ps):=fun x hx=>by
 obtain ⟨p,hp,hx⟩:=List.mem_flatMap.1 hx
 rcases List.mem_cons.1 hx with rfl|hx
 ·exact ⟨by decide,by decide⟩
 ·exact (h p hp).by x hx
theorem A01 {x:Int} (h:1≤x∧x<256):(UInt8.ofNat x.toNat==(0:Int).toNat.toUInt8)=false:=by
 rw [beq_eq_false_iff_ne]
 intro he
 have:=congrArg UInt8.toNat he
 rw [UInt8.toNat_ofNat_of_lt' (show x.toNat<256 by omega)] at this
 simp at this
 omega
theorem Xr {p:List Int} (h:Nz p):Xp p 0=-1:=by
 induction p with
 | nil=>rfl
 | cons x p ih =>
  have:=ih fun y hy=>h y (by simp [hy])
  unfold Xp at this ⊢
  show Lib.indexByte (UInt8.ofNat x.toNat::Lib.bytesOf p) _=_
  rw [Lib.indexByte,A01 (h x (by simp)),if_neg (by simp),this]
  rfl
theorem Xq {p:List Int} (l:List Int) (h:Nz p):Xp (p++0::l) 0=p.length:=by
 induction p with
 | nil=>rfl
 | cons x p ih =>
  have:=ih fun y hy=>h y (by simp [hy])
  unfold Xp at this ⊢
  show Lib.indexByte (UInt8.ofNat x.toNat::Lib.bytesOf (p++0::l)) _=_
  rw [Lib.indexByte,A01 (h x (by simp)),if_neg (by simp),this,if_neg (by rw [beq_iff_eq];omega)]
  simp
def Rx {σ X:Type} (body:σ→X→Option (σ×Bool)):List X→σ→Option (σ×Bool)
 | [],s=>some (s,true)
 | x::l,s=>(body s x).bind fun q=>bif q.2 then Rx body l q.1 else some (q.1,false)
def Sa:Int→List (List Int)→List (Int×List Int)
 | _,[]=>[]
 | k,p::ps=>(k,p)::Sa (k+1+p.length) ps
theorem Ud {σ:Type} (body:σ→Int×List Int→Option (σ×Bool)) (b:List Int) (hb:b.length≤1000000000):∀(ps:List (List Int)) (m k:Nat) (s:σ),ps≠[]→b.drop k=D7 ps→(∀q∈ps,Nz q)→ps.length<m →
  Dm body b m k s=Rx body (Sa k ps) s:=by
 intro ps
 induction ps with
 | nil=>intro m k s h;exact absurd rfl h
 | cons p ps ih =>
  intro m k s _ hd hz hm
  obtain ⟨m,rfl⟩:∃m',m=m'+1:=⟨m-1,by omega⟩
  rw [Ex] at hd
  have hk:k<b.length:=by
   rcases Nat.lt_or_ge k b.length with h|h
   ·exact h
   ·rw [List.drop_of_length_le h] at hd;cases hd
  have hd1:b.drop (k+1)=p++D7 ps:=by
   have:=congrArg List.tail hd
   rw [List.tail_drop] at this
   exact this
  have hlen:=congrArg List.length hd1
  rw [List.length_drop,List.length_append] at hlen
  have hp:Nz p:=hz p (by simp)
  rw [Dm,Fm,B7 (by rw [dT (show (k:Int)≥0 by omega),dT (show (k:Int)<(b.length:Int) by omega)];rfl),ckb (by omega),Kp (k+1) (by omega) rfl (by omega),hd1]
  cases ps with
  | nil =>
   have e:p++D7 []=p:=by simp [D7]
   have hi:B0 (p++D7 []) 0=-1:=by rw [e];exact Xr hp
   rw [hi,B7 (by rfl),ckb (by omega),Kp (k+1) (by omega) rfl (by omega),hd1,e]
   rfl
  | cons p2 ps =>
   have hi:B0 (p++D7 (p2::ps)) 0=p.length:=by rw [Ex];exact Xq _ hp
   have hj:(D7 (p2::ps)).length≥1:=by rw [Ex];simp
   rw [hi,B2 (dF (by omega)),ckb (by omega),ckb (by omega),ckb (by omega),A06 (k+1) (k+1+p.length) (by omega) (by omega) (by omega),hd1,show k+1+p.length-(k+1)=p.length by omega,List.take_left]
   rw [Sa,Rx]
   congr 1
   funext q
   cases hq:q.2 with
   | false=>rfl
   | true =>
    rw [B7 rfl,B7 rfl,ckb (by omega),ckb (by omega)]
    have:=ih m (k+1+p.length) q.1 (by simp) (by rw [←List.drop_drop,hd1,List.drop_left]) (fun r hr=>hz r (by simp [hr])) (by simp at hm ⊢;omega)
    rw [show ((k:Int)+(1+(p.length:Int)))=((k+1+p.length:Nat):Int) by omega,this]
    rw [show ((k+1+p.length:Nat):Int)=(k:Int)+1+p.length by omega]
theorem Ww {σ:Type} (F:Nat) (body:σ→Int×List Int→Option (σ×Bool)) {p:List Int} {ps:List (List Int)} (hp:Nz p) (hz:∀q∈ps,Nz q) (hl:(p++D7 ps).length≤1000000000) (hF:ps.length<F) (s:σ) :
  Ey F (p++D7 ps) body s=Rx body (Sa p.length ps) s:=by
 rw [Ey]
 cases ps with
 | nil =>
  have e:p++D7 []=p:=by simp [D7]
  have hi:B0 (p++D7 []) 0=-1:=by rw [e];exact Xr hp
  obtain ⟨G,rfl⟩:∃G,F=G+1:=⟨F-1,by omega⟩
  rw [hi,Dm,Fm,B2 (by rfl)]
  rfl
 | cons q qs =>
  have hi:B0 (p++D7 (q::qs)) 0=p.length:=by rw [Ex];exact Xq _ hp
  rw [hi]
  exact Ud body _ hl _ F p.length s (by simp) (by rw [List.drop_left]) hz hF
theorem Wq (ps:List (List Int)):ps.length≤(D7 ps).length:=by
 induction ps with
 | nil=>simp
 | cons p ps ih=>rw [Ex];simp;omega
def Cs (t:volume_thing):volume_Item:=t.cs default A3 A2 A4
theorem Z0 (F:Nat) {t:volume_thing} (h:t≠.nil_):Hj F t=some (Cs t):=by
 cases t with
 | nil_=>exact absurd rfl h
 | ic112 s=>rfl
 | ic114 f=>rfl
 | ic116 n=>rfl
theorem Yo {p:List Int} (h:(unS p).2=0):vT (unS p).1:=by
 unfold unS at h ⊢
 split
 ·rename_i h1;rw [h1] at h;cases h
 ·rename_i n r h1
  rw [h1] at h
  simp only at h
  split
  ·rename_i h2;rw [if_pos h2] at h;cases h
  ·rename_i h2
   rw [if_neg h2] at h
   split
   ·rename_i h3;rw [if_pos h3] at h;cases h
   ·rename_i h3
    rw [if_neg h3] at h
    split
    ·rename_i h4;rw [h4] at h;cases h
    ·rename_i t r2 h4
     rw [h4] at h
     simp only at h
     split
     ·rename_i h5;exact h5.1
     ·rename_i h5;rw [if_neg h5] at h;cases h
theorem vT.nn {t:volume_thing} (h:vT t):t≠.nil_:=fun e=>by rw [e] at h;exact h
def Ss (p:List Int):Bool:=p.all fun c=>decide (c≥128)&&decide (c≤254)
def Sj (p:List Int):Bool:=Ss p||match rN p with
 | none=>false
 | some (n,r)=>decide ((r.length:Int)<n+5)
theorem X7 {F:Nat} (hF:1000≤F) {p:List Int} (hp:By p) (hl:p.length≤1000000000):∀(m i:Nat) (c:Bool),p.length-i<m→i≤p.length →
  Gy F p m i c=Hv F p (c&&Ss (p.drop i)):=by
 intro m
 induction m with
 | zero=>intro i c h;omega
 | succ m ih =>
  intro i c h hi
  rw [Gy,K6]
  by_cases hb:i<p.length
  ·have hd:=List.drop_eq_getElem_cons hb
   rw [B7 (dT (by omega)),Ft i p[i] rfl (List.getElem?_eq_getElem hb),ckb (by omega),show ((i:Int)+1)=((i+1:Nat):Int) by omega,ih (i+1) _ (by omega) (by omega)]
   congr 1
   rw [hd]
   have e:Ss (p[i]::p.drop (i+1))=(decide (p[i]≥128)&&decide (p[i]≤254)&&Ss (p.drop (i+1))):=List.all_cons ..
   rw [e]
   cases c<;>cases decide (p[i]≥128)<;>cases decide (p[i]≤254)<;>cases Ss (p.drop (i+1))<;>rfl
  ·rw [B2 (dF (by omega)),List.drop_of_length_le (by omega)]
   simp [Ss]
theorem Zj {F:Nat} (hF:1000≤F) {p:List Int} (hp:By p) (hlF:p.length<F) (hl:p.length≤1000000000):L6 F p=some (Sj p):=by
 rw [L6,show (0:Int)=((0:Nat):Int) from rfl,X7 hF hp hl F 0 true (by omega) (by omega),Hv,List.drop_zero,Bool.true_and]
 unfold Sj
 rcases Uf hF hp with ⟨r,h1,h2⟩|⟨n,r,h1,h2⟩
 ·rw [h1,h2,sb]
  cases Ss p<;>rfl
 ·obtain ⟨a,b,c⟩:=D1 hp h2
  have:=c.length_le
  rw [h1,h2,sb]
  cases Ss p with
  | true=>rfl
  | false =>
   show ((ck (n+5)).bind fun x26=>some (decide ((r.length:Int)<x26)))=_
   rw [ckb (by omega)]
   rfl
noncomputable def rdF (total:Int):Int→List (List Int)→List volume_Item×Int×Int
 | _,[]=>([],total,0)
 | k,p::ps=>if (unS p).2=0 then (Cs (unS p).1::(rdF total (k+1+p.length) ps).1,(rdF total (k+1+p.length) ps).2) else ([],k,if ps=[]∧Sj p=true then 16 else (unS p).2)
theorem X3 {F:Nat} (hF:200000≤F) (b:List Int) (hb:b.length<F) (hb9:b.length≤1000000000) (total:Int):∀(ps:List (List Int)) (k:Int) (acc:List volume_Item),0≤k→k+(D7 ps).length=b.length→(∀q∈ps,Nz q)→acc.length+ps.length≤1000000000 →
  ∃tg:Nat,Rx (Gw F b) (Sa k ps) (acc,total,0,0)=some ((acc++(rdF total k ps).1,(rdF total k ps).2.1,(rdF total k ps).2.2,tg),decide (tg≠3))∧(tg=0∨tg=3):=by
 intro ps
 induction ps with
 | nil=>intro k acc h0 h1 h2 h3;exact ⟨0,by simp [Sa,Rx,rdF],.inl rfl⟩
 | cons p ps ih =>
  intro k acc h0 h1 h2 h3
  have hp:=(h2 p (by simp)).by
  rw [Ex] at h1
  simp only [List.length_cons,List.length_append] at h1 h3
  have hun:=A23 hF hp (by omega) (by omega)
  rw [Sa,Rx,rdF,Gw]
  simp only [hun,sb]
  by_cases h:(unS p).2=0
  ·have hv:=Yo h
   have happ:(apd 224 acc [Cs (unS p).1]).bind (fun l405=>some ((l405,total,(0:Int),0),true))=some ((acc++[Cs (unS p).1],total,(0:Int),(0:Nat)),true):=M6 (by simp;omega) (by decide)
   rw [B2 (by simp [h]),Z0 F hv.nn,sb,if_pos h,happ,sb,B7 rfl]
   obtain ⟨tg,h4,h5⟩:=ih (k+1+p.length) (acc++[Cs (unS p).1]) (by omega) (by omega) (fun q hq=>h2 q (by simp [hq])) (by simp;omega)
   refine ⟨tg,?_,h5⟩
   rw [h4,List.append_assoc]
   rfl
  ·rw [B7 (by simp [h]),ckb (by omega),ckb (by omega),if_neg h]
   refine ⟨3,?_,.inr rfl⟩
   have hlast:(k+1+(p.length:Int)==(b.length:Int))=decide (ps=[]):=by
    cases ps with
    | nil=>simp [D7] at h1;simp;omega
    | cons q qs=>rw [Ex] at h1;simp at h1;simp;omega
   rw [hlast]
   by_cases h6:ps=[]
   ·rw [dT h6,gdT (by rfl),Zj (by omega) hp (by omega) (by omega),sb,B7 (c:=true) rfl]
    cases ht:Sj p with
    | true=>rw [B7 (by rfl),sb,B2 rfl,if_pos ⟨h6,rfl⟩];simp
    | false=>rw [B2 (by rfl),sb,B2 rfl,if_neg (by simp)];simp
   ·rw [dF h6,gdF (by rfl),sb,B2 (c:=false) rfl,B2 (by rfl),sb,B2 rfl,if_neg (fun h=>h6 h.1)];simp
def RVF1:List Int:=[82,86,70,49]
theorem RVF1_nz:Nz RVF1:=by intro x hx;simp [RVF1] at hx;omega
theorem Td (F:Nat) (l:List Int) (hl:By l):H8 F (RVF1++l) RVF1=some true:=by
 unfold H8
 rw [B7 (dT (by rw [List.length_append];omega)),Pd 4 rfl (by rfl) (by rw [List.length_append];simp [RVF1]),show (4:Nat)=RVF1.length from rfl,List.take_left,bEq RVF1_nz.by RVF1_nz.by]
 simp
theorem W6 {F:Nat} (hF:200000≤F) {ps:List (List Int)} (hz:∀q∈ps,Nz q) (hl:4+(D7 ps).length<F) (hl2:4+(D7 ps).length≤16777216) (hn:ps.length≤1000) :
  D2 F (RVF1++D7 ps)=some (rdF (4+(D7 ps).length:Nat) 4 ps):=by
 have hlen:(RVF1++D7 ps).length=4+(D7 ps).length:=by rw [List.length_append];rfl
 have hrl:∀(k:Int),(rdF (4+(D7 ps).length:Nat) k ps).1.length≤ps.length:=by
  generalize ((4+(D7 ps).length:Nat):Int)=total
  intro k
  clear hlen hl hl2 hn
  induction ps generalizing k with
  | nil=>simp [rdF]
  | cons p ps ih =>
   rw [rdF]
   split
   ·have:=ih (fun q hq=>hz q (by simp [hq])) (k+1+p.length)
    simpa using this
   ·simp
 rw [D2,B2 (dF (by omega)),show ([82,86,70,49]:List Int)=RVF1 from rfl,Td F _ (Ua hz),sb]
 obtain ⟨tg,h1,h2⟩:=X3 hF (RVF1++D7 ps) (by omega) (by omega) ((RVF1++D7 ps).length:Nat) ps 4 [] (by decide) (by omega) hz (by simp;omega)
 have hfin:((Ey F (RVF1++D7 ps) (Gw F (RVF1++D7 ps)) (([]:List volume_Item),(((RVF1++D7 ps).length:Nat):Int),0,0)).bind fun r410 =>
   bif r410.2 then (Ep r410.1.1 r410.1.2.1 r410.1.2.2.1) else (bif (r410.1.2.2.2==3) then (Ep r410.1.1 r410.1.2.1 r410.1.2.2.1) else (none)))=some (rdF (4+(D7 ps).length:Nat) 4 ps):=by
  rw [Ww F _ RVF1_nz hz (by omega) (by omega),show ((RVF1.length:Nat):Int)=4 from rfl,h1,sb]
  have hk:Ep ([]++(rdF ((RVF1++D7 ps).length:Nat) 4 ps).1) (rdF ((RVF1++D7 ps).length:Nat) 4 ps).2.1 (rdF ((RVF1++D7 ps).length:Nat) 4 ps).2.2=some (rdF (4+(D7 ps).length:Nat) 4 ps):=by
   rw [hlen,Ep,List.nil_append,B2 (dF (by have:=hrl 4;omega))]
  rcases h2 with rfl|rfl
  ·exact hk
  ·exact hk
 cases ps with
 | nil =>
  rw [gdF (by rfl),sb,B2 (by rfl)]
  exact hfin
 | cons p ps =>
  have hg:(E0 (RVF1++D7 (p::ps)) 4)=some 0:=by rw [Ex];rfl
  rw [gdT (by rw [dT (show (((RVF1++D7 (p::ps)).length:Nat):Int)>4 by rw [hlen,Ex];simp;omega)];rfl),hg,sb,B2 (by cases decide ((((RVF1++D7 (p::ps)).length:Nat):Int)>4)<;>rfl)]
  exact hfin
end Go.Proofs.Ytifbomimeodibaa
namespace Go.Proofs.Ytifbomimeodibaa
open Go Go.RowKit Go.Eng
set_option maxRecDepth 10000
set_option linter.unusedVariables false
set_option linter.unusedSimpArgs false
def Jz (x:law12_Thing):Prop:=(0≤x.Kind∧x.Kind≤255)∧(0≤x.Time∧x.Time≤4294967295)∧((0≤x.Sides.1∧x.Sides.1≤255)∧(0≤x.Sides.2.1∧x.Sides.2.1≤255)∧(0≤x.Sides.2.2∧x.Sides.2.2≤255))∧∀n∈x.Numbers,-32768≤n∧n≤32767
theorem Tv {β:Type} {x y:Int} {f:Int→Option β} (hx:0≤x) (hy:0<y):(K0 x y).bind f=f (x%y):=by
 unfold K0
 rw [if_neg (by omega),Int.tmod_eq_emod_of_nonneg hx]
 rfl
theorem L9 (F:Nat) {x:law12_Thing} (hx:Jz x) {p1 p2:Int} (h1:0≤p1) (h2:1≤p2∧p2≤1000000):∃v,Ad F x p1 p2=some v∧0≤v∧v<p2:=by
 unfold Ad
 by_cases h:x.Numbers.length=0
 ·rw [B7 (by simp [h])]
  exact ⟨0,rfl,by omega,by omega⟩
 ·have hm:=Int.emod_nonneg p1 (show ((x.Numbers.length:Nat):Int)≠0 by omega)
  have hm2:=Int.emod_lt_of_pos p1 (show (0:Int)<(x.Numbers.length:Nat) by omega)
  have hi:(p1%((x.Numbers.length:Nat):Int)).toNat<x.Numbers.length:=by omega
  have hn:=hx.2.2.2 _ (List.getElem_mem hi)
  rw [B2 (by simpa using h),Tv h1 (by omega),Ft (p1%((x.Numbers.length:Nat):Int)).toNat _ (by omega) (List.getElem?_eq_getElem hi),ckb (by omega)]
  generalize x.Numbers[(p1%((x.Numbers.length:Nat):Int)).toNat]=u at hn ⊢
  have e:K0 u p2=some (u.tmod p2):=by unfold K0;rw [if_neg (by omega)]
  have b1:-p2<u.tmod p2:=Int.lt_tmod_of_pos u (by omega)
  have b2:u.tmod p2<p2:=Int.tmod_lt_of_pos u (by omega)
  rw [e,sb,ckb (by omega),Tv (by omega) (by omega)]
  exact ⟨_,rfl,Int.emod_nonneg _ (by omega),Int.emod_lt_of_pos _ (by omega)⟩
theorem M4 (F:Nat) {x:law12_Thing} (hx:Jz x) {i lo wide:Int} (h1:0≤i∧i≤1000000) (h2:-1000000≤lo∧lo≤1000000) (h3:1≤wide∧wide≤1000000) :
  ∃s,Aw F x i lo wide=some s∧lo≤s.Lo∧s.Lo<lo+300∧s.Lo≤s.Hi∧s.Hi<s.Lo+wide:=by
 unfold Aw
 obtain ⟨a,ha,a1,a2⟩:=L9 F hx h1.1 (p2:=300) (by decide)
 obtain ⟨b,hb,b1,b2⟩:=L9 F hx (show 0≤i+1 by omega) h3
 show ∃s,(Ad F x i 300).bind _=some s∧_
 rw [ha,sb,ckb (by omega),ckb (by omega)]
 show ∃s,(Ad F x (i+1) wide).bind _=some s∧_
 rw [hb,sb,ckb (by omega)]
 exact ⟨_,rfl,by simp only;omega,by simp only;omega,by simp only;omega,by simp only;omega⟩
theorem z00:z0 ⟨0,0⟩:=⟨rfl,rfl⟩
theorem A13 (F:Nat) {x:law12_Thing} (hx:Jz x) {i:Int} (h1:0≤i∧i≤10000):∃e,Fb F x i=some e∧vEcho e:=by
 unfold Fb
 obtain ⟨k,hk,k1,k2⟩:=L9 F hx h1.1 (p2:=4) (by decide)
 show ∃s,(Ad F x i 4).bind _=some s∧_
 rw [hk,sb]
 by_cases c0:k=0
 ·obtain ⟨a,ha,a1,a2⟩:=L9 F hx (show 0≤i+1 by omega) (p2:=200) (by decide)
  rw [B7 (by simp [c0]),ckb (by omega)]
  show ∃s,(Ad F x (i+1) 200).bind _=some s∧_
  rw [ha,sb]
  have q1:Kf ⟨0,a⟩ 0 1073741824:=⟨Int.le_refl _,a1,by simp only;omega⟩
  exact ⟨_,rfl,.inl ⟨rfl,q1,rfl,z00,z00,rfl,z00,z00,z00⟩⟩
 ·rw [B2 (by simp [c0])]
  by_cases c1:k=1
  ·obtain ⟨p,hp,p1,p2,p3,p4⟩:=M4 F hx (i:=i+1) (lo:=1) (wide:=1000) (by omega) (by decide) (by decide)
   obtain ⟨r,hr,r1,r2,r3,r4⟩:=M4 F hx (i:=i+3) (lo:=0) (wide:=50000) (by omega) (by decide) (by decide)
   obtain ⟨m,hm,m1,m2,m3,m4⟩:=M4 F hx (i:=i+2) (lo:=0) (wide:=500) (by omega) (by decide) (by decide)
   obtain ⟨s,hs,s1,s2⟩:=L9 F hx (show 0≤i+5 by omega) (p2:=65536) (by decide)
   rw [B7 (by simp [c1]),ckb (by omega)]
   show ∃s,(Aw F x (i+1) 1 1000).bind _=some s∧_
   rw [hp,sb,ckb (by omega)]
   show ∃s,(Aw F x (i+3) 0 50000).bind _=some s∧_
   rw [hr,sb,ckb (by omega)]
   show ∃s,(Aw F x (i+2) 0 500).bind _=some s∧_
   rw [hm,sb,ckb (by omega)]
   show ∃s,(Ad F x (i+5) 65536).bind _=some s∧_
   rw [hs,sb]
   have q1:Kf p 0 1073741824:=⟨by omega,p3,by omega⟩
   have q2:p.Lo>0:=by omega
   have q3:Kf r 0 1000000:=⟨r1,r3,by omega⟩
   have q4:Kf m 0 1000:=⟨m1,m3,by omega⟩
   have q5:inB s 0 65535:=⟨s1,by omega⟩
   exact ⟨_,rfl,.inr ⟨.inl rfl,q1,q2,q3,q4,q5,fun _=>⟨z00,z00,z00⟩,fun h=>by cases h⟩⟩
  ·rw [B2 (by simp [c1])]
   by_cases c2:k=2
   ·obtain ⟨p,hp,p1,p2,p3,p4⟩:=M4 F hx (i:=i+1) (lo:=1) (wide:=1000) (by omega) (by decide) (by decide)
    obtain ⟨r,hr,r1,r2,r3,r4⟩:=M4 F hx (i:=i+3) (lo:=0) (wide:=50000) (by omega) (by decide) (by decide)
    obtain ⟨m,hm,m1,m2,m3,m4⟩:=M4 F hx (i:=i+2) (lo:=0) (wide:=500) (by omega) (by decide) (by decide)
    obtain ⟨s,hs,s1,s2⟩:=L9 F hx (show 0≤i+5 by omega) (p2:=3000) (by decide)
    obtain ⟨a,ha,a1,a2,a3,a4⟩:=M4 F hx (i:=i) (lo:=-200) (wide:=30000) (by omega) (by decide) (by decide)
    obtain ⟨b,hb,b1,b2,b3,b4⟩:=M4 F hx (i:=i+4) (lo:=-32768) (wide:=3) (by omega) (by decide) (by decide)
    obtain ⟨t,ht,t1,t2,t3,t4⟩:=M4 F hx (i:=i+1) (lo:=500) (wide:=40) (by omega) (by decide) (by decide)
    rw [B7 (by simp [c2]),ckb (by omega)]
    show ∃s,(Aw F x (i+1) 1 1000).bind _=some s∧_
    rw [hp,sb,ckb (by omega)]
    show ∃s,(Aw F x (i+3) 0 50000).bind _=some s∧_
    rw [hr,sb,ckb (by omega)]
    show ∃s,(Aw F x (i+2) 0 500).bind _=some s∧_
    rw [hm,sb,ckb (by omega)]
    show ∃s,(Ad F x (i+5) 3000).bind _=some s∧_
    rw [hs,sb]
    show ∃s,(Aw F x i (-200) 30000).bind _=some s∧_
    rw [ha,sb,ckb (by omega)]
    show ∃s,(Aw F x (i+4) (-32768) 3).bind _=some s∧_
    rw [hb,sb,ckb (by omega)]
    show ∃s,(Aw F x (i+1) 500 40).bind _=some s∧_
    rw [ht,sb]
    have q1:Kf p 0 1073741824:=⟨by omega,p3,by omega⟩
    have q2:p.Lo>0:=by omega
    have q3:Kf r 0 1000000:=⟨r1,r3,by omega⟩
    have q4:Kf m 0 1000:=⟨m1,m3,by omega⟩
    have q5:inB s 0 65535:=⟨s1,by omega⟩
    have q6:Hs a:=⟨by omega,by omega,a3,by omega⟩
    have q7:Hs b:=⟨by omega,by omega,b3,by omega⟩
    have q8:Hs t:=⟨by omega,by omega,t3,by omega⟩
    exact ⟨_,rfl,.inr ⟨.inr rfl,q1,q2,q3,q4,q5,fun h=>(by cases h),fun _=>⟨q6,q7,q8⟩⟩⟩
   ·rw [B2 (by simp [c2])]
    exact ⟨_,rfl,.inl ⟨rfl,⟨by decide,by decide,by decide⟩,rfl,z00,z00,rfl,z00,z00,z00⟩⟩
theorem A1r {β:Type} {x:Int} {f:Int→Option β} (h:0≤x∧x≤1000000):(N3 x 2).bind f=f (x/2):=by
 unfold N3
 rw [if_neg (by decide),Int.tdiv_eq_ediv_of_nonneg h.1,ckb (by omega)]
theorem Zx {y:Int} (h:0≤y∧y≤1000000):IntKind.i64.wrap (0-y)=-y:=by
 simp only [IntKind.wrap,IntKind.signed,IntKind.bits]
 simp
 omega
theorem A22 (F:Nat) {x:law12_Thing} (hx:Jz x) (g:Int) (rows:List (List api_Echo)) (k:Int) (k5:List (List api_Echo)→Int→Option volume_Item) (hg:1≤g∧g≤4) (hk:0≤k∧k≤8) (hr:rows.length≤100):∀(m i:Nat) (acc:List api_Echo),g-i<m→(i:Int)≤g→acc.length=i→(∀e∈acc,vEcho e) →
  ∃row,E5 F x g rows k k5 m acc i=k5 (rows++[row]) (k+1)∧(row.length:Int)=g∧∀e∈row,vEcho e:=by
 intro m
 induction m with
 | zero=>intro i acc h1 h2;omega
 | succ m ih =>
  intro i acc h1 h2 h3 h4
  rw [E5,Gb]
  by_cases hb:(i:Int)<g
  ·have hm:k*g≤8*g:=Int.mul_le_mul_of_nonneg_right hk.2 (by omega)
   have hm0:0≤k*g:=Int.mul_nonneg hk.1 (by omega)
   obtain ⟨e,he,hv⟩:=A13 F hx (i:=(k*g+i)/2) (by omega)
   rw [B7 (dT hb),ckb (by omega),ckb (by omega),A1r (by omega)]
   show ∃row,(Fb F x ((k*g+i)/2)).bind _=_∧_
   rw [he,sb,M6 (by simp;omega) (by decide),ckb (by omega)]
   exact ih (i+1) (acc++[e]) (by omega) (by omega) (by simp;omega) (fun z hz=>by
    rcases List.mem_append.1 hz with hz|hz
    ·exact h4 z hz
    ·simp at hz;rw [hz];exact hv)
  ·rw [B2 (dF hb),Ge,M6 (by simp;omega) (by decide),Gd,ckb (by omega)]
   exact ⟨acc,rfl,by omega,h4⟩
theorem A14 (F:Nat) (hF:100≤F) {x:law12_Thing} (hx:Jz x) (u8:ByteArray) (x9 x1461 g x1466 x1469 y1471 y1473 x1476 y1478 n:Int) (hg:1≤g∧g≤4) (hn:0≤n∧n≤8):∀(m i:Nat) (rows:List (List api_Echo)),n-i<m→(i:Int)≤n→rows.length=i→(∀r∈rows,(r.length:Int)=g∧∀e∈r,vEcho e) →
  ∃all,Da F x u8 x9 x1461 g x1466 x1469 y1471 y1473 x1476 y1478 n m rows i=F1 u8 x9 x1461 g x1466 x1469 y1471 y1473 x1476 y1478 all∧(all.length:Int)=n∧∀r∈all,(r.length:Int)=g∧∀e∈r,vEcho e:=by
 intro m
 induction m with
 | zero=>intro i rows h1 h2;omega
 | succ m ih =>
  intro i rows h1 h2 h3 h4
  rw [Da,Ga]
  by_cases hb:(i:Int)<n
  ·obtain ⟨row,hr,r1,r2⟩:=A22 F hx g rows i (Da F x u8 x9 x1461 g x1466 x1469 y1471 y1473 x1476 y1478 n m) hg (by omega) (by omega) F 0 [] (by omega) (by omega) rfl (fun e he=>by cases he)
   rw [B7 (dT hb),show (0:Int)=((0:Nat):Int) from rfl,hr]
   exact ih (i+1) (rows++[row]) (by omega) (by omega) (by simp;omega) (fun z hz=>by
    rcases List.mem_append.1 hz with hz|hz
    ·exact h4 z hz
    ·simp at hz;rw [hz];exact ⟨r1,r2⟩)
  ·rw [B2 (dF hb)]
   exact ⟨rows,rfl,by omega,h4⟩
theorem A16 (F:Nat) {x:law12_Thing} (hx:Jz x) (u8:ByteArray) (x9 w h x2689 y2691 x2694 n:Int) (hn:0≤n∧n≤20):∀(m i:Nat) (acc:List api_Span),n-i<m→(i:Int)≤n→acc.length=i→(∀v∈acc,vVal v) →
  ∃all,Dp F x u8 x9 w h x2689 y2691 x2694 n m acc i=F2 u8 x9 w h x2689 y2691 x2694 all∧(all.length:Int)=n∧∀v∈all,vVal v:=by
 intro m
 induction m with
 | zero=>intro i acc h1 h2;omega
 | succ m ih =>
  intro i acc h1 h2 h3 h4
  rw [Dp,Fz]
  by_cases hb:(i:Int)<n
  ·obtain ⟨s,hs,s1,s2,s3,s4⟩:=M4 F hx (i:=(i:Int)/2) (lo:=0) (wide:=5+i) (by omega) (by decide) (by omega)
   rw [B7 (dT hb),A1r (by omega),ckb (by omega)]
   show ∃row,(Aw F x ((i:Int)/2) 0 (5+i)).bind _=_∧_
   rw [hs,sb,M6 (by simp;omega) (by decide),ckb (by omega)]
   exact ih (i+1) (acc++[s]) (by omega) (by omega) (by simp;omega) (fun z hz=>by
    rcases List.mem_append.1 hz with hz|hz
    ·exact h4 z hz
    ·simp at hz;rw [hz];exact ⟨s1,s3,by omega⟩)
  ·rw [B2 (dF hb)]
   exact ⟨acc,rfl,by omega,h4⟩
theorem A15 (F:Nat) {x:law12_Thing} (hx:Jz x) (u8:ByteArray) (x9 n:Int) (hn:0≤n∧n≤200):∀(m i:Nat) (acc:List Int),n-i<m→(i:Int)≤n→acc.length=i→(∀c∈acc,32≤c∧c≤126) →
  ∃all,E4 F x u8 x9 n m acc i=Ez x9 all∧(all.length:Int)=n∧∀c∈all,32≤c∧c≤126:=by
 intro m
 induction m with
 | zero=>intro i acc h1 h2;omega
 | succ m ih =>
  intro i acc h1 h2 h3 h4
  rw [E4,G9]
  by_cases hb:(i:Int)<n
  ·obtain ⟨c,hc,c1,c2⟩:=L9 F hx (p1:=i) (p2:=95) (by omega) (by decide)
   rw [B7 (dT hb)]
   show ∃row,(Ad F x i 95).bind _=_∧_
   rw [hc,sb,ckb (by omega),Uu (by omega),M6 (by simp;omega) (by decide),ckb (by omega)]
   exact ih (i+1) (acc++[32+c]) (by omega) (by omega) (by simp;omega) (fun z hz=>by
    rcases List.mem_append.1 hz with hz|hz
    ·exact h4 z hz
    ·simp at hz;omega)
  ·rw [B2 (dF hb)]
   exact ⟨acc,rfl,by omega,h4⟩
def names:List ByteArray:=[(⟨#[97]⟩:ByteArray),(⟨#[98,95,49]⟩:ByteArray),(⟨#[122,122,122,122,122,122,122,122,122,122,122,122]⟩:ByteArray)]
theorem Xt:∀s∈names,Qa s=true∧Tz s:=by
 intro s hs
 simp only [names,List.mem_cons,List.not_mem_nil,or_false] at hs
 rcases hs with rfl|rfl|rfl
 ·exact ⟨by kernel_rfl,by intro x hx;simp [sby] at hx;omega⟩
 ·exact ⟨by kernel_rfl,by intro x hx;simp [sby] at hx;omega⟩
 ·exact ⟨by kernel_rfl,by intro x hx;simp [sby] at hx;omega⟩
def okI (t:volume_thing):Prop:=vT t∧tzT t∧(B1 t).length≤6000
theorem okI.of {t:volume_thing} (h1:vT t) (h2:tzT t) (h3:cnt t≤32):okI t:=⟨h1,h2,by have:=R6 h1.ok;omega⟩
theorem Ym {F:Nat} (hF:1000≤F) {x:law12_Thing} (hx:Jz x):∃t,Fc F x=some (Cs t)∧okI t:=by
 have hx':=hx
 obtain ⟨⟨k1,k2⟩,⟨t1,t2⟩,⟨⟨a1,a2⟩,⟨b1,b2⟩,⟨c1,c2⟩⟩,_⟩:=hx'
 obtain ⟨v,hv,v1,v2⟩:=L9 F hx (p1:=0) (p2:=3) (by decide) (by decide)
 obtain ⟨nm,hnm⟩:∃nm,names[v.toNat]? = some nm:=⟨_,List.getElem?_eq_getElem (show v.toNat<names.length by simp [names];omega)⟩
 obtain ⟨hn1,hn2⟩:=Xt nm (List.mem_of_getElem? hnm)
 unfold Fc
 show ∃t,(Ad F x 0 3).bind _=_∧_
 rw [hv,sb,show ([(⟨#[97]⟩:ByteArray),(⟨#[98,95,49]⟩:ByteArray),(⟨#[122,122,122,122,122,122,122,122,122,122,122,122]⟩:ByteArray)])=names from rfl,Ft v.toNat nm (by omega) hnm,ckb (by omega),Tv k1 (by decide)]
 have htime:inB x.Time 0 4294967296:=⟨t1,by omega⟩
 by_cases hk0:x.Kind%3=0
 ·obtain ⟨X,hX,X1,X2⟩:=L9 F hx (p1:=1) (p2:=2000) (by decide) (by decide)
  obtain ⟨Y,hY,Y1,Y2⟩:=L9 F hx (p1:=2) (p2:=900) (by decide) (by decide)
  obtain ⟨Z,hZ,Z1,Z2⟩:=L9 F hx (p1:=3) (p2:=20001) (by decide) (by decide)
  obtain ⟨S,hS,S1,S2⟩:=L9 F hx (p1:=4) (p2:=1951) (by decide) (by decide)
  obtain ⟨T,hT,T1,T2⟩:=L9 F hx (p1:=5) (p2:=257) (by decide) (by decide)
  rw [B7 (by simp [hk0]),ckb (by omega),Tv a1 (by decide),ckb (by omega),ckb (by omega),Tv b1 (by decide),ckb (by omega),ckb (by omega),Tv c1 (by decide)]
  show ∃t,(Ad F x 1 2000).bind _=_∧_
  rw [hX,sb,ckb (by omega)]
  show ∃t,(Ad F x 2 900).bind _=_∧_
  rw [hY,sb]
  show ∃t,(Ad F x 3 20001).bind _=_∧_
  rw [hZ,sb]
  show ∃t,(Ad F x 4 1951).bind _=_∧_
  rw [hS,sb,ckb (by omega)]
  show ∃t,(Ad F x 5 257).bind _=_∧_
  rw [hT,sb,ckb (by omega)]
  obtain ⟨all,ha,l1,l2⟩:=A14 F (by omega) hx nm x.Time (1+x.Sides.1%2) (1+x.Sides.2.1%4) (x.Sides.2.2%9) (X-1000) Y Z (50+S) T (4*(1+x.Sides.1%2)) (by omega) (by omega) F 0 [] (by omega) (by omega) rfl (fun r hr=>by cases hr)
  rw [show (0:Int)=((0:Nat):Int) from rfl,ha,F1,Zx (by omega)]
  have q1:inB (X-1000) (-1048576) 1048576:=⟨by omega,by omega⟩
  have q2:inB (-Y) (-1048576) 1048576:=⟨by omega,by omega⟩
  have q3:inB Z 0 20000:=⟨by omega,by omega⟩
  have q4:inB (1+x.Sides.1%2) 1 90:=⟨by omega,by omega⟩
  have q5:inB (1+x.Sides.2.1%4) 1 200:=⟨by omega,by omega⟩
  have q6:inB (50+S) 50 2000:=⟨by omega,by omega⟩
  have q7:inB (x.Sides.2.2%9) 0 8:=⟨by omega,by omega⟩
  have q8:inB T 0 256:=⟨by omega,by omega⟩
  have hlen:all.flatten.length≤32:=by
   rw [Vr (n:=(1+x.Sides.2.1%4).toNat) (fun r hr=>by have:=(l2 r hr).1;omega)]
   have h8:all.length≤8:=by omega
   have h4:(1+x.Sides.2.1%4).toNat≤4:=by omega
   exact Nat.mul_le_mul h8 h4
  exact ⟨.ic112 ⟨⟨⟨nm,X-1000,-Y,Z,1+x.Sides.1%2,1+x.Sides.2.1%4,50+S,x.Sides.2.2%9⟩,T,x.Time,all⟩⟩,rfl,okI.of ⟨⟨hn1,q1,q2,q3,q4,q5,q6,q7⟩,q8,htime,l1,fun r hr=>(l2 r hr).1,fun r hr=>(l2 r hr).2⟩ hn2 hlen⟩
 ·rw [B2 (by simp [hk0])]
  by_cases hk1:x.Kind%3=1
  ·obtain ⟨X,hX,X1,X2⟩:=L9 F hx (p1:=1) (p2:=2000) (by decide) (by decide)
   obtain ⟨Y,hY,Y1,Y2⟩:=L9 F hx (p1:=2) (p2:=900) (by decide) (by decide)
   obtain ⟨Z,hZ,Z1,Z2⟩:=L9 F hx (p1:=3) (p2:=10000) (by decide) (by decide)
   have hm:(1+x.Sides.1%5)*(1+x.Sides.2.1%4)≤5*(1+x.Sides.2.1%4):=Int.mul_le_mul_of_nonneg_right (by omega) (by omega)
   have hm0:0≤(1+x.Sides.1%5)*(1+x.Sides.2.1%4):=Int.mul_nonneg (by omega) (by omega)
   rw [B7 (by simp [hk1]),ckb (by omega),Tv a1 (by decide),ckb (by omega),ckb (by omega),Tv b1 (by decide),ckb (by omega)]
   show ∃t,(Ad F x 1 2000).bind _=_∧_
   rw [hX,sb,ckb (by omega)]
   show ∃t,(Ad F x 2 900).bind _=_∧_
   rw [hY,sb]
   show ∃t,(Ad F x 3 10000).bind _=_∧_
   rw [hZ,sb,ckb (by omega),ckb (by omega)]
   obtain ⟨all,ha,l1,l2⟩:=A16 F hx nm x.Time (1+x.Sides.1%5) (1+x.Sides.2.1%4) (X-1000) Y (1+Z) ((1+x.Sides.1%5)*(1+x.Sides.2.1%4)) ⟨hm0,by omega⟩ F 0 [] (by omega) (by omega) rfl (fun r hr=>by cases hr)
   rw [show (0:Int)=((0:Nat):Int) from rfl,ha,F2,Zx (by omega)]
   have q1:inB (X-1000) (-1048576) 1048576:=⟨by omega,by omega⟩
   have q2:inB (-Y) (-1048576) 1048576:=⟨by omega,by omega⟩
   have q3:inB (1+Z) 1 10000:=⟨by omega,by omega⟩
   have q4:inB (1+x.Sides.1%5) 1 64:=⟨by omega,by omega⟩
   have q5:inB (1+x.Sides.2.1%4) 1 64:=⟨by omega,by omega⟩
   exact ⟨.ic114 ⟨nm,x.Time,⟨⟨X-1000,-Y,1+Z,1+x.Sides.1%5,1+x.Sides.2.1%4⟩,all⟩⟩,rfl,okI.of ⟨hn1,htime,⟨q1,q2,q3,q4,q5⟩,l1,l2⟩ hn2 (show all.length≤32 by omega)⟩
  ·rw [B2 (by simp [hk1]),Gc,ckb (by omega),Tv a1 (by decide)]
   obtain ⟨all,ha,l1,l2⟩:=A15 F hx nm x.Time (x.Sides.1%201) (by omega) F 0 [] (by omega) (by omega) rfl (fun r hr=>by cases hr)
   rw [show (0:Int)=((0:Nat):Int) from rfl,ha,Ez]
   have hby:By all:=fun c hc=>by have:=l2 c hc;omega
   have hsz:(bst all).size≤200:=by rw [←Jd,Mw hby];omega
   exact ⟨.ic116 ⟨x.Time,bst all⟩,rfl,okI.of ⟨htime,hsz,by rw [Mw hby];exact l2⟩ (show Nz (sby (bst all)) by rw [Mw hby];intro c hc;have:=l2 c hc;omega) (Nat.zero_le _)⟩
theorem Xb {F:Nat} (hF:1000≤F) {l:List law12_Thing} (hl:∀x∈l,Jz x) (h8:l.length≤8):∀(m i:Nat) (ts:List volume_thing),l.length-i<m→i≤l.length→ts.length=i→(∀t∈ts,okI t) →
  ∃ts':List volume_thing,Hw F l m i (ts.map Cs)=some (ts'.map Cs,true)∧ts'.length=l.length∧∀t∈ts',okI t:=by
 intro m
 induction m with
 | zero=>intro i ts h;omega
 | succ m ih =>
  intro i ts h hi ht hok
  rw [Hw,Lc]
  by_cases hb:i<l.length
  ·obtain ⟨t,h1,h2⟩:=Ym hF (hl l[i] (List.getElem_mem hb))
   rw [B7 (dT (by omega)),Ft i l[i] rfl (List.getElem?_eq_getElem hb)]
   show ∃ts':List volume_thing,(Fc F l[i]).bind _=_∧_
   rw [h1,sb,M6 (by simp;omega) (by decide),ckb (by omega)]
   have:=ih (i+1) (ts++[t]) (by omega) (by omega) (by simp;omega) (fun z hz=>by
    rcases List.mem_append.1 hz with hz|hz
    ·exact hok z hz
    ·simp at hz;rw [hz];exact h2)
   rw [List.map_append] at this
   exact this
  ·rw [B2 (dF (by omega)),Ld]
   exact ⟨ts,rfl,by omega,hok⟩
theorem A03 {F:Nat} (hF:1000≤F) {l:List law12_Thing} (hl:∀x∈l,Jz x):(Li F l=some ([],false)∧l.length>8)∨∃ts:List volume_thing,Li F l=some (ts.map Cs,true)∧ts.length=l.length∧l.length≤8∧∀t∈ts,okI t:=by
 unfold Li
 by_cases h:l.length>8
 ·rw [B7 (dT (by omega))];exact .inl ⟨rfl,h⟩
 ·rw [B2 (dF (by omega))]
  obtain ⟨ts,h1,h2,h3⟩:=Xb hF hl (by omega) F 0 [] (by omega) (by omega) rfl (fun t ht=>by cases ht)
  exact .inr ⟨ts,h1,h2,by omega,h3⟩
end Go.Proofs.Ytifbomimeodibaa
namespace Go.Proofs.Ytifbomimeodibaa
open Go Go.RowKit Go.Eng
set_option maxRecDepth 10000
set_option linter.unusedVariables false
set_option linter.unusedSimpArgs false
theorem Sn:L0 FV=some true:=by kernel_rfl
theorem Sf (s:ByteArray):sEq s s=true:=Rj.2 rfl
theorem Tq {t:volume_thing} (h:t≠.nil_):Gx (Cs t)=t:=by
 cases t with
 | nil_=>exact absurd rfl h
 | ic112 s =>
  show Gx (A3 s)=_
  simp [Gx,A3,Sf]
 | ic114 f =>
  show Gx (A2 f)=_
  simp [Gx,A2,Sf]
  rfl
 | ic116 n =>
  show Gx (A4 n)=_
  simp [Gx,A4,Sf]
  rfl
theorem Uz {F:Nat} (hF:5000≤F) {t:volume_thing} (h:vT t):Hu F (Cs t)=some (t,0):=by
 obtain ⟨e,he,hv⟩:=U3 hF h.nn
 have h0:e=0:=hv.2 h
 subst h0
 rw [Hu,Tq h.nn]
 cases t with
 | nil_=>exact h.elim
 | ic112 s=>rw [show Dn F (.ic112 s)=D4 F s from rfl] at he;show (D4 F s).bind _=_;rw [he];rfl
 | ic114 s=>rw [show Dn F (.ic114 s)=D3 F s from rfl] at he;show (D3 F s).bind _=_;rw [he];rfl
 | ic116 s=>rw [show Dn F (.ic116 s)=Di F s from rfl] at he;show (Di F s).bind _=_;rw [he];rfl
theorem Tr {F:Nat} (hF:200000≤F) {t:volume_thing} (h:vT t) (hl:(B1 t).length+100≤F):Gz F (Cs t)=some (Bw t,0):=by
 rw [Gz,Uz (by omega) h,sb,B2 (by rfl)]
 show (J3 F t).bind _=_
 rw [Xc hF h.ok hl]
 rfl
def Fy (ts:List volume_thing):List Int:=D7 (ts.map D5)
theorem Pk (t:volume_thing) (ts:List volume_thing):Fy (t::ts)=Bw t++Fy ts:=by
 unfold Fy Bw;rw [List.map_cons,Ex];rfl
theorem Pp {t:volume_thing} (h:vT t):(D5 t).length≤(B1 t).length+14:=by
 have hl:=Mz h.ok
 have h9:=Ec (x:=((B1 t).length:Int)) ⟨by omega,by omega⟩
 rw [Int.toNat_natCast] at h9
 unfold D5 J5
 simp only [List.length_append,Lp]
 omega
theorem Vk {F:Nat} (hF:200000≤F) (ts:List volume_thing) (hv:∀t∈ts,vT t∧(B1 t).length+100≤F) (hl:4+(Fy ts).length≤16777216):∀(m i:Nat) (acc:List Int),ts.length-i<m→i≤ts.length→ts.length≤1000→acc++Fy (ts.drop i)=RVF1++Fy ts →
  Fv F (ts.map Cs) m i acc=some (RVF1++Fy ts,0):=by
 intro m
 induction m with
 | zero=>intro i acc h;omega
 | succ m ih =>
  intro i acc h hi hn hacc
  rw [Fv,Je,List.length_map]
  have hal:acc.length+(Fy (ts.drop i)).length=4+(Fy ts).length:=by
   have:=congrArg List.length hacc
   rw [List.length_append,List.length_append] at this
   exact this
  by_cases hb:i<ts.length
  ·have hd:=List.drop_eq_getElem_cons hb
   obtain ⟨h1,h2⟩:=hv ts[i] (List.getElem_mem hb)
   rw [hd,Pk,List.length_append] at hal
   rw [B7 (dT (by omega)),Ft i (Cs ts[i]) rfl (by rw [List.getElem?_map,List.getElem?_eq_getElem hb];rfl),Tr hF h1 h2,sb,B2 (by rfl),M6 (by simp only;omega) (by decide),ckb (by omega)]
   exact ih (i+1) _ (by omega) (by omega) hn (by rw [←hacc,hd,Pk,List.append_assoc])
  ·rw [B2 (dF (by omega)),Jf]
   rw [List.drop_of_length_le (by omega)] at hacc hal
   rw [show Fy []=[] from rfl,List.append_nil] at hacc
   rw [show Fy []=[] from rfl] at hal
   rw [B2 (dF (by simp at hal;omega)),hacc]
theorem Uv {F:Nat} (hF:200000≤F) {ts:List volume_thing} (hv:∀t∈ts,vT t∧(B1 t).length+100≤F) (hl:4+(Fy ts).length≤16777216) (hn:ts.length≤1000):F9 F (ts.map Cs)=some (RVF1++Fy ts,0):=by
 rw [F9,B2 (dF (by rw [List.length_map];omega))]
 exact Vk hF ts hv hl F 0 RVF1 (by omega) (by omega) hn rfl
theorem Rt {ts:List volume_thing} (h:∀t∈ts,okI t):(Fy ts).length≤6015*ts.length:=by
 induction ts with
 | nil=>simp [Fy,D7]
 | cons t ts ih =>
  obtain ⟨h1,h2,h3⟩:=h t (by simp)
  have:=ih fun t ht=>h t (by simp [ht])
  have hp:=Pp h1
  rw [Pk,List.length_append]
  unfold Bw
  simp only [List.length_cons]
  omega
theorem A0v {ts:List volume_thing} (total:Int) (h:∀t∈ts,vT t) (k:Int):rdF total k (ts.map D5)=(ts.map Cs,total,0):=by
 induction ts generalizing k with
 | nil=>rfl
 | cons t ts ih =>
  rw [List.map_cons,rdF,Qf (h t (by simp)),if_pos rfl,ih (fun t ht=>h t (by simp [ht]))]
  rfl
theorem okI.nz {ts:List volume_thing} (h:∀t∈ts,okI t):∀q∈ts.map D5,Nz q:=fun q hq=>by
 obtain ⟨t,ht,rfl⟩:=List.mem_map.1 hq
 exact Wv (h t ht).2.1
theorem X0 {F:Nat} (hF:200000≤F) {ts:List volume_thing} (h:∀t∈ts,okI t) (hn:ts.length≤20):D2 F (RVF1++Fy ts)=some (ts.map Cs,((4+(Fy ts).length:Nat):Int),0):=by
 have hl:=Rt h
 unfold Fy at hl ⊢
 rw [W6 hF (okI.nz h) (by omega) (by omega) (by simp;omega),A0v _ (fun t ht=>(h t ht).1)]
theorem X9 {F:Nat} (hF:200000≤F) {ts:List volume_thing} (h:∀t∈ts,okI t) (hn:ts.length≤20):F9 F (ts.map Cs)=some (RVF1++Fy ts,0):=by
 have hl:=Rt h
 exact Uv hF (fun t ht=>⟨(h t ht).1,by have:=(h t ht).2.2;omega⟩) (by omega) (by omega)
end Go.Proofs.Ytifbomimeodibaa
namespace Go.Proofs.Ytifbomimeodibaa
open Go Go.RowKit Go.Eng
set_option maxRecDepth 10000
set_option linter.unusedVariables false
set_option linter.unusedSimpArgs false
theorem Q4 {α:Type} [DecidableEq α] {a b:List α} {i:Nat} (ha:i<a.length) (hb:i<b.length):decide (a.drop i=b.drop i)=(decide (a[i]=b[i])&&decide (a.drop (i+1)=b.drop (i+1))):=by
 rw [List.drop_eq_getElem_cons ha,List.drop_eq_getElem_cons hb,Bool.eq_iff_iff,decide_eq_true_eq,List.cons.injEq,Bool.and_eq_true,decide_eq_true_eq,decide_eq_true_eq]
theorem Na {α:Type} [DecidableEq α] {a b:List α} {i:Nat} (ha:a.length≤i) (hb:b.length≤i):decide (a.drop i=b.drop i)=true:=by
 rw [List.drop_of_length_le ha,List.drop_of_length_le hb];simp
theorem Uy (a b:List Int) (hl:a.length=b.length) (h9:a.length≤1000000000):∀(m i:Nat),a.length-i<m→i≤a.length→Gq a b m i=some (decide (a.drop i=b.drop i)):=by
 intro m
 induction m with
 | zero=>intro i h;omega
 | succ m ih =>
  intro i h hi
  rw [Gq,Jn]
  by_cases hb:i<a.length
  ·rw [B7 (dT (by omega)),Ft i a[i] rfl (List.getElem?_eq_getElem hb),Ft i b[i] rfl (List.getElem?_eq_getElem (by omega)),Q4 hb (by omega)]
   by_cases he:a[i]=b[i]
   ·rw [B2 (by simp [he]),ckb (by omega)]
    have:=ih (i+1) (by omega) (by omega)
    rw [show ((i:Int)+1)=((i+1:Nat):Int) by omega,this,dT he,Bool.true_and]
   ·rw [B7 (by simp [he]),dF he,Bool.false_and]
  ·rw [B2 (dF (by omega)),Jo,Na (by omega) (by omega)]
theorem Rn {F:Nat} {a b:List Int} (hF:a.length<F) (h9:a.length≤1000000000):Fa F a b=some (decide (a=b)):=by
 rw [Fa]
 by_cases h:a.length=b.length
 ·rw [B2 (by simp [h]),show (0:Int)=((0:Nat):Int) from rfl,Uy a b h h9 F 0 (by omega) (by omega),List.drop_zero,List.drop_zero]
 ·rw [B7 (by simp;omega),dF (fun e=>h (by rw [e]))]
theorem Yh (p0 p1:api_Sweep) (j:Nat) (k2:Int→Option Bool) (a b:List api_Echo) (ha:p0.Rays[j]? = some a) (hb:p1.Rays[j]? = some b) (hl:a.length=b.length) (h9:a.length≤1000000):∀(m i:Nat),a.length-i<m→i≤a.length →
  Gt p0 p1 j k2 m i=bif decide (a.drop i=b.drop i) then Ho j k2 else some false:=by
 intro m
 induction m with
 | zero=>intro i h;omega
 | succ m ih =>
  intro i h hi
  rw [Gt,Ju,Ft j a rfl ha]
  by_cases hlt:i<a.length
  ·rw [B7 (dT (by omega)),Ft j a rfl ha,Ft i a[i] rfl (List.getElem?_eq_getElem hlt),Ft j b rfl hb,Ft i b[i] rfl (List.getElem?_eq_getElem (by omega)),Rb,Q4 hlt (by omega)]
   by_cases he:a[i]=b[i]
   ·rw [B2 (by simp [he]),ckb (by omega)]
    have:=ih (i+1) (by omega) (by omega)
    rw [show ((i:Int)+1)=((i+1:Nat):Int) by omega,this,dT he,Bool.true_and]
   ·rw [B7 (by simp [he]),dF he,Bool.false_and,B2 rfl]
  ·rw [B2 (dF (by omega)),Na (by omega) (by omega),B7 rfl]
def A04 (s:api_Sweep):Prop:=s.Rays.length≤1000∧∀r∈s.Rays,r.length≤1000
theorem Wz {F:Nat} (hF:2000≤F) (p0 p1:api_Sweep) (h0:A04 p0) (hl:p0.Rays.length=p1.Rays.length):∀(m i:Nat),p0.Rays.length-i<m→i≤p0.Rays.length→Fh F p0 p1 m i=some (decide (p0.Rays.drop i=p1.Rays.drop i)):=by
 intro m
 obtain ⟨hn,hr⟩:=h0
 induction m with
 | zero=>intro i h;omega
 | succ m ih =>
  intro i h hi
  rw [Fh,Jt]
  by_cases hb:i<p0.Rays.length
  ·have hri:=hr _ (List.getElem_mem hb)
   rw [B7 (dT (by omega)),Ft i p0.Rays[i] rfl (List.getElem?_eq_getElem hb),Ft i p1.Rays[i] rfl (List.getElem?_eq_getElem (by omega)),Q4 hb (by omega)]
   by_cases hle:p0.Rays[i].length=p1.Rays[i].length
   ·rw [B2 (by simp [hle])]
    have hrow:=Yh p0 p1 i (Fh F p0 p1 m) _ _ (List.getElem?_eq_getElem hb) (List.getElem?_eq_getElem (show i<p1.Rays.length by omega)) hle (by omega) F 0 (by omega) (by omega)
    refine hrow.trans ?_
    rw [List.drop_zero,List.drop_zero]
    by_cases he:p0.Rays[i]=p1.Rays[i]
    ·have:=ih (i+1) (by omega) (by omega)
     rw [dT he,B7 rfl,Ho,ckb (by omega),show ((i:Int)+1)=((i+1:Nat):Int) by omega,this,Bool.true_and]
    ·rw [dF he,B2 rfl,Bool.false_and]
   ·rw [B7 (by simp;omega),dF (fun e=>hle (by rw [e])),Bool.false_and]
  ·rw [B2 (dF (by omega)),Jv,Na (by omega) (by omega)]
theorem A1e (a b:ByteArray):(a==b)=decide (a=b):=by
 rw [Bool.eq_iff_iff,decide_eq_true_eq]
 cases a with
 | mk x =>
  cases b with
  | mk y =>
   rw [ByteArray.mk.injEq,←beq_iff_eq (a:=x)]
   rfl
theorem Zh (a b:api_Site):((a.Name==b.Name)&&(((a.X:Int)==b.X)&&(((a.Y:Int)==b.Y)&&(((a.Z:Int)==b.Z)&&(((a.Rose:Int)==b.Rose)&&(((a.Gates:Int)==b.Gates)&&(((a.Step:Int)==b.Step)&&(((a.Width:Int)==b.Width)&&true))))))))=decide (a=b):=by
 rw [A1e]
 cases a;cases b
 rw [Bool.eq_iff_iff]
 simp [and_assoc]
theorem A12 {F:Nat} (hF:2000≤F) (a b:api_Sweep) (ha:A04 a):Kz F a b=some (decide (a=b)):=by
 rw [Kz,Zh]
 by_cases h1:a.Site=b.Site∧a.Tilt=b.Tilt∧a.Time=b.Time∧a.Rays.length=b.Rays.length
 ·obtain ⟨h1,h2,h3,h4⟩:=h1
  rw [B2 (by simp [h1,h2,h3,h4])]
  refine (Wz hF a b ha h4 F 0 (by have:=ha.1;omega) (by omega)).trans ?_
  rw [List.drop_zero,List.drop_zero]
  congr 1
  cases a;cases b
  simp only at h1 h2 h3
  rw [Bool.eq_iff_iff]
  simp [h1,h2,h3]
 ·rw [B7 ?_,dF (fun e=>h1 (by rw [e];exact ⟨rfl,rfl,rfl,rfl⟩))]
  by_cases g1:a.Site=b.Site
  ·by_cases g2:a.Tilt=b.Tilt
   ·by_cases g3:a.Time=b.Time
    ·have g4:¬a.Rays.length=b.Rays.length:=fun e=>h1 ⟨g1,g2,g3,e⟩
     simp [g1,g2,g3];omega
    ·simp [g1,g2,g3]
   ·simp [g1,g2]
  ·simp [g1]
theorem X8 (p0 p1:api_Field) (hl:p0.Vals.length=p1.Vals.length) (h9:p0.Vals.length≤1000000):∀(m i:Nat),p0.Vals.length-i<m→i≤p0.Vals.length→Gr p0 p1 m i=some (decide (p0.Vals.drop i=p1.Vals.drop i)):=by
 intro m
 induction m with
 | zero=>intro i h;omega
 | succ m ih =>
  intro i h hi
  rw [Gr,Jp]
  by_cases hb:i<p0.Vals.length
  ·rw [B7 (dT (by omega)),Ft i p0.Vals[i] rfl (List.getElem?_eq_getElem hb),Ft i p1.Vals[i] rfl (List.getElem?_eq_getElem (by omega)),Rk,Q4 hb (by omega)]
   by_cases he:p0.Vals[i]=p1.Vals[i]
   ·rw [B2 (by simp [he]),ckb (by omega)]
    have:=ih (i+1) (by omega) (by omega)
    rw [show ((i:Int)+1)=((i+1:Nat):Int) by omega,this,dT he,Bool.true_and]
   ·rw [B7 (by simp [he]),dF he,Bool.false_and]
  ·rw [B2 (dF (by omega)),Jq,Na (by omega) (by omega)]
theorem Yy (a b:api_Grid):(((a.X:Int)==b.X)&&(((a.Y:Int)==b.Y)&&(((a.Size:Int)==b.Size)&&(((a.Wide:Int)==b.Wide)&&(((a.High:Int)==b.High)&&true)))))=decide (a=b):=by
 cases a;cases b
 rw [Bool.eq_iff_iff]
 simp [and_assoc]
theorem A09 {F:Nat} (hF:6000≤F) (a b:api_Field) (ha:a.Vals.length≤5000):Kx F a b=some (decide (a=b)):=by
 rw [Kx,Yy]
 by_cases h1:a.Grid=b.Grid∧a.Vals.length=b.Vals.length
 ·obtain ⟨h1,h4⟩:=h1
  rw [B2 (by simp [h1,h4])]
  refine (X8 a b h4 (by omega) F 0 (by omega) (by omega)).trans ?_
  rw [List.drop_zero,List.drop_zero]
  congr 1
  cases a;cases b
  simp only at h1
  rw [Bool.eq_iff_iff]
  simp [h1]
 ·rw [B7 ?_,dF (fun e=>h1 (by rw [e];exact ⟨rfl,rfl⟩))]
  by_cases g1:a.Grid=b.Grid
  ·have g4:¬a.Vals.length=b.Vals.length:=fun e=>h1 ⟨g1,e⟩
   simp [g1];omega
  ·simp [g1]
def Yw (x:volume_Item):Prop:=A04 x.Sweep∧x.Field.Vals.length≤5000
theorem Wa (a b:ByteArray):sEq a b=decide (a=b):=by rw [Bool.eq_iff_iff,Rj,decide_eq_true_eq]
theorem Zw {F:Nat} (hF:6000≤F) (a b:volume_Item) (ha:Yw a):Hm F a b=some (decide (a=b)):=by
 rw [Hm,Wa,Wa]
 by_cases h1:a.Kind=b.Kind∧a.Name=b.Name∧a.Time=b.Time∧a.Text=b.Text
 ·obtain ⟨h1,h2,h3,h4⟩:=h1
  rw [gdT (by simp [h1,h2,h3,h4]),A12 (by omega) _ _ ha.1,sb]
  by_cases h5:a.Sweep=b.Sweep
  ·rw [gdT (by simp [h1,h2,h3,h4,h5]),A09 hF _ _ ha.2,sb]
   congr 1
   cases a;cases b
   simp only at h1 h2 h3 h4 h5
   rw [Bool.eq_iff_iff]
   simp [h1,h2,h3,h4,h5]
  ·rw [gdF (by simp [h5]),sb,dF (show ¬a=b from fun e=>h5 (by rw [e]))]
   simp [h5]
 ·have hc:(bif (bif (bif (a.Kind==b.Kind) then (decide (a.Name=b.Name)) else false) then (a.Time==b.Time) else false) then (decide (a.Text=b.Text)) else false)=false:=by
   by_cases g1:a.Kind=b.Kind
   ·by_cases g2:a.Name=b.Name
    ·by_cases g3:a.Time=b.Time
     ·have g4:¬a.Text=b.Text:=fun e=>h1 ⟨g1,g2,g3,e⟩
      simp [g4]
     ·simp [g3]
    ·simp [g2]
   ·simp [g1]
  rw [hc,gdF (by rfl),sb,gdF (by rfl),sb,dF (show ¬a=b from fun e=>h1 (by rw [e];exact ⟨rfl,rfl,rfl,rfl⟩))]
  rfl
theorem V3 {F:Nat} (hF:6000≤F) (a b:List volume_Item) (hl:a.length=b.length) (h9:a.length≤1000000) (hc:∀x∈a,Yw x):∀(m i:Nat),a.length-i<m→i≤a.length→Gs F a b m i=some (decide (a.drop i=b.drop i)):=by
 intro m
 induction m with
 | zero=>intro i h;omega
 | succ m ih =>
  intro i h hi
  rw [Gs,Jr]
  by_cases hb:i<a.length
  ·rw [B7 (dT (by omega)),Ft i a[i] rfl (List.getElem?_eq_getElem hb),Ft i b[i] rfl (List.getElem?_eq_getElem (by omega)),Q4 hb (by omega),Zw hF _ _ (hc _ (List.getElem_mem hb)),sb]
   by_cases he:a[i]=b[i]
   ·rw [B2 (by simp [he]),ckb (by omega)]
    have:=ih (i+1) (by omega) (by omega)
    rw [show ((i:Int)+1)=((i+1:Nat):Int) by omega,this,dT he,Bool.true_and]
   ·rw [B7 (by simp [he]),dF he,Bool.false_and]
  ·rw [B2 (dF (by omega)),Js,Na (by omega) (by omega)]
theorem A0b {F:Nat} (hF:6000≤F) (a b:List volume_Item) (h9:a.length<F) (h10:a.length≤1000000) (hc:∀x∈a,Yw x):Ky F a b=some (decide (a=b)):=by
 rw [Ky]
 by_cases h:a.length=b.length
 ·rw [B2 (by simp [h]),show (0:Int)=((0:Nat):Int) from rfl,V3 hF a b h h10 hc F 0 (by omega) (by omega),List.drop_zero,List.drop_zero]
 ·rw [B7 (by simp;omega),dF (fun e=>h (by rw [e]))]
theorem vT.cmp {t:volume_thing} (h:vT t):Yw (Cs t):=by
 cases t with
 | nil_=>exact h.elim
 | ic112 s =>
  obtain ⟨⟨_,_,_,_,r,g,_⟩,_,_,h1,h2,_⟩:=(show vSweep s.Sweep from h)
  exact ⟨⟨show s.Sweep.Rays.length≤1000 by have:=r.2;omega,fun row hr=>by have:=h2 row hr;have:=g.2;omega⟩,Nat.zero_le _⟩
 | ic114 f =>
  obtain ⟨_,_,hg,h1,_⟩:=(show Qx f from h)
  have:=Nd hg
  exact ⟨⟨Nat.zero_le _,fun r hr=>by cases hr⟩,show f.Field.Vals.length≤5000 by omega⟩
 | ic116 n=>exact ⟨⟨Nat.zero_le _,fun r hr=>by cases hr⟩,Nat.zero_le _⟩
end Go.Proofs.Ytifbomimeodibaa
namespace Go.Proofs.Ytifbomimeodibaa
open Go Go.RowKit Go.Eng
set_option maxRecDepth 10000
set_option linter.unusedVariables false
set_option linter.unusedSimpArgs false
theorem A0o (k:Nat) (f:Bool):rD k f []=none:=by cases k<;>rfl
theorem Xv:∀(n j:Nat),j<(Dw n).length→Ss ((Dw n).take j)=true∧∀k f,rD k f ((Dw n).take j)=none:=by
 intro n
 induction n using Nat.strongRecOn with
 | _ n ih =>
  intro j h
  cases j with
  | zero=>exact ⟨rfl,fun k f=>by rw [List.take_zero];exact A0o k f⟩
  | succ j =>
   by_cases hn:n<127
   ·rw [M0 hn] at h;simp at h
   ·rw [P4 (by omega)] at h ⊢
    have hm:=Nat.mod_lt n (show 0<127 by decide)
    simp only [List.length_cons] at h
    obtain ⟨h1,h2⟩:=ih (n/127) (Nat.div_lt_self (by omega) (by decide)) j (by omega)
    rw [List.take_succ_cons]
    constructor
    ·unfold Ss at h1 ⊢
     rw [List.all_cons,h1,dT (show (128:Int)+((n%127:Nat):Int)≥128 by omega),dT (show (128:Int)+((n%127:Nat):Int)≤254 by omega)]
     rfl
    ·intro k f
     cases k with
     | zero=>rfl
     | succ k=>rw [rD,if_neg (by rintro (h|h|⟨h,_⟩)<;>omega),if_neg (by omega),h2];rfl
theorem Vg {t:volume_thing} (h:vT t) {j:Nat} (hj:j<(D5 t).length):unS ((D5 t).take j)=(.nil_,15)∧Sj ((D5 t).take j)=true:=by
 have hl:=Mz h.ok
 have hp:D5 t=Dw (B1 t).length++(B1 t++Nq (J5 (B1 t))):=by unfold D5 J5;rw [List.append_assoc]
 by_cases hlt:j<(Dw (B1 t).length).length
 ·have e:(D5 t).take j=(Dw (B1 t).length).take j:=by rw [hp,List.take_append_of_le_length (by omega)]
  obtain ⟨h1,h2⟩:=Xv (B1 t).length j hlt
  rw [e]
  have hr:rN ((Dw (B1 t).length).take j)=none:=h2 8 true
  constructor
  ·unfold unS;rw [hr]
  ·unfold Sj;rw [h1];rfl
 ·obtain ⟨i,rfl⟩:∃i,j=(Dw (B1 t).length).length+i:=⟨j-(Dw (B1 t).length).length,by omega⟩
  have e:(D5 t).take ((Dw (B1 t).length).length+i)=Dw (B1 t).length++(B1 t++Nq (J5 (B1 t))).take i:=by rw [hp,List.take_length_add_append]
  have hi:i<(B1 t).length+5:=by
   rw [hp] at hj
   simp only [List.length_append,Lp] at hj
   omega
  have hlen:((B1 t++Nq (J5 (B1 t))).take i).length=i:=by
   rw [List.length_take,List.length_append,Lp];omega
  have hr:rN (Dw (B1 t).length++(B1 t++Nq (J5 (B1 t))).take i)=some (((B1 t).length:Int),(B1 t++Nq (J5 (B1 t))).take i):=Pr _ (by omega)
  rw [e]
  constructor
  ·unfold unS
   rw [hr]
   show (if ((((B1 t++Nq (J5 (B1 t))).take i).length:Nat):Int)≠((B1 t).length:Int)+5 then _ else _)=_
   rw [if_pos (by omega)]
  ·unfold Sj
   rw [hr]
   show (_||decide ((((B1 t++Nq (J5 (B1 t))).take i).length:Int)<((B1 t).length:Int)+5))=true
   rw [dT (by omega),Bool.or_true]
def off (ts:List volume_thing) (i:Nat):Nat:=4+(Fy (ts.take i)).length
end Go.Proofs.Ytifbomimeodibaa
namespace Go.Proofs.Ytifbomimeodibaa
open Go Go.RowKit Go.Eng
set_option maxRecDepth 10000
set_option linter.unusedVariables false
set_option linter.unusedSimpArgs false
theorem A0n:∀(k:Nat) (f:Bool) (l:List Int) (x:Int) (r:List Int),By l→rD k f l=some (x,r)→l=Dw x.toNat++r∧0≤x∧(f=false→x≠0):=by
 intro k
 induction k with
 | zero=>intro f l x r _ h;cases h
 | succ k ih =>
  intro f l x r hb h
  cases l with
  | nil=>cases h
  | cons c l =>
   have hc:=hb c (by simp)
   rw [rD] at h
   split at h
   ·cases h
   ·rename_i g1
    have g2:c≠0:=fun e=>g1 (.inl e)
    have g3:c≠255:=fun e=>g1 (.inr (.inl e))
    have g4:f=false→c≠1:=fun hf e=>g1 (.inr (.inr ⟨e,hf⟩))
    split at h
    ·rename_i g5
     cases h
     refine ⟨?_,by omega,fun hf=>by have:=g4 hf;omega⟩
     rw [M0 (by omega),List.singleton_append]
     congr 1;omega
    ·rename_i g5
     obtain ⟨z,hz,he⟩:=Option.map_eq_some_iff.1 h
     obtain ⟨y,r'⟩:=z
     cases he
     obtain ⟨h1,h2,h3⟩:=ih false l y r' (fun x hx=>hb x (by simp [hx])) hz
     have h4:=h3 rfl
     refine ⟨?_,by simp only;omega,fun _=>by simp only;omega⟩
     simp only
     have e1:(c-128+127*y).toNat%127=(c-128).toNat:=by omega
     have e2:(c-128+127*y).toNat/127=y.toNat:=by omega
     rw [P4 (by omega),e1,e2,List.cons_append,←h1]
     congr 1;omega
theorem G6 {l:List Int} {x:Int} {r:List Int} (hb:By l) (h:rN l=some (x,r)):l=Dw x.toNat++r∧0≤x:=by
 obtain ⟨a,b,_⟩:=A0n 8 true l x r hb h
 exact ⟨a,b⟩
theorem Zr {n:Int} (h:0≤n):(zig (unz n):Int)=n:=by
 unfold zig unz
 split<;>split<;>omega
theorem Sc {l:List Int} {x:Int} {r:List Int} (hb:By l) (h:rI l=some (x,r)):l=Dw (zig x)++r:=by
 obtain ⟨n,r',h1,h2⟩:=Be h
 cases h2
 obtain ⟨a,b⟩:=G6 hb h1
 rw [show zig (unz n)=n.toNat by have:=Zr b;omega]
 exact a
theorem V9 {l:List Int} {x:ByteArray} {r:List Int} (hb:By l) (h:rT l=some (x,r)):l=J8 x++r:=by
 obtain ⟨n,r',h1,h2⟩:=Be h
 obtain ⟨a,b⟩:=G6 hb h1
 have hs:=(D1 hb h1).2.2
 split at h2
 ·cases h2
 ·rename_i g
  cases h2
  have hbt:By (r'.take n.toNat):=fun x hx=>hb.suf hs x (List.mem_of_mem_take hx)
  have hsz:(bst (r'.take n.toNat)).size=n.toNat:=by
   rw [←Jd,Mw hbt,List.length_take]
   simp only at g
   omega
  rw [J8,hsz,Mw hbt,List.append_assoc]
  show l=Dw n.toNat++(r'.take n.toNat++r'.drop n.toNat)
  rw [List.take_append_drop]
  exact a
theorem Ps {l:List Int} {x:api_Span} {r:List Int} (hb:By l) (h:rS l=some (x,r)):l=G8 x++r:=by
 obtain ⟨lo,r1,h1,h⟩:=Be h
 obtain ⟨n,r2,h2,h⟩:=Be h
 cases h
 have a:=Sc hb h1
 have hb1:=hb.suf (Nl hb h1).2
 obtain ⟨c,d⟩:=G6 hb1 h2
 try simp only at c d
 rw [G8]
 rw [show lo+n-lo=n by omega,List.append_assoc,←c]
 exact a
theorem A0q {l:List Int} {x:api_Echo} {r:List Int} (hb:By l) (h:rE l=some (x,r)):l=Hk x++r:=by
 obtain ⟨k,r0,h0,h⟩:=Be h
 obtain ⟨a0,b0⟩:=G6 hb h0
 have hb0:=hb.suf (D1 hb h0).2.2
 simp only at h
 split at h
 ·rename_i hk
  obtain ⟨n,r1,h1,h⟩:=Be h
  cases h
  obtain ⟨a1,b1⟩:=G6 hb0 h1
  rw [Hk]
  simp only
  rw [if_pos hk,List.append_assoc,←a1]
  exact a0
 ·rename_i hk
  obtain ⟨p,r1,h1,h⟩:=Be h
  have a1:=Ps hb0 h1
  have hb1:=hb0.suf (K7 hb0 h1).2
  obtain ⟨q,r2,h2,h⟩:=Be h
  have a2:=Ps hb1 h2
  have hb2:=hb1.suf (K7 hb1 h2).2
  obtain ⟨m,r3,h3,h⟩:=Be h
  have a3:=Ps hb2 h3
  have hb3:=hb2.suf (K7 hb2 h3).2
  obtain ⟨s,r4,h4,h⟩:=Be h
  obtain ⟨a4,_⟩:=G6 hb3 h4
  have hb4:=hb3.suf (D1 hb3 h4).2.2
  simp only at h a1 a2 a3 a4
  split at h
  ·rename_i hk3
   obtain ⟨a,r5,h5,h⟩:=Be h
   have a5:=Ps hb4 h5
   have hb5:=hb4.suf (K7 hb4 h5).2
   obtain ⟨b,r6,h6,h⟩:=Be h
   have a6:=Ps hb5 h6
   have hb6:=hb5.suf (K7 hb5 h6).2
   obtain ⟨t,r7,h7,h⟩:=Be h
   have a7:=Ps hb6 h7
   cases h
   try simp only at a5 a6 a7
   rw [Hk]
   simp only
   rw [if_neg hk,if_pos hk3]
   simp only [List.append_assoc]
   rw [←a7,←a6,←a5,←a4,←a3,←a2,←a1]
   exact a0
  ·rename_i hk3
   cases h
   rw [Hk]
   simp only
   rw [if_neg hk,if_neg hk3]
   simp only [List.append_assoc,List.append_nil]
   rw [←a4,←a3,←a2,←a1]
   exact a0
theorem Uk {α:Type} [DecidableEq α] (e:α→List Int) (b:α) (v:List α):∀(n j:Nat),Hp e b j (List.replicate n b++v)=Hp e b (j+n) v:=by
 intro n
 induction n with
 | zero=>intro j;rfl
 | succ n ih =>
  intro j
  rw [List.replicate_succ,List.cons_append,Hp,if_pos rfl,ih,show j+1+n=j+(n+1) by omega]
theorem Y7 {α:Type} [DecidableEq α] {rd:List Int→Option (α×List Int)} {e:α→List Int} (hc:∀l x r,By l→rd l=some (x,r)→l=e x++r) (hs:∀l x r,By l→rd l=some (x,r)→r <:+ l):∀(m n:Nat) (b:α) (l:List Int) (u:List α) (r:List Int),By l→rL rd m n b l=some (u,r)→l=Hp e b 0 u++r:=by
 intro m
 induction m with
 | zero=>intro n b l u r _ h;cases h
 | succ m ih =>
  intro n b l u r hb h
  rw [rL] at h
  split at h
  ·cases h;rfl
  ·rename_i h0
   obtain ⟨k,r1,h1,h⟩:=Be h
   obtain ⟨a,b1⟩:=G6 hb h1
   have hb1:=hb.suf (D1 hb h1).2.2
   simp only at h
   split at h
   ·cases h
   ·split at h
    ·rename_i hk
     cases h
     have:=Uk e b [] n 0
     rw [List.append_nil,Nat.zero_add] at this
     rw [this,Hp,if_neg h0,hk]
     exact a
    ·obtain ⟨z,r2,h2,h⟩:=Be h
     simp only at h
     split at h
     ·cases h
     ·rename_i hz
      obtain ⟨⟨u',r'⟩,h3,h4⟩:=Option.map_eq_some_iff.1 h
      cases h4
      have a2:=hc _ _ _ hb1 h2
      have hb2:=hb1.suf (hs _ _ _ hb1 h2)
      have a3:=ih _ _ _ _ _ hb2 h3
      rw [Uk,Nat.zero_add,Hp,if_neg hz]
      simp only [List.append_assoc]
      rw [←a3,←a2]
      exact a
theorem Tl {α:Type} {g:Nat}:∀(n:Nat) (l:List α),l.length=n*g→(Qj g n l).flatten=l:=by
 intro n
 induction n with
 | zero=>intro l h;rw [Nat.zero_mul] at h;rw [List.eq_nil_of_length_eq_zero h];rfl
 | succ n ih =>
  intro l h
  rw [Nat.add_mul,Nat.one_mul] at h
  rw [Qj,List.flatten_cons,ih _ (by rw [List.length_drop];omega),List.take_append_drop]
theorem Va {l:List Int} {t:volume_thing} {r:List Int} (hb:By l) (h:Kl l=some (t,r)):l=B1 t++r:=by
 obtain ⟨k,r0,h0,h⟩:=Be h
 obtain ⟨a0,_⟩:=G6 hb h0
 have b0:=hb.suf (D1 hb h0).2.2
 simp only at h
 split at h
 ·rename_i hk
  unfold Qt at h
  obtain ⟨nm,r1,h1,h⟩:=Be h
  have a1:=V9 b0 h1
  have b1:=b0.suf (W5 b0 h1).1
  obtain ⟨x,r2,h2,h⟩:=Be h
  have a2:=Sc b1 h2
  have b2:=b1.suf (Nl b1 h2).2
  obtain ⟨y,r3,h3,h⟩:=Be h
  have a3:=Sc b2 h3
  have b3:=b2.suf (Nl b2 h3).2
  obtain ⟨z,r4,h4,h⟩:=Be h
  have a4:=(G6 b3 h4).1
  have b4:=b3.suf (D1 b3 h4).2.2
  obtain ⟨ro,r5,h5,h⟩:=Be h
  have a5:=(G6 b4 h5).1
  have b5:=b4.suf (D1 b4 h5).2.2
  obtain ⟨g,r6,h6,h⟩:=Be h
  have a6:=(G6 b5 h6).1
  have b6:=b5.suf (D1 b5 h6).2.2
  obtain ⟨st,r7,h7,h⟩:=Be h
  have a7:=(G6 b6 h7).1
  have b7:=b6.suf (D1 b6 h7).2.2
  obtain ⟨w,r8,h8,h⟩:=Be h
  have a8:=(G6 b7 h8).1
  have b8:=b7.suf (D1 b7 h8).2.2
  obtain ⟨ti,r9,h9,h⟩:=Be h
  have a9:=(G6 b8 h9).1
  have b9:=b8.suf (D1 b8 h9).2.2
  obtain ⟨tm,r10,h10,h⟩:=Be h
  have a10:=(G6 b9 h10).1
  have b10:=b9.suf (D1 b9 h10).2.2
  simp only at h a0 a1 a2 a3 a4 a5 a6 a7 a8 a9 a10
  split at h
  ·rename_i hv
   obtain ⟨all,r11,h11,h⟩:=Be h
   cases h
   obtain ⟨_,_,_,_,⟨c1,c2⟩,⟨c3,c4⟩,_⟩:=hv
   simp only at c1 c2 c3 c4
   have hlen:=(Y8 (fun l x r hb h=>Tt hb h) _ _ _ _ _ _ b10 h11).1
   have a11:=Y7 (e:=Hk) (fun l x r hb h=>A0q hb h) (fun l x r hb h=>Tt hb h) _ _ _ _ _ _ b10 h11
   have hl2:all.length=(4*ro).toNat*g.toNat:=by
    rw [hlen]
    have:(4*ro*g)=(((4*ro).toNat*g.toNat:Nat):Int):=by
     push_cast
     rw [show ((4*ro).toNat:Int)=4*ro by omega,show (g.toNat:Int)=g by omega]
    omega
   show l=My ⟨⟨nm,x,y,z,ro,g,st,w⟩,ti,tm,Qj g.toNat (4*ro).toNat all⟩++r11
   simp only [My,Fj,P6,List.flatMap_cons,List.flatMap_nil,List.append_nil,List.append_assoc,Tl _ _ hl2]
   try simp only at a11
   rw [←a11,←a10,←a9,←a8,←a7,←a6,←a5,←a4,←a3,←a2,←a1,←hk]
   exact a0
  ·cases h
 ·split at h
  ·rename_i hk
   unfold Qs at h
   obtain ⟨nm,r1,h1,h⟩:=Be h
   have a1:=V9 b0 h1
   have b1:=b0.suf (W5 b0 h1).1
   obtain ⟨tm,r2,h2,h⟩:=Be h
   have a2:=(G6 b1 h2).1
   have b2:=b1.suf (D1 b1 h2).2.2
   obtain ⟨x,r3,h3,h⟩:=Be h
   have a3:=Sc b2 h3
   have b3:=b2.suf (Nl b2 h3).2
   obtain ⟨y,r4,h4,h⟩:=Be h
   have a4:=Sc b3 h4
   have b4:=b3.suf (Nl b3 h4).2
   obtain ⟨sz,r5,h5,h⟩:=Be h
   have a5:=(G6 b4 h5).1
   have b5:=b4.suf (D1 b4 h5).2.2
   obtain ⟨wd,r6,h6,h⟩:=Be h
   have a6:=(G6 b5 h6).1
   have b6:=b5.suf (D1 b5 h6).2.2
   obtain ⟨hi,r7,h7,h⟩:=Be h
   have a7:=(G6 b6 h7).1
   have b7:=b6.suf (D1 b6 h7).2.2
   simp only at h a0 a1 a2 a3 a4 a5 a6 a7
   split at h
   ·obtain ⟨all,r8,h8,h⟩:=Be h
    cases h
    have a8:=Y7 (e:=G8) (fun l x r hb h=>Ps hb h) (fun l x r hb h=>(K7 hb h).2) _ _ _ _ _ _ b7 h8
    show l=Mn ⟨nm,tm,⟨⟨x,y,sz,wd,hi⟩,all⟩⟩++r8
    simp only [Mn,Fj,P6,List.flatMap_cons,List.flatMap_nil,List.append_nil,List.append_assoc]
    try simp only at a8
    rw [←a8,←a7,←a6,←a5,←a4,←a3,←a2,←a1,←hk]
    exact a0
   ·cases h
  ·split at h
   ·rename_i hk
    unfold Te at h
    obtain ⟨tm,r1,h1,h⟩:=Be h
    have a1:=(G6 b0 h1).1
    have b1:=b0.suf (D1 b0 h1).2.2
    obtain ⟨tx,r2,h2,h⟩:=Be h
    have a2:=V9 b1 h2
    cases h
    show l=Qb ⟨tm,tx⟩++r2
    simp only [Qb,Fj,List.flatMap_cons,List.flatMap_nil,List.append_nil,List.append_assoc]
    try simp only at a0 a1 a2
    rw [←a2,←a1,←hk]
    exact a0
   ·cases h
theorem Zk {p:List Int} (hb:By p) (h:(unS p).2=0):p=D5 (unS p).1:=by
 unfold unS at h ⊢
 split
 ·rename_i h1;rw [h1] at h;cases h
 ·rename_i n r h1
  rw [h1] at h
  simp only at h
  obtain ⟨a,n0⟩:=G6 hb h1
  have hb1:=hb.suf (D1 hb h1).2.2
  split
  ·rename_i h2;rw [if_pos h2] at h;cases h
  ·rename_i h2
   rw [if_neg h2] at h
   have hlen:(r.length:Int)=n+5:=Decidable.of_not_not h2
   split
   ·rename_i h3;rw [if_pos h3] at h;cases h
   ·rename_i h3
    rw [if_neg h3] at h
    have hsum:p.drop (p.length-5)=Nq (p.take (p.length-5)):=Decidable.of_not_not h3
    split
    ·rename_i h4;rw [h4] at h;cases h
    ·rename_i t r2 h4
     rw [h4] at h
     simp only at h
     split
     ·rename_i h5
      have hc:=Va (fun x hx=>hb1 x (List.mem_of_mem_take hx)) h4
      rw [h5.2,List.append_nil] at hc
      have htl:(B1 t).length=n.toNat:=by rw [←hc,List.length_take];omega
      have hpk:p.take (p.length-5)=J5 (B1 t):=by
       rw [J5,htl,←hc,a]
       have:(Dw n.toNat++r).length-5=(Dw n.toNat).length+n.toNat:=by rw [List.length_append];omega
       rw [this,List.take_length_add_append]
      show p=D5 t
      rw [D5,←hpk,←hsum,List.take_append_drop]
     ·rename_i h5;rw [if_neg h5] at h;cases h
end Go.Proofs.Ytifbomimeodibaa
namespace Go.Proofs.Ytifbomimeodibaa
open Go Go.RowKit Go.Eng
set_option maxRecDepth 10000
set_option linter.unusedVariables false
set_option linter.unusedSimpArgs false
theorem Yd (total:Int):∀(ps:List (List Int)) (k:Int),(∀p∈ps,Nz p)→(rdF total k ps).2.2=0→∃ts:List volume_thing,ps=ts.map D5∧rdF total k ps=(ts.map Cs,total,0)∧∀t∈ts,vT t:=by
 intro ps
 induction ps with
 | nil=>intro k _ _;exact ⟨[],rfl,rfl,fun t ht=>by cases ht⟩
 | cons p ps ih =>
  intro k hz h
  rw [rdF] at h ⊢
  by_cases h0:(unS p).2=0
  ·rw [if_pos h0] at h ⊢
   obtain ⟨ts,h1,h2,h3⟩:=ih (k+1+p.length) (fun q hq=>hz q (by simp [hq])) h
   refine ⟨(unS p).1::ts,?_,?_,?_⟩
   ·rw [List.map_cons,←h1,←Zk (hz p (by simp)).by h0]
   ·rw [h2];rfl
   ·intro t ht
    rcases List.mem_cons.1 ht with rfl|ht
    ·exact Yo h0
    ·exact h3 t ht
  ·rw [if_neg h0] at h
   simp only at h
   split at h
   ·cases h
   ·exact absurd h h0
theorem Ye {F:Nat} {p l:List Int} (hp:Nz p) (hne:p≠[]) (hl:By l) (hl2:4+(p++l).length≤16777216):D2 F (RVF1++(p++l))=some ([],0,7):=by
 have hlen:(RVF1++(p++l)).length=4+(p++l).length:=by rw [List.length_append];rfl
 cases p with
 | nil=>exact absurd rfl hne
 | cons x p =>
  have hx:=hp x (by simp)
  have hg:E0 (RVF1++(x::p++l)) 4=some x:=rfl
  have hby:By (x::p++l):=hp.by.app hl
  have h4:(((RVF1++(x::p++l)).length:Nat):Int)>4:=by rw [hlen];simp;omega
  rw [D2,B2 (dF (by omega)),show ([82,86,70,49]:List Int)=RVF1 from rfl,Td F _ hby,sb,gdT (by rw [dT h4];rfl),hg,sb,dT h4,B7 (by have hx0:x≠0:=(by omega);simp [hx0])]
theorem Sy {x y:volume_thing} (hx:vT x) (hy:vT y):decide (Bw x=Bw y)=decide (Cs x=Cs y):=by
 rw [Bool.eq_iff_iff,decide_eq_true_eq,decide_eq_true_eq]
 constructor
 ·intro h
  have h1:D5 x=D5 y:=(List.cons.inj h).2
  have:=Qf hx
  rw [h1,Qf hy] at this
  cases this
  rfl
 ·intro h
  have h1:=Tq hx.nn
  rw [h,Tq hy.nn] at h1
  rw [h1]
theorem Rl {x y:volume_thing} (hx:vT x) (hy:vT y) (hle:(Bw x).length≤(Bw y).length) (h:Bw x=(Bw y).take (Bw x).length):Bw x=Bw y:=by
 have h1:D5 x=(D5 y).take (D5 x).length:=by
  rw [Bw,Bw,List.length_cons,List.take_succ_cons] at h
  exact (List.cons.inj h).2
 rw [Bw,Bw,List.length_cons,List.length_cons] at hle
 rcases Nat.lt_or_ge (D5 x).length (D5 y).length with hlt|hge
 ·have:=(Vg hy hlt).1
  rw [←h1,Qf hx] at this
  cases this
 ·rw [List.take_of_length_le (by omega)] at h1
  rw [Bw,Bw,h1]
theorem Wh {x y:volume_thing} (hx:vT x) (hy:vT y) {n:Nat} (hn:n=min (Bw x).length (Bw y).length) (h:(Bw x).take n=(Bw y).take n):Bw x=Bw y:=by
 rcases Nat.le_total (Bw x).length (Bw y).length with hle|hle
 ·rw [Nat.min_eq_left hle] at hn
  subst hn
  rw [List.take_length] at h
  exact Rl hx hy hle h
 ·rw [Nat.min_eq_right hle] at hn
  subst hn
  rw [List.take_length] at h
  exact (Rl hy hx hle h.symm).symm
theorem Yu (ts:List volume_thing) (h:∀t∈ts,okI t) (hn:ts.length≤20) (x:volume_thing) (hx:okI x) (j:Int) (k3:Int→Option Bool):∀(m i:Nat),ts.length-i<m→i≤ts.length →
  Db FV j k3 (Cs x) (ts.map Cs) m i=E7 j k3:=by
 intro m
 have hF:200000≤FV:=Nat.le_refl _
 have hFV:FV=200000:=rfl
 induction m with
 | zero=>intro i h;omega
 | succ m ih =>
  intro i h1 hi
  rw [Db,Gg]
  by_cases hb:i<ts.length
  ·have hy:=h ts[i] (List.getElem_mem hb)
   have hyl:(ts.map Cs)[i]? = some (Cs ts[i]):=by rw [List.getElem?_map,List.getElem?_eq_getElem hb];rfl
   generalize ts[i]=y at hy hyl
   have hx6:=hx.2.2
   have hy6:=hy.2.2
   have hxp:=Pp hx.1
   have hyp:=Pp hy.1
   have hxb:(Bw x).length=(D5 x).length+1:=by rw [Bw,List.length_cons]
   have hyb:(Bw y).length=(D5 y).length+1:=by rw [Bw,List.length_cons]
   rw [B7 (dT (by rw [List.length_map];omega)),Ft i (Cs y) rfl hyl,Tr hF hx.1 (by omega),sb,Tr hF hy.1 (by omega),sb,gdT (by rfl),Rn (by simp only;omega) (by simp only;omega),sb,gdT (by rfl),Zw (by omega) _ _ hx.1.cmp,sb]
   simp only [Sy hx.1 hy.1]
   rw [B2 (by simp)]
   obtain ⟨n,hn,hn2⟩:∃n:Nat,(if ((Bw y).length:Int)<((Bw x).length:Int) then ((Bw y).length:Int) else ((Bw x).length:Int))=(n:Int)∧n=min (Bw x).length (Bw y).length:=by
    by_cases hlt:(Bw y).length<(Bw x).length
    ·exact ⟨(Bw y).length,by rw [if_pos (by omega)],by omega⟩
    ·exact ⟨(Bw x).length,by rw [if_neg (by omega)],by omega⟩
   rw [hn,Pd n rfl rfl (by omega),Pd n rfl rfl (by omega),Rn (by rw [List.length_take];omega) (by rw [List.length_take];omega),sb]
   have fin:∀c:Bool,c=false→(bif c then some false else ((ck ((i:Int)+1)).bind fun x1362=>Db FV j k3 (Cs x) (ts.map Cs) m x1362))=E7 j k3:=by
    intro c hc
    rw [hc,B2 rfl,ckb (by omega)]
    exact ih (i+1) (by omega) (by omega)
   by_cases hp:(Bw x).take n=(Bw y).take n
   ·have he:=Wh hx.1 hy.1 hn2 hp
    have hie:Cs x=Cs y:=by
     have:=Sy hx.1 hy.1
     rw [dT he] at this
     exact of_decide_eq_true this.symm
    rw [dT hp,gdT (by simp),sb]
    exact fin _ (by simp [hie])
   ·rw [dF hp,gdF (by simp),sb]
    exact fin _ (by simp)
  ·rw [B2 (dF (by rw [List.length_map];omega))]
theorem Yt (ts:List volume_thing) (h:∀t∈ts,okI t) (hn:ts.length≤20):∀(m i:Nat),ts.length-i<m→i≤ts.length→E8 FV (ts.map Cs,true) m i=some true:=by
 intro m
 induction m with
 | zero=>intro i h;omega
 | succ m ih =>
  intro i h1 hi
  rw [E8,Gf]
  by_cases hb:i<ts.length
  ·rw [B7 (dT (by simp only [List.length_map];omega)),Ft i (Cs ts[i]) rfl (by rw [List.getElem?_map,List.getElem?_eq_getElem hb];rfl),Pd i rfl rfl (by simp only [List.length_map];omega),←List.map_take]
   refine (Yu (ts.take i) (fun t ht=>h t (List.mem_of_mem_take ht)) (by rw [List.length_take];omega) ts[i] (h _ (List.getElem_mem hb)) i _ FV 0 (by simp [FV];omega) (by omega)).trans ?_
   rw [E7,ckb (by omega)]
   exact ih (i+1) (by omega) (by omega)
  ·rw [B2 (dF (by simp only [List.length_map];omega)),Gh,Sn];rfl
theorem So (l:List law12_Thing) (hl:∀x∈l,Jz x) (b:List Int) (hb:∀x∈b,0≤x∧x≤255):Gp FV l b=some true:=by
 have hF:200000≤FV:=Nat.le_refl _
 have hFV:FV=200000:=rfl
 have hby:By b:=fun x hx=>by have:=hb x hx;omega
 rw [Gp]
 rcases A03 (F:=FV) (by decide) hl with ⟨h1,h2⟩|⟨ts,h1,h2,h3,h4⟩
 ·rw [h1,sb,B7 (by rfl),Sn];rfl
 ·rw [h1,sb]
  by_cases h500:b.length>500
  ·rw [B7 (by rw [dT (show ((b.length:Nat):Int)>500 by omega)];rfl),Sn];rfl
  ·have hfl:=Rt h4
   have hwl:(RVF1++Fy ts).length=4+(Fy ts).length:=by rw [List.length_append];rfl
   have hK1:E6 FV (ts.map Cs,true)=some true:=by
    rw [E6]
    exact Yt ts h4 (by omega) FV 0 (by simp [FV];omega) (by omega)
   rw [B2 (by rw [dF (show ¬((b.length:Nat):Int)>500 by omega)];rfl),X9 hF h4 (by omega),sb]
   rw [show D2 FV (RVF1++Fy ts,(0:Int)).1=_ from X0 hF h4 (by omega),sb]
   have hc:(bif (bif ((RVF1++Fy ts,(0:Int)).2 != 0) then true else ((ts.map Cs,((4+(Fy ts).length:Nat):Int),(0:Int)).2.2 != 0)) then true else ((ts.map Cs,((4+(Fy ts).length:Nat):Int),(0:Int)).2.1 != (((RVF1++Fy ts,(0:Int)).1.length:Nat):Int)))=false:=by
    simp only [hwl];simp
   rw [hc,gdT (by rfl),A0b (by omega) _ _ (by simp only [List.length_map];omega) (by simp only [List.length_map];omega) (fun x hx=>by obtain ⟨t,ht,rfl⟩:=List.mem_map.1 hx;exact (h4 t ht).1.cmp),sb,dT rfl,B2 (by rfl)]
   rw [show ([82,86,70,49]:List Int)=RVF1 from rfl,M6 (by simp [RVF1];omega) (by decide)]
   obtain ⟨p,ps,hbp,hp,hz⟩:=A11 b hby
   have hblen:(RVF1++b).length=4+b.length:=by rw [List.length_append];rfl
   by_cases hpe:p=[]
   ·rw [hpe,List.nil_append] at hbp
    have hjl:=Wq ps
    rw [←hbp] at hjl
    have hr:=W6 hF hz (by rw [←hbp];omega) (by rw [←hbp];omega) (by omega)
    rw [←hbp] at hr
    rw [hr,sb]
    by_cases he:(rdF (4+b.length:Nat) 4 ps).2.2=0
    ·obtain ⟨us,g1,g2,g3⟩:=Yd _ ps 4 hz he
     have hfe:Fy us=b:=by rw [Fy,←g1,←hbp]
     have hus:us.length≤500:=by rw [g1,List.length_map] at hjl;omega
     have hlen1:∀t∈us,(B1 t).length≤500:=by
      intro t ht
      have h5:(D5 t).length≤b.length:=by
       rw [hbp,g1]
       have:∀(us:List volume_thing),t∈us→(D5 t).length≤(D7 (us.map D5)).length:=by
        intro us
        induction us with
        | nil=>intro h;cases h
        | cons u us ih =>
         intro h
         rw [List.map_cons,Ex]
         rcases List.mem_cons.1 h with rfl|h
         ·simp;omega
         ·have:=ih h;simp;omega
       exact this us ht
      have h6:(B1 t).length≤(D5 t).length:=by unfold D5 J5;simp only [List.length_append];omega
      omega
     have hw:=Uv hF (ts:=us) (fun t ht=>⟨g3 t ht,by have:=hlen1 t ht;omega⟩) (by rw [hfe];omega) (by omega)
     rw [g2,B7 (by rfl),show F9 FV (us.map Cs,((4+b.length:Nat):Int),(0:Int)).1=_ from hw,sb,hfe,gdT (by rfl),Rn (by simp only;omega) (by simp only;omega),sb]
     rw [B2 (by simp only [hblen];simp)]
     exact hK1
    ·rw [B2 (by simpa using he)]
     exact hK1
   ·have hr:=Ye (F:=FV) hp hpe (Ua hz) (by rw [←hbp];omega)
    rw [←hbp] at hr
    rw [hr,sb,B2 (by rfl)]
    exact hK1
end Go.Proofs.Ytifbomimeodibaa
