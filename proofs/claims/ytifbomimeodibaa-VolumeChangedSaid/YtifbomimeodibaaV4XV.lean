import Derived.Test.YtifbomimeodibaaV4XD
set_option linter.unusedVariables false
set_option linter.unusedSimpArgs false
set_option linter.unusedSectionVars false
namespace Go.Proofs.Ytifbomimeodibaa
open Go Go.RowKit Go.Eng
set_option maxRecDepth 10000
set_option linter.unusedVariables false
set_option linter.unusedSimpArgs false
theorem ckb {β:Type} {x:Int} {f:Int→Option β} (h:-9000000000000000000≤x∧x≤9000000000000000000):(ck x).bind f=f x:=by
 unfold ck;rw [if_pos (by omega)];rfl
theorem gdT {α:Type} {g:Bool} {o:Option α} {d:α} (h:g=true):gd g o d=o:=by subst h;rfl
theorem gdF {α:Type} {g:Bool} {o:Option α} {d:α} (h:g=false):gd g o d=some d:=by subst h;rfl
theorem B6 {α:Type} {c:Bool} {x y:α} (h:c=true):(bif c then x else y)=x:=by rw [h];rfl
theorem B3 {α:Type} {c:Bool} {x y:α} (h:c=false):(bif c then x else y)=y:=by rw [h];rfl
theorem sb {α β:Type} {x:α} {f:α→Option β}:(some x).bind f=f x:=rfl
theorem dT {p:Prop} [Decidable p] (h:p):decide p=true:=decide_eq_true h
theorem dF {p:Prop} [Decidable p] (h:¬p):decide p=false:=decide_eq_false h
theorem El {α β:Type} {l:List α} {i:Int} {f:α→Option β} (n:Nat) (x:α) (hi:i=(n:Int)) (h:l[n]? = some x):(D9 l i).bind f=f x:=by
 subst hi
 unfold D9
 rw [if_pos (by omega),show ((n:Int)).toNat=n by omega,h]
 rfl
theorem Lv {α β:Type} {l k:List α} {B:Nat} {f:List α→Option β} (h:(l.length+k.length)*B≤140737488355328) (hB:1≤B):(apd B l k).bind f=f (l++k):=by
 unfold apd
 have:l.length+k.length≤(l.length+k.length)*B:=Nat.le_mul_of_pos_right _ hB
 rw [if_pos ⟨h,by omega⟩]
 rfl
theorem A0y {α β:Type} {l:List α} {i j:Int} {f:List α→Option β} (m n:Nat) (hi:i=(m:Int)) (hj:j=(n:Int)) (h:m≤n∧n≤l.length):(Gc l i j).bind f=f ((l.drop m).take (n-m)):=by
 subst hi;subst hj
 unfold Gc
 rw [if_pos (by omega)]
 rfl
theorem Rg {α β:Type} {l:List α} {i j:Int} {f:List α→Option β} (n:Nat) (hi:i=0) (hj:j=(n:Int)) (h:n≤l.length):(Gc l i j).bind f=f (l.take n):=by
 rw [A0y 0 n hi hj ⟨Nat.zero_le _,h⟩];simp
theorem Ju {α β:Type} {l:List α} {i j:Int} {f:List α→Option β} (m:Nat) (hi:i=(m:Int)) (hj:j=(l.length:Int)) (h:m≤l.length):(Gc l i j).bind f=f (l.drop m):=by
 rw [A0y m l.length hi hj ⟨h,Nat.le_refl _⟩,List.take_of_length_le (by simp)]
def FV:Nat:=200000
def By (l:List Int):Prop:=∀x∈l,0≤x∧x<256
theorem By.app {l k:List Int} (h:By l) (h':By k):By (l++k):=fun x hx=>(List.mem_append.1 hx).elim (h x) (h' x)
theorem T8 {x:Int} (h:0≤x∧x<256):IntKind.u8.wrap x=x:=by
 have:=h.1;have:=h.2
 simp only [IntKind.wrap,IntKind.signed,IntKind.bits]
 simp
 omega
def Dq (n:Nat):List Int:=if h:n<127 then [(n:Int)+1] else (128+((n%127:Nat):Int))::Dq (n/127)
termination_by n
theorem Hj {n:Nat} (h:n<127):Dq n=[(n:Int)+1]:=by rw [Dq,dif_pos h]
theorem Mi {n:Nat} (h:127≤n):Dq n=(128+((n%127:Nat):Int))::Dq (n/127):=by rw [Dq,dif_neg (by omega)]
theorem Ye:∀(k n:Nat),n<127 ^ (k+1)→(Dq n).length≤k+1:=by
 intro k
 induction k with
 | zero=>intro n h;rw [Hj (by simpa using h)];simp
 | succ k ih =>
  intro n h
  by_cases hn:n<127
  ·rw [Hj hn];simp
  ·rw [Mi (by omega),List.length_cons]
   have:=ih (n/127) (Nat.div_lt_of_lt_mul (by rw [Nat.pow_succ] at h;omega))
   omega
theorem Wj (n:Nat):∀x∈Dq n,1≤x∧x<255:=by
 induction n using Nat.strongRecOn with
 | _ n ih =>
  intro x hx
  by_cases hn:n<127
  ·rw [Hj hn] at hx;simp at hx;omega
  ·rw [Mi (by omega)] at hx
   rcases List.mem_cons.1 hx with rfl|hx
   ·have:=Nat.mod_lt n (show 0<127 by decide);omega
   ·exact ih (n/127) (Nat.div_lt_self (by omega) (by decide)) x hx
theorem tdm (n:Nat):Jm (n:Int) 127=some ((n%127:Nat):Int)∧Nm (n:Int) 127=ck ((n/127:Nat):Int):=by
 unfold Jm Nm
 rw [if_neg (by decide),if_neg (by decide)]
 exact ⟨by congr 1,by congr 1⟩
theorem A21 (x307:Int) (k1:List Int→Int→Option volume_writer) (h0:0≤x307∧x307≤1000000000000):∀(F k n:Nat) (l:List Int),n<127 ^ (k+1)→k<10→k<F→n≤4611686018427387904→l.length+k≤1000000000000 →
  Cw x307 k1 F l n=k1 (l++Dq n) (x307+1):=by
 intro F
 induction F with
 | zero=>intro k n l h hk hF;omega
 | succ F ih =>
  intro k n l h hk hF hn hl
  rw [Cw,Et]
  by_cases hb:(n:Int)≥127
  ·rw [B6 (dT hb),(tdm n).1,sb]
   have:=Nat.mod_lt n (show 0<127 by decide)
   rw [ckb (by omega),T8 (by omega),Lv (by simp;omega) (by decide),(tdm n).2]
   have hd:n/127≤n:=Nat.div_le_self _ _
   rw [ckb (by omega)]
   cases k with
   | zero=>simp at h;omega
   | succ k =>
    rw [ih k (n/127) _ (Nat.div_lt_of_lt_mul (by rw [Nat.pow_succ] at h;omega)) (by omega) (by omega) (by omega) (by simp;omega),Mi (n:=n) (by omega)]
    simp
  ·rw [B3 (dF hb),Ev,ckb (by omega),T8 (by omega),Lv (by simp;omega) (by decide),Eu,ckb (by omega),Hj (by omega),show (1:Int)+n=n+1 by omega]
def okN (x:Int):Prop:=0≤x∧x≤4611686018427387904
def Fs (l:List Int):List Int:=l.flatMap fun x=>Dq x.toNat
theorem Em {x:Int} (h:okN x):(Dq x.toNat).length≤9:=Ye 8 x.toNat (by have:=h.1;have:=h.2;omega)
theorem A20 (F:Nat) (p1:List Int) (hF:100≤F) (hp:∀x∈p1,okN x):∀(m i:Nat) (l:List Int),p1.length-i<m→i≤p1.length→p1.length≤100→l.length+9*(p1.length-i)≤999999999000 →
  Cv F p1 m l i=some ⟨l++Fs (p1.drop i)⟩:=by
 intro m
 induction m with
 | zero=>intro i l h;omega
 | succ m ih =>
  intro i l h hi hp1 hl
  rw [Cv,Es]
  by_cases hb:i<p1.length
  ·have hx:=hp p1[i] (List.getElem_mem hb)
   have h9:=Em hx
   rw [B6 (dT (by omega)),El i p1[i] rfl (List.getElem?_eq_getElem hb)]
   have e:p1[i]=((p1[i].toNat:Nat):Int):=by have:=hx.1;omega
   rw [e,A21 i _ (by omega) F 8 p1[i].toNat l (by have:=hx.1;have:=hx.2;omega) (by decide) (by omega) (by have:=hx.2;omega) (by omega)]
   rw [show ((i:Int)+1)=((i+1:Nat):Int) by omega,ih (i+1) _ (by omega) (by omega) hp1 (by rw [List.length_append];omega),List.drop_eq_getElem_cons hb]
   simp only [Fs,List.flatMap_cons,List.append_assoc]
  ·rw [B3 (dF (by omega)),List.drop_of_length_le (by omega)]
   simp [Fs]
def okW (l:List Int):Prop:=l.length≤999999990000
theorem Fx {F:Nat} (hF:1000≤F) {w:volume_writer} {l:List Int} (hw:okW w.b) (hl:∀x∈l,okN x) (hn:l.length≤100):At F w l=some ⟨w.b++Fs l⟩:=by
 rw [At]
 unfold okW at hw
 exact A20 F l (by omega) hl F 0 w.b (by omega) (by omega) hn (by omega)
def zig (x:Int):Nat:=if x<0 then (-2*x-1).toNat else (2*x).toNat
def okZ (x:Int):Prop:=-2305843009213693952≤x∧x≤2305843009213693952
theorem A1z (F:Nat) (p1:List Int) (hF:1000≤F) (hp:∀x∈p1,okZ x):∀(m i:Nat) (l:List Int),p1.length-i<m→i≤p1.length→p1.length≤100→l.length+9*(p1.length-i)≤999999990000 →
  Bn F p1 m l i=some ⟨l++(p1.drop i).flatMap fun x=>Dq (zig x)⟩:=by
 intro m
 induction m with
 | zero=>intro i l h;omega
 | succ m ih =>
  intro i l h hi hp1 hl
  rw [Bn,Eg]
  by_cases hb:i<p1.length
  ·have hx:=hp p1[i] (List.getElem_mem hb)
   have hx1:=hx.1
   have hx2:=hx.2
   rw [B6 (dT (by omega)),El i p1[i] rfl (List.getElem?_eq_getElem hb)]
   have fin:∀z:Int,okN z→z.toNat=zig p1[i]→((At F (volume_writer.mk l) [z]).bind fun y178=>Ck i (Bn F p1 m) y178.b)=some ⟨l++(p1.drop i).flatMap fun x=>Dq (zig x)⟩:=by
    intro z hz hzz
    have h9:=Em hz
    rw [Fx hF (show okW l by unfold okW;omega) (by simpa using hz) (by simp),sb,Ck,ckb (by omega)]
    show Bn F p1 m (l++Fs [z]) ((i:Int)+1)=_
    rw [show ((i:Int)+1)=((i+1:Nat):Int) by omega,ih (i+1) _ (by omega) (by omega) hp1 (by simp [Fs];omega),List.drop_eq_getElem_cons hb]
    simp only [Fs,List.flatMap_cons,List.flatMap_nil,List.append_nil,List.append_assoc,hzz]
   by_cases hs:p1[i]<0
   ·rw [B6 (dT hs),ckb (by omega),ckb (by omega)]
    exact fin _ ⟨by omega,by omega⟩ (by unfold zig;rw [if_pos hs])
   ·rw [B3 (dF hs),ckb (by omega)]
    exact fin _ ⟨by omega,by omega⟩ (by unfold zig;rw [if_neg hs])
  ·rw [B3 (dF (by omega)),List.drop_of_length_le (by omega)]
   simp
theorem Rc {F:Nat} (hF:1000≤F) {w:volume_writer} {l:List Int} (hw:w.b.length≤999999980000) (hl:∀x∈l,okZ x) (hn:l.length≤100):Cp F w l=some ⟨w.b++l.flatMap fun x=>Dq (zig x)⟩:=by
 rw [Cp]
 exact A1z F l hF hl F 0 w.b (by omega) (by omega) hn (by omega)
theorem W2 {x:Int} (h:okZ x):okN (zig x:Int):=by
 unfold okZ at h;unfold okN zig;split<;>omega
theorem Vz {F:Nat} (hF:1000≤F) {w:volume_writer} {s:ByteArray} (hw:w.b.length≤999999980000) (hs:s.size≤10000000):Dj F w s=some ⟨w.b++(Dq s.size++sby s)⟩:=by
 have h9:=Em (x:=(s.size:Int)) ⟨by omega,by omega⟩
 rw [Dj,Fx hF (show okW w.b by unfold okW;omega) (by intro x hx;simp at hx;subst hx;exact ⟨by omega,by omega⟩) (by simp),sb,Lv (by simp only [Fs,List.flatMap_cons,List.flatMap_nil,List.append_nil,List.length_append,Kb];omega) (by decide)]
 simp [Fs]
def okS (s:api_Span):Prop:=-1000000000000000000≤s.Lo∧s.Lo≤s.Hi∧s.Hi≤1000000000000000000
def Hd (s:api_Span):List Int:=Dq (zig s.Lo)++Dq (s.Hi-s.Lo).toNat
theorem Q9 {F:Nat} (hF:1000≤F) {w:volume_writer} {s:api_Span} (hw:w.b.length≤999999970000) (hs:okS s):Di F w s=some ⟨w.b++Hd s⟩:=by
 obtain ⟨h1,h2,h3⟩:=hs
 have h9:=Em (W2 (x:=s.Lo) ⟨by omega,by omega⟩)
 rw [Int.toNat_natCast] at h9
 rw [Di,Rc hF (by omega) (by intro x hx;simp at hx;subst hx;exact ⟨by omega,by omega⟩) (by simp),sb,ckb (by omega),Fx hF (by unfold okW;simp;omega) (by intro x hx;simp at hx;subst hx;exact ⟨by omega,by omega⟩) (by simp)]
 simp [Hd,Fs]
theorem Fo {s:api_Span} (hs:okS s):(Hd s).length≤18:=by
 obtain ⟨h1,h2,h3⟩:=hs
 have h8:=Em (W2 (x:=s.Lo) ⟨by omega,by omega⟩)
 have h9:=Em (x:=s.Hi-s.Lo) ⟨by omega,by omega⟩
 rw [Int.toNat_natCast] at h8
 unfold Hd;rw [List.length_append];omega
end Go.Proofs.Ytifbomimeodibaa
namespace Go.Proofs.Ytifbomimeodibaa
open Go Go.RowKit Go.Eng
set_option maxRecDepth 10000
set_option linter.unusedVariables false
set_option linter.unusedSimpArgs false
def Kk (x:api_Echo):List Int:=Dq x.Kind.toNat++if x.Kind=1 then Dq x.Power.Hi.toNat else Hd x.Power++(Hd x.Ratio++(Hd x.Match++(Dq x.Spread.toNat++if x.Kind=3 then Hd x.Steps.1++(Hd x.Steps.2++Hd x.Turn) else [])))
def okE (x:api_Echo):Prop:=okN x.Kind∧okN x.Power.Hi∧okN x.Spread∧okS x.Power∧okS x.Ratio∧okS x.Match∧okS x.Steps.1∧okS x.Steps.2∧okS x.Turn
theorem A1y {F:Nat} (hF:1000≤F) {w:volume_writer} {x:api_Echo} (hw:w.b.length≤999999960000) (hx:okE x):Fe F w x=some ⟨w.b++Kk x⟩:=by
 obtain ⟨h1,h2,h3,h4,h5,h6,h7,h8,h9⟩:=hx
 have a1:=Em h1
 have a2:=Em h2
 have a3:=Em h3
 have a4:=Fo h4
 have a5:=Fo h5
 have a6:=Fo h6
 have a7:=Fo h7
 have a8:=Fo h8
 obtain ⟨G,rfl⟩:∃G,F=G+4:=⟨F-4,by omega⟩
 rw [Fe,Fx hF (by unfold okW;omega) (by simpa using h1) (by simp),sb]
 by_cases hk:x.Kind=1
 ·rw [B6 (by simp [hk]),Fx hF (by unfold okW;simp [Fs];omega) (by simpa using h2) (by simp),sb]
  simp [Kk,hk,Fs]
 ·rw [B3 (by simp [hk]),C3,Co,B6 (dT (by decide)),El 0 x.Power (by decide) (by rfl),Q9 hF (by simp [Fs];omega) h4,sb,ckb (by omega),
   C3,Co,B6 (dT (by decide)),El 1 x.Ratio (by decide) (by rfl),Q9 hF (by simp [Fs];omega) h5,sb,ckb (by omega),
   C3,Co,B6 (dT (by decide)),El 2 x.Match (by decide) (by rfl),Q9 hF (by simp [Fs];omega) h6,sb,ckb (by omega),
   C3,Co,B3 (dF (by decide)),Fj,Fx hF (by unfold okW;simp [Fs];omega) (by simpa using h3) (by simp),sb]
  by_cases hk3:x.Kind=3
  ·rw [B6 (by simp [hk3]),C2,Cn,B6 (dT (by decide)),El 0 x.Steps.1 (by decide) (by rfl),Q9 hF (by simp [Fs];omega) h7,sb,ckb (by omega),
    C2,Cn,B6 (dT (by decide)),El 1 x.Steps.2 (by decide) (by rfl),Q9 hF (by simp [Fs];omega) h8,sb,ckb (by omega),
    C2,Cn,B6 (dT (by decide)),El 2 x.Turn (by decide) (by rfl),Q9 hF (by simp [Fs];omega) h9,sb,ckb (by omega),
    C2,Cn,B3 (dF (by decide))]
   simp [Kk,hk3,Fs]
  ·rw [B3 (by simp [hk3])]
   simp [Kk,hk,hk3,Fs]
theorem Tl {x:api_Echo} (hx:okE x):(Kk x).length≤130:=by
 obtain ⟨h1,h2,h3,h4,h5,h6,h7,h8,h9⟩:=hx
 have a1:=Em h1
 have a2:=Em h2
 have a3:=Em h3
 have a4:=Fo h4
 have a5:=Fo h5
 have a6:=Fo h6
 have a7:=Fo h7
 have a8:=Fo h8
 have a9:=Fo h9
 unfold Kk
 split
 ·simp;omega
 ·split<;>simp<;>omega
def Ka {α:Type} [DecidableEq α] (e:α→List Int):α→Nat→List α→List Int
 | _,n,[]=>if n=0 then [] else Dq n
 | b,n,x::l=>if x=b then Ka e b (n+1) l else Dq n++(e x++Ka e x 0 l)
def J2 {α:Type} [DecidableEq α] (b:α):List α→Nat
 | []=>0
 | x::l=>if x=b then J2 b l+1 else 0
theorem Rw {α:Type} [DecidableEq α] (b:α) (l:List α):J2 b l≤l.length:=by
 induction l with
 | nil=>exact Nat.le_refl _
 | cons x l ih=>unfold J2;split<;>simp<;>omega
theorem Wg {α:Type} [DecidableEq α] {b:α} {l:List α} {i:Nat} (h:i<J2 b l):l[i]? = some b:=by
 induction l generalizing i with
 | nil=>simp [J2] at h
 | cons x l ih =>
  unfold J2 at h
  split at h
  ·rename_i hx
   cases i with
   | zero=>simp [hx]
   | succ i=>simpa using ih (by omega)
  ·omega
theorem Wf {α:Type} [DecidableEq α] {b:α} {l:List α} {x:α} (h:l[J2 b l]? = some x):x≠b:=by
 induction l with
 | nil=>simp at h
 | cons y l ih =>
  unfold J2 at h
  split at h
  ·exact ih (by simpa using h)
  ·rename_i hy;simp at h;subst h;exact hy
theorem Tw {α:Type} [DecidableEq α] (e:α→List Int) (b:α) (n:Nat) (l:List α) (h:n≠0∨l≠[]):Ka e b n l=Dq (n+J2 b l)++(match l.drop (J2 b l) with|[]=>[]|y::r=>e y++Ka e y 0 r):=by
 induction l generalizing n with
 | nil=>rw [Ka,J2,if_neg (by simpa using h)];simp
 | cons x l ih =>
  rw [Ka,J2]
  split
  ·rw [ih (n+1) (.inl (by omega))]
   simp only [List.drop_succ_cons]
   rw [show n+1+J2 b l=n+(J2 b l+1) by omega]
  ·simp
theorem Uz {α:Type} [DecidableEq α] {e:α→List Int} {c:Nat}:∀(l:List α) (b:α) (n:Nat),(∀x∈l,(e x).length≤c)→n+l.length≤1000000000→(Ka e b n l).length≤9+(c+9)*l.length:=by
 intro l
 induction l with
 | nil =>
  intro b n h hn
  have:=Em (x:=(n:Int)) ⟨by omega,by simp at hn;omega⟩
  rw [Ka]
  split<;>simp at*<;>omega
 | cons x l ih =>
  intro b n h hn
  have h1:=Em (x:=(n:Int)) ⟨by omega,by simp at hn;omega⟩
  have h2:=h x (by simp)
  have hm:(c+9)*(l.length+1)=(c+9)*l.length+(c+9):=by rw [Nat.mul_add,Nat.mul_one]
  rw [Ka]
  simp only [List.length_cons] at hn ⊢
  rw [hm]
  split
  ·have:=ih b (n+1) (fun y hy=>h y (by simp [hy])) (by omega)
   omega
  ·have:=ih x 0 (fun y hy=>h y (by simp [hy])) (by omega)
   simp at h1 ⊢
   omega
theorem S0 (u b:api_Span):(((u.Lo:Int)==b.Lo)&&(((u.Hi:Int)==b.Hi)&&true))=decide (u=b):=by
 cases u;cases b
 rw [Bool.eq_iff_iff]
 simp
theorem Rs (u b:api_Echo):(((u.Kind:Int)==b.Kind)&&((((u.Power.Lo:Int)==b.Power.Lo)&&(((u.Power.Hi:Int)==b.Power.Hi)&&true))&&(((((u.Steps.1.Lo:Int)==b.Steps.1.Lo)&&(((u.Steps.1.Hi:Int)==b.Steps.1.Hi)&&true))&&((((u.Steps.2.Lo:Int)==b.Steps.2.Lo)&&(((u.Steps.2.Hi:Int)==b.Steps.2.Hi)&&true))&&true))&&(((u.Spread:Int)==b.Spread)&&((((u.Ratio.Lo:Int)==b.Ratio.Lo)&&(((u.Ratio.Hi:Int)==b.Ratio.Hi)&&true))&&((((u.Match.Lo:Int)==b.Match.Lo)&&(((u.Match.Hi:Int)==b.Match.Hi)&&true))&&((((u.Turn.Lo:Int)==b.Turn.Lo)&&(((u.Turn.Hi:Int)==b.Turn.Hi)&&true))&&true)))))))=decide (u=b):=by
 rcases u with ⟨k,⟨p1,p2⟩,⟨⟨s1,s2⟩,⟨s3,s4⟩⟩,sp,⟨r1,r2⟩,⟨m1,m2⟩,⟨t1,t2⟩⟩
 rcases b with ⟨k',⟨p1',p2'⟩,⟨⟨s1',s2'⟩,⟨s3',s4'⟩⟩,sp',⟨r1',r2'⟩,⟨m1',m2'⟩,⟨t1',t2'⟩⟩
 rw [Bool.eq_iff_iff]
 simp [and_assoc]
theorem gdt {g:Bool} (h:g=true):((g==true&&true))=true:=by rw [h];rfl
theorem gdf {g:Bool} (h:g=false):((g==true&&true))=false:=by rw [h];rfl
theorem A0e (F:Nat) (b:api_Span) (w:List Int) (l:List api_Span) (k1:Int→Int→List Int→List api_Span→Option volume_writer) (hl:l.length≤1000000000):∀(m i:Nat),i≤J2 b l→J2 b l-i<m →
  Bl F b.Lo b.Hi w l k1 m i=Bx F b.Lo b.Hi w l k1 (J2 b l:Nat):=by
 intro m
 have hle:=Rw b l
 induction m with
 | zero=>intro i _ h;omega
 | succ m ih =>
  intro i hi hm
  rw [Bl,Cu]
  by_cases hb:i<J2 b l
  ·have hx:=Wg hb
   rw [gdT (gdt (dT (by omega))),El i b rfl hx,S0 b b,B6 (x:=decide (b=b)) (dT (by omega)),B6 (dT rfl),ckb (by omega)]
   exact ih (i+1) (by omega) (by omega)
  ·have he:i=J2 b l:=by omega
   subst he
   by_cases hc:J2 b l<l.length
   ·have hg:=List.getElem?_eq_getElem hc
    rw [gdT (gdt (dT (by omega))),El _ _ rfl hg,S0 _ b,B6 (x:=decide (l[J2 b l]=b)) (dT (by omega)),B3 (dF (Wf hg))]
   ·rw [gdF (gdf (dF (by omega))),sb,B3 (B3 (dF (by omega)))]
theorem Tk {α:Type} {l:List α} {n:Nat} {y:α} {r:List α} (h:l.drop n=y::r):l[n]? = some y∧n<l.length∧r=l.drop (n+1)∧r.length<l.length∧y∈l:=by
 have hn:n<l.length:=by
  rcases Nat.lt_or_ge n l.length with h1|h1
  ·exact h1
  ·rw [List.drop_of_length_le h1] at h;cases h
 rw [List.drop_eq_getElem_cons hn] at h
 cases h
 refine ⟨List.getElem?_eq_getElem hn,hn,rfl,by simp;omega,List.getElem_mem hn⟩
theorem A2v (F:Nat) (hF:1000≤F):∀(m:Nat) (l:List api_Span) (b:api_Span) (w:List Int),l.length<m→l.length<F→l.length≤1000000000→(∀x∈l,okS x)→w.length+200*l.length≤999999900000 →
  Be F m b.Lo b.Hi w l=some ⟨w++Ka Hd b 0 l⟩:=by
 intro m
 induction m with
 | zero=>intro l b w h;omega
 | succ m ih =>
  intro l b w h hlF hl9 hok hw
  rw [Be,Bw]
  cases hl:l with
  | nil=>simp [Ka]
  | cons x0 l0 =>
   rw [←hl]
   have hpos:0<l.length:=by rw [hl];simp
   have hle:=Rw b l
   have h9:=Em (x:=(J2 b l:Int)) ⟨by omega,by omega⟩
   rw [Int.toNat_natCast] at h9
   rw [B6 (dT (by omega)),show (0:Int)=((0:Nat):Int) from rfl,A0e F b w l _ hl9 F 0 (by omega) (by omega),Bx,Fx hF (by unfold okW;simp;omega) (by intro x hx;simp at hx;subst hx;exact ⟨by omega,by omega⟩) (by simp),sb,
    Ju (J2 b l) rfl rfl hle,Tw Hd b 0 l (.inr (by rw [hl];simp))]
   cases hd:l.drop (J2 b l) with
   | nil =>
    rw [B3 (dF (by simp))]
    cases m with
    | zero=>omega
    | succ m=>rw [Be,Bw,B3 (dF (by simp))];simp [Fs]
   | cons y r =>
    obtain ⟨hg,hn,hr,hrl,hy⟩:=Tk hd
    rw [B6 (dT (by simp)),El 0 y (by rfl) (by rfl),Ju 1 (by decide) (by rfl) (by simp),Q9 hF (by simp [Fs];omega) (hok y hy),sb]
    simp only [List.drop_succ_cons,List.drop_zero]
    rw [ih r y _ (by omega) (by omega) (by omega) (fun z hz=>hok z (by rw [hr] at hz;exact List.mem_of_mem_drop hz)) (by have:=Fo (hok y hy);simp [Fs];omega)]
    simp [Fs]
theorem A0b {F:Nat} (hF:1000≤F) {w:volume_writer} {l:List api_Span} {b:api_Span} (hl:l.length<F) (hl9:l.length≤1000000000) (hok:∀x∈l,okS x) (hw:w.b.length+200*l.length≤999999900000):Ce F w l b=some ⟨w.b++Ka Hd b 0 l⟩:=by
 rw [Ce]
 exact A2v F hF F l b w.b hl hl hl9 hok hw
theorem A0d (F:Nat) (b:api_Echo) (w:List Int) (l:List api_Echo) (k1:Int→Int→Int→Int→Int→Int→Int→Int→Int→Int→Int→Int→Int→Int→List Int→List api_Echo→Option volume_writer) (hl:l.length≤1000000000):∀(m i:Nat),i≤J2 b l→J2 b l-i<m →
  Bk F b.Kind b.Power.Lo b.Match.Lo b.Match.Hi b.Turn.Lo b.Turn.Hi b.Power.Hi b.Steps.1.Lo b.Steps.1.Hi b.Steps.2.Lo b.Steps.2.Hi b.Spread b.Ratio.Lo b.Ratio.Hi w l k1 m i=Bv F b.Kind b.Power.Lo b.Match.Lo b.Match.Hi b.Turn.Lo b.Turn.Hi b.Power.Hi b.Steps.1.Lo b.Steps.1.Hi b.Steps.2.Lo b.Steps.2.Hi b.Spread b.Ratio.Lo b.Ratio.Hi w l k1 (J2 b l:Nat):=by
 intro m
 have hle:=Rw b l
 induction m with
 | zero=>intro i _ h;omega
 | succ m ih =>
  intro i hi hm
  rw [Bk,Ct]
  by_cases hb:i<J2 b l
  ·have hx:=Wg hb
   rw [gdT (gdt (dT (by omega))),El i b rfl hx,Rs b b,B6 (x:=decide (b=b)) (dT (by omega)),B6 (dT rfl),ckb (by omega)]
   exact ih (i+1) (by omega) (by omega)
  ·have he:i=J2 b l:=by omega
   subst he
   by_cases hc:J2 b l<l.length
   ·have hg:=List.getElem?_eq_getElem hc
    rw [gdT (gdt (dT (by omega))),El _ _ rfl hg,Rs _ b,B6 (x:=decide (l[J2 b l]=b)) (dT (by omega)),B3 (dF (Wf hg))]
   ·rw [gdF (gdf (dF (by omega))),sb,B3 (B3 (dF (by omega)))]
theorem A2u (F:Nat) (hF:1000≤F):∀(m:Nat) (l:List api_Echo) (b:api_Echo) (w:List Int),l.length<m→l.length<F→l.length≤1000000000→(∀x∈l,okE x)→w.length+300*l.length≤999999900000 →
  Bd F m b.Kind b.Power.Lo b.Match.Lo b.Match.Hi b.Turn.Lo b.Turn.Hi b.Power.Hi b.Steps.1.Lo b.Steps.1.Hi b.Steps.2.Lo b.Steps.2.Hi b.Spread b.Ratio.Lo b.Ratio.Hi w l=some ⟨w++Ka Kk b 0 l⟩:=by
 intro m
 induction m with
 | zero=>intro l b w h;omega
 | succ m ih =>
  intro l b w h hlF hl9 hok hw
  rw [Bd,Bu]
  cases hl:l with
  | nil=>simp [Ka]
  | cons x0 l0 =>
   rw [←hl]
   have hpos:0<l.length:=by rw [hl];simp
   have hle:=Rw b l
   have h9:=Em (x:=(J2 b l:Int)) ⟨by omega,by omega⟩
   rw [Int.toNat_natCast] at h9
   rw [B6 (dT (by omega)),show (0:Int)=((0:Nat):Int) from rfl,A0d F b w l _ hl9 F 0 (by omega) (by omega),Bv,Fx hF (by unfold okW;simp;omega) (by intro x hx;simp at hx;subst hx;exact ⟨by omega,by omega⟩) (by simp),sb,
    Ju (J2 b l) rfl rfl hle,Tw Kk b 0 l (.inr (by rw [hl];simp))]
   cases hd:l.drop (J2 b l) with
   | nil =>
    rw [B3 (dF (by simp))]
    cases m with
    | zero=>omega
    | succ m=>rw [Bd,Bu,B3 (dF (by simp))];simp [Fs]
   | cons y r =>
    obtain ⟨hg,hn,hr,hrl,hy⟩:=Tk hd
    rw [B6 (dT (by simp)),El 0 y (by rfl) (by rfl),Ju 1 (by decide) (by rfl) (by simp),A1y hF (by simp [Fs];omega) (hok y hy),sb]
    simp only [List.drop_succ_cons,List.drop_zero]
    rw [ih r y _ (by omega) (by omega) (by omega) (fun z hz=>hok z (by rw [hr] at hz;exact List.mem_of_mem_drop hz)) (by have:=Tl (hok y hy);simp [Fs];omega)]
    simp [Fs]
theorem Zc {F:Nat} (hF:1000≤F) {w:volume_writer} {l:List api_Echo} {b:api_Echo} (hl:l.length<F) (hl9:l.length≤1000000000) (hok:∀x∈l,okE x) (hw:w.b.length+300*l.length≤999999900000):Cc F w l b=some ⟨w.b++Ka Kk b 0 l⟩:=by
 rw [Cc]
 exact A2u F hF F l b w.b hl hl hl9 hok hw
def e0:api_Echo:=⟨1,⟨0,0⟩,(⟨0,0⟩,⟨0,0⟩),0,⟨0,0⟩,⟨0,0⟩,⟨0,0⟩⟩
def Kd (s:ByteArray):List Int:=Dq s.size++sby s
def Qj (l:List Int):List Int:=l.flatMap fun x=>Dq (zig x)
def Ni (s:api_Sweep):List Int:=Fs [1]++(Kd s.Site.Name++(Qj [s.Site.X,s.Site.Y]++(Fs [s.Site.Z,s.Site.Rose,s.Site.Gates,s.Site.Step,s.Site.Width,s.Tilt,s.Time]++Ka Kk e0 0 s.Rays.flatten)))
def N4 (f:volume_field):List Int:=Fs [2]++(Kd f.key++(Fs [f.time]++(Qj [f.Field.Grid.X,f.Field.Grid.Y]++(Fs [f.Field.Grid.Size,f.Field.Grid.Wide,f.Field.Grid.High]++Ka Hd ⟨0,0⟩ 0 f.Field.Vals))))
def Qo (n:volume_note):List Int:=Fs [3,n.time]++Kd n.text
def Al (t:volume_thing):List Int:=t.cs [] (fun s=>Ni s.Sweep) N4 Qo
def A1a (s:api_Site):Prop:=s.Name.size≤1000∧okZ s.X∧okZ s.Y∧okN s.Z∧okN s.Rose∧okN s.Gates∧okN s.Step∧okN s.Width
def Qq (s:api_Sweep):Prop:=A1a s.Site∧okN s.Tilt∧okN s.Time∧s.Rays.length≤1000∧s.Rays.flatten.length≤100000∧∀r∈s.Rays,∀x∈r,okE x
def Rx (f:volume_field):Prop:=f.key.size≤1000∧okN f.time∧okZ f.Field.Grid.X∧okZ f.Field.Grid.Y∧okN f.Field.Grid.Size∧okN f.Field.Grid.Wide∧okN f.Field.Grid.High∧f.Field.Vals.length≤100000∧∀x∈f.Field.Vals,okS x
def Vo (n:volume_note):Prop:=okN n.time∧n.text.size≤1000
def okT (t:volume_thing):Prop:=t.cs False (fun s=>Qq s.Sweep) Rx Vo
theorem Ha {l:List Int} (h:∀x∈l,okN x):(Fs l).length≤9*l.length:=by
 induction l with
 | nil=>simp [Fs]
 | cons x l ih =>
  have h1:=Em (h x (by simp))
  have h2:=ih fun y hy=>h y (by simp [hy])
  simp only [Fs,List.flatMap_cons,List.length_append,List.length_cons] at h2 ⊢
  omega
theorem Qk {l:List Int} (h:∀x∈l,okZ x):(Qj l).length≤9*l.length:=by
 induction l with
 | nil=>simp [Qj]
 | cons x l ih =>
  have h1:=Em (W2 (h x (by simp)))
  rw [Int.toNat_natCast] at h1
  have h2:=ih fun y hy=>h y (by simp [hy])
  simp only [Qj,List.flatMap_cons,List.length_append,List.length_cons] at h2 ⊢
  omega
theorem Mt {s:ByteArray} (h:s.size≤1000):(Kd s).length≤1009:=by
 have h9:=Em (x:=(s.size:Int)) ⟨by omega,by omega⟩
 rw [Int.toNat_natCast] at h9
 unfold Kd
 rw [List.length_append,Kb];omega
theorem Lu {x:Int} (h:0≤x∧x≤1000000):okN x:=⟨h.1,by omega⟩
theorem A22 (F:Nat) (hF:200000≤F) (s:volume_sweep) (y:volume_writer) (hok:Qq s.Sweep) (hy:y.b.length≤1000000):∀(m i:Nat) (acc:List api_Echo),s.Sweep.Rays.length-i<m→i≤s.Sweep.Rays.length→acc++(s.Sweep.Rays.drop i).flatten=s.Sweep.Rays.flatten →
  Do F s y m acc i=some ⟨y.b++Ka Kk e0 0 s.Sweep.Rays.flatten⟩:=by
 intro m
 obtain ⟨h1,h2,h3,h4,h5,h6⟩:=hok
 induction m with
 | zero=>intro i acc h;omega
 | succ m ih =>
  intro i acc h hi hacc
  have hal:acc.length≤100000:=by
   have:=congrArg List.length hacc
   rw [List.length_append] at this;omega
  rw [Do,Fy]
  by_cases hb:i<s.Sweep.Rays.length
  ·have hd:=List.drop_eq_getElem_cons hb
   have hacc2:(acc++s.Sweep.Rays[i])++(s.Sweep.Rays.drop (i+1)).flatten=s.Sweep.Rays.flatten:=by rw [←hacc,hd,List.flatten_cons,List.append_assoc]
   have hal2:acc.length+s.Sweep.Rays[i].length≤100000:=by
    have:=congrArg List.length hacc2
    simp only [List.length_append] at this;omega
   rw [B6 (dT (by omega)),El i _ rfl (List.getElem?_eq_getElem hb),Lv (by omega) (by decide),ckb (by omega)]
   exact ih (i+1) _ (by omega) (by omega) hacc2
  ·have he:acc=s.Sweep.Rays.flatten:=by
    rw [List.drop_of_length_le (by omega)] at hacc;simpa using hacc
   rw [B3 (dF (by omega)),he,Fz,Zc (by omega) (by omega) (by omega) (fun x hx=>?_) (by omega)]
   ·rfl
   ·obtain ⟨r,hr,hx⟩:=List.mem_flatten.1 hx
    exact h6 r hr x hx
theorem A0c {F:Nat} (hF:200000≤F) {t:volume_thing} (h:okT t):Jo F t ⟨[]⟩=some ⟨Al t⟩:=by
 cases t with
 | nil_=>exact h.elim
 | ic112 s =>
  have hs:Qq s.Sweep:=h
  have h':=hs
  obtain ⟨⟨a1,a2,a3,a4,a5,a6,a7,a8⟩,h2,h3,h4,h5,h6⟩:=h'
  have o1:∀x∈[(1:Int)],okN x:=by intro x hx;simp at hx;subst hx;exact Lu (by decide)
  have o2:∀x∈[s.Sweep.Site.X,s.Sweep.Site.Y],okZ x:=by intro x hx;simp at hx;rcases hx with rfl|rfl<;>assumption
  have o3:∀x∈[s.Sweep.Site.Z,s.Sweep.Site.Rose,s.Sweep.Site.Gates,s.Sweep.Site.Step,s.Sweep.Site.Width,s.Sweep.Tilt,s.Sweep.Time],okN x:=by intro x hx;simp at hx;rcases hx with rfl|rfl|rfl|rfl|rfl|rfl|rfl<;>assumption
  have l1:=Ha o1
  have l2:=Mt a1
  have l3:=Qk o2
  have l4:=Ha o3
  simp only [List.length_cons,List.length_nil] at l1 l3 l4
  show Fw F s ⟨[]⟩=some ⟨Ni s.Sweep⟩
  rw [Fw,Fx (by omega) (by unfold okW;simp) o1 (by simp),sb,Vz (by omega) (by simp only [List.nil_append];omega) (by omega),sb]
  rw [Rc (by omega) (by simp only [List.nil_append,List.length_append];unfold Kd at l2;rw [List.length_append] at l2;omega) o2 (by simp),sb,Fx (by omega) (by unfold okW;unfold Qj at l3;unfold Kd at l2;simp only [List.nil_append,List.length_append] at *;omega) o3 (by simp),sb]
  rw [show (0:Int)=((0:Nat):Int) from rfl,A22 F hF s _ hs (by unfold Qj at l3;unfold Kd at l2;simp only [List.nil_append,List.length_append] at *;omega) F 0 [] (by omega) (by omega) (by simp)]
  simp [Ni,Kd,Qj]
 | ic114 f =>
  obtain ⟨a1,a2,a3,a4,a5,a6,a7,a8,a9⟩:=(show Rx f from h)
  have o1:∀x∈[(2:Int)],okN x:=by intro x hx;simp at hx;subst hx;exact Lu (by decide)
  have o4:∀x∈[f.time],okN x:=by intro x hx;simp at hx;subst hx;exact a2
  have o2:∀x∈[f.Field.Grid.X,f.Field.Grid.Y],okZ x:=by intro x hx;simp at hx;rcases hx with rfl|rfl<;>assumption
  have o3:∀x∈[f.Field.Grid.Size,f.Field.Grid.Wide,f.Field.Grid.High],okN x:=by intro x hx;simp at hx;rcases hx with rfl|rfl|rfl<;>assumption
  have l1:=Ha o1
  have l2:=Mt a1
  have l3:=Qk o2
  have l4:=Ha o3
  have l5:=Ha o4
  simp only [List.length_cons,List.length_nil] at l1 l3 l4 l5
  show Fu F f ⟨[]⟩=some ⟨N4 f⟩
  rw [Fu,Fx (by omega) (by unfold okW;simp) o1 (by simp),sb,Vz (by omega) (by simp only [List.nil_append];omega) (by omega),sb]
  rw [Fx (by omega) (by unfold okW;unfold Kd at l2;simp only [List.nil_append,List.length_append] at *;omega) o4 (by simp),sb]
  rw [Rc (by omega) (by unfold Kd at l2;simp only [List.nil_append,List.length_append] at *;omega) o2 (by simp),sb,Fx (by omega) (by unfold okW;unfold Qj at l3;unfold Kd at l2;simp only [List.nil_append,List.length_append] at *;omega) o3 (by simp),sb]
  rw [A0b (by omega) (by omega) (by omega) a9 (by unfold Qj at l3;unfold Kd at l2;simp only [List.nil_append,List.length_append] at *;omega),sb]
  simp [N4,Kd,Qj]
 | ic116 n =>
  obtain ⟨a1,a2⟩:=(show Vo n from h)
  have o1:∀x∈[(3:Int),n.time],okN x:=by intro x hx;simp at hx;rcases hx with rfl|rfl;(exact Lu (by decide));exact a1
  have l1:=Ha o1
  simp only [List.length_cons,List.length_nil] at l1
  show Ga F n ⟨[]⟩=some ⟨Qo n⟩
  rw [Ga,Fx (by omega) (by unfold okW;simp) o1 (by simp),sb,Vz (by omega) (by simp only [List.nil_append];omega) (by omega),sb]
  simp [Qo,Kd]
end Go.Proofs.Ytifbomimeodibaa
namespace Go.Proofs.Ytifbomimeodibaa
open Go Go.RowKit Go.Eng
set_option maxRecDepth 10000
set_option linter.unusedVariables false
set_option linter.unusedSimpArgs false
def R9:Nat→List Int→Nat
 | c,[]=>c
 | c,x::l=>R9 ((31*c+x.toNat)%2147483647) l
def Vv (c:Nat):List Int:=[128+((c%127:Nat):Int),128+((c/127%127:Nat):Int),128+((c/127/127%127:Nat):Int),128+((c/127/127/127%127:Nat):Int),1+((c/127/127/127/127%127:Nat):Int)]
def Jb (l:List Int):List Int:=Vv (R9 1 l)
theorem Kc (l:List Int):(Jb l).length=5:=rfl
theorem Wt (l:List Int):∀c,c<2147483647→R9 c l<2147483647:=by
 induction l with
 | nil=>intro c h;exact h
 | cons x l ih=>intro c h;exact ih _ (Nat.mod_lt _ (by decide))
theorem A1q {α β:Type} {l:List α} {i:Int} {x:α} {f:List α→Option β} (n:Nat) (hi:i=(n:Int)) (h:n<l.length):(Tf l i x).bind f=f (l.set n x):=by
 subst hi
 unfold Tf
 rw [if_pos (by omega)]
 rfl
theorem A04 (F:Nat) (hF:10≤F) (c:Nat) (hc:c<2147483647):Ew F 5 0 c (List.replicate 5 0)=some (Vv c):=by
 obtain ⟨G,rfl⟩:∃G,F=G+6:=⟨F-6,by omega⟩
 have step:∀(m i d:Nat) (l:List Int),i<5→l.length=5→d<2147483647→Ew (m+1) 5 i d l=Ew m 5 (i+1:Nat) (d/127:Nat) (l.set i (128+((d%127:Nat):Int))):=by
  intro m i d l hi hl hd
  rw [Ew,Jc,B6 (dT (by omega)),(tdm d).1,sb]
  have:=Nat.mod_lt d (show 0<127 by decide)
  rw [ckb (by omega),El i l[i] rfl (List.getElem?_eq_getElem (by omega)),A1q i rfl (by omega),(tdm d).2,ckb (by omega),ckb (by omega),T8 (by omega)]
  rfl
 rw [show (0:Int)=((0:Nat):Int) from rfl,step (G+5) 0 c _ (by decide) (by simp) hc,step (G+4) 1 _ _ (by decide) (by simp) (by omega),step (G+3) 2 _ _ (by decide) (by simp) (by omega),step (G+2) 3 _ _ (by decide) (by simp) (by omega),step (G+1) 4 _ _ (by decide) (by simp) (by omega)]
 rw [Ew,Jc,B3 (dF (by decide)),L5]
 simp only [List.replicate,List.set_cons_zero,List.set_cons_succ]
 have h4:(128:Int)+((c/127/127/127/127%127:Nat):Int)-127=1+((c/127/127/127/127%127:Nat):Int):=by omega
 have:=Nat.mod_lt (c/127/127/127/127) (show 0<127 by decide)
 rw [El 4 (128+((c/127/127/127/127%127:Nat):Int)) (by decide) (by rfl),El 4 (128+((c/127/127/127/127%127:Nat):Int)) (by decide) (by rfl),A1q 4 (by decide) (by simp),h4,T8 (by omega)]
 rfl
theorem A05 (F:Nat) (hF:10≤F) (p:List Int) (hp:By p) (hpl:p.length≤1000000000):∀(m i c:Nat),p.length-i<m→i≤p.length→c<2147483647→Hg F p m i c=some (Vv (R9 c (p.drop i))):=by
 intro m
 induction m with
 | zero=>intro i c h;omega
 | succ m ih =>
  intro i c h hi hc
  rw [Hg,L3]
  by_cases hb:i<p.length
  ·have hx:=hp p[i] (List.getElem_mem hb)
   rw [B6 (dT (by omega)),El i p[i] rfl (List.getElem?_eq_getElem hb),ckb (by omega),ckb (by omega),ckb (by omega)]
   have e:Jm (31*(c:Int)+p[i]) 2147483647=some (((31*c+p[i].toNat)%2147483647:Nat):Int):=by
    have e1:31*(c:Int)+p[i]=((31*c+p[i].toNat:Nat):Int):=by omega
    rw [e1]
    unfold Jm
    rw [if_neg (by decide)]
    congr 1
   rw [e,sb,ckb (by omega)]
   have:=ih (i+1) _ (by omega) (by omega) (Nat.mod_lt (31*c+p[i].toNat) (show 0<2147483647 by decide))
   rw [show ((i:Int)+1)=((i+1:Nat):Int) by omega,this,List.drop_eq_getElem_cons hb]
   rfl
  ·rw [B3 (dF (by omega)),L4,List.drop_of_length_le (by omega)]
   show (mkI 1 5 0).bind _=_
   rw [show mkI 1 5 (0:Int)=some (List.replicate 5 0) from by unfold mkI;rw [if_pos (by decide)];rfl,sb]
   exact A04 F hF c hc
theorem Z6 {F:Nat} (hF:10≤F) {p:List Int} (hp:By p) (hl:p.length<F) (hl9:p.length≤1000000000):Jn F p=some (Jb p):=by
 rw [Jn]
 exact A05 F hF p hp hl9 F 0 1 (by omega) (by omega) (by decide)
theorem Wi (n:Nat):By (Dq n):=fun x hx=>by have:=Wj n x hx;omega
theorem By.fm {α:Type} {l:List α} {f:α→List Int} (h:∀x∈l,By (f x)):By (l.flatMap f):=fun x hx=>by
 obtain ⟨y,hy,hx⟩:=List.mem_flatMap.1 hx
 exact h y hy x hx
def Nz (l:List Int):Prop:=∀x∈l,1≤x∧x<256
theorem Nz.by {l:List Int} (h:Nz l):By l:=fun x hx=>by have:=h x hx;omega
theorem Nz.app {l k:List Int} (h:Nz l) (h':Nz k):Nz (l++k):=fun x hx=>(List.mem_append.1 hx).elim (h x) (h' x)
theorem Nz.nil:Nz []:=fun x hx=>by cases hx
theorem Nz.fm {α:Type} {l:List α} {f:α→List Int} (h:∀x∈l,Nz (f x)):Nz (l.flatMap f):=fun x hx=>by
 obtain ⟨y,hy,hx⟩:=List.mem_flatMap.1 hx
 exact h y hy x hx
theorem K7 (n:Nat):Nz (Dq n):=fun x hx=>by have:=Wj n x hx;omega
theorem Jf (l:List Int):Nz (Fs l):=Nz.fm fun x _=>K7 _
theorem Ru (l:List Int):Nz (Qj l):=Nz.fm fun x _=>K7 _
theorem Lb (s:api_Span):Nz (Hd s):=(K7 _).app (K7 _)
theorem Ul (x:api_Echo):Nz (Kk x):=by
 unfold Kk
 refine (K7 _).app ?_
 split
 ·exact K7 _
 ·refine (Lb _).app ((Lb _).app ((Lb _).app ((K7 _).app ?_)))
  split
  ·exact (Lb _).app ((Lb _).app (Lb _))
  ·exact Nz.nil
theorem Ry {α:Type} [DecidableEq α] {e:α→List Int} (he:∀x,Nz (e x)):∀(l:List α) (b:α) (n:Nat),Nz (Ka e b n l):=by
 intro l
 induction l with
 | nil=>intro b n;rw [Ka];split;exact Nz.nil;exact K7 _
 | cons x l ih =>
  intro b n
  rw [Ka]
  split
  ·exact ih _ _
  ·exact (K7 _).app ((he x).app (ih _ _))
theorem Ws (l:List Int):Nz (Jb l):=by
 have h:∀c:Nat,(0:Int)≤((c%127:Nat):Int)∧((c%127:Nat):Int)<127:=fun c=>by have:=Nat.mod_lt c (show 0<127 by decide);omega
 intro x hx
 unfold Jb Vv at hx
 simp only [List.mem_cons,List.not_mem_nil,or_false] at hx
 rcases hx with rfl|rfl|rfl|rfl|rfl
 ·have:=h (R9 1 l);omega
 ·have:=h (R9 1 l/127);omega
 ·have:=h (R9 1 l/127/127);omega
 ·have:=h (R9 1 l/127/127/127);omega
 ·have:=h (R9 1 l/127/127/127/127);omega
def Tz (s:ByteArray):Prop:=Nz (sby s)
theorem T4 {s:ByteArray} (h:Tz s):Nz (Kd s):=(K7 _).app h
def tzT (t:volume_thing):Prop:=t.cs True (fun s=>Tz s.Sweep.Site.Name) (fun f=>Tz f.key) (fun n=>Tz n.text)
theorem Xm {t:volume_thing} (h:tzT t):Nz (Al t):=by
 cases t with
 | nil_=>exact Nz.nil
 | ic112 s=>exact (Jf _).app ((T4 h).app ((Ru _).app ((Jf _).app (Ry Ul _ _ _))))
 | ic114 f=>exact (Jf _).app ((T4 h).app ((Jf _).app ((Ru _).app ((Jf _).app (Ry Lb _ _ _)))))
 | ic116 n=>exact (Jf _).app (T4 h)
def cnt (t:volume_thing):Nat:=t.cs 0 (fun s=>s.Sweep.Rays.flatten.length) (fun f=>f.Field.Vals.length) (fun _=>0)
theorem Rl {t:volume_thing} (h:okT t):(Al t).length≤1200+139*cnt t:=by
 cases t with
 | nil_=>exact h.elim
 | ic112 s =>
  obtain ⟨⟨a1,a2,a3,a4,a5,a6,a7,a8⟩,h2,h3,h4,h5,h6⟩:=(show Qq s.Sweep from h)
  have l1:=Ha (l:=[(1:Int)]) (by intro x hx;simp at hx;subst hx;exact Lu (by decide))
  have l2:=Mt a1
  have l3:=Qk (l:=[s.Sweep.Site.X,s.Sweep.Site.Y]) (by intro x hx;simp at hx;rcases hx with rfl|rfl<;>assumption)
  have l4:=Ha (l:=[s.Sweep.Site.Z,s.Sweep.Site.Rose,s.Sweep.Site.Gates,s.Sweep.Site.Step,s.Sweep.Site.Width,s.Sweep.Tilt,s.Sweep.Time]) (by intro x hx;simp at hx;rcases hx with rfl|rfl|rfl|rfl|rfl|rfl|rfl<;>assumption)
  have l5:=Uz (e:=Kk) (c:=130) s.Sweep.Rays.flatten e0 0 (fun x hx=>Tl (by obtain ⟨r,hr,hx⟩:=List.mem_flatten.1 hx;exact h6 r hr x hx)) (by omega)
  simp only [List.length_cons,List.length_nil] at l1 l3 l4
  show (Ni s.Sweep).length≤1200+139*s.Sweep.Rays.flatten.length
  simp only [Ni,List.length_append]
  omega
 | ic114 f =>
  obtain ⟨a1,a2,a3,a4,a5,a6,a7,a8,a9⟩:=(show Rx f from h)
  have l1:=Ha (l:=[(2:Int)]) (by intro x hx;simp at hx;subst hx;exact Lu (by decide))
  have l2:=Mt a1
  have l3:=Qk (l:=[f.Field.Grid.X,f.Field.Grid.Y]) (by intro x hx;simp at hx;rcases hx with rfl|rfl<;>assumption)
  have l4:=Ha (l:=[f.Field.Grid.Size,f.Field.Grid.Wide,f.Field.Grid.High]) (by intro x hx;simp at hx;rcases hx with rfl|rfl|rfl<;>assumption)
  have l6:=Ha (l:=[f.time]) (by intro x hx;simp at hx;subst hx;exact a2)
  have l5:=Uz (e:=Hd) (c:=18) f.Field.Vals ⟨0,0⟩ 0 (fun x hx=>Fo (a9 x hx)) (by omega)
  simp only [List.length_cons,List.length_nil] at l1 l3 l4 l6
  show (N4 f).length≤1200+139*f.Field.Vals.length
  simp only [N4,List.length_append]
  omega
 | ic116 n =>
  obtain ⟨a1,a2⟩:=(show Vo n from h)
  have l1:=Ha (l:=[(3:Int),n.time]) (by intro x hx;simp at hx;rcases hx with rfl|rfl;(exact Lu (by decide));exact a1)
  have l2:=Mt a2
  simp only [List.length_cons,List.length_nil] at l1
  show (Qo n).length≤1200+139*0
  simp only [Qo,List.length_append]
  omega
theorem A1p (s:ByteArray):By (sby s):=fun x hx=>by
 obtain ⟨b,_,rfl⟩:=List.mem_map.1 hx
 have:=b.toNat_lt
 omega
theorem T3 (s:ByteArray):By (Kd s):=(Wi _).app (A1p s)
theorem Xl (t:volume_thing):By (Al t):=by
 cases t with
 | nil_=>exact Nz.nil.by
 | ic112 s=>exact (Jf _).by.app ((T3 _).app ((Ru _).by.app ((Jf _).by.app (Ry Ul _ _ _).by)))
 | ic114 f=>exact (Jf _).by.app ((T3 _).app ((Jf _).by.app ((Ru _).by.app ((Jf _).by.app (Ry Lb _ _ _).by))))
 | ic116 n=>exact (Jf _).by.app (T3 _)
theorem M8 {t:volume_thing} (h:okT t):(Al t).length≤14000000:=by
 have h1:=Rl h
 have h2:cnt t≤100000:=by
  cases t with
  | nil_=>exact h.elim
  | ic112 s=>exact (show Qq s.Sweep from h).2.2.2.2.1
  | ic114 f=>exact (show Rx f from h).2.2.2.2.2.2.2.1
  | ic116 n=>exact Nat.zero_le _
 omega
def Dl (b:List Int):List Int:=Dq b.length++b
def Av (t:volume_thing):List Int:=Dl (Al t)++Jb (Dl (Al t))
def Gb (t:volume_thing):List Int:=0::Av t
theorem Yn {t:volume_thing} (h:tzT t):Nz (Dl (Al t)):=(K7 _).app (Xm h)
theorem Ku {t:volume_thing} (h:tzT t):Nz (Av t):=(Yn h).app (Ws _)
theorem Xt {F:Nat} (hF:200000≤F) {t:volume_thing} (h:okT t) (hl:(Al t).length+100≤F):J6 F t=some (Gb t):=by
 have hlen:=M8 h
 have h9:=Em (x:=((Al t).length:Int)) ⟨by omega,by omega⟩
 rw [Int.toNat_natCast] at h9
 rw [J6,A0c hF h,sb,Fx (by omega) (by unfold okW;simp) (by intro x hx;simp at hx;subst hx;exact ⟨by omega,by omega⟩) (by simp),sb]
 have e:([]:List Int)++Fs [((Al t).length:Int)]=Dq (Al t).length:=by simp [Fs]
 simp only [e]
 rw [Lv (by omega) (by decide)]
 show (Jn F (Dl (Al t))).bind _=_
 have hpl:(Dl (Al t)).length=(Dq (Al t).length).length+(Al t).length:=by unfold Dl;rw [List.length_append]
 have hby:By (Dl (Al t)):=(Wi _).app (Xl t)
 rw [Z6 (by omega) hby (by omega) (by omega),sb,Lv (by rw [List.length_append,Kc];omega) (by decide)]
 rw [show Dq (Al t).length++Al t=Dl (Al t) from rfl]
 rw [Lv (by rw [List.length_append,Kc];simp;omega) (by decide)]
 rfl
end Go.Proofs.Ytifbomimeodibaa
namespace Go.Proofs.Ytifbomimeodibaa
open Go Go.RowKit Go.Eng
set_option maxRecDepth 10000
set_option linter.unusedVariables false
set_option linter.unusedSimpArgs false
abbrev RE (α:Type):=Option (Except (Value×volume_reader) (α×volume_reader))
def W7:Value:=.iface 101 (.int .i64 7)
def Rd {α:Type} (y:RE α) (o:Option (α×List Int)):Prop:=match o with
 | some x=>y=some (.ok (x.1,⟨x.2⟩))
 | none=>∃r,y=some (.error (W7,r))
theorem Rd.bind {α β:Type} {y:RE α} {o:Option (α×List Int)} (h:Rd y o) {f:α×volume_reader→RE β} {g:α×List Int→Option (β×List Int)} (hf:∀x r,o=some (x,r)→Rd (f (x,⟨r⟩)) (g (x,r))) :
  Rd (y.bind fun z=>exc z (fun e=>some (.error (e.1,volume_reader.mk e.2.b))) f) (o.bind g):=by
 cases o with
 | none=>obtain ⟨r,hr⟩:=h;rw [hr];exact ⟨_,rfl⟩
 | some x =>
  rw [show y=some (.ok (x.1,⟨x.2⟩)) from h]
  exact hf x.1 x.2 rfl
theorem Rd.ok {α:Type} {x:α} {r:List Int}:Rd (some (.ok (x,⟨r⟩))) (some (x,r)):=rfl
theorem Rd.bad {α:Type} {r:volume_reader}:Rd (α:=α) (some (.error (W7,r))) none:=⟨r,rfl⟩
theorem By.suf {l k:List Int} (h:By l) (hs:k <:+ l):By k:=fun x hx=>h x (hs.subset hx)
def rD:Nat→Bool→List Int→Option (Int×List Int)
 | 0,_,_=>none
 | _+1,_,[]=>none
 | k+1,f,c::l=>if c=0∨c=255∨(c=1∧f=false) then none else if c<128 then some (c-1,l) else (rD k false l).map fun y=>(c-128+127*y.1,y.2)
def rN (l:List Int):Option (Int×List Int):=rD 8 true l
theorem A2l:∀(k:Nat) (f:Bool) (l:List Int) (x:Int) (r:List Int),By l→rD k f l=some (x,r)→0≤x∧x<127 ^ k∧r <:+ l:=by
 intro k
 induction k with
 | zero=>intro f l x r _ h;cases h
 | succ k ih =>
  intro f l x r hb h
  cases l with
  | nil=>cases h
  | cons c l =>
   have hc:=hb c (by simp)
   have hp:(0:Int)<127 ^ k:=Int.pow_pos (by decide)
   rw [rD] at h
   split at h
   ·cases h
   ·rename_i g1
    have g2:c≠0:=fun e=>g1 (.inl e)
    have g3:c≠255:=fun e=>g1 (.inr (.inl e))
    rw [Int.pow_succ]
    split at h
    ·cases h
     exact ⟨by omega,by omega,List.suffix_cons ..⟩
    ·obtain ⟨z,hz,he⟩:=Option.map_eq_some_iff.1 h
     cases he
     obtain ⟨h1,h2,h3⟩:=ih false l z.1 z.2 (fun x hx=>hb x (by simp [hx])) hz
     exact ⟨by omega,by omega,h3.trans (List.suffix_cons ..)⟩
theorem G6 {l:List Int} {x:Int} {r:List Int} (hb:By l) (h:rN l=some (x,r)):0≤x∧x<67675234241018881∧r <:+ l:=by
 have:=A2l 8 true l x r hb h
 exact this
theorem A1j (p:List Int) (hp:By p):∀(m i k:Nat) (n:Int),i+k=8→k<m→0≤n→n≤127 ^ i →
  Rd (Bj ⟨p⟩ (p.take 8) m i n (127 ^ i:Nat)) ((rD k (i==0) (p.drop i)).map fun y=>(n+127 ^ i*y.1,y.2)):=by
 intro m
 induction m with
 | zero=>intro i k n _ h;omega
 | succ m ih =>
  intro i k n hik hk hn0 hn
  rw [Bj,Eo]
  have hpi:(127:Int) ^ i≤127 ^ 8:=by
   have:(127:Nat) ^ i≤127 ^ 8:=Nat.pow_le_pow_right (by decide) (by omega)
   exact_mod_cast this
  have e8:(127:Int) ^ 8=67675234241018881:=by decide
  have hp0:(0:Int)<127 ^ i:=Int.pow_pos (by decide)
  have ecast:((127 ^ i:Nat):Int)=127 ^ i:=by push_cast;rfl
  rw [ecast]
  by_cases hb:i<(p.take 8).length
  ·have hb':i<p.length∧i<8:=by rw [List.length_take] at hb;omega
   obtain ⟨k,rfl⟩:∃k',k=k'+1:=⟨k-1,by omega⟩
   have hx:=hp p[i] (List.getElem_mem hb'.1)
   rw [B6 (dT (by omega)),El i p[i] rfl (by rw [List.getElem?_take];rw [if_pos hb'.2];exact List.getElem?_eq_getElem hb'.1),List.drop_eq_getElem_cons hb'.1,rD]
   have hp7:(127:Int) ^ i≤127 ^ 7:=by
    have:(127:Nat) ^ i≤127 ^ 7:=Nat.pow_le_pow_right (by decide) (by omega)
    exact_mod_cast this
   have e7:(127:Int) ^ 7=532875860165503:=by decide
   have hmul:p[i]*127 ^ i≤256*127 ^ i:=Int.mul_le_mul_of_nonneg_right (by omega) (by omega)
   have hmul0:0≤p[i]*127 ^ i:=Int.mul_nonneg (by omega) (by omega)
   by_cases hc:p[i]=0∨p[i]=255∨(p[i]=1∧(i==0)=false)
   ·rw [if_pos hc,B6 ?_]
    ·exact Rd.bad
    ·rcases hc with h|h|⟨h1,h2⟩
     ·simp [h]
     ·simp [h]
     ·simp at h2
      simp [h1];omega
   ·rw [if_neg hc,B3 ?_]
    ·by_cases hs:p[i]<128
     ·have e1:(p[i]-1)*127 ^ i=p[i]*127 ^ i-127 ^ i:=by rw [Int.sub_mul,Int.one_mul]
      rw [if_pos hs,B6 (dT hs),ckb (by omega),Ju (i+1) (by omega) rfl (by simp;omega),ckb (by omega),ckb (by omega),ckb (by omega),ckb (by omega)]
      show some (Except.ok (n+(p[i]-1)*127 ^ i,volume_reader.mk (p.drop (i+1))))=some (.ok (n+127 ^ i*(p[i]-1),⟨p.drop (i+1)⟩))
      rw [Int.mul_comm (127 ^ i) (p[i]-1)]
     ·have e1:(p[i]-128)*127 ^ i=p[i]*127 ^ i-128*127 ^ i:=by rw [Int.sub_mul]
      have e2:(p[i]-128)*127 ^ i≤126*127 ^ i:=Int.mul_le_mul_of_nonneg_right (by have:p[i]≠255:=fun e=>hc (.inr (.inl e));omega) (by omega)
      have e3:0≤(p[i]-128)*127 ^ i:=Int.mul_nonneg (by omega) (by omega)
      have e4:(127:Int) ^ (i+1)=127 ^ i*127:=Int.pow_succ ..
      rw [if_neg hs,B3 (dF hs),Er,ckb (by omega),ckb (by omega),ckb (by omega),ckb (by omega),ckb (by omega),ckb (by omega)]
      have:=ih (i+1) k (n+(p[i]-128)*127 ^ i) (by omega) (by omega) (by omega) (by rw [e4];omega)
      have ecast2:((127 ^ (i+1):Nat):Int)=127 ^ i*127:=by rw [←e4];push_cast;rfl
      rw [ecast2] at this
      rw [show ((i:Int)+1)=((i+1:Nat):Int) by omega]
      rw [Option.map_map]
      have ef:(i+1==0)=false:=rfl
      rw [ef] at this
      cases hr:rD k false (p.drop (i+1)) with
      | none=>rw [hr] at this;exact this
      | some y =>
       rw [hr] at this
       have this':_=some (Except.ok (n+(p[i]-128)*127 ^ i+127 ^ (i+1)*y.1,volume_reader.mk y.2)):=this
       show _=some (Except.ok (n+127 ^ i*(p[i]-128+127*y.1),volume_reader.mk y.2))
       rw [this',e4,Int.mul_add,Int.mul_comm (127 ^ i) (p[i]-128),←Int.add_assoc,←Int.mul_assoc]
    ·have h1:¬p[i]=0:=fun e=>hc (.inl e)
     have h2:¬p[i]=255:=fun e=>hc (.inr (.inl e))
     simp only [beq_eq_false_iff_ne.2 h1,beq_eq_false_iff_ne.2 h2,cond_false]
     by_cases h3:p[i]=1
     ·have h4:i=0:=by
       rcases Nat.eq_zero_or_pos i with h|h
       ·exact h
       ·exact absurd (.inr (.inr ⟨h3,by simp;omega⟩)) hc
      simp [h3,h4]
     ·simp [h3]
  ·rw [B3 (dF (by omega)),Ep]
   have:rD k (i==0) (p.drop i)=none:=by
    rw [List.length_take] at hb
    rcases Nat.eq_zero_or_pos k with h|h
    ·subst h;rfl
    ·rw [List.drop_of_length_le (by omega)]
     obtain ⟨k,rfl⟩:∃k',k=k'+1:=⟨k-1,by omega⟩
     rfl
   rw [this]
   exact Rd.bad
theorem Dc {F:Nat} (hF:1000≤F) {p:List Int} (hp:By p):Rd (Ah F ⟨p⟩) (rN p):=by
 rw [Ah]
 have h:(Gc p (0:Int) (if 8<((p.length:Nat):Int) then 8 else ((p.length:Nat):Int))).bind (fun l80=>Bj ⟨p⟩ l80 F 0 0 1)=Bj ⟨p⟩ (p.take 8) F 0 0 1:=by
  by_cases h8:8<p.length
  ·rw [if_pos (by omega),Rg 8 (by rfl) (by rfl) (by omega)]
  ·rw [if_neg (by omega),Rg p.length (by rfl) (by rfl) (by omega),List.take_of_length_le (by omega),List.take_of_length_le (by omega)]
 show Rd ((Gc p (0:Int) (if 8<((p.length:Nat):Int) then 8 else ((p.length:Nat):Int))).bind (fun l80=>Bj ⟨p⟩ l80 F 0 0 1)) _
 rw [h]
 have:=A1j p hp F 0 8 0 (by omega) (by omega) (by omega) (by decide)
 cases hr:rN p with
 | none =>
  rw [show rD 8 (0==0) (p.drop 0)=none from hr] at this
  exact this
 | some y =>
  rw [show rD 8 (0==0) (p.drop 0)=some y from hr] at this
  have this':_=some (Except.ok (0+127 ^ 0*y.1,volume_reader.mk y.2)):=this
  rw [show (0:Int)+127 ^ 0*y.1=y.1 by simp] at this'
  exact this'
end Go.Proofs.Ytifbomimeodibaa
namespace Go.Proofs.Ytifbomimeodibaa
open Go Go.RowKit Go.Eng
set_option maxRecDepth 10000
set_option linter.unusedVariables false
set_option linter.unusedSimpArgs false
def unz (n:Int):Int:=if n%2=1 then -((n+1)/2) else n/2
def rI (l:List Int):Option (Int×List Int):=(rN l).bind fun y=>some (unz y.1,y.2)
def rT (l:List Int):Option (ByteArray×List Int):=(rN l).bind fun y=>if y.1>(y.2.length:Int) then none else some (bst (y.2.take y.1.toNat),y.2.drop y.1.toNat)
def rS (l:List Int):Option (api_Span×List Int):=(rI l).bind fun y=>(rN y.2).bind fun z=>some (⟨y.1,y.1+z.1⟩,z.2)
def rE (l:List Int):Option (api_Echo×List Int):=(rN l).bind fun k=>if k.1=1 then (rN k.2).bind fun h=>some (⟨k.1,⟨0,h.1⟩,(⟨0,0⟩,⟨0,0⟩),0,⟨0,0⟩,⟨0,0⟩,⟨0,0⟩⟩,h.2)
 else (rS k.2).bind fun p=>(rS p.2).bind fun r=>(rS r.2).bind fun m=>(rN m.2).bind fun s=>if k.1=3 then (rS s.2).bind fun a=>(rS a.2).bind fun b=>(rS b.2).bind fun t=>some (⟨k.1,p.1,(a.1,b.1),s.1,r.1,m.1,t.1⟩,t.2)
  else some (⟨k.1,p.1,(⟨0,0⟩,⟨0,0⟩),s.1,r.1,m.1,⟨0,0⟩⟩,s.2)
theorem Eh {α β:Type} {o:Option (α×List Int)} {f:α×List Int→Option β} {y:β} (h:o.bind f=some y):∃x r,o=some (x,r)∧f (x,r)=some y:=by
 obtain ⟨⟨x,r⟩,h1,h2⟩:=Option.bind_eq_some_iff.1 h
 exact ⟨x,r,h1,h2⟩
def A1b (x:Int):Prop:=-67675234241018881≤x∧x≤67675234241018881
theorem A1x {n:Int} (h:0≤n∧n<67675234241018881):A1b (unz n):=by
 unfold unz A1b;split<;>omega
theorem Tv {l:List Int} {x:Int} {r:List Int} (hb:By l) (h:rI l=some (x,r)):A1b x∧r <:+ l:=by
 obtain ⟨n,r',h1,h2⟩:=Eh h
 cases h2
 obtain ⟨a,b,c⟩:=G6 hb h1
 exact ⟨A1x ⟨a,b⟩,c⟩
theorem A0o {l:List Int} {x:ByteArray} {r:List Int} (hb:By l) (h:rT l=some (x,r)):r <:+ l∧x.size≤l.length:=by
 obtain ⟨n,r',h1,h2⟩:=Eh h
 obtain ⟨a,b,c⟩:=G6 hb h1
 split at h2
 ·cases h2
 ·rename_i hg
  cases h2
  refine ⟨(List.drop_suffix ..).trans c,?_⟩
  have:=c.length_le
  show (bst (r'.take n.toNat)).size≤_
  unfold bst
  simp only [ByteArray.size,List.size_toArray,List.length_map,List.length_take]
  simp only at hg
  omega
def okS' (s:api_Span):Prop:=-67675234241018881≤s.Lo∧s.Lo≤s.Hi∧s.Hi≤200000000000000000
theorem okS'.ok {s:api_Span} (h:okS' s):okS s:=by obtain ⟨a,b,c⟩:=h;exact ⟨by omega,b,by omega⟩
theorem okS'.z:okS' ⟨0,0⟩:=by unfold okS';decide
theorem Nk {l:List Int} {x:api_Span} {r:List Int} (hb:By l) (h:rS l=some (x,r)):okS' x∧r <:+ l:=by
 obtain ⟨lo,r1,h1,h2⟩:=Eh h
 obtain ⟨n,r2,h3,h4⟩:=Eh h2
 cases h4
 obtain ⟨⟨a,b⟩,c⟩:=Tv hb h1
 obtain ⟨d,e,f⟩:=G6 (hb.suf c) h3
 exact ⟨⟨a,by simp only;omega,by simp only;omega⟩,f.trans c⟩
theorem Yp {l:List Int} {x:api_Echo} {r:List Int} (hb:By l) (h:rE l=some (x,r)):r <:+ l:=by
 obtain ⟨k,r0,h0,h⟩:=Eh h
 obtain ⟨a0,b0,c0⟩:=G6 hb h0
 have hb0:=hb.suf c0
 split at h
 ·obtain ⟨n,r1,h1,h⟩:=Eh h
  cases h
  obtain ⟨a1,b1,c1⟩:=G6 hb0 h1
  exact c1.trans c0
 ·obtain ⟨p,r1,h1,h⟩:=Eh h
  obtain ⟨p1,c1⟩:=Nk hb0 h1
  have hb1:=hb0.suf c1
  obtain ⟨q,r2,h2,h⟩:=Eh h
  obtain ⟨p2,c2⟩:=Nk hb1 h2
  have hb2:=hb1.suf c2
  obtain ⟨m,r3,h3,h⟩:=Eh h
  obtain ⟨p3,c3⟩:=Nk hb2 h3
  have hb3:=hb2.suf c3
  obtain ⟨s,r4,h4,h⟩:=Eh h
  obtain ⟨a4,b4,c4⟩:=G6 hb3 h4
  have hb4:=hb3.suf c4
  have hs:s∈[s]:=by simp
  split at h
  ·obtain ⟨a,r5,h5,h⟩:=Eh h
   obtain ⟨p5,c5⟩:=Nk hb4 h5
   have hb5:=hb4.suf c5
   obtain ⟨b,r6,h6,h⟩:=Eh h
   obtain ⟨p6,c6⟩:=Nk hb5 h6
   have hb6:=hb5.suf c6
   obtain ⟨t,r7,h7,h⟩:=Eh h
   obtain ⟨p7,c7⟩:=Nk hb6 h7
   cases h
   exact c7.trans (c6.trans (c5.trans (c4.trans (c3.trans (c2.trans (c1.trans c0))))))
  ·cases h
   exact c4.trans (c3.trans (c2.trans (c1.trans c0)))
theorem Mr {F:Nat} (hF:1000≤F) {p:List Int} (hp:By p):Rd (Bq F ⟨p⟩) (rI p):=by
 rw [Bq,rI]
 refine (Dc hF hp).bind fun n r h=>?_
 obtain ⟨a,b,c⟩:=G6 hp h
 have e:Jm n 2=some (n%2):=by
  unfold Jm
  rw [if_neg (by decide),Int.tmod_eq_emod_of_nonneg a]
 show Rd ((Jm n 2).bind _) _
 rw [e,sb]
 unfold unz
 by_cases h1:n%2=1
 ·rw [if_pos h1,B6 (by simp [h1]),ckb (by omega)]
  have ew:IntKind.i64.wrap (0-(n+1))=-(n+1):=by
   simp only [IntKind.wrap,IntKind.signed,IntKind.bits]
   simp
   omega
  have eq:Nm (IntKind.i64.wrap (0-(n+1))) 2=some (-((n+1)/2)):=by
   rw [ew]
   unfold Nm
   rw [if_neg (by decide),Int.neg_tdiv,Int.tdiv_eq_ediv_of_nonneg (by omega)]
   unfold ck
   rw [if_pos (by omega)]
  show Rd ((Nm (IntKind.i64.wrap (0-(n+1))) 2).bind _) _
  rw [eq]
  exact Rd.ok
 ·rw [if_neg h1,B3 (by simp [h1])]
  have eq:Nm n 2=some (n/2):=by
   unfold Nm
   rw [if_neg (by decide),Int.tdiv_eq_ediv_of_nonneg a]
   unfold ck
   rw [if_pos (by omega)]
  show Rd ((Nm n 2).bind _) _
  rw [eq]
  exact Rd.ok
theorem Vq {F:Nat} (hF:1000≤F) {p:List Int} (hp:By p):Rd (Dh F ⟨p⟩) (rT p):=by
 rw [Dh,rT]
 refine (Dc hF hp).bind fun n r h=>?_
 obtain ⟨a,b,c⟩:=G6 hp h
 show Rd (bif decide (n>(r.length:Int)) then _ else _) (if n>(r.length:Int) then _ else _)
 by_cases h1:n>(r.length:Int)
 ·rw [if_pos h1,B6 (dT h1)];exact Rd.bad
 ·rw [if_neg h1,B3 (dF h1),Fi]
  have en:n=((n.toNat:Nat):Int):=by omega
  rw [Rg n.toNat rfl en (show n.toNat≤r.length by omega),Ju n.toNat en rfl (show n.toNat≤r.length by omega)]
  exact Rd.ok
theorem Q4 {F:Nat} (hF:1000≤F) {p:List Int} (hp:By p):Rd (Bo F ⟨p⟩) (rS p):=by
 rw [Bo,rS]
 refine (Mr hF hp).bind fun x r h=>?_
 obtain ⟨⟨a,b⟩,c⟩:=Tv hp h
 refine (Dc hF (hp.suf c)).bind fun n r2 h2=>?_
 obtain ⟨d,e,f⟩:=G6 (hp.suf c) h2
 rw [ckb (by simp only;omega)]
 exact Rd.ok
theorem A1i {F:Nat} (hF:1000≤F) {p:List Int} (hp:By p):Rd (Fc F ⟨p⟩) (rE p):=by
 rw [Fc,rE]
 refine (Dc hF hp).bind fun k r0 h0=>?_
 obtain ⟨a0,b0,c0⟩:=G6 hp h0
 have hb0:=hp.suf c0
 show Rd (bif k==1 then _ else _) (if k=1 then _ else _)
 by_cases hk:k=1
 ·rw [if_pos hk,B6 (by simp [hk])]
  refine (Dc hF hb0).bind fun n r h=>?_
  exact Rd.ok
 ·rw [if_neg hk,B3 (by simp [hk])]
  refine (Q4 hF hb0).bind fun p r1 h1=>?_
  have hb1:=hb0.suf (Nk hb0 h1).2
  refine (Q4 hF hb1).bind fun q r2 h2=>?_
  have hb2:=hb1.suf (Nk hb1 h2).2
  refine (Q4 hF hb2).bind fun m r3 h3=>?_
  have hb3:=hb2.suf (Nk hb2 h3).2
  refine (Dc hF hb3).bind fun s r4 h4=>?_
  have hb4:=hb3.suf (G6 hb3 h4).2.2
  show Rd (bif k==3 then _ else _) (if k=3 then _ else _)
  by_cases hk3:k=3
  ·rw [if_pos hk3,B6 (by simp [hk3])]
   refine (Q4 hF hb4).bind fun a r5 h5=>?_
   have hb5:=hb4.suf (Nk hb4 h5).2
   refine (Q4 hF hb5).bind fun b r6 h6=>?_
   have hb6:=hb5.suf (Nk hb5 h6).2
   refine (Q4 hF hb6).bind fun t r7 h7=>?_
   exact Rd.ok
  ·rw [if_neg hk3,B3 (by simp [hk3])]
   exact Rd.ok
def rL {α:Type} [DecidableEq α] (rd:List Int→Option (α×List Int)):Nat→Nat→α→List Int→Option (List α×List Int)
 | 0,_,_,_=>none
 | m+1,n,b,l=>if n=0 then some ([],l) else (rN l).bind fun y=>if y.1>(n:Int) then none else if n=y.1.toNat then some (List.replicate n b,y.2) else
   (rd y.2).bind fun z=>if z.1=b then none else (rL rd m (n-y.1.toNat-1) z.1 z.2).map fun u=>(List.replicate y.1.toNat b++z.1::u.1,u.2)
theorem A1g {α:Type} [DecidableEq α] {rd:List Int→Option (α×List Int)} (hrd:∀l x r,By l→rd l=some (x,r)→r <:+ l):∀(m n:Nat) (b:α) (l:List Int) (u:List α) (r:List Int),By l→rL rd m n b l=some (u,r)→u.length=n∧r <:+ l:=by
 intro m
 induction m with
 | zero=>intro n b l u r _ h;cases h
 | succ m ih =>
  intro n b l u r hb h
  rw [rL] at h
  split at h
  ·cases h;rename_i h0;exact ⟨h0.symm,List.suffix_refl _⟩
  ·obtain ⟨k,r1,h1,h⟩:=Eh h
   obtain ⟨a,b1,c⟩:=G6 hb h1
   simp only at h
   split at h
   ·cases h
   ·split at h
    ·cases h;exact ⟨by simp,c⟩
    ·obtain ⟨z,r2,h2,h⟩:=Eh h
     simp only at h
     split at h
     ·cases h
     ·obtain ⟨⟨u',r'⟩,h3,h4⟩:=Option.map_eq_some_iff.1 h
      cases h4
      have hc:=hrd _ _ _ (hb.suf c) h2
      obtain ⟨i1,i2⟩:=ih _ _ _ _ _ (hb.suf (hc.trans c)) h3
      refine ⟨?_,i2.trans (hc.trans c)⟩
      simp only [List.length_append,List.length_replicate,List.length_cons,i1]
      omega
theorem A1o (F:Nat) (N:Int) (b:api_Span) (k2:Int→Int→List Int→List api_Span→RE (List api_Span)) (y:Int×volume_reader) (hy:y.1≤1000000):∀(m i:Nat) (out:List api_Span),(i:Int)≤y.1→y.1-i<m→out.length+(y.1-i)≤2000000 →
  Bg F N b.Lo b.Hi k2 y m i out=C9 F N b.Lo b.Hi k2 y (out++List.replicate (y.1-i).toNat b):=by
 intro m
 induction m with
 | zero=>intro i out h1 h2;omega
 | succ m ih =>
  intro i out h1 h2 h3
  rw [Bg,D3]
  by_cases hb:(i:Int)<y.1
  ·rw [B6 (dT hb),Lv (by simp;omega) (by decide),ckb (by omega)]
   have:=ih (i+1) (out++[b]) (by omega) (by omega) (by simp;omega)
   show Bg F N b.Lo b.Hi k2 y m ((i:Int)+1) (out++[b])=_
   rw [show ((i:Int)+1)=((i+1:Nat):Int) by omega,this,List.append_assoc]
   congr 2
   rw [show (y.1-(i:Int)).toNat=(y.1-((i+1:Nat):Int)).toNat+1 by omega,List.replicate_succ]
   rfl
  ·rw [B3 (dF hb),show (y.1-(i:Int)).toNat=0 by omega]
   simp
theorem A2p (F:Nat) (hF:200000≤F) (N:Nat) (hN:N≤100000):∀(m m':Nat) (b:api_Span) (l:List Int) (out:List api_Span),By l→out.length≤N→N-out.length<m→N-out.length<m' →
  Rd (B9 F N m b.Lo b.Hi l out) ((rL rS m' (N-out.length) b l).map fun u=>(out++u.1,u.2)):=by
 intro m
 induction m with
 | zero=>intro m' b l out _ _ h;omega
 | succ m ih =>
  intro m' b l out hb ho hm hm'
  obtain ⟨m',rfl⟩:∃k,m'=k+1:=⟨m'-1,by omega⟩
  rw [B9,C7,rL]
  by_cases h0:N-out.length=0
  ·rw [if_pos h0,B3 (dF (by omega)),C8]
   show _=some (Except.ok (out++[],volume_reader.mk l))
   rw [List.append_nil]
  ·rw [if_neg h0,B6 (dT (by omega)),Option.map_bind]
   refine (Dc (by omega) hb).bind fun k r h=>?_
   obtain ⟨a,b1,c⟩:=G6 hb h
   rw [ckb (by omega)]
   simp only [Function.comp]
   by_cases hk:k>((N-out.length:Nat):Int)
   ·rw [if_pos hk,B6 (dT (by omega))];exact Rd.bad
   ·rw [if_neg hk,B3 (dF (by omega)),D4]
    have hr:=A1o F N b (B9 F N m) (k,⟨r⟩) (by simp only;omega) F 0 out (by simp only;omega) (by simp only;omega) (by simp only;omega)
    rw [show (0:Int)=((0:Nat):Int) from rfl,hr,C9,show (k-((0:Nat):Int)).toNat=k.toNat by omega]
    by_cases hk2:N-out.length=k.toNat
    ·rw [if_pos hk2,B3 (dF (by simp;omega))]
     cases m with
     | zero=>omega
     | succ m =>
      rw [B9,C7,B3 (dF (by simp;omega)),C8,hk2]
      rfl
    ·rw [if_neg hk2,B6 (dT (by simp;omega)),Option.map_bind]
     have hbr:=hb.suf c
     refine (Q4 (by omega) hbr).bind fun x r2 h2=>?_
     have hb2:=hbr.suf (Nk hbr h2).2
     simp only [Function.comp]
     rw [S0 x b]
     by_cases hx:x=b
     ·rw [if_pos hx,B6 (dT hx)];exact Rd.bad
     ·rw [if_neg hx,B3 (dF hx),D5,Lv (by simp;omega) (by decide)]
      have:=ih m' x r2 (out++List.replicate k.toNat b++[x]) hb2 (by simp;omega) (by simp;omega) (by simp;omega)
      rw [show N-(out++List.replicate k.toNat b++[x]).length=N-out.length-k.toNat-1 by simp;omega] at this
      rw [Option.map_map]
      simp only [Function.comp_def]
      simpa only [List.append_assoc,List.cons_append,List.nil_append] using this
theorem Zw {F:Nat} (hF:200000≤F) {N:Nat} (hN:N≤100000) {l:List Int} (hl:By l) (b:api_Span):Rd (Cj F ⟨l⟩ N b) (rL rS (N+1) N b l):=by
 rw [Cj]
 have:=A2p F hF N hN F (N+1) b l [] hl (by simp) (by simp;omega) (by simp)
 simpa using this
theorem A1l (F:Nat) (N:Int) (b:api_Echo) (k2:Int→Int→Int→Int→Int→Int→Int→Int→Int→Int→Int→Int→Int→Int→List Int→List api_Echo→RE (List api_Echo)) (y:Int×volume_reader) (hy:y.1≤1000000):∀(m i:Nat) (out:List api_Echo),(i:Int)≤y.1→y.1-i<m→out.length+(y.1-i)≤2000000 →
  Bf F N b.Kind b.Power.Lo b.Match.Lo b.Match.Hi b.Turn.Lo b.Turn.Hi b.Power.Hi b.Steps.1.Lo b.Steps.1.Hi b.Steps.2.Lo b.Steps.2.Hi b.Spread b.Ratio.Lo b.Ratio.Hi k2 y m i out=C6 F N b.Kind b.Power.Lo b.Match.Lo b.Match.Hi b.Turn.Lo b.Turn.Hi b.Power.Hi b.Steps.1.Lo b.Steps.1.Hi b.Steps.2.Lo b.Steps.2.Hi b.Spread b.Ratio.Lo b.Ratio.Hi k2 y (out++List.replicate (y.1-i).toNat b):=by
 intro m
 induction m with
 | zero=>intro i out h1 h2;omega
 | succ m ih =>
  intro i out h1 h2 h3
  rw [Bf,D0]
  by_cases hb:(i:Int)<y.1
  ·rw [B6 (dT hb),Lv (by simp;omega) (by decide),ckb (by omega)]
   have:=ih (i+1) (out++[b]) (by omega) (by omega) (by simp;omega)
   show Bf F N b.Kind b.Power.Lo b.Match.Lo b.Match.Hi b.Turn.Lo b.Turn.Hi b.Power.Hi b.Steps.1.Lo b.Steps.1.Hi b.Steps.2.Lo b.Steps.2.Hi b.Spread b.Ratio.Lo b.Ratio.Hi k2 y m ((i:Int)+1) (out++[b])=_
   rw [show ((i:Int)+1)=((i+1:Nat):Int) by omega,this,List.append_assoc]
   congr 2
   rw [show (y.1-(i:Int)).toNat=(y.1-((i+1:Nat):Int)).toNat+1 by omega,List.replicate_succ]
   rfl
  ·rw [B3 (dF hb),show (y.1-(i:Int)).toNat=0 by omega]
   simp
theorem A2o (F:Nat) (hF:200000≤F) (N:Nat) (hN:N≤100000):∀(m m':Nat) (b:api_Echo) (l:List Int) (out:List api_Echo),By l→out.length≤N→N-out.length<m→N-out.length<m' →
  Rd (B8 F N m b.Kind b.Power.Lo b.Match.Lo b.Match.Hi b.Turn.Lo b.Turn.Hi b.Power.Hi b.Steps.1.Lo b.Steps.1.Hi b.Steps.2.Lo b.Steps.2.Hi b.Spread b.Ratio.Lo b.Ratio.Hi l out) ((rL rE m' (N-out.length) b l).map fun u=>(out++u.1,u.2)):=by
 intro m
 induction m with
 | zero=>intro m' b l out _ _ h;omega
 | succ m ih =>
  intro m' b l out hb ho hm hm'
  obtain ⟨m',rfl⟩:∃k,m'=k+1:=⟨m'-1,by omega⟩
  rw [B8,C4,rL]
  by_cases h0:N-out.length=0
  ·rw [if_pos h0,B3 (dF (by omega)),C5]
   show _=some (Except.ok (out++[],volume_reader.mk l))
   rw [List.append_nil]
  ·rw [if_neg h0,B6 (dT (by omega)),Option.map_bind]
   refine (Dc (by omega) hb).bind fun k r h=>?_
   obtain ⟨a,b1,c⟩:=G6 hb h
   rw [ckb (by omega)]
   simp only [Function.comp]
   by_cases hk:k>((N-out.length:Nat):Int)
   ·rw [if_pos hk,B6 (dT (by omega))];exact Rd.bad
   ·rw [if_neg hk,B3 (dF (by omega)),D1]
    have hr:=A1l F N b (B8 F N m) (k,⟨r⟩) (by simp only;omega) F 0 out (by simp only;omega) (by simp only;omega) (by simp only;omega)
    rw [show (0:Int)=((0:Nat):Int) from rfl,hr,C6,show (k-((0:Nat):Int)).toNat=k.toNat by omega]
    by_cases hk2:N-out.length=k.toNat
    ·rw [if_pos hk2,B3 (dF (by simp;omega))]
     cases m with
     | zero=>omega
     | succ m =>
      rw [B8,C4,B3 (dF (by simp;omega)),C5,hk2]
      rfl
    ·rw [if_neg hk2,B6 (dT (by simp;omega)),Option.map_bind]
     have hbr:=hb.suf c
     refine (A1i (by omega) hbr).bind fun x r2 h2=>?_
     have hb2:=hbr.suf (Yp hbr h2)
     simp only [Function.comp]
     rw [Rs x b]
     by_cases hx:x=b
     ·rw [if_pos hx,B6 (dT hx)];exact Rd.bad
     ·rw [if_neg hx,B3 (dF hx),D2,Lv (by simp;omega) (by decide)]
      have:=ih m' x r2 (out++List.replicate k.toNat b++[x]) hb2 (by simp;omega) (by simp;omega) (by simp;omega)
      rw [show N-(out++List.replicate k.toNat b++[x]).length=N-out.length-k.toNat-1 by simp;omega] at this
      rw [Option.map_map]
      simp only [Function.comp_def]
      simpa only [List.append_assoc,List.cons_append,List.nil_append] using this
theorem Yr {F:Nat} (hF:200000≤F) {N:Nat} (hN:N≤100000) {l:List Int} (hl:By l) (b:api_Echo):Rd (Ci F ⟨l⟩ N b) (rL rE (N+1) N b l):=by
 rw [Ci]
 have:=A2o F hF N hN F (N+1) b l [] hl (by simp) (by simp;omega) (by simp)
 simpa using this
end Go.Proofs.Ytifbomimeodibaa
namespace Go.Proofs.Ytifbomimeodibaa
open Go Go.RowKit Go.Eng
set_option maxRecDepth 10000
set_option linter.unusedVariables false
set_option linter.unusedSimpArgs false
def Qn (s:ByteArray):Bool:=(!(sEq s ⟨#[]⟩))&&(decide ((s.size:Int)≤12)&&(decide ((Tb s 0).getD 0≥97)&&(decide ((Tb s 0).getD 0≤122)&&!A0l s)))
theorem Wh (F:Nat) (s:ByteArray):Lq F s=some (Qn s):=by
 have hg:sEq s ⟨#[]⟩=false→Tb s 0=some ((Tb s 0).getD 0):=by
  intro h
  have hs:s.size≠0:=by
   intro h0
   have:s=⟨#[]⟩:=by
    cases s with
    | mk d =>
     have:d=#[]:=Array.eq_empty_of_size_eq_zero h0
     rw [this]
   rw [Rz.2 this] at h
   cases h
  unfold Tb
  rw [if_pos (by omega)]
  rfl
 unfold Lq Qn E0
 cases h1:sEq s ⟨#[]⟩ with
 | true=>simp [gd]
 | false =>
  have e:=hg h1
  generalize hu:(Tb s 0).getD 0=u at e ⊢
  rw [e]
  by_cases h2:(s.size:Int)≤12
  ·by_cases h3:u≥97
   ·simp [gd,h2,h3]
   ·simp [gd,h2,h3]
  ·simp [gd,h2]
def inB (x lo hi:Int):Prop:=lo≤x∧x≤hi
instance (x lo hi:Int):Decidable (inB x lo hi):=by unfold inB;infer_instance
theorem T7 {x lo hi:Int}:Af x lo hi=decide (inB x lo hi):=by
 unfold Af inB
 by_cases h:lo≤x<;>simp [h]
def Rm (s:api_Site):Prop:=Qn s.Name=true∧inB s.X (-1048576) 1048576∧inB s.Y (-1048576) 1048576∧inB s.Z 0 20000∧inB s.Rose 1 90∧inB s.Gates 1 200∧inB s.Step 50 2000∧inB s.Width 0 8
instance (s:api_Site):Decidable (Rm s):=by unfold Rm;infer_instance
theorem Wq (F:Nat) (s:api_Site):∃e,Gp F s=some e∧(e=0↔Rm s):=by
 unfold Gp F1 E7 Rm
 rw [Wh,sb]
 simp only [T7]
 cases Qn s.Name with
 | false=>exact ⟨10,by simp,by simp⟩
 | true =>
  by_cases h1:inB s.X (-1048576) 1048576
  ·by_cases h2:inB s.Y (-1048576) 1048576
   ·by_cases h3:inB s.Z 0 20000
    ·by_cases h4:inB s.Rose 1 90
     ·by_cases h5:inB s.Gates 1 200
      ·by_cases h6:inB s.Step 50 2000
       ·by_cases h7:inB s.Width 0 8
        ·exact ⟨0,by simp [h1,h2,h3,h4,h5,h6,h7],by simp [h1,h2,h3,h4,h5,h6,h7]⟩
        ·exact ⟨3,by simp [h1,h2,h3,h4,h5,h6,h7],by simp [h1,h2,h3,h4,h5,h6,h7]⟩
       ·exact ⟨3,by simp [h1,h2,h3,h4,h5,h6],by simp [h1,h2,h3,h4,h5,h6]⟩
      ·exact ⟨3,by simp [h1,h2,h3,h4,h5],by simp [h1,h2,h3,h4,h5]⟩
     ·exact ⟨3,by simp [h1,h2,h3,h4],by simp [h1,h2,h3,h4]⟩
    ·exact ⟨3,by simp [h1,h2,h3],by simp [h1,h2,h3]⟩
   ·exact ⟨3,by simp [h1,h2],by simp [h1,h2]⟩
  ·exact ⟨3,by simp [h1],by simp [h1]⟩
def Qu (g:api_Grid):Prop:=inB g.X (-1048576) 1048576∧inB g.Y (-1048576) 1048576∧inB g.Size 1 10000∧inB g.Wide 1 64∧inB g.High 1 64
theorem Wb (g:api_Grid):Bh g=0↔Qu g:=by
 unfold Bh Dk Qu
 simp only [T7]
 by_cases h1:inB g.X (-1048576) 1048576
 ·by_cases h2:inB g.Y (-1048576) 1048576
  ·by_cases h3:inB g.Size 1 10000
   ·by_cases h4:inB g.Wide 1 64
    ·by_cases h5:inB g.High 1 64<;>simp [h1,h2,h3,h4,h5]
    ·simp [h1,h2,h3,h4]
   ·simp [h1,h2,h3]
  ·simp [h1,h2]
 ·simp [h1]
def Ks (s:api_Span) (lo hi:Int):Prop:=lo≤s.Lo∧s.Lo≤s.Hi∧s.Hi≤hi
instance (s:api_Span) (lo hi:Int):Decidable (Ks s lo hi):=by unfold Ks;infer_instance
theorem Sf {s:api_Span} {lo hi:Int}:A9 s lo hi=decide (Ks s lo hi):=by
 unfold A9 Ks
 by_cases h:lo≤s.Lo
 ·by_cases h2:s.Lo≤s.Hi<;>simp [h,h2]
 ·simp [h]
theorem P3 {x lo hi:Int}:Au x lo hi=decide (inB x lo hi):=by
 unfold Au inB
 by_cases h:lo≤x<;>simp [h]
def Hs (s:api_Span):Prop:=-32768≤s.Lo∧s.Lo≤32767∧s.Lo≤s.Hi∧s.Hi≤s.Lo+65535
instance (s:api_Span):Decidable (Hs s):=by unfold Hs;infer_instance
theorem Z9 (p:List api_Span) (k2:Int→Option Bool) (i:Nat) (u:api_Span) (h:p[i]? = some u) (hi:i<p.length) (h9:i≤100):Fm p k2 i=bif decide (Hs u) then k2 (i+1) else some false:=by
 have e1:-9000000000000000000≤(i:Int)+1∧(i:Int)+1≤9000000000000000000:=by omega
 rw [Fm,B6 (dT (by omega)),El i u rfl h]
 simp only [P3]
 by_cases h1:inB u.Lo (-32768) 32767
 ·have h1':=h1
  obtain ⟨a,b⟩:=h1'
  simp only [dT h1]
  rw [gdT (by rfl),ckb (by omega),gdT (by rfl),ckb (by omega)]
  obtain ⟨z,hz⟩:∃z,z=u.Lo+65536-1:=⟨_,rfl⟩
  rw [←hz]
  by_cases h2:inB u.Hi u.Lo z
  ·have ht:Hs u:=⟨a,b,h2.1,by have:=h2.2;omega⟩
   rw [dT h2,dT ht]
   rw [B3 (by rfl),B6 (by rfl),ckb e1]
  ·have ht:¬Hs u:=fun h=>h2 ⟨h.2.2.1,by have:=h.2.2.2;omega⟩
   rw [dF h2,dF ht,B6 (by rfl),B3 (by rfl)]
 ·simp only [dF h1]
  rw [gdF (by rfl),sb,gdF (by rfl),sb,dF (show ¬Hs u from fun h=>h1 ⟨h.1,h.2.1⟩),B6 (by rfl),B3 (by rfl)]
theorem Vx {F:Nat} (hF:10≤F) (a b c:api_Span):J9 F [a,b,c]=some (decide (Hs a∧Hs b∧Hs c)):=by
 obtain ⟨G,rfl⟩:∃G,F=G+4:=⟨F-4,by omega⟩
 rw [J9,Dx,show (0:Int)=((0:Nat):Int) from rfl,Z9 _ _ 0 a rfl (by simp) (by decide)]
 by_cases h1:Hs a
 ·rw [B6 (dT h1),show (((0:Nat):Int)+1)=((1:Nat):Int) from rfl,Dx,Z9 _ _ 1 b rfl (by simp) (by decide)]
  by_cases h2:Hs b
  ·rw [B6 (dT h2),show (((1:Nat):Int)+1)=((2:Nat):Int) from rfl,Dx,Z9 _ _ 2 c rfl (by simp) (by decide)]
   by_cases h3:Hs c
   ·rw [B6 (dT h3),Dx,Fm,B3 (dF (by simp)),J5]
    simp [h1,h2,h3]
   ·rw [B3 (dF h3)];simp [h3]
  ·rw [B3 (dF h2)];simp [h2]
 ·rw [B3 (dF h1)];simp [h1]
def z0 (s:api_Span):Prop:=s.Lo=0∧s.Hi=0
def vEcho (x:api_Echo):Prop:=(x.Kind=1∧Ks x.Power 0 1073741824∧x.Power.Lo=0∧z0 x.Steps.1∧z0 x.Steps.2∧x.Spread=0∧z0 x.Ratio∧z0 x.Match∧z0 x.Turn) ∨
 ((x.Kind=2∨x.Kind=3)∧Ks x.Power 0 1073741824∧x.Power.Lo>0∧Ks x.Ratio 0 1000000∧Ks x.Match 0 1000∧inB x.Spread 0 65535∧(x.Kind=2→z0 x.Steps.1∧z0 x.Steps.2∧z0 x.Turn)∧(x.Kind=3→Hs x.Steps.1∧Hs x.Steps.2∧Hs x.Turn))
theorem A0f (c:Bool):Dr c=some (if c=true then 0 else 3):=by cases c<;>rfl
theorem Zm {F:Nat} (hF:10≤F) (x:api_Echo):∃e,Hb F x=some e∧(e=0↔vEcho x):=by
 unfold Hb vEcho
 simp only [A0f,Sf]
 by_cases h1:x.Kind=1
 ·rw [B6 (by simp [h1])]
  refine ⟨_,rfl,?_⟩
  simp only [h1,z0]
  by_cases h2:Ks x.Power 0 1073741824
  ·simp [h2,and_assoc]
  ·simp [h2]
 ·rw [B3 (by simp [h1])]
  have hK:∀c:Bool,c=(decide (x.Kind=2∨x.Kind=3))→∃e,D6 F x c=some e∧(e=0↔((x.Kind=2∨x.Kind=3)∧Ks x.Power 0 1073741824∧x.Power.Lo>0∧Ks x.Ratio 0 1000000∧Ks x.Match 0 1000∧inB x.Spread 0 65535∧(x.Kind=2→z0 x.Steps.1∧z0 x.Steps.2∧z0 x.Turn)∧(x.Kind=3→Hs x.Steps.1∧Hs x.Steps.2∧Hs x.Turn))):=by
   intro c hc
   unfold D6
   simp only [A0f,Sf,P3]
   by_cases h23:x.Kind=2∨x.Kind=3
   ·rw [hc,B6 (dT h23)]
    by_cases h2:x.Kind=2
    ·rw [B6 (by simp [h2])]
     refine ⟨_,rfl,?_⟩
     simp only [h2,z0]
     by_cases a1:Ks x.Power 0 1073741824
     ·by_cases a2:x.Power.Lo>0
      ·by_cases a3:Ks x.Ratio 0 1000000
       ·by_cases a4:Ks x.Match 0 1000
        ·by_cases a5:inB x.Spread 0 65535
         ·simp [a1,a2,a3,a4,a5,and_assoc]
         ·simp [a1,a2,a3,a4,a5]
        ·simp [a1,a2,a3,a4]
       ·simp [a1,a2,a3]
      ·simp [a1,a2]
     ·simp [a1]
    ·have h3:x.Kind=3:=h23.resolve_left h2
     rw [B3 (by simp [h2])]
     by_cases a1:Ks x.Power 0 1073741824
     ·by_cases a2:x.Power.Lo>0
      ·by_cases a3:Ks x.Ratio 0 1000000
       ·by_cases a4:Ks x.Match 0 1000
        ·by_cases a5:inB x.Spread 0 65535
         ·rw [B6 (by simp [a1,a2,a3,a4,a5]),show (⟨x.Steps.1.Lo,x.Steps.1.Hi⟩:api_Span)=x.Steps.1 from rfl,show (⟨x.Steps.2.Lo,x.Steps.2.Hi⟩:api_Span)=x.Steps.2 from rfl,Vx hF,sb]
          refine ⟨_,rfl,?_⟩
          simp [h3,a1,a2,a3,a4,a5]
         ·rw [B3 (by simp [a5])];exact ⟨_,rfl,by simp [a5]⟩
        ·rw [B3 (by simp [a4])];exact ⟨_,rfl,by simp [a4]⟩
       ·rw [B3 (by simp [a3])];exact ⟨_,rfl,by simp [a3]⟩
      ·rw [B3 (by simp [a2])];exact ⟨_,rfl,by simp [a2]⟩
     ·rw [B3 (by simp [a1])];exact ⟨_,rfl,by simp [a1]⟩
   ·rw [hc,B3 (dF h23)]
    exact ⟨2,rfl,by simp [h23]⟩
  obtain ⟨e,he,hv⟩:∃e,(bif x.Kind==2 then D6 F x (x.Kind==2) else D6 F x (x.Kind==3))=some e∧(e=0↔_):=by
   by_cases h2:x.Kind=2
   ·rw [B6 (by simp [h2])];exact hK _ (by simp [h2])
   ·rw [B3 (by simp [h2])];exact hK _ (by simp [h2];rfl)
  exact ⟨e,he,hv.trans ⟨fun h=>.inr h,fun h=>h.resolve_left fun h=>h1 h.1⟩⟩
end Go.Proofs.Ytifbomimeodibaa
namespace Go.Proofs.Ytifbomimeodibaa
open Go Go.RowKit Go.Eng
set_option maxRecDepth 10000
set_option linter.unusedVariables false
set_option linter.unusedSimpArgs false
theorem A1n {F:Nat} (hF:5000≤F) (x270:Int) (k3:Int→Option Int) (u:List api_Echo) (hu:u.length≤1000):∀(m i:Nat),u.length-i<m→i≤u.length →
  ((∀x∈u.drop i,vEcho x)∧Dg F x270 k3 u m i=Fb x270 k3)∨(∃e,e≠0∧Dg F x270 k3 u m i=some e∧¬∀x∈u.drop i,vEcho x):=by
 intro m
 induction m with
 | zero=>intro i h;omega
 | succ m ih =>
  intro i h hi
  rw [Dg,Gk]
  by_cases hb:i<u.length
  ·have hd:=List.drop_eq_getElem_cons hb
   obtain ⟨e,he,hv⟩:=Zm (F:=F) (by omega) u[i]
   rw [B6 (dT (by omega)),El i u[i] rfl (List.getElem?_eq_getElem hb)]
   rw [show (⟨u[i].Kind,u[i].Power,(⟨u[i].Steps.1.Lo,u[i].Steps.1.Hi⟩,⟨u[i].Steps.2.Lo,u[i].Steps.2.Hi⟩),u[i].Spread,u[i].Ratio,u[i].Match,u[i].Turn⟩:api_Echo)=u[i] from rfl,he,sb]
   by_cases h0:e=0
   ·rw [B3 (by simp [h0]),ckb (by omega)]
    rcases ih (i+1) (by omega) (by omega) with ⟨h1,h2⟩|⟨e',h1,h2,h3⟩
    ·refine .inl ⟨?_,h2⟩
     rw [hd]
     intro x hx
     rcases List.mem_cons.1 hx with rfl|hx
     ·exact hv.1 h0
     ·exact h1 x hx
    ·exact .inr ⟨e',h1,h2,fun h=>h3 fun x hx=>h x (by rw [hd];exact List.mem_cons_of_mem _ hx)⟩
   ·rw [B6 (by simp [h0])]
    exact .inr ⟨e,h0,rfl,fun h=>h0 (hv.2 (h u[i] (by rw [hd];exact List.mem_cons_self ..)))⟩
  ·rw [B3 (dF (by omega))]
   exact .inl ⟨fun x hx=>(by rw [List.drop_of_length_le (by omega)] at hx;cases hx),rfl⟩
theorem A03 {F:Nat} (hF:5000≤F) (p:api_Sweep) (hp:p.Rays.length≤1000) (hr:∀r∈p.Rays,r.length≤1000):∀(m i:Nat),p.Rays.length-i<m→i≤p.Rays.length →
  ∃e,Df F p m i=some e∧(e=0↔∀r∈p.Rays.drop i,∀x∈r,vEcho x):=by
 intro m
 induction m with
 | zero=>intro i h;omega
 | succ m ih =>
  intro i h hi
  rw [Df,Gj]
  by_cases hb:i<p.Rays.length
  ·have hd:=List.drop_eq_getElem_cons hb
   have hl:=hr p.Rays[i] (List.getElem_mem hb)
   rw [B6 (dT (by omega)),El i p.Rays[i] rfl (List.getElem?_eq_getElem hb)]
   rcases A1n hF i (Df F p m) p.Rays[i] hl F 0 (by omega) (by omega) with ⟨h1,h2⟩|⟨e,h1,h2,h3⟩
   ·rw [show (0:Int)=((0:Nat):Int) from rfl,h2,Fb,ckb (by omega)]
    obtain ⟨e,he,hv⟩:=ih (i+1) (by omega) (by omega)
    refine ⟨e,he,hv.trans ?_⟩
    rw [hd]
    constructor
    ·intro h r hr'
     rcases List.mem_cons.1 hr' with rfl|hr'
     ·exact h1
     ·exact h r hr'
    ·exact fun h r hr'=>h r (List.mem_cons_of_mem _ hr')
   ·refine ⟨e,h2,⟨fun h=>absurd h h1,fun h=>absurd (h p.Rays[i] (by rw [hd];exact List.mem_cons_self ..)) h3⟩⟩
  ·rw [B3 (dF (by omega)),Gn]
   exact ⟨0,rfl,by simp [List.drop_of_length_le (show p.Rays.length≤i by omega)]⟩
theorem Y8 {F:Nat} (hF:5000≤F) (p:api_Sweep) (hp:p.Rays.length≤1000) (hg:p.Site.Gates≤200):∀(m i:Nat),p.Rays.length-i<m→i≤p.Rays.length→(∀r∈p.Rays.take i,(r.length:Int)=p.Site.Gates) →
  ∃e,Ed F p m i=some e∧(e=0↔(∀r∈p.Rays,(r.length:Int)=p.Site.Gates)∧∀r∈p.Rays,∀x∈r,vEcho x):=by
 intro m
 induction m with
 | zero=>intro i h;omega
 | succ m ih =>
  intro i h hi hpre
  rw [Ed,Gl]
  by_cases hb:i<p.Rays.length
  ·rw [B6 (dT (by omega)),El i p.Rays[i] rfl (List.getElem?_eq_getElem hb)]
   by_cases hl:(p.Rays[i].length:Int)=p.Site.Gates
   ·rw [B3 (by simp [hl]),ckb (by omega)]
    refine ih (i+1) (by omega) (by omega) fun r hr=>?_
    rw [List.take_succ_eq_append_getElem hb] at hr
    rcases List.mem_append.1 hr with hr|hr
    ·exact hpre r hr
    ·simp at hr;rw [hr];exact hl
   ·rw [B6 (by simp [hl])]
    exact ⟨11,rfl,⟨fun h=>by simp at h,fun h=>absurd (h.1 p.Rays[i] (List.getElem_mem hb)) hl⟩⟩
  ·rw [B3 (dF (by omega)),Gm]
   rw [List.take_of_length_le (by omega)] at hpre
   obtain ⟨e,he,hv⟩:=A03 hF p hp (fun r hr=>by have:=hpre r hr;omega) F 0 (by omega) (by omega)
   exact ⟨e,he,hv.trans ⟨fun h=>⟨hpre,h⟩,fun h=>h.2⟩⟩
def vSweep (s:api_Sweep):Prop:=Rm s.Site∧inB s.Tilt 0 256∧inB s.Time 0 4294967296∧(s.Rays.length:Int)=4*s.Site.Rose∧(∀r∈s.Rays,(r.length:Int)=s.Site.Gates)∧∀r∈s.Rays,∀x∈r,vEcho x
theorem Z7 {F:Nat} (hF:5000≤F) (p:api_Sweep):∃e,Gu F p=some e∧(e=0↔vSweep p):=by
 obtain ⟨e,he,hv⟩:=Wq F p.Site
 unfold Gu vSweep
 rw [he,sb]
 simp only [P3]
 by_cases h0:e=0
 ·have hs:=hv.1 h0
  obtain ⟨_,_,_,_,⟨r1,r2⟩,⟨g1,g2⟩,_⟩:=hv.1 h0
  rw [B3 (by simp [h0])]
  by_cases h1:inB p.Tilt 0 256
  ·by_cases h2:inB p.Time 0 4294967296
   ·rw [B3 (by simp [h1,h2]),ckb (by omega)]
    by_cases h3:(p.Rays.length:Int)=4*p.Site.Rose
    ·rw [B3 (by simp [h3])]
     obtain ⟨e',he',hv'⟩:=Y8 hF p (by omega) g2 F 0 (by omega) (by omega) (fun r hr=>by simp at hr)
     exact ⟨e',he',hv'.trans ⟨fun h=>⟨hs,h1,h2,h3,h.1,h.2⟩,fun h=>⟨h.2.2.2.2.1,h.2.2.2.2.2⟩⟩⟩
    ·rw [B6 (by simp [h3])]
     exact ⟨11,rfl,⟨fun h=>by simp at h,fun h=>absurd h.2.2.2.1 h3⟩⟩
   ·rw [B6 (by simp [h2])]
    exact ⟨3,rfl,⟨fun h=>by simp at h,fun h=>absurd h.2.2.1 h2⟩⟩
  ·rw [B6 (by simp [h1])]
   exact ⟨3,rfl,⟨fun h=>by simp at h,fun h=>absurd h.2.1 h1⟩⟩
 ·rw [B6 (by simp [h0])]
  exact ⟨e,rfl,⟨fun h=>absurd h h0,fun h=>absurd (hv.2 h.1) h0⟩⟩
def vVal (v:api_Span):Prop:=0≤v.Lo∧v.Lo≤v.Hi∧v.Hi≤1073741824
theorem A0a {p:api_Field} (hp:p.Vals.length≤1000000):∀(m i:Nat),p.Vals.length-i<m→i≤p.Vals.length →
  ∃e,He p 1073741824 m i=some e∧(e=0↔∀v∈p.Vals.drop i,vVal v):=by
 intro m
 induction m with
 | zero=>intro i h;omega
 | succ m ih =>
  intro i h hi
  rw [He,Ky]
  by_cases hb:i<p.Vals.length
  ·have hd:=List.drop_eq_getElem_cons hb
   rw [B6 (dT (by omega)),El i p.Vals[i] rfl (List.getElem?_eq_getElem hb)]
   by_cases hv:vVal p.Vals[i]
   ·obtain ⟨a,b,c⟩:=hv
    rw [B3 (by rw [dF (show ¬p.Vals[i].Lo<0 by omega),dF (show ¬p.Vals[i].Hi<p.Vals[i].Lo by omega),dF (show ¬p.Vals[i].Hi>1073741824 by omega)];rfl),ckb (by omega)]
    obtain ⟨e,he,hv⟩:=ih (i+1) (by omega) (by omega)
    refine ⟨e,he,hv.trans ?_⟩
    rw [hd]
    constructor
    ·intro h v hv'
     rcases List.mem_cons.1 hv' with rfl|hv'
     ·exact ⟨a,b,c⟩
     ·exact h v hv'
    ·exact fun h v hv'=>h v (List.mem_cons_of_mem _ hv')
   ·rw [B6 ?_]
    ·exact ⟨3,rfl,⟨fun h=>by simp at h,fun h=>absurd (h p.Vals[i] (by rw [hd];exact List.mem_cons_self ..)) hv⟩⟩
    ·by_cases h1:p.Vals[i].Lo<0
     ·simp [h1]
     ·by_cases h2:p.Vals[i].Hi<p.Vals[i].Lo
      ·simp [h2]
      ·have:p.Vals[i].Hi>1073741824:=by
        rcases Int.lt_or_le 1073741824 p.Vals[i].Hi with h|h
        ·exact h
        ·exact absurd ⟨by omega,by omega,h⟩ hv
       simp [this]
  ·rw [B3 (dF (by omega)),Kz]
   exact ⟨0,rfl,by simp [List.drop_of_length_le (show p.Vals.length≤i by omega)]⟩
def Rb (f:volume_field):Prop:=Qn f.key=true∧inB f.time 0 4294967296∧Qu f.Field.Grid∧(f.Field.Vals.length:Int)=f.Field.Grid.Wide*f.Field.Grid.High∧∀v∈f.Field.Vals,vVal v
theorem Nu {g:api_Grid} (h:Qu g):0≤g.Wide*g.High∧g.Wide*g.High≤4096:=by
 obtain ⟨_,_,_,⟨a,b⟩,⟨c,d⟩⟩:=h
 have h1:g.Wide*g.High≤64*g.High:=Int.mul_le_mul_of_nonneg_right b (by omega)
 exact ⟨Int.mul_nonneg (by omega) (by omega),by omega⟩
theorem Y6 {F:Nat} (hF:5000≤F) (f:volume_field):∃e,D7 F f=some e∧(e=0↔Rb f):=by
 unfold D7 Rb Jd Mz
 rw [Wh,sb]
 cases Qn f.key with
 | false=>exact ⟨10,by rw [B6 (by rfl)],by simp⟩
 | true =>
  rw [B3 (by rfl)]
  by_cases h1:inB f.time 0 4294967296
  ·rw [B3 (by have:=h1.1;have:=h1.2;rw [dF (show ¬f.time<0 by omega),dF (show ¬f.time>4294967296 by omega)];rfl)]
   have hg:=Wb f.Field.Grid
   by_cases h2:Bh f.Field.Grid=0
   ·obtain ⟨c1,c2⟩:=Nu (hg.1 h2)
    rw [B3 (by simp [h2]),ckb (by omega)]
    by_cases h3:(f.Field.Vals.length:Int)=f.Field.Grid.Wide*f.Field.Grid.High
    ·rw [B3 (by simp [h3])]
     obtain ⟨e,he,hv⟩:=A0a (p:=f.Field) (by omega) F 0 (by omega) (by omega)
     rw [show (0:Int)=((0:Nat):Int) from rfl,he]
     exact ⟨e,rfl,hv.trans ⟨fun h=>⟨rfl,h1,hg.1 h2,h3,h⟩,fun h=>h.2.2.2.2⟩⟩
    ·rw [B6 (by simp [h3])]
     exact ⟨11,rfl,⟨fun h=>by simp at h,fun h=>absurd h.2.2.2.1 h3⟩⟩
   ·rw [B6 (by simp [h2])]
    exact ⟨_,rfl,⟨fun h=>absurd h h2,fun h=>absurd (hg.2 h.2.2.1) h2⟩⟩
  ·rw [B6 ?_]
   ·exact ⟨3,rfl,⟨fun h=>by simp at h,fun h=>absurd h.2.1 h1⟩⟩
   ·by_cases h:f.time<0
    ·simp [h]
    ·have:f.time>4294967296:=by
      rcases Int.lt_or_le 4294967296 f.time with h|h
      ·exact h
      ·exact absurd ⟨by omega,h⟩ h1
     simp [this]
def V9 (n:volume_note):Prop:=inB n.time 0 4294967296∧n.text.size≤200∧∀c∈sby n.text,32≤c∧c≤126
theorem Xy (l:List Int) (hl:l.length≤1000000):∀(m i:Nat),l.length-i<m→i≤l.length →
  ∃e,E2 l m i=some e∧(e=0↔∀c∈l.drop i,32≤c∧c≤126):=by
 intro m
 induction m with
 | zero=>intro i h;omega
 | succ m ih =>
  intro i h hi
  rw [E2,G8]
  by_cases hb:i<l.length
  ·have hd:=List.drop_eq_getElem_cons hb
   rw [B6 (dT (by omega)),El i l[i] rfl (List.getElem?_eq_getElem hb)]
   by_cases hv:32≤l[i]∧l[i]≤126
   ·rw [B3 (by rw [dF (show ¬l[i]<32 by omega),dF (show ¬l[i]>126 by omega)];rfl),ckb (by omega)]
    obtain ⟨e,he,hv'⟩:=ih (i+1) (by omega) (by omega)
    refine ⟨e,he,hv'.trans ?_⟩
    rw [hd]
    constructor
    ·intro h v hv'
     rcases List.mem_cons.1 hv' with rfl|hv'
     ·exact hv
     ·exact h v hv'
    ·exact fun h v hv'=>h v (List.mem_cons_of_mem _ hv')
   ·rw [B6 ?_]
    ·exact ⟨7,rfl,⟨fun h=>by simp at h,fun h=>absurd (h l[i] (by rw [hd];exact List.mem_cons_self ..)) hv⟩⟩
    ·by_cases h1:l[i]<32
     ·simp [h1]
     ·have:l[i]>126:=by omega
      simp [this]
  ·rw [B3 (dF (by omega)),G9]
   exact ⟨0,rfl,by simp [List.drop_of_length_le (show l.length≤i by omega)]⟩
theorem Zr {F:Nat} (hF:5000≤F) (n:volume_note):∃e,Dm F n=some e∧(e=0↔V9 n):=by
 unfold Dm V9
 by_cases h1:inB n.time 0 4294967296
 ·rw [B3 (by have:=h1.1;have:=h1.2;rw [dF (show ¬n.time<0 by omega),dF (show ¬n.time>4294967296 by omega)];rfl)]
  by_cases h2:n.text.size≤200
  ·have hs:s2b n.text=some (sby n.text):=by unfold s2b;rw [if_pos (by omega)]
   rw [B3 (dF (by omega)),hs,sb]
   obtain ⟨e,he,hv⟩:=Xy (sby n.text) (by rw [Kb];omega) F 0 (by rw [Kb];omega) (by omega)
   exact ⟨e,he,hv.trans ⟨fun h=>⟨h1,h2,h⟩,fun h=>h.2.2⟩⟩
  ·rw [B6 (dT (by omega))]
   exact ⟨8,rfl,⟨fun h=>by simp at h,fun h=>absurd h.2.1 h2⟩⟩
 ·rw [B6 ?_]
  ·exact ⟨3,rfl,⟨fun h=>by simp at h,fun h=>absurd h.1 h1⟩⟩
  ·by_cases h:n.time<0
   ·simp [h]
   ·have:n.time>4294967296:=by
     rcases Int.lt_or_le 4294967296 n.time with h|h
     ·exact h
     ·exact absurd ⟨by omega,h⟩ h1
    simp [this]
def vT (t:volume_thing):Prop:=t.cs False (fun s=>vSweep s.Sweep) Rb V9
theorem Uj {F:Nat} (hF:5000≤F) {t:volume_thing} (ht:t≠.nil_):∃e,Du F t=some e∧(e=0↔vT t):=by
 cases t with
 | nil_=>exact absurd rfl ht
 | ic112 s =>
  obtain ⟨e,he,hv⟩:=Z7 (F:=F) (by omega) s.Sweep
  exact ⟨e,by show D8 F s=_;rw [D8,he];rfl,hv⟩
 | ic114 f=>exact Y6 hF f
 | ic116 n=>exact Zr (by omega) n
theorem Kt {x lo hi:Int} (h:inB x lo hi) (h0:0≤lo) (h1:hi≤4611686018427387904):okN x:=⟨by have:=h.1;omega,by have:=h.2;omega⟩
theorem Pj {s:ByteArray} (h:Qn s=true):s.size≤12:=by
 unfold Qn at h
 simp only [Bool.and_eq_true,decide_eq_true_eq] at h
 omega
theorem vEcho.ok {x:api_Echo} (h:vEcho x):okE x:=by
 have hz:∀{s:api_Span},z0 s→okS s:=fun {s} h=>⟨by have:=h.1;omega,by have:=h.1;have:=h.2;omega,by have:=h.2;omega⟩
 have hi:∀{s:api_Span} {lo hi:Int},Ks s lo hi→-1000000000000000000≤lo→hi≤1000000000000000000→okS s:=fun {s lo hi} h h1 h2=>⟨by have:=h.1;omega,h.2.1,by have:=h.2.2;omega⟩
 have ht:∀{s:api_Span},Hs s→okS s:=fun {s} h=>⟨by have:=h.1;omega,h.2.2.1,by have:=h.2.1;have:=h.2.2.2;omega⟩
 rcases h with ⟨a,b,c,d,e,f,g,h,i⟩|⟨a,b,c,d,e,f,g,h⟩
 ·exact ⟨⟨by omega,by omega⟩,⟨by have:=b.1;have:=b.2.1;omega,by have:=b.2.2;omega⟩,⟨by omega,by omega⟩,hi b (by decide) (by decide),hz g,hz h,hz d,hz e,hz i⟩
 ·have hh:okS x.Steps.1∧okS x.Steps.2∧okS x.Turn:=by
   rcases a with a|a
   ·obtain ⟨u,v,w⟩:=g a;exact ⟨hz u,hz v,hz w⟩
   ·obtain ⟨u,v,w⟩:=h a;exact ⟨ht u,ht v,ht w⟩
  exact ⟨⟨by omega,by omega⟩,⟨by have:=b.1;have:=b.2.1;omega,by have:=b.2.2;omega⟩,Kt f (by decide) (by decide),hi b (by decide) (by decide),hi d (by decide) (by decide),hi e (by decide) (by decide),hh.1,hh.2.1,hh.2.2⟩
theorem W9 {α:Type} {l:List (List α)} {n:Nat} (h:∀r∈l,r.length=n):l.flatten.length=l.length*n:=by
 induction l with
 | nil=>simp
 | cons r l ih =>
  rw [List.flatten_cons,List.length_append,h r (by simp),ih fun r hr=>h r (by simp [hr]),List.length_cons,Nat.add_mul,Nat.one_mul];omega
theorem vSweep.len {s:api_Sweep} (h:vSweep s):(s.Rays.flatten.length:Int)=4*s.Site.Rose*s.Site.Gates:=by
 obtain ⟨_,_,_,h1,h2,_⟩:=h
 have hg:∀r∈s.Rays,r.length=s.Site.Gates.toNat:=fun r hr=>by have:=h2 r hr;omega
 rw [W9 hg]
 cases hr:s.Rays with
 | nil=>rw [hr] at h1;simp at h1;simp;rw [show s.Site.Rose=0 by omega];simp
 | cons r l =>
  have:=h2 r (by rw [hr];simp)
  rw [←hr,←h1]
  push_cast
  congr 1
  omega
theorem vT.ok {t:volume_thing} (h:vT t):okT t:=by
 cases t with
 | nil_=>exact h
 | ic112 s =>
  have hv:vSweep s.Sweep:=h
  have hlen:=hv.len
  obtain ⟨⟨n,x,y,z,r,g,st,w⟩,ti,tm,h1,h2,h3⟩:=hv
  have hm:4*s.Sweep.Site.Rose*s.Sweep.Site.Gates≤360*s.Sweep.Site.Gates:=Int.mul_le_mul_of_nonneg_right (by have:=r.2;omega) (by have:=g.1;omega)
  refine ⟨⟨by have:=Pj n;omega,⟨by have:=x.1;omega,by have:=x.2;omega⟩,⟨by have:=y.1;omega,by have:=y.2;omega⟩,Kt z (by decide) (by decide),Kt r (by decide) (by decide),Kt g (by decide) (by decide),Kt st (by decide) (by decide),Kt w (by decide) (by decide)⟩,Kt ti (by decide) (by decide),Kt tm (by decide) (by decide),by have:=r.2;omega,by have:=g.2;omega,fun r hr x hx=>(h3 r hr x hx).ok⟩
 | ic114 f =>
  obtain ⟨n,tm,hg,h1,h2⟩:=(show Rb f from h)
  have:=Nu hg
  obtain ⟨x,y,z,r,g⟩:=hg
  exact ⟨by have:=Pj n;omega,Kt tm (by decide) (by decide),⟨by have:=x.1;omega,by have:=x.2;omega⟩,⟨by have:=y.1;omega,by have:=y.2;omega⟩,Kt z (by decide) (by decide),Kt r (by decide) (by decide),Kt g (by decide) (by decide),by omega,fun v hv=>by obtain ⟨a,b,c⟩:=h2 v hv;exact ⟨by omega,b,by omega⟩⟩
 | ic116 n =>
  obtain ⟨tm,h1,h2⟩:=(show V9 n from h)
  exact ⟨Kt tm (by decide) (by decide),by omega⟩
end Go.Proofs.Ytifbomimeodibaa
namespace Go.Proofs.Ytifbomimeodibaa
open Go Go.RowKit Go.Eng
set_option maxRecDepth 10000
set_option linter.unusedVariables false
set_option linter.unusedSimpArgs false
instance (g:api_Grid):Decidable (Qu g):=by unfold Qu;infer_instance
def Ta {α:Type} (g:Nat):Nat→List α→List (List α)
 | 0,_=>[]
 | n+1,l=>l.take g::Ta g n (l.drop g)
def Sw (l:List Int):Option (volume_thing×List Int):=(rT l).bind fun nm=>(rI nm.2).bind fun x=>(rI x.2).bind fun y=>(rN y.2).bind fun z=>(rN z.2).bind fun ro=>(rN ro.2).bind fun g=>(rN g.2).bind fun st=>(rN st.2).bind fun w=>(rN w.2).bind fun ti=>(rN ti.2).bind fun tm =>
 if Rm ⟨nm.1,x.1,y.1,z.1,ro.1,g.1,st.1,w.1⟩ then (rL rE ((4*ro.1*g.1).toNat+1) (4*ro.1*g.1).toNat e0 tm.2).bind fun all=>some (.ic112 ⟨⟨⟨nm.1,x.1,y.1,z.1,ro.1,g.1,st.1,w.1⟩,ti.1,tm.1,Ta g.1.toNat (4*ro.1).toNat all.1⟩⟩,all.2) else none
def Su (l:List Int):Option (volume_thing×List Int):=(rT l).bind fun nm=>(rN nm.2).bind fun tm=>(rI tm.2).bind fun x=>(rI x.2).bind fun y=>(rN y.2).bind fun sz=>(rN sz.2).bind fun wd=>(rN wd.2).bind fun hi =>
 if Qu ⟨x.1,y.1,sz.1,wd.1,hi.1⟩ then (rL rS ((wd.1*hi.1).toNat+1) (wd.1*hi.1).toNat ⟨0,0⟩ hi.2).bind fun all=>some (.ic114 ⟨nm.1,tm.1,⟨⟨x.1,y.1,sz.1,wd.1,hi.1⟩,all.1⟩⟩,all.2) else none
def Uu (l:List Int):Option (volume_thing×List Int):=(rN l).bind fun tm=>(rT tm.2).bind fun tx=>some (.ic116 ⟨tm.1,tx.1⟩,tx.2)
def Li (l:List Int):Option (volume_thing×List Int):=(rN l).bind fun k=>if k.1=1 then Sw k.2 else if k.1=2 then Su k.2 else if k.1=3 then Uu k.2 else none
theorem Zy (a:ByteArray×volume_reader) (b c:Int×volume_reader) (x1 x2 x3 x4 x5 x6 x7:Int) (y:List api_Echo×volume_reader) (hg:1≤x3∧x3≤1000):∀(m n:Nat) (acc:List (List api_Echo)) (l:List api_Echo),n<m→l.length=n*x3.toNat→n+acc.length≤1000 →
  Cb a b c x1 x2 x3 x4 x5 x6 x7 y m acc l=Dz a b c x1 x2 x3 x4 x5 x6 x7 y (acc++Ta x3.toNat n l):=by
 intro m
 induction m with
 | zero=>intro n acc l h;omega
 | succ m ih =>
  intro n acc l h hl hn
  rw [Cb,F3]
  cases n with
  | zero =>
   rw [B3 (dF (by omega)),Ta,List.append_nil]
  | succ n =>
   rw [Nat.add_mul,Nat.one_mul] at hl
   rw [B6 (dT (by omega)),Rg x3.toNat rfl (by omega) (by omega),Lv (by simp;omega) (by decide),Ju x3.toNat (by omega) rfl (by omega)]
   rw [ih n (acc++[l.take x3.toNat]) (l.drop x3.toNat) (by omega) (by simp;omega) (by simp;omega)]
   rw [Ta,List.append_assoc]
   rfl
theorem U9 (F:Nat) (e:Int):H3 F e=some (if e=0 then .ok () else .error W7):=by
 unfold H3
 by_cases h:e=0
 ·rw [B3 (by simp [h]),if_pos h]
 ·rw [B6 (by simp [h]),if_neg h];rfl
theorem Ys {F:Nat} (hF:200000≤F) (nm:ByteArray) (x y z ro g st w ti tm:Int) (r0 r1 r2:volume_reader) {l:List Int} (hl:By l) :
  Rd (Dy F (nm,r0) (x,r1) (y,r2) z ro g st w ti tm l) (if Rm ⟨nm,x,y,z,ro,g,st,w⟩ then (rL rE ((4*ro*g).toNat+1) (4*ro*g).toNat e0 l).bind fun all=>some (.ic112 ⟨⟨⟨nm,x,y,z,ro,g,st,w⟩,ti,tm,Ta g.toNat (4*ro).toNat all.1⟩⟩,all.2) else none):=by
 unfold Dy
 obtain ⟨e,he,hv⟩:=Wq F ⟨nm,x,y,z,ro,g,st,w⟩
 rw [he,sb,U9,sb]
 by_cases h:e=0
 ·rw [if_pos h,if_pos (hv.1 h)]
  obtain ⟨_,_,_,_,⟨b1,b2⟩,⟨b3,b4⟩,_⟩:=hv.1 h
  simp only at b1 b2 b3 b4
  have hm:4*ro*g≤360*g:=Int.mul_le_mul_of_nonneg_right (by omega) (by omega)
  have hm0:0≤4*ro*g:=Int.mul_nonneg (by omega) (by omega)
  show Rd ((ck (4*ro)).bind _) _
  rw [ckb (by omega),ckb (by omega)]
  have hr:=Yr hF (N:=(4*ro*g).toNat) (by omega) hl e0
  rw [show (((4*ro*g).toNat:Nat):Int)=4*ro*g by omega] at hr
  refine Rd.bind hr fun all r h2=>?_
  have hlen:=(A1g (fun l x r hb h=>Yp hb h) _ _ _ _ _ _ hl h2).1
  have hl2:all.length=(4*ro).toNat*g.toNat:=by
   rw [hlen]
   have:(4*ro*g)=(((4*ro).toNat*g.toNat:Nat):Int):=by
    push_cast
    rw [show ((4*ro).toNat:Int)=4*ro by omega,show (g.toNat:Int)=g by omega]
   omega
  show Rd (Cb _ _ _ z ro g st w ti tm _ F [] all) _
  rw [Zy _ _ _ z ro g st w ti tm _ ⟨b3,by omega⟩ F (4*ro).toNat [] all (by omega) hl2 (by simp;omega),Dz]
  exact Rd.ok
 ·rw [if_neg h,if_neg (fun h'=>h (hv.2 h'))]
  exact Rd.bad
theorem Zx {F:Nat} (hF:200000≤F) {l:List Int} (hl:By l):Rd (Cg F ⟨l⟩) (Li l):=by
 have h1000:1000≤F:=by omega
 rw [Cg,Li]
 refine (Dc h1000 hl).bind fun k r h=>?_
 have hb:=hl.suf (G6 hl h).2.2
 show Rd (bif k==1 then _ else bif k==2 then _ else bif k==3 then _ else _) (if k=1 then _ else if k=2 then _ else if k=3 then _ else _)
 by_cases k1:k=1
 ·rw [if_pos k1,B6 (by simp [k1]),Sw]
  refine (Vq h1000 hb).bind fun nm r1 h1=>?_
  have b1:=hb.suf (A0o hb h1).1
  refine (Mr h1000 b1).bind fun x r2 h2=>?_
  have b2:=b1.suf (Tv b1 h2).2
  refine (Mr h1000 b2).bind fun y r3 h3=>?_
  have b3:=b2.suf (Tv b2 h3).2
  refine (Dc h1000 b3).bind fun z r4 h4=>?_
  have b4:=b3.suf (G6 b3 h4).2.2
  refine (Dc h1000 b4).bind fun ro r5 h5=>?_
  have b5:=b4.suf (G6 b4 h5).2.2
  refine (Dc h1000 b5).bind fun g r6 h6=>?_
  have b6:=b5.suf (G6 b5 h6).2.2
  refine (Dc h1000 b6).bind fun st r7 h7=>?_
  have b7:=b6.suf (G6 b6 h7).2.2
  refine (Dc h1000 b7).bind fun w r8 h8=>?_
  have b8:=b7.suf (G6 b7 h8).2.2
  refine (Dc h1000 b8).bind fun ti r9 h9=>?_
  have b9:=b8.suf (G6 b8 h9).2.2
  refine (Dc h1000 b9).bind fun tm r10 h10=>?_
  have b10:=b9.suf (G6 b9 h10).2.2
  exact Ys hF nm x y z ro g st w ti tm _ _ _ b10
 ·rw [if_neg k1,B3 (by simp [k1])]
  by_cases k2:k=2
  ·rw [if_pos k2,B6 (by simp [k2]),Su]
   refine (Vq h1000 hb).bind fun nm r1 h1=>?_
   have b1:=hb.suf (A0o hb h1).1
   refine (Dc h1000 b1).bind fun tm r2 h2=>?_
   have b2:=b1.suf (G6 b1 h2).2.2
   refine (Mr h1000 b2).bind fun x r3 h3=>?_
   have b3:=b2.suf (Tv b2 h3).2
   refine (Mr h1000 b3).bind fun y r4 h4=>?_
   have b4:=b3.suf (Tv b3 h4).2
   refine (Dc h1000 b4).bind fun sz r5 h5=>?_
   have b5:=b4.suf (G6 b4 h5).2.2
   refine (Dc h1000 b5).bind fun wd r6 h6=>?_
   have b6:=b5.suf (G6 b5 h6).2.2
   refine (Dc h1000 b6).bind fun hi r7 h7=>?_
   have b7:=b6.suf (G6 b6 h7).2.2
   show Rd ((H3 F (Bh ⟨x,y,sz,wd,hi⟩)).bind _) (if Qu ⟨x,y,sz,wd,hi⟩ then _ else _)
   rw [U9,sb]
   have hg:=Wb ⟨x,y,sz,wd,hi⟩
   by_cases h0:Bh ⟨x,y,sz,wd,hi⟩=0
   ·rw [if_pos h0,if_pos (hg.1 h0)]
    obtain ⟨c1,c2⟩:=Nu (hg.1 h0)
    simp only at c1 c2
    show Rd ((ck (wd*hi)).bind _) _
    rw [ckb (by omega)]
    have hr:=Zw hF (N:=(wd*hi).toNat) (by omega) b7 ⟨0,0⟩
    rw [show (((wd*hi).toNat:Nat):Int)=wd*hi by omega] at hr
    refine Rd.bind hr fun all r h2=>?_
    exact Rd.ok
   ·rw [if_neg h0,if_neg (fun h'=>h0 (hg.2 h'))]
    exact Rd.bad
  ·rw [if_neg k2,B3 (by simp [k2])]
   by_cases k3:k=3
   ·rw [if_pos k3,B6 (by simp [k3]),Uu]
    refine (Dc h1000 hb).bind fun tm r1 h1=>?_
    have b1:=hb.suf (G6 hb h1).2.2
    refine (Vq h1000 b1).bind fun tx r2 h2=>?_
    exact Rd.ok
   ·rw [if_neg k3,B3 (by simp [k3]),F4]
    exact Rd.bad
theorem Uv {F:Nat} (hF:1000≤F) {p:List Int} (hp:By p):(∃r,Cy F ⟨p⟩=some (0,false,r)∧rN p=none)∨∃n r,Cy F ⟨p⟩=some (n,true,⟨r⟩)∧rN p=some (n,r):=by
 have h:=Dc hF hp
 unfold Cy
 cases hn:rN p with
 | none =>
  rw [hn] at h
  obtain ⟨r,h⟩:=h
  rw [h]
  exact .inl ⟨_,rfl,rfl⟩
 | some y =>
  rw [hn] at h
  rw [show Ah F ⟨p⟩=some (.ok (y.1,⟨y.2⟩)) from h]
  exact .inr ⟨y.1,y.2,rfl,rfl⟩
theorem Qt {l:List Int} (h:By l):sby (bst l)=l:=by
 unfold sby bst
 simp only [List.map_map]
 conv=>rhs;rw [←List.map_id l]
 apply List.map_congr_left
 intro x hx
 have:=h x hx
 simp only [Function.comp,id]
 rw [UInt8.toNat_ofNat_of_lt' (show x.toNat<256 by omega)]
 omega
theorem Zg (s:ByteArray):bst (sby s)=s:=by
 unfold sby bst
 cases s with
 | mk d =>
  congr 1
  apply Array.toList_inj.1
  simp only [List.map_map]
  conv=>rhs;rw [←List.map_id d.toList]
  apply List.map_congr_left
  intro x hx
  simp
theorem bEq {a b:List Int} (ha:By a) (hb:By b):Ex a b=decide (a=b):=by
 unfold Ex
 rw [Bool.eq_iff_iff,Rz,decide_eq_true_eq]
 exact ⟨fun h=>by rw [←Qt ha,←Qt hb,h],fun h=>by rw [h]⟩
theorem Xf {l:List Int} {t:volume_thing} {r:List Int} (h:Li l=some (t,r)):t≠.nil_:=by
 obtain ⟨k,r1,h1,h⟩:=Eh h
 split at h
 ·unfold Sw at h
  obtain ⟨_,_,_,h⟩:=Eh h
  obtain ⟨_,_,_,h⟩:=Eh h
  obtain ⟨_,_,_,h⟩:=Eh h
  obtain ⟨_,_,_,h⟩:=Eh h
  obtain ⟨_,_,_,h⟩:=Eh h
  obtain ⟨_,_,_,h⟩:=Eh h
  obtain ⟨_,_,_,h⟩:=Eh h
  obtain ⟨_,_,_,h⟩:=Eh h
  obtain ⟨_,_,_,h⟩:=Eh h
  obtain ⟨_,_,_,h⟩:=Eh h
  split at h
  ·obtain ⟨_,_,_,h⟩:=Eh h
   cases h
   simp
  ·cases h
 ·split at h
  ·unfold Su at h
   obtain ⟨_,_,_,h⟩:=Eh h
   obtain ⟨_,_,_,h⟩:=Eh h
   obtain ⟨_,_,_,h⟩:=Eh h
   obtain ⟨_,_,_,h⟩:=Eh h
   obtain ⟨_,_,_,h⟩:=Eh h
   obtain ⟨_,_,_,h⟩:=Eh h
   obtain ⟨_,_,_,h⟩:=Eh h
   split at h
   ·obtain ⟨_,_,_,h⟩:=Eh h
    cases h
    simp
   ·cases h
  ·split at h
   ·unfold Uu at h
    obtain ⟨_,_,_,h⟩:=Eh h
    obtain ⟨_,_,_,h⟩:=Eh h
    cases h
    simp
   ·cases h
noncomputable instance (t:volume_thing):Decidable (vT t):=Classical.propDecidable _
noncomputable def unS (p:List Int):volume_thing×Int:=match rN p with
 | none=>(.nil_,15)
 | some (n,r)=>if (r.length:Int)≠n+5 then (.nil_,15) else if p.drop (p.length-5)≠Jb (p.take (p.length-5)) then (.nil_,15) else match Li (r.take n.toNat) with
  | none=>(.nil_,7)
  | some (t,r2)=>if vT t∧r2=[] then (t,0) else (.nil_,7)
theorem A0s {F:Nat} (hF:200000≤F) {p:List Int} (hp:By p) (hl:p.length<F) (hl9:p.length≤1000000000):Hh F p=some (unS p):=by
 unfold Hh unS
 rcases Uv (F:=F) (by omega) hp with ⟨r,h1,h2⟩|⟨n,r,h1,h2⟩
 ·rw [h1,h2,sb,B6 (by rfl)]
 ·obtain ⟨a,b,c⟩:=G6 hp h2
  have hrl:=c.length_le
  rw [h1,h2,sb,B3 (by rfl),ckb (by simp only;omega)]
  show (bif (r.length:Int) != n+5 then _ else _)=some (if (r.length:Int)≠n+5 then _ else _)
  by_cases h3:(r.length:Int)=n+5
  ·rw [if_neg (by simp [h3]),B3 (by simp [h3]),ckb (by omega),Ju (p.length-5) (by omega) rfl (by omega),ckb (by omega),Rg (p.length-5) rfl (by omega) (by omega)]
   have hby1:By (p.take (p.length-5)):=fun x hx=>hp x (List.mem_of_mem_take hx)
   have hby2:By (p.drop (p.length-5)):=fun x hx=>hp x (List.mem_of_mem_drop hx)
   rw [Z6 (by omega) hby1 (by rw [List.length_take];omega) (by rw [List.length_take];omega),sb,bEq hby2 (Ws _).by]
   by_cases h4:p.drop (p.length-5)=Jb (p.take (p.length-5))
   ·rw [if_neg (by simp [h4]),dT h4,B3 (by rfl),Rg n.toNat rfl (by simp only;omega) (show n.toNat≤r.length by omega)]
    have hbr:By (r.take n.toNat):=fun x hx=>(hp.suf c) x (List.mem_of_mem_take hx)
    have ht:=Zx hF hbr
    cases h5:Li (r.take n.toNat) with
    | none =>
     rw [h5] at ht
     obtain ⟨r',ht⟩:=ht
     show (Cg F ⟨r.take n.toNat⟩).bind _=_
     rw [ht,sb]
     rfl
    | some y =>
     obtain ⟨t,r2⟩:=y
     rw [h5] at ht
     show (Cg F ⟨r.take n.toNat⟩).bind _=_
     rw [show Cg F ⟨r.take n.toNat⟩=some (.ok (t,⟨r2⟩)) from ht,sb]
     obtain ⟨e,he,hv⟩:=Uj (F:=F) (by omega) (Xf h5)
     show (Du F t).bind _=_
     rw [he,sb,U9,sb]
     by_cases h6:e=0
     ·rw [if_pos h6]
      by_cases h7:r2=[]
      ·subst h7
       show _=some (if vT t∧([]:List Int)=[] then _ else _)
       rw [if_pos ⟨hv.1 h6,rfl⟩]
       rfl
      ·show (bif decide ((r2.length:Int)>0) then _ else _)=some (if vT t∧r2=[] then _ else _)
       rw [if_neg (fun h=>h7 h.2),B6 (dT (by have:=List.length_pos_iff.2 h7;omega))]
     ·rw [if_neg h6]
      show _=some (if vT t∧r2=[] then _ else _)
      rw [if_neg (fun h=>h6 (hv.2 h.1))]
      rfl
   ·rw [if_pos h4,dF h4,B6 (by rfl)]
  ·rw [if_pos h3,B6 (by simp [h3])]
end Go.Proofs.Ytifbomimeodibaa
namespace Go.Proofs.Ytifbomimeodibaa
open Go Go.RowKit Go.Eng
set_option maxRecDepth 10000
set_option linter.unusedVariables false
set_option linter.unusedSimpArgs false
theorem A1f:∀(k n:Nat) (f:Bool) (r:List Int),n<127 ^ (k+1)→(f=true∨n≠0)→rD (k+1) f (Dq n++r)=some ((n:Int),r):=by
 intro k
 induction k with
 | zero =>
  intro n f r h hf
  have hn:n<127:=by simpa using h
  rw [Hj hn]
  show rD 1 f (((n:Int)+1)::r)=_
  rw [rD,if_neg ?_,if_pos (by omega)]
  ·congr 2;omega
  ·rintro (h1|h1|⟨h1,h2⟩)
   ·omega
   ·omega
   ·rcases hf with h3|h3
    ·rw [h3] at h2;cases h2
    ·omega
 | succ k ih =>
  intro n f r h hf
  by_cases hn:n<127
  ·rw [Hj hn]
   show rD (k+1+1) f (((n:Int)+1)::r)=_
   rw [rD,if_neg ?_,if_pos (by omega)]
   ·congr 2;omega
   ·rintro (h1|h1|⟨h1,h2⟩)
    ·omega
    ·omega
    ·rcases hf with h3|h3
     ·rw [h3] at h2;cases h2
     ·omega
  ·rw [Mi (by omega)]
   have hm:=Nat.mod_lt n (show 0<127 by decide)
   show rD (k+1+1) f ((128+((n%127:Nat):Int))::(Dq (n/127)++r))=_
   rw [rD,if_neg (by rintro (h1|h1|⟨h1,h2⟩)<;>omega),if_neg (by omega),ih (n/127) false r (Nat.div_lt_of_lt_mul (by rw [Nat.pow_succ] at h;omega)) (.inr (by omega))]
   show some (128+((n%127:Nat):Int)-128+127*((n/127:Nat):Int),r)=_
   congr 2;omega
theorem Ng {n:Nat} (r:List Int) (h:n<67675234241018881):rN (Dq n++r)=some ((n:Int),r):=A1f 7 n true r h (.inl rfl)
def sm (x:Int):Prop:=-1000000000000000≤x∧x≤1000000000000000
theorem Jp {x:Int} (r:List Int) (h0:0≤x) (h:sm x):rN (Dq x.toNat++r)=some (x,r):=by
 rw [Ng r (by have:=h.2;omega)];congr 2;omega
theorem A09 (x:Int):unz (zig x:Int)=x:=by
 unfold unz zig
 split<;>split<;>omega
theorem Ut {x:Int} (r:List Int) (h:sm x):rI (Dq (zig x)++r)=some (x,r):=by
 obtain ⟨h1,h2⟩:=h
 rw [rI,Ng r (by unfold zig;split<;>omega)]
 show some (unz (zig x:Int),r)=_
 rw [A09]
theorem Yq {s:ByteArray} (r:List Int) (h:s.size≤1000000):rT (Kd s++r)=some (s,r):=by
 rw [rT,Kd,List.append_assoc,Ng _ (by omega)]
 have hl:=Kb s
 show (if ((s.size:Nat):Int)>((sby s++r).length:Int) then none else some (bst ((sby s++r).take ((s.size:Nat):Int).toNat),(sby s++r).drop ((s.size:Nat):Int).toNat))=_
 rw [if_neg (by rw [List.length_append];omega),Int.toNat_natCast,List.take_left' hl,List.drop_left' hl,Zg]
def smS (s:api_Span):Prop:=-1000000000≤s.Lo∧s.Lo≤s.Hi∧s.Hi≤2000000000
theorem Sv {s:api_Span} (r:List Int) (h:smS s):rS (Hd s++r)=some (s,r):=by
 obtain ⟨h1,h2,h3⟩:=h
 rw [rS,Hd,List.append_assoc,Ut _ ⟨by omega,by omega⟩]
 show (rN (Dq (s.Hi-s.Lo).toNat++r)).bind _=_
 rw [Jp r (by omega) ⟨by omega,by omega⟩]
 show some ((⟨s.Lo,s.Lo+(s.Hi-s.Lo)⟩:api_Span),r)=_
 rw [show s.Lo+(s.Hi-s.Lo)=s.Hi by omega]
theorem P6 {s:api_Span} (h:z0 s):s=⟨0,0⟩:=by cases s;obtain ⟨h1,h2⟩:=h;simp only at h1 h2;rw [h1,h2]
theorem A2m {x:api_Echo} (r:List Int) (h:vEcho x):rE (Kk x++r)=some (x,r):=by
 have hi:∀{s:api_Span} {lo hi:Int},Ks s lo hi→0≤lo→hi≤1073741824→smS s:=fun {s lo hi} h h1 h2=>⟨by have:=h.1;omega,h.2.1,by have:=h.2.2;omega⟩
 have ht:∀{s:api_Span},Hs s→smS s:=fun {s} h=>⟨by have:=h.1;omega,h.2.2.1,by have:=h.2.1;have:=h.2.2.2;omega⟩
 rcases h with ⟨a,b,c,d,e,f,g,h,i⟩|⟨a,b,c,d,e,f,g,h⟩
 ·have hp:x=⟨1,⟨0,x.Power.Hi⟩,(⟨0,0⟩,⟨0,0⟩),0,⟨0,0⟩,⟨0,0⟩,⟨0,0⟩⟩:=by
   rcases x with ⟨k,⟨p1,p2⟩,⟨s1,s2⟩,sp,ra,ma,tu⟩
   simp only at a c d e f g h i
   rw [a,c,f,P6 d,P6 e,P6 g,P6 h,P6 i]
  rw [rE,Kk,List.append_assoc,if_pos a,Jp _ (by omega) ⟨by omega,by omega⟩]
  show (if x.Kind=1 then _ else _)=_
  rw [if_pos a]
  show (rN (Dq x.Power.Hi.toNat++r)).bind _=_
  rw [Jp _ (by have:=b.1;have:=b.2.1;omega) ⟨by have:=b.1;have:=b.2.1;omega,by have:=b.2.2;omega⟩]
  show some ((⟨x.Kind,⟨0,x.Power.Hi⟩,(⟨0,0⟩,⟨0,0⟩),0,⟨0,0⟩,⟨0,0⟩,⟨0,0⟩⟩:api_Echo),r)=_
  rw [a,←hp]
 ·have hk:x.Kind≠1:=by omega
  rw [rE,Kk,List.append_assoc,if_neg hk,Jp _ (by omega) ⟨by omega,by omega⟩]
  show (if x.Kind=1 then _ else _)=_
  rw [if_neg hk]
  simp only [List.append_assoc]
  show (rS (Hd x.Power++_)).bind _=_
  rw [Sv _ (hi b (by decide) (by decide))]
  show (rS (Hd x.Ratio++_)).bind _=_
  rw [Sv _ (hi d (by decide) (by decide))]
  show (rS (Hd x.Match++_)).bind _=_
  rw [Sv _ (hi e (by decide) (by decide))]
  show (rN (Dq x.Spread.toNat++_)).bind _=_
  rw [Jp _ (by have:=f.1;omega) ⟨by have:=f.1;omega,by have:=f.2;omega⟩]
  show (if x.Kind=3 then _ else _)=_
  by_cases h3:x.Kind=3
  ·obtain ⟨t1,t2,t3⟩:=h h3
   rw [if_pos h3,if_pos h3]
   simp only [List.append_assoc]
   show (rS (Hd x.Steps.1++_)).bind _=_
   rw [Sv _ (ht t1)]
   show (rS (Hd x.Steps.2++_)).bind _=_
   rw [Sv _ (ht t2)]
   show (rS (Hd x.Turn++_)).bind _=_
   rw [Sv _ (ht t3)]
   rfl
  ·obtain ⟨t1,t2,t3⟩:=g (by omega)
   rw [if_neg h3,if_neg h3]
   show some ((⟨x.Kind,x.Power,(⟨0,0⟩,⟨0,0⟩),x.Spread,x.Ratio,x.Match,⟨0,0⟩⟩:api_Echo),r)=_
   have hp:x=⟨x.Kind,x.Power,(⟨0,0⟩,⟨0,0⟩),x.Spread,x.Ratio,x.Match,⟨0,0⟩⟩:=by
    rcases x with ⟨k,p,⟨s1,s2⟩,sp,ra,ma,tu⟩
    simp only at t1 t2 t3
    rw [P6 t1,P6 t2,P6 t3]
   rw [←hp]
theorem A1h {α:Type} [DecidableEq α] {rd:List Int→Option (α×List Int)} {e:α→List Int} (r:List Int):∀(l:List α) (n m:Nat) (b:α),n+l.length<m→n+l.length<1000000000→(∀x∈l,∀r,rd (e x++r)=some (x,r)) →
  rL rd m (n+l.length) b (Ka e b n l++r)=some (List.replicate n b++l,r):=by
 intro l
 induction l with
 | nil =>
  intro n m b hm hn hx
  obtain ⟨m,rfl⟩:∃k,m=k+1:=⟨m-1,by omega⟩
  rw [rL,Ka]
  simp only [List.length_nil,Nat.add_zero] at hm hn ⊢
  by_cases h0:n=0
  ·rw [if_pos h0,if_pos h0,h0];rfl
  ·rw [if_neg h0,if_neg h0,Ng _ (by omega)]
   show (if (n:Int)>(n:Int) then none else if n=((n:Nat):Int).toNat then some (List.replicate n b,r) else _)=_
   rw [if_neg (by omega),if_pos (by omega),List.append_nil]
 | cons x l ih =>
  intro n m b hm hn hx
  simp only [List.length_cons] at hm hn ⊢
  rw [Ka]
  by_cases hb:x=b
  ·rw [if_pos hb]
   have:=ih (n+1) m b (by omega) (by omega) (fun y hy=>hx y (by simp [hy]))
   rw [show n+(l.length+1)=n+1+l.length by omega,this,hb,List.replicate_succ',List.append_assoc]
   rfl
  ·rw [if_neg hb]
   obtain ⟨m,rfl⟩:∃k,m=k+1:=⟨m-1,by omega⟩
   rw [rL,if_neg (by omega),List.append_assoc,Ng _ (by omega)]
   show (if (n:Int)>((n+(l.length+1):Nat):Int) then none else if n+(l.length+1)=((n:Nat):Int).toNat then _ else (rd ((e x++Ka e x 0 l)++r)).bind fun z=>if z.1=b then none else (rL rd m (n+(l.length+1)-((n:Nat):Int).toNat-1) z.1 z.2).map fun u=>(List.replicate ((n:Nat):Int).toNat b++z.1::u.1,u.2))=_
   rw [if_neg (by omega),if_neg (by omega),List.append_assoc,hx x (by simp)]
   show (if x=b then none else (rL rd m (n+(l.length+1)-((n:Nat):Int).toNat-1) x (Ka e x 0 l++r)).map fun u=>(List.replicate ((n:Nat):Int).toNat b++x::u.1,u.2))=_
   have:=ih 0 m x (by omega) (by omega) (fun y hy=>hx y (by simp [hy]))
   rw [if_neg hb,Int.toNat_natCast,show n+(l.length+1)-n-1=0+l.length by omega,this]
   rfl
theorem A0n {α:Type} [DecidableEq α] {rd:List Int→Option (α×List Int)} {e:α→List Int} (r:List Int) (l:List α) (b:α) (hl:l.length<1000000000) (hx:∀x∈l,∀r,rd (e x++r)=some (x,r)) :
  rL rd (l.length+1) l.length b (Ka e b 0 l++r)=some (l,r):=by
 have:=A1h (rd:=rd) r l 0 (l.length+1) b (by omega) (by omega) hx
 simpa using this
theorem X4 {α:Type} {g:Nat}:∀(rows:List (List α)),(∀r∈rows,r.length=g)→Ta g rows.length rows.flatten=rows:=by
 intro rows
 induction rows with
 | nil=>intro _;rfl
 | cons r rows ih =>
  intro h
  have hr:=h r (by simp)
  rw [List.length_cons,Ta,List.flatten_cons,List.take_left' hr,List.drop_left' hr,ih fun r hr=>h r (by simp [hr])]
theorem vVal.sm {v:api_Span} (h:vVal v):smS v:=by obtain ⟨a,b,c⟩:=h;exact ⟨by omega,b,by omega⟩
theorem smI {x lo hi:Int} (h:inB x lo hi) (h1:-100000000000≤lo) (h2:hi≤100000000000):Go.Proofs.Ytifbomimeodibaa.sm x:=⟨by have:=h.1;omega,by have:=h.2;omega⟩
theorem Xg {t:volume_thing} (r:List Int) (h:vT t):Li (Al t++r)=some (t,r):=by
 cases t with
 | nil_=>exact h.elim
 | ic112 s =>
  have hv:vSweep s.Sweep:=h
  have hlen:=hv.len
  have hv':=hv
  obtain ⟨hsite,ti,tm,h1,h2,h3⟩:=hv'
  have hsite':=hsite
  obtain ⟨n,x,y,z,ro,g,st,w⟩:=hsite'
  have hm:4*s.Sweep.Site.Rose*s.Sweep.Site.Gates≤360*s.Sweep.Site.Gates:=Int.mul_le_mul_of_nonneg_right (by have:=ro.2;omega) (by have:=g.1;omega)
  have hg2:=g.2
  show Li (Ni s.Sweep++r)=_
  simp only [Ni,Fs,Qj,List.flatMap_cons,List.flatMap_nil,List.append_nil,List.append_assoc]
  rw [Li,Jp _ (by decide) ⟨by decide,by decide⟩]
  show Sw _=_
  rw [Sw,Yq _ (by have:=Pj n;omega)]
  show (rI _).bind _=_
  rw [Ut _ (smI x (by decide) (by decide))]
  show (rI _).bind _=_
  rw [Ut _ (smI y (by decide) (by decide))]
  show (rN _).bind _=_
  rw [Jp _ (by have:=z.1;omega) (smI z (by decide) (by decide))]
  show (rN _).bind _=_
  rw [Jp _ (by have:=ro.1;omega) (smI ro (by decide) (by decide))]
  show (rN _).bind _=_
  rw [Jp _ (by have:=g.1;omega) (smI g (by decide) (by decide))]
  show (rN _).bind _=_
  rw [Jp _ (by have:=st.1;omega) (smI st (by decide) (by decide))]
  show (rN _).bind _=_
  rw [Jp _ (by have:=w.1;omega) (smI w (by decide) (by decide))]
  show (rN _).bind _=_
  rw [Jp _ (by have:=ti.1;omega) (smI ti (by decide) (by decide))]
  show (rN _).bind _=_
  rw [Jp _ (by have:=tm.1;omega) (smI tm (by decide) (by decide))]
  show (if Rm s.Sweep.Site then (rL rE ((4*s.Sweep.Site.Rose*s.Sweep.Site.Gates).toNat+1) (4*s.Sweep.Site.Rose*s.Sweep.Site.Gates).toNat e0 (Ka Kk e0 0 s.Sweep.Rays.flatten++r)).bind fun all=>some (volume_thing.ic112 ⟨⟨s.Sweep.Site,s.Sweep.Tilt,s.Sweep.Time,Ta s.Sweep.Site.Gates.toNat (4*s.Sweep.Site.Rose).toNat all.1⟩⟩,all.2) else none)=_
  rw [if_pos hsite,←hlen,Int.toNat_natCast,A0n r s.Sweep.Rays.flatten e0 (by omega) (fun x hx r=>A2m r (by obtain ⟨row,hr,hx⟩:=List.mem_flatten.1 hx;exact h3 row hr x hx))]
  show some (volume_thing.ic112 ⟨⟨s.Sweep.Site,s.Sweep.Tilt,s.Sweep.Time,Ta s.Sweep.Site.Gates.toNat (4*s.Sweep.Site.Rose).toNat s.Sweep.Rays.flatten⟩⟩,r)=_
  rw [←h1,Int.toNat_natCast,X4 _ (fun r hr=>by have:=h2 r hr;omega)]
 | ic114 f =>
  obtain ⟨n,tm,hg,h1,h2⟩:=(show Rb f from h)
  have hgl:=Nu hg
  have hg':=hg
  obtain ⟨x,y,z,ro,g⟩:=hg'
  show Li (N4 f++r)=_
  simp only [N4,Fs,Qj,List.flatMap_cons,List.flatMap_nil,List.append_nil,List.append_assoc]
  rw [Li,Jp _ (by decide) ⟨by decide,by decide⟩]
  show Su _=_
  rw [Su,Yq _ (by have:=Pj n;omega)]
  show (rN _).bind _=_
  rw [Jp _ (by have:=tm.1;omega) (smI tm (by decide) (by decide))]
  show (rI _).bind _=_
  rw [Ut _ (smI x (by decide) (by decide))]
  show (rI _).bind _=_
  rw [Ut _ (smI y (by decide) (by decide))]
  show (rN _).bind _=_
  rw [Jp _ (by have:=z.1;omega) (smI z (by decide) (by decide))]
  show (rN _).bind _=_
  rw [Jp _ (by have:=ro.1;omega) (smI ro (by decide) (by decide))]
  show (rN _).bind _=_
  rw [Jp _ (by have:=g.1;omega) (smI g (by decide) (by decide))]
  show (if Qu f.Field.Grid then (rL rS ((f.Field.Grid.Wide*f.Field.Grid.High).toNat+1) (f.Field.Grid.Wide*f.Field.Grid.High).toNat ⟨0,0⟩ (Ka Hd ⟨0,0⟩ 0 f.Field.Vals++r)).bind fun all=>some (volume_thing.ic114 ⟨f.key,f.time,⟨f.Field.Grid,all.1⟩⟩,all.2) else none)=_
  rw [if_pos hg,←h1,Int.toNat_natCast,A0n r f.Field.Vals ⟨0,0⟩ (by omega) (fun v hv r=>Sv r (h2 v hv).sm)]
  rfl
 | ic116 n =>
  obtain ⟨tm,h1,h2⟩:=(show V9 n from h)
  show Li (Qo n++r)=_
  simp only [Qo,Fs,List.flatMap_cons,List.flatMap_nil,List.append_nil,List.append_assoc]
  rw [Li,Jp _ (by decide) ⟨by decide,by decide⟩]
  show Uu _=_
  rw [Uu,Jp _ (by have:=tm.1;omega) (smI tm (by decide) (by decide))]
  show (rT _).bind _=_
  rw [Yq _ (by omega)]
  rfl
theorem V8 {t:volume_thing} (h:vT t):unS (Av t)=(t,0):=by
 have hl:=M8 h.ok
 unfold unS Av Dl
 rw [List.append_assoc,Ng _ (by omega)]
 show (if (((Al t++Jb (Dq (Al t).length++Al t)).length:Nat):Int)≠((Al t).length:Int)+5 then _ else _)=_
 rw [if_neg (by rw [List.length_append,Kc];simp)]
 have e:(Dq (Al t).length++(Al t++Jb (Dq (Al t).length++Al t))).length-5=(Dq (Al t).length++Al t).length:=by simp only [List.length_append,Kc];omega
 rw [e,←List.append_assoc,List.drop_left,List.take_left,if_neg (by simp),Int.toNat_natCast,List.take_left]
 have:=Xg [] h
 rw [List.append_nil] at this
 rw [this]
 show (if vT t∧([]:List Int)=[] then _ else _)=_
 rw [if_pos ⟨h,rfl⟩]
end Go.Proofs.Ytifbomimeodibaa
namespace Go.Proofs.Ytifbomimeodibaa
open Go Go.RowKit Go.Eng
set_option maxRecDepth 10000
set_option linter.unusedVariables false
set_option linter.unusedSimpArgs false
def Br (ps:List (List Int)):List Int:=ps.flatMap fun p=>0::p
theorem E8 (p:List Int) (ps:List (List Int)):Br (p::ps)=0::(p++Br ps):=by simp [Br]
theorem Sg {ps:List (List Int)} (h:∀q∈ps,Nz q):By (Br ps):=fun x hx=>by
 obtain ⟨p,hp,hx⟩:=List.mem_flatMap.1 hx
 rcases List.mem_cons.1 hx with rfl|hx
 ·exact ⟨by decide,by decide⟩
 ·exact (h p hp).by x hx
theorem A0r {x:Int} (h:1≤x∧x<256):(UInt8.ofNat x.toNat==(0:Int).toNat.toUInt8)=false:=by
 rw [beq_eq_false_iff_ne]
 intro he
 have:=congrArg UInt8.toNat he
 rw [UInt8.toNat_ofNat_of_lt' (show x.toNat<256 by omega)] at this
 simp at this
 omega
theorem Yb {p:List Int} (h:Nz p):Y9 p 0=-1:=by
 induction p with
 | nil=>rfl
 | cons x p ih =>
  have:=ih fun y hy=>h y (by simp [hy])
  unfold Y9 at this ⊢
  show Lib.indexByte (UInt8.ofNat x.toNat::Lib.bytesOf p) _=_
  rw [Lib.indexByte,A0r (h x (by simp)),if_neg (by simp),this]
  rfl
theorem Ya {p:List Int} (l:List Int) (h:Nz p):Y9 (p++0::l) 0=p.length:=by
 induction p with
 | nil=>rfl
 | cons x p ih =>
  have:=ih fun y hy=>h y (by simp [hy])
  unfold Y9 at this ⊢
  show Lib.indexByte (UInt8.ofNat x.toNat::Lib.bytesOf (p++0::l)) _=_
  rw [Lib.indexByte,A0r (h x (by simp)),if_neg (by simp),this,if_neg (by rw [beq_iff_eq];omega)]
  simp
def Pq {σ X:Type} (body:σ→X→Option (σ×Bool)):List X→σ→Option (σ×Bool)
 | [],s=>some (s,true)
 | x::l,s=>(body s x).bind fun q=>bif q.2 then Pq body l q.1 else some (q.1,false)
def Pr:Int→List (List Int)→List (Int×List Int)
 | _,[]=>[]
 | k,p::ps=>(k,p)::Pr (k+1+p.length) ps
theorem Us {σ:Type} (body:σ→Int×List Int→Option (σ×Bool)) (b:List Int) (hb:b.length≤1000000000):∀(ps:List (List Int)) (m k:Nat) (s:σ),ps≠[]→b.drop k=Br ps→(∀q∈ps,Nz q)→ps.length<m →
  Dt body b m k s=Pq body (Pr k ps) s:=by
 intro ps
 induction ps with
 | nil=>intro m k s h;exact absurd rfl h
 | cons p ps ih =>
  intro m k s _ hd hz hm
  obtain ⟨m,rfl⟩:∃m',m=m'+1:=⟨m-1,by omega⟩
  rw [E8] at hd
  have hk:k<b.length:=by
   rcases Nat.lt_or_ge k b.length with h|h
   ·exact h
   ·rw [List.drop_of_length_le h] at hd;cases hd
  have hd1:b.drop (k+1)=p++Br ps:=by
   have:=congrArg List.tail hd
   rw [List.tail_drop] at this
   exact this
  have hlen:=congrArg List.length hd1
  rw [List.length_drop,List.length_append] at hlen
  have hp:Nz p:=hz p (by simp)
  rw [Dt,Fv,B6 (by rw [dT (show (k:Int)≥0 by omega),dT (show (k:Int)<(b.length:Int) by omega)];rfl),ckb (by omega),Ju (k+1) (by omega) rfl (by omega),hd1]
  cases ps with
  | nil =>
   have e:p++Br []=p:=by simp [Br]
   have hi:B2 (p++Br []) 0=-1:=by rw [e];exact Yb hp
   rw [hi,B6 (by rfl),ckb (by omega),Ju (k+1) (by omega) rfl (by omega),hd1,e]
   rfl
  | cons p2 ps =>
   have hi:B2 (p++Br (p2::ps)) 0=p.length:=by rw [E8];exact Ya _ hp
   have hj:(Br (p2::ps)).length≥1:=by rw [E8];simp
   rw [hi,B3 (dF (by omega)),ckb (by omega),ckb (by omega),ckb (by omega),A0y (k+1) (k+1+p.length) (by omega) (by omega) (by omega),hd1,show k+1+p.length-(k+1)=p.length by omega,List.take_left]
   rw [Pr,Pq]
   congr 1
   funext q
   cases hq:q.2 with
   | false=>rfl
   | true =>
    rw [B6 rfl,B6 rfl,ckb (by omega),ckb (by omega)]
    have:=ih m (k+1+p.length) q.1 (by simp) (by rw [←List.drop_drop,hd1,List.drop_left]) (fun r hr=>hz r (by simp [hr])) (by simp at hm ⊢;omega)
    rw [show ((k:Int)+(1+(p.length:Int)))=((k+1+p.length:Nat):Int) by omega,this]
    rw [show ((k+1+p.length:Nat):Int)=(k:Int)+1+p.length by omega]
theorem Tt {σ:Type} (F:Nat) (body:σ→Int×List Int→Option (σ×Bool)) {p:List Int} {ps:List (List Int)} (hp:Nz p) (hz:∀q∈ps,Nz q) (hl:(p++Br ps).length≤1000000000) (hF:ps.length<F) (s:σ) :
  F6 F (p++Br ps) body s=Pq body (Pr p.length ps) s:=by
 rw [F6]
 cases ps with
 | nil =>
  have e:p++Br []=p:=by simp [Br]
  have hi:B2 (p++Br []) 0=-1:=by rw [e];exact Yb hp
  obtain ⟨G,rfl⟩:∃G,F=G+1:=⟨F-1,by omega⟩
  rw [hi,Dt,Fv,B3 (by rfl)]
  rfl
 | cons q qs =>
  have hi:B2 (p++Br (q::qs)) 0=p.length:=by rw [E8];exact Ya _ hp
  rw [hi]
  exact Us body _ hl _ F p.length s (by simp) (by rw [List.drop_left]) hz hF
def B4 (t:volume_thing):volume_Item:=t.cs default A3 A2 A5
theorem We (F:Nat) {t:volume_thing} (h:t≠.nil_):Hl F t=some (B4 t):=by
 cases t with
 | nil_=>exact absurd rfl h
 | ic112 s=>rfl
 | ic114 f=>rfl
 | ic116 n=>rfl
theorem Za {p:List Int} (h:(unS p).2=0):vT (unS p).1:=by
 unfold unS at h ⊢
 split
 ·rename_i h1;rw [h1] at h;cases h
 ·rename_i n r h1
  rw [h1] at h
  simp only at h
  split
  ·rename_i h2;rw [if_pos h2] at h;cases h
  ·rename_i h2
   rw [if_neg h2] at h
   split
   ·rename_i h3;rw [if_pos h3] at h;cases h
   ·rename_i h3
    rw [if_neg h3] at h
    split
    ·rename_i h4;rw [h4] at h;cases h
    ·rename_i t r2 h4
     rw [h4] at h
     simp only at h
     split
     ·rename_i h5;exact h5.1
     ·rename_i h5;rw [if_neg h5] at h;cases h
theorem vT.nn {t:volume_thing} (h:vT t):t≠.nil_:=fun e=>by rw [e] at h;exact h
def Tc (p:List Int):Bool:=p.all fun c=>decide (c≥128)&&decide (c≤254)
def T5 (p:List Int):Bool:=Tc p||match rN p with
 | none=>false
 | some (n,r)=>decide ((r.length:Int)<n+5)
theorem Xn {F:Nat} (hF:1000≤F) {p:List Int} (hp:By p) (hl:p.length≤1000000000):∀(m i:Nat) (c:Bool),p.length-i<m→i≤p.length →
  Gy F p m i c=Hv F p (c&&Tc (p.drop i)):=by
 intro m
 induction m with
 | zero=>intro i c h;omega
 | succ m ih =>
  intro i c h hi
  rw [Gy,Kj]
  by_cases hb:i<p.length
  ·have hd:=List.drop_eq_getElem_cons hb
   rw [B6 (dT (by omega)),El i p[i] rfl (List.getElem?_eq_getElem hb),ckb (by omega),show ((i:Int)+1)=((i+1:Nat):Int) by omega,ih (i+1) _ (by omega) (by omega)]
   congr 1
   rw [hd]
   have e:Tc (p[i]::p.drop (i+1))=(decide (p[i]≥128)&&decide (p[i]≤254)&&Tc (p.drop (i+1))):=List.all_cons ..
   rw [e]
   cases c<;>cases decide (p[i]≥128)<;>cases decide (p[i]≤254)<;>cases Tc (p.drop (i+1))<;>rfl
  ·rw [B3 (dF (by omega)),List.drop_of_length_le (by omega)]
   simp [Tc]
theorem A08 {F:Nat} (hF:1000≤F) {p:List Int} (hp:By p) (hlF:p.length<F) (hl:p.length≤1000000000):Lg F p=some (T5 p):=by
 rw [Lg,show (0:Int)=((0:Nat):Int) from rfl,Xn hF hp hl F 0 true (by omega) (by omega),Hv,List.drop_zero,Bool.true_and]
 unfold T5
 rcases Uv hF hp with ⟨r,h1,h2⟩|⟨n,r,h1,h2⟩
 ·rw [h1,h2,sb]
  cases Tc p<;>rfl
 ·obtain ⟨a,b,c⟩:=G6 hp h2
  have:=c.length_le
  rw [h1,h2,sb]
  cases Tc p with
  | true=>rfl
  | false =>
   show ((ck (n+5)).bind fun x26=>some (decide ((r.length:Int)<x26)))=_
   rw [ckb (by omega)]
   rfl
noncomputable def rdF (total:Int):Int→List (List Int)→List volume_Item×Int×Int
 | _,[]=>([],total,0)
 | k,p::ps=>if (unS p).2=0 then (B4 (unS p).1::(rdF total (k+1+p.length) ps).1,(rdF total (k+1+p.length) ps).2) else ([],k,if ps=[]∧T5 p=true then 16 else (unS p).2)
theorem Xi {F:Nat} (hF:200000≤F) (b:List Int) (hb:b.length<F) (hb9:b.length≤1000000000) (total:Int):∀(ps:List (List Int)) (k:Int) (acc:List volume_Item),0≤k→k+(Br ps).length=b.length→(∀q∈ps,Nz q)→acc.length+ps.length≤1000000000 →
  ∃tg:Nat,Pq (Gv F b) (Pr k ps) (acc,total,0,0)=some ((acc++(rdF total k ps).1,(rdF total k ps).2.1,(rdF total k ps).2.2,tg),decide (tg≠3))∧(tg=0∨tg=3):=by
 intro ps
 induction ps with
 | nil=>intro k acc h0 h1 h2 h3;exact ⟨0,by simp [Pr,Pq,rdF],.inl rfl⟩
 | cons p ps ih =>
  intro k acc h0 h1 h2 h3
  have hp:=(h2 p (by simp)).by
  rw [E8] at h1
  simp only [List.length_cons,List.length_append] at h1 h3
  have hun:=A0s hF hp (by omega) (by omega)
  rw [Pr,Pq,rdF,Gv]
  simp only [hun,sb]
  by_cases h:(unS p).2=0
  ·have hv:=Za h
   have happ:(apd 224 acc [B4 (unS p).1]).bind (fun l405=>some ((l405,total,(0:Int),0),true))=some ((acc++[B4 (unS p).1],total,(0:Int),(0:Nat)),true):=Lv (by simp;omega) (by decide)
   rw [B3 (by simp [h]),We F hv.nn,sb,if_pos h,happ,sb,B6 rfl]
   obtain ⟨tg,h4,h5⟩:=ih (k+1+p.length) (acc++[B4 (unS p).1]) (by omega) (by omega) (fun q hq=>h2 q (by simp [hq])) (by simp;omega)
   refine ⟨tg,?_,h5⟩
   rw [h4,List.append_assoc]
   rfl
  ·rw [B6 (by simp [h]),ckb (by omega),ckb (by omega),if_neg h]
   refine ⟨3,?_,.inr rfl⟩
   have hlast:(k+1+(p.length:Int)==(b.length:Int))=decide (ps=[]):=by
    cases ps with
    | nil=>simp [Br] at h1;simp;omega
    | cons q qs=>rw [E8] at h1;simp at h1;simp;omega
   rw [hlast]
   by_cases h6:ps=[]
   ·rw [dT h6,gdT (by rfl),A08 (by omega) hp (by omega) (by omega),sb,B6 (c:=true) rfl]
    cases ht:T5 p with
    | true=>rw [B6 (by rfl),sb,B3 rfl,if_pos ⟨h6,rfl⟩];simp
    | false=>rw [B3 (by rfl),sb,B3 rfl,if_neg (by simp)];simp
   ·rw [dF h6,gdF (by rfl),sb,B3 (c:=false) rfl,B3 (by rfl),sb,B3 rfl,if_neg (fun h=>h6 h.1)];simp
def RVF1:List Int:=[82,86,70,49]
theorem RVF1_nz:Nz RVF1:=by intro x hx;simp [RVF1] at hx;omega
theorem Tu (F:Nat) (l:List Int) (hl:By l):F5 F (RVF1++l) RVF1=some true:=by
 unfold F5
 rw [B6 (dT (by rw [List.length_append];omega)),Rg 4 rfl (by rfl) (by rw [List.length_append];simp [RVF1]),show (4:Nat)=RVF1.length from rfl,List.take_left,bEq RVF1_nz.by RVF1_nz.by]
 simp
theorem A00 {F:Nat} (hF:200000≤F) {ps:List (List Int)} (hz:∀q∈ps,Nz q) (hl:4+(Br ps).length<F) (hl2:4+(Br ps).length≤16777216) (hn:ps.length≤1000) :
  Cx F (RVF1++Br ps)=some (rdF (4+(Br ps).length:Nat) 4 ps):=by
 have hlen:(RVF1++Br ps).length=4+(Br ps).length:=by rw [List.length_append];rfl
 have hrl:∀(k:Int),(rdF (4+(Br ps).length:Nat) k ps).1.length≤ps.length:=by
  generalize ((4+(Br ps).length:Nat):Int)=total
  intro k
  clear hlen hl hl2 hn
  induction ps generalizing k with
  | nil=>simp [rdF]
  | cons p ps ih =>
   rw [rdF]
   split
   ·have:=ih (fun q hq=>hz q (by simp [hq])) (k+1+p.length)
    simpa using this
   ·simp
 rw [Cx,B3 (dF (by omega)),show ([82,86,70,49]:List Int)=RVF1 from rfl,Tu F _ (Sg hz),sb]
 obtain ⟨tg,h1,h2⟩:=Xi hF (RVF1++Br ps) (by omega) (by omega) ((RVF1++Br ps).length:Nat) ps 4 [] (by decide) (by omega) hz (by simp;omega)
 have hfin:((F6 F (RVF1++Br ps) (Gv F (RVF1++Br ps)) (([]:List volume_Item),(((RVF1++Br ps).length:Nat):Int),0,0)).bind fun r410 =>
   bif r410.2 then (Ez r410.1.1 r410.1.2.1 r410.1.2.2.1) else (bif (r410.1.2.2.2==3) then (Ez r410.1.1 r410.1.2.1 r410.1.2.2.1) else (none)))=some (rdF (4+(Br ps).length:Nat) 4 ps):=by
  rw [Tt F _ RVF1_nz hz (by omega) (by omega),show ((RVF1.length:Nat):Int)=4 from rfl,h1,sb]
  have hk:Ez ([]++(rdF ((RVF1++Br ps).length:Nat) 4 ps).1) (rdF ((RVF1++Br ps).length:Nat) 4 ps).2.1 (rdF ((RVF1++Br ps).length:Nat) 4 ps).2.2=some (rdF (4+(Br ps).length:Nat) 4 ps):=by
   rw [hlen,Ez,List.nil_append,B3 (dF (by have:=hrl 4;omega))]
  rcases h2 with rfl|rfl
  ·exact hk
  ·exact hk
 cases ps with
 | nil =>
  rw [gdF (by rfl),sb,B3 (by rfl)]
  exact hfin
 | cons p ps =>
  have hg:(D9 (RVF1++Br (p::ps)) 4)=some 0:=by rw [E8];rfl
  rw [gdT (by rw [dT (show (((RVF1++Br (p::ps)).length:Nat):Int)>4 by rw [hlen,E8];simp;omega)];rfl),hg,sb,B3 (by cases decide ((((RVF1++Br (p::ps)).length:Nat):Int)>4)<;>rfl)]
  exact hfin
end Go.Proofs.Ytifbomimeodibaa
namespace Go.Proofs.Ytifbomimeodibaa
open Go Go.RowKit Go.Eng
set_option maxRecDepth 10000
set_option linter.unusedVariables false
set_option linter.unusedSimpArgs false
def K9 (x:law12_Thing):Prop:=(0≤x.Kind∧x.Kind≤255)∧(0≤x.Time∧x.Time≤4294967295)∧((0≤x.Sides.1∧x.Sides.1≤255)∧(0≤x.Sides.2.1∧x.Sides.2.1≤255)∧(0≤x.Sides.2.2∧x.Sides.2.2≤255))∧∀n∈x.Numbers,-32768≤n∧n≤32767
theorem Sy {β:Type} {x y:Int} {f:Int→Option β} (hx:0≤x) (hy:0<y):(Jm x y).bind f=f (x%y):=by
 unfold Jm
 rw [if_neg (by omega),Int.tmod_eq_emod_of_nonneg hx]
 rfl
theorem Lj (F:Nat) {x:law12_Thing} (hx:K9 x) {p1 p2:Int} (h1:0≤p1) (h2:1≤p2∧p2≤1000000):∃v,Ae F x p1 p2=some v∧0≤v∧v<p2:=by
 unfold Ae
 by_cases h:x.Numbers.length=0
 ·rw [B6 (by simp [h])]
  exact ⟨0,rfl,by omega,by omega⟩
 ·have hm:=Int.emod_nonneg p1 (show ((x.Numbers.length:Nat):Int)≠0 by omega)
  have hm2:=Int.emod_lt_of_pos p1 (show (0:Int)<(x.Numbers.length:Nat) by omega)
  have hi:(p1%((x.Numbers.length:Nat):Int)).toNat<x.Numbers.length:=by omega
  have hn:=hx.2.2.2 _ (List.getElem_mem hi)
  rw [B3 (by simpa using h),Sy h1 (by omega),El (p1%((x.Numbers.length:Nat):Int)).toNat _ (by omega) (List.getElem?_eq_getElem hi),ckb (by omega)]
  generalize x.Numbers[(p1%((x.Numbers.length:Nat):Int)).toNat]=u at hn ⊢
  have e:Jm u p2=some (u.tmod p2):=by unfold Jm;rw [if_neg (by omega)]
  have b1:-p2<u.tmod p2:=Int.lt_tmod_of_pos u (by omega)
  have b2:u.tmod p2<p2:=Int.tmod_lt_of_pos u (by omega)
  rw [e,sb,ckb (by omega),Sy (by omega) (by omega)]
  exact ⟨_,rfl,Int.emod_nonneg _ (by omega),Int.emod_lt_of_pos _ (by omega)⟩
theorem Mj (F:Nat) {x:law12_Thing} (hx:K9 x) {i lo wide:Int} (h1:0≤i∧i≤1000000) (h2:-1000000≤lo∧lo≤1000000) (h3:1≤wide∧wide≤1000000) :
  ∃s,Az F x i lo wide=some s∧lo≤s.Lo∧s.Lo<lo+300∧s.Lo≤s.Hi∧s.Hi<s.Lo+wide:=by
 unfold Az
 obtain ⟨a,ha,a1,a2⟩:=Lj F hx h1.1 (p2:=300) (by decide)
 obtain ⟨b,hb,b1,b2⟩:=Lj F hx (show 0≤i+1 by omega) h3
 show ∃s,(Ae F x i 300).bind _=some s∧_
 rw [ha,sb,ckb (by omega),ckb (by omega)]
 show ∃s,(Ae F x (i+1) wide).bind _=some s∧_
 rw [hb,sb,ckb (by omega)]
 exact ⟨_,rfl,by simp only;omega,by simp only;omega,by simp only;omega,by simp only;omega⟩
theorem z00:z0 ⟨0,0⟩:=⟨rfl,rfl⟩
theorem A1t (F:Nat) {x:law12_Thing} (hx:K9 x) {i:Int} (h1:0≤i∧i≤10000):∃e,Fk F x i=some e∧vEcho e:=by
 unfold Fk
 obtain ⟨k,hk,k1,k2⟩:=Lj F hx h1.1 (p2:=4) (by decide)
 show ∃s,(Ae F x i 4).bind _=some s∧_
 rw [hk,sb]
 by_cases c0:k=0
 ·obtain ⟨a,ha,a1,a2⟩:=Lj F hx (show 0≤i+1 by omega) (p2:=200) (by decide)
  rw [B6 (by simp [c0]),ckb (by omega)]
  show ∃s,(Ae F x (i+1) 200).bind _=some s∧_
  rw [ha,sb]
  have q1:Ks ⟨0,a⟩ 0 1073741824:=⟨Int.le_refl _,a1,by simp only;omega⟩
  exact ⟨_,rfl,.inl ⟨rfl,q1,rfl,z00,z00,rfl,z00,z00,z00⟩⟩
 ·rw [B3 (by simp [c0])]
  by_cases c1:k=1
  ·obtain ⟨p,hp,p1,p2,p3,p4⟩:=Mj F hx (i:=i+1) (lo:=1) (wide:=1000) (by omega) (by decide) (by decide)
   obtain ⟨r,hr,r1,r2,r3,r4⟩:=Mj F hx (i:=i+3) (lo:=0) (wide:=50000) (by omega) (by decide) (by decide)
   obtain ⟨m,hm,m1,m2,m3,m4⟩:=Mj F hx (i:=i+2) (lo:=0) (wide:=500) (by omega) (by decide) (by decide)
   obtain ⟨s,hs,s1,s2⟩:=Lj F hx (show 0≤i+5 by omega) (p2:=65536) (by decide)
   rw [B6 (by simp [c1]),ckb (by omega)]
   show ∃s,(Az F x (i+1) 1 1000).bind _=some s∧_
   rw [hp,sb,ckb (by omega)]
   show ∃s,(Az F x (i+3) 0 50000).bind _=some s∧_
   rw [hr,sb,ckb (by omega)]
   show ∃s,(Az F x (i+2) 0 500).bind _=some s∧_
   rw [hm,sb,ckb (by omega)]
   show ∃s,(Ae F x (i+5) 65536).bind _=some s∧_
   rw [hs,sb]
   have q1:Ks p 0 1073741824:=⟨by omega,p3,by omega⟩
   have q2:p.Lo>0:=by omega
   have q3:Ks r 0 1000000:=⟨r1,r3,by omega⟩
   have q4:Ks m 0 1000:=⟨m1,m3,by omega⟩
   have q5:inB s 0 65535:=⟨s1,by omega⟩
   exact ⟨_,rfl,.inr ⟨.inl rfl,q1,q2,q3,q4,q5,fun _=>⟨z00,z00,z00⟩,fun h=>by cases h⟩⟩
  ·rw [B3 (by simp [c1])]
   by_cases c2:k=2
   ·obtain ⟨p,hp,p1,p2,p3,p4⟩:=Mj F hx (i:=i+1) (lo:=1) (wide:=1000) (by omega) (by decide) (by decide)
    obtain ⟨r,hr,r1,r2,r3,r4⟩:=Mj F hx (i:=i+3) (lo:=0) (wide:=50000) (by omega) (by decide) (by decide)
    obtain ⟨m,hm,m1,m2,m3,m4⟩:=Mj F hx (i:=i+2) (lo:=0) (wide:=500) (by omega) (by decide) (by decide)
    obtain ⟨s,hs,s1,s2⟩:=Lj F hx (show 0≤i+5 by omega) (p2:=3000) (by decide)
    obtain ⟨a,ha,a1,a2,a3,a4⟩:=Mj F hx (i:=i) (lo:=-200) (wide:=30000) (by omega) (by decide) (by decide)
    obtain ⟨b,hb,b1,b2,b3,b4⟩:=Mj F hx (i:=i+4) (lo:=-32768) (wide:=3) (by omega) (by decide) (by decide)
    obtain ⟨t,ht,t1,t2,t3,t4⟩:=Mj F hx (i:=i+1) (lo:=500) (wide:=40) (by omega) (by decide) (by decide)
    rw [B6 (by simp [c2]),ckb (by omega)]
    show ∃s,(Az F x (i+1) 1 1000).bind _=some s∧_
    rw [hp,sb,ckb (by omega)]
    show ∃s,(Az F x (i+3) 0 50000).bind _=some s∧_
    rw [hr,sb,ckb (by omega)]
    show ∃s,(Az F x (i+2) 0 500).bind _=some s∧_
    rw [hm,sb,ckb (by omega)]
    show ∃s,(Ae F x (i+5) 3000).bind _=some s∧_
    rw [hs,sb]
    show ∃s,(Az F x i (-200) 30000).bind _=some s∧_
    rw [ha,sb,ckb (by omega)]
    show ∃s,(Az F x (i+4) (-32768) 3).bind _=some s∧_
    rw [hb,sb,ckb (by omega)]
    show ∃s,(Az F x (i+1) 500 40).bind _=some s∧_
    rw [ht,sb]
    have q1:Ks p 0 1073741824:=⟨by omega,p3,by omega⟩
    have q2:p.Lo>0:=by omega
    have q3:Ks r 0 1000000:=⟨r1,r3,by omega⟩
    have q4:Ks m 0 1000:=⟨m1,m3,by omega⟩
    have q5:inB s 0 65535:=⟨s1,by omega⟩
    have q6:Hs a:=⟨by omega,by omega,a3,by omega⟩
    have q7:Hs b:=⟨by omega,by omega,b3,by omega⟩
    have q8:Hs t:=⟨by omega,by omega,t3,by omega⟩
    exact ⟨_,rfl,.inr ⟨.inr rfl,q1,q2,q3,q4,q5,fun h=>(by cases h),fun _=>⟨q6,q7,q8⟩⟩⟩
   ·rw [B3 (by simp [c2])]
    exact ⟨_,rfl,.inl ⟨rfl,⟨by decide,by decide,by decide⟩,rfl,z00,z00,rfl,z00,z00,z00⟩⟩
theorem A2k {β:Type} {x:Int} {f:Int→Option β} (h:0≤x∧x≤1000000):(Nm x 2).bind f=f (x/2):=by
 unfold Nm
 rw [if_neg (by decide),Int.tdiv_eq_ediv_of_nonneg h.1,ckb (by omega)]
theorem A0k {y:Int} (h:0≤y∧y≤1000000):IntKind.i64.wrap (0-y)=-y:=by
 simp only [IntKind.wrap,IntKind.signed,IntKind.bits]
 simp
 omega
theorem A2t (F:Nat) {x:law12_Thing} (hx:K9 x) (g:Int) (rows:List (List api_Echo)) (k:Int) (k5:List (List api_Echo)→Int→Option volume_Item) (hg:1≤g∧g≤4) (hk:0≤k∧k≤8) (hr:rows.length≤100):∀(m i:Nat) (acc:List api_Echo),g-i<m→(i:Int)≤g→acc.length=i→(∀e∈acc,vEcho e) →
  ∃row,Ec F x g rows k k5 m acc i=k5 (rows++[row]) (k+1)∧(row.length:Int)=g∧∀e∈row,vEcho e:=by
 intro m
 induction m with
 | zero=>intro i acc h1 h2;omega
 | succ m ih =>
  intro i acc h1 h2 h3 h4
  rw [Ec,Gf]
  by_cases hb:(i:Int)<g
  ·have hm:k*g≤8*g:=Int.mul_le_mul_of_nonneg_right hk.2 (by omega)
   have hm0:0≤k*g:=Int.mul_nonneg hk.1 (by omega)
   obtain ⟨e,he,hv⟩:=A1t F hx (i:=(k*g+i)/2) (by omega)
   rw [B6 (dT hb),ckb (by omega),ckb (by omega),A2k (by omega)]
   show ∃row,(Fk F x ((k*g+i)/2)).bind _=_∧_
   rw [he,sb,Lv (by simp;omega) (by decide),ckb (by omega)]
   exact ih (i+1) (acc++[e]) (by omega) (by omega) (by simp;omega) (fun z hz=>by
    rcases List.mem_append.1 hz with hz|hz
    ·exact h4 z hz
    ·simp at hz;rw [hz];exact hv)
  ·rw [B3 (dF hb),Gi,Lv (by simp;omega) (by decide),Gh,ckb (by omega)]
   exact ⟨acc,rfl,by omega,h4⟩
theorem A1u (F:Nat) (hF:100≤F) {x:law12_Thing} (hx:K9 x) (u8:ByteArray) (x9 x1461 g x1466 x1469 y1471 y1473 x1476 y1478 n:Int) (hg:1≤g∧g≤4) (hn:0≤n∧n≤8):∀(m i:Nat) (rows:List (List api_Echo)),n-i<m→(i:Int)≤n→rows.length=i→(∀r∈rows,(r.length:Int)=g∧∀e∈r,vEcho e) →
  ∃all,De F x u8 x9 x1461 g x1466 x1469 y1471 y1473 x1476 y1478 n m rows i=F8 u8 x9 x1461 g x1466 x1469 y1471 y1473 x1476 y1478 all∧(all.length:Int)=n∧∀r∈all,(r.length:Int)=g∧∀e∈r,vEcho e:=by
 intro m
 induction m with
 | zero=>intro i rows h1 h2;omega
 | succ m ih =>
  intro i rows h1 h2 h3 h4
  rw [De,Ge]
  by_cases hb:(i:Int)<n
  ·obtain ⟨row,hr,r1,r2⟩:=A2t F hx g rows i (De F x u8 x9 x1461 g x1466 x1469 y1471 y1473 x1476 y1478 n m) hg (by omega) (by omega) F 0 [] (by omega) (by omega) rfl (fun e he=>by cases he)
   rw [B6 (dT hb),show (0:Int)=((0:Nat):Int) from rfl,hr]
   exact ih (i+1) (rows++[row]) (by omega) (by omega) (by simp;omega) (fun z hz=>by
    rcases List.mem_append.1 hz with hz|hz
    ·exact h4 z hz
    ·simp at hz;rw [hz];exact ⟨r1,r2⟩)
  ·rw [B3 (dF hb)]
   exact ⟨rows,rfl,by omega,h4⟩
theorem A1w (F:Nat) {x:law12_Thing} (hx:K9 x) (u8:ByteArray) (x9 w h x2689 y2691 x2694 n:Int) (hn:0≤n∧n≤20):∀(m i:Nat) (acc:List api_Span),n-i<m→(i:Int)≤n→acc.length=i→(∀v∈acc,vVal v) →
  ∃all,Dw F x u8 x9 w h x2689 y2691 x2694 n m acc i=F9 u8 x9 w h x2689 y2691 x2694 all∧(all.length:Int)=n∧∀v∈all,vVal v:=by
 intro m
 induction m with
 | zero=>intro i acc h1 h2;omega
 | succ m ih =>
  intro i acc h1 h2 h3 h4
  rw [Dw,G5]
  by_cases hb:(i:Int)<n
  ·obtain ⟨s,hs,s1,s2,s3,s4⟩:=Mj F hx (i:=(i:Int)/2) (lo:=0) (wide:=5+i) (by omega) (by decide) (by omega)
   rw [B6 (dT hb),A2k (by omega),ckb (by omega)]
   show ∃row,(Az F x ((i:Int)/2) 0 (5+i)).bind _=_∧_
   rw [hs,sb,Lv (by simp;omega) (by decide),ckb (by omega)]
   exact ih (i+1) (acc++[s]) (by omega) (by omega) (by simp;omega) (fun z hz=>by
    rcases List.mem_append.1 hz with hz|hz
    ·exact h4 z hz
    ·simp at hz;rw [hz];exact ⟨s1,s3,by omega⟩)
  ·rw [B3 (dF hb)]
   exact ⟨acc,rfl,by omega,h4⟩
theorem A1v (F:Nat) {x:law12_Thing} (hx:K9 x) (u8:ByteArray) (x9 n:Int) (hn:0≤n∧n≤200):∀(m i:Nat) (acc:List Int),n-i<m→(i:Int)≤n→acc.length=i→(∀c∈acc,32≤c∧c≤126) →
  ∃all,Eb F x u8 x9 n m acc i=F7 x9 all∧(all.length:Int)=n∧∀c∈all,32≤c∧c≤126:=by
 intro m
 induction m with
 | zero=>intro i acc h1 h2;omega
 | succ m ih =>
  intro i acc h1 h2 h3 h4
  rw [Eb,Gd]
  by_cases hb:(i:Int)<n
  ·obtain ⟨c,hc,c1,c2⟩:=Lj F hx (p1:=i) (p2:=95) (by omega) (by decide)
   rw [B6 (dT hb)]
   show ∃row,(Ae F x i 95).bind _=_∧_
   rw [hc,sb,ckb (by omega),T8 (by omega),Lv (by simp;omega) (by decide),ckb (by omega)]
   exact ih (i+1) (acc++[32+c]) (by omega) (by omega) (by simp;omega) (fun z hz=>by
    rcases List.mem_append.1 hz with hz|hz
    ·exact h4 z hz
    ·simp at hz;omega)
  ·rw [B3 (dF hb)]
   exact ⟨acc,rfl,by omega,h4⟩
def names:List ByteArray:=[(⟨#[97]⟩:ByteArray),(⟨#[98,95,49]⟩:ByteArray),(⟨#[122,122,122,122,122,122,122,122,122,122,122,122]⟩:ByteArray)]
theorem Yd:∀s∈names,Qn s=true∧Tz s:=by
 intro s hs
 simp only [names,List.mem_cons,List.not_mem_nil,or_false] at hs
 rcases hs with rfl|rfl|rfl
 ·exact ⟨by kernel_rfl,by intro x hx;simp [sby] at hx;omega⟩
 ·exact ⟨by kernel_rfl,by intro x hx;simp [sby] at hx;omega⟩
 ·exact ⟨by kernel_rfl,by intro x hx;simp [sby] at hx;omega⟩
def okI (t:volume_thing):Prop:=vT t∧tzT t∧(Al t).length≤6000
theorem okI.of {t:volume_thing} (h1:vT t) (h2:tzT t) (h3:cnt t≤32):okI t:=⟨h1,h2,by have:=Rl h1.ok;omega⟩
theorem Z8 {F:Nat} (hF:1000≤F) {x:law12_Thing} (hx:K9 x):∃t,Fl F x=some (B4 t)∧okI t:=by
 have hx':=hx
 obtain ⟨⟨k1,k2⟩,⟨t1,t2⟩,⟨⟨a1,a2⟩,⟨b1,b2⟩,⟨c1,c2⟩⟩,_⟩:=hx'
 obtain ⟨v,hv,v1,v2⟩:=Lj F hx (p1:=0) (p2:=3) (by decide) (by decide)
 obtain ⟨nm,hnm⟩:∃nm,names[v.toNat]? = some nm:=⟨_,List.getElem?_eq_getElem (show v.toNat<names.length by simp [names];omega)⟩
 obtain ⟨hn1,hn2⟩:=Yd nm (List.mem_of_getElem? hnm)
 unfold Fl
 show ∃t,(Ae F x 0 3).bind _=_∧_
 rw [hv,sb,show ([(⟨#[97]⟩:ByteArray),(⟨#[98,95,49]⟩:ByteArray),(⟨#[122,122,122,122,122,122,122,122,122,122,122,122]⟩:ByteArray)])=names from rfl,El v.toNat nm (by omega) hnm,ckb (by omega),Sy k1 (by decide)]
 have htime:inB x.Time 0 4294967296:=⟨t1,by omega⟩
 by_cases hk0:x.Kind%3=0
 ·obtain ⟨X,hX,X1,X2⟩:=Lj F hx (p1:=1) (p2:=2000) (by decide) (by decide)
  obtain ⟨Y,hY,Y1,Y2⟩:=Lj F hx (p1:=2) (p2:=900) (by decide) (by decide)
  obtain ⟨Z,hZ,Z1,Z2⟩:=Lj F hx (p1:=3) (p2:=20001) (by decide) (by decide)
  obtain ⟨S,hS,S1,S2⟩:=Lj F hx (p1:=4) (p2:=1951) (by decide) (by decide)
  obtain ⟨T,hT,T1,T2⟩:=Lj F hx (p1:=5) (p2:=257) (by decide) (by decide)
  rw [B6 (by simp [hk0]),ckb (by omega),Sy a1 (by decide),ckb (by omega),ckb (by omega),Sy b1 (by decide),ckb (by omega),ckb (by omega),Sy c1 (by decide)]
  show ∃t,(Ae F x 1 2000).bind _=_∧_
  rw [hX,sb,ckb (by omega)]
  show ∃t,(Ae F x 2 900).bind _=_∧_
  rw [hY,sb]
  show ∃t,(Ae F x 3 20001).bind _=_∧_
  rw [hZ,sb]
  show ∃t,(Ae F x 4 1951).bind _=_∧_
  rw [hS,sb,ckb (by omega)]
  show ∃t,(Ae F x 5 257).bind _=_∧_
  rw [hT,sb,ckb (by omega)]
  obtain ⟨all,ha,l1,l2⟩:=A1u F (by omega) hx nm x.Time (1+x.Sides.1%2) (1+x.Sides.2.1%4) (x.Sides.2.2%9) (X-1000) Y Z (50+S) T (4*(1+x.Sides.1%2)) (by omega) (by omega) F 0 [] (by omega) (by omega) rfl (fun r hr=>by cases hr)
  rw [show (0:Int)=((0:Nat):Int) from rfl,ha,F8,A0k (by omega)]
  have q1:inB (X-1000) (-1048576) 1048576:=⟨by omega,by omega⟩
  have q2:inB (-Y) (-1048576) 1048576:=⟨by omega,by omega⟩
  have q3:inB Z 0 20000:=⟨by omega,by omega⟩
  have q4:inB (1+x.Sides.1%2) 1 90:=⟨by omega,by omega⟩
  have q5:inB (1+x.Sides.2.1%4) 1 200:=⟨by omega,by omega⟩
  have q6:inB (50+S) 50 2000:=⟨by omega,by omega⟩
  have q7:inB (x.Sides.2.2%9) 0 8:=⟨by omega,by omega⟩
  have q8:inB T 0 256:=⟨by omega,by omega⟩
  have hlen:all.flatten.length≤32:=by
   rw [W9 (n:=(1+x.Sides.2.1%4).toNat) (fun r hr=>by have:=(l2 r hr).1;omega)]
   have h8:all.length≤8:=by omega
   have h4:(1+x.Sides.2.1%4).toNat≤4:=by omega
   exact Nat.mul_le_mul h8 h4
  exact ⟨.ic112 ⟨⟨⟨nm,X-1000,-Y,Z,1+x.Sides.1%2,1+x.Sides.2.1%4,50+S,x.Sides.2.2%9⟩,T,x.Time,all⟩⟩,rfl,okI.of ⟨⟨hn1,q1,q2,q3,q4,q5,q6,q7⟩,q8,htime,l1,fun r hr=>(l2 r hr).1,fun r hr=>(l2 r hr).2⟩ hn2 hlen⟩
 ·rw [B3 (by simp [hk0])]
  by_cases hk1:x.Kind%3=1
  ·obtain ⟨X,hX,X1,X2⟩:=Lj F hx (p1:=1) (p2:=2000) (by decide) (by decide)
   obtain ⟨Y,hY,Y1,Y2⟩:=Lj F hx (p1:=2) (p2:=900) (by decide) (by decide)
   obtain ⟨Z,hZ,Z1,Z2⟩:=Lj F hx (p1:=3) (p2:=10000) (by decide) (by decide)
   have hm:(1+x.Sides.1%5)*(1+x.Sides.2.1%4)≤5*(1+x.Sides.2.1%4):=Int.mul_le_mul_of_nonneg_right (by omega) (by omega)
   have hm0:0≤(1+x.Sides.1%5)*(1+x.Sides.2.1%4):=Int.mul_nonneg (by omega) (by omega)
   rw [B6 (by simp [hk1]),ckb (by omega),Sy a1 (by decide),ckb (by omega),ckb (by omega),Sy b1 (by decide),ckb (by omega)]
   show ∃t,(Ae F x 1 2000).bind _=_∧_
   rw [hX,sb,ckb (by omega)]
   show ∃t,(Ae F x 2 900).bind _=_∧_
   rw [hY,sb]
   show ∃t,(Ae F x 3 10000).bind _=_∧_
   rw [hZ,sb,ckb (by omega),ckb (by omega)]
   obtain ⟨all,ha,l1,l2⟩:=A1w F hx nm x.Time (1+x.Sides.1%5) (1+x.Sides.2.1%4) (X-1000) Y (1+Z) ((1+x.Sides.1%5)*(1+x.Sides.2.1%4)) ⟨hm0,by omega⟩ F 0 [] (by omega) (by omega) rfl (fun r hr=>by cases hr)
   rw [show (0:Int)=((0:Nat):Int) from rfl,ha,F9,A0k (by omega)]
   have q1:inB (X-1000) (-1048576) 1048576:=⟨by omega,by omega⟩
   have q2:inB (-Y) (-1048576) 1048576:=⟨by omega,by omega⟩
   have q3:inB (1+Z) 1 10000:=⟨by omega,by omega⟩
   have q4:inB (1+x.Sides.1%5) 1 64:=⟨by omega,by omega⟩
   have q5:inB (1+x.Sides.2.1%4) 1 64:=⟨by omega,by omega⟩
   exact ⟨.ic114 ⟨nm,x.Time,⟨⟨X-1000,-Y,1+Z,1+x.Sides.1%5,1+x.Sides.2.1%4⟩,all⟩⟩,rfl,okI.of ⟨hn1,htime,⟨q1,q2,q3,q4,q5⟩,l1,l2⟩ hn2 (show all.length≤32 by omega)⟩
  ·rw [B3 (by simp [hk1]),Gg,ckb (by omega),Sy a1 (by decide)]
   obtain ⟨all,ha,l1,l2⟩:=A1v F hx nm x.Time (x.Sides.1%201) (by omega) F 0 [] (by omega) (by omega) rfl (fun r hr=>by cases hr)
   rw [show (0:Int)=((0:Nat):Int) from rfl,ha,F7]
   have hby:By all:=fun c hc=>by have:=l2 c hc;omega
   have hsz:(bst all).size≤200:=by rw [←Kb,Qt hby];omega
   exact ⟨.ic116 ⟨x.Time,bst all⟩,rfl,okI.of ⟨htime,hsz,by rw [Qt hby];exact l2⟩ (show Nz (sby (bst all)) by rw [Qt hby];intro c hc;have:=l2 c hc;omega) (Nat.zero_le _)⟩
theorem Xr {F:Nat} (hF:1000≤F) {l:List law12_Thing} (hl:∀x∈l,K9 x) (h8:l.length≤8):∀(m i:Nat) (ts:List volume_thing),l.length-i<m→i≤l.length→ts.length=i→(∀t∈ts,okI t) →
  ∃ts':List volume_thing,Hw F l m i (ts.map B4)=some (ts'.map B4,true)∧ts'.length=l.length∧∀t∈ts',okI t:=by
 intro m
 induction m with
 | zero=>intro i ts h;omega
 | succ m ih =>
  intro i ts h hi ht hok
  rw [Hw,Lm]
  by_cases hb:i<l.length
  ·obtain ⟨t,h1,h2⟩:=Z8 hF (hl l[i] (List.getElem_mem hb))
   rw [B6 (dT (by omega)),El i l[i] rfl (List.getElem?_eq_getElem hb)]
   show ∃ts':List volume_thing,(Fl F l[i]).bind _=_∧_
   rw [h1,sb,Lv (by simp;omega) (by decide),ckb (by omega)]
   have:=ih (i+1) (ts++[t]) (by omega) (by omega) (by simp;omega) (fun z hz=>by
    rcases List.mem_append.1 hz with hz|hz
    ·exact hok z hz
    ·simp at hz;rw [hz];exact h2)
   rw [List.map_append] at this
   exact this
  ·rw [B3 (dF (by omega)),Ln]
   exact ⟨ts,rfl,by omega,hok⟩
theorem A0u {F:Nat} (hF:1000≤F) {l:List law12_Thing} (hl:∀x∈l,K9 x):(Lt F l=some ([],false)∧l.length>8)∨∃ts:List volume_thing,Lt F l=some (ts.map B4,true)∧ts.length=l.length∧l.length≤8∧∀t∈ts,okI t:=by
 unfold Lt
 by_cases h:l.length>8
 ·rw [B6 (dT (by omega))];exact .inl ⟨rfl,h⟩
 ·rw [B3 (dF (by omega))]
  obtain ⟨ts,h1,h2,h3⟩:=Xr hF hl (by omega) F 0 [] (by omega) (by omega) rfl (fun t ht=>by cases ht)
  exact .inr ⟨ts,h1,h2,by omega,h3⟩
end Go.Proofs.Ytifbomimeodibaa
namespace Go.Proofs.Ytifbomimeodibaa
open Go Go.RowKit Go.Eng
set_option maxRecDepth 10000
set_option linter.unusedVariables false
set_option linter.unusedSimpArgs false
theorem Va:La FV=some true:=by kernel_rfl
theorem Sz (s:ByteArray):sEq s s=true:=Rz.2 rfl
theorem Zu {t:volume_thing} (h:t≠.nil_):Gx (B4 t)=t:=by
 cases t with
 | nil_=>exact absurd rfl h
 | ic112 s =>
  show Gx (A3 s)=_
  simp [Gx,A3,Sz]
 | ic114 f =>
  show Gx (A2 f)=_
  simp [Gx,A2,Sz]
  rfl
 | ic116 n =>
  show Gx (A5 n)=_
  simp [Gx,A5,Sz]
  rfl
theorem Vg {F:Nat} (hF:5000≤F) {t:volume_thing} (h:vT t):Hu F (B4 t)=some (t,0):=by
 obtain ⟨e,he,hv⟩:=Uj hF h.nn
 have h0:e=0:=hv.2 h
 subst h0
 rw [Hu,Zu h.nn]
 cases t with
 | nil_=>exact h.elim
 | ic112 s=>rw [show Du F (.ic112 s)=D8 F s from rfl] at he;show (D8 F s).bind _=_;rw [he];rfl
 | ic114 s=>rw [show Du F (.ic114 s)=D7 F s from rfl] at he;show (D7 F s).bind _=_;rw [he];rfl
 | ic116 s=>rw [show Du F (.ic116 s)=Dm F s from rfl] at he;show (Dm F s).bind _=_;rw [he];rfl
theorem Ua {F:Nat} (hF:200000≤F) {t:volume_thing} (h:vT t) (hl:(Al t).length+100≤F):H0 F (B4 t)=some (Gb t,0):=by
 rw [H0,Vg (by omega) h,sb,B3 (by rfl)]
 show (J6 F t).bind _=_
 rw [Xt hF h.ok hl]
 rfl
def B5 (ts:List volume_thing):List Int:=Br (ts.map Av)
theorem Ji (t:volume_thing) (ts:List volume_thing):B5 (t::ts)=Gb t++B5 ts:=by
 unfold B5 Gb;rw [List.map_cons,E8];rfl
theorem Jl {t:volume_thing} (h:vT t):(Av t).length≤(Al t).length+14:=by
 have hl:=M8 h.ok
 have h9:=Em (x:=((Al t).length:Int)) ⟨by omega,by omega⟩
 rw [Int.toNat_natCast] at h9
 unfold Av Dl
 simp only [List.length_append,Kc]
 omega
theorem W0 {F:Nat} (hF:200000≤F) (ts:List volume_thing) (hv:∀t∈ts,vT t∧(Al t).length+100≤F) (hl:4+(B5 ts).length≤16777216):∀(m i:Nat) (acc:List Int),ts.length-i<m→i≤ts.length→ts.length≤1000→acc++B5 (ts.drop i)=RVF1++B5 ts →
  G2 F (ts.map B4) m i acc=some (RVF1++B5 ts,0):=by
 intro m
 induction m with
 | zero=>intro i acc h;omega
 | succ m ih =>
  intro i acc h hi hn hacc
  rw [G2,Jg,List.length_map]
  have hal:acc.length+(B5 (ts.drop i)).length=4+(B5 ts).length:=by
   have:=congrArg List.length hacc
   rw [List.length_append,List.length_append] at this
   exact this
  by_cases hb:i<ts.length
  ·have hd:=List.drop_eq_getElem_cons hb
   obtain ⟨h1,h2⟩:=hv ts[i] (List.getElem_mem hb)
   rw [hd,Ji,List.length_append] at hal
   rw [B6 (dT (by omega)),El i (B4 ts[i]) rfl (by rw [List.getElem?_map,List.getElem?_eq_getElem hb];rfl),Ua hF h1 h2,sb,B3 (by rfl),Lv (by simp only;omega) (by decide),ckb (by omega)]
   exact ih (i+1) _ (by omega) (by omega) hn (by rw [←hacc,hd,Ji,List.append_assoc])
  ·rw [B3 (dF (by omega)),Jh]
   rw [List.drop_of_length_le (by omega)] at hacc hal
   rw [show B5 []=[] from rfl,List.append_nil] at hacc
   rw [show B5 []=[] from rfl] at hal
   rw [B3 (dF (by simp at hal;omega)),hacc]
theorem Zd {F:Nat} (hF:200000≤F) {ts:List volume_thing} (hv:∀t∈ts,vT t∧(Al t).length+100≤F) (hl:4+(B5 ts).length≤16777216) (hn:ts.length≤1000):H9 F (ts.map B4)=some (RVF1++B5 ts,0):=by
 rw [H9,B3 (dF (by rw [List.length_map];omega))]
 exact W0 hF ts hv hl F 0 RVF1 (by omega) (by omega) hn rfl
theorem Jv {ts:List volume_thing} (h:∀t∈ts,okI t):(B5 ts).length≤6015*ts.length:=by
 induction ts with
 | nil=>simp [B5,Br]
 | cons t ts ih =>
  obtain ⟨h1,h2,h3⟩:=h t (by simp)
  have:=ih fun t ht=>h t (by simp [ht])
  have hp:=Jl h1
  rw [Ji,List.length_append]
  unfold Gb
  simp only [List.length_cons]
  omega
theorem okI.nz {ts:List volume_thing} (h:∀t∈ts,okI t):∀q∈ts.map Av,Nz q:=fun q hq=>by
 obtain ⟨t,ht,rfl⟩:=List.mem_map.1 hq
 exact Ku (h t ht).2.1
theorem Xp {F:Nat} (hF:200000≤F) {ts:List volume_thing} (h:∀t∈ts,okI t) (hn:ts.length≤20):H9 F (ts.map B4)=some (RVF1++B5 ts,0):=by
 have hl:=Jv h
 exact Zd hF (fun t ht=>⟨(h t ht).1,by have:=(h t ht).2.2;omega⟩) (by omega) (by omega)
end Go.Proofs.Ytifbomimeodibaa
namespace Go.Proofs.Ytifbomimeodibaa
open Go Go.RowKit Go.Eng
set_option maxRecDepth 10000
set_option linter.unusedVariables false
set_option linter.unusedSimpArgs false
theorem Rr {α:Type} [DecidableEq α] {a b:List α} {i:Nat} (ha:i<a.length) (hb:i<b.length):decide (a.drop i=b.drop i)=(decide (a[i]=b[i])&&decide (a.drop (i+1)=b.drop (i+1))):=by
 rw [List.drop_eq_getElem_cons ha,List.drop_eq_getElem_cons hb,Bool.eq_iff_iff,decide_eq_true_eq,List.cons.injEq,Bool.and_eq_true,decide_eq_true_eq,decide_eq_true_eq]
theorem Qg {α:Type} [DecidableEq α] {a b:List α} {i:Nat} (ha:a.length≤i) (hb:b.length≤i):decide (a.drop i=b.drop i)=true:=by
 rw [List.drop_of_length_le ha,List.drop_of_length_le hb];simp
theorem Yx (p0 p1:api_Sweep) (j:Nat) (k2:Int→Option Bool) (a b:List api_Echo) (ha:p0.Rays[j]? = some a) (hb:p1.Rays[j]? = some b) (hl:a.length=b.length) (h9:a.length≤1000000):∀(m i:Nat),a.length-i<m→i≤a.length →
  Gt p0 p1 j k2 m i=bif decide (a.drop i=b.drop i) then Hp j k2 else some false:=by
 intro m
 induction m with
 | zero=>intro i h;omega
 | succ m ih =>
  intro i h hi
  rw [Gt,K5,El j a rfl ha]
  by_cases hlt:i<a.length
  ·rw [B6 (dT (by omega)),El j a rfl ha,El i a[i] rfl (List.getElem?_eq_getElem hlt),El j b rfl hb,El i b[i] rfl (List.getElem?_eq_getElem (by omega)),Rs,Rr hlt (by omega)]
   by_cases he:a[i]=b[i]
   ·rw [B3 (by simp [he]),ckb (by omega)]
    have:=ih (i+1) (by omega) (by omega)
    rw [show ((i:Int)+1)=((i+1:Nat):Int) by omega,this,dT he,Bool.true_and]
   ·rw [B6 (by simp [he]),dF he,Bool.false_and,B3 rfl]
  ·rw [B3 (dF (by omega)),Qg (by omega) (by omega),B6 rfl]
def A0w (s:api_Sweep):Prop:=s.Rays.length≤1000∧∀r∈s.Rays,r.length≤1000
theorem Xh {F:Nat} (hF:2000≤F) (p0 p1:api_Sweep) (h0:A0w p0) (hl:p0.Rays.length=p1.Rays.length):∀(m i:Nat),p0.Rays.length-i<m→i≤p0.Rays.length→Fp F p0 p1 m i=some (decide (p0.Rays.drop i=p1.Rays.drop i)):=by
 intro m
 obtain ⟨hn,hr⟩:=h0
 induction m with
 | zero=>intro i h;omega
 | succ m ih =>
  intro i h hi
  rw [Fp,K4]
  by_cases hb:i<p0.Rays.length
  ·have hri:=hr _ (List.getElem_mem hb)
   rw [B6 (dT (by omega)),El i p0.Rays[i] rfl (List.getElem?_eq_getElem hb),El i p1.Rays[i] rfl (List.getElem?_eq_getElem (by omega)),Rr hb (by omega)]
   by_cases hle:p0.Rays[i].length=p1.Rays[i].length
   ·rw [B3 (by simp [hle])]
    have hrow:=Yx p0 p1 i (Fp F p0 p1 m) _ _ (List.getElem?_eq_getElem hb) (List.getElem?_eq_getElem (show i<p1.Rays.length by omega)) hle (by omega) F 0 (by omega) (by omega)
    refine hrow.trans ?_
    rw [List.drop_zero,List.drop_zero]
    by_cases he:p0.Rays[i]=p1.Rays[i]
    ·have:=ih (i+1) (by omega) (by omega)
     rw [dT he,B6 rfl,Hp,ckb (by omega),show ((i:Int)+1)=((i+1:Nat):Int) by omega,this,Bool.true_and]
    ·rw [dF he,B3 rfl,Bool.false_and]
   ·rw [B6 (by simp;omega),dF (fun e=>hle (by rw [e])),Bool.false_and]
  ·rw [B3 (dF (by omega)),K6,Qg (by omega) (by omega)]
theorem A25 (a b:ByteArray):(a==b)=decide (a=b):=by
 rw [Bool.eq_iff_iff,decide_eq_true_eq]
 cases a with
 | mk x =>
  cases b with
  | mk y =>
   rw [ByteArray.mk.injEq,←beq_iff_eq (a:=x)]
   rfl
theorem A07 (a b:api_Site):((a.Name==b.Name)&&(((a.X:Int)==b.X)&&(((a.Y:Int)==b.Y)&&(((a.Z:Int)==b.Z)&&(((a.Rose:Int)==b.Rose)&&(((a.Gates:Int)==b.Gates)&&(((a.Step:Int)==b.Step)&&(((a.Width:Int)==b.Width)&&true))))))))=decide (a=b):=by
 rw [A25]
 cases a;cases b
 rw [Bool.eq_iff_iff]
 simp [and_assoc]
theorem A1s {F:Nat} (hF:2000≤F) (a b:api_Sweep) (ha:A0w a):L9 F a b=some (decide (a=b)):=by
 rw [L9,A07]
 by_cases h1:a.Site=b.Site∧a.Tilt=b.Tilt∧a.Time=b.Time∧a.Rays.length=b.Rays.length
 ·obtain ⟨h1,h2,h3,h4⟩:=h1
  rw [B3 (by simp [h1,h2,h3,h4])]
  refine (Xh hF a b ha h4 F 0 (by have:=ha.1;omega) (by omega)).trans ?_
  rw [List.drop_zero,List.drop_zero]
  congr 1
  cases a;cases b
  simp only at h1 h2 h3
  rw [Bool.eq_iff_iff]
  simp [h1,h2,h3]
 ·rw [B6 ?_,dF (fun e=>h1 (by rw [e];exact ⟨rfl,rfl,rfl,rfl⟩))]
  by_cases g1:a.Site=b.Site
  ·by_cases g2:a.Tilt=b.Tilt
   ·by_cases g3:a.Time=b.Time
    ·have g4:¬a.Rays.length=b.Rays.length:=fun e=>h1 ⟨g1,g2,g3,e⟩
     simp [g1,g2,g3];omega
    ·simp [g1,g2,g3]
   ·simp [g1,g2]
  ·simp [g1]
theorem Xo (p0 p1:api_Field) (hl:p0.Vals.length=p1.Vals.length) (h9:p0.Vals.length≤1000000):∀(m i:Nat),p0.Vals.length-i<m→i≤p0.Vals.length→Gr p0 p1 m i=some (decide (p0.Vals.drop i=p1.Vals.drop i)):=by
 intro m
 induction m with
 | zero=>intro i h;omega
 | succ m ih =>
  intro i h hi
  rw [Gr,Jz]
  by_cases hb:i<p0.Vals.length
  ·rw [B6 (dT (by omega)),El i p0.Vals[i] rfl (List.getElem?_eq_getElem hb),El i p1.Vals[i] rfl (List.getElem?_eq_getElem (by omega)),S0,Rr hb (by omega)]
   by_cases he:p0.Vals[i]=p1.Vals[i]
   ·rw [B3 (by simp [he]),ckb (by omega)]
    have:=ih (i+1) (by omega) (by omega)
    rw [show ((i:Int)+1)=((i+1:Nat):Int) by omega,this,dT he,Bool.true_and]
   ·rw [B6 (by simp [he]),dF he,Bool.false_and]
  ·rw [B3 (dF (by omega)),K0,Qg (by omega) (by omega)]
theorem Zn (a b:api_Grid):(((a.X:Int)==b.X)&&(((a.Y:Int)==b.Y)&&(((a.Size:Int)==b.Size)&&(((a.Wide:Int)==b.Wide)&&(((a.High:Int)==b.High)&&true)))))=decide (a=b):=by
 cases a;cases b
 rw [Bool.eq_iff_iff]
 simp [and_assoc]
theorem A11 {F:Nat} (hF:6000≤F) (a b:api_Field) (ha:a.Vals.length≤5000):L8 F a b=some (decide (a=b)):=by
 rw [L8,Zn]
 by_cases h1:a.Grid=b.Grid∧a.Vals.length=b.Vals.length
 ·obtain ⟨h1,h4⟩:=h1
  rw [B3 (by simp [h1,h4])]
  refine (Xo a b h4 (by omega) F 0 (by omega) (by omega)).trans ?_
  rw [List.drop_zero,List.drop_zero]
  congr 1
  cases a;cases b
  simp only at h1
  rw [Bool.eq_iff_iff]
  simp [h1]
 ·rw [B6 ?_,dF (fun e=>h1 (by rw [e];exact ⟨rfl,rfl⟩))]
  by_cases g1:a.Grid=b.Grid
  ·have g4:¬a.Vals.length=b.Vals.length:=fun e=>h1 ⟨g1,e⟩
   simp [g1];omega
  ·simp [g1]
def U3 (x:volume_Item):Prop:=A0w x.Sweep∧x.Field.Vals.length≤5000
theorem Wo (a b:ByteArray):sEq a b=decide (a=b):=by rw [Bool.eq_iff_iff,Rz,decide_eq_true_eq]
theorem A0j {F:Nat} (hF:6000≤F) (a b:volume_Item) (ha:U3 a):Ho F a b=some (decide (a=b)):=by
 rw [Ho,Wo,Wo]
 by_cases h1:a.Kind=b.Kind∧a.Name=b.Name∧a.Time=b.Time∧a.Text=b.Text
 ·obtain ⟨h1,h2,h3,h4⟩:=h1
  rw [gdT (by simp [h1,h2,h3,h4]),A1s (by omega) _ _ ha.1,sb]
  by_cases h5:a.Sweep=b.Sweep
  ·rw [gdT (by simp [h1,h2,h3,h4,h5]),A11 hF _ _ ha.2,sb]
   congr 1
   cases a;cases b
   simp only at h1 h2 h3 h4 h5
   rw [Bool.eq_iff_iff]
   simp [h1,h2,h3,h4,h5]
  ·rw [gdF (by simp [h5]),sb,dF (show ¬a=b from fun e=>h5 (by rw [e]))]
   simp [h5]
 ·have hc:(bif (bif (bif (a.Kind==b.Kind) then (decide (a.Name=b.Name)) else false) then (a.Time==b.Time) else false) then (decide (a.Text=b.Text)) else false)=false:=by
   by_cases g1:a.Kind=b.Kind
   ·by_cases g2:a.Name=b.Name
    ·by_cases g3:a.Time=b.Time
     ·have g4:¬a.Text=b.Text:=fun e=>h1 ⟨g1,g2,g3,e⟩
      simp [g4]
     ·simp [g3]
    ·simp [g2]
   ·simp [g1]
  rw [hc,gdF (by rfl),sb,gdF (by rfl),sb,dF (show ¬a=b from fun e=>h1 (by rw [e];exact ⟨rfl,rfl,rfl,rfl⟩))]
  rfl
theorem Vk {F:Nat} (hF:6000≤F) (a b:List volume_Item) (hl:a.length=b.length) (h9:a.length≤1000000) (hc:∀x∈a,U3 x):∀(m i:Nat),a.length-i<m→i≤a.length→Gs F a b m i=some (decide (a.drop i=b.drop i)):=by
 intro m
 induction m with
 | zero=>intro i h;omega
 | succ m ih =>
  intro i h hi
  rw [Gs,K1]
  by_cases hb:i<a.length
  ·rw [B6 (dT (by omega)),El i a[i] rfl (List.getElem?_eq_getElem hb),El i b[i] rfl (List.getElem?_eq_getElem (by omega)),Rr hb (by omega),A0j hF _ _ (hc _ (List.getElem_mem hb)),sb]
   by_cases he:a[i]=b[i]
   ·rw [B3 (by simp [he]),ckb (by omega)]
    have:=ih (i+1) (by omega) (by omega)
    rw [show ((i:Int)+1)=((i+1:Nat):Int) by omega,this,dT he,Bool.true_and]
   ·rw [B6 (by simp [he]),dF he,Bool.false_and]
  ·rw [B3 (dF (by omega)),K2,Qg (by omega) (by omega)]
theorem U6 {F:Nat} (hF:6000≤F) (a b:List volume_Item) (h9:a.length<F) (h10:a.length≤1000000) (hc:∀x∈a,U3 x):Gz F a b=some (decide (a=b)):=by
 rw [Gz]
 by_cases h:a.length=b.length
 ·rw [B3 (by simp [h]),show (0:Int)=((0:Nat):Int) from rfl,Vk hF a b h h10 hc F 0 (by omega) (by omega),List.drop_zero,List.drop_zero]
 ·rw [B6 (by simp;omega),dF (fun e=>h (by rw [e]))]
theorem vT.cmp {t:volume_thing} (h:vT t):U3 (B4 t):=by
 cases t with
 | nil_=>exact h.elim
 | ic112 s =>
  obtain ⟨⟨_,_,_,_,r,g,_⟩,_,_,h1,h2,_⟩:=(show vSweep s.Sweep from h)
  exact ⟨⟨show s.Sweep.Rays.length≤1000 by have:=r.2;omega,fun row hr=>by have:=h2 row hr;have:=g.2;omega⟩,Nat.zero_le _⟩
 | ic114 f =>
  obtain ⟨_,_,hg,h1,_⟩:=(show Rb f from h)
  have:=Nu hg
  exact ⟨⟨Nat.zero_le _,fun r hr=>by cases hr⟩,show f.Field.Vals.length≤5000 by omega⟩
 | ic116 n=>exact ⟨⟨Nat.zero_le _,fun r hr=>by cases hr⟩,Nat.zero_le _⟩
end Go.Proofs.Ytifbomimeodibaa
namespace Go.Proofs.Ytifbomimeodibaa
open Go Go.RowKit Go.Eng
set_option maxRecDepth 10000
set_option linter.unusedVariables false
set_option linter.unusedSimpArgs false
theorem A1e (k:Nat) (f:Bool):rD k f []=none:=by cases k<;>rfl
theorem Yf:∀(n j:Nat),j<(Dq n).length→Tc ((Dq n).take j)=true∧∀k f,rD k f ((Dq n).take j)=none:=by
 intro n
 induction n using Nat.strongRecOn with
 | _ n ih =>
  intro j h
  cases j with
  | zero=>exact ⟨rfl,fun k f=>by rw [List.take_zero];exact A1e k f⟩
  | succ j =>
   by_cases hn:n<127
   ·rw [Hj hn] at h;simp at h
   ·rw [Mi (by omega)] at h ⊢
    have hm:=Nat.mod_lt n (show 0<127 by decide)
    simp only [List.length_cons] at h
    obtain ⟨h1,h2⟩:=ih (n/127) (Nat.div_lt_self (by omega) (by decide)) j (by omega)
    rw [List.take_succ_cons]
    constructor
    ·unfold Tc at h1 ⊢
     rw [List.all_cons,h1,dT (show (128:Int)+((n%127:Nat):Int)≥128 by omega),dT (show (128:Int)+((n%127:Nat):Int)≤254 by omega)]
     rfl
    ·intro k f
     cases k with
     | zero=>rfl
     | succ k=>rw [rD,if_neg (by rintro (h|h|⟨h,_⟩)<;>omega),if_neg (by omega),h2];rfl
theorem Vw {t:volume_thing} (h:vT t) {j:Nat} (hj:j<(Av t).length):unS ((Av t).take j)=(.nil_,15)∧T5 ((Av t).take j)=true:=by
 have hl:=M8 h.ok
 have hp:Av t=Dq (Al t).length++(Al t++Jb (Dl (Al t))):=by unfold Av Dl;rw [List.append_assoc]
 by_cases hlt:j<(Dq (Al t).length).length
 ·have e:(Av t).take j=(Dq (Al t).length).take j:=by rw [hp,List.take_append_of_le_length (by omega)]
  obtain ⟨h1,h2⟩:=Yf (Al t).length j hlt
  rw [e]
  have hr:rN ((Dq (Al t).length).take j)=none:=h2 8 true
  constructor
  ·unfold unS;rw [hr]
  ·unfold T5;rw [h1];rfl
 ·obtain ⟨i,rfl⟩:∃i,j=(Dq (Al t).length).length+i:=⟨j-(Dq (Al t).length).length,by omega⟩
  have e:(Av t).take ((Dq (Al t).length).length+i)=Dq (Al t).length++(Al t++Jb (Dl (Al t))).take i:=by rw [hp,List.take_length_add_append]
  have hi:i<(Al t).length+5:=by
   rw [hp] at hj
   simp only [List.length_append,Kc] at hj
   omega
  have hlen:((Al t++Jb (Dl (Al t))).take i).length=i:=by
   rw [List.length_take,List.length_append,Kc];omega
  have hr:rN (Dq (Al t).length++(Al t++Jb (Dl (Al t))).take i)=some (((Al t).length:Int),(Al t++Jb (Dl (Al t))).take i):=Ng _ (by omega)
  rw [e]
  constructor
  ·unfold unS
   rw [hr]
   show (if ((((Al t++Jb (Dl (Al t))).take i).length:Nat):Int)≠((Al t).length:Int)+5 then _ else _)=_
   rw [if_pos (by omega)]
  ·unfold T5
   rw [hr]
   show (_||decide ((((Al t++Jb (Dl (Al t))).take i).length:Int)<((Al t).length:Int)+5))=true
   rw [dT (by omega),Bool.or_true]
theorem R1 (a b:List volume_thing):B5 (a++b)=B5 a++B5 b:=by
 unfold B5 Br;rw [List.map_append,List.flatMap_append]
theorem Zz {ts:List volume_thing} (total:Int) (h:∀t∈ts,vT t) (qs:List (List Int)):∀k:Int,rdF total k (ts.map Av++qs)=(ts.map B4++(rdF total (k+(B5 ts).length) qs).1,(rdF total (k+(B5 ts).length) qs).2):=by
 induction ts with
 | nil=>intro k;simp [B5,Br]
 | cons t ts ih =>
  intro k
  rw [List.map_cons,List.cons_append,rdF,V8 (h t (by simp)),if_pos rfl,ih (fun t ht=>h t (by simp [ht]))]
  have e:k+1+((Av t).length:Int)+((B5 ts).length:Int)=k+((B5 (t::ts)).length:Int):=by
   rw [Ji,List.length_append,Gb,List.length_cons];omega
  rw [e]
  rfl
def off (ts:List volume_thing) (i:Nat):Nat:=4+(B5 (ts.take i)).length
theorem P1 {ts:List volume_thing} {i:Nat} (h:i<ts.length):off ts (i+1)=off ts i+(Av ts[i]).length+1:=by
 unfold off
 rw [List.take_succ_eq_append_getElem h,R1,List.length_append]
 have:B5 [ts[i]]=Gb ts[i]:=by rw [Ji];simp [B5,Br]
 rw [this,Gb,List.length_cons];omega
theorem Zv (ts:List volume_thing):off ts ts.length=4+(B5 ts).length:=by unfold off;rw [List.take_length]
theorem Yl (ts:List volume_thing) (i:Nat):off ts i≤4+(B5 ts).length:=by
 unfold off
 have:=congrArg (fun l=>(B5 l).length) (List.take_append_drop i ts)
 simp only [R1,List.length_append] at this
 omega
def Lw (ts:List volume_thing) (n:Nat):List Int:=(List.range n).map fun i=>(off ts i:Int)
theorem Ml (ts:List volume_thing) {n i:Nat} (h:i<n):(Lw ts n)[i]? = some (off ts i:Int):=by
 unfold Lw;rw [List.getElem?_map,List.getElem?_range h];rfl
theorem Wz {F:Nat} (hF:200000≤F) {ts:List volume_thing} (h:∀t∈ts,okI t) (hn:ts.length≤20):∀(m i:Nat),ts.length-i<m→i≤ts.length →
  Ej F (ts.map B4) m i (Lw ts (i+1))=some (Lw ts (ts.length+1)):=by
 intro m
 have hl:=Jv h
 induction m with
 | zero=>intro i h;omega
 | succ m ih =>
  intro i h1 hi
  rw [Ej,J0]
  by_cases hb:i<ts.length
  ·have ht:=h ts[i] (List.getElem_mem hb)
   have hp:=Jl ht.1
   have ho:=Yl ts i
   have hbl:(Gb ts[i]).length=(Av ts[i]).length+1:=by rw [Gb,List.length_cons]
   have hlen:(Lw ts (i+1)).length=i+1:=by unfold Lw;simp
   have h6:=ht.2.2
   rw [B6 (dT (by rw [List.length_map];omega)),El i (B4 ts[i]) rfl (by rw [List.getElem?_map,List.getElem?_eq_getElem hb];rfl),Ua hF ht.1 (by omega),sb,ckb (by omega),El i (off ts i:Int) (by omega) (Ml ts (by omega)),ckb (by simp only;omega),Lv (by simp [hlen];omega) (by decide),ckb (by omega)]
   have e:Lw ts (i+1)++[(off ts i:Int)+((Gb ts[i]).length:Int)]=Lw ts (i+1+1):=by
    have:((off ts i:Int)+((Gb ts[i]).length:Int))=((off ts (i+1):Nat):Int):=by rw [P1 hb];omega
    rw [this]
    unfold Lw
    rw [List.range_succ (n:=i+1),List.map_append]
    rfl
   show Ej F (ts.map B4) m ((i:Int)+1) (Lw ts (i+1)++[(off ts i:Int)+((Gb ts[i]).length:Int)])=_
   rw [e]
   exact ih (i+1) (by omega) (by omega)
  ·rw [B3 (dF (by rw [List.length_map];omega)),J1,show i=ts.length by omega]
theorem Vf {F:Nat} (hF:200000≤F) {ts:List volume_thing} (h:∀t∈ts,okI t) (hn:ts.length≤20):J8 F (ts.map B4)=some (Lw ts (ts.length+1)):=by
 rw [J8]
 exact Wz hF h hn F 0 (by omega) (by omega)
end Go.Proofs.Ytifbomimeodibaa
namespace Go.Proofs.Ytifbomimeodibaa
open Go Go.RowKit Go.Eng
set_option maxRecDepth 10000
set_option linter.unusedVariables false
set_option linter.unusedSimpArgs false
theorem Z0 {s1 s2 a:Nat} (h1:s1<2147483647) (h2:s2<2147483647) (h:(31*s1+a)%2147483647=(31*s2+a)%2147483647):s1=s2:=by omega
theorem Z4:∀(l:List Int) (s1 s2:Nat),s1<2147483647→s2<2147483647→R9 s1 l=R9 s2 l→s1=s2:=by
 intro l
 induction l with
 | nil=>intro s1 s2 _ _ h;exact h
 | cons x l ih =>
  intro s1 s2 h1 h2 h
  exact Z0 h1 h2 (ih _ _ (Nat.mod_lt _ (by decide)) (Nat.mod_lt _ (by decide)) h)
theorem Z5 (l:List Int):∀(j c:Nat) (x y:Int),l[j]? = some y→(0≤x∧x<256)→(0≤y∧y<256)→R9 c (l.set j x)=R9 c l→x=y:=by
 induction l with
 | nil=>intro j c x y h;simp at h
 | cons z l ih =>
  intro j c x y h hx hy he
  cases j with
  | zero =>
   simp at h
   subst h
   have:=Z4 l _ _ (Nat.mod_lt _ (by decide)) (Nat.mod_lt _ (by decide)) he
   omega
  | succ j=>exact ih j _ x y (by simpa using h) hx hy he
theorem Z3 {c d:Nat} (hc:c<2147483647) (hd:d<2147483647) (h:Vv c=Vv d):c=d:=by
 unfold Vv at h
 simp only [List.cons.injEq,and_true] at h
 obtain ⟨h1,h2,h3,h4,h5⟩:=h
 omega
theorem V7 {t:volume_thing} (h:vT t):∃b0 B,Al t=b0::B∧2≤b0∧b0≤4:=by
 have hn:∀k:Int,1≤k→k≤3→Dq k.toNat=[k+1]:=fun k h1 h2=>by rw [Hj (by omega)];congr 1;omega
 cases t with
 | nil_=>exact h.elim
 | ic112 s=>exact ⟨2,_,by show Ni s.Sweep=_;rw [Ni,Fs,List.flatMap_cons,List.flatMap_nil,hn 1 (by decide) (by decide)];rfl,by decide,by decide⟩
 | ic114 s=>exact ⟨3,_,by show N4 s=_;rw [N4,Fs,List.flatMap_cons,List.flatMap_nil,hn 2 (by decide) (by decide)];rfl,by decide,by decide⟩
 | ic116 s=>exact ⟨4,_,by show Qo s=_;rw [Qo,Fs,List.flatMap_cons,hn 3 (by decide) (by decide)];rfl,by decide,by decide⟩
theorem S3 {p:List Int} (h:∀n r,rN p=some (n,r)→(r.length:Int)≠n+5):unS p=(.nil_,15):=by
 unfold unS
 cases hr:rN p with
 | none=>rfl
 | some y =>
  obtain ⟨n,r⟩:=y
  show (if (r.length:Int)≠n+5 then _ else _)=_
  rw [if_pos (h n r hr)]
theorem Nf {k:Nat} {f:Bool} {c:Int} {l:List Int} {n:Int} {r:List Int} (h:rD (k+1) f (c::l)=some (n,r)):(c<128∧n=c-1∧r=l∧c≠0)∨(128≤c∧c≠255∧∃n',rD k false l=some (n',r)∧n=c-128+127*n'):=by
 rw [rD] at h
 split at h
 ·cases h
 ·rename_i g
  split at h
  ·rename_i g2
   cases h
   exact .inl ⟨g2,rfl,rfl,fun e=>g (.inl e)⟩
  ·rename_i g2
   obtain ⟨⟨n',r'⟩,h1,h2⟩:=Option.map_eq_some_iff.1 h
   cases h2
   exact .inr ⟨by omega,fun e=>g (.inr (.inl e)),n',h1,rfl⟩
theorem Zh {n:Nat} (hn:n<127) {b0:Int} {B S:List Int} (hb:2≤b0∧b0≤4) (hB:B.length+1=n) (hS:S.length=5) {c:Int} (hc:1≤c∧c<256) (hne:c≠(n:Int)+1):unS (c::(b0::B++S))=(.nil_,15):=by
 refine S3 fun m r h=>?_
 rcases Nf h with ⟨h1,h2,h3,_⟩|⟨h1,h2,m',h3,h4⟩
 ·subst h3
  simp only [List.cons_append,List.length_cons,List.length_append]
  omega
 ·rcases Nf h3 with ⟨g1,g2,g3,_⟩|⟨g1,_⟩
  ·have g3':r=B++S:=g3
   subst g3'
   simp only [List.length_append]
   omega
  ·omega
theorem Zi {n:Nat} (hn:127≤n∧n<16129) {B S:List Int} (hB:B.length=n) (hS:S.length=5) {c:Int} (hc:1≤c∧c<256) (hne:c≠128+((n%127:Nat):Int)):unS (c::(((n/127:Nat):Int)+1)::(B++S))=(.nil_,15):=by
 refine S3 fun m r h=>?_
 rcases Nf h with ⟨h1,h2,h3,_⟩|⟨h1,h2,m',h3,h4⟩
 ·subst h3
  simp only [List.length_cons,List.length_append]
  omega
 ·rcases Nf h3 with ⟨g1,g2,g3,_⟩|⟨g1,_⟩
  ·subst g3
   simp only [List.length_append]
   omega
  ·omega
theorem Zj {n:Nat} (hn:127≤n∧n<16129) {b0:Int} {B S:List Int} (hb:2≤b0∧b0≤4) (hB:B.length+1=n) (hS:S.length=5) {c:Int} (hc:1≤c∧c<256) (hne:c≠((n/127:Nat):Int)+1):unS ((128+((n%127:Nat):Int))::c::(b0::B++S))=(.nil_,15):=by
 refine S3 fun m r h=>?_
 rcases Nf h with ⟨h1,h2,h3,_⟩|⟨h1,h2,m',h3,h4⟩
 ·omega
 ·rcases Nf h3 with ⟨g1,g2,g3,_⟩|⟨g1,g2,m2,g3,g4⟩
  ·subst g3
   simp only [List.cons_append,List.length_cons,List.length_append]
   omega
  ·rcases Nf g3 with ⟨k1,k2,k3,_⟩|⟨k1,_⟩
   ·have k3':r=B++S:=k3
    subst k3'
    simp only [List.length_append]
    omega
   ·omega
theorem Xx {t:volume_thing} (ht:okI t) {j:Nat} {c y:Int} (hc:1≤c∧c<256) (hy:(Av t)[j]? = some y) (hne:c≠y):unS ((Av t).set j c)=(.nil_,15):=by
 obtain ⟨h1,h2,h3⟩:=ht
 obtain ⟨b0,B,hB,hb⟩:=V7 h1
 have hyb:=Ku h2 y (List.mem_of_getElem? hy)
 have hp:Av t=Dq (Al t).length++(Al t++Jb (Dl (Al t))):=by unfold Av Dl;rw [List.append_assoc]
 have hS:(Jb (Dl (Al t))).length=5:=rfl
 by_cases hj:j<(Dq (Al t).length).length
 ·by_cases hn:(Al t).length<127
  ·rw [hp,Hj hn] at hy ⊢
   rw [Hj hn] at hj
   have hj0:j=0:=by simpa using hj
   subst hj0
   have hy':y=((Al t).length:Int)+1:=by simpa using hy.symm
   have e:([((Al t).length:Int)+1]++(Al t++Jb (Dl (Al t)))).set 0 c=c::(b0::B++Jb (Dl (Al t))):=by rw [←hB];rfl
   rw [e]
   exact Zh hn hb (by rw [hB];rfl) hS hc (by omega)
  ·have hlt:(Al t).length/127<127:=by omega
   rw [hp,Mi (by omega),Hj hlt] at hy ⊢
   rw [Mi (by omega),Hj hlt] at hj
   have hj2:j=0∨j=1:=by simp at hj;omega
   rcases hj2 with rfl|rfl
   ·have hy':y=128+(((Al t).length%127:Nat):Int):=by simpa using hy.symm
    have e:((128+(((Al t).length%127:Nat):Int))::[(((Al t).length/127:Nat):Int)+1]++(Al t++Jb (Dl (Al t)))).set 0 c=c::((((Al t).length/127:Nat):Int)+1)::(Al t++Jb (Dl (Al t))):=rfl
    rw [e]
    exact Zi ⟨by omega,by omega⟩ rfl hS hc (by omega)
   ·have hy':y=(((Al t).length/127:Nat):Int)+1:=by simpa using hy.symm
    have e:((128+(((Al t).length%127:Nat):Int))::[(((Al t).length/127:Nat):Int)+1]++(Al t++Jb (Dl (Al t)))).set 1 c=(128+(((Al t).length%127:Nat):Int))::c::(b0::B++Jb (Dl (Al t))):=by rw [←hB];rfl
    rw [e]
    exact Zj ⟨by omega,by omega⟩ hb (by rw [hB];rfl) hS hc (by omega)
 ·have e:(Av t).set j c=Dq (Al t).length++(Al t++Jb (Dl (Al t))).set (j-(Dq (Al t).length).length) c:=by
   rw [hp,List.set_append_right _ _ (by omega)]
  have hr:rN ((Av t).set j c)=some (((Al t).length:Int),(Al t++Jb (Dl (Al t))).set (j-(Dq (Al t).length).length) c):=by rw [e];exact Ng _ (by omega)
  have hlen:(Av t).length=(Dl (Al t)).length+5:=by unfold Av;rw [List.length_append];rfl
  unfold unS
  rw [hr]
  show (if ((((Al t++Jb (Dl (Al t))).set (j-(Dq (Al t).length).length) c).length:Nat):Int)≠((Al t).length:Int)+5 then _ else if ((Av t).set j c).drop (((Av t).set j c).length-5)≠Jb (((Av t).set j c).take (((Av t).set j c).length-5)) then _ else _)=_
  rw [if_neg (by rw [List.length_set,List.length_append];simp [hS]),if_pos]
  rw [List.length_set,hlen,Nat.add_sub_cancel]
  intro hsum
  by_cases hjb:j<(Dl (Al t)).length
  ·have e1:(Av t).set j c=(Dl (Al t)).set j c++Jb (Dl (Al t)):=by rw [Av,List.set_append_left _ _ hjb]
   rw [e1,List.drop_left' (by simp),List.take_left' (by simp)] at hsum
   have h5:=Z3 (Wt _ 1 (by decide)) (Wt _ 1 (by decide)) hsum
   have hyp:(Dl (Al t))[j]? = some y:=by
    rw [Av,List.getElem?_append_left hjb] at hy;exact hy
   exact hne (Z5 _ j 1 c y hyp (by omega) (by omega) h5.symm)
  ·have e1:(Av t).set j c=Dl (Al t)++(Jb (Dl (Al t))).set (j-(Dl (Al t)).length) c:=by rw [Av,List.set_append_right _ _ (by omega)]
   rw [e1,List.drop_left,List.take_left] at hsum
   have hyp:(Jb (Dl (Al t)))[j-(Dl (Al t)).length]? = some y:=by
    rw [Av,List.getElem?_append_right (by omega)] at hy;exact hy
   have:=congrArg (fun l=>l[j-(Dl (Al t)).length]?) hsum
   try simp only at this
   rw [hyp,List.getElem?_set_self (List.getElem?_eq_some_iff.1 hyp).1] at this
   exact hne (Option.some.inj this)
end Go.Proofs.Ytifbomimeodibaa
namespace Go.Proofs.Ytifbomimeodibaa
open Go Go.RowKit Go.Eng
set_option maxRecDepth 10000
set_option linter.unusedVariables false
set_option linter.unusedSimpArgs false
noncomputable def svI:List (List Int)→List volume_Item
 | []=>[]
 | p::ps=>if (unS p).2=0 then B4 (unS p).1::svI ps else svI ps
noncomputable def svL:List (List Int)→Int
 | []=>0
 | p::ps=>if (unS p).2=0 then svL ps else svL ps+1
theorem Wv (ps:List (List Int)):(svI ps).length≤ps.length:=by
 induction ps with
 | nil=>exact Nat.le_refl _
 | cons p ps ih=>rw [svI];split<;>simp<;>omega
theorem Xj {F:Nat} (hF:200000≤F):∀(ps:List (List Int)) (k:Int) (acc:List volume_Item) (n:Int),(∀q∈ps,Nz q∧q.length<F∧q.length≤1000000000)→acc.length+ps.length≤1000000→0≤n∧n+ps.length≤1000000 →
  Pq (G7 F) (Pr k ps) (acc,n,0)=some ((acc++svI ps,n+svL ps,0),true):=by
 intro ps
 induction ps with
 | nil=>intro k acc n _ _ _;simp [Pr,Pq,svI,svL]
 | cons p ps ih =>
  intro k acc n h2 h3 h4
  obtain ⟨hp,hpl,hp9⟩:=h2 p (by simp)
  simp only [List.length_cons] at h3 h4
  have hun:=A0s hF hp.by hpl hp9
  rw [Pr,Pq,svI,svL,G7]
  simp only [hun,sb]
  by_cases h:(unS p).2=0
  ·have hv:=Za h
   have happ:(apd 224 acc [B4 (unS p).1]).bind (fun l405=>some ((l405,n,(0:Nat)),true))=some ((acc++[B4 (unS p).1],n,(0:Nat)),true):=Lv (by simp;omega) (by decide)
   rw [B6 (by simp [h]),We F hv.nn,sb,happ,sb,B6 rfl,if_pos h,if_pos h]
   rw [ih _ _ _ (fun q hq=>h2 q (by simp [hq])) (by simp;omega) (by omega),List.append_assoc]
   rfl
  ·rw [B3 (by simp [h]),if_neg h,if_neg h]
   have hck:(ck (n+1)).bind (fun x188=>some ((acc,x188,(0:Nat)),true))=some ((acc,n+1,(0:Nat)),true):=ckb (by omega)
   rw [hck,sb,B6 rfl,ih _ _ _ (fun q hq=>h2 q (by simp [hq])) (by omega) (by omega),show n+1+svL ps=n+(svL ps+1) by omega]
theorem Wp {F:Nat} (hF:200000≤F) {p:List Int} {ps:List (List Int)} (hp:Nz p) (hz:∀q∈ps,Nz q) (hl:(p++Br ps).length<F) (hl2:(p++Br ps).length≤16777216) (hn:ps.length≤1000):Cs F (p++Br ps)=some (svI ps,svL ps,0):=by
 have hq:∀q∈ps,q.length≤(Br ps).length:=by
  intro q hq
  clear hl hl2 hn hz
  induction ps with
  | nil=>cases hq
  | cons u us ih =>
   rw [E8]
   rcases List.mem_cons.1 hq with rfl|hq
   ·simp;omega
   ·have:=ih hq;simp;omega
 rw [List.length_append] at hl hl2
 have hf:=Xj hF ps p.length [] 0 (fun q h=>⟨hz q h,by have:=hq q h;omega,by have:=hq q h;omega⟩) (by simp;omega) (by omega)
 rw [Cs,B3 (dF (by rw [List.length_append];omega)),Tt F _ hp hz (by rw [List.length_append];omega) (by omega),hf,sb,B6 rfl,B3 (dF (by have:=Wv ps;simp;omega))]
 simp
theorem Wu (a b:List (List Int)):svI (a++b)=svI a++svI b∧svL (a++b)=svL a+svL b:=by
 induction a with
 | nil=>exact ⟨rfl,by simp [svL]⟩
 | cons p a ih =>
  obtain ⟨h1,h2⟩:=ih
  simp only [List.cons_append,svI,svL]
  split
  ·exact ⟨by rw [h1];rfl,h2⟩
  ·exact ⟨h1,by rw [h2];omega⟩
theorem Uf {ts:List volume_thing} (h:∀t∈ts,vT t):svI (ts.map Av)=ts.map B4∧svL (ts.map Av)=0:=by
 induction ts with
 | nil=>exact ⟨rfl,rfl⟩
 | cons t ts ih =>
  obtain ⟨h1,h2⟩:=ih fun t ht=>h t (by simp [ht])
  rw [List.map_cons,svI,svL,V8 (h t (by simp)),if_pos rfl,if_pos rfl,h1,h2]
  exact ⟨rfl,rfl⟩
theorem A23 {x y:Int} (hx:0≤x∧x<256) (hy:1≤y∧y<256):0≤Uh .u8 x y∧Uh .u8 x y<256∧Uh .u8 x y≠x:=by
 unfold Uh
 have hlt:=(BitVec.ofInt IntKind.u8.bits x ^^^ BitVec.ofInt IntKind.u8.bits y).isLt
 have hb:(2:Nat) ^ IntKind.u8.bits=256:=rfl
 rw [hb] at hlt
 rw [T8 (by omega)]
 refine ⟨by omega,by omega,fun h=>?_⟩
 have h1:(BitVec.ofInt IntKind.u8.bits x ^^^ BitVec.ofInt IntKind.u8.bits y)=BitVec.ofInt IntKind.u8.bits x:=by
  apply BitVec.eq_of_toNat_eq
  have:(BitVec.ofInt IntKind.u8.bits x).toNat=x.toNat:=by
   rw [BitVec.toNat_ofInt,hb];omega
  omega
 have h2:BitVec.ofInt IntKind.u8.bits y=0:=by
  have h3:=congrArg (fun z=>BitVec.ofInt IntKind.u8.bits x ^^^ z) h1
  simp only [←BitVec.xor_assoc,BitVec.xor_self,BitVec.zero_xor] at h3
  exact h3
 have h4:=congrArg BitVec.toNat h2
 rw [BitVec.toNat_ofInt,hb] at h4
 simp at h4
 omega
end Go.Proofs.Ytifbomimeodibaa
namespace Go.Proofs.Ytifbomimeodibaa
open Go Go.RowKit Go.Eng
set_option maxRecDepth 10000
set_option linter.unusedVariables false
set_option linter.unusedSimpArgs false
end Go.Proofs.Ytifbomimeodibaa
namespace Go.Proofs.Ytifbomimeodibaa
open Go Go.RowKit Go.Eng
set_option maxRecDepth 10000
set_option linter.unusedVariables false
set_option linter.unusedSimpArgs false
theorem Yu {F:Nat} {p l:List Int} (hp:Nz p) (hne:p≠[]) (hl:By l) (hl2:4+(p++l).length≤16777216):Cx F (RVF1++(p++l))=some ([],0,7):=by
 have hlen:(RVF1++(p++l)).length=4+(p++l).length:=by rw [List.length_append];rfl
 cases p with
 | nil=>exact absurd rfl hne
 | cons x p =>
  have hx:=hp x (by simp)
  have hg:D9 (RVF1++(x::p++l)) 4=some x:=rfl
  have hby:By (x::p++l):=hp.by.app hl
  have h4:(((RVF1++(x::p++l)).length:Nat):Int)>4:=by rw [hlen];simp;omega
  rw [Cx,B3 (dF (by omega)),show ([82,86,70,49]:List Int)=RVF1 from rfl,Tu F _ hby,sb,gdT (by rw [dT h4];rfl),hg,sb,dT h4,B6 (by have hx0:x≠0:=(by omega);simp [hx0])]
end Go.Proofs.Ytifbomimeodibaa
namespace Go.Proofs.Ytifbomimeodibaa
open Go Go.RowKit Go.Eng
set_option maxRecDepth 10000
set_option linter.unusedVariables false
set_option linter.unusedSimpArgs false
theorem Ve {A:List volume_thing} {q:List Int} {qs:List (List Int)} (hA:∀t∈A,okI t) (hA2:A.length≤20) (hq:Nz q) (hqs:∀u∈qs,Nz u) (hu:unS q=(.nil_,15)) (hn:qs.length≤30) (hl:(Br (q::qs)).length≤60000) :
  ∃e:Int,e≠0∧Cx FV (RVF1++(B5 A++Br (q::qs)))=some (A.map B4,((4+(B5 A).length:Nat):Int),e)∧Cs FV (RVF1++(B5 A++Br (q::qs)))=some (A.map B4++svI qs,1+svL qs,0):=by
 have hF:200000≤FV:=Nat.le_refl _
 have hFV:FV=200000:=rfl
 have hfl:=Jv hA
 have e:B5 A++Br (q::qs)=Br (A.map Av++q::qs):=by unfold B5 Br;rw [List.flatMap_append]
 have hlen:(Br (A.map Av++q::qs)).length=(B5 A).length+(Br (q::qs)).length:=by rw [←e,List.length_append]
 have hz:∀u∈A.map Av++q::qs,Nz u:=fun u hu=>by
  rcases List.mem_append.1 hu with h|h
  ·exact okI.nz hA u h
  ·rcases List.mem_cons.1 h with rfl|h
   ·exact hq
   ·exact hqs u h
 rw [e]
 have hr:=A00 hF hz (by omega) (by omega) (by simp;omega)
 have hs:=Wp hF RVF1_nz hz (by rw [List.length_append,hlen];simp [RVF1];omega) (by rw [List.length_append,hlen];simp [RVF1];omega) (by simp;omega)
 obtain ⟨s1,s2⟩:=Wu (A.map Av) (q::qs)
 obtain ⟨s3,s4⟩:=Uf fun t ht=>(hA t ht).1
 rw [s1,s2,s3,s4,svI,svL,hu] at hs
 rw [Zz _ (fun t ht=>(hA t ht).1),rdF] at hr
 simp only [hu] at hr hs
 rw [if_neg (by decide),List.append_nil] at hr
 rw [if_neg (by decide),if_neg (by decide)] at hs
 have e4:(4:Int)+((B5 A).length:Int)=((4+(B5 A).length:Nat):Int):=by omega
 rw [e4] at hr
 refine ⟨_,?_,hr,by rw [hs];congr 3;omega⟩
 split<;>decide
theorem Qp (ts:List volume_thing):∀{i j:Nat},i≤j→j≤ts.length→off ts i≤off ts j:=by
 intro i j hij
 induction j with
 | zero=>intro _;rw [show i=0 by omega];exact Nat.le_refl _
 | succ j ih =>
  intro hj
  by_cases h:i=j+1
  ·rw [h];exact Nat.le_refl _
  ·have:=ih (by omega) (by omega)
   rw [P1 (by omega)];omega
theorem Yk (ts:List volume_thing) {k:Nat} (h1:4≤k):∀n,n≤ts.length→k<off ts n→∃i,i<n∧off ts i≤k∧k<off ts (i+1):=by
 intro n
 induction n with
 | zero=>intro _ h;rw [show off ts 0=4 by simp [off,B5,Br]] at h;omega
 | succ n ih =>
  intro hn h
  by_cases hk:k<off ts n
  ·obtain ⟨i,a,b,c⟩:=ih (by omega) hk
   exact ⟨i,by omega,b,c⟩
  ·exact ⟨n,by omega,by omega,h⟩
def nl (t:volume_thing):Nat:=(Dq (Al t).length).length
theorem Ly {ts:List volume_thing} {i:Nat} (hi:i<ts.length):B5 ts=B5 (ts.take i)++(0::(Av ts[i]++B5 (ts.drop (i+1)))):=by
 have h:=congrArg B5 (List.take_append_drop i ts)
 rw [R1,List.drop_eq_getElem_cons hi,Ji,Gb] at h
 rw [←h];rfl
def Chg (ts:List volume_thing) (k:Nat) (c:Int) (w:List Int):Prop:=∃(i:Nat) (good e:Int),i≤ts.length∧e≠0∧good≤k∧Cx FV w=some ((ts.take i).map B4,good,e) ∧
 ∀i0 t,ts[i0]? = some t→off ts i0+1+nl t≤k→k<off ts (i0+1)→i=i0∧good=(off ts i0:Int)∧∃X lost,Cs FV w=some ((ts.take i0).map B4++(X++(ts.drop (i0+1)).map B4),lost,0)∧X.length≤1∧(c≠0→X=[]∧lost=1)
theorem A0v {ts:List volume_thing} (h:∀t∈ts,okI t) (hn:ts.length≤8) {i j:Nat} (hi:i<ts.length) (hj:j<(Av ts[i]).length) {c y:Int} (hc:0≤c∧c<256) (hy:(Av ts[i])[j]? = some y) (hne:c≠y):Chg ts (off ts i+1+j) c ((RVF1++B5 ts).set (off ts i+1+j) c):=by
 have hok:=h ts[i] (List.getElem_mem hi)
 have hA:∀t∈ts.take i,okI t:=fun t ht=>h t (List.mem_of_mem_take ht)
 have hB:∀t∈ts.drop (i+1),okI t:=fun t ht=>h t (List.mem_of_mem_drop ht)
 have hAl:(ts.take i).length≤20:=by rw [List.length_take];omega
 have hBl:=Jv hB
 have hpl:=Jl hok.1
 have hp6:=hok.2.2
 have hoff:off ts i=4+(B5 (ts.take i)).length:=rfl
 have hset:(RVF1++B5 ts).set (off ts i+1+j) c=RVF1++(B5 (ts.take i)++(0::((Av ts[i]).set j c++B5 (ts.drop (i+1))))):=by
  rw [Ly hi,List.set_append_right _ _ (by simp [RVF1];omega)]
  congr 1
  rw [List.set_append_right _ _ (by simp [RVF1];omega)]
  congr 1
  have:off ts i+1+j-RVF1.length-(B5 (ts.take i)).length=j+1:=by simp [RVF1];omega
  rw [this,List.set_cons_succ,List.set_append_left _ _ hj]
 have hdl:(ts.drop (i+1)).length≤20:=by rw [List.length_drop];omega
 have huniq:∀i0 t,ts[i0]? = some t→off ts i0+1+nl t≤off ts i+1+j→off ts i+1+j<off ts (i0+1)→i=i0:=by
  intro i0 t h1 h2 h3
  have hi0:=(List.getElem?_eq_some_iff.1 h1).1
  have hs:=P1 hi
  rcases Nat.lt_trichotomy i i0 with hlt|rfl|hlt
  ·have:=Qp ts (show i+1≤i0 by omega) (by omega)
   omega
  ·rfl
  ·have:=Qp ts (show i0+1≤i by omega) (by omega)
   omega
 by_cases h0:c=0
 ·subst h0
  have hsp:(Av ts[i]).set j 0++B5 (ts.drop (i+1))=(Av ts[i]).take j++Br ((Av ts[i]).drop (j+1)::(ts.drop (i+1)).map Av):=by
   rw [List.set_eq_take_append_cons_drop,if_pos hj,E8,List.append_assoc];rfl
  have e:(0:Int)::((Av ts[i]).set j 0++B5 (ts.drop (i+1)))=Br ((Av ts[i]).take j::(Av ts[i]).drop (j+1)::(ts.drop (i+1)).map Av):=by rw [hsp];exact (E8 _ _).symm
  have hnz:=Ku hok.2.1
  have hlen:(Br ((Av ts[i]).take j::(Av ts[i]).drop (j+1)::(ts.drop (i+1)).map Av)).length≤60000:=by
   rw [←e];simp only [List.length_cons,List.length_append,List.length_set];rw [List.length_drop] at hBl;omega
  obtain ⟨u1,_⟩:=Vw hok.1 hj
  obtain ⟨e',he0,hr,hs⟩:=Ve hA hAl (q:=(Av ts[i]).take j) (qs:=(Av ts[i]).drop (j+1)::(ts.drop (i+1)).map Av) (fun x hx=>hnz x (List.mem_of_mem_take hx)) (fun u hu=>by
   rcases List.mem_cons.1 hu with rfl|hu
   ·exact fun x hx=>hnz x (List.mem_of_mem_drop hx)
   ·exact okI.nz hB u hu) u1 (by simp;omega) hlen
  rw [←e,←hset] at hr hs
  refine ⟨i,(off ts i:Int),e',by omega,he0,by omega,hr,fun i0 t h1 h2 h3=>?_⟩
  obtain rfl:=huniq i0 t h1 h2 h3
  refine ⟨rfl,rfl,svI [(Av ts[i]).drop (j+1)],1+svL ((Av ts[i]).drop (j+1)::(ts.drop (i+1)).map Av),?_,Wv _,fun h=>absurd rfl h⟩
  rw [hs,show (Av ts[i]).drop (j+1)::(ts.drop (i+1)).map Av=[(Av ts[i]).drop (j+1)]++(ts.drop (i+1)).map Av from rfl,(Wu _ _).1,(Uf fun t ht=>(hB t ht).1).1]
 ·have e:(0:Int)::((Av ts[i]).set j c++B5 (ts.drop (i+1)))=Br ((Av ts[i]).set j c::(ts.drop (i+1)).map Av):=(E8 _ _).symm
  have hnz:=Ku hok.2.1
  have hlen:(Br ((Av ts[i]).set j c::(ts.drop (i+1)).map Av)).length≤60000:=by
   rw [←e];simp only [List.length_cons,List.length_append,List.length_set];rw [List.length_drop] at hBl;omega
  have hu:=Xx hok (j:=j) (c:=c) ⟨by omega,hc.2⟩ hy hne
  obtain ⟨e',he0,hr,hs⟩:=Ve hA hAl (q:=(Av ts[i]).set j c) (qs:=(ts.drop (i+1)).map Av) (fun x hx=>by
   rcases List.mem_or_eq_of_mem_set hx with hx|rfl
   ·exact hnz x hx
   ·exact ⟨by omega,hc.2⟩) (okI.nz hB) hu (by simp;omega) hlen
  rw [←e,←hset] at hr hs
  refine ⟨i,(off ts i:Int),e',by omega,he0,by omega,hr,fun i0 t h1 h2 h3=>?_⟩
  obtain rfl:=huniq i0 t h1 h2 h3
  obtain ⟨v1,v2⟩:=Uf fun t ht=>(hB t ht).1
  exact ⟨rfl,rfl,[],1+svL ((ts.drop (i+1)).map Av),by rw [hs,v1];rfl,Nat.zero_le _,fun _=>⟨rfl,by rw [v2];rfl⟩⟩
theorem Xz {ts:List volume_thing} (h:∀t∈ts,okI t) (hn:ts.length≤8) {i:Nat} (hi:i<ts.length) {c:Int} (hc:1≤c∧c<256):Chg ts (off ts i) c ((RVF1++B5 ts).set (off ts i) c):=by
 have hno:∀i0 t,ts[i0]? = some t→off ts i0+1+nl t≤off ts i→off ts i<off ts (i0+1)→False:=by
  intro i0 t h1 h2 h3
  have hi0:=(List.getElem?_eq_some_iff.1 h1).1
  rcases Nat.lt_or_ge i0 i with hlt|hlt
  ·have:=Qp ts (show i0+1≤i by omega) (by omega);omega
  ·have:=Qp ts hlt (by omega);omega
 have hok:=h ts[i] (List.getElem_mem hi)
 have hfl:=Jv h
 have hB:∀t∈ts.drop (i+1),okI t:=fun t ht=>h t (List.mem_of_mem_drop ht)
 have hoff:off ts i=4+(B5 (ts.take i)).length:=rfl
 cases i with
 | zero =>
  have hset:(RVF1++B5 ts).set (off ts 0) c=RVF1++((c::Av ts[0])++B5 (ts.drop 1)):=by
   have hs:=Ly hi
   rw [List.take_zero,show B5 []=[] from rfl,List.nil_append] at hs
   rw [hs,show off ts 0=4 by simp [off,B5,Br]]
   rfl
  have hl2:=congrArg List.length (Ly hi)
  rw [List.take_zero,show B5 []=[] from rfl,List.nil_append] at hl2
  replace hl2:(B5 ts).length=((0:Int)::(Av ts[0]++B5 (ts.drop 1))).length:=hl2
  have hr:=Yu (F:=FV) (p:=c::Av ts[0]) (l:=B5 (ts.drop 1)) (fun x hx=>by
   rcases List.mem_cons.1 hx with rfl|hx
   ·exact hc
   ·exact Ku hok.2.1 x hx) (by simp) (Sg (okI.nz hB)) (by simp only [List.length_cons,List.length_append] at hl2 ⊢;omega)
  rw [←hset] at hr
  exact ⟨0,0,7,by omega,by decide,by omega,hr,fun i0 t h1 h2 h3=>(hno i0 t h1 h2 h3).elim⟩
 | succ i =>
  have hi':i<ts.length:=by omega
  have hok':=h ts[i] (List.getElem_mem hi')
  have hA:∀t∈ts.take i,okI t:=fun t ht=>h t (List.mem_of_mem_take ht)
  have hoff':off ts i=4+(B5 (ts.take i)).length:=rfl
  have hos:=P1 hi'
  have hd:B5 (ts.drop (i+1))=0::(Av ts[i+1]++B5 (ts.drop (i+1+1))):=by rw [List.drop_eq_getElem_cons hi,Ji,Gb];rfl
  have hset:(RVF1++B5 ts).set (off ts (i+1)) c=RVF1++(B5 (ts.take i)++(0::((Av ts[i]++c::Av ts[i+1])++B5 (ts.drop (i+1+1))))):=by
   rw [Ly hi',hd,List.set_append_right _ _ (by simp [RVF1];omega)]
   congr 1
   rw [List.set_append_right _ _ (by simp [RVF1];omega)]
   congr 1
   have:off ts (i+1)-RVF1.length-(B5 (ts.take i)).length=(Av ts[i]).length+1:=by simp [RVF1];omega
   rw [this,List.set_cons_succ,List.set_append_right _ _ (Nat.le_refl _),Nat.sub_self]
   simp
  have e:(0:Int)::((Av ts[i]++c::Av ts[i+1])++B5 (ts.drop (i+1+1)))=Br ((Av ts[i]++c::Av ts[i+1])::(ts.drop (i+1+1)).map Av):=(E8 _ _).symm
  have hl':=M8 hok'.1.ok
  have hp:Av ts[i]=Dq (Al ts[i]).length++(Al ts[i]++Jb (Dl (Al ts[i]))):=by unfold Av Dl;rw [List.append_assoc]
  have hu:unS (Av ts[i]++c::Av ts[i+1])=(.nil_,15):=by
   refine S3 fun m r hr=>?_
   rw [hp,List.append_assoc,Ng _ (by omega)] at hr
   cases hr
   simp only [List.length_append,List.length_cons,Kc]
   omega
  have h61:=hok.2.2
  have h62:=hok'.2.2
  have hp1:=Jl hok.1
  have hp2:=Jl hok'.1
  have hBl:=Jv hB
  rw [List.length_drop] at hBl
  obtain ⟨e',he0,hr,hs⟩:=Ve hA (by rw [List.length_take];omega) (q:=Av ts[i]++c::Av ts[i+1]) (qs:=(ts.drop (i+1+1)).map Av) ((Ku hok'.2.1).app (fun x hx=>by
   rcases List.mem_cons.1 hx with rfl|hx
   ·exact hc
   ·exact Ku hok.2.1 x hx)) (okI.nz hB) hu (by simp;omega) (by rw [←e];simp only [List.length_cons,List.length_append];omega)
  rw [←e,←hset] at hr
  exact ⟨i,(off ts i:Int),e',by omega,he0,by omega,hr,fun i0 t h1 h2 h3=>(hno i0 t h1 h2 h3).elim⟩
end Go.Proofs.Ytifbomimeodibaa
namespace Go.Proofs.Ytifbomimeodibaa
open Go Go.RowKit Go.Eng
set_option maxRecDepth 10000
set_option linter.unusedVariables false
set_option linter.unusedSimpArgs false
theorem Zl {ts:List volume_thing} (h:∀t∈ts,okI t) (hn:ts.length≤8) {k:Nat} (hk:k<4) {c y:Int} (hc:0≤c∧c<256) (hy:RVF1[k]? = some y) (hne:c≠y):Chg ts k c ((RVF1++B5 ts).set k c):=by
 have hfl:=Jv h
 have hset:(RVF1++B5 ts).set k c=RVF1.set k c++B5 ts:=List.set_append_left _ _ hk
 have hl4:(RVF1.set k c).length=4:=by rw [List.length_set];rfl
 have hby:By (RVF1.set k c):=fun x hx=>by
  rcases List.mem_or_eq_of_mem_set hx with hx|rfl
  ·exact RVF1_nz.by x hx
  ·exact hc
 have hne2:RVF1.set k c≠RVF1:=fun e=>by
  have:=congrArg (fun l=>l[k]?) e
  try simp only at this
  rw [List.getElem?_set_self hk,hy] at this
  exact hne (Option.some.inj this)
 have hpre:F5 FV (RVF1.set k c++B5 ts) RVF1=some false:=by
  unfold F5
  rw [B6 (dT (by rw [List.length_append,hl4];simp [RVF1];omega)),Rg 4 rfl (by rfl) (by rw [List.length_append];omega),List.take_left' hl4,bEq hby RVF1_nz.by,dF hne2]
 have hr:Cx FV (RVF1.set k c++B5 ts)=some ([],0,7):=by
  rw [Cx,B3 (dF (by rw [List.length_append,hl4];omega)),show ([82,86,70,49]:List Int)=RVF1 from rfl,hpre,sb,gdF (by simp),sb,B6 (by rfl)]
 rw [hset]
 refine ⟨0,0,7,by omega,by decide,by omega,hr,fun i0 t h1 h2 h3=>?_⟩
 have:off ts i0≥4:=by unfold off;omega
 omega
theorem Zk {ts:List volume_thing} (h:∀t∈ts,okI t) (hn:ts.length≤8) {k:Nat} {c y:Int} (hc:0≤c∧c<256) (hy:(RVF1++B5 ts)[k]? = some y) (hne:c≠y):Chg ts k c ((RVF1++B5 ts).set k c):=by
 by_cases hk:k<4
 ·exact Zl h hn hk hc (by rw [List.getElem?_append_left hk] at hy;exact hy) hne
 ·have hkl:=(List.getElem?_eq_some_iff.1 hy).1
  rw [List.length_append,show RVF1.length=4 from rfl] at hkl
  obtain ⟨i,hi,o1,o2⟩:=Yk ts (k:=k) (by omega) ts.length (Nat.le_refl _) (by rw [Zv];omega)
  have hoff:off ts i=4+(B5 (ts.take i)).length:=rfl
  rw [Ly hi,List.getElem?_append_right (by simp [RVF1];omega),List.getElem?_append_right (by simp [RVF1];omega)] at hy
  by_cases he:k=off ts i
  ·subst he
   have h0:off ts i-RVF1.length-(B5 (ts.take i)).length=0:=by simp [RVF1];omega
   rw [h0] at hy
   simp at hy
   exact Xz h hn hi ⟨by omega,hc.2⟩
  ·obtain ⟨j,rfl⟩:∃j,k=off ts i+1+j:=⟨k-off ts i-1,by omega⟩
   have hs:=P1 hi
   have h0:off ts i+1+j-RVF1.length-(B5 (ts.take i)).length=j+1:=by simp [RVF1];omega
   rw [h0,List.getElem?_cons_succ,List.getElem?_append_left (by omega)] at hy
   exact A0v h hn hi (by omega) hc hy hne
theorem A1r {α:Type} {a b:α} {l1 l2:List α} (hne:a≠b) (h:(a::l1).Sublist (b::l2)):(a::l1).Sublist l2:=by
 generalize hx:a::l1=x at h
 rcases h with _|⟨_,h⟩|⟨_,h⟩
 ·exact h
 ·cases hx;exact absurd rfl hne
theorem Vb {F:Nat} (hF:6000≤F) (l s:List volume_Item) (hl:l.length≤1000) (hsl:s.length≤1000) (hc:∀x∈l,U3 x):∀(m i k:Nat),s.length-i<m→i≤s.length→k≤l.length→(l.drop k).Sublist (s.drop i)→Gq F l s m i k=some true:=by
 intro m
 induction m with
 | zero=>intro i k h;omega
 | succ m ih =>
  intro i k h hi hk hsub
  rw [Gq,Jw]
  by_cases hb:i<s.length
  ·have hd:=List.drop_eq_getElem_cons hb
   rw [B6 (dT (by omega)),El i s[i] rfl (List.getElem?_eq_getElem hb)]
   by_cases hkl:k<l.length
   ·have hdl:=List.drop_eq_getElem_cons hkl
    rw [B6 (dT (by omega)),El k l[k] rfl (List.getElem?_eq_getElem hkl),A0j hF _ _ (hc _ (List.getElem_mem hkl)),sb,dT (show (k:Int)<(l.length:Nat) by omega)]
    rw [hd,hdl] at hsub
    by_cases he:l[k]=s[i]
    ·rw [dT he,B6 (by rfl),ckb (by omega),E9,ckb (by omega)]
     refine ih (i+1) (k+1) (by omega) (by omega) (by omega) ?_
     rw [he] at hsub
     exact List.cons_sublist_cons.1 hsub
    ·rw [dF he,B3 (by rfl),E9,ckb (by omega)]
     refine ih (i+1) k (by omega) (by omega) (by omega) ?_
     rw [hdl]
     exact A1r he hsub
   ·rw [B3 (dF (by omega)),dF (show ¬(k:Int)<(l.length:Nat) by omega),B3 (by rfl),E9,ckb (by omega)]
    refine ih (i+1) k (by omega) (by omega) (by omega) ?_
    rw [List.drop_of_length_le (by omega)]
    exact List.nil_sublist _
  ·rw [B3 (dF (by omega)),Jx]
   rw [List.drop_of_length_le (show s.length≤i by omega)] at hsub
   have:=hsub.length_le
   rw [List.length_drop] at this
   simp at this
   have e:k=l.length:=by omega
   rw [e];simp
theorem Xs {F:Nat} (hF:6000≤F) (l s:List volume_Item) (hl:l.length≤1000) (hsl:s.length≤1000) (hc:∀x∈l,U3 x) (hsub:l.Sublist s):L7 F l s=some true:=by
 rw [L7]
 exact Vb hF l s hl hsl hc F 0 0 (by omega) (by omega) (by omega) (by simpa using hsub)
theorem A27 {ts:List volume_thing} (h:∀t∈ts,okI t) (hn:ts.length≤8) {k:Nat} {c:Int} {w:List Int} (hw:w[k]? = some c) {i:Nat} (hi:i<ts.length) (k2:Int→Option Bool) (y56:List volume_Item×Int×Int)
  (hch:off ts i+1+nl ts[i]≤k→k<off ts (i+1)→y56.1=(ts.take i).map B4∧y56.2.1=(off ts i:Int)∧∃X lost,Cs FV w=some ((ts.take i).map B4++(X++(ts.drop (i+1)).map B4),lost,0)∧X.length≤1∧(c≠0→X=[]∧lost=1)) :
  Da FV (ts.map B4,true) k w y56 (Lw ts (ts.length+1)) i k2 (Gb ts[i],0) ((off ts i+1+nl ts[i]:Nat):Int)=Cl i k2:=by
 have hFV:FV=200000:=rfl
 have hok:=h ts[i] (List.getElem_mem hi)
 have hp:=Jl hok.1
 have h6:=hok.2.2
 have hbl:(Gb ts[i]).length=(Av ts[i]).length+1:=by rw [Gb,List.length_cons]
 rw [Da]
 simp only [dF (show ¬(((Gb ts[i]).length:Nat):Int)>16129 by omega)]
 by_cases h1:(k:Int)<((off ts i+1+nl ts[i]:Nat):Int)
 ·rw [dT h1,gdF (by rfl),sb,gdF (by rfl),sb,B6 (by rfl)]
 ·rw [dF h1,gdT (by rfl),ckb (by omega),gdT (by rfl),El (i+1) (off ts (i+1):Int) (by omega) (Ml ts (by omega))]
  by_cases h2:(k:Int)≥(off ts (i+1):Int)
  ·rw [dT h2,B6 (by rfl)]
  ·rw [dF h2,B3 (by rfl)]
   obtain ⟨e1,e2,X,lost,e3,e4,e5⟩:=hch (by omega) (by omega)
   have hlm:(ts.map B4).length=ts.length:=List.length_map ..
   have hcmp:∀(us:List volume_thing),(∀t∈us,t∈ts)→∀x∈us.map B4,U3 x:=fun us hu x hx=>by
    obtain ⟨t,ht,rfl⟩:=List.mem_map.1 hx;exact (h t (hu t ht)).1.cmp
   have hc1:=hcmp (ts.take i) (fun t ht=>List.mem_of_mem_take ht)
   have hc2:=hcmp (ts.drop (i+1)) (fun t ht=>List.mem_of_mem_drop ht)
   have hcut:Gc (ts.map B4) (0:Int) (i:Int)=some ((ts.take i).map B4):=by
    unfold Gc
    rw [if_pos (by rw [hlm];omega),List.map_take];simp
   have ho:∀x∈(ts.take i).map B4++(ts.drop (i+1)).map B4,U3 x:=fun x hx=>(List.mem_append.1 hx).elim (hc1 x) (hc2 x)
   have l1:((ts.take i).map B4).length≤8:=by rw [List.length_map,List.length_take];omega
   have l2:((ts.drop (i+1)).map B4).length≤8:=by rw [List.length_map,List.length_drop];omega
   rw [e3,sb,hcut,sb,ckb (by omega),Ju (i+1) (by omega) rfl (by rw [hlm];omega),←List.map_drop,Lv (by simp only [List.length_nil];omega) (by decide),List.nil_append,Lv (by omega) (by decide),El k c rfl hw]
   have hsub:((ts.take i).map B4++(ts.drop (i+1)).map B4).Sublist ((ts.take i).map B4++(X++(ts.drop (i+1)).map B4)):=List.Sublist.append_left (List.sublist_append_right ..) _
   have ham:=Xs (F:=FV) (by decide) _ _ (by rw [List.length_append];omega) (by simp only [List.length_append];omega) ho hsub
   have hit:=U6 (F:=FV) (by decide) ((ts.take i).map B4) ((ts.take i).map B4) (by omega) (by omega) hc1
   have hlt:¬(((((ts.take i).map B4++(X++(ts.drop (i+1)).map B4)).length:Nat):Int)>((((ts.take i).map B4++(ts.drop (i+1)).map B4).length:Nat):Int)+1):=by simp only [List.length_append];omega
   by_cases hc0:c=0
   ·subst hc0
    rw [gdF (by simp),sb,gdT (by rfl),ham,sb,gdT (by rfl),ckb (by simp only [List.length_append];omega),dF hlt,B3 (by rfl),sb,e1,hit,sb,dT rfl,gdT (by rfl),El i (off ts i:Int) rfl (Ml ts (by omega)),e2,B3 (by simp)]
   ·obtain ⟨x1,x2⟩:=e5 hc0
    subst x1;subst x2
    rw [List.nil_append] at ham hlt
    have hit2:=U6 (F:=FV) (by decide) ((ts.take i).map B4++(ts.drop (i+1)).map B4) ((ts.take i).map B4++(ts.drop (i+1)).map B4) (by simp only [List.length_append];omega) (by simp only [List.length_append];omega) ho
    rw [List.nil_append]
    have hcb:(c != 0)=true:=by simp [hc0]
    rw [hcb,gdT (by rfl),hit2,sb,dT rfl,gdT (by rfl),ham,sb,gdT (by rfl),ckb (by simp only [List.length_append];omega),dF hlt,B3 (by rfl),sb,e1,hit,sb,dT rfl,gdT (by rfl),El i (off ts i:Int) rfl (Ml ts (by omega)),e2,B3 (by simp)]
theorem A28 {ts:List volume_thing} (h:∀t∈ts,okI t) (hn:ts.length≤8) {k:Nat} {c:Int} {w:List Int} (hw:w[k]? = some c) (y56:List volume_Item×Int×Int)
  (hch:∀(i:Nat) (hi:i<ts.length),off ts i+1+nl ts[i]≤k→k<off ts (i+1)→y56.1=(ts.take i).map B4∧y56.2.1=(off ts i:Int)∧∃X lost,Cs FV w=some ((ts.take i).map B4++(X++(ts.drop (i+1)).map B4),lost,0)∧X.length≤1∧(c≠0→X=[]∧lost=1)):∀(m i:Nat),ts.length-i<m→i≤ts.length →
  C1 FV (ts.map B4,true) k w y56 (Lw ts (ts.length+1)) m i=some true:=by
 intro m
 have hF:200000≤FV:=Nat.le_refl _
 induction m with
 | zero=>intro i h;omega
 | succ m ih =>
  intro i h1 hi
  rw [C1,Ff]
  by_cases hb:i<ts.length
  ·have hok:=h ts[i] (List.getElem_mem hb)
   have hp:=Jl hok.1
   have h6:=hok.2.2
   have ho:=Yl ts i
   have hfl:=Jv h
   have hbl:(Gb ts[i]).length=(Av ts[i]).length+1:=by rw [Gb,List.length_cons]
   have hpl:(Av ts[i]).length=nl ts[i]+(Al ts[i]).length+5:=by unfold Av Dl nl;simp only [List.length_append,Kc]
   have hK4:=A27 h hn hw hb (C1 FV (ts.map B4,true) k w y56 (Lw ts (ts.length+1)) m) y56 (hch i hb)
   have hK3:Cl i (C1 FV (ts.map B4,true) k w y56 (Lw ts (ts.length+1)) m)=some true:=by
    rw [Cl,ckb (by omega)]
    exact ih (i+1) (by omega) (by omega)
   rw [B6 (dT (by simp only [List.length_map];omega)),El i (B4 ts[i]) rfl (by rw [List.getElem?_map,List.getElem?_eq_getElem hb];rfl),Ua hF hok.1 (by omega),sb,El i (off ts i:Int) rfl (Ml ts (by omega)),ckb (by omega),ckb (by simp only;omega)]
   by_cases h127:(Al ts[i]).length<127
   ·have hnl:nl ts[i]=1:=by unfold nl;rw [Hj h127];rfl
    rw [B3 (dF (by simp only;omega)),show (off ts i:Int)+2=((off ts i+1+nl ts[i]:Nat):Int) by omega]
    exact hK4.trans hK3
   ·have hnl:nl ts[i]=2:=by unfold nl;rw [Mi (by omega),Hj (by omega)];rfl
    rw [B6 (dT (by simp only;omega)),ckb (by omega),show (off ts i:Int)+2+1=((off ts i+1+nl ts[i]:Nat):Int) by omega]
    exact hK4.trans hK3
  ·rw [B3 (dF (by simp only [List.length_map];omega)),Fg,Va];rfl
theorem Qw (l:List law12_Thing) (hl:∀x∈l,K9 x) (p q:Int) (hp:0≤p∧p≤65535) (hq:0≤q∧q≤255):Fa FV l p q=some true:=by
 have hF:200000≤FV:=Nat.le_refl _
 have hFV:FV=200000:=rfl
 rw [Fa]
 rcases A0u (F:=FV) (by decide) hl with ⟨h1,h2⟩|⟨ts,h1,h2,h3,h4⟩
 ·rw [h1,sb,B6 (by rfl),Va];rfl
 ·have hfl:=Jv h4
  have hwl:(RVF1++B5 ts).length=4+(B5 ts).length:=by rw [List.length_append];rfl
  have hall:=fun t ht=>(h4 t ht).1
  have hcmp:∀x∈ts.map B4,U3 x:=fun x hx=>by obtain ⟨t,ht,rfl⟩:=List.mem_map.1 hx;exact (h4 t ht).1.cmp
  have hsv:Cs FV (RVF1++B5 ts)=some (ts.map B4,0,0):=by
   have:=Wp hF RVF1_nz (okI.nz h4) (by show (RVF1++B5 ts).length<FV;omega) (by show (RVF1++B5 ts).length≤_;omega) (by simp;omega)
   obtain ⟨v1,v2⟩:=Uf hall
   rw [v1,v2] at this
   exact this
  rw [h1,sb,B3 (by rfl),Xp hF h4 (by omega),sb,B3 (by rw [dF (by simp only;omega)];rfl),hsv,sb,gdT (by rfl),U6 (by omega) _ _ (by simp only [List.length_map];omega) (by simp only [List.length_map];omega) hcmp,sb,dT rfl,B3 (by rfl),ckb (by omega),Sy hp.1 (by simp only;omega)]
  have m1:=Int.emod_nonneg p (show (((RVF1++B5 ts).length:Nat):Int)≠0 by omega)
  have m2:=Int.emod_lt_of_pos p (show (0:Int)<(((RVF1++B5 ts).length:Nat):Int) by omega)
  obtain ⟨k,hk⟩:∃k:Nat,p%(((RVF1++B5 ts).length:Nat):Int)=(k:Int):=⟨(p%(((RVF1++B5 ts).length:Nat):Int)).toNat,by omega⟩
  rw [hk]
  have hkl:k<(RVF1++B5 ts).length:=by omega
  obtain ⟨y,hy⟩:∃y,(RVF1++B5 ts)[k]? = some y:=⟨_,List.getElem?_eq_getElem hkl⟩
  have hby:By (RVF1++B5 ts):=RVF1_nz.by.app (Sg (okI.nz h4))
  have hyb:=hby y (List.mem_of_getElem? hy)
  rw [El k y rfl hy,ckb (by omega),Sy hq.1 (by decide),ckb (by omega),El k y rfl hy,A1q k rfl hkl,T8 (by omega)]
  obtain ⟨c1,c2,c3⟩:=A23 (x:=y) (y:=1+q%255) hyb (by omega)
  generalize Uh .u8 y (1+q%255)=c at c1 c2 c3
  obtain ⟨i,good,e,g1,g2,g3,g4,g5⟩:=Zk h4 (by omega) ⟨c1,c2⟩ hy c3
  have hcut:Gc (ts.map B4) (0:Int) ((((ts.take i).map B4).length:Nat):Int)=some ((ts.take i).map B4):=by
   unfold Gc
   have:((ts.take i).map B4).length=i:=by rw [List.length_map,List.length_take];omega
   rw [if_pos (by rw [this,List.length_map];omega),this,List.map_take];simp
  rw [g4,sb,B3 (by
   rw [dF (show ¬good>(k:Int) by omega),dF (by simp only [List.length_map,List.length_take];omega)]
   simp [g2]),hcut,sb,U6 (by omega) _ _ (by simp only [List.length_map,List.length_take];omega) (by simp only [List.length_map,List.length_take];omega) (fun x hx=>by obtain ⟨t,ht,rfl⟩:=List.mem_map.1 hx;exact (h4 t (List.mem_of_mem_take ht)).1.cmp),sb,dT rfl,B3 (by rfl),Vf hF h4 (by omega),sb]
  refine A28 h4 (by omega) (c:=c) (by rw [List.getElem?_set_self hkl]) _ (fun j hj a1 a2=>?_) FV 0 (by simp [FV];omega) (by omega)
  obtain ⟨rfl,e2,hX⟩:=g5 j ts[j] (List.getElem?_eq_getElem hj) a1 a2
  exact ⟨rfl,e2,hX⟩
end Go.Proofs.Ytifbomimeodibaa
