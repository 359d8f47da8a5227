import Derived.Test.YtifbomimeodibaaGreatV6XD
import Derived.Shelf.SlSortCmp.Insertion
set_option linter.unusedVariables false
set_option linter.unusedSimpArgs false
set_option linter.unusedSectionVars false
namespace Go.Proofs.YtifbomimeodibaaGreat
open Go Go.RowKit Go.Eng
set_option maxRecDepth 10000
set_option linter.unusedVariables false
set_option linter.unusedSimpArgs false
theorem ckb {β:Type} {x:Int} {f:Int→Option β} (h:-9000000000000000000≤x∧x≤9000000000000000000):(ck x).bind f=f x:=by
 unfold ck;rw [if_pos (by omega)];rfl
theorem gdT {α:Type} {g:Bool} {o:Option α} {d:α} (h:g=true):gd g o d=o:=by subst h;rfl
theorem gdF {α:Type} {g:Bool} {o:Option α} {d:α} (h:g=false):gd g o d=some d:=by subst h;rfl
theorem B0 {α:Type} {c:Bool} {x y:α} (h:c=true):(bif c then x else y)=x:=by rw [h];rfl
theorem At {α:Type} {c:Bool} {x y:α} (h:c=false):(bif c then x else y)=y:=by rw [h];rfl
theorem sbd {α β:Type} {x:α} {f:α→Option β}:(some x).bind f=f x:=rfl
theorem dT {p:Prop} [Decidable p] (h:p):decide p=true:=decide_eq_true h
theorem dF {p:Prop} [Decidable p] (h:¬p):decide p=false:=decide_eq_false h
theorem Ei {α β:Type} {l:List α} {i:Int} {f:α→Option β} (n:Nat) (x:α) (hi:i=(n:Int)) (h:l[n]? = some x):(Dg l i).bind f=f x:=by
 subst hi;unfold Dg;rw [if_pos (by omega),show ((n:Int)).toNat=n by omega,h];rfl
theorem M4 {α β:Type} {l k:List α} {B:Nat} {f:List α→Option β} (h:(l.length+k.length)*B≤140737488355328) (hB:1≤B):(apd B l k).bind f=f (l++k):=by
 unfold apd;have:l.length+k.length≤(l.length+k.length)*B:=Nat.le_mul_of_pos_right _ hB;rw [if_pos ⟨h,by omega⟩];rfl
theorem A31 {α β:Type} {l:List α} {i j:Int} {f:List α→Option β} (m n:Nat) (hi:i=(m:Int)) (hj:j=(n:Int)) (h:m≤n∧n≤l.length):(Jl l i j).bind f=f ((l.drop m).take (n-m)):=by
 subst hi;subst hj;unfold Jl;rw [if_pos (by omega)];rfl
theorem T3 {α β:Type} {l:List α} {i j:Int} {f:List α→Option β} (n:Nat) (hi:i=0) (hj:j=(n:Int)) (h:n≤l.length):(Jl l i j).bind f=f (l.take n):=by
 rw [A31 0 n hi hj ⟨Nat.zero_le _,h⟩];simp
theorem L3 {α β:Type} {l:List α} {i j:Int} {f:List α→Option β} (m:Nat) (hi:i=(m:Int)) (hj:j=(l.length:Int)) (h:m≤l.length):(Jl l i j).bind f=f (l.drop m):=by
 rw [A31 m l.length hi hj ⟨h,Nat.le_refl _⟩,List.take_of_length_le (by simp)]
def FV:Nat:=200000
def By (l:List Int):Prop:=∀x∈l,0≤x∧x<256
theorem By.app {l k:List Int} (h:By l) (h':By k):By (l++k):=fun x hx=>(List.mem_append.1 hx).elim (h x) (h' x)
theorem X0 {x:Int} (h:0≤x∧x<256):IntKind.u8.wrap x=x:=by
 have:=h.1;have:=h.2;simp only [IntKind.wrap,IntKind.signed,IntKind.bits];simp;omega
def G8 (n:Nat):List Int:=if h:n<127 then [(n:Int)+1] else (128+((n%127:Nat):Int))::G8 (n/127)
termination_by n
theorem Ps {n:Nat} (h:n<127):G8 n=[(n:Int)+1]:=by rw [G8,dif_pos h]
theorem Ss {n:Nat} (h:127≤n):G8 n=(128+((n%127:Nat):Int))::G8 (n/127):=by rw [G8,dif_neg (by omega)]
theorem A0f:∀(k n:Nat),n<127 ^ (k+1)→(G8 n).length≤k+1:=by
 intro k
 induction k with
 | zero=>intro n h;rw [Ps (by simpa using h)];simp
 | succ k ih =>
  intro n h
  by_cases hn:n<127
  ·rw [Ps hn];simp
  ·rw [Ss (by omega),List.length_cons];have:=ih (n/127) (Nat.div_lt_of_lt_mul (by rw [Nat.pow_succ] at h;omega));omega
theorem Ye (n:Nat):∀x∈G8 n,1≤x∧x<255:=by
 induction n using Nat.strongRecOn with
 | _ n ih =>
  intro x hx
  by_cases hn:n<127
  ·rw [Ps hn] at hx;simp at hx;omega
  ·rw [Ss (by omega)] at hx;rcases List.mem_cons.1 hx with rfl|hx
   ·have:=Nat.mod_lt n (show 0<127 by decide);omega
   ·exact ih (n/127) (Nat.div_lt_self (by omega) (by decide)) x hx
theorem tdm (n:Nat):Ju (n:Int) 127=some ((n%127:Nat):Int)∧Ni (n:Int) 127=ck ((n/127:Nat):Int):=by
 unfold Ju Ni;rw [if_neg (by decide),if_neg (by decide)];exact ⟨by congr 1,by congr 1⟩
theorem A49 (x307:Int) (k1:List Int→Int→Option volume_writer) (h0:0≤x307∧x307≤1000000000000):∀(F k n:Nat) (l:List Int),n<127 ^ (k+1)→k<10→k<F→n≤4611686018427387904→l.length+k≤1000000000000 →
  Cg x307 k1 F l n=k1 (l++G8 n) (x307+1):=by
 intro F
 induction F with
 | zero=>intro k n l h hk hF;omega
 | succ F ih =>
  intro k n l h hk hF hn hl;rw [Cg,Eb]
  by_cases hb:(n:Int)≥127
  ·rw [B0 (dT hb),(tdm n).1,sbd];have:=Nat.mod_lt n (show 0<127 by decide);rw [ckb (by omega),X0 (by omega),M4 (by simp;omega) (by decide),(tdm n).2];have hd:n/127≤n:=Nat.div_le_self _ _;rw [ckb (by omega)]
   cases k with
   | zero=>simp at h;omega
   | succ k =>
    rw [ih k (n/127) _ (Nat.div_lt_of_lt_mul (by rw [Nat.pow_succ] at h;omega)) (by omega) (by omega) (by omega) (by simp;omega),Ss (n:=n) (by omega)];simp
  ·rw [At (dF hb),Ed,ckb (by omega),X0 (by omega),M4 (by simp;omega) (by decide),Ec,ckb (by omega),Ps (by omega),show (1:Int)+n=n+1 by omega]
def okN (x:Int):Prop:=0≤x∧x≤4611686018427387904
def Fz (l:List Int):List Int:=l.flatMap fun x=>G8 x.toNat
theorem E6 {x:Int} (h:okN x):(G8 x.toNat).length≤9:=A0f 8 x.toNat (by have:=h.1;have:=h.2;omega)
theorem A48 (F:Nat) (p1:List Int) (hF:100≤F) (hp:∀x∈p1,okN x):∀(m i:Nat) (l:List Int),p1.length-i<m→i≤p1.length→p1.length≤100→l.length+9*(p1.length-i)≤999999999000 →
  Cf F p1 m l i=some ⟨l++Fz (p1.drop i)⟩:=by
 intro m
 induction m with
 | zero=>intro i l h;omega
 | succ m ih =>
  intro i l h hi hp1 hl;rw [Cf,Ea]
  by_cases hb:i<p1.length
  ·have hx:=hp p1[i] (List.getElem_mem hb);have h9:=E6 hx;rw [B0 (dT (by omega)),Ei i p1[i] rfl (List.getElem?_eq_getElem hb)];have e:p1[i]=((p1[i].toNat:Nat):Int):=by have:=hx.1;omega
   rw [e,A49 i _ (by omega) F 8 p1[i].toNat l (by have:=hx.1;have:=hx.2;omega) (by decide) (by omega) (by have:=hx.2;omega) (by omega)];rw [show ((i:Int)+1)=((i+1:Nat):Int) by omega,ih (i+1) _ (by omega) (by omega) hp1 (by rw [List.length_append];omega),List.drop_eq_getElem_cons hb];simp only [Fz,List.flatMap_cons,List.append_assoc]
  ·rw [At (dF (by omega)),List.drop_of_length_le (by omega)];simp [Fz]
def okW (l:List Int):Prop:=l.length≤999999990000
theorem Fj {F:Nat} (hF:1000≤F) {w:volume_writer} {l:List Int} (hw:okW w.b) (hl:∀x∈l,okN x) (hn:l.length≤100):Ai F w l=some ⟨w.b++Fz l⟩:=by
 rw [Ai];unfold okW at hw;exact A48 F l (by omega) hl F 0 w.b (by omega) (by omega) hn (by omega)
def zig (x:Int):Nat:=if x<0 then (-2*x-1).toNat else (2*x).toNat
def okZ (x:Int):Prop:=-2305843009213693952≤x∧x≤2305843009213693952
theorem A47 (F:Nat) (p1:List Int) (hF:1000≤F) (hp:∀x∈p1,okZ x):∀(m i:Nat) (l:List Int),p1.length-i<m→i≤p1.length→p1.length≤100→l.length+9*(p1.length-i)≤999999990000 →
  Bd F p1 m l i=some ⟨l++(p1.drop i).flatMap fun x=>G8 (zig x)⟩:=by
 intro m
 induction m with
 | zero=>intro i l h;omega
 | succ m ih =>
  intro i l h hi hp1 hl;rw [Bd,E0]
  by_cases hb:i<p1.length
  ·have hx:=hp p1[i] (List.getElem_mem hb);have hx1:=hx.1;have hx2:=hx.2;rw [B0 (dT (by omega)),Ei i p1[i] rfl (List.getElem?_eq_getElem hb)];have fin:∀z:Int,okN z→z.toNat=zig p1[i]→((Ai F (volume_writer.mk l) [z]).bind fun y178=>C3 i (Bd F p1 m) y178.b)=some ⟨l++(p1.drop i).flatMap fun x=>G8 (zig x)⟩:=by
    intro z hz hzz;have h9:=E6 hz;rw [Fj hF (show okW l by unfold okW;omega) (by simpa using hz) (by simp),sbd,C3,ckb (by omega)];show Bd F p1 m (l++Fz [z]) ((i:Int)+1)=_;rw [show ((i:Int)+1)=((i+1:Nat):Int) by omega,ih (i+1) _ (by omega) (by omega) hp1 (by simp [Fz];omega),List.drop_eq_getElem_cons hb];simp only [Fz,List.flatMap_cons,List.flatMap_nil,List.append_nil,List.append_assoc,hzz]
   by_cases hs:p1[i]<0
   ·rw [B0 (dT hs),ckb (by omega),ckb (by omega)];exact fin _ ⟨by omega,by omega⟩ (by unfold zig;rw [if_pos hs])
   ·rw [At (dF hs),ckb (by omega)];exact fin _ ⟨by omega,by omega⟩ (by unfold zig;rw [if_neg hs])
  ·rw [At (dF (by omega)),List.drop_of_length_le (by omega)];simp
theorem S3 {F:Nat} (hF:1000≤F) {w:volume_writer} {l:List Int} (hw:w.b.length≤999999980000) (hl:∀x∈l,okZ x) (hn:l.length≤100):C7 F w l=some ⟨w.b++l.flatMap fun x=>G8 (zig x)⟩:=by
 rw [C7];exact A47 F l hF hl F 0 w.b (by omega) (by omega) hn (by omega)
theorem Xu {x:Int} (h:okZ x):okN (zig x:Int):=by
 unfold okZ at h;unfold okN zig;split<;>omega
theorem Xs {F:Nat} (hF:1000≤F) {w:volume_writer} {s:ByteArray} (hw:w.b.length≤999999980000) (hs:s.size≤10000000):D6 F w s=some ⟨w.b++(G8 s.size++sby s)⟩:=by
 have h9:=E6 (x:=(s.size:Int)) ⟨by omega,by omega⟩;rw [D6,Fj hF (show okW w.b by unfold okW;omega) (by intro x hx;simp at hx;subst hx;exact ⟨by omega,by omega⟩) (by simp),sbd,M4 (by simp only [Fz,List.flatMap_cons,List.flatMap_nil,List.append_nil,List.length_append,K7];omega) (by decide)];simp [Fz]
def okS (s:api_Span):Prop:=-1000000000000000000≤s.Lo∧s.Lo≤s.Hi∧s.Hi≤1000000000000000000
def Hb (s:api_Span):List Int:=G8 (zig s.Lo)++G8 (s.Hi-s.Lo).toNat
theorem Qq {F:Nat} (hF:1000≤F) {w:volume_writer} {s:api_Span} (hw:w.b.length≤999999970000) (hs:okS s):D5 F w s=some ⟨w.b++Hb s⟩:=by
 obtain ⟨h1,h2,h3⟩:=hs;have h9:=E6 (Xu (x:=s.Lo) ⟨by omega,by omega⟩);rw [Int.toNat_natCast] at h9;rw [D5,S3 hF (by omega) (by intro x hx;simp at hx;subst hx;exact ⟨by omega,by omega⟩) (by simp),sbd,ckb (by omega),Fj hF (by unfold okW;simp;omega) (by intro x hx;simp at hx;subst hx;exact ⟨by omega,by omega⟩) (by simp)];simp [Hb,Fz]
theorem F7 {s:api_Span} (hs:okS s):(Hb s).length≤18:=by
 obtain ⟨h1,h2,h3⟩:=hs;have h8:=E6 (Xu (x:=s.Lo) ⟨by omega,by omega⟩);have h9:=E6 (x:=s.Hi-s.Lo) ⟨by omega,by omega⟩;rw [Int.toNat_natCast] at h8;unfold Hb;rw [List.length_append];omega
end Go.Proofs.YtifbomimeodibaaGreat
namespace Go.Proofs.YtifbomimeodibaaGreat
open Go Go.RowKit Go.Eng
set_option maxRecDepth 10000
set_option linter.unusedVariables false
set_option linter.unusedSimpArgs false
def Kl (x:api_Echo):List Int:=G8 x.Kind.toNat++if x.Kind=1 then G8 x.Power.Hi.toNat else Hb x.Power++(Hb x.Ratio++(Hb x.Match++(G8 x.Spread.toNat++if x.Kind=3 then Hb x.Steps.1++(Hb x.Steps.2++Hb x.Turn) else [])))
def okE (x:api_Echo):Prop:=okN x.Kind∧okN x.Power.Hi∧okN x.Spread∧okS x.Power∧okS x.Ratio∧okS x.Match∧okS x.Steps.1∧okS x.Steps.2∧okS x.Turn
theorem A46 {F:Nat} (hF:1000≤F) {w:volume_writer} {x:api_Echo} (hw:w.b.length≤999999960000) (hx:okE x):Ew F w x=some ⟨w.b++Kl x⟩:=by
 obtain ⟨h1,h2,h3,h4,h5,h6,h7,h8,h9⟩:=hx;have a1:=E6 h1;have a2:=E6 h2;have a3:=E6 h3;have a4:=F7 h4;have a5:=F7 h5;have a6:=F7 h6;have a7:=F7 h7;have a8:=F7 h8;obtain ⟨G,rfl⟩:∃G,F=G+4:=⟨F-4,by omega⟩;rw [Ew,Fj hF (by unfold okW;omega) (by simpa using h1) (by simp),sbd]
 by_cases hk:x.Kind=1
 ·rw [B0 (by simp [hk]),Fj hF (by unfold okW;simp [Fz];omega) (by simpa using h2) (by simp),sbd];simp [Kl,hk,Fz]
 ·rw [At (by simp [hk]),Bn,C6,B0 (dT (by decide)),Ei 0 x.Power (by decide) (by rfl),Qq hF (by simp [Fz];omega) h4,sbd,ckb (by omega),
   Bn,C6,B0 (dT (by decide)),Ei 1 x.Ratio (by decide) (by rfl),Qq hF (by simp [Fz];omega) h5,sbd,ckb (by omega),
   Bn,C6,B0 (dT (by decide)),Ei 2 x.Match (by decide) (by rfl),Qq hF (by simp [Fz];omega) h6,sbd,ckb (by omega),
   Bn,C6,At (dF (by decide)),Ey,Fj hF (by unfold okW;simp [Fz];omega) (by simpa using h3) (by simp),sbd]
  by_cases hk3:x.Kind=3
  ·rw [B0 (by simp [hk3]),Bm,C5,B0 (dT (by decide)),Ei 0 x.Steps.1 (by decide) (by rfl),Qq hF (by simp [Fz];omega) h7,sbd,ckb (by omega),
    Bm,C5,B0 (dT (by decide)),Ei 1 x.Steps.2 (by decide) (by rfl),Qq hF (by simp [Fz];omega) h8,sbd,ckb (by omega),
    Bm,C5,B0 (dT (by decide)),Ei 2 x.Turn (by decide) (by rfl),Qq hF (by simp [Fz];omega) h9,sbd,ckb (by omega),
    Bm,C5,At (dF (by decide))]
   simp [Kl,hk3,Fz]
  ·rw [At (by simp [hk3])];simp [Kl,hk,hk3,Fz]
theorem Uh {x:api_Echo} (hx:okE x):(Kl x).length≤130:=by
 obtain ⟨h1,h2,h3,h4,h5,h6,h7,h8,h9⟩:=hx;have a1:=E6 h1;have a2:=E6 h2;have a3:=E6 h3;have a4:=F7 h4;have a5:=F7 h5;have a6:=F7 h6;have a7:=F7 h7;have a8:=F7 h8;have a9:=F7 h9;unfold Kl
 split
 ·simp;omega
 ·split<;>simp<;>omega
def K6 {α:Type} [DecidableEq α] (e:α→List Int):α→Nat→List α→List Int
 | _,n,[]=>if n=0 then [] else G8 n
 | b,n,x::l=>if x=b then K6 e b (n+1) l else G8 n++(e x++K6 e x 0 l)
def J7 {α:Type} [DecidableEq α] (b:α):List α→Nat
 | []=>0
 | x::l=>if x=b then J7 b l+1 else 0
theorem Sr {α:Type} [DecidableEq α] (b:α) (l:List α):J7 b l≤l.length:=by
 induction l with
 | nil=>exact Nat.le_refl _
 | cons x l ih=>unfold J7;split<;>simp<;>omega
theorem Yc {α:Type} [DecidableEq α] {b:α} {l:List α} {i:Nat} (h:i<J7 b l):l[i]? = some b:=by
 induction l generalizing i with
 | nil=>simp [J7] at h
 | cons x l ih =>
  unfold J7 at h
  split at h
  ·rename_i hx
   cases i with
   | zero=>simp [hx]
   | succ i=>simpa using ih (by omega)
  ·omega
theorem Yb {α:Type} [DecidableEq α] {b:α} {l:List α} {x:α} (h:l[J7 b l]? = some x):x≠b:=by
 induction l with
 | nil=>simp at h
 | cons y l ih =>
  unfold J7 at h
  split at h
  ·exact ih (by simpa using h)
  ·rename_i hy;simp at h;subst h;exact hy
theorem Uw {α:Type} [DecidableEq α] (e:α→List Int) (b:α) (n:Nat) (l:List α) (h:n≠0∨l≠[]):K6 e b n l=G8 (n+J7 b l)++(match l.drop (J7 b l) with|[]=>[]|y::r=>e y++K6 e y 0 r):=by
 induction l generalizing n with
 | nil=>rw [K6,J7,if_neg (by simpa using h)];simp
 | cons x l ih =>
  rw [K6,J7]
  split
  ·rw [ih (n+1) (.inl (by omega))];simp only [List.drop_succ_cons];rw [show n+1+J7 b l=n+(J7 b l+1) by omega]
  ·simp
theorem Wl {α:Type} [DecidableEq α] {e:α→List Int} {c:Nat}:∀(l:List α) (b:α) (n:Nat),(∀x∈l,(e x).length≤c)→n+l.length≤1000000000→(K6 e b n l).length≤9+(c+9)*l.length:=by
 intro l
 induction l with
 | nil =>
  intro b n h hn;have:=E6 (x:=(n:Int)) ⟨by omega,by simp at hn;omega⟩;rw [K6]
  split<;>simp at*<;>omega
 | cons x l ih =>
  intro b n h hn;have h1:=E6 (x:=(n:Int)) ⟨by omega,by simp at hn;omega⟩;have h2:=h x (by simp);have hm:(c+9)*(l.length+1)=(c+9)*l.length+(c+9):=by rw [Nat.mul_add,Nat.mul_one]
  rw [K6];simp only [List.length_cons] at hn ⊢;rw [hm]
  split
  ·have:=ih b (n+1) (fun y hy=>h y (by simp [hy])) (by omega);omega
  ·have:=ih x 0 (fun y hy=>h y (by simp [hy])) (by omega);simp at h1 ⊢;omega
theorem Sx (u b:api_Span):(((u.Lo:Int)==b.Lo)&&(((u.Hi:Int)==b.Hi)&&true))=decide (u=b):=by
 cases u;cases b
 rw [Bool.eq_iff_iff];simp
theorem Sn (u b:api_Echo):(((u.Kind:Int)==b.Kind)&&((((u.Power.Lo:Int)==b.Power.Lo)&&(((u.Power.Hi:Int)==b.Power.Hi)&&true))&&(((((u.Steps.1.Lo:Int)==b.Steps.1.Lo)&&(((u.Steps.1.Hi:Int)==b.Steps.1.Hi)&&true))&&((((u.Steps.2.Lo:Int)==b.Steps.2.Lo)&&(((u.Steps.2.Hi:Int)==b.Steps.2.Hi)&&true))&&true))&&(((u.Spread:Int)==b.Spread)&&((((u.Ratio.Lo:Int)==b.Ratio.Lo)&&(((u.Ratio.Hi:Int)==b.Ratio.Hi)&&true))&&((((u.Match.Lo:Int)==b.Match.Lo)&&(((u.Match.Hi:Int)==b.Match.Hi)&&true))&&((((u.Turn.Lo:Int)==b.Turn.Lo)&&(((u.Turn.Hi:Int)==b.Turn.Hi)&&true))&&true)))))))=decide (u=b):=by
 rcases u with ⟨k,⟨p1,p2⟩,⟨⟨s1,s2⟩,⟨s3,s4⟩⟩,sp,⟨r1,r2⟩,⟨m1,m2⟩,⟨t1,t2⟩⟩
 rcases b with ⟨k',⟨p1',p2'⟩,⟨⟨s1',s2'⟩,⟨s3',s4'⟩⟩,sp',⟨r1',r2'⟩,⟨m1',m2'⟩,⟨t1',t2'⟩⟩
 rw [Bool.eq_iff_iff];simp [and_assoc]
theorem gdt {g:Bool} (h:g=true):((g==true&&true))=true:=by rw [h];rfl
theorem gdf {g:Bool} (h:g=false):((g==true&&true))=false:=by rw [h];rfl
theorem A2e (F:Nat) (b:api_Span) (w:List Int) (l:List api_Span) (k1:Int→Int→List Int→List api_Span→Option volume_writer) (hl:l.length≤1000000000):∀(m i:Nat),i≤J7 b l→J7 b l-i<m →
  B8 F b.Lo b.Hi w l k1 m i=Bj F b.Lo b.Hi w l k1 (J7 b l:Nat):=by
 intro m;have hle:=Sr b l
 induction m with
 | zero=>intro i _ h;omega
 | succ m ih =>
  intro i hi hm;rw [B8,C9]
  by_cases hb:i<J7 b l
  ·have hx:=Yc hb;rw [gdT (gdt (dT (by omega))),Ei i b rfl hx,Sx b b,B0 (x:=decide (b=b)) (dT (by omega)),B0 (dT rfl),ckb (by omega)];exact ih (i+1) (by omega) (by omega)
  ·have he:i=J7 b l:=by omega
   subst he
   by_cases hc:J7 b l<l.length
   ·have hg:=List.getElem?_eq_getElem hc;rw [gdT (gdt (dT (by omega))),Ei _ _ rfl hg,Sx _ b,B0 (x:=decide (l[J7 b l]=b)) (dT (by omega)),At (dF (Yb hg))]
   ·rw [gdF (gdf (dF (by omega))),sbd,At (At (dF (by omega)))]
theorem Ug {α:Type} {l:List α} {n:Nat} {y:α} {r:List α} (h:l.drop n=y::r):l[n]? = some y∧n<l.length∧r=l.drop (n+1)∧r.length<l.length∧y∈l:=by
 have hn:n<l.length:=by
  rcases Nat.lt_or_ge n l.length with h1|h1
  ·exact h1
  ·rw [List.drop_of_length_le h1] at h;cases h
 rw [List.drop_eq_getElem_cons hn] at h
 cases h
 refine ⟨List.getElem?_eq_getElem hn,hn,rfl,by simp;omega,List.getElem_mem hn⟩
theorem A5c (F:Nat) (hF:1000≤F):∀(m:Nat) (l:List api_Span) (b:api_Span) (w:List Int),l.length<m→l.length<F→l.length≤1000000000→(∀x∈l,okS x)→w.length+200*l.length≤999999900000 →
  B3 F m b.Lo b.Hi w l=some ⟨w++K6 Hb b 0 l⟩:=by
 intro m
 induction m with
 | zero=>intro l b w h;omega
 | succ m ih =>
  intro l b w h hlF hl9 hok hw;rw [B3,Bi]
  cases hl:l with
  | nil=>simp [K6]
  | cons x0 l0 =>
   rw [←hl];have hpos:0<l.length:=by rw [hl];simp
   have hle:=Sr b l;have h9:=E6 (x:=(J7 b l:Int)) ⟨by omega,by omega⟩;rw [Int.toNat_natCast] at h9;rw [B0 (dT (by omega)),show (0:Int)=((0:Nat):Int) from rfl,A2e F b w l _ hl9 F 0 (by omega) (by omega),Bj,Fj hF (by unfold okW;simp;omega) (by intro x hx;simp at hx;subst hx;exact ⟨by omega,by omega⟩) (by simp),sbd,
    L3 (J7 b l) rfl rfl hle,Uw Hb b 0 l (.inr (by rw [hl];simp))]
   cases hd:l.drop (J7 b l) with
   | nil =>
    rw [At (dF (by simp))]
    cases m with
    | zero=>omega
    | succ m=>rw [B3,Bi,At (dF (by simp))];simp [Fz]
   | cons y r =>
    obtain ⟨hg,hn,hr,hrl,hy⟩:=Ug hd;rw [B0 (dT (by simp)),Ei 0 y (by rfl) (by rfl),L3 1 (by decide) (by rfl) (by simp),Qq hF (by simp [Fz];omega) (hok y hy),sbd];simp only [List.drop_succ_cons,List.drop_zero];rw [ih r y _ (by omega) (by omega) (by omega) (fun z hz=>hok z (by rw [hr] at hz;exact List.mem_of_mem_drop hz)) (by have:=F7 (hok y hy);simp [Fz];omega)];simp [Fz]
theorem A29 {F:Nat} (hF:1000≤F) {w:volume_writer} {l:List api_Span} {b:api_Span} (hl:l.length<F) (hl9:l.length≤1000000000) (hok:∀x∈l,okS x) (hw:w.b.length+200*l.length≤999999900000):Bv F w l b=some ⟨w.b++K6 Hb b 0 l⟩:=by
 rw [Bv];exact A5c F hF F l b w.b hl hl hl9 hok hw
theorem A2b (F:Nat) (b:api_Echo) (w:List Int) (l:List api_Echo) (k1:Int→Int→Int→Int→Int→Int→Int→Int→Int→Int→Int→Int→Int→Int→List Int→List api_Echo→Option volume_writer) (hl:l.length≤1000000000):∀(m i:Nat),i≤J7 b l→J7 b l-i<m →
  B7 F b.Kind b.Power.Lo b.Match.Lo b.Match.Hi b.Turn.Lo b.Turn.Hi b.Power.Hi b.Steps.1.Lo b.Steps.1.Hi b.Steps.2.Lo b.Steps.2.Hi b.Spread b.Ratio.Lo b.Ratio.Hi w l k1 m i=Bh F b.Kind b.Power.Lo b.Match.Lo b.Match.Hi b.Turn.Lo b.Turn.Hi b.Power.Hi b.Steps.1.Lo b.Steps.1.Hi b.Steps.2.Lo b.Steps.2.Hi b.Spread b.Ratio.Lo b.Ratio.Hi w l k1 (J7 b l:Nat):=by
 intro m;have hle:=Sr b l
 induction m with
 | zero=>intro i _ h;omega
 | succ m ih =>
  intro i hi hm;rw [B7,C8]
  by_cases hb:i<J7 b l
  ·have hx:=Yc hb;rw [gdT (gdt (dT (by omega))),Ei i b rfl hx,Sn b b,B0 (x:=decide (b=b)) (dT (by omega)),B0 (dT rfl),ckb (by omega)];exact ih (i+1) (by omega) (by omega)
  ·have he:i=J7 b l:=by omega
   subst he
   by_cases hc:J7 b l<l.length
   ·have hg:=List.getElem?_eq_getElem hc;rw [gdT (gdt (dT (by omega))),Ei _ _ rfl hg,Sn _ b,B0 (x:=decide (l[J7 b l]=b)) (dT (by omega)),At (dF (Yb hg))]
   ·rw [gdF (gdf (dF (by omega))),sbd,At (At (dF (by omega)))]
theorem A5b (F:Nat) (hF:1000≤F):∀(m:Nat) (l:List api_Echo) (b:api_Echo) (w:List Int),l.length<m→l.length<F→l.length≤1000000000→(∀x∈l,okE x)→w.length+300*l.length≤999999900000 →
  B2 F m b.Kind b.Power.Lo b.Match.Lo b.Match.Hi b.Turn.Lo b.Turn.Hi b.Power.Hi b.Steps.1.Lo b.Steps.1.Hi b.Steps.2.Lo b.Steps.2.Hi b.Spread b.Ratio.Lo b.Ratio.Hi w l=some ⟨w++K6 Kl b 0 l⟩:=by
 intro m
 induction m with
 | zero=>intro l b w h;omega
 | succ m ih =>
  intro l b w h hlF hl9 hok hw;rw [B2,Bg]
  cases hl:l with
  | nil=>simp [K6]
  | cons x0 l0 =>
   rw [←hl];have hpos:0<l.length:=by rw [hl];simp
   have hle:=Sr b l;have h9:=E6 (x:=(J7 b l:Int)) ⟨by omega,by omega⟩;rw [Int.toNat_natCast] at h9;rw [B0 (dT (by omega)),show (0:Int)=((0:Nat):Int) from rfl,A2b F b w l _ hl9 F 0 (by omega) (by omega),Bh,Fj hF (by unfold okW;simp;omega) (by intro x hx;simp at hx;subst hx;exact ⟨by omega,by omega⟩) (by simp),sbd,
    L3 (J7 b l) rfl rfl hle,Uw Kl b 0 l (.inr (by rw [hl];simp))]
   cases hd:l.drop (J7 b l) with
   | nil =>
    rw [At (dF (by simp))]
    cases m with
    | zero=>omega
    | succ m=>rw [B2,Bg,At (dF (by simp))];simp [Fz]
   | cons y r =>
    obtain ⟨hg,hn,hr,hrl,hy⟩:=Ug hd;rw [B0 (dT (by simp)),Ei 0 y (by rfl) (by rfl),L3 1 (by decide) (by rfl) (by simp),A46 hF (by simp [Fz];omega) (hok y hy),sbd];simp only [List.drop_succ_cons,List.drop_zero];rw [ih r y _ (by omega) (by omega) (by omega) (fun z hz=>hok z (by rw [hr] at hz;exact List.mem_of_mem_drop hz)) (by have:=Uh (hok y hy);simp [Fz];omega)];simp [Fz]
theorem A15 {F:Nat} (hF:1000≤F) {w:volume_writer} {l:List api_Echo} {b:api_Echo} (hl:l.length<F) (hl9:l.length≤1000000000) (hok:∀x∈l,okE x) (hw:w.b.length+300*l.length≤999999900000):Bu F w l b=some ⟨w.b++K6 Kl b 0 l⟩:=by
 rw [Bu];exact A5b F hF F l b w.b hl hl hl9 hok hw
def e0:api_Echo:=⟨1,⟨0,0⟩,(⟨0,0⟩,⟨0,0⟩),0,⟨0,0⟩,⟨0,0⟩,⟨0,0⟩⟩
def K8 (s:ByteArray):List Int:=G8 s.size++sby s
def R4 (l:List Int):List Int:=l.flatMap fun x=>G8 (zig x)
def Qn (s:api_Sweep):List Int:=Fz [1]++(K8 s.Site.Name++(R4 [s.Site.X,s.Site.Y]++(Fz [s.Site.Z,s.Site.Rose,s.Site.Gates,s.Site.Step,s.Site.Width,s.Tilt,s.Time]++K6 Kl e0 0 s.Rays.flatten)))
def Qa (f:volume_field):List Int:=Fz [2]++(K8 f.key++(Fz [f.time]++(R4 [f.Field.Grid.X,f.Field.Grid.Y]++(Fz [f.Field.Grid.Size,f.Field.Grid.Wide,f.Field.Grid.High]++K6 Hb ⟨0,0⟩ 0 f.Field.Vals))))
def Tm (n:volume_note):List Int:=Fz [3,n.time]++K8 n.text
def Ce (t:volume_thing):List Int:=t.cs [] (fun s=>Qn s.Sweep) Qa Tm
def A3g (s:api_Site):Prop:=s.Name.size≤1000∧okZ s.X∧okZ s.Y∧okN s.Z∧okN s.Rose∧okN s.Gates∧okN s.Step∧okN s.Width
def Rb (s:api_Sweep):Prop:=A3g s.Site∧okN s.Tilt∧okN s.Time∧s.Rays.length≤1000∧s.Rays.flatten.length≤100000∧∀r∈s.Rays,∀x∈r,okE x
def Sv (f:volume_field):Prop:=f.key.size≤1000∧okN f.time∧okZ f.Field.Grid.X∧okZ f.Field.Grid.Y∧okN f.Field.Grid.Size∧okN f.Field.Grid.Wide∧okN f.Field.Grid.High∧f.Field.Vals.length≤100000∧∀x∈f.Field.Vals,okS x
def Xh (n:volume_note):Prop:=okN n.time∧n.text.size≤1000
def okT (t:volume_thing):Prop:=t.cs False (fun s=>Rb s.Sweep) Sv Xh
theorem H8 {l:List Int} (h:∀x∈l,okN x):(Fz l).length≤9*l.length:=by
 induction l with
 | nil=>simp [Fz]
 | cons x l ih =>
  have h1:=E6 (h x (by simp));have h2:=ih fun y hy=>h y (by simp [hy]);simp only [Fz,List.flatMap_cons,List.length_append,List.length_cons] at h2 ⊢;omega
theorem R5 {l:List Int} (h:∀x∈l,okZ x):(R4 l).length≤9*l.length:=by
 induction l with
 | nil=>simp [R4]
 | cons x l ih =>
  have h1:=E6 (Xu (h x (by simp)));rw [Int.toNat_natCast] at h1;have h2:=ih fun y hy=>h y (by simp [hy]);simp only [R4,List.flatMap_cons,List.length_append,List.length_cons] at h2 ⊢;omega
theorem Mv {s:ByteArray} (h:s.size≤1000):(K8 s).length≤1009:=by
 have h9:=E6 (x:=(s.size:Int)) ⟨by omega,by omega⟩;rw [Int.toNat_natCast] at h9;unfold K8;rw [List.length_append,K7];omega
theorem M3 {x:Int} (h:0≤x∧x≤1000000):okN x:=⟨h.1,by omega⟩
theorem A4a (F:Nat) (hF:200000≤F) (s:volume_sweep) (y:volume_writer) (hok:Rb s.Sweep) (hy:y.b.length≤1000000):∀(m i:Nat) (acc:List api_Echo),s.Sweep.Rays.length-i<m→i≤s.Sweep.Rays.length→acc++(s.Sweep.Rays.drop i).flatten=s.Sweep.Rays.flatten →
  De F s y m acc i=some ⟨y.b++K6 Kl e0 0 s.Sweep.Rays.flatten⟩:=by
 intro m;obtain ⟨h1,h2,h3,h4,h5,h6⟩:=hok
 induction m with
 | zero=>intro i acc h;omega
 | succ m ih =>
  intro i acc h hi hacc;have hal:acc.length≤100000:=by
   have:=congrArg List.length hacc;rw [List.length_append] at this;omega
  rw [De,Fp]
  by_cases hb:i<s.Sweep.Rays.length
  ·have hd:=List.drop_eq_getElem_cons hb;have hacc2:(acc++s.Sweep.Rays[i])++(s.Sweep.Rays.drop (i+1)).flatten=s.Sweep.Rays.flatten:=by rw [←hacc,hd,List.flatten_cons,List.append_assoc]
   have hal2:acc.length+s.Sweep.Rays[i].length≤100000:=by
    have:=congrArg List.length hacc2;simp only [List.length_append] at this;omega
   rw [B0 (dT (by omega)),Ei i _ rfl (List.getElem?_eq_getElem hb),M4 (by omega) (by decide),ckb (by omega)];exact ih (i+1) _ (by omega) (by omega) hacc2
  ·have he:acc=s.Sweep.Rays.flatten:=by
    rw [List.drop_of_length_le (by omega)] at hacc;simpa using hacc
   rw [At (dF (by omega)),he,Fq,A15 (by omega) (by omega) (by omega) (fun x hx=>?_) (by omega)]
   ·rfl
   ·obtain ⟨r,hr,hx⟩:=List.mem_flatten.1 hx;exact h6 r hr x hx
theorem A2a {F:Nat} (hF:200000≤F) {t:volume_thing} (h:okT t):Jn F t ⟨[]⟩=some ⟨Ce t⟩:=by
 cases t with
 | nil_=>exact h.elim
 | ic156 s =>
  have hs:Rb s.Sweep:=h;have h':=hs;obtain ⟨⟨a1,a2,a3,a4,a5,a6,a7,a8⟩,h2,h3,h4,h5,h6⟩:=h';have o1:∀x∈[(1:Int)],okN x:=by intro x hx;simp at hx;subst hx;exact M3 (by decide)
  have o2:∀x∈[s.Sweep.Site.X,s.Sweep.Site.Y],okZ x:=by intro x hx;simp at hx;rcases hx with rfl|rfl<;>assumption
  have o3:∀x∈[s.Sweep.Site.Z,s.Sweep.Site.Rose,s.Sweep.Site.Gates,s.Sweep.Site.Step,s.Sweep.Site.Width,s.Sweep.Tilt,s.Sweep.Time],okN x:=by intro x hx;simp at hx;rcases hx with rfl|rfl|rfl|rfl|rfl|rfl|rfl<;>assumption
  have l1:=H8 o1;have l2:=Mv a1;have l3:=R5 o2;have l4:=H8 o3;simp only [List.length_cons,List.length_nil] at l1 l3 l4;show Fi F s ⟨[]⟩=some ⟨Qn s.Sweep⟩;rw [Fi,Fj (by omega) (by unfold okW;simp) o1 (by simp),sbd,Xs (by omega) (by simp only [List.nil_append];omega) (by omega),sbd];rw [S3 (by omega) (by simp only [List.nil_append,List.length_append];unfold K8 at l2;rw [List.length_append] at l2;omega) o2 (by simp),sbd,Fj (by omega) (by unfold okW;unfold R4 at l3;unfold K8 at l2;simp only [List.nil_append,List.length_append] at *;omega) o3 (by simp),sbd];rw [show (0:Int)=((0:Nat):Int) from rfl,A4a F hF s _ hs (by unfold R4 at l3;unfold K8 at l2;simp only [List.nil_append,List.length_append] at *;omega) F 0 [] (by omega) (by omega) (by simp)];simp [Qn,K8,R4]
 | ic158 f =>
  obtain ⟨a1,a2,a3,a4,a5,a6,a7,a8,a9⟩:=(show Sv f from h);have o1:∀x∈[(2:Int)],okN x:=by intro x hx;simp at hx;subst hx;exact M3 (by decide)
  have o4:∀x∈[f.time],okN x:=by intro x hx;simp at hx;subst hx;exact a2
  have o2:∀x∈[f.Field.Grid.X,f.Field.Grid.Y],okZ x:=by intro x hx;simp at hx;rcases hx with rfl|rfl<;>assumption
  have o3:∀x∈[f.Field.Grid.Size,f.Field.Grid.Wide,f.Field.Grid.High],okN x:=by intro x hx;simp at hx;rcases hx with rfl|rfl|rfl<;>assumption
  have l1:=H8 o1;have l2:=Mv a1;have l3:=R5 o2;have l4:=H8 o3;have l5:=H8 o4;simp only [List.length_cons,List.length_nil] at l1 l3 l4 l5;show Fg F f ⟨[]⟩=some ⟨Qa f⟩;rw [Fg,Fj (by omega) (by unfold okW;simp) o1 (by simp),sbd,Xs (by omega) (by simp only [List.nil_append];omega) (by omega),sbd];rw [Fj (by omega) (by unfold okW;unfold K8 at l2;simp only [List.nil_append,List.length_append] at *;omega) o4 (by simp),sbd];rw [S3 (by omega) (by unfold K8 at l2;simp only [List.nil_append,List.length_append] at *;omega) o2 (by simp),sbd,Fj (by omega) (by unfold okW;unfold R4 at l3;unfold K8 at l2;simp only [List.nil_append,List.length_append] at *;omega) o3 (by simp),sbd];rw [A29 (by omega) (by omega) (by omega) a9 (by unfold R4 at l3;unfold K8 at l2;simp only [List.nil_append,List.length_append] at *;omega),sbd];simp [Qa,K8,R4]
 | ic160 n =>
  obtain ⟨a1,a2⟩:=(show Xh n from h);have o1:∀x∈[(3:Int),n.time],okN x:=by intro x hx;simp at hx;rcases hx with rfl|rfl;(exact M3 (by decide));exact a1
  have l1:=H8 o1;simp only [List.length_cons,List.length_nil] at l1;show G6 F n ⟨[]⟩=some ⟨Tm n⟩;rw [G6,Fj (by omega) (by unfold okW;simp) o1 (by simp),sbd,Xs (by omega) (by simp only [List.nil_append];omega) (by omega),sbd];simp [Tm,K8]
end Go.Proofs.YtifbomimeodibaaGreat
namespace Go.Proofs.YtifbomimeodibaaGreat
open Go Go.RowKit Go.Eng
set_option maxRecDepth 10000
set_option linter.unusedVariables false
set_option linter.unusedSimpArgs false
def Wy:Nat→List Int→Nat
 | c,[]=>c
 | c,x::l=>Wy ((31*c+x.toNat)%2147483647) l
def A25 (c:Nat):List Int:=[128+((c%127:Nat):Int),128+((c/127%127:Nat):Int),128+((c/127/127%127:Nat):Int),128+((c/127/127/127%127:Nat):Int),1+((c/127/127/127/127%127:Nat):Int)]
def Vk (l:List Int):List Int:=A25 (Wy 1 l)
theorem Pa (l:List Int):(Vk l).length=5:=rfl
theorem A56 {α β:Type} {l:List α} {i:Int} {x:α} {f:List α→Option β} (n:Nat) (hi:i=(n:Int)) (h:n<l.length):(Vi l i x).bind f=f (l.set n x):=by
 subst hi;unfold Vi;rw [if_pos (by omega)];rfl
theorem A21 (F:Nat) (hF:10≤F) (c:Nat) (hc:c<2147483647):Ee F 5 0 c (List.replicate 5 0)=some (A25 c):=by
 obtain ⟨G,rfl⟩:∃G,F=G+6:=⟨F-6,by omega⟩;have step:∀(m i d:Nat) (l:List Int),i<5→l.length=5→d<2147483647→Ee (m+1) 5 i d l=Ee m 5 (i+1:Nat) (d/127:Nat) (l.set i (128+((d%127:Nat):Int))):=by
  intro m i d l hi hl hd;rw [Ee,Jf,B0 (dT (by omega)),(tdm d).1,sbd];have:=Nat.mod_lt d (show 0<127 by decide);rw [ckb (by omega),Ei i l[i] rfl (List.getElem?_eq_getElem (by omega)),A56 i rfl (by omega),(tdm d).2,ckb (by omega),ckb (by omega),X0 (by omega)];rfl
 rw [show (0:Int)=((0:Nat):Int) from rfl,step (G+5) 0 c _ (by decide) (by simp) hc,step (G+4) 1 _ _ (by decide) (by simp) (by omega),step (G+3) 2 _ _ (by decide) (by simp) (by omega),step (G+2) 3 _ _ (by decide) (by simp) (by omega),step (G+1) 4 _ _ (by decide) (by simp) (by omega)];rw [Ee,Jf,At (dF (by decide)),La];simp only [List.replicate,List.set_cons_zero,List.set_cons_succ];have h4:(128:Int)+((c/127/127/127/127%127:Nat):Int)-127=1+((c/127/127/127/127%127:Nat):Int):=by omega
 have:=Nat.mod_lt (c/127/127/127/127) (show 0<127 by decide);rw [Ei 4 (128+((c/127/127/127/127%127:Nat):Int)) (by decide) (by rfl),Ei 4 (128+((c/127/127/127/127%127:Nat):Int)) (by decide) (by rfl),A56 4 (by decide) (by simp),h4,X0 (by omega)];rfl
theorem A22 (F:Nat) (hF:10≤F) (p:List Int) (hp:By p) (hpl:p.length≤1000000000):∀(m i c:Nat),p.length-i<m→i≤p.length→c<2147483647→Hf F p m i c=some (A25 (Wy c (p.drop i))):=by
 intro m
 induction m with
 | zero=>intro i c h;omega
 | succ m ih =>
  intro i c h hi hc;rw [Hf,L8]
  by_cases hb:i<p.length
  ·have hx:=hp p[i] (List.getElem_mem hb);rw [B0 (dT (by omega)),Ei i p[i] rfl (List.getElem?_eq_getElem hb),ckb (by omega),ckb (by omega),ckb (by omega)];have e:Ju (31*(c:Int)+p[i]) 2147483647=some (((31*c+p[i].toNat)%2147483647:Nat):Int):=by
    have e1:31*(c:Int)+p[i]=((31*c+p[i].toNat:Nat):Int):=by omega
    rw [e1];unfold Ju;rw [if_neg (by decide)]
    congr 1
   rw [e,sbd,ckb (by omega)];have:=ih (i+1) _ (by omega) (by omega) (Nat.mod_lt (31*c+p[i].toNat) (show 0<2147483647 by decide));rw [show ((i:Int)+1)=((i+1:Nat):Int) by omega,this,List.drop_eq_getElem_cons hb];rfl
  ·rw [At (dF (by omega)),L9,List.drop_of_length_le (by omega)];show (mkI 1 5 0).bind _=_;rw [show mkI 1 5 (0:Int)=some (List.replicate 5 0) from by unfold mkI;rw [if_pos (by decide)];rfl,sbd];exact A21 F hF c hc
theorem A10 {F:Nat} (hF:10≤F) {p:List Int} (hp:By p) (hl:p.length<F) (hl9:p.length≤1000000000):Jm F p=some (Vk p):=by
 rw [Jm];exact A22 F hF p hp hl9 F 0 1 (by omega) (by omega) (by decide)
theorem Va (n:Nat):By (G8 n):=fun x hx=>by have:=Ye n x hx;omega
def Nz (l:List Int):Prop:=∀x∈l,1≤x∧x<256
theorem Nz.by {l:List Int} (h:Nz l):By l:=fun x hx=>by have:=h x hx;omega
theorem Nz.app {l k:List Int} (h:Nz l) (h':Nz k):Nz (l++k):=fun x hx=>(List.mem_append.1 hx).elim (h x) (h' x)
theorem Nz.nil:Nz []:=fun x hx=>by cases hx
theorem Nz.fm {α:Type} {l:List α} {f:α→List Int} (h:∀x∈l,Nz (f x)):Nz (l.flatMap f):=fun x hx=>by
 obtain ⟨y,hy,hx⟩:=List.mem_flatMap.1 hx;exact h y hy x hx
theorem K4 (n:Nat):Nz (G8 n):=fun x hx=>by have:=Ye n x hx;omega
theorem Jh (l:List Int):Nz (Fz l):=Nz.fm fun x _=>K4 _
theorem Sp (l:List Int):Nz (R4 l):=Nz.fm fun x _=>K4 _
theorem Le (s:api_Span):Nz (Hb s):=(K4 _).app (K4 _)
theorem Vt (x:api_Echo):Nz (Kl x):=by
 unfold Kl;refine (K4 _).app ?_
 split
 ·exact K4 _
 ·refine (Le _).app ((Le _).app ((Le _).app ((K4 _).app ?_)))
  split
  ·exact (Le _).app ((Le _).app (Le _))
  ·exact Nz.nil
theorem Sw {α:Type} [DecidableEq α] {e:α→List Int} (he:∀x,Nz (e x)):∀(l:List α) (b:α) (n:Nat),Nz (K6 e b n l):=by
 intro l
 induction l with
 | nil=>intro b n;rw [K6];split;exact Nz.nil;exact K4 _
 | cons x l ih =>
  intro b n;rw [K6]
  split
  ·exact ih _ _
  ·exact (K4 _).app ((he x).app (ih _ _))
theorem Vl (l:List Int):Nz (Vk l):=by
 have h:∀c:Nat,(0:Int)≤((c%127:Nat):Int)∧((c%127:Nat):Int)<127:=fun c=>by have:=Nat.mod_lt c (show 0<127 by decide);omega
 intro x hx;unfold Vk A25 at hx;simp only [List.mem_cons,List.not_mem_nil,or_false] at hx;rcases hx with rfl|rfl|rfl|rfl|rfl
 ·have:=h (Wy 1 l);omega
 ·have:=h (Wy 1 l/127);omega
 ·have:=h (Wy 1 l/127/127);omega
 ·have:=h (Wy 1 l/127/127/127);omega
 ·have:=h (Wy 1 l/127/127/127/127);omega
def Tz (s:ByteArray):Prop:=Nz (sby s)
theorem U1 {s:ByteArray} (h:Tz s):Nz (K8 s):=(K4 _).app h
def tzT (t:volume_thing):Prop:=t.cs True (fun s=>Tz s.Sweep.Site.Name) (fun f=>Tz f.key) (fun n=>Tz n.text)
theorem Zi {t:volume_thing} (h:tzT t):Nz (Ce t):=by
 cases t with
 | nil_=>exact Nz.nil
 | ic156 s=>exact (Jh _).app ((U1 h).app ((Sp _).app ((Jh _).app (Sw Vt _ _ _))))
 | ic158 f=>exact (Jh _).app ((U1 h).app ((Jh _).app ((Sp _).app ((Jh _).app (Sw Le _ _ _)))))
 | ic160 n=>exact (Jh _).app (U1 h)
def cnt (t:volume_thing):Nat:=t.cs 0 (fun s=>s.Sweep.Rays.flatten.length) (fun f=>f.Field.Vals.length) (fun _=>0)
theorem Sf {t:volume_thing} (h:okT t):(Ce t).length≤1200+139*cnt t:=by
 cases t with
 | nil_=>exact h.elim
 | ic156 s =>
  obtain ⟨⟨a1,a2,a3,a4,a5,a6,a7,a8⟩,h2,h3,h4,h5,h6⟩:=(show Rb s.Sweep from h);have l1:=H8 (l:=[(1:Int)]) (by intro x hx;simp at hx;subst hx;exact M3 (by decide));have l2:=Mv a1;have l3:=R5 (l:=[s.Sweep.Site.X,s.Sweep.Site.Y]) (by intro x hx;simp at hx;rcases hx with rfl|rfl<;>assumption)
  have l4:=H8 (l:=[s.Sweep.Site.Z,s.Sweep.Site.Rose,s.Sweep.Site.Gates,s.Sweep.Site.Step,s.Sweep.Site.Width,s.Sweep.Tilt,s.Sweep.Time]) (by intro x hx;simp at hx;rcases hx with rfl|rfl|rfl|rfl|rfl|rfl|rfl<;>assumption)
  have l5:=Wl (e:=Kl) (c:=130) s.Sweep.Rays.flatten e0 0 (fun x hx=>Uh (by obtain ⟨r,hr,hx⟩:=List.mem_flatten.1 hx;exact h6 r hr x hx)) (by omega);simp only [List.length_cons,List.length_nil] at l1 l3 l4;show (Qn s.Sweep).length≤1200+139*s.Sweep.Rays.flatten.length;simp only [Qn,List.length_append];omega
 | ic158 f =>
  obtain ⟨a1,a2,a3,a4,a5,a6,a7,a8,a9⟩:=(show Sv f from h);have l1:=H8 (l:=[(2:Int)]) (by intro x hx;simp at hx;subst hx;exact M3 (by decide));have l2:=Mv a1;have l3:=R5 (l:=[f.Field.Grid.X,f.Field.Grid.Y]) (by intro x hx;simp at hx;rcases hx with rfl|rfl<;>assumption)
  have l4:=H8 (l:=[f.Field.Grid.Size,f.Field.Grid.Wide,f.Field.Grid.High]) (by intro x hx;simp at hx;rcases hx with rfl|rfl|rfl<;>assumption)
  have l6:=H8 (l:=[f.time]) (by intro x hx;simp at hx;subst hx;exact a2);have l5:=Wl (e:=Hb) (c:=18) f.Field.Vals ⟨0,0⟩ 0 (fun x hx=>F7 (a9 x hx)) (by omega);simp only [List.length_cons,List.length_nil] at l1 l3 l4 l6;show (Qa f).length≤1200+139*f.Field.Vals.length;simp only [Qa,List.length_append];omega
 | ic160 n =>
  obtain ⟨a1,a2⟩:=(show Xh n from h);have l1:=H8 (l:=[(3:Int),n.time]) (by intro x hx;simp at hx;rcases hx with rfl|rfl;(exact M3 (by decide));exact a1)
  have l2:=Mv a2;simp only [List.length_cons,List.length_nil] at l1;show (Tm n).length≤1200+139*0;simp only [Tm,List.length_append];omega
theorem A3v (s:ByteArray):By (sby s):=fun x hx=>by
 obtain ⟨b,_,rfl⟩:=List.mem_map.1 hx;have:=b.toNat_lt;omega
theorem U0 (s:ByteArray):By (K8 s):=(Va _).app (A3v s)
theorem Uz (t:volume_thing):By (Ce t):=by
 cases t with
 | nil_=>exact Nz.nil.by
 | ic156 s=>exact (Jh _).by.app ((U0 _).app ((Sp _).by.app ((Jh _).by.app (Sw Vt _ _ _).by)))
 | ic158 f=>exact (Jh _).by.app ((U0 _).app ((Jh _).by.app ((Sp _).by.app ((Jh _).by.app (Sw Le _ _ _).by))))
 | ic160 n=>exact (Jh _).by.app (U0 _)
theorem Qo {t:volume_thing} (h:okT t):(Ce t).length≤14000000:=by
 have h1:=Sf h;have h2:cnt t≤100000:=by
  cases t with
  | nil_=>exact h.elim
  | ic156 s=>exact (show Rb s.Sweep from h).2.2.2.2.1
  | ic158 f=>exact (show Sv f from h).2.2.2.2.2.2.2.1
  | ic160 n=>exact Nat.zero_le _
 omega
def P2 (b:List Int):List Int:=G8 b.length++b
def Ll (t:volume_thing):List Int:=P2 (Ce t)++Vk (P2 (Ce t))
def Ko (t:volume_thing):List Int:=0::Ll t
theorem A0o {t:volume_thing} (h:tzT t):Nz (P2 (Ce t)):=(K4 _).app (Zi h)
theorem Za {t:volume_thing} (h:tzT t):Nz (Ll t):=(A0o h).app (Vl _)
theorem Vo {F:Nat} (hF:200000≤F) {t:volume_thing} (h:okT t) (hl:(Ce t).length+100≤F):H5 F t=some (Ko t):=by
 have hlen:=Qo h;have h9:=E6 (x:=((Ce t).length:Int)) ⟨by omega,by omega⟩;rw [Int.toNat_natCast] at h9;rw [H5,A2a hF h,sbd,Fj (by omega) (by unfold okW;simp) (by intro x hx;simp at hx;subst hx;exact ⟨by omega,by omega⟩) (by simp),sbd];have e:([]:List Int)++Fz [((Ce t).length:Int)]=G8 (Ce t).length:=by simp [Fz]
 simp only [e];rw [M4 (by omega) (by decide)];show (Jm F (P2 (Ce t))).bind _=_;have hpl:(P2 (Ce t)).length=(G8 (Ce t).length).length+(Ce t).length:=by unfold P2;rw [List.length_append]
 have hby:By (P2 (Ce t)):=(Va _).app (Uz t);rw [A10 (by omega) hby (by omega) (by omega),sbd,M4 (by rw [List.length_append,Pa];omega) (by decide)];rw [show G8 (Ce t).length++Ce t=P2 (Ce t) from rfl];rw [M4 (by rw [List.length_append,Pa];simp;omega) (by decide)];rfl
end Go.Proofs.YtifbomimeodibaaGreat
namespace Go.Proofs.YtifbomimeodibaaGreat
open Go Go.RowKit Go.Eng
set_option maxRecDepth 10000
set_option linter.unusedVariables false
set_option linter.unusedSimpArgs false
abbrev RE (α:Type):=Option (Except (Value×volume_reader) (α×volume_reader))
def W7:Value:=.iface 128 (.int .i64 7)
def Rd {α:Type} (y:RE α) (o:Option (α×List Int)):Prop:=match o with
 | some x=>y=some (.ok (x.1,⟨x.2⟩))
 | none=>∃r,y=some (.error (W7,r))
theorem Rd.bind {α β:Type} {y:RE α} {o:Option (α×List Int)} (h:Rd y o) {f:α×volume_reader→RE β} {g:α×List Int→Option (β×List Int)} (hf:∀x r,o=some (x,r)→Rd (f (x,⟨r⟩)) (g (x,r))) :
  Rd (y.bind fun z=>exc z (fun e=>some (.error (e.1,volume_reader.mk e.2.b))) f) (o.bind g):=by
 cases o with
 | none=>obtain ⟨r,hr⟩:=h;rw [hr];exact ⟨_,rfl⟩
 | some x =>
  rw [show y=some (.ok (x.1,⟨x.2⟩)) from h];exact hf x.1 x.2 rfl
theorem Rd.ok {α:Type} {x:α} {r:List Int}:Rd (some (.ok (x,⟨r⟩))) (some (x,r)):=rfl
theorem Rd.bad {α:Type} {r:volume_reader}:Rd (α:=α) (some (.error (W7,r))) none:=⟨r,rfl⟩
theorem By.suf {l k:List Int} (h:By l) (hs:k <:+ l):By k:=fun x hx=>h x (hs.subset hx)
def rdD:Nat→Bool→List Int→Option (Int×List Int)
 | 0,_,_=>none
 | _+1,_,[]=>none
 | k+1,f,c::l=>if c=0∨c=255∨(c=1∧f=false) then none else if c<128 then some (c-1,l) else (rdD k false l).map fun y=>(c-128+127*y.1,y.2)
def rN (l:List Int):Option (Int×List Int):=rdD 8 true l
theorem A4t:∀(k:Nat) (f:Bool) (l:List Int) (x:Int) (r:List Int),By l→rdD k f l=some (x,r)→0≤x∧x<127 ^ k∧r <:+ l:=by
 intro k
 induction k with
 | zero=>intro f l x r _ h;cases h
 | succ k ih =>
  intro f l x r hb h
  cases l with
  | nil=>cases h
  | cons c l =>
   have hc:=hb c (by simp);have hp:(0:Int)<127 ^ k:=Int.pow_pos (by decide);rw [rdD] at h
   split at h
   ·cases h
   ·rename_i g1
    have g2:c≠0:=fun e=>g1 (.inl e);have g3:c≠255:=fun e=>g1 (.inr (.inl e));rw [Int.pow_succ]
    split at h
    ·cases h
     exact ⟨by omega,by omega,List.suffix_cons ..⟩
    ·obtain ⟨z,hz,he⟩:=Option.map_eq_some_iff.1 h
     cases he
     obtain ⟨h1,h2,h3⟩:=ih false l z.1 z.2 (fun x hx=>hb x (by simp [hx])) hz;exact ⟨by omega,by omega,h3.trans (List.suffix_cons ..)⟩
theorem G1 {l:List Int} {x:Int} {r:List Int} (hb:By l) (h:rN l=some (x,r)):0≤x∧x<67675234241018881∧r <:+ l:=by
 have:=A4t 8 true l x r hb h;exact this
theorem A3n (p:List Int) (hp:By p):∀(m i k:Nat) (n:Int),i+k=8→k<m→0≤n→n≤127 ^ i →
  Rd (Ba ⟨p⟩ (p.take 8) m i n (127 ^ i:Nat)) ((rdD k (i==0) (p.drop i)).map fun y=>(n+127 ^ i*y.1,y.2)):=by
 intro m
 induction m with
 | zero=>intro i k n _ h;omega
 | succ m ih =>
  intro i k n hik hk hn0 hn;rw [Ba,E7];have hpi:(127:Int) ^ i≤127 ^ 8:=by
   have:(127:Nat) ^ i≤127 ^ 8:=Nat.pow_le_pow_right (by decide) (by omega)
   exact_mod_cast this
  have e8:(127:Int) ^ 8=67675234241018881:=by decide
  have hp0:(0:Int)<127 ^ i:=Int.pow_pos (by decide);have ecast:((127 ^ i:Nat):Int)=127 ^ i:=by push_cast;rfl
  rw [ecast]
  by_cases hb:i<(p.take 8).length
  ·have hb':i<p.length∧i<8:=by rw [List.length_take] at hb;omega
   obtain ⟨k,rfl⟩:∃k',k=k'+1:=⟨k-1,by omega⟩;have hx:=hp p[i] (List.getElem_mem hb'.1);rw [B0 (dT (by omega)),Ei i p[i] rfl (by rw [List.getElem?_take];rw [if_pos hb'.2];exact List.getElem?_eq_getElem hb'.1),List.drop_eq_getElem_cons hb'.1,rdD];have hp7:(127:Int) ^ i≤127 ^ 7:=by
    have:(127:Nat) ^ i≤127 ^ 7:=Nat.pow_le_pow_right (by decide) (by omega)
    exact_mod_cast this
   have e7:(127:Int) ^ 7=532875860165503:=by decide
   have hmul:p[i]*127 ^ i≤256*127 ^ i:=Int.mul_le_mul_of_nonneg_right (by omega) (by omega);have hmul0:0≤p[i]*127 ^ i:=Int.mul_nonneg (by omega) (by omega)
   by_cases hc:p[i]=0∨p[i]=255∨(p[i]=1∧(i==0)=false)
   ·rw [if_pos hc,B0 ?_]
    ·exact Rd.bad
    ·rcases hc with h|h|⟨h1,h2⟩
     ·simp [h]
     ·simp [h]
     ·simp at h2;simp [h1];omega
   ·rw [if_neg hc,At ?_]
    ·by_cases hs:p[i]<128
     ·have e1:(p[i]-1)*127 ^ i=p[i]*127 ^ i-127 ^ i:=by rw [Int.sub_mul,Int.one_mul]
      rw [if_pos hs,B0 (dT hs),ckb (by omega),L3 (i+1) (by omega) rfl (by simp;omega),ckb (by omega),ckb (by omega),ckb (by omega),ckb (by omega)];show some (Except.ok (n+(p[i]-1)*127 ^ i,volume_reader.mk (p.drop (i+1))))=some (.ok (n+127 ^ i*(p[i]-1),⟨p.drop (i+1)⟩));rw [Int.mul_comm (127 ^ i) (p[i]-1)]
     ·have e1:(p[i]-128)*127 ^ i=p[i]*127 ^ i-128*127 ^ i:=by rw [Int.sub_mul]
      have e2:(p[i]-128)*127 ^ i≤126*127 ^ i:=Int.mul_le_mul_of_nonneg_right (by have:p[i]≠255:=fun e=>hc (.inr (.inl e));omega) (by omega);have e3:0≤(p[i]-128)*127 ^ i:=Int.mul_nonneg (by omega) (by omega);have e4:(127:Int) ^ (i+1)=127 ^ i*127:=Int.pow_succ ..;rw [if_neg hs,At (dF hs),E9,ckb (by omega),ckb (by omega),ckb (by omega),ckb (by omega),ckb (by omega),ckb (by omega)];have:=ih (i+1) k (n+(p[i]-128)*127 ^ i) (by omega) (by omega) (by omega) (by rw [e4];omega);have ecast2:((127 ^ (i+1):Nat):Int)=127 ^ i*127:=by rw [←e4];push_cast;rfl
      rw [ecast2] at this;rw [show ((i:Int)+1)=((i+1:Nat):Int) by omega];rw [Option.map_map];have ef:(i+1==0)=false:=rfl;rw [ef] at this
      cases hr:rdD k false (p.drop (i+1)) with
      | none=>rw [hr] at this;exact this
      | some y =>
       rw [hr] at this;have this':_=some (Except.ok (n+(p[i]-128)*127 ^ i+127 ^ (i+1)*y.1,volume_reader.mk y.2)):=this;show _=some (Except.ok (n+127 ^ i*(p[i]-128+127*y.1),volume_reader.mk y.2));rw [this',e4,Int.mul_add,Int.mul_comm (127 ^ i) (p[i]-128),←Int.add_assoc,←Int.mul_assoc]
    ·have h1:¬p[i]=0:=fun e=>hc (.inl e);have h2:¬p[i]=255:=fun e=>hc (.inr (.inl e));simp only [beq_eq_false_iff_ne.2 h1,beq_eq_false_iff_ne.2 h2,cond_false]
     by_cases h3:p[i]=1
     ·have h4:i=0:=by
       rcases Nat.eq_zero_or_pos i with h|h
       ·exact h
       ·exact absurd (.inr (.inr ⟨h3,by simp;omega⟩)) hc
      simp [h3,h4]
     ·simp [h3]
  ·rw [At (dF (by omega)),E8];have:rdD k (i==0) (p.drop i)=none:=by
    rw [List.length_take] at hb;rcases Nat.eq_zero_or_pos k with h|h
    ·subst h;rfl
    ·rw [List.drop_of_length_le (by omega)];obtain ⟨k,rfl⟩:∃k',k=k'+1:=⟨k-1,by omega⟩;rfl
   rw [this];exact Rd.bad
theorem Cz {F:Nat} (hF:1000≤F) {p:List Int} (hp:By p):Rd (Ab F ⟨p⟩) (rN p):=by
 rw [Ab];have h:(Jl p (0:Int) (if 8<((p.length:Nat):Int) then 8 else ((p.length:Nat):Int))).bind (fun l80=>Ba ⟨p⟩ l80 F 0 0 1)=Ba ⟨p⟩ (p.take 8) F 0 0 1:=by
  by_cases h8:8<p.length
  ·rw [if_pos (by omega),T3 8 (by rfl) (by rfl) (by omega)]
  ·rw [if_neg (by omega),T3 p.length (by rfl) (by rfl) (by omega),List.take_of_length_le (by omega),List.take_of_length_le (by omega)]
 show Rd ((Jl p (0:Int) (if 8<((p.length:Nat):Int) then 8 else ((p.length:Nat):Int))).bind (fun l80=>Ba ⟨p⟩ l80 F 0 0 1)) _;rw [h];have:=A3n p hp F 0 8 0 (by omega) (by omega) (by omega) (by decide)
 cases hr:rN p with
 | none =>
  rw [show rdD 8 (0==0) (p.drop 0)=none from hr] at this;exact this
 | some y =>
  rw [show rdD 8 (0==0) (p.drop 0)=some y from hr] at this;have this':_=some (Except.ok (0+127 ^ 0*y.1,volume_reader.mk y.2)):=this;rw [show (0:Int)+127 ^ 0*y.1=y.1 by simp] at this';exact this'
end Go.Proofs.YtifbomimeodibaaGreat
namespace Go.Proofs.YtifbomimeodibaaGreat
open Go Go.RowKit Go.Eng
set_option maxRecDepth 10000
set_option linter.unusedVariables false
set_option linter.unusedSimpArgs false
def unz (n:Int):Int:=if n%2=1 then -((n+1)/2) else n/2
def rI (l:List Int):Option (Int×List Int):=(rN l).bind fun y=>some (unz y.1,y.2)
def rT (l:List Int):Option (ByteArray×List Int):=(rN l).bind fun y=>if y.1>(y.2.length:Int) then none else some (bst (y.2.take y.1.toNat),y.2.drop y.1.toNat)
def rS (l:List Int):Option (api_Span×List Int):=(rI l).bind fun y=>(rN y.2).bind fun z=>some (⟨y.1,y.1+z.1⟩,z.2)
def rE (l:List Int):Option (api_Echo×List Int):=(rN l).bind fun k=>if k.1=1 then (rN k.2).bind fun h=>some (⟨k.1,⟨0,h.1⟩,(⟨0,0⟩,⟨0,0⟩),0,⟨0,0⟩,⟨0,0⟩,⟨0,0⟩⟩,h.2)
 else (rS k.2).bind fun p=>(rS p.2).bind fun r=>(rS r.2).bind fun m=>(rN m.2).bind fun s=>if k.1=3 then (rS s.2).bind fun a=>(rS a.2).bind fun b=>(rS b.2).bind fun t=>some (⟨k.1,p.1,(a.1,b.1),s.1,r.1,m.1,t.1⟩,t.2)
  else some (⟨k.1,p.1,(⟨0,0⟩,⟨0,0⟩),s.1,r.1,m.1,⟨0,0⟩⟩,s.2)
theorem E2 {α β:Type} {o:Option (α×List Int)} {f:α×List Int→Option β} {y:β} (h:o.bind f=some y):∃x r,o=some (x,r)∧f (x,r)=some y:=by
 obtain ⟨⟨x,r⟩,h1,h2⟩:=Option.bind_eq_some_iff.1 h;exact ⟨x,r,h1,h2⟩
def A3h (x:Int):Prop:=-67675234241018881≤x∧x≤67675234241018881
theorem A45 {n:Int} (h:0≤n∧n<67675234241018881):A3h (unz n):=by
 unfold unz A3h;split<;>omega
theorem Uv {l:List Int} {x:Int} {r:List Int} (hb:By l) (h:rI l=some (x,r)):A3h x∧r <:+ l:=by
 obtain ⟨n,r',h1,h2⟩:=E2 h
 cases h2
 obtain ⟨a,b,c⟩:=G1 hb h1;exact ⟨A45 ⟨a,b⟩,c⟩
theorem A2s {l:List Int} {x:ByteArray} {r:List Int} (hb:By l) (h:rT l=some (x,r)):r <:+ l∧x.size≤l.length:=by
 obtain ⟨n,r',h1,h2⟩:=E2 h;obtain ⟨a,b,c⟩:=G1 hb h1
 split at h2
 ·cases h2
 ·rename_i hg
  cases h2
  refine ⟨(List.drop_suffix ..).trans c,?_⟩;have:=c.length_le;show (bst (r'.take n.toNat)).size≤_;unfold bst;simp only [ByteArray.size,List.size_toArray,List.length_map,List.length_take];simp only at hg;omega
def okS' (s:api_Span):Prop:=-67675234241018881≤s.Lo∧s.Lo≤s.Hi∧s.Hi≤200000000000000000
theorem okS'.ok {s:api_Span} (h:okS' s):okS s:=by obtain ⟨a,b,c⟩:=h;exact ⟨by omega,b,by omega⟩
theorem Nl {l:List Int} {x:api_Span} {r:List Int} (hb:By l) (h:rS l=some (x,r)):okS' x∧r <:+ l:=by
 obtain ⟨lo,r1,h1,h2⟩:=E2 h;obtain ⟨n,r2,h3,h4⟩:=E2 h2
 cases h4
 obtain ⟨⟨a,b⟩,c⟩:=Uv hb h1;obtain ⟨d,e,f⟩:=G1 (hb.suf c) h3;exact ⟨⟨a,by simp only;omega,by simp only;omega⟩,f.trans c⟩
theorem A0q {l:List Int} {x:api_Echo} {r:List Int} (hb:By l) (h:rE l=some (x,r)):r <:+ l:=by
 obtain ⟨k,r0,h0,h⟩:=E2 h;obtain ⟨a0,b0,c0⟩:=G1 hb h0;have hb0:=hb.suf c0
 split at h
 ·obtain ⟨n,r1,h1,h⟩:=E2 h
  cases h
  obtain ⟨a1,b1,c1⟩:=G1 hb0 h1;exact c1.trans c0
 ·obtain ⟨p,r1,h1,h⟩:=E2 h;obtain ⟨p1,c1⟩:=Nl hb0 h1;have hb1:=hb0.suf c1;obtain ⟨q,r2,h2,h⟩:=E2 h;obtain ⟨p2,c2⟩:=Nl hb1 h2;have hb2:=hb1.suf c2;obtain ⟨m,r3,h3,h⟩:=E2 h;obtain ⟨p3,c3⟩:=Nl hb2 h3;have hb3:=hb2.suf c3;obtain ⟨s,r4,h4,h⟩:=E2 h;obtain ⟨a4,b4,c4⟩:=G1 hb3 h4;have hb4:=hb3.suf c4;have hs:s∈[s]:=by simp
  split at h
  ·obtain ⟨a,r5,h5,h⟩:=E2 h;obtain ⟨p5,c5⟩:=Nl hb4 h5;have hb5:=hb4.suf c5;obtain ⟨b,r6,h6,h⟩:=E2 h;obtain ⟨p6,c6⟩:=Nl hb5 h6;have hb6:=hb5.suf c6;obtain ⟨t,r7,h7,h⟩:=E2 h;obtain ⟨p7,c7⟩:=Nl hb6 h7
   cases h
   exact c7.trans (c6.trans (c5.trans (c4.trans (c3.trans (c2.trans (c1.trans c0))))))
  ·cases h
   exact c4.trans (c3.trans (c2.trans (c1.trans c0)))
theorem Ms {F:Nat} (hF:1000≤F) {p:List Int} (hp:By p):Rd (Bf F ⟨p⟩) (rI p):=by
 rw [Bf,rI];refine (Cz hF hp).bind fun n r h=>?_;obtain ⟨a,b,c⟩:=G1 hp h;have e:Ju n 2=some (n%2):=by
  unfold Ju;rw [if_neg (by decide),Int.tmod_eq_emod_of_nonneg a]
 show Rd ((Ju n 2).bind _) _;rw [e,sbd];unfold unz
 by_cases h1:n%2=1
 ·rw [if_pos h1,B0 (by simp [h1]),ckb (by omega)];have ew:IntKind.i64.wrap (0-(n+1))=-(n+1):=by
   simp only [IntKind.wrap,IntKind.signed,IntKind.bits];simp;omega
  have eq:Ni (IntKind.i64.wrap (0-(n+1))) 2=some (-((n+1)/2)):=by
   rw [ew];unfold Ni;rw [if_neg (by decide),Int.neg_tdiv,Int.tdiv_eq_ediv_of_nonneg (by omega)];unfold ck;rw [if_pos (by omega)]
  show Rd ((Ni (IntKind.i64.wrap (0-(n+1))) 2).bind _) _;rw [eq];exact Rd.ok
 ·rw [if_neg h1,At (by simp [h1])];have eq:Ni n 2=some (n/2):=by
   unfold Ni;rw [if_neg (by decide),Int.tdiv_eq_ediv_of_nonneg a];unfold ck;rw [if_pos (by omega)]
  show Rd ((Ni n 2).bind _) _;rw [eq];exact Rd.ok
theorem Xl {F:Nat} (hF:1000≤F) {p:List Int} (hp:By p):Rd (D4 F ⟨p⟩) (rT p):=by
 rw [D4,rT];refine (Cz hF hp).bind fun n r h=>?_;obtain ⟨a,b,c⟩:=G1 hp h;show Rd (bif decide (n>(r.length:Int)) then _ else _) (if n>(r.length:Int) then _ else _)
 by_cases h1:n>(r.length:Int)
 ·rw [if_pos h1,B0 (dT h1)];exact Rd.bad
 ·rw [if_neg h1,At (dF h1),Ex];have en:n=((n.toNat:Nat):Int):=by omega
  rw [T3 n.toNat rfl en (show n.toNat≤r.length by omega),L3 n.toNat en rfl (show n.toNat≤r.length by omega)];exact Rd.ok
theorem Qh {F:Nat} (hF:1000≤F) {p:List Int} (hp:By p):Rd (Be F ⟨p⟩) (rS p):=by
 rw [Be,rS];refine (Ms hF hp).bind fun x r h=>?_;obtain ⟨⟨a,b⟩,c⟩:=Uv hp h;refine (Cz hF (hp.suf c)).bind fun n r2 h2=>?_;obtain ⟨d,e,f⟩:=G1 (hp.suf c) h2;rw [ckb (by simp only;omega)];exact Rd.ok
theorem A3m {F:Nat} (hF:1000≤F) {p:List Int} (hp:By p):Rd (Ev F ⟨p⟩) (rE p):=by
 rw [Ev,rE];refine (Cz hF hp).bind fun k r0 h0=>?_;obtain ⟨a0,b0,c0⟩:=G1 hp h0;have hb0:=hp.suf c0;show Rd (bif k==1 then _ else _) (if k=1 then _ else _)
 by_cases hk:k=1
 ·rw [if_pos hk,B0 (by simp [hk])];refine (Cz hF hb0).bind fun n r h=>?_;exact Rd.ok
 ·rw [if_neg hk,At (by simp [hk])];refine (Qh hF hb0).bind fun p r1 h1=>?_;have hb1:=hb0.suf (Nl hb0 h1).2;refine (Qh hF hb1).bind fun q r2 h2=>?_;have hb2:=hb1.suf (Nl hb1 h2).2;refine (Qh hF hb2).bind fun m r3 h3=>?_;have hb3:=hb2.suf (Nl hb2 h3).2;refine (Cz hF hb3).bind fun s r4 h4=>?_;have hb4:=hb3.suf (G1 hb3 h4).2.2;show Rd (bif k==3 then _ else _) (if k=3 then _ else _)
  by_cases hk3:k=3
  ·rw [if_pos hk3,B0 (by simp [hk3])];refine (Qh hF hb4).bind fun a r5 h5=>?_;have hb5:=hb4.suf (Nl hb4 h5).2;refine (Qh hF hb5).bind fun b r6 h6=>?_;have hb6:=hb5.suf (Nl hb5 h6).2;refine (Qh hF hb6).bind fun t r7 h7=>?_;exact Rd.ok
  ·rw [if_neg hk3,At (by simp [hk3])];exact Rd.ok
def rL {α:Type} [DecidableEq α] (rd:List Int→Option (α×List Int)):Nat→Nat→α→List Int→Option (List α×List Int)
 | 0,_,_,_=>none
 | m+1,n,b,l=>if n=0 then some ([],l) else (rN l).bind fun y=>if y.1>(n:Int) then none else if n=y.1.toNat then some (List.replicate n b,y.2) else
   (rd y.2).bind fun z=>if z.1=b then none else (rL rd m (n-y.1.toNat-1) z.1 z.2).map fun u=>(List.replicate y.1.toNat b++z.1::u.1,u.2)
theorem A3k {α:Type} [DecidableEq α] {rd:List Int→Option (α×List Int)} (hrd:∀l x r,By l→rd l=some (x,r)→r <:+ l):∀(m n:Nat) (b:α) (l:List Int) (u:List α) (r:List Int),By l→rL rd m n b l=some (u,r)→u.length=n∧r <:+ l:=by
 intro m
 induction m with
 | zero=>intro n b l u r _ h;cases h
 | succ m ih =>
  intro n b l u r hb h;rw [rL] at h
  split at h
  ·cases h;rename_i h0;exact ⟨h0.symm,List.suffix_refl _⟩
  ·obtain ⟨k,r1,h1,h⟩:=E2 h;obtain ⟨a,b1,c⟩:=G1 hb h1;simp only at h
   split at h
   ·cases h
   ·split at h
    ·cases h;exact ⟨by simp,c⟩
    ·obtain ⟨z,r2,h2,h⟩:=E2 h;simp only at h
     split at h
     ·cases h
     ·obtain ⟨⟨u',r'⟩,h3,h4⟩:=Option.map_eq_some_iff.1 h
      cases h4
      have hc:=hrd _ _ _ (hb.suf c) h2;obtain ⟨i1,i2⟩:=ih _ _ _ _ _ (hb.suf (hc.trans c)) h3;refine ⟨?_,i2.trans (hc.trans c)⟩;simp only [List.length_append,List.length_replicate,List.length_cons,i1];omega
theorem A3u (F:Nat) (N:Int) (b:api_Span) (k2:Int→Int→List Int→List api_Span→RE (List api_Span)) (y:Int×volume_reader) (hy:y.1≤1000000):∀(m i:Nat) (out:List api_Span),(i:Int)≤y.1→y.1-i<m→out.length+(y.1-i)≤2000000 →
  B5 F N b.Lo b.Hi k2 y m i out=Bt F N b.Lo b.Hi k2 y (out++List.replicate (y.1-i).toNat b):=by
 intro m
 induction m with
 | zero=>intro i out h1 h2;omega
 | succ m ih =>
  intro i out h1 h2 h3;rw [B5,Cn]
  by_cases hb:(i:Int)<y.1
  ·rw [B0 (dT hb),M4 (by simp;omega) (by decide),ckb (by omega)];have:=ih (i+1) (out++[b]) (by omega) (by omega) (by simp;omega);show B5 F N b.Lo b.Hi k2 y m ((i:Int)+1) (out++[b])=_;rw [show ((i:Int)+1)=((i+1:Nat):Int) by omega,this,List.append_assoc]
   congr 2
   rw [show (y.1-(i:Int)).toNat=(y.1-((i+1:Nat):Int)).toNat+1 by omega,List.replicate_succ];rfl
  ·rw [At (dF hb),show (y.1-(i:Int)).toNat=0 by omega];simp
theorem A50 (F:Nat) (hF:200000≤F) (N:Nat) (hN:N≤100000):∀(m m':Nat) (b:api_Span) (l:List Int) (out:List api_Span),By l→out.length≤N→N-out.length<m→N-out.length<m' →
  Rd (Az F N m b.Lo b.Hi l out) ((rL rS m' (N-out.length) b l).map fun u=>(out++u.1,u.2)):=by
 intro m
 induction m with
 | zero=>intro m' b l out _ _ h;omega
 | succ m ih =>
  intro m' b l out hb ho hm hm';obtain ⟨m',rfl⟩:∃k,m'=k+1:=⟨m'-1,by omega⟩;rw [Az,Br,rL]
  by_cases h0:N-out.length=0
  ·rw [if_pos h0,At (dF (by omega)),Bs];show _=some (Except.ok (out++[],volume_reader.mk l));rw [List.append_nil]
  ·rw [if_neg h0,B0 (dT (by omega)),Option.map_bind];refine (Cz (by omega) hb).bind fun k r h=>?_;obtain ⟨a,b1,c⟩:=G1 hb h;rw [ckb (by omega)];simp only [Function.comp]
   by_cases hk:k>((N-out.length:Nat):Int)
   ·rw [if_pos hk,B0 (dT (by omega))];exact Rd.bad
   ·rw [if_neg hk,At (dF (by omega)),Co];have hr:=A3u F N b (Az F N m) (k,⟨r⟩) (by simp only;omega) F 0 out (by simp only;omega) (by simp only;omega) (by simp only;omega);rw [show (0:Int)=((0:Nat):Int) from rfl,hr,Bt,show (k-((0:Nat):Int)).toNat=k.toNat by omega]
    by_cases hk2:N-out.length=k.toNat
    ·rw [if_pos hk2,At (dF (by simp;omega))]
     cases m with
     | zero=>omega
     | succ m =>
      rw [Az,Br,At (dF (by simp;omega)),Bs,hk2];rfl
    ·rw [if_neg hk2,B0 (dT (by simp;omega)),Option.map_bind];have hbr:=hb.suf c;refine (Qh (by omega) hbr).bind fun x r2 h2=>?_;have hb2:=hbr.suf (Nl hbr h2).2;simp only [Function.comp];rw [Sx x b]
     by_cases hx:x=b
     ·rw [if_pos hx,B0 (dT hx)];exact Rd.bad
     ·rw [if_neg hx,At (dF hx),Cp,M4 (by simp;omega) (by decide)];have:=ih m' x r2 (out++List.replicate k.toNat b++[x]) hb2 (by simp;omega) (by simp;omega) (by simp;omega);rw [show N-(out++List.replicate k.toNat b++[x]).length=N-out.length-k.toNat-1 by simp;omega] at this;rw [Option.map_map];simp only [Function.comp_def]
      simpa only [List.append_assoc,List.cons_append,List.nil_append] using this
theorem A1s {F:Nat} (hF:200000≤F) {N:Nat} (hN:N≤100000) {l:List Int} (hl:By l) (b:api_Span):Rd (C2 F ⟨l⟩ N b) (rL rS (N+1) N b l):=by
 rw [C2];have:=A50 F hF N hN F (N+1) b l [] hl (by simp) (by simp;omega) (by simp)
 simpa using this
theorem A3r (F:Nat) (N:Int) (b:api_Echo) (k2:Int→Int→Int→Int→Int→Int→Int→Int→Int→Int→Int→Int→Int→Int→List Int→List api_Echo→RE (List api_Echo)) (y:Int×volume_reader) (hy:y.1≤1000000):∀(m i:Nat) (out:List api_Echo),(i:Int)≤y.1→y.1-i<m→out.length+(y.1-i)≤2000000 →
  B4 F N b.Kind b.Power.Lo b.Match.Lo b.Match.Hi b.Turn.Lo b.Turn.Hi b.Power.Hi b.Steps.1.Lo b.Steps.1.Hi b.Steps.2.Lo b.Steps.2.Hi b.Spread b.Ratio.Lo b.Ratio.Hi k2 y m i out=Bq F N b.Kind b.Power.Lo b.Match.Lo b.Match.Hi b.Turn.Lo b.Turn.Hi b.Power.Hi b.Steps.1.Lo b.Steps.1.Hi b.Steps.2.Lo b.Steps.2.Hi b.Spread b.Ratio.Lo b.Ratio.Hi k2 y (out++List.replicate (y.1-i).toNat b):=by
 intro m
 induction m with
 | zero=>intro i out h1 h2;omega
 | succ m ih =>
  intro i out h1 h2 h3;rw [B4,Ck]
  by_cases hb:(i:Int)<y.1
  ·rw [B0 (dT hb),M4 (by simp;omega) (by decide),ckb (by omega)];have:=ih (i+1) (out++[b]) (by omega) (by omega) (by simp;omega);show B4 F N b.Kind b.Power.Lo b.Match.Lo b.Match.Hi b.Turn.Lo b.Turn.Hi b.Power.Hi b.Steps.1.Lo b.Steps.1.Hi b.Steps.2.Lo b.Steps.2.Hi b.Spread b.Ratio.Lo b.Ratio.Hi k2 y m ((i:Int)+1) (out++[b])=_;rw [show ((i:Int)+1)=((i+1:Nat):Int) by omega,this,List.append_assoc]
   congr 2
   rw [show (y.1-(i:Int)).toNat=(y.1-((i+1:Nat):Int)).toNat+1 by omega,List.replicate_succ];rfl
  ·rw [At (dF hb),show (y.1-(i:Int)).toNat=0 by omega];simp
theorem A4z (F:Nat) (hF:200000≤F) (N:Nat) (hN:N≤100000):∀(m m':Nat) (b:api_Echo) (l:List Int) (out:List api_Echo),By l→out.length≤N→N-out.length<m→N-out.length<m' →
  Rd (Ay F N m b.Kind b.Power.Lo b.Match.Lo b.Match.Hi b.Turn.Lo b.Turn.Hi b.Power.Hi b.Steps.1.Lo b.Steps.1.Hi b.Steps.2.Lo b.Steps.2.Hi b.Spread b.Ratio.Lo b.Ratio.Hi l out) ((rL rE m' (N-out.length) b l).map fun u=>(out++u.1,u.2)):=by
 intro m
 induction m with
 | zero=>intro m' b l out _ _ h;omega
 | succ m ih =>
  intro m' b l out hb ho hm hm';obtain ⟨m',rfl⟩:∃k,m'=k+1:=⟨m'-1,by omega⟩;rw [Ay,Bo,rL]
  by_cases h0:N-out.length=0
  ·rw [if_pos h0,At (dF (by omega)),Bp];show _=some (Except.ok (out++[],volume_reader.mk l));rw [List.append_nil]
  ·rw [if_neg h0,B0 (dT (by omega)),Option.map_bind];refine (Cz (by omega) hb).bind fun k r h=>?_;obtain ⟨a,b1,c⟩:=G1 hb h;rw [ckb (by omega)];simp only [Function.comp]
   by_cases hk:k>((N-out.length:Nat):Int)
   ·rw [if_pos hk,B0 (dT (by omega))];exact Rd.bad
   ·rw [if_neg hk,At (dF (by omega)),Cl];have hr:=A3r F N b (Ay F N m) (k,⟨r⟩) (by simp only;omega) F 0 out (by simp only;omega) (by simp only;omega) (by simp only;omega);rw [show (0:Int)=((0:Nat):Int) from rfl,hr,Bq,show (k-((0:Nat):Int)).toNat=k.toNat by omega]
    by_cases hk2:N-out.length=k.toNat
    ·rw [if_pos hk2,At (dF (by simp;omega))]
     cases m with
     | zero=>omega
     | succ m =>
      rw [Ay,Bo,At (dF (by simp;omega)),Bp,hk2];rfl
    ·rw [if_neg hk2,B0 (dT (by simp;omega)),Option.map_bind];have hbr:=hb.suf c;refine (A3m (by omega) hbr).bind fun x r2 h2=>?_;have hb2:=hbr.suf (A0q hbr h2);simp only [Function.comp];rw [Sn x b]
     by_cases hx:x=b
     ·rw [if_pos hx,B0 (dT hx)];exact Rd.bad
     ·rw [if_neg hx,At (dF hx),Cm,M4 (by simp;omega) (by decide)];have:=ih m' x r2 (out++List.replicate k.toNat b++[x]) hb2 (by simp;omega) (by simp;omega) (by simp;omega);rw [show N-(out++List.replicate k.toNat b++[x]).length=N-out.length-k.toNat-1 by simp;omega] at this;rw [Option.map_map];simp only [Function.comp_def]
      simpa only [List.append_assoc,List.cons_append,List.nil_append] using this
theorem A0s {F:Nat} (hF:200000≤F) {N:Nat} (hN:N≤100000) {l:List Int} (hl:By l) (b:api_Echo):Rd (C1 F ⟨l⟩ N b) (rL rE (N+1) N b l):=by
 rw [C1];have:=A4z F hF N hN F (N+1) b l [] hl (by simp) (by simp;omega) (by simp)
 simpa using this
end Go.Proofs.YtifbomimeodibaaGreat
namespace Go.Proofs.YtifbomimeodibaaGreat
open Go Go.RowKit Go.Eng
set_option maxRecDepth 10000
set_option linter.unusedVariables false
set_option linter.unusedSimpArgs false
def R9 (s:ByteArray):Bool:=(!(sEq s ⟨#[]⟩))&&(decide ((s.size:Int)≤12)&&(decide ((U8 s 0).getD 0≥97)&&(decide ((U8 s 0).getD 0≤122)&&!A2o s)))
theorem Yd (F:Nat) (s:ByteArray):Ly F s=some (R9 s):=by
 have hg:sEq s ⟨#[]⟩=false→U8 s 0=some ((U8 s 0).getD 0):=by
  intro h;have hs:s.size≠0:=by
   intro h0;have:s=⟨#[]⟩:=by
    cases s with
    | mk d =>
     have:d=#[]:=Array.eq_empty_of_size_eq_zero h0;rw [this]
   rw [Re.2 this] at h
   cases h
  unfold U8;rw [if_pos (by omega)];rfl
 unfold Ly R9 G3
 cases h1:sEq s ⟨#[]⟩ with
 | true=>simp [gd]
 | false =>
  have e:=hg h1;generalize hu:(U8 s 0).getD 0=u at e ⊢;rw [e]
  by_cases h2:(s.size:Int)≤12
  ·by_cases h3:u≥97
   ·simp [gd,h2,h3]
   ·simp [gd,h2,h3]
  ·simp [gd,h2]
def inB (x lo hi:Int):Prop:=lo≤x∧x≤hi
instance (x lo hi:Int):Decidable (inB x lo hi):=by unfold inB;infer_instance
theorem U4 {x lo hi:Int}:Ah x lo hi=decide (inB x lo hi):=by
 unfold Ah inB
 by_cases h:lo≤x<;>simp [h]
def Sg (s:api_Site):Prop:=R9 s.Name=true∧inB s.X (-1048576) 1048576∧inB s.Y (-1048576) 1048576∧inB s.Z 0 20000∧inB s.Rose 1 90∧inB s.Gates 1 200∧inB s.Step 50 2000∧inB s.Width 0 8
instance (s:api_Site):Decidable (Sg s):=by unfold Sg;infer_instance
theorem Yj (F:Nat) (s:api_Site):∃e,Gk F s=some e∧(e=0↔Sg s):=by
 unfold Gk Ej Du Sg;rw [Yd,sbd];simp only [U4]
 cases R9 s.Name with
 | false=>exact ⟨10,by simp,by simp⟩
 | true =>
  by_cases h1:inB s.X (-1048576) 1048576
  ·by_cases h2:inB s.Y (-1048576) 1048576
   ·by_cases h3:inB s.Z 0 20000
    ·by_cases h4:inB s.Rose 1 90
     ·by_cases h5:inB s.Gates 1 200
      ·by_cases h6:inB s.Step 50 2000
       ·by_cases h7:inB s.Width 0 8
        ·exact ⟨0,by simp [h1,h2,h3,h4,h5,h6,h7],by simp [h1,h2,h3,h4,h5,h6,h7]⟩
        ·exact ⟨3,by simp [h1,h2,h3,h4,h5,h6,h7],by simp [h1,h2,h3,h4,h5,h6,h7]⟩
       ·exact ⟨3,by simp [h1,h2,h3,h4,h5,h6],by simp [h1,h2,h3,h4,h5,h6]⟩
      ·exact ⟨3,by simp [h1,h2,h3,h4,h5],by simp [h1,h2,h3,h4,h5]⟩
     ·exact ⟨3,by simp [h1,h2,h3,h4],by simp [h1,h2,h3,h4]⟩
    ·exact ⟨3,by simp [h1,h2,h3],by simp [h1,h2,h3]⟩
   ·exact ⟨3,by simp [h1,h2],by simp [h1,h2]⟩
  ·exact ⟨3,by simp [h1],by simp [h1]⟩
def Rh (g:api_Grid):Prop:=inB g.X (-1048576) 1048576∧inB g.Y (-1048576) 1048576∧inB g.Size 1 10000∧inB g.Wide 1 64∧inB g.High 1 64
theorem Y7 (g:api_Grid):Bl g=0↔Rh g:=by
 unfold Bl D7 Rh;simp only [U4]
 by_cases h1:inB g.X (-1048576) 1048576
 ·by_cases h2:inB g.Y (-1048576) 1048576
  ·by_cases h3:inB g.Size 1 10000
   ·by_cases h4:inB g.Wide 1 64
    ·by_cases h5:inB g.High 1 64<;>simp [h1,h2,h3,h4,h5]
    ·simp [h1,h2,h3,h4]
   ·simp [h1,h2,h3]
  ·simp [h1,h2]
 ·simp [h1]
def Ku (s:api_Span) (lo hi:Int):Prop:=lo≤s.Lo∧s.Lo≤s.Hi∧s.Hi≤hi
instance (s:api_Span) (lo hi:Int):Decidable (Ku s lo hi):=by unfold Ku;infer_instance
theorem Te {s:api_Span} {lo hi:Int}:Ag s lo hi=decide (Ku s lo hi):=by
 unfold Ag Ku
 by_cases h:lo≤s.Lo
 ·by_cases h2:s.Lo≤s.Hi<;>simp [h,h2]
 ·simp [h]
theorem P4 {x lo hi:Int}:Au x lo hi=decide (inB x lo hi):=by
 unfold Au inB
 by_cases h:lo≤x<;>simp [h]
def Hv (s:api_Span):Prop:=-32768≤s.Lo∧s.Lo≤32767∧s.Lo≤s.Hi∧s.Hi≤s.Lo+65535
instance (s:api_Span):Decidable (Hv s):=by unfold Hv;infer_instance
theorem A13 (p:List api_Span) (k2:Int→Option Bool) (i:Nat) (u:api_Span) (h:p[i]? = some u) (hi:i<p.length) (h9:i≤100):F6 p k2 i=bif decide (Hv u) then k2 (i+1) else some false:=by
 have e1:-9000000000000000000≤(i:Int)+1∧(i:Int)+1≤9000000000000000000:=by omega
 rw [F6,B0 (dT (by omega)),Ei i u rfl h];simp only [P4]
 by_cases h1:inB u.Lo (-32768) 32767
 ·have h1':=h1;obtain ⟨a,b⟩:=h1';simp only [dT h1];rw [gdT (by rfl),ckb (by omega),gdT (by rfl),ckb (by omega)];obtain ⟨z,hz⟩:∃z,z=u.Lo+65536-1:=⟨_,rfl⟩;rw [←hz]
  by_cases h2:inB u.Hi u.Lo z
  ·have ht:Hv u:=⟨a,b,h2.1,by have:=h2.2;omega⟩;rw [dT h2,dT ht];rw [At (by rfl),B0 (by rfl),ckb e1]
  ·have ht:¬Hv u:=fun h=>h2 ⟨h.2.2.1,by have:=h.2.2.2;omega⟩;rw [dF h2,dF ht,B0 (by rfl),At (by rfl)]
 ·simp only [dF h1];rw [gdF (by rfl),sbd,gdF (by rfl),sbd,dF (show ¬Hv u from fun h=>h1 ⟨h.1,h.2.1⟩),B0 (by rfl),At (by rfl)]
theorem Xq {F:Nat} (hF:10≤F) (a b c:api_Span):Jd F [a,b,c]=some (decide (Hv a∧Hv b∧Hv c)):=by
 obtain ⟨G,rfl⟩:∃G,F=G+4:=⟨F-4,by omega⟩;rw [Jd,Dn,show (0:Int)=((0:Nat):Int) from rfl,A13 _ _ 0 a rfl (by simp) (by decide)]
 by_cases h1:Hv a
 ·rw [B0 (dT h1),show (((0:Nat):Int)+1)=((1:Nat):Int) from rfl,Dn,A13 _ _ 1 b rfl (by simp) (by decide)]
  by_cases h2:Hv b
  ·rw [B0 (dT h2),show (((1:Nat):Int)+1)=((2:Nat):Int) from rfl,Dn,A13 _ _ 2 c rfl (by simp) (by decide)]
   by_cases h3:Hv c
   ·rw [B0 (dT h3),Dn,F6,At (dF (by simp)),J9];simp [h1,h2,h3]
   ·rw [At (dF h3)];simp [h3]
  ·rw [At (dF h2)];simp [h2]
 ·rw [At (dF h1)];simp [h1]
def z0 (s:api_Span):Prop:=s.Lo=0∧s.Hi=0
def vEcho (x:api_Echo):Prop:=(x.Kind=1∧Ku x.Power 0 1073741824∧x.Power.Lo=0∧z0 x.Steps.1∧z0 x.Steps.2∧x.Spread=0∧z0 x.Ratio∧z0 x.Match∧z0 x.Turn) ∨
 ((x.Kind=2∨x.Kind=3)∧Ku x.Power 0 1073741824∧x.Power.Lo>0∧Ku x.Ratio 0 1000000∧Ku x.Match 0 1000∧inB x.Spread 0 65535∧(x.Kind=2→z0 x.Steps.1∧z0 x.Steps.2∧z0 x.Turn)∧(x.Kind=3→Hv x.Steps.1∧Hv x.Steps.2∧Hv x.Turn))
theorem A2f (c:Bool):Di c=some (if c=true then 0 else 3):=by cases c<;>rfl
theorem A1c {F:Nat} (hF:10≤F) (x:api_Echo):∃e,H9 F x=some e∧(e=0↔vEcho x):=by
 unfold H9 vEcho;simp only [A2f,Te]
 by_cases h1:x.Kind=1
 ·rw [B0 (by simp [h1])];refine ⟨_,rfl,?_⟩;simp only [h1,z0]
  by_cases h2:Ku x.Power 0 1073741824
  ·simp [h2,and_assoc]
  ·simp [h2]
 ·rw [At (by simp [h1])];have hK:∀c:Bool,c=(decide (x.Kind=2∨x.Kind=3))→∃e,Cu F x c=some e∧(e=0↔((x.Kind=2∨x.Kind=3)∧Ku x.Power 0 1073741824∧x.Power.Lo>0∧Ku x.Ratio 0 1000000∧Ku x.Match 0 1000∧inB x.Spread 0 65535∧(x.Kind=2→z0 x.Steps.1∧z0 x.Steps.2∧z0 x.Turn)∧(x.Kind=3→Hv x.Steps.1∧Hv x.Steps.2∧Hv x.Turn))):=by
   intro c hc;unfold Cu;simp only [A2f,Te,P4]
   by_cases h23:x.Kind=2∨x.Kind=3
   ·rw [hc,B0 (dT h23)]
    by_cases h2:x.Kind=2
    ·rw [B0 (by simp [h2])];refine ⟨_,rfl,?_⟩;simp only [h2,z0]
     by_cases a1:Ku x.Power 0 1073741824
     ·by_cases a2:x.Power.Lo>0
      ·by_cases a3:Ku x.Ratio 0 1000000
       ·by_cases a4:Ku x.Match 0 1000
        ·by_cases a5:inB x.Spread 0 65535
         ·simp [a1,a2,a3,a4,a5,and_assoc]
         ·simp [a1,a2,a3,a4,a5]
        ·simp [a1,a2,a3,a4]
       ·simp [a1,a2,a3]
      ·simp [a1,a2]
     ·simp [a1]
    ·have h3:x.Kind=3:=h23.resolve_left h2;rw [At (by simp [h2])]
     by_cases a1:Ku x.Power 0 1073741824
     ·by_cases a2:x.Power.Lo>0
      ·by_cases a3:Ku x.Ratio 0 1000000
       ·by_cases a4:Ku x.Match 0 1000
        ·by_cases a5:inB x.Spread 0 65535
         ·rw [B0 (by simp [a1,a2,a3,a4,a5]),show (⟨x.Steps.1.Lo,x.Steps.1.Hi⟩:api_Span)=x.Steps.1 from rfl,show (⟨x.Steps.2.Lo,x.Steps.2.Hi⟩:api_Span)=x.Steps.2 from rfl,Xq hF,sbd];refine ⟨_,rfl,?_⟩;simp [h3,a1,a2,a3,a4,a5]
         ·rw [At (by simp [a5])];exact ⟨_,rfl,by simp [a5]⟩
        ·rw [At (by simp [a4])];exact ⟨_,rfl,by simp [a4]⟩
       ·rw [At (by simp [a3])];exact ⟨_,rfl,by simp [a3]⟩
      ·rw [At (by simp [a2])];exact ⟨_,rfl,by simp [a2]⟩
     ·rw [At (by simp [a1])];exact ⟨_,rfl,by simp [a1]⟩
   ·rw [hc,At (dF h23)];exact ⟨2,rfl,by simp [h23]⟩
  obtain ⟨e,he,hv⟩:∃e,(bif x.Kind==2 then Cu F x (x.Kind==2) else Cu F x (x.Kind==3))=some e∧(e=0↔_):=by
   by_cases h2:x.Kind=2
   ·rw [B0 (by simp [h2])];exact hK _ (by simp [h2])
   ·rw [At (by simp [h2])];exact hK _ (by simp [h2];rfl)
  exact ⟨e,he,hv.trans ⟨fun h=>.inr h,fun h=>h.resolve_left fun h=>h1 h.1⟩⟩
end Go.Proofs.YtifbomimeodibaaGreat
namespace Go.Proofs.YtifbomimeodibaaGreat
open Go Go.RowKit Go.Eng
set_option maxRecDepth 10000
set_option linter.unusedVariables false
set_option linter.unusedSimpArgs false
theorem A3t {F:Nat} (hF:5000≤F) (x270:Int) (k3:Int→Option Int) (u:List api_Echo) (hu:u.length≤1000):∀(m i:Nat),u.length-i<m→i≤u.length →
  ((∀x∈u.drop i,vEcho x)∧D3 F x270 k3 u m i=Eu x270 k3)∨(∃e,e≠0∧D3 F x270 k3 u m i=some e∧¬∀x∈u.drop i,vEcho x):=by
 intro m
 induction m with
 | zero=>intro i h;omega
 | succ m ih =>
  intro i h hi;rw [D3,Gg]
  by_cases hb:i<u.length
  ·have hd:=List.drop_eq_getElem_cons hb;obtain ⟨e,he,hv⟩:=A1c (F:=F) (by omega) u[i];rw [B0 (dT (by omega)),Ei i u[i] rfl (List.getElem?_eq_getElem hb)];rw [show (⟨u[i].Kind,u[i].Power,(⟨u[i].Steps.1.Lo,u[i].Steps.1.Hi⟩,⟨u[i].Steps.2.Lo,u[i].Steps.2.Hi⟩),u[i].Spread,u[i].Ratio,u[i].Match,u[i].Turn⟩:api_Echo)=u[i] from rfl,he,sbd]
   by_cases h0:e=0
   ·rw [At (by simp [h0]),ckb (by omega)];rcases ih (i+1) (by omega) (by omega) with ⟨h1,h2⟩|⟨e',h1,h2,h3⟩
    ·refine .inl ⟨?_,h2⟩;rw [hd];intro x hx;rcases List.mem_cons.1 hx with rfl|hx
     ·exact hv.1 h0
     ·exact h1 x hx
    ·exact .inr ⟨e',h1,h2,fun h=>h3 fun x hx=>h x (by rw [hd];exact List.mem_cons_of_mem _ hx)⟩
   ·rw [B0 (by simp [h0])];exact .inr ⟨e,h0,rfl,fun h=>h0 (hv.2 (h u[i] (by rw [hd];exact List.mem_cons_self ..)))⟩
  ·rw [At (dF (by omega))];exact .inl ⟨fun x hx=>(by rw [List.drop_of_length_le (by omega)] at hx;cases hx),rfl⟩
theorem A1y {F:Nat} (hF:5000≤F) (p:api_Sweep) (hp:p.Rays.length≤1000) (hr:∀r∈p.Rays,r.length≤1000):∀(m i:Nat),p.Rays.length-i<m→i≤p.Rays.length →
  ∃e,D2 F p m i=some e∧(e=0↔∀r∈p.Rays.drop i,∀x∈r,vEcho x):=by
 intro m
 induction m with
 | zero=>intro i h;omega
 | succ m ih =>
  intro i h hi;rw [D2,Gf]
  by_cases hb:i<p.Rays.length
  ·have hd:=List.drop_eq_getElem_cons hb;have hl:=hr p.Rays[i] (List.getElem_mem hb);rw [B0 (dT (by omega)),Ei i p.Rays[i] rfl (List.getElem?_eq_getElem hb)];rcases A3t hF i (D2 F p m) p.Rays[i] hl F 0 (by omega) (by omega) with ⟨h1,h2⟩|⟨e,h1,h2,h3⟩
   ·rw [show (0:Int)=((0:Nat):Int) from rfl,h2,Eu,ckb (by omega)];obtain ⟨e,he,hv⟩:=ih (i+1) (by omega) (by omega);refine ⟨e,he,hv.trans ?_⟩;rw [hd];constructor
    ·intro h r hr';rcases List.mem_cons.1 hr' with rfl|hr'
     ·exact h1
     ·exact h r hr'
    ·exact fun h r hr'=>h r (List.mem_cons_of_mem _ hr')
   ·refine ⟨e,h2,⟨fun h=>absurd h h1,fun h=>absurd (h p.Rays[i] (by rw [hd];exact List.mem_cons_self ..)) h3⟩⟩
  ·rw [At (dF (by omega)),Gj];exact ⟨0,rfl,by simp [List.drop_of_length_le (show p.Rays.length≤i by omega)]⟩
theorem A07 {F:Nat} (hF:5000≤F) (p:api_Sweep) (hp:p.Rays.length≤1000) (hg:p.Site.Gates≤200):∀(m i:Nat),p.Rays.length-i<m→i≤p.Rays.length→(∀r∈p.Rays.take i,(r.length:Int)=p.Site.Gates) →
  ∃e,Dx F p m i=some e∧(e=0↔(∀r∈p.Rays,(r.length:Int)=p.Site.Gates)∧∀r∈p.Rays,∀x∈r,vEcho x):=by
 intro m
 induction m with
 | zero=>intro i h;omega
 | succ m ih =>
  intro i h hi hpre;rw [Dx,Gh]
  by_cases hb:i<p.Rays.length
  ·rw [B0 (dT (by omega)),Ei i p.Rays[i] rfl (List.getElem?_eq_getElem hb)]
   by_cases hl:(p.Rays[i].length:Int)=p.Site.Gates
   ·rw [At (by simp [hl]),ckb (by omega)];refine ih (i+1) (by omega) (by omega) fun r hr=>?_;rw [List.take_succ_eq_append_getElem hb] at hr;rcases List.mem_append.1 hr with hr|hr
    ·exact hpre r hr
    ·simp at hr;rw [hr];exact hl
   ·rw [B0 (by simp [hl])];exact ⟨11,rfl,⟨fun h=>by simp at h,fun h=>absurd (h.1 p.Rays[i] (List.getElem_mem hb)) hl⟩⟩
  ·rw [At (dF (by omega)),Gi];rw [List.take_of_length_le (by omega)] at hpre;obtain ⟨e,he,hv⟩:=A1y hF p hp (fun r hr=>by have:=hpre r hr;omega) F 0 (by omega) (by omega);exact ⟨e,he,hv.trans ⟨fun h=>⟨hpre,h⟩,fun h=>h.2⟩⟩
def vSweep (s:api_Sweep):Prop:=Sg s.Site∧inB s.Tilt 0 256∧inB s.Time 0 4294967296∧(s.Rays.length:Int)=4*s.Site.Rose∧(∀r∈s.Rays,(r.length:Int)=s.Site.Gates)∧∀r∈s.Rays,∀x∈r,vEcho x
theorem A11 {F:Nat} (hF:5000≤F) (p:api_Sweep):∃e,Gp F p=some e∧(e=0↔vSweep p):=by
 obtain ⟨e,he,hv⟩:=Yj F p.Site;unfold Gp vSweep;rw [he,sbd];simp only [P4]
 by_cases h0:e=0
 ·have hs:=hv.1 h0;obtain ⟨_,_,_,_,⟨r1,r2⟩,⟨g1,g2⟩,_⟩:=hv.1 h0;rw [At (by simp [h0])]
  by_cases h1:inB p.Tilt 0 256
  ·by_cases h2:inB p.Time 0 4294967296
   ·rw [At (by simp [h1,h2]),ckb (by omega)]
    by_cases h3:(p.Rays.length:Int)=4*p.Site.Rose
    ·rw [At (by simp [h3])];obtain ⟨e',he',hv'⟩:=A07 hF p (by omega) g2 F 0 (by omega) (by omega) (fun r hr=>by simp at hr);exact ⟨e',he',hv'.trans ⟨fun h=>⟨hs,h1,h2,h3,h.1,h.2⟩,fun h=>⟨h.2.2.2.2.1,h.2.2.2.2.2⟩⟩⟩
    ·rw [B0 (by simp [h3])];exact ⟨11,rfl,⟨fun h=>by simp at h,fun h=>absurd h.2.2.2.1 h3⟩⟩
   ·rw [B0 (by simp [h2])];exact ⟨3,rfl,⟨fun h=>by simp at h,fun h=>absurd h.2.2.1 h2⟩⟩
  ·rw [B0 (by simp [h1])];exact ⟨3,rfl,⟨fun h=>by simp at h,fun h=>absurd h.2.1 h1⟩⟩
 ·rw [B0 (by simp [h0])];exact ⟨e,rfl,⟨fun h=>absurd h h0,fun h=>absurd (hv.2 h.1) h0⟩⟩
def vVal (v:api_Span):Prop:=0≤v.Lo∧v.Lo≤v.Hi∧v.Hi≤1073741824
theorem A28 {p:api_Field} (hp:p.Vals.length≤1000000):∀(m i:Nat),p.Vals.length-i<m→i≤p.Vals.length →
  ∃e,Hc p 1073741824 m i=some e∧(e=0↔∀v∈p.Vals.drop i,vVal v):=by
 intro m
 induction m with
 | zero=>intro i h;omega
 | succ m ih =>
  intro i h hi;rw [Hc,L1]
  by_cases hb:i<p.Vals.length
  ·have hd:=List.drop_eq_getElem_cons hb;rw [B0 (dT (by omega)),Ei i p.Vals[i] rfl (List.getElem?_eq_getElem hb)]
   by_cases hv:vVal p.Vals[i]
   ·obtain ⟨a,b,c⟩:=hv;rw [At (by rw [dF (show ¬p.Vals[i].Lo<0 by omega),dF (show ¬p.Vals[i].Hi<p.Vals[i].Lo by omega),dF (show ¬p.Vals[i].Hi>1073741824 by omega)];rfl),ckb (by omega)];obtain ⟨e,he,hv⟩:=ih (i+1) (by omega) (by omega);refine ⟨e,he,hv.trans ?_⟩;rw [hd];constructor
    ·intro h v hv';rcases List.mem_cons.1 hv' with rfl|hv'
     ·exact ⟨a,b,c⟩
     ·exact h v hv'
    ·exact fun h v hv'=>h v (List.mem_cons_of_mem _ hv')
   ·rw [B0 ?_]
    ·exact ⟨3,rfl,⟨fun h=>by simp at h,fun h=>absurd (h p.Vals[i] (by rw [hd];exact List.mem_cons_self ..)) hv⟩⟩
    ·by_cases h1:p.Vals[i].Lo<0
     ·simp [h1]
     ·by_cases h2:p.Vals[i].Hi<p.Vals[i].Lo
      ·simp [h2]
      ·have:p.Vals[i].Hi>1073741824:=by
        rcases Int.lt_or_le 1073741824 p.Vals[i].Hi with h|h
        ·exact h
        ·exact absurd ⟨by omega,by omega,h⟩ hv
       simp [this]
  ·rw [At (dF (by omega)),L2];exact ⟨0,rfl,by simp [List.drop_of_length_le (show p.Vals.length≤i by omega)]⟩
def Qp (f:volume_field):Prop:=R9 f.key=true∧inB f.time 0 4294967296∧Rh f.Field.Grid∧(f.Field.Vals.length:Int)=f.Field.Grid.Wide*f.Field.Grid.High∧∀v∈f.Field.Vals,vVal v
theorem Nw {g:api_Grid} (h:Rh g):0≤g.Wide*g.High∧g.Wide*g.High≤4096:=by
 obtain ⟨_,_,_,⟨a,b⟩,⟨c,d⟩⟩:=h;have h1:g.Wide*g.High≤64*g.High:=Int.mul_le_mul_of_nonneg_right b (by omega);exact ⟨Int.mul_nonneg (by omega) (by omega),by omega⟩
theorem A05 {F:Nat} (hF:5000≤F) (f:volume_field):∃e,Cv F f=some e∧(e=0↔Qp f):=by
 unfold Cv Qp Jg N4;rw [Yd,sbd]
 cases R9 f.key with
 | false=>exact ⟨10,by rw [B0 (by rfl)],by simp⟩
 | true =>
  rw [At (by rfl)]
  by_cases h1:inB f.time 0 4294967296
  ·rw [At (by have:=h1.1;have:=h1.2;rw [dF (show ¬f.time<0 by omega),dF (show ¬f.time>4294967296 by omega)];rfl)];have hg:=Y7 f.Field.Grid
   by_cases h2:Bl f.Field.Grid=0
   ·obtain ⟨c1,c2⟩:=Nw (hg.1 h2);rw [At (by simp [h2]),ckb (by omega)]
    by_cases h3:(f.Field.Vals.length:Int)=f.Field.Grid.Wide*f.Field.Grid.High
    ·rw [At (by simp [h3])];obtain ⟨e,he,hv⟩:=A28 (p:=f.Field) (by omega) F 0 (by omega) (by omega);rw [show (0:Int)=((0:Nat):Int) from rfl,he];exact ⟨e,rfl,hv.trans ⟨fun h=>⟨rfl,h1,hg.1 h2,h3,h⟩,fun h=>h.2.2.2.2⟩⟩
    ·rw [B0 (by simp [h3])];exact ⟨11,rfl,⟨fun h=>by simp at h,fun h=>absurd h.2.2.2.1 h3⟩⟩
   ·rw [B0 (by simp [h2])];exact ⟨_,rfl,⟨fun h=>absurd h h2,fun h=>absurd (hg.2 h.2.2.1) h2⟩⟩
  ·rw [B0 ?_]
   ·exact ⟨3,rfl,⟨fun h=>by simp at h,fun h=>absurd h.2.1 h1⟩⟩
   ·by_cases h:f.time<0
    ·simp [h]
    ·have:f.time>4294967296:=by
      rcases Int.lt_or_le 4294967296 f.time with h|h
      ·exact h
      ·exact absurd ⟨by omega,h⟩ h1
     simp [this]
def V0 (n:volume_note):Prop:=inB n.time 0 4294967296∧n.text.size≤200∧∀c∈sby n.text,32≤c∧c≤126
theorem Zw (l:List Int) (hl:l.length≤1000000):∀(m i:Nat),l.length-i<m→i≤l.length →
  ∃e,Dq l m i=some e∧(e=0↔∀c∈l.drop i,32≤c∧c≤126):=by
 intro m
 induction m with
 | zero=>intro i h;omega
 | succ m ih =>
  intro i h hi;rw [Dq,G4]
  by_cases hb:i<l.length
  ·have hd:=List.drop_eq_getElem_cons hb;rw [B0 (dT (by omega)),Ei i l[i] rfl (List.getElem?_eq_getElem hb)]
   by_cases hv:32≤l[i]∧l[i]≤126
   ·rw [At (by rw [dF (show ¬l[i]<32 by omega),dF (show ¬l[i]>126 by omega)];rfl),ckb (by omega)];obtain ⟨e,he,hv'⟩:=ih (i+1) (by omega) (by omega);refine ⟨e,he,hv'.trans ?_⟩;rw [hd];constructor
    ·intro h v hv';rcases List.mem_cons.1 hv' with rfl|hv'
     ·exact hv
     ·exact h v hv'
    ·exact fun h v hv'=>h v (List.mem_cons_of_mem _ hv')
   ·rw [B0 ?_]
    ·exact ⟨7,rfl,⟨fun h=>by simp at h,fun h=>absurd (h l[i] (by rw [hd];exact List.mem_cons_self ..)) hv⟩⟩
    ·by_cases h1:l[i]<32
     ·simp [h1]
     ·have:l[i]>126:=by omega
      simp [this]
  ·rw [At (dF (by omega)),G5];exact ⟨0,rfl,by simp [List.drop_of_length_le (show l.length≤i by omega)]⟩
theorem A1o {F:Nat} (hF:5000≤F) (n:volume_note):∃e,D9 F n=some e∧(e=0↔V0 n):=by
 unfold D9 V0
 by_cases h1:inB n.time 0 4294967296
 ·rw [At (by have:=h1.1;have:=h1.2;rw [dF (show ¬n.time<0 by omega),dF (show ¬n.time>4294967296 by omega)];rfl)]
  by_cases h2:n.text.size≤200
  ·have hs:s2b n.text=some (sby n.text):=by unfold s2b;rw [if_pos (by omega)]
   rw [At (dF (by omega)),hs,sbd];obtain ⟨e,he,hv⟩:=Zw (sby n.text) (by rw [K7];omega) F 0 (by rw [K7];omega) (by omega);exact ⟨e,he,hv.trans ⟨fun h=>⟨h1,h2,h⟩,fun h=>h.2.2⟩⟩
  ·rw [B0 (dT (by omega))];exact ⟨8,rfl,⟨fun h=>by simp at h,fun h=>absurd h.2.1 h2⟩⟩
 ·rw [B0 ?_]
  ·exact ⟨3,rfl,⟨fun h=>by simp at h,fun h=>absurd h.1 h1⟩⟩
  ·by_cases h:n.time<0
   ·simp [h]
   ·have:n.time>4294967296:=by
     rcases Int.lt_or_le 4294967296 n.time with h|h
     ·exact h
     ·exact absurd ⟨by omega,h⟩ h1
    simp [this]
def vT (t:volume_thing):Prop:=t.cs False (fun s=>vSweep s.Sweep) Qp V0
theorem Vr {F:Nat} (hF:5000≤F) {t:volume_thing} (ht:t≠.nil_):∃e,Dk F t=some e∧(e=0↔vT t):=by
 cases t with
 | nil_=>exact absurd rfl ht
 | ic156 s =>
  obtain ⟨e,he,hv⟩:=A11 (F:=F) (by omega) s.Sweep;exact ⟨e,by show Cw F s=_;rw [Cw,he];rfl,hv⟩
 | ic158 f=>exact A05 hF f
 | ic160 n=>exact A1o (by omega) n
theorem Kv {x lo hi:Int} (h:inB x lo hi) (h0:0≤lo) (h1:hi≤4611686018427387904):okN x:=⟨by have:=h.1;omega,by have:=h.2;omega⟩
theorem Pr {s:ByteArray} (h:R9 s=true):s.size≤12:=by
 unfold R9 at h;simp only [Bool.and_eq_true,decide_eq_true_eq] at h;omega
theorem vEcho.ok {x:api_Echo} (h:vEcho x):okE x:=by
 have hz:∀{s:api_Span},z0 s→okS s:=fun {s} h=>⟨by have:=h.1;omega,by have:=h.1;have:=h.2;omega,by have:=h.2;omega⟩;have hi:∀{s:api_Span} {lo hi:Int},Ku s lo hi→-1000000000000000000≤lo→hi≤1000000000000000000→okS s:=fun {s lo hi} h h1 h2=>⟨by have:=h.1;omega,h.2.1,by have:=h.2.2;omega⟩;have ht:∀{s:api_Span},Hv s→okS s:=fun {s} h=>⟨by have:=h.1;omega,h.2.2.1,by have:=h.2.1;have:=h.2.2.2;omega⟩;rcases h with ⟨a,b,c,d,e,f,g,h,i⟩|⟨a,b,c,d,e,f,g,h⟩
 ·exact ⟨⟨by omega,by omega⟩,⟨by have:=b.1;have:=b.2.1;omega,by have:=b.2.2;omega⟩,⟨by omega,by omega⟩,hi b (by decide) (by decide),hz g,hz h,hz d,hz e,hz i⟩
 ·have hh:okS x.Steps.1∧okS x.Steps.2∧okS x.Turn:=by
   rcases a with a|a
   ·obtain ⟨u,v,w⟩:=g a;exact ⟨hz u,hz v,hz w⟩
   ·obtain ⟨u,v,w⟩:=h a;exact ⟨ht u,ht v,ht w⟩
  exact ⟨⟨by omega,by omega⟩,⟨by have:=b.1;have:=b.2.1;omega,by have:=b.2.2;omega⟩,Kv f (by decide) (by decide),hi b (by decide) (by decide),hi d (by decide) (by decide),hi e (by decide) (by decide),hh.1,hh.2.1,hh.2.2⟩
theorem Y5 {α:Type} {l:List (List α)} {n:Nat} (h:∀r∈l,r.length=n):l.flatten.length=l.length*n:=by
 induction l with
 | nil=>simp
 | cons r l ih =>
  rw [List.flatten_cons,List.length_append,h r (by simp),ih fun r hr=>h r (by simp [hr]),List.length_cons,Nat.add_mul,Nat.one_mul];omega
theorem vSweep.len {s:api_Sweep} (h:vSweep s):(s.Rays.flatten.length:Int)=4*s.Site.Rose*s.Site.Gates:=by
 obtain ⟨_,_,_,h1,h2,_⟩:=h;have hg:∀r∈s.Rays,r.length=s.Site.Gates.toNat:=fun r hr=>by have:=h2 r hr;omega
 rw [Y5 hg]
 cases hr:s.Rays with
 | nil=>rw [hr] at h1;simp at h1;simp;rw [show s.Site.Rose=0 by omega];simp
 | cons r l =>
  have:=h2 r (by rw [hr];simp);rw [←hr,←h1]
  push_cast
  congr 1
  omega
theorem vT.ok {t:volume_thing} (h:vT t):okT t:=by
 cases t with
 | nil_=>exact h
 | ic156 s =>
  have hv:vSweep s.Sweep:=h;have hlen:=hv.len;obtain ⟨⟨n,x,y,z,r,g,st,w⟩,ti,tm,h1,h2,h3⟩:=hv;have hm:4*s.Sweep.Site.Rose*s.Sweep.Site.Gates≤360*s.Sweep.Site.Gates:=Int.mul_le_mul_of_nonneg_right (by have:=r.2;omega) (by have:=g.1;omega);refine ⟨⟨by have:=Pr n;omega,⟨by have:=x.1;omega,by have:=x.2;omega⟩,⟨by have:=y.1;omega,by have:=y.2;omega⟩,Kv z (by decide) (by decide),Kv r (by decide) (by decide),Kv g (by decide) (by decide),Kv st (by decide) (by decide),Kv w (by decide) (by decide)⟩,Kv ti (by decide) (by decide),Kv tm (by decide) (by decide),by have:=r.2;omega,by have:=g.2;omega,fun r hr x hx=>(h3 r hr x hx).ok⟩
 | ic158 f =>
  obtain ⟨n,tm,hg,h1,h2⟩:=(show Qp f from h);have:=Nw hg;obtain ⟨x,y,z,r,g⟩:=hg;exact ⟨by have:=Pr n;omega,Kv tm (by decide) (by decide),⟨by have:=x.1;omega,by have:=x.2;omega⟩,⟨by have:=y.1;omega,by have:=y.2;omega⟩,Kv z (by decide) (by decide),Kv r (by decide) (by decide),Kv g (by decide) (by decide),by omega,fun v hv=>by obtain ⟨a,b,c⟩:=h2 v hv;exact ⟨by omega,b,by omega⟩⟩
 | ic160 n =>
  obtain ⟨tm,h1,h2⟩:=(show V0 n from h);exact ⟨Kv tm (by decide) (by decide),by omega⟩
end Go.Proofs.YtifbomimeodibaaGreat
namespace Go.Proofs.YtifbomimeodibaaGreat
open Go Go.RowKit Go.Eng
set_option maxRecDepth 10000
set_option linter.unusedVariables false
set_option linter.unusedSimpArgs false
instance (g:api_Grid):Decidable (Rh g):=by unfold Rh;infer_instance
def U7 {α:Type} (g:Nat):Nat→List α→List (List α)
 | 0,_=>[]
 | n+1,l=>l.take g::U7 g n (l.drop g)
def Tv (l:List Int):Option (volume_thing×List Int):=(rT l).bind fun nm=>(rI nm.2).bind fun x=>(rI x.2).bind fun y=>(rN y.2).bind fun z=>(rN z.2).bind fun ro=>(rN ro.2).bind fun g=>(rN g.2).bind fun st=>(rN st.2).bind fun w=>(rN w.2).bind fun ti=>(rN ti.2).bind fun tm =>
 if Sg ⟨nm.1,x.1,y.1,z.1,ro.1,g.1,st.1,w.1⟩ then (rL rE ((4*ro.1*g.1).toNat+1) (4*ro.1*g.1).toNat e0 tm.2).bind fun all=>some (.ic156 ⟨⟨⟨nm.1,x.1,y.1,z.1,ro.1,g.1,st.1,w.1⟩,ti.1,tm.1,U7 g.1.toNat (4*ro.1).toNat all.1⟩⟩,all.2) else none
def Tt (l:List Int):Option (volume_thing×List Int):=(rT l).bind fun nm=>(rN nm.2).bind fun tm=>(rI tm.2).bind fun x=>(rI x.2).bind fun y=>(rN y.2).bind fun sz=>(rN sz.2).bind fun wd=>(rN wd.2).bind fun hi =>
 if Rh ⟨x.1,y.1,sz.1,wd.1,hi.1⟩ then (rL rS ((wd.1*hi.1).toNat+1) (wd.1*hi.1).toNat ⟨0,0⟩ hi.2).bind fun all=>some (.ic158 ⟨nm.1,tm.1,⟨⟨x.1,y.1,sz.1,wd.1,hi.1⟩,all.1⟩⟩,all.2) else none
def Wg (l:List Int):Option (volume_thing×List Int):=(rN l).bind fun tm=>(rT tm.2).bind fun tx=>some (.ic160 ⟨tm.1,tx.1⟩,tx.2)
def Ln (l:List Int):Option (volume_thing×List Int):=(rN l).bind fun k=>if k.1=1 then Tv k.2 else if k.1=2 then Tt k.2 else if k.1=3 then Wg k.2 else none
theorem A1u (a:ByteArray×volume_reader) (b c:Int×volume_reader) (x1 x2 x3 x4 x5 x6 x7:Int) (y:List api_Echo×volume_reader) (hg:1≤x3∧x3≤1000):∀(m n:Nat) (acc:List (List api_Echo)) (l:List api_Echo),n<m→l.length=n*x3.toNat→n+acc.length≤1000 →
  Bx a b c x1 x2 x3 x4 x5 x6 x7 y m acc l=Dp a b c x1 x2 x3 x4 x5 x6 x7 y (acc++U7 x3.toNat n l):=by
 intro m
 induction m with
 | zero=>intro n acc l h;omega
 | succ m ih =>
  intro n acc l h hl hn;rw [Bx,El]
  cases n with
  | zero =>
   rw [At (dF (by omega)),U7,List.append_nil]
  | succ n =>
   rw [Nat.add_mul,Nat.one_mul] at hl;rw [B0 (dT (by omega)),T3 x3.toNat rfl (by omega) (by omega),M4 (by simp;omega) (by decide),L3 x3.toNat (by omega) rfl (by omega)];rw [ih n (acc++[l.take x3.toNat]) (l.drop x3.toNat) (by omega) (by simp;omega) (by simp;omega)];rw [U7,List.append_assoc];rfl
theorem V9 (F:Nat) (e:Int):Gv F e=some (if e=0 then .ok () else .error W7):=by
 unfold Gv
 by_cases h:e=0
 ·rw [At (by simp [h]),if_pos h]
 ·rw [B0 (by simp [h]),if_neg h];rfl
theorem A0t {F:Nat} (hF:200000≤F) (nm:ByteArray) (x y z ro g st w ti tm:Int) (r0 r1 r2:volume_reader) {l:List Int} (hl:By l) :
  Rd (Do F (nm,r0) (x,r1) (y,r2) z ro g st w ti tm l) (if Sg ⟨nm,x,y,z,ro,g,st,w⟩ then (rL rE ((4*ro*g).toNat+1) (4*ro*g).toNat e0 l).bind fun all=>some (.ic156 ⟨⟨⟨nm,x,y,z,ro,g,st,w⟩,ti,tm,U7 g.toNat (4*ro).toNat all.1⟩⟩,all.2) else none):=by
 unfold Do;obtain ⟨e,he,hv⟩:=Yj F ⟨nm,x,y,z,ro,g,st,w⟩;rw [he,sbd,V9,sbd]
 by_cases h:e=0
 ·rw [if_pos h,if_pos (hv.1 h)];obtain ⟨_,_,_,_,⟨b1,b2⟩,⟨b3,b4⟩,_⟩:=hv.1 h;simp only at b1 b2 b3 b4;have hm:4*ro*g≤360*g:=Int.mul_le_mul_of_nonneg_right (by omega) (by omega);have hm0:0≤4*ro*g:=Int.mul_nonneg (by omega) (by omega);show Rd ((ck (4*ro)).bind _) _;rw [ckb (by omega),ckb (by omega)];have hr:=A0s hF (N:=(4*ro*g).toNat) (by omega) hl e0;rw [show (((4*ro*g).toNat:Nat):Int)=4*ro*g by omega] at hr;refine Rd.bind hr fun all r h2=>?_;have hlen:=(A3k (fun l x r hb h=>A0q hb h) _ _ _ _ _ _ hl h2).1;have hl2:all.length=(4*ro).toNat*g.toNat:=by
   rw [hlen];have:(4*ro*g)=(((4*ro).toNat*g.toNat:Nat):Int):=by
    push_cast
    rw [show ((4*ro).toNat:Int)=4*ro by omega,show (g.toNat:Int)=g by omega]
   omega
  show Rd (Bx _ _ _ z ro g st w ti tm _ F [] all) _;rw [A1u _ _ _ z ro g st w ti tm _ ⟨b3,by omega⟩ F (4*ro).toNat [] all (by omega) hl2 (by simp;omega),Dp];exact Rd.ok
 ·rw [if_neg h,if_neg (fun h'=>h (hv.2 h'))];exact Rd.bad
theorem A1t {F:Nat} (hF:200000≤F) {l:List Int} (hl:By l):Rd (C0 F ⟨l⟩) (Ln l):=by
 have h1000:1000≤F:=by omega
 rw [C0,Ln];refine (Cz h1000 hl).bind fun k r h=>?_;have hb:=hl.suf (G1 hl h).2.2;show Rd (bif k==1 then _ else bif k==2 then _ else bif k==3 then _ else _) (if k=1 then _ else if k=2 then _ else if k=3 then _ else _)
 by_cases k1:k=1
 ·rw [if_pos k1,B0 (by simp [k1]),Tv];refine (Xl h1000 hb).bind fun nm r1 h1=>?_;have b1:=hb.suf (A2s hb h1).1;refine (Ms h1000 b1).bind fun x r2 h2=>?_;have b2:=b1.suf (Uv b1 h2).2;refine (Ms h1000 b2).bind fun y r3 h3=>?_;have b3:=b2.suf (Uv b2 h3).2;refine (Cz h1000 b3).bind fun z r4 h4=>?_;have b4:=b3.suf (G1 b3 h4).2.2;refine (Cz h1000 b4).bind fun ro r5 h5=>?_;have b5:=b4.suf (G1 b4 h5).2.2;refine (Cz h1000 b5).bind fun g r6 h6=>?_;have b6:=b5.suf (G1 b5 h6).2.2;refine (Cz h1000 b6).bind fun st r7 h7=>?_;have b7:=b6.suf (G1 b6 h7).2.2;refine (Cz h1000 b7).bind fun w r8 h8=>?_;have b8:=b7.suf (G1 b7 h8).2.2;refine (Cz h1000 b8).bind fun ti r9 h9=>?_;have b9:=b8.suf (G1 b8 h9).2.2;refine (Cz h1000 b9).bind fun tm r10 h10=>?_;have b10:=b9.suf (G1 b9 h10).2.2;exact A0t hF nm x y z ro g st w ti tm _ _ _ b10
 ·rw [if_neg k1,At (by simp [k1])]
  by_cases k2:k=2
  ·rw [if_pos k2,B0 (by simp [k2]),Tt];refine (Xl h1000 hb).bind fun nm r1 h1=>?_;have b1:=hb.suf (A2s hb h1).1;refine (Cz h1000 b1).bind fun tm r2 h2=>?_;have b2:=b1.suf (G1 b1 h2).2.2;refine (Ms h1000 b2).bind fun x r3 h3=>?_;have b3:=b2.suf (Uv b2 h3).2;refine (Ms h1000 b3).bind fun y r4 h4=>?_;have b4:=b3.suf (Uv b3 h4).2;refine (Cz h1000 b4).bind fun sz r5 h5=>?_;have b5:=b4.suf (G1 b4 h5).2.2;refine (Cz h1000 b5).bind fun wd r6 h6=>?_;have b6:=b5.suf (G1 b5 h6).2.2;refine (Cz h1000 b6).bind fun hi r7 h7=>?_;have b7:=b6.suf (G1 b6 h7).2.2;show Rd ((Gv F (Bl ⟨x,y,sz,wd,hi⟩)).bind _) (if Rh ⟨x,y,sz,wd,hi⟩ then _ else _);rw [V9,sbd];have hg:=Y7 ⟨x,y,sz,wd,hi⟩
   by_cases h0:Bl ⟨x,y,sz,wd,hi⟩=0
   ·rw [if_pos h0,if_pos (hg.1 h0)];obtain ⟨c1,c2⟩:=Nw (hg.1 h0);simp only at c1 c2;show Rd ((ck (wd*hi)).bind _) _;rw [ckb (by omega)];have hr:=A1s hF (N:=(wd*hi).toNat) (by omega) b7 ⟨0,0⟩;rw [show (((wd*hi).toNat:Nat):Int)=wd*hi by omega] at hr;refine Rd.bind hr fun all r h2=>?_;exact Rd.ok
   ·rw [if_neg h0,if_neg (fun h'=>h0 (hg.2 h'))];exact Rd.bad
  ·rw [if_neg k2,At (by simp [k2])]
   by_cases k3:k=3
   ·rw [if_pos k3,B0 (by simp [k3]),Wg];refine (Cz h1000 hb).bind fun tm r1 h1=>?_;have b1:=hb.suf (G1 hb h1).2.2;refine (Xl h1000 b1).bind fun tx r2 h2=>?_;exact Rd.ok
   ·rw [if_neg k3,At (by simp [k3]),Em];exact Rd.bad
theorem Wh {F:Nat} (hF:1000≤F) {p:List Int} (hp:By p):(∃r,Cj F ⟨p⟩=some (0,false,r)∧rN p=none)∨∃n r,Cj F ⟨p⟩=some (n,true,⟨r⟩)∧rN p=some (n,r):=by
 have h:=Cz hF hp;unfold Cj
 cases hn:rN p with
 | none =>
  rw [hn] at h;obtain ⟨r,h⟩:=h;rw [h];exact .inl ⟨_,rfl,rfl⟩
 | some y =>
  rw [hn] at h;rw [show Ab F ⟨p⟩=some (.ok (y.1,⟨y.2⟩)) from h];exact .inr ⟨y.1,y.2,rfl,rfl⟩
theorem Rf {l:List Int} (h:By l):sby (bst l)=l:=by
 unfold sby bst;simp only [List.map_map]
 conv=>rhs;rw [←List.map_id l]
 apply List.map_congr_left;intro x hx;have:=h x hx;simp only [Function.comp,id];rw [UInt8.toNat_ofNat_of_lt' (show x.toNat<256 by omega)];omega
theorem A1a (s:ByteArray):bst (sby s)=s:=by
 unfold sby bst
 cases s with
 | mk d =>
  congr 1
  apply Array.toList_inj.1;simp only [List.map_map]
  conv=>rhs;rw [←List.map_id d.toList]
  apply List.map_congr_left;intro x hx;simp
theorem bEq {a b:List Int} (ha:By a) (hb:By b):Fv a b=decide (a=b):=by
 unfold Fv;rw [Bool.eq_iff_iff,Re,decide_eq_true_eq];exact ⟨fun h=>by rw [←Rf ha,←Rf hb,h],fun h=>by rw [h]⟩
theorem Zd {l:List Int} {t:volume_thing} {r:List Int} (h:Ln l=some (t,r)):t≠.nil_:=by
 obtain ⟨k,r1,h1,h⟩:=E2 h
 split at h
 ·unfold Tv at h;obtain ⟨_,_,_,h⟩:=E2 h;obtain ⟨_,_,_,h⟩:=E2 h;obtain ⟨_,_,_,h⟩:=E2 h;obtain ⟨_,_,_,h⟩:=E2 h;obtain ⟨_,_,_,h⟩:=E2 h;obtain ⟨_,_,_,h⟩:=E2 h;obtain ⟨_,_,_,h⟩:=E2 h;obtain ⟨_,_,_,h⟩:=E2 h;obtain ⟨_,_,_,h⟩:=E2 h;obtain ⟨_,_,_,h⟩:=E2 h
  split at h
  ·obtain ⟨_,_,_,h⟩:=E2 h
   cases h
   simp
  ·cases h
 ·split at h
  ·unfold Tt at h;obtain ⟨_,_,_,h⟩:=E2 h;obtain ⟨_,_,_,h⟩:=E2 h;obtain ⟨_,_,_,h⟩:=E2 h;obtain ⟨_,_,_,h⟩:=E2 h;obtain ⟨_,_,_,h⟩:=E2 h;obtain ⟨_,_,_,h⟩:=E2 h;obtain ⟨_,_,_,h⟩:=E2 h
   split at h
   ·obtain ⟨_,_,_,h⟩:=E2 h
    cases h
    simp
   ·cases h
  ·split at h
   ·unfold Wg at h;obtain ⟨_,_,_,h⟩:=E2 h;obtain ⟨_,_,_,h⟩:=E2 h
    cases h
    simp
   ·cases h
noncomputable instance (t:volume_thing):Decidable (vT t):=Classical.propDecidable _
noncomputable def unS (p:List Int):volume_thing×Int:=match rN p with
 | none=>(.nil_,15)
 | some (n,r)=>if (r.length:Int)≠n+5 then (.nil_,15) else if p.drop (p.length-5)≠Vk (p.take (p.length-5)) then (.nil_,15) else match Ln (r.take n.toNat) with
  | none=>(.nil_,7)
  | some (t,r2)=>if vT t∧r2=[] then (t,0) else (.nil_,7)
theorem A5a {F:Nat} (hF:200000≤F) {p:List Int} (hp:By p) (hl:p.length<F) (hl9:p.length≤1000000000):Hg F p=some (unS p):=by
 unfold Hg unS;rcases Wh (F:=F) (by omega) hp with ⟨r,h1,h2⟩|⟨n,r,h1,h2⟩
 ·rw [h1,h2,sbd,B0 (by rfl)]
 ·obtain ⟨a,b,c⟩:=G1 hp h2;have hrl:=c.length_le;rw [h1,h2,sbd,At (by rfl),ckb (by simp only;omega)];show (bif (r.length:Int) != n+5 then _ else _)=some (if (r.length:Int)≠n+5 then _ else _)
  by_cases h3:(r.length:Int)=n+5
  ·rw [if_neg (by simp [h3]),At (by simp [h3]),ckb (by omega),L3 (p.length-5) (by omega) rfl (by omega),ckb (by omega),T3 (p.length-5) rfl (by omega) (by omega)];have hby1:By (p.take (p.length-5)):=fun x hx=>hp x (List.mem_of_mem_take hx);have hby2:By (p.drop (p.length-5)):=fun x hx=>hp x (List.mem_of_mem_drop hx);rw [A10 (by omega) hby1 (by rw [List.length_take];omega) (by rw [List.length_take];omega),sbd,bEq hby2 (Vl _).by]
   by_cases h4:p.drop (p.length-5)=Vk (p.take (p.length-5))
   ·rw [if_neg (by simp [h4]),dT h4,At (by rfl),T3 n.toNat rfl (by simp only;omega) (show n.toNat≤r.length by omega)];have hbr:By (r.take n.toNat):=fun x hx=>(hp.suf c) x (List.mem_of_mem_take hx);have ht:=A1t hF hbr
    cases h5:Ln (r.take n.toNat) with
    | none =>
     rw [h5] at ht;obtain ⟨r',ht⟩:=ht;show (C0 F ⟨r.take n.toNat⟩).bind _=_;rw [ht,sbd];rfl
    | some y =>
     obtain ⟨t,r2⟩:=y;rw [h5] at ht;show (C0 F ⟨r.take n.toNat⟩).bind _=_;rw [show C0 F ⟨r.take n.toNat⟩=some (.ok (t,⟨r2⟩)) from ht,sbd];obtain ⟨e,he,hv⟩:=Vr (F:=F) (by omega) (Zd h5);show (Dk F t).bind _=_;rw [he,sbd,V9,sbd]
     by_cases h6:e=0
     ·rw [if_pos h6]
      by_cases h7:r2=[]
      ·subst h7;show _=some (if vT t∧([]:List Int)=[] then _ else _);rw [if_pos ⟨hv.1 h6,rfl⟩];rfl
      ·show (bif decide ((r2.length:Int)>0) then _ else _)=some (if vT t∧r2=[] then _ else _);rw [if_neg (fun h=>h7 h.2),B0 (dT (by have:=List.length_pos_iff.2 h7;omega))]
     ·rw [if_neg h6];show _=some (if vT t∧r2=[] then _ else _);rw [if_neg (fun h=>h6 (hv.2 h.1))];rfl
   ·rw [if_pos h4,dF h4,B0 (by rfl)]
  ·rw [if_pos h3,B0 (by simp [h3])]
end Go.Proofs.YtifbomimeodibaaGreat
namespace Go.Proofs.YtifbomimeodibaaGreat
open Go Go.RowKit Go.Eng
set_option maxRecDepth 10000
set_option linter.unusedVariables false
set_option linter.unusedSimpArgs false
theorem A3j:∀(k n:Nat) (f:Bool) (r:List Int),n<127 ^ (k+1)→(f=true∨n≠0)→rdD (k+1) f (G8 n++r)=some ((n:Int),r):=by
 intro k
 induction k with
 | zero =>
  intro n f r h hf;have hn:n<127:=by simpa using h
  rw [Ps hn];show rdD 1 f (((n:Int)+1)::r)=_;rw [rdD,if_neg ?_,if_pos (by omega)]
  ·congr 2;omega
  ·rintro (h1|h1|⟨h1,h2⟩)
   ·omega
   ·omega
   ·rcases hf with h3|h3
    ·rw [h3] at h2;cases h2
    ·omega
 | succ k ih =>
  intro n f r h hf
  by_cases hn:n<127
  ·rw [Ps hn];show rdD (k+1+1) f (((n:Int)+1)::r)=_;rw [rdD,if_neg ?_,if_pos (by omega)]
   ·congr 2;omega
   ·rintro (h1|h1|⟨h1,h2⟩)
    ·omega
    ·omega
    ·rcases hf with h3|h3
     ·rw [h3] at h2;cases h2
     ·omega
  ·rw [Ss (by omega)];have hm:=Nat.mod_lt n (show 0<127 by decide);show rdD (k+1+1) f ((128+((n%127:Nat):Int))::(G8 (n/127)++r))=_;rw [rdD,if_neg (by rintro (h1|h1|⟨h1,h2⟩)<;>omega),if_neg (by omega),ih (n/127) false r (Nat.div_lt_of_lt_mul (by rw [Nat.pow_succ] at h;omega)) (.inr (by omega))];show some (128+((n%127:Nat):Int)-128+127*((n/127:Nat):Int),r)=_
   congr 2;omega
theorem Rv {n:Nat} (r:List Int) (h:n<67675234241018881):rN (G8 n++r)=some ((n:Int),r):=A3j 7 n true r h (.inl rfl)
def sm (x:Int):Prop:=-1000000000000000≤x∧x≤1000000000000000
theorem Jq {x:Int} (r:List Int) (h0:0≤x) (h:sm x):rN (G8 x.toNat++r)=some (x,r):=by
 rw [Rv r (by have:=h.2;omega)];congr 2;omega
theorem A27 (x:Int):unz (zig x:Int)=x:=by
 unfold unz zig
 split<;>split<;>omega
theorem Wf {x:Int} (r:List Int) (h:sm x):rI (G8 (zig x)++r)=some (x,r):=by
 obtain ⟨h1,h2⟩:=h;rw [rI,Rv r (by unfold zig;split<;>omega)];show some (unz (zig x:Int),r)=_;rw [A27]
theorem A0r {s:ByteArray} (r:List Int) (h:s.size≤1000000):rT (K8 s++r)=some (s,r):=by
 rw [rT,K8,List.append_assoc,Rv _ (by omega)];have hl:=K7 s;show (if ((s.size:Nat):Int)>((sby s++r).length:Int) then none else some (bst ((sby s++r).take ((s.size:Nat):Int).toNat),(sby s++r).drop ((s.size:Nat):Int).toNat))=_;rw [if_neg (by rw [List.length_append];omega),Int.toNat_natCast,List.take_left' hl,List.drop_left' hl,A1a]
def smS (s:api_Span):Prop:=-1000000000≤s.Lo∧s.Lo≤s.Hi∧s.Hi≤2000000000
theorem Tu {s:api_Span} (r:List Int) (h:smS s):rS (Hb s++r)=some (s,r):=by
 obtain ⟨h1,h2,h3⟩:=h;rw [rS,Hb,List.append_assoc,Wf _ ⟨by omega,by omega⟩];show (rN (G8 (s.Hi-s.Lo).toNat++r)).bind _=_;rw [Jq r (by omega) ⟨by omega,by omega⟩];show some ((⟨s.Lo,s.Lo+(s.Hi-s.Lo)⟩:api_Span),r)=_;rw [show s.Lo+(s.Hi-s.Lo)=s.Hi by omega]
theorem P8 {s:api_Span} (h:z0 s):s=⟨0,0⟩:=by cases s;obtain ⟨h1,h2⟩:=h;simp only at h1 h2;rw [h1,h2]
theorem A4u {x:api_Echo} (r:List Int) (h:vEcho x):rE (Kl x++r)=some (x,r):=by
 have hi:∀{s:api_Span} {lo hi:Int},Ku s lo hi→0≤lo→hi≤1073741824→smS s:=fun {s lo hi} h h1 h2=>⟨by have:=h.1;omega,h.2.1,by have:=h.2.2;omega⟩;have ht:∀{s:api_Span},Hv s→smS s:=fun {s} h=>⟨by have:=h.1;omega,h.2.2.1,by have:=h.2.1;have:=h.2.2.2;omega⟩;rcases h with ⟨a,b,c,d,e,f,g,h,i⟩|⟨a,b,c,d,e,f,g,h⟩
 ·have hp:x=⟨1,⟨0,x.Power.Hi⟩,(⟨0,0⟩,⟨0,0⟩),0,⟨0,0⟩,⟨0,0⟩,⟨0,0⟩⟩:=by
   rcases x with ⟨k,⟨p1,p2⟩,⟨s1,s2⟩,sp,ra,ma,tu⟩
   simp only at a c d e f g h i;rw [a,c,f,P8 d,P8 e,P8 g,P8 h,P8 i]
  rw [rE,Kl,List.append_assoc,if_pos a,Jq _ (by omega) ⟨by omega,by omega⟩];show (if x.Kind=1 then _ else _)=_;rw [if_pos a];show (rN (G8 x.Power.Hi.toNat++r)).bind _=_;rw [Jq _ (by have:=b.1;have:=b.2.1;omega) ⟨by have:=b.1;have:=b.2.1;omega,by have:=b.2.2;omega⟩];show some ((⟨x.Kind,⟨0,x.Power.Hi⟩,(⟨0,0⟩,⟨0,0⟩),0,⟨0,0⟩,⟨0,0⟩,⟨0,0⟩⟩:api_Echo),r)=_;rw [a,←hp]
 ·have hk:x.Kind≠1:=by omega
  rw [rE,Kl,List.append_assoc,if_neg hk,Jq _ (by omega) ⟨by omega,by omega⟩];show (if x.Kind=1 then _ else _)=_;rw [if_neg hk];simp only [List.append_assoc];show (rS (Hb x.Power++_)).bind _=_;rw [Tu _ (hi b (by decide) (by decide))];show (rS (Hb x.Ratio++_)).bind _=_;rw [Tu _ (hi d (by decide) (by decide))];show (rS (Hb x.Match++_)).bind _=_;rw [Tu _ (hi e (by decide) (by decide))];show (rN (G8 x.Spread.toNat++_)).bind _=_;rw [Jq _ (by have:=f.1;omega) ⟨by have:=f.1;omega,by have:=f.2;omega⟩];show (if x.Kind=3 then _ else _)=_
  by_cases h3:x.Kind=3
  ·obtain ⟨t1,t2,t3⟩:=h h3;rw [if_pos h3,if_pos h3];simp only [List.append_assoc];show (rS (Hb x.Steps.1++_)).bind _=_;rw [Tu _ (ht t1)];show (rS (Hb x.Steps.2++_)).bind _=_;rw [Tu _ (ht t2)];show (rS (Hb x.Turn++_)).bind _=_;rw [Tu _ (ht t3)];rfl
  ·obtain ⟨t1,t2,t3⟩:=g (by omega);rw [if_neg h3,if_neg h3];show some ((⟨x.Kind,x.Power,(⟨0,0⟩,⟨0,0⟩),x.Spread,x.Ratio,x.Match,⟨0,0⟩⟩:api_Echo),r)=_;have hp:x=⟨x.Kind,x.Power,(⟨0,0⟩,⟨0,0⟩),x.Spread,x.Ratio,x.Match,⟨0,0⟩⟩:=by
    rcases x with ⟨k,p,⟨s1,s2⟩,sp,ra,ma,tu⟩
    simp only at t1 t2 t3;rw [P8 t1,P8 t2,P8 t3]
   rw [←hp]
theorem A3l {α:Type} [DecidableEq α] {rd:List Int→Option (α×List Int)} {e:α→List Int} (r:List Int):∀(l:List α) (n m:Nat) (b:α),n+l.length<m→n+l.length<1000000000→(∀x∈l,∀r,rd (e x++r)=some (x,r)) →
  rL rd m (n+l.length) b (K6 e b n l++r)=some (List.replicate n b++l,r):=by
 intro l
 induction l with
 | nil =>
  intro n m b hm hn hx;obtain ⟨m,rfl⟩:∃k,m=k+1:=⟨m-1,by omega⟩;rw [rL,K6];simp only [List.length_nil,Nat.add_zero] at hm hn ⊢
  by_cases h0:n=0
  ·rw [if_pos h0,if_pos h0,h0];rfl
  ·rw [if_neg h0,if_neg h0,Rv _ (by omega)];show (if (n:Int)>(n:Int) then none else if n=((n:Nat):Int).toNat then some (List.replicate n b,r) else _)=_;rw [if_neg (by omega),if_pos (by omega),List.append_nil]
 | cons x l ih =>
  intro n m b hm hn hx;simp only [List.length_cons] at hm hn ⊢;rw [K6]
  by_cases hb:x=b
  ·rw [if_pos hb];have:=ih (n+1) m b (by omega) (by omega) (fun y hy=>hx y (by simp [hy]));rw [show n+(l.length+1)=n+1+l.length by omega,this,hb,List.replicate_succ',List.append_assoc];rfl
  ·rw [if_neg hb];obtain ⟨m,rfl⟩:∃k,m=k+1:=⟨m-1,by omega⟩;rw [rL,if_neg (by omega),List.append_assoc,Rv _ (by omega)];show (if (n:Int)>((n+(l.length+1):Nat):Int) then none else if n+(l.length+1)=((n:Nat):Int).toNat then _ else (rd ((e x++K6 e x 0 l)++r)).bind fun z=>if z.1=b then none else (rL rd m (n+(l.length+1)-((n:Nat):Int).toNat-1) z.1 z.2).map fun u=>(List.replicate ((n:Nat):Int).toNat b++z.1::u.1,u.2))=_;rw [if_neg (by omega),if_neg (by omega),List.append_assoc,hx x (by simp)];show (if x=b then none else (rL rd m (n+(l.length+1)-((n:Nat):Int).toNat-1) x (K6 e x 0 l++r)).map fun u=>(List.replicate ((n:Nat):Int).toNat b++x::u.1,u.2))=_;have:=ih 0 m x (by omega) (by omega) (fun y hy=>hx y (by simp [hy]));rw [if_neg hb,Int.toNat_natCast,show n+(l.length+1)-n-1=0+l.length by omega,this];rfl
theorem A2r {α:Type} [DecidableEq α] {rd:List Int→Option (α×List Int)} {e:α→List Int} (r:List Int) (l:List α) (b:α) (hl:l.length<1000000000) (hx:∀x∈l,∀r,rd (e x++r)=some (x,r)) :
  rL rd (l.length+1) l.length b (K6 e b 0 l++r)=some (l,r):=by
 have:=A3l (rd:=rd) r l 0 (l.length+1) b (by omega) (by omega) hx
 simpa using this
theorem Ys {α:Type} {g:Nat}:∀(rows:List (List α)),(∀r∈rows,r.length=g)→U7 g rows.length rows.flatten=rows:=by
 intro rows
 induction rows with
 | nil=>intro _;rfl
 | cons r rows ih =>
  intro h;have hr:=h r (by simp);rw [List.length_cons,U7,List.flatten_cons,List.take_left' hr,List.drop_left' hr,ih fun r hr=>h r (by simp [hr])]
theorem vVal.sm {v:api_Span} (h:vVal v):smS v:=by obtain ⟨a,b,c⟩:=h;exact ⟨by omega,b,by omega⟩
theorem smI {x lo hi:Int} (h:inB x lo hi) (h1:-100000000000≤lo) (h2:hi≤100000000000):Go.Proofs.YtifbomimeodibaaGreat.sm x:=⟨by have:=h.1;omega,by have:=h.2;omega⟩
theorem Ze {t:volume_thing} (r:List Int) (h:vT t):Ln (Ce t++r)=some (t,r):=by
 cases t with
 | nil_=>exact h.elim
 | ic156 s =>
  have hv:vSweep s.Sweep:=h;have hlen:=hv.len;have hv':=hv;obtain ⟨hsite,ti,tm,h1,h2,h3⟩:=hv';have hsite':=hsite;obtain ⟨n,x,y,z,ro,g,st,w⟩:=hsite';have hm:4*s.Sweep.Site.Rose*s.Sweep.Site.Gates≤360*s.Sweep.Site.Gates:=Int.mul_le_mul_of_nonneg_right (by have:=ro.2;omega) (by have:=g.1;omega);have hg2:=g.2;show Ln (Qn s.Sweep++r)=_;simp only [Qn,Fz,R4,List.flatMap_cons,List.flatMap_nil,List.append_nil,List.append_assoc];rw [Ln,Jq _ (by decide) ⟨by decide,by decide⟩];show Tv _=_;rw [Tv,A0r _ (by have:=Pr n;omega)];show (rI _).bind _=_;rw [Wf _ (smI x (by decide) (by decide))];show (rI _).bind _=_;rw [Wf _ (smI y (by decide) (by decide))];show (rN _).bind _=_;rw [Jq _ (by have:=z.1;omega) (smI z (by decide) (by decide))];show (rN _).bind _=_;rw [Jq _ (by have:=ro.1;omega) (smI ro (by decide) (by decide))];show (rN _).bind _=_;rw [Jq _ (by have:=g.1;omega) (smI g (by decide) (by decide))];show (rN _).bind _=_;rw [Jq _ (by have:=st.1;omega) (smI st (by decide) (by decide))];show (rN _).bind _=_;rw [Jq _ (by have:=w.1;omega) (smI w (by decide) (by decide))];show (rN _).bind _=_;rw [Jq _ (by have:=ti.1;omega) (smI ti (by decide) (by decide))];show (rN _).bind _=_;rw [Jq _ (by have:=tm.1;omega) (smI tm (by decide) (by decide))];show (if Sg s.Sweep.Site then (rL rE ((4*s.Sweep.Site.Rose*s.Sweep.Site.Gates).toNat+1) (4*s.Sweep.Site.Rose*s.Sweep.Site.Gates).toNat e0 (K6 Kl e0 0 s.Sweep.Rays.flatten++r)).bind fun all=>some (volume_thing.ic156 ⟨⟨s.Sweep.Site,s.Sweep.Tilt,s.Sweep.Time,U7 s.Sweep.Site.Gates.toNat (4*s.Sweep.Site.Rose).toNat all.1⟩⟩,all.2) else none)=_;rw [if_pos hsite,←hlen,Int.toNat_natCast,A2r r s.Sweep.Rays.flatten e0 (by omega) (fun x hx r=>A4u r (by obtain ⟨row,hr,hx⟩:=List.mem_flatten.1 hx;exact h3 row hr x hx))];show some (volume_thing.ic156 ⟨⟨s.Sweep.Site,s.Sweep.Tilt,s.Sweep.Time,U7 s.Sweep.Site.Gates.toNat (4*s.Sweep.Site.Rose).toNat s.Sweep.Rays.flatten⟩⟩,r)=_;rw [←h1,Int.toNat_natCast,Ys _ (fun r hr=>by have:=h2 r hr;omega)]
 | ic158 f =>
  obtain ⟨n,tm,hg,h1,h2⟩:=(show Qp f from h);have hgl:=Nw hg;have hg':=hg;obtain ⟨x,y,z,ro,g⟩:=hg';show Ln (Qa f++r)=_;simp only [Qa,Fz,R4,List.flatMap_cons,List.flatMap_nil,List.append_nil,List.append_assoc];rw [Ln,Jq _ (by decide) ⟨by decide,by decide⟩];show Tt _=_;rw [Tt,A0r _ (by have:=Pr n;omega)];show (rN _).bind _=_;rw [Jq _ (by have:=tm.1;omega) (smI tm (by decide) (by decide))];show (rI _).bind _=_;rw [Wf _ (smI x (by decide) (by decide))];show (rI _).bind _=_;rw [Wf _ (smI y (by decide) (by decide))];show (rN _).bind _=_;rw [Jq _ (by have:=z.1;omega) (smI z (by decide) (by decide))];show (rN _).bind _=_;rw [Jq _ (by have:=ro.1;omega) (smI ro (by decide) (by decide))];show (rN _).bind _=_;rw [Jq _ (by have:=g.1;omega) (smI g (by decide) (by decide))];show (if Rh f.Field.Grid then (rL rS ((f.Field.Grid.Wide*f.Field.Grid.High).toNat+1) (f.Field.Grid.Wide*f.Field.Grid.High).toNat ⟨0,0⟩ (K6 Hb ⟨0,0⟩ 0 f.Field.Vals++r)).bind fun all=>some (volume_thing.ic158 ⟨f.key,f.time,⟨f.Field.Grid,all.1⟩⟩,all.2) else none)=_;rw [if_pos hg,←h1,Int.toNat_natCast,A2r r f.Field.Vals ⟨0,0⟩ (by omega) (fun v hv r=>Tu r (h2 v hv).sm)];rfl
 | ic160 n =>
  obtain ⟨tm,h1,h2⟩:=(show V0 n from h);show Ln (Tm n++r)=_;simp only [Tm,Fz,List.flatMap_cons,List.flatMap_nil,List.append_nil,List.append_assoc];rw [Ln,Jq _ (by decide) ⟨by decide,by decide⟩];show Wg _=_;rw [Wg,Jq _ (by have:=tm.1;omega) (smI tm (by decide) (by decide))];show (rT _).bind _=_;rw [A0r _ (by omega)];rfl
theorem U2 {t:volume_thing} (h:vT t):unS (Ll t)=(t,0):=by
 have hl:=Qo h.ok;unfold unS Ll P2;rw [List.append_assoc,Rv _ (by omega)];show (if (((Ce t++Vk (G8 (Ce t).length++Ce t)).length:Nat):Int)≠((Ce t).length:Int)+5 then _ else _)=_;rw [if_neg (by rw [List.length_append,Pa];simp)];have e:(G8 (Ce t).length++(Ce t++Vk (G8 (Ce t).length++Ce t))).length-5=(G8 (Ce t).length++Ce t).length:=by simp only [List.length_append,Pa];omega
 rw [e,←List.append_assoc,List.drop_left,List.take_left,if_neg (by simp),Int.toNat_natCast,List.take_left];have:=Ze [] h;rw [List.append_nil] at this;rw [this];show (if vT t∧([]:List Int)=[] then _ else _)=_;rw [if_pos ⟨h,rfl⟩]
end Go.Proofs.YtifbomimeodibaaGreat
namespace Go.Proofs.YtifbomimeodibaaGreat
open Go Go.RowKit Go.Eng
set_option maxRecDepth 10000
set_option linter.unusedVariables false
set_option linter.unusedSimpArgs false
def Dh (ps:List (List Int)):List Int:=ps.flatMap fun p=>0::p
theorem Gx (p:List Int) (ps:List (List Int)):Dh (p::ps)=0::(p++Dh ps):=by simp [Dh]
theorem A0c {ps:List (List Int)} (h:∀q∈ps,Nz q):By (Dh ps):=fun x hx=>by
 obtain ⟨p,hp,hx⟩:=List.mem_flatMap.1 hx;rcases List.mem_cons.1 hx with rfl|hx
 ·exact ⟨by decide,by decide⟩
 ·exact (h p hp).by x hx
theorem A2v {x:Int} (h:1≤x∧x<256):(UInt8.ofNat x.toNat==(0:Int).toNat.toUInt8)=false:=by
 rw [beq_eq_false_iff_ne];intro he;have:=congrArg UInt8.toNat he;rw [UInt8.toNat_ofNat_of_lt' (show x.toNat<256 by omega)] at this;simp at this;omega
theorem A0a {p:List Int} (h:Nz p):A08 p 0=-1:=by
 induction p with
 | nil=>rfl
 | cons x p ih =>
  have:=ih fun y hy=>h y (by simp [hy]);unfold A08 at this ⊢;show Lib.indexByte (UInt8.ofNat x.toNat::Lib.bytesOf p) _=_;rw [Lib.indexByte,A2v (h x (by simp)),if_neg (by simp),this];rfl
theorem A09 {p:List Int} (l:List Int) (h:Nz p):A08 (p++0::l) 0=p.length:=by
 induction p with
 | nil=>rfl
 | cons x p ih =>
  have:=ih fun y hy=>h y (by simp [hy]);unfold A08 at this ⊢;show Lib.indexByte (UInt8.ofNat x.toNat::Lib.bytesOf (p++0::l)) _=_;rw [Lib.indexByte,A2v (h x (by simp)),if_neg (by simp),this,if_neg (by rw [beq_iff_eq];omega)];simp
def Tb {σ X:Type} (body:σ→X→Option (σ×Bool)):List X→σ→Option (σ×Bool)
 | [],s=>some (s,true)
 | x::l,s=>(body s x).bind fun q=>bif q.2 then Tb body l q.1 else some (q.1,false)
def Tr:Int→List (List Int)→List (Int×List Int)
 | _,[]=>[]
 | k,p::ps=>(k,p)::Tr (k+1+p.length) ps
theorem We {σ:Type} (body:σ→Int×List Int→Option (σ×Bool)) (b:List Int) (hb:b.length≤1000000000):∀(ps:List (List Int)) (m k:Nat) (s:σ),ps≠[]→b.drop k=Dh ps→(∀q∈ps,Nz q)→ps.length<m →
  Dj body b m k s=Tb body (Tr k ps) s:=by
 intro ps
 induction ps with
 | nil=>intro m k s h;exact absurd rfl h
 | cons p ps ih =>
  intro m k s _ hd hz hm;obtain ⟨m,rfl⟩:∃m',m=m'+1:=⟨m-1,by omega⟩;rw [Gx] at hd;have hk:k<b.length:=by
   rcases Nat.lt_or_ge k b.length with h|h
   ·exact h
   ·rw [List.drop_of_length_le h] at hd;cases hd
  have hd1:b.drop (k+1)=p++Dh ps:=by
   have:=congrArg List.tail hd;rw [List.tail_drop] at this;exact this
  have hlen:=congrArg List.length hd1;rw [List.length_drop,List.length_append] at hlen;have hp:Nz p:=hz p (by simp);rw [Dj,Fh,B0 (by rw [dT (show (k:Int)≥0 by omega),dT (show (k:Int)<(b.length:Int) by omega)];rfl),ckb (by omega),L3 (k+1) (by omega) rfl (by omega),hd1]
  cases ps with
  | nil =>
   have e:p++Dh []=p:=by simp [Dh]
   have hi:B9 (p++Dh []) 0=-1:=by rw [e];exact A0a hp
   rw [hi,B0 (by rfl),ckb (by omega),L3 (k+1) (by omega) rfl (by omega),hd1,e];rfl
  | cons p2 ps =>
   have hi:B9 (p++Dh (p2::ps)) 0=p.length:=by rw [Gx];exact A09 _ hp
   have hj:(Dh (p2::ps)).length≥1:=by rw [Gx];simp
   rw [hi,At (dF (by omega)),ckb (by omega),ckb (by omega),ckb (by omega),A31 (k+1) (k+1+p.length) (by omega) (by omega) (by omega),hd1,show k+1+p.length-(k+1)=p.length by omega,List.take_left];rw [Tr,Tb]
   congr 1
   funext q
   cases hq:q.2 with
   | false=>rfl
   | true =>
    rw [B0 rfl,B0 rfl,ckb (by omega),ckb (by omega)];have:=ih m (k+1+p.length) q.1 (by simp) (by rw [←List.drop_drop,hd1,List.drop_left]) (fun r hr=>hz r (by simp [hr])) (by simp at hm ⊢;omega);rw [show ((k:Int)+(1+(p.length:Int)))=((k+1+p.length:Nat):Int) by omega,this];rw [show ((k+1+p.length:Nat):Int)=(k:Int)+1+p.length by omega]
theorem Zb {σ:Type} (F:Nat) (body:σ→Int×List Int→Option (σ×Bool)) {p:List Int} {ps:List (List Int)} (hp:Nz p) (hz:∀q∈ps,Nz q) (hl:(p++Dh ps).length≤1000000000) (hF:ps.length<F) (s:σ) :
  Eo F (p++Dh ps) body s=Tb body (Tr p.length ps) s:=by
 rw [Eo]
 cases ps with
 | nil =>
  have e:p++Dh []=p:=by simp [Dh]
  have hi:B9 (p++Dh []) 0=-1:=by rw [e];exact A0a hp
  obtain ⟨G,rfl⟩:∃G,F=G+1:=⟨F-1,by omega⟩;rw [hi,Dj,Fh,At (by rfl)];rfl
 | cons q qs =>
  have hi:B9 (p++Dh (q::qs)) 0=p.length:=by rw [Gx];exact A09 _ hp
  rw [hi];exact We body _ hl _ F p.length s (by simp) (by rw [List.drop_left]) hz hF
def Ct (t:volume_thing):volume_Item:=t.cs default Ao An Ar
theorem A1g (F:Nat) {t:volume_thing} (h:t≠.nil_):Hm F t=some (Ct t):=by
 cases t with
 | nil_=>exact absurd rfl h
 | ic156 s=>rfl
 | ic158 f=>rfl
 | ic160 n=>rfl
theorem A44 {p:List Int} (h:(unS p).2=0):vT (unS p).1:=by
 unfold unS at h ⊢
 split
 ·rename_i h1;rw [h1] at h;cases h
 ·rename_i n r h1
  rw [h1] at h;simp only at h
  split
  ·rename_i h2;rw [if_pos h2] at h;cases h
  ·rename_i h2
   rw [if_neg h2] at h
   split
   ·rename_i h3;rw [if_pos h3] at h;cases h
   ·rename_i h3
    rw [if_neg h3] at h
    split
    ·rename_i h4;rw [h4] at h;cases h
    ·rename_i t r2 h4
     rw [h4] at h;simp only at h
     split
     ·rename_i h5;exact h5.1
     ·rename_i h5;rw [if_neg h5] at h;cases h
theorem vT.nn {t:volume_thing} (h:vT t):t≠.nil_:=fun e=>by rw [e] at h;exact h
def W0 (p:List Int):Bool:=p.all fun c=>decide (c≥128)&&decide (c≤254)
def Ym (p:List Int):Bool:=W0 p||match rN p with
 | none=>false
 | some (n,r)=>decide ((r.length:Int)<n+5)
theorem Zj {F:Nat} (hF:1000≤F) {p:List Int} (hp:By p) (hl:p.length≤1000000000):∀(m i:Nat) (c:Bool),p.length-i<m→i≤p.length →
  Gu F p m i c=J3 F p (c&&W0 (p.drop i)):=by
 intro m
 induction m with
 | zero=>intro i c h;omega
 | succ m ih =>
  intro i c h hi;rw [Gu,Ki]
  by_cases hb:i<p.length
  ·have hd:=List.drop_eq_getElem_cons hb;rw [B0 (dT (by omega)),Ei i p[i] rfl (List.getElem?_eq_getElem hb),ckb (by omega),show ((i:Int)+1)=((i+1:Nat):Int) by omega,ih (i+1) _ (by omega) (by omega)]
   congr 1
   rw [hd];have e:W0 (p[i]::p.drop (i+1))=(decide (p[i]≥128)&&decide (p[i]≤254)&&W0 (p.drop (i+1))):=List.all_cons ..;rw [e]
   cases c<;>cases decide (p[i]≥128)<;>cases decide (p[i]≤254)<;>cases W0 (p.drop (i+1))<;>rfl
  ·rw [At (dF (by omega)),List.drop_of_length_le (by omega)];simp [W0]
theorem A26 {F:Nat} (hF:1000≤F) {p:List Int} (hp:By p) (hlF:p.length<F) (hl:p.length≤1000000000):Lj F p=some (Ym p):=by
 rw [Lj,show (0:Int)=((0:Nat):Int) from rfl,Zj hF hp hl F 0 true (by omega) (by omega),J3,List.drop_zero,Bool.true_and];unfold Ym;rcases Wh hF hp with ⟨r,h1,h2⟩|⟨n,r,h1,h2⟩
 ·rw [h1,h2,sbd]
  cases W0 p<;>rfl
 ·obtain ⟨a,b,c⟩:=G1 hp h2;have:=c.length_le;rw [h1,h2,sbd]
  cases W0 p with
  | true=>rfl
  | false =>
   show ((ck (n+5)).bind fun x26=>some (decide ((r.length:Int)<x26)))=_;rw [ckb (by omega)];rfl
noncomputable def rdF (total:Int):Int→List (List Int)→List volume_Item×Int×Int
 | _,[]=>([],total,0)
 | k,p::ps=>if (unS p).2=0 then (Ct (unS p).1::(rdF total (k+1+p.length) ps).1,(rdF total (k+1+p.length) ps).2) else ([],k,if ps=[]∧Ym p=true then 16 else (unS p).2)
theorem Zg {F:Nat} (hF:200000≤F) (b:List Int) (hb:b.length<F) (hb9:b.length≤1000000000) (total:Int):∀(ps:List (List Int)) (k:Int) (acc:List volume_Item),0≤k→k+(Dh ps).length=b.length→(∀q∈ps,Nz q)→acc.length+ps.length≤1000000000 →
  ∃tg:Nat,Tb (Gt F b) (Tr k ps) (acc,total,0,0)=some ((acc++(rdF total k ps).1,(rdF total k ps).2.1,(rdF total k ps).2.2,tg),decide (tg≠3))∧(tg=0∨tg=3):=by
 intro ps
 induction ps with
 | nil=>intro k acc h0 h1 h2 h3;exact ⟨0,by simp [Tr,Tb,rdF],.inl rfl⟩
 | cons p ps ih =>
  intro k acc h0 h1 h2 h3;have hp:=(h2 p (by simp)).by
  rw [Gx] at h1;simp only [List.length_cons,List.length_append] at h1 h3;have hun:=A5a hF hp (by omega) (by omega);rw [Tr,Tb,rdF,Gt];simp only [hun,sbd]
  by_cases h:(unS p).2=0
  ·have hv:=A44 h;have happ:(apd 224 acc [Ct (unS p).1]).bind (fun l405=>some ((l405,total,(0:Int),0),true))=some ((acc++[Ct (unS p).1],total,(0:Int),(0:Nat)),true):=M4 (by simp;omega) (by decide);rw [At (by simp [h]),A1g F hv.nn,sbd,if_pos h,happ,sbd,B0 rfl];obtain ⟨tg,h4,h5⟩:=ih (k+1+p.length) (acc++[Ct (unS p).1]) (by omega) (by omega) (fun q hq=>h2 q (by simp [hq])) (by simp;omega);refine ⟨tg,?_,h5⟩;rw [h4,List.append_assoc];rfl
  ·rw [B0 (by simp [h]),ckb (by omega),ckb (by omega),if_neg h];refine ⟨3,?_,.inr rfl⟩;have hlast:(k+1+(p.length:Int)==(b.length:Int))=decide (ps=[]):=by
    cases ps with
    | nil=>simp [Dh] at h1;simp;omega
    | cons q qs=>rw [Gx] at h1;simp at h1;simp;omega
   rw [hlast]
   by_cases h6:ps=[]
   ·rw [dT h6,gdT (by rfl),A26 (by omega) hp (by omega) (by omega),sbd,B0 (c:=true) rfl]
    cases ht:Ym p with
    | true=>rw [B0 (by rfl),sbd,At rfl,if_pos ⟨h6,rfl⟩];simp
    | false=>rw [At (by rfl),sbd,At rfl,if_neg (by simp)];simp
   ·rw [dF h6,gdF (by rfl),sbd,At (c:=false) rfl,At (by rfl),sbd,At rfl,if_neg (fun h=>h6 h.1)];simp
def RVF1:List Int:=[82,86,70,49]
theorem RVF1_nz:Nz RVF1:=by intro x hx;simp [RVF1] at hx;omega
theorem Zc (F:Nat) (l:List Int) (hl:By l):H6 F (RVF1++l) RVF1=some true:=by
 unfold H6;rw [B0 (dT (by rw [List.length_append];omega)),T3 4 rfl (by rfl) (by rw [List.length_append];simp [RVF1]),show (4:Nat)=RVF1.length from rfl,List.take_left,bEq RVF1_nz.by RVF1_nz.by];simp
theorem A1v {F:Nat} (hF:200000≤F) {ps:List (List Int)} (hz:∀q∈ps,Nz q) (hl:4+(Dh ps).length<F) (hl2:4+(Dh ps).length≤16777216) (hn:ps.length≤1000) :
  D8 F (RVF1++Dh ps)=some (rdF (4+(Dh ps).length:Nat) 4 ps):=by
 have hlen:(RVF1++Dh ps).length=4+(Dh ps).length:=by rw [List.length_append];rfl
 have hrl:∀(k:Int),(rdF (4+(Dh ps).length:Nat) k ps).1.length≤ps.length:=by
  generalize ((4+(Dh ps).length:Nat):Int)=total;intro k
  clear hlen hl hl2 hn
  induction ps generalizing k with
  | nil=>simp [rdF]
  | cons p ps ih =>
   rw [rdF]
   split
   ·have:=ih (fun q hq=>hz q (by simp [hq])) (k+1+p.length)
    simpa using this
   ·simp
 rw [D8,At (dF (by omega)),show ([82,86,70,49]:List Int)=RVF1 from rfl,Zc F _ (A0c hz),sbd];obtain ⟨tg,h1,h2⟩:=Zg hF (RVF1++Dh ps) (by omega) (by omega) ((RVF1++Dh ps).length:Nat) ps 4 [] (by decide) (by omega) hz (by simp;omega);have hfin:((Eo F (RVF1++Dh ps) (Gt F (RVF1++Dh ps)) (([]:List volume_Item),(((RVF1++Dh ps).length:Nat):Int),0,0)).bind fun r410 =>
   bif r410.2 then (Eh r410.1.1 r410.1.2.1 r410.1.2.2.1) else (bif (r410.1.2.2.2==3) then (Eh r410.1.1 r410.1.2.1 r410.1.2.2.1) else (none)))=some (rdF (4+(Dh ps).length:Nat) 4 ps):=by
  rw [Zb F _ RVF1_nz hz (by omega) (by omega),show ((RVF1.length:Nat):Int)=4 from rfl,h1,sbd];have hk:Eh ([]++(rdF ((RVF1++Dh ps).length:Nat) 4 ps).1) (rdF ((RVF1++Dh ps).length:Nat) 4 ps).2.1 (rdF ((RVF1++Dh ps).length:Nat) 4 ps).2.2=some (rdF (4+(Dh ps).length:Nat) 4 ps):=by
   rw [hlen,Eh,List.nil_append,At (dF (by have:=hrl 4;omega))]
  rcases h2 with rfl|rfl
  ·exact hk
  ·exact hk
 cases ps with
 | nil =>
  rw [gdF (by rfl),sbd,At (by rfl)];exact hfin
 | cons p ps =>
  have hg:(Dg (RVF1++Dh (p::ps)) 4)=some 0:=by rw [Gx];rfl
  rw [gdT (by rw [dT (show (((RVF1++Dh (p::ps)).length:Nat):Int)>4 by rw [hlen,Gx];simp;omega)];rfl),hg,sbd,At (by cases decide ((((RVF1++Dh (p::ps)).length:Nat):Int)>4)<;>rfl)]
  exact hfin
end Go.Proofs.YtifbomimeodibaaGreat
namespace Go.Proofs.YtifbomimeodibaaGreat
open Go Go.RowKit Go.Eng
set_option maxRecDepth 10000
set_option linter.unusedVariables false
set_option linter.unusedSimpArgs false
theorem Vf {β:Type} {x y:Int} {f:Int→Option β} (hx:0≤x) (hy:0<y):(Ju x y).bind f=f (x%y):=by
 unfold Ju;rw [if_neg (by omega),Int.tmod_eq_emod_of_nonneg hx];rfl
theorem z00:z0 ⟨0,0⟩:=⟨rfl,rfl⟩
theorem A4s {β:Type} {x:Int} {f:Int→Option β} (h:0≤x∧x≤1000000):(Ni x 2).bind f=f (x/2):=by
 unfold Ni;rw [if_neg (by decide),Int.tdiv_eq_ediv_of_nonneg h.1,ckb (by omega)]
theorem A2n {y:Int} (h:0≤y∧y≤1000000):IntKind.i64.wrap (0-y)=-y:=by
 simp only [IntKind.wrap,IntKind.signed,IntKind.bits];simp;omega
def names:List ByteArray:=[(⟨#[97]⟩:ByteArray),(⟨#[98,95,49]⟩:ByteArray),(⟨#[122,122,122,122,122,122,122,122,122,122,122,122]⟩:ByteArray)]
theorem A0e:∀s∈names,R9 s=true∧Tz s:=by
 intro s hs;simp only [names,List.mem_cons,List.not_mem_nil,or_false] at hs;rcases hs with rfl|rfl|rfl
 ·exact ⟨by kernel_rfl,by intro x hx;simp [sby] at hx;omega⟩
 ·exact ⟨by kernel_rfl,by intro x hx;simp [sby] at hx;omega⟩
 ·exact ⟨by kernel_rfl,by intro x hx;simp [sby] at hx;omega⟩
def okI (t:volume_thing):Prop:=vT t∧tzT t∧(Ce t).length≤6000
theorem okI.of {t:volume_thing} (h1:vT t) (h2:tzT t) (h3:cnt t≤32):okI t:=⟨h1,h2,by have:=Sf h1.ok;omega⟩
end Go.Proofs.YtifbomimeodibaaGreat
namespace Go.Proofs.YtifbomimeodibaaGreat
open Go Go.RowKit Go.Eng
set_option maxRecDepth 10000
set_option linter.unusedVariables false
set_option linter.unusedSimpArgs false
theorem Wz:Ht FV=some true:=by kernel_rfl
theorem Tx (s:ByteArray):sEq s s=true:=Re.2 rfl
theorem Su {t:volume_thing} (h:t≠.nil_):F8 (Ct t)=t:=by
 cases t with
 | nil_=>exact absurd rfl h
 | ic156 s =>
  show F8 (Ao s)=_;simp [F8,Ao,Tx]
 | ic158 f =>
  show F8 (An f)=_;simp [F8,An,Tx];rfl
 | ic160 n =>
  show F8 (Ar n)=_;simp [F8,Ar,Tx];rfl
theorem X7 {F:Nat} (hF:5000≤F) {t:volume_thing} (h:vT t):J2 F (Ct t)=some (t,0):=by
 obtain ⟨e,he,hv⟩:=Vr hF h.nn;have h0:e=0:=hv.2 h;subst h0;rw [J2,Su h.nn]
 cases t with
 | nil_=>exact h.elim
 | ic156 s=>rw [show Dk F (.ic156 s)=Cw F s from rfl] at he;show (Cw F s).bind _=_;rw [he];rfl
 | ic158 s=>rw [show Dk F (.ic158 s)=Cv F s from rfl] at he;show (Cv F s).bind _=_;rw [he];rfl
 | ic160 s=>rw [show Dk F (.ic160 s)=D9 F s from rfl] at he;show (D9 F s).bind _=_;rw [he];rfl
theorem A1r {F:Nat} (hF:200000≤F) {t:volume_thing} (h:vT t) (hl:(Ce t).length+100≤F):Js F (Ct t)=some (Ko t,0):=by
 rw [Js,X7 (by omega) h,sbd,At (by rfl)];show (H5 F t).bind _=_;rw [Vo hF h.ok hl];rfl
def F1 (ts:List volume_thing):List Int:=Dh (ts.map Ll)
theorem N7 (t:volume_thing) (ts:List volume_thing):F1 (t::ts)=Ko t++F1 ts:=by
 unfold F1 Ko;rw [List.map_cons,Gx];rfl
theorem Tq {t:volume_thing} (h:vT t):(Ll t).length≤(Ce t).length+14:=by
 have hl:=Qo h.ok;have h9:=E6 (x:=((Ce t).length:Int)) ⟨by omega,by omega⟩;rw [Int.toNat_natCast] at h9;unfold Ll P2;simp only [List.length_append,Pa];omega
theorem Xt {F:Nat} (hF:200000≤F) (ts:List volume_thing) (hv:∀t∈ts,vT t∧(Ce t).length+100≤F) (hl:4+(F1 ts).length≤16777216):∀(m i:Nat) (acc:List Int),ts.length-i<m→i≤ts.length→ts.length≤1000→acc++F1 (ts.drop i)=RVF1++F1 ts →
  Fu F (ts.map Ct) m i acc=some (RVF1++F1 ts,0):=by
 intro m
 induction m with
 | zero=>intro i acc h;omega
 | succ m ih =>
  intro i acc h hi hn hacc;rw [Fu,Ji,List.length_map];have hal:acc.length+(F1 (ts.drop i)).length=4+(F1 ts).length:=by
   have:=congrArg List.length hacc;rw [List.length_append,List.length_append] at this;exact this
  by_cases hb:i<ts.length
  ·have hd:=List.drop_eq_getElem_cons hb;obtain ⟨h1,h2⟩:=hv ts[i] (List.getElem_mem hb);rw [hd,N7,List.length_append] at hal;rw [B0 (dT (by omega)),Ei i (Ct ts[i]) rfl (by rw [List.getElem?_map,List.getElem?_eq_getElem hb];rfl),A1r hF h1 h2,sbd,At (by rfl),M4 (by simp only;omega) (by decide),ckb (by omega)];exact ih (i+1) _ (by omega) (by omega) hn (by rw [←hacc,hd,N7,List.append_assoc])
  ·rw [At (dF (by omega)),Jj];rw [List.drop_of_length_le (by omega)] at hacc hal;rw [show F1 []=[] from rfl,List.append_nil] at hacc;rw [show F1 []=[] from rfl] at hal;rw [At (dF (by simp at hal;omega)),hacc]
theorem A16 {F:Nat} (hF:200000≤F) {ts:List volume_thing} (hv:∀t∈ts,vT t∧(Ce t).length+100≤F) (hl:4+(F1 ts).length≤16777216) (hn:ts.length≤1000):Ez F (ts.map Ct)=some (RVF1++F1 ts,0):=by
 rw [Ez,At (dF (by rw [List.length_map];omega))];exact Xt hF ts hv hl F 0 RVF1 (by omega) (by omega) hn rfl
theorem R2 {ts:List volume_thing} (h:∀t∈ts,okI t):(F1 ts).length≤6015*ts.length:=by
 induction ts with
 | nil=>simp [F1,Dh]
 | cons t ts ih =>
  obtain ⟨h1,h2,h3⟩:=h t (by simp);have:=ih fun t ht=>h t (by simp [ht]);have hp:=Tq h1;rw [N7,List.length_append];unfold Ko;simp only [List.length_cons];omega
theorem A3q {ts:List volume_thing} (total:Int) (h:∀t∈ts,vT t) (k:Int):rdF total k (ts.map Ll)=(ts.map Ct,total,0):=by
 induction ts generalizing k with
 | nil=>rfl
 | cons t ts ih =>
  rw [List.map_cons,rdF,U2 (h t (by simp)),if_pos rfl,ih (fun t ht=>h t (by simp [ht]))];rfl
theorem okI.nz {ts:List volume_thing} (h:∀t∈ts,okI t):∀q∈ts.map Ll,Nz q:=fun q hq=>by
 obtain ⟨t,ht,rfl⟩:=List.mem_map.1 hq;exact Za (h t ht).2.1
theorem S4 {F:Nat} (hF:200000≤F) {ts:List volume_thing} (h:∀t∈ts,okI t) (hn:ts.length≤20):Ez F (ts.map Ct)=some (RVF1++F1 ts,0):=by
 have hl:=R2 h;exact A16 hF (fun t ht=>⟨(h t ht).1,by have:=(h t ht).2.2;omega⟩) (by omega) (by omega)
def Pk (t:volume_thing):Int:=t.cs 0 (fun s=>s.Sweep.Time) (fun f=>f.time) (fun n=>n.time)
end Go.Proofs.YtifbomimeodibaaGreat
namespace Go.Proofs.YtifbomimeodibaaGreat
open Go Go.RowKit Go.Eng
set_option maxRecDepth 10000
set_option linter.unusedVariables false
set_option linter.unusedSimpArgs false
theorem Sm {α:Type} [DecidableEq α] {a b:List α} {i:Nat} (ha:i<a.length) (hb:i<b.length):decide (a.drop i=b.drop i)=(decide (a[i]=b[i])&&decide (a.drop (i+1)=b.drop (i+1))):=by
 rw [List.drop_eq_getElem_cons ha,List.drop_eq_getElem_cons hb,Bool.eq_iff_iff,decide_eq_true_eq,List.cons.injEq,Bool.and_eq_true,decide_eq_true_eq,decide_eq_true_eq]
theorem R0 {α:Type} [DecidableEq α] {a b:List α} {i:Nat} (ha:a.length≤i) (hb:b.length≤i):decide (a.drop i=b.drop i)=true:=by
 rw [List.drop_of_length_le ha,List.drop_of_length_le hb];simp
theorem X5 (a b:List Int) (hl:a.length=b.length) (h9:a.length≤1000000000):∀(m i:Nat),a.length-i<m→i≤a.length→Gl a b m i=some (decide (a.drop i=b.drop i)):=by
 intro m
 induction m with
 | zero=>intro i h;omega
 | succ m ih =>
  intro i h hi;rw [Gl,Jx]
  by_cases hb:i<a.length
  ·rw [B0 (dT (by omega)),Ei i a[i] rfl (List.getElem?_eq_getElem hb),Ei i b[i] rfl (List.getElem?_eq_getElem (by omega)),Sm hb (by omega)]
   by_cases he:a[i]=b[i]
   ·rw [At (by simp [he]),ckb (by omega)];have:=ih (i+1) (by omega) (by omega);rw [show ((i:Int)+1)=((i+1:Nat):Int) by omega,this,dT he,Bool.true_and]
   ·rw [B0 (by simp [he]),dF he,Bool.false_and]
  ·rw [At (dF (by omega)),Jy,R0 (by omega) (by omega)]
theorem Zt {F:Nat} {a b:List Int} (hF:a.length<F) (h9:a.length≤1000000000):F2 F a b=some (decide (a=b)):=by
 rw [F2]
 by_cases h:a.length=b.length
 ·rw [At (by simp [h]),show (0:Int)=((0:Nat):Int) from rfl,X5 a b h h9 F 0 (by omega) (by omega),List.drop_zero,List.drop_zero]
 ·rw [B0 (by simp;omega),dF (fun e=>h (by rw [e]))]
theorem A0x (p0 p1:api_Sweep) (j:Nat) (k2:Int→Option Bool) (a b:List api_Echo) (ha:p0.Rays[j]? = some a) (hb:p1.Rays[j]? = some b) (hl:a.length=b.length) (h9:a.length≤1000000):∀(m i:Nat),a.length-i<m→i≤a.length →
  Gn p0 p1 j k2 m i=bif decide (a.drop i=b.drop i) then Hs j k2 else some false:=by
 intro m
 induction m with
 | zero=>intro i h;omega
 | succ m ih =>
  intro i h hi;rw [Gn,K2,Ei j a rfl ha]
  by_cases hlt:i<a.length
  ·rw [B0 (dT (by omega)),Ei j a rfl ha,Ei i a[i] rfl (List.getElem?_eq_getElem hlt),Ei j b rfl hb,Ei i b[i] rfl (List.getElem?_eq_getElem (by omega)),Sn,Sm hlt (by omega)]
   by_cases he:a[i]=b[i]
   ·rw [At (by simp [he]),ckb (by omega)];have:=ih (i+1) (by omega) (by omega);rw [show ((i:Int)+1)=((i+1:Nat):Int) by omega,this,dT he,Bool.true_and]
   ·rw [B0 (by simp [he]),dF he,Bool.false_and,At rfl]
  ·rw [At (dF (by omega)),R0 (by omega) (by omega),B0 rfl]
def A2z (s:api_Sweep):Prop:=s.Rays.length≤1000∧∀r∈s.Rays,r.length≤1000
theorem Zf {F:Nat} (hF:2000≤F) (p0 p1:api_Sweep) (h0:A2z p0) (hl:p0.Rays.length=p1.Rays.length):∀(m i:Nat),p0.Rays.length-i<m→i≤p0.Rays.length→Fa F p0 p1 m i=some (decide (p0.Rays.drop i=p1.Rays.drop i)):=by
 intro m;obtain ⟨hn,hr⟩:=h0
 induction m with
 | zero=>intro i h;omega
 | succ m ih =>
  intro i h hi;rw [Fa,K1]
  by_cases hb:i<p0.Rays.length
  ·have hri:=hr _ (List.getElem_mem hb);rw [B0 (dT (by omega)),Ei i p0.Rays[i] rfl (List.getElem?_eq_getElem hb),Ei i p1.Rays[i] rfl (List.getElem?_eq_getElem (by omega)),Sm hb (by omega)]
   by_cases hle:p0.Rays[i].length=p1.Rays[i].length
   ·rw [At (by simp [hle])];have hrow:=A0x p0 p1 i (Fa F p0 p1 m) _ _ (List.getElem?_eq_getElem hb) (List.getElem?_eq_getElem (show i<p1.Rays.length by omega)) hle (by omega) F 0 (by omega) (by omega);refine hrow.trans ?_;rw [List.drop_zero,List.drop_zero]
    by_cases he:p0.Rays[i]=p1.Rays[i]
    ·have:=ih (i+1) (by omega) (by omega);rw [dT he,B0 rfl,Hs,ckb (by omega),show ((i:Int)+1)=((i+1:Nat):Int) by omega,this,Bool.true_and]
    ·rw [dF he,At rfl,Bool.false_and]
   ·rw [B0 (by simp;omega),dF (fun e=>hle (by rw [e])),Bool.false_and]
  ·rw [At (dF (by omega)),K3,R0 (by omega) (by omega)]
theorem A4d (a b:ByteArray):(a==b)=decide (a=b):=by
 rw [Bool.eq_iff_iff,decide_eq_true_eq]
 cases a with
 | mk x =>
  cases b with
  | mk y =>
   rw [ByteArray.mk.injEq,←beq_iff_eq (a:=x)];rfl
theorem A24 (a b:api_Site):((a.Name==b.Name)&&(((a.X:Int)==b.X)&&(((a.Y:Int)==b.Y)&&(((a.Z:Int)==b.Z)&&(((a.Rose:Int)==b.Rose)&&(((a.Gates:Int)==b.Gates)&&(((a.Step:Int)==b.Step)&&(((a.Width:Int)==b.Width)&&true))))))))=decide (a=b):=by
 rw [A4d]
 cases a;cases b
 rw [Bool.eq_iff_iff];simp [and_assoc]
theorem A3z {F:Nat} (hF:2000≤F) (a b:api_Sweep) (ha:A2z a):Ld F a b=some (decide (a=b)):=by
 rw [Ld,A24]
 by_cases h1:a.Site=b.Site∧a.Tilt=b.Tilt∧a.Time=b.Time∧a.Rays.length=b.Rays.length
 ·obtain ⟨h1,h2,h3,h4⟩:=h1;rw [At (by simp [h1,h2,h3,h4])];refine (Zf hF a b ha h4 F 0 (by have:=ha.1;omega) (by omega)).trans ?_;rw [List.drop_zero,List.drop_zero]
  congr 1
  cases a;cases b
  simp only at h1 h2 h3;rw [Bool.eq_iff_iff];simp [h1,h2,h3]
 ·rw [B0 ?_,dF (fun e=>h1 (by rw [e];exact ⟨rfl,rfl,rfl,rfl⟩))]
  by_cases g1:a.Site=b.Site
  ·by_cases g2:a.Tilt=b.Tilt
   ·by_cases g3:a.Time=b.Time
    ·have g4:¬a.Rays.length=b.Rays.length:=fun e=>h1 ⟨g1,g2,g3,e⟩;simp [g1,g2,g3];omega
    ·simp [g1,g2,g3]
   ·simp [g1,g2]
  ·simp [g1]
theorem Zk (p0 p1:api_Field) (hl:p0.Vals.length=p1.Vals.length) (h9:p0.Vals.length≤1000000):∀(m i:Nat),p0.Vals.length-i<m→i≤p0.Vals.length→Gm p0 p1 m i=some (decide (p0.Vals.drop i=p1.Vals.drop i)):=by
 intro m
 induction m with
 | zero=>intro i h;omega
 | succ m ih =>
  intro i h hi;rw [Gm,Jz]
  by_cases hb:i<p0.Vals.length
  ·rw [B0 (dT (by omega)),Ei i p0.Vals[i] rfl (List.getElem?_eq_getElem hb),Ei i p1.Vals[i] rfl (List.getElem?_eq_getElem (by omega)),Sx,Sm hb (by omega)]
   by_cases he:p0.Vals[i]=p1.Vals[i]
   ·rw [At (by simp [he]),ckb (by omega)];have:=ih (i+1) (by omega) (by omega);rw [show ((i:Int)+1)=((i+1:Nat):Int) by omega,this,dT he,Bool.true_and]
   ·rw [B0 (by simp [he]),dF he,Bool.false_and]
  ·rw [At (dF (by omega)),K0,R0 (by omega) (by omega)]
theorem A1e (a b:api_Grid):(((a.X:Int)==b.X)&&(((a.Y:Int)==b.Y)&&(((a.Size:Int)==b.Size)&&(((a.Wide:Int)==b.Wide)&&(((a.High:Int)==b.High)&&true)))))=decide (a=b):=by
 cases a;cases b
 rw [Bool.eq_iff_iff];simp [and_assoc]
theorem A35 {F:Nat} (hF:6000≤F) (a b:api_Field) (ha:a.Vals.length≤5000):Lc F a b=some (decide (a=b)):=by
 rw [Lc,A1e]
 by_cases h1:a.Grid=b.Grid∧a.Vals.length=b.Vals.length
 ·obtain ⟨h1,h4⟩:=h1;rw [At (by simp [h1,h4])];refine (Zk a b h4 (by omega) F 0 (by omega) (by omega)).trans ?_;rw [List.drop_zero,List.drop_zero]
  congr 1
  cases a;cases b
  simp only at h1;rw [Bool.eq_iff_iff];simp [h1]
 ·rw [B0 ?_,dF (fun e=>h1 (by rw [e];exact ⟨rfl,rfl⟩))]
  by_cases g1:a.Grid=b.Grid
  ·have g4:¬a.Vals.length=b.Vals.length:=fun e=>h1 ⟨g1,e⟩;simp [g1];omega
  ·simp [g1]
def V5 (x:volume_Item):Prop:=A2z x.Sweep∧x.Field.Vals.length≤5000
theorem Yi (a b:ByteArray):sEq a b=decide (a=b):=by rw [Bool.eq_iff_iff,Re,decide_eq_true_eq]
theorem A2k {F:Nat} (hF:6000≤F) (a b:volume_Item) (ha:V5 a):Hr F a b=some (decide (a=b)):=by
 rw [Hr,Yi,Yi]
 by_cases h1:a.Kind=b.Kind∧a.Name=b.Name∧a.Time=b.Time∧a.Text=b.Text
 ·obtain ⟨h1,h2,h3,h4⟩:=h1;rw [gdT (by simp [h1,h2,h3,h4]),A3z (by omega) _ _ ha.1,sbd]
  by_cases h5:a.Sweep=b.Sweep
  ·rw [gdT (by simp [h1,h2,h3,h4,h5]),A35 hF _ _ ha.2,sbd]
   congr 1
   cases a;cases b
   simp only at h1 h2 h3 h4 h5;rw [Bool.eq_iff_iff];simp [h1,h2,h3,h4,h5]
  ·rw [gdF (by simp [h5]),sbd,dF (show ¬a=b from fun e=>h5 (by rw [e]))];simp [h5]
 ·have hc:(bif (bif (bif (a.Kind==b.Kind) then (decide (a.Name=b.Name)) else false) then (a.Time==b.Time) else false) then (decide (a.Text=b.Text)) else false)=false:=by
   by_cases g1:a.Kind=b.Kind
   ·by_cases g2:a.Name=b.Name
    ·by_cases g3:a.Time=b.Time
     ·have g4:¬a.Text=b.Text:=fun e=>h1 ⟨g1,g2,g3,e⟩;simp [g4]
     ·simp [g3]
    ·simp [g2]
   ·simp [g1]
  rw [hc,gdF (by rfl),sbd,gdF (by rfl),sbd,dF (show ¬a=b from fun e=>h1 (by rw [e];exact ⟨rfl,rfl,rfl,rfl⟩))];rfl
theorem vT.cmp {t:volume_thing} (h:vT t):V5 (Ct t):=by
 cases t with
 | nil_=>exact h.elim
 | ic156 s =>
  obtain ⟨⟨_,_,_,_,r,g,_⟩,_,_,h1,h2,_⟩:=(show vSweep s.Sweep from h);exact ⟨⟨show s.Sweep.Rays.length≤1000 by have:=r.2;omega,fun row hr=>by have:=h2 row hr;have:=g.2;omega⟩,Nat.zero_le _⟩
 | ic158 f =>
  obtain ⟨_,_,hg,h1,_⟩:=(show Qp f from h);have:=Nw hg;exact ⟨⟨Nat.zero_le _,fun r hr=>by cases hr⟩,show f.Field.Vals.length≤5000 by omega⟩
 | ic160 n=>exact ⟨⟨Nat.zero_le _,fun r hr=>by cases hr⟩,Nat.zero_le _⟩
end Go.Proofs.YtifbomimeodibaaGreat
namespace Go.Proofs.YtifbomimeodibaaGreat
open Go Go.RowKit Go.Eng
set_option maxRecDepth 10000
set_option linter.unusedVariables false
set_option linter.unusedSimpArgs false
def off (ts:List volume_thing) (i:Nat):Nat:=4+(F1 (ts.take i)).length
end Go.Proofs.YtifbomimeodibaaGreat
namespace Go.Proofs.YtifbomimeodibaaGreat
open Go Go.RowKit Go.Eng
set_option maxRecDepth 10000
set_option linter.unusedVariables false
set_option linter.unusedSimpArgs false
end Go.Proofs.YtifbomimeodibaaGreat
namespace Go.Proofs.YtifbomimeodibaaGreat
open Go Go.RowKit Go.Eng Go.Sort
set_option linter.unusedVariables false
theorem Mg:∀a b:List Int,(Ja a b<0↔0<Ja b a)∧(Ja a b=0↔a=b)
 | [],[]=>by simp [Ja]
 | [],_::_=>by simp [Ja]
 | _::_,[]=>by simp [Ja]
 | x::a,y::b=>by
  have ih:=Mg a b;unfold Ja
  by_cases h:x<y
  ·rw [if_pos h,if_neg (show ¬y<x by omega),if_pos h];have:x≠y:=by omega
   simp [this]
  ·rw [if_neg h]
   by_cases h':y<x
   ·rw [if_pos h',if_pos h'];have:x≠y:=by omega
    simp [this]
   ·rw [if_neg h',if_neg h',if_neg h];obtain rfl:x=y:=by omega
    simp only [List.cons.injEq,true_and];exact ih
theorem S8:∀a b c:List Int,Ja a b≤0→Ja b c≤0→Ja a c≤0
 | [],_,[]=>by simp [Ja]
 | [],_,_::_=>by simp [Ja]
 | _::_,[],_=>by simp [Ja]
 | _::_,_::_,[]=>by simp [Ja]
 | x::a,y::b,z::c=>by
  have ih:=S8 a b c;unfold Ja
  by_cases h:x<y
  ·rw [if_pos h]
   by_cases h2:y<z
   ·rw [if_pos h2,if_pos (show x<z by omega)];omega
   ·rw [if_neg h2]
    by_cases h3:z<y
    ·rw [if_pos h3];omega
    ·rw [if_neg h3,if_pos (show x<z by omega)];omega
  ·rw [if_neg h]
   by_cases h':y<x
   ·rw [if_pos h'];omega
   ·rw [if_neg h'];obtain rfl:x=y:=by omega
    by_cases h2:x<z
    ·rw [if_pos h2,if_pos h2];omega
    ·rw [if_neg h2,if_neg h2]
     by_cases h3:z<x
     ·rw [if_pos h3];omega
     ·rw [if_neg h3,if_neg h3];exact ih
theorem X8 (a:List Int):Ja a a=0:=(Mg a a).2.2 rfl
theorem Mn (x y:volume_entry):Cs x y<0↔0<Cs y x:=by
 unfold Cs
 by_cases h:x.time=y.time
 ·rw [if_pos h,if_pos h.symm];exact (Mg _ _).1
 ·rw [if_neg h,if_neg (Ne.symm h)];omega
theorem Q8 {x y:volume_entry} (h:Cs x y=0):x=y:=by
 unfold Cs at h
 by_cases h':x.time=y.time
 ·rw [if_pos h'] at h;have:=(Mg _ _).2.1 h
  cases x;cases y;simp_all
 ·rw [if_neg h'] at h;omega
theorem N6 (x:volume_entry):Cs x x=0:=by unfold Cs;rw [if_pos rfl];exact X8 _
theorem Lb {x y z:volume_entry} (h:Cs x y≤0) (h':Cs y z≤0):Cs x z≤0:=by
 unfold Cs at *
 by_cases h1:x.time=y.time
 ·rw [if_pos h1] at h
  by_cases h2:y.time=z.time
  ·rw [if_pos h2] at h';rw [if_pos (h1.trans h2)];exact S8 _ _ _ h h'
  ·rw [if_neg h2] at h';rw [if_neg (by omega)];omega
 ·rw [if_neg h1] at h
  by_cases h2:y.time=z.time
  ·rw [if_neg (by omega)];omega
  ·rw [if_neg h2] at h';rw [if_neg (by omega)];omega
theorem J4 {x y:volume_entry}:¬Cs x y<0↔Cs y x≤0:=by rw [Mn];omega
theorem enSWO:SWO (ltOf Cs):=by
 constructor
 ·intro x;unfold ltOf;rw [N6];rfl
 ·intro x y z h1 h2;unfold ltOf at *;simp only [decide_eq_true_eq] at *;apply Classical.byContradiction;intro h3;have h4:=Lb (J4.1 h3) (show Cs x y≤0 by omega);have:=(Mn y z).1 h2;omega
 ·intro x y z h1 h2;unfold ltOf at *;simp only [decide_eq_false_iff_not] at *;exact J4.2 (Lb (J4.1 h2) (J4.1 h1))
theorem Yx {l m:List volume_entry} (hp:m.Perm l) (hs:m.Pairwise (fun x y=>ltOf Cs y x=false)):m=l.mergeSort fun x y=>decide (Cs x y≤0):=by
 refine List.Perm.eq_of_pairwise (le:=fun x y=>Cs x y≤0) (fun x y _ _ h1 h2=>?_) (hs.imp fun {x y} h=>?_) ?_ (hp.trans (List.mergeSort_perm _ _).symm)
 ·refine Q8 ?_;have:=Mn x y;omega
 ·unfold ltOf at h;exact J4.1 (by simpa using h)
 ·refine (List.pairwise_mergeSort (le:=fun x y=>decide (Cs x y≤0)) (fun a b c h1 h2=>?_) (fun a b=>?_) l).imp fun {x y} h=>by simpa using h
  ·simp only [decide_eq_true_eq] at *;exact Lb h1 h2
  ·simp only [Bool.or_eq_true,decide_eq_true_eq]
   by_cases h:Cs a b<0
   ·left;omega
   ·right;exact J4.1 h
end Go.Proofs.YtifbomimeodibaaGreat
namespace Go.Proofs.YtifbomimeodibaaGreat
open Go Go.RowKit Go.Eng
set_option maxRecDepth 10000
set_option linter.unusedVariables false
set_option linter.unusedSimpArgs false
theorem Sa {x y z:volume_entry} (h:Cs x y<0) (h':Cs y z≤0):Cs x z<0:=by
 apply Classical.byContradiction;intro h3;have:=Lb h' (J4.1 h3);have:=(Mn x y).1 h;omega
def Str (l:List volume_entry):Prop:=l.Pairwise fun x y=>Cs x y<0
theorem Ty:∀{l m:List volume_entry},Str l→Str m→(∀x,x∈l↔x∈m)→l=m
 | [],[],_,_,_=>rfl
 | [],b::m,_,_,h=>by have:=(h b).2 (by simp);cases this
 | a::l,[],_,_,h=>by have:=(h a).1 (by simp);cases this
 | a::l,b::m,hl,hm,h=>by
  obtain ⟨h1,h2⟩:=List.pairwise_cons.1 hl;obtain ⟨h3,h4⟩:=List.pairwise_cons.1 hm;have e:a=b:=by
   rcases List.mem_cons.1 ((h a).1 (by simp)) with e|e
   ·exact e
   ·rcases List.mem_cons.1 ((h b).2 (by simp)) with e'|e'
    ·exact e'.symm
    ·have k1:=h3 a e;have k2:=h1 b e';have:=(Mn a b).1 k2;omega
  subst e;have hn:∀x,x∈l→x≠a:=fun x hx he=>by
   have:=h1 x hx;rw [he,N6] at this;omega
  have hn':∀x,x∈m→x≠a:=fun x hx he=>by
   have:=h3 x hx;rw [he,N6] at this;omega
  rw [Ty h2 h4 fun x=>?_];constructor
  ·intro hx;exact (List.mem_cons.1 ((h x).1 (List.mem_cons_of_mem _ hx))).resolve_left (hn x hx)
  ·intro hx;exact (List.mem_cons.1 ((h x).2 (List.mem_cons_of_mem _ hx))).resolve_left (hn' x hx)
def Rq (e:volume_entry):List volume_entry→List volume_entry
 | []=>[e]
 | x::r=>if Cs x e<0 then x::Rq e r else if Cs e x<0 then e::x::r else x::r
theorem Td (e x:volume_entry):∀l,x∈Rq e l↔x=e∨x∈l
 | []=>by simp [Rq]
 | y::r=>by
  unfold Rq
  split
  ·rw [List.mem_cons,Td e x r,List.mem_cons];constructor
   ·rintro (h|h|h)<;>simp [h]
   ·rintro (h|h|h)<;>simp [h]
  ·split
   ·simp
   ·rename_i h1 h2
    have:y=e:=by
     refine Q8 ?_;have:=J4.1 h2;omega
    subst this;simp
theorem W4 (e:volume_entry):∀{l},Str l→Str (Rq e l)
 | [],_=>by simp [Rq,Str]
 | y::r,h=>by
  obtain ⟨h1,h2⟩:=List.pairwise_cons.1 h;unfold Rq
  split
  ·rename_i hy
   refine List.pairwise_cons.2 ⟨fun x hx=>?_,W4 e h2⟩;rcases (Td e x r).1 hx with rfl|hx
   ·exact hy
   ·exact h1 x hx
  ·split
   ·rename_i hy
    refine List.pairwise_cons.2 ⟨fun x hx=>?_,h⟩;rcases List.mem_cons.1 hx with rfl|hx
    ·exact hy
    ·have:=h1 x hx;exact Sa hy (by omega)
   ·exact h
theorem Qz:∀(s:List volume_entry) (p:volume_entry),(p::s).Pairwise (fun x y=>Cs x y≤0)→(∀x∈p::s,∀y∈p::s,x.block=y.block→x=y)→Str (p::Q7 p s)∧∀x,x∈p::Q7 p s↔x∈p::s
 | [],p,_,_=>⟨by simp [Q7,Str],fun x=>by simp [Q7]⟩
 | x::xs,p,hp,hi=>by
  obtain ⟨h1,h2⟩:=List.pairwise_cons.1 hp;unfold Q7
  by_cases hb:x.block=p.block
  ·have e:x=p:=hi x (by simp) p (by simp) hb;subst e;rw [if_pos rfl];obtain ⟨k1,k2⟩:=Qz xs x h2 (fun a ha b hb=>hi a (List.mem_cons_of_mem _ ha) b (List.mem_cons_of_mem _ hb));refine ⟨k1,fun z=>?_⟩;rw [k2 z];simp
  ·rw [if_neg hb];obtain ⟨k1,k2⟩:=Qz xs x h2 (fun a ha b hb=>hi a (List.mem_cons_of_mem _ ha) b (List.mem_cons_of_mem _ hb));have hlt:Cs p x<0:=by
    have h3:=h1 x (by simp);have h4:Cs p x≠0:=fun h=>hb (by rw [Q8 h]);omega
   refine ⟨List.pairwise_cons.2 ⟨fun z hz=>?_,k1⟩,fun z=>?_⟩
   ·rcases List.mem_cons.1 ((k2 z).1 hz) with rfl|hz
    ·exact hlt
    ·exact Sa hlt ((List.pairwise_cons.1 h2).1 z hz)
   ·rw [List.mem_cons,k2 z,List.mem_cons (l:=x::xs)]
def X6 (l:List volume_entry):List volume_entry:=l.foldl (fun acc e=>Rq e acc) []
theorem Vy (x:volume_entry):∀(l acc:List volume_entry),x∈l.foldl (fun acc e=>Rq e acc) acc↔x∈l∨x∈acc
 | [],acc=>by simp
 | e::l,acc=>by
  rw [List.foldl_cons,Vy x l,Td];simp only [List.mem_cons];constructor
  ·rintro (h|h|h)<;>simp [h]
  ·rintro ((h|h)|h)<;>simp [h]
theorem Vz:∀(l acc:List volume_entry),Str acc→Str (l.foldl (fun acc e=>Rq e acc) acc)
 | [],acc,h=>h
 | e::l,acc,h=>Vz l _ (W4 e h)
theorem Qu (x:volume_entry) (l:List volume_entry):x∈X6 l↔x∈l:=by unfold X6;rw [Vy];simp
theorem Qv (l:List volume_entry):Str (X6 l):=Vz l [] List.Pairwise.nil
theorem A1b {l m:List volume_entry} (h:∀x,x∈l↔x∈m):X6 l=X6 m:=Ty (Qv l) (Qv m) fun x=>by rw [Qu,Qu];exact h x
theorem Zz (l:List volume_entry) (hi:∀x∈l,∀y∈l,x.block=y.block→x=y):Yu (l.mergeSort fun x y=>decide (Cs x y≤0))=X6 l:=by
 have hp:=List.mergeSort_perm l fun x y=>decide (Cs x y≤0);have hs:(l.mergeSort fun x y=>decide (Cs x y≤0)).Pairwise (fun x y=>Cs x y≤0):=by
  refine (List.pairwise_mergeSort (le:=fun x y=>decide (Cs x y≤0)) (fun a b c h1 h2=>?_) (fun a b=>?_) l).imp fun {x y} h=>by simpa using h
  ·simp only [decide_eq_true_eq] at *;exact Lb h1 h2
  ·simp only [Bool.or_eq_true,decide_eq_true_eq]
   by_cases h:Cs a b<0
   ·left;omega
   ·right;exact J4.1 h
 generalize (l.mergeSort fun x y=>decide (Cs x y≤0))=s at *;refine Ty ?_ (Qv l) fun x=>?_
 ·cases s with
  | nil=>exact List.Pairwise.nil
  | cons p s=>exact (Qz s p hs (fun a ha b hb=>hi a (hp.mem_iff.1 ha) b (hp.mem_iff.1 hb))).1
 ·rw [Qu,←hp.mem_iff]
  cases s with
  | nil=>rfl
  | cons p s=>exact (Qz s p hs (fun a ha b hb=>hi a (hp.mem_iff.1 ha) b (hp.mem_iff.1 hb))).2 x
def en (t:volume_thing):volume_entry:=⟨Pk t,Ko t⟩
theorem Vn {x y:volume_thing} (hx:vT x) (hy:vT y) (h:Ko x=Ko y):x=y:=by
 have hp:Ll x=Ll y:=(List.cons.inj h).2;have:=U2 hx;rw [hp,U2 hy] at this;exact (Prod.mk.inj this).1.symm
theorem A01 {x y:volume_thing} (hx:vT x) (hy:vT y) (h:en x=en y):x=y:=Vn hx hy (congrArg volume_entry.block h)
def R3 (t:volume_thing):List volume_thing→List volume_thing
 | []=>[t]
 | v::r=>if Cs (en v) (en t)<0 then v::R3 t r else if Cs (en t) (en v)<0 then t::v::r else v::r
theorem Ya (t:volume_thing):∀l,(R3 t l).map en=Rq (en t) (l.map en)
 | []=>rfl
 | v::r=>by
  unfold R3;rw [List.map_cons,Rq]
  split
  ·rw [List.map_cons,Ya t r]
  ·split<;>rfl
theorem W6 (t x:volume_thing):∀l,x∈R3 t l→x=t∨x∈l
 | [],h=>by simpa [R3] using h
 | v::r,h=>by
  unfold R3 at h
  split at h
  ·rcases List.mem_cons.1 h with h|h
   ·simp [h]
   ·rcases W6 t x r h with h|h<;>simp [h]
  ·split at h
   ·simpa using h
   ·exact .inr h
theorem W5 (t:volume_thing):∀l,(R3 t l).length≤l.length+1
 | []=>by simp [R3]
 | v::r=>by
  unfold R3;have:=W5 t r
  split
  ·simp;omega
  ·split<;>simp
def Tc (acc:List volume_thing) (l:List volume_thing):List volume_thing:=l.foldl (fun acc t=>R3 t acc) acc
theorem Vx:∀(l acc:List volume_thing),(Tc acc l).map en=(l.map en).foldl (fun acc e=>Rq e acc) (acc.map en)
 | [],acc=>rfl
 | t::l,acc=>by
  show (Tc (R3 t acc) l).map en=_;rw [Vx l,Ya];rfl
theorem Un (x:volume_thing):∀(l acc:List volume_thing),x∈Tc acc l→x∈l∨x∈acc
 | [],acc,h=>.inr h
 | t::l,acc,h=>by
  rcases Un x l (R3 t acc) h with h|h
  ·exact .inl (List.mem_cons_of_mem _ h)
  ·rcases W6 t x acc h with rfl|h
   ·exact .inl (by simp)
   ·exact .inr h
theorem Um:∀(l acc:List volume_thing),(Tc acc l).length≤acc.length+l.length
 | [],acc=>by simp [Tc]
 | t::l,acc=>by
  have:=Um l (R3 t acc);have:=W5 t acc;show (Tc (R3 t acc) l).length≤_;rw [List.length_cons];omega
def H7 (l:List volume_thing):List volume_thing:=Tc [] l
theorem Qw (l:List volume_thing):(H7 l).map en=X6 (l.map en):=Vx l []
theorem Jb {l:List volume_thing} {x:volume_thing} (h:x∈H7 l):x∈l:=(Un x l [] h).resolve_right (fun h=>by cases h)
theorem Mm (l:List volume_thing):(H7 l).length≤l.length:=by have:=Um l [];unfold H7;simpa using this
theorem Qx {l:List volume_thing} (hv:∀t∈l,vT t) (x:volume_thing):x∈H7 l↔x∈l:=by
 refine ⟨Jb,fun h=>?_⟩;have h1:en x∈(H7 l).map en:=by rw [Qw,Qu];exact List.mem_map_of_mem h
 obtain ⟨y,hy,he⟩:=List.mem_map.1 h1;rw [←A01 (hv y (Jb hy)) (hv x h) he];exact hy
theorem Tj:∀{l m:List volume_thing},(∀t∈l,vT t)→(∀t∈m,vT t)→l.map en=m.map en→l=m
 | [],[],_,_,_=>rfl
 | [],_::_,_,_,h=>by cases h
 | _::_,[],_,_,h=>by cases h
 | x::l,y::m,hl,hm,h=>by
  obtain ⟨h1,h2⟩:=List.cons.inj h;rw [A01 (hl x (by simp)) (hm y (by simp)) h1,Tj (fun t ht=>hl t (by simp [ht])) (fun t ht=>hm t (by simp [ht])) h2]
theorem V4 {l m:List volume_thing} (hl:∀t∈l,vT t) (hm:∀t∈m,vT t) (h:∀x,x∈l↔x∈m):H7 l=H7 m:=by
 refine Tj (fun t ht=>hl t (Jb ht)) (fun t ht=>hm t (Jb ht)) ?_;rw [Qw,Qw];refine A1b fun x=>?_;simp only [List.mem_map];constructor
 ·rintro ⟨t,ht,e⟩;exact ⟨t,(h t).1 ht,e⟩
 ·rintro ⟨t,ht,e⟩;exact ⟨t,(h t).2 ht,e⟩
end Go.Proofs.YtifbomimeodibaaGreat
namespace Go.Proofs.YtifbomimeodibaaGreat
open Go Go.RowKit Go.Eng
set_option maxRecDepth 10000
set_option linter.unusedVariables false
set_option linter.unusedSimpArgs false
def okJ (t:volume_thing):Prop:=vT t∧(Ce t).length≤6000
theorem A2d (F:Nat) {t:volume_thing} (h:t≠.nil_):Kh F t=some (Pk t):=by
 cases t with
 | nil_=>exact absurd rfl h
 | ic156 s=>rfl
 | ic158 s=>rfl
 | ic160 s=>rfl
theorem A2c {t:volume_thing} (h:vT t):0≤Pk t∧Pk t≤4294967296:=by
 cases t with
 | nil_=>exact h.elim
 | ic156 s=>exact (show vSweep s.Sweep from h).2.2.1
 | ic158 s=>exact (show Qp s from h).2.1
 | ic160 s=>exact (show V0 s from h).1
theorem Zq (t:volume_thing):By (Ko t):=by
 intro x hx;unfold Ko at hx;rcases List.mem_cons.1 hx with rfl|hx
 ·omega
 ·unfold Ll at hx;rcases List.mem_append.1 hx with hx|hx
  ·unfold P2 at hx;rcases List.mem_append.1 hx with hx|hx
   ·exact Va _ x hx
   ·exact Uz t x hx
  ·exact (Vl _).by x hx
theorem A4g {t:volume_thing} (h:vT t):enB (en t):=by
 have:=A2c h;exact ⟨⟨by show -4000000000000000000≤Pk t;omega,by show Pk t≤4000000000000000000;omega⟩,Zq t⟩
theorem okJ.len {t:volume_thing} (h:okJ t):(Ko t).length≤6015:=by
 have:=Tq h.1;have:=h.2;unfold Ko;rw [List.length_cons];omega
theorem A2l {F:Nat} (hF:200000≤F) (ts:List volume_thing) (hv:∀t∈ts,okJ t) (hn:ts.length≤1000) (x:Int) (k4:Int→List volume_entry→Option (List Int×Int)) (y:List volume_Item×Int×Int) (hy:y.1=ts.map Ct):∀(m i:Nat) (acc:List volume_entry),ts.length-i<m→i≤ts.length→acc.length≤1000+i →
  Eg F x k4 y m i acc=Gr x k4 (acc++(ts.drop i).map en):=by
 intro m
 induction m with
 | zero=>intro i acc h;omega
 | succ m ih =>
  intro i acc h hi ha;rw [Eg,Ka,hy,List.length_map]
  by_cases hb:i<ts.length
  ·have hd:=List.drop_eq_getElem_cons hb;have ht:=hv ts[i] (List.getElem_mem hb);rw [B0 (dT (by omega)),Ei i (Ct ts[i]) rfl (by rw [List.getElem?_map,List.getElem?_eq_getElem hb];rfl),Su ht.1.nn,A2d F ht.1.nn,sbd,Vo hF ht.1.ok (by have:=ht.2;omega),sbd,M4 (by simp;omega) (by decide),ckb (by omega),show ((i:Int)+1)=((i+1:Nat):Int) by omega];refine Eq.trans (ih (i+1) _ (by omega) (by omega) (by simp;omega)) ?_;rw [hd,List.map_cons,List.append_assoc];rfl
  ·rw [At (dF (by omega)),List.drop_of_length_le (by omega)];simp
theorem A4l (c:List volume_thing) (hv:∀t∈c,okJ t) (hn:c.length≤2000):∀(m i:Nat) (acc:List Int),c.length-i<m→i≤c.length→acc.length≤100+6015*i →
  Fc (c.map en) m acc i=J0 (c.map en) (acc++F1 (c.drop i)):=by
 intro m
 induction m with
 | zero=>intro i acc h;omega
 | succ m ih =>
  intro i acc h hi ha;rw [Fc,K9,List.length_map]
  by_cases hb:i<c.length
  ·have hd:=List.drop_eq_getElem_cons hb;have hl:=(hv c[i] (List.getElem_mem hb)).len;rw [B0 (dT (by omega)),Ei i (en c[i]) rfl (by rw [List.getElem?_map,List.getElem?_eq_getElem hb];rfl)];show (apd 1 acc (Ko c[i])).bind _=_;rw [M4 (by omega) (by decide),ckb (by omega),show ((i:Int)+1)=((i+1:Nat):Int) by omega];refine Eq.trans (ih (i+1) _ (by omega) (by omega) (by simp;omega)) ?_;rw [hd,N7,List.append_assoc]
  ·rw [At (dF (by omega)),List.drop_of_length_le (by omega)];simp [F1,Dh]
def A0n (c:List volume_thing):List Int×Int:=if c.length>1000 then ([],9) else if (RVF1++F1 c).length>16777216 then ([],8) else (RVF1++F1 c,0)
theorem A4k {F:Nat} (hF:200000≤F) (l:List volume_thing) (hv:∀t∈l,okJ t) (hn:l.length≤2000):Hw F (l.map en)=some (A0n (H7 l)):=by
 have hb:∀s∈l.map en,enB s:=fun s hs=>by
  obtain ⟨t,ht,rfl⟩:=List.mem_map.1 hs;exact A4g (hv t ht).1
 have hp:=List.mergeSort_perm (l.map en) fun x y=>decide (Cs x y≤0);have hlen:=Mm l;rw [Hw,Hl,if_pos ⟨hb,by rw [List.length_map];omega⟩,sbd,G2,if_pos ⟨fun s hs=>hb s (hp.mem_iff.1 hs),by rw [hp.length_eq,List.length_map];omega⟩,sbd];rw [Zz (l.map en) (fun x hx y hy he=>by
  obtain ⟨t,ht,rfl⟩:=List.mem_map.1 hx;obtain ⟨u,hu,rfl⟩:=List.mem_map.1 hy;rw [Vn (hv t ht).1 (hv u hu).1 he]),←Qw]
 show Fc _ F RVF1 ((0:Nat):Int)=_;rw [A4l (H7 l) (fun t ht=>hv t (Jb ht)) (by omega) F 0 RVF1 (by omega) (by omega) (by decide),List.drop_zero,J0,List.length_map];unfold A0n
 by_cases h1:(H7 l).length>1000
 ·rw [B0 (dT (by omega)),if_pos h1]
 ·rw [At (dF (by omega)),if_neg h1]
  by_cases h2:(RVF1++F1 (H7 l)).length>16777216
  ·rw [B0 (dT (by omega)),if_pos h2]
  ·rw [At (dF (by omega)),if_neg h2]
theorem A1h {F:Nat} (hF:200000≤F) {b c:List Int} {ts us:List volume_thing} {k k':Int} (hb:D8 F b=some (ts.map Ct,k,0)) (hc:D8 F c=some (us.map Ct,k',0)) (hv:∀t∈ts,okJ t) (hu:∀t∈us,okJ t) (hn:ts.length≤1000) (hm:us.length≤1000) :
  Ef F b c=some (A0n (H7 (ts++us))):=by
 obtain ⟨G,rfl⟩:∃G,F=G+3:=⟨F-3,by omega⟩;have h6:=fun (x:Int) k4 acc (ha:acc.length≤1000)=>A2l hF ts hv hn x k4 (ts.map Ct,k,0) rfl (G+3) 0 acc (by omega) (by omega) (by omega);have h6':=fun (x:Int) k4 acc (ha:acc.length≤1000)=>A2l hF us hu hm x k4 (us.map Ct,k',0) rfl (G+3) 0 acc (by omega) (by omega) (by omega);rw [Ef,Fe,Gq,B0 (dT (by omega)),Ei (i:=0) 0 b rfl rfl,hb,sbd];show (bif ((0:Int) != 0) then _ else Eg (G+3) 0 _ (ts.map Ct,k,0) (G+3) ((0:Nat):Int) [])=_;rw [At (by rfl),h6 _ _ _ (by simp),Gr,ckb (by omega),List.drop_zero,List.nil_append,Fe,Gq,B0 (dT (by omega)),Ei (i:=0+1) 1 c rfl rfl,hc,sbd];show (bif ((0:Int) != 0) then _ else Eg (G+3) (0+1) _ (us.map Ct,k',0) (G+3) ((0:Nat):Int) (ts.map en))=_;rw [At (by rfl),h6' _ _ _ (by simpa using hn),Gr,ckb (by omega),List.drop_zero,Fe,Gq,At (dF (by omega)),←List.map_append];exact A4k hF (ts++us) (fun t ht=>(List.mem_append.1 ht).elim (hv t) (hu t)) (by simp;omega)
end Go.Proofs.YtifbomimeodibaaGreat
namespace Go.Proofs.YtifbomimeodibaaGreat
open Go Go.RowKit Go.Eng
set_option maxRecDepth 10000
set_option linter.unusedVariables false
set_option linter.unusedSimpArgs false
def Hk (x:law12_Thing):Prop:=(0≤x.Kind∧x.Kind≤255)∧(0≤x.Time∧x.Time≤4294967295)∧((0≤x.Sides.1∧x.Sides.1≤255)∧(0≤x.Sides.2.1∧x.Sides.2.1≤255)∧(0≤x.Sides.2.2∧x.Sides.2.2≤255))∧∀n∈x.Numbers,-32768≤n∧n≤32767
theorem Lq (F:Nat) {x:law12_Thing} (hx:Hk x) {p1 p2:Int} (h1:0≤p1) (h2:1≤p2∧p2≤1000000):∃v,A9 F x p1 p2=some v∧0≤v∧v<p2:=by
 unfold A9
 by_cases h:x.Numbers.length=0
 ·rw [B0 (by simp [h])];exact ⟨0,rfl,by omega,by omega⟩
 ·have hm:=Int.emod_nonneg p1 (show ((x.Numbers.length:Nat):Int)≠0 by omega);have hm2:=Int.emod_lt_of_pos p1 (show (0:Int)<(x.Numbers.length:Nat) by omega);have hi:(p1%((x.Numbers.length:Nat):Int)).toNat<x.Numbers.length:=by omega
  have hn:=hx.2.2.2 _ (List.getElem_mem hi);rw [At (by simpa using h),Vf h1 (by omega),Ei (p1%((x.Numbers.length:Nat):Int)).toNat _ (by omega) (List.getElem?_eq_getElem hi),ckb (by omega)];generalize x.Numbers[(p1%((x.Numbers.length:Nat):Int)).toNat]=u at hn ⊢;have e:Ju u p2=some (u.tmod p2):=by unfold Ju;rw [if_neg (by omega)]
  have b1:-p2<u.tmod p2:=Int.lt_tmod_of_pos u (by omega);have b2:u.tmod p2<p2:=Int.tmod_lt_of_pos u (by omega);rw [e,sbd,ckb (by omega),Vf (by omega) (by omega)];exact ⟨_,rfl,Int.emod_nonneg _ (by omega),Int.emod_lt_of_pos _ (by omega)⟩
theorem Mk (F:Nat) {x:law12_Thing} (hx:Hk x) {i lo wide:Int} (h1:0≤i∧i≤1000000) (h2:-1000000≤lo∧lo≤1000000) (h3:1≤wide∧wide≤1000000) :
  ∃s,Am F x i lo wide=some s∧lo≤s.Lo∧s.Lo<lo+300∧s.Lo≤s.Hi∧s.Hi<s.Lo+wide:=by
 unfold Am;obtain ⟨a,ha,a1,a2⟩:=Lq F hx h1.1 (p2:=300) (by decide);obtain ⟨b,hb,b1,b2⟩:=Lq F hx (show 0≤i+1 by omega) h3;show ∃s,(A9 F x i 300).bind _=some s∧_;rw [ha,sbd,ckb (by omega),ckb (by omega)];show ∃s,(A9 F x (i+1) wide).bind _=some s∧_;rw [hb,sbd,ckb (by omega)];exact ⟨_,rfl,by simp only;omega,by simp only;omega,by simp only;omega,by simp only;omega⟩
theorem A40 (F:Nat) {x:law12_Thing} (hx:Hk x) {i:Int} (h1:0≤i∧i≤10000):∃e,F3 F x i=some e∧vEcho e:=by
 unfold F3;obtain ⟨k,hk,k1,k2⟩:=Lq F hx h1.1 (p2:=4) (by decide);show ∃s,(A9 F x i 4).bind _=some s∧_;rw [hk,sbd]
 by_cases c0:k=0
 ·obtain ⟨a,ha,a1,a2⟩:=Lq F hx (show 0≤i+1 by omega) (p2:=200) (by decide);rw [B0 (by simp [c0]),ckb (by omega)];show ∃s,(A9 F x (i+1) 200).bind _=some s∧_;rw [ha,sbd];have q1:Ku ⟨0,a⟩ 0 1073741824:=⟨Int.le_refl _,a1,by simp only;omega⟩;exact ⟨_,rfl,.inl ⟨rfl,q1,rfl,z00,z00,rfl,z00,z00,z00⟩⟩
 ·rw [At (by simp [c0])]
  by_cases c1:k=1
  ·obtain ⟨p,hp,p1,p2,p3,p4⟩:=Mk F hx (i:=i+1) (lo:=1) (wide:=1000) (by omega) (by decide) (by decide);obtain ⟨r,hr,r1,r2,r3,r4⟩:=Mk F hx (i:=i+3) (lo:=0) (wide:=50000) (by omega) (by decide) (by decide);obtain ⟨m,hm,m1,m2,m3,m4⟩:=Mk F hx (i:=i+2) (lo:=0) (wide:=500) (by omega) (by decide) (by decide);obtain ⟨s,hs,s1,s2⟩:=Lq F hx (show 0≤i+5 by omega) (p2:=65536) (by decide);rw [B0 (by simp [c1]),ckb (by omega)];show ∃s,(Am F x (i+1) 1 1000).bind _=some s∧_;rw [hp,sbd,ckb (by omega)];show ∃s,(Am F x (i+3) 0 50000).bind _=some s∧_;rw [hr,sbd,ckb (by omega)];show ∃s,(Am F x (i+2) 0 500).bind _=some s∧_;rw [hm,sbd,ckb (by omega)];show ∃s,(A9 F x (i+5) 65536).bind _=some s∧_;rw [hs,sbd];have q1:Ku p 0 1073741824:=⟨by omega,p3,by omega⟩;have q2:p.Lo>0:=by omega
   have q3:Ku r 0 1000000:=⟨r1,r3,by omega⟩;have q4:Ku m 0 1000:=⟨m1,m3,by omega⟩;have q5:inB s 0 65535:=⟨s1,by omega⟩;exact ⟨_,rfl,.inr ⟨.inl rfl,q1,q2,q3,q4,q5,fun _=>⟨z00,z00,z00⟩,fun h=>by cases h⟩⟩
  ·rw [At (by simp [c1])]
   by_cases c2:k=2
   ·obtain ⟨p,hp,p1,p2,p3,p4⟩:=Mk F hx (i:=i+1) (lo:=1) (wide:=1000) (by omega) (by decide) (by decide);obtain ⟨r,hr,r1,r2,r3,r4⟩:=Mk F hx (i:=i+3) (lo:=0) (wide:=50000) (by omega) (by decide) (by decide);obtain ⟨m,hm,m1,m2,m3,m4⟩:=Mk F hx (i:=i+2) (lo:=0) (wide:=500) (by omega) (by decide) (by decide);obtain ⟨s,hs,s1,s2⟩:=Lq F hx (show 0≤i+5 by omega) (p2:=3000) (by decide);obtain ⟨a,ha,a1,a2,a3,a4⟩:=Mk F hx (i:=i) (lo:=-200) (wide:=30000) (by omega) (by decide) (by decide);obtain ⟨b,hb,b1,b2,b3,b4⟩:=Mk F hx (i:=i+4) (lo:=-32768) (wide:=3) (by omega) (by decide) (by decide);obtain ⟨t,ht,t1,t2,t3,t4⟩:=Mk F hx (i:=i+1) (lo:=500) (wide:=40) (by omega) (by decide) (by decide);rw [B0 (by simp [c2]),ckb (by omega)];show ∃s,(Am F x (i+1) 1 1000).bind _=some s∧_;rw [hp,sbd,ckb (by omega)];show ∃s,(Am F x (i+3) 0 50000).bind _=some s∧_;rw [hr,sbd,ckb (by omega)];show ∃s,(Am F x (i+2) 0 500).bind _=some s∧_;rw [hm,sbd,ckb (by omega)];show ∃s,(A9 F x (i+5) 3000).bind _=some s∧_;rw [hs,sbd];show ∃s,(Am F x i (-200) 30000).bind _=some s∧_;rw [ha,sbd,ckb (by omega)];show ∃s,(Am F x (i+4) (-32768) 3).bind _=some s∧_;rw [hb,sbd,ckb (by omega)];show ∃s,(Am F x (i+1) 500 40).bind _=some s∧_;rw [ht,sbd];have q1:Ku p 0 1073741824:=⟨by omega,p3,by omega⟩;have q2:p.Lo>0:=by omega
    have q3:Ku r 0 1000000:=⟨r1,r3,by omega⟩;have q4:Ku m 0 1000:=⟨m1,m3,by omega⟩;have q5:inB s 0 65535:=⟨s1,by omega⟩;have q6:Hv a:=⟨by omega,by omega,a3,by omega⟩;have q7:Hv b:=⟨by omega,by omega,b3,by omega⟩;have q8:Hv t:=⟨by omega,by omega,t3,by omega⟩;exact ⟨_,rfl,.inr ⟨.inr rfl,q1,q2,q3,q4,q5,fun h=>(by cases h),fun _=>⟨q6,q7,q8⟩⟩⟩
   ·rw [At (by simp [c2])];exact ⟨_,rfl,.inl ⟨rfl,⟨by decide,by decide,by decide⟩,rfl,z00,z00,rfl,z00,z00,z00⟩⟩
theorem A59 (F:Nat) {x:law12_Thing} (hx:Hk x) (g:Int) (rows:List (List api_Echo)) (k:Int) (k5:List (List api_Echo)→Int→Option volume_Item) (hg:1≤g∧g≤4) (hk:0≤k∧k≤8) (hr:rows.length≤100):∀(m i:Nat) (acc:List api_Echo),g-i<m→(i:Int)≤g→acc.length=i→(∀e∈acc,vEcho e) →
  ∃row,Dw F x g rows k k5 m acc i=k5 (rows++[row]) (k+1)∧(row.length:Int)=g∧∀e∈row,vEcho e:=by
 intro m
 induction m with
 | zero=>intro i acc h1 h2;omega
 | succ m ih =>
  intro i acc h1 h2 h3 h4;rw [Dw,Gb]
  by_cases hb:(i:Int)<g
  ·have hm:k*g≤8*g:=Int.mul_le_mul_of_nonneg_right hk.2 (by omega);have hm0:0≤k*g:=Int.mul_nonneg hk.1 (by omega);obtain ⟨e,he,hv⟩:=A40 F hx (i:=(k*g+i)/2) (by omega);rw [B0 (dT hb),ckb (by omega),ckb (by omega),A4s (by omega)];show ∃row,(F3 F x ((k*g+i)/2)).bind _=_∧_;rw [he,sbd,M4 (by simp;omega) (by decide),ckb (by omega)];exact ih (i+1) (acc++[e]) (by omega) (by omega) (by simp;omega) (fun z hz=>by
    rcases List.mem_append.1 hz with hz|hz
    ·exact h4 z hz
    ·simp at hz;rw [hz];exact hv)
  ·rw [At (dF hb),Ge,M4 (by simp;omega) (by decide),Gd,ckb (by omega)];exact ⟨acc,rfl,by omega,h4⟩
theorem A41 (F:Nat) (hF:100≤F) {x:law12_Thing} (hx:Hk x) (u8:ByteArray) (x9 x1461 g x1466 x1469 y1471 y1473 x1476 y1478 n:Int) (hg:1≤g∧g≤4) (hn:0≤n∧n≤8):∀(m i:Nat) (rows:List (List api_Echo)),n-i<m→(i:Int)≤n→rows.length=i→(∀r∈rows,(r.length:Int)=g∧∀e∈r,vEcho e) →
  ∃all,D1 F x u8 x9 x1461 g x1466 x1469 y1471 y1473 x1476 y1478 n m rows i=Es u8 x9 x1461 g x1466 x1469 y1471 y1473 x1476 y1478 all∧(all.length:Int)=n∧∀r∈all,(r.length:Int)=g∧∀e∈r,vEcho e:=by
 intro m
 induction m with
 | zero=>intro i rows h1 h2;omega
 | succ m ih =>
  intro i rows h1 h2 h3 h4;rw [D1,Ga]
  by_cases hb:(i:Int)<n
  ·obtain ⟨row,hr,r1,r2⟩:=A59 F hx g rows i (D1 F x u8 x9 x1461 g x1466 x1469 y1471 y1473 x1476 y1478 n m) hg (by omega) (by omega) F 0 [] (by omega) (by omega) rfl (fun e he=>by cases he)
   rw [B0 (dT hb),show (0:Int)=((0:Nat):Int) from rfl,hr];exact ih (i+1) (rows++[row]) (by omega) (by omega) (by simp;omega) (fun z hz=>by
    rcases List.mem_append.1 hz with hz|hz
    ·exact h4 z hz
    ·simp at hz;rw [hz];exact ⟨r1,r2⟩)
  ·rw [At (dF hb)];exact ⟨rows,rfl,by omega,h4⟩
theorem A43 (F:Nat) {x:law12_Thing} (hx:Hk x) (u8:ByteArray) (x9 w h x2689 y2691 x2694 n:Int) (hn:0≤n∧n≤20):∀(m i:Nat) (acc:List api_Span),n-i<m→(i:Int)≤n→acc.length=i→(∀v∈acc,vVal v) →
  ∃all,Dm F x u8 x9 w h x2689 y2691 x2694 n m acc i=Et u8 x9 w h x2689 y2691 x2694 all∧(all.length:Int)=n∧∀v∈all,vVal v:=by
 intro m
 induction m with
 | zero=>intro i acc h1 h2;omega
 | succ m ih =>
  intro i acc h1 h2 h3 h4;rw [Dm,Fy]
  by_cases hb:(i:Int)<n
  ·obtain ⟨s,hs,s1,s2,s3,s4⟩:=Mk F hx (i:=(i:Int)/2) (lo:=0) (wide:=5+i) (by omega) (by decide) (by omega);rw [B0 (dT hb),A4s (by omega),ckb (by omega)];show ∃row,(Am F x ((i:Int)/2) 0 (5+i)).bind _=_∧_;rw [hs,sbd,M4 (by simp;omega) (by decide),ckb (by omega)];exact ih (i+1) (acc++[s]) (by omega) (by omega) (by simp;omega) (fun z hz=>by
    rcases List.mem_append.1 hz with hz|hz
    ·exact h4 z hz
    ·simp at hz;rw [hz];exact ⟨s1,s3,by omega⟩)
  ·rw [At (dF hb)];exact ⟨acc,rfl,by omega,h4⟩
theorem A42 (F:Nat) {x:law12_Thing} (hx:Hk x) (u8:ByteArray) (x9 n:Int) (hn:0≤n∧n≤200):∀(m i:Nat) (acc:List Int),n-i<m→(i:Int)≤n→acc.length=i→(∀c∈acc,32≤c∧c≤126) →
  ∃all,Dv F x u8 x9 n m acc i=Er x9 all∧(all.length:Int)=n∧∀c∈all,32≤c∧c≤126:=by
 intro m
 induction m with
 | zero=>intro i acc h1 h2;omega
 | succ m ih =>
  intro i acc h1 h2 h3 h4;rw [Dv,G9]
  by_cases hb:(i:Int)<n
  ·obtain ⟨c,hc,c1,c2⟩:=Lq F hx (p1:=i) (p2:=95) (by omega) (by decide);rw [B0 (dT hb)];show ∃row,(A9 F x i 95).bind _=_∧_;rw [hc,sbd,ckb (by omega),X0 (by omega),M4 (by simp;omega) (by decide),ckb (by omega)];exact ih (i+1) (acc++[32+c]) (by omega) (by omega) (by simp;omega) (fun z hz=>by
    rcases List.mem_append.1 hz with hz|hz
    ·exact h4 z hz
    ·simp at hz;omega)
  ·rw [At (dF hb)];exact ⟨acc,rfl,by omega,h4⟩
theorem A12 {F:Nat} (hF:1000≤F) {x:law12_Thing} (hx:Hk x):∃t,F4 F x=some (Ct t)∧okI t:=by
 have hx':=hx;obtain ⟨⟨k1,k2⟩,⟨t1,t2⟩,⟨⟨a1,a2⟩,⟨b1,b2⟩,⟨c1,c2⟩⟩,_⟩:=hx';obtain ⟨v,hv,v1,v2⟩:=Lq F hx (p1:=0) (p2:=3) (by decide) (by decide);obtain ⟨nm,hnm⟩:∃nm,names[v.toNat]? = some nm:=⟨_,List.getElem?_eq_getElem (show v.toNat<names.length by simp [names];omega)⟩;obtain ⟨hn1,hn2⟩:=A0e nm (List.mem_of_getElem? hnm);unfold F4;show ∃t,(A9 F x 0 3).bind _=_∧_;rw [hv,sbd,show ([(⟨#[97]⟩:ByteArray),(⟨#[98,95,49]⟩:ByteArray),(⟨#[122,122,122,122,122,122,122,122,122,122,122,122]⟩:ByteArray)])=names from rfl,Ei v.toNat nm (by omega) hnm,ckb (by omega),Vf k1 (by decide)];have htime:inB x.Time 0 4294967296:=⟨t1,by omega⟩
 by_cases hk0:x.Kind%3=0
 ·obtain ⟨X,hX,X1,X2⟩:=Lq F hx (p1:=1) (p2:=2000) (by decide) (by decide);obtain ⟨Y,hY,Y1,Y2⟩:=Lq F hx (p1:=2) (p2:=900) (by decide) (by decide);obtain ⟨Z,hZ,Z1,Z2⟩:=Lq F hx (p1:=3) (p2:=20001) (by decide) (by decide);obtain ⟨S,hS,S1,S2⟩:=Lq F hx (p1:=4) (p2:=1951) (by decide) (by decide);obtain ⟨T,hT,T1,T2⟩:=Lq F hx (p1:=5) (p2:=257) (by decide) (by decide);rw [B0 (by simp [hk0]),ckb (by omega),Vf a1 (by decide),ckb (by omega),ckb (by omega),Vf b1 (by decide),ckb (by omega),ckb (by omega),Vf c1 (by decide)];show ∃t,(A9 F x 1 2000).bind _=_∧_;rw [hX,sbd,ckb (by omega)];show ∃t,(A9 F x 2 900).bind _=_∧_;rw [hY,sbd];show ∃t,(A9 F x 3 20001).bind _=_∧_;rw [hZ,sbd];show ∃t,(A9 F x 4 1951).bind _=_∧_;rw [hS,sbd,ckb (by omega)];show ∃t,(A9 F x 5 257).bind _=_∧_;rw [hT,sbd,ckb (by omega)];obtain ⟨all,ha,l1,l2⟩:=A41 F (by omega) hx nm x.Time (1+x.Sides.1%2) (1+x.Sides.2.1%4) (x.Sides.2.2%9) (X-1000) Y Z (50+S) T (4*(1+x.Sides.1%2)) (by omega) (by omega) F 0 [] (by omega) (by omega) rfl (fun r hr=>by cases hr)
  rw [show (0:Int)=((0:Nat):Int) from rfl,ha,Es,A2n (by omega)];have q1:inB (X-1000) (-1048576) 1048576:=⟨by omega,by omega⟩;have q2:inB (-Y) (-1048576) 1048576:=⟨by omega,by omega⟩;have q3:inB Z 0 20000:=⟨by omega,by omega⟩;have q4:inB (1+x.Sides.1%2) 1 90:=⟨by omega,by omega⟩;have q5:inB (1+x.Sides.2.1%4) 1 200:=⟨by omega,by omega⟩;have q6:inB (50+S) 50 2000:=⟨by omega,by omega⟩;have q7:inB (x.Sides.2.2%9) 0 8:=⟨by omega,by omega⟩;have q8:inB T 0 256:=⟨by omega,by omega⟩;have hlen:all.flatten.length≤32:=by
   rw [Y5 (n:=(1+x.Sides.2.1%4).toNat) (fun r hr=>by have:=(l2 r hr).1;omega)];have h8:all.length≤8:=by omega
   have h4:(1+x.Sides.2.1%4).toNat≤4:=by omega
   exact Nat.mul_le_mul h8 h4
  exact ⟨.ic156 ⟨⟨⟨nm,X-1000,-Y,Z,1+x.Sides.1%2,1+x.Sides.2.1%4,50+S,x.Sides.2.2%9⟩,T,x.Time,all⟩⟩,rfl,okI.of ⟨⟨hn1,q1,q2,q3,q4,q5,q6,q7⟩,q8,htime,l1,fun r hr=>(l2 r hr).1,fun r hr=>(l2 r hr).2⟩ hn2 hlen⟩
 ·rw [At (by simp [hk0])]
  by_cases hk1:x.Kind%3=1
  ·obtain ⟨X,hX,X1,X2⟩:=Lq F hx (p1:=1) (p2:=2000) (by decide) (by decide);obtain ⟨Y,hY,Y1,Y2⟩:=Lq F hx (p1:=2) (p2:=900) (by decide) (by decide);obtain ⟨Z,hZ,Z1,Z2⟩:=Lq F hx (p1:=3) (p2:=10000) (by decide) (by decide);have hm:(1+x.Sides.1%5)*(1+x.Sides.2.1%4)≤5*(1+x.Sides.2.1%4):=Int.mul_le_mul_of_nonneg_right (by omega) (by omega);have hm0:0≤(1+x.Sides.1%5)*(1+x.Sides.2.1%4):=Int.mul_nonneg (by omega) (by omega);rw [B0 (by simp [hk1]),ckb (by omega),Vf a1 (by decide),ckb (by omega),ckb (by omega),Vf b1 (by decide),ckb (by omega)];show ∃t,(A9 F x 1 2000).bind _=_∧_;rw [hX,sbd,ckb (by omega)];show ∃t,(A9 F x 2 900).bind _=_∧_;rw [hY,sbd];show ∃t,(A9 F x 3 10000).bind _=_∧_;rw [hZ,sbd,ckb (by omega),ckb (by omega)];obtain ⟨all,ha,l1,l2⟩:=A43 F hx nm x.Time (1+x.Sides.1%5) (1+x.Sides.2.1%4) (X-1000) Y (1+Z) ((1+x.Sides.1%5)*(1+x.Sides.2.1%4)) ⟨hm0,by omega⟩ F 0 [] (by omega) (by omega) rfl (fun r hr=>by cases hr)
   rw [show (0:Int)=((0:Nat):Int) from rfl,ha,Et,A2n (by omega)];have q1:inB (X-1000) (-1048576) 1048576:=⟨by omega,by omega⟩;have q2:inB (-Y) (-1048576) 1048576:=⟨by omega,by omega⟩;have q3:inB (1+Z) 1 10000:=⟨by omega,by omega⟩;have q4:inB (1+x.Sides.1%5) 1 64:=⟨by omega,by omega⟩;have q5:inB (1+x.Sides.2.1%4) 1 64:=⟨by omega,by omega⟩;exact ⟨.ic158 ⟨nm,x.Time,⟨⟨X-1000,-Y,1+Z,1+x.Sides.1%5,1+x.Sides.2.1%4⟩,all⟩⟩,rfl,okI.of ⟨hn1,htime,⟨q1,q2,q3,q4,q5⟩,l1,l2⟩ hn2 (show all.length≤32 by omega)⟩
  ·rw [At (by simp [hk1]),Gc,ckb (by omega),Vf a1 (by decide)];obtain ⟨all,ha,l1,l2⟩:=A42 F hx nm x.Time (x.Sides.1%201) (by omega) F 0 [] (by omega) (by omega) rfl (fun r hr=>by cases hr)
   rw [show (0:Int)=((0:Nat):Int) from rfl,ha,Er];have hby:By all:=fun c hc=>by have:=l2 c hc;omega
   have hsz:(bst all).size≤200:=by rw [←K7,Rf hby];omega
   exact ⟨.ic160 ⟨x.Time,bst all⟩,rfl,okI.of ⟨htime,hsz,by rw [Rf hby];exact l2⟩ (show Nz (sby (bst all)) by rw [Rf hby];intro c hc;have:=l2 c hc;omega) (Nat.zero_le _)⟩
theorem Zo {F:Nat} (hF:1000≤F) {l:List law12_Thing} (hl:∀x∈l,Hk x) (h8:l.length≤8):∀(m i:Nat) (ts:List volume_thing),l.length-i<m→i≤l.length→ts.length=i→(∀t∈ts,okI t) →
  ∃ts':List volume_thing,J5 F l m i (ts.map Ct)=some (ts'.map Ct,true)∧ts'.length=l.length∧∀t∈ts',okI t:=by
 intro m
 induction m with
 | zero=>intro i ts h;omega
 | succ m ih =>
  intro i ts h hi ht hok;rw [J5,Lt]
  by_cases hb:i<l.length
  ·obtain ⟨t,h1,h2⟩:=A12 hF (hl l[i] (List.getElem_mem hb));rw [B0 (dT (by omega)),Ei i l[i] rfl (List.getElem?_eq_getElem hb)];show ∃ts':List volume_thing,(F4 F l[i]).bind _=_∧_;rw [h1,sbd,M4 (by simp;omega) (by decide),ckb (by omega)];have:=ih (i+1) (ts++[t]) (by omega) (by omega) (by simp;omega) (fun z hz=>by
    rcases List.mem_append.1 hz with hz|hz
    ·exact hok z hz
    ·simp at hz;rw [hz];exact h2)
   rw [List.map_append] at this;exact this
  ·rw [At (dF (by omega)),Lu];exact ⟨ts,rfl,by omega,hok⟩
theorem A2x {F:Nat} (hF:1000≤F) {l:List law12_Thing} (hl:∀x∈l,Hk x):(He F l=some ([],false)∧l.length>8)∨∃ts:List volume_thing,He F l=some (ts.map Ct,true)∧ts.length=l.length∧l.length≤8∧∀t∈ts,okI t:=by
 unfold He
 by_cases h:l.length>8
 ·rw [B0 (dT (by omega))];exact .inl ⟨rfl,h⟩
 ·rw [At (dF (by omega))];obtain ⟨ts,h1,h2,h3⟩:=Zo hF hl (by omega) F 0 [] (by omega) (by omega) rfl (fun t ht=>by cases ht)
  exact .inr ⟨ts,h1,h2,by omega,h3⟩
end Go.Proofs.YtifbomimeodibaaGreat
namespace Go.Proofs.YtifbomimeodibaaGreat
open Go Go.RowKit Go.Eng
set_option maxRecDepth 10000
set_option linter.unusedVariables false
set_option linter.unusedSimpArgs false
theorem Vq (l:List volume_thing):(H7 l).Pairwise fun a b=>Cs (en a) (en b)<0:=by
 have:=Qv (l.map en);rw [←Qw] at this;exact List.pairwise_map.1 this
theorem A1d {a b:volume_thing} (h:Cs (en a) (en b)<0):Pk a≤Pk b:=by
 unfold Cs at h
 split at h
 ·rename_i he
  exact Int.le_of_eq he
 ·have:(en a).time=Pk a:=rfl;have:(en b).time=Pk b:=rfl;omega
theorem A0b {a b:volume_thing} (ha:vT a) (hb:vT b) (h:Ct a=Ct b):a=b:=by
 rw [←Su ha.nn,h,Su hb.nn]
theorem Ur {t:volume_thing} (h:vT t):E4 (Ct t)=Pk t:=by
 cases t with
 | nil_=>exact h.elim
 | ic156 s=>rfl
 | ic158 f=>rfl
 | ic160 n=>rfl
theorem W8 {l:List volume_thing} (hv:∀t∈l,vT t):((H7 l).map Ct).Nodup:=by
 refine List.pairwise_map.2 ((Vq l).imp_of_mem fun {a b} ha hb h he=>?_);have:=A0b (hv a (Jb ha)) (hv b (Jb hb)) he;rw [this,N6] at h;omega
theorem A0m {F:Nat} (hF:6000≤F) (t:volume_Item) (ht:V5 t) (l:List volume_Item) (h9:l.length≤1000000):∀(m i:Nat),l.length-i<m→i≤l.length→J6 F t l m i=some (decide (t∈l.drop i)):=by
 intro m
 induction m with
 | zero=>intro i h;omega
 | succ m ih =>
  intro i h hi;rw [J6,Lv]
  by_cases hb:i<l.length
  ·rw [B0 (dT (by omega)),Ei i l[i] rfl (List.getElem?_eq_getElem hb),A2k hF _ _ ht,sbd,List.drop_eq_getElem_cons hb]
   by_cases he:t=l[i]
   ·rw [B0 (dT he),dT (by rw [←he];simp)]
   ·rw [At (dF he),ckb (by omega),show ((i:Int)+1)=((i+1:Nat):Int) by omega,ih (i+1) (by omega) (by omega)]
    congr 1
    rw [Bool.eq_iff_iff,decide_eq_true_eq,decide_eq_true_eq,List.mem_cons];exact ⟨.inr,fun h=>h.resolve_left he⟩
  ·rw [At (dF (by omega)),Lw,List.drop_of_length_le (by omega),dF (by simp)]
theorem Xi {F:Nat} (hF:6000≤F) (t:volume_Item) (ht:V5 t) (l:List volume_Item) (h9:l.length<1000):F5 F t l=some (decide (t∈l)):=by
 have:=A0m hF t ht l (by omega) F 0 (by omega) (by omega);rw [List.drop_zero] at this;exact this
theorem Zy {F:Nat} (hF:6000≤F) (y14 y22:List volume_Item×Bool) (y82:List volume_Item×Int×Int) (x:Int) (k4:Int→Option Bool) (u:volume_Item) (hu:V5 u) (h9:y82.1.length≤1000000):∀(m i n:Nat),y82.1.length-i<m→i≤y82.1.length→n≤i →
  Dd F y14 y22 y82 x k4 u m i n=Da F y14 y22 y82 x k4 u ((n+(y82.1.drop i).count u:Nat):Int):=by
 intro m
 induction m with
 | zero=>intro i n h;omega
 | succ m ih =>
  intro i n h hi hn;rw [Dd,Fm]
  by_cases hb:i<y82.1.length
  ·rw [B0 (dT (by omega)),Ei i y82.1[i] rfl (List.getElem?_eq_getElem hb),A2k hF _ _ hu,sbd,List.drop_eq_getElem_cons hb,List.count_cons]
   by_cases he:u=y82.1[i]
   ·rw [B0 (dT he),ckb (by omega),Db,ckb (by omega),show ((i:Int)+1)=((i+1:Nat):Int) by omega,show ((n:Int)+1)=((n+1:Nat):Int) by omega,ih (i+1) (n+1) (by omega) (by omega) (by omega),if_pos (by rw [←he];simp)]
    congr 1
    omega
   ·rw [At (dF he),Db,ckb (by omega),show ((i:Int)+1)=((i+1:Nat):Int) by omega,ih (i+1) n (by omega) (by omega) (by omega),if_neg (by simpa using Ne.symm he)];rfl
  ·rw [At (dF (by omega)),List.drop_of_length_le (by omega),List.count_nil];rfl
theorem A1k {F:Nat} (hF:6000≤F) (xs ys:List volume_Item) (y82:List volume_Item×Int×Int) (i:Nat) (k4:Int→Option Bool) (u:volume_Item) (hu:V5 u) (hx:xs.length<1000) (hy:ys.length<1000) (hm:u∈xs∨u∈ys) (hi:i<1000) (hw:∀(j:Nat),i=j+1→∃v,y82.1[j]? = some v∧E4 v≤E4 u) :
  Da F (xs,true) (ys,true) y82 i k4 u 1=Ch i k4:=by
 have h1:=Xi hF u hu xs hx;have h2:=Xi hF u hu ys hy;have hpq:decide (u∈xs)=false→decide (u∈ys)=true:=fun h=>dT (hm.resolve_left (of_decide_eq_false h));rw [Da];show (bif _ then (gd true (F5 F u xs) default).bind _ else (gd true (F5 F u xs) default).bind _)=_;rw [h1,gdT rfl,sbd,sbd];generalize decide (u∈xs)=P at *
 cases i with
 | zero =>
  rw [At (by rfl)]
  cases P with
  | true=>rfl
  | false =>
   have hq:=hpq rfl;rw [hq] at h2;show (gd true (F5 F u ys) default).bind _=_;rw [h2];rfl
 | succ j =>
  obtain ⟨v,hv1,hv2⟩:=hw j rfl;have hgt:decide ((((j+1:Nat):Int))>0)=true:=dT (by omega);have hnl:decide (E4 u<E4 v)=false:=dF (by omega);rw [hgt,B0 rfl]
  cases P with
  | true =>
   show (gd false (F5 F u ys) default).bind _=_;rw [gdF rfl,sbd];show (gd true (ck (((j+1:Nat):Int)-1)) 0).bind _=_;rw [gdT rfl,ckb (by omega),At (by rfl),Ei j v (by omega) hv1,hnl,At (by rfl)]
  | false =>
   have hq:=hpq rfl;rw [hq] at h2;show (gd true (F5 F u ys) default).bind _=_;rw [h2,gdT rfl,sbd];show (gd true (ck (((j+1:Nat):Int)-1)) 0).bind _=_;rw [gdT rfl,ckb (by omega),At (by rfl),Ei j v (by omega) hv1,hnl,At (by rfl)]
theorem A1j {F:Nat} (hF:6000≤F) (xs ys:List volume_Item) (l:List volume_Item) (k e:Int) (hl:l.length<1000) (hx:xs.length<1000) (hy:ys.length<1000) (hc:∀u∈l,V5 u) (hd:l.Nodup) (hm:∀u∈l,u∈xs∨u∈ys) (hw:l.Pairwise fun a b=>E4 a≤E4 b):∀(m i:Nat),l.length-i<m→i≤l.length →
  Ci F (xs,true) (ys,true) (l,k,e) m i=E3 F (xs,true) (ys,true) (l,k,e):=by
 intro m
 induction m with
 | zero=>intro i h;omega
 | succ m ih =>
  intro i h hi;rw [Ci,Fl]
  by_cases hb:i<l.length
  ·have hu:=List.getElem_mem hb;rw [B0 (dT (by simp only;omega)),Ei i l[i] rfl (List.getElem?_eq_getElem hb)];have h7:=Zy hF (xs,true) (ys,true) (l,k,e) i (Ci F (xs,true) (ys,true) (l,k,e) m) l[i] (hc _ hu) (by simp only;omega) F 0 0 (by simp only;omega) (by omega) (by omega);rw [List.drop_zero,hd.count,if_pos hu] at h7;refine Eq.trans h7 ?_;refine Eq.trans (A1k hF xs ys (l,k,e) i _ l[i] (hc _ hu) hx hy (hm _ hu) (by omega) fun j hj=>?_) ?_
   ·subst hj;exact ⟨l[j],List.getElem?_eq_getElem (show j<l.length by omega),List.pairwise_iff_getElem.1 hw j (j+1) (by omega) hb (by omega)⟩
   ·rw [Ch,ckb (by omega),show ((i:Int)+1)=((i+1:Nat):Int) by omega];exact ih (i+1) (by omega) (by omega)
  ·rw [At (dF (by simp only;omega))]
theorem A1i {F:Nat} (hF:6000≤F) (hW:Ht F=some true) (y82:List volume_Item×Int×Int) (l:List volume_Item) (hl:l.length<1000) (hy:y82.1.length<1000) (hc:∀u∈l,V5 u) (hm:∀u∈l,u∈y82.1):∀(m i:Nat),l.length-i<m→i≤l.length →
  Dc F y82 l m i=some true:=by
 intro m
 induction m with
 | zero=>intro i h;omega
 | succ m ih =>
  intro i h hi;rw [Dc,Fk]
  by_cases hb:i<l.length
  ·have hu:=List.getElem_mem hb;rw [B0 (dT (by omega)),Ei i l[i] rfl (List.getElem?_eq_getElem hb),Xi hF _ (hc _ hu) _ hy,sbd,dT (hm _ hu),At (by rfl),ckb (by omega),show ((i:Int)+1)=((i+1:Nat):Int) by omega];exact ih (i+1) (by omega) (by omega)
  ·rw [At (dF (by omega)),Fo,hW];rfl
theorem Xm {F:Nat} (hF:200000≤F) {ts:List volume_thing} (h:∀t∈ts,okI t) (hn:ts.length≤24):D8 F (RVF1++F1 ts)=some (ts.map Ct,((4+(F1 ts).length:Nat):Int),0):=by
 have hl:=R2 h;unfold F1 at hl ⊢;rw [A1v hF (okI.nz h) (by omega) (by omega) (by simp;omega),A3q _ (fun t ht=>(h t ht).1)]
theorem Xj {c:List volume_thing} (h:∀t∈c,okI t) (hn:c.length≤24):A0n c=(RVF1++F1 c,0):=by
 have hl:=R2 h;have e4:RVF1.length=4:=rfl;unfold A0n;rw [if_neg (by omega),if_neg (by rw [List.length_append];omega)]
theorem Rr {F:Nat} (hF:200000≤F) {ts us:List volume_thing} (h:∀t∈ts,okI t) (g:∀t∈us,okI t) (hn:ts.length≤24) (hm:us.length≤24) (hc:(H7 (ts++us)).length≤24):Ef F (RVF1++F1 ts) (RVF1++F1 us)=some (RVF1++F1 (H7 (ts++us)),0):=by
 rw [A1h hF (Xm hF h hn) (Xm hF g hm) (fun t ht=>⟨(h t ht).1,(h t ht).2.2⟩) (fun t ht=>⟨(g t ht).1,(g t ht).2.2⟩) (by omega) (by omega),Xj (fun t ht=>(List.mem_append.1 (Jb ht)).elim (h t) (g t)) hc]
theorem Sh (p q r:List law12_Thing) (hp:∀x∈p,Hk x) (hq:∀x∈q,Hk x) (hr:∀x∈r,Hk x):F9 FV p q r=some true:=by
 have hF:200000≤FV:=Nat.le_refl _;rw [F9];have hA:∀{l:List law12_Thing},(∀x∈l,Hk x)→(∃y,He FV l=some (y,false))∨∃ts:List volume_thing,He FV l=some (ts.map Ct,true)∧ts.length≤8∧∀t∈ts,okI t:=fun {l} hl=>by
  rcases A2x (F:=FV) (by decide) hl with ⟨h1,h2⟩|⟨ts,h1,h2,h3,h4⟩
  ·exact .inl ⟨_,h1⟩
  ·exact .inr ⟨ts,h1,by omega,h4⟩
 have hW:∀{y14 y22 y30:List volume_Item×Bool} {z:Option Bool},y14.2=false∨y22.2=false∨y30.2=false→(bif (bif (bif (!y14.2) then true else (!y22.2)) then true else (!y30.2)) then ((Ht FV).bind fun y37=>some y37) else z)=some true:=fun {y14 y22 y30 z} h=>by
  rw [B0 (by
   rcases h with h|h|h<;>rw [h]
   ·rfl
   ·cases y14.2<;>rfl
   ·cases y14.2<;>cases y22.2<;>rfl),Wz]
  rfl
 rcases hA hp with ⟨y,h1⟩|⟨x,h1,x8,hx⟩
 ·rcases hA hq with ⟨y',h2⟩|⟨ts',h2,-⟩<;>rcases hA hr with ⟨y'',h3⟩|⟨ts'',h3,-⟩<;>· rw [h1,sbd,h2,sbd,h3,sbd];exact hW (.inl rfl)
 rcases hA hq with ⟨y',h2⟩|⟨y,h2,y8,hy⟩
 ·rcases hA hr with ⟨y'',h3⟩|⟨ts'',h3,-⟩<;>· rw [h1,sbd,h2,sbd,h3,sbd];exact hW (.inr (.inl rfl))
 rcases hA hr with ⟨y'',h3⟩|⟨z,h3,z8,hz⟩
 ·rw [h1,sbd,h2,sbd,h3,sbd];exact hW (.inr (.inr rfl))
 have hxv:∀t∈x,vT t:=fun t ht=>(hx t ht).1;have hyv:∀t∈y,vT t:=fun t ht=>(hy t ht).1;have hzv:∀t∈z,vT t:=fun t ht=>(hz t ht).1;have app:∀{P:volume_thing→Prop} {a b:List volume_thing},(∀t∈a,P t)→(∀t∈b,P t)→∀t∈a++b,P t:=fun ha hb t ht=>(List.mem_append.1 ht).elim (ha t) (hb t);have can:∀{P:volume_thing→Prop} {a:List volume_thing},(∀t∈a,P t)→∀t∈H7 a,P t:=fun ha t ht=>ha t (Jb ht);have hxy:=app hx hy;have hyz:=app hy hz;have vxy:=app hxv hyv;have vyz:=app hyv hzv;have l1:=Mm (x++y);have l2:=Mm (y++z);have l3:=Mm (y++x);have l4:=Mm (H7 (x++y)++z);have l5:=Mm (x++H7 (y++z));rw [List.length_append] at l1 l2 l3 l4 l5;have e1:H7 (y++x)=H7 (x++y):=V4 (app hyv hxv) vxy fun t=>by simp [or_comm]
 have e2:H7 (x++H7 (y++z))=H7 (H7 (x++y)++z):=V4 (app hxv (can vyz)) (app (can vxy) hzv) fun t=>by simp [Qx vxy,Qx vyz,or_assoc]
 have hL:=can (app (can hxy) hz);have vL:∀t∈H7 (H7 (x++y)++z),vT t:=fun t ht=>(hL t ht).1;have e3:H7 (H7 (H7 (x++y)++z)++H7 (H7 (x++y)++z))=H7 (H7 (x++y)++z):=V4 (app vL vL) (app (can vxy) hzv) fun t=>by rw [List.mem_append,or_self];exact Qx (app (can vxy) hzv) t
 have lxy:(H7 (x++y)).length≤24:=by omega
 have lL:(H7 (H7 (x++y)++z)).length≤24:=by omega
 have hfl:∀{c:List volume_thing},(∀t∈c,okI t)→c.length≤24→(RVF1++F1 c).length<FV:=fun {c} hc h24=>by
  have:=R2 hc;have e4:RVF1.length=4:=rfl;rw [List.length_append];have:FV=200000:=rfl;omega
 have hby:∀{c:List volume_thing},(∀t∈c,okI t)→c.length≤24→F2 FV (RVF1++F1 c) (RVF1++F1 c)=some true:=fun {c} hc h24=>by
  have:=hfl hc h24;have:FV=200000:=rfl;rw [Zt (hfl hc h24) (by omega),dT rfl]
 rw [h1,sbd,h2,sbd,h3,sbd,At (by rfl),S4 hF hx (by omega),sbd,S4 hF hy (by omega),sbd,S4 hF hz (by omega),sbd,At (by rfl),
  Rr hF hx hy (by omega) (by omega) lxy,sbd,Rr hF hy hx (by omega) (by omega) (by omega),sbd,Rr hF hy hz (by omega) (by omega) (by omega),sbd,e1,
  Rr hF (can hxy) hz lxy (by omega) lL,sbd,Rr hF hx (can hyz) (by omega) (by omega) (by omega),sbd,e2,Rr hF hL hL lL lL (by rw [e3];exact lL),sbd,e3,
  hby (can hxy) lxy,gdT (by rfl),sbd,hby hL lL,gdT (by rfl),sbd,gdT (by rfl),sbd,At (by rfl),Xm hF (can hxy) lxy,sbd,gdT (by rfl),ckb (by simp only [List.length_map];omega),At (by
   rw [dF (by simp only [List.length_map];omega)];rfl)]
 have hcm:∀{c:List volume_thing},(∀t∈c,vT t)→∀u∈c.map Ct,V5 u:=fun {c} hc u hu=>by
  obtain ⟨t,ht,rfl⟩:=List.mem_map.1 hu;exact (hc t ht).cmp
 refine Eq.trans (A1j (by omega) (x.map Ct) (y.map Ct) _ _ _ (by rw [List.length_map];omega) (by rw [List.length_map];omega) (by rw [List.length_map];omega) (hcm (can vxy)) (W8 vxy) (fun u hu=>?_) (List.pairwise_map.2 ((Vq (x++y)).imp_of_mem fun {a b} ha hb h=>?_)) FV 0 (by rw [List.length_map];have:FV=200000:=rfl;omega) (by omega)) ?_
 ·obtain ⟨t,ht,rfl⟩:=List.mem_map.1 hu;exact (List.mem_append.1 (Jb ht)).imp List.mem_map_of_mem List.mem_map_of_mem
 ·rw [Ur (can vxy a ha),Ur (can vxy b hb)];exact A1d h
 ·rw [E3,M4 (by simp;omega) (by decide),M4 (by simp;omega) (by decide),List.nil_append,←List.map_append];refine A1i (by omega) Wz _ _ (by rw [List.length_map,List.length_append];omega) (by simp only [List.length_map];omega) (hcm vxy) (fun u hu=>?_) FV 0 (by rw [List.length_map,List.length_append];have:FV=200000:=rfl;omega) (by omega);obtain ⟨t,ht,rfl⟩:=List.mem_map.1 hu;exact List.mem_map_of_mem ((Qx vxy t).2 ht)
end Go.Proofs.YtifbomimeodibaaGreat
