import Derived.Test.YtifbomimeodibaaGreatV7XD
import Derived.Shelf.SlSortCmp.Insertion
import Derived.Lib.DecodeN
set_option linter.unusedVariables false
set_option linter.unusedSimpArgs false
set_option linter.unusedSectionVars false
namespace Go.Proofs.YtifbomimeodibaaGreat
open Go Go.RowKit Go.Eng
set_option maxRecDepth 10000
set_option linter.unusedVariables false
set_option linter.unusedSimpArgs false
theorem ckb {β:Type} {x:Int} {f:Int→Option β} (h:-9000000000000000000≤x∧x≤9000000000000000000):(ck x).bind f=f x:=by
 unfold ck;rw [if_pos (by omega)];rfl
theorem gdT {α:Type} {g:Bool} {o:Option α} {d:α} (h:g=true):gd g o d=o:=by subst h;rfl
theorem gdF {α:Type} {g:Bool} {o:Option α} {d:α} (h:g=false):gd g o d=some d:=by subst h;rfl
theorem Aq {α:Type} {c:Bool} {x y:α} (h:c=true):(bif c then x else y)=x:=by rw [h];rfl
theorem Ao {α:Type} {c:Bool} {x y:α} (h:c=false):(bif c then x else y)=y:=by rw [h];rfl
theorem sbd {α β:Type} {x:α} {f:α→Option β}:(some x).bind f=f x:=rfl
theorem dT {p:Prop} [Decidable p] (h:p):decide p=true:=decide_eq_true h
theorem dF {p:Prop} [Decidable p] (h:¬p):decide p=false:=decide_eq_false h
theorem E4 {α β:Type} {l:List α} {i:Int} {f:α→Option β} (n:Nat) (x:α) (hi:i=(n:Int)) (h:l[n]? = some x):(Bh l i).bind f=f x:=by
 subst hi;unfold Bh;rw [if_pos (by omega),show ((n:Int)).toNat=n by omega,h];rfl
theorem Gq {α β:Type} {l k:List α} {B:Nat} {f:List α→Option β} (h:(l.length+k.length)*B≤140737488355328) (hB:1≤B):(apd B l k).bind f=f (l++k):=by
 unfold apd;have:l.length+k.length≤(l.length+k.length)*B:=Nat.le_mul_of_pos_right _ hB;rw [if_pos ⟨h,by omega⟩];rfl
theorem A3x {α β:Type} {l:List α} {i j:Int} {f:List α→Option β} (m n:Nat) (hi:i=(m:Int)) (hj:j=(n:Int)) (h:m≤n∧n≤l.length):(H0 l i j).bind f=f ((l.drop m).take (n-m)):=by
 subst hi;subst hj;unfold H0;rw [if_pos (by omega)];rfl
theorem Q5 {α β:Type} {l:List α} {i j:Int} {f:List α→Option β} (n:Nat) (hi:i=0) (hj:j=(n:Int)) (h:n≤l.length):(H0 l i j).bind f=f (l.take n):=by
 rw [A3x 0 n hi hj ⟨Nat.zero_le _,h⟩];simp
theorem Jt {α β:Type} {l:List α} {i j:Int} {f:List α→Option β} (m:Nat) (hi:i=(m:Int)) (hj:j=(l.length:Int)) (h:m≤l.length):(H0 l i j).bind f=f (l.drop m):=by
 rw [A3x m l.length hi hj ⟨h,Nat.le_refl _⟩,List.take_of_length_le (by simp)]
def FV:Nat:=200000
def By (l:List Int):Prop:=∀x∈l,0≤x∧x<256
theorem By.app {l k:List Int} (h:By l) (h':By k):By (l++k):=fun x hx=>(List.mem_append.1 hx).elim (h x) (h' x)
theorem Xc {x:Int} (h:0≤x∧x<256):IntKind.u8.wrap x=x:=by
 have:=h.1;have:=h.2;simp only [IntKind.wrap,IntKind.signed,IntKind.bits];simp;omega
def E0 (n:Nat):List Int:=if h:n<127 then [(n:Int)+1] else (128+((n%127:Nat):Int))::E0 (n/127)
termination_by n
theorem R8 {n:Nat} (h:n<127):E0 n=[(n:Int)+1]:=by rw [E0,dif_pos h]
theorem U9 {n:Nat} (h:127≤n):E0 n=(128+((n%127:Nat):Int))::E0 (n/127):=by rw [E0,dif_neg (by omega)]
theorem A1c:∀(k n:Nat),n<127 ^ (k+1)→(E0 n).length≤k+1:=by
 intro k
 induction k with
 | zero=>intro n h;rw [R8 (by simpa using h)];simp
 | succ k ih =>
  intro n h
  by_cases hn:n<127
  ·rw [R8 hn];simp
  ·rw [U9 (by omega),List.length_cons];have:=ih (n/127) (Nat.div_lt_of_lt_mul (by rw [Nat.pow_succ] at h;omega));omega
theorem A3e (n:Nat):∀x∈E0 n,1≤x∧x<255:=by
 induction n using Nat.strongRecOn with
 | _ n ih =>
  intro x hx
  by_cases hn:n<127
  ·rw [R8 hn] at hx;simp at hx;omega
  ·rw [U9 (by omega)] at hx;rcases List.mem_cons.1 hx with rfl|hx
   ·have:=Nat.mod_lt n (show 0<127 by decide);omega
   ·exact ih (n/127) (Nat.div_lt_self (by omega) (by decide)) x hx
theorem tdm (n:Nat):Qq (n:Int) 127=some ((n%127:Nat):Int)∧Pn (n:Int) 127=ck ((n/127:Nat):Int):=by
 unfold Qq Pn;rw [if_neg (by decide),if_neg (by decide)];exact ⟨by congr 1,by congr 1⟩
theorem B0e (x307:Int) (k1:List Int→Int→Option volume_writer) (h0:0≤x307∧x307≤1000000000000):∀(F k n:Nat) (l:List Int),n<127 ^ (k+1)→k<10→k<F→n≤4611686018427387904→l.length+k≤1000000000000 →
  Dh x307 k1 F l n=k1 (l++E0 n) (x307+1):=by
 intro F
 induction F with
 | zero=>intro k n l h hk hF;omega
 | succ F ih =>
  intro k n l h hk hF hn hl;rw [Dh,Fw]
  by_cases hb:(n:Int)≥127
  ·rw [Aq (dT hb),(tdm n).1,sbd];have:=Nat.mod_lt n (show 0<127 by decide);rw [ckb (by omega),Xc (by omega),Gq (by simp;omega) (by decide),(tdm n).2];have hd:n/127≤n:=Nat.div_le_self _ _;rw [ckb (by omega)]
   cases k with
   | zero=>simp at h;omega
   | succ k =>
    rw [ih k (n/127) _ (Nat.div_lt_of_lt_mul (by rw [Nat.pow_succ] at h;omega)) (by omega) (by omega) (by omega) (by simp;omega),U9 (n:=n) (by omega)];simp
  ·rw [Ao (dF hb),Fy,ckb (by omega),Xc (by omega),Gq (by simp;omega) (by decide),Fx,ckb (by omega),R8 (by omega),show (1:Int)+n=n+1 by omega]
def okN (x:Int):Prop:=0≤x∧x≤4611686018427387904
def Gi (l:List Int):List Int:=l.flatMap fun x=>E0 x.toNat
theorem Df {x:Int} (h:okN x):(E0 x.toNat).length≤9:=A1c 8 x.toNat (by have:=h.1;have:=h.2;omega)
theorem B0d (F:Nat) (p1:List Int) (hF:100≤F) (hp:∀x∈p1,okN x):∀(m i:Nat) (l:List Int),p1.length-i<m→i≤p1.length→p1.length≤100→l.length+9*(p1.length-i)≤999999999000 →
  Dg F p1 m l i=some ⟨l++Gi (p1.drop i)⟩:=by
 intro m
 induction m with
 | zero=>intro i l h;omega
 | succ m ih =>
  intro i l h hi hp1 hl;rw [Dg,Fv]
  by_cases hb:i<p1.length
  ·have hx:=hp p1[i] (List.getElem_mem hb);have h9:=Df hx;rw [Aq (dT (by omega)),E4 i p1[i] rfl (List.getElem?_eq_getElem hb)];have e:p1[i]=((p1[i].toNat:Nat):Int):=by have:=hx.1;omega
   rw [e,B0e i _ (by omega) F 8 p1[i].toNat l (by have:=hx.1;have:=hx.2;omega) (by decide) (by omega) (by have:=hx.2;omega) (by omega)];rw [show ((i:Int)+1)=((i+1:Nat):Int) by omega,ih (i+1) _ (by omega) (by omega) hp1 (by rw [List.length_append];omega),List.drop_eq_getElem_cons hb];simp only [Gi,List.flatMap_cons,List.append_assoc]
  ·rw [Ao (dF (by omega)),List.drop_of_length_le (by omega)];simp [Gi]
def okW (l:List Int):Prop:=l.length≤999999990000
theorem He {F:Nat} (hF:1000≤F) {w:volume_writer} {l:List Int} (hw:okW w.b) (hl:∀x∈l,okN x) (hn:l.length≤100):Ar F w l=some ⟨w.b++Gi l⟩:=by
 rw [Ar];unfold okW at hw;exact B0d F l (by omega) hl F 0 w.b (by omega) (by omega) hn (by omega)
def zig (x:Int):Nat:=if x<0 then (-2*x-1).toNat else (2*x).toNat
def okZ (x:Int):Prop:=-2305843009213693952≤x∧x≤2305843009213693952
theorem B0c (F:Nat) (p1:List Int) (hF:1000≤F) (hp:∀x∈p1,okZ x):∀(m i:Nat) (l:List Int),p1.length-i<m→i≤p1.length→p1.length≤100→l.length+9*(p1.length-i)≤999999990000 →
  Bu F p1 m l i=some ⟨l++(p1.drop i).flatMap fun x=>E0 (zig x)⟩:=by
 intro m
 induction m with
 | zero=>intro i l h;omega
 | succ m ih =>
  intro i l h hi hp1 hl;rw [Bu,Fl]
  by_cases hb:i<p1.length
  ·have hx:=hp p1[i] (List.getElem_mem hb);have hx1:=hx.1;have hx2:=hx.2;rw [Aq (dT (by omega)),E4 i p1[i] rfl (List.getElem?_eq_getElem hb)];have fin:∀z:Int,okN z→z.toNat=zig p1[i]→((Ar F (volume_writer.mk l) [z]).bind fun y178=>D2 i (Bu F p1 m) y178.b)=some ⟨l++(p1.drop i).flatMap fun x=>E0 (zig x)⟩:=by
    intro z hz hzz;have h9:=Df hz;rw [He hF (show okW l by unfold okW;omega) (by simpa using hz) (by simp),sbd,D2,ckb (by omega)];show Bu F p1 m (l++Gi [z]) ((i:Int)+1)=_;rw [show ((i:Int)+1)=((i+1:Nat):Int) by omega,ih (i+1) _ (by omega) (by omega) hp1 (by simp [Gi];omega),List.drop_eq_getElem_cons hb];simp only [Gi,List.flatMap_cons,List.flatMap_nil,List.append_nil,List.append_assoc,hzz]
   by_cases hs:p1[i]<0
   ·rw [Aq (dT hs),ckb (by omega),ckb (by omega)];exact fin _ ⟨by omega,by omega⟩ (by unfold zig;rw [if_pos hs])
   ·rw [Ao (dF hs),ckb (by omega)];exact fin _ ⟨by omega,by omega⟩ (by unfold zig;rw [if_neg hs])
  ·rw [Ao (dF (by omega)),List.drop_of_length_le (by omega)];simp
theorem X0 {F:Nat} (hF:1000≤F) {w:volume_writer} {l:List Int} (hw:w.b.length≤999999980000) (hl:∀x∈l,okZ x) (hn:l.length≤100):D8 F w l=some ⟨w.b++l.flatMap fun x=>E0 (zig x)⟩:=by
 rw [D8];exact B0c F l hF hl F 0 w.b (by omega) (by omega) hn (by omega)
theorem Z2 {x:Int} (h:okZ x):okN (zig x:Int):=by
 unfold okZ at h;unfold okN zig;split<;>omega
theorem A2x {F:Nat} (hF:1000≤F) {w:volume_writer} {s:ByteArray} (hw:w.b.length≤999999980000) (hs:s.size≤10000000):Ec F w s=some ⟨w.b++(E0 s.size++sby s)⟩:=by
 have h9:=Df (x:=(s.size:Int)) ⟨by omega,by omega⟩;rw [Ec,He hF (show okW w.b by unfold okW;omega) (by intro x hx;simp at hx;subst hx;exact ⟨by omega,by omega⟩) (by simp),sbd,Gq (by simp only [Gi,List.flatMap_cons,List.flatMap_nil,List.append_nil,List.length_append,Ll];omega) (by decide)];simp [Gi]
def okS (s:api_Span):Prop:=-1000000000000000000≤s.Lo∧s.Lo≤s.Hi∧s.Hi≤1000000000000000000
def G4 (s:api_Span):List Int:=E0 (zig s.Lo)++E0 (s.Hi-s.Lo).toNat
theorem Vl {F:Nat} (hF:1000≤F) {w:volume_writer} {s:api_Span} (hw:w.b.length≤999999970000) (hs:okS s):Eb F w s=some ⟨w.b++G4 s⟩:=by
 obtain ⟨h1,h2,h3⟩:=hs;have h9:=Df (Z2 (x:=s.Lo) ⟨by omega,by omega⟩);rw [Int.toNat_natCast] at h9;rw [Eb,X0 hF (by omega) (by intro x hx;simp at hx;subst hx;exact ⟨by omega,by omega⟩) (by simp),sbd,ckb (by omega),He hF (by unfold okW;simp;omega) (by intro x hx;simp at hx;subst hx;exact ⟨by omega,by omega⟩) (by simp)];simp [G4,Gi]
theorem Dz {s:api_Span} (hs:okS s):(G4 s).length≤18:=by
 obtain ⟨h1,h2,h3⟩:=hs;have h8:=Df (Z2 (x:=s.Lo) ⟨by omega,by omega⟩);have h9:=Df (x:=s.Hi-s.Lo) ⟨by omega,by omega⟩;rw [Int.toNat_natCast] at h8;unfold G4;rw [List.length_append];omega
end Go.Proofs.YtifbomimeodibaaGreat
namespace Go.Proofs.YtifbomimeodibaaGreat
open Go Go.RowKit Go.Eng
set_option maxRecDepth 10000
set_option linter.unusedVariables false
set_option linter.unusedSimpArgs false
def H6 (x:api_Echo):List Int:=E0 x.Kind.toNat++if x.Kind=1 then E0 x.Power.Hi.toNat else G4 x.Power++(G4 x.Ratio++(G4 x.Match++(E0 x.Spread.toNat++if x.Kind=3 then G4 x.Steps.1++(G4 x.Steps.2++G4 x.Turn) else [])))
def okE (x:api_Echo):Prop:=okN x.Kind∧okN x.Power.Hi∧okN x.Spread∧okS x.Power∧okS x.Ratio∧okS x.Match∧okS x.Steps.1∧okS x.Steps.2∧okS x.Turn
theorem B0b {F:Nat} (hF:1000≤F) {w:volume_writer} {x:api_Echo} (hw:w.b.length≤999999960000) (hx:okE x):Gp F w x=some ⟨w.b++H6 x⟩:=by
 obtain ⟨h1,h2,h3,h4,h5,h6,h7,h8,h9⟩:=hx;have a1:=Df h1;have a2:=Df h2;have a3:=Df h3;have a4:=Dz h4;have a5:=Dz h5;have a6:=Dz h6;have a7:=Dz h7;have a8:=Dz h8;obtain ⟨G,rfl⟩:∃G,F=G+4:=⟨F-4,by omega⟩;rw [Gp,He hF (by unfold okW;omega) (by simpa using h1) (by simp),sbd]
 by_cases hk:x.Kind=1
 ·rw [Aq (by simp [hk]),He hF (by unfold okW;simp [Gi];omega) (by simpa using h2) (by simp),sbd];simp [H6,hk,Gi]
 ·rw [Ao (by simp [hk]),Cf,D7,Aq (dT (by decide)),E4 0 x.Power (by decide) (by rfl),Vl hF (by simp [Gi];omega) h4,sbd,ckb (by omega),
   Cf,D7,Aq (dT (by decide)),E4 1 x.Ratio (by decide) (by rfl),Vl hF (by simp [Gi];omega) h5,sbd,ckb (by omega),
   Cf,D7,Aq (dT (by decide)),E4 2 x.Match (by decide) (by rfl),Vl hF (by simp [Gi];omega) h6,sbd,ckb (by omega),
   Cf,D7,Ao (dF (by decide)),Gt,He hF (by unfold okW;simp [Gi];omega) (by simpa using h3) (by simp),sbd]
  by_cases hk3:x.Kind=3
  ·rw [Aq (by simp [hk3]),Ce,D6,Aq (dT (by decide)),E4 0 x.Steps.1 (by decide) (by rfl),Vl hF (by simp [Gi];omega) h7,sbd,ckb (by omega),
    Ce,D6,Aq (dT (by decide)),E4 1 x.Steps.2 (by decide) (by rfl),Vl hF (by simp [Gi];omega) h8,sbd,ckb (by omega),
    Ce,D6,Aq (dT (by decide)),E4 2 x.Turn (by decide) (by rfl),Vl hF (by simp [Gi];omega) h9,sbd,ckb (by omega),
    Ce,D6,Ao (dF (by decide))]
   simp [H6,hk3,Gi]
  ·rw [Ao (by simp [hk3])];simp [H6,hk,hk3,Gi]
theorem Wb {x:api_Echo} (hx:okE x):(H6 x).length≤130:=by
 obtain ⟨h1,h2,h3,h4,h5,h6,h7,h8,h9⟩:=hx;have a1:=Df h1;have a2:=Df h2;have a3:=Df h3;have a4:=Dz h4;have a5:=Dz h5;have a6:=Dz h6;have a7:=Dz h7;have a8:=Dz h8;have a9:=Dz h9;unfold H6
 split
 ·simp;omega
 ·split<;>simp<;>omega
def Hl {α:Type} [DecidableEq α] (e:α→List Int):α→Nat→List α→List Int
 | _,n,[]=>if n=0 then [] else E0 n
 | b,n,x::l=>if x=b then Hl e b (n+1) l else E0 n++(e x++Hl e x 0 l)
def E5 {α:Type} [DecidableEq α] (b:α):List α→Nat
 | []=>0
 | x::l=>if x=b then E5 b l+1 else 0
theorem R7 {α:Type} [DecidableEq α] (b:α) (l:List α):E5 b l≤l.length:=by
 induction l with
 | nil=>exact Nat.le_refl _
 | cons x l ih=>unfold E5;split<;>simp<;>omega
theorem Xp {α:Type} [DecidableEq α] {b:α} {l:List α} {i:Nat} (h:i<E5 b l):l[i]? = some b:=by
 induction l generalizing i with
 | nil=>simp [E5] at h
 | cons x l ih =>
  unfold E5 at h
  split at h
  ·rename_i hx
   cases i with
   | zero=>simp [hx]
   | succ i=>simpa using ih (by omega)
  ·omega
theorem Xo {α:Type} [DecidableEq α] {b:α} {l:List α} {x:α} (h:l[E5 b l]? = some x):x≠b:=by
 induction l with
 | nil=>simp at h
 | cons y l ih =>
  unfold E5 at h
  split at h
  ·exact ih (by simpa using h)
  ·rename_i hy;simp at h;subst h;exact hy
theorem Ud {α:Type} [DecidableEq α] (e:α→List Int) (b:α) (n:Nat) (l:List α) (h:n≠0∨l≠[]):Hl e b n l=E0 (n+E5 b l)++(match l.drop (E5 b l) with|[]=>[]|y::r=>e y++Hl e y 0 r):=by
 induction l generalizing n with
 | nil=>rw [Hl,E5,if_neg (by simpa using h)];simp
 | cons x l ih =>
  rw [Hl,E5]
  split
  ·rw [ih (n+1) (.inl (by omega))];simp only [List.drop_succ_cons];rw [show n+1+E5 b l=n+(E5 b l+1) by omega]
  ·simp
theorem A1m {α:Type} [DecidableEq α] {e:α→List Int} {c:Nat}:∀(l:List α) (b:α) (n:Nat),(∀x∈l,(e x).length≤c)→n+l.length≤1000000000→(Hl e b n l).length≤9+(c+9)*l.length:=by
 intro l
 induction l with
 | nil =>
  intro b n h hn;have:=Df (x:=(n:Int)) ⟨by omega,by simp at hn;omega⟩;rw [Hl]
  split<;>simp at*<;>omega
 | cons x l ih =>
  intro b n h hn;have h1:=Df (x:=(n:Int)) ⟨by omega,by simp at hn;omega⟩;have h2:=h x (by simp);have hm:(c+9)*(l.length+1)=(c+9)*l.length+(c+9):=by rw [Nat.mul_add,Nat.mul_one]
  rw [Hl];simp only [List.length_cons] at hn ⊢;rw [hm]
  split
  ·have:=ih b (n+1) (fun y hy=>h y (by simp [hy])) (by omega);omega
  ·have:=ih x 0 (fun y hy=>h y (by simp [hy])) (by omega);simp at h1 ⊢;omega
theorem Uf (u b:api_Span):(((u.Lo:Int)==b.Lo)&&(((u.Hi:Int)==b.Hi)&&true))=decide (u=b):=by
 cases u;cases b
 rw [Bool.eq_iff_iff];simp
theorem U3 (u b:api_Echo):(((u.Kind:Int)==b.Kind)&&((((u.Power.Lo:Int)==b.Power.Lo)&&(((u.Power.Hi:Int)==b.Power.Hi)&&true))&&(((((u.Steps.1.Lo:Int)==b.Steps.1.Lo)&&(((u.Steps.1.Hi:Int)==b.Steps.1.Hi)&&true))&&((((u.Steps.2.Lo:Int)==b.Steps.2.Lo)&&(((u.Steps.2.Hi:Int)==b.Steps.2.Hi)&&true))&&true))&&(((u.Spread:Int)==b.Spread)&&((((u.Ratio.Lo:Int)==b.Ratio.Lo)&&(((u.Ratio.Hi:Int)==b.Ratio.Hi)&&true))&&((((u.Match.Lo:Int)==b.Match.Lo)&&(((u.Match.Hi:Int)==b.Match.Hi)&&true))&&((((u.Turn.Lo:Int)==b.Turn.Lo)&&(((u.Turn.Hi:Int)==b.Turn.Hi)&&true))&&true)))))))=decide (u=b):=by
 rcases u with ⟨k,⟨p1,p2⟩,⟨⟨s1,s2⟩,⟨s3,s4⟩⟩,sp,⟨r1,r2⟩,⟨m1,m2⟩,⟨t1,t2⟩⟩
 rcases b with ⟨k',⟨p1',p2'⟩,⟨⟨s1',s2'⟩,⟨s3',s4'⟩⟩,sp',⟨r1',r2'⟩,⟨m1',m2'⟩,⟨t1',t2'⟩⟩
 rw [Bool.eq_iff_iff];simp [and_assoc]
theorem gdt {g:Bool} (h:g=true):((g==true&&true))=true:=by rw [h];rfl
theorem gdf {g:Bool} (h:g=false):((g==true&&true))=false:=by rw [h];rfl
theorem A8l (F:Nat) (b:api_Span) (w:List Int) (l:List api_Span) (k1:Int→Int→List Int→List api_Span→Option volume_writer) (hl:l.length≤1000000000):∀(m i:Nat),i≤E5 b l→E5 b l-i<m →
  Bk F b.Lo b.Hi w l k1 m i=C6 F b.Lo b.Hi w l k1 (E5 b l:Nat):=by
 intro m;have hle:=R7 b l
 induction m with
 | zero=>intro i _ h;omega
 | succ m ih =>
  intro i hi hm;rw [Bk,Da]
  by_cases hb:i<E5 b l
  ·have hx:=Xp hb;rw [gdT (gdt (dT (by omega))),E4 i b rfl hx,Uf b b,Aq (x:=decide (b=b)) (dT (by omega)),Aq (dT rfl),ckb (by omega)];exact ih (i+1) (by omega) (by omega)
  ·have he:i=E5 b l:=by omega
   subst he
   by_cases hc:E5 b l<l.length
   ·have hg:=List.getElem?_eq_getElem hc;rw [gdT (gdt (dT (by omega))),E4 _ _ rfl hg,Uf _ b,Aq (x:=decide (l[E5 b l]=b)) (dT (by omega)),Ao (dF (Xo hg))]
   ·rw [gdF (gdf (dF (by omega))),sbd,Ao (Ao (dF (by omega)))]
theorem U1 {α:Type} {l:List α} {n:Nat} {y:α} {r:List α} (h:l.drop n=y::r):l[n]? = some y∧n<l.length∧r=l.drop (n+1)∧r.length<l.length∧y∈l:=by
 have hn:n<l.length:=by
  rcases Nat.lt_or_ge n l.length with h1|h1
  ·exact h1
  ·rw [List.drop_of_length_le h1] at h;cases h
 rw [List.drop_eq_getElem_cons hn] at h
 cases h
 refine ⟨List.getElem?_eq_getElem hn,hn,rfl,by simp;omega,List.getElem_mem hn⟩
theorem B1f (F:Nat) (hF:1000≤F):∀(m:Nat) (l:List api_Span) (b:api_Span) (w:List Int),l.length<m→l.length<F→l.length≤1000000000→(∀x∈l,okS x)→w.length+200*l.length≤999999900000 →
  B8 F m b.Lo b.Hi w l=some ⟨w++Hl G4 b 0 l⟩:=by
 intro m
 induction m with
 | zero=>intro l b w h;omega
 | succ m ih =>
  intro l b w h hlF hl9 hok hw;rw [B8,C5]
  cases hl:l with
  | nil=>simp [Hl]
  | cons x0 l0 =>
   rw [←hl];have hpos:0<l.length:=by rw [hl];simp
   have hle:=R7 b l;have h9:=Df (x:=(E5 b l:Int)) ⟨by omega,by omega⟩;rw [Int.toNat_natCast] at h9;rw [Aq (dT (by omega)),show (0:Int)=((0:Nat):Int) from rfl,A8l F b w l _ hl9 F 0 (by omega) (by omega),C6,He hF (by unfold okW;simp;omega) (by intro x hx;simp at hx;subst hx;exact ⟨by omega,by omega⟩) (by simp),sbd,
    Jt (E5 b l) rfl rfl hle,Ud G4 b 0 l (.inr (by rw [hl];simp))]
   cases hd:l.drop (E5 b l) with
   | nil =>
    rw [Ao (dF (by simp))]
    cases m with
    | zero=>omega
    | succ m=>rw [B8,C5,Ao (dF (by simp))];simp [Gi]
   | cons y r =>
    obtain ⟨hg,hn,hr,hrl,hy⟩:=U1 hd;rw [Aq (dT (by simp)),E4 0 y (by rfl) (by rfl),Jt 1 (by decide) (by rfl) (by simp),Vl hF (by simp [Gi];omega) (hok y hy),sbd];simp only [List.drop_succ_cons,List.drop_zero];rw [ih r y _ (by omega) (by omega) (by omega) (fun z hz=>hok z (by rw [hr] at hz;exact List.mem_of_mem_drop hz)) (by have:=Dz (hok y hy);simp [Gi];omega)];simp [Gi]
theorem A8g {F:Nat} (hF:1000≤F) {w:volume_writer} {l:List api_Span} {b:api_Span} (hl:l.length<F) (hl9:l.length≤1000000000) (hok:∀x∈l,okS x) (hw:w.b.length+200*l.length≤999999900000):Cr F w l b=some ⟨w.b++Hl G4 b 0 l⟩:=by
 rw [Cr];exact B1f F hF F l b w.b hl hl hl9 hok hw
theorem A8i (F:Nat) (b:api_Echo) (w:List Int) (l:List api_Echo) (k1:Int→Int→Int→Int→Int→Int→Int→Int→Int→Int→Int→Int→Int→Int→List Int→List api_Echo→Option volume_writer) (hl:l.length≤1000000000):∀(m i:Nat),i≤E5 b l→E5 b l-i<m →
  Bj F b.Kind b.Power.Lo b.Match.Lo b.Match.Hi b.Turn.Lo b.Turn.Hi b.Power.Hi b.Steps.1.Lo b.Steps.1.Hi b.Steps.2.Lo b.Steps.2.Hi b.Spread b.Ratio.Lo b.Ratio.Hi w l k1 m i=C4 F b.Kind b.Power.Lo b.Match.Lo b.Match.Hi b.Turn.Lo b.Turn.Hi b.Power.Hi b.Steps.1.Lo b.Steps.1.Hi b.Steps.2.Lo b.Steps.2.Hi b.Spread b.Ratio.Lo b.Ratio.Hi w l k1 (E5 b l:Nat):=by
 intro m;have hle:=R7 b l
 induction m with
 | zero=>intro i _ h;omega
 | succ m ih =>
  intro i hi hm;rw [Bj,D9]
  by_cases hb:i<E5 b l
  ·have hx:=Xp hb;rw [gdT (gdt (dT (by omega))),E4 i b rfl hx,U3 b b,Aq (x:=decide (b=b)) (dT (by omega)),Aq (dT rfl),ckb (by omega)];exact ih (i+1) (by omega) (by omega)
  ·have he:i=E5 b l:=by omega
   subst he
   by_cases hc:E5 b l<l.length
   ·have hg:=List.getElem?_eq_getElem hc;rw [gdT (gdt (dT (by omega))),E4 _ _ rfl hg,U3 _ b,Aq (x:=decide (l[E5 b l]=b)) (dT (by omega)),Ao (dF (Xo hg))]
   ·rw [gdF (gdf (dF (by omega))),sbd,Ao (Ao (dF (by omega)))]
theorem B1e (F:Nat) (hF:1000≤F):∀(m:Nat) (l:List api_Echo) (b:api_Echo) (w:List Int),l.length<m→l.length<F→l.length≤1000000000→(∀x∈l,okE x)→w.length+300*l.length≤999999900000 →
  B7 F m b.Kind b.Power.Lo b.Match.Lo b.Match.Hi b.Turn.Lo b.Turn.Hi b.Power.Hi b.Steps.1.Lo b.Steps.1.Hi b.Steps.2.Lo b.Steps.2.Hi b.Spread b.Ratio.Lo b.Ratio.Hi w l=some ⟨w++Hl H6 b 0 l⟩:=by
 intro m
 induction m with
 | zero=>intro l b w h;omega
 | succ m ih =>
  intro l b w h hlF hl9 hok hw;rw [B7,C3]
  cases hl:l with
  | nil=>simp [Hl]
  | cons x0 l0 =>
   rw [←hl];have hpos:0<l.length:=by rw [hl];simp
   have hle:=R7 b l;have h9:=Df (x:=(E5 b l:Int)) ⟨by omega,by omega⟩;rw [Int.toNat_natCast] at h9;rw [Aq (dT (by omega)),show (0:Int)=((0:Nat):Int) from rfl,A8i F b w l _ hl9 F 0 (by omega) (by omega),C4,He hF (by unfold okW;simp;omega) (by intro x hx;simp at hx;subst hx;exact ⟨by omega,by omega⟩) (by simp),sbd,
    Jt (E5 b l) rfl rfl hle,Ud H6 b 0 l (.inr (by rw [hl];simp))]
   cases hd:l.drop (E5 b l) with
   | nil =>
    rw [Ao (dF (by simp))]
    cases m with
    | zero=>omega
    | succ m=>rw [B7,C3,Ao (dF (by simp))];simp [Gi]
   | cons y r =>
    obtain ⟨hg,hn,hr,hrl,hy⟩:=U1 hd;rw [Aq (dT (by simp)),E4 0 y (by rfl) (by rfl),Jt 1 (by decide) (by rfl) (by simp),B0b hF (by simp [Gi];omega) (hok y hy),sbd];simp only [List.drop_succ_cons,List.drop_zero];rw [ih r y _ (by omega) (by omega) (by omega) (fun z hz=>hok z (by rw [hr] at hz;exact List.mem_of_mem_drop hz)) (by have:=Wb (hok y hy);simp [Gi];omega)];simp [Gi]
theorem A7a {F:Nat} (hF:1000≤F) {w:volume_writer} {l:List api_Echo} {b:api_Echo} (hl:l.length<F) (hl9:l.length≤1000000000) (hok:∀x∈l,okE x) (hw:w.b.length+300*l.length≤999999900000):Cq F w l b=some ⟨w.b++Hl H6 b 0 l⟩:=by
 rw [Cq];exact B1e F hF F l b w.b hl hl hl9 hok hw
def e0:api_Echo:=⟨1,⟨0,0⟩,(⟨0,0⟩,⟨0,0⟩),0,⟨0,0⟩,⟨0,0⟩,⟨0,0⟩⟩
def Ks (s:ByteArray):List Int:=E0 s.size++sby s
def Sv (l:List Int):List Int:=l.flatMap fun x=>E0 (zig x)
def Qt (s:api_Sweep):List Int:=Gi [1]++(Ks s.Site.Name++(Sv [s.Site.X,s.Site.Y]++(Gi [s.Site.Z,s.Site.Rose,s.Site.Gates,s.Site.Step,s.Site.Width,s.Tilt,s.Time]++Hl H6 e0 0 s.Rays.flatten)))
def Q6 (f:volume_field):List Int:=Gi [2]++(Ks f.key++(Gi [f.time]++(Sv [f.Field.Grid.X,f.Field.Grid.Y]++(Gi [f.Field.Grid.Size,f.Field.Grid.Wide,f.Field.Grid.High]++Hl G4 ⟨0,0⟩ 0 f.Field.Vals))))
def Td (n:volume_note):List Int:=Gi [3,n.time]++Ks n.text
def C1 (t:volume_thing):List Int:=t.cs [] (fun s=>Qt s.Sweep) Q6 Td
def A9p (s:api_Site):Prop:=s.Name.size≤1000∧okZ s.X∧okZ s.Y∧okN s.Z∧okN s.Rose∧okN s.Gates∧okN s.Step∧okN s.Width
def Ub (s:api_Sweep):Prop:=A9p s.Site∧okN s.Tilt∧okN s.Time∧s.Rays.length≤1000∧s.Rays.flatten.length≤100000∧∀r∈s.Rays,∀x∈r,okE x
def Vx (f:volume_field):Prop:=f.key.size≤1000∧okN f.time∧okZ f.Field.Grid.X∧okZ f.Field.Grid.Y∧okN f.Field.Grid.Size∧okN f.Field.Grid.Wide∧okN f.Field.Grid.High∧f.Field.Vals.length≤100000∧∀x∈f.Field.Vals,okS x
def A0b (n:volume_note):Prop:=okN n.time∧n.text.size≤1000
def okT (t:volume_thing):Prop:=t.cs False (fun s=>Ub s.Sweep) Vx A0b
theorem K2 {l:List Int} (h:∀x∈l,okN x):(Gi l).length≤9*l.length:=by
 induction l with
 | nil=>simp [Gi]
 | cons x l ih =>
  have h1:=Df (h x (by simp));have h2:=ih fun y hy=>h y (by simp [hy]);simp only [Gi,List.flatMap_cons,List.length_append,List.length_cons] at h2 ⊢;omega
theorem Vt {l:List Int} (h:∀x∈l,okZ x):(Sv l).length≤9*l.length:=by
 induction l with
 | nil=>simp [Sv]
 | cons x l ih =>
  have h1:=Df (Z2 (h x (by simp)));rw [Int.toNat_natCast] at h1;have h2:=ih fun y hy=>h y (by simp [hy]);simp only [Sv,List.flatMap_cons,List.length_append,List.length_cons] at h2 ⊢;omega
theorem Rs {s:ByteArray} (h:s.size≤1000):(Ks s).length≤1009:=by
 have h9:=Df (x:=(s.size:Int)) ⟨by omega,by omega⟩;rw [Int.toNat_natCast] at h9;unfold Ks;rw [List.length_append,Ll];omega
theorem Q1 {x:Int} (h:0≤x∧x≤1000000):okN x:=⟨h.1,by omega⟩
theorem B0f (F:Nat) (hF:200000≤F) (s:volume_sweep) (y:volume_writer) (hok:Ub s.Sweep) (hy:y.b.length≤1000000):∀(m i:Nat) (acc:List api_Echo),s.Sweep.Rays.length-i<m→i≤s.Sweep.Rays.length→acc++(s.Sweep.Rays.drop i).flatten=s.Sweep.Rays.flatten →
  Ek F s y m acc i=some ⟨y.b++Hl H6 e0 0 s.Sweep.Rays.flatten⟩:=by
 intro m;obtain ⟨h1,h2,h3,h4,h5,h6⟩:=hok
 induction m with
 | zero=>intro i acc h;omega
 | succ m ih =>
  intro i acc h hi hacc;have hal:acc.length≤100000:=by
   have:=congrArg List.length hacc;rw [List.length_append] at this;omega
  rw [Ek,Hg]
  by_cases hb:i<s.Sweep.Rays.length
  ·have hd:=List.drop_eq_getElem_cons hb;have hacc2:(acc++s.Sweep.Rays[i])++(s.Sweep.Rays.drop (i+1)).flatten=s.Sweep.Rays.flatten:=by rw [←hacc,hd,List.flatten_cons,List.append_assoc]
   have hal2:acc.length+s.Sweep.Rays[i].length≤100000:=by
    have:=congrArg List.length hacc2;simp only [List.length_append] at this;omega
   rw [Aq (dT (by omega)),E4 i _ rfl (List.getElem?_eq_getElem hb),Gq (by omega) (by decide),ckb (by omega)];exact ih (i+1) _ (by omega) (by omega) hacc2
  ·have he:acc=s.Sweep.Rays.flatten:=by
    rw [List.drop_of_length_le (by omega)] at hacc;simpa using hacc
   rw [Ao (dF (by omega)),he,Hh,A7a (by omega) (by omega) (by omega) (fun x hx=>?_) (by omega)]
   ·rfl
   ·obtain ⟨r,hr,hx⟩:=List.mem_flatten.1 hx;exact h6 r hr x hx
theorem A8h {F:Nat} (hF:200000≤F) {t:volume_thing} (h:okT t):Mb F t ⟨[]⟩=some ⟨C1 t⟩:=by
 cases t with
 | nil_=>exact h.elim
 | ic156 s =>
  have hs:Ub s.Sweep:=h;have h':=hs;obtain ⟨⟨a1,a2,a3,a4,a5,a6,a7,a8⟩,h2,h3,h4,h5,h6⟩:=h';have o1:∀x∈[(1:Int)],okN x:=by intro x hx;simp at hx;subst hx;exact Q1 (by decide)
  have o2:∀x∈[s.Sweep.Site.X,s.Sweep.Site.Y],okZ x:=by intro x hx;simp at hx;rcases hx with rfl|rfl<;>assumption
  have o3:∀x∈[s.Sweep.Site.Z,s.Sweep.Site.Rose,s.Sweep.Site.Gates,s.Sweep.Site.Step,s.Sweep.Site.Width,s.Sweep.Tilt,s.Sweep.Time],okN x:=by intro x hx;simp at hx;rcases hx with rfl|rfl|rfl|rfl|rfl|rfl|rfl<;>assumption
  have l1:=K2 o1;have l2:=Rs a1;have l3:=Vt o2;have l4:=K2 o3;simp only [List.length_cons,List.length_nil] at l1 l3 l4;show Hd F s ⟨[]⟩=some ⟨Qt s.Sweep⟩;rw [Hd,He (by omega) (by unfold okW;simp) o1 (by simp),sbd,A2x (by omega) (by simp only [List.nil_append];omega) (by omega),sbd];rw [X0 (by omega) (by simp only [List.nil_append,List.length_append];unfold Ks at l2;rw [List.length_append] at l2;omega) o2 (by simp),sbd,He (by omega) (by unfold okW;unfold Sv at l3;unfold Ks at l2;simp only [List.nil_append,List.length_append] at *;omega) o3 (by simp),sbd];rw [show (0:Int)=((0:Nat):Int) from rfl,B0f F hF s _ hs (by unfold Sv at l3;unfold Ks at l2;simp only [List.nil_append,List.length_append] at *;omega) F 0 [] (by omega) (by omega) (by simp)];simp [Qt,Ks,Sv]
 | ic158 f =>
  obtain ⟨a1,a2,a3,a4,a5,a6,a7,a8,a9⟩:=(show Vx f from h);have o1:∀x∈[(2:Int)],okN x:=by intro x hx;simp at hx;subst hx;exact Q1 (by decide)
  have o4:∀x∈[f.time],okN x:=by intro x hx;simp at hx;subst hx;exact a2
  have o2:∀x∈[f.Field.Grid.X,f.Field.Grid.Y],okZ x:=by intro x hx;simp at hx;rcases hx with rfl|rfl<;>assumption
  have o3:∀x∈[f.Field.Grid.Size,f.Field.Grid.Wide,f.Field.Grid.High],okN x:=by intro x hx;simp at hx;rcases hx with rfl|rfl|rfl<;>assumption
  have l1:=K2 o1;have l2:=Rs a1;have l3:=Vt o2;have l4:=K2 o3;have l5:=K2 o4;simp only [List.length_cons,List.length_nil] at l1 l3 l4 l5;show Hb F f ⟨[]⟩=some ⟨Q6 f⟩;rw [Hb,He (by omega) (by unfold okW;simp) o1 (by simp),sbd,A2x (by omega) (by simp only [List.nil_append];omega) (by omega),sbd];rw [He (by omega) (by unfold okW;unfold Ks at l2;simp only [List.nil_append,List.length_append] at *;omega) o4 (by simp),sbd];rw [X0 (by omega) (by unfold Ks at l2;simp only [List.nil_append,List.length_append] at *;omega) o2 (by simp),sbd,He (by omega) (by unfold okW;unfold Sv at l3;unfold Ks at l2;simp only [List.nil_append,List.length_append] at *;omega) o3 (by simp),sbd];rw [A8g (by omega) (by omega) (by omega) a9 (by unfold Sv at l3;unfold Ks at l2;simp only [List.nil_append,List.length_append] at *;omega),sbd];simp [Q6,Ks,Sv]
 | ic160 n =>
  obtain ⟨a1,a2⟩:=(show A0b n from h);have o1:∀x∈[(3:Int),n.time],okN x:=by intro x hx;simp at hx;rcases hx with rfl|rfl;(exact Q1 (by decide));exact a1
  have l1:=K2 o1;simp only [List.length_cons,List.length_nil] at l1;show J4 F n ⟨[]⟩=some ⟨Td n⟩;rw [J4,He (by omega) (by unfold okW;simp) o1 (by simp),sbd,A2x (by omega) (by simp only [List.nil_append];omega) (by omega),sbd];simp [Td,Ks]
end Go.Proofs.YtifbomimeodibaaGreat
namespace Go.Proofs.YtifbomimeodibaaGreat
open Go Go.RowKit Go.Eng
set_option maxRecDepth 10000
set_option linter.unusedVariables false
set_option linter.unusedSimpArgs false
def A0m:Nat→List Int→Nat
 | c,[]=>c
 | c,x::l=>A0m ((31*c+x.toNat)%2147483647) l
def A2p (c:Nat):List Int:=[128+((c%127:Nat):Int),128+((c/127%127:Nat):Int),128+((c/127/127%127:Nat):Int),128+((c/127/127/127%127:Nat):Int),1+((c/127/127/127/127%127:Nat):Int)]
def Xh (l:List Int):List Int:=A2p (A0m 1 l)
theorem Rr (l:List Int):(Xh l).length=5:=rfl
theorem B1a {α β:Type} {l:List α} {i:Int} {x:α} {f:List α→Option β} (n:Nat) (hi:i=(n:Int)) (h:n<l.length):(A0j l i x).bind f=f (l.set n x):=by
 subst hi;unfold A0j;rw [if_pos (by omega)];rfl
theorem A82 (F:Nat) (hF:10≤F) (c:Nat) (hc:c<2147483647):G1 F 5 0 c (List.replicate 5 0)=some (A2p c):=by
 obtain ⟨G,rfl⟩:∃G,F=G+6:=⟨F-6,by omega⟩;have step:∀(m i d:Nat) (l:List Int),i<5→l.length=5→d<2147483647→G1 (m+1) 5 i d l=G1 m 5 (i+1:Nat) (d/127:Nat) (l.set i (128+((d%127:Nat):Int))):=by
  intro m i d l hi hl hd;rw [G1,M0,Aq (dT (by omega)),(tdm d).1,sbd];have:=Nat.mod_lt d (show 0<127 by decide);rw [ckb (by omega),E4 i l[i] rfl (List.getElem?_eq_getElem (by omega)),B1a i rfl (by omega),(tdm d).2,ckb (by omega),ckb (by omega),Xc (by omega)];rfl
 rw [show (0:Int)=((0:Nat):Int) from rfl,step (G+5) 0 c _ (by decide) (by simp) hc,step (G+4) 1 _ _ (by decide) (by simp) (by omega),step (G+3) 2 _ _ (by decide) (by simp) (by omega),step (G+2) 3 _ _ (by decide) (by simp) (by omega),step (G+1) 4 _ _ (by decide) (by simp) (by omega)];rw [G1,M0,Ao (dF (by decide)),P9];simp only [List.replicate,List.set_cons_zero,List.set_cons_succ];have h4:(128:Int)+((c/127/127/127/127%127:Nat):Int)-127=1+((c/127/127/127/127%127:Nat):Int):=by omega
 have:=Nat.mod_lt (c/127/127/127/127) (show 0<127 by decide);rw [E4 4 (128+((c/127/127/127/127%127:Nat):Int)) (by decide) (by rfl),E4 4 (128+((c/127/127/127/127%127:Nat):Int)) (by decide) (by rfl),B1a 4 (by decide) (by simp),h4,Xc (by omega)];rfl
theorem A83 (F:Nat) (hF:10≤F) (p:List Int) (hp:By p) (hpl:p.length≤1000000000):∀(m i c:Nat),p.length-i<m→i≤p.length→c<2147483647→Km F p m i c=some (A2p (A0m c (p.drop i))):=by
 intro m
 induction m with
 | zero=>intro i c h;omega
 | succ m ih =>
  intro i c h hi hc;rw [Km,P7]
  by_cases hb:i<p.length
  ·have hx:=hp p[i] (List.getElem_mem hb);rw [Aq (dT (by omega)),E4 i p[i] rfl (List.getElem?_eq_getElem hb),ckb (by omega),ckb (by omega),ckb (by omega)];have e:Qq (31*(c:Int)+p[i]) 2147483647=some (((31*c+p[i].toNat)%2147483647:Nat):Int):=by
    have e1:31*(c:Int)+p[i]=((31*c+p[i].toNat:Nat):Int):=by omega
    rw [e1];unfold Qq;rw [if_neg (by decide)]
    congr 1
   rw [e,sbd,ckb (by omega)];have:=ih (i+1) _ (by omega) (by omega) (Nat.mod_lt (31*c+p[i].toNat) (show 0<2147483647 by decide));rw [show ((i:Int)+1)=((i+1:Nat):Int) by omega,this,List.drop_eq_getElem_cons hb];rfl
  ·rw [Ao (dF (by omega)),P8,List.drop_of_length_le (by omega)];show (mkI 1 5 0).bind _=_;rw [show mkI 1 5 (0:Int)=some (List.replicate 5 0) from by unfold mkI;rw [if_pos (by decide)];rfl,sbd];exact A82 F hF c hc
theorem A6r {F:Nat} (hF:10≤F) {p:List Int} (hp:By p) (hl:p.length<F) (hl9:p.length≤1000000000):Ma F p=some (Xh p):=by
 rw [Ma];exact A83 F hF p hp hl9 F 0 1 (by omega) (by omega) (by decide)
theorem Xr (n:Nat):By (E0 n):=fun x hx=>by have:=A3e n x hx;omega
def Nz (l:List Int):Prop:=∀x∈l,1≤x∧x<256
theorem Nz.by {l:List Int} (h:Nz l):By l:=fun x hx=>by have:=h x hx;omega
theorem Nz.app {l k:List Int} (h:Nz l) (h':Nz k):Nz (l++k):=fun x hx=>(List.mem_append.1 hx).elim (h x) (h' x)
theorem Nz.nil:Nz []:=fun x hx=>by cases hx
theorem Nz.fm {α:Type} {l:List α} {f:α→List Int} (h:∀x∈l,Nz (f x)):Nz (l.flatMap f):=fun x hx=>by
 obtain ⟨y,hy,hx⟩:=List.mem_flatMap.1 hx;exact h y hy x hx
theorem Ps (n:Nat):Nz (E0 n):=fun x hx=>by have:=A3e n x hx;omega
theorem Ua (l:List Int):Nz (Gi l):=Nz.fm fun x _=>Ps _
theorem A3d (l:List Int):Nz (Sv l):=Nz.fm fun x _=>Ps _
theorem Qr (s:api_Span):Nz (G4 s):=(Ps _).app (Ps _)
theorem A5k (x:api_Echo):Nz (H6 x):=by
 unfold H6;refine (Ps _).app ?_
 split
 ·exact Ps _
 ·refine (Qr _).app ((Qr _).app ((Qr _).app ((Ps _).app ?_)))
  split
  ·exact (Qr _).app ((Qr _).app (Qr _))
  ·exact Nz.nil
theorem A3h {α:Type} [DecidableEq α] {e:α→List Int} (he:∀x,Nz (e x)):∀(l:List α) (b:α) (n:Nat),Nz (Hl e b n l):=by
 intro l
 induction l with
 | nil=>intro b n;rw [Hl];split;exact Nz.nil;exact Ps _
 | cons x l ih =>
  intro b n;rw [Hl]
  split
  ·exact ih _ _
  ·exact (Ps _).app ((he x).app (ih _ _))
theorem A3k (l:List Int):Nz (Xh l):=by
 have h:∀c:Nat,(0:Int)≤((c%127:Nat):Int)∧((c%127:Nat):Int)<127:=fun c=>by have:=Nat.mod_lt c (show 0<127 by decide);omega
 intro x hx;unfold Xh A2p at hx;simp only [List.mem_cons,List.not_mem_nil,or_false] at hx;rcases hx with rfl|rfl|rfl|rfl|rfl
 ·have:=h (A0m 1 l);omega
 ·have:=h (A0m 1 l/127);omega
 ·have:=h (A0m 1 l/127/127);omega
 ·have:=h (A0m 1 l/127/127/127);omega
 ·have:=h (A0m 1 l/127/127/127/127);omega
def Tz (s:ByteArray):Prop:=Nz (sby s)
def tzT (t:volume_thing):Prop:=t.cs True (fun s=>Tz s.Sweep.Site.Name) (fun f=>Tz f.key) (fun n=>Tz n.text)
def cnt (t:volume_thing):Nat:=t.cs 0 (fun s=>s.Sweep.Rays.flatten.length) (fun f=>f.Field.Vals.length) (fun _=>0)
theorem Xb {t:volume_thing} (h:okT t):(C1 t).length≤1200+139*cnt t:=by
 cases t with
 | nil_=>exact h.elim
 | ic156 s =>
  obtain ⟨⟨a1,a2,a3,a4,a5,a6,a7,a8⟩,h2,h3,h4,h5,h6⟩:=(show Ub s.Sweep from h);have l1:=K2 (l:=[(1:Int)]) (by intro x hx;simp at hx;subst hx;exact Q1 (by decide));have l2:=Rs a1;have l3:=Vt (l:=[s.Sweep.Site.X,s.Sweep.Site.Y]) (by intro x hx;simp at hx;rcases hx with rfl|rfl<;>assumption)
  have l4:=K2 (l:=[s.Sweep.Site.Z,s.Sweep.Site.Rose,s.Sweep.Site.Gates,s.Sweep.Site.Step,s.Sweep.Site.Width,s.Sweep.Tilt,s.Sweep.Time]) (by intro x hx;simp at hx;rcases hx with rfl|rfl|rfl|rfl|rfl|rfl|rfl<;>assumption)
  have l5:=A1m (e:=H6) (c:=130) s.Sweep.Rays.flatten e0 0 (fun x hx=>Wb (by obtain ⟨r,hr,hx⟩:=List.mem_flatten.1 hx;exact h6 r hr x hx)) (by omega);simp only [List.length_cons,List.length_nil] at l1 l3 l4;show (Qt s.Sweep).length≤1200+139*s.Sweep.Rays.flatten.length;simp only [Qt,List.length_append];omega
 | ic158 f =>
  obtain ⟨a1,a2,a3,a4,a5,a6,a7,a8,a9⟩:=(show Vx f from h);have l1:=K2 (l:=[(2:Int)]) (by intro x hx;simp at hx;subst hx;exact Q1 (by decide));have l2:=Rs a1;have l3:=Vt (l:=[f.Field.Grid.X,f.Field.Grid.Y]) (by intro x hx;simp at hx;rcases hx with rfl|rfl<;>assumption)
  have l4:=K2 (l:=[f.Field.Grid.Size,f.Field.Grid.Wide,f.Field.Grid.High]) (by intro x hx;simp at hx;rcases hx with rfl|rfl|rfl<;>assumption)
  have l6:=K2 (l:=[f.time]) (by intro x hx;simp at hx;subst hx;exact a2);have l5:=A1m (e:=G4) (c:=18) f.Field.Vals ⟨0,0⟩ 0 (fun x hx=>Dz (a9 x hx)) (by omega);simp only [List.length_cons,List.length_nil] at l1 l3 l4 l6;show (Q6 f).length≤1200+139*f.Field.Vals.length;simp only [Q6,List.length_append];omega
 | ic160 n =>
  obtain ⟨a1,a2⟩:=(show A0b n from h);have l1:=K2 (l:=[(3:Int),n.time]) (by intro x hx;simp at hx;rcases hx with rfl|rfl;(exact Q1 (by decide));exact a1)
  have l2:=Rs a2;simp only [List.length_cons,List.length_nil] at l1;show (Td n).length≤1200+139*0;simp only [Td,List.length_append];omega
theorem B03 (s:ByteArray):By (sby s):=fun x hx=>by
 obtain ⟨b,_,rfl⟩:=List.mem_map.1 hx;have:=b.toNat_lt;omega
theorem Yu (s:ByteArray):By (Ks s):=(Xr _).app (B03 s)
theorem Wx (t:volume_thing):By (C1 t):=by
 cases t with
 | nil_=>exact Nz.nil.by
 | ic156 s=>exact (Ua _).by.app ((Yu _).app ((A3d _).by.app ((Ua _).by.app (A3h A5k _ _ _).by)))
 | ic158 f=>exact (Ua _).by.app ((Yu _).app ((Ua _).by.app ((A3d _).by.app ((Ua _).by.app (A3h Qr _ _ _).by))))
 | ic160 n=>exact (Ua _).by.app (Yu _)
theorem Qu {t:volume_thing} (h:okT t):(C1 t).length≤14000000:=by
 have h1:=Xb h;have h2:cnt t≤100000:=by
  cases t with
  | nil_=>exact h.elim
  | ic156 s=>exact (show Ub s.Sweep from h).2.2.2.2.1
  | ic158 f=>exact (show Vx f from h).2.2.2.2.2.2.2.1
  | ic160 n=>exact Nat.zero_le _
 omega
def N9 (b:List Int):List Int:=E0 b.length++b
def Gc (t:volume_thing):List Int:=N9 (C1 t)++Xh (N9 (C1 t))
def Ko (t:volume_thing):List Int:=0::Gc t
theorem A55 {F:Nat} (hF:200000≤F) {t:volume_thing} (h:okT t) (hl:(C1 t).length+100≤F):Lm F t=some (Ko t):=by
 have hlen:=Qu h;have h9:=Df (x:=((C1 t).length:Int)) ⟨by omega,by omega⟩;rw [Int.toNat_natCast] at h9;rw [Lm,A8h hF h,sbd,He (by omega) (by unfold okW;simp) (by intro x hx;simp at hx;subst hx;exact ⟨by omega,by omega⟩) (by simp),sbd];have e:([]:List Int)++Gi [((C1 t).length:Int)]=E0 (C1 t).length:=by simp [Gi]
 simp only [e];rw [Gq (by omega) (by decide)];show (Ma F (N9 (C1 t))).bind _=_;have hpl:(N9 (C1 t)).length=(E0 (C1 t).length).length+(C1 t).length:=by unfold N9;rw [List.length_append]
 have hby:By (N9 (C1 t)):=(Xr _).app (Wx t);rw [A6r (by omega) hby (by omega) (by omega),sbd,Gq (by rw [List.length_append,Rr];omega) (by decide)];rw [show E0 (C1 t).length++C1 t=N9 (C1 t) from rfl];rw [Gq (by rw [List.length_append,Rr];simp;omega) (by decide)];rfl
end Go.Proofs.YtifbomimeodibaaGreat
namespace Go.Proofs.YtifbomimeodibaaGreat
open Go Go.RowKit Go.Eng
set_option maxRecDepth 10000
set_option linter.unusedVariables false
set_option linter.unusedSimpArgs false
abbrev RE (α:Type):=Option (Except (Value×volume_reader) (α×volume_reader))
def W7:Value:=.iface 128 (.int .i64 7)
def Rd {α:Type} (y:RE α) (o:Option (α×List Int)):Prop:=match o with
 | some x=>y=some (.ok (x.1,⟨x.2⟩))
 | none=>∃r,y=some (.error (W7,r))
theorem Rd.bind {α β:Type} {y:RE α} {o:Option (α×List Int)} (h:Rd y o) {f:α×volume_reader→RE β} {g:α×List Int→Option (β×List Int)} (hf:∀x r,o=some (x,r)→Rd (f (x,⟨r⟩)) (g (x,r))) :
  Rd (y.bind fun z=>exc z (fun e=>some (.error (e.1,volume_reader.mk e.2.b))) f) (o.bind g):=by
 cases o with
 | none=>obtain ⟨r,hr⟩:=h;rw [hr];exact ⟨_,rfl⟩
 | some x =>
  rw [show y=some (.ok (x.1,⟨x.2⟩)) from h];exact hf x.1 x.2 rfl
theorem Rd.ok {α:Type} {x:α} {r:List Int}:Rd (some (.ok (x,⟨r⟩))) (some (x,r)):=rfl
theorem Rd.bad {α:Type} {r:volume_reader}:Rd (α:=α) (some (.error (W7,r))) none:=⟨r,rfl⟩
theorem By.suf {l k:List Int} (h:By l) (hs:k <:+ l):By k:=fun x hx=>h x (hs.subset hx)
def rdD:Nat→Bool→List Int→Option (Int×List Int)
 | 0,_,_=>none
 | _+1,_,[]=>none
 | k+1,f,c::l=>if c=0∨c=255∨(c=1∧f=false) then none else if c<128 then some (c-1,l) else (rdD k false l).map fun y=>(c-128+127*y.1,y.2)
def rN (l:List Int):Option (Int×List Int):=rdD 8 true l
theorem B10:∀(k:Nat) (f:Bool) (l:List Int) (x:Int) (r:List Int),By l→rdD k f l=some (x,r)→0≤x∧x<127 ^ k∧r <:+ l:=by
 intro k
 induction k with
 | zero=>intro f l x r _ h;cases h
 | succ k ih =>
  intro f l x r hb h
  cases l with
  | nil=>cases h
  | cons c l =>
   have hc:=hb c (by simp);have hp:(0:Int)<127 ^ k:=Int.pow_pos (by decide);rw [rdD] at h
   split at h
   ·cases h
   ·rename_i g1
    have g2:c≠0:=fun e=>g1 (.inl e);have g3:c≠255:=fun e=>g1 (.inr (.inl e));rw [Int.pow_succ]
    split at h
    ·cases h
     exact ⟨by omega,by omega,List.suffix_cons ..⟩
    ·obtain ⟨z,hz,he⟩:=Option.map_eq_some_iff.1 h
     cases he
     obtain ⟨h1,h2,h3⟩:=ih false l z.1 z.2 (fun x hx=>hb x (by simp [hx])) hz;exact ⟨by omega,by omega,h3.trans (List.suffix_cons ..)⟩
theorem Dm {l:List Int} {x:Int} {r:List Int} (hb:By l) (h:rN l=some (x,r)):0≤x∧x<67675234241018881∧r <:+ l:=by
 have:=B10 8 true l x r hb h;exact this
theorem A9w (p:List Int) (hp:By p):∀(m i k:Nat) (n:Int),i+k=8→k<m→0≤n→n≤127 ^ i →
  Rd (Bo ⟨p⟩ (p.take 8) m i n (127 ^ i:Nat)) ((rdD k (i==0) (p.drop i)).map fun y=>(n+127 ^ i*y.1,y.2)):=by
 intro m
 induction m with
 | zero=>intro i k n _ h;omega
 | succ m ih =>
  intro i k n hik hk hn0 hn;rw [Bo,Fs];have hpi:(127:Int) ^ i≤127 ^ 8:=by
   have:(127:Nat) ^ i≤127 ^ 8:=Nat.pow_le_pow_right (by decide) (by omega)
   exact_mod_cast this
  have e8:(127:Int) ^ 8=67675234241018881:=by decide
  have hp0:(0:Int)<127 ^ i:=Int.pow_pos (by decide);have ecast:((127 ^ i:Nat):Int)=127 ^ i:=by push_cast;rfl
  rw [ecast]
  by_cases hb:i<(p.take 8).length
  ·have hb':i<p.length∧i<8:=by rw [List.length_take] at hb;omega
   obtain ⟨k,rfl⟩:∃k',k=k'+1:=⟨k-1,by omega⟩;have hx:=hp p[i] (List.getElem_mem hb'.1);rw [Aq (dT (by omega)),E4 i p[i] rfl (by rw [List.getElem?_take];rw [if_pos hb'.2];exact List.getElem?_eq_getElem hb'.1),List.drop_eq_getElem_cons hb'.1,rdD];have hp7:(127:Int) ^ i≤127 ^ 7:=by
    have:(127:Nat) ^ i≤127 ^ 7:=Nat.pow_le_pow_right (by decide) (by omega)
    exact_mod_cast this
   have e7:(127:Int) ^ 7=532875860165503:=by decide
   have hmul:p[i]*127 ^ i≤256*127 ^ i:=Int.mul_le_mul_of_nonneg_right (by omega) (by omega);have hmul0:0≤p[i]*127 ^ i:=Int.mul_nonneg (by omega) (by omega)
   by_cases hc:p[i]=0∨p[i]=255∨(p[i]=1∧(i==0)=false)
   ·rw [if_pos hc,Aq ?_]
    ·exact Rd.bad
    ·rcases hc with h|h|⟨h1,h2⟩
     ·simp [h]
     ·simp [h]
     ·simp at h2;simp [h1];omega
   ·rw [if_neg hc,Ao ?_]
    ·by_cases hs:p[i]<128
     ·have e1:(p[i]-1)*127 ^ i=p[i]*127 ^ i-127 ^ i:=by rw [Int.sub_mul,Int.one_mul]
      rw [if_pos hs,Aq (dT hs),ckb (by omega),Jt (i+1) (by omega) rfl (by simp;omega),ckb (by omega),ckb (by omega),ckb (by omega),ckb (by omega)];show some (Except.ok (n+(p[i]-1)*127 ^ i,volume_reader.mk (p.drop (i+1))))=some (.ok (n+127 ^ i*(p[i]-1),⟨p.drop (i+1)⟩));rw [Int.mul_comm (127 ^ i) (p[i]-1)]
     ·have e1:(p[i]-128)*127 ^ i=p[i]*127 ^ i-128*127 ^ i:=by rw [Int.sub_mul]
      have e2:(p[i]-128)*127 ^ i≤126*127 ^ i:=Int.mul_le_mul_of_nonneg_right (by have:p[i]≠255:=fun e=>hc (.inr (.inl e));omega) (by omega);have e3:0≤(p[i]-128)*127 ^ i:=Int.mul_nonneg (by omega) (by omega);have e4:(127:Int) ^ (i+1)=127 ^ i*127:=Int.pow_succ ..;rw [if_neg hs,Ao (dF hs),Fu,ckb (by omega),ckb (by omega),ckb (by omega),ckb (by omega),ckb (by omega),ckb (by omega)];have:=ih (i+1) k (n+(p[i]-128)*127 ^ i) (by omega) (by omega) (by omega) (by rw [e4];omega);have ecast2:((127 ^ (i+1):Nat):Int)=127 ^ i*127:=by rw [←e4];push_cast;rfl
      rw [ecast2] at this;rw [show ((i:Int)+1)=((i+1:Nat):Int) by omega];rw [Option.map_map];have ef:(i+1==0)=false:=rfl;rw [ef] at this
      cases hr:rdD k false (p.drop (i+1)) with
      | none=>rw [hr] at this;exact this
      | some y =>
       rw [hr] at this;have this':_=some (Except.ok (n+(p[i]-128)*127 ^ i+127 ^ (i+1)*y.1,volume_reader.mk y.2)):=this;show _=some (Except.ok (n+127 ^ i*(p[i]-128+127*y.1),volume_reader.mk y.2));rw [this',e4,Int.mul_add,Int.mul_comm (127 ^ i) (p[i]-128),←Int.add_assoc,←Int.mul_assoc]
    ·have h1:¬p[i]=0:=fun e=>hc (.inl e);have h2:¬p[i]=255:=fun e=>hc (.inr (.inl e));simp only [beq_eq_false_iff_ne.2 h1,beq_eq_false_iff_ne.2 h2,cond_false]
     by_cases h3:p[i]=1
     ·have h4:i=0:=by
       rcases Nat.eq_zero_or_pos i with h|h
       ·exact h
       ·exact absurd (.inr (.inr ⟨h3,by simp;omega⟩)) hc
      simp [h3,h4]
     ·simp [h3]
  ·rw [Ao (dF (by omega)),Ft];have:rdD k (i==0) (p.drop i)=none:=by
    rw [List.length_take] at hb;rcases Nat.eq_zero_or_pos k with h|h
    ·subst h;rfl
    ·rw [List.drop_of_length_le (by omega)];obtain ⟨k,rfl⟩:∃k',k=k'+1:=⟨k-1,by omega⟩;rfl
   rw [this];exact Rd.bad
theorem E8 {F:Nat} (hF:1000≤F) {p:List Int} (hp:By p):Rd (Ah F ⟨p⟩) (rN p):=by
 rw [Ah];have h:(H0 p (0:Int) (if 8<((p.length:Nat):Int) then 8 else ((p.length:Nat):Int))).bind (fun l80=>Bo ⟨p⟩ l80 F 0 0 1)=Bo ⟨p⟩ (p.take 8) F 0 0 1:=by
  by_cases h8:8<p.length
  ·rw [if_pos (by omega),Q5 8 (by rfl) (by rfl) (by omega)]
  ·rw [if_neg (by omega),Q5 p.length (by rfl) (by rfl) (by omega),List.take_of_length_le (by omega),List.take_of_length_le (by omega)]
 show Rd ((H0 p (0:Int) (if 8<((p.length:Nat):Int) then 8 else ((p.length:Nat):Int))).bind (fun l80=>Bo ⟨p⟩ l80 F 0 0 1)) _;rw [h];have:=A9w p hp F 0 8 0 (by omega) (by omega) (by omega) (by decide)
 cases hr:rN p with
 | none =>
  rw [show rdD 8 (0==0) (p.drop 0)=none from hr] at this;exact this
 | some y =>
  rw [show rdD 8 (0==0) (p.drop 0)=some y from hr] at this;have this':_=some (Except.ok (0+127 ^ 0*y.1,volume_reader.mk y.2)):=this;rw [show (0:Int)+127 ^ 0*y.1=y.1 by simp] at this';exact this'
end Go.Proofs.YtifbomimeodibaaGreat
namespace Go.Proofs.YtifbomimeodibaaGreat
open Go Go.RowKit Go.Eng
set_option maxRecDepth 10000
set_option linter.unusedVariables false
set_option linter.unusedSimpArgs false
def unz (n:Int):Int:=if n%2=1 then -((n+1)/2) else n/2
def rI (l:List Int):Option (Int×List Int):=(rN l).bind fun y=>some (unz y.1,y.2)
def rT (l:List Int):Option (ByteArray×List Int):=(rN l).bind fun y=>if y.1>(y.2.length:Int) then none else some (bst (y.2.take y.1.toNat),y.2.drop y.1.toNat)
def rS (l:List Int):Option (api_Span×List Int):=(rI l).bind fun y=>(rN y.2).bind fun z=>some (⟨y.1,y.1+z.1⟩,z.2)
def rE (l:List Int):Option (api_Echo×List Int):=(rN l).bind fun k=>if k.1=1 then (rN k.2).bind fun h=>some (⟨k.1,⟨0,h.1⟩,(⟨0,0⟩,⟨0,0⟩),0,⟨0,0⟩,⟨0,0⟩,⟨0,0⟩⟩,h.2)
 else (rS k.2).bind fun p=>(rS p.2).bind fun r=>(rS r.2).bind fun m=>(rN m.2).bind fun s=>if k.1=3 then (rS s.2).bind fun a=>(rS a.2).bind fun b=>(rS b.2).bind fun t=>some (⟨k.1,p.1,(a.1,b.1),s.1,r.1,m.1,t.1⟩,t.2)
  else some (⟨k.1,p.1,(⟨0,0⟩,⟨0,0⟩),s.1,r.1,m.1,⟨0,0⟩⟩,s.2)
theorem Bf {α β:Type} {o:Option (α×List Int)} {f:α×List Int→Option β} {y:β} (h:o.bind f=some y):∃x r,o=some (x,r)∧f (x,r)=some y:=by
 obtain ⟨⟨x,r⟩,h1,h2⟩:=Option.bind_eq_some_iff.1 h;exact ⟨x,r,h1,h2⟩
def A6a (x:Int):Prop:=-67675234241018881≤x∧x≤67675234241018881
theorem A70 {n:Int} (h:0≤n∧n<67675234241018881):A6a (unz n):=by
 unfold unz A6a;split<;>omega
theorem Ti {l:List Int} {x:Int} {r:List Int} (hb:By l) (h:rI l=some (x,r)):A6a x∧r <:+ l:=by
 obtain ⟨n,r',h1,h2⟩:=Bf h
 cases h2
 obtain ⟨a,b,c⟩:=Dm hb h1;exact ⟨A70 ⟨a,b⟩,c⟩
theorem A3f {l:List Int} {x:ByteArray} {r:List Int} (hb:By l) (h:rT l=some (x,r)):r <:+ l∧x.size≤l.length:=by
 obtain ⟨n,r',h1,h2⟩:=Bf h;obtain ⟨a,b,c⟩:=Dm hb h1
 split at h2
 ·cases h2
 ·rename_i hg
  cases h2
  refine ⟨(List.drop_suffix ..).trans c,?_⟩;have:=c.length_le;show (bst (r'.take n.toNat)).size≤_;unfold bst;simp only [ByteArray.size,List.size_toArray,List.length_map,List.length_take];simp only at hg;omega
def okS' (s:api_Span):Prop:=-67675234241018881≤s.Lo∧s.Lo≤s.Hi∧s.Hi≤200000000000000000
theorem okS'.ok {s:api_Span} (h:okS' s):okS s:=by obtain ⟨a,b,c⟩:=h;exact ⟨by omega,b,by omega⟩
theorem Na {l:List Int} {x:api_Span} {r:List Int} (hb:By l) (h:rS l=some (x,r)):okS' x∧r <:+ l:=by
 obtain ⟨lo,r1,h1,h2⟩:=Bf h;obtain ⟨n,r2,h3,h4⟩:=Bf h2
 cases h4
 obtain ⟨⟨a,b⟩,c⟩:=Ti hb h1;obtain ⟨d,e,f⟩:=Dm (hb.suf c) h3;exact ⟨⟨a,by simp only;omega,by simp only;omega⟩,f.trans c⟩
theorem Yn {l:List Int} {x:api_Echo} {r:List Int} (hb:By l) (h:rE l=some (x,r)):r <:+ l:=by
 obtain ⟨k,r0,h0,h⟩:=Bf h;obtain ⟨a0,b0,c0⟩:=Dm hb h0;have hb0:=hb.suf c0
 split at h
 ·obtain ⟨n,r1,h1,h⟩:=Bf h
  cases h
  obtain ⟨a1,b1,c1⟩:=Dm hb0 h1;exact c1.trans c0
 ·obtain ⟨p,r1,h1,h⟩:=Bf h;obtain ⟨p1,c1⟩:=Na hb0 h1;have hb1:=hb0.suf c1;obtain ⟨q,r2,h2,h⟩:=Bf h;obtain ⟨p2,c2⟩:=Na hb1 h2;have hb2:=hb1.suf c2;obtain ⟨m,r3,h3,h⟩:=Bf h;obtain ⟨p3,c3⟩:=Na hb2 h3;have hb3:=hb2.suf c3;obtain ⟨s,r4,h4,h⟩:=Bf h;obtain ⟨a4,b4,c4⟩:=Dm hb3 h4;have hb4:=hb3.suf c4;have hs:s∈[s]:=by simp
  split at h
  ·obtain ⟨a,r5,h5,h⟩:=Bf h;obtain ⟨p5,c5⟩:=Na hb4 h5;have hb5:=hb4.suf c5;obtain ⟨b,r6,h6,h⟩:=Bf h;obtain ⟨p6,c6⟩:=Na hb5 h6;have hb6:=hb5.suf c6;obtain ⟨t,r7,h7,h⟩:=Bf h;obtain ⟨p7,c7⟩:=Na hb6 h7
   cases h
   exact c7.trans (c6.trans (c5.trans (c4.trans (c3.trans (c2.trans (c1.trans c0))))))
  ·cases h
   exact c4.trans (c3.trans (c2.trans (c1.trans c0)))
theorem Rn {F:Nat} (hF:1000≤F) {p:List Int} (hp:By p):Rd (C0 F ⟨p⟩) (rI p):=by
 rw [C0,rI];refine (E8 hF hp).bind fun n r h=>?_;obtain ⟨a,b,c⟩:=Dm hp h;have e:Qq n 2=some (n%2):=by
  unfold Qq;rw [if_neg (by decide),Int.tmod_eq_emod_of_nonneg a]
 show Rd ((Qq n 2).bind _) _;rw [e,sbd];unfold unz
 by_cases h1:n%2=1
 ·rw [if_pos h1,Aq (by simp [h1]),ckb (by omega)];have ew:IntKind.i64.wrap (0-(n+1))=-(n+1):=by
   simp only [IntKind.wrap,IntKind.signed,IntKind.bits];simp;omega
  have eq:Pn (IntKind.i64.wrap (0-(n+1))) 2=some (-((n+1)/2)):=by
   rw [ew];unfold Pn;rw [if_neg (by decide),Int.neg_tdiv,Int.tdiv_eq_ediv_of_nonneg (by omega)];unfold ck;rw [if_pos (by omega)]
  show Rd ((Pn (IntKind.i64.wrap (0-(n+1))) 2).bind _) _;rw [eq];exact Rd.ok
 ·rw [if_neg h1,Ao (by simp [h1])];have eq:Pn n 2=some (n/2):=by
   unfold Pn;rw [if_neg (by decide),Int.tdiv_eq_ediv_of_nonneg a];unfold ck;rw [if_pos (by omega)]
  show Rd ((Pn n 2).bind _) _;rw [eq];exact Rd.ok
theorem A2k {F:Nat} (hF:1000≤F) {p:List Int} (hp:By p):Rd (Ea F ⟨p⟩) (rT p):=by
 rw [Ea,rT];refine (E8 hF hp).bind fun n r h=>?_;obtain ⟨a,b,c⟩:=Dm hp h;show Rd (bif decide (n>(r.length:Int)) then _ else _) (if n>(r.length:Int) then _ else _)
 by_cases h1:n>(r.length:Int)
 ·rw [if_pos h1,Aq (dT h1)];exact Rd.bad
 ·rw [if_neg h1,Ao (dF h1),Gs];have en:n=((n.toNat:Nat):Int):=by omega
  rw [Q5 n.toNat rfl en (show n.toNat≤r.length by omega),Jt n.toNat en rfl (show n.toNat≤r.length by omega)];exact Rd.ok
theorem Vd {F:Nat} (hF:1000≤F) {p:List Int} (hp:By p):Rd (Bw F ⟨p⟩) (rS p):=by
 rw [Bw,rS];refine (Rn hF hp).bind fun x r h=>?_;obtain ⟨⟨a,b⟩,c⟩:=Ti hp h;refine (E8 hF (hp.suf c)).bind fun n r2 h2=>?_;obtain ⟨d,e,f⟩:=Dm (hp.suf c) h2;rw [ckb (by simp only;omega)];exact Rd.ok
theorem A9v {F:Nat} (hF:1000≤F) {p:List Int} (hp:By p):Rd (Gn F ⟨p⟩) (rE p):=by
 rw [Gn,rE];refine (E8 hF hp).bind fun k r0 h0=>?_;obtain ⟨a0,b0,c0⟩:=Dm hp h0;have hb0:=hp.suf c0;show Rd (bif k==1 then _ else _) (if k=1 then _ else _)
 by_cases hk:k=1
 ·rw [if_pos hk,Aq (by simp [hk])];refine (E8 hF hb0).bind fun n r h=>?_;exact Rd.ok
 ·rw [if_neg hk,Ao (by simp [hk])];refine (Vd hF hb0).bind fun p r1 h1=>?_;have hb1:=hb0.suf (Na hb0 h1).2;refine (Vd hF hb1).bind fun q r2 h2=>?_;have hb2:=hb1.suf (Na hb1 h2).2;refine (Vd hF hb2).bind fun m r3 h3=>?_;have hb3:=hb2.suf (Na hb2 h3).2;refine (E8 hF hb3).bind fun s r4 h4=>?_;have hb4:=hb3.suf (Dm hb3 h4).2.2;show Rd (bif k==3 then _ else _) (if k=3 then _ else _)
  by_cases hk3:k=3
  ·rw [if_pos hk3,Aq (by simp [hk3])];refine (Vd hF hb4).bind fun a r5 h5=>?_;have hb5:=hb4.suf (Na hb4 h5).2;refine (Vd hF hb5).bind fun b r6 h6=>?_;have hb6:=hb5.suf (Na hb5 h6).2;refine (Vd hF hb6).bind fun t r7 h7=>?_;exact Rd.ok
  ·rw [if_neg hk3,Ao (by simp [hk3])];exact Rd.ok
def rL {α:Type} [DecidableEq α] (rd:List Int→Option (α×List Int)):Nat→Nat→α→List Int→Option (List α×List Int)
 | 0,_,_,_=>none
 | m+1,n,b,l=>if n=0 then some ([],l) else (rN l).bind fun y=>if y.1>(n:Int) then none else if n=y.1.toNat then some (List.replicate n b,y.2) else
   (rd y.2).bind fun z=>if z.1=b then none else (rL rd m (n-y.1.toNat-1) z.1 z.2).map fun u=>(List.replicate y.1.toNat b++z.1::u.1,u.2)
theorem A2h {α:Type} [DecidableEq α] {rd:List Int→Option (α×List Int)} (hrd:∀l x r,By l→rd l=some (x,r)→r <:+ l):∀(m n:Nat) (b:α) (l:List Int) (u:List α) (r:List Int),By l→rL rd m n b l=some (u,r)→u.length=n∧r <:+ l:=by
 intro m
 induction m with
 | zero=>intro n b l u r _ h;cases h
 | succ m ih =>
  intro n b l u r hb h;rw [rL] at h
  split at h
  ·cases h;rename_i h0;exact ⟨h0.symm,List.suffix_refl _⟩
  ·obtain ⟨k,r1,h1,h⟩:=Bf h;obtain ⟨a,b1,c⟩:=Dm hb h1;simp only at h
   split at h
   ·cases h
   ·split at h
    ·cases h;exact ⟨by simp,c⟩
    ·obtain ⟨z,r2,h2,h⟩:=Bf h;simp only at h
     split at h
     ·cases h
     ·obtain ⟨⟨u',r'⟩,h3,h4⟩:=Option.map_eq_some_iff.1 h
      cases h4
      have hc:=hrd _ _ _ (hb.suf c) h2;obtain ⟨i1,i2⟩:=ih _ _ _ _ _ (hb.suf (hc.trans c)) h3;refine ⟨?_,i2.trans (hc.trans c)⟩;simp only [List.length_append,List.length_replicate,List.length_cons,i1];omega
theorem B02 (F:Nat) (N:Int) (b:api_Span) (k2:Int→Int→List Int→List api_Span→RE (List api_Span)) (y:Int×volume_reader) (hy:y.1≤1000000):∀(m i:Nat) (out:List api_Span),(i:Int)≤y.1→y.1-i<m→out.length+(y.1-i)≤2000000 →
  Bd F N b.Lo b.Hi k2 y m i out=Cn F N b.Lo b.Hi k2 y (out++List.replicate (y.1-i).toNat b):=by
 intro m
 induction m with
 | zero=>intro i out h1 h2;omega
 | succ m ih =>
  intro i out h1 h2 h3;rw [Bd,Dv]
  by_cases hb:(i:Int)<y.1
  ·rw [Aq (dT hb),Gq (by simp;omega) (by decide),ckb (by omega)];have:=ih (i+1) (out++[b]) (by omega) (by omega) (by simp;omega);show Bd F N b.Lo b.Hi k2 y m ((i:Int)+1) (out++[b])=_;rw [show ((i:Int)+1)=((i+1:Nat):Int) by omega,this,List.append_assoc]
   congr 2
   rw [show (y.1-(i:Int)).toNat=(y.1-((i+1:Nat):Int)).toNat+1 by omega,List.replicate_succ];rfl
  ·rw [Ao (dF hb),show (y.1-(i:Int)).toNat=0 by omega];simp
theorem B14 (F:Nat) (hF:200000≤F) (N:Nat) (hN:N≤100000):∀(m m':Nat) (b:api_Span) (l:List Int) (out:List api_Span),By l→out.length≤N→N-out.length<m→N-out.length<m' →
  Rd (B2 F N m b.Lo b.Hi l out) ((rL rS m' (N-out.length) b l).map fun u=>(out++u.1,u.2)):=by
 intro m
 induction m with
 | zero=>intro m' b l out _ _ h;omega
 | succ m ih =>
  intro m' b l out hb ho hm hm';obtain ⟨m',rfl⟩:∃k,m'=k+1:=⟨m'-1,by omega⟩;rw [B2,Cl,rL]
  by_cases h0:N-out.length=0
  ·rw [if_pos h0,Ao (dF (by omega)),Cm];show _=some (Except.ok (out++[],volume_reader.mk l));rw [List.append_nil]
  ·rw [if_neg h0,Aq (dT (by omega)),Option.map_bind];refine (E8 (by omega) hb).bind fun k r h=>?_;obtain ⟨a,b1,c⟩:=Dm hb h;rw [ckb (by omega)];simp only [Function.comp]
   by_cases hk:k>((N-out.length:Nat):Int)
   ·rw [if_pos hk,Aq (dT (by omega))];exact Rd.bad
   ·rw [if_neg hk,Ao (dF (by omega)),Dw];have hr:=B02 F N b (B2 F N m) (k,⟨r⟩) (by simp only;omega) F 0 out (by simp only;omega) (by simp only;omega) (by simp only;omega);rw [show (0:Int)=((0:Nat):Int) from rfl,hr,Cn,show (k-((0:Nat):Int)).toNat=k.toNat by omega]
    by_cases hk2:N-out.length=k.toNat
    ·rw [if_pos hk2,Ao (dF (by simp;omega))]
     cases m with
     | zero=>omega
     | succ m =>
      rw [B2,Cl,Ao (dF (by simp;omega)),Cm,hk2];rfl
    ·rw [if_neg hk2,Aq (dT (by simp;omega)),Option.map_bind];have hbr:=hb.suf c;refine (Vd (by omega) hbr).bind fun x r2 h2=>?_;have hb2:=hbr.suf (Na hbr h2).2;simp only [Function.comp];rw [Uf x b]
     by_cases hx:x=b
     ·rw [if_pos hx,Aq (dT hx)];exact Rd.bad
     ·rw [if_neg hx,Ao (dF hx),Dx,Gq (by simp;omega) (by decide)];have:=ih m' x r2 (out++List.replicate k.toNat b++[x]) hb2 (by simp;omega) (by simp;omega) (by simp;omega);rw [show N-(out++List.replicate k.toNat b++[x]).length=N-out.length-k.toNat-1 by simp;omega] at this;rw [Option.map_map];simp only [Function.comp_def]
      simpa only [List.append_assoc,List.cons_append,List.nil_append] using this
theorem A7s {F:Nat} (hF:200000≤F) {N:Nat} (hN:N≤100000) {l:List Int} (hl:By l) (b:api_Span):Rd (D1 F ⟨l⟩ N b) (rL rS (N+1) N b l):=by
 rw [D1];have:=B14 F hF N hN F (N+1) b l [] hl (by simp) (by simp;omega) (by simp)
 simpa using this
theorem A9z (F:Nat) (N:Int) (b:api_Echo) (k2:Int→Int→Int→Int→Int→Int→Int→Int→Int→Int→Int→Int→Int→Int→List Int→List api_Echo→RE (List api_Echo)) (y:Int×volume_reader) (hy:y.1≤1000000):∀(m i:Nat) (out:List api_Echo),(i:Int)≤y.1→y.1-i<m→out.length+(y.1-i)≤2000000 →
  Bc F N b.Kind b.Power.Lo b.Match.Lo b.Match.Hi b.Turn.Lo b.Turn.Hi b.Power.Hi b.Steps.1.Lo b.Steps.1.Hi b.Steps.2.Lo b.Steps.2.Hi b.Spread b.Ratio.Lo b.Ratio.Hi k2 y m i out=Ck F N b.Kind b.Power.Lo b.Match.Lo b.Match.Hi b.Turn.Lo b.Turn.Hi b.Power.Hi b.Steps.1.Lo b.Steps.1.Hi b.Steps.2.Lo b.Steps.2.Hi b.Spread b.Ratio.Lo b.Ratio.Hi k2 y (out++List.replicate (y.1-i).toNat b):=by
 intro m
 induction m with
 | zero=>intro i out h1 h2;omega
 | succ m ih =>
  intro i out h1 h2 h3;rw [Bc,Dr]
  by_cases hb:(i:Int)<y.1
  ·rw [Aq (dT hb),Gq (by simp;omega) (by decide),ckb (by omega)];have:=ih (i+1) (out++[b]) (by omega) (by omega) (by simp;omega);show Bc F N b.Kind b.Power.Lo b.Match.Lo b.Match.Hi b.Turn.Lo b.Turn.Hi b.Power.Hi b.Steps.1.Lo b.Steps.1.Hi b.Steps.2.Lo b.Steps.2.Hi b.Spread b.Ratio.Lo b.Ratio.Hi k2 y m ((i:Int)+1) (out++[b])=_;rw [show ((i:Int)+1)=((i+1:Nat):Int) by omega,this,List.append_assoc]
   congr 2
   rw [show (y.1-(i:Int)).toNat=(y.1-((i+1:Nat):Int)).toNat+1 by omega,List.replicate_succ];rfl
  ·rw [Ao (dF hb),show (y.1-(i:Int)).toNat=0 by omega];simp
theorem B13 (F:Nat) (hF:200000≤F) (N:Nat) (hN:N≤100000):∀(m m':Nat) (b:api_Echo) (l:List Int) (out:List api_Echo),By l→out.length≤N→N-out.length<m→N-out.length<m' →
  Rd (B1 F N m b.Kind b.Power.Lo b.Match.Lo b.Match.Hi b.Turn.Lo b.Turn.Hi b.Power.Hi b.Steps.1.Lo b.Steps.1.Hi b.Steps.2.Lo b.Steps.2.Hi b.Spread b.Ratio.Lo b.Ratio.Hi l out) ((rL rE m' (N-out.length) b l).map fun u=>(out++u.1,u.2)):=by
 intro m
 induction m with
 | zero=>intro m' b l out _ _ h;omega
 | succ m ih =>
  intro m' b l out hb ho hm hm';obtain ⟨m',rfl⟩:∃k,m'=k+1:=⟨m'-1,by omega⟩;rw [B1,Ci,rL]
  by_cases h0:N-out.length=0
  ·rw [if_pos h0,Ao (dF (by omega)),Cj];show _=some (Except.ok (out++[],volume_reader.mk l));rw [List.append_nil]
  ·rw [if_neg h0,Aq (dT (by omega)),Option.map_bind];refine (E8 (by omega) hb).bind fun k r h=>?_;obtain ⟨a,b1,c⟩:=Dm hb h;rw [ckb (by omega)];simp only [Function.comp]
   by_cases hk:k>((N-out.length:Nat):Int)
   ·rw [if_pos hk,Aq (dT (by omega))];exact Rd.bad
   ·rw [if_neg hk,Ao (dF (by omega)),Dt];have hr:=A9z F N b (B1 F N m) (k,⟨r⟩) (by simp only;omega) F 0 out (by simp only;omega) (by simp only;omega) (by simp only;omega);rw [show (0:Int)=((0:Nat):Int) from rfl,hr,Ck,show (k-((0:Nat):Int)).toNat=k.toNat by omega]
    by_cases hk2:N-out.length=k.toNat
    ·rw [if_pos hk2,Ao (dF (by simp;omega))]
     cases m with
     | zero=>omega
     | succ m =>
      rw [B1,Ci,Ao (dF (by simp;omega)),Cj,hk2];rfl
    ·rw [if_neg hk2,Aq (dT (by simp;omega)),Option.map_bind];have hbr:=hb.suf c;refine (A9v (by omega) hbr).bind fun x r2 h2=>?_;have hb2:=hbr.suf (Yn hbr h2);simp only [Function.comp];rw [U3 x b]
     by_cases hx:x=b
     ·rw [if_pos hx,Aq (dT hx)];exact Rd.bad
     ·rw [if_neg hx,Ao (dF hx),Du,Gq (by simp;omega) (by decide)];have:=ih m' x r2 (out++List.replicate k.toNat b++[x]) hb2 (by simp;omega) (by simp;omega) (by simp;omega);rw [show N-(out++List.replicate k.toNat b++[x]).length=N-out.length-k.toNat-1 by simp;omega] at this;rw [Option.map_map];simp only [Function.comp_def]
      simpa only [List.append_assoc,List.cons_append,List.nil_append] using this
theorem A6f {F:Nat} (hF:200000≤F) {N:Nat} (hN:N≤100000) {l:List Int} (hl:By l) (b:api_Echo):Rd (D0 F ⟨l⟩ N b) (rL rE (N+1) N b l):=by
 rw [D0];have:=B13 F hF N hN F (N+1) b l [] hl (by simp) (by simp;omega) (by simp)
 simpa using this
end Go.Proofs.YtifbomimeodibaaGreat
namespace Go.Proofs.YtifbomimeodibaaGreat
open Go Go.RowKit Go.Eng
set_option maxRecDepth 10000
set_option linter.unusedVariables false
set_option linter.unusedSimpArgs false
def Sp (s:ByteArray):Bool:=(!(sEq s ⟨#[]⟩))&&(decide ((s.size:Int)≤12)&&(decide ((Su s 0).getD 0≥97)&&(decide ((Su s 0).getD 0≤122)&&!A65 s)))
theorem Xq (F:Nat) (s:ByteArray):Py F s=some (Sp s):=by
 have hg:sEq s ⟨#[]⟩=false→Su s 0=some ((Su s 0).getD 0):=by
  intro h;have hs:s.size≠0:=by
   intro h0;have:s=⟨#[]⟩:=by
    cases s with
    | mk d =>
     have:d=#[]:=Array.eq_empty_of_size_eq_zero h0;rw [this]
   rw [W0.2 this] at h
   cases h
  unfold Su;rw [if_pos (by omega)];rfl
 unfold Py Sp J1
 cases h1:sEq s ⟨#[]⟩ with
 | true=>simp [gd]
 | false =>
  have e:=hg h1;generalize hu:(Su s 0).getD 0=u at e ⊢;rw [e]
  by_cases h2:(s.size:Int)≤12
  ·by_cases h3:u≥97
   ·simp [gd,h2,h3]
   ·simp [gd,h2,h3]
  ·simp [gd,h2]
def inB (x lo hi:Int):Prop:=lo≤x∧x≤hi
instance (x lo hi:Int):Decidable (inB x lo hi):=by unfold inB;infer_instance
theorem Z1 {x lo hi:Int}:Ae x lo hi=decide (inB x lo hi):=by
 unfold Ae inB
 by_cases h:lo≤x<;>simp [h]
def W5 (s:api_Site):Prop:=Sp s.Name=true∧inB s.X (-1048576) 1048576∧inB s.Y (-1048576) 1048576∧inB s.Z 0 20000∧inB s.Rose 1 90∧inB s.Gates 1 200∧inB s.Step 50 2000∧inB s.Width 0 8
instance (s:api_Site):Decidable (W5 s):=by unfold W5;infer_instance
theorem A0k (F:Nat) (s:api_Site):∃e,G2 F s=some e∧(e=0↔W5 s):=by
 unfold G2 F6 Ee W5;rw [Xq,sbd];simp only [Z1]
 cases Sp s.Name with
 | false=>exact ⟨10,by simp,by simp⟩
 | true =>
  by_cases h1:inB s.X (-1048576) 1048576
  ·by_cases h2:inB s.Y (-1048576) 1048576
   ·by_cases h3:inB s.Z 0 20000
    ·by_cases h4:inB s.Rose 1 90
     ·by_cases h5:inB s.Gates 1 200
      ·by_cases h6:inB s.Step 50 2000
       ·by_cases h7:inB s.Width 0 8
        ·exact ⟨0,by simp [h1,h2,h3,h4,h5,h6,h7],by simp [h1,h2,h3,h4,h5,h6,h7]⟩
        ·exact ⟨3,by simp [h1,h2,h3,h4,h5,h6,h7],by simp [h1,h2,h3,h4,h5,h6,h7]⟩
       ·exact ⟨3,by simp [h1,h2,h3,h4,h5,h6],by simp [h1,h2,h3,h4,h5,h6]⟩
      ·exact ⟨3,by simp [h1,h2,h3,h4,h5],by simp [h1,h2,h3,h4,h5]⟩
     ·exact ⟨3,by simp [h1,h2,h3,h4],by simp [h1,h2,h3,h4]⟩
    ·exact ⟨3,by simp [h1,h2,h3],by simp [h1,h2,h3]⟩
   ·exact ⟨3,by simp [h1,h2],by simp [h1,h2]⟩
  ·exact ⟨3,by simp [h1],by simp [h1]⟩
def Ut (g:api_Grid):Prop:=inB g.X (-1048576) 1048576∧inB g.Y (-1048576) 1048576∧inB g.Size 1 10000∧inB g.Wide 1 64∧inB g.High 1 64
theorem Xk (g:api_Grid):Br g=0↔Ut g:=by
 unfold Br Dp Ut;simp only [Z1]
 by_cases h1:inB g.X (-1048576) 1048576
 ·by_cases h2:inB g.Y (-1048576) 1048576
  ·by_cases h3:inB g.Size 1 10000
   ·by_cases h4:inB g.Wide 1 64
    ·by_cases h5:inB g.High 1 64<;>simp [h1,h2,h3,h4,h5]
    ·simp [h1,h2,h3,h4]
   ·simp [h1,h2,h3]
  ·simp [h1,h2]
 ·simp [h1]
def Ri (s:api_Span) (lo hi:Int):Prop:=lo≤s.Lo∧s.Lo≤s.Hi∧s.Hi≤hi
instance (s:api_Span) (lo hi:Int):Decidable (Ri s lo hi):=by unfold Ri;infer_instance
theorem Yb {s:api_Span} {lo hi:Int}:Ag s lo hi=decide (Ri s lo hi):=by
 unfold Ag Ri
 by_cases h:lo≤s.Lo
 ·by_cases h2:s.Lo≤s.Hi<;>simp [h,h2]
 ·simp [h]
theorem Pd {x lo hi:Int}:Ax x lo hi=decide (inB x lo hi):=by
 unfold Ax inB
 by_cases h:lo≤x<;>simp [h]
def J2 (s:api_Span):Prop:=-32768≤s.Lo∧s.Lo≤32767∧s.Lo≤s.Hi∧s.Hi≤s.Lo+65535
instance (s:api_Span):Decidable (J2 s):=by unfold J2;infer_instance
theorem A6t (p:List api_Span) (k2:Int→Option Bool) (i:Nat) (u:api_Span) (h:p[i]? = some u) (hi:i<p.length) (h9:i≤100):H4 p k2 i=bif decide (J2 u) then k2 (i+1) else some false:=by
 have e1:-9000000000000000000≤(i:Int)+1∧(i:Int)+1≤9000000000000000000:=by omega
 rw [H4,Aq (dT (by omega)),E4 i u rfl h];simp only [Pd]
 by_cases h1:inB u.Lo (-32768) 32767
 ·have h1':=h1;obtain ⟨a,b⟩:=h1';simp only [dT h1];rw [gdT (by rfl),ckb (by omega),gdT (by rfl),ckb (by omega)];obtain ⟨z,hz⟩:∃z,z=u.Lo+65536-1:=⟨_,rfl⟩;rw [←hz]
  by_cases h2:inB u.Hi u.Lo z
  ·have ht:J2 u:=⟨a,b,h2.1,by have:=h2.2;omega⟩;rw [dT h2,dT ht];rw [Ao (by rfl),Aq (by rfl),ckb e1]
  ·have ht:¬J2 u:=fun h=>h2 ⟨h.2.2.1,by have:=h.2.2.2;omega⟩;rw [dF h2,dF ht,Aq (by rfl),Ao (by rfl)]
 ·simp only [dF h1];rw [gdF (by rfl),sbd,gdF (by rfl),sbd,dF (show ¬J2 u from fun h=>h1 ⟨h.1,h.2.1⟩),Aq (by rfl),Ao (by rfl)]
theorem Yw {F:Nat} (hF:10≤F) (a b c:api_Span):Lu F [a,b,c]=some (decide (J2 a∧J2 b∧J2 c)):=by
 obtain ⟨G,rfl⟩:∃G,F=G+4:=⟨F-4,by omega⟩;rw [Lu,Ex,show (0:Int)=((0:Nat):Int) from rfl,A6t _ _ 0 a rfl (by simp) (by decide)]
 by_cases h1:J2 a
 ·rw [Aq (dT h1),show (((0:Nat):Int)+1)=((1:Nat):Int) from rfl,Ex,A6t _ _ 1 b rfl (by simp) (by decide)]
  by_cases h2:J2 b
  ·rw [Aq (dT h2),show (((1:Nat):Int)+1)=((2:Nat):Int) from rfl,Ex,A6t _ _ 2 c rfl (by simp) (by decide)]
   by_cases h3:J2 c
   ·rw [Aq (dT h3),Ex,H4,Ao (dF (by simp)),Lg];simp [h1,h2,h3]
   ·rw [Ao (dF h3)];simp [h3]
  ·rw [Ao (dF h2)];simp [h2]
 ·rw [Ao (dF h1)];simp [h1]
def z0 (s:api_Span):Prop:=s.Lo=0∧s.Hi=0
def vEcho (x:api_Echo):Prop:=(x.Kind=1∧Ri x.Power 0 1073741824∧x.Power.Lo=0∧z0 x.Steps.1∧z0 x.Steps.2∧x.Spread=0∧z0 x.Ratio∧z0 x.Match∧z0 x.Turn) ∨
 ((x.Kind=2∨x.Kind=3)∧Ri x.Power 0 1073741824∧x.Power.Lo>0∧Ri x.Ratio 0 1000000∧Ri x.Match 0 1000∧inB x.Spread 0 65535∧(x.Kind=2→z0 x.Steps.1∧z0 x.Steps.2∧z0 x.Turn)∧(x.Kind=3→J2 x.Steps.1∧J2 x.Steps.2∧J2 x.Turn))
theorem A8o (c:Bool):E3 c=some (if c=true then 0 else 3):=by cases c<;>rfl
theorem A7g {F:Nat} (hF:10≤F) (x:api_Echo):∃e,Gd F x=some e∧(e=0↔vEcho x):=by
 unfold Gd vEcho;simp only [A8o,Yb]
 by_cases h1:x.Kind=1
 ·rw [Aq (by simp [h1])];refine ⟨_,rfl,?_⟩;simp only [h1,z0]
  by_cases h2:Ri x.Power 0 1073741824
  ·simp [h2,and_assoc]
  ·simp [h2]
 ·rw [Ao (by simp [h1])];have hK:∀c:Bool,c=(decide (x.Kind=2∨x.Kind=3))→∃e,D4 F x c=some e∧(e=0↔((x.Kind=2∨x.Kind=3)∧Ri x.Power 0 1073741824∧x.Power.Lo>0∧Ri x.Ratio 0 1000000∧Ri x.Match 0 1000∧inB x.Spread 0 65535∧(x.Kind=2→z0 x.Steps.1∧z0 x.Steps.2∧z0 x.Turn)∧(x.Kind=3→J2 x.Steps.1∧J2 x.Steps.2∧J2 x.Turn))):=by
   intro c hc;unfold D4;simp only [A8o,Yb,Pd]
   by_cases h23:x.Kind=2∨x.Kind=3
   ·rw [hc,Aq (dT h23)]
    by_cases h2:x.Kind=2
    ·rw [Aq (by simp [h2])];refine ⟨_,rfl,?_⟩;simp only [h2,z0]
     by_cases a1:Ri x.Power 0 1073741824
     ·by_cases a2:x.Power.Lo>0
      ·by_cases a3:Ri x.Ratio 0 1000000
       ·by_cases a4:Ri x.Match 0 1000
        ·by_cases a5:inB x.Spread 0 65535
         ·simp [a1,a2,a3,a4,a5,and_assoc]
         ·simp [a1,a2,a3,a4,a5]
        ·simp [a1,a2,a3,a4]
       ·simp [a1,a2,a3]
      ·simp [a1,a2]
     ·simp [a1]
    ·have h3:x.Kind=3:=h23.resolve_left h2;rw [Ao (by simp [h2])]
     by_cases a1:Ri x.Power 0 1073741824
     ·by_cases a2:x.Power.Lo>0
      ·by_cases a3:Ri x.Ratio 0 1000000
       ·by_cases a4:Ri x.Match 0 1000
        ·by_cases a5:inB x.Spread 0 65535
         ·rw [Aq (by simp [a1,a2,a3,a4,a5]),show (⟨x.Steps.1.Lo,x.Steps.1.Hi⟩:api_Span)=x.Steps.1 from rfl,show (⟨x.Steps.2.Lo,x.Steps.2.Hi⟩:api_Span)=x.Steps.2 from rfl,Yw hF,sbd];refine ⟨_,rfl,?_⟩;simp [h3,a1,a2,a3,a4,a5]
         ·rw [Ao (by simp [a5])];exact ⟨_,rfl,by simp [a5]⟩
        ·rw [Ao (by simp [a4])];exact ⟨_,rfl,by simp [a4]⟩
       ·rw [Ao (by simp [a3])];exact ⟨_,rfl,by simp [a3]⟩
      ·rw [Ao (by simp [a2])];exact ⟨_,rfl,by simp [a2]⟩
     ·rw [Ao (by simp [a1])];exact ⟨_,rfl,by simp [a1]⟩
   ·rw [hc,Ao (dF h23)];exact ⟨2,rfl,by simp [h23]⟩
  obtain ⟨e,he,hv⟩:∃e,(bif x.Kind==2 then D4 F x (x.Kind==2) else D4 F x (x.Kind==3))=some e∧(e=0↔_):=by
   by_cases h2:x.Kind=2
   ·rw [Aq (by simp [h2])];exact hK _ (by simp [h2])
   ·rw [Ao (by simp [h2])];exact hK _ (by simp [h2];rfl)
  exact ⟨e,he,hv.trans ⟨fun h=>.inr h,fun h=>h.resolve_left fun h=>h1 h.1⟩⟩
end Go.Proofs.YtifbomimeodibaaGreat
namespace Go.Proofs.YtifbomimeodibaaGreat
open Go Go.RowKit Go.Eng
set_option maxRecDepth 10000
set_option linter.unusedVariables false
set_option linter.unusedSimpArgs false
theorem B01 {F:Nat} (hF:5000≤F) (x270:Int) (k3:Int→Option Int) (u:List api_Echo) (hu:u.length≤1000):∀(m i:Nat),u.length-i<m→i≤u.length →
  ((∀x∈u.drop i,vEcho x)∧Cu F x270 k3 u m i=Ff x270 k3)∨(∃e,e≠0∧Cu F x270 k3 u m i=some e∧¬∀x∈u.drop i,vEcho x):=by
 intro m
 induction m with
 | zero=>intro i h;omega
 | succ m ih =>
  intro i h hi;rw [Cu,Gk]
  by_cases hb:i<u.length
  ·have hd:=List.drop_eq_getElem_cons hb;obtain ⟨e,he,hv⟩:=A7g (F:=F) (by omega) u[i];rw [Aq (dT (by omega)),E4 i u[i] rfl (List.getElem?_eq_getElem hb)];rw [show (⟨u[i].Kind,u[i].Power,(⟨u[i].Steps.1.Lo,u[i].Steps.1.Hi⟩,⟨u[i].Steps.2.Lo,u[i].Steps.2.Hi⟩),u[i].Spread,u[i].Ratio,u[i].Match,u[i].Turn⟩:api_Echo)=u[i] from rfl,he,sbd]
   by_cases h0:e=0
   ·rw [Ao (by simp [h0]),ckb (by omega)];rcases ih (i+1) (by omega) (by omega) with ⟨h1,h2⟩|⟨e',h1,h2,h3⟩
    ·refine .inl ⟨?_,h2⟩;rw [hd];intro x hx;rcases List.mem_cons.1 hx with rfl|hx
     ·exact hv.1 h0
     ·exact h1 x hx
    ·exact .inr ⟨e',h1,h2,fun h=>h3 fun x hx=>h x (by rw [hd];exact List.mem_cons_of_mem _ hx)⟩
   ·rw [Aq (by simp [h0])];exact .inr ⟨e,h0,rfl,fun h=>h0 (hv.2 (h u[i] (by rw [hd];exact List.mem_cons_self ..)))⟩
  ·rw [Ao (dF (by omega))];exact .inl ⟨fun x hx=>(by rw [List.drop_of_length_le (by omega)] at hx;cases hx),rfl⟩
theorem A7y {F:Nat} (hF:5000≤F) (p:api_Sweep) (hp:p.Rays.length≤1000) (hr:∀r∈p.Rays,r.length≤1000):∀(m i:Nat),p.Rays.length-i<m→i≤p.Rays.length →
  ∃e,Ct F p m i=some e∧(e=0↔∀r∈p.Rays.drop i,∀x∈r,vEcho x):=by
 intro m
 induction m with
 | zero=>intro i h;omega
 | succ m ih =>
  intro i h hi;rw [Ct,Gj]
  by_cases hb:i<p.Rays.length
  ·have hd:=List.drop_eq_getElem_cons hb;have hl:=hr p.Rays[i] (List.getElem_mem hb);rw [Aq (dT (by omega)),E4 i p.Rays[i] rfl (List.getElem?_eq_getElem hb)];rcases B01 hF i (Ct F p m) p.Rays[i] hl F 0 (by omega) (by omega) with ⟨h1,h2⟩|⟨e,h1,h2,h3⟩
   ·rw [show (0:Int)=((0:Nat):Int) from rfl,h2,Ff,ckb (by omega)];obtain ⟨e,he,hv⟩:=ih (i+1) (by omega) (by omega);refine ⟨e,he,hv.trans ?_⟩;rw [hd];constructor
    ·intro h r hr';rcases List.mem_cons.1 hr' with rfl|hr'
     ·exact h1
     ·exact h r hr'
    ·exact fun h r hr'=>h r (List.mem_cons_of_mem _ hr')
   ·refine ⟨e,h2,⟨fun h=>absurd h h1,fun h=>absurd (h p.Rays[i] (by rw [hd];exact List.mem_cons_self ..)) h3⟩⟩
  ·rw [Ao (dF (by omega)),Jf];exact ⟨0,rfl,by simp [List.drop_of_length_le (show p.Rays.length≤i by omega)]⟩
theorem A5u {F:Nat} (hF:5000≤F) (p:api_Sweep) (hp:p.Rays.length≤1000) (hg:p.Site.Gates≤200):∀(m i:Nat),p.Rays.length-i<m→i≤p.Rays.length→(∀r∈p.Rays.take i,(r.length:Int)=p.Site.Gates) →
  ∃e,Dl F p m i=some e∧(e=0↔(∀r∈p.Rays,(r.length:Int)=p.Site.Gates)∧∀r∈p.Rays,∀x∈r,vEcho x):=by
 intro m
 induction m with
 | zero=>intro i h;omega
 | succ m ih =>
  intro i h hi hpre;rw [Dl,Gl]
  by_cases hb:i<p.Rays.length
  ·rw [Aq (dT (by omega)),E4 i p.Rays[i] rfl (List.getElem?_eq_getElem hb)]
   by_cases hl:(p.Rays[i].length:Int)=p.Site.Gates
   ·rw [Ao (by simp [hl]),ckb (by omega)];refine ih (i+1) (by omega) (by omega) fun r hr=>?_;rw [List.take_succ_eq_append_getElem hb] at hr;rcases List.mem_append.1 hr with hr|hr
    ·exact hpre r hr
    ·simp at hr;rw [hr];exact hl
   ·rw [Aq (by simp [hl])];exact ⟨11,rfl,⟨fun h=>by simp at h,fun h=>absurd (h.1 p.Rays[i] (List.getElem_mem hb)) hl⟩⟩
  ·rw [Ao (dF (by omega)),Gm];rw [List.take_of_length_le (by omega)] at hpre;obtain ⟨e,he,hv⟩:=A7y hF p hp (fun r hr=>by have:=hpre r hr;omega) F 0 (by omega) (by omega);exact ⟨e,he,hv.trans ⟨fun h=>⟨hpre,h⟩,fun h=>h.2⟩⟩
def vSweep (s:api_Sweep):Prop:=W5 s.Site∧inB s.Tilt 0 256∧inB s.Time 0 4294967296∧(s.Rays.length:Int)=4*s.Site.Rose∧(∀r∈s.Rays,(r.length:Int)=s.Site.Gates)∧∀r∈s.Rays,∀x∈r,vEcho x
theorem A6s {F:Nat} (hF:5000≤F) (p:api_Sweep):∃e,Ca F p=some e∧(e=0↔vSweep p):=by
 obtain ⟨e,he,hv⟩:=A0k F p.Site;unfold Ca vSweep;rw [he,sbd];simp only [Pd]
 by_cases h0:e=0
 ·have hs:=hv.1 h0;obtain ⟨_,_,_,_,⟨r1,r2⟩,⟨g1,g2⟩,_⟩:=hv.1 h0;rw [Ao (by simp [h0])]
  by_cases h1:inB p.Tilt 0 256
  ·by_cases h2:inB p.Time 0 4294967296
   ·rw [Ao (by simp [h1,h2]),ckb (by omega)]
    by_cases h3:(p.Rays.length:Int)=4*p.Site.Rose
    ·rw [Ao (by simp [h3])];obtain ⟨e',he',hv'⟩:=A5u hF p (by omega) g2 F 0 (by omega) (by omega) (fun r hr=>by simp at hr);exact ⟨e',he',hv'.trans ⟨fun h=>⟨hs,h1,h2,h3,h.1,h.2⟩,fun h=>⟨h.2.2.2.2.1,h.2.2.2.2.2⟩⟩⟩
    ·rw [Aq (by simp [h3])];exact ⟨11,rfl,⟨fun h=>by simp at h,fun h=>absurd h.2.2.2.1 h3⟩⟩
   ·rw [Aq (by simp [h2])];exact ⟨3,rfl,⟨fun h=>by simp at h,fun h=>absurd h.2.2.1 h2⟩⟩
  ·rw [Aq (by simp [h1])];exact ⟨3,rfl,⟨fun h=>by simp at h,fun h=>absurd h.2.1 h1⟩⟩
 ·rw [Aq (by simp [h0])];exact ⟨e,rfl,⟨fun h=>absurd h h0,fun h=>absurd (hv.2 h.1) h0⟩⟩
def vVal (v:api_Span):Prop:=0≤v.Lo∧v.Lo≤v.Hi∧v.Hi≤1073741824
theorem A8f {p:api_Field} (hp:p.Vals.length≤1000000):∀(m i:Nat),p.Vals.length-i<m→i≤p.Vals.length →
  ∃e,Gv p 1073741824 m i=some e∧(e=0↔∀v∈p.Vals.drop i,vVal v):=by
 intro m
 induction m with
 | zero=>intro i h;omega
 | succ m ih =>
  intro i h hi;rw [Gv,Ls]
  by_cases hb:i<p.Vals.length
  ·have hd:=List.drop_eq_getElem_cons hb;rw [Aq (dT (by omega)),E4 i p.Vals[i] rfl (List.getElem?_eq_getElem hb)]
   by_cases hv:vVal p.Vals[i]
   ·obtain ⟨a,b,c⟩:=hv;rw [Ao (by rw [dF (show ¬p.Vals[i].Lo<0 by omega),dF (show ¬p.Vals[i].Hi<p.Vals[i].Lo by omega),dF (show ¬p.Vals[i].Hi>1073741824 by omega)];rfl),ckb (by omega)];obtain ⟨e,he,hv⟩:=ih (i+1) (by omega) (by omega);refine ⟨e,he,hv.trans ?_⟩;rw [hd];constructor
    ·intro h v hv';rcases List.mem_cons.1 hv' with rfl|hv'
     ·exact ⟨a,b,c⟩
     ·exact h v hv'
    ·exact fun h v hv'=>h v (List.mem_cons_of_mem _ hv')
   ·rw [Aq ?_]
    ·exact ⟨3,rfl,⟨fun h=>by simp at h,fun h=>absurd (h p.Vals[i] (by rw [hd];exact List.mem_cons_self ..)) hv⟩⟩
    ·by_cases h1:p.Vals[i].Lo<0
     ·simp [h1]
     ·by_cases h2:p.Vals[i].Hi<p.Vals[i].Lo
      ·simp [h2]
      ·have:p.Vals[i].Hi>1073741824:=by
        rcases Int.lt_or_le 1073741824 p.Vals[i].Hi with h|h
        ·exact h
        ·exact absurd ⟨by omega,by omega,h⟩ hv
       simp [this]
  ·rw [Ao (dF (by omega)),Nr];exact ⟨0,rfl,by simp [List.drop_of_length_le (show p.Vals.length≤i by omega)]⟩
def Wz (f:volume_field):Prop:=Sp f.key=true∧inB f.time 0 4294967296∧Ut f.Field.Grid∧(f.Field.Vals.length:Int)=f.Field.Grid.Wide*f.Field.Grid.High∧∀v∈f.Field.Vals,vVal v
theorem T5 {g:api_Grid} (h:Ut g):0≤g.Wide*g.High∧g.Wide*g.High≤4096:=by
 obtain ⟨_,_,_,⟨a,b⟩,⟨c,d⟩⟩:=h;have h1:g.Wide*g.High≤64*g.High:=Int.mul_le_mul_of_nonneg_right b (by omega);exact ⟨Int.mul_nonneg (by omega) (by omega),by omega⟩
theorem A5s {F:Nat} (hF:5000≤F) (f:volume_field):∃e,C2 F f=some e∧(e=0↔Wz f):=by
 unfold C2 Wz Ga Q2;rw [Xq,sbd]
 cases Sp f.key with
 | false=>exact ⟨10,by rw [Aq (by rfl)],by simp⟩
 | true =>
  rw [Ao (by rfl)]
  by_cases h1:inB f.time 0 4294967296
  ·rw [Ao (by have:=h1.1;have:=h1.2;rw [dF (show ¬f.time<0 by omega),dF (show ¬f.time>4294967296 by omega)];rfl)];have hg:=Xk f.Field.Grid
   by_cases h2:Br f.Field.Grid=0
   ·obtain ⟨c1,c2⟩:=T5 (hg.1 h2);rw [Ao (by simp [h2]),ckb (by omega)]
    by_cases h3:(f.Field.Vals.length:Int)=f.Field.Grid.Wide*f.Field.Grid.High
    ·rw [Ao (by simp [h3])];obtain ⟨e,he,hv⟩:=A8f (p:=f.Field) (by omega) F 0 (by omega) (by omega);rw [show (0:Int)=((0:Nat):Int) from rfl,he];exact ⟨e,rfl,hv.trans ⟨fun h=>⟨rfl,h1,hg.1 h2,h3,h⟩,fun h=>h.2.2.2.2⟩⟩
    ·rw [Aq (by simp [h3])];exact ⟨11,rfl,⟨fun h=>by simp at h,fun h=>absurd h.2.2.2.1 h3⟩⟩
   ·rw [Aq (by simp [h2])];exact ⟨_,rfl,⟨fun h=>absurd h h2,fun h=>absurd (hg.2 h.2.2.1) h2⟩⟩
  ·rw [Aq ?_]
   ·exact ⟨3,rfl,⟨fun h=>by simp at h,fun h=>absurd h.2.1 h1⟩⟩
   ·by_cases h:f.time<0
    ·simp [h]
    ·have:f.time>4294967296:=by
      rcases Int.lt_or_le 4294967296 f.time with h|h
      ·exact h
      ·exact absurd ⟨by omega,h⟩ h1
     simp [this]
def A00 (n:volume_note):Prop:=inB n.time 0 4294967296∧n.text.size≤200∧∀c∈sby n.text,32≤c∧c≤126
theorem A5f (l:List Int) (hl:l.length≤1000000):∀(m i:Nat),l.length-i<m→i≤l.length →
  ∃e,Ch l m i=some e∧(e=0↔∀c∈l.drop i,32≤c∧c≤126):=by
 intro m
 induction m with
 | zero=>intro i h;omega
 | succ m ih =>
  intro i h hi;rw [Ch,G5]
  by_cases hb:i<l.length
  ·have hd:=List.drop_eq_getElem_cons hb;rw [Aq (dT (by omega)),E4 i l[i] rfl (List.getElem?_eq_getElem hb)]
   by_cases hv:32≤l[i]∧l[i]≤126
   ·rw [Ao (by rw [dF (show ¬l[i]<32 by omega),dF (show ¬l[i]>126 by omega)];rfl),ckb (by omega)];obtain ⟨e,he,hv'⟩:=ih (i+1) (by omega) (by omega);refine ⟨e,he,hv'.trans ?_⟩;rw [hd];constructor
    ·intro h v hv';rcases List.mem_cons.1 hv' with rfl|hv'
     ·exact hv
     ·exact h v hv'
    ·exact fun h v hv'=>h v (List.mem_cons_of_mem _ hv')
   ·rw [Aq ?_]
    ·exact ⟨7,rfl,⟨fun h=>by simp at h,fun h=>absurd (h l[i] (by rw [hd];exact List.mem_cons_self ..)) hv⟩⟩
    ·by_cases h1:l[i]<32
     ·simp [h1]
     ·have:l[i]>126:=by omega
      simp [this]
  ·rw [Ao (dF (by omega)),J3];exact ⟨0,rfl,by simp [List.drop_of_length_le (show l.length≤i by omega)]⟩
theorem A7q {F:Nat} (hF:5000≤F) (n:volume_note):∃e,Cg F n=some e∧(e=0↔A00 n):=by
 unfold Cg A00
 by_cases h1:inB n.time 0 4294967296
 ·rw [Ao (by have:=h1.1;have:=h1.2;rw [dF (show ¬n.time<0 by omega),dF (show ¬n.time>4294967296 by omega)];rfl)]
  by_cases h2:n.text.size≤200
  ·have hs:s2b n.text=some (sby n.text):=by unfold s2b;rw [if_pos (by omega)]
   rw [Ao (dF (by omega)),hs,sbd];obtain ⟨e,he,hv⟩:=A5f (sby n.text) (by rw [Ll];omega) F 0 (by rw [Ll];omega) (by omega);exact ⟨e,he,hv.trans ⟨fun h=>⟨h1,h2,h⟩,fun h=>h.2.2⟩⟩
  ·rw [Aq (dT (by omega))];exact ⟨8,rfl,⟨fun h=>by simp at h,fun h=>absurd h.2.1 h2⟩⟩
 ·rw [Aq ?_]
  ·exact ⟨3,rfl,⟨fun h=>by simp at h,fun h=>absurd h.1 h1⟩⟩
  ·by_cases h:n.time<0
   ·simp [h]
   ·have:n.time>4294967296:=by
     rcases Int.lt_or_le 4294967296 n.time with h|h
     ·exact h
     ·exact absurd ⟨by omega,h⟩ h1
    simp [this]
def vT (t:volume_thing):Prop:=t.cs False (fun s=>vSweep s.Sweep) Wz A00
theorem A0u {F:Nat} (hF:5000≤F) {t:volume_thing} (ht:t≠.nil_):∃e,K1 F t=some e∧(e=0↔vT t):=by
 cases t with
 | nil_=>exact absurd rfl ht
 | ic156 s =>
  obtain ⟨e,he,hv⟩:=A6s (F:=F) (by omega) s.Sweep;exact ⟨e,by show Es F s=_;rw [Es,he];rfl,hv⟩
 | ic158 f=>exact A5s hF f
 | ic160 n=>exact A7q (by omega) n
theorem Nj {x lo hi:Int} (h:inB x lo hi) (h0:0≤lo) (h1:hi≤4611686018427387904):okN x:=⟨by have:=h.1;omega,by have:=h.2;omega⟩
theorem U8 {s:ByteArray} (h:Sp s=true):s.size≤12:=by
 unfold Sp at h;simp only [Bool.and_eq_true,decide_eq_true_eq] at h;omega
theorem vEcho.ok {x:api_Echo} (h:vEcho x):okE x:=by
 have hz:∀{s:api_Span},z0 s→okS s:=fun {s} h=>⟨by have:=h.1;omega,by have:=h.1;have:=h.2;omega,by have:=h.2;omega⟩;have hi:∀{s:api_Span} {lo hi:Int},Ri s lo hi→-1000000000000000000≤lo→hi≤1000000000000000000→okS s:=fun {s lo hi} h h1 h2=>⟨by have:=h.1;omega,h.2.1,by have:=h.2.2;omega⟩;have ht:∀{s:api_Span},J2 s→okS s:=fun {s} h=>⟨by have:=h.1;omega,h.2.2.1,by have:=h.2.1;have:=h.2.2.2;omega⟩;rcases h with ⟨a,b,c,d,e,f,g,h,i⟩|⟨a,b,c,d,e,f,g,h⟩
 ·exact ⟨⟨by omega,by omega⟩,⟨by have:=b.1;have:=b.2.1;omega,by have:=b.2.2;omega⟩,⟨by omega,by omega⟩,hi b (by decide) (by decide),hz g,hz h,hz d,hz e,hz i⟩
 ·have hh:okS x.Steps.1∧okS x.Steps.2∧okS x.Turn:=by
   rcases a with a|a
   ·obtain ⟨u,v,w⟩:=g a;exact ⟨hz u,hz v,hz w⟩
   ·obtain ⟨u,v,w⟩:=h a;exact ⟨ht u,ht v,ht w⟩
  exact ⟨⟨by omega,by omega⟩,⟨by have:=b.1;have:=b.2.1;omega,by have:=b.2.2;omega⟩,Nj f (by decide) (by decide),hi b (by decide) (by decide),hi d (by decide) (by decide),hi e (by decide) (by decide),hh.1,hh.2.1,hh.2.2⟩
theorem A7h {α:Type} {l:List (List α)} {n:Nat} (h:∀r∈l,r.length=n):l.flatten.length=l.length*n:=by
 induction l with
 | nil=>simp
 | cons r l ih =>
  rw [List.flatten_cons,List.length_append,h r (by simp),ih fun r hr=>h r (by simp [hr]),List.length_cons,Nat.add_mul,Nat.one_mul];omega
theorem vSweep.len {s:api_Sweep} (h:vSweep s):(s.Rays.flatten.length:Int)=4*s.Site.Rose*s.Site.Gates:=by
 obtain ⟨_,_,_,h1,h2,_⟩:=h;have hg:∀r∈s.Rays,r.length=s.Site.Gates.toNat:=fun r hr=>by have:=h2 r hr;omega
 rw [A7h hg]
 cases hr:s.Rays with
 | nil=>rw [hr] at h1;simp at h1;simp;rw [show s.Site.Rose=0 by omega];simp
 | cons r l =>
  have:=h2 r (by rw [hr];simp);rw [←hr,←h1]
  push_cast
  congr 1
  omega
theorem vT.ok {t:volume_thing} (h:vT t):okT t:=by
 cases t with
 | nil_=>exact h
 | ic156 s =>
  have hv:vSweep s.Sweep:=h;have hlen:=hv.len;obtain ⟨⟨n,x,y,z,r,g,st,w⟩,ti,tm,h1,h2,h3⟩:=hv;have hm:4*s.Sweep.Site.Rose*s.Sweep.Site.Gates≤360*s.Sweep.Site.Gates:=Int.mul_le_mul_of_nonneg_right (by have:=r.2;omega) (by have:=g.1;omega);refine ⟨⟨by have:=U8 n;omega,⟨by have:=x.1;omega,by have:=x.2;omega⟩,⟨by have:=y.1;omega,by have:=y.2;omega⟩,Nj z (by decide) (by decide),Nj r (by decide) (by decide),Nj g (by decide) (by decide),Nj st (by decide) (by decide),Nj w (by decide) (by decide)⟩,Nj ti (by decide) (by decide),Nj tm (by decide) (by decide),by have:=r.2;omega,by have:=g.2;omega,fun r hr x hx=>(h3 r hr x hx).ok⟩
 | ic158 f =>
  obtain ⟨n,tm,hg,h1,h2⟩:=(show Wz f from h);have:=T5 hg;obtain ⟨x,y,z,r,g⟩:=hg;exact ⟨by have:=U8 n;omega,Nj tm (by decide) (by decide),⟨by have:=x.1;omega,by have:=x.2;omega⟩,⟨by have:=y.1;omega,by have:=y.2;omega⟩,Nj z (by decide) (by decide),Nj r (by decide) (by decide),Nj g (by decide) (by decide),by omega,fun v hv=>by obtain ⟨a,b,c⟩:=h2 v hv;exact ⟨by omega,b,by omega⟩⟩
 | ic160 n =>
  obtain ⟨tm,h1,h2⟩:=(show A00 n from h);exact ⟨Nj tm (by decide) (by decide),by omega⟩
end Go.Proofs.YtifbomimeodibaaGreat
namespace Go.Proofs.YtifbomimeodibaaGreat
open Go Go.RowKit Go.Eng
set_option maxRecDepth 10000
set_option linter.unusedVariables false
set_option linter.unusedSimpArgs false
instance (g:api_Grid):Decidable (Ut g):=by unfold Ut;infer_instance
def S1 {α:Type} (g:Nat):Nat→List α→List (List α)
 | 0,_=>[]
 | n+1,l=>l.take g::S1 g n (l.drop g)
def Tj (l:List Int):Option (volume_thing×List Int):=(rT l).bind fun nm=>(rI nm.2).bind fun x=>(rI x.2).bind fun y=>(rN y.2).bind fun z=>(rN z.2).bind fun ro=>(rN ro.2).bind fun g=>(rN g.2).bind fun st=>(rN st.2).bind fun w=>(rN w.2).bind fun ti=>(rN ti.2).bind fun tm =>
 if W5 ⟨nm.1,x.1,y.1,z.1,ro.1,g.1,st.1,w.1⟩ then (rL rE ((4*ro.1*g.1).toNat+1) (4*ro.1*g.1).toNat e0 tm.2).bind fun all=>some (.ic156 ⟨⟨⟨nm.1,x.1,y.1,z.1,ro.1,g.1,st.1,w.1⟩,ti.1,tm.1,S1 g.1.toNat (4*ro.1).toNat all.1⟩⟩,all.2) else none
def Th (l:List Int):Option (volume_thing×List Int):=(rT l).bind fun nm=>(rN nm.2).bind fun tm=>(rI tm.2).bind fun x=>(rI x.2).bind fun y=>(rN y.2).bind fun sz=>(rN sz.2).bind fun wd=>(rN wd.2).bind fun hi =>
 if Ut ⟨x.1,y.1,sz.1,wd.1,hi.1⟩ then (rL rS ((wd.1*hi.1).toNat+1) (wd.1*hi.1).toNat ⟨0,0⟩ hi.2).bind fun all=>some (.ic158 ⟨nm.1,tm.1,⟨⟨x.1,y.1,sz.1,wd.1,hi.1⟩,all.1⟩⟩,all.2) else none
def X9 (l:List Int):Option (volume_thing×List Int):=(rN l).bind fun tm=>(rT tm.2).bind fun tx=>some (.ic160 ⟨tm.1,tx.1⟩,tx.2)
def Ky (l:List Int):Option (volume_thing×List Int):=(rN l).bind fun k=>if k.1=1 then Tj k.2 else if k.1=2 then Th k.2 else if k.1=3 then X9 k.2 else none
theorem A7u (a:ByteArray×volume_reader) (b c:Int×volume_reader) (x1 x2 x3 x4 x5 x6 x7:Int) (y:List api_Echo×volume_reader) (hg:1≤x3∧x3≤1000):∀(m n:Nat) (acc:List (List api_Echo)) (l:List api_Echo),n<m→l.length=n*x3.toNat→n+acc.length≤1000 →
  Cw a b c x1 x2 x3 x4 x5 x6 x7 y m acc l=Ez a b c x1 x2 x3 x4 x5 x6 x7 y (acc++S1 x3.toNat n l):=by
 intro m
 induction m with
 | zero=>intro n acc l h;omega
 | succ m ih =>
  intro n acc l h hl hn;rw [Cw,G8]
  cases n with
  | zero =>
   rw [Ao (dF (by omega)),S1,List.append_nil]
  | succ n =>
   rw [Nat.add_mul,Nat.one_mul] at hl;rw [Aq (dT (by omega)),Q5 x3.toNat rfl (by omega) (by omega),Gq (by simp;omega) (by decide),Jt x3.toNat (by omega) rfl (by omega)];rw [ih n (acc++[l.take x3.toNat]) (l.drop x3.toNat) (by omega) (by simp;omega) (by simp;omega)];rw [S1,List.append_assoc];rfl
theorem A09 (F:Nat) (e:Int):Js F e=some (if e=0 then .ok () else .error W7):=by
 unfold Js
 by_cases h:e=0
 ·rw [Ao (by simp [h]),if_pos h]
 ·rw [Aq (by simp [h]),if_neg h];rfl
theorem A6g {F:Nat} (hF:200000≤F) (nm:ByteArray) (x y z ro g st w ti tm:Int) (r0 r1 r2:volume_reader) {l:List Int} (hl:By l) :
  Rd (Ey F (nm,r0) (x,r1) (y,r2) z ro g st w ti tm l) (if W5 ⟨nm,x,y,z,ro,g,st,w⟩ then (rL rE ((4*ro*g).toNat+1) (4*ro*g).toNat e0 l).bind fun all=>some (.ic156 ⟨⟨⟨nm,x,y,z,ro,g,st,w⟩,ti,tm,S1 g.toNat (4*ro).toNat all.1⟩⟩,all.2) else none):=by
 unfold Ey;obtain ⟨e,he,hv⟩:=A0k F ⟨nm,x,y,z,ro,g,st,w⟩;rw [he,sbd,A09,sbd]
 by_cases h:e=0
 ·rw [if_pos h,if_pos (hv.1 h)];obtain ⟨_,_,_,_,⟨b1,b2⟩,⟨b3,b4⟩,_⟩:=hv.1 h;simp only at b1 b2 b3 b4;have hm:4*ro*g≤360*g:=Int.mul_le_mul_of_nonneg_right (by omega) (by omega);have hm0:0≤4*ro*g:=Int.mul_nonneg (by omega) (by omega);show Rd ((ck (4*ro)).bind _) _;rw [ckb (by omega),ckb (by omega)];have hr:=A6f hF (N:=(4*ro*g).toNat) (by omega) hl e0;rw [show (((4*ro*g).toNat:Nat):Int)=4*ro*g by omega] at hr;refine Rd.bind hr fun all r h2=>?_;have hlen:=(A2h (fun l x r hb h=>Yn hb h) _ _ _ _ _ _ hl h2).1;have hl2:all.length=(4*ro).toNat*g.toNat:=by
   rw [hlen];have:(4*ro*g)=(((4*ro).toNat*g.toNat:Nat):Int):=by
    push_cast
    rw [show ((4*ro).toNat:Int)=4*ro by omega,show (g.toNat:Int)=g by omega]
   omega
  show Rd (Cw _ _ _ z ro g st w ti tm _ F [] all) _;rw [A7u _ _ _ z ro g st w ti tm _ ⟨b3,by omega⟩ F (4*ro).toNat [] all (by omega) hl2 (by simp;omega),Ez];exact Rd.ok
 ·rw [if_neg h,if_neg (fun h'=>h (hv.2 h'))];exact Rd.bad
theorem A7t {F:Nat} (hF:200000≤F) {l:List Int} (hl:By l):Rd (Cy F ⟨l⟩) (Ky l):=by
 have h1000:1000≤F:=by omega
 rw [Cy,Ky];refine (E8 h1000 hl).bind fun k r h=>?_;have hb:=hl.suf (Dm hl h).2.2;show Rd (bif k==1 then _ else bif k==2 then _ else bif k==3 then _ else _) (if k=1 then _ else if k=2 then _ else if k=3 then _ else _)
 by_cases k1:k=1
 ·rw [if_pos k1,Aq (by simp [k1]),Tj];refine (A2k h1000 hb).bind fun nm r1 h1=>?_;have b1:=hb.suf (A3f hb h1).1;refine (Rn h1000 b1).bind fun x r2 h2=>?_;have b2:=b1.suf (Ti b1 h2).2;refine (Rn h1000 b2).bind fun y r3 h3=>?_;have b3:=b2.suf (Ti b2 h3).2;refine (E8 h1000 b3).bind fun z r4 h4=>?_;have b4:=b3.suf (Dm b3 h4).2.2;refine (E8 h1000 b4).bind fun ro r5 h5=>?_;have b5:=b4.suf (Dm b4 h5).2.2;refine (E8 h1000 b5).bind fun g r6 h6=>?_;have b6:=b5.suf (Dm b5 h6).2.2;refine (E8 h1000 b6).bind fun st r7 h7=>?_;have b7:=b6.suf (Dm b6 h7).2.2;refine (E8 h1000 b7).bind fun w r8 h8=>?_;have b8:=b7.suf (Dm b7 h8).2.2;refine (E8 h1000 b8).bind fun ti r9 h9=>?_;have b9:=b8.suf (Dm b8 h9).2.2;refine (E8 h1000 b9).bind fun tm r10 h10=>?_;have b10:=b9.suf (Dm b9 h10).2.2;exact A6g hF nm x y z ro g st w ti tm _ _ _ b10
 ·rw [if_neg k1,Ao (by simp [k1])]
  by_cases k2:k=2
  ·rw [if_pos k2,Aq (by simp [k2]),Th];refine (A2k h1000 hb).bind fun nm r1 h1=>?_;have b1:=hb.suf (A3f hb h1).1;refine (E8 h1000 b1).bind fun tm r2 h2=>?_;have b2:=b1.suf (Dm b1 h2).2.2;refine (Rn h1000 b2).bind fun x r3 h3=>?_;have b3:=b2.suf (Ti b2 h3).2;refine (Rn h1000 b3).bind fun y r4 h4=>?_;have b4:=b3.suf (Ti b3 h4).2;refine (E8 h1000 b4).bind fun sz r5 h5=>?_;have b5:=b4.suf (Dm b4 h5).2.2;refine (E8 h1000 b5).bind fun wd r6 h6=>?_;have b6:=b5.suf (Dm b5 h6).2.2;refine (E8 h1000 b6).bind fun hi r7 h7=>?_;have b7:=b6.suf (Dm b6 h7).2.2;show Rd ((Js F (Br ⟨x,y,sz,wd,hi⟩)).bind _) (if Ut ⟨x,y,sz,wd,hi⟩ then _ else _);rw [A09,sbd];have hg:=Xk ⟨x,y,sz,wd,hi⟩
   by_cases h0:Br ⟨x,y,sz,wd,hi⟩=0
   ·rw [if_pos h0,if_pos (hg.1 h0)];obtain ⟨c1,c2⟩:=T5 (hg.1 h0);simp only at c1 c2;show Rd ((ck (wd*hi)).bind _) _;rw [ckb (by omega)];have hr:=A7s hF (N:=(wd*hi).toNat) (by omega) b7 ⟨0,0⟩;rw [show (((wd*hi).toNat:Nat):Int)=wd*hi by omega] at hr;refine Rd.bind hr fun all r h2=>?_;exact Rd.ok
   ·rw [if_neg h0,if_neg (fun h'=>h0 (hg.2 h'))];exact Rd.bad
  ·rw [if_neg k2,Ao (by simp [k2])]
   by_cases k3:k=3
   ·rw [if_pos k3,Aq (by simp [k3]),X9];refine (E8 h1000 hb).bind fun tm r1 h1=>?_;have b1:=hb.suf (Dm hb h1).2.2;refine (A2k h1000 b1).bind fun tx r2 h2=>?_;exact Rd.ok
   ·rw [if_neg k3,Ao (by simp [k3]),G9];exact Rd.bad
theorem A1h {F:Nat} (hF:1000≤F) {p:List Int} (hp:By p):(∃r,Do F ⟨p⟩=some (0,false,r)∧rN p=none)∨∃n r,Do F ⟨p⟩=some (n,true,⟨r⟩)∧rN p=some (n,r):=by
 have h:=E8 hF hp;unfold Do
 cases hn:rN p with
 | none =>
  rw [hn] at h;obtain ⟨r,h⟩:=h;rw [h];exact .inl ⟨_,rfl,rfl⟩
 | some y =>
  rw [hn] at h;rw [show Ah F ⟨p⟩=some (.ok (y.1,⟨y.2⟩)) from h];exact .inr ⟨y.1,y.2,rfl,rfl⟩
theorem Xt {l:List Int} (h:By l):sby (bst l)=l:=by
 unfold sby bst;simp only [List.map_map]
 conv=>rhs;rw [←List.map_id l]
 apply List.map_congr_left;intro x hx;have:=h x hx;simp only [Function.comp,id];rw [UInt8.toNat_ofNat_of_lt' (show x.toNat<256 by omega)];omega
theorem A7d (s:ByteArray):bst (sby s)=s:=by
 unfold sby bst
 cases s with
 | mk d =>
  congr 1
  apply Array.toList_inj.1;simp only [List.map_map]
  conv=>rhs;rw [←List.map_id d.toList]
  apply List.map_congr_left;intro x hx;simp
theorem bEq {a b:List Int} (ha:By a) (hb:By b):Hq a b=decide (a=b):=by
 unfold Hq;rw [Bool.eq_iff_iff,W0,decide_eq_true_eq];exact ⟨fun h=>by rw [←Xt ha,←Xt hb,h],fun h=>by rw [h]⟩
theorem A4j {l:List Int} {t:volume_thing} {r:List Int} (h:Ky l=some (t,r)):t≠.nil_:=by
 obtain ⟨k,r1,h1,h⟩:=Bf h
 split at h
 ·unfold Tj at h;obtain ⟨_,_,_,h⟩:=Bf h;obtain ⟨_,_,_,h⟩:=Bf h;obtain ⟨_,_,_,h⟩:=Bf h;obtain ⟨_,_,_,h⟩:=Bf h;obtain ⟨_,_,_,h⟩:=Bf h;obtain ⟨_,_,_,h⟩:=Bf h;obtain ⟨_,_,_,h⟩:=Bf h;obtain ⟨_,_,_,h⟩:=Bf h;obtain ⟨_,_,_,h⟩:=Bf h;obtain ⟨_,_,_,h⟩:=Bf h
  split at h
  ·obtain ⟨_,_,_,h⟩:=Bf h
   cases h
   simp
  ·cases h
 ·split at h
  ·unfold Th at h;obtain ⟨_,_,_,h⟩:=Bf h;obtain ⟨_,_,_,h⟩:=Bf h;obtain ⟨_,_,_,h⟩:=Bf h;obtain ⟨_,_,_,h⟩:=Bf h;obtain ⟨_,_,_,h⟩:=Bf h;obtain ⟨_,_,_,h⟩:=Bf h;obtain ⟨_,_,_,h⟩:=Bf h
   split at h
   ·obtain ⟨_,_,_,h⟩:=Bf h
    cases h
    simp
   ·cases h
  ·split at h
   ·unfold X9 at h;obtain ⟨_,_,_,h⟩:=Bf h;obtain ⟨_,_,_,h⟩:=Bf h
    cases h
    simp
   ·cases h
noncomputable instance (t:volume_thing):Decidable (vT t):=Classical.propDecidable _
noncomputable def unS (p:List Int):volume_thing×Int:=match rN p with
 | none=>(.nil_,15)
 | some (n,r)=>if (r.length:Int)≠n+5 then (.nil_,15) else if p.drop (p.length-5)≠Xh (p.take (p.length-5)) then (.nil_,15) else match Ky (r.take n.toNat) with
  | none=>(.nil_,7)
  | some (t,r2)=>if vT t∧r2=[] then (t,0) else (.nil_,7)
theorem B1d {F:Nat} (hF:200000≤F) {p:List Int} (hp:By p) (hl:p.length<F) (hl9:p.length≤1000000000):Kn F p=some (unS p):=by
 unfold Kn unS;rcases A1h (F:=F) (by omega) hp with ⟨r,h1,h2⟩|⟨n,r,h1,h2⟩
 ·rw [h1,h2,sbd,Aq (by rfl)]
 ·obtain ⟨a,b,c⟩:=Dm hp h2;have hrl:=c.length_le;rw [h1,h2,sbd,Ao (by rfl),ckb (by simp only;omega)];show (bif (r.length:Int) != n+5 then _ else _)=some (if (r.length:Int)≠n+5 then _ else _)
  by_cases h3:(r.length:Int)=n+5
  ·rw [if_neg (by simp [h3]),Ao (by simp [h3]),ckb (by omega),Jt (p.length-5) (by omega) rfl (by omega),ckb (by omega),Q5 (p.length-5) rfl (by omega) (by omega)];have hby1:By (p.take (p.length-5)):=fun x hx=>hp x (List.mem_of_mem_take hx);have hby2:By (p.drop (p.length-5)):=fun x hx=>hp x (List.mem_of_mem_drop hx);rw [A6r (by omega) hby1 (by rw [List.length_take];omega) (by rw [List.length_take];omega),sbd,bEq hby2 (A3k _).by]
   by_cases h4:p.drop (p.length-5)=Xh (p.take (p.length-5))
   ·rw [if_neg (by simp [h4]),dT h4,Ao (by rfl),Q5 n.toNat rfl (by simp only;omega) (show n.toNat≤r.length by omega)];have hbr:By (r.take n.toNat):=fun x hx=>(hp.suf c) x (List.mem_of_mem_take hx);have ht:=A7t hF hbr
    cases h5:Ky (r.take n.toNat) with
    | none =>
     rw [h5] at ht;obtain ⟨r',ht⟩:=ht;show (Cy F ⟨r.take n.toNat⟩).bind _=_;rw [ht,sbd];rfl
    | some y =>
     obtain ⟨t,r2⟩:=y;rw [h5] at ht;show (Cy F ⟨r.take n.toNat⟩).bind _=_;rw [show Cy F ⟨r.take n.toNat⟩=some (.ok (t,⟨r2⟩)) from ht,sbd];obtain ⟨e,he,hv⟩:=A0u (F:=F) (by omega) (A4j h5);show (K1 F t).bind _=_;rw [he,sbd,A09,sbd]
     by_cases h6:e=0
     ·rw [if_pos h6]
      by_cases h7:r2=[]
      ·subst h7;show _=some (if vT t∧([]:List Int)=[] then _ else _);rw [if_pos ⟨hv.1 h6,rfl⟩];rfl
      ·show (bif decide ((r2.length:Int)>0) then _ else _)=some (if vT t∧r2=[] then _ else _);rw [if_neg (fun h=>h7 h.2),Aq (dT (by have:=List.length_pos_iff.2 h7;omega))]
     ·rw [if_neg h6];show _=some (if vT t∧r2=[] then _ else _);rw [if_neg (fun h=>h6 (hv.2 h.1))];rfl
   ·rw [if_pos h4,dF h4,Aq (by rfl)]
  ·rw [if_pos h3,Aq (by simp [h3])]
end Go.Proofs.YtifbomimeodibaaGreat
namespace Go.Proofs.YtifbomimeodibaaGreat
open Go Go.RowKit Go.Eng
set_option maxRecDepth 10000
set_option linter.unusedVariables false
set_option linter.unusedSimpArgs false
theorem A9s:∀(k n:Nat) (f:Bool) (r:List Int),n<127 ^ (k+1)→(f=true∨n≠0)→rdD (k+1) f (E0 n++r)=some ((n:Int),r):=by
 intro k
 induction k with
 | zero =>
  intro n f r h hf;have hn:n<127:=by simpa using h
  rw [R8 hn];show rdD 1 f (((n:Int)+1)::r)=_;rw [rdD,if_neg ?_,if_pos (by omega)]
  ·congr 2;omega
  ·rintro (h1|h1|⟨h1,h2⟩)
   ·omega
   ·omega
   ·rcases hf with h3|h3
    ·rw [h3] at h2;cases h2
    ·omega
 | succ k ih =>
  intro n f r h hf
  by_cases hn:n<127
  ·rw [R8 hn];show rdD (k+1+1) f (((n:Int)+1)::r)=_;rw [rdD,if_neg ?_,if_pos (by omega)]
   ·congr 2;omega
   ·rintro (h1|h1|⟨h1,h2⟩)
    ·omega
    ·omega
    ·rcases hf with h3|h3
     ·rw [h3] at h2;cases h2
     ·omega
  ·rw [U9 (by omega)];have hm:=Nat.mod_lt n (show 0<127 by decide);show rdD (k+1+1) f ((128+((n%127:Nat):Int))::(E0 (n/127)++r))=_;rw [rdD,if_neg (by rintro (h1|h1|⟨h1,h2⟩)<;>omega),if_neg (by omega),ih (n/127) false r (Nat.div_lt_of_lt_mul (by rw [Nat.pow_succ] at h;omega)) (.inr (by omega))];show some (128+((n%127:Nat):Int)-128+127*((n/127:Nat):Int),r)=_
   congr 2;omega
theorem Wq {n:Nat} (r:List Int) (h:n<67675234241018881):rN (E0 n++r)=some ((n:Int),r):=A9s 7 n true r h (.inl rfl)
def sm (x:Int):Prop:=-1000000000000000≤x∧x≤1000000000000000
theorem Me {x:Int} (r:List Int) (h0:0≤x) (h:sm x):rN (E0 x.toNat++r)=some (x,r):=by
 rw [Wq r (by have:=h.2;omega)];congr 2;omega
theorem A8e (x:Int):unz (zig x:Int)=x:=by
 unfold unz zig
 split<;>split<;>omega
theorem A1g {x:Int} (r:List Int) (h:sm x):rI (E0 (zig x)++r)=some (x,r):=by
 obtain ⟨h1,h2⟩:=h;rw [rI,Wq r (by unfold zig;split<;>omega)];show some (unz (zig x:Int),r)=_;rw [A8e]
theorem A6e {s:ByteArray} (r:List Int) (h:s.size≤1000000):rT (Ks s++r)=some (s,r):=by
 rw [rT,Ks,List.append_assoc,Wq _ (by omega)];have hl:=Ll s;show (if ((s.size:Nat):Int)>((sby s++r).length:Int) then none else some (bst ((sby s++r).take ((s.size:Nat):Int).toNat),(sby s++r).drop ((s.size:Nat):Int).toNat))=_;rw [if_neg (by rw [List.length_append];omega),Int.toNat_natCast,List.take_left' hl,List.drop_left' hl,A7d]
def smS (s:api_Span):Prop:=-1000000000≤s.Lo∧s.Lo≤s.Hi∧s.Hi≤2000000000
theorem Yp {s:api_Span} (r:List Int) (h:smS s):rS (G4 s++r)=some (s,r):=by
 obtain ⟨h1,h2,h3⟩:=h;rw [rS,G4,List.append_assoc,A1g _ ⟨by omega,by omega⟩];show (rN (E0 (s.Hi-s.Lo).toNat++r)).bind _=_;rw [Me r (by omega) ⟨by omega,by omega⟩];show some ((⟨s.Lo,s.Lo+(s.Hi-s.Lo)⟩:api_Span),r)=_;rw [show s.Lo+(s.Hi-s.Lo)=s.Hi by omega]
theorem Tn {s:api_Span} (h:z0 s):s=⟨0,0⟩:=by cases s;obtain ⟨h1,h2⟩:=h;simp only at h1 h2;rw [h1,h2]
theorem B11 {x:api_Echo} (r:List Int) (h:vEcho x):rE (H6 x++r)=some (x,r):=by
 have hi:∀{s:api_Span} {lo hi:Int},Ri s lo hi→0≤lo→hi≤1073741824→smS s:=fun {s lo hi} h h1 h2=>⟨by have:=h.1;omega,h.2.1,by have:=h.2.2;omega⟩;have ht:∀{s:api_Span},J2 s→smS s:=fun {s} h=>⟨by have:=h.1;omega,h.2.2.1,by have:=h.2.1;have:=h.2.2.2;omega⟩;rcases h with ⟨a,b,c,d,e,f,g,h,i⟩|⟨a,b,c,d,e,f,g,h⟩
 ·have hp:x=⟨1,⟨0,x.Power.Hi⟩,(⟨0,0⟩,⟨0,0⟩),0,⟨0,0⟩,⟨0,0⟩,⟨0,0⟩⟩:=by
   rcases x with ⟨k,⟨p1,p2⟩,⟨s1,s2⟩,sp,ra,ma,tu⟩
   simp only at a c d e f g h i;rw [a,c,f,Tn d,Tn e,Tn g,Tn h,Tn i]
  rw [rE,H6,List.append_assoc,if_pos a,Me _ (by omega) ⟨by omega,by omega⟩];show (if x.Kind=1 then _ else _)=_;rw [if_pos a];show (rN (E0 x.Power.Hi.toNat++r)).bind _=_;rw [Me _ (by have:=b.1;have:=b.2.1;omega) ⟨by have:=b.1;have:=b.2.1;omega,by have:=b.2.2;omega⟩];show some ((⟨x.Kind,⟨0,x.Power.Hi⟩,(⟨0,0⟩,⟨0,0⟩),0,⟨0,0⟩,⟨0,0⟩,⟨0,0⟩⟩:api_Echo),r)=_;rw [a,←hp]
 ·have hk:x.Kind≠1:=by omega
  rw [rE,H6,List.append_assoc,if_neg hk,Me _ (by omega) ⟨by omega,by omega⟩];show (if x.Kind=1 then _ else _)=_;rw [if_neg hk];simp only [List.append_assoc];show (rS (G4 x.Power++_)).bind _=_;rw [Yp _ (hi b (by decide) (by decide))];show (rS (G4 x.Ratio++_)).bind _=_;rw [Yp _ (hi d (by decide) (by decide))];show (rS (G4 x.Match++_)).bind _=_;rw [Yp _ (hi e (by decide) (by decide))];show (rN (E0 x.Spread.toNat++_)).bind _=_;rw [Me _ (by have:=f.1;omega) ⟨by have:=f.1;omega,by have:=f.2;omega⟩];show (if x.Kind=3 then _ else _)=_
  by_cases h3:x.Kind=3
  ·obtain ⟨t1,t2,t3⟩:=h h3;rw [if_pos h3,if_pos h3];simp only [List.append_assoc];show (rS (G4 x.Steps.1++_)).bind _=_;rw [Yp _ (ht t1)];show (rS (G4 x.Steps.2++_)).bind _=_;rw [Yp _ (ht t2)];show (rS (G4 x.Turn++_)).bind _=_;rw [Yp _ (ht t3)];rfl
  ·obtain ⟨t1,t2,t3⟩:=g (by omega);rw [if_neg h3,if_neg h3];show some ((⟨x.Kind,x.Power,(⟨0,0⟩,⟨0,0⟩),x.Spread,x.Ratio,x.Match,⟨0,0⟩⟩:api_Echo),r)=_;have hp:x=⟨x.Kind,x.Power,(⟨0,0⟩,⟨0,0⟩),x.Spread,x.Ratio,x.Match,⟨0,0⟩⟩:=by
    rcases x with ⟨k,p,⟨s1,s2⟩,sp,ra,ma,tu⟩
    simp only at t1 t2 t3;rw [Tn t1,Tn t2,Tn t3]
   rw [←hp]
theorem A9u {α:Type} [DecidableEq α] {rd:List Int→Option (α×List Int)} {e:α→List Int} (r:List Int):∀(l:List α) (n m:Nat) (b:α),n+l.length<m→n+l.length<1000000000→(∀x∈l,∀r,rd (e x++r)=some (x,r)) →
  rL rd m (n+l.length) b (Hl e b n l++r)=some (List.replicate n b++l,r):=by
 intro l
 induction l with
 | nil =>
  intro n m b hm hn hx;obtain ⟨m,rfl⟩:∃k,m=k+1:=⟨m-1,by omega⟩;rw [rL,Hl];simp only [List.length_nil,Nat.add_zero] at hm hn ⊢
  by_cases h0:n=0
  ·rw [if_pos h0,if_pos h0,h0];rfl
  ·rw [if_neg h0,if_neg h0,Wq _ (by omega)];show (if (n:Int)>(n:Int) then none else if n=((n:Nat):Int).toNat then some (List.replicate n b,r) else _)=_;rw [if_neg (by omega),if_pos (by omega),List.append_nil]
 | cons x l ih =>
  intro n m b hm hn hx;simp only [List.length_cons] at hm hn ⊢;rw [Hl]
  by_cases hb:x=b
  ·rw [if_pos hb];have:=ih (n+1) m b (by omega) (by omega) (fun y hy=>hx y (by simp [hy]));rw [show n+(l.length+1)=n+1+l.length by omega,this,hb,List.replicate_succ',List.append_assoc];rfl
  ·rw [if_neg hb];obtain ⟨m,rfl⟩:∃k,m=k+1:=⟨m-1,by omega⟩;rw [rL,if_neg (by omega),List.append_assoc,Wq _ (by omega)];show (if (n:Int)>((n+(l.length+1):Nat):Int) then none else if n+(l.length+1)=((n:Nat):Int).toNat then _ else (rd ((e x++Hl e x 0 l)++r)).bind fun z=>if z.1=b then none else (rL rd m (n+(l.length+1)-((n:Nat):Int).toNat-1) z.1 z.2).map fun u=>(List.replicate ((n:Nat):Int).toNat b++z.1::u.1,u.2))=_;rw [if_neg (by omega),if_neg (by omega),List.append_assoc,hx x (by simp)];show (if x=b then none else (rL rd m (n+(l.length+1)-((n:Nat):Int).toNat-1) x (Hl e x 0 l++r)).map fun u=>(List.replicate ((n:Nat):Int).toNat b++x::u.1,u.2))=_;have:=ih 0 m x (by omega) (by omega) (fun y hy=>hx y (by simp [hy]));rw [if_neg hb,Int.toNat_natCast,show n+(l.length+1)-n-1=0+l.length by omega,this];rfl
theorem A8v {α:Type} [DecidableEq α] {rd:List Int→Option (α×List Int)} {e:α→List Int} (r:List Int) (l:List α) (b:α) (hl:l.length<1000000000) (hx:∀x∈l,∀r,rd (e x++r)=some (x,r)) :
  rL rd (l.length+1) l.length b (Hl e b 0 l++r)=some (l,r):=by
 have:=A9u (rd:=rd) r l 0 (l.length+1) b (by omega) (by omega) hx
 simpa using this
theorem A3t {α:Type} {g:Nat}:∀(rows:List (List α)),(∀r∈rows,r.length=g)→S1 g rows.length rows.flatten=rows:=by
 intro rows
 induction rows with
 | nil=>intro _;rfl
 | cons r rows ih =>
  intro h;have hr:=h r (by simp);rw [List.length_cons,S1,List.flatten_cons,List.take_left' hr,List.drop_left' hr,ih fun r hr=>h r (by simp [hr])]
theorem vVal.sm {v:api_Span} (h:vVal v):smS v:=by obtain ⟨a,b,c⟩:=h;exact ⟨by omega,b,by omega⟩
theorem smI {x lo hi:Int} (h:inB x lo hi) (h1:-100000000000≤lo) (h2:hi≤100000000000):Go.Proofs.YtifbomimeodibaaGreat.sm x:=⟨by have:=h.1;omega,by have:=h.2;omega⟩
theorem A4k {t:volume_thing} (r:List Int) (h:vT t):Ky (C1 t++r)=some (t,r):=by
 cases t with
 | nil_=>exact h.elim
 | ic156 s =>
  have hv:vSweep s.Sweep:=h;have hlen:=hv.len;have hv':=hv;obtain ⟨hsite,ti,tm,h1,h2,h3⟩:=hv';have hsite':=hsite;obtain ⟨n,x,y,z,ro,g,st,w⟩:=hsite';have hm:4*s.Sweep.Site.Rose*s.Sweep.Site.Gates≤360*s.Sweep.Site.Gates:=Int.mul_le_mul_of_nonneg_right (by have:=ro.2;omega) (by have:=g.1;omega);have hg2:=g.2;show Ky (Qt s.Sweep++r)=_;simp only [Qt,Gi,Sv,List.flatMap_cons,List.flatMap_nil,List.append_nil,List.append_assoc];rw [Ky,Me _ (by decide) ⟨by decide,by decide⟩];show Tj _=_;rw [Tj,A6e _ (by have:=U8 n;omega)];show (rI _).bind _=_;rw [A1g _ (smI x (by decide) (by decide))];show (rI _).bind _=_;rw [A1g _ (smI y (by decide) (by decide))];show (rN _).bind _=_;rw [Me _ (by have:=z.1;omega) (smI z (by decide) (by decide))];show (rN _).bind _=_;rw [Me _ (by have:=ro.1;omega) (smI ro (by decide) (by decide))];show (rN _).bind _=_;rw [Me _ (by have:=g.1;omega) (smI g (by decide) (by decide))];show (rN _).bind _=_;rw [Me _ (by have:=st.1;omega) (smI st (by decide) (by decide))];show (rN _).bind _=_;rw [Me _ (by have:=w.1;omega) (smI w (by decide) (by decide))];show (rN _).bind _=_;rw [Me _ (by have:=ti.1;omega) (smI ti (by decide) (by decide))];show (rN _).bind _=_;rw [Me _ (by have:=tm.1;omega) (smI tm (by decide) (by decide))];show (if W5 s.Sweep.Site then (rL rE ((4*s.Sweep.Site.Rose*s.Sweep.Site.Gates).toNat+1) (4*s.Sweep.Site.Rose*s.Sweep.Site.Gates).toNat e0 (Hl H6 e0 0 s.Sweep.Rays.flatten++r)).bind fun all=>some (volume_thing.ic156 ⟨⟨s.Sweep.Site,s.Sweep.Tilt,s.Sweep.Time,S1 s.Sweep.Site.Gates.toNat (4*s.Sweep.Site.Rose).toNat all.1⟩⟩,all.2) else none)=_;rw [if_pos hsite,←hlen,Int.toNat_natCast,A8v r s.Sweep.Rays.flatten e0 (by omega) (fun x hx r=>B11 r (by obtain ⟨row,hr,hx⟩:=List.mem_flatten.1 hx;exact h3 row hr x hx))];show some (volume_thing.ic156 ⟨⟨s.Sweep.Site,s.Sweep.Tilt,s.Sweep.Time,S1 s.Sweep.Site.Gates.toNat (4*s.Sweep.Site.Rose).toNat s.Sweep.Rays.flatten⟩⟩,r)=_;rw [←h1,Int.toNat_natCast,A3t _ (fun r hr=>by have:=h2 r hr;omega)]
 | ic158 f =>
  obtain ⟨n,tm,hg,h1,h2⟩:=(show Wz f from h);have hgl:=T5 hg;have hg':=hg;obtain ⟨x,y,z,ro,g⟩:=hg';show Ky (Q6 f++r)=_;simp only [Q6,Gi,Sv,List.flatMap_cons,List.flatMap_nil,List.append_nil,List.append_assoc];rw [Ky,Me _ (by decide) ⟨by decide,by decide⟩];show Th _=_;rw [Th,A6e _ (by have:=U8 n;omega)];show (rN _).bind _=_;rw [Me _ (by have:=tm.1;omega) (smI tm (by decide) (by decide))];show (rI _).bind _=_;rw [A1g _ (smI x (by decide) (by decide))];show (rI _).bind _=_;rw [A1g _ (smI y (by decide) (by decide))];show (rN _).bind _=_;rw [Me _ (by have:=z.1;omega) (smI z (by decide) (by decide))];show (rN _).bind _=_;rw [Me _ (by have:=ro.1;omega) (smI ro (by decide) (by decide))];show (rN _).bind _=_;rw [Me _ (by have:=g.1;omega) (smI g (by decide) (by decide))];show (if Ut f.Field.Grid then (rL rS ((f.Field.Grid.Wide*f.Field.Grid.High).toNat+1) (f.Field.Grid.Wide*f.Field.Grid.High).toNat ⟨0,0⟩ (Hl G4 ⟨0,0⟩ 0 f.Field.Vals++r)).bind fun all=>some (volume_thing.ic158 ⟨f.key,f.time,⟨f.Field.Grid,all.1⟩⟩,all.2) else none)=_;rw [if_pos hg,←h1,Int.toNat_natCast,A8v r f.Field.Vals ⟨0,0⟩ (by omega) (fun v hv r=>Yp r (h2 v hv).sm)];rfl
 | ic160 n =>
  obtain ⟨tm,h1,h2⟩:=(show A00 n from h);show Ky (Td n++r)=_;simp only [Td,Gi,List.flatMap_cons,List.flatMap_nil,List.append_nil,List.append_assoc];rw [Ky,Me _ (by decide) ⟨by decide,by decide⟩];show X9 _=_;rw [X9,Me _ (by have:=tm.1;omega) (smI tm (by decide) (by decide))];show (rT _).bind _=_;rw [A6e _ (by omega)];rfl
theorem A22 {t:volume_thing} (h:vT t):unS (Gc t)=(t,0):=by
 have hl:=Qu h.ok;unfold unS Gc N9;rw [List.append_assoc,Wq _ (by omega)];show (if (((C1 t++Xh (E0 (C1 t).length++C1 t)).length:Nat):Int)≠((C1 t).length:Int)+5 then _ else _)=_;rw [if_neg (by rw [List.length_append,Rr];simp)];have e:(E0 (C1 t).length++(C1 t++Xh (E0 (C1 t).length++C1 t))).length-5=(E0 (C1 t).length++C1 t).length:=by simp only [List.length_append,Rr];omega
 rw [e,←List.append_assoc,List.drop_left,List.take_left,if_neg (by simp),Int.toNat_natCast,List.take_left];have:=A4k [] h;rw [List.append_nil] at this;rw [this];show (if vT t∧([]:List Int)=[] then _ else _)=_;rw [if_pos ⟨h,rfl⟩]
end Go.Proofs.YtifbomimeodibaaGreat
namespace Go.Proofs.YtifbomimeodibaaGreat
open Go Go.RowKit Go.Eng
set_option maxRecDepth 10000
set_option linter.unusedVariables false
set_option linter.unusedSimpArgs false
def Bl (ps:List (List Int)):List Int:=ps.flatMap fun p=>0::p
theorem D3 (p:List Int) (ps:List (List Int)):Bl (p::ps)=0::(p++Bl ps):=by simp [Bl]
theorem B07 (l:List Int) (h:By l):∃p ps,l=p++Bl ps∧Nz p∧∀q∈ps,Nz q:=by
 induction l with
 | nil=>exact ⟨[],[],rfl,Nz.nil,fun q hq=>by cases hq⟩
 | cons x l ih =>
  obtain ⟨p,ps,h1,h2,h3⟩:=ih fun y hy=>h y (by simp [hy]);have hx:=h x (by simp)
  by_cases h0:x=0
  ·refine ⟨[],p::ps,by rw [h0,h1,D3];rfl,Nz.nil,fun q hq=>?_⟩;rcases List.mem_cons.1 hq with rfl|hq
   ·exact h2
   ·exact h3 q hq
  ·refine ⟨x::p,ps,by rw [h1];rfl,fun y hy=>?_,h3⟩;rcases List.mem_cons.1 hy with rfl|hy
   ·omega
   ·exact h2 y hy
theorem A5z {ps:List (List Int)} (h:∀q∈ps,Nz q):By (Bl ps):=fun x hx=>by
 obtain ⟨p,hp,hx⟩:=List.mem_flatMap.1 hx;rcases List.mem_cons.1 hx with rfl|hx
 ·exact ⟨by decide,by decide⟩
 ·exact (h p hp).by x hx
theorem A8x {x:Int} (h:1≤x∧x<256):(UInt8.ofNat x.toNat==(0:Int).toNat.toUInt8)=false:=by
 rw [beq_eq_false_iff_ne];intro he;have:=congrArg UInt8.toNat he;rw [UInt8.toNat_ofNat_of_lt' (show x.toNat<256 by omega)] at this;simp at this;omega
theorem A5x {p:List Int} (h:Nz p):A5v p 0=-1:=by
 induction p with
 | nil=>rfl
 | cons x p ih =>
  have:=ih fun y hy=>h y (by simp [hy]);unfold A5v at this ⊢;show Lib.indexByte (UInt8.ofNat x.toNat::Lib.bytesOf p) _=_;rw [Lib.indexByte,A8x (h x (by simp)),if_neg (by simp),this];rfl
theorem A5w {p:List Int} (l:List Int) (h:Nz p):A5v (p++0::l) 0=p.length:=by
 induction p with
 | nil=>rfl
 | cons x p ih =>
  have:=ih fun y hy=>h y (by simp [hy]);unfold A5v at this ⊢;show Lib.indexByte (UInt8.ofNat x.toNat::Lib.bytesOf (p++0::l)) _=_;rw [Lib.indexByte,A8x (h x (by simp)),if_neg (by simp),this,if_neg (by rw [beq_iff_eq];omega)];simp
def Y7 {σ X:Type} (body:σ→X→Option (σ×Bool)):List X→σ→Option (σ×Bool)
 | [],s=>some (s,true)
 | x::l,s=>(body s x).bind fun q=>bif q.2 then Y7 body l q.1 else some (q.1,false)
def Yl:Int→List (List Int)→List (Int×List Int)
 | _,[]=>[]
 | k,p::ps=>(k,p)::Yl (k+1+p.length) ps
theorem A1f {σ:Type} (body:σ→Int×List Int→Option (σ×Bool)) (b:List Int) (hb:b.length≤1000000000):∀(ps:List (List Int)) (m k:Nat) (s:σ),ps≠[]→b.drop k=Bl ps→(∀q∈ps,Nz q)→ps.length<m →
  Er body b m k s=Y7 body (Yl k ps) s:=by
 intro ps
 induction ps with
 | nil=>intro m k s h;exact absurd rfl h
 | cons p ps ih =>
  intro m k s _ hd hz hm;obtain ⟨m,rfl⟩:∃m',m=m'+1:=⟨m-1,by omega⟩;rw [D3] at hd;have hk:k<b.length:=by
   rcases Nat.lt_or_ge k b.length with h|h
   ·exact h
   ·rw [List.drop_of_length_le h] at hd;cases hd
  have hd1:b.drop (k+1)=p++Bl ps:=by
   have:=congrArg List.tail hd;rw [List.tail_drop] at this;exact this
  have hlen:=congrArg List.length hd1;rw [List.length_drop,List.length_append] at hlen;have hp:Nz p:=hz p (by simp);rw [Er,Hc,Aq (by rw [dT (show (k:Int)≥0 by omega),dT (show (k:Int)<(b.length:Int) by omega)];rfl),ckb (by omega),Jt (k+1) (by omega) rfl (by omega),hd1]
  cases ps with
  | nil =>
   have e:p++Bl []=p:=by simp [Bl]
   have hi:Bm (p++Bl []) 0=-1:=by rw [e];exact A5x hp
   rw [hi,Aq (by rfl),ckb (by omega),Jt (k+1) (by omega) rfl (by omega),hd1,e];rfl
  | cons p2 ps =>
   have hi:Bm (p++Bl (p2::ps)) 0=p.length:=by rw [D3];exact A5w _ hp
   have hj:(Bl (p2::ps)).length≥1:=by rw [D3];simp
   rw [hi,Ao (dF (by omega)),ckb (by omega),ckb (by omega),ckb (by omega),A3x (k+1) (k+1+p.length) (by omega) (by omega) (by omega),hd1,show k+1+p.length-(k+1)=p.length by omega,List.take_left];rw [Yl,Y7]
   congr 1
   funext q
   cases hq:q.2 with
   | false=>rfl
   | true =>
    rw [Aq rfl,Aq rfl,ckb (by omega),ckb (by omega)];have:=ih m (k+1+p.length) q.1 (by simp) (by rw [←List.drop_drop,hd1,List.drop_left]) (fun r hr=>hz r (by simp [hr])) (by simp at hm ⊢;omega);rw [show ((k:Int)+(1+(p.length:Int)))=((k+1+p.length:Nat):Int) by omega,this];rw [show ((k+1+p.length:Nat):Int)=(k:Int)+1+p.length by omega]
theorem A4h {σ:Type} (F:Nat) (body:σ→Int×List Int→Option (σ×Bool)) {p:List Int} {ps:List (List Int)} (hp:Nz p) (hz:∀q∈ps,Nz q) (hl:(p++Bl ps).length≤1000000000) (hF:ps.length<F) (s:σ) :
  Gh F (p++Bl ps) body s=Y7 body (Yl p.length ps) s:=by
 rw [Gh]
 cases ps with
 | nil =>
  have e:p++Bl []=p:=by simp [Bl]
  have hi:Bm (p++Bl []) 0=-1:=by rw [e];exact A5x hp
  obtain ⟨G,rfl⟩:∃G,F=G+1:=⟨F-1,by omega⟩;rw [hi,Er,Hc,Ao (by rfl)];rfl
 | cons q qs =>
  have hi:Bm (p++Bl (q::qs)) 0=p.length:=by rw [D3];exact A5w _ hp
  rw [hi];exact A1f body _ hl _ F p.length s (by simp) (by rw [List.drop_left]) hz hF
theorem Wj (ps:List (List Int)):ps.length≤(Bl ps).length:=by
 induction ps with
 | nil=>simp
 | cons p ps ih=>rw [D3];simp;omega
def Cs (t:volume_thing):volume_Item:=t.cs default Aw Av Ay
theorem A7m (F:Nat) {t:volume_thing} (h:t≠.nil_):Kt F t=some (Cs t):=by
 cases t with
 | nil_=>exact absurd rfl h
 | ic156 s=>rfl
 | ic158 f=>rfl
 | ic160 n=>rfl
theorem A6z {p:List Int} (h:(unS p).2=0):vT (unS p).1:=by
 unfold unS at h ⊢
 split
 ·rename_i h1;rw [h1] at h;cases h
 ·rename_i n r h1
  rw [h1] at h;simp only at h
  split
  ·rename_i h2;rw [if_pos h2] at h;cases h
  ·rename_i h2
   rw [if_neg h2] at h
   split
   ·rename_i h3;rw [if_pos h3] at h;cases h
   ·rename_i h3
    rw [if_neg h3] at h
    split
    ·rename_i h4;rw [h4] at h;cases h
    ·rename_i t r2 h4
     rw [h4] at h;simp only at h
     split
     ·rename_i h5;exact h5.1
     ·rename_i h5;rw [if_neg h5] at h;cases h
theorem vT.nn {t:volume_thing} (h:vT t):t≠.nil_:=fun e=>by rw [e] at h;exact h
def Wh (p:List Int):Bool:=p.all fun c=>decide (c≥128)&&decide (c≤254)
def Yv (p:List Int):Bool:=Wh p||match rN p with
 | none=>false
 | some (n,r)=>decide ((r.length:Int)<n+5)
theorem A4p {F:Nat} (hF:1000≤F) {p:List Int} (hp:By p) (hl:p.length≤1000000000):∀(m i:Nat) (c:Bool),p.length-i<m→i≤p.length →
  Jq F p m i c=Lc F p (c&&Wh (p.drop i)):=by
 intro m
 induction m with
 | zero=>intro i c h;omega
 | succ m ih =>
  intro i c h hi;rw [Jq,N8]
  by_cases hb:i<p.length
  ·have hd:=List.drop_eq_getElem_cons hb;rw [Aq (dT (by omega)),E4 i p[i] rfl (List.getElem?_eq_getElem hb),ckb (by omega),show ((i:Int)+1)=((i+1:Nat):Int) by omega,ih (i+1) _ (by omega) (by omega)]
   congr 1
   rw [hd];have e:Wh (p[i]::p.drop (i+1))=(decide (p[i]≥128)&&decide (p[i]≤254)&&Wh (p.drop (i+1))):=List.all_cons ..;rw [e]
   cases c<;>cases decide (p[i]≥128)<;>cases decide (p[i]≤254)<;>cases Wh (p.drop (i+1))<;>rfl
  ·rw [Ao (dF (by omega)),List.drop_of_length_le (by omega)];simp [Wh]
theorem A86 {F:Nat} (hF:1000≤F) {p:List Int} (hp:By p) (hlF:p.length<F) (hl:p.length≤1000000000):Pl F p=some (Yv p):=by
 rw [Pl,show (0:Int)=((0:Nat):Int) from rfl,A4p hF hp hl F 0 true (by omega) (by omega),Lc,List.drop_zero,Bool.true_and];unfold Yv;rcases A1h hF hp with ⟨r,h1,h2⟩|⟨n,r,h1,h2⟩
 ·rw [h1,h2,sbd]
  cases Wh p<;>rfl
 ·obtain ⟨a,b,c⟩:=Dm hp h2;have:=c.length_le;rw [h1,h2,sbd]
  cases Wh p with
  | true=>rfl
  | false =>
   show ((ck (n+5)).bind fun x26=>some (decide ((r.length:Int)<x26)))=_;rw [ckb (by omega)];rfl
noncomputable def rdF (total:Int):Int→List (List Int)→List volume_Item×Int×Int
 | _,[]=>([],total,0)
 | k,p::ps=>if (unS p).2=0 then (Cs (unS p).1::(rdF total (k+1+p.length) ps).1,(rdF total (k+1+p.length) ps).2) else ([],k,if ps=[]∧Yv p=true then 16 else (unS p).2)
theorem A4l {F:Nat} (hF:200000≤F) (b:List Int) (hb:b.length<F) (hb9:b.length≤1000000000) (total:Int):∀(ps:List (List Int)) (k:Int) (acc:List volume_Item),0≤k→k+(Bl ps).length=b.length→(∀q∈ps,Nz q)→acc.length+ps.length≤1000000000 →
  ∃tg:Nat,Y7 (Jp F b) (Yl k ps) (acc,total,0,0)=some ((acc++(rdF total k ps).1,(rdF total k ps).2.1,(rdF total k ps).2.2,tg),decide (tg≠3))∧(tg=0∨tg=3):=by
 intro ps
 induction ps with
 | nil=>intro k acc h0 h1 h2 h3;exact ⟨0,by simp [Yl,Y7,rdF],.inl rfl⟩
 | cons p ps ih =>
  intro k acc h0 h1 h2 h3;have hp:=(h2 p (by simp)).by
  rw [D3] at h1;simp only [List.length_cons,List.length_append] at h1 h3;have hun:=B1d hF hp (by omega) (by omega);rw [Yl,Y7,rdF,Jp];simp only [hun,sbd]
  by_cases h:(unS p).2=0
  ·have hv:=A6z h;have happ:(apd 224 acc [Cs (unS p).1]).bind (fun l405=>some ((l405,total,(0:Int),0),true))=some ((acc++[Cs (unS p).1],total,(0:Int),(0:Nat)),true):=Gq (by simp;omega) (by decide);rw [Ao (by simp [h]),A7m F hv.nn,sbd,if_pos h,happ,sbd,Aq rfl];obtain ⟨tg,h4,h5⟩:=ih (k+1+p.length) (acc++[Cs (unS p).1]) (by omega) (by omega) (fun q hq=>h2 q (by simp [hq])) (by simp;omega);refine ⟨tg,?_,h5⟩;rw [h4,List.append_assoc];rfl
  ·rw [Aq (by simp [h]),ckb (by omega),ckb (by omega),if_neg h];refine ⟨3,?_,.inr rfl⟩;have hlast:(k+1+(p.length:Int)==(b.length:Int))=decide (ps=[]):=by
    cases ps with
    | nil=>simp [Bl] at h1;simp;omega
    | cons q qs=>rw [D3] at h1;simp at h1;simp;omega
   rw [hlast]
   by_cases h6:ps=[]
   ·rw [dT h6,gdT (by rfl),A86 (by omega) hp (by omega) (by omega),sbd,Aq (c:=true) rfl]
    cases ht:Yv p with
    | true=>rw [Aq (by rfl),sbd,Ao rfl,if_pos ⟨h6,rfl⟩];simp
    | false=>rw [Ao (by rfl),sbd,Ao rfl,if_neg (by simp)];simp
   ·rw [dF h6,gdF (by rfl),sbd,Ao (c:=false) rfl,Ao (by rfl),sbd,Ao rfl,if_neg (fun h=>h6 h.1)];simp
def RVF1:List Int:=[82,86,70,49]
theorem RVF1_nz:Nz RVF1:=by intro x hx;simp [RVF1] at hx;omega
theorem A4i (F:Nat) (l:List Int) (hl:By l):Gb F (RVF1++l) RVF1=some true:=by
 unfold Gb;rw [Aq (dT (by rw [List.length_append];omega)),Q5 4 rfl (by rfl) (by rw [List.length_append];simp [RVF1]),show (4:Nat)=RVF1.length from rfl,List.take_left,bEq RVF1_nz.by RVF1_nz.by];simp
end Go.Proofs.YtifbomimeodibaaGreat
namespace Go.Proofs.YtifbomimeodibaaGreat
open Go Go.RowKit Go.Eng
set_option maxRecDepth 10000
set_option linter.unusedVariables false
set_option linter.unusedSimpArgs false
def okI (t:volume_thing):Prop:=vT t∧tzT t∧(C1 t).length≤6000
theorem okI.of {t:volume_thing} (h1:vT t) (h2:tzT t) (h3:cnt t≤32):okI t:=⟨h1,h2,by have:=Xb h1.ok;omega⟩
end Go.Proofs.YtifbomimeodibaaGreat
namespace Go.Proofs.YtifbomimeodibaaGreat
open Go Go.RowKit Go.Eng
set_option maxRecDepth 10000
set_option linter.unusedVariables false
set_option linter.unusedSimpArgs false
theorem Tl (s:ByteArray):sEq s s=true:=W0.2 rfl
theorem T1 {x:Int}:(x != x)=false:=by simp
theorem A0a {t:volume_thing} (h:t≠.nil_):F4 (Cs t)=t:=by
 cases t with
 | nil_=>exact absurd rfl h
 | ic156 s =>
  show F4 (Aw s)=_;simp [F4,Aw,Tl]
 | ic158 f =>
  show F4 (Av f)=_;simp [F4,Av,Tl];rfl
 | ic160 n =>
  show F4 (Ay n)=_;simp [F4,Ay,Tl];rfl
def R5 (ts:List volume_thing):List Int:=Bl (ts.map Gc)
theorem V2 (t:volume_thing) (ts:List volume_thing):R5 (t::ts)=Ko t++R5 ts:=by
 unfold R5 Ko;rw [List.map_cons,D3];rfl
theorem A2g {t:volume_thing} (h:vT t):(Gc t).length≤(C1 t).length+14:=by
 have hl:=Qu h.ok;have h9:=Df (x:=((C1 t).length:Int)) ⟨by omega,by omega⟩;rw [Int.toNat_natCast] at h9;unfold Gc N9;simp only [List.length_append,Rr];omega
def Wk (t:volume_thing):Int:=t.cs 0 (fun _=>1) (fun _=>2) (fun _=>3)
def Hf (t:volume_thing):Int:=t.cs 0 (fun s=>s.Sweep.Time) (fun f=>f.time) (fun n=>n.time)
end Go.Proofs.YtifbomimeodibaaGreat
namespace Go.Proofs.YtifbomimeodibaaGreat
open Go Go.RowKit Go.Eng
set_option maxRecDepth 10000
set_option linter.unusedVariables false
set_option linter.unusedSimpArgs false
theorem A34 {α:Type} [DecidableEq α] {a b:List α} {i:Nat} (ha:i<a.length) (hb:i<b.length):decide (a.drop i=b.drop i)=(decide (a[i]=b[i])&&decide (a.drop (i+1)=b.drop (i+1))):=by
 rw [List.drop_eq_getElem_cons ha,List.drop_eq_getElem_cons hb,Bool.eq_iff_iff,decide_eq_true_eq,List.cons.injEq,Bool.and_eq_true,decide_eq_true_eq,decide_eq_true_eq]
theorem A0w {α:Type} [DecidableEq α] {a b:List α} {i:Nat} (ha:a.length≤i) (hb:b.length≤i):decide (a.drop i=b.drop i)=true:=by
 rw [List.drop_of_length_le ha,List.drop_of_length_le hb];simp
theorem A26 (a b:List Int) (hl:a.length=b.length) (h9:a.length≤1000000000):∀(m i:Nat),a.length-i<m→i≤a.length→Jl a b m i=some (decide (a.drop i=b.drop i)):=by
 intro m
 induction m with
 | zero=>intro i h;omega
 | succ m ih =>
  intro i h hi;rw [Jl,Mk]
  by_cases hb:i<a.length
  ·rw [Aq (dT (by omega)),E4 i a[i] rfl (List.getElem?_eq_getElem hb),E4 i b[i] rfl (List.getElem?_eq_getElem (by omega)),A34 hb (by omega)]
   by_cases he:a[i]=b[i]
   ·rw [Ao (by simp [he]),ckb (by omega)];have:=ih (i+1) (by omega) (by omega);rw [show ((i:Int)+1)=((i+1:Nat):Int) by omega,this,dT he,Bool.true_and]
   ·rw [Aq (by simp [he]),dF he,Bool.false_and]
  ·rw [Ao (dF (by omega)),Ml,A0w (by omega) (by omega)]
theorem A58 {F:Nat} {a b:List Int} (hF:a.length<F) (h9:a.length≤1000000000):Kv F a b=some (decide (a=b)):=by
 rw [Kv]
 by_cases h:a.length=b.length
 ·rw [Ao (by simp [h]),show (0:Int)=((0:Nat):Int) from rfl,A26 a b h h9 F 0 (by omega) (by omega),List.drop_zero,List.drop_zero]
 ·rw [Aq (by simp;omega),dF (fun e=>h (by rw [e]))]
theorem A3i (a b:ByteArray):sEq a b=decide (a=b):=by rw [Bool.eq_iff_iff,W0,decide_eq_true_eq]
end Go.Proofs.YtifbomimeodibaaGreat
namespace Go.Proofs.YtifbomimeodibaaGreat
open Go Go.RowKit Go.Eng
set_option maxRecDepth 10000
set_option linter.unusedVariables false
set_option linter.unusedSimpArgs false
def off (ts:List volume_thing) (i:Nat):Nat:=4+(R5 (ts.take i)).length
end Go.Proofs.YtifbomimeodibaaGreat
namespace Go.Proofs.YtifbomimeodibaaGreat
open Go Go.RowKit Go.Eng
set_option maxRecDepth 10000
set_option linter.unusedVariables false
set_option linter.unusedSimpArgs false
theorem A9r:∀(k:Nat) (f:Bool) (l:List Int) (x:Int) (r:List Int),By l→rdD k f l=some (x,r)→l=E0 x.toNat++r∧0≤x∧(f=false→x≠0):=by
 intro k
 induction k with
 | zero=>intro f l x r _ h;cases h
 | succ k ih =>
  intro f l x r hb h
  cases l with
  | nil=>cases h
  | cons c l =>
   have hc:=hb c (by simp);rw [rdD] at h
   split at h
   ·cases h
   ·rename_i g1
    have g2:c≠0:=fun e=>g1 (.inl e);have g3:c≠255:=fun e=>g1 (.inr (.inl e));have g4:f=false→c≠1:=fun hf e=>g1 (.inr (.inr ⟨e,hf⟩))
    split at h
    ·rename_i g5
     cases h
     refine ⟨?_,by omega,fun hf=>by have:=g4 hf;omega⟩;rw [R8 (by omega),List.singleton_append]
     congr 1;omega
    ·rename_i g5
     obtain ⟨z,hz,he⟩:=Option.map_eq_some_iff.1 h;obtain ⟨y,r'⟩:=z
     cases he
     obtain ⟨h1,h2,h3⟩:=ih false l y r' (fun x hx=>hb x (by simp [hx])) hz;have h4:=h3 rfl;refine ⟨?_,by simp only;omega,fun _=>by simp only;omega⟩;simp only;have e1:(c-128+127*y).toNat%127=(c-128).toNat:=by omega
     have e2:(c-128+127*y).toNat/127=y.toNat:=by omega
     rw [U9 (by omega),e1,e2,List.cons_append,←h1]
     congr 1;omega
theorem J5 {l:List Int} {x:Int} {r:List Int} (hb:By l) (h:rN l=some (x,r)):l=E0 x.toNat++r∧0≤x:=by
 obtain ⟨a,b,_⟩:=A9r 8 true l x r hb h;exact ⟨a,b⟩
theorem A8m {n:Int} (h:0≤n):(zig (unz n):Int)=n:=by
 unfold zig unz
 split<;>split<;>omega
theorem Yo {l:List Int} {x:Int} {r:List Int} (hb:By l) (h:rI l=some (x,r)):l=E0 (zig x)++r:=by
 obtain ⟨n,r',h1,h2⟩:=Bf h
 cases h2
 obtain ⟨a,b⟩:=J5 hb h1;rw [show zig (unz n)=n.toNat by have:=A8m b;omega];exact a
theorem A2i {l:List Int} {x:ByteArray} {r:List Int} (hb:By l) (h:rT l=some (x,r)):l=Ks x++r:=by
 obtain ⟨n,r',h1,h2⟩:=Bf h;obtain ⟨a,b⟩:=J5 hb h1;have hs:=(Dm hb h1).2.2
 split at h2
 ·cases h2
 ·rename_i g
  cases h2
  have hbt:By (r'.take n.toNat):=fun x hx=>hb.suf hs x (List.mem_of_mem_take hx);have hsz:(bst (r'.take n.toNat)).size=n.toNat:=by
   rw [←Ll,Xt hbt,List.length_take];simp only at g;omega
  rw [Ks,hsz,Xt hbt,List.append_assoc];show l=E0 n.toNat++(r'.take n.toNat++r'.drop n.toNat);rw [List.take_append_drop];exact a
theorem Vc {l:List Int} {x:api_Span} {r:List Int} (hb:By l) (h:rS l=some (x,r)):l=G4 x++r:=by
 obtain ⟨lo,r1,h1,h⟩:=Bf h;obtain ⟨n,r2,h2,h⟩:=Bf h
 cases h
 have a:=Yo hb h1;have hb1:=hb.suf (Ti hb h1).2;obtain ⟨c,d⟩:=J5 hb1 h2;try simp only at c d
 rw [G4];rw [show lo+n-lo=n by omega,List.append_assoc,←c];exact a
theorem A9t {l:List Int} {x:api_Echo} {r:List Int} (hb:By l) (h:rE l=some (x,r)):l=H6 x++r:=by
 obtain ⟨k,r0,h0,h⟩:=Bf h;obtain ⟨a0,b0⟩:=J5 hb h0;have hb0:=hb.suf (Dm hb h0).2.2;simp only at h
 split at h
 ·rename_i hk
  obtain ⟨n,r1,h1,h⟩:=Bf h
  cases h
  obtain ⟨a1,b1⟩:=J5 hb0 h1;rw [H6];simp only;rw [if_pos hk,List.append_assoc,←a1];exact a0
 ·rename_i hk
  obtain ⟨p,r1,h1,h⟩:=Bf h;have a1:=Vc hb0 h1;have hb1:=hb0.suf (Na hb0 h1).2;obtain ⟨q,r2,h2,h⟩:=Bf h;have a2:=Vc hb1 h2;have hb2:=hb1.suf (Na hb1 h2).2;obtain ⟨m,r3,h3,h⟩:=Bf h;have a3:=Vc hb2 h3;have hb3:=hb2.suf (Na hb2 h3).2;obtain ⟨s,r4,h4,h⟩:=Bf h;obtain ⟨a4,_⟩:=J5 hb3 h4;have hb4:=hb3.suf (Dm hb3 h4).2.2;simp only at h a1 a2 a3 a4
  split at h
  ·rename_i hk3
   obtain ⟨a,r5,h5,h⟩:=Bf h;have a5:=Vc hb4 h5;have hb5:=hb4.suf (Na hb4 h5).2;obtain ⟨b,r6,h6,h⟩:=Bf h;have a6:=Vc hb5 h6;have hb6:=hb5.suf (Na hb5 h6).2;obtain ⟨t,r7,h7,h⟩:=Bf h;have a7:=Vc hb6 h7
   cases h
   try simp only at a5 a6 a7
   rw [H6];simp only;rw [if_neg hk,if_pos hk3];simp only [List.append_assoc];rw [←a7,←a6,←a5,←a4,←a3,←a2,←a1];exact a0
  ·rename_i hk3
   cases h
   rw [H6];simp only;rw [if_neg hk,if_neg hk3];simp only [List.append_assoc,List.append_nil];rw [←a4,←a3,←a2,←a1];exact a0
theorem A1n {α:Type} [DecidableEq α] (e:α→List Int) (b:α) (v:List α):∀(n j:Nat),Hl e b j (List.replicate n b++v)=Hl e b (j+n) v:=by
 intro n
 induction n with
 | zero=>intro j;rfl
 | succ n ih =>
  intro j;rw [List.replicate_succ,List.cons_append,Hl,if_pos rfl,ih,show j+1+n=j+(n+1) by omega]
theorem A6d {α:Type} [DecidableEq α] {rd:List Int→Option (α×List Int)} {e:α→List Int} (hc:∀l x r,By l→rd l=some (x,r)→l=e x++r) (hs:∀l x r,By l→rd l=some (x,r)→r <:+ l):∀(m n:Nat) (b:α) (l:List Int) (u:List α) (r:List Int),By l→rL rd m n b l=some (u,r)→l=Hl e b 0 u++r:=by
 intro m
 induction m with
 | zero=>intro n b l u r _ h;cases h
 | succ m ih =>
  intro n b l u r hb h;rw [rL] at h
  split at h
  ·cases h;rfl
  ·rename_i h0
   obtain ⟨k,r1,h1,h⟩:=Bf h;obtain ⟨a,b1⟩:=J5 hb h1;have hb1:=hb.suf (Dm hb h1).2.2;simp only at h
   split at h
   ·cases h
   ·split at h
    ·rename_i hk
     cases h
     have:=A1n e b [] n 0;rw [List.append_nil,Nat.zero_add] at this;rw [this,Hl,if_neg h0,hk];exact a
    ·obtain ⟨z,r2,h2,h⟩:=Bf h;simp only at h
     split at h
     ·cases h
     ·rename_i hz
      obtain ⟨⟨u',r'⟩,h3,h4⟩:=Option.map_eq_some_iff.1 h
      cases h4
      have a2:=hc _ _ _ hb1 h2;have hb2:=hb1.suf (hs _ _ _ hb1 h2);have a3:=ih _ _ _ _ _ hb2 h3;rw [A1n,Nat.zero_add,Hl,if_neg hz];simp only [List.append_assoc];rw [←a3,←a2];exact a
theorem A04 {α:Type} {g:Nat}:∀(n:Nat) (l:List α),l.length=n*g→(S1 g n l).flatten=l:=by
 intro n
 induction n with
 | zero=>intro l h;rw [Nat.zero_mul] at h;rw [List.eq_nil_of_length_eq_zero h];rfl
 | succ n ih =>
  intro l h;rw [Nat.add_mul,Nat.one_mul] at h;rw [S1,List.flatten_cons,ih _ (by rw [List.length_drop];omega),List.take_append_drop]
theorem A2j {l:List Int} {t:volume_thing} {r:List Int} (hb:By l) (h:Ky l=some (t,r)):l=C1 t++r:=by
 obtain ⟨k,r0,h0,h⟩:=Bf h;obtain ⟨a0,_⟩:=J5 hb h0;have b0:=hb.suf (Dm hb h0).2.2;simp only at h
 split at h
 ·rename_i hk
  unfold Tj at h;obtain ⟨nm,r1,h1,h⟩:=Bf h;have a1:=A2i b0 h1;have b1:=b0.suf (A3f b0 h1).1;obtain ⟨x,r2,h2,h⟩:=Bf h;have a2:=Yo b1 h2;have b2:=b1.suf (Ti b1 h2).2;obtain ⟨y,r3,h3,h⟩:=Bf h;have a3:=Yo b2 h3;have b3:=b2.suf (Ti b2 h3).2;obtain ⟨z,r4,h4,h⟩:=Bf h;have a4:=(J5 b3 h4).1;have b4:=b3.suf (Dm b3 h4).2.2;obtain ⟨ro,r5,h5,h⟩:=Bf h;have a5:=(J5 b4 h5).1;have b5:=b4.suf (Dm b4 h5).2.2;obtain ⟨g,r6,h6,h⟩:=Bf h;have a6:=(J5 b5 h6).1;have b6:=b5.suf (Dm b5 h6).2.2;obtain ⟨st,r7,h7,h⟩:=Bf h;have a7:=(J5 b6 h7).1;have b7:=b6.suf (Dm b6 h7).2.2;obtain ⟨w,r8,h8,h⟩:=Bf h;have a8:=(J5 b7 h8).1;have b8:=b7.suf (Dm b7 h8).2.2;obtain ⟨ti,r9,h9,h⟩:=Bf h;have a9:=(J5 b8 h9).1;have b9:=b8.suf (Dm b8 h9).2.2;obtain ⟨tm,r10,h10,h⟩:=Bf h;have a10:=(J5 b9 h10).1;have b10:=b9.suf (Dm b9 h10).2.2;simp only at h a0 a1 a2 a3 a4 a5 a6 a7 a8 a9 a10
  split at h
  ·rename_i hv
   obtain ⟨all,r11,h11,h⟩:=Bf h
   cases h
   obtain ⟨_,_,_,_,⟨c1,c2⟩,⟨c3,c4⟩,_⟩:=hv;simp only at c1 c2 c3 c4;have hlen:=(A2h (fun l x r hb h=>Yn hb h) _ _ _ _ _ _ b10 h11).1;have a11:=A6d (e:=H6) (fun l x r hb h=>A9t hb h) (fun l x r hb h=>Yn hb h) _ _ _ _ _ _ b10 h11;have hl2:all.length=(4*ro).toNat*g.toNat:=by
    rw [hlen];have:(4*ro*g)=(((4*ro).toNat*g.toNat:Nat):Int):=by
     push_cast
     rw [show ((4*ro).toNat:Int)=4*ro by omega,show (g.toNat:Int)=g by omega]
    omega
   show l=Qt ⟨⟨nm,x,y,z,ro,g,st,w⟩,ti,tm,S1 g.toNat (4*ro).toNat all⟩++r11;simp only [Qt,Gi,Sv,List.flatMap_cons,List.flatMap_nil,List.append_nil,List.append_assoc,A04 _ _ hl2];try simp only at a11
   rw [←a11,←a10,←a9,←a8,←a7,←a6,←a5,←a4,←a3,←a2,←a1,←hk];exact a0
  ·cases h
 ·split at h
  ·rename_i hk
   unfold Th at h;obtain ⟨nm,r1,h1,h⟩:=Bf h;have a1:=A2i b0 h1;have b1:=b0.suf (A3f b0 h1).1;obtain ⟨tm,r2,h2,h⟩:=Bf h;have a2:=(J5 b1 h2).1;have b2:=b1.suf (Dm b1 h2).2.2;obtain ⟨x,r3,h3,h⟩:=Bf h;have a3:=Yo b2 h3;have b3:=b2.suf (Ti b2 h3).2;obtain ⟨y,r4,h4,h⟩:=Bf h;have a4:=Yo b3 h4;have b4:=b3.suf (Ti b3 h4).2;obtain ⟨sz,r5,h5,h⟩:=Bf h;have a5:=(J5 b4 h5).1;have b5:=b4.suf (Dm b4 h5).2.2;obtain ⟨wd,r6,h6,h⟩:=Bf h;have a6:=(J5 b5 h6).1;have b6:=b5.suf (Dm b5 h6).2.2;obtain ⟨hi,r7,h7,h⟩:=Bf h;have a7:=(J5 b6 h7).1;have b7:=b6.suf (Dm b6 h7).2.2;simp only at h a0 a1 a2 a3 a4 a5 a6 a7
   split at h
   ·obtain ⟨all,r8,h8,h⟩:=Bf h
    cases h
    have a8:=A6d (e:=G4) (fun l x r hb h=>Vc hb h) (fun l x r hb h=>(Na hb h).2) _ _ _ _ _ _ b7 h8;show l=Q6 ⟨nm,tm,⟨⟨x,y,sz,wd,hi⟩,all⟩⟩++r8;simp only [Q6,Gi,Sv,List.flatMap_cons,List.flatMap_nil,List.append_nil,List.append_assoc];try simp only at a8
    rw [←a8,←a7,←a6,←a5,←a4,←a3,←a2,←a1,←hk];exact a0
   ·cases h
  ·split at h
   ·rename_i hk
    unfold X9 at h;obtain ⟨tm,r1,h1,h⟩:=Bf h;have a1:=(J5 b0 h1).1;have b1:=b0.suf (Dm b0 h1).2.2;obtain ⟨tx,r2,h2,h⟩:=Bf h;have a2:=A2i b1 h2
    cases h
    show l=Td ⟨tm,tx⟩++r2;simp only [Td,Gi,List.flatMap_cons,List.flatMap_nil,List.append_nil,List.append_assoc];try simp only at a0 a1 a2
    rw [←a2,←a1,←hk];exact a0
   ·cases h
theorem A8b {p:List Int} (hb:By p) (h:(unS p).2=0):p=Gc (unS p).1:=by
 unfold unS at h ⊢
 split
 ·rename_i h1;rw [h1] at h;cases h
 ·rename_i n r h1
  rw [h1] at h;simp only at h;obtain ⟨a,n0⟩:=J5 hb h1;have hb1:=hb.suf (Dm hb h1).2.2
  split
  ·rename_i h2;rw [if_pos h2] at h;cases h
  ·rename_i h2
   rw [if_neg h2] at h;have hlen:(r.length:Int)=n+5:=Decidable.of_not_not h2
   split
   ·rename_i h3;rw [if_pos h3] at h;cases h
   ·rename_i h3
    rw [if_neg h3] at h;have hsum:p.drop (p.length-5)=Xh (p.take (p.length-5)):=Decidable.of_not_not h3
    split
    ·rename_i h4;rw [h4] at h;cases h
    ·rename_i t r2 h4
     rw [h4] at h;simp only at h
     split
     ·rename_i h5
      have hc:=A2j (fun x hx=>hb1 x (List.mem_of_mem_take hx)) h4;rw [h5.2,List.append_nil] at hc;have htl:(C1 t).length=n.toNat:=by rw [←hc,List.length_take];omega
      have hpk:p.take (p.length-5)=N9 (C1 t):=by
       rw [N9,htl,←hc,a];have:(E0 n.toNat++r).length-5=(E0 n.toNat).length+n.toNat:=by rw [List.length_append];omega
       rw [this,List.take_length_add_append]
      show p=Gc t;rw [Gc,←hpk,←hsum,List.take_append_drop]
     ·rename_i h5;rw [if_neg h5] at h;cases h
end Go.Proofs.YtifbomimeodibaaGreat
namespace Go.Proofs.YtifbomimeodibaaGreat
open Go Go.RowKit Go.Eng Go.Sort
set_option linter.unusedVariables false
theorem R3:∀a b:List Int,(H5 a b<0↔0<H5 b a)∧(H5 a b=0↔a=b)
 | [],[]=>by simp [H5]
 | [],_::_=>by simp [H5]
 | _::_,[]=>by simp [H5]
 | x::a,y::b=>by
  have ih:=R3 a b;unfold H5
  by_cases h:x<y
  ·rw [if_pos h,if_neg (show ¬y<x by omega),if_pos h];have:x≠y:=by omega
   simp [this]
  ·rw [if_neg h]
   by_cases h':y<x
   ·rw [if_pos h',if_pos h'];have:x≠y:=by omega
    simp [this]
   ·rw [if_neg h',if_neg h',if_neg h];obtain rfl:x=y:=by omega
    simp only [List.cons.injEq,true_and];exact ih
theorem X2:∀a b c:List Int,H5 a b≤0→H5 b c≤0→H5 a c≤0
 | [],_,[]=>by simp [H5]
 | [],_,_::_=>by simp [H5]
 | _::_,[],_=>by simp [H5]
 | _::_,_::_,[]=>by simp [H5]
 | x::a,y::b,z::c=>by
  have ih:=X2 a b c;unfold H5
  by_cases h:x<y
  ·rw [if_pos h]
   by_cases h2:y<z
   ·rw [if_pos h2,if_pos (show x<z by omega)];omega
   ·rw [if_neg h2]
    by_cases h3:z<y
    ·rw [if_pos h3];omega
    ·rw [if_neg h3,if_pos (show x<z by omega)];omega
  ·rw [if_neg h]
   by_cases h':y<x
   ·rw [if_pos h'];omega
   ·rw [if_neg h'];obtain rfl:x=y:=by omega
    by_cases h2:x<z
    ·rw [if_pos h2,if_pos h2];omega
    ·rw [if_neg h2,if_neg h2]
     by_cases h3:z<x
     ·rw [if_pos h3];omega
     ·rw [if_neg h3,if_neg h3];exact ih
theorem A27 (a:List Int):H5 a a=0:=(R3 a a).2.2 rfl
theorem Rh (x y:volume_entry):E2 x y<0↔0<E2 y x:=by
 unfold E2
 by_cases h:x.time=y.time
 ·rw [if_pos h,if_pos h.symm];exact (R3 _ _).1
 ·rw [if_neg h,if_neg (Ne.symm h)];omega
theorem V1 {x y:volume_entry} (h:E2 x y=0):x=y:=by
 unfold E2 at h
 by_cases h':x.time=y.time
 ·rw [if_pos h'] at h;have:=(R3 _ _).2.1 h
  cases x;cases y;simp_all
 ·rw [if_neg h'] at h;omega
theorem V0 (x:volume_entry):E2 x x=0:=by unfold E2;rw [if_pos rfl];exact A27 _
theorem Pa {x y z:volume_entry} (h:E2 x y≤0) (h':E2 y z≤0):E2 x z≤0:=by
 unfold E2 at *
 by_cases h1:x.time=y.time
 ·rw [if_pos h1] at h
  by_cases h2:y.time=z.time
  ·rw [if_pos h2] at h';rw [if_pos (h1.trans h2)];exact X2 _ _ _ h h'
  ·rw [if_neg h2] at h';rw [if_neg (by omega)];omega
 ·rw [if_neg h1] at h
  by_cases h2:y.time=z.time
  ·rw [if_neg (by omega)];omega
  ·rw [if_neg h2] at h';rw [if_neg (by omega)];omega
theorem Ld {x y:volume_entry}:¬E2 x y<0↔E2 y x≤0:=by rw [Rh];omega
theorem enSWO:SWO (ltOf E2):=by
 constructor
 ·intro x;unfold ltOf;rw [V0];rfl
 ·intro x y z h1 h2;unfold ltOf at *;simp only [decide_eq_true_eq] at *;apply Classical.byContradiction;intro h3;have h4:=Pa (Ld.1 h3) (show E2 x y≤0 by omega);have:=(Rh y z).1 h2;omega
 ·intro x y z h1 h2;unfold ltOf at *;simp only [decide_eq_false_iff_not] at *;exact Ld.2 (Pa (Ld.1 h2) (Ld.1 h1))
theorem A3z {l m:List volume_entry} (hp:m.Perm l) (hs:m.Pairwise (fun x y=>ltOf E2 y x=false)):m=l.mergeSort fun x y=>decide (E2 x y≤0):=by
 refine List.Perm.eq_of_pairwise (le:=fun x y=>E2 x y≤0) (fun x y _ _ h1 h2=>?_) (hs.imp fun {x y} h=>?_) ?_ (hp.trans (List.mergeSort_perm _ _).symm)
 ·refine V1 ?_;have:=Rh x y;omega
 ·unfold ltOf at h;exact Ld.1 (by simpa using h)
 ·refine (List.pairwise_mergeSort (le:=fun x y=>decide (E2 x y≤0)) (fun a b c h1 h2=>?_) (fun a b=>?_) l).imp fun {x y} h=>by simpa using h
  ·simp only [decide_eq_true_eq] at *;exact Pa h1 h2
  ·simp only [Bool.or_eq_true,decide_eq_true_eq]
   by_cases h:E2 a b<0
   ·left;omega
   ·right;exact Ld.1 h
end Go.Proofs.YtifbomimeodibaaGreat
namespace Go.Proofs.YtifbomimeodibaaGreat
open Go Go.RowKit Go.Eng
set_option maxRecDepth 10000
set_option linter.unusedVariables false
set_option linter.unusedSimpArgs false
theorem X4 {x y z:volume_entry} (h:E2 x y<0) (h':E2 y z≤0):E2 x z<0:=by
 apply Classical.byContradiction;intro h3;have:=Pa h' (Ld.1 h3);have:=(Rh x y).1 h;omega
def Str (l:List volume_entry):Prop:=l.Pairwise fun x y=>E2 x y<0
theorem A21:∀{l m:List volume_entry},Str l→Str m→(∀x,x∈l↔x∈m)→l=m
 | [],[],_,_,_=>rfl
 | [],b::m,_,_,h=>by have:=(h b).2 (by simp);cases this
 | a::l,[],_,_,h=>by have:=(h a).1 (by simp);cases this
 | a::l,b::m,hl,hm,h=>by
  obtain ⟨h1,h2⟩:=List.pairwise_cons.1 hl;obtain ⟨h3,h4⟩:=List.pairwise_cons.1 hm;have e:a=b:=by
   rcases List.mem_cons.1 ((h a).1 (by simp)) with e|e
   ·exact e
   ·rcases List.mem_cons.1 ((h b).2 (by simp)) with e'|e'
    ·exact e'.symm
    ·have k1:=h3 a e;have k2:=h1 b e';have:=(Rh a b).1 k2;omega
  subst e;have hn:∀x,x∈l→x≠a:=fun x hx he=>by
   have:=h1 x hx;rw [he,V0] at this;omega
  have hn':∀x,x∈m→x≠a:=fun x hx he=>by
   have:=h3 x hx;rw [he,V0] at this;omega
  rw [A21 h2 h4 fun x=>?_];constructor
  ·intro hx;exact (List.mem_cons.1 ((h x).1 (List.mem_cons_of_mem _ hx))).resolve_left (hn x hx)
  ·intro hx;exact (List.mem_cons.1 ((h x).2 (List.mem_cons_of_mem _ hx))).resolve_left (hn' x hx)
def Wi (e:volume_entry):List volume_entry→List volume_entry
 | []=>[e]
 | x::r=>if E2 x e<0 then x::Wi e r else if E2 e x<0 then e::x::r else x::r
theorem Y8 (e x:volume_entry):∀l,x∈Wi e l↔x=e∨x∈l
 | []=>by simp [Wi]
 | y::r=>by
  unfold Wi
  split
  ·rw [List.mem_cons,Y8 e x r,List.mem_cons];constructor
   ·rintro (h|h|h)<;>simp [h]
   ·rintro (h|h|h)<;>simp [h]
  ·split
   ·simp
   ·rename_i h1 h2
    have:y=e:=by
     refine V1 ?_;have:=Ld.1 h2;omega
    subst this;simp
theorem A15 (e:volume_entry):∀{l},Str l→Str (Wi e l)
 | [],_=>by simp [Wi,Str]
 | y::r,h=>by
  obtain ⟨h1,h2⟩:=List.pairwise_cons.1 h;unfold Wi
  split
  ·rename_i hy
   refine List.pairwise_cons.2 ⟨fun x hx=>?_,A15 e h2⟩;rcases (Y8 e x r).1 hx with rfl|hx
   ·exact hy
   ·exact h1 x hx
  ·split
   ·rename_i hy
    refine List.pairwise_cons.2 ⟨fun x hx=>?_,h⟩;rcases List.mem_cons.1 hx with rfl|hx
    ·exact hy
    ·have:=h1 x hx;exact X4 hy (by omega)
   ·exact h
theorem Vq:∀(s:List volume_entry) (p:volume_entry),(p::s).Pairwise (fun x y=>E2 x y≤0)→(∀x∈p::s,∀y∈p::s,x.block=y.block→x=y)→Str (p::Uz p s)∧∀x,x∈p::Uz p s↔x∈p::s
 | [],p,_,_=>⟨by simp [Uz,Str],fun x=>by simp [Uz]⟩
 | x::xs,p,hp,hi=>by
  obtain ⟨h1,h2⟩:=List.pairwise_cons.1 hp;unfold Uz
  by_cases hb:x.block=p.block
  ·have e:x=p:=hi x (by simp) p (by simp) hb;subst e;rw [if_pos rfl];obtain ⟨k1,k2⟩:=Vq xs x h2 (fun a ha b hb=>hi a (List.mem_cons_of_mem _ ha) b (List.mem_cons_of_mem _ hb));refine ⟨k1,fun z=>?_⟩;rw [k2 z];simp
  ·rw [if_neg hb];obtain ⟨k1,k2⟩:=Vq xs x h2 (fun a ha b hb=>hi a (List.mem_cons_of_mem _ ha) b (List.mem_cons_of_mem _ hb));have hlt:E2 p x<0:=by
    have h3:=h1 x (by simp);have h4:E2 p x≠0:=fun h=>hb (by rw [V1 h]);omega
   refine ⟨List.pairwise_cons.2 ⟨fun z hz=>?_,k1⟩,fun z=>?_⟩
   ·rcases List.mem_cons.1 ((k2 z).1 hz) with rfl|hz
    ·exact hlt
    ·exact X4 hlt ((List.pairwise_cons.1 h2).1 z hz)
   ·rw [List.mem_cons,k2 z,List.mem_cons (l:=x::xs)]
def A5b (l:List volume_entry):List volume_entry:=l.foldl (fun acc e=>Wi e acc) []
theorem A11 (x:volume_entry):∀(l acc:List volume_entry),x∈l.foldl (fun acc e=>Wi e acc) acc↔x∈l∨x∈acc
 | [],acc=>by simp
 | e::l,acc=>by
  rw [List.foldl_cons,A11 x l,Y8];simp only [List.mem_cons];constructor
  ·rintro (h|h|h)<;>simp [h]
  ·rintro ((h|h)|h)<;>simp [h]
theorem A12:∀(l acc:List volume_entry),Str acc→Str (l.foldl (fun acc e=>Wi e acc) acc)
 | [],acc,h=>h
 | e::l,acc,h=>A12 l _ (A15 e h)
theorem A5c (x:volume_entry) (l:List volume_entry):x∈A5b l↔x∈l:=by unfold A5b;rw [A11];simp
theorem A5d (l:List volume_entry):Str (A5b l):=A12 l [] List.Pairwise.nil
theorem A5i (l:List volume_entry) (hi:∀x∈l,∀y∈l,x.block=y.block→x=y):A3v (l.mergeSort fun x y=>decide (E2 x y≤0))=A5b l:=by
 have hp:=List.mergeSort_perm l fun x y=>decide (E2 x y≤0);have hs:(l.mergeSort fun x y=>decide (E2 x y≤0)).Pairwise (fun x y=>E2 x y≤0):=by
  refine (List.pairwise_mergeSort (le:=fun x y=>decide (E2 x y≤0)) (fun a b c h1 h2=>?_) (fun a b=>?_) l).imp fun {x y} h=>by simpa using h
  ·simp only [decide_eq_true_eq] at *;exact Pa h1 h2
  ·simp only [Bool.or_eq_true,decide_eq_true_eq]
   by_cases h:E2 a b<0
   ·left;omega
   ·right;exact Ld.1 h
 generalize (l.mergeSort fun x y=>decide (E2 x y≤0))=s at *;refine A21 ?_ (A5d l) fun x=>?_
 ·cases s with
  | nil=>exact List.Pairwise.nil
  | cons p s=>exact (Vq s p hs (fun a ha b hb=>hi a (hp.mem_iff.1 ha) b (hp.mem_iff.1 hb))).1
 ·rw [A5c,←hp.mem_iff]
  cases s with
  | nil=>rfl
  | cons p s=>exact (Vq s p hs (fun a ha b hb=>hi a (hp.mem_iff.1 ha) b (hp.mem_iff.1 hb))).2 x
def en (t:volume_thing):volume_entry:=⟨Hf t,Ko t⟩
theorem A54 {x y:volume_thing} (hx:vT x) (hy:vT y) (h:Ko x=Ko y):x=y:=by
 have hp:Gc x=Gc y:=(List.cons.inj h).2;have:=A22 hx;rw [hp,A22 hy] at this;exact (Prod.mk.inj this).1.symm
def T6 (t:volume_thing):List volume_thing→List volume_thing
 | []=>[t]
 | v::r=>if E2 (en v) (en t)<0 then v::T6 t r else if E2 (en t) (en v)<0 then t::v::r else v::r
theorem A3c (t:volume_thing):∀l,(T6 t l).map en=Wi (en t) (l.map en)
 | []=>rfl
 | v::r=>by
  unfold T6;rw [List.map_cons,Wi]
  split
  ·rw [List.map_cons,A3c t r]
  ·split<;>rfl
theorem Ya (t x:volume_thing):∀l,x∈T6 t l→x=t∨x∈l
 | [],h=>by simpa [T6] using h
 | v::r,h=>by
  unfold T6 at h
  split at h
  ·rcases List.mem_cons.1 h with h|h
   ·simp [h]
   ·rcases Ya t x r h with h|h<;>simp [h]
  ·split at h
   ·simpa using h
   ·exact .inr h
theorem Y9 (t:volume_thing):∀l,(T6 t l).length≤l.length+1
 | []=>by simp [T6]
 | v::r=>by
  unfold T6;have:=Y9 t r
  split
  ·simp;omega
  ·split<;>simp
def X7 (acc:List volume_thing) (l:List volume_thing):List volume_thing:=l.foldl (fun acc t=>T6 t acc) acc
theorem A10:∀(l acc:List volume_thing),(X7 acc l).map en=(l.map en).foldl (fun acc e=>Wi e acc) (acc.map en)
 | [],acc=>rfl
 | t::l,acc=>by
  show (X7 (T6 t acc) l).map en=_;rw [A10 l,A3c];rfl
theorem Zs (x:volume_thing):∀(l acc:List volume_thing),x∈X7 acc l→x∈l∨x∈acc
 | [],acc,h=>.inr h
 | t::l,acc,h=>by
  rcases Zs x l (T6 t acc) h with h|h
  ·exact .inl (List.mem_cons_of_mem _ h)
  ·rcases Ya t x acc h with rfl|h
   ·exact .inl (by simp)
   ·exact .inr h
theorem Zr:∀(l acc:List volume_thing),(X7 acc l).length≤acc.length+l.length
 | [],acc=>by simp [X7]
 | t::l,acc=>by
  have:=Zr l (T6 t acc);have:=Y9 t acc;show (X7 (T6 t acc) l).length≤_;rw [List.length_cons];omega
def Wa (l:List volume_thing):List volume_thing:=X7 [] l
theorem A7e (l:List volume_thing):(Wa l).map en=A5b (l.map en):=A10 l []
theorem Xx {l:List volume_thing} {x:volume_thing} (h:x∈Wa l):x∈l:=(Zs x l [] h).resolve_right (fun h=>by cases h)
theorem Xw (l:List volume_thing):(Wa l).length≤l.length:=by have:=Zr l [];unfold Wa;simpa using this
end Go.Proofs.YtifbomimeodibaaGreat
namespace Go.Proofs.YtifbomimeodibaaGreat
open Go Go.RowKit Go.Eng
set_option maxRecDepth 10000
set_option linter.unusedVariables false
set_option linter.unusedSimpArgs false
def okJ (t:volume_thing):Prop:=vT t∧(C1 t).length≤6000
theorem A8k (F:Nat) {t:volume_thing} (h:t≠.nil_):N7 F t=some (Hf t):=by
 cases t with
 | nil_=>exact absurd rfl h
 | ic156 s=>rfl
 | ic158 s=>rfl
 | ic160 s=>rfl
theorem A8j {t:volume_thing} (h:vT t):0≤Hf t∧Hf t≤4294967296:=by
 cases t with
 | nil_=>exact h.elim
 | ic156 s=>exact (show vSweep s.Sweep from h).2.2.1
 | ic158 s=>exact (show Wz s from h).2.1
 | ic160 s=>exact (show A00 s from h).1
theorem A53 (t:volume_thing):By (Ko t):=by
 intro x hx;unfold Ko at hx;rcases List.mem_cons.1 hx with rfl|hx
 ·omega
 ·unfold Gc at hx;rcases List.mem_append.1 hx with hx|hx
  ·unfold N9 at hx;rcases List.mem_append.1 hx with hx|hx
   ·exact Xr _ x hx
   ·exact Wx t x hx
  ·exact (A3k _).by x hx
theorem B0k {t:volume_thing} (h:vT t):enB (en t):=by
 have:=A8j h;exact ⟨⟨by show -4000000000000000000≤Hf t;omega,by show Hf t≤4000000000000000000;omega⟩,A53 t⟩
theorem okJ.len {t:volume_thing} (h:okJ t):(Ko t).length≤6015:=by
 have:=A2g h.1;have:=h.2;unfold Ko;rw [List.length_cons];omega
theorem A5y {F:Nat} (hF:200000≤F) (ts:List volume_thing) (hv:∀t∈ts,okJ t) (hn:ts.length≤1000) (x:Int) (k4:Int→List volume_entry→Option (List Int×Int)) (y:List volume_Item×Int×Int) (hy:y.1=ts.map Cs):∀(m i:Nat) (acc:List volume_entry),ts.length-i<m→i≤ts.length→acc.length≤1000+i →
  Fb F x k4 y m i acc=H8 x k4 (acc++(ts.drop i).map en):=by
 intro m
 induction m with
 | zero=>intro i acc h;omega
 | succ m ih =>
  intro i acc h hi ha;rw [Fb,N0,hy,List.length_map]
  by_cases hb:i<ts.length
  ·have hd:=List.drop_eq_getElem_cons hb;have ht:=hv ts[i] (List.getElem_mem hb);rw [Aq (dT (by omega)),E4 i (Cs ts[i]) rfl (by rw [List.getElem?_map,List.getElem?_eq_getElem hb];rfl),A0a ht.1.nn,A8k F ht.1.nn,sbd,A55 hF ht.1.ok (by have:=ht.2;omega),sbd,Gq (by simp;omega) (by decide),ckb (by omega),show ((i:Int)+1)=((i+1:Nat):Int) by omega];refine Eq.trans (ih (i+1) _ (by omega) (by omega) (by simp;omega)) ?_;rw [hd,List.map_cons,List.append_assoc];rfl
  ·rw [Ao (dF (by omega)),List.drop_of_length_le (by omega)];simp
theorem Zo:∀c:List volume_thing,(∀t∈c,okJ t)→(R5 c).length≤6015*c.length
 | [],_=>by simp [R5,Bl]
 | t::c,h=>by
  have h1:=(h t (by simp)).len;have h2:=Zo c fun t ht=>h t (by simp [ht]);rw [V2,List.length_append,List.length_cons];omega
theorem B0t (c:List volume_thing) (hv:∀t∈c,okJ t) (hn:c.length≤2000):∀(m i:Nat) (acc:List Int),c.length-i<m→i≤c.length→acc.length≤100+6015*i →
  H9 (c.map en) m acc i=L8 (c.map en) (acc++R5 (c.drop i)):=by
 intro m
 induction m with
 | zero=>intro i acc h;omega
 | succ m ih =>
  intro i acc h hi ha;rw [H9,Mz,List.length_map]
  by_cases hb:i<c.length
  ·have hd:=List.drop_eq_getElem_cons hb;have hl:=(hv c[i] (List.getElem_mem hb)).len;rw [Aq (dT (by omega)),E4 i (en c[i]) rfl (by rw [List.getElem?_map,List.getElem?_eq_getElem hb];rfl)];show (apd 1 acc (Ko c[i])).bind _=_;rw [Gq (by omega) (by decide),ckb (by omega),show ((i:Int)+1)=((i+1:Nat):Int) by omega];refine Eq.trans (ih (i+1) _ (by omega) (by omega) (by simp;omega)) ?_;rw [hd,V2,List.append_assoc]
  ·rw [Ao (dF (by omega)),List.drop_of_length_le (by omega)];simp [R5,Bl]
def A0c (c:List volume_thing):List Int×Int:=if c.length>1000 then ([],9) else if (RVF1++R5 c).length>16777216 then ([],8) else (RVF1++R5 c,0)
theorem B0s {F:Nat} (hF:200000≤F) (l:List volume_thing) (hv:∀t∈l,okJ t) (hn:l.length≤2000):L7 F (l.map en)=some (A0c (Wa l)):=by
 have hb:∀s∈l.map en,enB s:=fun s hs=>by
  obtain ⟨t,ht,rfl⟩:=List.mem_map.1 hs;exact B0k (hv t ht).1
 have hp:=List.mergeSort_perm (l.map en) fun x y=>decide (E2 x y≤0);have hlen:=Xw l;rw [L7,Kr,if_pos ⟨hb,by rw [List.length_map];omega⟩,sbd,J0,if_pos ⟨fun s hs=>hb s (hp.mem_iff.1 hs),by rw [hp.length_eq,List.length_map];omega⟩,sbd];rw [A5i (l.map en) (fun x hx y hy he=>by
  obtain ⟨t,ht,rfl⟩:=List.mem_map.1 hx;obtain ⟨u,hu,rfl⟩:=List.mem_map.1 hy;rw [A54 (hv t ht).1 (hv u hu).1 he]),←A7e]
 show H9 _ F RVF1 ((0:Nat):Int)=_;rw [B0t (Wa l) (fun t ht=>hv t (Xx ht)) (by omega) F 0 RVF1 (by omega) (by omega) (by decide),List.drop_zero,L8,List.length_map];unfold A0c
 by_cases h1:(Wa l).length>1000
 ·rw [Aq (dT (by omega)),if_pos h1]
 ·rw [Ao (dF (by omega)),if_neg h1]
  by_cases h2:(RVF1++R5 (Wa l)).length>16777216
  ·rw [Aq (dT (by omega)),if_pos h2]
  ·rw [Ao (dF (by omega)),if_neg h2]
theorem A7n {F:Nat} (hF:200000≤F) {b c:List Int} {ts us:List volume_thing} {k k':Int} (hb:C9 F b=some (ts.map Cs,k,0)) (hc:C9 F c=some (us.map Cs,k',0)) (hv:∀t∈ts,okJ t) (hu:∀t∈us,okJ t) (hn:ts.length≤1000) (hm:us.length≤1000) :
  Gz F b c=some (A0c (Wa (ts++us))):=by
 obtain ⟨G,rfl⟩:∃G,F=G+3:=⟨F-3,by omega⟩;have h6:=fun (x:Int) k4 acc (ha:acc.length≤1000)=>A5y hF ts hv hn x k4 (ts.map Cs,k,0) rfl (G+3) 0 acc (by omega) (by omega) (by omega);have h6':=fun (x:Int) k4 acc (ha:acc.length≤1000)=>A5y hF us hu hm x k4 (us.map Cs,k',0) rfl (G+3) 0 acc (by omega) (by omega) (by omega);rw [Gz,Eo,Fa,Aq (dT (by omega)),E4 (i:=0) 0 b rfl rfl,hb,sbd];show (bif ((0:Int) != 0) then _ else Fb (G+3) 0 _ (ts.map Cs,k,0) (G+3) ((0:Nat):Int) [])=_;rw [Ao (by rfl),h6 _ _ _ (by simp),H8,ckb (by omega),List.drop_zero,List.nil_append,Eo,Fa,Aq (dT (by omega)),E4 (i:=0+1) 1 c rfl rfl,hc,sbd];show (bif ((0:Int) != 0) then _ else Fb (G+3) (0+1) _ (us.map Cs,k',0) (G+3) ((0:Nat):Int) (ts.map en))=_;rw [Ao (by rfl),h6' _ _ _ (by simpa using hn),H8,ckb (by omega),List.drop_zero,Eo,Fa,Ao (dF (by omega)),←List.map_append];exact B0s hF (ts++us) (fun t ht=>(List.mem_append.1 ht).elim (hv t) (hu t)) (by simp;omega)
theorem A48 {F:Nat} (hF:10≤F) {b c:List Int} {x:List volume_Item×Int×Int} (hb:C9 F b=some x) (h:x.2.2≠0):Gz F b c=some ([],x.2.2):=by
 obtain ⟨G,rfl⟩:∃G,F=G+3:=⟨F-3,by omega⟩;rw [Gz,Eo,Fa,Aq (dT (by omega)),E4 (i:=0) 0 b rfl rfl,hb,sbd,Aq (by simpa using h)]
theorem A49 {F:Nat} (hF:200000≤F) {b c:List Int} {ts:List volume_thing} {k:Int} {x:List volume_Item×Int×Int} (hb:C9 F b=some (ts.map Cs,k,0)) (hc:C9 F c=some x) (hv:∀t∈ts,okJ t) (hn:ts.length≤1000) (h:x.2.2≠0):Gz F b c=some ([],x.2.2):=by
 obtain ⟨G,rfl⟩:∃G,F=G+3:=⟨F-3,by omega⟩;have h6:=fun (x:Int) k4 acc (ha:acc.length≤1000)=>A5y hF ts hv hn x k4 (ts.map Cs,k,0) rfl (G+3) 0 acc (by omega) (by omega) (by omega);rw [Gz,Eo,Fa,Aq (dT (by omega)),E4 (i:=0) 0 b rfl rfl,hb,sbd];show (bif ((0:Int) != 0) then _ else Fb (G+3) 0 _ (ts.map Cs,k,0) (G+3) ((0:Nat):Int) [])=_;rw [Ao (by rfl),h6 _ _ _ (by simp),H8,ckb (by omega),List.drop_zero,List.nil_append,Eo,Fa,Aq (dT (by omega)),E4 (i:=0+1) 1 c rfl rfl,hc,sbd,Aq (by simpa using h)]
end Go.Proofs.YtifbomimeodibaaGreat
namespace Go.Proofs.YtifbomimeodibaaGreat
open Go Go.RowKit Go.Eng
set_option maxRecDepth 10000
set_option linter.unusedVariables false
set_option linter.unusedSimpArgs false
end Go.Proofs.YtifbomimeodibaaGreat
namespace Go.Proofs.YtifbomimeodibaaGreat
open Go Go.RowKit Go.Eng
set_option maxRecDepth 10000
set_option linter.unusedVariables false
set_option linter.unusedSimpArgs false
end Go.Proofs.YtifbomimeodibaaGreat
namespace Go.Proofs.YtifbomimeodibaaGreat
open Go Go.RowKit Go.Eng
set_option maxRecDepth 10000
set_option linter.unusedVariables false
set_option linter.unusedSimpArgs false
def Uq {α:Type} (b:List Int) (bad:Bool) (y:Option (α×ref12_reader)) (o:Option (α×List Int)) (ok:α→Prop):Prop :=
 ∃x r,y=some (x,r)∧r.b <:+ b∧ok x∧((bad=false∧o=some (x,r.b)∧r.bad=false)∨(r.bad=true∧(bad=true∨o=none)))
theorem Uq.bind {α β:Type} {b:List Int} {bad:Bool} {y:Option (α×ref12_reader)} {o:Option (α×List Int)} {ok:α→Prop} {ok':β→Prop} (h:Uq b bad y o ok) {f:α×ref12_reader→Option (β×ref12_reader)} {g:α×List Int→Option (β×List Int)}
  (hf:∀x r,r.b <:+ b→ok x→Uq r.b r.bad (f (x,r)) (g (x,r.b)) ok'):Uq b bad (y.bind f) (o.bind g) ok':=by
 obtain ⟨x,r,h1,h2,h3,h4⟩:=h;obtain ⟨x',r',k1,k2,k3,k4⟩:=hf x r h2 h3;refine ⟨x',r',by rw [h1];exact k1,k2.trans h2,k3,?_⟩;rcases h4 with ⟨e1,e2,e3⟩|⟨e1,e2⟩
 ·rcases k4 with ⟨d1,d2,d3⟩|⟨d1,d2⟩
  ·exact .inl ⟨e1,by rw [e2];exact d2,d3⟩
  ·refine .inr ⟨d1,.inr ?_⟩;rcases d2 with d2|d2
   ·rw [e3] at d2;cases d2
   ·rw [e2];exact d2
 ·rcases k4 with ⟨d1,d2,d3⟩|⟨d1,d2⟩
  ·rw [e1] at d1;cases d1
  ·refine .inr ⟨d1,?_⟩;rcases e2 with e2|e2
   ·exact .inl e2
   ·exact .inr (by rw [e2];rfl)
theorem Uq.okk {α:Type} {r:ref12_reader} {x:α} {ok:α→Prop} (h:ok x):Uq r.b r.bad (some (x,⟨r.b,r.bad⟩)) (some (x,r.b)) ok:=by
 refine ⟨x,⟨r.b,r.bad⟩,rfl,List.suffix_refl _,h,?_⟩
 cases hb:r.bad with
 | true=>exact .inr ⟨rfl,.inl rfl⟩
 | false=>exact .inl ⟨rfl,rfl,rfl⟩
theorem Uq.no {α:Type} {r:ref12_reader} {x:α} {ok:α→Prop} {l:List Int} (hl:l <:+ r.b) (h:ok x):Uq r.b r.bad (some (x,⟨l,true⟩)) none ok:=⟨x,⟨l,true⟩,rfl,hl,h,.inr ⟨rfl,.inr rfl⟩⟩
theorem B0a (p:List Int) (bad:Bool) (hp:By p):∀(m i k:Nat) (n:Int),i+k=8→k<m→0≤n→n≤127 ^ i →
  Cv ⟨p,bad⟩ m n (127 ^ i:Nat) i=some (match rdD k (i==0) (p.drop i) with|some y=>(n+127 ^ i*y.1,⟨y.2,bad⟩)|none=>(0,⟨[],true⟩)):=by
 intro m
 induction m with
 | zero=>intro i k n _ h;omega
 | succ m ih =>
  intro i k n hik hk hn0 hn;rw [Cv,G7];have hpi:(127:Int) ^ i≤127 ^ 8:=by
   have:(127:Nat) ^ i≤127 ^ 8:=Nat.pow_le_pow_right (by decide) (by omega)
   exact_mod_cast this
  have e8:(127:Int) ^ 8=67675234241018881:=by decide
  have hp0:(0:Int)<127 ^ i:=Int.pow_pos (by decide);have ecast:((127 ^ i:Nat):Int)=127 ^ i:=by push_cast;rfl
  rw [ecast];simp only
  by_cases hb:i<p.length∧i<8
  ·obtain ⟨k,rfl⟩:∃k',k=k'+1:=⟨k-1,by omega⟩;have hx:=hp p[i] (List.getElem_mem hb.1);rw [dT (show (i:Int)<((p.length:Nat):Int) by omega),dT (show (i:Int)<8 by omega),Aq (by rfl),E4 i p[i] rfl (List.getElem?_eq_getElem hb.1),ckb (by omega),List.drop_eq_getElem_cons hb.1,rdD];have hp7:(127:Int) ^ i≤127 ^ 7:=by
    have:(127:Nat) ^ i≤127 ^ 7:=Nat.pow_le_pow_right (by decide) (by omega)
    exact_mod_cast this
   have e7:(127:Int) ^ 7=532875860165503:=by decide
   have hmul:p[i]*127 ^ i≤256*127 ^ i:=Int.mul_le_mul_of_nonneg_right (by omega) (by omega);have hmul0:0≤p[i]*127 ^ i:=Int.mul_nonneg (by omega) (by omega)
   by_cases hc:p[i]=0∨p[i]=255∨(p[i]=1∧(i==0)=false)
   ·rw [if_pos hc];rcases hc with h|h|⟨h1,h2⟩
    ·rw [h];rfl
    ·rw [h];rfl
    ·rw [h1];have:((i:Int)==0)=false:=by simp at h2;simp;omega
     rw [this];rfl
   ·rw [if_neg hc];have h1:¬p[i]=0:=fun e=>hc (.inl e);have h2:¬p[i]=255:=fun e=>hc (.inr (.inl e));have h3:p[i]=1→i=0:=fun e=>by
     rcases Nat.eq_zero_or_pos i with h|h
     ·exact h
     ·exact absurd (.inr (.inr ⟨e,by simp;omega⟩)) hc
    by_cases hs:p[i]<128
    ·have e1:(p[i]-1)*127 ^ i=p[i]*127 ^ i-127 ^ i:=by rw [Int.sub_mul,Int.one_mul]
     have hcond:(bif (bif (decide (p[i]≥1)) then (decide (p[i]≤127)) else false) then (bif ((i:Int)==0) then true else (decide (p[i]>1))) else false)=true:=by
      rw [dT (show p[i]≥1 by omega),dT (show p[i]≤127 by omega)]
      by_cases hi0:i=0
      ·subst hi0;rfl
      ·rw [dT (show p[i]>1 by have:=fun e=>hi0 (h3 e);omega)];cases ((i:Int)==0)<;>rfl
     rw [if_pos hs,Aq hcond,ckb (by omega),Jt (i+1) (by omega) rfl (by omega),ckb (by omega),ckb (by omega),ckb (by omega)];show some (n+(p[i]-1)*127 ^ i,ref12_reader.mk (p.drop (i+1)) bad)=some (n+127 ^ i*(p[i]-1),⟨p.drop (i+1),bad⟩);rw [Int.mul_comm (127 ^ i) (p[i]-1)]
    ·have e1:(p[i]-128)*127 ^ i=p[i]*127 ^ i-128*127 ^ i:=by rw [Int.sub_mul]
     have e2:(p[i]-128)*127 ^ i≤126*127 ^ i:=Int.mul_le_mul_of_nonneg_right (by omega) (by omega);have e3:0≤(p[i]-128)*127 ^ i:=Int.mul_nonneg (by omega) (by omega);have e4:(127:Int) ^ (i+1)=127 ^ i*127:=Int.pow_succ ..;have hcond:(bif (bif (decide (p[i]≥1)) then (decide (p[i]≤127)) else false) then (bif ((i:Int)==0) then true else (decide (p[i]>1))) else false)=false:=by
      rw [dF (show ¬p[i]≤127 by omega)];cases decide (p[i]≥1)<;>rfl
     rw [if_neg hs,Ao hcond,dF hs,dF (show ¬p[i]>254 by omega),Ao (by rfl),ckb (by omega),ckb (by omega),ckb (by omega),ckb (by omega),ckb (by omega)];have:=ih (i+1) k (n+(p[i]-128)*127 ^ i) (by omega) (by omega) (by omega) (by rw [e4];omega);have ecast2:((127 ^ (i+1):Nat):Int)=127 ^ i*127:=by rw [←e4];push_cast;rfl
     rw [ecast2] at this;rw [show ((i:Int)+1)=((i+1:Nat):Int) by omega,this];have ef:(i+1==0)=false:=rfl;rw [ef]
     cases hr:rdD k false (p.drop (i+1)) with
     | none=>rfl
     | some y =>
      show some (n+(p[i]-128)*127 ^ i+127 ^ (i+1)*y.1,ref12_reader.mk y.2 bad)=some (n+127 ^ i*(p[i]-128+127*y.1),ref12_reader.mk y.2 bad);rw [e4,Int.mul_add,Int.mul_comm (127 ^ i) (p[i]-128),←Int.add_assoc,←Int.mul_assoc]
  ·have hcond:(bif (decide ((i:Int)<((p.length:Nat):Int))) then (decide ((i:Int)<8)) else false)=false:=by
    by_cases h1:i<p.length
    ·rw [dF (show ¬(i:Int)<8 by omega)];cases decide ((i:Int)<((p.length:Nat):Int))<;>rfl
    ·rw [dF (show ¬(i:Int)<((p.length:Nat):Int) by omega)];rfl
   rw [Ao hcond,Ew];have:rdD k (i==0) (p.drop i)=none:=by
    rcases Nat.eq_zero_or_pos k with h|h
    ·subst h;rfl
    ·rw [List.drop_of_length_le (by omega)];obtain ⟨k,rfl⟩:∃k',k=k'+1:=⟨k-1,by omega⟩;rfl
   rw [this]
def okR (x:Int):Prop:=0≤x∧x<67675234241018881
theorem E9 {F:Nat} (hF:1000≤F) {r:ref12_reader} (hp:By r.b):Uq r.b r.bad (Aa F r) (rN r.b) okR:=by
 have:=B0a r.b r.bad hp F 0 8 0 (by omega) (by omega) (by omega) (by decide);have h:Aa F r=some (match rN r.b with|some y=>(y.1,⟨y.2,r.bad⟩)|none=>(0,⟨[],true⟩)):=by
  have e:Aa F r=Cv ⟨r.b,r.bad⟩ F 0 (127 ^ 0:Nat) (0:Nat):=rfl;rw [e,this];show some (match rN r.b with|some y=>(0+127 ^ 0*y.1,ref12_reader.mk y.2 r.bad)|none=>(0,⟨[],true⟩))=_
  cases rN r.b with
  | none=>rfl
  | some y=>show some ((0:Int)+127 ^ 0*y.1,_)=_;rw [show (0:Int)+127 ^ 0*y.1=y.1 by simp]
 rw [h]
 cases hr:rN r.b with
 | none=>exact Uq.no (List.nil_suffix) ⟨by decide,by decide⟩
 | some y =>
  obtain ⟨a,b,c⟩:=Dm hp (show rN r.b=some (y.1,y.2) from hr);refine ⟨y.1,⟨y.2,r.bad⟩,rfl,c,⟨a,b⟩,?_⟩
  cases hb:r.bad with
  | true=>exact .inr ⟨rfl,.inl rfl⟩
  | false=>exact .inl ⟨rfl,rfl,rfl⟩
theorem Ru {F:Nat} (hF:1000≤F) {r:ref12_reader} (hp:By r.b):Uq r.b r.bad (Bb F r) (rI r.b) A6a:=by
 refine (E9 hF hp).bind fun x s hs hx=>?_;obtain ⟨h0,h1⟩:=hx;have hz:=A70 ⟨h0,h1⟩;show Uq s.b s.bad ((Qq x 2).bind fun x11=>bif (x11==1) then (ck (x+1)).bind fun x12=>(Pn (IntKind.i64.wrap (0-x12)) 2).bind fun x13=>some (x13,ref12_reader.mk s.b s.bad) else (Pn x 2).bind fun x14=>some (x14,ref12_reader.mk s.b s.bad)) (some (unz x,s.b)) A6a;unfold unz at hz ⊢;have hrem:Qq x 2=some (x%2):=by
  unfold Qq;rw [if_neg (by decide),Int.tmod_eq_emod_of_nonneg h0]
 rw [hrem,sbd]
 by_cases h2:x%2=1
 ·rw [Aq (by simp [h2]),ckb (by omega),if_pos h2];have hw:IntKind.i64.wrap (0-(x+1))=-(x+1):=by
   simp only [IntKind.wrap,IntKind.signed,IntKind.bits];simp;omega
  rw [hw];have hq:(Pn (-(x+1)) 2)=ck (-((x+1)/2)):=by
   unfold Pn;rw [if_neg (by decide),Int.neg_tdiv,Int.tdiv_eq_ediv_of_nonneg (by omega)]
  rw [hq,ckb (by omega)];rw [if_pos h2] at hz;exact Uq.okk hz
 ·rw [Ao (by simp [h2]),if_neg h2];have hq:(Pn x 2)=ck (x/2):=by
   unfold Pn;rw [if_neg (by decide),Int.tdiv_eq_ediv_of_nonneg h0]
  rw [hq,ckb (by omega)];rw [if_neg h2] at hz;exact Uq.okk hz
theorem A6w {F:Nat} (hF:1000≤F) {r:ref12_reader} (hp:By r.b):Uq r.b r.bad (Dq F r) (rT r.b) (fun s=>s.size≤r.b.length):=by
 refine (E9 hF hp).bind fun x s hs hx=>?_;obtain ⟨h0,h1⟩:=hx;have hl:=hs.length_le;show Uq s.b s.bad (bif (decide (x>((s.b.length:Nat):Int))) then _ else _) (if x>(s.b.length:Int) then none else _) _
 by_cases h2:x>(s.b.length:Int)
 ·rw [Aq (dT h2),if_pos h2];exact Uq.no (List.suffix_refl _) (Nat.zero_le _)
 ·rw [Ao (dF h2),if_neg h2,Q5 x.toNat rfl (by simp only;omega) (by simp only;omega),Jt x.toNat (by simp only;omega) rfl (by simp only;omega)];refine ⟨_,⟨s.b.drop x.toNat,s.bad⟩,rfl,List.drop_suffix _ _,?_,?_⟩
  ·show (bst (s.b.take x.toNat)).size≤_;have:(bst (s.b.take x.toNat)).size=(s.b.take x.toNat).length:=by simp [bst,ByteArray.size]
   rw [this,List.length_take];omega
  ·cases hb:s.bad with
   | true=>exact .inr ⟨rfl,.inl rfl⟩
   | false=>exact .inl ⟨rfl,rfl,rfl⟩
theorem Vk {F:Nat} (hF:1000≤F) {r:ref12_reader} (hp:By r.b):Uq r.b r.bad (Co F r) (rS r.b) okS':=by
 refine (Ru hF hp).bind fun x s hs hx=>?_;refine (E9 hF (hp.suf hs)).bind fun y t ht hy=>?_;obtain ⟨a,b⟩:=hx;obtain ⟨c,d⟩:=hy;show Uq t.b t.bad ((ck (x+y)).bind _) (some (⟨x,x+y⟩,t.b)) okS';rw [ckb (by omega)];exact Uq.okk ⟨a,by show x≤x+y;omega,by show x+y≤_;omega⟩
theorem A8y {F:Nat} (hF:1000≤F) {r:ref12_reader} (hp:By r.b) (p:Int) (h0:0≤p):Uq r.b r.bad (F7 F r p) ((rN r.b).bind fun y=>if y.1>p then none else some y) (fun x=>0≤x∧x≤p):=by
 refine (E9 hF hp).bind fun x s hs hx=>?_;show Uq s.b s.bad (bif (decide (x>p)) then _ else _) (if x>p then none else _) _
 by_cases h2:x>p
 ·rw [Aq (dT h2),if_pos h2];exact Uq.no (List.suffix_refl _) ⟨by decide,h0⟩
 ·rw [Ao (dF h2),if_neg h2];exact Uq.okk ⟨hx.1,by omega⟩
theorem B08 {F:Nat} (hF:1000≤F) {r:ref12_reader} (hp:By r.b):Uq r.b r.bad (Jw F r) (rE r.b) (fun _=>True):=by
 refine (E9 hF hp).bind fun k s hs hk=>?_;have b1:=hp.suf hs;show Uq s.b s.bad (bif (k==1) then _ else _) (if k=1 then _ else _) _
 by_cases h1:k=1
 ·rw [Aq (by simp [h1]),if_pos h1];exact (E9 hF b1).bind fun x t ht hx=>Uq.okk trivial
 ·rw [Ao (by simp [h1]),if_neg h1];refine (Vk hF b1).bind fun p s1 hs1 _=>?_;refine (Vk hF (b1.suf hs1)).bind fun q s2 hs2 _=>?_;refine (Vk hF ((b1.suf hs1).suf hs2)).bind fun m s3 hs3 _=>?_;refine (E9 hF (((b1.suf hs1).suf hs2).suf hs3)).bind fun sp s4 hs4 _=>?_;have b4:=(((b1.suf hs1).suf hs2).suf hs3).suf hs4;show Uq s4.b s4.bad (bif (k==3) then _ else _) (if k=3 then _ else _) _
  by_cases h3:k=3
  ·rw [Aq (by simp [h3]),if_pos h3];refine (Vk hF b4).bind fun a s5 hs5 _=>?_;refine (Vk hF (b4.suf hs5)).bind fun b s6 hs6 _=>?_;exact (Vk hF ((b4.suf hs5).suf hs6)).bind fun t s7 hs7 _=>Uq.okk trivial
  ·rw [Ao (by simp [h3]),if_neg h3];exact Uq.okk trivial
end Go.Proofs.YtifbomimeodibaaGreat
namespace Go.Proofs.YtifbomimeodibaaGreat
open Go Go.RowKit Go.Eng
set_option maxRecDepth 10000
set_option linter.unusedVariables false
set_option linter.unusedSimpArgs false
theorem A4u (F:Nat) (N:Int) (b:api_Span) (k2:Int→Int→List Int→Bool→List api_Span→Option (List api_Span×ref12_reader)) (y:Int×ref12_reader) (hy:y.1≤1000000):∀(m i:Nat) (out:List api_Span),(i:Int)≤y.1→y.1-i<m→out.length+(y.1-i)≤2000000 →
  Cc F N b.Lo b.Hi k2 y m out i=F8 F N b.Lo b.Hi k2 y (out++List.replicate (y.1-i).toNat b):=by
 intro m
 induction m with
 | zero=>intro i out h1 h2;omega
 | succ m ih =>
  intro i out h1 h2 h3;rw [Cc,Gr]
  by_cases hb:(i:Int)<y.1
  ·rw [Aq (dT hb),Gq (by simp;omega) (by decide),ckb (by omega)];have:=ih (i+1) (out++[b]) (by omega) (by omega) (by simp;omega);show Cc F N b.Lo b.Hi k2 y m (out++[b]) ((i:Int)+1)=_;rw [show ((i:Int)+1)=((i+1:Nat):Int) by omega,this,List.append_assoc]
   congr 2
   rw [show (y.1-(i:Int)).toNat=(y.1-((i+1:Nat):Int)).toNat+1 by omega,List.replicate_succ];rfl
  ·rw [Ao (dF hb),show (y.1-(i:Int)).toNat=0 by omega];simp
theorem A74 (F:Nat) (hF:200000≤F) (N:Nat) (hN:N≤100000):∀(m m':Nat) (b:api_Span) (r:ref12_reader) (out:List api_Span),By r.b→out.length≤N→N-out.length<m→N-out.length<m' →
  Uq r.b r.bad (Bn F N m b.Lo b.Hi r.b r.bad out) ((rL rS m' (N-out.length) b r.b).map fun u=>(out++u.1,u.2)) (fun _=>True):=by
 intro m
 induction m with
 | zero=>intro m' b r out _ _ h;omega
 | succ m ih =>
  intro m' b r out hb ho hm hm';obtain ⟨m',rfl⟩:∃k,m'=k+1:=⟨m'-1,by omega⟩;rw [Bn,E6,rL]
  by_cases h0:N-out.length=0
  ·rw [if_pos h0,Ao (dF (by omega)),Bz];have:=Uq.okk (r:=r) (x:=out) (ok:=fun _=>True) trivial
   simpa using this
  ·rw [if_neg h0,Aq (dT (by omega))]
   cases hbad:r.bad with
   | true =>
    rw [Ao (by rfl),Bz];exact ⟨out,⟨r.b,true⟩,rfl,List.suffix_refl _,trivial,.inr ⟨rfl,.inl rfl⟩⟩
   | false =>
    rw [Aq (by rfl),ckb (by omega)];have hrun:=A8y (F:=F) (by omega) (r:=⟨r.b,false⟩) hb ((N:Int)-(out.length:Nat)) (by omega);have ho:((rN r.b).bind fun y=>if y.1>((N-out.length:Nat):Int) then none else if N-out.length=y.1.toNat then some (List.replicate (N-out.length) b,y.2) else (rS y.2).bind fun z=>if z.1=b then none else (rL rS m' (N-out.length-y.1.toNat-1) z.1 z.2).map fun u=>(List.replicate y.1.toNat b++z.1::u.1,u.2)) =
      ((rN r.b).bind fun y=>if y.1>(N:Int)-(out.length:Nat) then none else some y).bind fun y=>if N-out.length=y.1.toNat then some (List.replicate (N-out.length) b,y.2) else (rS y.2).bind fun z=>if z.1=b then none else (rL rS m' (N-out.length-y.1.toNat-1) z.1 z.2).map fun u=>(List.replicate y.1.toNat b++z.1::u.1,u.2):=by
     rw [Option.bind_assoc]
     congr 1
     funext y
     rw [show ((N-out.length:Nat):Int)=(N:Int)-(out.length:Nat) by omega]
     by_cases h:y.1>(N:Int)-(out.length:Nat)
     ·rw [if_pos h,if_pos h];rfl
     ·rw [if_neg h,if_neg h];rfl
    rw [ho,Option.map_bind];refine hrun.bind fun k s hs hk=>?_;have hbs:=hb.suf hs;simp only [Function.comp];have hr:=A4u F N b (Bn F N m) (k,s) (by simp only;omega) F 0 out (by simp only;omega) (by simp only;omega) (by simp only;omega);rw [show (0:Int)=((0:Nat):Int) from rfl,hr,F8,show (k-((0:Nat):Int)).toNat=k.toNat by omega]
    by_cases hk2:N-out.length=k.toNat
    ·rw [if_pos hk2,Ao (dF (by simp;omega))]
     cases m with
     | zero=>omega
     | succ m =>
      rw [Bn,E6,Ao (dF (by simp;omega)),Bz,hk2];exact Uq.okk (r:=s) (x:=out++List.replicate k.toNat b) trivial
    ·rw [if_neg hk2,Aq (dT (by simp;omega)),Option.map_bind];refine (Vk (F:=F) (by omega) hbs).bind fun x t ht _=>?_;have hbt:=hbs.suf ht;simp only [Function.comp];rw [Uf x b,Gq (by simp;omega) (by decide)]
     by_cases hx:x=b
     ·rw [if_pos hx,dT hx,show (bif t.bad then true else true)=true by cases t.bad<;>rfl]
      cases m with
      | zero=>omega
      | succ m =>
       rw [Bn,E6];have hz:∀c:Bool,(bif c then (bif (!true) then ((ck ((N:Int)-(((out++List.replicate k.toNat b++[x]).length:Nat):Int))).bind fun x438 =>
         (F7 F (ref12_reader.mk t.b true) x438).bind fun y439=>Cc F N x.Lo x.Hi (Bn F N m) y439 F (out++List.replicate k.toNat b++[x]) 0) else (Bz x.Lo x.Hi t.b true (out++List.replicate k.toNat b++[x]))) else (Bz x.Lo x.Hi t.b true (out++List.replicate k.toNat b++[x])))=some (out++List.replicate k.toNat b++[x],ref12_reader.mk t.b true):=by
        intro c;cases c<;>rfl
       show Uq t.b t.bad (bif _ then _ else _) _ _;rw [show (out++List.replicate k.toNat b++[x]:List api_Span)=out++List.replicate k.toNat b++[x] from rfl];exact (hz (decide ((((out++List.replicate k.toNat b++[x]).length:Nat):Int)<N)))▸Uq.no (List.suffix_refl _) trivial
     ·rw [if_neg hx,dF hx,show (bif t.bad then true else false)=t.bad by cases t.bad<;>rfl]
      have:=ih m' x t (out++List.replicate k.toNat b++[x]) hbt (by simp;omega) (by simp;omega) (by simp;omega);rw [show N-(out++List.replicate k.toNat b++[x]).length=N-out.length-k.toNat-1 by simp;omega] at this;rw [Option.map_map];simp only [Function.comp_def]
      simpa only [List.append_assoc,List.cons_append,List.nil_append] using this
theorem A88 {F:Nat} (hF:200000≤F) {N:Nat} (hN:N≤100000) {r:ref12_reader} (hl:By r.b):Uq r.b r.bad (Fe F r N) (rL rS (N+1) N ⟨0,0⟩ r.b) (fun _=>True):=by
 have:Uq r.b r.bad (Fe F r N) ((rL rS (N+1) (N-([]:List api_Span).length) ⟨0,0⟩ r.b).map fun u=>([]++u.1,u.2)) (fun _=>True):=A74 F hF N hN F (N+1) ⟨0,0⟩ r [] hl (by simp) (by simp;omega) (by simp)
 simpa using this
theorem A2q (F:Nat) (N:Int) (b:api_Echo) (k2:Int→Int→Int→Int→Int→Int→Int→Int→Int→Int→Int→Int→Int→Int→List Int→Bool→List api_Echo→Option (List api_Echo×ref12_reader)) (y:Int×ref12_reader) (hy:y.1≤1000000):∀(m i:Nat) (out:List api_Echo),(i:Int)≤y.1→y.1-i<m→out.length+(y.1-i)≤2000000 →
  C7 F N b.Kind b.Power.Lo b.Match.Lo b.Match.Hi b.Turn.Lo b.Turn.Hi b.Power.Hi b.Steps.1.Lo b.Steps.1.Hi b.Steps.2.Lo b.Steps.2.Hi b.Spread b.Ratio.Lo b.Ratio.Hi k2 y m out i=Ev F N b.Kind b.Power.Lo b.Match.Lo b.Match.Hi b.Turn.Lo b.Turn.Hi b.Power.Hi b.Steps.1.Lo b.Steps.1.Hi b.Steps.2.Lo b.Steps.2.Hi b.Spread b.Ratio.Lo b.Ratio.Hi k2 y (out++List.replicate (y.1-i).toNat b):=by
 intro m
 induction m with
 | zero=>intro i out h1 h2;omega
 | succ m ih =>
  intro i out h1 h2 h3;rw [C7,G6]
  by_cases hb:(i:Int)<y.1
  ·rw [Aq (dT hb),Gq (by simp;omega) (by decide),ckb (by omega)];have:=ih (i+1) (out++[b]) (by omega) (by omega) (by simp;omega);show C7 F N b.Kind b.Power.Lo b.Match.Lo b.Match.Hi b.Turn.Lo b.Turn.Hi b.Power.Hi b.Steps.1.Lo b.Steps.1.Hi b.Steps.2.Lo b.Steps.2.Hi b.Spread b.Ratio.Lo b.Ratio.Hi k2 y m (out++[b]) ((i:Int)+1)=_;rw [show ((i:Int)+1)=((i+1:Nat):Int) by omega,this,List.append_assoc]
   congr 2
   rw [show (y.1-(i:Int)).toNat=(y.1-((i+1:Nat):Int)).toNat+1 by omega,List.replicate_succ];rfl
  ·rw [Ao (dF hb),show (y.1-(i:Int)).toNat=0 by omega];simp
theorem A4q (F:Nat) (hF:200000≤F) (N:Nat) (hN:N≤100000):∀(m m':Nat) (b:api_Echo) (r:ref12_reader) (out:List api_Echo),By r.b→out.length≤N→N-out.length<m→N-out.length<m' →
  Uq r.b r.bad (Be F N m b.Kind b.Power.Lo b.Match.Lo b.Match.Hi b.Turn.Lo b.Turn.Hi b.Power.Hi b.Steps.1.Lo b.Steps.1.Hi b.Steps.2.Lo b.Steps.2.Hi b.Spread b.Ratio.Lo b.Ratio.Hi r.b r.bad out) ((rL rE m' (N-out.length) b r.b).map fun u=>(out++u.1,u.2)) (fun _=>True):=by
 intro m
 induction m with
 | zero=>intro m' b r out _ _ h;omega
 | succ m ih =>
  intro m' b r out hb ho hm hm';obtain ⟨m',rfl⟩:∃k,m'=k+1:=⟨m'-1,by omega⟩;rw [Be,Dy,rL]
  by_cases h0:N-out.length=0
  ·rw [if_pos h0,Ao (dF (by omega)),Bt];have:=Uq.okk (r:=r) (x:=out) (ok:=fun _=>True) trivial
   simpa using this
  ·rw [if_neg h0,Aq (dT (by omega))]
   cases hbad:r.bad with
   | true =>
    rw [Ao (by rfl),Bt];exact ⟨out,⟨r.b,true⟩,rfl,List.suffix_refl _,trivial,.inr ⟨rfl,.inl rfl⟩⟩
   | false =>
    rw [Aq (by rfl),ckb (by omega)];have hrun:=A8y (F:=F) (by omega) (r:=⟨r.b,false⟩) hb ((N:Int)-(out.length:Nat)) (by omega);have ho:((rN r.b).bind fun y=>if y.1>((N-out.length:Nat):Int) then none else if N-out.length=y.1.toNat then some (List.replicate (N-out.length) b,y.2) else (rE y.2).bind fun z=>if z.1=b then none else (rL rE m' (N-out.length-y.1.toNat-1) z.1 z.2).map fun u=>(List.replicate y.1.toNat b++z.1::u.1,u.2)) =
      ((rN r.b).bind fun y=>if y.1>(N:Int)-(out.length:Nat) then none else some y).bind fun y=>if N-out.length=y.1.toNat then some (List.replicate (N-out.length) b,y.2) else (rE y.2).bind fun z=>if z.1=b then none else (rL rE m' (N-out.length-y.1.toNat-1) z.1 z.2).map fun u=>(List.replicate y.1.toNat b++z.1::u.1,u.2):=by
     rw [Option.bind_assoc]
     congr 1
     funext y
     rw [show ((N-out.length:Nat):Int)=(N:Int)-(out.length:Nat) by omega]
     by_cases h:y.1>(N:Int)-(out.length:Nat)
     ·rw [if_pos h,if_pos h];rfl
     ·rw [if_neg h,if_neg h];rfl
    rw [ho,Option.map_bind];refine hrun.bind fun k s hs hk=>?_;have hbs:=hb.suf hs;simp only [Function.comp];have hr:=A2q F N b (Be F N m) (k,s) (by simp only;omega) F 0 out (by simp only;omega) (by simp only;omega) (by simp only;omega);rw [show (0:Int)=((0:Nat):Int) from rfl,hr,Ev,show (k-((0:Nat):Int)).toNat=k.toNat by omega]
    by_cases hk2:N-out.length=k.toNat
    ·rw [if_pos hk2,Ao (dF (by simp;omega))]
     cases m with
     | zero=>omega
     | succ m =>
      rw [Be,Dy,Ao (dF (by simp;omega)),Bt,hk2];exact Uq.okk (r:=s) (x:=out++List.replicate k.toNat b) trivial
    ·rw [if_neg hk2,Aq (dT (by simp;omega)),Option.map_bind];refine (B08 (F:=F) (by omega) hbs).bind fun x t ht _=>?_;have hbt:=hbs.suf ht;simp only [Function.comp];rw [U3 x b,Gq (by simp;omega) (by decide)]
     by_cases hx:x=b
     ·rw [if_pos hx,dT hx,show (bif t.bad then true else true)=true by cases t.bad<;>rfl]
      cases m with
      | zero=>omega
      | succ m =>
       rw [Be,Dy];have hz:∀c:Bool,(bif c then (bif (!true) then ((ck ((N:Int)-(((out++List.replicate k.toNat b++[x]).length:Nat):Int))).bind fun x438 =>
         (F7 F (ref12_reader.mk t.b true) x438).bind fun y439=>C7 F N x.Kind x.Power.Lo x.Match.Lo x.Match.Hi x.Turn.Lo x.Turn.Hi x.Power.Hi x.Steps.1.Lo x.Steps.1.Hi x.Steps.2.Lo x.Steps.2.Hi x.Spread x.Ratio.Lo x.Ratio.Hi (Be F N m) y439 F (out++List.replicate k.toNat b++[x]) 0) else (Bt x.Kind x.Power.Lo x.Match.Lo x.Match.Hi x.Turn.Lo x.Turn.Hi x.Power.Hi x.Steps.1.Lo x.Steps.1.Hi x.Steps.2.Lo x.Steps.2.Hi x.Spread x.Ratio.Lo x.Ratio.Hi t.b true (out++List.replicate k.toNat b++[x]))) else (Bt x.Kind x.Power.Lo x.Match.Lo x.Match.Hi x.Turn.Lo x.Turn.Hi x.Power.Hi x.Steps.1.Lo x.Steps.1.Hi x.Steps.2.Lo x.Steps.2.Hi x.Spread x.Ratio.Lo x.Ratio.Hi t.b true (out++List.replicate k.toNat b++[x])))=some (out++List.replicate k.toNat b++[x],ref12_reader.mk t.b true):=by
        intro c;cases c<;>rfl
       show Uq t.b t.bad (bif _ then _ else _) _ _;rw [show (out++List.replicate k.toNat b++[x]:List api_Echo)=out++List.replicate k.toNat b++[x] from rfl];exact (hz (decide ((((out++List.replicate k.toNat b++[x]).length:Nat):Int)<N)))▸Uq.no (List.suffix_refl _) trivial
     ·rw [if_neg hx,dF hx,show (bif t.bad then true else false)=t.bad by cases t.bad<;>rfl]
      have:=ih m' x t (out++List.replicate k.toNat b++[x]) hbt (by simp;omega) (by simp;omega) (by simp;omega);rw [show N-(out++List.replicate k.toNat b++[x]).length=N-out.length-k.toNat-1 by simp;omega] at this;rw [Option.map_map];simp only [Function.comp_def]
      simpa only [List.append_assoc,List.cons_append,List.nil_append] using this
theorem A6v {F:Nat} (hF:200000≤F) {N:Nat} (hN:N≤100000) {r:ref12_reader} (hl:By r.b):Uq r.b r.bad (Eu F r N) (rL rE (N+1) N e0 r.b) (fun _=>True):=by
 have:Uq r.b r.bad (Eu F r N) ((rL rE (N+1) (N-([]:List api_Echo).length) e0 r.b).map fun u=>([]++u.1,u.2)) (fun _=>True):=A4q F hF N hN F (N+1) e0 r [] hl (by simp) (by simp;omega) (by simp)
 simpa using this
end Go.Proofs.YtifbomimeodibaaGreat
namespace Go.Proofs.YtifbomimeodibaaGreat
open Go Go.RowKit Go.Eng
set_option maxRecDepth 10000
set_option linter.unusedVariables false
set_option linter.unusedSimpArgs false
theorem A7f (n b0 b1 b2 b3:Nat) (h:128≤b0):128≤(Lib.decodeN n b0 b1 b2 b3).1:=by
 unfold Lib.decodeN
 repeat' split
 all_goals first|(simp only;omega)|omega
theorem A97 {s:ByteArray} {i:Nat} (h:(s.get! i).toNat<128):Utf8.decode s i=((s.get! i).toNat,1):=by
 rw [Lib.decode_at];unfold Lib.decodeN;rw [if_pos h]
theorem A96 {s:ByteArray} {i:Nat} (h:128≤(s.get! i).toNat):128≤(Utf8.decode s i).1:=by
 rw [Lib.decode_at];exact A7f _ _ _ _ _ h
theorem A64 {x:Nat} (h:128≤x):nmC x=true:=by
 unfold nmC;have h1:decide (x≤122)=false:=by simp;omega
 have h2:decide (x≤57)=false:=by simp;omega
 have h3:(x==95)=false:=by simp;omega
 rw [h1,h2,h3];simp
theorem Xm (s:ByteArray):∀(f pos:Nat),s.size≤pos+f→(0≤Lib.idxFuncFrom nmC true s f pos↔∃j,pos≤j∧j<s.size∧nmC (s.get! j).toNat=true):=by
 intro f
 induction f with
 | zero =>
  intro pos h;rw [Lib.idxFuncFrom_end nmC true s 0 pos (by omega)];constructor
  ·intro h;omega
  ·rintro ⟨j,h1,h2,_⟩;omega
 | succ f ih =>
  intro pos h;rw [Lib.idxFuncFrom]
  by_cases hp:pos<s.size
  ·rw [if_pos hp]
   by_cases hb:(s.get! pos).toNat<128
   ·rw [A97 hb];simp only
    by_cases hn:nmC (s.get! pos).toNat=true
    ·rw [if_pos hn];exact ⟨fun _=>⟨pos,Nat.le_refl _,hp,hn⟩,fun _=>by omega⟩
    ·rw [if_neg hn,ih (pos+1) (by omega)];constructor
     ·rintro ⟨j,h1,h2,h3⟩;exact ⟨j,by omega,h2,h3⟩
     ·rintro ⟨j,h1,h2,h3⟩;refine ⟨j,?_,h2,h3⟩;rcases Nat.lt_or_ge pos j with h4|h4
      ·omega
      ·obtain rfl:j=pos:=by omega
       exact absurd h3 hn
   ·rw [if_pos (A64 (A96 (by omega)))];exact ⟨fun _=>⟨pos,Nat.le_refl _,hp,A64 (by omega)⟩,fun _=>by omega⟩
  ·rw [if_neg hp];constructor
   ·intro h;omega
   ·rintro ⟨j,h1,h2,_⟩;omega
theorem A39 {s:ByteArray} {i:Nat} (h:i<s.size):s[i]=s.get! i:=by
 cases s with
 | mk d =>
  show d[i]=d[i]!;rw [getElem!_pos d i h]
theorem A07 {s:ByteArray} {i:Nat} (h:i<s.size):Su s i=some (((s.get! i).toNat:Nat):Int):=by
 unfold Su;rw [if_pos (by omega),Int.toNat_natCast,getElem!_pos s i h,A39 h]
theorem A4d (s:ByteArray):∀(m i f:Nat),s.size-i<m→i≤s.size→s.size≤1000000→s.size≤i+f→Kb s m i=some (!decide (0≤Lib.idxFuncFrom nmC true s f i)):=by
 intro m
 induction m with
 | zero=>intro i f h;omega
 | succ m ih =>
  intro i f h hi h9 hf;rw [Kb,Nv]
  by_cases hb:i<s.size
  ·rw [Aq (dT (by omega)),A07 hb,sbd];have hx:=UInt8.toNat_lt (s.get! i);generalize hu:(s.get! i).toNat=u at *;have e:(bif (bif (bif (decide (((u:Nat):Int)<97)) then true else (decide (((u:Nat):Int)>122))) then (bif (decide (((u:Nat):Int)<48)) then true else (decide (((u:Nat):Int)>57))) else false) then (((u:Nat):Int) != 95) else false)=nmC u:=by
    unfold nmC;rw [Bool.eq_iff_iff];simp only [cond_eq_ite,Bool.if_true_left,Bool.and_eq_true,Bool.or_eq_true,decide_eq_true_eq,bne_iff_ne,ne_eq,Bool.not_eq_true',Bool.or_eq_false_iff,Bool.and_eq_false_iff,decide_eq_false_iff_not,beq_eq_false_iff_ne,Bool.if_false_right];omega
   rw [e]
   by_cases hn:nmC u=true
   ·rw [Aq hn,dT ((Xm s f i hf).2 ⟨i,Nat.le_refl _,hb,by rw [hu];exact hn⟩)];rfl
   ·rw [Ao (by simpa using hn),ckb (by omega),show ((i:Int)+1)=((i+1:Nat):Int) by omega,ih (i+1) f (by omega) (by omega) h9 (by omega)];rw [decide_eq_decide.2];rw [Xm s f (i+1) (by omega),Xm s f i hf];constructor
    ·rintro ⟨j,h1,h2,h3⟩;exact ⟨j,by omega,h2,h3⟩
    ·rintro ⟨j,h1,h2,h3⟩;refine ⟨j,?_,h2,h3⟩;rcases Nat.lt_or_ge i j with h4|h4
     ·omega
     ·obtain rfl:j=i:=by omega
      rw [hu] at h3;exact absurd h3 hn
  ·rw [Ao (dF (by omega)),Nw,dF]
   ·rfl
   ·rw [Xm s f i hf];rintro ⟨j,h1,h2,_⟩;omega
theorem A81 (s:ByteArray):sEq s ⟨#[]⟩=decide (s.size=0):=by
 unfold sEq
 cases s with
 | mk d =>
  show decide (d.toList=[])=decide (d.size=0);rw [decide_eq_decide];constructor
  ·intro h;have:=congrArg List.length h;simpa using this
  ·intro h;rw [Array.eq_empty_of_size_eq_zero h]
theorem A1b {F:Nat} (hF:100≤F) (s:ByteArray):Kz F s=some (Sp s):=by
 rw [Kz];unfold Sp A65;rw [A81]
 by_cases h1:s.size=0∨s.size>12
 ·have hc:(bif (decide (((s.size:Nat):Int)<1)) then true else (decide (((s.size:Nat):Int)>12)))=true:=by
   rcases h1 with h|h
   ·rw [dT (by omega)];rfl
   ·rw [dT (show ((s.size:Nat):Int)>12 by omega)];cases decide (((s.size:Nat):Int)<1)<;>rfl
  rw [hc,gdF (by rfl),sbd,Aq (c:=true) rfl,gdF (by rfl),sbd];simp only [cond_true];rcases h1 with h|h
  ·rw [dT h];rfl
  ·rw [dF (show ¬((s.size:Nat):Int)≤12 by omega)];cases decide (s.size=0)<;>rfl
 ·have hc:(bif (decide (((s.size:Nat):Int)<1)) then true else (decide (((s.size:Nat):Int)>12)))=false:=by
   rw [dF (by omega),dF (by omega)];rfl
  have hg:Su s 0=some (((s.get! 0).toNat:Nat):Int):=A07 (i:=0) (by omega);rw [hc,gdT (by rfl),hg,sbd,Ao (c:=false) rfl,dF (show ¬s.size=0 by omega),dT (show ((s.size:Nat):Int)≤12 by omega)];rw [Option.getD_some];generalize hu:(((s.get! 0).toNat:Nat):Int)=u
  by_cases h2:u<97
  ·rw [dT h2,gdF (by rfl),sbd,Aq (c:=true) rfl,Aq (c:=true) rfl,dF (show ¬u≥97 by omega)];rfl
  ·rw [dF h2,gdT (by rfl),sbd,Ao (c:=false) rfl,dT (show u≥97 by omega)]
   by_cases h3:u>122
   ·rw [dT h3,Aq (c:=true) rfl,dF (show ¬u≤122 by omega)];rfl
   ·rw [dF h3,Ao (c:=false) rfl,dT (show u≤122 by omega),show (0:Int)=((0:Nat):Int) from rfl,A4d s F 0 s.size (by omega) (by omega) (by omega) (by omega)];rfl
theorem A8n (x lo hi:Int):Ad x lo hi=Ae x lo hi:=rfl
theorem A8z (x lo hi:Int):Ad x lo hi=Ax x lo hi:=rfl
theorem A1w {F:Nat} (hF:100≤F) (s:api_Site):Fj F s=G2 F s:=by
 rw [Fj,G2,A1b hF,Xq,sbd,sbd];simp only [A8n,F6,Ee]
 cases Sp s.Name<;>cases Ae s.X (-1048576) 1048576<;>cases Ae s.Y (-1048576) 1048576<;>cases Ae s.Z 0 20000<;>cases Ae s.Rose 1 90<;>cases Ae s.Gates 1 200<;>cases Ae s.Step 50 2000<;>cases Ae s.Width 0 8<;>rfl
theorem A13 (g:api_Grid):Cb g=Br g:=by
 rw [Cb,Br];simp only [A8n,Dp]
 cases Ae g.X (-1048576) 1048576<;>cases Ae g.Y (-1048576) 1048576<;>cases Ae g.Size 1 10000<;>cases Ae g.Wide 1 64<;>cases Ae g.High 1 64<;>rfl
theorem A76 (s:api_Span) (lo hi:Int):Cz s lo hi=Ag s lo hi:=by
 unfold Cz Ag;have e:decide (s.Lo≥lo)=decide (lo≤s.Lo):=rfl;rw [e]
 cases decide (s.Lo≤s.Hi)<;>cases decide (lo≤s.Lo)<;>rfl
theorem A6u (F:Nat) (s:api_Span):L0 F s=some (decide (J2 s)):=by
 unfold L0;have hw:Ad s.Lo (-32768) 32767=decide (inB s.Lo (-32768) 32767):=Pd;rw [hw]
 by_cases h:inB s.Lo (-32768) 32767
 ·have h1:=h.1;have h2:=h.2;rw [dT h,gdT (by rfl),ckb (by omega),gdT (by rfl),ckb (by omega),Aq (c:=true) rfl];have:Ad s.Hi s.Lo (s.Lo+65536-1)=decide (inB s.Hi s.Lo (s.Lo+65536-1)):=Pd;rw [this]
  congr 1
  rw [decide_eq_decide];unfold inB J2 at *;omega
 ·rw [dF h,gdF (by rfl),sbd,gdF (by rfl),sbd,Ao (c:=false) rfl,dF];unfold inB J2 at *;omega
theorem A5l {F:Nat} (hF:10≤F) (x:api_Echo):K4 F x=Gd F x:=by
 have ht:=Yw hF (api_Span.mk x.Steps.1.Lo x.Steps.1.Hi) (api_Span.mk x.Steps.2.Lo x.Steps.2.Hi) x.Turn;rw [K4,Gd];simp only [A6u,A76,A8z,D4,E3,ht];have e1:decide (x.Power.Lo<1)=!decide (x.Power.Lo>0):=by
  by_cases h:x.Power.Lo<1
  ·rw [dT h,dF (by omega)];rfl
  ·rw [dF h,dT (by omega)];rfl
 have e2:(x.Power.Lo != 0)=!((0:Int)==0&&x.Power.Lo==0):=by simp [bne]
 rw [e1];generalize hA:decide (J2 (api_Span.mk x.Steps.1.Lo x.Steps.1.Hi))=A;generalize hB:decide (J2 (api_Span.mk x.Steps.2.Lo x.Steps.2.Hi))=B;generalize hC:decide (J2 x.Turn)=C;have hABC:decide (J2 (api_Span.mk x.Steps.1.Lo x.Steps.1.Hi)∧J2 (api_Span.mk x.Steps.2.Lo x.Steps.2.Hi)∧J2 x.Turn)=(A&&(B&&C)):=by
  rw [←hA,←hB,←hC,Bool.decide_and,Bool.decide_and]
 rw [hABC]
 by_cases h1:x.Kind=1
 ·have k1:(x.Kind==1)=true:=by simp [h1]
  have k1':(x.Kind != 1)=false:=by simp [h1]
  simp only [k1,k1',cond_true,cond_false,Bool.true_and];have e5:((x.Power.Hi:Int)==x.Power.Hi)=true:=by simp
  rw [e5];have e4:(x.Power.Lo != 0)=!(x.Power.Lo==0):=rfl;have e6:(x.Spread != 0)=!(x.Spread==0):=rfl;rw [e4,e6];generalize Ag x.Power 0 1073741824=b0;generalize (x.Power.Lo==0)=b1;generalize (x.Steps.1.Lo==0)=b2;generalize (x.Steps.1.Hi==0)=b3;generalize (x.Steps.2.Lo==0)=b4;generalize (x.Steps.2.Hi==0)=b5;generalize (x.Spread==0)=b6;generalize (x.Ratio.Lo==0)=b7;generalize (x.Ratio.Hi==0)=b8;generalize (x.Match.Lo==0)=b9;generalize (x.Match.Hi==0)=b10;generalize (x.Turn.Lo==0)=b11;generalize (x.Turn.Hi==0)=b12
  cases b0
  ·rfl
  cases b1
  ·rfl
  cases b2
  ·rfl
  cases b3
  ·rfl
  cases b4
  ·rfl
  cases b5
  ·rfl
  cases b6
  ·rfl
  cases b7
  ·rfl
  cases b8
  ·rfl
  cases b9
  ·rfl
  cases b10
  ·rfl
  cases b11
  ·rfl
  cases b12<;>rfl
 ·have k1:(x.Kind==1)=false:=by simp [h1]
  have k1':(x.Kind != 1)=true:=by simp [h1]
  simp only [k1,k1',cond_true,cond_false]
  by_cases h2:x.Kind=2
  ·have k2:(x.Kind==2)=true:=by simp [h2]
   have k2':(x.Kind != 2)=false:=by simp [h2]
   simp only [k2,k2',cond_true,cond_false];generalize Ag x.Power 0 1073741824=b0;generalize decide (x.Power.Lo>0)=b1;generalize Ag x.Ratio 0 1000000=b2;generalize Ag x.Match 0 1000=b3;generalize Ax x.Spread 0 65535=b4;generalize (x.Steps.1.Lo==0)=b5;generalize (x.Steps.1.Hi==0)=b6;generalize (x.Steps.2.Lo==0)=b7;generalize (x.Steps.2.Hi==0)=b8;generalize (x.Turn.Lo==0)=b9;generalize (x.Turn.Hi==0)=b10
   cases b0
   ·rfl
   cases b1
   ·rfl
   cases b2
   ·rfl
   cases b3
   ·rfl
   cases b4
   ·rfl
   cases b5
   ·rfl
   cases b6
   ·rfl
   cases b7
   ·rfl
   cases b8
   ·rfl
   cases b9
   ·rfl
   cases b10<;>rfl
  ·have k2:(x.Kind==2)=false:=by simp [h2]
   have k2':(x.Kind != 2)=true:=by simp [h2]
   simp only [k2,k2',cond_true,cond_false]
   by_cases h3:x.Kind=3
   ·have k3:(x.Kind==3)=true:=by simp [h3]
    have k3':(x.Kind != 3)=false:=by simp [h3]
    simp only [k3,k3',cond_true,cond_false];generalize Ag x.Power 0 1073741824=b0;generalize decide (x.Power.Lo>0)=b1;generalize Ag x.Ratio 0 1000000=b2;generalize Ag x.Match 0 1000=b3;generalize Ax x.Spread 0 65535=b4
    cases b0
    ·rfl
    cases b1
    ·rfl
    cases b2
    ·rfl
    cases b3
    ·rfl
    cases b4
    ·rfl
    cases A<;>cases B<;>cases C<;>rfl
   ·have k3:(x.Kind==3)=false:=by simp [h3]
    have k3':(x.Kind != 3)=true:=by simp [h3]
    simp only [k3,k3',cond_true,cond_false]
end Go.Proofs.YtifbomimeodibaaGreat
namespace Go.Proofs.YtifbomimeodibaaGreat
open Go Go.RowKit Go.Eng
set_option maxRecDepth 10000
set_option linter.unusedVariables false
set_option linter.unusedSimpArgs false
theorem Xj {β:Type} {x:Int} {f g:Int→Option β} (h:f x=g x):(ck x).bind f=(ck x).bind g:=by
 unfold ck
 split
 ·exact h
 ·rfl
theorem A7x {F:Nat} (hF:10≤F) (p:api_Sweep) (i:Int) (u:List api_Echo) (hu:Bh p.Rays i=some u) (k k':Int→Option Int) (hk:k (i+1)=k' (i+1)):∀(m:Nat) (j:Int),Fh F p i k m j=Cu F i k' u m j:=by
 intro m
 induction m with
 | zero=>intro j;rfl
 | succ m ih =>
  intro j;rw [Fh,Jh,Cu,Gk,hu,sbd,sbd]
  cases decide (j<((u.length:Nat):Int)) with
  | true =>
   simp only [cond_true]
   congr 1;funext x
   rw [A5l hF]
   congr 1;funext y
   cases (y != 0) with
   | true=>rfl
   | false=>simp only [cond_false];congr 1;funext z;exact ih z
  | false =>
   simp only [cond_false,Jk,Ff];exact Xj hk
theorem A6m {F:Nat} (hF:10≤F) (p:api_Sweep):∀(m:Nat) (i:Int),0≤i→Fg F p m i=Ct F p m i:=by
 intro m
 induction m with
 | zero=>intro i _;rfl
 | succ m ih =>
  intro i h0;rw [Fg,Jg,Ct,Gj]
  by_cases hb:i<((p.Rays.length:Nat):Int)
  ·have hu:Bh p.Rays i=some (p.Rays[i.toNat]'(by omega)):=by
    unfold Bh;rw [if_pos h0,List.getElem?_eq_getElem (by omega)]
   rw [Aq (dT hb),Aq (dT hb),hu,sbd];exact A7x hF p i _ hu _ _ (ih (i+1) (by omega)) F 0
  ·rw [Ao (dF hb),Ao (dF hb)];rfl
theorem A44 {F:Nat} (hF:10≤F) (p:api_Sweep):∀(m:Nat) (i:Int),Fi F p m i=Dl F p m i:=by
 intro m
 induction m with
 | zero=>intro i;rfl
 | succ m ih =>
  intro i;rw [Fi,Ji,Dl,Gl]
  cases decide (i<((p.Rays.length:Nat):Int)) with
  | true =>
   simp only [cond_true]
   congr 1;funext u
   cases (((u.length:Nat):Int) != p.Site.Gates) with
   | true=>rfl
   | false=>simp only [cond_false];exact Xj (ih (i+1))
  | false =>
   simp only [cond_false,Jj,Gm];exact A6m hF p F 0 (by decide)
theorem A4o {F:Nat} (hF:100≤F) (p:api_Sweep):F1 F p=Ca F p:=by
 rw [F1,Ca,A1w hF]
 congr 1;funext y
 rw [A44 (by omega)];rfl
theorem A78 (p:api_Field) (hi:Int):∀(m:Nat) (i:Int),Kc p hi m i=Gv p hi m i:=by
 intro m
 induction m with
 | zero=>intro i;rfl
 | succ m ih =>
  intro i;rw [Kc,Nx,Gv,Ls]
  cases decide (i<((p.Vals.length:Nat):Int)) with
  | true =>
   simp only [cond_true]
   congr 1;funext u
   have e:(!(Cz u 0 hi))=(bif (bif (decide (u.Lo<0)) then true else (decide (u.Hi<u.Lo))) then true else (decide (u.Hi>hi))):=by
    unfold Cz;rw [Bool.eq_iff_iff];simp only [cond_eq_ite,Bool.if_true_left,Bool.and_eq_true,Bool.or_eq_true,decide_eq_true_eq,Bool.not_eq_true',Bool.if_false_right,Bool.and_eq_false_iff,decide_eq_false_iff_not];omega
   rw [e]
   cases (bif (bif (decide (u.Lo<0)) then true else (decide (u.Hi<u.Lo))) then true else (decide (u.Hi>hi))) with
   | true=>rfl
   | false=>simp only [cond_false];exact Xj (ih (i+1))
  | false=>rfl
theorem A40 (F:Nat) (p:api_Field):Fp F p=Ga F p:=by
 rw [Fp,Ga,Sf,Q2,A13,A78]
def toR (x:volume_Item):ref12_Item:=⟨x.Kind,x.Name,x.Time,x.Sweep,x.Field,x.Text⟩
theorem A95 {s:ByteArray} {i:Nat} (h:i<s.size):s.data.toList[i]? = some (s[i]):=by
 cases s with
 | mk d =>
  show d.toList[i]? = some d[i];rw [Array.getElem?_toList,Array.getElem?_eq_getElem h]
theorem A5e (x:ref12_Item):∀(m i:Nat),G3 x m i=Ch (sby x.Text) m i:=by
 intro m
 induction m with
 | zero=>intro i;rfl
 | succ m ih =>
  intro i;rw [G3,Mr,Ch,G5,Ll]
  by_cases hb:i<x.Text.size
  ·rw [Aq (dT (by omega)),Aq (dT (by omega)),A07 hb,sbd];have hg:Bh (sby x.Text) (i:Int)=some (((x.Text.get! i).toNat:Nat):Int):=by
    unfold Bh sby;rw [if_pos (by omega),Int.toNat_natCast,List.getElem?_map];rw [A95 hb,A39 hb];rfl
   rw [hg,sbd];generalize (((x.Text.get! i).toNat:Nat):Int)=u;have hk:=ih (i+1);rw [show (((i+1:Nat)):Int)=(i:Int)+1 by omega] at hk
   by_cases h1:u<32
   ·rw [dT h1,gdF (by rfl),sbd,Aq (by rfl),Aq (by rfl)]
   ·rw [dF h1,gdT (by rfl),sbd]
    by_cases h2:u>126
    ·rw [dT h2,Aq (by rfl),Aq (by rfl)]
    ·rw [dF h2,Ao (by rfl),Ao (by rfl)];exact Xj hk
  ·rw [Ao (dF (by omega)),Ao (dF (by omega))];rfl
theorem A52 {α:Type} (o:Option α):(o.bind fun y=>some y)=o:=by cases o<;>rfl
def Um (F:Nat) (t:volume_thing):Option Int:=(volume_thing.cs t (some (volume_thing.nil_,(2:Int))) (fun z15=>(Es F z15).bind fun y22=>some ((volume_thing.ic156 z15),y22)) (fun z15=>(C2 F z15).bind fun y28=>some ((volume_thing.ic158 z15),y28)) (fun z15=>(Cg F z15).bind fun y31=>some ((volume_thing.ic160 z15),y31))).bind fun y10=>some y10.2
theorem A5p (F:Nat) (s:volume_sweep):Um F (.ic156 s)=Ca F s.Sweep:=by
 show ((((Ca F s.Sweep).bind fun y6=>some y6)).bind fun y22=>some ((volume_thing.ic156 s),y22)).bind (fun y10=>some y10.2)=_
 cases Ca F s.Sweep<;>rfl
theorem A5q (F:Nat) (s:volume_field):Um F (.ic158 s)=C2 F s:=by
 show ((C2 F s).bind fun y22=>some ((volume_thing.ic158 s),y22)).bind (fun y10=>some y10.2)=_
 cases C2 F s<;>rfl
theorem A5r (F:Nat) (s:volume_note):Um F (.ic160 s)=Cg F s:=by
 show ((Cg F s).bind fun y22=>some ((volume_thing.ic160 s),y22)).bind (fun y10=>some y10.2)=_
 cases Cg F s<;>rfl
theorem A8t (x:Int):(!(Ad x 0 4294967296))=(bif (decide (x<0)) then true else (decide (x>4294967296))):=by
 unfold Ad;rw [Bool.eq_iff_iff];simp only [cond_eq_ite,Bool.if_true_left,Bool.and_eq_true,Bool.or_eq_true,decide_eq_true_eq,Bool.not_eq_true',Bool.if_false_right,Bool.and_eq_false_iff,decide_eq_false_iff_not];omega
theorem A3s {F:Nat} (hF:100≤F) (x:volume_Item):Ef F (toR x)=Um F (F4 x):=by
 rw [Ef,F4];show (bif (bif (bif (x.Kind != 1) then (x.Kind != 2) else false) then (x.Kind != 3) else false) then _ else _)=_;have hs:Cp x.Sweep=(bif (bif (bif ((x.Sweep.Site.Name==ByteArray.empty)&&(((x.Sweep.Site.X:Int)==0)&&(((x.Sweep.Site.Y:Int)==0)&&(((x.Sweep.Site.Z:Int)==0)&&(((x.Sweep.Site.Rose:Int)==0)&&(((x.Sweep.Site.Gates:Int)==0)&&(((x.Sweep.Site.Step:Int)==0)&&(((x.Sweep.Site.Width:Int)==0)&&true)))))))) then (x.Sweep.Tilt==0) else false) then (x.Sweep.Time==0) else false) then (((x.Sweep.Rays.length:Nat):Int)==0) else false):=rfl;have hf:Dk x.Field=(bif (((x.Field.Grid.X:Int)==0)&&(((x.Field.Grid.Y:Int)==0)&&(((x.Field.Grid.Size:Int)==0)&&(((x.Field.Grid.Wide:Int)==0)&&(((x.Field.Grid.High:Int)==0)&&true))))) then (((x.Field.Vals.length:Nat):Int)==0) else false):=rfl;have e0:∀s:ByteArray,sEq s ByteArray.empty=sEq s ⟨#[]⟩:=fun _=>rfl
 by_cases h1:x.Kind=1
 ·have k1:(x.Kind==1)=true:=by simp [h1]
  have k1':(x.Kind != 1)=false:=by simp [h1]
  have k2':(x.Kind != 2)=true:=by simp [h1]
  have k3':(x.Kind != 3)=true:=by simp [h1]
  show (bif (bif (bif (x.Kind != 1) then (x.Kind != 2) else false) then (x.Kind != 3) else false) then (some 2) else (bif (bif (bif (bif (bif (x.Kind != 1) then (!(Cp x.Sweep)) else false) then true else (bif (x.Kind != 2) then (bif (!(Dk x.Field)) then true else (!(sEq x.Name (⟨#[]⟩:ByteArray)))) else false)) then true else (bif (x.Kind != 3) then (!(sEq x.Text (⟨#[]⟩:ByteArray))) else false)) then true else (bif (x.Kind==1) then (x.Time != 0) else false)) then (some 2) else (bif (x.Kind==1) then ((F1 F x.Sweep).bind fun y9=>some y9) else _)))=_;rw [k1,k1',k2',k3'];simp only [cond_true,cond_false];rw [hf];show _=Um F (bif (bif (bif (bif (bif (!(sEq x.Name ⟨#[]⟩)) then true else (x.Time != 0)) then true else (!(sEq x.Text ⟨#[]⟩))) then true else false) then true else (!(bif (((x.Field.Grid.X:Int)==0)&&(((x.Field.Grid.Y:Int)==0)&&(((x.Field.Grid.Size:Int)==0)&&(((x.Field.Grid.Wide:Int)==0)&&(((x.Field.Grid.High:Int)==0)&&true))))) then (((x.Field.Vals.length:Nat):Int)==0) else false))) then (volume_thing.nil_) else (volume_thing.ic156 (volume_sweep.mk x.Sweep)));generalize (bif (((x.Field.Grid.X:Int)==0)&&(((x.Field.Grid.Y:Int)==0)&&(((x.Field.Grid.Size:Int)==0)&&(((x.Field.Grid.Wide:Int)==0)&&(((x.Field.Grid.High:Int)==0)&&true))))) then (((x.Field.Vals.length:Nat):Int)==0) else false)=a;generalize sEq x.Name ⟨#[]⟩=b;generalize sEq x.Text ⟨#[]⟩=c;generalize (x.Time != 0)=d;have hgood:((Ca F x.Sweep).bind fun y9=>some y9)=Um F (volume_thing.ic156 (volume_sweep.mk x.Sweep)):=by
   rw [A5p,A52]
  rw [A4o hF]
  cases a<;>cases b<;>cases c<;>cases d<;>first|exact hgood|rfl
 ·by_cases h2:x.Kind=2
  ·have k1:(x.Kind==1)=false:=by simp [h1]
   have k1':(x.Kind != 1)=true:=by simp [h1]
   have k2:(x.Kind==2)=true:=by simp [h2]
   have k2':(x.Kind != 2)=false:=by simp [h2]
   have k3':(x.Kind != 3)=true:=by simp [h2]
   show (bif (bif (bif (x.Kind != 1) then (x.Kind != 2) else false) then (x.Kind != 3) else false) then (some 2) else (bif (bif (bif (bif (bif (x.Kind != 1) then (!(Cp x.Sweep)) else false) then true else (bif (x.Kind != 2) then (bif (!(Dk x.Field)) then true else (!(sEq x.Name (⟨#[]⟩:ByteArray)))) else false)) then true else (bif (x.Kind != 3) then (!(sEq x.Text (⟨#[]⟩:ByteArray))) else false)) then true else (bif (x.Kind==1) then (x.Time != 0) else false)) then (some 2) else (bif (x.Kind==1) then ((F1 F x.Sweep).bind fun y9=>some y9) else ((gd (((x.Kind==2)==true&&true)) (Kz F x.Name) default).bind fun y10 =>
    bif (bif (x.Kind==2) then (!y10) else false) then (some 10) else (bif (!(Ad x.Time 0 4294967296)) then (some 3) else (bif (x.Kind==2) then ((Fp F x.Field).bind fun y11=>some y11) else _))))))=_
   rw [k1,k1',k2,k2',k3'];simp only [cond_true,cond_false];rw [hs,gdT (by rfl),A1b hF,sbd,A40];show _=Um F (bif (bif (bif (bif (bif (!(sEq x.Name x.Name)) then true else (x.Time != x.Time)) then true else (!(sEq x.Text ⟨#[]⟩))) then true else (!(bif (bif (bif ((x.Sweep.Site.Name==ByteArray.empty)&&(((x.Sweep.Site.X:Int)==0)&&(((x.Sweep.Site.Y:Int)==0)&&(((x.Sweep.Site.Z:Int)==0)&&(((x.Sweep.Site.Rose:Int)==0)&&(((x.Sweep.Site.Gates:Int)==0)&&(((x.Sweep.Site.Step:Int)==0)&&(((x.Sweep.Site.Width:Int)==0)&&true)))))))) then (x.Sweep.Tilt==0) else false) then (x.Sweep.Time==0) else false) then (((x.Sweep.Rays.length:Nat):Int)==0) else false))) then true else false) then (volume_thing.nil_) else (volume_thing.ic158 (volume_field.mk x.Name x.Time x.Field)));rw [Tl,T1];generalize (bif (bif (bif ((x.Sweep.Site.Name==ByteArray.empty)&&(((x.Sweep.Site.X:Int)==0)&&(((x.Sweep.Site.Y:Int)==0)&&(((x.Sweep.Site.Z:Int)==0)&&(((x.Sweep.Site.Rose:Int)==0)&&(((x.Sweep.Site.Gates:Int)==0)&&(((x.Sweep.Site.Step:Int)==0)&&(((x.Sweep.Site.Width:Int)==0)&&true)))))))) then (x.Sweep.Tilt==0) else false) then (x.Sweep.Time==0) else false) then (((x.Sweep.Rays.length:Nat):Int)==0) else false)=a;generalize sEq x.Text ⟨#[]⟩=c;have hgood:(bif (!Sp x.Name) then (some 10) else (bif (!(Ad x.Time 0 4294967296)) then (some 3) else ((Ga F x.Field).bind fun y11=>some y11)))=Um F (volume_thing.ic158 (volume_field.mk x.Name x.Time x.Field)):=by
    rw [A5q,C2,Xq,sbd,A8t]
   cases a<;>cases c<;>first|exact hgood|rfl
  ·by_cases h3:x.Kind=3
   ·have k1:(x.Kind==1)=false:=by simp [h1]
    have k1':(x.Kind != 1)=true:=by simp [h1]
    have k2:(x.Kind==2)=false:=by simp [h2]
    have k2':(x.Kind != 2)=true:=by simp [h2]
    have k3:(x.Kind==3)=true:=by simp [h3]
    have k3':(x.Kind != 3)=false:=by simp [h3]
    show (bif (bif (bif (x.Kind != 1) then (x.Kind != 2) else false) then (x.Kind != 3) else false) then (some 2) else (bif (bif (bif (bif (bif (x.Kind != 1) then (!(Cp x.Sweep)) else false) then true else (bif (x.Kind != 2) then (bif (!(Dk x.Field)) then true else (!(sEq x.Name (⟨#[]⟩:ByteArray)))) else false)) then true else (bif (x.Kind != 3) then (!(sEq x.Text (⟨#[]⟩:ByteArray))) else false)) then true else (bif (x.Kind==1) then (x.Time != 0) else false)) then (some 2) else (bif (x.Kind==1) then ((F1 F x.Sweep).bind fun y9=>some y9) else ((gd (((x.Kind==2)==true&&true)) (Kz F x.Name) default).bind fun y10 =>
     bif (bif (x.Kind==2) then (!y10) else false) then (some 10) else (bif (!(Ad x.Time 0 4294967296)) then (some 3) else (bif (x.Kind==2) then ((Fp F x.Field).bind fun y11=>some y11) else (bif (decide (((x.Text.size:Nat):Int)>200)) then (some 8) else (G3 (toR x) F 0))))))))=_
    rw [k1,k1',k2,k2',k3,k3'];simp only [cond_true,cond_false];rw [hs,hf,gdF (by rfl),sbd];show _=Um F (bif (bif (bif (bif (bif (!(sEq x.Name ⟨#[]⟩)) then true else (x.Time != x.Time)) then true else (!(sEq x.Text x.Text))) then true else (!(bif (bif (bif ((x.Sweep.Site.Name==ByteArray.empty)&&(((x.Sweep.Site.X:Int)==0)&&(((x.Sweep.Site.Y:Int)==0)&&(((x.Sweep.Site.Z:Int)==0)&&(((x.Sweep.Site.Rose:Int)==0)&&(((x.Sweep.Site.Gates:Int)==0)&&(((x.Sweep.Site.Step:Int)==0)&&(((x.Sweep.Site.Width:Int)==0)&&true)))))))) then (x.Sweep.Tilt==0) else false) then (x.Sweep.Time==0) else false) then (((x.Sweep.Rays.length:Nat):Int)==0) else false))) then true else (!(bif (((x.Field.Grid.X:Int)==0)&&(((x.Field.Grid.Y:Int)==0)&&(((x.Field.Grid.Size:Int)==0)&&(((x.Field.Grid.Wide:Int)==0)&&(((x.Field.Grid.High:Int)==0)&&true))))) then (((x.Field.Vals.length:Nat):Int)==0) else false))) then (volume_thing.nil_) else (volume_thing.ic160 (volume_note.mk x.Time x.Text)));rw [Tl,T1];generalize (bif (bif (bif ((x.Sweep.Site.Name==ByteArray.empty)&&(((x.Sweep.Site.X:Int)==0)&&(((x.Sweep.Site.Y:Int)==0)&&(((x.Sweep.Site.Z:Int)==0)&&(((x.Sweep.Site.Rose:Int)==0)&&(((x.Sweep.Site.Gates:Int)==0)&&(((x.Sweep.Site.Step:Int)==0)&&(((x.Sweep.Site.Width:Int)==0)&&true)))))))) then (x.Sweep.Tilt==0) else false) then (x.Sweep.Time==0) else false) then (((x.Sweep.Rays.length:Nat):Int)==0) else false)=a;generalize (bif (((x.Field.Grid.X:Int)==0)&&(((x.Field.Grid.Y:Int)==0)&&(((x.Field.Grid.Size:Int)==0)&&(((x.Field.Grid.Wide:Int)==0)&&(((x.Field.Grid.High:Int)==0)&&true))))) then (((x.Field.Vals.length:Nat):Int)==0) else false)=b;generalize sEq x.Name ⟨#[]⟩=c;have hgood:(bif (!(Ad x.Time 0 4294967296)) then (some 3) else (bif (decide (((x.Text.size:Nat):Int)>200)) then (some 8) else (G3 (toR x) F 0)))=Um F (volume_thing.ic160 (volume_note.mk x.Time x.Text)):=by
     rw [A5r,Cg,A8t];show (bif _ then _ else _)=(bif (bif (decide (x.Time<0)) then true else (decide (x.Time>4294967296))) then _ else _)
     congr 1
     by_cases hz:((x.Text.size:Nat):Int)>200
     ·rw [Aq (dT hz)];show _=(bif (decide (((x.Text.size:Nat):Int)>200)) then _ else _);rw [Aq (dT hz)]
     ·have h2b:s2b x.Text=some (sby x.Text):=by unfold s2b;rw [if_pos (by omega)]
      rw [Ao (dF hz)];show _=(bif (decide (((x.Text.size:Nat):Int)>200)) then _ else (s2b x.Text).bind fun l15=>Ch l15 F 0);rw [Ao (dF hz),h2b,sbd];exact A5e (toR x) F 0
    cases a<;>cases b<;>cases c<;>first|exact hgood|rfl
   ·have k1:(x.Kind==1)=false:=by simp [h1]
    have k1':(x.Kind != 1)=true:=by simp [h1]
    have k2:(x.Kind==2)=false:=by simp [h2]
    have k2':(x.Kind != 2)=true:=by simp [h2]
    have k3:(x.Kind==3)=false:=by simp [h3]
    have k3':(x.Kind != 3)=true:=by simp [h3]
    rw [k1',k2',k3',k1,k2,k3];rfl
end Go.Proofs.YtifbomimeodibaaGreat
namespace Go.Proofs.YtifbomimeodibaaGreat
open Go Go.RowKit Go.Eng
set_option maxRecDepth 10000
set_option linter.unusedVariables false
set_option linter.unusedSimpArgs false
theorem A72 (F:Nat) (hF:10≤F) (c:Nat) (hc:c<2147483647):Gu F c [] 0=some (A2p c):=by
 obtain ⟨G,rfl⟩:∃G,F=G+6:=⟨F-6,by omega⟩;have step:∀(m i d:Nat) (l:List Int),i<4→l.length=i→d<2147483647→Gu (m+1) d l i=Gu m (d/127:Nat) (l++[128+((d%127:Nat):Int)]) (i+1:Nat):=by
  intro m i d l hi hl hd;rw [Gu,Mv,Aq (dT (by omega)),(tdm d).1,sbd];have:=Nat.mod_lt d (show 0<127 by decide);rw [ckb (by omega),Gq (by simp;omega) (by decide),(tdm d).2,ckb (by omega),ckb (by omega),Xc (by omega)];rfl
 rw [show (0:Int)=((0:Nat):Int) from rfl,step (G+5) 0 c _ (by decide) (by simp) hc,step (G+4) 1 _ _ (by decide) (by simp) (by omega),step (G+3) 2 _ _ (by decide) (by simp) (by omega),step (G+2) 3 _ _ (by decide) (by simp) (by omega)];rw [Gu,Mv,Ao (dF (by decide)),Pw];have h5:c/127/127/127/127<127:=by omega
 have h6:c/127/127/127/127%127=c/127/127/127/127:=Nat.mod_eq_of_lt h5;rw [ckb (by omega),Gq (by simp) (by decide),Xc (by omega)];unfold A2p;rw [h6];rfl
theorem A73 (F:Nat) (hF:10≤F) (p:List Int) (hp:By p) (hpl:p.length≤1000000000):∀(m i c:Nat),p.length-i<m→i≤p.length→c<2147483647→Lk F p m c i=some (A2p (A0m c (p.drop i))):=by
 intro m
 induction m with
 | zero=>intro i c h;omega
 | succ m ih =>
  intro i c h hi hc;rw [Lk,Pu]
  by_cases hb:i<p.length
  ·have hx:=hp p[i] (List.getElem_mem hb);rw [Aq (dT (by omega)),ckb (by omega),E4 i p[i] rfl (List.getElem?_eq_getElem hb),ckb (by omega),ckb (by omega)];have e:Qq (31*(c:Int)+p[i]) 2147483647=some (((31*c+p[i].toNat)%2147483647:Nat):Int):=by
    have e1:31*(c:Int)+p[i]=((31*c+p[i].toNat:Nat):Int):=by omega
    rw [e1];unfold Qq;rw [if_neg (by decide)]
    congr 1
   rw [e,sbd,ckb (by omega)];have:=ih (i+1) _ (by omega) (by omega) (Nat.mod_lt (31*c+p[i].toNat) (show 0<2147483647 by decide));rw [show ((i:Int)+1)=((i+1:Nat):Int) by omega,this,List.drop_eq_getElem_cons hb];rfl
  ·rw [Ao (dF (by omega)),Pv,List.drop_of_length_le (by omega)];exact A72 F hF c hc
theorem A3m {F:Nat} (hF:10≤F) {p:List Int} (hp:By p) (hl:p.length<F) (hl9:p.length≤1000000000):No F p=some (Xh p):=by
 rw [No];exact A73 F hF p hp hl9 F 0 1 (by omega) (by omega) (by decide)
theorem A4m (a b:List Int) (hl:a.length=b.length) (h9:a.length≤1000000000):∀(m i:Nat),a.length-i<m→i≤a.length→Ki a b m i=some (decide (a.drop i=b.drop i)):=by
 intro m
 induction m with
 | zero=>intro i h;omega
 | succ m ih =>
  intro i h hi;rw [Ki,P2]
  by_cases hb:i<a.length
  ·have hb':i<b.length:=by omega
   rw [Aq (dT (by omega)),E4 i a[i] rfl (List.getElem?_eq_getElem hb),E4 i b[i] rfl (List.getElem?_eq_getElem hb'),A34 hb hb']
   by_cases hx:a[i]=b[i]
   ·rw [Ao (by simp [hx]),ckb (by omega),show ((i:Int)+1)=((i+1:Nat):Int) by omega,ih (i+1) (by omega) (by omega),dT hx,Bool.true_and]
   ·rw [Aq (by simp [hx]),dF hx];rfl
  ·rw [Ao (dF (by omega)),A0w (by omega) (by omega)];rfl
theorem A84 {F:Nat} {a b:List Int} (hF:a.length<F) (h9:a.length≤1000000000):Qn F a b=some (decide (a=b)):=by
 rw [Qn]
 by_cases h:a.length=b.length
 ·rw [Ao (by simp [h]),show (0:Int)=((0:Nat):Int) from rfl,A4m a b h h9 F 0 (by omega) (by omega)];rfl
 ·rw [Aq (by simp;omega),dF (fun e=>h (by rw [e]))]
def zR:ref12_Item:=⟨0,ByteArray.empty,0,⟨⟨ByteArray.empty,0,0,0,0,0,0,0⟩,0,0,[]⟩,⟨⟨0,0,0,0,0⟩,[]⟩,ByteArray.empty⟩
noncomputable def fin:Option (volume_thing×List Int)→ref12_Item×Bool
 | none=>(zR,false)
 | some (t,r)=>if vT t∧r=[] then (toR (Cs t),true) else (zR,false)
def Fin (bad:Bool) (Z:Option (ref12_Item×Bool)) (o:Option (volume_thing×List Int)):Prop:=Z=some (fin (bif bad then none else o))
theorem Fin.bind {α:Type} {b:List Int} {bad:Bool} {y:Option (α×ref12_reader)} {o:Option (α×List Int)} {ok:α→Prop} (h:Uq b bad y o ok) {f:α×ref12_reader→Option (ref12_Item×Bool)} {g:α×List Int→Option (volume_thing×List Int)}
  (hf:∀x r,r.b <:+ b→ok x→(r.bad=false→o=some (x,r.b))→Fin r.bad (f (x,r)) (g (x,r.b))):Fin bad (y.bind f) (o.bind g):=by
 obtain ⟨x,r,h1,h2,h3,h4⟩:=h;rw [h1,sbd];rcases h4 with ⟨e1,e2,e3⟩|⟨e1,e2⟩
 ·have:=hf x r h2 h3 (fun _=>e2);rw [e3] at this;rw [e1,e2];exact this
 ·have:=hf x r h2 h3 (fun h=>by rw [e1] at h;cases h)
  rw [e1] at this;rcases e2 with e2|e2
  ·rw [e2];exact this
  ·rw [e2];cases bad<;>exact this
theorem Fin.no {bad:Bool}:Fin bad (some (zR,false)) none:=by cases bad<;>rfl
theorem A79 {F:Nat} (hF:5000≤F) {t:volume_thing} (ht:t≠.nil_):∃e,Ef F (toR (Cs t))=some e∧(e=0↔vT t):=by
 obtain ⟨e,h1,h2⟩:=A0u hF ht;refine ⟨e,?_,h2⟩;rw [A3s (by omega),A0a ht,←h1]
 cases t with
 | nil_=>exact absurd rfl ht
 | ic156 s=>rw [A5p];show _=(Ca F s.Sweep).bind fun y=>some y;rw [A52]
 | ic158 s=>rw [A5q];rfl
 | ic160 s=>rw [A5r];rfl
theorem B1g {F:Nat} (hF:5000≤F) {t:volume_thing} (ht:t≠.nil_) (x:ref12_Item) (hx:x=toR (Cs t)) (l:List Int) (c:Bool) :
  Fin c (bif c then ((gd ((true==false&&true)) (Ef F x) default).bind fun y319=>some (zR,false)) else ((gd (((decide (((l.length:Nat):Int)>0))==false&&true)) (Ef F x) default).bind fun y320 =>
   bif (bif (decide (((l.length:Nat):Int)>0)) then true else (y320 != 0)) then (some (zR,false)) else (some (x,true)))) (some (t,l)):=by
 cases c with
 | true=>rw [Aq rfl,gdF (by rfl),sbd];rfl
 | false =>
  rw [Ao rfl];show _=some (if vT t∧l=[] then (toR (Cs t),true) else (zR,false));subst hx;obtain ⟨e,h1,h2⟩:=A79 hF ht
  by_cases hl:l=[]
  ·subst hl;rw [show decide ((((([]:List Int).length):Nat):Int)>0)=false from rfl,gdT (by rfl),h1,sbd,Ao (c:=false) rfl]
   by_cases he:e=0
   ·rw [Ao (by simp [he]),if_pos ⟨h2.1 he,rfl⟩]
   ·rw [Aq (by simp [he]),if_neg (fun h=>he (h2.2 h.1))]
  ·have:=List.length_pos_iff.2 hl;rw [dT (show ((l.length:Nat):Int)>0 by omega),gdF (by rfl),sbd,Aq (c:=true) rfl,Aq rfl,if_neg (fun h=>hl h.2)]
theorem A7l {F:Nat} (y6:Int×ref12_reader) (y326:ByteArray×ref12_reader) (y334 y341 y348 y355 y362 y369 y376 y383 y403:Int×ref12_reader) (y413:List api_Echo×ref12_reader) (hb:y413.2.bad=false) (hr:1≤y355.1∧y355.1≤90) (hg:1≤y362.1∧y362.1≤200) (hl:y413.1.length=(4*y355.1).toNat*y362.1.toNat) :
  ∀(m i n:Nat) (acc:List (List api_Echo)),n<m→(i:Int)+n=4*y355.1→acc.length=i→Gy F y6 y326 y334 y341 y348 y355 y362 y369 y376 y383 y403 y413 m acc i =
   Dj F y6 ByteArray.empty y376.1 y383.1 y403.1 (acc++S1 y362.1.toNat n (y413.1.drop (i*y362.1.toNat))) 0 0 0 0 0 ([]) 0 ByteArray.empty y326.1 y334.1 y341.1 y348.1 y355.1 y362.1 y369.1 y413.2.b y413.2.bad:=by
 intro m
 induction m with
 | zero=>intro i n acc h;omega
 | succ m ih =>
  intro i n acc h hi ha;rw [Gy,Lx,ckb (by omega)]
  cases n with
  | zero=>rw [Ao (dF (by omega)),S1,List.append_nil]
  | succ n =>
   have e1:(i:Int)*y362.1=((i*y362.1.toNat:Nat):Int):=by push_cast;rw [show (y362.1.toNat:Int)=y362.1 by omega]
   have e2:((i:Int)+1)*y362.1=((i*y362.1.toNat+y362.1.toNat:Nat):Int):=by rw [Int.add_mul,e1,Int.one_mul];omega
   have hle:i*y362.1.toNat+y362.1.toNat≤(4*y355.1).toNat*y362.1.toNat:=by
    rw [show i*y362.1.toNat+y362.1.toNat=(i+1)*y362.1.toNat by rw [Nat.add_mul,Nat.one_mul]];exact Nat.mul_le_mul_right _ (by omega)
   have hle2:(4*y355.1).toNat*y362.1.toNat≤360*200:=Nat.mul_le_mul (by omega) (by omega);rw [Aq (dT (by omega)),hb,Aq (by rfl),ckb (by omega),ckb (by omega),ckb (by omega),A3x (i*y362.1.toNat) (i*y362.1.toNat+y362.1.toNat) e1 e2 (by omega),Gq (by simp;omega) (by decide),ckb (by omega)];rw [show ((i:Int)+1)=((i+1:Nat):Int) by omega,ih (i+1) n _ (by omega) (by omega) (by simp;omega)];rw [S1,List.append_assoc,List.drop_drop,hb,show i*y362.1.toNat+y362.1.toNat-i*y362.1.toNat=y362.1.toNat by omega,show (i+1)*y362.1.toNat=i*y362.1.toNat+y362.1.toNat by rw [Nat.add_mul,Nat.one_mul]];rfl
end Go.Proofs.YtifbomimeodibaaGreat
namespace Go.Proofs.YtifbomimeodibaaGreat
open Go Go.RowKit Go.Eng
set_option maxRecDepth 10000
set_option linter.unusedVariables false
set_option linter.unusedSimpArgs false
theorem A62 {F:Nat} (hF:5000≤F) {t:volume_thing} (ht:t≠.nil_) (y6:Int×ref12_reader) (s285:ByteArray) (x286 x287 x288:Int) (l291:List (List api_Echo)) (x294 x295 x296 x297 x298:Int) (l301:List api_Span) (x303:Int) (s304 s305:ByteArray) (x306 x307 x308 x309 x310 x311:Int) (l:List Int) (c:Bool)
  (hx:ref12_Item.mk y6.1 s285 x303 (api_Sweep.mk (api_Site.mk s305 x306 x307 x308 x309 x310 x311 x286) x287 x288 l291) (api_Field.mk (api_Grid.mk x294 x295 x296 x297 x298) l301) s304=toR (Cs t)) :
  Fin c (Dj F y6 s285 x286 x287 x288 l291 x294 x295 x296 x297 x298 l301 x303 s304 s305 x306 x307 x308 x309 x310 x311 l c) (some (t,l)):=B1g hF ht _ hx l c
theorem A89 {F:Nat} (hF:200000≤F) (y6:Int×ref12_reader) (h6:y6.1=1) {r:ref12_reader} (hb:By r.b):Fin r.bad ((Dq F r).bind fun y326 =>
 (Bb F (ref12_reader.mk y326.2.b y326.2.bad)).bind fun y334 =>
 (Bb F (ref12_reader.mk y334.2.b y334.2.bad)).bind fun y341 =>
 (Aa F (ref12_reader.mk y341.2.b y341.2.bad)).bind fun y348 =>
 (Aa F (ref12_reader.mk y348.2.b y348.2.bad)).bind fun y355 =>
 (Aa F (ref12_reader.mk y355.2.b y355.2.bad)).bind fun y362 =>
 (Aa F (ref12_reader.mk y362.2.b y362.2.bad)).bind fun y369 =>
 (Aa F (ref12_reader.mk y369.2.b y369.2.bad)).bind fun y376 =>
 (Aa F (ref12_reader.mk y376.2.b y376.2.bad)).bind fun y383 =>
 (Aa F (ref12_reader.mk y383.2.b y383.2.bad)).bind fun y403 =>
 (Fj F (api_Site.mk y326.1 y334.1 y341.1 y348.1 y355.1 y362.1 y369.1 y376.1)).bind fun y410 =>
 bif (y410 != 0) then (some (zR,false)) else ((ck (4*y355.1)).bind fun x411 =>
 (ck (x411*y362.1)).bind fun x412 =>
 (Eu F (ref12_reader.mk y403.2.b y403.2.bad) x412).bind fun y413 =>
 Gy F y6 y326 y334 y341 y348 y355 y362 y369 y376 y383 y403 y413 F ([]) 0)) (Tj r.b):=by
 have h1:1000≤F:=by omega
 unfold Tj;refine Fin.bind (A6w h1 hb) fun nm s1 hs1 _ _=>?_;have b1:=hb.suf hs1;refine Fin.bind (Ru h1 b1) fun x s2 hs2 _ _=>?_;have b2:=b1.suf hs2;refine Fin.bind (Ru h1 b2) fun y s3 hs3 _ _=>?_;have b3:=b2.suf hs3;refine Fin.bind (E9 h1 b3) fun z s4 hs4 _ _=>?_;have b4:=b3.suf hs4;refine Fin.bind (E9 h1 b4) fun ro s5 hs5 _ _=>?_;have b5:=b4.suf hs5;refine Fin.bind (E9 h1 b5) fun g s6 hs6 _ _=>?_;have b6:=b5.suf hs6;refine Fin.bind (E9 h1 b6) fun st s7 hs7 _ _=>?_;have b7:=b6.suf hs7;refine Fin.bind (E9 h1 b7) fun w s8 hs8 _ _=>?_;have b8:=b7.suf hs8;refine Fin.bind (E9 h1 b8) fun ti s9 hs9 _ _=>?_;have b9:=b8.suf hs9;refine Fin.bind (E9 h1 b9) fun tm s10 hs10 _ _=>?_;have b10:=b9.suf hs10;obtain ⟨e,he,hv⟩:=A0k F ⟨nm,x,y,z,ro,g,st,w⟩;show Fin s10.bad ((Fj F ⟨nm,x,y,z,ro,g,st,w⟩).bind _) (if W5 ⟨nm,x,y,z,ro,g,st,w⟩ then _ else _);rw [A1w (by omega),he,sbd]
 by_cases h0:e=0
 ·rw [Ao (by simp [h0]),if_pos (hv.1 h0)];obtain ⟨_,_,_,_,⟨c1,c2⟩,⟨c3,c4⟩,_⟩:=hv.1 h0;simp only at c1 c2 c3 c4;have hm:4*ro*g≤360*g:=Int.mul_le_mul_of_nonneg_right (by omega) (by omega);have hm0:0≤4*ro*g:=Int.mul_nonneg (by omega) (by omega);show Fin s10.bad ((ck (4*ro)).bind fun x411=>(ck (x411*g)).bind fun x412=>_) _;rw [ckb (by omega),ckb (by omega)];have hr:=A6v hF (N:=(4*ro*g).toNat) (by omega) (r:=s10) b10;rw [show (((4*ro*g).toNat:Nat):Int)=4*ro*g by omega] at hr;refine Fin.bind hr fun all s11 hs11 _ hgood=>?_
  cases hbad:s11.bad with
  | true =>
   obtain ⟨G,rfl⟩:∃G,F=G+1:=⟨F-1,by omega⟩;rw [Gy,Lx];show Fin true ((ck (4*ro)).bind fun x480=>bif (decide ((0:Int)<x480)) then (bif (!s11.bad) then _ else _) else _) _;rw [ckb (by omega),Aq (dT (by omega)),hbad,Ao (by rfl)];show (bif true then _ else _)=_;rw [Aq rfl,gdF (by rfl),sbd];rfl
  | false =>
   have hlen:=(A2h (fun l x r hb h=>Yn hb h) _ _ _ _ _ _ b10 (hgood hbad)).1;have hl2:all.length=(4*ro).toNat*g.toNat:=by
    rw [hlen];have:(4*ro*g)=(((4*ro).toNat*g.toNat:Nat):Int):=by
     push_cast
     rw [show ((4*ro).toNat:Int)=4*ro by omega,show (g.toNat:Int)=g by omega]
    omega
   rw [show (0:Int)=((0:Nat):Int) from rfl,A7l y6 (nm,s1) (x,s2) (y,s3) (z,s4) (ro,s5) (g,s6) (st,s7) (w,s8) (ti,s9) (tm,s10) (all,s11) hbad ⟨c1,c2⟩ ⟨c3,c4⟩ hl2 F 0 (4*ro).toNat [] (by omega) (by simp only;omega) rfl];rw [Nat.zero_mul,List.drop_zero,List.nil_append];have:=A62 (F:=F) (by omega) (t:=.ic156 ⟨⟨⟨nm,x,y,z,ro,g,st,w⟩,ti,tm,S1 g.toNat (4*ro).toNat all⟩⟩) (by simp) y6 ByteArray.empty w ti tm (S1 g.toNat (4*ro).toNat all) 0 0 0 0 0 [] 0 ByteArray.empty nm x y z ro g st s11.b s11.bad (by rw [h6];rfl);rw [hbad] at this;show Fin false (Dj F y6 ByteArray.empty w ti tm (S1 g.toNat (4*ro).toNat all) 0 0 0 0 0 [] 0 ByteArray.empty nm x y z ro g st s11.b s11.bad) _;rw [hbad];exact this
 ·rw [Aq (by simp [h0]),if_neg (fun h=>h0 (hv.2 h))];exact Fin.no
theorem A87 {F:Nat} (hF:200000≤F) (y6:Int×ref12_reader) (h6:y6.1=2) {r:ref12_reader} (hb:By r.b):Fin r.bad ((Dq F r).bind fun y502 =>
 (Aa F (ref12_reader.mk y502.2.b y502.2.bad)).bind fun y509 =>
 (Bb F (ref12_reader.mk y509.2.b y509.2.bad)).bind fun y516 =>
 (Bb F (ref12_reader.mk y516.2.b y516.2.bad)).bind fun y524 =>
 (Aa F (ref12_reader.mk y524.2.b y524.2.bad)).bind fun y531 =>
 (Aa F (ref12_reader.mk y531.2.b y531.2.bad)).bind fun y538 =>
 (Aa F (ref12_reader.mk y538.2.b y538.2.bad)).bind fun y545 =>
 bif ((Cb (api_Grid.mk y516.1 y524.1 y531.1 y538.1 y545.1)) != 0) then (some (zR,false)) else ((ck (y538.1*y545.1)).bind fun x552 =>
 (Fe F (ref12_reader.mk y545.2.b y545.2.bad) x552).bind fun y553 =>
 Dj F y6 y502.1 0 0 0 ([]) y516.1 y524.1 y531.1 y538.1 y545.1 y553.1 y509.1 ByteArray.empty ByteArray.empty 0 0 0 0 0 0 y553.2.b y553.2.bad)) (Th r.b):=by
 have h1:1000≤F:=by omega
 unfold Th;refine Fin.bind (A6w h1 hb) fun nm s1 hs1 _ _=>?_;have b1:=hb.suf hs1;refine Fin.bind (E9 h1 b1) fun tm s2 hs2 _ _=>?_;have b2:=b1.suf hs2;refine Fin.bind (Ru h1 b2) fun x s3 hs3 _ _=>?_;have b3:=b2.suf hs3;refine Fin.bind (Ru h1 b3) fun y s4 hs4 _ _=>?_;have b4:=b3.suf hs4;refine Fin.bind (E9 h1 b4) fun sz s5 hs5 _ _=>?_;have b5:=b4.suf hs5;refine Fin.bind (E9 h1 b5) fun wd s6 hs6 _ _=>?_;have b6:=b5.suf hs6;refine Fin.bind (E9 h1 b6) fun hi s7 hs7 _ _=>?_;have b7:=b6.suf hs7;show Fin s7.bad (bif ((Cb ⟨x,y,sz,wd,hi⟩) != 0) then _ else _) (if Ut ⟨x,y,sz,wd,hi⟩ then _ else _);rw [A13]
 by_cases h0:Br ⟨x,y,sz,wd,hi⟩=0
 ·have hv:=(Xk _).1 h0;have hgl:=T5 hv;simp only at hgl;rw [Ao (by simp [h0]),if_pos hv];show Fin s7.bad ((ck (wd*hi)).bind fun x552=>_) _;rw [ckb (by omega)];have hr:=A88 hF (N:=(wd*hi).toNat) (by omega) (r:=s7) b7;rw [show (((wd*hi).toNat:Nat):Int)=wd*hi by omega] at hr;refine Fin.bind hr fun all s8 hs8 _ _=>?_;exact A62 (F:=F) (by omega) (t:=.ic158 ⟨nm,tm,⟨⟨x,y,sz,wd,hi⟩,all⟩⟩) (by simp) y6 nm 0 0 0 [] x y sz wd hi all tm ByteArray.empty ByteArray.empty 0 0 0 0 0 0 s8.b s8.bad (by rw [h6];rfl)
 ·rw [Aq (by simp [h0]),if_neg (fun h=>h0 ((Xk _).2 h))];exact Fin.no
theorem B09 {F:Nat} (hF:200000≤F) (y6:Int×ref12_reader) (h6:y6.1=3) {r:ref12_reader} (hb:By r.b):Fin r.bad ((Aa F r).bind fun y582 =>
 (Dq F (ref12_reader.mk y582.2.b y582.2.bad)).bind fun y589 =>
 Dj F y6 ByteArray.empty 0 0 0 ([]) 0 0 0 0 0 ([]) y582.1 y589.1 ByteArray.empty 0 0 0 0 0 0 y589.2.b y589.2.bad) (X9 r.b):=by
 have h1:1000≤F:=by omega
 unfold X9;refine Fin.bind (E9 h1 hb) fun tm s1 hs1 _ _=>?_;have b1:=hb.suf hs1;refine Fin.bind (A6w h1 b1) fun tx s2 hs2 _ _=>?_;exact A62 (F:=F) (by omega) (t:=.ic160 ⟨tm,tx⟩) (by simp) y6 ByteArray.empty 0 0 0 [] 0 0 0 0 0 [] tm tx ByteArray.empty 0 0 0 0 0 0 s2.b s2.bad (by rw [h6];rfl)
theorem A6y {F:Nat} (hF:200000≤F) {l:List Int} (hl:By l):Nn F l=some (fin (Ky l)):=by
 have h1:1000≤F:=by omega
 have:Fin false (Nn F l) (Ky l):=by
  rw [Nn,Ky];refine Fin.bind (b:=l) (bad:=false) (E9 h1 (r:=⟨l,false⟩) hl) fun k s hs _ _=>?_;have b1:=hl.suf hs;show Fin s.bad (bif (k==1) then _ else _) (if k=1 then _ else _)
  by_cases k1:k=1
  ·rw [Aq (by simp [k1]),if_pos k1];exact A89 hF (k,s) k1 b1
  ·rw [Ao (by simp [k1]),if_neg k1]
   by_cases k2:k=2
   ·rw [Aq (by simp [k2]),if_pos k2];exact A87 hF (k,s) k2 b1
   ·rw [Ao (by simp [k2]),if_neg k2]
    by_cases k3:k=3
    ·rw [Aq (by simp [k3]),if_pos k3];exact B09 hF (k,s) k3 b1
    ·rw [Ao (by simp [k3]),if_neg k3];rw [Dj];have hc:Ef F (ref12_Item.mk k ByteArray.empty 0 (api_Sweep.mk (api_Site.mk ByteArray.empty 0 0 0 0 0 0 0) 0 0 []) (api_Field.mk (api_Grid.mk 0 0 0 0 0) []) ByteArray.empty)=some 2:=by
      rw [Ef];have a1:(k != 1)=true:=by simp [k1]
      have a2:(k != 2)=true:=by simp [k2]
      have a3:(k != 3)=true:=by simp [k3]
      rw [Aq (show (bif (bif (k != 1) then (k != 2) else false) then (k != 3) else false)=true by rw [a1,a2,a3];rfl)]
     show Fin s.bad (bif s.bad then _ else ((gd (((decide (((s.b.length:Nat):Int)>0))==false&&true)) (Ef F (ref12_Item.mk k ByteArray.empty 0 (api_Sweep.mk (api_Site.mk ByteArray.empty 0 0 0 0 0 0 0) 0 0 []) (api_Field.mk (api_Grid.mk 0 0 0 0 0) []) ByteArray.empty)) default).bind fun y320=>bif (bif (decide (((s.b.length:Nat):Int)>0)) then true else (y320 != 0)) then _ else _)) none;rw [hc]
     cases s.bad with
     | true=>rw [Aq rfl,gdF (by rfl),sbd];exact Fin.no
     | false =>
      rw [Ao rfl]
      cases decide (((s.b.length:Nat):Int)>0) with
      | true=>rw [gdF (by rfl),sbd,Aq (by rfl)];exact Fin.no
      | false=>rw [gdT (by rfl),sbd,Aq (by rfl)];exact Fin.no
 exact this
noncomputable def tkS (p:List Int):ref12_Item×Int:=if (unS p).2=0 then (toR (Cs (unS p).1),0) else (zR,(unS p).2)
theorem A4v {F:Nat} (hF:200000≤F) {p:List Int} (hp:By p) (hl:p.length<F) (hl9:p.length≤1000000000):Pf F p=some (tkS p):=by
 obtain ⟨x,r,h1,h2,h3,h4⟩:=E9 (F:=F) (by omega) (r:=⟨p,false⟩) hp;unfold Pf tkS unS;rw [h1,sbd];rcases h4 with ⟨_,e2,e3⟩|⟨e1,e2⟩
 ·have e2:rN p=some (x,r.b):=e2;obtain ⟨a,b,c⟩:=Dm hp e2;have hrl:=c.length_le;rw [e2];show (bif r.bad then _ else _)=_;rw [e3,Ao rfl,ckb (by simp only;omega)];show (bif ((r.b.length:Nat):Int) != x+5 then _ else _)=_
  by_cases q3:(r.b.length:Int)=x+5
  ·rw [Ao (by simp [q3]),ckb (by omega),Jt (p.length-5) (by omega) rfl (by omega),ckb (by omega),Q5 (p.length-5) rfl (by omega) (by omega)];have hby1:By (p.take (p.length-5)):=fun x hx=>hp x (List.mem_of_mem_take hx);rw [A3m (by omega) hby1 (by rw [List.length_take];omega) (by rw [List.length_take];omega),sbd,A84 (by rw [List.length_drop];omega) (by rw [List.length_drop];omega),sbd]
   by_cases q4:p.drop (p.length-5)=Xh (p.take (p.length-5))
   ·rw [dT q4,Ao (by rfl),Q5 x.toNat rfl (by simp only;omega) (show x.toNat≤r.b.length by omega)];have hbr:By (r.b.take x.toNat):=fun y hy=>(hp.suf c) y (List.mem_of_mem_take hy);rw [A6y hF hbr,sbd];simp only [q3,q4,ne_eq,not_true_eq_false,if_false]
    cases q5:Ky (r.b.take x.toNat) with
    | none=>rfl
    | some y =>
     obtain ⟨t,r2⟩:=y;simp only [fin]
     by_cases q6:vT t∧r2=[]
     ·rw [if_pos q6,if_pos q6];rfl
     ·rw [if_neg q6,if_neg q6];rfl
   ·rw [dF q4,Aq (by rfl)];simp only [q3,q4,ne_eq,not_true_eq_false,not_false_eq_true,if_false,if_true];rfl
  ·rw [Aq (by simp [q3])];simp only [q3,ne_eq,not_false_eq_true,if_true];rfl
 ·rcases e2 with e2|e2
  ·cases e2
  ·have e2:rN p=none:=e2;rw [e2];show (bif r.bad then _ else _)=_;rw [e1,Aq rfl];rfl
theorem A2u {F:Nat} {p:List Int} (hp:By p) (hl:p.length≤1000000000):∀(m i:Nat) (c:Bool),p.length-i<m→i≤p.length →
  Kl F p m c i=Ly F p (c&&Wh (p.drop i)):=by
 intro m
 induction m with
 | zero=>intro i c h;omega
 | succ m ih =>
  intro i c h hi;rw [Kl,P6]
  by_cases hb:i<p.length
  ·have hd:=List.drop_eq_getElem_cons hb;have hg:Bh p (i:Int)=some p[i]:=by unfold Bh;rw [if_pos (by omega),Int.toNat_natCast,List.getElem?_eq_getElem hb]
   have e:Wh (p[i]::p.drop (i+1))=(decide (p[i]≥128)&&decide (p[i]≤254)&&Wh (p.drop (i+1))):=List.all_cons ..;rw [Aq (dT (by omega)),hg,hd,e]
   cases c with
   | false =>
    rw [gdF (by rfl),sbd,gdF (by rfl),sbd,ckb (by omega),show ((i:Int)+1)=((i+1:Nat):Int) by omega,ih (i+1) _ (by omega) (by omega)];rfl
   | true =>
    rw [gdT (by rfl),sbd]
    cases decide (p[i]≥128) with
    | false =>
     rw [gdF (by rfl),sbd,ckb (by omega),show ((i:Int)+1)=((i+1:Nat):Int) by omega,ih (i+1) _ (by omega) (by omega)];rfl
    | true =>
     rw [gdT (by rfl),sbd,ckb (by omega),show ((i:Int)+1)=((i+1:Nat):Int) by omega,ih (i+1) _ (by omega) (by omega)]
     cases decide (p[i]≤254)<;>rfl
  ·rw [Ao (dF (by omega)),List.drop_of_length_le (by omega)];simp [Wh]
theorem A75 {F:Nat} (hF:1000≤F) {p:List Int} (hp:By p) (hlF:p.length<F) (hl:p.length≤1000000000):Qp F p=some (Yv p):=by
 rw [Qp,show (0:Int)=((0:Nat):Int) from rfl,A2u hp hl F 0 true (by omega) (by omega),Ly,List.drop_zero,Bool.true_and];unfold Yv;obtain ⟨x,r,h1,h2,h3,h4⟩:=E9 (F:=F) hF (r:=⟨p,false⟩) hp;rw [h1,sbd]
 cases Wh p with
 | true=>rfl
 | false =>
  rcases h4 with ⟨_,e2,e3⟩|⟨e1,e2⟩
  ·have e2:rN p=some (x,r.b):=e2;obtain ⟨a,b,c⟩:=Dm hp e2;rw [e2];show (bif (!r.bad) then ((ck (x+5)).bind fun x29=>some (decide (((r.b.length:Nat):Int)<x29))) else _)=_;rw [e3,Aq (by rfl),ckb (by omega)];rfl
  ·rcases e2 with e2|e2
   ·cases e2
   ·have e2:rN p=none:=e2;rw [e2];show (bif (!r.bad) then _ else _)=_;rw [e1,Ao (by rfl)];rfl
end Go.Proofs.YtifbomimeodibaaGreat
namespace Go.Proofs.YtifbomimeodibaaGreat
open Go Go.RowKit Go.Eng
set_option maxRecDepth 10000
set_option linter.unusedVariables false
set_option linter.unusedSimpArgs false
noncomputable def cap (x:List volume_Item×Int×Int):List volume_Item×Int×Int:=if x.1.length>1000 then ([],0,9) else x
theorem A93 (x:List volume_Item×Int×Int):Fc x.1 x.2.1 x.2.2=some (cap x):=by
 unfold Fc cap
 by_cases h:x.1.length>1000
 ·rw [Aq (dT (by omega)),if_pos h]
 ·rw [Ao (dF (by omega)),if_neg h]
theorem A6j {F:Nat} (hF:200000≤F) {ps:List (List Int)} (hz:∀q∈ps,Nz q) (hl:4+(Bl ps).length<F) (hl2:4+(Bl ps).length≤16777216) (hn:ps.length≤1000000) :
  C9 F (RVF1++Bl ps)=some (cap (rdF (4+(Bl ps).length:Nat) 4 ps)):=by
 have hlen:(RVF1++Bl ps).length=4+(Bl ps).length:=by rw [List.length_append];rfl
 have hj:=Wj ps;rw [C9,Ao (dF (by omega)),show ([82,86,70,49]:List Int)=RVF1 from rfl,A4i F _ (A5z hz),sbd];obtain ⟨tg,h1,h2⟩:=A4l hF (RVF1++Bl ps) (by omega) (by omega) ((RVF1++Bl ps).length:Nat) ps 4 [] (by decide) (by omega) hz (by simp;omega);have hfin:((Gh F (RVF1++Bl ps) (Jp F (RVF1++Bl ps)) (([]:List volume_Item),(((RVF1++Bl ps).length:Nat):Int),0,0)).bind fun r410 =>
   bif r410.2 then (Fc r410.1.1 r410.1.2.1 r410.1.2.2.1) else (bif (r410.1.2.2.2==3) then (Fc r410.1.1 r410.1.2.1 r410.1.2.2.1) else (none)))=some (cap (rdF (4+(Bl ps).length:Nat) 4 ps)):=by
  rw [A4h F _ RVF1_nz hz (by omega) (by omega),show ((RVF1.length:Nat):Int)=4 from rfl,h1,sbd];have hk:Fc ([]++(rdF ((RVF1++Bl ps).length:Nat) 4 ps).1) (rdF ((RVF1++Bl ps).length:Nat) 4 ps).2.1 (rdF ((RVF1++Bl ps).length:Nat) 4 ps).2.2=some (cap (rdF (4+(Bl ps).length:Nat) 4 ps)):=by
   rw [hlen,List.nil_append];exact A93 _
  rcases h2 with rfl|rfl
  ·exact hk
  ·exact hk
 cases ps with
 | nil =>
  rw [gdF (by rfl),sbd,Ao (by rfl)];exact hfin
 | cons p ps =>
  have hg:(Bh (RVF1++Bl (p::ps)) 4)=some 0:=by rw [D3];rfl
  rw [gdT (by rw [dT (show (((RVF1++Bl (p::ps)).length:Nat):Int)>4 by rw [hlen,D3];simp;omega)];rfl),hg,sbd,Ao (by cases decide ((((RVF1++Bl (p::ps)).length:Nat):Int)>4)<;>rfl)]
  exact hfin
theorem A7i {b p:List Int} {ps:List (List Int)} (hb:b=p++Bl ps) (hp:Nz p) (h4:4≤b.length) (ht:b.take 4=RVF1) (h0:∀x,b[4]? = some x→x=0):p=RVF1:=by
 have hnz:∀i (x:Int),i<4→b[i]? = some x→x≠0:=by
  intro i x hi hx e;have:(b.take 4)[i]? = some x:=by rw [List.getElem?_take,if_pos hi];exact hx
  rw [ht] at this;have hm:=RVF1_nz x (List.mem_of_getElem? this);omega
 have hlen:p.length=4:=by
  rcases Nat.lt_trichotomy p.length 4 with h|h|h
  ·exfalso
   cases ps with
   | nil=>rw [hb] at h4;simp [Bl] at h4;omega
   | cons q qs =>
    refine hnz p.length 0 h ?_ rfl;rw [hb,D3,List.getElem?_append_right (Nat.le_refl _),Nat.sub_self];rfl
  ·exact h
  ·exfalso;have hx:=hp p[4] (List.getElem_mem h);have:=h0 p[4] (by rw [hb,List.getElem?_append_left h,List.getElem?_eq_getElem h]);omega
 rw [←ht,hb,←hlen,List.take_left]
theorem A7j (F:Nat) (b:List Int) (hb:By b):Gb F b RVF1=some (decide (4≤b.length∧b.take 4=RVF1)):=by
 unfold Gb
 by_cases h:4≤b.length
 ·rw [Aq (dT (by show ((b.length:Nat):Int)≥((4:Nat):Int);omega)),Q5 4 rfl (by rfl) h,bEq (fun x hx=>hb x (List.mem_of_mem_take hx)) RVF1_nz.by]
  congr 1
  rw [decide_eq_decide];exact ⟨fun e=>⟨h,e⟩,fun e=>e.2⟩
 ·rw [Ao (dF (by show ¬((b.length:Nat):Int)≥((4:Nat):Int);omega)),dF (fun e=>h e.1)]
theorem A6i {F:Nat} {b p:List Int} {ps:List (List Int)} (hB:By b) (hb:b=p++Bl ps) (hp:Nz p) (hl:b.length≤16777216) (hne:p≠RVF1):C9 F b=some ([],0,7):=by
 rw [C9,Ao (dF (by omega)),show ([82,86,70,49]:List Int)=RVF1 from rfl,A7j F b hB,sbd]
 by_cases h:4≤b.length∧b.take 4=RVF1
 ·rw [dT h]
  by_cases h5:4<b.length
  ·rw [dT (show ((b.length:Nat):Int)>4 by omega),gdT (by rfl),E4 4 b[4] (by rfl) (List.getElem?_eq_getElem h5)]
   by_cases h6:b[4]=0
   ·exact absurd (A7i hb hp h.1 h.2 (fun x hx=>by rw [List.getElem?_eq_getElem h5] at hx;cases hx;exact h6)) hne
   ·rw [Aq];show (bif false then true else (bif true then (b[4] != 0) else false))=true;simp [h6]
  ·exact absurd (A7i hb hp h.1 h.2 (fun x hx=>by rw [List.getElem?_eq_none (by omega)] at hx;cases hx)) hne
 ·rw [dF h,gdF (by cases decide (((b.length:Nat):Int)>4)<;>rfl),sbd,Aq (by rfl)]
theorem A9a (b pre p rest:List Int) (hb:b=pre++(p++rest)) (hp:Nz p) (hr:rest=[]∨∃l,rest=0::l) (h9:b.length≤1000000000):∀(m i:Nat),i≤p.length→p.length-i<m→Lj b m ((pre.length+i:Nat):Int)=some ((pre.length+p.length:Nat):Int):=by
 have hlen:b.length=pre.length+(p.length+rest.length):=by rw [hb];simp
 intro m
 induction m with
 | zero=>intro i _ h;omega
 | succ m ih =>
  intro i hi h;rw [Lj,Pt]
  by_cases he:i<p.length
  ·have hg:b[pre.length+i]? = some p[i]:=by
    rw [hb,List.getElem?_append_right (by omega),show pre.length+i-pre.length=i by omega,List.getElem?_append_left he,List.getElem?_eq_getElem he]
   have hx:=hp p[i] (List.getElem_mem he);rw [dT (show ((pre.length+i:Nat):Int)<((b.length:Nat):Int) by omega),gdT (by rfl),E4 (pre.length+i) p[i] rfl hg,Aq (by show (bif true then (p[i] != 0) else false)=true;simp;omega),ckb (by omega),show (((pre.length+i:Nat):Int)+1)=((pre.length+(i+1):Nat):Int) by omega];exact ih (i+1) (by omega) (by omega)
  ·obtain rfl:i=p.length:=by omega
   rcases hr with hr|⟨l,hr⟩
   ·have:rest.length=0:=by rw [hr];rfl
    rw [dF (by omega),gdF (by rfl),sbd,Ao (by rfl)];rfl
   ·have hg:b[pre.length+p.length]? = some 0:=by
     rw [hb,hr,List.getElem?_append_right (by omega),show pre.length+p.length-pre.length=p.length by omega,List.getElem?_append_right (Nat.le_refl _),Nat.sub_self];rfl
    have:rest.length=l.length+1:=by rw [hr];rfl
    rw [dT (by omega),gdT (by rfl),E4 (pre.length+p.length) 0 rfl hg,Ao (by rfl)];rfl
theorem A16 (ps:List (List Int)):Bl ps=[]∨∃l,Bl ps=0::l:=by
 cases ps with
 | nil=>exact .inl rfl
 | cons p ps=>exact .inr ⟨_,D3 p ps⟩
theorem A2t {F:Nat} (hF:200000≤F) (b:List Int) (hbF:b.length<F) (h9:b.length≤1000000000):∀(ps:List (List Int)) (pre:List Int) (m:Nat) (acc:List ref12_Item),b=pre++Bl ps→(∀q∈ps,Nz q)→ps.length<m→acc.length+ps.length≤1000000000 →
  G0 F b m acc pre.length 0=J8 (acc++(rdF b.length pre.length ps).1.map toR) (rdF b.length pre.length ps).2.1 (rdF b.length pre.length ps).2.2:=by
 intro ps
 induction ps with
 | nil =>
  intro pre m acc hb hz hm ha;obtain ⟨m,rfl⟩:∃k,m=k+1:=⟨m-1,by omega⟩;have hlen:b.length=pre.length:=by rw [hb];simp [Bl]
  rw [G0,Kh,dF (by omega),Ao (by rfl),rdF,hlen];simp
 | cons p ps ih =>
  intro pre m acc hb hz hm ha;obtain ⟨m,rfl⟩:∃k,m=k+1:=⟨m-1,by omega⟩;simp only [List.length_cons] at hm ha;have hp:=hz p (by simp);have hb2:b=(pre++[0])++(p++Bl ps):=by rw [hb,D3];simp
  have hlen:b.length=pre.length+1+(p.length+(Bl ps).length):=by rw [hb2];simp;omega
  have hend:=A9a b (pre++[0]) p (Bl ps) hb2 hp (A16 ps) h9 F 0 (by omega) (by omega);have hpl:(pre++[0]).length=pre.length+1:=by simp
  rw [hpl,Nat.add_zero] at hend;have hcut:((b.drop (pre.length+1)).take (pre.length+1+p.length-(pre.length+1)))=p:=by
   rw [hb2,←hpl,List.drop_left,show (pre++[(0:Int)]).length+p.length-(pre++[(0:Int)]).length=p.length by omega,List.take_left]
  rw [G0,Kh,dT (show ((pre.length:Nat):Int)<((b.length:Nat):Int) by omega),Aq (by rfl),ckb (by omega),Uc,show ((pre.length:Nat):Int)+1=((pre.length+1:Nat):Int) by omega,hend,sbd,ckb (by omega),A3x (pre.length+1) (pre.length+1+p.length) rfl rfl (by omega),hcut,A4v hF hp.by (by omega) (by omega),sbd,rdF]
  by_cases h:(unS p).2=0
  ·have htk:tkS p=(toR (Cs (unS p).1),0):=by unfold tkS;rw [if_pos h]
   rw [htk,if_pos h,Ao (by rfl),Gx,Aq (by rfl),Gq (by simp;omega) (by decide)];have:=ih (pre++0::p) m (acc++[toR (Cs (unS p).1)]) (by rw [hb,D3];simp) (fun q hq=>hz q (by simp [hq])) (by omega) (by simp;omega);have hl2:(pre++0::p).length=pre.length+1+p.length:=by simp;omega
   rw [hl2] at this;refine Eq.trans this ?_;rw [show ((pre.length+1+p.length:Nat):Int)=(pre.length:Int)+1+p.length by omega];simp
  ·have htk:tkS p=(zR,(unS p).2):=by unfold tkS;rw [if_neg h]
   rw [htk,if_neg h];have hstop:∀e:Int,e≠0→Gx acc (pre.length:Nat) (G0 F b m) ((pre.length+1+p.length:Nat):Int) (zR,(unS p).2) e=J8 acc (pre.length:Nat) e:=by
    intro e he;obtain ⟨m,rfl⟩:∃k,m=k+1:=⟨m-1,by omega⟩;rw [Gx,Ao (by simp [he]),G0,Kh,dT (show ((pre.length:Nat):Int)<((b.length:Nat):Int) by omega),Ao (by show (bif true then (e==0) else false)=false;simp [he])]
   have hlast:(((pre.length+1+p.length:Nat):Int)==((b.length:Nat):Int))=decide (ps=[]):=by
    cases ps with
    | nil=>simp [Bl] at hlen;simp;omega
    | cons q qs=>rw [D3] at hlen;simp at hlen;simp;omega
   have hne:((unS p).2 != 0)=true:=by simp [h]
   rw [hlast];show (bif (bif ((unS p).2 != 0) then decide (ps=[]) else false) then _ else _)=_;rw [hne]
   by_cases hps:ps=[]
   ·rw [dT hps,Aq (by rfl),ckb (by omega),A3x (pre.length+1) (pre.length+1+p.length) rfl rfl (by omega),hcut,A75 (by omega) hp.by (by omega) (by omega),sbd]
    cases ht:Yv p with
    | true=>rw [Aq rfl,hstop 16 (by decide),if_pos ⟨hps,rfl⟩];simp
    | false=>rw [Ao rfl,hstop _ h,if_neg (by simp)];simp
   ·rw [dF hps,Ao (by rfl),hstop _ h,if_neg (fun e=>hps e.1)];simp
def A19 (x:List volume_Item×Int×Int):List ref12_Item×Int×Int:=(x.1.map toR,x.2)
theorem B1k (x:List volume_Item×Int×Int):J8 (x.1.map toR) x.2.1 x.2.2=some (A19 (cap x)):=by
 unfold J8 cap A19
 by_cases h:x.1.length>1000
 ·rw [Aq (dT (by simp;omega)),if_pos h];rfl
 ·rw [Ao (dF (by simp;omega)),if_neg h]
theorem A71 {F:Nat} (hF:200000≤F) {ps:List (List Int)} (hz:∀q∈ps,Nz q) (hl:4+(Bl ps).length<F) (hl2:4+(Bl ps).length≤16777216):Fq F (RVF1++Bl ps)=some (A19 (cap (rdF (4+(Bl ps).length:Nat) 4 ps))):=by
 have hlen:(RVF1++Bl ps).length=4+(Bl ps).length:=by rw [List.length_append];rfl
 have hj:=Wj ps;have hloop:=A2t hF (RVF1++Bl ps) (by omega) (by omega) ps RVF1 F [] rfl hz (by omega) (by simp;omega);rw [hlen] at hloop;have e4:((RVF1.length:Nat):Int)=4:=rfl;rw [e4,List.nil_append,B1k] at hloop;rw [Fq,Ao (dF (by omega)),Ao (dF (by omega)),Q5 4 rfl (by rfl) (by omega)];have ht:(RVF1++Bl ps).take 4=RVF1:=List.take_left' rfl;have hq:sEq (bst RVF1) (⟨#[82,86,70,49]⟩:ByteArray)=true:=by decide
 rw [ht,hq]
 cases ps with
 | nil=>rw [gdF (by rfl),sbd,Ao (by rfl)];exact hloop
 | cons p ps =>
  have hg:(Bh (RVF1++Bl (p::ps)) 4)=some 0:=by rw [D3];rfl
  rw [gdT (by rw [dT (show (((RVF1++Bl (p::ps)).length:Nat):Int)>4 by rw [hlen,D3];simp;omega)];rfl),hg,sbd,Ao (by cases decide ((((RVF1++Bl (p::ps)).length:Nat):Int)>4)<;>rfl)]
  exact hloop
theorem A4t {F:Nat} {b p:List Int} {ps:List (List Int)} (hB:By b) (hb:b=p++Bl ps) (hp:Nz p) (hl:b.length≤16777216) (hne:p≠RVF1):Fq F b=some ([],0,7):=by
 rw [Fq,Ao (dF (by omega))]
 by_cases h4:4≤b.length
 ·rw [Ao (dF (by omega)),Q5 4 rfl (by rfl) h4];have hq:sEq (bst (b.take 4)) (⟨#[82,86,70,49]⟩:ByteArray)=decide (b.take 4=RVF1):=by
   have:=bEq (a:=b.take 4) (fun x hx=>hB x (List.mem_of_mem_take hx)) RVF1_nz.by
   exact this
  rw [hq]
  by_cases ht:b.take 4=RVF1
  ·rw [dT ht]
   by_cases h5:4<b.length
   ·rw [dT (show ((b.length:Nat):Int)>4 by omega),gdT (by rfl),E4 4 b[4] (by rfl) (List.getElem?_eq_getElem h5)]
    by_cases h6:b[4]=0
    ·exact absurd (A7i hb hp h4 ht (fun x hx=>by rw [List.getElem?_eq_getElem h5] at hx;cases hx;exact h6)) hne
    ·rw [Aq];show (bif false then true else (bif true then (b[4] != 0) else false))=true;simp [h6]
   ·exact absurd (A7i hb hp h4 ht (fun x hx=>by rw [List.getElem?_eq_none (by omega)] at hx;cases hx)) hne
  ·rw [dF ht,gdF (by cases decide (((b.length:Nat):Int)>4)<;>rfl),sbd,Aq (by rfl)]
 ·rw [Aq (dT (by omega)),gdF (by cases decide (((b.length:Nat):Int)>4)<;>rfl),sbd]
end Go.Proofs.YtifbomimeodibaaGreat
namespace Go.Proofs.YtifbomimeodibaaGreat
open Go Go.RowKit Go.Eng
set_option maxRecDepth 10000
set_option linter.unusedVariables false
set_option linter.unusedSimpArgs false
theorem A8d:∀(F k n:Nat),n<127 ^ (k+1)→k<F→k<10→n≤4611686018427387904→An F (n:Int)=some (E0 n):=by
 intro F
 induction F with
 | zero=>intro k n _ h;omega
 | succ F ih =>
  intro k n hn hk h10 h9;rw [An,Mt]
  by_cases h:n<127
  ·rw [Aq (dT (by omega)),ckb (by omega),Xc (by omega),R8 h,show (1:Int)+(n:Int)=(n:Int)+1 by omega]
  ·have hm:=Nat.mod_lt n (show 0<127 by decide);obtain ⟨k,rfl⟩:∃j,k=j+1:=by
    cases k with
    | zero=>simp at hn;omega
    | succ j=>exact ⟨j,rfl⟩
   have hd:n/127<127 ^ (k+1):=by
    rw [Nat.pow_succ] at hn;exact Nat.div_lt_of_lt_mul (by rw [Nat.mul_comm];exact hn)
   have hlen:=A1c k (n/127) hd;rw [Ao (dF (by omega)),(tdm n).1,sbd,ckb (by omega),(tdm n).2,ckb (by omega),ih k (n/127) hd (by omega) (by omega) (by omega),sbd,Gq (by simp;omega) (by decide),Xc (by omega),U9 (n:=n) (by omega)];rfl
theorem Gg {F:Nat} (hF:20≤F) {x:Int} (h:okN x):An F x=some (E0 x.toNat):=by
 obtain ⟨h0,h1⟩:=h;have e:x=((x.toNat:Nat):Int):=by omega
 have hp:(127:Nat) ^ (8+1)=8594754748609397887:=by decide
 have:=A8d F 8 x.toNat (by rw [hp];omega) (by omega) (by decide) (by omega);rw [←e] at this;exact this
theorem Yx {F:Nat} (hF:20≤F) {x:Int} (h:okZ x):Di F x=some (E0 (zig x)):=by
 have hz:=Z2 h;obtain ⟨h0,h1⟩:=h;rw [Di];unfold zig at hz ⊢
 by_cases hx:x<0
 ·rw [if_pos hx] at hz ⊢;rw [Aq (dT hx),ckb (by omega),ckb (by omega)];have e:(((-2*x-1).toNat:Nat):Int)=-2*x-1:=by omega
  rw [e] at hz;rw [Gg hF hz,sbd]
 ·rw [if_neg hx] at hz ⊢;rw [Ao (dF hx),ckb (by omega)];have e:(((2*x).toNat:Nat):Int)=2*x:=by omega
  rw [e] at hz;rw [Gg hF hz,sbd]
theorem A2r {F:Nat} (hF:20≤F) {s:ByteArray} (h:s.size≤1000000):Kk F s=some (Ks s):=by
 have hk:okN ((s.size:Nat):Int):=⟨by omega,by omega⟩;have h9:=Df hk;rw [Int.toNat_natCast] at h9;have h2b:s2b s=some (sby s):=by unfold s2b;rw [if_pos (by omega)]
 have:=Ll s;rw [Kk,Gg hF hk,sbd,Int.toNat_natCast,h2b,sbd,Gq (by omega) (by decide)];rfl
theorem Sk {F:Nat} (hF:20≤F) {s:api_Span} (h:okS s):Gf F s=some (G4 s):=by
 obtain ⟨h0,h1,h2⟩:=h;have hz:okZ s.Lo:=⟨by omega,by omega⟩;have hn:okN (s.Hi-s.Lo):=⟨by omega,by omega⟩;have a1:=Df (Z2 hz);rw [Int.toNat_natCast] at a1;have a2:=Df hn;rw [Gf,ckb (by omega),Yx hF hz,sbd,Gg hF hn,sbd,Gq (by omega) (by decide)];rfl
theorem A4b (ls:List (List Int)):∀(m i:Nat) (acc:List Int),ls.length-i<m→i≤ls.length→ls.length≤1000→acc.length+(ls.drop i).flatten.length≤1000000000000→Hp ls m acc i=some (acc++(ls.drop i).flatten):=by
 intro m
 induction m with
 | zero=>intro i acc h;omega
 | succ m ih =>
  intro i acc h hi hn ha;rw [Hp,M5]
  by_cases hb:i<ls.length
  ·rw [List.drop_eq_getElem_cons hb,List.flatten_cons,List.length_append] at ha;rw [Aq (dT (by omega)),E4 i ls[i] rfl (List.getElem?_eq_getElem hb),Gq (by omega) (by decide),ckb (by omega),show ((i:Int)+1)=((i+1:Nat):Int) by omega];refine Eq.trans (ih (i+1) _ (by omega) (by omega) hn (by simp only [List.length_append];omega)) ?_;rw [List.drop_eq_getElem_cons hb,List.flatten_cons,List.append_assoc]
  ·rw [Ao (dF (by omega)),M6,List.drop_of_length_le (by omega)];simp
theorem W4 {F:Nat} {ls:List (List Int)} (hF:1000<F) (hn:ls.length≤1000) (ha:ls.flatten.length≤1000000000000):Ep F ls=some ls.flatten:=by
 rw [Ep,show (0:Int)=((0:Nat):Int) from rfl,A4b ls F 0 [] (by omega) (by omega) hn (by simpa using ha)];simp
theorem A8c {F:Nat} (hF:2000≤F) {x:api_Echo} (h:okE x):Nm F x=some (H6 x):=by
 obtain ⟨hk,hh,hs,h1,h2,h3,h4,h5,h6⟩:=h;have l1:=Dz h1;have l2:=Dz h2;have l3:=Dz h3;have l4:=Dz h4;have l5:=Dz h5;have l6:=Dz h6;have lk:=Df hk;have lh:=Df hh;have ls:=Df hs;rw [Nm,Gg (by omega) hk,sbd];unfold H6
 by_cases hk1:x.Kind=1
 ·rw [Aq (by simp [hk1]),Gg (by omega) hh,sbd,Gq (by omega) (by decide),if_pos hk1]
 ·rw [Ao (by simp [hk1]),Sk (by omega) h1,sbd,Sk (by omega) h2,sbd,Sk (by omega) h3,sbd,Gg (by omega) hs,sbd,W4 (by omega) (by simp) (by simp;omega),sbd,Gq (by simp;omega) (by decide),if_neg hk1]
  by_cases hk3:x.Kind=3
  ·have e4:(⟨x.Steps.1.Lo,x.Steps.1.Hi⟩:api_Span)=x.Steps.1:=rfl;have e5:(⟨x.Steps.2.Lo,x.Steps.2.Hi⟩:api_Span)=x.Steps.2:=rfl;rw [Aq (by simp [hk3]),e4,e5,Sk (by omega) h4,sbd,Sk (by omega) h5,sbd,Sk (by omega) h6,sbd,W4 (by omega) (by simp) (by simp;omega),sbd,Gq (by simp;omega) (by decide),if_pos hk3];simp
  ·rw [Ao (by simp [hk3]),if_neg hk3];simp
theorem A23 (F:Nat) (p:List api_Span) (b:api_Span) (w:List Int) (i:Nat) (k2:Int→Int→List Int→Int→Option (List Int)) (hl:p.length≤1000000000) (hi:i≤p.length):∀(m j:Nat),j≤E5 b (p.drop i)→E5 b (p.drop i)-j<m →
  Jo F p b.Lo b.Hi w i k2 m j=L5 F p b.Lo b.Hi w i k2 (E5 b (p.drop i):Nat):=by
 intro m;have hle:=R7 b (p.drop i);rw [List.length_drop] at hle
 induction m with
 | zero=>intro j _ h;omega
 | succ m ih =>
  intro j hj hm;rw [Jo,Mu,ckb (by omega)]
  by_cases hb:j<E5 b (p.drop i)
  ·have hx:=Xp hb;rw [List.getElem?_drop] at hx;rw [gdT (gdt (dT (by omega))),ckb (by omega),gdT (gdt (dT (by omega))),E4 (i+j) b (by omega) hx,Uf b b,Aq (x:=decide (b=b)) (dT (by omega)),Aq (dT rfl),ckb (by omega)];exact ih (j+1) (by omega) (by omega)
  ·have he:j=E5 b (p.drop i):=by omega
   subst he
   by_cases hc:i+E5 b (p.drop i)<p.length
   ·have hg:=List.getElem?_eq_getElem hc;have hg2:(p.drop i)[E5 b (p.drop i)]? = some p[i+E5 b (p.drop i)]:=by rw [List.getElem?_drop];exact hg
    rw [gdT (gdt (dT (by omega))),ckb (by omega),gdT (gdt (dT (by omega))),E4 _ _ (by omega) hg,Uf _ b,Aq (x:=decide (p[i+E5 b (p.drop i)]=b)) (dT (by omega)),Ao (dF (Xo hg2))]
   ·rw [gdF (gdf (dF (by omega))),sbd,gdF (gdf (dF (by omega))),sbd,Ao (Ao (dF (by omega)))]
theorem A4w (F:Nat) (hF:2000≤F) (p:List api_Span) (hlF:p.length<F) (hl9:p.length≤1000000000) (hok:∀x∈p,okS x):∀(m i:Nat) (b:api_Span) (w:List Int),p.length-i<m→i≤p.length→w.length+200*(p.length-i)≤999999900000 →
  H7 F p m b.Lo b.Hi w i=some (w++Hl G4 b 0 (p.drop i)):=by
 intro m
 induction m with
 | zero=>intro i b w h;omega
 | succ m ih =>
  intro i b w h hi hw;rw [H7,L3]
  by_cases hb:i<p.length
  ·have hle:=R7 b (p.drop i);rw [List.length_drop] at hle;have hk:okN ((E5 b (p.drop i):Nat):Int):=⟨by omega,by omega⟩;have h9:=Df hk;rw [Int.toNat_natCast] at h9;have hne:p.drop i≠[]:=by intro e;have:=congrArg List.length e;simp at this;omega
   rw [Aq (dT (by omega)),show (0:Int)=((0:Nat):Int) from rfl,A23 F p b w i _ hl9 hi F 0 (by omega) (by omega),L5,Gg (by omega) hk,sbd,Int.toNat_natCast,Gq (by omega) (by decide),ckb (by omega),Ud G4 b 0 (p.drop i) (.inr hne)]
   cases hd:(p.drop i).drop (E5 b (p.drop i)) with
   | nil =>
    have hlen:i+E5 b (p.drop i)=p.length:=by
     have:=congrArg List.length hd;rw [List.length_drop,List.length_drop] at this;simp at this;omega
    obtain ⟨m,rfl⟩:∃k,m=k+1:=⟨m-1,by omega⟩;rw [Ao (dF (by omega)),H7,L3,Ao (dF (by omega)),L4];simp
   | cons y r =>
    obtain ⟨hg,hn,hr,hrl,hy⟩:=U1 hd;rw [List.length_drop] at hn hrl;rw [List.getElem?_drop] at hg;have hy2:y∈p:=List.mem_of_mem_drop hy;have hyl:=Dz (hok y hy2);rw [Aq (dT (by omega)),E4 (i+E5 b (p.drop i)) y (by omega) hg];rw [show (Gf F y)=some (G4 y) from Sk (by omega) (hok y hy2),sbd,Gq (by simp;omega) (by decide),E4 (i+E5 b (p.drop i)) y (by omega) hg,ckb (by omega),show ((i:Int)+((E5 b (p.drop i):Nat):Int)+1)=((i+E5 b (p.drop i)+1:Nat):Int) by omega];have e2:r=p.drop (i+E5 b (p.drop i)+1):=by rw [hr,List.drop_drop];congr 1
    rw [e2];refine Eq.trans (ih (i+E5 b (p.drop i)+1) y _ (by omega) (by omega) (by simp;omega)) ?_;simp
  ·rw [Ao (dF (by omega)),L4,List.drop_of_length_le (by omega)];simp [Hl]
theorem A4r {F:Nat} (hF:2000≤F) {p:List api_Span} (hlF:p.length<F) (hl9:p.length≤1000000000) (hok:∀x∈p,okS x):Mf F p=some (Hl G4 ⟨0,0⟩ 0 p):=by
 have:Mf F p=some ([]++Hl G4 ⟨0,0⟩ 0 (p.drop 0)):=A4w F hF p hlF hl9 hok F 0 ⟨0,0⟩ [] (by omega) (by omega) (by simp;omega)
 simpa using this
theorem A0n (F:Nat) (p:List api_Echo) (b:api_Echo) (w:List Int) (i:Nat) (k2:Int→Int→Int→Int→Int→Int→Int→Int→Int→Int→Int→Int→Int→Int→List Int→Int→Option (List Int)) (hl:p.length≤1000000000) (hi:i≤p.length):∀(m j:Nat),j≤E5 b (p.drop i)→E5 b (p.drop i)-j<m →
  Ho F p b.Kind b.Power.Lo b.Match.Lo b.Match.Hi b.Turn.Lo b.Turn.Hi b.Power.Hi b.Steps.1.Lo b.Steps.1.Hi b.Steps.2.Lo b.Steps.2.Hi b.Spread b.Ratio.Lo b.Ratio.Hi w i k2 m j=K8 F p b.Kind b.Power.Lo b.Match.Lo b.Match.Hi b.Turn.Lo b.Turn.Hi b.Power.Hi b.Steps.1.Lo b.Steps.1.Hi b.Steps.2.Lo b.Steps.2.Hi b.Spread b.Ratio.Lo b.Ratio.Hi w i k2 (E5 b (p.drop i):Nat):=by
 intro m;have hle:=R7 b (p.drop i);rw [List.length_drop] at hle
 induction m with
 | zero=>intro j _ h;omega
 | succ m ih =>
  intro j hj hm;rw [Ho,M4,ckb (by omega)]
  by_cases hb:j<E5 b (p.drop i)
  ·have hx:=Xp hb;rw [List.getElem?_drop] at hx;rw [gdT (gdt (dT (by omega))),ckb (by omega),gdT (gdt (dT (by omega))),E4 (i+j) b (by omega) hx,U3 b b,Aq (x:=decide (b=b)) (dT (by omega)),Aq (dT rfl),ckb (by omega)];exact ih (j+1) (by omega) (by omega)
  ·have he:j=E5 b (p.drop i):=by omega
   subst he
   by_cases hc:i+E5 b (p.drop i)<p.length
   ·have hg:=List.getElem?_eq_getElem hc;have hg2:(p.drop i)[E5 b (p.drop i)]? = some p[i+E5 b (p.drop i)]:=by rw [List.getElem?_drop];exact hg
    rw [gdT (gdt (dT (by omega))),ckb (by omega),gdT (gdt (dT (by omega))),E4 _ _ (by omega) hg,U3 _ b,Aq (x:=decide (p[i+E5 b (p.drop i)]=b)) (dT (by omega)),Ao (dF (Xo hg2))]
   ·rw [gdF (gdf (dF (by omega))),sbd,gdF (gdf (dF (by omega))),sbd,Ao (Ao (dF (by omega)))]
theorem A2v (F:Nat) (hF:2000≤F) (p:List api_Echo) (hlF:p.length<F) (hl9:p.length≤1000000000) (hok:∀x∈p,okE x):∀(m i:Nat) (b:api_Echo) (w:List Int),p.length-i<m→i≤p.length→w.length+200*(p.length-i)≤999999900000 →
  Ge F p m b.Kind b.Power.Lo b.Match.Lo b.Match.Hi b.Turn.Lo b.Turn.Hi b.Power.Hi b.Steps.1.Lo b.Steps.1.Hi b.Steps.2.Lo b.Steps.2.Hi b.Spread b.Ratio.Lo b.Ratio.Hi w i=some (w++Hl H6 b 0 (p.drop i)):=by
 intro m
 induction m with
 | zero=>intro i b w h;omega
 | succ m ih =>
  intro i b w h hi hw;rw [Ge,K6]
  by_cases hb:i<p.length
  ·have hle:=R7 b (p.drop i);rw [List.length_drop] at hle;have hk:okN ((E5 b (p.drop i):Nat):Int):=⟨by omega,by omega⟩;have h9:=Df hk;rw [Int.toNat_natCast] at h9;have hne:p.drop i≠[]:=by intro e;have:=congrArg List.length e;simp at this;omega
   rw [Aq (dT (by omega)),show (0:Int)=((0:Nat):Int) from rfl,A0n F p b w i _ hl9 hi F 0 (by omega) (by omega),K8,Gg (by omega) hk,sbd,Int.toNat_natCast,Gq (by omega) (by decide),ckb (by omega),Ud H6 b 0 (p.drop i) (.inr hne)]
   cases hd:(p.drop i).drop (E5 b (p.drop i)) with
   | nil =>
    have hlen:i+E5 b (p.drop i)=p.length:=by
     have:=congrArg List.length hd;rw [List.length_drop,List.length_drop] at this;simp at this;omega
    obtain ⟨m,rfl⟩:∃k,m=k+1:=⟨m-1,by omega⟩;rw [Ao (dF (by omega)),Ge,K6,Ao (dF (by omega)),K7];simp
   | cons y r =>
    obtain ⟨hg,hn,hr,hrl,hy⟩:=U1 hd;rw [List.length_drop] at hn hrl;rw [List.getElem?_drop] at hg;have hy2:y∈p:=List.mem_of_mem_drop hy;have hyl:=Wb (hok y hy2);rw [Aq (dT (by omega)),E4 (i+E5 b (p.drop i)) y (by omega) hg];rw [show (Nm F (api_Echo.mk y.Kind y.Power ((api_Span.mk y.Steps.1.Lo y.Steps.1.Hi),(api_Span.mk y.Steps.2.Lo y.Steps.2.Hi)) y.Spread y.Ratio y.Match y.Turn))=some (H6 y) from A8c (by omega) (hok y hy2),sbd,Gq (by simp;omega) (by decide),E4 (i+E5 b (p.drop i)) y (by omega) hg,ckb (by omega),show ((i:Int)+((E5 b (p.drop i):Nat):Int)+1)=((i+E5 b (p.drop i)+1:Nat):Int) by omega];have e2:r=p.drop (i+E5 b (p.drop i)+1):=by rw [hr,List.drop_drop];congr 1
    rw [e2];refine Eq.trans (ih (i+E5 b (p.drop i)+1) y _ (by omega) (by omega) (by simp;omega)) ?_;simp
  ·rw [Ao (dF (by omega)),K7,List.drop_of_length_le (by omega)];simp [Hl]
theorem A2s {F:Nat} (hF:2000≤F) {p:List api_Echo} (hlF:p.length<F) (hl9:p.length≤1000000000) (hok:∀x∈p,okE x):Li F p=some (Hl H6 e0 0 p):=by
 have:Li F p=some ([]++Hl H6 e0 0 (p.drop 0)):=A2v F hF p hlF hl9 hok F 0 e0 [] (by omega) (by omega) (by simp;omega)
 simpa using this
end Go.Proofs.YtifbomimeodibaaGreat
namespace Go.Proofs.YtifbomimeodibaaGreat
open Go Go.RowKit Go.Eng
set_option maxRecDepth 10000
set_option linter.unusedVariables false
set_option linter.unusedSimpArgs false
theorem A8a (F:Nat) (x:ref12_Item) (h9:x.Sweep.Rays.length≤1000) (hfl:x.Sweep.Rays.flatten.length≤100000):∀(m i:Nat) (acc:List api_Echo),x.Sweep.Rays.length-i<m→i≤x.Sweep.Rays.length→acc++(x.Sweep.Rays.drop i).flatten=x.Sweep.Rays.flatten →
  J9 F x m acc i=Kj F x x.Sweep.Rays.flatten:=by
 intro m
 induction m with
 | zero=>intro i acc h;omega
 | succ m ih =>
  intro i acc h hi ha;rw [J9,P3];have hal:=congrArg List.length ha;rw [List.length_append] at hal
  by_cases hb:i<x.Sweep.Rays.length
  ·have hd:=List.drop_eq_getElem_cons hb;rw [hd,List.flatten_cons,List.length_append] at hal;rw [Aq (dT (by omega)),E4 i x.Sweep.Rays[i] rfl (List.getElem?_eq_getElem hb),Gq (by omega) (by decide),ckb (by omega),show ((i:Int)+1)=((i+1:Nat):Int) by omega];exact ih (i+1) _ (by omega) (by omega) (by rw [←ha,hd,List.flatten_cons,List.append_assoc])
  ·rw [Ao (dF (by omega))];rw [List.drop_of_length_le (by omega)] at ha;simp at ha;rw [ha]
theorem A6x {F:Nat} (hF:200000≤F) {t:volume_thing} (h:okT t):M9 F (toR (Cs t))=some (C1 t):=by
 have hlen:=Qu h
 cases t with
 | nil_=>exact h.elim
 | ic156 s =>
  obtain ⟨⟨a1,a2,a3,a4,a5,a6,a7,a8⟩,h2,h3,h4,h5,h6⟩:=(show Ub s.Sweep from h);have e:([E0 (1:Int).toNat,Ks s.Sweep.Site.Name,E0 (zig s.Sweep.Site.X),E0 (zig s.Sweep.Site.Y),E0 s.Sweep.Site.Z.toNat,E0 s.Sweep.Site.Rose.toNat,E0 s.Sweep.Site.Gates.toNat,E0 s.Sweep.Site.Step.toNat,E0 s.Sweep.Site.Width.toNat,E0 s.Sweep.Tilt.toNat,E0 s.Sweep.Time.toNat,Hl H6 e0 0 s.Sweep.Rays.flatten]:List (List Int)).flatten=C1 (.ic156 s):=by
   show _=Qt s.Sweep;simp [Qt,Gi,Sv,List.append_assoc]
  have hloop:=A8a F (toR (Cs (.ic156 s))) h4 h5 F 0 [] (by show s.Sweep.Rays.length-0<F;omega) (Nat.zero_le _) (by simp);rw [M9];show (bif ((1:Int)==1) then J9 F (toR (Cs (.ic156 s))) F [] ((0:Nat):Int) else _)=_;rw [Aq (by rfl),hloop];show Kj F (toR (Cs (.ic156 s))) s.Sweep.Rays.flatten=_;rw [Kj];show ((An F 1).bind fun y486=>(Kk F s.Sweep.Site.Name).bind fun y490=>(Di F s.Sweep.Site.X).bind fun y494=>(Di F s.Sweep.Site.Y).bind fun y498=>(An F s.Sweep.Site.Z).bind fun y502=>(An F s.Sweep.Site.Rose).bind fun y506=>(An F s.Sweep.Site.Gates).bind fun y510=>(An F s.Sweep.Site.Step).bind fun y514=>(An F s.Sweep.Site.Width).bind fun y518=>(An F s.Sweep.Tilt).bind fun y522=>(An F s.Sweep.Time).bind fun y526=>(Li F s.Sweep.Rays.flatten).bind fun y597=>(Ep F ([y486,y490,y494,y498,y502,y506,y510,y514,y518,y522,y526,y597])).bind fun y651=>some y651)=_;rw [Gg (by omega) ⟨by decide,by decide⟩,sbd,A2r (by omega) (by omega),sbd,Yx (by omega) a2,sbd,Yx (by omega) a3,sbd,Gg (by omega) a4,sbd,Gg (by omega) a5,sbd,Gg (by omega) a6,sbd,Gg (by omega) a7,sbd,Gg (by omega) a8,sbd,Gg (by omega) h2,sbd,Gg (by omega) h3,sbd,
   A2s (by omega) (by omega) (by omega) (fun x hx=>by obtain ⟨r,hr,hx⟩:=List.mem_flatten.1 hx;exact h6 r hr x hx),sbd,W4 (by omega) (by simp) (by rw [e];omega),sbd,e]
 | ic158 f =>
  obtain ⟨b1,b2,b3,b4,b5,b6,b7,b8,b9⟩:=(show Vx f from h);have e:([E0 (2:Int).toNat,Ks f.key,E0 f.time.toNat,E0 (zig f.Field.Grid.X),E0 (zig f.Field.Grid.Y),E0 f.Field.Grid.Size.toNat,E0 f.Field.Grid.Wide.toNat,E0 f.Field.Grid.High.toNat,Hl G4 ⟨0,0⟩ 0 f.Field.Vals]:List (List Int)).flatten=C1 (.ic158 f):=by
   show _=Q6 f;simp [Q6,Gi,Sv,List.append_assoc]
  rw [M9];show (bif ((2:Int)==1) then _ else (bif ((2:Int)==2) then ((An F 2).bind fun y699=>(Kk F f.key).bind fun y703=>(An F f.time).bind fun y707=>(Di F f.Field.Grid.X).bind fun y711=>(Di F f.Field.Grid.Y).bind fun y715=>(An F f.Field.Grid.Size).bind fun y719=>(An F f.Field.Grid.Wide).bind fun y723=>(An F f.Field.Grid.High).bind fun y727=>(Mf F f.Field.Vals).bind fun y780=>(Ep F ([y699,y703,y707,y711,y715,y719,y723,y727,y780])).bind fun y822=>some y822) else _))=_;rw [Ao (by rfl),Aq (by rfl),Gg (by omega) ⟨by decide,by decide⟩,sbd,A2r (by omega) (by omega),sbd,Gg (by omega) b2,sbd,Yx (by omega) b3,sbd,Yx (by omega) b4,sbd,Gg (by omega) b5,sbd,Gg (by omega) b6,sbd,Gg (by omega) b7,sbd,
   A4r (by omega) (by omega) (by omega) b9,sbd,W4 (by omega) (by simp) (by rw [e];omega),sbd,e]
 | ic160 n =>
  obtain ⟨c1,c2⟩:=(show A0b n from h);have e:([E0 (3:Int).toNat,E0 n.time.toNat,Ks n.text]:List (List Int)).flatten=C1 (.ic160 n):=by
   show _=Td n;simp [Td,Gi,List.append_assoc]
  rw [M9];show (bif ((3:Int)==1) then _ else (bif ((3:Int)==2) then _ else Lw F (toR (Cs (.ic160 n)))))=_;rw [Ao (by rfl),Ao (by rfl),Lw];show ((An F 3).bind fun y396=>(An F n.time).bind fun y400=>(Kk F n.text).bind fun y417=>(Ep F ([y396,y400,y417])).bind fun y435=>some y435)=_;rw [Gg (by omega) ⟨by decide,by decide⟩,sbd,Gg (by omega) c1,sbd,A2r (by omega) (by omega),sbd,W4 (by omega) (by simp) (by rw [e];omega),sbd,e]
theorem A4s {F:Nat} (hF:200000≤F) {t:volume_thing} (h:okT t) (hl:(C1 t).length+100≤F):Jr F (toR (Cs t))=some (Gc t):=by
 have hlen:=Qu h;have hk:okN (((C1 t).length:Nat):Int):=⟨by omega,by omega⟩;have h9:=Df hk;rw [Int.toNat_natCast] at h9;have hpl:(N9 (C1 t)).length=(E0 (C1 t).length).length+(C1 t).length:=by unfold N9;rw [List.length_append]
 have hby:By (N9 (C1 t)):=(Xr _).app (Wx t);rw [Jr,A6x hF h,sbd,Gg (by omega) hk,sbd,Int.toNat_natCast,Gq (by omega) (by decide)];show (No F (N9 (C1 t))).bind (fun y21=>(apd 1 (N9 (C1 t)) y21).bind fun l24=>some l24)=_;rw [A3m (by omega) hby (by omega) (by omega),sbd,Gq (by rw [Rr];omega) (by decide)];rfl
end Go.Proofs.YtifbomimeodibaaGreat
namespace Go.Proofs.YtifbomimeodibaaGreat
open Go Go.RowKit Go.Eng
set_option maxRecDepth 10000
set_option linter.unusedVariables false
set_option linter.unusedSimpArgs false
theorem A4x (k:Nat):Kw (k+FV)=some true:=by kernel_rfl
end Go.Proofs.YtifbomimeodibaaGreat
namespace Go.Proofs.YtifbomimeodibaaGreat
open Go Go.RowKit Go.Eng
set_option maxRecDepth 10000
set_option linter.unusedVariables false
set_option linter.unusedSimpArgs false
theorem wrap64 {x:Int} (h:0≤x∧x≤1000000000):IntKind.i64.wrap x=x:=by
 simp only [IntKind.wrap,IntKind.signed,IntKind.bits];simp;omega
end Go.Proofs.YtifbomimeodibaaGreat
namespace Go.Proofs.YtifbomimeodibaaGreat
open Go Go.RowKit Go.Eng
set_option maxRecDepth 10000
set_option linter.unusedVariables false
set_option linter.unusedSimpArgs false
end Go.Proofs.YtifbomimeodibaaGreat
namespace Go.Proofs.YtifbomimeodibaaGreat
open Go Go.RowKit Go.Eng
set_option maxRecDepth 10000
set_option linter.unusedVariables false
set_option linter.unusedSimpArgs false
end Go.Proofs.YtifbomimeodibaaGreat
namespace Go.Proofs.YtifbomimeodibaaGreat
open Go Go.RowKit Go.Eng
set_option maxRecDepth 10000
set_option linter.unusedVariables false
set_option linter.unusedSimpArgs false
def Rt (t:volume_thing):ref12_Item:=toR (Cs t)
theorem A0q (a b:List Int) (h9:a.length≤1000000):∀(m i:Nat),a.length-i<m→i≤a.length→i≤b.length→Hm a b m i=some (decide (H5 (a.drop i) (b.drop i)<0)):=by
 intro m
 induction m with
 | zero=>intro i h;omega
 | succ m ih =>
  intro i h ha hb;rw [Hm,M3]
  by_cases h1:i<a.length
  ·by_cases h2:i<b.length
   ·rw [List.drop_eq_getElem_cons h1,List.drop_eq_getElem_cons h2,Aq (by rw [dT (show ((i:Int)<((a.length:Nat):Int)) by omega),dT (show ((i:Int)<((b.length:Nat):Int)) by omega)];rfl),E4 i a[i] rfl (List.getElem?_eq_getElem h1),E4 i b[i] rfl (List.getElem?_eq_getElem h2)];unfold H5
    by_cases hq:a[i]=b[i]
    ·rw [Ao (by simp [hq]),ckb (by omega),show ((i:Int)+1)=((i+1:Nat):Int) by omega,ih (i+1) (by omega) (by omega) (by omega),if_neg (by omega),if_neg (by omega)]
    ·rw [Aq (by simp [hq]),E4 i a[i] rfl (List.getElem?_eq_getElem h1),E4 i b[i] rfl (List.getElem?_eq_getElem h2)]
     by_cases hlt:a[i]<b[i]
     ·rw [if_pos hlt,dT hlt];rfl
     ·rw [if_neg hlt,if_pos (by omega),dF hlt];rfl
   ·rw [Ao (by rw [dT (show ((i:Int)<((a.length:Nat):Int)) by omega),dF (show ¬((i:Int)<((b.length:Nat):Int)) by omega)];rfl),K5,List.drop_eq_getElem_cons h1,List.drop_of_length_le (show b.length≤i by omega),dF (by omega)];unfold H5;rfl
  ·rw [Ao (by rw [dF (show ¬((i:Int)<((a.length:Nat):Int)) by omega)];rfl),K5,List.drop_of_length_le (show a.length≤i by omega)]
   by_cases h2:i<b.length
   ·rw [List.drop_eq_getElem_cons h2,dT (by omega)];unfold H5;rfl
   ·rw [List.drop_of_length_le (show b.length≤i by omega),dF (by omega)];unfold H5;rfl
theorem A2y {t:volume_thing} (h:vT t):Ed (Rt t)=Hf t:=by
 cases t with
 | nil_=>exact h.elim
 | ic156 s=>rfl
 | ic158 s=>rfl
 | ic160 s=>rfl
theorem A0d {F:Nat} (hF:200000≤F) {t:volume_thing} (h:okJ t):Jr F (Rt t)=some (Gc t):=A4s hF h.1.ok (by have:=h.2;omega)
theorem Zj {F:Nat} (hF:200000≤F) {t u:volume_thing} (h:okJ t) (h':okJ u):Lh F (Rt t) (Rt u)=some (decide (E2 (en t) (en u)<0)):=by
 have hl:=h.len;have hl':=h'.len;unfold Ko at hl hl';simp only [List.length_cons] at hl hl';rw [Lh,A0d hF h,sbd,A0d hF h',sbd,A2y h.1,A2y h'.1];show _=some (decide ((if Hf t=Hf u then H5 (Ko t) (Ko u) else Hf t-Hf u)<0))
 by_cases hw:Hf t=Hf u
 ·rw [Ao (by simp [hw]),if_pos hw];have:=A0q (Gc t) (Gc u) (by omega) F 0 (by omega) (by omega) (by omega);rw [List.drop_zero,List.drop_zero] at this;refine Eq.trans this ?_;unfold Ko;rw [show H5 (0::Gc t) (0::Gc u)=H5 (Gc t) (Gc u) by rw [H5,if_neg (by omega),if_neg (by omega)]]
 ·rw [Aq (by simp [hw]),if_neg hw]
  congr 1
  by_cases hlt:Hf t<Hf u
  ·rw [dT hlt,dT (by omega)]
  ·rw [dF hlt,dF (by omega)]
theorem A61 {F:Nat} (hF:200000≤F) (all:List volume_thing) (x:Nat) (t:volume_thing) (hx:all[x]? = some t) (ht:okJ t) (k2:List ref12_Item→Int→Option (List Int×Int)):∀(m:Nat) (pre post:List volume_thing),post.length<m→(∀v∈post,okJ v)→pre.length+post.length≤2000 →
  Kg F (all.map Rt) ((pre++post).map Rt) x k2 m pre.length=Gw x k2 ((pre++T6 t post).map Rt):=by
 have hgx:(all.map Rt)[x]? = some (Rt t):=by rw [List.getElem?_map,hx];rfl
 intro m
 induction m with
 | zero=>intro pre post h;omega
 | succ m ih =>
  intro pre post h hv hn;rw [Kg,P1]
  cases post with
  | nil =>
   rw [List.append_nil,List.length_map,Ao (dF (by omega)),Ao (by rw [dF (show ¬((pre.length:Int)<((pre.length:Nat):Int)) by omega)];rfl),Kf,List.length_map,Ao (dF (by omega)),Aq (by rw [dF (show ¬((pre.length:Int)<((pre.length:Nat):Int)) by omega)];rfl),
    Q5 pre.length rfl rfl (by simp),E4 x (Rt t) rfl hgx,Jt pre.length rfl (by simp) (by simp),Gq (by simp;omega) (by decide),Gq (by simp;omega) (by decide),Gq (by simp;omega) (by decide)]
   congr 1
   rw [List.take_of_length_le (by simp),List.drop_of_length_le (by simp)];simp [T6]
  | cons v r =>
   have hl:((pre++v::r).map Rt).length=pre.length+(r.length+1):=by simp
   have hgv:((pre++v::r).map Rt)[pre.length]? = some (Rt v):=by
    rw [List.getElem?_map,List.getElem?_append_right (Nat.le_refl _),Nat.sub_self];rfl
   have hov:=hv v (by simp);simp only [List.length_cons] at h hn;rw [hl,Aq (dT (by omega)),E4 pre.length (Rt v) rfl hgv,E4 x (Rt t) rfl hgx,Zj hF hov ht,sbd];unfold T6
   by_cases h1:E2 (en v) (en t)<0
   ·rw [dT h1,Aq (by rw [dT (by omega)];rfl),ckb (by omega),show ((pre.length:Int)+1)=((pre++[v]).length:Int) by simp,if_pos h1];have:=ih (pre++[v]) r (by omega) (fun w hw=>hv w (by simp [hw])) (by simp;omega);rw [List.append_assoc,List.append_assoc] at this;exact this
   ·rw [dF h1,Ao (by rw [dT (by omega)];rfl),if_neg h1,Kf,hl,Aq (dT (by omega)),E4 x (Rt t) rfl hgx,E4 pre.length (Rt v) rfl hgv,Zj hF ht hov,sbd]
    by_cases h2:E2 (en t) (en v)<0
    ·rw [dT h2,Aq (by rw [dT (by omega)];rfl),if_pos h2,Q5 pre.length rfl rfl (by rw [hl];omega),E4 x (Rt t) rfl hgx,Jt pre.length rfl (by rw [hl]) (by rw [hl];omega),Gq (by simp;omega) (by decide),Gq (by simp;omega) (by decide),Gq (by simp;omega) (by decide)]
     congr 1
     rw [←List.map_take,←List.map_drop,List.take_left' rfl,List.drop_left' rfl];simp
    ·rw [dF h2,Ao (by rw [dT (by omega)];rfl),if_neg h2]
theorem A60 {F:Nat} (hF:200000≤F) (all:List volume_thing) (hv:∀t∈all,okJ t) (hn:all.length≤2000):∀(m i:Nat) (vs:List volume_thing),all.length-i<m→i≤all.length→(∀t∈vs,okJ t)→vs.length≤i →
  J7 F (all.map Rt) m (vs.map Rt) i=Ke F ((X7 vs (all.drop i)).map Rt):=by
 intro m
 induction m with
 | zero=>intro i vs h;omega
 | succ m ih =>
  intro i vs h hi ho hl;rw [J7,P0,List.length_map]
  by_cases hb:i<all.length
  ·have hd:=List.drop_eq_getElem_cons hb;have ht:=hv all[i] (List.getElem_mem hb);have hj:=A61 hF all i all[i] (List.getElem?_eq_getElem hb) ht (J7 F (all.map Rt) m) F [] vs (by omega) ho (by simp;omega);rw [List.nil_append,List.nil_append] at hj;rw [Aq (dT (by omega)),show (0:Int)=(([]:List volume_thing).length:Int) from rfl,hj,Gw,ckb (by omega),show ((i:Int)+1)=((i+1:Nat):Int) by omega,ih (i+1) _ (by omega) (by omega) (fun u hu=>(Ya _ u vs hu).elim (fun e=>e▸ht) (ho u)) (by have:=Y9 all[i] vs;omega),hd];rfl
  ·rw [Ao (dF (by omega)),List.drop_of_length_le (by omega)];rfl
theorem B0m {F:Nat} (hF:200000≤F) (c:List volume_thing) (hv:∀t∈c,okJ t) (hn:c.length≤2000):∀(m i:Nat) (acc:List Int),c.length-i<m→i≤c.length→acc.length≤100+6015*i →
  Ja F (c.map Rt) m acc i=some (acc++R5 (c.drop i)):=by
 intro m
 induction m with
 | zero=>intro i acc h;omega
 | succ m ih =>
  intro i acc h hi ha;rw [Ja,P4,List.length_map]
  by_cases hb:i<c.length
  ·have hd:=List.drop_eq_getElem_cons hb;have ht:=hv c[i] (List.getElem_mem hb);have hl:=ht.len;have hbl:(Ko c[i]).length=(Gc c[i]).length+1:=by unfold Ko;simp
   rw [Aq (dT (by omega)),E4 i (Rt c[i]) rfl (by rw [List.getElem?_map,List.getElem?_eq_getElem hb];rfl),Gq (by simp;omega) (by decide),A0d hF ht,sbd,Gq (by simp;omega) (by decide),ckb (by omega),show ((i:Int)+1)=((i+1:Nat):Int) by omega];refine Eq.trans (ih (i+1) _ (by omega) (by omega) (by simp;omega)) ?_;rw [hd,V2];unfold Ko;simp
  ·rw [Ao (dF (by omega)),P5,List.drop_of_length_le (by omega)];simp [R5,Bl]
theorem A94 {F:Nat} (hF:200000≤F) (c:List volume_thing) (hv:∀t∈c,okJ t) (hn:c.length≤2000):∀(m i:Nat),c.length-i<m→i≤c.length→Jm F (c.map Rt) m i=L2 F (c.map Rt):=by
 intro m
 induction m with
 | zero=>intro i h;omega
 | succ m ih =>
  intro i h hi;rw [Jm,Ms,List.length_map]
  by_cases hb:i<c.length
  ·have ht:=hv c[i] (List.getElem_mem hb);obtain ⟨e,h1,h2⟩:=A79 (F:=F) (by omega) ht.1.nn;have h0:=h2.2 ht.1;subst h0;rw [Aq (dT (by omega)),E4 i (Rt c[i]) rfl (by rw [List.getElem?_map,List.getElem?_eq_getElem hb];rfl)];show (Ef F (toR (Cs c[i]))).bind _=_;rw [h1,sbd,Ao (by rfl),ckb (by omega),show ((i:Int)+1)=((i+1:Nat):Int) by omega];exact ih (i+1) (by omega) (by omega)
  ·rw [Ao (dF (by omega))]
theorem B0g {F:Nat} (hF:200000≤F) (c:List volume_thing) (hv:∀t∈c,okJ t) (hn:c.length≤2000):Pe F (c.map Rt)=some (A0c c):=by
 rw [Pe,List.length_map];unfold A0c
 by_cases h1:c.length>1000
 ·rw [Aq (dT (by omega)),if_pos h1]
 ·rw [Ao (dF (by omega)),if_neg h1,show (0:Int)=((0:Nat):Int) from rfl,A94 hF c hv hn F 0 (by omega) (by omega),L2,Sh];show (Ja F (c.map Rt) F RVF1 ((0:Nat):Int)).bind _=_;rw [B0m hF c hv hn F 0 RVF1 (by omega) (by omega) (by decide),sbd,List.drop_zero]
  by_cases h2:(RVF1++R5 c).length>16777216
  ·rw [Aq (dT (by omega)),if_pos h2]
  ·rw [Ao (dF (by omega)),if_neg h2];rfl
theorem B0u {F:Nat} (hF:200000≤F) {b c:List Int} {ts us:List volume_thing} {k k':Int} (hb:Fq F b=some (ts.map Rt,k,0)) (hc:Fq F c=some (us.map Rt,k',0)) (hv:∀t∈ts,okJ t) (hu:∀t∈us,okJ t) (hn:ts.length≤1000) (hm:us.length≤1000) :
  L1 F b c=some (A0c (Wa (ts++us))):=by
 have ha:∀t∈ts++us,okJ t:=fun t ht=>(List.mem_append.1 ht).elim (hv t) (hu t);rw [L1,hb,sbd,Ao (by rfl),hc,sbd,Ao (by rfl),Gq (by simp;omega) (by decide),Gq (by simp;omega) (by decide),List.nil_append,←List.map_append];have:=A60 hF (ts++us) ha (by simp;omega) F 0 [] (by simp;omega) (by omega) (fun t ht=>by cases ht) (by simp)
 rw [List.map_nil,List.drop_zero] at this;refine Eq.trans this ?_;show Ke F ((Wa (ts++us)).map Rt)=_;rw [Ke,B0g hF _ (fun t ht=>ha t (Xx ht)) (by have:=Xw (ts++us);simp at this;omega),sbd]
end Go.Proofs.YtifbomimeodibaaGreat
namespace Go.Proofs.YtifbomimeodibaaGreat
open Go Go.RowKit Go.Eng
set_option maxRecDepth 10000
set_option linter.unusedVariables false
set_option linter.unusedSimpArgs false
theorem A2l (total:Int):∀(ps:List (List Int)) (k:Int),(∀p∈ps,Nz p)→(rdF total k ps).2.2=0→∃ts:List volume_thing,ps=ts.map Gc∧rdF total k ps=(ts.map Cs,total,0)∧∀t∈ts,vT t:=by
 intro ps
 induction ps with
 | nil=>intro k _ _;exact ⟨[],rfl,rfl,fun t ht=>by cases ht⟩
 | cons p ps ih =>
  intro k hz h;rw [rdF] at h ⊢
  by_cases h0:(unS p).2=0
  ·rw [if_pos h0] at h ⊢;obtain ⟨ts,h1,h2,h3⟩:=ih (k+1+p.length) (fun q hq=>hz q (by simp [hq])) h;refine ⟨(unS p).1::ts,?_,?_,?_⟩
   ·rw [List.map_cons,←h1,←A8b (hz p (by simp)).by h0]
   ·rw [h2];rfl
   ·intro t ht;rcases List.mem_cons.1 ht with rfl|ht
    ·exact A6z h0
    ·exact h3 t ht
  ·rw [if_neg h0] at h;simp only at h
   split at h
   ·cases h
   ·exact absurd h h0
theorem A1e:∀{ts:List volume_thing} {t:volume_thing},t∈ts→(Gc t).length≤(Bl (ts.map Gc)).length
 | [],_,h=>by cases h
 | u::ts,t,h=>by
  rw [List.map_cons,D3];simp only [List.length_cons,List.length_append];rcases List.mem_cons.1 h with rfl|h
  ·omega
  ·have:=A1e h;omega
theorem Se {F:Nat} (hF:200000≤F) {b:List Int} (hB:By b) (hl:b.length≤4000) :
  (∃x,C9 F b=some x∧Fq F b=some (A19 x)∧x.2.2≠0)∨∃(ts:List volume_thing) (k:Int),C9 F b=some (ts.map Cs,k,0)∧Fq F b=some (ts.map Rt,k,0)∧(∀t∈ts,okJ t)∧ts.length≤1000:=by
 obtain ⟨p,ps,hb,hp,hz⟩:=B07 b hB;have hj:=Wj ps;have hlen:b.length=p.length+(Bl ps).length:=by rw [hb];simp
 by_cases h:p=RVF1
 ·subst h;have e4:RVF1.length=4:=rfl;subst hb;have h1:=A6j hF hz (by omega) (by omega) (by omega);have h2:=A71 hF hz (by omega) (by omega)
  by_cases h0:(cap (rdF (4+(Bl ps).length:Nat) 4 ps)).2.2=0
  ·right;have hc:¬(rdF ((4+(Bl ps).length:Nat):Int) 4 ps).1.length>1000:=fun hgt=>by
    unfold cap at h0;rw [if_pos hgt] at h0
    cases h0
   have hcap:cap (rdF ((4+(Bl ps).length:Nat):Int) 4 ps)=rdF ((4+(Bl ps).length:Nat):Int) 4 ps:=by unfold cap;rw [if_neg hc]
   rw [hcap] at h1 h2 h0;obtain ⟨ts,e1,e2,e3⟩:=A2l _ ps 4 hz h0;rw [e2] at h1 h2 hc;refine ⟨ts,_,h1,?_,fun t ht=>⟨e3 t ht,?_⟩,by simpa using Nat.le_of_not_lt hc⟩
   ·rw [h2];unfold A19;rw [List.map_map];rfl
   ·have:=A1e ht;rw [←e1] at this;unfold Gc N9 at this;simp only [List.length_append] at this;omega
  ·exact .inl ⟨_,h1,h2,h0⟩
 ·exact .inl ⟨([],0,7),A6i hB hb hp (by omega) h,A4t hB hb hp (by omega) h,by simp⟩
theorem A6b (c:List volume_thing) (hv:∀t∈c,okJ t):(A0c c).1.length≤4+6015*c.length:=by
 have:=Zo c hv;have e4:RVF1.length=4:=rfl;unfold A0c
 split
 ·simp
 ·split
  ·simp
  ·simp only [List.length_append];omega
theorem A4a {F:Nat} (hF:200000≤F) {b c:List Int} (hB:By b) (hC:By c) (hl:b.length≤4000) (hl':c.length≤4000):∃r,Gz F b c=some r∧L1 F b c=some r∧r.1.length≤20000000:=by
 rcases Se hF hB hl with ⟨x,h1,h2,h3⟩|⟨ts,k,h1,h2,h3,h4⟩
 ·refine ⟨([],x.2.2),A48 (by omega) h1 h3,?_,by simp⟩;rw [L1,h2,sbd];show (bif (x.2.2 != 0) then _ else _)=_;rw [Aq (by simpa using h3)];rfl
 ·rcases Se hF hC hl' with ⟨x,g1,g2,g3⟩|⟨us,k',g1,g2,g3,g4⟩
  ·refine ⟨([],x.2.2),A49 hF h1 g1 h3 h4 g3,?_,by simp⟩;rw [L1,h2,sbd,Ao (by rfl),g2,sbd];show (bif (x.2.2 != 0) then _ else _)=_;rw [Aq (by simpa using g3)];rfl
  ·refine ⟨A0c (Wa (ts++us)),A7n hF h1 g1 h3 g3 h4 g4,B0u hF h2 g2 h3 g3 h4 g4,?_⟩;have:=A6b (Wa (ts++us)) (fun t ht=>(List.mem_append.1 (Xx ht)).elim (h3 t) (g3 t));have:=Xw (ts++us);simp only [List.length_append] at this;omega
def Uo (t:volume_thing):ByteArray:=t.cs ⟨#[]⟩ (fun s=>s.Sweep.Site.Name) (fun f=>f.key) (fun n=>⟨#[]⟩)
def W9 (k:Int) (n:ByteArray) (lo hi:Int) (t:volume_thing):Bool:=(decide (k=0)||decide (k=Wk t))&&((sEq n ⟨#[]⟩||sEq n (Uo t))&&(decide (lo≤Hf t)&&decide (Hf t≤hi)))
def V4 (k:Int) (n:ByteArray) (lo hi:Int):Int→List volume_thing→List Int
 | _,[]=>[]
 | i,t::r=>if W9 k n lo hi t then i::V4 k n lo hi (i+1) r else V4 k n lo hi (i+1) r
theorem A0r (a b:Int):(a==b)=decide (a=b):=by cases h:decide (a=b)<;>simp_all
theorem B0o {F:Nat} (q:volume_Query) (ts:List volume_thing) (hv:∀t∈ts,vT t) (hn:ts.length≤1000) (k e:Int):∀(m i:Nat) (acc:List Int),ts.length-i<m→i≤ts.length→acc.length≤i →
  F9 q (ts.map Cs,k,e) m i acc=some (acc++V4 q.Kind q.Name q.From q.To i (ts.drop i),0):=by
 intro m
 induction m with
 | zero=>intro i acc h;omega
 | succ m ih =>
  intro i acc h hi ha;rw [F9,Mx];show (bif decide ((i:Int)<(((ts.map Cs).length:Nat):Int)) then _ else _)=_;rw [List.length_map]
  by_cases hb:i<ts.length
  ·have hd:=List.drop_eq_getElem_cons hb;have ht:=hv ts[i] (List.getElem_mem hb);have hK:∀l:List Int,l.length≤i+1→De i (F9 q (ts.map Cs,k,e) m) l=some (l++V4 q.Kind q.Name q.From q.To ((i+1:Nat):Int) (ts.drop (i+1)),0):=fun l hl=>by
    rw [De,ckb (by omega),show ((i:Int)+1)=((i+1:Nat):Int) by omega];exact ih (i+1) l (by omega) (by omega) hl
   rw [Aq (dT (by omega))];show ((Bh (ts.map Cs) (i:Int)).bind _)=_;rw [E4 i (Cs ts[i]) rfl (by rw [List.getElem?_map,List.getElem?_eq_getElem hb];rfl),A0a ht.nn,hd,V4];have key:∀c:Bool,c=W9 q.Kind q.Name q.From q.To ts[i]→(bif c then ((apd 8 acc [(i:Int)]).bind fun l=>De i (F9 q (ts.map Cs,k,e) m) l) else De i (F9 q (ts.map Cs,k,e) m) acc)=some (acc++if W9 q.Kind q.Name q.From q.To ts[i]=true then (i:Int)::V4 q.Kind q.Name q.From q.To ((i:Int)+1) (ts.drop (i+1)) else V4 q.Kind q.Name q.From q.To ((i:Int)+1) (ts.drop (i+1)),0):=by
    intro c hc;rw [←hc,show ((i:Int)+1)=((i+1:Nat):Int) by omega]
    cases c with
    | true =>
     rw [Aq rfl,Gq (by simp;omega) (by decide),hK _ (by simp;omega),if_pos rfl,List.append_assoc];rfl
    | false=>rw [Ao rfl,hK _ (by omega),if_neg (by decide)]
   generalize ts[i]=t at *
   cases t with
   | nil_=>exact ht.elim
   | ic156 s =>
    refine key _ ?_;unfold W9;show (bif (bif (bif (bif (q.Kind==0) then true else (q.Kind==(1:Int))) then (bif (sEq q.Name (⟨#[]⟩:ByteArray)) then true else (sEq q.Name (Uo (.ic156 s)))) else false) then (decide (Hf (.ic156 s)≥q.From)) else false) then (decide (Hf (.ic156 s)≤q.To)) else false)=((decide (q.Kind=0)||decide (q.Kind=(1:Int)))&&_);rw [A0r,A0r]
    cases decide (q.Kind=0)<;>cases decide (q.Kind=1)<;>cases sEq q.Name ⟨#[]⟩<;>cases sEq q.Name (Uo (.ic156 s))<;>cases decide (q.From≤Hf (.ic156 s))<;>cases decide (Hf (.ic156 s)≤q.To)<;>rfl
   | ic158 s =>
    refine key _ ?_;unfold W9;show (bif (bif (bif (bif (q.Kind==0) then true else (q.Kind==(2:Int))) then (bif (sEq q.Name (⟨#[]⟩:ByteArray)) then true else (sEq q.Name (Uo (.ic158 s)))) else false) then (decide (Hf (.ic158 s)≥q.From)) else false) then (decide (Hf (.ic158 s)≤q.To)) else false)=((decide (q.Kind=0)||decide (q.Kind=(2:Int)))&&_);rw [A0r,A0r]
    cases decide (q.Kind=0)<;>cases decide (q.Kind=2)<;>cases sEq q.Name ⟨#[]⟩<;>cases sEq q.Name (Uo (.ic158 s))<;>cases decide (q.From≤Hf (.ic158 s))<;>cases decide (Hf (.ic158 s)≤q.To)<;>rfl
   | ic160 s =>
    refine key _ ?_;unfold W9;show (bif (bif (bif (bif (q.Kind==0) then true else (q.Kind==(3:Int))) then (bif (sEq q.Name (⟨#[]⟩:ByteArray)) then true else (sEq q.Name (Uo (.ic160 s)))) else false) then (decide (Hf (.ic160 s)≥q.From)) else false) then (decide (Hf (.ic160 s)≤q.To)) else false)=((decide (q.Kind=0)||decide (q.Kind=(3:Int)))&&_);rw [A0r,A0r]
    cases decide (q.Kind=0)<;>cases decide (q.Kind=3)<;>cases sEq q.Name ⟨#[]⟩<;>cases sEq q.Name (Uo (.ic160 s))<;>cases decide (q.From≤Hf (.ic160 s))<;>cases decide (Hf (.ic160 s)≤q.To)<;>rfl
  ·rw [Ao (dF (by omega)),List.drop_of_length_le (by omega),My,V4,List.append_nil]
theorem A9d {t:volume_thing} (h:vT t):(Rt t).Kind=Wk t:=by
 cases t with
 | nil_=>exact h.elim
 | ic156 s=>rfl
 | ic158 s=>rfl
 | ic160 s=>rfl
theorem A9h {t:volume_thing} (h:vT t):Jb (Rt t)=Uo t:=by
 cases t with
 | nil_=>exact h.elim
 | ic156 s=>rfl
 | ic158 s=>rfl
 | ic160 s=>rfl
theorem A6p (a b:ByteArray):sEq a b=sEq b a:=by rw [A3i,A3i];cases h:decide (a=b)<;>simp_all [eq_comm]
theorem B0n (p1:ref12_Query) (y6:(List ref12_Item)×Int×Int) (k2:Int→List Int→Option (List Int×Int)) (x:Int) (l l':List Int) (u:ref12_Item) (hx:decide (x<((y6.1.length:Nat):Int))=true) (hg:Bh y6.1 x=some u) (ha:apd 8 l [x]=some l') :
  Kd p1 y6 k2 x l=bif ((p1.Kind==0||u.Kind==p1.Kind)&&((sEq p1.Name ⟨#[]⟩||sEq (Jb u) p1.Name)&&Ad (Ed u) p1.From p1.To)) then Fz x k2 l' else Fz x k2 l:=by
 rw [Kd,hx,Aq rfl,hg,ha];generalize Fz x k2=K;generalize (p1.Kind==0)=A;generalize sEq p1.Name (⟨#[]⟩:ByteArray)=C;have hs:∀{α β:Type} (x:α) (f:α→Option β),(some x).bind f=f x:=fun _ _=>rfl
 cases A<;>cases C<;>(repeat rw [hs])<;>generalize (u.Kind==p1.Kind)=B<;>generalize sEq (Jb u) p1.Name=D<;>generalize Ad (Ed u) p1.From p1.To=E<;>cases B<;>cases D<;>cases E<;>rfl
theorem B0p {F:Nat} (q:ref12_Query) (ts:List volume_thing) (hv:∀t∈ts,vT t) (hn:ts.length≤1000) (k e:Int):∀(m i:Nat) (acc:List Int),ts.length-i<m→i≤ts.length→acc.length≤i →
  J6 q (ts.map Rt,k,e) m i acc=some (acc++V4 q.Kind q.Name q.From q.To i (ts.drop i),0):=by
 intro m
 induction m with
 | zero=>intro i acc h;omega
 | succ m ih =>
  intro i acc h hi ha;rw [J6];have hlen:((ts.map Rt,k,e):List ref12_Item×Int×Int).1.length=ts.length:=List.length_map ..
  by_cases hb:i<ts.length
  ·have hd:=List.drop_eq_getElem_cons hb;have ht:=hv ts[i] (List.getElem_mem hb);have hK:∀l:List Int,l.length≤i+1→Fz i (J6 q (ts.map Rt,k,e) m) l=some (l++V4 q.Kind q.Name q.From q.To ((i+1:Nat):Int) (ts.drop (i+1)),0):=fun l hl=>by
    rw [Fz,ckb (by omega),show ((i:Int)+1)=((i+1:Nat):Int) by omega];exact ih (i+1) l (by omega) (by omega) hl
   have hg:Bh ((ts.map Rt,k,e):List ref12_Item×Int×Int).1 (i:Int)=some (Rt ts[i]):=by
    have:=E4 (l:=ts.map Rt) (i:=(i:Int)) (f:=some) i (Rt ts[i]) rfl (by rw [List.getElem?_map,List.getElem?_eq_getElem hb];rfl);have h2:(Bh (ts.map Rt) (i:Int)).bind some=Bh (ts.map Rt) (i:Int):=by cases Bh (ts.map Rt) (i:Int)<;>rfl
    rw [h2] at this;exact this
   have hA:apd 8 acc [(i:Int)]=some (acc++[(i:Int)]):=by
    have:=Gq (l:=acc) (k:=[(i:Int)]) (B:=8) (f:=some) (by simp;omega) (by decide);have h2:(apd 8 acc [(i:Int)]).bind some=apd 8 acc [(i:Int)]:=by cases apd 8 acc [(i:Int)]<;>rfl
    rw [h2] at this;exact this
   rw [B0n _ _ _ _ _ _ _ (dT (by rw [hlen];omega)) hg hA,hK _ (show (acc++[(i:Int)]).length≤i+1 by simp;omega),hK acc (by omega),hd,V4,A9d ht,A9h ht,A2y ht,show ((i:Int)+1)=((i+1:Nat):Int) by omega];have hw:W9 q.Kind q.Name q.From q.To ts[i]=((q.Kind==0||Wk ts[i]==q.Kind)&&((sEq q.Name ⟨#[]⟩||sEq (Uo ts[i]) q.Name)&&Ad (Hf ts[i]) q.From q.To)):=by
    unfold W9 Ad;rw [A0r,A0r,A6p (Uo ts[i]) q.Name,show decide (Wk ts[i]=q.Kind)=decide (q.Kind=Wk ts[i]) by cases hc:decide (q.Kind=Wk ts[i])<;>simp_all [eq_comm]]
    cases decide (q.From≤Hf ts[i])<;>rfl
   rw [←hw]
   cases W9 q.Kind q.Name q.From q.To ts[i] with
   | true=>rw [Aq rfl,if_pos rfl,List.append_assoc];rfl
   | false=>rw [Ao rfl,if_neg (by decide)]
  ·rw [Kd,hlen,Ao (dF (by omega)),List.drop_of_length_le (by omega),Ny,V4,List.append_nil]
theorem A0z (k:Int) (n:ByteArray) (lo hi:Int):∀(ts:List volume_thing) (i:Int),(V4 k n lo hi i ts).length≤ts.length
 | [],i=>by simp [V4]
 | t::r,i=>by
  have:=A0z k n lo hi r (i+1);unfold V4
  split<;>simp<;>omega
theorem A41 {F:Nat} (hF:200000≤F) {b:List Int} (hB:By b) (hl:b.length≤4000) (q:ref12_Query):∃r,Pg F b ⟨q.Kind,q.Name,q.From,q.To⟩=some r∧Qm F b q=some r∧r.1.length≤1000:=by
 rw [Pg,Qm];have hIn:Ad q.Kind 0 3=!(bif decide (q.Kind<0) then true else decide (q.Kind>3)):=by
  unfold Ad
  by_cases h1:q.Kind<0
  ·rw [dT h1,dF (show ¬0≤q.Kind by omega)];rfl
  ·rw [dF h1,dT (show 0≤q.Kind by omega)]
   by_cases h2:q.Kind>3
   ·rw [dT h2,dF (show ¬q.Kind≤3 by omega)];rfl
   ·rw [dF h2,dT (show q.Kind≤3 by omega)];rfl
 rw [hIn,Bool.not_not];show ∃r,(bif (bif decide (q.Kind<0) then true else decide (q.Kind>3)) then _ else (bif decide (q.From>q.To) then _ else _))=_∧_
 cases (bif decide (q.Kind<0) then true else decide (q.Kind>3)) with
 | true=>exact ⟨_,rfl,rfl,by simp⟩
 | false =>
  rw [Ao (c:=false) rfl,Ao (c:=false) rfl]
  cases decide (q.From>q.To) with
  | true=>exact ⟨_,rfl,rfl,by simp⟩
  | false =>
   rw [Ao (c:=false) rfl,Ao (c:=false) rfl];rcases Se hF hB hl with ⟨x,h1,h2,h3⟩|⟨ts,k,h1,h2,h3,h4⟩
   ·rw [h1,sbd,h2,sbd];show ∃r,(bif (x.2.2 != 0) then _ else _)=_∧(bif (x.2.2 != 0) then _ else _)=_∧_;rw [Aq (by simpa using h3),Aq (by simpa using h3)];exact ⟨([],x.2.2),rfl,rfl,by simp⟩
   ·rw [h1,sbd,h2,sbd];have k1:=B0o (F:=F) ⟨q.Kind,q.Name,q.From,q.To⟩ ts (fun t ht=>(h3 t ht).1) h4 k 0 F 0 [] (by omega) (by omega) (by simp);have k2:=B0p (F:=F) q ts (fun t ht=>(h3 t ht).1) h4 k 0 F 0 [] (by omega) (by omega) (by simp);rw [Ao (by rfl),Ao (by rfl)];refine ⟨_,k1,k2,?_⟩;have:=A0z q.Kind q.Name q.From q.To ts 0
    simpa using Nat.le_trans this h4
theorem A66 (a:List Int) (h9:a.length≤1000000):∀(m i:Nat),a.length-i<m→i≤a.length→H3 a a m i=some true:=by
 intro m
 induction m with
 | zero=>intro i h;omega
 | succ m ih =>
  intro i h hi;rw [H3,Le]
  by_cases hb:i<a.length
  ·rw [Aq (dT (by omega)),E4 i a[i] rfl (List.getElem?_eq_getElem hb),E4 i a[i] rfl (List.getElem?_eq_getElem hb),T1,Ao rfl,ckb (by omega),show ((i:Int)+1)=((i+1:Nat):Int) by omega];exact ih (i+1) (by omega) (by omega)
  ·rw [Ao (dF (by omega))];rfl
theorem Xu (a b:List Int) (ha:∀x∈a,0≤x∧x≤255) (hb:∀x∈b,0≤x∧x≤255) (q:ref12_Query):∃F,Hu F a b q=some true:=by
 refine ⟨30000000+FV,?_⟩;have hFV:FV=200000:=rfl;have hA:By a:=fun x hx=>by have:=ha x hx;omega
 have hB:By b:=fun x hx=>by have:=hb x hx;omega
 obtain ⟨F,hFe⟩:∃F,F=30000000+FV:=⟨_,rfl⟩;have hw:Kw F=some true:=by rw [hFe];exact A4x _
 rw [←hFe];have hF:200000≤F:=by omega
 rw [Hu]
 by_cases h:a.length>2000∨b.length>2000
 ·rw [Aq ?_,hw]
  ·rfl
  ·rcases h with h|h
   ·rw [dT (show ((a.length:Nat):Int)>2000 by omega)];rfl
   ·rw [dT (show ((b.length:Nat):Int)>2000 by omega)];cases decide (((a.length:Nat):Int)>2000)<;>rfl
 ·rw [dF (show ¬((a.length:Nat):Int)>2000 by omega),dF (show ¬((b.length:Nat):Int)>2000 by omega),Ao (by rfl)];obtain ⟨r,h1,h2,h3⟩:=A4a hF hA hB (by omega) (by omega);obtain ⟨s,g1,g2,g3⟩:=A41 hF hA (by omega) q;rw [h1,sbd,h2,sbd,A58 (by omega) (by omega),sbd,dT rfl,T1,Ao (by rfl),g1,sbd,g2,sbd,Nu,T1,Ao rfl,show (0:Int)=((0:Nat):Int) from rfl,A66 s.1 (by omega) F 0 (by omega) (by omega),sbd];show ((gd (((bif true then (s.2==s.2) else false)==true&&true)) (Kw F) default).bind fun y27=>some (bif (bif true then (s.2==s.2) else false) then y27 else false))=_;rw [show (s.2==s.2)=true by simp,gdT (by rfl),hw,sbd];rfl
end Go.Proofs.YtifbomimeodibaaGreat
