import Derived.Test.YtifbomimeodibaaGreatV4XD
import Derived.Lib.DecodeN
set_option linter.unusedVariables false
set_option linter.unusedSimpArgs false
set_option linter.unusedSectionVars false
namespace Go.Proofs.YtifbomimeodibaaGreat
open Go Go.RowKit Go.Eng
set_option maxRecDepth 10000
set_option linter.unusedVariables false
set_option linter.unusedSimpArgs false
theorem ckb {β:Type} {x:Int} {f:Int→Option β} (h:-9000000000000000000≤x∧x≤9000000000000000000):(ck x).bind f=f x:=by
 unfold ck;rw [if_pos (by omega)];rfl
theorem gdT {α:Type} {g:Bool} {o:Option α} {d:α} (h:g=true):gd g o d=o:=by subst h;rfl
theorem gdF {α:Type} {g:Bool} {o:Option α} {d:α} (h:g=false):gd g o d=some d:=by subst h;rfl
theorem B3 {α:Type} {c:Bool} {x y:α} (h:c=true):(bif c then x else y)=x:=by rw [h];rfl
theorem B5 {α:Type} {c:Bool} {x y:α} (h:c=false):(bif c then x else y)=y:=by rw [h];rfl
theorem sb {α β:Type} {x:α} {f:α→Option β}:(some x).bind f=f x:=rfl
theorem dT {p:Prop} [Decidable p] (h:p):decide p=true:=decide_eq_true h
theorem dF {p:Prop} [Decidable p] (h:¬p):decide p=false:=decide_eq_false h
theorem Ei {α β:Type} {l:List α} {i:Int} {f:α→Option β} (n:Nat) (x:α) (hi:i=(n:Int)) (h:l[n]? = some x):(C0 l i).bind f=f x:=by
 subst hi
 unfold C0
 rw [if_pos (by omega),show ((n:Int)).toNat=n by omega,h]
 rfl
theorem Kl {α β:Type} {l k:List α} {B:Nat} {f:List α→Option β} (h:(l.length+k.length)*B≤140737488355328) (hB:1≤B):(apd B l k).bind f=f (l++k):=by
 unfold apd
 have:l.length+k.length≤(l.length+k.length)*B:=Nat.le_mul_of_pos_right _ hB
 rw [if_pos ⟨h,by omega⟩]
 rfl
theorem A31 {α β:Type} {l:List α} {i j:Int} {f:List α→Option β} (m n:Nat) (hi:i=(m:Int)) (hj:j=(n:Int)) (h:m≤n∧n≤l.length):(Km l i j).bind f=f ((l.drop m).take (n-m)):=by
 subst hi;subst hj
 unfold Km
 rw [if_pos (by omega)]
 rfl
theorem Sy {α β:Type} {l:List α} {i j:Int} {f:List α→Option β} (m:Nat) (hi:i=(m:Int)) (hj:j=(l.length:Int)) (h:m≤l.length):(Km l i j).bind f=f (l.drop m):=by
 rw [A31 m l.length hi hj ⟨h,Nat.le_refl _⟩,List.take_of_length_le (by simp)]
def FV:Nat:=200000
def By (l:List Int):Prop:=∀x∈l,0≤x∧x<256
theorem By.app {l k:List Int} (h:By l) (h':By k):By (l++k):=fun x hx=>(List.mem_append.1 hx).elim (h x) (h' x)
theorem So {x:Int} (h:0≤x∧x<256):IntKind.u8.wrap x=x:=by
 have:=h.1;have:=h.2
 simp only [IntKind.wrap,IntKind.signed,IntKind.bits]
 simp
 omega
def E6 (n:Nat):List Int:=if h:n<127 then [(n:Int)+1] else (128+((n%127:Nat):Int))::E6 (n/127)
termination_by n
theorem Rt {n:Nat} (h:n<127):E6 n=[(n:Int)+1]:=by rw [E6,dif_pos h]
theorem T6 {n:Nat} (h:127≤n):E6 n=(128+((n%127:Nat):Int))::E6 (n/127):=by rw [E6,dif_neg (by omega)]
theorem Vq:∀(k n:Nat),n<127 ^ (k+1)→(E6 n).length≤k+1:=by
 intro k
 induction k with
 | zero=>intro n h;rw [Rt (by simpa using h)];simp
 | succ k ih =>
  intro n h
  by_cases hn:n<127
  ·rw [Rt hn];simp
  ·rw [T6 (by omega),List.length_cons]
   have:=ih (n/127) (Nat.div_lt_of_lt_mul (by rw [Nat.pow_succ] at h;omega))
   omega
theorem Xc (n:Nat):∀x∈E6 n,1≤x∧x<255:=by
 induction n using Nat.strongRecOn with
 | _ n ih =>
  intro x hx
  by_cases hn:n<127
  ·rw [Rt hn] at hx;simp at hx;omega
  ·rw [T6 (by omega)] at hx
   rcases List.mem_cons.1 hx with rfl|hx
   ·have:=Nat.mod_lt n (show 0<127 by decide);omega
   ·exact ih (n/127) (Nat.div_lt_self (by omega) (by decide)) x hx
theorem tdm (n:Nat):Qm (n:Int) 127=some ((n%127:Nat):Int)∧Tu (n:Int) 127=ck ((n/127:Nat):Int):=by
 unfold Qm Tu
 rw [if_neg (by decide),if_neg (by decide)]
 exact ⟨by congr 1,by congr 1⟩
theorem A25 (x307:Int) (k1:List Int→Int→Option volume_writer) (h0:0≤x307∧x307≤1000000000000):∀(F k n:Nat) (l:List Int),n<127 ^ (k+1)→k<10→k<F→n≤4611686018427387904→l.length+k≤1000000000000 →
  Cm x307 k1 F l n=k1 (l++E6 n) (x307+1):=by
 intro F
 induction F with
 | zero=>intro k n l h hk hF;omega
 | succ F ih =>
  intro k n l h hk hF hn hl
  rw [Cm,E9]
  by_cases hb:(n:Int)≥127
  ·rw [B3 (dT hb),(tdm n).1,sb]
   have:=Nat.mod_lt n (show 0<127 by decide)
   rw [ckb (by omega),So (by omega),Kl (by simp;omega) (by decide),(tdm n).2]
   have hd:n/127≤n:=Nat.div_le_self _ _
   rw [ckb (by omega)]
   cases k with
   | zero=>simp at h;omega
   | succ k =>
    rw [ih k (n/127) _ (Nat.div_lt_of_lt_mul (by rw [Nat.pow_succ] at h;omega)) (by omega) (by omega) (by omega) (by simp;omega),T6 (n:=n) (by omega)]
    simp
  ·rw [B5 (dF hb),Eb,ckb (by omega),So (by omega),Kl (by simp;omega) (by decide),Ea,ckb (by omega),Rt (by omega),show (1:Int)+n=n+1 by omega]
def okN (x:Int):Prop:=0≤x∧x≤4611686018427387904
def Fp (l:List Int):List Int:=l.flatMap fun x=>E6 x.toNat
theorem Ck {x:Int} (h:okN x):(E6 x.toNat).length≤9:=Vq 8 x.toNat (by have:=h.1;have:=h.2;omega)
theorem A24 (F:Nat) (p1:List Int) (hF:100≤F) (hp:∀x∈p1,okN x):∀(m i:Nat) (l:List Int),p1.length-i<m→i≤p1.length→p1.length≤100→l.length+9*(p1.length-i)≤999999999000 →
  Cl F p1 m l i=some ⟨l++Fp (p1.drop i)⟩:=by
 intro m
 induction m with
 | zero=>intro i l h;omega
 | succ m ih =>
  intro i l h hi hp1 hl
  rw [Cl,E8]
  by_cases hb:i<p1.length
  ·have hx:=hp p1[i] (List.getElem_mem hb)
   have h9:=Ck hx
   rw [B3 (dT (by omega)),Ei i p1[i] rfl (List.getElem?_eq_getElem hb)]
   have e:p1[i]=((p1[i].toNat:Nat):Int):=by have:=hx.1;omega
   rw [e,A25 i _ (by omega) F 8 p1[i].toNat l (by have:=hx.1;have:=hx.2;omega) (by decide) (by omega) (by have:=hx.2;omega) (by omega)]
   rw [show ((i:Int)+1)=((i+1:Nat):Int) by omega,ih (i+1) _ (by omega) (by omega) hp1 (by rw [List.length_append];omega),List.drop_eq_getElem_cons hb]
   simp only [Fp,List.flatMap_cons,List.append_assoc]
  ·rw [B5 (dF (by omega)),List.drop_of_length_le (by omega)]
   simp [Fp]
def okW (l:List Int):Prop:=l.length≤999999990000
theorem F8 {F:Nat} (hF:1000≤F) {w:volume_writer} {l:List Int} (hw:okW w.b) (hl:∀x∈l,okN x) (hn:l.length≤100):Ap F w l=some ⟨w.b++Fp l⟩:=by
 rw [Ap]
 unfold okW at hw
 exact A24 F l (by omega) hl F 0 w.b (by omega) (by omega) hn (by omega)
def zig (x:Int):Nat:=if x<0 then (-2*x-1).toNat else (2*x).toNat
def okZ (x:Int):Prop:=-2305843009213693952≤x∧x≤2305843009213693952
theorem A23 (F:Nat) (p1:List Int) (hF:1000≤F) (hp:∀x∈p1,okZ x):∀(m i:Nat) (l:List Int),p1.length-i<m→i≤p1.length→p1.length≤100→l.length+9*(p1.length-i)≤999999990000 →
  Bf F p1 m l i=some ⟨l++(p1.drop i).flatMap fun x=>E6 (zig x)⟩:=by
 intro m
 induction m with
 | zero=>intro i l h;omega
 | succ m ih =>
  intro i l h hi hp1 hl
  rw [Bf,E2]
  by_cases hb:i<p1.length
  ·have hx:=hp p1[i] (List.getElem_mem hb)
   have hx1:=hx.1
   have hx2:=hx.2
   rw [B3 (dT (by omega)),Ei i p1[i] rfl (List.getElem?_eq_getElem hb)]
   have fin:∀z:Int,okN z→z.toNat=zig p1[i]→((Ap F (volume_writer.mk l) [z]).bind fun y178=>C7 i (Bf F p1 m) y178.b)=some ⟨l++(p1.drop i).flatMap fun x=>E6 (zig x)⟩:=by
    intro z hz hzz
    have h9:=Ck hz
    rw [F8 hF (show okW l by unfold okW;omega) (by simpa using hz) (by simp),sb,C7,ckb (by omega)]
    show Bf F p1 m (l++Fp [z]) ((i:Int)+1)=_
    rw [show ((i:Int)+1)=((i+1:Nat):Int) by omega,ih (i+1) _ (by omega) (by omega) hp1 (by simp [Fp];omega),List.drop_eq_getElem_cons hb]
    simp only [Fp,List.flatMap_cons,List.flatMap_nil,List.append_nil,List.append_assoc,hzz]
   by_cases hs:p1[i]<0
   ·rw [B3 (dT hs),ckb (by omega),ckb (by omega)]
    exact fin _ ⟨by omega,by omega⟩ (by unfold zig;rw [if_pos hs])
   ·rw [B5 (dF hs),ckb (by omega)]
    exact fin _ ⟨by omega,by omega⟩ (by unfold zig;rw [if_neg hs])
  ·rw [B5 (dF (by omega)),List.drop_of_length_le (by omega)]
   simp
theorem Sg {F:Nat} (hF:1000≤F) {w:volume_writer} {l:List Int} (hw:w.b.length≤999999980000) (hl:∀x∈l,okZ x) (hn:l.length≤100):Ce F w l=some ⟨w.b++l.flatMap fun x=>E6 (zig x)⟩:=by
 rw [Ce]
 exact A23 F l hF hl F 0 w.b (by omega) (by omega) hn (by omega)
theorem U7 {x:Int} (h:okZ x):okN (zig x:Int):=by
 unfold okZ at h;unfold okN zig;split<;>omega
theorem Wy {F:Nat} (hF:1000≤F) {w:volume_writer} {s:ByteArray} (hw:w.b.length≤999999980000) (hs:s.size≤10000000):D4 F w s=some ⟨w.b++(E6 s.size++sby s)⟩:=by
 have h9:=Ck (x:=(s.size:Int)) ⟨by omega,by omega⟩
 rw [D4,F8 hF (show okW w.b by unfold okW;omega) (by intro x hx;simp at hx;subst hx;exact ⟨by omega,by omega⟩) (by simp),sb,Kl (by simp only [Fp,List.flatMap_cons,List.flatMap_nil,List.append_nil,List.length_append,Kb];omega) (by decide)]
 simp [Fp]
def okS (s:api_Span):Prop:=-1000000000000000000≤s.Lo∧s.Lo≤s.Hi∧s.Hi≤1000000000000000000
def Hp (s:api_Span):List Int:=E6 (zig s.Lo)++E6 (s.Hi-s.Lo).toNat
theorem Rf {F:Nat} (hF:1000≤F) {w:volume_writer} {s:api_Span} (hw:w.b.length≤999999970000) (hs:okS s):D3 F w s=some ⟨w.b++Hp s⟩:=by
 obtain ⟨h1,h2,h3⟩:=hs
 have h9:=Ck (U7 (x:=s.Lo) ⟨by omega,by omega⟩)
 rw [Int.toNat_natCast] at h9
 rw [D3,Sg hF (by omega) (by intro x hx;simp at hx;subst hx;exact ⟨by omega,by omega⟩) (by simp),sb,ckb (by omega),F8 hF (by unfold okW;simp;omega) (by intro x hx;simp at hx;subst hx;exact ⟨by omega,by omega⟩) (by simp)]
 simp [Hp,Fp]
theorem Cw {s:api_Span} (hs:okS s):(Hp s).length≤18:=by
 obtain ⟨h1,h2,h3⟩:=hs
 have h8:=Ck (U7 (x:=s.Lo) ⟨by omega,by omega⟩)
 have h9:=Ck (x:=s.Hi-s.Lo) ⟨by omega,by omega⟩
 rw [Int.toNat_natCast] at h8
 unfold Hp;rw [List.length_append];omega
end Go.Proofs.YtifbomimeodibaaGreat
namespace Go.Proofs.YtifbomimeodibaaGreat
open Go Go.RowKit Go.Eng
set_option maxRecDepth 10000
set_option linter.unusedVariables false
set_option linter.unusedSimpArgs false
def J2 (x:api_Echo):List Int:=E6 x.Kind.toNat++if x.Kind=1 then E6 x.Power.Hi.toNat else Hp x.Power++(Hp x.Ratio++(Hp x.Match++(E6 x.Spread.toNat++if x.Kind=3 then Hp x.Steps.1++(Hp x.Steps.2++Hp x.Turn) else [])))
def okE (x:api_Echo):Prop:=okN x.Kind∧okN x.Power.Hi∧okN x.Spread∧okS x.Power∧okS x.Ratio∧okS x.Match∧okS x.Steps.1∧okS x.Steps.2∧okS x.Turn
theorem A22 {F:Nat} (hF:1000≤F) {w:volume_writer} {x:api_Echo} (hw:w.b.length≤999999960000) (hx:okE x):Ew F w x=some ⟨w.b++J2 x⟩:=by
 obtain ⟨h1,h2,h3,h4,h5,h6,h7,h8,h9⟩:=hx
 have a1:=Ck h1
 have a2:=Ck h2
 have a3:=Ck h3
 have a4:=Cw h4
 have a5:=Cw h5
 have a6:=Cw h6
 have a7:=Cw h7
 have a8:=Cw h8
 obtain ⟨G,rfl⟩:∃G,F=G+4:=⟨F-4,by omega⟩
 rw [Ew,F8 hF (by unfold okW;omega) (by simpa using h1) (by simp),sb]
 by_cases hk:x.Kind=1
 ·rw [B3 (by simp [hk]),F8 hF (by unfold okW;simp [Fp];omega) (by simpa using h2) (by simp),sb]
  simp [J2,hk,Fp]
 ·rw [B5 (by simp [hk]),Bs,Cc,B3 (dT (by decide)),Ei 0 x.Power (by decide) (by rfl),Rf hF (by simp [Fp];omega) h4,sb,ckb (by omega),
   Bs,Cc,B3 (dT (by decide)),Ei 1 x.Ratio (by decide) (by rfl),Rf hF (by simp [Fp];omega) h5,sb,ckb (by omega),
   Bs,Cc,B3 (dT (by decide)),Ei 2 x.Match (by decide) (by rfl),Rf hF (by simp [Fp];omega) h6,sb,ckb (by omega),
   Bs,Cc,B5 (dF (by decide)),Ex,F8 hF (by unfold okW;simp [Fp];omega) (by simpa using h3) (by simp),sb]
  by_cases hk3:x.Kind=3
  ·rw [B3 (by simp [hk3]),Br,Cb,B3 (dT (by decide)),Ei 0 x.Steps.1 (by decide) (by rfl),Rf hF (by simp [Fp];omega) h7,sb,ckb (by omega),
    Br,Cb,B3 (dT (by decide)),Ei 1 x.Steps.2 (by decide) (by rfl),Rf hF (by simp [Fp];omega) h8,sb,ckb (by omega),
    Br,Cb,B3 (dT (by decide)),Ei 2 x.Turn (by decide) (by rfl),Rf hF (by simp [Fp];omega) h9,sb,ckb (by omega),
    Br,Cb,B5 (dF (by decide))]
   simp [J2,hk3,Fp]
  ·rw [B5 (by simp [hk3])]
   simp [J2,hk,hk3,Fp]
theorem S3 {x:api_Echo} (hx:okE x):(J2 x).length≤130:=by
 obtain ⟨h1,h2,h3,h4,h5,h6,h7,h8,h9⟩:=hx
 have a1:=Ck h1
 have a2:=Ck h2
 have a3:=Ck h3
 have a4:=Cw h4
 have a5:=Cw h5
 have a6:=Cw h6
 have a7:=Cw h7
 have a8:=Cw h8
 have a9:=Cw h9
 unfold J2
 split
 ·simp;omega
 ·split<;>simp<;>omega
def Jo {α:Type} [DecidableEq α] (e:α→List Int):α→Nat→List α→List Int
 | _,n,[]=>if n=0 then [] else E6 n
 | b,n,x::l=>if x=b then Jo e b (n+1) l else E6 n++(e x++Jo e x 0 l)
def D0 {α:Type} [DecidableEq α] (b:α):List α→Nat
 | []=>0
 | x::l=>if x=b then D0 b l+1 else 0
theorem N3 {α:Type} [DecidableEq α] (b:α) (l:List α):D0 b l≤l.length:=by
 induction l with
 | nil=>exact Nat.le_refl _
 | cons x l ih=>unfold D0;split<;>simp<;>omega
theorem T4 {α:Type} [DecidableEq α] {b:α} {l:List α} {i:Nat} (h:i<D0 b l):l[i]? = some b:=by
 induction l generalizing i with
 | nil=>simp [D0] at h
 | cons x l ih =>
  unfold D0 at h
  split at h
  ·rename_i hx
   cases i with
   | zero=>simp [hx]
   | succ i=>simpa using ih (by omega)
  ·omega
theorem T3 {α:Type} [DecidableEq α] {b:α} {l:List α} {x:α} (h:l[D0 b l]? = some x):x≠b:=by
 induction l with
 | nil=>simp at h
 | cons y l ih =>
  unfold D0 at h
  split at h
  ·exact ih (by simpa using h)
  ·rename_i hy;simp at h;subst h;exact hy
theorem Qg {α:Type} [DecidableEq α] (e:α→List Int) (b:α) (n:Nat) (l:List α) (h:n≠0∨l≠[]):Jo e b n l=E6 (n+D0 b l)++(match l.drop (D0 b l) with|[]=>[]|y::r=>e y++Jo e y 0 r):=by
 induction l generalizing n with
 | nil=>rw [Jo,D0,if_neg (by simpa using h)];simp
 | cons x l ih =>
  rw [Jo,D0]
  split
  ·rw [ih (n+1) (.inl (by omega))]
   simp only [List.drop_succ_cons]
   rw [show n+1+D0 b l=n+(D0 b l+1) by omega]
  ·simp
theorem Vw {α:Type} [DecidableEq α] {e:α→List Int} {c:Nat}:∀(l:List α) (b:α) (n:Nat),(∀x∈l,(e x).length≤c)→n+l.length≤1000000000→(Jo e b n l).length≤9+(c+9)*l.length:=by
 intro l
 induction l with
 | nil =>
  intro b n h hn
  have:=Ck (x:=(n:Int)) ⟨by omega,by simp at hn;omega⟩
  rw [Jo]
  split<;>simp at*<;>omega
 | cons x l ih =>
  intro b n h hn
  have h1:=Ck (x:=(n:Int)) ⟨by omega,by simp at hn;omega⟩
  have h2:=h x (by simp)
  have hm:(c+9)*(l.length+1)=(c+9)*l.length+(c+9):=by rw [Nat.mul_add,Nat.mul_one]
  rw [Jo]
  simp only [List.length_cons] at hn ⊢
  rw [hm]
  split
  ·have:=ih b (n+1) (fun y hy=>h y (by simp [hy])) (by omega)
   omega
  ·have:=ih x 0 (fun y hy=>h y (by simp [hy])) (by omega)
   simp at h1 ⊢
   omega
theorem T8 (u b:api_Span):(((u.Lo:Int)==b.Lo)&&(((u.Hi:Int)==b.Hi)&&true))=decide (u=b):=by
 cases u;cases b
 rw [Bool.eq_iff_iff]
 simp
theorem Sz (u b:api_Echo):(((u.Kind:Int)==b.Kind)&&((((u.Power.Lo:Int)==b.Power.Lo)&&(((u.Power.Hi:Int)==b.Power.Hi)&&true))&&(((((u.Steps.1.Lo:Int)==b.Steps.1.Lo)&&(((u.Steps.1.Hi:Int)==b.Steps.1.Hi)&&true))&&((((u.Steps.2.Lo:Int)==b.Steps.2.Lo)&&(((u.Steps.2.Hi:Int)==b.Steps.2.Hi)&&true))&&true))&&(((u.Spread:Int)==b.Spread)&&((((u.Ratio.Lo:Int)==b.Ratio.Lo)&&(((u.Ratio.Hi:Int)==b.Ratio.Hi)&&true))&&((((u.Match.Lo:Int)==b.Match.Lo)&&(((u.Match.Hi:Int)==b.Match.Hi)&&true))&&((((u.Turn.Lo:Int)==b.Turn.Lo)&&(((u.Turn.Hi:Int)==b.Turn.Hi)&&true))&&true)))))))=decide (u=b):=by
 rcases u with ⟨k,⟨p1,p2⟩,⟨⟨s1,s2⟩,⟨s3,s4⟩⟩,sp,⟨r1,r2⟩,⟨m1,m2⟩,⟨t1,t2⟩⟩
 rcases b with ⟨k',⟨p1',p2'⟩,⟨⟨s1',s2'⟩,⟨s3',s4'⟩⟩,sp',⟨r1',r2'⟩,⟨m1',m2'⟩,⟨t1',t2'⟩⟩
 rw [Bool.eq_iff_iff]
 simp [and_assoc]
theorem gdt {g:Bool} (h:g=true):((g==true&&true))=true:=by rw [h];rfl
theorem gdf {g:Bool} (h:g=false):((g==true&&true))=false:=by rw [h];rfl
theorem A0v (F:Nat) (b:api_Span) (w:List Int) (l:List api_Span) (k1:Int→Int→List Int→List api_Span→Option volume_writer) (hl:l.length≤1000000000):∀(m i:Nat),i≤D0 b l→D0 b l-i<m →
  Ba F b.Lo b.Hi w l k1 m i=Bp F b.Lo b.Hi w l k1 (D0 b l:Nat):=by
 intro m
 have hle:=N3 b l
 induction m with
 | zero=>intro i _ h;omega
 | succ m ih =>
  intro i hi hm
  rw [Ba,Cg]
  by_cases hb:i<D0 b l
  ·have hx:=T4 hb
   rw [gdT (gdt (dT (by omega))),Ei i b rfl hx,T8 b b,B3 (x:=decide (b=b)) (dT (by omega)),B3 (dT rfl),ckb (by omega)]
   exact ih (i+1) (by omega) (by omega)
  ·have he:i=D0 b l:=by omega
   subst he
   by_cases hc:D0 b l<l.length
   ·have hg:=List.getElem?_eq_getElem hc
    rw [gdT (gdt (dT (by omega))),Ei _ _ rfl hg,T8 _ b,B3 (x:=decide (l[D0 b l]=b)) (dT (by omega)),B5 (dF (T3 hg))]
   ·rw [gdF (gdf (dF (by omega))),sb,B5 (B5 (dF (by omega)))]
theorem Q8 {α:Type} {l:List α} {n:Nat} {y:α} {r:List α} (h:l.drop n=y::r):l[n]? = some y∧n<l.length∧r=l.drop (n+1)∧r.length<l.length∧y∈l:=by
 have hn:n<l.length:=by
  rcases Nat.lt_or_ge n l.length with h1|h1
  ·exact h1
  ·rw [List.drop_of_length_le h1] at h;cases h
 rw [List.drop_eq_getElem_cons hn] at h
 cases h
 refine ⟨List.getElem?_eq_getElem hn,hn,rfl,by simp;omega,List.getElem_mem hn⟩
theorem A2z (F:Nat) (hF:1000≤F):∀(m:Nat) (l:List api_Span) (b:api_Span) (w:List Int),l.length<m→l.length<F→l.length≤1000000000→(∀x∈l,okS x)→w.length+200*l.length≤999999900000 →
  B2 F m b.Lo b.Hi w l=some ⟨w++Jo Hp b 0 l⟩:=by
 intro m
 induction m with
 | zero=>intro l b w h;omega
 | succ m ih =>
  intro l b w h hlF hl9 hok hw
  rw [B2,Bo]
  cases hl:l with
  | nil=>simp [Jo]
  | cons x0 l0 =>
   rw [←hl]
   have hpos:0<l.length:=by rw [hl];simp
   have hle:=N3 b l
   have h9:=Ck (x:=(D0 b l:Int)) ⟨by omega,by omega⟩
   rw [Int.toNat_natCast] at h9
   rw [B3 (dT (by omega)),show (0:Int)=((0:Nat):Int) from rfl,A0v F b w l _ hl9 F 0 (by omega) (by omega),Bp,F8 hF (by unfold okW;simp;omega) (by intro x hx;simp at hx;subst hx;exact ⟨by omega,by omega⟩) (by simp),sb,
    Sy (D0 b l) rfl rfl hle,Qg Hp b 0 l (.inr (by rw [hl];simp))]
   cases hd:l.drop (D0 b l) with
   | nil =>
    rw [B5 (dF (by simp))]
    cases m with
    | zero=>omega
    | succ m=>rw [B2,Bo,B5 (dF (by simp))];simp [Fp]
   | cons y r =>
    obtain ⟨hg,hn,hr,hrl,hy⟩:=Q8 hd
    rw [B3 (dT (by simp)),Ei 0 y (by rfl) (by rfl),Sy 1 (by decide) (by rfl) (by simp),Rf hF (by simp [Fp];omega) (hok y hy),sb]
    simp only [List.drop_succ_cons,List.drop_zero]
    rw [ih r y _ (by omega) (by omega) (by omega) (fun z hz=>hok z (by rw [hr] at hz;exact List.mem_of_mem_drop hz)) (by have:=Cw (hok y hy);simp [Fp];omega)]
    simp [Fp]
theorem A0r {F:Nat} (hF:1000≤F) {w:volume_writer} {l:List api_Span} {b:api_Span} (hl:l.length<F) (hl9:l.length≤1000000000) (hok:∀x∈l,okS x) (hw:w.b.length+200*l.length≤999999900000):Bw F w l b=some ⟨w.b++Jo Hp b 0 l⟩:=by
 rw [Bw]
 exact A2z F hF F l b w.b hl hl hl9 hok hw
theorem A0t (F:Nat) (b:api_Echo) (w:List Int) (l:List api_Echo) (k1:Int→Int→Int→Int→Int→Int→Int→Int→Int→Int→Int→Int→Int→Int→List Int→List api_Echo→Option volume_writer) (hl:l.length≤1000000000):∀(m i:Nat),i≤D0 b l→D0 b l-i<m →
  B9 F b.Kind b.Power.Lo b.Match.Lo b.Match.Hi b.Turn.Lo b.Turn.Hi b.Power.Hi b.Steps.1.Lo b.Steps.1.Hi b.Steps.2.Lo b.Steps.2.Hi b.Spread b.Ratio.Lo b.Ratio.Hi w l k1 m i=Bn F b.Kind b.Power.Lo b.Match.Lo b.Match.Hi b.Turn.Lo b.Turn.Hi b.Power.Hi b.Steps.1.Lo b.Steps.1.Hi b.Steps.2.Lo b.Steps.2.Hi b.Spread b.Ratio.Lo b.Ratio.Hi w l k1 (D0 b l:Nat):=by
 intro m
 have hle:=N3 b l
 induction m with
 | zero=>intro i _ h;omega
 | succ m ih =>
  intro i hi hm
  rw [B9,Cf]
  by_cases hb:i<D0 b l
  ·have hx:=T4 hb
   rw [gdT (gdt (dT (by omega))),Ei i b rfl hx,Sz b b,B3 (x:=decide (b=b)) (dT (by omega)),B3 (dT rfl),ckb (by omega)]
   exact ih (i+1) (by omega) (by omega)
  ·have he:i=D0 b l:=by omega
   subst he
   by_cases hc:D0 b l<l.length
   ·have hg:=List.getElem?_eq_getElem hc
    rw [gdT (gdt (dT (by omega))),Ei _ _ rfl hg,Sz _ b,B3 (x:=decide (l[D0 b l]=b)) (dT (by omega)),B5 (dF (T3 hg))]
   ·rw [gdF (gdf (dF (by omega))),sb,B5 (B5 (dF (by omega)))]
theorem A2y (F:Nat) (hF:1000≤F):∀(m:Nat) (l:List api_Echo) (b:api_Echo) (w:List Int),l.length<m→l.length<F→l.length≤1000000000→(∀x∈l,okE x)→w.length+300*l.length≤999999900000 →
  B1 F m b.Kind b.Power.Lo b.Match.Lo b.Match.Hi b.Turn.Lo b.Turn.Hi b.Power.Hi b.Steps.1.Lo b.Steps.1.Hi b.Steps.2.Lo b.Steps.2.Hi b.Spread b.Ratio.Lo b.Ratio.Hi w l=some ⟨w++Jo J2 b 0 l⟩:=by
 intro m
 induction m with
 | zero=>intro l b w h;omega
 | succ m ih =>
  intro l b w h hlF hl9 hok hw
  rw [B1,Bm]
  cases hl:l with
  | nil=>simp [Jo]
  | cons x0 l0 =>
   rw [←hl]
   have hpos:0<l.length:=by rw [hl];simp
   have hle:=N3 b l
   have h9:=Ck (x:=(D0 b l:Int)) ⟨by omega,by omega⟩
   rw [Int.toNat_natCast] at h9
   rw [B3 (dT (by omega)),show (0:Int)=((0:Nat):Int) from rfl,A0t F b w l _ hl9 F 0 (by omega) (by omega),Bn,F8 hF (by unfold okW;simp;omega) (by intro x hx;simp at hx;subst hx;exact ⟨by omega,by omega⟩) (by simp),sb,
    Sy (D0 b l) rfl rfl hle,Qg J2 b 0 l (.inr (by rw [hl];simp))]
   cases hd:l.drop (D0 b l) with
   | nil =>
    rw [B5 (dF (by simp))]
    cases m with
    | zero=>omega
    | succ m=>rw [B1,Bm,B5 (dF (by simp))];simp [Fp]
   | cons y r =>
    obtain ⟨hg,hn,hr,hrl,hy⟩:=Q8 hd
    rw [B3 (dT (by simp)),Ei 0 y (by rfl) (by rfl),Sy 1 (by decide) (by rfl) (by simp),A22 hF (by simp [Fp];omega) (hok y hy),sb]
    simp only [List.drop_succ_cons,List.drop_zero]
    rw [ih r y _ (by omega) (by omega) (by omega) (fun z hz=>hok z (by rw [hr] at hz;exact List.mem_of_mem_drop hz)) (by have:=S3 (hok y hy);simp [Fp];omega)]
    simp [Fp]
theorem Zl {F:Nat} (hF:1000≤F) {w:volume_writer} {l:List api_Echo} {b:api_Echo} (hl:l.length<F) (hl9:l.length≤1000000000) (hok:∀x∈l,okE x) (hw:w.b.length+300*l.length≤999999900000):Bv F w l b=some ⟨w.b++Jo J2 b 0 l⟩:=by
 rw [Bv]
 exact A2y F hF F l b w.b hl hl hl9 hok hw
def e0:api_Echo:=⟨1,⟨0,0⟩,(⟨0,0⟩,⟨0,0⟩),0,⟨0,0⟩,⟨0,0⟩,⟨0,0⟩⟩
def Jx (s:ByteArray):List Int:=E6 s.size++sby s
def Ro (l:List Int):List Int:=l.flatMap fun x=>E6 (zig x)
def Re (s:api_Sweep):List Int:=Fp [1]++(Jx s.Site.Name++(Ro [s.Site.X,s.Site.Y]++(Fp [s.Site.Z,s.Site.Rose,s.Site.Gates,s.Site.Step,s.Site.Width,s.Tilt,s.Time]++Jo J2 e0 0 s.Rays.flatten)))
def Qx (f:volume_field):List Int:=Fp [2]++(Jx f.key++(Fp [f.time]++(Ro [f.Field.Grid.X,f.Field.Grid.Y]++(Fp [f.Field.Grid.Size,f.Field.Grid.Wide,f.Field.Grid.High]++Jo Hp ⟨0,0⟩ 0 f.Field.Vals))))
def Tq (n:volume_note):List Int:=Fp [3,n.time]++Jx n.text
def D1 (t:volume_thing):List Int:=t.cs [] (fun s=>Re s.Sweep) Qx Tq
def A1s (s:api_Site):Prop:=s.Name.size≤1000∧okZ s.X∧okZ s.Y∧okN s.Z∧okN s.Rose∧okN s.Gates∧okN s.Step∧okN s.Width
def Qf (s:api_Sweep):Prop:=A1s s.Site∧okN s.Tilt∧okN s.Time∧s.Rays.length≤1000∧s.Rays.flatten.length≤100000∧∀r∈s.Rays,∀x∈r,okE x
def Rw (f:volume_field):Prop:=f.key.size≤1000∧okN f.time∧okZ f.Field.Grid.X∧okZ f.Field.Grid.Y∧okN f.Field.Grid.Size∧okN f.Field.Grid.Wide∧okN f.Field.Grid.High∧f.Field.Vals.length≤100000∧∀x∈f.Field.Vals,okS x
def V7 (n:volume_note):Prop:=okN n.time∧n.text.size≤1000
def okT (t:volume_thing):Prop:=t.cs False (fun s=>Qf s.Sweep) Rw V7
theorem Gs {l:List Int} (h:∀x∈l,okN x):(Fp l).length≤9*l.length:=by
 induction l with
 | nil=>simp [Fp]
 | cons x l ih =>
  have h1:=Ck (h x (by simp))
  have h2:=ih fun y hy=>h y (by simp [hy])
  simp only [Fp,List.flatMap_cons,List.length_append,List.length_cons] at h2 ⊢
  omega
theorem Rq {l:List Int} (h:∀x∈l,okZ x):(Ro l).length≤9*l.length:=by
 induction l with
 | nil=>simp [Ro]
 | cons x l ih =>
  have h1:=Ck (U7 (h x (by simp)))
  rw [Int.toNat_natCast] at h1
  have h2:=ih fun y hy=>h y (by simp [hy])
  simp only [Ro,List.flatMap_cons,List.length_append,List.length_cons] at h2 ⊢
  omega
theorem Ng {s:ByteArray} (h:s.size≤1000):(Jx s).length≤1009:=by
 have h9:=Ck (x:=(s.size:Int)) ⟨by omega,by omega⟩
 rw [Int.toNat_natCast] at h9
 unfold Jx
 rw [List.length_append,Kb];omega
theorem M3 {x:Int} (h:0≤x∧x≤1000000):okN x:=⟨h.1,by omega⟩
theorem A26 (F:Nat) (hF:200000≤F) (s:volume_sweep) (y:volume_writer) (hok:Qf s.Sweep) (hy:y.b.length≤1000000):∀(m i:Nat) (acc:List api_Echo),s.Sweep.Rays.length-i<m→i≤s.Sweep.Rays.length→acc++(s.Sweep.Rays.drop i).flatten=s.Sweep.Rays.flatten →
  D7 F s y m acc i=some ⟨y.b++Jo J2 e0 0 s.Sweep.Rays.flatten⟩:=by
 intro m
 obtain ⟨h1,h2,h3,h4,h5,h6⟩:=hok
 induction m with
 | zero=>intro i acc h;omega
 | succ m ih =>
  intro i acc h hi hacc
  have hal:acc.length≤100000:=by
   have:=congrArg List.length hacc
   rw [List.length_append] at this;omega
  rw [D7,Fb]
  by_cases hb:i<s.Sweep.Rays.length
  ·have hd:=List.drop_eq_getElem_cons hb
   have hacc2:(acc++s.Sweep.Rays[i])++(s.Sweep.Rays.drop (i+1)).flatten=s.Sweep.Rays.flatten:=by rw [←hacc,hd,List.flatten_cons,List.append_assoc]
   have hal2:acc.length+s.Sweep.Rays[i].length≤100000:=by
    have:=congrArg List.length hacc2
    simp only [List.length_append] at this;omega
   rw [B3 (dT (by omega)),Ei i _ rfl (List.getElem?_eq_getElem hb),Kl (by omega) (by decide),ckb (by omega)]
   exact ih (i+1) _ (by omega) (by omega) hacc2
  ·have he:acc=s.Sweep.Rays.flatten:=by
    rw [List.drop_of_length_le (by omega)] at hacc;simpa using hacc
   rw [B5 (dF (by omega)),he,Fc,Zl (by omega) (by omega) (by omega) (fun x hx=>?_) (by omega)]
   ·rfl
   ·obtain ⟨r,hr,hx⟩:=List.mem_flatten.1 hx
    exact h6 r hr x hx
theorem A0s {F:Nat} (hF:200000≤F) {t:volume_thing} (h:okT t):Jr F t ⟨[]⟩=some ⟨D1 t⟩:=by
 cases t with
 | nil_=>exact h.elim
 | ic156 s =>
  have hs:Qf s.Sweep:=h
  have h':=hs
  obtain ⟨⟨a1,a2,a3,a4,a5,a6,a7,a8⟩,h2,h3,h4,h5,h6⟩:=h'
  have o1:∀x∈[(1:Int)],okN x:=by intro x hx;simp at hx;subst hx;exact M3 (by decide)
  have o2:∀x∈[s.Sweep.Site.X,s.Sweep.Site.Y],okZ x:=by intro x hx;simp at hx;rcases hx with rfl|rfl<;>assumption
  have o3:∀x∈[s.Sweep.Site.Z,s.Sweep.Site.Rose,s.Sweep.Site.Gates,s.Sweep.Site.Step,s.Sweep.Site.Width,s.Sweep.Tilt,s.Sweep.Time],okN x:=by intro x hx;simp at hx;rcases hx with rfl|rfl|rfl|rfl|rfl|rfl|rfl<;>assumption
  have l1:=Gs o1
  have l2:=Ng a1
  have l3:=Rq o2
  have l4:=Gs o3
  simp only [List.length_cons,List.length_nil] at l1 l3 l4
  show F7 F s ⟨[]⟩=some ⟨Re s.Sweep⟩
  rw [F7,F8 (by omega) (by unfold okW;simp) o1 (by simp),sb,Wy (by omega) (by simp only [List.nil_append];omega) (by omega),sb]
  rw [Sg (by omega) (by simp only [List.nil_append,List.length_append];unfold Jx at l2;rw [List.length_append] at l2;omega) o2 (by simp),sb,F8 (by omega) (by unfold okW;unfold Ro at l3;unfold Jx at l2;simp only [List.nil_append,List.length_append] at *;omega) o3 (by simp),sb]
  rw [show (0:Int)=((0:Nat):Int) from rfl,A26 F hF s _ hs (by unfold Ro at l3;unfold Jx at l2;simp only [List.nil_append,List.length_append] at *;omega) F 0 [] (by omega) (by omega) (by simp)]
  simp [Re,Jx,Ro]
 | ic158 f =>
  obtain ⟨a1,a2,a3,a4,a5,a6,a7,a8,a9⟩:=(show Rw f from h)
  have o1:∀x∈[(2:Int)],okN x:=by intro x hx;simp at hx;subst hx;exact M3 (by decide)
  have o4:∀x∈[f.time],okN x:=by intro x hx;simp at hx;subst hx;exact a2
  have o2:∀x∈[f.Field.Grid.X,f.Field.Grid.Y],okZ x:=by intro x hx;simp at hx;rcases hx with rfl|rfl<;>assumption
  have o3:∀x∈[f.Field.Grid.Size,f.Field.Grid.Wide,f.Field.Grid.High],okN x:=by intro x hx;simp at hx;rcases hx with rfl|rfl|rfl<;>assumption
  have l1:=Gs o1
  have l2:=Ng a1
  have l3:=Rq o2
  have l4:=Gs o3
  have l5:=Gs o4
  simp only [List.length_cons,List.length_nil] at l1 l3 l4 l5
  show F6 F f ⟨[]⟩=some ⟨Qx f⟩
  rw [F6,F8 (by omega) (by unfold okW;simp) o1 (by simp),sb,Wy (by omega) (by simp only [List.nil_append];omega) (by omega),sb]
  rw [F8 (by omega) (by unfold okW;unfold Jx at l2;simp only [List.nil_append,List.length_append] at *;omega) o4 (by simp),sb]
  rw [Sg (by omega) (by unfold Jx at l2;simp only [List.nil_append,List.length_append] at *;omega) o2 (by simp),sb,F8 (by omega) (by unfold okW;unfold Ro at l3;unfold Jx at l2;simp only [List.nil_append,List.length_append] at *;omega) o3 (by simp),sb]
  rw [A0r (by omega) (by omega) (by omega) a9 (by unfold Ro at l3;unfold Jx at l2;simp only [List.nil_append,List.length_append] at *;omega),sb]
  simp [Qx,Jx,Ro]
 | ic160 n =>
  obtain ⟨a1,a2⟩:=(show V7 n from h)
  have o1:∀x∈[(3:Int),n.time],okN x:=by intro x hx;simp at hx;rcases hx with rfl|rfl;(exact M3 (by decide));exact a1
  have l1:=Gs o1
  simp only [List.length_cons,List.length_nil] at l1
  show Ft F n ⟨[]⟩=some ⟨Tq n⟩
  rw [Ft,F8 (by omega) (by unfold okW;simp) o1 (by simp),sb,Wy (by omega) (by simp only [List.nil_append];omega) (by omega),sb]
  simp [Tq,Jx]
end Go.Proofs.YtifbomimeodibaaGreat
namespace Go.Proofs.YtifbomimeodibaaGreat
open Go Go.RowKit Go.Eng
set_option maxRecDepth 10000
set_option linter.unusedVariables false
set_option linter.unusedSimpArgs false
def A0k:Nat→List Int→Nat
 | c,[]=>c
 | c,x::l=>A0k ((31*c+x.toNat)%2147483647) l
def Y4 (c:Nat):List Int:=[128+((c%127:Nat):Int),128+((c/127%127:Nat):Int),128+((c/127/127%127:Nat):Int),128+((c/127/127/127%127:Nat):Int),1+((c/127/127/127/127%127:Nat):Int)]
def A0j (l:List Int):List Int:=Y4 (A0k 1 l)
theorem Ry (l:List Int):(A0j l).length=5:=rfl
theorem A2w {α β:Type} {l:List α} {i:Int} {x:α} {f:List α→Option β} (n:Nat) (hi:i=(n:Int)) (h:n<l.length):(Vd l i x).bind f=f (l.set n x):=by
 subst hi
 unfold Vd
 rw [if_pos (by omega)]
 rfl
theorem A0e (F:Nat) (hF:10≤F) (c:Nat) (hc:c<2147483647):Ec F 5 0 c (List.replicate 5 0)=some (Y4 c):=by
 obtain ⟨G,rfl⟩:∃G,F=G+6:=⟨F-6,by omega⟩
 have step:∀(m i d:Nat) (l:List Int),i<5→l.length=5→d<2147483647→Ec (m+1) 5 i d l=Ec m 5 (i+1:Nat) (d/127:Nat) (l.set i (128+((d%127:Nat):Int))):=by
  intro m i d l hi hl hd
  rw [Ec,Jb,B3 (dT (by omega)),(tdm d).1,sb]
  have:=Nat.mod_lt d (show 0<127 by decide)
  rw [ckb (by omega),Ei i l[i] rfl (List.getElem?_eq_getElem (by omega)),A2w i rfl (by omega),(tdm d).2,ckb (by omega),ckb (by omega),So (by omega)]
  rfl
 rw [show (0:Int)=((0:Nat):Int) from rfl,step (G+5) 0 c _ (by decide) (by simp) hc,step (G+4) 1 _ _ (by decide) (by simp) (by omega),step (G+3) 2 _ _ (by decide) (by simp) (by omega),step (G+2) 3 _ _ (by decide) (by simp) (by omega),step (G+1) 4 _ _ (by decide) (by simp) (by omega)]
 rw [Ec,Jb,B5 (dF (by decide)),Ld]
 simp only [List.replicate,List.set_cons_zero,List.set_cons_succ]
 have h4:(128:Int)+((c/127/127/127/127%127:Nat):Int)-127=1+((c/127/127/127/127%127:Nat):Int):=by omega
 have:=Nat.mod_lt (c/127/127/127/127) (show 0<127 by decide)
 rw [Ei 4 (128+((c/127/127/127/127%127:Nat):Int)) (by decide) (by rfl),Ei 4 (128+((c/127/127/127/127%127:Nat):Int)) (by decide) (by rfl),A2w 4 (by decide) (by simp),h4,So (by omega)]
 rfl
theorem A0f (F:Nat) (hF:10≤F) (p:List Int) (hp:By p) (hpl:p.length≤1000000000):∀(m i c:Nat),p.length-i<m→i≤p.length→c<2147483647→H8 F p m i c=some (Y4 (A0k c (p.drop i))):=by
 intro m
 induction m with
 | zero=>intro i c h;omega
 | succ m ih =>
  intro i c h hi hc
  rw [H8,Lb]
  by_cases hb:i<p.length
  ·have hx:=hp p[i] (List.getElem_mem hb)
   rw [B3 (dT (by omega)),Ei i p[i] rfl (List.getElem?_eq_getElem hb),ckb (by omega),ckb (by omega),ckb (by omega)]
   have e:Qm (31*(c:Int)+p[i]) 2147483647=some (((31*c+p[i].toNat)%2147483647:Nat):Int):=by
    have e1:31*(c:Int)+p[i]=((31*c+p[i].toNat:Nat):Int):=by omega
    rw [e1]
    unfold Qm
    rw [if_neg (by decide)]
    congr 1
   rw [e,sb,ckb (by omega)]
   have:=ih (i+1) _ (by omega) (by omega) (Nat.mod_lt (31*c+p[i].toNat) (show 0<2147483647 by decide))
   rw [show ((i:Int)+1)=((i+1:Nat):Int) by omega,this,List.drop_eq_getElem_cons hb]
   rfl
  ·rw [B5 (dF (by omega)),Lc,List.drop_of_length_le (by omega)]
   show (mkI 1 5 0).bind _=_
   rw [show mkI 1 5 (0:Int)=some (List.replicate 5 0) from by unfold mkI;rw [if_pos (by decide)];rfl,sb]
   exact A0e F hF c hc
theorem A1z {F:Nat} (hF:10≤F) {p:List Int} (hp:By p) (hl:p.length<F) (hl9:p.length≤1000000000):Jq F p=some (A0j p):=by
 rw [Jq]
 exact A0f F hF p hp hl9 F 0 1 (by omega) (by omega) (by decide)
theorem V6 (n:Nat):By (E6 n):=fun x hx=>by have:=Xc n x hx;omega
def Nz (l:List Int):Prop:=∀x∈l,1≤x∧x<256
theorem Nz.by {l:List Int} (h:Nz l):By l:=fun x hx=>by have:=h x hx;omega
theorem Nz.app {l k:List Int} (h:Nz l) (h':Nz k):Nz (l++k):=fun x hx=>(List.mem_append.1 hx).elim (h x) (h' x)
theorem Nz.nil:Nz []:=fun x hx=>by cases hx
theorem Nz.fm {α:Type} {l:List α} {f:α→List Int} (h:∀x∈l,Nz (f x)):Nz (l.flatMap f):=fun x hx=>by
 obtain ⟨y,hy,hx⟩:=List.mem_flatMap.1 hx
 exact h y hy x hx
theorem Ls (n:Nat):Nz (E6 n):=fun x hx=>by have:=Xc n x hx;omega
theorem Qe (l:List Int):Nz (Fp l):=Nz.fm fun x _=>Ls _
theorem Xb (l:List Int):Nz (Ro l):=Nz.fm fun x _=>Ls _
theorem Ml (s:api_Span):Nz (Hp s):=(Ls _).app (Ls _)
theorem Yj (x:api_Echo):Nz (J2 x):=by
 unfold J2
 refine (Ls _).app ?_
 split
 ·exact Ls _
 ·refine (Ml _).app ((Ml _).app ((Ml _).app ((Ls _).app ?_)))
  split
  ·exact (Ml _).app ((Ml _).app (Ml _))
  ·exact Nz.nil
theorem Xf {α:Type} [DecidableEq α] {e:α→List Int} (he:∀x,Nz (e x)):∀(l:List α) (b:α) (n:Nat),Nz (Jo e b n l):=by
 intro l
 induction l with
 | nil=>intro b n;rw [Jo];split;exact Nz.nil;exact Ls _
 | cons x l ih =>
  intro b n
  rw [Jo]
  split
  ·exact ih _ _
  ·exact (Ls _).app ((he x).app (ih _ _))
def Tz (s:ByteArray):Prop:=Nz (sby s)
def tzT (t:volume_thing):Prop:=t.cs True (fun s=>Tz s.Sweep.Site.Name) (fun f=>Tz f.key) (fun n=>Tz n.text)
def cnt (t:volume_thing):Nat:=t.cs 0 (fun s=>s.Sweep.Rays.flatten.length) (fun f=>f.Field.Vals.length) (fun _=>0)
theorem Q2 {t:volume_thing} (h:okT t):(D1 t).length≤1200+139*cnt t:=by
 cases t with
 | nil_=>exact h.elim
 | ic156 s =>
  obtain ⟨⟨a1,a2,a3,a4,a5,a6,a7,a8⟩,h2,h3,h4,h5,h6⟩:=(show Qf s.Sweep from h)
  have l1:=Gs (l:=[(1:Int)]) (by intro x hx;simp at hx;subst hx;exact M3 (by decide))
  have l2:=Ng a1
  have l3:=Rq (l:=[s.Sweep.Site.X,s.Sweep.Site.Y]) (by intro x hx;simp at hx;rcases hx with rfl|rfl<;>assumption)
  have l4:=Gs (l:=[s.Sweep.Site.Z,s.Sweep.Site.Rose,s.Sweep.Site.Gates,s.Sweep.Site.Step,s.Sweep.Site.Width,s.Sweep.Tilt,s.Sweep.Time]) (by intro x hx;simp at hx;rcases hx with rfl|rfl|rfl|rfl|rfl|rfl|rfl<;>assumption)
  have l5:=Vw (e:=J2) (c:=130) s.Sweep.Rays.flatten e0 0 (fun x hx=>S3 (by obtain ⟨r,hr,hx⟩:=List.mem_flatten.1 hx;exact h6 r hr x hx)) (by omega)
  simp only [List.length_cons,List.length_nil] at l1 l3 l4
  show (Re s.Sweep).length≤1200+139*s.Sweep.Rays.flatten.length
  simp only [Re,List.length_append]
  omega
 | ic158 f =>
  obtain ⟨a1,a2,a3,a4,a5,a6,a7,a8,a9⟩:=(show Rw f from h)
  have l1:=Gs (l:=[(2:Int)]) (by intro x hx;simp at hx;subst hx;exact M3 (by decide))
  have l2:=Ng a1
  have l3:=Rq (l:=[f.Field.Grid.X,f.Field.Grid.Y]) (by intro x hx;simp at hx;rcases hx with rfl|rfl<;>assumption)
  have l4:=Gs (l:=[f.Field.Grid.Size,f.Field.Grid.Wide,f.Field.Grid.High]) (by intro x hx;simp at hx;rcases hx with rfl|rfl|rfl<;>assumption)
  have l6:=Gs (l:=[f.time]) (by intro x hx;simp at hx;subst hx;exact a2)
  have l5:=Vw (e:=Hp) (c:=18) f.Field.Vals ⟨0,0⟩ 0 (fun x hx=>Cw (a9 x hx)) (by omega)
  simp only [List.length_cons,List.length_nil] at l1 l3 l4 l6
  show (Qx f).length≤1200+139*f.Field.Vals.length
  simp only [Qx,List.length_append]
  omega
 | ic160 n =>
  obtain ⟨a1,a2⟩:=(show V7 n from h)
  have l1:=Gs (l:=[(3:Int),n.time]) (by intro x hx;simp at hx;rcases hx with rfl|rfl;(exact M3 (by decide));exact a1)
  have l2:=Ng a2
  simp only [List.length_cons,List.length_nil] at l1
  show (Tq n).length≤1200+139*0
  simp only [Tq,List.length_append]
  omega
theorem A1y (s:ByteArray):By (sby s):=fun x hx=>by
 obtain ⟨b,_,rfl⟩:=List.mem_map.1 hx
 have:=b.toNat_lt
 omega
theorem U2 (s:ByteArray):By (Jx s):=(V6 _).app (A1y s)
theorem Uw (t:volume_thing):By (D1 t):=by
 cases t with
 | nil_=>exact Nz.nil.by
 | ic156 s=>exact (Qe _).by.app ((U2 _).app ((Xb _).by.app ((Qe _).by.app (Xf Yj _ _ _).by)))
 | ic158 f=>exact (Qe _).by.app ((U2 _).app ((Qe _).by.app ((Xb _).by.app ((Qe _).by.app (Xf Ml _ _ _).by))))
 | ic160 n=>exact (Qe _).by.app (U2 _)
theorem P6 {t:volume_thing} (h:okT t):(D1 t).length≤14000000:=by
 have h1:=Q2 h
 have h2:cnt t≤100000:=by
  cases t with
  | nil_=>exact h.elim
  | ic156 s=>exact (show Qf s.Sweep from h).2.2.2.2.1
  | ic158 f=>exact (show Rw f from h).2.2.2.2.2.2.2.1
  | ic160 n=>exact Nat.zero_le _
 omega
def Na (b:List Int):List Int:=E6 b.length++b
def Pt (t:volume_thing):List Int:=Na (D1 t)++A0j (Na (D1 t))
def Nn (t:volume_thing):List Int:=0::Pt t
theorem Ya {F:Nat} (hF:200000≤F) {t:volume_thing} (h:okT t) (hl:(D1 t).length+100≤F):J1 F t=some (Nn t):=by
 have hlen:=P6 h
 have h9:=Ck (x:=((D1 t).length:Int)) ⟨by omega,by omega⟩
 rw [Int.toNat_natCast] at h9
 rw [J1,A0s hF h,sb,F8 (by omega) (by unfold okW;simp) (by intro x hx;simp at hx;subst hx;exact ⟨by omega,by omega⟩) (by simp),sb]
 have e:([]:List Int)++Fp [((D1 t).length:Int)]=E6 (D1 t).length:=by simp [Fp]
 simp only [e]
 rw [Kl (by omega) (by decide)]
 show (Jq F (Na (D1 t))).bind _=_
 have hpl:(Na (D1 t)).length=(E6 (D1 t).length).length+(D1 t).length:=by unfold Na;rw [List.length_append]
 have hby:By (Na (D1 t)):=(V6 _).app (Uw t)
 rw [A1z (by omega) hby (by omega) (by omega),sb,Kl (by rw [List.length_append,Ry];omega) (by decide)]
 rw [show E6 (D1 t).length++D1 t=Na (D1 t) from rfl]
 rw [Kl (by rw [List.length_append,Ry];simp;omega) (by decide)]
 rfl
end Go.Proofs.YtifbomimeodibaaGreat
namespace Go.Proofs.YtifbomimeodibaaGreat
open Go Go.RowKit Go.Eng
set_option maxRecDepth 10000
set_option linter.unusedVariables false
set_option linter.unusedSimpArgs false
abbrev RE (α:Type):=Option (Except (Value×volume_reader) (α×volume_reader))
def W7:Value:=.iface 128 (.int .i64 7)
def Rd {α:Type} (y:RE α) (o:Option (α×List Int)):Prop:=match o with
 | some x=>y=some (.ok (x.1,⟨x.2⟩))
 | none=>∃r,y=some (.error (W7,r))
theorem Rd.ok {α:Type} {x:α} {r:List Int}:Rd (some (.ok (x,⟨r⟩))) (some (x,r)):=rfl
def rD:Nat→Bool→List Int→Option (Int×List Int)
 | 0,_,_=>none
 | _+1,_,[]=>none
 | k+1,f,c::l=>if c=0∨c=255∨(c=1∧f=false) then none else if c<128 then some (c-1,l) else (rD k false l).map fun y=>(c-128+127*y.1,y.2)
end Go.Proofs.YtifbomimeodibaaGreat
namespace Go.Proofs.YtifbomimeodibaaGreat
open Go Go.RowKit Go.Eng
set_option maxRecDepth 10000
set_option linter.unusedVariables false
set_option linter.unusedSimpArgs false
def okS' (s:api_Span):Prop:=-67675234241018881≤s.Lo∧s.Lo≤s.Hi∧s.Hi≤200000000000000000
theorem okS'.ok {s:api_Span} (h:okS' s):okS s:=by obtain ⟨a,b,c⟩:=h;exact ⟨by omega,b,by omega⟩
end Go.Proofs.YtifbomimeodibaaGreat
namespace Go.Proofs.YtifbomimeodibaaGreat
open Go Go.RowKit Go.Eng
set_option maxRecDepth 10000
set_option linter.unusedVariables false
set_option linter.unusedSimpArgs false
def P9 (s:ByteArray):Bool:=(!(sEq s ⟨#[]⟩))&&(decide ((s.size:Int)≤12)&&(decide ((Pc s 0).getD 0≥97)&&(decide ((Pc s 0).getD 0≤122)&&!Yv s)))
theorem T5 (F:Nat) (s:ByteArray):Ly F s=some (P9 s):=by
 have hg:sEq s ⟨#[]⟩=false→Pc s 0=some ((Pc s 0).getD 0):=by
  intro h
  have hs:s.size≠0:=by
   intro h0
   have:s=⟨#[]⟩:=by
    cases s with
    | mk d =>
     have:d=#[]:=Array.eq_empty_of_size_eq_zero h0
     rw [this]
   rw [Qh.2 this] at h
   cases h
  unfold Pc
  rw [if_pos (by omega)]
  rfl
 unfold Ly P9 De
 cases h1:sEq s ⟨#[]⟩ with
 | true=>simp [gd]
 | false =>
  have e:=hg h1
  generalize hu:(Pc s 0).getD 0=u at e ⊢
  rw [e]
  by_cases h2:(s.size:Int)≤12
  ·by_cases h3:u≥97
   ·simp [gd,h2,h3]
   ·simp [gd,h2,h3]
  ·simp [gd,h2]
def inB (x lo hi:Int):Prop:=lo≤x∧x≤hi
instance (x lo hi:Int):Decidable (inB x lo hi):=by unfold inB;infer_instance
theorem U6 {x lo hi:Int}:Ah x lo hi=decide (inB x lo hi):=by
 unfold Ah inB
 by_cases h:lo≤x<;>simp [h]
def W8 (s:api_Site):Prop:=P9 s.Name=true∧inB s.X (-1048576) 1048576∧inB s.Y (-1048576) 1048576∧inB s.Z 0 20000∧inB s.Rose 1 90∧inB s.Gates 1 200∧inB s.Step 50 2000∧inB s.Width 0 8
instance (s:api_Site):Decidable (W8 s):=by unfold W8;infer_instance
theorem A0i (F:Nat) (s:api_Site):∃e,Ed F s=some e∧(e=0↔W8 s):=by
 unfold Ed Dh D5 W8
 rw [T5,sb]
 simp only [U6]
 cases P9 s.Name with
 | false=>exact ⟨10,by simp,by simp⟩
 | true =>
  by_cases h1:inB s.X (-1048576) 1048576
  ·by_cases h2:inB s.Y (-1048576) 1048576
   ·by_cases h3:inB s.Z 0 20000
    ·by_cases h4:inB s.Rose 1 90
     ·by_cases h5:inB s.Gates 1 200
      ·by_cases h6:inB s.Step 50 2000
       ·by_cases h7:inB s.Width 0 8
        ·exact ⟨0,by simp [h1,h2,h3,h4,h5,h6,h7],by simp [h1,h2,h3,h4,h5,h6,h7]⟩
        ·exact ⟨3,by simp [h1,h2,h3,h4,h5,h6,h7],by simp [h1,h2,h3,h4,h5,h6,h7]⟩
       ·exact ⟨3,by simp [h1,h2,h3,h4,h5,h6],by simp [h1,h2,h3,h4,h5,h6]⟩
      ·exact ⟨3,by simp [h1,h2,h3,h4,h5],by simp [h1,h2,h3,h4,h5]⟩
     ·exact ⟨3,by simp [h1,h2,h3,h4],by simp [h1,h2,h3,h4]⟩
    ·exact ⟨3,by simp [h1,h2,h3],by simp [h1,h2,h3]⟩
   ·exact ⟨3,by simp [h1,h2],by simp [h1,h2]⟩
  ·exact ⟨3,by simp [h1],by simp [h1]⟩
def Uy (g:api_Grid):Prop:=inB g.X (-1048576) 1048576∧inB g.Y (-1048576) 1048576∧inB g.Size 1 10000∧inB g.Wide 1 64∧inB g.High 1 64
theorem Zx (g:api_Grid):Bk g=0↔Uy g:=by
 unfold Bk Cq Uy
 simp only [U6]
 by_cases h1:inB g.X (-1048576) 1048576
 ·by_cases h2:inB g.Y (-1048576) 1048576
  ·by_cases h3:inB g.Size 1 10000
   ·by_cases h4:inB g.Wide 1 64
    ·by_cases h5:inB g.High 1 64<;>simp [h1,h2,h3,h4,h5]
    ·simp [h1,h2,h3,h4]
   ·simp [h1,h2,h3]
  ·simp [h1,h2]
 ·simp [h1]
def Ns (s:api_Span) (lo hi:Int):Prop:=lo≤s.Lo∧s.Lo≤s.Hi∧s.Hi≤hi
instance (s:api_Span) (lo hi:Int):Decidable (Ns s lo hi):=by unfold Ns;infer_instance
theorem Tj {s:api_Span} {lo hi:Int}:Ac s lo hi=decide (Ns s lo hi):=by
 unfold Ac Ns
 by_cases h:lo≤s.Lo
 ·by_cases h2:s.Lo≤s.Hi<;>simp [h,h2]
 ·simp [h]
theorem Lg {x lo hi:Int}:Aq x lo hi=decide (inB x lo hi):=by
 unfold Aq inB
 by_cases h:lo≤x<;>simp [h]
def G1 (s:api_Span):Prop:=-32768≤s.Lo∧s.Lo≤32767∧s.Lo≤s.Hi∧s.Hi≤s.Lo+65535
instance (s:api_Span):Decidable (G1 s):=by unfold G1;infer_instance
theorem Zc (p:List api_Span) (k2:Int→Option Bool) (i:Nat) (u:api_Span) (h:p[i]? = some u) (hi:i<p.length) (h9:i≤100):F3 p k2 i=bif decide (G1 u) then k2 (i+1) else some false:=by
 have e1:-9000000000000000000≤(i:Int)+1∧(i:Int)+1≤9000000000000000000:=by omega
 rw [F3,B3 (dT (by omega)),Ei i u rfl h]
 simp only [Lg]
 by_cases h1:inB u.Lo (-32768) 32767
 ·have h1':=h1
  obtain ⟨a,b⟩:=h1'
  simp only [dT h1]
  rw [gdT (by rfl),ckb (by omega),gdT (by rfl),ckb (by omega)]
  obtain ⟨z,hz⟩:∃z,z=u.Lo+65536-1:=⟨_,rfl⟩
  rw [←hz]
  by_cases h2:inB u.Hi u.Lo z
  ·have ht:G1 u:=⟨a,b,h2.1,by have:=h2.2;omega⟩
   rw [dT h2,dT ht]
   rw [B5 (by rfl),B3 (by rfl),ckb e1]
  ·have ht:¬G1 u:=fun h=>h2 ⟨h.2.2.1,by have:=h.2.2.2;omega⟩
   rw [dF h2,dF ht,B3 (by rfl),B5 (by rfl)]
 ·simp only [dF h1]
  rw [gdF (by rfl),sb,gdF (by rfl),sb,dF (show ¬G1 u from fun h=>h1 ⟨h.1,h.2.1⟩),B3 (by rfl),B5 (by rfl)]
theorem U3 {F:Nat} (hF:10≤F) (a b c:api_Span):J8 F [a,b,c]=some (decide (G1 a∧G1 b∧G1 c)):=by
 obtain ⟨G,rfl⟩:∃G,F=G+4:=⟨F-4,by omega⟩
 rw [J8,Dc,show (0:Int)=((0:Nat):Int) from rfl,Zc _ _ 0 a rfl (by simp) (by decide)]
 by_cases h1:G1 a
 ·rw [B3 (dT h1),show (((0:Nat):Int)+1)=((1:Nat):Int) from rfl,Dc,Zc _ _ 1 b rfl (by simp) (by decide)]
  by_cases h2:G1 b
  ·rw [B3 (dT h2),show (((1:Nat):Int)+1)=((2:Nat):Int) from rfl,Dc,Zc _ _ 2 c rfl (by simp) (by decide)]
   by_cases h3:G1 c
   ·rw [B3 (dT h3),Dc,F3,B5 (dF (by simp)),Hv]
    simp [h1,h2,h3]
   ·rw [B5 (dF h3)];simp [h3]
  ·rw [B5 (dF h2)];simp [h2]
 ·rw [B5 (dF h1)];simp [h1]
def z0 (s:api_Span):Prop:=s.Lo=0∧s.Hi=0
def vEcho (x:api_Echo):Prop:=(x.Kind=1∧Ns x.Power 0 1073741824∧x.Power.Lo=0∧z0 x.Steps.1∧z0 x.Steps.2∧x.Spread=0∧z0 x.Ratio∧z0 x.Match∧z0 x.Turn) ∨
 ((x.Kind=2∨x.Kind=3)∧Ns x.Power 0 1073741824∧x.Power.Lo>0∧Ns x.Ratio 0 1000000∧Ns x.Match 0 1000∧inB x.Spread 0 65535∧(x.Kind=2→z0 x.Steps.1∧z0 x.Steps.2∧z0 x.Turn)∧(x.Kind=3→G1 x.Steps.1∧G1 x.Steps.2∧G1 x.Turn))
theorem A0x (c:Bool):Cy c=some (if c=true then 0 else 3):=by cases c<;>rfl
theorem Zu {F:Nat} (hF:10≤F) (x:api_Echo):∃e,El F x=some e∧(e=0↔vEcho x):=by
 unfold El vEcho
 simp only [A0x,Tj]
 by_cases h1:x.Kind=1
 ·rw [B3 (by simp [h1])]
  refine ⟨_,rfl,?_⟩
  simp only [h1,z0]
  by_cases h2:Ns x.Power 0 1073741824
  ·simp [h2,and_assoc]
  ·simp [h2]
 ·rw [B5 (by simp [h1])]
  have hK:∀c:Bool,c=(decide (x.Kind=2∨x.Kind=3))→∃e,C8 F x c=some e∧(e=0↔((x.Kind=2∨x.Kind=3)∧Ns x.Power 0 1073741824∧x.Power.Lo>0∧Ns x.Ratio 0 1000000∧Ns x.Match 0 1000∧inB x.Spread 0 65535∧(x.Kind=2→z0 x.Steps.1∧z0 x.Steps.2∧z0 x.Turn)∧(x.Kind=3→G1 x.Steps.1∧G1 x.Steps.2∧G1 x.Turn))):=by
   intro c hc
   unfold C8
   simp only [A0x,Tj,Lg]
   by_cases h23:x.Kind=2∨x.Kind=3
   ·rw [hc,B3 (dT h23)]
    by_cases h2:x.Kind=2
    ·rw [B3 (by simp [h2])]
     refine ⟨_,rfl,?_⟩
     simp only [h2,z0]
     by_cases a1:Ns x.Power 0 1073741824
     ·by_cases a2:x.Power.Lo>0
      ·by_cases a3:Ns x.Ratio 0 1000000
       ·by_cases a4:Ns x.Match 0 1000
        ·by_cases a5:inB x.Spread 0 65535
         ·simp [a1,a2,a3,a4,a5,and_assoc]
         ·simp [a1,a2,a3,a4,a5]
        ·simp [a1,a2,a3,a4]
       ·simp [a1,a2,a3]
      ·simp [a1,a2]
     ·simp [a1]
    ·have h3:x.Kind=3:=h23.resolve_left h2
     rw [B5 (by simp [h2])]
     by_cases a1:Ns x.Power 0 1073741824
     ·by_cases a2:x.Power.Lo>0
      ·by_cases a3:Ns x.Ratio 0 1000000
       ·by_cases a4:Ns x.Match 0 1000
        ·by_cases a5:inB x.Spread 0 65535
         ·rw [B3 (by simp [a1,a2,a3,a4,a5]),show (⟨x.Steps.1.Lo,x.Steps.1.Hi⟩:api_Span)=x.Steps.1 from rfl,show (⟨x.Steps.2.Lo,x.Steps.2.Hi⟩:api_Span)=x.Steps.2 from rfl,U3 hF,sb]
          refine ⟨_,rfl,?_⟩
          simp [h3,a1,a2,a3,a4,a5]
         ·rw [B5 (by simp [a5])];exact ⟨_,rfl,by simp [a5]⟩
        ·rw [B5 (by simp [a4])];exact ⟨_,rfl,by simp [a4]⟩
       ·rw [B5 (by simp [a3])];exact ⟨_,rfl,by simp [a3]⟩
      ·rw [B5 (by simp [a2])];exact ⟨_,rfl,by simp [a2]⟩
     ·rw [B5 (by simp [a1])];exact ⟨_,rfl,by simp [a1]⟩
   ·rw [hc,B5 (dF h23)]
    exact ⟨2,rfl,by simp [h23]⟩
  obtain ⟨e,he,hv⟩:∃e,(bif x.Kind==2 then C8 F x (x.Kind==2) else C8 F x (x.Kind==3))=some e∧(e=0↔_):=by
   by_cases h2:x.Kind=2
   ·rw [B3 (by simp [h2])];exact hK _ (by simp [h2])
   ·rw [B5 (by simp [h2])];exact hK _ (by simp [h2];rfl)
  exact ⟨e,he,hv.trans ⟨fun h=>.inr h,fun h=>h.resolve_left fun h=>h1 h.1⟩⟩
end Go.Proofs.YtifbomimeodibaaGreat
namespace Go.Proofs.YtifbomimeodibaaGreat
open Go Go.RowKit Go.Eng
set_option maxRecDepth 10000
set_option linter.unusedVariables false
set_option linter.unusedSimpArgs false
theorem A1x {F:Nat} (hF:5000≤F) (x270:Int) (k3:Int→Option Int) (u:List api_Echo) (hu:u.length≤1000):∀(m i:Nat),u.length-i<m→i≤u.length →
  ((∀x∈u.drop i,vEcho x)∧C3 F x270 k3 u m i=Dw x270 k3)∨(∃e,e≠0∧C3 F x270 k3 u m i=some e∧¬∀x∈u.drop i,vEcho x):=by
 intro m
 induction m with
 | zero=>intro i h;omega
 | succ m ih =>
  intro i h hi
  rw [C3,Es]
  by_cases hb:i<u.length
  ·have hd:=List.drop_eq_getElem_cons hb
   obtain ⟨e,he,hv⟩:=Zu (F:=F) (by omega) u[i]
   rw [B3 (dT (by omega)),Ei i u[i] rfl (List.getElem?_eq_getElem hb)]
   rw [show (⟨u[i].Kind,u[i].Power,(⟨u[i].Steps.1.Lo,u[i].Steps.1.Hi⟩,⟨u[i].Steps.2.Lo,u[i].Steps.2.Hi⟩),u[i].Spread,u[i].Ratio,u[i].Match,u[i].Turn⟩:api_Echo)=u[i] from rfl,he,sb]
   by_cases h0:e=0
   ·rw [B5 (by simp [h0]),ckb (by omega)]
    rcases ih (i+1) (by omega) (by omega) with ⟨h1,h2⟩|⟨e',h1,h2,h3⟩
    ·refine .inl ⟨?_,h2⟩
     rw [hd]
     intro x hx
     rcases List.mem_cons.1 hx with rfl|hx
     ·exact hv.1 h0
     ·exact h1 x hx
    ·exact .inr ⟨e',h1,h2,fun h=>h3 fun x hx=>h x (by rw [hd];exact List.mem_cons_of_mem _ hx)⟩
   ·rw [B3 (by simp [h0])]
    exact .inr ⟨e,h0,rfl,fun h=>h0 (hv.2 (h u[i] (by rw [hd];exact List.mem_cons_self ..)))⟩
  ·rw [B5 (dF (by omega))]
   exact .inl ⟨fun x hx=>(by rw [List.drop_of_length_le (by omega)] at hx;cases hx),rfl⟩
theorem A0b {F:Nat} (hF:5000≤F) (p:api_Sweep) (hp:p.Rays.length≤1000) (hr:∀r∈p.Rays,r.length≤1000):∀(m i:Nat),p.Rays.length-i<m→i≤p.Rays.length →
  ∃e,C2 F p m i=some e∧(e=0↔∀r∈p.Rays.drop i,∀x∈r,vEcho x):=by
 intro m
 induction m with
 | zero=>intro i h;omega
 | succ m ih =>
  intro i h hi
  rw [C2,Er]
  by_cases hb:i<p.Rays.length
  ·have hd:=List.drop_eq_getElem_cons hb
   have hl:=hr p.Rays[i] (List.getElem_mem hb)
   rw [B3 (dT (by omega)),Ei i p.Rays[i] rfl (List.getElem?_eq_getElem hb)]
   rcases A1x hF i (C2 F p m) p.Rays[i] hl F 0 (by omega) (by omega) with ⟨h1,h2⟩|⟨e,h1,h2,h3⟩
   ·rw [show (0:Int)=((0:Nat):Int) from rfl,h2,Dw,ckb (by omega)]
    obtain ⟨e,he,hv⟩:=ih (i+1) (by omega) (by omega)
    refine ⟨e,he,hv.trans ?_⟩
    rw [hd]
    constructor
    ·intro h r hr'
     rcases List.mem_cons.1 hr' with rfl|hr'
     ·exact h1
     ·exact h r hr'
    ·exact fun h r hr'=>h r (List.mem_cons_of_mem _ hr')
   ·refine ⟨e,h2,⟨fun h=>absurd h h1,fun h=>absurd (h p.Rays[i] (by rw [hd];exact List.mem_cons_self ..)) h3⟩⟩
  ·rw [B5 (dF (by omega)),G2]
   exact ⟨0,rfl,by simp [List.drop_of_length_le (show p.Rays.length≤i by omega)]⟩
theorem Yq {F:Nat} (hF:5000≤F) (p:api_Sweep) (hp:p.Rays.length≤1000) (hg:p.Site.Gates≤200):∀(m i:Nat),p.Rays.length-i<m→i≤p.Rays.length→(∀r∈p.Rays.take i,(r.length:Int)=p.Site.Gates) →
  ∃e,Cp F p m i=some e∧(e=0↔(∀r∈p.Rays,(r.length:Int)=p.Site.Gates)∧∀r∈p.Rays,∀x∈r,vEcho x):=by
 intro m
 induction m with
 | zero=>intro i h;omega
 | succ m ih =>
  intro i h hi hpre
  rw [Cp,Et]
  by_cases hb:i<p.Rays.length
  ·rw [B3 (dT (by omega)),Ei i p.Rays[i] rfl (List.getElem?_eq_getElem hb)]
   by_cases hl:(p.Rays[i].length:Int)=p.Site.Gates
   ·rw [B5 (by simp [hl]),ckb (by omega)]
    refine ih (i+1) (by omega) (by omega) fun r hr=>?_
    rw [List.take_succ_eq_append_getElem hb] at hr
    rcases List.mem_append.1 hr with hr|hr
    ·exact hpre r hr
    ·simp at hr;rw [hr];exact hl
   ·rw [B3 (by simp [hl])]
    exact ⟨11,rfl,⟨fun h=>by simp at h,fun h=>absurd (h.1 p.Rays[i] (List.getElem_mem hb)) hl⟩⟩
  ·rw [B5 (dF (by omega)),Eu]
   rw [List.take_of_length_le (by omega)] at hpre
   obtain ⟨e,he,hv⟩:=A0b hF p hp (fun r hr=>by have:=hpre r hr;omega) F 0 (by omega) (by omega)
   exact ⟨e,he,hv.trans ⟨fun h=>⟨hpre,h⟩,fun h=>h.2⟩⟩
def vSweep (s:api_Sweep):Prop:=W8 s.Site∧inB s.Tilt 0 256∧inB s.Time 0 4294967296∧(s.Rays.length:Int)=4*s.Site.Rose∧(∀r∈s.Rays,(r.length:Int)=s.Site.Gates)∧∀r∈s.Rays,∀x∈r,vEcho x
theorem Zb {F:Nat} (hF:5000≤F) (p:api_Sweep):∃e,Bi F p=some e∧(e=0↔vSweep p):=by
 obtain ⟨e,he,hv⟩:=A0i F p.Site
 unfold Bi vSweep
 rw [he,sb]
 simp only [Lg]
 by_cases h0:e=0
 ·have hs:=hv.1 h0
  obtain ⟨_,_,_,_,⟨r1,r2⟩,⟨g1,g2⟩,_⟩:=hv.1 h0
  rw [B5 (by simp [h0])]
  by_cases h1:inB p.Tilt 0 256
  ·by_cases h2:inB p.Time 0 4294967296
   ·rw [B5 (by simp [h1,h2]),ckb (by omega)]
    by_cases h3:(p.Rays.length:Int)=4*p.Site.Rose
    ·rw [B5 (by simp [h3])]
     obtain ⟨e',he',hv'⟩:=Yq hF p (by omega) g2 F 0 (by omega) (by omega) (fun r hr=>by simp at hr)
     exact ⟨e',he',hv'.trans ⟨fun h=>⟨hs,h1,h2,h3,h.1,h.2⟩,fun h=>⟨h.2.2.2.2.1,h.2.2.2.2.2⟩⟩⟩
    ·rw [B3 (by simp [h3])]
     exact ⟨11,rfl,⟨fun h=>by simp at h,fun h=>absurd h.2.2.2.1 h3⟩⟩
   ·rw [B3 (by simp [h2])]
    exact ⟨3,rfl,⟨fun h=>by simp at h,fun h=>absurd h.2.2.1 h2⟩⟩
  ·rw [B3 (by simp [h1])]
   exact ⟨3,rfl,⟨fun h=>by simp at h,fun h=>absurd h.2.1 h1⟩⟩
 ·rw [B3 (by simp [h0])]
  exact ⟨e,rfl,⟨fun h=>absurd h h0,fun h=>absurd (hv.2 h.1) h0⟩⟩
def A20 (v:api_Span):Prop:=0≤v.Lo∧v.Lo≤v.Hi∧v.Hi≤1073741824
theorem A0p {p:api_Field} (hp:p.Vals.length≤1000000):∀(m i:Nat),p.Vals.length-i<m→i≤p.Vals.length →
  ∃e,F1 p 1073741824 m i=some e∧(e=0↔∀v∈p.Vals.drop i,A20 v):=by
 intro m
 induction m with
 | zero=>intro i h;omega
 | succ m ih =>
  intro i h hi
  rw [F1,J5]
  by_cases hb:i<p.Vals.length
  ·have hd:=List.drop_eq_getElem_cons hb
   rw [B3 (dT (by omega)),Ei i p.Vals[i] rfl (List.getElem?_eq_getElem hb)]
   by_cases hv:A20 p.Vals[i]
   ·obtain ⟨a,b,c⟩:=hv
    rw [B5 (by rw [dF (show ¬p.Vals[i].Lo<0 by omega),dF (show ¬p.Vals[i].Hi<p.Vals[i].Lo by omega),dF (show ¬p.Vals[i].Hi>1073741824 by omega)];rfl),ckb (by omega)]
    obtain ⟨e,he,hv⟩:=ih (i+1) (by omega) (by omega)
    refine ⟨e,he,hv.trans ?_⟩
    rw [hd]
    constructor
    ·intro h v hv'
     rcases List.mem_cons.1 hv' with rfl|hv'
     ·exact ⟨a,b,c⟩
     ·exact h v hv'
    ·exact fun h v hv'=>h v (List.mem_cons_of_mem _ hv')
   ·rw [B3 ?_]
    ·exact ⟨3,rfl,⟨fun h=>by simp at h,fun h=>absurd (h p.Vals[i] (by rw [hd];exact List.mem_cons_self ..)) hv⟩⟩
    ·by_cases h1:p.Vals[i].Lo<0
     ·simp [h1]
     ·by_cases h2:p.Vals[i].Hi<p.Vals[i].Lo
      ·simp [h2]
      ·have:p.Vals[i].Hi>1073741824:=by
        rcases Int.lt_or_le 1073741824 p.Vals[i].Hi with h|h
        ·exact h
        ·exact absurd ⟨by omega,by omega,h⟩ hv
       simp [this]
  ·rw [B5 (dF (by omega)),L1]
   exact ⟨0,rfl,by simp [List.drop_of_length_le (show p.Vals.length≤i by omega)]⟩
def Vf (f:volume_field):Prop:=P9 f.key=true∧inB f.time 0 4294967296∧Uy f.Field.Grid∧(f.Field.Vals.length:Int)=f.Field.Grid.Wide*f.Field.Grid.High∧∀v∈f.Field.Vals,A20 v
theorem Vm {g:api_Grid} (h:Uy g):0≤g.Wide*g.High∧g.Wide*g.High≤4096:=by
 obtain ⟨_,_,_,⟨a,b⟩,⟨c,d⟩⟩:=h
 have h1:g.Wide*g.High≤64*g.High:=Int.mul_le_mul_of_nonneg_right b (by omega)
 exact ⟨Int.mul_nonneg (by omega) (by omega),by omega⟩
theorem Yo {F:Nat} (hF:5000≤F) (f:volume_field):∃e,B0 F f=some e∧(e=0↔Vf f):=by
 unfold B0 Vf Ek M6
 rw [T5,sb]
 cases P9 f.key with
 | false=>exact ⟨10,by rw [B3 (by rfl)],by simp⟩
 | true =>
  rw [B5 (by rfl)]
  by_cases h1:inB f.time 0 4294967296
  ·rw [B5 (by have:=h1.1;have:=h1.2;rw [dF (show ¬f.time<0 by omega),dF (show ¬f.time>4294967296 by omega)];rfl)]
   have hg:=Zx f.Field.Grid
   by_cases h2:Bk f.Field.Grid=0
   ·obtain ⟨c1,c2⟩:=Vm (hg.1 h2)
    rw [B5 (by simp [h2]),ckb (by omega)]
    by_cases h3:(f.Field.Vals.length:Int)=f.Field.Grid.Wide*f.Field.Grid.High
    ·rw [B5 (by simp [h3])]
     obtain ⟨e,he,hv⟩:=A0p (p:=f.Field) (by omega) F 0 (by omega) (by omega)
     rw [show (0:Int)=((0:Nat):Int) from rfl,he]
     exact ⟨e,rfl,hv.trans ⟨fun h=>⟨rfl,h1,hg.1 h2,h3,h⟩,fun h=>h.2.2.2.2⟩⟩
    ·rw [B3 (by simp [h3])]
     exact ⟨11,rfl,⟨fun h=>by simp at h,fun h=>absurd h.2.2.2.1 h3⟩⟩
   ·rw [B3 (by simp [h2])]
    exact ⟨_,rfl,⟨fun h=>absurd h h2,fun h=>absurd (hg.2 h.2.2.1) h2⟩⟩
  ·rw [B3 ?_]
   ·exact ⟨3,rfl,⟨fun h=>by simp at h,fun h=>absurd h.2.1 h1⟩⟩
   ·by_cases h:f.time<0
    ·simp [h]
    ·have:f.time>4294967296:=by
      rcases Int.lt_or_le 4294967296 f.time with h|h
      ·exact h
      ·exact absurd ⟨by omega,h⟩ h1
     simp [this]
def Xi (n:volume_note):Prop:=inB n.time 0 4294967296∧n.text.size≤200∧∀c∈sby n.text,32≤c∧c≤126
theorem Yf (l:List Int) (hl:l.length≤1000000):∀(m i:Nat),l.length-i<m→i≤l.length →
  ∃e,Bu l m i=some e∧(e=0↔∀c∈l.drop i,32≤c∧c≤126):=by
 intro m
 induction m with
 | zero=>intro i h;omega
 | succ m ih =>
  intro i h hi
  rw [Bu,Ef]
  by_cases hb:i<l.length
  ·have hd:=List.drop_eq_getElem_cons hb
   rw [B3 (dT (by omega)),Ei i l[i] rfl (List.getElem?_eq_getElem hb)]
   by_cases hv:32≤l[i]∧l[i]≤126
   ·rw [B5 (by rw [dF (show ¬l[i]<32 by omega),dF (show ¬l[i]>126 by omega)];rfl),ckb (by omega)]
    obtain ⟨e,he,hv'⟩:=ih (i+1) (by omega) (by omega)
    refine ⟨e,he,hv'.trans ?_⟩
    rw [hd]
    constructor
    ·intro h v hv'
     rcases List.mem_cons.1 hv' with rfl|hv'
     ·exact hv
     ·exact h v hv'
    ·exact fun h v hv'=>h v (List.mem_cons_of_mem _ hv')
   ·rw [B3 ?_]
    ·exact ⟨7,rfl,⟨fun h=>by simp at h,fun h=>absurd (h l[i] (by rw [hd];exact List.mem_cons_self ..)) hv⟩⟩
    ·by_cases h1:l[i]<32
     ·simp [h1]
     ·have:l[i]>126:=by omega
      simp [this]
  ·rw [B5 (dF (by omega)),Fs]
   exact ⟨0,rfl,by simp [List.drop_of_length_le (show l.length≤i by omega)]⟩
theorem A04 {F:Nat} (hF:5000≤F) (n:volume_note):∃e,B6 F n=some e∧(e=0↔Xi n):=by
 unfold B6 Xi
 by_cases h1:inB n.time 0 4294967296
 ·rw [B5 (by have:=h1.1;have:=h1.2;rw [dF (show ¬n.time<0 by omega),dF (show ¬n.time>4294967296 by omega)];rfl)]
  by_cases h2:n.text.size≤200
  ·have hs:s2b n.text=some (sby n.text):=by unfold s2b;rw [if_pos (by omega)]
   rw [B5 (dF (by omega)),hs,sb]
   obtain ⟨e,he,hv⟩:=Yf (sby n.text) (by rw [Kb];omega) F 0 (by rw [Kb];omega) (by omega)
   exact ⟨e,he,hv.trans ⟨fun h=>⟨h1,h2,h⟩,fun h=>h.2.2⟩⟩
  ·rw [B3 (dT (by omega))]
   exact ⟨8,rfl,⟨fun h=>by simp at h,fun h=>absurd h.2.1 h2⟩⟩
 ·rw [B3 ?_]
  ·exact ⟨3,rfl,⟨fun h=>by simp at h,fun h=>absurd h.1 h1⟩⟩
  ·by_cases h:n.time<0
   ·simp [h]
   ·have:n.time>4294967296:=by
     rcases Int.lt_or_le 4294967296 n.time with h|h
     ·exact h
     ·exact absurd ⟨by omega,h⟩ h1
    simp [this]
def vT (t:volume_thing):Prop:=t.cs False (fun s=>vSweep s.Sweep) Vf Xi
theorem Tb {F:Nat} (hF:5000≤F) {t:volume_thing} (ht:t≠.nil_):∃e,Da F t=some e∧(e=0↔vT t):=by
 cases t with
 | nil_=>exact absurd rfl ht
 | ic156 s =>
  obtain ⟨e,he,hv⟩:=Zb (F:=F) (by omega) s.Sweep
  exact ⟨e,by show Bl F s=_;rw [Bl,he];rfl,hv⟩
 | ic158 f=>exact Yo hF f
 | ic160 n=>exact A04 (by omega) n
theorem Kv {x lo hi:Int} (h:inB x lo hi) (h0:0≤lo) (h1:hi≤4611686018427387904):okN x:=⟨by have:=h.1;omega,by have:=h.2;omega⟩
theorem Us {s:ByteArray} (h:P9 s=true):s.size≤12:=by
 unfold P9 at h
 simp only [Bool.and_eq_true,decide_eq_true_eq] at h
 omega
theorem vEcho.ok {x:api_Echo} (h:vEcho x):okE x:=by
 have hz:∀{s:api_Span},z0 s→okS s:=fun {s} h=>⟨by have:=h.1;omega,by have:=h.1;have:=h.2;omega,by have:=h.2;omega⟩
 have hi:∀{s:api_Span} {lo hi:Int},Ns s lo hi→-1000000000000000000≤lo→hi≤1000000000000000000→okS s:=fun {s lo hi} h h1 h2=>⟨by have:=h.1;omega,h.2.1,by have:=h.2.2;omega⟩
 have ht:∀{s:api_Span},G1 s→okS s:=fun {s} h=>⟨by have:=h.1;omega,h.2.2.1,by have:=h.2.1;have:=h.2.2.2;omega⟩
 rcases h with ⟨a,b,c,d,e,f,g,h,i⟩|⟨a,b,c,d,e,f,g,h⟩
 ·exact ⟨⟨by omega,by omega⟩,⟨by have:=b.1;have:=b.2.1;omega,by have:=b.2.2;omega⟩,⟨by omega,by omega⟩,hi b (by decide) (by decide),hz g,hz h,hz d,hz e,hz i⟩
 ·have hh:okS x.Steps.1∧okS x.Steps.2∧okS x.Turn:=by
   rcases a with a|a
   ·obtain ⟨u,v,w⟩:=g a;exact ⟨hz u,hz v,hz w⟩
   ·obtain ⟨u,v,w⟩:=h a;exact ⟨ht u,ht v,ht w⟩
  exact ⟨⟨by omega,by omega⟩,⟨by have:=b.1;have:=b.2.1;omega,by have:=b.2.2;omega⟩,Kv f (by decide) (by decide),hi b (by decide) (by decide),hi d (by decide) (by decide),hi e (by decide) (by decide),hh.1,hh.2.1,hh.2.2⟩
theorem Zv {α:Type} {l:List (List α)} {n:Nat} (h:∀r∈l,r.length=n):l.flatten.length=l.length*n:=by
 induction l with
 | nil=>simp
 | cons r l ih =>
  rw [List.flatten_cons,List.length_append,h r (by simp),ih fun r hr=>h r (by simp [hr]),List.length_cons,Nat.add_mul,Nat.one_mul];omega
theorem vSweep.len {s:api_Sweep} (h:vSweep s):(s.Rays.flatten.length:Int)=4*s.Site.Rose*s.Site.Gates:=by
 obtain ⟨_,_,_,h1,h2,_⟩:=h
 have hg:∀r∈s.Rays,r.length=s.Site.Gates.toNat:=fun r hr=>by have:=h2 r hr;omega
 rw [Zv hg]
 cases hr:s.Rays with
 | nil=>rw [hr] at h1;simp at h1;simp;rw [show s.Site.Rose=0 by omega];simp
 | cons r l =>
  have:=h2 r (by rw [hr];simp)
  rw [←hr,←h1]
  push_cast
  congr 1
  omega
theorem vT.ok {t:volume_thing} (h:vT t):okT t:=by
 cases t with
 | nil_=>exact h
 | ic156 s =>
  have hv:vSweep s.Sweep:=h
  have hlen:=hv.len
  obtain ⟨⟨n,x,y,z,r,g,st,w⟩,ti,tm,h1,h2,h3⟩:=hv
  have hm:4*s.Sweep.Site.Rose*s.Sweep.Site.Gates≤360*s.Sweep.Site.Gates:=Int.mul_le_mul_of_nonneg_right (by have:=r.2;omega) (by have:=g.1;omega)
  refine ⟨⟨by have:=Us n;omega,⟨by have:=x.1;omega,by have:=x.2;omega⟩,⟨by have:=y.1;omega,by have:=y.2;omega⟩,Kv z (by decide) (by decide),Kv r (by decide) (by decide),Kv g (by decide) (by decide),Kv st (by decide) (by decide),Kv w (by decide) (by decide)⟩,Kv ti (by decide) (by decide),Kv tm (by decide) (by decide),by have:=r.2;omega,by have:=g.2;omega,fun r hr x hx=>(h3 r hr x hx).ok⟩
 | ic158 f =>
  obtain ⟨n,tm,hg,h1,h2⟩:=(show Vf f from h)
  have:=Vm hg
  obtain ⟨x,y,z,r,g⟩:=hg
  exact ⟨by have:=Us n;omega,Kv tm (by decide) (by decide),⟨by have:=x.1;omega,by have:=x.2;omega⟩,⟨by have:=y.1;omega,by have:=y.2;omega⟩,Kv z (by decide) (by decide),Kv r (by decide) (by decide),Kv g (by decide) (by decide),by omega,fun v hv=>by obtain ⟨a,b,c⟩:=h2 v hv;exact ⟨by omega,b,by omega⟩⟩
 | ic160 n =>
  obtain ⟨tm,h1,h2⟩:=(show Xi n from h)
  exact ⟨Kv tm (by decide) (by decide),by omega⟩
end Go.Proofs.YtifbomimeodibaaGreat
namespace Go.Proofs.YtifbomimeodibaaGreat
open Go Go.RowKit Go.Eng
set_option maxRecDepth 10000
set_option linter.unusedVariables false
set_option linter.unusedSimpArgs false
instance (g:api_Grid):Decidable (Uy g):=by unfold Uy;infer_instance
noncomputable instance (t:volume_thing):Decidable (vT t):=Classical.propDecidable _
end Go.Proofs.YtifbomimeodibaaGreat
namespace Go.Proofs.YtifbomimeodibaaGreat
open Go Go.RowKit Go.Eng
set_option maxRecDepth 10000
set_option linter.unusedVariables false
set_option linter.unusedSimpArgs false
end Go.Proofs.YtifbomimeodibaaGreat
namespace Go.Proofs.YtifbomimeodibaaGreat
open Go Go.RowKit Go.Eng
set_option maxRecDepth 10000
set_option linter.unusedVariables false
set_option linter.unusedSimpArgs false
def A2d (ps:List (List Int)):List Int:=ps.flatMap fun p=>0::p
def Jm (t:volume_thing):volume_Item:=t.cs default A3 A2 A4
theorem vT.nn {t:volume_thing} (h:vT t):t≠.nil_:=fun e=>by rw [e] at h;exact h
def RVF1:List Int:=[82,86,70,49]
end Go.Proofs.YtifbomimeodibaaGreat
namespace Go.Proofs.YtifbomimeodibaaGreat
open Go Go.RowKit Go.Eng
set_option maxRecDepth 10000
set_option linter.unusedVariables false
set_option linter.unusedSimpArgs false
def okI (t:volume_thing):Prop:=vT t∧tzT t∧(D1 t).length≤6000
theorem okI.of {t:volume_thing} (h1:vT t) (h2:tzT t) (h3:cnt t≤32):okI t:=⟨h1,h2,by have:=Q2 h1.ok;omega⟩
end Go.Proofs.YtifbomimeodibaaGreat
namespace Go.Proofs.YtifbomimeodibaaGreat
open Go Go.RowKit Go.Eng
set_option maxRecDepth 10000
set_option linter.unusedVariables false
set_option linter.unusedSimpArgs false
theorem Px (s:ByteArray):sEq s s=true:=Qh.2 rfl
theorem Rk {x:Int}:(x != x)=false:=by simp
theorem Xd {t:volume_thing} (h:t≠.nil_):Co (Jm t)=t:=by
 cases t with
 | nil_=>exact absurd rfl h
 | ic156 s =>
  show Co (A3 s)=_
  simp [Co,A3,Px]
 | ic158 f =>
  show Co (A2 f)=_
  simp [Co,A2,Px]
  rfl
 | ic160 n =>
  show Co (A4 n)=_
  simp [Co,A4,Px]
  rfl
theorem Wd {F:Nat} (hF:5000≤F) {t:volume_thing} (h:vT t):Di F (Jm t)=some (t,0):=by
 obtain ⟨e,he,hv⟩:=Tb hF h.nn
 have h0:e=0:=hv.2 h
 subst h0
 rw [Di,Xd h.nn]
 cases t with
 | nil_=>exact h.elim
 | ic156 s=>rw [show Da F (.ic156 s)=Bl F s from rfl] at he;show (Bl F s).bind _=_;rw [he];rfl
 | ic158 s=>rw [show Da F (.ic158 s)=B0 F s from rfl] at he;show (B0 F s).bind _=_;rw [he];rfl
 | ic160 s=>rw [show Da F (.ic160 s)=B6 F s from rfl] at he;show (B6 F s).bind _=_;rw [he];rfl
theorem A07 {F:Nat} (hF:200000≤F) {t:volume_thing} (h:vT t) (hl:(D1 t).length+100≤F):Df F (Jm t)=some (Nn t,0):=by
 rw [Df,Wd (by omega) h,sb,B5 (by rfl)]
 show (J1 F t).bind _=_
 rw [Ya hF h.ok hl]
 rfl
def A2a (ts:List volume_thing):List Int:=A2d (ts.map Pt)
theorem Wq {t:volume_thing} (h:vT t):(Pt t).length≤(D1 t).length+14:=by
 have hl:=P6 h.ok
 have h9:=Ck (x:=((D1 t).length:Int)) ⟨by omega,by omega⟩
 rw [Int.toNat_natCast] at h9
 unfold Pt Na
 simp only [List.length_append,Ry]
 omega
end Go.Proofs.YtifbomimeodibaaGreat
namespace Go.Proofs.YtifbomimeodibaaGreat
open Go Go.RowKit Go.Eng
set_option maxRecDepth 10000
set_option linter.unusedVariables false
set_option linter.unusedSimpArgs false
theorem Zt {α:Type} [DecidableEq α] {a b:List α} {i:Nat} (ha:i<a.length) (hb:i<b.length):decide (a.drop i=b.drop i)=(decide (a[i]=b[i])&&decide (a.drop (i+1)=b.drop (i+1))):=by
 rw [List.drop_eq_getElem_cons ha,List.drop_eq_getElem_cons hb,Bool.eq_iff_iff,decide_eq_true_eq,List.cons.injEq,Bool.and_eq_true,decide_eq_true_eq,decide_eq_true_eq]
theorem Yi {α:Type} [DecidableEq α] {a b:List α} {i:Nat} (ha:a.length≤i) (hb:b.length≤i):decide (a.drop i=b.drop i)=true:=by
 rw [List.drop_of_length_le ha,List.drop_of_length_le hb];simp
theorem Wc (a b:List Int) (hl:a.length=b.length) (h9:a.length≤1000000000):∀(m i:Nat),a.length-i<m→i≤a.length→G8 a b m i=some (decide (a.drop i=b.drop i)):=by
 intro m
 induction m with
 | zero=>intro i h;omega
 | succ m ih =>
  intro i h hi
  rw [G8,Jz]
  by_cases hb:i<a.length
  ·rw [B3 (dT (by omega)),Ei i a[i] rfl (List.getElem?_eq_getElem hb),Ei i b[i] rfl (List.getElem?_eq_getElem (by omega)),Zt hb (by omega)]
   by_cases he:a[i]=b[i]
   ·rw [B5 (by simp [he]),ckb (by omega)]
    have:=ih (i+1) (by omega) (by omega)
    rw [show ((i:Int)+1)=((i+1:Nat):Int) by omega,this,dT he,Bool.true_and]
   ·rw [B3 (by simp [he]),dF he,Bool.false_and]
  ·rw [B5 (dF (by omega)),K0,Yi (by omega) (by omega)]
theorem Vi {F:Nat} {a b:List Int} (hF:a.length<F) (h9:a.length≤1000000000):Gg F a b=some (decide (a=b)):=by
 rw [Gg]
 by_cases h:a.length=b.length
 ·rw [B5 (by simp [h]),show (0:Int)=((0:Nat):Int) from rfl,Wc a b h h9 F 0 (by omega) (by omega),List.drop_zero,List.drop_zero]
 ·rw [B3 (by simp;omega),dF (fun e=>h (by rw [e]))]
theorem A28 (a b:ByteArray):(a==b)=decide (a=b):=by
 rw [Bool.eq_iff_iff,decide_eq_true_eq]
 cases a with
 | mk x =>
  cases b with
  | mk y =>
   rw [ByteArray.mk.injEq,←beq_iff_eq (a:=x)]
   rfl
theorem A0h (a b:api_Site):((a.Name==b.Name)&&(((a.X:Int)==b.X)&&(((a.Y:Int)==b.Y)&&(((a.Z:Int)==b.Z)&&(((a.Rose:Int)==b.Rose)&&(((a.Gates:Int)==b.Gates)&&(((a.Step:Int)==b.Step)&&(((a.Width:Int)==b.Width)&&true))))))))=decide (a=b):=by
 rw [A28]
 cases a;cases b
 rw [Bool.eq_iff_iff]
 simp [and_assoc]
theorem Zw (a b:api_Grid):(((a.X:Int)==b.X)&&(((a.Y:Int)==b.Y)&&(((a.Size:Int)==b.Size)&&(((a.Wide:Int)==b.Wide)&&(((a.High:Int)==b.High)&&true)))))=decide (a=b):=by
 cases a;cases b
 rw [Bool.eq_iff_iff]
 simp [and_assoc]
end Go.Proofs.YtifbomimeodibaaGreat
namespace Go.Proofs.YtifbomimeodibaaGreat
open Go Go.RowKit Go.Eng
set_option maxRecDepth 10000
set_option linter.unusedVariables false
set_option linter.unusedSimpArgs false
def off (ts:List volume_thing) (i:Nat):Nat:=4+(A2a (ts.take i)).length
end Go.Proofs.YtifbomimeodibaaGreat
namespace Go.Proofs.YtifbomimeodibaaGreat
open Go Go.RowKit Go.Eng
set_option maxRecDepth 10000
set_option linter.unusedVariables false
set_option linter.unusedSimpArgs false
end Go.Proofs.YtifbomimeodibaaGreat
namespace Go.Proofs.YtifbomimeodibaaGreat
open Go Go.RowKit Go.Eng
set_option maxRecDepth 10000
set_option linter.unusedVariables false
set_option linter.unusedSimpArgs false
end Go.Proofs.YtifbomimeodibaaGreat
namespace Go.Proofs.YtifbomimeodibaaGreat
open Go Go.RowKit Go.Eng
set_option maxRecDepth 10000
set_option linter.unusedVariables false
set_option linter.unusedSimpArgs false
def Uq {α:Type} (b:List Int) (bad:Bool) (y:Option (α×ref12_reader)) (o:Option (α×List Int)) (ok:α→Prop):Prop :=
 ∃x r,y=some (x,r)∧r.b <:+ b∧ok x∧((bad=false∧o=some (x,r.b)∧r.bad=false)∨(r.bad=true∧(bad=true∨o=none)))
theorem Uq.ok {α:Type} {r:ref12_reader} {x:α} {ok:α→Prop} (h:ok x):Uq r.b r.bad (some (x,⟨r.b,r.bad⟩)) (some (x,r.b)) ok:=by
 refine ⟨x,⟨r.b,r.bad⟩,rfl,List.suffix_refl _,h,?_⟩
 cases hb:r.bad with
 | true=>exact .inr ⟨rfl,.inl rfl⟩
 | false=>exact .inl ⟨rfl,rfl,rfl⟩
theorem Uq.mono {α:Type} {b:List Int} {bad:Bool} {y:Option (α×ref12_reader)} {o:Option (α×List Int)} {ok ok':α→Prop} (h:Uq b bad y o ok) (hk:∀x,ok x→ok' x):Uq b bad y o ok':=by
 obtain ⟨x,r,h1,h2,h3,h4⟩:=h
 exact ⟨x,r,h1,h2,hk x h3,h4⟩
end Go.Proofs.YtifbomimeodibaaGreat
namespace Go.Proofs.YtifbomimeodibaaGreat
open Go Go.RowKit Go.Eng
set_option maxRecDepth 10000
set_option linter.unusedVariables false
set_option linter.unusedSimpArgs false
end Go.Proofs.YtifbomimeodibaaGreat
namespace Go.Proofs.YtifbomimeodibaaGreat
open Go Go.RowKit Go.Eng
set_option maxRecDepth 10000
set_option linter.unusedVariables false
set_option linter.unusedSimpArgs false
theorem Zs (n b0 b1 b2 b3:Nat) (h:128≤b0):128≤(Lib.decodeN n b0 b1 b2 b3).1:=by
 unfold Lib.decodeN
 repeat' split
 all_goals first|(simp only;omega)|omega
theorem A1a {s:ByteArray} {i:Nat} (h:(s.get! i).toNat<128):Utf8.decode s i=((s.get! i).toNat,1):=by
 rw [Lib.decode_at];unfold Lib.decodeN;rw [if_pos h]
theorem A19 {s:ByteArray} {i:Nat} (h:128≤(s.get! i).toNat):128≤(Utf8.decode s i).1:=by
 rw [Lib.decode_at];exact Zs _ _ _ _ _ h
theorem Yu {x:Nat} (h:128≤x):nmC x=true:=by
 unfold nmC
 have h1:decide (x≤122)=false:=by simp;omega
 have h2:decide (x≤57)=false:=by simp;omega
 have h3:(x==95)=false:=by simp;omega
 rw [h1,h2,h3];simp
theorem T1 (s:ByteArray):∀(f pos:Nat),s.size≤pos+f→(0≤Lib.idxFuncFrom nmC true s f pos↔∃j,pos≤j∧j<s.size∧nmC (s.get! j).toNat=true):=by
 intro f
 induction f with
 | zero =>
  intro pos h
  rw [Lib.idxFuncFrom_end nmC true s 0 pos (by omega)]
  constructor
  ·intro h;omega
  ·rintro ⟨j,h1,h2,_⟩;omega
 | succ f ih =>
  intro pos h
  rw [Lib.idxFuncFrom]
  by_cases hp:pos<s.size
  ·rw [if_pos hp]
   by_cases hb:(s.get! pos).toNat<128
   ·rw [A1a hb]
    simp only
    by_cases hn:nmC (s.get! pos).toNat=true
    ·rw [if_pos hn]
     exact ⟨fun _=>⟨pos,Nat.le_refl _,hp,hn⟩,fun _=>by omega⟩
    ·rw [if_neg hn,ih (pos+1) (by omega)]
     constructor
     ·rintro ⟨j,h1,h2,h3⟩;exact ⟨j,by omega,h2,h3⟩
     ·rintro ⟨j,h1,h2,h3⟩
      refine ⟨j,?_,h2,h3⟩
      rcases Nat.lt_or_ge pos j with h4|h4
      ·omega
      ·obtain rfl:j=pos:=by omega
       exact absurd h3 hn
   ·rw [if_pos (Yu (A19 (by omega)))]
    exact ⟨fun _=>⟨pos,Nat.le_refl _,hp,Yu (by omega)⟩,fun _=>by omega⟩
  ·rw [if_neg hp]
   constructor
   ·intro h;omega
   ·rintro ⟨j,h1,h2,_⟩;omega
theorem X8 {s:ByteArray} {i:Nat} (h:i<s.size):s[i]=s.get! i:=by
 cases s with
 | mk d =>
  show d[i]=d[i]!
  rw [getElem!_pos d i h]
theorem V5 {s:ByteArray} {i:Nat} (h:i<s.size):Pc s i=some (((s.get! i).toNat:Nat):Int):=by
 unfold Pc
 rw [if_pos (by omega),Int.toNat_natCast,getElem!_pos s i h,X8 h]
theorem Xz (s:ByteArray):∀(m i f:Nat),s.size-i<m→i≤s.size→s.size≤1000000→s.size≤i+f→H4 s m i=some (!decide (0≤Lib.idxFuncFrom nmC true s f i)):=by
 intro m
 induction m with
 | zero=>intro i f h;omega
 | succ m ih =>
  intro i f h hi h9 hf
  rw [H4,L5]
  by_cases hb:i<s.size
  ·rw [B3 (dT (by omega)),V5 hb,sb]
   have hx:=UInt8.toNat_lt (s.get! i)
   generalize hu:(s.get! i).toNat=u at *
   have e:(bif (bif (bif (decide (((u:Nat):Int)<97)) then true else (decide (((u:Nat):Int)>122))) then (bif (decide (((u:Nat):Int)<48)) then true else (decide (((u:Nat):Int)>57))) else false) then (((u:Nat):Int) != 95) else false)=nmC u:=by
    unfold nmC
    rw [Bool.eq_iff_iff]
    simp only [cond_eq_ite,Bool.if_true_left,Bool.and_eq_true,Bool.or_eq_true,decide_eq_true_eq,bne_iff_ne,ne_eq,Bool.not_eq_true',Bool.or_eq_false_iff,Bool.and_eq_false_iff,decide_eq_false_iff_not,beq_eq_false_iff_ne,Bool.if_false_right]
    omega
   rw [e]
   by_cases hn:nmC u=true
   ·rw [B3 hn,dT ((T1 s f i hf).2 ⟨i,Nat.le_refl _,hb,by rw [hu];exact hn⟩)];rfl
   ·rw [B5 (by simpa using hn),ckb (by omega),show ((i:Int)+1)=((i+1:Nat):Int) by omega,ih (i+1) f (by omega) (by omega) h9 (by omega)]
    rw [decide_eq_decide.2]
    rw [T1 s f (i+1) (by omega),T1 s f i hf]
    constructor
    ·rintro ⟨j,h1,h2,h3⟩;exact ⟨j,by omega,h2,h3⟩
    ·rintro ⟨j,h1,h2,h3⟩
     refine ⟨j,?_,h2,h3⟩
     rcases Nat.lt_or_ge i j with h4|h4
     ·omega
     ·obtain rfl:j=i:=by omega
      rw [hu] at h3
      exact absurd h3 hn
  ·rw [B5 (dF (by omega)),L6,dF]
   ·rfl
   ·rw [T1 s f i hf]
    rintro ⟨j,h1,h2,_⟩;omega
theorem A0d (s:ByteArray):sEq s ⟨#[]⟩=decide (s.size=0):=by
 unfold sEq
 cases s with
 | mk d =>
  show decide (d.toList=[])=decide (d.size=0)
  rw [decide_eq_decide]
  constructor
  ·intro h;have:=congrArg List.length h;simpa using this
  ·intro h;rw [Array.eq_empty_of_size_eq_zero h]
theorem Vp {F:Nat} (hF:100≤F) (s:ByteArray):Hf F s=some (P9 s):=by
 rw [Hf]
 unfold P9 Yv
 rw [A0d]
 by_cases h1:s.size=0∨s.size>12
 ·have hc:(bif (decide (((s.size:Nat):Int)<1)) then true else (decide (((s.size:Nat):Int)>12)))=true:=by
   rcases h1 with h|h
   ·rw [dT (by omega)];rfl
   ·rw [dT (show ((s.size:Nat):Int)>12 by omega)];cases decide (((s.size:Nat):Int)<1)<;>rfl
  rw [hc,gdF (by rfl),sb,B3 (c:=true) rfl,gdF (by rfl),sb]
  simp only [cond_true]
  rcases h1 with h|h
  ·rw [dT h];rfl
  ·rw [dF (show ¬((s.size:Nat):Int)≤12 by omega)];cases decide (s.size=0)<;>rfl
 ·have hc:(bif (decide (((s.size:Nat):Int)<1)) then true else (decide (((s.size:Nat):Int)>12)))=false:=by
   rw [dF (by omega),dF (by omega)];rfl
  have hg:Pc s 0=some (((s.get! 0).toNat:Nat):Int):=V5 (i:=0) (by omega)
  rw [hc,gdT (by rfl),hg,sb,B5 (c:=false) rfl,dF (show ¬s.size=0 by omega),dT (show ((s.size:Nat):Int)≤12 by omega)]
  rw [Option.getD_some]
  generalize hu:(((s.get! 0).toNat:Nat):Int)=u
  by_cases h2:u<97
  ·rw [dT h2,gdF (by rfl),sb,B3 (c:=true) rfl,B3 (c:=true) rfl,dF (show ¬u≥97 by omega)];rfl
  ·rw [dF h2,gdT (by rfl),sb,B5 (c:=false) rfl,dT (show u≥97 by omega)]
   by_cases h3:u>122
   ·rw [dT h3,B3 (c:=true) rfl,dF (show ¬u≤122 by omega)];rfl
   ·rw [dF h3,B5 (c:=false) rfl,dT (show u≤122 by omega),show (0:Int)=((0:Nat):Int) from rfl,Xz s F 0 s.size (by omega) (by omega) (by omega) (by omega)]
    rfl
theorem A0w (x lo hi:Int):A8 x lo hi=Ah x lo hi:=rfl
theorem A16 (x lo hi:Int):A8 x lo hi=Aq x lo hi:=rfl
theorem Za {F:Nat} (hF:100≤F) (s:api_Site):Gu F s=Ed F s:=by
 rw [Gu,Ed,Vp hF,T5,sb,sb]
 simp only [A0w,Dh,D5]
 cases P9 s.Name<;>cases Ah s.X (-1048576) 1048576<;>cases Ah s.Y (-1048576) 1048576<;>cases Ah s.Z 0 20000<;>cases Ah s.Rose 1 90<;>cases Ah s.Gates 1 200<;>cases Ah s.Step 50 2000<;>cases Ah s.Width 0 8<;>rfl
theorem Ys (g:api_Grid):Cz g=Bk g:=by
 rw [Cz,Bk]
 simp only [A0w,Cq]
 cases Ah g.X (-1048576) 1048576<;>cases Ah g.Y (-1048576) 1048576<;>cases Ah g.Size 1 10000<;>cases Ah g.Wide 1 64<;>cases Ah g.High 1 64<;>rfl
theorem Zi (s:api_Span) (lo hi:Int):Bg s lo hi=Ac s lo hi:=by
 unfold Bg Ac
 have e:decide (s.Lo≥lo)=decide (lo≤s.Lo):=rfl
 rw [e]
 cases decide (s.Lo≤s.Hi)<;>cases decide (lo≤s.Lo)<;>rfl
theorem Zd (F:Nat) (s:api_Span):Hg F s=some (decide (G1 s)):=by
 unfold Hg
 have hw:A8 s.Lo (-32768) 32767=decide (inB s.Lo (-32768) 32767):=Lg
 rw [hw]
 by_cases h:inB s.Lo (-32768) 32767
 ·have h1:=h.1;have h2:=h.2
  rw [dT h,gdT (by rfl),ckb (by omega),gdT (by rfl),ckb (by omega),B3 (c:=true) rfl]
  have:A8 s.Hi s.Lo (s.Lo+65536-1)=decide (inB s.Hi s.Lo (s.Lo+65536-1)):=Lg
  rw [this]
  congr 1
  rw [decide_eq_decide]
  unfold inB G1 at *
  omega
 ·rw [dF h,gdF (by rfl),sb,gdF (by rfl),sb,B5 (c:=false) rfl,dF]
  unfold inB G1 at *
  omega
theorem Yk {F:Nat} (hF:10≤F) (x:api_Echo):Gv F x=El F x:=by
 have ht:=U3 hF (api_Span.mk x.Steps.1.Lo x.Steps.1.Hi) (api_Span.mk x.Steps.2.Lo x.Steps.2.Hi) x.Turn
 rw [Gv,El]
 simp only [Zd,Zi,A16,C8,Cy,ht]
 have e1:decide (x.Power.Lo<1)=!decide (x.Power.Lo>0):=by
  by_cases h:x.Power.Lo<1
  ·rw [dT h,dF (by omega)];rfl
  ·rw [dF h,dT (by omega)];rfl
 have e2:(x.Power.Lo != 0)=!((0:Int)==0&&x.Power.Lo==0):=by simp [bne]
 rw [e1]
 generalize hA:decide (G1 (api_Span.mk x.Steps.1.Lo x.Steps.1.Hi))=A
 generalize hB:decide (G1 (api_Span.mk x.Steps.2.Lo x.Steps.2.Hi))=B
 generalize hC:decide (G1 x.Turn)=C
 have hABC:decide (G1 (api_Span.mk x.Steps.1.Lo x.Steps.1.Hi)∧G1 (api_Span.mk x.Steps.2.Lo x.Steps.2.Hi)∧G1 x.Turn)=(A&&(B&&C)):=by
  rw [←hA,←hB,←hC,Bool.decide_and,Bool.decide_and]
 rw [hABC]
 by_cases h1:x.Kind=1
 ·have k1:(x.Kind==1)=true:=by simp [h1]
  have k1':(x.Kind != 1)=false:=by simp [h1]
  simp only [k1,k1',cond_true,cond_false,Bool.true_and]
  have e5:((x.Power.Hi:Int)==x.Power.Hi)=true:=by simp
  rw [e5]
  have e4:(x.Power.Lo != 0)=!(x.Power.Lo==0):=rfl
  have e6:(x.Spread != 0)=!(x.Spread==0):=rfl
  rw [e4,e6]
  generalize Ac x.Power 0 1073741824=b0
  generalize (x.Power.Lo==0)=b1
  generalize (x.Steps.1.Lo==0)=b2
  generalize (x.Steps.1.Hi==0)=b3
  generalize (x.Steps.2.Lo==0)=b4
  generalize (x.Steps.2.Hi==0)=b5
  generalize (x.Spread==0)=b6
  generalize (x.Ratio.Lo==0)=b7
  generalize (x.Ratio.Hi==0)=b8
  generalize (x.Match.Lo==0)=b9
  generalize (x.Match.Hi==0)=b10
  generalize (x.Turn.Lo==0)=b11
  generalize (x.Turn.Hi==0)=b12
  cases b0
  ·rfl
  cases b1
  ·rfl
  cases b2
  ·rfl
  cases b3
  ·rfl
  cases b4
  ·rfl
  cases b5
  ·rfl
  cases b6
  ·rfl
  cases b7
  ·rfl
  cases b8
  ·rfl
  cases b9
  ·rfl
  cases b10
  ·rfl
  cases b11
  ·rfl
  cases b12<;>rfl
 ·have k1:(x.Kind==1)=false:=by simp [h1]
  have k1':(x.Kind != 1)=true:=by simp [h1]
  simp only [k1,k1',cond_true,cond_false]
  by_cases h2:x.Kind=2
  ·have k2:(x.Kind==2)=true:=by simp [h2]
   have k2':(x.Kind != 2)=false:=by simp [h2]
   simp only [k2,k2',cond_true,cond_false]
   generalize Ac x.Power 0 1073741824=b0
   generalize decide (x.Power.Lo>0)=b1
   generalize Ac x.Ratio 0 1000000=b2
   generalize Ac x.Match 0 1000=b3
   generalize Aq x.Spread 0 65535=b4
   generalize (x.Steps.1.Lo==0)=b5
   generalize (x.Steps.1.Hi==0)=b6
   generalize (x.Steps.2.Lo==0)=b7
   generalize (x.Steps.2.Hi==0)=b8
   generalize (x.Turn.Lo==0)=b9
   generalize (x.Turn.Hi==0)=b10
   cases b0
   ·rfl
   cases b1
   ·rfl
   cases b2
   ·rfl
   cases b3
   ·rfl
   cases b4
   ·rfl
   cases b5
   ·rfl
   cases b6
   ·rfl
   cases b7
   ·rfl
   cases b8
   ·rfl
   cases b9
   ·rfl
   cases b10<;>rfl
  ·have k2:(x.Kind==2)=false:=by simp [h2]
   have k2':(x.Kind != 2)=true:=by simp [h2]
   simp only [k2,k2',cond_true,cond_false]
   by_cases h3:x.Kind=3
   ·have k3:(x.Kind==3)=true:=by simp [h3]
    have k3':(x.Kind != 3)=false:=by simp [h3]
    simp only [k3,k3',cond_true,cond_false]
    generalize Ac x.Power 0 1073741824=b0
    generalize decide (x.Power.Lo>0)=b1
    generalize Ac x.Ratio 0 1000000=b2
    generalize Ac x.Match 0 1000=b3
    generalize Aq x.Spread 0 65535=b4
    cases b0
    ·rfl
    cases b1
    ·rfl
    cases b2
    ·rfl
    cases b3
    ·rfl
    cases b4
    ·rfl
    cases A<;>cases B<;>cases C<;>rfl
   ·have k3:(x.Kind==3)=false:=by simp [h3]
    have k3':(x.Kind != 3)=true:=by simp [h3]
    simp only [k3,k3',cond_true,cond_false]
end Go.Proofs.YtifbomimeodibaaGreat
namespace Go.Proofs.YtifbomimeodibaaGreat
open Go Go.RowKit Go.Eng
set_option maxRecDepth 10000
set_option linter.unusedVariables false
set_option linter.unusedSimpArgs false
theorem Sx {β:Type} {x:Int} {f g:Int→Option β} (h:f x=g x):(ck x).bind f=(ck x).bind g:=by
 unfold ck
 split
 ·exact h
 ·rfl
theorem A0a {F:Nat} (hF:10≤F) (p:api_Sweep) (i:Int) (u:List api_Echo) (hu:C0 p.Rays i=some u) (k k':Int→Option Int) (hk:k (i+1)=k' (i+1)):∀(m:Nat) (j:Int),Dy F p i k m j=C3 F i k' u m j:=by
 intro m
 induction m with
 | zero=>intro j;rfl
 | succ m ih =>
  intro j
  rw [Dy,G4,C3,Es,hu,sb,sb]
  cases decide (j<((u.length:Nat):Int)) with
  | true =>
   simp only [cond_true]
   congr 1;funext x
   rw [Yk hF]
   congr 1;funext y
   cases (y != 0) with
   | true=>rfl
   | false=>simp only [cond_false];congr 1;funext z;exact ih z
  | false =>
   simp only [cond_false,G7,Dw]
   exact Sx hk
theorem Z7 {F:Nat} (hF:10≤F) (p:api_Sweep):∀(m:Nat) (i:Int),0≤i→Dx F p m i=C2 F p m i:=by
 intro m
 induction m with
 | zero=>intro i _;rfl
 | succ m ih =>
  intro i h0
  rw [Dx,G3,C2,Er]
  by_cases hb:i<((p.Rays.length:Nat):Int)
  ·have hu:C0 p.Rays i=some (p.Rays[i.toNat]'(by omega)):=by
    unfold C0
    rw [if_pos h0,List.getElem?_eq_getElem (by omega)]
   rw [B3 (dT hb),B3 (dT hb),hu,sb]
   exact A0a hF p i _ hu _ _ (ih (i+1) (by omega)) F 0
  ·rw [B5 (dF hb),B5 (dF hb)];rfl
theorem Xr {F:Nat} (hF:10≤F) (p:api_Sweep):∀(m:Nat) (i:Int),Dz F p m i=Cp F p m i:=by
 intro m
 induction m with
 | zero=>intro i;rfl
 | succ m ih =>
  intro i
  rw [Dz,G5,Cp,Et]
  cases decide (i<((p.Rays.length:Nat):Int)) with
  | true =>
   simp only [cond_true]
   congr 1;funext u
   cases (((u.length:Nat):Int) != p.Site.Gates) with
   | true=>rfl
   | false=>simp only [cond_false];exact Sx (ih (i+1))
  | false =>
   simp only [cond_false,G6,Eu]
   exact Z7 hF p F 0 (by decide)
theorem Y5 {F:Nat} (hF:100≤F) (p:api_Sweep):Dd F p=Bi F p:=by
 rw [Dd,Bi,Za hF]
 congr 1;funext y
 rw [Xr (by omega)]
 rfl
theorem Zk (p:api_Field) (hi:Int):∀(m:Nat) (i:Int),H5 p hi m i=F1 p hi m i:=by
 intro m
 induction m with
 | zero=>intro i;rfl
 | succ m ih =>
  intro i
  rw [H5,L7,F1,J5]
  cases decide (i<((p.Vals.length:Nat):Int)) with
  | true =>
   simp only [cond_true]
   congr 1;funext u
   have e:(!(Bg u 0 hi))=(bif (bif (decide (u.Lo<0)) then true else (decide (u.Hi<u.Lo))) then true else (decide (u.Hi>hi))):=by
    unfold Bg
    rw [Bool.eq_iff_iff]
    simp only [cond_eq_ite,Bool.if_true_left,Bool.and_eq_true,Bool.or_eq_true,decide_eq_true_eq,Bool.not_eq_true',Bool.if_false_right,Bool.and_eq_false_iff,decide_eq_false_iff_not]
    omega
   rw [e]
   cases (bif (bif (decide (u.Lo<0)) then true else (decide (u.Hi<u.Lo))) then true else (decide (u.Hi>hi))) with
   | true=>rfl
   | false=>simp only [cond_false];exact Sx (ih (i+1))
  | false=>rfl
theorem Xo (F:Nat) (p:api_Field):E5 F p=Ek F p:=by
 rw [E5,Ek,P2,M6,Ys,Zk]
def toR (x:volume_Item):ref12_Item:=⟨x.Kind,x.Name,x.Time,x.Sweep,x.Field,x.Text⟩
theorem A18 {s:ByteArray} {i:Nat} (h:i<s.size):s.data.toList[i]? = some (s[i]):=by
 cases s with
 | mk d =>
  show d.toList[i]? = some d[i]
  rw [Array.getElem?_toList,Array.getElem?_eq_getElem h]
theorem Ye (x:ref12_Item):∀(m i:Nat),Ee x m i=Bu (sby x.Text) m i:=by
 intro m
 induction m with
 | zero=>intro i;rfl
 | succ m ih =>
  intro i
  rw [Ee,K6,Bu,Ef,Kb]
  by_cases hb:i<x.Text.size
  ·rw [B3 (dT (by omega)),B3 (dT (by omega)),V5 hb,sb]
   have hg:C0 (sby x.Text) (i:Int)=some (((x.Text.get! i).toNat:Nat):Int):=by
    unfold C0 sby
    rw [if_pos (by omega),Int.toNat_natCast,List.getElem?_map]
    rw [A18 hb,X8 hb];rfl
   rw [hg,sb]
   generalize (((x.Text.get! i).toNat:Nat):Int)=u
   have hk:=ih (i+1)
   rw [show (((i+1:Nat)):Int)=(i:Int)+1 by omega] at hk
   by_cases h1:u<32
   ·rw [dT h1,gdF (by rfl),sb,B3 (by rfl),B3 (by rfl)]
   ·rw [dF h1,gdT (by rfl),sb]
    by_cases h2:u>126
    ·rw [dT h2,B3 (by rfl),B3 (by rfl)]
    ·rw [dF h2,B5 (by rfl),B5 (by rfl)]
     exact Sx hk
  ·rw [B5 (dF (by omega)),B5 (dF (by omega))];rfl
theorem Wb {α:Type} (o:Option α):(o.bind fun y=>some y)=o:=by cases o<;>rfl
def Mz (F:Nat) (t:volume_thing):Option Int:=(volume_thing.cs t (some (volume_thing.nil_,(2:Int))) (fun z15=>(Bl F z15).bind fun y22=>some ((volume_thing.ic156 z15),y22)) (fun z15=>(B0 F z15).bind fun y28=>some ((volume_thing.ic158 z15),y28)) (fun z15=>(B6 F z15).bind fun y31=>some ((volume_thing.ic160 z15),y31))).bind fun y10=>some y10.2
theorem Wh (F:Nat) (s:volume_sweep):Mz F (.ic156 s)=Bi F s.Sweep:=by
 show ((((Bi F s.Sweep).bind fun y6=>some y6)).bind fun y22=>some ((volume_thing.ic156 s),y22)).bind (fun y10=>some y10.2)=_
 cases Bi F s.Sweep<;>rfl
theorem Wi (F:Nat) (s:volume_field):Mz F (.ic158 s)=B0 F s:=by
 show ((B0 F s).bind fun y22=>some ((volume_thing.ic158 s),y22)).bind (fun y10=>some y10.2)=_
 cases B0 F s<;>rfl
theorem Wj (F:Nat) (s:volume_note):Mz F (.ic160 s)=B6 F s:=by
 show ((B6 F s).bind fun y22=>some ((volume_thing.ic160 s),y22)).bind (fun y10=>some y10.2)=_
 cases B6 F s<;>rfl
theorem A12 (x:Int):(!(A8 x 0 4294967296))=(bif (decide (x<0)) then true else (decide (x>4294967296))):=by
 unfold A8
 rw [Bool.eq_iff_iff]
 simp only [cond_eq_ite,Bool.if_true_left,Bool.and_eq_true,Bool.or_eq_true,decide_eq_true_eq,Bool.not_eq_true',Bool.if_false_right,Bool.and_eq_false_iff,decide_eq_false_iff_not]
 omega
theorem S1 {F:Nat} (hF:100≤F) (x:volume_Item):F2 F (toR x)=Mz F (Co x):=by
 rw [F2,Co]
 show (bif (bif (bif (x.Kind != 1) then (x.Kind != 2) else false) then (x.Kind != 3) else false) then _ else _)=_
 have hs:Bb x.Sweep=(bif (bif (bif ((x.Sweep.Site.Name==ByteArray.empty)&&(((x.Sweep.Site.X:Int)==0)&&(((x.Sweep.Site.Y:Int)==0)&&(((x.Sweep.Site.Z:Int)==0)&&(((x.Sweep.Site.Rose:Int)==0)&&(((x.Sweep.Site.Gates:Int)==0)&&(((x.Sweep.Site.Step:Int)==0)&&(((x.Sweep.Site.Width:Int)==0)&&true)))))))) then (x.Sweep.Tilt==0) else false) then (x.Sweep.Time==0) else false) then (((x.Sweep.Rays.length:Nat):Int)==0) else false):=rfl
 have hf:Bq x.Field=(bif (((x.Field.Grid.X:Int)==0)&&(((x.Field.Grid.Y:Int)==0)&&(((x.Field.Grid.Size:Int)==0)&&(((x.Field.Grid.Wide:Int)==0)&&(((x.Field.Grid.High:Int)==0)&&true))))) then (((x.Field.Vals.length:Nat):Int)==0) else false):=rfl
 have e0:∀s:ByteArray,sEq s ByteArray.empty=sEq s ⟨#[]⟩:=fun _=>rfl
 by_cases h1:x.Kind=1
 ·have k1:(x.Kind==1)=true:=by simp [h1]
  have k1':(x.Kind != 1)=false:=by simp [h1]
  have k2':(x.Kind != 2)=true:=by simp [h1]
  have k3':(x.Kind != 3)=true:=by simp [h1]
  show (bif (bif (bif (x.Kind != 1) then (x.Kind != 2) else false) then (x.Kind != 3) else false) then (some 2) else (bif (bif (bif (bif (bif (x.Kind != 1) then (!(Bb x.Sweep)) else false) then true else (bif (x.Kind != 2) then (bif (!(Bq x.Field)) then true else (!(sEq x.Name (⟨#[]⟩:ByteArray)))) else false)) then true else (bif (x.Kind != 3) then (!(sEq x.Text (⟨#[]⟩:ByteArray))) else false)) then true else (bif (x.Kind==1) then (x.Time != 0) else false)) then (some 2) else (bif (x.Kind==1) then ((Dd F x.Sweep).bind fun y9=>some y9) else _)))=_
  rw [k1,k1',k2',k3']
  simp only [cond_true,cond_false]
  rw [hf]
  show _=Mz F (bif (bif (bif (bif (bif (!(sEq x.Name ⟨#[]⟩)) then true else (x.Time != 0)) then true else (!(sEq x.Text ⟨#[]⟩))) then true else false) then true else (!(bif (((x.Field.Grid.X:Int)==0)&&(((x.Field.Grid.Y:Int)==0)&&(((x.Field.Grid.Size:Int)==0)&&(((x.Field.Grid.Wide:Int)==0)&&(((x.Field.Grid.High:Int)==0)&&true))))) then (((x.Field.Vals.length:Nat):Int)==0) else false))) then (volume_thing.nil_) else (volume_thing.ic156 (volume_sweep.mk x.Sweep)))
  generalize (bif (((x.Field.Grid.X:Int)==0)&&(((x.Field.Grid.Y:Int)==0)&&(((x.Field.Grid.Size:Int)==0)&&(((x.Field.Grid.Wide:Int)==0)&&(((x.Field.Grid.High:Int)==0)&&true))))) then (((x.Field.Vals.length:Nat):Int)==0) else false)=a
  generalize sEq x.Name ⟨#[]⟩=b
  generalize sEq x.Text ⟨#[]⟩=c
  generalize (x.Time != 0)=d
  have hgood:((Bi F x.Sweep).bind fun y9=>some y9)=Mz F (volume_thing.ic156 (volume_sweep.mk x.Sweep)):=by
   rw [Wh,Wb]
  rw [Y5 hF]
  cases a<;>cases b<;>cases c<;>cases d<;>first|exact hgood|rfl
 ·by_cases h2:x.Kind=2
  ·have k1:(x.Kind==1)=false:=by simp [h1]
   have k1':(x.Kind != 1)=true:=by simp [h1]
   have k2:(x.Kind==2)=true:=by simp [h2]
   have k2':(x.Kind != 2)=false:=by simp [h2]
   have k3':(x.Kind != 3)=true:=by simp [h2]
   show (bif (bif (bif (x.Kind != 1) then (x.Kind != 2) else false) then (x.Kind != 3) else false) then (some 2) else (bif (bif (bif (bif (bif (x.Kind != 1) then (!(Bb x.Sweep)) else false) then true else (bif (x.Kind != 2) then (bif (!(Bq x.Field)) then true else (!(sEq x.Name (⟨#[]⟩:ByteArray)))) else false)) then true else (bif (x.Kind != 3) then (!(sEq x.Text (⟨#[]⟩:ByteArray))) else false)) then true else (bif (x.Kind==1) then (x.Time != 0) else false)) then (some 2) else (bif (x.Kind==1) then ((Dd F x.Sweep).bind fun y9=>some y9) else ((gd (((x.Kind==2)==true&&true)) (Hf F x.Name) default).bind fun y10 =>
    bif (bif (x.Kind==2) then (!y10) else false) then (some 10) else (bif (!(A8 x.Time 0 4294967296)) then (some 3) else (bif (x.Kind==2) then ((E5 F x.Field).bind fun y11=>some y11) else _))))))=_
   rw [k1,k1',k2,k2',k3']
   simp only [cond_true,cond_false]
   rw [hs,gdT (by rfl),Vp hF,sb,Xo]
   show _=Mz F (bif (bif (bif (bif (bif (!(sEq x.Name x.Name)) then true else (x.Time != x.Time)) then true else (!(sEq x.Text ⟨#[]⟩))) then true else (!(bif (bif (bif ((x.Sweep.Site.Name==ByteArray.empty)&&(((x.Sweep.Site.X:Int)==0)&&(((x.Sweep.Site.Y:Int)==0)&&(((x.Sweep.Site.Z:Int)==0)&&(((x.Sweep.Site.Rose:Int)==0)&&(((x.Sweep.Site.Gates:Int)==0)&&(((x.Sweep.Site.Step:Int)==0)&&(((x.Sweep.Site.Width:Int)==0)&&true)))))))) then (x.Sweep.Tilt==0) else false) then (x.Sweep.Time==0) else false) then (((x.Sweep.Rays.length:Nat):Int)==0) else false))) then true else false) then (volume_thing.nil_) else (volume_thing.ic158 (volume_field.mk x.Name x.Time x.Field)))
   rw [Px,Rk]
   generalize (bif (bif (bif ((x.Sweep.Site.Name==ByteArray.empty)&&(((x.Sweep.Site.X:Int)==0)&&(((x.Sweep.Site.Y:Int)==0)&&(((x.Sweep.Site.Z:Int)==0)&&(((x.Sweep.Site.Rose:Int)==0)&&(((x.Sweep.Site.Gates:Int)==0)&&(((x.Sweep.Site.Step:Int)==0)&&(((x.Sweep.Site.Width:Int)==0)&&true)))))))) then (x.Sweep.Tilt==0) else false) then (x.Sweep.Time==0) else false) then (((x.Sweep.Rays.length:Nat):Int)==0) else false)=a
   generalize sEq x.Text ⟨#[]⟩=c
   have hgood:(bif (!P9 x.Name) then (some 10) else (bif (!(A8 x.Time 0 4294967296)) then (some 3) else ((Ek F x.Field).bind fun y11=>some y11)))=Mz F (volume_thing.ic158 (volume_field.mk x.Name x.Time x.Field)):=by
    rw [Wi,B0,T5,sb,A12]
   cases a<;>cases c<;>first|exact hgood|rfl
  ·by_cases h3:x.Kind=3
   ·have k1:(x.Kind==1)=false:=by simp [h1]
    have k1':(x.Kind != 1)=true:=by simp [h1]
    have k2:(x.Kind==2)=false:=by simp [h2]
    have k2':(x.Kind != 2)=true:=by simp [h2]
    have k3:(x.Kind==3)=true:=by simp [h3]
    have k3':(x.Kind != 3)=false:=by simp [h3]
    show (bif (bif (bif (x.Kind != 1) then (x.Kind != 2) else false) then (x.Kind != 3) else false) then (some 2) else (bif (bif (bif (bif (bif (x.Kind != 1) then (!(Bb x.Sweep)) else false) then true else (bif (x.Kind != 2) then (bif (!(Bq x.Field)) then true else (!(sEq x.Name (⟨#[]⟩:ByteArray)))) else false)) then true else (bif (x.Kind != 3) then (!(sEq x.Text (⟨#[]⟩:ByteArray))) else false)) then true else (bif (x.Kind==1) then (x.Time != 0) else false)) then (some 2) else (bif (x.Kind==1) then ((Dd F x.Sweep).bind fun y9=>some y9) else ((gd (((x.Kind==2)==true&&true)) (Hf F x.Name) default).bind fun y10 =>
     bif (bif (x.Kind==2) then (!y10) else false) then (some 10) else (bif (!(A8 x.Time 0 4294967296)) then (some 3) else (bif (x.Kind==2) then ((E5 F x.Field).bind fun y11=>some y11) else (bif (decide (((x.Text.size:Nat):Int)>200)) then (some 8) else (Ee (toR x) F 0))))))))=_
    rw [k1,k1',k2,k2',k3,k3']
    simp only [cond_true,cond_false]
    rw [hs,hf,gdF (by rfl),sb]
    show _=Mz F (bif (bif (bif (bif (bif (!(sEq x.Name ⟨#[]⟩)) then true else (x.Time != x.Time)) then true else (!(sEq x.Text x.Text))) then true else (!(bif (bif (bif ((x.Sweep.Site.Name==ByteArray.empty)&&(((x.Sweep.Site.X:Int)==0)&&(((x.Sweep.Site.Y:Int)==0)&&(((x.Sweep.Site.Z:Int)==0)&&(((x.Sweep.Site.Rose:Int)==0)&&(((x.Sweep.Site.Gates:Int)==0)&&(((x.Sweep.Site.Step:Int)==0)&&(((x.Sweep.Site.Width:Int)==0)&&true)))))))) then (x.Sweep.Tilt==0) else false) then (x.Sweep.Time==0) else false) then (((x.Sweep.Rays.length:Nat):Int)==0) else false))) then true else (!(bif (((x.Field.Grid.X:Int)==0)&&(((x.Field.Grid.Y:Int)==0)&&(((x.Field.Grid.Size:Int)==0)&&(((x.Field.Grid.Wide:Int)==0)&&(((x.Field.Grid.High:Int)==0)&&true))))) then (((x.Field.Vals.length:Nat):Int)==0) else false))) then (volume_thing.nil_) else (volume_thing.ic160 (volume_note.mk x.Time x.Text)))
    rw [Px,Rk]
    generalize (bif (bif (bif ((x.Sweep.Site.Name==ByteArray.empty)&&(((x.Sweep.Site.X:Int)==0)&&(((x.Sweep.Site.Y:Int)==0)&&(((x.Sweep.Site.Z:Int)==0)&&(((x.Sweep.Site.Rose:Int)==0)&&(((x.Sweep.Site.Gates:Int)==0)&&(((x.Sweep.Site.Step:Int)==0)&&(((x.Sweep.Site.Width:Int)==0)&&true)))))))) then (x.Sweep.Tilt==0) else false) then (x.Sweep.Time==0) else false) then (((x.Sweep.Rays.length:Nat):Int)==0) else false)=a
    generalize (bif (((x.Field.Grid.X:Int)==0)&&(((x.Field.Grid.Y:Int)==0)&&(((x.Field.Grid.Size:Int)==0)&&(((x.Field.Grid.Wide:Int)==0)&&(((x.Field.Grid.High:Int)==0)&&true))))) then (((x.Field.Vals.length:Nat):Int)==0) else false)=b
    generalize sEq x.Name ⟨#[]⟩=c
    have hgood:(bif (!(A8 x.Time 0 4294967296)) then (some 3) else (bif (decide (((x.Text.size:Nat):Int)>200)) then (some 8) else (Ee (toR x) F 0)))=Mz F (volume_thing.ic160 (volume_note.mk x.Time x.Text)):=by
     rw [Wj,B6,A12]
     show (bif _ then _ else _)=(bif (bif (decide (x.Time<0)) then true else (decide (x.Time>4294967296))) then _ else _)
     congr 1
     by_cases hz:((x.Text.size:Nat):Int)>200
     ·rw [B3 (dT hz)]
      show _=(bif (decide (((x.Text.size:Nat):Int)>200)) then _ else _)
      rw [B3 (dT hz)]
     ·have h2b:s2b x.Text=some (sby x.Text):=by unfold s2b;rw [if_pos (by omega)]
      rw [B5 (dF hz)]
      show _=(bif (decide (((x.Text.size:Nat):Int)>200)) then _ else (s2b x.Text).bind fun l15=>Bu l15 F 0)
      rw [B5 (dF hz),h2b,sb]
      exact Ye (toR x) F 0
    cases a<;>cases b<;>cases c<;>first|exact hgood|rfl
   ·have k1:(x.Kind==1)=false:=by simp [h1]
    have k1':(x.Kind != 1)=true:=by simp [h1]
    have k2:(x.Kind==2)=false:=by simp [h2]
    have k2':(x.Kind != 2)=true:=by simp [h2]
    have k3:(x.Kind==3)=false:=by simp [h3]
    have k3':(x.Kind != 3)=true:=by simp [h3]
    rw [k1',k2',k3',k1,k2,k3]
    rfl
end Go.Proofs.YtifbomimeodibaaGreat
namespace Go.Proofs.YtifbomimeodibaaGreat
open Go Go.RowKit Go.Eng
set_option maxRecDepth 10000
set_option linter.unusedVariables false
set_option linter.unusedSimpArgs false
theorem Zf (F:Nat) (hF:10≤F) (c:Nat) (hc:c<2147483647):Ey F c [] 0=some (Y4 c):=by
 obtain ⟨G,rfl⟩:∃G,F=G+6:=⟨F-6,by omega⟩
 have step:∀(m i d:Nat) (l:List Int),i<4→l.length=i→d<2147483647→Ey (m+1) d l i=Ey m (d/127:Nat) (l++[128+((d%127:Nat):Int)]) (i+1:Nat):=by
  intro m i d l hi hl hd
  rw [Ey,Ka,B3 (dT (by omega)),(tdm d).1,sb]
  have:=Nat.mod_lt d (show 0<127 by decide)
  rw [ckb (by omega),Kl (by simp;omega) (by decide),(tdm d).2,ckb (by omega),ckb (by omega),So (by omega)]
  rfl
 rw [show (0:Int)=((0:Nat):Int) from rfl,step (G+5) 0 c _ (by decide) (by simp) hc,step (G+4) 1 _ _ (by decide) (by simp) (by omega),step (G+3) 2 _ _ (by decide) (by simp) (by omega),step (G+2) 3 _ _ (by decide) (by simp) (by omega)]
 rw [Ey,Ka,B5 (dF (by decide)),Lv]
 have h5:c/127/127/127/127<127:=by omega
 have h6:c/127/127/127/127%127=c/127/127/127/127:=Nat.mod_eq_of_lt h5
 rw [ckb (by omega),Kl (by simp) (by decide),So (by omega)]
 unfold Y4
 rw [h6]
 rfl
theorem Zg (F:Nat) (hF:10≤F) (p:List Int) (hp:By p) (hpl:p.length≤1000000000):∀(m i c:Nat),p.length-i<m→i≤p.length→c<2147483647→J0 F p m c i=some (Y4 (A0k c (p.drop i))):=by
 intro m
 induction m with
 | zero=>intro i c h;omega
 | succ m ih =>
  intro i c h hi hc
  rw [J0,Lt]
  by_cases hb:i<p.length
  ·have hx:=hp p[i] (List.getElem_mem hb)
   rw [B3 (dT (by omega)),ckb (by omega),Ei i p[i] rfl (List.getElem?_eq_getElem hb),ckb (by omega),ckb (by omega)]
   have e:Qm (31*(c:Int)+p[i]) 2147483647=some (((31*c+p[i].toNat)%2147483647:Nat):Int):=by
    have e1:31*(c:Int)+p[i]=((31*c+p[i].toNat:Nat):Int):=by omega
    rw [e1]
    unfold Qm
    rw [if_neg (by decide)]
    congr 1
   rw [e,sb,ckb (by omega)]
   have:=ih (i+1) _ (by omega) (by omega) (Nat.mod_lt (31*c+p[i].toNat) (show 0<2147483647 by decide))
   rw [show ((i:Int)+1)=((i+1:Nat):Int) by omega,this,List.drop_eq_getElem_cons hb]
   rfl
  ·rw [B5 (dF (by omega)),Lu,List.drop_of_length_le (by omega)]
   exact Zf F hF c hc
theorem A0o {F:Nat} (hF:10≤F) {p:List Int} (hp:By p) (hl:p.length<F) (hl9:p.length≤1000000000):M4 F p=some (A0j p):=by
 rw [M4]
 exact Zg F hF p hp hl9 F 0 1 (by omega) (by omega) (by decide)
def zR:ref12_Item:=⟨0,ByteArray.empty,0,⟨⟨ByteArray.empty,0,0,0,0,0,0,0⟩,0,0,[]⟩,⟨⟨0,0,0,0,0⟩,[]⟩,ByteArray.empty⟩
noncomputable def fin:Option (volume_thing×List Int)→ref12_Item×Bool
 | none=>(zR,false)
 | some (t,r)=>if vT t∧r=[] then (toR (Jm t),true) else (zR,false)
theorem A21 {F:Nat} (hF:5000≤F) {t:volume_thing} (ht:t≠.nil_):∃e,F2 F (toR (Jm t))=some e∧(e=0↔vT t):=by
 obtain ⟨e,h1,h2⟩:=Tb hF ht
 refine ⟨e,?_,h2⟩
 rw [S1 (by omega),Xd ht,←h1]
 cases t with
 | nil_=>exact absurd rfl ht
 | ic156 s=>rw [Wh];show _=(Bi F s.Sweep).bind fun y=>some y;rw [Wb]
 | ic158 s=>rw [Wi];rfl
 | ic160 s=>rw [Wj];rfl
end Go.Proofs.YtifbomimeodibaaGreat
namespace Go.Proofs.YtifbomimeodibaaGreat
open Go Go.RowKit Go.Eng
set_option maxRecDepth 10000
set_option linter.unusedVariables false
set_option linter.unusedSimpArgs false
end Go.Proofs.YtifbomimeodibaaGreat
namespace Go.Proofs.YtifbomimeodibaaGreat
open Go Go.RowKit Go.Eng
set_option maxRecDepth 10000
set_option linter.unusedVariables false
set_option linter.unusedSimpArgs false
noncomputable def cap (x:List volume_Item×Int×Int):List volume_Item×Int×Int:=if x.1.length>1000 then ([],0,9) else x
theorem Xw (l:List volume_Item) (h9:l.length≤1000000):∀(m i:Nat) (acc:List volume_Item),l.length-i<m→i≤l.length→acc.length=i→H3 (l.map toR) m acc i=some (acc++l.drop i):=by
 intro m
 induction m with
 | zero=>intro i acc h;omega
 | succ m ih =>
  intro i acc h hi ha
  rw [H3,L3,List.length_map]
  by_cases hb:i<l.length
  ·rw [B3 (dT (by omega)),Ei i (toR l[i]) rfl (by rw [List.getElem?_map,List.getElem?_eq_getElem hb];rfl),Kl (by simp;omega) (by decide),ckb (by omega),show ((i:Int)+1)=((i+1:Nat):Int) by omega]
   have:=ih (i+1) (acc++[l[i]]) (by omega) (by omega) (by simp;omega)
   refine Eq.trans this ?_
   rw [List.drop_eq_getElem_cons hb,List.append_assoc];rfl
  ·rw [B5 (dF (by omega)),L4,List.drop_of_length_le (by omega),List.append_nil]
theorem A02 {F:Nat} {l:List volume_Item} (hF:l.length<F) (h9:l.length≤1000000):Ma F (l.map toR)=some l:=by
 rw [Ma,show (0:Int)=((0:Nat):Int) from rfl,Xw l h9 F 0 [] (by omega) (by omega) rfl];rfl
end Go.Proofs.YtifbomimeodibaaGreat
namespace Go.Proofs.YtifbomimeodibaaGreat
open Go Go.RowKit Go.Eng
set_option maxRecDepth 10000
set_option linter.unusedVariables false
set_option linter.unusedSimpArgs false
theorem A0n:∀(F k n:Nat),n<127 ^ (k+1)→k<F→k<10→n≤4611686018427387904→Am F (n:Int)=some (E6 n):=by
 intro F
 induction F with
 | zero=>intro k n _ h;omega
 | succ F ih =>
  intro k n hn hk h10 h9
  rw [Am,K8]
  by_cases h:n<127
  ·rw [B3 (dT (by omega)),ckb (by omega),So (by omega),Rt h,show (1:Int)+(n:Int)=(n:Int)+1 by omega]
  ·have hm:=Nat.mod_lt n (show 0<127 by decide)
   obtain ⟨k,rfl⟩:∃j,k=j+1:=by
    cases k with
    | zero=>simp at hn;omega
    | succ j=>exact ⟨j,rfl⟩
   have hd:n/127<127 ^ (k+1):=by
    rw [Nat.pow_succ] at hn
    exact Nat.div_lt_of_lt_mul (by rw [Nat.mul_comm];exact hn)
   have hlen:=Vq k (n/127) hd
   rw [B5 (dF (by omega)),(tdm n).1,sb,ckb (by omega),(tdm n).2,ckb (by omega),ih k (n/127) hd (by omega) (by omega) (by omega),sb,Kl (by simp;omega) (by decide),So (by omega),T6 (n:=n) (by omega)]
   rfl
theorem Ep {F:Nat} (hF:20≤F) {x:Int} (h:okN x):Am F x=some (E6 x.toNat):=by
 obtain ⟨h0,h1⟩:=h
 have e:x=((x.toNat:Nat):Int):=by omega
 have hp:(127:Nat) ^ (8+1)=8594754748609397887:=by decide
 have:=A0n F 8 x.toNat (by rw [hp];omega) (by omega) (by decide) (by omega)
 rw [←e] at this
 exact this
theorem U4 {F:Nat} (hF:20≤F) {x:Int} (h:okZ x):Cn F x=some (E6 (zig x)):=by
 have hz:=U7 h
 obtain ⟨h0,h1⟩:=h
 rw [Cn]
 unfold zig at hz ⊢
 by_cases hx:x<0
 ·rw [if_pos hx] at hz ⊢
  rw [B3 (dT hx),ckb (by omega),ckb (by omega)]
  have e:(((-2*x-1).toNat:Nat):Int)=-2*x-1:=by omega
  rw [e] at hz
  rw [Ep hF hz,sb]
 ·rw [if_neg hx] at hz ⊢
  rw [B5 (dF hx),ckb (by omega)]
  have e:(((2*x).toNat:Nat):Int)=2*x:=by omega
  rw [e] at hz
  rw [Ep hF hz,sb]
theorem Wu {F:Nat} (hF:20≤F) {s:ByteArray} (h:s.size≤1000000):H7 F s=some (Jx s):=by
 have hk:okN ((s.size:Nat):Int):=⟨by omega,by omega⟩
 have h9:=Ck hk
 rw [Int.toNat_natCast] at h9
 have h2b:s2b s=some (sby s):=by unfold s2b;rw [if_pos (by omega)]
 have:=Kb s
 rw [H7,Ep hF hk,sb,Int.toNat_natCast,h2b,sb,Kl (by omega) (by decide)]
 rfl
theorem P7 {F:Nat} (hF:20≤F) {s:api_Span} (h:okS s):Eo F s=some (Hp s):=by
 obtain ⟨h0,h1,h2⟩:=h
 have hz:okZ s.Lo:=⟨by omega,by omega⟩
 have hn:okN (s.Hi-s.Lo):=⟨by omega,by omega⟩
 have a1:=Ck (U7 hz)
 rw [Int.toNat_natCast] at a1
 have a2:=Ck hn
 rw [Eo,ckb (by omega),U4 hF hz,sb,Ep hF hn,sb,Kl (by omega) (by decide)]
 rfl
theorem Xv (ls:List (List Int)):∀(m i:Nat) (acc:List Int),ls.length-i<m→i≤ls.length→ls.length≤1000→acc.length+(ls.drop i).flatten.length≤1000000000000→Fj ls m acc i=some (acc++(ls.drop i).flatten):=by
 intro m
 induction m with
 | zero=>intro i acc h;omega
 | succ m ih =>
  intro i acc h hi hn ha
  rw [Fj,Jh]
  by_cases hb:i<ls.length
  ·rw [List.drop_eq_getElem_cons hb,List.flatten_cons,List.length_append] at ha
   rw [B3 (dT (by omega)),Ei i ls[i] rfl (List.getElem?_eq_getElem hb),Kl (by omega) (by decide),ckb (by omega),show ((i:Int)+1)=((i+1:Nat):Int) by omega]
   refine Eq.trans (ih (i+1) _ (by omega) (by omega) hn (by simp only [List.length_append];omega)) ?_
   rw [List.drop_eq_getElem_cons hb,List.flatten_cons,List.append_assoc]
  ·rw [B5 (dF (by omega)),Ji,List.drop_of_length_le (by omega)];simp
theorem Rz {F:Nat} {ls:List (List Int)} (hF:1000<F) (hn:ls.length≤1000) (ha:ls.flatten.length≤1000000000000):D8 F ls=some ls.flatten:=by
 rw [D8,show (0:Int)=((0:Nat):Int) from rfl,Xv ls F 0 [] (by omega) (by omega) hn (by simpa using ha)]
 simp
theorem A0m {F:Nat} (hF:2000≤F) {x:api_Echo} (h:okE x):Ky F x=some (J2 x):=by
 obtain ⟨hk,hh,hs,h1,h2,h3,h4,h5,h6⟩:=h
 have l1:=Cw h1
 have l2:=Cw h2
 have l3:=Cw h3
 have l4:=Cw h4
 have l5:=Cw h5
 have l6:=Cw h6
 have lk:=Ck hk
 have lh:=Ck hh
 have ls:=Ck hs
 rw [Ky,Ep (by omega) hk,sb]
 unfold J2
 by_cases hk1:x.Kind=1
 ·rw [B3 (by simp [hk1]),Ep (by omega) hh,sb,Kl (by omega) (by decide),if_pos hk1]
 ·rw [B5 (by simp [hk1]),P7 (by omega) h1,sb,P7 (by omega) h2,sb,P7 (by omega) h3,sb,Ep (by omega) hs,sb,Rz (by omega) (by simp) (by simp;omega),sb,Kl (by simp;omega) (by decide),if_neg hk1]
  by_cases hk3:x.Kind=3
  ·have e4:(⟨x.Steps.1.Lo,x.Steps.1.Hi⟩:api_Span)=x.Steps.1:=rfl
   have e5:(⟨x.Steps.2.Lo,x.Steps.2.Hi⟩:api_Span)=x.Steps.2:=rfl
   rw [B3 (by simp [hk3]),e4,e5,P7 (by omega) h4,sb,P7 (by omega) h5,sb,P7 (by omega) h6,sb,Rz (by omega) (by simp) (by simp;omega),sb,Kl (by simp;omega) (by decide),if_pos hk3]
   simp
  ·rw [B5 (by simp [hk3]),if_neg hk3]
   simp
theorem W6 (F:Nat) (p:List api_Span) (b:api_Span) (w:List Int) (i:Nat) (k2:Int→Int→List Int→Int→Option (List Int)) (hl:p.length≤1000000000) (hi:i≤p.length):∀(m j:Nat),j≤D0 b (p.drop i)→D0 b (p.drop i)-j<m →
  Gf F p b.Lo b.Hi w i k2 m j=Hm F p b.Lo b.Hi w i k2 (D0 b (p.drop i):Nat):=by
 intro m
 have hle:=N3 b (p.drop i)
 rw [List.length_drop] at hle
 induction m with
 | zero=>intro j _ h;omega
 | succ m ih =>
  intro j hj hm
  rw [Gf,K9,ckb (by omega)]
  by_cases hb:j<D0 b (p.drop i)
  ·have hx:=T4 hb
   rw [List.getElem?_drop] at hx
   rw [gdT (gdt (dT (by omega))),ckb (by omega),gdT (gdt (dT (by omega))),Ei (i+j) b (by omega) hx,T8 b b,B3 (x:=decide (b=b)) (dT (by omega)),B3 (dT rfl),ckb (by omega)]
   exact ih (j+1) (by omega) (by omega)
  ·have he:j=D0 b (p.drop i):=by omega
   subst he
   by_cases hc:i+D0 b (p.drop i)<p.length
   ·have hg:=List.getElem?_eq_getElem hc
    have hg2:(p.drop i)[D0 b (p.drop i)]? = some p[i+D0 b (p.drop i)]:=by rw [List.getElem?_drop];exact hg
    rw [gdT (gdt (dT (by omega))),ckb (by omega),gdT (gdt (dT (by omega))),Ei _ _ (by omega) hg,T8 _ b,B3 (x:=decide (p[i+D0 b (p.drop i)]=b)) (dT (by omega)),B5 (dF (T3 hg2))]
   ·rw [gdF (gdf (dF (by omega))),sb,gdF (gdf (dF (by omega))),sb,B5 (B5 (dF (by omega)))]
theorem Y7 (F:Nat) (hF:2000≤F) (p:List api_Span) (hlF:p.length<F) (hl9:p.length≤1000000000) (hok:∀x∈p,okS x):∀(m i:Nat) (b:api_Span) (w:List Int),p.length-i<m→i≤p.length→w.length+200*(p.length-i)≤999999900000 →
  F5 F p m b.Lo b.Hi w i=some (w++Jo Hp b 0 (p.drop i)):=by
 intro m
 induction m with
 | zero=>intro i b w h;omega
 | succ m ih =>
  intro i b w h hi hw
  rw [F5,Hk]
  by_cases hb:i<p.length
  ·have hle:=N3 b (p.drop i)
   rw [List.length_drop] at hle
   have hk:okN ((D0 b (p.drop i):Nat):Int):=⟨by omega,by omega⟩
   have h9:=Ck hk
   rw [Int.toNat_natCast] at h9
   have hne:p.drop i≠[]:=by intro e;have:=congrArg List.length e;simp at this;omega
   rw [B3 (dT (by omega)),show (0:Int)=((0:Nat):Int) from rfl,W6 F p b w i _ hl9 hi F 0 (by omega) (by omega),Hm,Ep (by omega) hk,sb,Int.toNat_natCast,Kl (by omega) (by decide),ckb (by omega),Qg Hp b 0 (p.drop i) (.inr hne)]
   cases hd:(p.drop i).drop (D0 b (p.drop i)) with
   | nil =>
    have hlen:i+D0 b (p.drop i)=p.length:=by
     have:=congrArg List.length hd
     rw [List.length_drop,List.length_drop] at this
     simp at this
     omega
    obtain ⟨m,rfl⟩:∃k,m=k+1:=⟨m-1,by omega⟩
    rw [B5 (dF (by omega)),F5,Hk,B5 (dF (by omega)),Hl]
    simp
   | cons y r =>
    obtain ⟨hg,hn,hr,hrl,hy⟩:=Q8 hd
    rw [List.length_drop] at hn hrl
    rw [List.getElem?_drop] at hg
    have hy2:y∈p:=List.mem_of_mem_drop hy
    have hyl:=Cw (hok y hy2)
    rw [B3 (dT (by omega)),Ei (i+D0 b (p.drop i)) y (by omega) hg]
    rw [show (Eo F y)=some (Hp y) from P7 (by omega) (hok y hy2),sb,Kl (by simp;omega) (by decide),Ei (i+D0 b (p.drop i)) y (by omega) hg,ckb (by omega),show ((i:Int)+((D0 b (p.drop i):Nat):Int)+1)=((i+D0 b (p.drop i)+1:Nat):Int) by omega]
    have e2:r=p.drop (i+D0 b (p.drop i)+1):=by rw [hr,List.drop_drop];congr 1
    rw [e2]
    refine Eq.trans (ih (i+D0 b (p.drop i)+1) y _ (by omega) (by omega) (by simp;omega)) ?_
    simp
  ·rw [B5 (dF (by omega)),Hl,List.drop_of_length_le (by omega)];simp [Jo]
theorem Y6 {F:Nat} (hF:2000≤F) {p:List api_Span} (hlF:p.length<F) (hl9:p.length≤1000000000) (hok:∀x∈p,okS x):Jv F p=some (Jo Hp ⟨0,0⟩ 0 p):=by
 have:Jv F p=some ([]++Jo Hp ⟨0,0⟩ 0 (p.drop 0)):=Y7 F hF p hlF hl9 hok F 0 ⟨0,0⟩ [] (by omega) (by omega) (by simp;omega)
 simpa using this
theorem Ve (F:Nat) (p:List api_Echo) (b:api_Echo) (w:List Int) (i:Nat) (k2:Int→Int→Int→Int→Int→Int→Int→Int→Int→Int→Int→Int→Int→Int→List Int→Int→Option (List Int)) (hl:p.length≤1000000000) (hi:i≤p.length):∀(m j:Nat),j≤D0 b (p.drop i)→D0 b (p.drop i)-j<m →
  Fi F p b.Kind b.Power.Lo b.Match.Lo b.Match.Hi b.Turn.Lo b.Turn.Hi b.Power.Hi b.Steps.1.Lo b.Steps.1.Hi b.Steps.2.Lo b.Steps.2.Hi b.Spread b.Ratio.Lo b.Ratio.Hi w i k2 m j=Gy F p b.Kind b.Power.Lo b.Match.Lo b.Match.Hi b.Turn.Lo b.Turn.Hi b.Power.Hi b.Steps.1.Lo b.Steps.1.Hi b.Steps.2.Lo b.Steps.2.Hi b.Spread b.Ratio.Lo b.Ratio.Hi w i k2 (D0 b (p.drop i):Nat):=by
 intro m
 have hle:=N3 b (p.drop i)
 rw [List.length_drop] at hle
 induction m with
 | zero=>intro j _ h;omega
 | succ m ih =>
  intro j hj hm
  rw [Fi,Jg,ckb (by omega)]
  by_cases hb:j<D0 b (p.drop i)
  ·have hx:=T4 hb
   rw [List.getElem?_drop] at hx
   rw [gdT (gdt (dT (by omega))),ckb (by omega),gdT (gdt (dT (by omega))),Ei (i+j) b (by omega) hx,Sz b b,B3 (x:=decide (b=b)) (dT (by omega)),B3 (dT rfl),ckb (by omega)]
   exact ih (j+1) (by omega) (by omega)
  ·have he:j=D0 b (p.drop i):=by omega
   subst he
   by_cases hc:i+D0 b (p.drop i)<p.length
   ·have hg:=List.getElem?_eq_getElem hc
    have hg2:(p.drop i)[D0 b (p.drop i)]? = some p[i+D0 b (p.drop i)]:=by rw [List.getElem?_drop];exact hg
    rw [gdT (gdt (dT (by omega))),ckb (by omega),gdT (gdt (dT (by omega))),Ei _ _ (by omega) hg,Sz _ b,B3 (x:=decide (p[i+D0 b (p.drop i)]=b)) (dT (by omega)),B5 (dF (T3 hg2))]
   ·rw [gdF (gdf (dF (by omega))),sb,gdF (gdf (dF (by omega))),sb,B5 (B5 (dF (by omega)))]
theorem Ww (F:Nat) (hF:2000≤F) (p:List api_Echo) (hlF:p.length<F) (hl9:p.length≤1000000000) (hok:∀x∈p,okE x):∀(m i:Nat) (b:api_Echo) (w:List Int),p.length-i<m→i≤p.length→w.length+200*(p.length-i)≤999999900000 →
  Em F p m b.Kind b.Power.Lo b.Match.Lo b.Match.Hi b.Turn.Lo b.Turn.Hi b.Power.Hi b.Steps.1.Lo b.Steps.1.Hi b.Steps.2.Lo b.Steps.2.Hi b.Spread b.Ratio.Lo b.Ratio.Hi w i=some (w++Jo J2 b 0 (p.drop i)):=by
 intro m
 induction m with
 | zero=>intro i b w h;omega
 | succ m ih =>
  intro i b w h hi hw
  rw [Em,Gw]
  by_cases hb:i<p.length
  ·have hle:=N3 b (p.drop i)
   rw [List.length_drop] at hle
   have hk:okN ((D0 b (p.drop i):Nat):Int):=⟨by omega,by omega⟩
   have h9:=Ck hk
   rw [Int.toNat_natCast] at h9
   have hne:p.drop i≠[]:=by intro e;have:=congrArg List.length e;simp at this;omega
   rw [B3 (dT (by omega)),show (0:Int)=((0:Nat):Int) from rfl,Ve F p b w i _ hl9 hi F 0 (by omega) (by omega),Gy,Ep (by omega) hk,sb,Int.toNat_natCast,Kl (by omega) (by decide),ckb (by omega),Qg J2 b 0 (p.drop i) (.inr hne)]
   cases hd:(p.drop i).drop (D0 b (p.drop i)) with
   | nil =>
    have hlen:i+D0 b (p.drop i)=p.length:=by
     have:=congrArg List.length hd
     rw [List.length_drop,List.length_drop] at this
     simp at this
     omega
    obtain ⟨m,rfl⟩:∃k,m=k+1:=⟨m-1,by omega⟩
    rw [B5 (dF (by omega)),Em,Gw,B5 (dF (by omega)),Gx]
    simp
   | cons y r =>
    obtain ⟨hg,hn,hr,hrl,hy⟩:=Q8 hd
    rw [List.length_drop] at hn hrl
    rw [List.getElem?_drop] at hg
    have hy2:y∈p:=List.mem_of_mem_drop hy
    have hyl:=S3 (hok y hy2)
    rw [B3 (dT (by omega)),Ei (i+D0 b (p.drop i)) y (by omega) hg]
    rw [show (Ky F (api_Echo.mk y.Kind y.Power ((api_Span.mk y.Steps.1.Lo y.Steps.1.Hi),(api_Span.mk y.Steps.2.Lo y.Steps.2.Hi)) y.Spread y.Ratio y.Match y.Turn))=some (J2 y) from A0m (by omega) (hok y hy2),sb,Kl (by simp;omega) (by decide),Ei (i+D0 b (p.drop i)) y (by omega) hg,ckb (by omega),show ((i:Int)+((D0 b (p.drop i):Nat):Int)+1)=((i+D0 b (p.drop i)+1:Nat):Int) by omega]
    have e2:r=p.drop (i+D0 b (p.drop i)+1):=by rw [hr,List.drop_drop];congr 1
    rw [e2]
    refine Eq.trans (ih (i+D0 b (p.drop i)+1) y _ (by omega) (by omega) (by simp;omega)) ?_
    simp
  ·rw [B5 (dF (by omega)),Gx,List.drop_of_length_le (by omega)];simp [Jo]
theorem Wv {F:Nat} (hF:2000≤F) {p:List api_Echo} (hlF:p.length<F) (hl9:p.length≤1000000000) (hok:∀x∈p,okE x):Hw F p=some (Jo J2 e0 0 p):=by
 have:Hw F p=some ([]++Jo J2 e0 0 (p.drop 0)):=Ww F hF p hlF hl9 hok F 0 e0 [] (by omega) (by omega) (by simp;omega)
 simpa using this
end Go.Proofs.YtifbomimeodibaaGreat
namespace Go.Proofs.YtifbomimeodibaaGreat
open Go Go.RowKit Go.Eng
set_option maxRecDepth 10000
set_option linter.unusedVariables false
set_option linter.unusedSimpArgs false
theorem A0l (F:Nat) (x:ref12_Item) (h9:x.Sweep.Rays.length≤1000) (hfl:x.Sweep.Rays.flatten.length≤100000):∀(m i:Nat) (acc:List api_Echo),x.Sweep.Rays.length-i<m→i≤x.Sweep.Rays.length→acc++(x.Sweep.Rays.drop i).flatten=x.Sweep.Rays.flatten →
  Fy F x m acc i=H6 F x x.Sweep.Rays.flatten:=by
 intro m
 induction m with
 | zero=>intro i acc h;omega
 | succ m ih =>
  intro i acc h hi ha
  rw [Fy,L8]
  have hal:=congrArg List.length ha
  rw [List.length_append] at hal
  by_cases hb:i<x.Sweep.Rays.length
  ·have hd:=List.drop_eq_getElem_cons hb
   rw [hd,List.flatten_cons,List.length_append] at hal
   rw [B3 (dT (by omega)),Ei i x.Sweep.Rays[i] rfl (List.getElem?_eq_getElem hb),Kl (by omega) (by decide),ckb (by omega),show ((i:Int)+1)=((i+1:Nat):Int) by omega]
   exact ih (i+1) _ (by omega) (by omega) (by rw [←ha,hd,List.flatten_cons,List.append_assoc])
  ·rw [B5 (dF (by omega))]
   rw [List.drop_of_length_le (by omega)] at ha
   simp at ha
   rw [ha]
theorem Ze {F:Nat} (hF:200000≤F) {t:volume_thing} (h:okT t):Jn F (toR (Jm t))=some (D1 t):=by
 have hlen:=P6 h
 cases t with
 | nil_=>exact h.elim
 | ic156 s =>
  obtain ⟨⟨a1,a2,a3,a4,a5,a6,a7,a8⟩,h2,h3,h4,h5,h6⟩:=(show Qf s.Sweep from h)
  have e:([E6 (1:Int).toNat,Jx s.Sweep.Site.Name,E6 (zig s.Sweep.Site.X),E6 (zig s.Sweep.Site.Y),E6 s.Sweep.Site.Z.toNat,E6 s.Sweep.Site.Rose.toNat,E6 s.Sweep.Site.Gates.toNat,E6 s.Sweep.Site.Step.toNat,E6 s.Sweep.Site.Width.toNat,E6 s.Sweep.Tilt.toNat,E6 s.Sweep.Time.toNat,Jo J2 e0 0 s.Sweep.Rays.flatten]:List (List Int)).flatten=D1 (.ic156 s):=by
   show _=Re s.Sweep
   simp [Re,Fp,Ro,List.append_assoc]
  have hloop:=A0l F (toR (Jm (.ic156 s))) h4 h5 F 0 [] (by show s.Sweep.Rays.length-0<F;omega) (Nat.zero_le _) (by simp)
  rw [Jn]
  show (bif ((1:Int)==1) then Fy F (toR (Jm (.ic156 s))) F [] ((0:Nat):Int) else _)=_
  rw [B3 (by rfl),hloop]
  show H6 F (toR (Jm (.ic156 s))) s.Sweep.Rays.flatten=_
  rw [H6]
  show ((Am F 1).bind fun y486=>(H7 F s.Sweep.Site.Name).bind fun y490=>(Cn F s.Sweep.Site.X).bind fun y494=>(Cn F s.Sweep.Site.Y).bind fun y498=>(Am F s.Sweep.Site.Z).bind fun y502=>(Am F s.Sweep.Site.Rose).bind fun y506=>(Am F s.Sweep.Site.Gates).bind fun y510=>(Am F s.Sweep.Site.Step).bind fun y514=>(Am F s.Sweep.Site.Width).bind fun y518=>(Am F s.Sweep.Tilt).bind fun y522=>(Am F s.Sweep.Time).bind fun y526=>(Hw F s.Sweep.Rays.flatten).bind fun y597=>(D8 F ([y486,y490,y494,y498,y502,y506,y510,y514,y518,y522,y526,y597])).bind fun y651=>some y651)=_
  rw [Ep (by omega) ⟨by decide,by decide⟩,sb,Wu (by omega) (by omega),sb,U4 (by omega) a2,sb,U4 (by omega) a3,sb,Ep (by omega) a4,sb,Ep (by omega) a5,sb,Ep (by omega) a6,sb,Ep (by omega) a7,sb,Ep (by omega) a8,sb,Ep (by omega) h2,sb,Ep (by omega) h3,sb,
   Wv (by omega) (by omega) (by omega) (fun x hx=>by obtain ⟨r,hr,hx⟩:=List.mem_flatten.1 hx;exact h6 r hr x hx),sb,Rz (by omega) (by simp) (by rw [e];omega),sb,e]
 | ic158 f =>
  obtain ⟨b1,b2,b3,b4,b5,b6,b7,b8,b9⟩:=(show Rw f from h)
  have e:([E6 (2:Int).toNat,Jx f.key,E6 f.time.toNat,E6 (zig f.Field.Grid.X),E6 (zig f.Field.Grid.Y),E6 f.Field.Grid.Size.toNat,E6 f.Field.Grid.Wide.toNat,E6 f.Field.Grid.High.toNat,Jo Hp ⟨0,0⟩ 0 f.Field.Vals]:List (List Int)).flatten=D1 (.ic158 f):=by
   show _=Qx f
   simp [Qx,Fp,Ro,List.append_assoc]
  rw [Jn]
  show (bif ((2:Int)==1) then _ else (bif ((2:Int)==2) then ((Am F 2).bind fun y699=>(H7 F f.key).bind fun y703=>(Am F f.time).bind fun y707=>(Cn F f.Field.Grid.X).bind fun y711=>(Cn F f.Field.Grid.Y).bind fun y715=>(Am F f.Field.Grid.Size).bind fun y719=>(Am F f.Field.Grid.Wide).bind fun y723=>(Am F f.Field.Grid.High).bind fun y727=>(Jv F f.Field.Vals).bind fun y780=>(D8 F ([y699,y703,y707,y711,y715,y719,y723,y727,y780])).bind fun y822=>some y822) else _))=_
  rw [B5 (by rfl),B3 (by rfl),Ep (by omega) ⟨by decide,by decide⟩,sb,Wu (by omega) (by omega),sb,Ep (by omega) b2,sb,U4 (by omega) b3,sb,U4 (by omega) b4,sb,Ep (by omega) b5,sb,Ep (by omega) b6,sb,Ep (by omega) b7,sb,
   Y6 (by omega) (by omega) (by omega) b9,sb,Rz (by omega) (by simp) (by rw [e];omega),sb,e]
 | ic160 n =>
  obtain ⟨c1,c2⟩:=(show V7 n from h)
  have e:([E6 (3:Int).toNat,E6 n.time.toNat,Jx n.text]:List (List Int)).flatten=D1 (.ic160 n):=by
   show _=Tq n
   simp [Tq,Fp,List.append_assoc]
  rw [Jn]
  show (bif ((3:Int)==1) then _ else (bif ((3:Int)==2) then _ else Ja F (toR (Jm (.ic160 n)))))=_
  rw [B5 (by rfl),B5 (by rfl),Ja]
  show ((Am F 3).bind fun y396=>(Am F n.time).bind fun y400=>(H7 F n.text).bind fun y417=>(D8 F ([y396,y400,y417])).bind fun y435=>some y435)=_
  rw [Ep (by omega) ⟨by decide,by decide⟩,sb,Ep (by omega) c1,sb,Wu (by omega) (by omega),sb,Rz (by omega) (by simp) (by rw [e];omega),sb,e]
theorem Ux {F:Nat} (hF:200000≤F) {t:volume_thing} (h:okT t) (hl:(D1 t).length+100≤F):Gh F (toR (Jm t))=some (Pt t):=by
 have hlen:=P6 h
 have hk:okN (((D1 t).length:Nat):Int):=⟨by omega,by omega⟩
 have h9:=Ck hk
 rw [Int.toNat_natCast] at h9
 have hpl:(Na (D1 t)).length=(E6 (D1 t).length).length+(D1 t).length:=by unfold Na;rw [List.length_append]
 have hby:By (Na (D1 t)):=(V6 _).app (Uw t)
 rw [Gh,Ze hF h,sb,Ep (by omega) hk,sb,Int.toNat_natCast,Kl (by omega) (by decide)]
 show (M4 F (Na (D1 t))).bind (fun y21=>(apd 1 (Na (D1 t)) y21).bind fun l24=>some l24)=_
 rw [A0o (by omega) hby (by omega) (by omega),sb,Kl (by rw [Ry];omega) (by decide)]
 rfl
theorem nob {a b:Bool} (h:(bif a then true else b)=false):a=false∧b=false:=by cases a<;>cases b<;>simp_all
theorem A30 {a b:Bool} (h:(!(bif a then b else false))=false):a=true∧b=true:=by cases a<;>cases b<;>simp_all
theorem A15 {a b:Bool} (h:(bif a then b else false)=true):a=true∧b=true:=by cases a<;>cases b<;>simp_all
theorem A1h {c:Bool} {y:volume_thing} (h:(bif c then volume_thing.nil_ else y)≠.nil_):c=false∧(bif c then volume_thing.nil_ else y)=y:=by
 cases c with
 | true=>exact absurd rfl h
 | false=>exact ⟨rfl,rfl⟩
theorem Zn {f:api_Field} (h:(!(bif (((f.Grid.X:Int)==0)&&(((f.Grid.Y:Int)==0)&&(((f.Grid.Size:Int)==0)&&(((f.Grid.Wide:Int)==0)&&(((f.Grid.High:Int)==0)&&true))))) then (((f.Vals.length:Nat):Int)==0) else false))=false):f=⟨⟨0,0,0,0,0⟩,[]⟩:=by
 obtain ⟨h1,h2⟩:=A30 h
 have:=Zw f.Grid ⟨0,0,0,0,0⟩
 rw [show (((f.Grid.X:Int)==0)&&(((f.Grid.Y:Int)==0)&&(((f.Grid.Size:Int)==0)&&(((f.Grid.Wide:Int)==0)&&(((f.Grid.High:Int)==0)&&true)))))=decide (f.Grid=⟨0,0,0,0,0⟩) from this] at h1
 have h3:f.Vals=[]:=List.eq_nil_of_length_eq_zero (by simpa using h2)
 cases f
 simp at h1 h3
 rw [h1,h3]
theorem Zo {s:api_Sweep} (h:(!(bif (bif (bif ((s.Site.Name==ByteArray.empty)&&(((s.Site.X:Int)==0)&&(((s.Site.Y:Int)==0)&&(((s.Site.Z:Int)==0)&&(((s.Site.Rose:Int)==0)&&(((s.Site.Gates:Int)==0)&&(((s.Site.Step:Int)==0)&&(((s.Site.Width:Int)==0)&&true)))))))) then (s.Tilt==0) else false) then (s.Time==0) else false) then (((s.Rays.length:Nat):Int)==0) else false))=false):s=⟨⟨ByteArray.empty,0,0,0,0,0,0,0⟩,0,0,[]⟩:=by
 obtain ⟨h1,h2⟩:=A30 h
 obtain ⟨h1,h3⟩:=A15 h1
 obtain ⟨h1,h4⟩:=A15 h1
 have:=A0h s.Site ⟨ByteArray.empty,0,0,0,0,0,0,0⟩
 rw [show ((s.Site.Name==ByteArray.empty)&&(((s.Site.X:Int)==0)&&(((s.Site.Y:Int)==0)&&(((s.Site.Z:Int)==0)&&(((s.Site.Rose:Int)==0)&&(((s.Site.Gates:Int)==0)&&(((s.Site.Step:Int)==0)&&(((s.Site.Width:Int)==0)&&true))))))))=decide (s.Site=⟨ByteArray.empty,0,0,0,0,0,0,0⟩) from this] at h1
 have h5:s.Rays=[]:=List.eq_nil_of_length_eq_zero (by simpa using h2)
 cases s
 simp at h1 h3 h4 h5
 rw [h1,h3,h4,h5]
theorem A1p {x:volume_Item} (h:Co x≠.nil_):x=Jm (Co x):=by
 rw [Co] at h ⊢
 have eE:(⟨#[]⟩:ByteArray)=ByteArray.empty:=rfl
 by_cases k1:x.Kind=1
 ·rw [B3 (by simp [k1])] at h ⊢
  obtain ⟨hc,he⟩:=A1h h
  rw [he]
  obtain ⟨hc,h5⟩:=nob hc
  obtain ⟨hc,h4⟩:=nob hc
  obtain ⟨hc,h3⟩:=nob hc
  obtain ⟨h1,h2⟩:=nob hc
  have n1:x.Name=ByteArray.empty:=Qh.1 (by have h1:(!sEq x.Name ByteArray.empty)=false:=h1;simpa using h1)
  have n3:x.Text=ByteArray.empty:=Qh.1 (by have h3:(!sEq x.Text ByteArray.empty)=false:=h3;simpa using h3)
  have n2:x.Time=0:=by have:(x.Time != 0)=false:=h2;simpa using this
  have n5:=Zn h5
  cases x
  simp at k1 n1 n2 n3 n5
  subst k1 n1 n2 n3 n5
  rfl
 ·rw [B5 (by simp [k1])] at h ⊢
  by_cases k2:x.Kind=2
  ·rw [B3 (by simp [k2])] at h ⊢
   obtain ⟨hc,he⟩:=A1h h
   rw [he]
   obtain ⟨hc,h5⟩:=nob hc
   obtain ⟨hc,h4⟩:=nob hc
   obtain ⟨hc,h3⟩:=nob hc
   have n3:x.Text=ByteArray.empty:=Qh.1 (by have h3:(!sEq x.Text ByteArray.empty)=false:=h3;simpa using h3)
   have n4:=Zo h4
   cases x
   simp at k2 n3 n4
   subst k2 n3 n4
   rfl
  ·rw [B5 (by simp [k2])] at h ⊢
   by_cases k3:x.Kind=3
   ·rw [B3 (by simp [k3])] at h ⊢
    obtain ⟨hc,he⟩:=A1h h
    rw [he]
    obtain ⟨hc,h5⟩:=nob hc
    obtain ⟨hc,h4⟩:=nob hc
    obtain ⟨hc,h3⟩:=nob hc
    obtain ⟨h1,h2⟩:=nob hc
    have n1:x.Name=ByteArray.empty:=Qh.1 (by have h1:(!sEq x.Name ByteArray.empty)=false:=h1;simpa using h1)
    have n4:=Zo h4
    have n5:=Zn h5
    cases x
    simp at k3 n1 n4 n5
    subst k3 n1 n4 n5
    rfl
   ·rw [B5 (by simp [k3])] at h
    exact absurd rfl h
end Go.Proofs.YtifbomimeodibaaGreat
namespace Go.Proofs.YtifbomimeodibaaGreat
open Go Go.RowKit Go.Eng
set_option maxRecDepth 10000
set_option linter.unusedVariables false
set_option linter.unusedSimpArgs false
theorem Y8 (k:Nat):Hd (k+FV)=some true:=by kernel_rfl
end Go.Proofs.YtifbomimeodibaaGreat
namespace Go.Proofs.YtifbomimeodibaaGreat
open Go Go.RowKit Go.Eng
set_option maxRecDepth 10000
set_option linter.unusedVariables false
set_option linter.unusedSimpArgs false
theorem ckm {β:Type} {x:Int} {f:Int→Option β} (h:-9223372036854775808≤x∧x≤9223372036854775807):(ck x).bind f=f x:=by
 unfold ck
 rw [if_pos h];rfl
def Qr:Int→List (List api_Echo)→Int
 | n,[]=>n
 | n,r::rs=>Qr (IntKind.i64.wrap (n+((r.length:Nat):Int))) rs
theorem wrap64 {x:Int} (h:0≤x∧x≤1000000000):IntKind.i64.wrap x=x:=by
 simp only [IntKind.wrap,IntKind.signed,IntKind.bits]
 simp
 omega
theorem Vv:∀(rs:List (List api_Echo)) (n:Int),0≤n→n+(rs.flatten.length:Int)≤1000000000→Qr n rs=n+rs.flatten.length:=by
 intro rs
 induction rs with
 | nil=>intro n _ _;simp [Qr]
 | cons r rs ih =>
  intro n h0 h
  rw [List.flatten_cons,List.length_append] at h
  rw [Qr,wrap64 (by omega),ih _ (by omega) (by omega),List.flatten_cons,List.length_append]
  omega
def Ti (x:ref12_Item):Prop:=Qr ((x.Field.Vals.length:Nat):Int) x.Sweep.Rays≤200∧x.Sweep.Rays.length≤100∧x.Text.size≤400
theorem A1e (l:List ref12_Item) (i:Nat) (x:ref12_Item) (hx:l[i]? = some x) (hmx:x.Sweep.Rays.length≤9223372036854775807) (k2:Int→Option Bool):∀(m j:Nat) (n:Int),x.Sweep.Rays.length-j<m→j≤x.Sweep.Rays.length →
  Fh l i k2 m n j=Gr l i k2 (Qr n (x.Sweep.Rays.drop j)):=by
 intro m
 induction m with
 | zero=>intro j n h;omega
 | succ m ih =>
  intro j n h hj
  rw [Fh,Jd,Ei i x rfl hx]
  by_cases hb:j<x.Sweep.Rays.length
  ·have hd:=List.drop_eq_getElem_cons hb
   rw [B3 (dT (by omega)),Ei i x rfl hx,Ei j x.Sweep.Rays[j] rfl (List.getElem?_eq_getElem hb),ckm (by omega),hd,Qr,show ((j:Int)+1)=((j+1:Nat):Int) by omega]
   exact ih (j+1) _ (by omega) (by omega)
  ·rw [B5 (dF (by omega)),List.drop_of_length_le (by omega),Qr]
theorem Zz {F:Nat} (l:List ref12_Item) (hmx:∀x∈l,x.Sweep.Rays.length≤9223372036854775807∧x.Sweep.Rays.length<F) (hn:l.length≤1002):∀(m i:Nat),l.length-i<m→i≤l.length→∃c,Fg F l m i=some c∧(c=true→∀x∈l.drop i,Ti x):=by
 intro m
 induction m with
 | zero=>intro i h;omega
 | succ m ih =>
  intro i h hi
  rw [Fg,Jc]
  by_cases hb:i<l.length
  ·have hd:=List.drop_eq_getElem_cons hb
   have hx:=List.getElem?_eq_getElem hb
   obtain ⟨h1,h2⟩:=hmx l[i] (List.getElem_mem hb)
   rw [B3 (dT (by omega)),Ei i l[i] rfl hx,show (0:Int)=((0:Nat):Int) from rfl,A1e l i l[i] hx h1 _ F 0 _ (by omega) (by omega),List.drop_zero,Gr]
   by_cases q1:Qr ((l[i].Field.Vals.length:Nat):Int) l[i].Sweep.Rays>200
   ·rw [B3 (dT q1)];exact ⟨false,rfl,fun h=>by cases h⟩
   ·rw [B5 (dF q1),Ei i l[i] rfl hx]
    by_cases q2:l[i].Sweep.Rays.length>100
    ·rw [B3 (dT (by omega))];exact ⟨false,rfl,fun h=>by cases h⟩
    ·rw [B5 (dF (by omega)),Ei i l[i] rfl hx]
     by_cases q3:l[i].Text.size>400
     ·rw [B3 (dT (by omega))];exact ⟨false,rfl,fun h=>by cases h⟩
     ·rw [B5 (dF (by omega)),Jf,ckb (by omega),show ((i:Int)+1)=((i+1:Nat):Int) by omega]
      obtain ⟨c,k1,k2⟩:=ih (i+1) (by omega) (by omega)
      refine ⟨c,k1,fun hc y hy=>?_⟩
      rw [hd] at hy
      rcases List.mem_cons.1 hy with rfl|hy
      ·exact ⟨by omega,by omega,by omega⟩
      ·exact k2 hc y hy
  ·rw [B5 (dF (by omega)),Je,List.drop_of_length_le (by omega)]
   exact ⟨true,rfl,fun _ y hy=>by cases hy⟩
theorem Xx {F:Nat} (hF:2000≤F) (l:List ref12_Item) (hmx:∀x∈l,x.Sweep.Rays.length≤9223372036854775807∧x.Sweep.Rays.length<F):∃c,K2 F l=some c∧(c=true→(l.length≤12∨l.length>1000)∧l.length≤1002∧∀x∈l,Ti x):=by
 rw [K2]
 by_cases h1:l.length>1002
 ·rw [dT (show ((l.length:Nat):Int)>1002 by omega),B3 (by cases (bif decide (((l.length:Nat):Int)>12) then decide (((l.length:Nat):Int)≤1000) else false)<;>rfl)]
  exact ⟨false,rfl,fun h=>by cases h⟩
 ·rw [dF (show ¬((l.length:Nat):Int)>1002 by omega)]
  by_cases h2:l.length>12∧l.length≤1000
  ·rw [dT (show ((l.length:Nat):Int)>12 by omega),dT (show ((l.length:Nat):Int)≤1000 by omega),B3 (by rfl)]
   exact ⟨false,rfl,fun h=>by cases h⟩
  ·rw [B5 ?_,show (0:Int)=((0:Nat):Int) from rfl]
   ·obtain ⟨c,k1,k2⟩:=Zz l hmx (by omega) F 0 (by omega) (by omega)
    exact ⟨c,k1,fun hc=>⟨by omega,by omega,k2 hc⟩⟩
   ·by_cases h3:l.length>12
    ·rw [dF (show ¬((l.length:Nat):Int)≤1000 by omega)];cases decide (((l.length:Nat):Int)>12)<;>rfl
    ·rw [dF (show ¬((l.length:Nat):Int)>12 by omega)];rfl
theorem Yr {t:volume_thing} (h:vT t) (hg:Ti (toR (Jm t))):cnt t≤200:=by
 obtain ⟨h1,h2,h3⟩:=hg
 cases t with
 | nil_=>exact h.elim
 | ic156 s =>
  have hv:vSweep s.Sweep:=h
  have h1:Qr (0:Int) s.Sweep.Rays≤200:=h1
  have h2:s.Sweep.Rays.length≤100:=h2
  have hl:=hv.len
  obtain ⟨⟨_,_,_,_,⟨c1,c2⟩,⟨c3,c4⟩,_⟩,_,_,hr,_⟩:=hv
  have hm:4*s.Sweep.Site.Rose*s.Sweep.Site.Gates≤360*s.Sweep.Site.Gates:=Int.mul_le_mul_of_nonneg_right (by omega) (by omega)
  rw [Vv _ _ (by decide) (by omega)] at h1
  show s.Sweep.Rays.flatten.length≤200
  omega
 | ic158 f =>
  have h1:((f.Field.Vals.length:Nat):Int)≤200:=h1
  show f.Field.Vals.length≤200
  omega
 | ic160 n=>exact Nat.zero_le _
def pkS (F:Nat) (x:volume_Item):List Int×Int:=(Df F x).getD ([],0)
theorem Nb {F:Nat} (hF:200000≤F) {x:volume_Item} (hg:Ti (toR x)):Df F x=some (pkS F x)∧Hh F (toR x)=some (pkS F x)∧F2 F (toR x)=some (pkS F x).2∧Mz F (Co x)=some (pkS F x).2∧(pkS F x).1.length≤40000 ∧
  ((pkS F x).2=0→∃t,(pkS F x).1=Nn t∧Gh F (toR x)=some (Pt t)):=by
 have key:∃a e,Df F x=some (a,e)∧Hh F (toR x)=some (a,e)∧F2 F (toR x)=some e∧Mz F (Co x)=some e∧a.length≤40000∧(e=0→∃t,a=Nn t∧Gh F (toR x)=some (Pt t)):=by
  by_cases hn:Co x=.nil_
  ·have hE:Mz F (Co x)=some 2:=by rw [hn];rfl
   have hR:=S1 (F:=F) (by omega) x
   rw [hE] at hR
   refine ⟨[],2,?_,?_,hR,hE,by simp,fun h=>by cases h⟩
   ·rw [Df,Di,hn];rfl
   ·rw [Hh,hR,sb,B3 (by rfl)]
  ·have hx:=A1p hn
   generalize ht:Co x=t at hn hx
   subst hx
   obtain ⟨e,he,hv⟩:=Tb (F:=F) (by omega) hn
   obtain ⟨e',he',hv'⟩:=A21 (F:=F) (by omega) hn
   have hE:=S1 (F:=F) (by omega) (Jm t)
   rw [he',ht] at hE
   have hee:e'=e:=by
    have h2:Mz F t=Da F t:=by
     cases t with
     | nil_=>exact absurd rfl hn
     | ic156 s=>rw [Wh];show _=(Bi F s.Sweep).bind fun y=>some y;rw [Wb]
     | ic158 s=>rw [Wi];rfl
     | ic160 s=>rw [Wj];rfl
    rw [h2,he] at hE
    exact Option.some.inj hE
   subst hee
   by_cases h0:e'=0
   ·subst h0
    have hvt:=hv.1 rfl
    have hc:=Yr hvt hg
    have hl2:=Q2 hvt.ok
    have hpl:=Wq hvt
    refine ⟨Nn t,0,A07 hF hvt (by omega),?_,he',hE.symm,?_,fun _=>⟨t,rfl,Ux hF hvt.ok (by omega)⟩⟩
    ·rw [Hh,he',sb,B5 (by rfl),Ux hF hvt.ok (by omega),sb,Kl (by simp;omega) (by decide)];rfl
    ·unfold Nn;simp;omega
   ·refine ⟨[],e',?_,?_,he',hE.symm,by simp,fun h=>absurd h h0⟩
    ·have hck:Di F (Jm t)=some (t,e'):=by
      rw [Di,ht]
      cases t with
      | nil_=>exact absurd rfl hn
      | ic156 s=>show (Bl F s).bind _=_;rw [show Bl F s=some e' from he];rfl
      | ic158 s=>show (B0 F s).bind _=_;rw [show B0 F s=some e' from he];rfl
      | ic160 s=>show (B6 F s).bind _=_;rw [show B6 F s=some e' from he];rfl
     rw [Df,hck,sb,B3 (by simp [h0])]
    ·rw [Hh,he',sb,B3 (by simp [h0])]
 obtain ⟨a,e,h1,h2,h3,h4,h5,h6⟩:=key
 have hp:pkS F x=(a,e):=by unfold pkS;rw [h1];rfl
 rw [hp]
 exact ⟨h1,h2,h3,h4,h5,h6⟩
end Go.Proofs.YtifbomimeodibaaGreat
namespace Go.Proofs.YtifbomimeodibaaGreat
open Go Go.RowKit Go.Eng
set_option maxRecDepth 10000
set_option linter.unusedVariables false
set_option linter.unusedSimpArgs false
def S2 (F:Nat):List volume_Item→Int
 | []=>0
 | x::r=>if (pkS F x).2=0 then S2 F r else (pkS F x).2
def Ta (F:Nat) (l:List volume_Item):List Int:=l.flatMap fun x=>(pkS F x).1
def wrS (F:Nat) (acc:List Int) (l:List volume_Item):List Int×Int:=if S2 F l=0 then (if (acc++Ta F l).length>16777216 then ([],8) else (acc++Ta F l,0)) else ([],S2 F l)
theorem A0u {F:Nat} (hF:200000≤F) (l:List volume_Item) (hg:∀x∈l,Ti (toR x)) (hn:l.length≤1000):∀(m i:Nat) (acc:List Int),l.length-i<m→i≤l.length→acc.length≤100+40000*i →
  Fk F l m i acc=some (wrS F acc (l.drop i)):=by
 intro m
 induction m with
 | zero=>intro i acc h;omega
 | succ m ih =>
  intro i acc h hi ha
  rw [Fk,Jj]
  by_cases hb:i<l.length
  ·have hd:=List.drop_eq_getElem_cons hb
   obtain ⟨h1,h2,h3,h4,h5,h6⟩:=Nb hF (hg l[i] (List.getElem_mem hb))
   rw [B3 (dT (by omega)),Ei i l[i] rfl (List.getElem?_eq_getElem hb),h1,sb,hd]
   by_cases h0:(pkS F l[i]).2=0
   ·rw [B5 (by simp [h0]),Kl (by omega) (by decide),ckb (by omega),show ((i:Int)+1)=((i+1:Nat):Int) by omega]
    refine Eq.trans (ih (i+1) _ (by omega) (by omega) (by rw [List.length_append];omega)) ?_
    unfold wrS
    rw [S2,if_pos h0]
    unfold Ta
    rw [List.flatMap_cons,List.append_assoc]
   ·rw [B3 (by simp [h0])]
    unfold wrS
    rw [S2,if_neg h0,if_neg h0]
  ·rw [B5 (dF (by omega)),Jk,List.drop_of_length_le (by omega)]
   unfold wrS
   rw [S2,if_pos rfl]
   unfold Ta
   rw [List.flatMap_nil,List.append_nil]
   by_cases hq:acc.length>16777216
   ·rw [B3 (dT (by omega)),if_pos hq]
   ·rw [B5 (dF (by omega)),if_neg hq]
theorem Xp {F:Nat} (hF:200000≤F) (l:List volume_Item) (hg:∀x∈l,Ti (toR x)) (hn:l.length≤1000) (h0:∀x∈l,(pkS F x).2=0):∀(m i:Nat) (acc:List Int),l.length-i<m→i≤l.length→acc.length≤100+40000*i →
  Fz F (l.map toR) m acc i=some (acc++Ta F (l.drop i)):=by
 intro m
 induction m with
 | zero=>intro i acc h;omega
 | succ m ih =>
  intro i acc h hi ha
  rw [Fz,L9,List.length_map]
  by_cases hb:i<l.length
  ·have hd:=List.drop_eq_getElem_cons hb
   obtain ⟨h1,h2,h3,h4,h5,h6⟩:=Nb hF (hg l[i] (List.getElem_mem hb))
   obtain ⟨t,e1,e2⟩:=h6 (h0 _ (List.getElem_mem hb))
   have hbl:(Nn t).length=(Pt t).length+1:=by unfold Nn;simp
   rw [e1] at h5
   rw [B3 (dT (by omega)),Ei i (toR l[i]) rfl (by rw [List.getElem?_map,List.getElem?_eq_getElem hb];rfl),Kl (by simp;omega) (by decide),e2,sb,Kl (by simp;omega) (by decide),ckb (by omega),show ((i:Int)+1)=((i+1:Nat):Int) by omega]
   refine Eq.trans (ih (i+1) _ (by omega) (by omega) (by simp;omega)) ?_
   rw [hd]
   unfold Ta
   rw [List.flatMap_cons,e1]
   unfold Nn
   simp
  ·rw [B5 (dF (by omega)),La,List.drop_of_length_le (by omega)];simp [Ta]
theorem Zh {F:Nat} (hF:200000≤F) (l:List volume_Item) (hg:∀x∈l,Ti (toR x)) (hn:l.length≤1000):∀(m i:Nat),l.length-i<m→i≤l.length →
  Gd F (l.map toR) m i=if S2 F (l.drop i)=0 then Hj F (l.map toR) else some ([],S2 F (l.drop i)):=by
 intro m
 induction m with
 | zero=>intro i h;omega
 | succ m ih =>
  intro i h hi
  rw [Gd,K7,List.length_map]
  by_cases hb:i<l.length
  ·have hd:=List.drop_eq_getElem_cons hb
   obtain ⟨h1,h2,h3,h4,h5,h6⟩:=Nb hF (hg l[i] (List.getElem_mem hb))
   rw [B3 (dT (by omega)),Ei i (toR l[i]) rfl (by rw [List.getElem?_map,List.getElem?_eq_getElem hb];rfl),h3,sb,hd,S2]
   by_cases h0:(pkS F l[i]).2=0
   ·rw [B5 (by simp [h0]),ckb (by omega),show ((i:Int)+1)=((i+1:Nat):Int) by omega,ih (i+1) (by omega) (by omega),if_pos h0]
   ·rw [B3 (by simp [h0]),if_neg h0,if_neg h0]
  ·rw [B5 (dF (by omega)),List.drop_of_length_le (by omega),S2,if_pos rfl]
theorem Zr {F:Nat}:∀(l:List volume_Item),S2 F l=0→∀x∈l,(pkS F x).2=0:=by
 intro l
 induction l with
 | nil=>intro _ x hx;cases hx
 | cons y r ih =>
  intro h x hx
  rw [S2] at h
  split at h
  ·rename_i h0
   rcases List.mem_cons.1 hx with rfl|hx
   ·exact h0
   ·exact ih h x hx
  ·rename_i h0;exact absurd h h0
theorem Zq {F:Nat} (hF:200000≤F):∀(l:List volume_Item),(∀x∈l,Ti (toR x))→(Ta F l).length≤40000*l.length:=by
 intro l
 induction l with
 | nil=>intro _;simp [Ta]
 | cons y r ih =>
  intro hg
  have h1:=(Nb hF (hg y (by simp))).2.2.2.2.1
  have h2:=ih fun x hx=>hg x (by simp [hx])
  unfold Ta at *
  rw [List.flatMap_cons,List.length_append,List.length_cons]
  omega
theorem Wz {F:Nat} (hF:200000≤F) (l:List volume_Item) (hg:∀x∈l,Ti (toR x)):∃r,Ez F l=some r∧Ju F (l.map toR)=some r∧r.1.length≤4+40000*l.length:=by
 by_cases hn:l.length>1000
 ·refine ⟨([],9),?_,?_,by simp⟩
  ·rw [Ez,B3 (dT (by omega))]
  ·rw [Ju,List.length_map,B3 (dT (by omega))]
 ·refine ⟨wrS F RVF1 l,?_,?_,?_⟩
  ·rw [Ez,B5 (dF (by omega)),show (0:Int)=((0:Nat):Int) from rfl]
   exact A0u hF l hg (by omega) F 0 RVF1 (by omega) (by omega) (by decide)
  ·rw [Ju,List.length_map,B5 (dF (by omega)),show (0:Int)=((0:Nat):Int) from rfl,Zh hF l hg (by omega) F 0 (by omega) (by omega),List.drop_zero]
   unfold wrS
   by_cases h0:S2 F l=0
   ·have hf:=Xp hF l hg (by omega) (Zr l h0) F 0 RVF1 (by omega) (by omega) (by decide)
    rw [if_pos h0,if_pos h0,Hj,P3]
    show (Fz F (l.map toR) F RVF1 ((0:Nat):Int)).bind _=_
    rw [hf,sb,List.drop_zero]
    by_cases hq:(RVF1++Ta F l).length>16777216
    ·rw [B3 (dT (by omega)),if_pos hq]
    ·rw [B5 (dF (by omega)),if_neg hq]
   ·rw [if_neg h0,if_neg h0]
  ·unfold wrS
   split
   ·split
    ·simp
    ·have:=Zq hF l hg
     have e4:RVF1.length=4:=rfl
     simp only [List.length_append];omega
   ·simp
theorem A0q {F:Nat} (hF:200000≤F) (l:List volume_Item) (hg:∀x∈l,Ti (toR x)) (hn:l.length≤1002):∀(m i:Nat),l.length-i<m→i≤l.length→D6 F (l.map toR) m i=E3 F (l.map toR):=by
 intro m
 induction m with
 | zero=>intro i h;omega
 | succ m ih =>
  intro i h hi
  rw [D6,F9,List.length_map]
  by_cases hb:i<l.length
  ·obtain ⟨h1,h2,h3,h4,h5,h6⟩:=Nb hF (hg l[i] (List.getElem_mem hb))
   have hgi:(l.map toR)[i]? = some (toR l[i]):=by rw [List.getElem?_map,List.getElem?_eq_getElem hb];rfl
   have hC:Kd F l[i]=some (pkS F l[i]).2:=h4
   rw [B3 (dT (by omega)),Ei i (toR l[i]) rfl hgi]
   show ((Df F l[i]).bind _)=_
   rw [h1,sb,Ei i (toR l[i]) rfl hgi,h2,sb,Vi (by omega) (by omega),sb,dT rfl]
   rw [Rk,B5 (by rfl),Ei i (toR l[i]) rfl hgi]
   show ((Kd F l[i]).bind _)=_
   rw [hC,sb,Ei i (toR l[i]) rfl hgi,h3,sb,Rk,B5 (by rfl),ckb (by omega),show ((i:Int)+1)=((i+1:Nat):Int) by omega]
   exact ih (i+1) (by omega) (by omega)
  ·rw [B5 (dF (by omega))]
def ofR (x:ref12_Item):volume_Item:=⟨x.Kind,x.Name,x.Time,x.Sweep,x.Field,x.Text⟩
theorem Z1 (l:List ref12_Item):(l.map ofR).map toR=l:=by
 rw [List.map_map]
 have:(toR∘ofR)=id:=by funext x;rfl
 rw [this,List.map_id]
theorem A1f (l:List ref12_Item) (f:ref12_Item→Nat):∀x∈l,f x≤(l.map f).sum:=by
 induction l with
 | nil=>intro x hx;cases hx
 | cons y r ih =>
  intro x hx
  rw [List.map_cons,List.sum_cons]
  rcases List.mem_cons.1 hx with rfl|hx
  ·omega
  ·have:=ih x hx;omega
theorem Sp (l:List ref12_Item) (hl:∀x∈l,x.Sweep.Rays.length≤9223372036854775807):∃F,F4 F l=some true:=by
 refine ⟨(l.map fun x=>x.Sweep.Rays.length).sum+FV+1000000,?_⟩
 have hFV:FV=200000:=rfl
 obtain ⟨F,hFe⟩:∃F,F=(l.map fun x=>x.Sweep.Rays.length).sum+FV+1000000:=⟨_,rfl⟩
 have hw:Hd F=some true:=by
  have:=Y8 ((l.map fun x=>x.Sweep.Rays.length).sum+1000000)
  rwa [show (l.map fun x=>x.Sweep.Rays.length).sum+1000000+FV=F by omega] at this
 rw [←hFe]
 have hF:200000≤F:=by omega
 obtain ⟨c,h1,h2⟩:=Xx (F:=F) (by omega) l (fun x hx=>⟨hl x hx,by have:=A1f l (fun x=>x.Sweep.Rays.length) x hx;omega⟩)
 rw [F4,h1,sb]
 cases c with
 | false=>rw [B3 (by rfl),hw];rfl
 | true =>
  obtain ⟨h3,h4,h5⟩:=h2 rfl
  rw [B5 (by rfl),←Z1 l]
  have hg:∀x∈l.map ofR,Ti (toR x):=fun x hx=>by
   obtain ⟨y,hy,rfl⟩:=List.mem_map.1 hx
   exact h5 y hy
  have hlen:(l.map ofR).length=l.length:=List.length_map ..
  generalize l.map ofR=xs at *
  obtain ⟨r,k1,k2,k3⟩:=Wz hF xs hg
  have hr:r.1.length<F:=by
   by_cases hn:xs.length≤12
   ·omega
   ·have:Ez F xs=some ([],9):=by rw [Ez,B3 (dT (by omega))]
    rw [this] at k1
    cases k1
    simp;omega
  have hr9:r.1.length≤1000000000:=by
   by_cases hn:xs.length≤12
   ·omega
   ·omega
  rw [show (0:Int)=((0:Nat):Int) from rfl,A0q hF xs hg (by omega) F 0 (by omega) (by omega),E3,A02 (by omega) (by omega),sb,k1,sb,k2,sb,Vi hr hr9,sb,dT rfl]
  show ((gd (((bif true then (r.2==r.2) else false)==true&&true)) (Hd F) default).bind fun y201=>some (bif (bif true then (r.2==r.2) else false) then y201 else false))=_
  rw [show (r.2==r.2)=true by simp,gdT (by rfl),hw,sb]
  rfl
end Go.Proofs.YtifbomimeodibaaGreat
