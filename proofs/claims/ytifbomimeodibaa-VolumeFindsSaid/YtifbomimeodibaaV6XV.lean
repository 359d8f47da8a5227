import Derived.Test.YtifbomimeodibaaV6XD
set_option linter.unusedVariables false
set_option linter.unusedSimpArgs false
set_option linter.unusedSectionVars false
namespace Go.Proofs.Ytifbomimeodibaa
open Go Go.RowKit Go.Eng
set_option maxRecDepth 10000
set_option linter.unusedVariables false
set_option linter.unusedSimpArgs false
theorem ckb {β:Type} {x:Int} {f:Int→Option β} (h:-9000000000000000000≤x∧x≤9000000000000000000):(ck x).bind f=f x:=by
 unfold ck;rw [if_pos (by omega)];rfl
theorem gdT {α:Type} {g:Bool} {o:Option α} {d:α} (h:g=true):gd g o d=o:=by subst h;rfl
theorem gdF {α:Type} {g:Bool} {o:Option α} {d:α} (h:g=false):gd g o d=some d:=by subst h;rfl
theorem Bc {α:Type} {c:Bool} {x y:α} (h:c=true):(bif c then x else y)=x:=by rw [h];rfl
theorem B5 {α:Type} {c:Bool} {x y:α} (h:c=false):(bif c then x else y)=y:=by rw [h];rfl
theorem sb {α β:Type} {x:α} {f:α→Option β}:(some x).bind f=f x:=rfl
theorem dT {p:Prop} [Decidable p] (h:p):decide p=true:=decide_eq_true h
theorem dF {p:Prop} [Decidable p] (h:¬p):decide p=false:=decide_eq_false h
theorem Hc {α β:Type} {l:List α} {i:Int} {f:α→Option β} (n:Nat) (x:α) (hi:i=(n:Int)) (h:l[n]? = some x):(E7 l i).bind f=f x:=by
 subst hi
 unfold E7
 rw [if_pos (by omega),show ((n:Int)).toNat=n by omega,h]
 rfl
theorem M3 {α β:Type} {l k:List α} {B:Nat} {f:List α→Option β} (h:(l.length+k.length)*B≤140737488355328) (hB:1≤B):(apd B l k).bind f=f (l++k):=by
 unfold apd
 have:l.length+k.length≤(l.length+k.length)*B:=Nat.le_mul_of_pos_right _ hB
 rw [if_pos ⟨h,by omega⟩]
 rfl
theorem Zv {α β:Type} {l:List α} {i j:Int} {f:List α→Option β} (m n:Nat) (hi:i=(m:Int)) (hj:j=(n:Int)) (h:m≤n∧n≤l.length):(J6 l i j).bind f=f ((l.drop m).take (n-m)):=by
 subst hi;subst hj
 unfold J6
 rw [if_pos (by omega)]
 rfl
theorem Ru {α β:Type} {l:List α} {i j:Int} {f:List α→Option β} (n:Nat) (hi:i=0) (hj:j=(n:Int)) (h:n≤l.length):(J6 l i j).bind f=f (l.take n):=by
 rw [Zv 0 n hi hj ⟨Nat.zero_le _,h⟩];simp
theorem Kg {α β:Type} {l:List α} {i j:Int} {f:List α→Option β} (m:Nat) (hi:i=(m:Int)) (hj:j=(l.length:Int)) (h:m≤l.length):(J6 l i j).bind f=f (l.drop m):=by
 rw [Zv m l.length hi hj ⟨h,Nat.le_refl _⟩,List.take_of_length_le (by simp)]
def FV:Nat:=200000
def By (l:List Int):Prop:=∀x∈l,0≤x∧x<256
theorem By.app {l k:List Int} (h:By l) (h':By k):By (l++k):=fun x hx=>(List.mem_append.1 hx).elim (h x) (h' x)
theorem Uz {x:Int} (h:0≤x∧x<256):IntKind.u8.wrap x=x:=by
 have:=h.1;have:=h.2
 simp only [IntKind.wrap,IntKind.signed,IntKind.bits]
 simp
 omega
def Ga (n:Nat):List Int:=if h:n<127 then [(n:Int)+1] else (128+((n%127:Nat):Int))::Ga (n/127)
termination_by n
theorem P8 {n:Nat} (h:n<127):Ga n=[(n:Int)+1]:=by rw [Ga,dif_pos h]
theorem Rm {n:Nat} (h:127≤n):Ga n=(128+((n%127:Nat):Int))::Ga (n/127):=by rw [Ga,dif_neg (by omega)]
theorem Xt:∀(k n:Nat),n<127 ^ (k+1)→(Ga n).length≤k+1:=by
 intro k
 induction k with
 | zero=>intro n h;rw [P8 (by simpa using h)];simp
 | succ k ih =>
  intro n h
  by_cases hn:n<127
  ·rw [P8 hn];simp
  ·rw [Rm (by omega),List.length_cons]
   have:=ih (n/127) (Nat.div_lt_of_lt_mul (by rw [Nat.pow_succ] at h;omega))
   omega
theorem W3 (n:Nat):∀x∈Ga n,1≤x∧x<255:=by
 induction n using Nat.strongRecOn with
 | _ n ih =>
  intro x hx
  by_cases hn:n<127
  ·rw [P8 hn] at hx;simp at hx;omega
  ·rw [Rm (by omega)] at hx
   rcases List.mem_cons.1 hx with rfl|hx
   ·have:=Nat.mod_lt n (show 0<127 by decide);omega
   ·exact ih (n/127) (Nat.div_lt_self (by omega) (by decide)) x hx
theorem tdm (n:Nat):Jo (n:Int) 127=some ((n%127:Nat):Int)∧Mz (n:Int) 127=ck ((n/127:Nat):Int):=by
 unfold Jo Mz
 rw [if_neg (by decide),if_neg (by decide)]
 exact ⟨by congr 1,by congr 1⟩
theorem A0x (x307:Int) (k1:List Int→Int→Option volume_writer) (h0:0≤x307∧x307≤1000000000000):∀(F k n:Nat) (l:List Int),n<127 ^ (k+1)→k<10→k<F→n≤4611686018427387904→l.length+k≤1000000000000 →
  Cy x307 k1 F l n=k1 (l++Ga n) (x307+1):=by
 intro F
 induction F with
 | zero=>intro k n l h hk hF;omega
 | succ F ih =>
  intro k n l h hk hF hn hl
  rw [Cy,Em]
  by_cases hb:(n:Int)≥127
  ·rw [Bc (dT hb),(tdm n).1,sb]
   have:=Nat.mod_lt n (show 0<127 by decide)
   rw [ckb (by omega),Uz (by omega),M3 (by simp;omega) (by decide),(tdm n).2]
   have hd:n/127≤n:=Nat.div_le_self _ _
   rw [ckb (by omega)]
   cases k with
   | zero=>simp at h;omega
   | succ k =>
    rw [ih k (n/127) _ (Nat.div_lt_of_lt_mul (by rw [Nat.pow_succ] at h;omega)) (by omega) (by omega) (by omega) (by simp;omega),Rm (n:=n) (by omega)]
    simp
  ·rw [B5 (dF hb),Ep,ckb (by omega),Uz (by omega),M3 (by simp;omega) (by decide),Eo,ckb (by omega),P8 (by omega),show (1:Int)+n=n+1 by omega]
def okN (x:Int):Prop:=0≤x∧x≤4611686018427387904
def G5 (l:List Int):List Int:=l.flatMap fun x=>Ga x.toNat
theorem Eh {x:Int} (h:okN x):(Ga x.toNat).length≤9:=Xt 8 x.toNat (by have:=h.1;have:=h.2;omega)
theorem A0w (F:Nat) (p1:List Int) (hF:100≤F) (hp:∀x∈p1,okN x):∀(m i:Nat) (l:List Int),p1.length-i<m→i≤p1.length→p1.length≤100→l.length+9*(p1.length-i)≤999999999000 →
  Cx F p1 m l i=some ⟨l++G5 (p1.drop i)⟩:=by
 intro m
 induction m with
 | zero=>intro i l h;omega
 | succ m ih =>
  intro i l h hi hp1 hl
  rw [Cx,El]
  by_cases hb:i<p1.length
  ·have hx:=hp p1[i] (List.getElem_mem hb)
   have h9:=Eh hx
   rw [Bc (dT (by omega)),Hc i p1[i] rfl (List.getElem?_eq_getElem hb)]
   have e:p1[i]=((p1[i].toNat:Nat):Int):=by have:=hx.1;omega
   rw [e,A0x i _ (by omega) F 8 p1[i].toNat l (by have:=hx.1;have:=hx.2;omega) (by decide) (by omega) (by have:=hx.2;omega) (by omega)]
   rw [show ((i:Int)+1)=((i+1:Nat):Int) by omega,ih (i+1) _ (by omega) (by omega) hp1 (by rw [List.length_append];omega),List.drop_eq_getElem_cons hb]
   simp only [G5,List.flatMap_cons,List.append_assoc]
  ·rw [B5 (dF (by omega)),List.drop_of_length_le (by omega)]
   simp [G5]
def okW (l:List Int):Prop:=l.length≤999999990000
theorem Fq {F:Nat} (hF:1000≤F) {w:volume_writer} {l:List Int} (hw:okW w.b) (hl:∀x∈l,okN x) (hn:l.length≤100):As F w l=some ⟨w.b++G5 l⟩:=by
 rw [As]
 unfold okW at hw
 exact A0w F l (by omega) hl F 0 w.b (by omega) (by omega) hn (by omega)
def zig (x:Int):Nat:=if x<0 then (-2*x-1).toNat else (2*x).toNat
def okZ (x:Int):Prop:=-2305843009213693952≤x∧x≤2305843009213693952
theorem A0v (F:Nat) (p1:List Int) (hF:1000≤F) (hp:∀x∈p1,okZ x):∀(m i:Nat) (l:List Int),p1.length-i<m→i≤p1.length→p1.length≤100→l.length+9*(p1.length-i)≤999999990000 →
  Bo F p1 m l i=some ⟨l++(p1.drop i).flatMap fun x=>Ga (zig x)⟩:=by
 intro m
 induction m with
 | zero=>intro i l h;omega
 | succ m ih =>
  intro i l h hi hp1 hl
  rw [Bo,Ed]
  by_cases hb:i<p1.length
  ·have hx:=hp p1[i] (List.getElem_mem hb)
   have hx1:=hx.1
   have hx2:=hx.2
   rw [Bc (dT (by omega)),Hc i p1[i] rfl (List.getElem?_eq_getElem hb)]
   have fin:∀z:Int,okN z→z.toNat=zig p1[i]→((As F (volume_writer.mk l) [z]).bind fun y178=>Cn i (Bo F p1 m) y178.b)=some ⟨l++(p1.drop i).flatMap fun x=>Ga (zig x)⟩:=by
    intro z hz hzz
    have h9:=Eh hz
    rw [Fq hF (show okW l by unfold okW;omega) (by simpa using hz) (by simp),sb,Cn,ckb (by omega)]
    show Bo F p1 m (l++G5 [z]) ((i:Int)+1)=_
    rw [show ((i:Int)+1)=((i+1:Nat):Int) by omega,ih (i+1) _ (by omega) (by omega) hp1 (by simp [G5];omega),List.drop_eq_getElem_cons hb]
    simp only [G5,List.flatMap_cons,List.flatMap_nil,List.append_nil,List.append_assoc,hzz]
   by_cases hs:p1[i]<0
   ·rw [Bc (dT hs),ckb (by omega),ckb (by omega)]
    exact fin _ ⟨by omega,by omega⟩ (by unfold zig;rw [if_pos hs])
   ·rw [B5 (dF hs),ckb (by omega)]
    exact fin _ ⟨by omega,by omega⟩ (by unfold zig;rw [if_neg hs])
  ·rw [B5 (dF (by omega)),List.drop_of_length_le (by omega)]
   simp
theorem R4 {F:Nat} (hF:1000≤F) {w:volume_writer} {l:List Int} (hw:w.b.length≤999999980000) (hl:∀x∈l,okZ x) (hn:l.length≤100):Cs F w l=some ⟨w.b++l.flatMap fun x=>Ga (zig x)⟩:=by
 rw [Cs]
 exact A0v F l hF hl F 0 w.b (by omega) (by omega) hn (by omega)
theorem Vl {x:Int} (h:okZ x):okN (zig x:Int):=by
 unfold okZ at h;unfold okN zig;split<;>omega
theorem Vj {F:Nat} (hF:1000≤F) {w:volume_writer} {s:ByteArray} (hw:w.b.length≤999999980000) (hs:s.size≤10000000):Dl F w s=some ⟨w.b++(Ga s.size++sby s)⟩:=by
 have h9:=Eh (x:=(s.size:Int)) ⟨by omega,by omega⟩
 rw [Dl,Fq hF (show okW w.b by unfold okW;omega) (by intro x hx;simp at hx;subst hx;exact ⟨by omega,by omega⟩) (by simp),sb,M3 (by simp only [G5,List.flatMap_cons,List.flatMap_nil,List.append_nil,List.length_append,Jq];omega) (by decide)]
 simp [G5]
def okS (s:api_Span):Prop:=-1000000000000000000≤s.Lo∧s.Lo≤s.Hi∧s.Hi≤1000000000000000000
def H7 (s:api_Span):List Int:=Ga (zig s.Lo)++Ga (s.Hi-s.Lo).toNat
theorem Q2 {F:Nat} (hF:1000≤F) {w:volume_writer} {s:api_Span} (hw:w.b.length≤999999970000) (hs:okS s):Dk F w s=some ⟨w.b++H7 s⟩:=by
 obtain ⟨h1,h2,h3⟩:=hs
 have h9:=Eh (Vl (x:=s.Lo) ⟨by omega,by omega⟩)
 rw [Int.toNat_natCast] at h9
 rw [Dk,R4 hF (by omega) (by intro x hx;simp at hx;subst hx;exact ⟨by omega,by omega⟩) (by simp),sb,ckb (by omega),Fq hF (by unfold okW;simp;omega) (by intro x hx;simp at hx;subst hx;exact ⟨by omega,by omega⟩) (by simp)]
 simp [H7,G5]
theorem Fi {s:api_Span} (hs:okS s):(H7 s).length≤18:=by
 obtain ⟨h1,h2,h3⟩:=hs
 have h8:=Eh (Vl (x:=s.Lo) ⟨by omega,by omega⟩)
 have h9:=Eh (x:=s.Hi-s.Lo) ⟨by omega,by omega⟩
 rw [Int.toNat_natCast] at h8
 unfold H7;rw [List.length_append];omega
end Go.Proofs.Ytifbomimeodibaa
namespace Go.Proofs.Ytifbomimeodibaa
open Go Go.RowKit Go.Eng
set_option maxRecDepth 10000
set_option linter.unusedVariables false
set_option linter.unusedSimpArgs false
def Jz (x:api_Echo):List Int:=Ga x.Kind.toNat++if x.Kind=1 then Ga x.Power.Hi.toNat else H7 x.Power++(H7 x.Ratio++(H7 x.Match++(Ga x.Spread.toNat++if x.Kind=3 then H7 x.Steps.1++(H7 x.Steps.2++H7 x.Turn) else [])))
def okE (x:api_Echo):Prop:=okN x.Kind∧okN x.Power.Hi∧okN x.Spread∧okS x.Power∧okS x.Ratio∧okS x.Match∧okS x.Steps.1∧okS x.Steps.2∧okS x.Turn
theorem A0u {F:Nat} (hF:1000≤F) {w:volume_writer} {x:api_Echo} (hw:w.b.length≤999999960000) (hx:okE x):Fa F w x=some ⟨w.b++Jz x⟩:=by
 obtain ⟨h1,h2,h3,h4,h5,h6,h7,h8,h9⟩:=hx
 have a1:=Eh h1
 have a2:=Eh h2
 have a3:=Eh h3
 have a4:=Fi h4
 have a5:=Fi h5
 have a6:=Fi h6
 have a7:=Fi h7
 have a8:=Fi h8
 obtain ⟨G,rfl⟩:∃G,F=G+4:=⟨F-4,by omega⟩
 rw [Fa,Fq hF (by unfold okW;omega) (by simpa using h1) (by simp),sb]
 by_cases hk:x.Kind=1
 ·rw [Bc (by simp [hk]),Fq hF (by unfold okW;simp [G5];omega) (by simpa using h2) (by simp),sb]
  simp [Jz,hk,G5]
 ·rw [B5 (by simp [hk]),C3,Cr,Bc (dT (by decide)),Hc 0 x.Power (by decide) (by rfl),Q2 hF (by simp [G5];omega) h4,sb,ckb (by omega),
   C3,Cr,Bc (dT (by decide)),Hc 1 x.Ratio (by decide) (by rfl),Q2 hF (by simp [G5];omega) h5,sb,ckb (by omega),
   C3,Cr,Bc (dT (by decide)),Hc 2 x.Match (by decide) (by rfl),Q2 hF (by simp [G5];omega) h6,sb,ckb (by omega),
   C3,Cr,B5 (dF (by decide)),Fe,Fq hF (by unfold okW;simp [G5];omega) (by simpa using h3) (by simp),sb]
  by_cases hk3:x.Kind=3
  ·rw [Bc (by simp [hk3]),C2,Cq,Bc (dT (by decide)),Hc 0 x.Steps.1 (by decide) (by rfl),Q2 hF (by simp [G5];omega) h7,sb,ckb (by omega),
    C2,Cq,Bc (dT (by decide)),Hc 1 x.Steps.2 (by decide) (by rfl),Q2 hF (by simp [G5];omega) h8,sb,ckb (by omega),
    C2,Cq,Bc (dT (by decide)),Hc 2 x.Turn (by decide) (by rfl),Q2 hF (by simp [G5];omega) h9,sb,ckb (by omega),
    C2,Cq,B5 (dF (by decide))]
   simp [Jz,hk3,G5]
  ·rw [B5 (by simp [hk3])]
   simp [Jz,hk,hk3,G5]
theorem T6 {x:api_Echo} (hx:okE x):(Jz x).length≤130:=by
 obtain ⟨h1,h2,h3,h4,h5,h6,h7,h8,h9⟩:=hx
 have a1:=Eh h1
 have a2:=Eh h2
 have a3:=Eh h3
 have a4:=Fi h4
 have a5:=Fi h5
 have a6:=Fi h6
 have a7:=Fi h7
 have a8:=Fi h8
 have a9:=Fi h9
 unfold Jz
 split
 ·simp;omega
 ·split<;>simp<;>omega
def Jp {α:Type} [DecidableEq α] (e:α→List Int):α→Nat→List α→List Int
 | _,n,[]=>if n=0 then [] else Ga n
 | b,n,x::l=>if x=b then Jp e b (n+1) l else Ga n++(e x++Jp e x 0 l)
def Hr {α:Type} [DecidableEq α] (b:α):List α→Nat
 | []=>0
 | x::l=>if x=b then Hr b l+1 else 0
theorem Rl {α:Type} [DecidableEq α] (b:α) (l:List α):Hr b l≤l.length:=by
 induction l with
 | nil=>exact Nat.le_refl _
 | cons x l ih=>unfold Hr;split<;>simp<;>omega
theorem Vz {α:Type} [DecidableEq α] {b:α} {l:List α} {i:Nat} (h:i<Hr b l):l[i]? = some b:=by
 induction l generalizing i with
 | nil=>simp [Hr] at h
 | cons x l ih =>
  unfold Hr at h
  split at h
  ·rename_i hx
   cases i with
   | zero=>simp [hx]
   | succ i=>simpa using ih (by omega)
  ·omega
theorem Vy {α:Type} [DecidableEq α] {b:α} {l:List α} {x:α} (h:l[Hr b l]? = some x):x≠b:=by
 induction l with
 | nil=>simp at h
 | cons y l ih =>
  unfold Hr at h
  split at h
  ·exact ih (by simpa using h)
  ·rename_i hy;simp at h;subst h;exact hy
theorem Th {α:Type} [DecidableEq α] (e:α→List Int) (b:α) (n:Nat) (l:List α) (h:n≠0∨l≠[]):Jp e b n l=Ga (n+Hr b l)++(match l.drop (Hr b l) with|[]=>[]|y::r=>e y++Jp e y 0 r):=by
 induction l generalizing n with
 | nil=>rw [Jp,Hr,if_neg (by simpa using h)];simp
 | cons x l ih =>
  rw [Jp,Hr]
  split
  ·rw [ih (n+1) (.inl (by omega))]
   simp only [List.drop_succ_cons]
   rw [show n+1+Hr b l=n+(Hr b l+1) by omega]
  ·simp
theorem Uo {α:Type} [DecidableEq α] {e:α→List Int} {c:Nat}:∀(l:List α) (b:α) (n:Nat),(∀x∈l,(e x).length≤c)→n+l.length≤1000000000→(Jp e b n l).length≤9+(c+9)*l.length:=by
 intro l
 induction l with
 | nil =>
  intro b n h hn
  have:=Eh (x:=(n:Int)) ⟨by omega,by simp at hn;omega⟩
  rw [Jp]
  split<;>simp at*<;>omega
 | cons x l ih =>
  intro b n h hn
  have h1:=Eh (x:=(n:Int)) ⟨by omega,by simp at hn;omega⟩
  have h2:=h x (by simp)
  have hm:(c+9)*(l.length+1)=(c+9)*l.length+(c+9):=by rw [Nat.mul_add,Nat.mul_one]
  rw [Jp]
  simp only [List.length_cons] at hn ⊢
  rw [hm]
  split
  ·have:=ih b (n+1) (fun y hy=>h y (by simp [hy])) (by omega)
   omega
  ·have:=ih x 0 (fun y hy=>h y (by simp [hy])) (by omega)
   simp at h1 ⊢
   omega
theorem U2 (u b:api_Span):(((u.Lo:Int)==b.Lo)&&(((u.Hi:Int)==b.Hi)&&true))=decide (u=b):=by
 cases u;cases b
 rw [Bool.eq_iff_iff]
 simp
theorem Tn (u b:api_Echo):(((u.Kind:Int)==b.Kind)&&((((u.Power.Lo:Int)==b.Power.Lo)&&(((u.Power.Hi:Int)==b.Power.Hi)&&true))&&(((((u.Steps.1.Lo:Int)==b.Steps.1.Lo)&&(((u.Steps.1.Hi:Int)==b.Steps.1.Hi)&&true))&&((((u.Steps.2.Lo:Int)==b.Steps.2.Lo)&&(((u.Steps.2.Hi:Int)==b.Steps.2.Hi)&&true))&&true))&&(((u.Spread:Int)==b.Spread)&&((((u.Ratio.Lo:Int)==b.Ratio.Lo)&&(((u.Ratio.Hi:Int)==b.Ratio.Hi)&&true))&&((((u.Match.Lo:Int)==b.Match.Lo)&&(((u.Match.Hi:Int)==b.Match.Hi)&&true))&&((((u.Turn.Lo:Int)==b.Turn.Lo)&&(((u.Turn.Hi:Int)==b.Turn.Hi)&&true))&&true)))))))=decide (u=b):=by
 rcases u with ⟨k,⟨p1,p2⟩,⟨⟨s1,s2⟩,⟨s3,s4⟩⟩,sp,⟨r1,r2⟩,⟨m1,m2⟩,⟨t1,t2⟩⟩
 rcases b with ⟨k',⟨p1',p2'⟩,⟨⟨s1',s2'⟩,⟨s3',s4'⟩⟩,sp',⟨r1',r2'⟩,⟨m1',m2'⟩,⟨t1',t2'⟩⟩
 rw [Bool.eq_iff_iff]
 simp [and_assoc]
theorem gdt {g:Bool} (h:g=true):((g==true&&true))=true:=by rw [h];rfl
theorem gdf {g:Bool} (h:g=false):((g==true&&true))=false:=by rw [h];rfl
theorem Zh (F:Nat) (b:api_Span) (w:List Int) (l:List api_Span) (k1:Int→Int→List Int→List api_Span→Option volume_writer) (hl:l.length≤1000000000):∀(m i:Nat),i≤Hr b l→Hr b l-i<m →
  Bh F b.Lo b.Hi w l k1 m i=C0 F b.Lo b.Hi w l k1 (Hr b l:Nat):=by
 intro m
 have hle:=Rl b l
 induction m with
 | zero=>intro i _ h;omega
 | succ m ih =>
  intro i hi hm
  rw [Bh,Cw]
  by_cases hb:i<Hr b l
  ·have hx:=Vz hb
   rw [gdT (gdt (dT (by omega))),Hc i b rfl hx,U2 b b,Bc (x:=decide (b=b)) (dT (by omega)),Bc (dT rfl),ckb (by omega)]
   exact ih (i+1) (by omega) (by omega)
  ·have he:i=Hr b l:=by omega
   subst he
   by_cases hc:Hr b l<l.length
   ·have hg:=List.getElem?_eq_getElem hc
    rw [gdT (gdt (dT (by omega))),Hc _ _ rfl hg,U2 _ b,Bc (x:=decide (l[Hr b l]=b)) (dT (by omega)),B5 (dF (Vy hg))]
   ·rw [gdF (gdf (dF (by omega))),sb,B5 (B5 (dF (by omega)))]
theorem Qr {α:Type} {l:List α} {n:Nat} {y:α} {r:List α} (h:l.drop n=y::r):l[n]? = some y∧n<l.length∧r=l.drop (n+1)∧r.length<l.length∧y∈l:=by
 have hn:n<l.length:=by
  rcases Nat.lt_or_ge n l.length with h1|h1
  ·exact h1
  ·rw [List.drop_of_length_le h1] at h;cases h
 rw [List.drop_eq_getElem_cons hn] at h
 cases h
 refine ⟨List.getElem?_eq_getElem hn,hn,rfl,by simp;omega,List.getElem_mem hn⟩
theorem A1r (F:Nat) (hF:1000≤F):∀(m:Nat) (l:List api_Span) (b:api_Span) (w:List Int),l.length<m→l.length<F→l.length≤1000000000→(∀x∈l,okS x)→w.length+200*l.length≤999999900000 →
  B8 F m b.Lo b.Hi w l=some ⟨w++Jp H7 b 0 l⟩:=by
 intro m
 induction m with
 | zero=>intro l b w h;omega
 | succ m ih =>
  intro l b w h hlF hl9 hok hw
  rw [B8,Bz]
  cases hl:l with
  | nil=>simp [Jp]
  | cons x0 l0 =>
   rw [←hl]
   have hpos:0<l.length:=by rw [hl];simp
   have hle:=Rl b l
   have h9:=Eh (x:=(Hr b l:Int)) ⟨by omega,by omega⟩
   rw [Int.toNat_natCast] at h9
   rw [Bc (dT (by omega)),show (0:Int)=((0:Nat):Int) from rfl,Zh F b w l _ hl9 F 0 (by omega) (by omega),C0,Fq hF (by unfold okW;simp;omega) (by intro x hx;simp at hx;subst hx;exact ⟨by omega,by omega⟩) (by simp),sb,
    Kg (Hr b l) rfl rfl hle,Th H7 b 0 l (.inr (by rw [hl];simp))]
   cases hd:l.drop (Hr b l) with
   | nil =>
    rw [B5 (dF (by simp))]
    cases m with
    | zero=>omega
    | succ m=>rw [B8,Bz,B5 (dF (by simp))];simp [G5]
   | cons y r =>
    obtain ⟨hg,hn,hr,hrl,hy⟩:=Qr hd
    rw [Bc (dT (by simp)),Hc 0 y (by rfl) (by rfl),Kg 1 (by decide) (by rfl) (by simp),Q2 hF (by simp [G5];omega) (hok y hy),sb]
    simp only [List.drop_succ_cons,List.drop_zero]
    rw [ih r y _ (by omega) (by omega) (by omega) (fun z hz=>hok z (by rw [hr] at hz;exact List.mem_of_mem_drop hz)) (by have:=Fi (hok y hy);simp [G5];omega)]
    simp [G5]
theorem Ze {F:Nat} (hF:1000≤F) {w:volume_writer} {l:List api_Span} {b:api_Span} (hl:l.length<F) (hl9:l.length≤1000000000) (hok:∀x∈l,okS x) (hw:w.b.length+200*l.length≤999999900000):Ch F w l b=some ⟨w.b++Jp H7 b 0 l⟩:=by
 rw [Ch]
 exact A1r F hF F l b w.b hl hl hl9 hok hw
theorem Zg (F:Nat) (b:api_Echo) (w:List Int) (l:List api_Echo) (k1:Int→Int→Int→Int→Int→Int→Int→Int→Int→Int→Int→Int→Int→Int→List Int→List api_Echo→Option volume_writer) (hl:l.length≤1000000000):∀(m i:Nat),i≤Hr b l→Hr b l-i<m →
  Bg F b.Kind b.Power.Lo b.Match.Lo b.Match.Hi b.Turn.Lo b.Turn.Hi b.Power.Hi b.Steps.1.Lo b.Steps.1.Hi b.Steps.2.Lo b.Steps.2.Hi b.Spread b.Ratio.Lo b.Ratio.Hi w l k1 m i=Bx F b.Kind b.Power.Lo b.Match.Lo b.Match.Hi b.Turn.Lo b.Turn.Hi b.Power.Hi b.Steps.1.Lo b.Steps.1.Hi b.Steps.2.Lo b.Steps.2.Hi b.Spread b.Ratio.Lo b.Ratio.Hi w l k1 (Hr b l:Nat):=by
 intro m
 have hle:=Rl b l
 induction m with
 | zero=>intro i _ h;omega
 | succ m ih =>
  intro i hi hm
  rw [Bg,Cv]
  by_cases hb:i<Hr b l
  ·have hx:=Vz hb
   rw [gdT (gdt (dT (by omega))),Hc i b rfl hx,Tn b b,Bc (x:=decide (b=b)) (dT (by omega)),Bc (dT rfl),ckb (by omega)]
   exact ih (i+1) (by omega) (by omega)
  ·have he:i=Hr b l:=by omega
   subst he
   by_cases hc:Hr b l<l.length
   ·have hg:=List.getElem?_eq_getElem hc
    rw [gdT (gdt (dT (by omega))),Hc _ _ rfl hg,Tn _ b,Bc (x:=decide (l[Hr b l]=b)) (dT (by omega)),B5 (dF (Vy hg))]
   ·rw [gdF (gdf (dF (by omega))),sb,B5 (B5 (dF (by omega)))]
theorem A1q (F:Nat) (hF:1000≤F):∀(m:Nat) (l:List api_Echo) (b:api_Echo) (w:List Int),l.length<m→l.length<F→l.length≤1000000000→(∀x∈l,okE x)→w.length+300*l.length≤999999900000 →
  B7 F m b.Kind b.Power.Lo b.Match.Lo b.Match.Hi b.Turn.Lo b.Turn.Hi b.Power.Hi b.Steps.1.Lo b.Steps.1.Hi b.Steps.2.Lo b.Steps.2.Hi b.Spread b.Ratio.Lo b.Ratio.Hi w l=some ⟨w++Jp Jz b 0 l⟩:=by
 intro m
 induction m with
 | zero=>intro l b w h;omega
 | succ m ih =>
  intro l b w h hlF hl9 hok hw
  rw [B7,Bw]
  cases hl:l with
  | nil=>simp [Jp]
  | cons x0 l0 =>
   rw [←hl]
   have hpos:0<l.length:=by rw [hl];simp
   have hle:=Rl b l
   have h9:=Eh (x:=(Hr b l:Int)) ⟨by omega,by omega⟩
   rw [Int.toNat_natCast] at h9
   rw [Bc (dT (by omega)),show (0:Int)=((0:Nat):Int) from rfl,Zg F b w l _ hl9 F 0 (by omega) (by omega),Bx,Fq hF (by unfold okW;simp;omega) (by intro x hx;simp at hx;subst hx;exact ⟨by omega,by omega⟩) (by simp),sb,
    Kg (Hr b l) rfl rfl hle,Th Jz b 0 l (.inr (by rw [hl];simp))]
   cases hd:l.drop (Hr b l) with
   | nil =>
    rw [B5 (dF (by simp))]
    cases m with
    | zero=>omega
    | succ m=>rw [B7,Bw,B5 (dF (by simp))];simp [G5]
   | cons y r =>
    obtain ⟨hg,hn,hr,hrl,hy⟩:=Qr hd
    rw [Bc (dT (by simp)),Hc 0 y (by rfl) (by rfl),Kg 1 (by decide) (by rfl) (by simp),A0u hF (by simp [G5];omega) (hok y hy),sb]
    simp only [List.drop_succ_cons,List.drop_zero]
    rw [ih r y _ (by omega) (by omega) (by omega) (fun z hz=>hok z (by rw [hr] at hz;exact List.mem_of_mem_drop hz)) (by have:=T6 (hok y hy);simp [G5];omega)]
    simp [G5]
theorem Yh {F:Nat} (hF:1000≤F) {w:volume_writer} {l:List api_Echo} {b:api_Echo} (hl:l.length<F) (hl9:l.length≤1000000000) (hok:∀x∈l,okE x) (hw:w.b.length+300*l.length≤999999900000):Cg F w l b=some ⟨w.b++Jp Jz b 0 l⟩:=by
 rw [Cg]
 exact A1q F hF F l b w.b hl hl hl9 hok hw
def e0:api_Echo:=⟨1,⟨0,0⟩,(⟨0,0⟩,⟨0,0⟩),0,⟨0,0⟩,⟨0,0⟩,⟨0,0⟩⟩
def Jr (s:ByteArray):List Int:=Ga s.size++sby s
def Qc (l:List Int):List Int:=l.flatMap fun x=>Ga (zig x)
def Q0 (s:api_Sweep):List Int:=G5 [1]++(Jr s.Site.Name++(Qc [s.Site.X,s.Site.Y]++(G5 [s.Site.Z,s.Site.Rose,s.Site.Gates,s.Site.Step,s.Site.Width,s.Tilt,s.Time]++Jp Jz e0 0 s.Rays.flatten)))
def Po (f:volume_field):List Int:=G5 [2]++(Jr f.key++(G5 [f.time]++(Qc [f.Field.Grid.X,f.Field.Grid.Y]++(G5 [f.Field.Grid.Size,f.Field.Grid.Wide,f.Field.Grid.High]++Jp H7 ⟨0,0⟩ 0 f.Field.Vals))))
def Sd (n:volume_note):List Int:=G5 [3,n.time]++Jr n.text
def D1 (t:volume_thing):List Int:=t.cs [] (fun s=>Q0 s.Sweep) Po Sd
def A07 (s:api_Site):Prop:=s.Name.size≤1000∧okZ s.X∧okZ s.Y∧okN s.Z∧okN s.Rose∧okN s.Gates∧okN s.Step∧okN s.Width
def Qi (s:api_Sweep):Prop:=A07 s.Site∧okN s.Tilt∧okN s.Time∧s.Rays.length≤1000∧s.Rays.flatten.length≤100000∧∀r∈s.Rays,∀x∈r,okE x
def Rn (f:volume_field):Prop:=f.key.size≤1000∧okN f.time∧okZ f.Field.Grid.X∧okZ f.Field.Grid.Y∧okN f.Field.Grid.Size∧okN f.Field.Grid.Wide∧okN f.Field.Grid.High∧f.Field.Vals.length≤100000∧∀x∈f.Field.Vals,okS x
def V9 (n:volume_note):Prop:=okN n.time∧n.text.size≤1000
def okT (t:volume_thing):Prop:=t.cs False (fun s=>Qi s.Sweep) Rn V9
theorem H4 {l:List Int} (h:∀x∈l,okN x):(G5 l).length≤9*l.length:=by
 induction l with
 | nil=>simp [G5]
 | cons x l ih =>
  have h1:=Eh (h x (by simp))
  have h2:=ih fun y hy=>h y (by simp [hy])
  simp only [G5,List.flatMap_cons,List.length_append,List.length_cons] at h2 ⊢
  omega
theorem Qd {l:List Int} (h:∀x∈l,okZ x):(Qc l).length≤9*l.length:=by
 induction l with
 | nil=>simp [Qc]
 | cons x l ih =>
  have h1:=Eh (Vl (h x (by simp)))
  rw [Int.toNat_natCast] at h1
  have h2:=ih fun y hy=>h y (by simp [hy])
  simp only [Qc,List.flatMap_cons,List.length_append,List.length_cons] at h2 ⊢
  omega
theorem Mb {s:ByteArray} (h:s.size≤1000):(Jr s).length≤1009:=by
 have h9:=Eh (x:=(s.size:Int)) ⟨by omega,by omega⟩
 rw [Int.toNat_natCast] at h9
 unfold Jr
 rw [List.length_append,Jq];omega
theorem L8 {x:Int} (h:0≤x∧x≤1000000):okN x:=⟨h.1,by omega⟩
theorem A0y (F:Nat) (hF:200000≤F) (s:volume_sweep) (y:volume_writer) (hok:Qi s.Sweep) (hy:y.b.length≤1000000):∀(m i:Nat) (acc:List api_Echo),s.Sweep.Rays.length-i<m→i≤s.Sweep.Rays.length→acc++(s.Sweep.Rays.drop i).flatten=s.Sweep.Rays.flatten →
  Do F s y m acc i=some ⟨y.b++Jp Jz e0 0 s.Sweep.Rays.flatten⟩:=by
 intro m
 obtain ⟨h1,h2,h3,h4,h5,h6⟩:=hok
 induction m with
 | zero=>intro i acc h;omega
 | succ m ih =>
  intro i acc h hi hacc
  have hal:acc.length≤100000:=by
   have:=congrArg List.length hacc
   rw [List.length_append] at this;omega
  rw [Do,Fs]
  by_cases hb:i<s.Sweep.Rays.length
  ·have hd:=List.drop_eq_getElem_cons hb
   have hacc2:(acc++s.Sweep.Rays[i])++(s.Sweep.Rays.drop (i+1)).flatten=s.Sweep.Rays.flatten:=by rw [←hacc,hd,List.flatten_cons,List.append_assoc]
   have hal2:acc.length+s.Sweep.Rays[i].length≤100000:=by
    have:=congrArg List.length hacc2
    simp only [List.length_append] at this;omega
   rw [Bc (dT (by omega)),Hc i _ rfl (List.getElem?_eq_getElem hb),M3 (by omega) (by decide),ckb (by omega)]
   exact ih (i+1) _ (by omega) (by omega) hacc2
  ·have he:acc=s.Sweep.Rays.flatten:=by
    rw [List.drop_of_length_le (by omega)] at hacc;simpa using hacc
   rw [B5 (dF (by omega)),he,Ft,Yh (by omega) (by omega) (by omega) (fun x hx=>?_) (by omega)]
   ·rfl
   ·obtain ⟨r,hr,hx⟩:=List.mem_flatten.1 hx
    exact h6 r hr x hx
theorem Zf {F:Nat} (hF:200000≤F) {t:volume_thing} (h:okT t):J8 F t ⟨[]⟩=some ⟨D1 t⟩:=by
 cases t with
 | nil_=>exact h.elim
 | ic112 s =>
  have hs:Qi s.Sweep:=h
  have h':=hs
  obtain ⟨⟨a1,a2,a3,a4,a5,a6,a7,a8⟩,h2,h3,h4,h5,h6⟩:=h'
  have o1:∀x∈[(1:Int)],okN x:=by intro x hx;simp at hx;subst hx;exact L8 (by decide)
  have o2:∀x∈[s.Sweep.Site.X,s.Sweep.Site.Y],okZ x:=by intro x hx;simp at hx;rcases hx with rfl|rfl<;>assumption
  have o3:∀x∈[s.Sweep.Site.Z,s.Sweep.Site.Rose,s.Sweep.Site.Gates,s.Sweep.Site.Step,s.Sweep.Site.Width,s.Sweep.Tilt,s.Sweep.Time],okN x:=by intro x hx;simp at hx;rcases hx with rfl|rfl|rfl|rfl|rfl|rfl|rfl<;>assumption
  have l1:=H4 o1
  have l2:=Mb a1
  have l3:=Qd o2
  have l4:=H4 o3
  simp only [List.length_cons,List.length_nil] at l1 l3 l4
  show Fp F s ⟨[]⟩=some ⟨Q0 s.Sweep⟩
  rw [Fp,Fq (by omega) (by unfold okW;simp) o1 (by simp),sb,Vj (by omega) (by simp only [List.nil_append];omega) (by omega),sb]
  rw [R4 (by omega) (by simp only [List.nil_append,List.length_append];unfold Jr at l2;rw [List.length_append] at l2;omega) o2 (by simp),sb,Fq (by omega) (by unfold okW;unfold Qc at l3;unfold Jr at l2;simp only [List.nil_append,List.length_append] at *;omega) o3 (by simp),sb]
  rw [show (0:Int)=((0:Nat):Int) from rfl,A0y F hF s _ hs (by unfold Qc at l3;unfold Jr at l2;simp only [List.nil_append,List.length_append] at *;omega) F 0 [] (by omega) (by omega) (by simp)]
  simp [Q0,Jr,Qc]
 | ic114 f =>
  obtain ⟨a1,a2,a3,a4,a5,a6,a7,a8,a9⟩:=(show Rn f from h)
  have o1:∀x∈[(2:Int)],okN x:=by intro x hx;simp at hx;subst hx;exact L8 (by decide)
  have o4:∀x∈[f.time],okN x:=by intro x hx;simp at hx;subst hx;exact a2
  have o2:∀x∈[f.Field.Grid.X,f.Field.Grid.Y],okZ x:=by intro x hx;simp at hx;rcases hx with rfl|rfl<;>assumption
  have o3:∀x∈[f.Field.Grid.Size,f.Field.Grid.Wide,f.Field.Grid.High],okN x:=by intro x hx;simp at hx;rcases hx with rfl|rfl|rfl<;>assumption
  have l1:=H4 o1
  have l2:=Mb a1
  have l3:=Qd o2
  have l4:=H4 o3
  have l5:=H4 o4
  simp only [List.length_cons,List.length_nil] at l1 l3 l4 l5
  show Fn F f ⟨[]⟩=some ⟨Po f⟩
  rw [Fn,Fq (by omega) (by unfold okW;simp) o1 (by simp),sb,Vj (by omega) (by simp only [List.nil_append];omega) (by omega),sb]
  rw [Fq (by omega) (by unfold okW;unfold Jr at l2;simp only [List.nil_append,List.length_append] at *;omega) o4 (by simp),sb]
  rw [R4 (by omega) (by unfold Jr at l2;simp only [List.nil_append,List.length_append] at *;omega) o2 (by simp),sb,Fq (by omega) (by unfold okW;unfold Qc at l3;unfold Jr at l2;simp only [List.nil_append,List.length_append] at *;omega) o3 (by simp),sb]
  rw [Ze (by omega) (by omega) (by omega) a9 (by unfold Qc at l3;unfold Jr at l2;simp only [List.nil_append,List.length_append] at *;omega),sb]
  simp [Po,Jr,Qc]
 | ic116 n =>
  obtain ⟨a1,a2⟩:=(show V9 n from h)
  have o1:∀x∈[(3:Int),n.time],okN x:=by intro x hx;simp at hx;rcases hx with rfl|rfl;(exact L8 (by decide));exact a1
  have l1:=H4 o1
  simp only [List.length_cons,List.length_nil] at l1
  show G9 F n ⟨[]⟩=some ⟨Sd n⟩
  rw [G9,Fq (by omega) (by unfold okW;simp) o1 (by simp),sb,Vj (by omega) (by simp only [List.nil_append];omega) (by omega),sb]
  simp [Sd,Jr]
end Go.Proofs.Ytifbomimeodibaa
namespace Go.Proofs.Ytifbomimeodibaa
open Go Go.RowKit Go.Eng
set_option maxRecDepth 10000
set_option linter.unusedVariables false
set_option linter.unusedSimpArgs false
def Uw:Nat→List Int→Nat
 | c,[]=>c
 | c,x::l=>Uw ((31*c+x.toNat)%2147483647) l
def Za (c:Nat):List Int:=[128+((c%127:Nat):Int),128+((c/127%127:Nat):Int),128+((c/127/127%127:Nat):Int),128+((c/127/127/127%127:Nat):Int),1+((c/127/127/127/127%127:Nat):Int)]
def U3 (l:List Int):List Int:=Za (Uw 1 l)
theorem Np (l:List Int):(U3 l).length=5:=rfl
theorem A1m {α β:Type} {l:List α} {i:Int} {x:α} {f:List α→Option β} (n:Nat) (hi:i=(n:Int)) (h:n<l.length):(U1 l i x).bind f=f (l.set n x):=by
 subst hi
 unfold U1
 rw [if_pos (by omega)]
 rfl
theorem Z7 (F:Nat) (hF:10≤F) (c:Nat) (hc:c<2147483647):Er F 5 0 c (List.replicate 5 0)=some (Za c):=by
 obtain ⟨G,rfl⟩:∃G,F=G+6:=⟨F-6,by omega⟩
 have step:∀(m i d:Nat) (l:List Int),i<5→l.length=5→d<2147483647→Er (m+1) 5 i d l=Er m 5 (i+1:Nat) (d/127:Nat) (l.set i (128+((d%127:Nat):Int))):=by
  intro m i d l hi hl hd
  rw [Er,J0,Bc (dT (by omega)),(tdm d).1,sb]
  have:=Nat.mod_lt d (show 0<127 by decide)
  rw [ckb (by omega),Hc i l[i] rfl (List.getElem?_eq_getElem (by omega)),A1m i rfl (by omega),(tdm d).2,ckb (by omega),ckb (by omega),Uz (by omega)]
  rfl
 rw [show (0:Int)=((0:Nat):Int) from rfl,step (G+5) 0 c _ (by decide) (by simp) hc,step (G+4) 1 _ _ (by decide) (by simp) (by omega),step (G+3) 2 _ _ (by decide) (by simp) (by omega),step (G+2) 3 _ _ (by decide) (by simp) (by omega),step (G+1) 4 _ _ (by decide) (by simp) (by omega)]
 rw [Er,J0,B5 (dF (by decide)),Kl]
 simp only [List.replicate,List.set_cons_zero,List.set_cons_succ]
 have h4:(128:Int)+((c/127/127/127/127%127:Nat):Int)-127=1+((c/127/127/127/127%127:Nat):Int):=by omega
 have:=Nat.mod_lt (c/127/127/127/127) (show 0<127 by decide)
 rw [Hc 4 (128+((c/127/127/127/127%127:Nat):Int)) (by decide) (by rfl),Hc 4 (128+((c/127/127/127/127%127:Nat):Int)) (by decide) (by rfl),A1m 4 (by decide) (by simp),h4,Uz (by omega)]
 rfl
theorem Z8 (F:Nat) (hF:10≤F) (p:List Int) (hp:By p) (hpl:p.length≤1000000000):∀(m i c:Nat),p.length-i<m→i≤p.length→c<2147483647→Ha F p m i c=some (Za (Uw c (p.drop i))):=by
 intro m
 induction m with
 | zero=>intro i c h;omega
 | succ m ih =>
  intro i c h hi hc
  rw [Ha,Kj]
  by_cases hb:i<p.length
  ·have hx:=hp p[i] (List.getElem_mem hb)
   rw [Bc (dT (by omega)),Hc i p[i] rfl (List.getElem?_eq_getElem hb),ckb (by omega),ckb (by omega),ckb (by omega)]
   have e:Jo (31*(c:Int)+p[i]) 2147483647=some (((31*c+p[i].toNat)%2147483647:Nat):Int):=by
    have e1:31*(c:Int)+p[i]=((31*c+p[i].toNat:Nat):Int):=by omega
    rw [e1]
    unfold Jo
    rw [if_neg (by decide)]
    congr 1
   rw [e,sb,ckb (by omega)]
   have:=ih (i+1) _ (by omega) (by omega) (Nat.mod_lt (31*c+p[i].toNat) (show 0<2147483647 by decide))
   rw [show ((i:Int)+1)=((i+1:Nat):Int) by omega,this,List.drop_eq_getElem_cons hb]
   rfl
  ·rw [B5 (dF (by omega)),Kk,List.drop_of_length_le (by omega)]
   show (mkI 1 5 0).bind _=_
   rw [show mkI 1 5 (0:Int)=some (List.replicate 5 0) from by unfold mkI;rw [if_pos (by decide)];rfl,sb]
   exact Z7 F hF c hc
theorem Yb {F:Nat} (hF:10≤F) {p:List Int} (hp:By p) (hl:p.length<F) (hl9:p.length≤1000000000):J7 F p=some (U3 p):=by
 rw [J7]
 exact Z8 F hF p hp hl9 F 0 1 (by omega) (by omega) (by decide)
theorem W2 (n:Nat):By (Ga n):=fun x hx=>by have:=W3 n x hx;omega
theorem By.fm {α:Type} {l:List α} {f:α→List Int} (h:∀x∈l,By (f x)):By (l.flatMap f):=fun x hx=>by
 obtain ⟨y,hy,hx⟩:=List.mem_flatMap.1 hx
 exact h y hy x hx
def Nz (l:List Int):Prop:=∀x∈l,1≤x∧x<256
theorem Nz.by {l:List Int} (h:Nz l):By l:=fun x hx=>by have:=h x hx;omega
theorem Nz.app {l k:List Int} (h:Nz l) (h':Nz k):Nz (l++k):=fun x hx=>(List.mem_append.1 hx).elim (h x) (h' x)
theorem Nz.nil:Nz []:=fun x hx=>by cases hx
theorem Nz.fm {α:Type} {l:List α} {f:α→List Int} (h:∀x∈l,Nz (f x)):Nz (l.flatMap f):=fun x hx=>by
 obtain ⟨y,hy,hx⟩:=List.mem_flatMap.1 hx
 exact h y hy x hx
theorem Jl (n:Nat):Nz (Ga n):=fun x hx=>by have:=W3 n x hx;omega
theorem J3 (l:List Int):Nz (G5 l):=Nz.fm fun x _=>Jl _
theorem Rj (l:List Int):Nz (Qc l):=Nz.fm fun x _=>Jl _
theorem Kn (s:api_Span):Nz (H7 s):=(Jl _).app (Jl _)
theorem U8 (x:api_Echo):Nz (Jz x):=by
 unfold Jz
 refine (Jl _).app ?_
 split
 ·exact Jl _
 ·refine (Kn _).app ((Kn _).app ((Kn _).app ((Jl _).app ?_)))
  split
  ·exact (Kn _).app ((Kn _).app (Kn _))
  ·exact Nz.nil
theorem Ro {α:Type} [DecidableEq α] {e:α→List Int} (he:∀x,Nz (e x)):∀(l:List α) (b:α) (n:Nat),Nz (Jp e b n l):=by
 intro l
 induction l with
 | nil=>intro b n;rw [Jp];split;exact Nz.nil;exact Jl _
 | cons x l ih =>
  intro b n
  rw [Jp]
  split
  ·exact ih _ _
  ·exact (Jl _).app ((he x).app (ih _ _))
theorem Wc (l:List Int):Nz (U3 l):=by
 have h:∀c:Nat,(0:Int)≤((c%127:Nat):Int)∧((c%127:Nat):Int)<127:=fun c=>by have:=Nat.mod_lt c (show 0<127 by decide);omega
 intro x hx
 unfold U3 Za at hx
 simp only [List.mem_cons,List.not_mem_nil,or_false] at hx
 rcases hx with rfl|rfl|rfl|rfl|rfl
 ·have:=h (Uw 1 l);omega
 ·have:=h (Uw 1 l/127);omega
 ·have:=h (Uw 1 l/127/127);omega
 ·have:=h (Uw 1 l/127/127/127);omega
 ·have:=h (Uw 1 l/127/127/127/127);omega
def Tz (s:ByteArray):Prop:=Nz (sby s)
theorem Sq {s:ByteArray} (h:Tz s):Nz (Jr s):=(Jl _).app h
def tzT (t:volume_thing):Prop:=t.cs True (fun s=>Tz s.Sweep.Site.Name) (fun f=>Tz f.key) (fun n=>Tz n.text)
theorem X5 {t:volume_thing} (h:tzT t):Nz (D1 t):=by
 cases t with
 | nil_=>exact Nz.nil
 | ic112 s=>exact (J3 _).app ((Sq h).app ((Rj _).app ((J3 _).app (Ro U8 _ _ _))))
 | ic114 f=>exact (J3 _).app ((Sq h).app ((J3 _).app ((Rj _).app ((J3 _).app (Ro Kn _ _ _)))))
 | ic116 n=>exact (J3 _).app (Sq h)
def cnt (t:volume_thing):Nat:=t.cs 0 (fun s=>s.Sweep.Rays.flatten.length) (fun f=>f.Field.Vals.length) (fun _=>0)
theorem Rb {t:volume_thing} (h:okT t):(D1 t).length≤1200+139*cnt t:=by
 cases t with
 | nil_=>exact h.elim
 | ic112 s =>
  obtain ⟨⟨a1,a2,a3,a4,a5,a6,a7,a8⟩,h2,h3,h4,h5,h6⟩:=(show Qi s.Sweep from h)
  have l1:=H4 (l:=[(1:Int)]) (by intro x hx;simp at hx;subst hx;exact L8 (by decide))
  have l2:=Mb a1
  have l3:=Qd (l:=[s.Sweep.Site.X,s.Sweep.Site.Y]) (by intro x hx;simp at hx;rcases hx with rfl|rfl<;>assumption)
  have l4:=H4 (l:=[s.Sweep.Site.Z,s.Sweep.Site.Rose,s.Sweep.Site.Gates,s.Sweep.Site.Step,s.Sweep.Site.Width,s.Sweep.Tilt,s.Sweep.Time]) (by intro x hx;simp at hx;rcases hx with rfl|rfl|rfl|rfl|rfl|rfl|rfl<;>assumption)
  have l5:=Uo (e:=Jz) (c:=130) s.Sweep.Rays.flatten e0 0 (fun x hx=>T6 (by obtain ⟨r,hr,hx⟩:=List.mem_flatten.1 hx;exact h6 r hr x hx)) (by omega)
  simp only [List.length_cons,List.length_nil] at l1 l3 l4
  show (Q0 s.Sweep).length≤1200+139*s.Sweep.Rays.flatten.length
  simp only [Q0,List.length_append]
  omega
 | ic114 f =>
  obtain ⟨a1,a2,a3,a4,a5,a6,a7,a8,a9⟩:=(show Rn f from h)
  have l1:=H4 (l:=[(2:Int)]) (by intro x hx;simp at hx;subst hx;exact L8 (by decide))
  have l2:=Mb a1
  have l3:=Qd (l:=[f.Field.Grid.X,f.Field.Grid.Y]) (by intro x hx;simp at hx;rcases hx with rfl|rfl<;>assumption)
  have l4:=H4 (l:=[f.Field.Grid.Size,f.Field.Grid.Wide,f.Field.Grid.High]) (by intro x hx;simp at hx;rcases hx with rfl|rfl|rfl<;>assumption)
  have l6:=H4 (l:=[f.time]) (by intro x hx;simp at hx;subst hx;exact a2)
  have l5:=Uo (e:=H7) (c:=18) f.Field.Vals ⟨0,0⟩ 0 (fun x hx=>Fi (a9 x hx)) (by omega)
  simp only [List.length_cons,List.length_nil] at l1 l3 l4 l6
  show (Po f).length≤1200+139*f.Field.Vals.length
  simp only [Po,List.length_append]
  omega
 | ic116 n =>
  obtain ⟨a1,a2⟩:=(show V9 n from h)
  have l1:=H4 (l:=[(3:Int),n.time]) (by intro x hx;simp at hx;rcases hx with rfl|rfl;(exact L8 (by decide));exact a1)
  have l2:=Mb a2
  simp only [List.length_cons,List.length_nil] at l1
  show (Sd n).length≤1200+139*0
  simp only [Sd,List.length_append]
  omega
theorem A0n (s:ByteArray):By (sby s):=fun x hx=>by
 obtain ⟨b,_,rfl⟩:=List.mem_map.1 hx
 have:=b.toNat_lt
 omega
theorem Sp (s:ByteArray):By (Jr s):=(W2 _).app (A0n s)
theorem X4 (t:volume_thing):By (D1 t):=by
 cases t with
 | nil_=>exact Nz.nil.by
 | ic112 s=>exact (J3 _).by.app ((Sp _).app ((Rj _).by.app ((J3 _).by.app (Ro U8 _ _ _).by)))
 | ic114 f=>exact (J3 _).by.app ((Sp _).app ((J3 _).by.app ((Rj _).by.app ((J3 _).by.app (Ro Kn _ _ _).by))))
 | ic116 n=>exact (J3 _).by.app (Sp _)
theorem Q1 {t:volume_thing} (h:okT t):(D1 t).length≤14000000:=by
 have h1:=Rb h
 have h2:cnt t≤100000:=by
  cases t with
  | nil_=>exact h.elim
  | ic112 s=>exact (show Qi s.Sweep from h).2.2.2.2.1
  | ic114 f=>exact (show Rn f from h).2.2.2.2.2.2.2.1
  | ic116 n=>exact Nat.zero_le _
 omega
def Ph (b:List Int):List Int:=Ga b.length++b
def Ms (t:volume_thing):List Int:=Ph (D1 t)++U3 (Ph (D1 t))
def Rs (t:volume_thing):List Int:=0::Ms t
theorem Xy {t:volume_thing} (h:tzT t):Nz (Ph (D1 t)):=(Jl _).app (X5 h)
theorem Wu {t:volume_thing} (h:tzT t):Nz (Ms t):=(Xy h).app (Wc _)
theorem Xa {F:Nat} (hF:200000≤F) {t:volume_thing} (h:okT t) (hl:(D1 t).length+100≤F):Hu F t=some (Rs t):=by
 have hlen:=Q1 h
 have h9:=Eh (x:=((D1 t).length:Int)) ⟨by omega,by omega⟩
 rw [Int.toNat_natCast] at h9
 rw [Hu,Zf hF h,sb,Fq (by omega) (by unfold okW;simp) (by intro x hx;simp at hx;subst hx;exact ⟨by omega,by omega⟩) (by simp),sb]
 have e:([]:List Int)++G5 [((D1 t).length:Int)]=Ga (D1 t).length:=by simp [G5]
 simp only [e]
 rw [M3 (by omega) (by decide)]
 show (J7 F (Ph (D1 t))).bind _=_
 have hpl:(Ph (D1 t)).length=(Ga (D1 t).length).length+(D1 t).length:=by unfold Ph;rw [List.length_append]
 have hby:By (Ph (D1 t)):=(W2 _).app (X4 t)
 rw [Yb (by omega) hby (by omega) (by omega),sb,M3 (by rw [List.length_append,Np];omega) (by decide)]
 rw [show Ga (D1 t).length++D1 t=Ph (D1 t) from rfl]
 rw [M3 (by rw [List.length_append,Np];simp;omega) (by decide)]
 rfl
end Go.Proofs.Ytifbomimeodibaa
namespace Go.Proofs.Ytifbomimeodibaa
open Go Go.RowKit Go.Eng
set_option maxRecDepth 10000
set_option linter.unusedVariables false
set_option linter.unusedSimpArgs false
abbrev RE (α:Type):=Option (Except (Value×volume_reader) (α×volume_reader))
def W7:Value:=.iface 101 (.int .i64 7)
def Rd {α:Type} (y:RE α) (o:Option (α×List Int)):Prop:=match o with
 | some x=>y=some (.ok (x.1,⟨x.2⟩))
 | none=>∃r,y=some (.error (W7,r))
theorem Rd.bind {α β:Type} {y:RE α} {o:Option (α×List Int)} (h:Rd y o) {f:α×volume_reader→RE β} {g:α×List Int→Option (β×List Int)} (hf:∀x r,o=some (x,r)→Rd (f (x,⟨r⟩)) (g (x,r))) :
  Rd (y.bind fun z=>exc z (fun e=>some (.error (e.1,volume_reader.mk e.2.b))) f) (o.bind g):=by
 cases o with
 | none=>obtain ⟨r,hr⟩:=h;rw [hr];exact ⟨_,rfl⟩
 | some x =>
  rw [show y=some (.ok (x.1,⟨x.2⟩)) from h]
  exact hf x.1 x.2 rfl
theorem Rd.ok {α:Type} {x:α} {r:List Int}:Rd (some (.ok (x,⟨r⟩))) (some (x,r)):=rfl
theorem Rd.bad {α:Type} {r:volume_reader}:Rd (α:=α) (some (.error (W7,r))) none:=⟨r,rfl⟩
theorem By.suf {l k:List Int} (h:By l) (hs:k <:+ l):By k:=fun x hx=>h x (hs.subset hx)
def rD:Nat→Bool→List Int→Option (Int×List Int)
 | 0,_,_=>none
 | _+1,_,[]=>none
 | k+1,f,c::l=>if c=0∨c=255∨(c=1∧f=false) then none else if c<128 then some (c-1,l) else (rD k false l).map fun y=>(c-128+127*y.1,y.2)
def rN (l:List Int):Option (Int×List Int):=rD 8 true l
theorem A1e:∀(k:Nat) (f:Bool) (l:List Int) (x:Int) (r:List Int),By l→rD k f l=some (x,r)→0≤x∧x<127 ^ k∧r <:+ l:=by
 intro k
 induction k with
 | zero=>intro f l x r _ h;cases h
 | succ k ih =>
  intro f l x r hb h
  cases l with
  | nil=>cases h
  | cons c l =>
   have hc:=hb c (by simp)
   have hp:(0:Int)<127 ^ k:=Int.pow_pos (by decide)
   rw [rD] at h
   split at h
   ·cases h
   ·rename_i g1
    have g2:c≠0:=fun e=>g1 (.inl e)
    have g3:c≠255:=fun e=>g1 (.inr (.inl e))
    rw [Int.pow_succ]
    split at h
    ·cases h
     exact ⟨by omega,by omega,List.suffix_cons ..⟩
    ·obtain ⟨z,hz,he⟩:=Option.map_eq_some_iff.1 h
     cases he
     obtain ⟨h1,h2,h3⟩:=ih false l z.1 z.2 (fun x hx=>hb x (by simp [hx])) hz
     exact ⟨by omega,by omega,h3.trans (List.suffix_cons ..)⟩
theorem G6 {l:List Int} {x:Int} {r:List Int} (hb:By l) (h:rN l=some (x,r)):0≤x∧x<67675234241018881∧r <:+ l:=by
 have:=A1e 8 true l x r hb h
 exact this
theorem A0f (p:List Int) (hp:By p):∀(m i k:Nat) (n:Int),i+k=8→k<m→0≤n→n≤127 ^ i →
  Rd (Bf ⟨p⟩ (p.take 8) m i n (127 ^ i:Nat)) ((rD k (i==0) (p.drop i)).map fun y=>(n+127 ^ i*y.1,y.2)):=by
 intro m
 induction m with
 | zero=>intro i k n _ h;omega
 | succ m ih =>
  intro i k n hik hk hn0 hn
  rw [Bf,Ei]
  have hpi:(127:Int) ^ i≤127 ^ 8:=by
   have:(127:Nat) ^ i≤127 ^ 8:=Nat.pow_le_pow_right (by decide) (by omega)
   exact_mod_cast this
  have e8:(127:Int) ^ 8=67675234241018881:=by decide
  have hp0:(0:Int)<127 ^ i:=Int.pow_pos (by decide)
  have ecast:((127 ^ i:Nat):Int)=127 ^ i:=by push_cast;rfl
  rw [ecast]
  by_cases hb:i<(p.take 8).length
  ·have hb':i<p.length∧i<8:=by rw [List.length_take] at hb;omega
   obtain ⟨k,rfl⟩:∃k',k=k'+1:=⟨k-1,by omega⟩
   have hx:=hp p[i] (List.getElem_mem hb'.1)
   rw [Bc (dT (by omega)),Hc i p[i] rfl (by rw [List.getElem?_take];rw [if_pos hb'.2];exact List.getElem?_eq_getElem hb'.1),List.drop_eq_getElem_cons hb'.1,rD]
   have hp7:(127:Int) ^ i≤127 ^ 7:=by
    have:(127:Nat) ^ i≤127 ^ 7:=Nat.pow_le_pow_right (by decide) (by omega)
    exact_mod_cast this
   have e7:(127:Int) ^ 7=532875860165503:=by decide
   have hmul:p[i]*127 ^ i≤256*127 ^ i:=Int.mul_le_mul_of_nonneg_right (by omega) (by omega)
   have hmul0:0≤p[i]*127 ^ i:=Int.mul_nonneg (by omega) (by omega)
   by_cases hc:p[i]=0∨p[i]=255∨(p[i]=1∧(i==0)=false)
   ·rw [if_pos hc,Bc ?_]
    ·exact Rd.bad
    ·rcases hc with h|h|⟨h1,h2⟩
     ·simp [h]
     ·simp [h]
     ·simp at h2
      simp [h1];omega
   ·rw [if_neg hc,B5 ?_]
    ·by_cases hs:p[i]<128
     ·have e1:(p[i]-1)*127 ^ i=p[i]*127 ^ i-127 ^ i:=by rw [Int.sub_mul,Int.one_mul]
      rw [if_pos hs,Bc (dT hs),ckb (by omega),Kg (i+1) (by omega) rfl (by simp;omega),ckb (by omega),ckb (by omega),ckb (by omega),ckb (by omega)]
      show some (Except.ok (n+(p[i]-1)*127 ^ i,volume_reader.mk (p.drop (i+1))))=some (.ok (n+127 ^ i*(p[i]-1),⟨p.drop (i+1)⟩))
      rw [Int.mul_comm (127 ^ i) (p[i]-1)]
     ·have e1:(p[i]-128)*127 ^ i=p[i]*127 ^ i-128*127 ^ i:=by rw [Int.sub_mul]
      have e2:(p[i]-128)*127 ^ i≤126*127 ^ i:=Int.mul_le_mul_of_nonneg_right (by have:p[i]≠255:=fun e=>hc (.inr (.inl e));omega) (by omega)
      have e3:0≤(p[i]-128)*127 ^ i:=Int.mul_nonneg (by omega) (by omega)
      have e4:(127:Int) ^ (i+1)=127 ^ i*127:=Int.pow_succ ..
      rw [if_neg hs,B5 (dF hs),Ek,ckb (by omega),ckb (by omega),ckb (by omega),ckb (by omega),ckb (by omega),ckb (by omega)]
      have:=ih (i+1) k (n+(p[i]-128)*127 ^ i) (by omega) (by omega) (by omega) (by rw [e4];omega)
      have ecast2:((127 ^ (i+1):Nat):Int)=127 ^ i*127:=by rw [←e4];push_cast;rfl
      rw [ecast2] at this
      rw [show ((i:Int)+1)=((i+1:Nat):Int) by omega]
      rw [Option.map_map]
      have ef:(i+1==0)=false:=rfl
      rw [ef] at this
      cases hr:rD k false (p.drop (i+1)) with
      | none=>rw [hr] at this;exact this
      | some y =>
       rw [hr] at this
       have this':_=some (Except.ok (n+(p[i]-128)*127 ^ i+127 ^ (i+1)*y.1,volume_reader.mk y.2)):=this
       show _=some (Except.ok (n+127 ^ i*(p[i]-128+127*y.1),volume_reader.mk y.2))
       rw [this',e4,Int.mul_add,Int.mul_comm (127 ^ i) (p[i]-128),←Int.add_assoc,←Int.mul_assoc]
    ·have h1:¬p[i]=0:=fun e=>hc (.inl e)
     have h2:¬p[i]=255:=fun e=>hc (.inr (.inl e))
     simp only [beq_eq_false_iff_ne.2 h1,beq_eq_false_iff_ne.2 h2,cond_false]
     by_cases h3:p[i]=1
     ·have h4:i=0:=by
       rcases Nat.eq_zero_or_pos i with h|h
       ·exact h
       ·exact absurd (.inr (.inr ⟨h3,by simp;omega⟩)) hc
      simp [h3,h4]
     ·simp [h3]
  ·rw [B5 (dF (by omega)),Ej]
   have:rD k (i==0) (p.drop i)=none:=by
    rw [List.length_take] at hb
    rcases Nat.eq_zero_or_pos k with h|h
    ·subst h;rfl
    ·rw [List.drop_of_length_le (by omega)]
     obtain ⟨k,rfl⟩:∃k',k=k'+1:=⟨k-1,by omega⟩
     rfl
   rw [this]
   exact Rd.bad
theorem De {F:Nat} (hF:1000≤F) {p:List Int} (hp:By p):Rd (Ag F ⟨p⟩) (rN p):=by
 rw [Ag]
 have h:(J6 p (0:Int) (if 8<((p.length:Nat):Int) then 8 else ((p.length:Nat):Int))).bind (fun l80=>Bf ⟨p⟩ l80 F 0 0 1)=Bf ⟨p⟩ (p.take 8) F 0 0 1:=by
  by_cases h8:8<p.length
  ·rw [if_pos (by omega),Ru 8 (by rfl) (by rfl) (by omega)]
  ·rw [if_neg (by omega),Ru p.length (by rfl) (by rfl) (by omega),List.take_of_length_le (by omega),List.take_of_length_le (by omega)]
 show Rd ((J6 p (0:Int) (if 8<((p.length:Nat):Int) then 8 else ((p.length:Nat):Int))).bind (fun l80=>Bf ⟨p⟩ l80 F 0 0 1)) _
 rw [h]
 have:=A0f p hp F 0 8 0 (by omega) (by omega) (by omega) (by decide)
 cases hr:rN p with
 | none =>
  rw [show rD 8 (0==0) (p.drop 0)=none from hr] at this
  exact this
 | some y =>
  rw [show rD 8 (0==0) (p.drop 0)=some y from hr] at this
  have this':_=some (Except.ok (0+127 ^ 0*y.1,volume_reader.mk y.2)):=this
  rw [show (0:Int)+127 ^ 0*y.1=y.1 by simp] at this'
  exact this'
end Go.Proofs.Ytifbomimeodibaa
namespace Go.Proofs.Ytifbomimeodibaa
open Go Go.RowKit Go.Eng
set_option maxRecDepth 10000
set_option linter.unusedVariables false
set_option linter.unusedSimpArgs false
def unz (n:Int):Int:=if n%2=1 then -((n+1)/2) else n/2
def rI (l:List Int):Option (Int×List Int):=(rN l).bind fun y=>some (unz y.1,y.2)
def rT (l:List Int):Option (ByteArray×List Int):=(rN l).bind fun y=>if y.1>(y.2.length:Int) then none else some (bst (y.2.take y.1.toNat),y.2.drop y.1.toNat)
def rS (l:List Int):Option (api_Span×List Int):=(rI l).bind fun y=>(rN y.2).bind fun z=>some (⟨y.1,y.1+z.1⟩,z.2)
def rE (l:List Int):Option (api_Echo×List Int):=(rN l).bind fun k=>if k.1=1 then (rN k.2).bind fun h=>some (⟨k.1,⟨0,h.1⟩,(⟨0,0⟩,⟨0,0⟩),0,⟨0,0⟩,⟨0,0⟩,⟨0,0⟩⟩,h.2)
 else (rS k.2).bind fun p=>(rS p.2).bind fun r=>(rS r.2).bind fun m=>(rN m.2).bind fun s=>if k.1=3 then (rS s.2).bind fun a=>(rS a.2).bind fun b=>(rS b.2).bind fun t=>some (⟨k.1,p.1,(a.1,b.1),s.1,r.1,m.1,t.1⟩,t.2)
  else some (⟨k.1,p.1,(⟨0,0⟩,⟨0,0⟩),s.1,r.1,m.1,⟨0,0⟩⟩,s.2)
theorem Ee {α β:Type} {o:Option (α×List Int)} {f:α×List Int→Option β} {y:β} (h:o.bind f=some y):∃x r,o=some (x,r)∧f (x,r)=some y:=by
 obtain ⟨⟨x,r⟩,h1,h2⟩:=Option.bind_eq_some_iff.1 h
 exact ⟨x,r,h1,h2⟩
def A08 (x:Int):Prop:=-67675234241018881≤x∧x≤67675234241018881
theorem A0t {n:Int} (h:0≤n∧n<67675234241018881):A08 (unz n):=by
 unfold unz A08;split<;>omega
theorem Tg {l:List Int} {x:Int} {r:List Int} (hb:By l) (h:rI l=some (x,r)):A08 x∧r <:+ l:=by
 obtain ⟨n,r',h1,h2⟩:=Ee h
 cases h2
 obtain ⟨a,b,c⟩:=G6 hb h1
 exact ⟨A0t ⟨a,b⟩,c⟩
theorem Zp {l:List Int} {x:ByteArray} {r:List Int} (hb:By l) (h:rT l=some (x,r)):r <:+ l∧x.size≤l.length:=by
 obtain ⟨n,r',h1,h2⟩:=Ee h
 obtain ⟨a,b,c⟩:=G6 hb h1
 split at h2
 ·cases h2
 ·rename_i hg
  cases h2
  refine ⟨(List.drop_suffix ..).trans c,?_⟩
  have:=c.length_le
  show (bst (r'.take n.toNat)).size≤_
  unfold bst
  simp only [ByteArray.size,List.size_toArray,List.length_map,List.length_take]
  simp only at hg
  omega
def okS' (s:api_Span):Prop:=-67675234241018881≤s.Lo∧s.Lo≤s.Hi∧s.Hi≤200000000000000000
theorem okS'.ok {s:api_Span} (h:okS' s):okS s:=by obtain ⟨a,b,c⟩:=h;exact ⟨by omega,b,by omega⟩
theorem okS'.z:okS' ⟨0,0⟩:=by unfold okS';decide
theorem Mx {l:List Int} {x:api_Span} {r:List Int} (hb:By l) (h:rS l=some (x,r)):okS' x∧r <:+ l:=by
 obtain ⟨lo,r1,h1,h2⟩:=Ee h
 obtain ⟨n,r2,h3,h4⟩:=Ee h2
 cases h4
 obtain ⟨⟨a,b⟩,c⟩:=Tg hb h1
 obtain ⟨d,e,f⟩:=G6 (hb.suf c) h3
 exact ⟨⟨a,by simp only;omega,by simp only;omega⟩,f.trans c⟩
theorem Y0 {l:List Int} {x:api_Echo} {r:List Int} (hb:By l) (h:rE l=some (x,r)):r <:+ l:=by
 obtain ⟨k,r0,h0,h⟩:=Ee h
 obtain ⟨a0,b0,c0⟩:=G6 hb h0
 have hb0:=hb.suf c0
 split at h
 ·obtain ⟨n,r1,h1,h⟩:=Ee h
  cases h
  obtain ⟨a1,b1,c1⟩:=G6 hb0 h1
  exact c1.trans c0
 ·obtain ⟨p,r1,h1,h⟩:=Ee h
  obtain ⟨p1,c1⟩:=Mx hb0 h1
  have hb1:=hb0.suf c1
  obtain ⟨q,r2,h2,h⟩:=Ee h
  obtain ⟨p2,c2⟩:=Mx hb1 h2
  have hb2:=hb1.suf c2
  obtain ⟨m,r3,h3,h⟩:=Ee h
  obtain ⟨p3,c3⟩:=Mx hb2 h3
  have hb3:=hb2.suf c3
  obtain ⟨s,r4,h4,h⟩:=Ee h
  obtain ⟨a4,b4,c4⟩:=G6 hb3 h4
  have hb4:=hb3.suf c4
  have hs:s∈[s]:=by simp
  split at h
  ·obtain ⟨a,r5,h5,h⟩:=Ee h
   obtain ⟨p5,c5⟩:=Mx hb4 h5
   have hb5:=hb4.suf c5
   obtain ⟨b,r6,h6,h⟩:=Ee h
   obtain ⟨p6,c6⟩:=Mx hb5 h6
   have hb6:=hb5.suf c6
   obtain ⟨t,r7,h7,h⟩:=Ee h
   obtain ⟨p7,c7⟩:=Mx hb6 h7
   cases h
   exact c7.trans (c6.trans (c5.trans (c4.trans (c3.trans (c2.trans (c1.trans c0))))))
  ·cases h
   exact c4.trans (c3.trans (c2.trans (c1.trans c0)))
theorem M9 {F:Nat} (hF:1000≤F) {p:List Int} (hp:By p):Rd (Bq F ⟨p⟩) (rI p):=by
 rw [Bq,rI]
 refine (De hF hp).bind fun n r h=>?_
 obtain ⟨a,b,c⟩:=G6 hp h
 have e:Jo n 2=some (n%2):=by
  unfold Jo
  rw [if_neg (by decide),Int.tmod_eq_emod_of_nonneg a]
 show Rd ((Jo n 2).bind _) _
 rw [e,sb]
 unfold unz
 by_cases h1:n%2=1
 ·rw [if_pos h1,Bc (by simp [h1]),ckb (by omega)]
  have ew:IntKind.i64.wrap (0-(n+1))=-(n+1):=by
   simp only [IntKind.wrap,IntKind.signed,IntKind.bits]
   simp
   omega
  have eq:Mz (IntKind.i64.wrap (0-(n+1))) 2=some (-((n+1)/2)):=by
   rw [ew]
   unfold Mz
   rw [if_neg (by decide),Int.neg_tdiv,Int.tdiv_eq_ediv_of_nonneg (by omega)]
   unfold ck
   rw [if_pos (by omega)]
  show Rd ((Mz (IntKind.i64.wrap (0-(n+1))) 2).bind _) _
  rw [eq]
  exact Rd.ok
 ·rw [if_neg h1,B5 (by simp [h1])]
  have eq:Mz n 2=some (n/2):=by
   unfold Mz
   rw [if_neg (by decide),Int.tdiv_eq_ediv_of_nonneg a]
   unfold ck
   rw [if_pos (by omega)]
  show Rd ((Mz n 2).bind _) _
  rw [eq]
  exact Rd.ok
theorem Vc {F:Nat} (hF:1000≤F) {p:List Int} (hp:By p):Rd (Dj F ⟨p⟩) (rT p):=by
 rw [Dj,rT]
 refine (De hF hp).bind fun n r h=>?_
 obtain ⟨a,b,c⟩:=G6 hp h
 show Rd (bif decide (n>(r.length:Int)) then _ else _) (if n>(r.length:Int) then _ else _)
 by_cases h1:n>(r.length:Int)
 ·rw [if_pos h1,Bc (dT h1)];exact Rd.bad
 ·rw [if_neg h1,B5 (dF h1),Fd]
  have en:n=((n.toNat:Nat):Int):=by omega
  rw [Ru n.toNat rfl en (show n.toNat≤r.length by omega),Kg n.toNat en rfl (show n.toNat≤r.length by omega)]
  exact Rd.ok
theorem Pv {F:Nat} (hF:1000≤F) {p:List Int} (hp:By p):Rd (Bp F ⟨p⟩) (rS p):=by
 rw [Bp,rS]
 refine (M9 hF hp).bind fun x r h=>?_
 obtain ⟨⟨a,b⟩,c⟩:=Tg hp h
 refine (De hF (hp.suf c)).bind fun n r2 h2=>?_
 obtain ⟨d,e,f⟩:=G6 (hp.suf c) h2
 rw [ckb (by simp only;omega)]
 exact Rd.ok
theorem A0e {F:Nat} (hF:1000≤F) {p:List Int} (hp:By p):Rd (F9 F ⟨p⟩) (rE p):=by
 rw [F9,rE]
 refine (De hF hp).bind fun k r0 h0=>?_
 obtain ⟨a0,b0,c0⟩:=G6 hp h0
 have hb0:=hp.suf c0
 show Rd (bif k==1 then _ else _) (if k=1 then _ else _)
 by_cases hk:k=1
 ·rw [if_pos hk,Bc (by simp [hk])]
  refine (De hF hb0).bind fun n r h=>?_
  exact Rd.ok
 ·rw [if_neg hk,B5 (by simp [hk])]
  refine (Pv hF hb0).bind fun p r1 h1=>?_
  have hb1:=hb0.suf (Mx hb0 h1).2
  refine (Pv hF hb1).bind fun q r2 h2=>?_
  have hb2:=hb1.suf (Mx hb1 h2).2
  refine (Pv hF hb2).bind fun m r3 h3=>?_
  have hb3:=hb2.suf (Mx hb2 h3).2
  refine (De hF hb3).bind fun s r4 h4=>?_
  have hb4:=hb3.suf (G6 hb3 h4).2.2
  show Rd (bif k==3 then _ else _) (if k=3 then _ else _)
  by_cases hk3:k=3
  ·rw [if_pos hk3,Bc (by simp [hk3])]
   refine (Pv hF hb4).bind fun a r5 h5=>?_
   have hb5:=hb4.suf (Mx hb4 h5).2
   refine (Pv hF hb5).bind fun b r6 h6=>?_
   have hb6:=hb5.suf (Mx hb5 h6).2
   refine (Pv hF hb6).bind fun t r7 h7=>?_
   exact Rd.ok
  ·rw [if_neg hk3,B5 (by simp [hk3])]
   exact Rd.ok
def rL {α:Type} [DecidableEq α] (rd:List Int→Option (α×List Int)):Nat→Nat→α→List Int→Option (List α×List Int)
 | 0,_,_,_=>none
 | m+1,n,b,l=>if n=0 then some ([],l) else (rN l).bind fun y=>if y.1>(n:Int) then none else if n=y.1.toNat then some (List.replicate n b,y.2) else
   (rd y.2).bind fun z=>if z.1=b then none else (rL rd m (n-y.1.toNat-1) z.1 z.2).map fun u=>(List.replicate y.1.toNat b++z.1::u.1,u.2)
theorem A0c {α:Type} [DecidableEq α] {rd:List Int→Option (α×List Int)} (hrd:∀l x r,By l→rd l=some (x,r)→r <:+ l):∀(m n:Nat) (b:α) (l:List Int) (u:List α) (r:List Int),By l→rL rd m n b l=some (u,r)→u.length=n∧r <:+ l:=by
 intro m
 induction m with
 | zero=>intro n b l u r _ h;cases h
 | succ m ih =>
  intro n b l u r hb h
  rw [rL] at h
  split at h
  ·cases h;rename_i h0;exact ⟨h0.symm,List.suffix_refl _⟩
  ·obtain ⟨k,r1,h1,h⟩:=Ee h
   obtain ⟨a,b1,c⟩:=G6 hb h1
   simp only at h
   split at h
   ·cases h
   ·split at h
    ·cases h;exact ⟨by simp,c⟩
    ·obtain ⟨z,r2,h2,h⟩:=Ee h
     simp only at h
     split at h
     ·cases h
     ·obtain ⟨⟨u',r'⟩,h3,h4⟩:=Option.map_eq_some_iff.1 h
      cases h4
      have hc:=hrd _ _ _ (hb.suf c) h2
      obtain ⟨i1,i2⟩:=ih _ _ _ _ _ (hb.suf (hc.trans c)) h3
      refine ⟨?_,i2.trans (hc.trans c)⟩
      simp only [List.length_append,List.length_replicate,List.length_cons,i1]
      omega
theorem A0m (F:Nat) (N:Int) (b:api_Span) (k2:Int→Int→List Int→List api_Span→RE (List api_Span)) (y:Int×volume_reader) (hy:y.1≤1000000):∀(m i:Nat) (out:List api_Span),(i:Int)≤y.1→y.1-i<m→out.length+(y.1-i)≤2000000 →
  Ba F N b.Lo b.Hi k2 y m i out=Ca F N b.Lo b.Hi k2 y (out++List.replicate (y.1-i).toNat b):=by
 intro m
 induction m with
 | zero=>intro i out h1 h2;omega
 | succ m ih =>
  intro i out h1 h2 h3
  rw [Ba,D5]
  by_cases hb:(i:Int)<y.1
  ·rw [Bc (dT hb),M3 (by simp;omega) (by decide),ckb (by omega)]
   have:=ih (i+1) (out++[b]) (by omega) (by omega) (by simp;omega)
   show Ba F N b.Lo b.Hi k2 y m ((i:Int)+1) (out++[b])=_
   rw [show ((i:Int)+1)=((i+1:Nat):Int) by omega,this,List.append_assoc]
   congr 2
   rw [show (y.1-(i:Int)).toNat=(y.1-((i+1:Nat):Int)).toNat+1 by omega,List.replicate_succ]
   rfl
  ·rw [B5 (dF hb),show (y.1-(i:Int)).toNat=0 by omega]
   simp
theorem A1i (F:Nat) (hF:200000≤F) (N:Nat) (hN:N≤100000):∀(m m':Nat) (b:api_Span) (l:List Int) (out:List api_Span),By l→out.length≤N→N-out.length<m→N-out.length<m' →
  Rd (B3 F N m b.Lo b.Hi l out) ((rL rS m' (N-out.length) b l).map fun u=>(out++u.1,u.2)):=by
 intro m
 induction m with
 | zero=>intro m' b l out _ _ h;omega
 | succ m ih =>
  intro m' b l out hb ho hm hm'
  obtain ⟨m',rfl⟩:∃k,m'=k+1:=⟨m'-1,by omega⟩
  rw [B3,C8,rL]
  by_cases h0:N-out.length=0
  ·rw [if_pos h0,B5 (dF (by omega)),C9]
   show _=some (Except.ok (out++[],volume_reader.mk l))
   rw [List.append_nil]
  ·rw [if_neg h0,Bc (dT (by omega)),Option.map_bind]
   refine (De (by omega) hb).bind fun k r h=>?_
   obtain ⟨a,b1,c⟩:=G6 hb h
   rw [ckb (by omega)]
   simp only [Function.comp]
   by_cases hk:k>((N-out.length:Nat):Int)
   ·rw [if_pos hk,Bc (dT (by omega))];exact Rd.bad
   ·rw [if_neg hk,B5 (dF (by omega)),D6]
    have hr:=A0m F N b (B3 F N m) (k,⟨r⟩) (by simp only;omega) F 0 out (by simp only;omega) (by simp only;omega) (by simp only;omega)
    rw [show (0:Int)=((0:Nat):Int) from rfl,hr,Ca,show (k-((0:Nat):Int)).toNat=k.toNat by omega]
    by_cases hk2:N-out.length=k.toNat
    ·rw [if_pos hk2,B5 (dF (by simp;omega))]
     cases m with
     | zero=>omega
     | succ m =>
      rw [B3,C8,B5 (dF (by simp;omega)),C9,hk2]
      rfl
    ·rw [if_neg hk2,Bc (dT (by simp;omega)),Option.map_bind]
     have hbr:=hb.suf c
     refine (Pv (by omega) hbr).bind fun x r2 h2=>?_
     have hb2:=hbr.suf (Mx hbr h2).2
     simp only [Function.comp]
     rw [U2 x b]
     by_cases hx:x=b
     ·rw [if_pos hx,Bc (dT hx)];exact Rd.bad
     ·rw [if_neg hx,B5 (dF hx),D7,M3 (by simp;omega) (by decide)]
      have:=ih m' x r2 (out++List.replicate k.toNat b++[x]) hb2 (by simp;omega) (by simp;omega) (by simp;omega)
      rw [show N-(out++List.replicate k.toNat b++[x]).length=N-out.length-k.toNat-1 by simp;omega] at this
      rw [Option.map_map]
      simp only [Function.comp_def]
      simpa only [List.append_assoc,List.cons_append,List.nil_append] using this
theorem Yy {F:Nat} (hF:200000≤F) {N:Nat} (hN:N≤100000) {l:List Int} (hl:By l) (b:api_Span):Rd (Cm F ⟨l⟩ N b) (rL rS (N+1) N b l):=by
 rw [Cm]
 have:=A1i F hF N hN F (N+1) b l [] hl (by simp) (by simp;omega) (by simp)
 simpa using this
theorem A0j (F:Nat) (N:Int) (b:api_Echo) (k2:Int→Int→Int→Int→Int→Int→Int→Int→Int→Int→Int→Int→Int→Int→List Int→List api_Echo→RE (List api_Echo)) (y:Int×volume_reader) (hy:y.1≤1000000):∀(m i:Nat) (out:List api_Echo),(i:Int)≤y.1→y.1-i<m→out.length+(y.1-i)≤2000000 →
  B9 F N b.Kind b.Power.Lo b.Match.Lo b.Match.Hi b.Turn.Lo b.Turn.Hi b.Power.Hi b.Steps.1.Lo b.Steps.1.Hi b.Steps.2.Lo b.Steps.2.Hi b.Spread b.Ratio.Lo b.Ratio.Hi k2 y m i out=C7 F N b.Kind b.Power.Lo b.Match.Lo b.Match.Hi b.Turn.Lo b.Turn.Hi b.Power.Hi b.Steps.1.Lo b.Steps.1.Hi b.Steps.2.Lo b.Steps.2.Hi b.Spread b.Ratio.Lo b.Ratio.Hi k2 y (out++List.replicate (y.1-i).toNat b):=by
 intro m
 induction m with
 | zero=>intro i out h1 h2;omega
 | succ m ih =>
  intro i out h1 h2 h3
  rw [B9,D2]
  by_cases hb:(i:Int)<y.1
  ·rw [Bc (dT hb),M3 (by simp;omega) (by decide),ckb (by omega)]
   have:=ih (i+1) (out++[b]) (by omega) (by omega) (by simp;omega)
   show B9 F N b.Kind b.Power.Lo b.Match.Lo b.Match.Hi b.Turn.Lo b.Turn.Hi b.Power.Hi b.Steps.1.Lo b.Steps.1.Hi b.Steps.2.Lo b.Steps.2.Hi b.Spread b.Ratio.Lo b.Ratio.Hi k2 y m ((i:Int)+1) (out++[b])=_
   rw [show ((i:Int)+1)=((i+1:Nat):Int) by omega,this,List.append_assoc]
   congr 2
   rw [show (y.1-(i:Int)).toNat=(y.1-((i+1:Nat):Int)).toNat+1 by omega,List.replicate_succ]
   rfl
  ·rw [B5 (dF hb),show (y.1-(i:Int)).toNat=0 by omega]
   simp
theorem A1h (F:Nat) (hF:200000≤F) (N:Nat) (hN:N≤100000):∀(m m':Nat) (b:api_Echo) (l:List Int) (out:List api_Echo),By l→out.length≤N→N-out.length<m→N-out.length<m' →
  Rd (B2 F N m b.Kind b.Power.Lo b.Match.Lo b.Match.Hi b.Turn.Lo b.Turn.Hi b.Power.Hi b.Steps.1.Lo b.Steps.1.Hi b.Steps.2.Lo b.Steps.2.Hi b.Spread b.Ratio.Lo b.Ratio.Hi l out) ((rL rE m' (N-out.length) b l).map fun u=>(out++u.1,u.2)):=by
 intro m
 induction m with
 | zero=>intro m' b l out _ _ h;omega
 | succ m ih =>
  intro m' b l out hb ho hm hm'
  obtain ⟨m',rfl⟩:∃k,m'=k+1:=⟨m'-1,by omega⟩
  rw [B2,C5,rL]
  by_cases h0:N-out.length=0
  ·rw [if_pos h0,B5 (dF (by omega)),C6]
   show _=some (Except.ok (out++[],volume_reader.mk l))
   rw [List.append_nil]
  ·rw [if_neg h0,Bc (dT (by omega)),Option.map_bind]
   refine (De (by omega) hb).bind fun k r h=>?_
   obtain ⟨a,b1,c⟩:=G6 hb h
   rw [ckb (by omega)]
   simp only [Function.comp]
   by_cases hk:k>((N-out.length:Nat):Int)
   ·rw [if_pos hk,Bc (dT (by omega))];exact Rd.bad
   ·rw [if_neg hk,B5 (dF (by omega)),D3]
    have hr:=A0j F N b (B2 F N m) (k,⟨r⟩) (by simp only;omega) F 0 out (by simp only;omega) (by simp only;omega) (by simp only;omega)
    rw [show (0:Int)=((0:Nat):Int) from rfl,hr,C7,show (k-((0:Nat):Int)).toNat=k.toNat by omega]
    by_cases hk2:N-out.length=k.toNat
    ·rw [if_pos hk2,B5 (dF (by simp;omega))]
     cases m with
     | zero=>omega
     | succ m =>
      rw [B2,C5,B5 (dF (by simp;omega)),C6,hk2]
      rfl
    ·rw [if_neg hk2,Bc (dT (by simp;omega)),Option.map_bind]
     have hbr:=hb.suf c
     refine (A0e (by omega) hbr).bind fun x r2 h2=>?_
     have hb2:=hbr.suf (Y0 hbr h2)
     simp only [Function.comp]
     rw [Tn x b]
     by_cases hx:x=b
     ·rw [if_pos hx,Bc (dT hx)];exact Rd.bad
     ·rw [if_neg hx,B5 (dF hx),D4,M3 (by simp;omega) (by decide)]
      have:=ih m' x r2 (out++List.replicate k.toNat b++[x]) hb2 (by simp;omega) (by simp;omega) (by simp;omega)
      rw [show N-(out++List.replicate k.toNat b++[x]).length=N-out.length-k.toNat-1 by simp;omega] at this
      rw [Option.map_map]
      simp only [Function.comp_def]
      simpa only [List.append_assoc,List.cons_append,List.nil_append] using this
theorem Y4 {F:Nat} (hF:200000≤F) {N:Nat} (hN:N≤100000) {l:List Int} (hl:By l) (b:api_Echo):Rd (Cl F ⟨l⟩ N b) (rL rE (N+1) N b l):=by
 rw [Cl]
 have:=A1h F hF N hN F (N+1) b l [] hl (by simp) (by simp;omega) (by simp)
 simpa using this
end Go.Proofs.Ytifbomimeodibaa
namespace Go.Proofs.Ytifbomimeodibaa
open Go Go.RowKit Go.Eng
set_option maxRecDepth 10000
set_option linter.unusedVariables false
set_option linter.unusedSimpArgs false
def Qg (s:ByteArray):Bool:=(!(sEq s ⟨#[]⟩))&&(decide ((s.size:Int)≤12)&&(decide ((Sx s 0).getD 0≥97)&&(decide ((Sx s 0).getD 0≤122)&&!Zn s)))
theorem W0 (F:Nat) (s:ByteArray):L4 F s=some (Qg s):=by
 have hg:sEq s ⟨#[]⟩=false→Sx s 0=some ((Sx s 0).getD 0):=by
  intro h
  have hs:s.size≠0:=by
   intro h0
   have:s=⟨#[]⟩:=by
    cases s with
    | mk d =>
     have:d=#[]:=Array.eq_empty_of_size_eq_zero h0
     rw [this]
   rw [Ty.2 this] at h
   cases h
  unfold Sx
  rw [if_pos (by omega)]
  rfl
 unfold L4 Qg E2
 cases h1:sEq s ⟨#[]⟩ with
 | true=>simp [gd]
 | false =>
  have e:=hg h1
  generalize hu:(Sx s 0).getD 0=u at e ⊢
  rw [e]
  by_cases h2:(s.size:Int)≤12
  ·by_cases h3:u≥97
   ·simp [gd,h2,h3]
   ·simp [gd,h2,h3]
  ·simp [gd,h2]
def inB (x lo hi:Int):Prop:=lo≤x∧x≤hi
instance (x lo hi:Int):Decidable (inB x lo hi):=by unfold inB;infer_instance
theorem Su {x lo hi:Int}:Af x lo hi=decide (inB x lo hi):=by
 unfold Af inB
 by_cases h:lo≤x<;>simp [h]
def Rc (s:api_Site):Prop:=Qg s.Name=true∧inB s.X (-1048576) 1048576∧inB s.Y (-1048576) 1048576∧inB s.Z 0 20000∧inB s.Rose 1 90∧inB s.Gates 1 200∧inB s.Step 50 2000∧inB s.Width 0 8
instance (s:api_Site):Decidable (Rc s):=by unfold Rc;infer_instance
theorem Wa (F:Nat) (s:api_Site):∃e,Gn F s=some e∧(e=0↔Rc s):=by
 unfold Gn Ey E6 Rc
 rw [W0,sb]
 simp only [Su]
 cases Qg s.Name with
 | false=>exact ⟨10,by simp,by simp⟩
 | true =>
  by_cases h1:inB s.X (-1048576) 1048576
  ·by_cases h2:inB s.Y (-1048576) 1048576
   ·by_cases h3:inB s.Z 0 20000
    ·by_cases h4:inB s.Rose 1 90
     ·by_cases h5:inB s.Gates 1 200
      ·by_cases h6:inB s.Step 50 2000
       ·by_cases h7:inB s.Width 0 8
        ·exact ⟨0,by simp [h1,h2,h3,h4,h5,h6,h7],by simp [h1,h2,h3,h4,h5,h6,h7]⟩
        ·exact ⟨3,by simp [h1,h2,h3,h4,h5,h6,h7],by simp [h1,h2,h3,h4,h5,h6,h7]⟩
       ·exact ⟨3,by simp [h1,h2,h3,h4,h5,h6],by simp [h1,h2,h3,h4,h5,h6]⟩
      ·exact ⟨3,by simp [h1,h2,h3,h4,h5],by simp [h1,h2,h3,h4,h5]⟩
     ·exact ⟨3,by simp [h1,h2,h3,h4],by simp [h1,h2,h3,h4]⟩
    ·exact ⟨3,by simp [h1,h2,h3],by simp [h1,h2,h3]⟩
   ·exact ⟨3,by simp [h1,h2],by simp [h1,h2]⟩
  ·exact ⟨3,by simp [h1],by simp [h1]⟩
def Qm (g:api_Grid):Prop:=inB g.X (-1048576) 1048576∧inB g.Y (-1048576) 1048576∧inB g.Size 1 10000∧inB g.Wide 1 64∧inB g.High 1 64
theorem Vv (g:api_Grid):Bb g=0↔Qm g:=by
 unfold Bb Dm Qm
 simp only [Su]
 by_cases h1:inB g.X (-1048576) 1048576
 ·by_cases h2:inB g.Y (-1048576) 1048576
  ·by_cases h3:inB g.Size 1 10000
   ·by_cases h4:inB g.Wide 1 64
    ·by_cases h5:inB g.High 1 64<;>simp [h1,h2,h3,h4,h5]
    ·simp [h1,h2,h3,h4]
   ·simp [h1,h2,h3]
  ·simp [h1,h2]
 ·simp [h1]
def K7 (s:api_Span) (lo hi:Int):Prop:=lo≤s.Lo∧s.Lo≤s.Hi∧s.Hi≤hi
instance (s:api_Span) (lo hi:Int):Decidable (K7 s lo hi):=by unfold K7;infer_instance
theorem S5 {s:api_Span} {lo hi:Int}:Aa s lo hi=decide (K7 s lo hi):=by
 unfold Aa K7
 by_cases h:lo≤s.Lo
 ·by_cases h2:s.Lo≤s.Hi<;>simp [h,h2]
 ·simp [h]
theorem Nj {x lo hi:Int}:At x lo hi=decide (inB x lo hi):=by
 unfold At inB
 by_cases h:lo≤x<;>simp [h]
def Hl (s:api_Span):Prop:=-32768≤s.Lo∧s.Lo≤32767∧s.Lo≤s.Hi∧s.Hi≤s.Lo+65535
instance (s:api_Span):Decidable (Hl s):=by unfold Hl;infer_instance
theorem Ye (p:List api_Span) (k2:Int→Option Bool) (i:Nat) (u:api_Span) (h:p[i]? = some u) (hi:i<p.length) (h9:i≤100):Fh p k2 i=bif decide (Hl u) then k2 (i+1) else some false:=by
 have e1:-9000000000000000000≤(i:Int)+1∧(i:Int)+1≤9000000000000000000:=by omega
 rw [Fh,Bc (dT (by omega)),Hc i u rfl h]
 simp only [Nj]
 by_cases h1:inB u.Lo (-32768) 32767
 ·have h1':=h1
  obtain ⟨a,b⟩:=h1'
  simp only [dT h1]
  rw [gdT (by rfl),ckb (by omega),gdT (by rfl),ckb (by omega)]
  obtain ⟨z,hz⟩:∃z,z=u.Lo+65536-1:=⟨_,rfl⟩
  rw [←hz]
  by_cases h2:inB u.Hi u.Lo z
  ·have ht:Hl u:=⟨a,b,h2.1,by have:=h2.2;omega⟩
   rw [dT h2,dT ht]
   rw [B5 (by rfl),Bc (by rfl),ckb e1]
  ·have ht:¬Hl u:=fun h=>h2 ⟨h.2.2.1,by have:=h.2.2.2;omega⟩
   rw [dF h2,dF ht,Bc (by rfl),B5 (by rfl)]
 ·simp only [dF h1]
  rw [gdF (by rfl),sb,gdF (by rfl),sb,dF (show ¬Hl u from fun h=>h1 ⟨h.1,h.2.1⟩),Bc (by rfl),B5 (by rfl)]
theorem Vh {F:Nat} (hF:10≤F) (a b c:api_Span):Hv F [a,b,c]=some (decide (Hl a∧Hl b∧Hl c)):=by
 obtain ⟨G,rfl⟩:∃G,F=G+4:=⟨F-4,by omega⟩
 rw [Hv,Dy,show (0:Int)=((0:Nat):Int) from rfl,Ye _ _ 0 a rfl (by simp) (by decide)]
 by_cases h1:Hl a
 ·rw [Bc (dT h1),show (((0:Nat):Int)+1)=((1:Nat):Int) from rfl,Dy,Ye _ _ 1 b rfl (by simp) (by decide)]
  by_cases h2:Hl b
  ·rw [Bc (dT h2),show (((1:Nat):Int)+1)=((2:Nat):Int) from rfl,Dy,Ye _ _ 2 c rfl (by simp) (by decide)]
   by_cases h3:Hl c
   ·rw [Bc (dT h3),Dy,Fh,B5 (dF (by simp)),Ht]
    simp [h1,h2,h3]
   ·rw [B5 (dF h3)];simp [h3]
  ·rw [B5 (dF h2)];simp [h2]
 ·rw [B5 (dF h1)];simp [h1]
def z0 (s:api_Span):Prop:=s.Lo=0∧s.Hi=0
def vEcho (x:api_Echo):Prop:=(x.Kind=1∧K7 x.Power 0 1073741824∧x.Power.Lo=0∧z0 x.Steps.1∧z0 x.Steps.2∧x.Spread=0∧z0 x.Ratio∧z0 x.Match∧z0 x.Turn) ∨
 ((x.Kind=2∨x.Kind=3)∧K7 x.Power 0 1073741824∧x.Power.Lo>0∧K7 x.Ratio 0 1000000∧K7 x.Match 0 1000∧inB x.Spread 0 65535∧(x.Kind=2→z0 x.Steps.1∧z0 x.Steps.2∧z0 x.Turn)∧(x.Kind=3→Hl x.Steps.1∧Hl x.Steps.2∧Hl x.Turn))
theorem Zi (c:Bool):Dq c=some (if c=true then 0 else 3):=by cases c<;>rfl
theorem Ym {F:Nat} (hF:10≤F) (x:api_Echo):∃e,H5 F x=some e∧(e=0↔vEcho x):=by
 unfold H5 vEcho
 simp only [Zi,S5]
 by_cases h1:x.Kind=1
 ·rw [Bc (by simp [h1])]
  refine ⟨_,rfl,?_⟩
  simp only [h1,z0]
  by_cases h2:K7 x.Power 0 1073741824
  ·simp [h2,and_assoc]
  ·simp [h2]
 ·rw [B5 (by simp [h1])]
  have hK:∀c:Bool,c=(decide (x.Kind=2∨x.Kind=3))→∃e,D9 F x c=some e∧(e=0↔((x.Kind=2∨x.Kind=3)∧K7 x.Power 0 1073741824∧x.Power.Lo>0∧K7 x.Ratio 0 1000000∧K7 x.Match 0 1000∧inB x.Spread 0 65535∧(x.Kind=2→z0 x.Steps.1∧z0 x.Steps.2∧z0 x.Turn)∧(x.Kind=3→Hl x.Steps.1∧Hl x.Steps.2∧Hl x.Turn))):=by
   intro c hc
   unfold D9
   simp only [Zi,S5,Nj]
   by_cases h23:x.Kind=2∨x.Kind=3
   ·rw [hc,Bc (dT h23)]
    by_cases h2:x.Kind=2
    ·rw [Bc (by simp [h2])]
     refine ⟨_,rfl,?_⟩
     simp only [h2,z0]
     by_cases a1:K7 x.Power 0 1073741824
     ·by_cases a2:x.Power.Lo>0
      ·by_cases a3:K7 x.Ratio 0 1000000
       ·by_cases a4:K7 x.Match 0 1000
        ·by_cases a5:inB x.Spread 0 65535
         ·simp [a1,a2,a3,a4,a5,and_assoc]
         ·simp [a1,a2,a3,a4,a5]
        ·simp [a1,a2,a3,a4]
       ·simp [a1,a2,a3]
      ·simp [a1,a2]
     ·simp [a1]
    ·have h3:x.Kind=3:=h23.resolve_left h2
     rw [B5 (by simp [h2])]
     by_cases a1:K7 x.Power 0 1073741824
     ·by_cases a2:x.Power.Lo>0
      ·by_cases a3:K7 x.Ratio 0 1000000
       ·by_cases a4:K7 x.Match 0 1000
        ·by_cases a5:inB x.Spread 0 65535
         ·rw [Bc (by simp [a1,a2,a3,a4,a5]),show (⟨x.Steps.1.Lo,x.Steps.1.Hi⟩:api_Span)=x.Steps.1 from rfl,show (⟨x.Steps.2.Lo,x.Steps.2.Hi⟩:api_Span)=x.Steps.2 from rfl,Vh hF,sb]
          refine ⟨_,rfl,?_⟩
          simp [h3,a1,a2,a3,a4,a5]
         ·rw [B5 (by simp [a5])];exact ⟨_,rfl,by simp [a5]⟩
        ·rw [B5 (by simp [a4])];exact ⟨_,rfl,by simp [a4]⟩
       ·rw [B5 (by simp [a3])];exact ⟨_,rfl,by simp [a3]⟩
      ·rw [B5 (by simp [a2])];exact ⟨_,rfl,by simp [a2]⟩
     ·rw [B5 (by simp [a1])];exact ⟨_,rfl,by simp [a1]⟩
   ·rw [hc,B5 (dF h23)]
    exact ⟨2,rfl,by simp [h23]⟩
  obtain ⟨e,he,hv⟩:∃e,(bif x.Kind==2 then D9 F x (x.Kind==2) else D9 F x (x.Kind==3))=some e∧(e=0↔_):=by
   by_cases h2:x.Kind=2
   ·rw [Bc (by simp [h2])];exact hK _ (by simp [h2])
   ·rw [B5 (by simp [h2])];exact hK _ (by simp [h2];rfl)
  exact ⟨e,he,hv.trans ⟨fun h=>.inr h,fun h=>h.resolve_left fun h=>h1 h.1⟩⟩
end Go.Proofs.Ytifbomimeodibaa
namespace Go.Proofs.Ytifbomimeodibaa
open Go Go.RowKit Go.Eng
set_option maxRecDepth 10000
set_option linter.unusedVariables false
set_option linter.unusedSimpArgs false
theorem A0l {F:Nat} (hF:5000≤F) (x270:Int) (k3:Int→Option Int) (u:List api_Echo) (hu:u.length≤1000):∀(m i:Nat),u.length-i<m→i≤u.length →
  ((∀x∈u.drop i,vEcho x)∧Di F x270 k3 u m i=F8 x270 k3)∨(∃e,e≠0∧Di F x270 k3 u m i=some e∧¬∀x∈u.drop i,vEcho x):=by
 intro m
 induction m with
 | zero=>intro i h;omega
 | succ m ih =>
  intro i h hi
  rw [Di,Gj]
  by_cases hb:i<u.length
  ·have hd:=List.drop_eq_getElem_cons hb
   obtain ⟨e,he,hv⟩:=Ym (F:=F) (by omega) u[i]
   rw [Bc (dT (by omega)),Hc i u[i] rfl (List.getElem?_eq_getElem hb)]
   rw [show (⟨u[i].Kind,u[i].Power,(⟨u[i].Steps.1.Lo,u[i].Steps.1.Hi⟩,⟨u[i].Steps.2.Lo,u[i].Steps.2.Hi⟩),u[i].Spread,u[i].Ratio,u[i].Match,u[i].Turn⟩:api_Echo)=u[i] from rfl,he,sb]
   by_cases h0:e=0
   ·rw [B5 (by simp [h0]),ckb (by omega)]
    rcases ih (i+1) (by omega) (by omega) with ⟨h1,h2⟩|⟨e',h1,h2,h3⟩
    ·refine .inl ⟨?_,h2⟩
     rw [hd]
     intro x hx
     rcases List.mem_cons.1 hx with rfl|hx
     ·exact hv.1 h0
     ·exact h1 x hx
    ·exact .inr ⟨e',h1,h2,fun h=>h3 fun x hx=>h x (by rw [hd];exact List.mem_cons_of_mem _ hx)⟩
   ·rw [Bc (by simp [h0])]
    exact .inr ⟨e,h0,rfl,fun h=>h0 (hv.2 (h u[i] (by rw [hd];exact List.mem_cons_self ..)))⟩
  ·rw [B5 (dF (by omega))]
   exact .inl ⟨fun x hx=>(by rw [List.drop_of_length_le (by omega)] at hx;cases hx),rfl⟩
theorem Z6 {F:Nat} (hF:5000≤F) (p:api_Sweep) (hp:p.Rays.length≤1000) (hr:∀r∈p.Rays,r.length≤1000):∀(m i:Nat),p.Rays.length-i<m→i≤p.Rays.length →
  ∃e,Dh F p m i=some e∧(e=0↔∀r∈p.Rays.drop i,∀x∈r,vEcho x):=by
 intro m
 induction m with
 | zero=>intro i h;omega
 | succ m ih =>
  intro i h hi
  rw [Dh,Gi]
  by_cases hb:i<p.Rays.length
  ·have hd:=List.drop_eq_getElem_cons hb
   have hl:=hr p.Rays[i] (List.getElem_mem hb)
   rw [Bc (dT (by omega)),Hc i p.Rays[i] rfl (List.getElem?_eq_getElem hb)]
   rcases A0l hF i (Dh F p m) p.Rays[i] hl F 0 (by omega) (by omega) with ⟨h1,h2⟩|⟨e,h1,h2,h3⟩
   ·rw [show (0:Int)=((0:Nat):Int) from rfl,h2,F8,ckb (by omega)]
    obtain ⟨e,he,hv⟩:=ih (i+1) (by omega) (by omega)
    refine ⟨e,he,hv.trans ?_⟩
    rw [hd]
    constructor
    ·intro h r hr'
     rcases List.mem_cons.1 hr' with rfl|hr'
     ·exact h1
     ·exact h r hr'
    ·exact fun h r hr'=>h r (List.mem_cons_of_mem _ hr')
   ·refine ⟨e,h2,⟨fun h=>absurd h h1,fun h=>absurd (h p.Rays[i] (by rw [hd];exact List.mem_cons_self ..)) h3⟩⟩
  ·rw [B5 (dF (by omega)),Gm]
   exact ⟨0,rfl,by simp [List.drop_of_length_le (show p.Rays.length≤i by omega)]⟩
theorem Xm {F:Nat} (hF:5000≤F) (p:api_Sweep) (hp:p.Rays.length≤1000) (hg:p.Site.Gates≤200):∀(m i:Nat),p.Rays.length-i<m→i≤p.Rays.length→(∀r∈p.Rays.take i,(r.length:Int)=p.Site.Gates) →
  ∃e,Eb F p m i=some e∧(e=0↔(∀r∈p.Rays,(r.length:Int)=p.Site.Gates)∧∀r∈p.Rays,∀x∈r,vEcho x):=by
 intro m
 induction m with
 | zero=>intro i h;omega
 | succ m ih =>
  intro i h hi hpre
  rw [Eb,Gk]
  by_cases hb:i<p.Rays.length
  ·rw [Bc (dT (by omega)),Hc i p.Rays[i] rfl (List.getElem?_eq_getElem hb)]
   by_cases hl:(p.Rays[i].length:Int)=p.Site.Gates
   ·rw [B5 (by simp [hl]),ckb (by omega)]
    refine ih (i+1) (by omega) (by omega) fun r hr=>?_
    rw [List.take_succ_eq_append_getElem hb] at hr
    rcases List.mem_append.1 hr with hr|hr
    ·exact hpre r hr
    ·simp at hr;rw [hr];exact hl
   ·rw [Bc (by simp [hl])]
    exact ⟨11,rfl,⟨fun h=>by simp at h,fun h=>absurd (h.1 p.Rays[i] (List.getElem_mem hb)) hl⟩⟩
  ·rw [B5 (dF (by omega)),Gl]
   rw [List.take_of_length_le (by omega)] at hpre
   obtain ⟨e,he,hv⟩:=Z6 hF p hp (fun r hr=>by have:=hpre r hr;omega) F 0 (by omega) (by omega)
   exact ⟨e,he,hv.trans ⟨fun h=>⟨hpre,h⟩,fun h=>h.2⟩⟩
def vSweep (s:api_Sweep):Prop:=Rc s.Site∧inB s.Tilt 0 256∧inB s.Time 0 4294967296∧(s.Rays.length:Int)=4*s.Site.Rose∧(∀r∈s.Rays,(r.length:Int)=s.Site.Gates)∧∀r∈s.Rays,∀x∈r,vEcho x
theorem Yc {F:Nat} (hF:5000≤F) (p:api_Sweep):∃e,Gp F p=some e∧(e=0↔vSweep p):=by
 obtain ⟨e,he,hv⟩:=Wa F p.Site
 unfold Gp vSweep
 rw [he,sb]
 simp only [Nj]
 by_cases h0:e=0
 ·have hs:=hv.1 h0
  obtain ⟨_,_,_,_,⟨r1,r2⟩,⟨g1,g2⟩,_⟩:=hv.1 h0
  rw [B5 (by simp [h0])]
  by_cases h1:inB p.Tilt 0 256
  ·by_cases h2:inB p.Time 0 4294967296
   ·rw [B5 (by simp [h1,h2]),ckb (by omega)]
    by_cases h3:(p.Rays.length:Int)=4*p.Site.Rose
    ·rw [B5 (by simp [h3])]
     obtain ⟨e',he',hv'⟩:=Xm hF p (by omega) g2 F 0 (by omega) (by omega) (fun r hr=>by simp at hr)
     exact ⟨e',he',hv'.trans ⟨fun h=>⟨hs,h1,h2,h3,h.1,h.2⟩,fun h=>⟨h.2.2.2.2.1,h.2.2.2.2.2⟩⟩⟩
    ·rw [Bc (by simp [h3])]
     exact ⟨11,rfl,⟨fun h=>by simp at h,fun h=>absurd h.2.2.2.1 h3⟩⟩
   ·rw [Bc (by simp [h2])]
    exact ⟨3,rfl,⟨fun h=>by simp at h,fun h=>absurd h.2.2.1 h2⟩⟩
  ·rw [Bc (by simp [h1])]
   exact ⟨3,rfl,⟨fun h=>by simp at h,fun h=>absurd h.2.1 h1⟩⟩
 ·rw [Bc (by simp [h0])]
  exact ⟨e,rfl,⟨fun h=>absurd h h0,fun h=>absurd (hv.2 h.1) h0⟩⟩
def vVal (v:api_Span):Prop:=0≤v.Lo∧v.Lo≤v.Hi∧v.Hi≤1073741824
theorem Zd {p:api_Field} (hp:p.Vals.length≤1000000):∀(m i:Nat),p.Vals.length-i<m→i≤p.Vals.length →
  ∃e,H8 p 1073741824 m i=some e∧(e=0↔∀v∈p.Vals.drop i,vVal v):=by
 intro m
 induction m with
 | zero=>intro i h;omega
 | succ m ih =>
  intro i h hi
  rw [H8,Ke]
  by_cases hb:i<p.Vals.length
  ·have hd:=List.drop_eq_getElem_cons hb
   rw [Bc (dT (by omega)),Hc i p.Vals[i] rfl (List.getElem?_eq_getElem hb)]
   by_cases hv:vVal p.Vals[i]
   ·obtain ⟨a,b,c⟩:=hv
    rw [B5 (by rw [dF (show ¬p.Vals[i].Lo<0 by omega),dF (show ¬p.Vals[i].Hi<p.Vals[i].Lo by omega),dF (show ¬p.Vals[i].Hi>1073741824 by omega)];rfl),ckb (by omega)]
    obtain ⟨e,he,hv⟩:=ih (i+1) (by omega) (by omega)
    refine ⟨e,he,hv.trans ?_⟩
    rw [hd]
    constructor
    ·intro h v hv'
     rcases List.mem_cons.1 hv' with rfl|hv'
     ·exact ⟨a,b,c⟩
     ·exact h v hv'
    ·exact fun h v hv'=>h v (List.mem_cons_of_mem _ hv')
   ·rw [Bc ?_]
    ·exact ⟨3,rfl,⟨fun h=>by simp at h,fun h=>absurd (h p.Vals[i] (by rw [hd];exact List.mem_cons_self ..)) hv⟩⟩
    ·by_cases h1:p.Vals[i].Lo<0
     ·simp [h1]
     ·by_cases h2:p.Vals[i].Hi<p.Vals[i].Lo
      ·simp [h2]
      ·have:p.Vals[i].Hi>1073741824:=by
        rcases Int.lt_or_le 1073741824 p.Vals[i].Hi with h|h
        ·exact h
        ·exact absurd ⟨by omega,by omega,h⟩ hv
       simp [this]
  ·rw [B5 (dF (by omega)),Kf]
   exact ⟨0,rfl,by simp [List.drop_of_length_le (show p.Vals.length≤i by omega)]⟩
def Sr (f:volume_field):Prop:=Qg f.key=true∧inB f.time 0 4294967296∧Qm f.Field.Grid∧(f.Field.Vals.length:Int)=f.Field.Grid.Wide*f.Field.Grid.High∧∀v∈f.Field.Vals,vVal v
theorem Qb {g:api_Grid} (h:Qm g):0≤g.Wide*g.High∧g.Wide*g.High≤4096:=by
 obtain ⟨_,_,_,⟨a,b⟩,⟨c,d⟩⟩:=h
 have h1:g.Wide*g.High≤64*g.High:=Int.mul_le_mul_of_nonneg_right b (by omega)
 exact ⟨Int.mul_nonneg (by omega) (by omega),by omega⟩
theorem Xk {F:Nat} (hF:5000≤F) (f:volume_field):∃e,Da F f=some e∧(e=0↔Sr f):=by
 unfold Da Sr J1 Mi
 rw [W0,sb]
 cases Qg f.key with
 | false=>exact ⟨10,by rw [Bc (by rfl)],by simp⟩
 | true =>
  rw [B5 (by rfl)]
  by_cases h1:inB f.time 0 4294967296
  ·rw [B5 (by have:=h1.1;have:=h1.2;rw [dF (show ¬f.time<0 by omega),dF (show ¬f.time>4294967296 by omega)];rfl)]
   have hg:=Vv f.Field.Grid
   by_cases h2:Bb f.Field.Grid=0
   ·obtain ⟨c1,c2⟩:=Qb (hg.1 h2)
    rw [B5 (by simp [h2]),ckb (by omega)]
    by_cases h3:(f.Field.Vals.length:Int)=f.Field.Grid.Wide*f.Field.Grid.High
    ·rw [B5 (by simp [h3])]
     obtain ⟨e,he,hv⟩:=Zd (p:=f.Field) (by omega) F 0 (by omega) (by omega)
     rw [show (0:Int)=((0:Nat):Int) from rfl,he]
     exact ⟨e,rfl,hv.trans ⟨fun h=>⟨rfl,h1,hg.1 h2,h3,h⟩,fun h=>h.2.2.2.2⟩⟩
    ·rw [Bc (by simp [h3])]
     exact ⟨11,rfl,⟨fun h=>by simp at h,fun h=>absurd h.2.2.2.1 h3⟩⟩
   ·rw [Bc (by simp [h2])]
    exact ⟨_,rfl,⟨fun h=>absurd h h2,fun h=>absurd (hg.2 h.2.2.1) h2⟩⟩
  ·rw [Bc ?_]
   ·exact ⟨3,rfl,⟨fun h=>by simp at h,fun h=>absurd h.2.1 h1⟩⟩
   ·by_cases h:f.time<0
    ·simp [h]
    ·have:f.time>4294967296:=by
      rcases Int.lt_or_le 4294967296 f.time with h|h
      ·exact h
      ·exact absurd ⟨by omega,h⟩ h1
     simp [this]
def Ux (n:volume_note):Prop:=inB n.time 0 4294967296∧n.text.size≤200∧∀c∈sby n.text,32≤c∧c≤126
theorem Xf (l:List Int) (hl:l.length≤1000000):∀(m i:Nat),l.length-i<m→i≤l.length →
  ∃e,E3 l m i=some e∧(e=0↔∀c∈l.drop i,32≤c∧c≤126):=by
 intro m
 induction m with
 | zero=>intro i h;omega
 | succ m ih =>
  intro i h hi
  rw [E3,G7]
  by_cases hb:i<l.length
  ·have hd:=List.drop_eq_getElem_cons hb
   rw [Bc (dT (by omega)),Hc i l[i] rfl (List.getElem?_eq_getElem hb)]
   by_cases hv:32≤l[i]∧l[i]≤126
   ·rw [B5 (by rw [dF (show ¬l[i]<32 by omega),dF (show ¬l[i]>126 by omega)];rfl),ckb (by omega)]
    obtain ⟨e,he,hv'⟩:=ih (i+1) (by omega) (by omega)
    refine ⟨e,he,hv'.trans ?_⟩
    rw [hd]
    constructor
    ·intro h v hv'
     rcases List.mem_cons.1 hv' with rfl|hv'
     ·exact hv
     ·exact h v hv'
    ·exact fun h v hv'=>h v (List.mem_cons_of_mem _ hv')
   ·rw [Bc ?_]
    ·exact ⟨7,rfl,⟨fun h=>by simp at h,fun h=>absurd (h l[i] (by rw [hd];exact List.mem_cons_self ..)) hv⟩⟩
    ·by_cases h1:l[i]<32
     ·simp [h1]
     ·have:l[i]>126:=by omega
      simp [this]
  ·rw [B5 (dF (by omega)),G8]
   exact ⟨0,rfl,by simp [List.drop_of_length_le (show l.length≤i by omega)]⟩
theorem Yu {F:Nat} (hF:5000≤F) (n:volume_note):∃e,Dn F n=some e∧(e=0↔Ux n):=by
 unfold Dn Ux
 by_cases h1:inB n.time 0 4294967296
 ·rw [B5 (by have:=h1.1;have:=h1.2;rw [dF (show ¬n.time<0 by omega),dF (show ¬n.time>4294967296 by omega)];rfl)]
  by_cases h2:n.text.size≤200
  ·have hs:s2b n.text=some (sby n.text):=by unfold s2b;rw [if_pos (by omega)]
   rw [B5 (dF (by omega)),hs,sb]
   obtain ⟨e,he,hv⟩:=Xf (sby n.text) (by rw [Jq];omega) F 0 (by rw [Jq];omega) (by omega)
   exact ⟨e,he,hv.trans ⟨fun h=>⟨h1,h2,h⟩,fun h=>h.2.2⟩⟩
  ·rw [Bc (dT (by omega))]
   exact ⟨8,rfl,⟨fun h=>by simp at h,fun h=>absurd h.2.1 h2⟩⟩
 ·rw [Bc ?_]
  ·exact ⟨3,rfl,⟨fun h=>by simp at h,fun h=>absurd h.1 h1⟩⟩
  ·by_cases h:n.time<0
   ·simp [h]
   ·have:n.time>4294967296:=by
     rcases Int.lt_or_le 4294967296 n.time with h|h
     ·exact h
     ·exact absurd ⟨by omega,h⟩ h1
    simp [this]
def vT (t:volume_thing):Prop:=t.cs False (fun s=>vSweep s.Sweep) Sr Ux
theorem U6 {F:Nat} (hF:5000≤F) {t:volume_thing} (ht:t≠.nil_):∃e,Dt F t=some e∧(e=0↔vT t):=by
 cases t with
 | nil_=>exact absurd rfl ht
 | ic112 s =>
  obtain ⟨e,he,hv⟩:=Yc (F:=F) (by omega) s.Sweep
  exact ⟨e,by show Db F s=_;rw [Db,he];rfl,hv⟩
 | ic114 f=>exact Xk hF f
 | ic116 n=>exact Yu (by omega) n
theorem Ka {x lo hi:Int} (h:inB x lo hi) (h0:0≤lo) (h1:hi≤4611686018427387904):okN x:=⟨by have:=h.1;omega,by have:=h.2;omega⟩
theorem P7 {s:ByteArray} (h:Qg s=true):s.size≤12:=by
 unfold Qg at h
 simp only [Bool.and_eq_true,decide_eq_true_eq] at h
 omega
theorem vEcho.ok {x:api_Echo} (h:vEcho x):okE x:=by
 have hz:∀{s:api_Span},z0 s→okS s:=fun {s} h=>⟨by have:=h.1;omega,by have:=h.1;have:=h.2;omega,by have:=h.2;omega⟩
 have hi:∀{s:api_Span} {lo hi:Int},K7 s lo hi→-1000000000000000000≤lo→hi≤1000000000000000000→okS s:=fun {s lo hi} h h1 h2=>⟨by have:=h.1;omega,h.2.1,by have:=h.2.2;omega⟩
 have ht:∀{s:api_Span},Hl s→okS s:=fun {s} h=>⟨by have:=h.1;omega,h.2.2.1,by have:=h.2.1;have:=h.2.2.2;omega⟩
 rcases h with ⟨a,b,c,d,e,f,g,h,i⟩|⟨a,b,c,d,e,f,g,h⟩
 ·exact ⟨⟨by omega,by omega⟩,⟨by have:=b.1;have:=b.2.1;omega,by have:=b.2.2;omega⟩,⟨by omega,by omega⟩,hi b (by decide) (by decide),hz g,hz h,hz d,hz e,hz i⟩
 ·have hh:okS x.Steps.1∧okS x.Steps.2∧okS x.Turn:=by
   rcases a with a|a
   ·obtain ⟨u,v,w⟩:=g a;exact ⟨hz u,hz v,hz w⟩
   ·obtain ⟨u,v,w⟩:=h a;exact ⟨ht u,ht v,ht w⟩
  exact ⟨⟨by omega,by omega⟩,⟨by have:=b.1;have:=b.2.1;omega,by have:=b.2.2;omega⟩,Ka f (by decide) (by decide),hi b (by decide) (by decide),hi d (by decide) (by decide),hi e (by decide) (by decide),hh.1,hh.2.1,hh.2.2⟩
theorem Vs {α:Type} {l:List (List α)} {n:Nat} (h:∀r∈l,r.length=n):l.flatten.length=l.length*n:=by
 induction l with
 | nil=>simp
 | cons r l ih =>
  rw [List.flatten_cons,List.length_append,h r (by simp),ih fun r hr=>h r (by simp [hr]),List.length_cons,Nat.add_mul,Nat.one_mul];omega
theorem vSweep.len {s:api_Sweep} (h:vSweep s):(s.Rays.flatten.length:Int)=4*s.Site.Rose*s.Site.Gates:=by
 obtain ⟨_,_,_,h1,h2,_⟩:=h
 have hg:∀r∈s.Rays,r.length=s.Site.Gates.toNat:=fun r hr=>by have:=h2 r hr;omega
 rw [Vs hg]
 cases hr:s.Rays with
 | nil=>rw [hr] at h1;simp at h1;simp;rw [show s.Site.Rose=0 by omega];simp
 | cons r l =>
  have:=h2 r (by rw [hr];simp)
  rw [←hr,←h1]
  push_cast
  congr 1
  omega
theorem vT.ok {t:volume_thing} (h:vT t):okT t:=by
 cases t with
 | nil_=>exact h
 | ic112 s =>
  have hv:vSweep s.Sweep:=h
  have hlen:=hv.len
  obtain ⟨⟨n,x,y,z,r,g,st,w⟩,ti,tm,h1,h2,h3⟩:=hv
  have hm:4*s.Sweep.Site.Rose*s.Sweep.Site.Gates≤360*s.Sweep.Site.Gates:=Int.mul_le_mul_of_nonneg_right (by have:=r.2;omega) (by have:=g.1;omega)
  refine ⟨⟨by have:=P7 n;omega,⟨by have:=x.1;omega,by have:=x.2;omega⟩,⟨by have:=y.1;omega,by have:=y.2;omega⟩,Ka z (by decide) (by decide),Ka r (by decide) (by decide),Ka g (by decide) (by decide),Ka st (by decide) (by decide),Ka w (by decide) (by decide)⟩,Ka ti (by decide) (by decide),Ka tm (by decide) (by decide),by have:=r.2;omega,by have:=g.2;omega,fun r hr x hx=>(h3 r hr x hx).ok⟩
 | ic114 f =>
  obtain ⟨n,tm,hg,h1,h2⟩:=(show Sr f from h)
  have:=Qb hg
  obtain ⟨x,y,z,r,g⟩:=hg
  exact ⟨by have:=P7 n;omega,Ka tm (by decide) (by decide),⟨by have:=x.1;omega,by have:=x.2;omega⟩,⟨by have:=y.1;omega,by have:=y.2;omega⟩,Ka z (by decide) (by decide),Ka r (by decide) (by decide),Ka g (by decide) (by decide),by omega,fun v hv=>by obtain ⟨a,b,c⟩:=h2 v hv;exact ⟨by omega,b,by omega⟩⟩
 | ic116 n =>
  obtain ⟨tm,h1,h2⟩:=(show Ux n from h)
  exact ⟨Ka tm (by decide) (by decide),by omega⟩
end Go.Proofs.Ytifbomimeodibaa
namespace Go.Proofs.Ytifbomimeodibaa
open Go Go.RowKit Go.Eng
set_option maxRecDepth 10000
set_option linter.unusedVariables false
set_option linter.unusedSimpArgs false
instance (g:api_Grid):Decidable (Qm g):=by unfold Qm;infer_instance
def Sw {α:Type} (g:Nat):Nat→List α→List (List α)
 | 0,_=>[]
 | n+1,l=>l.take g::Sw g n (l.drop g)
def Sk (l:List Int):Option (volume_thing×List Int):=(rT l).bind fun nm=>(rI nm.2).bind fun x=>(rI x.2).bind fun y=>(rN y.2).bind fun z=>(rN z.2).bind fun ro=>(rN ro.2).bind fun g=>(rN g.2).bind fun st=>(rN st.2).bind fun w=>(rN w.2).bind fun ti=>(rN ti.2).bind fun tm =>
 if Rc ⟨nm.1,x.1,y.1,z.1,ro.1,g.1,st.1,w.1⟩ then (rL rE ((4*ro.1*g.1).toNat+1) (4*ro.1*g.1).toNat e0 tm.2).bind fun all=>some (.ic112 ⟨⟨⟨nm.1,x.1,y.1,z.1,ro.1,g.1,st.1,w.1⟩,ti.1,tm.1,Sw g.1.toNat (4*ro.1).toNat all.1⟩⟩,all.2) else none
def Si (l:List Int):Option (volume_thing×List Int):=(rT l).bind fun nm=>(rN nm.2).bind fun tm=>(rI tm.2).bind fun x=>(rI x.2).bind fun y=>(rN y.2).bind fun sz=>(rN sz.2).bind fun wd=>(rN wd.2).bind fun hi =>
 if Qm ⟨x.1,y.1,sz.1,wd.1,hi.1⟩ then (rL rS ((wd.1*hi.1).toNat+1) (wd.1*hi.1).toNat ⟨0,0⟩ hi.2).bind fun all=>some (.ic114 ⟨nm.1,tm.1,⟨⟨x.1,y.1,sz.1,wd.1,hi.1⟩,all.1⟩⟩,all.2) else none
def Uj (l:List Int):Option (volume_thing×List Int):=(rN l).bind fun tm=>(rT tm.2).bind fun tx=>some (.ic116 ⟨tm.1,tx.1⟩,tx.2)
def Kw (l:List Int):Option (volume_thing×List Int):=(rN l).bind fun k=>if k.1=1 then Sk k.2 else if k.1=2 then Si k.2 else if k.1=3 then Uj k.2 else none
theorem Z0 (a:ByteArray×volume_reader) (b c:Int×volume_reader) (x1 x2 x3 x4 x5 x6 x7:Int) (y:List api_Echo×volume_reader) (hg:1≤x3∧x3≤1000):∀(m n:Nat) (acc:List (List api_Echo)) (l:List api_Echo),n<m→l.length=n*x3.toNat→n+acc.length≤1000 →
  Cf a b c x1 x2 x3 x4 x5 x6 x7 y m acc l=E0 a b c x1 x2 x3 x4 x5 x6 x7 y (acc++Sw x3.toNat n l):=by
 intro m
 induction m with
 | zero=>intro n acc l h;omega
 | succ m ih =>
  intro n acc l h hl hn
  rw [Cf,F1]
  cases n with
  | zero =>
   rw [B5 (dF (by omega)),Sw,List.append_nil]
  | succ n =>
   rw [Nat.add_mul,Nat.one_mul] at hl
   rw [Bc (dT (by omega)),Ru x3.toNat rfl (by omega) (by omega),M3 (by simp;omega) (by decide),Kg x3.toNat (by omega) rfl (by omega)]
   rw [ih n (acc++[l.take x3.toNat]) (l.drop x3.toNat) (by omega) (by simp;omega) (by simp;omega)]
   rw [Sw,List.append_assoc]
   rfl
theorem Tt (F:Nat) (e:Int):Gt F e=some (if e=0 then .ok () else .error W7):=by
 unfold Gt
 by_cases h:e=0
 ·rw [B5 (by simp [h]),if_pos h]
 ·rw [Bc (by simp [h]),if_neg h];rfl
theorem Y5 {F:Nat} (hF:200000≤F) (nm:ByteArray) (x y z ro g st w ti tm:Int) (r0 r1 r2:volume_reader) {l:List Int} (hl:By l) :
  Rd (Dz F (nm,r0) (x,r1) (y,r2) z ro g st w ti tm l) (if Rc ⟨nm,x,y,z,ro,g,st,w⟩ then (rL rE ((4*ro*g).toNat+1) (4*ro*g).toNat e0 l).bind fun all=>some (.ic112 ⟨⟨⟨nm,x,y,z,ro,g,st,w⟩,ti,tm,Sw g.toNat (4*ro).toNat all.1⟩⟩,all.2) else none):=by
 unfold Dz
 obtain ⟨e,he,hv⟩:=Wa F ⟨nm,x,y,z,ro,g,st,w⟩
 rw [he,sb,Tt,sb]
 by_cases h:e=0
 ·rw [if_pos h,if_pos (hv.1 h)]
  obtain ⟨_,_,_,_,⟨b1,b2⟩,⟨b3,b4⟩,_⟩:=hv.1 h
  simp only at b1 b2 b3 b4
  have hm:4*ro*g≤360*g:=Int.mul_le_mul_of_nonneg_right (by omega) (by omega)
  have hm0:0≤4*ro*g:=Int.mul_nonneg (by omega) (by omega)
  show Rd ((ck (4*ro)).bind _) _
  rw [ckb (by omega),ckb (by omega)]
  have hr:=Y4 hF (N:=(4*ro*g).toNat) (by omega) hl e0
  rw [show (((4*ro*g).toNat:Nat):Int)=4*ro*g by omega] at hr
  refine Rd.bind hr fun all r h2=>?_
  have hlen:=(A0c (fun l x r hb h=>Y0 hb h) _ _ _ _ _ _ hl h2).1
  have hl2:all.length=(4*ro).toNat*g.toNat:=by
   rw [hlen]
   have:(4*ro*g)=(((4*ro).toNat*g.toNat:Nat):Int):=by
    push_cast
    rw [show ((4*ro).toNat:Int)=4*ro by omega,show (g.toNat:Int)=g by omega]
   omega
  show Rd (Cf _ _ _ z ro g st w ti tm _ F [] all) _
  rw [Z0 _ _ _ z ro g st w ti tm _ ⟨b3,by omega⟩ F (4*ro).toNat [] all (by omega) hl2 (by simp;omega),E0]
  exact Rd.ok
 ·rw [if_neg h,if_neg (fun h'=>h (hv.2 h'))]
  exact Rd.bad
theorem Yz {F:Nat} (hF:200000≤F) {l:List Int} (hl:By l):Rd (Cj F ⟨l⟩) (Kw l):=by
 have h1000:1000≤F:=by omega
 rw [Cj,Kw]
 refine (De h1000 hl).bind fun k r h=>?_
 have hb:=hl.suf (G6 hl h).2.2
 show Rd (bif k==1 then _ else bif k==2 then _ else bif k==3 then _ else _) (if k=1 then _ else if k=2 then _ else if k=3 then _ else _)
 by_cases k1:k=1
 ·rw [if_pos k1,Bc (by simp [k1]),Sk]
  refine (Vc h1000 hb).bind fun nm r1 h1=>?_
  have b1:=hb.suf (Zp hb h1).1
  refine (M9 h1000 b1).bind fun x r2 h2=>?_
  have b2:=b1.suf (Tg b1 h2).2
  refine (M9 h1000 b2).bind fun y r3 h3=>?_
  have b3:=b2.suf (Tg b2 h3).2
  refine (De h1000 b3).bind fun z r4 h4=>?_
  have b4:=b3.suf (G6 b3 h4).2.2
  refine (De h1000 b4).bind fun ro r5 h5=>?_
  have b5:=b4.suf (G6 b4 h5).2.2
  refine (De h1000 b5).bind fun g r6 h6=>?_
  have b6:=b5.suf (G6 b5 h6).2.2
  refine (De h1000 b6).bind fun st r7 h7=>?_
  have b7:=b6.suf (G6 b6 h7).2.2
  refine (De h1000 b7).bind fun w r8 h8=>?_
  have b8:=b7.suf (G6 b7 h8).2.2
  refine (De h1000 b8).bind fun ti r9 h9=>?_
  have b9:=b8.suf (G6 b8 h9).2.2
  refine (De h1000 b9).bind fun tm r10 h10=>?_
  have b10:=b9.suf (G6 b9 h10).2.2
  exact Y5 hF nm x y z ro g st w ti tm _ _ _ b10
 ·rw [if_neg k1,B5 (by simp [k1])]
  by_cases k2:k=2
  ·rw [if_pos k2,Bc (by simp [k2]),Si]
   refine (Vc h1000 hb).bind fun nm r1 h1=>?_
   have b1:=hb.suf (Zp hb h1).1
   refine (De h1000 b1).bind fun tm r2 h2=>?_
   have b2:=b1.suf (G6 b1 h2).2.2
   refine (M9 h1000 b2).bind fun x r3 h3=>?_
   have b3:=b2.suf (Tg b2 h3).2
   refine (M9 h1000 b3).bind fun y r4 h4=>?_
   have b4:=b3.suf (Tg b3 h4).2
   refine (De h1000 b4).bind fun sz r5 h5=>?_
   have b5:=b4.suf (G6 b4 h5).2.2
   refine (De h1000 b5).bind fun wd r6 h6=>?_
   have b6:=b5.suf (G6 b5 h6).2.2
   refine (De h1000 b6).bind fun hi r7 h7=>?_
   have b7:=b6.suf (G6 b6 h7).2.2
   show Rd ((Gt F (Bb ⟨x,y,sz,wd,hi⟩)).bind _) (if Qm ⟨x,y,sz,wd,hi⟩ then _ else _)
   rw [Tt,sb]
   have hg:=Vv ⟨x,y,sz,wd,hi⟩
   by_cases h0:Bb ⟨x,y,sz,wd,hi⟩=0
   ·rw [if_pos h0,if_pos (hg.1 h0)]
    obtain ⟨c1,c2⟩:=Qb (hg.1 h0)
    simp only at c1 c2
    show Rd ((ck (wd*hi)).bind _) _
    rw [ckb (by omega)]
    have hr:=Yy hF (N:=(wd*hi).toNat) (by omega) b7 ⟨0,0⟩
    rw [show (((wd*hi).toNat:Nat):Int)=wd*hi by omega] at hr
    refine Rd.bind hr fun all r h2=>?_
    exact Rd.ok
   ·rw [if_neg h0,if_neg (fun h'=>h0 (hg.2 h'))]
    exact Rd.bad
  ·rw [if_neg k2,B5 (by simp [k2])]
   by_cases k3:k=3
   ·rw [if_pos k3,Bc (by simp [k3]),Uj]
    refine (De h1000 hb).bind fun tm r1 h1=>?_
    have b1:=hb.suf (G6 hb h1).2.2
    refine (Vc h1000 b1).bind fun tx r2 h2=>?_
    exact Rd.ok
   ·rw [if_neg k3,B5 (by simp [k3]),F2]
    exact Rd.bad
theorem Uk {F:Nat} (hF:1000≤F) {p:List Int} (hp:By p):(∃r,D0 F ⟨p⟩=some (0,false,r)∧rN p=none)∨∃n r,D0 F ⟨p⟩=some (n,true,⟨r⟩)∧rN p=some (n,r):=by
 have h:=De hF hp
 unfold D0
 cases hn:rN p with
 | none =>
  rw [hn] at h
  obtain ⟨r,h⟩:=h
  rw [h]
  exact .inl ⟨_,rfl,rfl⟩
 | some y =>
  rw [hn] at h
  rw [show Ag F ⟨p⟩=some (.ok (y.1,⟨y.2⟩)) from h]
  exact .inr ⟨y.1,y.2,rfl,rfl⟩
theorem Ql {l:List Int} (h:By l):sby (bst l)=l:=by
 unfold sby bst
 simp only [List.map_map]
 conv=>rhs;rw [←List.map_id l]
 apply List.map_congr_left
 intro x hx
 have:=h x hx
 simp only [Function.comp,id]
 rw [UInt8.toNat_ofNat_of_lt' (show x.toNat<256 by omega)]
 omega
theorem Yl (s:ByteArray):bst (sby s)=s:=by
 unfold sby bst
 cases s with
 | mk d =>
  congr 1
  apply Array.toList_inj.1
  simp only [List.map_map]
  conv=>rhs;rw [←List.map_id d.toList]
  apply List.map_congr_left
  intro x hx
  simp
theorem bEq {a b:List Int} (ha:By a) (hb:By b):Es a b=decide (a=b):=by
 unfold Es
 rw [Bool.eq_iff_iff,Ty,decide_eq_true_eq]
 exact ⟨fun h=>by rw [←Ql ha,←Ql hb,h],fun h=>by rw [h]⟩
theorem Wx {l:List Int} {t:volume_thing} {r:List Int} (h:Kw l=some (t,r)):t≠.nil_:=by
 obtain ⟨k,r1,h1,h⟩:=Ee h
 split at h
 ·unfold Sk at h
  obtain ⟨_,_,_,h⟩:=Ee h
  obtain ⟨_,_,_,h⟩:=Ee h
  obtain ⟨_,_,_,h⟩:=Ee h
  obtain ⟨_,_,_,h⟩:=Ee h
  obtain ⟨_,_,_,h⟩:=Ee h
  obtain ⟨_,_,_,h⟩:=Ee h
  obtain ⟨_,_,_,h⟩:=Ee h
  obtain ⟨_,_,_,h⟩:=Ee h
  obtain ⟨_,_,_,h⟩:=Ee h
  obtain ⟨_,_,_,h⟩:=Ee h
  split at h
  ·obtain ⟨_,_,_,h⟩:=Ee h
   cases h
   simp
  ·cases h
 ·split at h
  ·unfold Si at h
   obtain ⟨_,_,_,h⟩:=Ee h
   obtain ⟨_,_,_,h⟩:=Ee h
   obtain ⟨_,_,_,h⟩:=Ee h
   obtain ⟨_,_,_,h⟩:=Ee h
   obtain ⟨_,_,_,h⟩:=Ee h
   obtain ⟨_,_,_,h⟩:=Ee h
   obtain ⟨_,_,_,h⟩:=Ee h
   split at h
   ·obtain ⟨_,_,_,h⟩:=Ee h
    cases h
    simp
   ·cases h
  ·split at h
   ·unfold Uj at h
    obtain ⟨_,_,_,h⟩:=Ee h
    obtain ⟨_,_,_,h⟩:=Ee h
    cases h
    simp
   ·cases h
noncomputable instance (t:volume_thing):Decidable (vT t):=Classical.propDecidable _
noncomputable def unS (p:List Int):volume_thing×Int:=match rN p with
 | none=>(.nil_,15)
 | some (n,r)=>if (r.length:Int)≠n+5 then (.nil_,15) else if p.drop (p.length-5)≠U3 (p.take (p.length-5)) then (.nil_,15) else match Kw (r.take n.toNat) with
  | none=>(.nil_,7)
  | some (t,r2)=>if vT t∧r2=[] then (t,0) else (.nil_,7)
theorem A1p {F:Nat} (hF:200000≤F) {p:List Int} (hp:By p) (hl:p.length<F) (hl9:p.length≤1000000000):Hb F p=some (unS p):=by
 unfold Hb unS
 rcases Uk (F:=F) (by omega) hp with ⟨r,h1,h2⟩|⟨n,r,h1,h2⟩
 ·rw [h1,h2,sb,Bc (by rfl)]
 ·obtain ⟨a,b,c⟩:=G6 hp h2
  have hrl:=c.length_le
  rw [h1,h2,sb,B5 (by rfl),ckb (by simp only;omega)]
  show (bif (r.length:Int) != n+5 then _ else _)=some (if (r.length:Int)≠n+5 then _ else _)
  by_cases h3:(r.length:Int)=n+5
  ·rw [if_neg (by simp [h3]),B5 (by simp [h3]),ckb (by omega),Kg (p.length-5) (by omega) rfl (by omega),ckb (by omega),Ru (p.length-5) rfl (by omega) (by omega)]
   have hby1:By (p.take (p.length-5)):=fun x hx=>hp x (List.mem_of_mem_take hx)
   have hby2:By (p.drop (p.length-5)):=fun x hx=>hp x (List.mem_of_mem_drop hx)
   rw [Yb (by omega) hby1 (by rw [List.length_take];omega) (by rw [List.length_take];omega),sb,bEq hby2 (Wc _).by]
   by_cases h4:p.drop (p.length-5)=U3 (p.take (p.length-5))
   ·rw [if_neg (by simp [h4]),dT h4,B5 (by rfl),Ru n.toNat rfl (by simp only;omega) (show n.toNat≤r.length by omega)]
    have hbr:By (r.take n.toNat):=fun x hx=>(hp.suf c) x (List.mem_of_mem_take hx)
    have ht:=Yz hF hbr
    cases h5:Kw (r.take n.toNat) with
    | none =>
     rw [h5] at ht
     obtain ⟨r',ht⟩:=ht
     show (Cj F ⟨r.take n.toNat⟩).bind _=_
     rw [ht,sb]
     rfl
    | some y =>
     obtain ⟨t,r2⟩:=y
     rw [h5] at ht
     show (Cj F ⟨r.take n.toNat⟩).bind _=_
     rw [show Cj F ⟨r.take n.toNat⟩=some (.ok (t,⟨r2⟩)) from ht,sb]
     obtain ⟨e,he,hv⟩:=U6 (F:=F) (by omega) (Wx h5)
     show (Dt F t).bind _=_
     rw [he,sb,Tt,sb]
     by_cases h6:e=0
     ·rw [if_pos h6]
      by_cases h7:r2=[]
      ·subst h7
       show _=some (if vT t∧([]:List Int)=[] then _ else _)
       rw [if_pos ⟨hv.1 h6,rfl⟩]
       rfl
      ·show (bif decide ((r2.length:Int)>0) then _ else _)=some (if vT t∧r2=[] then _ else _)
       rw [if_neg (fun h=>h7 h.2),Bc (dT (by have:=List.length_pos_iff.2 h7;omega))]
     ·rw [if_neg h6]
      show _=some (if vT t∧r2=[] then _ else _)
      rw [if_neg (fun h=>h6 (hv.2 h.1))]
      rfl
   ·rw [if_pos h4,dF h4,Bc (by rfl)]
  ·rw [if_pos h3,Bc (by simp [h3])]
end Go.Proofs.Ytifbomimeodibaa
namespace Go.Proofs.Ytifbomimeodibaa
open Go Go.RowKit Go.Eng
set_option maxRecDepth 10000
set_option linter.unusedVariables false
set_option linter.unusedSimpArgs false
theorem A0b:∀(k n:Nat) (f:Bool) (r:List Int),n<127 ^ (k+1)→(f=true∨n≠0)→rD (k+1) f (Ga n++r)=some ((n:Int),r):=by
 intro k
 induction k with
 | zero =>
  intro n f r h hf
  have hn:n<127:=by simpa using h
  rw [P8 hn]
  show rD 1 f (((n:Int)+1)::r)=_
  rw [rD,if_neg ?_,if_pos (by omega)]
  ·congr 2;omega
  ·rintro (h1|h1|⟨h1,h2⟩)
   ·omega
   ·omega
   ·rcases hf with h3|h3
    ·rw [h3] at h2;cases h2
    ·omega
 | succ k ih =>
  intro n f r h hf
  by_cases hn:n<127
  ·rw [P8 hn]
   show rD (k+1+1) f (((n:Int)+1)::r)=_
   rw [rD,if_neg ?_,if_pos (by omega)]
   ·congr 2;omega
   ·rintro (h1|h1|⟨h1,h2⟩)
    ·omega
    ·omega
    ·rcases hf with h3|h3
     ·rw [h3] at h2;cases h2
     ·omega
  ·rw [Rm (by omega)]
   have hm:=Nat.mod_lt n (show 0<127 by decide)
   show rD (k+1+1) f ((128+((n%127:Nat):Int))::(Ga (n/127)++r))=_
   rw [rD,if_neg (by rintro (h1|h1|⟨h1,h2⟩)<;>omega),if_neg (by omega),ih (n/127) false r (Nat.div_lt_of_lt_mul (by rw [Nat.pow_succ] at h;omega)) (.inr (by omega))]
   show some (128+((n%127:Nat):Int)-128+127*((n/127:Nat):Int),r)=_
   congr 2;omega
theorem R0 {n:Nat} (r:List Int) (h:n<67675234241018881):rN (Ga n++r)=some ((n:Int),r):=A0b 7 n true r h (.inl rfl)
def sm (x:Int):Prop:=-1000000000000000≤x∧x≤1000000000000000
theorem Ja {x:Int} (r:List Int) (h0:0≤x) (h:sm x):rN (Ga x.toNat++r)=some (x,r):=by
 rw [R0 r (by have:=h.2;omega)];congr 2;omega
theorem Zc (x:Int):unz (zig x:Int)=x:=by
 unfold unz zig
 split<;>split<;>omega
theorem Ui {x:Int} (r:List Int) (h:sm x):rI (Ga (zig x)++r)=some (x,r):=by
 obtain ⟨h1,h2⟩:=h
 rw [rI,R0 r (by unfold zig;split<;>omega)]
 show some (unz (zig x:Int),r)=_
 rw [Zc]
theorem Y3 {s:ByteArray} (r:List Int) (h:s.size≤1000000):rT (Jr s++r)=some (s,r):=by
 rw [rT,Jr,List.append_assoc,R0 _ (by omega)]
 have hl:=Jq s
 show (if ((s.size:Nat):Int)>((sby s++r).length:Int) then none else some (bst ((sby s++r).take ((s.size:Nat):Int).toNat),(sby s++r).drop ((s.size:Nat):Int).toNat))=_
 rw [if_neg (by rw [List.length_append];omega),Int.toNat_natCast,List.take_left' hl,List.drop_left' hl,Yl]
def smS (s:api_Span):Prop:=-1000000000≤s.Lo∧s.Lo≤s.Hi∧s.Hi≤2000000000
theorem Sj {s:api_Span} (r:List Int) (h:smS s):rS (H7 s++r)=some (s,r):=by
 obtain ⟨h1,h2,h3⟩:=h
 rw [rS,H7,List.append_assoc,Ui _ ⟨by omega,by omega⟩]
 show (rN (Ga (s.Hi-s.Lo).toNat++r)).bind _=_
 rw [Ja r (by omega) ⟨by omega,by omega⟩]
 show some ((⟨s.Lo,s.Lo+(s.Hi-s.Lo)⟩:api_Span),r)=_
 rw [show s.Lo+(s.Hi-s.Lo)=s.Hi by omega]
theorem Nn {s:api_Span} (h:z0 s):s=⟨0,0⟩:=by cases s;obtain ⟨h1,h2⟩:=h;simp only at h1 h2;rw [h1,h2]
theorem A1f {x:api_Echo} (r:List Int) (h:vEcho x):rE (Jz x++r)=some (x,r):=by
 have hi:∀{s:api_Span} {lo hi:Int},K7 s lo hi→0≤lo→hi≤1073741824→smS s:=fun {s lo hi} h h1 h2=>⟨by have:=h.1;omega,h.2.1,by have:=h.2.2;omega⟩
 have ht:∀{s:api_Span},Hl s→smS s:=fun {s} h=>⟨by have:=h.1;omega,h.2.2.1,by have:=h.2.1;have:=h.2.2.2;omega⟩
 rcases h with ⟨a,b,c,d,e,f,g,h,i⟩|⟨a,b,c,d,e,f,g,h⟩
 ·have hp:x=⟨1,⟨0,x.Power.Hi⟩,(⟨0,0⟩,⟨0,0⟩),0,⟨0,0⟩,⟨0,0⟩,⟨0,0⟩⟩:=by
   rcases x with ⟨k,⟨p1,p2⟩,⟨s1,s2⟩,sp,ra,ma,tu⟩
   simp only at a c d e f g h i
   rw [a,c,f,Nn d,Nn e,Nn g,Nn h,Nn i]
  rw [rE,Jz,List.append_assoc,if_pos a,Ja _ (by omega) ⟨by omega,by omega⟩]
  show (if x.Kind=1 then _ else _)=_
  rw [if_pos a]
  show (rN (Ga x.Power.Hi.toNat++r)).bind _=_
  rw [Ja _ (by have:=b.1;have:=b.2.1;omega) ⟨by have:=b.1;have:=b.2.1;omega,by have:=b.2.2;omega⟩]
  show some ((⟨x.Kind,⟨0,x.Power.Hi⟩,(⟨0,0⟩,⟨0,0⟩),0,⟨0,0⟩,⟨0,0⟩,⟨0,0⟩⟩:api_Echo),r)=_
  rw [a,←hp]
 ·have hk:x.Kind≠1:=by omega
  rw [rE,Jz,List.append_assoc,if_neg hk,Ja _ (by omega) ⟨by omega,by omega⟩]
  show (if x.Kind=1 then _ else _)=_
  rw [if_neg hk]
  simp only [List.append_assoc]
  show (rS (H7 x.Power++_)).bind _=_
  rw [Sj _ (hi b (by decide) (by decide))]
  show (rS (H7 x.Ratio++_)).bind _=_
  rw [Sj _ (hi d (by decide) (by decide))]
  show (rS (H7 x.Match++_)).bind _=_
  rw [Sj _ (hi e (by decide) (by decide))]
  show (rN (Ga x.Spread.toNat++_)).bind _=_
  rw [Ja _ (by have:=f.1;omega) ⟨by have:=f.1;omega,by have:=f.2;omega⟩]
  show (if x.Kind=3 then _ else _)=_
  by_cases h3:x.Kind=3
  ·obtain ⟨t1,t2,t3⟩:=h h3
   rw [if_pos h3,if_pos h3]
   simp only [List.append_assoc]
   show (rS (H7 x.Steps.1++_)).bind _=_
   rw [Sj _ (ht t1)]
   show (rS (H7 x.Steps.2++_)).bind _=_
   rw [Sj _ (ht t2)]
   show (rS (H7 x.Turn++_)).bind _=_
   rw [Sj _ (ht t3)]
   rfl
  ·obtain ⟨t1,t2,t3⟩:=g (by omega)
   rw [if_neg h3,if_neg h3]
   show some ((⟨x.Kind,x.Power,(⟨0,0⟩,⟨0,0⟩),x.Spread,x.Ratio,x.Match,⟨0,0⟩⟩:api_Echo),r)=_
   have hp:x=⟨x.Kind,x.Power,(⟨0,0⟩,⟨0,0⟩),x.Spread,x.Ratio,x.Match,⟨0,0⟩⟩:=by
    rcases x with ⟨k,p,⟨s1,s2⟩,sp,ra,ma,tu⟩
    simp only at t1 t2 t3
    rw [Nn t1,Nn t2,Nn t3]
   rw [←hp]
theorem A0d {α:Type} [DecidableEq α] {rd:List Int→Option (α×List Int)} {e:α→List Int} (r:List Int):∀(l:List α) (n m:Nat) (b:α),n+l.length<m→n+l.length<1000000000→(∀x∈l,∀r,rd (e x++r)=some (x,r)) →
  rL rd m (n+l.length) b (Jp e b n l++r)=some (List.replicate n b++l,r):=by
 intro l
 induction l with
 | nil =>
  intro n m b hm hn hx
  obtain ⟨m,rfl⟩:∃k,m=k+1:=⟨m-1,by omega⟩
  rw [rL,Jp]
  simp only [List.length_nil,Nat.add_zero] at hm hn ⊢
  by_cases h0:n=0
  ·rw [if_pos h0,if_pos h0,h0];rfl
  ·rw [if_neg h0,if_neg h0,R0 _ (by omega)]
   show (if (n:Int)>(n:Int) then none else if n=((n:Nat):Int).toNat then some (List.replicate n b,r) else _)=_
   rw [if_neg (by omega),if_pos (by omega),List.append_nil]
 | cons x l ih =>
  intro n m b hm hn hx
  simp only [List.length_cons] at hm hn ⊢
  rw [Jp]
  by_cases hb:x=b
  ·rw [if_pos hb]
   have:=ih (n+1) m b (by omega) (by omega) (fun y hy=>hx y (by simp [hy]))
   rw [show n+(l.length+1)=n+1+l.length by omega,this,hb,List.replicate_succ',List.append_assoc]
   rfl
  ·rw [if_neg hb]
   obtain ⟨m,rfl⟩:∃k,m=k+1:=⟨m-1,by omega⟩
   rw [rL,if_neg (by omega),List.append_assoc,R0 _ (by omega)]
   show (if (n:Int)>((n+(l.length+1):Nat):Int) then none else if n+(l.length+1)=((n:Nat):Int).toNat then _ else (rd ((e x++Jp e x 0 l)++r)).bind fun z=>if z.1=b then none else (rL rd m (n+(l.length+1)-((n:Nat):Int).toNat-1) z.1 z.2).map fun u=>(List.replicate ((n:Nat):Int).toNat b++z.1::u.1,u.2))=_
   rw [if_neg (by omega),if_neg (by omega),List.append_assoc,hx x (by simp)]
   show (if x=b then none else (rL rd m (n+(l.length+1)-((n:Nat):Int).toNat-1) x (Jp e x 0 l++r)).map fun u=>(List.replicate ((n:Nat):Int).toNat b++x::u.1,u.2))=_
   have:=ih 0 m x (by omega) (by omega) (fun y hy=>hx y (by simp [hy]))
   rw [if_neg hb,Int.toNat_natCast,show n+(l.length+1)-n-1=0+l.length by omega,this]
   rfl
theorem Zo {α:Type} [DecidableEq α] {rd:List Int→Option (α×List Int)} {e:α→List Int} (r:List Int) (l:List α) (b:α) (hl:l.length<1000000000) (hx:∀x∈l,∀r,rd (e x++r)=some (x,r)) :
  rL rd (l.length+1) l.length b (Jp e b 0 l++r)=some (l,r):=by
 have:=A0d (rd:=rd) r l 0 (l.length+1) b (by omega) (by omega) hx
 simpa using this
theorem Wj {α:Type} {g:Nat}:∀(rows:List (List α)),(∀r∈rows,r.length=g)→Sw g rows.length rows.flatten=rows:=by
 intro rows
 induction rows with
 | nil=>intro _;rfl
 | cons r rows ih =>
  intro h
  have hr:=h r (by simp)
  rw [List.length_cons,Sw,List.flatten_cons,List.take_left' hr,List.drop_left' hr,ih fun r hr=>h r (by simp [hr])]
theorem vVal.sm {v:api_Span} (h:vVal v):smS v:=by obtain ⟨a,b,c⟩:=h;exact ⟨by omega,b,by omega⟩
theorem smI {x lo hi:Int} (h:inB x lo hi) (h1:-100000000000≤lo) (h2:hi≤100000000000):Go.Proofs.Ytifbomimeodibaa.sm x:=⟨by have:=h.1;omega,by have:=h.2;omega⟩
theorem Wy {t:volume_thing} (r:List Int) (h:vT t):Kw (D1 t++r)=some (t,r):=by
 cases t with
 | nil_=>exact h.elim
 | ic112 s =>
  have hv:vSweep s.Sweep:=h
  have hlen:=hv.len
  have hv':=hv
  obtain ⟨hsite,ti,tm,h1,h2,h3⟩:=hv'
  have hsite':=hsite
  obtain ⟨n,x,y,z,ro,g,st,w⟩:=hsite'
  have hm:4*s.Sweep.Site.Rose*s.Sweep.Site.Gates≤360*s.Sweep.Site.Gates:=Int.mul_le_mul_of_nonneg_right (by have:=ro.2;omega) (by have:=g.1;omega)
  have hg2:=g.2
  show Kw (Q0 s.Sweep++r)=_
  simp only [Q0,G5,Qc,List.flatMap_cons,List.flatMap_nil,List.append_nil,List.append_assoc]
  rw [Kw,Ja _ (by decide) ⟨by decide,by decide⟩]
  show Sk _=_
  rw [Sk,Y3 _ (by have:=P7 n;omega)]
  show (rI _).bind _=_
  rw [Ui _ (smI x (by decide) (by decide))]
  show (rI _).bind _=_
  rw [Ui _ (smI y (by decide) (by decide))]
  show (rN _).bind _=_
  rw [Ja _ (by have:=z.1;omega) (smI z (by decide) (by decide))]
  show (rN _).bind _=_
  rw [Ja _ (by have:=ro.1;omega) (smI ro (by decide) (by decide))]
  show (rN _).bind _=_
  rw [Ja _ (by have:=g.1;omega) (smI g (by decide) (by decide))]
  show (rN _).bind _=_
  rw [Ja _ (by have:=st.1;omega) (smI st (by decide) (by decide))]
  show (rN _).bind _=_
  rw [Ja _ (by have:=w.1;omega) (smI w (by decide) (by decide))]
  show (rN _).bind _=_
  rw [Ja _ (by have:=ti.1;omega) (smI ti (by decide) (by decide))]
  show (rN _).bind _=_
  rw [Ja _ (by have:=tm.1;omega) (smI tm (by decide) (by decide))]
  show (if Rc s.Sweep.Site then (rL rE ((4*s.Sweep.Site.Rose*s.Sweep.Site.Gates).toNat+1) (4*s.Sweep.Site.Rose*s.Sweep.Site.Gates).toNat e0 (Jp Jz e0 0 s.Sweep.Rays.flatten++r)).bind fun all=>some (volume_thing.ic112 ⟨⟨s.Sweep.Site,s.Sweep.Tilt,s.Sweep.Time,Sw s.Sweep.Site.Gates.toNat (4*s.Sweep.Site.Rose).toNat all.1⟩⟩,all.2) else none)=_
  rw [if_pos hsite,←hlen,Int.toNat_natCast,Zo r s.Sweep.Rays.flatten e0 (by omega) (fun x hx r=>A1f r (by obtain ⟨row,hr,hx⟩:=List.mem_flatten.1 hx;exact h3 row hr x hx))]
  show some (volume_thing.ic112 ⟨⟨s.Sweep.Site,s.Sweep.Tilt,s.Sweep.Time,Sw s.Sweep.Site.Gates.toNat (4*s.Sweep.Site.Rose).toNat s.Sweep.Rays.flatten⟩⟩,r)=_
  rw [←h1,Int.toNat_natCast,Wj _ (fun r hr=>by have:=h2 r hr;omega)]
 | ic114 f =>
  obtain ⟨n,tm,hg,h1,h2⟩:=(show Sr f from h)
  have hgl:=Qb hg
  have hg':=hg
  obtain ⟨x,y,z,ro,g⟩:=hg'
  show Kw (Po f++r)=_
  simp only [Po,G5,Qc,List.flatMap_cons,List.flatMap_nil,List.append_nil,List.append_assoc]
  rw [Kw,Ja _ (by decide) ⟨by decide,by decide⟩]
  show Si _=_
  rw [Si,Y3 _ (by have:=P7 n;omega)]
  show (rN _).bind _=_
  rw [Ja _ (by have:=tm.1;omega) (smI tm (by decide) (by decide))]
  show (rI _).bind _=_
  rw [Ui _ (smI x (by decide) (by decide))]
  show (rI _).bind _=_
  rw [Ui _ (smI y (by decide) (by decide))]
  show (rN _).bind _=_
  rw [Ja _ (by have:=z.1;omega) (smI z (by decide) (by decide))]
  show (rN _).bind _=_
  rw [Ja _ (by have:=ro.1;omega) (smI ro (by decide) (by decide))]
  show (rN _).bind _=_
  rw [Ja _ (by have:=g.1;omega) (smI g (by decide) (by decide))]
  show (if Qm f.Field.Grid then (rL rS ((f.Field.Grid.Wide*f.Field.Grid.High).toNat+1) (f.Field.Grid.Wide*f.Field.Grid.High).toNat ⟨0,0⟩ (Jp H7 ⟨0,0⟩ 0 f.Field.Vals++r)).bind fun all=>some (volume_thing.ic114 ⟨f.key,f.time,⟨f.Field.Grid,all.1⟩⟩,all.2) else none)=_
  rw [if_pos hg,←h1,Int.toNat_natCast,Zo r f.Field.Vals ⟨0,0⟩ (by omega) (fun v hv r=>Sj r (h2 v hv).sm)]
  rfl
 | ic116 n =>
  obtain ⟨tm,h1,h2⟩:=(show Ux n from h)
  show Kw (Sd n++r)=_
  simp only [Sd,G5,List.flatMap_cons,List.flatMap_nil,List.append_nil,List.append_assoc]
  rw [Kw,Ja _ (by decide) ⟨by decide,by decide⟩]
  show Uj _=_
  rw [Uj,Ja _ (by have:=tm.1;omega) (smI tm (by decide) (by decide))]
  show (rT _).bind _=_
  rw [Y3 _ (by omega)]
  rfl
theorem Yf {t:volume_thing} (h:vT t):unS (Ms t)=(t,0):=by
 have hl:=Q1 h.ok
 unfold unS Ms Ph
 rw [List.append_assoc,R0 _ (by omega)]
 show (if (((D1 t++U3 (Ga (D1 t).length++D1 t)).length:Nat):Int)≠((D1 t).length:Int)+5 then _ else _)=_
 rw [if_neg (by rw [List.length_append,Np];simp)]
 have e:(Ga (D1 t).length++(D1 t++U3 (Ga (D1 t).length++D1 t))).length-5=(Ga (D1 t).length++D1 t).length:=by simp only [List.length_append,Np];omega
 rw [e,←List.append_assoc,List.drop_left,List.take_left,if_neg (by simp),Int.toNat_natCast,List.take_left]
 have:=Wy [] h
 rw [List.append_nil] at this
 rw [this]
 show (if vT t∧([]:List Int)=[] then _ else _)=_
 rw [if_pos ⟨h,rfl⟩]
end Go.Proofs.Ytifbomimeodibaa
namespace Go.Proofs.Ytifbomimeodibaa
open Go Go.RowKit Go.Eng
set_option maxRecDepth 10000
set_option linter.unusedVariables false
set_option linter.unusedSimpArgs false
def Dp (ps:List (List Int)):List Int:=ps.flatMap fun p=>0::p
theorem Gv (p:List Int) (ps:List (List Int)):Dp (p::ps)=0::(p++Dp ps):=by simp [Dp]
theorem Xq {ps:List (List Int)} (h:∀q∈ps,Nz q):By (Dp ps):=fun x hx=>by
 obtain ⟨p,hp,hx⟩:=List.mem_flatMap.1 hx
 rcases List.mem_cons.1 hx with rfl|hx
 ·exact ⟨by decide,by decide⟩
 ·exact (h p hp).by x hx
theorem Zr {x:Int} (h:1≤x∧x<256):(UInt8.ofNat x.toNat==(0:Int).toNat.toUInt8)=false:=by
 rw [beq_eq_false_iff_ne]
 intro he
 have:=congrArg UInt8.toNat he
 rw [UInt8.toNat_ofNat_of_lt' (show x.toNat<256 by omega)] at this
 simp at this
 omega
theorem Xp {p:List Int} (h:Nz p):Xn p 0=-1:=by
 induction p with
 | nil=>rfl
 | cons x p ih =>
  have:=ih fun y hy=>h y (by simp [hy])
  unfold Xn at this ⊢
  show Lib.indexByte (UInt8.ofNat x.toNat::Lib.bytesOf p) _=_
  rw [Lib.indexByte,Zr (h x (by simp)),if_neg (by simp),this]
  rfl
theorem Xo {p:List Int} (l:List Int) (h:Nz p):Xn (p++0::l) 0=p.length:=by
 induction p with
 | nil=>rfl
 | cons x p ih =>
  have:=ih fun y hy=>h y (by simp [hy])
  unfold Xn at this ⊢
  show Lib.indexByte (UInt8.ofNat x.toNat::Lib.bytesOf (p++0::l)) _=_
  rw [Lib.indexByte,Zr (h x (by simp)),if_neg (by simp),this,if_neg (by rw [beq_iff_eq];omega)]
  simp
def S4 {σ X:Type} (body:σ→X→Option (σ×Bool)):List X→σ→Option (σ×Bool)
 | [],s=>some (s,true)
 | x::l,s=>(body s x).bind fun q=>bif q.2 then S4 body l q.1 else some (q.1,false)
def Sg:Int→List (List Int)→List (Int×List Int)
 | _,[]=>[]
 | k,p::ps=>(k,p)::Sg (k+1+p.length) ps
theorem Uh {σ:Type} (body:σ→Int×List Int→Option (σ×Bool)) (b:List Int) (hb:b.length≤1000000000):∀(ps:List (List Int)) (m k:Nat) (s:σ),ps≠[]→b.drop k=Dp ps→(∀q∈ps,Nz q)→ps.length<m →
  Dr body b m k s=S4 body (Sg k ps) s:=by
 intro ps
 induction ps with
 | nil=>intro m k s h;exact absurd rfl h
 | cons p ps ih =>
  intro m k s _ hd hz hm
  obtain ⟨m,rfl⟩:∃m',m=m'+1:=⟨m-1,by omega⟩
  rw [Gv] at hd
  have hk:k<b.length:=by
   rcases Nat.lt_or_ge k b.length with h|h
   ·exact h
   ·rw [List.drop_of_length_le h] at hd;cases hd
  have hd1:b.drop (k+1)=p++Dp ps:=by
   have:=congrArg List.tail hd
   rw [List.tail_drop] at this
   exact this
  have hlen:=congrArg List.length hd1
  rw [List.length_drop,List.length_append] at hlen
  have hp:Nz p:=hz p (by simp)
  rw [Dr,Fo,Bc (by rw [dT (show (k:Int)≥0 by omega),dT (show (k:Int)<(b.length:Int) by omega)];rfl),ckb (by omega),Kg (k+1) (by omega) rfl (by omega),hd1]
  cases ps with
  | nil =>
   have e:p++Dp []=p:=by simp [Dp]
   have hi:B0 (p++Dp []) 0=-1:=by rw [e];exact Xp hp
   rw [hi,Bc (by rfl),ckb (by omega),Kg (k+1) (by omega) rfl (by omega),hd1,e]
   rfl
  | cons p2 ps =>
   have hi:B0 (p++Dp (p2::ps)) 0=p.length:=by rw [Gv];exact Xo _ hp
   have hj:(Dp (p2::ps)).length≥1:=by rw [Gv];simp
   rw [hi,B5 (dF (by omega)),ckb (by omega),ckb (by omega),ckb (by omega),Zv (k+1) (k+1+p.length) (by omega) (by omega) (by omega),hd1,show k+1+p.length-(k+1)=p.length by omega,List.take_left]
   rw [Sg,S4]
   congr 1
   funext q
   cases hq:q.2 with
   | false=>rfl
   | true =>
    rw [Bc rfl,Bc rfl,ckb (by omega),ckb (by omega)]
    have:=ih m (k+1+p.length) q.1 (by simp) (by rw [←List.drop_drop,hd1,List.drop_left]) (fun r hr=>hz r (by simp [hr])) (by simp at hm ⊢;omega)
    rw [show ((k:Int)+(1+(p.length:Int)))=((k+1+p.length:Nat):Int) by omega,this]
    rw [show ((k+1+p.length:Nat):Int)=(k:Int)+1+p.length by omega]
theorem Wv {σ:Type} (F:Nat) (body:σ→Int×List Int→Option (σ×Bool)) {p:List Int} {ps:List (List Int)} (hp:Nz p) (hz:∀q∈ps,Nz q) (hl:(p++Dp ps).length≤1000000000) (hF:ps.length<F) (s:σ) :
  F4 F (p++Dp ps) body s=S4 body (Sg p.length ps) s:=by
 rw [F4]
 cases ps with
 | nil =>
  have e:p++Dp []=p:=by simp [Dp]
  have hi:B0 (p++Dp []) 0=-1:=by rw [e];exact Xp hp
  obtain ⟨G,rfl⟩:∃G,F=G+1:=⟨F-1,by omega⟩
  rw [hi,Dr,Fo,B5 (by rfl)]
  rfl
 | cons q qs =>
  have hi:B0 (p++Dp (q::qs)) 0=p.length:=by rw [Gv];exact Xo _ hp
  rw [hi]
  exact Uh body _ hl _ F p.length s (by simp) (by rw [List.drop_left]) hz hF
def Co (t:volume_thing):volume_Item:=t.cs default A3 A2 A4
theorem Yr (F:Nat) {t:volume_thing} (h:t≠.nil_):Hf F t=some (Co t):=by
 cases t with
 | nil_=>exact absurd rfl h
 | ic112 s=>rfl
 | ic114 f=>rfl
 | ic116 n=>rfl
theorem A0s {p:List Int} (h:(unS p).2=0):vT (unS p).1:=by
 unfold unS at h ⊢
 split
 ·rename_i h1;rw [h1] at h;cases h
 ·rename_i n r h1
  rw [h1] at h
  simp only at h
  split
  ·rename_i h2;rw [if_pos h2] at h;cases h
  ·rename_i h2
   rw [if_neg h2] at h
   split
   ·rename_i h3;rw [if_pos h3] at h;cases h
   ·rename_i h3
    rw [if_neg h3] at h
    split
    ·rename_i h4;rw [h4] at h;cases h
    ·rename_i t r2 h4
     rw [h4] at h
     simp only at h
     split
     ·rename_i h5;exact h5.1
     ·rename_i h5;rw [if_neg h5] at h;cases h
theorem vT.nn {t:volume_thing} (h:vT t):t≠.nil_:=fun e=>by rw [e] at h;exact h
def Ud (p:List Int):Bool:=p.all fun c=>decide (c≥128)&&decide (c≤254)
def We (p:List Int):Bool:=Ud p||match rN p with
 | none=>false
 | some (n,r)=>decide ((r.length:Int)<n+5)
theorem X6 {F:Nat} (hF:1000≤F) {p:List Int} (hp:By p) (hl:p.length≤1000000000):∀(m i:Nat) (c:Bool),p.length-i<m→i≤p.length →
  Gs F p m i c=Hp F p (c&&Ud (p.drop i)):=by
 intro m
 induction m with
 | zero=>intro i c h;omega
 | succ m ih =>
  intro i c h hi
  rw [Gs,Jy]
  by_cases hb:i<p.length
  ·have hd:=List.drop_eq_getElem_cons hb
   rw [Bc (dT (by omega)),Hc i p[i] rfl (List.getElem?_eq_getElem hb),ckb (by omega),show ((i:Int)+1)=((i+1:Nat):Int) by omega,ih (i+1) _ (by omega) (by omega)]
   congr 1
   rw [hd]
   have e:Ud (p[i]::p.drop (i+1))=(decide (p[i]≥128)&&decide (p[i]≤254)&&Ud (p.drop (i+1))):=List.all_cons ..
   rw [e]
   cases c<;>cases decide (p[i]≥128)<;>cases decide (p[i]≤254)<;>cases Ud (p.drop (i+1))<;>rfl
  ·rw [B5 (dF (by omega)),List.drop_of_length_le (by omega)]
   simp [Ud]
theorem Zb {F:Nat} (hF:1000≤F) {p:List Int} (hp:By p) (hlF:p.length<F) (hl:p.length≤1000000000):Ku F p=some (We p):=by
 rw [Ku,show (0:Int)=((0:Nat):Int) from rfl,X6 hF hp hl F 0 true (by omega) (by omega),Hp,List.drop_zero,Bool.true_and]
 unfold We
 rcases Uk hF hp with ⟨r,h1,h2⟩|⟨n,r,h1,h2⟩
 ·rw [h1,h2,sb]
  cases Ud p<;>rfl
 ·obtain ⟨a,b,c⟩:=G6 hp h2
  have:=c.length_le
  rw [h1,h2,sb]
  cases Ud p with
  | true=>rfl
  | false =>
   show ((ck (n+5)).bind fun x26=>some (decide ((r.length:Int)<x26)))=_
   rw [ckb (by omega)]
   rfl
noncomputable def rdF (total:Int):Int→List (List Int)→List volume_Item×Int×Int
 | _,[]=>([],total,0)
 | k,p::ps=>if (unS p).2=0 then (Co (unS p).1::(rdF total (k+1+p.length) ps).1,(rdF total (k+1+p.length) ps).2) else ([],k,if ps=[]∧We p=true then 16 else (unS p).2)
theorem X0 {F:Nat} (hF:200000≤F) (b:List Int) (hb:b.length<F) (hb9:b.length≤1000000000) (total:Int):∀(ps:List (List Int)) (k:Int) (acc:List volume_Item),0≤k→k+(Dp ps).length=b.length→(∀q∈ps,Nz q)→acc.length+ps.length≤1000000000 →
  ∃tg:Nat,S4 (Gq F b) (Sg k ps) (acc,total,0,0)=some ((acc++(rdF total k ps).1,(rdF total k ps).2.1,(rdF total k ps).2.2,tg),decide (tg≠3))∧(tg=0∨tg=3):=by
 intro ps
 induction ps with
 | nil=>intro k acc h0 h1 h2 h3;exact ⟨0,by simp [Sg,S4,rdF],.inl rfl⟩
 | cons p ps ih =>
  intro k acc h0 h1 h2 h3
  have hp:=(h2 p (by simp)).by
  rw [Gv] at h1
  simp only [List.length_cons,List.length_append] at h1 h3
  have hun:=A1p hF hp (by omega) (by omega)
  rw [Sg,S4,rdF,Gq]
  simp only [hun,sb]
  by_cases h:(unS p).2=0
  ·have hv:=A0s h
   have happ:(apd 224 acc [Co (unS p).1]).bind (fun l405=>some ((l405,total,(0:Int),0),true))=some ((acc++[Co (unS p).1],total,(0:Int),(0:Nat)),true):=M3 (by simp;omega) (by decide)
   rw [B5 (by simp [h]),Yr F hv.nn,sb,if_pos h,happ,sb,Bc rfl]
   obtain ⟨tg,h4,h5⟩:=ih (k+1+p.length) (acc++[Co (unS p).1]) (by omega) (by omega) (fun q hq=>h2 q (by simp [hq])) (by simp;omega)
   refine ⟨tg,?_,h5⟩
   rw [h4,List.append_assoc]
   rfl
  ·rw [Bc (by simp [h]),ckb (by omega),ckb (by omega),if_neg h]
   refine ⟨3,?_,.inr rfl⟩
   have hlast:(k+1+(p.length:Int)==(b.length:Int))=decide (ps=[]):=by
    cases ps with
    | nil=>simp [Dp] at h1;simp;omega
    | cons q qs=>rw [Gv] at h1;simp at h1;simp;omega
   rw [hlast]
   by_cases h6:ps=[]
   ·rw [dT h6,gdT (by rfl),Zb (by omega) hp (by omega) (by omega),sb,Bc (c:=true) rfl]
    cases ht:We p with
    | true=>rw [Bc (by rfl),sb,B5 rfl,if_pos ⟨h6,rfl⟩];simp
    | false=>rw [B5 (by rfl),sb,B5 rfl,if_neg (by simp)];simp
   ·rw [dF h6,gdF (by rfl),sb,B5 (c:=false) rfl,B5 (by rfl),sb,B5 rfl,if_neg (fun h=>h6 h.1)];simp
def RVF1:List Int:=[82,86,70,49]
theorem RVF1_nz:Nz RVF1:=by intro x hx;simp [RVF1] at hx;omega
theorem Ww (F:Nat) (l:List Int) (hl:By l):H3 F (RVF1++l) RVF1=some true:=by
 unfold H3
 rw [Bc (dT (by rw [List.length_append];omega)),Ru 4 rfl (by rfl) (by rw [List.length_append];simp [RVF1]),show (4:Nat)=RVF1.length from rfl,List.take_left,bEq RVF1_nz.by RVF1_nz.by]
 simp
theorem Z3 {F:Nat} (hF:200000≤F) {ps:List (List Int)} (hz:∀q∈ps,Nz q) (hl:4+(Dp ps).length<F) (hl2:4+(Dp ps).length≤16777216) (hn:ps.length≤1000) :
  Ew F (RVF1++Dp ps)=some (rdF (4+(Dp ps).length:Nat) 4 ps):=by
 have hlen:(RVF1++Dp ps).length=4+(Dp ps).length:=by rw [List.length_append];rfl
 have hrl:∀(k:Int),(rdF (4+(Dp ps).length:Nat) k ps).1.length≤ps.length:=by
  generalize ((4+(Dp ps).length:Nat):Int)=total
  intro k
  clear hlen hl hl2 hn
  induction ps generalizing k with
  | nil=>simp [rdF]
  | cons p ps ih =>
   rw [rdF]
   split
   ·have:=ih (fun q hq=>hz q (by simp [hq])) (k+1+p.length)
    simpa using this
   ·simp
 rw [Ew,B5 (dF (by omega)),show ([82,86,70,49]:List Int)=RVF1 from rfl,Ww F _ (Xq hz),sb]
 obtain ⟨tg,h1,h2⟩:=X0 hF (RVF1++Dp ps) (by omega) (by omega) ((RVF1++Dp ps).length:Nat) ps 4 [] (by decide) (by omega) hz (by simp;omega)
 have hfin:((F4 F (RVF1++Dp ps) (Gq F (RVF1++Dp ps)) (([]:List volume_Item),(((RVF1++Dp ps).length:Nat):Int),0,0)).bind fun r410 =>
   bif r410.2 then (Ex r410.1.1 r410.1.2.1 r410.1.2.2.1) else (bif (r410.1.2.2.2==3) then (Ex r410.1.1 r410.1.2.1 r410.1.2.2.1) else (none)))=some (rdF (4+(Dp ps).length:Nat) 4 ps):=by
  rw [Wv F _ RVF1_nz hz (by omega) (by omega),show ((RVF1.length:Nat):Int)=4 from rfl,h1,sb]
  have hk:Ex ([]++(rdF ((RVF1++Dp ps).length:Nat) 4 ps).1) (rdF ((RVF1++Dp ps).length:Nat) 4 ps).2.1 (rdF ((RVF1++Dp ps).length:Nat) 4 ps).2.2=some (rdF (4+(Dp ps).length:Nat) 4 ps):=by
   rw [hlen,Ex,List.nil_append,B5 (dF (by have:=hrl 4;omega))]
  rcases h2 with rfl|rfl
  ·exact hk
  ·exact hk
 cases ps with
 | nil =>
  rw [gdF (by rfl),sb,B5 (by rfl)]
  exact hfin
 | cons p ps =>
  have hg:(E7 (RVF1++Dp (p::ps)) 4)=some 0:=by rw [Gv];rfl
  rw [gdT (by rw [dT (show (((RVF1++Dp (p::ps)).length:Nat):Int)>4 by rw [hlen,Gv];simp;omega)];rfl),hg,sb,B5 (by cases decide ((((RVF1++Dp (p::ps)).length:Nat):Int)>4)<;>rfl)]
  exact hfin
end Go.Proofs.Ytifbomimeodibaa
namespace Go.Proofs.Ytifbomimeodibaa
open Go Go.RowKit Go.Eng
set_option maxRecDepth 10000
set_option linter.unusedVariables false
set_option linter.unusedSimpArgs false
def Jn (x:law12_Thing):Prop:=(0≤x.Kind∧x.Kind≤255)∧(0≤x.Time∧x.Time≤4294967295)∧((0≤x.Sides.1∧x.Sides.1≤255)∧(0≤x.Sides.2.1∧x.Sides.2.1≤255)∧(0≤x.Sides.2.2∧x.Sides.2.2≤255))∧∀n∈x.Numbers,-32768≤n∧n≤32767
theorem Tw {β:Type} {x y:Int} {f:Int→Option β} (hx:0≤x) (hy:0<y):(Jo x y).bind f=f (x%y):=by
 unfold Jo
 rw [if_neg (by omega),Int.tmod_eq_emod_of_nonneg hx]
 rfl
theorem Kx (F:Nat) {x:law12_Thing} (hx:Jn x) {p1 p2:Int} (h1:0≤p1) (h2:1≤p2∧p2≤1000000):∃v,Ae F x p1 p2=some v∧0≤v∧v<p2:=by
 unfold Ae
 by_cases h:x.Numbers.length=0
 ·rw [Bc (by simp [h])]
  exact ⟨0,rfl,by omega,by omega⟩
 ·have hm:=Int.emod_nonneg p1 (show ((x.Numbers.length:Nat):Int)≠0 by omega)
  have hm2:=Int.emod_lt_of_pos p1 (show (0:Int)<(x.Numbers.length:Nat) by omega)
  have hi:(p1%((x.Numbers.length:Nat):Int)).toNat<x.Numbers.length:=by omega
  have hn:=hx.2.2.2 _ (List.getElem_mem hi)
  rw [B5 (by simpa using h),Tw h1 (by omega),Hc (p1%((x.Numbers.length:Nat):Int)).toNat _ (by omega) (List.getElem?_eq_getElem hi),ckb (by omega)]
  generalize x.Numbers[(p1%((x.Numbers.length:Nat):Int)).toNat]=u at hn ⊢
  have e:Jo u p2=some (u.tmod p2):=by unfold Jo;rw [if_neg (by omega)]
  have b1:-p2<u.tmod p2:=Int.lt_tmod_of_pos u (by omega)
  have b2:u.tmod p2<p2:=Int.tmod_lt_of_pos u (by omega)
  rw [e,sb,ckb (by omega),Tw (by omega) (by omega)]
  exact ⟨_,rfl,Int.emod_nonneg _ (by omega),Int.emod_lt_of_pos _ (by omega)⟩
theorem Lz (F:Nat) {x:law12_Thing} (hx:Jn x) {i lo wide:Int} (h1:0≤i∧i≤1000000) (h2:-1000000≤lo∧lo≤1000000) (h3:1≤wide∧wide≤1000000) :
  ∃s,Ax F x i lo wide=some s∧lo≤s.Lo∧s.Lo<lo+300∧s.Lo≤s.Hi∧s.Hi<s.Lo+wide:=by
 unfold Ax
 obtain ⟨a,ha,a1,a2⟩:=Kx F hx h1.1 (p2:=300) (by decide)
 obtain ⟨b,hb,b1,b2⟩:=Kx F hx (show 0≤i+1 by omega) h3
 show ∃s,(Ae F x i 300).bind _=some s∧_
 rw [ha,sb,ckb (by omega),ckb (by omega)]
 show ∃s,(Ae F x (i+1) wide).bind _=some s∧_
 rw [hb,sb,ckb (by omega)]
 exact ⟨_,rfl,by simp only;omega,by simp only;omega,by simp only;omega,by simp only;omega⟩
theorem z00:z0 ⟨0,0⟩:=⟨rfl,rfl⟩
theorem A0o (F:Nat) {x:law12_Thing} (hx:Jn x) {i:Int} (h1:0≤i∧i≤10000):∃e,Ff F x i=some e∧vEcho e:=by
 unfold Ff
 obtain ⟨k,hk,k1,k2⟩:=Kx F hx h1.1 (p2:=4) (by decide)
 show ∃s,(Ae F x i 4).bind _=some s∧_
 rw [hk,sb]
 by_cases c0:k=0
 ·obtain ⟨a,ha,a1,a2⟩:=Kx F hx (show 0≤i+1 by omega) (p2:=200) (by decide)
  rw [Bc (by simp [c0]),ckb (by omega)]
  show ∃s,(Ae F x (i+1) 200).bind _=some s∧_
  rw [ha,sb]
  have q1:K7 ⟨0,a⟩ 0 1073741824:=⟨Int.le_refl _,a1,by simp only;omega⟩
  exact ⟨_,rfl,.inl ⟨rfl,q1,rfl,z00,z00,rfl,z00,z00,z00⟩⟩
 ·rw [B5 (by simp [c0])]
  by_cases c1:k=1
  ·obtain ⟨p,hp,p1,p2,p3,p4⟩:=Lz F hx (i:=i+1) (lo:=1) (wide:=1000) (by omega) (by decide) (by decide)
   obtain ⟨r,hr,r1,r2,r3,r4⟩:=Lz F hx (i:=i+3) (lo:=0) (wide:=50000) (by omega) (by decide) (by decide)
   obtain ⟨m,hm,m1,m2,m3,m4⟩:=Lz F hx (i:=i+2) (lo:=0) (wide:=500) (by omega) (by decide) (by decide)
   obtain ⟨s,hs,s1,s2⟩:=Kx F hx (show 0≤i+5 by omega) (p2:=65536) (by decide)
   rw [Bc (by simp [c1]),ckb (by omega)]
   show ∃s,(Ax F x (i+1) 1 1000).bind _=some s∧_
   rw [hp,sb,ckb (by omega)]
   show ∃s,(Ax F x (i+3) 0 50000).bind _=some s∧_
   rw [hr,sb,ckb (by omega)]
   show ∃s,(Ax F x (i+2) 0 500).bind _=some s∧_
   rw [hm,sb,ckb (by omega)]
   show ∃s,(Ae F x (i+5) 65536).bind _=some s∧_
   rw [hs,sb]
   have q1:K7 p 0 1073741824:=⟨by omega,p3,by omega⟩
   have q2:p.Lo>0:=by omega
   have q3:K7 r 0 1000000:=⟨r1,r3,by omega⟩
   have q4:K7 m 0 1000:=⟨m1,m3,by omega⟩
   have q5:inB s 0 65535:=⟨s1,by omega⟩
   exact ⟨_,rfl,.inr ⟨.inl rfl,q1,q2,q3,q4,q5,fun _=>⟨z00,z00,z00⟩,fun h=>by cases h⟩⟩
  ·rw [B5 (by simp [c1])]
   by_cases c2:k=2
   ·obtain ⟨p,hp,p1,p2,p3,p4⟩:=Lz F hx (i:=i+1) (lo:=1) (wide:=1000) (by omega) (by decide) (by decide)
    obtain ⟨r,hr,r1,r2,r3,r4⟩:=Lz F hx (i:=i+3) (lo:=0) (wide:=50000) (by omega) (by decide) (by decide)
    obtain ⟨m,hm,m1,m2,m3,m4⟩:=Lz F hx (i:=i+2) (lo:=0) (wide:=500) (by omega) (by decide) (by decide)
    obtain ⟨s,hs,s1,s2⟩:=Kx F hx (show 0≤i+5 by omega) (p2:=3000) (by decide)
    obtain ⟨a,ha,a1,a2,a3,a4⟩:=Lz F hx (i:=i) (lo:=-200) (wide:=30000) (by omega) (by decide) (by decide)
    obtain ⟨b,hb,b1,b2,b3,b4⟩:=Lz F hx (i:=i+4) (lo:=-32768) (wide:=3) (by omega) (by decide) (by decide)
    obtain ⟨t,ht,t1,t2,t3,t4⟩:=Lz F hx (i:=i+1) (lo:=500) (wide:=40) (by omega) (by decide) (by decide)
    rw [Bc (by simp [c2]),ckb (by omega)]
    show ∃s,(Ax F x (i+1) 1 1000).bind _=some s∧_
    rw [hp,sb,ckb (by omega)]
    show ∃s,(Ax F x (i+3) 0 50000).bind _=some s∧_
    rw [hr,sb,ckb (by omega)]
    show ∃s,(Ax F x (i+2) 0 500).bind _=some s∧_
    rw [hm,sb,ckb (by omega)]
    show ∃s,(Ae F x (i+5) 3000).bind _=some s∧_
    rw [hs,sb]
    show ∃s,(Ax F x i (-200) 30000).bind _=some s∧_
    rw [ha,sb,ckb (by omega)]
    show ∃s,(Ax F x (i+4) (-32768) 3).bind _=some s∧_
    rw [hb,sb,ckb (by omega)]
    show ∃s,(Ax F x (i+1) 500 40).bind _=some s∧_
    rw [ht,sb]
    have q1:K7 p 0 1073741824:=⟨by omega,p3,by omega⟩
    have q2:p.Lo>0:=by omega
    have q3:K7 r 0 1000000:=⟨r1,r3,by omega⟩
    have q4:K7 m 0 1000:=⟨m1,m3,by omega⟩
    have q5:inB s 0 65535:=⟨s1,by omega⟩
    have q6:Hl a:=⟨by omega,by omega,a3,by omega⟩
    have q7:Hl b:=⟨by omega,by omega,b3,by omega⟩
    have q8:Hl t:=⟨by omega,by omega,t3,by omega⟩
    exact ⟨_,rfl,.inr ⟨.inr rfl,q1,q2,q3,q4,q5,fun h=>(by cases h),fun _=>⟨q6,q7,q8⟩⟩⟩
   ·rw [B5 (by simp [c2])]
    exact ⟨_,rfl,.inl ⟨rfl,⟨by decide,by decide,by decide⟩,rfl,z00,z00,rfl,z00,z00,z00⟩⟩
theorem A1d {β:Type} {x:Int} {f:Int→Option β} (h:0≤x∧x≤1000000):(Mz x 2).bind f=f (x/2):=by
 unfold Mz
 rw [if_neg (by decide),Int.tdiv_eq_ediv_of_nonneg h.1,ckb (by omega)]
theorem Zm {y:Int} (h:0≤y∧y≤1000000):IntKind.i64.wrap (0-y)=-y:=by
 simp only [IntKind.wrap,IntKind.signed,IntKind.bits]
 simp
 omega
theorem A1o (F:Nat) {x:law12_Thing} (hx:Jn x) (g:Int) (rows:List (List api_Echo)) (k:Int) (k5:List (List api_Echo)→Int→Option volume_Item) (hg:1≤g∧g≤4) (hk:0≤k∧k≤8) (hr:rows.length≤100):∀(m i:Nat) (acc:List api_Echo),g-i<m→(i:Int)≤g→acc.length=i→(∀e∈acc,vEcho e) →
  ∃row,Ea F x g rows k k5 m acc i=k5 (rows++[row]) (k+1)∧(row.length:Int)=g∧∀e∈row,vEcho e:=by
 intro m
 induction m with
 | zero=>intro i acc h1 h2;omega
 | succ m ih =>
  intro i acc h1 h2 h3 h4
  rw [Ea,Ge]
  by_cases hb:(i:Int)<g
  ·have hm:k*g≤8*g:=Int.mul_le_mul_of_nonneg_right hk.2 (by omega)
   have hm0:0≤k*g:=Int.mul_nonneg hk.1 (by omega)
   obtain ⟨e,he,hv⟩:=A0o F hx (i:=(k*g+i)/2) (by omega)
   rw [Bc (dT hb),ckb (by omega),ckb (by omega),A1d (by omega)]
   show ∃row,(Ff F x ((k*g+i)/2)).bind _=_∧_
   rw [he,sb,M3 (by simp;omega) (by decide),ckb (by omega)]
   exact ih (i+1) (acc++[e]) (by omega) (by omega) (by simp;omega) (fun z hz=>by
    rcases List.mem_append.1 hz with hz|hz
    ·exact h4 z hz
    ·simp at hz;rw [hz];exact hv)
  ·rw [B5 (dF hb),Gh,M3 (by simp;omega) (by decide),Gg,ckb (by omega)]
   exact ⟨acc,rfl,by omega,h4⟩
theorem A0p (F:Nat) (hF:100≤F) {x:law12_Thing} (hx:Jn x) (u8:ByteArray) (x9 x1461 g x1466 x1469 y1471 y1473 x1476 y1478 n:Int) (hg:1≤g∧g≤4) (hn:0≤n∧n≤8):∀(m i:Nat) (rows:List (List api_Echo)),n-i<m→(i:Int)≤n→rows.length=i→(∀r∈rows,(r.length:Int)=g∧∀e∈r,vEcho e) →
  ∃all,Dg F x u8 x9 x1461 g x1466 x1469 y1471 y1473 x1476 y1478 n m rows i=F6 u8 x9 x1461 g x1466 x1469 y1471 y1473 x1476 y1478 all∧(all.length:Int)=n∧∀r∈all,(r.length:Int)=g∧∀e∈r,vEcho e:=by
 intro m
 induction m with
 | zero=>intro i rows h1 h2;omega
 | succ m ih =>
  intro i rows h1 h2 h3 h4
  rw [Dg,Gd]
  by_cases hb:(i:Int)<n
  ·obtain ⟨row,hr,r1,r2⟩:=A1o F hx g rows i (Dg F x u8 x9 x1461 g x1466 x1469 y1471 y1473 x1476 y1478 n m) hg (by omega) (by omega) F 0 [] (by omega) (by omega) rfl (fun e he=>by cases he)
   rw [Bc (dT hb),show (0:Int)=((0:Nat):Int) from rfl,hr]
   exact ih (i+1) (rows++[row]) (by omega) (by omega) (by simp;omega) (fun z hz=>by
    rcases List.mem_append.1 hz with hz|hz
    ·exact h4 z hz
    ·simp at hz;rw [hz];exact ⟨r1,r2⟩)
  ·rw [B5 (dF hb)]
   exact ⟨rows,rfl,by omega,h4⟩
theorem A0r (F:Nat) {x:law12_Thing} (hx:Jn x) (u8:ByteArray) (x9 w h x2689 y2691 x2694 n:Int) (hn:0≤n∧n≤20):∀(m i:Nat) (acc:List api_Span),n-i<m→(i:Int)≤n→acc.length=i→(∀v∈acc,vVal v) →
  ∃all,Dv F x u8 x9 w h x2689 y2691 x2694 n m acc i=F7 u8 x9 w h x2689 y2691 x2694 all∧(all.length:Int)=n∧∀v∈all,vVal v:=by
 intro m
 induction m with
 | zero=>intro i acc h1 h2;omega
 | succ m ih =>
  intro i acc h1 h2 h3 h4
  rw [Dv,Fz]
  by_cases hb:(i:Int)<n
  ·obtain ⟨s,hs,s1,s2,s3,s4⟩:=Lz F hx (i:=(i:Int)/2) (lo:=0) (wide:=5+i) (by omega) (by decide) (by omega)
   rw [Bc (dT hb),A1d (by omega),ckb (by omega)]
   show ∃row,(Ax F x ((i:Int)/2) 0 (5+i)).bind _=_∧_
   rw [hs,sb,M3 (by simp;omega) (by decide),ckb (by omega)]
   exact ih (i+1) (acc++[s]) (by omega) (by omega) (by simp;omega) (fun z hz=>by
    rcases List.mem_append.1 hz with hz|hz
    ·exact h4 z hz
    ·simp at hz;rw [hz];exact ⟨s1,s3,by omega⟩)
  ·rw [B5 (dF hb)]
   exact ⟨acc,rfl,by omega,h4⟩
theorem A0q (F:Nat) {x:law12_Thing} (hx:Jn x) (u8:ByteArray) (x9 n:Int) (hn:0≤n∧n≤200):∀(m i:Nat) (acc:List Int),n-i<m→(i:Int)≤n→acc.length=i→(∀c∈acc,32≤c∧c≤126) →
  ∃all,E9 F x u8 x9 n m acc i=F5 x9 all∧(all.length:Int)=n∧∀c∈all,32≤c∧c≤126:=by
 intro m
 induction m with
 | zero=>intro i acc h1 h2;omega
 | succ m ih =>
  intro i acc h1 h2 h3 h4
  rw [E9,Gc]
  by_cases hb:(i:Int)<n
  ·obtain ⟨c,hc,c1,c2⟩:=Kx F hx (p1:=i) (p2:=95) (by omega) (by decide)
   rw [Bc (dT hb)]
   show ∃row,(Ae F x i 95).bind _=_∧_
   rw [hc,sb,ckb (by omega),Uz (by omega),M3 (by simp;omega) (by decide),ckb (by omega)]
   exact ih (i+1) (acc++[32+c]) (by omega) (by omega) (by simp;omega) (fun z hz=>by
    rcases List.mem_append.1 hz with hz|hz
    ·exact h4 z hz
    ·simp at hz;omega)
  ·rw [B5 (dF hb)]
   exact ⟨acc,rfl,by omega,h4⟩
def names:List ByteArray:=[(⟨#[97]⟩:ByteArray),(⟨#[98,95,49]⟩:ByteArray),(⟨#[122,122,122,122,122,122,122,122,122,122,122,122]⟩:ByteArray)]
theorem Xs:∀s∈names,Qg s=true∧Tz s:=by
 intro s hs
 simp only [names,List.mem_cons,List.not_mem_nil,or_false] at hs
 rcases hs with rfl|rfl|rfl
 ·exact ⟨by kernel_rfl,by intro x hx;simp [sby] at hx;omega⟩
 ·exact ⟨by kernel_rfl,by intro x hx;simp [sby] at hx;omega⟩
 ·exact ⟨by kernel_rfl,by intro x hx;simp [sby] at hx;omega⟩
def okI (t:volume_thing):Prop:=vT t∧tzT t∧(D1 t).length≤6000
theorem okI.of {t:volume_thing} (h1:vT t) (h2:tzT t) (h3:cnt t≤32):okI t:=⟨h1,h2,by have:=Rb h1.ok;omega⟩
theorem Yd {F:Nat} (hF:1000≤F) {x:law12_Thing} (hx:Jn x):∃t,Fg F x=some (Co t)∧okI t:=by
 have hx':=hx
 obtain ⟨⟨k1,k2⟩,⟨t1,t2⟩,⟨⟨a1,a2⟩,⟨b1,b2⟩,⟨c1,c2⟩⟩,_⟩:=hx'
 obtain ⟨v,hv,v1,v2⟩:=Kx F hx (p1:=0) (p2:=3) (by decide) (by decide)
 obtain ⟨nm,hnm⟩:∃nm,names[v.toNat]? = some nm:=⟨_,List.getElem?_eq_getElem (show v.toNat<names.length by simp [names];omega)⟩
 obtain ⟨hn1,hn2⟩:=Xs nm (List.mem_of_getElem? hnm)
 unfold Fg
 show ∃t,(Ae F x 0 3).bind _=_∧_
 rw [hv,sb,show ([(⟨#[97]⟩:ByteArray),(⟨#[98,95,49]⟩:ByteArray),(⟨#[122,122,122,122,122,122,122,122,122,122,122,122]⟩:ByteArray)])=names from rfl,Hc v.toNat nm (by omega) hnm,ckb (by omega),Tw k1 (by decide)]
 have htime:inB x.Time 0 4294967296:=⟨t1,by omega⟩
 by_cases hk0:x.Kind%3=0
 ·obtain ⟨X,hX,X1,X2⟩:=Kx F hx (p1:=1) (p2:=2000) (by decide) (by decide)
  obtain ⟨Y,hY,Y1,Y2⟩:=Kx F hx (p1:=2) (p2:=900) (by decide) (by decide)
  obtain ⟨Z,hZ,Z1,Z2⟩:=Kx F hx (p1:=3) (p2:=20001) (by decide) (by decide)
  obtain ⟨S,hS,S1,S2⟩:=Kx F hx (p1:=4) (p2:=1951) (by decide) (by decide)
  obtain ⟨T,hT,T1,T2⟩:=Kx F hx (p1:=5) (p2:=257) (by decide) (by decide)
  rw [Bc (by simp [hk0]),ckb (by omega),Tw a1 (by decide),ckb (by omega),ckb (by omega),Tw b1 (by decide),ckb (by omega),ckb (by omega),Tw c1 (by decide)]
  show ∃t,(Ae F x 1 2000).bind _=_∧_
  rw [hX,sb,ckb (by omega)]
  show ∃t,(Ae F x 2 900).bind _=_∧_
  rw [hY,sb]
  show ∃t,(Ae F x 3 20001).bind _=_∧_
  rw [hZ,sb]
  show ∃t,(Ae F x 4 1951).bind _=_∧_
  rw [hS,sb,ckb (by omega)]
  show ∃t,(Ae F x 5 257).bind _=_∧_
  rw [hT,sb,ckb (by omega)]
  obtain ⟨all,ha,l1,l2⟩:=A0p F (by omega) hx nm x.Time (1+x.Sides.1%2) (1+x.Sides.2.1%4) (x.Sides.2.2%9) (X-1000) Y Z (50+S) T (4*(1+x.Sides.1%2)) (by omega) (by omega) F 0 [] (by omega) (by omega) rfl (fun r hr=>by cases hr)
  rw [show (0:Int)=((0:Nat):Int) from rfl,ha,F6,Zm (by omega)]
  have q1:inB (X-1000) (-1048576) 1048576:=⟨by omega,by omega⟩
  have q2:inB (-Y) (-1048576) 1048576:=⟨by omega,by omega⟩
  have q3:inB Z 0 20000:=⟨by omega,by omega⟩
  have q4:inB (1+x.Sides.1%2) 1 90:=⟨by omega,by omega⟩
  have q5:inB (1+x.Sides.2.1%4) 1 200:=⟨by omega,by omega⟩
  have q6:inB (50+S) 50 2000:=⟨by omega,by omega⟩
  have q7:inB (x.Sides.2.2%9) 0 8:=⟨by omega,by omega⟩
  have q8:inB T 0 256:=⟨by omega,by omega⟩
  have hlen:all.flatten.length≤32:=by
   rw [Vs (n:=(1+x.Sides.2.1%4).toNat) (fun r hr=>by have:=(l2 r hr).1;omega)]
   have h8:all.length≤8:=by omega
   have h4:(1+x.Sides.2.1%4).toNat≤4:=by omega
   exact Nat.mul_le_mul h8 h4
  exact ⟨.ic112 ⟨⟨⟨nm,X-1000,-Y,Z,1+x.Sides.1%2,1+x.Sides.2.1%4,50+S,x.Sides.2.2%9⟩,T,x.Time,all⟩⟩,rfl,okI.of ⟨⟨hn1,q1,q2,q3,q4,q5,q6,q7⟩,q8,htime,l1,fun r hr=>(l2 r hr).1,fun r hr=>(l2 r hr).2⟩ hn2 hlen⟩
 ·rw [B5 (by simp [hk0])]
  by_cases hk1:x.Kind%3=1
  ·obtain ⟨X,hX,X1,X2⟩:=Kx F hx (p1:=1) (p2:=2000) (by decide) (by decide)
   obtain ⟨Y,hY,Y1,Y2⟩:=Kx F hx (p1:=2) (p2:=900) (by decide) (by decide)
   obtain ⟨Z,hZ,Z1,Z2⟩:=Kx F hx (p1:=3) (p2:=10000) (by decide) (by decide)
   have hm:(1+x.Sides.1%5)*(1+x.Sides.2.1%4)≤5*(1+x.Sides.2.1%4):=Int.mul_le_mul_of_nonneg_right (by omega) (by omega)
   have hm0:0≤(1+x.Sides.1%5)*(1+x.Sides.2.1%4):=Int.mul_nonneg (by omega) (by omega)
   rw [Bc (by simp [hk1]),ckb (by omega),Tw a1 (by decide),ckb (by omega),ckb (by omega),Tw b1 (by decide),ckb (by omega)]
   show ∃t,(Ae F x 1 2000).bind _=_∧_
   rw [hX,sb,ckb (by omega)]
   show ∃t,(Ae F x 2 900).bind _=_∧_
   rw [hY,sb]
   show ∃t,(Ae F x 3 10000).bind _=_∧_
   rw [hZ,sb,ckb (by omega),ckb (by omega)]
   obtain ⟨all,ha,l1,l2⟩:=A0r F hx nm x.Time (1+x.Sides.1%5) (1+x.Sides.2.1%4) (X-1000) Y (1+Z) ((1+x.Sides.1%5)*(1+x.Sides.2.1%4)) ⟨hm0,by omega⟩ F 0 [] (by omega) (by omega) rfl (fun r hr=>by cases hr)
   rw [show (0:Int)=((0:Nat):Int) from rfl,ha,F7,Zm (by omega)]
   have q1:inB (X-1000) (-1048576) 1048576:=⟨by omega,by omega⟩
   have q2:inB (-Y) (-1048576) 1048576:=⟨by omega,by omega⟩
   have q3:inB (1+Z) 1 10000:=⟨by omega,by omega⟩
   have q4:inB (1+x.Sides.1%5) 1 64:=⟨by omega,by omega⟩
   have q5:inB (1+x.Sides.2.1%4) 1 64:=⟨by omega,by omega⟩
   exact ⟨.ic114 ⟨nm,x.Time,⟨⟨X-1000,-Y,1+Z,1+x.Sides.1%5,1+x.Sides.2.1%4⟩,all⟩⟩,rfl,okI.of ⟨hn1,htime,⟨q1,q2,q3,q4,q5⟩,l1,l2⟩ hn2 (show all.length≤32 by omega)⟩
  ·rw [B5 (by simp [hk1]),Gf,ckb (by omega),Tw a1 (by decide)]
   obtain ⟨all,ha,l1,l2⟩:=A0q F hx nm x.Time (x.Sides.1%201) (by omega) F 0 [] (by omega) (by omega) rfl (fun r hr=>by cases hr)
   rw [show (0:Int)=((0:Nat):Int) from rfl,ha,F5]
   have hby:By all:=fun c hc=>by have:=l2 c hc;omega
   have hsz:(bst all).size≤200:=by rw [←Jq,Ql hby];omega
   exact ⟨.ic116 ⟨x.Time,bst all⟩,rfl,okI.of ⟨htime,hsz,by rw [Ql hby];exact l2⟩ (show Nz (sby (bst all)) by rw [Ql hby];intro c hc;have:=l2 c hc;omega) (Nat.zero_le _)⟩
theorem X9 {F:Nat} (hF:1000≤F) {l:List law12_Thing} (hl:∀x∈l,Jn x) (h8:l.length≤8):∀(m i:Nat) (ts:List volume_thing),l.length-i<m→i≤l.length→ts.length=i→(∀t∈ts,okI t) →
  ∃ts':List volume_thing,Hq F l m i (ts.map Co)=some (ts'.map Co,true)∧ts'.length=l.length∧∀t∈ts',okI t:=by
 intro m
 induction m with
 | zero=>intro i ts h;omega
 | succ m ih =>
  intro i ts h hi ht hok
  rw [Hq,L1]
  by_cases hb:i<l.length
  ·obtain ⟨t,h1,h2⟩:=Yd hF (hl l[i] (List.getElem_mem hb))
   rw [Bc (dT (by omega)),Hc i l[i] rfl (List.getElem?_eq_getElem hb)]
   show ∃ts':List volume_thing,(Fg F l[i]).bind _=_∧_
   rw [h1,sb,M3 (by simp;omega) (by decide),ckb (by omega)]
   have:=ih (i+1) (ts++[t]) (by omega) (by omega) (by simp;omega) (fun z hz=>by
    rcases List.mem_append.1 hz with hz|hz
    ·exact hok z hz
    ·simp at hz;rw [hz];exact h2)
   rw [List.map_append] at this
   exact this
  ·rw [B5 (dF (by omega)),L2]
   exact ⟨ts,rfl,by omega,hok⟩
theorem Zt {F:Nat} (hF:1000≤F) {l:List law12_Thing} (hl:∀x∈l,Jn x):(L7 F l=some ([],false)∧l.length>8)∨∃ts:List volume_thing,L7 F l=some (ts.map Co,true)∧ts.length=l.length∧l.length≤8∧∀t∈ts,okI t:=by
 unfold L7
 by_cases h:l.length>8
 ·rw [Bc (dT (by omega))];exact .inl ⟨rfl,h⟩
 ·rw [B5 (dF (by omega))]
  obtain ⟨ts,h1,h2,h3⟩:=X9 hF hl (by omega) F 0 [] (by omega) (by omega) rfl (fun t ht=>by cases ht)
  exact .inr ⟨ts,h1,h2,by omega,h3⟩
end Go.Proofs.Ytifbomimeodibaa
namespace Go.Proofs.Ytifbomimeodibaa
open Go Go.RowKit Go.Eng
set_option maxRecDepth 10000
set_option linter.unusedVariables false
set_option linter.unusedSimpArgs false
theorem Sn (s:ByteArray):sEq s s=true:=Ty.2 rfl
theorem Xb {x:Int}:(x != x)=false:=by simp
theorem W6 {t:volume_thing} (h:t≠.nil_):Fj (Co t)=t:=by
 cases t with
 | nil_=>exact absurd rfl h
 | ic112 s =>
  show Fj (A3 s)=_
  simp [Fj,A3,Sn]
 | ic114 f =>
  show Fj (A2 f)=_
  simp [Fj,A2,Sn]
  rfl
 | ic116 n =>
  show Fj (A4 n)=_
  simp [Fj,A4,Sn]
  rfl
theorem V2 {F:Nat} (hF:5000≤F) {t:volume_thing} (h:vT t):Ho F (Co t)=some (t,0):=by
 obtain ⟨e,he,hv⟩:=U6 hF h.nn
 have h0:e=0:=hv.2 h
 subst h0
 rw [Ho,W6 h.nn]
 cases t with
 | nil_=>exact h.elim
 | ic112 s=>rw [show Dt F (.ic112 s)=Db F s from rfl] at he;show (Db F s).bind _=_;rw [he];rfl
 | ic114 s=>rw [show Dt F (.ic114 s)=Da F s from rfl] at he;show (Da F s).bind _=_;rw [he];rfl
 | ic116 s=>rw [show Dt F (.ic116 s)=Dn F s from rfl] at he;show (Dn F s).bind _=_;rw [he];rfl
theorem Yx {F:Nat} (hF:200000≤F) {t:volume_thing} (h:vT t) (hl:(D1 t).length+100≤F):Jd F (Co t)=some (Rs t,0):=by
 rw [Jd,V2 (by omega) h,sb,B5 (by rfl)]
 show (Hu F t).bind _=_
 rw [Xa hF h.ok hl]
 rfl
def Hg (ts:List volume_thing):List Int:=Dp (ts.map Ms)
theorem Pp (t:volume_thing) (ts:List volume_thing):Hg (t::ts)=Rs t++Hg ts:=by
 unfold Hg Rs;rw [List.map_cons,Gv];rfl
theorem Vb {t:volume_thing} (h:vT t):(Ms t).length≤(D1 t).length+14:=by
 have hl:=Q1 h.ok
 have h9:=Eh (x:=((D1 t).length:Int)) ⟨by omega,by omega⟩
 rw [Int.toNat_natCast] at h9
 unfold Ms Ph
 simp only [List.length_append,Np]
 omega
theorem Vk {F:Nat} (hF:200000≤F) (ts:List volume_thing) (hv:∀t∈ts,vT t∧(D1 t).length+100≤F) (hl:4+(Hg ts).length≤16777216):∀(m i:Nat) (acc:List Int),ts.length-i<m→i≤ts.length→ts.length≤1000→acc++Hg (ts.drop i)=RVF1++Hg ts →
  Fw F (ts.map Co) m i acc=some (RVF1++Hg ts,0):=by
 intro m
 induction m with
 | zero=>intro i acc h;omega
 | succ m ih =>
  intro i acc h hi hn hacc
  rw [Fw,J4,List.length_map]
  have hal:acc.length+(Hg (ts.drop i)).length=4+(Hg ts).length:=by
   have:=congrArg List.length hacc
   rw [List.length_append,List.length_append] at this
   exact this
  by_cases hb:i<ts.length
  ·have hd:=List.drop_eq_getElem_cons hb
   obtain ⟨h1,h2⟩:=hv ts[i] (List.getElem_mem hb)
   rw [hd,Pp,List.length_append] at hal
   rw [Bc (dT (by omega)),Hc i (Co ts[i]) rfl (by rw [List.getElem?_map,List.getElem?_eq_getElem hb];rfl),Yx hF h1 h2,sb,B5 (by rfl),M3 (by simp only;omega) (by decide),ckb (by omega)]
   exact ih (i+1) _ (by omega) (by omega) hn (by rw [←hacc,hd,Pp,List.append_assoc])
  ·rw [B5 (dF (by omega)),J5]
   rw [List.drop_of_length_le (by omega)] at hacc hal
   rw [show Hg []=[] from rfl,List.append_nil] at hacc
   rw [show Hg []=[] from rfl] at hal
   rw [B5 (dF (by simp at hal;omega)),hacc]
theorem Yi {F:Nat} (hF:200000≤F) {ts:List volume_thing} (hv:∀t∈ts,vT t∧(D1 t).length+100≤F) (hl:4+(Hg ts).length≤16777216) (hn:ts.length≤1000):H0 F (ts.map Co)=some (RVF1++Hg ts,0):=by
 rw [H0,B5 (dF (by rw [List.length_map];omega))]
 exact Vk hF ts hv hl F 0 RVF1 (by omega) (by omega) hn rfl
theorem Ub {ts:List volume_thing} (h:∀t∈ts,okI t):(Hg ts).length≤6015*ts.length:=by
 induction ts with
 | nil=>simp [Hg,Dp]
 | cons t ts ih =>
  obtain ⟨h1,h2,h3⟩:=h t (by simp)
  have:=ih fun t ht=>h t (by simp [ht])
  have hp:=Vb h1
  rw [Pp,List.length_append]
  unfold Rs
  simp only [List.length_cons]
  omega
theorem A0i {ts:List volume_thing} (total:Int) (h:∀t∈ts,vT t) (k:Int):rdF total k (ts.map Ms)=(ts.map Co,total,0):=by
 induction ts generalizing k with
 | nil=>rfl
 | cons t ts ih =>
  rw [List.map_cons,rdF,Yf (h t (by simp)),if_pos rfl,ih (fun t ht=>h t (by simp [ht]))]
  rfl
theorem okI.nz {ts:List volume_thing} (h:∀t∈ts,okI t):∀q∈ts.map Ms,Nz q:=fun q hq=>by
 obtain ⟨t,ht,rfl⟩:=List.mem_map.1 hq
 exact Wu (h t ht).2.1
theorem Wz {F:Nat} (hF:200000≤F) {ts:List volume_thing} (h:∀t∈ts,okI t) (hn:ts.length≤20):Ew F (RVF1++Hg ts)=some (ts.map Co,((4+(Hg ts).length:Nat):Int),0):=by
 have hl:=Ub h
 unfold Hg at hl ⊢
 rw [Z3 hF (okI.nz h) (by omega) (by omega) (by simp;omega),A0i _ (fun t ht=>(h t ht).1)]
theorem X7 {F:Nat} (hF:200000≤F) {ts:List volume_thing} (h:∀t∈ts,okI t) (hn:ts.length≤20):H0 F (ts.map Co)=some (RVF1++Hg ts,0):=by
 have hl:=Ub h
 exact Yi hF (fun t ht=>⟨(h t ht).1,by have:=(h t ht).2.2;omega⟩) (by omega) (by omega)
def N9 (t:volume_thing):Int:=t.cs 0 (fun _=>1) (fun _=>2) (fun _=>3)
def P0 (t:volume_thing):Int:=t.cs 0 (fun s=>s.Sweep.Time) (fun f=>f.time) (fun n=>n.time)
def Mf (k lo hi:Int) (t:volume_thing):Bool:=(decide (k=0)||decide (k=N9 t))&&(decide (P0 t≥lo)&&decide (P0 t≤hi))
def fnd (k lo hi:Int):Int→List volume_thing→List Int
 | _,[]=>[]
 | i,t::ts=>if Mf k lo hi t=true then i::fnd k lo hi (i+1) ts else fnd k lo hi (i+1) ts
theorem Tc {t:volume_thing} (h:t≠.nil_):(Co t).Kind=N9 t∧Cc (Co t)=P0 t:=by
 cases t with
 | nil_=>exact absurd rfl h
 | ic112 s=>exact ⟨rfl,rfl⟩
 | ic114 f=>exact ⟨rfl,rfl⟩
 | ic116 n=>exact ⟨rfl,rfl⟩
theorem Wl (k lo hi:Int) (ts:List volume_thing) (total:Int) (hv:∀t∈ts,t≠.nil_) (hn:ts.length≤1000):∀(m i:Nat) (acc:List Int),ts.length-i<m→i≤ts.length→acc.length≤i →
  C4 ⟨k,ByteArray.empty,lo,hi⟩ (ts.map Co,total,0) m i acc=some (acc++fnd k lo hi i (ts.drop i),0):=by
 intro m
 induction m with
 | zero=>intro i acc h;omega
 | succ m ih =>
  intro i acc h hi' ha
  rw [C4,Js]
  by_cases hb:i<ts.length
  ·have hd:=List.drop_eq_getElem_cons hb
   have ht:=hv ts[i] (List.getElem_mem hb)
   rw [Bc (dT (by simp only [List.length_map];omega)),Hc i (Co ts[i]) rfl (by rw [List.getElem?_map,List.getElem?_eq_getElem hb];rfl),W6 ht,hd,fnd]
   have fin:∀(nm:ByteArray) (w:Int) (kd:Int),Mf k lo hi ts[i]=((decide (k=0)||decide (k=kd))&&(decide (w≥lo)&&decide (w≤hi))) →
     (bif (bif (bif (bif (bif (k==0) then true else (k==kd)) then (bif (sEq ByteArray.empty (⟨#[]⟩:ByteArray)) then true else (sEq ByteArray.empty nm)) else false) then (decide (w≥lo)) else false) then (decide (w≤hi)) else false) then ((apd 8 acc ([(i:Int)])).bind fun l597 =>
      Bd i (C4 ⟨k,ByteArray.empty,lo,hi⟩ (ts.map Co,total,0) m) l597) else (Bd i (C4 ⟨k,ByteArray.empty,lo,hi⟩ (ts.map Co,total,0) m) acc))=some (acc++(if Mf k lo hi ts[i]=true then (i:Int)::fnd k lo hi (i+1) (ts.drop (i+1)) else fnd k lo hi (i+1) (ts.drop (i+1))),0):=by
    intro nm w kd hw
    have hc:(bif (bif (bif (bif (k==0) then true else (k==kd)) then (bif (sEq ByteArray.empty (⟨#[]⟩:ByteArray)) then true else (sEq ByteArray.empty nm)) else false) then (decide (w≥lo)) else false) then (decide (w≤hi)) else false)=Mf k lo hi ts[i]:=by
     rw [hw,show sEq ByteArray.empty (⟨#[]⟩:ByteArray)=true from rfl,show (k==0)=decide (k=0) from rfl,show (k==kd)=decide (k=kd) from rfl]
     cases decide (k=0)<;>cases decide (k=kd)<;>cases decide (w≥lo)<;>cases decide (w≤hi)<;>rfl
    rw [hc]
    cases Mf k lo hi ts[i] with
    | true =>
     rw [Bc rfl,if_pos rfl,M3 (by simp;omega) (by decide),Bd,ckb (by omega),show ((i:Int)+1)=((i+1:Nat):Int) by omega,ih (i+1) _ (by omega) (by omega) (by simp;omega),List.append_assoc]
     rfl
    | false =>
     rw [B5 rfl,if_neg (by simp),Bd,ckb (by omega),show ((i:Int)+1)=((i+1:Nat):Int) by omega,ih (i+1) _ (by omega) (by omega) (by omega)]
   have hcs:∀t:volume_thing,t≠.nil_→ts[i]=t→volume_thing.cs t none (fun z589=>bif (bif (bif (bif (bif (k==0) then true else (k==(Co ts[i]).Kind)) then (bif (sEq ByteArray.empty (⟨#[]⟩:ByteArray)) then true else (sEq ByteArray.empty (Bm z589))) else false) then (decide ((Bn z589)≥lo)) else false) then (decide ((Bn z589)≤hi)) else false) then ((apd 8 acc ([(i:Int)])).bind fun l597 =>
      Bd i (C4 ⟨k,ByteArray.empty,lo,hi⟩ (ts.map Co,total,0) m) l597) else (Bd i (C4 ⟨k,ByteArray.empty,lo,hi⟩ (ts.map Co,total,0) m) acc)) (fun z589=>bif (bif (bif (bif (bif (k==0) then true else (k==(Co ts[i]).Kind)) then (bif (sEq ByteArray.empty (⟨#[]⟩:ByteArray)) then true else (sEq ByteArray.empty (Bk z589))) else false) then (decide ((Bl z589)≥lo)) else false) then (decide ((Bl z589)≤hi)) else false) then ((apd 8 acc ([(i:Int)])).bind fun l597 =>
      Bd i (C4 ⟨k,ByteArray.empty,lo,hi⟩ (ts.map Co,total,0) m) l597) else (Bd i (C4 ⟨k,ByteArray.empty,lo,hi⟩ (ts.map Co,total,0) m) acc)) (fun z589=>bif (bif (bif (bif (bif (k==0) then true else (k==(Co ts[i]).Kind)) then (bif (sEq ByteArray.empty (⟨#[]⟩:ByteArray)) then true else (sEq ByteArray.empty (Bt z589))) else false) then (decide ((Bu z589)≥lo)) else false) then (decide ((Bu z589)≤hi)) else false) then ((apd 8 acc ([(i:Int)])).bind fun l597 =>
      Bd i (C4 ⟨k,ByteArray.empty,lo,hi⟩ (ts.map Co,total,0) m) l597) else (Bd i (C4 ⟨k,ByteArray.empty,lo,hi⟩ (ts.map Co,total,0) m) acc))=some (acc++(if Mf k lo hi ts[i]=true then (i:Int)::fnd k lo hi (i+1) (ts.drop (i+1)) else fnd k lo hi (i+1) (ts.drop (i+1))),0):=by
    intro t h1 h2
    cases t with
    | nil_=>exact absurd rfl h1
    | ic112 s=>exact fin (Bm s) (Bn s) _ (by rw [h2];rfl)
    | ic114 s=>exact fin (Bk s) (Bl s) _ (by rw [h2];rfl)
    | ic116 s=>exact fin (Bt s) (Bu s) _ (by rw [h2];rfl)
   exact hcs ts[i] ht rfl
  ·rw [B5 (dF (by simp only [List.length_map];omega)),Jt,List.drop_of_length_le (by omega)]
   simp [fnd]
theorem Vr {F:Nat} (hF:200000≤F) {ts:List volume_thing} (h:∀t∈ts,okI t) (hn:ts.length≤20) {k lo hi:Int} (hk:0≤k∧k≤3) (hlh:lo≤hi):Jc F (RVF1++Hg ts) ⟨k,ByteArray.empty,lo,hi⟩=some (fnd k lo hi 0 ts,0):=by
 rw [Jc,B5 (by rw [dF (show ¬k<0 by omega),dF (show ¬k>3 by omega)];rfl),B5 (dF (by simp only;omega)),Wz hF h hn,sb,B5 (by rfl)]
 have:=Wl k lo hi ts ((4+(Hg ts).length:Nat):Int) (fun t ht=>(h t ht).1.nn) (by omega) F 0 [] (by omega) (by omega) (by simp)
 simpa using this
end Go.Proofs.Ytifbomimeodibaa
namespace Go.Proofs.Ytifbomimeodibaa
open Go Go.RowKit Go.Eng
set_option maxRecDepth 10000
set_option linter.unusedVariables false
set_option linter.unusedSimpArgs false
theorem Uy:J9 FV=some true:=by kernel_rfl
theorem Vt (k lo hi:Int):∀(ts:List volume_thing) (i v:Int),v∈fnd k lo hi i ts→i≤v∧∃t,ts[(v-i).toNat]? = some t∧Mf k lo hi t=true:=by
 intro ts
 induction ts with
 | nil=>intro i v h;cases h
 | cons t ts ih =>
  intro i v h
  rw [fnd] at h
  have rest:v∈fnd k lo hi (i+1) ts→i≤v∧∃t',(t::ts)[(v-i).toNat]? = some t'∧Mf k lo hi t'=true:=by
   intro h
   obtain ⟨h1,t',h2,h3⟩:=ih (i+1) v h
   refine ⟨by omega,t',?_,h3⟩
   rw [show (v-i).toNat=(v-(i+1)).toNat+1 by omega,List.getElem?_cons_succ]
   exact h2
  split at h
  ·rename_i hw
   rcases List.mem_cons.1 h with rfl|h
   ·refine ⟨by omega,t,?_,hw⟩
    rw [show (v-v).toNat=0 by omega];rfl
   ·exact rest h
  ·exact rest h
theorem Rh (k lo hi:Int):∀(ts:List volume_thing) (i:Int),(fnd k lo hi i ts).length≤ts.length:=by
 intro ts
 induction ts with
 | nil=>intro i;simp [fnd]
 | cons t ts ih =>
  intro i
  have:=ih (i+1)
  rw [fnd]
  split<;>simp<;>omega
theorem Yp (lo hi:Int):∀(ts:List volume_thing) (i:Int),(∀t∈ts,t≠.nil_)→(fnd 0 lo hi i ts).length=(fnd 1 lo hi i ts).length+(fnd 2 lo hi i ts).length+(fnd 3 lo hi i ts).length:=by
 intro ts
 induction ts with
 | nil=>intro i _;rfl
 | cons t ts ih =>
  intro i hv
  have:=ih (i+1) fun t ht=>hv t (by simp [ht])
  have hk:N9 t=1∨N9 t=2∨N9 t=3:=by
   cases t with
   | nil_=>exact absurd rfl (hv _ (by simp))
   | ic112 s=>exact .inl rfl
   | ic114 s=>exact .inr (.inl rfl)
   | ic116 s=>exact .inr (.inr rfl)
  have hw:∀k,Mf k lo hi t=((decide (k=0)||decide (k=N9 t))&&(decide (P0 t≥lo)&&decide (P0 t≤hi))):=fun k=>rfl
  simp only [fnd,hw]
  cases hb:(decide (P0 t≥lo)&&decide (P0 t≤hi)) with
  | false=>simpa using this
  | true =>
   rcases hk with h|h|h
   ·simp [h];omega
   ·simp [h];omega
   ·simp [h];omega
theorem Yo (ts:List volume_thing) (kd:Int) (k5:Int→Int→Int→Option Bool) (l:List Int) (e s:Int) (hl:l.length≤1000) (hv:∀t∈ts,t≠.nil_) (h:∀v∈l,0≤v∧∃t,ts[v.toNat]? = some t∧N9 t=kd):∀(m i:Nat),l.length-i<m→i≤l.length →
  Dx (ts.map Co,true) kd k5 (l,e) s m i=Ev kd k5 s:=by
 intro m
 induction m with
 | zero=>intro i h;omega
 | succ m ih =>
  intro i h1 h2
  rw [Dx,G2]
  by_cases hb:i<l.length
  ·obtain ⟨v0,t,ht,hk⟩:=h l[i] (List.getElem_mem hb)
   have hlt:=(List.getElem?_eq_some_iff.1 ht).1
   have hm:t∈ts:=List.mem_of_getElem? ht
   rw [Bc (dT (by simp only;omega)),Hc i l[i] rfl (List.getElem?_eq_getElem hb)]
   rw [B5 (by rw [dF (show ¬l[i]<0 by omega),dF (by simp only [List.length_map];omega)];rfl),Hc l[i].toNat (Co t) (by omega) (by rw [List.getElem?_map,ht];rfl),(Tc (hv t hm)).1,hk,B5 (by simp),ckb (by omega)]
   exact ih (i+1) (by omega) (by omega)
  ·rw [B5 (dF (by simp only;omega))]
theorem Yn (F:Nat) (hw:J9 F=some true) (ts:List volume_thing) (lo hi:Int) (hts:ts.length≤1000) (hv:∀t∈ts,t≠.nil_) (l:List Int) (hl:l.length≤1000):∀(m i j:Nat),ts.length-i<m→i≤ts.length→j≤l.length→l.drop j=fnd 0 lo hi i (ts.drop i) →
  Dw F (ts.map Co,true) lo hi (l,0) m i j=some true:=by
 intro m
 induction m with
 | zero=>intro i j h;omega
 | succ m ih =>
  intro i j h1 h2 hj hd
  rw [Dw,G1]
  by_cases hb:i<ts.length
  ·have ht:=hv ts[i] (List.getElem_mem hb)
   have hdi:=List.drop_eq_getElem_cons hb
   rw [Bc (dT (by simp only [List.length_map];omega)),Hc i (Co ts[i]) rfl (by rw [List.getElem?_map,List.getElem?_eq_getElem hb];rfl),(Tc ht).2]
   rw [hdi,fnd] at hd
   have hin:(bif decide (P0 ts[i]≥lo) then decide (P0 ts[i]≤hi) else false)=Mf 0 lo hi ts[i]:=by
    unfold Mf
    cases decide (P0 ts[i]≥lo)<;>cases decide (P0 ts[i]≤hi)<;>rfl
   rw [hin]
   cases hwt:Mf 0 lo hi ts[i] with
   | true =>
    rw [hwt,if_pos rfl] at hd
    obtain ⟨hg,hn,hr,_,_⟩:=Qr hd
    rw [gdT (gdt (dT (by simp only;omega))),Hc j _ rfl hg,B5 (by rw [dT (show (j:Int)<(l.length:Nat) by omega)];simp),Bc rfl,ckb (by omega),D8,ckb (by omega)]
    exact ih (i+1) (j+1) (by omega) (by omega) (by omega) (by rw [←hr];rfl)
   | false =>
    rw [hwt,if_neg (by simp)] at hd
    by_cases hjl:j<l.length
    ·obtain ⟨v,hvv⟩:∃v,l[j]? = some v:=⟨_,List.getElem?_eq_getElem hjl⟩
     have hmem:v∈fnd 0 lo hi ((i:Int)+1) (ts.drop (i+1)):=by
      rw [←hd,List.drop_eq_getElem_cons hjl]
      rw [List.getElem?_eq_getElem hjl] at hvv
      cases hvv
      exact List.mem_cons_self ..
     have hge:=(Vt 0 lo hi _ _ _ hmem).1
     rw [gdT (gdt (dT (by simp only;omega))),Hc j v rfl hvv,B5 (by rw [dT (show (j:Int)<(l.length:Nat) by omega)];simp;omega),B5 rfl,D8,ckb (by omega)]
     exact ih (i+1) j (by omega) (by omega) (by omega) hd
    ·rw [gdF (gdf (dF (by simp only;omega))),sb,B5 (by rw [dF (show ¬(j:Int)<(l.length:Nat) by omega)];rfl),B5 rfl,D8,ckb (by omega)]
     exact ih (i+1) j (by omega) (by omega) (by omega) hd
  ·have hje:j=l.length:=by
    rw [List.drop_of_length_le (show ts.length≤i by omega)] at hd
    have:=congrArg List.length hd
    rw [List.length_drop] at this
    simp [fnd] at this
    omega
   rw [B5 (dF (by simp only [List.length_map];omega)),G4,hje,gdT (by simp),hw,sb,Bc (by simp)]
theorem Rq (l:List law12_Thing) (hl:∀x∈l,Jn x) (p q:Int) (hp:0≤p∧p≤4294967295) (hq:0≤q∧q≤4294967295):G0 FV l p q=some true:=by
 have hF:200000≤FV:=Nat.le_refl _
 rw [G0]
 rcases Zt (F:=FV) (by decide) hl with ⟨h1,h2⟩|⟨ts,h1,h2,h3,h4⟩
 ·rw [h1,sb,Bc (by rfl),Uy];rfl
 ·have hnn:∀t∈ts,t≠.nil_:=fun t ht=>(h4 t ht).1.nn
  rw [h1,sb,B5 (by rfl),X7 hF h4 (by omega),sb,B5 (by rfl),ckb (by omega),ckb (by omega),ckb (by omega),ckb (by omega)]
  rw [Vr hF h4 (by omega) (by decide) (by omega),sb]
  have hsum:=Yp p (p+q) ts 0 hnn
  have hlen:=Rh 0 p (p+q) ts 0
  have hl1:=Rh 1 p (p+q) ts 0
  have hl2:=Rh 2 p (p+q) ts 0
  have hl3:=Rh 3 p (p+q) ts 0
  have hk:∀kd:Int,kd≠0→∀v∈fnd kd p (p+q) 0 ts,0≤v∧∃t,ts[v.toNat]? = some t∧N9 t=kd:=by
   intro kd h0 v hv
   obtain ⟨a,t,b,c⟩:=Vt kd p (p+q) ts 0 v hv
   refine ⟨a,t,by simpa using b,?_⟩
   unfold Mf at c
   simp [h0] at c
   exact c.1.symm
  have step:∀(m:Nat) (a s kd:Int),1≤kd→kd≤3→0≤s→s≤1000→(fnd kd p (p+q) 0 ts).length≤8 →
    Ci FV (ts.map Co,true) (RVF1++Hg ts,0) p (p+q) (fnd 0 p (p+q) 0 ts,0) (m+1) a s kd=Ci FV (ts.map Co,true) (RVF1++Hg ts,0) p (p+q) (fnd 0 p (p+q) 0 ts,0) m kd (s+(fnd kd p (p+q) 0 ts).length) (kd+1):=by
   intro m a s kd k1 k3 s0 s1 hl8
   rw [Ci,Eu,Bc (dT k3),Vr hF h4 (by omega) ⟨by omega,k3⟩ (by omega),sb,ckb (by simp only;omega),B5 (by rfl)]
   refine (Yo ts kd _ _ _ _ (by omega) hnn (hk kd (by omega)) FV 0 (by simp [FV];omega) (by omega)).trans ?_
   rw [Ev,ckb (by omega)]
  refine (step 199999 0 0 1 (by decide) (by decide) (by decide) (by decide) (by omega)).trans ?_
  rw [show (1:Int)+1=2 from rfl]
  refine (step 199998 1 _ 2 (by decide) (by decide) (by omega) (by omega) (by omega)).trans ?_
  rw [show (2:Int)+1=3 from rfl]
  refine (step 199997 2 _ 3 (by decide) (by decide) (by omega) (by omega) (by omega)).trans ?_
  rw [Ci,Eu,B5 (dF (by decide)),G3,B5 (by simp only [Xb,cond_false];simp;omega)]
  exact Yn FV Uy ts p (p+q) (by omega) hnn _ (by omega) FV 0 0 (by simp [FV];omega) (by omega) (by omega) rfl
end Go.Proofs.Ytifbomimeodibaa
