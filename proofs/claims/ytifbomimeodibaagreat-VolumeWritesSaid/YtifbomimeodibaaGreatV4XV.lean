import Derived.Test.YtifbomimeodibaaGreatV4XD
import Derived.Lib.DecodeN
set_option linter.unusedVariables false
set_option linter.unusedSimpArgs false
set_option linter.unusedSectionVars false
namespace Go.Proofs.YtifbomimeodibaaGreat
open Go Go.RowKit Go.Eng
set_option maxRecDepth 10000
set_option linter.unusedVariables false
set_option linter.unusedSimpArgs false
theorem ckb {β:Type} {x:Int} {f:Int→Option β} (h:-9000000000000000000≤x∧x≤9000000000000000000):(ck x).bind f=f x:=by
 unfold ck;rw [if_pos (by omega)];rfl
theorem gdT {α:Type} {g:Bool} {o:Option α} {d:α} (h:g=true):gd g o d=o:=by subst h;rfl
theorem gdF {α:Type} {g:Bool} {o:Option α} {d:α} (h:g=false):gd g o d=some d:=by subst h;rfl
theorem B1 {α:Type} {c:Bool} {x y:α} (h:c=true):(bif c then x else y)=x:=by rw [h];rfl
theorem B3 {α:Type} {c:Bool} {x y:α} (h:c=false):(bif c then x else y)=y:=by rw [h];rfl
theorem sb {α β:Type} {x:α} {f:α→Option β}:(some x).bind f=f x:=rfl
theorem dT {p:Prop} [Decidable p] (h:p):decide p=true:=decide_eq_true h
theorem dF {p:Prop} [Decidable p] (h:¬p):decide p=false:=decide_eq_false h
theorem Ec {α β:Type} {l:List α} {i:Int} {f:α→Option β} (n:Nat) (x:α) (hi:i=(n:Int)) (h:l[n]? = some x):(Bu l i).bind f=f x:=by
 subst hi
 unfold Bu
 rw [if_pos (by omega),show ((n:Int)).toNat=n by omega,h]
 rfl
theorem Kf {α β:Type} {l k:List α} {B:Nat} {f:List α→Option β} (h:(l.length+k.length)*B≤140737488355328) (hB:1≤B):(apd B l k).bind f=f (l++k):=by
 unfold apd
 have:l.length+k.length≤(l.length+k.length)*B:=Nat.le_mul_of_pos_right _ hB
 rw [if_pos ⟨h,by omega⟩]
 rfl
theorem A33 {α β:Type} {l:List α} {i j:Int} {f:List α→Option β} (m n:Nat) (hi:i=(m:Int)) (hj:j=(n:Int)) (h:m≤n∧n≤l.length):(Kg l i j).bind f=f ((l.drop m).take (n-m)):=by
 subst hi;subst hj
 unfold Kg
 rw [if_pos (by omega)]
 rfl
theorem Sp {α β:Type} {l:List α} {i j:Int} {f:List α→Option β} (m:Nat) (hi:i=(m:Int)) (hj:j=(l.length:Int)) (h:m≤l.length):(Kg l i j).bind f=f (l.drop m):=by
 rw [A33 m l.length hi hj ⟨h,Nat.le_refl _⟩,List.take_of_length_le (by simp)]
def FV:Nat:=200000
def By (l:List Int):Prop:=∀x∈l,0≤x∧x<256
theorem By.app {l k:List Int} (h:By l) (h':By k):By (l++k):=fun x hx=>(List.mem_append.1 hx).elim (h x) (h' x)
theorem Sf {x:Int} (h:0≤x∧x<256):IntKind.u8.wrap x=x:=by
 have:=h.1;have:=h.2
 simp only [IntKind.wrap,IntKind.signed,IntKind.bits]
 simp
 omega
def Dz (n:Nat):List Int:=if h:n<127 then [(n:Int)+1] else (128+((n%127:Nat):Int))::Dz (n/127)
termination_by n
theorem Rh {n:Nat} (h:n<127):Dz n=[(n:Int)+1]:=by rw [Dz,dif_pos h]
theorem Sy {n:Nat} (h:127≤n):Dz n=(128+((n%127:Nat):Int))::Dz (n/127):=by rw [Dz,dif_neg (by omega)]
theorem Vh:∀(k n:Nat),n<127 ^ (k+1)→(Dz n).length≤k+1:=by
 intro k
 induction k with
 | zero=>intro n h;rw [Rh (by simpa using h)];simp
 | succ k ih =>
  intro n h
  by_cases hn:n<127
  ·rw [Rh hn];simp
  ·rw [Sy (by omega),List.length_cons]
   have:=ih (n/127) (Nat.div_lt_of_lt_mul (by rw [Nat.pow_succ] at h;omega))
   omega
theorem X3 (n:Nat):∀x∈Dz n,1≤x∧x<255:=by
 induction n using Nat.strongRecOn with
 | _ n ih =>
  intro x hx
  by_cases hn:n<127
  ·rw [Rh hn] at hx;simp at hx;omega
  ·rw [Sy (by omega)] at hx
   rcases List.mem_cons.1 hx with rfl|hx
   ·have:=Nat.mod_lt n (show 0<127 by decide);omega
   ·exact ih (n/127) (Nat.div_lt_self (by omega) (by decide)) x hx
theorem tdm (n:Nat):Qc (n:Int) 127=some ((n%127:Nat):Int)∧Tn (n:Int) 127=ck ((n/127:Nat):Int):=by
 unfold Qc Tn
 rw [if_neg (by decide),if_neg (by decide)]
 exact ⟨by congr 1,by congr 1⟩
theorem A25 (x307:Int) (k1:List Int→Int→Option volume_writer) (h0:0≤x307∧x307≤1000000000000):∀(F k n:Nat) (l:List Int),n<127 ^ (k+1)→k<10→k<F→n≤4611686018427387904→l.length+k≤1000000000000 →
  Ch x307 k1 F l n=k1 (l++Dz n) (x307+1):=by
 intro F
 induction F with
 | zero=>intro k n l h hk hF;omega
 | succ F ih =>
  intro k n l h hk hF hn hl
  rw [Ch,E3]
  by_cases hb:(n:Int)≥127
  ·rw [B1 (dT hb),(tdm n).1,sb]
   have:=Nat.mod_lt n (show 0<127 by decide)
   rw [ckb (by omega),Sf (by omega),Kf (by simp;omega) (by decide),(tdm n).2]
   have hd:n/127≤n:=Nat.div_le_self _ _
   rw [ckb (by omega)]
   cases k with
   | zero=>simp at h;omega
   | succ k =>
    rw [ih k (n/127) _ (Nat.div_lt_of_lt_mul (by rw [Nat.pow_succ] at h;omega)) (by omega) (by omega) (by omega) (by simp;omega),Sy (n:=n) (by omega)]
    simp
  ·rw [B3 (dF hb),E5,ckb (by omega),Sf (by omega),Kf (by simp;omega) (by decide),E4,ckb (by omega),Rh (by omega),show (1:Int)+n=n+1 by omega]
def okN (x:Int):Prop:=0≤x∧x≤4611686018427387904
def Fg (l:List Int):List Int:=l.flatMap fun x=>Dz x.toNat
theorem Cf {x:Int} (h:okN x):(Dz x.toNat).length≤9:=Vh 8 x.toNat (by have:=h.1;have:=h.2;omega)
theorem A24 (F:Nat) (p1:List Int) (hF:100≤F) (hp:∀x∈p1,okN x):∀(m i:Nat) (l:List Int),p1.length-i<m→i≤p1.length→p1.length≤100→l.length+9*(p1.length-i)≤999999999000 →
  Cg F p1 m l i=some ⟨l++Fg (p1.drop i)⟩:=by
 intro m
 induction m with
 | zero=>intro i l h;omega
 | succ m ih =>
  intro i l h hi hp1 hl
  rw [Cg,E2]
  by_cases hb:i<p1.length
  ·have hx:=hp p1[i] (List.getElem_mem hb)
   have h9:=Cf hx
   rw [B1 (dT (by omega)),Ec i p1[i] rfl (List.getElem?_eq_getElem hb)]
   have e:p1[i]=((p1[i].toNat:Nat):Int):=by have:=hx.1;omega
   rw [e,A25 i _ (by omega) F 8 p1[i].toNat l (by have:=hx.1;have:=hx.2;omega) (by decide) (by omega) (by have:=hx.2;omega) (by omega)]
   rw [show ((i:Int)+1)=((i+1:Nat):Int) by omega,ih (i+1) _ (by omega) (by omega) hp1 (by rw [List.length_append];omega),List.drop_eq_getElem_cons hb]
   simp only [Fg,List.flatMap_cons,List.append_assoc]
  ·rw [B3 (dF (by omega)),List.drop_of_length_le (by omega)]
   simp [Fg]
def okW (l:List Int):Prop:=l.length≤999999990000
theorem F2 {F:Nat} (hF:1000≤F) {w:volume_writer} {l:List Int} (hw:okW w.b) (hl:∀x∈l,okN x) (hn:l.length≤100):Aj F w l=some ⟨w.b++Fg l⟩:=by
 rw [Aj]
 unfold okW at hw
 exact A24 F l (by omega) hl F 0 w.b (by omega) (by omega) hn (by omega)
def zig (x:Int):Nat:=if x<0 then (-2*x-1).toNat else (2*x).toNat
def okZ (x:Int):Prop:=-2305843009213693952≤x∧x≤2305843009213693952
theorem A23 (F:Nat) (p1:List Int) (hF:1000≤F) (hp:∀x∈p1,okZ x):∀(m i:Nat) (l:List Int),p1.length-i<m→i≤p1.length→p1.length≤100→l.length+9*(p1.length-i)≤999999990000 →
  Ba F p1 m l i=some ⟨l++(p1.drop i).flatMap fun x=>Dz (zig x)⟩:=by
 intro m
 induction m with
 | zero=>intro i l h;omega
 | succ m ih =>
  intro i l h hi hp1 hl
  rw [Ba,Dv]
  by_cases hb:i<p1.length
  ·have hx:=hp p1[i] (List.getElem_mem hb)
   have hx1:=hx.1
   have hx2:=hx.2
   rw [B1 (dT (by omega)),Ec i p1[i] rfl (List.getElem?_eq_getElem hb)]
   have fin:∀z:Int,okN z→z.toNat=zig p1[i]→((Aj F (volume_writer.mk l) [z]).bind fun y178=>C2 i (Ba F p1 m) y178.b)=some ⟨l++(p1.drop i).flatMap fun x=>Dz (zig x)⟩:=by
    intro z hz hzz
    have h9:=Cf hz
    rw [F2 hF (show okW l by unfold okW;omega) (by simpa using hz) (by simp),sb,C2,ckb (by omega)]
    show Ba F p1 m (l++Fg [z]) ((i:Int)+1)=_
    rw [show ((i:Int)+1)=((i+1:Nat):Int) by omega,ih (i+1) _ (by omega) (by omega) hp1 (by simp [Fg];omega),List.drop_eq_getElem_cons hb]
    simp only [Fg,List.flatMap_cons,List.flatMap_nil,List.append_nil,List.append_assoc,hzz]
   by_cases hs:p1[i]<0
   ·rw [B1 (dT hs),ckb (by omega),ckb (by omega)]
    exact fin _ ⟨by omega,by omega⟩ (by unfold zig;rw [if_pos hs])
   ·rw [B3 (dF hs),ckb (by omega)]
    exact fin _ ⟨by omega,by omega⟩ (by unfold zig;rw [if_neg hs])
  ·rw [B3 (dF (by omega)),List.drop_of_length_le (by omega)]
   simp
theorem S8 {F:Nat} (hF:1000≤F) {w:volume_writer} {l:List Int} (hw:w.b.length≤999999980000) (hl:∀x∈l,okZ x) (hn:l.length≤100):C8 F w l=some ⟨w.b++l.flatMap fun x=>Dz (zig x)⟩:=by
 rw [C8]
 exact A23 F l hF hl F 0 w.b (by omega) (by omega) hn (by omega)
theorem Ty {x:Int} (h:okZ x):okN (zig x:Int):=by
 unfold okZ at h;unfold okN zig;split<;>omega
theorem Wp {F:Nat} (hF:1000≤F) {w:volume_writer} {s:ByteArray} (hw:w.b.length≤999999980000) (hs:s.size≤10000000):Cy F w s=some ⟨w.b++(Dz s.size++sby s)⟩:=by
 have h9:=Cf (x:=(s.size:Int)) ⟨by omega,by omega⟩
 rw [Cy,F2 hF (show okW w.b by unfold okW;omega) (by intro x hx;simp at hx;subst hx;exact ⟨by omega,by omega⟩) (by simp),sb,Kf (by simp only [Fg,List.flatMap_cons,List.flatMap_nil,List.append_nil,List.length_append,K5];omega) (by decide)]
 simp [Fg]
def okS (s:api_Span):Prop:=-1000000000000000000≤s.Lo∧s.Lo≤s.Hi∧s.Hi≤1000000000000000000
def Hf (s:api_Span):List Int:=Dz (zig s.Lo)++Dz (s.Hi-s.Lo).toNat
theorem R3 {F:Nat} (hF:1000≤F) {w:volume_writer} {s:api_Span} (hw:w.b.length≤999999970000) (hs:okS s):Cx F w s=some ⟨w.b++Hf s⟩:=by
 obtain ⟨h1,h2,h3⟩:=hs
 have h9:=Cf (Ty (x:=s.Lo) ⟨by omega,by omega⟩)
 rw [Int.toNat_natCast] at h9
 rw [Cx,S8 hF (by omega) (by intro x hx;simp at hx;subst hx;exact ⟨by omega,by omega⟩) (by simp),sb,ckb (by omega),F2 hF (by unfold okW;simp;omega) (by intro x hx;simp at hx;subst hx;exact ⟨by omega,by omega⟩) (by simp)]
 simp [Hf,Fg]
theorem Cr {s:api_Span} (hs:okS s):(Hf s).length≤18:=by
 obtain ⟨h1,h2,h3⟩:=hs
 have h8:=Cf (Ty (x:=s.Lo) ⟨by omega,by omega⟩)
 have h9:=Cf (x:=s.Hi-s.Lo) ⟨by omega,by omega⟩
 rw [Int.toNat_natCast] at h8
 unfold Hf;rw [List.length_append];omega
end Go.Proofs.YtifbomimeodibaaGreat
namespace Go.Proofs.YtifbomimeodibaaGreat
open Go Go.RowKit Go.Eng
set_option maxRecDepth 10000
set_option linter.unusedVariables false
set_option linter.unusedSimpArgs false
def Hr (x:api_Echo):List Int:=Dz x.Kind.toNat++if x.Kind=1 then Dz x.Power.Hi.toNat else Hf x.Power++(Hf x.Ratio++(Hf x.Match++(Dz x.Spread.toNat++if x.Kind=3 then Hf x.Steps.1++(Hf x.Steps.2++Hf x.Turn) else [])))
def okE (x:api_Echo):Prop:=okN x.Kind∧okN x.Power.Hi∧okN x.Spread∧okS x.Power∧okS x.Ratio∧okS x.Match∧okS x.Steps.1∧okS x.Steps.2∧okS x.Turn
theorem A22 {F:Nat} (hF:1000≤F) {w:volume_writer} {x:api_Echo} (hw:w.b.length≤999999960000) (hx:okE x):Ep F w x=some ⟨w.b++Hr x⟩:=by
 obtain ⟨h1,h2,h3,h4,h5,h6,h7,h8,h9⟩:=hx
 have a1:=Cf h1
 have a2:=Cf h2
 have a3:=Cf h3
 have a4:=Cr h4
 have a5:=Cr h5
 have a6:=Cr h6
 have a7:=Cr h7
 have a8:=Cr h8
 obtain ⟨G,rfl⟩:∃G,F=G+4:=⟨F-4,by omega⟩
 rw [Ep,F2 hF (by unfold okW;omega) (by simpa using h1) (by simp),sb]
 by_cases hk:x.Kind=1
 ·rw [B1 (by simp [hk]),F2 hF (by unfold okW;simp [Fg];omega) (by simpa using h2) (by simp),sb]
  simp [Hr,hk,Fg]
 ·rw [B3 (by simp [hk]),Bl,C7,B1 (dT (by decide)),Ec 0 x.Power (by decide) (by rfl),R3 hF (by simp [Fg];omega) h4,sb,ckb (by omega),
   Bl,C7,B1 (dT (by decide)),Ec 1 x.Ratio (by decide) (by rfl),R3 hF (by simp [Fg];omega) h5,sb,ckb (by omega),
   Bl,C7,B1 (dT (by decide)),Ec 2 x.Match (by decide) (by rfl),R3 hF (by simp [Fg];omega) h6,sb,ckb (by omega),
   Bl,C7,B3 (dF (by decide)),Er,F2 hF (by unfold okW;simp [Fg];omega) (by simpa using h3) (by simp),sb]
  by_cases hk3:x.Kind=3
  ·rw [B1 (by simp [hk3]),Bk,C6,B1 (dT (by decide)),Ec 0 x.Steps.1 (by decide) (by rfl),R3 hF (by simp [Fg];omega) h7,sb,ckb (by omega),
    Bk,C6,B1 (dT (by decide)),Ec 1 x.Steps.2 (by decide) (by rfl),R3 hF (by simp [Fg];omega) h8,sb,ckb (by omega),
    Bk,C6,B1 (dT (by decide)),Ec 2 x.Turn (by decide) (by rfl),R3 hF (by simp [Fg];omega) h9,sb,ckb (by omega),
    Bk,C6,B3 (dF (by decide))]
   simp [Hr,hk3,Fg]
  ·rw [B3 (by simp [hk3])]
   simp [Hr,hk,hk3,Fg]
theorem Rt {x:api_Echo} (hx:okE x):(Hr x).length≤130:=by
 obtain ⟨h1,h2,h3,h4,h5,h6,h7,h8,h9⟩:=hx
 have a1:=Cf h1
 have a2:=Cf h2
 have a3:=Cf h3
 have a4:=Cr h4
 have a5:=Cr h5
 have a6:=Cr h6
 have a7:=Cr h7
 have a8:=Cr h8
 have a9:=Cr h9
 unfold Hr
 split
 ·simp;omega
 ·split<;>simp<;>omega
def Jf {α:Type} [DecidableEq α] (e:α→List Int):α→Nat→List α→List Int
 | _,n,[]=>if n=0 then [] else Dz n
 | b,n,x::l=>if x=b then Jf e b (n+1) l else Dz n++(e x++Jf e x 0 l)
def Cu {α:Type} [DecidableEq α] (b:α):List α→Nat
 | []=>0
 | x::l=>if x=b then Cu b l+1 else 0
theorem Mt {α:Type} [DecidableEq α] (b:α) (l:List α):Cu b l≤l.length:=by
 induction l with
 | nil=>exact Nat.le_refl _
 | cons x l ih=>unfold Cu;split<;>simp<;>omega
theorem Sw {α:Type} [DecidableEq α] {b:α} {l:List α} {i:Nat} (h:i<Cu b l):l[i]? = some b:=by
 induction l generalizing i with
 | nil=>simp [Cu] at h
 | cons x l ih =>
  unfold Cu at h
  split at h
  ·rename_i hx
   cases i with
   | zero=>simp [hx]
   | succ i=>simpa using ih (by omega)
  ·omega
theorem Sv {α:Type} [DecidableEq α] {b:α} {l:List α} {x:α} (h:l[Cu b l]? = some x):x≠b:=by
 induction l with
 | nil=>simp at h
 | cons y l ih =>
  unfold Cu at h
  split at h
  ·exact ih (by simpa using h)
  ·rename_i hy;simp at h;subst h;exact hy
theorem Q6 {α:Type} [DecidableEq α] (e:α→List Int) (b:α) (n:Nat) (l:List α) (h:n≠0∨l≠[]):Jf e b n l=Dz (n+Cu b l)++(match l.drop (Cu b l) with|[]=>[]|y::r=>e y++Jf e y 0 r):=by
 induction l generalizing n with
 | nil=>rw [Jf,Cu,if_neg (by simpa using h)];simp
 | cons x l ih =>
  rw [Jf,Cu]
  split
  ·rw [ih (n+1) (.inl (by omega))]
   simp only [List.drop_succ_cons]
   rw [show n+1+Cu b l=n+(Cu b l+1) by omega]
  ·simp
theorem Vn {α:Type} [DecidableEq α] {e:α→List Int} {c:Nat}:∀(l:List α) (b:α) (n:Nat),(∀x∈l,(e x).length≤c)→n+l.length≤1000000000→(Jf e b n l).length≤9+(c+9)*l.length:=by
 intro l
 induction l with
 | nil =>
  intro b n h hn
  have:=Cf (x:=(n:Int)) ⟨by omega,by simp at hn;omega⟩
  rw [Jf]
  split<;>simp at*<;>omega
 | cons x l ih =>
  intro b n h hn
  have h1:=Cf (x:=(n:Int)) ⟨by omega,by simp at hn;omega⟩
  have h2:=h x (by simp)
  have hm:(c+9)*(l.length+1)=(c+9)*l.length+(c+9):=by rw [Nat.mul_add,Nat.mul_one]
  rw [Jf]
  simp only [List.length_cons] at hn ⊢
  rw [hm]
  split
  ·have:=ih b (n+1) (fun y hy=>h y (by simp [hy])) (by omega)
   omega
  ·have:=ih x 0 (fun y hy=>h y (by simp [hy])) (by omega)
   simp at h1 ⊢
   omega
theorem T0 (u b:api_Span):(((u.Lo:Int)==b.Lo)&&(((u.Hi:Int)==b.Hi)&&true))=decide (u=b):=by
 cases u;cases b
 rw [Bool.eq_iff_iff]
 simp
theorem Sq (u b:api_Echo):(((u.Kind:Int)==b.Kind)&&((((u.Power.Lo:Int)==b.Power.Lo)&&(((u.Power.Hi:Int)==b.Power.Hi)&&true))&&(((((u.Steps.1.Lo:Int)==b.Steps.1.Lo)&&(((u.Steps.1.Hi:Int)==b.Steps.1.Hi)&&true))&&((((u.Steps.2.Lo:Int)==b.Steps.2.Lo)&&(((u.Steps.2.Hi:Int)==b.Steps.2.Hi)&&true))&&true))&&(((u.Spread:Int)==b.Spread)&&((((u.Ratio.Lo:Int)==b.Ratio.Lo)&&(((u.Ratio.Hi:Int)==b.Ratio.Hi)&&true))&&((((u.Match.Lo:Int)==b.Match.Lo)&&(((u.Match.Hi:Int)==b.Match.Hi)&&true))&&((((u.Turn.Lo:Int)==b.Turn.Lo)&&(((u.Turn.Hi:Int)==b.Turn.Hi)&&true))&&true)))))))=decide (u=b):=by
 rcases u with ⟨k,⟨p1,p2⟩,⟨⟨s1,s2⟩,⟨s3,s4⟩⟩,sp,⟨r1,r2⟩,⟨m1,m2⟩,⟨t1,t2⟩⟩
 rcases b with ⟨k',⟨p1',p2'⟩,⟨⟨s1',s2'⟩,⟨s3',s4'⟩⟩,sp',⟨r1',r2'⟩,⟨m1',m2'⟩,⟨t1',t2'⟩⟩
 rw [Bool.eq_iff_iff]
 simp [and_assoc]
theorem gdt {g:Bool} (h:g=true):((g==true&&true))=true:=by rw [h];rfl
theorem gdf {g:Bool} (h:g=false):((g==true&&true))=false:=by rw [h];rfl
theorem A0p (F:Nat) (b:api_Span) (w:List Int) (l:List api_Span) (k1:Int→Int→List Int→List api_Span→Option volume_writer) (hl:l.length≤1000000000):∀(m i:Nat),i≤Cu b l→Cu b l-i<m →
  B7 F b.Lo b.Hi w l k1 m i=Bi F b.Lo b.Hi w l k1 (Cu b l:Nat):=by
 intro m
 have hle:=Mt b l
 induction m with
 | zero=>intro i _ h;omega
 | succ m ih =>
  intro i hi hm
  rw [B7,Ca]
  by_cases hb:i<Cu b l
  ·have hx:=Sw hb
   rw [gdT (gdt (dT (by omega))),Ec i b rfl hx,T0 b b,B1 (x:=decide (b=b)) (dT (by omega)),B1 (dT rfl),ckb (by omega)]
   exact ih (i+1) (by omega) (by omega)
  ·have he:i=Cu b l:=by omega
   subst he
   by_cases hc:Cu b l<l.length
   ·have hg:=List.getElem?_eq_getElem hc
    rw [gdT (gdt (dT (by omega))),Ec _ _ rfl hg,T0 _ b,B1 (x:=decide (l[Cu b l]=b)) (dT (by omega)),B3 (dF (Sv hg))]
   ·rw [gdF (gdf (dF (by omega))),sb,B3 (B3 (dF (by omega)))]
theorem Py {α:Type} {l:List α} {n:Nat} {y:α} {r:List α} (h:l.drop n=y::r):l[n]? = some y∧n<l.length∧r=l.drop (n+1)∧r.length<l.length∧y∈l:=by
 have hn:n<l.length:=by
  rcases Nat.lt_or_ge n l.length with h1|h1
  ·exact h1
  ·rw [List.drop_of_length_le h1] at h;cases h
 rw [List.drop_eq_getElem_cons hn] at h
 cases h
 refine ⟨List.getElem?_eq_getElem hn,hn,rfl,by simp;omega,List.getElem_mem hn⟩
theorem A31 (F:Nat) (hF:1000≤F):∀(m:Nat) (l:List api_Span) (b:api_Span) (w:List Int),l.length<m→l.length<F→l.length≤1000000000→(∀x∈l,okS x)→w.length+200*l.length≤999999900000 →
  B0 F m b.Lo b.Hi w l=some ⟨w++Jf Hf b 0 l⟩:=by
 intro m
 induction m with
 | zero=>intro l b w h;omega
 | succ m ih =>
  intro l b w h hlF hl9 hok hw
  rw [B0,Bh]
  cases hl:l with
  | nil=>simp [Jf]
  | cons x0 l0 =>
   rw [←hl]
   have hpos:0<l.length:=by rw [hl];simp
   have hle:=Mt b l
   have h9:=Cf (x:=(Cu b l:Int)) ⟨by omega,by omega⟩
   rw [Int.toNat_natCast] at h9
   rw [B1 (dT (by omega)),show (0:Int)=((0:Nat):Int) from rfl,A0p F b w l _ hl9 F 0 (by omega) (by omega),Bi,F2 hF (by unfold okW;simp;omega) (by intro x hx;simp at hx;subst hx;exact ⟨by omega,by omega⟩) (by simp),sb,
    Sp (Cu b l) rfl rfl hle,Q6 Hf b 0 l (.inr (by rw [hl];simp))]
   cases hd:l.drop (Cu b l) with
   | nil =>
    rw [B3 (dF (by simp))]
    cases m with
    | zero=>omega
    | succ m=>rw [B0,Bh,B3 (dF (by simp))];simp [Fg]
   | cons y r =>
    obtain ⟨hg,hn,hr,hrl,hy⟩:=Py hd
    rw [B1 (dT (by simp)),Ec 0 y (by rfl) (by rfl),Sp 1 (by decide) (by rfl) (by simp),R3 hF (by simp [Fg];omega) (hok y hy),sb]
    simp only [List.drop_succ_cons,List.drop_zero]
    rw [ih r y _ (by omega) (by omega) (by omega) (fun z hz=>hok z (by rw [hr] at hz;exact List.mem_of_mem_drop hz)) (by have:=Cr (hok y hy);simp [Fg];omega)]
    simp [Fg]
theorem A0l {F:Nat} (hF:1000≤F) {w:volume_writer} {l:List api_Span} {b:api_Span} (hl:l.length<F) (hl9:l.length≤1000000000) (hok:∀x∈l,okS x) (hw:w.b.length+200*l.length≤999999900000):Br F w l b=some ⟨w.b++Jf Hf b 0 l⟩:=by
 rw [Br]
 exact A31 F hF F l b w.b hl hl hl9 hok hw
theorem A0n (F:Nat) (b:api_Echo) (w:List Int) (l:List api_Echo) (k1:Int→Int→Int→Int→Int→Int→Int→Int→Int→Int→Int→Int→Int→Int→List Int→List api_Echo→Option volume_writer) (hl:l.length≤1000000000):∀(m i:Nat),i≤Cu b l→Cu b l-i<m →
  B6 F b.Kind b.Power.Lo b.Match.Lo b.Match.Hi b.Turn.Lo b.Turn.Hi b.Power.Hi b.Steps.1.Lo b.Steps.1.Hi b.Steps.2.Lo b.Steps.2.Hi b.Spread b.Ratio.Lo b.Ratio.Hi w l k1 m i=Bg F b.Kind b.Power.Lo b.Match.Lo b.Match.Hi b.Turn.Lo b.Turn.Hi b.Power.Hi b.Steps.1.Lo b.Steps.1.Hi b.Steps.2.Lo b.Steps.2.Hi b.Spread b.Ratio.Lo b.Ratio.Hi w l k1 (Cu b l:Nat):=by
 intro m
 have hle:=Mt b l
 induction m with
 | zero=>intro i _ h;omega
 | succ m ih =>
  intro i hi hm
  rw [B6,C9]
  by_cases hb:i<Cu b l
  ·have hx:=Sw hb
   rw [gdT (gdt (dT (by omega))),Ec i b rfl hx,Sq b b,B1 (x:=decide (b=b)) (dT (by omega)),B1 (dT rfl),ckb (by omega)]
   exact ih (i+1) (by omega) (by omega)
  ·have he:i=Cu b l:=by omega
   subst he
   by_cases hc:Cu b l<l.length
   ·have hg:=List.getElem?_eq_getElem hc
    rw [gdT (gdt (dT (by omega))),Ec _ _ rfl hg,Sq _ b,B1 (x:=decide (l[Cu b l]=b)) (dT (by omega)),B3 (dF (Sv hg))]
   ·rw [gdF (gdf (dF (by omega))),sb,B3 (B3 (dF (by omega)))]
theorem A30 (F:Nat) (hF:1000≤F):∀(m:Nat) (l:List api_Echo) (b:api_Echo) (w:List Int),l.length<m→l.length<F→l.length≤1000000000→(∀x∈l,okE x)→w.length+300*l.length≤999999900000 →
  Az F m b.Kind b.Power.Lo b.Match.Lo b.Match.Hi b.Turn.Lo b.Turn.Hi b.Power.Hi b.Steps.1.Lo b.Steps.1.Hi b.Steps.2.Lo b.Steps.2.Hi b.Spread b.Ratio.Lo b.Ratio.Hi w l=some ⟨w++Jf Hr b 0 l⟩:=by
 intro m
 induction m with
 | zero=>intro l b w h;omega
 | succ m ih =>
  intro l b w h hlF hl9 hok hw
  rw [Az,Bf]
  cases hl:l with
  | nil=>simp [Jf]
  | cons x0 l0 =>
   rw [←hl]
   have hpos:0<l.length:=by rw [hl];simp
   have hle:=Mt b l
   have h9:=Cf (x:=(Cu b l:Int)) ⟨by omega,by omega⟩
   rw [Int.toNat_natCast] at h9
   rw [B1 (dT (by omega)),show (0:Int)=((0:Nat):Int) from rfl,A0n F b w l _ hl9 F 0 (by omega) (by omega),Bg,F2 hF (by unfold okW;simp;omega) (by intro x hx;simp at hx;subst hx;exact ⟨by omega,by omega⟩) (by simp),sb,
    Sp (Cu b l) rfl rfl hle,Q6 Hr b 0 l (.inr (by rw [hl];simp))]
   cases hd:l.drop (Cu b l) with
   | nil =>
    rw [B3 (dF (by simp))]
    cases m with
    | zero=>omega
    | succ m=>rw [Az,Bf,B3 (dF (by simp))];simp [Fg]
   | cons y r =>
    obtain ⟨hg,hn,hr,hrl,hy⟩:=Py hd
    rw [B1 (dT (by simp)),Ec 0 y (by rfl) (by rfl),Sp 1 (by decide) (by rfl) (by simp),A22 hF (by simp [Fg];omega) (hok y hy),sb]
    simp only [List.drop_succ_cons,List.drop_zero]
    rw [ih r y _ (by omega) (by omega) (by omega) (fun z hz=>hok z (by rw [hr] at hz;exact List.mem_of_mem_drop hz)) (by have:=Rt (hok y hy);simp [Fg];omega)]
    simp [Fg]
theorem Ze {F:Nat} (hF:1000≤F) {w:volume_writer} {l:List api_Echo} {b:api_Echo} (hl:l.length<F) (hl9:l.length≤1000000000) (hok:∀x∈l,okE x) (hw:w.b.length+300*l.length≤999999900000):Bq F w l b=some ⟨w.b++Jf Hr b 0 l⟩:=by
 rw [Bq]
 exact A30 F hF F l b w.b hl hl hl9 hok hw
def e0:api_Echo:=⟨1,⟨0,0⟩,(⟨0,0⟩,⟨0,0⟩),0,⟨0,0⟩,⟨0,0⟩,⟨0,0⟩⟩
def Jo (s:ByteArray):List Int:=Dz s.size++sby s
def Rc (l:List Int):List Int:=l.flatMap fun x=>Dz (zig x)
def R2 (s:api_Sweep):List Int:=Fg [1]++(Jo s.Site.Name++(Rc [s.Site.X,s.Site.Y]++(Fg [s.Site.Z,s.Site.Rose,s.Site.Gates,s.Site.Step,s.Site.Width,s.Tilt,s.Time]++Jf Hr e0 0 s.Rays.flatten)))
def Qn (f:volume_field):List Int:=Fg [2]++(Jo f.key++(Fg [f.time]++(Rc [f.Field.Grid.X,f.Field.Grid.Y]++(Fg [f.Field.Grid.Size,f.Field.Grid.Wide,f.Field.Grid.High]++Jf Hf ⟨0,0⟩ 0 f.Field.Vals))))
def Ti (n:volume_note):List Int:=Fg [3,n.time]++Jo n.text
def Cv (t:volume_thing):List Int:=t.cs [] (fun s=>R2 s.Sweep) Qn Ti
def A1r (s:api_Site):Prop:=s.Name.size≤1000∧okZ s.X∧okZ s.Y∧okN s.Z∧okN s.Rose∧okN s.Gates∧okN s.Step∧okN s.Width
def Q5 (s:api_Sweep):Prop:=A1r s.Site∧okN s.Tilt∧okN s.Time∧s.Rays.length≤1000∧s.Rays.flatten.length≤100000∧∀r∈s.Rays,∀x∈r,okE x
def Rl (f:volume_field):Prop:=f.key.size≤1000∧okN f.time∧okZ f.Field.Grid.X∧okZ f.Field.Grid.Y∧okN f.Field.Grid.Size∧okN f.Field.Grid.Wide∧okN f.Field.Grid.High∧f.Field.Vals.length≤100000∧∀x∈f.Field.Vals,okS x
def Uy (n:volume_note):Prop:=okN n.time∧n.text.size≤1000
def okT (t:volume_thing):Prop:=t.cs False (fun s=>Q5 s.Sweep) Rl Uy
theorem Gj {l:List Int} (h:∀x∈l,okN x):(Fg l).length≤9*l.length:=by
 induction l with
 | nil=>simp [Fg]
 | cons x l ih =>
  have h1:=Cf (h x (by simp))
  have h2:=ih fun y hy=>h y (by simp [hy])
  simp only [Fg,List.flatMap_cons,List.length_append,List.length_cons] at h2 ⊢
  omega
theorem Re {l:List Int} (h:∀x∈l,okZ x):(Rc l).length≤9*l.length:=by
 induction l with
 | nil=>simp [Rc]
 | cons x l ih =>
  have h1:=Cf (Ty (h x (by simp)))
  rw [Int.toNat_natCast] at h1
  have h2:=ih fun y hy=>h y (by simp [hy])
  simp only [Rc,List.flatMap_cons,List.length_append,List.length_cons] at h2 ⊢
  omega
theorem N8 {s:ByteArray} (h:s.size≤1000):(Jo s).length≤1009:=by
 have h9:=Cf (x:=(s.size:Int)) ⟨by omega,by omega⟩
 rw [Int.toNat_natCast] at h9
 unfold Jo
 rw [List.length_append,K5];omega
theorem Ls {x:Int} (h:0≤x∧x≤1000000):okN x:=⟨h.1,by omega⟩
theorem A26 (F:Nat) (hF:200000≤F) (s:volume_sweep) (y:volume_writer) (hok:Q5 s.Sweep) (hy:y.b.length≤1000000):∀(m i:Nat) (acc:List api_Echo),s.Sweep.Rays.length-i<m→i≤s.Sweep.Rays.length→acc++(s.Sweep.Rays.drop i).flatten=s.Sweep.Rays.flatten →
  D1 F s y m acc i=some ⟨y.b++Jf Hr e0 0 s.Sweep.Rays.flatten⟩:=by
 intro m
 obtain ⟨h1,h2,h3,h4,h5,h6⟩:=hok
 induction m with
 | zero=>intro i acc h;omega
 | succ m ih =>
  intro i acc h hi hacc
  have hal:acc.length≤100000:=by
   have:=congrArg List.length hacc
   rw [List.length_append] at this;omega
  rw [D1,F5]
  by_cases hb:i<s.Sweep.Rays.length
  ·have hd:=List.drop_eq_getElem_cons hb
   have hacc2:(acc++s.Sweep.Rays[i])++(s.Sweep.Rays.drop (i+1)).flatten=s.Sweep.Rays.flatten:=by rw [←hacc,hd,List.flatten_cons,List.append_assoc]
   have hal2:acc.length+s.Sweep.Rays[i].length≤100000:=by
    have:=congrArg List.length hacc2
    simp only [List.length_append] at this;omega
   rw [B1 (dT (by omega)),Ec i _ rfl (List.getElem?_eq_getElem hb),Kf (by omega) (by decide),ckb (by omega)]
   exact ih (i+1) _ (by omega) (by omega) hacc2
  ·have he:acc=s.Sweep.Rays.flatten:=by
    rw [List.drop_of_length_le (by omega)] at hacc;simpa using hacc
   rw [B3 (dF (by omega)),he,F6,Ze (by omega) (by omega) (by omega) (fun x hx=>?_) (by omega)]
   ·rfl
   ·obtain ⟨r,hr,hx⟩:=List.mem_flatten.1 hx
    exact h6 r hr x hx
theorem A0m {F:Nat} (hF:200000≤F) {t:volume_thing} (h:okT t):Ji F t ⟨[]⟩=some ⟨Cv t⟩:=by
 cases t with
 | nil_=>exact h.elim
 | ic156 s =>
  have hs:Q5 s.Sweep:=h
  have h':=hs
  obtain ⟨⟨a1,a2,a3,a4,a5,a6,a7,a8⟩,h2,h3,h4,h5,h6⟩:=h'
  have o1:∀x∈[(1:Int)],okN x:=by intro x hx;simp at hx;subst hx;exact Ls (by decide)
  have o2:∀x∈[s.Sweep.Site.X,s.Sweep.Site.Y],okZ x:=by intro x hx;simp at hx;rcases hx with rfl|rfl<;>assumption
  have o3:∀x∈[s.Sweep.Site.Z,s.Sweep.Site.Rose,s.Sweep.Site.Gates,s.Sweep.Site.Step,s.Sweep.Site.Width,s.Sweep.Tilt,s.Sweep.Time],okN x:=by intro x hx;simp at hx;rcases hx with rfl|rfl|rfl|rfl|rfl|rfl|rfl<;>assumption
  have l1:=Gj o1
  have l2:=N8 a1
  have l3:=Re o2
  have l4:=Gj o3
  simp only [List.length_cons,List.length_nil] at l1 l3 l4
  show F1 F s ⟨[]⟩=some ⟨R2 s.Sweep⟩
  rw [F1,F2 (by omega) (by unfold okW;simp) o1 (by simp),sb,Wp (by omega) (by simp only [List.nil_append];omega) (by omega),sb]
  rw [S8 (by omega) (by simp only [List.nil_append,List.length_append];unfold Jo at l2;rw [List.length_append] at l2;omega) o2 (by simp),sb,F2 (by omega) (by unfold okW;unfold Rc at l3;unfold Jo at l2;simp only [List.nil_append,List.length_append] at *;omega) o3 (by simp),sb]
  rw [show (0:Int)=((0:Nat):Int) from rfl,A26 F hF s _ hs (by unfold Rc at l3;unfold Jo at l2;simp only [List.nil_append,List.length_append] at *;omega) F 0 [] (by omega) (by omega) (by simp)]
  simp [R2,Jo,Rc]
 | ic158 f =>
  obtain ⟨a1,a2,a3,a4,a5,a6,a7,a8,a9⟩:=(show Rl f from h)
  have o1:∀x∈[(2:Int)],okN x:=by intro x hx;simp at hx;subst hx;exact Ls (by decide)
  have o4:∀x∈[f.time],okN x:=by intro x hx;simp at hx;subst hx;exact a2
  have o2:∀x∈[f.Field.Grid.X,f.Field.Grid.Y],okZ x:=by intro x hx;simp at hx;rcases hx with rfl|rfl<;>assumption
  have o3:∀x∈[f.Field.Grid.Size,f.Field.Grid.Wide,f.Field.Grid.High],okN x:=by intro x hx;simp at hx;rcases hx with rfl|rfl|rfl<;>assumption
  have l1:=Gj o1
  have l2:=N8 a1
  have l3:=Re o2
  have l4:=Gj o3
  have l5:=Gj o4
  simp only [List.length_cons,List.length_nil] at l1 l3 l4 l5
  show Ez F f ⟨[]⟩=some ⟨Qn f⟩
  rw [Ez,F2 (by omega) (by unfold okW;simp) o1 (by simp),sb,Wp (by omega) (by simp only [List.nil_append];omega) (by omega),sb]
  rw [F2 (by omega) (by unfold okW;unfold Jo at l2;simp only [List.nil_append,List.length_append] at *;omega) o4 (by simp),sb]
  rw [S8 (by omega) (by unfold Jo at l2;simp only [List.nil_append,List.length_append] at *;omega) o2 (by simp),sb,F2 (by omega) (by unfold okW;unfold Rc at l3;unfold Jo at l2;simp only [List.nil_append,List.length_append] at *;omega) o3 (by simp),sb]
  rw [A0l (by omega) (by omega) (by omega) a9 (by unfold Rc at l3;unfold Jo at l2;simp only [List.nil_append,List.length_append] at *;omega),sb]
  simp [Qn,Jo,Rc]
 | ic160 n =>
  obtain ⟨a1,a2⟩:=(show Uy n from h)
  have o1:∀x∈[(3:Int),n.time],okN x:=by intro x hx;simp at hx;rcases hx with rfl|rfl;(exact Ls (by decide));exact a1
  have l1:=Gj o1
  simp only [List.length_cons,List.length_nil] at l1
  show Fk F n ⟨[]⟩=some ⟨Ti n⟩
  rw [Fk,F2 (by omega) (by unfold okW;simp) o1 (by simp),sb,Wp (by omega) (by simp only [List.nil_append];omega) (by omega),sb]
  simp [Ti,Jo]
end Go.Proofs.YtifbomimeodibaaGreat
namespace Go.Proofs.YtifbomimeodibaaGreat
open Go Go.RowKit Go.Eng
set_option maxRecDepth 10000
set_option linter.unusedVariables false
set_option linter.unusedSimpArgs false
def A0e:Nat→List Int→Nat
 | c,[]=>c
 | c,x::l=>A0e ((31*c+x.toNat)%2147483647) l
def Xw (c:Nat):List Int:=[128+((c%127:Nat):Int),128+((c/127%127:Nat):Int),128+((c/127/127%127:Nat):Int),128+((c/127/127/127%127:Nat):Int),1+((c/127/127/127/127%127:Nat):Int)]
def A0d (l:List Int):List Int:=Xw (A0e 1 l)
theorem Rn (l:List Int):(A0d l).length=5:=rfl
theorem A2x {α β:Type} {l:List α} {i:Int} {x:α} {f:List α→Option β} (n:Nat) (hi:i=(n:Int)) (h:n<l.length):(V4 l i x).bind f=f (l.set n x):=by
 subst hi
 unfold V4
 rw [if_pos (by omega)]
 rfl
theorem A08 (F:Nat) (hF:10≤F) (c:Nat) (hc:c<2147483647):E6 F 5 0 c (List.replicate 5 0)=some (Xw c):=by
 obtain ⟨G,rfl⟩:∃G,F=G+6:=⟨F-6,by omega⟩
 have step:∀(m i d:Nat) (l:List Int),i<5→l.length=5→d<2147483647→E6 (m+1) 5 i d l=E6 m 5 (i+1:Nat) (d/127:Nat) (l.set i (128+((d%127:Nat):Int))):=by
  intro m i d l hi hl hd
  rw [E6,J2,B1 (dT (by omega)),(tdm d).1,sb]
  have:=Nat.mod_lt d (show 0<127 by decide)
  rw [ckb (by omega),Ec i l[i] rfl (List.getElem?_eq_getElem (by omega)),A2x i rfl (by omega),(tdm d).2,ckb (by omega),ckb (by omega),Sf (by omega)]
  rfl
 rw [show (0:Int)=((0:Nat):Int) from rfl,step (G+5) 0 c _ (by decide) (by simp) hc,step (G+4) 1 _ _ (by decide) (by simp) (by omega),step (G+3) 2 _ _ (by decide) (by simp) (by omega),step (G+2) 3 _ _ (by decide) (by simp) (by omega),step (G+1) 4 _ _ (by decide) (by simp) (by omega)]
 rw [E6,J2,B3 (dF (by decide)),L6]
 simp only [List.replicate,List.set_cons_zero,List.set_cons_succ]
 have h4:(128:Int)+((c/127/127/127/127%127:Nat):Int)-127=1+((c/127/127/127/127%127:Nat):Int):=by omega
 have:=Nat.mod_lt (c/127/127/127/127) (show 0<127 by decide)
 rw [Ec 4 (128+((c/127/127/127/127%127:Nat):Int)) (by decide) (by rfl),Ec 4 (128+((c/127/127/127/127%127:Nat):Int)) (by decide) (by rfl),A2x 4 (by decide) (by simp),h4,Sf (by omega)]
 rfl
theorem A09 (F:Nat) (hF:10≤F) (p:List Int) (hp:By p) (hpl:p.length≤1000000000):∀(m i c:Nat),p.length-i<m→i≤p.length→c<2147483647→Gy F p m i c=some (Xw (A0e c (p.drop i))):=by
 intro m
 induction m with
 | zero=>intro i c h;omega
 | succ m ih =>
  intro i c h hi hc
  rw [Gy,L4]
  by_cases hb:i<p.length
  ·have hx:=hp p[i] (List.getElem_mem hb)
   rw [B1 (dT (by omega)),Ec i p[i] rfl (List.getElem?_eq_getElem hb),ckb (by omega),ckb (by omega),ckb (by omega)]
   have e:Qc (31*(c:Int)+p[i]) 2147483647=some (((31*c+p[i].toNat)%2147483647:Nat):Int):=by
    have e1:31*(c:Int)+p[i]=((31*c+p[i].toNat:Nat):Int):=by omega
    rw [e1]
    unfold Qc
    rw [if_neg (by decide)]
    congr 1
   rw [e,sb,ckb (by omega)]
   have:=ih (i+1) _ (by omega) (by omega) (Nat.mod_lt (31*c+p[i].toNat) (show 0<2147483647 by decide))
   rw [show ((i:Int)+1)=((i+1:Nat):Int) by omega,this,List.drop_eq_getElem_cons hb]
   rfl
  ·rw [B3 (dF (by omega)),L5,List.drop_of_length_le (by omega)]
   show (mkI 1 5 0).bind _=_
   rw [show mkI 1 5 (0:Int)=some (List.replicate 5 0) from by unfold mkI;rw [if_pos (by decide)];rfl,sb]
   exact A08 F hF c hc
theorem A1z {F:Nat} (hF:10≤F) {p:List Int} (hp:By p) (hl:p.length<F) (hl9:p.length≤1000000000):Jh F p=some (A0d p):=by
 rw [Jh]
 exact A09 F hF p hp hl9 F 0 1 (by omega) (by omega) (by decide)
theorem Ux (n:Nat):By (Dz n):=fun x hx=>by have:=X3 n x hx;omega
def Nz (l:List Int):Prop:=∀x∈l,1≤x∧x<256
theorem Nz.by {l:List Int} (h:Nz l):By l:=fun x hx=>by have:=h x hx;omega
theorem Nz.app {l k:List Int} (h:Nz l) (h':Nz k):Nz (l++k):=fun x hx=>(List.mem_append.1 hx).elim (h x) (h' x)
theorem Nz.nil:Nz []:=fun x hx=>by cases hx
theorem Nz.fm {α:Type} {l:List α} {f:α→List Int} (h:∀x∈l,Nz (f x)):Nz (l.flatMap f):=fun x hx=>by
 obtain ⟨y,hy,hx⟩:=List.mem_flatMap.1 hx
 exact h y hy x hx
theorem Lj (n:Nat):Nz (Dz n):=fun x hx=>by have:=X3 n x hx;omega
theorem Q4 (l:List Int):Nz (Fg l):=Nz.fm fun x _=>Lj _
theorem X2 (l:List Int):Nz (Rc l):=Nz.fm fun x _=>Lj _
theorem Md (s:api_Span):Nz (Hf s):=(Lj _).app (Lj _)
theorem Yc (x:api_Echo):Nz (Hr x):=by
 unfold Hr
 refine (Lj _).app ?_
 split
 ·exact Lj _
 ·refine (Md _).app ((Md _).app ((Md _).app ((Lj _).app ?_)))
  split
  ·exact (Md _).app ((Md _).app (Md _))
  ·exact Nz.nil
theorem X6 {α:Type} [DecidableEq α] {e:α→List Int} (he:∀x,Nz (e x)):∀(l:List α) (b:α) (n:Nat),Nz (Jf e b n l):=by
 intro l
 induction l with
 | nil=>intro b n;rw [Jf];split;exact Nz.nil;exact Lj _
 | cons x l ih =>
  intro b n
  rw [Jf]
  split
  ·exact ih _ _
  ·exact (Lj _).app ((he x).app (ih _ _))
def Tz (s:ByteArray):Prop:=Nz (sby s)
def tzT (t:volume_thing):Prop:=t.cs True (fun s=>Tz s.Sweep.Site.Name) (fun f=>Tz f.key) (fun n=>Tz n.text)
def cnt (t:volume_thing):Nat:=t.cs 0 (fun s=>s.Sweep.Rays.flatten.length) (fun f=>f.Field.Vals.length) (fun _=>0)
theorem Ps {t:volume_thing} (h:okT t):(Cv t).length≤1200+139*cnt t:=by
 cases t with
 | nil_=>exact h.elim
 | ic156 s =>
  obtain ⟨⟨a1,a2,a3,a4,a5,a6,a7,a8⟩,h2,h3,h4,h5,h6⟩:=(show Q5 s.Sweep from h)
  have l1:=Gj (l:=[(1:Int)]) (by intro x hx;simp at hx;subst hx;exact Ls (by decide))
  have l2:=N8 a1
  have l3:=Re (l:=[s.Sweep.Site.X,s.Sweep.Site.Y]) (by intro x hx;simp at hx;rcases hx with rfl|rfl<;>assumption)
  have l4:=Gj (l:=[s.Sweep.Site.Z,s.Sweep.Site.Rose,s.Sweep.Site.Gates,s.Sweep.Site.Step,s.Sweep.Site.Width,s.Sweep.Tilt,s.Sweep.Time]) (by intro x hx;simp at hx;rcases hx with rfl|rfl|rfl|rfl|rfl|rfl|rfl<;>assumption)
  have l5:=Vn (e:=Hr) (c:=130) s.Sweep.Rays.flatten e0 0 (fun x hx=>Rt (by obtain ⟨r,hr,hx⟩:=List.mem_flatten.1 hx;exact h6 r hr x hx)) (by omega)
  simp only [List.length_cons,List.length_nil] at l1 l3 l4
  show (R2 s.Sweep).length≤1200+139*s.Sweep.Rays.flatten.length
  simp only [R2,List.length_append]
  omega
 | ic158 f =>
  obtain ⟨a1,a2,a3,a4,a5,a6,a7,a8,a9⟩:=(show Rl f from h)
  have l1:=Gj (l:=[(2:Int)]) (by intro x hx;simp at hx;subst hx;exact Ls (by decide))
  have l2:=N8 a1
  have l3:=Re (l:=[f.Field.Grid.X,f.Field.Grid.Y]) (by intro x hx;simp at hx;rcases hx with rfl|rfl<;>assumption)
  have l4:=Gj (l:=[f.Field.Grid.Size,f.Field.Grid.Wide,f.Field.Grid.High]) (by intro x hx;simp at hx;rcases hx with rfl|rfl|rfl<;>assumption)
  have l6:=Gj (l:=[f.time]) (by intro x hx;simp at hx;subst hx;exact a2)
  have l5:=Vn (e:=Hf) (c:=18) f.Field.Vals ⟨0,0⟩ 0 (fun x hx=>Cr (a9 x hx)) (by omega)
  simp only [List.length_cons,List.length_nil] at l1 l3 l4 l6
  show (Qn f).length≤1200+139*f.Field.Vals.length
  simp only [Qn,List.length_append]
  omega
 | ic160 n =>
  obtain ⟨a1,a2⟩:=(show Uy n from h)
  have l1:=Gj (l:=[(3:Int),n.time]) (by intro x hx;simp at hx;rcases hx with rfl|rfl;(exact Ls (by decide));exact a1)
  have l2:=N8 a2
  simp only [List.length_cons,List.length_nil] at l1
  show (Ti n).length≤1200+139*0
  simp only [Ti,List.length_append]
  omega
theorem A1x (s:ByteArray):By (sby s):=fun x hx=>by
 obtain ⟨b,_,rfl⟩:=List.mem_map.1 hx
 have:=b.toNat_lt
 omega
theorem Tt (s:ByteArray):By (Jo s):=(Ux _).app (A1x s)
theorem Un (t:volume_thing):By (Cv t):=by
 cases t with
 | nil_=>exact Nz.nil.by
 | ic156 s=>exact (Q4 _).by.app ((Tt _).app ((X2 _).by.app ((Q4 _).by.app (X6 Yc _ _ _).by)))
 | ic158 f=>exact (Q4 _).by.app ((Tt _).app ((Q4 _).by.app ((X2 _).by.app ((Q4 _).by.app (X6 Md _ _ _).by))))
 | ic160 n=>exact (Q4 _).by.app (Tt _)
theorem Nw {t:volume_thing} (h:okT t):(Cv t).length≤14000000:=by
 have h1:=Ps h
 have h2:cnt t≤100000:=by
  cases t with
  | nil_=>exact h.elim
  | ic156 s=>exact (show Q5 s.Sweep from h).2.2.2.2.1
  | ic158 f=>exact (show Rl f from h).2.2.2.2.2.2.2.1
  | ic160 n=>exact Nat.zero_le _
 omega
def N3 (b:List Int):List Int:=Dz b.length++b
def Pj (t:volume_thing):List Int:=N3 (Cv t)++A0d (N3 (Cv t))
def Ng (t:volume_thing):List Int:=0::Pj t
theorem Y3 {F:Nat} (hF:200000≤F) {t:volume_thing} (h:okT t) (hl:(Cv t).length+100≤F):Hq F t=some (Ng t):=by
 have hlen:=Nw h
 have h9:=Cf (x:=((Cv t).length:Int)) ⟨by omega,by omega⟩
 rw [Int.toNat_natCast] at h9
 rw [Hq,A0m hF h,sb,F2 (by omega) (by unfold okW;simp) (by intro x hx;simp at hx;subst hx;exact ⟨by omega,by omega⟩) (by simp),sb]
 have e:([]:List Int)++Fg [((Cv t).length:Int)]=Dz (Cv t).length:=by simp [Fg]
 simp only [e]
 rw [Kf (by omega) (by decide)]
 show (Jh F (N3 (Cv t))).bind _=_
 have hpl:(N3 (Cv t)).length=(Dz (Cv t).length).length+(Cv t).length:=by unfold N3;rw [List.length_append]
 have hby:By (N3 (Cv t)):=(Ux _).app (Un t)
 rw [A1z (by omega) hby (by omega) (by omega),sb,Kf (by rw [List.length_append,Rn];omega) (by decide)]
 rw [show Dz (Cv t).length++Cv t=N3 (Cv t) from rfl]
 rw [Kf (by rw [List.length_append,Rn];simp;omega) (by decide)]
 rfl
end Go.Proofs.YtifbomimeodibaaGreat
namespace Go.Proofs.YtifbomimeodibaaGreat
open Go Go.RowKit Go.Eng
set_option maxRecDepth 10000
set_option linter.unusedVariables false
set_option linter.unusedSimpArgs false
abbrev RE (α:Type):=Option (Except (Value×volume_reader) (α×volume_reader))
def W7:Value:=.iface 128 (.int .i64 7)
def Rd {α:Type} (y:RE α) (o:Option (α×List Int)):Prop:=match o with
 | some x=>y=some (.ok (x.1,⟨x.2⟩))
 | none=>∃r,y=some (.error (W7,r))
theorem Rd.ok {α:Type} {x:α} {r:List Int}:Rd (some (.ok (x,⟨r⟩))) (some (x,r)):=rfl
def rD:Nat→Bool→List Int→Option (Int×List Int)
 | 0,_,_=>none
 | _+1,_,[]=>none
 | k+1,f,c::l=>if c=0∨c=255∨(c=1∧f=false) then none else if c<128 then some (c-1,l) else (rD k false l).map fun y=>(c-128+127*y.1,y.2)
end Go.Proofs.YtifbomimeodibaaGreat
namespace Go.Proofs.YtifbomimeodibaaGreat
open Go Go.RowKit Go.Eng
set_option maxRecDepth 10000
set_option linter.unusedVariables false
set_option linter.unusedSimpArgs false
def okS' (s:api_Span):Prop:=-67675234241018881≤s.Lo∧s.Lo≤s.Hi∧s.Hi≤200000000000000000
theorem okS'.ok {s:api_Span} (h:okS' s):okS s:=by obtain ⟨a,b,c⟩:=h;exact ⟨by omega,b,by omega⟩
end Go.Proofs.YtifbomimeodibaaGreat
namespace Go.Proofs.YtifbomimeodibaaGreat
open Go Go.RowKit Go.Eng
set_option maxRecDepth 10000
set_option linter.unusedVariables false
set_option linter.unusedSimpArgs false
def P0 (s:ByteArray):Bool:=(!(sEq s ⟨#[]⟩))&&(decide ((s.size:Int)≤12)&&(decide ((P3 s 0).getD 0≥97)&&(decide ((P3 s 0).getD 0≤122)&&!Yo s)))
theorem Sx (F:Nat) (s:ByteArray):Lp F s=some (P0 s):=by
 have hg:sEq s ⟨#[]⟩=false→P3 s 0=some ((P3 s 0).getD 0):=by
  intro h
  have hs:s.size≠0:=by
   intro h0
   have:s=⟨#[]⟩:=by
    cases s with
    | mk d =>
     have:d=#[]:=Array.eq_empty_of_size_eq_zero h0
     rw [this]
   rw [Q7.2 this] at h
   cases h
  unfold P3
  rw [if_pos (by omega)]
  rfl
 unfold Lp P0 Fi
 cases h1:sEq s ⟨#[]⟩ with
 | true=>simp [gd]
 | false =>
  have e:=hg h1
  generalize hu:(P3 s 0).getD 0=u at e ⊢
  rw [e]
  by_cases h2:(s.size:Int)≤12
  ·by_cases h3:u≥97
   ·simp [gd,h2,h3]
   ·simp [gd,h2,h3]
  ·simp [gd,h2]
def inB (x lo hi:Int):Prop:=lo≤x∧x≤hi
instance (x lo hi:Int):Decidable (inB x lo hi):=by unfold inB;infer_instance
theorem Tx {x lo hi:Int}:Aa x lo hi=decide (inB x lo hi):=by
 unfold Aa inB
 by_cases h:lo≤x<;>simp [h]
def Vx (s:api_Site):Prop:=P0 s.Name=true∧inB s.X (-1048576) 1048576∧inB s.Y (-1048576) 1048576∧inB s.Z 0 20000∧inB s.Rose 1 90∧inB s.Gates 1 200∧inB s.Step 50 2000∧inB s.Width 0 8
instance (s:api_Site):Decidable (Vx s):=by unfold Vx;infer_instance
theorem A0c (F:Nat) (s:api_Site):∃e,E7 F s=some e∧(e=0↔Vx s):=by
 unfold E7 Db Cz Vx
 rw [Sx,sb]
 simp only [Tx]
 cases P0 s.Name with
 | false=>exact ⟨10,by simp,by simp⟩
 | true =>
  by_cases h1:inB s.X (-1048576) 1048576
  ·by_cases h2:inB s.Y (-1048576) 1048576
   ·by_cases h3:inB s.Z 0 20000
    ·by_cases h4:inB s.Rose 1 90
     ·by_cases h5:inB s.Gates 1 200
      ·by_cases h6:inB s.Step 50 2000
       ·by_cases h7:inB s.Width 0 8
        ·exact ⟨0,by simp [h1,h2,h3,h4,h5,h6,h7],by simp [h1,h2,h3,h4,h5,h6,h7]⟩
        ·exact ⟨3,by simp [h1,h2,h3,h4,h5,h6,h7],by simp [h1,h2,h3,h4,h5,h6,h7]⟩
       ·exact ⟨3,by simp [h1,h2,h3,h4,h5,h6],by simp [h1,h2,h3,h4,h5,h6]⟩
      ·exact ⟨3,by simp [h1,h2,h3,h4,h5],by simp [h1,h2,h3,h4,h5]⟩
     ·exact ⟨3,by simp [h1,h2,h3,h4],by simp [h1,h2,h3,h4]⟩
    ·exact ⟨3,by simp [h1,h2,h3],by simp [h1,h2,h3]⟩
   ·exact ⟨3,by simp [h1,h2],by simp [h1,h2]⟩
  ·exact ⟨3,by simp [h1],by simp [h1]⟩
def Up (g:api_Grid):Prop:=inB g.X (-1048576) 1048576∧inB g.Y (-1048576) 1048576∧inB g.Size 1 10000∧inB g.Wide 1 64∧inB g.High 1 64
theorem Zr (g:api_Grid):Bj g=0↔Up g:=by
 unfold Bj Cm Up
 simp only [Tx]
 by_cases h1:inB g.X (-1048576) 1048576
 ·by_cases h2:inB g.Y (-1048576) 1048576
  ·by_cases h3:inB g.Size 1 10000
   ·by_cases h4:inB g.Wide 1 64
    ·by_cases h5:inB g.High 1 64<;>simp [h1,h2,h3,h4,h5]
    ·simp [h1,h2,h3,h4]
   ·simp [h1,h2,h3]
  ·simp [h1,h2]
 ·simp [h1]
def Nk (s:api_Span) (lo hi:Int):Prop:=lo≤s.Lo∧s.Lo≤s.Hi∧s.Hi≤hi
instance (s:api_Span) (lo hi:Int):Decidable (Nk s lo hi):=by unfold Nk;infer_instance
theorem Tb {s:api_Span} {lo hi:Int}:Ac s lo hi=decide (Nk s lo hi):=by
 unfold Ac Nk
 by_cases h:lo≤s.Lo
 ·by_cases h2:s.Lo≤s.Hi<;>simp [h,h2]
 ·simp [h]
theorem L9 {x lo hi:Int}:As x lo hi=decide (inB x lo hi):=by
 unfold As inB
 by_cases h:lo≤x<;>simp [h]
def Fu (s:api_Span):Prop:=-32768≤s.Lo∧s.Lo≤32767∧s.Lo≤s.Hi∧s.Hi≤s.Lo+65535
instance (s:api_Span):Decidable (Fu s):=by unfold Fu;infer_instance
theorem Z5 (p:List api_Span) (k2:Int→Option Bool) (i:Nat) (u:api_Span) (h:p[i]? = some u) (hi:i<p.length) (h9:i≤100):Ew p k2 i=bif decide (Fu u) then k2 (i+1) else some false:=by
 have e1:-9000000000000000000≤(i:Int)+1∧(i:Int)+1≤9000000000000000000:=by omega
 rw [Ew,B1 (dT (by omega)),Ec i u rfl h]
 simp only [L9]
 by_cases h1:inB u.Lo (-32768) 32767
 ·have h1':=h1
  obtain ⟨a,b⟩:=h1'
  simp only [dT h1]
  rw [gdT (by rfl),ckb (by omega),gdT (by rfl),ckb (by omega)]
  obtain ⟨z,hz⟩:∃z,z=u.Lo+65536-1:=⟨_,rfl⟩
  rw [←hz]
  by_cases h2:inB u.Hi u.Lo z
  ·have ht:Fu u:=⟨a,b,h2.1,by have:=h2.2;omega⟩
   rw [dT h2,dT ht]
   rw [B3 (by rfl),B1 (by rfl),ckb e1]
  ·have ht:¬Fu u:=fun h=>h2 ⟨h.2.2.1,by have:=h.2.2.2;omega⟩
   rw [dF h2,dF ht,B1 (by rfl),B3 (by rfl)]
 ·simp only [dF h1]
  rw [gdF (by rfl),sb,gdF (by rfl),sb,dF (show ¬Fu u from fun h=>h1 ⟨h.1,h.2.1⟩),B1 (by rfl),B3 (by rfl)]
theorem Tu {F:Nat} (hF:10≤F) (a b c:api_Span):Hw F [a,b,c]=some (decide (Fu a∧Fu b∧Fu c)):=by
 obtain ⟨G,rfl⟩:∃G,F=G+4:=⟨F-4,by omega⟩
 rw [Hw,D7,show (0:Int)=((0:Nat):Int) from rfl,Z5 _ _ 0 a rfl (by simp) (by decide)]
 by_cases h1:Fu a
 ·rw [B1 (dT h1),show (((0:Nat):Int)+1)=((1:Nat):Int) from rfl,D7,Z5 _ _ 1 b rfl (by simp) (by decide)]
  by_cases h2:Fu b
  ·rw [B1 (dT h2),show (((1:Nat):Int)+1)=((2:Nat):Int) from rfl,D7,Z5 _ _ 2 c rfl (by simp) (by decide)]
   by_cases h3:Fu c
   ·rw [B1 (dT h3),D7,Ew,B3 (dF (by simp)),Hm]
    simp [h1,h2,h3]
   ·rw [B3 (dF h3)];simp [h3]
  ·rw [B3 (dF h2)];simp [h2]
 ·rw [B3 (dF h1)];simp [h1]
def z0 (s:api_Span):Prop:=s.Lo=0∧s.Hi=0
def vEcho (x:api_Echo):Prop:=(x.Kind=1∧Nk x.Power 0 1073741824∧x.Power.Lo=0∧z0 x.Steps.1∧z0 x.Steps.2∧x.Spread=0∧z0 x.Ratio∧z0 x.Match∧z0 x.Turn) ∨
 ((x.Kind=2∨x.Kind=3)∧Nk x.Power 0 1073741824∧x.Power.Lo>0∧Nk x.Ratio 0 1000000∧Nk x.Match 0 1000∧inB x.Spread 0 65535∧(x.Kind=2→z0 x.Steps.1∧z0 x.Steps.2∧z0 x.Turn)∧(x.Kind=3→Fu x.Steps.1∧Fu x.Steps.2∧Fu x.Turn))
theorem A0r (c:Bool):Ct c=some (if c=true then 0 else 3):=by cases c<;>rfl
theorem Zo {F:Nat} (hF:10≤F) (x:api_Echo):∃e,Ef F x=some e∧(e=0↔vEcho x):=by
 unfold Ef vEcho
 simp only [A0r,Tb]
 by_cases h1:x.Kind=1
 ·rw [B1 (by simp [h1])]
  refine ⟨_,rfl,?_⟩
  simp only [h1,z0]
  by_cases h2:Nk x.Power 0 1073741824
  ·simp [h2,and_assoc]
  ·simp [h2]
 ·rw [B3 (by simp [h1])]
  have hK:∀c:Bool,c=(decide (x.Kind=2∨x.Kind=3))→∃e,C3 F x c=some e∧(e=0↔((x.Kind=2∨x.Kind=3)∧Nk x.Power 0 1073741824∧x.Power.Lo>0∧Nk x.Ratio 0 1000000∧Nk x.Match 0 1000∧inB x.Spread 0 65535∧(x.Kind=2→z0 x.Steps.1∧z0 x.Steps.2∧z0 x.Turn)∧(x.Kind=3→Fu x.Steps.1∧Fu x.Steps.2∧Fu x.Turn))):=by
   intro c hc
   unfold C3
   simp only [A0r,Tb,L9]
   by_cases h23:x.Kind=2∨x.Kind=3
   ·rw [hc,B1 (dT h23)]
    by_cases h2:x.Kind=2
    ·rw [B1 (by simp [h2])]
     refine ⟨_,rfl,?_⟩
     simp only [h2,z0]
     by_cases a1:Nk x.Power 0 1073741824
     ·by_cases a2:x.Power.Lo>0
      ·by_cases a3:Nk x.Ratio 0 1000000
       ·by_cases a4:Nk x.Match 0 1000
        ·by_cases a5:inB x.Spread 0 65535
         ·simp [a1,a2,a3,a4,a5,and_assoc]
         ·simp [a1,a2,a3,a4,a5]
        ·simp [a1,a2,a3,a4]
       ·simp [a1,a2,a3]
      ·simp [a1,a2]
     ·simp [a1]
    ·have h3:x.Kind=3:=h23.resolve_left h2
     rw [B3 (by simp [h2])]
     by_cases a1:Nk x.Power 0 1073741824
     ·by_cases a2:x.Power.Lo>0
      ·by_cases a3:Nk x.Ratio 0 1000000
       ·by_cases a4:Nk x.Match 0 1000
        ·by_cases a5:inB x.Spread 0 65535
         ·rw [B1 (by simp [a1,a2,a3,a4,a5]),show (⟨x.Steps.1.Lo,x.Steps.1.Hi⟩:api_Span)=x.Steps.1 from rfl,show (⟨x.Steps.2.Lo,x.Steps.2.Hi⟩:api_Span)=x.Steps.2 from rfl,Tu hF,sb]
          refine ⟨_,rfl,?_⟩
          simp [h3,a1,a2,a3,a4,a5]
         ·rw [B3 (by simp [a5])];exact ⟨_,rfl,by simp [a5]⟩
        ·rw [B3 (by simp [a4])];exact ⟨_,rfl,by simp [a4]⟩
       ·rw [B3 (by simp [a3])];exact ⟨_,rfl,by simp [a3]⟩
      ·rw [B3 (by simp [a2])];exact ⟨_,rfl,by simp [a2]⟩
     ·rw [B3 (by simp [a1])];exact ⟨_,rfl,by simp [a1]⟩
   ·rw [hc,B3 (dF h23)]
    exact ⟨2,rfl,by simp [h23]⟩
  obtain ⟨e,he,hv⟩:∃e,(bif x.Kind==2 then C3 F x (x.Kind==2) else C3 F x (x.Kind==3))=some e∧(e=0↔_):=by
   by_cases h2:x.Kind=2
   ·rw [B1 (by simp [h2])];exact hK _ (by simp [h2])
   ·rw [B3 (by simp [h2])];exact hK _ (by simp [h2];rfl)
  exact ⟨e,he,hv.trans ⟨fun h=>.inr h,fun h=>h.resolve_left fun h=>h1 h.1⟩⟩
end Go.Proofs.YtifbomimeodibaaGreat
namespace Go.Proofs.YtifbomimeodibaaGreat
open Go Go.RowKit Go.Eng
set_option maxRecDepth 10000
set_option linter.unusedVariables false
set_option linter.unusedSimpArgs false
theorem A1w {F:Nat} (hF:5000≤F) (x270:Int) (k3:Int→Option Int) (u:List api_Echo) (hu:u.length≤1000):∀(m i:Nat),u.length-i<m→i≤u.length →
  ((∀x∈u.drop i,vEcho x)∧Bx F x270 k3 u m i=Dp x270 k3)∨(∃e,e≠0∧Bx F x270 k3 u m i=some e∧¬∀x∈u.drop i,vEcho x):=by
 intro m
 induction m with
 | zero=>intro i h;omega
 | succ m ih =>
  intro i h hi
  rw [Bx,Ek]
  by_cases hb:i<u.length
  ·have hd:=List.drop_eq_getElem_cons hb
   obtain ⟨e,he,hv⟩:=Zo (F:=F) (by omega) u[i]
   rw [B1 (dT (by omega)),Ec i u[i] rfl (List.getElem?_eq_getElem hb)]
   rw [show (⟨u[i].Kind,u[i].Power,(⟨u[i].Steps.1.Lo,u[i].Steps.1.Hi⟩,⟨u[i].Steps.2.Lo,u[i].Steps.2.Hi⟩),u[i].Spread,u[i].Ratio,u[i].Match,u[i].Turn⟩:api_Echo)=u[i] from rfl,he,sb]
   by_cases h0:e=0
   ·rw [B3 (by simp [h0]),ckb (by omega)]
    rcases ih (i+1) (by omega) (by omega) with ⟨h1,h2⟩|⟨e',h1,h2,h3⟩
    ·refine .inl ⟨?_,h2⟩
     rw [hd]
     intro x hx
     rcases List.mem_cons.1 hx with rfl|hx
     ·exact hv.1 h0
     ·exact h1 x hx
    ·exact .inr ⟨e',h1,h2,fun h=>h3 fun x hx=>h x (by rw [hd];exact List.mem_cons_of_mem _ hx)⟩
   ·rw [B1 (by simp [h0])]
    exact .inr ⟨e,h0,rfl,fun h=>h0 (hv.2 (h u[i] (by rw [hd];exact List.mem_cons_self ..)))⟩
  ·rw [B3 (dF (by omega))]
   exact .inl ⟨fun x hx=>(by rw [List.drop_of_length_le (by omega)] at hx;cases hx),rfl⟩
theorem A05 {F:Nat} (hF:5000≤F) (p:api_Sweep) (hp:p.Rays.length≤1000) (hr:∀r∈p.Rays,r.length≤1000):∀(m i:Nat),p.Rays.length-i<m→i≤p.Rays.length →
  ∃e,Bw F p m i=some e∧(e=0↔∀r∈p.Rays.drop i,∀x∈r,vEcho x):=by
 intro m
 induction m with
 | zero=>intro i h;omega
 | succ m ih =>
  intro i h hi
  rw [Bw,Ej]
  by_cases hb:i<p.Rays.length
  ·have hd:=List.drop_eq_getElem_cons hb
   have hl:=hr p.Rays[i] (List.getElem_mem hb)
   rw [B1 (dT (by omega)),Ec i p.Rays[i] rfl (List.getElem?_eq_getElem hb)]
   rcases A1w hF i (Bw F p m) p.Rays[i] hl F 0 (by omega) (by omega) with ⟨h1,h2⟩|⟨e,h1,h2,h3⟩
   ·rw [show (0:Int)=((0:Nat):Int) from rfl,h2,Dp,ckb (by omega)]
    obtain ⟨e,he,hv⟩:=ih (i+1) (by omega) (by omega)
    refine ⟨e,he,hv.trans ?_⟩
    rw [hd]
    constructor
    ·intro h r hr'
     rcases List.mem_cons.1 hr' with rfl|hr'
     ·exact h1
     ·exact h r hr'
    ·exact fun h r hr'=>h r (List.mem_cons_of_mem _ hr')
   ·refine ⟨e,h2,⟨fun h=>absurd h h1,fun h=>absurd (h p.Rays[i] (by rw [hd];exact List.mem_cons_self ..)) h3⟩⟩
  ·rw [B3 (dF (by omega)),Fv]
   exact ⟨0,rfl,by simp [List.drop_of_length_le (show p.Rays.length≤i by omega)]⟩
theorem Yj {F:Nat} (hF:5000≤F) (p:api_Sweep) (hp:p.Rays.length≤1000) (hg:p.Site.Gates≤200):∀(m i:Nat),p.Rays.length-i<m→i≤p.Rays.length→(∀r∈p.Rays.take i,(r.length:Int)=p.Site.Gates) →
  ∃e,Cl F p m i=some e∧(e=0↔(∀r∈p.Rays,(r.length:Int)=p.Site.Gates)∧∀r∈p.Rays,∀x∈r,vEcho x):=by
 intro m
 induction m with
 | zero=>intro i h;omega
 | succ m ih =>
  intro i h hi hpre
  rw [Cl,El]
  by_cases hb:i<p.Rays.length
  ·rw [B1 (dT (by omega)),Ec i p.Rays[i] rfl (List.getElem?_eq_getElem hb)]
   by_cases hl:(p.Rays[i].length:Int)=p.Site.Gates
   ·rw [B3 (by simp [hl]),ckb (by omega)]
    refine ih (i+1) (by omega) (by omega) fun r hr=>?_
    rw [List.take_succ_eq_append_getElem hb] at hr
    rcases List.mem_append.1 hr with hr|hr
    ·exact hpre r hr
    ·simp at hr;rw [hr];exact hl
   ·rw [B1 (by simp [hl])]
    exact ⟨11,rfl,⟨fun h=>by simp at h,fun h=>absurd (h.1 p.Rays[i] (List.getElem_mem hb)) hl⟩⟩
  ·rw [B3 (dF (by omega)),Em]
   rw [List.take_of_length_le (by omega)] at hpre
   obtain ⟨e,he,hv⟩:=A05 hF p hp (fun r hr=>by have:=hpre r hr;omega) F 0 (by omega) (by omega)
   exact ⟨e,he,hv.trans ⟨fun h=>⟨hpre,h⟩,fun h=>h.2⟩⟩
def vSweep (s:api_Sweep):Prop:=Vx s.Site∧inB s.Tilt 0 256∧inB s.Time 0 4294967296∧(s.Rays.length:Int)=4*s.Site.Rose∧(∀r∈s.Rays,(r.length:Int)=s.Site.Gates)∧∀r∈s.Rays,∀x∈r,vEcho x
theorem Z4 {F:Nat} (hF:5000≤F) (p:api_Sweep):∃e,Bc F p=some e∧(e=0↔vSweep p):=by
 obtain ⟨e,he,hv⟩:=A0c F p.Site
 unfold Bc vSweep
 rw [he,sb]
 simp only [L9]
 by_cases h0:e=0
 ·have hs:=hv.1 h0
  obtain ⟨_,_,_,_,⟨r1,r2⟩,⟨g1,g2⟩,_⟩:=hv.1 h0
  rw [B3 (by simp [h0])]
  by_cases h1:inB p.Tilt 0 256
  ·by_cases h2:inB p.Time 0 4294967296
   ·rw [B3 (by simp [h1,h2]),ckb (by omega)]
    by_cases h3:(p.Rays.length:Int)=4*p.Site.Rose
    ·rw [B3 (by simp [h3])]
     obtain ⟨e',he',hv'⟩:=Yj hF p (by omega) g2 F 0 (by omega) (by omega) (fun r hr=>by simp at hr)
     exact ⟨e',he',hv'.trans ⟨fun h=>⟨hs,h1,h2,h3,h.1,h.2⟩,fun h=>⟨h.2.2.2.2.1,h.2.2.2.2.2⟩⟩⟩
    ·rw [B1 (by simp [h3])]
     exact ⟨11,rfl,⟨fun h=>by simp at h,fun h=>absurd h.2.2.2.1 h3⟩⟩
   ·rw [B1 (by simp [h2])]
    exact ⟨3,rfl,⟨fun h=>by simp at h,fun h=>absurd h.2.2.1 h2⟩⟩
  ·rw [B1 (by simp [h1])]
   exact ⟨3,rfl,⟨fun h=>by simp at h,fun h=>absurd h.2.1 h1⟩⟩
 ·rw [B1 (by simp [h0])]
  exact ⟨e,rfl,⟨fun h=>absurd h h0,fun h=>absurd (hv.2 h.1) h0⟩⟩
def A20 (v:api_Span):Prop:=0≤v.Lo∧v.Lo≤v.Hi∧v.Hi≤1073741824
theorem A0j {p:api_Field} (hp:p.Vals.length≤1000000):∀(m i:Nat),p.Vals.length-i<m→i≤p.Vals.length →
  ∃e,Eu p 1073741824 m i=some e∧(e=0↔∀v∈p.Vals.drop i,A20 v):=by
 intro m
 induction m with
 | zero=>intro i h;omega
 | succ m ih =>
  intro i h hi
  rw [Eu,Hu]
  by_cases hb:i<p.Vals.length
  ·have hd:=List.drop_eq_getElem_cons hb
   rw [B1 (dT (by omega)),Ec i p.Vals[i] rfl (List.getElem?_eq_getElem hb)]
   by_cases hv:A20 p.Vals[i]
   ·obtain ⟨a,b,c⟩:=hv
    rw [B3 (by rw [dF (show ¬p.Vals[i].Lo<0 by omega),dF (show ¬p.Vals[i].Hi<p.Vals[i].Lo by omega),dF (show ¬p.Vals[i].Hi>1073741824 by omega)];rfl),ckb (by omega)]
    obtain ⟨e,he,hv⟩:=ih (i+1) (by omega) (by omega)
    refine ⟨e,he,hv.trans ?_⟩
    rw [hd]
    constructor
    ·intro h v hv'
     rcases List.mem_cons.1 hv' with rfl|hv'
     ·exact ⟨a,b,c⟩
     ·exact h v hv'
    ·exact fun h v hv'=>h v (List.mem_cons_of_mem _ hv')
   ·rw [B1 ?_]
    ·exact ⟨3,rfl,⟨fun h=>by simp at h,fun h=>absurd (h p.Vals[i] (by rw [hd];exact List.mem_cons_self ..)) hv⟩⟩
    ·by_cases h1:p.Vals[i].Lo<0
     ·simp [h1]
     ·by_cases h2:p.Vals[i].Hi<p.Vals[i].Lo
      ·simp [h2]
      ·have:p.Vals[i].Hi>1073741824:=by
        rcases Int.lt_or_le 1073741824 p.Vals[i].Hi with h|h
        ·exact h
        ·exact absurd ⟨by omega,by omega,h⟩ hv
       simp [this]
  ·rw [B3 (dF (by omega)),Ku]
   exact ⟨0,rfl,by simp [List.drop_of_length_le (show p.Vals.length≤i by omega)]⟩
def V6 (f:volume_field):Prop:=P0 f.key=true∧inB f.time 0 4294967296∧Up f.Field.Grid∧(f.Field.Vals.length:Int)=f.Field.Grid.Wide*f.Field.Grid.High∧∀v∈f.Field.Vals,A20 v
theorem Vd {g:api_Grid} (h:Up g):0≤g.Wide*g.High∧g.Wide*g.High≤4096:=by
 obtain ⟨_,_,_,⟨a,b⟩,⟨c,d⟩⟩:=h
 have h1:g.Wide*g.High≤64*g.High:=Int.mul_le_mul_of_nonneg_right b (by omega)
 exact ⟨Int.mul_nonneg (by omega) (by omega),by omega⟩
theorem Yh {F:Nat} (hF:5000≤F) (f:volume_field):∃e,Ay F f=some e∧(e=0↔V6 f):=by
 unfold Ay V6 Ee Lv
 rw [Sx,sb]
 cases P0 f.key with
 | false=>exact ⟨10,by rw [B1 (by rfl)],by simp⟩
 | true =>
  rw [B3 (by rfl)]
  by_cases h1:inB f.time 0 4294967296
  ·rw [B3 (by have:=h1.1;have:=h1.2;rw [dF (show ¬f.time<0 by omega),dF (show ¬f.time>4294967296 by omega)];rfl)]
   have hg:=Zr f.Field.Grid
   by_cases h2:Bj f.Field.Grid=0
   ·obtain ⟨c1,c2⟩:=Vd (hg.1 h2)
    rw [B3 (by simp [h2]),ckb (by omega)]
    by_cases h3:(f.Field.Vals.length:Int)=f.Field.Grid.Wide*f.Field.Grid.High
    ·rw [B3 (by simp [h3])]
     obtain ⟨e,he,hv⟩:=A0j (p:=f.Field) (by omega) F 0 (by omega) (by omega)
     rw [show (0:Int)=((0:Nat):Int) from rfl,he]
     exact ⟨e,rfl,hv.trans ⟨fun h=>⟨rfl,h1,hg.1 h2,h3,h⟩,fun h=>h.2.2.2.2⟩⟩
    ·rw [B1 (by simp [h3])]
     exact ⟨11,rfl,⟨fun h=>by simp at h,fun h=>absurd h.2.2.2.1 h3⟩⟩
   ·rw [B1 (by simp [h2])]
    exact ⟨_,rfl,⟨fun h=>absurd h h2,fun h=>absurd (hg.2 h.2.2.1) h2⟩⟩
  ·rw [B1 ?_]
   ·exact ⟨3,rfl,⟨fun h=>by simp at h,fun h=>absurd h.2.1 h1⟩⟩
   ·by_cases h:f.time<0
    ·simp [h]
    ·have:f.time>4294967296:=by
      rcases Int.lt_or_le 4294967296 f.time with h|h
      ·exact h
      ·exact absurd ⟨by omega,h⟩ h1
     simp [this]
def X9 (n:volume_note):Prop:=inB n.time 0 4294967296∧n.text.size≤200∧∀c∈sby n.text,32≤c∧c≤126
theorem Y8 (l:List Int) (hl:l.length≤1000000):∀(m i:Nat),l.length-i<m→i≤l.length →
  ∃e,Bo l m i=some e∧(e=0↔∀c∈l.drop i,32≤c∧c≤126):=by
 intro m
 induction m with
 | zero=>intro i h;omega
 | succ m ih =>
  intro i h hi
  rw [Bo,E9]
  by_cases hb:i<l.length
  ·have hd:=List.drop_eq_getElem_cons hb
   rw [B1 (dT (by omega)),Ec i l[i] rfl (List.getElem?_eq_getElem hb)]
   by_cases hv:32≤l[i]∧l[i]≤126
   ·rw [B3 (by rw [dF (show ¬l[i]<32 by omega),dF (show ¬l[i]>126 by omega)];rfl),ckb (by omega)]
    obtain ⟨e,he,hv'⟩:=ih (i+1) (by omega) (by omega)
    refine ⟨e,he,hv'.trans ?_⟩
    rw [hd]
    constructor
    ·intro h v hv'
     rcases List.mem_cons.1 hv' with rfl|hv'
     ·exact hv
     ·exact h v hv'
    ·exact fun h v hv'=>h v (List.mem_cons_of_mem _ hv')
   ·rw [B1 ?_]
    ·exact ⟨7,rfl,⟨fun h=>by simp at h,fun h=>absurd (h l[i] (by rw [hd];exact List.mem_cons_self ..)) hv⟩⟩
    ·by_cases h1:l[i]<32
     ·simp [h1]
     ·have:l[i]>126:=by omega
      simp [this]
  ·rw [B3 (dF (by omega)),Fj]
   exact ⟨0,rfl,by simp [List.drop_of_length_le (show l.length≤i by omega)]⟩
theorem Zy {F:Nat} (hF:5000≤F) (n:volume_note):∃e,B4 F n=some e∧(e=0↔X9 n):=by
 unfold B4 X9
 by_cases h1:inB n.time 0 4294967296
 ·rw [B3 (by have:=h1.1;have:=h1.2;rw [dF (show ¬n.time<0 by omega),dF (show ¬n.time>4294967296 by omega)];rfl)]
  by_cases h2:n.text.size≤200
  ·have hs:s2b n.text=some (sby n.text):=by unfold s2b;rw [if_pos (by omega)]
   rw [B3 (dF (by omega)),hs,sb]
   obtain ⟨e,he,hv⟩:=Y8 (sby n.text) (by rw [K5];omega) F 0 (by rw [K5];omega) (by omega)
   exact ⟨e,he,hv.trans ⟨fun h=>⟨h1,h2,h⟩,fun h=>h.2.2⟩⟩
  ·rw [B1 (dT (by omega))]
   exact ⟨8,rfl,⟨fun h=>by simp at h,fun h=>absurd h.2.1 h2⟩⟩
 ·rw [B1 ?_]
  ·exact ⟨3,rfl,⟨fun h=>by simp at h,fun h=>absurd h.1 h1⟩⟩
  ·by_cases h:n.time<0
   ·simp [h]
   ·have:n.time>4294967296:=by
     rcases Int.lt_or_le 4294967296 n.time with h|h
     ·exact h
     ·exact absurd ⟨by omega,h⟩ h1
    simp [this]
def vT (t:volume_thing):Prop:=t.cs False (fun s=>vSweep s.Sweep) V6 X9
theorem T3 {F:Nat} (hF:5000≤F) {t:volume_thing} (ht:t≠.nil_):∃e,D5 F t=some e∧(e=0↔vT t):=by
 cases t with
 | nil_=>exact absurd rfl ht
 | ic156 s =>
  obtain ⟨e,he,hv⟩:=Z4 (F:=F) (by omega) s.Sweep
  exact ⟨e,by show Be F s=_;rw [Be,he];rfl,hv⟩
 | ic158 f=>exact Yh hF f
 | ic160 n=>exact Zy (by omega) n
theorem Ko {x lo hi:Int} (h:inB x lo hi) (h0:0≤lo) (h1:hi≤4611686018427387904):okN x:=⟨by have:=h.1;omega,by have:=h.2;omega⟩
theorem Uj {s:ByteArray} (h:P0 s=true):s.size≤12:=by
 unfold P0 at h
 simp only [Bool.and_eq_true,decide_eq_true_eq] at h
 omega
theorem vEcho.ok {x:api_Echo} (h:vEcho x):okE x:=by
 have hz:∀{s:api_Span},z0 s→okS s:=fun {s} h=>⟨by have:=h.1;omega,by have:=h.1;have:=h.2;omega,by have:=h.2;omega⟩
 have hi:∀{s:api_Span} {lo hi:Int},Nk s lo hi→-1000000000000000000≤lo→hi≤1000000000000000000→okS s:=fun {s lo hi} h h1 h2=>⟨by have:=h.1;omega,h.2.1,by have:=h.2.2;omega⟩
 have ht:∀{s:api_Span},Fu s→okS s:=fun {s} h=>⟨by have:=h.1;omega,h.2.2.1,by have:=h.2.1;have:=h.2.2.2;omega⟩
 rcases h with ⟨a,b,c,d,e,f,g,h,i⟩|⟨a,b,c,d,e,f,g,h⟩
 ·exact ⟨⟨by omega,by omega⟩,⟨by have:=b.1;have:=b.2.1;omega,by have:=b.2.2;omega⟩,⟨by omega,by omega⟩,hi b (by decide) (by decide),hz g,hz h,hz d,hz e,hz i⟩
 ·have hh:okS x.Steps.1∧okS x.Steps.2∧okS x.Turn:=by
   rcases a with a|a
   ·obtain ⟨u,v,w⟩:=g a;exact ⟨hz u,hz v,hz w⟩
   ·obtain ⟨u,v,w⟩:=h a;exact ⟨ht u,ht v,ht w⟩
  exact ⟨⟨by omega,by omega⟩,⟨by have:=b.1;have:=b.2.1;omega,by have:=b.2.2;omega⟩,Ko f (by decide) (by decide),hi b (by decide) (by decide),hi d (by decide) (by decide),hi e (by decide) (by decide),hh.1,hh.2.1,hh.2.2⟩
theorem Zp {α:Type} {l:List (List α)} {n:Nat} (h:∀r∈l,r.length=n):l.flatten.length=l.length*n:=by
 induction l with
 | nil=>simp
 | cons r l ih =>
  rw [List.flatten_cons,List.length_append,h r (by simp),ih fun r hr=>h r (by simp [hr]),List.length_cons,Nat.add_mul,Nat.one_mul];omega
theorem vSweep.len {s:api_Sweep} (h:vSweep s):(s.Rays.flatten.length:Int)=4*s.Site.Rose*s.Site.Gates:=by
 obtain ⟨_,_,_,h1,h2,_⟩:=h
 have hg:∀r∈s.Rays,r.length=s.Site.Gates.toNat:=fun r hr=>by have:=h2 r hr;omega
 rw [Zp hg]
 cases hr:s.Rays with
 | nil=>rw [hr] at h1;simp at h1;simp;rw [show s.Site.Rose=0 by omega];simp
 | cons r l =>
  have:=h2 r (by rw [hr];simp)
  rw [←hr,←h1]
  push_cast
  congr 1
  omega
theorem vT.ok {t:volume_thing} (h:vT t):okT t:=by
 cases t with
 | nil_=>exact h
 | ic156 s =>
  have hv:vSweep s.Sweep:=h
  have hlen:=hv.len
  obtain ⟨⟨n,x,y,z,r,g,st,w⟩,ti,tm,h1,h2,h3⟩:=hv
  have hm:4*s.Sweep.Site.Rose*s.Sweep.Site.Gates≤360*s.Sweep.Site.Gates:=Int.mul_le_mul_of_nonneg_right (by have:=r.2;omega) (by have:=g.1;omega)
  refine ⟨⟨by have:=Uj n;omega,⟨by have:=x.1;omega,by have:=x.2;omega⟩,⟨by have:=y.1;omega,by have:=y.2;omega⟩,Ko z (by decide) (by decide),Ko r (by decide) (by decide),Ko g (by decide) (by decide),Ko st (by decide) (by decide),Ko w (by decide) (by decide)⟩,Ko ti (by decide) (by decide),Ko tm (by decide) (by decide),by have:=r.2;omega,by have:=g.2;omega,fun r hr x hx=>(h3 r hr x hx).ok⟩
 | ic158 f =>
  obtain ⟨n,tm,hg,h1,h2⟩:=(show V6 f from h)
  have:=Vd hg
  obtain ⟨x,y,z,r,g⟩:=hg
  exact ⟨by have:=Uj n;omega,Ko tm (by decide) (by decide),⟨by have:=x.1;omega,by have:=x.2;omega⟩,⟨by have:=y.1;omega,by have:=y.2;omega⟩,Ko z (by decide) (by decide),Ko r (by decide) (by decide),Ko g (by decide) (by decide),by omega,fun v hv=>by obtain ⟨a,b,c⟩:=h2 v hv;exact ⟨by omega,b,by omega⟩⟩
 | ic160 n =>
  obtain ⟨tm,h1,h2⟩:=(show X9 n from h)
  exact ⟨Ko tm (by decide) (by decide),by omega⟩
end Go.Proofs.YtifbomimeodibaaGreat
namespace Go.Proofs.YtifbomimeodibaaGreat
open Go Go.RowKit Go.Eng
set_option maxRecDepth 10000
set_option linter.unusedVariables false
set_option linter.unusedSimpArgs false
instance (g:api_Grid):Decidable (Up g):=by unfold Up;infer_instance
noncomputable instance (t:volume_thing):Decidable (vT t):=Classical.propDecidable _
end Go.Proofs.YtifbomimeodibaaGreat
namespace Go.Proofs.YtifbomimeodibaaGreat
open Go Go.RowKit Go.Eng
set_option maxRecDepth 10000
set_option linter.unusedVariables false
set_option linter.unusedSimpArgs false
end Go.Proofs.YtifbomimeodibaaGreat
namespace Go.Proofs.YtifbomimeodibaaGreat
open Go Go.RowKit Go.Eng
set_option maxRecDepth 10000
set_option linter.unusedVariables false
set_option linter.unusedSimpArgs false
def A2e (ps:List (List Int)):List Int:=ps.flatMap fun p=>0::p
def Jd (t:volume_thing):volume_Item:=t.cs default Ap Ao At
theorem vT.nn {t:volume_thing} (h:vT t):t≠.nil_:=fun e=>by rw [e] at h;exact h
def RVF1:List Int:=[82,86,70,49]
end Go.Proofs.YtifbomimeodibaaGreat
namespace Go.Proofs.YtifbomimeodibaaGreat
open Go Go.RowKit Go.Eng
set_option maxRecDepth 10000
set_option linter.unusedVariables false
set_option linter.unusedSimpArgs false
def okI (t:volume_thing):Prop:=vT t∧tzT t∧(Cv t).length≤6000
theorem okI.of {t:volume_thing} (h1:vT t) (h2:tzT t) (h3:cnt t≤32):okI t:=⟨h1,h2,by have:=Ps h1.ok;omega⟩
end Go.Proofs.YtifbomimeodibaaGreat
namespace Go.Proofs.YtifbomimeodibaaGreat
open Go Go.RowKit Go.Eng
set_option maxRecDepth 10000
set_option linter.unusedVariables false
set_option linter.unusedSimpArgs false
theorem Pn (s:ByteArray):sEq s s=true:=Q7.2 rfl
theorem R8 {x:Int}:(x != x)=false:=by simp
theorem X4 {t:volume_thing} (h:t≠.nil_):Ck (Jd t)=t:=by
 cases t with
 | nil_=>exact absurd rfl h
 | ic156 s =>
  show Ck (Ap s)=_
  simp [Ck,Ap,Pn]
 | ic158 f =>
  show Ck (Ao f)=_
  simp [Ck,Ao,Pn]
  rfl
 | ic160 n =>
  show Ck (At n)=_
  simp [Ck,At,Pn]
  rfl
theorem W3 {F:Nat} (hF:5000≤F) {t:volume_thing} (h:vT t):Dc F (Jd t)=some (t,0):=by
 obtain ⟨e,he,hv⟩:=T3 hF h.nn
 have h0:e=0:=hv.2 h
 subst h0
 rw [Dc,X4 h.nn]
 cases t with
 | nil_=>exact h.elim
 | ic156 s=>rw [show D5 F (.ic156 s)=Be F s from rfl] at he;show (Be F s).bind _=_;rw [he];rfl
 | ic158 s=>rw [show D5 F (.ic158 s)=Ay F s from rfl] at he;show (Ay F s).bind _=_;rw [he];rfl
 | ic160 s=>rw [show D5 F (.ic160 s)=B4 F s from rfl] at he;show (B4 F s).bind _=_;rw [he];rfl
theorem A01 {F:Nat} (hF:200000≤F) {t:volume_thing} (h:vT t) (hl:(Cv t).length+100≤F):D9 F (Jd t)=some (Ng t,0):=by
 rw [D9,W3 (by omega) h,sb,B3 (by rfl)]
 show (Hq F t).bind _=_
 rw [Y3 hF h.ok hl]
 rfl
def A2b (ts:List volume_thing):List Int:=A2e (ts.map Pj)
theorem Wh {t:volume_thing} (h:vT t):(Pj t).length≤(Cv t).length+14:=by
 have hl:=Nw h.ok
 have h9:=Cf (x:=((Cv t).length:Int)) ⟨by omega,by omega⟩
 rw [Int.toNat_natCast] at h9
 unfold Pj N3
 simp only [List.length_append,Rn]
 omega
end Go.Proofs.YtifbomimeodibaaGreat
namespace Go.Proofs.YtifbomimeodibaaGreat
open Go Go.RowKit Go.Eng
set_option maxRecDepth 10000
set_option linter.unusedVariables false
set_option linter.unusedSimpArgs false
theorem Zn {α:Type} [DecidableEq α] {a b:List α} {i:Nat} (ha:i<a.length) (hb:i<b.length):decide (a.drop i=b.drop i)=(decide (a[i]=b[i])&&decide (a.drop (i+1)=b.drop (i+1))):=by
 rw [List.drop_eq_getElem_cons ha,List.drop_eq_getElem_cons hb,Bool.eq_iff_iff,decide_eq_true_eq,List.cons.injEq,Bool.and_eq_true,decide_eq_true_eq,decide_eq_true_eq]
theorem Yb {α:Type} [DecidableEq α] {a b:List α} {i:Nat} (ha:a.length≤i) (hb:b.length≤i):decide (a.drop i=b.drop i)=true:=by
 rw [List.drop_of_length_le ha,List.drop_of_length_le hb];simp
theorem W2 (a b:List Int) (hl:a.length=b.length) (h9:a.length≤1000000000):∀(m i:Nat),a.length-i<m→i≤a.length→G1 a b m i=some (decide (a.drop i=b.drop i)):=by
 intro m
 induction m with
 | zero=>intro i h;omega
 | succ m ih =>
  intro i h hi
  rw [G1,Js]
  by_cases hb:i<a.length
  ·rw [B1 (dT (by omega)),Ec i a[i] rfl (List.getElem?_eq_getElem hb),Ec i b[i] rfl (List.getElem?_eq_getElem (by omega)),Zn hb (by omega)]
   by_cases he:a[i]=b[i]
   ·rw [B3 (by simp [he]),ckb (by omega)]
    have:=ih (i+1) (by omega) (by omega)
    rw [show ((i:Int)+1)=((i+1:Nat):Int) by omega,this,dT he,Bool.true_and]
   ·rw [B1 (by simp [he]),dF he,Bool.false_and]
  ·rw [B3 (dF (by omega)),Jt,Yb (by omega) (by omega)]
theorem V9 {F:Nat} {a b:List Int} (hF:a.length<F) (h9:a.length≤1000000000):G9 F a b=some (decide (a=b)):=by
 rw [G9]
 by_cases h:a.length=b.length
 ·rw [B3 (by simp [h]),show (0:Int)=((0:Nat):Int) from rfl,W2 a b h h9 F 0 (by omega) (by omega),List.drop_zero,List.drop_zero]
 ·rw [B1 (by simp;omega),dF (fun e=>h (by rw [e]))]
theorem A28 (a b:ByteArray):(a==b)=decide (a=b):=by
 rw [Bool.eq_iff_iff,decide_eq_true_eq]
 cases a with
 | mk x =>
  cases b with
  | mk y =>
   rw [ByteArray.mk.injEq,←beq_iff_eq (a:=x)]
   rfl
theorem A0b (a b:api_Site):((a.Name==b.Name)&&(((a.X:Int)==b.X)&&(((a.Y:Int)==b.Y)&&(((a.Z:Int)==b.Z)&&(((a.Rose:Int)==b.Rose)&&(((a.Gates:Int)==b.Gates)&&(((a.Step:Int)==b.Step)&&(((a.Width:Int)==b.Width)&&true))))))))=decide (a=b):=by
 rw [A28]
 cases a;cases b
 rw [Bool.eq_iff_iff]
 simp [and_assoc]
theorem Zq (a b:api_Grid):(((a.X:Int)==b.X)&&(((a.Y:Int)==b.Y)&&(((a.Size:Int)==b.Size)&&(((a.Wide:Int)==b.Wide)&&(((a.High:Int)==b.High)&&true)))))=decide (a=b):=by
 cases a;cases b
 rw [Bool.eq_iff_iff]
 simp [and_assoc]
end Go.Proofs.YtifbomimeodibaaGreat
namespace Go.Proofs.YtifbomimeodibaaGreat
open Go Go.RowKit Go.Eng
set_option maxRecDepth 10000
set_option linter.unusedVariables false
set_option linter.unusedSimpArgs false
def off (ts:List volume_thing) (i:Nat):Nat:=4+(A2b (ts.take i)).length
end Go.Proofs.YtifbomimeodibaaGreat
namespace Go.Proofs.YtifbomimeodibaaGreat
open Go Go.RowKit Go.Eng
set_option maxRecDepth 10000
set_option linter.unusedVariables false
set_option linter.unusedSimpArgs false
end Go.Proofs.YtifbomimeodibaaGreat
namespace Go.Proofs.YtifbomimeodibaaGreat
open Go Go.RowKit Go.Eng
set_option maxRecDepth 10000
set_option linter.unusedVariables false
set_option linter.unusedSimpArgs false
end Go.Proofs.YtifbomimeodibaaGreat
namespace Go.Proofs.YtifbomimeodibaaGreat
open Go Go.RowKit Go.Eng
set_option maxRecDepth 10000
set_option linter.unusedVariables false
set_option linter.unusedSimpArgs false
end Go.Proofs.YtifbomimeodibaaGreat
namespace Go.Proofs.YtifbomimeodibaaGreat
open Go Go.RowKit Go.Eng
set_option maxRecDepth 10000
set_option linter.unusedVariables false
set_option linter.unusedSimpArgs false
end Go.Proofs.YtifbomimeodibaaGreat
namespace Go.Proofs.YtifbomimeodibaaGreat
open Go Go.RowKit Go.Eng
set_option maxRecDepth 10000
set_option linter.unusedVariables false
set_option linter.unusedSimpArgs false
theorem Zm (n b0 b1 b2 b3:Nat) (h:128≤b0):128≤(Lib.decodeN n b0 b1 b2 b3).1:=by
 unfold Lib.decodeN
 repeat' split
 all_goals first|(simp only;omega)|omega
theorem A17 {s:ByteArray} {i:Nat} (h:(s.get! i).toNat<128):Utf8.decode s i=((s.get! i).toNat,1):=by
 rw [Lib.decode_at];unfold Lib.decodeN;rw [if_pos h]
theorem A16 {s:ByteArray} {i:Nat} (h:128≤(s.get! i).toNat):128≤(Utf8.decode s i).1:=by
 rw [Lib.decode_at];exact Zm _ _ _ _ _ h
theorem Yn {x:Nat} (h:128≤x):nmC x=true:=by
 unfold nmC
 have h1:decide (x≤122)=false:=by simp;omega
 have h2:decide (x≤57)=false:=by simp;omega
 have h3:(x==95)=false:=by simp;omega
 rw [h1,h2,h3];simp
theorem Ss (s:ByteArray):∀(f pos:Nat),s.size≤pos+f→(0≤Lib.idxFuncFrom nmC true s f pos↔∃j,pos≤j∧j<s.size∧nmC (s.get! j).toNat=true):=by
 intro f
 induction f with
 | zero =>
  intro pos h
  rw [Lib.idxFuncFrom_end nmC true s 0 pos (by omega)]
  constructor
  ·intro h;omega
  ·rintro ⟨j,h1,h2,_⟩;omega
 | succ f ih =>
  intro pos h
  rw [Lib.idxFuncFrom]
  by_cases hp:pos<s.size
  ·rw [if_pos hp]
   by_cases hb:(s.get! pos).toNat<128
   ·rw [A17 hb]
    simp only
    by_cases hn:nmC (s.get! pos).toNat=true
    ·rw [if_pos hn]
     exact ⟨fun _=>⟨pos,Nat.le_refl _,hp,hn⟩,fun _=>by omega⟩
    ·rw [if_neg hn,ih (pos+1) (by omega)]
     constructor
     ·rintro ⟨j,h1,h2,h3⟩;exact ⟨j,by omega,h2,h3⟩
     ·rintro ⟨j,h1,h2,h3⟩
      refine ⟨j,?_,h2,h3⟩
      rcases Nat.lt_or_ge pos j with h4|h4
      ·omega
      ·obtain rfl:j=pos:=by omega
       exact absurd h3 hn
   ·rw [if_pos (Yn (A16 (by omega)))]
    exact ⟨fun _=>⟨pos,Nat.le_refl _,hp,Yn (by omega)⟩,fun _=>by omega⟩
  ·rw [if_neg hp]
   constructor
   ·intro h;omega
   ·rintro ⟨j,h1,h2,_⟩;omega
theorem Wz {s:ByteArray} {i:Nat} (h:i<s.size):s[i]=s.get! i:=by
 cases s with
 | mk d =>
  show d[i]=d[i]!
  rw [getElem!_pos d i h]
theorem Uw {s:ByteArray} {i:Nat} (h:i<s.size):P3 s i=some (((s.get! i).toNat:Nat):Int):=by
 unfold P3
 rw [if_pos (by omega),Int.toNat_natCast,getElem!_pos s i h,Wz h]
theorem Xr (s:ByteArray):∀(m i f:Nat),s.size-i<m→i≤s.size→s.size≤1000000→s.size≤i+f→Gu s m i=some (!decide (0≤Lib.idxFuncFrom nmC true s f i)):=by
 intro m
 induction m with
 | zero=>intro i f h;omega
 | succ m ih =>
  intro i f h hi h9 hf
  rw [Gu,Ky]
  by_cases hb:i<s.size
  ·rw [B1 (dT (by omega)),Uw hb,sb]
   have hx:=UInt8.toNat_lt (s.get! i)
   generalize hu:(s.get! i).toNat=u at *
   have e:(bif (bif (bif (decide (((u:Nat):Int)<97)) then true else (decide (((u:Nat):Int)>122))) then (bif (decide (((u:Nat):Int)<48)) then true else (decide (((u:Nat):Int)>57))) else false) then (((u:Nat):Int) != 95) else false)=nmC u:=by
    unfold nmC
    rw [Bool.eq_iff_iff]
    simp only [cond_eq_ite,Bool.if_true_left,Bool.and_eq_true,Bool.or_eq_true,decide_eq_true_eq,bne_iff_ne,ne_eq,Bool.not_eq_true',Bool.or_eq_false_iff,Bool.and_eq_false_iff,decide_eq_false_iff_not,beq_eq_false_iff_ne,Bool.if_false_right]
    omega
   rw [e]
   by_cases hn:nmC u=true
   ·rw [B1 hn,dT ((Ss s f i hf).2 ⟨i,Nat.le_refl _,hb,by rw [hu];exact hn⟩)];rfl
   ·rw [B3 (by simpa using hn),ckb (by omega),show ((i:Int)+1)=((i+1:Nat):Int) by omega,ih (i+1) f (by omega) (by omega) h9 (by omega)]
    rw [decide_eq_decide.2]
    rw [Ss s f (i+1) (by omega),Ss s f i hf]
    constructor
    ·rintro ⟨j,h1,h2,h3⟩;exact ⟨j,by omega,h2,h3⟩
    ·rintro ⟨j,h1,h2,h3⟩
     refine ⟨j,?_,h2,h3⟩
     rcases Nat.lt_or_ge i j with h4|h4
     ·omega
     ·obtain rfl:j=i:=by omega
      rw [hu] at h3
      exact absurd h3 hn
  ·rw [B3 (dF (by omega)),Kz,dF]
   ·rfl
   ·rw [Ss s f i hf]
    rintro ⟨j,h1,h2,_⟩;omega
theorem A07 (s:ByteArray):sEq s ⟨#[]⟩=decide (s.size=0):=by
 unfold sEq
 cases s with
 | mk d =>
  show decide (d.toList=[])=decide (d.size=0)
  rw [decide_eq_decide]
  constructor
  ·intro h;have:=congrArg List.length h;simpa using this
  ·intro h;rw [Array.eq_empty_of_size_eq_zero h]
theorem Vg {F:Nat} (hF:100≤F) (s:ByteArray):H8 F s=some (P0 s):=by
 rw [H8]
 unfold P0 Yo
 rw [A07]
 by_cases h1:s.size=0∨s.size>12
 ·have hc:(bif (decide (((s.size:Nat):Int)<1)) then true else (decide (((s.size:Nat):Int)>12)))=true:=by
   rcases h1 with h|h
   ·rw [dT (by omega)];rfl
   ·rw [dT (show ((s.size:Nat):Int)>12 by omega)];cases decide (((s.size:Nat):Int)<1)<;>rfl
  rw [hc,gdF (by rfl),sb,B1 (c:=true) rfl,gdF (by rfl),sb]
  simp only [cond_true]
  rcases h1 with h|h
  ·rw [dT h];rfl
  ·rw [dF (show ¬((s.size:Nat):Int)≤12 by omega)];cases decide (s.size=0)<;>rfl
 ·have hc:(bif (decide (((s.size:Nat):Int)<1)) then true else (decide (((s.size:Nat):Int)>12)))=false:=by
   rw [dF (by omega),dF (by omega)];rfl
  have hg:P3 s 0=some (((s.get! 0).toNat:Nat):Int):=Uw (i:=0) (by omega)
  rw [hc,gdT (by rfl),hg,sb,B3 (c:=false) rfl,dF (show ¬s.size=0 by omega),dT (show ((s.size:Nat):Int)≤12 by omega)]
  rw [Option.getD_some]
  generalize hu:(((s.get! 0).toNat:Nat):Int)=u
  by_cases h2:u<97
  ·rw [dT h2,gdF (by rfl),sb,B1 (c:=true) rfl,B1 (c:=true) rfl,dF (show ¬u≥97 by omega)];rfl
  ·rw [dF h2,gdT (by rfl),sb,B3 (c:=false) rfl,dT (show u≥97 by omega)]
   by_cases h3:u>122
   ·rw [dT h3,B1 (c:=true) rfl,dF (show ¬u≤122 by omega)];rfl
   ·rw [dF h3,B3 (c:=false) rfl,dT (show u≤122 by omega),show (0:Int)=((0:Nat):Int) from rfl,Xr s F 0 s.size (by omega) (by omega) (by omega) (by omega)]
    rfl
theorem A0q (x lo hi:Int):Ad x lo hi=Aa x lo hi:=rfl
theorem A11 (x lo hi:Int):Ad x lo hi=As x lo hi:=rfl
theorem Z3 {F:Nat} (hF:100≤F) (s:api_Site):Gl F s=E7 F s:=by
 rw [Gl,E7,Vg hF,Sx,sb,sb]
 simp only [A0q,Db,Cz]
 cases P0 s.Name<;>cases Aa s.X (-1048576) 1048576<;>cases Aa s.Y (-1048576) 1048576<;>cases Aa s.Z 0 20000<;>cases Aa s.Rose 1 90<;>cases Aa s.Gates 1 200<;>cases Aa s.Step 50 2000<;>cases Aa s.Width 0 8<;>rfl
theorem Yl (g:api_Grid):D2 g=Bj g:=by
 rw [D2,Bj]
 simp only [A0q,Cm]
 cases Aa g.X (-1048576) 1048576<;>cases Aa g.Y (-1048576) 1048576<;>cases Aa g.Size 1 10000<;>cases Aa g.Wide 1 64<;>cases Aa g.High 1 64<;>rfl
theorem Zb (s:api_Span) (lo hi:Int):C1 s lo hi=Ac s lo hi:=by
 unfold C1 Ac
 have e:decide (s.Lo≥lo)=decide (lo≤s.Lo):=rfl
 rw [e]
 cases decide (s.Lo≤s.Hi)<;>cases decide (lo≤s.Lo)<;>rfl
theorem Z6 (F:Nat) (s:api_Span):H9 F s=some (decide (Fu s)):=by
 unfold H9
 have hw:Ad s.Lo (-32768) 32767=decide (inB s.Lo (-32768) 32767):=L9
 rw [hw]
 by_cases h:inB s.Lo (-32768) 32767
 ·have h1:=h.1;have h2:=h.2
  rw [dT h,gdT (by rfl),ckb (by omega),gdT (by rfl),ckb (by omega),B1 (c:=true) rfl]
  have:Ad s.Hi s.Lo (s.Lo+65536-1)=decide (inB s.Hi s.Lo (s.Lo+65536-1)):=L9
  rw [this]
  congr 1
  rw [decide_eq_decide]
  unfold inB Fu at *
  omega
 ·rw [dF h,gdF (by rfl),sb,gdF (by rfl),sb,B3 (c:=false) rfl,dF]
  unfold inB Fu at *
  omega
theorem Yd {F:Nat} (hF:10≤F) (x:api_Echo):Gm F x=Ef F x:=by
 have ht:=Tu hF (api_Span.mk x.Steps.1.Lo x.Steps.1.Hi) (api_Span.mk x.Steps.2.Lo x.Steps.2.Hi) x.Turn
 rw [Gm,Ef]
 simp only [Z6,Zb,A11,C3,Ct,ht]
 have e1:decide (x.Power.Lo<1)=!decide (x.Power.Lo>0):=by
  by_cases h:x.Power.Lo<1
  ·rw [dT h,dF (by omega)];rfl
  ·rw [dF h,dT (by omega)];rfl
 have e2:(x.Power.Lo != 0)=!((0:Int)==0&&x.Power.Lo==0):=by simp [bne]
 rw [e1]
 generalize hA:decide (Fu (api_Span.mk x.Steps.1.Lo x.Steps.1.Hi))=A
 generalize hB:decide (Fu (api_Span.mk x.Steps.2.Lo x.Steps.2.Hi))=B
 generalize hC:decide (Fu x.Turn)=C
 have hABC:decide (Fu (api_Span.mk x.Steps.1.Lo x.Steps.1.Hi)∧Fu (api_Span.mk x.Steps.2.Lo x.Steps.2.Hi)∧Fu x.Turn)=(A&&(B&&C)):=by
  rw [←hA,←hB,←hC,Bool.decide_and,Bool.decide_and]
 rw [hABC]
 by_cases h1:x.Kind=1
 ·have k1:(x.Kind==1)=true:=by simp [h1]
  have k1':(x.Kind != 1)=false:=by simp [h1]
  simp only [k1,k1',cond_true,cond_false,Bool.true_and]
  have e5:((x.Power.Hi:Int)==x.Power.Hi)=true:=by simp
  rw [e5]
  have e4:(x.Power.Lo != 0)=!(x.Power.Lo==0):=rfl
  have e6:(x.Spread != 0)=!(x.Spread==0):=rfl
  rw [e4,e6]
  generalize Ac x.Power 0 1073741824=b0
  generalize (x.Power.Lo==0)=b1
  generalize (x.Steps.1.Lo==0)=b2
  generalize (x.Steps.1.Hi==0)=b3
  generalize (x.Steps.2.Lo==0)=b4
  generalize (x.Steps.2.Hi==0)=b5
  generalize (x.Spread==0)=b6
  generalize (x.Ratio.Lo==0)=b7
  generalize (x.Ratio.Hi==0)=b8
  generalize (x.Match.Lo==0)=b9
  generalize (x.Match.Hi==0)=b10
  generalize (x.Turn.Lo==0)=b11
  generalize (x.Turn.Hi==0)=b12
  cases b0
  ·rfl
  cases b1
  ·rfl
  cases b2
  ·rfl
  cases b3
  ·rfl
  cases b4
  ·rfl
  cases b5
  ·rfl
  cases b6
  ·rfl
  cases b7
  ·rfl
  cases b8
  ·rfl
  cases b9
  ·rfl
  cases b10
  ·rfl
  cases b11
  ·rfl
  cases b12<;>rfl
 ·have k1:(x.Kind==1)=false:=by simp [h1]
  have k1':(x.Kind != 1)=true:=by simp [h1]
  simp only [k1,k1',cond_true,cond_false]
  by_cases h2:x.Kind=2
  ·have k2:(x.Kind==2)=true:=by simp [h2]
   have k2':(x.Kind != 2)=false:=by simp [h2]
   simp only [k2,k2',cond_true,cond_false]
   generalize Ac x.Power 0 1073741824=b0
   generalize decide (x.Power.Lo>0)=b1
   generalize Ac x.Ratio 0 1000000=b2
   generalize Ac x.Match 0 1000=b3
   generalize As x.Spread 0 65535=b4
   generalize (x.Steps.1.Lo==0)=b5
   generalize (x.Steps.1.Hi==0)=b6
   generalize (x.Steps.2.Lo==0)=b7
   generalize (x.Steps.2.Hi==0)=b8
   generalize (x.Turn.Lo==0)=b9
   generalize (x.Turn.Hi==0)=b10
   cases b0
   ·rfl
   cases b1
   ·rfl
   cases b2
   ·rfl
   cases b3
   ·rfl
   cases b4
   ·rfl
   cases b5
   ·rfl
   cases b6
   ·rfl
   cases b7
   ·rfl
   cases b8
   ·rfl
   cases b9
   ·rfl
   cases b10<;>rfl
  ·have k2:(x.Kind==2)=false:=by simp [h2]
   have k2':(x.Kind != 2)=true:=by simp [h2]
   simp only [k2,k2',cond_true,cond_false]
   by_cases h3:x.Kind=3
   ·have k3:(x.Kind==3)=true:=by simp [h3]
    have k3':(x.Kind != 3)=false:=by simp [h3]
    simp only [k3,k3',cond_true,cond_false]
    generalize Ac x.Power 0 1073741824=b0
    generalize decide (x.Power.Lo>0)=b1
    generalize Ac x.Ratio 0 1000000=b2
    generalize Ac x.Match 0 1000=b3
    generalize As x.Spread 0 65535=b4
    cases b0
    ·rfl
    cases b1
    ·rfl
    cases b2
    ·rfl
    cases b3
    ·rfl
    cases b4
    ·rfl
    cases A<;>cases B<;>cases C<;>rfl
   ·have k3:(x.Kind==3)=false:=by simp [h3]
    have k3':(x.Kind != 3)=true:=by simp [h3]
    simp only [k3,k3',cond_true,cond_false]
end Go.Proofs.YtifbomimeodibaaGreat
namespace Go.Proofs.YtifbomimeodibaaGreat
open Go Go.RowKit Go.Eng
set_option maxRecDepth 10000
set_option linter.unusedVariables false
set_option linter.unusedSimpArgs false
theorem So {β:Type} {x:Int} {f g:Int→Option β} (h:f x=g x):(ck x).bind f=(ck x).bind g:=by
 unfold ck
 split
 ·exact h
 ·rfl
theorem A04 {F:Nat} (hF:10≤F) (p:api_Sweep) (i:Int) (u:List api_Echo) (hu:Bu p.Rays i=some u) (k k':Int→Option Int) (hk:k (i+1)=k' (i+1)):∀(m:Nat) (j:Int),Dr F p i k m j=Bx F i k' u m j:=by
 intro m
 induction m with
 | zero=>intro j;rfl
 | succ m ih =>
  intro j
  rw [Dr,Fx,Bx,Ek,hu,sb,sb]
  cases decide (j<((u.length:Nat):Int)) with
  | true =>
   simp only [cond_true]
   congr 1;funext x
   rw [Yd hF]
   congr 1;funext y
   cases (y != 0) with
   | true=>rfl
   | false=>simp only [cond_false];congr 1;funext z;exact ih z
  | false =>
   simp only [cond_false,G0,Dp]
   exact So hk
theorem Z0 {F:Nat} (hF:10≤F) (p:api_Sweep):∀(m:Nat) (i:Int),0≤i→Dq F p m i=Bw F p m i:=by
 intro m
 induction m with
 | zero=>intro i _;rfl
 | succ m ih =>
  intro i h0
  rw [Dq,Fw,Bw,Ej]
  by_cases hb:i<((p.Rays.length:Nat):Int)
  ·have hu:Bu p.Rays i=some (p.Rays[i.toNat]'(by omega)):=by
    unfold Bu
    rw [if_pos h0,List.getElem?_eq_getElem (by omega)]
   rw [B1 (dT hb),B1 (dT hb),hu,sb]
   exact A04 hF p i _ hu _ _ (ih (i+1) (by omega)) F 0
  ·rw [B3 (dF hb),B3 (dF hb)];rfl
theorem Xj {F:Nat} (hF:10≤F) (p:api_Sweep):∀(m:Nat) (i:Int),Dt F p m i=Cl F p m i:=by
 intro m
 induction m with
 | zero=>intro i;rfl
 | succ m ih =>
  intro i
  rw [Dt,Fy,Cl,El]
  cases decide (i<((p.Rays.length:Nat):Int)) with
  | true =>
   simp only [cond_true]
   congr 1;funext u
   cases (((u.length:Nat):Int) != p.Site.Gates) with
   | true=>rfl
   | false=>simp only [cond_false];exact So (ih (i+1))
  | false =>
   simp only [cond_false,Fz,Em]
   exact Z0 hF p F 0 (by decide)
theorem Xx {F:Nat} (hF:100≤F) (p:api_Sweep):D8 F p=Bc F p:=by
 rw [D8,Bc,Z3 hF]
 congr 1;funext y
 rw [Xj (by omega)]
 rfl
theorem Zd (p:api_Field) (hi:Int):∀(m:Nat) (i:Int),Gv p hi m i=Eu p hi m i:=by
 intro m
 induction m with
 | zero=>intro i;rfl
 | succ m ih =>
  intro i
  rw [Gv,L0,Eu,Hu]
  cases decide (i<((p.Vals.length:Nat):Int)) with
  | true =>
   simp only [cond_true]
   congr 1;funext u
   have e:(!(C1 u 0 hi))=(bif (bif (decide (u.Lo<0)) then true else (decide (u.Hi<u.Lo))) then true else (decide (u.Hi>hi))):=by
    unfold C1
    rw [Bool.eq_iff_iff]
    simp only [cond_eq_ite,Bool.if_true_left,Bool.and_eq_true,Bool.or_eq_true,decide_eq_true_eq,Bool.not_eq_true',Bool.if_false_right,Bool.and_eq_false_iff,decide_eq_false_iff_not]
    omega
   rw [e]
   cases (bif (bif (decide (u.Lo<0)) then true else (decide (u.Hi<u.Lo))) then true else (decide (u.Hi>hi))) with
   | true=>rfl
   | false=>simp only [cond_false];exact So (ih (i+1))
  | false=>rfl
theorem Xf (F:Nat) (p:api_Field):Dy F p=Ee F p:=by
 rw [Dy,Ee,Ns,Lv,Yl,Zd]
def toR (x:volume_Item):ref12_Item:=⟨x.Kind,x.Name,x.Time,x.Sweep,x.Field,x.Text⟩
theorem A15 {s:ByteArray} {i:Nat} (h:i<s.size):s.data.toList[i]? = some (s[i]):=by
 cases s with
 | mk d =>
  show d.toList[i]? = some d[i]
  rw [Array.getElem?_toList,Array.getElem?_eq_getElem h]
theorem Y7 (x:ref12_Item):∀(m i:Nat),E8 x m i=Bo (sby x.Text) m i:=by
 intro m
 induction m with
 | zero=>intro i;rfl
 | succ m ih =>
  intro i
  rw [E8,K0,Bo,E9,K5]
  by_cases hb:i<x.Text.size
  ·rw [B1 (dT (by omega)),B1 (dT (by omega)),Uw hb,sb]
   have hg:Bu (sby x.Text) (i:Int)=some (((x.Text.get! i).toNat:Nat):Int):=by
    unfold Bu sby
    rw [if_pos (by omega),Int.toNat_natCast,List.getElem?_map]
    rw [A15 hb,Wz hb];rfl
   rw [hg,sb]
   generalize (((x.Text.get! i).toNat:Nat):Int)=u
   have hk:=ih (i+1)
   rw [show (((i+1:Nat)):Int)=(i:Int)+1 by omega] at hk
   by_cases h1:u<32
   ·rw [dT h1,gdF (by rfl),sb,B1 (by rfl),B1 (by rfl)]
   ·rw [dF h1,gdT (by rfl),sb]
    by_cases h2:u>126
    ·rw [dT h2,B1 (by rfl),B1 (by rfl)]
    ·rw [dF h2,B3 (by rfl),B3 (by rfl)]
     exact So hk
  ·rw [B3 (dF (by omega)),B3 (dF (by omega))];rfl
theorem W0 {α:Type} (o:Option α):(o.bind fun y=>some y)=o:=by cases o<;>rfl
def Mr (F:Nat) (t:volume_thing):Option Int:=(volume_thing.cs t (some (volume_thing.nil_,(2:Int))) (fun z15=>(Be F z15).bind fun y22=>some ((volume_thing.ic156 z15),y22)) (fun z15=>(Ay F z15).bind fun y28=>some ((volume_thing.ic158 z15),y28)) (fun z15=>(B4 F z15).bind fun y31=>some ((volume_thing.ic160 z15),y31))).bind fun y10=>some y10.2
theorem W8 (F:Nat) (s:volume_sweep):Mr F (.ic156 s)=Bc F s.Sweep:=by
 show ((((Bc F s.Sweep).bind fun y6=>some y6)).bind fun y22=>some ((volume_thing.ic156 s),y22)).bind (fun y10=>some y10.2)=_
 cases Bc F s.Sweep<;>rfl
theorem W9 (F:Nat) (s:volume_field):Mr F (.ic158 s)=Ay F s:=by
 show ((Ay F s).bind fun y22=>some ((volume_thing.ic158 s),y22)).bind (fun y10=>some y10.2)=_
 cases Ay F s<;>rfl
theorem Wa (F:Nat) (s:volume_note):Mr F (.ic160 s)=B4 F s:=by
 show ((B4 F s).bind fun y22=>some ((volume_thing.ic160 s),y22)).bind (fun y10=>some y10.2)=_
 cases B4 F s<;>rfl
theorem A0w (x:Int):(!(Ad x 0 4294967296))=(bif (decide (x<0)) then true else (decide (x>4294967296))):=by
 unfold Ad
 rw [Bool.eq_iff_iff]
 simp only [cond_eq_ite,Bool.if_true_left,Bool.and_eq_true,Bool.or_eq_true,decide_eq_true_eq,Bool.not_eq_true',Bool.if_false_right,Bool.and_eq_false_iff,decide_eq_false_iff_not]
 omega
theorem Rr {F:Nat} (hF:100≤F) (x:volume_Item):Ev F (toR x)=Mr F (Ck x):=by
 rw [Ev,Ck]
 show (bif (bif (bif (x.Kind != 1) then (x.Kind != 2) else false) then (x.Kind != 3) else false) then _ else _)=_
 have hs:Bp x.Sweep=(bif (bif (bif ((x.Sweep.Site.Name==ByteArray.empty)&&(((x.Sweep.Site.X:Int)==0)&&(((x.Sweep.Site.Y:Int)==0)&&(((x.Sweep.Site.Z:Int)==0)&&(((x.Sweep.Site.Rose:Int)==0)&&(((x.Sweep.Site.Gates:Int)==0)&&(((x.Sweep.Site.Step:Int)==0)&&(((x.Sweep.Site.Width:Int)==0)&&true)))))))) then (x.Sweep.Tilt==0) else false) then (x.Sweep.Time==0) else false) then (((x.Sweep.Rays.length:Nat):Int)==0) else false):=rfl
 have hf:Cj x.Field=(bif (((x.Field.Grid.X:Int)==0)&&(((x.Field.Grid.Y:Int)==0)&&(((x.Field.Grid.Size:Int)==0)&&(((x.Field.Grid.Wide:Int)==0)&&(((x.Field.Grid.High:Int)==0)&&true))))) then (((x.Field.Vals.length:Nat):Int)==0) else false):=rfl
 have e0:∀s:ByteArray,sEq s ByteArray.empty=sEq s ⟨#[]⟩:=fun _=>rfl
 by_cases h1:x.Kind=1
 ·have k1:(x.Kind==1)=true:=by simp [h1]
  have k1':(x.Kind != 1)=false:=by simp [h1]
  have k2':(x.Kind != 2)=true:=by simp [h1]
  have k3':(x.Kind != 3)=true:=by simp [h1]
  show (bif (bif (bif (x.Kind != 1) then (x.Kind != 2) else false) then (x.Kind != 3) else false) then (some 2) else (bif (bif (bif (bif (bif (x.Kind != 1) then (!(Bp x.Sweep)) else false) then true else (bif (x.Kind != 2) then (bif (!(Cj x.Field)) then true else (!(sEq x.Name (⟨#[]⟩:ByteArray)))) else false)) then true else (bif (x.Kind != 3) then (!(sEq x.Text (⟨#[]⟩:ByteArray))) else false)) then true else (bif (x.Kind==1) then (x.Time != 0) else false)) then (some 2) else (bif (x.Kind==1) then ((D8 F x.Sweep).bind fun y9=>some y9) else _)))=_
  rw [k1,k1',k2',k3']
  simp only [cond_true,cond_false]
  rw [hf]
  show _=Mr F (bif (bif (bif (bif (bif (!(sEq x.Name ⟨#[]⟩)) then true else (x.Time != 0)) then true else (!(sEq x.Text ⟨#[]⟩))) then true else false) then true else (!(bif (((x.Field.Grid.X:Int)==0)&&(((x.Field.Grid.Y:Int)==0)&&(((x.Field.Grid.Size:Int)==0)&&(((x.Field.Grid.Wide:Int)==0)&&(((x.Field.Grid.High:Int)==0)&&true))))) then (((x.Field.Vals.length:Nat):Int)==0) else false))) then (volume_thing.nil_) else (volume_thing.ic156 (volume_sweep.mk x.Sweep)))
  generalize (bif (((x.Field.Grid.X:Int)==0)&&(((x.Field.Grid.Y:Int)==0)&&(((x.Field.Grid.Size:Int)==0)&&(((x.Field.Grid.Wide:Int)==0)&&(((x.Field.Grid.High:Int)==0)&&true))))) then (((x.Field.Vals.length:Nat):Int)==0) else false)=a
  generalize sEq x.Name ⟨#[]⟩=b
  generalize sEq x.Text ⟨#[]⟩=c
  generalize (x.Time != 0)=d
  have hgood:((Bc F x.Sweep).bind fun y9=>some y9)=Mr F (volume_thing.ic156 (volume_sweep.mk x.Sweep)):=by
   rw [W8,W0]
  rw [Xx hF]
  cases a<;>cases b<;>cases c<;>cases d<;>first|exact hgood|rfl
 ·by_cases h2:x.Kind=2
  ·have k1:(x.Kind==1)=false:=by simp [h1]
   have k1':(x.Kind != 1)=true:=by simp [h1]
   have k2:(x.Kind==2)=true:=by simp [h2]
   have k2':(x.Kind != 2)=false:=by simp [h2]
   have k3':(x.Kind != 3)=true:=by simp [h2]
   show (bif (bif (bif (x.Kind != 1) then (x.Kind != 2) else false) then (x.Kind != 3) else false) then (some 2) else (bif (bif (bif (bif (bif (x.Kind != 1) then (!(Bp x.Sweep)) else false) then true else (bif (x.Kind != 2) then (bif (!(Cj x.Field)) then true else (!(sEq x.Name (⟨#[]⟩:ByteArray)))) else false)) then true else (bif (x.Kind != 3) then (!(sEq x.Text (⟨#[]⟩:ByteArray))) else false)) then true else (bif (x.Kind==1) then (x.Time != 0) else false)) then (some 2) else (bif (x.Kind==1) then ((D8 F x.Sweep).bind fun y9=>some y9) else ((gd (((x.Kind==2)==true&&true)) (H8 F x.Name) default).bind fun y10 =>
    bif (bif (x.Kind==2) then (!y10) else false) then (some 10) else (bif (!(Ad x.Time 0 4294967296)) then (some 3) else (bif (x.Kind==2) then ((Dy F x.Field).bind fun y11=>some y11) else _))))))=_
   rw [k1,k1',k2,k2',k3']
   simp only [cond_true,cond_false]
   rw [hs,gdT (by rfl),Vg hF,sb,Xf]
   show _=Mr F (bif (bif (bif (bif (bif (!(sEq x.Name x.Name)) then true else (x.Time != x.Time)) then true else (!(sEq x.Text ⟨#[]⟩))) then true else (!(bif (bif (bif ((x.Sweep.Site.Name==ByteArray.empty)&&(((x.Sweep.Site.X:Int)==0)&&(((x.Sweep.Site.Y:Int)==0)&&(((x.Sweep.Site.Z:Int)==0)&&(((x.Sweep.Site.Rose:Int)==0)&&(((x.Sweep.Site.Gates:Int)==0)&&(((x.Sweep.Site.Step:Int)==0)&&(((x.Sweep.Site.Width:Int)==0)&&true)))))))) then (x.Sweep.Tilt==0) else false) then (x.Sweep.Time==0) else false) then (((x.Sweep.Rays.length:Nat):Int)==0) else false))) then true else false) then (volume_thing.nil_) else (volume_thing.ic158 (volume_field.mk x.Name x.Time x.Field)))
   rw [Pn,R8]
   generalize (bif (bif (bif ((x.Sweep.Site.Name==ByteArray.empty)&&(((x.Sweep.Site.X:Int)==0)&&(((x.Sweep.Site.Y:Int)==0)&&(((x.Sweep.Site.Z:Int)==0)&&(((x.Sweep.Site.Rose:Int)==0)&&(((x.Sweep.Site.Gates:Int)==0)&&(((x.Sweep.Site.Step:Int)==0)&&(((x.Sweep.Site.Width:Int)==0)&&true)))))))) then (x.Sweep.Tilt==0) else false) then (x.Sweep.Time==0) else false) then (((x.Sweep.Rays.length:Nat):Int)==0) else false)=a
   generalize sEq x.Text ⟨#[]⟩=c
   have hgood:(bif (!P0 x.Name) then (some 10) else (bif (!(Ad x.Time 0 4294967296)) then (some 3) else ((Ee F x.Field).bind fun y11=>some y11)))=Mr F (volume_thing.ic158 (volume_field.mk x.Name x.Time x.Field)):=by
    rw [W9,Ay,Sx,sb,A0w]
   cases a<;>cases c<;>first|exact hgood|rfl
  ·by_cases h3:x.Kind=3
   ·have k1:(x.Kind==1)=false:=by simp [h1]
    have k1':(x.Kind != 1)=true:=by simp [h1]
    have k2:(x.Kind==2)=false:=by simp [h2]
    have k2':(x.Kind != 2)=true:=by simp [h2]
    have k3:(x.Kind==3)=true:=by simp [h3]
    have k3':(x.Kind != 3)=false:=by simp [h3]
    show (bif (bif (bif (x.Kind != 1) then (x.Kind != 2) else false) then (x.Kind != 3) else false) then (some 2) else (bif (bif (bif (bif (bif (x.Kind != 1) then (!(Bp x.Sweep)) else false) then true else (bif (x.Kind != 2) then (bif (!(Cj x.Field)) then true else (!(sEq x.Name (⟨#[]⟩:ByteArray)))) else false)) then true else (bif (x.Kind != 3) then (!(sEq x.Text (⟨#[]⟩:ByteArray))) else false)) then true else (bif (x.Kind==1) then (x.Time != 0) else false)) then (some 2) else (bif (x.Kind==1) then ((D8 F x.Sweep).bind fun y9=>some y9) else ((gd (((x.Kind==2)==true&&true)) (H8 F x.Name) default).bind fun y10 =>
     bif (bif (x.Kind==2) then (!y10) else false) then (some 10) else (bif (!(Ad x.Time 0 4294967296)) then (some 3) else (bif (x.Kind==2) then ((Dy F x.Field).bind fun y11=>some y11) else (bif (decide (((x.Text.size:Nat):Int)>200)) then (some 8) else (E8 (toR x) F 0))))))))=_
    rw [k1,k1',k2,k2',k3,k3']
    simp only [cond_true,cond_false]
    rw [hs,hf,gdF (by rfl),sb]
    show _=Mr F (bif (bif (bif (bif (bif (!(sEq x.Name ⟨#[]⟩)) then true else (x.Time != x.Time)) then true else (!(sEq x.Text x.Text))) then true else (!(bif (bif (bif ((x.Sweep.Site.Name==ByteArray.empty)&&(((x.Sweep.Site.X:Int)==0)&&(((x.Sweep.Site.Y:Int)==0)&&(((x.Sweep.Site.Z:Int)==0)&&(((x.Sweep.Site.Rose:Int)==0)&&(((x.Sweep.Site.Gates:Int)==0)&&(((x.Sweep.Site.Step:Int)==0)&&(((x.Sweep.Site.Width:Int)==0)&&true)))))))) then (x.Sweep.Tilt==0) else false) then (x.Sweep.Time==0) else false) then (((x.Sweep.Rays.length:Nat):Int)==0) else false))) then true else (!(bif (((x.Field.Grid.X:Int)==0)&&(((x.Field.Grid.Y:Int)==0)&&(((x.Field.Grid.Size:Int)==0)&&(((x.Field.Grid.Wide:Int)==0)&&(((x.Field.Grid.High:Int)==0)&&true))))) then (((x.Field.Vals.length:Nat):Int)==0) else false))) then (volume_thing.nil_) else (volume_thing.ic160 (volume_note.mk x.Time x.Text)))
    rw [Pn,R8]
    generalize (bif (bif (bif ((x.Sweep.Site.Name==ByteArray.empty)&&(((x.Sweep.Site.X:Int)==0)&&(((x.Sweep.Site.Y:Int)==0)&&(((x.Sweep.Site.Z:Int)==0)&&(((x.Sweep.Site.Rose:Int)==0)&&(((x.Sweep.Site.Gates:Int)==0)&&(((x.Sweep.Site.Step:Int)==0)&&(((x.Sweep.Site.Width:Int)==0)&&true)))))))) then (x.Sweep.Tilt==0) else false) then (x.Sweep.Time==0) else false) then (((x.Sweep.Rays.length:Nat):Int)==0) else false)=a
    generalize (bif (((x.Field.Grid.X:Int)==0)&&(((x.Field.Grid.Y:Int)==0)&&(((x.Field.Grid.Size:Int)==0)&&(((x.Field.Grid.Wide:Int)==0)&&(((x.Field.Grid.High:Int)==0)&&true))))) then (((x.Field.Vals.length:Nat):Int)==0) else false)=b
    generalize sEq x.Name ⟨#[]⟩=c
    have hgood:(bif (!(Ad x.Time 0 4294967296)) then (some 3) else (bif (decide (((x.Text.size:Nat):Int)>200)) then (some 8) else (E8 (toR x) F 0)))=Mr F (volume_thing.ic160 (volume_note.mk x.Time x.Text)):=by
     rw [Wa,B4,A0w]
     show (bif _ then _ else _)=(bif (bif (decide (x.Time<0)) then true else (decide (x.Time>4294967296))) then _ else _)
     congr 1
     by_cases hz:((x.Text.size:Nat):Int)>200
     ·rw [B1 (dT hz)]
      show _=(bif (decide (((x.Text.size:Nat):Int)>200)) then _ else _)
      rw [B1 (dT hz)]
     ·have h2b:s2b x.Text=some (sby x.Text):=by unfold s2b;rw [if_pos (by omega)]
      rw [B3 (dF hz)]
      show _=(bif (decide (((x.Text.size:Nat):Int)>200)) then _ else (s2b x.Text).bind fun l15=>Bo l15 F 0)
      rw [B3 (dF hz),h2b,sb]
      exact Y7 (toR x) F 0
    cases a<;>cases b<;>cases c<;>first|exact hgood|rfl
   ·have k1:(x.Kind==1)=false:=by simp [h1]
    have k1':(x.Kind != 1)=true:=by simp [h1]
    have k2:(x.Kind==2)=false:=by simp [h2]
    have k2':(x.Kind != 2)=true:=by simp [h2]
    have k3:(x.Kind==3)=false:=by simp [h3]
    have k3':(x.Kind != 3)=true:=by simp [h3]
    rw [k1',k2',k3',k1,k2,k3]
    rfl
end Go.Proofs.YtifbomimeodibaaGreat
namespace Go.Proofs.YtifbomimeodibaaGreat
open Go Go.RowKit Go.Eng
set_option maxRecDepth 10000
set_option linter.unusedVariables false
set_option linter.unusedSimpArgs false
theorem Z8 (F:Nat) (hF:10≤F) (c:Nat) (hc:c<2147483647):Es F c [] 0=some (Xw c):=by
 obtain ⟨G,rfl⟩:∃G,F=G+6:=⟨F-6,by omega⟩
 have step:∀(m i d:Nat) (l:List Int),i<4→l.length=i→d<2147483647→Es (m+1) d l i=Es m (d/127:Nat) (l++[128+((d%127:Nat):Int)]) (i+1:Nat):=by
  intro m i d l hi hl hd
  rw [Es,K4,B1 (dT (by omega)),(tdm d).1,sb]
  have:=Nat.mod_lt d (show 0<127 by decide)
  rw [ckb (by omega),Kf (by simp;omega) (by decide),(tdm d).2,ckb (by omega),ckb (by omega),Sf (by omega)]
  rfl
 rw [show (0:Int)=((0:Nat):Int) from rfl,step (G+5) 0 c _ (by decide) (by simp) hc,step (G+4) 1 _ _ (by decide) (by simp) (by omega),step (G+3) 2 _ _ (by decide) (by simp) (by omega),step (G+2) 3 _ _ (by decide) (by simp) (by omega)]
 rw [Es,K4,B3 (dF (by decide)),Lm]
 have h5:c/127/127/127/127<127:=by omega
 have h6:c/127/127/127/127%127=c/127/127/127/127:=Nat.mod_eq_of_lt h5
 rw [ckb (by omega),Kf (by simp) (by decide),Sf (by omega)]
 unfold Xw
 rw [h6]
 rfl
theorem Z9 (F:Nat) (hF:10≤F) (p:List Int) (hp:By p) (hpl:p.length≤1000000000):∀(m i c:Nat),p.length-i<m→i≤p.length→c<2147483647→Hp F p m c i=some (Xw (A0e c (p.drop i))):=by
 intro m
 induction m with
 | zero=>intro i c h;omega
 | succ m ih =>
  intro i c h hi hc
  rw [Hp,Lk]
  by_cases hb:i<p.length
  ·have hx:=hp p[i] (List.getElem_mem hb)
   rw [B1 (dT (by omega)),ckb (by omega),Ec i p[i] rfl (List.getElem?_eq_getElem hb),ckb (by omega),ckb (by omega)]
   have e:Qc (31*(c:Int)+p[i]) 2147483647=some (((31*c+p[i].toNat)%2147483647:Nat):Int):=by
    have e1:31*(c:Int)+p[i]=((31*c+p[i].toNat:Nat):Int):=by omega
    rw [e1]
    unfold Qc
    rw [if_neg (by decide)]
    congr 1
   rw [e,sb,ckb (by omega)]
   have:=ih (i+1) _ (by omega) (by omega) (Nat.mod_lt (31*c+p[i].toNat) (show 0<2147483647 by decide))
   rw [show ((i:Int)+1)=((i+1:Nat):Int) by omega,this,List.drop_eq_getElem_cons hb]
   rfl
  ·rw [B3 (dF (by omega)),Ll,List.drop_of_length_le (by omega)]
   exact Z8 F hF c hc
theorem A0i {F:Nat} (hF:10≤F) {p:List Int} (hp:By p) (hl:p.length<F) (hl9:p.length≤1000000000):Lt F p=some (A0d p):=by
 rw [Lt]
 exact Z9 F hF p hp hl9 F 0 1 (by omega) (by omega) (by decide)
def zR:ref12_Item:=⟨0,ByteArray.empty,0,⟨⟨ByteArray.empty,0,0,0,0,0,0,0⟩,0,0,[]⟩,⟨⟨0,0,0,0,0⟩,[]⟩,ByteArray.empty⟩
noncomputable def fin:Option (volume_thing×List Int)→ref12_Item×Bool
 | none=>(zR,false)
 | some (t,r)=>if vT t∧r=[] then (toR (Jd t),true) else (zR,false)
theorem A21 {F:Nat} (hF:5000≤F) {t:volume_thing} (ht:t≠.nil_):∃e,Ev F (toR (Jd t))=some e∧(e=0↔vT t):=by
 obtain ⟨e,h1,h2⟩:=T3 hF ht
 refine ⟨e,?_,h2⟩
 rw [Rr (by omega),X4 ht,←h1]
 cases t with
 | nil_=>exact absurd rfl ht
 | ic156 s=>rw [W8];show _=(Bc F s.Sweep).bind fun y=>some y;rw [W0]
 | ic158 s=>rw [W9];rfl
 | ic160 s=>rw [Wa];rfl
end Go.Proofs.YtifbomimeodibaaGreat
namespace Go.Proofs.YtifbomimeodibaaGreat
open Go Go.RowKit Go.Eng
set_option maxRecDepth 10000
set_option linter.unusedVariables false
set_option linter.unusedSimpArgs false
end Go.Proofs.YtifbomimeodibaaGreat
namespace Go.Proofs.YtifbomimeodibaaGreat
open Go Go.RowKit Go.Eng
set_option maxRecDepth 10000
set_option linter.unusedVariables false
set_option linter.unusedSimpArgs false
noncomputable def cap (x:List volume_Item×Int×Int):List volume_Item×Int×Int:=if x.1.length>1000 then ([],0,9) else x
theorem Xo (l:List volume_Item) (h9:l.length≤1000000):∀(m i:Nat) (acc:List volume_Item),l.length-i<m→i≤l.length→acc.length=i→Gt (l.map toR) m acc i=some (acc++l.drop i):=by
 intro m
 induction m with
 | zero=>intro i acc h;omega
 | succ m ih =>
  intro i acc h hi ha
  rw [Gt,Kw,List.length_map]
  by_cases hb:i<l.length
  ·rw [B1 (dT (by omega)),Ec i (toR l[i]) rfl (by rw [List.getElem?_map,List.getElem?_eq_getElem hb];rfl),Kf (by simp;omega) (by decide),ckb (by omega),show ((i:Int)+1)=((i+1:Nat):Int) by omega]
   have:=ih (i+1) (acc++[l[i]]) (by omega) (by omega) (by simp;omega)
   refine Eq.trans this ?_
   rw [List.drop_eq_getElem_cons hb,List.append_assoc];rfl
  ·rw [B3 (dF (by omega)),Kx,List.drop_of_length_le (by omega),List.append_nil]
theorem Zw {F:Nat} {l:List volume_Item} (hF:l.length<F) (h9:l.length≤1000000):M0 F (l.map toR)=some l:=by
 rw [M0,show (0:Int)=((0:Nat):Int) from rfl,Xo l h9 F 0 [] (by omega) (by omega) rfl];rfl
end Go.Proofs.YtifbomimeodibaaGreat
namespace Go.Proofs.YtifbomimeodibaaGreat
open Go Go.RowKit Go.Eng
set_option maxRecDepth 10000
set_option linter.unusedVariables false
set_option linter.unusedSimpArgs false
theorem A0h:∀(F k n:Nat),n<127 ^ (k+1)→k<F→k<10→n≤4611686018427387904→Ag F (n:Int)=some (Dz n):=by
 intro F
 induction F with
 | zero=>intro k n _ h;omega
 | succ F ih =>
  intro k n hn hk h10 h9
  rw [Ag,K2]
  by_cases h:n<127
  ·rw [B1 (dT (by omega)),ckb (by omega),Sf (by omega),Rh h,show (1:Int)+(n:Int)=(n:Int)+1 by omega]
  ·have hm:=Nat.mod_lt n (show 0<127 by decide)
   obtain ⟨k,rfl⟩:∃j,k=j+1:=by
    cases k with
    | zero=>simp at hn;omega
    | succ j=>exact ⟨j,rfl⟩
   have hd:n/127<127 ^ (k+1):=by
    rw [Nat.pow_succ] at hn
    exact Nat.div_lt_of_lt_mul (by rw [Nat.mul_comm];exact hn)
   have hlen:=Vh k (n/127) hd
   rw [B3 (dF (by omega)),(tdm n).1,sb,ckb (by omega),(tdm n).2,ckb (by omega),ih k (n/127) hd (by omega) (by omega) (by omega),sb,Kf (by simp;omega) (by decide),Sf (by omega),Sy (n:=n) (by omega)]
   rfl
theorem Ei {F:Nat} (hF:20≤F) {x:Int} (h:okN x):Ag F x=some (Dz x.toNat):=by
 obtain ⟨h0,h1⟩:=h
 have e:x=((x.toNat:Nat):Int):=by omega
 have hp:(127:Nat) ^ (8+1)=8594754748609397887:=by decide
 have:=A0h F 8 x.toNat (by rw [hp];omega) (by omega) (by decide) (by omega)
 rw [←e] at this
 exact this
theorem Tv {F:Nat} (hF:20≤F) {x:Int} (h:okZ x):Ci F x=some (Dz (zig x)):=by
 have hz:=Ty h
 obtain ⟨h0,h1⟩:=h
 rw [Ci]
 unfold zig at hz ⊢
 by_cases hx:x<0
 ·rw [if_pos hx] at hz ⊢
  rw [B1 (dT hx),ckb (by omega),ckb (by omega)]
  have e:(((-2*x-1).toNat:Nat):Int)=-2*x-1:=by omega
  rw [e] at hz
  rw [Ei hF hz,sb]
 ·rw [if_neg hx] at hz ⊢
  rw [B3 (dF hx),ckb (by omega)]
  have e:(((2*x).toNat:Nat):Int)=2*x:=by omega
  rw [e] at hz
  rw [Ei hF hz,sb]
theorem Wl {F:Nat} (hF:20≤F) {s:ByteArray} (h:s.size≤1000000):Gx F s=some (Jo s):=by
 have hk:okN ((s.size:Nat):Int):=⟨by omega,by omega⟩
 have h9:=Cf hk
 rw [Int.toNat_natCast] at h9
 have h2b:s2b s=some (sby s):=by unfold s2b;rw [if_pos (by omega)]
 have:=K5 s
 rw [Gx,Ei hF hk,sb,Int.toNat_natCast,h2b,sb,Kf (by omega) (by decide)]
 rfl
theorem Nx {F:Nat} (hF:20≤F) {s:api_Span} (h:okS s):Eh F s=some (Hf s):=by
 obtain ⟨h0,h1,h2⟩:=h
 have hz:okZ s.Lo:=⟨by omega,by omega⟩
 have hn:okN (s.Hi-s.Lo):=⟨by omega,by omega⟩
 have a1:=Cf (Ty hz)
 rw [Int.toNat_natCast] at a1
 have a2:=Cf hn
 rw [Eh,ckb (by omega),Tv hF hz,sb,Ei hF hn,sb,Kf (by omega) (by decide)]
 rfl
theorem Xn (ls:List (List Int)):∀(m i:Nat) (acc:List Int),ls.length-i<m→i≤ls.length→ls.length≤1000→acc.length+(ls.drop i).flatten.length≤1000000000000→Fb ls m acc i=some (acc++(ls.drop i).flatten):=by
 intro m
 induction m with
 | zero=>intro i acc h;omega
 | succ m ih =>
  intro i acc h hi hn ha
  rw [Fb,J8]
  by_cases hb:i<ls.length
  ·rw [List.drop_eq_getElem_cons hb,List.flatten_cons,List.length_append] at ha
   rw [B1 (dT (by omega)),Ec i ls[i] rfl (List.getElem?_eq_getElem hb),Kf (by omega) (by decide),ckb (by omega),show ((i:Int)+1)=((i+1:Nat):Int) by omega]
   refine Eq.trans (ih (i+1) _ (by omega) (by omega) hn (by simp only [List.length_append];omega)) ?_
   rw [List.drop_eq_getElem_cons hb,List.flatten_cons,List.append_assoc]
  ·rw [B3 (dF (by omega)),J9,List.drop_of_length_le (by omega)];simp
theorem Ro {F:Nat} {ls:List (List Int)} (hF:1000<F) (hn:ls.length≤1000) (ha:ls.flatten.length≤1000000000000):D3 F ls=some ls.flatten:=by
 rw [D3,show (0:Int)=((0:Nat):Int) from rfl,Xn ls F 0 [] (by omega) (by omega) hn (by simpa using ha)]
 simp
theorem A0g {F:Nat} (hF:2000≤F) {x:api_Echo} (h:okE x):Kr F x=some (Hr x):=by
 obtain ⟨hk,hh,hs,h1,h2,h3,h4,h5,h6⟩:=h
 have l1:=Cr h1
 have l2:=Cr h2
 have l3:=Cr h3
 have l4:=Cr h4
 have l5:=Cr h5
 have l6:=Cr h6
 have lk:=Cf hk
 have lh:=Cf hh
 have ls:=Cf hs
 rw [Kr,Ei (by omega) hk,sb]
 unfold Hr
 by_cases hk1:x.Kind=1
 ·rw [B1 (by simp [hk1]),Ei (by omega) hh,sb,Kf (by omega) (by decide),if_pos hk1]
 ·rw [B3 (by simp [hk1]),Nx (by omega) h1,sb,Nx (by omega) h2,sb,Nx (by omega) h3,sb,Ei (by omega) hs,sb,Ro (by omega) (by simp) (by simp;omega),sb,Kf (by simp;omega) (by decide),if_neg hk1]
  by_cases hk3:x.Kind=3
  ·have e4:(⟨x.Steps.1.Lo,x.Steps.1.Hi⟩:api_Span)=x.Steps.1:=rfl
   have e5:(⟨x.Steps.2.Lo,x.Steps.2.Hi⟩:api_Span)=x.Steps.2:=rfl
   rw [B1 (by simp [hk3]),e4,e5,Nx (by omega) h4,sb,Nx (by omega) h5,sb,Nx (by omega) h6,sb,Ro (by omega) (by simp) (by simp;omega),sb,Kf (by simp;omega) (by decide),if_pos hk3]
   simp
  ·rw [B3 (by simp [hk3]),if_neg hk3]
   simp
theorem Vw (F:Nat) (p:List api_Span) (b:api_Span) (w:List Int) (i:Nat) (k2:Int→Int→List Int→Int→Option (List Int)) (hl:p.length≤1000000000) (hi:i≤p.length):∀(m j:Nat),j≤Cu b (p.drop i)→Cu b (p.drop i)-j<m →
  G8 F p b.Lo b.Hi w i k2 m j=He F p b.Lo b.Hi w i k2 (Cu b (p.drop i):Nat):=by
 intro m
 have hle:=Mt b (p.drop i)
 rw [List.length_drop] at hle
 induction m with
 | zero=>intro j _ h;omega
 | succ m ih =>
  intro j hj hm
  rw [G8,K3,ckb (by omega)]
  by_cases hb:j<Cu b (p.drop i)
  ·have hx:=Sw hb
   rw [List.getElem?_drop] at hx
   rw [gdT (gdt (dT (by omega))),ckb (by omega),gdT (gdt (dT (by omega))),Ec (i+j) b (by omega) hx,T0 b b,B1 (x:=decide (b=b)) (dT (by omega)),B1 (dT rfl),ckb (by omega)]
   exact ih (j+1) (by omega) (by omega)
  ·have he:j=Cu b (p.drop i):=by omega
   subst he
   by_cases hc:i+Cu b (p.drop i)<p.length
   ·have hg:=List.getElem?_eq_getElem hc
    have hg2:(p.drop i)[Cu b (p.drop i)]? = some p[i+Cu b (p.drop i)]:=by rw [List.getElem?_drop];exact hg
    rw [gdT (gdt (dT (by omega))),ckb (by omega),gdT (gdt (dT (by omega))),Ec _ _ (by omega) hg,T0 _ b,B1 (x:=decide (p[i+Cu b (p.drop i)]=b)) (dT (by omega)),B3 (dF (Sv hg2))]
   ·rw [gdF (gdf (dF (by omega))),sb,gdF (gdf (dF (by omega))),sb,B3 (B3 (dF (by omega)))]
theorem Xz (F:Nat) (hF:2000≤F) (p:List api_Span) (hlF:p.length<F) (hl9:p.length≤1000000000) (hok:∀x∈p,okS x):∀(m i:Nat) (b:api_Span) (w:List Int),p.length-i<m→i≤p.length→w.length+200*(p.length-i)≤999999900000 →
  Ey F p m b.Lo b.Hi w i=some (w++Jf Hf b 0 (p.drop i)):=by
 intro m
 induction m with
 | zero=>intro i b w h;omega
 | succ m ih =>
  intro i b w h hi hw
  rw [Ey,Hc]
  by_cases hb:i<p.length
  ·have hle:=Mt b (p.drop i)
   rw [List.length_drop] at hle
   have hk:okN ((Cu b (p.drop i):Nat):Int):=⟨by omega,by omega⟩
   have h9:=Cf hk
   rw [Int.toNat_natCast] at h9
   have hne:p.drop i≠[]:=by intro e;have:=congrArg List.length e;simp at this;omega
   rw [B1 (dT (by omega)),show (0:Int)=((0:Nat):Int) from rfl,Vw F p b w i _ hl9 hi F 0 (by omega) (by omega),He,Ei (by omega) hk,sb,Int.toNat_natCast,Kf (by omega) (by decide),ckb (by omega),Q6 Hf b 0 (p.drop i) (.inr hne)]
   cases hd:(p.drop i).drop (Cu b (p.drop i)) with
   | nil =>
    have hlen:i+Cu b (p.drop i)=p.length:=by
     have:=congrArg List.length hd
     rw [List.length_drop,List.length_drop] at this
     simp at this
     omega
    obtain ⟨m,rfl⟩:∃k,m=k+1:=⟨m-1,by omega⟩
    rw [B3 (dF (by omega)),Ey,Hc,B3 (dF (by omega)),Hd]
    simp
   | cons y r =>
    obtain ⟨hg,hn,hr,hrl,hy⟩:=Py hd
    rw [List.length_drop] at hn hrl
    rw [List.getElem?_drop] at hg
    have hy2:y∈p:=List.mem_of_mem_drop hy
    have hyl:=Cr (hok y hy2)
    rw [B1 (dT (by omega)),Ec (i+Cu b (p.drop i)) y (by omega) hg]
    rw [show (Eh F y)=some (Hf y) from Nx (by omega) (hok y hy2),sb,Kf (by simp;omega) (by decide),Ec (i+Cu b (p.drop i)) y (by omega) hg,ckb (by omega),show ((i:Int)+((Cu b (p.drop i):Nat):Int)+1)=((i+Cu b (p.drop i)+1:Nat):Int) by omega]
    have e2:r=p.drop (i+Cu b (p.drop i)+1):=by rw [hr,List.drop_drop];congr 1
    rw [e2]
    refine Eq.trans (ih (i+Cu b (p.drop i)+1) y _ (by omega) (by omega) (by simp;omega)) ?_
    simp
  ·rw [B3 (dF (by omega)),Hd,List.drop_of_length_le (by omega)];simp [Jf]
theorem Xy {F:Nat} (hF:2000≤F) {p:List api_Span} (hlF:p.length<F) (hl9:p.length≤1000000000) (hok:∀x∈p,okS x):Jm F p=some (Jf Hf ⟨0,0⟩ 0 p):=by
 have:Jm F p=some ([]++Jf Hf ⟨0,0⟩ 0 (p.drop 0)):=Xz F hF p hlF hl9 hok F 0 ⟨0,0⟩ [] (by omega) (by omega) (by simp;omega)
 simpa using this
theorem V5 (F:Nat) (p:List api_Echo) (b:api_Echo) (w:List Int) (i:Nat) (k2:Int→Int→Int→Int→Int→Int→Int→Int→Int→Int→Int→Int→Int→Int→List Int→Int→Option (List Int)) (hl:p.length≤1000000000) (hi:i≤p.length):∀(m j:Nat),j≤Cu b (p.drop i)→Cu b (p.drop i)-j<m →
  Fa F p b.Kind b.Power.Lo b.Match.Lo b.Match.Hi b.Turn.Lo b.Turn.Hi b.Power.Hi b.Steps.1.Lo b.Steps.1.Hi b.Steps.2.Lo b.Steps.2.Hi b.Spread b.Ratio.Lo b.Ratio.Hi w i k2 m j=Gq F p b.Kind b.Power.Lo b.Match.Lo b.Match.Hi b.Turn.Lo b.Turn.Hi b.Power.Hi b.Steps.1.Lo b.Steps.1.Hi b.Steps.2.Lo b.Steps.2.Hi b.Spread b.Ratio.Lo b.Ratio.Hi w i k2 (Cu b (p.drop i):Nat):=by
 intro m
 have hle:=Mt b (p.drop i)
 rw [List.length_drop] at hle
 induction m with
 | zero=>intro j _ h;omega
 | succ m ih =>
  intro j hj hm
  rw [Fa,J7,ckb (by omega)]
  by_cases hb:j<Cu b (p.drop i)
  ·have hx:=Sw hb
   rw [List.getElem?_drop] at hx
   rw [gdT (gdt (dT (by omega))),ckb (by omega),gdT (gdt (dT (by omega))),Ec (i+j) b (by omega) hx,Sq b b,B1 (x:=decide (b=b)) (dT (by omega)),B1 (dT rfl),ckb (by omega)]
   exact ih (j+1) (by omega) (by omega)
  ·have he:j=Cu b (p.drop i):=by omega
   subst he
   by_cases hc:i+Cu b (p.drop i)<p.length
   ·have hg:=List.getElem?_eq_getElem hc
    have hg2:(p.drop i)[Cu b (p.drop i)]? = some p[i+Cu b (p.drop i)]:=by rw [List.getElem?_drop];exact hg
    rw [gdT (gdt (dT (by omega))),ckb (by omega),gdT (gdt (dT (by omega))),Ec _ _ (by omega) hg,Sq _ b,B1 (x:=decide (p[i+Cu b (p.drop i)]=b)) (dT (by omega)),B3 (dF (Sv hg2))]
   ·rw [gdF (gdf (dF (by omega))),sb,gdF (gdf (dF (by omega))),sb,B3 (B3 (dF (by omega)))]
theorem Wn (F:Nat) (hF:2000≤F) (p:List api_Echo) (hlF:p.length<F) (hl9:p.length≤1000000000) (hok:∀x∈p,okE x):∀(m i:Nat) (b:api_Echo) (w:List Int),p.length-i<m→i≤p.length→w.length+200*(p.length-i)≤999999900000 →
  Eg F p m b.Kind b.Power.Lo b.Match.Lo b.Match.Hi b.Turn.Lo b.Turn.Hi b.Power.Hi b.Steps.1.Lo b.Steps.1.Hi b.Steps.2.Lo b.Steps.2.Hi b.Spread b.Ratio.Lo b.Ratio.Hi w i=some (w++Jf Hr b 0 (p.drop i)):=by
 intro m
 induction m with
 | zero=>intro i b w h;omega
 | succ m ih =>
  intro i b w h hi hw
  rw [Eg,Gn]
  by_cases hb:i<p.length
  ·have hle:=Mt b (p.drop i)
   rw [List.length_drop] at hle
   have hk:okN ((Cu b (p.drop i):Nat):Int):=⟨by omega,by omega⟩
   have h9:=Cf hk
   rw [Int.toNat_natCast] at h9
   have hne:p.drop i≠[]:=by intro e;have:=congrArg List.length e;simp at this;omega
   rw [B1 (dT (by omega)),show (0:Int)=((0:Nat):Int) from rfl,V5 F p b w i _ hl9 hi F 0 (by omega) (by omega),Gq,Ei (by omega) hk,sb,Int.toNat_natCast,Kf (by omega) (by decide),ckb (by omega),Q6 Hr b 0 (p.drop i) (.inr hne)]
   cases hd:(p.drop i).drop (Cu b (p.drop i)) with
   | nil =>
    have hlen:i+Cu b (p.drop i)=p.length:=by
     have:=congrArg List.length hd
     rw [List.length_drop,List.length_drop] at this
     simp at this
     omega
    obtain ⟨m,rfl⟩:∃k,m=k+1:=⟨m-1,by omega⟩
    rw [B3 (dF (by omega)),Eg,Gn,B3 (dF (by omega)),Gp]
    simp
   | cons y r =>
    obtain ⟨hg,hn,hr,hrl,hy⟩:=Py hd
    rw [List.length_drop] at hn hrl
    rw [List.getElem?_drop] at hg
    have hy2:y∈p:=List.mem_of_mem_drop hy
    have hyl:=Rt (hok y hy2)
    rw [B1 (dT (by omega)),Ec (i+Cu b (p.drop i)) y (by omega) hg]
    rw [show (Kr F (api_Echo.mk y.Kind y.Power ((api_Span.mk y.Steps.1.Lo y.Steps.1.Hi),(api_Span.mk y.Steps.2.Lo y.Steps.2.Hi)) y.Spread y.Ratio y.Match y.Turn))=some (Hr y) from A0g (by omega) (hok y hy2),sb,Kf (by simp;omega) (by decide),Ec (i+Cu b (p.drop i)) y (by omega) hg,ckb (by omega),show ((i:Int)+((Cu b (p.drop i):Nat):Int)+1)=((i+Cu b (p.drop i)+1:Nat):Int) by omega]
    have e2:r=p.drop (i+Cu b (p.drop i)+1):=by rw [hr,List.drop_drop];congr 1
    rw [e2]
    refine Eq.trans (ih (i+Cu b (p.drop i)+1) y _ (by omega) (by omega) (by simp;omega)) ?_
    simp
  ·rw [B3 (dF (by omega)),Gp,List.drop_of_length_le (by omega)];simp [Jf]
theorem Wm {F:Nat} (hF:2000≤F) {p:List api_Echo} (hlF:p.length<F) (hl9:p.length≤1000000000) (hok:∀x∈p,okE x):Ho F p=some (Jf Hr e0 0 p):=by
 have:Ho F p=some ([]++Jf Hr e0 0 (p.drop 0)):=Wn F hF p hlF hl9 hok F 0 e0 [] (by omega) (by omega) (by simp;omega)
 simpa using this
end Go.Proofs.YtifbomimeodibaaGreat
namespace Go.Proofs.YtifbomimeodibaaGreat
open Go Go.RowKit Go.Eng
set_option maxRecDepth 10000
set_option linter.unusedVariables false
set_option linter.unusedSimpArgs false
theorem A0f (F:Nat) (x:ref12_Item) (h9:x.Sweep.Rays.length≤1000) (hfl:x.Sweep.Rays.flatten.length≤100000):∀(m i:Nat) (acc:List api_Echo),x.Sweep.Rays.length-i<m→i≤x.Sweep.Rays.length→acc++(x.Sweep.Rays.drop i).flatten=x.Sweep.Rays.flatten →
  Fq F x m acc i=Gw F x x.Sweep.Rays.flatten:=by
 intro m
 induction m with
 | zero=>intro i acc h;omega
 | succ m ih =>
  intro i acc h hi ha
  rw [Fq,L1]
  have hal:=congrArg List.length ha
  rw [List.length_append] at hal
  by_cases hb:i<x.Sweep.Rays.length
  ·have hd:=List.drop_eq_getElem_cons hb
   rw [hd,List.flatten_cons,List.length_append] at hal
   rw [B1 (dT (by omega)),Ec i x.Sweep.Rays[i] rfl (List.getElem?_eq_getElem hb),Kf (by omega) (by decide),ckb (by omega),show ((i:Int)+1)=((i+1:Nat):Int) by omega]
   exact ih (i+1) _ (by omega) (by omega) (by rw [←ha,hd,List.flatten_cons,List.append_assoc])
  ·rw [B3 (dF (by omega))]
   rw [List.drop_of_length_le (by omega)] at ha
   simp at ha
   rw [ha]
theorem Z7 {F:Nat} (hF:200000≤F) {t:volume_thing} (h:okT t):Je F (toR (Jd t))=some (Cv t):=by
 have hlen:=Nw h
 cases t with
 | nil_=>exact h.elim
 | ic156 s =>
  obtain ⟨⟨a1,a2,a3,a4,a5,a6,a7,a8⟩,h2,h3,h4,h5,h6⟩:=(show Q5 s.Sweep from h)
  have e:([Dz (1:Int).toNat,Jo s.Sweep.Site.Name,Dz (zig s.Sweep.Site.X),Dz (zig s.Sweep.Site.Y),Dz s.Sweep.Site.Z.toNat,Dz s.Sweep.Site.Rose.toNat,Dz s.Sweep.Site.Gates.toNat,Dz s.Sweep.Site.Step.toNat,Dz s.Sweep.Site.Width.toNat,Dz s.Sweep.Tilt.toNat,Dz s.Sweep.Time.toNat,Jf Hr e0 0 s.Sweep.Rays.flatten]:List (List Int)).flatten=Cv (.ic156 s):=by
   show _=R2 s.Sweep
   simp [R2,Fg,Rc,List.append_assoc]
  have hloop:=A0f F (toR (Jd (.ic156 s))) h4 h5 F 0 [] (by show s.Sweep.Rays.length-0<F;omega) (Nat.zero_le _) (by simp)
  rw [Je]
  show (bif ((1:Int)==1) then Fq F (toR (Jd (.ic156 s))) F [] ((0:Nat):Int) else _)=_
  rw [B1 (by rfl),hloop]
  show Gw F (toR (Jd (.ic156 s))) s.Sweep.Rays.flatten=_
  rw [Gw]
  show ((Ag F 1).bind fun y486=>(Gx F s.Sweep.Site.Name).bind fun y490=>(Ci F s.Sweep.Site.X).bind fun y494=>(Ci F s.Sweep.Site.Y).bind fun y498=>(Ag F s.Sweep.Site.Z).bind fun y502=>(Ag F s.Sweep.Site.Rose).bind fun y506=>(Ag F s.Sweep.Site.Gates).bind fun y510=>(Ag F s.Sweep.Site.Step).bind fun y514=>(Ag F s.Sweep.Site.Width).bind fun y518=>(Ag F s.Sweep.Tilt).bind fun y522=>(Ag F s.Sweep.Time).bind fun y526=>(Ho F s.Sweep.Rays.flatten).bind fun y597=>(D3 F ([y486,y490,y494,y498,y502,y506,y510,y514,y518,y522,y526,y597])).bind fun y651=>some y651)=_
  rw [Ei (by omega) ⟨by decide,by decide⟩,sb,Wl (by omega) (by omega),sb,Tv (by omega) a2,sb,Tv (by omega) a3,sb,Ei (by omega) a4,sb,Ei (by omega) a5,sb,Ei (by omega) a6,sb,Ei (by omega) a7,sb,Ei (by omega) a8,sb,Ei (by omega) h2,sb,Ei (by omega) h3,sb,
   Wm (by omega) (by omega) (by omega) (fun x hx=>by obtain ⟨r,hr,hx⟩:=List.mem_flatten.1 hx;exact h6 r hr x hx),sb,Ro (by omega) (by simp) (by rw [e];omega),sb,e]
 | ic158 f =>
  obtain ⟨b1,b2,b3,b4,b5,b6,b7,b8,b9⟩:=(show Rl f from h)
  have e:([Dz (2:Int).toNat,Jo f.key,Dz f.time.toNat,Dz (zig f.Field.Grid.X),Dz (zig f.Field.Grid.Y),Dz f.Field.Grid.Size.toNat,Dz f.Field.Grid.Wide.toNat,Dz f.Field.Grid.High.toNat,Jf Hf ⟨0,0⟩ 0 f.Field.Vals]:List (List Int)).flatten=Cv (.ic158 f):=by
   show _=Qn f
   simp [Qn,Fg,Rc,List.append_assoc]
  rw [Je]
  show (bif ((2:Int)==1) then _ else (bif ((2:Int)==2) then ((Ag F 2).bind fun y699=>(Gx F f.key).bind fun y703=>(Ag F f.time).bind fun y707=>(Ci F f.Field.Grid.X).bind fun y711=>(Ci F f.Field.Grid.Y).bind fun y715=>(Ag F f.Field.Grid.Size).bind fun y719=>(Ag F f.Field.Grid.Wide).bind fun y723=>(Ag F f.Field.Grid.High).bind fun y727=>(Jm F f.Field.Vals).bind fun y780=>(D3 F ([y699,y703,y707,y711,y715,y719,y723,y727,y780])).bind fun y822=>some y822) else _))=_
  rw [B3 (by rfl),B1 (by rfl),Ei (by omega) ⟨by decide,by decide⟩,sb,Wl (by omega) (by omega),sb,Ei (by omega) b2,sb,Tv (by omega) b3,sb,Tv (by omega) b4,sb,Ei (by omega) b5,sb,Ei (by omega) b6,sb,Ei (by omega) b7,sb,
   Xy (by omega) (by omega) (by omega) b9,sb,Ro (by omega) (by simp) (by rw [e];omega),sb,e]
 | ic160 n =>
  obtain ⟨c1,c2⟩:=(show Uy n from h)
  have e:([Dz (3:Int).toNat,Dz n.time.toNat,Jo n.text]:List (List Int)).flatten=Cv (.ic160 n):=by
   show _=Ti n
   simp [Ti,Fg,List.append_assoc]
  rw [Je]
  show (bif ((3:Int)==1) then _ else (bif ((3:Int)==2) then _ else J1 F (toR (Jd (.ic160 n)))))=_
  rw [B3 (by rfl),B3 (by rfl),J1]
  show ((Ag F 3).bind fun y396=>(Ag F n.time).bind fun y400=>(Gx F n.text).bind fun y417=>(D3 F ([y396,y400,y417])).bind fun y435=>some y435)=_
  rw [Ei (by omega) ⟨by decide,by decide⟩,sb,Ei (by omega) c1,sb,Wl (by omega) (by omega),sb,Ro (by omega) (by simp) (by rw [e];omega),sb,e]
theorem Uo {F:Nat} (hF:200000≤F) {t:volume_thing} (h:okT t) (hl:(Cv t).length+100≤F):Ga F (toR (Jd t))=some (Pj t):=by
 have hlen:=Nw h
 have hk:okN (((Cv t).length:Nat):Int):=⟨by omega,by omega⟩
 have h9:=Cf hk
 rw [Int.toNat_natCast] at h9
 have hpl:(N3 (Cv t)).length=(Dz (Cv t).length).length+(Cv t).length:=by unfold N3;rw [List.length_append]
 have hby:By (N3 (Cv t)):=(Ux _).app (Un t)
 rw [Ga,Z7 hF h,sb,Ei (by omega) hk,sb,Int.toNat_natCast,Kf (by omega) (by decide)]
 show (Lt F (N3 (Cv t))).bind (fun y21=>(apd 1 (N3 (Cv t)) y21).bind fun l24=>some l24)=_
 rw [A0i (by omega) hby (by omega) (by omega),sb,Kf (by rw [Rn];omega) (by decide)]
 rfl
theorem nob {a b:Bool} (h:(bif a then true else b)=false):a=false∧b=false:=by cases a<;>cases b<;>simp_all
theorem A32 {a b:Bool} (h:(!(bif a then b else false))=false):a=true∧b=true:=by cases a<;>cases b<;>simp_all
theorem A10 {a b:Bool} (h:(bif a then b else false)=true):a=true∧b=true:=by cases a<;>cases b<;>simp_all
theorem A1g {c:Bool} {y:volume_thing} (h:(bif c then volume_thing.nil_ else y)≠.nil_):c=false∧(bif c then volume_thing.nil_ else y)=y:=by
 cases c with
 | true=>exact absurd rfl h
 | false=>exact ⟨rfl,rfl⟩
theorem Zh {f:api_Field} (h:(!(bif (((f.Grid.X:Int)==0)&&(((f.Grid.Y:Int)==0)&&(((f.Grid.Size:Int)==0)&&(((f.Grid.Wide:Int)==0)&&(((f.Grid.High:Int)==0)&&true))))) then (((f.Vals.length:Nat):Int)==0) else false))=false):f=⟨⟨0,0,0,0,0⟩,[]⟩:=by
 obtain ⟨h1,h2⟩:=A32 h
 have:=Zq f.Grid ⟨0,0,0,0,0⟩
 rw [show (((f.Grid.X:Int)==0)&&(((f.Grid.Y:Int)==0)&&(((f.Grid.Size:Int)==0)&&(((f.Grid.Wide:Int)==0)&&(((f.Grid.High:Int)==0)&&true)))))=decide (f.Grid=⟨0,0,0,0,0⟩) from this] at h1
 have h3:f.Vals=[]:=List.eq_nil_of_length_eq_zero (by simpa using h2)
 cases f
 simp at h1 h3
 rw [h1,h3]
theorem Zi {s:api_Sweep} (h:(!(bif (bif (bif ((s.Site.Name==ByteArray.empty)&&(((s.Site.X:Int)==0)&&(((s.Site.Y:Int)==0)&&(((s.Site.Z:Int)==0)&&(((s.Site.Rose:Int)==0)&&(((s.Site.Gates:Int)==0)&&(((s.Site.Step:Int)==0)&&(((s.Site.Width:Int)==0)&&true)))))))) then (s.Tilt==0) else false) then (s.Time==0) else false) then (((s.Rays.length:Nat):Int)==0) else false))=false):s=⟨⟨ByteArray.empty,0,0,0,0,0,0,0⟩,0,0,[]⟩:=by
 obtain ⟨h1,h2⟩:=A32 h
 obtain ⟨h1,h3⟩:=A10 h1
 obtain ⟨h1,h4⟩:=A10 h1
 have:=A0b s.Site ⟨ByteArray.empty,0,0,0,0,0,0,0⟩
 rw [show ((s.Site.Name==ByteArray.empty)&&(((s.Site.X:Int)==0)&&(((s.Site.Y:Int)==0)&&(((s.Site.Z:Int)==0)&&(((s.Site.Rose:Int)==0)&&(((s.Site.Gates:Int)==0)&&(((s.Site.Step:Int)==0)&&(((s.Site.Width:Int)==0)&&true))))))))=decide (s.Site=⟨ByteArray.empty,0,0,0,0,0,0,0⟩) from this] at h1
 have h5:s.Rays=[]:=List.eq_nil_of_length_eq_zero (by simpa using h2)
 cases s
 simp at h1 h3 h4 h5
 rw [h1,h3,h4,h5]
theorem A1o {x:volume_Item} (h:Ck x≠.nil_):x=Jd (Ck x):=by
 rw [Ck] at h ⊢
 have eE:(⟨#[]⟩:ByteArray)=ByteArray.empty:=rfl
 by_cases k1:x.Kind=1
 ·rw [B1 (by simp [k1])] at h ⊢
  obtain ⟨hc,he⟩:=A1g h
  rw [he]
  obtain ⟨hc,h5⟩:=nob hc
  obtain ⟨hc,h4⟩:=nob hc
  obtain ⟨hc,h3⟩:=nob hc
  obtain ⟨h1,h2⟩:=nob hc
  have n1:x.Name=ByteArray.empty:=Q7.1 (by have h1:(!sEq x.Name ByteArray.empty)=false:=h1;simpa using h1)
  have n3:x.Text=ByteArray.empty:=Q7.1 (by have h3:(!sEq x.Text ByteArray.empty)=false:=h3;simpa using h3)
  have n2:x.Time=0:=by have:(x.Time != 0)=false:=h2;simpa using this
  have n5:=Zh h5
  cases x
  simp at k1 n1 n2 n3 n5
  subst k1 n1 n2 n3 n5
  rfl
 ·rw [B3 (by simp [k1])] at h ⊢
  by_cases k2:x.Kind=2
  ·rw [B1 (by simp [k2])] at h ⊢
   obtain ⟨hc,he⟩:=A1g h
   rw [he]
   obtain ⟨hc,h5⟩:=nob hc
   obtain ⟨hc,h4⟩:=nob hc
   obtain ⟨hc,h3⟩:=nob hc
   have n3:x.Text=ByteArray.empty:=Q7.1 (by have h3:(!sEq x.Text ByteArray.empty)=false:=h3;simpa using h3)
   have n4:=Zi h4
   cases x
   simp at k2 n3 n4
   subst k2 n3 n4
   rfl
  ·rw [B3 (by simp [k2])] at h ⊢
   by_cases k3:x.Kind=3
   ·rw [B1 (by simp [k3])] at h ⊢
    obtain ⟨hc,he⟩:=A1g h
    rw [he]
    obtain ⟨hc,h5⟩:=nob hc
    obtain ⟨hc,h4⟩:=nob hc
    obtain ⟨hc,h3⟩:=nob hc
    obtain ⟨h1,h2⟩:=nob hc
    have n1:x.Name=ByteArray.empty:=Q7.1 (by have h1:(!sEq x.Name ByteArray.empty)=false:=h1;simpa using h1)
    have n4:=Zi h4
    have n5:=Zh h5
    cases x
    simp at k3 n1 n4 n5
    subst k3 n1 n4 n5
    rfl
   ·rw [B3 (by simp [k3])] at h
    exact absurd rfl h
end Go.Proofs.YtifbomimeodibaaGreat
namespace Go.Proofs.YtifbomimeodibaaGreat
open Go Go.RowKit Go.Eng
set_option maxRecDepth 10000
set_option linter.unusedVariables false
set_option linter.unusedSimpArgs false
theorem Y0 (k:Nat):H6 (k+FV)=some true:=by kernel_rfl
end Go.Proofs.YtifbomimeodibaaGreat
namespace Go.Proofs.YtifbomimeodibaaGreat
open Go Go.RowKit Go.Eng
set_option maxRecDepth 10000
set_option linter.unusedVariables false
set_option linter.unusedSimpArgs false
theorem ckm {β:Type} {x:Int} {f:Int→Option β} (h:-9223372036854775808≤x∧x≤9223372036854775807):(ck x).bind f=f x:=by
 unfold ck
 rw [if_pos h];rfl
def Qh:Int→List (List api_Echo)→Int
 | n,[]=>n
 | n,r::rs=>Qh (IntKind.i64.wrap (n+((r.length:Nat):Int))) rs
theorem wrap64 {x:Int} (h:0≤x∧x≤1000000000):IntKind.i64.wrap x=x:=by
 simp only [IntKind.wrap,IntKind.signed,IntKind.bits]
 simp
 omega
theorem Vm:∀(rs:List (List api_Echo)) (n:Int),0≤n→n+(rs.flatten.length:Int)≤1000000000→Qh n rs=n+rs.flatten.length:=by
 intro rs
 induction rs with
 | nil=>intro n _ _;simp [Qh]
 | cons r rs ih =>
  intro n h0 h
  rw [List.flatten_cons,List.length_append] at h
  rw [Qh,wrap64 (by omega),ih _ (by omega) (by omega),List.flatten_cons,List.length_append]
  omega
def Ta (x:ref12_Item):Prop:=Qh ((x.Field.Vals.length:Nat):Int) x.Sweep.Rays≤200∧x.Sweep.Rays.length≤100∧x.Text.size≤400
theorem A1b (l:List ref12_Item) (i:Nat) (x:ref12_Item) (hx:l[i]? = some x) (hmx:x.Sweep.Rays.length≤9223372036854775807) (k2:Int→Option Bool):∀(m j:Nat) (n:Int),x.Sweep.Rays.length-j<m→j≤x.Sweep.Rays.length →
  F9 l i k2 m n j=Gi l i k2 (Qh n (x.Sweep.Rays.drop j)):=by
 intro m
 induction m with
 | zero=>intro j n h;omega
 | succ m ih =>
  intro j n h hj
  rw [F9,J4,Ec i x rfl hx]
  by_cases hb:j<x.Sweep.Rays.length
  ·have hd:=List.drop_eq_getElem_cons hb
   rw [B1 (dT (by omega)),Ec i x rfl hx,Ec j x.Sweep.Rays[j] rfl (List.getElem?_eq_getElem hb),ckm (by omega),hd,Qh,show ((j:Int)+1)=((j+1:Nat):Int) by omega]
   exact ih (j+1) _ (by omega) (by omega)
  ·rw [B3 (dF (by omega)),List.drop_of_length_le (by omega),Qh]
theorem Zt {F:Nat} (l:List ref12_Item) (hmx:∀x∈l,x.Sweep.Rays.length≤9223372036854775807∧x.Sweep.Rays.length<F) (hn:l.length≤1002):∀(m i:Nat),l.length-i<m→i≤l.length→∃c,F8 F l m i=some c∧(c=true→∀x∈l.drop i,Ta x):=by
 intro m
 induction m with
 | zero=>intro i h;omega
 | succ m ih =>
  intro i h hi
  rw [F8,J3]
  by_cases hb:i<l.length
  ·have hd:=List.drop_eq_getElem_cons hb
   have hx:=List.getElem?_eq_getElem hb
   obtain ⟨h1,h2⟩:=hmx l[i] (List.getElem_mem hb)
   rw [B1 (dT (by omega)),Ec i l[i] rfl hx,show (0:Int)=((0:Nat):Int) from rfl,A1b l i l[i] hx h1 _ F 0 _ (by omega) (by omega),List.drop_zero,Gi]
   by_cases q1:Qh ((l[i].Field.Vals.length:Nat):Int) l[i].Sweep.Rays>200
   ·rw [B1 (dT q1)];exact ⟨false,rfl,fun h=>by cases h⟩
   ·rw [B3 (dF q1),Ec i l[i] rfl hx]
    by_cases q2:l[i].Sweep.Rays.length>100
    ·rw [B1 (dT (by omega))];exact ⟨false,rfl,fun h=>by cases h⟩
    ·rw [B3 (dF (by omega)),Ec i l[i] rfl hx]
     by_cases q3:l[i].Text.size>400
     ·rw [B1 (dT (by omega))];exact ⟨false,rfl,fun h=>by cases h⟩
     ·rw [B3 (dF (by omega)),J6,ckb (by omega),show ((i:Int)+1)=((i+1:Nat):Int) by omega]
      obtain ⟨c,k1,k2⟩:=ih (i+1) (by omega) (by omega)
      refine ⟨c,k1,fun hc y hy=>?_⟩
      rw [hd] at hy
      rcases List.mem_cons.1 hy with rfl|hy
      ·exact ⟨by omega,by omega,by omega⟩
      ·exact k2 hc y hy
  ·rw [B3 (dF (by omega)),J5,List.drop_of_length_le (by omega)]
   exact ⟨true,rfl,fun _ y hy=>by cases hy⟩
theorem Xp {F:Nat} (hF:2000≤F) (l:List ref12_Item) (hmx:∀x∈l,x.Sweep.Rays.length≤9223372036854775807∧x.Sweep.Rays.length<F):∃c,Jv F l=some c∧(c=true→(l.length≤12∨l.length>1000)∧l.length≤1002∧∀x∈l,Ta x):=by
 rw [Jv]
 by_cases h1:l.length>1002
 ·rw [dT (show ((l.length:Nat):Int)>1002 by omega),B1 (by cases (bif decide (((l.length:Nat):Int)>12) then decide (((l.length:Nat):Int)≤1000) else false)<;>rfl)]
  exact ⟨false,rfl,fun h=>by cases h⟩
 ·rw [dF (show ¬((l.length:Nat):Int)>1002 by omega)]
  by_cases h2:l.length>12∧l.length≤1000
  ·rw [dT (show ((l.length:Nat):Int)>12 by omega),dT (show ((l.length:Nat):Int)≤1000 by omega),B1 (by rfl)]
   exact ⟨false,rfl,fun h=>by cases h⟩
  ·rw [B3 ?_,show (0:Int)=((0:Nat):Int) from rfl]
   ·obtain ⟨c,k1,k2⟩:=Zt l hmx (by omega) F 0 (by omega) (by omega)
    exact ⟨c,k1,fun hc=>⟨by omega,by omega,k2 hc⟩⟩
   ·by_cases h3:l.length>12
    ·rw [dF (show ¬((l.length:Nat):Int)≤1000 by omega)];cases decide (((l.length:Nat):Int)>12)<;>rfl
    ·rw [dF (show ¬((l.length:Nat):Int)>12 by omega)];rfl
theorem Yk {t:volume_thing} (h:vT t) (hg:Ta (toR (Jd t))):cnt t≤200:=by
 obtain ⟨h1,h2,h3⟩:=hg
 cases t with
 | nil_=>exact h.elim
 | ic156 s =>
  have hv:vSweep s.Sweep:=h
  have h1:Qh (0:Int) s.Sweep.Rays≤200:=h1
  have h2:s.Sweep.Rays.length≤100:=h2
  have hl:=hv.len
  obtain ⟨⟨_,_,_,_,⟨c1,c2⟩,⟨c3,c4⟩,_⟩,_,_,hr,_⟩:=hv
  have hm:4*s.Sweep.Site.Rose*s.Sweep.Site.Gates≤360*s.Sweep.Site.Gates:=Int.mul_le_mul_of_nonneg_right (by omega) (by omega)
  rw [Vm _ _ (by decide) (by omega)] at h1
  show s.Sweep.Rays.flatten.length≤200
  omega
 | ic158 f =>
  have h1:((f.Field.Vals.length:Nat):Int)≤200:=h1
  show f.Field.Vals.length≤200
  omega
 | ic160 n=>exact Nat.zero_le _
def pkS (F:Nat) (x:volume_Item):List Int×Int:=(D9 F x).getD ([],0)
theorem N4 {F:Nat} (hF:200000≤F) {x:volume_Item} (hg:Ta (toR x)):D9 F x=some (pkS F x)∧Ha F (toR x)=some (pkS F x)∧Ev F (toR x)=some (pkS F x).2∧Mr F (Ck x)=some (pkS F x).2∧(pkS F x).1.length≤40000 ∧
  ((pkS F x).2=0→∃t,(pkS F x).1=Ng t∧Ga F (toR x)=some (Pj t)):=by
 have key:∃a e,D9 F x=some (a,e)∧Ha F (toR x)=some (a,e)∧Ev F (toR x)=some e∧Mr F (Ck x)=some e∧a.length≤40000∧(e=0→∃t,a=Ng t∧Ga F (toR x)=some (Pj t)):=by
  by_cases hn:Ck x=.nil_
  ·have hE:Mr F (Ck x)=some 2:=by rw [hn];rfl
   have hR:=Rr (F:=F) (by omega) x
   rw [hE] at hR
   refine ⟨[],2,?_,?_,hR,hE,by simp,fun h=>by cases h⟩
   ·rw [D9,Dc,hn];rfl
   ·rw [Ha,hR,sb,B1 (by rfl)]
  ·have hx:=A1o hn
   generalize ht:Ck x=t at hn hx
   subst hx
   obtain ⟨e,he,hv⟩:=T3 (F:=F) (by omega) hn
   obtain ⟨e',he',hv'⟩:=A21 (F:=F) (by omega) hn
   have hE:=Rr (F:=F) (by omega) (Jd t)
   rw [he',ht] at hE
   have hee:e'=e:=by
    have h2:Mr F t=D5 F t:=by
     cases t with
     | nil_=>exact absurd rfl hn
     | ic156 s=>rw [W8];show _=(Bc F s.Sweep).bind fun y=>some y;rw [W0]
     | ic158 s=>rw [W9];rfl
     | ic160 s=>rw [Wa];rfl
    rw [h2,he] at hE
    exact Option.some.inj hE
   subst hee
   by_cases h0:e'=0
   ·subst h0
    have hvt:=hv.1 rfl
    have hc:=Yk hvt hg
    have hl2:=Ps hvt.ok
    have hpl:=Wh hvt
    refine ⟨Ng t,0,A01 hF hvt (by omega),?_,he',hE.symm,?_,fun _=>⟨t,rfl,Uo hF hvt.ok (by omega)⟩⟩
    ·rw [Ha,he',sb,B3 (by rfl),Uo hF hvt.ok (by omega),sb,Kf (by simp;omega) (by decide)];rfl
    ·unfold Ng;simp;omega
   ·refine ⟨[],e',?_,?_,he',hE.symm,by simp,fun h=>absurd h h0⟩
    ·have hck:Dc F (Jd t)=some (t,e'):=by
      rw [Dc,ht]
      cases t with
      | nil_=>exact absurd rfl hn
      | ic156 s=>show (Be F s).bind _=_;rw [show Be F s=some e' from he];rfl
      | ic158 s=>show (Ay F s).bind _=_;rw [show Ay F s=some e' from he];rfl
      | ic160 s=>show (B4 F s).bind _=_;rw [show B4 F s=some e' from he];rfl
     rw [D9,hck,sb,B1 (by simp [h0])]
    ·rw [Ha,he',sb,B1 (by simp [h0])]
 obtain ⟨a,e,h1,h2,h3,h4,h5,h6⟩:=key
 have hp:pkS F x=(a,e):=by unfold pkS;rw [h1];rfl
 rw [hp]
 exact ⟨h1,h2,h3,h4,h5,h6⟩
end Go.Proofs.YtifbomimeodibaaGreat
namespace Go.Proofs.YtifbomimeodibaaGreat
open Go Go.RowKit Go.Eng
set_option maxRecDepth 10000
set_option linter.unusedVariables false
set_option linter.unusedSimpArgs false
def Rs (F:Nat):List volume_Item→Int
 | []=>0
 | x::r=>if (pkS F x).2=0 then Rs F r else (pkS F x).2
def T2 (F:Nat) (l:List volume_Item):List Int:=l.flatMap fun x=>(pkS F x).1
def wrS (F:Nat) (acc:List Int) (l:List volume_Item):List Int×Int:=if Rs F l=0 then (if (acc++T2 F l).length>16777216 then ([],8) else (acc++T2 F l,0)) else ([],Rs F l)
theorem A0o {F:Nat} (hF:200000≤F) (l:List volume_Item) (hg:∀x∈l,Ta (toR x)) (hn:l.length≤1000):∀(m i:Nat) (acc:List Int),l.length-i<m→i≤l.length→acc.length≤100+40000*i →
  Fc F l m i acc=some (wrS F acc (l.drop i)):=by
 intro m
 induction m with
 | zero=>intro i acc h;omega
 | succ m ih =>
  intro i acc h hi ha
  rw [Fc,Ja]
  by_cases hb:i<l.length
  ·have hd:=List.drop_eq_getElem_cons hb
   obtain ⟨h1,h2,h3,h4,h5,h6⟩:=N4 hF (hg l[i] (List.getElem_mem hb))
   rw [B1 (dT (by omega)),Ec i l[i] rfl (List.getElem?_eq_getElem hb),h1,sb,hd]
   by_cases h0:(pkS F l[i]).2=0
   ·rw [B3 (by simp [h0]),Kf (by omega) (by decide),ckb (by omega),show ((i:Int)+1)=((i+1:Nat):Int) by omega]
    refine Eq.trans (ih (i+1) _ (by omega) (by omega) (by rw [List.length_append];omega)) ?_
    unfold wrS
    rw [Rs,if_pos h0]
    unfold T2
    rw [List.flatMap_cons,List.append_assoc]
   ·rw [B1 (by simp [h0])]
    unfold wrS
    rw [Rs,if_neg h0,if_neg h0]
  ·rw [B3 (dF (by omega)),Jb,List.drop_of_length_le (by omega)]
   unfold wrS
   rw [Rs,if_pos rfl]
   unfold T2
   rw [List.flatMap_nil,List.append_nil]
   by_cases hq:acc.length>16777216
   ·rw [B1 (dT (by omega)),if_pos hq]
   ·rw [B3 (dF (by omega)),if_neg hq]
theorem Xg {F:Nat} (hF:200000≤F) (l:List volume_Item) (hg:∀x∈l,Ta (toR x)) (hn:l.length≤1000) (h0:∀x∈l,(pkS F x).2=0):∀(m i:Nat) (acc:List Int),l.length-i<m→i≤l.length→acc.length≤100+40000*i →
  Fs F (l.map toR) m acc i=some (acc++T2 F (l.drop i)):=by
 intro m
 induction m with
 | zero=>intro i acc h;omega
 | succ m ih =>
  intro i acc h hi ha
  rw [Fs,L2,List.length_map]
  by_cases hb:i<l.length
  ·have hd:=List.drop_eq_getElem_cons hb
   obtain ⟨h1,h2,h3,h4,h5,h6⟩:=N4 hF (hg l[i] (List.getElem_mem hb))
   obtain ⟨t,e1,e2⟩:=h6 (h0 _ (List.getElem_mem hb))
   have hbl:(Ng t).length=(Pj t).length+1:=by unfold Ng;simp
   rw [e1] at h5
   rw [B1 (dT (by omega)),Ec i (toR l[i]) rfl (by rw [List.getElem?_map,List.getElem?_eq_getElem hb];rfl),Kf (by simp;omega) (by decide),e2,sb,Kf (by simp;omega) (by decide),ckb (by omega),show ((i:Int)+1)=((i+1:Nat):Int) by omega]
   refine Eq.trans (ih (i+1) _ (by omega) (by omega) (by simp;omega)) ?_
   rw [hd]
   unfold T2
   rw [List.flatMap_cons,e1]
   unfold Ng
   simp
  ·rw [B3 (dF (by omega)),L3,List.drop_of_length_le (by omega)];simp [T2]
theorem Za {F:Nat} (hF:200000≤F) (l:List volume_Item) (hg:∀x∈l,Ta (toR x)) (hn:l.length≤1000):∀(m i:Nat),l.length-i<m→i≤l.length →
  G6 F (l.map toR) m i=if Rs F (l.drop i)=0 then Hb F (l.map toR) else some ([],Rs F (l.drop i)):=by
 intro m
 induction m with
 | zero=>intro i h;omega
 | succ m ih =>
  intro i h hi
  rw [G6,K1,List.length_map]
  by_cases hb:i<l.length
  ·have hd:=List.drop_eq_getElem_cons hb
   obtain ⟨h1,h2,h3,h4,h5,h6⟩:=N4 hF (hg l[i] (List.getElem_mem hb))
   rw [B1 (dT (by omega)),Ec i (toR l[i]) rfl (by rw [List.getElem?_map,List.getElem?_eq_getElem hb];rfl),h3,sb,hd,Rs]
   by_cases h0:(pkS F l[i]).2=0
   ·rw [B3 (by simp [h0]),ckb (by omega),show ((i:Int)+1)=((i+1:Nat):Int) by omega,ih (i+1) (by omega) (by omega),if_pos h0]
   ·rw [B1 (by simp [h0]),if_neg h0,if_neg h0]
  ·rw [B3 (dF (by omega)),List.drop_of_length_le (by omega),Rs,if_pos rfl]
theorem Zl {F:Nat}:∀(l:List volume_Item),Rs F l=0→∀x∈l,(pkS F x).2=0:=by
 intro l
 induction l with
 | nil=>intro _ x hx;cases hx
 | cons y r ih =>
  intro h x hx
  rw [Rs] at h
  split at h
  ·rename_i h0
   rcases List.mem_cons.1 hx with rfl|hx
   ·exact h0
   ·exact ih h x hx
  ·rename_i h0;exact absurd h h0
theorem Zk {F:Nat} (hF:200000≤F):∀(l:List volume_Item),(∀x∈l,Ta (toR x))→(T2 F l).length≤40000*l.length:=by
 intro l
 induction l with
 | nil=>intro _;simp [T2]
 | cons y r ih =>
  intro hg
  have h1:=(N4 hF (hg y (by simp))).2.2.2.2.1
  have h2:=ih fun x hx=>hg x (by simp [hx])
  unfold T2 at *
  rw [List.flatMap_cons,List.length_append,List.length_cons]
  omega
theorem Wq {F:Nat} (hF:200000≤F) (l:List volume_Item) (hg:∀x∈l,Ta (toR x)):∃r,Et F l=some r∧Jl F (l.map toR)=some r∧r.1.length≤4+40000*l.length:=by
 by_cases hn:l.length>1000
 ·refine ⟨([],9),?_,?_,by simp⟩
  ·rw [Et,B1 (dT (by omega))]
  ·rw [Jl,List.length_map,B1 (dT (by omega))]
 ·refine ⟨wrS F RVF1 l,?_,?_,?_⟩
  ·rw [Et,B3 (dF (by omega)),show (0:Int)=((0:Nat):Int) from rfl]
   exact A0o hF l hg (by omega) F 0 RVF1 (by omega) (by omega) (by decide)
  ·rw [Jl,List.length_map,B3 (dF (by omega)),show (0:Int)=((0:Nat):Int) from rfl,Za hF l hg (by omega) F 0 (by omega) (by omega),List.drop_zero]
   unfold wrS
   by_cases h0:Rs F l=0
   ·have hf:=Xg hF l hg (by omega) (Zl l h0) F 0 RVF1 (by omega) (by omega) (by decide)
    rw [if_pos h0,if_pos h0,Hb,Nt]
    show (Fs F (l.map toR) F RVF1 ((0:Nat):Int)).bind _=_
    rw [hf,sb,List.drop_zero]
    by_cases hq:(RVF1++T2 F l).length>16777216
    ·rw [B1 (dT (by omega)),if_pos hq]
    ·rw [B3 (dF (by omega)),if_neg hq]
   ·rw [if_neg h0,if_neg h0]
  ·unfold wrS
   split
   ·split
    ·simp
    ·have:=Zk hF l hg
     have e4:RVF1.length=4:=rfl
     simp only [List.length_append];omega
   ·simp
theorem A0k {F:Nat} (hF:200000≤F) (l:List volume_Item) (hg:∀x∈l,Ta (toR x)) (hn:l.length≤1002):∀(m i:Nat),l.length-i<m→i≤l.length→D0 F (l.map toR) m i=Dw F (l.map toR):=by
 intro m
 induction m with
 | zero=>intro i h;omega
 | succ m ih =>
  intro i h hi
  rw [D0,F3,List.length_map]
  by_cases hb:i<l.length
  ·obtain ⟨h1,h2,h3,h4,h5,h6⟩:=N4 hF (hg l[i] (List.getElem_mem hb))
   have hgi:(l.map toR)[i]? = some (toR l[i]):=by rw [List.getElem?_map,List.getElem?_eq_getElem hb];rfl
   have hC:K7 F l[i]=some (pkS F l[i]).2:=h4
   rw [B1 (dT (by omega)),Ec i (toR l[i]) rfl hgi]
   show ((D9 F l[i]).bind _)=_
   rw [h1,sb,Ec i (toR l[i]) rfl hgi,h2,sb,V9 (by omega) (by omega),sb,dT rfl]
   rw [R8,B3 (by rfl),Ec i (toR l[i]) rfl hgi]
   show ((K7 F l[i]).bind _)=_
   rw [hC,sb,Ec i (toR l[i]) rfl hgi,h3,sb,R8,B3 (by rfl),ckb (by omega),show ((i:Int)+1)=((i+1:Nat):Int) by omega]
   exact ih (i+1) (by omega) (by omega)
  ·rw [B3 (dF (by omega))]
def ofR (x:ref12_Item):volume_Item:=⟨x.Kind,x.Name,x.Time,x.Sweep,x.Field,x.Text⟩
theorem Yu (l:List ref12_Item):(l.map ofR).map toR=l:=by
 rw [List.map_map]
 have:(toR∘ofR)=id:=by funext x;rfl
 rw [this,List.map_id]
theorem A1c (l:List ref12_Item) (f:ref12_Item→Nat):∀x∈l,f x≤(l.map f).sum:=by
 induction l with
 | nil=>intro x hx;cases hx
 | cons y r ih =>
  intro x hx
  rw [List.map_cons,List.sum_cons]
  rcases List.mem_cons.1 hx with rfl|hx
  ·omega
  ·have:=ih x hx;omega
theorem Sg (l:List ref12_Item) (hl:∀x∈l,x.Sweep.Rays.length≤9223372036854775807):∃F,Ex F l=some true:=by
 refine ⟨(l.map fun x=>x.Sweep.Rays.length).sum+FV+1000000,?_⟩
 have hFV:FV=200000:=rfl
 obtain ⟨F,hFe⟩:∃F,F=(l.map fun x=>x.Sweep.Rays.length).sum+FV+1000000:=⟨_,rfl⟩
 have hw:H6 F=some true:=by
  have:=Y0 ((l.map fun x=>x.Sweep.Rays.length).sum+1000000)
  rwa [show (l.map fun x=>x.Sweep.Rays.length).sum+1000000+FV=F by omega] at this
 rw [←hFe]
 have hF:200000≤F:=by omega
 obtain ⟨c,h1,h2⟩:=Xp (F:=F) (by omega) l (fun x hx=>⟨hl x hx,by have:=A1c l (fun x=>x.Sweep.Rays.length) x hx;omega⟩)
 rw [Ex,h1,sb]
 cases c with
 | false=>rw [B1 (by rfl),hw];rfl
 | true =>
  obtain ⟨h3,h4,h5⟩:=h2 rfl
  rw [B3 (by rfl),←Yu l]
  have hg:∀x∈l.map ofR,Ta (toR x):=fun x hx=>by
   obtain ⟨y,hy,rfl⟩:=List.mem_map.1 hx
   exact h5 y hy
  have hlen:(l.map ofR).length=l.length:=List.length_map ..
  generalize l.map ofR=xs at *
  obtain ⟨r,k1,k2,k3⟩:=Wq hF xs hg
  have hr:r.1.length<F:=by
   by_cases hn:xs.length≤12
   ·omega
   ·have:Et F xs=some ([],9):=by rw [Et,B1 (dT (by omega))]
    rw [this] at k1
    cases k1
    simp;omega
  have hr9:r.1.length≤1000000000:=by
   by_cases hn:xs.length≤12
   ·omega
   ·omega
  rw [show (0:Int)=((0:Nat):Int) from rfl,A0k hF xs hg (by omega) F 0 (by omega) (by omega),Dw,Zw (by omega) (by omega),sb,k1,sb,k2,sb,V9 hr hr9,sb,dT rfl]
  show ((gd (((bif true then (r.2==r.2) else false)==true&&true)) (H6 F) default).bind fun y201=>some (bif (bif true then (r.2==r.2) else false) then y201 else false))=_
  rw [show (r.2==r.2)=true by simp,gdT (by rfl),hw,sb]
  rfl
end Go.Proofs.YtifbomimeodibaaGreat
