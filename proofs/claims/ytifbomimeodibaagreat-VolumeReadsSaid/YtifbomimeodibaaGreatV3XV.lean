import Derived.Test.YtifbomimeodibaaGreatV3XD
import Derived.Lib.DecodeN
set_option linter.unusedVariables false
set_option linter.unusedSimpArgs false
set_option linter.unusedSectionVars false
namespace Go.Proofs.YtifbomimeodibaaGreat
open Go Go.RowKit Go.Eng
set_option maxRecDepth 10000
set_option linter.unusedVariables false
set_option linter.unusedSimpArgs false
theorem ckb {β:Type} {x:Int} {f:Int→Option β} (h:-9000000000000000000≤x∧x≤9000000000000000000):(ck x).bind f=f x:=by
 unfold ck;rw [if_pos (by omega)];rfl
theorem gdT {α:Type} {g:Bool} {o:Option α} {d:α} (h:g=true):gd g o d=o:=by subst h;rfl
theorem gdF {α:Type} {g:Bool} {o:Option α} {d:α} (h:g=false):gd g o d=some d:=by subst h;rfl
theorem Ax {α:Type} {c:Bool} {x y:α} (h:c=true):(bif c then x else y)=x:=by rw [h];rfl
theorem Aw {α:Type} {c:Bool} {x y:α} (h:c=false):(bif c then x else y)=y:=by rw [h];rfl
theorem sb {α β:Type} {x:α} {f:α→Option β}:(some x).bind f=f x:=rfl
theorem dT {p:Prop} [Decidable p] (h:p):decide p=true:=decide_eq_true h
theorem dF {p:Prop} [Decidable p] (h:¬p):decide p=false:=decide_eq_false h
theorem Jk {α β:Type} {l:List α} {i:Int} {f:α→Option β} (n:Nat) (x:α) (hi:i=(n:Int)) (h:l[n]? = some x):(Cj l i).bind f=f x:=by
 subst hi
 unfold Cj
 rw [if_pos (by omega),show ((n:Int)).toNat=n by omega,h]
 rfl
theorem Pl {α β:Type} {l k:List α} {B:Nat} {f:List α→Option β} (h:(l.length+k.length)*B≤140737488355328) (hB:1≤B):(apd B l k).bind f=f (l++k):=by
 unfold apd
 have:l.length+k.length≤(l.length+k.length)*B:=Nat.le_mul_of_pos_right _ hB
 rw [if_pos ⟨h,by omega⟩]
 rfl
theorem W8 {α β:Type} {l:List α} {i j:Int} {f:List α→Option β} (m n:Nat) (hi:i=(m:Int)) (hj:j=(n:Int)) (h:m≤n∧n≤l.length):(Gk l i j).bind f=f ((l.drop m).take (n-m)):=by
 subst hi;subst hj
 unfold Gk
 rw [if_pos (by omega)]
 rfl
theorem N6 {α β:Type} {l:List α} {i j:Int} {f:List α→Option β} (n:Nat) (hi:i=0) (hj:j=(n:Int)) (h:n≤l.length):(Gk l i j).bind f=f (l.take n):=by
 rw [W8 0 n hi hj ⟨Nat.zero_le _,h⟩];simp
theorem Lt {α β:Type} {l:List α} {i j:Int} {f:List α→Option β} (m:Nat) (hi:i=(m:Int)) (hj:j=(l.length:Int)) (h:m≤l.length):(Gk l i j).bind f=f (l.drop m):=by
 rw [W8 m l.length hi hj ⟨h,Nat.le_refl _⟩,List.take_of_length_le (by simp)]
def FV:Nat:=200000
def By (l:List Int):Prop:=∀x∈l,0≤x∧x<256
theorem By.app {l k:List Int} (h:By l) (h':By k):By (l++k):=fun x hx=>(List.mem_append.1 hx).elim (h x) (h' x)
theorem Xm {x:Int} (h:0≤x∧x<256):IntKind.u8.wrap x=x:=by
 have:=h.1;have:=h.2
 simp only [IntKind.wrap,IntKind.signed,IntKind.bits]
 simp
 omega
def Nw (n:Nat):List Int:=if h:n<127 then [(n:Int)+1] else (128+((n%127:Nat):Int))::Nw (n/127)
termination_by n
theorem Xd {n:Nat} (h:n<127):Nw n=[(n:Int)+1]:=by rw [Nw,dif_pos h]
theorem A0t {n:Nat} (h:127≤n):Nw n=(128+((n%127:Nat):Int))::Nw (n/127):=by rw [Nw,dif_neg (by omega)]
theorem Zc:∀(k n:Nat),n<127 ^ (k+1)→(Nw n).length≤k+1:=by
 intro k
 induction k with
 | zero=>intro n h;rw [Xd (by simpa using h)];simp
 | succ k ih =>
  intro n h
  by_cases hn:n<127
  ·rw [Xd hn];simp
  ·rw [A0t (by omega),List.length_cons]
   have:=ih (n/127) (Nat.div_lt_of_lt_mul (by rw [Nat.pow_succ] at h;omega))
   omega
theorem tdm (n:Nat):Mr (n:Int) 127=some ((n%127:Nat):Int)∧Lv (n:Int) 127=ck ((n/127:Nat):Int):=by
 unfold Mr Lv
 rw [if_neg (by decide),if_neg (by decide)]
 exact ⟨by congr 1,by congr 1⟩
def okN (x:Int):Prop:=0≤x∧x≤4611686018427387904
def Ut (l:List Int):List Int:=l.flatMap fun x=>Nw x.toNat
theorem L3 {x:Int} (h:okN x):(Nw x.toNat).length≤9:=Zc 8 x.toNat (by have:=h.1;have:=h.2;omega)
def zig (x:Int):Nat:=if x<0 then (-2*x-1).toNat else (2*x).toNat
def okZ (x:Int):Prop:=-2305843009213693952≤x∧x≤2305843009213693952
theorem A0f {x:Int} (h:okZ x):okN (zig x:Int):=by
 unfold okZ at h;unfold okN zig;split<;>omega
def okS (s:api_Span):Prop:=-1000000000000000000≤s.Lo∧s.Lo≤s.Hi∧s.Hi≤1000000000000000000
def Qs (s:api_Span):List Int:=Nw (zig s.Lo)++Nw (s.Hi-s.Lo).toNat
theorem Kw {s:api_Span} (hs:okS s):(Qs s).length≤18:=by
 obtain ⟨h1,h2,h3⟩:=hs
 have h8:=L3 (A0f (x:=s.Lo) ⟨by omega,by omega⟩)
 have h9:=L3 (x:=s.Hi-s.Lo) ⟨by omega,by omega⟩
 rw [Int.toNat_natCast] at h8
 unfold Qs;rw [List.length_append];omega
end Go.Proofs.YtifbomimeodibaaGreat
namespace Go.Proofs.YtifbomimeodibaaGreat
open Go Go.RowKit Go.Eng
set_option maxRecDepth 10000
set_option linter.unusedVariables false
set_option linter.unusedSimpArgs false
def X5 (x:api_Echo):List Int:=Nw x.Kind.toNat++if x.Kind=1 then Nw x.Power.Hi.toNat else Qs x.Power++(Qs x.Ratio++(Qs x.Match++(Nw x.Spread.toNat++if x.Kind=3 then Qs x.Steps.1++(Qs x.Steps.2++Qs x.Turn) else [])))
def okE (x:api_Echo):Prop:=okN x.Kind∧okN x.Power.Hi∧okN x.Spread∧okS x.Power∧okS x.Ratio∧okS x.Match∧okS x.Steps.1∧okS x.Steps.2∧okS x.Turn
theorem Xs {x:api_Echo} (hx:okE x):(X5 x).length≤130:=by
 obtain ⟨h1,h2,h3,h4,h5,h6,h7,h8,h9⟩:=hx
 have a1:=L3 h1
 have a2:=L3 h2
 have a3:=L3 h3
 have a4:=Kw h4
 have a5:=Kw h5
 have a6:=Kw h6
 have a7:=Kw h7
 have a8:=Kw h8
 have a9:=Kw h9
 unfold X5
 split
 ·simp;omega
 ·split<;>simp<;>omega
def Wo {α:Type} [DecidableEq α] (e:α→List Int):α→Nat→List α→List Int
 | _,n,[]=>if n=0 then [] else Nw n
 | b,n,x::l=>if x=b then Wo e b (n+1) l else Nw n++(e x++Wo e x 0 l)
theorem Vq {α:Type} [DecidableEq α] {e:α→List Int} {c:Nat}:∀(l:List α) (b:α) (n:Nat),(∀x∈l,(e x).length≤c)→n+l.length≤1000000000→(Wo e b n l).length≤9+(c+9)*l.length:=by
 intro l
 induction l with
 | nil =>
  intro b n h hn
  have:=L3 (x:=(n:Int)) ⟨by omega,by simp at hn;omega⟩
  rw [Wo]
  split<;>simp at*<;>omega
 | cons x l ih =>
  intro b n h hn
  have h1:=L3 (x:=(n:Int)) ⟨by omega,by simp at hn;omega⟩
  have h2:=h x (by simp)
  have hm:(c+9)*(l.length+1)=(c+9)*l.length+(c+9):=by rw [Nat.mul_add,Nat.mul_one]
  rw [Wo]
  simp only [List.length_cons] at hn ⊢
  rw [hm]
  split
  ·have:=ih b (n+1) (fun y hy=>h y (by simp [hy])) (by omega)
   omega
  ·have:=ih x 0 (fun y hy=>h y (by simp [hy])) (by omega)
   simp at h1 ⊢
   omega
theorem V1 (u b:api_Span):(((u.Lo:Int)==b.Lo)&&(((u.Hi:Int)==b.Hi)&&true))=decide (u=b):=by
 cases u;cases b
 rw [Bool.eq_iff_iff]
 simp
theorem Un (u b:api_Echo):(((u.Kind:Int)==b.Kind)&&((((u.Power.Lo:Int)==b.Power.Lo)&&(((u.Power.Hi:Int)==b.Power.Hi)&&true))&&(((((u.Steps.1.Lo:Int)==b.Steps.1.Lo)&&(((u.Steps.1.Hi:Int)==b.Steps.1.Hi)&&true))&&((((u.Steps.2.Lo:Int)==b.Steps.2.Lo)&&(((u.Steps.2.Hi:Int)==b.Steps.2.Hi)&&true))&&true))&&(((u.Spread:Int)==b.Spread)&&((((u.Ratio.Lo:Int)==b.Ratio.Lo)&&(((u.Ratio.Hi:Int)==b.Ratio.Hi)&&true))&&((((u.Match.Lo:Int)==b.Match.Lo)&&(((u.Match.Hi:Int)==b.Match.Hi)&&true))&&((((u.Turn.Lo:Int)==b.Turn.Lo)&&(((u.Turn.Hi:Int)==b.Turn.Hi)&&true))&&true)))))))=decide (u=b):=by
 rcases u with ⟨k,⟨p1,p2⟩,⟨⟨s1,s2⟩,⟨s3,s4⟩⟩,sp,⟨r1,r2⟩,⟨m1,m2⟩,⟨t1,t2⟩⟩
 rcases b with ⟨k',⟨p1',p2'⟩,⟨⟨s1',s2'⟩,⟨s3',s4'⟩⟩,sp',⟨r1',r2'⟩,⟨m1',m2'⟩,⟨t1',t2'⟩⟩
 rw [Bool.eq_iff_iff]
 simp [and_assoc]
def e0:api_Echo:=⟨1,⟨0,0⟩,(⟨0,0⟩,⟨0,0⟩),0,⟨0,0⟩,⟨0,0⟩,⟨0,0⟩⟩
def W2 (s:ByteArray):List Int:=Nw s.size++sby s
def Z4 (l:List Int):List Int:=l.flatMap fun x=>Nw (zig x)
def Wt (s:api_Sweep):List Int:=Ut [1]++(W2 s.Site.Name++(Z4 [s.Site.X,s.Site.Y]++(Ut [s.Site.Z,s.Site.Rose,s.Site.Gates,s.Site.Step,s.Site.Width,s.Tilt,s.Time]++Wo X5 e0 0 s.Rays.flatten)))
def Wc (f:volume_field):List Int:=Ut [2]++(W2 f.key++(Ut [f.time]++(Z4 [f.Field.Grid.X,f.Field.Grid.Y]++(Ut [f.Field.Grid.Size,f.Field.Grid.Wide,f.Field.Grid.High]++Wo Qs ⟨0,0⟩ 0 f.Field.Vals))))
def Zb (n:volume_note):List Int:=Ut [3,n.time]++W2 n.text
def V3 (t:volume_thing):List Int:=t.cs [] (fun s=>Wt s.Sweep) Wc Zb
def A2f (s:api_Site):Prop:=s.Name.size≤1000∧okZ s.X∧okZ s.Y∧okN s.Z∧okN s.Rose∧okN s.Gates∧okN s.Step∧okN s.Width
def Xf (s:api_Sweep):Prop:=A2f s.Site∧okN s.Tilt∧okN s.Time∧s.Rays.length≤1000∧s.Rays.flatten.length≤100000∧∀r∈s.Rays,∀x∈r,okE x
def Xe (f:volume_field):Prop:=f.key.size≤1000∧okN f.time∧okZ f.Field.Grid.X∧okZ f.Field.Grid.Y∧okN f.Field.Grid.Size∧okN f.Field.Grid.Wide∧okN f.Field.Grid.High∧f.Field.Vals.length≤100000∧∀x∈f.Field.Vals,okS x
def Zg (n:volume_note):Prop:=okN n.time∧n.text.size≤1000
def okT (t:volume_thing):Prop:=t.cs False (fun s=>Xf s.Sweep) Xe Zg
theorem N9 {l:List Int} (h:∀x∈l,okN x):(Ut l).length≤9*l.length:=by
 induction l with
 | nil=>simp [Ut]
 | cons x l ih =>
  have h1:=L3 (h x (by simp))
  have h2:=ih fun y hy=>h y (by simp [hy])
  simp only [Ut,List.flatMap_cons,List.length_append,List.length_cons] at h2 ⊢
  omega
theorem Ve {l:List Int} (h:∀x∈l,okZ x):(Z4 l).length≤9*l.length:=by
 induction l with
 | nil=>simp [Z4]
 | cons x l ih =>
  have h1:=L3 (A0f (h x (by simp)))
  rw [Int.toNat_natCast] at h1
  have h2:=ih fun y hy=>h y (by simp [hy])
  simp only [Z4,List.flatMap_cons,List.length_append,List.length_cons] at h2 ⊢
  omega
theorem Sc {s:ByteArray} (h:s.size≤1000):(W2 s).length≤1009:=by
 have h9:=L3 (x:=(s.size:Int)) ⟨by omega,by omega⟩
 rw [Int.toNat_natCast] at h9
 unfold W2
 rw [List.length_append,M0];omega
theorem S5 {x:Int} (h:0≤x∧x≤1000000):okN x:=⟨h.1,by omega⟩
end Go.Proofs.YtifbomimeodibaaGreat
namespace Go.Proofs.YtifbomimeodibaaGreat
open Go Go.RowKit Go.Eng
set_option maxRecDepth 10000
set_option linter.unusedVariables false
set_option linter.unusedSimpArgs false
def V2:Nat→List Int→Nat
 | c,[]=>c
 | c,x::l=>V2 ((31*c+x.toNat)%2147483647) l
def Ws (c:Nat):List Int:=[128+((c%127:Nat):Int),128+((c/127%127:Nat):Int),128+((c/127/127%127:Nat):Int),128+((c/127/127/127%127:Nat):Int),1+((c/127/127/127/127%127:Nat):Int)]
def W0 (l:List Int):List Int:=Ws (V2 1 l)
theorem A3j {α β:Type} {l:List α} {i:Int} {x:α} {f:List α→Option β} (n:Nat) (hi:i=(n:Int)) (h:n<l.length):(Uz l i x).bind f=f (l.set n x):=by
 subst hi
 unfold Uz
 rw [if_pos (by omega)]
 rfl
theorem A15 (F:Nat) (hF:10≤F) (c:Nat) (hc:c<2147483647):Ex F 5 0 c (List.replicate 5 0)=some (Ws c):=by
 obtain ⟨G,rfl⟩:∃G,F=G+6:=⟨F-6,by omega⟩
 have step:∀(m i d:Nat) (l:List Int),i<5→l.length=5→d<2147483647→Ex (m+1) 5 i d l=Ex m 5 (i+1:Nat) (d/127:Nat) (l.set i (128+((d%127:Nat):Int))):=by
  intro m i d l hi hl hd
  rw [Ex,Jp,Ax (dT (by omega)),(tdm d).1,sb]
  have:=Nat.mod_lt d (show 0<127 by decide)
  rw [ckb (by omega),Jk i l[i] rfl (List.getElem?_eq_getElem (by omega)),A3j i rfl (by omega),(tdm d).2,ckb (by omega),ckb (by omega),Xm (by omega)]
  rfl
 rw [show (0:Int)=((0:Nat):Int) from rfl,step (G+5) 0 c _ (by decide) (by simp) hc,step (G+4) 1 _ _ (by decide) (by simp) (by omega),step (G+3) 2 _ _ (by decide) (by simp) (by omega),step (G+2) 3 _ _ (by decide) (by simp) (by omega),step (G+1) 4 _ _ (by decide) (by simp) (by omega)]
 rw [Ex,Jp,Aw (dF (by decide)),Lc]
 simp only [List.replicate,List.set_cons_zero,List.set_cons_succ]
 have h4:(128:Int)+((c/127/127/127/127%127:Nat):Int)-127=1+((c/127/127/127/127%127:Nat):Int):=by omega
 have:=Nat.mod_lt (c/127/127/127/127) (show 0<127 by decide)
 rw [Jk 4 (128+((c/127/127/127/127%127:Nat):Int)) (by decide) (by rfl),Jk 4 (128+((c/127/127/127/127%127:Nat):Int)) (by decide) (by rfl),A3j 4 (by decide) (by simp),h4,Xm (by omega)]
 rfl
theorem A16 (F:Nat) (hF:10≤F) (p:List Int) (hp:By p) (hpl:p.length≤1000000000):∀(m i c:Nat),p.length-i<m→i≤p.length→c<2147483647→Hq F p m i c=some (Ws (V2 c (p.drop i))):=by
 intro m
 induction m with
 | zero=>intro i c h;omega
 | succ m ih =>
  intro i c h hi hc
  rw [Hq,La]
  by_cases hb:i<p.length
  ·have hx:=hp p[i] (List.getElem_mem hb)
   rw [Ax (dT (by omega)),Jk i p[i] rfl (List.getElem?_eq_getElem hb),ckb (by omega),ckb (by omega),ckb (by omega)]
   have e:Mr (31*(c:Int)+p[i]) 2147483647=some (((31*c+p[i].toNat)%2147483647:Nat):Int):=by
    have e1:31*(c:Int)+p[i]=((31*c+p[i].toNat:Nat):Int):=by omega
    rw [e1]
    unfold Mr
    rw [if_neg (by decide)]
    congr 1
   rw [e,sb,ckb (by omega)]
   have:=ih (i+1) _ (by omega) (by omega) (Nat.mod_lt (31*c+p[i].toNat) (show 0<2147483647 by decide))
   rw [show ((i:Int)+1)=((i+1:Nat):Int) by omega,this,List.drop_eq_getElem_cons hb]
   rfl
  ·rw [Aw (dF (by omega)),Lb,List.drop_of_length_le (by omega)]
   show (mkI 1 5 0).bind _=_
   rw [show mkI 1 5 (0:Int)=some (List.replicate 5 0) from by unfold mkI;rw [if_pos (by decide)];rfl,sb]
   exact A15 F hF c hc
theorem A2q {F:Nat} (hF:10≤F) {p:List Int} (hp:By p) (hl:p.length<F) (hl9:p.length≤1000000000):Ky F p=some (W0 p):=by
 rw [Ky]
 exact A16 F hF p hp hl9 F 0 1 (by omega) (by omega) (by decide)
def Nz (l:List Int):Prop:=∀x∈l,1≤x∧x<256
theorem Nz.by {l:List Int} (h:Nz l):By l:=fun x hx=>by have:=h x hx;omega
theorem Nz.app {l k:List Int} (h:Nz l) (h':Nz k):Nz (l++k):=fun x hx=>(List.mem_append.1 hx).elim (h x) (h' x)
theorem Nz.nil:Nz []:=fun x hx=>by cases hx
theorem A1a (l:List Int):Nz (W0 l):=by
 have h:∀c:Nat,(0:Int)≤((c%127:Nat):Int)∧((c%127:Nat):Int)<127:=fun c=>by have:=Nat.mod_lt c (show 0<127 by decide);omega
 intro x hx
 unfold W0 Ws at hx
 simp only [List.mem_cons,List.not_mem_nil,or_false] at hx
 rcases hx with rfl|rfl|rfl|rfl|rfl
 ·have:=h (V2 1 l);omega
 ·have:=h (V2 1 l/127);omega
 ·have:=h (V2 1 l/127/127);omega
 ·have:=h (V2 1 l/127/127/127);omega
 ·have:=h (V2 1 l/127/127/127/127);omega
def Tz (s:ByteArray):Prop:=Nz (sby s)
def tzT (t:volume_thing):Prop:=t.cs True (fun s=>Tz s.Sweep.Site.Name) (fun f=>Tz f.key) (fun n=>Tz n.text)
def cnt (t:volume_thing):Nat:=t.cs 0 (fun s=>s.Sweep.Rays.flatten.length) (fun f=>f.Field.Vals.length) (fun _=>0)
theorem W3 {t:volume_thing} (h:okT t):(V3 t).length≤1200+139*cnt t:=by
 cases t with
 | nil_=>exact h.elim
 | ic156 s =>
  obtain ⟨⟨a1,a2,a3,a4,a5,a6,a7,a8⟩,h2,h3,h4,h5,h6⟩:=(show Xf s.Sweep from h)
  have l1:=N9 (l:=[(1:Int)]) (by intro x hx;simp at hx;subst hx;exact S5 (by decide))
  have l2:=Sc a1
  have l3:=Ve (l:=[s.Sweep.Site.X,s.Sweep.Site.Y]) (by intro x hx;simp at hx;rcases hx with rfl|rfl<;>assumption)
  have l4:=N9 (l:=[s.Sweep.Site.Z,s.Sweep.Site.Rose,s.Sweep.Site.Gates,s.Sweep.Site.Step,s.Sweep.Site.Width,s.Sweep.Tilt,s.Sweep.Time]) (by intro x hx;simp at hx;rcases hx with rfl|rfl|rfl|rfl|rfl|rfl|rfl<;>assumption)
  have l5:=Vq (e:=X5) (c:=130) s.Sweep.Rays.flatten e0 0 (fun x hx=>Xs (by obtain ⟨r,hr,hx⟩:=List.mem_flatten.1 hx;exact h6 r hr x hx)) (by omega)
  simp only [List.length_cons,List.length_nil] at l1 l3 l4
  show (Wt s.Sweep).length≤1200+139*s.Sweep.Rays.flatten.length
  simp only [Wt,List.length_append]
  omega
 | ic158 f =>
  obtain ⟨a1,a2,a3,a4,a5,a6,a7,a8,a9⟩:=(show Xe f from h)
  have l1:=N9 (l:=[(2:Int)]) (by intro x hx;simp at hx;subst hx;exact S5 (by decide))
  have l2:=Sc a1
  have l3:=Ve (l:=[f.Field.Grid.X,f.Field.Grid.Y]) (by intro x hx;simp at hx;rcases hx with rfl|rfl<;>assumption)
  have l4:=N9 (l:=[f.Field.Grid.Size,f.Field.Grid.Wide,f.Field.Grid.High]) (by intro x hx;simp at hx;rcases hx with rfl|rfl|rfl<;>assumption)
  have l6:=N9 (l:=[f.time]) (by intro x hx;simp at hx;subst hx;exact a2)
  have l5:=Vq (e:=Qs) (c:=18) f.Field.Vals ⟨0,0⟩ 0 (fun x hx=>Kw (a9 x hx)) (by omega)
  simp only [List.length_cons,List.length_nil] at l1 l3 l4 l6
  show (Wc f).length≤1200+139*f.Field.Vals.length
  simp only [Wc,List.length_append]
  omega
 | ic160 n =>
  obtain ⟨a1,a2⟩:=(show Zg n from h)
  have l1:=N9 (l:=[(3:Int),n.time]) (by intro x hx;simp at hx;rcases hx with rfl|rfl;(exact S5 (by decide));exact a1)
  have l2:=Sc a2
  simp only [List.length_cons,List.length_nil] at l1
  show (Zb n).length≤1200+139*0
  simp only [Zb,List.length_append]
  omega
def A1p (b:List Int):List Int:=Nw b.length++b
def A2h (t:volume_thing):List Int:=A1p (V3 t)++W0 (A1p (V3 t))
end Go.Proofs.YtifbomimeodibaaGreat
namespace Go.Proofs.YtifbomimeodibaaGreat
open Go Go.RowKit Go.Eng
set_option maxRecDepth 10000
set_option linter.unusedVariables false
set_option linter.unusedSimpArgs false
abbrev RE (α:Type):=Option (Except (Value×volume_reader) (α×volume_reader))
def W7:Value:=.iface 128 (.int .i64 7)
def Rd {α:Type} (y:RE α) (o:Option (α×List Int)):Prop:=match o with
 | some x=>y=some (.ok (x.1,⟨x.2⟩))
 | none=>∃r,y=some (.error (W7,r))
theorem Rd.bind {α β:Type} {y:RE α} {o:Option (α×List Int)} (h:Rd y o) {f:α×volume_reader→RE β} {g:α×List Int→Option (β×List Int)} (hf:∀x r,o=some (x,r)→Rd (f (x,⟨r⟩)) (g (x,r))) :
  Rd (y.bind fun z=>exc z (fun e=>some (.error (e.1,volume_reader.mk e.2.b))) f) (o.bind g):=by
 cases o with
 | none=>obtain ⟨r,hr⟩:=h;rw [hr];exact ⟨_,rfl⟩
 | some x =>
  rw [show y=some (.ok (x.1,⟨x.2⟩)) from h]
  exact hf x.1 x.2 rfl
theorem Rd.ok {α:Type} {x:α} {r:List Int}:Rd (some (.ok (x,⟨r⟩))) (some (x,r)):=rfl
theorem Rd.bad {α:Type} {r:volume_reader}:Rd (α:=α) (some (.error (W7,r))) none:=⟨r,rfl⟩
theorem By.suf {l k:List Int} (h:By l) (hs:k <:+ l):By k:=fun x hx=>h x (hs.subset hx)
def rD:Nat→Bool→List Int→Option (Int×List Int)
 | 0,_,_=>none
 | _+1,_,[]=>none
 | k+1,f,c::l=>if c=0∨c=255∨(c=1∧f=false) then none else if c<128 then some (c-1,l) else (rD k false l).map fun y=>(c-128+127*y.1,y.2)
def rN (l:List Int):Option (Int×List Int):=rD 8 true l
theorem A3b:∀(k:Nat) (f:Bool) (l:List Int) (x:Int) (r:List Int),By l→rD k f l=some (x,r)→0≤x∧x<127 ^ k∧r <:+ l:=by
 intro k
 induction k with
 | zero=>intro f l x r _ h;cases h
 | succ k ih =>
  intro f l x r hb h
  cases l with
  | nil=>cases h
  | cons c l =>
   have hc:=hb c (by simp)
   have hp:(0:Int)<127 ^ k:=Int.pow_pos (by decide)
   rw [rD] at h
   split at h
   ·cases h
   ·rename_i g1
    have g2:c≠0:=fun e=>g1 (.inl e)
    have g3:c≠255:=fun e=>g1 (.inr (.inl e))
    rw [Int.pow_succ]
    split at h
    ·cases h
     exact ⟨by omega,by omega,List.suffix_cons ..⟩
    ·obtain ⟨z,hz,he⟩:=Option.map_eq_some_iff.1 h
     cases he
     obtain ⟨h1,h2,h3⟩:=ih false l z.1 z.2 (fun x hx=>hb x (by simp [hx])) hz
     exact ⟨by omega,by omega,h3.trans (List.suffix_cons ..)⟩
theorem Ft {l:List Int} {x:Int} {r:List Int} (hb:By l) (h:rN l=some (x,r)):0≤x∧x<67675234241018881∧r <:+ l:=by
 have:=A3b 8 true l x r hb h
 exact this
theorem A2k (p:List Int) (hp:By p):∀(m i k:Nat) (n:Int),i+k=8→k<m→0≤n→n≤127 ^ i →
  Rd (Bh ⟨p⟩ (p.take 8) m i n (127 ^ i:Nat)) ((rD k (i==0) (p.drop i)).map fun y=>(n+127 ^ i*y.1,y.2)):=by
 intro m
 induction m with
 | zero=>intro i k n _ h;omega
 | succ m ih =>
  intro i k n hik hk hn0 hn
  rw [Bh,Er]
  have hpi:(127:Int) ^ i≤127 ^ 8:=by
   have:(127:Nat) ^ i≤127 ^ 8:=Nat.pow_le_pow_right (by decide) (by omega)
   exact_mod_cast this
  have e8:(127:Int) ^ 8=67675234241018881:=by decide
  have hp0:(0:Int)<127 ^ i:=Int.pow_pos (by decide)
  have ecast:((127 ^ i:Nat):Int)=127 ^ i:=by push_cast;rfl
  rw [ecast]
  by_cases hb:i<(p.take 8).length
  ·have hb':i<p.length∧i<8:=by rw [List.length_take] at hb;omega
   obtain ⟨k,rfl⟩:∃k',k=k'+1:=⟨k-1,by omega⟩
   have hx:=hp p[i] (List.getElem_mem hb'.1)
   rw [Ax (dT (by omega)),Jk i p[i] rfl (by rw [List.getElem?_take];rw [if_pos hb'.2];exact List.getElem?_eq_getElem hb'.1),List.drop_eq_getElem_cons hb'.1,rD]
   have hp7:(127:Int) ^ i≤127 ^ 7:=by
    have:(127:Nat) ^ i≤127 ^ 7:=Nat.pow_le_pow_right (by decide) (by omega)
    exact_mod_cast this
   have e7:(127:Int) ^ 7=532875860165503:=by decide
   have hmul:p[i]*127 ^ i≤256*127 ^ i:=Int.mul_le_mul_of_nonneg_right (by omega) (by omega)
   have hmul0:0≤p[i]*127 ^ i:=Int.mul_nonneg (by omega) (by omega)
   by_cases hc:p[i]=0∨p[i]=255∨(p[i]=1∧(i==0)=false)
   ·rw [if_pos hc,Ax ?_]
    ·exact Rd.bad
    ·rcases hc with h|h|⟨h1,h2⟩
     ·simp [h]
     ·simp [h]
     ·simp at h2
      simp [h1];omega
   ·rw [if_neg hc,Aw ?_]
    ·by_cases hs:p[i]<128
     ·have e1:(p[i]-1)*127 ^ i=p[i]*127 ^ i-127 ^ i:=by rw [Int.sub_mul,Int.one_mul]
      rw [if_pos hs,Ax (dT hs),ckb (by omega),Lt (i+1) (by omega) rfl (by simp;omega),ckb (by omega),ckb (by omega),ckb (by omega),ckb (by omega)]
      show some (Except.ok (n+(p[i]-1)*127 ^ i,volume_reader.mk (p.drop (i+1))))=some (.ok (n+127 ^ i*(p[i]-1),⟨p.drop (i+1)⟩))
      rw [Int.mul_comm (127 ^ i) (p[i]-1)]
     ·have e1:(p[i]-128)*127 ^ i=p[i]*127 ^ i-128*127 ^ i:=by rw [Int.sub_mul]
      have e2:(p[i]-128)*127 ^ i≤126*127 ^ i:=Int.mul_le_mul_of_nonneg_right (by have:p[i]≠255:=fun e=>hc (.inr (.inl e));omega) (by omega)
      have e3:0≤(p[i]-128)*127 ^ i:=Int.mul_nonneg (by omega) (by omega)
      have e4:(127:Int) ^ (i+1)=127 ^ i*127:=Int.pow_succ ..
      rw [if_neg hs,Aw (dF hs),Et,ckb (by omega),ckb (by omega),ckb (by omega),ckb (by omega),ckb (by omega),ckb (by omega)]
      have:=ih (i+1) k (n+(p[i]-128)*127 ^ i) (by omega) (by omega) (by omega) (by rw [e4];omega)
      have ecast2:((127 ^ (i+1):Nat):Int)=127 ^ i*127:=by rw [←e4];push_cast;rfl
      rw [ecast2] at this
      rw [show ((i:Int)+1)=((i+1:Nat):Int) by omega]
      rw [Option.map_map]
      have ef:(i+1==0)=false:=rfl
      rw [ef] at this
      cases hr:rD k false (p.drop (i+1)) with
      | none=>rw [hr] at this;exact this
      | some y =>
       rw [hr] at this
       have this':_=some (Except.ok (n+(p[i]-128)*127 ^ i+127 ^ (i+1)*y.1,volume_reader.mk y.2)):=this
       show _=some (Except.ok (n+127 ^ i*(p[i]-128+127*y.1),volume_reader.mk y.2))
       rw [this',e4,Int.mul_add,Int.mul_comm (127 ^ i) (p[i]-128),←Int.add_assoc,←Int.mul_assoc]
    ·have h1:¬p[i]=0:=fun e=>hc (.inl e)
     have h2:¬p[i]=255:=fun e=>hc (.inr (.inl e))
     simp only [beq_eq_false_iff_ne.2 h1,beq_eq_false_iff_ne.2 h2,cond_false]
     by_cases h3:p[i]=1
     ·have h4:i=0:=by
       rcases Nat.eq_zero_or_pos i with h|h
       ·exact h
       ·exact absurd (.inr (.inr ⟨h3,by simp;omega⟩)) hc
      simp [h3,h4]
     ·simp [h3]
  ·rw [Aw (dF (by omega)),Es]
   have:rD k (i==0) (p.drop i)=none:=by
    rw [List.length_take] at hb
    rcases Nat.eq_zero_or_pos k with h|h
    ·subst h;rfl
    ·rw [List.drop_of_length_le (by omega)]
     obtain ⟨k,rfl⟩:∃k',k=k'+1:=⟨k-1,by omega⟩
     rfl
   rw [this]
   exact Rd.bad
theorem Da {F:Nat} (hF:1000≤F) {p:List Int} (hp:By p):Rd (Ak F ⟨p⟩) (rN p):=by
 rw [Ak]
 have h:(Gk p (0:Int) (if 8<((p.length:Nat):Int) then 8 else ((p.length:Nat):Int))).bind (fun l80=>Bh ⟨p⟩ l80 F 0 0 1)=Bh ⟨p⟩ (p.take 8) F 0 0 1:=by
  by_cases h8:8<p.length
  ·rw [if_pos (by omega),N6 8 (by rfl) (by rfl) (by omega)]
  ·rw [if_neg (by omega),N6 p.length (by rfl) (by rfl) (by omega),List.take_of_length_le (by omega),List.take_of_length_le (by omega)]
 show Rd ((Gk p (0:Int) (if 8<((p.length:Nat):Int) then 8 else ((p.length:Nat):Int))).bind (fun l80=>Bh ⟨p⟩ l80 F 0 0 1)) _
 rw [h]
 have:=A2k p hp F 0 8 0 (by omega) (by omega) (by omega) (by decide)
 cases hr:rN p with
 | none =>
  rw [show rD 8 (0==0) (p.drop 0)=none from hr] at this
  exact this
 | some y =>
  rw [show rD 8 (0==0) (p.drop 0)=some y from hr] at this
  have this':_=some (Except.ok (0+127 ^ 0*y.1,volume_reader.mk y.2)):=this
  rw [show (0:Int)+127 ^ 0*y.1=y.1 by simp] at this'
  exact this'
end Go.Proofs.YtifbomimeodibaaGreat
namespace Go.Proofs.YtifbomimeodibaaGreat
open Go Go.RowKit Go.Eng
set_option maxRecDepth 10000
set_option linter.unusedVariables false
set_option linter.unusedSimpArgs false
def unz (n:Int):Int:=if n%2=1 then -((n+1)/2) else n/2
def rI (l:List Int):Option (Int×List Int):=(rN l).bind fun y=>some (unz y.1,y.2)
def rT (l:List Int):Option (ByteArray×List Int):=(rN l).bind fun y=>if y.1>(y.2.length:Int) then none else some (bst (y.2.take y.1.toNat),y.2.drop y.1.toNat)
def rS (l:List Int):Option (api_Span×List Int):=(rI l).bind fun y=>(rN y.2).bind fun z=>some (⟨y.1,y.1+z.1⟩,z.2)
def rE (l:List Int):Option (api_Echo×List Int):=(rN l).bind fun k=>if k.1=1 then (rN k.2).bind fun h=>some (⟨k.1,⟨0,h.1⟩,(⟨0,0⟩,⟨0,0⟩),0,⟨0,0⟩,⟨0,0⟩,⟨0,0⟩⟩,h.2)
 else (rS k.2).bind fun p=>(rS p.2).bind fun r=>(rS r.2).bind fun m=>(rN m.2).bind fun s=>if k.1=3 then (rS s.2).bind fun a=>(rS a.2).bind fun b=>(rS b.2).bind fun t=>some (⟨k.1,p.1,(a.1,b.1),s.1,r.1,m.1,t.1⟩,t.2)
  else some (⟨k.1,p.1,(⟨0,0⟩,⟨0,0⟩),s.1,r.1,m.1,⟨0,0⟩⟩,s.2)
theorem Em {α β:Type} {o:Option (α×List Int)} {f:α×List Int→Option β} {y:β} (h:o.bind f=some y):∃x r,o=some (x,r)∧f (x,r)=some y:=by
 obtain ⟨⟨x,r⟩,h1,h2⟩:=Option.bind_eq_some_iff.1 h
 exact ⟨x,r,h1,h2⟩
def Zh (x:Int):Prop:=-67675234241018881≤x∧x≤67675234241018881
theorem A04 {n:Int} (h:0≤n∧n<67675234241018881):Zh (unz n):=by
 unfold unz Zh;split<;>omega
theorem Ug {l:List Int} {x:Int} {r:List Int} (hb:By l) (h:rI l=some (x,r)):Zh x∧r <:+ l:=by
 obtain ⟨n,r',h1,h2⟩:=Em h
 cases h2
 obtain ⟨a,b,c⟩:=Ft hb h1
 exact ⟨A04 ⟨a,b⟩,c⟩
theorem A1q {l:List Int} {x:ByteArray} {r:List Int} (hb:By l) (h:rT l=some (x,r)):r <:+ l∧x.size≤l.length:=by
 obtain ⟨n,r',h1,h2⟩:=Em h
 obtain ⟨a,b,c⟩:=Ft hb h1
 split at h2
 ·cases h2
 ·rename_i hg
  cases h2
  refine ⟨(List.drop_suffix ..).trans c,?_⟩
  have:=c.length_le
  show (bst (r'.take n.toNat)).size≤_
  unfold bst
  simp only [ByteArray.size,List.size_toArray,List.length_map,List.length_take]
  simp only at hg
  omega
def okS' (s:api_Span):Prop:=-67675234241018881≤s.Lo∧s.Lo≤s.Hi∧s.Hi≤200000000000000000
theorem okS'.ok {s:api_Span} (h:okS' s):okS s:=by obtain ⟨a,b,c⟩:=h;exact ⟨by omega,b,by omega⟩
theorem okS'.z:okS' ⟨0,0⟩:=by unfold okS';decide
theorem Pd {l:List Int} {x:api_Span} {r:List Int} (hb:By l) (h:rS l=some (x,r)):okS' x∧r <:+ l:=by
 obtain ⟨lo,r1,h1,h2⟩:=Em h
 obtain ⟨n,r2,h3,h4⟩:=Em h2
 cases h4
 obtain ⟨⟨a,b⟩,c⟩:=Ug hb h1
 obtain ⟨d,e,f⟩:=Ft (hb.suf c) h3
 exact ⟨⟨a,by simp only;omega,by simp only;omega⟩,f.trans c⟩
theorem Wk {l:List Int} {x:api_Echo} {r:List Int} (hb:By l) (h:rE l=some (x,r)):r <:+ l:=by
 obtain ⟨k,r0,h0,h⟩:=Em h
 obtain ⟨a0,b0,c0⟩:=Ft hb h0
 have hb0:=hb.suf c0
 split at h
 ·obtain ⟨n,r1,h1,h⟩:=Em h
  cases h
  obtain ⟨a1,b1,c1⟩:=Ft hb0 h1
  exact c1.trans c0
 ·obtain ⟨p,r1,h1,h⟩:=Em h
  obtain ⟨p1,c1⟩:=Pd hb0 h1
  have hb1:=hb0.suf c1
  obtain ⟨q,r2,h2,h⟩:=Em h
  obtain ⟨p2,c2⟩:=Pd hb1 h2
  have hb2:=hb1.suf c2
  obtain ⟨m,r3,h3,h⟩:=Em h
  obtain ⟨p3,c3⟩:=Pd hb2 h3
  have hb3:=hb2.suf c3
  obtain ⟨s,r4,h4,h⟩:=Em h
  obtain ⟨a4,b4,c4⟩:=Ft hb3 h4
  have hb4:=hb3.suf c4
  have hs:s∈[s]:=by simp
  split at h
  ·obtain ⟨a,r5,h5,h⟩:=Em h
   obtain ⟨p5,c5⟩:=Pd hb4 h5
   have hb5:=hb4.suf c5
   obtain ⟨b,r6,h6,h⟩:=Em h
   obtain ⟨p6,c6⟩:=Pd hb5 h6
   have hb6:=hb5.suf c6
   obtain ⟨t,r7,h7,h⟩:=Em h
   obtain ⟨p7,c7⟩:=Pd hb6 h7
   cases h
   exact c7.trans (c6.trans (c5.trans (c4.trans (c3.trans (c2.trans (c1.trans c0))))))
  ·cases h
   exact c4.trans (c3.trans (c2.trans (c1.trans c0)))
theorem Nd {F:Nat} (hF:1000≤F) {p:List Int} (hp:By p):Rd (Bp F ⟨p⟩) (rI p):=by
 rw [Bp,rI]
 refine (Da hF hp).bind fun n r h=>?_
 obtain ⟨a,b,c⟩:=Ft hp h
 have e:Mr n 2=some (n%2):=by
  unfold Mr
  rw [if_neg (by decide),Int.tmod_eq_emod_of_nonneg a]
 show Rd ((Mr n 2).bind _) _
 rw [e,sb]
 unfold unz
 by_cases h1:n%2=1
 ·rw [if_pos h1,Ax (by simp [h1]),ckb (by omega)]
  have ew:IntKind.i64.wrap (0-(n+1))=-(n+1):=by
   simp only [IntKind.wrap,IntKind.signed,IntKind.bits]
   simp
   omega
  have eq:Lv (IntKind.i64.wrap (0-(n+1))) 2=some (-((n+1)/2)):=by
   rw [ew]
   unfold Lv
   rw [if_neg (by decide),Int.neg_tdiv,Int.tdiv_eq_ediv_of_nonneg (by omega)]
   unfold ck
   rw [if_pos (by omega)]
  show Rd ((Lv (IntKind.i64.wrap (0-(n+1))) 2).bind _) _
  rw [eq]
  exact Rd.ok
 ·rw [if_neg h1,Aw (by simp [h1])]
  have eq:Lv n 2=some (n/2):=by
   unfold Lv
   rw [if_neg (by decide),Int.tdiv_eq_ediv_of_nonneg a]
   unfold ck
   rw [if_pos (by omega)]
  show Rd ((Lv n 2).bind _) _
  rw [eq]
  exact Rd.ok
theorem Wl {F:Nat} (hF:1000≤F) {p:List Int} (hp:By p):Rd (Dc F ⟨p⟩) (rT p):=by
 rw [Dc,rT]
 refine (Da hF hp).bind fun n r h=>?_
 obtain ⟨a,b,c⟩:=Ft hp h
 show Rd (bif decide (n>(r.length:Int)) then _ else _) (if n>(r.length:Int) then _ else _)
 by_cases h1:n>(r.length:Int)
 ·rw [if_pos h1,Ax (dT h1)];exact Rd.bad
 ·rw [if_neg h1,Aw (dF h1),Fl]
  have en:n=((n.toNat:Nat):Int):=by omega
  rw [N6 n.toNat rfl en (show n.toNat≤r.length by omega),Lt n.toNat en rfl (show n.toNat≤r.length by omega)]
  exact Rd.ok
theorem R7 {F:Nat} (hF:1000≤F) {p:List Int} (hp:By p):Rd (Bn F ⟨p⟩) (rS p):=by
 rw [Bn,rS]
 refine (Nd hF hp).bind fun x r h=>?_
 obtain ⟨⟨a,b⟩,c⟩:=Ug hp h
 refine (Da hF (hp.suf c)).bind fun n r2 h2=>?_
 obtain ⟨d,e,f⟩:=Ft (hp.suf c) h2
 rw [ckb (by simp only;omega)]
 exact Rd.ok
theorem A2j {F:Nat} (hF:1000≤F) {p:List Int} (hp:By p):Rd (Fg F ⟨p⟩) (rE p):=by
 rw [Fg,rE]
 refine (Da hF hp).bind fun k r0 h0=>?_
 obtain ⟨a0,b0,c0⟩:=Ft hp h0
 have hb0:=hp.suf c0
 show Rd (bif k==1 then _ else _) (if k=1 then _ else _)
 by_cases hk:k=1
 ·rw [if_pos hk,Ax (by simp [hk])]
  refine (Da hF hb0).bind fun n r h=>?_
  exact Rd.ok
 ·rw [if_neg hk,Aw (by simp [hk])]
  refine (R7 hF hb0).bind fun p r1 h1=>?_
  have hb1:=hb0.suf (Pd hb0 h1).2
  refine (R7 hF hb1).bind fun q r2 h2=>?_
  have hb2:=hb1.suf (Pd hb1 h2).2
  refine (R7 hF hb2).bind fun m r3 h3=>?_
  have hb3:=hb2.suf (Pd hb2 h3).2
  refine (Da hF hb3).bind fun s r4 h4=>?_
  have hb4:=hb3.suf (Ft hb3 h4).2.2
  show Rd (bif k==3 then _ else _) (if k=3 then _ else _)
  by_cases hk3:k=3
  ·rw [if_pos hk3,Ax (by simp [hk3])]
   refine (R7 hF hb4).bind fun a r5 h5=>?_
   have hb5:=hb4.suf (Pd hb4 h5).2
   refine (R7 hF hb5).bind fun b r6 h6=>?_
   have hb6:=hb5.suf (Pd hb5 h6).2
   refine (R7 hF hb6).bind fun t r7 h7=>?_
   exact Rd.ok
  ·rw [if_neg hk3,Aw (by simp [hk3])]
   exact Rd.ok
def rL {α:Type} [DecidableEq α] (rd:List Int→Option (α×List Int)):Nat→Nat→α→List Int→Option (List α×List Int)
 | 0,_,_,_=>none
 | m+1,n,b,l=>if n=0 then some ([],l) else (rN l).bind fun y=>if y.1>(n:Int) then none else if n=y.1.toNat then some (List.replicate n b,y.2) else
   (rd y.2).bind fun z=>if z.1=b then none else (rL rd m (n-y.1.toNat-1) z.1 z.2).map fun u=>(List.replicate y.1.toNat b++z.1::u.1,u.2)
theorem Zj {α:Type} [DecidableEq α] {rd:List Int→Option (α×List Int)} (hrd:∀l x r,By l→rd l=some (x,r)→r <:+ l):∀(m n:Nat) (b:α) (l:List Int) (u:List α) (r:List Int),By l→rL rd m n b l=some (u,r)→u.length=n∧r <:+ l:=by
 intro m
 induction m with
 | zero=>intro n b l u r _ h;cases h
 | succ m ih =>
  intro n b l u r hb h
  rw [rL] at h
  split at h
  ·cases h;rename_i h0;exact ⟨h0.symm,List.suffix_refl _⟩
  ·obtain ⟨k,r1,h1,h⟩:=Em h
   obtain ⟨a,b1,c⟩:=Ft hb h1
   simp only at h
   split at h
   ·cases h
   ·split at h
    ·cases h;exact ⟨by simp,c⟩
    ·obtain ⟨z,r2,h2,h⟩:=Em h
     simp only at h
     split at h
     ·cases h
     ·obtain ⟨⟨u',r'⟩,h3,h4⟩:=Option.map_eq_some_iff.1 h
      cases h4
      have hc:=hrd _ _ _ (hb.suf c) h2
      obtain ⟨i1,i2⟩:=ih _ _ _ _ _ (hb.suf (hc.trans c)) h3
      refine ⟨?_,i2.trans (hc.trans c)⟩
      simp only [List.length_append,List.length_replicate,List.length_cons,i1]
      omega
theorem A2p (F:Nat) (N:Int) (b:api_Span) (k2:Int→Int→List Int→List api_Span→RE (List api_Span)) (y:Int×volume_reader) (hy:y.1≤1000000):∀(m i:Nat) (out:List api_Span),(i:Int)≤y.1→y.1-i<m→out.length+(y.1-i)≤2000000 →
  B7 F N b.Lo b.Hi k2 y m i out=C6 F N b.Lo b.Hi k2 y (out++List.replicate (y.1-i).toNat b):=by
 intro m
 induction m with
 | zero=>intro i out h1 h2;omega
 | succ m ih =>
  intro i out h1 h2 h3
  rw [B7,D3]
  by_cases hb:(i:Int)<y.1
  ·rw [Ax (dT hb),Pl (by simp;omega) (by decide),ckb (by omega)]
   have:=ih (i+1) (out++[b]) (by omega) (by omega) (by simp;omega)
   show B7 F N b.Lo b.Hi k2 y m ((i:Int)+1) (out++[b])=_
   rw [show ((i:Int)+1)=((i+1:Nat):Int) by omega,this,List.append_assoc]
   congr 2
   rw [show (y.1-(i:Int)).toNat=(y.1-((i+1:Nat):Int)).toNat+1 by omega,List.replicate_succ]
   rfl
  ·rw [Aw (dF hb),show (y.1-(i:Int)).toNat=0 by omega]
   simp
theorem A3d (F:Nat) (hF:200000≤F) (N:Nat) (hN:N≤100000):∀(m m':Nat) (b:api_Span) (l:List Int) (out:List api_Span),By l→out.length≤N→N-out.length<m→N-out.length<m' →
  Rd (B1 F N m b.Lo b.Hi l out) ((rL rS m' (N-out.length) b l).map fun u=>(out++u.1,u.2)):=by
 intro m
 induction m with
 | zero=>intro m' b l out _ _ h;omega
 | succ m ih =>
  intro m' b l out hb ho hm hm'
  obtain ⟨m',rfl⟩:∃k,m'=k+1:=⟨m'-1,by omega⟩
  rw [B1,C4,rL]
  by_cases h0:N-out.length=0
  ·rw [if_pos h0,Aw (dF (by omega)),C5]
   show _=some (Except.ok (out++[],volume_reader.mk l))
   rw [List.append_nil]
  ·rw [if_neg h0,Ax (dT (by omega)),Option.map_bind]
   refine (Da (by omega) hb).bind fun k r h=>?_
   obtain ⟨a,b1,c⟩:=Ft hb h
   rw [ckb (by omega)]
   simp only [Function.comp]
   by_cases hk:k>((N-out.length:Nat):Int)
   ·rw [if_pos hk,Ax (dT (by omega))];exact Rd.bad
   ·rw [if_neg hk,Aw (dF (by omega)),D4]
    have hr:=A2p F N b (B1 F N m) (k,⟨r⟩) (by simp only;omega) F 0 out (by simp only;omega) (by simp only;omega) (by simp only;omega)
    rw [show (0:Int)=((0:Nat):Int) from rfl,hr,C6,show (k-((0:Nat):Int)).toNat=k.toNat by omega]
    by_cases hk2:N-out.length=k.toNat
    ·rw [if_pos hk2,Aw (dF (by simp;omega))]
     cases m with
     | zero=>omega
     | succ m =>
      rw [B1,C4,Aw (dF (by simp;omega)),C5,hk2]
      rfl
    ·rw [if_neg hk2,Ax (dT (by simp;omega)),Option.map_bind]
     have hbr:=hb.suf c
     refine (R7 (by omega) hbr).bind fun x r2 h2=>?_
     have hb2:=hbr.suf (Pd hbr h2).2
     simp only [Function.comp]
     rw [V1 x b]
     by_cases hx:x=b
     ·rw [if_pos hx,Ax (dT hx)];exact Rd.bad
     ·rw [if_neg hx,Aw (dF hx),D5,Pl (by simp;omega) (by decide)]
      have:=ih m' x r2 (out++List.replicate k.toNat b++[x]) hb2 (by simp;omega) (by simp;omega) (by simp;omega)
      rw [show N-(out++List.replicate k.toNat b++[x]).length=N-out.length-k.toNat-1 by simp;omega] at this
      rw [Option.map_map]
      simp only [Function.comp_def]
      simpa only [List.append_assoc,List.cons_append,List.nil_append] using this
theorem A0w {F:Nat} (hF:200000≤F) {N:Nat} (hN:N≤100000) {l:List Int} (hl:By l) (b:api_Span):Rd (Ci F ⟨l⟩ N b) (rL rS (N+1) N b l):=by
 rw [Ci]
 have:=A3d F hF N hN F (N+1) b l [] hl (by simp) (by simp;omega) (by simp)
 simpa using this
theorem A2m (F:Nat) (N:Int) (b:api_Echo) (k2:Int→Int→Int→Int→Int→Int→Int→Int→Int→Int→Int→Int→Int→Int→List Int→List api_Echo→RE (List api_Echo)) (y:Int×volume_reader) (hy:y.1≤1000000):∀(m i:Nat) (out:List api_Echo),(i:Int)≤y.1→y.1-i<m→out.length+(y.1-i)≤2000000 →
  B6 F N b.Kind b.Power.Lo b.Match.Lo b.Match.Hi b.Turn.Lo b.Turn.Hi b.Power.Hi b.Steps.1.Lo b.Steps.1.Hi b.Steps.2.Lo b.Steps.2.Hi b.Spread b.Ratio.Lo b.Ratio.Hi k2 y m i out=C3 F N b.Kind b.Power.Lo b.Match.Lo b.Match.Hi b.Turn.Lo b.Turn.Hi b.Power.Hi b.Steps.1.Lo b.Steps.1.Hi b.Steps.2.Lo b.Steps.2.Hi b.Spread b.Ratio.Lo b.Ratio.Hi k2 y (out++List.replicate (y.1-i).toNat b):=by
 intro m
 induction m with
 | zero=>intro i out h1 h2;omega
 | succ m ih =>
  intro i out h1 h2 h3
  rw [B6,D0]
  by_cases hb:(i:Int)<y.1
  ·rw [Ax (dT hb),Pl (by simp;omega) (by decide),ckb (by omega)]
   have:=ih (i+1) (out++[b]) (by omega) (by omega) (by simp;omega)
   show B6 F N b.Kind b.Power.Lo b.Match.Lo b.Match.Hi b.Turn.Lo b.Turn.Hi b.Power.Hi b.Steps.1.Lo b.Steps.1.Hi b.Steps.2.Lo b.Steps.2.Hi b.Spread b.Ratio.Lo b.Ratio.Hi k2 y m ((i:Int)+1) (out++[b])=_
   rw [show ((i:Int)+1)=((i+1:Nat):Int) by omega,this,List.append_assoc]
   congr 2
   rw [show (y.1-(i:Int)).toNat=(y.1-((i+1:Nat):Int)).toNat+1 by omega,List.replicate_succ]
   rfl
  ·rw [Aw (dF hb),show (y.1-(i:Int)).toNat=0 by omega]
   simp
theorem A3c (F:Nat) (hF:200000≤F) (N:Nat) (hN:N≤100000):∀(m m':Nat) (b:api_Echo) (l:List Int) (out:List api_Echo),By l→out.length≤N→N-out.length<m→N-out.length<m' →
  Rd (B0 F N m b.Kind b.Power.Lo b.Match.Lo b.Match.Hi b.Turn.Lo b.Turn.Hi b.Power.Hi b.Steps.1.Lo b.Steps.1.Hi b.Steps.2.Lo b.Steps.2.Hi b.Spread b.Ratio.Lo b.Ratio.Hi l out) ((rL rE m' (N-out.length) b l).map fun u=>(out++u.1,u.2)):=by
 intro m
 induction m with
 | zero=>intro m' b l out _ _ h;omega
 | succ m ih =>
  intro m' b l out hb ho hm hm'
  obtain ⟨m',rfl⟩:∃k,m'=k+1:=⟨m'-1,by omega⟩
  rw [B0,C1,rL]
  by_cases h0:N-out.length=0
  ·rw [if_pos h0,Aw (dF (by omega)),C2]
   show _=some (Except.ok (out++[],volume_reader.mk l))
   rw [List.append_nil]
  ·rw [if_neg h0,Ax (dT (by omega)),Option.map_bind]
   refine (Da (by omega) hb).bind fun k r h=>?_
   obtain ⟨a,b1,c⟩:=Ft hb h
   rw [ckb (by omega)]
   simp only [Function.comp]
   by_cases hk:k>((N-out.length:Nat):Int)
   ·rw [if_pos hk,Ax (dT (by omega))];exact Rd.bad
   ·rw [if_neg hk,Aw (dF (by omega)),D1]
    have hr:=A2m F N b (B0 F N m) (k,⟨r⟩) (by simp only;omega) F 0 out (by simp only;omega) (by simp only;omega) (by simp only;omega)
    rw [show (0:Int)=((0:Nat):Int) from rfl,hr,C3,show (k-((0:Nat):Int)).toNat=k.toNat by omega]
    by_cases hk2:N-out.length=k.toNat
    ·rw [if_pos hk2,Aw (dF (by simp;omega))]
     cases m with
     | zero=>omega
     | succ m =>
      rw [B0,C1,Aw (dF (by simp;omega)),C2,hk2]
      rfl
    ·rw [if_neg hk2,Ax (dT (by simp;omega)),Option.map_bind]
     have hbr:=hb.suf c
     refine (A2j (by omega) hbr).bind fun x r2 h2=>?_
     have hb2:=hbr.suf (Wk hbr h2)
     simp only [Function.comp]
     rw [Un x b]
     by_cases hx:x=b
     ·rw [if_pos hx,Ax (dT hx)];exact Rd.bad
     ·rw [if_neg hx,Aw (dF hx),D2,Pl (by simp;omega) (by decide)]
      have:=ih m' x r2 (out++List.replicate k.toNat b++[x]) hb2 (by simp;omega) (by simp;omega) (by simp;omega)
      rw [show N-(out++List.replicate k.toNat b++[x]).length=N-out.length-k.toNat-1 by simp;omega] at this
      rw [Option.map_map]
      simp only [Function.comp_def]
      simpa only [List.append_assoc,List.cons_append,List.nil_append] using this
theorem Zk {F:Nat} (hF:200000≤F) {N:Nat} (hN:N≤100000) {l:List Int} (hl:By l) (b:api_Echo):Rd (Ch F ⟨l⟩ N b) (rL rE (N+1) N b l):=by
 rw [Ch]
 have:=A3c F hF N hN F (N+1) b l [] hl (by simp) (by simp;omega) (by simp)
 simpa using this
end Go.Proofs.YtifbomimeodibaaGreat
namespace Go.Proofs.YtifbomimeodibaaGreat
open Go Go.RowKit Go.Eng
set_option maxRecDepth 10000
set_option linter.unusedVariables false
set_option linter.unusedSimpArgs false
def Pb (s:ByteArray):Bool:=(!(sEq s ⟨#[]⟩))&&(decide ((s.size:Int)≤12)&&(decide ((Pf s 0).getD 0≥97)&&(decide ((Pf s 0).getD 0≤122)&&!Za s)))
theorem Sy (F:Nat) (s:ByteArray):M4 F s=some (Pb s):=by
 have hg:sEq s ⟨#[]⟩=false→Pf s 0=some ((Pf s 0).getD 0):=by
  intro h
  have hs:s.size≠0:=by
   intro h0
   have:s=⟨#[]⟩:=by
    cases s with
    | mk d =>
     have:d=#[]:=Array.eq_empty_of_size_eq_zero h0
     rw [this]
   rw [Sz.2 this] at h
   cases h
  unfold Pf
  rw [if_pos (by omega)]
  rfl
 unfold M4 Pb Dz
 cases h1:sEq s ⟨#[]⟩ with
 | true=>simp [gd]
 | false =>
  have e:=hg h1
  generalize hu:(Pf s 0).getD 0=u at e ⊢
  rw [e]
  by_cases h2:(s.size:Int)≤12
  ·by_cases h3:u≥97
   ·simp [gd,h2,h3]
   ·simp [gd,h2,h3]
  ·simp [gd,h2]
def inB (x lo hi:Int):Prop:=lo≤x∧x≤hi
instance (x lo hi:Int):Decidable (inB x lo hi):=by unfold inB;infer_instance
theorem Tt {x lo hi:Int}:Aj x lo hi=decide (inB x lo hi):=by
 unfold Aj inB
 by_cases h:lo≤x<;>simp [h]
def Sm (s:api_Site):Prop:=Pb s.Name=true∧inB s.X (-1048576) 1048576∧inB s.Y (-1048576) 1048576∧inB s.Z 0 20000∧inB s.Rose 1 90∧inB s.Gates 1 200∧inB s.Step 50 2000∧inB s.Width 0 8
instance (s:api_Site):Decidable (Sm s):=by unfold Sm;infer_instance
theorem V0 (F:Nat) (s:api_Site):∃e,Ey F s=some e∧(e=0↔Sm s):=by
 unfold Ey E3 Dd Sm
 rw [Sy,sb]
 simp only [Tt]
 cases Pb s.Name with
 | false=>exact ⟨10,by simp,by simp⟩
 | true =>
  by_cases h1:inB s.X (-1048576) 1048576
  ·by_cases h2:inB s.Y (-1048576) 1048576
   ·by_cases h3:inB s.Z 0 20000
    ·by_cases h4:inB s.Rose 1 90
     ·by_cases h5:inB s.Gates 1 200
      ·by_cases h6:inB s.Step 50 2000
       ·by_cases h7:inB s.Width 0 8
        ·exact ⟨0,by simp [h1,h2,h3,h4,h5,h6,h7],by simp [h1,h2,h3,h4,h5,h6,h7]⟩
        ·exact ⟨3,by simp [h1,h2,h3,h4,h5,h6,h7],by simp [h1,h2,h3,h4,h5,h6,h7]⟩
       ·exact ⟨3,by simp [h1,h2,h3,h4,h5,h6],by simp [h1,h2,h3,h4,h5,h6]⟩
      ·exact ⟨3,by simp [h1,h2,h3,h4,h5],by simp [h1,h2,h3,h4,h5]⟩
     ·exact ⟨3,by simp [h1,h2,h3,h4],by simp [h1,h2,h3,h4]⟩
    ·exact ⟨3,by simp [h1,h2,h3],by simp [h1,h2,h3]⟩
   ·exact ⟨3,by simp [h1,h2],by simp [h1,h2]⟩
  ·exact ⟨3,by simp [h1],by simp [h1]⟩
def Ru (g:api_Grid):Prop:=inB g.X (-1048576) 1048576∧inB g.Y (-1048576) 1048576∧inB g.Size 1 10000∧inB g.Wide 1 64∧inB g.High 1 64
theorem Su (g:api_Grid):Bb g=0↔Ru g:=by
 unfold Bb Cx Ru
 simp only [Tt]
 by_cases h1:inB g.X (-1048576) 1048576
 ·by_cases h2:inB g.Y (-1048576) 1048576
  ·by_cases h3:inB g.Size 1 10000
   ·by_cases h4:inB g.Wide 1 64
    ·by_cases h5:inB g.High 1 64<;>simp [h1,h2,h3,h4,h5]
    ·simp [h1,h2,h3,h4]
   ·simp [h1,h2,h3]
  ·simp [h1,h2]
 ·simp [h1]
def Ns (s:api_Span) (lo hi:Int):Prop:=lo≤s.Lo∧s.Lo≤s.Hi∧s.Hi≤hi
instance (s:api_Span) (lo hi:Int):Decidable (Ns s lo hi):=by unfold Ns;infer_instance
theorem Tb {s:api_Span} {lo hi:Int}:Ad s lo hi=decide (Ns s lo hi):=by
 unfold Ad Ns
 by_cases h:lo≤s.Lo
 ·by_cases h2:s.Lo≤s.Hi<;>simp [h,h2]
 ·simp [h]
theorem Li {x lo hi:Int}:As x lo hi=decide (inB x lo hi):=by
 unfold As inB
 by_cases h:lo≤x<;>simp [h]
def Gj (s:api_Span):Prop:=-32768≤s.Lo∧s.Lo≤32767∧s.Lo≤s.Hi∧s.Hi≤s.Lo+65535
instance (s:api_Span):Decidable (Gj s):=by unfold Gj;infer_instance
theorem Zz (p:List api_Span) (k2:Int→Option Bool) (i:Nat) (u:api_Span) (h:p[i]? = some u) (hi:i<p.length) (h9:i≤100):Fw p k2 i=bif decide (Gj u) then k2 (i+1) else some false:=by
 have e1:-9000000000000000000≤(i:Int)+1∧(i:Int)+1≤9000000000000000000:=by omega
 rw [Fw,Ax (dT (by omega)),Jk i u rfl h]
 simp only [Li]
 by_cases h1:inB u.Lo (-32768) 32767
 ·have h1':=h1
  obtain ⟨a,b⟩:=h1'
  simp only [dT h1]
  rw [gdT (by rfl),ckb (by omega),gdT (by rfl),ckb (by omega)]
  obtain ⟨z,hz⟩:∃z,z=u.Lo+65536-1:=⟨_,rfl⟩
  rw [←hz]
  by_cases h2:inB u.Hi u.Lo z
  ·have ht:Gj u:=⟨a,b,h2.1,by have:=h2.2;omega⟩
   rw [dT h2,dT ht]
   rw [Aw (by rfl),Ax (by rfl),ckb e1]
  ·have ht:¬Gj u:=fun h=>h2 ⟨h.2.2.1,by have:=h.2.2.2;omega⟩
   rw [dF h2,dF ht,Ax (by rfl),Aw (by rfl)]
 ·simp only [dF h1]
  rw [gdF (by rfl),sb,gdF (by rfl),sb,dF (show ¬Gj u from fun h=>h1 ⟨h.1,h.2.1⟩),Ax (by rfl),Aw (by rfl)]
theorem Tq {F:Nat} (hF:10≤F) (a b c:api_Span):Jl F [a,b,c]=some (decide (Gj a∧Gj b∧Gj c)):=by
 obtain ⟨G,rfl⟩:∃G,F=G+4:=⟨F-4,by omega⟩
 rw [Jl,Dv,show (0:Int)=((0:Nat):Int) from rfl,Zz _ _ 0 a rfl (by simp) (by decide)]
 by_cases h1:Gj a
 ·rw [Ax (dT h1),show (((0:Nat):Int)+1)=((1:Nat):Int) from rfl,Dv,Zz _ _ 1 b rfl (by simp) (by decide)]
  by_cases h2:Gj b
  ·rw [Ax (dT h2),show (((1:Nat):Int)+1)=((2:Nat):Int) from rfl,Dv,Zz _ _ 2 c rfl (by simp) (by decide)]
   by_cases h3:Gj c
   ·rw [Ax (dT h3),Dv,Fw,Aw (dF (by simp)),Jc]
    simp [h1,h2,h3]
   ·rw [Aw (dF h3)];simp [h3]
  ·rw [Aw (dF h2)];simp [h2]
 ·rw [Aw (dF h1)];simp [h1]
def z0 (s:api_Span):Prop:=s.Lo=0∧s.Hi=0
def vEcho (x:api_Echo):Prop:=(x.Kind=1∧Ns x.Power 0 1073741824∧x.Power.Lo=0∧z0 x.Steps.1∧z0 x.Steps.2∧x.Spread=0∧z0 x.Ratio∧z0 x.Match∧z0 x.Turn) ∨
 ((x.Kind=2∨x.Kind=3)∧Ns x.Power 0 1073741824∧x.Power.Lo>0∧Ns x.Ratio 0 1000000∧Ns x.Match 0 1000∧inB x.Spread 0 65535∧(x.Kind=2→z0 x.Steps.1∧z0 x.Steps.2∧z0 x.Turn)∧(x.Kind=3→Gj x.Steps.1∧Gj x.Steps.2∧Gj x.Turn))
theorem A1j (c:Bool):D7 c=some (if c=true then 0 else 3):=by cases c<;>rfl
theorem A0i {F:Nat} (hF:10≤F) (x:api_Echo):∃e,F9 F x=some e∧(e=0↔vEcho x):=by
 unfold F9 vEcho
 simp only [A1j,Tb]
 by_cases h1:x.Kind=1
 ·rw [Ax (by simp [h1])]
  refine ⟨_,rfl,?_⟩
  simp only [h1,z0]
  by_cases h2:Ns x.Power 0 1073741824
  ·simp [h2,and_assoc]
  ·simp [h2]
 ·rw [Aw (by simp [h1])]
  have hK:∀c:Bool,c=(decide (x.Kind=2∨x.Kind=3))→∃e,Ck F x c=some e∧(e=0↔((x.Kind=2∨x.Kind=3)∧Ns x.Power 0 1073741824∧x.Power.Lo>0∧Ns x.Ratio 0 1000000∧Ns x.Match 0 1000∧inB x.Spread 0 65535∧(x.Kind=2→z0 x.Steps.1∧z0 x.Steps.2∧z0 x.Turn)∧(x.Kind=3→Gj x.Steps.1∧Gj x.Steps.2∧Gj x.Turn))):=by
   intro c hc
   unfold Ck
   simp only [A1j,Tb,Li]
   by_cases h23:x.Kind=2∨x.Kind=3
   ·rw [hc,Ax (dT h23)]
    by_cases h2:x.Kind=2
    ·rw [Ax (by simp [h2])]
     refine ⟨_,rfl,?_⟩
     simp only [h2,z0]
     by_cases a1:Ns x.Power 0 1073741824
     ·by_cases a2:x.Power.Lo>0
      ·by_cases a3:Ns x.Ratio 0 1000000
       ·by_cases a4:Ns x.Match 0 1000
        ·by_cases a5:inB x.Spread 0 65535
         ·simp [a1,a2,a3,a4,a5,and_assoc]
         ·simp [a1,a2,a3,a4,a5]
        ·simp [a1,a2,a3,a4]
       ·simp [a1,a2,a3]
      ·simp [a1,a2]
     ·simp [a1]
    ·have h3:x.Kind=3:=h23.resolve_left h2
     rw [Aw (by simp [h2])]
     by_cases a1:Ns x.Power 0 1073741824
     ·by_cases a2:x.Power.Lo>0
      ·by_cases a3:Ns x.Ratio 0 1000000
       ·by_cases a4:Ns x.Match 0 1000
        ·by_cases a5:inB x.Spread 0 65535
         ·rw [Ax (by simp [a1,a2,a3,a4,a5]),show (⟨x.Steps.1.Lo,x.Steps.1.Hi⟩:api_Span)=x.Steps.1 from rfl,show (⟨x.Steps.2.Lo,x.Steps.2.Hi⟩:api_Span)=x.Steps.2 from rfl,Tq hF,sb]
          refine ⟨_,rfl,?_⟩
          simp [h3,a1,a2,a3,a4,a5]
         ·rw [Aw (by simp [a5])];exact ⟨_,rfl,by simp [a5]⟩
        ·rw [Aw (by simp [a4])];exact ⟨_,rfl,by simp [a4]⟩
       ·rw [Aw (by simp [a3])];exact ⟨_,rfl,by simp [a3]⟩
      ·rw [Aw (by simp [a2])];exact ⟨_,rfl,by simp [a2]⟩
     ·rw [Aw (by simp [a1])];exact ⟨_,rfl,by simp [a1]⟩
   ·rw [hc,Aw (dF h23)]
    exact ⟨2,rfl,by simp [h23]⟩
  obtain ⟨e,he,hv⟩:∃e,(bif x.Kind==2 then Ck F x (x.Kind==2) else Ck F x (x.Kind==3))=some e∧(e=0↔_):=by
   by_cases h2:x.Kind=2
   ·rw [Ax (by simp [h2])];exact hK _ (by simp [h2])
   ·rw [Aw (by simp [h2])];exact hK _ (by simp [h2];rfl)
  exact ⟨e,he,hv.trans ⟨fun h=>.inr h,fun h=>h.resolve_left fun h=>h1 h.1⟩⟩
end Go.Proofs.YtifbomimeodibaaGreat
namespace Go.Proofs.YtifbomimeodibaaGreat
open Go Go.RowKit Go.Eng
set_option maxRecDepth 10000
set_option linter.unusedVariables false
set_option linter.unusedSimpArgs false
theorem A2o {F:Nat} (hF:5000≤F) (x270:Int) (k3:Int→Option Int) (u:List api_Echo) (hu:u.length≤1000):∀(m i:Nat),u.length-i<m→i≤u.length →
  ((∀x∈u.drop i,vEcho x)∧Cc F x270 k3 u m i=Ea x270 k3)∨(∃e,e≠0∧Cc F x270 k3 u m i=some e∧¬∀x∈u.drop i,vEcho x):=by
 intro m
 induction m with
 | zero=>intro i h;omega
 | succ m ih =>
  intro i h hi
  rw [Cc,Fc]
  by_cases hb:i<u.length
  ·have hd:=List.drop_eq_getElem_cons hb
   obtain ⟨e,he,hv⟩:=A0i (F:=F) (by omega) u[i]
   rw [Ax (dT (by omega)),Jk i u[i] rfl (List.getElem?_eq_getElem hb)]
   rw [show (⟨u[i].Kind,u[i].Power,(⟨u[i].Steps.1.Lo,u[i].Steps.1.Hi⟩,⟨u[i].Steps.2.Lo,u[i].Steps.2.Hi⟩),u[i].Spread,u[i].Ratio,u[i].Match,u[i].Turn⟩:api_Echo)=u[i] from rfl,he,sb]
   by_cases h0:e=0
   ·rw [Aw (by simp [h0]),ckb (by omega)]
    rcases ih (i+1) (by omega) (by omega) with ⟨h1,h2⟩|⟨e',h1,h2,h3⟩
    ·refine .inl ⟨?_,h2⟩
     rw [hd]
     intro x hx
     rcases List.mem_cons.1 hx with rfl|hx
     ·exact hv.1 h0
     ·exact h1 x hx
    ·exact .inr ⟨e',h1,h2,fun h=>h3 fun x hx=>h x (by rw [hd];exact List.mem_cons_of_mem _ hx)⟩
   ·rw [Ax (by simp [h0])]
    exact .inr ⟨e,h0,rfl,fun h=>h0 (hv.2 (h u[i] (by rw [hd];exact List.mem_cons_self ..)))⟩
  ·rw [Aw (dF (by omega))]
   exact .inl ⟨fun x hx=>(by rw [List.drop_of_length_le (by omega)] at hx;cases hx),rfl⟩
theorem A13 {F:Nat} (hF:5000≤F) (p:api_Sweep) (hp:p.Rays.length≤1000) (hr:∀r∈p.Rays,r.length≤1000):∀(m i:Nat),p.Rays.length-i<m→i≤p.Rays.length →
  ∃e,Cb F p m i=some e∧(e=0↔∀r∈p.Rays.drop i,∀x∈r,vEcho x):=by
 intro m
 induction m with
 | zero=>intro i h;omega
 | succ m ih =>
  intro i h hi
  rw [Cb,Fb]
  by_cases hb:i<p.Rays.length
  ·have hd:=List.drop_eq_getElem_cons hb
   have hl:=hr p.Rays[i] (List.getElem_mem hb)
   rw [Ax (dT (by omega)),Jk i p.Rays[i] rfl (List.getElem?_eq_getElem hb)]
   rcases A2o hF i (Cb F p m) p.Rays[i] hl F 0 (by omega) (by omega) with ⟨h1,h2⟩|⟨e,h1,h2,h3⟩
   ·rw [show (0:Int)=((0:Nat):Int) from rfl,h2,Ea,ckb (by omega)]
    obtain ⟨e,he,hv⟩:=ih (i+1) (by omega) (by omega)
    refine ⟨e,he,hv.trans ?_⟩
    rw [hd]
    constructor
    ·intro h r hr'
     rcases List.mem_cons.1 hr' with rfl|hr'
     ·exact h1
     ·exact h r hr'
    ·exact fun h r hr'=>h r (List.mem_cons_of_mem _ hr')
   ·refine ⟨e,h2,⟨fun h=>absurd h h1,fun h=>absurd (h p.Rays[i] (by rw [hd];exact List.mem_cons_self ..)) h3⟩⟩
  ·rw [Aw (dF (by omega)),Gl]
   exact ⟨0,rfl,by simp [List.drop_of_length_le (show p.Rays.length≤i by omega)]⟩
theorem Z0 {F:Nat} (hF:5000≤F) (p:api_Sweep) (hp:p.Rays.length≤1000) (hg:p.Site.Gates≤200):∀(m i:Nat),p.Rays.length-i<m→i≤p.Rays.length→(∀r∈p.Rays.take i,(r.length:Int)=p.Site.Gates) →
  ∃e,Cu F p m i=some e∧(e=0↔(∀r∈p.Rays,(r.length:Int)=p.Site.Gates)∧∀r∈p.Rays,∀x∈r,vEcho x):=by
 intro m
 induction m with
 | zero=>intro i h;omega
 | succ m ih =>
  intro i h hi hpre
  rw [Cu,Fe]
  by_cases hb:i<p.Rays.length
  ·rw [Ax (dT (by omega)),Jk i p.Rays[i] rfl (List.getElem?_eq_getElem hb)]
   by_cases hl:(p.Rays[i].length:Int)=p.Site.Gates
   ·rw [Aw (by simp [hl]),ckb (by omega)]
    refine ih (i+1) (by omega) (by omega) fun r hr=>?_
    rw [List.take_succ_eq_append_getElem hb] at hr
    rcases List.mem_append.1 hr with hr|hr
    ·exact hpre r hr
    ·simp at hr;rw [hr];exact hl
   ·rw [Ax (by simp [hl])]
    exact ⟨11,rfl,⟨fun h=>by simp at h,fun h=>absurd (h.1 p.Rays[i] (List.getElem_mem hb)) hl⟩⟩
  ·rw [Aw (dF (by omega)),Ff]
   rw [List.take_of_length_le (by omega)] at hpre
   obtain ⟨e,he,hv⟩:=A13 hF p hp (fun r hr=>by have:=hpre r hr;omega) F 0 (by omega) (by omega)
   exact ⟨e,he,hv.trans ⟨fun h=>⟨hpre,h⟩,fun h=>h.2⟩⟩
def vSweep (s:api_Sweep):Prop:=Sm s.Site∧inB s.Tilt 0 256∧inB s.Time 0 4294967296∧(s.Rays.length:Int)=4*s.Site.Rose∧(∀r∈s.Rays,(r.length:Int)=s.Site.Gates)∧∀r∈s.Rays,∀x∈r,vEcho x
theorem Zy {F:Nat} (hF:5000≤F) (p:api_Sweep):∃e,Bw F p=some e∧(e=0↔vSweep p):=by
 obtain ⟨e,he,hv⟩:=V0 F p.Site
 unfold Bw vSweep
 rw [he,sb]
 simp only [Li]
 by_cases h0:e=0
 ·have hs:=hv.1 h0
  obtain ⟨_,_,_,_,⟨r1,r2⟩,⟨g1,g2⟩,_⟩:=hv.1 h0
  rw [Aw (by simp [h0])]
  by_cases h1:inB p.Tilt 0 256
  ·by_cases h2:inB p.Time 0 4294967296
   ·rw [Aw (by simp [h1,h2]),ckb (by omega)]
    by_cases h3:(p.Rays.length:Int)=4*p.Site.Rose
    ·rw [Aw (by simp [h3])]
     obtain ⟨e',he',hv'⟩:=Z0 hF p (by omega) g2 F 0 (by omega) (by omega) (fun r hr=>by simp at hr)
     exact ⟨e',he',hv'.trans ⟨fun h=>⟨hs,h1,h2,h3,h.1,h.2⟩,fun h=>⟨h.2.2.2.2.1,h.2.2.2.2.2⟩⟩⟩
    ·rw [Ax (by simp [h3])]
     exact ⟨11,rfl,⟨fun h=>by simp at h,fun h=>absurd h.2.2.2.1 h3⟩⟩
   ·rw [Ax (by simp [h2])]
    exact ⟨3,rfl,⟨fun h=>by simp at h,fun h=>absurd h.2.2.1 h2⟩⟩
  ·rw [Ax (by simp [h1])]
   exact ⟨3,rfl,⟨fun h=>by simp at h,fun h=>absurd h.2.1 h1⟩⟩
 ·rw [Ax (by simp [h0])]
  exact ⟨e,rfl,⟨fun h=>absurd h h0,fun h=>absurd (hv.2 h.1) h0⟩⟩
def A2v (v:api_Span):Prop:=0≤v.Lo∧v.Lo≤v.Hi∧v.Hi≤1073741824
theorem A1h {p:api_Field} (hp:p.Vals.length≤1000000):∀(m i:Nat),p.Vals.length-i<m→i≤p.Vals.length →
  ∃e,Fq p 1073741824 m i=some e∧(e=0↔∀v∈p.Vals.drop i,A2v v):=by
 intro m
 induction m with
 | zero=>intro i h;omega
 | succ m ih =>
  intro i h hi
  rw [Fq,Jj]
  by_cases hb:i<p.Vals.length
  ·have hd:=List.drop_eq_getElem_cons hb
   rw [Ax (dT (by omega)),Jk i p.Vals[i] rfl (List.getElem?_eq_getElem hb)]
   by_cases hv:A2v p.Vals[i]
   ·obtain ⟨a,b,c⟩:=hv
    rw [Aw (by rw [dF (show ¬p.Vals[i].Lo<0 by omega),dF (show ¬p.Vals[i].Hi<p.Vals[i].Lo by omega),dF (show ¬p.Vals[i].Hi>1073741824 by omega)];rfl),ckb (by omega)]
    obtain ⟨e,he,hv⟩:=ih (i+1) (by omega) (by omega)
    refine ⟨e,he,hv.trans ?_⟩
    rw [hd]
    constructor
    ·intro h v hv'
     rcases List.mem_cons.1 hv' with rfl|hv'
     ·exact ⟨a,b,c⟩
     ·exact h v hv'
    ·exact fun h v hv'=>h v (List.mem_cons_of_mem _ hv')
   ·rw [Ax ?_]
    ·exact ⟨3,rfl,⟨fun h=>by simp at h,fun h=>absurd (h p.Vals[i] (by rw [hd];exact List.mem_cons_self ..)) hv⟩⟩
    ·by_cases h1:p.Vals[i].Lo<0
     ·simp [h1]
     ·by_cases h2:p.Vals[i].Hi<p.Vals[i].Lo
      ·simp [h2]
      ·have:p.Vals[i].Hi>1073741824:=by
        rcases Int.lt_or_le 1073741824 p.Vals[i].Hi with h|h
        ·exact h
        ·exact absurd ⟨by omega,by omega,h⟩ hv
       simp [this]
  ·rw [Aw (dF (by omega)),Kz]
   exact ⟨0,rfl,by simp [List.drop_of_length_le (show p.Vals.length≤i by omega)]⟩
def Tr (f:volume_field):Prop:=Pb f.key=true∧inB f.time 0 4294967296∧Ru f.Field.Grid∧(f.Field.Vals.length:Int)=f.Field.Grid.Wide*f.Field.Grid.High∧∀v∈f.Field.Vals,A2v v
theorem Pp {g:api_Grid} (h:Ru g):0≤g.Wide*g.High∧g.Wide*g.High≤4096:=by
 obtain ⟨_,_,_,⟨a,b⟩,⟨c,d⟩⟩:=h
 have h1:g.Wide*g.High≤64*g.High:=Int.mul_le_mul_of_nonneg_right b (by omega)
 exact ⟨Int.mul_nonneg (by omega) (by omega),by omega⟩
theorem Yy {F:Nat} (hF:5000≤F) (f:volume_field):∃e,Br F f=some e∧(e=0↔Tr f):=by
 unfold Br Tr F7 M8
 rw [Sy,sb]
 cases Pb f.key with
 | false=>exact ⟨10,by rw [Ax (by rfl)],by simp⟩
 | true =>
  rw [Aw (by rfl)]
  by_cases h1:inB f.time 0 4294967296
  ·rw [Aw (by have:=h1.1;have:=h1.2;rw [dF (show ¬f.time<0 by omega),dF (show ¬f.time>4294967296 by omega)];rfl)]
   have hg:=Su f.Field.Grid
   by_cases h2:Bb f.Field.Grid=0
   ·obtain ⟨c1,c2⟩:=Pp (hg.1 h2)
    rw [Aw (by simp [h2]),ckb (by omega)]
    by_cases h3:(f.Field.Vals.length:Int)=f.Field.Grid.Wide*f.Field.Grid.High
    ·rw [Aw (by simp [h3])]
     obtain ⟨e,he,hv⟩:=A1h (p:=f.Field) (by omega) F 0 (by omega) (by omega)
     rw [show (0:Int)=((0:Nat):Int) from rfl,he]
     exact ⟨e,rfl,hv.trans ⟨fun h=>⟨rfl,h1,hg.1 h2,h3,h⟩,fun h=>h.2.2.2.2⟩⟩
    ·rw [Ax (by simp [h3])]
     exact ⟨11,rfl,⟨fun h=>by simp at h,fun h=>absurd h.2.2.2.1 h3⟩⟩
   ·rw [Ax (by simp [h2])]
    exact ⟨_,rfl,⟨fun h=>absurd h h2,fun h=>absurd (hg.2 h.2.2.1) h2⟩⟩
  ·rw [Ax ?_]
   ·exact ⟨3,rfl,⟨fun h=>by simp at h,fun h=>absurd h.2.1 h1⟩⟩
   ·by_cases h:f.time<0
    ·simp [h]
    ·have:f.time>4294967296:=by
      rcases Int.lt_or_le 4294967296 f.time with h|h
      ·exact h
      ·exact absurd ⟨by omega,h⟩ h1
     simp [this]
def Xl (n:volume_note):Prop:=inB n.time 0 4294967296∧n.text.size≤200∧∀c∈sby n.text,32≤c∧c≤126
theorem Yp (l:List Int) (hl:l.length≤1000000):∀(m i:Nat),l.length-i<m→i≤l.length →
  ∃e,C0 l m i=some e∧(e=0↔∀c∈l.drop i,32≤c∧c≤126):=by
 intro m
 induction m with
 | zero=>intro i h;omega
 | succ m ih =>
  intro i h hi
  rw [C0,F2]
  by_cases hb:i<l.length
  ·have hd:=List.drop_eq_getElem_cons hb
   rw [Ax (dT (by omega)),Jk i l[i] rfl (List.getElem?_eq_getElem hb)]
   by_cases hv:32≤l[i]∧l[i]≤126
   ·rw [Aw (by rw [dF (show ¬l[i]<32 by omega),dF (show ¬l[i]>126 by omega)];rfl),ckb (by omega)]
    obtain ⟨e,he,hv'⟩:=ih (i+1) (by omega) (by omega)
    refine ⟨e,he,hv'.trans ?_⟩
    rw [hd]
    constructor
    ·intro h v hv'
     rcases List.mem_cons.1 hv' with rfl|hv'
     ·exact hv
     ·exact h v hv'
    ·exact fun h v hv'=>h v (List.mem_cons_of_mem _ hv')
   ·rw [Ax ?_]
    ·exact ⟨7,rfl,⟨fun h=>by simp at h,fun h=>absurd (h l[i] (by rw [hd];exact List.mem_cons_self ..)) hv⟩⟩
    ·by_cases h1:l[i]<32
     ·simp [h1]
     ·have:l[i]>126:=by omega
      simp [this]
  ·rw [Aw (dF (by omega)),Gb]
   exact ⟨0,rfl,by simp [List.drop_of_length_le (show l.length≤i by omega)]⟩
theorem A0s {F:Nat} (hF:5000≤F) (n:volume_note):∃e,Bz F n=some e∧(e=0↔Xl n):=by
 unfold Bz Xl
 by_cases h1:inB n.time 0 4294967296
 ·rw [Aw (by have:=h1.1;have:=h1.2;rw [dF (show ¬n.time<0 by omega),dF (show ¬n.time>4294967296 by omega)];rfl)]
  by_cases h2:n.text.size≤200
  ·have hs:s2b n.text=some (sby n.text):=by unfold s2b;rw [if_pos (by omega)]
   rw [Aw (dF (by omega)),hs,sb]
   obtain ⟨e,he,hv⟩:=Yp (sby n.text) (by rw [M0];omega) F 0 (by rw [M0];omega) (by omega)
   exact ⟨e,he,hv.trans ⟨fun h=>⟨h1,h2,h⟩,fun h=>h.2.2⟩⟩
  ·rw [Ax (dT (by omega))]
   exact ⟨8,rfl,⟨fun h=>by simp at h,fun h=>absurd h.2.1 h2⟩⟩
 ·rw [Ax ?_]
  ·exact ⟨3,rfl,⟨fun h=>by simp at h,fun h=>absurd h.1 h1⟩⟩
  ·by_cases h:n.time<0
   ·simp [h]
   ·have:n.time>4294967296:=by
     rcases Int.lt_or_le 4294967296 n.time with h|h
     ·exact h
     ·exact absurd ⟨by omega,h⟩ h1
    simp [this]
def vT (t:volume_thing):Prop:=t.cs False (fun s=>vSweep s.Sweep) Tr Xl
theorem V8 {F:Nat} (hF:5000≤F) {t:volume_thing} (ht:t≠.nil_):∃e,Hd F t=some e∧(e=0↔vT t):=by
 cases t with
 | nil_=>exact absurd rfl ht
 | ic156 s =>
  obtain ⟨e,he,hv⟩:=Zy (F:=F) (by omega) s.Sweep
  exact ⟨e,by show Di F s=_;rw [Di,he];rfl,hv⟩
 | ic158 f=>exact Yy hF f
 | ic160 n=>exact A0s (by omega) n
theorem Kr {x lo hi:Int} (h:inB x lo hi) (h0:0≤lo) (h1:hi≤4611686018427387904):okN x:=⟨by have:=h.1;omega,by have:=h.2;omega⟩
theorem Ud {s:ByteArray} (h:Pb s=true):s.size≤12:=by
 unfold Pb at h
 simp only [Bool.and_eq_true,decide_eq_true_eq] at h
 omega
theorem vEcho.ok {x:api_Echo} (h:vEcho x):okE x:=by
 have hz:∀{s:api_Span},z0 s→okS s:=fun {s} h=>⟨by have:=h.1;omega,by have:=h.1;have:=h.2;omega,by have:=h.2;omega⟩
 have hi:∀{s:api_Span} {lo hi:Int},Ns s lo hi→-1000000000000000000≤lo→hi≤1000000000000000000→okS s:=fun {s lo hi} h h1 h2=>⟨by have:=h.1;omega,h.2.1,by have:=h.2.2;omega⟩
 have ht:∀{s:api_Span},Gj s→okS s:=fun {s} h=>⟨by have:=h.1;omega,h.2.2.1,by have:=h.2.1;have:=h.2.2.2;omega⟩
 rcases h with ⟨a,b,c,d,e,f,g,h,i⟩|⟨a,b,c,d,e,f,g,h⟩
 ·exact ⟨⟨by omega,by omega⟩,⟨by have:=b.1;have:=b.2.1;omega,by have:=b.2.2;omega⟩,⟨by omega,by omega⟩,hi b (by decide) (by decide),hz g,hz h,hz d,hz e,hz i⟩
 ·have hh:okS x.Steps.1∧okS x.Steps.2∧okS x.Turn:=by
   rcases a with a|a
   ·obtain ⟨u,v,w⟩:=g a;exact ⟨hz u,hz v,hz w⟩
   ·obtain ⟨u,v,w⟩:=h a;exact ⟨ht u,ht v,ht w⟩
  exact ⟨⟨by omega,by omega⟩,⟨by have:=b.1;have:=b.2.1;omega,by have:=b.2.2;omega⟩,Kr f (by decide) (by decide),hi b (by decide) (by decide),hi d (by decide) (by decide),hi e (by decide) (by decide),hh.1,hh.2.1,hh.2.2⟩
theorem A0j {α:Type} {l:List (List α)} {n:Nat} (h:∀r∈l,r.length=n):l.flatten.length=l.length*n:=by
 induction l with
 | nil=>simp
 | cons r l ih =>
  rw [List.flatten_cons,List.length_append,h r (by simp),ih fun r hr=>h r (by simp [hr]),List.length_cons,Nat.add_mul,Nat.one_mul];omega
theorem vSweep.len {s:api_Sweep} (h:vSweep s):(s.Rays.flatten.length:Int)=4*s.Site.Rose*s.Site.Gates:=by
 obtain ⟨_,_,_,h1,h2,_⟩:=h
 have hg:∀r∈s.Rays,r.length=s.Site.Gates.toNat:=fun r hr=>by have:=h2 r hr;omega
 rw [A0j hg]
 cases hr:s.Rays with
 | nil=>rw [hr] at h1;simp at h1;simp;rw [show s.Site.Rose=0 by omega];simp
 | cons r l =>
  have:=h2 r (by rw [hr];simp)
  rw [←hr,←h1]
  push_cast
  congr 1
  omega
theorem vT.ok {t:volume_thing} (h:vT t):okT t:=by
 cases t with
 | nil_=>exact h
 | ic156 s =>
  have hv:vSweep s.Sweep:=h
  have hlen:=hv.len
  obtain ⟨⟨n,x,y,z,r,g,st,w⟩,ti,tm,h1,h2,h3⟩:=hv
  have hm:4*s.Sweep.Site.Rose*s.Sweep.Site.Gates≤360*s.Sweep.Site.Gates:=Int.mul_le_mul_of_nonneg_right (by have:=r.2;omega) (by have:=g.1;omega)
  refine ⟨⟨by have:=Ud n;omega,⟨by have:=x.1;omega,by have:=x.2;omega⟩,⟨by have:=y.1;omega,by have:=y.2;omega⟩,Kr z (by decide) (by decide),Kr r (by decide) (by decide),Kr g (by decide) (by decide),Kr st (by decide) (by decide),Kr w (by decide) (by decide)⟩,Kr ti (by decide) (by decide),Kr tm (by decide) (by decide),by have:=r.2;omega,by have:=g.2;omega,fun r hr x hx=>(h3 r hr x hx).ok⟩
 | ic158 f =>
  obtain ⟨n,tm,hg,h1,h2⟩:=(show Tr f from h)
  have:=Pp hg
  obtain ⟨x,y,z,r,g⟩:=hg
  exact ⟨by have:=Ud n;omega,Kr tm (by decide) (by decide),⟨by have:=x.1;omega,by have:=x.2;omega⟩,⟨by have:=y.1;omega,by have:=y.2;omega⟩,Kr z (by decide) (by decide),Kr r (by decide) (by decide),Kr g (by decide) (by decide),by omega,fun v hv=>by obtain ⟨a,b,c⟩:=h2 v hv;exact ⟨by omega,b,by omega⟩⟩
 | ic160 n =>
  obtain ⟨tm,h1,h2⟩:=(show Xl n from h)
  exact ⟨Kr tm (by decide) (by decide),by omega⟩
end Go.Proofs.YtifbomimeodibaaGreat
namespace Go.Proofs.YtifbomimeodibaaGreat
open Go Go.RowKit Go.Eng
set_option maxRecDepth 10000
set_option linter.unusedVariables false
set_option linter.unusedSimpArgs false
instance (g:api_Grid):Decidable (Ru g):=by unfold Ru;infer_instance
def So {α:Type} (g:Nat):Nat→List α→List (List α)
 | 0,_=>[]
 | n+1,l=>l.take g::So g n (l.drop g)
def Tl (l:List Int):Option (volume_thing×List Int):=(rT l).bind fun nm=>(rI nm.2).bind fun x=>(rI x.2).bind fun y=>(rN y.2).bind fun z=>(rN z.2).bind fun ro=>(rN ro.2).bind fun g=>(rN g.2).bind fun st=>(rN st.2).bind fun w=>(rN w.2).bind fun ti=>(rN ti.2).bind fun tm =>
 if Sm ⟨nm.1,x.1,y.1,z.1,ro.1,g.1,st.1,w.1⟩ then (rL rE ((4*ro.1*g.1).toNat+1) (4*ro.1*g.1).toNat e0 tm.2).bind fun all=>some (.ic156 ⟨⟨⟨nm.1,x.1,y.1,z.1,ro.1,g.1,st.1,w.1⟩,ti.1,tm.1,So g.1.toNat (4*ro.1).toNat all.1⟩⟩,all.2) else none
def Tk (l:List Int):Option (volume_thing×List Int):=(rT l).bind fun nm=>(rN nm.2).bind fun tm=>(rI tm.2).bind fun x=>(rI x.2).bind fun y=>(rN y.2).bind fun sz=>(rN sz.2).bind fun wd=>(rN wd.2).bind fun hi =>
 if Ru ⟨x.1,y.1,sz.1,wd.1,hi.1⟩ then (rL rS ((wd.1*hi.1).toNat+1) (wd.1*hi.1).toNat ⟨0,0⟩ hi.2).bind fun all=>some (.ic158 ⟨nm.1,tm.1,⟨⟨x.1,y.1,sz.1,wd.1,hi.1⟩,all.1⟩⟩,all.2) else none
def Vk (l:List Int):Option (volume_thing×List Int):=(rN l).bind fun tm=>(rT tm.2).bind fun tx=>some (.ic160 ⟨tm.1,tx.1⟩,tx.2)
def P3 (l:List Int):Option (volume_thing×List Int):=(rN l).bind fun k=>if k.1=1 then Tl k.2 else if k.1=2 then Tk k.2 else if k.1=3 then Vk k.2 else none
theorem A0y (a:ByteArray×volume_reader) (b c:Int×volume_reader) (x1 x2 x3 x4 x5 x6 x7:Int) (y:List api_Echo×volume_reader) (hg:1≤x3∧x3≤1000):∀(m n:Nat) (acc:List (List api_Echo)) (l:List api_Echo),n<m→l.length=n*x3.toNat→n+acc.length≤1000 →
  Cf a b c x1 x2 x3 x4 x5 x6 x7 y m acc l=Dx a b c x1 x2 x3 x4 x5 x6 x7 y (acc++So x3.toNat n l):=by
 intro m
 induction m with
 | zero=>intro n acc l h;omega
 | succ m ih =>
  intro n acc l h hl hn
  rw [Cf,F5]
  cases n with
  | zero =>
   rw [Aw (dF (by omega)),So,List.append_nil]
  | succ n =>
   rw [Nat.add_mul,Nat.one_mul] at hl
   rw [Ax (dT (by omega)),N6 x3.toNat rfl (by omega) (by omega),Pl (by simp;omega) (by decide),Lt x3.toNat (by omega) rfl (by omega)]
   rw [ih n (acc++[l.take x3.toNat]) (l.drop x3.toNat) (by omega) (by simp;omega) (by simp;omega)]
   rw [So,List.append_assoc]
   rfl
theorem Us (F:Nat) (e:Int):H3 F e=some (if e=0 then .ok () else .error W7):=by
 unfold H3
 by_cases h:e=0
 ·rw [Aw (by simp [h]),if_pos h]
 ·rw [Ax (by simp [h]),if_neg h];rfl
theorem Zl {F:Nat} (hF:200000≤F) (nm:ByteArray) (x y z ro g st w ti tm:Int) (r0 r1 r2:volume_reader) {l:List Int} (hl:By l) :
  Rd (Dw F (nm,r0) (x,r1) (y,r2) z ro g st w ti tm l) (if Sm ⟨nm,x,y,z,ro,g,st,w⟩ then (rL rE ((4*ro*g).toNat+1) (4*ro*g).toNat e0 l).bind fun all=>some (.ic156 ⟨⟨⟨nm,x,y,z,ro,g,st,w⟩,ti,tm,So g.toNat (4*ro).toNat all.1⟩⟩,all.2) else none):=by
 unfold Dw
 obtain ⟨e,he,hv⟩:=V0 F ⟨nm,x,y,z,ro,g,st,w⟩
 rw [he,sb,Us,sb]
 by_cases h:e=0
 ·rw [if_pos h,if_pos (hv.1 h)]
  obtain ⟨_,_,_,_,⟨b1,b2⟩,⟨b3,b4⟩,_⟩:=hv.1 h
  simp only at b1 b2 b3 b4
  have hm:4*ro*g≤360*g:=Int.mul_le_mul_of_nonneg_right (by omega) (by omega)
  have hm0:0≤4*ro*g:=Int.mul_nonneg (by omega) (by omega)
  show Rd ((ck (4*ro)).bind _) _
  rw [ckb (by omega),ckb (by omega)]
  have hr:=Zk hF (N:=(4*ro*g).toNat) (by omega) hl e0
  rw [show (((4*ro*g).toNat:Nat):Int)=4*ro*g by omega] at hr
  refine Rd.bind hr fun all r h2=>?_
  have hlen:=(Zj (fun l x r hb h=>Wk hb h) _ _ _ _ _ _ hl h2).1
  have hl2:all.length=(4*ro).toNat*g.toNat:=by
   rw [hlen]
   have:(4*ro*g)=(((4*ro).toNat*g.toNat:Nat):Int):=by
    push_cast
    rw [show ((4*ro).toNat:Int)=4*ro by omega,show (g.toNat:Int)=g by omega]
   omega
  show Rd (Cf _ _ _ z ro g st w ti tm _ F [] all) _
  rw [A0y _ _ _ z ro g st w ti tm _ ⟨b3,by omega⟩ F (4*ro).toNat [] all (by omega) hl2 (by simp;omega),Dx]
  exact Rd.ok
 ·rw [if_neg h,if_neg (fun h'=>h (hv.2 h'))]
  exact Rd.bad
theorem A0x {F:Nat} (hF:200000≤F) {l:List Int} (hl:By l):Rd (Cg F ⟨l⟩) (P3 l):=by
 have h1000:1000≤F:=by omega
 rw [Cg,P3]
 refine (Da h1000 hl).bind fun k r h=>?_
 have hb:=hl.suf (Ft hl h).2.2
 show Rd (bif k==1 then _ else bif k==2 then _ else bif k==3 then _ else _) (if k=1 then _ else if k=2 then _ else if k=3 then _ else _)
 by_cases k1:k=1
 ·rw [if_pos k1,Ax (by simp [k1]),Tl]
  refine (Wl h1000 hb).bind fun nm r1 h1=>?_
  have b1:=hb.suf (A1q hb h1).1
  refine (Nd h1000 b1).bind fun x r2 h2=>?_
  have b2:=b1.suf (Ug b1 h2).2
  refine (Nd h1000 b2).bind fun y r3 h3=>?_
  have b3:=b2.suf (Ug b2 h3).2
  refine (Da h1000 b3).bind fun z r4 h4=>?_
  have b4:=b3.suf (Ft b3 h4).2.2
  refine (Da h1000 b4).bind fun ro r5 h5=>?_
  have b5:=b4.suf (Ft b4 h5).2.2
  refine (Da h1000 b5).bind fun g r6 h6=>?_
  have b6:=b5.suf (Ft b5 h6).2.2
  refine (Da h1000 b6).bind fun st r7 h7=>?_
  have b7:=b6.suf (Ft b6 h7).2.2
  refine (Da h1000 b7).bind fun w r8 h8=>?_
  have b8:=b7.suf (Ft b7 h8).2.2
  refine (Da h1000 b8).bind fun ti r9 h9=>?_
  have b9:=b8.suf (Ft b8 h9).2.2
  refine (Da h1000 b9).bind fun tm r10 h10=>?_
  have b10:=b9.suf (Ft b9 h10).2.2
  exact Zl hF nm x y z ro g st w ti tm _ _ _ b10
 ·rw [if_neg k1,Aw (by simp [k1])]
  by_cases k2:k=2
  ·rw [if_pos k2,Ax (by simp [k2]),Tk]
   refine (Wl h1000 hb).bind fun nm r1 h1=>?_
   have b1:=hb.suf (A1q hb h1).1
   refine (Da h1000 b1).bind fun tm r2 h2=>?_
   have b2:=b1.suf (Ft b1 h2).2.2
   refine (Nd h1000 b2).bind fun x r3 h3=>?_
   have b3:=b2.suf (Ug b2 h3).2
   refine (Nd h1000 b3).bind fun y r4 h4=>?_
   have b4:=b3.suf (Ug b3 h4).2
   refine (Da h1000 b4).bind fun sz r5 h5=>?_
   have b5:=b4.suf (Ft b4 h5).2.2
   refine (Da h1000 b5).bind fun wd r6 h6=>?_
   have b6:=b5.suf (Ft b5 h6).2.2
   refine (Da h1000 b6).bind fun hi r7 h7=>?_
   have b7:=b6.suf (Ft b6 h7).2.2
   show Rd ((H3 F (Bb ⟨x,y,sz,wd,hi⟩)).bind _) (if Ru ⟨x,y,sz,wd,hi⟩ then _ else _)
   rw [Us,sb]
   have hg:=Su ⟨x,y,sz,wd,hi⟩
   by_cases h0:Bb ⟨x,y,sz,wd,hi⟩=0
   ·rw [if_pos h0,if_pos (hg.1 h0)]
    obtain ⟨c1,c2⟩:=Pp (hg.1 h0)
    simp only at c1 c2
    show Rd ((ck (wd*hi)).bind _) _
    rw [ckb (by omega)]
    have hr:=A0w hF (N:=(wd*hi).toNat) (by omega) b7 ⟨0,0⟩
    rw [show (((wd*hi).toNat:Nat):Int)=wd*hi by omega] at hr
    refine Rd.bind hr fun all r h2=>?_
    exact Rd.ok
   ·rw [if_neg h0,if_neg (fun h'=>h0 (hg.2 h'))]
    exact Rd.bad
  ·rw [if_neg k2,Aw (by simp [k2])]
   by_cases k3:k=3
   ·rw [if_pos k3,Ax (by simp [k3]),Vk]
    refine (Da h1000 hb).bind fun tm r1 h1=>?_
    have b1:=hb.suf (Ft hb h1).2.2
    refine (Wl h1000 b1).bind fun tx r2 h2=>?_
    exact Rd.ok
   ·rw [if_neg k3,Aw (by simp [k3]),F6]
    exact Rd.bad
theorem Vl {F:Nat} (hF:1000≤F) {p:List Int} (hp:By p):(∃r,Cw F ⟨p⟩=some (0,false,r)∧rN p=none)∨∃n r,Cw F ⟨p⟩=some (n,true,⟨r⟩)∧rN p=some (n,r):=by
 have h:=Da hF hp
 unfold Cw
 cases hn:rN p with
 | none =>
  rw [hn] at h
  obtain ⟨r,h⟩:=h
  rw [h]
  exact .inl ⟨_,rfl,rfl⟩
 | some y =>
  rw [hn] at h
  rw [show Ak F ⟨p⟩=some (.ok (y.1,⟨y.2⟩)) from h]
  exact .inr ⟨y.1,y.2,rfl,rfl⟩
theorem Xi {l:List Int} (h:By l):sby (bst l)=l:=by
 unfold sby bst
 simp only [List.map_map]
 conv=>rhs;rw [←List.map_id l]
 apply List.map_congr_left
 intro x hx
 have:=h x hx
 simp only [Function.comp,id]
 rw [UInt8.toNat_ofNat_of_lt' (show x.toNat<256 by omega)]
 omega
theorem bEq {a b:List Int} (ha:By a) (hb:By b):Ez a b=decide (a=b):=by
 unfold Ez
 rw [Bool.eq_iff_iff,Sz,decide_eq_true_eq]
 exact ⟨fun h=>by rw [←Xi ha,←Xi hb,h],fun h=>by rw [h]⟩
theorem Y7 {l:List Int} {t:volume_thing} {r:List Int} (h:P3 l=some (t,r)):t≠.nil_:=by
 obtain ⟨k,r1,h1,h⟩:=Em h
 split at h
 ·unfold Tl at h
  obtain ⟨_,_,_,h⟩:=Em h
  obtain ⟨_,_,_,h⟩:=Em h
  obtain ⟨_,_,_,h⟩:=Em h
  obtain ⟨_,_,_,h⟩:=Em h
  obtain ⟨_,_,_,h⟩:=Em h
  obtain ⟨_,_,_,h⟩:=Em h
  obtain ⟨_,_,_,h⟩:=Em h
  obtain ⟨_,_,_,h⟩:=Em h
  obtain ⟨_,_,_,h⟩:=Em h
  obtain ⟨_,_,_,h⟩:=Em h
  split at h
  ·obtain ⟨_,_,_,h⟩:=Em h
   cases h
   simp
  ·cases h
 ·split at h
  ·unfold Tk at h
   obtain ⟨_,_,_,h⟩:=Em h
   obtain ⟨_,_,_,h⟩:=Em h
   obtain ⟨_,_,_,h⟩:=Em h
   obtain ⟨_,_,_,h⟩:=Em h
   obtain ⟨_,_,_,h⟩:=Em h
   obtain ⟨_,_,_,h⟩:=Em h
   obtain ⟨_,_,_,h⟩:=Em h
   split at h
   ·obtain ⟨_,_,_,h⟩:=Em h
    cases h
    simp
   ·cases h
  ·split at h
   ·unfold Vk at h
    obtain ⟨_,_,_,h⟩:=Em h
    obtain ⟨_,_,_,h⟩:=Em h
    cases h
    simp
   ·cases h
noncomputable instance (t:volume_thing):Decidable (vT t):=Classical.propDecidable _
noncomputable def unS (p:List Int):volume_thing×Int:=match rN p with
 | none=>(.nil_,15)
 | some (n,r)=>if (r.length:Int)≠n+5 then (.nil_,15) else if p.drop (p.length-5)≠W0 (p.take (p.length-5)) then (.nil_,15) else match P3 (r.take n.toNat) with
  | none=>(.nil_,7)
  | some (t,r2)=>if vT t∧r2=[] then (t,0) else (.nil_,7)
theorem A1t {F:Nat} (hF:200000≤F) {p:List Int} (hp:By p) (hl:p.length<F) (hl9:p.length≤1000000000):Hr F p=some (unS p):=by
 unfold Hr unS
 rcases Vl (F:=F) (by omega) hp with ⟨r,h1,h2⟩|⟨n,r,h1,h2⟩
 ·rw [h1,h2,sb,Ax (by rfl)]
 ·obtain ⟨a,b,c⟩:=Ft hp h2
  have hrl:=c.length_le
  rw [h1,h2,sb,Aw (by rfl),ckb (by simp only;omega)]
  show (bif (r.length:Int) != n+5 then _ else _)=some (if (r.length:Int)≠n+5 then _ else _)
  by_cases h3:(r.length:Int)=n+5
  ·rw [if_neg (by simp [h3]),Aw (by simp [h3]),ckb (by omega),Lt (p.length-5) (by omega) rfl (by omega),ckb (by omega),N6 (p.length-5) rfl (by omega) (by omega)]
   have hby1:By (p.take (p.length-5)):=fun x hx=>hp x (List.mem_of_mem_take hx)
   have hby2:By (p.drop (p.length-5)):=fun x hx=>hp x (List.mem_of_mem_drop hx)
   rw [A2q (by omega) hby1 (by rw [List.length_take];omega) (by rw [List.length_take];omega),sb,bEq hby2 (A1a _).by]
   by_cases h4:p.drop (p.length-5)=W0 (p.take (p.length-5))
   ·rw [if_neg (by simp [h4]),dT h4,Aw (by rfl),N6 n.toNat rfl (by simp only;omega) (show n.toNat≤r.length by omega)]
    have hbr:By (r.take n.toNat):=fun x hx=>(hp.suf c) x (List.mem_of_mem_take hx)
    have ht:=A0x hF hbr
    cases h5:P3 (r.take n.toNat) with
    | none =>
     rw [h5] at ht
     obtain ⟨r',ht⟩:=ht
     show (Cg F ⟨r.take n.toNat⟩).bind _=_
     rw [ht,sb]
     rfl
    | some y =>
     obtain ⟨t,r2⟩:=y
     rw [h5] at ht
     show (Cg F ⟨r.take n.toNat⟩).bind _=_
     rw [show Cg F ⟨r.take n.toNat⟩=some (.ok (t,⟨r2⟩)) from ht,sb]
     obtain ⟨e,he,hv⟩:=V8 (F:=F) (by omega) (Y7 h5)
     show (Hd F t).bind _=_
     rw [he,sb,Us,sb]
     by_cases h6:e=0
     ·rw [if_pos h6]
      by_cases h7:r2=[]
      ·subst h7
       show _=some (if vT t∧([]:List Int)=[] then _ else _)
       rw [if_pos ⟨hv.1 h6,rfl⟩]
       rfl
      ·show (bif decide ((r2.length:Int)>0) then _ else _)=some (if vT t∧r2=[] then _ else _)
       rw [if_neg (fun h=>h7 h.2),Ax (dT (by have:=List.length_pos_iff.2 h7;omega))]
     ·rw [if_neg h6]
      show _=some (if vT t∧r2=[] then _ else _)
      rw [if_neg (fun h=>h6 (hv.2 h.1))]
      rfl
   ·rw [if_pos h4,dF h4,Ax (by rfl)]
  ·rw [if_pos h3,Ax (by simp [h3])]
end Go.Proofs.YtifbomimeodibaaGreat
namespace Go.Proofs.YtifbomimeodibaaGreat
open Go Go.RowKit Go.Eng
set_option maxRecDepth 10000
set_option linter.unusedVariables false
set_option linter.unusedSimpArgs false
end Go.Proofs.YtifbomimeodibaaGreat
namespace Go.Proofs.YtifbomimeodibaaGreat
open Go Go.RowKit Go.Eng
set_option maxRecDepth 10000
set_option linter.unusedVariables false
set_option linter.unusedSimpArgs false
def B3 (ps:List (List Int)):List Int:=ps.flatMap fun p=>0::p
theorem C7 (p:List Int) (ps:List (List Int)):B3 (p::ps)=0::(p++B3 ps):=by simp [B3]
theorem Zx (l:List Int) (h:By l):∃p ps,l=p++B3 ps∧Nz p∧∀q∈ps,Nz q:=by
 induction l with
 | nil=>exact ⟨[],[],rfl,Nz.nil,fun q hq=>by cases hq⟩
 | cons x l ih =>
  obtain ⟨p,ps,h1,h2,h3⟩:=ih fun y hy=>h y (by simp [hy])
  have hx:=h x (by simp)
  by_cases h0:x=0
  ·refine ⟨[],p::ps,by rw [h0,h1,C7];rfl,Nz.nil,fun q hq=>?_⟩
   rcases List.mem_cons.1 hq with rfl|hq
   ·exact h2
   ·exact h3 q hq
  ·refine ⟨x::p,ps,by rw [h1];rfl,fun y hy=>?_,h3⟩
   rcases List.mem_cons.1 hy with rfl|hy
   ·omega
   ·exact h2 y hy
theorem Z6 {ps:List (List Int)} (h:∀q∈ps,Nz q):By (B3 ps):=fun x hx=>by
 obtain ⟨p,hp,hx⟩:=List.mem_flatMap.1 hx
 rcases List.mem_cons.1 hx with rfl|hx
 ·exact ⟨by decide,by decide⟩
 ·exact (h p hp).by x hx
theorem A1r {x:Int} (h:1≤x∧x<256):(UInt8.ofNat x.toNat==(0:Int).toNat.toUInt8)=false:=by
 rw [beq_eq_false_iff_ne]
 intro he
 have:=congrArg UInt8.toNat he
 rw [UInt8.toNat_ofNat_of_lt' (show x.toNat<256 by omega)] at this
 simp at this
 omega
theorem Z3 {p:List Int} (h:Nz p):Z1 p 0=-1:=by
 induction p with
 | nil=>rfl
 | cons x p ih =>
  have:=ih fun y hy=>h y (by simp [hy])
  unfold Z1 at this ⊢
  show Lib.indexByte (UInt8.ofNat x.toNat::Lib.bytesOf p) _=_
  rw [Lib.indexByte,A1r (h x (by simp)),if_neg (by simp),this]
  rfl
theorem Z2 {p:List Int} (l:List Int) (h:Nz p):Z1 (p++0::l) 0=p.length:=by
 induction p with
 | nil=>rfl
 | cons x p ih =>
  have:=ih fun y hy=>h y (by simp [hy])
  unfold Z1 at this ⊢
  show Lib.indexByte (UInt8.ofNat x.toNat::Lib.bytesOf (p++0::l)) _=_
  rw [Lib.indexByte,A1r (h x (by simp)),if_neg (by simp),this,if_neg (by rw [beq_iff_eq];omega)]
  simp
def Qn {σ X:Type} (body:σ→X→Option (σ×Bool)):List X→σ→Option (σ×Bool)
 | [],s=>some (s,true)
 | x::l,s=>(body s x).bind fun q=>bif q.2 then Qn body l q.1 else some (q.1,false)
def Qq:Int→List (List Int)→List (Int×List Int)
 | _,[]=>[]
 | k,p::ps=>(k,p)::Qq (k+1+p.length) ps
theorem Vj {σ:Type} (body:σ→Int×List Int→Option (σ×Bool)) (b:List Int) (hb:b.length≤1000000000):∀(ps:List (List Int)) (m k:Nat) (s:σ),ps≠[]→b.drop k=B3 ps→(∀q∈ps,Nz q)→ps.length<m →
  Dh body b m k s=Qn body (Qq k ps) s:=by
 intro ps
 induction ps with
 | nil=>intro m k s h;exact absurd rfl h
 | cons p ps ih =>
  intro m k s _ hd hz hm
  obtain ⟨m,rfl⟩:∃m',m=m'+1:=⟨m-1,by omega⟩
  rw [C7] at hd
  have hk:k<b.length:=by
   rcases Nat.lt_or_ge k b.length with h|h
   ·exact h
   ·rw [List.drop_of_length_le h] at hd;cases hd
  have hd1:b.drop (k+1)=p++B3 ps:=by
   have:=congrArg List.tail hd
   rw [List.tail_drop] at this
   exact this
  have hlen:=congrArg List.length hd1
  rw [List.length_drop,List.length_append] at hlen
  have hp:Nz p:=hz p (by simp)
  rw [Dh,G1,Ax (by rw [dT (show (k:Int)≥0 by omega),dT (show (k:Int)<(b.length:Int) by omega)];rfl),ckb (by omega),Lt (k+1) (by omega) rfl (by omega),hd1]
  cases ps with
  | nil =>
   have e:p++B3 []=p:=by simp [B3]
   have hi:Bf (p++B3 []) 0=-1:=by rw [e];exact Z3 hp
   rw [hi,Ax (by rfl),ckb (by omega),Lt (k+1) (by omega) rfl (by omega),hd1,e]
   rfl
  | cons p2 ps =>
   have hi:Bf (p++B3 (p2::ps)) 0=p.length:=by rw [C7];exact Z2 _ hp
   have hj:(B3 (p2::ps)).length≥1:=by rw [C7];simp
   rw [hi,Aw (dF (by omega)),ckb (by omega),ckb (by omega),ckb (by omega),W8 (k+1) (k+1+p.length) (by omega) (by omega) (by omega),hd1,show k+1+p.length-(k+1)=p.length by omega,List.take_left]
   rw [Qq,Qn]
   congr 1
   funext q
   cases hq:q.2 with
   | false=>rfl
   | true =>
    rw [Ax rfl,Ax rfl,ckb (by omega),ckb (by omega)]
    have:=ih m (k+1+p.length) q.1 (by simp) (by rw [←List.drop_drop,hd1,List.drop_left]) (fun r hr=>hz r (by simp [hr])) (by simp at hm ⊢;omega)
    rw [show ((k:Int)+(1+(p.length:Int)))=((k+1+p.length:Nat):Int) by omega,this]
    rw [show ((k+1+p.length:Nat):Int)=(k:Int)+1+p.length by omega]
theorem Uf {σ:Type} (F:Nat) (body:σ→Int×List Int→Option (σ×Bool)) {p:List Int} {ps:List (List Int)} (hp:Nz p) (hz:∀q∈ps,Nz q) (hl:(p++B3 ps).length≤1000000000) (hF:ps.length<F) (s:σ) :
  Fa F (p++B3 ps) body s=Qn body (Qq p.length ps) s:=by
 rw [Fa]
 cases ps with
 | nil =>
  have e:p++B3 []=p:=by simp [B3]
  have hi:Bf (p++B3 []) 0=-1:=by rw [e];exact Z3 hp
  obtain ⟨G,rfl⟩:∃G,F=G+1:=⟨F-1,by omega⟩
  rw [hi,Dh,G1,Aw (by rfl)]
  rfl
 | cons q qs =>
  have hi:Bf (p++B3 (q::qs)) 0=p.length:=by rw [C7];exact Z2 _ hp
  rw [hi]
  exact Vj body _ hl _ F p.length s (by simp) (by rw [List.drop_left]) hz hF
theorem M7 (ps:List (List Int)):ps.length≤(B3 ps).length:=by
 induction ps with
 | nil=>simp
 | cons p ps ih=>rw [C7];simp;omega
def Gs (t:volume_thing):volume_Item:=t.cs default A3 A2 A4
theorem Xb (F:Nat) {t:volume_thing} (h:t≠.nil_):Hw F t=some (Gs t):=by
 cases t with
 | nil_=>exact absurd rfl h
 | ic156 s=>rfl
 | ic158 f=>rfl
 | ic160 n=>rfl
theorem V4 {p:List Int} (h:(unS p).2=0):vT (unS p).1:=by
 unfold unS at h ⊢
 split
 ·rename_i h1;rw [h1] at h;cases h
 ·rename_i n r h1
  rw [h1] at h
  simp only at h
  split
  ·rename_i h2;rw [if_pos h2] at h;cases h
  ·rename_i h2
   rw [if_neg h2] at h
   split
   ·rename_i h3;rw [if_pos h3] at h;cases h
   ·rename_i h3
    rw [if_neg h3] at h
    split
    ·rename_i h4;rw [h4] at h;cases h
    ·rename_i t r2 h4
     rw [h4] at h
     simp only at h
     split
     ·rename_i h5;exact h5.1
     ·rename_i h5;rw [if_neg h5] at h;cases h
theorem vT.nn {t:volume_thing} (h:vT t):t≠.nil_:=fun e=>by rw [e] at h;exact h
def S2 (p:List Int):Bool:=p.all fun c=>decide (c≥128)&&decide (c≤254)
def Tp (p:List Int):Bool:=S2 p||match rN p with
 | none=>false
 | some (n,r)=>decide ((r.length:Int)<n+5)
theorem Ye {F:Nat} (hF:1000≤F) {p:List Int} (hp:By p) (hl:p.length≤1000000000):∀(m i:Nat) (c:Bool),p.length-i<m→i≤p.length →
  H0 F p m i c=Ja F p (c&&S2 (p.drop i)):=by
 intro m
 induction m with
 | zero=>intro i c h;omega
 | succ m ih =>
  intro i c h hi
  rw [H0,Kh]
  by_cases hb:i<p.length
  ·have hd:=List.drop_eq_getElem_cons hb
   rw [Ax (dT (by omega)),Jk i p[i] rfl (List.getElem?_eq_getElem hb),ckb (by omega),show ((i:Int)+1)=((i+1:Nat):Int) by omega,ih (i+1) _ (by omega) (by omega)]
   congr 1
   rw [hd]
   have e:S2 (p[i]::p.drop (i+1))=(decide (p[i]≥128)&&decide (p[i]≤254)&&S2 (p.drop (i+1))):=List.all_cons ..
   rw [e]
   cases c<;>cases decide (p[i]≥128)<;>cases decide (p[i]≤254)<;>cases S2 (p.drop (i+1))<;>rfl
  ·rw [Aw (dF (by omega)),List.drop_of_length_le (by omega)]
   simp [S2]
theorem A1c {F:Nat} (hF:1000≤F) {p:List Int} (hp:By p) (hlF:p.length<F) (hl:p.length≤1000000000):Ln F p=some (Tp p):=by
 rw [Ln,show (0:Int)=((0:Nat):Int) from rfl,Ye hF hp hl F 0 true (by omega) (by omega),Ja,List.drop_zero,Bool.true_and]
 unfold Tp
 rcases Vl hF hp with ⟨r,h1,h2⟩|⟨n,r,h1,h2⟩
 ·rw [h1,h2,sb]
  cases S2 p<;>rfl
 ·obtain ⟨a,b,c⟩:=Ft hp h2
  have:=c.length_le
  rw [h1,h2,sb]
  cases S2 p with
  | true=>rfl
  | false =>
   show ((ck (n+5)).bind fun x26=>some (decide ((r.length:Int)<x26)))=_
   rw [ckb (by omega)]
   rfl
noncomputable def rdF (total:Int):Int→List (List Int)→List volume_Item×Int×Int
 | _,[]=>([],total,0)
 | k,p::ps=>if (unS p).2=0 then (Gs (unS p).1::(rdF total (k+1+p.length) ps).1,(rdF total (k+1+p.length) ps).2) else ([],k,if ps=[]∧Tp p=true then 16 else (unS p).2)
theorem Y9 {F:Nat} (hF:200000≤F) (b:List Int) (hb:b.length<F) (hb9:b.length≤1000000000) (total:Int):∀(ps:List (List Int)) (k:Int) (acc:List volume_Item),0≤k→k+(B3 ps).length=b.length→(∀q∈ps,Nz q)→acc.length+ps.length≤1000000000 →
  ∃tg:Nat,Qn (Gy F b) (Qq k ps) (acc,total,0,0)=some ((acc++(rdF total k ps).1,(rdF total k ps).2.1,(rdF total k ps).2.2,tg),decide (tg≠3))∧(tg=0∨tg=3):=by
 intro ps
 induction ps with
 | nil=>intro k acc h0 h1 h2 h3;exact ⟨0,by simp [Qq,Qn,rdF],.inl rfl⟩
 | cons p ps ih =>
  intro k acc h0 h1 h2 h3
  have hp:=(h2 p (by simp)).by
  rw [C7] at h1
  simp only [List.length_cons,List.length_append] at h1 h3
  have hun:=A1t hF hp (by omega) (by omega)
  rw [Qq,Qn,rdF,Gy]
  simp only [hun,sb]
  by_cases h:(unS p).2=0
  ·have hv:=V4 h
   have happ:(apd 224 acc [Gs (unS p).1]).bind (fun l405=>some ((l405,total,(0:Int),0),true))=some ((acc++[Gs (unS p).1],total,(0:Int),(0:Nat)),true):=Pl (by simp;omega) (by decide)
   rw [Aw (by simp [h]),Xb F hv.nn,sb,if_pos h,happ,sb,Ax rfl]
   obtain ⟨tg,h4,h5⟩:=ih (k+1+p.length) (acc++[Gs (unS p).1]) (by omega) (by omega) (fun q hq=>h2 q (by simp [hq])) (by simp;omega)
   refine ⟨tg,?_,h5⟩
   rw [h4,List.append_assoc]
   rfl
  ·rw [Ax (by simp [h]),ckb (by omega),ckb (by omega),if_neg h]
   refine ⟨3,?_,.inr rfl⟩
   have hlast:(k+1+(p.length:Int)==(b.length:Int))=decide (ps=[]):=by
    cases ps with
    | nil=>simp [B3] at h1;simp;omega
    | cons q qs=>rw [C7] at h1;simp at h1;simp;omega
   rw [hlast]
   by_cases h6:ps=[]
   ·rw [dT h6,gdT (by rfl),A1c (by omega) hp (by omega) (by omega),sb,Ax (c:=true) rfl]
    cases ht:Tp p with
    | true=>rw [Ax (by rfl),sb,Aw rfl,if_pos ⟨h6,rfl⟩];simp
    | false=>rw [Aw (by rfl),sb,Aw rfl,if_neg (by simp)];simp
   ·rw [dF h6,gdF (by rfl),sb,Aw (c:=false) rfl,Aw (by rfl),sb,Aw rfl,if_neg (fun h=>h6 h.1)];simp
def RVF1:List Int:=[82,86,70,49]
theorem RVF1_nz:Nz RVF1:=by intro x hx;simp [RVF1] at hx;omega
theorem Y6 (F:Nat) (l:List Int) (hl:By l):F8 F (RVF1++l) RVF1=some true:=by
 unfold F8
 rw [Ax (dT (by rw [List.length_append];omega)),N6 4 rfl (by rfl) (by rw [List.length_append];simp [RVF1]),show (4:Nat)=RVF1.length from rfl,List.take_left,bEq RVF1_nz.by RVF1_nz.by]
 simp
end Go.Proofs.YtifbomimeodibaaGreat
namespace Go.Proofs.YtifbomimeodibaaGreat
open Go Go.RowKit Go.Eng
set_option maxRecDepth 10000
set_option linter.unusedVariables false
set_option linter.unusedSimpArgs false
def okI (t:volume_thing):Prop:=vT t∧tzT t∧(V3 t).length≤6000
theorem okI.of {t:volume_thing} (h1:vT t) (h2:tzT t) (h3:cnt t≤32):okI t:=⟨h1,h2,by have:=W3 h1.ok;omega⟩
end Go.Proofs.YtifbomimeodibaaGreat
namespace Go.Proofs.YtifbomimeodibaaGreat
open Go Go.RowKit Go.Eng
set_option maxRecDepth 10000
set_option linter.unusedVariables false
set_option linter.unusedSimpArgs false
theorem W4:Jx FV=some true:=by kernel_rfl
theorem Q3 (s:ByteArray):sEq s s=true:=Sz.2 rfl
theorem Ri {x:Int}:(x != x)=false:=by simp
theorem A0v {t:volume_thing} (h:t≠.nil_):Fy (Gs t)=t:=by
 cases t with
 | nil_=>exact absurd rfl h
 | ic156 s =>
  show Fy (A3 s)=_
  simp [Fy,A3,Q3]
 | ic158 f =>
  show Fy (A2 f)=_
  simp [Fy,A2,Q3]
  rfl
 | ic160 n =>
  show Fy (A4 n)=_
  simp [Fy,A4,Q3]
  rfl
def A30 (ts:List volume_thing):List Int:=B3 (ts.map A2h)
end Go.Proofs.YtifbomimeodibaaGreat
namespace Go.Proofs.YtifbomimeodibaaGreat
open Go Go.RowKit Go.Eng
set_option maxRecDepth 10000
set_option linter.unusedVariables false
set_option linter.unusedSimpArgs false
theorem Rl {α:Type} [DecidableEq α] {a b:List α} {i:Nat} (ha:i<a.length) (hb:i<b.length):decide (a.drop i=b.drop i)=(decide (a[i]=b[i])&&decide (a.drop (i+1)=b.drop (i+1))):=by
 rw [List.drop_eq_getElem_cons ha,List.drop_eq_getElem_cons hb,Bool.eq_iff_iff,decide_eq_true_eq,List.cons.injEq,Bool.and_eq_true,decide_eq_true_eq,decide_eq_true_eq]
theorem Pn {α:Type} [DecidableEq α] {a b:List α} {i:Nat} (ha:a.length≤i) (hb:b.length≤i):decide (a.drop i=b.drop i)=true:=by
 rw [List.drop_of_length_le ha,List.drop_of_length_le hb];simp
theorem Zr (p0 p1:api_Sweep) (j:Nat) (k2:Int→Option Bool) (a b:List api_Echo) (ha:p0.Rays[j]? = some a) (hb:p1.Rays[j]? = some b) (hl:a.length=b.length) (h9:a.length≤1000000):∀(m i:Nat),a.length-i<m→i≤a.length →
  Gv p0 p1 j k2 m i=bif decide (a.drop i=b.drop i) then J2 j k2 else some false:=by
 intro m
 induction m with
 | zero=>intro i h;omega
 | succ m ih =>
  intro i h hi
  rw [Gv,K8,Jk j a rfl ha]
  by_cases hlt:i<a.length
  ·rw [Ax (dT (by omega)),Jk j a rfl ha,Jk i a[i] rfl (List.getElem?_eq_getElem hlt),Jk j b rfl hb,Jk i b[i] rfl (List.getElem?_eq_getElem (by omega)),Un,Rl hlt (by omega)]
   by_cases he:a[i]=b[i]
   ·rw [Aw (by simp [he]),ckb (by omega)]
    have:=ih (i+1) (by omega) (by omega)
    rw [show ((i:Int)+1)=((i+1:Nat):Int) by omega,this,dT he,Bool.true_and]
   ·rw [Ax (by simp [he]),dF he,Bool.false_and,Aw rfl]
  ·rw [Aw (dF (by omega)),Pn (by omega) (by omega),Ax rfl]
def A1x (s:api_Sweep):Prop:=s.Rays.length≤1000∧∀r∈s.Rays,r.length≤1000
theorem Y8 {F:Nat} (hF:2000≤F) (p0 p1:api_Sweep) (h0:A1x p0) (hl:p0.Rays.length=p1.Rays.length):∀(m i:Nat),p0.Rays.length-i<m→i≤p0.Rays.length→Fz F p0 p1 m i=some (decide (p0.Rays.drop i=p1.Rays.drop i)):=by
 intro m
 obtain ⟨hn,hr⟩:=h0
 induction m with
 | zero=>intro i h;omega
 | succ m ih =>
  intro i h hi
  rw [Fz,K7]
  by_cases hb:i<p0.Rays.length
  ·have hri:=hr _ (List.getElem_mem hb)
   rw [Ax (dT (by omega)),Jk i p0.Rays[i] rfl (List.getElem?_eq_getElem hb),Jk i p1.Rays[i] rfl (List.getElem?_eq_getElem (by omega)),Rl hb (by omega)]
   by_cases hle:p0.Rays[i].length=p1.Rays[i].length
   ·rw [Aw (by simp [hle])]
    have hrow:=Zr p0 p1 i (Fz F p0 p1 m) _ _ (List.getElem?_eq_getElem hb) (List.getElem?_eq_getElem (show i<p1.Rays.length by omega)) hle (by omega) F 0 (by omega) (by omega)
    refine hrow.trans ?_
    rw [List.drop_zero,List.drop_zero]
    by_cases he:p0.Rays[i]=p1.Rays[i]
    ·have:=ih (i+1) (by omega) (by omega)
     rw [dT he,Ax rfl,J2,ckb (by omega),show ((i:Int)+1)=((i+1:Nat):Int) by omega,this,Bool.true_and]
    ·rw [dF he,Aw rfl,Bool.false_and]
   ·rw [Ax (by simp;omega),dF (fun e=>hle (by rw [e])),Bool.false_and]
  ·rw [Aw (dF (by omega)),K9,Pn (by omega) (by omega)]
theorem A2y (a b:ByteArray):(a==b)=decide (a=b):=by
 rw [Bool.eq_iff_iff,decide_eq_true_eq]
 cases a with
 | mk x =>
  cases b with
  | mk y =>
   rw [ByteArray.mk.injEq,←beq_iff_eq (a:=x)]
   rfl
theorem A19 (a b:api_Site):((a.Name==b.Name)&&(((a.X:Int)==b.X)&&(((a.Y:Int)==b.Y)&&(((a.Z:Int)==b.Z)&&(((a.Rose:Int)==b.Rose)&&(((a.Gates:Int)==b.Gates)&&(((a.Step:Int)==b.Step)&&(((a.Width:Int)==b.Width)&&true))))))))=decide (a=b):=by
 rw [A2y]
 cases a;cases b
 rw [Bool.eq_iff_iff]
 simp [and_assoc]
theorem A2r {F:Nat} (hF:2000≤F) (a b:api_Sweep) (ha:A1x a):Lf F a b=some (decide (a=b)):=by
 rw [Lf,A19]
 by_cases h1:a.Site=b.Site∧a.Tilt=b.Tilt∧a.Time=b.Time∧a.Rays.length=b.Rays.length
 ·obtain ⟨h1,h2,h3,h4⟩:=h1
  rw [Aw (by simp [h1,h2,h3,h4])]
  refine (Y8 hF a b ha h4 F 0 (by have:=ha.1;omega) (by omega)).trans ?_
  rw [List.drop_zero,List.drop_zero]
  congr 1
  cases a;cases b
  simp only at h1 h2 h3
  rw [Bool.eq_iff_iff]
  simp [h1,h2,h3]
 ·rw [Ax ?_,dF (fun e=>h1 (by rw [e];exact ⟨rfl,rfl,rfl,rfl⟩))]
  by_cases g1:a.Site=b.Site
  ·by_cases g2:a.Tilt=b.Tilt
   ·by_cases g3:a.Time=b.Time
    ·have g4:¬a.Rays.length=b.Rays.length:=fun e=>h1 ⟨g1,g2,g3,e⟩
     simp [g1,g2,g3];omega
    ·simp [g1,g2,g3]
   ·simp [g1,g2]
  ·simp [g1]
theorem Yi (p0 p1:api_Field) (hl:p0.Vals.length=p1.Vals.length) (h9:p0.Vals.length≤1000000):∀(m i:Nat),p0.Vals.length-i<m→i≤p0.Vals.length→Gt p0 p1 m i=some (decide (p0.Vals.drop i=p1.Vals.drop i)):=by
 intro m
 induction m with
 | zero=>intro i h;omega
 | succ m ih =>
  intro i h hi
  rw [Gt,K3]
  by_cases hb:i<p0.Vals.length
  ·rw [Ax (dT (by omega)),Jk i p0.Vals[i] rfl (List.getElem?_eq_getElem hb),Jk i p1.Vals[i] rfl (List.getElem?_eq_getElem (by omega)),V1,Rl hb (by omega)]
   by_cases he:p0.Vals[i]=p1.Vals[i]
   ·rw [Aw (by simp [he]),ckb (by omega)]
    have:=ih (i+1) (by omega) (by omega)
    rw [show ((i:Int)+1)=((i+1:Nat):Int) by omega,this,dT he,Bool.true_and]
   ·rw [Ax (by simp [he]),dF he,Bool.false_and]
  ·rw [Aw (dF (by omega)),K4,Pn (by omega) (by omega)]
theorem A0l (a b:api_Grid):(((a.X:Int)==b.X)&&(((a.Y:Int)==b.Y)&&(((a.Size:Int)==b.Size)&&(((a.Wide:Int)==b.Wide)&&(((a.High:Int)==b.High)&&true)))))=decide (a=b):=by
 cases a;cases b
 rw [Bool.eq_iff_iff]
 simp [and_assoc]
theorem A24 {F:Nat} (hF:6000≤F) (a b:api_Field) (ha:a.Vals.length≤5000):Le F a b=some (decide (a=b)):=by
 rw [Le,A0l]
 by_cases h1:a.Grid=b.Grid∧a.Vals.length=b.Vals.length
 ·obtain ⟨h1,h4⟩:=h1
  rw [Aw (by simp [h1,h4])]
  refine (Yi a b h4 (by omega) F 0 (by omega) (by omega)).trans ?_
  rw [List.drop_zero,List.drop_zero]
  congr 1
  cases a;cases b
  simp only at h1
  rw [Bool.eq_iff_iff]
  simp [h1]
 ·rw [Ax ?_,dF (fun e=>h1 (by rw [e];exact ⟨rfl,rfl⟩))]
  by_cases g1:a.Grid=b.Grid
  ·have g4:¬a.Vals.length=b.Vals.length:=fun e=>h1 ⟨g1,e⟩
   simp [g1];omega
  ·simp [g1]
def Tv (x:volume_Item):Prop:=A1x x.Sweep∧x.Field.Vals.length≤5000
theorem Xh (a b:ByteArray):sEq a b=decide (a=b):=by rw [Bool.eq_iff_iff,Sz,decide_eq_true_eq]
theorem A33 {F:Nat} (hF:6000≤F) (a b:volume_Item) (ha:Tv a):Jr F a b=some (decide (a=b)):=by
 rw [Jr,Xh,Xh]
 by_cases h1:a.Kind=b.Kind∧a.Name=b.Name∧a.Time=b.Time∧a.Text=b.Text
 ·obtain ⟨h1,h2,h3,h4⟩:=h1
  rw [gdT (by simp [h1,h2,h3,h4]),A2r (by omega) _ _ ha.1,sb]
  by_cases h5:a.Sweep=b.Sweep
  ·rw [gdT (by simp [h1,h2,h3,h4,h5]),A24 hF _ _ ha.2,sb]
   congr 1
   cases a;cases b
   simp only at h1 h2 h3 h4 h5
   rw [Bool.eq_iff_iff]
   simp [h1,h2,h3,h4,h5]
  ·rw [gdF (by simp [h5]),sb,dF (show ¬a=b from fun e=>h5 (by rw [e]))]
   simp [h5]
 ·have hc:(bif (bif (bif (a.Kind==b.Kind) then (decide (a.Name=b.Name)) else false) then (a.Time==b.Time) else false) then (decide (a.Text=b.Text)) else false)=false:=by
   by_cases g1:a.Kind=b.Kind
   ·by_cases g2:a.Name=b.Name
    ·by_cases g3:a.Time=b.Time
     ·have g4:¬a.Text=b.Text:=fun e=>h1 ⟨g1,g2,g3,e⟩
      simp [g4]
     ·simp [g3]
    ·simp [g2]
   ·simp [g1]
  rw [hc,gdF (by rfl),sb,gdF (by rfl),sb,dF (show ¬a=b from fun e=>h1 (by rw [e];exact ⟨rfl,rfl,rfl,rfl⟩))]
  rfl
theorem We {F:Nat} (hF:6000≤F) (a b:List volume_Item) (hl:a.length=b.length) (h9:a.length≤1000000) (hc:∀x∈a,Tv x):∀(m i:Nat),a.length-i<m→i≤a.length→Gu F a b m i=some (decide (a.drop i=b.drop i)):=by
 intro m
 induction m with
 | zero=>intro i h;omega
 | succ m ih =>
  intro i h hi
  rw [Gu,K5]
  by_cases hb:i<a.length
  ·rw [Ax (dT (by omega)),Jk i a[i] rfl (List.getElem?_eq_getElem hb),Jk i b[i] rfl (List.getElem?_eq_getElem (by omega)),Rl hb (by omega),A33 hF _ _ (hc _ (List.getElem_mem hb)),sb]
   by_cases he:a[i]=b[i]
   ·rw [Aw (by simp [he]),ckb (by omega)]
    have:=ih (i+1) (by omega) (by omega)
    rw [show ((i:Int)+1)=((i+1:Nat):Int) by omega,this,dT he,Bool.true_and]
   ·rw [Ax (by simp [he]),dF he,Bool.false_and]
  ·rw [Aw (dF (by omega)),K6,Pn (by omega) (by omega)]
theorem Z5 {F:Nat} (hF:6000≤F) (a b:List volume_Item) (h9:a.length<F) (h10:a.length≤1000000) (hc:∀x∈a,Tv x):Jw F a b=some (decide (a=b)):=by
 rw [Jw]
 by_cases h:a.length=b.length
 ·rw [Aw (by simp [h]),show (0:Int)=((0:Nat):Int) from rfl,We hF a b h h10 hc F 0 (by omega) (by omega),List.drop_zero,List.drop_zero]
 ·rw [Ax (by simp;omega),dF (fun e=>h (by rw [e]))]
theorem vT.cmp {t:volume_thing} (h:vT t):Tv (Gs t):=by
 cases t with
 | nil_=>exact h.elim
 | ic156 s =>
  obtain ⟨⟨_,_,_,_,r,g,_⟩,_,_,h1,h2,_⟩:=(show vSweep s.Sweep from h)
  exact ⟨⟨show s.Sweep.Rays.length≤1000 by have:=r.2;omega,fun row hr=>by have:=h2 row hr;have:=g.2;omega⟩,Nat.zero_le _⟩
 | ic158 f =>
  obtain ⟨_,_,hg,h1,_⟩:=(show Tr f from h)
  have:=Pp hg
  exact ⟨⟨Nat.zero_le _,fun r hr=>by cases hr⟩,show f.Field.Vals.length≤5000 by omega⟩
 | ic160 n=>exact ⟨⟨Nat.zero_le _,fun r hr=>by cases hr⟩,Nat.zero_le _⟩
end Go.Proofs.YtifbomimeodibaaGreat
namespace Go.Proofs.YtifbomimeodibaaGreat
open Go Go.RowKit Go.Eng
set_option maxRecDepth 10000
set_option linter.unusedVariables false
set_option linter.unusedSimpArgs false
def off (ts:List volume_thing) (i:Nat):Nat:=4+(A30 (ts.take i)).length
end Go.Proofs.YtifbomimeodibaaGreat
namespace Go.Proofs.YtifbomimeodibaaGreat
open Go Go.RowKit Go.Eng
set_option maxRecDepth 10000
set_option linter.unusedVariables false
set_option linter.unusedSimpArgs false
end Go.Proofs.YtifbomimeodibaaGreat
namespace Go.Proofs.YtifbomimeodibaaGreat
open Go Go.RowKit Go.Eng
set_option maxRecDepth 10000
set_option linter.unusedVariables false
set_option linter.unusedSimpArgs false
noncomputable def svI:List (List Int)→List volume_Item
 | []=>[]
 | p::ps=>if (unS p).2=0 then Gs (unS p).1::svI ps else svI ps
noncomputable def svL:List (List Int)→Int
 | []=>0
 | p::ps=>if (unS p).2=0 then svL ps else svL ps+1
theorem Ya {F:Nat} (hF:200000≤F):∀(ps:List (List Int)) (k:Int) (acc:List volume_Item) (n:Int),(∀q∈ps,Nz q∧q.length<F∧q.length≤1000000000)→acc.length+ps.length≤1000000→0≤n∧n+ps.length≤1000000 →
  Qn (Ga F) (Qq k ps) (acc,n,0)=some ((acc++svI ps,n+svL ps,0),true):=by
 intro ps
 induction ps with
 | nil=>intro k acc n _ _ _;simp [Qq,Qn,svI,svL]
 | cons p ps ih =>
  intro k acc n h2 h3 h4
  obtain ⟨hp,hpl,hp9⟩:=h2 p (by simp)
  simp only [List.length_cons] at h3 h4
  have hun:=A1t hF hp.by hpl hp9
  rw [Qq,Qn,svI,svL,Ga]
  simp only [hun,sb]
  by_cases h:(unS p).2=0
  ·have hv:=V4 h
   have happ:(apd 224 acc [Gs (unS p).1]).bind (fun l405=>some ((l405,n,(0:Nat)),true))=some ((acc++[Gs (unS p).1],n,(0:Nat)),true):=Pl (by simp;omega) (by decide)
   rw [Ax (by simp [h]),Xb F hv.nn,sb,happ,sb,Ax rfl,if_pos h,if_pos h]
   rw [ih _ _ _ (fun q hq=>h2 q (by simp [hq])) (by simp;omega) (by omega),List.append_assoc]
   rfl
  ·rw [Aw (by simp [h]),if_neg h,if_neg h]
   have hck:(ck (n+1)).bind (fun x188=>some ((acc,x188,(0:Nat)),true))=some ((acc,n+1,(0:Nat)),true):=ckb (by omega)
   rw [hck,sb,Ax rfl,ih _ _ _ (fun q hq=>h2 q (by simp [hq])) (by omega) (by omega),show n+1+svL ps=n+(svL ps+1) by omega]
end Go.Proofs.YtifbomimeodibaaGreat
namespace Go.Proofs.YtifbomimeodibaaGreat
open Go Go.RowKit Go.Eng
set_option maxRecDepth 10000
set_option linter.unusedVariables false
set_option linter.unusedSimpArgs false
def Uq {α:Type} (b:List Int) (bad:Bool) (y:Option (α×ref12_reader)) (o:Option (α×List Int)) (ok:α→Prop):Prop :=
 ∃x r,y=some (x,r)∧r.b <:+ b∧ok x∧((bad=false∧o=some (x,r.b)∧r.bad=false)∨(r.bad=true∧(bad=true∨o=none)))
theorem Uq.bind {α β:Type} {b:List Int} {bad:Bool} {y:Option (α×ref12_reader)} {o:Option (α×List Int)} {ok:α→Prop} {ok':β→Prop} (h:Uq b bad y o ok) {f:α×ref12_reader→Option (β×ref12_reader)} {g:α×List Int→Option (β×List Int)}
  (hf:∀x r,r.b <:+ b→ok x→Uq r.b r.bad (f (x,r)) (g (x,r.b)) ok'):Uq b bad (y.bind f) (o.bind g) ok':=by
 obtain ⟨x,r,h1,h2,h3,h4⟩:=h
 obtain ⟨x',r',k1,k2,k3,k4⟩:=hf x r h2 h3
 refine ⟨x',r',by rw [h1];exact k1,k2.trans h2,k3,?_⟩
 rcases h4 with ⟨e1,e2,e3⟩|⟨e1,e2⟩
 ·rcases k4 with ⟨d1,d2,d3⟩|⟨d1,d2⟩
  ·exact .inl ⟨e1,by rw [e2];exact d2,d3⟩
  ·refine .inr ⟨d1,.inr ?_⟩
   rcases d2 with d2|d2
   ·rw [e3] at d2;cases d2
   ·rw [e2];exact d2
 ·rcases k4 with ⟨d1,d2,d3⟩|⟨d1,d2⟩
  ·rw [e1] at d1;cases d1
  ·refine .inr ⟨d1,?_⟩
   rcases e2 with e2|e2
   ·exact .inl e2
   ·exact .inr (by rw [e2];rfl)
theorem Uq.ok {α:Type} {r:ref12_reader} {x:α} {ok:α→Prop} (h:ok x):Uq r.b r.bad (some (x,⟨r.b,r.bad⟩)) (some (x,r.b)) ok:=by
 refine ⟨x,⟨r.b,r.bad⟩,rfl,List.suffix_refl _,h,?_⟩
 cases hb:r.bad with
 | true=>exact .inr ⟨rfl,.inl rfl⟩
 | false=>exact .inl ⟨rfl,rfl,rfl⟩
theorem Uq.no {α:Type} {r:ref12_reader} {x:α} {ok:α→Prop} {l:List Int} (hl:l <:+ r.b) (h:ok x):Uq r.b r.bad (some (x,⟨l,true⟩)) none ok:=⟨x,⟨l,true⟩,rfl,hl,h,.inr ⟨rfl,.inr rfl⟩⟩
theorem Uq.mono {α:Type} {b:List Int} {bad:Bool} {y:Option (α×ref12_reader)} {o:Option (α×List Int)} {ok ok':α→Prop} (h:Uq b bad y o ok) (hk:∀x,ok x→ok' x):Uq b bad y o ok':=by
 obtain ⟨x,r,h1,h2,h3,h4⟩:=h
 exact ⟨x,r,h1,h2,hk x h3,h4⟩
theorem A2u (p:List Int) (bad:Bool) (hp:By p):∀(m i k:Nat) (n:Int),i+k=8→k<m→0≤n→n≤127 ^ i →
  Ce ⟨p,bad⟩ m n (127 ^ i:Nat) i=some (match rD k (i==0) (p.drop i) with|some y=>(n+127 ^ i*y.1,⟨y.2,bad⟩)|none=>(0,⟨[],true⟩)):=by
 intro m
 induction m with
 | zero=>intro i k n _ h;omega
 | succ m ih =>
  intro i k n hik hk hn0 hn
  rw [Ce,F4]
  have hpi:(127:Int) ^ i≤127 ^ 8:=by
   have:(127:Nat) ^ i≤127 ^ 8:=Nat.pow_le_pow_right (by decide) (by omega)
   exact_mod_cast this
  have e8:(127:Int) ^ 8=67675234241018881:=by decide
  have hp0:(0:Int)<127 ^ i:=Int.pow_pos (by decide)
  have ecast:((127 ^ i:Nat):Int)=127 ^ i:=by push_cast;rfl
  rw [ecast]
  simp only
  by_cases hb:i<p.length∧i<8
  ·obtain ⟨k,rfl⟩:∃k',k=k'+1:=⟨k-1,by omega⟩
   have hx:=hp p[i] (List.getElem_mem hb.1)
   rw [dT (show (i:Int)<((p.length:Nat):Int) by omega),dT (show (i:Int)<8 by omega),Ax (by rfl),Jk i p[i] rfl (List.getElem?_eq_getElem hb.1),ckb (by omega),List.drop_eq_getElem_cons hb.1,rD]
   have hp7:(127:Int) ^ i≤127 ^ 7:=by
    have:(127:Nat) ^ i≤127 ^ 7:=Nat.pow_le_pow_right (by decide) (by omega)
    exact_mod_cast this
   have e7:(127:Int) ^ 7=532875860165503:=by decide
   have hmul:p[i]*127 ^ i≤256*127 ^ i:=Int.mul_le_mul_of_nonneg_right (by omega) (by omega)
   have hmul0:0≤p[i]*127 ^ i:=Int.mul_nonneg (by omega) (by omega)
   by_cases hc:p[i]=0∨p[i]=255∨(p[i]=1∧(i==0)=false)
   ·rw [if_pos hc]
    rcases hc with h|h|⟨h1,h2⟩
    ·rw [h];rfl
    ·rw [h];rfl
    ·rw [h1]
     have:((i:Int)==0)=false:=by simp at h2;simp;omega
     rw [this];rfl
   ·rw [if_neg hc]
    have h1:¬p[i]=0:=fun e=>hc (.inl e)
    have h2:¬p[i]=255:=fun e=>hc (.inr (.inl e))
    have h3:p[i]=1→i=0:=fun e=>by
     rcases Nat.eq_zero_or_pos i with h|h
     ·exact h
     ·exact absurd (.inr (.inr ⟨e,by simp;omega⟩)) hc
    by_cases hs:p[i]<128
    ·have e1:(p[i]-1)*127 ^ i=p[i]*127 ^ i-127 ^ i:=by rw [Int.sub_mul,Int.one_mul]
     have hcond:(bif (bif (decide (p[i]≥1)) then (decide (p[i]≤127)) else false) then (bif ((i:Int)==0) then true else (decide (p[i]>1))) else false)=true:=by
      rw [dT (show p[i]≥1 by omega),dT (show p[i]≤127 by omega)]
      by_cases hi0:i=0
      ·subst hi0;rfl
      ·rw [dT (show p[i]>1 by have:=fun e=>hi0 (h3 e);omega)];cases ((i:Int)==0)<;>rfl
     rw [if_pos hs,Ax hcond,ckb (by omega),Lt (i+1) (by omega) rfl (by omega),ckb (by omega),ckb (by omega),ckb (by omega)]
     show some (n+(p[i]-1)*127 ^ i,ref12_reader.mk (p.drop (i+1)) bad)=some (n+127 ^ i*(p[i]-1),⟨p.drop (i+1),bad⟩)
     rw [Int.mul_comm (127 ^ i) (p[i]-1)]
    ·have e1:(p[i]-128)*127 ^ i=p[i]*127 ^ i-128*127 ^ i:=by rw [Int.sub_mul]
     have e2:(p[i]-128)*127 ^ i≤126*127 ^ i:=Int.mul_le_mul_of_nonneg_right (by omega) (by omega)
     have e3:0≤(p[i]-128)*127 ^ i:=Int.mul_nonneg (by omega) (by omega)
     have e4:(127:Int) ^ (i+1)=127 ^ i*127:=Int.pow_succ ..
     have hcond:(bif (bif (decide (p[i]≥1)) then (decide (p[i]≤127)) else false) then (bif ((i:Int)==0) then true else (decide (p[i]>1))) else false)=false:=by
      rw [dF (show ¬p[i]≤127 by omega)];cases decide (p[i]≥1)<;>rfl
     rw [if_neg hs,Aw hcond,dF hs,dF (show ¬p[i]>254 by omega),Aw (by rfl),ckb (by omega),ckb (by omega),ckb (by omega),ckb (by omega),ckb (by omega)]
     have:=ih (i+1) k (n+(p[i]-128)*127 ^ i) (by omega) (by omega) (by omega) (by rw [e4];omega)
     have ecast2:((127 ^ (i+1):Nat):Int)=127 ^ i*127:=by rw [←e4];push_cast;rfl
     rw [ecast2] at this
     rw [show ((i:Int)+1)=((i+1:Nat):Int) by omega,this]
     have ef:(i+1==0)=false:=rfl
     rw [ef]
     cases hr:rD k false (p.drop (i+1)) with
     | none=>rfl
     | some y =>
      show some (n+(p[i]-128)*127 ^ i+127 ^ (i+1)*y.1,ref12_reader.mk y.2 bad)=some (n+127 ^ i*(p[i]-128+127*y.1),ref12_reader.mk y.2 bad)
      rw [e4,Int.mul_add,Int.mul_comm (127 ^ i) (p[i]-128),←Int.add_assoc,←Int.mul_assoc]
  ·have hcond:(bif (decide ((i:Int)<((p.length:Nat):Int))) then (decide ((i:Int)<8)) else false)=false:=by
    by_cases h1:i<p.length
    ·rw [dF (show ¬(i:Int)<8 by omega)];cases decide ((i:Int)<((p.length:Nat):Int))<;>rfl
    ·rw [dF (show ¬(i:Int)<((p.length:Nat):Int) by omega)];rfl
   rw [Aw hcond,Du]
   have:rD k (i==0) (p.drop i)=none:=by
    rcases Nat.eq_zero_or_pos k with h|h
    ·subst h;rfl
    ·rw [List.drop_of_length_le (by omega)]
     obtain ⟨k,rfl⟩:∃k',k=k'+1:=⟨k-1,by omega⟩
     rfl
   rw [this]
def okR (x:Int):Prop:=0≤x∧x<67675234241018881
theorem Db {F:Nat} (hF:1000≤F) {r:ref12_reader} (hp:By r.b):Uq r.b r.bad (Ac F r) (rN r.b) okR:=by
 have:=A2u r.b r.bad hp F 0 8 0 (by omega) (by omega) (by omega) (by decide)
 have h:Ac F r=some (match rN r.b with|some y=>(y.1,⟨y.2,r.bad⟩)|none=>(0,⟨[],true⟩)):=by
  have e:Ac F r=Ce ⟨r.b,r.bad⟩ F 0 (127 ^ 0:Nat) (0:Nat):=rfl
  rw [e,this]
  show some (match rN r.b with|some y=>(0+127 ^ 0*y.1,ref12_reader.mk y.2 r.bad)|none=>(0,⟨[],true⟩))=_
  cases rN r.b with
  | none=>rfl
  | some y=>show some ((0:Int)+127 ^ 0*y.1,_)=_;rw [show (0:Int)+127 ^ 0*y.1=y.1 by simp]
 rw [h]
 cases hr:rN r.b with
 | none=>exact Uq.no (List.nil_suffix) ⟨by decide,by decide⟩
 | some y =>
  obtain ⟨a,b,c⟩:=Ft hp (show rN r.b=some (y.1,y.2) from hr)
  refine ⟨y.1,⟨y.2,r.bad⟩,rfl,c,⟨a,b⟩,?_⟩
  cases hb:r.bad with
  | true=>exact .inr ⟨rfl,.inl rfl⟩
  | false=>exact .inl ⟨rfl,rfl,rfl⟩
theorem Nh {F:Nat} (hF:1000≤F) {r:ref12_reader} (hp:By r.b):Uq r.b r.bad (B5 F r) (rI r.b) Zh:=by
 refine (Db hF hp).bind fun x s hs hx=>?_
 obtain ⟨h0,h1⟩:=hx
 have hz:=A04 ⟨h0,h1⟩
 show Uq s.b s.bad ((Mr x 2).bind fun x11=>bif (x11==1) then (ck (x+1)).bind fun x12=>(Lv (IntKind.i64.wrap (0-x12)) 2).bind fun x13=>some (x13,ref12_reader.mk s.b s.bad) else (Lv x 2).bind fun x14=>some (x14,ref12_reader.mk s.b s.bad)) (some (unz x,s.b)) Zh
 unfold unz at hz ⊢
 have hrem:Mr x 2=some (x%2):=by
  unfold Mr
  rw [if_neg (by decide),Int.tmod_eq_emod_of_nonneg h0]
 rw [hrem,sb]
 by_cases h2:x%2=1
 ·rw [Ax (by simp [h2]),ckb (by omega),if_pos h2]
  have hw:IntKind.i64.wrap (0-(x+1))=-(x+1):=by
   simp only [IntKind.wrap,IntKind.signed,IntKind.bits]
   simp
   omega
  rw [hw]
  have hq:(Lv (-(x+1)) 2)=ck (-((x+1)/2)):=by
   unfold Lv
   rw [if_neg (by decide),Int.neg_tdiv,Int.tdiv_eq_ediv_of_nonneg (by omega)]
  rw [hq,ckb (by omega)]
  rw [if_pos h2] at hz
  exact Uq.ok hz
 ·rw [Aw (by simp [h2]),if_neg h2]
  have hq:(Lv x 2)=ck (x/2):=by
   unfold Lv
   rw [if_neg (by decide),Int.tdiv_eq_ediv_of_nonneg h0]
  rw [hq,ckb (by omega)]
  rw [if_neg h2] at hz
  exact Uq.ok hz
theorem A02 {F:Nat} (hF:1000≤F) {r:ref12_reader} (hp:By r.b):Uq r.b r.bad (Cy F r) (rT r.b) (fun s=>s.size≤r.b.length):=by
 refine (Db hF hp).bind fun x s hs hx=>?_
 obtain ⟨h0,h1⟩:=hx
 have hl:=hs.length_le
 show Uq s.b s.bad (bif (decide (x>((s.b.length:Nat):Int))) then _ else _) (if x>(s.b.length:Int) then none else _) _
 by_cases h2:x>(s.b.length:Int)
 ·rw [Ax (dT h2),if_pos h2]
  exact Uq.no (List.suffix_refl _) (Nat.zero_le _)
 ·rw [Aw (dF h2),if_neg h2,N6 x.toNat rfl (by simp only;omega) (by simp only;omega),Lt x.toNat (by simp only;omega) rfl (by simp only;omega)]
  refine ⟨_,⟨s.b.drop x.toNat,s.bad⟩,rfl,List.drop_suffix _ _,?_,?_⟩
  ·show (bst (s.b.take x.toNat)).size≤_
   have:(bst (s.b.take x.toNat)).size=(s.b.take x.toNat).length:=by simp [bst,ByteArray.size]
   rw [this,List.length_take];omega
  ·cases hb:s.bad with
   | true=>exact .inr ⟨rfl,.inl rfl⟩
   | false=>exact .inl ⟨rfl,rfl,rfl⟩
theorem Re {F:Nat} (hF:1000≤F) {r:ref12_reader} (hp:By r.b):Uq r.b r.bad (C8 F r) (rS r.b) okS':=by
 refine (Nh hF hp).bind fun x s hs hx=>?_
 refine (Db hF (hp.suf hs)).bind fun y t ht hy=>?_
 obtain ⟨a,b⟩:=hx
 obtain ⟨c,d⟩:=hy
 show Uq t.b t.bad ((ck (x+y)).bind _) (some (⟨x,x+y⟩,t.b)) okS'
 rw [ckb (by omega)]
 exact Uq.ok ⟨a,by show x≤x+y;omega,by show x+y≤_;omega⟩
theorem A1s {F:Nat} (hF:1000≤F) {r:ref12_reader} (hp:By r.b) (p:Int) (h0:0≤p):Uq r.b r.bad (E5 F r p) ((rN r.b).bind fun y=>if y.1>p then none else some y) (fun x=>0≤x∧x≤p):=by
 refine (Db hF hp).bind fun x s hs hx=>?_
 show Uq s.b s.bad (bif (decide (x>p)) then _ else _) (if x>p then none else _) _
 by_cases h2:x>p
 ·rw [Ax (dT h2),if_pos h2]
  exact Uq.no (List.suffix_refl _) ⟨by decide,h0⟩
 ·rw [Aw (dF h2),if_neg h2]
  exact Uq.ok ⟨hx.1,by omega⟩
theorem A2s {F:Nat} (hF:1000≤F) {r:ref12_reader} (hp:By r.b):Uq r.b r.bad (H5 F r) (rE r.b) (fun _=>True):=by
 refine (Db hF hp).bind fun k s hs hk=>?_
 have b1:=hp.suf hs
 show Uq s.b s.bad (bif (k==1) then _ else _) (if k=1 then _ else _) _
 by_cases h1:k=1
 ·rw [Ax (by simp [h1]),if_pos h1]
  exact (Db hF b1).bind fun x t ht hx=>Uq.ok trivial
 ·rw [Aw (by simp [h1]),if_neg h1]
  refine (Re hF b1).bind fun p s1 hs1 _=>?_
  refine (Re hF (b1.suf hs1)).bind fun q s2 hs2 _=>?_
  refine (Re hF ((b1.suf hs1).suf hs2)).bind fun m s3 hs3 _=>?_
  refine (Db hF (((b1.suf hs1).suf hs2).suf hs3)).bind fun sp s4 hs4 _=>?_
  have b4:=(((b1.suf hs1).suf hs2).suf hs3).suf hs4
  show Uq s4.b s4.bad (bif (k==3) then _ else _) (if k=3 then _ else _) _
  by_cases h3:k=3
  ·rw [Ax (by simp [h3]),if_pos h3]
   refine (Re hF b4).bind fun a s5 hs5 _=>?_
   refine (Re hF (b4.suf hs5)).bind fun b s6 hs6 _=>?_
   exact (Re hF ((b4.suf hs5).suf hs6)).bind fun t s7 hs7 _=>Uq.ok trivial
  ·rw [Aw (by simp [h3]),if_neg h3]
   exact Uq.ok trivial
end Go.Proofs.YtifbomimeodibaaGreat
namespace Go.Proofs.YtifbomimeodibaaGreat
open Go Go.RowKit Go.Eng
set_option maxRecDepth 10000
set_option linter.unusedVariables false
set_option linter.unusedSimpArgs false
theorem Yh (F:Nat) (N:Int) (b:api_Span) (k2:Int→Int→List Int→Bool→List api_Span→Option (List api_Span×ref12_reader)) (y:Int×ref12_reader) (hy:y.1≤1000000):∀(m i:Nat) (out:List api_Span),(i:Int)≤y.1→y.1-i<m→out.length+(y.1-i)≤2000000 →
  Bx F N b.Lo b.Hi k2 y m out i=E6 F N b.Lo b.Hi k2 y (out++List.replicate (y.1-i).toNat b):=by
 intro m
 induction m with
 | zero=>intro i out h1 h2;omega
 | succ m ih =>
  intro i out h1 h2 h3
  rw [Bx,Fk]
  by_cases hb:(i:Int)<y.1
  ·rw [Ax (dT hb),Pl (by simp;omega) (by decide),ckb (by omega)]
   have:=ih (i+1) (out++[b]) (by omega) (by omega) (by simp;omega)
   show Bx F N b.Lo b.Hi k2 y m (out++[b]) ((i:Int)+1)=_
   rw [show ((i:Int)+1)=((i+1:Nat):Int) by omega,this,List.append_assoc]
   congr 2
   rw [show (y.1-(i:Int)).toNat=(y.1-((i+1:Nat):Int)).toNat+1 by omega,List.replicate_succ]
   rfl
  ·rw [Aw (dF hb),show (y.1-(i:Int)).toNat=0 by omega]
   simp
theorem A09 (F:Nat) (hF:200000≤F) (N:Nat) (hN:N≤100000):∀(m m':Nat) (b:api_Span) (r:ref12_reader) (out:List api_Span),By r.b→out.length≤N→N-out.length<m→N-out.length<m' →
  Uq r.b r.bad (Bg F N m b.Lo b.Hi r.b r.bad out) ((rL rS m' (N-out.length) b r.b).map fun u=>(out++u.1,u.2)) (fun _=>True):=by
 intro m
 induction m with
 | zero=>intro m' b r out _ _ h;omega
 | succ m ih =>
  intro m' b r out hb ho hm hm'
  obtain ⟨m',rfl⟩:∃k,m'=k+1:=⟨m'-1,by omega⟩
  rw [Bg,D8,rL]
  by_cases h0:N-out.length=0
  ·rw [if_pos h0,Aw (dF (by omega)),Bo]
   have:=Uq.ok (r:=r) (x:=out) (ok:=fun _=>True) trivial
   simpa using this
  ·rw [if_neg h0,Ax (dT (by omega))]
   cases hbad:r.bad with
   | true =>
    rw [Aw (by rfl),Bo]
    exact ⟨out,⟨r.b,true⟩,rfl,List.suffix_refl _,trivial,.inr ⟨rfl,.inl rfl⟩⟩
   | false =>
    rw [Ax (by rfl),ckb (by omega)]
    have hrun:=A1s (F:=F) (by omega) (r:=⟨r.b,false⟩) hb ((N:Int)-(out.length:Nat)) (by omega)
    have ho:((rN r.b).bind fun y=>if y.1>((N-out.length:Nat):Int) then none else if N-out.length=y.1.toNat then some (List.replicate (N-out.length) b,y.2) else (rS y.2).bind fun z=>if z.1=b then none else (rL rS m' (N-out.length-y.1.toNat-1) z.1 z.2).map fun u=>(List.replicate y.1.toNat b++z.1::u.1,u.2)) =
      ((rN r.b).bind fun y=>if y.1>(N:Int)-(out.length:Nat) then none else some y).bind fun y=>if N-out.length=y.1.toNat then some (List.replicate (N-out.length) b,y.2) else (rS y.2).bind fun z=>if z.1=b then none else (rL rS m' (N-out.length-y.1.toNat-1) z.1 z.2).map fun u=>(List.replicate y.1.toNat b++z.1::u.1,u.2):=by
     rw [Option.bind_assoc]
     congr 1
     funext y
     rw [show ((N-out.length:Nat):Int)=(N:Int)-(out.length:Nat) by omega]
     by_cases h:y.1>(N:Int)-(out.length:Nat)
     ·rw [if_pos h,if_pos h];rfl
     ·rw [if_neg h,if_neg h];rfl
    rw [ho,Option.map_bind]
    refine hrun.bind fun k s hs hk=>?_
    have hbs:=hb.suf hs
    simp only [Function.comp]
    have hr:=Yh F N b (Bg F N m) (k,s) (by simp only;omega) F 0 out (by simp only;omega) (by simp only;omega) (by simp only;omega)
    rw [show (0:Int)=((0:Nat):Int) from rfl,hr,E6,show (k-((0:Nat):Int)).toNat=k.toNat by omega]
    by_cases hk2:N-out.length=k.toNat
    ·rw [if_pos hk2,Aw (dF (by simp;omega))]
     cases m with
     | zero=>omega
     | succ m =>
      rw [Bg,D8,Aw (dF (by simp;omega)),Bo,hk2]
      exact Uq.ok (r:=s) (x:=out++List.replicate k.toNat b) trivial
    ·rw [if_neg hk2,Ax (dT (by simp;omega)),Option.map_bind]
     refine (Re (F:=F) (by omega) hbs).bind fun x t ht _=>?_
     have hbt:=hbs.suf ht
     simp only [Function.comp]
     rw [V1 x b,Pl (by simp;omega) (by decide)]
     by_cases hx:x=b
     ·rw [if_pos hx,dT hx,show (bif t.bad then true else true)=true by cases t.bad<;>rfl]
      cases m with
      | zero=>omega
      | succ m =>
       rw [Bg,D8]
       have hz:∀c:Bool,(bif c then (bif (!true) then ((ck ((N:Int)-(((out++List.replicate k.toNat b++[x]).length:Nat):Int))).bind fun x438 =>
         (E5 F (ref12_reader.mk t.b true) x438).bind fun y439=>Bx F N x.Lo x.Hi (Bg F N m) y439 F (out++List.replicate k.toNat b++[x]) 0) else (Bo x.Lo x.Hi t.b true (out++List.replicate k.toNat b++[x]))) else (Bo x.Lo x.Hi t.b true (out++List.replicate k.toNat b++[x])))=some (out++List.replicate k.toNat b++[x],ref12_reader.mk t.b true):=by
        intro c;cases c<;>rfl
       show Uq t.b t.bad (bif _ then _ else _) _ _
       rw [show (out++List.replicate k.toNat b++[x]:List api_Span)=out++List.replicate k.toNat b++[x] from rfl]
       exact (hz (decide ((((out++List.replicate k.toNat b++[x]).length:Nat):Int)<N)))▸Uq.no (List.suffix_refl _) trivial
     ·rw [if_neg hx,dF hx,show (bif t.bad then true else false)=t.bad by cases t.bad<;>rfl]
      have:=ih m' x t (out++List.replicate k.toNat b++[x]) hbt (by simp;omega) (by simp;omega) (by simp;omega)
      rw [show N-(out++List.replicate k.toNat b++[x]).length=N-out.length-k.toNat-1 by simp;omega] at this
      rw [Option.map_map]
      simp only [Function.comp_def]
      simpa only [List.append_assoc,List.cons_append,List.nil_append] using this
theorem A1e {F:Nat} (hF:200000≤F) {N:Nat} (hN:N≤100000) {r:ref12_reader} (hl:By r.b):Uq r.b r.bad (E9 F r N) (rL rS (N+1) N ⟨0,0⟩ r.b) (fun _=>True):=by
 have:Uq r.b r.bad (E9 F r N) ((rL rS (N+1) (N-([]:List api_Span).length) ⟨0,0⟩ r.b).map fun u=>([]++u.1,u.2)) (fun _=>True):=A09 F hF N hN F (N+1) ⟨0,0⟩ r [] hl (by simp) (by simp;omega) (by simp)
 simpa using this
theorem Wu (F:Nat) (N:Int) (b:api_Echo) (k2:Int→Int→Int→Int→Int→Int→Int→Int→Int→Int→Int→Int→Int→Int→List Int→Bool→List api_Echo→Option (List api_Echo×ref12_reader)) (y:Int×ref12_reader) (hy:y.1≤1000000):∀(m i:Nat) (out:List api_Echo),(i:Int)≤y.1→y.1-i<m→out.length+(y.1-i)≤2000000 →
  Bt F N b.Kind b.Power.Lo b.Match.Lo b.Match.Hi b.Turn.Lo b.Turn.Hi b.Power.Hi b.Steps.1.Lo b.Steps.1.Hi b.Steps.2.Lo b.Steps.2.Hi b.Spread b.Ratio.Lo b.Ratio.Hi k2 y m out i=Dt F N b.Kind b.Power.Lo b.Match.Lo b.Match.Hi b.Turn.Lo b.Turn.Hi b.Power.Hi b.Steps.1.Lo b.Steps.1.Hi b.Steps.2.Lo b.Steps.2.Hi b.Spread b.Ratio.Lo b.Ratio.Hi k2 y (out++List.replicate (y.1-i).toNat b):=by
 intro m
 induction m with
 | zero=>intro i out h1 h2;omega
 | succ m ih =>
  intro i out h1 h2 h3
  rw [Bt,F3]
  by_cases hb:(i:Int)<y.1
  ·rw [Ax (dT hb),Pl (by simp;omega) (by decide),ckb (by omega)]
   have:=ih (i+1) (out++[b]) (by omega) (by omega) (by simp;omega)
   show Bt F N b.Kind b.Power.Lo b.Match.Lo b.Match.Hi b.Turn.Lo b.Turn.Hi b.Power.Hi b.Steps.1.Lo b.Steps.1.Hi b.Steps.2.Lo b.Steps.2.Hi b.Spread b.Ratio.Lo b.Ratio.Hi k2 y m (out++[b]) ((i:Int)+1)=_
   rw [show ((i:Int)+1)=((i+1:Nat):Int) by omega,this,List.append_assoc]
   congr 2
   rw [show (y.1-(i:Int)).toNat=(y.1-((i+1:Nat):Int)).toNat+1 by omega,List.replicate_succ]
   rfl
  ·rw [Aw (dF hb),show (y.1-(i:Int)).toNat=0 by omega]
   simp
theorem Yf (F:Nat) (hF:200000≤F) (N:Nat) (hN:N≤100000):∀(m m':Nat) (b:api_Echo) (r:ref12_reader) (out:List api_Echo),By r.b→out.length≤N→N-out.length<m→N-out.length<m' →
  Uq r.b r.bad (Ba F N m b.Kind b.Power.Lo b.Match.Lo b.Match.Hi b.Turn.Lo b.Turn.Hi b.Power.Hi b.Steps.1.Lo b.Steps.1.Hi b.Steps.2.Lo b.Steps.2.Hi b.Spread b.Ratio.Lo b.Ratio.Hi r.b r.bad out) ((rL rE m' (N-out.length) b r.b).map fun u=>(out++u.1,u.2)) (fun _=>True):=by
 intro m
 induction m with
 | zero=>intro m' b r out _ _ h;omega
 | succ m ih =>
  intro m' b r out hb ho hm hm'
  obtain ⟨m',rfl⟩:∃k,m'=k+1:=⟨m'-1,by omega⟩
  rw [Ba,D6,rL]
  by_cases h0:N-out.length=0
  ·rw [if_pos h0,Aw (dF (by omega)),Bl]
   have:=Uq.ok (r:=r) (x:=out) (ok:=fun _=>True) trivial
   simpa using this
  ·rw [if_neg h0,Ax (dT (by omega))]
   cases hbad:r.bad with
   | true =>
    rw [Aw (by rfl),Bl]
    exact ⟨out,⟨r.b,true⟩,rfl,List.suffix_refl _,trivial,.inr ⟨rfl,.inl rfl⟩⟩
   | false =>
    rw [Ax (by rfl),ckb (by omega)]
    have hrun:=A1s (F:=F) (by omega) (r:=⟨r.b,false⟩) hb ((N:Int)-(out.length:Nat)) (by omega)
    have ho:((rN r.b).bind fun y=>if y.1>((N-out.length:Nat):Int) then none else if N-out.length=y.1.toNat then some (List.replicate (N-out.length) b,y.2) else (rE y.2).bind fun z=>if z.1=b then none else (rL rE m' (N-out.length-y.1.toNat-1) z.1 z.2).map fun u=>(List.replicate y.1.toNat b++z.1::u.1,u.2)) =
      ((rN r.b).bind fun y=>if y.1>(N:Int)-(out.length:Nat) then none else some y).bind fun y=>if N-out.length=y.1.toNat then some (List.replicate (N-out.length) b,y.2) else (rE y.2).bind fun z=>if z.1=b then none else (rL rE m' (N-out.length-y.1.toNat-1) z.1 z.2).map fun u=>(List.replicate y.1.toNat b++z.1::u.1,u.2):=by
     rw [Option.bind_assoc]
     congr 1
     funext y
     rw [show ((N-out.length:Nat):Int)=(N:Int)-(out.length:Nat) by omega]
     by_cases h:y.1>(N:Int)-(out.length:Nat)
     ·rw [if_pos h,if_pos h];rfl
     ·rw [if_neg h,if_neg h];rfl
    rw [ho,Option.map_bind]
    refine hrun.bind fun k s hs hk=>?_
    have hbs:=hb.suf hs
    simp only [Function.comp]
    have hr:=Wu F N b (Ba F N m) (k,s) (by simp only;omega) F 0 out (by simp only;omega) (by simp only;omega) (by simp only;omega)
    rw [show (0:Int)=((0:Nat):Int) from rfl,hr,Dt,show (k-((0:Nat):Int)).toNat=k.toNat by omega]
    by_cases hk2:N-out.length=k.toNat
    ·rw [if_pos hk2,Aw (dF (by simp;omega))]
     cases m with
     | zero=>omega
     | succ m =>
      rw [Ba,D6,Aw (dF (by simp;omega)),Bl,hk2]
      exact Uq.ok (r:=s) (x:=out++List.replicate k.toNat b) trivial
    ·rw [if_neg hk2,Ax (dT (by simp;omega)),Option.map_bind]
     refine (A2s (F:=F) (by omega) hbs).bind fun x t ht _=>?_
     have hbt:=hbs.suf ht
     simp only [Function.comp]
     rw [Un x b,Pl (by simp;omega) (by decide)]
     by_cases hx:x=b
     ·rw [if_pos hx,dT hx,show (bif t.bad then true else true)=true by cases t.bad<;>rfl]
      cases m with
      | zero=>omega
      | succ m =>
       rw [Ba,D6]
       have hz:∀c:Bool,(bif c then (bif (!true) then ((ck ((N:Int)-(((out++List.replicate k.toNat b++[x]).length:Nat):Int))).bind fun x438 =>
         (E5 F (ref12_reader.mk t.b true) x438).bind fun y439=>Bt F N x.Kind x.Power.Lo x.Match.Lo x.Match.Hi x.Turn.Lo x.Turn.Hi x.Power.Hi x.Steps.1.Lo x.Steps.1.Hi x.Steps.2.Lo x.Steps.2.Hi x.Spread x.Ratio.Lo x.Ratio.Hi (Ba F N m) y439 F (out++List.replicate k.toNat b++[x]) 0) else (Bl x.Kind x.Power.Lo x.Match.Lo x.Match.Hi x.Turn.Lo x.Turn.Hi x.Power.Hi x.Steps.1.Lo x.Steps.1.Hi x.Steps.2.Lo x.Steps.2.Hi x.Spread x.Ratio.Lo x.Ratio.Hi t.b true (out++List.replicate k.toNat b++[x]))) else (Bl x.Kind x.Power.Lo x.Match.Lo x.Match.Hi x.Turn.Lo x.Turn.Hi x.Power.Hi x.Steps.1.Lo x.Steps.1.Hi x.Steps.2.Lo x.Steps.2.Hi x.Spread x.Ratio.Lo x.Ratio.Hi t.b true (out++List.replicate k.toNat b++[x])))=some (out++List.replicate k.toNat b++[x],ref12_reader.mk t.b true):=by
        intro c;cases c<;>rfl
       show Uq t.b t.bad (bif _ then _ else _) _ _
       rw [show (out++List.replicate k.toNat b++[x]:List api_Echo)=out++List.replicate k.toNat b++[x] from rfl]
       exact (hz (decide ((((out++List.replicate k.toNat b++[x]).length:Nat):Int)<N)))▸Uq.no (List.suffix_refl _) trivial
     ·rw [if_neg hx,dF hx,show (bif t.bad then true else false)=t.bad by cases t.bad<;>rfl]
      have:=ih m' x t (out++List.replicate k.toNat b++[x]) hbt (by simp;omega) (by simp;omega) (by simp;omega)
      rw [show N-(out++List.replicate k.toNat b++[x]).length=N-out.length-k.toNat-1 by simp;omega] at this
      rw [Option.map_map]
      simp only [Function.comp_def]
      simpa only [List.append_assoc,List.cons_append,List.nil_append] using this
theorem A01 {F:Nat} (hF:200000≤F) {N:Nat} (hN:N≤100000) {r:ref12_reader} (hl:By r.b):Uq r.b r.bad (Dr F r N) (rL rE (N+1) N e0 r.b) (fun _=>True):=by
 have:Uq r.b r.bad (Dr F r N) ((rL rE (N+1) (N-([]:List api_Echo).length) e0 r.b).map fun u=>([]++u.1,u.2)) (fun _=>True):=Yf F hF N hN F (N+1) e0 r [] hl (by simp) (by simp;omega) (by simp)
 simpa using this
end Go.Proofs.YtifbomimeodibaaGreat
namespace Go.Proofs.YtifbomimeodibaaGreat
open Go Go.RowKit Go.Eng
set_option maxRecDepth 10000
set_option linter.unusedVariables false
set_option linter.unusedSimpArgs false
theorem A0h (n b0 b1 b2 b3:Nat) (h:128≤b0):128≤(Lib.decodeN n b0 b1 b2 b3).1:=by
 unfold Lib.decodeN
 repeat' split
 all_goals first|(simp only;omega)|omega
theorem A21 {s:ByteArray} {i:Nat} (h:(s.get! i).toNat<128):Utf8.decode s i=((s.get! i).toNat,1):=by
 rw [Lib.decode_at];unfold Lib.decodeN;rw [if_pos h]
theorem A20 {s:ByteArray} {i:Nat} (h:128≤(s.get! i).toNat):128≤(Utf8.decode s i).1:=by
 rw [Lib.decode_at];exact A0h _ _ _ _ _ h
theorem Z9 {x:Nat} (h:128≤x):nmC x=true:=by
 unfold nmC
 have h1:decide (x≤122)=false:=by simp;omega
 have h2:decide (x≤57)=false:=by simp;omega
 have h3:(x==95)=false:=by simp;omega
 rw [h1,h2,h3];simp
theorem Sw (s:ByteArray):∀(f pos:Nat),s.size≤pos+f→(0≤Lib.idxFuncFrom nmC true s f pos↔∃j,pos≤j∧j<s.size∧nmC (s.get! j).toNat=true):=by
 intro f
 induction f with
 | zero =>
  intro pos h
  rw [Lib.idxFuncFrom_end nmC true s 0 pos (by omega)]
  constructor
  ·intro h;omega
  ·rintro ⟨j,h1,h2,_⟩;omega
 | succ f ih =>
  intro pos h
  rw [Lib.idxFuncFrom]
  by_cases hp:pos<s.size
  ·rw [if_pos hp]
   by_cases hb:(s.get! pos).toNat<128
   ·rw [A21 hb]
    simp only
    by_cases hn:nmC (s.get! pos).toNat=true
    ·rw [if_pos hn]
     exact ⟨fun _=>⟨pos,Nat.le_refl _,hp,hn⟩,fun _=>by omega⟩
    ·rw [if_neg hn,ih (pos+1) (by omega)]
     constructor
     ·rintro ⟨j,h1,h2,h3⟩;exact ⟨j,by omega,h2,h3⟩
     ·rintro ⟨j,h1,h2,h3⟩
      refine ⟨j,?_,h2,h3⟩
      rcases Nat.lt_or_ge pos j with h4|h4
      ·omega
      ·obtain rfl:j=pos:=by omega
       exact absurd h3 hn
   ·rw [if_pos (Z9 (A20 (by omega)))]
    exact ⟨fun _=>⟨pos,Nat.le_refl _,hp,Z9 (by omega)⟩,fun _=>by omega⟩
  ·rw [if_neg hp]
   constructor
   ·intro h;omega
   ·rintro ⟨j,h1,h2,_⟩;omega
theorem X8 {s:ByteArray} {i:Nat} (h:i<s.size):s[i]=s.get! i:=by
 cases s with
 | mk d =>
  show d[i]=d[i]!
  rw [getElem!_pos d i h]
theorem Ur {s:ByteArray} {i:Nat} (h:i<s.size):Pf s i=some (((s.get! i).toNat:Nat):Int):=by
 unfold Pf
 rw [if_pos (by omega),Int.toNat_natCast,getElem!_pos s i h,X8 h]
theorem Y2 (s:ByteArray):∀(m i f:Nat),s.size-i<m→i≤s.size→s.size≤1000000→s.size≤i+f→Hj s m i=some (!decide (0≤Lib.idxFuncFrom nmC true s f i)):=by
 intro m
 induction m with
 | zero=>intro i f h;omega
 | succ m ih =>
  intro i f h hi h9 hf
  rw [Hj,L4]
  by_cases hb:i<s.size
  ·rw [Ax (dT (by omega)),Ur hb,sb]
   have hx:=UInt8.toNat_lt (s.get! i)
   generalize hu:(s.get! i).toNat=u at *
   have e:(bif (bif (bif (decide (((u:Nat):Int)<97)) then true else (decide (((u:Nat):Int)>122))) then (bif (decide (((u:Nat):Int)<48)) then true else (decide (((u:Nat):Int)>57))) else false) then (((u:Nat):Int) != 95) else false)=nmC u:=by
    unfold nmC
    rw [Bool.eq_iff_iff]
    simp only [cond_eq_ite,Bool.if_true_left,Bool.and_eq_true,Bool.or_eq_true,decide_eq_true_eq,bne_iff_ne,ne_eq,Bool.not_eq_true',Bool.or_eq_false_iff,Bool.and_eq_false_iff,decide_eq_false_iff_not,beq_eq_false_iff_ne,Bool.if_false_right]
    omega
   rw [e]
   by_cases hn:nmC u=true
   ·rw [Ax hn,dT ((Sw s f i hf).2 ⟨i,Nat.le_refl _,hb,by rw [hu];exact hn⟩)];rfl
   ·rw [Aw (by simpa using hn),ckb (by omega),show ((i:Int)+1)=((i+1:Nat):Int) by omega,ih (i+1) f (by omega) (by omega) h9 (by omega)]
    rw [decide_eq_decide.2]
    rw [Sw s f (i+1) (by omega),Sw s f i hf]
    constructor
    ·rintro ⟨j,h1,h2,h3⟩;exact ⟨j,by omega,h2,h3⟩
    ·rintro ⟨j,h1,h2,h3⟩
     refine ⟨j,?_,h2,h3⟩
     rcases Nat.lt_or_ge i j with h4|h4
     ·omega
     ·obtain rfl:j=i:=by omega
      rw [hu] at h3
      exact absurd h3 hn
  ·rw [Aw (dF (by omega)),L5,dF]
   ·rfl
   ·rw [Sw s f i hf]
    rintro ⟨j,h1,h2,_⟩;omega
theorem A14 (s:ByteArray):sEq s ⟨#[]⟩=decide (s.size=0):=by
 unfold sEq
 cases s with
 | mk d =>
  show decide (d.toList=[])=decide (d.size=0)
  rw [decide_eq_decide]
  constructor
  ·intro h;have:=congrArg List.length h;simpa using this
  ·intro h;rw [Array.eq_empty_of_size_eq_zero h]
theorem Vg {F:Nat} (hF:100≤F) (s:ByteArray):J4 F s=some (Pb s):=by
 rw [J4]
 unfold Pb Za
 rw [A14]
 by_cases h1:s.size=0∨s.size>12
 ·have hc:(bif (decide (((s.size:Nat):Int)<1)) then true else (decide (((s.size:Nat):Int)>12)))=true:=by
   rcases h1 with h|h
   ·rw [dT (by omega)];rfl
   ·rw [dT (show ((s.size:Nat):Int)>12 by omega)];cases decide (((s.size:Nat):Int)<1)<;>rfl
  rw [hc,gdF (by rfl),sb,Ax (c:=true) rfl,gdF (by rfl),sb]
  simp only [cond_true]
  rcases h1 with h|h
  ·rw [dT h];rfl
  ·rw [dF (show ¬((s.size:Nat):Int)≤12 by omega)];cases decide (s.size=0)<;>rfl
 ·have hc:(bif (decide (((s.size:Nat):Int)<1)) then true else (decide (((s.size:Nat):Int)>12)))=false:=by
   rw [dF (by omega),dF (by omega)];rfl
  have hg:Pf s 0=some (((s.get! 0).toNat:Nat):Int):=Ur (i:=0) (by omega)
  rw [hc,gdT (by rfl),hg,sb,Aw (c:=false) rfl,dF (show ¬s.size=0 by omega),dT (show ((s.size:Nat):Int)≤12 by omega)]
  rw [Option.getD_some]
  generalize hu:(((s.get! 0).toNat:Nat):Int)=u
  by_cases h2:u<97
  ·rw [dT h2,gdF (by rfl),sb,Ax (c:=true) rfl,Ax (c:=true) rfl,dF (show ¬u≥97 by omega)];rfl
  ·rw [dF h2,gdT (by rfl),sb,Aw (c:=false) rfl,dT (show u≥97 by omega)]
   by_cases h3:u>122
   ·rw [dT h3,Ax (c:=true) rfl,dF (show ¬u≤122 by omega)];rfl
   ·rw [dF h3,Aw (c:=false) rfl,dT (show u≤122 by omega),show (0:Int)=((0:Nat):Int) from rfl,Y2 s F 0 s.size (by omega) (by omega) (by omega) (by omega)]
    rfl
theorem A1i (x lo hi:Int):A8 x lo hi=Aj x lo hi:=rfl
theorem A1u (x lo hi:Int):A8 x lo hi=As x lo hi:=rfl
theorem Vx {F:Nat} (hF:100≤F) (s:api_Site):Ee F s=Ey F s:=by
 rw [Ee,Ey,Vg hF,Sy,sb,sb]
 simp only [A1i,E3,Dd]
 cases Pb s.Name<;>cases Aj s.X (-1048576) 1048576<;>cases Aj s.Y (-1048576) 1048576<;>cases Aj s.Z 0 20000<;>cases Aj s.Rose 1 90<;>cases Aj s.Gates 1 200<;>cases Aj s.Step 50 2000<;>cases Aj s.Width 0 8<;>rfl
theorem Vc (g:api_Grid):Bq g=Bb g:=by
 rw [Bq,Bb]
 simp only [A1i,Cx]
 cases Aj g.X (-1048576) 1048576<;>cases Aj g.Y (-1048576) 1048576<;>cases Aj g.Size 1 10000<;>cases Aj g.Wide 1 64<;>cases Aj g.High 1 64<;>rfl
theorem A0b (s:api_Span) (lo hi:Int):Bm s lo hi=Ad s lo hi:=by
 unfold Bm Ad
 have e:decide (s.Lo≥lo)=decide (lo≤s.Lo):=rfl
 rw [e]
 cases decide (s.Lo≤s.Hi)<;>cases decide (lo≤s.Lo)<;>rfl
theorem A00 (F:Nat) (s:api_Span):J5 F s=some (decide (Gj s)):=by
 unfold J5
 have hw:A8 s.Lo (-32768) 32767=decide (inB s.Lo (-32768) 32767):=Li
 rw [hw]
 by_cases h:inB s.Lo (-32768) 32767
 ·have h1:=h.1;have h2:=h.2
  rw [dT h,gdT (by rfl),ckb (by omega),gdT (by rfl),ckb (by omega),Ax (c:=true) rfl]
  have:A8 s.Hi s.Lo (s.Lo+65536-1)=decide (inB s.Hi s.Lo (s.Lo+65536-1)):=Li
  rw [this]
  congr 1
  rw [decide_eq_decide]
  unfold inB Gj at *
  omega
 ·rw [dF h,gdF (by rfl),sb,gdF (by rfl),sb,Aw (c:=false) rfl,dF]
  unfold inB Gj at *
  omega
theorem Yr {F:Nat} (hF:10≤F) (x:api_Echo):Hf F x=F9 F x:=by
 have ht:=Tq hF (api_Span.mk x.Steps.1.Lo x.Steps.1.Hi) (api_Span.mk x.Steps.2.Lo x.Steps.2.Hi) x.Turn
 rw [Hf,F9]
 simp only [A00,A0b,A1u,Ck,D7,ht]
 have e1:decide (x.Power.Lo<1)=!decide (x.Power.Lo>0):=by
  by_cases h:x.Power.Lo<1
  ·rw [dT h,dF (by omega)];rfl
  ·rw [dF h,dT (by omega)];rfl
 have e2:(x.Power.Lo != 0)=!((0:Int)==0&&x.Power.Lo==0):=by simp [bne]
 rw [e1]
 generalize hA:decide (Gj (api_Span.mk x.Steps.1.Lo x.Steps.1.Hi))=A
 generalize hB:decide (Gj (api_Span.mk x.Steps.2.Lo x.Steps.2.Hi))=B
 generalize hC:decide (Gj x.Turn)=C
 have hABC:decide (Gj (api_Span.mk x.Steps.1.Lo x.Steps.1.Hi)∧Gj (api_Span.mk x.Steps.2.Lo x.Steps.2.Hi)∧Gj x.Turn)=(A&&(B&&C)):=by
  rw [←hA,←hB,←hC,Bool.decide_and,Bool.decide_and]
 rw [hABC]
 by_cases h1:x.Kind=1
 ·have k1:(x.Kind==1)=true:=by simp [h1]
  have k1':(x.Kind != 1)=false:=by simp [h1]
  simp only [k1,k1',cond_true,cond_false,Bool.true_and]
  have e5:((x.Power.Hi:Int)==x.Power.Hi)=true:=by simp
  rw [e5]
  have e4:(x.Power.Lo != 0)=!(x.Power.Lo==0):=rfl
  have e6:(x.Spread != 0)=!(x.Spread==0):=rfl
  rw [e4,e6]
  generalize Ad x.Power 0 1073741824=b0
  generalize (x.Power.Lo==0)=b1
  generalize (x.Steps.1.Lo==0)=b2
  generalize (x.Steps.1.Hi==0)=b3
  generalize (x.Steps.2.Lo==0)=b4
  generalize (x.Steps.2.Hi==0)=b5
  generalize (x.Spread==0)=b6
  generalize (x.Ratio.Lo==0)=b7
  generalize (x.Ratio.Hi==0)=b8
  generalize (x.Match.Lo==0)=b9
  generalize (x.Match.Hi==0)=b10
  generalize (x.Turn.Lo==0)=b11
  generalize (x.Turn.Hi==0)=b12
  cases b0
  ·rfl
  cases b1
  ·rfl
  cases b2
  ·rfl
  cases b3
  ·rfl
  cases b4
  ·rfl
  cases b5
  ·rfl
  cases b6
  ·rfl
  cases b7
  ·rfl
  cases b8
  ·rfl
  cases b9
  ·rfl
  cases b10
  ·rfl
  cases b11
  ·rfl
  cases b12<;>rfl
 ·have k1:(x.Kind==1)=false:=by simp [h1]
  have k1':(x.Kind != 1)=true:=by simp [h1]
  simp only [k1,k1',cond_true,cond_false]
  by_cases h2:x.Kind=2
  ·have k2:(x.Kind==2)=true:=by simp [h2]
   have k2':(x.Kind != 2)=false:=by simp [h2]
   simp only [k2,k2',cond_true,cond_false]
   generalize Ad x.Power 0 1073741824=b0
   generalize decide (x.Power.Lo>0)=b1
   generalize Ad x.Ratio 0 1000000=b2
   generalize Ad x.Match 0 1000=b3
   generalize As x.Spread 0 65535=b4
   generalize (x.Steps.1.Lo==0)=b5
   generalize (x.Steps.1.Hi==0)=b6
   generalize (x.Steps.2.Lo==0)=b7
   generalize (x.Steps.2.Hi==0)=b8
   generalize (x.Turn.Lo==0)=b9
   generalize (x.Turn.Hi==0)=b10
   cases b0
   ·rfl
   cases b1
   ·rfl
   cases b2
   ·rfl
   cases b3
   ·rfl
   cases b4
   ·rfl
   cases b5
   ·rfl
   cases b6
   ·rfl
   cases b7
   ·rfl
   cases b8
   ·rfl
   cases b9
   ·rfl
   cases b10<;>rfl
  ·have k2:(x.Kind==2)=false:=by simp [h2]
   have k2':(x.Kind != 2)=true:=by simp [h2]
   simp only [k2,k2',cond_true,cond_false]
   by_cases h3:x.Kind=3
   ·have k3:(x.Kind==3)=true:=by simp [h3]
    have k3':(x.Kind != 3)=false:=by simp [h3]
    simp only [k3,k3',cond_true,cond_false]
    generalize Ad x.Power 0 1073741824=b0
    generalize decide (x.Power.Lo>0)=b1
    generalize Ad x.Ratio 0 1000000=b2
    generalize Ad x.Match 0 1000=b3
    generalize As x.Spread 0 65535=b4
    cases b0
    ·rfl
    cases b1
    ·rfl
    cases b2
    ·rfl
    cases b3
    ·rfl
    cases b4
    ·rfl
    cases A<;>cases B<;>cases C<;>rfl
   ·have k3:(x.Kind==3)=false:=by simp [h3]
    have k3':(x.Kind != 3)=true:=by simp [h3]
    simp only [k3,k3',cond_true,cond_false]
end Go.Proofs.YtifbomimeodibaaGreat
namespace Go.Proofs.YtifbomimeodibaaGreat
open Go Go.RowKit Go.Eng
set_option maxRecDepth 10000
set_option linter.unusedVariables false
set_option linter.unusedSimpArgs false
theorem Ss {β:Type} {x:Int} {f g:Int→Option β} (h:f x=g x):(ck x).bind f=(ck x).bind g:=by
 unfold ck
 split
 ·exact h
 ·rfl
theorem A12 {F:Nat} (hF:10≤F) (p:api_Sweep) (i:Int) (u:List api_Echo) (hu:Cj p.Rays i=some u) (k k':Int→Option Int) (hk:k (i+1)=k' (i+1)):∀(m:Nat) (j:Int),Ec F p i k m j=Cc F i k' u m j:=by
 intro m
 induction m with
 | zero=>intro j;rfl
 | succ m ih =>
  intro j
  rw [Ec,Gn,Cc,Fc,hu,sb,sb]
  cases decide (j<((u.length:Nat):Int)) with
  | true =>
   simp only [cond_true]
   congr 1;funext x
   rw [Yr hF]
   congr 1;funext y
   cases (y != 0) with
   | true=>rfl
   | false=>simp only [cond_false];congr 1;funext z;exact ih z
  | false =>
   simp only [cond_false,Gr,Ea]
   exact Ss hk
theorem Zs {F:Nat} (hF:10≤F) (p:api_Sweep):∀(m:Nat) (i:Int),0≤i→Eb F p m i=Cb F p m i:=by
 intro m
 induction m with
 | zero=>intro i _;rfl
 | succ m ih =>
  intro i h0
  rw [Eb,Gm,Cb,Fb]
  by_cases hb:i<((p.Rays.length:Nat):Int)
  ·have hu:Cj p.Rays i=some (p.Rays[i.toNat]'(by omega)):=by
    unfold Cj
    rw [if_pos h0,List.getElem?_eq_getElem (by omega)]
   rw [Ax (dT hb),Ax (dT hb),hu,sb]
   exact A12 hF p i _ hu _ _ (ih (i+1) (by omega)) F 0
  ·rw [Aw (dF hb),Aw (dF hb)];rfl
theorem Xw {F:Nat} (hF:10≤F) (p:api_Sweep):∀(m:Nat) (i:Int),Ed F p m i=Cu F p m i:=by
 intro m
 induction m with
 | zero=>intro i;rfl
 | succ m ih =>
  intro i
  rw [Ed,Gp,Cu,Fe]
  cases decide (i<((p.Rays.length:Nat):Int)) with
  | true =>
   simp only [cond_true]
   congr 1;funext u
   cases (((u.length:Nat):Int) != p.Site.Gates) with
   | true=>rfl
   | false=>simp only [cond_false];exact Ss (ih (i+1))
  | false =>
   simp only [cond_false,Gq,Ff]
   exact Zs hF p F 0 (by decide)
theorem Yd {F:Nat} (hF:100≤F) (p:api_Sweep):Dy F p=Bw F p:=by
 rw [Dy,Bw,Vx hF]
 congr 1;funext y
 rw [Xw (by omega)]
 rfl
theorem A0d (p:api_Field) (hi:Int):∀(m:Nat) (i:Int),Hk p hi m i=Fq p hi m i:=by
 intro m
 induction m with
 | zero=>intro i;rfl
 | succ m ih =>
  intro i
  rw [Hk,L6,Fq,Jj]
  cases decide (i<((p.Vals.length:Nat):Int)) with
  | true =>
   simp only [cond_true]
   congr 1;funext u
   have e:(!(Bm u 0 hi))=(bif (bif (decide (u.Lo<0)) then true else (decide (u.Hi<u.Lo))) then true else (decide (u.Hi>hi))):=by
    unfold Bm
    rw [Bool.eq_iff_iff]
    simp only [cond_eq_ite,Bool.if_true_left,Bool.and_eq_true,Bool.or_eq_true,decide_eq_true_eq,Bool.not_eq_true',Bool.if_false_right,Bool.and_eq_false_iff,decide_eq_false_iff_not]
    omega
   rw [e]
   cases (bif (bif (decide (u.Lo<0)) then true else (decide (u.Hi<u.Lo))) then true else (decide (u.Hi>hi))) with
   | true=>rfl
   | false=>simp only [cond_false];exact Ss (ih (i+1))
  | false=>rfl
theorem Xu (F:Nat) (p:api_Field):Eo F p=F7 F p:=by
 rw [Eo,F7,P4,M8,Vc,A0d]
def toR (x:volume_Item):ref12_Item:=⟨x.Kind,x.Name,x.Time,x.Sweep,x.Field,x.Text⟩
theorem A1z {s:ByteArray} {i:Nat} (h:i<s.size):s.data.toList[i]? = some (s[i]):=by
 cases s with
 | mk d =>
  show d.toList[i]? = some d[i]
  rw [Array.getElem?_toList,Array.getElem?_eq_getElem h]
theorem Yo (x:ref12_Item):∀(m i:Nat),F1 x m i=C0 (sby x.Text) m i:=by
 intro m
 induction m with
 | zero=>intro i;rfl
 | succ m ih =>
  intro i
  rw [F1,Kb,C0,F2,M0]
  by_cases hb:i<x.Text.size
  ·rw [Ax (dT (by omega)),Ax (dT (by omega)),Ur hb,sb]
   have hg:Cj (sby x.Text) (i:Int)=some (((x.Text.get! i).toNat:Nat):Int):=by
    unfold Cj sby
    rw [if_pos (by omega),Int.toNat_natCast,List.getElem?_map]
    rw [A1z hb,X8 hb];rfl
   rw [hg,sb]
   generalize (((x.Text.get! i).toNat:Nat):Int)=u
   have hk:=ih (i+1)
   rw [show (((i+1:Nat)):Int)=(i:Int)+1 by omega] at hk
   by_cases h1:u<32
   ·rw [dT h1,gdF (by rfl),sb,Ax (by rfl),Ax (by rfl)]
   ·rw [dF h1,gdT (by rfl),sb]
    by_cases h2:u>126
    ·rw [dT h2,Ax (by rfl),Ax (by rfl)]
    ·rw [dF h2,Aw (by rfl),Aw (by rfl)]
     exact Ss hk
  ·rw [Aw (dF (by omega)),Aw (dF (by omega))];rfl
theorem Yk {α:Type} (o:Option α):(o.bind fun y=>some y)=o:=by cases o<;>rfl
def Qm (F:Nat) (t:volume_thing):Option Int:=(volume_thing.cs t (some (volume_thing.nil_,(2:Int))) (fun z15=>(Di F z15).bind fun y22=>some ((volume_thing.ic156 z15),y22)) (fun z15=>(Br F z15).bind fun y28=>some ((volume_thing.ic158 z15),y28)) (fun z15=>(Bz F z15).bind fun y31=>some ((volume_thing.ic160 z15),y31))).bind fun y10=>some y10.2
theorem Yv (F:Nat) (s:volume_sweep):Qm F (.ic156 s)=Bw F s.Sweep:=by
 show ((((Bw F s.Sweep).bind fun y6=>some y6)).bind fun y22=>some ((volume_thing.ic156 s),y22)).bind (fun y10=>some y10.2)=_
 cases Bw F s.Sweep<;>rfl
theorem Yw (F:Nat) (s:volume_field):Qm F (.ic158 s)=Br F s:=by
 show ((Br F s).bind fun y22=>some ((volume_thing.ic158 s),y22)).bind (fun y10=>some y10.2)=_
 cases Br F s<;>rfl
theorem Yx (F:Nat) (s:volume_note):Qm F (.ic160 s)=Bz F s:=by
 show ((Bz F s).bind fun y22=>some ((volume_thing.ic160 s),y22)).bind (fun y10=>some y10.2)=_
 cases Bz F s<;>rfl
theorem A1o (x:Int):(!(A8 x 0 4294967296))=(bif (decide (x<0)) then true else (decide (x>4294967296))):=by
 unfold A8
 rw [Bool.eq_iff_iff]
 simp only [cond_eq_ite,Bool.if_true_left,Bool.and_eq_true,Bool.or_eq_true,decide_eq_true_eq,Bool.not_eq_true',Bool.if_false_right,Bool.and_eq_false_iff,decide_eq_false_iff_not]
 omega
theorem Xr {F:Nat} (hF:100≤F) (x:volume_Item):Ef F (toR x)=Qm F (Fy x):=by
 rw [Ef,Fy]
 show (bif (bif (bif (x.Kind != 1) then (x.Kind != 2) else false) then (x.Kind != 3) else false) then _ else _)=_
 have hs:Bi x.Sweep=(bif (bif (bif ((x.Sweep.Site.Name==ByteArray.empty)&&(((x.Sweep.Site.X:Int)==0)&&(((x.Sweep.Site.Y:Int)==0)&&(((x.Sweep.Site.Z:Int)==0)&&(((x.Sweep.Site.Rose:Int)==0)&&(((x.Sweep.Site.Gates:Int)==0)&&(((x.Sweep.Site.Step:Int)==0)&&(((x.Sweep.Site.Width:Int)==0)&&true)))))))) then (x.Sweep.Tilt==0) else false) then (x.Sweep.Time==0) else false) then (((x.Sweep.Rays.length:Nat):Int)==0) else false):=rfl
 have hf:Bv x.Field=(bif (((x.Field.Grid.X:Int)==0)&&(((x.Field.Grid.Y:Int)==0)&&(((x.Field.Grid.Size:Int)==0)&&(((x.Field.Grid.Wide:Int)==0)&&(((x.Field.Grid.High:Int)==0)&&true))))) then (((x.Field.Vals.length:Nat):Int)==0) else false):=rfl
 have e0:∀s:ByteArray,sEq s ByteArray.empty=sEq s ⟨#[]⟩:=fun _=>rfl
 by_cases h1:x.Kind=1
 ·have k1:(x.Kind==1)=true:=by simp [h1]
  have k1':(x.Kind != 1)=false:=by simp [h1]
  have k2':(x.Kind != 2)=true:=by simp [h1]
  have k3':(x.Kind != 3)=true:=by simp [h1]
  show (bif (bif (bif (x.Kind != 1) then (x.Kind != 2) else false) then (x.Kind != 3) else false) then (some 2) else (bif (bif (bif (bif (bif (x.Kind != 1) then (!(Bi x.Sweep)) else false) then true else (bif (x.Kind != 2) then (bif (!(Bv x.Field)) then true else (!(sEq x.Name (⟨#[]⟩:ByteArray)))) else false)) then true else (bif (x.Kind != 3) then (!(sEq x.Text (⟨#[]⟩:ByteArray))) else false)) then true else (bif (x.Kind==1) then (x.Time != 0) else false)) then (some 2) else (bif (x.Kind==1) then ((Dy F x.Sweep).bind fun y9=>some y9) else _)))=_
  rw [k1,k1',k2',k3']
  simp only [cond_true,cond_false]
  rw [hf]
  show _=Qm F (bif (bif (bif (bif (bif (!(sEq x.Name ⟨#[]⟩)) then true else (x.Time != 0)) then true else (!(sEq x.Text ⟨#[]⟩))) then true else false) then true else (!(bif (((x.Field.Grid.X:Int)==0)&&(((x.Field.Grid.Y:Int)==0)&&(((x.Field.Grid.Size:Int)==0)&&(((x.Field.Grid.Wide:Int)==0)&&(((x.Field.Grid.High:Int)==0)&&true))))) then (((x.Field.Vals.length:Nat):Int)==0) else false))) then (volume_thing.nil_) else (volume_thing.ic156 (volume_sweep.mk x.Sweep)))
  generalize (bif (((x.Field.Grid.X:Int)==0)&&(((x.Field.Grid.Y:Int)==0)&&(((x.Field.Grid.Size:Int)==0)&&(((x.Field.Grid.Wide:Int)==0)&&(((x.Field.Grid.High:Int)==0)&&true))))) then (((x.Field.Vals.length:Nat):Int)==0) else false)=a
  generalize sEq x.Name ⟨#[]⟩=b
  generalize sEq x.Text ⟨#[]⟩=c
  generalize (x.Time != 0)=d
  have hgood:((Bw F x.Sweep).bind fun y9=>some y9)=Qm F (volume_thing.ic156 (volume_sweep.mk x.Sweep)):=by
   rw [Yv,Yk]
  rw [Yd hF]
  cases a<;>cases b<;>cases c<;>cases d<;>first|exact hgood|rfl
 ·by_cases h2:x.Kind=2
  ·have k1:(x.Kind==1)=false:=by simp [h1]
   have k1':(x.Kind != 1)=true:=by simp [h1]
   have k2:(x.Kind==2)=true:=by simp [h2]
   have k2':(x.Kind != 2)=false:=by simp [h2]
   have k3':(x.Kind != 3)=true:=by simp [h2]
   show (bif (bif (bif (x.Kind != 1) then (x.Kind != 2) else false) then (x.Kind != 3) else false) then (some 2) else (bif (bif (bif (bif (bif (x.Kind != 1) then (!(Bi x.Sweep)) else false) then true else (bif (x.Kind != 2) then (bif (!(Bv x.Field)) then true else (!(sEq x.Name (⟨#[]⟩:ByteArray)))) else false)) then true else (bif (x.Kind != 3) then (!(sEq x.Text (⟨#[]⟩:ByteArray))) else false)) then true else (bif (x.Kind==1) then (x.Time != 0) else false)) then (some 2) else (bif (x.Kind==1) then ((Dy F x.Sweep).bind fun y9=>some y9) else ((gd (((x.Kind==2)==true&&true)) (J4 F x.Name) default).bind fun y10 =>
    bif (bif (x.Kind==2) then (!y10) else false) then (some 10) else (bif (!(A8 x.Time 0 4294967296)) then (some 3) else (bif (x.Kind==2) then ((Eo F x.Field).bind fun y11=>some y11) else _))))))=_
   rw [k1,k1',k2,k2',k3']
   simp only [cond_true,cond_false]
   rw [hs,gdT (by rfl),Vg hF,sb,Xu]
   show _=Qm F (bif (bif (bif (bif (bif (!(sEq x.Name x.Name)) then true else (x.Time != x.Time)) then true else (!(sEq x.Text ⟨#[]⟩))) then true else (!(bif (bif (bif ((x.Sweep.Site.Name==ByteArray.empty)&&(((x.Sweep.Site.X:Int)==0)&&(((x.Sweep.Site.Y:Int)==0)&&(((x.Sweep.Site.Z:Int)==0)&&(((x.Sweep.Site.Rose:Int)==0)&&(((x.Sweep.Site.Gates:Int)==0)&&(((x.Sweep.Site.Step:Int)==0)&&(((x.Sweep.Site.Width:Int)==0)&&true)))))))) then (x.Sweep.Tilt==0) else false) then (x.Sweep.Time==0) else false) then (((x.Sweep.Rays.length:Nat):Int)==0) else false))) then true else false) then (volume_thing.nil_) else (volume_thing.ic158 (volume_field.mk x.Name x.Time x.Field)))
   rw [Q3,Ri]
   generalize (bif (bif (bif ((x.Sweep.Site.Name==ByteArray.empty)&&(((x.Sweep.Site.X:Int)==0)&&(((x.Sweep.Site.Y:Int)==0)&&(((x.Sweep.Site.Z:Int)==0)&&(((x.Sweep.Site.Rose:Int)==0)&&(((x.Sweep.Site.Gates:Int)==0)&&(((x.Sweep.Site.Step:Int)==0)&&(((x.Sweep.Site.Width:Int)==0)&&true)))))))) then (x.Sweep.Tilt==0) else false) then (x.Sweep.Time==0) else false) then (((x.Sweep.Rays.length:Nat):Int)==0) else false)=a
   generalize sEq x.Text ⟨#[]⟩=c
   have hgood:(bif (!Pb x.Name) then (some 10) else (bif (!(A8 x.Time 0 4294967296)) then (some 3) else ((F7 F x.Field).bind fun y11=>some y11)))=Qm F (volume_thing.ic158 (volume_field.mk x.Name x.Time x.Field)):=by
    rw [Yw,Br,Sy,sb,A1o]
   cases a<;>cases c<;>first|exact hgood|rfl
  ·by_cases h3:x.Kind=3
   ·have k1:(x.Kind==1)=false:=by simp [h1]
    have k1':(x.Kind != 1)=true:=by simp [h1]
    have k2:(x.Kind==2)=false:=by simp [h2]
    have k2':(x.Kind != 2)=true:=by simp [h2]
    have k3:(x.Kind==3)=true:=by simp [h3]
    have k3':(x.Kind != 3)=false:=by simp [h3]
    show (bif (bif (bif (x.Kind != 1) then (x.Kind != 2) else false) then (x.Kind != 3) else false) then (some 2) else (bif (bif (bif (bif (bif (x.Kind != 1) then (!(Bi x.Sweep)) else false) then true else (bif (x.Kind != 2) then (bif (!(Bv x.Field)) then true else (!(sEq x.Name (⟨#[]⟩:ByteArray)))) else false)) then true else (bif (x.Kind != 3) then (!(sEq x.Text (⟨#[]⟩:ByteArray))) else false)) then true else (bif (x.Kind==1) then (x.Time != 0) else false)) then (some 2) else (bif (x.Kind==1) then ((Dy F x.Sweep).bind fun y9=>some y9) else ((gd (((x.Kind==2)==true&&true)) (J4 F x.Name) default).bind fun y10 =>
     bif (bif (x.Kind==2) then (!y10) else false) then (some 10) else (bif (!(A8 x.Time 0 4294967296)) then (some 3) else (bif (x.Kind==2) then ((Eo F x.Field).bind fun y11=>some y11) else (bif (decide (((x.Text.size:Nat):Int)>200)) then (some 8) else (F1 (toR x) F 0))))))))=_
    rw [k1,k1',k2,k2',k3,k3']
    simp only [cond_true,cond_false]
    rw [hs,hf,gdF (by rfl),sb]
    show _=Qm F (bif (bif (bif (bif (bif (!(sEq x.Name ⟨#[]⟩)) then true else (x.Time != x.Time)) then true else (!(sEq x.Text x.Text))) then true else (!(bif (bif (bif ((x.Sweep.Site.Name==ByteArray.empty)&&(((x.Sweep.Site.X:Int)==0)&&(((x.Sweep.Site.Y:Int)==0)&&(((x.Sweep.Site.Z:Int)==0)&&(((x.Sweep.Site.Rose:Int)==0)&&(((x.Sweep.Site.Gates:Int)==0)&&(((x.Sweep.Site.Step:Int)==0)&&(((x.Sweep.Site.Width:Int)==0)&&true)))))))) then (x.Sweep.Tilt==0) else false) then (x.Sweep.Time==0) else false) then (((x.Sweep.Rays.length:Nat):Int)==0) else false))) then true else (!(bif (((x.Field.Grid.X:Int)==0)&&(((x.Field.Grid.Y:Int)==0)&&(((x.Field.Grid.Size:Int)==0)&&(((x.Field.Grid.Wide:Int)==0)&&(((x.Field.Grid.High:Int)==0)&&true))))) then (((x.Field.Vals.length:Nat):Int)==0) else false))) then (volume_thing.nil_) else (volume_thing.ic160 (volume_note.mk x.Time x.Text)))
    rw [Q3,Ri]
    generalize (bif (bif (bif ((x.Sweep.Site.Name==ByteArray.empty)&&(((x.Sweep.Site.X:Int)==0)&&(((x.Sweep.Site.Y:Int)==0)&&(((x.Sweep.Site.Z:Int)==0)&&(((x.Sweep.Site.Rose:Int)==0)&&(((x.Sweep.Site.Gates:Int)==0)&&(((x.Sweep.Site.Step:Int)==0)&&(((x.Sweep.Site.Width:Int)==0)&&true)))))))) then (x.Sweep.Tilt==0) else false) then (x.Sweep.Time==0) else false) then (((x.Sweep.Rays.length:Nat):Int)==0) else false)=a
    generalize (bif (((x.Field.Grid.X:Int)==0)&&(((x.Field.Grid.Y:Int)==0)&&(((x.Field.Grid.Size:Int)==0)&&(((x.Field.Grid.Wide:Int)==0)&&(((x.Field.Grid.High:Int)==0)&&true))))) then (((x.Field.Vals.length:Nat):Int)==0) else false)=b
    generalize sEq x.Name ⟨#[]⟩=c
    have hgood:(bif (!(A8 x.Time 0 4294967296)) then (some 3) else (bif (decide (((x.Text.size:Nat):Int)>200)) then (some 8) else (F1 (toR x) F 0)))=Qm F (volume_thing.ic160 (volume_note.mk x.Time x.Text)):=by
     rw [Yx,Bz,A1o]
     show (bif _ then _ else _)=(bif (bif (decide (x.Time<0)) then true else (decide (x.Time>4294967296))) then _ else _)
     congr 1
     by_cases hz:((x.Text.size:Nat):Int)>200
     ·rw [Ax (dT hz)]
      show _=(bif (decide (((x.Text.size:Nat):Int)>200)) then _ else _)
      rw [Ax (dT hz)]
     ·have h2b:s2b x.Text=some (sby x.Text):=by unfold s2b;rw [if_pos (by omega)]
      rw [Aw (dF hz)]
      show _=(bif (decide (((x.Text.size:Nat):Int)>200)) then _ else (s2b x.Text).bind fun l15=>C0 l15 F 0)
      rw [Aw (dF hz),h2b,sb]
      exact Yo (toR x) F 0
    cases a<;>cases b<;>cases c<;>first|exact hgood|rfl
   ·have k1:(x.Kind==1)=false:=by simp [h1]
    have k1':(x.Kind != 1)=true:=by simp [h1]
    have k2:(x.Kind==2)=false:=by simp [h2]
    have k2':(x.Kind != 2)=true:=by simp [h2]
    have k3:(x.Kind==3)=false:=by simp [h3]
    have k3':(x.Kind != 3)=true:=by simp [h3]
    rw [k1',k2',k3',k1,k2,k3]
    rfl
end Go.Proofs.YtifbomimeodibaaGreat
namespace Go.Proofs.YtifbomimeodibaaGreat
open Go Go.RowKit Go.Eng
set_option maxRecDepth 10000
set_option linter.unusedVariables false
set_option linter.unusedSimpArgs false
theorem A06 (F:Nat) (hF:10≤F) (c:Nat) (hc:c<2147483647):Fp F c [] 0=some (Ws c):=by
 obtain ⟨G,rfl⟩:∃G,F=G+6:=⟨F-6,by omega⟩
 have step:∀(m i d:Nat) (l:List Int),i<4→l.length=i→d<2147483647→Fp (m+1) d l i=Fp m (d/127:Nat) (l++[128+((d%127:Nat):Int)]) (i+1:Nat):=by
  intro m i d l hi hl hd
  rw [Fp,Kc,Ax (dT (by omega)),(tdm d).1,sb]
  have:=Nat.mod_lt d (show 0<127 by decide)
  rw [ckb (by omega),Pl (by simp;omega) (by decide),(tdm d).2,ckb (by omega),ckb (by omega),Xm (by omega)]
  rfl
 rw [show (0:Int)=((0:Nat):Int) from rfl,step (G+5) 0 c _ (by decide) (by simp) hc,step (G+4) 1 _ _ (by decide) (by simp) (by omega),step (G+3) 2 _ _ (by decide) (by simp) (by omega),step (G+2) 3 _ _ (by decide) (by simp) (by omega)]
 rw [Fp,Kc,Aw (dF (by decide)),Lz]
 have h5:c/127/127/127/127<127:=by omega
 have h6:c/127/127/127/127%127=c/127/127/127/127:=Nat.mod_eq_of_lt h5
 rw [ckb (by omega),Pl (by simp) (by decide),Xm (by omega)]
 unfold Ws
 rw [h6]
 rfl
theorem A07 (F:Nat) (hF:10≤F) (p:List Int) (hp:By p) (hpl:p.length≤1000000000):∀(m i c:Nat),p.length-i<m→i≤p.length→c<2147483647→Je F p m c i=some (Ws (V2 c (p.drop i))):=by
 intro m
 induction m with
 | zero=>intro i c h;omega
 | succ m ih =>
  intro i c h hi hc
  rw [Je,Lx]
  by_cases hb:i<p.length
  ·have hx:=hp p[i] (List.getElem_mem hb)
   rw [Ax (dT (by omega)),ckb (by omega),Jk i p[i] rfl (List.getElem?_eq_getElem hb),ckb (by omega),ckb (by omega)]
   have e:Mr (31*(c:Int)+p[i]) 2147483647=some (((31*c+p[i].toNat)%2147483647:Nat):Int):=by
    have e1:31*(c:Int)+p[i]=((31*c+p[i].toNat:Nat):Int):=by omega
    rw [e1]
    unfold Mr
    rw [if_neg (by decide)]
    congr 1
   rw [e,sb,ckb (by omega)]
   have:=ih (i+1) _ (by omega) (by omega) (Nat.mod_lt (31*c+p[i].toNat) (show 0<2147483647 by decide))
   rw [show ((i:Int)+1)=((i+1:Nat):Int) by omega,this,List.drop_eq_getElem_cons hb]
   rfl
  ·rw [Aw (dF (by omega)),Ly,List.drop_of_length_le (by omega)]
   exact A06 F hF c hc
theorem A1g {F:Nat} (hF:10≤F) {p:List Int} (hp:By p) (hl:p.length<F) (hl9:p.length≤1000000000):Nf F p=some (W0 p):=by
 rw [Nf]
 exact A07 F hF p hp hl9 F 0 1 (by omega) (by omega) (by decide)
theorem Yb (a b:List Int) (hl:a.length=b.length) (h9:a.length≤1000000000):∀(m i:Nat),a.length-i<m→i≤a.length→Ho a b m i=some (decide (a.drop i=b.drop i)):=by
 intro m
 induction m with
 | zero=>intro i h;omega
 | succ m ih =>
  intro i h hi
  rw [Ho,L7]
  by_cases hb:i<a.length
  ·have hb':i<b.length:=by omega
   rw [Ax (dT (by omega)),Jk i a[i] rfl (List.getElem?_eq_getElem hb),Jk i b[i] rfl (List.getElem?_eq_getElem hb'),Rl hb hb']
   by_cases hx:a[i]=b[i]
   ·rw [Aw (by simp [hx]),ckb (by omega),show ((i:Int)+1)=((i+1:Nat):Int) by omega,ih (i+1) (by omega) (by omega),dT hx,Bool.true_and]
   ·rw [Ax (by simp [hx]),dF hx];rfl
  ·rw [Aw (dF (by omega)),Pn (by omega) (by omega)];rfl
theorem A17 {F:Nat} {a b:List Int} (hF:a.length<F) (h9:a.length≤1000000000):Mi F a b=some (decide (a=b)):=by
 rw [Mi]
 by_cases h:a.length=b.length
 ·rw [Aw (by simp [h]),show (0:Int)=((0:Nat):Int) from rfl,Yb a b h h9 F 0 (by omega) (by omega)];rfl
 ·rw [Ax (by simp;omega),dF (fun e=>h (by rw [e]))]
def zR:ref12_Item:=⟨0,ByteArray.empty,0,⟨⟨ByteArray.empty,0,0,0,0,0,0,0⟩,0,0,[]⟩,⟨⟨0,0,0,0,0⟩,[]⟩,ByteArray.empty⟩
noncomputable def fin:Option (volume_thing×List Int)→ref12_Item×Bool
 | none=>(zR,false)
 | some (t,r)=>if vT t∧r=[] then (toR (Gs t),true) else (zR,false)
def Fin (bad:Bool) (Z:Option (ref12_Item×Bool)) (o:Option (volume_thing×List Int)):Prop:=Z=some (fin (bif bad then none else o))
theorem Fin.bind {α:Type} {b:List Int} {bad:Bool} {y:Option (α×ref12_reader)} {o:Option (α×List Int)} {ok:α→Prop} (h:Uq b bad y o ok) {f:α×ref12_reader→Option (ref12_Item×Bool)} {g:α×List Int→Option (volume_thing×List Int)}
  (hf:∀x r,r.b <:+ b→ok x→(r.bad=false→o=some (x,r.b))→Fin r.bad (f (x,r)) (g (x,r.b))):Fin bad (y.bind f) (o.bind g):=by
 obtain ⟨x,r,h1,h2,h3,h4⟩:=h
 rw [h1,sb]
 rcases h4 with ⟨e1,e2,e3⟩|⟨e1,e2⟩
 ·have:=hf x r h2 h3 (fun _=>e2)
  rw [e3] at this
  rw [e1,e2]
  exact this
 ·have:=hf x r h2 h3 (fun h=>by rw [e1] at h;cases h)
  rw [e1] at this
  rcases e2 with e2|e2
  ·rw [e2];exact this
  ·rw [e2];cases bad<;>exact this
theorem Fin.no {bad:Bool}:Fin bad (some (zR,false)) none:=by cases bad<;>rfl
theorem A2w {F:Nat} (hF:5000≤F) {t:volume_thing} (ht:t≠.nil_):∃e,Ef F (toR (Gs t))=some e∧(e=0↔vT t):=by
 obtain ⟨e,h1,h2⟩:=V8 hF ht
 refine ⟨e,?_,h2⟩
 rw [Xr (by omega),A0v ht,←h1]
 cases t with
 | nil_=>exact absurd rfl ht
 | ic156 s=>rw [Yv];show _=(Bw F s.Sweep).bind fun y=>some y;rw [Yk]
 | ic158 s=>rw [Yw];rfl
 | ic160 s=>rw [Yx];rfl
theorem A3m {F:Nat} (hF:5000≤F) {t:volume_thing} (ht:t≠.nil_) (x:ref12_Item) (hx:x=toR (Gs t)) (l:List Int) (c:Bool) :
  Fin c (bif c then ((gd ((true==false&&true)) (Ef F x) default).bind fun y319=>some (zR,false)) else ((gd (((decide (((l.length:Nat):Int)>0))==false&&true)) (Ef F x) default).bind fun y320 =>
   bif (bif (decide (((l.length:Nat):Int)>0)) then true else (y320 != 0)) then (some (zR,false)) else (some (x,true)))) (some (t,l)):=by
 cases c with
 | true=>rw [Ax rfl,gdF (by rfl),sb];rfl
 | false =>
  rw [Aw rfl]
  show _=some (if vT t∧l=[] then (toR (Gs t),true) else (zR,false))
  subst hx
  obtain ⟨e,h1,h2⟩:=A2w hF ht
  by_cases hl:l=[]
  ·subst hl
   rw [show decide ((((([]:List Int).length):Nat):Int)>0)=false from rfl,gdT (by rfl),h1,sb,Aw (c:=false) rfl]
   by_cases he:e=0
   ·rw [Aw (by simp [he]),if_pos ⟨h2.1 he,rfl⟩]
   ·rw [Ax (by simp [he]),if_neg (fun h=>he (h2.2 h.1))]
  ·have:=List.length_pos_iff.2 hl
   rw [dT (show ((l.length:Nat):Int)>0 by omega),gdF (by rfl),sb,Ax (c:=true) rfl,Ax rfl,if_neg (fun h=>hl h.2)]
theorem A0o {F:Nat} (y6:Int×ref12_reader) (y326:ByteArray×ref12_reader) (y334 y341 y348 y355 y362 y369 y376 y383 y403:Int×ref12_reader) (y413:List api_Echo×ref12_reader) (hb:y413.2.bad=false) (hr:1≤y355.1∧y355.1≤90) (hg:1≤y362.1∧y362.1≤200) (hl:y413.1.length=(4*y355.1).toNat*y362.1.toNat) :
  ∀(m i n:Nat) (acc:List (List api_Echo)),n<m→(i:Int)+n=4*y355.1→acc.length=i→Fv F y6 y326 y334 y341 y348 y355 y362 y369 y376 y383 y403 y413 m acc i =
   Ct F y6 ByteArray.empty y376.1 y383.1 y403.1 (acc++So y362.1.toNat n (y413.1.drop (i*y362.1.toNat))) 0 0 0 0 0 ([]) 0 ByteArray.empty y326.1 y334.1 y341.1 y348.1 y355.1 y362.1 y369.1 y413.2.b y413.2.bad:=by
 intro m
 induction m with
 | zero=>intro i n acc h;omega
 | succ m ih =>
  intro i n acc h hi ha
  rw [Fv,Jn,ckb (by omega)]
  cases n with
  | zero=>rw [Aw (dF (by omega)),So,List.append_nil]
  | succ n =>
   have e1:(i:Int)*y362.1=((i*y362.1.toNat:Nat):Int):=by push_cast;rw [show (y362.1.toNat:Int)=y362.1 by omega]
   have e2:((i:Int)+1)*y362.1=((i*y362.1.toNat+y362.1.toNat:Nat):Int):=by rw [Int.add_mul,e1,Int.one_mul];omega
   have hle:i*y362.1.toNat+y362.1.toNat≤(4*y355.1).toNat*y362.1.toNat:=by
    rw [show i*y362.1.toNat+y362.1.toNat=(i+1)*y362.1.toNat by rw [Nat.add_mul,Nat.one_mul]]
    exact Nat.mul_le_mul_right _ (by omega)
   have hle2:(4*y355.1).toNat*y362.1.toNat≤360*200:=Nat.mul_le_mul (by omega) (by omega)
   rw [Ax (dT (by omega)),hb,Ax (by rfl),ckb (by omega),ckb (by omega),ckb (by omega),W8 (i*y362.1.toNat) (i*y362.1.toNat+y362.1.toNat) e1 e2 (by omega),Pl (by simp;omega) (by decide),ckb (by omega)]
   rw [show ((i:Int)+1)=((i+1:Nat):Int) by omega,ih (i+1) n _ (by omega) (by omega) (by simp;omega)]
   rw [So,List.append_assoc,List.drop_drop,hb,show i*y362.1.toNat+y362.1.toNat-i*y362.1.toNat=y362.1.toNat by omega,show (i+1)*y362.1.toNat=i*y362.1.toNat+y362.1.toNat by rw [Nat.add_mul,Nat.one_mul]]
   rfl
end Go.Proofs.YtifbomimeodibaaGreat
namespace Go.Proofs.YtifbomimeodibaaGreat
open Go Go.RowKit Go.Eng
set_option maxRecDepth 10000
set_option linter.unusedVariables false
set_option linter.unusedSimpArgs false
theorem Z7 {F:Nat} (hF:5000≤F) {t:volume_thing} (ht:t≠.nil_) (y6:Int×ref12_reader) (s285:ByteArray) (x286 x287 x288:Int) (l291:List (List api_Echo)) (x294 x295 x296 x297 x298:Int) (l301:List api_Span) (x303:Int) (s304 s305:ByteArray) (x306 x307 x308 x309 x310 x311:Int) (l:List Int) (c:Bool)
  (hx:ref12_Item.mk y6.1 s285 x303 (api_Sweep.mk (api_Site.mk s305 x306 x307 x308 x309 x310 x311 x286) x287 x288 l291) (api_Field.mk (api_Grid.mk x294 x295 x296 x297 x298) l301) s304=toR (Gs t)) :
  Fin c (Ct F y6 s285 x286 x287 x288 l291 x294 x295 x296 x297 x298 l301 x303 s304 s305 x306 x307 x308 x309 x310 x311 l c) (some (t,l)):=A3m hF ht _ hx l c
theorem A1f {F:Nat} (hF:200000≤F) (y6:Int×ref12_reader) (h6:y6.1=1) {r:ref12_reader} (hb:By r.b):Fin r.bad ((Cy F r).bind fun y326 =>
 (B5 F (ref12_reader.mk y326.2.b y326.2.bad)).bind fun y334 =>
 (B5 F (ref12_reader.mk y334.2.b y334.2.bad)).bind fun y341 =>
 (Ac F (ref12_reader.mk y341.2.b y341.2.bad)).bind fun y348 =>
 (Ac F (ref12_reader.mk y348.2.b y348.2.bad)).bind fun y355 =>
 (Ac F (ref12_reader.mk y355.2.b y355.2.bad)).bind fun y362 =>
 (Ac F (ref12_reader.mk y362.2.b y362.2.bad)).bind fun y369 =>
 (Ac F (ref12_reader.mk y369.2.b y369.2.bad)).bind fun y376 =>
 (Ac F (ref12_reader.mk y376.2.b y376.2.bad)).bind fun y383 =>
 (Ac F (ref12_reader.mk y383.2.b y383.2.bad)).bind fun y403 =>
 (Ee F (api_Site.mk y326.1 y334.1 y341.1 y348.1 y355.1 y362.1 y369.1 y376.1)).bind fun y410 =>
 bif (y410 != 0) then (some (zR,false)) else ((ck (4*y355.1)).bind fun x411 =>
 (ck (x411*y362.1)).bind fun x412 =>
 (Dr F (ref12_reader.mk y403.2.b y403.2.bad) x412).bind fun y413 =>
 Fv F y6 y326 y334 y341 y348 y355 y362 y369 y376 y383 y403 y413 F ([]) 0)) (Tl r.b):=by
 have h1:1000≤F:=by omega
 unfold Tl
 refine Fin.bind (A02 h1 hb) fun nm s1 hs1 _ _=>?_
 have b1:=hb.suf hs1
 refine Fin.bind (Nh h1 b1) fun x s2 hs2 _ _=>?_
 have b2:=b1.suf hs2
 refine Fin.bind (Nh h1 b2) fun y s3 hs3 _ _=>?_
 have b3:=b2.suf hs3
 refine Fin.bind (Db h1 b3) fun z s4 hs4 _ _=>?_
 have b4:=b3.suf hs4
 refine Fin.bind (Db h1 b4) fun ro s5 hs5 _ _=>?_
 have b5:=b4.suf hs5
 refine Fin.bind (Db h1 b5) fun g s6 hs6 _ _=>?_
 have b6:=b5.suf hs6
 refine Fin.bind (Db h1 b6) fun st s7 hs7 _ _=>?_
 have b7:=b6.suf hs7
 refine Fin.bind (Db h1 b7) fun w s8 hs8 _ _=>?_
 have b8:=b7.suf hs8
 refine Fin.bind (Db h1 b8) fun ti s9 hs9 _ _=>?_
 have b9:=b8.suf hs9
 refine Fin.bind (Db h1 b9) fun tm s10 hs10 _ _=>?_
 have b10:=b9.suf hs10
 obtain ⟨e,he,hv⟩:=V0 F ⟨nm,x,y,z,ro,g,st,w⟩
 show Fin s10.bad ((Ee F ⟨nm,x,y,z,ro,g,st,w⟩).bind _) (if Sm ⟨nm,x,y,z,ro,g,st,w⟩ then _ else _)
 rw [Vx (by omega),he,sb]
 by_cases h0:e=0
 ·rw [Aw (by simp [h0]),if_pos (hv.1 h0)]
  obtain ⟨_,_,_,_,⟨c1,c2⟩,⟨c3,c4⟩,_⟩:=hv.1 h0
  simp only at c1 c2 c3 c4
  have hm:4*ro*g≤360*g:=Int.mul_le_mul_of_nonneg_right (by omega) (by omega)
  have hm0:0≤4*ro*g:=Int.mul_nonneg (by omega) (by omega)
  show Fin s10.bad ((ck (4*ro)).bind fun x411=>(ck (x411*g)).bind fun x412=>_) _
  rw [ckb (by omega),ckb (by omega)]
  have hr:=A01 hF (N:=(4*ro*g).toNat) (by omega) (r:=s10) b10
  rw [show (((4*ro*g).toNat:Nat):Int)=4*ro*g by omega] at hr
  refine Fin.bind hr fun all s11 hs11 _ hgood=>?_
  cases hbad:s11.bad with
  | true =>
   obtain ⟨G,rfl⟩:∃G,F=G+1:=⟨F-1,by omega⟩
   rw [Fv,Jn]
   show Fin true ((ck (4*ro)).bind fun x480=>bif (decide ((0:Int)<x480)) then (bif (!s11.bad) then _ else _) else _) _
   rw [ckb (by omega),Ax (dT (by omega)),hbad,Aw (by rfl)]
   show (bif true then _ else _)=_
   rw [Ax rfl,gdF (by rfl),sb]
   rfl
  | false =>
   have hlen:=(Zj (fun l x r hb h=>Wk hb h) _ _ _ _ _ _ b10 (hgood hbad)).1
   have hl2:all.length=(4*ro).toNat*g.toNat:=by
    rw [hlen]
    have:(4*ro*g)=(((4*ro).toNat*g.toNat:Nat):Int):=by
     push_cast
     rw [show ((4*ro).toNat:Int)=4*ro by omega,show (g.toNat:Int)=g by omega]
    omega
   rw [show (0:Int)=((0:Nat):Int) from rfl,A0o y6 (nm,s1) (x,s2) (y,s3) (z,s4) (ro,s5) (g,s6) (st,s7) (w,s8) (ti,s9) (tm,s10) (all,s11) hbad ⟨c1,c2⟩ ⟨c3,c4⟩ hl2 F 0 (4*ro).toNat [] (by omega) (by simp only;omega) rfl]
   rw [Nat.zero_mul,List.drop_zero,List.nil_append]
   have:=Z7 (F:=F) (by omega) (t:=.ic156 ⟨⟨⟨nm,x,y,z,ro,g,st,w⟩,ti,tm,So g.toNat (4*ro).toNat all⟩⟩) (by simp) y6 ByteArray.empty w ti tm (So g.toNat (4*ro).toNat all) 0 0 0 0 0 [] 0 ByteArray.empty nm x y z ro g st s11.b s11.bad (by rw [h6];rfl)
   rw [hbad] at this
   show Fin false (Ct F y6 ByteArray.empty w ti tm (So g.toNat (4*ro).toNat all) 0 0 0 0 0 [] 0 ByteArray.empty nm x y z ro g st s11.b s11.bad) _
   rw [hbad]
   exact this
 ·rw [Ax (by simp [h0]),if_neg (fun h=>h0 (hv.2 h))]
  exact Fin.no
theorem A1d {F:Nat} (hF:200000≤F) (y6:Int×ref12_reader) (h6:y6.1=2) {r:ref12_reader} (hb:By r.b):Fin r.bad ((Cy F r).bind fun y502 =>
 (Ac F (ref12_reader.mk y502.2.b y502.2.bad)).bind fun y509 =>
 (B5 F (ref12_reader.mk y509.2.b y509.2.bad)).bind fun y516 =>
 (B5 F (ref12_reader.mk y516.2.b y516.2.bad)).bind fun y524 =>
 (Ac F (ref12_reader.mk y524.2.b y524.2.bad)).bind fun y531 =>
 (Ac F (ref12_reader.mk y531.2.b y531.2.bad)).bind fun y538 =>
 (Ac F (ref12_reader.mk y538.2.b y538.2.bad)).bind fun y545 =>
 bif ((Bq (api_Grid.mk y516.1 y524.1 y531.1 y538.1 y545.1)) != 0) then (some (zR,false)) else ((ck (y538.1*y545.1)).bind fun x552 =>
 (E9 F (ref12_reader.mk y545.2.b y545.2.bad) x552).bind fun y553 =>
 Ct F y6 y502.1 0 0 0 ([]) y516.1 y524.1 y531.1 y538.1 y545.1 y553.1 y509.1 ByteArray.empty ByteArray.empty 0 0 0 0 0 0 y553.2.b y553.2.bad)) (Tk r.b):=by
 have h1:1000≤F:=by omega
 unfold Tk
 refine Fin.bind (A02 h1 hb) fun nm s1 hs1 _ _=>?_
 have b1:=hb.suf hs1
 refine Fin.bind (Db h1 b1) fun tm s2 hs2 _ _=>?_
 have b2:=b1.suf hs2
 refine Fin.bind (Nh h1 b2) fun x s3 hs3 _ _=>?_
 have b3:=b2.suf hs3
 refine Fin.bind (Nh h1 b3) fun y s4 hs4 _ _=>?_
 have b4:=b3.suf hs4
 refine Fin.bind (Db h1 b4) fun sz s5 hs5 _ _=>?_
 have b5:=b4.suf hs5
 refine Fin.bind (Db h1 b5) fun wd s6 hs6 _ _=>?_
 have b6:=b5.suf hs6
 refine Fin.bind (Db h1 b6) fun hi s7 hs7 _ _=>?_
 have b7:=b6.suf hs7
 show Fin s7.bad (bif ((Bq ⟨x,y,sz,wd,hi⟩) != 0) then _ else _) (if Ru ⟨x,y,sz,wd,hi⟩ then _ else _)
 rw [Vc]
 by_cases h0:Bb ⟨x,y,sz,wd,hi⟩=0
 ·have hv:=(Su _).1 h0
  have hgl:=Pp hv
  simp only at hgl
  rw [Aw (by simp [h0]),if_pos hv]
  show Fin s7.bad ((ck (wd*hi)).bind fun x552=>_) _
  rw [ckb (by omega)]
  have hr:=A1e hF (N:=(wd*hi).toNat) (by omega) (r:=s7) b7
  rw [show (((wd*hi).toNat:Nat):Int)=wd*hi by omega] at hr
  refine Fin.bind hr fun all s8 hs8 _ _=>?_
  exact Z7 (F:=F) (by omega) (t:=.ic158 ⟨nm,tm,⟨⟨x,y,sz,wd,hi⟩,all⟩⟩) (by simp) y6 nm 0 0 0 [] x y sz wd hi all tm ByteArray.empty ByteArray.empty 0 0 0 0 0 0 s8.b s8.bad (by rw [h6];rfl)
 ·rw [Ax (by simp [h0]),if_neg (fun h=>h0 ((Su _).2 h))]
  exact Fin.no
theorem A2t {F:Nat} (hF:200000≤F) (y6:Int×ref12_reader) (h6:y6.1=3) {r:ref12_reader} (hb:By r.b):Fin r.bad ((Ac F r).bind fun y582 =>
 (Cy F (ref12_reader.mk y582.2.b y582.2.bad)).bind fun y589 =>
 Ct F y6 ByteArray.empty 0 0 0 ([]) 0 0 0 0 0 ([]) y582.1 y589.1 ByteArray.empty 0 0 0 0 0 0 y589.2.b y589.2.bad) (Vk r.b):=by
 have h1:1000≤F:=by omega
 unfold Vk
 refine Fin.bind (Db h1 hb) fun tm s1 hs1 _ _=>?_
 have b1:=hb.suf hs1
 refine Fin.bind (A02 h1 b1) fun tx s2 hs2 _ _=>?_
 exact Z7 (F:=F) (by omega) (t:=.ic160 ⟨tm,tx⟩) (by simp) y6 ByteArray.empty 0 0 0 [] 0 0 0 0 0 [] tm tx ByteArray.empty 0 0 0 0 0 0 s2.b s2.bad (by rw [h6];rfl)
theorem A03 {F:Nat} (hF:200000≤F) {l:List Int} (hl:By l):Ku F l=some (fin (P3 l)):=by
 have h1:1000≤F:=by omega
 have:Fin false (Ku F l) (P3 l):=by
  rw [Ku,P3]
  refine Fin.bind (b:=l) (bad:=false) (Db h1 (r:=⟨l,false⟩) hl) fun k s hs _ _=>?_
  have b1:=hl.suf hs
  show Fin s.bad (bif (k==1) then _ else _) (if k=1 then _ else _)
  by_cases k1:k=1
  ·rw [Ax (by simp [k1]),if_pos k1]
   exact A1f hF (k,s) k1 b1
  ·rw [Aw (by simp [k1]),if_neg k1]
   by_cases k2:k=2
   ·rw [Ax (by simp [k2]),if_pos k2]
    exact A1d hF (k,s) k2 b1
   ·rw [Aw (by simp [k2]),if_neg k2]
    by_cases k3:k=3
    ·rw [Ax (by simp [k3]),if_pos k3]
     exact A2t hF (k,s) k3 b1
    ·rw [Aw (by simp [k3]),if_neg k3]
     rw [Ct]
     have hc:Ef F (ref12_Item.mk k ByteArray.empty 0 (api_Sweep.mk (api_Site.mk ByteArray.empty 0 0 0 0 0 0 0) 0 0 []) (api_Field.mk (api_Grid.mk 0 0 0 0 0) []) ByteArray.empty)=some 2:=by
      rw [Ef]
      have a1:(k != 1)=true:=by simp [k1]
      have a2:(k != 2)=true:=by simp [k2]
      have a3:(k != 3)=true:=by simp [k3]
      rw [Ax (show (bif (bif (k != 1) then (k != 2) else false) then (k != 3) else false)=true by rw [a1,a2,a3];rfl)]
     show Fin s.bad (bif s.bad then _ else ((gd (((decide (((s.b.length:Nat):Int)>0))==false&&true)) (Ef F (ref12_Item.mk k ByteArray.empty 0 (api_Sweep.mk (api_Site.mk ByteArray.empty 0 0 0 0 0 0 0) 0 0 []) (api_Field.mk (api_Grid.mk 0 0 0 0 0) []) ByteArray.empty)) default).bind fun y320=>bif (bif (decide (((s.b.length:Nat):Int)>0)) then true else (y320 != 0)) then _ else _)) none
     rw [hc]
     cases s.bad with
     | true=>rw [Ax rfl,gdF (by rfl),sb];exact Fin.no
     | false =>
      rw [Aw rfl]
      cases decide (((s.b.length:Nat):Int)>0) with
      | true=>rw [gdF (by rfl),sb,Ax (by rfl)];exact Fin.no
      | false=>rw [gdT (by rfl),sb,Ax (by rfl)];exact Fin.no
 exact this
noncomputable def tkS (p:List Int):ref12_Item×Int:=if (unS p).2=0 then (toR (Gs (unS p).1),0) else (zR,(unS p).2)
theorem Uj {F:Nat} (hF:200000≤F) {p:List Int} (hp:By p) (hl:p.length<F) (hl9:p.length≤1000000000):Jz F p=some (tkS p):=by
 obtain ⟨x,r,h1,h2,h3,h4⟩:=Db (F:=F) (by omega) (r:=⟨p,false⟩) hp
 unfold Jz tkS unS
 rw [h1,sb]
 rcases h4 with ⟨_,e2,e3⟩|⟨e1,e2⟩
 ·have e2:rN p=some (x,r.b):=e2
  obtain ⟨a,b,c⟩:=Ft hp e2
  have hrl:=c.length_le
  rw [e2]
  show (bif r.bad then _ else _)=_
  rw [e3,Aw rfl,ckb (by simp only;omega)]
  show (bif ((r.b.length:Nat):Int) != x+5 then _ else _)=_
  by_cases q3:(r.b.length:Int)=x+5
  ·rw [Aw (by simp [q3]),ckb (by omega),Lt (p.length-5) (by omega) rfl (by omega),ckb (by omega),N6 (p.length-5) rfl (by omega) (by omega)]
   have hby1:By (p.take (p.length-5)):=fun x hx=>hp x (List.mem_of_mem_take hx)
   rw [A1g (by omega) hby1 (by rw [List.length_take];omega) (by rw [List.length_take];omega),sb,A17 (by rw [List.length_drop];omega) (by rw [List.length_drop];omega),sb]
   by_cases q4:p.drop (p.length-5)=W0 (p.take (p.length-5))
   ·rw [dT q4,Aw (by rfl),N6 x.toNat rfl (by simp only;omega) (show x.toNat≤r.b.length by omega)]
    have hbr:By (r.b.take x.toNat):=fun y hy=>(hp.suf c) y (List.mem_of_mem_take hy)
    rw [A03 hF hbr,sb]
    simp only [q3,q4,ne_eq,not_true_eq_false,if_false]
    cases q5:P3 (r.b.take x.toNat) with
    | none=>rfl
    | some y =>
     obtain ⟨t,r2⟩:=y
     simp only [fin]
     by_cases q6:vT t∧r2=[]
     ·rw [if_pos q6,if_pos q6];rfl
     ·rw [if_neg q6,if_neg q6];rfl
   ·rw [dF q4,Ax (by rfl)]
    simp only [q3,q4,ne_eq,not_true_eq_false,not_false_eq_true,if_false,if_true]
    rfl
  ·rw [Ax (by simp [q3])]
   simp only [q3,ne_eq,not_false_eq_true,if_true]
   rfl
 ·rcases e2 with e2|e2
  ·cases e2
  ·have e2:rN p=none:=e2
   rw [e2]
   show (bif r.bad then _ else _)=_
   rw [e1,Ax rfl]
   rfl
theorem Wx {F:Nat} {p:List Int} (hp:By p) (hl:p.length≤1000000000):∀(m i:Nat) (c:Bool),p.length-i<m→i≤p.length →
  Hp F p m c i=Jo F p (c&&S2 (p.drop i)):=by
 intro m
 induction m with
 | zero=>intro i c h;omega
 | succ m ih =>
  intro i c h hi
  rw [Hp,L8]
  by_cases hb:i<p.length
  ·have hd:=List.drop_eq_getElem_cons hb
   have hg:Cj p (i:Int)=some p[i]:=by unfold Cj;rw [if_pos (by omega),Int.toNat_natCast,List.getElem?_eq_getElem hb]
   have e:S2 (p[i]::p.drop (i+1))=(decide (p[i]≥128)&&decide (p[i]≤254)&&S2 (p.drop (i+1))):=List.all_cons ..
   rw [Ax (dT (by omega)),hg,hd,e]
   cases c with
   | false =>
    rw [gdF (by rfl),sb,gdF (by rfl),sb,ckb (by omega),show ((i:Int)+1)=((i+1:Nat):Int) by omega,ih (i+1) _ (by omega) (by omega)]
    rfl
   | true =>
    rw [gdT (by rfl),sb]
    cases decide (p[i]≥128) with
    | false =>
     rw [gdF (by rfl),sb,ckb (by omega),show ((i:Int)+1)=((i+1:Nat):Int) by omega,ih (i+1) _ (by omega) (by omega)]
     rfl
    | true =>
     rw [gdT (by rfl),sb,ckb (by omega),show ((i:Int)+1)=((i+1:Nat):Int) by omega,ih (i+1) _ (by omega) (by omega)]
     cases decide (p[i]≤254)<;>rfl
  ·rw [Aw (dF (by omega)),List.drop_of_length_le (by omega)]
   simp [S2]
theorem A0a {F:Nat} (hF:1000≤F) {p:List Int} (hp:By p) (hlF:p.length<F) (hl:p.length≤1000000000):Mj F p=some (Tp p):=by
 rw [Mj,show (0:Int)=((0:Nat):Int) from rfl,Wx hp hl F 0 true (by omega) (by omega),Jo,List.drop_zero,Bool.true_and]
 unfold Tp
 obtain ⟨x,r,h1,h2,h3,h4⟩:=Db (F:=F) hF (r:=⟨p,false⟩) hp
 rw [h1,sb]
 cases S2 p with
 | true=>rfl
 | false =>
  rcases h4 with ⟨_,e2,e3⟩|⟨e1,e2⟩
  ·have e2:rN p=some (x,r.b):=e2
   obtain ⟨a,b,c⟩:=Ft hp e2
   rw [e2]
   show (bif (!r.bad) then ((ck (x+5)).bind fun x29=>some (decide (((r.b.length:Nat):Int)<x29))) else _)=_
   rw [e3,Ax (by rfl),ckb (by omega)]
   rfl
  ·rcases e2 with e2|e2
   ·cases e2
   ·have e2:rN p=none:=e2
    rw [e2]
    show (bif (!r.bad) then _ else _)=_
    rw [e1,Aw (by rfl)]
    rfl
end Go.Proofs.YtifbomimeodibaaGreat
namespace Go.Proofs.YtifbomimeodibaaGreat
open Go Go.RowKit Go.Eng
set_option maxRecDepth 10000
set_option linter.unusedVariables false
set_option linter.unusedSimpArgs false
noncomputable def cap (x:List volume_Item×Int×Int):List volume_Item×Int×Int:=if x.1.length>1000 then ([],0,9) else x
theorem A1w (x:List volume_Item×Int×Int):E8 x.1 x.2.1 x.2.2=some (cap x):=by
 unfold E8 cap
 by_cases h:x.1.length>1000
 ·rw [Ax (dT (by omega)),if_pos h]
 ·rw [Aw (dF (by omega)),if_neg h]
theorem Zo {F:Nat} (hF:200000≤F) {ps:List (List Int)} (hz:∀q∈ps,Nz q) (hl:4+(B3 ps).length<F) (hl2:4+(B3 ps).length≤16777216) (hn:ps.length≤1000000) :
  E0 F (RVF1++B3 ps)=some (cap (rdF (4+(B3 ps).length:Nat) 4 ps)):=by
 have hlen:(RVF1++B3 ps).length=4+(B3 ps).length:=by rw [List.length_append];rfl
 have hj:=M7 ps
 rw [E0,Aw (dF (by omega)),show ([82,86,70,49]:List Int)=RVF1 from rfl,Y6 F _ (Z6 hz),sb]
 obtain ⟨tg,h1,h2⟩:=Y9 hF (RVF1++B3 ps) (by omega) (by omega) ((RVF1++B3 ps).length:Nat) ps 4 [] (by decide) (by omega) hz (by simp;omega)
 have hfin:((Fa F (RVF1++B3 ps) (Gy F (RVF1++B3 ps)) (([]:List volume_Item),(((RVF1++B3 ps).length:Nat):Int),0,0)).bind fun r410 =>
   bif r410.2 then (E8 r410.1.1 r410.1.2.1 r410.1.2.2.1) else (bif (r410.1.2.2.2==3) then (E8 r410.1.1 r410.1.2.1 r410.1.2.2.1) else (none)))=some (cap (rdF (4+(B3 ps).length:Nat) 4 ps)):=by
  rw [Uf F _ RVF1_nz hz (by omega) (by omega),show ((RVF1.length:Nat):Int)=4 from rfl,h1,sb]
  have hk:E8 ([]++(rdF ((RVF1++B3 ps).length:Nat) 4 ps).1) (rdF ((RVF1++B3 ps).length:Nat) 4 ps).2.1 (rdF ((RVF1++B3 ps).length:Nat) 4 ps).2.2=some (cap (rdF (4+(B3 ps).length:Nat) 4 ps)):=by
   rw [hlen,List.nil_append];exact A1w _
  rcases h2 with rfl|rfl
  ·exact hk
  ·exact hk
 cases ps with
 | nil =>
  rw [gdF (by rfl),sb,Aw (by rfl)]
  exact hfin
 | cons p ps =>
  have hg:(Cj (RVF1++B3 (p::ps)) 4)=some 0:=by rw [C7];rfl
  rw [gdT (by rw [dT (show (((RVF1++B3 (p::ps)).length:Nat):Int)>4 by rw [hlen,C7];simp;omega)];rfl),hg,sb,Aw (by cases decide ((((RVF1++B3 (p::ps)).length:Nat):Int)>4)<;>rfl)]
  exact hfin
theorem A0k {b p:List Int} {ps:List (List Int)} (hb:b=p++B3 ps) (hp:Nz p) (h4:4≤b.length) (ht:b.take 4=RVF1) (h0:∀x,b[4]? = some x→x=0):p=RVF1:=by
 have hnz:∀i (x:Int),i<4→b[i]? = some x→x≠0:=by
  intro i x hi hx e
  have:(b.take 4)[i]? = some x:=by rw [List.getElem?_take,if_pos hi];exact hx
  rw [ht] at this
  have hm:=RVF1_nz x (List.mem_of_getElem? this)
  omega
 have hlen:p.length=4:=by
  rcases Nat.lt_trichotomy p.length 4 with h|h|h
  ·exfalso
   cases ps with
   | nil=>rw [hb] at h4;simp [B3] at h4;omega
   | cons q qs =>
    refine hnz p.length 0 h ?_ rfl
    rw [hb,C7,List.getElem?_append_right (Nat.le_refl _),Nat.sub_self];rfl
  ·exact h
  ·exfalso
   have hx:=hp p[4] (List.getElem_mem h)
   have:=h0 p[4] (by rw [hb,List.getElem?_append_left h,List.getElem?_eq_getElem h])
   omega
 rw [←ht,hb,←hlen,List.take_left]
theorem A0m (F:Nat) (b:List Int) (hb:By b):F8 F b RVF1=some (decide (4≤b.length∧b.take 4=RVF1)):=by
 unfold F8
 by_cases h:4≤b.length
 ·rw [Ax (dT (by show ((b.length:Nat):Int)≥((4:Nat):Int);omega)),N6 4 rfl (by rfl) h,bEq (fun x hx=>hb x (List.mem_of_mem_take hx)) RVF1_nz.by]
  congr 1
  rw [decide_eq_decide]
  exact ⟨fun e=>⟨h,e⟩,fun e=>e.2⟩
 ·rw [Aw (dF (by show ¬((b.length:Nat):Int)≥((4:Nat):Int);omega)),dF (fun e=>h e.1)]
theorem Zn {F:Nat} {b p:List Int} {ps:List (List Int)} (hB:By b) (hb:b=p++B3 ps) (hp:Nz p) (hl:b.length≤16777216) (hne:p≠RVF1):E0 F b=some ([],0,7):=by
 rw [E0,Aw (dF (by omega)),show ([82,86,70,49]:List Int)=RVF1 from rfl,A0m F b hB,sb]
 by_cases h:4≤b.length∧b.take 4=RVF1
 ·rw [dT h]
  by_cases h5:4<b.length
  ·rw [dT (show ((b.length:Nat):Int)>4 by omega),gdT (by rfl),Jk 4 b[4] (by rfl) (List.getElem?_eq_getElem h5)]
   by_cases h6:b[4]=0
   ·exact absurd (A0k hb hp h.1 h.2 (fun x hx=>by rw [List.getElem?_eq_getElem h5] at hx;cases hx;exact h6)) hne
   ·rw [Ax]
    show (bif false then true else (bif true then (b[4] != 0) else false))=true
    simp [h6]
  ·exact absurd (A0k hb hp h.1 h.2 (fun x hx=>by rw [List.getElem?_eq_none (by omega)] at hx;cases hx)) hne
 ·rw [dF h,gdF (by cases decide (((b.length:Nat):Int)>4)<;>rfl),sb,Ax (by rfl)]
theorem Zv {F:Nat} (hF:200000≤F) {p:List Int} {ps:List (List Int)} (hp:Nz p) (hz:∀q∈ps,Nz q) (hl:(p++B3 ps).length<F) (hl2:(p++B3 ps).length≤16777216) (hn:ps.length≤1000000):G0 F (p++B3 ps)=some (cap (svI ps,svL ps,0)):=by
 have hq:∀q∈ps,q.length≤(B3 ps).length:=by
  intro q hq
  clear hl hl2 hn hz
  induction ps with
  | nil=>cases hq
  | cons u us ih =>
   rw [C7]
   rcases List.mem_cons.1 hq with rfl|hq
   ·simp;omega
   ·have:=ih hq;simp;omega
 rw [List.length_append] at hl hl2
 have hj:=M7 ps
 have hf:=Ya hF ps p.length [] 0 (fun q h=>⟨hz q h,by have:=hq q h;omega,by have:=hq q h;omega⟩) (by simp;omega) (by omega)
 rw [G0,Aw (dF (by rw [List.length_append];omega)),Uf F _ hp hz (by rw [List.length_append];omega) (by omega),hf,sb,Ax rfl]
 unfold cap
 by_cases h:(svI ps).length>1000
 ·rw [Ax (dT (by simp;omega)),if_pos h]
 ·rw [Aw (dF (by simp;omega)),if_neg h];simp
theorem W9 (b pre p rest:List Int) (hb:b=pre++(p++rest)) (hp:Nz p) (hr:rest=[]∨∃l,rest=0::l) (h9:b.length≤1000000000):∀(m i:Nat),i≤p.length→p.length-i<m→Jd b m ((pre.length+i:Nat):Int)=some ((pre.length+p.length:Nat):Int):=by
 have hlen:b.length=pre.length+(p.length+rest.length):=by rw [hb];simp
 intro m
 induction m with
 | zero=>intro i _ h;omega
 | succ m ih =>
  intro i hi h
  rw [Jd,Lw]
  by_cases he:i<p.length
  ·have hg:b[pre.length+i]? = some p[i]:=by
    rw [hb,List.getElem?_append_right (by omega),show pre.length+i-pre.length=i by omega,List.getElem?_append_left he,List.getElem?_eq_getElem he]
   have hx:=hp p[i] (List.getElem_mem he)
   rw [dT (show ((pre.length+i:Nat):Int)<((b.length:Nat):Int) by omega),gdT (by rfl),Jk (pre.length+i) p[i] rfl hg,Ax (by show (bif true then (p[i] != 0) else false)=true;simp;omega),ckb (by omega),show (((pre.length+i:Nat):Int)+1)=((pre.length+(i+1):Nat):Int) by omega]
   exact ih (i+1) (by omega) (by omega)
  ·obtain rfl:i=p.length:=by omega
   rcases hr with hr|⟨l,hr⟩
   ·have:rest.length=0:=by rw [hr];rfl
    rw [dF (by omega),gdF (by rfl),sb,Aw (by rfl)];rfl
   ·have hg:b[pre.length+p.length]? = some 0:=by
     rw [hb,hr,List.getElem?_append_right (by omega),show pre.length+p.length-pre.length=p.length by omega,List.getElem?_append_right (Nat.le_refl _),Nat.sub_self];rfl
    have:rest.length=l.length+1:=by rw [hr];rfl
    rw [dT (by omega),gdT (by rfl),Jk (pre.length+p.length) 0 rfl hg,Aw (by rfl)];rfl
theorem Pq (ps:List (List Int)):B3 ps=[]∨∃l,B3 ps=0::l:=by
 cases ps with
 | nil=>exact .inl rfl
 | cons p ps=>exact .inr ⟨_,C7 p ps⟩
theorem Wv {F:Nat} (hF:200000≤F) (b:List Int) (hbF:b.length<F) (h9:b.length≤1000000000):∀(ps:List (List Int)) (pre:List Int) (m:Nat) (acc:List ref12_Item),b=pre++B3 ps→(∀q∈ps,Nz q)→ps.length<m→acc.length+ps.length≤1000000000 →
  Ew F b m acc pre.length 0=Gh (acc++(rdF b.length pre.length ps).1.map toR) (rdF b.length pre.length ps).2.1 (rdF b.length pre.length ps).2.2:=by
 intro ps
 induction ps with
 | nil =>
  intro pre m acc hb hz hm ha
  obtain ⟨m,rfl⟩:∃k,m=k+1:=⟨m-1,by omega⟩
  have hlen:b.length=pre.length:=by rw [hb];simp [B3]
  rw [Ew,Hl,dF (by omega),Aw (by rfl),rdF,hlen]
  simp
 | cons p ps ih =>
  intro pre m acc hb hz hm ha
  obtain ⟨m,rfl⟩:∃k,m=k+1:=⟨m-1,by omega⟩
  simp only [List.length_cons] at hm ha
  have hp:=hz p (by simp)
  have hb2:b=(pre++[0])++(p++B3 ps):=by rw [hb,C7];simp
  have hlen:b.length=pre.length+1+(p.length+(B3 ps).length):=by rw [hb2];simp;omega
  have hend:=W9 b (pre++[0]) p (B3 ps) hb2 hp (Pq ps) h9 F 0 (by omega) (by omega)
  have hpl:(pre++[0]).length=pre.length+1:=by simp
  rw [hpl,Nat.add_zero] at hend
  have hcut:((b.drop (pre.length+1)).take (pre.length+1+p.length-(pre.length+1)))=p:=by
   rw [hb2,←hpl,List.drop_left,show (pre++[(0:Int)]).length+p.length-(pre++[(0:Int)]).length=p.length by omega,List.take_left]
  rw [Ew,Hl,dT (show ((pre.length:Nat):Int)<((b.length:Nat):Int) by omega),Ax (by rfl),ckb (by omega),Jy,show ((pre.length:Nat):Int)+1=((pre.length+1:Nat):Int) by omega,hend,sb,ckb (by omega),W8 (pre.length+1) (pre.length+1+p.length) rfl rfl (by omega),hcut,Uj hF hp.by (by omega) (by omega),sb,rdF]
  by_cases h:(unS p).2=0
  ·have htk:tkS p=(toR (Gs (unS p).1),0):=by unfold tkS;rw [if_pos h]
   rw [htk,if_pos h,Aw (by rfl),Fu,Ax (by rfl),Pl (by simp;omega) (by decide)]
   have:=ih (pre++0::p) m (acc++[toR (Gs (unS p).1)]) (by rw [hb,C7];simp) (fun q hq=>hz q (by simp [hq])) (by omega) (by simp;omega)
   have hl2:(pre++0::p).length=pre.length+1+p.length:=by simp;omega
   rw [hl2] at this
   refine Eq.trans this ?_
   rw [show ((pre.length+1+p.length:Nat):Int)=(pre.length:Int)+1+p.length by omega]
   simp
  ·have htk:tkS p=(zR,(unS p).2):=by unfold tkS;rw [if_neg h]
   rw [htk,if_neg h]
   have hstop:∀e:Int,e≠0→Fu acc (pre.length:Nat) (Ew F b m) ((pre.length+1+p.length:Nat):Int) (zR,(unS p).2) e=Gh acc (pre.length:Nat) e:=by
    intro e he
    obtain ⟨m,rfl⟩:∃k,m=k+1:=⟨m-1,by omega⟩
    rw [Fu,Aw (by simp [he]),Ew,Hl,dT (show ((pre.length:Nat):Int)<((b.length:Nat):Int) by omega),Aw (by show (bif true then (e==0) else false)=false;simp [he])]
   have hlast:(((pre.length+1+p.length:Nat):Int)==((b.length:Nat):Int))=decide (ps=[]):=by
    cases ps with
    | nil=>simp [B3] at hlen;simp;omega
    | cons q qs=>rw [C7] at hlen;simp at hlen;simp;omega
   have hne:((unS p).2 != 0)=true:=by simp [h]
   rw [hlast]
   show (bif (bif ((unS p).2 != 0) then decide (ps=[]) else false) then _ else _)=_
   rw [hne]
   by_cases hps:ps=[]
   ·rw [dT hps,Ax (by rfl),ckb (by omega),W8 (pre.length+1) (pre.length+1+p.length) rfl rfl (by omega),hcut,A0a (by omega) hp.by (by omega) (by omega),sb]
    cases ht:Tp p with
    | true=>rw [Ax rfl,hstop 16 (by decide),if_pos ⟨hps,rfl⟩];simp
    | false=>rw [Aw rfl,hstop _ h,if_neg (by simp)];simp
   ·rw [dF hps,Aw (by rfl),hstop _ h,if_neg (fun e=>hps e.1)];simp
theorem Ww {F:Nat} (hF:200000≤F) (b:List Int) (hbF:b.length<F) (h9:b.length≤1000000000):∀(ps:List (List Int)) (pre:List Int) (m:Nat) (acc:List ref12_Item) (n:Int),b=pre++B3 ps→(∀q∈ps,Nz q)→ps.length<m→acc.length+ps.length≤1000000000→0≤n∧n+ps.length≤1000000000 →
  Ep F b m acc n pre.length=Gx (acc++(svI ps).map toR) (n+svL ps):=by
 intro ps
 induction ps with
 | nil =>
  intro pre m acc n hb hz hm ha hn
  obtain ⟨m,rfl⟩:∃k,m=k+1:=⟨m-1,by omega⟩
  have hlen:b.length=pre.length:=by rw [hb];simp [B3]
  rw [Ep,Gw,Aw (dF (by omega)),svI,svL]
  simp
 | cons p ps ih =>
  intro pre m acc n hb hz hm ha hn
  obtain ⟨m,rfl⟩:∃k,m=k+1:=⟨m-1,by omega⟩
  simp only [List.length_cons] at hm ha hn
  have hp:=hz p (by simp)
  have hb2:b=(pre++[0])++(p++B3 ps):=by rw [hb,C7];simp
  have hlen:b.length=pre.length+1+(p.length+(B3 ps).length):=by rw [hb2];simp;omega
  have hend:=W9 b (pre++[0]) p (B3 ps) hb2 hp (Pq ps) h9 F 0 (by omega) (by omega)
  have hpl:(pre++[0]).length=pre.length+1:=by simp
  rw [hpl,Nat.add_zero] at hend
  have hcut:((b.drop (pre.length+1)).take (pre.length+1+p.length-(pre.length+1)))=p:=by
   rw [hb2,←hpl,List.drop_left,show (pre++[(0:Int)]).length+p.length-(pre++[(0:Int)]).length=p.length by omega,List.take_left]
  have hl2:(pre++0::p).length=pre.length+1+p.length:=by simp;omega
  rw [Ep,Gw,Ax (dT (by omega)),ckb (by omega),Jy,show ((pre.length:Nat):Int)+1=((pre.length+1:Nat):Int) by omega,hend,sb,ckb (by omega),W8 (pre.length+1) (pre.length+1+p.length) rfl rfl (by omega),hcut,Uj hF hp.by (by omega) (by omega),sb,svI,svL]
  by_cases h:(unS p).2=0
  ·have htk:tkS p=(toR (Gs (unS p).1),0):=by unfold tkS;rw [if_pos h]
   rw [htk,if_pos h,if_pos h,Ax (by rfl),Pl (by simp;omega) (by decide),Fx]
   have:=ih (pre++0::p) m (acc++[toR (Gs (unS p).1)]) n (by rw [hb,C7];simp) (fun q hq=>hz q (by simp [hq])) (by omega) (by simp;omega) (by omega)
   rw [hl2] at this
   refine Eq.trans this ?_
   simp
  ·have htk:tkS p=(zR,(unS p).2):=by unfold tkS;rw [if_neg h]
   rw [htk,if_neg h,if_neg h,Aw (by simp [h]),ckb (by omega),Fx]
   have:=ih (pre++0::p) m acc (n+1) (by rw [hb,C7];simp) (fun q hq=>hz q (by simp [hq])) (by omega) (by omega) (by omega)
   rw [hl2] at this
   refine Eq.trans this ?_
   rw [show n+1+svL ps=n+(svL ps+1) by omega]
def Wg (x:List volume_Item×Int×Int):List ref12_Item×Int×Int:=(x.1.map toR,x.2)
theorem A3p (x:List volume_Item×Int×Int):Gh (x.1.map toR) x.2.1 x.2.2=some (Wg (cap x)):=by
 unfold Gh cap Wg
 by_cases h:x.1.length>1000
 ·rw [Ax (dT (by simp;omega)),if_pos h];rfl
 ·rw [Aw (dF (by simp;omega)),if_neg h]
theorem A05 {F:Nat} (hF:200000≤F) {ps:List (List Int)} (hz:∀q∈ps,Nz q) (hl:4+(B3 ps).length<F) (hl2:4+(B3 ps).length≤16777216):J6 F (RVF1++B3 ps)=some (Wg (cap (rdF (4+(B3 ps).length:Nat) 4 ps))):=by
 have hlen:(RVF1++B3 ps).length=4+(B3 ps).length:=by rw [List.length_append];rfl
 have hj:=M7 ps
 have hloop:=Wv hF (RVF1++B3 ps) (by omega) (by omega) ps RVF1 F [] rfl hz (by omega) (by simp;omega)
 rw [hlen] at hloop
 have e4:((RVF1.length:Nat):Int)=4:=rfl
 rw [e4,List.nil_append,A3p] at hloop
 rw [J6,Aw (dF (by omega)),Aw (dF (by omega)),N6 4 rfl (by rfl) (by omega)]
 have ht:(RVF1++B3 ps).take 4=RVF1:=List.take_left' rfl
 have hq:sEq (bst RVF1) (⟨#[82,86,70,49]⟩:ByteArray)=true:=by decide
 rw [ht,hq]
 cases ps with
 | nil=>rw [gdF (by rfl),sb,Aw (by rfl)];exact hloop
 | cons p ps =>
  have hg:(Cj (RVF1++B3 (p::ps)) 4)=some 0:=by rw [C7];rfl
  rw [gdT (by rw [dT (show (((RVF1++B3 (p::ps)).length:Nat):Int)>4 by rw [hlen,C7];simp;omega)];rfl),hg,sb,Aw (by cases decide ((((RVF1++B3 (p::ps)).length:Nat):Int)>4)<;>rfl)]
  exact hloop
theorem Yg {F:Nat} {b p:List Int} {ps:List (List Int)} (hB:By b) (hb:b=p++B3 ps) (hp:Nz p) (hl:b.length≤16777216) (hne:p≠RVF1):J6 F b=some ([],0,7):=by
 rw [J6,Aw (dF (by omega))]
 by_cases h4:4≤b.length
 ·rw [Aw (dF (by omega)),N6 4 rfl (by rfl) h4]
  have hq:sEq (bst (b.take 4)) (⟨#[82,86,70,49]⟩:ByteArray)=decide (b.take 4=RVF1):=by
   have:=bEq (a:=b.take 4) (fun x hx=>hB x (List.mem_of_mem_take hx)) RVF1_nz.by
   exact this
  rw [hq]
  by_cases ht:b.take 4=RVF1
  ·rw [dT ht]
   by_cases h5:4<b.length
   ·rw [dT (show ((b.length:Nat):Int)>4 by omega),gdT (by rfl),Jk 4 b[4] (by rfl) (List.getElem?_eq_getElem h5)]
    by_cases h6:b[4]=0
    ·exact absurd (A0k hb hp h4 ht (fun x hx=>by rw [List.getElem?_eq_getElem h5] at hx;cases hx;exact h6)) hne
    ·rw [Ax]
     show (bif false then true else (bif true then (b[4] != 0) else false))=true
     simp [h6]
   ·exact absurd (A0k hb hp h4 ht (fun x hx=>by rw [List.getElem?_eq_none (by omega)] at hx;cases hx)) hne
  ·rw [dF ht,gdF (by cases decide (((b.length:Nat):Int)>4)<;>rfl),sb,Ax (by rfl)]
 ·rw [Ax (dT (by omega)),gdF (by cases decide (((b.length:Nat):Int)>4)<;>rfl),sb]
theorem A08 {F:Nat} (hF:200000≤F) {p:List Int} {ps:List (List Int)} (hp:Nz p) (hz:∀q∈ps,Nz q) (hl:(p++B3 ps).length<F) (hl2:(p++B3 ps).length≤16777216):Hm F (p++B3 ps)=some (Wg (cap (svI ps,svL ps,0))):=by
 have hj:=M7 ps
 have hlen:(p++B3 ps).length=p.length+(B3 ps).length:=by simp
 have hend:=W9 (p++B3 ps) [] p (B3 ps) rfl hp (Pq ps) (by omega) F 0 (by omega) (by omega)
 have hloop:=Ww hF (p++B3 ps) (by omega) (by omega) ps p F [] 0 rfl hz (by omega) (by simp;omega) (by omega)
 rw [Hm,Aw (dF (by omega)),Jy]
 have e0:((([]:List Int).length+0:Nat):Int)=0:=rfl
 have e1:((([]:List Int).length+p.length:Nat):Int)=(p.length:Nat):=by simp
 rw [e0,e1] at hend
 rw [hend,sb,hloop,List.nil_append,Int.zero_add,Gx]
 unfold cap Wg
 by_cases h:(svI ps).length>1000
 ·rw [Ax (dT (by simp;omega)),if_pos h];rfl
 ·rw [Aw (dF (by simp;omega)),if_neg h]
theorem Y0 (l:List volume_Item) (h9:l.length≤1000000):∀(m i:Nat) (acc:List volume_Item),l.length-i<m→i≤l.length→acc.length=i→Hh (l.map toR) m acc i=some (acc++l.drop i):=by
 intro m
 induction m with
 | zero=>intro i acc h;omega
 | succ m ih =>
  intro i acc h hi ha
  rw [Hh,L1,List.length_map]
  by_cases hb:i<l.length
  ·rw [Ax (dT (by omega)),Jk i (toR l[i]) rfl (by rw [List.getElem?_map,List.getElem?_eq_getElem hb];rfl),Pl (by simp;omega) (by decide),ckb (by omega),show ((i:Int)+1)=((i+1:Nat):Int) by omega]
   have:=ih (i+1) (acc++[l[i]]) (by omega) (by omega) (by simp;omega)
   refine Eq.trans this ?_
   rw [List.drop_eq_getElem_cons hb,List.append_assoc];rfl
  ·rw [Aw (dF (by omega)),L2,List.drop_of_length_le (by omega),List.append_nil]
theorem Xc {F:Nat} {l:List volume_Item} (hF:l.length<F) (h9:l.length≤1000000):J1 F (l.map toR)=some l:=by
 rw [J1,show (0:Int)=((0:Nat):Int) from rfl,Y0 l h9 F 0 [] (by omega) (by omega) rfl];rfl
theorem A0z (total:Int):∀(ps:List (List Int)) (k:Int),∀x∈(rdF total k ps).1,Tv x:=by
 intro ps
 induction ps with
 | nil=>intro k x hx;rw [rdF] at hx;cases hx
 | cons p ps ih =>
  intro k x hx
  rw [rdF] at hx
  split at hx
  ·rename_i h
   rcases List.mem_cons.1 hx with rfl|hx
   ·exact (V4 h).cmp
   ·exact ih _ x hx
  ·cases hx
theorem A1b:∀(ps:List (List Int)),∀x∈svI ps,Tv x:=by
 intro ps
 induction ps with
 | nil=>intro x hx;cases hx
 | cons p ps ih =>
  intro x hx
  rw [svI] at hx
  split at hx
  ·rename_i h
   rcases List.mem_cons.1 hx with rfl|hx
   ·exact (V4 h).cmp
   ·exact ih x hx
  ·exact ih x hx
theorem X2 {x:List volume_Item×Int×Int} (h:∀y∈x.1,Tv y):∀y∈(cap x).1,Tv y:=by
 unfold cap
 split
 ·intro y hy;cases hy
 ·exact h
theorem X3 (x:List volume_Item×Int×Int):(cap x).1.length≤1000:=by
 unfold cap
 split
 ·simp
 ·omega
theorem Wm {b:List Int} (hB:By b) (hl:b.length≤4000):∃x,E0 FV b=some x∧J6 FV b=some (Wg x)∧x.1.length≤1000∧∀y∈x.1,Tv y:=by
 obtain ⟨p,ps,hb,hp,hz⟩:=Zx b hB
 have hj:=M7 ps
 have hlen:b.length=p.length+(B3 ps).length:=by rw [hb];simp
 by_cases h:p=RVF1
 ·subst h
  have e4:RVF1.length=4:=rfl
  subst hb
  exact ⟨_,Zo (by decide) hz (by have:FV=200000:=rfl;omega) (by omega) (by omega),A05 (by decide) hz (by have:FV=200000:=rfl;omega) (by omega),X3 _,X2 (A0z _ _ _)⟩
 ·exact ⟨([],0,7),Zn hB hb hp (by omega) h,Yg hB hb hp (by omega) h,by simp,fun y hy=>by cases hy⟩
theorem Wq {b:List Int} (hB:By b) (hl:b.length≤4000):∃x,G0 FV b=some x∧Hm FV b=some (Wg x)∧x.1.length≤1000∧∀y∈x.1,Tv y:=by
 obtain ⟨p,ps,hb,hp,hz⟩:=Zx b hB
 have hj:=M7 ps
 have hlen:b.length=p.length+(B3 ps).length:=by rw [hb];simp
 subst hb
 have:FV=200000:=rfl
 exact ⟨_,Zv (by decide) hp hz (by omega) (by omega) (by omega),A08 (by decide) hp hz (by omega) (by omega),X3 _,X2 (A1b _)⟩
theorem T0 (b:List Int) (hb:∀x∈b,0≤x∧x≤255):G8 FV b=some true:=by
 have hB:By b:=fun x hx=>by have:=hb x hx;omega
 have hFV:FV=200000:=rfl
 rw [G8]
 by_cases h:((b.length:Nat):Int)>3000
 ·rw [Ax (dT h),W4];rfl
 ·rw [Aw (dF h)]
  obtain ⟨x,h1,h2,h3,h4⟩:=Wm hB (by omega)
  obtain ⟨y,k1,k2,k3,k4⟩:=Wq hB (by omega)
  rw [h1,sb,h2,sb]
  show ((J1 FV (x.1.map toR)).bind _)=_
  rw [Xc (by omega) (by omega),sb,Z5 (by decide) x.1 x.1 (by omega) (by omega) h4,sb,dT rfl]
  show (bif (bif (bif (!true) then true else (x.2.1 != x.2.1)) then true else (x.2.2 != x.2.2)) then _ else _)=_
  rw [Ri,Ri,Aw (by rfl),k1,sb,k2,sb]
  show ((J1 FV (y.1.map toR)).bind _)=_
  rw [Xc (by omega) (by omega),sb,Z5 (by decide) y.1 y.1 (by omega) (by omega) k4,sb,dT rfl]
  show ((gd (((bif (bif true then (y.2.1==y.2.1) else false) then (y.2.2==y.2.2) else false)==true&&true)) (Jx FV) default).bind fun y63=>some (bif (bif (bif true then (y.2.1==y.2.1) else false) then (y.2.2==y.2.2) else false) then y63 else false))=_
  rw [show (y.2.1==y.2.1)=true by simp,show (y.2.2==y.2.2)=true by simp,gdT (by rfl),W4,sb]
  rfl
end Go.Proofs.YtifbomimeodibaaGreat
