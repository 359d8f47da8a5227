import Derived.Test.YtfkeddejdahnhaaGreatDoorQ3XB
set_option linter.unusedVariables false
set_option linter.unusedSimpArgs false
set_option linter.unusedSectionVars false
namespace Go.Proofs.YtfkeddejdahnhaaGreatDoor
open Go Go.RowKit Go.Eng
set_option maxRecDepth 10000
theorem sbd {α β:Type} {x:α} {f:α->Option β}:(some x).bind f=f x:=rfl
theorem dT {p:Prop} [Decidable p] (h:p):decide p=true:=decide_eq_true h
theorem dF {p:Prop} [Decidable p] (h:¬p):decide p=false:=decide_eq_false h
theorem gtb {α β:Type} {l:List α} {i:Int} {f:α->Option β} (n:Nat) (x:α) (hi:i=(n:Int)) (h:l[n]? = some x):(Av l i).bind f=f x:=by
 subst hi;unfold Av;rw [if_pos om,show ((n:Int)).toNat=n by omega,h];rfl
theorem eqT {a b:Int} (h:a=b):(a==b)=true:=by subst h;exact beq_self_eq_true _
theorem eqF {a b:Int} (h:a≠b):(a==b)=false:=beq_eq_false_iff_ne.2 h
theorem neF {a b:Int} (h:a=b):(a != b)=false:=by subst h;simp
theorem neT {a b:Int} (h:a≠b):(a != b)=true:=by simp [h]
def tb (l:List UInt8):ByteArray:=⟨l.toArray⟩
theorem H4 (a:List UInt8):(tb a).size=a.length:=by simp [tb,ByteArray.size]
theorem A1x (a b:List UInt8):sEq (tb a) (tb b)=decide (a=b):=by
 unfold sEq;have e:((tb a).data.toList=(tb b).data.toList)=(a=b):=by simp [tb]
 by_cases h:a=b
 ·rw [dT h,dT (by rw [e];exact h)]
 ·rw [dF h,dF (by rw [e];exact h)]
def wdS (op:Int):List UInt8:=((Cf.1[op.toNat]?).getD ⟨#[]⟩).data.toList
theorem wdb {β:Type} {op:Int} {f:ByteArray->Option β} (h:0<=op/\op<=27):(A4u Cf op).bind f=f (tb (wdS op)):=by
 unfold A4u;have b:op.toNat<Cf.1.length:=by rw [Cf.2];omega
 rw [gtb op.toNat (Cf.1[op.toNat]) om (List.getElem?_eq_getElem b)];unfold wdS;rw [List.getElem?_eq_getElem b]
 congr 1
theorem B69:∀(k u:Nat),u<10 ^ (k+1)->Lib.nDigits u<=k+1
 | 0,u,h=>by rw [Lib.nDigits_small (by simpa using h)];omega
 | k+1,u,h=>by
  by_cases b:u<10
  ·rw [Lib.nDigits_small b];omega
  ·rw [Lib.nDigits_big b];have:=B69 k (u/10) (by rw [Nat.pow_succ] at h;omega);omega
theorem A1f {v:Int} (h:0<=v/\v<=1000000000):(Lib.itoa v).length<=10:=by
 obtain ⟨u,rfl⟩:∃u:Nat,v=u:=⟨v.toNat,om⟩;rw [Lib.itoa_nonneg,Lib.decDigits_length];exact B69 9 u om
def A0j (c:UInt8):Bool:=decide (48<=c.toNat)&&decide (c.toNat<=57)
theorem A64:∀(n:Nat),∀c∈Lib.decDigits n,A0j c=true:=by
 intro n
 induction n using Nat.strongRecOn with
 | _ n ih =>
  have one:∀i:Fin 10,A0j (UInt8.ofNat (48+i.val))=true:=by decide
  intro c b;rw [Lib.decDigits] at b
  split at b
  ·rename_i h
   rw [List.mem_singleton] at b;subst b;exact one ⟨n,h⟩
  ·rcases List.mem_append.1 b with b|b
   ·exact ih (n/10) om c b
   ·rw [List.mem_singleton] at b;subst b;exact one ⟨n%10,Nat.mod_lt _ om⟩
def B6i (l:List UInt8):Nat:=l.foldl (λa c=>10*a+(c.toNat-48)) 0
theorem B3z (n:Nat):B6i (Lib.decDigits n)=n:=by
 induction n using Nat.strongRecOn with
 | _ n ih =>
  have one:∀i:Fin 10,(UInt8.ofNat (48+i.val)).toNat-48=i.val:=by decide
  rw [Lib.decDigits]
  split
  ·rename_i h
   show 10*0+((UInt8.ofNat (48+n)).toNat-48)=n;rw [one ⟨n,h⟩];show 10*0+n=n;omega
  ·have e:=ih (n/10) om;unfold B6i at e ⊢;rw [List.foldl_append,e];show 10*(n/10)+((UInt8.ofNat (48+n%10)).toNat-48)=n;rw [one ⟨n%10,Nat.mod_lt _ om⟩];show 10*(n/10)+n%10=n;omega
theorem T6 {v:Int} (h:0<=v):∃c r,Lib.itoa v=c::r/\A0j c=true:=by
 obtain ⟨a,rfl⟩:∃a:Nat,v=a:=⟨v.toNat,om⟩;rw [Lib.itoa_nonneg]
 cases hd:Lib.decDigits a with
 | nil =>
  have:=Lib.decDigits_length a;rw [hd] at this;have:=Lib.nDigits_pos a;simp at *;omega
 | cons c r=>exact ⟨c,r,rfl,A64 a c (by rw [hd];simp)⟩
theorem V2 (n:zC):zC.mk n.Op n.Value_ n.Rays n.Gates n.Args=n:=by cases n;rfl
theorem exk {ε α β:Type} {x:α} {f:ε->β} {g:α->β}:exc (.ok x) f g=g x:=rfl
def Str (B:Nat):List ByteArray->zB->Prop
 | [],r=>r.token=tb []/\(r.s.size:Int)<=r.from_
 | t::ts,r=>r.token=t/\r.from_<(r.s.size:Int)/\∃r',(∀G,B<=G->Ao G r=some r')/\Str B ts r'
theorem B1j {L:List ByteArray} {p:ByteArray} (d:L.length<=100) (h:∀x∈L,sEq p x=false):∀(n j:Nat),L.length+1<=n+j->j<=L.length->Cr L p n j=some (-1):=by
 intro n
 induction n with
 | zero=>intro j b c;omega
 | succ n ih =>
  intro j b c;show D9 L p _ j=_;unfold D9
  by_cases hj:j<L.length
  ·rw [B8 (dT om),gtb j _ rfl (List.getElem?_eq_getElem hj),Au (h _ (List.getElem_mem hj)),ckb om];exact ih (j+1) om om
  ·rw [Au (dF om)];rfl
theorem A9v:∀x∈Cf.1,∀c∈x.data.toList.head?,A0j c=false:=by decide
theorem B11 {l:List UInt8} (g:∃c r,l=c::r/\A0j c=true) {F:Nat} (m:30<=F) {a b:Int} (i:0<=a/\a<=b+1/\b<=27):Hr F (tb l) a b=some 0:=by
 obtain ⟨c,r,rfl,j⟩:=g;unfold Hr;have d:Cf.1.length=28:=Cf.2;rw [ckb om,show Sx Cf.1 a (b+1)=some ((Cf.1.drop a.toNat).take ((b+1).toNat-a.toNat)) by unfold Sx;rw [if_pos om],sbd];unfold G5;rw [show Cr ((Cf.1.drop a.toNat).take ((b+1).toNat-a.toNat)) (tb (c::r)) F 0=some (-1) from B1j (by simp [d];omega) (by
  intro x k;have f:=A9v x (List.mem_of_mem_drop (List.mem_of_mem_take k));unfold sEq;refine dF λe=>?_;have e2:x.data.toList=c::r:=by rw [←e];simp [tb]
  rw [e2] at f;have:=f c rfl;rw [j] at this;cases this) F 0 (by simp [d];omega) om,sbd,Au (c:=bif decide ((-1:Int)>=0) then (!sEq (tb (c::r)) (⟨#[]⟩:ByteArray)) else false) rfl]
theorem A7f {op:Int} (h:15<=op/\op<=25):op=15\/op=16\/op=17\/op=18\/op=19\/op=20\/op=21\/op=22\/op=23\/op=24\/op=25:=om
theorem A1b {F:Nat} (b:30<=F) {op:Int} (h:15<=op/\op<=25):Hr F (tb (wdS op)) 1 7=some 0/\Hr F (tb (wdS op)) 15 25=some op:=by
 obtain ⟨F,rfl⟩:∃G,F=G+30:=⟨F-30,om⟩;rcases A7f h with rfl|rfl|rfl|rfl|rfl|rfl|rfl|rfl|rfl|rfl|rfl<;>exact ⟨rfl,rfl⟩
theorem B0g {op:Int} (h:8<=op/\op<=13):op=8\/op=9\/op=10\/op=11\/op=12\/op=13:=om
theorem B12 {F:Nat} (b:30<=F) {op:Int} (h:8<=op/\op<=13):Hr F (tb (wdS op)) 8 13=some op:=by
 obtain ⟨F,rfl⟩:∃G,F=G+30:=⟨F-30,om⟩;rcases B0g h with rfl|rfl|rfl|rfl|rfl|rfl<;>rfl
theorem B8z {F:Nat} {r r':zB} {t:ByteArray} (b:r.token=t) (hn:Ao F r=some r'):Dq F r t=some (true,r'):=by
 unfold Dq;rw [Au (by rw [B52.2 b];rfl),hn];rfl
theorem B8y {F:Nat} {r:zB} {t:ByteArray} (b:sEq r.token t=false):Dq F r t=some (false,r):=by
 unfold Dq;rw [B8 (by rw [b];rfl)]
theorem A81 {F:Nat} {r r':zB} {t:ByteArray} (b:r.token=t) (hn:Ao F r=some r'):Er F r t=some (.ok r'):=by
 unfold Er;rw [B8z b hn,sbd];dsimp only;rw [Au (c:=!true) rfl]
theorem A4y (b:UInt8) (l:List UInt8) (c:UInt8):Lib.indexByte (b::l) c=if b==c then 0 else if Lib.indexByte l c == -1 then -1 else Lib.indexByte l c+1:=rfl
theorem A7r {c:UInt8}:∀{l:List UInt8},c∉l->Lib.indexByte l c=-1:=by
 intro l
 induction l with
 | nil=>intro _;rfl
 | cons b l ih =>
  intro h;rw [A4y,if_neg (by simp only [beq_iff_eq];rintro rfl;exact h sm),if_pos (by rw [ih λd=>h (by simp [d])];rfl)]
theorem A3r {l:List UInt8} {c:UInt8} (h:c∈l):0<=Lib.indexByte l c:=by
 induction l with
 | nil=>cases h
 | cons b l ih =>
  rw [A4y]
  split
  ·omega
  ·rename_i d
   have f:c∈l:=by
    rcases List.mem_cons.1 h with e|e
    ·exact absurd (by simp [e]) d
    ·exact e
   have:=ih f;rw [if_neg (by simp only [beq_iff_eq];omega)];omega
theorem B4d {l:List UInt8} {c:UInt8}:decide (0<=Lib.indexByte l c)=decide (c∈l):=by
 by_cases h:c∈l
 ·rw [dT h,dT (A3r h)]
 ·rw [dF h,dF (by rw [A7r h];omega)]
theorem A65 {c:UInt8} (h:A0j c=true):c∈[48,49,50,51,52,53,54,55,56,57]:=by
 have key:∀n:Fin 256,A0j (UInt8.ofNat n.val)=true->UInt8.ofNat n.val∈([48,49,50,51,52,53,54,55,56,57]:List UInt8):=by decide
 have:=key ⟨c.toNat,c.toNat_lt⟩;simp only [UInt8.ofNat_toNat] at this;exact this h
theorem A3k {l:List UInt8} {a b:Nat} (h:a<=b) (hb:b<=l.length):cutS (tb l) a b=some (tb ((l.drop a).take (b-a))):=by
 unfold cutS;rw [if_pos (by rw [H4];omega),Int.toNat_natCast,Int.toNat_natCast]
 congr 1
 apply ByteArray.ext;apply Array.toList_inj.1;simp [tb,ByteArray.data_extract,List.extract_eq_take_drop]
theorem A3i {c:UInt8} {r:List UInt8}:cutS (tb (c::r)) 0 1=some (tb [c]):=A3k (a:=0) (b:=1) om sm
theorem B3x {c:UInt8} (h:A0j c=true) (F:Nat):strings_Contains F (⟨#[48,49,50,51,52,53,54,55,56,57]⟩:ByteArray) (tb [c])=some true:=by
 show some (decide (0<=Lib.indexByte [48,49,50,51,52,53,54,55,56,57] c))=some true;rw [dT (A3r (A65 h))]
theorem B42 {c:UInt8} (h:A0j c=true):IntKind.u8.wrap ((c.toNat:Int)-48)=(c.toNat-48:Nat)/\c.toNat-48<=9:=by
 unfold A0j at h;simp only [Bool.and_eq_true,decide_eq_true_eq] at h;refine ⟨?_,om⟩;rw [show IntKind.u8.wrap ((c.toNat:Int)-48)=((c.toNat:Int)-48)%256 from rfl,Int.emod_eq_of_lt om om];omega
theorem B46:∀(l:List UInt8) (x:Nat),x<=l.foldl (λa c=>10*a+(c.toNat-48)) x:=by
 intro l
 induction l with
 | nil=>intro x;exact Nat.le_refl _
 | cons c l ih=>intro x;have:=ih (10*x+(c.toNat-48));rw [List.foldl_cons];omega
theorem B24 {F:Nat} {most:Int} (hm:0<=most/\most<=1000000000) {l:List UInt8} (e:∀c∈l,A0j c=true) (b:l.length<=100) {s tok:ByteArray} {x4 x5:Int} {r':zB} (hn:Ao F ⟨s,x4,tok,x5⟩=some r') :
  ∀(n j x:Nat),l.length+1<=n+j->j<=l.length->((l.drop j).foldl (λa c=>10*a+(c.toNat-48)) x:Nat)<=most ->
   Ft F most (l.map λc=>(c.toNat:Int)) n s x4 tok x5 j x=some (.ok ((((l.drop j).foldl (λa c=>10*a+(c.toNat-48)) x:Nat):Int),r')):=by
 intro n
 induction n with
 | zero=>intro j x f g;omega
 | succ n ih =>
  intro j x f g d;show Fq F most _ _ s x4 tok x5 j x=_;unfold Fq;rw [List.length_map]
  by_cases hj:j<l.length
  ·have i:(l.map λc=>(c.toNat:Int))[j]? = some ((l[j]).toNat:Int):=by rw [List.getElem?_map,List.getElem?_eq_getElem hj];rfl
   have hd:=e _ (List.getElem_mem hj);obtain ⟨w1,w2⟩:=B42 hd;rw [List.drop_eq_getElem_cons hj,List.foldl_cons] at d ⊢;have k:=B46 (l.drop (j+1)) (10*x+((l[j]).toNat-48));rw [B8 (dT om),gtb j _ rfl i,ckb om,w1,ckb om,ckb om,Au (dF om)];unfold Fs;rw [ckb om];have:=ih (j+1) (10*x+((l[j]).toNat-48)) om om d;rw [show ((10*x+((l[j]).toNat-48):Nat):Int)=10*(x:Int)+(((l[j]).toNat-48:Nat):Int) by omega] at this;exact this
  ·rw [Au (dF om),show j=l.length by omega,List.drop_length];unfold Jf;rw [hn];rfl
theorem B8q (l:List UInt8):sby (tb l)=l.map λc=>(c.toNat:Int):=by simp [sby,tb]
theorem B8p {β:Type} {l:List UInt8} (h:l.length<=1000000) {f:List Int->Option β}:(s2b (tb l)).bind f=f (l.map λc=>(c.toNat:Int)):=by
 unfold s2b;rw [if_pos (by rw [H4];omega),sbd,B8q]
theorem Xu {F:Nat} (m:30<=F) {most v:Int} (hm:most<=1000000000) (j:0<=v/\v<=most) {r r':zB} (d:r.token=tb (Lib.itoa v)) (hn:Ao F r=some r'):Eg F r most=some (.ok (v,r')):=by
 obtain ⟨c,q,e,l⟩:=T6 j.1;obtain ⟨u,rfl⟩:∃u:Nat,v=u:=⟨v.toNat,om⟩;have f:∀c∈Lib.itoa (u:Int),A0j c=true:=by rw [Lib.itoa_nonneg];exact A64 u
 have b:(Lib.itoa (u:Int)).foldl (λa c=>10*a+(c.toNat-48)) 0=u:=by rw [Lib.itoa_nonneg];exact B3z u
 have k:=A1f (v:=(u:Int)) ⟨j.1,om⟩;unfold Eg;have g:sEq r.token (⟨#[]⟩:ByteArray)=false:=by
  rw [d,show (⟨#[]⟩:ByteArray)=tb [] from rfl,A1x];exact dF (by rw [e];simp)
 rw [Au g,d,e,A3i,sbd,B3x l,sbd,Au (c:=!true) rfl,←e];unfold E5;rw [B8p om];have i:Ao F ⟨r.s,r.at_,tb (Lib.itoa (u:Int)),r.from_⟩=some r':=by rw [←d];exact hn
 have:=B24 (F:=F) (most:=most) ⟨om,hm⟩ f om i F 0 0 om om (by rw [List.drop_zero,b];omega);rw [List.drop_zero,b] at this;exact this
def sel (ops:List Int) (t:ByteArray) (x:Int):Int:=ops.foldl (λx o=>if sEq t (tb (wdS o))=true then o else x) x
theorem B57 (t:ByteArray) (x:Int):sel [] t x=x:=rfl
section
variable {F:Nat} {P:Ah} {ops:List Int}
theorem B67 (b:∀o∈ops,0<=o/\o<=27) (l:ops.length<=10) {op v rr g:Int} {args:List zC} {s tok:ByteArray} {x4 x5:Int} {k1:Int->Int->Int->Int->List zC->ByteArray->Int->ByteArray->Int->Option (Except (Value×zB) (zC×zB))}
  {L:Nat->Int->Int->Option (Except (Value×zB) (zC×zB))} (f:L=B5 F P ops op v rr g args s x4 tok x5 k1) :
  ∀(n j:Nat) (x:Int),ops.length+1<=n+j->j<=ops.length->L n j x=Dc F P op v rr g args s x4 tok x5 k1 (sel (ops.drop j) tok x):=by
 have step:∀n x y,L (n+1) x y=Cv F P ops op v rr g args s x4 tok x5 k1 (L n) x y:=by
  intro n x y;rw [f];rfl
 intro n
 induction n with
 | zero=>intro j x i k;omega
 | succ n ih =>
  intro j x i k;rw [step];unfold Cv Ec
  by_cases hj:j<ops.length
  ·have ho:=b _ (List.getElem_mem hj);have e:sel (ops.drop j) tok x=sel (ops.drop (j+1)) tok (if sEq tok (tb (wdS ops[j]))=true then ops[j] else x):=by
    rw [List.drop_eq_getElem_cons hj];rfl
   have c:=ih (j+1) x om om;have d:=ih (j+1) ops[j] om om;rw [show ((j+1:Nat):Int)=(j:Int)+1 by omega] at c d;rw [B8 (dT om),gtb j _ rfl (List.getElem?_eq_getElem hj),wdb ho,e]
   cases m:sEq tok (tb (wdS ops[j]))
   ·rw [Au rfl,ckb om,c,if_neg dc]
   ·rw [B8 rfl,ckb om,d,if_pos rfl]
  ·rw [Au (dF om),List.drop_eq_nil_of_le om,B57]
def lfL (F:Nat) (P:Ah) (ops:List Int) (m:Nat) (n:zC) (r:zB):Option (Except (Value×zB) (zC×zB)) :=
 Bn F P ops m n.Op n.Value_ n.Rays n.Gates n.Args r.s r.at_ r.token r.from_
theorem Ys (d:20<=F) (b:∀o∈ops,0<=o/\o<=27) (c:ops.length<=10) {m:Nat} {n:zC} {r:zB} (h:sel ops r.token 0=0):lfL F P ops (m+1) n r=some (.ok (n,r)):=by
 show B5 F P ops _ _ _ _ _ _ _ _ _ _ F 0 0=_;rw [show B5 F P ops n.Op n.Value_ n.Rays n.Gates n.Args r.s r.at_ r.token r.from_ (Bn F P ops m) F 0 0=_ from B67 b c rfl F 0 0 om om,List.drop_zero,h];unfold Dc;rw [B8 (eqT rfl),V2]
theorem B68 (e:20<=F) (c:∀o∈ops,0<=o/\o<=27) (d:ops.length<=10) {m:Nat} {n b:zC} {r r2 r3:zB} {o:Int} (h:sel ops r.token 0=o) (ho:o≠0) (hn:Ao F r=some r2) (hb:P r2=some (.ok (b,r3))) :
  lfL F P ops (m+1) n r=lfL F P ops m ⟨o,0,0,0,[n,b]⟩ r3:=by
 show B5 F P ops _ _ _ _ _ _ _ _ _ _ F 0 0=_;rw [show B5 F P ops n.Op n.Value_ n.Rays n.Gates n.Args r.s r.at_ r.token r.from_ (Bn F P ops m) F 0 0=_ from B67 c d rfl F 0 0 om om,List.drop_zero,h];unfold Dc;rw [Au (eqF ho),show Ao F ⟨r.s,r.at_,r.token,r.from_⟩=some r2 from hn,sbd,hb,sbd,exk];dsimp only;rw [V2,V2];rfl
theorem A1h {a:zC} {r r1:zB} (h:P r=some (.ok (a,r1))):By F P r ops=lfL F P ops F a r1:=by
 unfold By;rw [h,sbd,exk];rfl
theorem B4j {r:zB}:Fp F P r ops=By F (Az F P) r ops:=by
 have b:∀op v rr g args s x4 tok x5 k1 n j x,Cu F P ops op v rr g args s x4 tok x5 k1 n j x=B5 F (Az F P) ops op v rr g args s x4 tok x5 k1 n j x:=by
  intro op v rr g args s x4 tok x5 k1 n
  induction n with
  | zero=>intro j x;rfl
  | succ n ih =>
   intro j x;show Gf F P ops op v rr g args s x4 tok x5 k1 (Cu F P ops op v rr g args s x4 tok x5 k1 n) j x=Cv F (Az F P) ops op v rr g args s x4 tok x5 k1 (B5 F (Az F P) ops op v rr g args s x4 tok x5 k1 n) j x;rw [show Cu F P ops op v rr g args s x4 tok x5 k1 n=B5 F (Az F P) ops op v rr g args s x4 tok x5 k1 n from funext λj=>funext λx=>ih j x];rfl
 have c:∀n,Db F P ops n=Bn F (Az F P) ops n:=by
  intro n
  induction n with
  | zero=>rfl
  | succ n ih =>
   funext op v rr g args s x4 tok x5
   show Ge F P ops (Db F P ops n) op v rr g args s x4 tok x5=Eb F (Az F P) ops (Bn F (Az F P) ops n) op v rr g args s x4 tok x5;rw [ih];exact b op v rr g args s x4 tok x5 _ F 0 0
 unfold Fp By;rw [c]
theorem B4k {r:zB}:Cq F P r ops=By F (Bb F P) r ops:=by
 have b:∀op v rr g args s x4 tok x5 k1 n j x,Cm F P ops op v rr g args s x4 tok x5 k1 n j x=B5 F (Bb F P) ops op v rr g args s x4 tok x5 k1 n j x:=by
  intro op v rr g args s x4 tok x5 k1 n
  induction n with
  | zero=>intro j x;rfl
  | succ n ih =>
   intro j x;show Fm F P ops op v rr g args s x4 tok x5 k1 (Cm F P ops op v rr g args s x4 tok x5 k1 n) j x=Cv F (Bb F P) ops op v rr g args s x4 tok x5 k1 (B5 F (Bb F P) ops op v rr g args s x4 tok x5 k1 n) j x;rw [show Cm F P ops op v rr g args s x4 tok x5 k1 n=B5 F (Bb F P) ops op v rr g args s x4 tok x5 k1 n from funext λj=>funext λx=>ih j x];rfl
 have c:∀n,D1 F P ops n=Bn F (Bb F P) ops n:=by
  intro n
  induction n with
  | zero=>rfl
  | succ n ih =>
   funext op v rr g args s x4 tok x5
   show Fl F P ops (D1 F P ops n) op v rr g args s x4 tok x5=Eb F (Bb F P) ops (Bn F (Bb F P) ops n) op v rr g args s x4 tok x5;rw [ih];exact b op v rr g args s x4 tok x5 _ F 0 0
 unfold Cq By;rw [c]
theorem A4l {r r1:zB} {n:zC} (h:By F P r [4]=some (.ok (n,r1))):Az F P r=some (.ok (n,r1)):=by
 unfold Az;rw [h,sbd,exk];dsimp only;rw [V2]
theorem A4m {r r1:zB} {n:zC} (h:By F (Az F P) r [5]=some (.ok (n,r1))):psift_reader_cond F P r=some (.ok (n,r1)):=by
 unfold psift_reader_cond;rw [B4j,h,sbd,exk];dsimp only;rw [V2]
theorem B8b:∀o∈([4]:List Int),0<=o/\o<=27:=by decide
theorem B8c:∀o∈([5]:List Int),0<=o/\o<=27:=by decide
theorem C0c:∀o∈([26,27]:List Int),0<=o/\o<=27:=by decide
theorem A3c (b:20<=F) {r r1:zB} {n:zC} (c:P r=some (.ok (n,r1))) (d:sel [4] r1.token 0=0):Az F P r=some (.ok (n,r1)):=by
 obtain ⟨m,hm⟩:∃m,F=m+1:=⟨F-1,om⟩;refine A4l ?_;rw [A1h c];have:=Ys (P:=P) (m:=m) (n:=n) (r:=r1) b B8b dc d
 rwa [←hm] at this
theorem A7d (c:20<=F) {r r1 r2 r3:zB} {a b:zC} (d:P r=some (.ok (a,r1))) (e:sel [4] r1.token 0=4) (hn:Ao F r1=some r2) (hb:P r2=some (.ok (b,r3))) (f:sel [4] r3.token 0=0):Az F P r=some (.ok (⟨4,0,0,0,[a,b]⟩,r3)):=by
 obtain ⟨m,hm⟩:∃m,F=m+1+1:=⟨F-2,om⟩;refine A4l ?_;rw [A1h d];have:=B68 (P:=P) (m:=m+1) (n:=a) (r:=r1) c B8b dc e dc hn hb;rw [←hm] at this;rw [this];exact Ys c B8b dc f
theorem A13 (b:20<=F) {r r1:zB} {n:zC} (c:Az F P r=some (.ok (n,r1))) (d:sel [5] r1.token 0=0):psift_reader_cond F P r=some (.ok (n,r1)):=by
 obtain ⟨m,hm⟩:∃m,F=m+1:=⟨F-1,om⟩;refine A4m ?_;rw [A1h c];have:=Ys (P:=Az F P) (m:=m) (n:=n) (r:=r1) b B8c dc d
 rwa [←hm] at this
theorem B0n (c:20<=F) {r r1 r2 r3:zB} {a b:zC} (d:Az F P r=some (.ok (a,r1))) (e:sel [5] r1.token 0=5) (hn:Ao F r1=some r2) (hb:Az F P r2=some (.ok (b,r3))) (f:sel [5] r3.token 0=0):psift_reader_cond F P r=some (.ok (⟨5,0,0,0,[a,b]⟩,r3)):=by
 obtain ⟨m,hm⟩:∃m,F=m+1+1:=⟨F-2,om⟩;refine A4m ?_;rw [A1h d];have:=B68 (P:=Az F P) (m:=m+1) (n:=a) (r:=r1) c B8c dc e dc hn hb;rw [←hm] at this;rw [this];exact Ys c B8c dc f
end
def A2e:List UInt8:=[97,98,99,100,101,102,103,104,105,106,107,108,109,110,111,112,113,114,115,116,117,118,119,120,121,122]
def Xm:List UInt8:=[48,49,50,51,52,53,54,55,56,57]
def B6r:List UInt8:=A2e++Xm
def B3n:List UInt8:=A2e++Xm++[95]
def B2w:List UInt8:=[60,62,61,43,45,40,41,58,59]
def A2h:List UInt8:=[32,9,10,13]
def A2b:List UInt8:=[32,9,10,13,35,40,41,58,59]
theorem A3q {β:Type} {l:List UInt8} {j:Nat} {c:UInt8} (h:l[j]? = some c) {f:Int->Option β}:(Yn (tb l) (j:Int)).bind f=f (c.toNat:Int):=by
 obtain ⟨b,d⟩:=List.getElem?_eq_some_iff.1 h;unfold Yn;rw [if_pos (by rw [H4];omega),sbd,Int.toNat_natCast]
 congr 2
 rw [getElem!_pos (tb l) j (by rw [H4];exact b)];rw [←d];rfl
theorem B1c {β:Type} {c:UInt8} {l:List UInt8} {f:Int->Option β}:(Yn (tb (c::l)) 0).bind f=f (c.toNat:Int):=A3q (j:=0) rfl
theorem A3j {l:List UInt8} {a:Nat} (h:a<=l.length):cutS (tb l) a (((tb l).size:Nat):Int)=some (tb (l.drop a)):=by
 rw [H4,A3k h (Nat.le_refl _),List.take_of_length_le sm]
theorem A0p (F:Nat) (l:List UInt8) (c:UInt8):strings_Contains F (tb l) (tb [c])=some (decide (c∈l)):=by
 rw [←B4d];rfl
theorem A8d (c:UInt8):((c.toNat:Int)).toNat.toUInt8=c:=by
 rw [Int.toNat_natCast];exact UInt8.ofNat_toNat
theorem B5f {set l:List UInt8} (f:l.length<=1000000):∀(b:List UInt8) (n:Nat) (a:List UInt8),l=a++b->(b.takeWhile λc=>decide (c∈set)).length+1<=n->R1 (tb l) (tb set) n (a.length:Nat)=some (tb (a++b.takeWhile λc=>decide (c∈set))):=by
 intro b
 induction b with
 | nil =>
  intro n a h hn;obtain ⟨n,rfl⟩:∃m,n=m+1:=⟨n-1,by simp at hn;omega⟩;show Mj (tb l) (tb set) _ _=_;unfold Mj T3;rw [Au (dF (by rw [H4,h];simp)),h];rfl
 | cons c b ih =>
  intro n a h hn;obtain ⟨n,rfl⟩:∃m,n=m+1:=⟨n-1,om⟩;show Mj (tb l) (tb set) _ _=_;unfold Mj;have e:l[a.length]? = some c:=by rw [h];simp
  have d:l.length=a.length+(b.length+1):=by rw [h];simp
  rw [B8 (dT (by rw [H4];omega)),A3q e]
  by_cases hm:c∈set
  ·have:¬Hs (tb set) (c.toNat:Int)<0:=by
    show ¬Lib.indexByte set ((c.toNat:Int)).toNat.toUInt8<0;rw [A8d];have:=A3r hm;omega
   rw [Au (dF this),ckb om];rw [List.takeWhile_cons_of_pos (by simp [hm])] at hn ⊢;have:=ih n (a++[c]) (by rw [h];simp) (by simp only [List.length_cons] at hn;omega);rw [List.length_append,List.length_singleton] at this;rw [show (a.length:Int)+1=((a.length+1:Nat):Int) by omega,this];simp
  ·have:Hs (tb set) (c.toNat:Int)<0:=by
    show Lib.indexByte set ((c.toNat:Int)).toNat.toUInt8<0;rw [A8d,A7r hm];omega
   rw [B8 (dT this),List.takeWhile_cons_of_neg (by simp [hm]),List.append_nil];rw [show cutS (tb l) 0 (a.length:Int)=some (tb a) by
    have:=A3k (l:=l) (a:=0) (b:=a.length) om om;rw [h] at this ⊢
    simpa using this]
   rfl
theorem A48 {set l:List UInt8} (b:l.length<=1000000) {F:Nat} (d:l.length+1<=F):Gq F (tb l) (tb set)=some (tb (l.takeWhile λc=>decide (c∈set))):=by
 have:=B5f (set:=set) b l F [] rfl (by
  have:(l.takeWhile λc=>decide (c∈set)).length<=l.length:=(List.takeWhile_prefix _).sublist.length_le;omega)
 exact this
theorem B3g {set a r:List UInt8} (b:∀c∈a,c∈set) (hr:∀y∈r.head?,y∉set):((a++r).takeWhile λc=>decide (c∈set))=a:=by
 induction a with
 | nil =>
  cases r with
  | nil=>rfl
  | cons y r=>rw [List.nil_append,List.takeWhile_cons_of_neg (by simpa using hr y rfl)]
 | cons c a ih =>
  rw [List.cons_append,List.takeWhile_cons_of_pos (by simpa using b c sm),ih λd hd=>b d (by simp [hd])]
theorem B5g:(⟨#[32,9,10,13]⟩:ByteArray)=tb A2h:=rfl
theorem A9p {S a w':List UInt8} {x:Nat} (i:S.length<=1000000) (d:x<=S.length) (hd:S.drop x=a++w') (e:∀c∈a,c∈A2h) (g:∀y∈w'.head?,y∉A2h) {F:Nat} (j:S.length+1<=F) {β:Type} {f:Int->Option β} :
  ((cutS (tb S) x (((tb S).size:Nat):Int)).bind λs=>(Gq F s (⟨#[32,9,10,13]⟩:ByteArray)).bind λy=>(ck ((x:Int)+((y.size:Nat):Int))).bind f)=f ((x+a.length:Nat):Int):=by
 have b:(S.drop x).length<=S.length:=by simp
 rw [A3j d,sbd,B5g,A48 om om,sbd,hd,B3g e g,H4];have:a.length<=S.length:=by rw [hd] at b;simp at b;omega
 rw [ckb om]
 congr 1
theorem Ye {S a b:List UInt8} {x:Nat} (h:S.drop x=a++b):S.drop (x+a.length)=b:=by
 rw [←List.drop_drop,h,List.drop_left]
theorem Vv {S b:List UInt8} {x:Nat} (h:S.drop x=b) (c:x<=S.length):S.length=x+b.length:=by rw [←h];simp;omega
def White (w:List UInt8):Prop:=∀c∈w,c∈A2h
theorem White.head {w:List UInt8} (h:White w):∀c∈w.head?,c∈A2b:=by
 intro c b;exact (by decide:∀y∈A2h,y∈A2b) c (h c (List.mem_of_mem_head? b))
def B6j (e:List UInt8):Prop:=e=[]
theorem A88 {S:List UInt8} (j:S.length<=1000000) {F:Nat} (o:S.length+2<=F) {p:zB} (k:p.s=tb S) (x:Nat) (d:p.at_=(x:Int)) (w rest:List UInt8) (g:x<=S.length) (hd:S.drop x=w++rest) (l:White w) (hr:∀y∈rest.head?,y∉A2h/\y≠35) :
  D6 F p=some ⟨tb S,((x+w.length:Nat):Int),p.token,p.from_⟩:=by
 obtain ⟨G,i⟩:∃G,F=G+1:=⟨F-1,om⟩;have b:=Vv hd g;simp only [List.length_append] at b;have hd2:=Ye hd;have e0:D6 F p=Hc F p (He F p G):=by
  unfold D6
  conv=>lhs;rw [i]
  rw [i];rfl
 rw [e0];unfold Hc;rw [k,d,A9p j g hd l (λy m=>(hr y m).1) om]
 cases rest with
 | nil =>
  have he:((x+w.length:Nat):Int)=(((tb S).size:Nat):Int):=by rw [H4];simp at b;omega
  rw [gdF (by rw [eqT he];rfl),sbd,B8 (by rw [eqT he];rfl)]
 | cons y rest =>
  have c:((x+w.length:Nat):Int)≠(((tb S).size:Nat):Int):=by rw [H4];simp at b;omega
  have n:S[x+w.length]? = some y:=by rw [←List.head?_drop,hd2];rfl
  rw [gdT (by rw [eqF c];rfl),A3q n,B8 (by
   rw [eqF c];have f:=(hr y rfl).2;exact neT (λe=>f (UInt8.toNat_inj.1 (by show y.toNat=35;omega))))]
theorem B2z {S:List UInt8} (f:S.length<=1000000) {F:Nat} (g:S.length+2<=F) {p:zB} (i:p.s=tb S) (x:Nat) (c:p.at_=(x:Int)) (w e:List UInt8) (d:x<=S.length) (hd:S.drop x=w++e) (j:White w) (he:B6j e) :
  D6 F p=some ⟨tb S,(S.length:Int),p.token,p.from_⟩:=by
 subst he;have:=A88 f g i x c w [] d hd j sm;rw [this];have b:=Vv hd d;simp at b;rw [b]
def Kd (tok:List UInt8):Prop :=
 (∃c r,tok=c::r/\c∈A2e/\∀x∈r,x∈B3n)\/(∃v:Int,0<=v/\tok=Lib.itoa v)\/(tok=[60,61]\/tok=[62,61]\/tok=[33,61])\/∃c,tok=[c]/\c∈B2w
def FrT (tok:List UInt8):Prop:=tok=[40]\/tok=[41]\/tok=[58]\/tok=[59]
theorem FrT.no {tok:List UInt8} {c:UInt8} {r:List UInt8} (h:FrT tok) (e:tok=c::r):c∉B3n/\c∉Xm/\c≠60/\c≠62/\c≠33:=by
 rcases h with h|h|h|h<;>(rw [h] at e;rw [←(List.cons.inj e).1];decide)
theorem Kd.ne {tok:List UInt8} (h:Kd tok):tok≠[]:=by
 rcases h with ⟨c,r,rfl,-⟩|⟨v,b,rfl⟩|h|⟨c,rfl,-⟩
 ·simp
 ·obtain ⟨c,r,e,-⟩:=T6 b;rw [e];simp
 ·rcases h with rfl|rfl|rfl<;>simp
 ·simp
def A98 (F:Nat) (s8:ByteArray) (K:ByteArray->Option zB):Option zB :=
 (cutS s8 0 1).bind λs92 =>
 (strings_Contains F (⟨#[97,98,99,100,101,102,103,104,105,106,107,108,109,110,111,112,113,114,115,116,117,118,119,120,121,122]⟩:ByteArray) s92).bind λy93 =>
 bif y93 then ((Gq F s8 (⟨#[97,98,99,100,101,102,103,104,105,106,107,108,109,110,111,112,113,114,115,116,117,118,119,120,121,122,48,49,50,51,52,53,54,55,56,57,95]⟩:ByteArray)).bind λy94 =>
 K y94) else ((Yn s8 (0:Int)).bind λu95 =>
 bif (u95==48) then (K (⟨#[48]⟩:ByteArray)) else ((cutS s8 0 1).bind λs96 =>
 (strings_Contains F (⟨#[48,49,50,51,52,53,54,55,56,57]⟩:ByteArray) s96).bind λy97 =>
 bif y97 then ((Gq F s8 (⟨#[48,49,50,51,52,53,54,55,56,57]⟩:ByteArray)).bind λy98 =>
 K y98) else ((Bj F s8 (⟨#[60,61]⟩:ByteArray)).bind λy99 =>
 (gd ((y99==false&&true)) (Bj F s8 (⟨#[62,61]⟩:ByteArray)) default).bind λy100 =>
 (gd (((bif y99 then true else y100)==false&&true)) (Bj F s8 (⟨#[33,61]⟩:ByteArray)) default).bind λy101 =>
 bif (bif (bif y99 then true else y100) then true else y101) then ((cutS s8 0 2).bind λs102 =>
 K s102) else ((cutS s8 0 1).bind λs103 =>
 (strings_Contains F (⟨#[60,62,61,43,45,40,41,58,59]⟩:ByteArray) s103).bind λy104 =>
 bif y104 then ((cutS s8 0 1).bind λs105 =>
 K s105) else (K (⟨#[]⟩:ByteArray))))))
theorem A3h (F:Nat) (c:UInt8):strings_Contains F (⟨#[97,98,99,100,101,102,103,104,105,106,107,108,109,110,111,112,113,114,115,116,117,118,119,120,121,122]⟩:ByteArray) (tb [c])=some (decide (c∈A2e)):=A0p F A2e c
theorem A14 (F:Nat) (c:UInt8):strings_Contains F (⟨#[48,49,50,51,52,53,54,55,56,57]⟩:ByteArray) (tb [c])=some (decide (c∈Xm)):=A0p F Xm c
theorem B78 (F:Nat) (c:UInt8):strings_Contains F (⟨#[60,62,61,43,45,40,41,58,59]⟩:ByteArray) (tb [c])=some (decide (c∈B2w)):=A0p F B2w c
theorem B77 (F:Nat) (c:UInt8):strings_Contains F (⟨#[97,98,99,100,101,102,103,104,105,106,107,108,109,110,111,112,113,114,115,116,117,118,119,120,121,122,48,49,50,51,52,53,54,55,56,57]⟩:ByteArray) (tb [c])=some (decide (c∈B6r)):=A0p F B6r c
theorem B9p {c d:UInt8} {r:List UInt8}:cutS (tb (c::d::r)) 0 2=some (tb [c,d]):=A3k (a:=0) (b:=2) om sm
theorem Zp (F:Nat) (l:List UInt8) (a:UInt8):Bj F (tb l) (tb [a,61])=some (decide (l.take 2=[a,61])):=by
 unfold Bj E3;rw [H4,H4]
 match l with
 | []=>rfl
 | [c]=>rw [Au (dF (by simp only [List.length_cons,List.length_nil];omega)),dF sm];rfl
 | c::d::r =>
  rw [B8 (dT (by simp only [List.length_cons,List.length_nil];omega)),show cutS (tb (c::d::r)) 0 ((([a,61]:List UInt8).length:Nat):Int)=some (tb [c,d]) from B9p,sbd,A1x];rfl
theorem A0t:∀y∈A2b,y∉B3n/\y∉Xm/\y≠61/\y∉B6r:=by decide
theorem B1r:∀y∈A2e,y∈B3n:=by decide
theorem B7c:∀y∈Xm,y∉A2e:=by decide
theorem B8s:∀y∈B2w,y∉A2e/\y≠48/\y∉Xm:=by decide
theorem B7d:∀y∈Xm,y.toNat=48->y=48:=by decide
theorem A94:∀(n:Nat),∀r,Lib.decDigits n=48::r->n=0:=by
 intro n
 induction n using Nat.strongRecOn with
 | _ n ih =>
  intro r h;rw [Lib.decDigits] at h
  split at h
  ·rename_i b
   have d:=(List.cons.inj h).1;have f:(UInt8.ofNat (48+n)).toNat=48:=by rw [d];rfl
   rw [UInt8.toNat_ofNat'] at f;omega
  ·rename_i b
   exfalso;obtain ⟨c,q,e,-⟩:=T6 (v:=((n/10:Nat):Int)) om;rw [Lib.itoa_nonneg] at e;rw [e,List.cons_append] at h;have:=ih (n/10) om q (by rw [e,(List.cons.inj h).1]);omega
theorem B1s {F:Nat} {tok rest:List UInt8} (q:Kd tok) (f:FrT tok\/∀y∈rest.head?,y∈A2b) (n:(tok++rest).length<=1000000) (o:(tok++rest).length+1<=F) {K:ByteArray->Option zB}:A98 F (tb (tok++rest)) K=K (tb tok):=by
 unfold A98;rcases q with ⟨c,r,rfl,b,s⟩|⟨v,t,rfl⟩|p|⟨c,rfl,b⟩
 ·have hr:=f.resolve_left λh=>(h.no rfl).1 (B1r c b);rw [List.cons_append,A3i,sbd,A3h,sbd,dT b,B8 rfl];rw [show (⟨#[97,98,99,100,101,102,103,104,105,106,107,108,109,110,111,112,113,114,115,116,117,118,119,120,121,122,48,49,50,51,52,53,54,55,56,57,95]⟩:ByteArray)=tb B3n from rfl,show tb (c::(r++rest))=tb (c::r++rest) from rfl,A48 n o,sbd,B3g (a:=c::r) (by
   intro x k;rcases List.mem_cons.1 k with rfl|k
   ·exact B1r _ b
   ·exact s _ k) (λy l=>(A0t y (hr y l)).1)]
 ·obtain ⟨u,rfl⟩:∃u:Nat,v=u:=⟨v.toNat,om⟩;have i:∀c∈Lib.itoa (u:Int),c∈Xm:=λc b=>A65 (by rw [Lib.itoa_nonneg] at b;exact A64 u c b);obtain ⟨c,r,e,-⟩:=T6 t;have d:c∈Xm:=i c (by rw [e];simp);have hr:=f.resolve_left λh=>(h.no e).2.1 d;have z:c=48->Lib.itoa (u:Int)=[48]:=by
   rintro rfl;rw [Lib.itoa_nonneg] at e;have:=A94 u r e;subst this;rw [Lib.itoa_nonneg,Lib.decDigits,dif_pos om];rfl
  rw [e,List.cons_append,A3i,sbd,A3h,sbd,dF (B7c c d),Au rfl,B1c]
  by_cases h0:c=48
  ·have j:=z h0;rw [e] at j;rw [j,h0,B8 (eqT (show (((48:UInt8).toNat:Nat):Int)=48 from rfl))];rfl
  ·rw [Au (eqF (λh=>h0 (B7d c d om))),sbd,A14,sbd,dT d,B8 rfl];rw [show (⟨#[48,49,50,51,52,53,54,55,56,57]⟩:ByteArray)=tb Xm from rfl,show tb (c::(r++rest))=tb (c::r++rest) from rfl,A48 (by rw [←e];exact n) (by rw [←e];exact o),sbd,B3g (a:=c::r) (by rw [←e];exact i) (λy l=>(A0t y (hr y l)).2.1)]
 ·have key:∀a:UInt8,a∉A2e->a.toNat≠48->a∉Xm->(a=60\/a=62\/a=33)->tok=[a,61]->(A98 F (tb (tok++rest)) K=K (tb tok)):=by
   intro a j p h3 h4 e;subst e;unfold A98;rw [show [a,61]++rest=a::61::rest from rfl,A3i,sbd,A3h,sbd,dF j,Au rfl,B1c,Au (eqF om),sbd,A14,sbd,dF h3,Au rfl,
    show (⟨#[60,61]⟩:ByteArray)=tb [60,61] from rfl,show (⟨#[62,61]⟩:ByteArray)=tb [62,61] from rfl,show (⟨#[33,61]⟩:ByteArray)=tb [33,61] from rfl,Zp,Zp,Zp,B9p]
   rcases h4 with rfl|rfl|rfl<;>rfl
  rcases p with e|e|e
  ·exact key 60 dc dc dc sm e
  ·exact key 62 dc dc dc sm e
  ·exact key 33 dc dc dc sm e
 ·obtain ⟨n1,n2,n3⟩:=B8s c b;have m:(c.toNat:Int)≠48:=λh=>n2 (UInt8.toNat_inj.1 (by show c.toNat=48;omega));have np:∀a:UInt8,(a=60\/a=62\/a=33)->(c::rest).take 2≠[a,61]:=by
   intro a ha h
   cases rest with
   | nil=>simp at h
   | cons y rest =>
    simp at h;rcases f with hf|hr
    ·have hn:=hf.no rfl;rw [h.1] at hn;rcases ha with rfl|rfl|rfl
     ·exact hn.2.2.1 rfl
     ·exact hn.2.2.2.1 rfl
     ·exact hn.2.2.2.2 rfl
    ·exact (A0t y (hr y rfl)).2.2.1 h.2
  rw [show [c]++rest=c::rest from rfl,A3i,sbd,A3h,sbd,dF n1,Au rfl,B1c,Au (eqF m),sbd,A14,sbd,dF n3,Au rfl,
   show (⟨#[60,61]⟩:ByteArray)=tb [60,61] from rfl,show (⟨#[62,61]⟩:ByteArray)=tb [62,61] from rfl,show (⟨#[33,61]⟩:ByteArray)=tb [33,61] from rfl,Zp,Zp,Zp,dF (np 60 sm),dF (np 62 sm),dF (np 33 sm),sbd,gdT (g:=false==false&&true) rfl,sbd,gdT (g:=(bif false then true else false)==false&&true) rfl,sbd,Au rfl,sbd,B78,sbd,dT b,B8 rfl,sbd]
  rfl
def Th (p:List UInt8×List UInt8):Prop:=p.1≠[]\/∀y∈p.2.head?,y∈A2b
theorem B4q {S w tok rest prev:List UInt8} {x:Nat} {f:Int} (hS:S.length<=500000) (hx:x<=S.length) (hd:S.drop x=w++(tok++rest)) (hw:White w) (u:Kd tok) (hr:FrT tok\/∀y∈rest.head?,y∈A2b) (hp:prev=[]\/FrT prev\/Th (w,tok)) {F:Nat} (hF:S.length+100<=F) :
  Ao F ⟨tb S,x,tb prev,f⟩=some ⟨tb S,((x+w.length+tok.length:Nat):Int),tb tok,((x+w.length:Nat):Int)⟩:=by
 have j:=Vv hd hx;simp only [List.length_append] at j;have hd2:=Ye hd;obtain ⟨c,t,g⟩:∃c t,tok=c::t:=by
  cases tok with
  | nil=>exact absurd rfl u.ne
  | cons c t=>exact ⟨c,t,rfl⟩
 have k:c∉A2h/\c≠35:=by
  rcases u with ⟨c',r,e,h,-⟩|⟨v,hv,e⟩|h|⟨c',e,h⟩
  ·rw [g] at e;rw [(List.cons.inj e).1];exact (by decide:∀y∈A2e,y∉A2h/\y≠35) c' h
  ·obtain ⟨d,r,e2,hd⟩:=T6 hv;rw [g,e2] at e;rw [(List.cons.inj e).1];exact (by decide:∀y∈Xm,y∉A2h/\y≠35) d (A65 hd)
  ·rcases h with e|e|e<;>(rw [g] at e;rw [(List.cons.inj e).1];decide)
  ·rw [g] at e;rw [(List.cons.inj e).1];exact (by decide:∀y∈B2w,y∉A2h/\y≠35) c' h
 have l:D6 F ⟨tb S,x,tb prev,f⟩=some ⟨tb S,((x+w.length:Nat):Int),tb prev,f⟩ :=
  A88 om om (p:=⟨tb S,x,tb prev,f⟩) rfl x rfl w (tok++rest) hx hd hw (by rw [g];intro y hy;cases hy;exact k)
 have i:cutS (tb S) ((x+w.length:Nat):Int) (((tb S).size:Nat):Int)=some (tb (tok++rest)):=by rw [A3j om,hd2]
 have m:sEq (tb (tok++rest)) (⟨#[]⟩:ByteArray)=false:=by
  rw [show (⟨#[]⟩:ByteArray)=tb [] from rfl,A1x,g];exact dF sm
 have n:(tok++rest).length<=1000000:=by simp only [List.length_append];omega
 have o:(tok++rest).length+1<=F:=by simp only [List.length_append];omega
 unfold Ao;dsimp only
 cases prev with
 | nil =>
  rw [Au (by rfl),l,sbd];dsimp only;rw [i,sbd,Au m];show A98 F (tb (tok++rest)) (C4 ⟨tb S,((x+w.length:Nat):Int),tb [],f⟩)=_;rw [B1s u hr n o];unfold C4;dsimp only;rw [H4,ckb om]
  congr 2
 | cons b q =>
  rw [B8 (by rw [show (⟨#[]⟩:ByteArray)=tb [] from rfl,A1x,dF sm];rfl),A3i,sbd,A14,sbd,l,sbd];dsimp only;rw [i,sbd,Au m];have fin:A98 F (tb (tok++rest)) (Aw ⟨tb S,((x+w.length:Nat):Int),tb (b::q),f⟩)=some ⟨tb S,((x+w.length+tok.length:Nat):Int),tb tok,((x+w.length:Nat):Int)⟩:=by
   rw [B1s u hr n o];unfold Aw;dsimp only;rw [H4,ckb om]
   congr 2
  cases hb:decide (b∈Xm)
  ·rw [Au rfl];exact fin
  ·rw [B8 rfl]
   by_cases s:w=[]
   ·subst s;have z:c∈A2b:=by
     rcases hp with h|h|h|h
     ·cases h
     ·exact absurd (of_decide_eq_true hb) (h.no rfl).2.1
     ·exact absurd rfl h
     ·exact h c (by rw [g];rfl)
    rw [B8 (eqT sm)];rw [show cutS (tb (tok++rest)) 0 1=some (tb [c]) by rw [g,List.cons_append,A3i],sbd,B77,sbd,dF (A0t c z).2.2.2,Au rfl];rw [←show cutS (tb (tok++rest)) 0 1=some (tb [c]) by rw [g,List.cons_append,A3i]];exact fin
   ·rw [Au (eqF (by have:=List.length_pos_iff.2 s;omega))];exact fin
theorem B1z {S w e prev:List UInt8} {x:Nat} {f:Int} (k:S.length<=500000) (i:x<=S.length) (hd:S.drop x=w++e) (j:White w) (he:B6j e) {F:Nat} (l:S.length+100<=F) :
  Ao F ⟨tb S,x,tb prev,f⟩=some ⟨tb S,(S.length:Int),tb [],(S.length:Int)⟩:=by
 have d:=Vv hd i;simp only [List.length_append] at d;have g:D6 F ⟨tb S,x,tb prev,f⟩=some ⟨tb S,(S.length:Int),tb prev,f⟩ :=
  B2z om om (p:=⟨tb S,x,tb prev,f⟩) rfl x rfl w e i hd j he
 have c:cutS (tb S) (S.length:Int) (((tb S).size:Nat):Int)=some (tb []):=by rw [A3j om,List.drop_length]
 unfold Ao;dsimp only
 cases prev with
 | nil =>
  rw [Au (by rfl),g,sbd];dsimp only;rw [c,sbd,B8 (by rfl)];unfold C4;dsimp only;rw [show (((⟨#[]⟩:ByteArray).size:Nat):Int)=0 from rfl,ckb om];rw [show (S.length:Int)+0=S.length by omega];rfl
 | cons b q =>
  rw [B8 (by rw [show (⟨#[]⟩:ByteArray)=tb [] from rfl,A1x,dF sm];rfl),A3i,sbd,A14,sbd,g,sbd];dsimp only;rw [c,sbd,B8 (by rfl)];unfold Aw;dsimp only;rw [show (((⟨#[]⟩:ByteArray).size:Nat):Int)=0 from rfl,ckb om];rw [show (S.length:Int)+0=S.length by omega];rfl
def txt (l:List (List UInt8×List UInt8)):List UInt8:=l.flatMap λp=>p.1++p.2
def Cn:List UInt8->List (List UInt8×List UInt8)->Prop
 | _,[]=>True
 | prev,p::l=>(prev=[]\/FrT prev\/Th p)/\Cn p.2 l
theorem B3i {tok:List UInt8} (g:Kd tok) {l:List (List UInt8×List UInt8)} {z:List UInt8} (h:∀p∈l,White p.1/\Kd p.2) (i:Cn tok l) (j:∀y∈z.head?,y∈A2b):FrT tok\/∀y∈(txt l++z).head?,y∈A2b:=by
 cases l with
 | nil=>exact .inr j
 | cons p l =>
  obtain ⟨w,tok'⟩:=p;obtain ⟨k,f⟩:=h (w,tok') sm;rcases i.1 with e|e|b
  ·exact absurd e g.ne
  ·exact .inl e
  ·refine .inr λy d=>?_;rw [txt,List.flatMap_cons] at d
   cases w with
   | nil =>
    rcases b with b|b
    ·exact absurd rfl b
    ·dsimp only at f d b
     cases tok' with
     | nil=>exact absurd rfl f.ne
     | cons c t=>exact b y d
   | cons c w=>exact k.head y d
theorem B8w {S:List UInt8} (m:S.length<=500000) {B:Nat} (r:S.length+100<=B) {w0 e:List UInt8} (d:White w0) (he:B6j e) (o:∀y∈(w0++e).head?,y∈A2b) :
  ∀(l:List (List UInt8×List UInt8)) (x:Nat) (prev:List UInt8) (f:Int),x<=S.length->S.drop x=txt l++(w0++e)->(∀p∈l,White p.1/\Kd p.2)->Cn prev l ->
   ∃r',(∀G,B<=G->Ao G ⟨tb S,x,tb prev,f⟩=some r')/\Str B (l.map λp=>tb p.2) r':=by
 intro l
 induction l with
 | nil =>
  intro x prev f c hd _ _;refine ⟨⟨tb S,(S.length:Int),tb [],(S.length:Int)⟩,λG q=>B1z (w:=w0) m c hd d he om,rfl,?_⟩;show (((tb S).size:Nat):Int)<=(S.length:Int);rw [H4];omega
 | cons p l ih =>
  obtain ⟨w,tok⟩:=p;intro x prev f c hd g i;obtain ⟨k1,k2⟩:=g (w,tok) sm;dsimp only at k1 k2;have hd':S.drop x=w++(tok++(txt l++(w0++e))):=by rw [hd,txt,List.flatMap_cons];simp [txt]
  have b:=Vv hd' c;simp only [List.length_append] at b;have hd2:=Ye hd';have j:=Ye hd2;have hr:=B3i k2 (z:=w0++e) (λp k=>g p (by simp [k])) i.2 o;obtain ⟨r',n1,n2⟩:=ih (x+w.length+tok.length) tok ((x+w.length:Nat):Int) om j (λp k=>g p (by simp [k])) i.2;have n:=List.length_pos_iff.2 k2.ne;refine ⟨⟨tb S,((x+w.length+tok.length:Nat):Int),tb tok,((x+w.length:Nat):Int)⟩,λG q=>B4q m c hd' k1 k2 hr i.1 om,rfl,?_,r',n1,n2⟩;show ((x+w.length:Nat):Int)<(((tb S).size:Nat):Int);rw [H4];omega
theorem Str.hd {B:Nat} {t:ByteArray} {ts:List ByteArray} {r:zB} (h:Str B (t::ts) r):r.token=t:=h.1
theorem Str.nx {B:Nat} {t:ByteArray} {ts:List ByteArray} {r:zB} (h:Str B (t::ts) r):∃r',(∀G,B<=G->Ao G r=some r')/\Str B ts r':=h.2.2
theorem A60 {B F:Nat} (d:B+40<=F) {P:Ah} {op rr g:Int} (hr:0<=rr/\rr<=3) (b:0<=g/\g<=3) {n:zC} {ts us:List ByteArray} {r:zB}
  (c:∀r,Str B us r->∃r',P r=some (.ok (n,r'))/\Str B ts r') (h:Str B (tb (Lib.itoa rr)::tb (Lib.itoa g)::us) r) :
  ∃r',J7 F P r op=some (.ok (⟨op,0,rr,g,[n]⟩,r'))/\Str B ts r':=by
 obtain ⟨r1,n1,s1⟩:=h.nx;obtain ⟨r2,n2,s2⟩:=s1.nx;obtain ⟨r3,p3,s3⟩:=c r2 s2;refine ⟨r3,?_,s3⟩;unfold J7;rw [Xu om om hr h.hd (n1 F om),sbd,exk];dsimp only;rw [Xu (r:=⟨r1.s,r1.at_,r1.token,r1.from_⟩) om om b s1.hd (n2 F om),sbd,exk];dsimp only;rw [show P ⟨r2.s,r2.at_,r2.token,r2.from_⟩=_ from p3,sbd,exk];dsimp only;rw [V2]
theorem A9n {op:Int} (h:8<=op/\op<=13):sel [26,27] (tb (wdS op)) 0=0:=by
 rcases B0g h with rfl|rfl|rfl|rfl|rfl|rfl<;>rfl
theorem A50 {F:Nat} (b:20<=F) {P:Ah} {r r1:zB} {n:zC} (c:Bb F P r=some (.ok (n,r1))) (d:sel [26,27] r1.token 0=0):Cq F P r [26,27]=some (.ok (n,r1)):=by
 obtain ⟨m,hm⟩:∃m,F=m+1:=⟨F-1,om⟩;rw [B4k,A1h c];have:=Ys (F:=F) (P:=Bb F P) (m:=m) (n:=n) (r:=r1) b C0c dc d
 rwa [←hm] at this
theorem A93 {B F:Nat} (b:B+40<=F) {P:Ah} {op:Int} (ho:15<=op/\op<=24) {ts:List ByteArray} {r:zB} (h:Str B (tb (wdS op)::ts) r):∃r',Bb F P r=some (.ok (⟨op,0,0,0,[]⟩,r'))/\Str B ts r':=by
 obtain ⟨r1,n1,s1⟩:=h.nx;refine ⟨r1,?_,s1⟩;unfold Bb;rw [h.hd,(A1b om om).2,sbd,Au (eqF om),Au (eqF om),n1 F om,sbd]
theorem A4z {B F:Nat} (c:B+40<=F) {P:Ah} {v:Int} (b:0<=v/\v<=1000000000) {ts:List ByteArray} {r:zB} (h:Str B (tb (Lib.itoa v)::ts) r):∃r',Bb F P r=some (.ok (⟨14,v,0,0,[]⟩,r'))/\Str B ts r':=by
 obtain ⟨r1,n1,s1⟩:=h.nx;refine ⟨r1,?_,s1⟩;unfold Bb;rw [h.hd,B11 (T6 b.1) om om,sbd,B8 (eqT rfl),Xu om om b h.hd (n1 F om),sbd,exk]
theorem A6g {B F:Nat} (b:B+40<=F) {P:Ah} {n:zC} {ts us:List ByteArray} {r:zB} (c:∀r,Str B us r->∃r',P r=some (.ok (n,r'))/\Str B ts r') (h:Str B (tb (wdS 25)::tb (Lib.itoa 1)::tb (Lib.itoa 1)::us) r) :
  ∃r',Bb F P r=some (.ok (⟨25,0,1,1,[n]⟩,r'))/\Str B ts r':=by
 obtain ⟨r1,n1,s1⟩:=h.nx;obtain ⟨r2,n2,s2⟩:=A60 (op:=25) b om om c s1;refine ⟨r2,?_,s2⟩;unfold Bb;rw [h.hd,(A1b om om).2,sbd,Au (eqF om),B8 (eqT rfl),n1 F om,sbd,n2,sbd,exk]
theorem B0k {B F:Nat} (i:B+40<=F) {P:Ah} {op:Int} (ho:8<=op/\op<=13) {a b:zC} {tk t:ByteArray} {ts1 ts2 ts3:List ByteArray} (c:Hr F tk 1 7=some 0) (d:sEq tk (tb [40])=false) (e:sel [26,27] t 0=0)
  (f:∀r,Str B (tk::ts1) r->∃r',Bb F P r=some (.ok (a,r'))/\Str B (tb (wdS op)::ts2) r') (g:∀r,Str B ts2 r->∃r',Bb F P r=some (.ok (b,r'))/\Str B (t::ts3) r') {r:zB} (h:Str B (tk::ts1) r) :
  ∃r',Ga F P r=some (.ok (⟨op,0,0,0,[a,b]⟩,r'))/\Str B (t::ts3) r':=by
 obtain ⟨r1,i1,s1⟩:=f r h;obtain ⟨r2,n2,s2⟩:=s1.nx;obtain ⟨r3,i3,s3⟩:=g r2 s2;refine ⟨r3,?_,s3⟩;unfold Ga;rw [h.hd,c,sbd,Au (eqF dc)];unfold Fu;rw [Au (eqF dc),Au (eqF dc),Au (eqF dc)];unfold Fv;rw [Au (eqF dc),show Dq F r (⟨#[40]⟩:ByteArray)=some (false,r) from B8y (by rw [h.hd];exact d),sbd];dsimp only;rw [Au rfl,show Cq F P ⟨r.s,r.at_,r.token,r.from_⟩ [26,27]=_ from A50 om i1 (by rw [s1.hd];exact A9n ho),sbd,exk];dsimp only;rw [s1.hd,B12 om ho,sbd,Au (eqF om)];unfold Fw;rw [←s1.hd,show Ao F ⟨r1.s,r1.at_,r1.token,r1.from_⟩=_ from n2 F om,sbd,A50 om i3 (by rw [s3.hd];exact e),sbd,exk];dsimp only;rw [V2,V2]
theorem A0r {F:Nat} (b:30<=F) {op:Int} (h:15<=op/\op<=25):Hr F (tb (wdS op)) 1 7=some 0/\sEq (tb (wdS op)) (tb [40])=false:=by
 refine ⟨(A1b b h).1,?_⟩;rcases A7f h with rfl|rfl|rfl|rfl|rfl|rfl|rfl|rfl|rfl|rfl|rfl<;>rfl
def nd0 (op:Int):zC:=⟨op,0,0,0,[]⟩
def nm0 (v:Int):zC:=⟨14,v,0,0,[]⟩
def nd2 (op:Int) (a b:zC):zC:=⟨op,0,0,0,[a,b]⟩
section
variable {B F:Nat}
theorem A27 (b:B+40<=F) {P:Ah} {w op v:Int} (c:15<=w/\w<=24) (ho:8<=op/\op<=13) (d:0<=v/\v<=1000000000) {t:ByteArray} (e:sel [26,27] t 0=0) {ts:List ByteArray} {r:zB} (h:Str B (tb (wdS w)::tb (wdS op)::tb (Lib.itoa v)::t::ts) r) :
  ∃r',Ga F P r=some (.ok (nd2 op (nd0 w) (nm0 v),r'))/\Str B (t::ts) r' :=
 B0k b ho (A0r (F:=F) om om).1 (A0r (F:=F) om om).2 e (λr h=>A93 b c h) (λr h=>A4z b d h) h
theorem B9k (c:B+60<=F) {v:Int} (b:0<=v/\v<=1000000000) {ts:List ByteArray} {r:zB} (h:Str B (tb (wdS 15)::tb (wdS 8)::tb (Lib.itoa v)::tb [59]::ts) r) :
  ∃r',psift_reader_cond F (psift_reader_prim F) r=some (.ok (nd2 8 (nd0 15) (nm0 v),r'))/\Str B (tb [59]::ts) r':=by
 obtain ⟨G,rfl⟩:∃G,F=G+1:=⟨F-1,om⟩;obtain ⟨r1,p1,s1⟩:=A27 (F:=G) (P:=psift_reader_prim G) om om om b rfl h;have p1':psift_reader_prim (G+1) r=_:=p1;refine ⟨r1,A13 om (A3c om p1' (by rw [s1.hd];rfl)) (by rw [s1.hd];rfl),s1⟩
theorem B9l (c:B+60<=F) {v:Int} (b:0<=v/\v<=1000000000) {ts:List ByteArray} {r:zB} (h:Str B (tb (wdS 21)::tb (wdS 12)::tb (Lib.itoa 2)::tb (wdS 5)::tb (wdS 18)::tb (wdS 10)::tb (Lib.itoa v)::tb [59]::ts) r) :
  ∃r',psift_reader_cond F (psift_reader_prim F) r=some (.ok (nd2 5 (nd2 12 (nd0 21) (nm0 2)) (nd2 10 (nd0 18) (nm0 v)),r'))/\Str B (tb [59]::ts) r':=by
 obtain ⟨G,rfl⟩:∃G,F=G+1:=⟨F-1,om⟩;obtain ⟨r1,p1,s1⟩:=A27 (F:=G) (P:=psift_reader_prim G) om om om om rfl h;obtain ⟨r2,n2,s2⟩:=s1.nx;obtain ⟨r3,p3,s3⟩:=A27 (F:=G) (P:=psift_reader_prim G) om om om b rfl s2;have p1':psift_reader_prim (G+1) r=_:=p1;have p3':psift_reader_prim (G+1) r2=_:=p3;refine ⟨r3,B0n om (A3c om p1' (by rw [s1.hd];rfl)) (by rw [s1.hd];rfl) (n2 _ om) (A3c om p3' (by rw [s3.hd];rfl)) (by rw [s3.hd];rfl),s3⟩
theorem B9m (b:B+60<=F) {ts:List ByteArray} {r:zB} (h:Str B (tb (wdS 21)::tb (wdS 12)::tb (Lib.itoa 3)::tb (wdS 4)::tb (wdS 25)::tb (Lib.itoa 1)::tb (Lib.itoa 1)::tb (wdS 21)::tb (wdS 12)::tb (Lib.itoa 1)::tb (wdS 10)::tb (Lib.itoa 4)::tb [59]::ts) r) :
  ∃r',psift_reader_cond F (psift_reader_prim F) r=some (.ok (nd2 4 (nd2 12 (nd0 21) (nm0 3)) (nd2 10 ⟨25,0,1,1,[nd2 12 (nd0 21) (nm0 1)]⟩ (nm0 4)),r'))/\Str B (tb [59]::ts) r':=by
 obtain ⟨G,rfl⟩:∃G,F=G+1+1:=⟨F-2,om⟩;obtain ⟨r1,p1,s1⟩:=A27 (F:=G+1) (P:=psift_reader_prim (G+1)) om om om om rfl h;obtain ⟨r2,n2,s2⟩:=s1.nx;obtain ⟨r3,p3,s3⟩:=B0k (F:=G+1) (P:=psift_reader_prim (G+1)) (op:=10) (t:=tb [59]) (ts3:=ts) om om (A0r (F:=G+1) om om).1 (A0r (F:=G+1) om om).2 rfl
  (λr h=>A6g om (ts:=tb (wdS 10)::tb (Lib.itoa 4)::tb [59]::ts) (λr h=>A27 (F:=G) (P:=psift_reader_prim G) om om om om rfl h) h) (λr h=>A4z om om h) s2
 have p1':psift_reader_prim (G+1+1) r=_:=p1;have p3':psift_reader_prim (G+1+1) r2=_:=p3;refine ⟨r3,A13 om (A7d om p1' (by rw [s1.hd];rfl) (n2 _ om) p3' (by rw [s3.hd];rfl)) (by rw [s3.hd];rfl),s3⟩
theorem B9n (d:B+60<=F) {u v:Int} (b:0<=u/\u<=1000000000) (c:0<=v/\v<=1000000000) {ts:List ByteArray} {r:zB} (h:Str B (tb (wdS 23)::tb (wdS 10)::tb (Lib.itoa u)::tb (wdS 4)::tb (wdS 22)::tb (wdS 12)::tb (Lib.itoa v)::tb [59]::ts) r) :
  ∃r',psift_reader_cond F (psift_reader_prim F) r=some (.ok (nd2 4 (nd2 10 (nd0 23) (nm0 u)) (nd2 12 (nd0 22) (nm0 v)),r'))/\Str B (tb [59]::ts) r':=by
 obtain ⟨G,rfl⟩:∃G,F=G+1:=⟨F-1,om⟩;obtain ⟨r1,p1,s1⟩:=A27 (F:=G) (P:=psift_reader_prim G) om om om b rfl h;obtain ⟨r2,n2,s2⟩:=s1.nx;obtain ⟨r3,p3,s3⟩:=A27 (F:=G) (P:=psift_reader_prim G) om om om c rfl s2;have p1':psift_reader_prim (G+1) r=_:=p1;have p3':psift_reader_prim (G+1) r2=_:=p3;refine ⟨r3,A13 om (A7d om p1' (by rw [s1.hd];rfl) (n2 _ om) p3' (by rw [s3.hd];rfl)) (by rw [s3.hd];rfl),s3⟩
end
theorem B6w {β:Type} {a b:List UInt8} (h:a.length+b.length<=1000000) {f:ByteArray->Option β}:(Jd (tb a) (tb b)).bind f=f (tb (a++b)):=by
 unfold Jd;rw [H4,H4,if_pos om,sbd]
 congr 1
theorem Uk:∀(F n:Nat),n<10 ^ F->F<=20->n<1000000000->∀G,F+1<=G->Lm G (n:Int)=some (tb (Lib.itoa (n:Int)))
 | F,n,h,f,hn,G,g=>by
  obtain ⟨H,rfl⟩:∃H,G=H+1:=⟨G-1,om⟩;have e10:(n:Int)%10=((n%10:Nat):Int):=rfl;have c:IntKind.u8.wrap (48+((n%10:Nat):Int))=48+((n%10:Nat):Int):=by
   have:∀i:Fin 10,IntKind.u8.wrap (48+(i.val:Int))=48+(i.val:Int):=by decide
   exact this ⟨n%10,Nat.mod_lt _ om⟩
  have hb:bst ([48+((n%10:Nat):Int)])=tb [UInt8.ofNat (48+n%10)]:=by
   unfold bst tb;rw [List.map_singleton,show (48+((n%10:Nat):Int)).toNat=48+n%10 by omega]
  show R8 (Lm H) (n:Int)=_;unfold R8;rw [Tv om om,sb,e10,ckb om,c,hb,Lib.itoa_nonneg,Lib.decDigits]
  by_cases hd:n<10
  ·rw [Au (decide_eq_false om),dif_pos hd,Nat.mod_eq_of_lt hd]
  ·have d:F≠0:=by rintro rfl;simp at h;omega
   have e:Qy (n:Int) 10=some ((n/10:Nat):Int):=by
    unfold Qy;rw [if_neg om,Int.tdiv_eq_ediv_of_nonneg om];exact ck1 om
   have ih:=Uk (F-1) (n/10) (by
    rw [show F=(F-1)+1 by omega,Nat.pow_succ] at h;omega) om om H om
   have b:=A1f (v:=((n/10:Nat):Int)) om;rw [B8 (decide_eq_true om),dif_neg hd,e,sb,ih,sb,B6w (by simp only [List.length_singleton];omega),Lib.itoa_nonneg]
structure RuS where
 name:List UInt8
 toks:List (List UInt8×List UInt8)
 node:zC
def itR (x:RuS):List (List UInt8×List UInt8):=([],x.name)::([],[58])::(x.toks++[([],[59])])
def rtS (L:List RuS):List ByteArray:=(L.flatMap itR).map λp=>tb p.2
def rlS (L:List RuS):List zR:=L.map λx=>⟨tb x.name,x.node⟩
structure RuOk (B F:Nat) (x:RuS):Prop where
 ne:sEq (tb x.name) (⟨#[]⟩:ByteArray)=false
 hd:∃q,cutS (tb x.name) 0 1=some q/\strings_Contains F (⟨#[97,98,99,100,101,102,103,104,105,106,107,108,109,110,111,112,113,114,115,116,117,118,119,120,121,122]⟩:ByteArray) q=some true
 word:sift_word F (tb x.name)=some false
 size:(tb x.name).size<=12
 cond:∀ts r,Str B ((x.toks.map λp=>tb p.2)++tb [59]::ts) r->∃r',psift_reader_cond F (psift_reader_prim F) r=some (.ok (x.node,r'))/\Str B (tb [59]::ts) r'
theorem A6s {B F:Nat} {L:List RuS} (k:∀x∈L,RuOk B F x) (l:L.length<=10) (y:B+2000<=F) {r0 r:zB} (hn:Ao F r0=some r) (o:Str B (rtS L) r) :
  ∃r',Gl F r0=some (.ok (rlS L,r')):=by
 have go:∀(M K:List RuS) (n:Nat) (r:zB),L=K++M->M.length+1<=n->Str B (rtS M) r->∃r',Do F n r.s r.at_ r.token r.from_ (rlS K)=some (.ok (rlS L,r')):=by
  intro M
  induction M with
  | nil =>
   intro K n r d i e;obtain ⟨n,rfl⟩:∃m,n=m+1:=⟨n-1,om⟩;have t:(r.s.size:Int)<=r.from_:=e.2;rw [List.append_nil] at d;show ∃r',Dn F (Do F n) r.s r.at_ r.token r.from_ (rlS K)=_;unfold Dn Ki;rw [Au (dF om),d];exact ⟨_,rfl⟩
  | cons p M ih =>
   intro K n r d i e;obtain ⟨n,rfl⟩:∃m,n=m+1:=⟨n-1,by simp at i;omega⟩;have f:=k p (by rw [d];simp);have u:K.length<=10:=by rw [d,List.length_append] at l;omega
   have e3:rtS (p::M)=tb p.name::tb [58]::((p.toks.map λq=>tb q.2)++tb [59]::rtS M):=by simp [rtS,itR]
   rw [e3] at e;obtain ⟨r1,n1,s1⟩:=e.nx;obtain ⟨r2,n2,s2⟩:=s1.nx;obtain ⟨r3,p3,s3⟩:=f.cond _ r2 s2;obtain ⟨r4,n4,s4⟩:=s3.nx;obtain ⟨q,q1,q2⟩:=f.hd;have j:r.from_<(r.s.size:Int):=e.2.1;have b:r.token=tb p.name:=e.hd;have v:=f.size;show ∃r',Dn F (Do F n) r.s r.at_ r.token r.from_ (rlS K)=_;unfold Dn;rw [B8 (dT j),Au (by rw [b];exact f.ne),show cutS r.token 0 1=some q by rw [b];exact q1,sbd,q2,sbd,gdT (g:=(!true)==false&&true) rfl,show sift_word F r.token=some false by rw [b];exact f.word,sbd,
    Au (c:=bif (bif (!true) then true else false) then true else (decide (((r.token.size:Nat):Int)>12))) (by rw [b,dF (show ¬(((tb p.name).size:Int)>12) by omega)];rfl)]
   unfold Et;rw [show Ao F ⟨r.s,r.at_,r.token,r.from_⟩=some r1 from n1 F om,sbd,show Er F r1 (⟨#[58]⟩:ByteArray)=some (.ok r2) from A81 s1.hd (n2 F om),sbd,exk,p3,sbd,exk];dsimp only;rw [show Er F ⟨r3.s,r3.at_,r3.token,r3.from_⟩ (⟨#[59]⟩:ByteArray)=some (.ok r4) from A81 s3.hd (n4 F om),sbd,exk,V2,b,R9 (by simp [rlS];omega)];have:=ih (K++[p]) n r4 (by rw [d];simp) (by simp at i;omega) s4;rw [show rlS (K++[p])=rlS K++[⟨tb p.name,p.node⟩] by simp [rlS]] at this;exact this
 unfold Gl;rw [hn,sbd];exact go L [] F r sm om o
def ru1 (v:Int):RuS:=⟨[119,101,97,107],[([32],wdS 15),([32],wdS 8),([32],Lib.itoa v)],nd2 8 (nd0 15) (nm0 v)⟩
def ru2 (v:Int):RuS:=⟨[111,100,100],[([32],wdS 21),([32],wdS 12),([32],Lib.itoa 2),([32],wdS 5),([32],wdS 18),([32],wdS 10),([32],Lib.itoa v)],nd2 5 (nd2 12 (nd0 21) (nm0 2)) (nd2 10 (nd0 18) (nm0 v))⟩
def ru3:RuS:=⟨[108,111,110,101],[([32],wdS 21),([32],wdS 12),([32],Lib.itoa 3),([32],wdS 4),([32],wdS 25),([32],Lib.itoa 1),([32],Lib.itoa 1),([32],wdS 21),([32],wdS 12),([32],Lib.itoa 1),([32],wdS 10),([32],Lib.itoa 4)],nd2 4 (nd2 12 (nd0 21) (nm0 3)) (nd2 10 ⟨25,0,1,1,[nd2 12 (nd0 21) (nm0 1)]⟩ (nm0 4))⟩
def ru4 (u v:Int):RuS:=⟨[102,97,114],[([32],wdS 23),([32],wdS 10),([32],Lib.itoa u),([32],wdS 4),([32],wdS 22),([32],wdS 12),([32],Lib.itoa v)],nd2 4 (nd2 10 (nd0 23) (nm0 u)) (nd2 12 (nd0 22) (nm0 v))⟩
section
variable {B F:Nat}
theorem Sa (b:30<=F) {l:List UInt8} (h:l=[119,101,97,107]\/l=[111,100,100]\/l=[108,111,110,101]\/l=[102,97,114]):sEq (tb l) (⟨#[]⟩:ByteArray)=false/\(∃q,cutS (tb l) 0 1=some q/\strings_Contains F (⟨#[97,98,99,100,101,102,103,104,105,106,107,108,109,110,111,112,113,114,115,116,117,118,119,120,121,122]⟩:ByteArray) q=some true)/\sift_word F (tb l)=some false/\(tb l).size<=12:=by
 obtain ⟨F,rfl⟩:∃G,F=G+30:=⟨F-30,om⟩;rcases h with rfl|rfl|rfl|rfl
 ·exact ⟨rfl,⟨tb [119],rfl,rfl⟩,rfl,dc⟩
 ·exact ⟨rfl,⟨tb [111],rfl,rfl⟩,rfl,dc⟩
 ·exact ⟨rfl,⟨tb [108],rfl,rfl⟩,rfl,dc⟩
 ·exact ⟨rfl,⟨tb [102],rfl,rfl⟩,rfl,dc⟩
theorem B8l (b:B+60<=F) {v:Int} (c:0<=v/\v<=1000000000):RuOk B F (ru1 v):=by
 obtain ⟨d,e,f,g⟩:=Sa (F:=F) om (l:=(ru1 v).name) (.inl rfl);exact ⟨d,e,f,g,λts r h=>B9k b c h⟩
theorem B8m (b:B+60<=F) {v:Int} (c:0<=v/\v<=1000000000):RuOk B F (ru2 v):=by
 obtain ⟨d,e,f,g⟩:=Sa (F:=F) om (l:=(ru2 v).name) (.inr (.inl rfl));exact ⟨d,e,f,g,λts r h=>B9l b c h⟩
theorem B8n (b:B+60<=F):RuOk B F ru3:=by
 obtain ⟨c,d,e,f⟩:=Sa (F:=F) om (l:=ru3.name) (.inr (.inr (.inl rfl)));exact ⟨c,d,e,f,λts r h=>B9m b h⟩
theorem B8o (b:B+60<=F) {u v:Int} (c:0<=u/\u<=1000000000) (d:0<=v/\v<=1000000000):RuOk B F (ru4 u v):=by
 obtain ⟨e,f,g,i⟩:=Sa (F:=F) om (l:=(ru4 u v).name) (.inr (.inr (.inr rfl)));exact ⟨e,f,g,i,λts r h=>B9n b c d h⟩
end
def U2 (p:zU) (i:Int):Bool:=A5y .i64 (p.Rules.fdiv (2 ^ min i.toNat 64)) 1==1
def lsS (p:zU):List RuS:=(if U2 p 0=true then [ru1 (p.Weak%400)] else [])++((if U2 p 1=true then [ru2 (p.Weak*3)] else [])++((if U2 p 2=true then [ru3] else [])++(if U2 p 3=true then [ru4 (p.Far%3) (p.Far%4)] else [])))
theorem Yv {p:zU} {x:RuS} (h:x∈lsS p):x=ru1 (p.Weak%400)\/x=ru2 (p.Weak*3)\/x=ru3\/x=ru4 (p.Far%3) (p.Far%4):=by
 unfold lsS at h;rcases List.mem_append.1 h with h|h
 ·split at h<;>simp at h;exact .inl h
 rcases List.mem_append.1 h with h|h
 ·split at h<;>simp at h;exact .inr (.inl h)
 rcases List.mem_append.1 h with h|h
 ·split at h<;>simp at h;exact .inr (.inr (.inl h))
 ·split at h<;>simp at h;exact .inr (.inr (.inr h))
theorem A3v (p:zU):(lsS p).length<=4:=by
 unfold lsS;simp only [List.length_append]
 split<;>split<;>split<;>split<;>simp
section
variable {F:Nat} {self_:zC->Option Bool}
theorem A0c {v:Int} (d:0<=v/\v<=1000000000):H3 (F+1) self_ (nm0 v)=some true:=by
 have b:decide ((if (0:Int)<if (0:Int)<v then 0 else v then 0 else if (0:Int)<v then 0 else v)<0)=false:=by
  have h0:(if (0:Int)<v then (0:Int) else v)=0:=by split<;>omega
  rw [h0];rfl
 have c:decide (v>1000000000)=false:=decide_eq_false om;unfold H3 nm0;simp only [b,c];rfl
theorem A22 {op:Int} (h:15<=op/\op<=24):H3 (F+1) self_ (nd0 op)=some true:=by
 have:op=15\/op=16\/op=17\/op=18\/op=19\/op=20\/op=21\/op=22\/op=23\/op=24:=om
 rcases this with rfl|rfl|rfl|rfl|rfl|rfl|rfl|rfl|rfl|rfl<;>rfl
theorem Wn {op:Int} (h:op=8\/op=10\/op=12) {a b:zC} (c:G2 a=true) (hb:G2 b=true) (sa:self_ a=some true) (sb_:self_ b=some true):H3 (F+3) self_ (nd2 op a b)=some true:=by
 have e:∀n,Hh self_ (nd2 op a b) (n+3) 0=some true:=by
  intro n;show G4 self_ (nd2 op a b) (Hh self_ (nd2 op a b) (n+2)) 0=_;unfold G4 nd2;rw [B8 (by rfl),show Av [a,b] 0=some a from rfl,sb,c,gdT (by rfl),sa,sb,Au (by rfl),ckb om];show G4 self_ (nd2 op a b) (Hh self_ (nd2 op a b) (n+1)) 1=_;unfold G4 nd2;rw [B8 (by rfl),show Av [a,b] 1=some b from rfl,sb,hb,gdT (by rfl),sb_,sb,Au (by rfl),ckb om];show G4 self_ (nd2 op a b) (Hh self_ (nd2 op a b) n) 2=_;unfold G4 nd2 R4;rw [Au (by rfl),B8 (by rcases h with rfl|rfl|rfl<;>rfl)]
 rcases h with rfl|rfl|rfl<;>exact e F
theorem A6y {op:Int} (h:op=4\/op=5) {a b:zC} (c:sift_isCondition a=true) (hb:sift_isCondition b=true) (sa:self_ a=some true) (sb_:self_ b=some true):H3 (F+3) self_ (nd2 op a b)=some true:=by
 have e:∀n,Hg self_ (nd2 op a b) (n+3) 0=some true:=by
  intro n;show G3 self_ (nd2 op a b) (Hg self_ (nd2 op a b) (n+2)) 0=_;unfold G3 nd2;rw [B8 (by rfl),show Av [a,b] 0=some a from rfl,sb,c,gdT (by rfl),sa,sb,Au (by rfl),ckb om];show G3 self_ (nd2 op a b) (Hg self_ (nd2 op a b) (n+1)) 1=_;unfold G3 nd2;rw [B8 (by rfl),show Av [a,b] 1=some b from rfl,sb,hb,gdT (by rfl),sb_,sb,Au (by rfl),ckb om];show G3 self_ (nd2 op a b) (Hg self_ (nd2 op a b) n) 2=_;unfold G3 nd2 R2;rw [Au (by rfl),B8 (by rcases h with rfl|rfl<;>rfl)]
 rcases h with rfl|rfl<;>exact e F
theorem B8u {a:zC} (b:sift_isCondition a=true) (sa:self_ a=some true):H3 (F+2) self_ ⟨25,0,1,1,[a]⟩=some true:=by
 show Ke self_ ⟨25,0,1,1,[a]⟩ (F+2) 0=some true;show Kc self_ ⟨25,0,1,1,[a]⟩ (Ke self_ ⟨25,0,1,1,[a]⟩ (F+1)) 0=_;unfold Kc;rw [B8 (by rfl),show Av [a] 0=some a from rfl,sb,b,gdT (by rfl),sa,sb,Au (by rfl),ckb om];show Kc self_ ⟨25,0,1,1,[a]⟩ (Ke self_ ⟨25,0,1,1,[a]⟩ F) 1=_;unfold Kc R3;rw [Au (by rfl),B8 (by rfl)]
end
structure CkR (F:Nat) (x:zR):Prop where
 nm:beam_Name F x.Name=some true/\sift_word F x.Name=some false
 ct:∃c,sift_counted F x.When 300=some c/\0<=c/\c<=20
 dp:∃d,sift_deep F x.When=some d/\d<=12
 st:sift_isCondition x.When=true/\sift_stated F x.When=some true
theorem A0s (F:Nat) {l:List UInt8} (h:l=[119,101,97,107]\/l=[111,100,100]\/l=[108,111,110,101]\/l=[102,97,114]):beam_Name F (tb l)=some true:=by
 rcases h with rfl|rfl|rfl|rfl<;>kernel_rfl
theorem B6y {F:Nat} (c:60<=F) {v:Int} (b:0<=v/\v<=1000000000):CkR F ⟨tb (ru1 v).name,(ru1 v).node⟩:=by
 have h:=Sa (F:=F) om (l:=(ru1 v).name) (.inl rfl);obtain ⟨F,rfl⟩:∃G,F=G+60:=⟨F-60,om⟩;refine ⟨⟨A0s _ (.inl rfl),h.2.2.1⟩,⟨3,rfl,om,om⟩,⟨2,rfl,om⟩,rfl,?_⟩;exact Wn (.inl rfl) rfl rfl (A22 om) (A0c b)
theorem B6z {F:Nat} (c:60<=F) {v:Int} (b:0<=v/\v<=1000000000):CkR F ⟨tb (ru2 v).name,(ru2 v).node⟩:=by
 have h:=Sa (F:=F) om (l:=(ru2 v).name) (.inr (.inl rfl));obtain ⟨F,rfl⟩:∃G,F=G+60:=⟨F-60,om⟩;refine ⟨⟨A0s _ (.inr (.inl rfl)),h.2.2.1⟩,⟨7,rfl,om,om⟩,⟨3,rfl,om⟩,rfl,?_⟩;exact A6y (.inr rfl) rfl rfl (Wn (.inr (.inr rfl)) rfl rfl (A22 om) (A0c om)) (Wn (.inr (.inl rfl)) rfl rfl (A22 om) (A0c b))
theorem B70 {F:Nat} (b:60<=F):CkR F ⟨tb ru3.name,ru3.node⟩:=by
 have h:=Sa (F:=F) om (l:=ru3.name) (.inr (.inr (.inl rfl)));obtain ⟨F,rfl⟩:∃G,F=G+60:=⟨F-60,om⟩;refine ⟨⟨A0s _ (.inr (.inr (.inl rfl))),h.2.2.1⟩,⟨10,rfl,om,om⟩,⟨5,rfl,om⟩,rfl,?_⟩;exact A6y (.inl rfl) rfl rfl (Wn (.inr (.inr rfl)) rfl rfl (A22 om) (A0c om)) (Wn (.inr (.inl rfl)) rfl rfl (B8u rfl (Wn (.inr (.inr rfl)) rfl rfl (A22 om) (A0c om))) (A0c om))
theorem B75 {F:Nat} (d:60<=F) {u v:Int} (b:0<=u/\u<=1000000000) (c:0<=v/\v<=1000000000):CkR F ⟨tb (ru4 u v).name,(ru4 u v).node⟩:=by
 have h:=Sa (F:=F) om (l:=(ru4 u v).name) (.inr (.inr (.inr rfl)));obtain ⟨F,rfl⟩:∃G,F=G+60:=⟨F-60,om⟩;refine ⟨⟨A0s _ (.inr (.inr (.inr rfl))),h.2.2.1⟩,⟨7,rfl,om,om⟩,⟨3,rfl,om⟩,rfl,?_⟩;exact A6y (.inl rfl) rfl rfl (Wn (.inr (.inl rfl)) rfl rfl (A22 om) (A0c b)) (Wn (.inr (.inr rfl)) rfl rfl (A22 om) (A0c c))
section
variable {F:Nat}
theorem A8z {K:List zR} {x:zR} (h:∀u∈K,Jg u x=false) (c:K.length<=10) (d:60<=F):Bt F K x=some false:=by
 have go:∀(q N i:Nat),i+q=K.length->q<N->Be K x N (i:Int)=some (-1):=by
  intro q
  induction q with
  | zero =>
   intro N i hi b;obtain ⟨N,rfl⟩:∃N',N=N'+1:=⟨N-1,om⟩;show Bc K x _ (i:Int)=_;unfold Bc;rw [Au (decide_eq_false om)];rfl
  | succ q ih =>
   intro N i hi b;obtain ⟨N,rfl⟩:∃N',N=N'+1:=⟨N-1,om⟩;show Bc K x (Be K x N) (i:Int)=_;unfold Bc;have hm:K.getD i default∈K:=by rw [List.getD_eq_getElem?_getD,List.getElem?_eq_getElem (by omega:i<K.length)];exact List.getElem_mem _
   rw [B8 (decide_eq_true om),J3 default om,Int.toNat_natCast,Au (h _ hm),ckb om];have:=ih N (i+1) om om;rw [Int.natCast_add] at this;exact this
 unfold Bt Cl;rw [show Be K x F 0=some (-1) from go K.length F 0 om om,sb];rfl
theorem B0h {L:List zR} (m:∀x∈L,CkR F x) (hd:L.Pairwise λu x=>Jg u x=false) (r:L.length<=4) (n:60<=F):Q8 F L=some 0:=by
 have go1:∀(q N i:Nat),i+q=L.length->q<N->Mv F L N (i:Int)=some 0:=by
  intro q
  induction q with
  | zero =>
   intro N i hi g;obtain ⟨N,rfl⟩:∃N',N=N'+1:=⟨N-1,om⟩;show La F L _ (i:Int)=_;unfold La;rw [Au (decide_eq_false om)];rfl
  | succ q ih =>
   intro N i hi g;obtain ⟨N,rfl⟩:∃N',N=N'+1:=⟨N-1,om⟩;have b:i<L.length:=om
   have k:L.getD i default=L[i]:=by rw [List.getD_eq_getElem?_getD,List.getElem?_eq_getElem b];rfl
   have e:=m _ (List.getElem_mem b);obtain ⟨d,d1,d2⟩:=e.dp;have f:Sx L 0 (i:Int)=some (L.take i):=by
    unfold Sx;rw [if_pos om];simp
   have l:∀u∈L.take i,Jg u L[i]=false:=by
    intro u o;obtain ⟨j,hj,rfl⟩:=List.mem_iff_getElem.1 o;rw [List.length_take] at hj;rw [List.getElem_take];exact List.pairwise_iff_getElem.1 hd j i om b om
   show La F L (Mv F L N) (i:Int)=_;unfold La;rw [B8 (decide_eq_true om),J3 default om,Int.toNat_natCast,k,e.nm.1,sb,gdT (by rfl),e.nm.2,sb,Au (by rfl),f,sb,A8z l (by rw [List.length_take];omega) n,sb,Au rfl,d1,sb,Au (decide_eq_false om),e.st.1,gdT (by rfl),e.st.2,sb,Au (by rfl),ckb om];have:=ih N (i+1) om om;rw [Int.natCast_add] at this;exact this
 have go2:∀(q N i:Nat) (s:Int),i+q=L.length->q<N->0<=s/\s<=20*(i:Int)->Mw F L N (i:Int) s=some 0:=by
  intro q
  induction q with
  | zero =>
   intro N i s hi g p;obtain ⟨N,rfl⟩:∃N',N=N'+1:=⟨N-1,om⟩;show Lb F L _ (i:Int) s=_;unfold Lb;rw [Au (decide_eq_false om)];exact go1 L.length F 0 om om
  | succ q ih =>
   intro N i s hi g p;obtain ⟨N,rfl⟩:∃N',N=N'+1:=⟨N-1,om⟩;have b:i<L.length:=om
   have k:L.getD i default=L[i]:=by rw [List.getD_eq_getElem?_getD,List.getElem?_eq_getElem b];rfl
   obtain ⟨c,c1,c2,c3⟩:=(m _ (List.getElem_mem b)).ct;show Lb F L (Mw F L N) (i:Int) s=_;unfold Lb;rw [B8 (decide_eq_true om),J3 default om,Int.toNat_natCast,k,c1,sb,ckb om,Au (decide_eq_false om),ckb om];have:=ih N (i+1) (s+c) om om om;rw [Int.natCast_add] at this;exact this
 unfold Q8;rw [Au (decide_eq_false om)];exact go2 L.length F 0 0 om om om
end
structure SfB (p:zU):Prop where
 rules:0<=p.Rules/\p.Rules<=255
 weak:0<=p.Weak/\p.Weak<=65535
 far:0<=p.Far/\p.Far<=255
theorem B7q (p:zU):(rlS (lsS p)).Pairwise λu x=>Jg u x=false:=by
 unfold lsS rlS;generalize U2 p 0=a;generalize U2 p 1=b;generalize U2 p 2=c;generalize U2 p 3=d;have key:∀a b c d:Bool,((if a=true then [[119,101,97,107]] else [])++((if b=true then [[111,100,100]] else [])++((if c=true then [[108,111,110,101]] else [])++(if d=true then [[102,97,114]] else []))):List (List UInt8)).Pairwise λu x=>sEq (tb u) (tb x)=false:=by decide
 have:=key a b c d
 cases a<;>cases b<;>cases c<;>cases d<;>first|(simp [Jg,ru1,ru2,ru3,ru4];done)|simpa [Jg,ru1,ru2,ru3,ru4] using this
theorem B1v {p:zU} (h:SfB p) {F:Nat} (b:60<=F):Q8 F (rlS (lsS p))=some 0:=by
 have e:=h.weak;have f:=h.far;refine B0h (λx c=>?_) (B7q p) (by unfold rlS;rw [List.length_map];exact A3v p) b;obtain ⟨y,d,rfl⟩:=List.mem_map.1 c;rcases Yv d with rfl|rfl|rfl|rfl
 ·exact B6y b om
 ·exact B6z b om
 ·exact B70 b
 ·exact B75 b om om
theorem Ku {a b:List UInt8} (h:a.length+b.length<=1000000):Jd (tb a) (tb b)=some (tb (a++b)):=by
 unfold Jd;rw [H4,H4,if_pos om];rfl
def txR (x:RuS):List UInt8:=txt (itR x)
theorem B5p (a b:List (List UInt8×List UInt8)):txt (a++b)=txt a++txt b:=List.flatMap_append
theorem Ru {v:Int} (h:0<=v/\v<=1000000):(Lib.itoa v).length<=10:=A1f om
section
variable {F:Nat} {p:zU} {t1 t2 t4:List UInt8}
theorem A0x (d:0<=p.Rules/\p.Rules<=255) {A T:List UInt8} {i:Nat} (hi:i<4) (e:A.length+T.length<=100000) (c:Av ([tb t1,tb t2,(⟨#[108,111,110,101,58,32,107,105,110,100,32,61,32,51,32,97,110,100,32,99,111,117,110,116,32,49,32,49,32,107,105,110,100,32,61,32,49,32,62,32,52,59]⟩:ByteArray),tb t4]) (i:Int)=some (tb T)) (N:Nat) :
  Dx p (tb t1) (tb t2) (tb t4) (N+1) (tb A) (i:Int)=Dx p (tb t1) (tb t2) (tb t4) N (tb (A++if U2 p (i:Int)=true then T else [])) ((i+1:Nat):Int):=by
 show F2 p (tb t1) (tb t2) (tb t4) (Dx p (tb t1) (tb t2) (tb t4) N) (tb A) (i:Int)=_;have b:B2x .i64 p.Rules (i:Int)=some (p.Rules.fdiv (2 ^ min (i:Int).toNat 64)):=by
  unfold B2x;rw [if_pos om];rfl
 unfold F2 Kg;rw [B8 (decide_eq_true om),ckb om,b,sb];have eb:(A5y .i64 (p.Rules.fdiv (2 ^ min (i:Int).toNat 64)) 1==1)=U2 p (i:Int):=rfl;rw [eb]
 cases hb:U2 p (i:Int) with
 | true=>rw [B8 rfl,c,sb,Ku om,sb,ckb om,if_pos rfl];rfl
 | false=>rw [Au rfl,ckb om,if_neg dc,List.append_nil];rfl
end
theorem B9v:Lib.itoa 2=[50]:=by rw [show (2:Int)=((2:Nat):Int) from rfl,Lib.itoa_nonneg,Lib.decDigits,dif_pos om];rfl
theorem B9w:Lib.itoa 3=[51]:=by rw [show (3:Int)=((3:Nat):Int) from rfl,Lib.itoa_nonneg,Lib.decDigits,dif_pos om];rfl
theorem B9u:Lib.itoa 1=[49]:=by rw [show (1:Int)=((1:Nat):Int) from rfl,Lib.itoa_nonneg,Lib.decDigits,dif_pos om];rfl
theorem B9x:Lib.itoa 4=[52]:=by rw [show (4:Int)=((4:Nat):Int) from rfl,Lib.itoa_nonneg,Lib.decDigits,dif_pos om];rfl
theorem B2s:txR ru3=[108,111,110,101,58,32,107,105,110,100,32,61,32,51,32,97,110,100,32,99,111,117,110,116,32,49,32,49,32,107,105,110,100,32,61,32,49,32,62,32,52,59]:=by
 unfold txR ru3 itR;rw [B9u,B9w,B9x];rfl
theorem B2r (v:Int):txR (ru2 v)=[111,100,100,58,32,107,105,110,100,32,61,32,50,32,111,114,32,115,112,114,101,97,100,32,62,32]++Lib.itoa v++[59]:=by
 unfold txR ru2 itR;rw [B9v,List.append_assoc];rfl
theorem B2q (v:Int):txR (ru1 v)=[119,101,97,107,58,32,112,111,119,101,114,32,60,32]++Lib.itoa v++[59]:=by
 rw [List.append_assoc];rfl
theorem B2t (u v:Int):txR (ru4 u v)=[102,97,114,58,32,103,97,116,101,32,62,32]++Lib.itoa u++[32,97,110,100,32,114,97,121,32,61,32]++Lib.itoa v++[59]:=by
 simp only [List.append_assoc];rfl
theorem Wt {x:RuS} (h:(∃v,(0<=v/\v<=1000000)/\(x=ru1 v\/x=ru2 v))\/x=ru3\/∃u v,(0<=u/\u<=1000000)/\(0<=v/\v<=1000000)/\x=ru4 u v):(txR x).length<=100:=by
 rcases h with ⟨v,b,rfl|rfl⟩|rfl|⟨u,v,c,b,rfl⟩
 ·have:=Ru b;rw [B2q];simp;omega
 ·have:=Ru b;rw [B2r];simp;omega
 ·rw [B2s];decide
 ·have:=Ru c;have:=Ru b;rw [B2t];simp;omega
theorem B7s {p:zU} (h:SfB p):∀x∈lsS p,(txR x).length<=100:=by
 have c:=h.weak;have d:=h.far;intro x b;rcases Yv b with rfl|rfl|rfl|rfl
 ·exact Wt (.inl ⟨_,om,.inl rfl⟩)
 ·exact Wt (.inl ⟨_,om,.inr rfl⟩)
 ·exact Wt (.inr (.inl rfl))
 ·exact Wt (.inr (.inr ⟨_,_,om,om,rfl⟩))
def tlS (L:List RuS):List UInt8:=txt (L.flatMap itR)
theorem A4a (a b:List RuS):tlS (a++b)=tlS a++tlS b:=by unfold tlS;rw [List.flatMap_append,B5p]
theorem B3c (x:RuS):tlS [x]=txR x:=by unfold tlS txR;simp
theorem B3b:∀L:List RuS,(∀x∈L,(txR x).length<=100)->(tlS L).length<=100*L.length
 | [],_=>by simp [tlS,txt]
 | x::L,h=>by
  have c:=h x (List.mem_cons_self ..);have d:=B3b L λy b=>h y (List.mem_cons_of_mem _ b);rw [show x::L=[x]++L from rfl,A4a,B3c,List.length_append,List.length_append,List.length_singleton];omega
theorem B5l {p:zU} (h:SfB p) {F:Nat} (d:60<=F):Kq F p=some (tb (tlS (lsS p))):=by
 have e:=h.weak;have f:=h.far;have s1:=Uk 9 (p.Weak%400).toNat om om om F om;have s2:=Uk 9 (p.Weak*3).toNat om om om F om;have s3:=Uk 9 (p.Far%3).toNat om om om F om;have s4:=Uk 9 (p.Far%4).toNat om om om F om;rw [Int.toNat_of_nonneg om] at s1 s2 s3 s4;have l1:=Ru (v:=p.Weak%400) om;have l2:=Ru (v:=p.Weak*3) om;have l3:=Ru (v:=p.Far%3) om;have l4:=Ru (v:=p.Far%4) om;have c1:Jd (⟨#[119,101,97,107,58,32,112,111,119,101,114,32,60,32]⟩:ByteArray) (tb (Lib.itoa (p.Weak%400)))=some (tb ([119,101,97,107,58,32,112,111,119,101,114,32,60,32]++Lib.itoa (p.Weak%400))):=Ku (by simp;omega);have c2:Jd (tb ([119,101,97,107,58,32,112,111,119,101,114,32,60,32]++Lib.itoa (p.Weak%400))) (⟨#[59]⟩:ByteArray)=some (tb (txR (ru1 (p.Weak%400)))):=by
  rw [B2q];exact Ku (by simp;omega)
 have c3:Jd (⟨#[111,100,100,58,32,107,105,110,100,32,61,32,50,32,111,114,32,115,112,114,101,97,100,32,62,32]⟩:ByteArray) (tb (Lib.itoa (p.Weak*3)))=some (tb ([111,100,100,58,32,107,105,110,100,32,61,32,50,32,111,114,32,115,112,114,101,97,100,32,62,32]++Lib.itoa (p.Weak*3))):=Ku (by simp;omega);have c4:Jd (tb ([111,100,100,58,32,107,105,110,100,32,61,32,50,32,111,114,32,115,112,114,101,97,100,32,62,32]++Lib.itoa (p.Weak*3))) (⟨#[59]⟩:ByteArray)=some (tb (txR (ru2 (p.Weak*3)))):=by
  rw [B2r];exact Ku (by simp;omega)
 have c5:Jd (⟨#[102,97,114,58,32,103,97,116,101,32,62,32]⟩:ByteArray) (tb (Lib.itoa (p.Far%3)))=some (tb ([102,97,114,58,32,103,97,116,101,32,62,32]++Lib.itoa (p.Far%3))):=Ku (by simp;omega);have c6:Jd (tb ([102,97,114,58,32,103,97,116,101,32,62,32]++Lib.itoa (p.Far%3))) (⟨#[32,97,110,100,32,114,97,121,32,61,32]⟩:ByteArray)=some (tb ([102,97,114,58,32,103,97,116,101,32,62,32]++Lib.itoa (p.Far%3)++[32,97,110,100,32,114,97,121,32,61,32])):=Ku (by simp;omega);have c7:Jd (tb ([102,97,114,58,32,103,97,116,101,32,62,32]++Lib.itoa (p.Far%3)++[32,97,110,100,32,114,97,121,32,61,32])) (tb (Lib.itoa (p.Far%4)))=some (tb ([102,97,114,58,32,103,97,116,101,32,62,32]++Lib.itoa (p.Far%3)++[32,97,110,100,32,114,97,121,32,61,32]++Lib.itoa (p.Far%4))):=Ku (by simp;omega);have c8:Jd (tb ([102,97,114,58,32,103,97,116,101,32,62,32]++Lib.itoa (p.Far%3)++[32,97,110,100,32,114,97,121,32,61,32]++Lib.itoa (p.Far%4))) (⟨#[59]⟩:ByteArray)=some (tb (txR (ru4 (p.Far%3) (p.Far%4)))):=by
  rw [B2t];exact Ku (by simp;omega)
 have x1:(txR (ru1 (p.Weak%400))).length<=100:=Wt (.inl ⟨_,om,.inl rfl⟩);have x2:(txR (ru2 (p.Weak*3))).length<=100:=Wt (.inl ⟨_,om,.inr rfl⟩);have x3:(txR ru3).length<=100:=Wt (.inr (.inl rfl));have x4:(txR (ru4 (p.Far%3) (p.Far%4))).length<=100:=Wt (.inr (.inr ⟨_,_,om,om,rfl⟩));unfold Kq;rw [ckb om,Tv om om,sb,s1,sb,c1,sb,c2,sb,ckb om,ckb om,s2,sb,c3,sb,c4,sb,ckb om,Tv om om,sb,s3,sb,c5,sb,c6,sb,ckb om,Tv om om,sb,s4,sb,c7,sb,c8,sb];obtain ⟨N,rfl⟩:∃N,F=N+5:=⟨F-5,om⟩;have iL:∀(b:Bool) {T:List UInt8},T.length<=100->(if b=true then T else []).length<=100:=by intro b T c;cases b<;>simp;exact c
 have y1:=iL (U2 p 0) x1;have y2:=iL (U2 p 1) x2;have y3:=iL (U2 p 2) x3;have y4:=iL (U2 p 3) x4;have g1:=A0x (p:=p) (t1:=txR (ru1 (p.Weak%400))) (t2:=txR (ru2 (p.Weak*3))) (t4:=txR (ru4 (p.Far%3) (p.Far%4))) h.rules (A:=[]) (T:=txR (ru1 (p.Weak%400))) (i:=0) om (by simp;omega) rfl (N+4);have g2:=A0x (p:=p) (t1:=txR (ru1 (p.Weak%400))) (t2:=txR (ru2 (p.Weak*3))) (t4:=txR (ru4 (p.Far%3) (p.Far%4))) h.rules (A:=[]++if U2 p 0=true then txR (ru1 (p.Weak%400)) else []) (T:=txR (ru2 (p.Weak*3))) (i:=1) om (by rw [List.nil_append];omega) rfl (N+3);have g3:=A0x (p:=p) (t1:=txR (ru1 (p.Weak%400))) (t2:=txR (ru2 (p.Weak*3))) (t4:=txR (ru4 (p.Far%3) (p.Far%4))) h.rules (A:=([]++if U2 p 0=true then txR (ru1 (p.Weak%400)) else [])++if U2 p 1=true then txR (ru2 (p.Weak*3)) else []) (T:=txR ru3) (i:=2) om (by rw [List.nil_append,List.length_append];omega) (by rw [B2s];rfl) (N+2);have g4:=A0x (p:=p) (t1:=txR (ru1 (p.Weak%400))) (t2:=txR (ru2 (p.Weak*3))) (t4:=txR (ru4 (p.Far%3) (p.Far%4))) h.rules (A:=(([]++if U2 p 0=true then txR (ru1 (p.Weak%400)) else [])++if U2 p 1=true then txR (ru2 (p.Weak*3)) else [])++if U2 p 2=true then txR ru3 else []) (T:=txR (ru4 (p.Far%3) (p.Far%4))) (i:=3) om (by rw [List.nil_append,List.length_append,List.length_append];omega) rfl (N+1);refine g1.trans (g2.trans (g3.trans (g4.trans ?_)));show F2 p _ _ _ (Dx p _ _ _ N) _ ((4:Nat):Int)=_;unfold F2 Mk;rw [Au (by rfl)]
 congr 2
 have ti:∀(b:Bool) (x:RuS),tlS (if b=true then [x] else [])=if b=true then txR x else []:=by
  intro b x
  cases b
  ·rfl
  ·exact B3c x
 unfold lsS;rw [A4a,A4a,A4a,ti,ti,ti,ti,List.nil_append,List.append_assoc,List.append_assoc];rfl
theorem wdK:∀op:Int,(15<=op/\op<=25)\/op=4\/op=5->Kd (wdS op):=by
 intro op h;have:op=15\/op=16\/op=17\/op=18\/op=19\/op=20\/op=21\/op=22\/op=23\/op=24\/op=25\/op=4\/op=5:=om
 rcases this with rfl|rfl|rfl|rfl|rfl|rfl|rfl|rfl|rfl|rfl|rfl|rfl|rfl<;>exact .inl ⟨_,_,rfl,dc,dc⟩
theorem sgK:∀op:Int,op=8\/op=10\/op=12->Kd (wdS op):=by
 rintro op (rfl|rfl|rfl)<;>exact .inr (.inr (.inr ⟨_,rfl,dc⟩))
theorem nmK {l:List UInt8} (h:l=[119,101,97,107]\/l=[111,100,100]\/l=[108,111,110,101]\/l=[102,97,114]):Kd l:=by
 rcases h with rfl|rfl|rfl|rfl<;>exact .inl ⟨_,_,rfl,dc,dc⟩
theorem itK {v:Int} (h:0<=v):Kd (Lib.itoa v):=.inr (.inl ⟨v,h,rfl⟩)
theorem w1:White ([32]:List UInt8):=by intro c b;simp at b;rw [b];decide
theorem w0:White ([]:List UInt8):=by intro c b;cases b
theorem sgc:Kd [58]/\Kd [59]:=⟨.inr (.inr (.inr ⟨_,rfl,dc⟩)),.inr (.inr (.inr ⟨_,rfl,dc⟩))⟩
structure TkR (x:RuS):Prop where
 nm:Kd x.name
 tk:∀p∈x.toks,p.1=[32]/\Kd p.2
theorem B7r {p:zU} (h:SfB p):∀x∈lsS p,TkR x:=by
 have d:=h.weak;have e:=h.far;intro x c;rcases Yv c with rfl|rfl|rfl|rfl
 ·refine ⟨nmK (.inl rfl),λq b=>?_⟩;simp only [ru1,List.mem_cons,List.not_mem_nil,or_false] at b;rcases b with rfl|rfl|rfl
  ·exact ⟨rfl,wdK _ om⟩
  ·exact ⟨rfl,sgK _ om⟩
  ·refine ⟨rfl,itK ?_⟩;omega
 ·refine ⟨nmK (.inr (.inl rfl)),λq b=>?_⟩;simp only [ru2,List.mem_cons,List.not_mem_nil,or_false] at b;rcases b with rfl|rfl|rfl|rfl|rfl|rfl|rfl
  ·exact ⟨rfl,wdK _ om⟩
  ·exact ⟨rfl,sgK _ om⟩
  ·exact ⟨rfl,itK (v:=2) om⟩
  ·exact ⟨rfl,wdK _ om⟩
  ·exact ⟨rfl,wdK _ om⟩
  ·exact ⟨rfl,sgK _ om⟩
  ·refine ⟨rfl,itK ?_⟩;omega
 ·refine ⟨nmK (.inr (.inr (.inl rfl))),λq b=>?_⟩;simp only [ru3,List.mem_cons,List.not_mem_nil,or_false] at b;rcases b with rfl|rfl|rfl|rfl|rfl|rfl|rfl|rfl|rfl|rfl|rfl|rfl<;>first|exact ⟨rfl,wdK _ om⟩|exact ⟨rfl,sgK _ om⟩|exact ⟨rfl,itK (v:=1) om⟩|exact ⟨rfl,itK (v:=3) om⟩|exact ⟨rfl,itK (v:=4) om⟩
 ·refine ⟨nmK (.inr (.inr (.inr rfl))),λq b=>?_⟩;simp only [ru4,List.mem_cons,List.not_mem_nil,or_false] at b;rcases b with rfl|rfl|rfl|rfl|rfl|rfl|rfl
  ·exact ⟨rfl,wdK _ om⟩
  ·exact ⟨rfl,sgK _ om⟩
  ·refine ⟨rfl,itK ?_⟩;omega
  ·exact ⟨rfl,wdK _ om⟩
  ·exact ⟨rfl,wdK _ om⟩
  ·exact ⟨rfl,sgK _ om⟩
  ·refine ⟨rfl,itK ?_⟩;omega
theorem B63:∀(l k:List (List UInt8×List UInt8)) (prev:List UInt8),(∀p∈l,p.1=[32])->(∀q,Cn q k)->Cn prev (l++k)
 | [],k,prev,_,b=>b prev
 | p::l,k,prev,h,b=>⟨.inr (.inr (.inl (by rw [h p (List.mem_cons_self ..)];simp))),B63 l k p.2 (λq c=>h q (List.mem_cons_of_mem _ c)) b⟩
theorem B0l:∀(L:List RuS) (prev:List UInt8),(∀x∈L,TkR x)->(prev=[]\/prev=[59])->Cn prev (L.flatMap itR)
 | [],_,_,_=>trivial
 | x::L,prev,h,b=>by
  have d:=h x (List.mem_cons_self ..);have ih:=B0l L [59] (λy c=>h y (List.mem_cons_of_mem _ c)) (.inr rfl);rw [List.flatMap_cons];refine ⟨?_,.inr (.inr (.inr ?_)),?_⟩
  ·rcases b with b|b
   ·exact .inl b
   ·exact .inr (.inl (by rw [b];exact .inr (.inr (.inr rfl))))
  ·intro y c;cases c;decide
  ·show Cn [58] ((x.toks++[([],[59])])++L.flatMap itR);rw [List.append_assoc];exact B63 _ _ _ (λp b=>(d.tk p b).1) λq=>⟨.inr (.inr (.inr λy c=>by cases c;decide)),ih⟩
theorem B3q {p:zU} (h:SfB p) {F:Nat} (j:70000<=F):T7 F (tb (tlS (lsS p)))=some (rlS (lsS p),0,0):=by
 have k:=h.weak;have l:=h.far;have d:=B3b (lsS p) (B7s h);have m:=A3v p;have f:=B7r h;have i:∀q∈(lsS p).flatMap itR,White q.1/\Kd q.2:=by
  intro q b;obtain ⟨x,c,b⟩:=List.mem_flatMap.1 b;have g:=f x c;unfold itR at b;rcases List.mem_cons.1 b with rfl|b
  ·exact ⟨w0,g.nm⟩
  rcases List.mem_cons.1 b with rfl|b
  ·exact ⟨w0,sgc.1⟩
  rcases List.mem_append.1 b with b|b
  ·obtain ⟨a1,a2⟩:=g.tk q b;exact ⟨by rw [a1];exact w1,a2⟩
  ·simp at b;rw [b];exact ⟨w0,sgc.2⟩
 obtain ⟨r',n1,n2⟩:=B8w (S:=tlS (lsS p)) (B:=60100) om om (w0:=[]) (e:=[]) w0 rfl sm ((lsS p).flatMap itR) 0 [] 0 om (by rw [List.drop_zero];simp [tlS]) i (B0l _ _ f (.inl rfl));obtain ⟨r2,q⟩:=A6s (B:=60100) (F:=F) (L:=lsS p) (λx c=>by
  rcases Yv c with rfl|rfl|rfl|rfl
  ·exact B8l om om
  ·exact B8m om om
  ·exact B8n om
  ·exact B8o om om om) om om (n1 F om) n2
 unfold T7;rw [H4,Au (dF om),show Gl F ⟨tb (tlS (lsS p)),0,ByteArray.empty,0⟩=_ from q,sbd,exk];dsimp only;rw [B1v h om,sbd,Au (neF rfl)]
def Tx (F:Nat) (n:zC) (k:Nat):Prop:=∃l:List UInt8,M3 F n=some (tb l)/\l.length<=k
theorem A4c (op:Int):(wdS op).length<=6:=by
 have key:∀i:Fin 28,((Cf.1[i.val]?).getD ⟨#[]⟩).data.toList.length<=6:=by decide
 unfold wdS
 by_cases h:op.toNat<28
 ·exact key ⟨op.toNat,h⟩
 ·rw [List.getElem?_eq_none (by rw [Cf.2];omega)];simp
section
variable {F k:Nat}
theorem A7s (F:Nat) {v:Int} (b:0<=v/\v<=1000000):strconv_Itoa F v=some (tb (Lib.itoa v)):=by
 unfold strconv_Itoa;rw [if_pos om];rfl
theorem B6g {v:Int} (b:0<=v/\v<=1000000):Tx (F+1) (nm0 v) 10:=by
 refine ⟨Lib.itoa v,?_,Ru b⟩;show Hj F (M3 F) (nm0 v)=_;unfold Hj nm0;simp only;rw [wdb om,B8 (by rfl),A7s F b,sb]
theorem C0l {op:Int} (h:15<=op/\op<=24):Tx (F+1) (nd0 op) 10:=by
 refine ⟨wdS op,?_,by have:=A4c op;omega⟩;show Hj F (M3 F) (nd0 op)=_;unfold Hj nd0;simp only;rw [wdb om,Au (eqF om),Au (eqF om),Au (by rfl),B8 (by rfl)]
theorem A25 {op:Int} (h:4<=op/\op<=13) {a b:zC} (c:Tx F a k) (hb:Tx F b k) (e:k<=1000):Tx (F+1) (nd2 op a b) (2*k+20):=by
 obtain ⟨la,a1,a2⟩:=c;obtain ⟨lb,b1,b2⟩:=hb;have f:=A4c op;have c1:Jd (tb la) (⟨#[32]⟩:ByteArray)=some (tb (la++[32])):=Ku (by simp;omega);have c2:Jd (tb (la++[32])) (tb (wdS op))=some (tb (la++[32]++wdS op)):=Ku (by simp;omega);have c3:Jd (tb (la++[32]++wdS op)) (⟨#[32]⟩:ByteArray)=some (tb (la++[32]++wdS op++[32])):=Ku (by simp;omega);have c4:Jd (tb (la++[32]++wdS op++[32])) (tb lb)=some (tb (la++[32]++wdS op++[32]++lb)):=Ku (by simp;omega);have c5:Jd (⟨#[40]⟩:ByteArray) (tb (la++[32]++wdS op++[32]++lb))=some (tb ([40]++(la++[32]++wdS op++[32]++lb))):=Ku (by simp;omega);have c6:Jd (tb ([40]++(la++[32]++wdS op++[32]++lb))) (⟨#[41]⟩:ByteArray)=some (tb ([40]++(la++[32]++wdS op++[32]++lb)++[41])):=Ku (by simp;omega);refine ⟨[40]++(la++[32]++wdS op++[32]++lb)++[41],?_,by simp;omega⟩;show Hj F (M3 F) (nd2 op a b)=_;unfold Hj nd2;simp only;rw [wdb om]
 by_cases d:op=3
 ·omega
 ·rw [Au (eqF om),Au (eqF d),Au (by rfl),Au (by rfl),show Av [a,b] 0=some a from rfl,sb,a1,sb,c1,sb,c2,sb,c3,sb,show Av [a,b] 1=some b from rfl,sb,b1,sb,c4,sb,B8 (decide_eq_true om),c5,sb,c6,sb]
theorem B93 {a:zC} (b:Tx F a k) (c:k<=1000):Tx (F+1) ⟨25,0,1,1,[a]⟩ (k+40):=by
 obtain ⟨la,a1,a2⟩:=b;have d:=A4c 25;have e1:=A7s F (v:=1) om;have l1:=Ru (v:=1) om;generalize Lib.itoa 1=q at *;have c1:Jd (tb (wdS 25)) (⟨#[32]⟩:ByteArray)=some (tb (wdS 25++[32])):=Ku (by simp;omega);have c2:Jd (tb (wdS 25++[32])) (tb q)=some (tb (wdS 25++[32]++q)):=Ku (by simp;omega);have c3:Jd (tb (wdS 25++[32]++q)) (⟨#[32]⟩:ByteArray)=some (tb (wdS 25++[32]++q++[32])):=Ku (by simp;omega);have c4:Jd (tb (wdS 25++[32]++q++[32])) (tb q)=some (tb (wdS 25++[32]++q++[32]++q)):=Ku (by simp;omega);have c5:Jd (tb (wdS 25++[32]++q++[32]++q)) (⟨#[32]⟩:ByteArray)=some (tb (wdS 25++[32]++q++[32]++q++[32])):=Ku (by simp;omega);have c6:Jd (tb (wdS 25++[32]++q++[32]++q++[32])) (tb la)=some (tb (wdS 25++[32]++q++[32]++q++[32]++la)):=Ku (by simp;omega);refine ⟨wdS 25++[32]++q++[32]++q++[32]++la,?_,by simp;omega⟩;show Hj F (M3 F) ⟨25,0,1,1,[a]⟩=_;unfold Hj;simp only;rw [wdb om,Au (by rfl),Au (by rfl),B8 (by rfl),c1,sb,e1,sb,c2,sb,c3,sb,sb,c4,sb,c5,sb,show Av [a] 0=some a from rfl,sb,a1,sb,c6,sb]
end
theorem Yf {α:Type} (L:Nat->Int->Int->List α->Option (List α)) (f:Int->Option α) (c:∀n x i l,L (n+1) x i l=bif decide (i<x) then (f i).bind λy=>(Av l i).bind λ_=>(Ka l i y).bind λl'=>(ck (i+1)).bind λj=>L n x j l' else some l) {M:Nat} (s:M<=1000) (e:∀k:Nat,k<M->∃y,f k=some y) :
  ∀(q N i:Nat) (l:List α),i+q=M->q<N->l.length=M->∃l',L N (M:Int) (i:Int) l=some l'/\l'.length=M:=by
 intro q
 induction q with
 | zero =>
  intro N i l hi g b;obtain ⟨N,rfl⟩:∃N',N=N'+1:=⟨N-1,om⟩;rw [c,Au (decide_eq_false om)];exact ⟨l,rfl,b⟩
 | succ q ih =>
  intro N i l hi g b;obtain ⟨N,rfl⟩:∃N',N=N'+1:=⟨N-1,om⟩;obtain ⟨y,m⟩:=e i om;have o:Av l (i:Int)=some (l[i]'om):=by
   unfold Av;rw [if_pos om,Int.toNat_natCast,List.getElem?_eq_getElem om]
  have p:Ka l (i:Int) y=some (l.set i y):=by
   unfold Ka;rw [if_pos om,Int.toNat_natCast]
  rw [c,B8 (decide_eq_true om),m,sb,o,sb,p,sb,ckb om];obtain ⟨l',d,r⟩:=ih N (i+1) (l.set i y) om om (by rw [List.length_set];exact b);rw [Int.natCast_add] at d;exact ⟨l',d,r⟩
structure ScB (s:zJ) (n m:Nat) (x:zN):Prop where
 sc:x.s=s
 nn:x.n=((n*m:Nat):Int)
 tt:∀p∈x.tests,p.2.length=n*m
 vv:∀p∈x.values,p.2.length=n*m
structure SwB (s:zJ) (n m:Nat):Prop where
 hn:s.Rays.length=n/\1<=n/\n<=12
 hm:s.Site.Gates=(m:Int)/\1<=m/\m<=12
 hr:∀a<n,(s.Rays.getD a []).length=m
theorem B1t {ν:Type}:∀(L:List (ByteArray×ν)) (k:ByteArray) (v:ν),lkM L k=some v->∃p∈L,p.2=v
 | [],k,v,h=>by simp [lkM] at h
 | p::L,k,v,h=>by
  unfold lkM at h
  split at h
  ·cases h;exact ⟨p,List.mem_cons_self ..,rfl⟩
  ·obtain ⟨q,b,c⟩:=B1t L k v h;exact ⟨q,List.mem_cons_of_mem _ b,c⟩
theorem A73 {ν:Type}:∀(L:List (ByteArray×ν)) (k:ByteArray) (v:ν) (p:ByteArray×ν),p∈upM L k v->p∈L\/p.2=v
 | [],k,v,p,h=>by simp [upM] at h;right;rw [h]
 | q::L,k,v,p,h=>by
  unfold upM at h
  split at h
  ·rcases List.mem_cons.1 h with h|h
   ·right;rw [h]
   ·left;exact List.mem_cons_of_mem _ h
  ·rcases List.mem_cons.1 h with h|h
   ·left;rw [h];exact List.mem_cons_self ..
   ·rcases A73 L k v p h with h|h
    ·left;exact List.mem_cons_of_mem _ h
    ·right;exact h
section
variable {s:zJ} {n m F:Nat}
theorem SwB.nm (h:SwB s n m):n*m<=144/\1<=n*m:=by
 have c:=h.hn;have d:=h.hm;have a:=Nat.mul_le_mul c.2.2 d.2.2;have b:=Nat.mul_le_mul c.2.1 d.2.1;omega
theorem A7n (h:SwB s n m) {k:Nat} (c:k<n*m):∃a b:Nat,a<n/\b<m/\Qy (k:Int) (m:Int)=some (a:Int)/\Jr (k:Int) (m:Int)=some (b:Int):=by
 have f:=h.hm;have d:=h.nm;refine ⟨k/m,k%m,Nat.div_lt_of_lt_mul (by rw [Nat.mul_comm];exact c),Nat.mod_lt _ om,?_,?_⟩
 ·have:=Nat.div_le_self k m;obtain ⟨a,e⟩:∃a,k/m=a:=⟨_,rfl⟩;unfold Qy;rw [if_neg om,Int.tdiv_eq_ediv_of_nonneg om,←Int.natCast_ediv,e];exact ck1 om
 ·rw [Tv om om];rfl
theorem B10 (h:SwB s n m) {x:zN} (c:x.s=s) {op v:Int} (ho:op=14\/op=15\/op=18\/op=21\/op=22\/op=23) {k:Nat} (d:k<n*m):∃y,Gn F (k:Int) (some x) ⟨op,v,0,0,[]⟩=some y:=by
 obtain ⟨a,b,g1,g2,e,hm⟩:=A7n h d;have g:=h.hn;have f:=h.hm;have hr:=h.hr a g1;unfold Gn;rw [sb,c,f.1,e,sb,J3 [] om,Int.toNat_natCast,hm,sb,J3 default om,Int.toNat_natCast];rcases ho with rfl|rfl|rfl|rfl|rfl|rfl
 ·exact ⟨_,rfl⟩
 ·exact ⟨_,rfl⟩
 ·show ∃y,(bif (_:Bool) then _ else _)=some y
  cases ((s.Rays.getD a []).getD b default).Kind==1<;>exact ⟨_,rfl⟩
 ·exact ⟨_,rfl⟩
 ·simp only;exact ⟨_,rfl⟩
 ·simp only;exact ⟨_,rfl⟩
theorem A8t (h:SwB s n m) (e:1000<=F) {x:zN} (b:ScB s n m x) {op v:Int} (ho:op=14\/op=15\/op=18\/op=21\/op=22\/op=23):∃l,Jq F (some x) ⟨op,v,0,0,[]⟩=some l/\l.length=n*m:=by
 have c:=h.nm;have key:=Yf (Cw F (some (zN.mk x.s x.n ([]:(List (ByteArray×(List Int)))) ([]:(List (ByteArray×(List zG)))))) ⟨op,v,0,0,[]⟩) (λi=>Gn F i (some (zN.mk x.s x.n ([]:(List (ByteArray×(List Int)))) ([]:(List (ByteArray×(List zG)))))) ⟨op,v,0,0,[]⟩) (λ_ _ _ _=>rfl) (M:=n*m) om (λk d=>B10 (F:=F) h b.sc ho d) (n*m) F 0 (List.replicate (n*m) (zG.mk (zA.mk 0 0) false)) om om sm;obtain ⟨l,l1,l2⟩:=key;refine ⟨l,?_,l2⟩;unfold Jq Gz;rw [sb,b.nn,mkb om om,List.length_replicate];rw [show Cw F (some (zN.mk x.s ((n*m:Nat):Int) ([]:(List (ByteArray×(List Int)))) ([]:(List (ByteArray×(List zG)))))) ⟨op,v,0,0,[]⟩ F ((n*m:Nat):Int) 0 (List.replicate (n*m) (zG.mk (zA.mk 0 0) false))=some l by rw [←b.nn];rw [←b.nn] at l1;exact l1,sb]
theorem B1k {σ:Type} (h:SwB s n m) {d:zN} (hd:d.s=s) {body:σ->Int->Option (σ×Bool)} {P:Nat->σ->Prop} (hb:∀c st (o:Nat),P c st->o<n*m->c<=1000->∃st',body st (o:Int)=some (st',true)/\P (c+1) st') (e:∀c st,P c st->P (c+1) st) {c1:Int} {i:Nat} (hi:i<m) {b:Int} (v:-1<=b/\b<=100) (k2:Int->σ->Option (σ×Bool)) :
  ∀(q N j c:Nat) (st:σ),j+q=m+1->q<N->c+q<=1000->P c st->∃st',E6 body c1 1 d (i:Int) b k2 N (j:Int) st=k2 (b+1) st'/\P (c+q) st':=by
 have x:=h.hn;have t:=h.hm;intro q
 induction q with
 | zero =>
  intro N j c st hj y z l;obtain ⟨N,rfl⟩:∃N',N=N'+1:=⟨N-1,om⟩;refine ⟨st,?_,l⟩;show De body c1 1 d (i:Int) b k2 _ (j:Int) st=_;unfold De Fy;rw [hd,t.1,ckb om,ckb om,Au (decide_eq_false (by split<;>omega)),ckb om]
 | succ q ih =>
  intro N j c st hj y z l;obtain ⟨N,rfl⟩:∃N',N=N'+1:=⟨N-1,om⟩;show ∃st',De body c1 1 d (i:Int) b k2 (E6 body c1 1 d (i:Int) b k2 N) (j:Int) st=_/\_;unfold De Fy;rw [hd,t.1,ckb om,ckb om]
  by_cases f:(j:Int)<=(if (i:Int)+1<(m:Int)-1 then (i:Int)+1 else (m:Int)-1)
  ·have b0:j<m:=by split at f<;>omega
   obtain ⟨a,u⟩:∃a:Nat,(b+(n:Int))%(n:Int)=(a:Int)/\a<n:=by
    have e1:=Int.emod_nonneg (b+(n:Int)) (show (n:Int)≠0 by omega);have e2:=Int.emod_lt_of_pos (b+(n:Int)) (show 0<(n:Int) by omega);exact ⟨((b+(n:Int))%(n:Int)).toNat,om,om⟩
   have p:a*m+j<n*m:=by
    have:(a+1)*m<=n*m:=Nat.mul_le_mul_right _ u.2;rw [Nat.add_mul] at this;omega
   have b1:=h.nm;have g:(a:Int)*(m:Int)+(j:Int)=((a*m+j:Nat):Int):=by rw [Int.natCast_add,Int.natCast_mul]
   have b2:(a:Int)*(m:Int)=((a*m:Nat):Int):=by rw [Int.natCast_mul]
   rw [B8 (decide_eq_true f),x.1,ckb om,Tv om om,sb,u.1,ckb om,ckb om,g]
   cases b3:(((a*m+j:Nat):Int) != c1) with
   | true =>
    obtain ⟨st',s1,s2⟩:=hb c st (a*m+j) l p om;rw [B8 rfl,s1,sb,B8 rfl,ckb om];obtain ⟨st2,t1,t2⟩:=ih N (j+1) (c+1) st' om om om s2;rw [Int.natCast_add] at t1;exact ⟨st2,t1,by rw [show c+(q+1)=c+1+q by omega];exact t2⟩
   | false =>
    rw [Au rfl,ckb om];obtain ⟨st2,t1,t2⟩:=ih N (j+1) (c+1) st om om om (e _ _ l);rw [Int.natCast_add] at t1;exact ⟨st2,t1,by rw [show c+(q+1)=c+1+q by omega];exact t2⟩
  ·rw [Au (decide_eq_false f),ckb om];have r:∀k,P c st->P (c+k) st:=by
    intro k hk
    induction k with
    | zero=>exact hk
    | succ k ihk=>exact e _ _ ihk
   exact ⟨st,rfl,r _ l⟩
theorem A57 {σ:Type} (h:SwB s n m) (t:1000<=F) {d:zN} (hd:d.s=s) {body:σ->Int->Option (σ×Bool)} {P:Nat->σ->Prop} (hb:∀c st (o:Nat),P c st->o<n*m->c<=1000->∃st',body st (o:Int)=some (st',true)/\P (c+1) st') (f:∀c st,P c st->P (c+1) st) {c1:Int} {i:Nat} (hi:i<m) {e:Int} (he:e<=50) :
  ∀(q N:Nat) (b:Int) (c:Nat) (st:σ),b+q=e+1->-1<=b->q<N->c+20*q<=900->P c st->∃st' c',Df F body c1 1 d (i:Int) e N b st=some (st',true)/\P c' st'/\c'<=c+20*q:=by
 have u:=h.hn;have v:=h.hm;intro q
 induction q with
 | zero =>
  intro N b c st g k p r l;obtain ⟨N,rfl⟩:∃N',N=N'+1:=⟨N-1,om⟩;refine ⟨st,c,?_,l,om⟩;show Dd F body c1 1 d (i:Int) e _ b st=_;unfold Dd;rw [Au (decide_eq_false om)]
 | succ q ih =>
  intro N b c st g k p r l;obtain ⟨N,rfl⟩:∃N',N=N'+1:=⟨N-1,om⟩;obtain ⟨j,hj⟩:∃j:Nat,(if (i:Int)-1>0 then (i:Int)-1 else 0)=(j:Int)/\j<=m:=⟨i-1,by split<;>omega,om⟩;obtain ⟨st1,s1,s2⟩:=B1k h hd hb f (c1:=c1) hi (b:=b) om (Df F body c1 1 d (i:Int) e N) (m+1-j) F j c st om om om l;obtain ⟨st2,c2,t1,t2,t3⟩:=ih N (b+1) (c+(m+1-j)) st1 om om om om s2;refine ⟨st2,c2,?_,t2,om⟩;show Dd F body c1 1 d (i:Int) e (Df F body c1 1 d (i:Int) e N) b st=_;unfold Dd;rw [B8 (decide_eq_true om),ckb om,hj.1,s1];exact t1
theorem A8j {σ:Type} (h:SwB s n m) (g:1000<=F) {d:zN} (hd:d.s=s) {body:σ->Int->Option (σ×Bool)} {P:Nat->σ->Prop} (hb:∀c st (o:Nat),P c st->o<n*m->c<=1000->∃st',body st (o:Int)=some (st',true)/\P (c+1) st') (f:∀c st,P c st->P (c+1) st) {k:Nat} (l:k<n*m) {st:σ} (i:P 0 st) :
  ∃st' c',J8 F (some d) (k:Int) 1 1 body st=some (st',true)/\P c' st'/\c'<=900:=by
 obtain ⟨a,b,g1,g2,p,hm⟩:=A7n h l;have q:=h.hn;have r:=h.hm;unfold J8;rw [sb,hd,r.1,p,sb,hm,sb,ckb om,ckb om,ckb om,q.1];unfold Fx
 by_cases j:(a:Int)+1-((a:Int)-1)>=(n:Int)
 ·rw [B8 (decide_eq_true j),ckb om];obtain ⟨st',c',t1,t2,t3⟩:=A57 h g hd hb f (c1:=(k:Int)) g2 (e:=(n:Int)-1) om n F 0 0 st om om om om i;exact ⟨st',c',t1,t2,om⟩
 ·rw [Au (decide_eq_false j)];obtain ⟨st',c',t1,t2,t3⟩:=A57 h g hd hb f (c1:=(k:Int)) g2 (e:=(a:Int)+1) om 3 F ((a:Int)-1) 0 st om om om om i;exact ⟨st',c',t1,t2,om⟩
end
section
variable {s:zJ} {n m F:Nat}
theorem Ym {α:Type} {l:List α} {k:Nat} (b:k<l.length):∃y,Av l (k:Int)=some y:=by
 unfold Av;rw [if_pos om,Int.toNat_natCast,List.getElem?_eq_getElem b];exact ⟨_,rfl⟩
theorem A8p (h:SwB s n m) (f:1000<=F) {x:zN} (g:x.s=s) {a:zC} {l:List Int} (q:l.length=n*m) {k:Nat} (i:k<n*m):∃y,Gm F (k:Int) (some x) ⟨25,0,1,1,[a]⟩ l=some y:=by
 obtain ⟨st,c,j,_,_⟩:=A8j (F:=F) h f g (body:=Gi l) (P:=λc st=>(0<=st.1/\st.1<=(c:Int))/\0<=st.2.1/\st.2.1<=(c:Int)) (λc st o e ho r=>by
  obtain ⟨u,p⟩:=Ym (l:=l) (k:=o) om;unfold Gi Gh;rw [p,sb];obtain ⟨⟨p1,p2⟩,p3,p4⟩:=e
  by_cases b:u=1
  ·rw [B8 (by simp [b]),ckb om,sb,B8 (by simp [b]),ckb om];refine ⟨_,rfl,?_⟩;simp only;omega
  ·rw [Au (by simp [b]),sb]
   by_cases d:u=3
   ·rw [Au (by simp [d])];refine ⟨_,rfl,?_⟩;simp only;omega
   ·rw [B8 (by simp [d]),ckb om];refine ⟨_,rfl,?_⟩;simp only;omega) (λc st e=>by obtain ⟨⟨p1,p2⟩,p3,p4⟩:=e;exact ⟨⟨p1,om⟩,p3,om⟩) i (st:=((0:Int),(0:Int),(0:Nat))) sm
 unfold Gm;simp only;rw [j,sb,B8 rfl];exact ⟨_,rfl⟩
theorem B0c {op:Int} {a b:zC} {l r:List Int} {k:Nat} (c:k<l.length) (hr:k<r.length):∃y,Ho F (k:Int) (nd2 op a b) l r=some y:=by
 obtain ⟨u,d⟩:=Ym c;obtain ⟨v,e⟩:=Ym hr;unfold Ho;rw [d,e,sb,sb,sb,sb]
 cases (nd2 op a b).Op==4<;>exact ⟨_,rfl⟩
theorem B0m {op:Int} (ho:op=8\/op=10\/op=12) {a b:zC} {l r:List zG} {k:Nat} (g:k<l.length) (hr:k<r.length):∃y,F3 F (k:Int) l r (nd2 op a b)=some y:=by
 obtain ⟨u,i⟩:=Ym g;obtain ⟨v,j⟩:=Ym hr;have f:∀c d,∃y,D2 c d=some y:=by intro c d;unfold D2;cases c<;>cases d<;>exact ⟨_,rfl⟩
 have e:∀x29 x30 x31 x32,∃y,F4 (nd2 op a b) x29 x30 x31 x32=some y:=by
  intro x29 x30 x31 x32;rcases ho with rfl|rfl|rfl<;>exact f _ _
 unfold F3;rw [i,j,sb]
 cases n:u.has with
 | false =>
  rw [gdF (by rfl),sb,B8 (by rfl)];exact ⟨_,rfl⟩
 | true =>
  rw [gdT (by rfl),sb,sb,sb]
  cases m:v.has with
  | false=>exact ⟨_,rfl⟩
  | true =>
   rw [Au (by rfl)];rcases ho with rfl|rfl|rfl
   ·exact e _ _ _ _
   ·exact e _ _ _ _
   ·exact e _ _ _ _
def VOk (s:zJ) (n m F:Nat) (a:zC):Prop:=∀x,ScB s n m x->∃l x',Zq F x a=some (l,x')/\l.length=n*m/\ScB s n m x'
def TOk (s:zJ) (n m F:Nat) (a:zC):Prop:=∀x,ScB s n m x->∃l x',Sm F x a=some (l,x')/\l.length=n*m/\ScB s n m x'
theorem ScB.upT {x:zN} (h:ScB s n m x) {k:ByteArray} {l:List Int} (b:l.length=n*m):ScB s n m ⟨x.s,x.n,upM x.tests k l,x.values⟩ :=
 ⟨h.sc,h.nn,λp c=>(A73 _ _ _ p c).elim (h.tt p) λe=>by rw [e];exact b,h.vv⟩
theorem ScB.upV {x:zN} (h:ScB s n m x) {k:ByteArray} {l:List zG} (b:l.length=n*m):ScB s n m ⟨x.s,x.n,x.tests,upM x.values k l⟩ :=
 ⟨h.sc,h.nn,h.tt,λp c=>(A73 _ _ _ p c).elim (h.vv p) λe=>by rw [e];exact b⟩
theorem Yu {ν:Type} {L:List (ByteArray×List ν)} {k:ByteArray} {M:Nat} (b:∀p∈L,p.2.length=M) (h:(lkM L k).isSome=true):((lkM L k).getD []).length=M:=by
 cases e:lkM L k with
 | none=>rw [e] at h;cases h
 | some v =>
  obtain ⟨p,c,d⟩:=B1t L k v e;rw [←d];exact b p c
theorem A76 (h:SwB s n m) (c:1000<=F) {op v:Int} {k:Nat} (ho:op=14\/op=15\/op=18\/op=21\/op=22\/op=23) (d:Tx F ⟨op,v,0,0,[]⟩ k):VOk s n m (F+1) ⟨op,v,0,0,[]⟩:=by
 intro x b;obtain ⟨q,q1,_⟩:=d;show ∃l x',F1 F _ _ x _=_/\_;unfold F1;rw [q1,sb]
 cases e:(lkM x.values (tb q)).isSome with
 | true=>exact ⟨_,x,B8 rfl,Yu b.vv e,b⟩
 | false =>
  obtain ⟨l,l1,l2⟩:=A8t h c b (v:=v) ho;refine ⟨l,⟨x.s,x.n,x.tests,upM x.values (tb q) l⟩,?_,l2,b.upV l2⟩;simp only;rw [Au rfl,Au (by simp;omega),Au (by simp;omega),Au (by simp;omega),l1,sb]
theorem B5t (h:SwB s n m) (d:1000<=F) {a:zC} {k:Nat} (e:TOk s n m F a) (f:Tx F ⟨25,0,1,1,[a]⟩ k):VOk s n m (F+1) ⟨25,0,1,1,[a]⟩:=by
 intro x b;obtain ⟨q,q1,_⟩:=f;have g:=h.nm;show ∃l x',F1 F _ _ x _=_/\_;unfold F1;rw [q1,sb]
 cases j:(lkM x.values (tb q)).isSome with
 | true=>exact ⟨_,x,B8 rfl,Yu b.vv j,b⟩
 | false =>
  obtain ⟨l,x',l1,l2,l3⟩:=e x b;obtain ⟨r,r1,r2⟩:=Yf (Cx F (some (zN.mk x.s x.n x'.tests x'.values)) ⟨25,0,1,1,[a]⟩ l) (λi=>Gm F i (some (zN.mk x.s x.n x'.tests x'.values)) ⟨25,0,1,1,[a]⟩ l) (λ_ _ _ _=>rfl) (M:=n*m) om (λk o=>A8p (F:=F) (x:=zN.mk x.s x.n x'.tests x'.values) h d b.sc l2 o) (n*m) F 0 (List.replicate (n*m) (zG.mk (zA.mk 0 0) false)) om om sm;have p:Lu F (Ay F).1 (Ay F).2 x ⟨25,0,1,1,[a]⟩=some (r,⟨x.s,x.n,x'.tests,x'.values⟩):=by
   unfold Lu H0;rw [show Av [a] 0=some a from rfl,sb,show (Ay F).1 x a=some (l,x') from l1,sb,b.nn,mkb om om,List.length_replicate];rw [b.nn] at r1;rw [show Cx F (some (zN.mk x.s ((n*m:Nat):Int) x'.tests x'.values)) ⟨25,0,1,1,[a]⟩ l F ((n*m:Nat):Int) 0 (List.replicate (n*m) (zG.mk (zA.mk 0 0) false))=some r from r1,sb]
  have c:ScB s n m ⟨x.s,x.n,x'.tests,x'.values⟩:=⟨b.sc,b.nn,l3.tt,l3.vv⟩;refine ⟨r,⟨x.s,x.n,x'.tests,upM x'.values (tb q) r⟩,?_,r2,c.upV r2⟩;rw [Au rfl,B8 (by rfl),p,sb]
theorem B6f (h:SwB s n m) (t:1000<=F) {op:Int} {a b:zC} {k:Nat} (ho:op=8\/op=10\/op=12) (g:VOk s n m F a) (hb:VOk s n m F b) (j:Tx F (nd2 op a b) k):TOk s n m (F+1) (nd2 op a b):=by
 intro x c;obtain ⟨q,q1,_⟩:=j;have o:=h.nm;show ∃l x',Fz F _ _ x _=_/\_;unfold Fz;rw [q1,sb]
 cases p:(lkM x.tests (tb q)).isSome with
 | true=>exact ⟨_,x,B8 rfl,Yu c.tt p,c⟩
 | false =>
  obtain ⟨l,x1,l1,l2,l3⟩:=g x c;have d:ScB s n m ⟨x.s,x.n,x1.tests,x1.values⟩:=⟨c.sc,c.nn,l3.tt,l3.vv⟩;obtain ⟨l',x2,m1,m2,m3⟩:=hb _ d;obtain ⟨r,r1,r2⟩:=Yf (E9 F l l' (nd2 op a b)) (λi=>F3 F i l l' (nd2 op a b)) (λ_ _ _ _=>rfl) (M:=n*m) om (λk u=>B0m (F:=F) ho om om) (n*m) F 0 (List.replicate (n*m) (0:Int)) om om sm;have e:Ez F (Ay F).1 (Ay F).2 x (nd2 op a b)=some (r,⟨x.s,x.n,x2.tests,x2.values⟩):=by
   unfold Ez Lp;rw [show Av (nd2 op a b).Args 0=some a from rfl,sb,show Av (nd2 op a b).Args 1=some b from rfl,sb,show (Ay F).2 x a=some (l,x1) from l1,sb,show (Ay F).2 ⟨x.s,x.n,x1.tests,x1.values⟩ b=some (l',x2) from m1,sb,c.nn,mkb om om,List.length_replicate];rw [show E9 F l l' (nd2 op a b) F ((n*m:Nat):Int) 0 (List.replicate (n*m) (0:Int))=some r from r1,sb]
  have f:ScB s n m ⟨x.s,x.n,x2.tests,x2.values⟩:=⟨c.sc,c.nn,m3.tt,m3.vv⟩;refine ⟨r,⟨x.s,x.n,upM x2.tests (tb q) r,x2.values⟩,?_,r2,f.upT r2⟩;rcases ho with rfl|rfl|rfl
  ·rw [Au rfl,Au (by rfl),Au (by rfl),B8 (by rfl),e,sb]
  ·rw [Au rfl,Au (by rfl),Au (by rfl),Au (by rfl),B8 (by rfl),e,sb]
  ·rw [Au rfl,Au (by rfl),Au (by rfl),Au (by rfl),Au (by rfl),B8 (by rfl),e,sb]
theorem A70 (h:SwB s n m) (t:1000<=F) {op:Int} {a b:zC} {k:Nat} (ho:op=4\/op=5) (g:TOk s n m F a) (hb:TOk s n m F b) (j:Tx F (nd2 op a b) k):TOk s n m (F+1) (nd2 op a b):=by
 intro x c;obtain ⟨q,q1,_⟩:=j;have o:=h.nm;show ∃l x',Fz F _ _ x _=_/\_;unfold Fz;rw [q1,sb]
 cases p:(lkM x.tests (tb q)).isSome with
 | true=>exact ⟨_,x,B8 rfl,Yu c.tt p,c⟩
 | false =>
  obtain ⟨l,x1,l1,l2,l3⟩:=g x c;have d:ScB s n m ⟨x.s,x.n,x1.tests,x1.values⟩:=⟨c.sc,c.nn,l3.tt,l3.vv⟩;obtain ⟨l',x2,m1,m2,m3⟩:=hb _ d;obtain ⟨r,r1,r2⟩:=Yf (E8 F (nd2 op a b) l l') (λi=>Ho F i (nd2 op a b) l l') (λ_ _ _ _=>rfl) (M:=n*m) om (λk u=>B0c (F:=F) om om) (n*m) F 0 (List.replicate (n*m) (0:Int)) om om sm;have f:Km F (Ay F).1 (Ay F).2 x (nd2 op a b)=some (r,⟨x.s,x.n,x2.tests,x2.values⟩):=by
   unfold Km Ln;rw [show Av (nd2 op a b).Args 0=some a from rfl,sb,show Av (nd2 op a b).Args 1=some b from rfl,sb,show (Ay F).1 x a=some (l,x1) from l1,sb,show (Ay F).1 ⟨x.s,x.n,x1.tests,x1.values⟩ b=some (l',x2) from m1,sb,c.nn,mkb om om,List.length_replicate];rw [show E8 F (nd2 op a b) l l' F ((n*m:Nat):Int) 0 (List.replicate (n*m) (0:Int))=some r from r1,sb]
  have e:ScB s n m ⟨x.s,x.n,x2.tests,x2.values⟩:=⟨c.sc,c.nn,m3.tt,m3.vv⟩;refine ⟨r,⟨x.s,x.n,upM x2.tests (tb q) r,x2.values⟩,?_,r2,e.upT r2⟩;rcases ho with rfl|rfl
  ·rw [Au rfl,B8 (by rfl),f,sb]
  ·rw [Au rfl,Au (by rfl),B8 (by rfl),f,sb]
theorem A79 (h:SwB s n m) (b:1000<=F) {w op v:Int} (d:w=15\/w=18\/w=21\/w=22\/w=23) (ho:op=8\/op=10\/op=12) (c:0<=v/\v<=1000000):TOk s n m (F+2) (nd2 op (nd0 w) (nm0 v))/\∃k,k<=40/\Tx (F+1) (nd2 op (nd0 w) (nm0 v)) k:=by
 obtain ⟨G,rfl⟩:∃G,F=G+1:=⟨F-1,om⟩;have x1:Tx (G+1) (nd0 w) 10:=C0l om;have x2:Tx (G+1) (nm0 v) 10:=B6g c;have x3:Tx (G+1+1) (nd2 op (nd0 w) (nm0 v)) (2*10+20):=A25 om x1 x2 om;exact ⟨B6f h om ho (A76 h b om x1) (A76 h b om x2) x3,_,om,x3⟩
theorem C0z (h:SwB s n m) (d:2000<=F) {p:zU} (b:SfB p):∀x∈lsS p,TOk s n m F x.node:=by
 have e:=b.weak;have f:=b.far;obtain ⟨G,rfl⟩:∃G,F=G+10:=⟨F-10,om⟩;intro x c;rcases Yv c with rfl|rfl|rfl|rfl
 ·exact (A79 (F:=G+8) h om om om om).1
 ·obtain ⟨a1,k,a2,a3⟩:=A79 (F:=G+7) h om (w:=21) (op:=12) (v:=2) om om om;obtain ⟨b1,l,b2,b3⟩:=A79 (F:=G+7) h om (w:=18) (op:=10) (v:=p.Weak*3) om om om;obtain ⟨q,q1,q2⟩:=a3;obtain ⟨q',q3,q4⟩:=b3;exact A70 h om (.inr rfl) a1 b1 (A25 (k:=40) om ⟨q,q1,om⟩ ⟨q',q3,om⟩ om)
 ·obtain ⟨a1,k,a2,a3⟩:=A79 (F:=G+7) h om (w:=21) (op:=12) (v:=3) om om om;obtain ⟨b1,l,b2,b3⟩:=A79 (F:=G+5) h om (w:=21) (op:=12) (v:=1) om om om;obtain ⟨q,q1,q2⟩:=a3;obtain ⟨q',q3,q4⟩:=b3;have x1:Tx (G+6+1) ⟨25,0,1,1,[nd2 12 (nd0 21) (nm0 1)]⟩ (40+40):=B93 (k:=40) ⟨q',q3,om⟩ om;have x2:Tx (G+6+1) (nm0 4) 10:=B6g om;obtain ⟨q5,q6,q7⟩:=x1;obtain ⟨q8,q9,q10⟩:=x2;have x3:Tx (G+7+1) (nd2 10 ⟨25,0,1,1,[nd2 12 (nd0 21) (nm0 1)]⟩ (nm0 4)) (2*80+20):=A25 (k:=80) om ⟨q5,q6,om⟩ ⟨q8,q9,om⟩ om;have c1:VOk s n m (G+7+1) ⟨25,0,1,1,[nd2 12 (nd0 21) (nm0 1)]⟩:=B5t h om b1 ⟨q5,q6,q7⟩;have c2:VOk s n m (G+7+1) (nm0 4):=A76 h om om ⟨q8,q9,q10⟩;obtain ⟨q11,q12,q13⟩:=x3;have d1:=B6f h om (.inr (.inl rfl)) c1 c2 ⟨q11,q12,q13⟩;exact A70 h om (.inl rfl) a1 d1 (A25 (k:=200) om ⟨q,q1,om⟩ ⟨q11,q12,om⟩ om)
 ·obtain ⟨a1,k,a2,a3⟩:=A79 (F:=G+7) h om (w:=23) (op:=10) (v:=p.Far%3) om om om;obtain ⟨b1,l,b2,b3⟩:=A79 (F:=G+7) h om (w:=22) (op:=12) (v:=p.Far%4) om om om;obtain ⟨q,q1,q2⟩:=a3;obtain ⟨q',q3,q4⟩:=b3;exact A70 h om (.inl rfl) a1 b1 (A25 (k:=40) om ⟨q,q1,om⟩ ⟨q',q3,om⟩ om)
end
theorem W4 {α:Type} {l:List α} {a b:Nat} {u d:α} (c:a<l.length):(l.set a u).getD b d=if b=a then u else l.getD b d:=by
 rw [List.getD_eq_getElem?_getD,List.getD_eq_getElem?_getD]
 by_cases h:b=a
 ·subst h;rw [List.getElem?_set_self c,if_pos rfl];rfl
 ·rw [List.getElem?_set_ne (λe=>h e.symm),if_neg h]
theorem N5 {α:Type} {l:List α} {k:Nat} (d:α) (b:k<l.length):Av l (k:Int)=some (l.getD k d):=by
 unfold Av;rw [if_pos om,Int.toNat_natCast,List.getElem?_eq_getElem b,List.getD_eq_getElem?_getD,List.getElem?_eq_getElem b];rfl
theorem A0w {α:Type} {l:List α} {k:Nat} {y:α} (b:k<l.length):Ka l (k:Int) y=some (l.set k y):=by
 unfold Ka;rw [if_pos om,Int.toNat_natCast]
section
variable {s:zJ} {n m F:Nat}
theorem B9j (h:SwB s n m) {a i:Nat} (b:a<n) (hi:i<m):a*m+i<n*m/\n*m<=144:=by
 have:(a+1)*m<=n*m:=Nat.mul_le_mul_right _ b;rw [Nat.add_mul] at this;have:=h.nm;omega
theorem A71 (h:SwB s n m) {T:List (List Int)} (g:∀t∈T,t.length=n*m) (u:T.length<=4) {a i:Nat} (k:a<n) (hi:i<m) {row:List zD} (hr:row.length=m) (l:List (List zP)) (k5:List (List zP)->Int->Option (List (List zP)×Int)) :
  ∀(q N j:Nat) (D:List Int),j+q=T.length->q<N->D.length<=j->∃r ds,Mz T (a:Int) row l (i:Int) k5 N D (j:Int)=My (a:Int) l (i:Int) k5 r ds:=by
 obtain ⟨v,x⟩:=B9j h k hi;have hn:=h.hn;have hm:=h.hm;intro q
 induction q with
 | zero =>
  intro N j D hj o p;obtain ⟨N,rfl⟩:∃N',N=N'+1:=⟨N-1,om⟩;refine ⟨-1,D,?_⟩;show Lh T (a:Int) row l (i:Int) k5 _ D (j:Int)=_;unfold Lh;rw [Au (decide_eq_false om)]
 | succ q ih =>
  intro N j D hj o p;obtain ⟨N,rfl⟩:∃N',N=N'+1:=⟨N-1,om⟩;have b:T.getD j []∈T:=by rw [List.getD_eq_getElem?_getD,List.getElem?_eq_getElem (by omega:j<T.length)];exact List.getElem_mem _
  have c:=g _ b;have e1:(a:Int)*(m:Int)=((a*m:Nat):Int):=by rw [Int.natCast_mul]
  have e2:((a*m:Nat):Int)+(i:Int)=((a*m+i:Nat):Int):=by rw [Int.natCast_add]
  show ∃r ds,Lh T (a:Int) row l (i:Int) k5 (Mz T (a:Int) row l (i:Int) k5 N) D (j:Int)=_;unfold Lh Ps;rw [B8 (decide_eq_true om),N5 [] om,sb,hr,e1,ckb om,e2,ckb om,N5 0 om,sb]
  by_cases d:(T.getD j []).getD (a*m+i) 0=1
  ·rw [B8 (by simpa using d)];exact ⟨_,_,rfl⟩
  ·rw [Au (by simpa using d)]
   by_cases f:(T.getD j []).getD (a*m+i) 0=2
   ·rw [B8 (by simpa using f),R9 (by simp;omega),ckb om];obtain ⟨r,ds,e⟩:=ih N (j+1) (D++[(j:Int)]) om om (by simp;omega);rw [Int.natCast_add] at e;exact ⟨r,ds,e⟩
   ·rw [Au (by simpa using f),ckb om];obtain ⟨r,ds,e⟩:=ih N (j+1) D om om om;rw [Int.natCast_add] at e;exact ⟨r,ds,e⟩
structure RsV (n m a i:Nat) (l:List (List zP)):Prop where
 len:l.length=n
 lo:∀b<a,(l.getD b []).length=m
 at_:(l.getD a []).length=i
 hi:∀b,a<b->(l.getD b []).length=0
theorem B4a (h:SwB s n m) (v:1000<=F) {T:List (List Int)} (k:∀t∈T,t.length=n*m) (d:T.length<=4) {a:Nat} (o:a<n) {row:List zD} (hr:row.length=m) (k3:List (List zP)->Int->Option (List (List zP)×Int)) :
  ∀(q N i:Nat) (l:List (List zP)),i+q=m->q<N->RsV n m a i l->∃l',Lj F T (a:Int) k3 row N l (i:Int)=Pr (a:Int) k3 l'/\RsV n m a m l':=by
 have hn:=h.hn;have hm:=h.hm;intro q
 induction q with
 | zero =>
  intro N i l hi p d;obtain ⟨N,rfl⟩:∃N',N=N'+1:=⟨N-1,om⟩;refine ⟨l,?_,by rw [show m=i by omega];rw [show m=i by omega] at d;exact d⟩;show Lg F T (a:Int) k3 row _ l (i:Int)=_;unfold Lg;rw [Au (decide_eq_false om)]
 | succ q ih =>
  intro N i l hi p f;obtain ⟨N,rfl⟩:∃N',N=N'+1:=⟨N-1,om⟩;have g:=f.at_;have c:=f.len;obtain ⟨r,ds,e⟩:=A71 h k d o (show i<m by omega) hr l (Lj F T (a:Int) k3 row N) T.length F 0 [] om om sm;have j:RsV n m a (i+1) (l.set a (l.getD a []++[⟨r,ds⟩])):=by
   refine ⟨by rw [List.length_set];exact c,λb hb=>?_,?_,λb hb=>?_⟩
   ·rw [W4 om,if_neg om];exact f.lo b hb
   ·rw [W4 om,if_pos rfl,List.length_append,g];rfl
   ·rw [W4 om,if_neg om];exact f.hi b hb
  obtain ⟨l',e2,u⟩:=ih N (i+1) _ om om j;refine ⟨l',?_,u⟩;show Lg F T (a:Int) k3 row (Lj F T (a:Int) k3 row N) l (i:Int)=_;unfold Lg;rw [B8 (decide_eq_true om)];refine Eq.trans e ?_;unfold My Rx;rw [N5 [] om,sb,R9 (by simp only [List.length_cons,List.length_nil];omega),sb,A0w om,sb,ckb om];rw [Int.natCast_add] at e2;exact e2
theorem B8f (h:SwB s n m) (g:1000<=F) {T:List (List Int)} (i:∀t∈T,t.length=n*m) (j:T.length<=4) :
  ∀(q N a:Nat) (l:List (List zP)),a+q=n->q<N->RsV n m a 0 l->∃l',Li F s T N l (a:Int)=some (l',0)/\l'.length=n/\∀b<n,(l'.getD b []).length=m:=by
 have hn:=h.hn;have hm:=h.hm;intro q
 induction q with
 | zero =>
  intro N a l k o d;obtain ⟨N,rfl⟩:∃N',N=N'+1:=⟨N-1,om⟩;refine ⟨l,?_,d.len,λb hb=>d.lo b om⟩;show Lf F s T _ l (a:Int)=_;unfold Lf;rw [Au (decide_eq_false om)];rfl
 | succ q ih =>
  intro N a l k o d;obtain ⟨N,rfl⟩:∃N',N=N'+1:=⟨N-1,om⟩;obtain ⟨l1,e1,c⟩:=B4a h g i j (show a<n by omega) (h.hr a om) (Li F s T N) m F 0 l om om d;have e:RsV n m (a+1) 0 l1:=by
   refine ⟨c.len,λb hb=>?_,c.hi _ om,λb hb=>c.hi b om⟩;rcases Nat.lt_or_ge b a with f|f
   ·exact c.lo b f
   ·rw [show b=a by omega];exact c.at_
  obtain ⟨l',e2,p⟩:=ih N (a+1) l1 om om e;refine ⟨l',?_,p⟩;show Lf F s T (Li F s T N) l (a:Int)=_;unfold Lf;rw [B8 (decide_eq_true om),J3 [] om,Int.toNat_natCast];refine Eq.trans e1 ?_;unfold Pr;rw [ckb om];rw [Int.natCast_add] at e2;exact e2
theorem B50 (h:SwB s n m) (l:2000<=F) {L:List zR} (j:∀x∈L,TOk s n m F x.When) (o:L.length<=4) {y:zN} (e:y.s=s/\y.n=((n*m:Nat):Int)) :
  ∀(q N i:Nat) (l1:List (ByteArray×List Int)) (l2:List (ByteArray×List zG)) (T:List (List Int)),i+q=L.length->q<N->ScB s n m ⟨s,((n*m:Nat):Int),l1,l2⟩->T.length=i->(∀t∈T,t.length=n*m) ->
   ∃l1' l2' T',M0 F L s y N l1 l2 (i:Int) T=Pq F s l1' l2' T'/\T'.length<=4/\∀t∈T',t.length=n*m:=by
 intro q
 induction q with
 | zero =>
  intro N i l1 l2 T hi k f g b;obtain ⟨N,rfl⟩:∃N',N=N'+1:=⟨N-1,om⟩;refine ⟨l1,l2,T,?_,om,b⟩;show Kb F L s y _ l1 l2 (i:Int) T=_;unfold Kb;rw [Au (decide_eq_false om)]
 | succ q ih =>
  intro N i l1 l2 T hi k f g b;obtain ⟨N,rfl⟩:∃N',N=N'+1:=⟨N-1,om⟩;have d:L.getD i default∈L:=by rw [List.getD_eq_getElem?_getD,List.getElem?_eq_getElem (by omega:i<L.length)];exact List.getElem_mem _
  obtain ⟨t,x',t1,t2,t3⟩:=j _ d _ f;show ∃l1' l2' T',Kb F L s y (M0 F L s y N) l1 l2 (i:Int) T=_/\_;unfold Kb;rw [B8 (decide_eq_true om),J3 default om,Int.toNat_natCast,e.1,e.2,t1,sb,R9 (by simp;omega),ckb om];have:=ih N (i+1) x'.tests x'.values (T++[t]) om om ⟨rfl,rfl,t3.tt,t3.vv⟩ (by simp [g]) (λu c=>by
   rcases List.mem_append.1 c with c|c
   ·exact b u c
   ·simp at c;rw [c];exact t2)
  rw [Int.natCast_add] at this;exact this
theorem B1l (h:SwB s n m) (e:2000<=F) {p:zU} (c:SfB p) (f:D3 F s=some 0):∃v,Qa F (rlS (lsS p)) s=some (v,0)/\v.length=n/\∀b<n,(v.getD b []).length=m:=by
 have hn:=h.hn;have hm:=h.hm;have g:=h.nm;have d:=A3v p;obtain ⟨l1,l2,T,e1,i,j⟩:=B50 (F:=F) h e (L:=rlS (lsS p)) (λx k=>by
  obtain ⟨y,l,rfl⟩:=List.mem_map.1 k;exact C0z h e c y l) (by unfold rlS;rw [List.length_map];exact d) (y:=⟨s,((n*m:Nat):Int),[],[]⟩) ⟨rfl,rfl⟩ (rlS (lsS p)).length F 0 [] [] [] om (by unfold rlS;rw [List.length_map];omega) ⟨rfl,rfl,(λp c=>by cases c),(λp c=>by cases c)⟩ rfl (λt o=>by cases o)
 have g0:∀b,((List.replicate n ([]:List zP)).getD b []).length=0:=by
  intro b;rw [List.getD_eq_getElem?_getD]
  by_cases hb:b<n
  ·rw [List.getElem?_replicate,if_pos hb];rfl
  ·rw [List.getElem?_eq_none (by simp;omega)];rfl
 obtain ⟨v,v1,v2,v3⟩:=B8f (F:=F) h om j i n F 0 (List.replicate n []) om om ⟨sm,λb hb=>by omega,g0 0,λb _=>g0 b⟩;refine ⟨v,?_,v2,v3⟩;unfold Qa;rw [B1v c om,sb,Au (by rfl),f,sb,Au (by rfl)];unfold T2;have en:(n:Int)*(m:Int)=((n*m:Nat):Int):=by rw [Int.natCast_mul]
 rw [hn.1,hm.1,en,ckb om,sb];refine Eq.trans e1 ?_;unfold Pq;rw [hn.1,mkb om om];exact v1
def qtE:zD:=⟨1,⟨0,0⟩,(⟨0,0⟩,⟨0,0⟩),0,⟨0,0⟩,⟨0,0⟩,⟨0,0⟩⟩
def ruV (v:List (List zP)) (b j:Nat):Int:=((v.getD b []).getD j default).Rule
def B44 (s:zJ) (v:List (List zP)) (b j:Nat):zD:=if 0<=ruV v b j then qtE else (s.Rays.getD b []).getD j default
def RwC (s:zJ) (v:List (List zP)) (m b i:Nat) (r:List zD):Prop:=r.length=m/\∀j<m,r.getD j default=if j<i then B44 s v b j else (s.Rays.getD b []).getD j default
theorem B49 (h:SwB s n m) {v:List (List zP)} (hv:v.length=n) (o:∀b<n,(v.getD b []).length=m) {e:Int} {a:Nat} (t:a<n) (k2:Int->List (List zD)->Option (zJ×Int)) :
  ∀(q N i:Nat) (l:List (List zD)),i+q=m->q<N->l.length=n->(∀b<a,RwC s v m b m (l.getD b []))->RwC s v m a i (l.getD a []) ->
   ∃l',Mx (v,e) (a:Int) k2 (s.Rays.getD a []) N (i:Int) l=Po (a:Int) k2 l'/\l'.length=n/\∀b<a+1,RwC s v m b m (l'.getD b []):=by
 have hn:=h.hn;have hm:=h.hm;have y:=h.hr a t;intro q
 induction q with
 | zero =>
  intro N i l hi z f g k;obtain ⟨N,rfl⟩:∃N',N=N'+1:=⟨N-1,om⟩;refine ⟨l,?_,f,λb hb=>?_⟩
  ·show Ld (v,e) (a:Int) k2 (s.Rays.getD a []) _ (i:Int) l=_;unfold Ld;rw [Au (decide_eq_false om)]
  ·rcases Nat.lt_or_ge b a with u|u
   ·exact g b u
   ·rw [show b=a by omega];rw [show i=m by omega] at k;exact k
 | succ q ih =>
  intro N i l hi z f g k;obtain ⟨N,rfl⟩:∃N',N=N'+1:=⟨N-1,om⟩;have b0:=o a t;obtain ⟨r1,r2⟩:=id k;have p:((v.getD a []).getD i default).Rule=ruV v a i:=rfl;show ∃l',Ld (v,e) (a:Int) k2 (s.Rays.getD a []) (Mx (v,e) (a:Int) k2 (s.Rays.getD a []) N) (i:Int) l=_/\_;unfold Ld Pp;simp only;rw [B8 (decide_eq_true om),N5 [] om,sb,N5 default om,sb,p]
  by_cases r:0<=ruV v a i
  ·rw [B8 (decide_eq_true r),N5 [] om,sb,N5 default om,sb,A0w om,sb,A0w om,sb,ckb om];have:=ih N (i+1) (l.set a ((l.getD a []).set i qtE)) om om (by rw [List.length_set];exact f) (λb hb=>by rw [W4 om,if_neg om];exact g b hb) (by
    rw [W4 om,if_pos rfl];refine ⟨by rw [List.length_set];exact r1,λj hj=>?_⟩;rw [W4 om]
    by_cases c:j=i
    ·rw [if_pos c,if_pos om,c];unfold B44;rw [if_pos r]
    ·rw [if_neg c,r2 j hj]
     by_cases d:j<i
     ·rw [if_pos d,if_pos om]
     ·rw [if_neg d,if_neg om])
   rw [Int.natCast_add] at this;exact this
  ·rw [Au (decide_eq_false om),ckb om];have:=ih N (i+1) l om om f g (by
    refine ⟨r1,λj hj=>?_⟩;rw [r2 j hj]
    by_cases d:j<i
    ·rw [if_pos d,if_pos om]
    ·rw [if_neg d]
     by_cases x:j<i+1
     ·rw [if_pos x];unfold B44;rw [show j=i by omega,if_neg r]
     ·rw [if_neg x])
   rw [Int.natCast_add] at this;exact this
theorem B8e (h:SwB s n m) (x:1000<=F) {v:List (List zP)} (i:v.length=n) (c:∀b<n,(v.getD b []).length=m) {e:Int} :
  ∀(q N a:Nat) (l:List (List zD)),a+q=n->q<N->l.length=n->(∀b<a,RwC s v m b m (l.getD b []))->∃l',Le F s (v,e) N (a:Int) l=some (⟨s.Site,s.Tilt,s.Time,l'⟩,0)/\l'.length=n/\∀b<n,RwC s v m b m (l'.getD b []):=by
 have hn:=h.hn;have hm:=h.hm;intro q
 induction q with
 | zero =>
  intro N a l k o d f;obtain ⟨N,rfl⟩:∃N',N=N'+1:=⟨N-1,om⟩;refine ⟨l,?_,d,λb hb=>f b om⟩;show Lc F s (v,e) _ (a:Int) l=_;unfold Lc;rw [Au (decide_eq_false om)];rfl
 | succ q ih =>
  intro N a l k o d f;obtain ⟨N,rfl⟩:∃N',N=N'+1:=⟨N-1,om⟩;have g:=h.hr a om;obtain ⟨l1,e1,p,r⟩:=B49 h i c (e:=e) (show a<n by omega) (Le F s (v,e) N) m F 0 (l.set a (s.Rays.getD a [])) om om (by rw [List.length_set];exact d) (λb hb=>by rw [W4 om,if_neg om];exact f b hb) (by
   rw [W4 om,if_pos rfl];exact ⟨g,λj hj=>by rw [if_neg om]⟩)
  obtain ⟨l',e2,t,u⟩:=ih N (a+1) l1 om om p r;refine ⟨l',?_,t,u⟩;show Lc F s (v,e) (Le F s (v,e) N) (a:Int) l=_;unfold Lc D4;rw [B8 (decide_eq_true om),J3 [] om,Int.toNat_natCast,R9 (by simp only [List.length_nil];omega),sb,List.nil_append,N5 [] om,sb,A0w om,sb];refine Eq.trans e1 ?_;unfold Po;rw [ckb om];rw [Int.natCast_add] at e2;exact e2
theorem B0i (h:SwB s n m) (c:2000<=F) {p:zU} (d:SfB p) (f:D3 F s=some 0):∃v l,Qa F (rlS (lsS p)) s=some (v,0)/\v.length=n/\(∀b<n,(v.getD b []).length=m)/\Q9 F (rlS (lsS p)) s=some (⟨s.Site,s.Tilt,s.Time,l⟩,0)/\l.length=n/\∀b<n,RwC s v m b m (l.getD b []):=by
 have hn:=h.hn;obtain ⟨v,v1,v2,v3⟩:=B1l h c d f;obtain ⟨l,l1,l2,l3⟩:=B8e (F:=F) h om v2 v3 (e:=0) n F 0 (List.replicate n []) om om sm (λb hb=>by omega);refine ⟨v,l,v1,v2,v3,?_,l2,l3⟩;unfold Q9;rw [v1,sb,Au (by rfl),hn.1,mkb om om];exact l1
end
structure UnB (a:zW):Prop where
 kind:0<=a.Kind/\a.Kind<=255
 lam:0<=a.Lambda/\a.Lambda<=255
 first:0<=a.First/\a.First<=255
 second:0<=a.Second/\a.Second<=255
 count:0<=a.Count/\a.Count<=255
 gates:0<=a.Gates/\a.Gates<=255
 base:-32768<=a.Base/\a.Base<=32767
 speeds:∀b∈a.Speeds,-32768<=b/\b<=32767
 jump:0<=a.Jump/\a.Jump<=65535
 slip:0<=a.Slip/\a.Slip<=255
 slips:∀b∈a.Slips,0<=b/\b<=65535
 loud:∀b∈a.Loud,0<=b/\b<=255
section
variable {F:Nat} {a:zW}
theorem B3e (h:UnB a):∃t n,G6 F a=some t/\TrB t n:=by
 have c:=h.kind;have e:=h.lam;have f:=h.first;have g:=h.second;have d:=h.count;have i:a.Count%5=0\/a.Count%5=1\/a.Count%5=2\/a.Count%5=3\/a.Count%5=4:=om
 unfold G6;rw [ckb om,ckb om,ckb om,ckb om,Tv c.1 om,sb,ckb om,ckb om,ckb om,ckb om,ckb om,Tv d.1 om,sb,ckb om,ckb om]
 by_cases b:1+a.Kind%3=1
 ·rw [Au (by simp [b])];refine ⟨_,(4+2*(a.Count%5)).toNat,rfl,.inl b,om,by show 4+2*(a.Count%5)=_;omega,by show 60000<=60000+200*a.Lambda/\60000+200*a.Lambda<=_;omega,by show 400<=400+4*a.First/\400+4*a.First<=_;omega,.inl ⟨b,rfl⟩⟩
 ·rw [B8 (by simpa using b),ckb om,ckb om,ckb om,ckb om];refine ⟨_,(4+2*(a.Count%5)).toNat,rfl,?_,?_,?_,?_,?_,?_⟩<;>(try simp only)<;>omega
theorem B5c (h:UnB a):∃e,Ea F a=some e/\1<=e/\e<=401:=by
 have b:=h.slip;unfold Ea;rw [ckb om,Tv b.1 om,sb,ckb om,ckb om];exact ⟨_,rfl,om,om⟩
end
def spU (p:zW) (k:Nat):Int:=if 0<p.Speeds.length then p.Base+((p.Speeds.getD (k%p.Speeds.length) 0).tmod (p.Jump%9000/2+1)-p.Jump%9000/4) else p.Base
def A4g (p:zW):Int:=if 0<p.Speeds.length then p.Base-p.Jump%9000/4 else p.Base
section
variable {F:Nat} {p:zW} {t:zH} {n g:Nat}
theorem C0j (x:Int) {y:Int} (b:0<y):-y<x.tmod y/\x.tmod y<y:=by
 have c:=Int.tmod_lt_of_pos x b;have:=Int.tmod_lt_of_pos (-x) b;rw [Int.neg_tmod] at this;omega
theorem B35 (h:UnB p) (k:Nat) (e:k<=1000):Ht F p (k:Int)=some (spU p k)/\(-40000<=spU p k/\spU p k<=40000)/\A4g p-p.Jump%9000/2<=spU p k/\spU p k<=A4g p+p.Jump%9000/2:=by
 have hb:=h.base;have hj:=h.jump;unfold Ht spU A4g;rw [ckb om,ckb om,Tv hj.1 om,sb]
 by_cases h0:0<p.Speeds.length
 ·have b:k%p.Speeds.length<p.Speeds.length:=Nat.mod_lt _ h0;have em:Jr (k:Int) (p.Speeds.length:Int)=some ((k%p.Speeds.length:Nat):Int):=by
   rw [Tv om om];rfl
  have f:=h.speeds _ (U4 b);have c:p.Speeds.getD (k%p.Speeds.length) 0=gI p.Speeds (k%p.Speeds.length):=rfl;have q2:Qy (p.Jump%9000) 2=some (p.Jump%9000/2):=by
   unfold Qy;rw [if_neg om,Int.tdiv_eq_ediv_of_nonneg om];exact ck1 om
  have q4:Qy (p.Jump%9000) 4=some (p.Jump%9000/4):=by
   unfold Qy;rw [if_neg om,Int.tdiv_eq_ediv_of_nonneg om];exact ck1 om
  have d:0<p.Jump%9000/2+1:=om
  have g:=C0j (gI p.Speeds (k%p.Speeds.length)) d;have hr:Jr (gI p.Speeds (k%p.Speeds.length)) (p.Jump%9000/2+1)=some ((gI p.Speeds (k%p.Speeds.length)).tmod (p.Jump%9000/2+1)):=by
   unfold Jr;rw [if_neg om]
  rw [B8 (decide_eq_true om),em,sb,J3 0 om,Int.toNat_natCast,c,ckb om,q2,sb,ckb om,hr,sb,q4,sb,ckb om,ckb om,if_pos h0,if_pos h0];exact ⟨rfl,om,om,om⟩
 ·rw [Au (decide_eq_false om),if_neg h0,if_neg h0];exact ⟨rfl,om,om,om⟩
theorem B48 (c:3000<=F) (d:UnB p) (f:TrB t n) {k i:Nat} (m:k<=100) (hi:i<=100) {es:List zD} (he:es.length<=100) {L e:Int} (g:0<=L/\L<=19) (j:Ea F p=some e) (b:1<=e/\e<=401) (k5:List zD->Int->Option (zJ×Bool)) :
  ∃x,EcB t (spU p k) 1 x/\E0 F p t e es (i:Int) k5 (k:Int) L=k5 (es++[x]) ((i+1:Nat):Int):=by
 obtain ⟨s1,s2,_⟩:=B35 (F:=F) d k om;have l:=A9l (F:=F) (t:=t) (n:=n) (num:=spU p k) (den:=1) (L:=L) (e:=e) (fr:=7*(k:Int)) (sl:=p.Slips) f c om om b om d.slips;obtain ⟨x,x1,x2⟩:=B4c (F:=F) (t:=t) (n:=n) (num:=spU p k) (den:=1) (L:=L) (e:=e) (fr:=7*(k:Int)) (sl:=p.Slips) f c om om b g rfl;refine ⟨x,x2,?_⟩;unfold E0;rw [ckb om,s1,sb,j,sb,l,sb,x1,sb,Au (by rfl),R9 (by simp;omega),ckb om];rfl
def RwU (t:zH) (p:zW) (g a:Nat) (r:List zD):Prop:=r.length=g/\∀i<g,EcB t (spU p (a*g+i)) 1 (r.getD i default)
theorem A7m {α:Type} {X:List α} {y d:α} {j:Nat} (hj:j<X.length+1):(X++[y]).getD j d=if j<X.length then X.getD j d else y:=by
 rw [List.getD_eq_getElem?_getD,List.getD_eq_getElem?_getD]
 split
 ·rw [List.getElem?_append_left om]
 ·rw [List.getElem?_append_right om,show j-X.length=0 by omega];rfl
theorem B8k (m:3000<=F) (l:UnB p) (o:TrB t n) (s:1<=g/\g<=3) {a:Nat} (ha:a<4) {e:Int} (u:Ea F p=some e) (b:1<=e/\e<=401) (X:List (List zD)) (k2:List (List zD)->Int->Option (zJ×Bool)) :
  ∀(q N i:Nat) (es:List zD),i+q=g->q<N->es.length=i->(∀j<i,EcB t (spU p (a*g+j)) 1 (es.getD j default))->∃r,Da F p t (g:Int) e X (a:Int) k2 N es (i:Int)=F9 X (a:Int) k2 r/\RwU t p g a r:=by
 intro q
 induction q with
 | zero =>
  intro N i es hi v he c;obtain ⟨N,rfl⟩:∃N',N=N'+1:=⟨N-1,om⟩;refine ⟨es,?_,om,λj hj=>c j om⟩;show Dz F p t (g:Int) e X (a:Int) k2 _ es (i:Int)=_;unfold Dz;rw [Au (decide_eq_false om)]
 | succ q ih =>
  intro N i es hi v he c;obtain ⟨N,rfl⟩:∃N',N=N'+1:=⟨N-1,om⟩;have d:a*g+i<=100:=by
   have:=Nat.mul_le_mul (show a<=3 by omega) s.2;omega
  have e1:(a:Int)*(g:Int)=((a*g:Nat):Int):=by rw [Int.natCast_mul]
  have e2:((a*g:Nat):Int)+(i:Int)=((a*g+i:Nat):Int):=by rw [Int.natCast_add]
  have key:∀L,0<=L/\L<=19->∃r,E0 F p t e es (i:Int) (Da F p t (g:Int) e X (a:Int) k2 N) ((a*g+i:Nat):Int) L=F9 X (a:Int) k2 r/\RwU t p g a r:=by
   intro L y;obtain ⟨x,x1,x2⟩:=B48 m l o d (show i<=100 by omega) (es:=es) om y u b (Da F p t (g:Int) e X (a:Int) k2 N);rw [x2];refine ih N (i+1) (es++[x]) om om (by simp [he]) λj hj=>?_;rw [A7m om]
   split
   ·exact c j om
   ·rw [show j=i by omega];exact x1
  show ∃r,Dz F p t (g:Int) e X (a:Int) k2 (Da F p t (g:Int) e X (a:Int) k2 N) es (i:Int)=_/\_;unfold Dz;rw [B8 (decide_eq_true om),e1,ckb om,e2,ckb om]
  by_cases h0:0<p.Loud.length
  ·have em:Jr ((a*g+i:Nat):Int) (p.Loud.length:Int)=some (((a*g+i)%p.Loud.length:Nat):Int):=by
    rw [Tv om om];rfl
   have f:(a*g+i)%p.Loud.length<p.Loud.length:=Nat.mod_lt _ h0;have z:=l.loud _ (U4 f);have k:p.Loud.getD ((a*g+i)%p.Loud.length) 0=gI p.Loud ((a*g+i)%p.Loud.length):=rfl;rw [B8 (decide_eq_true om),em,sb,J3 0 om,Int.toNat_natCast,k,ckb om,Tv z.1 om,sb];exact key _ om
  ·rw [Au (decide_eq_false om)];exact key 9 om
theorem B8h (i:3000<=F) (k:UnB p) (l:TrB t n) (m:1<=g/\g<=3) {e:Int} (o:Ea F p=some e) (c:1<=e/\e<=401) :
  ∀(q N a:Nat) (X:List (List zD)),a+q=4->q<N->X.length=a->(∀b<a,RwU t p g b (X.getD b []))->∃X',E2 F p t (g:Int) e N X (a:Int)=some (swp 1 (g:Int) X',true)/\X'.length=4/\∀b<4,RwU t p g b (X'.getD b []):=by
 intro q
 induction q with
 | zero =>
  intro N a X s u f d;obtain ⟨N,rfl⟩:∃N',N=N'+1:=⟨N-1,om⟩;refine ⟨X,?_,om,λb hb=>d b om⟩;show Dy F p t (g:Int) e _ X (a:Int)=_;unfold Dy;rw [Au (decide_eq_false om)];rfl
 | succ q ih =>
  intro N a X s u f d;obtain ⟨N,rfl⟩:∃N',N=N'+1:=⟨N-1,om⟩;obtain ⟨r,r1,r2⟩:=B8k i k l m (show a<4 by omega) o c X (E2 F p t (g:Int) e N) g F 0 [] om om rfl (λj hj=>by omega);obtain ⟨X',x1,x2⟩:=ih N (a+1) (X++[r]) om om (by simp [f]) (λb hb=>by
   rw [A7m om]
   split
   ·exact d b om
   ·rw [show b=a by omega];exact r2)
  refine ⟨X',?_,x2⟩;show Dy F p t (g:Int) e (E2 F p t (g:Int) e N) X (a:Int)=_;unfold Dy;rw [B8 (decide_eq_true om)];refine Eq.trans r1 ?_;unfold F9 Kt;rw [R9 (by simp;omega),ckb om];rw [Int.natCast_add] at x1;exact x1
theorem B5k (i:3000<=F) (c:UnB p):∃(t:zH) (n g:Nat) (X:List (List zD)),G6 F p=some t/\TrB t n/\(1+p.Gates%3=(g:Int)/\1<=g/\g<=3)/\Hu F p=some (swp 1 (g:Int) X,true)/\X.length=4/\∀b<4,RwU t p g b (X.getD b []):=by
 have d:=c.gates;obtain ⟨t,n,t1,t2⟩:=B3e (F:=F) c;obtain ⟨e,e1,e2⟩:=B5c (F:=F) c;obtain ⟨g,f⟩:∃g:Nat,1+p.Gates%3=(g:Int):=⟨(1+p.Gates%3).toNat,om⟩;obtain ⟨X,x1,x2,x3⟩:=B8h (F:=F) (g:=g) i c t2 om e1 e2 4 F 0 [] om om rfl (λb hb=>by omega);refine ⟨t,n,g,X,t1,t2,⟨f,om,om⟩,?_,x2,x3⟩;unfold Hu;rw [t1,sb,ckb om,Tv d.1 om,sb,ckb om,f,e1,sb];exact x1
end
theorem Supp.comp {f:Fam} {p q r:Pl} {d e:Int} (b:Supp f p q d) (c:Supp f q r e):Supp f p r (d+e):=by
 intro z g;obtain ⟨y,y1,y2,y3⟩:=c z g;obtain ⟨w,w1,w2,w3⟩:=b y y1;exact ⟨w,w1,om,om⟩
section
variable {S T:Rays} {n m:Nat} {br jp:Int} {f:Fam}
theorem B3v (p:Shape S n m) (d:Stable (LL S br jp) f) {a:Nat} (q:a<n):∀(k i j:Nat),j=i+k->1<=k->(k:Int)<=br->ne (S.getD a []) i=true->ne (S.getD a []) j=true->Supp f (a,i) (a,j) (jp*(k:Int))/\Supp f (a,j) (a,i) (jp*(k:Int)):=by
 intro k
 induction k using Nat.strongRecOn with
 | _ k ih =>
  intro i j hj r hb g b
  by_cases l:∃x,i<x/\x<j/\ne (S.getD a []) x=true
  ·obtain ⟨x,x1,x2,x3⟩:=l;obtain ⟨c1,c2⟩:=ih (x-i) om i x om om om g x3;obtain ⟨d1,d2⟩:=ih (j-x) om x j om om om x3 b;have e:jp*(k:Int)=jp*((x-i:Nat):Int)+jp*((j-x:Nat):Int):=by rw [←Int.mul_add];congr 1;omega
   refine ⟨by rw [e];exact c1.comp d1,?_⟩;rw [e,Int.add_comm];exact d2.comp c2
  ·have c:∀x,i<x->x<j->ne (S.getD a []) x=false:=by
    intro x x1 x2
    cases e:ne (S.getD a []) x with
    | false=>rfl
    | true=>exact absurd ⟨x,x1,x2,e⟩ l
   have o:LL S br jp (a,i) (a,j) (jp*(k:Int)):=.inl ⟨rfl,by rw [p.1];exact q,⟨om,by have:=A30 b;exact this,g,b,c,om⟩,by simp only;congr 1;omega⟩;exact ⟨d _ _ _ (.inl o),d _ _ _ (.inr o)⟩
theorem B3w (b:Shape S n m) (g:Stable (LL S br jp) f) {i:Nat}:∀(k a:Nat),a<n->1<=k->(k:Int)<=br->k<n->ne (S.getD a []) i=true->ne (S.getD ((a+k)%n) []) i=true->Supp f (a,i) ((a+k)%n,i) (jp*(k:Int))/\Supp f ((a+k)%n,i) (a,i) (jp*(k:Int)):=by
 intro k
 induction k using Nat.strongRecOn with
 | _ k ih =>
  intro a j r hb c l o
  by_cases p:∃k',1<=k'/\k'<k/\ne (S.getD ((a+k')%n) []) i=true
  ·obtain ⟨x,x1,x2,x3⟩:=p;obtain ⟨c1,c2⟩:=ih x x2 a j x1 om om l x3;have em:((a+x)%n+(k-x))%n=(a+k)%n:=by
    rw [Nat.mod_add_mod];congr 1;omega
   obtain ⟨d1,d2⟩:=ih (k-x) om ((a+x)%n) (Nat.mod_lt _ om) om om om x3 (by rw [em];exact o);rw [em] at d1 d2;have e:jp*(k:Int)=jp*(x:Int)+jp*((k-x:Nat):Int):=by rw [←Int.mul_add];congr 1;omega
   refine ⟨by rw [e];exact c1.comp d1,?_⟩;rw [e,Int.add_comm];exact d2.comp c2
  ·have d:∀k',1<=k'->k'<k->ne (S.getD ((a+k')%S.length) []) i=false:=by
    intro x x1 x2;rw [b.1]
    cases e:ne (S.getD ((a+x)%n) []) i with
    | false=>rfl
    | true=>exact absurd ⟨x,x1,x2,e⟩ p
   have q:LL S br jp (a,i) ((a+k)%n,i) (jp*(k:Int)):=.inr ⟨by rw [b.1];exact j,l,rfl,k,⟨r,hb,by rw [b.1];exact c,by rw [b.1];exact o,d⟩,by rw [b.1],rfl⟩;exact ⟨g _ _ _ (.inl q),g _ _ _ (.inr q)⟩
structure Less (S T:Rays):Prop where
 eq:∀p:Pl,ne (T.getD p.1 []) p.2=true->gf T p=gf S p
theorem Less.ne (h:Less S T) {a i:Nat} (hn:ne (T.getD a []) i=true):ne (S.getD a []) i=true:=by
 have e:=h.eq (a,i) hn;unfold Go.Proofs.YtfkeddejdahnhaaGreatDoor.ne at hn ⊢;unfold gf at e;simp only at e;rw [←e];exact hn
theorem B7w (x:Shape S n m) (v:Shape T n m) (r:Less S T) {G H:Rays} (hG:Inv S (LL S br jp) n m G) (s:Stable (LL S br jp) (gf G)) (hH:Inv T (LL T br jp) n m H) {p:Pl} (hp:ne (T.getD p.1 []) p.2=true) {z:Int} (t:mem z (gf G p)):mem z (gf H p):=by
 have e:∀q z,mem z ((λq:Pl=>if Go.Proofs.YtfkeddejdahnhaaGreatDoor.ne (T.getD q.1 []) q.2=true then gf G q else []) q)↔Go.Proofs.YtfkeddejdahnhaaGreatDoor.ne (T.getD q.1 []) q.2=true/\mem z (gf G q):=by
  intro q z;simp only
  split
  ·rename_i h;exact ⟨λc=>⟨h,c⟩,λc=>c.2⟩
  ·rename_i h;exact ⟨λc=>absurd c (Rv z),λc=>absurd c.1 h⟩
 refine hH.most (λq=>if Go.Proofs.YtfkeddejdahnhaaGreatDoor.ne (T.getD q.1 []) q.2=true then gf G q else []) ?_ ?_ p z ((e p z).2 ⟨hp,t⟩)
 ·have key:∀p q d,LL T br jp p q d->(Supp (gf G) p q d/\Supp (gf G) q p d)/\Go.Proofs.YtfkeddejdahnhaaGreatDoor.ne (T.getD p.1 []) p.2=true/\Go.Proofs.YtfkeddejdahnhaaGreatDoor.ne (T.getD q.1 []) q.2=true:=by
   rintro ⟨a,i⟩ ⟨b,j⟩ d h;have hn:=B5y h;refine ⟨?_,hn⟩;rcases h with ⟨l,c,g,o⟩|⟨l,c,g,k,o,u,h6⟩
   ·simp only at l c g o hn;subst l;rw [v.1] at c;have:=B3v x s c (j-i) i j (by have:=g.1;omega) (by have:=g.1;omega) (by have:=g.2.2.2.2.2;have:=g.1;omega) (r.ne hn.1) (r.ne hn.2);rw [o,show (j:Int)-(i:Int)=((j-i:Nat):Int) by have:=g.1;omega];exact this
   ·simp only at l c g u h6 hn;subst g;rw [v.1] at l u;have hk:=o.2.2.1;rw [v.1] at hk;have:=B3w x s (i:=i) k a l o.1 o.2.1 hk (r.ne hn.1) (by rw [←u];exact r.ne hn.2);rw [h6,u];exact this
  intro p q d h;have f:Supp (gf G) p q d/\Go.Proofs.YtfkeddejdahnhaaGreatDoor.ne (T.getD p.1 []) p.2=true/\Go.Proofs.YtfkeddejdahnhaaGreatDoor.ne (T.getD q.1 []) q.2=true:=by
   rcases h with h|h
   ·obtain ⟨⟨k1,k2⟩,k3,k4⟩:=key p q d h;exact ⟨k1,k3,k4⟩
   ·obtain ⟨⟨k1,k2⟩,k3,k4⟩:=key q p d h;exact ⟨k2,k4,k3⟩
  intro z t;obtain ⟨y,y1,y2,y3⟩:=f.1 z ((e q z).1 t).2;exact ⟨y,(e p y).2 ⟨f.2.1,y1⟩,y2,y3⟩
 ·intro q z t;obtain ⟨l,c⟩:=(e q z).1 t;rw [r.eq q l];exact hG.below q z c
end
theorem A96 {A B:List zA} (h:∀z,mem z A->mem z B) {g q:zF} (i:Xd A g=some q):∃r,Xd B g=some r/\r.Whole=q.Whole/\r.Speed.Lo<=q.Speed.Lo/\q.Speed.Hi<=r.Speed.Hi:=by
 have l:∀z,mem z (mt A [g.Speed])->mem z (mt B [g.Speed]):=λz m=>(Xr _ _ _).2 ⟨h z ((Xr _ _ _).1 m).1,((Xr _ _ _).1 m).2⟩;have cA:=Tb A [g.Speed];have cB:=Tb B [g.Speed];unfold Xd at i ⊢
 split at i
 ·rename_i e
  cases i
  generalize mt A [g.Speed]=M at *;generalize mt B [g.Speed]=N at *;have h0:M.getD 0 default∈M:=by rw [List.getD_eq_getElem?_getD,List.getElem?_eq_getElem e];exact List.getElem_mem _
  have n:M.getD (M.length-1) default∈M:=by rw [List.getD_eq_getElem?_getD,List.getElem?_eq_getElem om];exact List.getElem_mem _
  have v0:=cA.2 _ h0;have v1:=cA.2 _ n;obtain ⟨u,u1,u2⟩:=l (2*(M.getD 0 default).Lo) ⟨_,h0,by unfold inS;omega⟩;obtain ⟨w,w1,w2⟩:=l (2*(M.getD (M.length-1) default).Hi) ⟨_,n,by unfold inS;omega⟩;unfold inS at u2 w2;have b:0<N.length:=List.length_pos_of_mem u1;have f:=List.pairwise_iff_getElem.1 cB.1;rw [if_pos b];refine ⟨_,rfl,rfl,?_,?_⟩
  ·simp only;obtain ⟨j,hj,c⟩:=List.mem_iff_getElem.1 u1;have e0:(N.getD 0 default)=N[0]:=by rw [List.getD_eq_getElem?_getD,List.getElem?_eq_getElem b];rfl
   rw [e0]
   by_cases d:j=0
   ·subst d;rw [c];omega
   ·have:=f 0 j b hj om;have k:=cB.2 _ (List.getElem_mem b);rw [c] at this;omega
  ·simp only;obtain ⟨j,hj,c⟩:=List.mem_iff_getElem.1 w1;have e0:(N.getD (N.length-1) default)=N[N.length-1]:=by rw [List.getD_eq_getElem?_getD,List.getElem?_eq_getElem om];rfl
   rw [e0]
   by_cases d:j=N.length-1
   ·subst d;rw [c];omega
   ·have:=f j (N.length-1) hj om om;have k:=cB.2 _ (List.getElem_mem (show N.length-1<N.length by omega));rw [c] at this;omega
 ·cases i
def A8h (g r:zF):Prop:=r.Whole=g.Whole/\r.Speed.Lo<=g.Speed.Lo/\g.Speed.Hi<=r.Speed.Hi
theorem B7g {F:Nat} {g:zF} {l:List zF} (h:∃r∈l,A8h g r) (y:l.length<=1000000) (z:1000001<=F):Pw F g l=some true:=by
 have go:∀(q N i:Nat),i+q=l.length->q<N->(∃r∈l.drop i,A8h g r)->Jv g l N (i:Int)=some true:=by
  intro q
  induction q with
  | zero =>
   intro N i hi s hr;obtain ⟨r,hr,_⟩:=hr;rw [List.drop_eq_nil_of_le om] at hr
   cases hr
  | succ q ih =>
   intro N i hi s hr;obtain ⟨N,rfl⟩:∃N',N=N'+1:=⟨N-1,om⟩;show M6 g l (Jv g l N) (i:Int)=_;unfold M6;have t:=N5 (l:=l) (k:=i) default om;rw [B8 (decide_eq_true om),t,sb];generalize v:l.getD i default=u at *;have x:∀c:Bool,gd c (some u) (default:zF)=some u\/gd c (some u) (default:zF)=some default:=by intro c;cases c;exact .inr rfl;exact .inl rfl
   by_cases f:A8h g u
   ·obtain ⟨w1,w2,w3⟩:=f;have e1:(((u.Whole.1:Int)==g.Whole.1)&&(((u.Whole.2:Int)==g.Whole.2)&&true))=true:=by rw [w1];simp
    rw [e1,gdT (by rfl),sb,B8 rfl,decide_eq_true w2,gdT (by rfl),sb,decide_eq_true (show u.Speed.Hi>=g.Speed.Hi from w3)];rfl
   ·have d:∃r∈l.drop (i+1),A8h g r:=by
     obtain ⟨r,hr,e⟩:=hr;rw [G7 (i:=i) om default,v] at hr;rcases List.mem_cons.1 hr with rfl|hr
     ·exact absurd e f
     ·exact ⟨r,hr,e⟩
    have b:=ih N (i+1) om om d;rw [Int.natCast_add] at b
    cases j:(((u.Whole.1:Int)==g.Whole.1)&&(((u.Whole.2:Int)==g.Whole.2)&&true)) with
    | false =>
     rw [gdF (by rfl),sb,gdF (by rfl),sb,Au (by rfl),ckb om];exact b
    | true =>
     rw [gdT (by rfl),sb,B8 rfl];have m:u.Whole=g.Whole:=by
      simp at j;exact Prod.ext j.1 j.2
     cases n:decide (u.Speed.Lo<=g.Speed.Lo) with
     | false =>
      rw [gdF (by rfl),sb,Au (by rfl),ckb om];exact b
     | true =>
      rw [gdT (by rfl),sb];have o:=of_decide_eq_true n
      cases p:decide (u.Speed.Hi>=g.Speed.Hi) with
      | true=>exact absurd ⟨m,o,of_decide_eq_true p⟩ f
      | false =>
       rw [Au (by rfl),ckb om];exact b
 exact go l.length F 0 om om (by rw [List.drop_zero];exact h)
section
variable {F:Nat} {t:zH} {n g:Nat} {X:List (List zD)}
theorem B65 (a i:Nat):gX (swp 1 (g:Int) X) a i=(X.getD a []).getD i default:=rfl
theorem B3j (hF:FS<=F) (o:TrB t n) (hg:1<=g/\g<=3) {c J br:Int} (hJ:0<=J/\J<=9000) (b3:1<=br/\br<=16) (hX:X.length=4) (hr:∀a<4,(X.getD a []).length=g) (v:Nat->Nat->Int) (hG:∀a<4,∀i<g,Gate t c J ((X.getD a []).getD i default) (v a i)) :
  D3 F (swp 1 (g:Int) X)=some 0/\∃G,Nh F t (swp 1 (g:Int) X) 60000 J br=some ((List.range 4).map (λa=>(List.range g).map (oX t (swp 1 (g:Int) X) 60000 G a)),0)/\Inv (SX t (swp 1 (g:Int) X) 60000 4 g) (LL (SX t (swp 1 (g:Int) X) 60000 4 g) br J) 4 g G/\Stable (LL (SX t (swp 1 (g:Int) X) 60000 4 g) br J) (gf G) /\
   ∀a<4,∀i<g,(gX (swp 1 (g:Int) X) a i).Kind=3->∃q∈(oX t (swp 1 (g:Int) X) 60000 G a i).Guesses,q.Speed.Lo<=v a i/\v a i<=q.Speed.Hi:=by
 have b4:=hF;unfold FS at b4;have p:D3 F (swp 1 (g:Int) X)=some 0:=by
  refine A8o om om om om λr b5=>?_;obtain ⟨a,l,e⟩:=List.mem_iff_getElem.1 b5;have e2:X.getD a []=r:=by rw [List.getD_eq_getElem?_getD,List.getElem?_eq_getElem l];exact e
  have y:=hr a om;rw [e2] at y;refine ⟨om,λx hx=>?_⟩;obtain ⟨i,hi,e3⟩:=List.mem_iff_getElem.1 hx;have e4:r.getD i default=x:=by rw [List.getD_eq_getElem?_getD,List.getElem?_eq_getElem hi];exact e3
  have:=(hG a om i om).ok;rw [e2,e4] at this;exact this
 have c3:=o.la;have b6:A7a F t (swp 1 (g:Int) X) 60000:=by
  intro a i f;have z:a<4/\i<g:=by
   apply Classical.byContradiction;intro hc;have e:gX (swp 1 (g:Int) X) a i=default:=by
    rw [B65]
    by_cases l:a<4
    ·rw [List.getD_eq_getElem?_getD,List.getElem?_eq_none (by have:=hr a l;omega)];rfl
    ·rw [show X.getD a []=[] by rw [List.getD_eq_getElem?_getD,List.getElem?_eq_none om];rfl];rfl
   rw [e] at f;exact absurd f dc
  have d:=hG a z.1 i z.2;rw [B65] at f ⊢;obtain ⟨h4,_,h6⟩:=d.hit f;have c6:=A74 o (w:=0) (.inl rfl);refine B9q F om o.ok (A4h d.ok f) om (A7l om om om h4) λb0=>?_;have c7:=A74 o (w:=1) (.inr ⟨rfl,b0⟩);exact A7l om om om (h6 b0).1
 obtain ⟨G,g1,g2,g3⟩:=A9y (s:=swp 1 (g:Int) X) (mst:=60000) (jp:=J) (br:=br) (n:=4) (m:=g) hF o.ok p om om b3 b6 hX om om hr;refine ⟨p,G,g1,g2,g3,λa l i hi f=>?_⟩;have b1:∀b<4,∀j<g,vX ((List.range 4).map λb=>(List.range g).map (v b)) b j=v b j:=λb hb j hj=>by
  unfold vX;rw [List.getD_eq_getElem?_getD,List.getD_eq_getElem?_getD,List.getElem?_map,List.getElem?_range hb];simp [hj]
 have b7:∀b<4,∀j<g,Gate t c J (gX (swp 1 (g:Int) X) b j) (vX ((List.range 4).map λb=>(List.range g).map (v b)) b j):=λb hb j hj=>by
  rw [b1 b hb j hj];exact hG b hb j hj
 have k:=B3f hJ.1 b7 om g2 l hi f;rw [b1 a l i hi] at k;have d:=hG a l i hi;obtain ⟨_,q1,q2⟩:=d.hit f;obtain ⟨u,h1,h2⟩:=B1e (t:=t) (x:=gX (swp 1 (g:Int) X) a i) (m:=60000) q1 (λhk=>(q2 hk).2) (by have:=d.bd;omega);obtain ⟨q,p1,p2⟩:=B1q (g2.good.good (a,i)) (λg hg=>(A4v hg).1) h1 h2 k;refine ⟨q,?_,p2⟩;unfold oX A2w;rw [if_pos f];exact p1
theorem B05 {p:zW} (f:UnB p) (o:TrB t n) {k:Nat} (q:k<=100) {x:zD} (b:EcB t (spU p k) 1 x):Gate t (A4g p) (p.Jump%9000) x (spU p k):=by
 obtain ⟨_,r,g,i⟩:=B35 (F:=0) f k om;refine ⟨om,⟨g,i⟩,b.ok,λj=>?_⟩;obtain ⟨l,m,c⟩:=b.hit j;have d:spU p k=spU p k/1\/spU p k=-(-spU p k/1):=.inl (Int.ediv_one _).symm;exact ⟨l,A4x om m d,λe=>⟨(c e).1,A4x om (c e).2 d⟩⟩
theorem B4v {c J v:Int} (b:-50000<=v/\v<=50000) (hn:c-J/2<=v/\v<=c+J/2):Gate t c J qtE v :=
 ⟨b,hn,by rfl,λh=>absurd h dc⟩
variable {p:zU} {G H:Rays} {Y:List (List zD)} {vs:List (List zP)} {e1 e2 e3 e4:Int}
theorem B21 (e:UnB p.Air) {a i:Nat} (b:a<4) (hi:i<g) (j:g<=3) {old:List (List zK)×Int} {f:Nat->Nat->zK} (o:(f a i).Guesses.length<=129*129) (k4:Int->Option Bool) :
  ∀(q N k:Nat) (c:Bool),k+q=(f a i).Guesses.length->q<N->Ju F p (swp 1 (g:Int) X,true) old ((List.range 4).map (λa=>(List.range g).map (f a)),e1) (a:Int) (i:Int) k4 N c (k:Int)=M5 F old ((List.range 4).map (λa=>(List.range g).map (f a)),e1) (a:Int) (i:Int) k4 (c||((f a i).Guesses.drop k).any λu=>decide (u.Speed.Lo<=spU p.Air (a*g+i))&&decide (spU p.Air (a*g+i)<=u.Speed.Hi)):=by
 have l:a*g+i<=100:=by
  have:=Nat.mul_le_mul (show a<=3 by omega) j;omega
 have e9:(a:Int)*(g:Int)=((a*g:Nat):Int):=by rw [Int.natCast_mul]
 have e8:((a*g:Nat):Int)+(i:Int)=((a*g+i:Nat):Int):=by rw [Int.natCast_add]
 have d:=(B35 (F:=F) e (a*g+i) om).1;intro q
 induction q with
 | zero =>
  intro N k c m n;obtain ⟨N,rfl⟩:∃N',N=N'+1:=⟨N-1,om⟩;show Gu F p (swp 1 (g:Int) X,true) old _ (a:Int) (i:Int) k4 _ c (k:Int)=_;unfold Gu;simp only;rw [W5 b,Ss hi,Au (decide_eq_false om),List.drop_eq_nil_of_le om];simp
 | succ q ih =>
  intro N k c m n;obtain ⟨N,rfl⟩:∃N',N=N'+1:=⟨N-1,om⟩;show Gu F p (swp 1 (g:Int) X,true) old _ (a:Int) (i:Int) k4 (Ju F p (swp 1 (g:Int) X,true) old _ (a:Int) (i:Int) k4 N) c (k:Int)=_;have eG:(swp 1 (g:Int) X).Site.Gates=(g:Int):=rfl;unfold Gu;simp only;rw [W5 b,Ss hi,B8 (decide_eq_true om),W5 b,Ss hi,N5 default om,sb,eG,e9,ckb om,e8,ckb om,d,sb,ckb om];have:=ih N (k+1) (bif c then true else (bif (decide (spU p.Air (a*g+i)>=((f a i).Guesses.getD k default).Speed.Lo)) then (decide (spU p.Air (a*g+i)<=((f a i).Guesses.getD k default).Speed.Hi)) else false)) om om;rw [Int.natCast_add] at this;refine Eq.trans this ?_
  congr 1
  rw [G7 (i:=k) om default,List.any_cons]
  cases c
  ·simp only [Bool.false_or,cond_false,ge_iff_le]
   cases decide (((f a i).Guesses.getD k default).Speed.Lo<=spU p.Air (a*g+i))<;>rfl
  ·simp
theorem B2h {a i:Nat} (b:a<4) (hi:i<g) {f f':Nat->Nat->zK} (c:1000001<=F) (n:(f a i).Guesses.length<=129*129) (d:(f' a i).Guesses.length<=129*129) (e:∀u∈(f a i).Guesses,∃r∈(f' a i).Guesses,A8h u r) (k4:Int->Option Bool) :
  ∀(q N k:Nat),k+q=(f a i).Guesses.length->q<N->Jt F ((List.range 4).map (λa=>(List.range g).map (f a)),e1) ((List.range 4).map (λa=>(List.range g).map (f' a)),e2) (a:Int) (i:Int) k4 N true (k:Int)=Gv (i:Int) k4:=by
 intro q
 induction q with
 | zero =>
  intro N k j l;obtain ⟨N,rfl⟩:∃N',N=N'+1:=⟨N-1,om⟩;show Gt F _ _ (a:Int) (i:Int) k4 _ true (k:Int)=_;unfold Gt P8;simp only;rw [W5 b,Ss hi,Au (decide_eq_false om),Au (by rfl)]
 | succ q ih =>
  intro N k j l;obtain ⟨N,rfl⟩:∃N',N=N'+1:=⟨N-1,om⟩;have hm:(f a i).Guesses.getD k default∈(f a i).Guesses:=by rw [List.getD_eq_getElem?_getD,List.getElem?_eq_getElem (by omega:k<(f a i).Guesses.length)];exact List.getElem_mem _
  have m:Pw F (zF.mk (((f a i).Guesses.getD k default).Whole.1,((f a i).Guesses.getD k default).Whole.2) ((f a i).Guesses.getD k default).Speed) (f' a i).Guesses=some true:=B7g (e _ hm) om c;show Gt F _ _ (a:Int) (i:Int) k4 (Jt F _ _ (a:Int) (i:Int) k4 N) true (k:Int)=_;unfold Gt;simp only;rw [W5 b,Ss hi,B8 (decide_eq_true om),W5 b,Ss hi,N5 default om,sb,W5 b,Ss hi,gdT (by rfl),m,sb,ckb om];have:=ih N (k+1) om om;rw [Int.natCast_add] at this;exact this
end
theorem B3m:Mr FS=some true:=by kernel_rfl
theorem B1x {r:List zF} (h:0<r.length):((mkF r).State==1)=false:=by
 unfold mkF;simp only;rw [if_neg om]
 split<;>rfl
section
variable {F:Nat} {t:zH} {n g:Nat} {X Y:List (List zD)} {p:zU} {G H:Rays} {vs:List (List zP)} {br:Int}
structure BothS (t:zH) (p:zU) (g:Nat) (X Y:List (List zD)) (vs:List (List zP)) (G H:Rays) (br:Int):Prop where
 lv:vs.length=4
 rv:∀a<4,(vs.getD a []).length=g
 lX:X.length=4
 rX:∀a<4,(X.getD a []).length=g
 lY:Y.length=4
 rY:∀a<4,RwC (swp 1 (g:Int) X) vs g a g (Y.getD a [])
 iG:Inv (SX t (swp 1 (g:Int) X) 60000 4 g) (LL (SX t (swp 1 (g:Int) X) 60000 4 g) br (p.Air.Jump%9000)) 4 g G
 sG:Stable (LL (SX t (swp 1 (g:Int) X) 60000 4 g) br (p.Air.Jump%9000)) (gf G)
 iH:Inv (SX t (swp 1 (g:Int) Y) 60000 4 g) (LL (SX t (swp 1 (g:Int) Y) 60000 4 g) br (p.Air.Jump%9000)) 4 g H
 tH:∀a<4,∀i<g,(gX (swp 1 (g:Int) Y) a i).Kind=3->∃q∈(oX t (swp 1 (g:Int) Y) 60000 H a i).Guesses,q.Speed.Lo<=spU p.Air (a*g+i)/\spU p.Air (a*g+i)<=q.Speed.Hi
 tG:∀a<4,∀i<g,(gX (swp 1 (g:Int) X) a i).Kind=3->∃q∈(oX t (swp 1 (g:Int) X) 60000 G a i).Guesses,q.Speed.Lo<=spU p.Air (a*g+i)/\spU p.Air (a*g+i)<=q.Speed.Hi
theorem BothS.at_ (h:BothS t p g X Y vs G H br) {a i:Nat} (b:a<4) (hi:i<g):gX (swp 1 (g:Int) Y) a i=if 0<=ruV vs a i then qtE else gX (swp 1 (g:Int) X) a i:=by
 have:=(h.rY a b).2 i hi;rw [if_pos hi] at this;exact this
theorem BothS.less (h:BothS t p g X Y vs G H br):Less (SX t (swp 1 (g:Int) X) 60000 4 g) (SX t (swp 1 (g:Int) Y) 60000 4 g):=by
 refine ⟨λq d=>?_⟩;have b:q.1<4/\q.2<g:=by
  have c:=A30 d
  by_cases f:q.1<4
  ·rw [SX_shape.row f] at c;exact ⟨f,c⟩
  ·rw [List.getD_eq_getElem?_getD,List.getElem?_eq_none (by rw [SX_shape.1];omega)] at c;simp at c
 have i:=A1p b.1 b.2 d;have e:=h.at_ b.1 b.2;rw [A2k b.1 b.2,A2k b.1 b.2]
 split at e
 ·rw [e] at i;exact absurd i dc
 ·unfold sX;rw [e]
theorem BothS.wide (h:BothS t p g X Y vs G H br) {a i:Nat} (d:a<4) (hi:i<g) (hr:¬0<=ruV vs a i):∀u∈(oX t (swp 1 (g:Int) X) 60000 G a i).Guesses,∃r∈(oX t (swp 1 (g:Int) Y) 60000 H a i).Guesses,A8h u r:=by
 intro u b;have e:=h.at_ d hi;rw [if_neg hr] at e
 by_cases k:(gX (swp 1 (g:Int) X) a i).Kind=3
 ·unfold oX at b ⊢;rw [e];rw [if_pos k] at b ⊢;unfold A2w mkF at b ⊢;simp only at b ⊢;obtain ⟨g0,f,j⟩:=List.mem_filterMap.1 b;have c:∀z,mem z (gf G (a,i))->mem z (gf H (a,i)):=by
   intro z l;refine B7w SX_shape SX_shape h.less h.iG h.sG h.iH ?_ l;have hb:=h.iG.below (a,i) z l;have e2:gf (SX t (swp 1 (g:Int) Y) 60000 4 g) (a,i)=gf (SX t (swp 1 (g:Int) X) 60000 4 g) (a,i):=by
    rw [A2k (p:=(a,i)) d hi,A2k (p:=(a,i)) d hi];unfold sX;simp only;rw [e]
   rw [←e2] at hb;obtain ⟨s,m,_⟩:=hb;unfold ne;exact decide_eq_true (List.length_pos_of_mem m)
  obtain ⟨r,r1,r2,r3,r4⟩:=A96 c j;exact ⟨r,List.mem_filterMap.2 ⟨g0,f,r1⟩,r2,r3,r4⟩
 ·unfold oX at b;rw [if_neg k] at b
  cases b
theorem B26 (s:zJ) (G:Rays) (a i:Nat):(oX t s 60000 G a i).Guesses.length<=129*129:=by
 unfold oX A2w mkF
 split
 ·exact Nat.le_trans (List.length_filterMap_le _ _) A6d
 ·simp
theorem B4b (hF:FS<=F) (h:BothS t p g X Y vs G H br) (hA:UnB p.Air) (hg:1<=g/\g<=3) {a:Nat} (d:a<4) {e e1 e2 e3:Int} (k2:Int->Option Bool):∀(q N i:Nat),i+q=g->q<N ->
  F8 F p (swp 1 (g:Int) X,true) (swp 1 (g:Int) Y,e) (vs,e1) ((List.range 4).map (λa=>(List.range g).map (oX t (swp 1 (g:Int) X) 60000 G a)),e2) ((List.range 4).map (λa=>(List.range g).map (oX t (swp 1 (g:Int) Y) 60000 H a)),e3) (a:Int) k2 N (i:Int)=k2 ((a+1:Nat):Int):=by
 have x:=hF;unfold FS at x;have eG:(swp 1 (g:Int) X).Site.Gates=(g:Int):=rfl;have b7:=h.rv a d;have b8:=h.lv;have b9:=h.lX;have c0:=h.rX a d;have c1:=h.lY;have y:=h.rY a d;intro q
 induction q with
 | zero =>
  intro N i hi hN;obtain ⟨N,rfl⟩:∃N',N=N'+1:=⟨N-1,om⟩;show Gs F p (swp 1 (g:Int) X,true) (swp 1 (g:Int) Y,e) (vs,e1) _ _ (a:Int) k2 _ (i:Int)=_;unfold Gs P7;simp only;rw [eG,Au (decide_eq_false om),ckb om];rfl
 | succ q ih =>
  intro N i hi hN;obtain ⟨N,rfl⟩:∃N',N=N'+1:=⟨N-1,om⟩;have b:i<g:=om
  have c:=h.at_ d b;have z:((vs.getD a []).getD i default).Rule=ruV vs a i:=rfl;have eX:(swp 1 (g:Int) X).Rays=X:=rfl;have eY:(swp 1 (g:Int) Y).Rays=Y:=rfl;have k:(X.getD a []).getD i default=gX (swp 1 (g:Int) X) a i:=rfl;have b0:(Y.getD a []).getD i default=gX (swp 1 (g:Int) Y) a i:=rfl;have l:=ih N (i+1) om om;rw [Int.natCast_add] at l;have m:Gv (i:Int) (F8 F p (swp 1 (g:Int) X,true) (swp 1 (g:Int) Y,e) (vs,e1) ((List.range 4).map (λa=>(List.range g).map (oX t (swp 1 (g:Int) X) 60000 G a)),e2) ((List.range 4).map (λa=>(List.range g).map (oX t (swp 1 (g:Int) Y) 60000 H a)),e3) (a:Int) k2 N)=k2 ((a+1:Nat):Int):=by
   unfold Gv;rw [ckb om];exact l
  show Gs F p (swp 1 (g:Int) X,true) (swp 1 (g:Int) Y,e) (vs,e1) _ _ (a:Int) k2 (F8 F p (swp 1 (g:Int) X,true) (swp 1 (g:Int) Y,e) (vs,e1) _ _ (a:Int) k2 N) (i:Int)=_;unfold Gs;simp only;rw [eG,B8 (decide_eq_true om),N5 [] om,sb,N5 default om,sb,z]
  by_cases v:0<=ruV vs a i
  ·rw [if_pos v] at c;have ho:oX t (swp 1 (g:Int) Y) 60000 H a i=⟨1,[]⟩:=by
    unfold oX;rw [c,if_neg dc]
   rw [B8 (decide_eq_true v),W5 d,Ss b,ho,Au (by rfl)];exact m
  ·rw [if_neg v] at c;rw [Au (decide_eq_false om),eY,eX,N5 [] om,sb,N5 default (by rw [y.1];omega),sb,N5 [] om,sb,N5 default om,sb,k,b0,c,W5 d,Ss b,W5 d,Ss b];have b1:((oX t (swp 1 (g:Int) Y) 60000 H a i).State==1)=((oX t (swp 1 (g:Int) X) 60000 G a i).State==1):=by
    by_cases j:(gX (swp 1 (g:Int) X) a i).Kind=3
    ·have n:(gX (swp 1 (g:Int) Y) a i).Kind=3:=by rw [c];exact j
     obtain ⟨u,hu,_⟩:=h.tG a d i b j;obtain ⟨w,o,_⟩:=h.tH a d i b n;unfold oX A2w at hu o ⊢;rw [if_pos n] at o ⊢;rw [if_pos j] at hu ⊢;rw [show ((mkF (List.filterMap (Xd (gf G (a,i))) (gl t (gX (swp 1 (g:Int) X) a i) 60000))).State==1)=false from B1x (List.length_pos_of_mem hu),show ((mkF (List.filterMap (Xd (gf H (a,i))) (gl t (gX (swp 1 (g:Int) Y) a i) 60000))).State==1)=false from B1x (List.length_pos_of_mem o)]
    ·unfold oX;rw [if_neg j,if_neg (by rw [c];exact j)]
   rw [Au (by rw [b1];simp),sb,N5 default om,sb,k];have b3:=B26 (t:=t) (swp 1 (g:Int) X) G a i;have r:=B26 (t:=t) (swp 1 (g:Int) Y) H a i;have h9:=B21 (F:=F) (X:=X) (p:=p) (e1:=e3) hA d b hg.2 (old:=((List.range 4).map (λa=>(List.range g).map (oX t (swp 1 (g:Int) X) 60000 G a)),e2)) (f:=oX t (swp 1 (g:Int) Y) 60000 H) r (F8 F p (swp 1 (g:Int) X,true) (swp 1 (g:Int) Y,e) (vs,e1) ((List.range 4).map (λa=>(List.range g).map (oX t (swp 1 (g:Int) X) 60000 G a)),e2) ((List.range 4).map (λa=>(List.range g).map (oX t (swp 1 (g:Int) Y) 60000 H a)),e3) (a:Int) k2 N) (oX t (swp 1 (g:Int) Y) 60000 H a i).Guesses.length F 0 ((gX (swp 1 (g:Int) X) a i).Kind != 3) om om;refine Eq.trans h9 ?_;have s:(((gX (swp 1 (g:Int) X) a i).Kind != 3)||((oX t (swp 1 (g:Int) Y) 60000 H a i).Guesses.drop 0).any λu=>decide (u.Speed.Lo<=spU p.Air (a*g+i))&&decide (spU p.Air (a*g+i)<=u.Speed.Hi))=true:=by
    by_cases j:(gX (swp 1 (g:Int) X) a i).Kind=3
    ·obtain ⟨w,o,w1,w2⟩:=h.tH a d i b (by rw [c];exact j);rw [Bool.or_eq_true];right;rw [List.drop_zero,List.any_eq_true];exact ⟨w,o,by rw [decide_eq_true w1,decide_eq_true w2];rfl⟩
    ·rw [Bool.or_eq_true];left
     simpa using j
   rw [s];unfold M5;exact (B2h (e1:=e2) (e2:=e3) d b om b3 r (h.wide d b v) _ (oX t (swp 1 (g:Int) X) 60000 G a i).Guesses.length F 0 om om).trans m
theorem B8g (c:FS<=F) (d:Mr F=some true) (h:BothS t p g X Y vs G H br) (f:UnB p.Air) (i:1<=g/\g<=3) {e e1 e2 e3:Int}:∀(q N a:Nat),a+q=4->q<N ->
  Js F p (swp 1 (g:Int) X,true) (swp 1 (g:Int) Y,e) (vs,e1) ((List.range 4).map (λa=>(List.range g).map (oX t (swp 1 (g:Int) X) 60000 G a)),e2) ((List.range 4).map (λa=>(List.range g).map (oX t (swp 1 (g:Int) Y) 60000 H a)),e3) N (a:Int)=some true:=by
 have b:=c;unfold FS at b;intro q
 induction q with
 | zero =>
  intro N a j k;obtain ⟨N,rfl⟩:∃N',N=N'+1:=⟨N-1,om⟩;show Gr F p (swp 1 (g:Int) X,true) (swp 1 (g:Int) Y,e) (vs,e1) _ _ _ (a:Int)=_;unfold Gr P6;rw [Au (decide_eq_false om),d,sb]
 | succ q ih =>
  intro N a j k;obtain ⟨N,rfl⟩:∃N',N=N'+1:=⟨N-1,om⟩;show Gr F p (swp 1 (g:Int) X,true) (swp 1 (g:Int) Y,e) (vs,e1) _ _ (Js F p (swp 1 (g:Int) X,true) (swp 1 (g:Int) Y,e) (vs,e1) _ _ N) (a:Int)=_;unfold Gr;rw [B8 (decide_eq_true om)];exact (B4b c h f i (show a<4 by omega) _ g F 0 om om).trans (ih N (a+1) om om)
end
structure SiB (p:zU):Prop where
 air:UnB p.Air
 sf:SfB p
theorem A3b (p:zU) (h:SiB p):Pu FS p=some true:=by
 have v:=B3m;obtain ⟨F,x⟩:∃F,F=FS:=⟨_,rfl⟩;have d:FS<=F:=om
 have q:=d;unfold FS at q;rw [←x] at v ⊢
 clear x
 have m:=h.air;have o:=h.sf;have hj:=m.jump;have j:=o.far;obtain ⟨t,n,g,X,t1,t2,⟨z,e,f⟩,x1,x2,x3⟩:=B5k (F:=F) om m;have l:∀a<4,∀i<g,Gate t (A4g p.Air) (p.Air.Jump%9000) ((X.getD a []).getD i default) (spU p.Air (a*g+i)):=by
  intro a b i hi;have r:a*g+i<=100:=by
   have:=Nat.mul_le_mul (show a<=3 by omega) f;omega
  exact B05 m t2 r ((x3 a b).2 i hi)
 obtain ⟨c1,G,u1,u2,u3,u4⟩:=B3j (F:=F) d t2 ⟨e,f⟩ (c:=A4g p.Air) (J:=p.Air.Jump%9000) (br:=1+p.Far%3) om om x2 (λa b=>(x3 a b).1) (λa i=>spU p.Air (a*g+i)) l;have s:SwB (swp 1 (g:Int) X) 4 g:=⟨⟨x2,om,om⟩,⟨rfl,e,om⟩,λa b=>(x3 a b).1⟩;obtain ⟨vs,Y,v1,v2,v3,v4,v5,v6⟩:=B0i (F:=F) s om o c1;have u:∀a<4,∀i<g,Gate t (A4g p.Air) (p.Air.Jump%9000) ((Y.getD a []).getD i default) (spU p.Air (a*g+i)):=by
  intro a b i hi;have k:=l a b i hi;have:=(v6 a b).2 i hi;rw [if_pos hi] at this;rw [this];unfold B44
  split
  ·exact B4v (by have:=k.bd;omega) k.near
  ·exact k
 obtain ⟨c2,H,w1,w2,w3,w4⟩:=B3j (F:=F) d t2 ⟨e,f⟩ (c:=A4g p.Air) (J:=p.Air.Jump%9000) (br:=1+p.Far%3) om om v5 (λa b=>(v6 a b).1) (λa i=>spU p.Air (a*g+i)) u;have y:BothS t p g X Y vs G H (1+p.Far%3):=⟨v2,v3,x2,λa b=>(x3 a b).1,v5,v6,u2,u3,w2,w4,u4⟩;have eX:∀Z:List (List zD),(zJ.mk (zX.mk (swp 1 (g:Int) Z).Site.Name (swp 1 (g:Int) Z).Site.X (swp 1 (g:Int) Z).Site.Y (swp 1 (g:Int) Z).Site.Z (swp 1 (g:Int) Z).Site.Rose (swp 1 (g:Int) Z).Site.Gates (swp 1 (g:Int) Z).Site.Step (swp 1 (g:Int) Z).Site.Width) (swp 1 (g:Int) Z).Tilt (swp 1 (g:Int) Z).Time (swp 1 (g:Int) Z).Rays)=swp 1 (g:Int) Z:=λ_=>rfl;have v4':Q9 F (rlS (lsS p)) (swp 1 (g:Int) X)=some (swp 1 (g:Int) Y,0):=v4;unfold Pu;rw [B5l o om,sb,B3q o om,sb,x1,sb,Au (by rfl)];simp only;rw [eX,v4',sb,v1,sb,ckb om,Tv hj.1 om,sb,t1,sb,ckb om,Tv j.1 om,sb,ckb om,u1,sb,ckb om,Tv j.1 om,sb,ckb om,w1,sb,Au (by simp [v2])];exact B8g d v y m ⟨e,f⟩ 4 F 0 om om
end Go.Proofs.YtfkeddejdahnhaaGreatDoor
