import Derived.Test.YtjfhcbjhjeklbaaGreatT3XV
set_option linter.unusedVariables false
set_option linter.unusedSimpArgs false
set_option linter.unusedSectionVars false
namespace Go.Proofs.YtjfhcbjhjeklbaaGreat
open Go Go.RowKit Go.Eng
set_option maxRecDepth 100000
set_option linter.unusedVariables false
set_option linter.unusedSimpArgs false
theorem Hj {α β:Type} {o:Option α} {f:α->Option β} {x:α} (h:o=some x):o.bind f=f x:=by rw [h];rfl
theorem ckJ {x:Int} (h:-1000000000000000<=x/\x<=1000000000000000):ck x=some x:=by unfold ck;rw [if_pos ⟨by omega,by omega⟩]
theorem B74 {x:Nat} (h:x<=1000000000):ck ((x:Int)+1)=some ((x+1:Nat):Int):=by rw [ckJ (by omega),Int.natCast_add];rfl
theorem Xj {x y:Int} (h:y≠0):J9 x y=some (x.tmod y):=by unfold J9;rw [if_neg h]
def nmA (i:Int):ByteArray:=if i=0 then ⟨#[97]⟩ else ⟨#[98]⟩
def Xl (v:Int) (p:Nat):api_Span:=⟨v.tmod 5+p,v.tmod 5+p+v.tmod 3⟩
def Uc (v:Int):List api_Span:=(List.range 8).map (Xl v)
def Qc (i t v:Int):volume_field:=⟨nmA i,t,⟨⟨-2000,-1000,1000,4,2⟩,Uc v⟩⟩
def A42 (i t v:Int):volume_Item:=At (Qc i t v)
theorem Zx {m:Int×Int×Int} (h1:0<=m.1/\m.1<=255) (h2:0<=m.2.1/\m.2.1<=255) (h3:0<=m.2.2/\m.2.2<=255):∀(n p:Nat),p<=8->8-p<n->G6 m n ((List.range p).map (Xl m.2.2)) (p:Int)=some (A42 (m.1.tmod 2) (m.2.1.tmod 60) m.2.2)
 | 0,_,_,h=>by omega
 | n+1,p,hp,hn=>by
  have c5:=Int.tmod_nonneg 5 h3.1;have d5:=Int.tmod_lt_of_pos m.2.2 (by omega:(0:Int)<5);have c3:=Int.tmod_nonneg 3 h3.1;have d3:=Int.tmod_lt_of_pos m.2.2 (by omega:(0:Int)<3);rw [G6,La]
  by_cases hlt:p<8
  ·rw [decide_eq_true (by omega:(p:Int)<8),cond_true,Hj (ckJ (by omega)),Hj (Xj (by omega)),Hj (ckJ (by omega)),Hj (ckJ (by omega)),Hj (Xj (by omega)),Hj (ckJ (by omega))];rw [Hj (show apd 16 ((List.range p).map (Xl m.2.2)) [⟨m.2.2.tmod 5+(p:Int),m.2.2.tmod 5+(p:Int)+m.2.2.tmod 3⟩]=some ((List.range (p+1)).map (Xl m.2.2)) by
    unfold apd;rw [if_pos ⟨by rw [List.length_map,List.length_range,List.length_singleton];omega,by rw [List.length_map,List.length_range,List.length_singleton];omega⟩,List.range_succ,List.map_append];rfl)]
   rw [Hj (B74 (by omega))];exact Zx h1 h2 h3 n (p+1) (by omega) (by omega)
  ·have c2:=Int.tmod_nonneg 2 h1.1;have d2:=Int.tmod_lt_of_pos m.1 (by omega:(0:Int)<2);have hp8:p=8:=by omega
   subst hp8;rw [decide_eq_false (by omega:¬((8:Nat):Int)<8),cond_false,Lb,Hj (ckJ (by omega)),Hj (Xj (by omega)),Hj (ckJ (by omega)),Hj (Xj (by omega))];rw [Hj (show Cj [(⟨#[97]⟩:ByteArray),⟨#[98]⟩] (m.1.tmod 2)=some (nmA (m.1.tmod 2)) by
    rcases (by omega:m.1.tmod 2=0\/m.1.tmod 2=1) with e|e<;>rw [e]<;>rfl)]
   rfl
theorem A8g {F:Nat} (hF:20<=F) {m:Int×Int×Int} (h1:0<=m.1/\m.1<=255) (h2:0<=m.2.1/\m.2.1<=255) (h3:0<=m.2.2/\m.2.2<=255):Hh F m=some (A42 (m.1.tmod 2) (m.2.1.tmod 60) (m.2.2.tmod 15)):=by
 have:=Zx h1 h2 h3 F 0 (by omega) (by omega);rw [Hh];refine Eq.trans this ?_;have c5:(m.2.2.tmod 15).tmod 5=m.2.2.tmod 5:=by
  rw [Int.tmod_eq_emod_of_nonneg h3.1,Int.tmod_eq_emod_of_nonneg (by omega),Int.tmod_eq_emod_of_nonneg h3.1];omega
 have c3:(m.2.2.tmod 15).tmod 3=m.2.2.tmod 3:=by
  rw [Int.tmod_eq_emod_of_nonneg h3.1,Int.tmod_eq_emod_of_nonneg (by omega),Int.tmod_eq_emod_of_nonneg h3.1];omega
 have e:Xl (m.2.2.tmod 15)=Xl m.2.2:=funext λp=>by unfold Xl;rw [c5,c3]
 unfold A42 Qc Uc;rw [e]
end Go.Proofs.YtjfhcbjhjeklbaaGreat
namespace Go.Proofs.YtjfhcbjhjeklbaaGreat
open Go Go.RowKit Go.Eng
set_option maxRecDepth 100000
set_option linter.unusedVariables false
set_option linter.unusedSimpArgs false
def okA (i t v:Int):Prop:=(i=0\/i=1)/\(0<=t/\t<=59)/\(0<=v/\v<=14)
def thA (i t v:Int):volume_thing:=.ic142 (Qc i t v)
theorem B25 {v:Int} (h:0<=v/\v<=14) {p:Nat} (hp:p<8):0<=(Xl v p).Lo/\(Xl v p).Lo<=(Xl v p).Hi/\(Xl v p).Hi<=20:=by
 have c5:=Int.tmod_nonneg 5 h.1;have d5:=Int.tmod_lt_of_pos v (by omega:(0:Int)<5);have c3:=Int.tmod_nonneg 3 h.1;have d3:=Int.tmod_lt_of_pos v (by omega:(0:Int)<3);unfold Xl;dsimp only;omega
theorem Xx {v:Int} (h:0<=v/\v<=14):∀s∈Uc v,0<=s.Lo/\s.Lo<=s.Hi/\s.Hi<=20:=λs hs=>by
 obtain ⟨p,hp,rfl⟩:=List.mem_map.1 hs;exact B25 h (List.mem_range.1 hp)
theorem P0 (v:Int):(Uc v).length=8:=by unfold Uc;rw [List.length_map,List.length_range]
theorem Tu (i:Int):nmA i=⟨#[97]⟩\/nmA i=⟨#[98]⟩:=by unfold nmA;split<;>simp
theorem B3m (i:Int):Tz (nmA i):=by
 rcases Tu i with h|h<;>rw [h]<;>intro x hx
 ·have:x∈[(97:Int)]:=hx;simp at this;omega
 ·have:x∈[(98:Int)]:=hx;simp at this;omega
theorem A2v (i:Int):(nmA i).size=1:=by rcases Tu i with h|h<;>rw [h]<;>rfl
theorem A4s {i t v:Int} (h:okA i t v):okT (thA i t v):=by
 obtain ⟨h1,h2,h3⟩:=h;refine (show Vt (Qc i t v) from ⟨?_,⟨h2.1,?_⟩,⟨?_,?_⟩,⟨?_,?_⟩,⟨?_,?_⟩,⟨?_,?_⟩,⟨?_,?_⟩,?_,λs hs=>?_⟩)<;>try (show _<=_;unfold Qc;dsimp only;omega)
 ·unfold Qc;dsimp only;rw [A2v];omega
 ·unfold Qc;dsimp only;rw [P0];omega
 ·have:=Xx h3 s hs;exact ⟨by omega,this.2.1,by omega⟩
theorem A1q {i t v:Int} (h:okA i t v):(Bk (thA i t v)).length<=2400:=by
 have:=Xb (A4s h);have e:cnt (thA i t v)=8:=P0 v;omega
theorem B73 {F:Nat} (hF:200000<=F) {i t v:Int} (h:okA i t v):Hc F (thA i t v)=some (K3 (thA i t v)):=A1y hF (A4s h) (by have:=A1q h;omega)
theorem nzA (i t v:Int):Nz (Ba (thA i t v)):=A6z (B3m i)
theorem A23 {f:api_Field} (hv:∀s∈f.Vals,0<=s.Lo/\s.Lo<=s.Hi/\s.Hi<=20) (hl:f.Vals.length<=1000):∀(n i:Nat),i<=f.Vals.length->f.Vals.length-i<n->Jx f 1073741824 n (i:Int)=some 0
 | 0,_,_,h=>by omega
 | n+1,i,hi,hn=>by
  rw [Jx,Nj]
  by_cases hlt:i<f.Vals.length
  ·have hx:=List.getElem?_eq_getElem hlt;have hb:=hv f.Vals[i] (List.getElem_mem ..);rw [Bx (dT (by omega)),Ej i _ rfl hx,dF (by omega:¬f.Vals[i].Lo<0),dF (by omega:¬f.Vals[i].Hi<f.Vals[i].Lo),dF (by omega:¬f.Vals[i].Hi>1073741824)];rw [Aq (c:=bif (bif false then true else false) then true else false) rfl,ckb (by omega),show (i:Int)+1=((i+1:Nat):Int) by omega];exact A23 hv hl n (i+1) (by omega) (by omega)
  ·rw [Aq (dF (by omega))];rfl
theorem A8k (F:Nat):Dh F ⟨-2000,-1000,1000,4,2⟩=some 0:=by kernel_rfl
theorem B3k (F:Nat) (i:Int):Pl F (nmA i)=some true:=by
 rcases Tu i with h|h<;>rw [h]
 ·kernel_rfl
 ·kernel_rfl
theorem A81 {F:Nat} (hF:20<=F) {i t v:Int} (h:okA i t v):Dj F (Qc i t v)=some 0:=by
 obtain ⟨h1,h2,h3⟩:=h;rw [Dj,show Pl F (Qc i t v).key=some true from B3k F i,sbd];show (bif (bif decide (t<0) then true else decide (t>4294967296)) then none else (Gr F (Qc i t v).Field).bind λy6=>some y6)=_;rw [dF (by omega:¬t<0),dF (by omega:¬t>4294967296)];show (Gr F (Qc i t v).Field).bind _=_;rw [Gr,Rm,show Dh F (Qc i t v).Field.Grid=some 0 from A8k F,sbd];rw [Aq (c:=((0:Int) != 0)) rfl,show (ck ((Qc i t v).Field.Grid.Wide*(Qc i t v).Field.Grid.High))=some 8 from rfl,sbd,show (Qc i t v).Field.Vals.length=8 from P0 v,Aq (c:=(((8:Nat):Int) != 8)) rfl];have e:=A23 (f:=(Qc i t v).Field) (Xx h3) (by rw [show (Qc i t v).Field.Vals=Uc v from rfl,P0];omega) F 0 (Nat.zero_le _) (by rw [show (Qc i t v).Field.Vals=Uc v from rfl,P0];omega);rw [show (0:Int)=((0:Nat):Int) from rfl,e];rfl
theorem A9p (s:ByteArray):sEq s s=true:=Vx.2 rfl
theorem ofA (F:Nat) (i t v:Int):Ni F (A42 i t v)=some (thA i t v):=by
 unfold Ni A42 At;dsimp only;simp only [A9p,bne_self_eq_false,beq_self_eq_true];rfl
theorem A82 {F:Nat} (hF:20<=F) {i t v:Int} (h:okA i t v):Kt F (A42 i t v)=some (thA i t v,0):=by
 rw [Kt,ofA,sbd];show (Dj F (Qc i t v)).bind _=_;rw [A81 hF h];rfl
theorem B65 {F:Nat} (hF:200000<=F) {i t v:Int} (h:okA i t v):Ma F (A42 i t v)=some (K3 (thA i t v),0):=by
 rw [Ma,A82 (by omega) h,sbd];show (Hc F (thA i t v)).bind _=_;rw [B73 hF h];rfl
theorem A09 {F:Nat} (hF:1000<=F) {p:List Int} (hp:By p) {x:Int} {r:List Int} (h:rN p=some (x,r)):Am F ⟨p⟩=some (.ok (x,⟨r⟩)):=by
 have:=Ra hF hp;rw [h] at this;exact this
theorem r_q {α:Type} {y:Option (α×volume_reader)} {o:Option (α×List Int)} (h:Rq y o) {x:α} {r:List Int} (e:o=some (x,r)):y=some (x,⟨r⟩):=by
 rw [e] at h;exact h
theorem Yc {ε α β:Type} {x:α} {f:ε->β} {g:α->β}:exc (.ok x) f g=g x:=rfl
theorem B4q {F:Nat} (hF:200000<=F) {i t v:Int} (h:okA i t v):Fi F ⟨Bk (thA i t v)⟩=some (thA i t v,⟨[]⟩):=by
 have hby:=Ty (thA i t v);obtain ⟨h1,h2,h3⟩:=h;have e:Bk (thA i t v)=E5 (2:Int).toNat++(Re (nmA i)++(E5 t.toNat++(E5 (zig (-2000))++(E5 (zig (-1000))++(E5 (1000:Int).toNat++(E5 (4:Int).toNat++(E5 (2:Int).toNat++(Q2 Qq ⟨0,0⟩ 0 (Uc v)++[])))))))):=by
  show Up (Qc i t v)=_;unfold Up Qc;simp only [Pk,A14,List.flatMap_cons,List.flatMap_nil,List.append_nil,List.append_assoc]
 rw [e] at hby ⊢;have b1:By _:=λx hx=>hby x (List.mem_append_right _ hx);have b2:By _:=λx hx=>b1 x (List.mem_append_right _ hx);have b3:By _:=λx hx=>b2 x (List.mem_append_right _ hx);have b4:By _:=λx hx=>b3 x (List.mem_append_right _ hx);have b5:By _:=λx hx=>b4 x (List.mem_append_right _ hx);have b6:By _:=λx hx=>b5 x (List.mem_append_right _ hx);have b7:By _:=λx hx=>b6 x (List.mem_append_right _ hx);have b8:By _:=λx hx=>b7 x (List.mem_append_right _ hx);rw [Fi,A09 (by omega) hby (A08 _ (by omega) ⟨by omega,by omega⟩),sbd,Yc];show (Ei F ⟨_⟩).bind _=_;rw [r_q (B4e (by omega) b1) (B6b _ (by rw [A2v];omega)),sbd];show (Am F ⟨_⟩).bind _=_;rw [A09 (by omega) b2 (A08 _ h2.1 ⟨by omega,by omega⟩),sbd,Yc];show (C2 F ⟨_⟩).bind _=_;rw [r_q (Wr (by omega) b3) (A9i _ ⟨by omega,by omega⟩),sbd];show (C2 F ⟨_⟩).bind _=_;rw [r_q (Wr (by omega) b4) (A9i _ ⟨by omega,by omega⟩),sbd];show (Am F ⟨_⟩).bind _=_;rw [A09 (by omega) b5 (A08 _ (by omega) ⟨by omega,by omega⟩),sbd,Yc];show (Am F ⟨_⟩).bind _=_;rw [A09 (by omega) b6 (A08 _ (by omega) ⟨by omega,by omega⟩),sbd,Yc];show (Am F ⟨_⟩).bind _=_;rw [A09 (by omega) b7 (A08 _ (by omega) ⟨by omega,by omega⟩),sbd,Yc];show (Dh F ⟨-2000,-1000,1000,4,2⟩).bind _=_;rw [A8k,sbd,show P2 F 0=some () from rfl,sbd];show (ck (4*2)).bind _=_;rw [show (ck (4*2))=some ((8:Nat):Int) from rfl,sbd];have hr:=B68 (rd:=rS) (e:=Qq) [] (Uc v) ⟨0,0⟩ (by rw [P0];omega) λs hs r=>B6a r (by have:=Xx h3 s hs;exact ⟨by omega,this.2.1,by omega⟩);rw [P0] at hr;rw [r_q (B1e hF (N:=8) (by omega) b8 ⟨0,0⟩) hr,sbd];rfl
theorem B1w {F:Nat} (hF:200000<=F) {i t v:Int} (h:okA i t v):Ff F (Ba (thA i t v))=some (thA i t v,0):=by
 have hl:=A1q h;have hby:=Ty (thA i t v);obtain ⟨b,hb⟩:∃b,b=Bk (thA i t v):=⟨_,rfl⟩;have hp:Ba (thA i t v)=Dt b++Qe (Dt b):=by unfold Ba;rw [hb]
 have hpb:By (Dt b):=by unfold Dt;exact (Xv _).app (by rw [hb];exact hby)
 have hpp:By (Dt b++Qe (Dt b)):=hpb.app (W6 _).by
 have hlb:b.length<=2400:=by rw [hb];exact hl
 have h9:=Jg (x:=(b.length:Int)) ⟨by omega,by omega⟩;rw [Int.toNat_natCast] at h9;have hpl:(Dt b).length=(E5 b.length).length+b.length:=by unfold Dt;rw [List.length_append]
 have hr:rN (Dt b++Qe (Dt b))=some ((b.length:Int),b++Qe (Dt b)):=by
  have e:Dt b++Qe (Dt b)=E5 b.length++(b++Qe (Dt b)):=by
   conv=>lhs;lhs;unfold Dt
   rw [List.append_assoc]
  rw [e,T8 _ (by omega)]
 rw [hp,Ff];have hlen:Bm F ⟨Dt b++Qe (Dt b)⟩=some ((b.length:Int),true,⟨b++Qe (Dt b)⟩):=by
  rw [Bm,A09 (by omega) hpp hr];rfl
 rw [hlen,sbd,gdT (by rfl),ckb (by simp only;omega),Aq (c:=bif (!true) then true else _) (by
  show ((((b++Qe (Dt b)).length:Nat):Int) != (b.length:Int)+5)=false;rw [List.length_append,Q7];simp)]
 have hll:(Dt b++Qe (Dt b)).length=(Dt b).length+5:=by rw [List.length_append,Q7]
 rw [ckb (by omega),Rv (Dt b).length (by omega) rfl (by omega),List.drop_left,ckb (by omega),Vc (Dt b).length rfl (by omega) (by omega),List.take_left,A9y (by omega) hpb (by omega) (by omega),sbd,bEq (W6 _).by (W6 _).by];rw [Aq (by simp)];show (K4 (b++Qe (Dt b)) 0 (b.length:Int)).bind _=_;rw [Vc b.length rfl rfl (by rw [List.length_append];omega),List.take_left,hb,B4q hF h,sbd];show (Dj F (Qc i t v)).bind _=_;rw [A81 (by omega) h];rfl
end Go.Proofs.YtjfhcbjhjeklbaaGreat
namespace Go.Proofs.YtjfhcbjhjeklbaaGreat
open Go Go.RowKit Go.Eng
set_option maxRecDepth 10000
set_option linter.unusedVariables false
set_option linter.unusedSimpArgs false
def Dd (ps:List (List Int)):List Int:=ps.flatMap λp=>0::p
theorem Hf (p:List Int) (ps:List (List Int)):Dd (p::ps)=0::(p++Dd ps):=by simp [Dd]
theorem A8r {ps:List (List Int)} (h:∀q∈ps,Nz q):By (Dd ps):=λx hx=>by
 obtain ⟨p,hp,hx⟩:=List.mem_flatMap.1 hx;rcases List.mem_cons.1 hx with rfl|hx
 ·exact ⟨by decide,by decide⟩
 ·exact (h p hp).by x hx
theorem B2v {x:Int} (h:1<=x/\x<256):(UInt8.ofNat x.toNat==(0:Int).toNat.toUInt8)=false:=by
 rw [beq_eq_false_iff_ne];intro he;have:=congrArg UInt8.toNat he;rw [UInt8.toNat_ofNat_of_lt' (show x.toNat<256 by omega)] at this;simp at this;omega
theorem A8n {p:List Int} (h:Nz p):A8l p 0=-1:=by
 induction p with
 | nil=>rfl
 | cons x p ih =>
  have:=ih λy hy=>h y (by simp [hy]);unfold A8l at this ⊢;show Lib.indexByte (UInt8.ofNat x.toNat::Lib.bytesOf p) _=_;rw [Lib.indexByte,B2v (h x (by simp)),if_neg (by simp),this];rfl
theorem A8m {p:List Int} (l:List Int) (h:Nz p):A8l (p++0::l) 0=p.length:=by
 induction p with
 | nil=>rfl
 | cons x p ih =>
  have:=ih λy hy=>h y (by simp [hy]);unfold A8l at this ⊢;show Lib.indexByte (UInt8.ofNat x.toNat::Lib.bytesOf (p++0::l)) _=_;rw [Lib.indexByte,B2v (h x (by simp)),if_neg (by simp),this,if_neg (by rw [beq_iff_eq];omega)];simp
def Qk {σ X:Type} (body:σ->X->Option (σ×Bool)):List X->σ->Option (σ×Bool)
 | [],s=>some (s,true)
 | x::l,s=>(body s x).bind λq=>bif q.2 then Qk body l q.1 else some (q.1,false)
def Qo:Int->List (List Int)->List (Int×List Int)
 | _,[]=>[]
 | k,p::ps=>(k,p)::Qo (k+1+p.length) ps
theorem A32 {σ:Type} (body:σ->Int×List Int->Option (σ×Bool)) (b:List Int) (hb:b.length<=1000000000):∀(ps:List (List Int)) (m k:Nat) (s:σ),ps≠[]->b.drop k=Dd ps->(∀q∈ps,Nz q)->ps.length<m ->
  E3 body b m k s=Qk body (Qo k ps) s:=by
 intro ps
 induction ps with
 | nil=>intro m k s h;exact absurd rfl h
 | cons p ps ih =>
  intro m k s _ hd hz hm;obtain ⟨m,rfl⟩:∃m',m=m'+1:=⟨m-1,by omega⟩;rw [Hf] at hd;have hk:k<b.length:=by
   rcases Nat.lt_or_ge k b.length with h|h
   ·exact h
   ·rw [List.drop_of_length_le h] at hd;cases hd
  have hd1:b.drop (k+1)=p++Dd ps:=by
   have:=congrArg List.tail hd;rw [List.tail_drop] at this;exact this
  have hlen:=congrArg List.length hd1;rw [List.length_drop,List.length_append] at hlen;have hp:Nz p:=hz p (by simp);rw [E3,Gi,Bx (by rw [dT (show (k:Int)>=0 by omega),dT (show (k:Int)<(b.length:Int) by omega)];rfl),ckb (by omega),Rv (k+1) (by omega) rfl (by omega),hd1]
  cases ps with
  | nil =>
   have e:p++Dd []=p:=by simp [Dd]
   have hi:Bp (p++Dd []) 0=-1:=by rw [e];exact A8n hp
   rw [hi,Bx (by rfl),ckb (by omega),Rv (k+1) (by omega) rfl (by omega),hd1,e];rfl
  | cons p2 ps =>
   have hi:Bp (p++Dd (p2::ps)) 0=p.length:=by rw [Hf];exact A8m _ hp
   have hj:(Dd (p2::ps)).length>=1:=by rw [Hf];simp
   rw [hi,Aq (dF (by omega)),ckb (by omega),ckb (by omega),ckb (by omega),B35 (k+1) (k+1+p.length) (by omega) (by omega) (by omega),hd1,show k+1+p.length-(k+1)=p.length by omega,List.take_left];rw [Qo,Qk]
   congr 1
   funext q
   cases hq:q.2 with
   | false=>rfl
   | true =>
    rw [Bx rfl,Bx rfl,ckb (by omega),ckb (by omega)];have:=ih m (k+1+p.length) q.1 (by simp) (by rw [←List.drop_drop,hd1,List.drop_left]) (λr hr=>hz r (by simp [hr])) (by simp at hm ⊢;omega);rw [show ((k:Int)+(1+(p.length:Int)))=((k+1+p.length:Nat):Int) by omega,this];rw [show ((k+1+p.length:Nat):Int)=(k:Int)+1+p.length by omega]
theorem A06 {σ:Type} (F:Nat) (body:σ->Int×List Int->Option (σ×Bool)) {p:List Int} {ps:List (List Int)} (hp:Nz p) (hz:∀q∈ps,Nz q) (hl:(p++Dd ps).length<=1000000000) (hF:ps.length<F) (s:σ) :
  Dz F (p++Dd ps) body s=Qk body (Qo p.length ps) s:=by
 rw [Dz]
 cases ps with
 | nil =>
  have e:p++Dd []=p:=by simp [Dd]
  have hi:Bp (p++Dd []) 0=-1:=by rw [e];exact A8n hp
  obtain ⟨G,rfl⟩:∃G,F=G+1:=⟨F-1,by omega⟩;rw [hi,E3,Gi,Aq (by rfl)];rfl
 | cons q qs =>
  have hi:Bp (p++Dd (q::qs)) 0=p.length:=by rw [Hf];exact A8m _ hp
  rw [hi];exact A32 body _ hl _ F p.length s (by simp) (by rw [List.drop_left]) hz hF
def Yi (p:List Int):Bool:=p.all λc=>decide (c>=128)&&decide (c<=254)
def B01 (p:List Int):Bool:=Yi p||match rN p with
 | none=>false
 | some (n,r)=>decide ((r.length:Int)<n+5)
theorem A7c {F:Nat} (hF:1000<=F) {p:List Int} (hp:By p) (hl:p.length<=1000000000):∀(m i:Nat) (c:Bool),p.length-i<m->i<=p.length ->
  J8 F p m i c=Kv F p (c&&Yi (p.drop i)):=by
 intro m
 induction m with
 | zero=>intro i c h;omega
 | succ m ih =>
  intro i c h hi;rw [J8,Mv]
  by_cases hb:i<p.length
  ·have hd:=List.drop_eq_getElem_cons hb;rw [Bx (dT (by omega)),Ej i p[i] rfl (List.getElem?_eq_getElem hb),ckb (by omega),show ((i:Int)+1)=((i+1:Nat):Int) by omega,ih (i+1) _ (by omega) (by omega)]
   congr 1
   rw [hd];have e:Yi (p[i]::p.drop (i+1))=(decide (p[i]>=128)&&decide (p[i]<=254)&&Yi (p.drop (i+1))):=List.all_cons ..;rw [e]
   cases c<;>cases decide (p[i]>=128)<;>cases decide (p[i]<=254)<;>cases Yi (p.drop (i+1))<;>rfl
  ·rw [Aq (dF (by omega)),List.drop_of_length_le (by omega)];simp [Yi]
theorem A60 {F:Nat} (hF:1000<=F) {p:List Int} (hp:By p) (hlF:p.length<F) (hl:p.length<=1000000000):Ku F p=some (B01 p):=by
 rw [Ku,show (0:Int)=((0:Nat):Int) from rfl,A7c hF hp hl F 0 true (by omega) (by omega),Kv,List.drop_zero,Bool.true_and];unfold B01;rcases Vv hF hp with ⟨r,h1,h2⟩|⟨n,r,h1,h2⟩
 ·rw [h1,h2,sbd]
  cases Yi p<;>rfl
 ·obtain ⟨a,b,c⟩:=Yz hp h2;have:=c.length_le;rw [h1,h2,sbd]
  cases Yi p with
  | true=>rfl
  | false =>
   show ((ck (n+5)).bind λx26=>some (decide ((r.length:Int)<x26)))=_;rw [ckb (by omega)];rfl
def RVF1:List Int:=[82,86,70,49]
theorem RVF1_nz:Nz RVF1:=by intro x hx;simp [RVF1] at hx;omega
theorem A70 (F:Nat) (l:List Int) (hl:By l):Js F (RVF1++l) RVF1=some true:=by
 unfold Js;rw [Bx (dT (by rw [List.length_append];omega)),Vc 4 rfl (by rfl) (by rw [List.length_append];simp [RVF1]),show (4:Nat)=RVF1.length from rfl,List.take_left,bEq RVF1_nz.by RVF1_nz.by];simp
theorem B49 (k:Nat) (f:Bool):rdD k f []=none:=by cases k<;>rfl
theorem A2x:∀(n j:Nat),j<(E5 n).length->Yi ((E5 n).take j)=true/\∀k f,rdD k f ((E5 n).take j)=none:=by
 intro n
 induction n using Nat.strongRecOn with
 | _ n ih =>
  intro j h
  cases j with
  | zero=>exact ⟨rfl,λk f=>by rw [List.take_zero];exact B49 k f⟩
  | succ j =>
   by_cases hn:n<127
   ·rw [S5 hn] at h;simp at h
   ·rw [Vr (by omega)] at h ⊢;have hm:=Nat.mod_lt n (show 0<127 by decide);simp only [List.length_cons] at h;obtain ⟨h1,h2⟩:=ih (n/127) (Nat.div_lt_self (by omega) (by decide)) j (by omega);rw [List.take_succ_cons];constructor
    ·unfold Yi at h1 ⊢;rw [List.all_cons,h1,dT (show (128:Int)+((n%127:Nat):Int)>=128 by omega),dT (show (128:Int)+((n%127:Nat):Int)<=254 by omega)];rfl
    ·intro k f
     cases k with
     | zero=>rfl
     | succ k=>rw [rdD,if_neg (by rintro (h|h|⟨h,_⟩)<;>omega),if_neg (by omega),h2];rfl
end Go.Proofs.YtjfhcbjhjeklbaaGreat
namespace Go.Proofs.YtjfhcbjhjeklbaaGreat
open Go Go.RowKit Go.Eng
set_option maxRecDepth 10000
set_option linter.unusedVariables false
set_option linter.unusedSimpArgs false
def vT (t:volume_thing):Prop:=∃i tm v,okA i tm v/\t=thA i tm v
def Cp (t:volume_thing):volume_Item:=t.cs default At
def A0i (t:volume_thing):Int:=t.cs 0 (λf=>f.time)
theorem B1v {F:Nat} (hF:200000<=F) {t:volume_thing} (h:vT t):Ff F (Ba t)=some (t,0):=by obtain ⟨i,tm,v,h,rfl⟩:=h;exact B1w hF h
theorem B44 {F:Nat} (hF:200000<=F) {t:volume_thing} (h:vT t):Ma F (Cp t)=some (K3 t,0):=by obtain ⟨i,tm,v,h,rfl⟩:=h;exact B65 hF h
theorem B79 (F:Nat) {t:volume_thing} (h:vT t):Ni F (Cp t)=some t:=by obtain ⟨i,tm,v,h,rfl⟩:=h;exact ofA F i tm v
theorem A8q (F:Nat) {t:volume_thing} (h:vT t):Ki F t=some (Cp t):=by obtain ⟨i,tm,v,h,rfl⟩:=h;rfl
theorem B2e (F:Nat) {t:volume_thing} (h:vT t):Mu F t=some (A0i t):=by obtain ⟨i,tm,v,h,rfl⟩:=h;rfl
theorem B2d {t:volume_thing} (h:vT t):0<=A0i t/\A0i t<=59:=by obtain ⟨i,tm,v,h,rfl⟩:=h;exact h.2.1
theorem vT.ok {t:volume_thing} (h:vT t):okT t:=by obtain ⟨i,tm,v,h,rfl⟩:=h;exact A4s h
theorem vT.tlen {t:volume_thing} (h:vT t):(Bk t).length<=2400:=by obtain ⟨i,tm,v,h,rfl⟩:=h;exact A1q h
theorem vT.nz {t:volume_thing} (h:vT t):Nz (Ba t):=by obtain ⟨i,tm,v,h,rfl⟩:=h;exact nzA i tm v
theorem vT.len {t:volume_thing} (h:vT t):(Ba t).length<=2414:=by
 have hl:=h.tlen;have h9:=Jg (x:=((Bk t).length:Int)) ⟨by omega,by omega⟩;rw [Int.toNat_natCast] at h9;unfold Ba Dt;simp only [List.length_append,Q7];omega
def Bf (ts:List volume_thing):List Int:=Dd (ts.map Ba)
theorem Lu (t:volume_thing) (ts:List volume_thing):Bf (t::ts)=K3 t++Bf ts:=by
 unfold Bf K3;rw [List.map_cons,Hf];rfl
theorem A6j (a b:List volume_thing):Bf (a++b)=Bf a++Bf b:=by
 unfold Bf Dd;rw [List.map_append,List.flatMap_append]
theorem Vh {ts:List volume_thing} (h:∀t∈ts,vT t):(Bf ts).length<=2415*ts.length:=by
 induction ts with
 | nil=>simp [Bf,Dd]
 | cons t ts ih =>
  have:=(h t (by simp)).len;have:=ih λt ht=>h t (by simp [ht]);rw [Lu,List.length_append];unfold K3;simp only [List.length_cons];omega
theorem A4x {F:Nat} (hF:200000<=F) (ts:List volume_thing) (hv:∀t∈ts,vT t) (hl:4+(Bf ts).length<=16777216):∀(m i:Nat) (acc:List Int),ts.length-i<m->i<=ts.length->ts.length<=1000->acc++Bf (ts.drop i)=RVF1++Bf ts ->
  Gw F (ts.map Cp) m i acc=some (RVF1++Bf ts,0):=by
 intro m
 induction m with
 | zero=>intro i acc h;omega
 | succ m ih =>
  intro i acc h hi hn hacc;rw [Gw,Lr,List.length_map];have hal:acc.length+(Bf (ts.drop i)).length=4+(Bf ts).length:=by
   have:=congrArg List.length hacc;rw [List.length_append,List.length_append] at this;exact this
  by_cases hb:i<ts.length
  ·have hd:=List.drop_eq_getElem_cons hb;rw [hd,Lu,List.length_append] at hal;rw [Bx (dT (by omega)),Ej i (Cp ts[i]) rfl (by rw [List.getElem?_map,List.getElem?_eq_getElem hb];rfl),B44 hF (hv ts[i] (List.getElem_mem hb)),sbd,Aq (by rfl),Me (by simp only;omega) (by decide),ckb (by omega)];exact ih (i+1) _ (by omega) (by omega) hn (by rw [←hacc,hd,Lu,List.append_assoc])
  ·rw [Aq (dF (by omega)),Ls];rw [List.drop_of_length_le (by omega)] at hacc hal;rw [show Bf []=[] from rfl,List.append_nil] at hacc;rw [show Bf []=[] from rfl] at hal;rw [Aq (dF (by simp at hal;omega)),hacc]
theorem B0b {F:Nat} (hF:200000<=F) {ts:List volume_thing} (hv:∀t∈ts,vT t) (hn:ts.length<=50):Ms F (ts.map Cp)=some (RVF1++Bf ts,0):=by
 have hl:=Vh hv;rw [Ms,Aq (dF (by rw [List.length_map];omega))];exact A4x hF ts hv (by omega) F 0 RVF1 (by omega) (by omega) (by omega) rfl
def Tq (F:Nat) (q:List Int):Prop:=Ff F q=some (.nil_,15)/\Ku F q=some true/\Nz q
theorem A4u {F:Nat} (hF:200000<=F) {t:volume_thing} (h:vT t) {j:Nat} (hj:j<(Ba t).length):Tq F ((Ba t).take j):=by
 have hl:=h.tlen;have hpl:=h.len;have hnz:Nz ((Ba t).take j):=λx hx=>h.nz x (List.mem_of_mem_take hx);have hlen0:((Ba t).take j).length<=2414:=by rw [List.length_take];omega
 have key:(∃r,Bm F ⟨(Ba t).take j⟩=some (0,false,r))\/(∃n r,Bm F ⟨(Ba t).take j⟩=some (n,true,⟨r⟩)/\0<=n/\n<=2400/\(r.length:Int)<n+5):=by
  have hp:Ba t=E5 (Bk t).length++(Bk t++Qe (Dt (Bk t))):=by unfold Ba Dt;rw [List.append_assoc]
  by_cases hlt:j<(E5 (Bk t).length).length
  ·have e:(Ba t).take j=(E5 (Bk t).length).take j:=by rw [hp,List.take_append_of_le_length (by omega)]
   have hr:rN ((Ba t).take j)=none:=by rw [e];exact (A2x (Bk t).length j hlt).2 8 true
   rcases Vv (F:=F) (by omega) hnz.by with ⟨r,h1,_⟩|⟨n,r,_,h2⟩
   ·exact .inl ⟨r,h1⟩
   ·rw [hr] at h2;cases h2
  ·obtain ⟨i,rfl⟩:∃i,j=(E5 (Bk t).length).length+i:=⟨j-(E5 (Bk t).length).length,by omega⟩;have e:(Ba t).take ((E5 (Bk t).length).length+i)=E5 (Bk t).length++(Bk t++Qe (Dt (Bk t))).take i:=by rw [hp,List.take_length_add_append]
   have hi:i<(Bk t).length+5:=by
    rw [hp] at hj;simp only [List.length_append,Q7] at hj;omega
   have hr:rN ((Ba t).take ((E5 (Bk t).length).length+i))=some (((Bk t).length:Int),(Bk t++Qe (Dt (Bk t))).take i):=by rw [e];exact T8 _ (by omega)
   rcases Vv (F:=F) (by omega) hnz.by with ⟨r,_,h2⟩|⟨n,r,h1,h2⟩
   ·rw [hr] at h2;cases h2
   ·rw [hr] at h2;obtain ⟨rfl,rfl⟩:=Prod.mk.inj (Option.some.inj h2);refine .inr ⟨_,_,h1,by omega,by omega,?_⟩;rw [List.length_take,List.length_append,Q7];omega
 have ht:∃b,Ku F ((Ba t).take j)=some b:=⟨_,A60 (by omega) hnz.by (by omega) (by omega)⟩;have hgo:j<(E5 (Bk t).length).length->Yi ((Ba t).take j)=true:=λhlt=>by
  have hp:Ba t=E5 (Bk t).length++(Bk t++Qe (Dt (Bk t))):=by unfold Ba Dt;rw [List.append_assoc]
  rw [hp,List.take_append_of_le_length (by omega)];exact (A2x (Bk t).length j hlt).1
 refine ⟨?_,?_,hnz⟩
 ·rw [Ff];rcases key with ⟨r,h1⟩|⟨n,r,h1,h2,h3,h4⟩
  ·rw [h1,sbd,gdF (by rfl),sbd,Bx (c:=bif (!false) then true else _) rfl]
  ·rw [h1,sbd,gdT (by rfl),ckb (by simp only;omega),Bx (c:=bif (!true) then true else _) (by
    show ((r.length:Int) != n+5)=true;rw [bne_iff_ne];omega)]
 ·rw [A60 (by omega) hnz.by (by omega) (by omega)];unfold B01;rcases Vv (F:=F) (by omega) hnz.by with ⟨r,h1,h2⟩|⟨n,r,h1,h2⟩
  ·have hlt:j<(E5 (Bk t).length).length:=by
    apply Classical.byContradiction;intro hc;rcases key with ⟨r',k1⟩|⟨n,r',k1,_⟩
    ·have hp:Ba t=E5 (Bk t).length++(Bk t++Qe (Dt (Bk t))):=by unfold Ba Dt;rw [List.append_assoc]
     obtain ⟨i,rfl⟩:∃i,j=(E5 (Bk t).length).length+i:=⟨j-(E5 (Bk t).length).length,by omega⟩;have e:(Ba t).take ((E5 (Bk t).length).length+i)=E5 (Bk t).length++(Bk t++Qe (Dt (Bk t))).take i:=by rw [hp,List.take_length_add_append]
     rw [e,T8 _ (by omega)] at h2
     cases h2
    ·rw [h1] at k1;cases k1
   rw [hgo hlt];rfl
  ·rw [h2];rcases key with ⟨r',k1⟩|⟨n',r',k1,k2,k3,k4⟩
   ·rw [h1] at k1;cases k1
   ·rw [h1] at k1;obtain ⟨rfl,he⟩:=Prod.mk.inj (Option.some.inj k1);obtain ⟨_,he⟩:=Prod.mk.inj he;have:r=r':=congrArg volume_reader.b he;subst this;show some (_||decide _)=some true;rw [dT k4,Bool.or_true]
def cod (q:List (List Int)):Int:=if q=[] then 0 else 16
theorem A73 {F:Nat} (hF:200000<=F) (b:List Int) (hb9:b.length<=1000000) (total:Int) (q:List (List Int)) (hq:q=[]\/∃p,q=[p]/\Tq F p):∀(ts:List volume_thing),(∀t∈ts,vT t)->∀(k:Int) (acc:List volume_Item),0<=k->k+(Dd (ts.map Ba++q)).length=b.length->acc.length+ts.length<=1000 ->
  ∃tg:Nat,Qk (Fl F b) (Qo k (ts.map Ba++q)) (acc,total,0,0)=some ((acc++ts.map Cp,if q=[] then total else k+(Bf ts).length,cod q,tg),decide (tg≠3))/\(tg=0\/tg=3):=by
 intro ts
 induction ts with
 | nil =>
  intro _ k acc h0 h1 h2;rcases hq with rfl|⟨p,rfl,hp⟩
  ·exact ⟨0,by simp [Qo,Qk,cod],.inl rfl⟩
  ·refine ⟨3,?_,.inr rfl⟩;rw [List.map_nil,List.nil_append,Hf] at h1;simp only [List.length_cons,List.length_append] at h1;rw [List.map_nil,List.nil_append,Qo,Qk,Fl];simp only [hp.1,sbd];have hlast:(k+1+(p.length:Int)==(b.length:Int))=true:=by
    simp [Dd] at h1;rw [beq_iff_eq];omega
   rw [Bx (by rfl),ckb (by omega),ckb (by omega),hlast,gdT (by rfl),hp.2.1,sbd,Bx (by rfl),sbd,Aq rfl,if_neg (by simp),show cod [p]=16 from rfl,List.map_nil,List.append_nil];rw [show Bf []=[] from rfl,List.length_nil,show k+((0:Nat):Int)=k by omega];rfl
 | cons t ts ih =>
  intro hv k acc h0 h1 h2;have ht:=hv t (by simp);rw [List.map_cons,List.cons_append,Hf] at h1;simp only [List.length_cons,List.length_append] at h1 h2;rw [List.map_cons,List.cons_append,Qo,Qk,Fl];simp only [B1v hF ht,sbd];have happ:(apd 224 acc [Cp t]).bind (λl405=>some ((l405,total,(0:Int),0),true))=some ((acc++[Cp t],total,(0:Int),(0:Nat)),true):=Me (by simp;omega) (by decide);rw [Aq (by rfl),A8q F ht,sbd,happ,sbd,Bx rfl];obtain ⟨tg,h4,h5⟩:=ih (λt ht=>hv t (by simp [ht])) (k+1+(Ba t).length) (acc++[Cp t]) (by omega) (by omega) (by simp only [List.length_append,List.length_singleton];omega);refine ⟨tg,?_,h5⟩;rw [h4,List.append_assoc,Lu,List.length_append,K3,List.length_cons];have e:k+1+((Ba t).length:Int)+((Bf ts).length:Int)=k+(((Ba t).length+1+(Bf ts).length:Nat):Int):=by omega
  rw [e];rfl
theorem A76 {F:Nat} (hF:200000<=F) (q:List (List Int)) (hq:q=[]\/∃p,q=[p]/\Tq F p):∀(ts:List volume_thing),(∀t∈ts,vT t)->∀(k:Int) (acc:List volume_Item),acc.length+ts.length<=1000 ->
  Qk (Ef F) (Qo k (ts.map Ba++q)) (acc,0,0)=some ((acc++ts.map Cp,(q.length:Int),0),true):=by
 intro ts
 induction ts with
 | nil =>
  intro _ k acc h2;rcases hq with rfl|⟨p,rfl,hp⟩
  ·simp [Qo,Qk]
  ·rw [List.map_nil,List.nil_append,Qo,Qk,Ef];simp only [hp.1,sbd];rw [Aq (by rfl),ckb (by omega),sbd,Bx rfl,Qo,Qk,List.map_nil,List.append_nil];rfl
 | cons t ts ih =>
  intro hv k acc h2;have ht:=hv t (by simp);simp only [List.length_cons] at h2;rw [List.map_cons,List.cons_append,Qo,Qk,Ef];simp only [B1v hF ht,sbd];have happ:(apd 224 acc [Cp t]).bind (λl405=>some ((l405,(0:Int),0),true))=some ((acc++[Cp t],(0:Int),(0:Nat)),true):=Me (by simp;omega) (by decide);rw [Bx (by rfl),A8q F ht,sbd,happ,sbd,Bx rfl,ih (λt ht=>hv t (by simp [ht])) _ _ (by simp;omega),List.append_assoc];rfl
theorem A30 {F:Nat} {ts:List volume_thing} (hv:∀t∈ts,vT t) {q:List (List Int)} (hq:q=[]\/∃p,q=[p]/\Tq F p):∀p∈ts.map Ba++q,Nz p:=λp hp=>by
 rcases List.mem_append.1 hp with hp|hp
 ·obtain ⟨t,ht,rfl⟩:=List.mem_map.1 hp;exact (hv t ht).nz
 ·rcases hq with rfl|⟨r,rfl,hr⟩
  ·cases hp
  ·simp at hp;subst hp;exact hr.2.2
theorem A9m {F:Nat} (hF:200000<=F) {ts:List volume_thing} (hv:∀t∈ts,vT t) (hn:ts.length<=50) {q:List (List Int)} (hq:q=[]\/∃p,q=[p]/\Tq F p) (hl:(Dd (ts.map Ba++q)).length<=150000) :
  Jb F (RVF1++Dd (ts.map Ba++q))=some (ts.map Cp,((4+(Bf ts).length:Nat):Int),cod q):=by
 have hz:=A30 hv hq;have hlen:(RVF1++Dd (ts.map Ba++q)).length=4+(Dd (ts.map Ba++q)).length:=by rw [List.length_append];rfl
 rw [Jb,Aq (dF (by omega)),show ([82,86,70,49]:List Int)=RVF1 from rfl,A70 F _ (A8r hz),sbd];obtain ⟨tg,h1,h2⟩:=A73 hF (RVF1++Dd (ts.map Ba++q)) (by omega) ((RVF1++Dd (ts.map Ba++q)).length:Nat) q hq ts hv 4 [] (by decide) (by omega) (by simp;omega);have hpl:(ts.map Ba++q).length<=51:=by
  rw [List.length_append,List.length_map];rcases hq with rfl|⟨p,rfl,_⟩<;>simp<;>omega
 have hpc:Dz F (RVF1++Dd (ts.map Ba++q)) (Fl F (RVF1++Dd (ts.map Ba++q))) (([]:List volume_Item),(((RVF1++Dd (ts.map Ba++q)).length:Nat):Int),0,0)=_:=A06 F _ RVF1_nz hz (by omega) (by omega) _;have hpos:(if q=[] then (((RVF1++Dd (ts.map Ba++q)).length:Nat):Int) else 4+((Bf ts).length:Int))=((4+(Bf ts).length:Nat):Int):=by
  by_cases h:q=[]
  ·subst h;rw [if_pos rfl,hlen,List.append_nil];rfl
  ·rw [if_neg h];omega
 rw [hpos] at h1;have hfin:((Dz F (RVF1++Dd (ts.map Ba++q)) (Fl F (RVF1++Dd (ts.map Ba++q))) (([]:List volume_Item),(((RVF1++Dd (ts.map Ba++q)).length:Nat):Int),0,0)).bind λr410 =>
   bif r410.2 then (Fk r410.1.1 r410.1.2.1 r410.1.2.2.1) else (bif (r410.1.2.2.2==3) then (Fk r410.1.1 r410.1.2.1 r410.1.2.2.1) else (none)))=some (ts.map Cp,((4+(Bf ts).length:Nat):Int),cod q):=by
  rw [hpc];show (Qk _ (Qo 4 _) _).bind _=_;rw [h1,sbd];have hk:Fk ([]++ts.map Cp) ((4+(Bf ts).length:Nat):Int) (cod q)=some (ts.map Cp,((4+(Bf ts).length:Nat):Int),cod q):=by
   rw [Fk,List.nil_append,Aq (dF (by rw [List.length_map];omega))]
  rcases h2 with rfl|rfl
  ·rw [Bx (by rfl)];exact hk
  ·rw [Aq (by rfl),Bx (by rfl)];exact hk
 cases hps:ts.map Ba++q with
 | nil =>
  rw [hps] at hfin;rw [gdF (by rfl),sbd,Aq (by rfl)];exact hfin
 | cons p ps =>
  have hg:(Cj (RVF1++Dd (p::ps)) 4)=some 0:=by rw [Hf];rfl
  rw [gdT (by rw [dT (show (((RVF1++Dd (p::ps)).length:Nat):Int)>4 by rw [hps] at hlen;rw [hlen,Hf];simp;omega)];rfl),hg,sbd,Aq (by cases decide ((((RVF1++Dd (p::ps)).length:Nat):Int)>4)<;>rfl)]
  rw [hps] at hfin;exact hfin
theorem B4j {F:Nat} (hF:200000<=F) {ts:List volume_thing} (hv:∀t∈ts,vT t) (hn:ts.length<=50) {q:List (List Int)} (hq:q=[]\/∃p,q=[p]/\Tq F p) (hl:(Dd (ts.map Ba++q)).length<=150000) :
  Ks F (RVF1++Dd (ts.map Ba++q))=some (ts.map Cp,(q.length:Int),0):=by
 have hz:=A30 hv hq;have hlen:(RVF1++Dd (ts.map Ba++q)).length=4+(Dd (ts.map Ba++q)).length:=by rw [List.length_append];rfl
 have hpl:(ts.map Ba++q).length<=51:=by
  rw [List.length_append,List.length_map];rcases hq with rfl|⟨p,rfl,_⟩<;>simp<;>omega
 have hpc:Dz F (RVF1++Dd (ts.map Ba++q)) (Ef F) (([]:List volume_Item),0,0)=_:=A06 F _ RVF1_nz hz (by omega) (by omega) _;rw [Ks,Aq (dF (by omega)),hpc,A76 hF q hq ts hv _ [] (by simp;omega),sbd,Bx rfl,Aq (dF (by simp;omega)),List.nil_append]
theorem A4k {F:Nat} (hF:200000<=F) {ts:List volume_thing} (h:∀t∈ts,vT t) (hn:ts.length<=50):Jb F (RVF1++Bf ts)=some (ts.map Cp,((4+(Bf ts).length:Nat):Int),0):=by
 have hl:=Vh h;have:=A9m hF h hn (q:=[]) (.inl rfl) (by rw [List.append_nil];show (Bf ts).length<=_;omega);rw [List.append_nil,show cod []=0 from rfl] at this;exact this
theorem A88 {F:Nat} (hF:200000<=F):∀(ts:List volume_thing),(∀t∈ts,vT t)->∀k,k<=(Bf ts).length->∃n q,n<=ts.length/\(Bf ts).take k=Dd ((ts.take n).map Ba++q)/\(q=[]\/∃p,q=[p]/\Tq F p):=by
 intro ts
 induction ts with
 | nil=>intro _ k hk;exact ⟨0,[],Nat.le_refl _,by simp [Bf,Dd],.inl rfl⟩
 | cons t ts ih =>
  intro hv k hk;rw [Lu,K3,List.cons_append];rw [Lu,K3,List.cons_append,List.length_cons,List.length_append] at hk
  cases k with
  | zero=>exact ⟨0,[],Nat.zero_le _,by simp [Dd],.inl rfl⟩
  | succ j =>
   rw [List.take_succ_cons]
   by_cases hj:j<(Ba t).length
   ·refine ⟨0,[(Ba t).take j],Nat.zero_le _,?_,.inr ⟨_,rfl,A4u hF (hv t (by simp)) hj⟩⟩;rw [List.take_append_of_le_length (by omega)];simp [Dd]
   ·obtain ⟨i,rfl⟩:∃i,j=(Ba t).length+i:=⟨j-(Ba t).length,by omega⟩;obtain ⟨n,q,h1,h2,h3⟩:=ih (λt ht=>hv t (by simp [ht])) i (by omega);refine ⟨n+1,q,by simp;omega,?_,h3⟩;rw [List.take_length_add_append,h2,List.take_succ_cons,List.map_cons,List.cons_append,Hf]
end Go.Proofs.YtjfhcbjhjeklbaaGreat
namespace Go.Proofs.YtjfhcbjhjeklbaaGreat
open Go Go.RowKit Go.Eng
set_option maxRecDepth 10000
set_option linter.unusedVariables false
set_option linter.unusedSimpArgs false
theorem X1 {x y z:volume_entry} (h:Dk x y<0) (h':Dk y z<=0):Dk x z<0:=by
 apply Classical.byContradiction;intro h3;have:=Nt h' (Ky.1 h3);have:=(R3 x y).1 h;omega
def Str (l:List volume_entry):Prop:=l.Pairwise λx y=>Dk x y<0
theorem Z4:∀{l m:List volume_entry},Str l->Str m->(∀x,x∈l↔x∈m)->l=m
 | [],[],_,_,_=>rfl
 | [],b::m,_,_,h=>by have:=(h b).2 (by simp);cases this
 | a::l,[],_,_,h=>by have:=(h a).1 (by simp);cases this
 | a::l,b::m,hl,hm,h=>by
  obtain ⟨h1,h2⟩:=List.pairwise_cons.1 hl;obtain ⟨h3,h4⟩:=List.pairwise_cons.1 hm;have e:a=b:=by
   rcases List.mem_cons.1 ((h a).1 (by simp)) with e|e
   ·exact e
   ·rcases List.mem_cons.1 ((h b).2 (by simp)) with e'|e'
    ·exact e'.symm
    ·have k1:=h3 a e;have k2:=h1 b e';have:=(R3 a b).1 k2;omega
  subst e;have hn:∀x,x∈l->x≠a:=λx hx he=>by
   have:=h1 x hx;rw [he,Un] at this;omega
  have hn':∀x,x∈m->x≠a:=λx hx he=>by
   have:=h3 x hx;rw [he,Un] at this;omega
  rw [Z4 h2 h4 λx=>?_];constructor
  ·intro hx;exact (List.mem_cons.1 ((h x).1 (List.mem_cons_of_mem _ hx))).resolve_left (hn x hx)
  ·intro hx;exact (List.mem_cons.1 ((h x).2 (List.mem_cons_of_mem _ hx))).resolve_left (hn' x hx)
def Wk (e:volume_entry):List volume_entry->List volume_entry
 | []=>[e]
 | x::r=>if Dk x e<0 then x::Wk e r else if Dk e x<0 then e::x::r else x::r
theorem Yk (e x:volume_entry):∀l,x∈Wk e l↔x=e\/x∈l
 | []=>by simp [Wk]
 | y::r=>by
  unfold Wk
  split
  ·rw [List.mem_cons,Yk e x r,List.mem_cons];constructor
   ·rintro (h|h|h)<;>simp [h]
   ·rintro (h|h|h)<;>simp [h]
  ·split
   ·simp
   ·rename_i h1 h2
    have:y=e:=by
     refine Uo ?_;have:=Ky.1 h2;omega
    subst this;simp
theorem A2j (e:volume_entry):∀{l},Str l->Str (Wk e l)
 | [],_=>by simp [Wk,Str]
 | y::r,h=>by
  obtain ⟨h1,h2⟩:=List.pairwise_cons.1 h;unfold Wk
  split
  ·rename_i hy
   refine List.pairwise_cons.2 ⟨λx hx=>?_,A2j e h2⟩;rcases (Yk e x r).1 hx with rfl|hx
   ·exact hy
   ·exact h1 x hx
  ·split
   ·rename_i hy
    refine List.pairwise_cons.2 ⟨λx hx=>?_,h⟩;rcases List.mem_cons.1 hx with rfl|hx
    ·exact hy
    ·have:=h1 x hx;exact X1 hy (by omega)
   ·exact h
theorem Vb:∀(s:List volume_entry) (p:volume_entry),(p::s).Pairwise (λx y=>Dk x y<=0)->(∀x∈p::s,∀y∈p::s,x.block=y.block->x=y)->Str (p::Ul p s)/\∀x,x∈p::Ul p s↔x∈p::s
 | [],p,_,_=>⟨by simp [Ul,Str],λx=>by simp [Ul]⟩
 | x::xs,p,hp,hi=>by
  obtain ⟨h1,h2⟩:=List.pairwise_cons.1 hp;unfold Ul
  by_cases hb:x.block=p.block
  ·have e:x=p:=hi x (by simp) p (by simp) hb;subst e;rw [if_pos rfl];obtain ⟨k1,k2⟩:=Vb xs x h2 (λa ha b hb=>hi a (List.mem_cons_of_mem _ ha) b (List.mem_cons_of_mem _ hb));refine ⟨k1,λz=>?_⟩;rw [k2 z];simp
  ·rw [if_neg hb];obtain ⟨k1,k2⟩:=Vb xs x h2 (λa ha b hb=>hi a (List.mem_cons_of_mem _ ha) b (List.mem_cons_of_mem _ hb));have hlt:Dk p x<0:=by
    have h3:=h1 x (by simp);have h4:Dk p x≠0:=λh=>hb (by rw [Uo h]);omega
   refine ⟨List.pairwise_cons.2 ⟨λz hz=>?_,k1⟩,λz=>?_⟩
   ·rcases List.mem_cons.1 ((k2 z).1 hz) with rfl|hz
    ·exact hlt
    ·exact X1 hlt ((List.pairwise_cons.1 h2).1 z hz)
   ·rw [List.mem_cons,k2 z,List.mem_cons (l:=x::xs)]
def A3t (l:List volume_entry):List volume_entry:=l.foldl (λacc e=>Wk e acc) []
theorem A2h (x:volume_entry):∀(l acc:List volume_entry),x∈l.foldl (λacc e=>Wk e acc) acc↔x∈l\/x∈acc
 | [],acc=>by simp
 | e::l,acc=>by
  rw [List.foldl_cons,A2h x l,Yk];simp only [List.mem_cons];constructor
  ·rintro (h|h|h)<;>simp [h]
  ·rintro ((h|h)|h)<;>simp [h]
theorem A2i:∀(l acc:List volume_entry),Str acc->Str (l.foldl (λacc e=>Wk e acc) acc)
 | [],acc,h=>h
 | e::l,acc,h=>A2i l _ (A2j e h)
theorem V9 (x:volume_entry) (l:List volume_entry):x∈A3t l↔x∈l:=by unfold A3t;rw [A2h];simp
theorem Y1 (l:List volume_entry):Str (A3t l):=A2i l [] List.Pairwise.nil
theorem B0k {l m:List volume_entry} (h:∀x,x∈l↔x∈m):A3t l=A3t m:=Z4 (Y1 l) (Y1 m) λx=>by rw [V9,V9];exact h x
theorem A87 (l:List volume_entry) (hi:∀x∈l,∀y∈l,x.block=y.block->x=y):A6d (l.mergeSort λx y=>decide (Dk x y<=0))=A3t l:=by
 have hp:=List.mergeSort_perm l λx y=>decide (Dk x y<=0);have hs:(l.mergeSort λx y=>decide (Dk x y<=0)).Pairwise (λx y=>Dk x y<=0):=by
  refine (List.pairwise_mergeSort (le:=λx y=>decide (Dk x y<=0)) (λa b c h1 h2=>?_) (λa b=>?_) l).imp λ{x y} h=>by simpa using h
  ·simp only [decide_eq_true_eq] at *;exact Nt h1 h2
  ·simp only [Bool.or_eq_true,decide_eq_true_eq]
   by_cases h:Dk a b<0
   ·left;omega
   ·right;exact Ky.1 h
 generalize (l.mergeSort λx y=>decide (Dk x y<=0))=s at *;refine Z4 ?_ (Y1 l) λx=>?_
 ·cases s with
  | nil=>exact List.Pairwise.nil
  | cons p s=>exact (Vb s p hs (λa ha b hb=>hi a (hp.mem_iff.1 ha) b (hp.mem_iff.1 hb))).1
 ·rw [V9,←hp.mem_iff]
  cases s with
  | nil=>rfl
  | cons p s=>exact (Vb s p hs (λa ha b hb=>hi a (hp.mem_iff.1 ha) b (hp.mem_iff.1 hb))).2 x
def en (t:volume_thing):volume_entry:=⟨A0i t,K3 t⟩
theorem A1x {x y:volume_thing} (hx:vT x) (hy:vT y) (h:K3 x=K3 y):x=y:=by
 have hp:Ba x=Ba y:=(List.cons.inj h).2;have:=B1v (F:=200000) (Nat.le_refl _) hx;rw [hp,B1v (Nat.le_refl _) hy] at this;exact (Prod.mk.inj (Option.some.inj this)).1.symm
theorem A89 {x y:volume_thing} (hx:vT x) (hy:vT y) (h:en x=en y):x=y:=A1x hx hy (congrArg volume_entry.block h)
def U3 (t:volume_thing):List volume_thing->List volume_thing
 | []=>[t]
 | v::r=>if Dk (en v) (en t)<0 then v::U3 t r else if Dk (en t) (en v)<0 then t::v::r else v::r
theorem A5m (t:volume_thing):∀l,(U3 t l).map en=Wk (en t) (l.map en)
 | []=>rfl
 | v::r=>by
  unfold U3;rw [List.map_cons,Wk]
  split
  ·rw [List.map_cons,A5m t r]
  ·split<;>rfl
theorem A2l (t x:volume_thing):∀l,x∈U3 t l->x=t\/x∈l
 | [],h=>by simpa [U3] using h
 | v::r,h=>by
  unfold U3 at h
  split at h
  ·rcases List.mem_cons.1 h with h|h
   ·simp [h]
   ·rcases A2l t x r h with h|h<;>simp [h]
  ·split at h
   ·simpa using h
   ·exact .inr h
theorem A2k (t:volume_thing):∀l,(U3 t l).length<=l.length+1
 | []=>by simp [U3]
 | v::r=>by
  unfold U3;have:=A2k t r
  split
  ·simp;omega
  ·split<;>simp
def Yh (acc:List volume_thing) (l:List volume_thing):List volume_thing:=l.foldl (λacc t=>U3 t acc) acc
theorem A2g:∀(l acc:List volume_thing),(Yh acc l).map en=(l.map en).foldl (λacc e=>Wk e acc) (acc.map en)
 | [],acc=>rfl
 | t::l,acc=>by
  show (Yh (U3 t acc) l).map en=_;rw [A2g l,A5m];rfl
theorem Zt (x:volume_thing):∀(l acc:List volume_thing),x∈Yh acc l->x∈l\/x∈acc
 | [],acc,h=>.inr h
 | t::l,acc,h=>by
  rcases Zt x l (U3 t acc) h with h|h
  ·exact .inl (List.mem_cons_of_mem _ h)
  ·rcases A2l t x acc h with rfl|h
   ·exact .inl (by simp)
   ·exact .inr h
theorem Zs:∀(l acc:List volume_thing),(Yh acc l).length<=acc.length+l.length
 | [],acc=>by simp [Yh]
 | t::l,acc=>by
  have:=Zs l (U3 t acc);have:=A2k t acc;show (Yh (U3 t acc) l).length<=_;rw [List.length_cons];omega
def Pr (l:List volume_thing):List volume_thing:=Yh [] l
theorem Xo (l:List volume_thing):(Pr l).map en=A3t (l.map en):=A2g l []
theorem Ps {l:List volume_thing} {x:volume_thing} (h:x∈Pr l):x∈l:=(Zt x l [] h).resolve_right (λh=>by cases h)
theorem A22 (l:List volume_thing):(Pr l).length<=l.length:=by have:=Zs l [];unfold Pr;simpa using this
theorem A80 {l:List volume_thing} (hv:∀t∈l,vT t) (x:volume_thing):x∈Pr l↔x∈l:=by
 refine ⟨Ps,λh=>?_⟩;have h1:en x∈(Pr l).map en:=by rw [Xo,V9];exact List.mem_map_of_mem h
 obtain ⟨y,hy,he⟩:=List.mem_map.1 h1;rw [←A89 (hv y (Ps hy)) (hv x h) he];exact hy
theorem Yq:∀{l m:List volume_thing},(∀t∈l,vT t)->(∀t∈m,vT t)->l.map en=m.map en->l=m
 | [],[],_,_,_=>rfl
 | [],_::_,_,_,h=>by cases h
 | _::_,[],_,_,h=>by cases h
 | x::l,y::m,hl,hm,h=>by
  obtain ⟨h1,h2⟩:=List.cons.inj h;rw [A89 (hl x (by simp)) (hm y (by simp)) h1,Yq (λt ht=>hl t (by simp [ht])) (λt ht=>hm t (by simp [ht])) h2]
theorem A56 {l m:List volume_thing} (hl:∀t∈l,vT t) (hm:∀t∈m,vT t) (h:∀x,x∈l↔x∈m):Pr l=Pr m:=by
 refine Yq (λt ht=>hl t (Ps ht)) (λt ht=>hm t (Ps ht)) ?_;rw [Xo,Xo];refine B0k λx=>?_;simp only [List.mem_map];constructor
 ·rintro ⟨t,ht,e⟩;exact ⟨t,(h t).1 ht,e⟩
 ·rintro ⟨t,ht,e⟩;exact ⟨t,(h t).2 ht,e⟩
theorem A7w (t:volume_thing):By (K3 t):=by
 intro x hx;unfold K3 at hx;rcases List.mem_cons.1 hx with rfl|hx
 ·omega
 ·unfold Ba at hx;rcases List.mem_append.1 hx with hx|hx
  ·unfold Dt at hx;rcases List.mem_append.1 hx with hx|hx
   ·exact Xv _ x hx
   ·exact Ty t x hx
  ·exact (W6 _).by x hx
theorem B5g {t:volume_thing} (h:vT t):enB (en t):=by
 have:=B2d h;exact ⟨⟨by show -4000000000000000000<=A0i t;omega,by show A0i t<=4000000000000000000;omega⟩,A7w t⟩
theorem B2m {F:Nat} (hF:200000<=F) (ts:List volume_thing) (hv:∀t∈ts,vT t) (hn:ts.length<=1000) (x:Int) (k4:Int->List volume_entry->Option (List Int×Int)) (y:List volume_Item×Int×Int) (hy:y.1=ts.map Cp):∀(m i:Nat) (acc:List volume_entry),ts.length-i<m->i<=ts.length->acc.length<=1000+i ->
  Fj F x k4 y m i acc=J7 x k4 (acc++(ts.drop i).map en):=by
 intro m
 induction m with
 | zero=>intro i acc h;omega
 | succ m ih =>
  intro i acc h hi ha;rw [Fj,Mp,hy,List.length_map]
  by_cases hb:i<ts.length
  ·have hd:=List.drop_eq_getElem_cons hb;have ht:=hv ts[i] (List.getElem_mem hb);rw [Bx (dT (by omega)),Ej i (Cp ts[i]) rfl (by rw [List.getElem?_map,List.getElem?_eq_getElem hb];rfl),B79 F ht,sbd,B2e F ht,sbd,A1y hF ht.ok (by have:=ht.tlen;omega),sbd,Me (by simp;omega) (by decide),ckb (by omega),show ((i:Int)+1)=((i+1:Nat):Int) by omega];refine Eq.trans (ih (i+1) _ (by omega) (by omega) (by simp;omega)) ?_;rw [hd,List.map_cons,List.append_assoc];rfl
  ·rw [Aq (dF (by omega)),List.drop_of_length_le (by omega)];simp
theorem vT.blen {t:volume_thing} (h:vT t):(K3 t).length<=2415:=by
 have:=h.len;unfold K3;rw [List.length_cons];omega
theorem B5n (c:List volume_thing) (hv:∀t∈c,vT t) (hn:c.length<=2000):∀(m i:Nat) (acc:List Int),c.length-i<m->i<=c.length->acc.length<=100+2415*i ->
  Gf (c.map en) m acc i=Kq (c.map en) (acc++Bf (c.drop i)):=by
 intro m
 induction m with
 | zero=>intro i acc h;omega
 | succ m ih =>
  intro i acc h hi ha;rw [Gf,Mn,List.length_map]
  by_cases hb:i<c.length
  ·have hd:=List.drop_eq_getElem_cons hb;have hl:=(hv c[i] (List.getElem_mem hb)).blen;rw [Bx (dT (by omega)),Ej i (en c[i]) rfl (by rw [List.getElem?_map,List.getElem?_eq_getElem hb];rfl)];show (apd 1 acc (K3 c[i])).bind _=_;rw [Me (by omega) (by decide),ckb (by omega),show ((i:Int)+1)=((i+1:Nat):Int) by omega];refine Eq.trans (ih (i+1) _ (by omega) (by omega) (by simp;omega)) ?_;rw [hd,Lu,List.append_assoc]
  ·rw [Aq (dF (by omega)),List.drop_of_length_le (by omega)];simp [Bf,Dd]
theorem B5m {F:Nat} (hF:200000<=F) (l:List volume_thing) (hv:∀t∈l,vT t) (hn:l.length<=100):Kp F (l.map en)=some (RVF1++Bf (Pr l),0):=by
 have hb:∀s∈l.map en,enB s:=λs hs=>by
  obtain ⟨t,ht,rfl⟩:=List.mem_map.1 hs;exact B5g (hv t ht)
 have hp:=List.mergeSort_perm (l.map en) λx y=>decide (Dk x y<=0);have hlen:=A22 l;have hf:=Vh (ts:=Pr l) λt ht=>hv t (Ps ht);rw [Kp,L6,if_pos ⟨hb,by rw [List.length_map];omega⟩,sbd,Ht,if_pos ⟨λs hs=>hb s (hp.mem_iff.1 hs),by rw [hp.length_eq,List.length_map];omega⟩,sbd];rw [A87 (l.map en) (λx hx y hy he=>by
  obtain ⟨t,ht,rfl⟩:=List.mem_map.1 hx;obtain ⟨u,hu,rfl⟩:=List.mem_map.1 hy;rw [A1x (hv t ht) (hv u hu) he]),←Xo]
 show Gf _ F RVF1 ((0:Nat):Int)=_;rw [B5n (Pr l) (λt ht=>hv t (Ps ht)) (by omega) F 0 RVF1 (by omega) (by omega) (by decide),List.drop_zero,Kq,List.length_map];have e4:(RVF1++Bf (Pr l)).length=4+(Bf (Pr l)).length:=by rw [List.length_append];rfl
 rw [Aq (dF (by omega)),Aq (dF (by omega))]
theorem Xu {F:Nat} (hF:200000<=F) {ts us:List volume_thing} (hv:∀t∈ts,vT t) (hu:∀t∈us,vT t) (hn:ts.length<=50) (hm:us.length<=50) :
  Ja F (RVF1++Bf ts) (RVF1++Bf us)=some (RVF1++Bf (Pr (ts++us)),0):=by
 have hb:=A4k hF hv hn;have hc:=A4k hF hu hm;generalize ((4+(Bf ts).length:Nat):Int)=k at hb;generalize ((4+(Bf us).length:Nat):Int)=k' at hc;generalize RVF1++Bf ts=b at hb ⊢;generalize RVF1++Bf us=c at hc ⊢;obtain ⟨G,rfl⟩:∃G,F=G+3:=⟨F-3,by omega⟩;have h6:=λ(x:Int) k4 acc (ha:acc.length<=1000)=>B2m hF ts hv (by omega) x k4 (ts.map Cp,k,0) rfl (G+3) 0 acc (by omega) (by omega) (by omega);have h6':=λ(x:Int) k4 acc (ha:acc.length<=1000)=>B2m hF us hu (by omega) x k4 (us.map Cp,k',0) rfl (G+3) 0 acc (by omega) (by omega) (by omega);rw [Ja,Gg,J6,Bx (dT (by omega)),Ej (i:=0) 0 b rfl rfl,hb,sbd];show (bif ((0:Int) != 0) then _ else Fj (G+3) 0 _ (ts.map Cp,k,0) (G+3) ((0:Nat):Int) [])=_;rw [Aq (by rfl),h6 _ _ _ (by simp),J7,ckb (by omega),List.drop_zero,List.nil_append,Gg,J6,Bx (dT (by omega)),Ej (i:=0+1) 1 c rfl rfl,hc,sbd];show (bif ((0:Int) != 0) then _ else Fj (G+3) (0+1) _ (us.map Cp,k',0) (G+3) ((0:Nat):Int) (ts.map en))=_;rw [Aq (by rfl),h6' _ _ _ (by rw [List.length_map];omega),J7,ckb (by omega),List.drop_zero,Gg,J6,Aq (dF (by omega)),←List.map_append];exact B5m hF (ts++us) (λt ht=>(List.mem_append.1 ht).elim (hv t) (hu t)) (by simp;omega)
end Go.Proofs.YtjfhcbjhjeklbaaGreat
