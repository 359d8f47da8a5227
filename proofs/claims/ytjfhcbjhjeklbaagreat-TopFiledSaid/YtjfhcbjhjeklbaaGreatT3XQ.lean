import Derived.Test.YtjfhcbjhjeklbaaGreatT3XG
set_option linter.unusedVariables false
set_option linter.unusedSimpArgs false
set_option linter.unusedSectionVars false
namespace Go.Proofs.YtjfhcbjhjeklbaaGreat
open Go Go.RowKit Go.Eng
set_option maxRecDepth 10000
set_option linter.unusedVariables false
set_option linter.unusedSimpArgs false
theorem B3l {l:List mosaic_Key} (h:l.Nodup):ndK l=true:=by
 induction l with
 | nil=>rfl
 | cons k l ih =>
  rw [List.nodup_cons] at h;have e:l.contains k=false:=by
   cases hc:l.contains k with
   | false=>rfl
   | true=>exact absurd (List.contains_iff_mem.1 hc) h.1
  show (!l.contains k&&ndK l)=true;rw [e,ih h.2];rfl
theorem A6x {F:Nat} {s:mosaic_Spec} {N:mosaic_Node} {m:mosaic_Message} (hF:1000<=F) (hs:GS F s) (h:SN F s N) (hm:okM s m) (hc:tot N.kept<256) (ht:N.horizon<=m.Key.Time) :
  ∃(b:Bool) (N':mosaic_Node),Bj F N m=some (b,0,N')/\SN F s N'/\N'.horizon=N.horizon/\tot N'.kept<=tot N.kept+1/\∀x,has N' x↔has N x\/x=m:=by
 have h4:=h.ni.count;unfold Bj Bt;rw [sbd,cond_false,A3l hF hs h.ni hm,sbd,Aq (c:=(0:Int) != 0) rfl];obtain ⟨r,b,e,r1,r2,r3⟩:=Wq (m:=m) hF hs h (by omega);rw [Aq (dF (by omega)),e,sbd]
 cases b with
 | true =>
  have hh:=r2.1 rfl;exact ⟨false,N,rfl,h,rfl,by omega,λx=>⟨.inl,λe=>e.elim id λe=>by rw [e];exact hh⟩⟩
 | false =>
  have hS:=r3 rfl hm;rw [Aq (c:=((r:Int),false).2) rfl,Aq (dF (by omega)),A4g hF hs h.ni hm (by omega) e r1,sbd];refine ⟨true,Sn N m r,rfl,hS,rfl,?_,λx=>?_⟩
  ·have h1:=hS.ni.count;have h2:(Sn N m r).count=N.count+1:=rfl;omega
  ·rw [Xs];exact or_comm
theorem A9j {l:List mosaic_Radar} (hl:l.length<=1000):∀(n i:Nat),i<=l.length->l.length-i<n->B8 l l n (i:Int)=some true:=by
 intro n
 induction n with
 | zero=>intro i _ h;omega
 | succ n ih =>
  intro i hi hn;rw [B8];unfold C5
  by_cases hc:i<l.length
  ·rw [Bx (dT (by omega)),Ej i l[i] rfl (List.getElem?_eq_getElem hc),Ej i l[i] rfl (List.getElem?_eq_getElem hc),Aq (by simp),ckb (by omega)];exact ih (i+1) hc (by omega)
  ·rw [Aq (dF (by omega))];rfl
theorem A3y {F:Nat} {s:mosaic_Spec} (hl:s.Radars.length<=1000) (hF:s.Radars.length<F):L0 F s s=some true:=by
 have e:Bw F s.Radars s.Radars=some true:=by
  unfold Bw;rw [Aq (by simp)];exact A9j hl F 0 (Nat.zero_le _) (by omega)
 unfold L0;have e2:(bif (bif (((s.Grid.X:Int)==s.Grid.X)&&(((s.Grid.Y:Int)==s.Grid.Y)&&(((s.Grid.Size:Int)==s.Grid.Size)&&(((s.Grid.Wide:Int)==s.Grid.Wide)&&(((s.Grid.High:Int)==s.Grid.High)&&true))))) then (((s.Earth.Lo:Int)==s.Earth.Lo)&&(((s.Earth.Hi:Int)==s.Earth.Hi)&&true)) else false) then (s.Age==s.Age) else false)=true:=by simp
 rw [e2,e];rfl
theorem A6t {F:Nat} {s:mosaic_Spec} {p0:mosaic_Node} {Y:Int×mosaic_Node} {M:List mosaic_Message} (hF:1000<=F) (hs:GS F s) (hM:∀m∈M,okM s m) (hl:M.length<=200) (hY:0<=Y.2.count/\Y.2.count<=300) :
  ∀(n i:Nat) (C:mosaic_Node),i<=M.length->M.length-i<n->SN F s C->tot C.kept+(M.length-i)<=256 ->
   ∃C',Dc F p0 Y M n C.spec.Grid.X C.spec.Grid.Y C.horizon C.count C.spec.Grid.Size C.spec.Grid.Wide C.spec.Grid.High C.spec.Earth.Lo C.spec.Earth.Hi C.spec.Radars C.spec.Age C.kept C.radars C.looks (i:Int)=some (C'.count-Y.2.count,0,⟨p0.spec,C'.radars,C'.horizon,C'.kept,C'.count,p0.looks⟩)/\SN F s C'/\C'.horizon=C.horizon/\tot C'.kept<=tot C.kept+(M.length-i) /\
    (∀x,has C' x↔has C x\/(x∈M.drop i/\C.horizon<=x.Key.Time))/\((∀x∈M.drop i,has C x)->C'=C):=by
 intro n
 induction n with
 | zero=>intro i C _ h;omega
 | succ n ih =>
  intro i C hi hn hC hb;have hcc:=hC.ni.count;rw [Dc];unfold Gj
  by_cases hc:i<M.length
  ·have hm:=hM _ (List.getElem_mem hc);obtain ⟨r,b,e,r1,r2,r3⟩:=Wq (m:=M[i]) hF hs hC (by omega);rw [Bx (dT (by omega)),Ej i M[i] rfl (List.getElem?_eq_getElem hc)];rw [show (mosaic_Node.mk (mosaic_Spec.mk (api_Grid.mk C.spec.Grid.X C.spec.Grid.Y C.spec.Grid.Size C.spec.Grid.Wide C.spec.Grid.High) (api_Span.mk C.spec.Earth.Lo C.spec.Earth.Hi) C.spec.Radars C.spec.Age) C.radars C.horizon C.kept C.count C.looks)=C from rfl];rw [e,sbd];have ed:=List.drop_eq_getElem_cons hc
   by_cases hg:b=false/\C.horizon<=M[i].Key.Time
   ·obtain ⟨hb0,ht⟩:=hg;have hn2:¬has C M[i]:=λx=>by have:=r2.2 x;rw [hb0] at this;cases this
    have hS:=r3 hb0 hm;have hcn:(Sn C M[i] r).count=C.count+1:=rfl;have hSc:=hS.ni.count;rw [Bx (c:=bif (!((r:Int),b).2) then (decide (M[i].Key.Time>=C.horizon)) else false) (by rw [show ((r:Int),b).2=b from rfl,hb0];exact dT ht),A4g hF hs hC.ni hm (by omega) e r1,sbd];unfold Du;rw [ckb (by omega)];obtain ⟨C',q1,q2,q3,q4,q5,q6⟩:=ih (i+1) (Sn C M[i] r) hc (by omega) hS (by omega);refine ⟨C',q1,q2,q3,by omega,λx=>?_,λhx=>absurd (hx _ (by rw [ed];exact .head _)) hn2⟩;rw [q5,Xs,ed,List.mem_cons];constructor
    ·rintro ((rfl|h)|h)
     ·exact .inr ⟨.inl rfl,ht⟩
     ·exact .inl h
     ·exact .inr ⟨.inr h.1,h.2⟩
    ·rintro (h|⟨h|h,h2⟩)
     ·exact .inl (.inr h)
     ·exact .inl (.inl h)
     ·exact .inr ⟨h,h2⟩
   ·rw [Aq (c:=bif (!((r:Int),b).2) then (decide (M[i].Key.Time>=C.horizon)) else false) (by
     cases b with
     | true=>rfl
     | false=>exact dF λht=>hg ⟨rfl,ht⟩)]
    unfold Du;rw [ckb (by omega)];obtain ⟨C',q1,q2,q3,q4,q5,q6⟩:=ih (i+1) C hc (by omega) hC (by omega);refine ⟨C',q1,q2,q3,by omega,λx=>?_,λhx=>q6 λy hy=>hx y (by rw [ed];exact .tail _ hy)⟩;rw [q5,ed,List.mem_cons];constructor
    ·rintro (h|h)
     ·exact .inl h
     ·exact .inr ⟨.inr h.1,h.2⟩
    ·rintro (h|⟨h|h,h2⟩)
     ·exact .inl h
     ·subst h
      cases b with
      | true=>exact .inl (r2.1 rfl)
      | false=>exact absurd ⟨rfl,h2⟩ hg
     ·exact .inr ⟨h,h2⟩
  ·rw [Aq (dF (by omega)),List.drop_eq_nil_of_le (by omega)];unfold Gk;rw [Aq (dF (by omega)),ckb (by omega)];exact ⟨C,rfl,hC,rfl,by omega,λx=>⟨.inl,λe=>e.elim id λe=>by cases e.1⟩,λ_=>rfl⟩
theorem A9b {F:Nat} {s:mosaic_Spec} {N:mosaic_Node} (h:NI F s N):N.kept.filter (Ze 0)=[]/\N.kept.filter (λp=>!Ze 0 p)=N.kept:=by
 have e:∀p∈N.kept,Ze 0 p=false:=λp hp=>by
  have:=(h.ok p hp).1.2.2.1;unfold Ze;exact dF (by omega)
 exact ⟨List.filter_eq_nil_iff.2 λp hp=>by rw [e p hp];decide,List.filter_eq_self.2 λp hp=>by rw [e p hp];rfl⟩
theorem B5s {F:Nat} {s:mosaic_Spec} {N:mosaic_Node} (h:NI F s N) (h0:N.horizon=0) (ht:tot N.kept<900):M7 F N 0=some (0,N):=by
 obtain ⟨a,b⟩:=A9b h;have hc:=h.count;have e:X7 0 N.kept=0:=by unfold X7;rw [a];rfl
 unfold M7;rw [e,b,if_pos ⟨B3l h.nd,by omega,by omega,by omega⟩];obtain ⟨sp,rd,hz,kp,ct,lk⟩:=N;obtain rfl:hz=0:=h0;show some (((0:Nat):Int),(⟨sp,rd,0,kp,ct-((0:Nat):Int),lk⟩:mosaic_Node))=_;rw [Int.sub_eq_add_neg];show some ((0:Int),(⟨sp,rd,0,kp,ct + -0,lk⟩:mosaic_Node))=_;rw [Int.neg_zero,Int.add_zero]
theorem B3i {F:Nat} {s:mosaic_Spec} {N O:mosaic_Node} (hF:1000<=F) (h:RG F s) (hN:SN F s N) (hO:SN F s O) (h0:N.horizon=0) (g0:O.horizon=0) (ht:tot N.kept+tot O.kept<=200) :
  ∃(c:Int) (N':mosaic_Node),Eu F N O=some (c,0,N')/\SN F s N'/\N'.horizon=0/\tot N'.kept<=tot N.kept+tot O.kept/\∀x,has N' x↔has N x\/has O x:=by
 have hs:=h.gs;have hl:=h.len;have hmx:=R6 hO.ni;have hc:=hN.ni.count;obtain ⟨C',q1,q2,q3,q4,q5,q6⟩:=A6t (F:=F) (p0:=N) (Y:=(0,N)) (M:=Nv O) hF hs (λm hm=>hO.okm (R5.1 hm)) (by omega) (by show 0<=N.count/\N.count<=300;omega) F 0 N (Nat.zero_le _) (by omega) hN (by omega);rw [List.drop_zero] at q5;have e0:Eu F N O=(L0 F N.spec O.spec).bind λy30=>bif (!y30) then none else ((M7 F N (if O.horizon>N.horizon then O.horizon else N.horizon)).bind λy45=>(Ev F O).bind λy352 =>
   Dc F N y45 y352 F y45.2.spec.Grid.X y45.2.spec.Grid.Y y45.2.horizon y45.2.count y45.2.spec.Grid.Size y45.2.spec.Grid.Wide y45.2.spec.Grid.High y45.2.spec.Earth.Lo y45.2.spec.Earth.Hi y45.2.spec.Radars y45.2.spec.Age y45.2.kept y45.2.radars y45.2.looks 0):=rfl
 refine ⟨_,_,by rw [e0,hN.ni.spec,hO.ni.spec,A3y (by omega) (by omega),sbd,Aq (c:=!true) rfl,h0,g0,if_neg (Int.lt_irrefl 0),B5s hN.ni h0 (by omega),sbd,A7q hF hs hO.ni (by omega),sbd];exact q1,?_,?_,?_,?_⟩
 ·exact ⟨⟨hN.ni.spec,q2.ni.radars,q2.ni.nd,q2.ni.ok,q2.ni.count,hN.ni.looks⟩,q2.so,q2.vs⟩
 ·exact q3.trans h0
 ·show tot C'.kept<=_;omega
 ·intro x;have e1:has (⟨N.spec,C'.radars,C'.horizon,C'.kept,C'.count,N.looks⟩:mosaic_Node) x↔has C' x:=Iff.rfl;rw [e1,q5,R5,h0];constructor
  ·rintro (h|h)
   ·exact .inl h
   ·exact .inr h.1
  ·rintro (h|h)
   ·exact .inl h
   ·exact .inr ⟨h,(hO.okm h).key.2.2.1⟩
end Go.Proofs.YtjfhcbjhjeklbaaGreat
namespace Go.Proofs.YtjfhcbjhjeklbaaGreat
open Go Go.RowKit Go.Eng
set_option maxRecDepth 10000
set_option linter.unusedVariables false
set_option linter.unusedSimpArgs false
abbrev S0:mosaic_Spec:=top_filedSpec
theorem Wc:pix S0=8:=by decide
theorem B6r (F:Nat):beam_CheckSite F ⟨(⟨#[97]⟩:ByteArray),-1500,-500,100,1,3,1000,0⟩=some 0:=by kernel_rfl
theorem B6s (F:Nat):beam_CheckSite F ⟨(⟨#[98]⟩:ByteArray),1500,-500,100,1,3,1000,0⟩=some 0:=by kernel_rfl
theorem Zj (F:Nat):RG F S0:=by
 refine ⟨⟨by decide,by decide,by decide,by decide,by decide⟩,by unfold VE;decide,by decide,by rw [Wc];omega,by decide,by decide,λr hr=>?_⟩;have hr:r∈[(⟨⟨(⟨#[97]⟩:ByteArray),-1500,-500,100,1,3,1000,0⟩,⟨0,0⟩⟩:mosaic_Radar),⟨⟨(⟨#[98]⟩:ByteArray),1500,-500,100,1,3,1000,0⟩,⟨5,10⟩⟩]:=hr;rcases List.mem_cons.1 hr with rfl|hr
 ·exact ⟨⟨by decide,by decide,by decide,by decide,by decide,by decide,by decide⟩,B6r F,by decide,by decide⟩
 ·rcases List.mem_cons.1 hr with rfl|hr
  ·exact ⟨⟨by decide,by decide,by decide,by decide,by decide,by decide,by decide⟩,B6s F,by decide,by decide⟩
  ·cases hr
theorem Xz (m:mosaic_Message) (h:okM S0 m):m.Key.Name.size<=30:=by
 obtain ⟨r,hr⟩:=h.key.1;have:=A1a.1 ⟨r,hr⟩;have e:(radM S0).map (·.1)=[(⟨#[97]⟩:ByteArray),⟨#[98]⟩]:=by decide
 rw [e] at this;rcases List.mem_cons.1 this with h|h
 ·rw [h];decide
 ·rcases List.mem_cons.1 h with h|h
  ·rw [h];decide
  ·cases h
def Vp (t:volume_thing):mosaic_Message:=⟨⟨(Cp t).Name,0,(Cp t).Time⟩,(Cp t).Field.Vals⟩
theorem lkA (i:Int):∃r,lkM (radM S0) (nmA i)=some r:=by
 rcases Tu i with h|h<;>rw [h]
 ·exact ⟨_,rfl⟩
 ·exact ⟨_,rfl⟩
theorem A5t {t:volume_thing} (h:vT t):okM S0 (Vp t):=by
 obtain ⟨i,tm,v,⟨h1,h2,h3⟩,rfl⟩:=h;refine ⟨⟨lkA i,⟨by show (0:Int)<=0;omega,by show (0:Int)<=256;omega⟩,⟨h2.1,by show tm<=4294967296;omega⟩⟩,?_,λs hs=>?_⟩
 ·show (Uc v).length=_;rw [P0,Wc]
 ·have:=Xx h3 s hs;omega
structure ON (F:Nat) (N:mosaic_Node) (B:Nat):Prop where
 sn:SN F S0 N
 hz:N.horizon=0
 tot:tot N.kept<=B
theorem ON.mk_eq (N:mosaic_Node):(mosaic_Node.mk (mosaic_Spec.mk (api_Grid.mk N.spec.Grid.X N.spec.Grid.Y N.spec.Grid.Size N.spec.Grid.Wide N.spec.Grid.High) (api_Span.mk N.spec.Earth.Lo N.spec.Earth.Hi) N.spec.Radars N.spec.Age) N.radars N.horizon N.kept N.count N.looks)=N:=rfl
theorem A9a {F:Nat} {N:mosaic_Node} {B:Nat} {m:mosaic_Message} (hF:1000<=F) (h:ON F N B) (hm:okM S0 m) (hB:B<=200) :
  ∃(b:Bool) (N':mosaic_Node),Bj F N m=some (b,0,N')/\ON F N' (B+1)/\∀x,has N' x↔has N x\/x=m:=by
 have ht:=h.tot;obtain ⟨b,N',e1,e2,e3,e4,e5⟩:=A6x hF (Zj F).gs h.sn hm (by omega) (by rw [h.hz];exact hm.key.2.2.1);exact ⟨b,N',e1,⟨e2,e3.trans h.hz,by omega⟩,e5⟩
def OL (F:Nat) (y:List volume_Item×Int×Int) (n:Nat) (N:mosaic_Node) (i:Int):Option (Bool×mosaic_Node):=Fo F y n N.spec.Grid.X N.spec.Grid.Y N.horizon N.count N.spec.Grid.Size N.spec.Grid.Wide N.spec.Grid.High N.spec.Earth.Lo N.spec.Earth.Hi N.spec.Radars N.spec.Age N.radars N.kept N.looks i
theorem A4e {F:Nat} (hF:1000<=F) {ts:List volume_thing} (hv:∀t∈ts,vT t) (hl:ts.length<=50) {y:List volume_Item×Int×Int} (hy:y.1=ts.map Cp):∀(n i B:Nat) (N:mosaic_Node),ts.length-i<n->i<=ts.length->ON F N B->B+(ts.length-i)<=200 ->
  ∃N',OL F y n N (i:Int)=some (true,N')/\ON F N' (B+(ts.length-i))/\∀x,has N' x↔has N x\/x∈(ts.drop i).map Vp:=by
 intro n
 induction n with
 | zero=>intro i B N h;omega
 | succ n ih =>
  intro i B N hn hi hN hB;unfold OL;rw [Fo];unfold Kh;rw [hy,List.length_map,ON.mk_eq]
  by_cases hc:i<ts.length
  ·have hg:(ts.map Cp)[i]? = some (Cp ts[i]):=by rw [List.getElem?_map,List.getElem?_eq_getElem hc];rfl
   obtain ⟨b,N',e1,e2,e3⟩:=A9a (m:=Vp ts[i]) hF hN (A5t (hv _ (List.getElem_mem hc))) (by omega);rw [Bx (dT (by omega)),Ej i _ rfl hg,Ej i _ rfl hg,Ej i _ rfl hg];rw [show Bj F N (mosaic_Message.mk (mosaic_Key.mk (Cp ts[i]).Name 0 (Cp ts[i]).Time) (Cp ts[i]).Field.Vals)=_ from e1,sbd,Aq (c:=((0:Int) != 0)) rfl,ckb (by omega)];obtain ⟨N2,q1,q2,q3⟩:=ih (i+1) (B+1) N' (by omega) (by omega) e2 (by omega);refine ⟨N2,q1,⟨q2.sn,q2.hz,by have:=q2.tot;omega⟩,λx=>?_⟩;rw [q3,e3,List.drop_eq_getElem_cons hc,List.map_cons,List.mem_cons,or_assoc]
  ·rw [Aq (dF (by omega)),List.drop_of_length_le (by omega)];refine ⟨N,rfl,⟨hN.sn,hN.hz,by have:=hN.tot;omega⟩,λx=>?_⟩;simp
theorem Tw {F:Nat} (hF:200000<=F) {ts:List volume_thing} (hv:∀t∈ts,vT t) (hl:ts.length<=50) {N:mosaic_Node} {B:Nat} (hN:ON F N B) (hB:B<=150) :
  ∃N',Ci F N (RVF1++Bf ts)=some (true,N')/\ON F N' (B+ts.length)/\∀x,has N' x↔has N x\/x∈ts.map Vp:=by
 have:=A4e (F:=F) (by omega) hv hl (y:=(ts.map Cp,((4+(Bf ts).length:Nat):Int),0)) rfl F 0 B N (by omega) (Nat.zero_le _) hN (by omega);rw [List.drop_zero,Nat.sub_zero] at this;obtain ⟨N',h1,h2,h3⟩:=this;refine ⟨N',?_,h2,h3⟩;rw [Ci,A4k hF hv hl,sbd,Aq (c:=((0:Int) != 0)) rfl];exact h1
theorem B78 {F:Nat} (hF:100<=F):Er F S0=some (Um S0,0):=A7j hF (Zj F)
theorem Ve {F:Nat}:ON F (Um S0) 0:=⟨⟨A6g,λk=>.nil,λk v hv=>by cases hv⟩,rfl,Nat.le_refl _⟩
theorem Tp {x:mosaic_Message}:¬has (Um S0) x:=λh=>by cases h
theorem ON.same {F:Nat} {N N':mosaic_Node} {B C:Nat} (h:ON F N B) (h':ON F N' C) (e:∀x,has N x↔has N' x):Same F S0 N N':=⟨h.sn,h'.sn,h.hz.trans h'.hz.symm,e⟩
theorem ON.lk {F:Nat} {N:mosaic_Node} {B:Nat} (h:ON F N B) {L:List (mosaic_where×List api_Span)} (hL:LV F S0 L):ON F ⟨N.spec,N.radars,N.horizon,N.kept,N.count,L⟩ B:=⟨h.sn.lk hL,h.hz,h.tot⟩
theorem A9u {F:Nat} {N:mosaic_Node} {B:Nat} (hF:50000<=F) (h:ON F N B) (hB:B<=100):Bl F N=some (G1 N++chB (chF 1 (G1 N))):=by
 have ht:=h.tot;have e:Go.Proofs.YtjfhcbjhjeklbaaGreat.tot N.kept*(70+20*pix S0)<=100*230:=Nat.mul_le_mul (by omega) (by rw [Wc];omega);exact B2u (Zj F).gs h.sn Xz (by omega) (by omega) (by omega) (by rw [h.hz];omega)
theorem B6n {F:Nat} {N N':mosaic_Node} {t:Int} {l:List Int} (hl:l.length<=1000000):∀(n i:Nat),i<=l.length->l.length-i<n->G8 F N N' t l l n (i:Int)=J5 F N N' t:=by
 intro n
 induction n with
 | zero=>intro i _ h;omega
 | succ n ih =>
  intro i hi hn;rw [G8,Ld]
  by_cases hc:i<l.length
  ·rw [Bx (dT (by omega)),Ej i l[i] rfl (List.getElem?_eq_getElem hc),Ej i l[i] rfl (List.getElem?_eq_getElem hc),Aq (by simp),ckb (by omega)];exact ih (i+1) hc (by omega)
  ·rw [Aq (dF (by omega))]
theorem B6m {y y':List mosaic_Pixel×Int×List (mosaic_where×List api_Span)} (h:y.1.length=8) (h':y'.1.length=8) (he:∀(p:Nat) (x x':mosaic_Pixel),y.1[p]? = some x->y'.1[p]? = some x'->x=x'):∀(n i:Nat),i<=8->8-i<n->G7 y y' n (i:Int)=some (true,y.2.2,y'.2.2):=by
 intro n
 induction n with
 | zero=>intro i _ h;omega
 | succ n ih =>
  intro i hi hn;rw [G7,Lc]
  by_cases hc:i<8
  ·obtain ⟨x,hx⟩:∃x,y.1[i]? = some x:=⟨_,List.getElem?_eq_getElem (by omega)⟩;obtain ⟨x',hx'⟩:∃x,y'.1[i]? = some x:=⟨_,List.getElem?_eq_getElem (by omega)⟩;have:=he i x x' hx hx';subst this;rw [Bx (dT (by omega)),Ej i x rfl hx,Ej i x rfl hx',B5o,dT rfl,Aq (by simp),ckb (by omega)];exact ih (i+1) hc (by omega)
  ·rw [Aq (dF (by omega))];rfl
theorem A8j {F:Nat} {N N':mosaic_Node} {B C:Nat} {t:Int} (hF:50000<=F) (h:ON F N B) (h':ON F N' C) (hB:B<=100) (hC:C<=100) (e:∀x,has N x↔has N' x) (ht:0<=t/\t<=119) :
  ∃L L',Eb F N N' t=some (true,L,L')/\LV F S0 L/\LV F S0 L':=by
 have hsm:=h.same h' e;have hb:=hsm.body;have h1:=h.tot;have hlen:=Wd h'.sn Xz;have hm:tot N'.kept*(70+20*pix S0)<=100*230:=Nat.mul_le_mul (by have:=h'.tot;omega) (by rw [Wc];omega);obtain ⟨o,o',L,L',m1,m2,m3,m4,m5,m6,m7⟩:=A8y (F:=F) (t:=t) (by omega) (Zj F).gs hsm (by omega) (by omega) (by rw [h.hz];omega);rw [Wc] at m5 m6;refine ⟨L,L',?_,m3,m4⟩;rw [Eb,A9u hF h hB,sbd,A9u hF h' hC,sbd,hb,Aq (by simp)];have hcl:(chB (chF 1 (G1 N'))).length=4:=rfl;have hll:(G1 N'++chB (chF 1 (G1 N'))).length=(G1 N').length+4:=by rw [List.length_append,hcl]
 refine (B6n (F:=F) (N:=N) (N':=N') (t:=t) (by omega) F 0 (Nat.zero_le _) (by omega)).trans ?_;rw [J5,m1,sbd,m2,sbd];rw [Aq (by
  show (bif (bif (bif ((0:Int) != 0) then true else ((0:Int) != 0)) then true else ((o.length:Int) != 8)) then true else ((o'.length:Int) != 8))=false;rw [m5,m6];rfl)]
 exact B6m m5 m6 m7 F 0 (by omega) (by omega)
end Go.Proofs.YtjfhcbjhjeklbaaGreat
namespace Go.Proofs.YtjfhcbjhjeklbaaGreat
open Go Go.RowKit Go.Eng
set_option maxRecDepth 10000
set_option linter.unusedVariables false
set_option linter.unusedSimpArgs false
def Sw (p:Int) (i:Nat):Bool:=A1v .u32 (p.fdiv (2 ^ min ((i:Int).tmod 32).toNat IntKind.u32.bits)) 1==1
theorem A0v {b:Nat} (h:b<4294967296):(BitVec.ofInt IntKind.u32.bits (b:Int)).toNat=b:=by
 show (BitVec.ofInt 32 (b:Int)).toNat=b;rw [BitVec.ofInt_natCast,BitVec.toNat_ofNat];omega
theorem A0s {a i:Nat} (h:a<4294967296):Sw (a:Int) i=a.testBit (i%32):=by
 have hk:min ((i:Int).tmod 32).toNat IntKind.u32.bits=i%32:=by
  show min ((i:Int).tmod 32).toNat 32=_;rw [show ((i:Int).tmod 32)=((i%32:Nat):Int) from rfl,Int.toNat_natCast];omega
 have hd:(a:Int).fdiv (2 ^ (i%32))=((a/2 ^ (i%32):Nat):Int):=by
  rw [Int.fdiv_eq_ediv_of_nonneg _ (Int.pow_nonneg (by decide)),Int.natCast_ediv,Int.natCast_pow];rfl
 have hlt:a/2 ^ (i%32)<4294967296:=Nat.lt_of_le_of_lt (Nat.div_le_self _ _) h;rw [Nat.testBit_eq_decide_div_mod_eq];unfold Sw A1v;rw [hk,hd,BitVec.toNat_and,A0v hlt,show (BitVec.ofInt IntKind.u32.bits 1).toNat=1 from A0v (b:=1) (by decide),Nat.and_one_is_mod];generalize a/2 ^ (i%32)=b at *;rw [IntKind.wrap_u32]
 by_cases hb:b%2=1
 ·rw [dT hb,beq_iff_eq];omega
 ·rw [dF hb,beq_eq_false_iff_ne];omega
theorem B3z {a b:Nat} (h:a<4294967296) (h':b<4294967296):orK .u32 (a:Int) (b:Int)=((a ||| b:Nat):Int):=by
 unfold orK;have hl:a ||| b<4294967296:=Nat.or_lt_two_pow (n:=32) h h';rw [BitVec.toNat_or,A0v h,A0v h',IntKind.wrap_u32];omega
theorem A3s {a b:Int} (h:0<=a/\a<=4294967295) (h':0<=b/\b<=4294967295) (i:Nat):Sw (orK .u32 a b) i=(Sw a i||Sw b i):=by
 obtain ⟨x,rfl⟩:∃x:Nat,a=x:=⟨a.toNat,by omega⟩;obtain ⟨y,rfl⟩:∃y:Nat,b=y:=⟨b.toNat,by omega⟩;have hl:x ||| y<4294967296:=Nat.or_lt_two_pow (n:=32) (by omega) (by omega);rw [B3z (by omega) (by omega),A0s hl,A0s (by omega),A0s (by omega),Nat.testBit_or]
def thM (m:Int×Int×Int):volume_thing:=thA (m.1.tmod 2) (m.2.1.tmod 60) (m.2.2.tmod 15)
def A1f (m:Int×Int×Int):Prop:=(0<=m.1/\m.1<=255)/\(0<=m.2.1/\m.2.1<=255)/\(0<=m.2.2/\m.2.2<=255)
theorem Z5 {m:Int×Int×Int} (h:A1f m):vT (thM m):=by
 obtain ⟨h1,h2,h3⟩:=h;have a1:=Int.tmod_nonneg 2 h1.1;have a2:=Int.tmod_lt_of_pos m.1 (by omega:(0:Int)<2);have b1:=Int.tmod_nonneg 60 h2.1;have b2:=Int.tmod_lt_of_pos m.2.1 (by omega:(0:Int)<60);have c1:=Int.tmod_nonneg 15 h3.1;have c2:=Int.tmod_lt_of_pos m.2.2 (by omega:(0:Int)<15);exact ⟨_,_,_,⟨by omega,by omega,by omega⟩,rfl⟩
theorem A8f {F:Nat} (hF:20<=F) {m:Int×Int×Int} (h:A1f m):Hh F (m.1,m.2.1,m.2.2)=some (Cp (thM m)):=A8g hF h.1 h.2.1 h.2.2
def sel (p:Int):Nat->List (Int×Int×Int)->List volume_thing
 | _,[]=>[]
 | i,m::l=>if Sw p i=true then thM m::sel p (i+1) l else sel p (i+1) l
theorem A1m (p:Int):∀(l:List (Int×Int×Int)) (i:Nat),(sel p i l).length<=l.length
 | [],i=>Nat.le_refl _
 | m::l,i=>by
  have:=A1m p l (i+1);rw [sel]
  split<;>simp<;>omega
theorem Xw {p:Int} {x:volume_thing}:∀(l:List (Int×Int×Int)) (i:Nat),x∈sel p i l↔∃j m,l[j]? = some m/\Sw p (i+j)=true/\x=thM m
 | [],i=>by
  rw [sel];exact ⟨λh=>by (cases h),λ⟨j,m,h,_⟩=>by simp at h⟩
 | m::l,i=>by
  have ih:=Xw (p:=p) (x:=x) l (i+1);have key:(∃j n,(m::l)[j]? = some n/\Sw p (i+j)=true/\x=thM n)↔(Sw p i=true/\x=thM m)\/x∈sel p (i+1) l:=by
   rw [ih];constructor
   ·rintro ⟨j,n,h1,h2,h3⟩
    cases j with
    | zero=>simp at h1;subst h1;exact .inl ⟨h2,h3⟩
    | succ j=>exact .inr ⟨j,n,by simpa using h1,by rw [show i+1+j=i+(j+1) by omega];exact h2,h3⟩
   ·rintro (⟨h1,h2⟩|⟨j,n,h1,h2,h3⟩)
    ·exact ⟨0,m,rfl,h1,h2⟩
    ·exact ⟨j+1,n,by simpa using h1,by rw [show i+(j+1)=i+1+j by omega];exact h2,h3⟩
  rw [key,sel]
  split
  ·rename_i h;rw [List.mem_cons];simp [h]
  ·rename_i h;simp [h]
theorem A9q {p:Int} {l:List (Int×Int×Int)} (h:∀m∈l,A1f m) {i:Nat}:∀t∈sel p i l,vT t:=λt ht=>by
 obtain ⟨j,m,h1,_,rfl⟩:=(Xw l i).1 ht;exact Z5 (h m (List.mem_of_getElem? h1))
theorem B58 {p:Int} {i:Nat} {α:Type} {f:Int->Option α}:((J9 (i:Int) 32).bind λx=>(A78 .u32 p x).bind f)=f (p.fdiv (2 ^ min ((i:Int).tmod 32).toNat IntKind.u32.bits)):=by
 rw [Hj (Xj (by decide)),A78,if_pos (by rw [show ((i:Int).tmod 32)=((i%32:Nat):Int) from rfl];omega),sbd]
theorem A6k {F:Nat} (hF:200000<=F) {x:top_Filed} (hm:∀m∈x.Messages,A1f m) (hl:x.Messages.length<=24) (p:Int):∀(n i:Nat) (acc:List volume_thing),x.Messages.length-i<n->i<=x.Messages.length->(∀t∈acc,vT t)->acc.length<=i ->
  G5 F x p n (acc.map Cp) (i:Int)=some (RVF1++Bf (acc++sel p i (x.Messages.drop i)),0):=by
 intro n
 induction n with
 | zero=>intro i acc h;omega
 | succ n ih =>
  intro i acc hn hi ha hal;rw [G5,L7]
  by_cases hc:i<x.Messages.length
  ·have hd:=List.drop_eq_getElem_cons hc;have hmm:=hm _ (List.getElem_mem hc);rw [Bx (dT (by omega)),B58,hd,sel,show (A1v .u32 (p.fdiv (2 ^ min ((i:Int).tmod 32).toNat IntKind.u32.bits)) 1==1)=Sw p i from rfl]
   by_cases hb:Sw p i=true
   ·have ih:=ih (i+1) (acc++[thM x.Messages[i]]) (by omega) (by omega) (λt ht=>by
     rcases List.mem_append.1 ht with h|h
     ·exact ha t h
     ·rw [List.mem_singleton.1 h];exact Z5 hmm) (by rw [List.length_append,List.length_singleton];omega)
    rw [if_pos hb,Bx hb,Ej i x.Messages[i] rfl (List.getElem?_eq_getElem hc),A8f (by omega) hmm,sbd,Me (by rw [List.length_map,List.length_singleton];omega) (by decide),G4,ckb (by omega)];rw [List.map_append,List.append_assoc] at ih;exact ih
   ·rw [if_neg hb,Aq (by simpa using hb),G4,ckb (by omega)];exact ih (i+1) acc (by omega) (by omega) ha (by omega)
  ·rw [Aq (dF (by omega)),List.drop_of_length_le (by omega),sel,List.append_nil,L8,B0b hF ha (by omega),sbd]
theorem A11 {F:Nat} (hF:200000<=F) {x:top_Filed} (hm:∀m∈x.Messages,A1f m) (hl:x.Messages.length<=24) (p:Int):Ea F x p=some (RVF1++Bf (sel p 0 x.Messages),0):=by
 have:=A6k hF hm hl p F 0 [] (by omega) (Nat.zero_le _) (λt ht=>by cases ht) (Nat.le_refl _)
 rw [List.drop_zero] at this;exact this
end Go.Proofs.YtjfhcbjhjeklbaaGreat
namespace Go.Proofs.YtjfhcbjhjeklbaaGreat
open Go Go.RowKit Go.Eng
set_option maxRecDepth 10000
set_option linter.unusedVariables false
set_option linter.unusedSimpArgs false
abbrev exF:top_Filed:=⟨[(0,7,4),(1,8,9)],1,2,[],0⟩
def exR (F:Nat) (y12:List Int×Int):Option Bool :=
 (Er F (mosaic_Spec.mk (api_Grid.mk top_filedSpec.Grid.X top_filedSpec.Grid.Y top_filedSpec.Grid.Size top_filedSpec.Grid.Wide top_filedSpec.Grid.High) (api_Span.mk top_filedSpec.Earth.Lo top_filedSpec.Earth.Hi) top_filedSpec.Radars top_filedSpec.Age)).bind λy21 =>
 bif (bif (bif (bif ((0:Int) != 0) then true else ((0:Int) != 0)) then true else (y12.2 != 0)) then true else (y21.2 != 0)) then (some false) else ((Ci F (mosaic_Node.mk (mosaic_Spec.mk (api_Grid.mk y21.1.spec.Grid.X y21.1.spec.Grid.Y y21.1.spec.Grid.Size y21.1.spec.Grid.Wide y21.1.spec.Grid.High) (api_Span.mk y21.1.spec.Earth.Lo y21.1.spec.Earth.Hi) y21.1.spec.Radars y21.1.spec.Age) y21.1.radars y21.1.horizon y21.1.kept y21.1.count y21.1.looks) y12.1).bind λy41 =>
 bif (!y41.1) then (some false) else ((D6 F (mosaic_Node.mk (mosaic_Spec.mk (api_Grid.mk y41.2.spec.Grid.X y41.2.spec.Grid.Y y41.2.spec.Grid.Size y41.2.spec.Grid.Wide y41.2.spec.Grid.High) (api_Span.mk y41.2.spec.Earth.Lo y41.2.spec.Earth.Hi) y41.2.spec.Radars y41.2.spec.Age) y41.2.radars y41.2.horizon y41.2.kept y41.2.count y41.2.looks) 20).bind λy52 =>
 (gd (((bif (y52.2.1==0) then ((y52.1.length:Int)==8) else false)==true&&true)) (Cj y52.1 0) default).bind λu61 =>
 (gd (((bif (bif (y52.2.1==0) then ((y52.1.length:Int)==8) else false) then (((u61.Value_.Lo:Int)==4)&&(((u61.Value_.Hi:Int)==5)&&true)) else false)==true&&true)) (Cj y52.1 0) default).bind λu62 =>
 (gd (((bif (bif (bif (y52.2.1==0) then ((y52.1.length:Int)==8) else false) then (((u61.Value_.Lo:Int)==4)&&(((u61.Value_.Hi:Int)==5)&&true)) else false) then (sEq u62.Key.Name (⟨#[97]⟩:ByteArray)) else false)==true&&true)) (Cj y52.1 3) default).bind λu63 =>
 (gd (((bif (bif (bif (bif (y52.2.1==0) then ((y52.1.length:Int)==8) else false) then (((u61.Value_.Lo:Int)==4)&&(((u61.Value_.Hi:Int)==5)&&true)) else false) then (sEq u62.Key.Name (⟨#[97]⟩:ByteArray)) else false) then (sEq u63.Key.Name (⟨#[98]⟩:ByteArray)) else false)==true&&true)) (Cj y52.1 3) default).bind λu64 =>
 some (bif (bif (bif (bif (bif (y52.2.1==0) then ((y52.1.length:Int)==8) else false) then (((u61.Value_.Lo:Int)==4)&&(((u61.Value_.Hi:Int)==5)&&true)) else false) then (sEq u62.Key.Name (⟨#[97]⟩:ByteArray)) else false) then (sEq u63.Key.Name (⟨#[98]⟩:ByteArray)) else false) then (((u64.Value_.Lo:Int)==7)&&(((u64.Value_.Hi:Int)==7)&&true)) else false)))
theorem A6i:((Ea 300000 exF 3).bind λy=>exR 300000 y)=some true:=by kernel_rfl
theorem B39:Pr [thM (0,7,4),thM (1,8,9)]=[thM (0,7,4),thM (1,8,9)]:=by
 have h:Dk (en (thM (0,7,4))) (en (thM (1,8,9)))<0:=by
  unfold Dk;rw [if_neg (by decide)];decide
 show U3 (thM (1,8,9)) [thM (0,7,4)]=_;rw [U3,if_pos h];rfl
theorem A61:Ge 300000=some true:=by
 have hm:∀m∈exF.Messages,A1f m:=by
  intro m h;have h:m∈[((0:Int),(7:Int),(4:Int)),(1,8,9)]:=h;rcases List.mem_cons.1 h with rfl|h
  ·exact ⟨by decide,by decide,by decide⟩
  ·rw [List.mem_singleton.1 h];exact ⟨by decide,by decide,by decide⟩
 have f (p:Int):=A11 (F:=300000) (by decide) hm (by decide) p;have s1:sel 1 0 exF.Messages=[thM (0,7,4)]:=by rw [sel,if_pos (by decide),sel,if_neg (by decide),sel]
 have s2:sel 2 0 exF.Messages=[thM (1,8,9)]:=by rw [sel,if_neg (by decide),sel,if_pos (by decide),sel]
 have s3:sel 3 0 exF.Messages=[thM (0,7,4),thM (1,8,9)]:=by rw [sel,if_pos (by decide),sel,if_pos (by decide),sel]
 have f1:=f 1;have f2:=f 2;have f3:=f 3;rw [s1] at f1;rw [s2] at f2;rw [s3] at f3;have hk:=A6i;rw [f3,sbd] at hk;have v1:∀t∈[thM (0,7,4)],vT t:=λt ht=>by rw [List.mem_singleton.1 ht];exact Z5 (hm _ (by decide))
 have v2:∀t∈[thM (1,8,9)],vT t:=λt ht=>by rw [List.mem_singleton.1 ht];exact Z5 (hm _ (by decide))
 have hj:=Xu (F:=300000) (by decide) v1 v2 (by decide) (by decide);rw [show [thM (0,7,4)]++[thM (1,8,9)]=[thM (0,7,4),thM (1,8,9)] from rfl,B39] at hj;rw [Ge];rw [show Ea 300000 _ 1=_ from f1,sbd,show Ea 300000 _ 2=_ from f2,sbd,hj,sbd];exact hk
abbrev YF:=List Int×Int
abbrev YS:=Bool×List (mosaic_where×List api_Span)×List (mosaic_where×List api_Span)
def TL (F:Nat) (x:top_Filed) (a b:YF) (c:Bool×mosaic_Node) (d:YS) (n:Nat) (N:mosaic_Node) (k:Int):Option Bool:=Ek F x a b c d n N.spec.Grid.X N.spec.Grid.Y N.horizon N.count N.spec.Grid.Size N.spec.Grid.Wide N.spec.Grid.High N.spec.Earth.Lo N.spec.Earth.Hi N.spec.Radars N.spec.Age N.radars N.kept N.looks k
def TK (F:Nat) (x:top_Filed) (a b:YF) (c:Bool×mosaic_Node) (d:YS) (N:mosaic_Node):Option Bool:=Jw F x a b c d N.spec.Grid.X N.spec.Grid.Y N.horizon N.count N.spec.Grid.Size N.spec.Grid.Wide N.spec.Grid.High N.spec.Earth.Lo N.spec.Earth.Hi N.spec.Radars N.spec.Age N.radars N.kept N.looks
theorem B3a {F:Nat} (hF:300000<=F) (hw:Ge F=some true) {x:top_Filed} (hT:0<=x.Time/\x.Time<=65535) {cs:List volume_thing} (hv:∀t∈cs,vT t) (hn:cs.length<=48) (hcan:∀l,(∀t∈l,vT t)->(∀t,t∈l↔t∈cs)->Pr l=cs) {N1 N4:mosaic_Node} (h1:ON F N1 48) (h4:ON F N4 48) (e1:∀x,has N1 x↔x∈cs.map Vp) (e4:∀x,has N4 x↔x∈cs.map Vp) {L1 L2:List (mosaic_where×List api_Span)} (hL:LV F S0 L1) :
  TK F x (RVF1++Bf cs,0) (RVF1++Bf cs,0) (true,N1) (true,L1,L2) N4=some true:=by
 have t0:=Int.tmod_nonneg 120 hT.1;have t1:=Int.tmod_lt_of_pos x.Time (by omega:(0:Int)<120);have hlen:(RVF1++Bf cs).length=4+(Bf cs).length:=by rw [List.length_append];rfl
 have hfl:=Vh hv;have h1L:=h1.lk hL;obtain ⟨A,B,q1,q2,q3⟩:=A8j (F:=F) (t:=x.Time.tmod 120) (by omega) h1L h4 (by omega) (by omega) (λx=>(e1 x).trans (e4 x).symm) (by omega);unfold TK;rw [Jw,Hj (ckJ (by omega)),Hj (Xj (by decide))];rw [show Eb F (mosaic_Node.mk (mosaic_Spec.mk (api_Grid.mk (true,N1).2.spec.Grid.X (true,N1).2.spec.Grid.Y (true,N1).2.spec.Grid.Size (true,N1).2.spec.Grid.Wide (true,N1).2.spec.Grid.High) (api_Span.mk (true,N1).2.spec.Earth.Lo (true,N1).2.spec.Earth.Hi) (true,N1).2.spec.Radars (true,N1).2.spec.Age) (true,N1).2.radars (true,N1).2.horizon (true,N1).2.kept (true,N1).2.count (true,L1,L2).2.1) (mosaic_Node.mk (mosaic_Spec.mk (api_Grid.mk N4.spec.Grid.X N4.spec.Grid.Y N4.spec.Grid.Size N4.spec.Grid.Wide N4.spec.Grid.High) (api_Span.mk N4.spec.Earth.Lo N4.spec.Earth.Hi) N4.spec.Radars N4.spec.Age) N4.radars N4.horizon N4.kept N4.count N4.looks) (x.Time.tmod 120)=_ from q1,sbd,Aq (c:=(!true)) rfl,Hj (ckJ (by omega))];have hd:(((RVF1++Bf cs).length:Nat):Int)-3=((1+(Bf cs).length:Nat):Int):=by rw [hlen];omega
 rw [show (((RVF1++Bf cs,(0:Int)).1.length:Nat):Int)-3=_ from hd,Hj (ckJ (by omega)),Hj (Xj (by omega))];obtain ⟨k,hk⟩:∃k:Nat,x.Time.tmod ((1+(Bf cs).length:Nat):Int)=(k:Int):=⟨(x.Time.tmod ((1+(Bf cs).length:Nat):Int)).toNat,by have:=Int.tmod_nonneg ((1+(Bf cs).length:Nat):Int) hT.1;omega⟩;have hk2:=Int.tmod_lt_of_pos x.Time (show (0:Int)<((1+(Bf cs).length:Nat):Int) by omega);rw [hk] at hk2;have hcut:(RVF1++Bf cs).take (4+k)=RVF1++(Bf cs).take k:=by
  rw [show 4+k=RVF1.length+k from rfl,List.take_length_add_append]
 obtain ⟨n,q,c1,c2,c3⟩:=A88 (F:=F) (by omega) cs hv k (by omega);have hjl:(Dd ((cs.take n).map Ba++q)).length<=150000:=by rw [←c2,List.length_take];omega
 have hvn:∀t∈cs.take n,vT t:=λt ht=>hv t (List.mem_of_mem_take ht);have hnn:(cs.take n).length<=50:=by rw [List.length_take];omega
 have rq:=A9m (F:=F) (by omega) hvn hnn c3 hjl;have sq:=B4j (F:=F) (by omega) hvn hnn c3 hjl;have hsplit:Bf cs=Bf (cs.take n)++Bf (cs.drop n):=by rw [←A6j,List.take_append_drop]
 have hfn:(Bf (cs.take n)).length<=(Bf cs).length:=by rw [hsplit,List.length_append];omega
 have hgood:(RVF1++Bf cs).take (4+(Bf (cs.take n)).length)=RVF1++Bf (cs.take n):=by
  rw [show 4+(Bf (cs.take n)).length=RVF1.length+(Bf (cs.take n)).length from rfl,List.take_length_add_append]
  conv=>lhs;rw [hsplit]
  rw [List.take_left]
 rw [hk,Hj (ckJ (by omega)),Vc (4+k) rfl (by omega) (by show 4+k<=(RVF1++Bf cs).length;omega),hcut,c2,rq,sbd];rw [Aq (by
  rcases c3 with rfl|⟨p,rfl,_⟩<;>rfl),Vc (4+(Bf (cs.take n)).length) rfl rfl (by show 4+(Bf (cs.take n)).length<=(RVF1++Bf cs).length;omega),hgood]
 have hjo:=Xu (F:=F) (by omega) hvn hv hnn (show cs.length<=50 by omega);rw [hcan (cs.take n++cs) (λt ht=>(List.mem_append.1 ht).elim (hvn t) (hv t)) (λt=>by
  rw [List.mem_append];exact ⟨λh=>h.elim List.mem_of_mem_take id,.inr⟩)] at hjo
 rw [hjo,sbd,Vc (4+k) rfl (by omega) (by show 4+k<=(RVF1++Bf cs).length;omega),hcut,c2,sq,sbd];have hql:q.length<=1:=by rcases c3 with rfl|⟨p,rfl,_⟩<;>simp
 rw [Aq (by
  show (bif (bif (bif (bif ((0:Int) != 0) then true else ((0:Int) != 0)) then true else ((((cs.take n).map Cp).length:Nat):Int) != ((((cs.take n).map Cp).length:Nat):Int)) then true else (decide ((q.length:Int)>1))) then true else (((RVF1++Bf cs).length:Nat):Int) != (((RVF1++Bf cs).length:Nat):Int))=false;rw [dF (by omega),bne_self_eq_false,bne_self_eq_false,bne_self_eq_false];rfl)]
 have h1A:=h1.lk q2;obtain ⟨C,r1,r2⟩:=B1g (F:=F) hF (Zj F) Xz (by rw [Wc];omega) h1A.sn (by have:=h1A.tot;omega) (by rw [h1A.hz];omega) (λm hm=>by rw [h1A.hz];exact (h1A.sn.okm hm).key.2.2.1);have hC:ON F C 48:=⟨r2.b,r2.hz.symm.trans h1A.hz,by rw [←r2.tot];exact h1A.tot⟩;obtain ⟨N5,o1,o2,o3⟩:=Tw (F:=F) (by omega) hv (by omega) hC (by omega);have e5:∀x,has N1 x↔has N5 x:=λx=>by
  rw [o3,e1];have:has C x↔has N1 x:=(r2.hs x).symm;rw [this,e1];simp
 obtain ⟨A2,B2,s1,s2,s3⟩:=A8j (F:=F) (t:=x.Time.tmod 120) (by omega) h1A o2 (by omega) (by omega) e5 (by omega);rw [show Bl F _=_ from A9u (F:=F) (by omega) h1A (by omega),sbd];rw [show Hw F _ _=_ from r1,sbd,Bx (c:=((0:Int)==0)) rfl];rw [show Ci F _ _=_ from o1,sbd,Bx rfl,Hj (ckJ (by omega)),Hj (Xj (by decide))];rw [show Eb F _ _ _=_ from s1,sbd,gdT (by rfl),hw,sbd];rfl
end Go.Proofs.YtjfhcbjhjeklbaaGreat
namespace Go.Proofs.YtjfhcbjhjeklbaaGreat
open Go Go.RowKit Go.Eng
set_option maxRecDepth 10000
set_option linter.unusedVariables false
set_option linter.unusedSimpArgs false
abbrev K2T:=Int->Int->Int->Int->Int->Int->Int->Int->Int->List mosaic_Radar->Int->List (ByteArray×mosaic_Radar)->List (mosaic_Key×List (List api_Span))->List (mosaic_where×List api_Span)->Int->Option Bool
def atN (k2:K2T) (N:mosaic_Node) (k:Int):Option Bool:=k2 N.spec.Grid.X N.spec.Grid.Y N.horizon N.count N.spec.Grid.Size N.spec.Grid.Wide N.spec.Grid.High N.spec.Earth.Lo N.spec.Earth.Hi N.spec.Radars N.spec.Age N.radars N.kept N.looks k
theorem B6w {F:Nat} (hF:1000<=F) {x:top_Filed} (hm:∀m∈x.Messages,A1f m) {N:mosaic_Node} {B:Nat} (hN:ON F N B) (hB:B<=150) {i:Nat} (hi:i<x.Messages.length) {k:Nat} (hk:k<=100) (k2:K2T) :
  ∃N',Fq F x N.spec.Grid.X N.spec.Grid.Y N.horizon N.count N.spec.Grid.Size N.spec.Grid.Wide N.spec.Grid.High N.spec.Earth.Lo N.spec.Earth.Hi N.spec.Radars N.spec.Age N.radars N.kept N.looks (k:Int) k2 (i:Int)=atN k2 N' ((k+1:Nat):Int)/\ON F N' (B+1) /\
   ∀z,has N' z↔has N z\/(Sw (orK .u32 x.First x.Second) i=true/\z=Vp (thM x.Messages[i])):=by
 have hmm:=hm _ (List.getElem_mem hi);rw [Fq,B58,show (A1v .u32 ((orK .u32 x.First x.Second).fdiv (2 ^ min ((i:Int).tmod 32).toNat IntKind.u32.bits)) 1==1)=Sw (orK .u32 x.First x.Second) i from rfl]
 cases hb:Sw (orK .u32 x.First x.Second) i with
 | true =>
  obtain ⟨b,N',e1,e2,e3⟩:=A9a (m:=Vp (thM x.Messages[i])) hF hN (A5t (Z5 hmm)) (by omega);refine ⟨N',?_,e2,λz=>by rw [e3];simp⟩;rw [Bx rfl,Ej i x.Messages[i] rfl (List.getElem?_eq_getElem hi),A8f (by omega) hmm,sbd];rw [ON.mk_eq,show Bj F N (mosaic_Message.mk (mosaic_Key.mk (Cp (thM x.Messages[i])).Name 0 (Cp (thM x.Messages[i])).Time) (Cp (thM x.Messages[i])).Field.Vals)=_ from e1,sbd,Aq (c:=((0:Int) != 0)) rfl,Gv,ckb (by omega)];rfl
 | false =>
  refine ⟨N,?_,⟨hN.sn,hN.hz,by have:=hN.tot;omega⟩,λz=>by simp⟩;rw [Aq rfl,Gv,ckb (by omega)];rfl
theorem B5q {F:Nat} (hF:1000<=F) {x:top_Filed} (hm:∀m∈x.Messages,A1f m) (hl:x.Messages.length<=24) (hO:∀y∈x.Order,0<=y/\y<=255) {cs:List volume_thing} (hcs:∀t,t∈cs↔∃j m,x.Messages[j]? = some m/\Sw (orK .u32 x.First x.Second) j=true/\t=thM m) (a b:YF) (c:Bool×mosaic_Node) (d:YS) :
  ∀(n k B:Nat) (N:mosaic_Node),2*x.Messages.length-k<n->k<=2*x.Messages.length->ON F N B->B+(2*x.Messages.length-k)<=48->(∀z,has N z->z∈cs.map Vp)->(∀j m,x.Messages.length+j<k->x.Messages[j]? = some m->Sw (orK .u32 x.First x.Second) j=true->has N (Vp (thM m))) ->
  ∃N',TL F x a b c d n N (k:Int)=TK F x a b c d N'/\ON F N' 48/\∀z,has N' z↔z∈cs.map Vp:=by
 intro n
 induction n with
 | zero=>intro k B N h;omega
 | succ n ih =>
  intro k B N hn hk hN hB hsub hall;unfold TL;rw [Ek,Lq,ckb (by omega)]
  by_cases hc:k<2*x.Messages.length
  ·have step:∀i,i<x.Messages.length->(x.Messages.length<=k->i=k-x.Messages.length) ->
    ∃N',Fq F x N.spec.Grid.X N.spec.Grid.Y N.horizon N.count N.spec.Grid.Size N.spec.Grid.Wide N.spec.Grid.High N.spec.Earth.Lo N.spec.Earth.Hi N.spec.Radars N.spec.Age N.radars N.kept N.looks (k:Int) (Ek F x a b c d n) (i:Int)=TK F x a b c d N'/\ON F N' 48/\∀z,has N' z↔z∈cs.map Vp:=by
    intro i hi hik;obtain ⟨N',s1,s2,s3⟩:=B6w hF hm hN (by omega) hi (k:=k) (by omega) (Ek F x a b c d n);obtain ⟨N2,q1,q2,q3⟩:=ih (k+1) (B+1) N' (by omega) (by omega) s2 (by omega) (λz hz=>by
     rcases (s3 z).1 hz with h|⟨h1,rfl⟩
     ·exact hsub z h
     ·exact List.mem_map_of_mem ((hcs _).2 ⟨i,_,List.getElem?_eq_getElem hi,h1,rfl⟩)) (λj m h1 h2 h3=>by
     rw [s3]
     by_cases hj:x.Messages.length+j<k
     ·exact .inl (hall j m hj h2 h3)
     ·have hji:i=j:=by have:=hik (by omega);omega
      subst hji;rw [List.getElem?_eq_getElem hi] at h2;obtain rfl:=Option.some.inj h2;exact .inr ⟨h3,rfl⟩)
    exact ⟨N2,s1.trans q1,q2,q3⟩
   rw [Bx (dT (by omega)),Hj (Xj (by omega))]
   by_cases ho:k<x.Messages.length/\0<x.Order.length
   ·obtain ⟨i,hi,h1,h2⟩:∃i:Nat,i<x.Order.length/\(k:Int).tmod (x.Order.length:Int)=(i:Int)/\x.Order[i]? = some (x.Order[k%x.Order.length]'(Nat.mod_lt _ ho.2)):=⟨k%x.Order.length,Nat.mod_lt _ ho.2,rfl,List.getElem?_eq_getElem _⟩;have hu:=hO _ (List.getElem_mem (l:=x.Order) (Nat.mod_lt k ho.2));generalize (x.Order[k%x.Order.length]'(Nat.mod_lt _ ho.2))=u at *;have hul:u.tmod (x.Messages.length:Int)=((u.toNat%x.Messages.length:Nat):Int):=by
     conv=>lhs;rw [show u=((u.toNat:Nat):Int) by omega]
     rfl
    rw [Bx (by rw [dT (show (k:Int)<(x.Messages.length:Int) by omega),dT (show (x.Order.length:Int)>0 by omega)];rfl),Hj (Xj (by omega)),h1,Ej i u rfl h2,Hj (ckJ (by omega)),Hj (Xj (by omega)),hul];exact step (u.toNat%x.Messages.length) (Nat.mod_lt _ (by omega)) (λh=>by omega)
   ·rw [Aq (by
     by_cases h1:k<x.Messages.length
     ·rw [dF (show ¬(x.Order.length:Int)>0 by omega)];cases decide ((k:Int)<(x.Messages.length:Int))<;>rfl
     ·rw [dF (show ¬(k:Int)<(x.Messages.length:Int) by omega)];rfl)]
    refine step (k%x.Messages.length) (Nat.mod_lt _ (by omega)) (λh=>?_);rw [Nat.mod_eq_sub_mod h,Nat.mod_eq_of_lt (by omega)]
  ·rw [Aq (dF (by omega))];refine ⟨N,rfl,⟨hN.sn,hN.hz,by have:=hN.tot;omega⟩,λz=>⟨hsub z,λhz=>?_⟩⟩;obtain ⟨t,ht,rfl⟩:=List.mem_map.1 hz;obtain ⟨j,m,h1,h2,rfl⟩:=(hcs t).1 ht;obtain ⟨hj,_⟩:=List.getElem?_eq_some_iff.1 h1;exact hall j m (by omega) h1 h2
theorem A1t (x:top_Filed) (hm:∀m∈x.Messages,A1f m) (h1:0<=x.First/\x.First<=4294967295) (h2:0<=x.Second/\x.Second<=4294967295) (hO:∀y∈x.Order,0<=y/\y<=255) (hT:0<=x.Time/\x.Time<=65535):Ml 300000 x=some true:=by
 have t0:=Int.tmod_nonneg 120 hT.1;have t1:=Int.tmod_lt_of_pos x.Time (by omega:(0:Int)<120);rw [Ml]
 by_cases hl:x.Messages.length<=24
 ·rw [Aq (dF (by omega))];obtain ⟨F,hF⟩:∃F,F=300000:=⟨_,rfl⟩;have hw:=A61;rw [←hF] at hw ⊢;have fa:=A11 (F:=F) (by omega) hm hl x.First;have fb:=A11 (F:=F) (by omega) hm hl x.Second;have va:∀t∈sel x.First 0 x.Messages,vT t:=A9q hm;have vb:∀t∈sel x.Second 0 x.Messages,vT t:=A9q hm;have la:=A1m x.First x.Messages 0;have lb:=A1m x.Second x.Messages 0;have ma:=λt=>Xw (p:=x.First) (x:=t) x.Messages 0;have mb:=λt=>Xw (p:=x.Second) (x:=t) x.Messages 0;generalize sel x.First 0 x.Messages=ta at *;generalize sel x.Second 0 x.Messages=tb at *;have vab:∀t∈ta++tb,vT t:=λt ht=>(List.mem_append.1 ht).elim (va t) (vb t);have vba:∀t∈tb++ta,vT t:=λt ht=>(List.mem_append.1 ht).elim (vb t) (va t);have jo1:=Xu (F:=F) (by omega) va vb (by omega) (by omega);have jo2:=Xu (F:=F) (by omega) vb va (by omega) (by omega);have hba:Pr (tb++ta)=Pr (ta++tb):=A56 vba vab λt=>by simp [or_comm]
  rw [hba] at jo2;have hcm:=λt=>A80 vab t;have hcl:=A22 (ta++tb);rw [List.length_append] at hcl;have hv:∀t∈Pr (ta++tb),vT t:=λt ht=>vab t (Ps ht);have hcan:∀l,(∀t∈l,vT t)->(∀t,t∈l↔t∈Pr (ta++tb))->Pr l=Pr (ta++tb):=λl hlv h=>A56 hlv vab λt=>(h t).trans (hcm t);generalize Pr (ta++tb)=cs at *;have hcs:∀t,t∈cs↔∃j m,x.Messages[j]? = some m/\Sw (orK .u32 x.First x.Second) j=true/\t=thM m:=λt=>by
   rw [hcm,List.mem_append,ma,mb];constructor
   ·rintro (⟨j,m,e1,e2,e3⟩|⟨j,m,e1,e2,e3⟩)<;>rw [Nat.zero_add] at e2
    ·exact ⟨j,m,e1,by rw [A3s h1 h2,e2];rfl,e3⟩
    ·exact ⟨j,m,e1,by rw [A3s h1 h2,e2,Bool.or_true],e3⟩
   ·rintro ⟨j,m,e1,e2,e3⟩;rw [A3s h1 h2,Bool.or_eq_true] at e2;rcases e2 with e2|e2
    ·exact .inl ⟨j,m,e1,by rw [Nat.zero_add];exact e2,e3⟩
    ·exact .inr ⟨j,m,e1,by rw [Nat.zero_add];exact e2,e3⟩
  have nw:=B78 (F:=F) (by omega);obtain ⟨N1,o1,p1,e1⟩:=Tw (F:=F) (by omega) hv (by omega) Ve (by omega);obtain ⟨N2,o2,p2,e2⟩:=Tw (F:=F) (by omega) va (by omega) Ve (by omega);obtain ⟨N3,o3,p3,e3⟩:=Tw (F:=F) (by omega) vb (by omega) Ve (by omega);have k2:=p2.tot;have k3:=p3.tot;obtain ⟨mc,M,g1,g2,g3,g4,g5⟩:=B3i (F:=F) (by omega) (Zj F) p2.sn p3.sn p2.hz p3.hz (by omega);have pM:ON F M 48:=⟨g2,g3,by omega⟩;have p1':ON F N1 48:=⟨p1.sn,p1.hz,by have:=p1.tot;omega⟩;have h1s:∀z,has N1 z↔z∈cs.map Vp:=λz=>by rw [e1];exact ⟨λh=>h.resolve_left Tp,.inr⟩
  have hMs:∀z,has M z↔z∈cs.map Vp:=λz=>by
   rw [g5,e2,e3];constructor
   ·rintro ((h|h)|(h|h))
    ·exact absurd h Tp
    ·obtain ⟨t,ht,rfl⟩:=List.mem_map.1 h;exact List.mem_map_of_mem ((hcm t).2 (List.mem_append_left _ ht))
    ·exact absurd h Tp
    ·obtain ⟨t,ht,rfl⟩:=List.mem_map.1 h;exact List.mem_map_of_mem ((hcm t).2 (List.mem_append_right _ ht))
   ·intro h;obtain ⟨t,ht,rfl⟩:=List.mem_map.1 h;rcases List.mem_append.1 ((hcm t).1 ht) with h|h
    ·exact .inl (.inr (List.mem_map_of_mem h))
    ·exact .inr (.inr (List.mem_map_of_mem h))
  obtain ⟨L1,L2,q1,q2,q3⟩:=A8j (F:=F) (t:=x.Time.tmod 120) (by omega) p1' pM (by omega) (by omega) (λz=>(h1s z).trans (hMs z).symm) (by omega);obtain ⟨N4,r1,r2,r3⟩:=B5q (F:=F) (by omega) hm hl hO hcs (RVF1++Bf cs,0) (RVF1++Bf cs,0) (true,N1) (true,L1,L2) F 0 0 (Um S0) (by omega) (by omega) Ve (by omega) (λz h=>absurd h Tp) (λj m h=>by omega);have hfin:=B3a (F:=F) (by omega) hw hT hv (by omega) hcan p1' r2 h1s r3 (L2:=L2) q2;rw [fa,sbd,fb,sbd,jo1,sbd,jo2,sbd,Aq (by rfl)];rw [show Er F _=_ from nw,sbd,sbd,sbd,Aq (by rfl)];rw [show Ci F _ (RVF1++Bf cs)=_ from o1,sbd,Aq (by rfl),show Ci F _ (RVF1++Bf ta)=_ from o2,sbd,Aq (by rfl),show Ci F _ (RVF1++Bf tb)=_ from o3,sbd,Aq (by rfl)];rw [show Eu F _ _=_ from g1,sbd,Aq (by rfl),Hj (ckJ (by omega)),Hj (Xj (by decide))];rw [show Eb F _ _ _=_ from q1,sbd,Aq (by rfl),sbd,Aq (by rfl)];exact r1.trans hfin
 ·rw [Bx (dT (by omega)),A61];rfl
end Go.Proofs.YtjfhcbjhjeklbaaGreat
