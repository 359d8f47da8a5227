import Derived.Test.YtkbjbnkkfifbmaaGreatF8WkD
set_option linter.unusedVariables false
set_option linter.unusedSimpArgs false
set_option linter.unusedSectionVars false
namespace Go.Proofs.YtkbjbnkkfifbmaaGreat
open Go Go.RowKit Go.Eng
set_option maxRecDepth 10000
set_option linter.unusedVariables false
set_option linter.unusedSimpArgs false
theorem ckb {β:Type} {x:Int} {f:Int→Option β} (h:-9000000000000000000≤x∧x≤9000000000000000000):(ck x).bind f=f x:=by
 unfold ck;rw [if_pos (by omega)];rfl
theorem Gx {α:Type} {c:Bool} {x y:α} (h:c=true):(bif c then x else y)=x:=by rw [h];rfl
theorem Cx {α:Type} {c:Bool} {x y:α} (h:c=false):(bif c then x else y)=y:=by rw [h];rfl
theorem sbd {α β:Type} {x:α} {f:α→Option β}:(some x).bind f=f x:=rfl
theorem dT {p:Prop} [Decidable p] (h:p):decide p=true:=decide_eq_true h
theorem dF {p:Prop} [Decidable p] (h:¬p):decide p=false:=decide_eq_false h
theorem Lb {α β:Type} {l:List α} {i:Int} {f:α→Option β} (n:Nat) (x:α) (hi:i=(n:Int)) (h:l[n]? = some x):(Cb l i).bind f=f x:=by
 subst hi;unfold Cb;rw [if_pos (by omega),show ((n:Int)).toNat=n by omega,h];rfl
theorem Tt {α β:Type} {l k:List α} {B:Nat} {f:List α→Option β} (h:(l.length+k.length)*B≤140737488355328) (hB:1≤B):(apd B l k).bind f=f (l++k):=by
 unfold apd;have:l.length+k.length≤(l.length+k.length)*B:=Nat.le_mul_of_pos_right _ hB;rw [if_pos ⟨h,by omega⟩];rfl
theorem Yv {x y A B:Int} (hx:-A≤x∧x≤A) (hy:-B≤y∧y≤B):-(A*B)≤x*y∧x*y≤A*B:=by
 have h1:(x*y).natAbs≤A.natAbs*B.natAbs:=by rw [Int.natAbs_mul];exact Nat.mul_le_mul (by omega) (by omega)
 have h2:0≤A*B:=Int.mul_nonneg (by omega) (by omega);have h3:(A*B).natAbs=A.natAbs*B.natAbs:=Int.natAbs_mul A B;omega
theorem Yw {x y A B:Int} (hx:0≤x∧x≤A) (hy:0≤y∧y≤B):0≤x*y∧x*y≤A*B :=
 ⟨Int.mul_nonneg hx.1 hy.1,(Yv (A:=A) (B:=B) ⟨by omega,hx.2⟩ ⟨by omega,hy.2⟩).2⟩
theorem Yd {β:Type} {x y:Int} {f:Int→Option β} (hx:0≤x) (hx2:x≤9000000000000000000) (hy:0<y):(Ku x y).bind f=f (x/y):=by
 unfold Ku;rw [if_neg (by omega),Int.tdiv_eq_ediv_of_nonneg hx,ckb];have h1:0≤x/y:=Int.ediv_nonneg hx (by omega);have h2:x/y≤x:=Int.ediv_le_self _ hx;omega
structure VS (s:api_Site):Prop where
 x:-1048576≤s.X∧s.X≤1048576
 y:-1048576≤s.Y∧s.Y≤1048576
 z:0≤s.Z∧s.Z≤20000
 rose:1≤s.Rose∧s.Rose≤90
 gates:1≤s.Gates∧s.Gates≤200
 step:50≤s.Step∧s.Step≤2000
 width:0≤s.Width∧s.Width≤8
structure VG (g:api_Grid):Prop where
 x:-1048576≤g.X∧g.X≤1048576
 y:-1048576≤g.Y∧g.Y≤1048576
 size:1≤g.Size∧g.Size≤10000
 wide:1≤g.Wide∧g.Wide≤64
 high:1≤g.High∧g.High≤64
theorem K6 {n a b:Int} (h:a≤n∧n≤b):A8 n a b=true:=by unfold A8;rw [dT h.1,dT h.2];rfl
theorem Pc {g:api_Grid} (h:VG g):B8 g=0:=by
 unfold B8 Bq;rw [K6 h.x,K6 h.y,K6 h.size,K6 h.wide,K6 h.high];rfl
end Go.Proofs.YtkbjbnkkfifbmaaGreat
namespace Go.Proofs.YtkbjbnkkfifbmaaGreat
open Go Go.RowKit Go.Eng
set_option maxRecDepth 10000
set_option linter.unusedVariables false
set_option linter.unusedSimpArgs false
def gLo (L t:Int):Int:=L*(262144-t*t)/(2*(262144+t*t))
def gHi (L t:Int):Int:=-(-(L*(262144-t*t))/(2*(262144+t*t)))
def loZ (L t e:Int):Int:=L*(1024*t)/(2*(262144+t*t))+gLo L t*gLo L t/(2*e)
def hiZ (L t e:Int):Int:=-(-(L*(1024*t))/(2*(262144+t*t))) + -(-(gHi L t*gHi L t)/(2*e))
def VE (e:api_Span):Prop:=1000000≤e.Lo∧e.Lo≤e.Hi∧e.Hi≤100000000
def Xw (s:api_Site) (t:Int) (e:api_Span) (g:Int):api_Span:=⟨s.Z+loZ ((2*g+1)*s.Step) (t-s.Width) e.Hi,s.Z+hiZ ((2*g+1)*s.Step) (t+s.Width) e.Lo⟩
end Go.Proofs.YtkbjbnkkfifbmaaGreat
namespace Go.Proofs.YtkbjbnkkfifbmaaGreat
open Go Go.RowKit Go.Eng
set_option maxRecDepth 10000
set_option linter.unusedVariables false
set_option linter.unusedSimpArgs false
section
variable {κ ν:Type} [DecidableEq κ]
theorem Nw (B:List (κ×ν)) (k x:κ) (v:ν):lkM (upM B k v) x=if x=k then some v else lkM B x:=by
 induction B with
 | nil=>rfl
 | cons p B ih =>
  unfold upM
  by_cases h:k=p.1
  ·rw [if_pos h];unfold lkM;subst h
   by_cases hx:x=p.1
   ·rw [if_pos hx,if_pos hx]
   ·rw [if_neg hx,if_neg hx,if_neg hx]
  ·rw [if_neg h];unfold lkM
   by_cases hx:x=p.1
   ·rw [if_pos hx,if_neg (by rw [hx];exact fun e=>h e.symm),if_pos hx]
   ·rw [if_neg hx,ih]
    by_cases hk:x=k
    ·rw [if_pos hk,if_pos hk]
    ·rw [if_neg hk,if_neg hk,if_neg hx]
theorem Vm (B:List (κ×ν)) (k:κ) (v:ν):lkM (upM B k v) k=some v:=by rw [Nw,if_pos rfl]
theorem Uf {B:List (κ×ν)} {k:κ} {v:ν} (h:lkM B k=some v):(k,v)∈B:=by
 induction B with
 | nil=>cases h
 | cons p B ih =>
  unfold lkM at h
  by_cases hk:k=p.1
  ·rw [if_pos hk] at h;cases h;subst hk;exact .head _
  ·rw [if_neg hk] at h;exact .tail _ (ih h)
theorem Rk {B:List (κ×ν)} {k:κ}:(∃v,lkM B k=some v)↔k∈B.map (·.1):=by
 induction B with
 | nil=>simp [lkM]
 | cons p B ih =>
  unfold lkM
  by_cases hk:k=p.1
  ·simp [hk]
  ·rw [if_neg hk,ih];simp [hk]
theorem Xr {B:List (κ×ν)} {k:κ} {v:ν} {p:κ×ν} (h:p∈upM B k v):p=(k,v)∨p∈B:=by
 induction B with
 | nil=>simp [upM] at h;exact .inl h
 | cons q B ih =>
  unfold upM at h
  by_cases hk:k=q.1
  ·rw [if_pos hk] at h;rcases List.mem_cons.1 h with h|h
   ·exact .inl h
   ·exact .inr (.tail _ h)
  ·rw [if_neg hk] at h;rcases List.mem_cons.1 h with h|h
   ·exact .inr (h▸.head _)
   ·rcases ih h with h|h
    ·exact .inl h
    ·exact .inr (.tail _ h)
theorem Vz {B:List (κ×ν)} {k x:κ} {v:ν}:x∈(upM B k v).map (·.1)↔x=k∨x∈B.map (·.1):=by
 rw [←Rk,←Rk,Nw]
 by_cases h:x=k
 ·simp [h]
 ·simp [h]
theorem V2 {B:List (κ×ν)} {k:κ} {v:ν} (hn:(B.map (·.1)).Nodup):((upM B k v).map (·.1)).Nodup:=by
 induction B with
 | nil=>simp [upM]
 | cons q B ih =>
  rw [List.map_cons,List.nodup_cons] at hn;unfold upM
  by_cases hk:k=q.1
  ·rw [if_pos hk,List.map_cons,List.nodup_cons];subst hk;exact hn
  ·rw [if_neg hk,List.map_cons,List.nodup_cons];exact ⟨fun h=>(Vz.1 h).elim (fun e=>hk e.symm) hn.1,ih hn.2⟩
end
def tot (B:List (mosaic_Key×List (List api_Span))):Nat:=(B.map fun p=>p.2.length).sum
def kl (B:List (mosaic_Key×List (List api_Span))) (k:mosaic_Key):List (List api_Span):=(lkM B k).getD []
theorem Xq (B:List (mosaic_Key×List (List api_Span))) (k:mosaic_Key) (l:List (List api_Span)):tot (upM B k l)+(kl B k).length=tot B+l.length:=by
 induction B with
 | nil=>simp [tot,upM,kl,lkM]
 | cons p B ih =>
  unfold upM kl lkM
  by_cases h:k=p.1
  ·rw [if_pos h,if_pos h];simp [tot];omega
  ·rw [if_neg h,if_neg h];have e1:∀C,tot (p::C)=p.2.length+tot C:=fun C=>by simp [tot]
   rw [e1,e1];have:((lkM B k).getD []).length=(kl B k).length:=rfl;omega
theorem Sm (B:List (mosaic_Key×List (List api_Span))) (k:mosaic_Key):(kl B k).length≤tot B:=by
 induction B with
 | nil=>simp [kl,lkM]
 | cons p B ih =>
  have e1:tot (p::B)=p.2.length+tot B:=by simp [tot]
  unfold kl lkM
  by_cases h:k=p.1
  ·rw [if_pos h,e1];simp
  ·rw [if_neg h,e1];have:((lkM B k).getD []).length=(kl B k).length:=rfl;omega
theorem Rj {B:List (mosaic_Key×List (List api_Span))} (h:∀p∈B,p.2≠[]):B.length≤tot B:=by
 induction B with
 | nil=>simp [tot]
 | cons p B ih =>
  have e1:tot (p::B)=p.2.length+tot B:=by simp [tot]
  have:=List.length_pos_iff.2 (h p (.head _));have:=ih fun q hq=>h q (.tail _ hq);rw [e1,List.length_cons];omega
def c3 (a b:Int):Int:=if a<b then -1 else if b<a then 1 else 0
def Fm (x y:api_Span):Int:=if c3 x.Lo y.Lo≠0 then c3 x.Lo y.Lo else c3 x.Hi y.Hi
def Cy:List api_Span→List api_Span→Int
 | [],[]=>0
 | [],_::_=>-1
 | _::_,[]=>1
 | x::a,y::b=>if Fm x y≠0 then Fm x y else Cy a b
theorem Mg (a b:Int):Aa a b=c3 a b:=by
 unfold Aa Bt c3;simp only [bne_self_eq_false,cond_false]
 by_cases h1:a<b
 ·rw [dT h1,if_pos h1];rfl
 ·by_cases h2:b<a
  ·rw [dF h1,if_neg h1,if_pos h2,dT h2];rfl
  ·rw [dF h1,if_neg h1,if_neg h2,dF h2];rfl
def orL:List Int→Int
 | []=>0
 | x::l=>if x≠0 then x else orL l
theorem Xi (l:List Int):∀(n i:Nat),i≤l.length→l.length-i<n→l.length<1000000→Dx l n (i:Int)=some (orL (l.drop i)):=by
 intro n
 induction n with
 | zero=>intro i _ h;omega
 | succ n ih =>
  intro i hi hn hl;rw [Dx];unfold Fx
  by_cases hc:i<l.length
  ·rw [Gx (dT (by omega)),Lb i l[i] rfl (List.getElem?_eq_getElem hc),List.drop_eq_getElem_cons hc];unfold orL
   by_cases h:l[i]=0
   ·rw [Cx (by simpa using h),if_neg (by simpa using h),ckb (by omega)];exact ih (i+1) (by omega) (by omega) hl
   ·rw [Gx (by simpa using h),if_pos h]
  ·rw [Cx (dF (by omega)),List.drop_eq_nil_of_le (by omega)];rfl
theorem Xs {F:Nat} (l:List Int) (h:l.length<F) (h2:l.length<1000000):Gq F l=some (orL l):=by
 have:=Xi l F 0 (by omega) (by omega) h2;rw [List.drop_zero] at this;exact this
theorem Yy (a b:Int):orL [a,b]=if a≠0 then a else b:=by
 show (if a≠0 then a else if b≠0 then b else 0)=_
 split
 ·rfl
 ·split<;>omega
theorem Qa {F:Nat} (hF:100≤F) (x y:api_Span):Dg F x y=some (Fm x y):=by
 unfold Dg;rw [Mg,Mg,Xs _ (by simp;omega) (by simp),sbd,Yy];rfl
theorem V9 {F:Nat} (hF:100≤F) (a b:List api_Span) (ha:a.length<1000000):∀(n i:Nat),i≤a.length→a.length-i<n →
  A9 F a b n (i:Int)=some (if i≤b.length then Cy (a.drop i) (b.drop i) else if i<a.length then 1 else 0):=by
 intro n
 induction n with
 | zero=>intro i _ h;omega
 | succ n ih =>
  intro i hi hn;rw [A9];unfold Aj
  by_cases hc:i<a.length
  ·rw [Gx (dT (by omega)),Lb i a[i] rfl (List.getElem?_eq_getElem hc)]
   by_cases hb:i<b.length
   ·rw [Cx (dF (by omega)),Lb i b[i] rfl (List.getElem?_eq_getElem hb),Qa hF,sbd,if_pos (by omega),List.drop_eq_getElem_cons hc,List.drop_eq_getElem_cons hb];unfold Cy
    by_cases h:Fm a[i] b[i]=0
    ·rw [Cx (by simpa using h),if_neg (by simpa using h),ckb (by omega)];have:=ih (i+1) (by omega) (by omega);rw [if_pos (by omega)] at this;exact this
    ·rw [Gx (by simpa using h),if_pos h]
   ·rw [Gx (dT (by omega))]
    by_cases hb2:i≤b.length
    ·rw [if_pos hb2,List.drop_eq_nil_of_le (show b.length≤i by omega),List.drop_eq_getElem_cons hc];rfl
    ·rw [if_neg hb2,if_pos hc]
  ·rw [Cx (dF (by omega))];unfold Ak;have e:a.drop i=[]:=List.drop_eq_nil_of_le (by omega)
   by_cases hb:a.length<b.length
   ·rw [Gx (dT (by omega)),if_pos (by omega),e,List.drop_eq_getElem_cons (l:=b) (by omega)];rfl
   ·rw [Cx (dF (by omega))]
    by_cases hb2:i≤b.length
    ·rw [if_pos hb2,e,List.drop_eq_nil_of_le (show b.length≤i by omega)];rfl
    ·rw [if_neg hb2,if_neg hc]
theorem Ml {F:Nat} (hF:100≤F) (a b:List api_Span) (ha:a.length<F) (h2:a.length<1000000):Df F a b=some (Cy a b):=by
 unfold Df Am;have:=V9 hF a b h2 F 0 (by omega) (by omega);rw [if_pos (by omega),List.drop_zero,List.drop_zero] at this;have e:A9 F a b F 0=some (Cy a b):=this;rw [e];rfl
theorem Yr {x:Int} (h:0≤x∧x≤9000000000000000000):IntKind.u64.wrap x=x:=by
 have:=h.1;have:=h.2;simp only [IntKind.wrap,IntKind.signed,IntKind.bits];simp;omega
theorem Rv {F:Nat} (hF:100≤F) (l:List (List api_Span)) (v:List api_Span) (hl:l.length<1000000) (hv:∀x∈l,x.length<F∧x.length<1000000):∀(n i j:Nat),i≤j→j≤l.length→j-i<n →
  ∃(r:Nat) (b:Bool),Ac F l v n (j:Int) (i:Int)=some ((r:Int),b)∧r≤l.length∧i≤r∧r≤j∧(b=true↔∃x,l[r]? = some x∧Cy x v=0)∧(r=i∨∃x,l[r-1]? = some x∧Cy x v<0)∧(r=j∨∃x,l[r]? = some x∧¬Cy x v<0):=by
 intro n
 induction n with
 | zero=>intro i j _ _ h;omega
 | succ n ih =>
  intro i j hij hj hn;rw [Ac];unfold An
  by_cases hc:i<j
  ·have hm:(i+j)/2<l.length:=by omega
   rw [Gx (dT (by omega)),ckb (by omega),Yr (by omega),Int.fdiv_eq_ediv_of_nonneg _ (by omega),ckb (by omega),Lb ((i+j)/2) l[(i+j)/2] (by omega) (List.getElem?_eq_getElem hm)];obtain ⟨h1,h2⟩:=hv _ (List.getElem_mem hm);rw [Ml hF _ _ h1 h2,sbd]
   by_cases hlt:Cy l[(i+j)/2] v<0
   ·rw [Gx (dT hlt),ckb (by omega),show ((i:Int)+(j:Int))/2+1=(((i+j)/2+1:Nat):Int) by omega];obtain ⟨r,b,e,r1,r2,r3,r4,r5,r6⟩:=ih ((i+j)/2+1) j (by omega) hj (by omega);refine ⟨r,b,e,r1,by omega,r3,r4,.inr ?_,r6⟩;rcases r5 with h|h
    ·exact ⟨_,by rw [h,Nat.add_sub_cancel];exact List.getElem?_eq_getElem hm,hlt⟩
    ·exact h
   ·rw [Cx (dF hlt),show ((i:Int)+(j:Int))/2=(((i+j)/2:Nat):Int) by omega];obtain ⟨r,b,e,r1,r2,r3,r4,r5,r6⟩:=ih i ((i+j)/2) (by omega) (by omega) (by omega);refine ⟨r,b,e,r1,r2,by omega,r4,r5,.inr ?_⟩;rcases r6 with h|h
    ·exact ⟨_,by rw [h];exact List.getElem?_eq_getElem hm,hlt⟩
    ·exact h
  ·rw [Cx (dF (by omega))];unfold Ao;have:i=j:=by omega
   subst this
   by_cases hi:i<l.length
   ·rw [Gx (dT (by omega)),Lb i l[i] rfl (List.getElem?_eq_getElem hi)];obtain ⟨h1,h2⟩:=hv _ (List.getElem_mem hi);rw [Ml hF _ _ h1 h2,sbd];refine ⟨i,_,rfl,hj,Nat.le_refl _,Nat.le_refl _,?_,.inl rfl,.inl rfl⟩;rw [List.getElem?_eq_getElem hi];simp
   ·rw [Cx (dF (by omega))];refine ⟨i,_,rfl,hj,Nat.le_refl _,Nat.le_refl _,?_,.inl rfl,.inl rfl⟩;rw [List.getElem?_eq_none (by omega)];simp
theorem Uu {F:Nat} (hF:100≤F) (N:mosaic_Node) (m:mosaic_Message) (hl:(kl N.kept m.Key).length<F∧(kl N.kept m.Key).length<1000000) (hv:∀x∈kl N.kept m.Key,x.length<F∧x.length<1000000) :
  ∃(r:Nat) (b:Bool),Ba F N m=some ((r:Int),b)∧r≤(kl N.kept m.Key).length∧(b=true↔∃x,(kl N.kept m.Key)[r]? = some x∧Cy x m.Vals=0)∧(r=0∨∃x,(kl N.kept m.Key)[r-1]? = some x∧Cy x m.Vals<0)∧(r=(kl N.kept m.Key).length∨∃x,(kl N.kept m.Key)[r]? = some x∧¬Cy x m.Vals<0):=by
 obtain ⟨r,b,e,r1,_,_,r4,r5,r6⟩:=Rv hF (kl N.kept m.Key) m.Vals hl.2 hv F 0 (kl N.kept m.Key).length (by omega) (Nat.le_refl _) (by omega);refine ⟨r,b,?_,r1,r4,r5,r6⟩;unfold Ba Ai;have e':Ac F ((lkM N.kept m.Key).getD []) m.Vals F (((lkM N.kept m.Key).getD []).length:Int) 0=some ((r:Int),b):=e;rw [e'];rfl
end Go.Proofs.YtkbjbnkkfifbmaaGreat
namespace Go.Proofs.YtkbjbnkkfifbmaaGreat
open Go Go.RowKit Go.Eng
set_option maxRecDepth 10000
set_option linter.unusedVariables false
set_option linter.unusedSimpArgs false
def radM (s:mosaic_Spec):List (ByteArray×mosaic_Radar):=s.Radars.foldl (fun B r=>upM B r.Site.Name r) []
def pix (s:mosaic_Spec):Nat:=(s.Grid.Wide*s.Grid.High).toNat
structure GS (F:Nat) (s:mosaic_Spec):Prop where
 g:VG s.Grid
 e:VE s.Earth
 age:1≤s.Age∧s.Age≤86400
 small:pix s≤500
 r:∀n x,lkM (radM s) n=some x→VS x.Site∧beam_CheckSite F x.Site=some 0∧(-3600≤x.Offset.Lo∧x.Offset.Lo≤x.Offset.Hi∧x.Offset.Hi≤3600)∧n≠ByteArray.empty∧x.Site.Name=n
def okK (s:mosaic_Spec) (k:mosaic_Key):Prop:=(∃r,lkM (radM s) k.Name=some r)∧(0≤k.Tilt∧k.Tilt≤256)∧(0≤k.Time∧k.Time≤4294967296)
structure okM (s:mosaic_Spec) (m:mosaic_Message):Prop where
 key:okK s m.Key
 len:m.Vals.length=pix s
 vals:∀v∈m.Vals,0≤v.Lo∧v.Lo≤v.Hi∧v.Hi≤1000000
def Wq (F:Nat) (s:mosaic_Spec) (w:mosaic_where):List api_Span :=
 (((K7 F ((lkM (radM s) w.name).getD default).Site w.tilt s.Grid).getD ([],0)).1).map fun v=>if 0≤v then Xw ((lkM (radM s) w.name).getD default).Site w.tilt s.Earth (v.tmod ((lkM (radM s) w.name).getD default).Site.Gates) else ⟨1,0⟩
def LV (F:Nat) (s:mosaic_Spec) (L:List (mosaic_where×List api_Span)):Prop:=∀w l,lkM L w=some l→l=Wq F s w
structure NI (F:Nat) (s:mosaic_Spec) (N:mosaic_Node):Prop where
 spec:N.spec=s
 radars:N.radars=radM s
 nd:(N.kept.map (·.1)).Nodup
 ok:∀p∈N.kept,okK s p.1∧p.2≠[]∧∀v∈p.2,v.length=pix s
 count:N.count=(tot N.kept:Int)
 looks:LV F s N.looks
def Jv (l:List (List api_Span)) (r:Nat) (v:List api_Span):List (List api_Span):=l.take r++[v]++l.drop r
def Lu (N:mosaic_Node) (m:mosaic_Message) (r:Nat):mosaic_Node:=⟨N.spec,N.radars,N.horizon,upM N.kept m.Key (Jv (kl N.kept m.Key) r m.Vals),N.count+1,N.looks⟩
theorem Nu {l:List (List api_Span)} {r:Nat} {v:List api_Span} (h:r≤l.length):(Jv l r v).length=l.length+1:=by unfold Jv;simp;omega
theorem Ln {l:List (List api_Span)} {r:Nat} {v x:List api_Span}:x∈Jv l r v↔x=v∨x∈l:=by
 unfold Jv;rw [List.mem_append,List.mem_append,List.mem_singleton];constructor
 ·rintro ((h|h)|h)
  ·exact .inr (List.mem_of_mem_take h)
  ·exact .inl h
  ·exact .inr (List.mem_of_mem_drop h)
 ·rintro (h|h)
  ·exact .inl (.inr h)
  ·rw [←List.take_append_drop r l] at h;rcases List.mem_append.1 h with h|h
   ·exact .inl (.inl h)
   ·exact .inr h
theorem NI.kl_ok {F:Nat} {s:mosaic_Spec} {N:mosaic_Node} (h:NI F s N) (k:mosaic_Key):∀v∈kl N.kept k,v.length=pix s:=by
 intro v hv;unfold kl at hv
 cases e:lkM N.kept k with
 | none=>rw [e] at hv;cases hv
 | some l=>rw [e] at hv;exact (h.ok _ (Uf e)).2.2 v hv
theorem NI.put {F:Nat} {s:mosaic_Spec} {N:mosaic_Node} {m:mosaic_Message} {r:Nat} (h:NI F s N) (hm:okM s m) (hr:r≤(kl N.kept m.Key).length):NI F s (Lu N m r):=by
 refine ⟨h.spec,h.radars,V2 h.nd,?_,?_,h.looks⟩
 ·intro p hp;rcases Xr hp with rfl|hp
  ·refine ⟨hm.key,fun e=>?_,fun v hv=>?_⟩
   ·have:=Nu (v:=m.Vals) hr;have e':Jv (kl N.kept m.Key) r m.Vals=[]:=e;rw [e'] at this;simp at this
   ·rcases Ln.1 hv with rfl|hv
    ·exact hm.len
    ·exact h.kl_ok _ v hv
  ·exact h.ok p hp
 ·have h1:=Xq N.kept m.Key (Jv (kl N.kept m.Key) r m.Vals);rw [Nu hr] at h1;show N.count+1=_;rw [h.count];show _=((tot (upM N.kept m.Key (Jv (kl N.kept m.Key) r m.Vals)):Nat):Int);omega
theorem Lr {n a b:Int} (h:a≤n∧n≤b):Az n a b=true:=by unfold Az;rw [dT h.1,dT h.2];rfl
theorem Mv {v:api_Span} {a b:Int} (h:a≤v.Lo∧v.Lo≤v.Hi∧v.Hi≤b):Bj v a b=true:=by unfold Bj;rw [dT h.1,dT h.2.1,dT h.2.2];rfl
theorem Tj {m:mosaic_Message} (hl:m.Vals.length<1000000) (hv:∀v∈m.Vals,0≤v.Lo∧v.Lo≤v.Hi∧v.Hi≤1000000):∀(n i:Nat),i≤m.Vals.length→m.Vals.length-i<n→Bc m n (i:Int)=some 0:=by
 intro n
 induction n with
 | zero=>intro i _ h;omega
 | succ n ih =>
  intro i hi hn;rw [Bc];unfold Cu
  by_cases hc:i<m.Vals.length
  ·rw [Gx (dT (by omega)),Lb i m.Vals[i] rfl (List.getElem?_eq_getElem hc),Mv (hv _ (List.getElem_mem hc)),Cx (c:=!true) rfl,ckb (by omega)];exact ih (i+1) (by omega) (by omega)
  ·rw [Cx (dF (by omega))];rfl
theorem Yz {F:Nat} {s:mosaic_Spec} (h:GS F s):s.Grid.Wide*s.Grid.High=(pix s:Int)∧1≤pix s:=by
 have h1:=h.g.wide;have h2:=h.g.high;have h3:=Yw (x:=s.Grid.Wide) (y:=s.Grid.High) (A:=64) (B:=64) (by omega) (by omega);have h4:1*1≤s.Grid.Wide*s.Grid.High:=Int.mul_le_mul h1.1 h2.1 (by omega) (by omega);unfold pix;omega
theorem V5 {F:Nat} {s:mosaic_Spec} {N:mosaic_Node} {m:mosaic_Message} (hF:1000≤F) (hs:GS F s) (hN:NI F s N) (hm:okM s m):Bu F N m=some 0:=by
 obtain ⟨r,hr⟩:=hm.key.1;have h1:=Yz hs;have h2:=hs.small;unfold Bu;rw [hN.radars,hr,Cx (c:=!(some r).isSome) rfl,Lr hm.key.2.1,Lr hm.key.2.2,Cx (c:=bif !true then true else !true) rfl,hN.spec,ckb (by omega),Cx (by rw [hm.len,h1.1];simp)];exact Tj (by rw [hm.len];omega) hm.vals F 0 (by omega) (by rw [hm.len];omega)
theorem Uv {F:Nat} {s:mosaic_Spec} {N:mosaic_Node} {m:mosaic_Message} {r:Nat} {b:Bool} (hF:1000≤F) (hs:GS F s) (hN:NI F s N) (hm:okM s m) (hc:N.count<1000000) (hp:Ba F N m=some ((r:Int),b)) (hr:r≤(kl N.kept m.Key).length):C0 F N m=some (Lu N m r):=by
 have h2:=hs.small;have h3:=Sm N.kept m.Key;have h4:=hN.count;unfold C0;rw [hp,sbd];unfold B3 As;rw [show (lkM N.kept m.Key).getD []=kl N.kept m.Key from rfl,Tt (by simp;omega) (by decide),List.nil_append,sbd,Tt (by rw [hm.len];simp;omega) (by decide),List.nil_append,sbd];unfold Ec;rw [if_pos ⟨by omega,by omega,rfl,by omega⟩,sbd,ckb (by omega)];rfl
end Go.Proofs.YtkbjbnkkfifbmaaGreat
namespace Go.Proofs.YtkbjbnkkfifbmaaGreat
open Go Go.RowKit Go.Eng
set_option maxRecDepth 10000
set_option linter.unusedVariables false
set_option linter.unusedSimpArgs false
def ksN (N:mosaic_Node):List mosaic_Key:=Cr (N.kept.map (·.1))
def Jc (N:mosaic_Node):List mosaic_Message:=(ksN N).flatMap fun k=>(kl N.kept k).map (mosaic_Message.mk k)
theorem Jx (N:mosaic_Node):(ksN N).length=N.kept.length∧(ksN N).Perm (N.kept.map (·.1))∧(ksN N).Pairwise (fun x y=>¬KLt y x):=by
 obtain ⟨h1,h2,h3⟩:=He Dj Mx (N.kept.map (·.1));refine ⟨by unfold ksN Cr;rw [h1];simp,h2,h3.imp ?_⟩;intro x y h hlt;rw [(Lc y x).2 hlt] at h;cases h
theorem Rh {N:mosaic_Node} {k:mosaic_Key}:k∈ksN N↔∃l,lkM N.kept k=some l:=by
 rw [(Jx N).2.1.mem_iff,Rk]
theorem NI.small {F:Nat} {s:mosaic_Spec} {N:mosaic_Node} (h:NI F s N):(ksN N).length≤tot N.kept:=by
 rw [(Jx N).1];exact Rj fun p hp=>(h.ok p hp).2.1
theorem NI.key {F:Nat} {s:mosaic_Spec} {N:mosaic_Node} (h:NI F s N) {k:mosaic_Key} (hk:k∈ksN N):okK s k∧kl N.kept k≠[]:=by
 obtain ⟨l,hl⟩:=Rh.1 hk;have:=h.ok _ (Uf hl);refine ⟨this.1,?_⟩;unfold kl;rw [hl];exact this.2.1
theorem Ud {F:Nat} {s:mosaic_Spec} {N:mosaic_Node} (h:NI F s N):(ksN N).Nodup:=(Jx N).2.1.nodup_iff.2 h.nd
theorem V7 {F:Nat} {N:mosaic_Node} (h:N.kept.length≤1000000):E7 F N=some (ksN N):=by unfold E7;rw [if_pos h];rfl
theorem Tp {F:Nat} {N:mosaic_Node} {x:Int} {k2:Int→List mosaic_Message→Option (List mosaic_Message)} {k:mosaic_Key} (hv:∀v∈kl N.kept k,v.length≤10000) (hx:0≤x∧x≤1000000) (hk:(kl N.kept k).length≤1000) :
  ∀(n i:Nat) (acc:List mosaic_Message),i≤(kl N.kept k).length→(kl N.kept k).length-i<n→acc.length+((kl N.kept k).length-i)≤10000000→Ca F N x k2 k n (i:Int) acc=k2 (x+1) (acc++((kl N.kept k).drop i).map (mosaic_Message.mk k)):=by
 intro n
 induction n with
 | zero=>intro i acc _ h;omega
 | succ n ih =>
  intro i acc hi hn ha;rw [Ca];unfold Db;rw [show (lkM N.kept k).getD []=kl N.kept k from rfl]
  by_cases hc:i<(kl N.kept k).length
  ·have hl:=hv _ (List.getElem_mem hc);rw [Gx (dT (by omega)),Lb i (kl N.kept k)[i] rfl (List.getElem?_eq_getElem hc)];unfold As;rw [Tt (by simp;omega) (by decide),List.nil_append,sbd,Tt (by simp;omega) (by decide),ckb (by omega)];have:=ih (i+1) (acc++[mosaic_Message.mk k (kl N.kept k)[i]]) (by omega) (by omega) (by simp;omega);rw [List.append_assoc,List.singleton_append,←List.map_cons,←List.drop_eq_getElem_cons hc] at this;exact this
  ·rw [Cx (dF (by omega)),List.drop_eq_nil_of_le (by omega)];unfold Dd;rw [ckb (by omega),List.map_nil,List.append_nil]
theorem Tq {F:Nat} {N:mosaic_Node} {L:List mosaic_Key} (hF:1000≤F) (hL:L.length≤1000) (hv:∀k,∀v∈kl N.kept k,v.length≤10000) (hk:∀k,(kl N.kept k).length<1000) :
  ∀(n i:Nat) (acc:List mosaic_Message),i≤L.length→L.length-i<n→acc.length+1000*(L.length-i)≤10000000→Bp F N L n (i:Int) acc=some (acc++(L.drop i).flatMap fun k=>(kl N.kept k).map (mosaic_Message.mk k)):=by
 intro n
 induction n with
 | zero=>intro i acc _ h;omega
 | succ n ih =>
  intro i acc hi hn ha;rw [Bp];unfold Da
  by_cases hc:i<L.length
  ·have h1:=hk L[i];rw [Gx (dT (by omega)),Lb i L[i] rfl (List.getElem?_eq_getElem hc)];have h2:=Tp (F:=F) (N:=N) (x:=i) (k2:=Bp F N L n) (k:=L[i]) (hv _) (by omega) (by omega) F 0 acc (by omega) (by omega) (by omega);rw [List.drop_zero] at h2;have h3:=ih (i+1) (acc++(kl N.kept L[i]).map (mosaic_Message.mk L[i])) (by omega) (by omega) (by simp;omega);rw [List.append_assoc,←List.flatMap_cons (f:=fun k=>(kl N.kept k).map (mosaic_Message.mk k)),←List.drop_eq_getElem_cons hc] at h3;exact h2.trans h3
  ·rw [Cx (dF (by omega)),List.drop_eq_nil_of_le (by omega)];unfold Dc;rw [List.flatMap_nil,List.append_nil]
theorem Ul {N:mosaic_Node} (hk:∀k,(kl N.kept k).length<1000) (L:List mosaic_Key):(L.flatMap fun k=>(kl N.kept k).map (mosaic_Message.mk k)).length≤1000*L.length:=by
 induction L with
 | nil=>simp
 | cons k L ih =>
  rw [List.flatMap_cons,List.length_append,List.length_map,List.length_cons];have:=hk k;omega
theorem Tr {F:Nat} {s:mosaic_Spec} {N:mosaic_Node} (hF:1000≤F) (hs:GS F s) (h:NI F s N) (ht:tot N.kept<900):Bx F N=some (Jc N):=by
 have h1:=h.small;have h2:=(Jx N).1;have h3:=hs.small;unfold Bx;rw [V7 (by omega),sbd];have:=Tq (F:=F) (N:=N) (L:=ksN N) hF (by omega) (fun k v hv=>by rw [h.kl_ok k v hv];omega) (fun k=>by have:=Sm N.kept k;omega) F 0 [] (by omega) (by omega) (by simp;omega);rw [List.drop_zero,List.nil_append] at this;exact this
theorem Q5 {F:Nat} {s:mosaic_Spec} {N:mosaic_Node} (hF:1000≤F) (hs:GS F s) (h:NI F s N) (ht:tot N.kept<900):Cm F N []=some (Jc N,0):=by
 have h1:=h.small;have h2:=Ul (N:=N) (fun k=>by have:=Sm N.kept k;omega) (ksN N);have h3:(Jc N).length≤1000000:=Nat.le_trans h2 (by omega);unfold Cm;rw [if_neg (by simp),Tr hF hs h ht,sbd,if_pos h3];have e:(Jc N).filter (Qj N (E5 []))=Jc N:=by
  rw [List.filter_eq_self];intro m _;rfl
 rw [e]
theorem Um {N:mosaic_Node} {m:mosaic_Message}:m∈Jc N↔m.Vals∈kl N.kept m.Key:=by
 unfold Jc;rw [List.mem_flatMap];constructor
 ·rintro ⟨k,_,hm⟩;obtain ⟨v,hv,rfl⟩:=List.mem_map.1 hm;exact hv
 ·intro hv;refine ⟨m.Key,?_,List.mem_map.2 ⟨m.Vals,hv,rfl⟩⟩;rw [Rh];unfold kl at hv
  cases e:lkM N.kept m.Key with
  | none=>rw [e] at hv;cases hv
  | some l=>exact ⟨l,rfl⟩
end Go.Proofs.YtkbjbnkkfifbmaaGreat
namespace Go.Proofs.YtkbjbnkkfifbmaaGreat
open Go Go.RowKit Go.Eng
set_option maxRecDepth 10000
set_option linter.unusedVariables false
set_option linter.unusedSimpArgs false
theorem baE (a b:ByteArray):(a==b)=true↔a=b:=by
 obtain ⟨a⟩:=a;obtain ⟨b⟩:=b;constructor
 ·intro h;have:(a==b)=true:=h;rw [beq_iff_eq] at this;rw [this]
 ·intro h
  cases h
  exact (beq_self_eq_true a:_)
end Go.Proofs.YtkbjbnkkfifbmaaGreat
namespace Go.Proofs.YtkbjbnkkfifbmaaGreat
open Go Go.RowKit Go.Eng
set_option maxRecDepth 10000
set_option linter.unusedVariables false
set_option linter.unusedSimpArgs false
structure C3 {α:Type} (c:α→α→Int):Prop where
 tr:∀x y z,c x y<0→c y z<0→c x z<0
 e1:∀x y z,c x y=0→c x z=c y z
 e2:∀x y z,c y z=0→c x y=c x z
 rf:∀x,c x x=0
 ay:∀x y,c x y<0∨c x y=0∨c y x<0
def Qk {α:Type} (c d:α→α→Int) (x y:α):Int:=if c x y≠0 then c x y else d x y
theorem Vl {α:Type} {c d:α→α→Int} (hc:C3 c) (hd:C3 d):C3 (Qk c d):=by
 refine ⟨fun x y z=>?_,fun x y z=>?_,fun x y z=>?_,fun x=>?_,fun x y=>?_⟩
 ·unfold Qk;intro h1 h2
  by_cases a:c x y=0
  ·rw [if_neg (by simpa using a)] at h1;have e:=hc.e1 x y z a;rw [e]
   by_cases b:c y z=0
   ·rw [if_neg (by simpa using b)] at h2 ⊢;exact hd.tr x y z h1 h2
   ·rw [if_pos b] at h2 ⊢;exact h2
  ·rw [if_pos a] at h1
   by_cases b:c y z=0
   ·have e:=hc.e2 x y z b;rw [←e,if_pos a];exact h1
   ·rw [if_pos b] at h2;have:=hc.tr x y z h1 h2;rw [if_pos (by omega)];exact this
 ·unfold Qk;intro h1
  by_cases a:c x y=0
  ·rw [if_neg (by simpa using a)] at h1;rw [hc.e1 x y z a,hd.e1 x y z h1]
  ·rw [if_pos a] at h1;exact absurd h1 a
 ·unfold Qk;intro h1
  by_cases a:c y z=0
  ·rw [if_neg (by simpa using a)] at h1;rw [hc.e2 x y z a,hd.e2 x y z h1]
  ·rw [if_pos a] at h1;exact absurd h1 a
 ·unfold Qk;rw [if_neg (by simpa using hc.rf x),hd.rf]
 ·unfold Qk;rcases hc.ay x y with h|h|h
  ·left;rw [if_pos (by omega)];exact h
  ·rw [if_neg (by simpa using h)];have h':c y x=0:=by have:=hc.e1 x y x h;rw [hc.rf] at this;exact this.symm
   rw [if_neg (by simpa using h')];exact hd.ay x y
  ·right;right;rw [if_pos (by omega)];exact h
theorem Wc {α:Type} (f:α→Int):C3 (fun x y=>c3 (f x) (f y)):=by
 refine ⟨fun x y z=>?_,fun x y z=>?_,fun x y z=>?_,fun x=>?_,fun x y=>?_⟩<;>unfold c3<;>(repeat' split)<;>omega
end Go.Proofs.YtkbjbnkkfifbmaaGreat
namespace Go.Proofs.YtkbjbnkkfifbmaaGreat
open Go Go.RowKit Go.Eng
set_option maxRecDepth 10000
set_option linter.unusedVariables false
set_option linter.unusedSimpArgs false
theorem Uy {β:Type} {x y:Int} {f:Int→Option β} (h:y≠0):(M9 x y).bind f=f (x.tmod y):=by unfold M9;rw [if_neg h];rfl
structure RG (F:Nat) (s:mosaic_Spec):Prop where
 g:VG s.Grid
 e:VE s.Earth
 age:1≤s.Age∧s.Age≤86400
 small:pix s≤500
 len:1≤s.Radars.length∧s.Radars.length≤32
 nd:(s.Radars.map (·.Site.Name)).Nodup
 ok:∀r∈s.Radars,VS r.Site∧beam_CheckSite F r.Site=some 0∧(-3600≤r.Offset.Lo∧r.Offset.Lo≤r.Offset.Hi∧r.Offset.Hi≤3600)∧r.Site.Name≠ByteArray.empty
def Sf (B:List (ByteArray×mosaic_Radar)) (l:List mosaic_Radar):List (ByteArray×mosaic_Radar):=l.foldl (fun B r=>upM B r.Site.Name r) B
theorem U6:∀(l:List mosaic_Radar) (B:List (ByteArray×mosaic_Radar)) (n:ByteArray),(l.map (·.Site.Name)).Nodup→lkM (Sf B l) n=match l.find? (fun r=>r.Site.Name=n) with|some r=>some r|none=>lkM B n:=by
 intro l
 induction l with
 | nil=>intro B n _;rfl
 | cons x l ih =>
  intro B n hn;rw [List.map_cons,List.nodup_cons] at hn;have e:Sf B (x::l)=Sf (upM B x.Site.Name x) l:=rfl;rw [e,ih _ _ hn.2,List.find?_cons]
  by_cases h:x.Site.Name=n
  ·have hnone:l.find? (fun r=>r.Site.Name=n)=none:=by
    rw [List.find?_eq_none];intro r hr hrn;have hrn:r.Site.Name=n:=by simpa using hrn
    exact hn.1 (by rw [h,←hrn];exact List.mem_map_of_mem (f:=(·.Site.Name)) hr)
   rw [hnone,Nw,if_pos h.symm];simp [h]
  ·rw [Nw,if_neg (fun e=>h e.symm)];simp [h]
theorem Tc {F:Nat} {s:mosaic_Spec} (h:RG F s) (n:ByteArray):lkM (radM s) n=s.Radars.find? (fun r=>r.Site.Name=n):=by
 have:=U6 s.Radars [] n h.nd;unfold radM;refine this.trans ?_
 cases s.Radars.find? (fun r=>r.Site.Name=n)<;>rfl
theorem RG.gs {F:Nat} {s:mosaic_Spec} (h:RG F s):GS F s:=by
 refine ⟨h.g,h.e,h.age,h.small,fun n x hx=>?_⟩;rw [Tc h] at hx;have h1:=List.mem_of_find?_eq_some hx;have h2:x.Site.Name=n:=by simpa using List.find?_some hx
 obtain ⟨a,b,c,d⟩:=h.ok x h1;exact ⟨a,b,c,h2▸d,h2⟩
def J8 (s:mosaic_Spec):mosaic_Node:=⟨s,radM s,0,[],0,[]⟩
theorem Sx {F:Nat} {s:mosaic_Spec}:NI F s (J8 s):=by
 refine ⟨rfl,rfl,.nil,?_,rfl,?_⟩
 ·intro p hp;cases hp
 ·intro w l h;cases h
theorem Sw {F:Nat} {s:mosaic_Spec} (h:RG F s):∀(n i:Nat) (B:List (ByteArray×Bool)),i≤s.Radars.length→s.Radars.length-i<n→(∀m b,lkM B m=some b→m∈(s.Radars.take i).map (·.Site.Name))→Cz F s n B (i:Int)=some 0:=by
 have hl:=h.len;intro n
 induction n with
 | zero=>intro i B _ h;omega
 | succ n ih =>
  intro i B hi hn hB;rw [Cz];unfold Ex
  by_cases hc:i<s.Radars.length
  ·obtain ⟨a,b,c,d⟩:=h.ok _ (List.getElem_mem hc);have hnew:lkM B s.Radars[i].Site.Name=none:=by
    cases e:lkM B s.Radars[i].Site.Name with
    | none=>rfl
    | some b =>
     have:=hB _ _ e;rw [List.map_take] at this;obtain ⟨j,hj,hje⟩:=List.mem_take_iff_getElem.1 this;have hp:=List.pairwise_iff_getElem.1 h.nd j i (by simp at hj ⊢;omega) (by simpa using hc) (by omega);exact absurd (by rw [hje];simp) hp
   rw [Gx (dT (by omega)),Lb i s.Radars[i] rfl (List.getElem?_eq_getElem hc),b,sbd,Cx (c:=(0:Int) != 0) rfl,hnew,Cx (c:=(none:Option Bool).getD false) rfl,Mv c,Cx (c:=!true) rfl,ckb (by omega)];refine ih (i+1) _ (by omega) (by omega) (fun m b hm=>?_);rw [Nw] at hm;rw [List.take_succ_eq_append_getElem hc,List.map_append,List.mem_append]
   by_cases e:m=s.Radars[i].Site.Name
   ·exact .inr (by simp [e])
   ·rw [if_neg e] at hm;exact .inl (hB _ _ hm)
  ·rw [Cx (dF (by omega))];rfl
theorem Tl {F:Nat} {s:mosaic_Spec} (hF:100≤F) (h:RG F s):Fg F s=some 0:=by
 have hl:=h.len;unfold Fg;rw [Pc h.g,Cx (c:=(0:Int) != 0) rfl,Mv h.e,Lr h.age,Cx (c:=bif !true then true else !true) rfl,Cx (by
  have:¬((s.Radars.length:Nat):Int)=0:=by omega
  simpa using this),Cx (dF (by omega))]
 exact Sw h F 0 [] (by omega) (by omega) (fun m b hm=>by cases hm)
theorem Uo {F:Nat} {s:mosaic_Spec} {R:List mosaic_Radar} (hR:R.length≤1000):∀(n i:Nat) (B:List (ByteArray×mosaic_Radar)),i≤R.length→R.length-i<n→Dz s R n B (i:Int)=some (.ok (⟨⟨s.Grid,s.Earth,R,s.Age⟩,Sf B (R.drop i),0,[],0,[]⟩,0)):=by
 intro n
 induction n with
 | zero=>intro i B _ h;omega
 | succ n ih =>
  intro i B hi hn;rw [Dz];unfold G0
  by_cases hc:i<R.length
  ·rw [Gx (dT (by omega)),Lb i R[i] rfl (List.getElem?_eq_getElem hc),ckb (by omega),List.drop_eq_getElem_cons hc];exact ih (i+1) _ (by omega) (by omega)
  ·rw [Cx (dF (by omega)),List.drop_eq_nil_of_le (by omega)];rfl
theorem Wo {F:Nat} {s:mosaic_Spec} (hF:100≤F) (h:RG F s):F1 F s=some (.ok (J8 s,0)):=by
 have hl:=h.len;unfold F1 Ax;rw [Tl hF h,sbd,Cx (c:=(0:Int) != 0) rfl,Tt (by simp;omega) (by decide),List.nil_append,sbd];exact Uo (F:=F) (by omega) F 0 [] (by omega) (by omega)
end Go.Proofs.YtkbjbnkkfifbmaaGreat
namespace Go.Proofs.YtkbjbnkkfifbmaaGreat
open Go Go.RowKit Go.Eng
set_option maxRecDepth 10000
set_option linter.unusedVariables false
set_option linter.unusedSimpArgs false
theorem X1 {α:Type} {c d:α→α→Int} {x y:α} (h:Qk c d x y=0):c x y=0∧d x y=0:=by
 unfold Qk at h
 by_cases a:c x y=0
 ·rw [if_neg (by simpa using a)] at h;exact ⟨a,h⟩
 ·rw [if_pos a] at h;exact absurd h a
theorem Xy {a b:Int} (h:c3 a b=0):a=b:=by
 unfold c3 at h
 repeat' split at h
 all_goals first|omega|simp at h
theorem Rf {N:mosaic_Node} {m:mosaic_Message} {r:Nat} {k:mosaic_Key} (h:k≠m.Key):kl (Lu N m r).kept k=kl N.kept k:=by
 unfold kl;show (lkM (upM N.kept m.Key _) k).getD []=_;rw [Nw,if_neg h]
def fgN (N:mosaic_Node) (h:Int):mosaic_Node:=⟨N.spec,N.radars,h,N.kept.filter (fun p=>!Hr h p),N.count-H7 h N.kept,N.looks⟩
theorem Xa {l:List mosaic_Key} (h:l.Nodup):ndK l=true:=by
 induction l with
 | nil=>rfl
 | cons k l ih =>
  rw [List.nodup_cons] at h;have e:l.contains k=false:=by
   cases hc:l.contains k with
   | false=>rfl
   | true=>exact absurd (List.contains_iff_mem.1 hc) h.1
  show (!l.contains k&&ndK l)=true;rw [e,ih h.2];rfl
theorem S0 (h:Int) (B:List (mosaic_Key×List (List api_Span))):tot (B.filter fun p=>!Hr h p)+H7 h B=tot B:=by
 induction B with
 | nil=>rfl
 | cons p B ih =>
  unfold tot H7 at ih ⊢;simp only [List.filter_cons,List.map_cons,List.sum_cons]
  cases Hr h p with
  | true =>
   simp only [Bool.not_true,if_true,Bool.false_eq_true,if_false,List.map_cons,List.sum_cons];omega
  | false =>
   simp only [Bool.not_false,if_true,Bool.false_eq_true,if_false,List.map_cons,List.sum_cons];omega
theorem Wg {h:Int} {B:List (mosaic_Key×List (List api_Span))} {k:mosaic_Key}:lkM (B.filter fun p=>!Hr h p) k=if k.Time<h then none else lkM B k:=by
 induction B with
 | nil=>split<;>rfl
 | cons p B ih =>
  rw [List.filter_cons];show _=if k.Time<h then none else (if k=p.1 then some p.2 else lkM B k)
  by_cases ho:p.1.Time<h
  ·have e:Hr h p=true:=dT ho;rw [e,if_neg (by simp),ih]
   by_cases hk:k.Time<h
   ·rw [if_pos hk,if_pos hk]
   ·rw [if_neg hk,if_neg hk,if_neg (fun e:k=p.1=>hk (e▸ho))]
  ·have e:Hr h p=false:=dF ho;rw [e,if_pos (by simp)];show (if k=p.1 then some p.2 else lkM (B.filter fun p=>!Hr h p) k)=_
   by_cases hk:k=p.1
   ·rw [if_pos hk,if_pos hk,if_neg (by rw [hk];exact ho)]
   ·rw [if_neg hk,if_neg hk,ih]
theorem NI.fg {F:Nat} {s:mosaic_Spec} {N:mosaic_Node} (hN:NI F s N) (h:Int):NI F s (fgN N h):=by
 refine ⟨hN.spec,hN.radars,?_,?_,?_,hN.looks⟩
 ·exact hN.nd.sublist (List.Sublist.map _ List.filter_sublist)
 ·intro p hp;exact hN.ok p (List.mem_filter.1 hp).1
 ·show N.count-H7 h N.kept=((tot (N.kept.filter fun p=>!Hr h p):Nat):Int);have:=S0 h N.kept;rw [hN.count];omega
theorem Uc {N:mosaic_Node} {h:Int} {k:mosaic_Key} (hk:¬k.Time<h):kl (fgN N h).kept k=kl N.kept k:=by
 unfold kl;show (lkM (N.kept.filter fun p=>!Hr h p) k).getD []=_;rw [Wg,if_neg hk]
theorem Re {N:mosaic_Node} {h:Int} {k:mosaic_Key} (hk:k.Time<h):kl (fgN N h).kept k=[]:=by
 unfold kl;show (lkM (N.kept.filter fun p=>!Hr h p) k).getD []=_;rw [Wg,if_pos hk];rfl
theorem Vn {F:Nat} {s:mosaic_Spec} {N:mosaic_Node} {h:Int} (hN:NI F s N) (ht:tot N.kept<900):Fa F N h=some ((H7 h N.kept:Int),fgN N h):=by
 have h1:=hN.count;have h2:=S0 h N.kept;unfold Fa;rw [if_pos ⟨Xa hN.nd,by omega,by omega,by omega⟩];rfl
end Go.Proofs.YtkbjbnkkfifbmaaGreat
namespace Go.Proofs.YtkbjbnkkfifbmaaGreat
open Go Go.RowKit Go.Eng
set_option maxRecDepth 10000
set_option linter.unusedVariables false
set_option linter.unusedSimpArgs false
theorem cmpS_ok:C3 Fm:=Vl (Wc fun x:api_Span=>x.Lo) (Wc fun x:api_Span=>x.Hi)
theorem Tx {x y:api_Span} (h:Fm x y=0):x=y:=by
 obtain ⟨h1,h2⟩:=X1 (c:=fun x y:api_Span=>c3 x.Lo y.Lo) (d:=fun x y:api_Span=>c3 x.Hi y.Hi) h;obtain ⟨a,b⟩:=x;obtain ⟨c,d⟩:=y;have:=Xy h1;have:=Xy h2;dsimp only at *
 subst_vars
 rfl
theorem Pn (x:List api_Span):Cy x x=0:=by
 induction x with
 | nil=>rfl
 | cons a x ih =>
  show (if Fm a a≠0 then Fm a a else Cy x x)=0;rw [if_neg (by simpa using cmpS_ok.rf a),ih]
theorem Ty:∀{x y:List api_Span},Cy x y=0→x=y
 | [],[],_=>rfl
 | [],_::_,h=>by simp [Cy] at h
 | _::_,[],h=>by simp [Cy] at h
 | a::x,b::y,h=>by
  have h:(if Fm a b≠0 then Fm a b else Cy x y)=0:=h
  by_cases c:Fm a b=0
  ·rw [if_neg (by simpa using c)] at h;rw [Tx c,Ty h]
  ·rw [if_pos c] at h;exact absurd h c
theorem L6:∀{x y z:List api_Span},Cy x y<0→Cy y z<0→Cy x z<0
 | [],[],_,h,_=>by simp [Cy] at h
 | [],_::_,[],_,h=>by simp [Cy] at h
 | [],_::_,_::_,_,_=>by simp [Cy]
 | _::_,[],_,h,_=>by simp [Cy] at h
 | _::_,_::_,[],_,h=>by simp [Cy] at h
 | a::x,b::y,c::z,h,k=>by
  have h:(if Fm a b≠0 then Fm a b else Cy x y)<0:=h;have k:(if Fm b c≠0 then Fm b c else Cy y z)<0:=k;show (if Fm a c≠0 then Fm a c else Cy x z)<0
  by_cases p:Fm a b=0
  ·rw [if_neg (by simpa using p)] at h;rw [cmpS_ok.e1 a b c p]
   by_cases q:Fm b c=0
   ·rw [if_neg (by simpa using q)] at k ⊢;exact L6 h k
   ·rw [if_pos q] at k ⊢;exact k
  ·rw [if_pos p] at h
   by_cases q:Fm b c=0
   ·rw [←cmpS_ok.e2 a b c q,if_pos p];exact h
   ·rw [if_pos q] at k;have:=cmpS_ok.tr a b c h k;rw [if_pos (by omega)];exact this
theorem S8:∀{x y:List api_Span},Cy x y<0∨Cy x y=0∨Cy y x<0
 | [],[]=>.inr (.inl rfl)
 | [],_::_=>.inl (by simp [Cy])
 | _::_,[]=>.inr (.inr (by simp [Cy]))
 | a::x,b::y=>by
  show (if Fm a b≠0 then Fm a b else Cy x y)<0∨(if Fm a b≠0 then Fm a b else Cy x y)=0∨(if Fm b a≠0 then Fm b a else Cy y x)<0;rcases cmpS_ok.ay a b with h|h|h
  ·left;rw [if_pos (by omega)];exact h
  ·have h':Fm b a=0:=by rw [Tx h];exact cmpS_ok.rf _
   rw [if_neg (by simpa using h),if_neg (by simpa using h')];exact S8
  ·right;right;rw [if_pos (by omega)];exact h
abbrev Srt (l:List (List api_Span)):Prop:=l.Pairwise (fun x y=>Cy x y<0)
def has (N:mosaic_Node) (m:mosaic_Message):Prop:=m.Vals∈kl N.kept m.Key
structure SN (F:Nat) (s:mosaic_Spec) (N:mosaic_Node):Prop where
 ni:NI F s N
 so:∀k,Srt (kl N.kept k)
 vs:∀k,∀v∈kl N.kept k,∀x∈v,0≤x.Lo∧x.Lo≤x.Hi∧x.Hi≤1000000
theorem SN.okm {F:Nat} {s:mosaic_Spec} {N:mosaic_Node} (h:SN F s N) {m:mosaic_Message} (hm:has N m):okM s m:=by
 have hk:m.Key∈ksN N:=by
  rw [Rh];unfold has kl at hm
  cases e:lkM N.kept m.Key with
  | none=>rw [e] at hm;cases hm
  | some l=>exact ⟨l,rfl⟩
 exact ⟨(h.ni.key hk).1,h.ni.kl_ok _ _ hm,h.vs _ _ hm⟩
theorem Vw {l:List (List api_Span)} {r:Nat} {v:List api_Span} (hl:Srt l) (hr:r≤l.length) (h1:r=0∨∃x,l[r-1]? = some x∧Cy x v<0) (h2:r=l.length∨∃x,l[r]? = some x∧Cy v x<0):Srt (Jv l r v):=by
 unfold Jv;have lo:∀x∈l.take r,Cy x v<0:=by
  intro x hx;obtain ⟨i,hi,rfl⟩:=List.mem_take_iff_getElem.1 hx;rcases h1 with h1|⟨y,hy,hlt⟩
  ·omega
  ·obtain ⟨hy1,rfl⟩:=List.getElem?_eq_some_iff.1 hy;rcases Nat.lt_or_ge i (r-1) with h|h
   ·exact L6 (List.pairwise_iff_getElem.1 hl i (r-1) (by omega) hy1 h) hlt
   ·have:i=r-1:=by omega
    subst this;exact hlt
 have hi:∀x∈l.drop r,Cy v x<0:=by
  intro x hx;obtain ⟨i,hi,rfl⟩:=List.mem_drop_iff_getElem.1 hx;rcases h2 with h2|⟨y,hy,hlt⟩
  ·omega
  ·obtain ⟨hy1,rfl⟩:=List.getElem?_eq_some_iff.1 hy;rcases Nat.eq_zero_or_pos i with h|h
   ·subst h;exact hlt
   ·exact L6 hlt (List.pairwise_iff_getElem.1 hl r (r+i) hy1 (by omega) (by omega))
 refine List.pairwise_append.2 ⟨List.pairwise_append.2 ⟨hl.sublist (List.take_sublist _ _),List.pairwise_singleton _ _,fun x hx y hy=>?_⟩,hl.sublist (List.drop_sublist _ _),fun x hx y hy=>?_⟩
 ·rw [List.mem_singleton.1 hy];exact lo x hx
 ·rcases List.mem_append.1 hx with hx|hx
  ·exact L6 (lo x hx) (hi y hy)
  ·rw [List.mem_singleton.1 hx];exact hi y hy
theorem Jw {N:mosaic_Node} {m:mosaic_Message} {r:Nat}:kl (Lu N m r).kept m.Key=Jv (kl N.kept m.Key) r m.Vals:=by
 unfold kl;show (lkM (upM N.kept m.Key _) m.Key).getD []=_;rw [Vm];rfl
theorem Sh {N:mosaic_Node} {m x:mosaic_Message} {r:Nat}:has (Lu N m r) x↔x=m∨has N x:=by
 unfold has
 by_cases h:x.Key=m.Key
 ·rw [h,Jw,Ln];constructor
  ·rintro (e|e)
   ·left;obtain ⟨k,v⟩:=x;obtain ⟨k',v'⟩:=m;dsimp only at *;rw [h,e]
   ·exact .inr e
  ·rintro (e|e)
   ·left;rw [e]
   ·exact .inr e
 ·rw [Rf h];exact ⟨.inr,fun e=>e.elim (fun e=>absurd (by rw [e]) h) id⟩
theorem SN.put {F:Nat} {s:mosaic_Spec} {N:mosaic_Node} {m:mosaic_Message} {r:Nat} (h:SN F s N) (hm:okM s m) (hr:r≤(kl N.kept m.Key).length) (h1:r=0∨∃x,(kl N.kept m.Key)[r-1]? = some x∧Cy x m.Vals<0) (h2:r=(kl N.kept m.Key).length∨∃x,(kl N.kept m.Key)[r]? = some x∧Cy m.Vals x<0):SN F s (Lu N m r):=by
 refine ⟨h.ni.put hm hr,fun k=>?_,fun k v hv=>?_⟩
 ·by_cases e:k=m.Key
  ·subst e;rw [Jw];exact Vw (h.so _) hr h1 h2
  ·rw [Rf e];exact h.so k
 ·by_cases e:k=m.Key
  ·subst e;rw [Jw] at hv;rcases Ln.1 hv with rfl|hv
   ·exact hm.vals
   ·exact h.vs _ _ hv
  ·rw [Rf e] at hv;exact h.vs _ _ hv
theorem P4 {F:Nat} {s:mosaic_Spec} {N:mosaic_Node} {m:mosaic_Message} (hF:1000≤F) (hs:GS F s) (h:SN F s N) (ht:tot N.kept<900) :
  ∃(r:Nat) (b:Bool),Ba F N m=some ((r:Int),b)∧r≤(kl N.kept m.Key).length∧(b=true↔has N m)∧(b=false→okM s m→SN F s (Lu N m r)):=by
 have h2:=hs.small;have h3:=Sm N.kept m.Key;obtain ⟨r,b,e,r1,r2,r3,r4⟩:=Uu (F:=F) (by omega) N m (by omega) (fun x hx=>by rw [h.ni.kl_ok _ x hx];omega);have lo:∀i,i<r→∀x,(kl N.kept m.Key)[i]? = some x→Cy x m.Vals<0:=by
  intro i hi x hx;obtain ⟨hx1,rfl⟩:=List.getElem?_eq_some_iff.1 hx;rcases r3 with r3|⟨y,hy,hlt⟩
  ·omega
  ·obtain ⟨hy1,rfl⟩:=List.getElem?_eq_some_iff.1 hy;rcases Nat.lt_or_ge i (r-1) with h'|h'
   ·exact L6 (List.pairwise_iff_getElem.1 (h.so m.Key) i (r-1) hx1 hy1 h') hlt
   ·have:i=r-1:=by omega
    subst this;exact hlt
 have hb:b=true↔has N m:=by
  rw [r2];constructor
  ·rintro ⟨x,hx,hc⟩;have:=Ty hc;subst this;exact List.mem_iff_getElem?.2 ⟨r,hx⟩
  ·intro hm;obtain ⟨i,hi⟩:=List.mem_iff_getElem?.1 hm;have hir:r≤i:=by
    rcases Nat.lt_or_ge i r with h'|h'
    ·have:=lo i h' _ hi;rw [Pn] at this;omega
    ·exact h'
   obtain ⟨hi1,hi2⟩:=List.getElem?_eq_some_iff.1 hi;rcases r4 with r4|⟨y,hy,hn⟩
   ·omega
   ·rcases Nat.eq_or_lt_of_le hir with e|e
    ·subst e;exact ⟨_,hi,Pn _⟩
    ·obtain ⟨hy1,rfl⟩:=List.getElem?_eq_some_iff.1 hy;have:=List.pairwise_iff_getElem.1 (h.so m.Key) r i hy1 hi1 e;rw [hi2] at this;exact absurd this hn
 refine ⟨r,b,e,r1,hb,fun hf hm=>h.put hm r1 r3 ?_⟩;rcases r4 with r4|⟨y,hy,hn⟩
 ·exact .inl r4
 ·right;refine ⟨y,hy,?_⟩;rcases S8 (x:=y) (y:=m.Vals) with c|c|c
  ·exact absurd c hn
  ·have:b=true:=r2.2 ⟨y,hy,c⟩;rw [hf] at this;cases this
  ·exact c
end Go.Proofs.YtkbjbnkkfifbmaaGreat
namespace Go.Proofs.YtkbjbnkkfifbmaaGreat
open Go Go.RowKit Go.Eng
set_option maxRecDepth 10000
set_option linter.unusedVariables false
set_option linter.unusedSimpArgs false
theorem Wx {N:mosaic_Node} {h:Int} {x:mosaic_Message}:has (fgN N h) x↔has N x∧h≤x.Key.Time:=by
 unfold has
 by_cases hk:x.Key.Time<h
 ·rw [Re hk];exact ⟨fun e=>(by cases e),fun e=>by omega⟩
 ·rw [Uc hk];exact ⟨fun e=>⟨e,by omega⟩,fun e=>e.1⟩
theorem SN.fg {F:Nat} {s:mosaic_Spec} {N:mosaic_Node} (hN:SN F s N) (h:Int):SN F s (fgN N h):=by
 refine ⟨hN.ni.fg h,fun k=>?_,fun k v hv=>?_⟩
 ·by_cases hk:k.Time<h
  ·rw [Re hk];exact .nil
  ·rw [Uc hk];exact hN.so k
 ·by_cases hk:k.Time<h
  ·rw [Re hk] at hv;cases hv
  ·rw [Uc hk] at hv;exact hN.vs k v hv
instance lawfulBA:LawfulBEq ByteArray where
 eq_of_beq:=fun h=>(baE _ _).1 h
 rfl:=(baE _ _).2 rfl
theorem Uw {l:List mosaic_Radar} (hl:l.length≤1000):∀(n i:Nat),i≤l.length→l.length-i<n→Ar l l n (i:Int)=some true:=by
 intro n
 induction n with
 | zero=>intro i _ h;omega
 | succ n ih =>
  intro i hi hn;rw [Ar];unfold B4
  by_cases hc:i<l.length
  ·rw [Gx (dT (by omega)),Lb i l[i] rfl (List.getElem?_eq_getElem hc),Lb i l[i] rfl (List.getElem?_eq_getElem hc),Cx (by simp),ckb (by omega)];exact ih (i+1) hc (by omega)
  ·rw [Cx (dF (by omega))];rfl
theorem R9 {F:Nat} {s:mosaic_Spec} (hl:s.Radars.length≤1000) (hF:s.Radars.length<F):Ek F s s=some true:=by
 have e:Ay F s.Radars s.Radars=some true:=by
  unfold Ay;rw [Cx (by simp)];exact Uw hl F 0 (Nat.zero_le _) (by omega)
 unfold Ek;have e2:(bif (bif (((s.Grid.X:Int)==s.Grid.X)&&(((s.Grid.Y:Int)==s.Grid.Y)&&(((s.Grid.Size:Int)==s.Grid.Size)&&(((s.Grid.Wide:Int)==s.Grid.Wide)&&(((s.Grid.High:Int)==s.Grid.High)&&true))))) then (((s.Earth.Lo:Int)==s.Earth.Lo)&&(((s.Earth.Hi:Int)==s.Earth.Hi)&&true)) else false) then (s.Age==s.Age) else false)=true:=by simp
 rw [e2,e];rfl
theorem Qo {N:mosaic_Node} {m:mosaic_Message}:m∈Jc N↔has N m:=Um
theorem U5 {B:List (mosaic_Key×List (List api_Span))} (hn:(B.map (·.1)).Nodup):((B.map (·.1)).flatMap fun k=>(kl B k).map (mosaic_Message.mk k)).length=tot B:=by
 induction B with
 | nil=>rfl
 | cons p B ih =>
  rw [List.map_cons,List.nodup_cons] at hn;rw [List.map_cons,List.flatMap_cons,List.length_append,List.length_map];have e1:tot (p::B)=p.2.length+tot B:=by simp [tot]
  have e2:kl (p::B) p.1=p.2:=by unfold kl lkM;rw [if_pos rfl];rfl
  have e3:((B.map (·.1)).flatMap fun k=>(kl (p::B) k).map (mosaic_Message.mk k))=(B.map (·.1)).flatMap fun k=>(kl B k).map (mosaic_Message.mk k):=by
   have fm:∀l:List mosaic_Key,(∀x∈l,x∈B.map (·.1))→(l.flatMap fun k=>(kl (p::B) k).map (mosaic_Message.mk k))=l.flatMap fun k=>(kl B k).map (mosaic_Message.mk k):=by
    intro l
    induction l with
    | nil=>intro _;rfl
    | cons x l ih =>
     intro hx;rw [List.flatMap_cons,List.flatMap_cons,ih fun y hy=>hx y (.tail _ hy)];have:kl (p::B) x=kl B x:=by
      unfold kl;show (if x=p.1 then some p.2 else lkM B x).getD []=_;rw [if_neg (fun e:x=p.1=>hn.1 (e▸hx x (.head _)))]
     rw [this]
   exact fm _ fun x hx=>hx
  rw [e1,e2,e3,ih hn.2]
theorem Qp {F:Nat} {s:mosaic_Spec} {N:mosaic_Node} (h:NI F s N):(Jc N).length=tot N.kept:=by
 have:=(List.Perm.flatMap_right (fun k=>(kl N.kept k).map (mosaic_Message.mk k)) (Jx N).2.1).length_eq;exact this.trans (U5 h.nd)
end Go.Proofs.YtkbjbnkkfifbmaaGreat
namespace Go.Proofs.YtkbjbnkkfifbmaaGreat
open Go Go.RowKit Go.Eng
set_option maxRecDepth 10000
set_option linter.unusedVariables false
set_option linter.unusedSimpArgs false
theorem S5 (F:Nat) (N:mosaic_Node) (m:mosaic_Message):C1 F N m=Bu F N m:=by
 have h:∀n,Bf m n=Bc m n:=by
  intro n
  induction n with
  | zero=>funext x;rfl
  | succ n ih =>
   funext x
   rw [Bf,Bc,ih];rfl
 unfold C1 Bu;rw [h]
theorem Rr (F:Nat) (N:mosaic_Node) (m:mosaic_Message):Aq F N m=Bn F N m:=by
 have e1:∀N m,Bz F N m=Ba F N m:=fun N m=>rfl;have e2:∀N m,Ct F N m=C0 F N m:=fun N m=>rfl;unfold Aq Bn;simp only [S5,e1,e2]
theorem Ur {F:Nat} {s:mosaic_Spec} {N:mosaic_Node} {m:mosaic_Message} (hF:1000≤F) (hs:GS F s) (h:SN F s N) (hm:okM s m) (h0:N.horizon=0) (hc:tot N.kept≤256) :
  (has N m→Aq F N m=some (false,0,N)) ∧
  (¬has N m→tot N.kept<256→∃N',Aq F N m=some (true,0,N')∧SN F s N'∧N'.horizon=0∧tot N'.kept=tot N.kept+1∧∀x,has N' x↔x=m∨has N x) ∧
  (¬has N m→tot N.kept=256→Aq F N m=some (false,13,N)):=by
 have h4:=h.ni.count;have ht:=hm.key.2.2.1;rw [Rr];obtain ⟨r,b,e,r1,r2,r3⟩:=P4 (m:=m) hF hs h (by omega);have e0:Bn F N m=bif b then some (false,0,N) else (bif (decide (N.count≥256)) then (some (false,13,N)) else ((C0 F N m).bind fun y27=>some (true,0,y27))):=by
  unfold Bn Bg;rw [sbd,cond_false,V5 hF hs h.ni hm,sbd,Cx (c:=(0:Int) != 0) rfl,Cx (dF (by omega)),e,sbd]
 rw [e0];refine ⟨fun hh=>by rw [r2.2 hh];rfl,fun hh ht=>?_,fun hh ht=>?_⟩
 ·have hb:b=false:=by
   cases b with
   | false=>rfl
   | true=>exact absurd (r2.1 rfl) hh
  subst hb;have hS:=r3 rfl hm;rw [cond_false,Cx (dF (by omega)),Uv hF hs h.ni hm (by omega) e r1,sbd];refine ⟨Lu N m r,rfl,hS,h0,?_,fun x=>Sh⟩;have h1:=hS.ni.count;have h2:(Lu N m r).count=N.count+1:=rfl;omega
 ·have hb:b=false:=by
   cases b with
   | false=>rfl
   | true=>exact absurd (r2.1 rfl) hh
  subst hb;rw [cond_false,Gx (dT (by omega))]
def Ju (N:mosaic_Node) (x:mosaic_Message):Bool:=decide (x.Vals∈kl N.kept x.Key)
theorem Gr {N:mosaic_Node} {x:mosaic_Message}:Ju N x=true↔has N x:=by unfold Ju has;exact decide_eq_true_iff
theorem X6 {F:Nat} {s:mosaic_Spec} {p0:mosaic_Node} {Y:Int×mosaic_Node} {M:List mosaic_Message} (hF:1000≤F) (hs:GS F s) (hM:∀m∈M,okM s m) (hnd:M.Nodup) :
  ∀(n i:Nat) (C:mosaic_Node),i≤M.length→M.length-i<n→SN F s C→C.horizon=0→tot C.kept+(M.length-i)≤800→M.length≤1000 →
   ∃C',Bl F p0 Y M n C.spec.Grid.X C.spec.Grid.Y C.horizon C.count C.spec.Grid.Size C.spec.Grid.Wide C.spec.Grid.High C.spec.Earth.Lo C.spec.Earth.Hi C.spec.Radars C.spec.Age C.kept C.radars C.looks (i:Int)=Br p0 Y C'.spec.Grid.X C'.spec.Grid.Y C'.horizon C'.count C'.spec.Grid.Size C'.spec.Grid.Wide C'.spec.Grid.High C'.spec.Earth.Lo C'.spec.Earth.Hi C'.spec.Radars C'.spec.Age C'.kept C'.radars C'.looks∧SN F s C'∧C'.horizon=0∧tot C'.kept=tot C.kept+((M.drop i).filter (fun x=>!Ju C x)).length:=by
 intro n
 induction n with
 | zero=>intro i C _ h;omega
 | succ n ih =>
  intro i C hi hn hC h0 hb hl;have hcc:=hC.ni.count;rw [Bl];unfold Cs
  by_cases hc:i<M.length
  ·have hm:=hM _ (List.getElem_mem hc);have htm:=hm.key.2.2.1;obtain ⟨r,b,e,r1,r2,r3⟩:=P4 (m:=M[i]) hF hs hC (by omega);rw [Gx (dT (by omega)),Lb i M[i] rfl (List.getElem?_eq_getElem hc)];rw [show (mosaic_Node.mk (mosaic_Spec.mk (api_Grid.mk C.spec.Grid.X C.spec.Grid.Y C.spec.Grid.Size C.spec.Grid.Wide C.spec.Grid.High) (api_Span.mk C.spec.Earth.Lo C.spec.Earth.Hi) C.spec.Radars C.spec.Age) C.radars C.horizon C.kept C.count C.looks)=C from rfl];rw [e,sbd];have ed:=List.drop_eq_getElem_cons hc;have hnd':(M.drop i).Nodup:=hnd.sublist (List.drop_sublist _ _);rw [ed,List.nodup_cons] at hnd'
   cases b with
   | false =>
    have hn2:¬has C M[i]:=fun x=>by have:=r2.2 x;cases this
    have hS:=r3 rfl hm;have hcn:(Lu C M[i] r).count=C.count+1:=rfl;have hSc:=hS.ni.count;rw [Gx (c:=bif (!((r:Int),false).2) then (decide (M[i].Key.Time≥C.horizon)) else false) (by show decide (M[i].Key.Time≥C.horizon)=true;exact dT (by omega)),Uv hF hs hC.ni hm (by omega) e r1,sbd];unfold Bs;rw [ckb (by omega)];obtain ⟨C',q1,q2,q3,q4⟩:=ih (i+1) (Lu C M[i] r) hc (by omega) hS h0 (by omega) hl;refine ⟨C',q1,q2,q3,?_⟩;have hf:((M.drop (i+1)).filter fun x=>!Ju (Lu C M[i] r) x)=(M.drop (i+1)).filter fun x=>!Ju C x:=by
     apply List.filter_congr;intro x hx;have:Ju (Lu C M[i] r) x=Ju C x:=by
      rw [Bool.eq_iff_iff,Gr,Gr,Sh];exact ⟨fun h=>h.elim (fun e=>absurd (e▸hx) hnd'.1) id,.inr⟩
     rw [this]
    have hfa:(!Ju C M[i])=true:=by
     cases hh:Ju C M[i] with
     | true=>exact absurd (Gr.1 hh) hn2
     | false=>rfl
    rw [hf] at q4;rw [ed,List.filter_cons,if_pos hfa,List.length_cons];omega
   | true =>
    have hh:=r2.1 rfl;rw [Cx (c:=bif (!((r:Int),true).2) then (decide (M[i].Key.Time≥C.horizon)) else false) rfl];unfold Bs;rw [ckb (by omega)];obtain ⟨C',q1,q2,q3,q4⟩:=ih (i+1) C hc (by omega) hC h0 (by omega) hl;refine ⟨C',q1,q2,q3,?_⟩;rw [ed,List.filter_cons,if_neg (by rw [Gr.2 hh];simp)];exact q4
  ·rw [Cx (dF (by omega)),List.drop_eq_nil_of_le (by omega)];exact ⟨C,rfl,hC,h0,by simp⟩
theorem So {F:Nat} {s:mosaic_Spec} {N:mosaic_Node} (h:SN F s N):(Jc N).Nodup:=by
 unfold Jc;refine List.pairwise_flatMap.2 ⟨fun k _=>?_,(Ud h.ni).imp fun {a b} hab=>?_⟩
 ·refine List.pairwise_map.2 ((h.so k).imp fun {a b} hab=>?_);intro e;have:a=b:=congrArg (·.Vals) e;subst this;rw [Pn] at hab;omega
 ·intro x hx y hy e;obtain ⟨_,_,rfl⟩:=List.mem_map.1 hx;obtain ⟨_,_,rfl⟩:=List.mem_map.1 hy;exact hab (congrArg (·.Key) e)
end Go.Proofs.YtkbjbnkkfifbmaaGreat
namespace Go.Proofs.YtkbjbnkkfifbmaaGreat
open Go Go.RowKit Go.Eng
set_option maxRecDepth 10000
set_option linter.unusedVariables false
set_option linter.unusedSimpArgs false
def s1:mosaic_Spec:=⟨⟨law11_S.Grid.X,law11_S.Grid.Y,law11_S.Grid.Size,1,1⟩,⟨law11_S.Earth.Lo,law11_S.Earth.Hi⟩,law11_S.Radars,law11_S.Age⟩
def nmA:ByteArray:=⟨#[97]⟩
theorem rg1:RG 2000 s1:=by
 refine ⟨⟨by decide,by decide,by decide,by decide,by decide⟩,?_,by decide,by decide,by decide,?_,?_⟩
 ·unfold VE;decide
 ·show ([(⟨#[97]⟩:ByteArray),⟨#[98]⟩]).Nodup
  decide
 ·intro r hr;have hr:r∈[(mosaic_Radar.mk (api_Site.mk (⟨#[97]⟩:ByteArray) (-1500) (-500) 100 1 3 1000 0) (api_Span.mk 0 0)),(mosaic_Radar.mk (api_Site.mk (⟨#[98]⟩:ByteArray) 1500 (-500) 100 1 3 1000 0) (api_Span.mk 5 10))]:=hr;rcases List.mem_cons.1 hr with rfl|hr
  ·exact ⟨⟨by decide,by decide,by decide,by decide,by decide,by decide,by decide⟩,by kernel_rfl,by decide,by decide⟩
  ·rcases List.mem_cons.1 hr with rfl|hr
   ·exact ⟨⟨by decide,by decide,by decide,by decide,by decide,by decide,by decide⟩,by kernel_rfl,by decide,by decide⟩
   ·cases hr
def T7 (c i:Nat):mosaic_Key:=⟨nmA,0,((i%c:Nat):Int)⟩
def mM (c i:Nat):mosaic_Message:=⟨T7 c i,[⟨(i:Int),(i:Int)⟩]⟩
def vW (i:Nat):Int:=if i%2=1 then 1000+i else i
def wM (c i:Nat):mosaic_Message:=⟨T7 c i,[⟨vW i,vW i⟩]⟩
theorem Vj {c i:Nat} (hc:1≤c∧c≤400):okK s1 (T7 c i):=by
 have:=Nat.mod_lt i (show 0<c by omega);refine ⟨⟨_,show lkM (radM s1) nmA=some (mosaic_Radar.mk (api_Site.mk (⟨#[97]⟩:ByteArray) (-1500) (-500) 100 1 3 1000 0) (api_Span.mk 0 0)) by kernel_rfl⟩,⟨by show (0:Int)≤0;omega,by show (0:Int)≤256;omega⟩,?_⟩;show (0:Int)≤((i%c:Nat):Int)∧((i%c:Nat):Int)≤4294967296;omega
theorem okV {c i:Nat} {v:Int} (hc:1≤c∧c≤400) (hv:0≤v∧v≤1000000):okM s1 ⟨T7 c i,[⟨v,v⟩]⟩:=by
 refine ⟨Vj hc,rfl,fun x hx=>?_⟩;rw [List.mem_singleton.1 hx];exact ⟨hv.1,Int.le_refl _,hv.2⟩
theorem Yp {i:Nat} (hi:i≤300):0≤vW i∧vW i≤1000000:=by unfold vW;split<;>omega
theorem Uh {c i j:Nat} (h:mM c i=mM c j):i=j:=by
 have:=congrArg (fun m:mosaic_Message=>(m.Vals.headD default).Lo) h;have:(i:Int)=j:=this;omega
theorem Yq {c i j:Nat} {v u:Int} (h:(⟨T7 c i,[⟨v,v⟩]⟩:mosaic_Message)=⟨T7 c j,[⟨u,u⟩]⟩):v=u:=congrArg (fun m:mosaic_Message=>(m.Vals.headD default).Lo) h
theorem V4 {c i j:Nat} (hi:i≤300) (hj:j≤300) (h:wM c i=wM c j):i=j:=by
 have:=Yq h;unfold vW at this
 split at this<;>split at this<;>omega
theorem mw {c i j:Nat} (hi:i≤300) (hj:j≤300):mM c i=wM c j↔i=j∧j%2=0:=by
 constructor
 ·intro h;have:(i:Int)=vW j:=Yq h;unfold vW at this
  split at this<;>omega
 ·rintro ⟨rfl,h⟩;unfold mM wM vW;rw [if_neg (by omega)]
structure St1 (f:Nat→mosaic_Message) (i:Nat) (N:mosaic_Node):Prop where
 sn:SN 2000 s1 N
 hz:N.horizon=0
 tt:tot N.kept=min i 256
 hs:∀x,has N x↔∃j,j<min i 256∧x=f j
theorem Sp {f:Nat→mosaic_Message} {i:Nat} {N:mosaic_Node} (hi:i<300) (h:St1 f i N) (hm:okM s1 (f i)) (hinj:∀j,j≤300→f i=f j→i=j) :
  ∃N',Aq 2000 N (f i)=some (decide (i<256),if i<256 then 0 else 13,N')∧St1 f (i+1) N':=by
 have hs:=rg1.gs;have hno:¬has N (f i):=by
  intro hh;obtain ⟨j,h1,h2⟩:=(h.hs _).1 hh;have:=hinj j (by omega) h2;omega
 have htt:=h.tt;obtain ⟨o1,o2,o3⟩:=Ur (F:=2000) (by omega) hs h.sn hm h.hz (by omega)
 by_cases hc:i<256
 ·obtain ⟨N',e,n1,n2,n3,n4⟩:=o2 hno (by omega);refine ⟨N',by rw [e,dT hc,if_pos hc],n1,n2,by omega,fun x=>?_⟩;rw [n4,h.hs];constructor
  ·rintro (rfl|⟨j,h1,h2⟩)
   ·exact ⟨i,by omega,rfl⟩
   ·exact ⟨j,by omega,h2⟩
  ·rintro ⟨j,h1,h2⟩
   by_cases hj:j=i
   ·subst hj;exact .inl h2
   ·exact .inr ⟨j,by omega,h2⟩
 ·refine ⟨N,by rw [o3 hno (by omega),dF hc,if_neg hc],h.sn,h.hz,by omega,fun x=>?_⟩;rw [h.hs];have e:min (i+1) 256=min i 256:=by omega
  rw [e]
theorem st0 {f:Nat→mosaic_Message}:St1 f 0 (J8 s1):=⟨⟨Sx,fun k=>.nil,fun k v hv=>by cases hv⟩,rfl,rfl,fun x=>⟨fun h=>(by cases h),fun ⟨j,h,_⟩=>by omega⟩⟩
theorem news {c k:Nat} {N:mosaic_Node} (hN:St1 (mM c) k N):∀i,i≤min k 256→(((List.range i).map (wM c)).filter fun x=>!Ju N x).length=i/2:=by
 intro i
 induction i with
 | zero=>intro _;rfl
 | succ i ih =>
  intro hi;have:=ih (by omega);rw [List.range_succ,List.map_append,List.filter_append,List.length_append,this];show i/2+(([wM c i]).filter fun x=>!Ju N x).length=_;have hb:Ju N (wM c i)=decide (i%2=0):=by
   rw [Bool.eq_iff_iff,Gr,decide_eq_true_iff,hN.hs];constructor
   ·rintro ⟨j,h1,h2⟩;exact ((mw (by omega) (by omega)).1 h2.symm).2
   ·intro h;exact ⟨i,by omega,((mw (by omega) (by omega)).2 ⟨rfl,h⟩).symm⟩
  rw [List.filter_cons,hb]
  by_cases h:i%2=0
  ·rw [dT h];simp;omega
  ·rw [dF h];simp;omega
theorem Ro {c k:Nat} {N O:mosaic_Node} (hc:1≤c∧c≤400) (hk:k≤300) (hN:St1 (mM c) k N) (hO:St1 (wM c) k O) :
  ∃N',Cn 2000 N O=some (if min k 256+min k 256/2>256 then (0,13,N') else (((min k 256/2:Nat):Int),0,N')):=by
 have hs:=rg1.gs;have hl:=rg1.len;have hmo:=Qp hO.sn.ni;have htN:=hN.tt;have htO:=hO.tt;have hperm:(Jc O).Perm ((List.range (min k 256)).map (wM c)):=by
  refine (List.perm_ext_iff_of_nodup (So hO.sn) ?_).2 fun x=>?_
  ·refine List.pairwise_map.2 ((List.nodup_range).imp_of_mem fun {a b} ha hb hab=>fun e=>hab (V4 (by have:=List.mem_range.1 ha;omega) (by have:=List.mem_range.1 hb;omega) e))
  ·rw [Qo,hO.hs,List.mem_map];exact ⟨fun ⟨j,h1,h2⟩=>⟨j,List.mem_range.2 h1,h2.symm⟩,fun ⟨j,h1,h2⟩=>⟨j,List.mem_range.1 h1,h2.symm⟩⟩
 have hfg:=hN.sn.fg 0;have hfe:∀x,has (fgN N 0) x↔has N x:=fun x=>by
  rw [Wx];exact ⟨fun h=>h.1,fun h=>⟨h,(hN.sn.okm h).key.2.2.1⟩⟩
 have hft:tot (fgN N 0).kept=tot N.kept:=by
  have h1:tot (N.kept.filter fun p=>!Hr 0 p)+H7 0 N.kept=tot N.kept:=S0 0 N.kept;have h2:(N.kept.filter fun p=>!Hr 0 p)=N.kept:=by
   rw [List.filter_eq_self];intro p hp;have:=(hN.sn.ni.ok p hp).1.2.2.1;unfold Hr;rw [dF (by omega)];rfl
  show tot (N.kept.filter fun p=>!Hr 0 p)=_;rw [h2]
 have hcnt:(fgN N 0).count=((min k 256:Nat):Int):=by rw [hfg.ni.count,hft,htN]
 obtain ⟨C',q1,q2,q3,q4⟩:=X6 (F:=2000) (p0:=N) (Y:=((H7 0 N.kept:Int),fgN N 0)) (M:=Jc O) (by omega) hs (fun m hm=>hO.sn.okm (Qo.1 hm)) (So hO.sn) 2000 0 (fgN N 0) (Nat.zero_le _) (by omega) hfg rfl (by omega) (by omega);have hnew:((Jc O).filter fun x=>!Ju (fgN N 0) x).length=min k 256/2:=by
  have e:((Jc O).filter fun x=>!Ju (fgN N 0) x)=(Jc O).filter fun x=>!Ju N x:=by
   apply List.filter_congr;intro x _;have:Ju (fgN N 0) x=Ju N x:=by rw [Bool.eq_iff_iff,Gr,Gr,hfe]
   rw [this]
  rw [e,(hperm.filter _).length_eq];exact news hN _ (Nat.le_refl _)
 rw [List.drop_zero,hnew,hft,htN] at q4;have hcC:=q2.ni.count;have e0:Cn 2000 N O=(Ek 2000 N.spec O.spec).bind fun y30=>bif (!y30) then (some (0,11,N)) else ((Fa 2000 N (if O.horizon>N.horizon then O.horizon else N.horizon)).bind fun y45=>(Bx 2000 O).bind fun y352 =>
   Bl 2000 N y45 y352 2000 y45.2.spec.Grid.X y45.2.spec.Grid.Y y45.2.horizon y45.2.count y45.2.spec.Grid.Size y45.2.spec.Grid.Wide y45.2.spec.Grid.High y45.2.spec.Earth.Lo y45.2.spec.Earth.Hi y45.2.spec.Radars y45.2.spec.Age y45.2.kept y45.2.radars y45.2.looks 0):=rfl
 rw [e0,hN.sn.ni.spec,hO.sn.ni.spec,R9 (by omega) (by omega),sbd,Cx (c:=!true) rfl,hN.hz,hO.hz,if_neg (Int.lt_irrefl _),Vn hN.sn.ni (by omega),sbd,Tr (by omega) hs hO.sn.ni (by omega),sbd]
 by_cases hb:min k 256+min k 256/2>256
 ·refine ⟨⟨N.spec,C'.radars,N.horizon,N.kept,N.count,N.looks⟩,?_⟩;rw [if_pos hb];refine q1.trans ?_;unfold Br;rw [Gx (dT (by omega))]
 ·refine ⟨⟨N.spec,C'.radars,C'.horizon,C'.kept,C'.count,N.looks⟩,?_⟩;rw [if_neg hb];refine q1.trans ?_;unfold Br;rw [Cx (dF (by omega)),show ((H7 0 N.kept:Int),fgN N 0).2.count=((min k 256:Nat):Int) from hcnt,ckb (by omega)];rw [show C'.count-((min k 256:Nat):Int)=((min k 256/2:Nat):Int) by omega]
theorem Wa:H5 2000=some true:=by kernel_rfl
theorem U7 {y:Int×Int×mosaic_Node}:C5 2000 y=some true:=by
 unfold C5;have e:mkI 32 257 (mosaic_Key.mk ByteArray.empty 0 0)=some (List.replicate 257 (mosaic_Key.mk ByteArray.empty 0 0)):=by
  unfold mkI;rw [if_pos (by decide)];rfl
 rw [e,sbd];unfold Cm;rw [if_pos (by rw [List.length_replicate];omega),sbd,Wa];rfl
theorem Wv {c k:Nat} {N O:mosaic_Node} {p0:Int} (hc:1≤c∧c≤400) (hk:k≤300) (hp:0≤p0∧p0≤65535) (hpk:p0.tmod 301=(k:Int)) (hN:St1 (mM c) k N) (hO:St1 (wM c) k O) :
  Cj 2000 p0 N.spec.Grid.X N.spec.Grid.Y N.horizon N.count N.spec.Grid.Size N.spec.Grid.Wide N.spec.Grid.High N.spec.Earth.Lo N.spec.Earth.Hi N.spec.Radars N.spec.Age O.spec.Grid.X O.spec.Grid.Y O.horizon O.count O.spec.Grid.Size O.spec.Grid.Wide O.spec.Grid.High O.spec.Earth.Lo O.spec.Earth.Hi O.spec.Radars O.spec.Age N.radars N.kept N.looks O.radars O.kept O.looks=some true:=by
 have hs:=rg1.gs;have htN:=hN.tt;have hml:=Qp hN.sn.ni;obtain ⟨N',e⟩:=Ro hc hk hN hO;have em:(if (256:Int)<(k:Int) then (256:Int) else (k:Int))=((min k 256:Nat):Int):=by split<;>omega
 unfold Cj;rw [show (mosaic_Node.mk (mosaic_Spec.mk (api_Grid.mk N.spec.Grid.X N.spec.Grid.Y N.spec.Grid.Size N.spec.Grid.Wide N.spec.Grid.High) (api_Span.mk N.spec.Earth.Lo N.spec.Earth.Hi) N.spec.Radars N.spec.Age) N.radars N.horizon N.kept N.count N.looks)=N from rfl,show (mosaic_Node.mk (mosaic_Spec.mk (api_Grid.mk O.spec.Grid.X O.spec.Grid.Y O.spec.Grid.Size O.spec.Grid.Wide O.spec.Grid.High) (api_Span.mk O.spec.Earth.Lo O.spec.Earth.Hi) O.spec.Radars O.spec.Age) O.radars O.horizon O.kept O.count O.looks)=O from rfl];rw [ckb (by omega),Uy (by omega),hpk,Q5 (by omega) hs hN.sn.ni (by omega),sbd,em];rw [Cx (c:=bif ((Jc N,(0:Int)).2 != 0) then true else ((((Jc N,(0:Int)).1.length:Nat):Int) != ((min k 256:Nat):Int))) (by
  show (bif false then true else (((Jc N).length:Int) != ((min k 256:Nat):Int)))=false;rw [hml,htN];simp),e,sbd]
 have q:(((min k 256:Nat):Int))/2=((min k 256/2:Nat):Int):=by omega
 rw [Yd (by omega) (by omega) (by omega),q,ckb (by omega)]
 by_cases hb:min k 256+min k 256/2>256
 ·rw [if_pos hb,Gx (dT (by omega)),Cx (c:=bif (((0:Int),(13:Int),N').1 != 0) then true else (((0:Int),(13:Int),N').2.1 != 13)) rfl];exact U7
 ·rw [if_neg hb,Cx (dF (by omega)),Yd (by omega) (by omega) (by omega),q,Cx (by show (bif (((min k 256/2:Nat):Int) != ((min k 256/2:Nat):Int)) then true else ((0:Int) != 0))=false;simp)];exact U7
end Go.Proofs.YtkbjbnkkfifbmaaGreat
namespace Go.Proofs.YtkbjbnkkfifbmaaGreat
open Go Go.RowKit Go.Eng
set_option maxRecDepth 10000
set_option linter.unusedVariables false
set_option linter.unusedSimpArgs false
theorem Vy {p1:Int} (h:0≤p1∧p1≤65535):0≤p1.tmod 400∧p1.tmod 400<400:=⟨Int.tmod_nonneg 400 h.1,Int.tmod_lt_of_pos p1 (by omega)⟩
theorem To {c i:Nat} {N:mosaic_Node} (hc:1≤c∧c≤400) (hi:i<300) (h:St1 (mM c) (i+1) N):Aq 2000 N (mM c i)=some (false,if i<256 then 0 else 13,N):=by
 have htt:=h.tt;obtain ⟨o1,o2,o3⟩:=Ur (F:=2000) (by omega) rg1.gs h.sn (m:=mM c i) (okV hc (by omega)) h.hz (by omega)
 by_cases hl:i<256
 ·rw [if_pos hl];exact o1 ((h.hs _).2 ⟨i,by omega,rfl⟩)
 ·rw [if_neg hl];refine o3 (fun hh=>?_) (by omega);obtain ⟨j,h1,h2⟩:=(h.hs _).1 hh;have:=Uh h2;omega
theorem Ww {c k:Nat} {p0 p1:Int} {p2:Bool} (hk:k≤300) (hp:0≤p0∧p0≤65535) (hpk:p0.tmod 301=(k:Int)) (hp1:0≤p1∧p1≤65535) (hpc:1+p1.tmod 400=(c:Int)) (hc:1≤c∧c≤400) :
  ∀(n i:Nat) (N O:mosaic_Node),i≤k→k-i<n→St1 (mM c) i N→St1 (wM c) i O→Bk 2000 p0 p1 p2 n N.spec.Grid.X N.spec.Grid.Y N.horizon N.count N.spec.Grid.Size N.spec.Grid.Wide N.spec.Grid.High N.spec.Earth.Lo N.spec.Earth.Hi N.spec.Radars N.spec.Age O.spec.Grid.X O.spec.Grid.Y O.horizon O.count O.spec.Grid.Size O.spec.Grid.Wide O.spec.Grid.High O.spec.Earth.Lo O.spec.Earth.Hi O.spec.Radars O.spec.Age N.radars N.kept N.looks O.radars O.kept O.looks (i:Int)=some true:=by
 intro n
 induction n with
 | zero=>intro i N O _ h;omega
 | succ n ih =>
  intro i N O hi hn hN hO;rw [Bk];unfold D6;rw [ckb (by omega),Uy (by omega),hpk]
  by_cases hc2:i<k
  ·have m1:((i:Int)).tmod (c:Int)=((i%c:Nat):Int):=rfl;have ht:=Vy hp1;rw [Gx (dT (by omega)),ckb (by omega),Uy (by omega),ckb (by omega),hpc,Uy (by omega),m1];rw [show (mosaic_Node.mk (mosaic_Spec.mk (api_Grid.mk N.spec.Grid.X N.spec.Grid.Y N.spec.Grid.Size N.spec.Grid.Wide N.spec.Grid.High) (api_Span.mk N.spec.Earth.Lo N.spec.Earth.Hi) N.spec.Radars N.spec.Age) N.radars N.horizon N.kept N.count N.looks)=N from rfl];rw [show (mosaic_Message.mk (mosaic_Key.mk (⟨#[97]⟩:ByteArray) 0 ((i%c:Nat):Int)) ([(A1 (i:Int))]))=mM c i from rfl];obtain ⟨N',e1,hN'⟩:=Sp (by omega) hN (okV hc (by omega)) (fun j _ h=>Uh h);obtain ⟨O',e2,hO'⟩:=Sp (by omega) hO (okV hc (Yp (by omega))) (fun j hj h=>V4 (by omega) hj h);have K5:C7 2000 O.spec.Grid.X O.spec.Grid.Y O.horizon O.count O.spec.Grid.Size O.spec.Grid.Wide O.spec.Grid.High O.spec.Earth.Lo O.spec.Earth.Hi O.spec.Radars O.spec.Age O.radars O.kept O.looks (i:Int) (Bk 2000 p0 p1 p2 n) ((i%c:Nat):Int) N'.spec.Grid.X N'.spec.Grid.Y N'.horizon N'.count N'.spec.Grid.Size N'.spec.Grid.Wide N'.spec.Grid.High N'.spec.Earth.Lo N'.spec.Earth.Hi N'.spec.Radars N'.spec.Age N'.radars N'.kept N'.looks [⟨vW i,vW i⟩]=some true:=by
    unfold C7;rw [show (mosaic_Node.mk (mosaic_Spec.mk (api_Grid.mk O.spec.Grid.X O.spec.Grid.Y O.spec.Grid.Size O.spec.Grid.Wide O.spec.Grid.High) (api_Span.mk O.spec.Earth.Lo O.spec.Earth.Hi) O.spec.Radars O.spec.Age) O.radars O.horizon O.kept O.count O.looks)=O from rfl];rw [show (mosaic_Message.mk (mosaic_Key.mk (⟨#[97]⟩:ByteArray) 0 ((i%c:Nat):Int)) [⟨vW i,vW i⟩])=wM c i from rfl,e2,sbd,ckb (by omega)];exact ih (i+1) N' O' (by omega) (by omega) hN' hO'
   have K4:C6 2000 O.spec.Grid.X O.spec.Grid.Y O.horizon O.count O.spec.Grid.Size O.spec.Grid.Wide O.spec.Grid.High O.spec.Earth.Lo O.spec.Earth.Hi O.spec.Radars O.spec.Age O.radars O.kept O.looks (i:Int) (Bk 2000 p0 p1 p2 n) ((i%c:Nat):Int) N'.spec.Grid.X N'.spec.Grid.Y N'.horizon N'.count N'.spec.Grid.Size N'.spec.Grid.Wide N'.spec.Grid.High N'.spec.Earth.Lo N'.spec.Earth.Hi N'.spec.Radars N'.spec.Age N'.radars N'.kept N'.looks=some true:=by
    have m2:((i:Int)).tmod 2=((i%2:Nat):Int):=rfl;unfold C6;rw [Uy (by omega),m2]
    by_cases ho:i%2=1
    ·have ev:vW i=1000+(i:Int):=by unfold vW;rw [if_pos ho]
     rw [Gx (by rw [ho];rfl),ckb (by omega),Lb (i:=(0:Int)) 0 _ rfl (show ([(A1 (i:Int))]:List api_Span)[0]? = some (A1 (i:Int)) from rfl)];rw [show Rx ([(A1 (i:Int))]:List api_Span) 0 (A1 (1000+(i:Int)))=some [A1 (1000+(i:Int))] from rfl,sbd];rw [ev] at K5;exact K5
    ·have ev:vW i=(i:Int):=by unfold vW;rw [if_neg ho]
     have e0:i%2=0:=by omega
     rw [Cx (by rw [e0];rfl)];rw [ev] at K5;exact K5
   rw [e1,sbd];rw [Cx (c:=bif (bif (!((decide (i<256),(if i<256 then (0:Int) else 13),N').1==(decide ((i:Int)<256)))) then true else (!(((decide (i<256),(if i<256 then (0:Int) else 13),N').2.1==0)==(decide (i<256),(if i<256 then (0:Int) else 13),N').1))) then true else (bif (!(decide (i<256),(if i<256 then (0:Int) else 13),N').1) then ((decide (i<256),(if i<256 then (0:Int) else 13),N').2.1 != 13) else false)) (by
    by_cases hl:i<256
    ·rw [dT hl,if_pos hl,dT (show (i:Int)<256 by omega)];rfl
    ·rw [dF hl,if_neg hl,dF (show ¬(i:Int)<256 by omega)];rfl)]
   rw [show (decide (i<256),(if i<256 then (0:Int) else 13),N').2.2=N' from rfl]
   cases p2 with
   | false=>rw [cond_false];exact K4
   | true =>
    rw [cond_true,show (mosaic_Node.mk (mosaic_Spec.mk (api_Grid.mk N'.spec.Grid.X N'.spec.Grid.Y N'.spec.Grid.Size N'.spec.Grid.Wide N'.spec.Grid.High) (api_Span.mk N'.spec.Earth.Lo N'.spec.Earth.Hi) N'.spec.Radars N'.spec.Age) N'.radars N'.horizon N'.kept N'.count N'.looks)=N' from rfl,To hc (by omega) hN',sbd];rw [Cx (c:=bif (false,(if i<256 then (0:Int) else 13),N').1 then true else (bif (decide ((i:Int)<256)) then ((false,(if i<256 then (0:Int) else 13),N').2.1 != 0) else false)) (by
     by_cases hl:i<256
     ·rw [if_pos hl,dT (show (i:Int)<256 by omega)];rfl
     ·rw [if_neg hl,dF (show ¬(i:Int)<256 by omega)];rfl)]
    exact K4
  ·have:i=k:=by omega
   subst this;rw [Cx (dF (by omega))];exact Wv hc hk hp hpk hN hO
theorem Nf (p0 p1:Int) (p2:Bool) (h0:0≤p0∧p0≤65535) (h1:0≤p1∧p1≤65535):De 2000 p0 p1 p2=some true:=by
 have a1:=Int.tmod_nonneg 301 h0.1;have a2:=Int.tmod_lt_of_pos p0 (show (0:Int)<301 by omega);have b1:=Int.tmod_nonneg 400 h1.1;have b2:=Int.tmod_lt_of_pos p1 (show (0:Int)<400 by omega);unfold De;rw [show (mosaic_Spec.mk (api_Grid.mk law11_S.Grid.X law11_S.Grid.Y law11_S.Grid.Size 1 1) (api_Span.mk law11_S.Earth.Lo law11_S.Earth.Hi) law11_S.Radars law11_S.Age)=s1 from rfl,Wo (by omega) rg1,sbd];have eo:∀{β:Type} (f:Int→Option β) (g:mosaic_Node×Int→Option β),exc (.ok (J8 s1,0)) f g=g (J8 s1,0):=fun _ _=>rfl;rw [eo,sbd,eo,Cx (c:=bif ((J8 s1,(0:Int)).2 != 0) then true else ((J8 s1,(0:Int)).2 != 0)) rfl];exact Ww (k:=(p0.tmod 301).toNat) (c:=(1+p1.tmod 400).toNat) (by omega) h0 (by omega) h1 (by omega) (by omega) 2000 0 (J8 s1) (J8 s1) (Nat.zero_le _) (by omega) st0 st0
end Go.Proofs.YtkbjbnkkfifbmaaGreat
