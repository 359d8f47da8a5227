import Derived.Test.YtkbjbnkkfifbmaaGreatR7WkD
import Derived.Lib.DecodeN
set_option linter.unusedVariables false
set_option linter.unusedSimpArgs false
set_option linter.unusedSectionVars false
namespace Go.Proofs.YtkbjbnkkfifbmaaGreat
open Go Go.RowKit Go.Eng
set_option maxRecDepth 10000
set_option linter.unusedVariables false
set_option linter.unusedSimpArgs false
theorem ckb {β:Type} {x:Int} {f:Int→Option β} (h:-9000000000000000000≤x∧x≤9000000000000000000):(ck x).bind f=f x:=by
 unfold ck;rw [if_pos (by omega)];rfl
theorem ckS {x:Int} (h:-9000000000000000000≤x∧x≤9000000000000000000):ck x=some x:=by
 unfold ck;rw [if_pos (by omega)]
theorem gdT {α:Type} {g:Bool} {o:Option α} {d:α} (h:g=true):gd g o d=o:=by subst h;rfl
theorem gdF {α:Type} {g:Bool} {o:Option α} {d:α} (h:g=false):gd g o d=some d:=by subst h;rfl
theorem Bm {α:Type} {c:Bool} {x y:α} (h:c=true):(bif c then x else y)=x:=by rw [h];rfl
theorem Be {α:Type} {c:Bool} {x y:α} (h:c=false):(bif c then x else y)=y:=by rw [h];rfl
theorem sbd {α β:Type} {x:α} {f:α→Option β}:(some x).bind f=f x:=rfl
theorem dT {p:Prop} [Decidable p] (h:p):decide p=true:=decide_eq_true h
theorem dF {p:Prop} [Decidable p] (h:¬p):decide p=false:=decide_eq_false h
theorem Fy {α β:Type} {l:List α} {i:Int} {f:α→Option β} (n:Nat) (x:α) (hi:i=(n:Int)) (h:l[n]? = some x):(C0 l i).bind f=f x:=by
 subst hi;unfold C0;rw [if_pos (by omega),show ((n:Int)).toNat=n by omega,h];rfl
theorem Hq {α β:Type} {l k:List α} {B:Nat} {f:List α→Option β} (h:(l.length+k.length)*B≤140737488355328) (hB:1≤B):(apd B l k).bind f=f (l++k):=by
 unfold apd;have:l.length+k.length≤(l.length+k.length)*B:=Nat.le_mul_of_pos_right _ hB;rw [if_pos ⟨h,by omega⟩];rfl
theorem A0i {x:Int} (h:-9000000000000000000≤x∧x≤9000000000000000000):IntKind.i64.wrap x=x:=by rw [IntKind.wrap_i64];omega
theorem A5l {x y A B:Int} (hx:-A≤x∧x≤A) (hy:-B≤y∧y≤B):-(A*B)≤x*y∧x*y≤A*B:=by
 have h1:(x*y).natAbs≤A.natAbs*B.natAbs:=by rw [Int.natAbs_mul];exact Nat.mul_le_mul (by omega) (by omega)
 have h2:0≤A*B:=Int.mul_nonneg (by omega) (by omega);have h3:(A*B).natAbs=A.natAbs*B.natAbs:=Int.natAbs_mul A B;omega
theorem A3l {x y A B:Int} (hx:0≤x∧x≤A) (hy:0≤y∧y≤B):0≤x*y∧x*y≤A*B :=
 ⟨Int.mul_nonneg hx.1 hy.1,(A5l (A:=A) (B:=B) ⟨by omega,hx.2⟩ ⟨by omega,hy.2⟩).2⟩
theorem A4z {β:Type} {x y:Int} {f:Int→Option β} (hx:0≤x) (hx2:x≤9000000000000000000) (hy:0<y):(Q3 x y).bind f=f (x/y):=by
 unfold Q3;rw [if_neg (by omega),Int.tdiv_eq_ediv_of_nonneg hx,ckb];have h1:0≤x/y:=Int.ediv_nonneg hx (by omega);have h2:x/y≤x:=Int.ediv_le_self _ hx;omega
structure VS (s:api_Site):Prop where
 x:-1048576≤s.X∧s.X≤1048576
 y:-1048576≤s.Y∧s.Y≤1048576
 z:0≤s.Z∧s.Z≤20000
 rose:1≤s.Rose∧s.Rose≤90
 gates:1≤s.Gates∧s.Gates≤200
 step:50≤s.Step∧s.Step≤2000
 width:0≤s.Width∧s.Width≤8
structure VG (g:api_Grid):Prop where
 x:-1048576≤g.X∧g.X≤1048576
 y:-1048576≤g.Y∧g.Y≤1048576
 size:1≤g.Size∧g.Size≤10000
 wide:1≤g.Wide∧g.Wide≤64
 high:1≤g.High∧g.High≤64
end Go.Proofs.YtkbjbnkkfifbmaaGreat
namespace Go.Proofs.YtkbjbnkkfifbmaaGreat
open Go Go.RowKit Go.Eng
set_option maxRecDepth 10000
set_option linter.unusedVariables false
set_option linter.unusedSimpArgs false
def gLo (L t:Int):Int:=L*(262144-t*t)/(2*(262144+t*t))
def gHi (L t:Int):Int:=-(-(L*(262144-t*t))/(2*(262144+t*t)))
def loZ (L t e:Int):Int:=L*(1024*t)/(2*(262144+t*t))+gLo L t*gLo L t/(2*e)
def hiZ (L t e:Int):Int:=-(-(L*(1024*t))/(2*(262144+t*t))) + -(-(gHi L t*gHi L t)/(2*e))
def VE (e:api_Span):Prop:=1000000≤e.Lo∧e.Lo≤e.Hi∧e.Hi≤100000000
def A4e (s:api_Site) (t:Int) (e:api_Span) (g:Int):api_Span:=⟨s.Z+loZ ((2*g+1)*s.Step) (t-s.Width) e.Hi,s.Z+hiZ ((2*g+1)*s.Step) (t+s.Width) e.Lo⟩
end Go.Proofs.YtkbjbnkkfifbmaaGreat
namespace Go.Proofs.YtkbjbnkkfifbmaaGreat
open Go Go.RowKit Go.Eng
set_option maxRecDepth 10000
set_option linter.unusedVariables false
set_option linter.unusedSimpArgs false
section
variable {κ ν:Type} [DecidableEq κ]
theorem Sn (B:List (κ×ν)) (k x:κ) (v:ν):lkM (upM B k v) x=if x=k then some v else lkM B x:=by
 induction B with
 | nil=>rfl
 | cons p B ih =>
  unfold upM
  by_cases h:k=p.1
  ·rw [if_pos h];unfold lkM;subst h
   by_cases hx:x=p.1
   ·rw [if_pos hx,if_pos hx]
   ·rw [if_neg hx,if_neg hx,if_neg hx]
  ·rw [if_neg h];unfold lkM
   by_cases hx:x=p.1
   ·rw [if_pos hx,if_neg (by rw [hx];exact fun e=>h e.symm),if_pos hx]
   ·rw [if_neg hx,ih]
    by_cases hk:x=k
    ·rw [if_pos hk,if_pos hk]
    ·rw [if_neg hk,if_neg hk,if_neg hx]
theorem A1d (B:List (κ×ν)) (k:κ) (v:ν):lkM (upM B k v) k=some v:=by rw [Sn,if_pos rfl]
theorem Zf {B:List (κ×ν)} {k:κ} {v:ν} (h:lkM B k=some v):(k,v)∈B:=by
 induction B with
 | nil=>cases h
 | cons p B ih =>
  unfold lkM at h
  by_cases hk:k=p.1
  ·rw [if_pos hk] at h;cases h;subst hk;exact .head _
  ·rw [if_neg hk] at h;exact .tail _ (ih h)
theorem Wk {B:List (κ×ν)} {k:κ}:(∃v,lkM B k=some v)↔k∈B.map (·.1):=by
 induction B with
 | nil=>simp [lkM]
 | cons p B ih =>
  unfold lkM
  by_cases hk:k=p.1
  ·simp [hk]
  ·rw [if_neg hk,ih];simp [hk]
theorem A4a {B:List (κ×ν)} {k:κ} {v:ν} {p:κ×ν} (h:p∈upM B k v):p=(k,v)∨p∈B:=by
 induction B with
 | nil=>simp [upM] at h;exact .inl h
 | cons q B ih =>
  unfold upM at h
  by_cases hk:k=q.1
  ·rw [if_pos hk] at h;rcases List.mem_cons.1 h with h|h
   ·exact .inl h
   ·exact .inr (.tail _ h)
  ·rw [if_neg hk] at h;rcases List.mem_cons.1 h with h|h
   ·exact .inr (h▸.head _)
   ·rcases ih h with h|h
    ·exact .inl h
    ·exact .inr (.tail _ h)
theorem A25 {B:List (κ×ν)} {k x:κ} {v:ν}:x∈(upM B k v).map (·.1)↔x=k∨x∈B.map (·.1):=by
 rw [←Wk,←Wk,Sn]
 by_cases h:x=k
 ·simp [h]
 ·simp [h]
theorem A0c {B:List (κ×ν)} {k:κ} {v:ν} (hn:(B.map (·.1)).Nodup):((upM B k v).map (·.1)).Nodup:=by
 induction B with
 | nil=>simp [upM]
 | cons q B ih =>
  rw [List.map_cons,List.nodup_cons] at hn;unfold upM
  by_cases hk:k=q.1
  ·rw [if_pos hk,List.map_cons,List.nodup_cons];subst hk;exact hn
  ·rw [if_neg hk,List.map_cons,List.nodup_cons];exact ⟨fun h=>(A25.1 h).elim (fun e=>hk e.symm) hn.1,ih hn.2⟩
end
def tot (B:List (mosaic_Key×List (List api_Span))):Nat:=(B.map fun p=>p.2.length).sum
def kl (B:List (mosaic_Key×List (List api_Span))) (k:mosaic_Key):List (List api_Span):=(lkM B k).getD []
theorem A49 (B:List (mosaic_Key×List (List api_Span))) (k:mosaic_Key) (l:List (List api_Span)):tot (upM B k l)+(kl B k).length=tot B+l.length:=by
 induction B with
 | nil=>simp [tot,upM,kl,lkM]
 | cons p B ih =>
  unfold upM kl lkM
  by_cases h:k=p.1
  ·rw [if_pos h,if_pos h];simp [tot];omega
  ·rw [if_neg h,if_neg h];have e1:∀C,tot (p::C)=p.2.length+tot C:=fun C=>by simp [tot]
   rw [e1,e1];have:((lkM B k).getD []).length=(kl B k).length:=rfl;omega
theorem Zc (B:List (mosaic_Key×List (List api_Span))) (k:mosaic_Key):(kl B k).length≤tot B:=by
 induction B with
 | nil=>simp [kl,lkM]
 | cons p B ih =>
  have e1:tot (p::B)=p.2.length+tot B:=by simp [tot]
  unfold kl lkM
  by_cases h:k=p.1
  ·rw [if_pos h,e1];simp
  ·rw [if_neg h,e1];have:((lkM B k).getD []).length=(kl B k).length:=rfl;omega
theorem Wj {B:List (mosaic_Key×List (List api_Span))} (h:∀p∈B,p.2≠[]):B.length≤tot B:=by
 induction B with
 | nil=>simp [tot]
 | cons p B ih =>
  have e1:tot (p::B)=p.2.length+tot B:=by simp [tot]
  have:=List.length_pos_iff.2 (h p (.head _));have:=ih fun q hq=>h q (.tail _ hq);rw [e1,List.length_cons];omega
def c3 (a b:Int):Int:=if a<b then -1 else if b<a then 1 else 0
def Ha (x y:api_Span):Int:=if c3 x.Lo y.Lo≠0 then c3 x.Lo y.Lo else c3 x.Hi y.Hi
def D8:List api_Span→List api_Span→Int
 | [],[]=>0
 | [],_::_=>-1
 | _::_,[]=>1
 | x::a,y::b=>if Ha x y≠0 then Ha x y else D8 a b
theorem S7 (a b:Int):Ae a b=c3 a b:=by
 unfold Ae Cj c3;simp only [bne_self_eq_false,cond_false]
 by_cases h1:a<b
 ·rw [dT h1,if_pos h1];rfl
 ·by_cases h2:b<a
  ·rw [dF h1,if_neg h1,if_pos h2,dT h2];rfl
  ·rw [dF h1,if_neg h1,if_neg h2,dF h2];rfl
def orL:List Int→Int
 | []=>0
 | x::l=>if x≠0 then x else orL l
theorem A3w (l:List Int):∀(n i:Nat),i≤l.length→l.length-i<n→l.length<1000000→Gh l n (i:Int)=some (orL (l.drop i)):=by
 intro n
 induction n with
 | zero=>intro i _ h;omega
 | succ n ih =>
  intro i hi hn hl;rw [Gh];unfold Kf
  by_cases hc:i<l.length
  ·rw [Bm (dT (by omega)),Fy i l[i] rfl (List.getElem?_eq_getElem hc),List.drop_eq_getElem_cons hc];unfold orL
   by_cases h:l[i]=0
   ·rw [Be (by simpa using h),if_neg (by simpa using h),ckb (by omega)];exact ih (i+1) (by omega) (by omega) hl
   ·rw [Bm (by simpa using h),if_pos h]
  ·rw [Be (dF (by omega)),List.drop_eq_nil_of_le (by omega)];rfl
theorem A4b {F:Nat} (l:List Int) (h:l.length<F) (h2:l.length<1000000):Lg F l=some (orL l):=by
 have:=A3w l F 0 (by omega) (by omega) h2;rw [List.drop_zero] at this;exact this
theorem A5p (a b:Int):orL [a,b]=if a≠0 then a else b:=by
 show (if a≠0 then a else if b≠0 then b else 0)=_
 split
 ·rfl
 ·split<;>omega
theorem V8 {F:Nat} (hF:100≤F) (x y:api_Span):Fj F x y=some (Ha x y):=by
 unfold Fj;rw [S7,S7,A4b _ (by simp;omega) (by simp),sbd,A5p];rfl
theorem A0r {F:Nat} (hF:100≤F) (a b:List api_Span) (ha:a.length<1000000):∀(n i:Nat),i≤a.length→a.length-i<n →
  Ad F a b n (i:Int)=some (if i≤b.length then D8 (a.drop i) (b.drop i) else if i<a.length then 1 else 0):=by
 intro n
 induction n with
 | zero=>intro i _ h;omega
 | succ n ih =>
  intro i hi hn;rw [Ad];unfold Aq
  by_cases hc:i<a.length
  ·rw [Bm (dT (by omega)),Fy i a[i] rfl (List.getElem?_eq_getElem hc)]
   by_cases hb:i<b.length
   ·rw [Be (dF (by omega)),Fy i b[i] rfl (List.getElem?_eq_getElem hb),V8 hF,sbd,if_pos (by omega),List.drop_eq_getElem_cons hc,List.drop_eq_getElem_cons hb];unfold D8
    by_cases h:Ha a[i] b[i]=0
    ·rw [Be (by simpa using h),if_neg (by simpa using h),ckb (by omega)];have:=ih (i+1) (by omega) (by omega);rw [if_pos (by omega)] at this;exact this
    ·rw [Bm (by simpa using h),if_pos h]
   ·rw [Bm (dT (by omega))]
    by_cases hb2:i≤b.length
    ·rw [if_pos hb2,List.drop_eq_nil_of_le (show b.length≤i by omega),List.drop_eq_getElem_cons hc];rfl
    ·rw [if_neg hb2,if_pos hc]
  ·rw [Be (dF (by omega))];unfold Ar;have e:a.drop i=[]:=List.drop_eq_nil_of_le (by omega)
   by_cases hb:a.length<b.length
   ·rw [Bm (dT (by omega)),if_pos (by omega),e,List.drop_eq_getElem_cons (l:=b) (by omega)];rfl
   ·rw [Be (dF (by omega))]
    by_cases hb2:i≤b.length
    ·rw [if_pos hb2,e,List.drop_eq_nil_of_le (show b.length≤i by omega)];rfl
    ·rw [if_neg hb2,if_neg hc]
theorem Sb {F:Nat} (hF:100≤F) (a b:List api_Span) (ha:a.length<F) (h2:a.length<1000000):Fi F a b=some (D8 a b):=by
 unfold Fi As;have:=A0r hF a b h2 F 0 (by omega) (by omega);rw [if_pos (by omega),List.drop_zero,List.drop_zero] at this;have e:Ad F a b F 0=some (D8 a b):=this;rw [e];rfl
theorem A5g {x:Int} (h:0≤x∧x≤9000000000000000000):IntKind.u64.wrap x=x:=by
 have:=h.1;have:=h.2;simp only [IntKind.wrap,IntKind.signed,IntKind.bits];simp;omega
theorem Wv {F:Nat} (hF:100≤F) (l:List (List api_Span)) (v:List api_Span) (hl:l.length<1000000) (hv:∀x∈l,x.length<F∧x.length<1000000):∀(n i j:Nat),i≤j→j≤l.length→j-i<n →
  ∃(r:Nat) (b:Bool),Ah F l v n (j:Int) (i:Int)=some ((r:Int),b)∧r≤l.length∧i≤r∧r≤j∧(b=true↔∃x,l[r]? = some x∧D8 x v=0)∧(r=i∨∃x,l[r-1]? = some x∧D8 x v<0)∧(r=j∨∃x,l[r]? = some x∧¬D8 x v<0):=by
 intro n
 induction n with
 | zero=>intro i j _ _ h;omega
 | succ n ih =>
  intro i j hij hj hn;rw [Ah];unfold Au
  by_cases hc:i<j
  ·have hm:(i+j)/2<l.length:=by omega
   rw [Bm (dT (by omega)),ckb (by omega),A5g (by omega),Int.fdiv_eq_ediv_of_nonneg _ (by omega),ckb (by omega),Fy ((i+j)/2) l[(i+j)/2] (by omega) (List.getElem?_eq_getElem hm)];obtain ⟨h1,h2⟩:=hv _ (List.getElem_mem hm);rw [Sb hF _ _ h1 h2,sbd]
   by_cases hlt:D8 l[(i+j)/2] v<0
   ·rw [Bm (dT hlt),ckb (by omega),show ((i:Int)+(j:Int))/2+1=(((i+j)/2+1:Nat):Int) by omega];obtain ⟨r,b,e,r1,r2,r3,r4,r5,r6⟩:=ih ((i+j)/2+1) j (by omega) hj (by omega);refine ⟨r,b,e,r1,by omega,r3,r4,.inr ?_,r6⟩;rcases r5 with h|h
    ·exact ⟨_,by rw [h,Nat.add_sub_cancel];exact List.getElem?_eq_getElem hm,hlt⟩
    ·exact h
   ·rw [Be (dF hlt),show ((i:Int)+(j:Int))/2=(((i+j)/2:Nat):Int) by omega];obtain ⟨r,b,e,r1,r2,r3,r4,r5,r6⟩:=ih i ((i+j)/2) (by omega) (by omega) (by omega);refine ⟨r,b,e,r1,r2,by omega,r4,r5,.inr ?_⟩;rcases r6 with h|h
    ·exact ⟨_,by rw [h];exact List.getElem?_eq_getElem hm,hlt⟩
    ·exact h
  ·rw [Be (dF (by omega))];unfold Av;have:i=j:=by omega
   subst this
   by_cases hi:i<l.length
   ·rw [Bm (dT (by omega)),Fy i l[i] rfl (List.getElem?_eq_getElem hi)];obtain ⟨h1,h2⟩:=hv _ (List.getElem_mem hi);rw [Sb hF _ _ h1 h2,sbd];refine ⟨i,_,rfl,hj,Nat.le_refl _,Nat.le_refl _,?_,.inl rfl,.inl rfl⟩;rw [List.getElem?_eq_getElem hi];simp
   ·rw [Be (dF (by omega))];refine ⟨i,_,rfl,hj,Nat.le_refl _,Nat.le_refl _,?_,.inl rfl,.inl rfl⟩;rw [List.getElem?_eq_none (by omega)];simp
theorem Zz {F:Nat} (hF:100≤F) (N:mosaic_Node) (m:mosaic_Message) (hl:(kl N.kept m.Key).length<F∧(kl N.kept m.Key).length<1000000) (hv:∀x∈kl N.kept m.Key,x.length<F∧x.length<1000000) :
  ∃(r:Nat) (b:Bool),C9 F N m=some ((r:Int),b)∧r≤(kl N.kept m.Key).length∧(b=true↔∃x,(kl N.kept m.Key)[r]? = some x∧D8 x m.Vals=0)∧(r=0∨∃x,(kl N.kept m.Key)[r-1]? = some x∧D8 x m.Vals<0)∧(r=(kl N.kept m.Key).length∨∃x,(kl N.kept m.Key)[r]? = some x∧¬D8 x m.Vals<0):=by
 obtain ⟨r,b,e,r1,_,_,r4,r5,r6⟩:=Wv hF (kl N.kept m.Key) m.Vals hl.2 hv F 0 (kl N.kept m.Key).length (by omega) (Nat.le_refl _) (by omega);refine ⟨r,b,?_,r1,r4,r5,r6⟩;unfold C9 Az;have e':Ah F ((lkM N.kept m.Key).getD []) m.Vals F (((lkM N.kept m.Key).getD []).length:Int) 0=some ((r:Int),b):=e;rw [e'];rfl
end Go.Proofs.YtkbjbnkkfifbmaaGreat
namespace Go.Proofs.YtkbjbnkkfifbmaaGreat
open Go Go.RowKit Go.Eng
set_option maxRecDepth 10000
set_option linter.unusedVariables false
set_option linter.unusedSimpArgs false
def radM (s:mosaic_Spec):List (ByteArray×mosaic_Radar):=s.Radars.foldl (fun B r=>upM B r.Site.Name r) []
def pix (s:mosaic_Spec):Nat:=(s.Grid.Wide*s.Grid.High).toNat
structure GS (F:Nat) (s:mosaic_Spec):Prop where
 g:VG s.Grid
 e:VE s.Earth
 age:1≤s.Age∧s.Age≤86400
 small:pix s≤500
 r:∀n x,lkM (radM s) n=some x→VS x.Site∧beam_CheckSite F x.Site=some 0∧(-3600≤x.Offset.Lo∧x.Offset.Lo≤x.Offset.Hi∧x.Offset.Hi≤3600)∧n≠ByteArray.empty∧x.Site.Name=n
def okK (s:mosaic_Spec) (k:mosaic_Key):Prop:=(∃r,lkM (radM s) k.Name=some r)∧(0≤k.Tilt∧k.Tilt≤256)∧(0≤k.Time∧k.Time≤4294967296)
structure okM (s:mosaic_Spec) (m:mosaic_Message):Prop where
 key:okK s m.Key
 len:m.Vals.length=pix s
 vals:∀v∈m.Vals,0≤v.Lo∧v.Lo≤v.Hi∧v.Hi≤1000000
def A31 (F:Nat) (s:mosaic_Spec) (w:mosaic_where):List api_Span :=
 (((P2 F ((lkM (radM s) w.name).getD default).Site w.tilt s.Grid).getD ([],0)).1).map fun v=>if 0≤v then A4e ((lkM (radM s) w.name).getD default).Site w.tilt s.Earth (v.tmod ((lkM (radM s) w.name).getD default).Site.Gates) else ⟨1,0⟩
def LV (F:Nat) (s:mosaic_Spec) (L:List (mosaic_where×List api_Span)):Prop:=∀w l,lkM L w=some l→l=A31 F s w
structure NI (F:Nat) (s:mosaic_Spec) (N:mosaic_Node):Prop where
 spec:N.spec=s
 radars:N.radars=radM s
 nd:(N.kept.map (·.1)).Nodup
 ok:∀p∈N.kept,okK s p.1∧p.2≠[]∧∀v∈p.2,v.length=pix s
 count:N.count=(tot N.kept:Int)
 looks:LV F s N.looks
def Ns (l:List (List api_Span)) (r:Nat) (v:List api_Span):List (List api_Span):=l.take r++[v]++l.drop r
def Ny (N:mosaic_Node) (m:mosaic_Message) (r:Nat):mosaic_Node:=⟨N.spec,N.radars,N.horizon,upM N.kept m.Key (Ns (kl N.kept m.Key) r m.Vals),N.count+1,N.looks⟩
theorem Tl {l:List (List api_Span)} {r:Nat} {v:List api_Span} (h:r≤l.length):(Ns l r v).length=l.length+1:=by unfold Ns;simp;omega
theorem R6 {l:List (List api_Span)} {r:Nat} {v x:List api_Span}:x∈Ns l r v↔x=v∨x∈l:=by
 unfold Ns;rw [List.mem_append,List.mem_append,List.mem_singleton];constructor
 ·rintro ((h|h)|h)
  ·exact .inr (List.mem_of_mem_take h)
  ·exact .inl h
  ·exact .inr (List.mem_of_mem_drop h)
 ·rintro (h|h)
  ·exact .inl (.inr h)
  ·rw [←List.take_append_drop r l] at h;rcases List.mem_append.1 h with h|h
   ·exact .inl (.inl h)
   ·exact .inr h
theorem NI.kl_ok {F:Nat} {s:mosaic_Spec} {N:mosaic_Node} (h:NI F s N) (k:mosaic_Key):∀v∈kl N.kept k,v.length=pix s:=by
 intro v hv;unfold kl at hv
 cases e:lkM N.kept k with
 | none=>rw [e] at hv;cases hv
 | some l=>rw [e] at hv;exact (h.ok _ (Zf e)).2.2 v hv
theorem NI.put {F:Nat} {s:mosaic_Spec} {N:mosaic_Node} {m:mosaic_Message} {r:Nat} (h:NI F s N) (hm:okM s m) (hr:r≤(kl N.kept m.Key).length):NI F s (Ny N m r):=by
 refine ⟨h.spec,h.radars,A0c h.nd,?_,?_,h.looks⟩
 ·intro p hp;rcases A4a hp with rfl|hp
  ·refine ⟨hm.key,fun e=>?_,fun v hv=>?_⟩
   ·have:=Tl (v:=m.Vals) hr;have e':Ns (kl N.kept m.Key) r m.Vals=[]:=e;rw [e'] at this;simp at this
   ·rcases R6.1 hv with rfl|hv
    ·exact hm.len
    ·exact h.kl_ok _ v hv
  ·exact h.ok p hp
 ·have h1:=A49 N.kept m.Key (Ns (kl N.kept m.Key) r m.Vals);rw [Tl hr] at h1;show N.count+1=_;rw [h.count];show _=((tot (upM N.kept m.Key (Ns (kl N.kept m.Key) r m.Vals)):Nat):Int);omega
theorem Tr {n a b:Int} (h:a≤n∧n≤b):B7 n a b=true:=by unfold B7;rw [dT h.1,dT h.2];rfl
theorem Z9 {v:api_Span} {a b:Int} (h:a≤v.Lo∧v.Lo≤v.Hi∧v.Hi≤b):B2 v a b=true:=by unfold B2;rw [dT h.1,dT h.2.1,dT h.2.2];rfl
theorem A4x {F:Nat} {s:mosaic_Spec} (h:GS F s):s.Grid.Wide*s.Grid.High=(pix s:Int)∧1≤pix s:=by
 have h1:=h.g.wide;have h2:=h.g.high;have h3:=A3l (x:=s.Grid.Wide) (y:=s.Grid.High) (A:=64) (B:=64) (by omega) (by omega);have h4:1*1≤s.Grid.Wide*s.Grid.High:=Int.mul_le_mul h1.1 h2.1 (by omega) (by omega);unfold pix;omega
theorem A3y {F:Nat} {s:mosaic_Spec} {N:mosaic_Node} {m:mosaic_Message} {r:Nat} {b:Bool} (hF:1000≤F) (hs:GS F s) (hN:NI F s N) (hm:okM s m) (hc:N.count<1000000) (hp:C9 F N m=some ((r:Int),b)) (hr:r≤(kl N.kept m.Key).length):Fp F N m=some (Ny N m r):=by
 have h2:=hs.small;have h3:=Zc N.kept m.Key;have h4:=hN.count;unfold Fp;rw [hp,sbd];unfold Bu B5;rw [show (lkM N.kept m.Key).getD []=kl N.kept m.Key from rfl,Hq (by simp;omega) (by decide),List.nil_append,sbd,Hq (by rw [hm.len];simp;omega) (by decide),List.nil_append,sbd];unfold Jz;rw [if_pos ⟨by omega,by omega,rfl,by omega⟩,sbd,ckb (by omega)];rfl
end Go.Proofs.YtkbjbnkkfifbmaaGreat
namespace Go.Proofs.YtkbjbnkkfifbmaaGreat
open Go Go.RowKit Go.Eng
set_option maxRecDepth 10000
set_option linter.unusedVariables false
set_option linter.unusedSimpArgs false
def ksN (N:mosaic_Node):List mosaic_Key:=E9 (N.kept.map (·.1))
def Ls (N:mosaic_Node):List mosaic_Message:=(ksN N).flatMap fun k=>(kl N.kept k).map (mosaic_Message.mk k)
theorem Mg (N:mosaic_Node):(ksN N).length=N.kept.length∧(ksN N).Perm (N.kept.map (·.1))∧(ksN N).Pairwise (fun x y=>¬KLt y x):=by
 obtain ⟨h1,h2,h3⟩:=Kr F3 R8 (N.kept.map (·.1));refine ⟨by unfold ksN E9;rw [h1];simp,h2,h3.imp ?_⟩;intro x y h hlt;rw [(Ql y x).2 hlt] at h;cases h
theorem Wg {N:mosaic_Node} {k:mosaic_Key}:k∈ksN N↔∃l,lkM N.kept k=some l:=by
 rw [(Mg N).2.1.mem_iff,Wk]
theorem NI.small {F:Nat} {s:mosaic_Spec} {N:mosaic_Node} (h:NI F s N):(ksN N).length≤tot N.kept:=by
 rw [(Mg N).1];exact Wj fun p hp=>(h.ok p hp).2.1
theorem NI.key {F:Nat} {s:mosaic_Spec} {N:mosaic_Node} (h:NI F s N) {k:mosaic_Key} (hk:k∈ksN N):okK s k∧kl N.kept k≠[]:=by
 obtain ⟨l,hl⟩:=Wg.1 hk;have:=h.ok _ (Zf hl);refine ⟨this.1,?_⟩;unfold kl;rw [hl];exact this.2.1
theorem Zd {F:Nat} {s:mosaic_Spec} {N:mosaic_Node} (h:NI F s N):(ksN N).Nodup:=(Mg N).2.1.nodup_iff.2 h.nd
theorem A0l {F:Nat} {N:mosaic_Node} (h:N.kept.length≤1000000):Gv F N=some (ksN N):=by unfold Gv;rw [if_pos h];rfl
theorem Yn {F:Nat} {N:mosaic_Node} {x:Int} {k2:Int→List mosaic_Message→Option (List mosaic_Message)} {k:mosaic_Key} (hv:∀v∈kl N.kept k,v.length≤10000) (hx:0≤x∧x≤1000000) (hk:(kl N.kept k).length≤1000) :
  ∀(n i:Nat) (acc:List mosaic_Message),i≤(kl N.kept k).length→(kl N.kept k).length-i<n→acc.length+((kl N.kept k).length-i)≤10000000→D5 F N x k2 k n (i:Int) acc=k2 (x+1) (acc++((kl N.kept k).drop i).map (mosaic_Message.mk k)):=by
 intro n
 induction n with
 | zero=>intro i acc _ h;omega
 | succ n ih =>
  intro i acc hi hn ha;rw [D5];unfold Fc;rw [show (lkM N.kept k).getD []=kl N.kept k from rfl]
  by_cases hc:i<(kl N.kept k).length
  ·have hl:=hv _ (List.getElem_mem hc);rw [Bm (dT (by omega)),Fy i (kl N.kept k)[i] rfl (List.getElem?_eq_getElem hc)];unfold B5;rw [Hq (by simp;omega) (by decide),List.nil_append,sbd,Hq (by simp;omega) (by decide),ckb (by omega)];have:=ih (i+1) (acc++[mosaic_Message.mk k (kl N.kept k)[i]]) (by omega) (by omega) (by simp;omega);rw [List.append_assoc,List.singleton_append,←List.map_cons,←List.drop_eq_getElem_cons hc] at this;exact this
  ·rw [Be (dF (by omega)),List.drop_eq_nil_of_le (by omega)];unfold Ff;rw [ckb (by omega),List.map_nil,List.append_nil]
theorem Yo {F:Nat} {N:mosaic_Node} {L:List mosaic_Key} (hF:1000≤F) (hL:L.length≤1000) (hv:∀k,∀v∈kl N.kept k,v.length≤10000) (hk:∀k,(kl N.kept k).length<1000) :
  ∀(n i:Nat) (acc:List mosaic_Message),i≤L.length→L.length-i<n→acc.length+1000*(L.length-i)≤10000000→Cg F N L n (i:Int) acc=some (acc++(L.drop i).flatMap fun k=>(kl N.kept k).map (mosaic_Message.mk k)):=by
 intro n
 induction n with
 | zero=>intro i acc _ h;omega
 | succ n ih =>
  intro i acc hi hn ha;rw [Cg];unfold Fb
  by_cases hc:i<L.length
  ·have h1:=hk L[i];rw [Bm (dT (by omega)),Fy i L[i] rfl (List.getElem?_eq_getElem hc)];have h2:=Yn (F:=F) (N:=N) (x:=i) (k2:=Cg F N L n) (k:=L[i]) (hv _) (by omega) (by omega) F 0 acc (by omega) (by omega) (by omega);rw [List.drop_zero] at h2;have h3:=ih (i+1) (acc++(kl N.kept L[i]).map (mosaic_Message.mk L[i])) (by omega) (by omega) (by simp;omega);rw [List.append_assoc,←List.flatMap_cons (f:=fun k=>(kl N.kept k).map (mosaic_Message.mk k)),←List.drop_eq_getElem_cons hc] at h3;exact h2.trans h3
  ·rw [Be (dF (by omega)),List.drop_eq_nil_of_le (by omega)];unfold Fe;rw [List.flatMap_nil,List.append_nil]
theorem A2y {F:Nat} {s:mosaic_Spec} {N:mosaic_Node} (hF:1000≤F) (hs:GS F s) (h:NI F s N) (ht:tot N.kept<900):Fm F N=some (Ls N):=by
 have h1:=h.small;have h2:=(Mg N).1;have h3:=hs.small;unfold Fm;rw [A0l (by omega),sbd];have:=Yo (F:=F) (N:=N) (L:=ksN N) hF (by omega) (fun k v hv=>by rw [h.kl_ok k v hv];omega) (fun k=>by have:=Zc N.kept k;omega) F 0 [] (by omega) (by omega) (by simp;omega);rw [List.drop_zero,List.nil_append] at this;exact this
theorem Zn {N:mosaic_Node} {m:mosaic_Message}:m∈Ls N↔m.Vals∈kl N.kept m.Key:=by
 unfold Ls;rw [List.mem_flatMap];constructor
 ·rintro ⟨k,_,hm⟩;obtain ⟨v,hv,rfl⟩:=List.mem_map.1 hm;exact hv
 ·intro hv;refine ⟨m.Key,?_,List.mem_map.2 ⟨m.Vals,hv,rfl⟩⟩;rw [Wg];unfold kl at hv
  cases e:lkM N.kept m.Key with
  | none=>rw [e] at hv;cases hv
  | some l=>exact ⟨l,rfl⟩
end Go.Proofs.YtkbjbnkkfifbmaaGreat
namespace Go.Proofs.YtkbjbnkkfifbmaaGreat
open Go Go.RowKit Go.Eng
set_option maxRecDepth 10000
set_option linter.unusedVariables false
set_option linter.unusedSimpArgs false
theorem baE (a b:ByteArray):(a==b)=true↔a=b:=by
 obtain ⟨a⟩:=a;obtain ⟨b⟩:=b;constructor
 ·intro h;have:(a==b)=true:=h;rw [beq_iff_eq] at this;rw [this]
 ·intro h
  cases h
  exact (beq_self_eq_true a:_)
end Go.Proofs.YtkbjbnkkfifbmaaGreat
namespace Go.Proofs.YtkbjbnkkfifbmaaGreat
open Go Go.RowKit Go.Eng
set_option maxRecDepth 10000
set_option linter.unusedVariables false
set_option linter.unusedSimpArgs false
structure C3 {α:Type} (c:α→α→Int):Prop where
 tr:∀x y z,c x y<0→c y z<0→c x z<0
 e1:∀x y z,c x y=0→c x z=c y z
 e2:∀x y z,c y z=0→c x y=c x z
 rf:∀x,c x x=0
 ay:∀x y,c x y<0∨c x y=0∨c y x<0
def Vi {α:Type} (c d:α→α→Int) (x y:α):Int:=if c x y≠0 then c x y else d x y
theorem A1c {α:Type} {c d:α→α→Int} (hc:C3 c) (hd:C3 d):C3 (Vi c d):=by
 refine ⟨fun x y z=>?_,fun x y z=>?_,fun x y z=>?_,fun x=>?_,fun x y=>?_⟩
 ·unfold Vi;intro h1 h2
  by_cases a:c x y=0
  ·rw [if_neg (by simpa using a)] at h1;have e:=hc.e1 x y z a;rw [e]
   by_cases b:c y z=0
   ·rw [if_neg (by simpa using b)] at h2 ⊢;exact hd.tr x y z h1 h2
   ·rw [if_pos b] at h2 ⊢;exact h2
  ·rw [if_pos a] at h1
   by_cases b:c y z=0
   ·have e:=hc.e2 x y z b;rw [←e,if_pos a];exact h1
   ·rw [if_pos b] at h2;have:=hc.tr x y z h1 h2;rw [if_pos (by omega)];exact this
 ·unfold Vi;intro h1
  by_cases a:c x y=0
  ·rw [if_neg (by simpa using a)] at h1;rw [hc.e1 x y z a,hd.e1 x y z h1]
  ·rw [if_pos a] at h1;exact absurd h1 a
 ·unfold Vi;intro h1
  by_cases a:c y z=0
  ·rw [if_neg (by simpa using a)] at h1;rw [hc.e2 x y z a,hd.e2 x y z h1]
  ·rw [if_pos a] at h1;exact absurd h1 a
 ·unfold Vi;rw [if_neg (by simpa using hc.rf x),hd.rf]
 ·unfold Vi;rcases hc.ay x y with h|h|h
  ·left;rw [if_pos (by omega)];exact h
  ·rw [if_neg (by simpa using h)];have h':c y x=0:=by have:=hc.e1 x y x h;rw [hc.rf] at this;exact this.symm
   rw [if_neg (by simpa using h')];exact hd.ay x y
  ·right;right;rw [if_pos (by omega)];exact h
theorem A2f {α:Type} (f:α→Int):C3 (fun x y=>c3 (f x) (f y)):=by
 refine ⟨fun x y z=>?_,fun x y z=>?_,fun x y z=>?_,fun x=>?_,fun x y=>?_⟩<;>unfold c3<;>(repeat' split)<;>omega
end Go.Proofs.YtkbjbnkkfifbmaaGreat
namespace Go.Proofs.YtkbjbnkkfifbmaaGreat
open Go Go.RowKit Go.Eng
set_option maxRecDepth 10000
set_option linter.unusedVariables false
set_option linter.unusedSimpArgs false
theorem A00 {β:Type} {x y:Int} {f:Int→Option β} (h:y≠0):(Qt x y).bind f=f (x.tmod y):=by unfold Qt;rw [if_neg h];rfl
theorem A1r (a b:ByteArray):sEq a b=decide (a=b):=by
 unfold sEq;obtain ⟨a⟩:=a;obtain ⟨b⟩:=b
 by_cases h:a=b
 ·subst h;simp
 ·rw [dF,dF]
  ·intro e;cases e;exact h rfl
  ·intro e;exact h (Array.toList_inj.1 e)
structure RG (F:Nat) (s:mosaic_Spec):Prop where
 g:VG s.Grid
 e:VE s.Earth
 age:1≤s.Age∧s.Age≤86400
 small:pix s≤500
 len:1≤s.Radars.length∧s.Radars.length≤32
 nd:(s.Radars.map (·.Site.Name)).Nodup
 ok:∀r∈s.Radars,VS r.Site∧beam_CheckSite F r.Site=some 0∧(-3600≤r.Offset.Lo∧r.Offset.Lo≤r.Offset.Hi∧r.Offset.Hi≤3600)∧r.Site.Name≠ByteArray.empty
def Xd (B:List (ByteArray×mosaic_Radar)) (l:List mosaic_Radar):List (ByteArray×mosaic_Radar):=l.foldl (fun B r=>upM B r.Site.Name r) B
theorem Z5:∀(l:List mosaic_Radar) (B:List (ByteArray×mosaic_Radar)) (n:ByteArray),(l.map (·.Site.Name)).Nodup→lkM (Xd B l) n=match l.find? (fun r=>r.Site.Name=n) with|some r=>some r|none=>lkM B n:=by
 intro l
 induction l with
 | nil=>intro B n _;rfl
 | cons x l ih =>
  intro B n hn;rw [List.map_cons,List.nodup_cons] at hn;have e:Xd B (x::l)=Xd (upM B x.Site.Name x) l:=rfl;rw [e,ih _ _ hn.2,List.find?_cons]
  by_cases h:x.Site.Name=n
  ·have hnone:l.find? (fun r=>r.Site.Name=n)=none:=by
    rw [List.find?_eq_none];intro r hr hrn;have hrn:r.Site.Name=n:=by simpa using hrn
    exact hn.1 (by rw [h,←hrn];exact List.mem_map_of_mem (f:=(·.Site.Name)) hr)
   rw [hnone,Sn,if_pos h.symm];simp [h]
  ·rw [Sn,if_neg (fun e=>h e.symm)];simp [h]
theorem Rg {F:Nat} {s:mosaic_Spec} (h:RG F s) (n:ByteArray):lkM (radM s) n=s.Radars.find? (fun r=>r.Site.Name=n):=by
 have:=Z5 s.Radars [] n h.nd;unfold radM;refine this.trans ?_
 cases s.Radars.find? (fun r=>r.Site.Name=n)<;>rfl
theorem RG.gs {F:Nat} {s:mosaic_Spec} (h:RG F s):GS F s:=by
 refine ⟨h.g,h.e,h.age,h.small,fun n x hx=>?_⟩;rw [Rg h] at hx;have h1:=List.mem_of_find?_eq_some hx;have h2:x.Site.Name=n:=by simpa using List.find?_some hx
 obtain ⟨a,b,c,d⟩:=h.ok x h1;exact ⟨a,b,c,h2▸d,h2⟩
def Yy (s:mosaic_Spec):mosaic_Node:=⟨s,radM s,0,[],0,[]⟩
theorem Zq {F:Nat} {s:mosaic_Spec} {R:List mosaic_Radar} (hR:R.length≤1000):∀(n i:Nat) (B:List (ByteArray×mosaic_Radar)),i≤R.length→R.length-i<n→Gj s R n B (i:Int)=some (.ok (⟨⟨s.Grid,s.Earth,R,s.Age⟩,Xd B (R.drop i),0,[],0,[]⟩,0)):=by
 intro n
 induction n with
 | zero=>intro i B _ h;omega
 | succ n ih =>
  intro i B hi hn;rw [Gj];unfold Kj
  by_cases hc:i<R.length
  ·rw [Bm (dT (by omega)),Fy i R[i] rfl (List.getElem?_eq_getElem hc),ckb (by omega),List.drop_eq_getElem_cons hc];exact ih (i+1) _ (by omega) (by omega)
  ·rw [Be (dF (by omega)),List.drop_eq_nil_of_le (by omega)];rfl
end Go.Proofs.YtkbjbnkkfifbmaaGreat
namespace Go.Proofs.YtkbjbnkkfifbmaaGreat
open Go Go.RowKit Go.Eng
set_option maxRecDepth 10000
set_option linter.unusedVariables false
set_option linter.unusedSimpArgs false
def Ro (s:ByteArray):Bool:=(!(sEq s ⟨#[]⟩))&&(decide ((s.size:Int)≤12)&&(decide ((Pe s 0).getD 0≥97)&&(decide ((Pe s 0).getD 0≤122)&&!Zs s)))
theorem Uo (F:Nat) (s:ByteArray):Ma F s=some (Ro s):=by
 have hg:sEq s ⟨#[]⟩=false→Pe s 0=some ((Pe s 0).getD 0):=by
  intro h;have hs:s.size≠0:=by
   intro h0;have:s=⟨#[]⟩:=by
    cases s with
    | mk d =>
     have:d=#[]:=Array.eq_empty_of_size_eq_zero h0;rw [this]
   rw [Qu.2 this] at h
   cases h
  unfold Pe;rw [if_pos (by omega)];rfl
 unfold Ma Ro F2
 cases h1:sEq s ⟨#[]⟩ with
 | true=>simp [gd]
 | false =>
  have e:=hg h1;generalize hu:(Pe s 0).getD 0=u at e ⊢;rw [e]
  by_cases h2:(s.size:Int)≤12
  ·by_cases h3:u≥97
   ·simp [gd,h2,h3]
   ·simp [gd,h2,h3]
  ·simp [gd,h2]
theorem A0v (n b0 b1 b2 b3:Nat) (h:128≤b0):128≤(Lib.decodeN n b0 b1 b2 b3).1:=by
 unfold Lib.decodeN
 repeat' split
 all_goals first|(simp only;omega)|omega
theorem A37 {s:ByteArray} {i:Nat} (h:(s.get! i).toNat<128):Utf8.decode s i=((s.get! i).toNat,1):=by
 rw [Lib.decode_at];unfold Lib.decodeN;rw [if_pos h]
theorem A36 {s:ByteArray} {i:Nat} (h:128≤(s.get! i).toNat):128≤(Utf8.decode s i).1:=by
 rw [Lib.decode_at];exact A0v _ _ _ _ _ h
theorem Zr {x:Nat} (h:128≤x):nmC x=true:=by
 unfold nmC;have h1:decide (x≤122)=false:=by simp;omega
 have h2:decide (x≤57)=false:=by simp;omega
 have h3:(x==95)=false:=by simp;omega
 rw [h1,h2,h3];simp
theorem S3 (s:ByteArray):∀(f pos:Nat),s.size≤pos+f→(0≤Lib.idxFuncFrom nmC true s f pos↔∃j,pos≤j∧j<s.size∧nmC (s.get! j).toNat=true):=by
 intro f
 induction f with
 | zero =>
  intro pos h;rw [Lib.idxFuncFrom_end nmC true s 0 pos (by omega)];constructor
  ·intro h;omega
  ·rintro ⟨j,h1,h2,_⟩;omega
 | succ f ih =>
  intro pos h;rw [Lib.idxFuncFrom]
  by_cases hp:pos<s.size
  ·rw [if_pos hp]
   by_cases hb:(s.get! pos).toNat<128
   ·rw [A37 hb];simp only
    by_cases hn:nmC (s.get! pos).toNat=true
    ·rw [if_pos hn];exact ⟨fun _=>⟨pos,Nat.le_refl _,hp,hn⟩,fun _=>by omega⟩
    ·rw [if_neg hn,ih (pos+1) (by omega)];constructor
     ·rintro ⟨j,h1,h2,h3⟩;exact ⟨j,by omega,h2,h3⟩
     ·rintro ⟨j,h1,h2,h3⟩;refine ⟨j,?_,h2,h3⟩;rcases Nat.lt_or_ge pos j with h4|h4
      ·omega
      ·obtain rfl:j=pos:=by omega
       exact absurd h3 hn
   ·rw [if_pos (Zr (A36 (by omega)))];exact ⟨fun _=>⟨pos,Nat.le_refl _,hp,Zr (by omega)⟩,fun _=>by omega⟩
  ·rw [if_neg hp];constructor
   ·intro h;omega
   ·rintro ⟨j,h1,h2,_⟩;omega
theorem A10 {s:ByteArray} {i:Nat} (h:i<s.size):s[i]=s.get! i:=by
 cases s with
 | mk d =>
  show d[i]=d[i]!;rw [getElem!_pos d i h]
theorem Xf {s:ByteArray} {i:Nat} (h:i<s.size):Pe s i=some (((s.get! i).toNat:Nat):Int):=by
 unfold Pe;rw [if_pos (by omega),Int.toNat_natCast,getElem!_pos s i h,A10 h]
theorem Y6 (s:ByteArray):∀(m i f:Nat),s.size-i<m→i≤s.size→s.size≤1000000→s.size≤i+f→Gk s m i=some (!decide (0≤Lib.idxFuncFrom nmC true s f i)):=by
 intro m
 induction m with
 | zero=>intro i f h;omega
 | succ m ih =>
  intro i f h hi h9 hf;rw [Gk,Kk]
  by_cases hb:i<s.size
  ·rw [Bm (dT (by omega)),Xf hb,sbd];have hx:=UInt8.toNat_lt (s.get! i);generalize hu:(s.get! i).toNat=u at *;have e:(bif (bif (bif (decide (((u:Nat):Int)<97)) then true else (decide (((u:Nat):Int)>122))) then (bif (decide (((u:Nat):Int)<48)) then true else (decide (((u:Nat):Int)>57))) else false) then (((u:Nat):Int) != 95) else false)=nmC u:=by
    unfold nmC;rw [Bool.eq_iff_iff];simp only [cond_eq_ite,Bool.if_true_left,Bool.and_eq_true,Bool.or_eq_true,decide_eq_true_eq,bne_iff_ne,ne_eq,Bool.not_eq_true',Bool.or_eq_false_iff,Bool.and_eq_false_iff,decide_eq_false_iff_not,beq_eq_false_iff_ne,Bool.if_false_right];omega
   rw [e]
   by_cases hn:nmC u=true
   ·rw [Bm hn,dT ((S3 s f i hf).2 ⟨i,Nat.le_refl _,hb,by rw [hu];exact hn⟩)];rfl
   ·rw [Be (by simpa using hn),ckb (by omega),show ((i:Int)+1)=((i+1:Nat):Int) by omega,ih (i+1) f (by omega) (by omega) h9 (by omega)];rw [decide_eq_decide.2];rw [S3 s f (i+1) (by omega),S3 s f i hf];constructor
    ·rintro ⟨j,h1,h2,h3⟩;exact ⟨j,by omega,h2,h3⟩
    ·rintro ⟨j,h1,h2,h3⟩;refine ⟨j,?_,h2,h3⟩;rcases Nat.lt_or_ge i j with h4|h4
     ·omega
     ·obtain rfl:j=i:=by omega
      rw [hu] at h3;exact absurd h3 hn
  ·rw [Be (dF (by omega)),Kl,dF]
   ·rfl
   ·rw [S3 s f i hf];rintro ⟨j,h1,h2,_⟩;omega
theorem A1s (s:ByteArray):sEq s ⟨#[]⟩=decide (s.size=0):=by
 unfold sEq
 cases s with
 | mk d =>
  show decide (d.toList=[])=decide (d.size=0);rw [decide_eq_decide];constructor
  ·intro h;have:=congrArg List.length h;simpa using this
  ·intro h;rw [Array.eq_empty_of_size_eq_zero h]
theorem Zp {F:Nat} (hF:100≤F) (s:ByteArray):Ll F s=some (Ro s):=by
 rw [Ll];unfold Ro Zs;rw [A1s]
 by_cases h1:s.size=0∨s.size>12
 ·have hc:(bif (decide (((s.size:Nat):Int)<1)) then true else (decide (((s.size:Nat):Int)>12)))=true:=by
   rcases h1 with h|h
   ·rw [dT (by omega)];rfl
   ·rw [dT (show ((s.size:Nat):Int)>12 by omega)];cases decide (((s.size:Nat):Int)<1)<;>rfl
  rw [hc,gdF (by rfl),sbd,Bm (c:=true) rfl,gdF (by rfl),sbd];simp only [cond_true];rcases h1 with h|h
  ·rw [dT h];rfl
  ·rw [dF (show ¬((s.size:Nat):Int)≤12 by omega)];cases decide (s.size=0)<;>rfl
 ·have hc:(bif (decide (((s.size:Nat):Int)<1)) then true else (decide (((s.size:Nat):Int)>12)))=false:=by
   rw [dF (by omega),dF (by omega)];rfl
  have hg:Pe s 0=some (((s.get! 0).toNat:Nat):Int):=Xf (i:=0) (by omega);rw [hc,gdT (by rfl),hg,sbd,Be (c:=false) rfl,dF (show ¬s.size=0 by omega),dT (show ((s.size:Nat):Int)≤12 by omega)];rw [Option.getD_some];generalize hu:(((s.get! 0).toNat:Nat):Int)=u
  by_cases h2:u<97
  ·rw [dT h2,gdF (by rfl),sbd,Bm (c:=true) rfl,Bm (c:=true) rfl,dF (show ¬u≥97 by omega)];rfl
  ·rw [dF h2,gdT (by rfl),sbd,Be (c:=false) rfl,dT (show u≥97 by omega)]
   by_cases h3:u>122
   ·rw [dT h3,Bm (c:=true) rfl,dF (show ¬u≤122 by omega)];rfl
   ·rw [dF h3,Be (c:=false) rfl,dT (show u≤122 by omega),show (0:Int)=((0:Nat):Int) from rfl,Y6 s F 0 s.size (by omega) (by omega) (by omega) (by omega)];rfl
theorem Tg (x lo hi:Int):Ak x lo hi=A5 x lo hi:=rfl
theorem A05 {F:Nat} (hF:100≤F) (s:api_Site):Eo F s=beam_CheckSite F s:=by
 rw [Eo,beam_CheckSite,Zp hF,Uo,sbd,sbd];simp only [Tg,Ch,C2]
 cases Ro s.Name<;>cases A5 s.X (-1048576) 1048576<;>cases A5 s.Y (-1048576) 1048576<;>cases A5 s.Z 0 20000<;>cases A5 s.Rose 1 90<;>cases A5 s.Gates 1 200<;>cases A5 s.Step 50 2000<;>cases A5 s.Width 0 8<;>rfl
end Go.Proofs.YtkbjbnkkfifbmaaGreat
namespace Go.Proofs.YtkbjbnkkfifbmaaGreat
open Go Go.RowKit Go.Eng
set_option maxRecDepth 10000
set_option linter.unusedVariables false
set_option linter.unusedSimpArgs false
instance lawfulBA:LawfulBEq ByteArray where
 eq_of_beq:=fun h=>(baE _ _).1 h
 rfl:=(baE _ _).2 rfl
def Kq (r:mosaic_Radar):ref11_Radar:=⟨r.Site,r.Offset⟩
def Cm (s:mosaic_Spec):ref11_Spec:=⟨s.Grid,s.Earth,s.Radars.map Kq,s.Age⟩
def nms (s:mosaic_Spec):List ByteArray:=s.Radars.map (·.Site.Name)
theorem A09 {s:mosaic_Spec} (h:s.Radars.length≤1000):∀(n i:Nat) (acc:List ref11_Radar),i≤s.Radars.length→s.Radars.length-i<n→acc.length=i→Gi s n acc (i:Int)=some ⟨s.Grid,s.Earth,acc++(s.Radars.drop i).map Kq,s.Age⟩:=by
 intro n
 induction n with
 | zero=>intro i _ _ h;omega
 | succ n ih =>
  intro i acc hi hn ha;rw [Gi];unfold Kh
  by_cases hc:i<s.Radars.length
  ·rw [Bm (dT (by omega)),Fy i s.Radars[i] rfl (List.getElem?_eq_getElem hc),Hq (by simp;omega) (by decide),ckb (by omega),List.drop_eq_getElem_cons hc,List.map_cons];have:=ih (i+1) (acc++[Kq s.Radars[i]]) (by omega) (by omega) (by simp;omega);rw [List.append_assoc,List.singleton_append] at this;exact this
  ·rw [Be (dF (by omega)),List.drop_eq_nil_of_le (by omega)];unfold Ki;rw [List.map_nil,List.append_nil]
theorem A0a {F:Nat} {s:mosaic_Spec} (hF:500≤F) (h:s.Radars.length≤100):Li F s=some (Cm s):=by
 have:=A09 (s:=s) (by omega) F 0 [] (by omega) (by omega) rfl;rw [List.drop_zero,List.nil_append] at this;exact this
theorem isS {c:Bool} {x y:Option Int} (hx:∃e,x=some e) (hy:∃e,y=some e):∃e,(bif c then x else y)=some e:=by
 cases c
 ·exact hy
 ·exact hx
theorem A2p (F:Nat) (s:api_Site):∃e,beam_CheckSite F s=some e:=by
 unfold beam_CheckSite Ch C2;rw [Uo,sbd];have o:∀a:Int,∃e,some a=some e:=fun a=>⟨a,rfl⟩
 repeat' first|exact o _|refine isS ?_ ?_
theorem A4j (g:api_Grid):Cn g=B8 g:=by
 unfold Cn B8 C1;rw [Tg,Tg,Tg,Tg,Tg]
 cases A5 g.X (-1048576) 1048576<;>cases A5 g.Y (-1048576) 1048576<;>cases A5 g.Size 1 10000<;>cases A5 g.Wide 1 64<;>cases A5 g.High 1 64<;>rfl
theorem A2i {g:api_Grid} (h:B8 g=0):VG g:=by
 have w:∀n a b,A5 n a b=true→a≤n∧n≤b:=by
  intro n a b h;unfold A5 at h
  by_cases h1:a≤n
  ·rw [dT h1] at h;exact ⟨h1,of_decide_eq_true (show decide (n≤b)=true from h)⟩
  ·rw [dF h1] at h;cases h
 unfold B8 C1 at h
 cases h1:A5 g.X (-1048576) 1048576 with
 | false=>rw [h1] at h;simp at h
 | true =>
  cases h2:A5 g.Y (-1048576) 1048576 with
  | false=>rw [h1,h2] at h;simp at h
  | true =>
   cases h3:A5 g.Size 1 10000 with
   | false=>rw [h1,h2,h3] at h;simp at h
   | true =>
    cases h4:A5 g.Wide 1 64 with
    | false=>rw [h1,h2,h3,h4] at h;simp at h
    | true =>
     cases h5:A5 g.High 1 64 with
     | false=>rw [h1,h2,h3,h4,h5] at h;simp at h
     | true=>exact ⟨w _ _ _ h1,w _ _ _ h2,w _ _ _ h3,w _ _ _ h4,w _ _ _ h5⟩
theorem Wy (v:api_Span) (a b:Int):E8 v a b=B2 v a b:=by
 unfold E8 B2
 by_cases h1:v.Lo≤v.Hi
 ·rw [dT h1]
  by_cases h2:a≤v.Lo
  ·rw [dT h2]
  ·rw [dF h2];rfl
 ·rw [dF h1]
  cases decide (a≤v.Lo)<;>rfl
theorem Y0 {s:mosaic_Spec} {i:Nat} {k2:Int→Option Int} {u:ref11_Radar} (hi:i<s.Radars.length) (hl:s.Radars.length≤1000):∀(n j:Nat),j≤i→i-j<n →
  Ee (Cm s) (i:Int) k2 u n (j:Int)=bif decide (u.Site.Name∈((nms s).take i).drop j) then some 5 else H3 (i:Int) k2 u:=by
 intro n
 induction n with
 | zero=>intro j _ h;omega
 | succ n ih =>
  intro j hj hn;rw [Ee];unfold Jt;have hlen:((nms s).take i).length=i:=by unfold nms;simp;omega
  by_cases hc:j<i
  ·have hg:(Cm s).Radars[j]? = some (Kq s.Radars[j]):=by
    show (s.Radars.map Kq)[j]? = _;rw [List.getElem?_map,List.getElem?_eq_getElem (by omega)];rfl
   have hnj:((nms s).take i)[j]'(by omega)=s.Radars[j].Site.Name:=by unfold nms;simp
   rw [Bm (dT (by omega)),Fy j _ rfl hg,A1r,List.drop_eq_getElem_cons (show j<((nms s).take i).length by omega),hnj]
   by_cases e:s.Radars[j].Site.Name=u.Site.Name
   ·rw [Bm (dT (show (Kq s.Radars[j]).Site.Name=u.Site.Name from e)),Bm (dT (by rw [e];exact .head _))]
   ·rw [Be (dF (show ¬(Kq s.Radars[j]).Site.Name=u.Site.Name from e)),ckb (by omega)];refine (ih (j+1) hc (by omega)).trans ?_
    by_cases hm:u.Site.Name∈((nms s).take i).drop (j+1)
    ·rw [dT hm,dT (List.mem_cons_of_mem _ hm)]
    ·rw [dF hm,dF (fun h=>(List.mem_cons.1 h).elim (fun h=>e h.symm) hm)]
  ·rw [Be (dF (by omega)),List.drop_eq_nil_of_le (by omega),dF (fun h=>by cases h),cond_false]
theorem A0p {F:Nat} {s:mosaic_Spec} (hF:500≤F) (hl:s.Radars.length≤100):∀(n i:Nat) (B:List (ByteArray×Bool)),i≤s.Radars.length→s.Radars.length-i<n→(∀nm,(lkM B nm).getD false=decide (nm∈(nms s).take i)) →
  ∃e,D6 F s n B (i:Int)=some e∧Dp F (Cm s) n (i:Int)=some e:=by
 intro n
 induction n with
 | zero=>intro i B _ h;omega
 | succ n ih =>
  intro i B hi hn hB;rw [D6,Dp];unfold Gc Js;have hlen:(Cm s).Radars.length=s.Radars.length:=by show (s.Radars.map Kq).length=_;rw [List.length_map]
  rw [hlen]
  by_cases hc:i<s.Radars.length
  ·have hg:(Cm s).Radars[i]? = some (Kq s.Radars[i]):=by
    show (s.Radars.map Kq)[i]? = _;rw [List.getElem?_map,List.getElem?_eq_getElem hc];rfl
   obtain ⟨e,he⟩:=A2p F s.Radars[i].Site;rw [Bm (dT (by omega)),Fy i s.Radars[i] rfl (List.getElem?_eq_getElem hc),he,sbd,Bm (dT (by omega)),Fy i _ rfl hg];have he2:Eo F (Kq s.Radars[i]).Site=some e:=by rw [A05 (by omega)];exact he
   rw [he2,sbd]
   by_cases h0:e=0
   ·subst h0;rw [Be (c:=(0:Int) != 0) rfl,Be (c:=(0:Int) != 0) rfl];have hin:=Y0 (s:=s) (i:=i) (k2:=Dp F (Cm s) n) (u:=Kq s.Radars[i]) hc (by omega) F 0 (Nat.zero_le _) (by omega);rw [List.drop_zero] at hin;rw [show Ee (Cm s) (i:Int) (Dp F (Cm s) n) (Kq s.Radars[i]) F 0=_ from hin,hB]
    by_cases hm:s.Radars[i].Site.Name∈(nms s).take i
    ·rw [Bm (dT hm),Bm (dT (show (Kq s.Radars[i]).Site.Name∈(nms s).take i from hm))];exact ⟨_,rfl,rfl⟩
    ·rw [Be (dF hm),Be (dF (show ¬(Kq s.Radars[i]).Site.Name∈(nms s).take i from hm))];unfold H3;rw [Wy,show (Kq s.Radars[i]).Offset=s.Radars[i].Offset from rfl]
     cases B2 s.Radars[i].Offset (-3600) 3600 with
     | false=>exact ⟨_,rfl,rfl⟩
     | true =>
      rw [Be (c:=!true) rfl,Be (c:=!true) rfl,ckb (by omega)];unfold Ju;rw [ckb (by omega)];refine ih (i+1) _ hc (by omega) (fun nm=>?_);have hd:(nms s).take (i+1)=(nms s).take i++[s.Radars[i].Site.Name]:=by
       unfold nms;rw [List.take_succ_eq_append_getElem (by simpa using hc)];simp
      rw [Sn,hd]
      by_cases e:nm=s.Radars[i].Site.Name
      ·rw [if_pos e,dT (by rw [e];simp)];rfl
      ·rw [if_neg e,hB]
       by_cases hm2:nm∈(nms s).take i
       ·rw [dT hm2,dT (List.mem_append.2 (.inl hm2))]
       ·rw [dF hm2,dF (fun h=>(List.mem_append.1 h).elim hm2 (fun h=>e (List.mem_singleton.1 h)))]
   ·rw [Bm (by simpa using h0),Bm (by simpa using h0)];exact ⟨_,rfl,rfl⟩
  ·rw [Be (dF (by omega)),Be (dF (by omega))];exact ⟨0,rfl,rfl⟩
theorem chk {F:Nat} {s:mosaic_Spec} (hF:500≤F) (hl:s.Radars.length≤100):∃e,Ep F s=some e∧Je F (Cm s)=some e∧(e=0→VG s.Grid):=by
 unfold Ep Je;have hlen:(Cm s).Radars.length=s.Radars.length:=by show (s.Radars.map Kq).length=_;rw [List.length_map]
 rw [show (Cm s).Grid=s.Grid from rfl,A4j,hlen,show (Cm s).Earth=s.Earth from rfl,show (Cm s).Age=s.Age from rfl];unfold Jd;rw [Wy,show Ak s.Age 1 86400=B7 s.Age 1 86400 from rfl]
 by_cases hg:B8 s.Grid=0
 ·rw [hg,Be (c:=(0:Int) != 0) rfl,Be (c:=(0:Int) != 0) rfl];have hv:=A2i hg
  cases (bif (!(B2 s.Earth 1000000 100000000)) then true else (!(B7 s.Age 1 86400))) with
  | true=>exact ⟨3,rfl,rfl,fun _=>hv⟩
  | false =>
   rw [cond_false,cond_false]
   cases (((s.Radars.length:Nat):Int)==0) with
   | true=>exact ⟨18,rfl,rfl,fun _=>hv⟩
   | false =>
    rw [cond_false,cond_false]
    cases (decide (((s.Radars.length:Nat):Int)>32)) with
    | true=>exact ⟨9,rfl,rfl,fun _=>hv⟩
    | false =>
     obtain ⟨e,h1,h2⟩:=A0p hF hl F 0 [] (Nat.zero_le _) (by omega) (fun nm=>by rw [List.take_zero,dF (fun h=>by cases h)];rfl)
     exact ⟨e,h1,h2,fun _=>hv⟩
 ·rw [Bm (by simpa using hg),Bm (by simpa using hg)];exact ⟨_,rfl,rfl,fun h=>absurd h hg⟩
theorem A0y {s:mosaic_Spec} (hl:s.Radars.length≤1000):∀(n i:Nat),i≤s.Radars.length→s.Radars.length-i<n→∃b,H4 s n (i:Int)=some b:=by
 intro n
 induction n with
 | zero=>intro i _ h;omega
 | succ n ih =>
  intro i hi hn;rw [H4];unfold L7
  by_cases hc:i<s.Radars.length
  ·rw [Bm (dT (by omega)),Fy i s.Radars[i] rfl (List.getElem?_eq_getElem hc)]
   cases decide (((s.Radars[i].Site.Name.size:Nat):Int)>40) with
   | true=>exact ⟨_,rfl⟩
   | false =>
    rw [cond_false,ckb (by omega)];exact ih (i+1) hc (by omega)
  ·rw [Be (dF (by omega))];exact ⟨_,rfl⟩
theorem A3b {F:Nat} {s:mosaic_Spec} (hF:500≤F):∃b,Mi F s=some b∧(b=true→s.Grid.Wide≤6∧s.Grid.High≤6∧s.Radars.length≤100):=by
 unfold Mi
 by_cases h1:s.Grid.Wide>6
 ·rw [dT h1];exact ⟨false,rfl,fun h=>by cases h⟩
 ·by_cases h2:s.Grid.High>6
  ·rw [dF h1,dT h2];exact ⟨false,rfl,fun h=>by cases h⟩
  ·by_cases h3:((s.Radars.length:Nat):Int)>100
   ·rw [dF h1,dF h2,dT h3];refine ⟨false,?_,fun h=>by cases h⟩
    cases (bif (decide (((s.Radars.length:Nat):Int)>5)) then (decide (((s.Radars.length:Nat):Int)≤32)) else false)<;>rfl
   ·rw [dF h1,dF h2,dF h3]
    cases (bif (decide (((s.Radars.length:Nat):Int)>5)) then (decide (((s.Radars.length:Nat):Int)≤32)) else false) with
    | true=>exact ⟨false,rfl,fun h=>by cases h⟩
    | false =>
     obtain ⟨b,hb⟩:=A0y (s:=s) (by omega) F 0 (Nat.zero_le _) (by omega);exact ⟨b,hb,fun _=>⟨by omega,by omega,by omega⟩⟩
end Go.Proofs.YtkbjbnkkfifbmaaGreat
namespace Go.Proofs.YtkbjbnkkfifbmaaGreat
open Go Go.RowKit Go.Eng
set_option maxRecDepth 10000
set_option linter.unusedVariables false
set_option linter.unusedSimpArgs false
theorem A3h {α:Type} {c d:α→α→Int} {x y:α} (h:Vi c d x y=0):c x y=0∧d x y=0:=by
 unfold Vi at h
 by_cases a:c x y=0
 ·rw [if_neg (by simpa using a)] at h;exact ⟨a,h⟩
 ·rw [if_pos a] at h;exact absurd h a
theorem A4f {a b:Int} (h:c3 a b=0):a=b:=by
 unfold c3 at h
 repeat' split at h
 all_goals first|omega|simp at h
theorem baL {a b:ByteArray} (h:a.toList=b.toList):a=b:=by
 apply Qu.1;rw [←Nc,h];exact beq_self_eq_true _
theorem Wf {N:mosaic_Node} {m:mosaic_Message} {r:Nat} {k:mosaic_Key} (h:k≠m.Key):kl (Ny N m r).kept k=kl N.kept k:=by
 unfold kl;show (lkM (upM N.kept m.Key _) k).getD []=_;rw [Sn,if_neg h]
end Go.Proofs.YtkbjbnkkfifbmaaGreat
namespace Go.Proofs.YtkbjbnkkfifbmaaGreat
open Go Go.RowKit Go.Eng
set_option maxRecDepth 10000
set_option linter.unusedVariables false
set_option linter.unusedSimpArgs false
theorem cmpS_ok:C3 Ha:=A1c (A2f fun x:api_Span=>x.Lo) (A2f fun x:api_Span=>x.Hi)
theorem Yu {x y:api_Span} (h:Ha x y=0):x=y:=by
 obtain ⟨h1,h2⟩:=A3h (c:=fun x y:api_Span=>c3 x.Lo y.Lo) (d:=fun x y:api_Span=>c3 x.Hi y.Hi) h;obtain ⟨a,b⟩:=x;obtain ⟨c,d⟩:=y;have:=A4f h1;have:=A4f h2;dsimp only at *
 subst_vars
 rfl
theorem N3 (x:List api_Span):D8 x x=0:=by
 induction x with
 | nil=>rfl
 | cons a x ih =>
  show (if Ha a a≠0 then Ha a a else D8 x x)=0;rw [if_neg (by simpa using cmpS_ok.rf a),ih]
theorem Ua:∀{x y:List api_Span},D8 x y=0→x=y
 | [],[],_=>rfl
 | [],_::_,h=>by simp [D8] at h
 | _::_,[],h=>by simp [D8] at h
 | a::x,b::y,h=>by
  have h:(if Ha a b≠0 then Ha a b else D8 x y)=0:=h
  by_cases c:Ha a b=0
  ·rw [if_neg (by simpa using c)] at h;rw [Yu c,Ua h]
  ·rw [if_pos c] at h;exact absurd h c
theorem N4:∀{x y z:List api_Span},D8 x y<0→D8 y z<0→D8 x z<0
 | [],[],_,h,_=>by simp [D8] at h
 | [],_::_,[],_,h=>by simp [D8] at h
 | [],_::_,_::_,_,_=>by simp [D8]
 | _::_,[],_,h,_=>by simp [D8] at h
 | _::_,_::_,[],_,h=>by simp [D8] at h
 | a::x,b::y,c::z,h,k=>by
  have h:(if Ha a b≠0 then Ha a b else D8 x y)<0:=h;have k:(if Ha b c≠0 then Ha b c else D8 y z)<0:=k;show (if Ha a c≠0 then Ha a c else D8 x z)<0
  by_cases p:Ha a b=0
  ·rw [if_neg (by simpa using p)] at h;rw [cmpS_ok.e1 a b c p]
   by_cases q:Ha b c=0
   ·rw [if_neg (by simpa using q)] at k ⊢;exact N4 h k
   ·rw [if_pos q] at k ⊢;exact k
  ·rw [if_pos p] at h
   by_cases q:Ha b c=0
   ·rw [←cmpS_ok.e2 a b c q,if_pos p];exact h
   ·rw [if_pos q] at k;have:=cmpS_ok.tr a b c h k;rw [if_pos (by omega)];exact this
theorem Rz:∀{x y:List api_Span},D8 x y<0∨D8 x y=0∨D8 y x<0
 | [],[]=>.inr (.inl rfl)
 | [],_::_=>.inl (by simp [D8])
 | _::_,[]=>.inr (.inr (by simp [D8]))
 | a::x,b::y=>by
  show (if Ha a b≠0 then Ha a b else D8 x y)<0∨(if Ha a b≠0 then Ha a b else D8 x y)=0∨(if Ha b a≠0 then Ha b a else D8 y x)<0;rcases cmpS_ok.ay a b with h|h|h
  ·left;rw [if_pos (by omega)];exact h
  ·have h':Ha b a=0:=by rw [Yu h];exact cmpS_ok.rf _
   rw [if_neg (by simpa using h),if_neg (by simpa using h')];exact Rz
  ·right;right;rw [if_pos (by omega)];exact h
theorem A0s {x y:List api_Span} (h:D8 x y<0):¬D8 y x<0:=fun k=>by
 have:=N4 h k;rw [N3] at this;omega
abbrev Srt (l:List (List api_Span)):Prop:=l.Pairwise (fun x y=>D8 x y<0)
def has (N:mosaic_Node) (m:mosaic_Message):Prop:=m.Vals∈kl N.kept m.Key
structure SN (F:Nat) (s:mosaic_Spec) (N:mosaic_Node):Prop where
 ni:NI F s N
 so:∀k,Srt (kl N.kept k)
 vs:∀k,∀v∈kl N.kept k,∀x∈v,0≤x.Lo∧x.Lo≤x.Hi∧x.Hi≤1000000
theorem SN.okm {F:Nat} {s:mosaic_Spec} {N:mosaic_Node} (h:SN F s N) {m:mosaic_Message} (hm:has N m):okM s m:=by
 have hk:m.Key∈ksN N:=by
  rw [Wg];unfold has kl at hm
  cases e:lkM N.kept m.Key with
  | none=>rw [e] at hm;cases hm
  | some l=>exact ⟨l,rfl⟩
 exact ⟨(h.ni.key hk).1,h.ni.kl_ok _ _ hm,h.vs _ _ hm⟩
theorem A21 {l:List (List api_Span)} {r:Nat} {v:List api_Span} (hl:Srt l) (hr:r≤l.length) (h1:r=0∨∃x,l[r-1]? = some x∧D8 x v<0) (h2:r=l.length∨∃x,l[r]? = some x∧D8 v x<0):Srt (Ns l r v):=by
 unfold Ns;have lo:∀x∈l.take r,D8 x v<0:=by
  intro x hx;obtain ⟨i,hi,rfl⟩:=List.mem_take_iff_getElem.1 hx;rcases h1 with h1|⟨y,hy,hlt⟩
  ·omega
  ·obtain ⟨hy1,rfl⟩:=List.getElem?_eq_some_iff.1 hy;rcases Nat.lt_or_ge i (r-1) with h|h
   ·exact N4 (List.pairwise_iff_getElem.1 hl i (r-1) (by omega) hy1 h) hlt
   ·have:i=r-1:=by omega
    subst this;exact hlt
 have hi:∀x∈l.drop r,D8 v x<0:=by
  intro x hx;obtain ⟨i,hi,rfl⟩:=List.mem_drop_iff_getElem.1 hx;rcases h2 with h2|⟨y,hy,hlt⟩
  ·omega
  ·obtain ⟨hy1,rfl⟩:=List.getElem?_eq_some_iff.1 hy;rcases Nat.eq_zero_or_pos i with h|h
   ·subst h;exact hlt
   ·exact N4 hlt (List.pairwise_iff_getElem.1 hl r (r+i) hy1 (by omega) (by omega))
 refine List.pairwise_append.2 ⟨List.pairwise_append.2 ⟨hl.sublist (List.take_sublist _ _),List.pairwise_singleton _ _,fun x hx y hy=>?_⟩,hl.sublist (List.drop_sublist _ _),fun x hx y hy=>?_⟩
 ·rw [List.mem_singleton.1 hy];exact lo x hx
 ·rcases List.mem_append.1 hx with hx|hx
  ·exact N4 (lo x hx) (hi y hy)
  ·rw [List.mem_singleton.1 hx];exact hi y hy
theorem Nt {N:mosaic_Node} {m:mosaic_Message} {r:Nat}:kl (Ny N m r).kept m.Key=Ns (kl N.kept m.Key) r m.Vals:=by
 unfold kl;show (lkM (upM N.kept m.Key _) m.Key).getD []=_;rw [A1d];rfl
theorem A12 {N:mosaic_Node} {m x:mosaic_Message} {r:Nat}:has (Ny N m r) x↔x=m∨has N x:=by
 unfold has
 by_cases h:x.Key=m.Key
 ·rw [h,Nt,R6];constructor
  ·rintro (e|e)
   ·left;obtain ⟨k,v⟩:=x;obtain ⟨k',v'⟩:=m;dsimp only at *;rw [h,e]
   ·exact .inr e
  ·rintro (e|e)
   ·left;rw [e]
   ·exact .inr e
 ·rw [Wf h];exact ⟨.inr,fun e=>e.elim (fun e=>absurd (by rw [e]) h) id⟩
theorem SN.put {F:Nat} {s:mosaic_Spec} {N:mosaic_Node} {m:mosaic_Message} {r:Nat} (h:SN F s N) (hm:okM s m) (hr:r≤(kl N.kept m.Key).length) (h1:r=0∨∃x,(kl N.kept m.Key)[r-1]? = some x∧D8 x m.Vals<0) (h2:r=(kl N.kept m.Key).length∨∃x,(kl N.kept m.Key)[r]? = some x∧D8 m.Vals x<0):SN F s (Ny N m r):=by
 refine ⟨h.ni.put hm hr,fun k=>?_,fun k v hv=>?_⟩
 ·by_cases e:k=m.Key
  ·subst e;rw [Nt];exact A21 (h.so _) hr h1 h2
  ·rw [Wf e];exact h.so k
 ·by_cases e:k=m.Key
  ·subst e;rw [Nt] at hv;rcases R6.1 hv with rfl|hv
   ·exact hm.vals
   ·exact h.vs _ _ hv
  ·rw [Wf e] at hv;exact h.vs _ _ hv
theorem Ya {F:Nat} {s:mosaic_Spec} {N:mosaic_Node} {m:mosaic_Message} (hF:1000≤F) (hs:GS F s) (h:SN F s N) (ht:tot N.kept<900) :
  ∃(r:Nat) (b:Bool),C9 F N m=some ((r:Int),b)∧r≤(kl N.kept m.Key).length∧(b=true↔has N m)∧(b=false→okM s m→SN F s (Ny N m r)):=by
 have h2:=hs.small;have h3:=Zc N.kept m.Key;obtain ⟨r,b,e,r1,r2,r3,r4⟩:=Zz (F:=F) (by omega) N m (by omega) (fun x hx=>by rw [h.ni.kl_ok _ x hx];omega);have lo:∀i,i<r→∀x,(kl N.kept m.Key)[i]? = some x→D8 x m.Vals<0:=by
  intro i hi x hx;obtain ⟨hx1,rfl⟩:=List.getElem?_eq_some_iff.1 hx;rcases r3 with r3|⟨y,hy,hlt⟩
  ·omega
  ·obtain ⟨hy1,rfl⟩:=List.getElem?_eq_some_iff.1 hy;rcases Nat.lt_or_ge i (r-1) with h'|h'
   ·exact N4 (List.pairwise_iff_getElem.1 (h.so m.Key) i (r-1) hx1 hy1 h') hlt
   ·have:i=r-1:=by omega
    subst this;exact hlt
 have hb:b=true↔has N m:=by
  rw [r2];constructor
  ·rintro ⟨x,hx,hc⟩;have:=Ua hc;subst this;exact List.mem_iff_getElem?.2 ⟨r,hx⟩
  ·intro hm;obtain ⟨i,hi⟩:=List.mem_iff_getElem?.1 hm;have hir:r≤i:=by
    rcases Nat.lt_or_ge i r with h'|h'
    ·have:=lo i h' _ hi;rw [N3] at this;omega
    ·exact h'
   obtain ⟨hi1,hi2⟩:=List.getElem?_eq_some_iff.1 hi;rcases r4 with r4|⟨y,hy,hn⟩
   ·omega
   ·rcases Nat.eq_or_lt_of_le hir with e|e
    ·subst e;exact ⟨_,hi,N3 _⟩
    ·obtain ⟨hy1,rfl⟩:=List.getElem?_eq_some_iff.1 hy;have:=List.pairwise_iff_getElem.1 (h.so m.Key) r i hy1 hi1 e;rw [hi2] at this;exact absurd this hn
 refine ⟨r,b,e,r1,hb,fun hf hm=>h.put hm r1 r3 ?_⟩;rcases r4 with r4|⟨y,hy,hn⟩
 ·exact .inl r4
 ·right;refine ⟨y,hy,?_⟩;rcases Rz (x:=y) (y:=m.Vals) with c|c|c
  ·exact absurd c hn
  ·have:b=true:=r2.2 ⟨y,hy,c⟩;rw [hf] at this;cases this
  ·exact c
end Go.Proofs.YtkbjbnkkfifbmaaGreat
namespace Go.Proofs.YtkbjbnkkfifbmaaGreat
open Go Go.RowKit Go.Eng
set_option maxRecDepth 10000
set_option linter.unusedVariables false
set_option linter.unusedSimpArgs false
theorem Ml {N:mosaic_Node} {m:mosaic_Message}:m∈Ls N↔has N m:=Zn
theorem Z3 {B:List (mosaic_Key×List (List api_Span))} (hn:(B.map (·.1)).Nodup):((B.map (·.1)).flatMap fun k=>(kl B k).map (mosaic_Message.mk k)).length=tot B:=by
 induction B with
 | nil=>rfl
 | cons p B ih =>
  rw [List.map_cons,List.nodup_cons] at hn;rw [List.map_cons,List.flatMap_cons,List.length_append,List.length_map];have e1:tot (p::B)=p.2.length+tot B:=by simp [tot]
  have e2:kl (p::B) p.1=p.2:=by unfold kl lkM;rw [if_pos rfl];rfl
  have e3:((B.map (·.1)).flatMap fun k=>(kl (p::B) k).map (mosaic_Message.mk k))=(B.map (·.1)).flatMap fun k=>(kl B k).map (mosaic_Message.mk k):=by
   have fm:∀l:List mosaic_Key,(∀x∈l,x∈B.map (·.1))→(l.flatMap fun k=>(kl (p::B) k).map (mosaic_Message.mk k))=l.flatMap fun k=>(kl B k).map (mosaic_Message.mk k):=by
    intro l
    induction l with
    | nil=>intro _;rfl
    | cons x l ih =>
     intro hx;rw [List.flatMap_cons,List.flatMap_cons,ih fun y hy=>hx y (.tail _ hy)];have:kl (p::B) x=kl B x:=by
      unfold kl;show (if x=p.1 then some p.2 else lkM B x).getD []=_;rw [if_neg (fun e:x=p.1=>hn.1 (e▸hx x (.head _)))]
     rw [this]
   exact fm _ fun x hx=>hx
  rw [e1,e2,e3,ih hn.2]
theorem Su {F:Nat} {s:mosaic_Spec} {N:mosaic_Node} (h:NI F s N):(Ls N).length=tot N.kept:=by
 have:=(List.Perm.flatMap_right (fun k=>(kl N.kept k).map (mosaic_Message.mk k)) (Mg N).2.1).length_eq;exact this.trans (Z3 h.nd)
end Go.Proofs.YtkbjbnkkfifbmaaGreat
namespace Go.Proofs.YtkbjbnkkfifbmaaGreat
open Go Go.RowKit Go.Eng
set_option maxRecDepth 10000
set_option linter.unusedVariables false
set_option linter.unusedSimpArgs false
theorem Jk {ε α β:Type} {x:α} {f:ε→β} {g:α→β}:exc (.ok x) f g=g x:=rfl
theorem K4 {ε α β:Type} {e:ε} {f:ε→β} {g:α→β}:exc (.error e) f g=f e:=rfl
theorem Ks {n a b:Int} (h:A5 n a b=true):a≤n∧n≤b:=by
 unfold A5 at h
 by_cases h1:a≤n
 ·rw [dT h1] at h;exact ⟨h1,of_decide_eq_true (show decide (n≤b)=true from h)⟩
 ·rw [dF h1] at h;cases h
theorem Rc {n a b:Int} (h:B7 n a b=true):a≤n∧n≤b:=Ks h
theorem Sk {v:api_Span} {a b:Int} (h:B2 v a b=true):a≤v.Lo∧v.Lo≤v.Hi∧v.Hi≤b:=by
 unfold B2 at h
 by_cases h1:a≤v.Lo
 ·rw [dT h1] at h
  by_cases h2:v.Lo≤v.Hi
  ·rw [dT h2] at h;exact ⟨h1,h2,of_decide_eq_true (show decide (v.Hi≤b)=true from h)⟩
  ·rw [dF h2] at h;cases h
 ·rw [dF h1] at h;cases h
theorem A1f {n:ByteArray} (h:Ro n=true):n≠ByteArray.empty∧n.size≤12:=by
 unfold Ro at h;simp only [Bool.and_eq_true,decide_eq_true_eq,Bool.not_eq_true'] at h;obtain ⟨h1,h2,_⟩:=h;refine ⟨fun e=>?_,by omega⟩;subst e;rw [show sEq ByteArray.empty ⟨#[]⟩=true from rfl] at h1
 cases h1
theorem A2o {F:Nat} {s:api_Site} (h:beam_CheckSite F s=some 0):VS s∧s.Name≠ByteArray.empty∧s.Name.size≤12:=by
 unfold beam_CheckSite at h;rw [Uo,sbd] at h
 cases hn:Ro s.Name with
 | false=>rw [hn] at h;exact absurd (Option.some.inj (show some (10:Int)=some 0 from h)) (by decide)
 | true =>
  rw [hn] at h;simp only [Ch,C2] at h
  cases h1:A5 s.X (-1048576) 1048576 with
  | false=>rw [h1] at h;simp at h
  | true =>
  cases h2:A5 s.Y (-1048576) 1048576 with
  | false=>rw [h1,h2] at h;simp at h
  | true =>
  cases h3:A5 s.Z 0 20000 with
  | false=>rw [h1,h2,h3] at h;simp at h
  | true =>
  cases h4:A5 s.Rose 1 90 with
  | false=>rw [h1,h2,h3,h4] at h;simp at h
  | true =>
  cases h5:A5 s.Gates 1 200 with
  | false=>rw [h1,h2,h3,h4,h5] at h;simp at h
  | true =>
  cases h6:A5 s.Step 50 2000 with
  | false=>rw [h1,h2,h3,h4,h5,h6] at h;simp at h
  | true =>
  cases h7:A5 s.Width 0 8 with
  | false=>rw [h1,h2,h3,h4,h5,h6,h7] at h;simp at h
  | true=>exact ⟨⟨Ks h1,Ks h2,Ks h3,Ks h4,Ks h5,Ks h6,Ks h7⟩,A1f hn⟩
theorem A42 {F:Nat} {s:mosaic_Spec} (hl:s.Radars.length≤1000):∀(n i:Nat) (B:List (ByteArray×Bool)),i≤s.Radars.length→(∀nm,(lkM B nm).getD false=decide (nm∈(nms s).take i))→((nms s).take i).Nodup→D6 F s n B (i:Int)=some 0 →
  (nms s).Nodup∧∀r∈s.Radars.drop i,beam_CheckSite F r.Site=some 0∧B2 r.Offset (-3600) 3600=true:=by
 intro n
 induction n with
 | zero=>intro i B _ _ _ h;cases h
 | succ n ih =>
  intro i B hi hB hN h;rw [D6] at h;unfold Gc at h
  by_cases hc:i<s.Radars.length
  ·rw [Bm (dT (by omega)),Fy i s.Radars[i] rfl (List.getElem?_eq_getElem hc)] at h;obtain ⟨e,he⟩:=A2p F s.Radars[i].Site;rw [he,sbd] at h
   by_cases h0:e=0
   ·subst h0;rw [Be (c:=(0:Int) != 0) rfl,hB] at h
    by_cases hm:s.Radars[i].Site.Name∈(nms s).take i
    ·rw [Bm (dT hm)] at h;exact absurd (Option.some.inj h) (by decide)
    ·rw [Be (dF hm)] at h
     cases ho:B2 s.Radars[i].Offset (-3600) 3600 with
     | false=>rw [ho] at h;exact absurd (Option.some.inj (show some (3:Int)=some 0 from h)) (by decide)
     | true =>
      rw [ho,Be (c:=!true) rfl,ckb (by omega)] at h;have hd:(nms s).take (i+1)=(nms s).take i++[s.Radars[i].Site.Name]:=by
       unfold nms;rw [List.take_succ_eq_append_getElem (by simpa using hc)];simp
      have hB':∀nm,(lkM (upM B s.Radars[i].Site.Name true) nm).getD false=decide (nm∈(nms s).take (i+1)):=by
       intro nm;rw [Sn,hd]
       by_cases e:nm=s.Radars[i].Site.Name
       ·rw [if_pos e,dT (by rw [e];simp)];rfl
       ·rw [if_neg e,hB]
        by_cases hm2:nm∈(nms s).take i
        ·rw [dT hm2,dT (List.mem_append.2 (.inl hm2))]
        ·rw [dF hm2,dF (fun h=>(List.mem_append.1 h).elim hm2 (fun h=>e (List.mem_singleton.1 h)))]
      have hN':((nms s).take (i+1)).Nodup:=by
       rw [hd];refine List.nodup_append.2 ⟨hN,by simp,fun a ha b hb e=>hm ?_⟩;rw [List.mem_singleton] at hb;rw [←hb,←e];exact ha
      obtain ⟨q1,q2⟩:=ih (i+1) _ hc hB' hN' h;refine ⟨q1,fun r hr=>?_⟩;rw [List.drop_eq_getElem_cons hc] at hr;rcases List.mem_cons.1 hr with e|e
      ·rw [e];exact ⟨he,ho⟩
      ·exact q2 r e
   ·rw [Bm (by simpa using h0)] at h;exact absurd (Option.some.inj h) h0
  ·rw [List.take_of_length_le (by unfold nms;simp;omega)] at hN;refine ⟨hN,fun r hr=>?_⟩;rw [List.drop_eq_nil_of_le (by omega)] at hr;cases hr
theorem A34 {F:Nat} {s:mosaic_Spec} (h:Ep F s=some 0) (hw:s.Grid.Wide≤6) (hh:s.Grid.High≤6):RG F s:=by
 unfold Ep at h
 by_cases hg:B8 s.Grid=0
 ·have hv:=A2i hg;rw [hg,Be (c:=(0:Int) != 0) rfl] at h
  cases he:B2 s.Earth 1000000 100000000 with
  | false=>rw [he] at h;exact absurd (Option.some.inj (show some (3:Int)=some 0 from h)) (by decide)
  | true =>
  cases ha:B7 s.Age 1 86400 with
  | false=>rw [he,ha] at h;exact absurd (Option.some.inj (show some (3:Int)=some 0 from h)) (by decide)
  | true =>
   rw [he,ha,Be (c:=bif (!true) then true else (!true)) rfl] at h
   by_cases hl0:s.Radars.length=0
   ·rw [Bm (by rw [hl0];rfl)] at h;exact absurd (Option.some.inj h) (by decide)
   ·rw [Be (by simp;exact fun e=>hl0 (by rw [e];rfl))] at h
    by_cases hl:((s.Radars.length:Nat):Int)>32
    ·rw [Bm (dT hl)] at h;exact absurd (Option.some.inj h) (by decide)
    ·rw [Be (dF hl)] at h;obtain ⟨q1,q2⟩:=A42 (by omega) F 0 [] (Nat.zero_le _) (fun nm=>by rw [List.take_zero,dF (fun h=>by cases h)];rfl) (by simp) h
     rw [List.drop_zero] at q2;have hm:=A3l (x:=s.Grid.Wide) (y:=s.Grid.High) (A:=6) (B:=6) (by have:=hv.wide;omega) (by have:=hv.high;omega);refine ⟨hv,Sk he,Rc ha,?_,?_,q1,fun r hr=>?_⟩
     ·unfold pix;omega
     ·constructor<;>omega
     ·obtain ⟨h1,h2⟩:=q2 r hr;have h3:=A2o h1;exact ⟨h3.1,h1,Sk h2,h3.2.1⟩
 ·rw [Bm (by simpa using hg)] at h;exact absurd (Option.some.inj h) hg
theorem RG.name {F:Nat} {s:mosaic_Spec} (h:RG F s) {n:ByteArray} {r:mosaic_Radar} (hr:lkM (radM s) n=some r):n.size≤12:=by
 rw [Rg h] at hr;have h1:=List.mem_of_find?_eq_some hr;have h2:r.Site.Name=n:=by simpa using List.find?_some hr
 obtain ⟨_,a,_⟩:=h.ok r h1;rw [←h2];exact (A2o a).2.2
def R7 (k:mosaic_Key):ref11_Key:=⟨k.Name,k.Tilt,k.Time⟩
def Cy (m:mosaic_Message):ref11_Message:=⟨R7 m.Key,m.Vals⟩
theorem Vh {a b:mosaic_Key}:R7 a=R7 b↔a=b:=by
 constructor
 ·intro h;cases a;cases b;injection h with h1 h2 h3;subst h1 h2 h3;rfl
 ·intro h;rw [h]
theorem Zm {a b:mosaic_Message}:Cy a=Cy b↔a=b:=by
 constructor
 ·intro h;cases a;cases b;injection h with h1 h2;rw [Vh] at h1;subst h1 h2;rfl
 ·intro h;rw [h]
def Hj (N:mosaic_Node):ref11_Node:=⟨Cm N.spec,N.horizon,(Ls N).map Cy⟩
def A0k:ref11_Radar:=ref11_Radar.mk (api_Site.mk ByteArray.empty 0 0 0 0 0 0 0) (api_Span.mk 0 0)
theorem A1m {r:ref11_Node} {s:mosaic_Spec} {nm:ByteArray} (hs:r.s=Cm s) (hl:s.Radars.length≤1000):∀(n i:Nat),i≤s.Radars.length→s.Radars.length-i<n →
  Cr (some r) nm n (i:Int)=some (((s.Radars.drop i).find? (fun r=>r.Site.Name=nm)).elim (A0k,false) (fun y=>(Kq y,true))):=by
 intro n
 induction n with
 | zero=>intro i _ h;omega
 | succ n ih =>
  intro i hi hn;rw [Cr];unfold Ey;have hlen:r.s.Radars.length=s.Radars.length:=by rw [hs];show (s.Radars.map Kq).length=_;rw [List.length_map]
  rw [sbd,hlen]
  by_cases hc:i<s.Radars.length
  ·have hg:r.s.Radars[i]? = some (Kq s.Radars[i]):=by
    rw [hs];show (s.Radars.map Kq)[i]? = _;rw [List.getElem?_map,List.getElem?_eq_getElem hc];rfl
   rw [Bm (dT (by omega)),Fy i _ rfl hg,Fy i _ rfl hg,A1r,List.drop_eq_getElem_cons hc,List.find?_cons]
   by_cases e:s.Radars[i].Site.Name=nm
   ·rw [Bm (dT (show (Kq s.Radars[i]).Site.Name=nm from e)),dT e];rfl
   ·rw [Be (dF (show ¬(Kq s.Radars[i]).Site.Name=nm from e)),dF e,ckb (by omega)];exact ih (i+1) hc (by omega)
  ·rw [Be (dF (by omega)),List.drop_eq_nil_of_le (by omega)];rfl
theorem Yb {F:Nat} {r:ref11_Node} {s:mosaic_Spec} {nm:ByteArray} (hF:1000≤F) (h:RG F s) (hs:r.s=Cm s):Gs F (some r) nm=some ((lkM (radM s) nm).elim (A0k,false) (fun y=>(Kq y,true))):=by
 have:=h.len;rw [Rg h];have:=A1m (nm:=nm) hs (by omega) F 0 (Nat.zero_le _) (by omega);rw [List.drop_zero] at this;exact this
theorem X1 {m:mosaic_Message} (hl:m.Vals.length≤1000):∀(n i:Nat),i≤m.Vals.length→m.Vals.length-i<n →
  ∃e,Ci m n (i:Int)=some e∧Cs (Cy m) n (i:Int)=some e∧(e=0↔∀v∈m.Vals.drop i,0≤v.Lo∧v.Lo≤v.Hi∧v.Hi≤1000000):=by
 intro n
 induction n with
 | zero=>intro i _ h;omega
 | succ n ih =>
  intro i hi hn;rw [Ci,Cs];unfold Eg Ez;rw [show (Cy m).Vals=m.Vals from rfl]
  by_cases hc:i<m.Vals.length
  ·rw [Bm (dT (by omega)),Bm (dT (by omega)),Fy i m.Vals[i] rfl (List.getElem?_eq_getElem hc),Fy i m.Vals[i] rfl (List.getElem?_eq_getElem hc),Wy,List.drop_eq_getElem_cons hc]
   cases hv:B2 m.Vals[i] 0 1000000 with
   | false =>
    refine ⟨3,rfl,rfl,fun h=>absurd h (by decide),fun h=>?_⟩;rw [Z9 (h _ (.head _))] at hv;cases hv
   | true =>
    rw [Be (c:=!true) rfl,Be (c:=!true) rfl,ckb (by omega),ckb (by omega)];obtain ⟨e,h1,h2,h3⟩:=ih (i+1) hc (by omega);refine ⟨e,h1,h2,h3.trans ⟨fun h v hm=>?_,fun h v hm=>h v (.tail _ hm)⟩⟩;rcases List.mem_cons.1 hm with e|e
    ·rw [e];exact Sk hv
    ·exact h v e
  ·rw [Be (dF (by omega)),Be (dF (by omega)),List.drop_eq_nil_of_le (by omega)];exact ⟨0,rfl,rfl,fun _ v hv=>(by cases hv),fun _=>rfl⟩
theorem Yk (x lo hi:Int):Ak x lo hi=B7 x lo hi:=rfl
theorem X2 {F:Nat} {s:mosaic_Spec} {N:mosaic_Node} {m:mosaic_Message} {r:ref11_Node} (hF:2000≤F) (h:RG F s) (hN:NI F s N) (hr:r.s=Cm s) (hl:m.Vals.length≤1000) :
  ∃e,Ed F N m=some e∧D3 F (some r) (Cy m)=some e∧(e=0↔okM s m):=by
 have hp:=A4x h.gs;have h2:=h.small;unfold Ed D3;rw [hN.radars,show (Cy m).Key.Name=m.Key.Name from rfl,Yb (by omega) h hr,sbd,Yk,Yk,show (Cy m).Key.Tilt=m.Key.Tilt from rfl,show (Cy m).Key.Time=m.Key.Time from rfl,show (Cy m).Vals=m.Vals from rfl]
 cases e1:lkM (radM s) m.Key.Name with
 | none=>exact ⟨4,rfl,rfl,fun h=>absurd h (by decide),fun h=>by obtain ⟨y,hy⟩:=h.key.1;rw [e1] at hy;cases hy⟩
 | some y =>
  rw [Be (c:=!(some y).isSome) rfl,Be (c:=!((some y).elim (A0k,false) (fun y=>(Kq y,true))).2) rfl]
  cases e2:B7 m.Key.Tilt 0 256 with
  | false=>exact ⟨3,rfl,rfl,fun h=>absurd h (by decide),fun h=>by rw [Tr h.key.2.1] at e2;cases e2⟩
  | true =>
  cases e3:B7 m.Key.Time 0 4294967296 with
  | false=>exact ⟨3,rfl,rfl,fun h=>absurd h (by decide),fun h=>by rw [Tr h.key.2.2] at e3;cases e3⟩
  | true =>
   rw [Be (c:=bif !true then true else !true) rfl,Be (c:=bif !true then true else !true) rfl,sbd,hN.spec,hr,show (Cm s).Grid=s.Grid from rfl,ckb (by omega),ckb (by omega)]
   by_cases hc:m.Vals.length=pix s
   ·rw [Be (by rw [hp.1,hc];simp),Be (by rw [hp.1,hc];simp)];obtain ⟨e,h4,h5,h6⟩:=X1 (m:=m) (by omega) F 0 (Nat.zero_le _) (by omega);rw [List.drop_zero] at h6;exact ⟨e,h4,h5,h6.trans ⟨fun k=>⟨⟨⟨y,e1⟩,Rc e2,Rc e3⟩,hc,k⟩,fun k=>k.vals⟩⟩
   ·have hne:(((m.Vals.length:Nat):Int) != s.Grid.Wide*s.Grid.High)=true:=by
     rw [hp.1,bne_iff_ne];omega
    rw [Bm hne,Bm hne];exact ⟨11,rfl,rfl,fun h=>absurd h (by decide),fun h=>absurd h.len hc⟩
end Go.Proofs.YtkbjbnkkfifbmaaGreat
namespace Go.Proofs.YtkbjbnkkfifbmaaGreat
open Go Go.RowKit Go.Eng
set_option maxRecDepth 10000
set_option linter.unusedVariables false
set_option linter.unusedSimpArgs false
def MLt (a b:mosaic_Message):Prop:=KLt a.Key b.Key∨a.Key=b.Key∧D8 a.Vals b.Vals<0
theorem Un (a:mosaic_Message):¬MLt a a:=by
 rintro (h|h)
 ·exact Ui _ h
 ·have:=h.2;rw [N3] at this;omega
theorem Zk {a b c:mosaic_Message} (h:MLt a b) (k:MLt b c):MLt a c:=by
 rcases h with h|h
 ·rcases k with k|k
  ·exact .inl (Uj h k)
  ·exact .inl (k.1▸h)
 ·rcases k with k|k
  ·exact .inl (h.1▸k)
  ·exact .inr ⟨h.1.trans k.1,N4 h.2 k.2⟩
theorem A1e (a b:mosaic_Message):MLt a b∨a=b∨MLt b a:=by
 rcases Qm a.Key b.Key with h|h|h
 ·exact .inl (.inl h)
 ·rcases Rz (x:=a.Vals) (y:=b.Vals) with k|k|k
  ·exact .inl (.inr ⟨h,k⟩)
  ·right;left
   cases a;cases b
   have:=Ua k;dsimp only at *
   subst_vars;rfl
  ·exact .inr (.inr (.inr ⟨h.symm,k⟩))
 ·exact .inr (.inr (.inl h))
abbrev Xn (l:List mosaic_Message):Prop:=l.Pairwise MLt
theorem Xk:∀{l k:List mosaic_Message},Xn l→Xn k→(∀x,x∈l↔x∈k)→l=k
 | [],[],_,_,_=>rfl
 | [],b::k,_,_,h=>by cases (h b).2 (.head _)
 | a::l,[],_,_,h=>by cases (h a).1 (.head _)
 | a::l,b::k,hl,hk,h=>by
  have hl':=List.pairwise_cons.1 hl;have hk':=List.pairwise_cons.1 hk;have e:a=b:=by
   rcases List.mem_cons.1 ((h a).1 (.head _)) with e|e
   ·exact e
   ·rcases List.mem_cons.1 ((h b).2 (.head _)) with e'|e'
    ·exact e'.symm
    ·exact absurd (Zk (hl'.1 b e') (hk'.1 a e)) (Un _)
  subst e;rw [Xk hl'.2 hk'.2 fun x=>?_];constructor
  ·intro hx;rcases List.mem_cons.1 ((h x).1 (.tail _ hx)) with e|e
   ·subst e;exact absurd (hl'.1 _ hx) (Un _)
   ·exact e
  ·intro hx;rcases List.mem_cons.1 ((h x).2 (.tail _ hx)) with e|e
   ·subst e;exact absurd (hk'.1 _ hx) (Un _)
   ·exact e
theorem A4m {F:Nat} {s:mosaic_Spec} {N:mosaic_Node} (h:NI F s N):(ksN N).Pairwise KLt:=by
 refine List.Pairwise.imp₂ ?_ (Mg N).2.2 (Zd h);intro x y h1 h2;rcases Qm x y with e|e|e
 ·exact e
 ·exact absurd e h2
 ·exact absurd e h1
theorem Vd {B:List (mosaic_Key×List (List api_Span))} (hB:∀k,Srt (kl B k)):∀{L:List mosaic_Key},L.Pairwise KLt→Xn (L.flatMap fun k=>(kl B k).map (mosaic_Message.mk k))
 | [],_=>.nil
 | k::L,h=>by
  have h':=List.pairwise_cons.1 h;rw [List.flatMap_cons];refine List.pairwise_append.2 ⟨?_,Vd hB h'.2,fun x hx y hy=>?_⟩
  ·exact List.pairwise_map.2 ((hB k).imp fun h=>.inr ⟨rfl,h⟩)
  ·obtain ⟨v,_,rfl⟩:=List.mem_map.1 hx;obtain ⟨k',hk',hy⟩:=List.mem_flatMap.1 hy;obtain ⟨v',_,rfl⟩:=List.mem_map.1 hy;exact .inl (h'.1 k' hk')
theorem Vk {F:Nat} {s:mosaic_Spec} {N:mosaic_Node} (h:SN F s N):Xn (Ls N):=Vd h.so (A4m h.ni)
open Classical in
noncomputable def Pf (m:mosaic_Message):List mosaic_Message→List mosaic_Message
 | []=>[m]
 | x::l=>if MLt m x then m::x::l else x::Pf m l
theorem Sj {m x:mosaic_Message}:∀{l:List mosaic_Message},x∈Pf m l↔x=m∨x∈l
 | []=>by unfold Pf;simp
 | y::l=>by
  unfold Pf
  split
  ·rw [List.mem_cons]
  ·rw [List.mem_cons,Sj,List.mem_cons];constructor
   ·rintro (h|h|h)
    ·exact .inr (.inl h)
    ·exact .inl h
    ·exact .inr (.inr h)
   ·rintro (h|h|h)
    ·exact .inr (.inl h)
    ·exact .inl h
    ·exact .inr (.inr h)
theorem Vg {m:mosaic_Message}:∀{l:List mosaic_Message},Xn l→m∉l→Xn (Pf m l)
 | [],_,_=>by unfold Pf;exact List.pairwise_singleton _ _
 | y::l,h,hm=>by
  have h':=List.pairwise_cons.1 h;unfold Pf
  split
  ·rename_i c
   refine List.pairwise_cons.2 ⟨fun x hx=>?_,h⟩;rcases List.mem_cons.1 hx with e|e
   ·rw [e];exact c
   ·exact Zk c (h'.1 x e)
  ·rename_i c
   refine List.pairwise_cons.2 ⟨fun x hx=>?_,Vg h'.2 fun e=>hm (.tail _ e)⟩;rcases Sj.1 hx with e|e
   ·rw [e];rcases A1e y m with k|k|k
    ·exact k
    ·exact absurd (k▸.head _) hm
    ·exact absurd k c
   ·exact h'.1 x e
theorem Zo {F:Nat} {s:mosaic_Spec} {N:mosaic_Node} {m:mosaic_Message} {r:Nat} (h:SN F s N) (h2:SN F s (Ny N m r)) (hm:¬has N m):Ls (Ny N m r)=Pf m (Ls N):=by
 refine Xk (Vk h2) (Vg (Vk h) fun e=>hm (Ml.1 e)) fun x=>?_;rw [Ml,A12,Sj,Ml]
theorem c3_lt {a b:Int}:c3 a b<0↔a<b:=by unfold c3;(repeat' split)<;>omega
theorem Yr {a b:Int} (h:a≠b):c3 a b≠0:=by unfold c3;(repeat' split)<;>omega
theorem A2g (a:Int):c3 a a=0:=by unfold c3;(repeat' split)<;>omega
theorem Ze {a b:List api_Span} (hl:a.length=b.length) (h9:a.length≤1000):∀(n i:Nat),i≤a.length→a.length-i<n→Gl a b n (i:Int)=some (decide (D8 (a.drop i) (b.drop i)<0)):=by
 intro n
 induction n with
 | zero=>intro i _ h;omega
 | succ n ih =>
  intro i hi hn;rw [Gl];unfold Km
  by_cases hc:i<a.length
  ·have ga:=List.getElem?_eq_getElem hc;have hc':i<b.length:=by omega
   have gb:=List.getElem?_eq_getElem hc';rw [Bm (dT (by omega)),Fy i _ rfl ga,Fy i _ rfl gb,Fy i _ rfl ga,Fy i _ rfl gb,Fy i _ rfl ga,Fy i _ rfl gb,Fy i _ rfl ga,Fy i _ rfl gb];rw [List.drop_eq_getElem_cons hc,List.drop_eq_getElem_cons hc'];have e0:D8 (a[i]::a.drop (i+1)) (b[i]::b.drop (i+1))=if Ha a[i] b[i]≠0 then Ha a[i] b[i] else D8 (a.drop (i+1)) (b.drop (i+1)):=rfl;rw [e0]
   by_cases h1:a[i].Lo=b[i].Lo
   ·have e1:Ha a[i] b[i]=c3 a[i].Hi b[i].Hi:=by unfold Ha;rw [h1,A2g];rfl
    rw [Be (c:=a[i].Lo != b[i].Lo) (by simpa using h1),e1]
    by_cases h2:a[i].Hi=b[i].Hi
    ·rw [Be (c:=a[i].Hi != b[i].Hi) (by simpa using h2),h2,A2g,if_neg (by simp),ckb (by omega)];exact ih (i+1) hc (by omega)
    ·rw [Bm (c:=a[i].Hi != b[i].Hi) (by simpa using h2),if_pos (Yr h2)];exact congrArg some (decide_eq_decide.2 c3_lt.symm)
   ·have e1:Ha a[i] b[i]=c3 a[i].Lo b[i].Lo:=by unfold Ha;rw [if_pos (Yr h1)]
    rw [Bm (c:=a[i].Lo != b[i].Lo) (by simpa using h1),e1,if_pos (Yr h1)];exact congrArg some (decide_eq_decide.2 c3_lt.symm)
  ·rw [Be (dF (by omega)),List.drop_eq_nil_of_le (by omega),List.drop_eq_nil_of_le (by omega)];rfl
theorem Ul {F:Nat} {a b:List api_Span} (hl:a.length=b.length) (h9:a.length≤1000) (hF:2000≤F):J5 F a b=some (decide (D8 a b<0)):=by
 have:=Ze hl h9 F 0 (Nat.zero_le _) (by omega);rw [List.drop_zero,List.drop_zero] at this;exact this
theorem A1t {F:Nat} {a b:List api_Span} (hl:a.length=b.length) (h9:a.length≤1000) (hF:2000≤F):Lp F a b=some (decide (a=b)):=by
 unfold Lp;rw [Ul hl h9 hF,sbd,Ul hl.symm (by omega) hF];rcases Rz (x:=a) (y:=b) with h|h|h
 ·rw [dT h,gdF (by rfl),sbd,dF (fun e=>by rw [e,N3] at h;omega)];rfl
 ·have e:=Ua h;subst e;rw [dF (p:=D8 a a<0) (by rw [N3];omega),gdT (by rfl),sbd,dT rfl];rfl
 ·rw [dF (A0s h),dT h,gdT (by rfl),sbd,dF (fun e=>by rw [e,N3] at h;omega)];rfl
theorem A2j (x k:ref11_Key):((x.Name==k.Name)&&(((x.Tilt:Int)==k.Tilt)&&(((x.Time:Int)==k.Time)&&true)))=decide (x=k):=by
 rw [Bool.eq_iff_iff];simp only [Bool.and_eq_true,beq_iff_eq,decide_eq_true_eq,and_true];constructor
 ·rintro ⟨h1,h2,h3⟩;cases x;cases k;dsimp only at *;subst h1 h2 h3;rfl
 ·intro h;rw [h];exact ⟨rfl,rfl,rfl⟩
theorem A11 {F:Nat} {r:ref11_Node} {m:ref11_Message} (hF:2000≤F) (hl:r.l.length≤1000) (hm:m.Vals.length≤1000) (hv:∀x∈r.l,x.Vals.length=m.Vals.length):∀(n i:Nat),i≤r.l.length→r.l.length-i<n →
  Dd F (some r) m n (i:Int)=some (decide (m∈r.l.drop i)):=by
 intro n
 induction n with
 | zero=>intro i _ h;omega
 | succ n ih =>
  intro i hi hn;rw [Dd];unfold G4;rw [sbd]
  by_cases hc:i<r.l.length
  ·have hg:=List.getElem?_eq_getElem hc;have hx:=hv _ (List.getElem_mem hc);have hd:=List.drop_eq_getElem_cons hc;rw [Bm (dT (by omega)),Fy i _ rfl hg,A2j,Fy i _ rfl hg,A1t hx (by omega) hF,sbd,ckb (by omega),show ((i:Int)+1)=((i+1:Nat):Int) by omega,ih (i+1) hc (by omega),hd]
   by_cases h1:r.l[i].Key=m.Key
   ·rw [dT h1,cond_true,cond_true]
    by_cases h2:r.l[i].Vals=m.Vals
    ·have e:r.l[i]=m:=by
      generalize r.l[i]=x at h1 h2
      cases x;cases m;dsimp only at *;subst h1 h2;rfl
     rw [dT h2,cond_true,dT (by rw [e];exact .head _)]
    ·rw [dF h2,cond_false];refine congrArg some (decide_eq_decide.2 ⟨.tail _,fun h=>?_⟩);rcases List.mem_cons.1 h with e|e
     ·exact absurd (by rw [←e]) h2
     ·exact e
   ·rw [dF h1,cond_false,cond_false,cond_false];refine congrArg some (decide_eq_decide.2 ⟨.tail _,fun h=>?_⟩);rcases List.mem_cons.1 h with e|e
    ·exact absurd (by rw [←e]) h1
    ·exact e
  ·rw [Be (dF (by omega)),List.drop_eq_nil_of_le (by omega),dF (fun h=>by cases h)];rfl
theorem Xr (a b:mosaic_Key):C5 (R7 a) (R7 b)=true↔KLt a b:=by
 unfold C5;rw [show (R7 a).Time=a.Time from rfl,show (R7 b).Time=b.Time from rfl,show (R7 a).Name=a.Name from rfl,show (R7 b).Name=b.Name from rfl,show (R7 a).Tilt=a.Tilt from rfl,show (R7 b).Tilt=b.Tilt from rfl,A1r];unfold KLt
 by_cases h1:a.Time=b.Time
 ·rw [Be (c:=a.Time != b.Time) (by simpa using h1)]
  by_cases h2:a.Name=b.Name
  ·rw [dT h2,Be (c:=!true) rfl,decide_eq_true_eq,h2];constructor
   ·intro h;exact .inr ⟨h1,.inr ⟨rfl,h⟩⟩
   ·rintro (h|⟨_,h|h⟩)
    ·omega
    ·exact absurd h (Zh _)
    ·exact h.2
  ·rw [dF h2,Bm (c:=!false) rfl,T3];constructor
   ·intro h;exact .inr ⟨h1,.inl h⟩
   ·rintro (h|⟨_,h|h⟩)
    ·omega
    ·exact h
    ·exact absurd (baL h.1) h2
 ·rw [Bm (c:=a.Time != b.Time) (by simpa using h1),decide_eq_true_eq];constructor
  ·intro h;exact .inl h
  ·rintro (h|h)
   ·exact h
   ·exact absurd h.1 h1
theorem Dt {α:Type} {g:Bool} {b d:α}:gd g (some b) d=some (bif g then b else d):=by cases g<;>rfl
theorem A5q (b k l:Bool):(bif (!false) then (bif b then true else (bif k then (bif (k==true&&(b==false&&((!false)==true&&true))) then l else default) else false)) else false)=(b||(k&&l)):=by cases b<;>cases k<;>cases l<;>rfl
theorem A4y (b k l:Bool):(bif (!true) then (bif b then true else (bif k then (bif (k==true&&(b==false&&((!true)==true&&true))) then l else default) else false)) else false)=false:=rfl
theorem A4o {m x:mosaic_Message}:(C5 (Cy m).Key (Cy x).Key||(decide (m.Key=x.Key)&&decide (D8 m.Vals x.Vals<0)))=true↔MLt m x:=by
 rw [Bool.or_eq_true,Bool.and_eq_true,show C5 (Cy m).Key (Cy x).Key=C5 (R7 m.Key) (R7 x.Key) from rfl,Xr,decide_eq_true_eq,decide_eq_true_eq];exact Iff.rfl
theorem A2n {F n i:Nat} {r:ref11_Node} {m x:ref11_Message} {l:List ref11_Message} {c:Bool} (hl:l.length≤100000) (hi:i≤100000):Df (i:Int) (B3 F r m n) x l c=B3 F r m n (l++[x]) c ((i+1:Nat):Int):=by
 unfold Df;rw [Hq (by simp;omega) (by decide),ckb (by omega)];rfl
theorem Xl {F n i:Nat} {r:ref11_Node} {m:mosaic_Message} {M:List mosaic_Message} {acc:List ref11_Message} {c:Bool} (hF:2000≤F) (hr:r.l=M.map Cy) (hl:M.length≤1000) (hm:m.Vals.length≤1000) (hv:∀x∈M,x.Vals.length=m.Vals.length) (hc:i<M.length) (ha:acc.length≤10000) :
  B3 F r (Cy m) (n+1) acc c (i:Int)=bif (!c)&&(C5 (Cy m).Key (Cy M[i]).Key||(decide (m.Key=M[i].Key)&&decide (D8 m.Vals M[i].Vals<0))) then B3 F r (Cy m) n (acc++[Cy m]++[Cy M[i]]) true ((i+1:Nat):Int) else B3 F r (Cy m) n (acc++[Cy M[i]]) c ((i+1:Nat):Int):=by
 rw [B3];unfold De;have hlen:r.l.length=M.length:=by rw [hr,List.length_map]
 have hg:r.l[i]? = some (Cy M[i]):=by rw [hr,List.getElem?_map,List.getElem?_eq_getElem hc];rfl
 have hx:=hv _ (List.getElem_mem hc);have hk:(((Cy m).Key.Name==(Cy M[i]).Key.Name)&&((((Cy m).Key.Tilt:Int)==(Cy M[i]).Key.Tilt)&&((((Cy m).Key.Time:Int)==(Cy M[i]).Key.Time)&&true)))=decide (m.Key=M[i].Key):=by
  rw [A2j];exact decide_eq_decide.2 Vh
 have hless:J5 F (Cy m).Vals (Cy M[i]).Vals=some (decide (D8 m.Vals M[i].Vals<0)):=Ul (by show m.Vals.length=M[i].Vals.length;omega) (by show m.Vals.length≤1000;omega) hF;have hap:∀f:List api_Span→Option ref11_Node,(apd 16 ([]:List api_Span) (Cy m).Vals).bind f=f (Cy m).Vals:=fun f=>Hq (f:=f) (by show (([]:List api_Span).length+m.Vals.length)*16≤140737488355328;simp;omega) (by decide);rw [hlen,Bm (dT (by omega)),Fy i _ rfl hg,hk,hless,Dt,sbd,hap,Hq (by simp;omega) (by decide)];rw [show ({ Key:=(Cy m).Key,Vals:=(Cy m).Vals }:ref11_Message)=Cy m from rfl];rw [A2n (by simp;omega) (by omega),A2n (by omega) (by omega)]
 cases c with
 | true=>rw [A4y];rfl
 | false=>rw [A5q];rfl
theorem A1i {F:Nat} {r:ref11_Node} {m:mosaic_Message} {M:List mosaic_Message} (hF:2000≤F) (hr:r.l=M.map Cy) (hl:M.length≤1000) (hm:m.Vals.length≤1000) (hv:∀x∈M,x.Vals.length=m.Vals.length):∀(n i:Nat) (acc:List ref11_Message),i≤M.length→M.length-i<n→acc.length≤i+1 →
  B3 F r (Cy m) n acc true (i:Int)=some ⟨r.s,r.h,acc++(M.drop i).map Cy⟩:=by
 intro n
 induction n with
 | zero=>intro i _ _ h;omega
 | succ n ih =>
  intro i acc hi hn ha
  by_cases hc:i<M.length
  ·rw [Xl hF hr hl hm hv hc (by omega),Be (c:=(!true)&&_) rfl,ih (i+1) _ hc (by omega) (by simp;omega),List.append_assoc,List.drop_eq_getElem_cons hc];rfl
  ·rw [B3];unfold De;have hlen:r.l.length=M.length:=by rw [hr,List.length_map]
   rw [hlen,Be (dF (by omega)),List.drop_eq_nil_of_le (by omega),List.map_nil,List.append_nil];rfl
theorem Z8 (m:mosaic_Message):Pf m []=[m]:=by unfold Pf;rfl
theorem A16 {m x:mosaic_Message} {l:List mosaic_Message} (h:MLt m x):Pf m (x::l)=m::x::l:=by rw [Pf,if_pos h]
theorem A15 {m x:mosaic_Message} {l:List mosaic_Message} (h:¬MLt m x):Pf m (x::l)=x::Pf m l:=by rw [Pf,if_neg h]
theorem A1j {F:Nat} {r:ref11_Node} {m:mosaic_Message} {M:List mosaic_Message} (hF:2000≤F) (hr:r.l=M.map Cy) (hl:M.length≤1000) (hm:m.Vals.length≤1000) (hv:∀x∈M,x.Vals.length=m.Vals.length):∀(n i:Nat) (acc:List ref11_Message),i≤M.length→M.length-i<n→acc.length≤i →
  B3 F r (Cy m) n acc false (i:Int)=some ⟨r.s,r.h,acc++(Pf m (M.drop i)).map Cy⟩:=by
 intro n
 induction n with
 | zero=>intro i _ _ h;omega
 | succ n ih =>
  intro i acc hi hn ha
  by_cases hc:i<M.length
  ·have hd:=List.drop_eq_getElem_cons hc;rw [Xl hF hr hl hm hv hc (by omega),hd]
   by_cases h:MLt m M[i]
   ·rw [Bm (by rw [A4o.2 h];rfl),A16 h,A1i hF hr hl hm hv n (i+1) _ hc (by omega) (by simp;omega),List.append_assoc,List.append_assoc];rfl
   ·rw [Be (by rw [Bool.eq_false_iff.2 (fun e=>h (A4o.1 e))];rfl),A15 h,ih (i+1) _ hc (by omega) (by simp;omega),List.append_assoc];rfl
  ·rw [B3];unfold De;have hlen:r.l.length=M.length:=by rw [hr,List.length_map]
   rw [hlen,Be (dF (by omega)),List.drop_eq_nil_of_le (by omega),Z8];unfold G5;have hap:∀f:List api_Span→Option ref11_Node,(apd 16 ([]:List api_Span) (Cy m).Vals).bind f=f (Cy m).Vals:=fun f=>Hq (f:=f) (by show (([]:List api_Span).length+m.Vals.length)*16≤140737488355328;simp;omega) (by decide);rw [Bm (c:=!false) rfl,hap,Hq (by simp;omega) (by decide)];rfl
theorem Tq {F:Nat} {s:mosaic_Spec} {N:mosaic_Node} (h:SN F s N):∀x∈Ls N,x.Vals.length=pix s:=fun x hx=>(h.okm (Ml.1 hx)).len
theorem A13 {F:Nat} {s:mosaic_Spec} {N:mosaic_Node} {m:mosaic_Message} (hF:2000≤F) (hs:GS F s) (h:SN F s N) (ht:tot N.kept≤1000) (hm:m.Vals.length=pix s):∃b,Em F (some (Hj N)) (Cy m)=some b∧(b=true↔has N m):=by
 have h1:=Su h.ni;have h2:=hs.small;have hlen:(Hj N).l.length=(Ls N).length:=List.length_map ..;have:=A11 (F:=F) (r:=Hj N) (m:=Cy m) hF (by omega) (by show m.Vals.length≤1000;omega) (fun x hx=>by
  obtain ⟨y,hy,rfl⟩:=List.mem_map.1 hx;show y.Vals.length=m.Vals.length;rw [Tq h y hy,hm]) F 0 (Nat.zero_le _) (by omega)
 rw [List.drop_zero] at this;refine ⟨_,this,?_⟩;rw [decide_eq_true_eq,←Ml];show Cy m∈(Ls N).map Cy↔_;rw [List.mem_map];exact ⟨fun ⟨y,hy,e⟩=>Zm.1 e▸hy,fun e=>⟨m,e,rfl⟩⟩
theorem A1k {F:Nat} {s:mosaic_Spec} {N:mosaic_Node} {m:mosaic_Message} {r:Nat} (hF:2000≤F) (hs:GS F s) (h:SN F s N) (h2:SN F s (Ny N m r)) (ht:tot N.kept≤900) (hm:m.Vals.length=pix s) (hn:¬has N m):Gd F (Hj N) (Cy m)=some (Hj (Ny N m r)):=by
 have h1:=Su h.ni;have h3:=hs.small;have:=A1j (F:=F) (r:=Hj N) (m:=m) (M:=Ls N) hF rfl (by omega) (by omega) (fun x hx=>by rw [Tq h x hx,hm]) F 0 [] (Nat.zero_le _) (by omega) (Nat.le_refl _);rw [List.drop_zero,List.nil_append,←Zo h h2 hn] at this;exact this
end Go.Proofs.YtkbjbnkkfifbmaaGreat
namespace Go.Proofs.YtkbjbnkkfifbmaaGreat
open Go Go.RowKit Go.Eng
set_option maxRecDepth 10000
set_option linter.unusedVariables false
set_option linter.unusedSimpArgs false
def Byt (l:List Int):Prop:=∀x∈l,0≤x∧x≤255
theorem A0t {α:Type} {l:List α} {k:Nat} (h:k≤l.length):Lh l 0 (k:Int)=some (l.take k):=by
 unfold Lh;rw [if_pos (by omega),Int.toNat_natCast,Int.toNat_zero,List.drop_zero,Nat.sub_zero]
theorem A0u {α:Type} {l:List α} {k:Nat} (h:k≤l.length):Lh l (k:Int) ((l.length:Nat):Int)=some (l.drop k):=by
 unfold Lh;rw [if_pos (by omega),Int.toNat_natCast,Int.toNat_natCast,List.take_of_length_le (by rw [List.length_drop];omega)]
theorem A5a {sh:Nat} {v c:Int} (hsh:sh≤28) (hv:0≤v∧v<((2 ^ sh:Nat):Int)) (hc:0≤c∧c<128):∃y,A04 .i64 c (sh:Int)=some y∧orK .i64 v y=v+c*((2 ^ sh:Nat):Int):=by
 have hp:2 ^ sh≤2 ^ 28:=Nat.pow_le_pow_right (by omega) hsh;have hp2:(2 ^ 28:Nat)=268435456:=by decide
 rw [hp2] at hp;obtain ⟨a,rfl⟩:=Int.eq_ofNat_of_zero_le hv.1;obtain ⟨b,rfl⟩:=Int.eq_ofNat_of_zero_le hc.1;have hb:b≤127:=by omega
 have ha:a<2 ^ sh:=by omega
 have hm:b*2 ^ sh≤127*2 ^ sh:=Nat.mul_le_mul_right _ hb;have e2:((b:Int)*((2 ^ sh:Nat):Int))=((b*2 ^ sh:Nat):Int):=(Int.natCast_mul _ _).symm;refine ⟨((b*2 ^ sh:Nat):Int),?_,?_⟩
 ·unfold A04;have e1:min ((sh:Int)).toNat IntKind.i64.bits=sh:=by
   rw [Int.toNat_natCast];exact Nat.min_eq_left (show sh≤64 by omega)
  have e3:((2:Int) ^ sh)=((2 ^ sh:Nat):Int):=(Int.natCast_pow 2 sh).symm;rw [if_pos (by omega),e1,e3,e2,A0i (by omega)]
 ·have h64:((2 ^ IntKind.i64.bits:Nat):Int)=18446744073709551616:=by decide
  have e:(BitVec.ofInt IntKind.i64.bits (a:Int) ||| BitVec.ofInt IntKind.i64.bits ((b*2 ^ sh:Nat):Int)).toNat=a+b*2 ^ sh:=by
   rw [BitVec.toNat_or,BitVec.toNat_ofInt,BitVec.toNat_ofInt,h64,Int.emod_eq_of_lt (by omega) (by omega),Int.emod_eq_of_lt (by omega) (by omega),Int.toNat_natCast,Int.toNat_natCast,Nat.or_comm,Nat.mul_comm b,←Nat.two_pow_add_eq_or_of_lt ha b,Nat.add_comm]
  unfold orK;rw [e,A0i (by omega),e2];omega
theorem A1h {F:Nat}:∀(k n i:Nat) (l:List Int) (v:Int),i+k=5→k<n→0≤v→v<((2 ^ (7*i):Nat):Int)→Byt l →
  (∃(x:Int) (r:List Int),Bi F n l v ((7*i:Nat):Int)=some (.ok (x,⟨r⟩))∧Bf F n l false v ((2 ^ (7*i):Nat):Int) (i:Int)=some (x,⟨r,false⟩)∧0≤x∧x<34359738368∧r.length<l.length∧∀y∈r,y∈l) ∨
  ((∃y,Bi F n l v ((7*i:Nat):Int)=some (.error (.iface 204 (.agg #[]),y)))∧∃b,Bf F n l false v ((2 ^ (7*i):Nat):Int) (i:Int)=some (0,⟨b,true⟩)):=by
 intro k
 induction k with
 | zero =>
  intro n i l v hi hn h0 h1 hb;obtain ⟨n,rfl⟩:∃m,n=m+1:=⟨n-1,by omega⟩;obtain rfl:i=5:=by omega
  right;rw [Bi,Bf];exact ⟨⟨_,rfl⟩,_,rfl⟩
 | succ k ih =>
  intro n i l v hi hn h0 h1 hb;obtain ⟨n,rfl⟩:∃m,n=m+1:=⟨n-1,by omega⟩;rw [Bi,Bf];unfold Dm Dz;rw [Bm (dT (by omega)),Bm (c:=bif (decide ((i:Int)<5)) then (!false) else false) (by rw [dT (by omega)];rfl)];unfold B4 D1 Ay
  cases l with
  | nil =>
   right;exact ⟨⟨_,rfl⟩,_,rfl⟩
  | cons c l =>
   have hc:=hb c (.head _);have t0:=Int.tmod_nonneg 128 hc.1;have t1:=Int.tmod_lt_of_pos c (show (0:Int)<128 by omega);have c1:Lh (c::l) (0:Int) 1=some [c]:=A0t (l:=c::l) (k:=1) (by simp);have c2:Lh (c::l) 1 (((c::l).length:Nat):Int)=some l:=A0u (l:=c::l) (k:=1) (by simp);have g0:∀{β:Type} (f:Int→Option β),(C0 [c] 0).bind f=f c:=fun f=>rfl;obtain ⟨y,s1,s2⟩:=A5a (sh:=7*i) (v:=v) (c:=c.tmod 128) (by omega) ⟨h0,h1⟩ ⟨t0,t1⟩;have hp:2 ^ (7*i)≤2 ^ 28:=Nat.pow_le_pow_right (by omega) (by omega);have hp2:(2 ^ 28:Nat)=268435456:=by decide
   rw [hp2] at hp;have hp3:(2 ^ (7*(i+1)):Nat)=2 ^ (7*i)*128:=by rw [show 7*(i+1)=7*i+7 by omega,Nat.pow_add]
   have hm1:c.tmod 128*((2 ^ (7*i):Nat):Int)≤127*((2 ^ (7*i):Nat):Int):=Int.mul_le_mul_of_nonneg_right (by omega) (by omega);have hm2:0≤c.tmod 128*((2 ^ (7*i):Nat):Int):=Int.mul_nonneg t0 (by omega);have e3:((2 ^ (7*(i+1)):Nat):Int)=((2 ^ (7*i):Nat):Int)*128:=by rw [hp3,Int.natCast_mul];rfl
   generalize hq:((2 ^ (7*i):Nat):Int)=q at *;generalize hz:c.tmod 128*q=z at *;have hqb:q≤268435456:=by omega
   rw [Be (c:=decide ((1:Int)>(((c::l).length:Nat):Int))) (dF (by simp;omega)),c1,sbd,c2,sbd,sbd,Jk,g0,ckb (by omega),A00 (by omega),s1,sbd];rw [Be (c:=bif (decide ((1:Int)<0)) then true else (decide ((1:Int)>(((c::l).length:Nat):Int)))) (by rw [dF (p:=(1:Int)>(((c::l).length:Nat):Int)) (by simp;omega)];rfl),sbd,sbd,sbd];rw [Be (c:=false) rfl,g0,A00 (by omega),ckb (by omega),ckb (by omega),hz,ckb (by omega),ckb (by omega),ckb (by omega),g0];rw [s2]
   by_cases hlt:c<128
   ·left;rw [Bm (dT hlt),Bm (dT hlt)];exact ⟨v+z,l,rfl,rfl,by omega,by omega,by simp,fun y hy=>.tail _ hy⟩
   ·rw [Be (dF hlt),Be (dF hlt),ckb (by omega)];rcases ih n (i+1) l (v+z) (by omega) (by omega) (by omega) (by rw [e3];omega) (fun x hx=>hb x (.tail _ hx)) with ⟨x,r,a1,a2,a3,a4,a5,a6⟩|⟨⟨x,a1⟩,b,a2⟩
    ·left;rw [e3] at a2;exact ⟨x,r,by rw [show ((7*i:Nat):Int)+7=((7*(i+1):Nat):Int) by omega];exact a1,a2,a3,a4,by simp;omega,fun y hy=>.tail _ (a6 y hy)⟩
    ·right;rw [e3] at a2;exact ⟨⟨x,by rw [show ((7*i:Nat):Int)+7=((7*(i+1):Nat):Int) by omega];exact a1⟩,b,a2⟩
theorem Wo {F:Nat} {l:List Int} (hF:10≤F) (hb:Byt l) :
  (∃(x:Int) (r:List Int),Ag F ⟨l⟩=some (.ok (x,⟨r⟩))∧Aa F ⟨l,false⟩=some (x,⟨r,false⟩)∧0≤x∧x<34359738368∧r.length<l.length∧∀y∈r,y∈l) ∨
  ((∃y,Ag F ⟨l⟩=some (.error (.iface 204 (.agg #[]),y)))∧∃b,Aa F ⟨l,false⟩=some (0,⟨b,true⟩)) :=
 A1h (F:=F) 5 F 0 l 0 rfl (by omega) (Int.le_refl _) (by decide) hb
theorem Py {F:Nat} {b:List Int} (hF:10≤F):Aa F ⟨b,true⟩=some (0,⟨b,true⟩):=by
 obtain ⟨n,rfl⟩:∃n,F=n+1:=⟨F-1,by omega⟩;unfold Aa;rw [Bf];rfl
theorem A5e {F:Nat} {b:List Int} {c:Bool}:Ay F ⟨b,c⟩ 0=some ([],⟨b,c⟩):=by
 unfold Ay;have c1:=A0t (l:=b) (k:=0) (Nat.zero_le _);have c2:=A0u (l:=b) (k:=0) (Nat.zero_le _);rw [Be (c:=bif (decide ((0:Int)<0)) then true else (decide ((0:Int)>((b.length:Nat):Int)))) (by rw [dF (p:=(0:Int)>((b.length:Nat):Int)) (by omega)];rfl)];show (Lh b 0 0).bind _=_;rw [show Lh b 0 0=some (b.take 0) from c1,sbd];show (Lh b 0 ((b.length:Nat):Int)).bind _=_;rw [show Lh b 0 ((b.length:Nat):Int)=some (b.drop 0) from c2,sbd];rfl
theorem A2s {F:Nat} {l:List Int} {n:Int} (h0:0≤n) :
  (∃k:Nat,n=k∧k≤l.length∧B4 F ⟨l⟩ n=some (.ok (l.take k,⟨l.drop k⟩))∧Ay F ⟨l,false⟩ n=some (l.take k,⟨l.drop k,false⟩)) ∨
  (B4 F ⟨l⟩ n=some (.error (.iface 204 (.agg #[]),⟨l⟩))∧Ay F ⟨l,false⟩ n=some ([],⟨l,true⟩)):=by
 obtain ⟨k,rfl⟩:=Int.eq_ofNat_of_zero_le h0;unfold B4 Ay D1
 by_cases hc:k≤l.length
 ·left;refine ⟨k,rfl,hc,?_,?_⟩
  ·rw [Be (dF (by show ¬(k:Int)>((l.length:Nat):Int);omega))];show (Lh l 0 (k:Int)).bind _=_;rw [A0t hc,sbd];show (Lh l (k:Int) ((l.length:Nat):Int)).bind _=_;rw [A0u hc,sbd]
  ·rw [Be (by rw [dF (p:=(k:Int)<0) (by omega),cond_false];exact dF (by show ¬(k:Int)>((l.length:Nat):Int);omega))];show (Lh l 0 (k:Int)).bind _=_;rw [A0t hc,sbd];show (Lh l (k:Int) ((l.length:Nat):Int)).bind _=_;rw [A0u hc,sbd]
 ·right;refine ⟨?_,?_⟩
  ·rw [Bm (dT (by show (k:Int)>((l.length:Nat):Int);omega))]
  ·rw [Bm (by rw [dF (p:=(k:Int)<0) (by omega),cond_false];exact dT (by show (k:Int)>((l.length:Nat):Int);omega))]
theorem Byt.drop {l:List Int} (h:Byt l) (k:Nat):Byt (l.drop k):=fun x hx=>h x (List.mem_of_mem_drop hx)
theorem A0o {a b:List Int} (ha:Byt a) (hb:Byt b) (h:bst a=bst b):a=b:=by
 have h1:(a.map fun x=>UInt8.ofNat x.toNat).toArray=(b.map fun x=>UInt8.ofNat x.toNat).toArray:=congrArg ByteArray.data h;have h2:a.map (fun x=>UInt8.ofNat x.toNat)=b.map (fun x=>UInt8.ofNat x.toNat):=by
  have:=congrArg Array.toList h1
  simpa using this
 clear h h1
 induction a generalizing b with
 | nil=>cases b with
  | nil=>rfl
  | cons y b=>simp at h2
 | cons x a ih=>cases b with
  | nil=>simp at h2
  | cons y b =>
   rw [List.map_cons,List.map_cons] at h2;injection h2 with h3 h4;rw [ih (fun z hz=>ha z (.tail _ hz)) (fun z hz=>hb z (.tail _ hz)) h4];have hx:=ha x (.head _);have hy:=hb y (.head _);have h5:=congrArg UInt8.toNat h3;rw [UInt8.toNat_ofNat_of_lt' (by show x.toNat<256;omega),UInt8.toNat_ofNat_of_lt' (by show y.toNat<256;omega)] at h5;have:x=y:=by omega
   rw [this]
theorem A3a {a b:List Int} (hl:a.length=b.length) (h9:a.length≤1000000):∀(n i:Nat),i≤a.length→a.length-i<n→Bw a b n (i:Int)=some (decide (a.drop i=b.drop i)):=by
 intro n
 induction n with
 | zero=>intro i _ h;omega
 | succ n ih =>
  intro i hi hn;rw [Bw];unfold D7
  by_cases hc:i<a.length
  ·have hc':i<b.length:=by omega
   rw [Bm (dT (by omega)),Fy i _ rfl (List.getElem?_eq_getElem hc),Fy i _ rfl (List.getElem?_eq_getElem hc'),List.drop_eq_getElem_cons hc,List.drop_eq_getElem_cons hc']
   by_cases e:a[i]=b[i]
   ·rw [Be (c:=a[i] != b[i]) (by simpa using e),ckb (by omega)];refine (ih (i+1) hc (by omega)).trans (congrArg some (decide_eq_decide.2 ⟨fun h=>by rw [e,h],fun h=>?_⟩));injection h
   ·rw [Bm (c:=a[i] != b[i]) (by simpa using e),dF (fun h=>by injection h with h1 h2;exact e h1)]
  ·rw [Be (dF (by omega)),List.drop_eq_nil_of_le (by omega),List.drop_eq_nil_of_le (by omega),dT rfl];rfl
theorem Yj {F:Nat} {a b:List Int} (h9:a.length≤1000000) (hF:a.length<F):Ce F a b=some (decide (a=b)):=by
 unfold Ce
 by_cases hl:a.length=b.length
 ·have:=A3a hl h9 F 0 (Nat.zero_le _) (by omega);rw [List.drop_zero,List.drop_zero] at this;rw [Be (by rw [hl];simp)];exact this
 ·rw [Bm (by rw [bne_iff_ne];omega),dF (fun e=>hl (by rw [e]))]
end Go.Proofs.YtkbjbnkkfifbmaaGreat
namespace Go.Proofs.YtkbjbnkkfifbmaaGreat
open Go Go.RowKit Go.Eng
set_option maxRecDepth 10000
set_option linter.unusedVariables false
set_option linter.unusedSimpArgs false
def Rf:Nat→Int→List Int
 | 0,n=>[IntKind.u8.wrap n]
 | k+1,n=>if n≥128 then IntKind.u8.wrap (n.tmod 128+128)::Rf k (n/128) else [IntKind.u8.wrap n]
theorem Vm:∀(k:Nat) (n:Int),(Rf k n).length≤k+1
 | 0,_=>Nat.le_refl _
 | k+1,n=>by
  unfold Rf
  split
  ·rw [List.length_cons];have:=Vm k (n/128);omega
  ·simp
theorem u8B (x:Int):0≤IntKind.u8.wrap x∧IntKind.u8.wrap x≤255:=by rw [IntKind.wrap_u8];omega
theorem Ko:∀(k:Nat) (n:Int),Byt (Rf k n)
 | 0,n=>fun x hx=>by
  have:x∈[IntKind.u8.wrap n]:=hx;rw [List.mem_singleton.1 this];exact u8B _
 | k+1,n=>fun x hx=>by
  unfold Rf at hx
  split at hx
  ·rcases List.mem_cons.1 hx with e|e
   ·rw [e];exact u8B _
   ·exact Ko k _ x e
  ·rw [List.mem_singleton.1 hx];exact u8B _
theorem A4q:∀(k f:Nat) (n:Int) (l:List Int),0≤n→n<128 ^ (k+1)→n≤4000000000000000000→k<f→l.length+k≤1000000000→Db f l n=some (l++Rf k n)∧E2 f n l=some (l++Rf k n):=by
 intro k
 induction k with
 | zero =>
  intro f n l h0 h1 _ hf hl;obtain ⟨f,rfl⟩:∃g,f=g+1:=⟨f-1,by omega⟩;rw [Db,E2];unfold Fk Ge;rw [Be (dF (by omega)),Be (dF (by omega))];unfold Fl Gf;rw [Hq (by simp;omega) (by decide)];exact ⟨rfl,rfl⟩
 | succ k ih =>
  intro f n l h0 h1 h2 hf hl;obtain ⟨f,rfl⟩:∃g,f=g+1:=⟨f-1,by omega⟩;rw [Db,E2];unfold Fk Ge
  by_cases hc:n≥128
  ·have hm0:=Int.tmod_nonneg 128 h0;have hm1:=Int.tmod_lt_of_pos n (show (0:Int)<128 by omega);have hd:n/128<128 ^ (k+1):=by
    rw [Int.pow_succ] at h1;exact Int.ediv_lt_of_lt_mul (by omega) h1
   have e:Rf (k+1) n=IntKind.u8.wrap (n.tmod 128+128)::Rf k (n/128):=by rw [Rf,if_pos hc]
   rw [Bm (dT hc),A00 (by omega),ckb (by omega),Hq (by simp;omega) (by decide),A4z h0 (by omega) (by omega),Bm (dT hc),A00 (by omega),ckb (by omega),Hq (by simp;omega) (by decide),A4z h0 (by omega) (by omega),e];obtain ⟨q1,q2⟩:=ih f (n/128) (l++[IntKind.u8.wrap (n.tmod 128+128)]) (by omega) hd (by omega) (by omega) (by simp;omega);rw [List.append_assoc,List.singleton_append] at q1 q2;exact ⟨q1,q2⟩
  ·have e:Rf (k+1) n=[IntKind.u8.wrap n]:=by rw [Rf,if_neg hc]
   rw [Be (dF hc),Be (dF hc),e];unfold Fl Gf;rw [Hq (by simp;omega) (by decide)];exact ⟨rfl,rfl⟩
abbrev nmB (n:Int):List Int:=Rf 9 n
theorem A2m:(1000000000000000000:Int)<128 ^ (9+1):=by decide
theorem Wp {F:Nat} (hF:20≤F) {n:Int} {l:List Int} (h0:0≤n) (h1:n≤1000000000000000000) (hl:l.length≤100000000):Cv F l n=some (l++nmB n) :=
 (A4q 9 F n l h0 (Int.lt_of_le_of_lt h1 A2m) (by omega) (by omega) (by omega)).1
theorem Wq {F:Nat} (hF:20≤F) {n:Int} (h0:0≤n) (h1:n≤1000000000000000000):Dn F n=some (nmB n):=by
 have:=(A4q 9 F n [] h0 (Int.lt_of_le_of_lt h1 A2m) (by omega) (by omega) (by simp)).2;rw [List.nil_append] at this;exact this
theorem Et (n:Int):(nmB n).length≤10:=Vm 9 n
theorem A24 (x:Int):IntKind.u32.wrap x=x%4294967296:=by rw [IntKind.wrap_u32]
theorem A0q {c u:Int} (hc:0≤c∧c<4294967296) (hu:0≤u∧u≤255):IntKind.u32.wrap ((IntKind.u32.wrap ((IntKind.u32.wrap (31*c))+(IntKind.u32.wrap u)))+1)=(31*c+u+1).tmod 4294967296:=by
 rw [A24,A24,A24,A24,Int.tmod_eq_emod_of_nonneg (by omega)];omega
theorem U1 {x:Int} (h:0≤x∧x<4294967296):IntKind.u8.wrap (Lr .i64 x 255)=IntKind.u8.wrap x:=by
 obtain ⟨a,rfl⟩:=Int.eq_ofNat_of_zero_le h.1;have h64:((2 ^ IntKind.i64.bits:Nat):Int)=18446744073709551616:=by decide
 have e:(BitVec.ofInt IntKind.i64.bits (a:Int) &&& BitVec.ofInt IntKind.i64.bits 255).toNat=a%256:=by
  rw [BitVec.toNat_and,BitVec.toNat_ofInt,BitVec.toNat_ofInt,h64,Int.emod_eq_of_lt (by omega) (by omega),Int.emod_eq_of_lt (by omega) (by omega),Int.toNat_natCast];exact Nat.and_two_pow_sub_one_eq_mod a 8
 unfold Lr;rw [e,A0i (by omega),IntKind.wrap_u8,IntKind.wrap_u8];omega
theorem Yt {l:List Int} (hb:Byt l) (h9:l.length≤100000000):∀(n i:Nat) (c:Int),i≤l.length→l.length-i<n→0≤c∧c<4294967296 →
  ∃k,El l n c (i:Int)=some k∧Fu l n c (i:Int)=some k∧k.length=4∧Byt k:=by
 intro n
 induction n with
 | zero=>intro i c _ h;omega
 | succ n ih =>
  intro i c hi hn hc;rw [El,Fu];unfold Ho Jv
  by_cases h:i<l.length
  ·have hu:=hb _ (List.getElem_mem h);have hg:=List.getElem?_eq_getElem h;have t0:=Int.tmod_nonneg 4294967296 (show 0≤31*c+l[i]+1 by omega);have t1:=Int.tmod_lt_of_pos (31*c+l[i]+1) (show (0:Int)<4294967296 by omega);rw [Bm (dT (by omega)),Bm (dT (by omega)),Fy i _ rfl hg,ckb (by omega),ckb (by omega),Fy i _ rfl hg,ckb (by omega),ckb (by omega),ckb (by omega),A00 (by omega),ckb (by omega),A0q hc hu];exact ih (i+1) _ h (by omega) ⟨t0,t1⟩
  ·rw [Be (dF (by omega)),Be (dF (by omega))];unfold Hp Jw;have f1:0≤Int.fdiv c 16777216∧Int.fdiv c 16777216<4294967296:=by rw [Int.fdiv_eq_ediv_of_nonneg _ (by omega)];omega
   have f2:0≤Int.fdiv c 65536∧Int.fdiv c 65536<4294967296:=by rw [Int.fdiv_eq_ediv_of_nonneg _ (by omega)];omega
   have f3:0≤Int.fdiv c 256∧Int.fdiv c 256<4294967296:=by rw [Int.fdiv_eq_ediv_of_nonneg _ (by omega)];omega
   rw [U1 f1,U1 f2,U1 f3,U1 hc];refine ⟨_,rfl,rfl,rfl,fun x hx=>?_⟩;simp only [List.mem_cons,List.not_mem_nil,or_false] at hx;rcases hx with e|e|e|e<;>(rw [e];exact u8B _)
theorem A33 {F:Nat} {l:List Int} (hb:Byt l) (h9:l.length≤100000000) (hF:l.length<F):∃k,L9 F l=some k∧Lz F l=some k∧k.length=4∧Byt k :=
 Yt hb h9 F 0 1 (Nat.zero_le _) (by omega) (by decide)
def T6 (v:api_Span):List Int:=nmB v.Lo++nmB (v.Hi-v.Lo)
def A19 (k:mosaic_Key):List Int:=nmB ((k.Name.size:Nat):Int)++(sby k.Name++(nmB k.Tilt++nmB k.Time))
def Pu (m:mosaic_Message):List Int:=A19 m.Key++m.Vals.flatMap T6
theorem La (s:ByteArray):(sby s).length=s.size:=by unfold sby;rw [List.length_map];rfl
theorem A0f (v:api_Span):(T6 v).length≤20:=by
 unfold T6;rw [List.length_append];have:=Et v.Lo;have:=Et (v.Hi-v.Lo);omega
theorem Tx:∀l:List api_Span,(l.flatMap T6).length≤20*l.length
 | []=>by simp
 | v::l=>by
  rw [List.flatMap_cons,List.length_append,List.length_cons];have:=A0f v;have:=Tx l;omega
theorem Ss {m:mosaic_Message} (h:m.Key.Name.size≤40):(Pu m).length≤70+20*m.Vals.length:=by
 unfold Pu A19;rw [List.length_append,List.length_append,List.length_append,List.length_append,La];have:=Et ((m.Key.Name.size:Nat):Int);have:=Et m.Key.Tilt;have:=Et m.Key.Time;have:=Tx m.Vals;omega
theorem Byt.app {a b:List Int} (h:Byt a) (k:Byt b):Byt (a++b):=fun x hx=>(List.mem_append.1 hx).elim (h x) (k x)
theorem A1u (s:ByteArray):Byt (sby s):=by
 intro x hx;unfold sby at hx;obtain ⟨b,_,rfl⟩:=List.mem_map.1 hx;have:=UInt8.toNat_lt b;omega
theorem A0e (v:api_Span):Byt (T6 v):=(Ko _ _).app (Ko _ _)
theorem Zl (m:mosaic_Message):Byt (Pu m):=by
 refine ((Ko _ _).app ((A1u _).app ((Ko _ _).app (Ko _ _)))).app fun x hx=>?_;obtain ⟨v,_,hv⟩:=List.mem_flatMap.1 hx;exact A0e v x hv
structure SmM (P:Nat) (m:mosaic_Message):Prop where
 len:m.Vals.length=P
 vals:∀v∈m.Vals,0≤v.Lo∧v.Lo≤v.Hi∧v.Hi≤1000000
 name:m.Key.Name.size≤40
 tilt:0≤m.Key.Tilt∧m.Key.Tilt≤256
 time:0≤m.Key.Time∧m.Key.Time≤4294967296
theorem A47 {F:Nat} {x:Int} {k2:Int→List Int→Option (List Int)} {u:mosaic_Message} {P:Nat} (hF:20≤F) (hu:SmM P u) (hP:P≤1000) (hx:0≤x∧x≤1000000) :
  ∀(n i:Nat) (l:List Int),i≤P→P-i<n→l.length≤1000000+20*i→By F x k2 u n l (i:Int)=k2 (x+1) (l++(u.Vals.drop i).flatMap T6):=by
 have hlen:=hu.len;intro n
 induction n with
 | zero=>intro i l _ h;omega
 | succ n ih =>
  intro i l hi hn hl;rw [By];unfold Dk
  by_cases hc:i<u.Vals.length
  ·obtain ⟨v1,v2,v3⟩:=hu.vals _ (List.getElem_mem hc);have n1:=Et u.Vals[i].Lo;have n2:=Et (u.Vals[i].Hi-u.Vals[i].Lo);rw [Bm (dT (by omega)),Fy i u.Vals[i] rfl (List.getElem?_eq_getElem hc),ckb (by omega),Wp hF v1 (by omega) (by omega),sbd,Wp hF (by omega) (by omega) (by simp;omega),sbd,ckb (by omega)];have:=ih (i+1) (l++nmB u.Vals[i].Lo++nmB (u.Vals[i].Hi-u.Vals[i].Lo)) (by omega) (by omega) (by simp;omega);rw [List.drop_eq_getElem_cons hc,List.flatMap_cons,←List.append_assoc];refine this.trans ?_;rw [show T6 u.Vals[i]=nmB u.Vals[i].Lo++nmB (u.Vals[i].Hi-u.Vals[i].Lo) from rfl,←List.append_assoc]
  ·rw [Be (dF (by omega)),List.drop_eq_nil_of_le (by omega)];unfold Dl;rw [ckb (by omega),List.flatMap_nil,List.append_nil]
theorem A1y {F:Nat} {x:Int} {k2:List Int→Int→Option (List Int)} {u:mosaic_Message} {P:Nat} (hF:20≤F) (hu:SmM P u) (hP:P≤1000) (hx:0≤x∧x≤1000000) :
  ∀(n i:Nat) (l:List Int),i≤P→P-i<n→l.length≤1000000+20*i→C6 F x k2 (Cy u) n l (i:Int)=k2 (l++(u.Vals.drop i).flatMap T6) (x+1):=by
 have hlen:=hu.len;intro n
 induction n with
 | zero=>intro i l _ h;omega
 | succ n ih =>
  intro i l hi hn hl;rw [C6];unfold Dx;rw [show (Cy u).Vals=u.Vals from rfl]
  by_cases hc:i<u.Vals.length
  ·obtain ⟨v1,v2,v3⟩:=hu.vals _ (List.getElem_mem hc);have n1:=Et u.Vals[i].Lo;have n2:=Et (u.Vals[i].Hi-u.Vals[i].Lo);have hg:=List.getElem?_eq_getElem hc;rw [Bm (dT (by omega)),Fy i _ rfl hg,Wq hF v1 (by omega),sbd,Hq (by omega) (by decide),Fy i _ rfl hg,Fy i _ rfl hg,ckb (by omega),Wq hF (by omega) (by omega),sbd,Hq (by simp;omega) (by decide),ckb (by omega)];have:=ih (i+1) (l++nmB u.Vals[i].Lo++nmB (u.Vals[i].Hi-u.Vals[i].Lo)) (by omega) (by omega) (by simp;omega);rw [List.drop_eq_getElem_cons hc,List.flatMap_cons,←List.append_assoc];refine this.trans ?_;rw [show T6 u.Vals[i]=nmB u.Vals[i].Lo++nmB (u.Vals[i].Hi-u.Vals[i].Lo) from rfl,←List.append_assoc]
  ·rw [Be (dF (by omega)),List.drop_eq_nil_of_le (by omega)];unfold Dy;rw [ckb (by omega),List.flatMap_nil,List.append_nil]
theorem A45 {s:ByteArray} (h:s.size≤1000000):s2b s=some (sby s):=by unfold s2b;rw [if_pos (by omega)]
theorem A1z {F P:Nat} {M:List mosaic_Message} (hF:2000≤F) (hP:P≤500) (hM:∀m∈M,SmM P m) (hl:M.length≤300) (hb:M.length*(70+20*P)≤900000) :
  ∀(n i:Nat) (l:List Int),i≤M.length→M.length-i<n→l.length≤1000+i*(70+20*P)→Bp F M n (i:Int) l=Cl F (l++(M.drop i).flatMap Pu):=by
 intro n
 induction n with
 | zero=>intro i l _ h;omega
 | succ n ih =>
  intro i l hi hn hll;rw [Bp];unfold Dj;have hbi:i*(70+20*P)≤M.length*(70+20*P):=Nat.mul_le_mul_right _ hi
  by_cases hc:i<M.length
  ·have hu:=hM _ (List.getElem_mem hc);have hk:=hu.name;have ht:=hu.tilt;have hm:=hu.time;have hz:=hu.len;have s1:=La M[i].Key.Name;have n1:=Et ((M[i].Key.Name.size:Nat):Int);have n2:=Et M[i].Key.Tilt;have n3:=Et M[i].Key.Time;have n4:=Ss hk;rw [Bm (dT (by omega)),Fy i _ rfl (List.getElem?_eq_getElem hc),Wp (by omega) (by omega) (by omega) (by omega),sbd,Hq (by simp;omega) (by decide),Wp (by omega) ht.1 (by omega) (by simp;omega),sbd,Wp (by omega) hm.1 (by omega) (by simp;omega),sbd];have:=A47 (F:=F) (x:=i) (k2:=Bp F M n) (by omega) hu (by omega) (by omega) F 0 (l++nmB ((M[i].Key.Name.size:Nat):Int)++sby M[i].Key.Name++nmB M[i].Key.Tilt++nmB M[i].Key.Time) (Nat.zero_le _) (by omega) (by simp;omega);refine this.trans ?_;have e:l++nmB ((M[i].Key.Name.size:Nat):Int)++sby M[i].Key.Name++nmB M[i].Key.Tilt++nmB M[i].Key.Time++(M[i].Vals.drop 0).flatMap T6=l++Pu M[i]:=by
    unfold Pu A19;rw [List.drop_zero];simp only [List.append_assoc]
   rw [e,List.drop_eq_getElem_cons hc,List.flatMap_cons,←List.append_assoc];have hq:(i+1)*(70+20*P)=i*(70+20*P)+(70+20*P):=Nat.succ_mul _ _;exact ih (i+1) (l++Pu M[i]) hc (by omega) (by rw [List.length_append,hq];omega)
  ·rw [Be (dF (by omega)),List.drop_eq_nil_of_le (by omega),List.flatMap_nil,List.append_nil]
theorem A07 {F P:Nat} {r:ref11_Node} {M:List mosaic_Message} (hr:r.l=M.map Cy) (hF:2000≤F) (hP:P≤500) (hM:∀m∈M,SmM P m) (hl:M.length≤300) (hb:M.length*(70+20*P)≤900000) :
  ∀(n i:Nat) (l:List Int),i≤M.length→M.length-i<n→l.length≤1000+i*(70+20*P)→Bs F r n l (i:Int)=Cq F (l++(M.drop i).flatMap Pu):=by
 have hlen:r.l.length=M.length:=by rw [hr,List.length_map]
 intro n
 induction n with
 | zero=>intro i l _ h;omega
 | succ n ih =>
  intro i l hi hn hll;rw [Bs];unfold Dw;rw [hlen];have hbi:i*(70+20*P)≤M.length*(70+20*P):=Nat.mul_le_mul_right _ hi
  by_cases hc:i<M.length
  ·have hu:=hM _ (List.getElem_mem hc);have hk:=hu.name;have ht:=hu.tilt;have hm:=hu.time;have hz:=hu.len;have s1:=La M[i].Key.Name;have n1:=Et ((M[i].Key.Name.size:Nat):Int);have n2:=Et M[i].Key.Tilt;have n3:=Et M[i].Key.Time;have n4:=Ss hk;have hg:r.l[i]? = some (Cy M[i]):=by rw [hr,List.getElem?_map,List.getElem?_eq_getElem hc];rfl
   rw [Bm (dT (by omega)),Fy i _ rfl hg,show (Cy M[i]).Key.Name=M[i].Key.Name from rfl,show (Cy M[i]).Key.Tilt=M[i].Key.Tilt from rfl,show (Cy M[i]).Key.Time=M[i].Key.Time from rfl];rw [Wq (by omega) (by omega) (by omega),sbd,Hq (by omega) (by decide),A45 (by omega),sbd,Hq (by simp;omega) (by decide),Wq (by omega) ht.1 (by omega),sbd,Hq (by simp;omega) (by decide),Wq (by omega) hm.1 (by omega),sbd,Hq (by simp;omega) (by decide)];have:=A1y (F:=F) (x:=i) (k2:=Bs F r n) (by omega) hu (by omega) (by omega) F 0 (l++nmB ((M[i].Key.Name.size:Nat):Int)++sby M[i].Key.Name++nmB M[i].Key.Tilt++nmB M[i].Key.Time) (Nat.zero_le _) (by omega) (by simp;omega);refine this.trans ?_;have e:l++nmB ((M[i].Key.Name.size:Nat):Int)++sby M[i].Key.Name++nmB M[i].Key.Tilt++nmB M[i].Key.Time++(M[i].Vals.drop 0).flatMap T6=l++Pu M[i]:=by
    unfold Pu A19;rw [List.drop_zero];simp only [List.append_assoc]
   rw [e,List.drop_eq_getElem_cons hc,List.flatMap_cons,←List.append_assoc];have hq:(i+1)*(70+20*P)=i*(70+20*P)+(70+20*P):=Nat.succ_mul _ _;exact ih (i+1) (l++Pu M[i]) hc (by omega) (by rw [List.length_append,hq];omega)
  ·rw [Be (dF (by omega)),List.drop_eq_nil_of_le (by omega),List.flatMap_nil,List.append_nil]
theorem Tp {P:Nat}:∀{M:List mosaic_Message},(∀m∈M,SmM P m)→(M.flatMap Pu).length≤M.length*(70+20*P)
 | [],_=>by simp
 | m::M,h=>by
  have h1:=Ss (h m (.head _)).name;have h2:=(h m (.head _)).len;have h3:=Tp fun x hx=>h x (List.Mem.tail m hx);rw [List.flatMap_cons,List.length_append,List.length_cons,Nat.succ_mul];omega
def Ti (N:mosaic_Node):List Int:=[82,68,77,49]++nmB N.horizon++nmB N.count++(Ls N).flatMap Pu
theorem A5c {F:Nat} {s:mosaic_Spec} {N:mosaic_Node} (h:RG F s) (hN:SN F s N) (ht:tot N.kept≤300) (hP:tot N.kept*(70+20*pix s)≤900000) (hF:2000+tot N.kept*(70+20*pix s)≤F) (hh:0≤N.horizon∧N.horizon≤4294967296) :
  ∃B,Ba F N=some B∧Bj F (some (Hj N))=some B∧Byt B∧B.length≤1000+tot N.kept*(70+20*pix s):=by
 have hs:=h.gs;have hp:=hs.small;have hc:=hN.ni.count;have hm:=Su hN.ni;have hM:∀m∈Ls N,SmM (pix s) m:=by
  intro m hm;have hok:=hN.okm (Ml.1 hm);obtain ⟨y,hy⟩:=hok.key.1;exact ⟨hok.len,hok.vals,by have:=h.name hy;omega,hok.key.2.1,hok.key.2.2⟩
 have n1:=Et N.horizon;have n2:=Et N.count;have hbl:=Tp hM;rw [hm] at hbl;have hby:Byt (Ti N):=by
  refine Byt.app (Byt.app (Byt.app (fun x hx=>?_) (Ko _ _)) (Ko _ _)) fun x hx=>?_
  ·simp only [List.mem_cons,List.not_mem_nil,or_false] at hx;omega
  ·obtain ⟨m,_,hx⟩:=List.mem_flatMap.1 hx;exact Zl m x hx
 have hbo:(Ti N).length≤24+tot N.kept*(70+20*pix s):=by
  unfold Ti;simp only [List.length_append,List.length_cons,List.length_nil];omega
 obtain ⟨k,k1,k2,k3,k4⟩:=A33 (F:=F) hby (by omega) (by omega);refine ⟨Ti N++k,?_,?_,hby.app k4,by rw [List.length_append];omega⟩
 ·unfold Ba C8;rw [sbd,cond_false,Wp (by omega) hh.1 (by omega) (by simp),sbd,Wp (by omega) (by omega) (by omega) (by simp;omega),sbd,A2y (by omega) hs hN.ni (by omega),sbd];have:=A1z (F:=F) (P:=pix s) (M:=Ls N) (by omega) hp hM (by omega) (by rw [hm];omega) F 0 ([82,68,77,49]++nmB N.horizon++nmB N.count) (Nat.zero_le _) (by omega) (by simp;omega);rw [List.drop_zero] at this;refine this.trans ?_;unfold Cl;rw [show [82,68,77,49]++nmB N.horizon++nmB N.count++(Ls N).flatMap Pu=Ti N from rfl,k1,sbd,Hq (by omega) (by decide)]
 ·have hlen:(Hj N).l.length=(Ls N).length:=List.length_map ..;unfold Bj;rw [sbd,show (Hj N).h=N.horizon from rfl,hlen,hm,←hc,Wq (by omega) hh.1 (by omega),sbd,Hq (by simp;omega) (by decide),Wq (by omega) (by omega) (by omega),sbd,Hq (by simp;omega) (by decide)];have:=A07 (F:=F) (P:=pix s) (r:=Hj N) (M:=Ls N) rfl (by omega) hp hM (by omega) (by rw [hm];omega) F 0 ([82,68,77,49]++nmB N.horizon++nmB N.count) (Nat.zero_le _) (by omega) (by simp;omega);rw [List.drop_zero] at this;refine this.trans ?_;unfold Cq;rw [show [82,68,77,49]++nmB N.horizon++nmB N.count++(Ls N).flatMap Pu=Ti N from rfl,k2,sbd,Hq (by omega) (by decide)]
end Go.Proofs.YtkbjbnkkfifbmaaGreat
namespace Go.Proofs.YtkbjbnkkfifbmaaGreat
open Go Go.RowKit Go.Eng
set_option maxRecDepth 10000
set_option linter.unusedVariables false
set_option linter.unusedSimpArgs false
abbrev A2w:=Option (Except Int (mosaic_Node×Int))
abbrev A2x:=Option (Except Int (ref11_Node×Int))
def PL4 (F:Nat) (s:mosaic_Spec) (p1:List Int) (y:Int×mosaic_reader) (n:Nat) (N:mosaic_Node) (l:List Int) (i:Int):A2w:=C4 F s p1 y n N.spec.Grid.X N.spec.Grid.Y N.horizon N.count N.spec.Grid.Size N.spec.Grid.Wide N.spec.Grid.High N.spec.Earth.Lo N.spec.Earth.Hi N.spec.Radars N.spec.Age l N.radars N.kept N.looks i
def PL7 (F:Nat) (s:mosaic_Spec) (p1:List Int) (y:Int×mosaic_reader) (m:Nat) (N:mosaic_Node) (x:Int) (y1:List Int×mosaic_reader) (y2 y3:Int×mosaic_reader) (P:Int) (n:Nat) (l:List Int) (acc:List api_Span) (i:Int):A2w:=Cx F N.spec.Grid.X N.spec.Grid.Y N.horizon N.count N.spec.Grid.Size N.spec.Grid.Wide N.spec.Grid.High N.spec.Earth.Lo N.spec.Earth.Hi N.spec.Radars N.spec.Age N.radars N.kept N.looks x (C4 F s p1 y m) y1 y2 y3 P n l acc i
def PK6 (F:Nat) (s:mosaic_Spec) (p1:List Int) (y:Int×mosaic_reader) (m:Nat) (N:mosaic_Node) (x:Int) (y1:List Int×mosaic_reader) (y2 y3:Int×mosaic_reader) (l:List Int) (acc:List api_Span):A2w:=Dv F N.spec.Grid.X N.spec.Grid.Y N.horizon N.count N.spec.Grid.Size N.spec.Grid.Wide N.spec.Grid.High N.spec.Earth.Lo N.spec.Earth.Hi N.spec.Radars N.spec.Age N.radars N.kept N.looks x (C4 F s p1 y m) y1 y2 y3 l acc
def RL2 (F:Nat) (s:ref11_Spec) (p1:List Int) (y:Int×ref11_reader) (n:Nat) (r:ref11_Node) (l:List Int) (c:Bool) (i:Int):A2x:=Cc F s p1 y n r.s.Grid.X r.s.Grid.Y r.l r.s.Grid.Size r.s.Grid.Wide r.s.Grid.High r.s.Earth.Lo r.s.Earth.Hi r.s.Radars r.s.Age r.h l c i
def RL5 (F:Nat) (s:ref11_Spec) (p1:List Int) (y:Int×ref11_reader) (m:Nat) (r:ref11_Node) (x:Int) (y1:List Int×ref11_reader) (y2 y3:Int×ref11_reader) (n:Nat) (l:List Int) (c:Bool) (acc:List api_Span) (i:Int):A2x:=Ct F s r.s.Grid.X r.s.Grid.Y r.l r.s.Grid.Size r.s.Grid.Wide r.s.Grid.High r.s.Earth.Lo r.s.Earth.Hi r.s.Radars r.s.Age r.h x (Cc F s p1 y m) y1 y2 y3 n l c acc i
def RK4 (F:Nat) (s:ref11_Spec) (p1:List Int) (y:Int×ref11_reader) (m:Nat) (r:ref11_Node) (x:Int) (y1:List Int×ref11_reader) (y2 y3:Int×ref11_reader) (l:List Int) (c:Bool) (acc:List api_Span):A2x:=Dg F r.s.Grid.X r.s.Grid.Y r.l r.s.Grid.Size r.s.Grid.Wide r.s.Grid.High r.s.Earth.Lo r.s.Earth.Hi r.s.Radars r.s.Age r.h x (Cc F s p1 y m) y1 y2 y3 l c acc
theorem A0m {F:Nat} {s:ref11_Spec} {p1:List Int} {y:Int×ref11_reader} {m:Nat} {r:ref11_Node} {x:Int} {y1:List Int×ref11_reader} {y2 y3:Int×ref11_reader} {l:List Int} {acc:List api_Span}:RK4 F s p1 y m r x y1 y2 y3 l true acc=some (.error 7):=by
 unfold RK4 Dg;rw [gdF (g:=(true==false&&true)) rfl,sbd];rw [gdF (g:=((bif (bif true then true else ((default:Int) != 0)) then true else (decide (y3.1<r.h)))==false&&true)) rfl,sbd];rfl
theorem X5 {F:Nat} {s:ref11_Spec} {p1:List Int} {y:Int×ref11_reader} {m:Nat} {r:ref11_Node} {x:Int} {y1:List Int×ref11_reader} {y2 y3:Int×ref11_reader} {n:Nat} {l:List Int} {acc:List api_Span} {i:Int} {P:Nat} (hg:s.Grid.Wide*s.Grid.High=(P:Int)) (hP:P≤1000):RL5 F s p1 y m r x y1 y2 y3 (n+1) l true acc i=some (.error 7):=by
 unfold RL5;rw [Ct];unfold Ea;rw [hg,ckb (by omega),Be (by cases decide (i<(P:Int))<;>rfl)]
 exact A0m
theorem A0h {F:Nat} {s:mosaic_Spec} {p1:List Int} {y:Int×mosaic_reader} {z:Int×ref11_reader} {m m':Nat} {N:mosaic_Node} {r:ref11_Node} {x:Int} {y1:List Int×mosaic_reader} {y2 y3:Int×mosaic_reader} {z1:List Int×ref11_reader} {z2 z3:Int×ref11_reader} {P:Nat} (hF:2000≤F) (hg:s.Grid.Wide*s.Grid.High=(P:Int)) (hP:P≤1000) :
  ∀(k n i:Nat) (l:List Int) (acc:List api_Span),i+k=P→k+1<n→Byt l→acc.length=i →
  (∃l' v,PL7 F s p1 y m N x y1 y2 y3 (P:Int) n l acc (i:Int)=PK6 F s p1 y m N x y1 y2 y3 l' v∧RL5 F (Cm s) p1 z m' r x z1 z2 z3 n l false acc (i:Int)=RK4 F (Cm s) p1 z m' r x z1 z2 z3 l' false v∧v.length=P∧(∀y∈l',y∈l)∧l'.length≤l.length) ∨
  (PL7 F s p1 y m N x y1 y2 y3 (P:Int) n l acc (i:Int)=some (.error 7)∧RL5 F (Cm s) p1 z m' r x z1 z2 z3 n l false acc (i:Int)=some (.error 7)):=by
 intro k
 induction k with
 | zero =>
  intro n i l acc hi hn hb ha;obtain ⟨n,rfl⟩:∃m,n=m+1:=⟨n-1,by omega⟩;left;refine ⟨l,acc,?_,?_,by omega,fun y hy=>hy,Nat.le_refl _⟩
  ·unfold PL7;rw [Cx];unfold Es;rw [Be (dF (by omega))];rfl
  ·unfold RL5;rw [Ct];unfold Ea;rw [show (Cm s).Grid=s.Grid from rfl,hg,ckb (by omega),Be (by rw [dF (by omega)];rfl)];rfl
 | succ k ih =>
  intro n i l acc hi hn hb ha;obtain ⟨n,rfl⟩:∃m,n=m+1:=⟨n-1,by omega⟩;have eP:PL7 F s p1 y m N x y1 y2 y3 (P:Int) (n+1) l acc (i:Int)=(Ag F (mosaic_reader.mk l)).bind fun y4645 =>
    exc y4645 (fun e4647=>bif isI 204 e4647.1 then (some (.error 7)) else none) fun y4646 =>
    (Ag F (mosaic_reader.mk y4646.2.left)).bind fun y4661 =>
    exc y4661 (fun e4663=>bif isI 204 e4663.1 then (some (.error 7)) else none) fun y4662 =>
    (ck (y4646.1+y4662.1)).bind fun x4676 =>
    (apd 16 acc ([(api_Span.mk y4646.1 x4676)])).bind fun l4678 =>
    (ck ((i:Int)+1)).bind fun x4681=>PL7 F s p1 y m N x y1 y2 y3 (P:Int) n y4662.2.left l4678 x4681:=by
   unfold PL7;rw [Cx];unfold Es;rw [Bm (dT (by omega))]
  have eR:RL5 F (Cm s) p1 z m' r x z1 z2 z3 (n+1) l false acc (i:Int)=(Aa F (ref11_reader.mk l false)).bind fun y4191 =>
    (Aa F (ref11_reader.mk y4191.2.b y4191.2.bad)).bind fun y4198 =>
    (ck (y4191.1+y4198.1)).bind fun x4205 =>
    (apd 16 acc ([(api_Span.mk y4191.1 x4205)])).bind fun l4222 =>
    (ck ((i:Int)+1)).bind fun x4225=>RL5 F (Cm s) p1 z m' r x z1 z2 z3 n y4198.2.b y4198.2.bad l4222 x4225:=by
   unfold RL5;rw [Ct];unfold Ea;rw [show (Cm s).Grid=s.Grid from rfl,hg,ckb (by omega),Bm (by rw [dT (by omega)];rfl)]
  obtain ⟨n',hn'⟩:∃m,n=m+1:=⟨n-1,by omega⟩;have bad:∀b acc',RL5 F (Cm s) p1 z m' r x z1 z2 z3 n b true acc' ((i:Int)+1)=some (.error 7):=by
   intro b acc';rw [hn'];exact X5 (s:=Cm s) hg hP
  rw [eP,eR];rcases Wo (F:=F) (by omega) hb with ⟨a,l1,a1,a2,a3,a4,a5,a6⟩|⟨⟨a,a1⟩,b,a2⟩
  ·rw [a1,a2,sbd,sbd,Jk];rcases Wo (F:=F) (l:=l1) (by omega) (fun q hq=>hb q (a6 q hq)) with ⟨c,l2,c1,c2,c3,c4,c5,c6⟩|⟨⟨c,c1⟩,b,c2⟩
   ·rw [show (⟨(a,(⟨l1⟩:mosaic_reader)).2.left⟩:mosaic_reader)=⟨l1⟩ from rfl,c1,sbd,Jk,ckb (by show _≤a+c∧a+c≤_;omega),Hq (by simp;omega) (by decide),ckb (by omega)];rw [show (⟨(a,(⟨l1,false⟩:ref11_reader)).2.b,(a,(⟨l1,false⟩:ref11_reader)).2.bad⟩:ref11_reader)=⟨l1,false⟩ from rfl,c2,sbd,ckb (by show _≤a+c∧a+c≤_;omega),Hq (by simp;omega) (by decide),ckb (by omega)];rcases ih n (i+1) l2 (acc++[⟨a,a+c⟩]) (by omega) (by omega) (fun q hq=>hb q (a6 q (c6 q hq))) (by simp;omega) with ⟨l',v,q1,q2,q3,q4,q5⟩|⟨q1,q2⟩
    ·left;exact ⟨l',v,q1,q2,q3,fun q hq=>a6 q (c6 q (q4 q hq)),by omega⟩
    ·right;exact ⟨q1,q2⟩
   ·right;rw [show (⟨(a,(⟨l1⟩:mosaic_reader)).2.left⟩:mosaic_reader)=⟨l1⟩ from rfl,c1,sbd,K4];rw [show (⟨(a,(⟨l1,false⟩:ref11_reader)).2.b,(a,(⟨l1,false⟩:ref11_reader)).2.bad⟩:ref11_reader)=⟨l1,false⟩ from rfl,c2,sbd,ckb (by show _≤a+0∧a+0≤_;omega),Hq (by simp;omega) (by decide),ckb (by omega)];exact ⟨rfl,bad _ _⟩
  ·right;rw [a1,a2,sbd,sbd,K4];rw [show (⟨((0:Int),(⟨b,true⟩:ref11_reader)).2.b,((0:Int),(⟨b,true⟩:ref11_reader)).2.bad⟩:ref11_reader)=⟨b,true⟩ from rfl,Py (by omega),sbd,ckb (by show _≤(0:Int)+0∧(0:Int)+0≤_;omega),Hq (by simp;omega) (by decide),ckb (by omega)];exact ⟨rfl,bad _ _⟩
def Yi (F:Nat) (r:ref11_Node) (m:ref11_Message):Prop:=∃e,D3 F (some r) m=some e∧(e≠0∨e=0∧(m.Key.Time<r.h∨¬m.Key.Time<r.h∧Em F (some r) m=some true))
def A2c (F:Nat) (r:ref11_Node) (m:ref11_Message) (r':ref11_Node):Prop:=D3 F (some r) m=some 0∧¬m.Key.Time<r.h∧Em F (some r) m=some false∧Gd F r m=some r'
theorem Wr {F:Nat} {s:mosaic_Spec} {N:mosaic_Node} {m:mosaic_Message} (hF:2000≤F) (h:RG F s) (hN:SN F s N) (ht:tot N.kept<256) (hm:m.Vals.length=pix s) :
  (∃b e N',Bo F N m=some (b,e,N')∧(b=false∨e≠0)∧Yi F (Hj N) (Cy m))∨(∃q,Bo F N m=some (true,0,Ny N m q)∧SN F s (Ny N m q)∧A2c F (Hj N) (Cy m) (Hj (Ny N m q))):=by
 have h2:=h.small;have h4:=hN.ni.count;have hr:(Hj N).s=Cm s:=by show Cm N.spec=_;rw [hN.ni.spec]
 obtain ⟨e,w1,w2,w3⟩:=X2 (m:=m) (r:=Hj N) hF h hN.ni hr (by omega);unfold Bo C8;rw [sbd,cond_false,w1,sbd]
 by_cases h0:e=0
 ·subst h0;have hok:=w3.1 rfl;rw [Be (c:=(0:Int) != 0) rfl]
  by_cases ht2:m.Key.Time<N.horizon
  ·left;rw [Bm (dT ht2)];exact ⟨false,17,N,rfl,.inl rfl,0,w2,.inr ⟨rfl,.inl ht2⟩⟩
  ·obtain ⟨q,b,e,r1,r2,r3⟩:=Ya (m:=m) (by omega) h.gs hN (by omega);obtain ⟨hb,g1,g2⟩:=A13 (m:=m) hF h.gs hN (by omega) hm;rw [Be (dF ht2),e,sbd]
   cases b with
   | true =>
    left;have:=g2.2 (r2.1 rfl);subst this;exact ⟨false,0,N,rfl,.inl rfl,0,w2,.inr ⟨rfl,.inr ⟨ht2,g1⟩⟩⟩
   | false =>
    right;have hh:¬has N m:=fun x=>by have:=r2.2 x;cases this
    have hS:=r3 rfl hok;rw [Be (c:=((q:Int),false).2) rfl,Be (dF (by omega)),A3y (by omega) h.gs hN.ni hok (by omega) e r1,sbd];have hb0:hb=false:=by
     cases hb with
     | false=>rfl
     | true=>exact absurd (g2.1 rfl) hh
    subst hb0;exact ⟨q,rfl,hS,w2,ht2,g1,A1k hF h.gs hN hS (by omega) hm hh⟩
 ·left;rw [Bm (by simpa using h0)];exact ⟨false,e,N,rfl,.inl rfl,e,w2,.inl h0⟩
theorem Ym {F:Nat} {s:ref11_Spec} {p1:List Int} {y:Int×ref11_reader} {m:Nat} {r:ref11_Node} {x:Int} {y1:List Int×ref11_reader} {y2 y3:Int×ref11_reader} {l:List Int} {acc:List api_Span} (h:Yi F r ⟨⟨bst y1.1,y2.1,y3.1⟩,acc⟩):RK4 F s p1 y m r x y1 y2 y3 l false acc=some (.error 7):=by
 obtain ⟨e,h1,h2⟩:=h;unfold RK4 Dg;rw [show (ref11_Node.mk (ref11_Spec.mk (api_Grid.mk r.s.Grid.X r.s.Grid.Y r.s.Grid.Size r.s.Grid.Wide r.s.Grid.High) (api_Span.mk r.s.Earth.Lo r.s.Earth.Hi) r.s.Radars r.s.Age) r.h r.l)=r from rfl];rw [gdT (g:=(false==false&&true)) rfl,h1,sbd];rcases h2 with h2|⟨rfl,h2⟩
 ·have e1:(e != 0)=true:=by simpa using h2
  rw [e1,gdF (g:=((bif (bif false then true else true) then true else (decide (y3.1<r.h)))==false&&true)) rfl,sbd];rfl
 ·have e1:((0:Int) != 0)=false:=rfl;rw [e1];rcases h2 with h2|⟨h2,h3⟩
  ·have h2:y3.1<r.h:=h2;rw [dT h2,gdF (g:=((bif (bif false then true else false) then true else true)==false&&true)) rfl,sbd];rfl
  ·have h2:¬y3.1<r.h:=h2;rw [dF h2,gdT (g:=((bif (bif false then true else false) then true else false)==false&&true)) rfl,h3,sbd];rfl
theorem A2u {F:Nat} {s:ref11_Spec} {p1:List Int} {y:Int×ref11_reader} {m:Nat} {r r':ref11_Node} {i:Nat} {y1:List Int×ref11_reader} {y2 y3:Int×ref11_reader} {l:List Int} {acc:List api_Span} (hi:i≤1000) (h:A2c F r ⟨⟨bst y1.1,y2.1,y3.1⟩,acc⟩ r'):RK4 F s p1 y m r (i:Int) y1 y2 y3 l false acc=RL2 F s p1 y m r' l false ((i+1:Nat):Int):=by
 obtain ⟨h1,h2,h3,h4⟩:=h;have h2:¬y3.1<r.h:=h2;unfold RK4 Dg;rw [show (ref11_Node.mk (ref11_Spec.mk (api_Grid.mk r.s.Grid.X r.s.Grid.Y r.s.Grid.Size r.s.Grid.Wide r.s.Grid.High) (api_Span.mk r.s.Earth.Lo r.s.Earth.Hi) r.s.Radars r.s.Age) r.h r.l)=r from rfl];have e1:((0:Int) != 0)=false:=rfl;rw [gdT (g:=(false==false&&true)) rfl,h1,sbd,e1,dF h2,gdT (g:=((bif (bif false then true else false) then true else false)==false&&true)) rfl,h3,sbd,Be (c:=bif (bif (bif false then true else false) then true else false) then true else false) rfl,h4,sbd];unfold H9;rw [ckb (by omega)];rfl
theorem Yl {F:Nat} {s:mosaic_Spec} {p1:List Int} {y:Int×mosaic_reader} {m:Nat} {N:mosaic_Node} {x:Int} {y1:List Int×mosaic_reader} {y2 y3:Int×mosaic_reader} {l:List Int} {acc:List api_Span} {b:Bool} {e:Int} {N':mosaic_Node} (h:Bo F N ⟨⟨bst y1.1,y2.1,y3.1⟩,acc⟩=some (b,e,N')) (h2:b=false∨e≠0):PK6 F s p1 y m N x y1 y2 y3 l acc=some (.error 7):=by
 unfold PK6 Dv;rw [show (mosaic_Node.mk (mosaic_Spec.mk (api_Grid.mk N.spec.Grid.X N.spec.Grid.Y N.spec.Grid.Size N.spec.Grid.Wide N.spec.Grid.High) (api_Span.mk N.spec.Earth.Lo N.spec.Earth.Hi) N.spec.Radars N.spec.Age) N.radars N.horizon N.kept N.count N.looks)=N from rfl,h,sbd];rw [Bm (by
  rcases h2 with h2|h2
  ·subst h2;rfl
  ·have e1:(e != 0)=true:=by simpa using h2
   show (bif !b then true else (e != 0))=true;rw [e1];cases b<;>rfl)]
theorem A2t {F:Nat} {s:mosaic_Spec} {p1:List Int} {y:Int×mosaic_reader} {m:Nat} {N:mosaic_Node} {i:Nat} {y1:List Int×mosaic_reader} {y2 y3:Int×mosaic_reader} {l:List Int} {acc:List api_Span} {N':mosaic_Node} (hi:i≤1000) (h:Bo F N ⟨⟨bst y1.1,y2.1,y3.1⟩,acc⟩=some (true,0,N')):PK6 F s p1 y m N (i:Int) y1 y2 y3 l acc=PL4 F s p1 y m N' l ((i+1:Nat):Int):=by
 unfold PK6 Dv;rw [show (mosaic_Node.mk (mosaic_Spec.mk (api_Grid.mk N.spec.Grid.X N.spec.Grid.Y N.spec.Grid.Size N.spec.Grid.Wide N.spec.Grid.High) (api_Span.mk N.spec.Earth.Lo N.spec.Earth.Hi) N.spec.Radars N.spec.Age) N.radars N.horizon N.kept N.count N.looks)=N from rfl,h,sbd,Be (c:=bif (!((true,(0:Int),N').1)) then true else (((true,(0:Int),N').2.1) != 0)) rfl];unfold Gr;rw [ckb (by omega)];rfl
theorem A23 {F:Nat} {s:mosaic_Spec} {N:mosaic_Node} {m:mosaic_Message} {q:Nat} (h:SN F s N) (h2:SN F s (Ny N m q)):tot (Ny N m q).kept=tot N.kept+1:=by
 have h1:=h.ni.count;have h3:=h2.ni.count;have h4:(Ny N m q).count=N.count+1:=rfl;omega
theorem A1p {F:Nat} {s:mosaic_Spec} {p1:List Int} {y:Int×mosaic_reader} {z:Int×ref11_reader} (hF:100000≤F) (h:RG F s) (hP:pix s≤36) (hb:Byt p1) (hp:p1.length≤300) (hyz:z.1=y.1) (hc:y.1≤256) :
  ∀(n i:Nat) (N:mosaic_Node) (l:List Int),SN F s N→tot N.kept=i→Byt l→3*i+l.length≤300→(0≤N.horizon∧N.horizon≤4294967296)→l.length<n →
  (PL4 F s p1 y n N l (i:Int)=some (.error 7)∧RL2 F (Cm s) p1 z n (Hj N) l false (i:Int)=some (.error 7)) ∨
  (∃N',PL4 F s p1 y n N l (i:Int)=some (.ok (N',0))∧RL2 F (Cm s) p1 z n (Hj N) l false (i:Int)=some (.ok (Hj N',0))∧Ba F N'=some p1∧Bj F (some (Hj N'))=some p1):=by
 have hg:=A4x h.gs;intro n
 induction n with
 | zero=>intro i N l _ _ _ _ _ hn;omega
 | succ n ih =>
  intro i N l hN ht hl hs hh hn
  by_cases hci:(i:Int)<y.1
  ·have eP:PL4 F s p1 y (n+1) N l (i:Int)=(Ag F (mosaic_reader.mk l)).bind fun y4327 =>
     exc y4327 (fun e4329=>bif isI 204 e4329.1 then (some (.error 7)) else none) fun y4328 =>
     (B4 F (mosaic_reader.mk y4328.2.left) y4328.1).bind fun y4342 =>
     exc y4342 (fun e4344=>bif isI 204 e4344.1 then (some (.error 7)) else none) fun y4343 =>
     (Ag F (mosaic_reader.mk y4343.2.left)).bind fun y4361 =>
     exc y4361 (fun e4363=>bif isI 204 e4363.1 then (some (.error 7)) else none) fun y4362 =>
     (Ag F (mosaic_reader.mk y4362.2.left)).bind fun y4376 =>
     exc y4376 (fun e4378=>bif isI 204 e4378.1 then (some (.error 7)) else none) fun y4377 =>
     PL7 F s p1 y n N (i:Int) y4343 y4362 y4377 ((pix s:Nat):Int) F y4377.2.left [] ((0:Nat):Int):=by
    unfold PL4;rw [C4];unfold Er;rw [Bm (dT hci),hg.1,ckS (x:=((pix s:Nat):Int)) (by omega)];rfl
   have eR:RL2 F (Cm s) p1 z (n+1) (Hj N) l false (i:Int)=(Aa F (ref11_reader.mk l false)).bind fun y3905 =>
     (Ay F (ref11_reader.mk y3905.2.b y3905.2.bad) y3905.1).bind fun y3912 =>
     (Aa F (ref11_reader.mk y3912.2.b y3912.2.bad)).bind fun y3922 =>
     (Aa F (ref11_reader.mk y3922.2.b y3922.2.bad)).bind fun y3929 =>
     RL5 F (Cm s) p1 z n (Hj N) (i:Int) y3912 y3922 y3929 F y3929.2.b y3929.2.bad [] ((0:Nat):Int):=by
    unfold RL2;rw [Cc];unfold Ft;rw [hyz,Bm (by rw [dT hci];rfl)];rfl
   obtain ⟨f,hf⟩:∃f,F=f+1:=⟨F-1,by omega⟩;have bad:∀z1 z2 z3 b acc i',RL5 F (Cm s) p1 z n (Hj N) (i:Int) z1 z2 z3 F b true acc i'=some (.error 7):=by
    intro z1 z2 z3 b acc i';have:=fun G:Nat=>X5 (F:=G) (s:=Cm s) (p1:=p1) (y:=z) (m:=n) (r:=Hj N) (x:=(i:Int)) (y1:=z1) (y2:=z2) (y3:=z3) (n:=f) (l:=b) (acc:=acc) (i:=i') (P:=pix s) hg.1 (by omega);rw [←hf] at this;exact this F
   rw [eP,eR];rcases Wo (F:=F) (by omega) hl with ⟨a,l1,a1,a2,a3,a4,a5,a6⟩|⟨⟨a,a1⟩,b,a2⟩
   ·rw [a1,a2,sbd,sbd,Jk];have hb1:Byt l1:=fun q hq=>hl q (a6 q hq);rcases A2s (F:=F) (l:=l1) a3 with ⟨k,k1,k2,k3,k4⟩|⟨k3,k4⟩
    ·rw [show B4 F (⟨(a,(⟨l1⟩:mosaic_reader)).2.left⟩:mosaic_reader) (a,(⟨l1⟩:mosaic_reader)).1=_ from k3,sbd,Jk];rw [show Ay F (⟨(a,(⟨l1,false⟩:ref11_reader)).2.b,(a,(⟨l1,false⟩:ref11_reader)).2.bad⟩:ref11_reader) (a,(⟨l1,false⟩:ref11_reader)).1=_ from k4,sbd];have hd:=List.length_drop (i:=k) (l:=l1);rcases Wo (F:=F) (l:=l1.drop k) (by omega) (hb1.drop k) with ⟨c,l2,c1,c2,c3,c4,c5,c6⟩|⟨⟨c,c1⟩,b,c2⟩
     ·rw [show Ag F (⟨(l1.take k,(⟨l1.drop k⟩:mosaic_reader)).2.left⟩:mosaic_reader)=_ from c1,sbd,Jk];rw [show Aa F (⟨(l1.take k,(⟨l1.drop k,false⟩:ref11_reader)).2.b,(l1.take k,(⟨l1.drop k,false⟩:ref11_reader)).2.bad⟩:ref11_reader)=_ from c2,sbd];have hb2:Byt l2:=fun q hq=>hb1.drop k q (c6 q hq);rcases Wo (F:=F) (l:=l2) (by omega) hb2 with ⟨d,l3,d1,d2,d3,d4,d5,d6⟩|⟨⟨d,d1⟩,b,d2⟩
      ·rw [show Ag F (⟨(c,(⟨l2⟩:mosaic_reader)).2.left⟩:mosaic_reader)=_ from d1,sbd,Jk];rw [show Aa F (⟨(c,(⟨l2,false⟩:ref11_reader)).2.b,(c,(⟨l2,false⟩:ref11_reader)).2.bad⟩:ref11_reader)=_ from d2,sbd];have hb3:Byt l3:=fun q hq=>hb2 q (d6 q hq);rw [show (d,(⟨l3⟩:mosaic_reader)).2.left=l3 from rfl,show (d,(⟨l3,false⟩:ref11_reader)).2.b=l3 from rfl,show (d,(⟨l3,false⟩:ref11_reader)).2.bad=false from rfl];rcases A0h (F:=F) (s:=s) (p1:=p1) (y:=y) (z:=z) (m:=n) (m':=n) (N:=N) (r:=Hj N) (x:=(i:Int)) (y1:=(l1.take k,⟨l1.drop k⟩)) (y2:=(c,⟨l2⟩)) (y3:=(d,⟨l3⟩)) (z1:=(l1.take k,⟨l1.drop k,false⟩)) (z2:=(c,⟨l2,false⟩)) (z3:=(d,⟨l3,false⟩)) (P:=pix s) (by omega) hg.1 (by omega) (pix s) F 0 l3 [] (by omega) (by omega) hb3 rfl with ⟨l',v,q1,q2,q3,q4,q5⟩|⟨q1,q2⟩
       ·rw [q1,q2];rcases Wr (F:=F) (m:=⟨⟨bst (l1.take k),c,d⟩,v⟩) (by omega) h hN (by omega) q3 with ⟨b,e,N',o1,o2,o3⟩|⟨q,o1,o2,o3⟩
        ·left;exact ⟨Yl o1 o2,Ym o3⟩
        ·rw [A2t (i:=i) (by omega) o1,A2u (i:=i) (by omega) o3];have:=A23 hN o2;exact ih (i+1) _ l' o2 (by omega) (fun q hq=>hb3 q (q4 q hq)) (by omega) hh (by omega)
       ·exact .inl ⟨q1,q2⟩
      ·left;rw [show Ag F (⟨(c,(⟨l2⟩:mosaic_reader)).2.left⟩:mosaic_reader)=_ from d1,sbd,K4];rw [show Aa F (⟨(c,(⟨l2,false⟩:ref11_reader)).2.b,(c,(⟨l2,false⟩:ref11_reader)).2.bad⟩:ref11_reader)=_ from d2,sbd];exact ⟨rfl,bad _ _ _ _ _ _⟩
     ·left;rw [show Ag F (⟨(l1.take k,(⟨l1.drop k⟩:mosaic_reader)).2.left⟩:mosaic_reader)=_ from c1,sbd,K4];rw [show Aa F (⟨(l1.take k,(⟨l1.drop k,false⟩:ref11_reader)).2.b,(l1.take k,(⟨l1.drop k,false⟩:ref11_reader)).2.bad⟩:ref11_reader)=_ from c2,sbd];rw [show Aa F (⟨((0:Int),(⟨b,true⟩:ref11_reader)).2.b,((0:Int),(⟨b,true⟩:ref11_reader)).2.bad⟩:ref11_reader)=_ from Py (by omega),sbd];exact ⟨rfl,bad _ _ _ _ _ _⟩
    ·left;rw [show B4 F (⟨(a,(⟨l1⟩:mosaic_reader)).2.left⟩:mosaic_reader) (a,(⟨l1⟩:mosaic_reader)).1=_ from k3,sbd,K4];rw [show Ay F (⟨(a,(⟨l1,false⟩:ref11_reader)).2.b,(a,(⟨l1,false⟩:ref11_reader)).2.bad⟩:ref11_reader) (a,(⟨l1,false⟩:ref11_reader)).1=_ from k4,sbd];rw [show Aa F (⟨(([]:List Int),(⟨l1,true⟩:ref11_reader)).2.b,(([]:List Int),(⟨l1,true⟩:ref11_reader)).2.bad⟩:ref11_reader)=_ from Py (by omega),sbd];rw [show Aa F (⟨((0:Int),(⟨l1,true⟩:ref11_reader)).2.b,((0:Int),(⟨l1,true⟩:ref11_reader)).2.bad⟩:ref11_reader)=_ from Py (by omega),sbd];exact ⟨rfl,bad _ _ _ _ _ _⟩
   ·left;rw [a1,a2,sbd,sbd,K4];rw [show Ay F (⟨((0:Int),(⟨b,true⟩:ref11_reader)).2.b,((0:Int),(⟨b,true⟩:ref11_reader)).2.bad⟩:ref11_reader) ((0:Int),(⟨b,true⟩:ref11_reader)).1=_ from A5e,sbd];rw [show Aa F (⟨(([]:List Int),(⟨b,true⟩:ref11_reader)).2.b,(([]:List Int),(⟨b,true⟩:ref11_reader)).2.bad⟩:ref11_reader)=_ from Py (by omega),sbd];rw [show Aa F (⟨((0:Int),(⟨b,true⟩:ref11_reader)).2.b,((0:Int),(⟨b,true⟩:ref11_reader)).2.bad⟩:ref11_reader)=_ from Py (by omega),sbd];exact ⟨rfl,bad _ _ _ _ _ _⟩
  ·have hm:tot N.kept*(70+20*pix s)≤100*790:=Nat.mul_le_mul (by omega) (by omega);obtain ⟨B,b1,b2,b3,b4⟩:=A5c (F:=F) h hN (by omega) (by omega) (by omega) hh;have eP:PL4 F s p1 y (n+1) N l (i:Int)=(Ba F N).bind fun y2399=>(Ce F y2399 p1).bind fun y2406=>bif (!y2406) then (some (.error 7)) else (some (.ok (N,0))):=by
    unfold PL4;rw [C4];unfold Er;rw [Be (dF hci)];rfl
   have eR:RL2 F (Cm s) p1 z (n+1) (Hj N) l false (i:Int)=(Bj F (some (Hj N))).bind fun y2151=>bif (!(sEq (bst y2151) (bst p1))) then (some (.error 7)) else (some (.ok (Hj N,0))):=by
    unfold RL2;rw [Cc];unfold Ft;rw [hyz,Be (by rw [dF hci];rfl)];rfl
   rw [eP,eR,b1,b2,sbd,sbd,Yj (by omega) (by omega),sbd,A1r]
   by_cases hB:B=p1
   ·right;subst hB;rw [dT rfl,dT rfl,Be (c:=!true) rfl,Be (c:=!true) rfl];exact ⟨N,rfl,rfl,b1,b2⟩
   ·left;rw [dF hB,dF (fun e=>hB (A0o b3 hb e)),Bm (c:=!false) rfl,Bm (c:=!false) rfl];exact ⟨rfl,rfl⟩
end Go.Proofs.YtkbjbnkkfifbmaaGreat
namespace Go.Proofs.YtkbjbnkkfifbmaaGreat
open Go Go.RowKit Go.Eng
set_option maxRecDepth 10000
set_option linter.unusedVariables false
set_option linter.unusedSimpArgs false
theorem S6:E7 100000=some true:=by kernel_rfl
theorem Yd:E9 ([]:List mosaic_Key)=[]:=by
 have h:(T5 F3 ([]:List mosaic_Key)).length=0:=(Kr F3 R8 []).1;exact List.length_eq_zero_iff.1 h
theorem A5m {F:Nat} {s:mosaic_Spec} (hF:500≤F) (h:Ep F s=some 0) (hl:s.Radars.length≤100):Gw F s=some (.ok (Yy s,0)):=by
 unfold Gw Bd;rw [h,sbd,Be (c:=(0:Int) != 0) rfl,Hq (by simp;omega) (by decide),List.nil_append,sbd];exact Zq (F:=F) (by omega) F 0 [] (by omega) (by omega)
theorem Rd {F:Nat} {s:ref11_Spec} (h:Je F s=some 0) (hl:s.Radars.length≤100):Kd F s=some (.ok (⟨s,0,[]⟩,0)):=by
 unfold Kd;rw [h,sbd,Be (c:=(0:Int) != 0) rfl,Hq (by simp;omega) (by decide),List.nil_append]
def hzN (s:mosaic_Spec) (h:Int):mosaic_Node:=⟨s,radM s,h,[],0,[]⟩
theorem A3c {F:Nat} {s:mosaic_Spec} {h:Int}:SN F s (hzN s h):=by
 refine ⟨⟨rfl,rfl,.nil,?_,rfl,?_⟩,fun k=>.nil,fun k v hv=>by cases hv⟩
 ·intro p hp;cases hp
 ·intro w l h;cases h
theorem A14 {s:mosaic_Spec} {h:Int}:Hj (hzN s h)=⟨Cm s,h,[]⟩:=by
 have:Ls (hzN s h)=[]:=by
  unfold Ls ksN;rw [show (hzN s h).kept.map (·.1)=[] from rfl,Yd];rfl
 unfold Hj;rw [this];rfl
theorem A5j:(!(sEq (bst []) (⟨#[82,68,77,49]⟩:ByteArray)))=true:=by decide
theorem Uz {F:Nat} {s:mosaic_Spec} {p1:List Int} (hF:100000≤F) (hw:s.Grid.Wide≤6) (hh:s.Grid.High≤6) (hl:s.Radars.length≤100) (hb:Byt p1) (hp:p1.length≤300) :
  (∃e,e≠0∧Fh F s p1=some (.error e)∧F6 F (Cm s) p1=some (.error e)) ∨
  (∃N,Fh F s p1=some (.ok (N,0))∧F6 F (Cm s) p1=some (.ok (Hj N,0))∧Ba F N=some p1∧Bj F (some (Hj N))=some p1):=by
 obtain ⟨e,c1,c2,c3⟩:=chk (F:=F) (s:=s) (by omega) hl;have hlen:(Cm s).Radars.length=s.Radars.length:=by show (s.Radars.map Kq).length=_;rw [List.length_map]
 unfold Fh F6
 by_cases he:e=0
 ·subst he;have hr:=A34 c1 hw hh;have hv:=c3 rfl;have hm:=A3l (x:=s.Grid.Wide) (y:=s.Grid.High) (A:=6) (B:=6) (by have:=hv.wide;omega) (by have:=hv.high;omega);have hpx:pix s≤36:=by unfold pix;omega
  rw [A5m (by omega) c1 hl,sbd,Jk,Rd c2 (by omega),sbd,Jk];rw [Be (c:=((Yy s,(0:Int)).2) != 0) rfl,Be (c:=(((⟨Cm s,0,[]⟩:ref11_Node),(0:Int)).2) != 0) rfl];rcases A2s (F:=F) (l:=p1) (n:=4) (by decide) with ⟨k,k1,k2,k3,k4⟩|⟨k3,k4⟩
  ·obtain rfl:k=4:=by omega
   rw [k3,sbd,Jk,k4,sbd]
   cases hs:sEq (bst (p1.take 4)) (⟨#[82,68,77,49]⟩:ByteArray) with
   | false =>
    left;exact ⟨7,by decide,by rw [Bm (c:=!false) rfl],by rw [Bm (c:=!false) rfl]⟩
   | true =>
    rw [Be (c:=!true) rfl,Be (c:=!true) rfl];unfold Gq;have hd:=List.length_drop (i:=4) (l:=p1);rcases Wo (F:=F) (l:=p1.drop 4) (by omega) (hb.drop 4) with ⟨h,l1,a1,a2,a3,a4,a5,a6⟩|⟨⟨a,a1⟩,b,a2⟩
    ·rw [show Ag F (⟨(p1.take 4,(⟨p1.drop 4⟩:mosaic_reader)).2.left⟩:mosaic_reader)=_ from a1,sbd,Jk];rw [show Aa F (⟨(p1.take 4,(⟨p1.drop 4,false⟩:ref11_reader)).2.b,(p1.take 4,(⟨p1.drop 4,false⟩:ref11_reader)).2.bad⟩:ref11_reader)=_ from a2,sbd];have hb1:Byt l1:=fun q hq=>hb.drop 4 q (a6 q hq);rcases Wo (F:=F) (l:=l1) (by omega) hb1 with ⟨c,l2,d1,d2,d3,d4,d5,d6⟩|⟨⟨c,d1⟩,b,d2⟩
     ·rw [show Ag F (⟨(h,(⟨l1⟩:mosaic_reader)).2.left⟩:mosaic_reader)=_ from d1,sbd,Jk];rw [show Aa F (⟨(h,(⟨l1,false⟩:ref11_reader)).2.b,(h,(⟨l1,false⟩:ref11_reader)).2.bad⟩:ref11_reader)=_ from d2,sbd];dsimp only;rw [show (bif false then true else (decide (h>4294967296)))=decide (h>4294967296) from rfl]
      cases hx:(bif (decide (h>4294967296)) then true else (decide (c>256))) with
      | true =>
       left;exact ⟨7,by decide,by rw [cond_true],by rw [cond_true]⟩
      | false =>
       rw [cond_false,cond_false];have hh1:h≤4294967296:=by
        rcases Int.lt_or_le 4294967296 h with q|q
        ·rw [dT (show h>4294967296 from q)] at hx;cases hx
        ·exact q
       have hc1:c≤256:=by
        rw [dF (show ¬h>4294967296 by omega),cond_false] at hx;have:=of_decide_eq_false hx;omega
       have ht:tot (hzN s h).kept=0:=rfl;have key:=A1p (F:=F) (s:=s) (p1:=p1) (y:=(c,⟨l2⟩)) (z:=(c,⟨l2,false⟩)) hF hr hpx hb hp rfl hc1 F 0 (hzN s h) l2 A3c ht (fun q hq=>hb1 q (d6 q hq)) (by omega) ⟨a3,hh1⟩ (by omega);rw [A14] at key;rcases key with ⟨q1,q2⟩|⟨N,q1,q2,q3,q4⟩
       ·left;exact ⟨7,by decide,q1,q2⟩
       ·right;exact ⟨N,q1,q2,q3,q4⟩
     ·left;rw [show Ag F (⟨(h,(⟨l1⟩:mosaic_reader)).2.left⟩:mosaic_reader)=_ from d1,sbd,K4];rw [show Aa F (⟨(h,(⟨l1,false⟩:ref11_reader)).2.b,(h,(⟨l1,false⟩:ref11_reader)).2.bad⟩:ref11_reader)=_ from d2,sbd];exact ⟨7,by decide,rfl,rfl⟩
    ·left;rw [show Ag F (⟨(p1.take 4,(⟨p1.drop 4⟩:mosaic_reader)).2.left⟩:mosaic_reader)=_ from a1,sbd,K4];rw [show Aa F (⟨(p1.take 4,(⟨p1.drop 4,false⟩:ref11_reader)).2.b,(p1.take 4,(⟨p1.drop 4,false⟩:ref11_reader)).2.bad⟩:ref11_reader)=_ from a2,sbd];rw [show Aa F (⟨((0:Int),(⟨b,true⟩:ref11_reader)).2.b,((0:Int),(⟨b,true⟩:ref11_reader)).2.bad⟩:ref11_reader)=_ from Py (by omega),sbd];exact ⟨7,by decide,rfl,rfl⟩
  ·left;rw [k3,sbd,K4,k4,sbd];exact ⟨7,by decide,rfl,by rw [Bm A5j]⟩
 ·left;have n1:Gw F s=some (.error e):=by
   unfold Gw;rw [c1,sbd,Bm (by simpa using he)]
  have n2:Kd F (Cm s)=some (.error e):=by
   unfold Kd;rw [c2,sbd,Bm (by simpa using he)]
  rw [n1,sbd,K4,n2,sbd,K4];exact ⟨e,he,by rw [Bm (by simpa using he)],by rw [Bm (by simpa using he)]⟩
theorem Qa (s:mosaic_Spec) (p1:List Int) (hb:Byt p1):Do 100000 s p1=some true:=by
 obtain ⟨b,hfew,hb2⟩:=A3b (s:=s) (F:=100000) (by omega);unfold Do;rw [hfew,sbd]
 cases b with
 | false=>rw [Bm (c:=bif (!false) then true else (decide (((p1.length:Nat):Int)>300))) rfl,S6];rfl
 | true =>
  obtain ⟨g1,g2,g3⟩:=hb2 rfl
  by_cases hp:((p1.length:Nat):Int)>300
  ·rw [Bm (c:=bif (!true) then true else (decide (((p1.length:Nat):Int)>300))) (by rw [dT hp];rfl),S6];rfl
  ·rw [Be (c:=bif (!true) then true else (decide (((p1.length:Nat):Int)>300))) (by rw [dF hp];rfl)];have hs:=A0a (F:=100000) (s:=s) (by omega) g3;rcases Uz (F:=100000) (by omega) g1 g2 g3 hb (by omega) with ⟨e,e0,r1,r2⟩|⟨N,r1,r2,s1,s2⟩
   ·have e1:(e != e)=false:=by simp
    have e2:(e != 0)=true:=by simpa using e0
    rw [r1,sbd,K4,hs,sbd,r2,sbd,K4,e1,e2,Be (c:=bif false then true else (!(true==true))) rfl,cond_true,S6];rfl
   ·rw [r1,sbd,Jk,hs,sbd,r2,sbd,Jk];rw [Be (c:=bif ((N,(0:Int)).2 != (Hj N,(0:Int)).2) then true else (!(false==((N,(0:Int)).2 != 0)))) rfl,Be (c:=(N,(0:Int)).2 != 0) rfl];have t1:Ba 100000 (mosaic_Node.mk (mosaic_Spec.mk (api_Grid.mk N.spec.Grid.X N.spec.Grid.Y N.spec.Grid.Size N.spec.Grid.Wide N.spec.Grid.High) (api_Span.mk N.spec.Earth.Lo N.spec.Earth.Hi) N.spec.Radars N.spec.Age) N.radars N.horizon N.kept N.count N.looks)=some p1:=s1;rw [t1,sbd,Bm (Qu.2 rfl),s2,sbd,Bm (Qu.2 rfl),S6];rfl
end Go.Proofs.YtkbjbnkkfifbmaaGreat
