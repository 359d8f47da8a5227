import Derived.Test.YtbhjgebjojdohaaW3t12EA
import Derived.Laws.Tables
import Derived.ArgAppend
set_option linter.unusedVariables false
set_option linter.unusedSimpArgs false
set_option linter.unusedSectionVars false
namespace Go.Ev
open Go
set_option linter.unusedVariables false
inductive Pos where
 | h
 | o (p:Pos)
 | i (p:Pos)
inductive Tr (α:Type) where
 | e
 | n (v:Option α) (l r:Tr α)
noncomputable def Tr.g {α:Type} (t:Tr α):Pos→Option α :=
 Tr.rec (motive:=fun _=>Pos→Option α) (fun _=>none) (fun v _ _ gl gr p=>Pos.casesOn p v gl gr) t
noncomputable def Tr.s {α:Type} (p:Pos) (x:Option α):Tr α→Tr α :=
 Pos.rec (motive:=fun _=>Tr α→Tr α) (fun t=>Tr.casesOn t (.n x .e .e) (fun _ l r=>.n x l r))
  (fun _ f t=>Tr.casesOn t (.n none (f .e) .e) (fun v l r=>.n v (f l) r)) (fun _ f t=>Tr.casesOn t (.n none .e (f .e)) (fun v l r=>.n v l (f r))) p
noncomputable def Lm (f:Nat):Nat→Pos :=
 Nat.rec (motive:=fun _=>Nat→Pos) (fun _=>.h)
  (fun _ r k=>Bool.casesOn (Nat.beq k 0) (Bool.casesOn (Nat.beq (k%2) 0) (.o (r (k/2))) (.i (r (k/2-1)))) .h) f
noncomputable def pn (k:Nat):Pos:=Lm (k+1) k
section
variable {α:Type} {p q:Pos} {x:Option α} {t l r:Tr α} {v:Option α}
theorem Tr.g_same:∀(p:Pos) (t:Tr α),(Tr.s p x t).g p=x
 | .h,.e=>rfl
 | .h,.n _ _ _=>rfl
 | .o p,.e=>Tr.g_same p .e
 | .o p,.n _ l _=>Tr.g_same p l
 | .i p,.e=>Tr.g_same p .e
 | .i p,.n _ _ r=>Tr.g_same p r
theorem Tr.g_other:∀(p q:Pos) (t:Tr α),q≠p→(Tr.s p x t).g q=t.g q
 | .h,.h,_,h=>absurd rfl h
 | .h,.o q,.e,_=>rfl
 | .h,.o q,.n _ _ _,_=>rfl
 | .h,.i q,.e,_=>rfl
 | .h,.i q,.n _ _ _,_=>rfl
 | .o p,.h,.e,_=>rfl
 | .o p,.h,.n _ _ _,_=>rfl
 | .o p,.i q,.e,_=>rfl
 | .o p,.i q,.n _ _ _,_=>rfl
 | .i p,.h,.e,_=>rfl
 | .i p,.h,.n _ _ _,_=>rfl
 | .i p,.o q,.e,_=>rfl
 | .i p,.o q,.n _ _ _,_=>rfl
 | .o p,.o q,.e,h=>Tr.g_other p q .e (fun e=>h (by rw [e]))
 | .o p,.o q,.n _ l _,h=>Tr.g_other p q l (fun e=>h (by rw [e]))
 | .i p,.i q,.e,h=>Tr.g_other p q .e (fun e=>h (by rw [e]))
 | .i p,.i q,.n _ _ r,h=>Tr.g_other p q r (fun e=>h (by rw [e]))
end
theorem Dt (f k:Nat):Lm (f+1) k=if k=0 then .h else if k%2=0 then .i (Lm f (k/2-1)) else .o (Lm f (k/2)):=by
 show Bool.casesOn (motive:=fun _=>Pos) (Nat.beq k 0) (Bool.casesOn (motive:=fun _=>Pos) (Nat.beq (k%2) 0) (.o (Lm f (k/2))) (.i (Lm f (k/2-1)))) .h=_
 by_cases h0:k=0
 ·subst h0;rfl
 ·have e0:Nat.beq k 0=false:=by cases h:Nat.beq k 0 with
   | false=>rfl
   | true=>exact absurd (Nat.eq_of_beq_eq_true h) h0
  rw [e0,if_neg h0]
  by_cases h1:k%2=0
  ·rw [if_pos h1,h1];rfl
  ·have e1:Nat.beq (k%2) 0=false:=by cases h:Nat.beq (k%2) 0 with
    | false=>rfl
    | true=>exact absurd (Nat.eq_of_beq_eq_true h) h1
   rw [if_neg h1,e1]
theorem N8:∀(f a b:Nat),a+1<2 ^ f→b+1<2 ^ f→Lm f a=Lm f b→a=b
 | 0,a,b,h,_,_=>by simp at h
 | f+1,a,b,ha,hb,e=>by
  have hp:2 ^ (f+1)=2*2 ^ f:=by rw [Nat.pow_succ,Nat.mul_comm]
  rw [Dt,Dt] at e
  by_cases ha0:a=0<;>by_cases hb0:b=0
  ·omega
  ·rw [if_pos ha0,if_neg hb0] at e;split at e<;>cases e
  ·rw [if_neg ha0,if_pos hb0] at e;split at e<;>cases e
  ·rw [if_neg ha0,if_neg hb0] at e
   by_cases ha1:a%2=0<;>by_cases hb1:b%2=0
   ·rw [if_pos ha1,if_pos hb1] at e;have:=N8 f _ _ (by omega) (by omega) (Pos.i.inj e);omega
   ·rw [if_pos ha1,if_neg hb1] at e;cases e
   ·rw [if_neg ha1,if_pos hb1] at e;cases e
   ·rw [if_neg ha1,if_neg hb1] at e;have:=N8 f _ _ (by omega) (by omega) (Pos.o.inj e);omega
theorem Hh:∀(f a d:Nat),a+1<2 ^ f→Lm (f+d) a=Lm f a
 | 0,a,d,h=>by simp at h
 | f+1,a,d,h=>by
  have hp:2 ^ (f+1)=2*2 ^ f:=by rw [Nat.pow_succ,Nat.mul_comm]
  rw [show f+1+d=(f+d)+1 by omega,Dt,Dt]
  by_cases h0:a=0
  ·rw [if_pos h0,if_pos h0]
  ·rw [if_neg h0,if_neg h0]
   by_cases h1:a%2=0
   ·rw [if_pos h1,if_pos h1,Hh f _ d (by omega)]
   ·rw [if_neg h1,if_neg h1,Hh f _ d (by omega)]
theorem Lf (a:Nat):a+2≤2 ^ (a+1):=by
 induction a with
 | zero=>simp
 | succ a ih=>rw [Nat.pow_succ];omega
theorem A13 {a b:Nat} (h:pn a=pn b):a=b:=by
 by_cases ha:a=0
 ·subst ha
  by_cases hb:b=0
  ·exact hb.symm
  ·exfalso;unfold pn at h;rw [Dt,Dt,if_pos rfl,if_neg hb] at h
   split at h<;>cases h
 ·by_cases hb:b=0
  ·exfalso;subst hb;unfold pn at h;rw [Dt,Dt,if_pos rfl,if_neg ha] at h
   split at h<;>cases h
  ·have la:a+1<2 ^ (a+1):=by
    obtain ⟨c,rfl⟩:∃c,a=c+1:=⟨a-1,by omega⟩;have:=Lf (c+1);omega
   have lb:b+1<2 ^ (b+1):=by
    obtain ⟨c,rfl⟩:∃c,b=c+1:=⟨b-1,by omega⟩;have:=Lf (c+1);omega
   have e1:=Hh (a+1) a (b+1) la;have e2:=Hh (b+1) b (a+1) lb;have hh:Lm (a+1+(b+1)) a=Lm (a+1+(b+1)) b:=by
    rw [e1,show a+1+(b+1)=b+1+(a+1) by omega,e2];exact h
   refine N8 _ a b ?_ ?_ hh
   ·exact Nat.lt_of_lt_of_le la (Nat.pow_le_pow_right (by omega) (by omega))
   ·exact Nat.lt_of_lt_of_le lb (Nat.pow_le_pow_right (by omega) (by omega))
theorem A1s {a b:Nat} (h:a≠b):pn a≠pn b:=fun e=>h (A13 e)
end Go.Ev
namespace Go.Ev
open Go Go.Eng
set_option linter.unusedVariables false
inductive AObj where
 | hd (size:Nat) (elem:TypeId) (g:Bool)
 | cell (own:Nat) (v:Value)
 | map (es:List MapEntry) (clock:Nat)
 | loop (st:LoopState) (pe:Option Code) (t:Tr Value) (ps:List Tmp) (assign body:Code)
 | dfr (fresh:Bool)
structure S where
 h:Tr AObj
 c:Nat
 T:Nat
 W:Nat
 m:Bool
def bits (n k:Nat):Nat:=(2 ^ k-1) <<< n
section
variable {α β:Type}
noncomputable def fNs (K:Nat→β) (m:Nat) (_:β):β:=K (Nat.succ m)
noncomputable def fN (n:Nat) (K:Nat→β):β:=Nat.rec (motive:=fun _=>β) (K 0) (fNs K) n
noncomputable def fB (b:Bool) (K:Bool→β):β:=Bool.rec (motive:=fun _=>β) (K false) (K true) b
noncomputable def zP (K:Int→β) (n:Nat):β:=K (Int.ofNat n)
noncomputable def zM (K:Int→β) (n:Nat):β:=K (Int.negSucc n)
noncomputable def zPf (K:Int→β) (n:Nat):β:=fN n (zP K)
noncomputable def zMf (K:Int→β) (n:Nat):β:=fN n (zM K)
noncomputable def fZ (i:Int) (K:Int→β):β:=Int.rec (motive:=fun _=>β) (zPf K) (zMf K) i
noncomputable def nL (v:Option α) (r:Tr α) (K:Tr α→β) (l:Tr α):β:=K (.n v l r)
noncomputable def nR (v:Option α) (l:Tr α) (K:Tr α→β) (r:Tr α):β:=K (.n v l r)
noncomputable def sH (x:Option α) (t:Tr α) (K:Tr α→β):β:=Tr.rec (motive:=fun _=>β) (K (.n x .e .e)) (fun _ l r _ _=>K (.n x l r)) t
noncomputable def sL (f:Tr α→(Tr α→β)→β) (t:Tr α) (K:Tr α→β):β:=Tr.rec (motive:=fun _=>β) (f .e (nL none .e K)) (fun v l r _ _=>f l (nL v r K)) t
noncomputable def sR (f:Tr α→(Tr α→β)→β) (t:Tr α) (K:Tr α→β):β:=Tr.rec (motive:=fun _=>β) (f .e (nR none .e K)) (fun v l r _ _=>f r (nR v l K)) t
noncomputable def sK (p:Pos) (x:Option α):Tr α→(Tr α→β)→β :=
 Pos.rec (motive:=fun _=>Tr α→(Tr α→β)→β) (sH x) (fun _=>sL) (fun _=>sR) p
noncomputable def gH (n:β) (k:α→β) (t:Tr α):β:=Tr.rec (motive:=fun _=>β) n (fun v _ _ _ _=>Option.rec (motive:=fun _=>β) n k v) t
noncomputable def gL (n:β) (ih:Tr α→β) (t:Tr α):β:=Tr.rec (motive:=fun _=>β) n (fun _ l _ _ _=>ih l) t
noncomputable def gR (n:β) (ih:Tr α→β) (t:Tr α):β:=Tr.rec (motive:=fun _=>β) n (fun _ _ r _ _=>ih r) t
noncomputable def gK (n:β) (k:α→β) (p:Pos):Tr α→β:=Pos.rec (motive:=fun _=>Tr α→β) (gH n k) (fun _=>gL n) (fun _=>gR n) p
noncomputable def oO (o:Option β) (k:β→Option α):Option α:=Option.rec (motive:=fun _=>Option α) none k o
noncomputable def oB (b:Bool) (k:Option α):Option α:=Bool.rec (motive:=fun _=>Option α) none k b
end
noncomputable def S.get (s:S) (n:Nat):Option AObj:=s.h.g (pn n)
noncomputable def S.wr (s:S) (n:Nat) (o:Option AObj):S:=⟨Tr.s (pn n) o s.h,s.c,s.T ||| 2 ^ n,s.W ||| 2 ^ n,s.m⟩
def S.rd (s:S) (n:Nat):S:=⟨s.h,s.c,s.T ||| 2 ^ n,s.W,s.m⟩
def S.rds (s:S) (n k:Nat):S:=⟨s.h,s.c,s.T ||| bits n k,s.W,s.m⟩
noncomputable def S.nw (s:S) (o:AObj):S:=⟨Tr.s (pn s.c) (some o) s.h,s.c+1,s.T,s.W,s.m⟩
noncomputable def Ey (own:Nat):List Value→Nat→Tr AObj→Tr AObj
 | [],_,h=>h
 | v::l,n,h=>Ey own l (n+1) (Tr.s (pn n) (some (.cell own v)) h)
noncomputable def Hw:Nat→Nat→Tr AObj→Tr AObj
 | 0,_,h=>h
 | k+1,n,h=>Hw k (n+1) (Tr.s (pn n) none h)
noncomputable def S.row (s:S) (vs:List Value) (e:TypeId) (g:Bool):S:=⟨Ey s.c vs (s.c+1) (Tr.s (pn s.c) (some (.hd vs.length e g)) s.h),s.c+1+vs.length,s.T,s.W,s.m⟩
noncomputable def Jn (h:Tr AObj) (own:Nat):Nat→Nat→Option (List Value)
 | 0,_=>some []
 | k+1,n=>match h.g (pn n) with
  | some (.cell o v)=>bif Nat.beq o own then
    (match Jn h own k (n+1) with
    | some l=>some (v::l)
    | none=>none)
   else none
  | _=>none
noncomputable def S.load (s:S) (n off k:Nat):Option (List Value):=Jn s.h n k (n+1+off)
noncomputable def S.store (s:S) (n off k:Nat) (vs:List Value):Option S :=
 match s.load n off k with
 | some _=>bif Nat.beq vs.length k&&vs.all Value.oneCell' then some ⟨Ey n vs (n+1+off) s.h,s.c,s.T ||| bits (n+1+off) k,s.W ||| bits (n+1+off) k,s.m⟩ else none
 | none=>none
section
variable {β:Type}
noncomputable def mkT (s:S) (K:S→β) (T:Nat):β:=K ⟨s.h,s.c,T,s.W,s.m⟩
noncomputable def A23 (h:Tr AObj) (c:Nat) (m:Bool) (K:S→β) (T W:Nat):β:=K ⟨h,c,T,W,m⟩
noncomputable def mkC (h:Tr AObj) (s:S) (K:S→β) (c:Nat):β:=K ⟨h,c,s.T,s.W,s.m⟩
noncomputable def wr2 (h:Tr AObj) (c W b:Nat) (m:Bool) (K:S→β) (T:Nat):β:=fN (W ||| b) (A23 h c m K T)
noncomputable def wr1 (s:S) (b:Nat) (K:S→β) (h:Tr AObj):β:=fN (s.T ||| b) (wr2 h s.c s.W b s.m K)
noncomputable def S.wrK (s:S) (n:Nat) (o:Option AObj) (K:S→β):β:=sK (pn n) o s.h (wr1 s (2 ^ n) K)
noncomputable def S.rdK (s:S) (n:Nat) (K:S→β):β:=fN (s.T ||| 2 ^ n) (mkT s K)
noncomputable def S.rdsK (s:S) (n k:Nat) (K:S→β):β:=fN (s.T ||| bits n k) (mkT s K)
noncomputable def nw1 (s:S) (K:S→β) (h:Tr AObj):β:=fN (s.c+1) (mkC h s K)
noncomputable def S.nwK (s:S) (o:AObj) (K:S→β):β:=sK (pn s.c) (some o) s.h (nw1 s K)
noncomputable def sc1 (own:Nat) (v:Value) (r:Nat→Tr AObj→β) (n:Nat) (h:Tr AObj) (n1:Nat):β:=sK (pn n) (some (.cell own v)) h (r n1)
noncomputable def sc0 (own:Nat) (v:Value) (r:Nat→Tr AObj→β) (n:Nat) (h:Tr AObj):β:=fN (n+1) (sc1 own v r n h)
noncomputable def Zi (K:Tr AObj→β) (_:Nat) (h:Tr AObj):β:=K h
noncomputable def Nh (own:Nat) (l:List Value) (n:Nat) (h:Tr AObj) (K:Tr AObj→β):β :=
 List.rec (motive:=fun _=>Nat→Tr AObj→β) (Zi K) (fun v _ r=>sc0 own v r) l n h
noncomputable def dc1 (r:Nat→Tr AObj→β) (n:Nat) (h:Tr AObj) (n1:Nat):β:=sK (pn n) none h (r n1)
noncomputable def dc0 (r:Nat→Tr AObj→β) (n:Nat) (h:Tr AObj):β:=fN (n+1) (dc1 r n h)
noncomputable def Ls (k n:Nat) (h:Tr AObj) (K:Tr AObj→β):β:=Nat.rec (motive:=fun _=>Nat→Tr AObj→β) (Zi K) (fun _ r=>dc0 r) k n h
noncomputable def ro4 (s:S) (z:Nat) (K:S→β) (h:Tr AObj):β:=fN (s.c+1+z) (mkC h s K)
noncomputable def ro3 (s:S) (vs:List Value) (z:Nat) (K:S→β) (h:Tr AObj) (c1:Nat):β:=Nh s.c vs c1 h (ro4 s z K)
noncomputable def ro2 (s:S) (vs:List Value) (z:Nat) (K:S→β) (h:Tr AObj):β:=fN (s.c+1) (ro3 s vs z K h)
noncomputable def ro1 (s:S) (vs:List Value) (e:TypeId) (g:Bool) (K:S→β) (z:Nat):β:=sK (pn s.c) (some (.hd z e g)) s.h (ro2 s vs z K)
noncomputable def S.rowK (s:S) (vs:List Value) (e:TypeId) (g:Bool) (K:S→β):β:=fN vs.length (ro1 s vs e g K)
noncomputable def ck1 (own:Nat) (K:Value→Option β) (o:Nat) (v:Value):Option β:=oB (Nat.beq o own) (K v)
noncomputable def ck0 (own:Nat) (K:Value→Option β) (a:AObj):Option β:=AObj.casesOn (motive:=fun _=>Option β) a (fun _ _ _=>none) (ck1 own K) (fun _ _=>none) (fun _ _ _ _ _ _=>none) (fun _=>none)
noncomputable def A1h (h:Tr AObj) (n own:Nat) (K:Value→Option β):Option β:=gK none (ck0 own K) (pn n) h
noncomputable def gc3 (K:List Value→Option β) (v:Value) (l:List Value):Option β:=K (v::l)
noncomputable def gc2 (r:Nat→(List Value→Option β)→Option β) (K:List Value→Option β) (v:Value) (n1:Nat):Option β:=r n1 (gc3 K v)
noncomputable def gc1 (r:Nat→(List Value→Option β)→Option β) (n:Nat) (K:List Value→Option β) (v:Value):Option β:=fN (n+1) (gc2 r K v)
noncomputable def gc0 (h:Tr AObj) (own:Nat) (r:Nat→(List Value→Option β)→Option β) (n:Nat) (K:List Value→Option β):Option β:=A1h h n own (gc1 r n K)
noncomputable def gcN (_:Nat) (K:List Value→Option β):Option β:=K []
noncomputable def Hy (h:Tr AObj) (own k n:Nat) (K:List Value→Option β):Option β :=
 Nat.rec (motive:=fun _=>Nat→(List Value→Option β)→Option β) gcN (fun _ r=>gc0 h own r) k n K
noncomputable def lo1 (s:S) (n k:Nat) (K:List Value→Option β) (a:Nat):Option β:=Hy s.h n k a K
noncomputable def S.loadK (s:S) (n off k:Nat) (K:List Value→Option β):Option β:=fN (n+1+off) (lo1 s n k K)
noncomputable def so2 (s:S) (n a k:Nat) (vs:List Value) (K:S→Option β) (_:List Value):Option β:=oB (Nat.beq vs.length k&&vs.all Value.oneCell') (Nh n vs a s.h (wr1 s (bits a k) K))
noncomputable def so1 (s:S) (n k:Nat) (vs:List Value) (K:S→Option β) (a:Nat):Option β:=Hy s.h n k a (so2 s n a k vs K)
noncomputable def S.storeK (s:S) (n off k:Nat) (vs:List Value) (K:S→Option β):Option β:=fN (n+1+off) (so1 s n k vs K)
end
def gnd:Nat→Value→Bool
 | 0,_=>false
 | n+1,v=>match v with
  | .bool _=>true
  | .int _ _=>true
  | .string _=>true
  | .pointer none=>true
  | .slice none 0 0=>true
  | .map none=>true
  | .nilFunc=>true
  | .nilIface=>true
  | .iface _ v=>gnd n v
  | .agg cs=>cs.toList.all (gnd n)
  | .tuple cs=>cs.toList.all (gnd n)
  | _=>false
inductive Od where
 | t (p:Pos)
 | k (v:Value)
noncomputable def od:Operand→Od
 | .tmp i=>.t (pn i)
 | .const v=>.k v
 | .global g=>.k (.pointer (some ⟨g,0,none⟩))
 | .func f=>.k (.func (.func f) #[] #[])
def Lj (P:Program) (t:TypeId):Option Bool:=match P.underlying t with|some (.struct _)=>some true|some (.array _ _)=>some true|some _=>some false|none=>none
def szT (P:Program) (t:TypeId):Option Nat:=(P.info? t).map (·.size)
def zrT (P:Program) (t:TypeId):Option Value:=(P.info? t).bind fun i=>i.zero.bind fun z=>bif gnd 6 z&&Nat.beq z.cells.toList.length i.size then some z else none
noncomputable def G7 (P:Program) (t:TypeId):List (Nat×Operand)→Option (List (Nat×Nat×Od))
 | []=>some []
 | (i,x)::l =>
  match (match P.underlying t with
   | some (.struct fs)=>(fs[i]?).bind fun f=>(szT P f.type).map fun z=>(f.offset,z)
   | some (.array _ e)=>(szT P e).map fun z=>(i*z,z)
   | _=>none),G7 P t l with
  | some (o,z),some r=>some ((o,z,od x)::r)
  | _,_=>none
noncomputable def Fs (z:Nat):List (Nat×Operand)→List (Nat×Nat×Od)
 | []=>[]
 | (i,x)::l=>(i*z,z,od x)::Fs z l
abbrev Fm:=Tr Value
noncomputable def Fm.v (t:Fm) (x:Od):Value:=Od.casesOn x (fun p=>Option.casesOn (t.g p) undef (fun v=>v)) (fun v=>v)
noncomputable def Fm.put (t:Fm) (d:Option Tmp) (v:Value):Fm:=Option.casesOn d t (fun d=>Tr.s (pn d) (some v) t)
noncomputable def ev1 (t:Fm) (x:Operand):Value:=t.v (od x)
inductive Out where
 | norm (t:Fm) (ms:List Nat) (s:S)
 | exit (id:Nat) (t:Fm) (ms:List Nat) (s:S)
 | ret (t:Fm) (ms:List Nat) (s:S)
 | val (v:Value) (s:S)
inductive Job where
 | call (f:FuncId) (args:List Value)
 | yld (l:Nat) (args:List Value)
 | code (c:Code) (t:Fm) (ms:List Nat) (r:Option Nat)
abbrev Rn:=Job→S→Option Out
inductive Tv where
 | pl (v:Value)
 | ro (e:TypeId) (cs:List Value) (l:Nat) (x:Value)
section
variable {α:Type}
noncomputable def vI (v:Value) (k:IntKind→Int→Option α):Option α :=
 Value.casesOn (motive_1:=fun _=>Option α) v (fun _=>none) k (fun _ _=>none) (fun _ _ _=>none) (fun _=>none) (fun _=>none) (fun _ _ _=>none) (fun _=>none) (fun _=>none) (fun _ _ _=>none) none (fun _ _=>none) none (fun _=>none) (fun _=>none)
noncomputable def vB (v:Value) (k:Bool→Option α):Option α :=
 Value.casesOn (motive_1:=fun _=>Option α) v k (fun _ _=>none) (fun _ _=>none) (fun _ _ _=>none) (fun _=>none) (fun _=>none) (fun _ _ _=>none) (fun _=>none) (fun _=>none) (fun _ _ _=>none) none (fun _ _=>none) none (fun _=>none) (fun _=>none)
noncomputable def vPo (v:Value) (k:Option Addr→Option α):Option α :=
 Value.casesOn (motive_1:=fun _=>Option α) v (fun _=>none) (fun _ _=>none) (fun _ _=>none) (fun _ _ _=>none) (fun _=>none) k (fun _ _ _=>none) (fun _=>none) (fun _=>none) (fun _ _ _=>none) none (fun _ _=>none) none (fun _=>none) (fun _=>none)
noncomputable def vSl (v:Value) (k:Option Addr→Nat→Nat→Option α):Option α :=
 Value.casesOn (motive_1:=fun _=>Option α) v (fun _=>none) (fun _ _=>none) (fun _ _=>none) (fun _ _ _=>none) (fun _=>none) (fun _=>none) k (fun _=>none) (fun _=>none) (fun _ _ _=>none) none (fun _ _=>none) none (fun _=>none) (fun _=>none)
noncomputable def aPl (a:Addr) (k:Nat→Nat→Option α):Option α:=Option.rec (motive:=fun _=>Option α) (k a.block a.off) (fun _=>none) a.spot
noncomputable def aPf (k:Nat→Nat→Option α) (a:Addr):Option α:=aPl a k
noncomputable def aPo (k:Nat→Nat→Option α) (a:Option Addr):Option α:=oO a (aPf k)
noncomputable def vP (v:Value) (k:Nat→Nat→Option α):Option α:=vPo v (aPo k)
noncomputable def iN (i:Int) (k:Nat→Option α):Option α:=Int.rec (motive:=fun _=>Option α) k (fun _=>none) i
noncomputable def Fm.K (t:Fm) (x:Od) (k:Value→Option α):Option α :=
 Od.rec (motive:=fun _=>Option α) (fun p=>gK (k undef) k p t) k x
end
def ikE (a b:IntKind):Bool:=Nat.beq a.ctorIdx b.ctorIdx
def Kw (zero:List Value):Nat→List Value
 | 0=>[]
 | n+1=>zero++Kw zero n
def keyOk:Nat→Value→Bool
 | _,.bool _=>true
 | _,.int _ _=>true
 | _,.string _=>true
 | n+1,.agg a=>a.toList.all (keyOk n)
 | _,_=>false
def Jf:List MapEntry→List MapEntry
 | []=>[]
 | e::l=>⟨e.key,undef,0⟩::Jf l
def Mq (P:Program) (kt:TypeId) (em:Bool) (k:Value) (es:List MapEntry):Option (Option Nat) :=
 match pureSem P (Instr.checkKey em 10000 kt k),pureSem P (Instr.findKey kt k (Jf es)) with
 | some _,some (some p)=>some (some p.1)
 | some _,some none=>some none
 | _,_=>none
def Md (b:Int):List MapEntry→Nat→Option Nat
 | [],_=>none
 | e::es,i=>bif (e.born:Int)==b then some i else Md b es (i+1)
def A0c (r:Int):Bool:=Int.casesOn r (fun a=>Nat.ble a 9223372036854775807) (fun a=>Nat.ble a 9223372036854775807)
def ltZ (a b:Int):Bool:=Int.casesOn a (fun a=>Int.casesOn b (fun b=>Nat.blt a b) (fun _=>false)) (fun a=>Int.casesOn b (fun _=>true) (fun b=>Nat.blt b a))
def eqZ (a b:Int):Bool:=Int.casesOn a (fun a=>Int.casesOn b (fun b=>Nat.beq a b) (fun _=>false)) (fun a=>Int.casesOn b (fun _=>false) (fun b=>Nat.beq a b))
noncomputable def Zc {α:Type} (k:IntKind) (K:Value→Option α) (r:Int):Option α:=K (.int k r)
noncomputable def Mp {α:Type} (r:Int) (k:IntKind) (K:Value→Option α):Option α :=
 Bool.rec (motive:=fun _=>Option α) (fZ (k.wrap r) (Zc k K)) (fZ r (Zc k K)) (ikE k .i64&&A0c r)
def Zt (op:BinOp) (a b:Int):Bool :=
 match op with
 | .eql=>eqZ a b
 | .neq=>!eqZ a b
 | .lss=>ltZ a b
 | .leq=>!ltZ b a
 | .gtr=>ltZ b a
 | _=>!ltZ a b
def takeN:Nat→List Value→Option (List Value)
 | 0,_=>some []
 | _+1,[]=>none
 | n+1,v::l=>match takeN n l with
  | some r=>some (v::r)
  | none=>none
def over (vs:List Value):Nat→List Value→Option (List Value)
 | 0,cs=>overH vs cs
 | _+1,[]=>none
 | o+1,c::cs=>match over vs o cs with
  | some r=>some (c::r)
  | none=>none
where overH:List Value→List Value→Option (List Value)
 | [],cs=>some cs
 | _::_,[]=>none
 | v::vs,_::cs=>match overH vs cs with
  | some r=>some (v::r)
  | none=>none
noncomputable def Xz (t:Fm) (ps:List (Nat×Nat×Od)) (cs:List Value) (K:List Value→Option Out):Option Out :=
 List.rec (motive:=fun _=>List Value→Option Out) K (fun p _ r cs=>t.K p.2.2 fun x=>oB (Nat.beq x.cells.toList.length p.2.1) (oO (over x.cells.toList p.1 cs) r)) ps cs
noncomputable def M9 (t:Fm) (l:List Od) (K:List Value→Option Out):Option Out :=
 List.rec (motive:=fun _=>(List Value→Option Out)→Option Out) (fun K=>K []) (fun x _ r K=>t.K x fun v=>r fun l=>K (v::l)) l K
noncomputable def A16 (s:S) (z:Nat) (x:Value) (K:Nat→List Value→S→Option Out):Option Out :=
 vSl x fun a n _=>Option.rec (motive:=fun _=>Option Out) (oB (Nat.beq n 0) (K 0 [] s)) (fun a=>aPl a fun m o=>fN (n*z) fun nz=>s.loadK m o nz fun l=>s.rdsK (m+1+o) nz fun s=>K n l s) a
noncomputable def gr3 (s:S) (e n ln T:Nat) (cs:List Value) (K:Value→S→Option Out) (h:Tr AObj) (W:Nat):Option Out:=S.rowK ⟨h,s.c,T,W,s.m⟩ cs e true (K (.slice (some ⟨s.c,0,none⟩) ln ln))
noncomputable def X9 (s:S) (e m o l lz:Nat) (n by_:Nat) (src:List Value) (K:Value→S→Option Out):Option Out :=
 s.loadK m o lz fun old=>s.rdsK (m+1+o) lz fun s=>match s.get m with
  | some (.hd k e' g)=>oB ((Nat.beq e' e&&Nat.blt (m+k) s.c)&&(src.all Value.oneCell'&&(Nat.ble (l+n) 1000000000&&Nat.ble ((l+n)*by_) 1000000000))) (fN (l+n) fun ln=>fN (s.T ||| bits m (k+1)) fun T=>Bool.rec (motive:=fun _=>Option Out)
    (gr3 s e n ln T (old++src) K s.h s.W)
    (Ls (k+1) m s.h fun h=>fN (s.W ||| bits m (k+1)) fun W=>gr3 s e n ln T (old++src) K h W) g)
  | _=>none
noncomputable def A19 (s:S) (e:TypeId) (z by_:Nat) (a x:Value) (K:Value→S→Option Out):Option Out :=
 A16 s z x fun n src s=>vSl a fun ad l c=>Option.rec (motive:=fun _=>Option Out)
  (oB (Nat.beq l 0&&Nat.beq c 0) (Bool.rec (motive:=fun _=>Option Out) (oB (src.all Value.oneCell'&&(Nat.ble n 1000000000&&Nat.ble (n*by_) 1000000000)) (s.rowK src e true (K (.slice (some ⟨s.c,0,none⟩) n n)))) (K (.slice none 0 0) s) (Nat.beq n 0)))
  (fun ad=>aPl ad fun m o=>fN (l*z) fun lz=>Bool.rec (motive:=fun _=>Option Out) (X9 s e m o l lz n by_ src K)
   (fN (o+lz) fun o'=>s.storeK m o' (n*z) src fun s=>fN (l+n) fun l=>K (.slice (some ⟨m,o,none⟩) l c) s) (Nat.ble (l+n) c)) ad
noncomputable def Td (s:S) (m:Value):Option (Nat×List MapEntry×Nat) :=
 match m with
 | .map (some r)=>(match s.get r with
  | some (.map es ck)=>some (r,es,ck)
  | _=>none)
 | _=>none
def cmS:Value→Value→Option Bool
 | .slice none _ _,.slice b _ _=>some b.isNone
 | .slice (some _) _ _,.slice none _ _=>some false
 | _,_=>none
def cmM:Value→Value→Option Bool
 | .map none,.map b=>some b.isNone
 | .map (some _),.map none=>some false
 | _,_=>none
def cmN:Value→Value→Option Bool
 | .nilFunc,.nilFunc=>some true
 | .nilFunc,.func _ _ _=>some false
 | .func _ _ _,.nilFunc=>some false
 | _,_=>none
def cmI:Value→Value→Option Bool
 | .nilIface,.nilIface=>some true
 | .nilIface,.iface _ _=>some false
 | .iface _ _,.nilIface=>some false
 | _,_=>none
def isK:Operand→Bool|.const _=>true|_=>false
def bnd (x:Option Value) (d y:Nat):Option Nat :=
 match x with
 | none=>some d
 | some (.int _ (.ofNat n))=>bif Nat.ble n y then some n else none
 | _=>none
section
variable (t:Fm) (s:S) (K:Value→S→Option Out)
end
section
variable (K:Value→S→Option Out) (s:S) (t:Fm)
noncomputable def fl (v:Value):Option Out:=K v s
noncomputable def pk2 (a b:Od) (c:Bool):Option Out:=Bool.rec (motive:=fun _=>Option Out) (t.K b (fl K s)) (t.K a (fl K s)) c
noncomputable def pk1 (a b:Od) (c:Value):Option Out:=vB c (pk2 K s t a b)
noncomputable def ld5 (v:Value) (_:List Value) (_:Option Out):Option Out:=K v s
noncomputable def ld4 (g:Bool) (l:List Value) (s:S):Option Out:=Bool.rec (motive:=fun _=>Option Out) (List.rec (motive:=fun _=>Option Out) none (ld5 K s) l) (K (.agg ⟨l⟩) s) g
noncomputable def ld3 (g:Bool) (n m off:Nat) (l:List Value):Option Out:=s.rdsK (m+1+off) n (ld4 K g l)
noncomputable def ld2 (g:Bool) (n m off:Nat):Option Out:=s.loadK m off n (ld3 K s g n m off)
noncomputable def ld1 (g:Bool) (n:Nat) (a:Value):Option Out:=vP a (ld2 K s g n)
noncomputable def stu (s:S):Option Out:=K undef s
noncomputable def st3 (n m off:Nat) (x:Value):Option Out:=s.storeK m off n x.cells.toList (stu K)
noncomputable def st2 (x:Od) (n m off:Nat):Option Out:=t.K x (st3 K s n m off)
noncomputable def st1 (x:Od) (n:Nat) (a:Value):Option Out:=vP a (st2 K s t x n)
noncomputable def bx1 (e:TypeId) (x:Value):Option Out:=s.rowK x.cells.toList e false (K (.pointer (some ⟨s.c,0,none⟩)))
noncomputable def ptr (m o:Nat):Option Out:=K (.pointer (some ⟨m,o,none⟩)) s
noncomputable def fa2 (off m o:Nat):Option Out:=fN (o+off) (ptr K s m)
noncomputable def fa1 (off:Nat) (x:Value):Option Out:=vP x (fa2 K s off)
noncomputable def ia4 (l z m o j:Nat):Option Out:=oB (Nat.blt j l) (fN (o+j*z) (ptr K s m))
noncomputable def ia3 (l z m o:Nat) (_:IntKind) (i:Int):Option Out:=iN i (ia4 K s l z m o)
noncomputable def ia2 (l z m o:Nat) (i:Value):Option Out:=vI i (ia3 K s l z m o)
noncomputable def ia1 (i:Od) (l z m o:Nat):Option Out:=t.K i (ia2 K s l z m o)
noncomputable def iaS (i:Od) (z:Nat) (a:Option Addr) (l _:Nat):Option Out:=aPo (ia1 K s t i l z) a
noncomputable def ia0 (i:Od) (z:Nat) (x:Value):Option Out:=vSl x (iaS K s t i z)
noncomputable def ar0 (i:Od) (l z:Nat) (x:Value):Option Out:=vP x (ia1 K s t i l z)
noncomputable def i2c (F:IntKind→Int→Int→Option Out) (k:IntKind) (a:Int) (k':IntKind) (b:Int):Option Out:=oB (ikE k k') (F k a b)
noncomputable def i2b (F:IntKind→Int→Int→Option Out) (y:Value) (k:IntKind) (a:Int):Option Out:=vI y (i2c F k a)
noncomputable def i2a (F:IntKind→Int→Int→Option Out) (x y:Value):Option Out:=vI x (i2b F y)
noncomputable def i2y (F:IntKind→Int→Int→Option Out) (y:Od) (x:Value):Option Out:=t.K y (i2a F x)
noncomputable def i2 (F:IntKind→Int→Int→Option Out) (x y:Od):Option Out:=t.K x (i2y t F y)
noncomputable def adF (k:IntKind) (a b:Int):Option Out:=Mp (Int.add a b) k (fl K s)
noncomputable def sbF (k:IntKind) (a b:Int):Option Out:=Mp (Int.sub a b) k (fl K s)
noncomputable def mlF (k:IntKind) (a b:Int):Option Out:=Mp (Int.mul a b) k (fl K s)
noncomputable def bl (b:Bool):Option Out:=K (.bool b) s
noncomputable def cmF (op:BinOp) (_:IntKind) (a b:Int):Option Out:=fB (Zt op a b) (bl K s)
noncomputable def nt2 (b:Bool):Option Out:=Bool.rec (motive:=fun _=>Option Out) (K (.bool true) s) (K (.bool false) s) b
noncomputable def nt1 (x:Value):Option Out:=vB x (nt2 K s)
noncomputable def ng2 (k:IntKind) (a:Int):Option Out:=Mp (Int.sub 0 a) k (fl K s)
noncomputable def ng1 (x:Value):Option Out:=vI x (ng2 K s)
end
section
variable (t:Fm) (s:S) (K:Value→S→Option Out)
noncomputable def xMv (x:Od):Option Out:=t.K x (fl K s)
noncomputable def xPk (c a b:Od):Option Out:=t.K c (pk1 K s t a b)
noncomputable def xLd (a:Od) (g:Bool) (n:Nat):Option Out:=t.K a (ld1 K s g n)
noncomputable def xSt (a x:Od) (n:Nat):Option Out:=t.K a (st1 K s t x n)
noncomputable def xBx (x:Od) (e:TypeId):Option Out:=t.K x (bx1 K s e)
noncomputable def xAl (z:List Value) (e:TypeId):Option Out:=s.rowK z e false (K (.pointer (some ⟨s.c,0,none⟩)))
noncomputable def xFa (x:Od) (off:Nat):Option Out:=t.K x (fa1 K s off)
noncomputable def xIa (x i:Od) (z:Nat):Option Out:=t.K x (ia0 K s t i z)
noncomputable def xAr (x i:Od) (l z:Nat):Option Out:=t.K x (ar0 K s t i l z)
noncomputable def xAd (x y:Od):Option Out:=i2 t (adF K s) x y
noncomputable def xSb (x y:Od):Option Out:=i2 t (sbF K s) x y
noncomputable def xMl (x y:Od):Option Out:=i2 t (mlF K s) x y
noncomputable def xCm (op:BinOp) (x y:Od):Option Out:=i2 t (cmF K s op) x y
noncomputable def xNt (x:Od):Option Out:=t.K x (nt1 K s)
noncomputable def xNg (x:Od):Option Out:=t.K x (ng1 K s)
noncomputable def xNc (x:Od):Option Out:=t.K x fun x =>
 match x with
 | .pointer (some a)=>K (.pointer (some a)) s
 | .func (.func f) a b=>K (.func (.func f) a b) s
 | .func (.yield f) a b=>K (.func (.yield f) a b) s
 | .iface a b=>K (.iface a b) s
 | _=>none
noncomputable def xEx (x:Od) (i:Nat):Option Out:=t.K x fun x =>
 match x with
 | .tuple vs=>oO (vs.toList[i]?) fun v=>K v s
 | _=>none
noncomputable def xFd (x:Od) (g:Bool) (off n:Nat):Option Out:=t.K x fun x =>
 match x with
 | .agg cs=>oO (takeN n (cs.toList.drop off)) fun l=>Bool.rec (motive:=fun _=>Option Out) (List.rec (motive:=fun _=>Option Out) none (fun v _ _=>K v s) l) (K (.agg ⟨l⟩) s) g
 | _=>none
noncomputable def xBd (z:List Value) (ps:List (Nat×Nat×Od)):Option Out:=Xz t ps z fun l=>K (.agg ⟨l⟩) s
noncomputable def xBs (z:List Value) (len:Nat) (e:TypeId) (ps:List (Nat×Nat×Od)):Option Out :=
 oB (Nat.ble (len*z.length) 16777216) (Xz t ps (Kw z len) fun l=>s.rowK l e false (K (.slice (some ⟨s.c,0,none⟩) len len)))
noncomputable def xMf (f:FuncId) (a b:List Od):Option Out:=M9 t a fun a=>M9 t b fun b=>K (.func (.func f) ⟨a⟩ ⟨b⟩) s
noncomputable def xMx (mn:Bool) (x y:Od):Option Out :=
 t.K x fun x=>t.K y fun y=>vI x fun k a=>vI y fun k' b=>oB (ikE k k') (Bool.rec (motive:=fun _=>Option Out) (K (.int k a) s) (K (.int k b) s) (Bool.rec (motive:=fun _=>Bool) (ltZ a b) (ltZ b a) mn))
noncomputable def xLs (x:Od):Option Out:=t.K x fun x=>vSl x fun _ n _=>K (.int .i64 (.ofNat n)) s
noncomputable def xLm (x:Od):Option Out:=t.K x fun x =>
 match x with
 | .map none=>K (.int .i64 (.ofNat 0)) s
 | .map (some r)=>(match s.get r with
  | some (.map es _)=>s.rdK r fun s=>fN es.length fun n=>K (.int .i64 (.ofNat n)) s
  | _=>none)
 | _=>none
noncomputable def xAp (e:TypeId) (z by_:Nat) (x y:Od):Option Out:=t.K x fun x=>t.K y fun y=>A19 s e z by_ x y K
noncomputable def xCp (z:Nat) (x y:Od):Option Out:=t.K x fun x=>t.K y fun y =>
 match x,y with
 | .slice (some ⟨a,ao,none⟩) l _,.slice (some ⟨b,bo,none⟩) m _ =>
  fN (Nat.min m l) fun n=>fN (n*z) fun nz=>s.loadK b bo nz fun src=>s.rdsK (b+1+bo) nz fun s=>s.storeK a ao nz src fun s=>K (.int .i64 (.ofNat n)) s
 | .slice none 0 _,.slice _ _ _=>K (.int .i64 (.ofNat 0)) s
 | .slice (some _) _ _,.slice none 0 _=>K (.int .i64 (.ofNat 0)) s
 | _,_=>none
noncomputable def xPe (neg:Bool) (x y:Od):Option Out:=t.K x fun x=>t.K y fun y =>
 match x,y with
 | .pointer none,.pointer none=>fB (!neg) fun b=>K (.bool b) s
 | .pointer (some _),.pointer none=>fB neg fun b=>K (.bool b) s
 | .pointer none,.pointer (some _)=>fB neg fun b=>K (.bool b) s
 | .pointer (some ⟨a,ao,none⟩),.pointer (some ⟨b,bo,none⟩)=>(match s.get a,s.get b with
  | some (.hd _ _ _),some (.hd _ _ _)=>s.rdK a fun s=>s.rdK b fun s=>fB ((Nat.beq a b&&Nat.beq ao bo) != neg) fun b=>K (.bool b) s
  | _,_=>none)
 | _,_=>none
noncomputable def xNe (C:Value→Value→Option Bool) (neg:Bool) (x y:Od):Option Out:=t.K x fun x=>t.K y fun y=>oO (C x y) fun r=>fB (r != neg) fun b=>K (.bool b) s
noncomputable def xMk (z:List Value) (e:TypeId) (l c:Od):Option Out :=
 t.K l fun l=>t.K c fun c=>vI l fun _ l=>iN l fun l=>vI c fun _ c=>iN c fun c=>oB (Nat.ble l c&&Nat.ble c 100000) (s.rowK (Kw z c) e false (K (.slice (some ⟨s.c,0,none⟩) l c)))
noncomputable def xMm:Option Out:=s.nwK (.map [] 0) (K (.map (some s.c)))
noncomputable def lk1 (z:Value) (ok:Bool) (es:List MapEntry) (i:Option Nat) (s:S):Option Out :=
 match i with
 | some i=>oO es[i]? fun e=>K (bif ok then .tuple #[e.val,.bool true] else e.val) s
 | none=>K (bif ok then .tuple #[z,.bool false] else z) s
noncomputable def xLk (P:Program) (kt:TypeId) (z:Value) (m k:Od) (ok:Bool):Option Out:=t.K m fun m=>t.K k fun k =>
 oB (keyOk 2 k) (match m with
  | .map none=>oO (Mq P kt true k []) fun i=>lk1 K z ok [] i s
  | m=>(match Td s m with
   | some (r,es,_)=>oO (Mq P kt es.isEmpty k es) fun i=>s.rdK r (lk1 K z ok es i)
   | none=>none))
noncomputable def xWr (r:Nat) (es:List MapEntry) (ck:Nat) (v:Value):Option Out:=s.wrK r (some (.map es ck)) (K v)
noncomputable def xMu (P:Program) (kt:TypeId) (m k x:Od):Option Out:=t.K m fun m=>t.K k fun k=>t.K x fun x =>
 oB (keyOk 2 k) (match Td s m with
  | some (r,es,ck)=>oO (Mq P kt false k es) fun i=>(match i with
   | some i=>oO es[i]? fun e=>oB (Instr.sameBits 10000 e.key k) (xWr s K r (es.modify i fun e=>{ e with key:=k,val:=x }) ck undef)
   | none=>xWr s K r (es++[⟨k,x,ck⟩]) (ck+1) undef)
  | none=>none)
noncomputable def xMe (P:Program) (kt:TypeId) (z:Value) (m k:Od):Option Out:=t.K m fun m=>t.K k fun k =>
 oB (keyOk 2 k) (match Td s m with
  | some (r,es,ck)=>oO (Mq P kt false k es) fun i=>(match i with
   | some i=>oO es[i]? fun e=>oB (Instr.sameBits 10000 e.key k) (xWr s K r (es.modify i fun e=>{ e with key:=k }) ck (.tuple #[e.val,goInt e.born]))
   | none=>xWr s K r (es++[⟨k,z,ck⟩]) (ck+1) (.tuple #[z,goInt ck]))
  | none=>none)
noncomputable def xEs (m i x:Od):Option Out:=t.K m fun m=>t.K i fun i=>t.K x fun x =>
 match Td s m,i with
 | some (r,es,ck),.int _ b=>(match Md b es 0 with
  | some i=>xWr s K r (es.modify i fun e=>{ e with val:=x }) ck undef
  | none=>none)
 | _,_=>none
noncomputable def xDl (P:Program) (kt:TypeId) (m k:Od):Option Out:=t.K m fun m=>t.K k fun k =>
 oB (keyOk 2 k) (match Td s m with
  | some (r,es,ck)=>oO (Mq P kt es.isEmpty k es) fun i=>(match i with
   | some i=>xWr s K r (es.eraseIdx i) ck (.tuple #[])
   | none=>xWr s K r es ck (.tuple #[]))
  | none=>none)
noncomputable def sl2 (a:Nat) (o l c:Nat) (s:S):Option Out:=K (.slice (some ⟨a,o,none⟩) l c) s
noncomputable def sl1 (e z:Nat) (m h lo b o:Nat):Option Out :=
 match s.get b with
 | some (.hd _ e' _)=>oB (Nat.beq e' e) (fN (Bool.rec (motive:=fun _=>Nat) (o+lo*z) o (Nat.beq m lo)) fun o=>fN (h-lo) fun l=>fN (m-lo) fun c=>s.rdK b (sl2 K b o l c))
 | _=>none
noncomputable def xSl (e z:Nat) (x:Od) (lo hi mx:Option Od):Option Out :=
 t.K x fun x=>vSl x fun a l c=>oO (bnd (mx.map t.v) c c) fun m=>oO (bnd (hi.map t.v) l m) fun h=>oO (bnd (lo.map t.v) 0 h) fun lo=>oB (Nat.ble h m)
  (Option.rec (motive:=fun _=>Option Out) (K (.slice none 0 0) s) (fun a=>aPl a (sl1 s K e z m h lo)) a)
noncomputable def W9 (o:Option Out):Option Out:=oO o fun o=>Out.casesOn (motive:=fun _=>Option Out) o (fun _ _ _=>none) (fun _ _ _ _=>none) (fun _ _ _=>none) K
noncomputable def xCl (run:Rn) (f:FuncId) (args:List Od):Option Out:=M9 t args fun args=>W9 K (run (.call f args) s)
noncomputable def xCv (run:Rn) (f:Od) (args:List Od):Option Out:=t.K f fun f=>M9 t args fun args =>
 match f with
 | .func (.func g) a b=>W9 K (run (.call g (a.toList++(args++b.toList))) s)
 | .func (.yield l) _ _=>W9 K (run (.yld l args) s)
 | _=>none
noncomputable def xGn (P:Program) (o:Oper):Option Out :=
 match pureSem P (execOp (ev1 t) o) with
 | some (.value v)=>oB (gnd 6 v&&o.op.operands.toList.all fun x=>gnd 6 (ev1 t x)) (K v s)
 | _=>none
end
abbrev XF:=Rn→Fm→S→(Value→S→Option Out)→Option Out
def Kp (P:Program) (t:TypeId):Bool:=match P.underlying t with|some (.int _)=>true|_=>false
def zOk (i:TypeInfo):Bool:=(Nat.ble 1 i.size&&Nat.ble i.bytes 1000000000)&&(match i.zero with|some z=>Nat.beq z.cells.toList.length i.size|none=>false)
noncomputable def V6 (P:Program) (o:Oper) (op:BinOp) (C:Value→Value→Option Bool) (x y:Operand):XF :=
 match op with
 | .eql=>(fun run t' s K=>xNe t' s K C false (od x) (od y))
 | .neq=>(fun run t' s K=>xNe t' s K C true (od x) (od y))
 | _=>(fun run t' s K=>xGn t' s K P o)
noncomputable def Zz (P:Program) (o:Oper) (op:BinOp) (tp:TypeId) (x y:Operand):XF :=
 match P.underlying tp with
 | some (.int _)=>(match op with
  | .add=>(fun run t' s K=>xAd t' s K (od x) (od y))
  | .sub=>(fun run t' s K=>xSb t' s K (od x) (od y))
  | .mul=>(fun run t' s K=>xMl t' s K (od x) (od y))
  | .eql|.neq|.lss|.leq|.gtr|.geq=>(fun run t' s K=>xCm t' s K op (od x) (od y))
  | _=>(fun run t' s K=>xGn t' s K P o))
 | some (.pointer e)=>(match szT P e with
  | some (_+1)=>(match op with
   | .eql=>(fun run t' s K=>xPe t' s K false (od x) (od y))
   | .neq=>(fun run t' s K=>xPe t' s K true (od x) (od y))
   | _=>(fun run t' s K=>xGn t' s K P o))
  | _=>(fun run t' s K=>xGn t' s K P o))
 | some (.slice _)=>V6 P o op cmS x y
 | some (.map _ _)=>V6 P o op cmM x y
 | some (.func _ _ _)=>V6 P o op cmN x y
 | some (.interface _)=>bif isK x||isK y then V6 P o op cmI x y else (fun run t' s K=>xGn t' s K P o)
 | _=>(fun run t' s K=>xGn t' s K P o)
noncomputable def Me (P:Program) (o:Oper) (c:Call) (b:Builtin):Option XF :=
 match b,c.argTypes.toList,c.args.toList with
 | .append,[t1,t2],[x,y]=>(match P.underlying t1 with
  | some (.slice e)=>bif Nat.beq t1 t2 then (match P.info? e with
   | some i=>bif zOk i then some (fun run t' s K=>xAp t' s K e i.size i.bytes (od x) (od y)) else none
   | none=>none) else none
  | _=>none)
 | .append,_,_=>none
 | .copy,t1::_,[x,y]=>(match P.underlying t1 with
  | some (.slice e)=>(szT P e).map fun z=>(fun run t' s K=>xCp t' s K z (od x) (od y))
  | _=>none)
 | .copy,_,_=>none
 | .delete,t1::_,[x,y]=>(match P.underlying t1 with
  | some (.map kt _)=>some (fun run t' s K=>xDl t' s K P kt (od x) (od y))
  | _=>none)
 | .delete,_,_=>none
 | .len,t1::_,[x]=>(match P.underlying t1 with
  | some (.slice _)=>some (fun run t' s K=>xLs t' s K (od x))
  | some (.map _ _)=>some (fun run t' s K=>xLm t' s K (od x))
  | _=>some ((fun run t' s K=>xGn t' s K P o)))
 | .max,t1::_,[x,y]=>some (if Kp P t1 then (fun run t' s K=>xMx t' s K false (od x) (od y)) else (fun run t' s K=>xGn t' s K P o))
 | .min,t1::_,[x,y]=>some (if Kp P t1 then (fun run t' s K=>xMx t' s K true (od x) (od y)) else (fun run t' s K=>xGn t' s K P o))
 | .min,_,_=>some ((fun run t' s K=>xGn t' s K P o))
 | .max,_,_=>some ((fun run t' s K=>xGn t' s K P o))
 | _,_,_=>none
def Pr:Op→Bool
 | .unOp ..|.convert ..|.makeInterface ..|.index ..|.typeAssert ..=>true
 | _=>false
def okOd:Operand→Bool
 | .const v=>gnd 6 v
 | .global _=>false
 | _=>true
noncomputable def A1i (P:Program) (o:Oper):Option XF :=
 match o.op with
 | .move x=>some ((fun run t' s K=>xMv t' s K (od x)))
 | .assign x=>some ((fun run t' s K=>xMv t' s K (od x)))
 | .pick c a b=>some ((fun run t' s K=>xPk t' s K (od c) (od a) (od b)))
 | .load t a=>(match Lj P t with
  | some true=>(szT P t).map fun z=>(fun run t' s K=>xLd t' s K (od a) true z)
  | some false=>some (fun run t' s K=>xLd t' s K (od a) false 1)
  | none=>none)
 | .store t a x=>(szT P t).map fun z=>(fun run t' s K=>xSt t' s K (od a) (od x) z)
 | .alloc t=>(zrT P t).map fun z=>(fun run t' s K=>xAl s K z.cells.toList t)
 | .box t x=>some ((fun run t' s K=>xBx t' s K (od x) t))
 | .fieldAddr t x f=>(match P.underlying t with
  | some (.struct fs)=>(match fs[f]? with
   | some f=>(match szT P f.type with
    | some (_+1)=>some (fun run t' s K=>xFa t' s K (od x) f.offset)
    | _=>none)
   | none=>none)
  | _=>none)
 | .indexAddr t x i=>(match P.underlying t with
  | some (.slice e)=>(szT P e).map fun z=>(fun run t' s K=>xIa t' s K (od x) (od i) z)
  | some (.array n e)=>(szT P e).map fun z=>(fun run t' s K=>xAr t' s K (od x) (od i) n z)
  | _=>none)
 | .binOp op tp x y _=>some (Zz P o op tp x y)
 | .unOp .not _ x=>some ((fun run t' s K=>xNt t' s K (od x)))
 | .unOp .neg t x=>some (if Kp P t then (fun run t' s K=>xNg t' s K (od x)) else (fun run t' s K=>xGn t' s K P o))
 | .nilCheck x=>some ((fun run t' s K=>xNc t' s K (od x)))
 | .extract x i=>some ((fun run t' s K=>xEx t' s K (od x) i))
 | .field t x f=>(match P.underlying t with
  | some (.struct fs)=>(match fs[f]? with
   | some f=>(match Lj P f.type with
    | some true=>(szT P f.type).map fun z=>(fun run t' s K=>xFd t' s K (od x) true f.offset z)
    | some false=>some (fun run t' s K=>xFd t' s K (od x) false f.offset 1)
    | none=>none)
   | none=>none)
  | _=>none)
 | .build t ps=>bif (P.built t []).isSome then (zrT P t).bind fun z=>(G7 P t ps.toList).map fun l=>(fun run t' s K=>xBd t' s K z.cells.toList l) else none
 | .buildSlice t len ps=>(match P.underlying t with
  | some (.slice e)=>(szT P e).bind fun z=>(zrT P e).map fun v=>(fun run t' s K=>xBs t' s K v.cells.toList len e (Fs z ps.toList))
  | _=>none)
 | .makeFunc (.func f) a b=>some (fun run t' s K=>xMf t' s K f (a.toList.map od) (b.toList.map od))
 | .makeSlice t l c=>(match P.underlying t with
  | some (.slice e)=>bif (P.info? e).any fun i=>Nat.ble i.bytes 1000000000 then (zrT P e).map fun v=>(fun run t' s K=>xMk t' s K v.cells.toList e (od l) (od c)) else none
  | _=>none)
 | .makeMap _ none=>some (fun run t' s K=>xMm s K)
 | .lookup t m k ok=>(match P.underlying t with
  | some (.map kt e)=>(zrT P e).map fun z=>(fun run t' s K=>xLk t' s K P kt z (od m) (od k) ok)
  | _=>none)
 | .mapUpdate t m k x=>(match P.underlying t with
  | some (.map kt _)=>some (fun run t' s K=>xMu t' s K P kt (od m) (od k) (od x))
  | _=>none)
 | .insert t m k x=>(match P.underlying t with
  | some (.map kt _)=>some (fun run t' s K=>xMu t' s K P kt (od m) (od k) (od x))
  | _=>none)
 | .mapEntry t m k=>(match P.underlying t with
  | some (.map kt e)=>(zrT P e).map fun z=>(fun run t' s K=>xMe t' s K P kt z (od m) (od k))
  | _=>none)
 | .entryStore _ m i x=>some ((fun run t' s K=>xEs t' s K (od m) (od i) (od x)))
 | .slice t x lo hi mx=>(match P.underlying t with
  | some (.slice e)=>bif (mx.isNone||hi.isSome) then (szT P e).map fun z=>(fun run t' s K=>xSl t' s K e z (od x) (lo.map od) (hi.map od) (mx.map od)) else none
  | some .string=>some ((fun run t' s K=>xGn t' s K P o))
  | _=>none)
 | .call c=>(match c.callee with
  | .builtin b=>Me P o c b
  | .value (.func f)=>some ((fun run t' s K=>xCl t' s K run f (c.args.toList.map od)))
  | .value f=>some ((fun run t' s K=>xCv t' s K run (od f) (c.args.toList.map od)))
  | .invoke _ _=>none)
 | op=>bif Pr op then some ((fun run t' s K=>xGn t' s K P o)) else none
def Bk (N:Nat):Code→Bool
 | .region _ ops draw=>Al ops N&&(!draw||(Cf ops&&F9 ops ops.size))
 | .seq a b=>Bk N a&&Bk N b
 | .cond c a b=>okOd c&&(Bk N a&&Bk N b)
 | .block _ b=>Bk N b
 | .loop b=>Bk N b
 | .rangeFunc f ps a b=>okOd f&&(ps.toList.all (fun p=>Nat.blt p N)&&(Bk N a&&Bk N b))
 | _=>true
def Yp (P:Program) (f:FuncId):Bool :=
 match P.funcs.toList[f]? with
 | some fn=>!(fn.name == "runtime.NumGoroutine")&&(match fn.body with
  | some c=>Bk fn.ntmps c
  | none=>false)
 | none=>false
def L7 (P:Program) (okm:Nat):Bool:=(List.range P.funcs.toList.length).all fun f=>!okm.testBit f||Yp P f
noncomputable def cop (P:Program) (o:Oper):Option XF:=bif o.op.operands.toList.all okOd then A1i P o else none
noncomputable def yv (ops:Array Oper) (t:Fm) (j:Nat):Option Bool :=
 oO (ops.toList[j]?) fun o=>oO o.dst fun d=>oO (t.g (pn d)) fun v=>vB v some
noncomputable def V0 (ops:Array Oper) (o:Oper) (t:Fm):Bool :=
 Option.rec (motive:=fun _=>Bool) true (fun g=>Option.rec (motive:=fun _=>Bool) false (fun b=>Bool.rec (motive:=fun _=>Bool) (!b) b g.2) (yv ops t g.1)) o.guard
noncomputable def apF (run:Rn) (t:Fm) (s:S) (K:Value→S→Option Out) (F:XF):Option Out:=F run t s K
noncomputable def Rf (P:Program) (run:Rn) (ops:Array Oper) (t:Fm) (o:Oper) (s:S) (K:Value→S→Option Out):Option Out :=
 Bool.rec (motive:=fun _=>Option Out) (K undef s) (oO (cop P o) (apF run t s K)) (V0 ops o t)
noncomputable def pu (t:Fm) (v:Value) (K:Fm→Option Out) (d:Tmp):Option Out:=sK (pn d) (some v) t K
noncomputable def Fm.putK (t:Fm) (d:Option Tmp) (v:Value) (K:Fm→Option Out):Option Out:=Option.rec (motive:=fun _=>Option Out) (K t) (pu t v K) d
noncomputable def ko2 (r:Fm→S→Option Out) (s:S) (t:Fm):Option Out:=r t s
noncomputable def ko1 (r:Fm→S→Option Out) (t:Fm) (d:Option Tmp) (v:Value) (s:S):Option Out:=t.putK d v (ko2 r s)
noncomputable def ko0 (P:Program) (run:Rn) (ops:Array Oper) (o:Oper) (r:Fm→S→Option Out) (t:Fm) (s:S):Option Out:=Rf P run ops t o s (ko1 r t o.dst)
noncomputable def koN (ms:List Nat) (t:Fm) (s:S):Option Out:=some (.norm t ms s)
noncomputable def Rh (P:Program) (run:Rn) (ops:Array Oper) (ms:List Nat) (l:List Oper):Fm→S→Option Out :=
 List.rec (motive:=fun _=>Fm→S→Option Out) (koN ms) (fun o _ r=>ko0 P run ops o r) l
structure Tk where
 i:Nat
 c0:Nat
 c1:Nat
 T:Nat
 W:Nat
def Tk.new (k:Tk):Nat:=bits k.c0 (k.c1-k.c0)
def Rd (ms:List Nat) (a b:Tk):Bool :=
 !((ms.getD b.i 0).testBit a.i)&&!(Nat.beq ((a.W ||| a.new) &&& b.T) 0&&Nat.beq (b.W &&& a.T) 0)
def Jq (ms:List Nat) (b:Tk):List Tk→Bool
 | []=>true
 | a::l=>!Rd ms a b&&Jq ms b l
structure Tks where
 l:List Tk
 T:Nat
 W:Nat
section
variable (s s':S) (i:Nat) (ks:Tks) (K:Tks→S→Option Out)
noncomputable def ds4 (T W kT kW:Nat):Option Out:=K ⟨⟨i,s.c,s'.c,s'.T,s'.W⟩::ks.l,kT,kW⟩ ⟨s'.h,s'.c,T,W,s.m⟩
noncomputable def ds3 (T W kT:Nat):Option Out:=fN (ks.W ||| (s'.W ||| bits s.c (s'.c-s.c))) (ds4 s s' i ks K T W kT)
noncomputable def ds2 (T W:Nat):Option Out:=fN (ks.T ||| s'.T) (ds3 s s' i ks K T W)
noncomputable def ds1 (T:Nat):Option Out:=fN (s.W ||| s'.W) (ds2 s s' i ks K T)
noncomputable def ds0:Option Out:=fN (s.T ||| s'.T) (ds1 s s' i ks K)
noncomputable def dn1 (kW:Nat):Option Out:=K ⟨⟨i,s.c,s'.c,0,0⟩::ks.l,ks.T,kW⟩ ⟨s'.h,s'.c,s.T,s.W,s.m⟩
noncomputable def dn0:Option Out:=Bool.rec (motive:=fun _=>Option Out) (fN (ks.W ||| bits s.c (s'.c-s.c)) (dn1 s s' i ks K)) (K ks s) (Nat.beq s.c s'.c)
noncomputable def U8 (ops:Array Oper):Option Out :=
 Bool.rec (motive:=fun _=>Option Out) (oB ((Nat.beq (ks.W &&& s'.T) 0&&Nat.beq (s'.W &&& ks.T) 0)||Jq (Ht ops.toList []) ⟨i,s.c,s'.c,s'.T,s'.W⟩ ks.l) (ds0 s s' i ks K)) (dn0 s s' i ks K) (Nat.beq s'.T 0&&Nat.beq s'.W 0)
end
noncomputable def kd4 (r:Nat→Tks→Fm→S→Option Out) (ks:Tks) (t:Fm) (s:S) (i:Nat):Option Out:=r i ks t s
noncomputable def kd3 (r:Nat→Tks→Fm→S→Option Out) (i:Nat) (ks:Tks) (s:S) (t:Fm):Option Out:=fN (i+1) (kd4 r ks t s)
noncomputable def kd2 (r:Nat→Tks→Fm→S→Option Out) (i:Nat) (t:Fm) (d:Option Tmp) (v:Value) (ks:Tks) (s:S):Option Out:=t.putK d v (kd3 r i ks s)
noncomputable def kd1 (ops:Array Oper) (r:Nat→Tks→Fm→S→Option Out) (i:Nat) (ks:Tks) (t:Fm) (d:Option Tmp) (s:S) (v:Value) (s':S):Option Out:=U8 s s' i ks (kd2 r i t d v) ops
noncomputable def kd0 (P:Program) (run:Rn) (ops:Array Oper) (o:Oper) (r:Nat→Tks→Fm→S→Option Out) (i:Nat) (ks:Tks) (t:Fm) (s:S):Option Out:=Rf P run ops t o ⟨s.h,s.c,0,0,true⟩ (kd1 ops r i ks t o.dst s)
noncomputable def kdN (ms:List Nat) (_:Nat) (_:Tks) (t:Fm) (s:S):Option Out:=some (.norm t ms s)
noncomputable def H9 (P:Program) (run:Rn) (ops:Array Oper) (ms:List Nat) (l:List Oper):Nat→Tks→Fm→S→Option Out :=
 List.rec (motive:=fun _=>Nat→Tks→Fm→S→Option Out) (kdN ms) (fun o _ r=>kd0 P run ops o r) l
noncomputable def Nd (P:Program) (t:Fm) (l:List ResultVar) (s:S) (K:List Value→S→Option Out):Option Out :=
 List.rec (motive:=fun _=>S→(List Value→S→Option Out)→Option Out) (fun s K=>K [] s)
  (fun x _ r s K=>ResultVar.casesOn (motive:=fun _=>Option Out) x (fun i=>t.K (.t (pn i)) fun v=>r s fun l=>K (v::l))
   (fun a ty=>t.K (.t (pn a)) fun a=>vP a fun n off=>oO (Lj P ty) fun g=>oO (Bool.rec (motive:=fun _=>Option Nat) (some 1) (szT P ty) g) fun z=>s.loadK n off z fun v=>s.rdsK (n+1+off) z fun s =>
    Bool.rec (motive:=fun _=>Option Out) (List.rec (motive:=fun _=>Option Out) none (fun v _ _=>r s fun l=>K (v::l)) v) (r s fun l=>K (.agg ⟨v⟩::l)) g)) l s K
noncomputable def Ul (l:List Value) (K:Fm→Option Out):Option Out :=
 List.rec (motive:=fun _=>Nat→Fm→Option Out) (fun _ t=>K t) (fun v _ r i t=>fN (i+1) fun i1=>sK (pn i) (some v) t (r i1)) l 0 .e
noncomputable def Pj (P:Program) (fn:Func) (t:Fm) (ms:List Nat) (K:Value→S→Option Out):S→Option Out :=
 List.rec (motive:=fun _=>S→Option Out) (fun s=>Nd P t fn.results.toList s fun vs s=>K (match vs with|[v]=>v|vs=>.tuple ⟨vs⟩) s)
  (fun d _ r s=>match s.get d with
   | some (.dfr true)=>s.wrK d (some (.dfr false)) r
   | _=>none) ms
noncomputable def Nj:List Tmp→List Value→Fm→Option Fm
 | [],[],t=>some t
 | p::ps,v::vs,t=>Nj ps vs (Tr.s (pn p) (some v) t)
 | _,_,_=>none
noncomputable def Va (l:Nat) (jump:Option Code) (s:S):Option Out :=
 match s.get l with
 | some (.loop _ _ t ps asg body)=>s.wrK l (some (.loop (if jump.isNone then .ready else .done) jump t ps asg body)) fun s=>fB jump.isNone fun b=>some (.val (.bool b) s)
 | _=>none
noncomputable def sh4 (s:S) (v:Value) (s1:S) (T:Nat):Option Out:=some (.val v ⟨s.h,s1.c,T,s.W,s.m⟩)
noncomputable def sh3 (s:S) (v:Value) (T:Nat):Option Out:=some (.val v ⟨s.h,s.c,T,s.W,s.m⟩)
noncomputable def sh2 (s:S) (args:List Value) (v:Value) (s1:S) (T1:Nat):Option Out :=
 Bool.rec (motive:=fun _=>Option Out) (fN (s.T ||| T1) (sh3 s v)) (Bool.rec (motive:=fun _=>Option Out) (fN (s.T ||| T1) (sh4 s v s1)) (some (.val v s)) (Nat.beq T1 0&&args.all (gnd 6))) s.m
noncomputable def sh1 (s:S) (v:Value) (s1:S) (T W:Nat):Option Out:=some (.val v ⟨s1.h,s1.c,T,W,s.m⟩)
noncomputable def sh0 (s:S) (v:Value) (s1:S) (T:Nat):Option Out:=fN (s.W ||| s1.W) (sh1 s v s1 T)
noncomputable def Y6 (s:S) (args:List Value) (v:Value) (s1:S):Option Out :=
 Bool.rec (motive:=fun _=>Option Out) (fN (s.T ||| s1.T) (sh0 s v s1)) (fN (s1.T%2 ^ s.c) (sh2 s args v s1)) (Nat.beq (s1.W%2 ^ s.c) 0&&gnd 6 v)
section
variable (P:Program) (run:Rn) (s:S)
noncomputable def W0 (o:Option Out) (n:Fm→List Nat→S→Option Out) (e:Nat→Fm→List Nat→S→Option Out) (r:Fm→List Nat→S→Option Out):Option Out :=
 oO o fun o=>Out.casesOn (motive:=fun _=>Option Out) o n e r (fun _ _=>none)
noncomputable def jFn (fn:Func) (args:List Value):Option Out :=
 oB (Nat.ble args.length fn.ntmps) (oO fn.body fun c=>Ul args fun t=>W0 (run (.code c t [] none) ⟨s.h,s.c,0,0,s.m⟩) (fun t ms s1=>Pj P fn t ms (Y6 s args) s1) (fun _ _ _ _=>none) (fun t ms s1=>Pj P fn t ms (Y6 s args) s1))
noncomputable def jPl (v:Value):Option Out:=oB (gnd 6 v) (some (.val v s))
noncomputable def jRo (e:TypeId) (cs:List Value) (l:Nat) (x:Value):Option Out:=oB (gnd 6 x&&cs.all (gnd 6)) (s.rowK cs e true fun s1=>some (.val (.tuple #[.slice (some ⟨s.c,0,none⟩) l l,x]) s1))
noncomputable def A22 (tv:Tv):Option Out:=Tv.rec (motive:=fun _=>Option Out) (jPl s) (jRo s) tv
noncomputable def jDo (okm:Nat) (f:FuncId) (args:List Value):Option Out:=oB (okm.testBit f) (oO (P.funcs.toList[f]?) fun fn=>jFn P run s fn args)
noncomputable def Rr (okm:Nat) (tbl:FuncId→List Value→Option Tv) (f:FuncId) (args:List Value):Option Out :=
 Option.rec (motive:=fun _=>Option Out) (jDo P run s okm f args) (A22 s) (tbl f args)
noncomputable def Zm (l:Nat) (body:Code) (t2:Fm) (ms:List Nat):Option Out :=
 match s.get l with
 | some (.loop .ready pe t ps asg body')=>s.wrK l (some (.loop .busy pe t ps asg body')) fun s=>W0 (run (.code body t2 ms (some l)) s) (fun _ _ s=>Va l none s) (fun id _ _ s=>Va l (some (.exit id)) s) (fun _ _ s=>Va l (some .ret) s)
 | _=>none
noncomputable def Yv (l:Nat) (args:List Value):Option Out :=
 match s.get l with
 | some (.loop .ready pe t ps asg body)=>oO (Nj ps args t) fun t1=>s.rdK l fun s=>W0 (run (.code asg t1 [] (some l)) s) (fun t2 ms s=>Zm run s l body t2 ms) (fun _ _ _ _=>none) (fun _ _ _=>none)
 | _=>none
noncomputable def Tf (n:Nat) (t:Fm) (ms:List Nat) (s3:S):Option Out :=
 match s3.get (n+1) with
 | some (.loop .busy _ _ _ _ _)=>none
 | some (.loop _ pe t' ps asg body)=>s3.wrK (n+1) (some (.loop .exhausted pe t' ps asg body)) fun s=>Option.rec (motive:=fun _=>Option Out) (some (.norm t (n::ms) s)) (fun c=>match c with|.ret=>some (.ret t (n::ms) s)|.exit id=>some (.exit id t (n::ms) s)|_=>none) pe
 | _=>none
noncomputable def Qe (t:Fm) (ms:List Nat) (r:Option Nat) (f:Operand) (ps:Array Tmp) (asg body:Code):Option Out :=
 Option.casesOn r (match t.v (od f) with
  | .func (.func g) first cap=>s.nwK (.dfr true) fun s1=>s1.nwK (.loop .ready none t ps.toList asg body) fun s2=>W9 (fun _ s3=>Tf s.c t ms s3) (run (.call g (first.toList++(.func (.yield s1.c) #[] #[]::cap.toList))) s2)
  | _=>none) (fun _=>none)
variable (t:Fm) (ms:List Nat) (r:Option Nat)
noncomputable def Vl (a b:Code):Option Out:=W0 (run (.code a t ms r) s) (fun t ms s=>run (.code b t ms r) s) (fun id t ms s=>some (.exit id t ms s)) (fun t ms s=>some (.ret t ms s))
noncomputable def A1m (c:Operand) (a b:Code):Option Out:=t.K (od c) fun c=>vB c fun c=>Bool.casesOn c (run (.code b t ms r) s) (run (.code a t ms r) s)
noncomputable def Tg (id:Nat) (b:Code):Option Out:=W0 (run (.code b t ms r) s) (fun t ms s=>some (.norm t ms s)) (fun id' t ms s=>Bool.casesOn (Nat.beq id' id) (some (.exit id' t ms s)) (some (.norm t ms s))) (fun t ms s=>some (.ret t ms s))
noncomputable def Qf (ops:Array Oper) (draw:Bool):Option Out:=Bool.casesOn draw (Rh P run ops ms ops.toList t s) (H9 P run ops ms ops.toList 0 ⟨[],0,0⟩ t s)
noncomputable def Xd (c:Code):Option Out :=
 Code.casesOn (motive:=fun _=>Option Out) c (some (.norm t ms s)) (fun _ ops draw=>Qf P run s t ms ops draw) (Vl run s t ms r) (A1m run s t ms r) (Tg run s t ms r)
  (fun b=>Vl run s t ms r b (.loop b)) (fun f ps asg body=>Qe run s t ms r f ps asg body) (fun id=>some (.exit id t ms s)) (fun _=>none) (fun _=>none) (fun _=>none) (some (.ret t ms s)) (fun _=>none)
end
noncomputable def evS (P:Program) (okm:Nat) (tbl:FuncId→List Value→Option Tv) (run:Rn) (j:Job) (s:S):Option Out :=
 Job.casesOn (motive:=fun _=>Option Out) j (Rr P run s okm tbl) (Yv run s) (fun c t ms r=>Xd P run s t ms r c)
noncomputable def ev (P:Program) (okm:Nat) (tbl:FuncId→List Value→Option Tv) (n:Nat):Rn:=Nat.rec (motive:=fun _=>Rn) (fun _ _=>none) (fun _=>evS P okm tbl) n
def start:S:=⟨.e,0,0,0,false⟩
noncomputable def okr (P:Program) (o:Option Out):Option (TypeId×List Value×Nat×Value) :=
 match o with
 | some (.val (.tuple ⟨[.slice (some ⟨n,off,none⟩) l c,x]⟩) s) =>
  (match s.get n with
  | some (.hd k e _)=>(match szT P e with
   | some z=>(match s.load n off (l*z) with
    | some cs=>bif (Nat.blt 0 l&&Nat.ble l c)&&(Nat.ble (off+c*z) k&&(gnd 6 x&&cs.all (gnd 6))) then some (e,cs,l,x) else none
    | none=>none)
   | none=>none)
  | _=>none)
 | _=>none
def okv (o:Option Out):Option Value:=match o with|some (.val v _)=>some v|_=>none
end Go.Ev
namespace Go.Ev
open Go Go.Eng
set_option linter.unusedVariables false
section
variable {α β:Type}
theorem B9 (n:Nat) (K:Nat→β):fN n K=K n:=by cases n<;>rfl
theorem Mn (b:Bool) (K:Bool→β):fB b K=K b:=by cases b<;>rfl
theorem Zh (i:Int) (K:Int→β):fZ i K=K i:=by
 cases i with
 | ofNat n=>show fN n (zP K)=_;rw [B9];rfl
 | negSucc n=>show fN n (zM K)=_;rw [B9];rfl
theorem H0 (x:Option α):∀(p:Pos) (t:Tr α) (K:Tr α→β),sK p x t K=K (Tr.s p x t)
 | .h,.e,K=>rfl
 | .h,.n _ _ _,K=>rfl
 | .o p,.e,K=>by show sK p x .e (nL none .e K)=_;rw [H0 x p];rfl
 | .o p,.n v l r,K=>by show sK p x l (nL v r K)=_;rw [H0 x p];rfl
 | .i p,.e,K=>by show sK p x .e (nR none .e K)=_;rw [H0 x p];rfl
 | .i p,.n v l r,K=>by show sK p x r (nR v l K)=_;rw [H0 x p];rfl
theorem Ud (n:β) (k:α→β):∀(p:Pos) (t:Tr α),gK n k p t=Option.rec (motive:=fun _=>β) n k (t.g p)
 | .h,.e=>rfl
 | .h,.n _ _ _=>rfl
 | .o p,.e=>rfl
 | .o p,.n v l r=>Ud n k p l
 | .i p,.e=>rfl
 | .i p,.n v l r=>Ud n k p r
theorem Au {o:Option β} {k:β→Option α} {r:α} (h:oO o k=some r):∃b,o=some b∧k b=some r:=by
 cases o with
 | none=>cases h
 | some b=>exact ⟨b,rfl,h⟩
theorem Bc {b:Bool} {k:Option α} {r:α} (h:oB b k=some r):b=true∧k=some r:=by
 cases b with
 | false=>cases h
 | true=>exact ⟨rfl,h⟩
end
section
variable {β:Type} (s:S)
theorem Fh (n:Nat) (o:Option AObj) (K:S→β):s.wrK n o K=K (s.wr n o):=by
 unfold S.wrK;rw [H0];unfold wr1;rw [B9];unfold wr2;rw [B9];rfl
theorem Kv (n:Nat) (K:S→β):s.rdK n K=K (s.rd n):=by unfold S.rdK;rw [B9];rfl
theorem Jx (n k:Nat) (K:S→β):s.rdsK n k K=K (s.rds n k):=by unfold S.rdsK;rw [B9];rfl
theorem Tp (o:AObj) (K:S→β):s.nwK o K=K (s.nw o):=by unfold S.nwK;rw [H0];unfold nw1;rw [B9];rfl
theorem Kx (own:Nat) (K:Tr AObj→β):∀(l:List Value) (n:Nat) (h:Tr AObj),Nh own l n h K=K (Ey own l n h)
 | [],n,h=>rfl
 | v::l,n,h=>by
  show sc0 own v (fun n h=>Nh own l n h K) n h=_;unfold sc0 sc1;rw [B9,H0];exact Kx own K l (n+1) _
theorem Mf (K:Tr AObj→β):∀(k n:Nat) (h:Tr AObj),Ls k n h K=K (Hw k n h)
 | 0,n,h=>rfl
 | k+1,n,h=>by
  show dc0 (fun n h=>Ls k n h K) n h=_;unfold dc0 dc1;rw [B9,H0];exact Mf K k (n+1) _
theorem Fa (vs:List Value) (e:TypeId) (g:Bool) (K:S→β):s.rowK vs e g K=K (s.row vs e g):=by
 unfold S.rowK;rw [B9];unfold ro1;rw [H0];unfold ro2;rw [B9];unfold ro3;rw [Kx];unfold ro4;rw [B9];rfl
theorem Kn (h:Tr AObj) (own:Nat):∀(k n:Nat) (K:List Value→Option β),Hy h own k n K=oO (Jn h own k n) K
 | 0,n,K=>rfl
 | k+1,n,K=>by
  show gK none (ck0 own (gc1 (fun n K=>Hy h own k n K) n K)) (pn n) h=_;rw [Ud];unfold Jn
  cases h.g (pn n) with
  | none=>rfl
  | some a =>
   cases a with
   | cell o v =>
    show oB (Nat.beq o own) (gc1 (fun n K=>Hy h own k n K) n K v)=_
    cases hb:Nat.beq o own with
    | false=>simp only [hb,oB,cond_false];rfl
    | true =>
     simp only [hb,cond_true];show fN (n+1) (gc2 (fun n K=>Hy h own k n K) K v)=_;rw [B9];show Hy h own k (n+1) (gc3 K v)=_;rw [Kn h own k]
     cases Jn h own k (n+1) with
     | none=>rfl
     | some l=>rfl
   | hd=>rfl
   | map=>rfl
   | loop=>rfl
   | dfr=>rfl
theorem Gt (n off k:Nat) (K:List Value→Option β):s.loadK n off k K=oO (s.load n off k) K:=by
 unfold S.loadK;rw [B9];unfold lo1;rw [Kn];rfl
theorem L1 (n off k:Nat) (vs:List Value) (K:S→Option β):s.storeK n off k vs K=oO (s.store n off k vs) K:=by
 unfold S.storeK;rw [B9];unfold so1;rw [Kn];unfold S.store S.load
 cases Jn s.h n k (n+1+off) with
 | none=>rfl
 | some l =>
  show oB (Nat.beq vs.length k&&vs.all Value.oneCell') _=_
  cases hb:(Nat.beq vs.length k&&vs.all Value.oneCell') with
  | false=>simp only [cond_false];rfl
  | true =>
   simp only [cond_true];show Nh n vs (n+1+off) s.h (wr1 s (bits (n+1+off) k) K)=_;rw [Kx];unfold wr1;rw [B9];unfold wr2;rw [B9];rfl
end
section
variable {α:Type} {v:Value} {r:α}
theorem Aj (t:Fm) (x:Od) (k:Value→Option α):t.K x k=k (t.v x):=by
 cases x with
 | t p =>
  show gK (k undef) k p t=_;rw [Ud];unfold Fm.v;show _=k (Option.casesOn (t.g p) undef fun v=>v)
  cases t.g p<;>rfl
 | k v=>rfl
theorem Er {k:IntKind→Int→Option α} (h:vI v k=some r):∃i n,v=.int i n∧k i n=some r:=by
 cases v with
 | int i n=>exact ⟨i,n,rfl,h⟩
 | _=>cases h
theorem Qy {k:Bool→Option α} (h:vB v k=some r):∃b,v=.bool b∧k b=some r:=by
 cases v with
 | bool b=>exact ⟨b,rfl,h⟩
 | _=>cases h
theorem Yc {k:Option Addr→Option α} (h:vPo v k=some r):∃a,v=.pointer a∧k a=some r:=by
 cases v with
 | pointer a=>exact ⟨a,rfl,h⟩
 | _=>cases h
theorem H4 {k:Option Addr→Nat→Nat→Option α} (h:vSl v k=some r):∃a l c,v=.slice a l c∧k a l c=some r:=by
 cases v with
 | slice a l c=>exact ⟨a,l,c,rfl,h⟩
 | _=>cases h
theorem J9 {a:Addr} {k:Nat→Nat→Option α} (h:aPl a k=some r):∃m o,a=⟨m,o,none⟩∧k m o=some r:=by
 obtain ⟨m,o,sp⟩:=a
 cases sp with
 | none=>exact ⟨m,o,rfl,h⟩
 | some _=>cases h
theorem R5 {a:Option Addr} {k:Nat→Nat→Option α} (h:aPo k a=some r):∃m o,a=some ⟨m,o,none⟩∧k m o=some r:=by
 obtain ⟨a',rfl,h⟩:=Au h;obtain ⟨m,o,rfl,h⟩:=J9 h;exact ⟨m,o,rfl,h⟩
theorem K4 {k:Nat→Nat→Option α} (h:vP v k=some r):∃m o,v=.pointer (some ⟨m,o,none⟩)∧k m o=some r:=by
 obtain ⟨a,rfl,h⟩:=Yc h;obtain ⟨m,o,rfl,h⟩:=R5 h;exact ⟨m,o,rfl,h⟩
theorem Lv {i:Int} {k:Nat→Option α} (h:iN i k=some r):∃n:Nat,i=n∧k n=some r:=by
 cases i with
 | ofNat n=>exact ⟨n,rfl,h⟩
 | negSucc n=>cases h
end
theorem Te {a b:IntKind} (h:ikE a b=true):a=b:=by cases a<;>cases b<;>first|rfl|(exact absurd h (by decide))
theorem Xb (r:Int):A0c r=true↔-9223372036854775808≤r∧r≤9223372036854775807:=by
 cases r with
 | ofNat n =>
  show Nat.ble n 9223372036854775807=true↔_;rw [Nat.ble_eq];constructor
  ·intro h;exact ⟨by have:=Int.natCast_nonneg n;simp only [Int.ofNat_eq_natCast];omega,by simp only [Int.ofNat_eq_natCast];omega⟩
  ·intro h;simp only [Int.ofNat_eq_natCast] at h;omega
 | negSucc n =>
  show Nat.ble n 9223372036854775807=true↔_;rw [Nat.ble_eq,Int.negSucc_eq];omega
theorem Tm (a b:Int):ltZ a b=decide (a<b):=by
 cases a with
 | ofNat a=>cases b with
  | ofNat b =>
   show Nat.blt a b=_;rw [Bool.eq_iff_iff,Nat.blt_eq,decide_eq_true_iff];simp only [Int.ofNat_eq_natCast];omega
  | negSucc b =>
   show false=_
   symm;rw [decide_eq_false_iff_not];simp only [Int.ofNat_eq_natCast,Int.negSucc_eq];omega
 | negSucc a=>cases b with
  | ofNat b =>
   show true=_
   symm;rw [decide_eq_true_iff];simp only [Int.ofNat_eq_natCast,Int.negSucc_eq];omega
  | negSucc b =>
   show Nat.blt b a=_;rw [Bool.eq_iff_iff,Nat.blt_eq,decide_eq_true_iff];simp only [Int.negSucc_eq];omega
theorem A0a (a b:Int):eqZ a b=(a==b):=by
 rw [Bool.eq_iff_iff];simp only [beq_iff_eq]
 cases a with
 | ofNat a=>cases b with
  | ofNat b =>
   show Nat.beq a b=true↔_;rw [Nat.beq_eq];simp only [Int.ofNat_eq_natCast];omega
  | negSucc b =>
   show false=true↔_;simp only [Int.ofNat_eq_natCast,Int.negSucc_eq];constructor
   ·intro h;cases h
   ·intro h;omega
 | negSucc a=>cases b with
  | ofNat b =>
   show false=true↔_;simp only [Int.ofNat_eq_natCast,Int.negSucc_eq];constructor
   ·intro h;cases h
   ·intro h;omega
  | negSucc b =>
   show Nat.beq a b=true↔_;rw [Nat.beq_eq];simp only [Int.negSucc_eq];omega
end Go.Ev
namespace Go.Ev
open Go Go.Eng
set_option linter.unusedVariables false
structure Cx where
 ρ:Nat→Option Addr
 z:Nat→Option (Nat×Nat)
 k:Nat→Nat
def Cx.le (x y:Cx):Prop:=(∀n a,x.ρ n=some a→y.ρ n=some a∧y.k n=x.k n)∧(∀n e,x.z n=some e→y.z n=some e)
theorem Cx.le_refl (x:Cx):x.le x:=⟨fun _ _ h=>⟨h,rfl⟩,fun _ _ h=>h⟩
theorem Cx.le_trans {x y z:Cx} (h:x.le y) (k:y.le z):x.le z:=⟨fun n a q=>⟨(k.1 n a (h.1 n a q).1).1,(k.1 n a (h.1 n a q).1).2.trans (h.1 n a q).2⟩,fun n a q=>k.2 n a (h.2 n a q)⟩
mutual
inductive VR (x:Cx):Value→Value→Prop
 | bool (b:Bool):VR x (.bool b) (.bool b)
 | int (k:IntKind) (n:Int):VR x (.int k n) (.int k n)
 | string (s:ByteArray):VR x (.string s) (.string s)
 | nilFunc:VR x .nilFunc .nilFunc
 | nilIface:VR x .nilIface .nilIface
 | pnil:VR x (.pointer none) (.pointer none)
 | ptr {n off b o:Nat} (h:x.ρ n=some ⟨b,o,none⟩):VR x (.pointer (some ⟨n,off,none⟩)) (.pointer (some ⟨b,o+off,none⟩))
 | snil:VR x (.slice none 0 0) (.slice none 0 0)
 | sl {n off b o o' l c c':Nat} (h:x.ρ n=some ⟨b,o,none⟩) (ho:o'=o+off∨(l=0∧c=0)) (hc:c'=c∨∃sz e,x.z n=some (sz,e)∧c≤c'∧o'+c'*sz=e) :
   VR x (.slice (some ⟨n,off,none⟩) l c) (.slice (some ⟨b,o',none⟩) l c')
 | mnil:VR x (.map none) (.map none)
 | map {n b:Nat} (h:x.ρ n=some ⟨b,0,none⟩):VR x (.map (some n)) (.map (some b))
 | func {f:Fn} {p p' q q':Array Value} (hf:∀l,f≠.yield l) (h:VRL x p.toList p'.toList) (h':VRL x q.toList q'.toList):VR x (.func f p q) (.func f p' q')
 | yld {n b:Nat} (h:x.ρ n=some ⟨b,0,none⟩):VR x (.func (.yield n) #[] #[]) (.func (.yield b) #[] #[])
 | iface {t:TypeId} {v v':Value} (h:VR x v v'):VR x (.iface t v) (.iface t v')
 | agg {p p':Array Value} (h:VRL x p.toList p'.toList):VR x (.agg p) (.agg p')
 | tuple {p p':Array Value} (h:VRL x p.toList p'.toList):VR x (.tuple p) (.tuple p')
inductive VRL (x:Cx):List Value→List Value→Prop
 | nil:VRL x [] []
 | cons {v v':Value} {l l':List Value} (h:VR x v v') (t:VRL x l l'):VRL x (v::l) (v'::l')
end
section
variable {x y:Cx}
mutual
theorem VR.mono (hx:x.le y):∀{v v':Value},VR x v v'→VR y v v'
 | _,_,.bool b=>.bool b
 | _,_,.int k n=>.int k n
 | _,_,.string s=>.string s
 | _,_,.nilFunc=>.nilFunc
 | _,_,.nilIface=>.nilIface
 | _,_,.pnil=>.pnil
 | _,_,.ptr h=>.ptr (hx.1 _ _ h).1
 | _,_,.snil=>.snil
 | _,_,.sl h ho hc=>.sl (hx.1 _ _ h).1 ho (hc.imp id fun ⟨sz,e,h1,h2⟩=>⟨sz,e,hx.2 _ _ h1,h2⟩)
 | _,_,.mnil=>.mnil
 | _,_,.map h=>.map (hx.1 _ _ h).1
 | _,_,.func hf h h'=>.func hf (VRL.mono hx h) (VRL.mono hx h')
 | _,_,.yld h=>.yld (hx.1 _ _ h).1
 | _,_,.iface h=>.iface (VR.mono hx h)
 | _,_,.agg h=>.agg (VRL.mono hx h)
 | _,_,.tuple h=>.tuple (VRL.mono hx h)
theorem VRL.mono (hx:x.le y):∀{l l':List Value},VRL x l l'→VRL y l l'
 | _,_,.nil=>.nil
 | _,_,.cons h t=>.cons (VR.mono hx h) (VRL.mono hx t)
end
theorem VRL.len:∀{l l':List Value},VRL x l l'→l.length=l'.length
 | _,_,.nil=>rfl
 | _,_,.cons _ t=>by simp [t.len]
theorem VRL.get:∀{l l':List Value},VRL x l l'→∀{i:Nat} {v:Value},l[i]? = some v→∃v',l'[i]? = some v'∧VR x v v'
 | _,_,.nil,i,v,h=>by simp at h
 | _,_,.cons h t,0,v,hv=>by simp at hv;subst hv;exact ⟨_,by simp,h⟩
 | _,_,.cons h t,i+1,v,hv=>by simp at hv;obtain ⟨v',h1,h2⟩:=t.get hv;exact ⟨v',by simpa using h1,h2⟩
theorem VRL.app:∀{l l' k k':List Value},VRL x l l'→VRL x k k'→VRL x (l++k) (l'++k')
 | _,_,_,_,.nil,h=>h
 | _,_,_,_,.cons h t,h'=>.cons h (t.app h')
theorem VRL.drop:∀{l l':List Value},VRL x l l'→∀n,VRL x (l.drop n) (l'.drop n)
 | _,_,.nil,n=>by simp;exact .nil
 | _,_,.cons h t,0=>.cons h t
 | _,_,.cons h t,n+1=>t.drop n
theorem VRL.take:∀{l l':List Value},VRL x l l'→∀n,VRL x (l.take n) (l'.take n)
 | _,_,.nil,n=>by simp;exact .nil
 | _,_,.cons h t,0=>.nil
 | _,_,.cons h t,n+1=>.cons h (t.take n)
theorem VR.cells {v v':Value} (h:VR x v v'):VRL x v.cells.toList v'.cells.toList:=by
 cases h with
 | agg h=>exact h
 | _=>exact .cons (by constructor<;>assumption) .nil
theorem VR.intI {k:IntKind} {n:Int} {v':Value} (h:VR x (.int k n) v'):v'=.int k n:=by cases h;rfl
theorem VR.boolI {b:Bool} {v':Value} (h:VR x (.bool b) v'):v'=.bool b:=by cases h;rfl
theorem VR.ptrI {n off:Nat} {v':Value} (h:VR x (.pointer (some ⟨n,off,none⟩)) v'):∃b o,x.ρ n=some ⟨b,o,none⟩∧v'=.pointer (some ⟨b,o+off,none⟩):=by
 cases h with
 | ptr h=>exact ⟨_,_,h,rfl⟩
theorem VR.tupleI {p:Array Value} {v':Value} (h:VR x (.tuple p) v'):∃p',v'=.tuple p'∧VRL x p.toList p'.toList:=by
 cases h with
 | tuple h=>exact ⟨_,rfl,h⟩
theorem VR.aggI {p:Array Value} {v':Value} (h:VR x (.agg p) v'):∃p',v'=.agg p'∧VRL x p.toList p'.toList:=by
 cases h with
 | agg h=>exact ⟨_,rfl,h⟩
theorem VR.undef:VR x undef undef:=.tuple .nil
theorem Ct:∀(n:Nat) (v:Value),gnd n v=true→VR x v v:=by
 intro n
 induction n with
 | zero=>intro v h;simp [gnd] at h
 | succ n ih =>
  intro v h;have hl:∀l:List Value,l.all (gnd n)=true→VRL x l l:=by
   intro l
   induction l with
   | nil=>intro _;exact .nil
   | cons a l ihl =>
    intro h;rw [List.all_cons,Bool.and_eq_true] at h;exact .cons (ih a h.1) (ihl h.2)
  unfold gnd at h
  split at h
  ·exact .bool _
  ·exact .int _ _
  ·exact .string _
  ·exact .pnil
  ·exact .snil
  ·exact .mnil
  ·exact .nilFunc
  ·exact .nilIface
  ·exact .iface (ih _ h)
  ·exact .agg (hl _ h)
  ·exact .tuple (hl _ h)
  ·cases h
mutual
theorem VR.gnd_eq:∀{v v':Value},VR x v v'→∀n,gnd n v=true→v'=v
 | _,_,.bool b,n,h=>rfl
 | _,_,.int _ _,n,h=>rfl
 | _,_,.string _,n,h=>rfl
 | _,_,.nilFunc,n,h=>rfl
 | _,_,.nilIface,n,h=>rfl
 | _,_,.pnil,n,h=>rfl
 | _,_,.ptr _,0,h=>by simp [gnd] at h
 | _,_,.ptr _,n+1,h=>by simp [gnd] at h
 | _,_,.snil,n,h=>rfl
 | _,_,.sl _ _ _,0,h=>by simp [gnd] at h
 | _,_,.sl _ _ _,n+1,h=>by simp [gnd] at h
 | _,_,.mnil,n,h=>rfl
 | _,_,.map _,0,h=>by simp [gnd] at h
 | _,_,.map _,n+1,h=>by simp [gnd] at h
 | _,_,.func _ _ _,0,h=>by simp [gnd] at h
 | _,_,.func _ _ _,n+1,h=>by simp [gnd] at h
 | _,_,.yld _,0,h=>by simp [gnd] at h
 | _,_,.yld _,n+1,h=>by simp [gnd] at h
 | _,_,.iface h',0,h=>by simp [gnd] at h
 | _,_,.iface h',n+1,h=>by rw [VR.gnd_eq h' n (by simpa [gnd] using h)]
 | _,_,.agg h',0,h=>by simp [gnd] at h
 | .agg p,.agg p',.agg h',n+1,h=>by
  have:=VRL.gnd_eq h' n (by simpa [gnd] using h);have:p'=p:=Array.toList_inj.1 this;rw [this]
 | _,_,.tuple h',0,h=>by simp [gnd] at h
 | .tuple p,.tuple p',.tuple h',n+1,h=>by
  have:=VRL.gnd_eq h' n (by simpa [gnd] using h);have:p'=p:=Array.toList_inj.1 this;rw [this]
theorem VRL.gnd_eq:∀{l l':List Value},VRL x l l'→∀n,l.all (gnd n)=true→l'=l
 | _,_,.nil,n,h=>rfl
 | _,_,.cons h t,n,hg=>by
  rw [List.all_cons,Bool.and_eq_true] at hg;rw [VR.gnd_eq h n hg.1,VRL.gnd_eq t n hg.2]
end
end
end Go.Ev
namespace Go.Ev
open Go Go.Eng
set_option linter.unusedVariables false
theorem Ce (n p:Nat):(2 ^ n).testBit p=decide (n=p):=Nat.testBit_two_pow
theorem Ba (n k p:Nat):(bits n k).testBit p=decide (n≤p∧p<n+k):=by
 unfold bits;rw [Nat.testBit_shiftLeft]
 by_cases h:n≤p
 ·simp only [h,decide_true,Bool.true_and,Nat.testBit_two_pow_sub_one,true_and]
  by_cases h2:p-n<k
  ·simp [h2];omega
  ·simp [h2];omega
 ·simp [h]
theorem Wk {a b:Nat} (h:Nat.beq (a &&& b) 0=true) (p:Nat) (ha:a.testBit p=true):b.testBit p=false:=by
 have h0:a &&& b=0:=Nat.eq_of_beq_eq_true h;have:=Nat.testBit_and a b p;rw [h0,Nat.zero_testBit,ha,Bool.true_and] at this;exact this.symm
theorem Fy {α:Type} (n:Nat) (x:Option α) (t:Tr α):(Tr.s (pn n) x t).g (pn n)=x:=Tr.g_same _ _
theorem Di {α:Type} {n p:Nat} (x:Option α) (t:Tr α) (h:p≠n):(Tr.s (pn n) x t).g (pn p)=t.g (pn p):=Tr.g_other _ _ _ (A1s h)
theorem Dd (own:Nat):∀(l:List Value) (n p:Nat) (h:Tr AObj),(p<n∨n+l.length≤p)→(Ey own l n h).g (pn p)=h.g (pn p)
 | [],n,p,h,_=>rfl
 | v::l,n,p,h,hp=>by
  simp only [List.length_cons] at hp;unfold Ey;rw [Dd own l (n+1) p _ (by omega),Di _ _ (by omega)]
theorem Ni (own:Nat):∀(l:List Value) (n i:Nat) (v:Value) (h:Tr AObj),l[i]? = some v→(Ey own l n h).g (pn (n+i))=some (.cell own v)
 | [],n,i,v,h,hi=>by simp at hi
 | u::l,n,0,v,h,hi=>by
  simp at hi;subst hi;unfold Ey;rw [Dd own l (n+1) (n+0) _ (by omega)];exact Fy _ _ _
 | u::l,n,i+1,v,h,hi=>by
  unfold Ey;rw [show n+(i+1)=n+1+i by omega];exact Ni own l (n+1) i v _ (by simpa using hi)
theorem Fw:∀(k n p:Nat) (h:Tr AObj),(p<n∨n+k≤p)→(Hw k n h).g (pn p)=h.g (pn p)
 | 0,n,p,h,_=>rfl
 | k+1,n,p,h,hp=>by
  unfold Hw;rw [Fw k (n+1) p _ (by omega),Di _ _ (by omega)]
theorem Pc:∀(k n p:Nat) (h:Tr AObj),n≤p→p<n+k→(Hw k n h).g (pn p)=none
 | 0,n,p,h,h1,h2=>by omega
 | k+1,n,p,h,h1,h2=>by
  unfold Hw
  by_cases e:p=n
  ·subst e;rw [Fw k (p+1) p _ (by omega)];exact Fy _ _ _
  ·exact Pc k (n+1) p _ (by omega) (by omega)
theorem Bo {h:Tr AObj} {own:Nat}:∀{k n:Nat} {l:List Value},Jn h own k n=some l→l.length=k∧∀i v,l[i]? = some v→h.g (pn (n+i))=some (.cell own v)
 | 0,n,l,e=>by
  simp only [Jn,Option.some.injEq] at e;subst e;exact ⟨rfl,fun i v hv=>by simp at hv⟩
 | k+1,n,l,e=>by
  unfold Jn at e
  split at e
  ·rename_i o v hg
   cases hb:Nat.beq o own with
   | false=>rw [hb] at e;cases e
   | true =>
    rw [hb] at e;simp only [cond_true] at e;have ho:=Nat.eq_of_beq_eq_true hb;subst ho
    split at e
    ·rename_i r hr
     cases e
     obtain ⟨h1,h2⟩:=Bo hr;refine ⟨by simp [h1],fun i u hu=>?_⟩
     cases i with
     | zero=>simp at hu;subst hu;exact hg
     | succ i=>rw [show n+(i+1)=n+1+i by omega];exact h2 i u (by simpa using hu)
    ·cases e
  ·cases e
inductive A2 {α β:Type} (R:α→β→Prop):List α→List β→Prop
 | nil:A2 R [] []
 | cons {a:α} {b:β} {l:List α} {k:List β} (h:R a b) (t:A2 R l k):A2 R (a::l) (b::k)
structure ER (x:Cx) (e e':MapEntry):Prop where
 key:e'.key=e.key
 ok:keyOk 2 e.key=true
 val:VR x e.val e'.val
 born:e'.born=e.born
def FrmR (x:Cx) (t:Fm) (tmps:Array Value):Prop:=∀i,VR x ((t.g (pn i)).getD undef) (tmps.getD i undef)
def ownOf (p:Nat):AObj→Nat
 | .cell own _=>own
 | _=>p
structure RowAt (w:World) (b:Nat) (e:TypeId) (n:Nat):Prop where
 shape:w.shape? b=some (e,n)
 free:∀off,w.frozen? ⟨b,off,none⟩=false
def ObjR (P:Program) (x:Cx) (w:World) (p:Nat):AObj→Prop
 | .hd size e g=>∃b o n,x.ρ p=some ⟨b,o,none⟩∧RowAt w b e n∧(o+size≤n∧x.k p=size)∧(g=false→x.z p=none)∧∀sz en,x.z p=some (sz,en)→en≤n∧szT P e=some sz
 | .cell own v=>∃b o v',x.ρ own=some ⟨b,o,none⟩∧(own<p∧p≤own+x.k own)∧w.cell? ⟨b,o+(p-own-1),none⟩=some v'∧w.frozen? ⟨b,o+(p-own-1),none⟩=false∧VR x v v'
 | .map es ck=>∃b es',x.ρ p=some ⟨b,0,none⟩∧w.heap[b]? = some (.map (List.toArray es') ck)∧A2 (ER x) es es'
 | .loop st pe t ps asg body=>∃b l,x.ρ p=some ⟨b,0,none⟩∧w.heap[b]? = some (.loop l)∧l.state=st∧l.pending=pe∧l.params.toList=ps∧l.assign=asg∧l.body=body∧(Bk l.tmps.size asg=true∧Bk l.tmps.size body=true∧ps.all (fun p=>Nat.blt p l.tmps.size)=true)∧FrmR x t l.tmps
 | .dfr fresh=>∃b,x.ρ p=some ⟨b,0,none⟩∧w.heap[b]? = some (.deferred (if fresh=true then some [] else none))
abbrev Mem:=Nat→Option AObj
structure Rel (P:Program) (N0:Nat) (x:Cx) (H:Mem) (w:World):Prop where
 obj:∀p o,H p=some o→ObjR P x w p o
 inj:∀p q o o' a a',H p=some o→H q=some o'→x.ρ (ownOf p o)=some a→x.ρ (ownOf q o')=some a'→a.block=a'.block→ownOf p o=ownOf q o'
 low:∀p o a,H p=some o→x.ρ (ownOf p o)=some a→N0≤a.block
def Agree (s s':S) (H:Mem):Prop:=∀p,p<s.c→s'.T.testBit p=true→H p=s.get p
noncomputable def Over (s s':S) (H:Mem):Mem:=fun p=>if (s.c≤p∧p<s'.c)∨s'.W.testBit p=true then s'.get p else H p
def S.Wf (s:S):Prop:=∀p,s.c≤p→s.get p=none
structure Stp (s s':S):Prop where
 wf:s.Wf→s'.Wf
 c:s.c≤s'.c
 T:∀p,s.T.testBit p=true→s'.T.testBit p=true
 W:∀p,s.W.testBit p=true→s'.W.testBit p=true
 same:∀p,p<s.c→s'.W.testBit p=false→s'.get p=s.get p
 WT:∀p,s'.W.testBit p=true→s.W.testBit p=true∨s'.T.testBit p=true
 m:s'.m=s.m
def Fresh (s s':S) (x:Cx):Prop:=∀p,s.c≤p→p<s'.c∨s.m=false→x.ρ p=none∧x.z p=none
structure Cx.to (x y:Cx) (lo hi:Nat):Prop where
 le:x.le y
 only:∀p,(¬(lo≤p∧p<hi))→y.ρ p=x.ρ p∧y.z p=x.z p
theorem Cx.to_refl (x:Cx) (lo hi:Nat):x.to x lo hi:=⟨x.le_refl,fun _ _=>⟨rfl,rfl⟩⟩
theorem Cx.to_trans {x y z:Cx} {a b c:Nat} (h:x.to y a b) (k:y.to z b c) (hab:a≤b) (hbc:b≤c):x.to z a c :=
 ⟨Cx.le_trans h.le k.le,fun p hp=>by
  have h1:=k.only p (by omega);have h2:=h.only p (by omega);exact ⟨h1.1.trans h2.1,h1.2.trans h2.2⟩⟩
theorem Stp.refl (s:S):Stp s s:=⟨fun h=>h,Nat.le_refl _,fun _ h=>h,fun _ h=>h,fun _ _ _=>rfl,fun _ h=>.inl h,rfl⟩
section
variable {s s1 s2:S} {H:Mem}
theorem Be {b:Bool} (h:¬b=true):b=false:=by cases b<;>simp at h ⊢
theorem Stp.trans (h:Stp s s1) (k:Stp s1 s2):Stp s s2 where
 wf q:=k.wf (h.wf q)
 c:=Nat.le_trans h.c k.c
 T p hp:=k.T p (h.T p hp)
 W p hp:=k.W p (h.W p hp)
 same p hp hW:=by
  have h1:s1.W.testBit p=false:=Be fun e=>by rw [k.W p e] at hW;cases hW
  rw [k.same p (Nat.lt_of_lt_of_le hp h.c) hW,h.same p hp h1]
 WT p hp:=by
  rcases k.WT p hp with e|e
  ·exact (h.WT p e).imp id (k.T p)
  ·exact .inr e
 m:=k.m.trans h.m
theorem Agree.first (h:Stp s s1) (k:Stp s1 s2) (ha:Agree s s2 H):Agree s s1 H:=fun p hp hT=>ha p hp (k.T p hT)
theorem Agree.second (h:Stp s s1) (k:Stp s1 s2) (ha:Agree s s2 H):Agree s1 s2 (Over s s1 H):=fun p hp hT=>by
 unfold Over
 by_cases hc:(s.c≤p∧p<s1.c)∨s1.W.testBit p=true
 ·rw [if_pos hc]
 ·rw [if_neg hc];have hlt:p<s.c:=by omega
  rw [ha p hlt hT];exact (h.same p hlt (Be fun e=>hc (.inr e))).symm
theorem Over.trans (h:Stp s s1) (k:Stp s1 s2):Over s1 s2 (Over s s1 H)=Over s s2 H:=by
 funext p
 have hc1:=h.c;have hc2:=k.c;unfold Over
 by_cases h2:(s1.c≤p∧p<s2.c)∨s2.W.testBit p=true
 ·rw [if_pos h2,if_pos (by rcases h2 with h2|h2;exact .inl (by omega);exact .inr h2)]
 ·rw [if_neg h2]
  by_cases h1:(s.c≤p∧p<s1.c)∨s1.W.testBit p=true
  ·rw [if_pos h1];rcases h1 with h1|h1
   ·rw [if_pos (.inl (by omega))];exact (k.same p h1.2 (Be fun e=>h2 (.inr e))).symm
   ·exact absurd (.inr (k.W p h1)) h2
  ·rw [if_neg h1,if_neg (fun e=>by
    rcases e with e|e
    ·rcases Nat.lt_or_ge p s1.c with q|q
     ·exact h1 (.inl ⟨e.1,q⟩)
     ·exact h2 (.inl ⟨q,e.2⟩)
    ·exact h2 (.inr e))]
theorem Fresh.first {x:Cx} (h:Stp s s1) (k:Stp s1 s2) (hf:Fresh s s2 x):Fresh s s1 x:=fun p h1 h2=>hf p h1 (h2.imp (fun q=>Nat.lt_of_lt_of_le q k.c) id)
theorem Fresh.second {x y:Cx} (h:Stp s s1) (k:Stp s1 s2) (hf:Fresh s s2 x) (hy:x.to y s.c s1.c):Fresh s1 s2 y:=fun p h1 h2=>by
 have:=hf p (Nat.le_trans h.c h1) (by rw [←h.m];exact h2);rw [(hy.only p (by omega)).1,(hy.only p (by omega)).2];exact this
end
end Go.Ev
namespace Go.Ev
open Go Go.Eng
set_option linter.unusedVariables false
section
variable {P:Program} {N0:Nat} {x:Cx} {H:Mem} {w:World} {s s':S}
theorem S.Wf.lt (h:s.Wf) {p:Nat} {o:AObj} (hp:s.get p=some o):p<s.c:=by
 rcases Nat.lt_or_ge p s.c with q|q
 ·exact q
 ·rw [h p q] at hp;cases hp
theorem D0 {n off k b o:Nat} {l:List Value} (hR:Rel P N0 x H w) (hl:s.load n off k=some l) (hA:∀p,n+1+off≤p→p<n+1+off+k→H p=s.get p) (hρ:x.ρ n=some ⟨b,o,none⟩) :
  ∃l',VRL x l l'∧l'.length=k∧∀j u,l'[j]? = some u→w.cell? ⟨b,o+off+j,none⟩=some u∧w.frozen? ⟨b,o+off+j,none⟩=false:=by
 obtain ⟨hlen,hget⟩:=Bo hl;have key:∀(m:Nat) (r:List Value),m+r.length=k→(∀i v,r[i]? = some v→s.get (n+1+off+m+i)=some (.cell n v)) →
   ∃l',VRL x r l'∧l'.length=r.length∧∀j u,l'[j]? = some u→w.cell? ⟨b,o+off+m+j,none⟩=some u∧w.frozen? ⟨b,o+off+m+j,none⟩=false:=by
  intro m r
  induction r generalizing m with
  | nil=>intro _ _;exact ⟨[],.nil,rfl,fun j u h=>by simp at h⟩
  | cons v r ih =>
   intro hk hr;simp only [List.length_cons] at hk;obtain ⟨l',h1,h2,h3⟩:=ih (m+1) (by omega) (fun i u hu=>by
    have:=hr (i+1) u (by simpa using hu)
    rwa [show n+1+off+m+(i+1)=n+1+off+(m+1)+i by omega] at this)
   have h0:=hr 0 v (by simp);have hH:=hA (n+1+off+m+0) (by omega) (by omega);rw [h0] at hH;obtain ⟨b',o',v',e1,e2,e3,e4,e5⟩:=hR.obj _ _ hH;rw [hρ] at e1
   cases e1
   rw [show o+(n+1+off+m+0-n-1)=o+off+m by omega] at e3 e4;refine ⟨v'::l',.cons e5 h1,by simp [h2],fun j u hu=>?_⟩
   cases j with
   | zero=>simp at hu;subst hu;exact ⟨e3,e4⟩
   | succ j =>
    rw [show o+off+m+(j+1)=o+off+(m+1)+j by omega];exact h3 j u (by simpa using hu)
 obtain ⟨l',h1,h2,h3⟩:=key 0 l (by omega) (fun i v hv=>by
  have:=hget i v hv
  rwa [show n+1+off+i=n+1+off+0+i by omega] at this)
 exact ⟨l',h1,by omega,fun j u hu=>by have:=h3 j u hu;rwa [show o+off+0+j=o+off+j by omega] at this⟩
theorem P4 (w:World) (a:Addr) (v:Value) (r:Nat):(w.setCell a v).shape? r=w.shape? r:=by
 unfold World.shape? World.setCell;simp only [Array.getElem?_modify]
 by_cases h:a.block=r
 ·subst h;simp only [if_true]
  cases w.heap[a.block]? with
  | none=>rfl
  | some ob=>cases ob<;>simp<;>split<;>simp
 ·simp only [h,if_false]
theorem Ez (b:Nat):∀(vs:List Value) (o:Nat) (w:World) (r:Nat),(w.setCells b o vs).shape? r=w.shape? r
 | [],_,_,_=>rfl
 | v::vs,o,w,r=>by rw [World.setCells,Ez b vs,P4]
def Gw:Obj→Bool
 | .cells ..=>false
 | _=>true
theorem S0 (w:World) (a:Addr) (v:Value) (r:Nat) (ob:Obj) (hn:Gw ob=true) (h:w.heap[r]? = some ob):(w.setCell a v).heap[r]? = some ob:=by
 unfold World.setCell;simp only [Array.getElem?_modify]
 by_cases e:a.block=r
 ·subst e;rw [if_pos rfl,h]
  cases ob<;>first|(simp [Gw] at hn;done)|rfl
 ·rw [if_neg e,h]
theorem Ek (b:Nat):∀(vs:List Value) (o:Nat) (w:World) (r:Nat) (ob:Obj),Gw ob=true→w.heap[r]? = some ob→(w.setCells b o vs).heap[r]? = some ob
 | [],_,_,_,_,_,h=>h
 | v::vs,o,w,r,ob,hn,h=>Ek b vs (o+1) _ r ob hn (S0 w _ _ r ob hn h)
theorem J7 {n off k b o:Nat} {vs vs':List Value} (hR:Rel P N0 x H w) (hw:s.Wf) (hs:s.store n off k vs=some s') (hA:∀p,n+1+off≤p→p<n+1+off+k→H p=s.get p) (hW:∀p,s.W.testBit p=true→H p=s.get p)
  (hv:VRL x vs vs') (hρ:x.ρ n=some ⟨b,o,none⟩):Rel P N0 x (Over s s' H) (w.setCells b (o+off) vs'):=by
 unfold S.store at hs
 split at hs
 ·rename_i l hl
  cases hb:(Nat.beq vs.length k&&vs.all Value.oneCell') with
  | false=>rw [hb] at hs;cases hs
  | true =>
   rw [hb] at hs;simp only [cond_true,Option.some.injEq] at hs;rw [Bool.and_eq_true] at hb;have hk:vs.length=k:=Nat.eq_of_beq_eq_true hb.1;have hk':vs'.length=k:=by rw [←hv.len];exact hk
   obtain ⟨l',h1,h2,h3⟩:=D0 hR hl hA hρ;obtain ⟨hlen,hget⟩:=Bo hl;have hin:∀j v,vs[j]? = some v→Over s s' H (n+1+off+j)=some (.cell n v):=by
    intro j v hj;have hjk:j<k:=by rw [←hk];exact (List.getElem?_eq_some_iff.1 hj).1
    unfold Over;rw [if_pos (.inr (by subst hs;simp only [Nat.testBit_or,Ba,Bool.or_eq_true,decide_eq_true_eq];exact .inr (by omega)))];subst hs;exact Ni n vs (n+1+off) j v s.h hj
   have hout:∀p,(p<n+1+off∨n+1+off+k≤p)→Over s s' H p=H p:=by
    intro p hp;unfold Over;subst hs
    by_cases hc:(s.c≤p∧p<s.c)∨(s.W ||| bits (n+1+off) k).testBit p=true
    ·rw [if_pos hc];simp only [Nat.testBit_or,Ba,Bool.or_eq_true,decide_eq_true_eq] at hc;rcases hc with hc|hc|hc
     ·omega
     ·rw [hW p hc];exact Dd n vs (n+1+off) p s.h (by omega)
     ·omega
    ·rw [if_neg hc]
   have hold:∀p ob,Over s s' H p=some ob→∃ob',H p=some ob'∧ownOf p ob'=ownOf p ob∧((p<n+1+off∨n+1+off+k≤p)→ob'=ob):=by
    intro p ob hp
    by_cases hr:p<n+1+off∨n+1+off+k≤p
    ·exact ⟨ob,by rw [←hout p hr];exact hp,rfl,fun _=>rfl⟩
    ·obtain ⟨j,rfl⟩:∃j,p=n+1+off+j:=⟨p-(n+1+off),by omega⟩;have hj:j<l.length:=by omega
     have hg:=hget j l[j] (List.getElem?_eq_getElem hj);have hv0:=hin j vs[j] (List.getElem?_eq_getElem (by omega));rw [hv0] at hp
     cases hp
     exact ⟨.cell n l[j],by rw [hA _ (by omega) (by omega)];exact hg,rfl,fun h=>absurd h hr⟩
   refine ⟨fun p ob hp=>?_,fun p q ob oq a a' hp hq ha ha' hab=>?_,fun p ob a hp ha=>?_⟩
   ·by_cases hr:p<n+1+off∨n+1+off+k≤p
    ·rw [hout p hr] at hp;have hob:=hR.obj p ob hp
     cases ob with
     | hd size e g =>
      obtain ⟨b',o',m,e1,e2,e3,e4,e5⟩:=hob;exact ⟨b',o',m,e1,⟨by rw [Ez];exact e2.shape,fun of=>by rw [World.frozen?_setCells];exact e2.free of⟩,e3,e4,e5⟩
     | cell own v =>
      obtain ⟨b',o',v',e1,e2,e3,e4,e5⟩:=hob;refine ⟨b',o',v',e1,e2,?_,by rw [World.frozen?_setCells];exact e4,e5⟩;rw [World.cell?_setCells_out]
      ·exact e3
      ·intro hbb _;simp only at hbb;subst hbb
       by_cases hk0:k=0
       ·simp only;omega
       ·have hg:=hget 0 l[0] (List.getElem?_eq_getElem (by omega));have hH0:H (n+1+off+0)=some (.cell n l[0]):=by rw [hA _ (by omega) (by omega)];exact hg
        have:=hR.inj p (n+1+off+0) _ _ _ _ hp hH0 e1 hρ rfl;simp only [ownOf] at this;subst this;rw [hρ] at e1
        cases e1
        simp only;omega
     | map es ck =>
      obtain ⟨b',es',e1,e2,e3⟩:=hob;exact ⟨b',es',e1,Ek b vs' _ w b' _ rfl e2,e3⟩
     | loop st pe t ps asg body =>
      obtain ⟨b',lo,e1,e2,e3⟩:=hob;exact ⟨b',lo,e1,Ek b vs' _ w b' _ rfl e2,e3⟩
     | dfr fr =>
      obtain ⟨b',e1,e2⟩:=hob;exact ⟨b',e1,Ek b vs' _ w b' _ rfl e2⟩
    ·obtain ⟨j,rfl⟩:∃j,p=n+1+off+j:=⟨p-(n+1+off),by omega⟩;have hv0:=hin j vs[j] (List.getElem?_eq_getElem (by omega));rw [hv0] at hp
     cases hp
     obtain ⟨v',hv1,hv2⟩:=hv.get (i:=j) (List.getElem?_eq_getElem (by omega));have hj':j<vs'.length:=by omega
     have hc:=World.cell?_setCells_in b vs' (o+off) w (fun i hi=>by
      have hi':i<l'.length:=by omega
      rw [(h3 i l'[i] (List.getElem?_eq_getElem hi')).1];rfl) j hj'
     have hve:vs'[j]=v':=by rw [List.getElem?_eq_getElem hj'] at hv1;exact Option.some.inj hv1
     have hold2:H (n+1+off+j)=some (.cell n l[j]):=by
      rw [hA _ (by omega) (by omega)];exact hget j l[j] (List.getElem?_eq_getElem (by omega))
     obtain ⟨_,_,_,_,hbd,_⟩:=hR.obj _ _ hold2;refine ⟨b,o,v',hρ,hbd,?_,?_,hv2⟩
     ·rw [show o+(n+1+off+j-n-1)=o+off+j by omega,hc,hve]
     ·rw [World.frozen?_setCells,show o+(n+1+off+j-n-1)=o+off+j by omega];have hi':j<l'.length:=by omega
      exact (h3 j l'[j] (List.getElem?_eq_getElem hi')).2
   ·obtain ⟨ob',g1,g2,_⟩:=hold p ob hp;obtain ⟨oq',k1,k2,_⟩:=hold q oq hq;rw [←g2] at ha ⊢;rw [←k2] at ha' ⊢;exact hR.inj p q ob' oq' a a' g1 k1 ha ha' hab
   ·obtain ⟨ob',g1,g2,_⟩:=hold p ob hp;rw [←g2] at ha;exact hR.low p ob' a g1 ha
 ·cases hs
end
end Go.Ev
namespace Go.Ev
open Go Go.Eng
set_option linter.unusedVariables false
section
variable {P:Program} {N0:Nat} {x y:Cx} {H:Mem} {w w':World} {s s':S}
def Keeps (w w':World):Prop:=∀(b:Nat) (ob:Obj),w.heap[b]? = some ob→w'.heap[b]? = some ob
theorem Keeps.cell (h:Keeps w w') {a:Addr} {v:Value} (hc:w.cell? a=some v):w'.cell? a=some v:=by
 unfold World.cell? at hc ⊢
 cases hb:w.heap[a.block]? with
 | none=>rw [hb] at hc;cases hc
 | some ob=>rw [hb] at hc;rw [h _ _ hb];exact hc
theorem Keeps.frozen (h:Keeps w w') {a:Addr} {v:Value} (hc:w.cell? a=some v):w'.frozen? a=w.frozen? a:=by
 unfold World.cell? at hc;unfold World.frozen?
 cases hb:w.heap[a.block]? with
 | none=>rw [hb] at hc;cases hc
 | some ob=>rw [h _ _ hb]
theorem Keeps.row (h:Keeps w w') {b n:Nat} {e:TypeId} (hr:RowAt w b e n):RowAt w' b e n:=by
 have hs:=hr.shape
 cases hb:w.heap[b]? with
 | none=>unfold World.shape? at hs;rw [hb] at hs;cases hs
 | some ob =>
  refine ⟨?_,fun off=>?_⟩
  ·unfold World.shape? at hs ⊢;rw [hb] at hs;rw [h _ _ hb];exact hs
  ·have:=hr.free off;unfold World.frozen? at this ⊢;simp only at this ⊢;rw [hb] at this;rw [h _ _ hb];exact this
theorem ObjR.keep (hk:Keeps w w') {p:Nat} {o:AObj} (h:ObjR P x w p o):ObjR P x w' p o:=by
 cases o with
 | hd size e g=>obtain ⟨b,o,n,h1,h2,h3⟩:=h;exact ⟨b,o,n,h1,hk.row h2,h3⟩
 | cell own v=>obtain ⟨b,o,v',h1,h2,h3,h4,h5⟩:=h;exact ⟨b,o,v',h1,h2,hk.cell h3,by rw [hk.frozen h3];exact h4,h5⟩
 | map es ck=>obtain ⟨b,es',h1,h2,h3⟩:=h;exact ⟨b,es',h1,hk _ _ h2,h3⟩
 | loop st pe t ps asg body=>obtain ⟨b,l,h1,h2,h3⟩:=h;exact ⟨b,l,h1,hk _ _ h2,h3⟩
 | dfr f=>obtain ⟨b,h1,h2⟩:=h;exact ⟨b,h1,hk _ _ h2⟩
theorem Rel.keep (hk:Keeps w w') (h:Rel P N0 x H w):Rel P N0 x H w':=⟨fun p o hp=>(h.obj p o hp).keep hk,h.inj,h.low⟩
theorem A2.imp {α β:Type} {R S:α→β→Prop} (hi:∀a b,R a b→S a b):∀{l:List α} {k:List β},A2 R l k→A2 S l k
 | _,_,.nil=>.nil
 | _,_,.cons h t=>.cons (hi _ _ h) (A2.imp hi t)
theorem ER.mono (hx:x.le y) {e e':MapEntry} (h:ER x e e'):ER y e e':=⟨h.key,h.ok,h.val.mono hx,h.born⟩
theorem FrmR.mono (hx:x.le y) {t:Fm} {tm:Array Value} (h:FrmR x t tm):FrmR y t tm:=fun i=>(h i).mono hx
theorem ObjR.own {p:Nat} {o:AObj} (h:ObjR P x w p o):∃a,x.ρ (ownOf p o)=some a:=by
 cases o with
 | hd size e g=>obtain ⟨b,o,n,h1,_⟩:=h;exact ⟨_,h1⟩
 | cell own v=>obtain ⟨b,o,v',h1,_⟩:=h;exact ⟨_,h1⟩
 | map es ck=>obtain ⟨b,es',h1,_⟩:=h;exact ⟨_,h1⟩
 | loop st pe t ps asg body=>obtain ⟨b,l,h1,_⟩:=h;exact ⟨_,h1⟩
 | dfr f=>obtain ⟨b,h1,_⟩:=h;exact ⟨_,h1⟩
theorem ObjR.more (hx:x.le y) {p:Nat} {o:AObj} (hz:y.z p=x.z p) (h:ObjR P x w p o):ObjR P y w p o:=by
 cases o with
 | hd size e g=>obtain ⟨b,o,n,h1,h2,h3,h4,h5⟩:=h;exact ⟨b,o,n,(hx.1 _ _ h1).1,h2,⟨h3.1,(hx.1 _ _ h1).2.trans h3.2⟩,fun q=>by rw [hz];exact h4 q,fun sz en q=>h5 sz en (by rw [←hz];exact q)⟩
 | cell own v=>obtain ⟨b,o,v',h1,h2,h3,h4,h5⟩:=h;exact ⟨b,o,v',(hx.1 _ _ h1).1,⟨h2.1,by rw [(hx.1 _ _ h1).2];exact h2.2⟩,h3,h4,h5.mono hx⟩
 | map es ck=>obtain ⟨b,es',h1,h2,h3⟩:=h;exact ⟨b,es',(hx.1 _ _ h1).1,h2,h3.imp fun _ _ q=>q.mono hx⟩
 | loop st pe t ps asg body=>obtain ⟨b,l,h1,h2,h3,h4,h5,h6,h7,h8,h9⟩:=h;exact ⟨b,l,(hx.1 _ _ h1).1,h2,h3,h4,h5,h6,h7,h8,h9.mono hx⟩
 | dfr f=>obtain ⟨b,h1,h2⟩:=h;exact ⟨b,(hx.1 _ _ h1).1,h2⟩
def Cx.add (x:Cx) (n:Nat) (a:Addr) (z:Option (Nat×Nat)) (k:Nat):Cx:=⟨fun p=>if p=n then some a else x.ρ p,fun p=>if p=n then z else x.z p,fun p=>if p=n then k else x.k p⟩
theorem Cx.add_to {n:Nat} {a:Addr} {z:Option (Nat×Nat)} {hi k:Nat} (h:x.ρ n=none) (hz:x.z n=none) (hn:n<hi):x.to (x.add n a z k) n hi:=by
 refine ⟨⟨fun p b hb=>?_,fun p b hb=>?_⟩,fun p hp=>?_⟩
 ·unfold Cx.add
  by_cases e:p=n
  ·subst e;rw [h] at hb;cases hb
  ·simp only [if_neg e];exact ⟨hb,trivial⟩
 ·unfold Cx.add
  by_cases e:p=n
  ·subst e;rw [hz] at hb;cases hb
  ·simp only [if_neg e];exact hb
 ·have e:p≠n:=fun e=>hp (by omega);unfold Cx.add;exact ⟨if_neg e,if_neg e⟩
theorem Jy {vs vs':List Value} {e b0 o0 m:Nat} {g:Bool} {z:Option (Nat×Nat)} (hR:Rel P N0 x H w) (hw:s.Wf) (hW:∀p,s.W.testBit p=true→H p=s.get p∧p<s.c)
  (hρ:x.ρ s.c=none) (hzn:x.z s.c=none) (hfree:∀p o a,H p=some o→x.ρ (ownOf p o)=some a→a.block≠b0) (hlow:N0≤b0)
  (hrow:RowAt w b0 e m) (hm:o0+vs.length≤m) (hcs:∀j u,vs'[j]? = some u→w.cell? ⟨b0,o0+j,none⟩=some u) (hv:VRL x vs vs')
  (hz1:g=false→z=none) (hz2:∀sz en,z=some (sz,en)→en≤m∧szT P e=some sz) :
  Rel P N0 (x.add s.c ⟨b0,o0,none⟩ z vs.length) (Over s (s.row vs e g) H) w:=by
 have hto:=Cx.add_to (a:=⟨b0,o0,none⟩) (z:=z) (k:=vs.length) hρ hzn (Nat.lt_succ_self s.c);have hy:(x.add s.c ⟨b0,o0,none⟩ z vs.length).ρ s.c=some ⟨b0,o0,none⟩:=by simp [Cx.add]
 have hyz:(x.add s.c ⟨b0,o0,none⟩ z vs.length).z s.c=z:=by simp [Cx.add]
 have hhead:Over s (s.row vs e g) H s.c=some (.hd vs.length e g):=by
  unfold Over;rw [if_pos (.inl ⟨Nat.le_refl _,by simp only [S.row];omega⟩)];show (Ey s.c vs (s.c+1) (Tr.s (pn s.c) (some (.hd vs.length e g)) s.h)).g (pn s.c)=_;rw [Dd _ _ _ _ _ (by omega)];exact Fy _ _ _
 have hcell:∀j v,vs[j]? = some v→Over s (s.row vs e g) H (s.c+1+j)=some (.cell s.c v):=by
  intro j v hj;have hjl:=(List.getElem?_eq_some_iff.1 hj).1;unfold Over;rw [if_pos (.inl ⟨by omega,by simp only [S.row];omega⟩)];exact Ni s.c vs (s.c+1) j v _ hj
 have hout:∀p,(p<s.c∨s.c+1+vs.length≤p)→Over s (s.row vs e g) H p=H p:=by
  intro p hp;unfold Over
  by_cases hc:(s.c≤p∧p<(s.row vs e g).c)∨(s.row vs e g).W.testBit p=true
  ·rw [if_pos hc];rcases hc with hc|hc
   ·simp only [S.row] at hc;omega
   ·have hc':s.W.testBit p=true:=hc;obtain ⟨h1,h2⟩:=hW p hc';rw [h1];show (Ey s.c vs (s.c+1) (Tr.s (pn s.c) (some (.hd vs.length e g)) s.h)).g (pn p)=s.h.g (pn p);rw [Dd _ _ _ _ _ (by omega),Di _ _ (by omega)]
  ·rw [if_neg hc]
 have cases_:∀p o,Over s (s.row vs e g) H p=some o→(ownOf p o=s.c∧ObjR P (x.add s.c ⟨b0,o0,none⟩ z vs.length) w p o)∨(H p=some o∧ownOf p o≠s.c∧p≠s.c):=by
  intro p o hp
  by_cases hr:p<s.c∨s.c+1+vs.length≤p
  ·rw [hout p hr] at hp;obtain ⟨a,ha⟩:=(hR.obj p o hp).own;exact .inr ⟨hp,⟨fun q=>(by rw [q,hρ] at ha;cases ha),fun q=>(by omega)⟩⟩
  ·by_cases hps:p=s.c
   ·subst hps;rw [hhead] at hp
    cases hp
    exact .inl ⟨rfl,b0,o0,m,hy,hrow,⟨hm,by simp [Cx.add]⟩,fun q=>by rw [hyz];exact hz1 q,fun sz en q=>hz2 sz en (by rw [←hyz];exact q)⟩
   ·obtain ⟨j,rfl⟩:∃j,p=s.c+1+j:=⟨p-(s.c+1),by omega⟩;have hj:j<vs.length:=by omega
    have hv0:=hcell j vs[j] (List.getElem?_eq_getElem hj);rw [hv0] at hp
    cases hp
    obtain ⟨v',h1,h2⟩:=hv.get (i:=j) (List.getElem?_eq_getElem hj);refine .inl ⟨rfl,b0,o0,v',hy,⟨by omega,by simp [Cx.add];omega⟩,?_,?_,h2.mono hto.le⟩
    ·rw [show o0+(s.c+1+j-s.c-1)=o0+j by omega];exact hcs j v' h1
    ·exact hrow.free _
 have old:∀{n:Nat} {a:Addr},n≠s.c→(x.add s.c ⟨b0,o0,none⟩ z vs.length).ρ n=some a→x.ρ n=some a:=by
  intro n a hn ha;unfold Cx.add at ha;simp only [if_neg hn] at ha;exact ha
 refine ⟨fun p o hp=>?_,fun p q o o' a a' hp hq ha ha' hab=>?_,fun p o a hp ha=>?_⟩
 ·rcases cases_ p o hp with ⟨_,h⟩|⟨h,h1,h2⟩
  ·exact h
  ·exact (hR.obj p o h).more hto.le (by simp [Cx.add,h2])
 ·rcases cases_ p o hp with ⟨h1,_⟩|⟨h1,h2,_⟩<;>rcases cases_ q o' hq with ⟨k1,_⟩|⟨k1,k2,_⟩
  ·rw [h1,k1]
  ·exfalso;rw [h1,hy] at ha
   cases ha
   exact hfree q o' a' k1 (old k2 ha') hab.symm
  ·exfalso;rw [k1,hy] at ha'
   cases ha'
   exact hfree p o a h1 (old h2 ha) hab
  ·exact hR.inj p q o o' a a' h1 k1 (old h2 ha) (old k2 ha') hab
 ·rcases cases_ p o hp with ⟨h1,_⟩|⟨h1,h2,_⟩
  ·rw [h1,hy] at ha
   cases ha
   exact hlow
  ·exact hR.low p o a h1 (old h2 ha)
end
end Go.Ev
namespace Go.Ev
open Go Go.Eng
set_option linter.unusedVariables false
section
variable {P:Program} {N0:Nat} {x y:Cx} {H:Mem} {w w':World} {s s':S}
def AObj.lone:AObj→Bool
 | .cell _ _=>false
 | .hd _ _ _=>false
 | _=>true
theorem Cc {p:Nat} {o:AObj} (h:o.lone=true):ownOf p o=p:=by cases o<;>first|rfl|(simp [AObj.lone] at h)
theorem Tl {p:Nat} {o:AObj} (h:o.lone=true) (hR:ObjR P x w p o):∃b ob,x.ρ p=some ⟨b,0,none⟩∧w.heap[b]? = some ob∧Gw ob=true:=by
 cases o with
 | hd=>simp [AObj.lone] at h
 | cell=>simp [AObj.lone] at h
 | map es ck=>obtain ⟨b,es',h1,h2,_⟩:=hR;exact ⟨b,_,h1,h2,rfl⟩
 | loop st pe t ps asg body=>obtain ⟨b,l,h1,h2,_⟩:=hR;exact ⟨b,_,h1,h2,rfl⟩
 | dfr f=>obtain ⟨b,h1,h2⟩:=hR;exact ⟨b,_,h1,h2,rfl⟩
theorem Tj {p q:Nat} {o oq:AObj} (hR:Rel P N0 x H w) (hp:H p=some o) (h:o.lone=true) (hq:H q=some oq) {b:Nat} {a:Addr} (hb:x.ρ p=some ⟨b,0,none⟩) (ha:x.ρ (ownOf q oq)=some a) (hab:a.block=b):q=p:=by
 obtain ⟨b',ob,e1,e2,e3⟩:=Tl h (hR.obj p o hp);rw [hb] at e1;cases e1
 have ho:=hR.inj q p oq o a ⟨b,0,none⟩ hq hp ha (by rw [Cc h];exact hb) hab;rw [Cc h] at ho;have hobq:=hR.obj q oq hq
 cases oq with
 | cell own v =>
  exfalso;obtain ⟨b'',o'',v',f1,f2,f3,_⟩:=hobq;simp only [ownOf] at ho;subst ho;rw [hb] at f1;cases f1
  unfold World.cell? at f3;simp only at f3;rw [e2] at f3
  cases ob<;>first|(simp [Gw] at e3;done)|(cases f3)
 | _=>exact ho
theorem V1 {n b:Nat} {o o':AObj} (hR:Rel P N0 x H w) (hw:s.Wf) (hW:∀p,s.W.testBit p=true→H p=s.get p) (hH:H n=some o) (hl:o.lone=true) (hl':o'.lone=true) (hb:x.ρ n=some ⟨b,0,none⟩)
  (hne:∀c,c≠b→w'.heap[c]? = w.heap[c]?) (hobj:ObjR P x w' n o'):Rel P N0 x (Over s (s.wr n (some o')) H) w':=by
 have hat:Over s (s.wr n (some o')) H n=some o':=by
  unfold Over;rw [if_pos (.inr (by simp only [S.wr,Nat.testBit_or,Ce,Bool.or_eq_true,decide_eq_true_eq];exact .inr trivial))];exact Fy _ _ _
 have hout:∀p,p≠n→Over s (s.wr n (some o')) H p=H p:=by
  intro p hp;unfold Over
  by_cases hc:(s.c≤p∧p<(s.wr n (some o')).c)∨(s.wr n (some o')).W.testBit p=true
  ·rw [if_pos hc];rcases hc with hc|hc
   ·simp only [S.wr] at hc;omega
   ·simp only [S.wr,Nat.testBit_or,Ce,Bool.or_eq_true,decide_eq_true_eq] at hc;rcases hc with hc|hc
    ·rw [hW p hc];exact Di _ _ hp
    ·exact absurd hc.symm hp
  ·rw [if_neg hc]
 have cases_:∀p ob,Over s (s.wr n (some o')) H p=some ob→(p=n∧ob=o')∨(p≠n∧H p=some ob):=by
  intro p ob hp
  by_cases e:p=n
  ·subst e;rw [hat] at hp;cases hp;exact .inl ⟨rfl,rfl⟩
  ·rw [hout p e] at hp;exact .inr ⟨e,hp⟩
 refine ⟨fun p ob hp=>?_,fun p q ob oq a a' hp hq ha ha' hab=>?_,fun p ob a hp ha=>?_⟩
 ·rcases cases_ p ob hp with ⟨rfl,rfl⟩|⟨e,h⟩
  ·exact hobj
  ·have hob:=hR.obj p ob h;obtain ⟨a,ha⟩:=hob.own;have hab:a.block≠b:=fun q=>e (Tj hR hH hl h hb ha q);have hk:∀(c:Nat),c=a.block→w'.heap[c]? = w.heap[c]?:=fun c hc=>hne c (by rw [hc];exact hab)
   cases ob with
   | hd size e g =>
    obtain ⟨b',o'',m,e1,e2,e3⟩:=hob;simp only [ownOf] at ha;rw [e1] at ha;cases ha
    have:=hk b' rfl;exact ⟨b',o'',m,e1,⟨by have:=e2.shape;unfold World.shape? at this ⊢;rw [hk b' rfl];exact this,fun of=>by have:=e2.free of;unfold World.frozen? at this ⊢;simp only at this ⊢;rw [hk b' rfl];exact this⟩,e3⟩
   | cell own v =>
    obtain ⟨b',o'',v',e1,e2,e3,e4,e5⟩:=hob;simp only [ownOf] at ha;rw [e1] at ha;cases ha
    refine ⟨b',o'',v',e1,e2,?_,?_,e5⟩
    ·unfold World.cell? at e3 ⊢;simp only at e3 ⊢;rw [hk b' rfl];exact e3
    ·unfold World.frozen? at e4 ⊢;simp only at e4 ⊢;rw [hk b' rfl];exact e4
   | map es ck=>obtain ⟨b',es',e1,e2,e3⟩:=hob;simp only [ownOf] at ha;rw [e1] at ha;cases ha;exact ⟨b',es',e1,by rw [hk b' rfl];exact e2,e3⟩
   | loop st pe t ps asg body=>obtain ⟨b',lo,e1,e2,e3⟩:=hob;simp only [ownOf] at ha;rw [e1] at ha;cases ha;exact ⟨b',lo,e1,by rw [hk b' rfl];exact e2,e3⟩
   | dfr f=>obtain ⟨b',e1,e2⟩:=hob;simp only [ownOf] at ha;rw [e1] at ha;cases ha;exact ⟨b',e1,by rw [hk b' rfl];exact e2⟩
 ·rcases cases_ p ob hp with ⟨rfl,rfl⟩|⟨e,h⟩<;>rcases cases_ q oq hq with ⟨rfl,rfl⟩|⟨e',h'⟩
  ·rfl
  ·rw [Cc hl'] at ha ⊢;have:=hR.inj p q o oq a a' hH h' (by rw [Cc hl];exact ha) ha' hab
   rwa [Cc hl] at this
  ·rw [Cc hl'] at ha' ⊢;have:=hR.inj p q ob o a a' h hH ha (by rw [Cc hl];exact ha') hab
   rwa [Cc hl] at this
  ·exact hR.inj p q ob oq a a' h h' ha ha' hab
 ·rcases cases_ p ob hp with ⟨rfl,rfl⟩|⟨e,h⟩
  ·rw [Cc hl'] at ha;exact hR.low p o a hH (by rw [Cc hl];exact ha)
  ·exact hR.low p ob a h ha
theorem Yy {b0:Nat} {o:AObj} (hR:Rel P N0 x H w) (hw:s.Wf) (hW:∀p,s.W.testBit p=true→H p=s.get p∧p<s.c) (hl:o.lone=true)
  (hρ:x.ρ s.c=none) (hzn:x.z s.c=none) (hfree:∀p o a,H p=some o→x.ρ (ownOf p o)=some a→a.block≠b0) (hlow:N0≤b0)
  (hobj:ObjR P (x.add s.c ⟨b0,0,none⟩ none 0) w s.c o):Rel P N0 (x.add s.c ⟨b0,0,none⟩ none 0) (Over s (s.nw o) H) w:=by
 have hto:=Cx.add_to (a:=⟨b0,0,none⟩) (z:=none) (k:=0) hρ hzn (Nat.lt_succ_self s.c);have hy:(x.add s.c ⟨b0,0,none⟩ none 0).ρ s.c=some ⟨b0,0,none⟩:=by simp [Cx.add]
 have hat:Over s (s.nw o) H s.c=some o:=by
  unfold Over;rw [if_pos (.inl ⟨Nat.le_refl _,by simp only [S.nw];omega⟩)];exact Fy _ _ _
 have hout:∀p,p≠s.c→Over s (s.nw o) H p=H p:=by
  intro p hp;unfold Over
  by_cases hc:(s.c≤p∧p<(s.nw o).c)∨(s.nw o).W.testBit p=true
  ·rw [if_pos hc];rcases hc with hc|hc
   ·simp only [S.nw] at hc;omega
   ·have hc':s.W.testBit p=true:=hc;rw [(hW p hc').1];exact Di _ _ hp
  ·rw [if_neg hc]
 have cases_:∀p ob,Over s (s.nw o) H p=some ob→(p=s.c∧ob=o)∨(H p=some ob∧ownOf p ob≠s.c∧p≠s.c):=by
  intro p ob hp
  by_cases e:p=s.c
  ·subst e;rw [hat] at hp;cases hp;exact .inl ⟨rfl,rfl⟩
  ·rw [hout p e] at hp;obtain ⟨a,ha⟩:=(hR.obj p ob hp).own;exact .inr ⟨hp,fun q=>(by rw [q,hρ] at ha;cases ha),e⟩
 have old:∀{n:Nat} {a:Addr},n≠s.c→(x.add s.c ⟨b0,0,none⟩ none 0).ρ n=some a→x.ρ n=some a:=by
  intro n a hn ha;unfold Cx.add at ha;simp only [if_neg hn] at ha;exact ha
 refine ⟨fun p ob hp=>?_,fun p q ob oq a a' hp hq ha ha' hab=>?_,fun p ob a hp ha=>?_⟩
 ·rcases cases_ p ob hp with ⟨rfl,rfl⟩|⟨h,h1,h2⟩
  ·exact hobj
  ·exact (hR.obj p ob h).more hto.le (by simp [Cx.add,h2])
 ·rcases cases_ p ob hp with ⟨rfl,rfl⟩|⟨h1,h2,_⟩<;>rcases cases_ q oq hq with ⟨rfl,rfl⟩|⟨k1,k2,_⟩
  ·rfl
  ·exfalso;rw [Cc hl,hy] at ha
   cases ha
   exact hfree q oq a' k1 (old k2 ha') hab.symm
  ·exfalso;rw [Cc hl,hy] at ha'
   cases ha'
   exact hfree p ob a h1 (old h2 ha) hab
  ·exact hR.inj p q ob oq a a' h1 k1 (old h2 ha) (old k2 ha') hab
 ·rcases cases_ p ob hp with ⟨rfl,rfl⟩|⟨h1,h2,_⟩
  ·rw [Cc hl,hy] at ha
   cases ha
   exact hlow
  ·exact hR.low p ob a h1 (old h2 ha)
end
end Go.Ev
namespace Go.Ev
open Go Go.Eng
set_option linter.unusedVariables false
def OpZ (P:Program) (r:Option Nat) (o:Oper) (a:Act) (w:World) (R:Value→World→Prop):Prop :=
 match (o.semAt r a.eval).run P w with
 | .ok (.value v) w'=>R v w'
 | .ok .skip w'=>R undef w'
 | .ok (.enter f args) w'=>Calls P f args w' (fun e w''=>∃v,e=.returned v∧R v w'')
 | .ok (.round l f tmps assign body) w'=>RoundIn (F0 r) 0 P l f tmps assign body w' (fun e w''=>∃v,e=.returned v∧R v w'')
 | _=>False
structure S.Ok (s:S):Prop where
 wf:s.Wf
 W:∀p,s.W.testBit p=true→s.T.testBit p=true∧p<s.c
def Post (P:Program) (w0:World) (s s':S) (v:Value) (H:Mem) (x:Cx) (v':Value) (w':World):Prop :=
 ∃y,x.to y s.c s'.c∧VR y v v'∧Rel P w0.heap.size y (Over s s' H) w'∧Ext w0 w'
structure Pre (P:Program) (w0:World) (s s':S) (H:Mem) (x:Cx) (w:World):Prop where
 agree:Agree s s' H
 fresh:Fresh s s' x
 rel:Rel P w0.heap.size x H w
 ext:Ext w0 w
 none:s.m=false→∀p,s.c≤p→H p=none
theorem Pre.W {P:Program} {w0:World} {s s':S} {H:Mem} {x:Cx} {w:World} (h:Pre P w0 s s' H x w) (ho:s.Ok) (hs:Stp s s'):∀p,s.W.testBit p=true→H p=s.get p∧p<s.c :=
 fun p hp=>⟨h.agree p (ho.W p hp).2 (hs.T p (ho.W p hp).1),(ho.W p hp).2⟩
theorem E6 {s:S} (ho:s.Ok) {H:Mem} (h:∀p,s.W.testBit p=true→H p=s.get p):Over s s H=H:=by
 funext p
 unfold Over
 by_cases hc:(s.c≤p∧p<s.c)∨s.W.testBit p=true
 ·rw [if_pos hc];rcases hc with hc|hc
  ·omega
  ·exact (h p hc).symm
 ·rw [if_neg hc]
theorem Pre.post0 {P:Program} {w0:World} {s:S} {H:Mem} {x:Cx} {w:World} {v v':Value} (h:Pre P w0 s s H x w) (ho:s.Ok) (hv:VR x v v'):Post P w0 s s v H x v' w:=by
 refine ⟨x,x.to_refl _ _,hv,?_,h.ext⟩;rw [E6 ho fun p hp=>(h.W ho (Stp.refl s) p hp).1];exact h.rel
structure RunOk (P:Program) (run:Rn):Prop where
 ent:∀f args s v s',run (.call f args) s=some (.val v s')→∀args w,(callFunc f args).run P w=.ok (.enter f args) w
 call:∀f args s v s',s.Ok→run (.call f args) s=some (.val v s')→Stp s s'∧s'.Ok∧∀w0 H x w args',Pre P w0 s s' H x w→VRL x args args' →
  Calls P f args'.toArray w (fun e w'=>∃v',e=.returned v'∧Post P w0 s s' v H x v' w')
 yld:∀l args s v s',s.Ok→run (.yld l args) s=some (.val v s')→Stp s s'∧s'.Ok∧∀w0 H x w args' b r,Pre P w0 s s' H x w→VRL x args args'→x.ρ l=some ⟨b,0,none⟩ →
  ∃f tmps assign body,(Instr.yield b args'.toArray).run P w=.ok (.round b f tmps assign body) w∧RoundIn (F0 r) 0 P b f tmps assign body w (fun e w'=>∃v',e=.returned v'∧Post P w0 s s' v H x v' w')
structure OdIn (o:Oper) (y:Operand):Prop where
 ok:okOd y=true
 mem:y∈o.op.operands.toList
def EnvR (x:Cx) (t:Fm) (a:Act) (o:Oper):Prop:=∀y,OdIn o y→VR x (t.v (od y)) (a.eval y)
def C5 (P:Program) (o:Oper) (F:XF):Prop:=∀run t s K out,RunOk P run→s.Ok→F run t s K=some out →
 ∃v s',Stp s s'∧s'.Ok∧K v s'=some out∧∀(w0:World) (H:Mem) (x:Cx) (w:World) (r:Option Nat) (a:Act),Pre P w0 s s' H x w→EnvR x t a o→OpZ P r o a w (Post P w0 s s' v H x)
theorem Ms {x:Cx} {t:Fm} {a:Act} (hF:FrmR x t a.tmps):∀{o:Operand},okOd o=true→VR x (t.v (od o)) (a.eval o)
 | .tmp i,_=>by
  have:=hF i;show VR x (Option.casesOn (t.g (pn i)) undef fun v=>v) (a.tmps.getD i undef)
  cases h:t.g (pn i) with
  | none=>rw [h] at this;exact this
  | some v=>rw [h] at this;exact this
 | .const v,h=>Ct 6 v h
 | .global g,h=>by simp [okOd] at h
 | .func f,_=>.func (fun l e=>by cases e) .nil .nil
theorem Ai {x:Cx} {t:Fm} {a:Act} {o:Oper} (hF:EnvR x t a o) {y:Operand} (h:OdIn o y):VR x (t.v (od y)) (a.eval y):=hF y h
section
variable {P:Program} {o:Oper} {r:Option Nat} {a:Act} {w:World} {R:Value→World→Prop}
theorem Ca {v:Value} (hd:∀c,o.op≠.defer c) (h:(execOp a.eval o).run P w=.ok (.value v) w) (hR:R v w):OpZ P r o a w R:=by
 unfold OpZ;rw [Oper.semAt_eq r a.eval o hd,h];exact hR
theorem C9 {F:XF} (hd:∀c,o.op≠.defer c) (h:∀run t s K out,F run t s K=some out→∃v,K v s=some out∧∀(x:Cx) (a:Act) (w:World),EnvR x t a o→∃v',(execOp a.eval o).run P w=.ok (.value v') w∧VR x v v'):C5 P o F:=by
 intro run t s K out hr ho hF;obtain ⟨v,h1,h2⟩:=h run t s K out hF;refine ⟨v,s,Stp.refl s,ho,h1,fun w0 H x w r a hp hf=>?_⟩;obtain ⟨v',h3,h4⟩:=h2 x a w hf;exact Ca hd h3 (hp.post0 ho h4)
end
section
variable {P:Program} {o:Oper}
theorem Un {x:Operand} (ho:o.op=.move x∨o.op=.assign x) (hx:OdIn o x):C5 P o (fun run t s K=>xMv t s K (od x)):=by
 refine C9 (fun c e=>by rcases ho with h|h<;>rw [h] at e<;>cases e) fun run t s K out h=>?_
 unfold xMv at h;rw [Aj] at h;refine ⟨_,h,fun x' a w hF=>⟨_,?_,Ai hF hx⟩⟩;rcases ho with h|h<;>(unfold execOp;rw [h];rfl)
theorem Z4 {c x y:Operand} (ho:o.op=.pick c x y) (hc:OdIn o c) (hx:OdIn o x) (hy:OdIn o y):C5 P o (fun run t s K=>xPk t s K (od c) (od x) (od y)):=by
 refine C9 (fun c e=>by rw [ho] at e;cases e) fun run t s K out h=>?_
 unfold xPk at h;rw [Aj] at h;obtain ⟨b,hb,h⟩:=Qy h;unfold pk2 at h;have hcv:∀(x':Cx) (a:Act),EnvR x' t a o→a.eval c=Value.bool b:=fun x' a hF=>by
  have:=Ai (a:=a) hF hc;rw [hb] at this;exact this.boolI
 cases b with
 | true =>
  have h:t.K (od x) (fl K s)=some out:=h;rw [Aj] at h;refine ⟨_,h,fun x' a w hF=>⟨_,?_,Ai hF hx⟩⟩;unfold execOp;rw [ho];simp only [hcv x' a hF];rfl
 | false =>
  have h:t.K (od y) (fl K s)=some out:=h;rw [Aj] at h;refine ⟨_,h,fun x' a w hF=>⟨_,?_,Ai hF hy⟩⟩;unfold execOp;rw [ho];simp only [hcv x' a hF];rfl
end
end Go.Ev
namespace Go.Ev
open Go Go.Eng
set_option linter.unusedVariables false
theorem Ji {α:Type} (r:Int) (k:IntKind) (K:Value→Option α):Mp r k K=K (.int k (k.wrap r)):=by
 unfold Mp
 cases h:(ikE k .i64&&A0c r) with
 | false=>show fZ (k.wrap r) (Zc k K)=_;rw [Zh];rfl
 | true =>
  show fZ r (Zc k K)=_;rw [Zh];rw [Bool.and_eq_true] at h;have hk:=Te h.1;subst hk;have hb:=(Xb r).1 h.2;rw [Go.Eng.wrap64 hb];rfl
theorem Yt {t:Fm} {F:IntKind→Int→Int→Option Out} {x y:Od} {out:Out} (h:i2 t F x y=some out):∃k a b,t.v x=.int k a∧t.v y=.int k b∧F k a b=some out:=by
 unfold i2 at h;rw [Aj] at h;unfold i2y at h;rw [Aj] at h;obtain ⟨k,a,e1,h1⟩:=Er h;obtain ⟨k',b,e2,h2⟩:=Er h1;obtain ⟨hk,h3⟩:=Bc h2;exact ⟨k,a,b,e1,by rw [Te hk];exact e2,h3⟩
section
variable {P:Program} {o:Oper}
theorem Lz {x y:Operand} {F:XF} {G:(Value→S→Option Out)→S→IntKind→Int→Int→Option Out} {V:IntKind→Int→Int→Value} (hF:∀run t s K,F run t s K=i2 t (G K s) (od x) (od y)) (hG:∀K s k a b,G K s k a b=K (V k a b) s)
  (hx:OdIn o x) (hy:OdIn o y) (hd:∀c,o.op≠.defer c) (hV:∀k a b (c:Cx),VR c (V k a b) (V k a b))
  (hr:∀(ρ:Operand→Value) w k a b,ρ x=.int k a→ρ y=.int k b→(execOp ρ o).run P w=.ok (.value (V k a b)) w):C5 P o F:=by
 refine C9 hd fun run t s K out h=>?_;rw [hF] at h;obtain ⟨k,a,b,e1,e2,h⟩:=Yt h;rw [hG] at h;refine ⟨_,h,fun x' act w hFr=>⟨_,hr act.eval w k a b ?_ ?_,hV k a b x'⟩⟩
 ·have:=Ai (a:=act) hFr hx;rw [e1] at this;exact this.intI
 ·have:=Ai (a:=act) hFr hy;rw [e2] at this;exact this.intI
theorem A0u {x y:Operand} {tp ty:TypeId} (ho:o.op=.binOp .add tp x y ty) (hx:OdIn o x) (hy:OdIn o y):C5 P o (fun run t s K=>xAd t s K (od x) (od y)) :=
 Lz (G:=fun K s=>adF K s) (V:=fun k a b=>.int k (k.wrap (a+b))) (fun _ _ _ _=>rfl) (fun K s k a b=>by unfold adF;rw [Ji];rfl) hx hy (fun c e=>by rw [ho] at e;cases e) (fun _ _ _ _=>.int _ _)
  fun ρ w k a b h1 h2=>by simp [execOp,ho,h1,h2,eqGuard,binOp,Op.intArith]
theorem A11 {x y:Operand} {tp ty:TypeId} (ho:o.op=.binOp .sub tp x y ty) (hx:OdIn o x) (hy:OdIn o y):C5 P o (fun run t s K=>xSb t s K (od x) (od y)) :=
 Lz (G:=fun K s=>sbF K s) (V:=fun k a b=>.int k (k.wrap (a-b))) (fun _ _ _ _=>rfl) (fun K s k a b=>by unfold sbF;rw [Ji];rfl) hx hy (fun c e=>by rw [ho] at e;cases e) (fun _ _ _ _=>.int _ _)
  fun ρ w k a b h1 h2=>by simp [execOp,ho,h1,h2,eqGuard,binOp,Op.intArith]
theorem A0x {x y:Operand} {tp ty:TypeId} (ho:o.op=.binOp .mul tp x y ty) (hx:OdIn o x) (hy:OdIn o y):C5 P o (fun run t s K=>xMl t s K (od x) (od y)) :=
 Lz (G:=fun K s=>mlF K s) (V:=fun k a b=>.int k (k.wrap (a*b))) (fun _ _ _ _=>rfl) (fun K s k a b=>by unfold mlF;rw [Ji];rfl) hx hy (fun c e=>by rw [ho] at e;cases e) (fun _ _ _ _=>.int _ _)
  fun ρ w k a b h1 h2=>by simp [execOp,ho,h1,h2,eqGuard,binOp,Op.intArith]
theorem Ku {op:BinOp} {x y:Operand} {tp ty:TypeId} (hop:op=.eql∨op=.neq∨op=.lss∨op=.leq∨op=.gtr∨op=.geq) (ho:o.op=.binOp op tp x y ty) (hx:OdIn o x) (hy:OdIn o y) :
  C5 P o (fun run t s K=>xCm t s K op (od x) (od y)) :=
 Lz (G:=fun K s=>cmF K s op) (V:=fun k a b=>.bool (Zt op a b)) (fun _ _ _ _=>rfl) (fun K s k a b=>by unfold cmF;rw [Mn];rfl) hx hy (fun c e=>by rw [ho] at e;cases e) (fun _ _ _ _=>.bool _)
  fun ρ w k a b h1 h2=>by
   have l1:(!decide (b<a))=decide (a≤b):=by by_cases h:a≤b<;>simp [h]<;>omega
   have l2:(!decide (a<b))=decide (b≤a):=by by_cases h:b≤a<;>simp [h]<;>omega
   rcases hop with rfl|rfl|rfl|rfl|rfl|rfl<;>simp [execOp,ho,h1,h2,eqGuard,binOp,Op.intCmp,Zt,A0a,Tm,bne,l1,l2]
end
end Go.Ev
namespace Go.Ev
open Go Go.Eng
set_option linter.unusedVariables false
section
variable {P:Program} {o:Oper}
theorem A10 {x:Operand} {ty:TypeId} (ho:o.op=.unOp .not ty x) (hx:OdIn o x):C5 P o (fun run t s K=>xNt t s K (od x)):=by
 refine C9 (fun c e=>by rw [ho] at e;cases e) fun run t s K out h=>?_
 unfold xNt at h;rw [Aj] at h;obtain ⟨b,e1,h⟩:=Qy h;have h:K (.bool !b) s=some out:=by cases b<;>exact h
 refine ⟨_,h,fun x' a w hF=>⟨_,?_,.bool _⟩⟩;have:=Ai (a:=a) hF hx;rw [e1] at this;simp [execOp,ho,this.boolI,Op.unary]
theorem A0y {x:Operand} {ty:TypeId} (ho:o.op=.unOp .neg ty x) (hx:OdIn o x):C5 P o (fun run t s K=>xNg t s K (od x)):=by
 refine C9 (fun c e=>by rw [ho] at e;cases e) fun run t s K out h=>?_
 unfold xNg at h;rw [Aj] at h;obtain ⟨k,n,e1,h⟩:=Er h;have h:Mp (Int.sub 0 n) k (fl K s)=some out:=h;rw [Ji] at h;refine ⟨_,h,fun x' a w hF=>⟨_,?_,.int _ _⟩⟩;have:=Ai (a:=a) hF hx;rw [e1] at this;simp only [execOp,ho,this.intI,Op.unary,Op.intArith];rfl
theorem Xt {c:Call} {x y:Operand} {mn:Bool} (ho:o.op=.call c) (hc:c.callee=.builtin (if mn then .min else .max)) (ha:c.args.toList=[x,y]) (hx:OdIn o x) (hy:OdIn o y) :
  C5 P o (fun run t s K=>xMx t s K mn (od x) (od y)):=by
 refine C9 (fun c e=>by rw [ho] at e;cases e) fun run t s K out h=>?_
 unfold xMx at h;rw [Aj,Aj] at h;obtain ⟨k,a,e1,h1⟩:=Er h;obtain ⟨k',b,e2,h2⟩:=Er h1;obtain ⟨hk,h3⟩:=Bc h2;rw [←Te hk] at e2;have hargs:c.args=#[x,y]:=Array.toList_inj.1 (by rw [ha]);have h4:K (.int k (if (if mn then b<a else a<b) then b else a)) s=some out:=by
  cases mn with
  | true =>
   have h3:Bool.rec (motive:=fun _=>Option Out) (K (.int k a) s) (K (.int k b) s) (ltZ b a)=some out:=h3;rw [Tm] at h3
   by_cases q:b<a
   ·simp only [q,decide_true] at h3;simpa [q] using h3
   ·simp only [q,decide_false] at h3;simpa [q] using h3
  | false =>
   have h3:Bool.rec (motive:=fun _=>Option Out) (K (.int k a) s) (K (.int k b) s) (ltZ a b)=some out:=h3;rw [Tm] at h3
   by_cases q:a<b
   ·simp only [q,decide_true] at h3;simpa [q] using h3
   ·simp only [q,decide_false] at h3;simpa [q] using h3
 refine ⟨_,h4,fun x' act w hF=>⟨_,?_,.int _ _⟩⟩;have g1:=Ai (a:=act) hF hx;rw [e1] at g1;have g2:=Ai (a:=act) hF hy;rw [e2] at g2
 cases mn with
 | true=>simp [execOp,ho,resolve,hc,hargs,invoke,builtin,Builtin.min_,Builtin.min2,g1.intI,g2.intI]
 | false=>simp [execOp,ho,resolve,hc,hargs,invoke,builtin,Builtin.max_,Builtin.max2,g1.intI,g2.intI]
theorem Xr {x:Operand} {tp:TypeId} {fs:Array Field} {i z:Nat} {f:Field} (ho:o.op=.fieldAddr tp x i) (hu:P.underlying tp=some (.struct fs)) (hf:fs[i]? = some f) (hz:szT P f.type=some (z+1)) (hx:OdIn o x) :
  C5 P o (fun run t s K=>xFa t s K (od x) f.offset):=by
 refine C9 (fun c e=>by rw [ho] at e;cases e) fun run t s K out h=>?_
 unfold xFa at h;rw [Aj] at h;obtain ⟨m,of,e1,h⟩:=K4 h;unfold fa2 at h;rw [B9] at h;unfold szT at hz
 cases hi:P.info? f.type with
 | none=>rw [hi] at hz;cases hz
 | some inf =>
  rw [hi] at hz;simp only [Option.map_some,Option.some.injEq] at hz;refine ⟨_,h,fun x' a w hF=>?_⟩;have:=Ai (a:=a) hF hx;rw [e1] at this;obtain ⟨b,o',h1,h2⟩:=this.ptrI;refine ⟨.pointer (some ⟨b,o'+(of+f.offset),none⟩),?_,.ptr h1⟩;simp [execOp,ho,h2,Instr.fieldAt,run_underlying hu,hf,Instr.sureAddr,fieldPlace,sizeOf,typeInfo,hi,hz,Addr.add_lit,Nat.add_assoc]
theorem Xs {x i:Operand} {tp e:TypeId} {z:Nat} (ho:o.op=.indexAddr tp x i) (hu:P.underlying tp=some (.slice e)) (hz:szT P e=some z) (hx:OdIn o x) (hi:OdIn o i) :
  C5 P o (fun run t s K=>xIa t s K (od x) (od i) z):=by
 refine C9 (fun c e=>by rw [ho] at e;cases e) fun run t s K out h=>?_
 unfold xIa at h;rw [Aj] at h;obtain ⟨ad,l,c,e1,h1⟩:=H4 h;obtain ⟨m,of,rfl,h2⟩:=R5 h1;unfold ia1 at h2;rw [Aj] at h2;obtain ⟨k,n,e2,h3⟩:=Er h2;obtain ⟨j,rfl,h4⟩:=Lv h3;obtain ⟨hj,h5⟩:=Bc h4;rw [B9] at h5;rw [Nat.blt_eq] at hj;unfold szT at hz
 cases hinf:P.info? e with
 | none=>rw [hinf] at hz;cases hz
 | some inf =>
  rw [hinf] at hz;simp only [Option.map_some,Option.some.injEq] at hz;refine ⟨_,h5,fun x' a w hF=>?_⟩;have g1:=Ai (a:=a) hF hx;rw [e1] at g1;have g2:=Ai (a:=a) hF hi;rw [e2] at g2;generalize hv:a.eval x=v' at g1
  cases g1 with
  | sl h1 ho' hc =>
   rename_i b o' o'' c'
   have hoe:o''=o'+of:=by rcases ho' with q|q;exact q;omega
   subst hoe;refine ⟨.pointer (some ⟨b,o'+(of+j*z),none⟩),?_,.ptr h1⟩;simp [execOp,ho,hv,g2.intI,Instr.indexAt,run_underlying hu,asIntOf,sizeOf,typeInfo,hinf,hz,Addr.add_lit,hj,Nat.add_assoc]
end
end Go.Ev
namespace Go.Ev
open Go Go.Eng
set_option linter.unusedVariables false
section
variable {P:Program} {w0 w:World} {s s':S} {H:Mem} {x:Cx} {o:Oper}
theorem Df {T:Nat} (hT:∀p,s.T.testBit p=true→T.testBit p=true):Stp s ⟨s.h,s.c,T,s.W,s.m⟩:=⟨fun h=>h,Nat.le_refl _,hT,fun _ h=>h,fun _ _ _=>rfl,fun _ h=>.inl h,rfl⟩
theorem F8 {T:Nat} (ho:s.Ok) (hT:∀p,s.T.testBit p=true→T.testBit p=true):S.Ok ⟨s.h,s.c,T,s.W,s.m⟩:=⟨ho.wf,fun p hp=>⟨hT p (ho.W p hp).1,(ho.W p hp).2⟩⟩
theorem Pre.rd {T:Nat} {v v':Value} (hT:∀p,s.T.testBit p=true→T.testBit p=true) (h:Pre P w0 s ⟨s.h,s.c,T,s.W,s.m⟩ H x w) (ho:s.Ok) (hv:VR x v v'):Post P w0 s ⟨s.h,s.c,T,s.W,s.m⟩ v H x v' w:=by
 refine ⟨x,x.to_refl _ _,hv,?_,h.ext⟩;have e:Over s ⟨s.h,s.c,T,s.W,s.m⟩ H=H:=by
  have:=E6 ho (H:=H) fun p hp=>(h.W ho (Df hT) p hp).1;exact this
 rw [e];exact h.rel
theorem Ah {a b:Nat}:∀p,a.testBit p=true→(a ||| b).testBit p=true:=fun p h=>by rw [Nat.testBit_or,h];rfl
theorem M7 {t:TypeId} (h:Lj P t=some false):Eh P t=true:=by
 unfold Lj at h;unfold Eh
 cases hu:P.underlying t with
 | none=>rw [hu] at h;cases h
 | some d=>rw [hu] at h;cases d<;>simp_all [isAgg,underlying,program,pureSem,bind,Sem.bind,pure]
theorem Kb {t:TypeId} {z:Nat} (h:Lj P t=some true) (hz:szT P t=some z):Ea P t=some z:=by
 unfold Lj at h;unfold Ea;unfold szT at hz
 cases hi:P.info? t with
 | none=>rw [hi] at hz;cases hz
 | some inf =>
  rw [hi] at hz;simp only [Option.map_some,Option.some.injEq] at hz
  cases hu:P.underlying t with
  | none=>rw [hu] at h;cases h
  | some d=>rw [hu] at h;cases d<;>simp_all [isAgg,underlying,program,pureSem,bind,Sem.bind,pure,sizeOf,typeInfo]
theorem Um {t:TypeId} {a:Operand} {g:Bool} {n:Nat} (hop:o.op=.load t a) (ha:OdIn o a) (hg:(g=true∧Lj P t=some true∧szT P t=some n)∨(g=false∧Lj P t=some false∧n=1)) :
  C5 P o (fun run t s K=>xLd t s K (od a) g n):=by
 intro run fm s K out hr ho h;have h:fm.K (od a) (ld1 K s g n)=some out:=h;rw [Aj] at h;obtain ⟨m,off,e1,h⟩:=K4 h;unfold ld2 at h;rw [Gt] at h;obtain ⟨l,hl,h⟩:=Au h;unfold ld3 at h;rw [Jx] at h;have hT:∀p,s.T.testBit p=true→(s.T ||| bits (m+1+off) n).testBit p=true:=Ah;have real:∀{w0:World} {H:Mem} {x:Cx} {w:World} {act:Act},Pre P w0 s (s.rds (m+1+off) n) H x w→EnvR x fm act o →
   ∃b o' l',act.eval a=.pointer (some ⟨b,o'+off,none⟩)∧VRL x l l'∧l'.length=n∧∀j u,l'[j]? = some u→w.cell? ⟨b,o'+off+j,none⟩=some u:=by
  intro w0 H x w act hp hF;have g1:=Ai (a:=act) hF ha;rw [e1] at g1;obtain ⟨b,o',h1,h2⟩:=g1.ptrI;obtain ⟨hlen,hget⟩:=Bo hl;obtain ⟨l',q1,q2,q3⟩:=D0 hp.rel hl (fun p hp1 hp2=>by
   obtain ⟨j,rfl⟩:∃j,p=m+1+off+j:=⟨p-(m+1+off),by omega⟩;have hj:j<l.length:=by omega
   have:=hget j l[j] (List.getElem?_eq_getElem hj);exact hp.agree _ (ho.wf.lt this) (by show (s.T ||| bits (m+1+off) n).testBit _=true;rw [Nat.testBit_or,Ba];simp;omega)) h1
  exact ⟨b,o',l',h2,q1,q2,fun j u hu=>(q3 j u hu).1⟩
 have hd:∀c,o.op≠.defer c:=fun c e=>by rw [hop] at e;cases e
 rcases hg with ⟨rfl,hag,hz⟩|⟨rfl,hag,rfl⟩
 ·have h:K (.agg ⟨l⟩) (s.rds (m+1+off) n)=some out:=h;refine ⟨_,_,Df hT,F8 ho hT,h,fun w0 H x w r act hp hF=>?_⟩;obtain ⟨b,o',l',h1,h2,h3,h4⟩:=real hp hF;refine Ca (v:=.agg l'.toArray) hd ?_ (hp.rd hT ho (.agg h2));have:=Fk (P:=P) (w:=w) (t:=t) (p:=⟨b,o'+off,none⟩) (cs:=l') (by rw [h3];exact Kb hag hz) (fun j u hu=>by rw [Addr.add_lit];exact h4 j u hu);simp [execOp,hop,h1,this]
 ·cases l with
  | nil=>cases h
  | cons v l =>
   have h:K v (s.rds (m+1+off) 1)=some out:=h;refine ⟨_,_,Df hT,F8 ho hT,h,fun w0 H x w r act hp hF=>?_⟩;obtain ⟨b,o',l',h1,h2,h3,h4⟩:=real hp hF
   cases h2 with
   | cons hv ht =>
    rename_i v' l''
    refine Ca (v:=v') hd ?_ (hp.rd hT ho hv);have:=Fj (P:=P) (w:=w) (t:=t) (p:=⟨b,o'+off,none⟩) (u:=v') (M7 hag) (by have:=h4 0 v' (by simp);simpa using this);simp [execOp,hop,h1,this]
end
end Go.Ev
namespace Go.Ev
open Go Go.Eng
set_option linter.unusedVariables false
section
variable {P:Program} {w0 w:World} {s s':S} {H:Mem} {x:Cx} {o:Oper}
theorem L2 {n off k:Nat} {vs:List Value} (ho:s.Ok) (h:s.store n off k vs=some s'):Stp s s'∧s'.Ok∧vs.length=k∧vs.all Value.oneCell'=true∧∃l,s.load n off k=some l:=by
 unfold S.store at h
 split at h
 ·rename_i l hl
  cases hb:(Nat.beq vs.length k&&vs.all Value.oneCell') with
  | false=>rw [hb] at h;cases h
  | true =>
   rw [hb] at h;simp only [cond_true,Option.some.injEq] at h;rw [Bool.and_eq_true] at hb;have hk:vs.length=k:=Nat.eq_of_beq_eq_true hb.1;obtain ⟨hlen,hget⟩:=Bo hl;have hlt:∀p,n+1+off≤p→p<n+1+off+k→p<s.c:=by
    intro p h1 h2;obtain ⟨j,rfl⟩:∃j,p=n+1+off+j:=⟨p-(n+1+off),by omega⟩;have hj:j<l.length:=by omega
    exact ho.wf.lt (hget j l[j] (List.getElem?_eq_getElem hj))
   subst h;refine ⟨⟨fun hw p hp=>?_,Nat.le_refl _,Ah,Ah,fun p hp hW=>?_,fun p hp=>?_,rfl⟩,⟨fun p hp=>?_,fun p hp=>?_⟩,hk,hb.2,l,hl⟩
   ·show (Ey n vs (n+1+off) s.h).g (pn p)=none;rw [Dd]
    ·exact hw p hp
    ·rcases Nat.lt_or_ge p (n+1+off) with q|q
     ·exact .inl q
     ·refine .inr ?_;rcases Nat.lt_or_ge p (n+1+off+vs.length) with q'|q'
      ·have:=hlt p q (by omega);have hp':s.c≤p:=hp;omega
      ·exact q'
   ·show (Ey n vs (n+1+off) s.h).g (pn p)=s.h.g (pn p);refine Dd _ _ _ _ _ ?_;simp only [Nat.testBit_or,Ba,Bool.or_eq_false_iff,decide_eq_false_iff_not] at hW;omega
   ·simp only [Nat.testBit_or,Bool.or_eq_true] at hp ⊢;rcases hp with q|q
    ·exact .inl q
    ·exact .inr (.inr q)
   ·show (Ey n vs (n+1+off) s.h).g (pn p)=none;rw [Dd]
    ·exact ho.wf p hp
    ·rcases Nat.lt_or_ge p (n+1+off) with q|q
     ·exact .inl q
     ·refine .inr ?_;rcases Nat.lt_or_ge p (n+1+off+vs.length) with q'|q'
      ·have:=hlt p q (by omega);have hp':s.c≤p:=hp;omega
      ·exact q'
   ·simp only [Nat.testBit_or,Bool.or_eq_true] at hp ⊢;rcases hp with q|q
    ·exact ⟨.inl (ho.W p q).1,(ho.W p q).2⟩
    ·rw [Ba,decide_eq_true_eq] at q;exact ⟨.inr (by rw [Ba,decide_eq_true_eq];exact q),hlt p q.1 q.2⟩
 ·cases h
theorem A12 {v v':Value} (h:VR x v v') (h1:v.oneCell'=true):v'.oneCell'=true:=by cases h<;>first|rfl|(simp [Value.oneCell'] at h1)
theorem Ju:∀{l l':List Value},VRL x l l'→l.all Value.oneCell'=true→∀u∈l',u.oneCell'=true
 | _,_,.nil,_,u,hu=>by simp at hu
 | _,_,.cons h t,hl,u,hu=>by
  rw [List.all_cons,Bool.and_eq_true] at hl;rcases List.mem_cons.1 hu with rfl|hu
  ·exact A12 h hl.1
  ·exact Ju t hl.2 u hu
theorem Dw {b:Nat} (hb:w0.heap.size≤b):∀(vs:List Value) (o:Nat) (w:World),Ext w0 w→Ext w0 (w.setCells b o vs)
 | [],_,_,h=>h
 | v::vs,o,w,h=>Dw hb vs (o+1) _ (RowKit.Below.setCell h hb v)
theorem Xx {t:TypeId} {a v:Operand} {n:Nat} (hop:o.op=.store t a v) (ha:OdIn o a) (hv:OdIn o v) (hz:szT P t=some n):C5 P o (fun run t s K=>xSt t s K (od a) (od v) n):=by
 intro run fm s K out hr ho h;have h:fm.K (od a) (st1 K s fm (od v) n)=some out:=h;rw [Aj] at h;obtain ⟨m,off,e1,h⟩:=K4 h;unfold st2 at h;rw [Aj] at h;unfold st3 at h;rw [L1] at h;obtain ⟨s',hs,h⟩:=Au h;have h:K undef s'=some out:=h;obtain ⟨q1,q2,q3,q4,l,q5⟩:=L2 ho hs;have hs0:=hs;refine ⟨_,s',q1,q2,h,fun w0 H x w r act hp hF=>?_⟩;have g1:=Ai (a:=act) hF ha;rw [e1] at g1;obtain ⟨b,o',h1,h2⟩:=g1.ptrI;have g2:=(Ai (a:=act) hF hv).cells;obtain ⟨hlen,hget⟩:=Bo q5;have hT:∀p,m+1+off≤p→p<m+1+off+n→s'.T.testBit p=true:=by
  intro p p1 p2;unfold S.store at hs;rw [q5] at hs;simp only at hs;rw [show (Nat.beq (fm.v (od v)).cells.toList.length n&&(fm.v (od v)).cells.toList.all Value.oneCell')=true by rw [q4,q3];simp] at hs;simp only [cond_true,Option.some.injEq] at hs;subst hs;simp only [Nat.testBit_or,Ba,Bool.or_eq_true,decide_eq_true_eq];exact .inr ⟨p1,p2⟩
 have hA:∀p,m+1+off≤p→p<m+1+off+n→H p=s.get p:=by
  intro p p1 p2;obtain ⟨j,rfl⟩:∃j,p=m+1+off+j:=⟨p-(m+1+off),by omega⟩;have hj:j<l.length:=by omega
  exact hp.agree _ (ho.wf.lt (hget j l[j] (List.getElem?_eq_getElem hj))) (hT _ p1 p2)
 have hrel:=J7 hp.rel ho.wf hs0 hA (fun p hpp=>(hp.W ho q1 p hpp).1) g2 h1;obtain ⟨l',r1,r2,r3⟩:=D0 hp.rel q5 hA h1;have hd:∀c,o.op≠.defer c:=fun c e=>by rw [hop] at e;cases e
 have hlen':(act.eval v).cells.toList.length=n:=by rw [←g2.len];exact q3
 have hst:=run_storeCells_cells (P:=P) b (o'+off) (act.eval v).cells.toList 0 w (fun j hj=>by
  have hj':j<l'.length:=by omega
  simp only [Nat.add_zero];rw [(r3 j l'[j] (List.getElem?_eq_getElem hj')).1];rfl) (fun j hj=>by
  have hj':j<l'.length:=by omega
  simp only [Nat.add_zero];exact (r3 j l'[j] (List.getElem?_eq_getElem hj')).2) (Ju g2 q4)
 simp only [Nat.add_zero] at hst;have hext:Ext w0 (w.setCells b (o'+off) (act.eval v).cells.toList):=by
  by_cases hn:n=0
  ·have:(act.eval v).cells.toList=[]:=List.eq_nil_of_length_eq_zero (by omega);rw [this];exact hp.ext
  ·have hj:0<l.length:=by omega
   have hH:=hA (m+1+off+0) (by omega) (by omega);have hc:=hget 0 l[0] (List.getElem?_eq_getElem hj);rw [show s.h.g (pn (m+1+off+0))=s.get (m+1+off+0) from rfl] at hc;rw [hc] at hH;exact Dw (hp.rel.low _ _ _ hH h1) _ _ _ hp.ext
 unfold szT at hz
 cases hi:P.info? t with
 | none=>rw [hi] at hz;cases hz
 | some inf =>
  rw [hi] at hz;simp only [Option.map_some,Option.some.injEq] at hz;have hsz:(act.eval v).cells.size=inf.size:=by rw [hz,←hlen'];simp
  unfold OpZ;rw [Oper.semAt_eq r act.eval o hd];have hrun:(execOp act.eval o).run P w=.ok .skip (w.setCells b (o'+off) (act.eval v).cells.toList):=by
   simp [execOp,hop,h2,Instr.storeAt,Instr.sureAddr,storeVar,sizeOf,typeInfo,hi,hsz,hst]
  rw [hrun];exact ⟨x,x.to_refl _ _,.undef,hrel,hext⟩
end
end Go.Ev
namespace Go.Ev
open Go Go.Eng
set_option linter.unusedVariables false
section
variable {P:Program} {N0:Nat} {w0 w w':World} {s s':S} {H:Mem} {x:Cx} {o:Oper}
theorem Jp (hR:Rel P N0 x H w) {p:Nat} {ob:AObj} {a:Addr} (hp:H p=some ob) (ha:x.ρ (ownOf p ob)=some a):a.block<w.heap.size:=by
 have h:=hR.obj p ob hp
 cases ob with
 | hd size e g =>
  obtain ⟨b,o,n,h1,h2,_⟩:=h;simp only [ownOf] at ha;rw [h1] at ha;cases ha
  have:=h2.shape;unfold World.shape? at this;rcases Nat.lt_or_ge b w.heap.size with q|q
  ·exact q
  ·rw [Array.getElem?_eq_none q] at this;cases this
 | cell own v=>obtain ⟨b,o,v',h1,h2,h3,_⟩:=h;simp only [ownOf] at ha;rw [h1] at ha;cases ha;exact World.block_lt_of_cell? w ⟨b,o+(p-own-1),none⟩ h3
 | map es ck=>obtain ⟨b,es',h1,h2,_⟩:=h;simp only [ownOf] at ha;rw [h1] at ha;cases ha;exact (Array.getElem?_eq_some_iff.1 h2).1
 | loop st pe t ps asg body=>obtain ⟨b,l,h1,h2,_⟩:=h;simp only [ownOf] at ha;rw [h1] at ha;cases ha;exact (Array.getElem?_eq_some_iff.1 h2).1
 | dfr f=>obtain ⟨b,h1,h2⟩:=h;simp only [ownOf] at ha;rw [h1] at ha;cases ha;exact (Array.getElem?_eq_some_iff.1 h2).1
theorem Dc {vs:List Value} {e:TypeId} {g:Bool} (ho:s.Ok):Stp s (s.row vs e g)∧(s.row vs e g).Ok:=by
 have hget:∀p,(p<s.c∨s.c+1+vs.length≤p)→(s.row vs e g).get p=s.get p:=by
  intro p hp;show (Ey s.c vs (s.c+1) (Tr.s (pn s.c) (some (.hd vs.length e g)) s.h)).g (pn p)=s.h.g (pn p);rw [Dd _ _ _ _ _ (by omega),Di _ _ (by omega)]
 have hwf:s.Wf→(s.row vs e g).Wf:=fun hw p hp=>by
  have hp:s.c+1+vs.length≤p:=hp;rw [hget p (by omega)];exact hw p (by omega)
 refine ⟨⟨hwf,by show s.c≤s.c+1+vs.length;omega,fun _ h=>h,fun _ h=>h,fun p hp _=>hget p (.inl hp),fun _ h=>.inl h,rfl⟩,⟨hwf ho.wf,fun p hp=>?_⟩⟩;have hp:s.W.testBit p=true:=hp;exact ⟨(ho.W p hp).1,by show p<s.c+1+vs.length;have:=(ho.W p hp).2;omega⟩
theorem Gr (w:World) (ob:Obj):Keeps w (w.alloc ob):=fun b o' hb=>by
 have:=(Array.getElem?_eq_some_iff.1 hb).1;rw [RowKit.Below.heap_alloc w ob b this];exact hb
theorem Es (h:Ext w0 w) (ob:Obj):Ext w0 (w.alloc ob):=RowKit.Below.alloc h h.size ob
theorem Lx {vs vs':List Value} {e:TypeId} (ho:s.Ok) (hp:Pre P w0 s (s.row vs e false) H x w) (hv:VRL x vs vs') :
  ∃y,x.to y s.c (s.row vs e false).c∧y.ρ s.c=some ⟨w.heap.size,0,none⟩∧Rel P w0.heap.size y (Over s (s.row vs e false) H) (w.alloc (.cells vs'.toArray e))∧Ext w0 (w.alloc (.cells vs'.toArray e)):=by
 have hlt:s.c<(s.row vs e false).c:=by show s.c<s.c+1+vs.length;omega
 obtain ⟨f1,f2⟩:=hp.fresh s.c (Nat.le_refl _) (.inl hlt);have hnew:(w.alloc (.cells vs'.toArray e)).heap[w.heap.size]? = some (.cells vs'.toArray e):=by
  show (w.heap.push _)[w.heap.size]? = _;simp
 refine ⟨x.add s.c ⟨w.heap.size,0,none⟩ none vs.length,Cx.add_to f1 f2 hlt,by simp [Cx.add],?_,Es hp.ext _⟩;refine Jy (vs':=vs') (m:=vs'.length) (hp.rel.keep (Gr w _)) ho.wf (hp.W ho (Dc ho).1) f1 f2 (fun p ob a h1 h2=>?_) hp.ext.size ⟨?_,fun off=>?_⟩ (by rw [hv.len];omega) (fun j u hj=>?_) hv (fun _=>rfl) (fun sz en h=>by cases h)
 ·have:=Jp hp.rel h1 h2;omega
 ·unfold World.shape?;rw [hnew];simp
 ·unfold World.frozen?;simp only;rw [hnew];simp
 ·unfold World.cell?;simp only;rw [hnew];simp;simpa using hj
theorem Hn {t:TypeId} {z:Value} (h:zrT P t=some z):∃inf,P.info? t=some inf∧inf.zero=some z∧gnd 6 z=true∧z.cells.toList.length=inf.size:=by
 unfold zrT at h
 cases hi:P.info? t with
 | none=>rw [hi] at h;cases h
 | some inf =>
  rw [hi] at h;simp only [Option.bind_some] at h
  cases hz:inf.zero with
  | none=>rw [hz] at h;cases h
  | some z' =>
   rw [hz] at h;simp only [Option.bind_some] at h
   cases hb:(gnd 6 z'&&Nat.beq z'.cells.toList.length inf.size) with
   | false=>rw [hb] at h;cases h
   | true =>
    rw [hb] at h;simp only [cond_true,Option.some.injEq] at h;subst h;rw [Bool.and_eq_true] at hb;exact ⟨inf,rfl,hz,hb.1,Nat.eq_of_beq_eq_true hb.2⟩
theorem Xm {t:TypeId} {z:Value} (hop:o.op=.alloc t) (hz:zrT P t=some z):C5 P o (fun run t' s K=>xAl s K z.cells.toList t):=by
 intro run fm s K out hr ho h;have h:s.rowK z.cells.toList t false (K (.pointer (some ⟨s.c,0,none⟩)))=some out:=h;rw [Fa] at h;obtain ⟨inf,hi,hz,hg,hlen⟩:=Hn hz;obtain ⟨q1,q2⟩:=Dc (vs:=z.cells.toList) (e:=t) (g:=false) ho;refine ⟨_,_,q1,q2,h,fun w0 H x w r act hp hF=>?_⟩;obtain ⟨y,y1,y2,y3,y4⟩:=Lx ho hp (Ct 6 z hg).cells;have hd:∀c,o.op≠.defer c:=fun c e=>by rw [hop] at e;cases e
 unfold OpZ;rw [Oper.semAt_eq r act.eval o hd];have hrun:(execOp act.eval o).run P w=.ok (.value (.pointer (some ⟨w.heap.size,0,none⟩))) (w.alloc (.cells z.cells.toList.toArray t)):=by
  have hn:∀ob,(newObj ob).run P w=.ok w.heap.size (w.alloc ob):=fun _=>rfl;simp [execOp,hop,Instr.alloc,zeroValue,typeInfo,hi,hz,newVar,newRow,hn]
 rw [hrun];exact ⟨y,y1,.ptr (off:=0) y2,y3,y4⟩
theorem A0v {t:TypeId} {v:Operand} (hop:o.op=.box t v) (hv:OdIn o v):C5 P o (fun run t' s K=>xBx t' s K (od v) t):=by
 intro run fm s K out hr ho h;have h:fm.K (od v) (bx1 K s t)=some out:=h;rw [Aj] at h;unfold bx1 at h;rw [Fa] at h;obtain ⟨q1,q2⟩:=Dc (vs:=(fm.v (od v)).cells.toList) (e:=t) (g:=false) ho;refine ⟨_,_,q1,q2,h,fun w0 H x w r act hp hF=>?_⟩;obtain ⟨y,y1,y2,y3,y4⟩:=Lx ho hp (Ai (a:=act) hF hv).cells;have hd:∀c,o.op≠.defer c:=fun c e=>by rw [hop] at e;cases e
 unfold OpZ;rw [Oper.semAt_eq r act.eval o hd];have hrun:(execOp act.eval o).run P w=.ok (.value (.pointer (some ⟨w.heap.size,0,none⟩))) (w.alloc (.cells (act.eval v).cells.toList.toArray t)):=by
  have hn:∀ob,(newObj ob).run P w=.ok w.heap.size (w.alloc ob):=fun _=>rfl;simp [execOp,hop,Instr.box,newVar,newRow,hn]
 rw [hrun];exact ⟨y,y1,.ptr (off:=0) y2,y3,y4⟩
end
end Go.Ev
