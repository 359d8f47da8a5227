import Derived.Test.YtbhjgebjojdohaaF11XD
set_option linter.unusedVariables false
set_option linter.unusedSimpArgs false
set_option linter.unusedSectionVars false
namespace Go.Proofs.Ytbhjgebjojdohaa
open Go Go.RowKit Go.Eng
set_option maxRecDepth 10000
set_option linter.unusedVariables false
set_option linter.unusedSimpArgs false
theorem ckb {β : Type} {x : Int} {f : Int→Option β} (h : -9000000000000000000≤x∧x≤9000000000000000000) : (ck x).bind f = f x:=by
 unfold ck; rw [if_pos (by omega)]; rfl
theorem gdT {α : Type} {g : Bool} {o : Option α} {d : α} (h : g = true) : gd g o d = o:=by subst h; rfl
theorem gdF {α : Type} {g : Bool} {o : Option α} {d : α} (h : g = false) : gd g o d = some d:=by subst h; rfl
theorem bifT {α : Type} {c : Bool} {x y : α} (h : c = true) : (bif c then x else y) = x:=by rw [h]; rfl
theorem bifF {α : Type} {c : Bool} {x y : α} (h : c = false) : (bif c then x else y) = y:=by rw [h]; rfl
theorem sb {α β : Type} {x : α} {f : α→Option β} : (some x).bind f = f x:=rfl
theorem getb {α β : Type} {l : List α} {i : Int} {f : α→Option β} (d : α) (h : 0≤i∧i < l.length) : (getI l i).bind f = f (l.getD i.toNat d):=by
 unfold getI
 rw [if_pos h.1,List.getElem?_eq_getElem (by omega),List.getD_eq_getElem?_getD,List.getElem?_eq_getElem (by omega)]
 rfl
theorem apdb {α β : Type} {l k : List α} {B : Nat} {f : List α→Option β} (h : (l.length + k.length) * B≤140737488355328∧l.length + k.length≤9223372036854775807) : (apd B l k).bind f = f (l ++ k):=by
 unfold apd
 rw [if_pos h]
 rfl
end Go.Proofs.Ytbhjgebjojdohaa
namespace Go.Proofs.Ytbhjgebjojdohaa
open Go Go.RowKit Go.Eng
set_option maxRecDepth 10000
set_option linter.unusedVariables false
set_option linter.unusedSimpArgs false
def us (t : ref02_Train) (w : Int) : Int:=if w = 0 then t.First else t.Second
def spd (t : ref02_Train) (w : Int) (s : api_Span) (k : Int) : api_Span :=
 ⟨500 * t.Lambda * (s.Lo + k * 65536) / (65536 * us t w),-(-(500 * t.Lambda * (s.Hi + k * 65536)) / (65536 * us t w))⟩
def comm (a b : api_Span) : api_Span:=⟨if b.Lo > a.Lo then b.Lo else a.Lo,if b.Hi < a.Hi then b.Hi else a.Hi⟩
theorem fold_common_eq (a b : api_Span) : fold_common a b = (comm a b,decide ((comm a b).Lo≤(comm a b).Hi)):=rfl
def stepOf (x : api_Echo) (w : Int) : api_Span:=if w = 0 then x.Steps.1 else x.Steps.2
def spw (t : ref02_Train) (x : api_Echo) (m : Int) (w k : Int) : api_Span:=comm (spd t w (stepOf x w) k) ⟨-m,m⟩
def isw (t : ref02_Train) (x : api_Echo) (m : Int) (w k : Int) : Bool:=decide ((spw t x m w k).Lo≤(spw t x m w k).Hi)
end Go.Proofs.Ytbhjgebjojdohaa
namespace Go.Proofs.Ytbhjgebjojdohaa
open Go Go.RowKit Go.Eng
set_option maxRecDepth 10000
set_option linter.unusedVariables false
set_option linter.unusedSimpArgs false
section
variable {t : ref02_Train} {x : api_Echo} {m w : Int}
end
end Go.Proofs.Ytbhjgebjojdohaa
namespace Go.Proofs.Ytbhjgebjojdohaa
open Go Go.RowKit Go.Eng
set_option maxRecDepth 10000
set_option linter.unusedVariables false
set_option linter.unusedSimpArgs false
def nonempty (s : api_Span) : Bool:=decide (s.Lo≤s.Hi)
theorem drop_cons {α : Type} {l : List α} {i : Nat} (h : i < l.length) (d : α) : l.drop i = l.getD i d :: l.drop (i + 1):=by
 rw [List.drop_eq_getElem_cons h,List.getD_eq_getElem?_getD,List.getElem?_eq_getElem h]; rfl
section
variable {t : ref02_Train} {x : api_Echo} {m : Int}
end
end Go.Proofs.Ytbhjgebjojdohaa
namespace Go.Proofs.Ytbhjgebjojdohaa
open Go Go.RowKit Go.Eng
set_option maxRecDepth 10000
set_option linter.unusedVariables false
set_option linter.unusedSimpArgs false
def conv (g : fold_Guess) : ref03_Guess:=⟨g.Whole,g.Speed⟩
section
variable {t : ref02_Train} {x : api_Echo} {m : Int}
def badW (t : ref02_Train) (x : api_Echo) (m w : Int) : Prop:=isw t x m w (-64) = true∨isw t x m w 64 = true
instance (w : Int) : Decidable (badW t x m w):=by unfold badW; infer_instance
end
end Go.Proofs.Ytbhjgebjojdohaa
namespace Go.Proofs.Ytbhjgebjojdohaa
open Go Go.RowKit Go.Eng
set_option maxRecDepth 10000
set_option linter.unusedVariables false
set_option linter.unusedSimpArgs false
theorem sort_span (F : Nat) (l : List api_Span) (hb : ∀ s ∈ l,spB s) (hl : l.length < 4611686018427387904) : ∃ l',slices_SortFunc100 F l = some l'∧l'.Perm l∧l'.Pairwise (fun x y=>x.Lo≤y.Lo):=by
 unfold slices_SortFunc100
 rw [dif_pos ⟨hb,hl⟩]
 have hlt : ∀ x y : {s : api_Span // spB s},Go.Proofs.ltOf spCmp x y = decide (x.val.Lo < y.val.Lo):=by
  intro x y
  unfold Go.Proofs.ltOf spCmp
  congr 1
  simp only [eq_iff_iff]
  omega
 have hO : Go.Sort.SWO (Go.Proofs.ltOf spCmp):=by
  constructor
  ·intro x; rw [hlt]; simp
  ·intro x y z h1 h2; rw [hlt] at *; simp at *; omega
  ·intro x y z h1 h2; rw [hlt] at *; simp at *; omega
 obtain ⟨_,h2,h3⟩:=sortL_facts spCmp hO (l.pmap Subtype.mk hb)
 refine ⟨_,rfl,?_,?_⟩
 ·have:=h2.map Subtype.val
  refine this.trans ?_
  rw [List.map_pmap]
  simp
 ·rw [List.pairwise_map]
  refine h3.imp ?_
  intro x y h
  rw [hlt] at h
  simpa using h
def mg : api_Span→List api_Span→List api_Span
 | c,[]=>[c]
 | c,x :: xs=>if x.Lo≤c.Hi then mg ⟨c.Lo,if x.Hi > c.Hi then x.Hi else c.Hi⟩ xs else c :: mg x xs
def mergeL : List api_Span→List api_Span
 | []=>[]
 | x :: xs=>mg x xs
def closed (l : List api_Span) (H : Int) : Prop:=∀ x ∈ l,x.Lo≤H→x.Hi≤H
theorem united_loop (y : List api_Span) : ∀ (n N i : Nat) (pre : List api_Span) (c : api_Span),i + n = y.length→n < N→pre.length + n≤8000000000000→y.length≤8000000000000 →
  fold_speeds_united_L2 y N (i : Int) (pre ++ [c]) = some (pre ++ mg c (y.drop i)):=by
 intro n
 induction n with
 | zero =>
  intro N i pre c hi hN hp hi2
  obtain ⟨N,rfl⟩ : ∃ N',N = N' + 1:=⟨N - 1,by omega⟩
  show fold_speeds_united_B2 y (fold_speeds_united_L2 y N) (i : Int) (pre ++ [c]) = _
  unfold fold_speeds_united_B2
  rw [bifF (by simp; omega),List.drop_eq_nil_of_le (by omega)]
  rfl
 | succ n ih =>
  intro N i pre c hi hN hp hi2
  obtain ⟨N,rfl⟩ : ∃ N',N = N' + 1:=⟨N - 1,by omega⟩
  show fold_speeds_united_B2 y (fold_speeds_united_L2 y N) (i : Int) (pre ++ [c]) = _
  unfold fold_speeds_united_B2
  rw [drop_cons (i:=i) (by omega) default]
  rw [bifT (by simp; omega),getb default (by omega),Int.toNat_natCast]
  generalize y.getD i default = x
  have hlen : (pre ++ [c]).length = pre.length + 1:=by simp
  have hpos : decide ((((pre ++ [c]).length : Nat) : Int) > 0) = true:=by rw [hlen]; simp
  have hidx : ((((pre ++ [c]).length : Nat) : Int) - 1) = (pre.length : Nat):=by rw [hlen]; omega
  have hget : (pre ++ [c]).getD pre.length default = c:=by simp [List.getD_eq_getElem?_getD]
  simp only [hpos]
  rw [gdT (g:=true == true && true) rfl,ckb (by rw [hlen]; omega),gdT (g:=true == true && true) rfl,hidx,getb default (by rw [hlen]; omega),Int.toNat_natCast,hget]
  unfold fold_speeds_united_K3
  have hck : ∀ (l : List api_Span),(ck ((i : Int) + 1)).bind (fun x179=>fold_speeds_united_L2 y N x179 l) = fold_speeds_united_L2 y N (((i + 1 : Nat) : Int)) l:=fun l=>by rw [ckb (by omega),Int.natCast_add]; rfl
  by_cases h : x.Lo≤c.Hi
  ·refine Eq.trans (bifT (by simpa using h)) ?_
   rw [ckb (by omega),ckb (by omega),getb default (by rw [hlen]; omega),getb default (by rw [hlen]; omega),Int.toNat_natCast,hget]
   unfold setI
   rw [if_pos (by rw [hlen]; omega),sb,Int.toNat_natCast,hck]
   have hset : (pre ++ [c]).set pre.length ⟨c.Lo,if x.Hi > c.Hi then x.Hi else c.Hi⟩ = pre ++ [⟨c.Lo,if x.Hi > c.Hi then x.Hi else c.Hi⟩]:=by simp
   rw [hset,ih N (i + 1) _ _ (by omega) (by omega) (by omega) (by omega)]
   conv=>rhs; unfold mg
   rw [if_pos h]
  ·refine Eq.trans (bifF (by simpa using h)) ?_
   rw [apdb (by rw [hlen]; simp; omega),hck,ih N (i + 1) (pre ++ [c]) x (by omega) (by omega) (by rw [hlen]; omega) (by omega)]
   conv=>rhs; unfold mg
   rw [if_neg h]
   simp
theorem united_sorted (F : Nat) (y : List api_Span) (hy : y.length < F) (hl : y.length≤1000000000000) : fold_speeds_united_L2 y F 0 [] = some (mergeL y):=by
 obtain ⟨N,rfl⟩ : ∃ N',F = N' + 1:=⟨F - 1,by omega⟩
 show fold_speeds_united_B2 y (fold_speeds_united_L2 y N) 0 [] = _
 unfold fold_speeds_united_B2
 cases y with
 | nil=>rfl
 | cons x xs =>
  have hpos : decide (((([] : List api_Span).length : Nat) : Int) > 0) = false:=rfl
  rw [bifT (by simp),getb default (by simp)]
  simp only [hpos]
  rw [gdF (g:=false == true && true) rfl,sb,gdF (g:=false == true && true) rfl,sb]
  refine Eq.trans (bifF rfl) ?_
  rw [apdb (by simp)]
  unfold fold_speeds_united_K3
  rw [ckb (by omega)]
  have:=united_loop (x :: xs) xs.length N 1 [] x (by simp; omega) (by simp at hy; omega) (by simp at hl ⊢; omega) (by omega)
  exact this
theorem united_eq (F : Nat) (l : List api_Span) (hF : l.length < F) (hl : l.length≤1000000000000) (hb : ∀ s ∈ l,spB s) : ∃ l',fold_speeds_united F l = some (mergeL l')∧l'.Perm l∧l'.Pairwise (fun x y=>x.Lo≤y.Lo):=by
 obtain ⟨l',h1,h2,h3⟩:=sort_span F l hb (by omega)
 refine ⟨l',?_,h2,h3⟩
 unfold fold_speeds_united slices_Clone_fold_speeds_api_Span
 have hlen:=h2.length_eq
 rw [apdb (by simp; omega),sb,List.nil_append,h1,sb,united_sorted F l' (by omega) (by omega)]
section
variable {out left : List api_Span} {k2 : List api_Span→List api_Span→Option (List api_Span)}
end
def okSp (s : api_Span) : Bool:=decide (s.Lo≤s.Hi∧-200000≤s.Lo∧s.Hi≤200000)
theorem law_spans_loop (a : List api_Span) (ha : a.length≤1000000000000) : ∀ (n N i : Nat),i + n = a.length→n < N→law03_spans_L2 a a N (i : Int) = some true:=by
 intro n
 induction n with
 | zero =>
  intro N i hi hN
  obtain ⟨N,rfl⟩ : ∃ N',N = N' + 1:=⟨N - 1,by omega⟩
  show law03_spans_B2 a a (law03_spans_L2 a a N) (i : Int) = _
  unfold law03_spans_B2
  rw [bifF (by simp; omega)]
  rfl
 | succ n ih =>
  intro N i hi hN
  obtain ⟨N,rfl⟩ : ∃ N',N = N' + 1:=⟨N - 1,by omega⟩
  show law03_spans_B2 a a (law03_spans_L2 a a N) (i : Int) = _
  unfold law03_spans_B2
  rw [bifT (by simp; omega),getb default (by omega),getb default (by omega),Int.toNat_natCast,bifF (by simp),ckb (by omega)]
  have:=ih N (i + 1) (by omega) (by omega)
  rw [Int.natCast_add] at this
  exact this
theorem law_spans_ok (F : Nat) (a : List api_Span) (ha : a.length≤1000000000000) (hF : a.length < F) : law03_spans F a a = some true:=by
 unfold law03_spans
 rw [bifF (by simp)]
 exact law_spans_loop a ha a.length F 0 (by omega) hF
theorem mg_len : ∀ (xs : List api_Span) (c : api_Span),(mg c xs).length≤xs.length + 1:=by
 intro xs
 induction xs with
 | nil=>intro c; simp [mg]
 | cons x xs ih =>
  intro c
  unfold mg
  split
  ·have:=ih ⟨c.Lo,if x.Hi > c.Hi then x.Hi else c.Hi⟩; rw [List.length_cons]; omega
  ·have:=ih x; simp; omega
theorem mergeL_len (l : List api_Span) : (mergeL l).length≤l.length:=by
 cases l with
 | nil=>simp [mergeL]
 | cons x xs=>exact mg_len xs x
end Go.Proofs.Ytbhjgebjojdohaa
namespace Go.Proofs.Ytbhjgebjojdohaa
open Go Go.RowKit Go.Eng
set_option maxRecDepth 10000
set_option linter.unusedVariables false
set_option linter.unusedSimpArgs false
def inS (z : Int) (s : api_Span) : Prop:=2 * s.Lo≤z∧z≤2 * s.Hi
def mem (z : Int) (l : List api_Span) : Prop:=∃ s ∈ l,inS z s
def valid (l : List api_Span) : Prop:=∀ s ∈ l,s.Lo≤s.Hi
def Canon (l : List api_Span) : Prop:=l.Pairwise (fun a b=>a.Hi < b.Lo)∧valid l
theorem mem_nil (z : Int) : ¬ mem z []:=by rintro ⟨s,hs,_⟩; cases hs
theorem mem_cons {z : Int} {s : api_Span} {l : List api_Span} : mem z (s :: l)↔inS z s∨mem z l:=by
 constructor
 ·rintro ⟨t,ht,h⟩
  rcases List.mem_cons.1 ht with rfl | ht
  ·exact .inl h
  ·exact .inr ⟨t,ht,h⟩
 ·rintro (h | ⟨t,ht,h⟩)
  ·exact ⟨s,by simp,h⟩
  ·exact ⟨t,by simp [ht],h⟩
theorem Canon.tail {s : api_Span} {l : List api_Span} (h : Canon (s :: l)) : Canon l:=⟨(List.pairwise_cons.1 h.1).2,fun t ht=>h.2 t (by simp [ht])⟩
theorem Canon.beyond {s : api_Span} {l : List api_Span} (h : Canon (s :: l)) {z : Int} (hz : mem z l) : 2 * s.Hi + 2≤z:=by
 obtain ⟨t,ht,h1,_⟩:=hz
 have:=(List.pairwise_cons.1 h.1).1 t ht
 omega
theorem canon_eq : ∀ {a b : List api_Span},Canon a→Canon b→(∀ z,mem z a↔mem z b)→a = b:=by
 intro a
 induction a with
 | nil =>
  intro b _ hb h
  cases b with
  | nil=>rfl
  | cons t b =>
   have hv:=hb.2 t (by simp)
   exact absurd ((h (2 * t.Lo)).2 (mem_cons.2 (.inl ⟨by omega,by omega⟩))) (mem_nil _)
 | cons s a ih =>
  intro b ha hb h
  have hs:=ha.2 s (by simp)
  cases b with
  | nil=>exact absurd ((h (2 * s.Lo)).1 (mem_cons.2 (.inl ⟨by omega,by omega⟩))) (mem_nil _)
  | cons t b =>
   have ht:=hb.2 t (by simp)
   have e1 : s.Lo = t.Lo:=by
    have h1 : 2 * t.Lo≤2 * s.Lo:=by
     rcases mem_cons.1 ((h (2 * s.Lo)).1 (mem_cons.2 (.inl ⟨by omega,by omega⟩))) with h1 | h1
     ·exact h1.1
     ·have:=hb.beyond h1; omega
    have h2 : 2 * s.Lo≤2 * t.Lo:=by
     rcases mem_cons.1 ((h (2 * t.Lo)).2 (mem_cons.2 (.inl ⟨by omega,by omega⟩))) with h1 | h1
     ·exact h1.1
     ·have:=ha.beyond h1; omega
    omega
   have e2 : s.Hi = t.Hi:=by
    rcases Int.lt_trichotomy s.Hi t.Hi with hlt | hlt | hlt
    ·rcases mem_cons.1 ((h (2 * s.Hi + 1)).2 (mem_cons.2 (.inl ⟨by omega,by omega⟩))) with h1 | h1
     ·have:=h1.2; omega
     ·have:=ha.beyond h1; omega
    ·exact hlt
    ·rcases mem_cons.1 ((h (2 * t.Hi + 1)).1 (mem_cons.2 (.inl ⟨by omega,by omega⟩))) with h1 | h1
     ·have:=h1.2; omega
     ·have:=hb.beyond h1; omega
   have e3 : s = t:=by cases s; cases t; simp_all
   subst e3
   rw [ih ha.tail hb.tail]
   intro z
   constructor
   ·intro hz
    have hb1:=ha.beyond hz
    rcases mem_cons.1 ((h z).1 (mem_cons.2 (.inr hz))) with h1 | h1
    ·have:=h1.2; omega
    ·exact h1
   ·intro hz
    have hb1:=hb.beyond hz
    rcases mem_cons.1 ((h z).2 (mem_cons.2 (.inr hz))) with h1 | h1
    ·have:=h1.2; omega
    ·exact h1
theorem mg_mem : ∀ (xs : List api_Span) (c : api_Span),c.Lo≤c.Hi→xs.Pairwise (fun x y=>x.Lo≤y.Lo)→(∀ x ∈ xs,c.Lo≤x.Lo)→valid xs →
  (∀ z,mem z (mg c xs)↔inS z c∨mem z xs)∧Canon (mg c xs)∧∀ s ∈ mg c xs,c.Lo≤s.Lo:=by
 intro xs
 induction xs with
 | nil =>
  intro c hc _ _ _
  refine ⟨fun z=>mem_cons,⟨by simp [mg],fun s hs=>?_⟩,fun s hs=>?_⟩ <;> simp [mg] at hs <;> subst hs
  ·exact hc
  ·exact Int.le_refl _
 | cons x xs ih =>
  intro c hc hs hl hv
  have hx:=hv x (by simp)
  have hcx:=hl x (by simp)
  rw [List.pairwise_cons] at hs
  unfold mg
  by_cases h : x.Lo≤c.Hi
  ·rw [if_pos h]
   obtain ⟨h1,h2,h3⟩:=ih ⟨c.Lo,if x.Hi > c.Hi then x.Hi else c.Hi⟩ (by simp only; split <;> omega) hs.2 (fun y hy=>hl y (by simp [hy])) (fun y hy=>hv y (by simp [hy]))
   refine ⟨fun z=>?_,h2,h3⟩
   rw [h1 z,mem_cons]
   have : inS z ⟨c.Lo,if x.Hi > c.Hi then x.Hi else c.Hi⟩↔inS z c∨inS z x:=by
    unfold inS
    simp only
    split <;> omega
   rw [this,or_assoc]
  ·rw [if_neg h]
   obtain ⟨h1,h2,h3⟩:=ih x hx hs.2 hs.1 (fun y hy=>hv y (by simp [hy]))
   refine ⟨fun z=>?_,⟨List.pairwise_cons.2 ⟨fun y hy=>?_,h2.1⟩,fun s hs=>?_⟩,fun s hs=>?_⟩
   ·rw [mem_cons,h1 z,mem_cons]
   ·have:=h3 y hy; omega
   ·rcases List.mem_cons.1 hs with rfl | hs
    ·exact hc
    ·exact h2.2 s hs
   ·rcases List.mem_cons.1 hs with rfl | hs
    ·exact Int.le_refl _
    ·have:=h3 s hs; omega
theorem mergeL_mem {l : List api_Span} (hs : l.Pairwise (fun x y=>x.Lo≤y.Lo)) (hv : valid l) : (∀ z,mem z (mergeL l)↔mem z l)∧Canon (mergeL l):=by
 cases l with
 | nil=>exact ⟨fun z=>Iff.rfl,⟨List.Pairwise.nil,fun s hs=>by cases hs⟩⟩
 | cons x xs =>
  rw [List.pairwise_cons] at hs
  obtain ⟨h1,h2,_⟩:=mg_mem xs x (hv x (by simp)) hs.2 hs.1 (fun y hy=>hv y (by simp [hy]))
  exact ⟨fun z=>(h1 z).trans mem_cons.symm,h2⟩
def un (l : List api_Span) : List api_Span:=mergeL (l.mergeSort (fun x y=>decide (x.Lo≤y.Lo)))
theorem sorted_sort (l : List api_Span) : (l.mergeSort (fun x y=>decide (x.Lo≤y.Lo))).Pairwise (fun x y=>x.Lo≤y.Lo):=by
 have:=List.pairwise_mergeSort (le:=fun x y : api_Span=>decide (x.Lo≤y.Lo)) (fun a b c h1 h2=>by simp at *; omega) (fun a b=>by simp; omega) l
 exact this.imp (fun h=>by simpa using h)
theorem perm_mem {a b : List api_Span} (h : a.Perm b) (z : Int) : mem z a↔mem z b:=by
 constructor
 ·rintro ⟨s,hs,hz⟩; exact ⟨s,h.mem_iff.1 hs,hz⟩
 ·rintro ⟨s,hs,hz⟩; exact ⟨s,h.mem_iff.2 hs,hz⟩
theorem perm_valid {a b : List api_Span} (h : a.Perm b) (hv : valid b) : valid a:=fun s hs=>hv s (h.mem_iff.1 hs)
theorem un_mem {l : List api_Span} (hv : valid l) (z : Int) : mem z (un l)↔mem z l:=by
 have hp:=List.mergeSort_perm l (fun x y=>decide (x.Lo≤y.Lo))
 exact ((mergeL_mem (sorted_sort l) (perm_valid hp hv)).1 z).trans (perm_mem hp z)
theorem un_canon {l : List api_Span} (hv : valid l) : Canon (un l):=(mergeL_mem (sorted_sort l) (perm_valid (List.mergeSort_perm l _) hv)).2
theorem un_sorted {l σ : List api_Span} (hp : σ.Perm l) (hs : σ.Pairwise (fun x y=>x.Lo≤y.Lo)) (hv : valid l) : mergeL σ = un l:=by
 obtain ⟨h1,h2⟩:=mergeL_mem hs (perm_valid hp hv)
 exact canon_eq h2 (un_canon hv) fun z=>(h1 z).trans ((perm_mem hp z).trans (un_mem hv z).symm)
theorem Canon.sorted {l : List api_Span} (h : Canon l) : l.Pairwise (fun x y=>x.Lo≤y.Lo):=by
 obtain ⟨h1,h2⟩:=h
 induction l with
 | nil=>exact .nil
 | cons x xs ih =>
  rw [List.pairwise_cons] at h1 ⊢
  exact ⟨fun y hy=>by have:=h1.1 y hy; have:=h2 x (by simp); omega,ih h1.2 (fun y hy=>h2 y (by simp [hy]))⟩
theorem un_id {l : List api_Span} (h : Canon l) : un l = l:=canon_eq (un_canon h.2) h (un_mem h.2)
def within (B : Int) (l : List api_Span) : Prop:=∀ s ∈ l,-B≤s.Lo∧s.Hi≤B
theorem within_of_mem {B : Int} {l : List api_Span} (hv : valid l) (h : ∀ z,mem z l→-2 * B≤z∧z≤2 * B) : within B l:=by
 intro s hs
 have hvs:=hv s hs
 have h1:=h (2 * s.Lo) ⟨s,hs,by unfold inS; omega⟩
 have h2:=h (2 * s.Hi) ⟨s,hs,by unfold inS; omega⟩
 omega
theorem mem_within {B : Int} {l : List api_Span} (h : within B l) {z : Int} (hz : mem z l) : -2 * B≤z∧z≤2 * B:=by
 obtain ⟨s,hs,h1,h2⟩:=hz
 have:=h s hs
 omega
theorem canon_len : ∀ {l : List api_Span} {lo hi : Int},Canon l→(∀ s ∈ l,lo≤s.Lo∧s.Hi≤hi)→lo≤hi + 1→(l.length : Int)≤hi - lo + 1:=by
 intro l
 induction l with
 | nil=>intro lo hi _ _ h; simp; omega
 | cons s l ih =>
  intro lo hi hc hb h
  have hs:=hb s (by simp)
  have hv:=hc.2 s (by simp)
  have hp:=(List.pairwise_cons.1 hc.1).1
  have:=ih (lo:=s.Hi + 1) (hi:=hi) hc.tail (fun t ht=>⟨by have:=hp t ht; omega,(hb t (by simp [ht])).2⟩) (by omega)
  simp
  omega
def wd (l : List api_Span) (d : Int) : List api_Span:=un (l.map fun s=>⟨s.Lo - d,s.Hi + d⟩)
theorem wd_valid {l : List api_Span} {d : Int} (hv : valid l) (hd : 0≤d) : valid (l.map fun s=>(⟨s.Lo - d,s.Hi + d⟩ : api_Span)):=by
 intro s hs
 obtain ⟨t,ht,rfl⟩:=List.mem_map.1 hs
 have:=hv t ht
 simp only
 omega
theorem wd_mem {l : List api_Span} {d : Int} (hv : valid l) (hd : 0≤d) (z : Int) : mem z (wd l d)↔∃ y,mem y l∧y - 2 * d≤z∧z≤y + 2 * d:=by
 unfold wd
 rw [un_mem (wd_valid hv hd)]
 constructor
 ·rintro ⟨s,hs,h1,h2⟩
  obtain ⟨t,ht,rfl⟩:=List.mem_map.1 hs
  have hvt:=hv t ht
  simp only at h1 h2
  by_cases ha : z < 2 * t.Lo
  ·exact ⟨2 * t.Lo,⟨t,ht,by unfold inS; omega⟩,by omega,by omega⟩
  ·by_cases hb : 2 * t.Hi < z
   ·exact ⟨2 * t.Hi,⟨t,ht,by unfold inS; omega⟩,by omega,by omega⟩
   ·exact ⟨z,⟨t,ht,by unfold inS; omega⟩,by omega,by omega⟩
 ·rintro ⟨y,⟨t,ht,h1,h2⟩,h3,h4⟩
  exact ⟨_,List.mem_map.2 ⟨t,ht,rfl⟩,by unfold inS; simp only; omega⟩
def cm (a b : api_Span) : Option api_Span:=if nonempty (comm a b) = true then some (comm a b) else none
theorem comm_in_iff {a b : api_Span} {z : Int} : inS z (comm a b)↔inS z a∧inS z b:=by
 unfold comm inS
 simp only
 split <;> split <;> omega
theorem cm_in {a b : api_Span} {z : Int} : (∃ s,cm a b = some s∧inS z s)↔inS z a∧inS z b:=by
 rw [← comm_in_iff]
 unfold cm nonempty
 simp only [decide_eq_true_eq]
 constructor
 ·rintro ⟨s,h,h1⟩
  by_cases hc : (comm a b).Lo≤(comm a b).Hi
  ·rw [if_pos hc] at h; cases h; exact h1
  ·rw [if_neg hc] at h; cases h
 ·intro h
  rw [if_pos (by unfold inS at h; omega)]
  exact ⟨_,rfl,h⟩
theorem cm_valid {a b s : api_Span} (h : cm a b = some s) : s.Lo≤s.Hi:=by
 unfold cm nonempty at h
 simp only [decide_eq_true_eq] at h
 by_cases hc : (comm a b).Lo≤(comm a b).Hi
 ·rw [if_pos hc] at h; cases h; exact hc
 ·rw [if_neg hc] at h; cases h
def prs (a b : List api_Span) : List api_Span:=a.flatMap fun x=>b.filterMap (cm x)
theorem prs_valid (a b : List api_Span) : valid (prs a b):=by
 intro s hs
 obtain ⟨x,_,hs⟩:=List.mem_flatMap.1 hs
 obtain ⟨y,_,hs⟩:=List.mem_filterMap.1 hs
 exact cm_valid hs
theorem prs_mem (a b : List api_Span) (z : Int) : mem z (prs a b)↔mem z a∧mem z b:=by
 constructor
 ·rintro ⟨s,hs,hz⟩
  obtain ⟨x,hx,hs⟩:=List.mem_flatMap.1 hs
  obtain ⟨y,hy,hs⟩:=List.mem_filterMap.1 hs
  obtain ⟨h1,h2⟩:=cm_in.1 ⟨s,hs,hz⟩
  exact ⟨⟨x,hx,h1⟩,⟨y,hy,h2⟩⟩
 ·rintro ⟨⟨x,hx,h1⟩,⟨y,hy,h2⟩⟩
  obtain ⟨s,hs,hz⟩:=cm_in.2 ⟨h1,h2⟩
  exact ⟨s,List.mem_flatMap.2 ⟨x,hx,List.mem_filterMap.2 ⟨y,hy,hs⟩⟩,hz⟩
def mt (a b : List api_Span) : List api_Span:=un (prs a b)
theorem mt_mem (a b : List api_Span) (z : Int) : mem z (mt a b)↔mem z a∧mem z b:=(un_mem (prs_valid a b) z).trans (prs_mem a b z)
theorem mt_canon (a b : List api_Span) : Canon (mt a b):=un_canon (prs_valid a b)
def nr (a b : List api_Span) (d : Int) : List api_Span:=mt a (wd b d)
theorem nr_mem {a b : List api_Span} {d : Int} (hv : valid b) (hd : 0≤d) (z : Int) : mem z (nr a b d)↔mem z a∧∃ y,mem y b∧y - 2 * d≤z∧z≤y + 2 * d:=by
 unfold nr
 rw [mt_mem,wd_mem hv hd]
theorem nr_canon (a b : List api_Span) (d : Int) : Canon (nr a b d):=mt_canon _ _
theorem nr_within {B : Int} {a b : List api_Span} {d : Int} (hv : valid b) (hd : 0≤d) (h : within B a) : within B (nr a b d) :=
 within_of_mem (nr_canon _ _ _).2 fun z hz=>mem_within h ((nr_mem hv hd z).1 hz).1
def tp : Nat→List api_Span→List api_Span→List api_Span
 | 0,_,_=>[]
 | n + 1,a :: ys,b :: zs=>(cm a b).toList ++ (if a.Hi < b.Hi then tp n ys (b :: zs) else tp n (a :: ys) zs)
 | _ + 1,_,_=>[]
theorem tp_valid : ∀ (n : Nat) (a b : List api_Span),valid (tp n a b):=by
 intro n
 induction n with
 | zero=>intro a b s hs; simp [tp] at hs
 | succ n ih =>
  intro a b s hs
  cases a with
  | nil=>simp [tp] at hs
  | cons x a =>
   cases b with
   | nil=>simp [tp] at hs
   | cons y b =>
    unfold tp at hs
    rcases List.mem_append.1 hs with hs | hs
    ·cases hc : cm x y with
     | none=>rw [hc] at hs; simp at hs
     | some t=>rw [hc] at hs; simp at hs; subst hs; exact cm_valid hc
    ·split at hs
     ·exact ih _ _ s hs
     ·exact ih _ _ s hs
theorem mem_app {a b : List api_Span} {z : Int} : mem z (a ++ b)↔mem z a∨mem z b:=by
 constructor
 ·rintro ⟨s,hs,hz⟩
  rcases List.mem_append.1 hs with h | h
  ·exact .inl ⟨s,h,hz⟩
  ·exact .inr ⟨s,h,hz⟩
 ·rintro (⟨s,h,hz⟩ | ⟨s,h,hz⟩)
  ·exact ⟨s,List.mem_append.2 (.inl h),hz⟩
  ·exact ⟨s,List.mem_append.2 (.inr h),hz⟩
theorem mem_cm {a b : api_Span} {z : Int} : mem z (cm a b).toList↔inS z a∧inS z b:=by
 rw [← cm_in]
 constructor
 ·rintro ⟨s,hs,hz⟩
  cases hc : cm a b with
  | none=>rw [hc] at hs; simp at hs
  | some t=>rw [hc] at hs; simp at hs; subst hs; exact ⟨_,rfl,hz⟩
 ·rintro ⟨s,hs,hz⟩
  exact ⟨s,by rw [hs]; simp,hz⟩
theorem tp_mem : ∀ (n : Nat) (a b : List api_Span),a.length + b.length≤n→Canon a→Canon b→∀ z,mem z (tp n a b)↔mem z a∧mem z b:=by
 intro n
 induction n with
 | zero =>
  intro a b hn _ _ z
  have : a = []:=List.length_eq_zero_iff.1 (by omega)
  subst this
  exact ⟨fun h=>absurd h (mem_nil z),fun h=>absurd h.1 (mem_nil z)⟩
 | succ n ih =>
  intro a b hn ha hb z
  cases a with
  | nil=>exact ⟨fun h=>absurd h (mem_nil z),fun h=>absurd h.1 (mem_nil z)⟩
  | cons x a =>
   cases b with
   | nil=>exact ⟨fun h=>absurd h (mem_nil z),fun h=>absurd h.2 (mem_nil z)⟩
   | cons y b =>
    simp only [List.length_cons] at hn
    unfold tp
    rw [mem_app,mem_cm]
    by_cases hlt : x.Hi < y.Hi
    ·rw [if_pos hlt,ih a (y :: b) (by simp only [List.length_cons]; omega) ha.tail hb z]
     constructor
     ·rintro (⟨h1,h2⟩ | ⟨h1,h2⟩)
      ·exact ⟨mem_cons.2 (.inl h1),mem_cons.2 (.inl h2)⟩
      ·exact ⟨mem_cons.2 (.inr h1),h2⟩
     ·rintro ⟨h1,h2⟩
      rcases mem_cons.1 h1 with h1 | h1
      ·rcases mem_cons.1 h2 with h2 | h2
       ·exact .inl ⟨h1,h2⟩
       ·have:=hb.beyond h2; have:=h1.2; omega
      ·exact .inr ⟨h1,h2⟩
    ·rw [if_neg hlt,ih (x :: a) b (by simp only [List.length_cons]; omega) ha hb.tail z]
     constructor
     ·rintro (⟨h1,h2⟩ | ⟨h1,h2⟩)
      ·exact ⟨mem_cons.2 (.inl h1),mem_cons.2 (.inl h2)⟩
      ·exact ⟨h1,mem_cons.2 (.inr h2)⟩
     ·rintro ⟨h1,h2⟩
      rcases mem_cons.1 h2 with h2 | h2
      ·rcases mem_cons.1 h1 with h1 | h1
       ·exact .inl ⟨h1,h2⟩
       ·have:=ha.beyond h1; have:=h2.2; omega
      ·exact .inr ⟨h1,h2⟩
theorem tp_len : ∀ (n : Nat) (a b : List api_Span),(tp n a b).length≤n:=by
 intro n
 induction n with
 | zero=>intro a b; simp [tp]
 | succ n ih =>
  intro a b
  cases a with
  | nil=>simp [tp]
  | cons x a =>
   cases b with
   | nil=>simp [tp]
   | cons y b =>
    unfold tp
    have h1 : (cm x y).toList.length≤1:=by cases cm x y <;> simp
    rw [List.length_append]
    split
    ·have:=ih a (y :: b); omega
    ·have:=ih (x :: a) b; omega
theorem tp_eq {n : Nat} {a b : List api_Span} (hn : a.length + b.length≤n) (ha : Canon a) (hb : Canon b) : un (tp n a b) = mt a b :=
 canon_eq (un_canon (tp_valid n a b)) (mt_canon a b) fun z=>(un_mem (tp_valid n a b) z).trans ((tp_mem n a b hn ha hb z).trans (mt_mem a b z).symm)
end Go.Proofs.Ytbhjgebjojdohaa
namespace Go.Proofs.Ytbhjgebjojdohaa
open Go Go.RowKit Go.Eng
set_option maxRecDepth 10000
set_option linter.unusedVariables false
set_option linter.unusedSimpArgs false
def FF : Nat:=2000000000000
theorem natS (i : Nat) : ((i : Int) + 1) = ((i + 1 : Nat) : Int):=by omega
theorem united_un {F : Nat} (hF : FF≤F) {l : List api_Span} (hv : valid l) (hb : ∀ s ∈ l,spB s) (hl : l.length≤1000000000000) : fold_speeds_united F l = some (un l):=by
 unfold FF at hF
 obtain ⟨σ,h1,h2,h3⟩:=united_eq F l (by omega) hl hb
 rw [h1,un_sorted h2 h3 hv]
section
variable {l : List api_Span} {d : Int}
theorem wide_loop (F : Nat) (hB : within 1000000000 l) (hv : valid l) (hd : 0≤d∧d≤1000000000) (hl : l.length≤1000000000000) : ∀ (n N i : Nat) (acc : List api_Span),i + n = l.length→n < N→acc.length + n≤1000000000000 →
  fold_speeds_wide_L2 F l d N (i : Int) acc = fold_speeds_wide_K1 F (acc ++ (l.drop i).map fun s=>⟨s.Lo - d,s.Hi + d⟩):=by
 intro n
 induction n with
 | zero =>
  intro N i acc hi hN ha
  obtain ⟨N,rfl⟩ : ∃ N',N = N' + 1:=⟨N - 1,by omega⟩
  show fold_speeds_wide_B2 F l d (fold_speeds_wide_L2 F l d N) (i : Int) acc = _
  unfold fold_speeds_wide_B2
  rw [bifF (by simp; omega),List.drop_eq_nil_of_le (by omega)]
  simp
 | succ n ih =>
  intro N i acc hi hN ha
  obtain ⟨N,rfl⟩ : ∃ N',N = N' + 1:=⟨N - 1,by omega⟩
  show fold_speeds_wide_B2 F l d (fold_speeds_wide_L2 F l d N) (i : Int) acc = _
  unfold fold_speeds_wide_B2
  have hm : l.getD i default ∈ l:=by rw [List.getD_eq_getElem?_getD,List.getElem?_eq_getElem (by omega : i < l.length)]; exact List.getElem_mem _
  have hb:=hB _ hm
  rw [drop_cons (i:=i) (by omega) default]
  rw [bifT (by simp; omega),getb default (by omega),Int.toNat_natCast]
  have hvx:=hv _ hm
  generalize l.getD i default = x at *
  rw [ckb (by omega),ckb (by omega),apdb (by simp; omega),ckb (by omega),natS,ih N (i + 1) _ (by omega) (by omega) (by simp; omega)]
  simp
theorem wd_spB (hB : within 1000000000 l) (hv : valid l) (hd : 0≤d∧d≤1000000000) : ∀ s ∈ l.map (fun s=>(⟨s.Lo - d,s.Hi + d⟩ : api_Span)),spB s:=by
 intro s hs
 obtain ⟨t,ht,rfl⟩:=List.mem_map.1 hs
 have:=hB t ht
 have:=hv t ht
 unfold spB
 simp only
 omega
theorem wide_eq {F : Nat} (hF : FF≤F) (hB : within 1000000000 l) (hv : valid l) (hd : 0≤d∧d≤1000000000) (hl : l.length≤1000000000000) : fold_speeds_wide F l d = some (wd l d):=by
 have hF':=hF
 unfold FF at hF'
 unfold fold_speeds_wide
 have hh:=wide_loop F hB hv hd hl l.length F 0 [] (by omega) (by omega) (by simp; omega)
 refine Eq.trans hh ?_
 unfold fold_speeds_wide_K1
 rw [List.drop_zero,List.nil_append,united_un hF (wd_valid hv hd.1) (wd_spB hB hv hd) (by simpa using hl),sb]
 rfl
end
theorem cmB {a b : api_Span} {β : Type} (x y : β) : (bif (decide ((comm a b).Lo≤(comm a b).Hi)) then x else y) = match cm a b with | some _=>x | none=>y:=by
 unfold cm nonempty
 by_cases h : (comm a b).Lo≤(comm a b).Hi <;> simp [h]
section
variable {a b : List api_Span}
theorem meet_loop (F : Nat) (ha : a.length≤100000000000) (hb : b.length≤100000000000) : ∀ (n N i k : Nat) (acc : List api_Span),i≤a.length→k≤b.length→a.length - i + (b.length - k)≤n→n < N→acc.length + n≤1000000000000 →
  fold_speeds_meet_L2 F a b N acc (i : Int) (k : Int) = fold_speeds_meet_K1 F (acc ++ tp n (a.drop i) (b.drop k)):=by
 intro n
 induction n with
 | zero =>
  intro N i k acc hi hk hn hN hacc
  obtain ⟨N,rfl⟩ : ∃ N',N = N' + 1:=⟨N - 1,by omega⟩
  show fold_speeds_meet_B2 F a b (fold_speeds_meet_L2 F a b N) acc (i : Int) (k : Int) = _
  unfold fold_speeds_meet_B2
  rw [bifF (by simp [cond_eq_ite]; omega)]
  simp [tp]
 | succ n ih =>
  intro N i k acc hi hk hn hN hacc
  obtain ⟨N,rfl⟩ : ∃ N',N = N' + 1:=⟨N - 1,by omega⟩
  show fold_speeds_meet_B2 F a b (fold_speeds_meet_L2 F a b N) acc (i : Int) (k : Int) = _
  unfold fold_speeds_meet_B2
  by_cases h1 : i < a.length
  ·by_cases h2 : k < b.length
   ·rw [bifT (by simp [cond_eq_ite]; omega),getb default (by omega),getb default (by omega),Int.toNat_natCast,Int.toNat_natCast,fold_common_eq]
    have ga : ∀ {β : Type} (f : api_Span→Option β),(getI a (i : Int)).bind f = f (a.getD i default):=fun f=>by rw [getb default (by omega),Int.toNat_natCast]
    have gb : ∀ {β : Type} (f : api_Span→Option β),(getI b (k : Int)).bind f = f (b.getD k default):=fun f=>by rw [getb default (by omega),Int.toNat_natCast]
    rw [drop_cons (i:=i) h1 default,drop_cons (i:=k) h2 default]
    generalize hx : a.getD i default = x at *
    generalize hy : b.getD k default = y at *
    have hK : ∀ (c : List api_Span),c.length + n≤1000000000000→fold_speeds_meet_K3 a b (i : Int) (k : Int) (fold_speeds_meet_L2 F a b N) c = fold_speeds_meet_K1 F (c ++ if x.Hi < y.Hi then tp n (a.drop (i + 1)) (y :: b.drop (k + 1)) else tp n (x :: a.drop (i + 1)) (b.drop (k + 1))):=by
     intro c hc
     unfold fold_speeds_meet_K3
     rw [ga,gb]
     by_cases hlt : x.Hi < y.Hi
     ·rw [bifT (by simpa using hlt),ckb (by omega),natS,ih N (i + 1) k c (by omega) hk (by omega) (by omega) hc,if_pos hlt,drop_cons (i:=k) h2 default,hy]
     ·rw [bifF (by simpa using hlt),ckb (by omega),natS,ih N i (k + 1) c hi (by omega) (by omega) (by omega) hc,if_neg hlt,drop_cons (i:=i) h1 default,hx]
    refine Eq.trans (cmB _ _) ?_
    conv=>rhs; unfold tp
    cases hc : cm x y with
    | none=>simp only; rw [hK acc (by omega)]; simp
    | some s =>
     have hs : s = comm x y:=by unfold cm at hc; split at hc <;> simp_all
     subst hs
     simp only
     rw [apdb (by simp; omega),hK _ (by simp; omega)]
     simp
   ·rw [bifF (by simp [cond_eq_ite]; omega),List.drop_eq_nil_of_le (by omega : b.length≤k)]
    cases a.drop i <;> simp [tp]
  ·rw [bifF (by simp [cond_eq_ite]; omega),List.drop_eq_nil_of_le (by omega : a.length≤i)]
   simp [tp]
theorem meet_eq {F : Nat} (hF : FF≤F) (ha : a.length≤100000000000) (hb : b.length≤100000000000) (hca : Canon a) (hcb : Canon b) (hB : within 1000000000 a) : fold_speeds_meet F a b = some (mt a b):=by
 have hF':=hF
 unfold FF at hF'
 unfold fold_speeds_meet
 have hh:=meet_loop F ha hb (a.length + b.length) F 0 0 [] (by omega) (by omega) (by omega) (by omega) (by simp; omega)
 refine Eq.trans hh ?_
 unfold fold_speeds_meet_K1
 have hlen:=tp_len (a.length + b.length) a b
 have hv:=tp_valid (a.length + b.length) a b
 have hw : within 1000000000 (tp (a.length + b.length) a b):=within_of_mem hv fun z hz=>mem_within hB ((tp_mem _ a b (Nat.le_refl _) hca hcb z).1 hz).1
 rw [List.drop_zero,List.drop_zero,List.nil_append,united_un hF hv (fun s hs=>by have:=hw s hs; have:=hv s hs; unfold spB; omega) (by omega),sb,tp_eq (Nat.le_refl _) hca hcb]
end
def Good (l : List api_Span) : Prop:=Canon l∧within 200000 l
theorem Good.len {l : List api_Span} (h : Good l) : l.length≤400001:=by
 have:=canon_len (lo:=-200000) (hi:=200000) h.1 h.2 (by omega)
 omega
theorem un_len (l : List api_Span) : (un l).length≤l.length:=by
 have:=mergeL_len (l.mergeSort (fun x y=>decide (x.Lo≤y.Lo)))
 rw [List.length_mergeSort] at this
 exact this
theorem wd_len (l : List api_Span) (d : Int) : (wd l d).length≤l.length:=by
 have:=un_len (l.map fun s=>(⟨s.Lo - d,s.Hi + d⟩ : api_Span))
 simpa [wd] using this
theorem Good.nr {a b : List api_Span} {d : Int} (ha : Good a) (hb : Good b) (hd : 0≤d) : Good (nr a b d):=⟨nr_canon a b d,nr_within hb.1.2 hd ha.2⟩
theorem Good.mt {a b : List api_Span} (ha : Good a) : Good (mt a b):=⟨mt_canon a b,within_of_mem (mt_canon a b).2 fun z hz=>mem_within ha.2 ((mt_mem a b z).1 hz).1⟩
theorem Good.big {l : List api_Span} (h : Good l) : within 1000000000 l:=fun s hs=>by have:=h.2 s hs; omega
theorem near_eq {F : Nat} (hF : FF≤F) {a b : List api_Span} {d : Int} (ha : Good a) (hb : Good b) (hd : 0≤d∧d≤1000000000) : fold_speeds_near F a b d = some (nr a b d):=by
 have h1:=ha.len
 have h2:=hb.len
 have h3:=wd_len b d
 unfold fold_speeds_near
 rw [wide_eq hF hb.big hb.1.2 hd (by omega),sb,meet_eq hF (by omega) (by omega) ha.1 (show Canon (wd b d) from un_canon (wd_valid hb.1.2 hd.1)) ha.big,sb]
 rfl
end Go.Proofs.Ytbhjgebjojdohaa
namespace Go.Proofs.Ytbhjgebjojdohaa
open Go Go.RowKit Go.Eng
set_option maxRecDepth 10000
set_option linter.unusedVariables false
set_option linter.unusedSimpArgs false
abbrev Sets:=List (List api_Span)
def gt (S : Sets) (i : Nat) : List api_Span:=S.getD i []
def ne (S : Sets) (i : Nat) : Bool:=decide ((gt S i).length > 0)
def lk (S : Sets) (br : Int) (i j : Nat) : Prop:=i < j∧j < S.length∧ne S i = true∧ne S j = true∧(∀ x,i < x→x < j→ne S x = false)∧(j : Int) - i≤br
section
variable (S : Sets) (br jp : Int)
end
def AllGood (f : Sets) : Prop:=∀ x ∈ f,Good x
theorem good_nil : Good []:=⟨⟨.nil,fun s hs=>by cases hs⟩,fun s hs=>by cases hs⟩
theorem AllGood.gt {f : Sets} (h : AllGood f) (i : Nat) : Good (gt f i):=by
 unfold Proofs.Ytbhjgebjojdohaa.gt
 rw [List.getD_eq_getElem?_getD]
 by_cases hi : i < f.length
 ·rw [List.getElem?_eq_getElem hi]; exact h _ (List.getElem_mem hi)
 ·rw [List.getElem?_eq_none (by omega)]; exact good_nil
theorem AllGood.set {f : Sets} (h : AllGood f) (i : Nat) {x : List api_Span} (hx : Good x) : AllGood (f.set i x):=by
 intro y hy
 rcases List.mem_or_eq_of_mem_set hy with h1 | h1
 ·exact h y h1
 ·rw [h1]; exact hx
theorem gt_set {f : Sets} {i j : Nat} {x : List api_Span} (hi : i < f.length) : gt (f.set i x) j = if i = j then x else gt f j:=by
 unfold gt
 rw [List.getD_eq_getElem?_getD,List.getD_eq_getElem?_getD,List.getElem?_set]
 by_cases h : i = j
 ·rw [if_pos h,if_pos h,if_pos hi]; rfl
 ·rw [if_neg h,if_neg h]
theorem ext_gt {a b : Sets} (hl : a.length = b.length) (h : ∀ i < a.length,gt a i = gt b i) : a = b:=by
 apply List.ext_getElem hl
 intro i h1 h2
 have:=h i h1
 unfold gt at this
 rw [List.getD_eq_getElem?_getD,List.getD_eq_getElem?_getD,List.getElem?_eq_getElem h1,List.getElem?_eq_getElem h2] at this
 exact this
section
variable {S : Sets} {br jp : Int}
theorem getG {β : Type} {f : Sets} {i : Nat} (hi : i < f.length) (k : List api_Span→Option β) : (getI f (i : Int)).bind k = k (gt f i):=by
 rw [getb [] (by omega),Int.toNat_natCast]; rfl
end
end Go.Proofs.Ytbhjgebjojdohaa
namespace Go.Proofs.Ytbhjgebjojdohaa
open Go Go.RowKit Go.Eng
set_option maxRecDepth 10000
set_option linter.unusedVariables false
set_option linter.unusedSimpArgs false
section
variable {S : Sets} {br jp : Int} {F : Nat}
theorem setG {β : Type} {f : Sets} {i : Nat} {x : List api_Span} (hi : i < f.length) (k : Sets→Option β) : (setI f (i : Int) x).bind k = k (f.set i x):=by
 unfold setI
 rw [if_pos (by omega),sb,Int.toNat_natCast]
end
end Go.Proofs.Ytbhjgebjojdohaa
namespace Go.Proofs.Ytbhjgebjojdohaa
open Go Go.RowKit Go.Eng
set_option maxRecDepth 10000
set_option linter.unusedVariables false
set_option linter.unusedSimpArgs false
section
variable {S : Sets} {br jp : Int} {F : Nat}
def Kn (S : Sets) : List Nat:=(List.range S.length).filter (ne S)
def toI (l : List Nat) : List Int:=List.map (fun (x : Nat)=>(x : Int)) l
theorem Kn_len : (Kn S).length≤S.length:=by
 unfold Kn
 have:=List.length_filter_le (ne S) (List.range S.length)
 simpa using this
theorem Kn_mem {x : Nat} : x ∈ Kn S↔x < S.length∧ne S x = true:=by unfold Kn; rw [List.mem_filter,List.mem_range]
theorem Kn_sorted : (Kn S).Pairwise (· < ·):=List.pairwise_lt_range.filter _
def kn (S : Sets) (t : Nat) : Nat:=(Kn S).getD t 0
theorem kn_get {t : Nat} (h : t < (Kn S).length) : kn S t ∈ Kn S∧(Kn S)[t]? = some (kn S t):=by
 unfold kn
 rw [List.getD_eq_getElem?_getD,List.getElem?_eq_getElem h]
 exact ⟨List.getElem_mem h,rfl⟩
theorem kn_lt {t u : Nat} (h : t < u) (hu : u < (Kn S).length) : kn S t < kn S u:=by
 have:=List.pairwise_iff_getElem.1 (Kn_sorted (S:=S)) t u (by omega) hu h
 unfold kn
 rw [List.getD_eq_getElem?_getD,List.getD_eq_getElem?_getD,List.getElem?_eq_getElem (by omega : t < (Kn S).length),List.getElem?_eq_getElem hu]
 exact this
theorem kn_of {x : Nat} (h : x < S.length) (hn : ne S x = true) : ∃ t,t < (Kn S).length∧kn S t = x:=by
 obtain ⟨t,ht,e⟩:=List.mem_iff_getElem.1 (Kn_mem.2 ⟨h,hn⟩)
 refine ⟨t,ht,?_⟩
 unfold kn
 rw [List.getD_eq_getElem?_getD,List.getElem?_eq_getElem ht,e]; rfl
theorem kn_le {t u : Nat} (h : t≤u) (hu : u < (Kn S).length) : kn S t≤kn S u:=by
 by_cases e : t = u
 ·rw [e]; exact Nat.le_refl _
 ·exact Nat.le_of_lt (kn_lt (by omega) hu)
theorem between {t x : Nat} (ht : t + 1 < (Kn S).length) (h1 : kn S t < x) (h2 : x < kn S (t + 1)) : ne S x = false:=by
 cases hx : ne S x with
 | false=>rfl
 | true =>
  have hb:=(Kn_mem.1 (kn_get ht).1).1
  obtain ⟨u,hu,rfl⟩:=kn_of (by omega) hx
  by_cases hut : u≤t
  ·have:=kn_le hut (by omega : t < (Kn S).length); omega
  ·have:=kn_le (by omega : t + 1≤u) hu; omega
theorem before {x : Nat} (h0 : 0 < (Kn S).length) (h : x < kn S 0) : ne S x = false:=by
 cases hx : ne S x with
 | false=>rfl
 | true =>
  have hb:=(Kn_mem.1 (kn_get h0).1).1
  obtain ⟨u,hu,rfl⟩:=kn_of (by omega) hx
  have:=kn_le (Nat.zero_le u) hu; omega
theorem behind {x : Nat} (h0 : 0 < (Kn S).length) (hxl : x < S.length) (h : kn S ((Kn S).length - 1) < x) : ne S x = false:=by
 cases hx : ne S x with
 | false=>rfl
 | true =>
  obtain ⟨u,hu,rfl⟩:=kn_of hxl hx
  have:=kn_le (S:=S) (by omega : u≤(Kn S).length - 1) (by omega); omega
theorem known_loop (hl : S.length≤100000) : ∀ (n N i : Nat) (acc : List Int),i + n = S.length→n < N→acc.length≤i →
  fold_known_L2 S N acc (i : Int) = some (acc ++ toI ((List.range' i n).filter (ne S))):=by
 intro n
 induction n with
 | zero =>
  intro N i acc hi hN ha
  obtain ⟨N,rfl⟩ : ∃ N',N = N' + 1:=⟨N - 1,by omega⟩
  show fold_known_B2 S (fold_known_L2 S N) acc (i : Int) = _
  unfold fold_known_B2
  rw [bifF (by simp; omega)]
  simp [fold_known_K1,toI]
 | succ n ih =>
  intro N i acc hi hN ha
  obtain ⟨N,rfl⟩ : ∃ N',N = N' + 1:=⟨N - 1,by omega⟩
  show fold_known_B2 S (fold_known_L2 S N) acc (i : Int) = _
  unfold fold_known_B2 fold_known_K3
  rw [bifT (by simp; omega),getG (by omega),List.range'_succ]
  by_cases h : ne S i = true
  ·have h':=h
   unfold ne at h'
   rw [bifT (by simpa using h'),apdb (by simp; omega),ckb (by omega),natS,ih N (i + 1) _ (by omega) (by omega) (by simp; omega),List.filter_cons_of_pos h]
   simp [toI]
  ·have h' : ne S i = false:=by simpa using h
   have h2:=h'
   unfold ne at h2
   rw [bifF (by simpa using h2),ckb (by omega),natS,ih N (i + 1) _ (by omega) (by omega) (by omega),List.filter_cons_of_neg h]
theorem known_eq (hF : FF≤F) (hl : S.length≤100000) : fold_known F S = some (toI (Kn S)):=by
 unfold FF at hF
 unfold fold_known
 have:=known_loop (S:=S) hl S.length F 0 [] (by omega) (by omega) (by simp)
 refine Eq.trans this ?_
 unfold Kn
 rw [List.range_eq_range',List.nil_append]
theorem getK {β : Type} {t : Nat} (h : t < (Kn S).length) (k : Int→Option β) : (getI (toI (Kn S)) (t : Int)).bind k = k ((kn S t : Nat) : Int):=by
 rw [getb 0 (by simp [toI]; omega),Int.toNat_natCast]
 have : (toI (Kn S)).getD t 0 = ((kn S t : Nat) : Int):=by
  unfold toI
  rw [List.getD_eq_getElem?_getD,List.getElem?_map,(kn_get h).2]; rfl
 rw [this]
theorem back_loop (hF : FF≤F) (hl : S.length≤100000) (hG : AllGood S) : ∀ (n N i : Nat),i + n = S.length→n < N→fold_back_L2 F S N (S.take i) (i : Int) = some S:=by
 intro n
 induction n with
 | zero =>
  intro N i hi hN
  obtain ⟨N,rfl⟩ : ∃ N',N = N' + 1:=⟨N - 1,by omega⟩
  show fold_back_B2 F S (fold_back_L2 F S N) (S.take i) (i : Int) = _
  unfold fold_back_B2
  rw [bifF (by simp; omega),List.take_of_length_le (by omega)]
  rfl
 | succ n ih =>
  intro N i hi hN
  obtain ⟨N,rfl⟩ : ∃ N',N = N' + 1:=⟨N - 1,by omega⟩
  show fold_back_B2 F S (fold_back_L2 F S N) (S.take i) (i : Int) = _
  unfold fold_back_B2 slices_Clone_fold_speeds_api_Span
  have hlen:=(hG.gt i).len
  rw [bifT (by simp; omega),getG (by omega),apdb (by simp; omega),List.nil_append,sb,apdb (by simp; omega),ckb (by omega),natS]
  have : S.take i ++ [gt S i] = S.take (i + 1):=by
   rw [List.take_add_one,List.getElem?_eq_getElem (by omega : i < S.length)]
   unfold gt
   rw [List.getD_eq_getElem?_getD,List.getElem?_eq_getElem (by omega : i < S.length)]
   rfl
  rw [this]
  exact ih N (i + 1) (by omega) (by omega)
end
end Go.Proofs.Ytbhjgebjojdohaa
namespace Go.Proofs.Ytbhjgebjojdohaa
open Go Go.RowKit Go.Eng
set_option maxRecDepth 10000
set_option linter.unusedVariables false
set_option linter.unusedSimpArgs false
def gx (l : List api_Span) (x : Nat) : api_Span:=l.getD x default
theorem getS {β : Type} {l : List api_Span} {i : Nat} (hi : i < l.length) (k : api_Span→Option β) : (getI l (i : Int)).bind k = k (gx l i):=by
 rw [getb default (by omega),Int.toNat_natCast]; rfl
theorem okSp_not (s : api_Span) : (bif (bif (decide (s.Lo > s.Hi)) then true else (decide (s.Lo < (-200000)))) then true else (decide (s.Hi > 200000))) = !okSp s:=by
 unfold okSp; rw [Bool.eq_iff_iff]; simp [cond_eq_ite]; omega
section
variable {S : Sets} {F : Nat}
theorem sets_loop (hF : FF≤F) {a : Sets} (hG : AllGood a) (hl : a.length≤100000) : ∀ (n N i : Nat),i + n = a.length→n < N→law03_sets_L2 F a a N (i : Int) = some true:=by
 have hF':=hF
 unfold FF at hF'
 intro n
 induction n with
 | zero =>
  intro N i hi hN
  obtain ⟨N,rfl⟩ : ∃ N',N = N' + 1:=⟨N - 1,by omega⟩
  show law03_sets_B2 F a a (law03_sets_L2 F a a N) (i : Int) = _
  unfold law03_sets_B2
  rw [bifF (by simp; omega)]; rfl
 | succ n ih =>
  intro N i hi hN
  obtain ⟨N,rfl⟩ : ∃ N',N = N' + 1:=⟨N - 1,by omega⟩
  show law03_sets_B2 F a a (law03_sets_L2 F a a N) (i : Int) = _
  unfold law03_sets_B2
  have hlen:=(hG.gt i).len
  rw [bifT (by simp; omega),getG (by omega),getG (by omega),law_spans_ok F _ (by omega) (by omega),sb]
  refine Eq.trans (bifF rfl) ?_
  rw [ckb (by omega),natS]
  exact ih N (i + 1) (by omega) (by omega)
end
end Go.Proofs.Ytbhjgebjojdohaa
namespace Go.Proofs.Ytbhjgebjojdohaa
open Go Go.RowKit Go.Eng
set_option maxRecDepth 10000
set_option linter.unusedVariables false
set_option linter.unusedSimpArgs false
abbrev Pl:=Nat×Nat
abbrev Fam:=Pl→List api_Span
abbrev Lnk:=Pl→Pl→Int→Prop
def Supp (f : Fam) (p q : Pl) (d : Int) : Prop:=∀ z,mem z (f q)→∃ y,mem y (f p)∧y - 2 * d≤z∧z≤y + 2 * d
def both (R : Lnk) : Lnk:=fun p q d=>R p q d∨R q p d
def Stable (R : Lnk) (f : Fam) : Prop:=∀ p q d,both R p q d→Supp f p q d
def Below (f g : Fam) : Prop:=∀ p z,mem z (f p)→mem z (g p)
def GoodF (f : Fam) : Prop:=∀ p,Good (f p)
def updF (f : Fam) (p : Pl) (x : List api_Span) : Fam:=fun q=>if q = p then x else f q
theorem Below.refl (f : Fam) : Below f f:=fun _ _ h=>h
theorem Below.trans {f g h : Fam} (a : Below f g) (b : Below g h) : Below f h:=fun p z hz=>b p z (a p z hz)
section
variable {R : Lnk} {f g h : Fam} {p q : Pl} {d : Int}
theorem GoodF.upd (hf : GoodF f) {x : List api_Span} (hx : Good x) : GoodF (updF f p x):=by
 intro r
 unfold updF
 split
 ·exact hx
 ·exact hf r
theorem nr_below (hf : GoodF f) (hd : 0≤d) : Below (updF f q (nr (f q) (f p) d)) f:=by
 intro r z hz
 unfold updF at hz
 split at hz
 ·rename_i e; subst e; exact ((nr_mem (hf p).1.2 hd z).1 hz).1
 ·exact hz
theorem nr_keeps (hf : GoodF f) (hd : 0≤d) (hs : Stable R h) (hb : Below h f) (hl : both R p q d) : Below h (updF f q (nr (f q) (f p) d)):=by
 intro r z hz
 unfold updF
 split
 ·rename_i e
  subst e
  refine (nr_mem (hf p).1.2 hd z).2 ⟨hb _ z hz,?_⟩
  obtain ⟨y,hy,h1⟩:=hs p r d hl z hz
  exact ⟨y,hb _ y hy,h1⟩
 ·exact hb r z hz
theorem nr_same (hf : GoodF f) (hd : 0≤d) : nr (f q) (f p) d = f q↔Supp f p q d:=by
 constructor
 ·intro e z hz
  rw [← e] at hz
  exact ((nr_mem (hf p).1.2 hd z).1 hz).2
 ·intro hs
  refine canon_eq (nr_canon _ _ _) (hf q).1 fun z=>?_
  rw [nr_mem (hf p).1.2 hd z]
  exact ⟨fun h=>h.1,fun h=>⟨h,hs z h⟩⟩
end
instance (z : Int) (s : api_Span) : Decidable (inS z s):=by unfold inS; infer_instance
instance (z : Int) (l : List api_Span) : Decidable (mem z l):=by unfold mem; infer_instance
def HN : Nat:=800001
theorem HN_eq : HN = 800001:=rfl
attribute [irreducible] HN
def vol (l : List api_Span) : Nat:=(List.range HN).countP (fun k : Nat=>decide (mem ((k : Int) - 400000) l))
theorem countP_le {α : Type} {p q : α→Bool} : ∀ (l : List α),(∀ x ∈ l,p x = true→q x = true)→l.countP p≤l.countP q
 | [],_=>Nat.le_refl _
 | a :: l,h=>by
  have ih:=countP_le l fun x hx=>h x (by simp [hx])
  have ha:=h a (by simp)
  rw [List.countP_cons,List.countP_cons]
  split
  ·rw [if_pos (ha (by assumption))]; omega
  ·split <;> omega
theorem countP_lt {α : Type} {p q : α→Bool} : ∀ (l : List α),(∀ x ∈ l,p x = true→q x = true)→(∃ x ∈ l,q x = true∧p x = false)→l.countP p < l.countP q
 | [],_,h=>by obtain ⟨x,hx,_⟩:=h; cases hx
 | a :: l,h,he=>by
  have hl:=countP_le l fun x hx=>h x (by simp [hx])
  have ha:=h a (by simp)
  rw [List.countP_cons,List.countP_cons]
  obtain ⟨x,hx,h1,h2⟩:=he
  rcases List.mem_cons.1 hx with rfl | hx
  ·rw [h1,h2]; simp; omega
  ·have:=countP_lt l (fun x hx=>h x (by simp [hx])) ⟨x,hx,h1,h2⟩
   cases hp : p a with
   | true=>rw [ha hp]; simp; omega
   | false=>simp; omega
theorem vol_lt {a b : List api_Span} (hs : ∀ z,mem z a→mem z b) (ha : Canon a) (hb : Good b) (hne : a≠b) : vol a < vol b:=by
 refine countP_lt _ (fun k _ hk=>?_) ?_
 ·simp only [decide_eq_true_eq] at hk ⊢
  exact hs _ hk
 ·have : ∃ z,mem z b∧¬ mem z a:=by
   apply Classical.byContradiction
   intro hn
   refine hne (canon_eq ha hb.1 fun z=>⟨hs z,fun hz=>?_⟩)
   apply Classical.byContradiction
   intro h
   exact hn ⟨z,hz,h⟩
  obtain ⟨z,h1,h2⟩:=this
  have hz:=mem_within hb.2 h1
  have:=HN_eq
  refine ⟨(z + 400000).toNat,List.mem_range.2 (by omega),?_,?_⟩
  ·have e : (((z + 400000).toNat : Nat) : Int) - 400000 = z:=by omega
   rw [e]; simpa using h1
  ·have e : (((z + 400000).toNat : Nat) : Int) - 400000 = z:=by omega
   rw [e]; simpa using h2
theorem vol_le (l : List api_Span) : vol l≤HN:=by
 have : vol l≤(List.range HN).length:=List.countP_le_length ..
 rwa [List.length_range] at this
abbrev Rays:=List Sets
def gf (G : Rays) : Fam:=fun p=>gt (G.getD p.1 []) p.2
def sf (G : Rays) (p : Pl) (x : List api_Span) : Rays:=G.set p.1 ((G.getD p.1 []).set p.2 x)
def Shape (G : Rays) (n m : Nat) : Prop:=G.length = n∧∀ r ∈ G,r.length = m
def AllG (G : Rays) : Prop:=∀ r ∈ G,AllGood r
section
variable {G : Rays} {n m a : Nat} {p q : Pl} {x : List api_Span}
theorem getD_mem {α : Type} {l : List α} {i : Nat} {d : α} (h : i < l.length) : l.getD i d ∈ l:=by
 rw [List.getD_eq_getElem?_getD,List.getElem?_eq_getElem h]; exact List.getElem_mem h
theorem Shape.row (h : Shape G n m) (ha : a < n) : (G.getD a []).length = m:=h.2 _ (getD_mem (by rw [h.1]; exact ha))
theorem AllG.row (h : AllG G) (a : Nat) : AllGood (G.getD a []):=by
 by_cases ha : a < G.length
 ·exact h _ (getD_mem ha)
 ·rw [List.getD_eq_getElem?_getD,List.getElem?_eq_none (by omega)]
  intro x hx; cases hx
theorem AllG.good (h : AllG G) : GoodF (gf G):=fun p=>(h.row p.1).gt p.2
theorem AllG.sf (h : AllG G) (hx : Good x) : AllG (sf G p x):=by
 intro r hr
 rcases List.mem_or_eq_of_mem_set hr with h1 | h1
 ·exact h r h1
 ·rw [h1]; exact (h.row p.1).set p.2 hx
theorem Shape.sf (h : Shape G n m) (hp : p.1 < n) : Shape (sf G p x) n m:=by
 refine ⟨by unfold Proofs.Ytbhjgebjojdohaa.sf; rw [List.length_set]; exact h.1,fun r hr=>?_⟩
 rcases List.mem_or_eq_of_mem_set hr with h1 | h1
 ·exact h.2 r h1
 ·rw [h1,List.length_set]; exact h.row hp
theorem getD_set {α : Type} {l : List α} {i j : Nat} {x d : α} (hi : i < l.length) : (l.set i x).getD j d = if i = j then x else l.getD j d:=by
 rw [List.getD_eq_getElem?_getD,List.getD_eq_getElem?_getD,List.getElem?_set]
 by_cases h : i = j
 ·rw [if_pos h,if_pos h,if_pos hi]; rfl
 ·rw [if_neg h,if_neg h]
theorem gg_sg (h : Shape G n m) (hp : p.1 < n∧p.2 < m) : gf (sf G p x) = updF (gf G) p x:=by
 funext q
 unfold gf sf updF
 rw [getD_set (by rw [h.1]; exact hp.1)]
 by_cases h1 : p.1 = q.1
 ·rw [if_pos h1,gt_set (by rw [h.row hp.1]; exact hp.2)]
  by_cases h2 : p.2 = q.2
  ·rw [if_pos h2,if_pos (Prod.ext h1.symm h2.symm)]
  ·rw [if_neg h2,if_neg (fun e=>h2 (by rw [e])),h1]
 ·rw [if_neg h1,if_neg (fun e=>h1 (by rw [e]))]
theorem ext_gg {A B : Rays} (hA : Shape A n m) (hB : Shape B n m) (h : ∀ p : Pl,p.1 < n→p.2 < m→gf A p = gf B p) : A = B:=by
 apply List.ext_getElem (hA.1.trans hB.1.symm)
 intro i h1 h2
 have hi : i < n:=by rw [← hA.1]; exact h1
 have e1 : A.getD i [] = A[i]:=by rw [List.getD_eq_getElem?_getD,List.getElem?_eq_getElem h1]; rfl
 have e2 : B.getD i [] = B[i]:=by rw [List.getD_eq_getElem?_getD,List.getElem?_eq_getElem h2]; rfl
 rw [← e1,← e2]
 refine ext_gt ((hA.row hi).trans (hB.row hi).symm) fun j hj=>?_
 rw [hA.row hi] at hj
 exact h (i,j) hi hj
def Vol (G : Rays) : Nat:=(G.map fun r=>(r.map vol).sum).sum
theorem sum_set {α : Type} (f : α→Nat) (d : α) : ∀ (l : List α) (i : Nat) (x : α),i < l.length→((l.set i x).map f).sum + f (l.getD i d) = (l.map f).sum + f x
 | [],i,x,h=>by simp at h
 | a :: l,0,x,h=>by simp; omega
 | a :: l,i + 1,x,h=>by
  have:=sum_set f d l i x (by simpa using h)
  simp only [List.set_cons_succ,List.map_cons,List.sum_cons,List.getD_cons_succ]
  omega
theorem Vol_sg (h : Shape G n m) (hp : p.1 < n∧p.2 < m) : Vol (sf G p x) + vol (gf G p) = Vol G + vol x:=by
 have h1:=sum_set (fun r : Sets=>(r.map vol).sum) [] G p.1 ((G.getD p.1 []).set p.2 x) (by rw [h.1]; exact hp.1)
 have h2:=sum_set vol [] (G.getD p.1 []) p.2 x (by rw [h.row hp.1]; exact hp.2)
 have e1 : (((G.getD p.1 []).getD p.2 []) : List api_Span) = gf G p:=rfl
 rw [e1] at h2
 unfold Vol sf
 omega
theorem Vol_le (h : Shape G n m) : Vol G≤n * (m * HN):=by
 obtain ⟨h1,h2⟩:=h
 subst h1
 unfold Vol
 induction G with
 | nil=>simp
 | cons r G ih =>
  have hr : ∀ (l : Sets),(l.map vol).sum≤l.length * HN:=by
   intro l
   induction l with
   | nil=>simp
   | cons a l ih=>have:=vol_le a; simp only [List.map_cons,List.sum_cons,List.length_cons,Nat.add_mul,Nat.one_mul]; omega
  have e:=hr r
  rw [h2 r (by simp)] at e
  have ih:=ih fun r hr=>h2 r (by simp [hr])
  simp only [List.map_cons,List.sum_cons,List.length_cons,Nat.add_mul,Nat.one_mul]
  omega
end
end Go.Proofs.Ytbhjgebjojdohaa
namespace Go.Proofs.Ytbhjgebjojdohaa
open Go Go.RowKit Go.Eng
set_option maxRecDepth 10000
set_option linter.unusedVariables false
set_option linter.unusedSimpArgs false
section
variable (S : Rays) (br jp : Int)
def LA : Lnk:=fun p q d=>p.1 = q.1∧p.1 < S.length∧lk (S.getD p.1 []) br p.2 q.2∧d = jp * ((q.2 : Int) - p.2)
def fst (a i k : Nat) : Prop:=1≤k∧(k : Int)≤br∧k < S.length∧ne (S.getD ((a + k) % S.length) []) i = true∧∀ k',1≤k'→k' < k→ne (S.getD ((a + k') % S.length) []) i = false
def LO : Lnk:=fun p q d=>p.1 < S.length∧ne (S.getD p.1 []) p.2 = true∧p.2 = q.2∧∃ k,fst S br p.1 p.2 k∧q.1 = (p.1 + k) % S.length∧d = jp * (k : Int)
def LL : Lnk:=fun p q d=>LA S br jp p q d∨LO S br jp p q d
end
theorem ne_lt {S : Sets} {i : Nat} (h : ne S i = true) : i < S.length:=by
 apply Classical.byContradiction
 intro hn
 unfold ne gt at h
 rw [List.getD_eq_getElem?_getD,List.getElem?_eq_none (by omega)] at h
 simp at h
section
variable {S : Rays} {br jp : Int} {n m : Nat} {F : Nat}
theorem LL_in (hS : Shape S n m) {p q : Pl} {d : Int} (h : LL S br jp p q d) : p.1 < n∧p.2 < m∧q.1 < n∧q.2 < m∧p≠q:=by
 rcases h with ⟨h1,h2,h3,h4⟩ | ⟨h1,h2,h3,k,h4,h5,h6⟩
 ·rw [hS.1] at h2
  have:=hS.row h2
  have h5:=ne_lt h3.2.2.1
  have h6:=h3.2.1
  rw [this] at h5 h6
  exact ⟨h2,h5,h1 ▸ h2,h6,fun e=>by have:=h3.1; rw [e] at this; omega⟩
 ·have hn0 : 0 < S.length:=by omega
  have h7:=ne_lt h2
  rw [hS.1] at *
  rw [hS.row h1] at h7
  refine ⟨h1,h7,h5 ▸ Nat.mod_lt _ hn0,h3 ▸ h7,fun e=>?_⟩
  have hk:=h4.1
  have hk2:=h4.2.2.1
  rw [hS.1] at hk2
  have e1 : p.1 = (p.1 + k) % n:=by rw [← h5,← e]
  by_cases hlt : p.1 + k < n
  ·rw [Nat.mod_eq_of_lt hlt] at e1; omega
  ·rw [Nat.mod_eq_sub_mod (by omega),Nat.mod_eq_of_lt (by omega)] at e1; omega
theorem LL_d (hS : Shape S n m) (hj : 0≤jp∧jp≤400000) (hb : br≤16) {p q : Pl} {d : Int} (h : LL S br jp p q d) : 0≤d∧d≤1000000000:=by
 have key : ∀ c : Int,0≤c→c≤16→0≤jp * c∧jp * c≤1000000000:=by
  intro c h0 h1
  have e1:=Int.mul_nonneg hj.1 h0
  have e2 : jp * c≤400000 * 16:=Int.mul_le_mul hj.2 h1 h0 (by omega)
  omega
 rcases h with ⟨h1,h2,h3,h4⟩ | ⟨h1,h2,h3,k,h4,h5,h6⟩
 ·rw [h4]
  have:=h3.1
  have:=h3.2.2.2.2.2
  exact key _ (by omega) (by omega)
 ·rw [h6]
  have:=h4.1
  have:=h4.2.1
  exact key _ (by omega) (by omega)
theorem getR {β : Type} {G : Rays} {a : Nat} (ha : a < G.length) (k : Sets→Option β) : (getI G (a : Int)).bind k = k (G.getD a []):=by
 rw [getb [] (by omega),Int.toNat_natCast]
theorem remN {β : Type} {a b : Nat} (hb : 0 < b) (k : Int→Option β) : (remC (a : Int) (b : Int)).bind k = k ((a % b : Nat) : Int):=by
 unfold remC
 rw [if_neg (by omega)]
 show k _ = _
 congr 1
theorem ne_dec (G : Sets) (i : Nat) : decide ((((gt G i).length : Nat) : Int) > 0) = ne G i:=by
 unfold ne
 rw [Bool.eq_iff_iff]; simp only [decide_eq_true_eq]; omega
end
end Go.Proofs.Ytbhjgebjojdohaa
namespace Go.Proofs.Ytbhjgebjojdohaa
open Go Go.RowKit Go.Eng
set_option maxRecDepth 10000
set_option linter.unusedVariables false
set_option linter.unusedSimpArgs false
theorem slices_Equal_fold_speeds_api_Span_loop (a b : List api_Span) (hl : a.length = b.length) (hb : a.length≤1000000000) : ∀ (n N i : Nat),i + n = a.length→n < N →
  slices_Equal_fold_speeds_api_Span_L2 a b N (i : Int) = some (decide (a.drop i = b.drop i)):=by
 intro n
 induction n with
 | zero =>
  intro N i hi hN
  obtain ⟨N,rfl⟩ : ∃ N',N = N' + 1:=⟨N - 1,by omega⟩
  show slices_Equal_fold_speeds_api_Span_B2 a b (slices_Equal_fold_speeds_api_Span_L2 a b N) (i : Int) = _
  unfold slices_Equal_fold_speeds_api_Span_B2
  rw [bifF (by simp; omega),List.drop_eq_nil_of_le (by omega),List.drop_eq_nil_of_le (by omega)]
  rfl
 | succ n ih =>
  intro N i hi hN
  obtain ⟨N,rfl⟩ : ∃ N',N = N' + 1:=⟨N - 1,by omega⟩
  show slices_Equal_fold_speeds_api_Span_B2 a b (slices_Equal_fold_speeds_api_Span_L2 a b N) (i : Int) = _
  unfold slices_Equal_fold_speeds_api_Span_B2
  rw [bifT (by simp; omega),getS (by omega),getS (by omega),drop_cons (i:=i) (l:=a) (by omega) default,drop_cons (i:=i) (l:=b) (by omega) default]
  show (bif (!(((gx a i).Lo == (gx b i).Lo) && (((gx a i).Hi == (gx b i).Hi) && true))) then _ else _) = some (decide (gx a i :: a.drop (i + 1) = gx b i :: b.drop (i + 1)))
  by_cases he : gx a i = gx b i
  ·rw [he,bifF (by simp),ckb (by omega),natS,ih N (i + 1) (by omega) (by omega)]
   congr 1
   simp
  ·rw [bifT]
   ·congr 1
    simp [he]
   ·apply Classical.byContradiction
    intro hn
    apply he
    simp only [Bool.not_eq_true,Bool.not_eq_false',Bool.and_eq_true,beq_iff_eq,and_true] at hn
    obtain ⟨h1,h2⟩:=hn
    cases hx : gx a i; cases hy : gx b i
    rw [hx,hy] at h1 h2
    simp only at h1 h2
    rw [h1,h2]
theorem slices_Equal_fold_speeds_api_Span_eq {F : Nat} (hF : FF≤F) (a b : List api_Span) (ha : a.length≤1000000000) : slices_Equal_fold_speeds_api_Span F a b = some (decide (a = b)):=by
 unfold FF at hF
 unfold slices_Equal_fold_speeds_api_Span
 by_cases hl : a.length = b.length
 ·rw [bifF (by simp; omega)]
  exact slices_Equal_fold_speeds_api_Span_loop a b hl ha a.length F 0 (by omega) (by omega)
 ·rw [bifT (by simp; omega)]
  congr 1
  have : a≠b:=fun e=>hl (by rw [e])
  simp [this]
section
variable {S : Rays} {br jp : Int} {n m : Nat} {F : Nat}
theorem setR {β : Type} {G : Rays} {a : Nat} {x : Sets} (ha : a < G.length) (k : Rays→Option β) : (setI G (a : Int) x).bind k = k (G.set a x):=by
 unfold setI
 rw [if_pos (by omega),sb,Int.toNat_natCast]
structure Inv (S : Rays) (R : Lnk) (n m : Nat) (G : Rays) : Prop where
 shape : Shape G n m
 good : AllG G
 below : Below (gf G) (gf S)
 most : ∀ h,Stable R h→Below h (gf S)→Below h (gf G)
theorem Inv.step {R : Lnk} {G : Rays} (h : Inv S R n m G) {p q : Pl} {d : Int} (hd : 0≤d) (hq : q.1 < n∧q.2 < m) (hl : both R p q d) : Inv S R n m (sf G q (nr (gf G q) (gf G p) d))∧(nr (gf G q) (gf G p) d≠gf G q→Vol (sf G q (nr (gf G q) (gf G p) d)) < Vol G):=by
 have hg:=h.good.good
 have hgood : Good (nr (gf G q) (gf G p) d):=(hg q).nr (hg p) hd
 refine ⟨⟨h.shape.sf hq.1,h.good.sf hgood,?_,fun k hk hb=>?_⟩,fun hne=>?_⟩
 ·rw [gg_sg h.shape hq]; exact (nr_below hg hd).trans h.below
 ·rw [gg_sg h.shape hq]; exact nr_keeps hg hd hk (h.most k hk hb) hl
 ·have h1:=Vol_sg (x:=nr (gf G q) (gf G p) d) h.shape hq
  have h2:=vol_lt (a:=nr (gf G q) (gf G p) d) (b:=gf G q) (fun z hz=>((nr_mem (hg p).1.2 hd z).1 hz).1) hgood.1 (hg q) hne
  omega
def FS : Nat:=4000000000000
end
end Go.Proofs.Ytbhjgebjojdohaa
namespace Go.Proofs.Ytbhjgebjojdohaa
open Go Go.RowKit Go.Eng
set_option maxRecDepth 10000
set_option linter.unusedVariables false
set_option linter.unusedSimpArgs false
section
variable {κ ν : Type} [DecidableEq κ]
theorem lk_up (B : List (κ×ν)) (x y : κ) (v : ν) : lkM (upM B x v) y = if y = x then some v else lkM B y:=by
 induction B with
 | nil=>unfold upM lkM; split <;> rfl
 | cons p B ih =>
  unfold upM
  by_cases hx : x = p.1
  ·rw [if_pos hx]
   unfold lkM
   by_cases hy : y = x
   ·simp [hy]
   ·simp only [if_neg hy]
    rw [if_neg (by rw [← hx]; exact hy)]
  ·rw [if_neg hx]
   unfold lkM
   by_cases hy : y = p.1
   ·rw [if_pos hy,if_pos hy,if_neg (fun e=>hx (by rw [← e,hy]))]
   ·rw [if_neg hy,if_neg hy,ih]
def keysNd (B : List (κ×ν)) : Prop:=(B.map (·.1)).Nodup
theorem up_keys (B : List (κ×ν)) (x : κ) (v : ν) : ∀ k,k ∈ (upM B x v).map (·.1)↔k ∈ B.map (·.1)∨k = x:=by
 intro k
 induction B with
 | nil=>simp [upM]
 | cons p B ih =>
  unfold upM
  by_cases hx : x = p.1
  ·rw [if_pos hx]
   simp only [List.map_cons,List.mem_cons,hx]
   constructor
   ·rintro (h | h)
    ·exact .inr h
    ·exact .inl (.inr h)
   ·rintro ((h | h) | h)
    ·exact .inl h
    ·exact .inr h
    ·exact .inl h
  ·rw [if_neg hx]
   simp only [List.map_cons,List.mem_cons,ih]
   constructor
   ·rintro (h | h | h)
    ·exact .inl (.inl h)
    ·exact .inl (.inr h)
    ·exact .inr h
   ·rintro ((h | h) | h)
    ·exact .inl h
    ·exact .inr (.inl h)
    ·exact .inr (.inr h)
theorem up_nd {B : List (κ×ν)} (h : keysNd B) (x : κ) (v : ν) : keysNd (upM B x v):=by
 induction B with
 | nil=>simp [keysNd,upM]
 | cons p B ih =>
  unfold keysNd at h ⊢
  rw [List.map_cons,List.nodup_cons] at h
  unfold upM
  by_cases hx : x = p.1
  ·rw [if_pos hx,List.map_cons,List.nodup_cons]
   exact ⟨by rw [hx]; exact h.1,h.2⟩
  ·rw [if_neg hx,List.map_cons,List.nodup_cons,up_keys]
   exact ⟨fun hh=>hh.elim h.1 (fun e=>hx e.symm),ih h.2⟩
theorem lk_none {B : List (κ×ν)} {y : κ} (h : y ∉ B.map (·.1)) : lkM B y = none:=by
 induction B with
 | nil=>rfl
 | cons p B ih =>
  simp only [List.map_cons,List.mem_cons,not_or] at h
  unfold lkM
  rw [if_neg h.1,ih h.2]
theorem del_sub (B : List (κ×ν)) (x k : κ) (h : k ∈ (delM B x).map (·.1)) : k ∈ B.map (·.1):=by
 induction B with
 | nil=>exact h
 | cons p B ih =>
  unfold delM at h
  by_cases hx : x = p.1
  ·rw [if_pos hx] at h; simp [h]
  ·rw [if_neg hx,List.map_cons,List.mem_cons] at h
   rw [List.map_cons,List.mem_cons]
   exact h.imp id ih
theorem del_nd {B : List (κ×ν)} (h : keysNd B) (x : κ) : keysNd (delM B x):=by
 induction B with
 | nil=>exact h
 | cons p B ih =>
  unfold keysNd at h ⊢
  rw [List.map_cons,List.nodup_cons] at h
  unfold delM
  by_cases hx : x = p.1
  ·rw [if_pos hx]; exact h.2
  ·rw [if_neg hx,List.map_cons,List.nodup_cons]
   exact ⟨fun hh=>h.1 (del_sub B x _ hh),ih h.2⟩
theorem lk_del {B : List (κ×ν)} (h : keysNd B) (x y : κ) : lkM (delM B x) y = if y = x then none else lkM B y:=by
 induction B with
 | nil=>unfold delM lkM; split <;> rfl
 | cons p B ih =>
  have h':=h
  unfold keysNd at h
  rw [List.map_cons,List.nodup_cons] at h
  unfold delM
  by_cases hx : x = p.1
  ·rw [if_pos hx]
   by_cases hy : y = x
   ·rw [if_pos hy]; exact lk_none (by rw [hy,hx]; exact h.1)
   ·rw [if_neg hy]
    conv=>rhs; unfold lkM
    rw [if_neg (by rw [← hx]; exact hy)]
  ·rw [if_neg hx]
   conv=>lhs; unfold lkM
   by_cases hy : y = p.1
   ·rw [if_pos hy,if_neg (fun e=>hx (by rw [← e,hy]))]
    unfold lkM
    rw [if_pos hy]
   ·rw [if_neg hy,ih h.2]
    conv=>rhs; unfold lkM
    rw [if_neg hy]
end
abbrev Bonds:=List (fold_place×List fold_bond)
def pl (p : Pl) : fold_place:=⟨(p.1 : Int),(p.2 : Int)⟩
theorem pl_inj {p q : Pl} (h : pl p = pl q) : p = q:=by
 unfold pl at h
 simp only [fold_place.mk.injEq] at h
 exact Prod.ext (by omega) (by omega)
def Bd (B : Bonds) (r : fold_place) : List fold_bond:=(lkM B r).getD []
theorem link_eq (F : Nat) (W : Rays) (B : Bonds) {p q : fold_place} (hpq : p≠q) (d : Int) (h1 : (Bd B p).length≤100000000) (h2 : (Bd B q).length≤100000000) :
  ∃ B',pfold_web_link F ⟨W,B⟩ p q d = some ⟨W,B'⟩∧∀ r,Bd B' r = if r = p then Bd B p ++ [⟨q,d⟩] else if r = q then Bd B q ++ [⟨p,d⟩] else Bd B r:=by
 unfold pfold_web_link
 unfold Bd at h1 h2
 have e : lkM (upM B p ((lkM B p).getD [] ++ [(⟨q,d⟩ : fold_bond)])) q = lkM B q:=by rw [lk_up,if_neg (fun e=>hpq e.symm)]
 show ∃ B',((apd 24 ((lkM B p).getD []) [(⟨q,d⟩ : fold_bond)]).bind fun l23=>(apd 24 ((lkM (upM B p l23) q).getD []) [(⟨p,d⟩ : fold_bond)]).bind fun l67=>some (⟨W,upM (upM B p l23) q l67⟩ : fold_web)) = some ⟨W,B'⟩∧_
 rw [apdb (by simp; omega),e,apdb (by simp; omega)]
 refine ⟨_,rfl,fun r=>?_⟩
 unfold Bd
 rw [lk_up,lk_up]
 by_cases hrq : r = q
 ·rw [if_pos hrq,if_neg (fun e=>hpq (by rw [← e,hrq])),if_pos hrq]; rfl
 ·rw [if_neg hrq]
  by_cases hrp : r = p
  ·rw [if_pos hrp,if_pos hrp]; rfl
  ·rw [if_neg hrp,if_neg hrp,if_neg hrq]
structure WI (P : Lnk) (B : Bonds) (c : Nat) : Prop where
 len : ∀ r,(Bd B r).length≤c
 iff : ∀ (p q : Pl) d,(⟨pl q,d⟩ : fold_bond) ∈ Bd B (pl p)↔both P p q d
 form : ∀ r b,b ∈ Bd B r→∃ p q : Pl,r = pl p∧b.to = pl q
def addL (P : Lnk) (p q : Pl) (d : Int) : Lnk:=fun a b e=>P a b e∨(a = p∧b = q∧e = d)
theorem WI.link {P : Lnk} {B : Bonds} {c : Nat} (h : WI P B c) (hc : c≤100000000) (F : Nat) (W : Rays) {p q : Pl} (hpq : p≠q) (d : Int) : ∃ B',pfold_web_link F ⟨W,B⟩ (pl p) (pl q) d = some ⟨W,B'⟩∧WI (addL P p q d) B' (c + 1):=by
 have h1:=h.len (pl p)
 have h2:=h.len (pl q)
 obtain ⟨B',b1,b2⟩:=link_eq F W B (fun e=>hpq (pl_inj e)) d (by omega) (by omega)
 refine ⟨B',b1,fun r=>?_,fun a b e=>?_,fun r b hb=>?_⟩
 ·have h3:=h.len r
  rw [b2]
  split
  ·simp; omega
  ·split
   ·simp; omega
   ·omega
 ·rw [b2]
  have hi:=h.iff a b e
  unfold both addL at *
  by_cases hap : a = p
  ·subst hap
   rw [if_pos rfl,List.mem_append,List.mem_singleton,hi]
   have hn : ¬ (a = q):=hpq
   constructor
   ·rintro ((h | h) | h)
    ·exact .inl (.inl h)
    ·exact .inr (.inl h)
    ·simp only [fold_bond.mk.injEq] at h
     exact .inl (.inr ⟨rfl,pl_inj h.1,h.2⟩)
   ·rintro ((h | ⟨_,rfl,rfl⟩) | (h | ⟨_,h,_⟩))
    ·exact .inl (.inl h)
    ·exact .inr rfl
    ·exact .inl (.inr h)
    ·exact absurd h hn
  ·rw [if_neg (fun e=>hap (pl_inj e))]
   by_cases haq : a = q
   ·subst haq
    rw [if_pos rfl,List.mem_append,List.mem_singleton,hi]
    constructor
    ·rintro ((h | h) | h)
     ·exact .inl (.inl h)
     ·exact .inr (.inl h)
     ·simp only [fold_bond.mk.injEq] at h
      exact .inr (.inr ⟨pl_inj h.1,rfl,h.2⟩)
    ·rintro ((h | ⟨h,_⟩) | (h | ⟨rfl,_,rfl⟩))
     ·exact .inl (.inl h)
     ·exact absurd h hap
     ·exact .inl (.inr h)
     ·exact .inr rfl
   ·rw [if_neg (fun e=>haq (pl_inj e)),hi]
    constructor
    ·rintro (h | h)
     ·exact .inl (.inl h)
     ·exact .inr (.inl h)
    ·rintro ((h | ⟨h,_⟩) | (h | ⟨_,h,_⟩))
     ·exact .inl h
     ·exact absurd h hap
     ·exact .inr h
     ·exact absurd h haq
 ·rw [b2] at hb
  split at hb
  ·rename_i e
   rcases List.mem_append.1 hb with hb | hb
   ·obtain ⟨a,b',e1,e2⟩:=h.form _ _ hb; exact ⟨p,b',e,e2⟩
   ·simp at hb; subst hb; exact ⟨p,q,e,rfl⟩
  ·split at hb
   ·rename_i e
    rcases List.mem_append.1 hb with hb | hb
    ·obtain ⟨a,b',e1,e2⟩:=h.form _ _ hb; exact ⟨q,b',e,e2⟩
    ·simp at hb; subst hb; exact ⟨q,p,e,rfl⟩
   ·exact h.form r b hb
theorem WI.same {P Q : Lnk} {B : Bonds} {c c' : Nat} (h : WI P B c) (hc : c≤c') (hPQ : ∀ p q d,P p q d↔Q p q d) : WI Q B c' :=
 ⟨fun r=>Nat.le_trans (h.len r) hc,fun p q d=>by rw [h.iff]; unfold both; rw [hPQ,hPQ],h.form⟩
section
variable {S : Rays} {br jp : Int} {n m : Nat} {F : Nat}
theorem web_around (hS : Shape S n m) (hn : n≤1000) (hm : m≤1000) (hj : 0≤jp∧jp≤400000) (hb : br≤16) {a i : Nat} (ha : a < n) (hi : i < m) (hk : ne (S.getD a []) i = true) (k5 : Rays→Bonds→Int→Option fold_web) (t0 : Int) (W : Rays) {P : Lnk} {B : Bonds} {c : Nat} (hW : WI P B c) (hc : c≤10000000) :
  ∀ (t N k : Nat),k + t = n→1≤k→t < N→(∀ k',1≤k'→k' < k→ne (S.getD ((a + k') % n) []) i = false) →
  ∃ B',fold_weave_L8 F S jp br (a : Int) t0 k5 (i : Int) W B N (k : Int) = fold_weave_K6 t0 k5 W B'∧WI (fun p q d=>P p q d∨(p = (a,i)∧LO S br jp p q d)) B' (c + 1):=by
 have hnone : ∀ k : Nat,((k : Int) > br∨k ≥ n)→(∀ k',1≤k'→k' < k→ne (S.getD ((a + k') % n) []) i = false)→∀ p q d,¬ (p = (a,i)∧LO S br jp p q d):=by
  rintro k hk1 hno p q d ⟨rfl,h1,h2,h3,k2,h4,h5,h6⟩
  obtain ⟨g1,g2,g3,g4,g5⟩:=h4
  rw [hS.1] at g3 g4
  have : k2 < k:=by omega
  rw [hno k2 g1 this] at g4
  cases g4
 intro t
 induction t with
 | zero =>
  intro N k hkt h1 hN hno
  obtain ⟨N,rfl⟩ : ∃ N',N = N' + 1:=⟨N - 1,by omega⟩
  refine ⟨B,?_,hW.same (by omega) fun p q d=>⟨.inl,fun h=>h.elim id fun h=>absurd h (hnone k (.inr (by omega)) hno p q d)⟩⟩
  show fold_weave_B8 F S jp br (a : Int) t0 k5 (i : Int) W B (fold_weave_L8 F S jp br (a : Int) t0 k5 (i : Int) W B N) (k : Int) = _
  unfold fold_weave_B8
  rw [hS.1,ckb (by omega),bifF (by simp only [decide_eq_false_iff_not]; split <;> omega)]
 | succ t ih =>
  intro N k hkt h1 hN hno
  obtain ⟨N,rfl⟩ : ∃ N',N = N' + 1:=⟨N - 1,by omega⟩
  have s1 : fold_weave_L8 F S jp br (a : Int) t0 k5 (i : Int) W B (N + 1) (k : Int) = fold_weave_B8 F S jp br (a : Int) t0 k5 (i : Int) W B (fold_weave_L8 F S jp br (a : Int) t0 k5 (i : Int) W B N) (k : Int):=rfl
  rw [s1]
  unfold fold_weave_B8
  rw [hS.1,ckb (by omega)]
  by_cases hkb : (k : Int)≤br
  ·rw [bifT (by simp only [decide_eq_true_eq]; split <;> omega)]
   have hal : a < S.length:=by rw [hS.1]; exact ha
   have hb2 : (a + k) % n < n:=Nat.mod_lt _ (by omega)
   have hb3 : (a + k) % n < S.length:=by rw [hS.1]; exact hb2
   have hrow2:=hS.row hb2
   have hjk : 0≤jp * (k : Int)∧jp * (k : Int)≤1000000000:=by
    have e1:=Int.mul_nonneg hj.1 (Int.natCast_nonneg k)
    have e2 : jp * (k : Int)≤400000 * 16:=Int.mul_le_mul hj.2 (by omega) (by omega) (by omega)
    omega
   have e3 : ((a : Int) + (k : Int)) = ((a + k : Nat) : Int):=by omega
   rw [e3,ckb (by omega),remN (by omega),getR hb3,getG (by rw [hrow2]; exact hi),ne_dec]
   cases hq : ne (S.getD ((a + k) % n) []) i with
   | true =>
    have hl : LO S br jp (a,i) ((a + k) % n,i) (jp * (k : Int)):=⟨hal,hk,rfl,k,⟨h1,hkb,by rw [hS.1]; omega,by rw [hS.1]; exact hq,by rw [hS.1]; exact hno⟩,by rw [hS.1],rfl⟩
    have hne:=(LL_in (br:=br) (jp:=jp) hS (.inr hl)).2.2.2.2
    obtain ⟨B',b1,b2⟩:=hW.link (by omega) F W hne (jp * (k : Int))
    refine ⟨B',?_,b2.same (Nat.le_refl _) fun p q d=>?_⟩
    ·rw [bifT rfl,ckb (by omega)]
     show ((pfold_web_link F ⟨W,B⟩ (pl (a,i)) (pl ((a + k) % n,i)) (jp * (k : Int))).bind fun y=>fold_weave_K6 t0 k5 y.sets y.bonds) = _
     rw [b1,sb]
    ·unfold addL
     constructor
     ·rintro (h | ⟨rfl,rfl,rfl⟩)
      ·exact .inl h
      ·exact .inr ⟨rfl,hl⟩
     ·rintro (h | ⟨rfl,g1,g2,g3,k2,g4,g5,g6⟩)
      ·exact .inl h
      ·have hk2 : k2 = k:=by
        obtain ⟨f1,f2,f3,f4,f5⟩:=g4
        rw [hS.1] at f3 f4 f5
        rcases Nat.lt_trichotomy k2 k with hlt | hlt | hlt
        ·have:=hno k2 f1 hlt; rw [this] at f4; cases f4
        ·exact hlt
        ·have:=f5 k h1 hlt; rw [this] at hq; cases hq
       subst hk2
       refine .inr ⟨rfl,?_,g6⟩
       rw [hS.1] at g5
       exact Prod.ext g5 g3.symm
   | false =>
    rw [bifF rfl,ckb (by omega),natS]
    exact ih N (k + 1) (by omega) (by omega) (by omega) (fun k' q1 q2=>by
     by_cases hkk : k' = k
     ·subst hkk; exact hq
     ·exact hno k' q1 (by omega))
  ·rw [bifF (by simp only [decide_eq_false_iff_not]; split <;> omega)]
   exact ⟨B,rfl,hW.same (by omega) fun p q d=>⟨.inl,fun h=>h.elim id fun h=>absurd h (hnone k (.inl (by omega)) hno p q d)⟩⟩
theorem lk_kn {T : Sets} {u : Nat} (h0 : 0 < u) (hu : u < (Kn T).length) {x y : Nat} : (lk T br x y∧y = kn T u)↔(x = kn T (u - 1)∧y = kn T u∧((kn T u : Nat) : Int) - (kn T (u - 1) : Nat)≤br):=by
 have hm1:=Kn_mem.1 (kn_get hu).1
 have hm0:=Kn_mem.1 (kn_get (S:=T) (t:=u - 1) (by omega)).1
 have hlt:=kn_lt (S:=T) (t:=u - 1) (u:=u) (by omega) hu
 have hbt : ∀ x,kn T (u - 1) < x→x < kn T u→ne T x = false:=fun x h1 h2=>between (S:=T) (t:=u - 1) (by omega) h1 (by rw [show u - 1 + 1 = u by omega]; exact h2)
 constructor
 ·rintro ⟨⟨g1,g2,g3,g4,g5,g6⟩,rfl⟩
  have hx : x = kn T (u - 1):=by
   rcases Nat.lt_trichotomy x (kn T (u - 1)) with h | h | h
   ·have:=g5 _ h hlt; rw [this] at hm0; exact absurd hm0.2 (by simp)
   ·exact h
   ·have:=hbt x h g1; rw [this] at g3; cases g3
  subst hx
  exact ⟨rfl,rfl,g6⟩
 ·rintro ⟨rfl,rfl,h3⟩
  exact ⟨⟨hlt,hm1.1,hm0.2,hm1.2,hbt,h3⟩,rfl⟩
def QW (S : Rays) (br jp : Int) (a t : Nat) : Lnk:=fun p q d=>p.1 = a∧((LA S br jp p q d∧∃ u,t≤u∧u < (Kn (S.getD a [])).length∧q.2 = kn (S.getD a []) u)∨(LO S br jp p q d∧∃ u,t≤u∧u < (Kn (S.getD a [])).length∧p.2 = kn (S.getD a []) u))
theorem web_ray (hF : FF≤F) (hS : Shape S n m) (hn : n≤1000) (hm : m≤1000) (hj : 0≤jp∧jp≤400000) (hb : br≤16) {a : Nat} (ha : a < n) (k2 : Rays→Bonds→Int→Option fold_web) (W : Rays) :
  ∀ (s N t : Nat) (P : Lnk) (B : Bonds) (c : Nat),t + s = (Kn (S.getD a [])).length→s < N→WI P B c→c + 2 * s≤10000000 →
  ∃ B',fold_weave_L5 F S jp br (a : Int) k2 (S.getD a []) (toI (Kn (S.getD a []))) N W B (t : Int) = fold_weave_K4 F (a : Int) k2 (S.getD a []) W B'∧WI (fun p q d=>P p q d∨QW S br jp a t p q d) B' (c + 2 * s):=by
 have hal : a < S.length:=by rw [hS.1]; exact ha
 have hrow:=hS.row ha
 have hKn:=Kn_len (S:=S.getD a [])
 have hkl : (toI (Kn (S.getD a []))).length = (Kn (S.getD a [])).length:=by unfold toI; rw [List.length_map]
 have hF':=hF
 unfold FF at hF'
 intro s
 induction s with
 | zero =>
  intro N t P B c hts hN hW hc
  obtain ⟨N,rfl⟩ : ∃ N',N = N' + 1:=⟨N - 1,by omega⟩
  refine ⟨B,?_,hW.same (by omega) fun p q d=>⟨.inl,fun h=>h.elim id fun h=>?_⟩⟩
  ·show fold_weave_B5 F S jp br (a : Int) k2 (S.getD a []) (toI (Kn (S.getD a []))) (fold_weave_L5 F S jp br (a : Int) k2 (S.getD a []) (toI (Kn (S.getD a []))) N) W B (t : Int) = _
   unfold fold_weave_B5
   rw [hkl,bifF (by simp only [decide_eq_false_iff_not]; omega)]
  ·obtain ⟨_,⟨_,u,u1,u2,_⟩ | ⟨_,u,u1,u2,_⟩⟩:=h <;> omega
 | succ s ih =>
  intro N t P B c hts hN hW hc
  obtain ⟨N,rfl⟩ : ∃ N',N = N' + 1:=⟨N - 1,by omega⟩
  have s1 : fold_weave_L5 F S jp br (a : Int) k2 (S.getD a []) (toI (Kn (S.getD a []))) (N + 1) W B (t : Int) = fold_weave_B5 F S jp br (a : Int) k2 (S.getD a []) (toI (Kn (S.getD a []))) (fold_weave_L5 F S jp br (a : Int) k2 (S.getD a []) (toI (Kn (S.getD a []))) N) W B (t : Int):=rfl
  rw [s1]
  have htl : t < (Kn (S.getD a [])).length:=by omega
  have hkt:=Kn_mem.1 (kn_get htl).1
  rw [hrow] at hkt
  have fin : ∀ (P1 : Lnk) (B1 : Bonds),WI P1 B1 (c + 1)→(∀ p q d,P1 p q d↔P p q d∨(p.1 = a∧LA S br jp p q d∧q.2 = kn (S.getD a []) t)) →
    ∃ B',fold_weave_K7 F S jp br (a : Int) (t : Int) (fold_weave_L5 F S jp br (a : Int) k2 (S.getD a []) (toI (Kn (S.getD a []))) N) ((kn (S.getD a []) t : Nat) : Int) W B1 = fold_weave_K4 F (a : Int) k2 (S.getD a []) W B'∧WI (fun p q d=>P p q d∨QW S br jp a t p q d) B' (c + 2 * (s + 1)):=by
   intro P1 B1 hW1 hP1
   unfold fold_weave_K7
   obtain ⟨B2,b1,b2⟩:=web_around (F:=F) hS hn hm hj hb ha hkt.1 hkt.2 (fold_weave_L5 F S jp br (a : Int) k2 (S.getD a []) (toI (Kn (S.getD a []))) N) (t : Int) W hW1 (by omega) (n - 1) F 1 (by omega) (by omega) (by omega) (fun k' h1 h2=>by omega)
   rw [show ((1 : Nat) : Int) = 1 from rfl] at b1
   rw [b1]
   unfold fold_weave_K6
   rw [ckb (by omega),natS]
   obtain ⟨B3,c1,c2⟩:=ih N (t + 1) _ B2 (c + 1 + 1) (by omega) (by omega) b2 (by omega)
   refine ⟨B3,c1,c2.same (by omega) fun p q d=>?_⟩
   rw [hP1]
   constructor
   ·rintro (((h | ⟨h1,h2,h3⟩) | ⟨rfl,h2⟩) | ⟨h1,⟨h2,u,u1,u2,u3⟩ | ⟨h2,u,u1,u2,u3⟩⟩)
    ·exact .inl h
    ·exact .inr ⟨h1,.inl ⟨h2,t,Nat.le_refl _,htl,h3⟩⟩
    ·exact .inr ⟨rfl,.inr ⟨h2,t,Nat.le_refl _,htl,rfl⟩⟩
    ·exact .inr ⟨h1,.inl ⟨h2,u,by omega,u2,u3⟩⟩
    ·exact .inr ⟨h1,.inr ⟨h2,u,by omega,u2,u3⟩⟩
   ·rintro (h | ⟨h1,⟨h2,u,u1,u2,u3⟩ | ⟨h2,u,u1,u2,u3⟩⟩)
    ·exact .inl (.inl (.inl h))
    ·by_cases hut : u = t
     ·subst hut; exact .inl (.inl (.inr ⟨h1,h2,u3⟩))
     ·exact .inr ⟨h1,.inl ⟨h2,u,by omega,u2,u3⟩⟩
    ·by_cases hut : u = t
     ·subst hut; exact .inl (.inr ⟨Prod.ext h1 u3,h2⟩)
     ·exact .inr ⟨h1,.inr ⟨h2,u,by omega,u2,u3⟩⟩
  unfold fold_weave_B5
  rw [hkl,bifT (by simp only [decide_eq_true_eq]; omega),getK htl]
  by_cases ht0 : t = 0
  ·subst ht0
   have eg : ((decide (((0 : Nat) : Int) > 0)) == true && true) = false:=by simp
   rw [gdF eg,sb,gdF eg,sb,gdF eg,sb]
   rw [bifF (by simp)]
   refine fin P B (hW.same (by omega) fun _ _ _=>Iff.rfl) fun p q d=>⟨.inl,fun h=>h.elim id ?_⟩
   rintro ⟨rfl,⟨h1,h2,h3,h4⟩,h5⟩
   exfalso
   have:=before (S:=S.getD p.1 []) (by omega) (by rw [← h5]; exact h3.1)
   have h6:=h3.2.2.1
   rw [this] at h6; cases h6
  ·have eg : ((decide ((t : Int) > 0)) == true && true) = true:=by simp; omega
   have e1 : ((t : Int) - 1) = ((t - 1 : Nat) : Int):=by omega
   have hkp:=Kn_mem.1 (kn_get (S:=S.getD a []) (t:=t - 1) (by omega)).1
   rw [hrow] at hkp
   have hlt:=kn_lt (S:=S.getD a []) (t:=t - 1) (u:=t) (by omega) htl
   rw [gdT eg,ckb (by omega),e1,gdT eg,getK (by omega),gdT eg,ckb (by omega)]
   have e2 : decide ((t : Int) > 0) = true:=by simp; omega
   rw [e2]
   have hlk:=fun {x y : Nat}=>lk_kn (br:=br) (T:=S.getD a []) (u:=t) (by omega) htl (x:=x) (y:=y)
   by_cases hd : ((kn (S.getD a []) t : Nat) : Int) - ((kn (S.getD a []) (t - 1) : Nat) : Int)≤br
   ·have e3 : (bif true then (decide (((kn (S.getD a []) t : Nat) : Int) - ((kn (S.getD a []) (t - 1) : Nat) : Int)≤br)) else false) = true:=by rw [cond_true]; simpa using hd
    rw [e3]
    refine (congrArg (fun z=>∃ B',z = fold_weave_K4 F (a : Int) k2 (S.getD a []) W B'∧WI (fun p q d=>P p q d∨QW S br jp a t p q d) B' (c + 2 * (s + 1))) (bifT rfl)).mpr ?_
    have hdj : 0≤jp * (((kn (S.getD a []) t : Nat) : Int) - ((kn (S.getD a []) (t - 1) : Nat) : Int))∧jp * (((kn (S.getD a []) t : Nat) : Int) - ((kn (S.getD a []) (t - 1) : Nat) : Int))≤1000000000:=by
     have q1:=Int.mul_nonneg hj.1 (show (0 : Int)≤((kn (S.getD a []) t : Nat) : Int) - ((kn (S.getD a []) (t - 1) : Nat) : Int) by omega)
     have q2 : jp * (((kn (S.getD a []) t : Nat) : Int) - ((kn (S.getD a []) (t - 1) : Nat) : Int))≤400000 * 16:=Int.mul_le_mul hj.2 (by omega) (by omega) (by omega)
     omega
    have hne : ((a,kn (S.getD a []) (t - 1)) : Pl)≠(a,kn (S.getD a []) t):=fun e=>by simp only [Prod.mk.injEq] at e; omega
    obtain ⟨B1,b1,b2⟩:=hW.link (by omega) F W hne (jp * (((kn (S.getD a []) t : Nat) : Int) - ((kn (S.getD a []) (t - 1) : Nat) : Int)))
    rw [ckb (by omega),getK (by omega),ckb (by omega),getK (by omega),ckb (by omega),ckb (by omega)]
    have b1' : pfold_web_link F { sets:=W,bonds:=B } { ray:=(a : Int),gate:=((kn (S.getD a []) (t - 1) : Nat) : Int) } { ray:=(a : Int),gate:=((kn (S.getD a []) t : Nat) : Int) } (jp * (((kn (S.getD a []) t : Nat) : Int) - ((kn (S.getD a []) (t - 1) : Nat) : Int))) = some ⟨W,B1⟩:=b1
    rw [b1',sb]
    refine fin _ B1 b2 fun p q d=>?_
    unfold addL
    constructor
    ·rintro (h | ⟨rfl,rfl,rfl⟩)
     ·exact .inl h
     ·exact .inr ⟨rfl,⟨rfl,hal,(hlk.2 ⟨rfl,rfl,hd⟩).1,rfl⟩,rfl⟩
    ·rintro (h | ⟨h0,⟨h1,h2,h3,h4⟩,h5⟩)
     ·exact .inl h
     ·rw [h0] at h3
      obtain ⟨g1,g2,g3⟩:=hlk.1 ⟨h3,h5⟩
      refine .inr ⟨Prod.ext h0 g1,Prod.ext (h1 ▸ h0) g2,?_⟩
      rw [h4,g1,g2]
   ·have e3 : (bif true then (decide (((kn (S.getD a []) t : Nat) : Int) - ((kn (S.getD a []) (t - 1) : Nat) : Int)≤br)) else false) = false:=by rw [cond_true]; simpa using hd
    rw [e3]
    refine (congrArg (fun z=>∃ B',z = fold_weave_K4 F (a : Int) k2 (S.getD a []) W B'∧WI (fun p q d=>P p q d∨QW S br jp a t p q d) B' (c + 2 * (s + 1))) (bifF rfl)).mpr ?_
    refine fin P B (hW.same (by omega) fun _ _ _=>Iff.rfl) fun p q d=>⟨.inl,fun h=>h.elim id ?_⟩
    rintro ⟨h0,⟨h1,h2,h3,h4⟩,h5⟩
    rw [h0] at h3
    exact absurd (hlk.1 ⟨h3,h5⟩).2.2 hd
theorem QW_all (hS : Shape S n m) {a : Nat} (p q : Pl) (d : Int) : QW S br jp a 0 p q d↔p.1 = a∧LL S br jp p q d:=by
 unfold QW LL
 constructor
 ·rintro ⟨h,⟨h1,_⟩ | ⟨h1,_⟩⟩
  ·exact ⟨h,.inl h1⟩
  ·exact ⟨h,.inr h1⟩
 ·rintro ⟨rfl,h | h⟩
  ·obtain ⟨h1,h2,h3,h4⟩:=h
   obtain ⟨u,u1,u2⟩:=kn_of (S:=S.getD p.1 []) h3.2.1 h3.2.2.2.1
   exact ⟨rfl,.inl ⟨⟨h1,h2,h3,h4⟩,u,Nat.zero_le _,u1,u2.symm⟩⟩
  ·have h2:=h.2.1
   obtain ⟨u,u1,u2⟩:=kn_of (S:=S.getD p.1 []) (ne_lt h2) h2
   exact ⟨rfl,.inr ⟨h,u,Nat.zero_le _,u1,u2.symm⟩⟩
theorem web_all (hF : FF≤F) (hS : Shape S n m) (hn : n≤1000) (hm : m≤1000) (hj : 0≤jp∧jp≤400000) (hb : br≤16) :
  ∀ (t N a : Nat) (P : Lnk) (B : Bonds) (c : Nat),a + t = n→t < N→WI P B c→c + t * (2 * m)≤9000000 →
  ∃ B',fold_weave_L2 F S jp br N (S.take a) B (a : Int) = some ⟨S,B'⟩∧WI (fun p q d=>P p q d∨(a≤p.1∧LL S br jp p q d)) B' (c + t * (2 * m)):=by
 have hF':=hF
 unfold FF at hF'
 intro t
 induction t with
 | zero =>
  intro N a P B c hat hN hW hc
  obtain ⟨N,rfl⟩ : ∃ N',N = N' + 1:=⟨N - 1,by omega⟩
  refine ⟨B,?_,hW.same (by omega) fun p q d=>⟨.inl,fun h=>h.elim id fun h=>?_⟩⟩
  ·show fold_weave_B2 F S jp br (fold_weave_L2 F S jp br N) (S.take a) B (a : Int) = _
   unfold fold_weave_B2
   rw [hS.1,bifF (by simp; omega),List.take_of_length_le (by rw [hS.1]; omega)]; rfl
  ·have:=LL_in hS h.2
   omega
 | succ t ih =>
  intro N a P B c hat hN hW hc
  obtain ⟨N,rfl⟩ : ∃ N',N = N' + 1:=⟨N - 1,by omega⟩
  have s1 : fold_weave_L2 F S jp br (N + 1) (S.take a) B (a : Int) = fold_weave_B2 F S jp br (fold_weave_L2 F S jp br N) (S.take a) B (a : Int):=rfl
  rw [s1]
  have hal : a < S.length:=by rw [hS.1]; omega
  have hrow:=hS.row (a:=a) (by omega)
  have hKn:=Kn_len (S:=S.getD a [])
  rw [Nat.add_mul] at hc
  unfold fold_weave_B2
  rw [hS.1,bifT (by simp; omega),getR hal,known_eq hF (by rw [hrow]; omega),sb]
  obtain ⟨B1,b1,b2⟩:=web_ray hF hS hn hm hj hb (a:=a) (by omega) (fold_weave_L2 F S jp br N) (S.take a) (Kn (S.getD a [])).length F 0 P B c (by omega) (by omega) hW (by omega)
  rw [show ((0 : Nat) : Int) = 0 from rfl] at b1
  rw [b1]
  unfold fold_weave_K4 slices_Clone_fold_speeds_fold_speeds fold_weave_K3
  have ht : (S.take a).length = a:=by rw [List.length_take]; omega
  rw [apdb (by rw [hrow]; simp; omega),sb,List.nil_append,apdb (by rw [ht]; simp; omega),ckb (by omega),natS]
  have e : S.take a ++ [S.getD a []] = S.take (a + 1):=by
   rw [List.take_add_one]
   congr 1
   rw [List.getD_eq_getElem?_getD,List.getElem?_eq_getElem hal]; rfl
  rw [e]
  obtain ⟨B2,c1,c2⟩:=ih N (a + 1) _ B1 (c + 2 * m) (by omega) (by omega) (b2.same (by omega) fun _ _ _=>Iff.rfl) (by omega)
  refine ⟨B2,c1,c2.same (by rw [Nat.add_mul]; omega) fun p q d=>?_⟩
  rw [QW_all hS]
  constructor
  ·rintro ((h | ⟨h1,h2⟩) | ⟨h1,h2⟩)
   ·exact .inl h
   ·exact .inr ⟨by omega,h2⟩
   ·exact .inr ⟨by omega,h2⟩
  ·rintro (h | ⟨h1,h2⟩)
   ·exact .inl (.inl h)
   ·by_cases hpa : p.1 = a
    ·exact .inl (.inr ⟨hpa,h2⟩)
    ·exact .inr ⟨by omega,h2⟩
theorem weave_eq (hF : FF≤F) (hS : Shape S n m) (hn : n≤1000) (hm : m≤1000) (hj : 0≤jp∧jp≤400000) (hb : br≤16) :
  ∃ B,fold_weave F S jp br = some ⟨S,B⟩∧WI (LL S br jp) B 9000000:=by
 have hF':=hF
 unfold FF at hF'
 have hnm : n * (2 * m)≤1000 * (2 * 1000):=Nat.mul_le_mul hn (by omega)
 obtain ⟨B,b1,b2⟩:=web_all hF hS hn hm hj hb n F 0 (fun _ _ _=>False) [] 0 (by omega) (by omega) ⟨fun r=>by simp [Bd,lkM],fun p q d=>by simp [Bd,lkM,both],fun r b hb=>by simp [Bd,lkM] at hb⟩ (by omega)
 refine ⟨B,b1,b2.same (by omega) fun p q d=>⟨fun h=>h.elim False.elim fun h=>h.2,fun h=>.inr ⟨Nat.zero_le _,h⟩⟩⟩
end
end Go.Proofs.Ytbhjgebjojdohaa
namespace Go.Proofs.Ytbhjgebjojdohaa
open Go Go.RowKit Go.Eng
set_option maxRecDepth 10000
set_option linter.unusedVariables false
set_option linter.unusedSimpArgs false
theorem nb {α β : Type} {f : α→Option β} : (none : Option α).bind f = none:=rfl
abbrev Waits:=List (fold_place×Bool)
structure TI (B : Waits) (todo : List fold_place) : Prop where
 nd : keysNd B
 inl : ∀ r,(lkM B r).getD false = true→r ∈ todo
theorem wait_eq (F : Nat) (r : fold_place) {B : Waits} {todo : List fold_place} (h : TI B todo) (hl : todo.length≤8000000000000) : ∃ B' todo',fold_settle_1 F r B todo = some (B',todo')∧TI B' todo'∧r ∈ todo'∧(∀ x,x ∈ todo→x ∈ todo')∧(∀ x,x ∈ todo'→x ∈ todo∨x = r)∧todo'.length≤todo.length + 1:=by
 unfold fold_settle_1
 cases hb : (lkM B r).getD false with
 | true =>
  refine ⟨B,todo,bifF rfl,h,h.inl r hb,fun _ h=>h,fun _ h=>.inl h,by omega⟩
 | false =>
  refine ⟨upM B r true,todo ++ [r],?_,⟨up_nd h.nd r true,fun x hx=>?_⟩,by simp,fun x hx=>by simp [hx],fun x hx=>by simpa using hx,by simp⟩
  ·refine (bifT rfl).trans ?_
   rw [apdb (by simp; omega)]
  ·rw [lk_up] at hx
   split at hx
   ·rename_i e; simp [e]
   ·simp [h.inl x hx]
section
variable {S : Rays} {br jp : Int} {n m : Nat} {F : Nat}
theorem begin_gates (hF : FF≤F) {a : Nat} {T : Sets} (hT : T.length≤1000) (k6 : List fold_place→Waits→Int→Option Rays) (x : Int) : ∀ (s N t : Nat) (B : Waits) (todo : List fold_place),t + s = (Kn T).length→s < N→TI B todo→todo.length + s≤2000000 →
  ∃ B' todo',fold_settle_L8 F (a : Int) k6 (toI (Kn T)) N todo B (t : Int) = fold_settle_K7 (a : Int) k6 todo' B'∧TI B' todo'∧(∀ x,x ∈ todo→x ∈ todo')∧(∀ u,t≤u→u < (Kn T).length→pl (a,kn T u) ∈ todo')∧(∀ x,x ∈ todo'→x ∈ todo∨∃ u,u < (Kn T).length∧x = pl (a,kn T u))∧todo'.length≤todo.length + s:=by
 have hkl : (toI (Kn T)).length = (Kn T).length:=by unfold toI; rw [List.length_map]
 have hKn:=Kn_len (S:=T)
 intro s
 induction s with
 | zero =>
  intro N t B todo hts hN hI hl
  obtain ⟨N,rfl⟩ : ∃ N',N = N' + 1:=⟨N - 1,by omega⟩
  refine ⟨B,todo,?_,hI,fun _ h=>h,fun u h1 h2=>by omega,fun _ h=>.inl h,by omega⟩
  show fold_settle_B8 F (a : Int) k6 (toI (Kn T)) (fold_settle_L8 F (a : Int) k6 (toI (Kn T)) N) todo B (t : Int) = _
  unfold fold_settle_B8
  rw [hkl,bifF (by simp; omega)]
 | succ s ih =>
  intro N t B todo hts hN hI hl
  obtain ⟨N,rfl⟩ : ∃ N',N = N' + 1:=⟨N - 1,by omega⟩
  have s1 : fold_settle_L8 F (a : Int) k6 (toI (Kn T)) (N + 1) todo B (t : Int) = fold_settle_B8 F (a : Int) k6 (toI (Kn T)) (fold_settle_L8 F (a : Int) k6 (toI (Kn T)) N) todo B (t : Int):=rfl
  rw [s1]
  obtain ⟨B1,t1,w1,w2,w3,w4,w5,w6⟩:=wait_eq F (pl (a,kn T t)) hI (by omega)
  obtain ⟨B2,t2,g1,g2,g3,g4,g5,g6⟩:=ih N (t + 1) B1 t1 (by omega) (by omega) w2 (by omega)
  refine ⟨B2,t2,?_,g2,fun x hx=>g3 x (w4 x hx),fun u h1 h2=>?_,fun x hx=>?_,by omega⟩
  ·rw [← g1]
   unfold fold_settle_B8
   rw [hkl,bifT (by simp; omega),getK (by omega)]
   show ((fold_settle_1 F (pl (a,kn T t)) B todo).bind fun y=>(ck ((t : Int) + 1)).bind fun z=>fold_settle_L8 F (a : Int) k6 (toI (Kn T)) N y.2 y.1 z) = _
   rw [w1,sb,ckb (by omega),natS]
  ·by_cases hut : u = t
   ·subst hut; exact g3 _ w3
   ·exact g4 u (by omega) h2
  ·rcases g5 x hx with h | h
   ·rcases w5 x h with h | h
    ·exact .inl h
    ·exact .inr ⟨t,by omega,h⟩
   ·exact .inr h
theorem begin_all (hF : FF≤F) (hS : Shape S n m) (hn : n≤1000) (hm : m≤1000) (y5 : fold_web) : ∀ (t N a : Nat) (B : Waits) (todo : List fold_place),a + t = n→t < N→TI B todo→todo.length + t * m≤2000000→(∀ x,x ∈ todo→∃ p : Pl,x = pl p∧p.1 < n∧p.2 < m) →
  (∀ p : Pl,p.1 < a→ne (S.getD p.1 []) p.2 = true→pl p ∈ todo) →
  ∃ B' todo',fold_settle_L6 F S y5 N todo B (a : Int) = fold_settle_K1 F y5 todo' B'∧TI B' todo'∧(∀ x,x ∈ todo'→∃ p : Pl,x = pl p∧p.1 < n∧p.2 < m)∧(∀ p : Pl,p.1 < n→ne (S.getD p.1 []) p.2 = true→pl p ∈ todo')∧todo'.length≤todo.length + t * m:=by
 have hF':=hF
 unfold FF at hF'
 intro t
 induction t with
 | zero =>
  intro N a B todo hat hN hI hl hin hall
  obtain ⟨N,rfl⟩ : ∃ N',N = N' + 1:=⟨N - 1,by omega⟩
  refine ⟨B,todo,?_,hI,hin,fun p h1 h2=>hall p (by omega) h2,by omega⟩
  show fold_settle_B6 F S y5 (fold_settle_L6 F S y5 N) todo B (a : Int) = _
  unfold fold_settle_B6
  rw [hS.1,bifF (by simp; omega)]
 | succ t ih =>
  intro N a B todo hat hN hI hl hin hall
  obtain ⟨N,rfl⟩ : ∃ N',N = N' + 1:=⟨N - 1,by omega⟩
  have s1 : fold_settle_L6 F S y5 (N + 1) todo B (a : Int) = fold_settle_B6 F S y5 (fold_settle_L6 F S y5 N) todo B (a : Int):=rfl
  rw [s1]
  have hal : a < S.length:=by rw [hS.1]; omega
  have hrow:=hS.row (a:=a) (by omega)
  have hKn:=Kn_len (S:=S.getD a [])
  rw [hrow] at hKn
  rw [Nat.add_mul] at hl
  obtain ⟨B1,t1,w1,w2,w3,w4,w5,w6⟩:=begin_gates hF (a:=a) (T:=S.getD a []) (by rw [hrow]; exact hm) (fold_settle_L6 F S y5 N) 0 (Kn (S.getD a [])).length F 0 B todo (by omega) (by omega) hI (by omega)
  obtain ⟨B2,t2,g1,g2,g3,g4,g5⟩:=ih N (a + 1) B1 t1 (by omega) (by omega) w2 (by omega) (fun x hx=>by
   rcases w5 x hx with h | ⟨u,h1,h2⟩
   ·exact hin x h
   ·have:=(Kn_mem.1 (kn_get h1).1).1
    rw [hrow] at this
    exact ⟨(a,kn (S.getD a []) u),h2,by show a < n; omega,this⟩) (fun p hp hne=>by
   by_cases hpa : p.1 = a
   ·rw [hpa] at hne
    obtain ⟨u,h1,h2⟩:=kn_of (ne_lt hne) hne
    have:=w4 u (Nat.zero_le _) h1
    rw [h2,← hpa] at this
    exact this
   ·exact w3 _ (hall p (by omega) hne))
  refine ⟨B2,t2,?_,g2,g3,g4,by rw [Nat.add_mul]; omega⟩
  rw [← g1]
  unfold fold_settle_B6
  rw [hS.1,bifT (by simp; omega),getR hal,known_eq hF (by rw [hrow]; omega),sb]
  rw [show ((0 : Nat) : Int) = 0 from rfl] at w1
  rw [w1]
  unfold fold_settle_K7
  rw [ckb (by omega),natS]
structure MI (S : Rays) (R : Lnk) (n m : Nat) (W : Rays) (todo : List fold_place) (B : Waits) : Prop where
 inv : Inv S R n m W
 ti : TI B todo
 inr : ∀ x,x ∈ todo→∃ p : Pl,x = pl p∧p.1 < n∧p.2 < m
theorem settle_row (hF : FF≤F) {R : Lnk} (hR : ∀ p q d,both R p q d→0≤d∧d≤1000000000∧p.1 < n∧p.2 < m∧q.1 < n∧q.2 < m) {B0 : Bonds} {c0 : Nat} (hW0 : WI R B0 c0) (hc0 : c0≤9000000) (S0 : Rays) (p : Pl) (hp : p.1 < n∧p.2 < m) (k3 : List fold_place→Rays→Waits→Option Rays) :
  ∀ (t N k : Nat) (W : Rays) (todo : List fold_place) (B : Waits),k + t = (Bd B0 (pl p)).length→t < N→MI S R n m W todo B→todo.length + t≤5000000000000 →
  (∀ r q d,both R r q d→pl r ∈ todo∨Supp (gf W) r q d∨(r = p∧(⟨pl q,d⟩ : fold_bond) ∈ (Bd B0 (pl p)).drop k)) →
  ∃ W' todo' B',fold_settle_L4 F ⟨S0,B0⟩ k3 (pl p) N todo W B (k : Int) = k3 todo' W' B'∧MI S R n m W' todo' B'∧(∀ r q d,both R r q d→pl r ∈ todo'∨Supp (gf W') r q d)∧todo'.length + Vol W'≤todo.length + Vol W:=by
 have hlen:=hW0.len (pl p)
 intro t
 induction t with
 | zero =>
  intro N k W todo B hk hN hM hl hs
  obtain ⟨N,rfl⟩ : ∃ N',N = N' + 1:=⟨N - 1,by omega⟩
  refine ⟨W,todo,B,?_,hM,fun r q d h=>?_,Nat.le_refl _⟩
  ·show fold_settle_B4 F ⟨S0,B0⟩ k3 (pl p) (fold_settle_L4 F ⟨S0,B0⟩ k3 (pl p) N) todo W B (k : Int) = _
   unfold fold_settle_B4
   refine bifF ?_
   show decide ((k : Int) < (((Bd B0 (pl p)).length : Nat) : Int)) = false
   simp; omega
  ·rcases hs r q d h with h | h | ⟨_,h⟩
   ·exact .inl h
   ·exact .inr h
   ·rw [List.drop_eq_nil_of_le (by omega)] at h; cases h
 | succ t ih =>
  intro N k W todo B hk hN hM hl hs
  obtain ⟨N,rfl⟩ : ∃ N',N = N' + 1:=⟨N - 1,by omega⟩
  have s1 : fold_settle_L4 F ⟨S0,B0⟩ k3 (pl p) (N + 1) todo W B (k : Int) = fold_settle_B4 F ⟨S0,B0⟩ k3 (pl p) (fold_settle_L4 F ⟨S0,B0⟩ k3 (pl p) N) todo W B (k : Int):=rfl
  rw [s1]
  have hkl : k < (Bd B0 (pl p)).length:=by omega
  have hmem : (Bd B0 (pl p))[k] ∈ Bd B0 (pl p):=List.getElem_mem hkl
  obtain ⟨p',q,e1,e2⟩:=hW0.form _ _ hmem
  obtain ⟨d,hd⟩ : ∃ d,(Bd B0 (pl p))[k] = ⟨pl q,d⟩:=by
   refine ⟨(Bd B0 (pl p))[k].most,?_⟩
   rw [← e2]
  rw [hd] at hmem
  have hpq : both R p q d:=(hW0.iff p q d).1 hmem
  obtain ⟨d1,d2,d3,d4,d5,d6⟩:=hR p q d hpq
  have hdrop : (Bd B0 (pl p)).drop k = ⟨pl q,d⟩ :: (Bd B0 (pl p)).drop (k + 1):=by rw [List.drop_eq_getElem_cons hkl,hd]
  have hg:=hM.inv.good.good
  have hnew : Good (nr (gf W q) (gf W p) d):=(hg q).nr (hg p) d1
  have hold:=(hg q).len
  have hget : getI ((lkM B0 (pl p)).getD []) (k : Int) = some ⟨pl q,d⟩:=by
   show getI (Bd B0 (pl p)) (k : Int) = _
   unfold getI
   rw [if_pos (by omega),Int.toNat_natCast,List.getElem?_eq_getElem hkl,hd]
  have hsh:=hM.inv.shape
  have key : fold_settle_B4 F ⟨S0,B0⟩ k3 (pl p) (fold_settle_L4 F ⟨S0,B0⟩ k3 (pl p) N) todo W B (k : Int) =
    if gf W q = nr (gf W q) (gf W p) d then fold_settle_L4 F ⟨S0,B0⟩ k3 (pl p) N todo W B ((k + 1 : Nat) : Int)
    else (fold_settle_1 F (pl q) B todo).bind fun y=>fold_settle_L4 F ⟨S0,B0⟩ k3 (pl p) N y.2 (sf W q (nr (gf W q) (gf W p) d)) y.1 ((k + 1 : Nat) : Int):=by
   unfold fold_settle_B4
   have e3 : decide ((k : Int) < ((((lkM B0 (pl p)).getD []).length : Nat) : Int)) = true:=by
    show decide ((k : Int) < (((Bd B0 (pl p)).length : Nat) : Int)) = true
    simp; omega
   refine (bifT e3).trans ?_
   show ((getI ((lkM B0 (pl p)).getD []) (k : Int)).bind _) = _
   rw [hget,sb]
   show ((getI W (q.1 : Int)).bind fun u3280=>(getI u3280 (q.2 : Int)).bind fun u3288=>(getI W (p.1 : Int)).bind fun u3295=>(getI u3295 (p.2 : Int)).bind fun u3303=>(fold_speeds_near F u3288 u3303 d).bind fun y3311=>(slices_Equal_fold_speeds_api_Span F u3288 y3311).bind fun y3314 =>
    bif (!y3314) then ((getI W (q.1 : Int)).bind fun u3315=>(getI u3315 (q.2 : Int)).bind fun u3323=>(setI u3315 (q.2 : Int) y3311).bind fun l3334=>(setI W (q.1 : Int) l3334).bind fun l3335=>(fold_settle_1 F (pl q) B todo).bind fun y3338=>fold_settle_K5 (k : Int) (fold_settle_L4 F ⟨S0,B0⟩ k3 (pl p) N) y3338.2 l3335 y3338.1) else (fold_settle_K5 (k : Int) (fold_settle_L4 F ⟨S0,B0⟩ k3 (pl p) N) todo W B)) = _
   have r1:=hsh.row d5
   have r2:=hsh.row d3
   rw [getR (by rw [hsh.1]; exact d5),getG (by rw [r1]; exact d6),getR (by rw [hsh.1]; exact d3),getG (by rw [r2]; exact d4)]
   have hne:=near_eq hF (hg q) (hg p) ⟨d1,d2⟩
   have hne' : fold_speeds_near F (gt (W.getD q.1 []) q.2) (gt (W.getD p.1 []) p.2) d = some (nr (gf W q) (gf W p) d):=hne
   rw [hne',sb,slices_Equal_fold_speeds_api_Span_eq hF _ _ (by show (gf W q).length≤_; omega),sb]
   by_cases he : gf W q = nr (gf W q) (gf W p) d
   ·have e4 : decide (gt (W.getD q.1 []) q.2 = nr (gf W q) (gf W p) d) = true:=decide_eq_true he
    rw [e4,if_pos he]
    refine (bifF rfl).trans ?_
    unfold fold_settle_K5
    rw [ckb (by omega),natS]
   ·have e4 : decide (gt (W.getD q.1 []) q.2 = nr (gf W q) (gf W p) d) = false:=decide_eq_false he
    rw [e4,if_neg he]
    unfold sf
    refine (bifT rfl).trans ?_
    rw [getR (by rw [hsh.1]; exact d5),getG (by rw [r1]; exact d6),setG (by rw [r1]; exact d6),setR (by rw [hsh.1]; exact d5)]
    generalize fold_settle_1 F (pl q) B todo = o
    cases o with
    | none=>rw [nb,nb]
    | some y =>
     rw [sb,sb]
     unfold fold_settle_K5
     rw [ckb (by omega),natS]
  rw [key]
  by_cases he : gf W q = nr (gf W q) (gf W p) d
  ·rw [if_pos he]
   refine ih N (k + 1) W todo B (by omega) (by omega) hM (by omega) fun r q' d' h=>?_
   rcases hs r q' d' h with h | h | ⟨h1,h2⟩
   ·exact .inl h
   ·exact .inr (.inl h)
   ·rw [hdrop] at h2
    rcases List.mem_cons.1 h2 with h7 | h7
    ·clear h2
     simp only [fold_bond.mk.injEq] at h7
     have hq':=pl_inj h7.1
     have hd':=h7.2
     clear h7
     subst hq' hd' h1
     exact .inr (.inl ((nr_same hg d1).1 he.symm))
    ·exact .inr (.inr ⟨h1,h7⟩)
  ·rw [if_neg he]
   obtain ⟨B1,t1,w1,w2,w3,w4,w5,w6⟩:=wait_eq F (pl q) hM.ti (by omega)
   rw [w1,sb]
   obtain ⟨i1,i2⟩:=hM.inv.step (p:=p) (q:=q) d1 ⟨d5,d6⟩ hpq
   have hv:=i2 (fun e=>he e.symm)
   have hgf:=gg_sg (x:=nr (gf W q) (gf W p) d) hsh ⟨d5,d6⟩
   obtain ⟨W',t',B',g1,g2,g3,g4⟩:=ih N (k + 1) _ t1 B1 (by omega) (by omega) ⟨i1,w2,fun x hx=>by
    rcases w5 x hx with h | h
    ·exact hM.inr x h
    ·exact ⟨q,h,d5,d6⟩⟩ (by omega) (fun r q' d' h=>by
    by_cases hrq : r = q
    ·subst hrq; exact .inl w3
    ·have hsub : ∀ x : Pl,∀ z,mem z (gf (sf W q (nr (gf W q) (gf W p) d)) x)→mem z (gf W x):=by rw [hgf]; exact nr_below hg d1
     have hsame : gf (sf W q (nr (gf W q) (gf W p) d)) r = gf W r:=by rw [hgf]; unfold updF; rw [if_neg hrq]
     rcases hs r q' d' h with h | h | ⟨h1,h2⟩
     ·exact .inl (w4 _ h)
     ·refine .inr (.inl fun z hz=>?_)
      rw [hsame]
      exact h z (hsub q' z hz)
     ·rw [hdrop] at h2
      rcases List.mem_cons.1 h2 with h7 | h7
      ·clear h2
       simp only [fold_bond.mk.injEq] at h7
       have hq':=pl_inj h7.1
       have hd':=h7.2
       clear h7
       subst hq' hd' h1
       refine .inr (.inl fun z hz=>?_)
       rw [hsame]
       rw [hgf] at hz
       unfold updF at hz
       rw [if_pos rfl] at hz
       exact ((nr_mem (hg r).1.2 d1 z).1 hz).2
      ·exact .inr (.inr ⟨h1,h7⟩))
   exact ⟨W',t',B',g1,g2,g3,by omega⟩
theorem settle_loop (hF : FF≤F) {R : Lnk} (hR : ∀ p q d,both R p q d→0≤d∧d≤1000000000∧p.1 < n∧p.2 < m∧q.1 < n∧q.2 < m) {B0 : Bonds} {c0 : Nat} (hW0 : WI R B0 c0) (hc0 : c0≤9000000) (S0 : Rays) :
  ∀ (v : Nat) (N : Nat) (W : Rays) (todo : List fold_place) (B : Waits),todo.length + Vol W≤v→v < N→v≤4000000000000→MI S R n m W todo B→(∀ r q d,both R r q d→pl r ∈ todo∨Supp (gf W) r q d) →
  ∃ G,fold_settle_L3 F ⟨S0,B0⟩ N todo W B = some G∧Inv S R n m G∧Stable R (gf G):=by
 have hF':=hF
 unfold FF at hF'
 intro v
 induction v with
 | zero =>
  intro N W todo B hv hN hV hM hs
  obtain ⟨N,rfl⟩ : ∃ N',N = N' + 1:=⟨N - 1,by omega⟩
  have ht : todo = []:=List.eq_nil_of_length_eq_zero (by omega)
  subst ht
  refine ⟨W,?_,hM.inv,fun r q d h=>(hs r q d h).elim (fun h=>by cases h) id⟩
  show fold_settle_B3 F ⟨S0,B0⟩ (fold_settle_L3 F ⟨S0,B0⟩ N) [] W B = _
  unfold fold_settle_B3
  rw [bifF (by simp)]; rfl
 | succ v ih =>
  intro N W todo B hv hN hV hM hs
  obtain ⟨N,rfl⟩ : ∃ N',N = N' + 1:=⟨N - 1,by omega⟩
  have s1 : fold_settle_L3 F ⟨S0,B0⟩ (N + 1) todo W B = fold_settle_B3 F ⟨S0,B0⟩ (fold_settle_L3 F ⟨S0,B0⟩ N) todo W B:=rfl
  rw [s1]
  cases todo with
  | nil =>
   refine ⟨W,?_,hM.inv,fun r q d h=>(hs r q d h).elim (fun h=>by cases h) id⟩
   unfold fold_settle_B3
   rw [bifF (by simp)]; rfl
  | cons x rest =>
   obtain ⟨p,rfl,hp1,hp2⟩:=hM.inr x (by simp)
   have hlen:=hW0.len (pl p)
   simp only [List.length_cons] at hv
   have hcut : cutI (pl p :: rest) 1 (((pl p :: rest).length : Nat) : Int) = some rest:=by
    unfold cutI
    rw [if_pos ⟨by omega,by simp only [List.length_cons]; omega,Int.le_refl _⟩]
    congr 1
    show (rest.drop 0).take ((((pl p :: rest).length : Nat) : Int).toNat - 1) = rest
    rw [List.drop_zero,Int.toNat_natCast,List.length_cons]
    exact List.take_of_length_le (by omega)
   have hget : getI (pl p :: rest) 0 = some (pl p):=rfl
   unfold fold_settle_B3
   rw [bifT (by simp),hget,sb,hcut,sb]
   have hti : TI (delM B (pl p)) rest:=⟨del_nd hM.ti.nd _,fun r hr=>by
    rw [lk_del hM.ti.nd] at hr
    split at hr
    ·simp at hr
    ·rename_i hne
     rcases List.mem_cons.1 (hM.ti.inl r hr) with h | h
     ·exact absurd h hne
     ·exact h⟩
   obtain ⟨W',t',B',g1,g2,g3,g4⟩:=settle_row (S:=S) hF hR hW0 hc0 S0 p ⟨hp1,hp2⟩ (fold_settle_L3 F ⟨S0,B0⟩ N) (Bd B0 (pl p)).length F 0 W rest (delM B (pl p)) (by omega) (by omega) ⟨hM.inv,hti,fun x hx=>hM.inr x (by simp [hx])⟩ (by omega) (fun r q d h=>by
    rcases hs r q d h with h1 | h1
    ·rcases List.mem_cons.1 h1 with h1 | h1
     ·have:=pl_inj h1
      subst this
      exact .inr (.inr ⟨rfl,by rw [List.drop_zero]; exact (hW0.iff r q d).2 h⟩)
     ·exact .inl h1
    ·exact .inr (.inl h1))
   rw [show ((0 : Nat) : Int) = 0 from rfl] at g1
   rw [g1]
   exact ih N W' t' B' (by omega) (by omega) (by omega) g2 g3
theorem settle_eq (hF : FS≤F) (hS : Shape S n m) (hG : AllG S) (hn : n≤1000) (hm : m≤1000) (hj : 0≤jp∧jp≤400000) (hb : br≤16) :
  ∃ G,fold_settle F S jp br = some G∧Inv S (LL S br jp) n m G∧Stable (LL S br jp) (gf G):=by
 have hF2 : FF≤F:=by unfold FS at hF; unfold FF; omega
 obtain ⟨B0,b1,b2⟩:=weave_eq hF2 hS hn hm hj hb
 unfold fold_settle
 rw [b1,sb]
 have hF':=hF2
 unfold FF at hF'
 have hnm : n * m≤1000 * 1000:=Nat.mul_le_mul hn hm
 obtain ⟨B1,t1,w1,w2,w3,w4,w5⟩:=begin_all hF2 hS hn hm ⟨S,B0⟩ n F 0 [] [] (by omega) (by omega) ⟨.nil,fun r hr=>by simp [lkM] at hr⟩ (by simp; omega) (fun x hx=>by cases hx) (fun p hp=>by omega)
 rw [show ((0 : Nat) : Int) = 0 from rfl] at w1
 rw [w1]
 unfold fold_settle_K1
 have hR : ∀ p q d,both (LL S br jp) p q d→0≤d∧d≤1000000000∧p.1 < n∧p.2 < m∧q.1 < n∧q.2 < m:=by
  rintro p q d (h | h)
  ·have h1:=LL_in hS h
   have h2:=LL_d hS hj hb h
   exact ⟨h2.1,h2.2,h1.1,h1.2.1,h1.2.2.1,h1.2.2.2.1⟩
  ·have h1:=LL_in hS h
   have h2:=LL_d hS hj hb h
   exact ⟨h2.1,h2.2,h1.2.2.1,h1.2.2.2.1,h1.1,h1.2.1⟩
 have hv:=Vol_le hS
 have hh : n * (m * HN)≤1000 * (1000 * HN):=Nat.mul_le_mul hn (Nat.mul_le_mul hm (Nat.le_refl _))
 have hHN:=HN_eq
 unfold FS at hF
 simp only [List.length_nil] at w5
 refine settle_loop hF2 hR b2 (by omega) S (t1.length + Vol S) F S t1 B1 (Nat.le_refl _) (by omega) (by omega) ⟨⟨hS,hG,Below.refl _,fun h _ hb=>hb⟩,w2,w3⟩ fun r q d h=>.inl ?_
 have hne : ∀ p q d,LL S br jp p q d→ne (S.getD p.1 []) p.2 = true∧ne (S.getD q.1 []) q.2 = true:=by
  rintro p q d (⟨h1,h2,h3,h4⟩ | ⟨h1,h2,h3,k,h4,h5,h6⟩)
  ·exact ⟨h3.2.2.1,by rw [← h1]; exact h3.2.2.2.1⟩
  ·exact ⟨h2,by rw [h5,← h3]; exact h4.2.2.2.1⟩
 rcases h with h | h
 ·exact w4 r (LL_in hS h).1 (hne _ _ _ h).1
 ·exact w4 r (LL_in hS h).2.2.1 (hne _ _ _ h).2
end
end Go.Proofs.Ytbhjgebjojdohaa
namespace Go.Proofs.Ytbhjgebjojdohaa
open Go Go.RowKit Go.Eng
set_option maxRecDepth 10000
set_option linter.unusedVariables false
set_option linter.unusedSimpArgs false
section
variable {S : Rays} {br jp : Int} {n m : Nat} {F : Nat}
theorem back_rows (hF : FF≤F) (hG : AllG S) (hn : S.length≤1000) (hm : ∀ r ∈ S,r.length≤1000) : ∀ (t N a : Nat),a + t = S.length→t < N→fold_Turn_L4 F S N (S.take a) (a : Int) = some (S,0):=by
 have hF':=hF
 unfold FF at hF'
 intro t
 induction t with
 | zero =>
  intro N a ha hN
  obtain ⟨N,rfl⟩ : ∃ N',N = N' + 1:=⟨N - 1,by omega⟩
  show fold_Turn_B4 F S (fold_Turn_L4 F S N) (S.take a) (a : Int) = _
  unfold fold_Turn_B4
  rw [bifF (by simp; omega),List.take_of_length_le (by omega)]; rfl
 | succ t ih =>
  intro N a ha hN
  obtain ⟨N,rfl⟩ : ∃ N',N = N' + 1:=⟨N - 1,by omega⟩
  show fold_Turn_B4 F S (fold_Turn_L4 F S N) (S.take a) (a : Int) = _
  unfold fold_Turn_B4
  have hl:=hm _ (getD_mem (d:=[]) (show a < S.length by omega))
  have hb : fold_back F (S.getD a []) = some (S.getD a []):=by
   unfold fold_back
   have:=back_loop (S:=S.getD a []) hF (by omega) (hG.row a) (S.getD a []).length F 0 (by omega) (by omega)
   exact this
  have ht : (S.take a).length = a:=by rw [List.length_take]; omega
  rw [bifT (by simp; omega),getR (by omega),hb,sb,apdb (by rw [ht]; simp; omega),ckb (by omega),natS]
  have e2 : S.take a ++ [S.getD a []] = S.take (a + 1):=by
   rw [List.take_add_one]
   congr 1
   rw [List.getD_eq_getElem?_getD,List.getElem?_eq_getElem (by omega)]; rfl
  rw [e2]
  exact ih N (a + 1) (by omega) (by omega)
end
end Go.Proofs.Ytbhjgebjojdohaa
namespace Go.Proofs.Ytbhjgebjojdohaa
open Go Go.RowKit Go.Eng
set_option maxRecDepth 10000
set_option linter.unusedVariables false
set_option linter.unusedSimpArgs false
abbrev V80:=VecN Bool 80
section
variable {F : Nat}
end
end Go.Proofs.Ytbhjgebjojdohaa
namespace Go.Proofs.Ytbhjgebjojdohaa
open Go Go.RowKit Go.Eng
set_option maxRecDepth 10000
set_option linter.unusedVariables false
set_option linter.unusedSimpArgs false
theorem rem1 {x y : Int} (hx : 0≤x) (hy : 0 < y) : remC x y = some (x % y):=by
 rw [remC,if_neg (by omega),Int.tmod_eq_emod_of_nonneg hx]
def okR (pos : Int) (l : List api_Span) : Prop:=Canon l∧∀ s ∈ l,-20≤s.Lo∧s.Hi≤pos - 20
theorem okR_nil : okR 0 []:=⟨⟨.nil,fun s hs=>by cases hs⟩,fun s hs=>by cases hs⟩
theorem okR_app {pos q : Int} {l : List api_Span} (h : okR pos l) (hq : pos < q) (h0 : 0≤pos) : okR q (l ++ [⟨q - 20,q - 20⟩]):=by
 refine ⟨⟨?_,fun s hs=>?_⟩,fun s hs=>?_⟩
 ·rw [List.pairwise_append]
  refine ⟨h.1.1,List.pairwise_singleton _ _,fun a ha b hb=>?_⟩
  rw [List.mem_singleton] at hb
  subst hb
  have:=(h.2 a ha).2
  show a.Hi < q - 20
  omega
 ·rw [List.mem_append,List.mem_singleton] at hs
  rcases hs with hs | rfl
  ·exact h.1.2 s hs
  ·exact Int.le_refl _
 ·rw [List.mem_append,List.mem_singleton] at hs
  rcases hs with hs | rfl
  ·have:=h.2 s hs; omega
  ·exact ⟨by show -20≤q - 20; omega,Int.le_refl _⟩
theorem okR_last {pos q : Int} {l : List api_Span} {u : api_Span} (h : okR pos (l ++ [u])) (hq : pos≤q) : okR q (l ++ [⟨u.Lo,q - 20⟩]):=by
 have hu:=h.2 u (by simp)
 have hv:=h.1.2 u (by simp)
 have hp:=List.pairwise_append.1 h.1.1
 refine ⟨⟨?_,fun s hs=>?_⟩,fun s hs=>?_⟩
 ·rw [List.pairwise_append]
  refine ⟨hp.1,List.pairwise_singleton _ _,fun a ha b hb=>?_⟩
  rw [List.mem_singleton] at hb
  subst hb
  exact hp.2.2 a ha u (by simp)
 ·rw [List.mem_append,List.mem_singleton] at hs
  rcases hs with hs | rfl
  ·exact h.1.2 s (by simp [hs])
  ·show u.Lo≤q - 20; omega
 ·rw [List.mem_append,List.mem_singleton] at hs
  rcases hs with hs | rfl
  ·have:=h.2 s (by simp [hs]); omega
  ·exact ⟨hu.1,Int.le_refl _⟩
theorem okR_len {pos : Int} {l : List api_Span} (h : okR pos l) (hp : 0≤pos∧pos≤79) : l.length≤80:=by
 have:=canon_len (lo:=-20) (hi:=pos - 20) h.1 h.2 (by omega)
 omega
theorem span_mk (x y : Int) : law03_span x y = ⟨x,y⟩:=rfl
theorem made_in (u : List Int) (hu : ∀ b ∈ u,0≤b∧b≤255) (X : Int) (acc : Sets) (k2 : Int→Sets→Option Sets) : ∀ (n N i : Nat) (l : List api_Span) (pos : Int),i + n = 7→n < N→i≤6→0≤pos→pos≤12 * i→okR pos l →
  ∃ r,law03_made_L5 X acc k2 u N (i : Int) l pos = law03_made_K4 X acc k2 r∧okR 79 r:=by
 intro n
 induction n with
 | zero=>intro N i l pos h1 h2 h3; omega
 | succ n ih =>
  intro N i l pos h1 h2 h3 h4 h5 h6
  obtain ⟨N,rfl⟩ : ∃ N',N = N' + 1:=⟨N - 1,by omega⟩
  have hend : okR 79 l:=⟨h6.1,fun s hs=>by have:=h6.2 s hs; omega⟩
  have step : law03_made_L5 X acc k2 u (N + 1) (i : Int) l pos = law03_made_B5 X acc k2 u (law03_made_L5 X acc k2 u N) (i : Int) l pos:=rfl
  rw [step]
  unfold law03_made_B5
  by_cases hi : i < u.length
  ·rw [bifT (by simp; omega),getb 0 (by omega),Int.toNat_natCast]
   have hb : 0≤u.getD i 0∧u.getD i 0≤255:=by
    rw [List.getD_eq_getElem?_getD,List.getElem?_eq_getElem hi]
    exact hu _ (List.getElem_mem hi)
   generalize u.getD i 0 = b at hb ⊢
   by_cases h66 : i = 6
   ·exact ⟨l,bifT (by simp; omega),hend⟩
   ·refine Exists.elim (?_ : ∃ r,(bif ((i : Int) % 2 == 0) then ((ck b).bind fun x3588=>(remC x3588 12).bind fun x3589=>(ck (1 + x3589)).bind fun x3590=>(ck (pos + x3590)).bind fun x3591=>(ck (x3591 - 20)).bind fun x3592=>(ck (x3591 - 20)).bind fun x3593=>(apd 16 l ([(law03_span x3592 x3593)])).bind fun l3595=>law03_made_K6 (i : Int) (law03_made_L5 X acc k2 u N) l3595 x3591)
      else (bif (decide (((l.length : Nat) : Int) > 0)) then ((ck b).bind fun x3598=>(remC x3598 8).bind fun x3599=>(ck (pos + x3599)).bind fun x3600=>(ck (((l.length : Nat) : Int) - 1)).bind fun x3601=>(ck (x3600 - 20)).bind fun x3602=>(getI l x3601).bind fun u3603=>(setI l x3601 (api_Span.mk u3603.Lo x3602)).bind fun l3604=>law03_made_K6 (i : Int) (law03_made_L5 X acc k2 u N) l3604 x3600) else (law03_made_K6 (i : Int) (law03_made_L5 X acc k2 u N) l pos))) = law03_made_K4 X acc k2 r∧okR 79 r) ?_
    ·have hlen:=okR_len h6 (by omega)
     have hK : ∀ (l' : List api_Span) (q : Int),0≤q→q≤12 * (i + 1)→okR q l'→∃ r,law03_made_K6 (i : Int) (law03_made_L5 X acc k2 u N) l' q = law03_made_K4 X acc k2 r∧okR 79 r:=by
      intro l' q hq1 hq2 hq3
      unfold law03_made_K6
      rw [ckb (by omega),natS]
      exact ih N (i + 1) l' q (by omega) (by omega) (by omega) hq1 (by omega) hq3
     cases h2' : ((i : Int) % 2 == 0) with
     | true =>
      rw [cond_true,ckb (by omega),rem1 (by omega) (by omega),sb,ckb (by omega),ckb (by omega),ckb (by omega),ckb (by omega),apdb (by simp; omega)]
      rw [span_mk]
      generalize hq : pos + (1 + b % 12) = q
      exact hK _ q (by omega) (by omega) (okR_app h6 (by omega) h4)
     | false =>
      rw [cond_false]
      rcases List.eq_nil_or_concat l with rfl | ⟨a,z,rfl⟩
      ·rw [bifF (by simp)]
       exact hK [] pos h4 (by omega) h6
      ·rw [List.concat_eq_append] at h6 ⊢
       have hal : (((a ++ [z]).length : Nat) : Int) - 1 = ((a.length : Nat) : Int):=by simp
       have hg : getI (a ++ [z]) ((a.length : Nat) : Int) = some z:=by
        unfold getI
        rw [if_pos (by omega),Int.toNat_natCast,List.getElem?_concat_length]
       have hs : ∀ y,setI (a ++ [z]) ((a.length : Nat) : Int) y = some (a ++ [y]):=by
        intro y
        unfold setI
        rw [if_pos (by simp; omega),Int.toNat_natCast]
        congr 1
        rw [List.set_append_right _ _ (Nat.le_refl _)]; simp
       have hl2 : (a ++ [z]).length≤80:=by rw [List.concat_eq_append] at hlen; exact hlen
       rw [bifT (by simp),ckb (by omega),rem1 (by omega) (by omega),sb,ckb (by omega),ckb (by omega),hal,ckb (by omega),hg,sb,hs,sb]
       exact hK _ _ (by omega) (by omega) (okR_last h6 (by omega))
    ·rintro r ⟨hr,hr2⟩
     refine ⟨r,?_,hr2⟩
     rw [bifF (by simp; omega),rem1 (by omega) (by omega),sb]
     exact hr
  ·exact ⟨l,bifF (by simp; omega),hend⟩
section
variable {F : Nat}
theorem made_out (hF : FF≤F) (p0 : List (List Int)) (h0 : ∀ r ∈ p0,∀ b ∈ r,0≤b∧b≤255) (hl : p0.length≤7) : ∀ (n N i : Nat) (acc : Sets),i + n = p0.length→n < N→acc.length = i→(∀ s ∈ acc,okR 79 s) →
  ∃ S,law03_made_L2 F p0 N (i : Int) acc = some S∧S.length = p0.length∧∀ s ∈ S,okR 79 s:=by
 have hF':=hF
 unfold FF at hF'
 intro n
 induction n with
 | zero =>
  intro N i acc hi hN ha hok
  obtain ⟨N,rfl⟩ : ∃ N',N = N' + 1:=⟨N - 1,by omega⟩
  refine ⟨acc,?_,by omega,hok⟩
  show law03_made_B2 F p0 (law03_made_L2 F p0 N) (i : Int) acc = _
  unfold law03_made_B2
  rw [bifF (by simp; omega)]; rfl
 | succ n ih =>
  intro N i acc hi hN ha hok
  obtain ⟨N,rfl⟩ : ∃ N',N = N' + 1:=⟨N - 1,by omega⟩
  have step : law03_made_L2 F p0 (N + 1) (i : Int) acc = law03_made_B2 F p0 (law03_made_L2 F p0 N) (i : Int) acc:=rfl
  rw [step]
  unfold law03_made_B2
  rw [bifT (by simp; omega),getb [] (by omega),Int.toNat_natCast]
  have hu : ∀ b ∈ p0.getD i [],0≤b∧b≤255:=by
   rw [List.getD_eq_getElem?_getD,List.getElem?_eq_getElem (by omega : i < p0.length)]
   exact h0 _ (List.getElem_mem _)
  obtain ⟨r,hr,hr2⟩:=made_in (p0.getD i []) hu (i : Int) acc (law03_made_L2 F p0 N) 7 F 0 [] 0 (by omega) (by omega) (by omega) (by omega) (by omega) okR_nil
  refine Exists.elim (ih N (i + 1) (acc ++ [r]) (by omega) (by omega) (by simp [ha]) (fun s hs=>?_)) fun S hS=>⟨S,?_,hS.2⟩
  ·rw [List.mem_append,List.mem_singleton] at hs
   rcases hs with hs | rfl
   ·exact hok s hs
   ·exact hr2
  ·refine Eq.trans hr ?_
   unfold law03_made_K4
   rw [apdb (by simp; omega)]
   unfold law03_made_K3
   rw [ckb (by omega),natS]
   exact hS.1
theorem made_eq (hF : FF≤F) (p0 : List (List Int)) (h0 : ∀ r ∈ p0,∀ b ∈ r,0≤b∧b≤255) (hl : p0.length≤7) : ∃ S,law03_made F p0 = some S∧S.length = p0.length∧∀ s ∈ S,okR 79 s:=by
 have hF':=hF
 unfold FF at hF'
 exact made_out hF p0 h0 hl p0.length F 0 [] (by omega) (by omega) rfl (fun s hs=>by cases hs)
theorem okR_good {l : List api_Span} (h : okR 79 l) : Good l:=⟨h.1,fun s hs=>by have:=h.2 s hs; omega⟩
theorem chk_good_loop (l : List api_Span) (hl : l.length≤100000) (hg : Good l) : ∀ (n N i : Nat),i + n = l.length→n < N→fold_checked_L2 l true N (i : Int) = some 0:=by
 intro n
 induction n with
 | zero =>
  intro N i hi hN
  obtain ⟨N,rfl⟩ : ∃ N',N = N' + 1:=⟨N - 1,by omega⟩
  show fold_checked_B2 l true (fold_checked_L2 l true N) (i : Int) = _
  unfold fold_checked_B2
  rw [bifF (by simp; omega)]; rfl
 | succ n ih =>
  intro N i hi hN
  obtain ⟨N,rfl⟩ : ∃ N',N = N' + 1:=⟨N - 1,by omega⟩
  have s1 : fold_checked_L2 l true (N + 1) (i : Int) = fold_checked_B2 l true (fold_checked_L2 l true N) (i : Int):=rfl
  rw [s1]
  have hc : decide ((i : Int) < ((l.length : Nat) : Int)) = true:=by simp; omega
  have hin : l[i]? = some (gx l i):=by
   unfold gx
   rw [List.getD_eq_getElem?_getD,List.getElem?_eq_getElem (by omega : i < l.length)]; rfl
  have hmem:=List.mem_of_getElem? hin
  have hok : okSp (gx l i) = true:=by
   unfold okSp
   have:=hg.2 _ hmem
   have:=hg.1.2 _ hmem
   simp only [decide_eq_true_eq]
   omega
  by_cases h0 : i = 0
  ·subst h0
   unfold fold_checked_B2
   refine Eq.trans (bifT hc) ?_
   rw [getS (by omega),okSp_not,hok]
   refine Eq.trans (bifF rfl) ?_
   rw [gdF (g:=(bif true then (decide (((0 : Nat) : Int) > 0)) else false) == true && true) rfl,sb,gdF (g:=(bif true then (decide (((0 : Nat) : Int) > 0)) else false) == true && true) rfl,sb]
   refine Eq.trans (bifF rfl) ?_
   rw [ckb (by omega)]
   exact ih N 1 (by omega) (by omega)
  ·have e0 : decide ((i : Int) > 0) = true:=by simp; omega
   have e1 : ((i : Int) - 1) = ((i - 1 : Nat) : Int):=by omega
   have eg : ((bif true then (decide ((i : Int) > 0)) else false) == true && true) = true:=by rw [e0]; rfl
   have P1 : fold_checked_B2 l true (fold_checked_L2 l true N) (i : Int) = bif decide ((gx l i).Lo≤(gx l (i - 1)).Hi) then some 12 else fold_checked_L2 l true N ((i + 1 : Nat) : Int):=by
    unfold fold_checked_B2
    refine Eq.trans (bifT hc) ?_
    rw [getS (by omega),okSp_not,hok]
    refine Eq.trans (bifF rfl) ?_
    rw [gdT eg,ckb (by omega),e1,gdT eg,getS (by omega),e0,ckb (by omega),natS]
    rfl
   have hlt : (gx l (i - 1)).Hi < (gx l i).Lo:=by
    have:=List.pairwise_iff_getElem.1 hg.1.1 (i - 1) i (by omega) (by omega) (by omega)
    unfold gx
    rw [List.getD_eq_getElem?_getD,List.getD_eq_getElem?_getD,List.getElem?_eq_getElem (by omega : i - 1 < l.length),List.getElem?_eq_getElem (by omega : i < l.length)]
    exact this
   rw [P1,bifF (decide_eq_false (by omega))]
   exact ih N (i + 1) (by omega) (by omega)
theorem chk_good (hF : FF≤F) {l : List api_Span} (hl : l.length≤256) (hg : Good l) : fold_checked F l true = some 0:=by
 unfold FF at hF
 unfold fold_checked
 rw [bifF (decide_eq_false (by omega))]
 exact chk_good_loop l (by omega) hg l.length F 0 (by omega) (by omega)
theorem row_good (hF : FF≤F) {S : Sets} (hl : S.length≤200) (hS : ∀ s ∈ S,s.length≤256∧Good s) : fold_row F S = some (S,0):=by
 have hF':=hF
 unfold FF at hF'
 unfold fold_row
 rw [bifF (decide_eq_false (by omega))]
 have : ∀ (n N i : Nat),i + n = S.length→n < N→fold_row_L2 F S N (i : Int) (S.take i) = some (S,0):=by
  intro n
  induction n with
  | zero =>
   intro N i hi hN
   obtain ⟨N,rfl⟩ : ∃ N',N = N' + 1:=⟨N - 1,by omega⟩
   show fold_row_B2 F S (fold_row_L2 F S N) (i : Int) (S.take i) = _
   unfold fold_row_B2
   rw [bifF (by simp; omega),List.take_of_length_le (by omega)]; rfl
  | succ n ih =>
   intro N i hi hN
   obtain ⟨N,rfl⟩ : ∃ N',N = N' + 1:=⟨N - 1,by omega⟩
   have s1 : fold_row_L2 F S (N + 1) (i : Int) (S.take i) = fold_row_B2 F S (fold_row_L2 F S N) (i : Int) (S.take i):=rfl
   rw [s1]
   unfold fold_row_B2
   have hgt : S[i]? = some (gt S i):=by
    unfold gt
    rw [List.getD_eq_getElem?_getD,List.getElem?_eq_getElem (by omega : i < S.length)]; rfl
   obtain ⟨hlen,hg⟩:=hS _ (List.mem_of_getElem? hgt)
   have hu : fold_speeds_united F (gt S i) = some (gt S i):=by
    rw [united_un hF hg.1.2 (fun s hs=>by have:=hg.2 s hs; have:=hg.1.2 s hs; unfold spB; omega) (by omega),un_id hg.1]
   have ht : S.take i ++ [gt S i] = S.take (i + 1):=by rw [List.take_add_one,hgt]; rfl
   rw [bifT (by simp; omega),getG (by omega),chk_good hF hlen hg,sb]
   refine Eq.trans (bifF rfl) ?_
   rw [hu,sb,apdb (by simp; omega),ht,ckb (by omega),natS]
   exact ih N (i + 1) (by omega) (by omega)
 exact this S.length F 0 (by omega) (by omega)
end
end Go.Proofs.Ytbhjgebjojdohaa
namespace Go.Proofs.Ytbhjgebjojdohaa
open Go Go.RowKit Go.Eng
set_option maxRecDepth 10000
set_option linter.unusedVariables false
set_option linter.unusedSimpArgs false
def vg (l : List V80) (i : Nat) : V80:=l.getD i default
def inR (l : List api_Span) : Prop:=∀ s ∈ l,-20≤s.Lo∧s.Hi≤59
theorem inR_sub {a b : List api_Span} (hv : valid a) (hb : inR b) (h : ∀ z,mem z a→mem z b) : inR a:=by
 intro s hs
 have hvs:=hv s hs
 obtain ⟨t,ht,h1,h2⟩:=h (2 * s.Lo) ⟨s,hs,by omega,by omega⟩
 obtain ⟨u,hu,h3,h4⟩:=h (2 * s.Hi) ⟨s,hs,by omega,by omega⟩
 have:=hb t ht
 have:=hb u hu
 omega
section
variable {F : Nat} {S f b p : Sets} {br jp : Int}
end
end Go.Proofs.Ytbhjgebjojdohaa
namespace Go.Proofs.Ytbhjgebjojdohaa
open Go Go.RowKit Go.Eng
set_option maxRecDepth 10000
set_option linter.unusedVariables false
set_option linter.unusedSimpArgs false
section
variable {G S T : Rays} {br jp : Int} {n m : Nat} {F : Nat}
theorem shape_good (hS : Shape G n m) (hn : n≤1000) : ∀ (t N a : Nat),a + t = n→t < N→fold_Turn_L6 F G jp br N (a : Int) = fold_Turn_K1 F G jp br:=by
 have hl:=hS.1
 intro t
 induction t with
 | zero =>
  intro N a ha hN
  obtain ⟨N,rfl⟩ : ∃ N',N = N' + 1:=⟨N - 1,by omega⟩
  show fold_Turn_B6 F G jp br (fold_Turn_L6 F G jp br N) (a : Int) = _
  unfold fold_Turn_B6
  rw [bifF (by simp; omega)]
 | succ t ih =>
  intro N a ha hN
  obtain ⟨N,rfl⟩ : ∃ N',N = N' + 1:=⟨N - 1,by omega⟩
  show fold_Turn_B6 F G jp br (fold_Turn_L6 F G jp br N) (a : Int) = _
  unfold fold_Turn_B6
  have h0 : (getI G 0) = some (G.getD 0 []):=by
   unfold getI
   rw [if_pos (Int.le_refl _),List.getD_eq_getElem?_getD]
   show G[0]? = _
   rw [List.getElem?_eq_getElem (by omega)]; rfl
  rw [bifT (by simp; omega),getR (by omega),h0,sb,bifF (by rw [hS.row (by omega),hS.row (by omega)]; simp),ckb (by omega),natS]
  exact ih N (a + 1) (by omega) (by omega)
theorem rows_good (hF : FF≤F) (hS : Shape G n m) (hn : n≤1000) (hm : m≤200) (hg : ∀ r ∈ G,∀ s ∈ r,s.length≤256∧Good s) : ∀ (t N a : Nat),a + t = n→t < N→fold_Turn_L5 F G jp br N (G.take a) (a : Int) = fold_Turn_K2 F jp br G:=by
 have hl:=hS.1
 intro t
 induction t with
 | zero =>
  intro N a ha hN
  obtain ⟨N,rfl⟩ : ∃ N',N = N' + 1:=⟨N - 1,by omega⟩
  show fold_Turn_B5 F G jp br (fold_Turn_L5 F G jp br N) (G.take a) (a : Int) = _
  unfold fold_Turn_B5
  rw [bifF (by simp; omega),List.take_of_length_le (by omega)]
 | succ t ih =>
  intro N a ha hN
  obtain ⟨N,rfl⟩ : ∃ N',N = N' + 1:=⟨N - 1,by omega⟩
  show fold_Turn_B5 F G jp br (fold_Turn_L5 F G jp br N) (G.take a) (a : Int) = _
  unfold fold_Turn_B5
  have hr:=row_good hF (S:=G.getD a []) (by rw [hS.row (by omega)]; exact hm) (hg _ (getD_mem (by omega)))
  have ht : (G.take a).length = a:=by rw [List.length_take]; omega
  rw [bifT (by simp; omega),getR (by omega),hr,sb]
  refine Eq.trans (bifF rfl) ?_
  rw [apdb (by rw [ht]; simp; omega),ckb (by omega),natS]
  have e2 : G.take a ++ [G.getD a []] = G.take (a + 1):=by
   rw [List.take_add_one]
   congr 1
   rw [List.getD_eq_getElem?_getD,List.getElem?_eq_getElem (by omega)]; rfl
  show fold_Turn_L5 F G jp br N (G.take a ++ [G.getD a []]) ((a + 1 : Nat) : Int) = _
  rw [e2]
  exact ih N (a + 1) (by omega) (by omega)
theorem turn_full (hF : FS≤F) (hS : Shape G n m) (hn : n≤360) (hm : m≤200) (hg : ∀ r ∈ G,∀ s ∈ r,s.length≤256∧Good s) (hj : 0≤jp∧jp≤400000) (hb : 1≤br∧br≤16) :
  ∃ W,fold_Turn F G jp br = some (W,0)∧Inv G (LL G br jp) n m W∧Stable (LL G br jp) (gf W):=by
 have hF2 : FF≤F:=by unfold FS at hF; unfold FF; omega
 have hF':=hF2
 unfold FF at hF'
 have hl:=hS.1
 have hG : AllG G:=fun r hr s hs=>(hg r hr s hs).2
 obtain ⟨W,g1,g3,g4⟩:=settle_eq hF hS hG (by omega) (by omega) hj hb.2
 refine ⟨W,?_,g3,g4⟩
 unfold fold_Turn
 have e0 : decide (((G.length : Nat) : Int) > 360) = false:=by simp; omega
 rw [e0,cond_false]
 have h1:=shape_good (F:=F) (jp:=jp) (br:=br) hS (by omega) n F 0 (by omega) (by omega)
 rw [show ((0 : Nat) : Int) = 0 from rfl] at h1
 rw [h1]
 unfold fold_Turn_K1
 have h2:=rows_good (jp:=jp) (br:=br) hF2 hS (by omega) hm hg n F 0 (by omega) (by omega)
 rw [show ((0 : Nat) : Int) = 0 from rfl,List.take_zero] at h2
 rw [h2]
 unfold fold_Turn_K2
 have hlim : fold_limited jp br = 0:=by
  unfold fold_limited
  simp [cond_eq_ite]
  omega
 rw [hlim]
 refine Eq.trans (bifF rfl) ?_
 rw [g1,sb]
 have hWl : W.length = n:=g3.shape.1
 have hback:=back_rows (S:=W) hF2 g3.good (by omega) (fun r hr=>by rw [g3.shape.2 r hr]; omega) W.length F 0 (by omega) (by omega)
 rwa [show ((0 : Nat) : Int) = 0 from rfl,List.take_zero] at hback
def SameNe (S T : Rays) : Prop:=∀ a i,ne (S.getD a []) i = ne (T.getD a []) i
theorem Supp.mono {f : Fam} {p q : Pl} {d e : Int} (h : Supp f p q d) (hd : d≤e) : Supp f p q e:=fun z hz=>by
 obtain ⟨y,h1,h2,h3⟩:=h z hz
 exact ⟨y,h1,by omega,by omega⟩
theorem lk_same {S T : Sets} {b c : Int} (hl : S.length = T.length) (h : ∀ i,ne S i = ne T i) (hbc : b≤c) {i j : Nat} (h' : lk S b i j) : lk T c i j:=by
 obtain ⟨h1,h2,h3,h4,h5,h6⟩:=h'
 exact ⟨h1,by omega,by rw [← h]; exact h3,by rw [← h]; exact h4,fun x q1 q2=>by rw [← h]; exact h5 x q1 q2,by omega⟩
theorem LL_same {e b c j k : Int} (hS : Shape S n m) (hT : Shape T n m) (hne : SameNe S T) (hbc : b≤c) (hjk : 0≤k∧k≤j) {p q : Pl} {d : Int} (h : LL S b j p q d) : ∃ d',d'≤d∧LL T c k p q d':=by
 have hl : S.length = T.length:=hS.1.trans hT.1.symm
 rcases h with ⟨h1,h2,h3,h4⟩ | ⟨h1,h2,h3,u,h4,h5,h6⟩
 ·have hp : p.1 < n:=by rw [← hS.1]; exact h2
  refine ⟨k * ((q.2 : Int) - p.2),?_,.inl ⟨h1,by omega,lk_same (by rw [hS.row hp,hT.row hp]) (hne p.1) hbc h3,rfl⟩⟩
  rw [h4]
  have:=h3.1
  exact Int.mul_le_mul_of_nonneg_right hjk.2 (by omega)
 ·refine ⟨k * (u : Int),?_,.inr ⟨by omega,by rw [← hne]; exact h2,h3,u,⟨h4.1,by have:=h4.2.1; omega,by have:=h4.2.2.1; omega,?_,fun k' q1 q2=>?_⟩,?_,rfl⟩⟩
  ·rw [h6]; exact Int.mul_le_mul_of_nonneg_right hjk.2 (by omega)
  ·rw [← hl,← hne]; exact h4.2.2.2.1
  ·rw [← hl,← hne]; exact h4.2.2.2.2 k' q1 q2
  ·rw [← hl]; exact h5
theorem stable_less {e b c j k : Int} (hS : Shape S n m) (hT : Shape T n m) (hne : SameNe S T) (hbc : b≤c) (hjk : 0≤k∧k≤j) {f : Fam} (h : Stable (LL T c k) f) : Stable (LL S b j) f:=by
 rintro p q d (h1 | h1)
 ·obtain ⟨d',g1,g2⟩:=LL_same (e:=e) hS hT hne hbc hjk h1
  exact (h p q d' (.inl g2)).mono g1
 ·obtain ⟨d',g1,g2⟩:=LL_same (e:=e) hS hT hne hbc hjk h1
  exact (h p q d' (.inr g2)).mono g1
theorem again {W : Rays} (hS : Shape S n m) (hT : Shape T n m) (hG : AllG T) (hne : SameNe S T) (hj : 0≤jp) (hst : Stable (LL S br jp) (gf T)) (hW : Inv T (LL T br jp) n m W) : W = T:=by
 refine ext_gg hW.shape hT fun p _ _=>canon_eq (hW.good.good p).1 (hG.good p).1 fun z=>⟨fun hz=>hW.below p z hz,fun hz=>?_⟩
 have hs : Stable (LL T br jp) (gf T):=stable_less (e:=0) hT hS (fun a i=>(hne a i).symm) (Int.le_refl _) ⟨hj,Int.le_refl _⟩ hst
 exact hW.most _ hs (Below.refl _) p z hz
theorem span_in {x : List api_Span} (hx : Canon x) {s : api_Span} (hv : s.Lo≤s.Hi) (h : ∀ z,inS z s→mem z x) : ∃ t ∈ x,t.Lo≤s.Lo∧s.Hi≤t.Hi:=by
 obtain ⟨t,ht,h1,h2⟩:=h (2 * s.Lo) ⟨by omega,by omega⟩
 refine ⟨t,ht,by omega,?_⟩
 by_cases hc : s.Hi≤t.Hi
 ·exact hc
 ·exfalso
  obtain ⟨u,hu,g1,g2⟩:=h (2 * t.Hi + 1) ⟨by omega,by omega⟩
  obtain ⟨i,hi,rfl⟩:=List.mem_iff_getElem.1 ht
  obtain ⟨k,hk,rfl⟩:=List.mem_iff_getElem.1 hu
  have hp:=List.pairwise_iff_getElem.1 hx.1
  rcases Nat.lt_trichotomy i k with hlt | hlt | hlt
  ·have:=hp i k hi hk hlt; omega
  ·subst hlt; omega
  ·have:=hp k i hk hi hlt
   have:=hx.2 _ hu
   have:=hx.2 _ ht
   omega
end
end Go.Proofs.Ytbhjgebjojdohaa
namespace Go.Proofs.Ytbhjgebjojdohaa
open Go Go.RowKit Go.Eng
set_option maxRecDepth 10000
set_option linter.unusedVariables false
set_option linter.unusedSimpArgs false
structure Fw (s y : List api_Span) : Prop where
 ok : okR 79 s
 oky : okR 79 y
 sub : ∀ z,mem z y→mem z s
 ne : y.length = 0↔s.length = 0
theorem okR0 : okR 79 []:=⟨⟨.nil,fun s hs=>by cases hs⟩,fun s hs=>by cases hs⟩
theorem Fw.nil : Fw [] []:=⟨okR0,okR0,fun _ h=>h,Iff.rfl⟩
structure FwI (s : List api_Span) (i : Nat) (out : List api_Span) : Prop where
 each : ∀ o ∈ out,o.Lo≤o.Hi∧∃ j,j < i∧j < s.length∧(gx s j).Lo≤o.Lo∧o.Hi≤(gx s j).Hi
 sorted : out.Pairwise (fun a b=>a.Hi < b.Lo)
 len : out.length≤i
 some_ : 0 < s.length→i < out.length + s.length
theorem gx_mem {s : List api_Span} {i : Nat} (h : i < s.length) : gx s i ∈ s:=by
 unfold gx
 rw [List.getD_eq_getElem?_getD,List.getElem?_eq_getElem h]
 exact List.getElem_mem h
theorem gx_lt {s : List api_Span} (hs : Canon s) {j i : Nat} (hji : j < i) (hi : i < s.length) : (gx s j).Hi < (gx s i).Lo:=by
 have:=List.pairwise_iff_getElem.1 hs.1 j i (by omega) hi hji
 unfold gx
 rw [List.getD_eq_getElem?_getD,List.getD_eq_getElem?_getD,List.getElem?_eq_getElem (by omega : j < s.length),List.getElem?_eq_getElem hi]
 exact this
theorem FwI.skip {s out : List api_Span} {i : Nat} (h : FwI s i out) (h1 : i + 1 < out.length + s.length) : FwI s (i + 1) out :=
 ⟨fun o ho=>⟨(h.each o ho).1,by obtain ⟨j,a,b,c⟩:=(h.each o ho).2; exact ⟨j,by omega,b,c⟩⟩,h.sorted,by have:=h.len; omega,fun _=>h1⟩
theorem FwI.app {s out : List api_Span} {i : Nat} (h : FwI s i out) (hs : Canon s) (hi : i < s.length) {lo : Int} (h1 : (gx s i).Lo≤lo) (h2 : lo≤(gx s i).Hi) : FwI s (i + 1) (out ++ [⟨lo,(gx s i).Hi⟩]):=by
 refine ⟨fun o ho=>?_,?_,?_,fun h0=>?_⟩
 ·rw [List.mem_append,List.mem_singleton] at ho
  rcases ho with ho | rfl
  ·obtain ⟨a,j,b,c⟩:=h.each o ho
   exact ⟨a,j,by omega,c⟩
  ·exact ⟨h2,i,by omega,hi,h1,Int.le_refl _⟩
 ·rw [List.pairwise_append]
  refine ⟨h.sorted,List.pairwise_singleton _ _,fun a ha b hb=>?_⟩
  rw [List.mem_singleton] at hb
  subst hb
  obtain ⟨_,j,b,c,d,e⟩:=h.each a ha
  have:=gx_lt hs b hi
  show a.Hi < lo
  omega
 ·have:=h.len
  rw [List.length_append,List.length_singleton]; omega
 ·have:=h.some_ h0
  rw [List.length_append,List.length_singleton]; omega
theorem FwI.fw {s out : List api_Span} (h : FwI s s.length out) (hs : okR 79 s) : Fw s out:=by
 refine ⟨hs,⟨⟨h.sorted,fun o ho=>(h.each o ho).1⟩,fun o ho=>?_⟩,fun z hz=>?_,?_⟩
 ·obtain ⟨_,j,_,b,c,d⟩:=h.each o ho
  have:=hs.2 _ (gx_mem b)
  omega
 ·obtain ⟨o,ho,a,b⟩:=hz
  obtain ⟨_,j,_,c,d,e⟩:=h.each o ho
  exact ⟨_,gx_mem c,by omega,by omega⟩
 ·have:=h.some_
  have:=h.len
  omega
section
variable {F : Nat} {s : List api_Span} {drop : List Int}
theorem fewer_K4 (hs : okR 79 s) {R : List api_Span→Prop} {i : Nat} (hi : i < s.length) {k2 : Int→List api_Span→Option (List api_Span)} {out : List api_Span} (h : FwI s i out)
  (hk : ∀ o,FwI s (i + 1) o→∃ y,k2 ((i + 1 : Nat) : Int) o = some y∧R y) (x : Int) (hx : 0≤x∧x≤255) : ∃ y,law03_fewer_K4 s (i : Int) out k2 (gx s i) x = some y∧R y:=by
 have hl:=okR_len hs (by omega)
 have hu:=hs.2 _ (gx_mem hi)
 have hv:=hs.1.2 _ (gx_mem hi)
 have hol:=h.len
 have hK3 : ∀ o,FwI s (i + 1) o→∃ y,law03_fewer_K3 (i : Int) k2 o = some y∧R y:=fun o ho=>by
  unfold law03_fewer_K3
  rw [ckb (by omega),natS]
  exact hk o ho
 have happ : ∃ y,((remC x 4).bind fun x300=>(ck ((gx s i).Lo + x300)).bind fun x301=>(apd 16 out ([(api_Span.mk (if x301 < (gx s i).Hi then x301 else (gx s i).Hi) (gx s i).Hi)])).bind fun l303=>law03_fewer_K3 (i : Int) k2 l303) = some y∧R y:=by
  rw [rem1 (by omega) (by omega),sb,ckb (by omega),apdb (by simp; omega)]
  refine hK3 _ (h.app hs.1 hi ?_ ?_)
  ·split <;> omega
  ·split <;> omega
 unfold law03_fewer_K4
 rw [rem1 (by omega) (by omega),sb]
 generalize x % 3 = r
 by_cases hr : r = 0
 ·have e : ((r == 0) == true && true) = true:=by rw [hr]; rfl
  rw [gdT e,ckb (by omega),gdT e,ckb (by omega)]
  by_cases hc : ((out.length : Nat) : Int) + ((s.length : Nat) : Int) - (i : Int) > 1
  ·have e2 : (bif r == 0 then decide (((out.length : Nat) : Int) + ((s.length : Nat) : Int) - (i : Int) > 1) else false) = true:=by rw [hr]; simpa using hc
   obtain ⟨y,hy⟩:=hK3 out (h.skip (by omega))
   exact ⟨y,Eq.trans (bifT e2) hy.1,hy.2⟩
  ·have e2 : (bif r == 0 then decide (((out.length : Nat) : Int) + ((s.length : Nat) : Int) - (i : Int) > 1) else false) = false:=by rw [hr]; simpa using hc
   obtain ⟨y,hy⟩:=happ
   exact ⟨y,Eq.trans (bifF e2) hy.1,hy.2⟩
 ·have e1 : (r == 0) = false:=by simpa using hr
  have e : ((r == 0) == true && true) = false:=by rw [e1]; rfl
  rw [gdF e,sb,gdF e,sb]
  have e2 : (bif r == 0 then decide ((0 : Int) > 1) else false) = false:=by rw [e1]; rfl
  obtain ⟨y,hy⟩:=happ
  exact ⟨y,Eq.trans (bifF e2) hy.1,hy.2⟩
theorem fewer_eq (hF : FF≤F) (hs : okR 79 s) (hd : ∀ b ∈ drop,0≤b∧b≤255) (at_ : Int) (ha : 0≤at_∧at_≤1000) : ∃ y,law03_fewer F s drop at_ = some y∧Fw s y:=by
 have hF':=hF
 unfold FF at hF'
 have hl:=okR_len hs (by omega)
 unfold law03_fewer
 have : ∀ (n N i : Nat) (out : List api_Span),i + n = s.length→n < N→FwI s i out→∃ y,law03_fewer_L2 s drop at_ N (i : Int) out = some y∧Fw s y:=by
  intro n
  induction n with
  | zero =>
   intro N i out hi hN h
   obtain ⟨N,rfl⟩ : ∃ N',N = N' + 1:=⟨N - 1,by omega⟩
   refine ⟨out,?_,FwI.fw (by rw [show s.length = i from by omega]; exact h) hs⟩
   show law03_fewer_B2 s drop at_ (law03_fewer_L2 s drop at_ N) (i : Int) out = _
   unfold law03_fewer_B2
   rw [bifF (by simp; omega)]; rfl
  | succ n ih =>
   intro N i out hi hN h
   obtain ⟨N,rfl⟩ : ∃ N',N = N' + 1:=⟨N - 1,by omega⟩
   have step : law03_fewer_L2 s drop at_ (N + 1) (i : Int) out = law03_fewer_B2 s drop at_ (law03_fewer_L2 s drop at_ N) (i : Int) out:=rfl
   rw [step]
   unfold law03_fewer_B2
   have hk:=fun x hx=>fewer_K4 (R:=Fw s) hs (by omega) (k2:=law03_fewer_L2 s drop at_ N) h (fun o ho=>ih N (i + 1) o (by omega) (by omega) ho) x hx
   rw [bifT (by simp; omega),getS (by omega)]
   by_cases hp : drop.length = 0
   ·rw [bifF (decide_eq_false (by omega))]
    exact hk 0 (by omega)
   ·have hb : 0≤(at_ + (i : Int)) % ((drop.length : Nat) : Int)∧(at_ + (i : Int)) % ((drop.length : Nat) : Int) < ((drop.length : Nat) : Int):=⟨Int.emod_nonneg _ (by omega),Int.emod_lt_of_pos _ (by omega)⟩
    rw [bifT (decide_eq_true (by omega)),ckb (by omega),rem1 (by omega) (by omega),sb,getb 0 ⟨hb.1,hb.2⟩]
    have hx : 0≤drop.getD ((at_ + (i : Int)) % ((drop.length : Nat) : Int)).toNat 0∧drop.getD ((at_ + (i : Int)) % ((drop.length : Nat) : Int)).toNat 0≤255:=by
     rw [List.getD_eq_getElem?_getD,List.getElem?_eq_getElem (by omega : ((at_ + (i : Int)) % ((drop.length : Nat) : Int)).toNat < drop.length)]
     exact hd _ (List.getElem_mem _)
    generalize drop.getD ((at_ + (i : Int)) % ((drop.length : Nat) : Int)).toNat 0 = x at hx ⊢
    rw [ckb (by omega)]
    exact hk x hx
 exact this s.length F 0 [] (by omega) (by omega) ⟨fun o ho=>(by cases ho),.nil,Nat.le_refl _,fun h=>(by simpa using h)⟩
structure FwR (m : Nat) (X Y : Sets) : Prop where
 lx : X.length = m
 ly : Y.length = m
 fw : ∀ i,Fw (gt X i) (gt Y i)
theorem gt_app {l : Sets} {x : List api_Span} {i : Nat} : gt (l ++ [x]) i = if i < l.length then gt l i else if i = l.length then x else []:=by
 unfold gt
 rw [List.getD_eq_getElem?_getD,List.getD_eq_getElem?_getD,List.getElem?_append]
 by_cases h : i < l.length
 ·rw [if_pos h,if_pos h]
 ·rw [if_neg h,if_neg h]
  by_cases h2 : i = l.length
  ·rw [if_pos h2,h2]; simp
  ·rw [if_neg h2,List.getElem?_eq_none (by simp; omega)]; rfl
theorem fewer_row (hF : FF≤F) (hd : ∀ b ∈ drop,0≤b∧b≤255) {m a : Nat} (hm : m≤7) (ha : a≤10) (X Y : Rays) (k8 : Rays→Rays→Int→Option Bool) (y : Sets) (hy : ∀ s ∈ y,okR 79 s) (hl : y.length = m) :
  ∀ (n N i : Nat) (l : Sets),i + n = m→n < N→l.length = i→(∀ q < i,Fw (gt y q) (gt l q))→∃ l',FwR m y l'∧law03_FoldFewer_L12 F drop (m : Int) X Y (a : Int) k8 y N l (i : Int) = law03_FoldFewer_K11 X Y (a : Int) k8 y l':=by
 intro n
 induction n with
 | zero =>
  intro N i l hi hN hli hq
  obtain ⟨N,rfl⟩ : ∃ N',N = N' + 1:=⟨N - 1,by omega⟩
  refine ⟨l,⟨hl,by omega,fun q=>?_⟩,?_⟩
  ·by_cases h : q < i
   ·exact hq q h
   ·have e1 : gt y q = []:=by unfold gt; rw [List.getD_eq_getElem?_getD,List.getElem?_eq_none (by omega)]; rfl
    have e2 : gt l q = []:=by unfold gt; rw [List.getD_eq_getElem?_getD,List.getElem?_eq_none (by omega)]; rfl
    rw [e1,e2]; exact Fw.nil
  ·show law03_FoldFewer_B12 F drop (m : Int) X Y (a : Int) k8 y (law03_FoldFewer_L12 F drop (m : Int) X Y (a : Int) k8 y N) l (i : Int) = _
   unfold law03_FoldFewer_B12
   exact bifF (by simp; omega)
 | succ n ih =>
  intro N i l hi hN hli hq
  obtain ⟨N,rfl⟩ : ∃ N',N = N' + 1:=⟨N - 1,by omega⟩
  have step : law03_FoldFewer_L12 F drop (m : Int) X Y (a : Int) k8 y (N + 1) l (i : Int) = law03_FoldFewer_B12 F drop (m : Int) X Y (a : Int) k8 y (law03_FoldFewer_L12 F drop (m : Int) X Y (a : Int) k8 y N) l (i : Int):=rfl
  rw [step]
  unfold law03_FoldFewer_B12
  have hgm : gt y i ∈ y:=by
   unfold gt
   rw [List.getD_eq_getElem?_getD,List.getElem?_eq_getElem (by omega : i < y.length)]
   exact List.getElem_mem _
  have ham : (a : Int) * (m : Int)≤10 * 7:=by
   have : a * m≤10 * 7:=Nat.mul_le_mul ha hm
   exact_mod_cast this
  have ham0 : 0≤(a : Int) * (m : Int):=Int.mul_nonneg (by omega) (by omega)
  obtain ⟨z,hz,hz2⟩:=fewer_eq hF (hy _ hgm) hd ((a : Int) * (m : Int) + (i : Int)) (by omega)
  rw [bifT (by simp; omega),getG (by omega),ckb (by omega),ckb (by omega),hz,sb,apdb (by simp; omega),ckb (by omega),natS]
  refine ih N (i + 1) (l ++ [z]) (by omega) (by omega) (by simp [hli]) fun q hq'=>?_
  rw [gt_app,hli]
  by_cases h : q < i
  ·rw [if_pos h]; exact hq q h
  ·rw [if_neg h,if_pos (by omega),show q = i from by omega]; exact hz2
theorem bytes_row {m a : Nat} (hm : m≤7) (p0 : List (List (List Int))) (h0 : ∀ r ∈ p0,∀ x ∈ r,∀ b ∈ x,0≤b∧b≤255) (ha : a < p0.length) (X Y : Rays) (k8 : Rays→Rays→Int→Option Bool) :
  ∀ (n N i : Nat) (l : List (List Int)),i + n = m→n < N→l.length = i→(∀ x ∈ l,∀ b ∈ x,0≤b∧b≤255)→∃ l',l'.length = m∧(∀ x ∈ l',∀ b ∈ x,0≤b∧b≤255)∧law03_FoldFewer_L13 F p0 drop (m : Int) X Y (a : Int) k8 N l (i : Int) = law03_FoldFewer_K10 F drop (m : Int) X Y (a : Int) k8 l':=by
 intro n
 induction n with
 | zero =>
  intro N i l hi hN hli hq
  obtain ⟨N,rfl⟩ : ∃ N',N = N' + 1:=⟨N - 1,by omega⟩
  refine ⟨l,by omega,hq,?_⟩
  show law03_FoldFewer_B13 F p0 drop (m : Int) X Y (a : Int) k8 (law03_FoldFewer_L13 F p0 drop (m : Int) X Y (a : Int) k8 N) l (i : Int) = _
  unfold law03_FoldFewer_B13
  exact bifF (by simp; omega)
 | succ n ih =>
  intro N i l hi hN hli hq
  obtain ⟨N,rfl⟩ : ∃ N',N = N' + 1:=⟨N - 1,by omega⟩
  have step : law03_FoldFewer_L13 F p0 drop (m : Int) X Y (a : Int) k8 (N + 1) l (i : Int) = law03_FoldFewer_B13 F p0 drop (m : Int) X Y (a : Int) k8 (law03_FoldFewer_L13 F p0 drop (m : Int) X Y (a : Int) k8 N) l (i : Int):=rfl
  rw [step]
  unfold law03_FoldFewer_B13
  have hK : ∀ x : List Int,(∀ b ∈ x,0≤b∧b≤255)→∃ l',l'.length = m∧(∀ x ∈ l',∀ b ∈ x,0≤b∧b≤255)∧law03_FoldFewer_K14 l (i : Int) (law03_FoldFewer_L13 F p0 drop (m : Int) X Y (a : Int) k8 N) x = law03_FoldFewer_K10 F drop (m : Int) X Y (a : Int) k8 l':=by
   intro x hx
   unfold law03_FoldFewer_K14
   rw [apdb (by simp; omega),ckb (by omega),natS]
   refine ih N (i + 1) (l ++ [x]) (by omega) (by omega) (by simp [hli]) fun u hu=>?_
   rw [List.mem_append,List.mem_singleton] at hu
   rcases hu with hu | rfl
   ·exact hq u hu
   ·exact hx
  rw [bifT (by simp; omega),getb [] (by omega),Int.toNat_natCast]
  have hr : ∀ x ∈ p0.getD a [],∀ b ∈ x,0≤b∧b≤255:=by
   rw [List.getD_eq_getElem?_getD,List.getElem?_eq_getElem ha]
   exact h0 _ (List.getElem_mem _)
  by_cases hc : i < (p0.getD a []).length
  ·rw [bifT (by simp only [decide_eq_true_eq]; omega),getb [] (by omega),Int.toNat_natCast,getb [] (by omega),Int.toNat_natCast]
   refine hK _ ?_
   rw [List.getD_eq_getElem?_getD,List.getElem?_eq_getElem hc]
   exact hr _ (List.getElem_mem _)
  ·rw [bifF (by simp only [decide_eq_false_iff_not]; omega)]
   exact hK [] (fun b hb=>by cases hb)
end
end Go.Proofs.Ytbhjgebjojdohaa
namespace Go.Proofs.Ytbhjgebjojdohaa
open Go Go.RowKit Go.Eng
set_option maxRecDepth 10000
set_option linter.unusedVariables false
set_option linter.unusedSimpArgs false
section
variable {F : Nat}
theorem insideL (x : List api_Span) (hl : x.length≤100000) (xi : Int) (k2 : Int→Option Bool) (u : api_Span) : ∀ (n N i : Nat) (c : Bool),i + n = x.length→n < N→(c = true∨∃ j,i≤j∧j < x.length∧(gx x j).Lo≤u.Lo∧u.Hi≤(gx x j).Hi) →
  law03_inside_L5 x xi k2 u N (i : Int) c = law03_inside_K4 xi k2 true:=by
 intro n
 induction n with
 | zero =>
  intro N i c hi hN h
  obtain ⟨N,rfl⟩ : ∃ N',N = N' + 1:=⟨N - 1,by omega⟩
  have hc : c = true:=h.elim id fun ⟨j,h1,h2,_⟩=>by omega
  subst hc
  show law03_inside_B5 x xi k2 u (law03_inside_L5 x xi k2 u N) (i : Int) true = _
  unfold law03_inside_B5
  exact bifF (decide_eq_false (by omega))
 | succ n ih =>
  intro N i c hi hN h
  obtain ⟨N,rfl⟩ : ∃ N',N = N' + 1:=⟨N - 1,by omega⟩
  show law03_inside_B5 x xi k2 u (law03_inside_L5 x xi k2 u N) (i : Int) c = _
  unfold law03_inside_B5
  rw [bifT (decide_eq_true (by omega)),getS (by omega),ckb (by omega),natS]
  refine ih N (i + 1) _ (by omega) (by omega) ?_
  cases c with
  | true=>exact .inl rfl
  | false =>
   rw [cond_false]
   obtain ⟨j,h1,h2,h3,h4⟩:=h.elim (fun h=>by cases h) id
   by_cases hj : j = i
   ·subst hj
    refine .inl ?_
    rw [decide_eq_true (show u.Lo ≥ (gx x j).Lo from h3),cond_true]
    exact decide_eq_true h4
   ·exact .inr ⟨j,by omega,h2,h3,h4⟩
theorem inside_eq (hF : FF≤F) {y x : List api_Span} (hx : Canon x) (hy : valid y) (hs : ∀ z,mem z y→mem z x) (hlx : x.length≤100000) (hly : y.length≤100000) : law03_inside F y x = some true:=by
 have hF':=hF
 unfold FF at hF'
 unfold law03_inside
 have : ∀ (n N i : Nat),i + n = y.length→n < N→law03_inside_L2 F y x N (i : Int) = some true:=by
  intro n
  induction n with
  | zero =>
   intro N i hi hN
   obtain ⟨N,rfl⟩ : ∃ N',N = N' + 1:=⟨N - 1,by omega⟩
   show law03_inside_B2 F y x (law03_inside_L2 F y x N) (i : Int) = _
   unfold law03_inside_B2
   exact (bifF (decide_eq_false (by omega))).trans rfl
  | succ n ih =>
   intro N i hi hN
   obtain ⟨N,rfl⟩ : ∃ N',N = N' + 1:=⟨N - 1,by omega⟩
   show law03_inside_B2 F y x (law03_inside_L2 F y x N) (i : Int) = _
   unfold law03_inside_B2
   have hm:=gx_mem (s:=y) (i:=i) (by omega)
   obtain ⟨t,ht,h1,h2⟩:=span_in hx (hy _ hm) fun z hz=>hs z ⟨_,hm,hz⟩
   obtain ⟨j,hj,rfl⟩:=List.mem_iff_getElem.1 ht
   have hg : gx x j = x[j]:=by
    unfold gx
    rw [List.getD_eq_getElem?_getD,List.getElem?_eq_getElem hj]; rfl
   rw [bifT (decide_eq_true (by omega)),getS (by omega)]
   refine Eq.trans (insideL x hlx (i : Int) (law03_inside_L2 F y x N) (gx y i) x.length F 0 false (by omega) (by omega) (.inr ⟨j,Nat.zero_le _,hj,by rw [hg]; exact h1,by rw [hg]; exact h2⟩)) ?_
   unfold law03_inside_K4 law03_inside_K3
   refine Eq.trans (bifF rfl) ?_
   rw [ckb (by omega),natS]
   exact ih N (i + 1) (by omega) (by omega)
 exact this y.length F 0 (by omega) (by omega)
structure FwG (m a : Nat) (X Y : Rays) : Prop where
 lx : X.length = a
 ly : Y.length = a
 row : ∀ b < a,FwR m (X.getD b []) (Y.getD b [])
theorem getD_app {α : Type} {l : List (List α)} {x : List α} {i : Nat} : (l ++ [x]).getD i [] = if i < l.length then l.getD i [] else if i = l.length then x else []:=by
 rw [List.getD_eq_getElem?_getD,List.getD_eq_getElem?_getD,List.getElem?_append]
 by_cases h : i < l.length
 ·rw [if_pos h,if_pos h]
 ·rw [if_neg h,if_neg h]
  by_cases h2 : i = l.length
  ·rw [if_pos h2,h2]; simp
  ·rw [if_neg h2,List.getElem?_eq_none (by simp; omega)]; rfl
theorem FwG.app {m a : Nat} {X Y : Rays} (h : FwG m a X Y) {x y : Sets} (hr : FwR m x y) : FwG m (a + 1) (X ++ [x]) (Y ++ [y]):=by
 refine ⟨by simp [h.lx],by simp [h.ly],fun b hb=>?_⟩
 rw [getD_app,getD_app,h.lx,h.ly]
 by_cases hlt : b < a
 ·rw [if_pos hlt,if_pos hlt]; exact h.row b hlt
 ·rw [if_neg hlt,if_neg hlt,if_pos (by omega),if_pos (by omega)]; exact hr
theorem FwG.shapeX {m n : Nat} {X Y : Rays} (h : FwG m n X Y) : Shape X n m:=by
 refine ⟨h.lx,fun r hr=>?_⟩
 obtain ⟨i,hi,rfl⟩:=List.mem_iff_getElem.1 hr
 have:=(h.row i (by rw [← h.lx]; exact hi)).lx
 rwa [List.getD_eq_getElem?_getD,List.getElem?_eq_getElem hi] at this
theorem FwG.shapeY {m n : Nat} {X Y : Rays} (h : FwG m n X Y) : Shape Y n m:=by
 refine ⟨h.ly,fun r hr=>?_⟩
 obtain ⟨i,hi,rfl⟩:=List.mem_iff_getElem.1 hr
 have:=(h.row i (by rw [← h.ly]; exact hi)).ly
 rwa [List.getD_eq_getElem?_getD,List.getElem?_eq_getElem hi] at this
theorem FwG.fw {m n : Nat} {X Y : Rays} (h : FwG m n X Y) (a i : Nat) : Fw (gt (X.getD a []) i) (gt (Y.getD a []) i):=by
 by_cases ha : a < n
 ·exact (h.row a ha).fw i
 ·have e1 : X.getD a [] = []:=by rw [List.getD_eq_getElem?_getD,List.getElem?_eq_none (by rw [h.lx]; omega)]; rfl
  have e2 : Y.getD a [] = []:=by rw [List.getD_eq_getElem?_getD,List.getElem?_eq_none (by rw [h.ly]; omega)]; rfl
  rw [e1,e2]
  exact Fw.nil
theorem mem_gt {r : Sets} {s : List api_Span} (h : s ∈ r) : ∃ i,gt r i = s:=by
 obtain ⟨i,hi,rfl⟩:=List.mem_iff_getElem.1 h
 exact ⟨i,by unfold gt; rw [List.getD_eq_getElem?_getD,List.getElem?_eq_getElem hi]; rfl⟩
theorem mem_rw {G : Rays} {r : Sets} (h : r ∈ G) : ∃ a,G.getD a [] = r:=by
 obtain ⟨i,hi,rfl⟩:=List.mem_iff_getElem.1 h
 exact ⟨i,by rw [List.getD_eq_getElem?_getD,List.getElem?_eq_getElem hi]; rfl⟩
theorem okR_in {s : List api_Span} (h : okR 79 s) : s.length≤256∧Good s:=⟨by have:=okR_len h (by omega); omega,okR_good h⟩
theorem FwG.goodX {m n : Nat} {X Y : Rays} (h : FwG m n X Y) : ∀ r ∈ X,∀ s ∈ r,s.length≤256∧Good s:=by
 intro r hr s hs
 obtain ⟨a,rfl⟩:=mem_rw hr
 obtain ⟨i,rfl⟩:=mem_gt hs
 exact okR_in (h.fw a i).ok
theorem FwG.goodY {m n : Nat} {X Y : Rays} (h : FwG m n X Y) : ∀ r ∈ Y,∀ s ∈ r,s.length≤256∧Good s:=by
 intro r hr s hs
 obtain ⟨a,rfl⟩:=mem_rw hr
 obtain ⟨i,rfl⟩:=mem_gt hs
 exact okR_in (h.fw a i).oky
theorem FwG.same {m n : Nat} {X Y : Rays} (h : FwG m n X Y) : SameNe X Y:=by
 intro a i
 have:=(h.fw a i).ne
 unfold ne
 rw [decide_eq_decide]
 omega
theorem rays_loop (hF : FF≤F) (p0 : List (List (List Int))) (h0 : ∀ r ∈ p0,∀ x ∈ r,∀ b ∈ x,0≤b∧b≤255) (hp : p0.length≤4) (p2 p3 : Int×Int) (drop : List Int) (hd : ∀ b ∈ drop,0≤b∧b≤255) {m : Nat} (hm : m≤7) :
  ∀ (n N a : Nat) (X Y : Rays),a + n = p0.length→n < N→FwG m a X Y→∃ X' Y',FwG m p0.length X' Y'∧law03_FoldFewer_L8 F p0 p2 p3 drop (m : Int) N X Y (a : Int) = law03_FoldFewer_K1 F p2 p3 (m : Int) X' Y':=by
 have hF':=hF
 unfold FF at hF'
 intro n
 induction n with
 | zero =>
  intro N a X Y ha hN h
  obtain ⟨N,rfl⟩ : ∃ N',N = N' + 1:=⟨N - 1,by omega⟩
  refine ⟨X,Y,by rw [← show a = p0.length from by omega]; exact h,?_⟩
  show law03_FoldFewer_B8 F p0 p2 p3 drop (m : Int) (law03_FoldFewer_L8 F p0 p2 p3 drop (m : Int) N) X Y (a : Int) = _
  unfold law03_FoldFewer_B8
  exact bifF (decide_eq_false (by omega))
 | succ n ih =>
  intro N a X Y ha hN h
  obtain ⟨N,rfl⟩ : ∃ N',N = N' + 1:=⟨N - 1,by omega⟩
  have step : law03_FoldFewer_L8 F p0 p2 p3 drop (m : Int) (N + 1) X Y (a : Int) = law03_FoldFewer_B8 F p0 p2 p3 drop (m : Int) (law03_FoldFewer_L8 F p0 p2 p3 drop (m : Int) N) X Y (a : Int):=rfl
  rw [step]
  unfold law03_FoldFewer_B8
  rw [bifT (decide_eq_true (by omega))]
  obtain ⟨l1,g1,g2,g3⟩:=bytes_row (F:=F) (drop:=drop) hm p0 h0 (a:=a) (by omega) X Y (law03_FoldFewer_L8 F p0 p2 p3 drop (m : Int) N) m F 0 [] (by omega) (by omega) rfl (fun x hx=>by cases hx)
  rw [show ((0 : Nat) : Int) = 0 from rfl] at g3
  rw [g3]
  unfold law03_FoldFewer_K10
  obtain ⟨y,y1,y2,y3⟩:=made_eq hF l1 g2 (by omega)
  rw [y1,sb]
  obtain ⟨l2,q1,q2⟩:=fewer_row hF hd hm (a:=a) (by omega) X Y (law03_FoldFewer_L8 F p0 p2 p3 drop (m : Int) N) y y3 (by omega) m F 0 [] (by omega) (by omega) rfl (fun q hq=>by omega)
  rw [show ((0 : Nat) : Int) = 0 from rfl] at q2
  rw [q2]
  unfold law03_FoldFewer_K11 law03_FoldFewer_K9
  have h1:=h.lx
  have h2:=h.ly
  rw [apdb (by simp; omega),apdb (by simp; omega),ckb (by omega),natS]
  exact ih N (a + 1) _ _ (by omega) (by omega) (h.app q1)
theorem same_rows2 (hF : FF≤F) {o : Rays} {e e' : Int} (hG : AllG o) (hn : o.length≤1000) (hm : ∀ r ∈ o,r.length≤1000) : ∀ (t N a : Nat),a + t = o.length→t < N→law03_FoldFewer_L4 F (o,e) (o,e') N (a : Int) = some true:=by
 have hF':=hF
 unfold FF at hF'
 intro t
 induction t with
 | zero =>
  intro N a ha hN
  obtain ⟨N,rfl⟩ : ∃ N',N = N' + 1:=⟨N - 1,by omega⟩
  show law03_FoldFewer_B4 F (o,e) (o,e') (law03_FoldFewer_L4 F (o,e) (o,e') N) (a : Int) = _
  unfold law03_FoldFewer_B4
  rw [bifF (by simp; omega)]; rfl
 | succ t ih =>
  intro N a ha hN
  obtain ⟨N,rfl⟩ : ∃ N',N = N' + 1:=⟨N - 1,by omega⟩
  show law03_FoldFewer_B4 F (o,e) (o,e') (law03_FoldFewer_L4 F (o,e) (o,e') N) (a : Int) = _
  unfold law03_FoldFewer_B4
  have hl:=hm _ (getD_mem (d:=[]) (show a < o.length by omega))
  have hs : law03_sets F (o.getD a []) (o.getD a []) = some true:=by
   unfold law03_sets
   rw [bifF (by simp)]
   exact sets_loop hF (hG.row a) (by omega) (o.getD a []).length F 0 (by omega) (by omega)
  rw [bifT (by simp; omega),getR (by show a < o.length; omega),getR (by show a < o.length; omega),hs,sb]
  refine Eq.trans (bifF rfl) ?_
  rw [ckb (by omega),natS]
  exact ih N (a + 1) (by omega) (by omega)
structure Out (n m : Nat) (d far : Int) (X U V : Rays) : Prop where
 lx : Shape X n m
 okx : ∀ r ∈ X,∀ s ∈ r,s.length≤256∧Good s
 iU : Inv X (LL X far d) n m U
 stab : Stable (LL X far d) (gf U)
 sV : Shape V n m
 vg : AllG V
 sub : Below (gf V) (gf U)
 lenU : ∀ a i,(gt (U.getD a []) i).length≤256
 lenV : ∀ a i,(gt (V.getD a []) i).length≤256
def Left (m : Nat) (X U : Rays) (a i : Nat) : Prop:=∀ b j,(b < a∨(b = a∧j < i))→j < m→ne (X.getD b []) j = true→ne (U.getD b []) j = true
variable {n m : Nat} {d far : Int} {X U V : Rays}
theorem rowF_loop (hF : FF≤F) (h : Out n m d far X U V) (hm : m≤7) {a : Nat} (ha : a < n) (e e' : Int) (k5 : Int→Bool→Option Bool) :
  ∀ (t N i : Nat) (c : Bool),i + t = m→t < N→(c = false→Left m X U a i)→∃ c',(c' = false→Left m X U a m)∧law03_FoldFewer_L7 F (m : Int) X (U,e) (V,e') (a : Int) k5 N (i : Int) c = law03_FoldFewer_K6 (a : Int) k5 c':=by
 intro t
 induction t with
 | zero =>
  intro N i c hi hN hc
  obtain ⟨N,rfl⟩ : ∃ N',N = N' + 1:=⟨N - 1,by omega⟩
  refine ⟨c,fun h0=>by have:=hc h0; rwa [show i = m from by omega] at this,?_⟩
  show law03_FoldFewer_B7 F (m : Int) X (U,e) (V,e') (a : Int) k5 (law03_FoldFewer_L7 F (m : Int) X (U,e) (V,e') (a : Int) k5 N) (i : Int) c = _
  unfold law03_FoldFewer_B7
  exact bifF (decide_eq_false (by omega))
 | succ t ih =>
  intro N i c hi hN hc
  obtain ⟨N,rfl⟩ : ∃ N',N = N' + 1:=⟨N - 1,by omega⟩
  have step : law03_FoldFewer_L7 F (m : Int) X (U,e) (V,e') (a : Int) k5 (N + 1) (i : Int) c = law03_FoldFewer_B7 F (m : Int) X (U,e) (V,e') (a : Int) k5 (law03_FoldFewer_L7 F (m : Int) X (U,e) (V,e') (a : Int) k5 N) (i : Int) c:=rfl
  rw [step]
  unfold law03_FoldFewer_B7
  have hUl:=h.iU.shape.1
  have hVl:=h.sV.1
  have hXl:=h.lx.1
  have rU:=h.iU.shape.row (a:=a) ha
  have rV:=h.sV.row (a:=a) ha
  have rX:=h.lx.row (a:=a) ha
  have hin : law03_inside F (gt (V.getD a []) i) (gt (U.getD a []) i) = some true:=inside_eq hF ((h.iU.good.row a).gt i).1 ((h.vg.row a).gt i).1.2 (fun z hz=>h.sub (a,i) z hz) (by have:=h.lenU a i; omega) (by have:=h.lenV a i; omega)
  rw [bifT (decide_eq_true (by omega)),getR (by show a < V.length; omega),getG (by show i < (V.getD a []).length; omega),getR (by show a < U.length; omega),getG (by show i < (U.getD a []).length; omega),hin,sb]
  refine Exists.elim (?_ : ∃ c',(c' = false→Left m X U a m)∧(bif c then ((ck ((i : Int) + 1)).bind fun x6688=>law03_FoldFewer_L7 F (m : Int) X (U,e) (V,e') (a : Int) k5 N x6688 true) else ((getI X (a : Int)).bind fun u6689=>(getI u6689 (i : Int)).bind fun u6697=>bif (decide (((u6697.length : Nat) : Int) > 0)) then ((getI U (a : Int)).bind fun u6705=>(getI u6705 (i : Int)).bind fun u6713=>(ck ((i : Int) + 1)).bind fun x6720=>law03_FoldFewer_L7 F (m : Int) X (U,e) (V,e') (a : Int) k5 N x6720 (((u6713.length : Nat) : Int) == 0)) else ((ck ((i : Int) + 1)).bind fun x6721=>law03_FoldFewer_L7 F (m : Int) X (U,e) (V,e') (a : Int) k5 N x6721 false))) = law03_FoldFewer_K6 (a : Int) k5 c') fun c' hc'=>⟨c',hc'.1,Eq.trans (bifF rfl) hc'.2⟩
  cases c with
  | true =>
   rw [cond_true,ckb (by omega),natS]
   exact ih N (i + 1) true (by omega) (by omega) (fun h=>by cases h)
  | false =>
   have hL:=hc rfl
   have next : (ne (X.getD a []) i = true→ne (U.getD a []) i = true)→Left m X U a (i + 1):=by
    intro h1 b j hb hj
    by_cases hq : b = a∧j = i
    ·rw [hq.1,hq.2]; exact h1
    ·exact hL b j (by omega) hj
   rw [cond_false,getR (by omega),getG (by omega)]
   by_cases hne : (gt (X.getD a []) i).length > 0
   ·rw [bifT (decide_eq_true (by omega)),getR (by omega),getG (by omega),ckb (by omega),natS]
    refine ih N (i + 1) _ (by omega) (by omega) fun hc2=>next fun _=>?_
    have : ¬ ((((gt (U.getD a []) i).length : Nat) : Int) = 0):=by simpa using hc2
    unfold ne
    exact decide_eq_true (by omega)
   ·rw [bifF (decide_eq_false (by omega)),ckb (by omega),natS]
    refine ih N (i + 1) _ (by omega) (by omega) fun hc2=>next fun h1=>?_
    unfold ne at h1
    exact absurd (of_decide_eq_true h1) hne
theorem end_K2 (hF : FS≤F) (h : Out n m d far X U V) (hn : n≤4) (hm : m≤7) (hj : 0≤d∧d≤400000) (hb : 1≤far∧far≤16) (c : Bool) (hc : c = false→Left m X U n 0) : law03_FoldFewer_K2 F d far (U,0) c = some true:=by
 have hF2 : FF≤F:=by unfold FS at hF; unfold FF; omega
 have hF':=hF2
 unfold FF at hF'
 unfold law03_FoldFewer_K2
 cases c with
 | true=>rfl
 | false =>
  rw [cond_false]
  have hL:=hc rfl
  have hg : ∀ r ∈ U,∀ s ∈ r,s.length≤256∧Good s:=by
   intro r hr s hs
   obtain ⟨a,rfl⟩:=mem_rw hr
   obtain ⟨i,rfl⟩:=mem_gt hs
   exact ⟨h.lenU a i,(h.iU.good.row a).gt i⟩
  obtain ⟨W,w1,w2,w3⟩:=turn_full (jp:=d) (br:=far) hF h.iU.shape (by omega) (by omega) hg hj hb
  have hne : SameNe X U:=by
   intro a i
   by_cases hx : ne (X.getD a []) i = true
   ·rw [hx]
    have hin : a < n∧i < m:=by
     have h1:=ne_lt hx
     by_cases ha : a < n
     ·rw [h.lx.row ha] at h1; exact ⟨ha,h1⟩
     ·rw [List.getD_eq_getElem?_getD,List.getElem?_eq_none (by rw [h.lx.1]; omega)] at h1
      simp at h1
    exact (hL a i (.inl hin.1) hin.2 hx).symm
   ·have hx' : ne (X.getD a []) i = false:=by simpa using hx
    rw [hx']
    cases hu : ne (U.getD a []) i with
    | false=>rfl
    | true =>
     exfalso
     unfold ne at hu
     have hu:=of_decide_eq_true hu
     have hgd:=(h.iU.good.row a).gt i
     obtain ⟨s,hs⟩:=List.exists_mem_of_length_pos hu
     have hm1 : mem (2 * s.Lo) (gt (U.getD a []) i):=⟨s,hs,Int.le_refl _,by have:=hgd.1.2 s hs; omega⟩
     obtain ⟨t,ht,_⟩:=h.iU.below (a,i) _ hm1
     have : 0 < (gt (X.getD a []) i).length:=List.length_pos_of_mem ht
     rw [ne,decide_eq_true this] at hx'
     cases hx'
  have hWU : W = U:=again h.lx h.iU.shape h.iU.good hne hj.1 h.stab w2
  subst hWU
  rw [w1,sb]
  refine Eq.trans (bifF (by simp)) ?_
  exact same_rows2 hF2 h.iU.good (by rw [h.iU.shape.1]; omega) (fun r hr=>by rw [h.iU.shape.2 r hr]; omega) W.length F 0 (by omega) (by rw [h.iU.shape.1]; omega)
theorem all_loop (hF : FS≤F) (h : Out n m d far X U V) (hn : n≤4) (hm : m≤7) (hj : 0≤d∧d≤400000) (hb : 1≤far∧far≤16) : ∀ (t N a : Nat) (c : Bool),a + t = n→t < N→(c = false→Left m X U a 0)→law03_FoldFewer_L5 F (m : Int) X d far (U,0) (V,0) N (a : Int) c = some true:=by
 have hF2 : FF≤F:=by unfold FS at hF; unfold FF; omega
 have hF':=hF2
 unfold FF at hF'
 have hUl:=h.iU.shape.1
 have hVl:=h.sV.1
 intro t
 induction t with
 | zero =>
  intro N a c ha hN hc
  obtain ⟨N,rfl⟩ : ∃ N',N = N' + 1:=⟨N - 1,by omega⟩
  show law03_FoldFewer_B5 F (m : Int) X d far (U,0) (V,0) (law03_FoldFewer_L5 F (m : Int) X d far (U,0) (V,0) N) (a : Int) c = _
  unfold law03_FoldFewer_B5
  rw [bifF (by simp; omega)]
  exact end_K2 hF h hn hm hj hb c (by rw [← show a = n from by omega]; exact hc)
 | succ t ih =>
  intro N a c ha hN hc
  obtain ⟨N,rfl⟩ : ∃ N',N = N' + 1:=⟨N - 1,by omega⟩
  show law03_FoldFewer_B5 F (m : Int) X d far (U,0) (V,0) (law03_FoldFewer_L5 F (m : Int) X d far (U,0) (V,0) N) (a : Int) c = _
  unfold law03_FoldFewer_B5
  rw [bifT (by simp; omega),getR (by show a < U.length; omega),bifF (by rw [h.iU.shape.row (by omega)]; simp),getR (by show a < V.length; omega),bifF (by rw [h.sV.row (by omega)]; simp)]
  obtain ⟨c',g1,g2⟩:=rowF_loop hF2 h hm (a:=a) (by omega) 0 0 (law03_FoldFewer_L5 F (m : Int) X d far (U,0) (V,0) N) m F 0 c (by omega) (by omega) hc
  rw [show ((0 : Nat) : Int) = 0 from rfl] at g2
  rw [g2]
  unfold law03_FoldFewer_K6
  rw [ckb (by omega),natS]
  refine ih N (a + 1) c' (by omega) (by omega) fun hc' b j hb hj=>g1 hc' b j (by omega) hj
end
end Go.Proofs.Ytbhjgebjojdohaa
namespace Go.Proofs.Ytbhjgebjojdohaa
open Go Go.RowKit Go.Eng
set_option maxRecDepth 10000
set_option linter.unusedVariables false
set_option linter.unusedSimpArgs false
theorem len80 {a b : List api_Span} (ha : Canon a) (hb : okR 79 b) (h : ∀ z,mem z a→mem z b) : a.length≤256:=by
 have hR : inR b:=fun s hs=>by have:=hb.2 s hs; omega
 have:=canon_len (lo:=-20) (hi:=59) ha (inR_sub ha.2 hR h) (by omega)
 omega
theorem FoldFewer_eq (F : Nat) (hF : FS≤F) (p0 : List (List (List Int))) (h0 : ∀ r ∈ p0,∀ x ∈ r,∀ b ∈ x,0≤b∧b≤255) (p1 : Int) (h1 : 0≤p1∧p1≤255) (p2 p3 : Int×Int)
  (h2 : 0≤p2.1∧p2.1≤255) (h2' : 0≤p2.2∧p2.2≤255) (h3 : 0≤p3.1∧p3.1≤255) (h3' : 0≤p3.2∧p3.2≤255) (p4 : List Int) (h4 : ∀ b ∈ p4,0≤b∧b≤255) :
  law03_FoldFewer F p0 p1 p2 p3 p4 = some true:=by
 have hF2 : FF≤F:=by unfold FS at hF; unfold FF; omega
 have hF':=hF2
 unfold FF at hF'
 unfold law03_FoldFewer
 by_cases hg : p0.length < 1∨p0.length > 4
 ·have e : (bif (decide (((p0.length : Nat) : Int) < 1)) then true else (decide (((p0.length : Nat) : Int) > 4))) = true:=by
   rcases hg with hg | hg
   ·rw [decide_eq_true (show ((p0.length : Nat) : Int) < 1 by omega)]; rfl
   ·rw [decide_eq_true (show ((p0.length : Nat) : Int) > 4 by omega)]; cases decide (((p0.length : Nat) : Int) < 1) <;> rfl
  exact (bifT e).trans rfl
 ·have e : (bif (decide (((p0.length : Nat) : Int) < 1)) then true else (decide (((p0.length : Nat) : Int) > 4))) = false:=by
   rw [decide_eq_false (show ¬ ((p0.length : Nat) : Int) < 1 by omega),decide_eq_false (show ¬ ((p0.length : Nat) : Int) > 4 by omega)]; rfl
  refine Eq.trans (bifF e) ?_
  obtain ⟨m,hm⟩ : ∃ m : Nat,(m : Int) = 1 + p1 % 3:=⟨(1 + p1 % 3).toNat,by omega⟩
  rw [ckb (by omega),rem1 (by omega) (by omega),sb,ckb (by omega),← hm]
  obtain ⟨X,Y,h,g⟩:=rays_loop hF2 p0 h0 (by omega) p2 p3 p4 h4 (m:=m) (by omega) p0.length F 0 [] [] (by omega) (by omega) ⟨rfl,rfl,fun b hb=>by omega⟩
  rw [show ((0 : Nat) : Int) = 0 from rfl] at g
  rw [g]
  unfold law03_FoldFewer_K1
  rw [ckb (by omega),rem1 (by omega) (by omega),sb,ckb (by omega),rem1 (by omega) (by omega),sb,ckb (by omega),ckb (by omega),rem1 (by omega) (by omega),sb,ckb (by omega),ckb (by omega),rem1 (by omega) (by omega),sb,ckb (by omega)]
  have hk : 0≤(if p2.1 % 13 - p2.2 % 5 > 0 then p2.1 % 13 - p2.2 % 5 else 0)∧(if p2.1 % 13 - p2.2 % 5 > 0 then p2.1 % 13 - p2.2 % 5 else 0)≤p2.1 % 13:=by split <;> omega
  generalize (if p2.1 % 13 - p2.2 % 5 > 0 then p2.1 % 13 - p2.2 % 5 else 0) = k at hk ⊢
  have hj : 0≤p2.1 % 13∧p2.1 % 13≤400000:=by omega
  have hb : 1≤1 + p3.1 % 3∧1 + p3.1 % 3≤16:=by omega
  have hb2 : 1≤1 + p3.1 % 3 + p3.2 % 3∧1 + p3.1 % 3 + p3.2 % 3≤16:=by omega
  have hbb : 1 + p3.1 % 3≤1 + p3.1 % 3 + p3.2 % 3:=by omega
  generalize p2.1 % 13 = d at hk hj ⊢
  generalize 1 + p3.1 % 3 + p3.2 % 3 = more at hb2 hbb ⊢
  generalize 1 + p3.1 % 3 = far at hb hbb ⊢
  obtain ⟨U,u1,u2,u3⟩:=turn_full (F:=F) hF h.shapeX (by omega) (by omega) h.goodX hj hb
  obtain ⟨V,v1,v2,v3⟩:=turn_full (F:=F) hF h.shapeY (by omega) (by omega) h.goodY ⟨hk.1,Int.le_trans hk.2 hj.2⟩ hb2
  have hsub : Below (gf V) (gf U):=u2.most _ (stable_less (e:=0) h.shapeX h.shapeY h.same hbb hk v3) (v2.below.trans fun p z hz=>(h.fw p.1 p.2).sub z hz)
  have hout : Out p0.length m d far X U V :=
   ⟨h.shapeX,h.goodX,u2,u3,v2.shape,v2.good,hsub,fun a i=>len80 ((u2.good.row a).gt i).1 (h.fw a i).ok (u2.below (a,i)),fun a i=>len80 ((v2.good.row a).gt i).1 (h.fw a i).oky (v2.below (a,i))⟩
  have hX:=h.lx
  have hU:=u2.shape.1
  have hV:=v2.shape.1
  rw [u1,sb,v1,sb]
  refine Eq.trans (bifF (by simp; omega)) ?_
  exact all_loop hF hout (by omega) (by omega) hj hb p0.length F 0 false (by omega) (by omega) fun _ b j hb'=>by omega
end Go.Proofs.Ytbhjgebjojdohaa
