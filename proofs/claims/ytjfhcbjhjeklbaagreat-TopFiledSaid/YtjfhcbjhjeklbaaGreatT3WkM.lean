import Derived.Test.YtjfhcbjhjeklbaaGreatT3WnK
import Derived.Test.YtjfhcbjhjeklbaaGreatT3XK
set_option linter.unusedVariables false
set_option linter.unusedSimpArgs false
set_option linter.unusedSectionVars false
namespace Go.Proofs.YtjfhcbjhjeklbaaGreat
open Go Go.RowKit Go.Eng
set_option linter.unusedVariables false
set_option maxRecDepth 10000
set_option maxHeartbeats 4000000
theorem B2l {κ ν:Type} [DecidableEq κ]:∀{B:List (κ×ν)} {n:Nat} {p:κ×ν},(B.map (·.1)).Nodup->B[n]? = some p->ixM B p.1=some n
 | [],n,p,_,h=>by simp at h
 | q::B,0,p,hd,h=>by
  simp at h;subst h;unfold ixM;rw [if_pos rfl]
 | q::B,n+1,p,hd,h=>by
  simp only [List.map_cons,List.nodup_cons] at hd;simp only [List.getElem?_cons_succ] at h;have hm:p.1∈B.map (·.1):=List.mem_map.2 ⟨p,List.mem_of_getElem? h,rfl⟩;unfold ixM;rw [if_neg (λe:p.1=q.1=>hd.1 (by rw [←e];exact hm)),B2l hd.2 h];rfl
def B5p:Value->Nat
 | .slice _ n _=>n
 | _=>0
def oldK (time:Int) (p:mosaic_Key×Value):Bool:=decide (p.1.Time<time)
def Qx (time:Int) (B:List (mosaic_Key×Value)):Nat:=((B.filter (oldK time)).map λp=>B5p p.2).sum
theorem Vi {α:Type} (f:α->Bool):∀{l:List α} {n:Nat} {p:α},l[n]? = some p->f p=false->(l.eraseIdx n).filter f=l.filter f
 | [],n,p,h,_=>by simp at h
 | q::l,0,p,h,hf=>by
  simp at h;subst h;simp [hf]
 | q::l,n+1,p,h,hf=>by
  simp only [List.getElem?_cons_succ] at h;have:=Vi f h hf;rw [List.eraseIdx_cons_succ,List.filter_cons,List.filter_cons,this]
theorem A0d (time:Int):∀{B:List (mosaic_Key×Value)} {n:Nat} {p:mosaic_Key×Value},B[n]? = some p->oldK time p=true->Qx time B=Qx time (B.eraseIdx n)+B5p p.2
 | [],n,p,h,_=>by simp at h
 | q::l,0,p,h,hf=>by
  simp at h;subst h;simp [Qx,hf,Nat.add_comm]
 | q::l,n+1,p,h,hf=>by
  simp only [List.getElem?_cons_succ] at h;have:=A0d time h hf;unfold Qx at this ⊢;rw [List.eraseIdx_cons_succ,List.filter_cons,List.filter_cons]
  split
  ·simp only [List.map_cons,List.sum_cons];omega
  ·exact this
structure MvI (time:Int) (B0 B:List (mosaic_Key×Value)) (bs sn:List Nat) (clk:Nat):Prop where
 len:bs.length=B.length
 lt:∀b∈bs,b<clk
 nd:bs.Nodup
 kd:(B.map (·.1)).Nodup
 keep:B.filter (λp=>!oldK time p)=B0.filter (λp=>!oldK time p)
 seen:∀(n:Nat) (p:mosaic_Key×Value) (b:Nat),B[n]? = some p->bs[n]? = some b->b∈sn->oldK time p=false
def Ww (bs sn:List Nat):Nat:=(bs.filter λb=>!sn.contains b).length
theorem MvI.stay {time:Int} {B0 B:List (mosaic_Key×Value)} {bs sn:List Nat} {clk n b:Nat} {p:mosaic_Key×Value} (h:MvI time B0 B bs sn clk) (hB:B[n]? = some p) (hb:bs[n]? = some b) (ho:oldK time p=false):MvI time B0 B bs (sn++[b]) clk:=by
 refine { h with seen:=λn' p' b' h1 h2 h3=>?_ };rcases List.mem_append.1 h3 with h3|h3
 ·exact h.seen n' p' b' h1 h2 h3
 ·simp at h3;subst h3;have hlt:n'<bs.length:=(List.getElem?_eq_some_iff.1 h2).1;have:n'=n:=(List.getElem?_inj hlt h.nd).1 (h2.trans hb.symm);subst this;rw [hB] at h1
  cases h1
  exact ho
theorem Vf {α:Type} {l:List α} {n k:Nat} {x:α} (h:(l.eraseIdx n)[k]? = some x):l[if k<n then k else k+1]? = some x:=by
 rw [List.getElem?_eraseIdx] at h
 split at h
 ·rename_i c;rw [if_pos c];exact h
 ·rename_i c;rw [if_neg c];exact h
theorem MvI.gone {time:Int} {B0 B:List (mosaic_Key×Value)} {bs sn:List Nat} {clk n b:Nat} {p:mosaic_Key×Value} (h:MvI time B0 B bs sn clk) (hB:B[n]? = some p) (hb:bs[n]? = some b) (ho:oldK time p=true):MvI time B0 (B.eraseIdx n) (bs.eraseIdx n) (sn++[b]) clk:=by
 have hnB:n<B.length:=(List.getElem?_eq_some_iff.1 hB).1;have hnb:n<bs.length:=(List.getElem?_eq_some_iff.1 hb).1;refine ⟨?_,λx hx=>h.lt x (List.mem_of_mem_eraseIdx hx),h.nd.sublist (List.eraseIdx_sublist ..),?_,?_,?_⟩
 ·rw [List.length_eraseIdx,List.length_eraseIdx,if_pos hnB,if_pos hnb,h.len]
 ·rw [ChangeMaps.map_eraseIdx];exact h.kd.sublist (List.eraseIdx_sublist ..)
 ·rw [Vi _ hB (by simp [ho])];exact h.keep
 ·intro k p' b' h1 h2 h3;have h1:=Vf h1;have h2:=Vf h2;rcases List.mem_append.1 h3 with h3|h3
  ·exact h.seen _ p' b' h1 h2 h3
  ·simp at h3;subst h3;have hlt:(if k<n then k else k+1)<bs.length:=(List.getElem?_eq_some_iff.1 h2).1;have:(if k<n then k else k+1)=n:=(List.getElem?_inj hlt h.nd).1 (h2.trans hb.symm)
   split at this<;>omega
theorem Yd {α:Type} (f g:α->Bool) (hgf:∀x,g x=true->f x=true):∀l:List α,(l.filter g).length<=(l.filter f).length
 | []=>Nat.le_refl _
 | x::l=>by
  have ih:=Yd f g hgf l;rw [List.filter_cons,List.filter_cons]
  by_cases hg:g x=true
  ·rw [if_pos hg,if_pos (hgf x hg)];simp only [List.length_cons];omega
  ·rw [if_neg hg]
   split
   ·simp only [List.length_cons];omega
   ·exact ih
theorem Ye {α:Type} (f g:α->Bool) (hgf:∀x,g x=true->f x=true) (b:α) (hf:f b=true) (hg:g b=false):∀l:List α,b∈l->(l.filter g).length<(l.filter f).length
 | [],h=>by cases h
 | x::l,h=>by
  rw [List.filter_cons,List.filter_cons];rcases List.mem_cons.1 h with rfl|h
  ·have ih:=Yd f g hgf l;rw [if_neg (by rw [hg];exact Bool.false_ne_true),if_pos hf];simp only [List.length_cons];omega
  ·have ih:=Ye f g hgf b hf hg l h
   by_cases hg:g x=true
   ·rw [if_pos hg,if_pos (hgf x hg)];simp only [List.length_cons];omega
   ·rw [if_neg hg]
    split
    ·simp only [List.length_cons];omega
    ·exact ih
theorem A0f {bs bs' sn:List Nat} {b:Nat} (hb:b∈bs) (hn:b∉sn) (hs:bs'.Sublist bs):Ww bs' (sn++[b])<Ww bs sn:=by
 have h1:Ww bs' (sn++[b])<=Ww bs (sn++[b]):=(hs.filter _).length_le;refine Nat.lt_of_le_of_lt h1 ?_;refine Ye (λb=>!sn.contains b) (λx=>!(sn++[b]).contains x) (λx hx=>?_) b ?_ ?_ bs hb
 ·simp at hx ⊢;exact hx.1
 ·simpa using hn
 ·simp
theorem MvI.fin {time:Int} {B0 B:List (mosaic_Key×Value)} {bs sn:List Nat} {clk:Nat} (h:MvI time B0 B bs sn clk) (ha:∀b∈bs,b∈sn):B=B0.filter (λp=>!oldK time p)/\Qx time B=0:=by
 have hall:∀p∈B,oldK time p=false:=λp hp=>by
  obtain ⟨n,hn⟩:=List.mem_iff_getElem?.1 hp;have hlt:n<bs.length:=by rw [h.len];exact (List.getElem?_eq_some_iff.1 hn).1
  exact h.seen n p _ hn (List.getElem?_eq_getElem hlt) (ha _ (List.getElem_mem hlt))
 constructor
 ·rw [←h.keep];exact (List.filter_eq_self.2 λp hp=>by simp [hall p hp]).symm
 ·unfold Qx;rw [List.filter_eq_nil_iff.2 (λp hp=>by simp [hall p hp])];rfl
abbrev ncs (x0 x1 x2 x3 x4 x5 x6 x7 x8 x9 x13:Value) (m5:Nat) (h c:Int):Array Value:=#[x0,x1,x2,x3,x4,x5,x6,x7,x8,x9,iv h,.map (some m5),iv c,x13]
theorem ckM {x:Int} (h1:-9000000000000000000<=x) (h2:x<=9000000000000000000):ck x=some x:=if_pos ⟨by omega,by omega⟩
theorem B3j (cb m5:Nat) (t h C:Int) (x0 x1 x2 x3 x4 x5 x6 x7 x8 x9 x13:Value) (B0:List (mosaic_Key×Value)) (hk:(B0.map (·.1)).Nodup) (hv0:∀p∈B0,∃ad n cap,p.2=Value.slice ad n cap) (hC1:-1000000000000<=C) (hC2:C<=1000000000000) (hs:Qx t B0<=1000000000000) (w0 w1:World) (T:List Res)
  (hS:St w0 (blk cb 101 (ncs x0 x1 x2 x3 x4 x5 x6 x7 x8 x9 x13 m5 h C)::A0 kfK (λv=>v) m5 B0::T) w1) :
  Fg Tryz.prog 33 #[pb cb,iv t] w1 (λv w=>v=iv (Qx t B0)/\St w0 (blk cb 101 (ncs x0 x1 x2 x3 x4 x5 x6 x7 x8 x9 x13 m5 t (C-Qx t B0))::A0 kfK (λv=>v) m5 (B0.filter λp=>!oldK t p)::T) w):=by
 refine feW Tryz.func33 50 [(0,pb cb),(1,iv t)] hS λa w hF hS=>?_;refine qnB [] hF λa hF=>?_;refine qoB [(5,iv C)] hF (oL 3 0 12 hS.i rfl rfl<|A6) λa hF=>?_;refine esr<|qn 4 4 [(13,iv t),(15,.pointer (some ⟨cb,10,none⟩))] hF λa hF=>?_;refine SK.wi (qs 3 0 10 (iv t) hF hS rfl λw a hF hS=>wfn rfl ?_);refine Ad<|esr<|qo 4 4 [(19,.map (some m5))] hF (oL 98 0 11 hS.i rfl rfl<|A6) λa hF=>?_;obtain ⟨bs,c,hlen,hlt,hnd,hS⟩:=hS.mapOpen (i:=1) rfl;refine SK.wi (A9k (M':=λq=>[(0,pb cb),(1,iv t),(5,iv C),(20,pb q)]) (t:=98) (e:=160) (kt:=63) 1 hF hS rfl (by kernel_rfl) ⟨by kernel_rfl⟩ (by kernel_rfl) (λ_=>⟨by kernel_rfl⟩) λq w a hF hS=>wfn rfl ?_);refine wpIn_block<|Cu (λn_ a w=>∃(B:List (mosaic_Key×Value)) (bs sn:List Nat) (cnt:Int),n_=Ww bs sn/\MvI t B0 B bs sn c/\(∀p∈B,∃ad n cap,p.2=Value.slice ad n cap)/\cnt=C-Qx t B0+Qx t B/\Qx t B<=Qx t B0/\Fr 50 [] [(0,pb cb),(1,iv t),(5,iv C),(20,pb q)] a/\St w0 (itR q m5 c sn c::blk cb 101 (ncs x0 x1 x2 x3 x4 x5 x6 x7 x8 x9 x13 m5 t cnt)::Uu kfK (λv=>v) m5 B bs c::T) w) (Ww bs [])
  ⟨B0,bs,[],C,rfl,⟨hlen,hlt,hnd,hk,rfl,λ_ _ _ _ _ h=>by cases h⟩,hv0,by omega,Nat.le_refl _,hF,hS⟩ ?_
 clear hlen hlt hnd
 rintro n_ a w ⟨B,bs,sn,cnt,rfl,hI,hv,hcnt,hle,hF,hS⟩;refine esr<|SK.wi (B2p (ty:=0) (M0:=[(0,pb cb),(1,iv t),(5,iv C),(20,pb q),(21,.tuple #[.bool false])]) (M1:=λx y=>[(0,pb cb),(1,iv t),(5,iv C),(20,pb q),(21,.tuple #[.bool true,kfK x,y])]) 0 2 hF hS rfl rfl (by kernel_rfl) ⟨by kernel_rfl⟩ hI.lt (Nat.le_refl _) ⟨by kernel_rfl⟩ (λ_ _=>⟨by kernel_rfl⟩) ?_ ?_)
 ·intro hall a hF;obtain ⟨hB,hz⟩:=hI.fin hall;refine rn 1 2 [(0,pb cb),(5,iv C),(22,.bool false)] hF λa hF=>wfn rfl ?_;refine Ad<|Ns hF rfl (λhc=>by cases hc) λ_=>?_
  refine wpIn_exit (Aa<|Aa<|Ap<|A7 ?_);have hS2:=(St.pickT (A:=[itR q m5 c sn c,blk cb 101 (ncs x0 x1 x2 x3 x4 x5 x6 x7 x8 x9 x13 m5 t cnt),Uu kfK (λv=>v) m5 B bs c]) (T:=T) [1,2] (by decide) hS).mapShut (i:=1) rfl;have hcnt2:cnt=C-Qx t B0:=by omega
  subst hcnt2;have e:C-(C-Qx t B0)=(Qx t B0:Int):=by omega
  refine qoB [(4,iv (Qx t B0))] hF (oL 3 0 12 hS2.i rfl rfl<|oS 3 ((congrArg ck e).trans (ckM (by omega) (by omega)))<|A6) λa hF=>?_;rw [←hB];exact wpIn_ret (Bz [.tmp 4] [_] hF rfl ⟨rfl,trivial⟩ ⟨_,rfl,rfl,hS2⟩)
 ·intro n p b hB hb hns w a hF hS;obtain ⟨sa,sl,sc,hsl⟩:=hv p (List.mem_of_getElem? hB);refine rn 1 2 [(0,pb cb),(1,iv t),(5,iv C),(20,pb q),(22,.bool true)] hF λa hF=>wfn rfl ?_;refine Ad<|Ns hF rfl (λ_=>?_) λhc=>by cases hc
  refine wK<|wpIn_block<|esr ?_;refine SK.wi (A8c (M':=[(23,.tuple #[kfK p.1,p.2]),(0,pb cb),(1,iv t),(5,iv C),(20,pb q)]) 0 2 hF hS rfl rfl (by kernel_rfl) ⟨by kernel_rfl⟩ hB hb ⟨by kernel_rfl⟩ λa hF=>?_);refine qn 2 3 [(24,.agg (mosaic_Key.cells p.1).toArray),(25,p.2)] hF λa hF=>?_;refine SK.wi (qA 63 #[.string ⟨#[]⟩,iv 0,iv 0] (λb4=>[(6,pb b4)]) hF hS λb4 w a hF hS=>?_);refine SK.wi (qw 63 0 (mosaic_Key.cells p.1).toArray hF hS rfl λw a hF hS=>?_);refine rn 1 6 [(0,pb cb),(1,iv t),(5,iv C),(20,pb q),(6,pb b4),(7,p.2)] hF λa hF=>wfn rfl ?_;refine qoB [(29,.bool (decide (p.1.Time<t)))] hF (oL 3 0 2 hS.i rfl rfl<|A6) λa hF=>?_;refine Ns hF rfl (λhold=>?_) λhold=>?_
  ·have hse:=A0d t hB hold;rw [hsl] at hF hse;replace hse:Qx t B=Qx t (B.eraseIdx n)+sl:=hse;obtain ⟨z,hz,hck⟩:∃z:Int,z=cnt-sl/\ck (cnt-sl)=some z:=⟨_,rfl,ckM (by omega) (by omega)⟩;refine esr<|ro 9 9 [(0,pb cb),(1,iv t),(5,iv C),(20,pb q),(6,pb b4),(36,iv z),(38,.pointer (some ⟨cb,12,none⟩))] hF (oL 3 2 12 hS.i rfl rfl<|oS 3 hck<|A6) λa hF=>?_;refine SK.wi (qs 3 2 12 (iv z) hF hS rfl λw a hF hS=>wfn rfl ?_);refine rD 5 [(0,pb cb),(1,iv t),(5,iv C),(20,pb q),(42,.map (some m5)),(43,.agg (mosaic_Key.cells p.1).toArray)] hF (oL 98 2 11 (λ_ hd=>hS.later hd) rfl rfl<|oN 63 0 0 3 (λ_ hd=>hS.later hd) rfl<|A6) λa w hF hx=>?_;replace hS:=hS.later hx;refine SK.wi (B5e [(0,pb cb),(1,iv t),(5,iv C),(20,pb q)] 3 (t:=98) (e:=160) (tx:=63) (ty:=0) p.1 X5 hF hS rfl (B2l hI.kd hB) (by kernel_rfl) ⟨by kernel_rfl⟩ (by kernel_rfl) ⟨by kernel_rfl⟩ λw a hF hS=>WI.fin rfl (Ac<|A7 ?_));refine ⟨_,A0f (List.mem_of_getElem? hb) hns (List.eraseIdx_sublist bs n),B.eraseIdx n,bs.eraseIdx n,sn++[b],z,rfl,hI.gone hB hb hold,λp hp=>hv p (List.mem_of_mem_eraseIdx hp),by omega,by omega,hF,?_⟩;exact St.pickT (A:=[blk b4 63 (mosaic_Key.cells p.1).toArray]) [] (by decide) hS
  ·refine wpIn_skip (Ac<|A7 ?_);refine ⟨_,A0f (List.mem_of_getElem? hb) hns (List.Sublist.refl bs),B,bs,sn++[b],cnt,rfl,hI.stay hB hb hold,hv,hcnt,hle,hF.sub (by kernel_rfl),?_⟩;exact St.pickT (A:=[blk b4 63 (mosaic_Key.cells p.1).toArray]) [] (by decide) hS
end Go.Proofs.YtjfhcbjhjeklbaaGreat
