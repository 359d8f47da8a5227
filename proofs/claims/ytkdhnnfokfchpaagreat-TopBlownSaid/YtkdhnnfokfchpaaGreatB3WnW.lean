import Derived.Test.YtkdhnnfokfchpaaGreatB3XD
import Derived.Test.YtkdhnnfokfchpaaGreatB3WkM
import Derived.Shelf.Bits.Mul64
import Derived.Shelf.Spec.BitsCarry
import Derived.WalkKit
set_option linter.unusedVariables false
set_option linter.unusedSimpArgs false
set_option linter.unusedSectionVars false
namespace Go.Proofs.YtkdhnnfokfchpaaGreat
open Go Go.RowKit Go.Eng Go.Shelf Go.Lib
set_option linter.unusedVariables false
set_option maxHeartbeats 4000000
set_option maxRecDepth 100000
theorem mul64 (x y:Nat) (hx:x<18446744073709551616) (hy:y<18446744073709551616) (w:World):Calls Tryz.prog 72 #[.int .u64 x,.int .u64 y] w λe w'=>e=.returned (.tuple #[.int .u64 ((x*y/18446744073709551616:Nat):Int),.int .u64 ((x*y%18446744073709551616:Nat):Int)])/\w'=w :=
 Any.bits_Mul64 (P:=Tryz.prog) (ρ:=Tryz.mul64_ren) Tryz.mul64 x y hx hy w
theorem add64 (x y c:Nat) (hc:c<=1) (w:World):(callFunc 73 #[.int .u64 x,.int .u64 y,.int .u64 c]).run Tryz.prog w=.ok (.value (.tuple #[.int .u64 (((x+y+c)%18446744073709551616:Nat):Int),.int .u64 (((x+y+c)/18446744073709551616:Nat):Int)])) w :=
 Any7.bits_Add64 (P:=Tryz.prog) (ρ:=Tryz.add64_ren) Tryz.add64 x y c hc w
theorem sub64 (x y b:Nat) (hb:b<=1) (w:World):(callFunc 76 #[.int .u64 x,.int .u64 y,.int .u64 b]).run Tryz.prog w=.ok (.value (.tuple #[.int .u64 (((x+18446744073709551616-y-b)%18446744073709551616:Nat):Int),.int .u64 ((if x<y+b then 1 else 0:Nat):Int)])) w :=
 Any7.bits_Sub64 (P:=Tryz.prog) (ρ:=Tryz.sub64_ren) Tryz.sub64 x y b hb w
theorem A7u (x y:Nat) (hx:x<18446744073709551616) (hy:y<18446744073709551616) (h0:0<y) (w:World):Calls Tryz.prog 75 #[.int .u64 0,.int .u64 x,.int .u64 y] w λe w'=>e=.returned (.tuple #[.int .u64 ((x/y:Nat):Int),.int .u64 ((x%y:Nat):Int)])/\Ext w w':=by
 obtain ⟨hlow,hS⟩:=(Ai w).init;have h1:A6z .u64 (x:Int) (y:Int)=some ((x/y:Nat):Int):=by
  have hle:x/y<=x:=Nat.div_le_self x y;unfold A6z;rw [if_neg (by omega),Int.tdiv_eq_ediv_of_nonneg (by omega),←Int.natCast_ediv,IntKind.wrap_u64];generalize x/y=q at *
  congr 1
  omega
 have h2:Ht (x:Int) (y:Int)=some ((x%y:Nat):Int):=by
  unfold Ht;rw [if_neg (by omega),Int.tmod_eq_emod_of_nonneg (by omega),←Int.natCast_emod]
 refine feW Tryz.func75 135 [(0,.int .u64 0),(1,.int .u64 (x:Int)),(2,.int .u64 (y:Int))] hS λa w hF hS=>?_;refine qnB [] hF λa hF=>?_;refine Al<|qnB [(20,.bool ((y:Int)==0))] hF λa hF=>?_;refine Wc hF rfl (λhc=>absurd hc (by simp;omega)) λ_=>?_;refine wpIn_skip (A7 ?_);refine Al<|qnB [(24,.bool (decide ((y:Int)<=0)))] hF λa hF=>?_;refine Wc hF rfl (λhc=>absurd hc (by simp;omega)) λ_=>?_;refine wpIn_skip (A7 ?_);refine Al<|qnB [(27,.bool ((0:Int)==0))] hF λa hF=>?_;refine Wc hF rfl (λ_=>?_) λhc=>absurd hc (by decide);refine Al ?_;refine A9d (obs:=[.run [] (binOp .quo 131 (.int .u64 (x:Int)) (.int .u64 (y:Int))) (.int .u64 ((x/y:Nat):Int)),.run [] (binOp .rem 131 (.int .u64 (x:Int)) (.int .u64 (y:Int))) (.int .u64 ((x%y:Nat):Int))]) 8 [(6,.int .u64 ((x/y:Nat):Int)),(7,.int .u64 ((x%y:Nat):Int))] (by kernel_rfl) hF (by kernel_rfl) (Jz (A94 (λ_=>h1)) (Jz (A96 (λ_=>h2)) A4)) ⟨by kernel_rfl⟩ λa w hF hx=>?_;replace hS:=hS.later hx;refine WI.fin rfl (A7 ?_);exact wpIn_ret (Am<|B4 [.tmp 6,.tmp 7] [_,_] hF rfl ⟨rfl,rfl,trivial⟩ ⟨rfl,hS.ext⟩)
theorem A3g (H L X Y q r T1 T2 lo ca hi:Nat) (x y:Int) (hX:IntKind.u64.wrap x=(X:Int)) (hY:IntKind.u64.wrap y=(Y:Int)) (bX:X<18446744073709551616) (bY:Y<18446744073709551616)
  (hq:X*Y/18446744073709551616=q) (hr:X*Y%18446744073709551616=r) (h1:x<0->IntKind.u64.wrap ((q:Int)-Y)=(T1:Int)) (h1':¬x<0->T1=q) (h2:y<0->IntKind.u64.wrap ((T1:Int)-X)=(T2:Int)) (h2':¬y<0->T2=T1)
  (hlo:(L+r+0)%18446744073709551616=lo) (hca:(L+r+0)/18446744073709551616=ca) (bca:ca<=1) (hhi:(H+T2+ca)%18446744073709551616=hi) (w:World) :
  Calls Tryz.prog 43 #[.agg #[.int .u64 H,.int .u64 L],iv x,iv y] w (λe w'=>e=.returned (.agg #[.int .u64 hi,.int .u64 lo])/\Ext w w'):=by
 have e72:∀args w,(callFunc 72 args).run Tryz.prog w=.ok (.enter 72 args) w:=enters_of Tryz.func72 (by kernel_rfl) rfl;have hm:=λw=>mul64 X Y bX bY w;have a1:∀w,(callFunc 73 #[.int .u64 (L:Int),.int .u64 (r:Int),.int .u64 0]).run Tryz.prog w=.ok (.value (.tuple #[.int .u64 (lo:Int),.int .u64 (ca:Int)])) w:=λw=>by rw [←hlo,←hca];exact add64 L r 0 (by omega) w
 obtain ⟨hh,a2⟩:∃hh:Nat,∀w,(callFunc 73 #[.int .u64 (H:Int),.int .u64 (T2:Int),.int .u64 (ca:Int)]).run Tryz.prog w=.ok (.value (.tuple #[.int .u64 (hi:Int),.int .u64 (hh:Int)])) w:=⟨_,λw=>by rw [←hhi];exact add64 H T2 ca bca w⟩;rw [hq,hr] at hm
 clear hq hr hlo hca hhi bca bX bY
 by_cases c1:x<0
 ·have d1:=decide_eq_true c1;have g1:=h1 c1
  clear h1 h1'
  by_cases c2:y<0
  ·have d2:=decide_eq_true c2;have g2:=h2 c2
   clear h2 h2'
   go_enter Tryz.func43,Tryz.ntmps43
   go_wp2_with (go_at_fn 72;refine (hm _).mono ?_;rintro e w' ⟨rfl,rfl⟩)
   refine bodyPost_ret (results_cell_row rfl _ _ (w.heap.size+1) 133 #[.int .u64 (hi:Int),.int .u64 (lo:Int)] (0,0) _ ?_ (heap_alloc2_new w _ _) Tryz.underlying133 rfl (by kernel_rfl)) rfl ?_
   ·rfl
   ·exact ⟨rfl,((Below.refl _ w).alloc (Nat.le_refl _) _).alloc (Nat.le_trans (Nat.le_succ _) (Nat.le_of_eq (Array.size_push ..).symm)) _⟩
  ·obtain rfl:=h2' c2;have d2:=decide_eq_false c2
   clear h2 h2'
   go_enter Tryz.func43,Tryz.ntmps43
   go_wp2_with (go_at_fn 72;refine (hm _).mono ?_;rintro e w' ⟨rfl,rfl⟩)
   refine bodyPost_ret (results_cell_row rfl _ _ (w.heap.size+1) 133 #[.int .u64 (hi:Int),.int .u64 (lo:Int)] (0,0) _ ?_ (heap_alloc2_new w _ _) Tryz.underlying133 rfl (by kernel_rfl)) rfl ?_
   ·rfl
   ·exact ⟨rfl,((Below.refl _ w).alloc (Nat.le_refl _) _).alloc (Nat.le_trans (Nat.le_succ _) (Nat.le_of_eq (Array.size_push ..).symm)) _⟩
 ·obtain rfl:=h1' c1;have d1:=decide_eq_false c1
  clear h1 h1'
  by_cases c2:y<0
  ·have d2:=decide_eq_true c2;have g2:=h2 c2
   clear h2 h2'
   go_enter Tryz.func43,Tryz.ntmps43
   go_wp2_with (go_at_fn 72;refine (hm _).mono ?_;rintro e w' ⟨rfl,rfl⟩)
   refine bodyPost_ret (results_cell_row rfl _ _ (w.heap.size+1) 133 #[.int .u64 (hi:Int),.int .u64 (lo:Int)] (0,0) _ ?_ (heap_alloc2_new w _ _) Tryz.underlying133 rfl (by kernel_rfl)) rfl ?_
   ·rfl
   ·exact ⟨rfl,((Below.refl _ w).alloc (Nat.le_refl _) _).alloc (Nat.le_trans (Nat.le_succ _) (Nat.le_of_eq (Array.size_push ..).symm)) _⟩
  ·obtain rfl:=h2' c2;have d2:=decide_eq_false c2
   clear h2 h2'
   go_enter Tryz.func43,Tryz.ntmps43
   go_wp2_with (go_at_fn 72;refine (hm _).mono ?_;rintro e w' ⟨rfl,rfl⟩)
   refine bodyPost_ret (results_cell_row rfl _ _ (w.heap.size+1) 133 #[.int .u64 (hi:Int),.int .u64 (lo:Int)] (0,0) _ ?_ (heap_alloc2_new w _ _) Tryz.underlying133 rfl (by kernel_rfl)) rfl ?_
   ·rfl
   ·exact ⟨rfl,((Below.refl _ w).alloc (Nat.le_refl _) _).alloc (Nat.le_trans (Nat.le_succ _) (Nat.le_of_eq (Array.size_push ..).symm)) _⟩
theorem Vo (x:Int):IntKind.u64.wrap x=x%18446744073709551616:=by rw [IntKind.wrap_u64]
theorem A64 (v a b:Int) (H L X Y q r T1 T2 lo ca hi:Nat) (bH:H<18446744073709551616) (bL:L<18446744073709551616) (hv:v=(H:Int)*18446744073709551616+L) (ba:-9223372036854775808<=a/\a<9223372036854775808) (bb:-9223372036854775808<=b/\b<9223372036854775808)
  (hX:a%18446744073709551616=(X:Int)) (hY:b%18446744073709551616=(Y:Int)) (hq:X*Y/18446744073709551616=q) (hr:X*Y%18446744073709551616=r)
  (h1:a<0->((q:Int)-Y)%18446744073709551616=(T1:Int)) (h1':¬a<0->T1=q) (h2:b<0->((T1:Int)-X)%18446744073709551616=(T2:Int)) (h2':¬b<0->T2=T1)
  (hlo:(L+r+0)%18446744073709551616=lo) (hca:(L+r+0)/18446744073709551616=ca) (hhi:(H+T2+ca)%18446744073709551616=hi) :
  (hi:Int)=(v+a*b)%340282366920938463463374607431768211456/18446744073709551616/\(lo:Int)=(v+a*b)%18446744073709551616:=by
 have eX:(X:Int)=a+(if a<0 then 18446744073709551616 else 0):=by split<;>omega
 have eY:(Y:Int)=b+(if b<0 then 18446744073709551616 else 0):=by split<;>omega
 have e0:(X:Int)*(Y:Int)=(q:Int)*18446744073709551616+r:=by
  rw [←Int.natCast_mul];omega
 obtain ⟨k,hk⟩:∃k:Int,v+a*b=((H:Int)+T2+ca)*18446744073709551616+lo+k*340282366920938463463374607431768211456:=by
  have e1:(L:Int)+r=ca*18446744073709551616+lo:=by omega
  obtain ⟨p,hp⟩:∃p,a*b=p:=⟨_,rfl⟩;rw [hp,hv]
  by_cases c1:a<0
  ·rw [if_pos c1] at eX;have g1:=h1 c1
   by_cases c2:b<0
   ·rw [if_pos c2] at eY;have g2:=h2 c2;rw [eX,eY] at e0;have e2:(a+18446744073709551616)*(b+18446744073709551616)=a*b+18446744073709551616*a+18446744073709551616*b+340282366920938463463374607431768211456:=by grind
    rw [e2,hp] at e0;have f1:=Int.emod_add_mul_ediv ((q:Int)-Y) 18446744073709551616;have f2:=Int.emod_add_mul_ediv ((T1:Int)-X) 18446744073709551616;rw [g1] at f1;rw [g2] at f2;exact ⟨((q:Int)-Y)/18446744073709551616+((T1:Int)-X)/18446744073709551616+1,by omega⟩
   ·rw [if_neg c2,Int.add_zero] at eY;have g2:=h2' c2;rw [eX,eY] at e0;have e2:(a+18446744073709551616)*b=a*b+18446744073709551616*b:=by grind
    rw [e2,hp] at e0;have f1:=Int.emod_add_mul_ediv ((q:Int)-Y) 18446744073709551616;rw [g1] at f1;exact ⟨((q:Int)-Y)/18446744073709551616,by omega⟩
  ·rw [if_neg c1,Int.add_zero] at eX;have g1:=h1' c1
   by_cases c2:b<0
   ·rw [if_pos c2] at eY;have g2:=h2 c2;rw [eX,eY] at e0;have e2:a*(b+18446744073709551616)=a*b+18446744073709551616*a:=by grind
    rw [e2,hp] at e0;have f2:=Int.emod_add_mul_ediv ((T1:Int)-X) 18446744073709551616;rw [g2] at f2;exact ⟨((T1:Int)-X)/18446744073709551616,by omega⟩
   ·rw [if_neg c2,Int.add_zero] at eY;have g2:=h2' c2;rw [eX,eY,hp] at e0;exact ⟨0,by omega⟩
 generalize v+a*b=V at *;omega
theorem F8 (F:Nat) (p0:wind_big) (p1 p2:Int) (res:wind_big) (h:Dv F p0 p1 p2=some res) (μ:Frz) (w0:World) (hm:FrzAt μ w0) :
  Calls Tryz.prog 43 #[.agg #[.int .u64 p0.high,.int .u64 p0.low],iv p1,iv p2] w0 (λe w=>e=.returned (.agg #[.int .u64 res.high,.int .u64 res.low])/\Ext w0 w):=by
 unfold Dv at h
 cases hc:((okU p0.high&&okU p0.low)&&(okI p1&&okI p2)) with
 | false=>rw [hc] at h;cases h
 | true =>
  rw [hc] at h
  cases h
  simp only [okU,okI,Bool.and_eq_true,decide_eq_true_eq] at hc;obtain ⟨⟨⟨b1,b2⟩,b3,b4⟩,ba,bb⟩:=hc;obtain ⟨H,hH⟩:∃H:Nat,p0.high=H:=⟨p0.high.toNat,by omega⟩;obtain ⟨L,hL⟩:∃L:Nat,p0.low=L:=⟨p0.low.toNat,by omega⟩;obtain ⟨X,hX⟩:∃X:Nat,p1%18446744073709551616=X:=⟨(p1%18446744073709551616).toNat,by omega⟩;obtain ⟨Y,hY⟩:∃Y:Nat,p2%18446744073709551616=Y:=⟨(p2%18446744073709551616).toNat,by omega⟩;obtain ⟨q,hq⟩:∃q,X*Y/18446744073709551616=q:=⟨_,rfl⟩;obtain ⟨r,hr⟩:∃r,X*Y%18446744073709551616=r:=⟨_,rfl⟩;obtain ⟨T1,h1,h1'⟩:∃T1:Nat,(p1<0->((q:Int)-Y)%18446744073709551616=(T1:Int))/\(¬p1<0->T1=q):=by
   by_cases c:p1<0
   ·exact ⟨(((q:Int)-Y)%18446744073709551616).toNat,λ_=>by omega,λhn=>absurd c hn⟩
   ·exact ⟨q,λhn=>absurd hn c,λ_=>rfl⟩
  obtain ⟨T2,h2,h2'⟩:∃T2:Nat,(p2<0->((T1:Int)-X)%18446744073709551616=(T2:Int))/\(¬p2<0->T2=T1):=by
   by_cases c:p2<0
   ·exact ⟨(((T1:Int)-X)%18446744073709551616).toNat,λ_=>by omega,λhn=>absurd c hn⟩
   ·exact ⟨T1,λhn=>absurd hn c,λ_=>rfl⟩
  obtain ⟨e1,e2⟩:=A64 (wv p0) p1 p2 H L X Y q r T1 T2 _ _ _ (by omega) (by omega) (by unfold wv;rw [hH,hL]) ba bb hX hY hq hr h1 h1' h2 h2' rfl rfl rfl;have:=A3g H L X Y q r T1 T2 _ _ _ p1 p2 (by rw [Vo];exact hX) (by rw [Vo];exact hY) (by omega) (by omega) hq hr (λc=>by rw [Vo];exact h1 c) h1' (λc=>by rw [Vo];exact h2 c) h2' rfl rfl (by omega) rfl w0;rw [e1,e2] at this;rw [hH,hL];exact this
theorem A7x (H L:Int) (w:World):Calls Tryz.prog 74 #[.agg #[.int .u64 H,.int .u64 L]] w (λe w'=>e=.returned (.bool (H/9223372036854775808==1))/\w'=w.alloc (Obj.cells #[.int .u64 H,.int .u64 L] 133)):=by
 go_enter Tryz.func74,Tryz.ntmps74
 go_wp2
 go_ret
 exact ⟨rfl,rfl⟩
theorem A5e (L d:Nat) (bL:L<9223372036854775808) (bd:d<9223372036854775808) (h0:0<d) (w:World) :
  Calls Tryz.prog 44 #[.agg #[.int .u64 0,.int .u64 L],iv d] w (λe w'=>e=.returned (iv ((L/d:Nat):Int))/\Ext w w'):=by
 have e74:∀args w,(callFunc 74 args).run Tryz.prog w=.ok (.enter 74 args) w:=enters_of Tryz.func74 (by kernel_rfl) rfl;have e75:∀args w,(callFunc 75 args).run Tryz.prog w=.ok (.enter 75 args) w:=enters_of Tryz.func75 (by kernel_rfl) rfl;have hmn:=λw=>A7x 0 L w;have hdv:=λw=>A7u L d (by omega) (by omega) h0 w;have hw:IntKind.u64.wrap (d:Int)=d:=by rw [Vo];omega
 have hq:IntKind.i64.wrap ((L/d:Nat):Int)=((L/d:Nat):Int):=by
  have:=Nat.div_le_self L d;generalize L/d=q at *;exact Go.Eng.wrap64 ⟨by omega,by omega⟩
 generalize L/d=q at *;generalize L%d=r at *
 go_enter Tryz.func44,Tryz.ntmps44
 go_wp2_with (first|(go_at_fn 74;refine (hmn _).mono ?_;rintro e w' ⟨rfl,rfl⟩)|(go_at_fn 75;refine (hdv _).mono ?_;rintro e w' ⟨rfl,hx⟩))
 go_ret
 exact ⟨rfl,Ext.trans (((Below.refl _ w).alloc (Nat.le_refl _) _).alloc (Nat.le_trans (Nat.le_succ _) (Nat.le_of_eq (Array.size_push ..).symm)) _) hx⟩
theorem A2u (H N:Int) (L M d q r U:Nat) (hmn:∀w:World,Calls Tryz.prog 74 #[.agg #[.int .u64 H,.int .u64 L]] w (λe w'=>e=.returned (.bool true)/\w'=w.alloc (Obj.cells #[.int .u64 H,.int .u64 L] 133)))
  (hdv:∀w:World,Calls Tryz.prog 75 #[.int .u64 0,.int .u64 M,.int .u64 d] w λe w'=>e=.returned (.tuple #[.int .u64 q,.int .u64 r])/\Ext w w')
  (s1:∀w,(callFunc 76 #[.int .u64 0,.int .u64 (L:Int),.int .u64 0]).run Tryz.prog w=.ok (.value (.tuple #[.int .u64 (M:Int),.int .u64 1])) w)
  (s2:∀w,(callFunc 76 #[.int .u64 0,.int .u64 H,.int .u64 1]).run Tryz.prog w=.ok (.value (.tuple #[.int .u64 0,.int .u64 1])) w)
  (hw:IntKind.u64.wrap (d:Int)=d) (hu:decide (0<(r:Int))=true->IntKind.u64.wrap ((q:Int)+1)=(U:Int)) (hu':decide (0<(r:Int))=false->U=q) (hU:IntKind.i64.wrap (U:Int)=(U:Int)) (hN:IntKind.i64.wrap (-(U:Int))=N) (w:World) :
  Calls Tryz.prog 44 #[.agg #[.int .u64 H,.int .u64 L],iv d] w (λe w'=>e=.returned (iv N)/\Ext w w'):=by
 have e74:∀args w,(callFunc 74 args).run Tryz.prog w=.ok (.enter 74 args) w:=enters_of Tryz.func74 (by kernel_rfl) rfl;have e75:∀args w,(callFunc 75 args).run Tryz.prog w=.ok (.enter 75 args) w:=enters_of Tryz.func75 (by kernel_rfl) rfl;have fin:∀w',Ext ((w.alloc (Obj.cells #[.int .u64 H,.int .u64 L] 133)).alloc (Obj.cells #[.int .u64 H,.int .u64 L] 133)) w'->Ext w w':=λw' hx=>Ext.trans (((Below.refl _ w).alloc (Nat.le_refl _) _).alloc (Nat.le_trans (Nat.le_succ _) (Nat.le_of_eq (Array.size_push ..).symm)) _) hx
 by_cases hr:0<r
 ·have hu:=hu (decide_eq_true (by omega))
  clear hu'
  go_enter Tryz.func44,Tryz.ntmps44
  go_wp2_with (first|(go_at_fn 74;refine (hmn _).mono ?_;rintro e w' ⟨rfl,rfl⟩)|(go_at_fn 75;refine (hdv _).mono ?_;rintro e w' ⟨rfl,hx⟩))
  all_goals first|(exfalso;omega)|(go_ret;exact ⟨rfl,fin _ hx⟩)
 ·obtain rfl:=hu' (decide_eq_false (by omega))
  clear hu hu'
  go_enter Tryz.func44,Tryz.ntmps44
  go_wp2_with (first|(go_at_fn 74;refine (hmn _).mono ?_;rintro e w' ⟨rfl,rfl⟩)|(go_at_fn 75;refine (hdv _).mono ?_;rintro e w' ⟨rfl,hx⟩))
  all_goals first|(exfalso;omega)|(go_ret;exact ⟨rfl,fin _ hx⟩)
theorem A5d (H:Int) (hH:H=18446744073709551615) (M d:Nat) (b0:0<M) (bL:M<=4611686018427387904) (bd:d<9223372036854775808) (h0:0<d) (w:World) :
  Calls Tryz.prog 44 #[.agg #[.int .u64 H,.int .u64 ((18446744073709551616-M:Nat):Int)],iv d] w (λe w'=>e=.returned (iv (-((M/d+(if 0<M%d then 1 else 0):Nat):Int)))/\Ext w w'):=by
 have hle:=Nat.div_le_self M d;refine A2u H _ _ M d (M/d) (M%d) (M/d+(if 0<M%d then 1 else 0)) (λw=>?_) (λw=>A7u M d (by omega) (by omega) h0 w) (λw=>?_) (λw=>?_) (by rw [Vo];omega) (λh=>?_) (λh=>?_) ?_ ?_ w
 ·have:=A7x H (18446744073709551616-M:Nat) w;rw [show (H/9223372036854775808==1)=true by rw [hH];rfl] at this;exact this
 ·have:=sub64 0 (18446744073709551616-M) 0 (by omega) w;rw [show (0+18446744073709551616-(18446744073709551616-M)-0)%18446744073709551616=M by omega,if_pos (show 0<18446744073709551616-M+0 by omega)] at this;exact this
 ·have:=sub64 0 18446744073709551615 1 (by omega) w;rw [hH];exact this
 ·have hr:0<M%d:=by have:=of_decide_eq_true h;omega
  rw [Vo,if_pos hr];generalize M/d=q at *;omega
 ·have hr:¬0<M%d:=by have:=of_decide_eq_false h;omega
  rw [if_neg hr];rfl
 ·generalize M/d=q at *;refine Go.Eng.wrap64 ⟨?_,?_⟩<;>split<;>omega
 ·generalize M/d=q at *;refine Go.Eng.wrap64 ⟨?_,?_⟩<;>split<;>omega
theorem Pj (F:Nat) (p0:wind_big) (p1:Int) (res:Int) (h:J1 F p0 p1=some res) (μ:Frz) (w0:World) (hm:FrzAt μ w0) :
  Calls Tryz.prog 44 #[.agg #[.int .u64 p0.high,.int .u64 p0.low],iv p1] w0 (λe w=>e=.returned (iv res)/\Ext w0 w):=by
 unfold J1 at h
 cases hc:((okU p0.high&&okU p0.low)&&((decide (0<p1)&&okI p1)&&(decide (-4611686018427387904<=wsg p0)&&decide (wsg p0<=4611686018427387904)))) with
 | false=>rw [hc] at h;cases h
 | true =>
  rw [hc] at h
  cases h
  simp only [okU,okI,Bool.and_eq_true,decide_eq_true_eq] at hc;obtain ⟨⟨⟨b1,b2⟩,b3,b4⟩,⟨b5,b6,b7⟩,b8,b9⟩:=hc;obtain ⟨d,hd⟩:∃d:Nat,p1=d:=⟨p1.toNat,by omega⟩
  by_cases hs:9223372036854775808<=p0.high
  ·have e1:wsg p0=p0.high*18446744073709551616+p0.low-340282366920938463463374607431768211456:=by unfold wsg;rw [decide_eq_true hs];rfl
   rw [e1] at b8 b9 ⊢;have hH:p0.high=18446744073709551615:=by omega
   obtain ⟨M,hM⟩:∃M:Nat,p0.low=18446744073709551616-(M:Int):=⟨(18446744073709551616-p0.low).toNat,by omega⟩;have:=A5d _ rfl M d (by omega) (by omega) (by omega) (by omega) w0;rw [hH,hM,hd];have e2:((18446744073709551616-M:Nat):Int)=18446744073709551616-(M:Int):=by omega
   rw [e2] at this;have e3:(18446744073709551615*18446744073709551616+(18446744073709551616-(M:Int))-340282366920938463463374607431768211456)/(d:Int)=-((M/d+(if 0<M%d then 1 else 0):Nat):Int):=by
    rw [show 18446744073709551615*18446744073709551616+(18446744073709551616-(M:Int))-340282366920938463463374607431768211456=-(M:Int) by omega];have hdp:(0:Int)<d:=by omega
    have f1:=Nat.div_add_mod M d;have f2:=Nat.mod_lt M (show 0<d by omega);generalize M/d=q at *;generalize M%d=r at *;have f3:(M:Int)=d*q+r:=by rw [←f1];simp
    rw [f3]
    split
    ·rw [show -((d:Int)*q+r)=(d:Int)*(-(q:Int)-1)+((d:Int)-r) by rw [Int.mul_sub,Int.mul_neg,Int.mul_one];omega,Int.mul_add_ediv_left _ _ (by omega),Int.ediv_eq_zero_of_lt (by omega) (by omega)];omega
    ·rw [show r=0 by omega,show -((d:Int)*q+(0:Nat))=(d:Int)*(-(q:Int)) by rw [Int.mul_neg];omega,Int.mul_ediv_cancel_left _ (by omega)];omega
   rw [e3];exact this
  ·have e1:wsg p0=p0.high*18446744073709551616+p0.low:=by unfold wsg;rw [decide_eq_false hs];rfl
   rw [e1] at b8 b9 ⊢;have hH:p0.high=0:=by omega
   obtain ⟨L,hL⟩:∃L:Nat,p0.low=L:=⟨p0.low.toNat,by omega⟩;have:=A5e L d (by omega) (by omega) (by omega) w0;rw [hH,hL,hd,Int.zero_mul,Int.zero_add,←Int.natCast_ediv];exact this
end Go.Proofs.YtkdhnnfokfchpaaGreat
