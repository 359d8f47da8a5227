import Derived.Test.YtjfhcbjhjeklbaaGreatT3XD
import Derived.Test.YtjfhcbjhjeklbaaGreatT3WkL
import Derived.WalkKit
set_option linter.unusedVariables false
set_option linter.unusedSimpArgs false
set_option linter.unusedSectionVars false
namespace Go.Proofs.YtjfhcbjhjeklbaaGreat
open Go Go.RowKit Go.Eng Go.Sort Go.Shelf Go.Lib
set_option linter.unusedVariables false
set_option maxHeartbeats 4000000
set_option maxRecDepth 100000
theorem isN (a:Int) (W:World):Calls Tryz.prog 80 #[.int .i64 a] W λe w'=>e=.returned (.bool false)/\w'=W:=by
 go_enter Tryz.func80,Tryz.ntmps80
 go_wp2
 go_ret
 simp
theorem B77 (a:ByteArray) (W:World):Calls Tryz.prog 81 #[.string a] W λe w'=>e=.returned (.bool false)/\w'=W:=by
 go_enter Tryz.func81,Tryz.ntmps81
 go_wp2
 go_ret
 simp
theorem cI (a b:Int) (W:World):Calls Tryz.prog 52 #[.int .i64 a,.int .i64 b] W λe w'=>e=.returned (.int .i64 (if a<b then -1 else if b<a then 1 else 0))/\w'=W:=by
 have e118:∀args w,(callFunc 80 args).run Tryz.prog w=.ok (.enter 80 args) w:=enters_of Tryz.func80 (by kernel_rfl) rfl;have h:=isN
 go_enter Tryz.func52,Tryz.ntmps52
 go_wp2_with (first|(go_at_fn 80;refine (h _ _).mono ?_;rintro e w' ⟨rfl,rfl⟩))
 all_goals (go_ret;exact ⟨rfl,rfl⟩)
theorem cS (a b:ByteArray) (W:World):Calls Tryz.prog 53 #[.string a,.string b] W λe w'=>e=.returned (.int .i64 (if Wt a b then -1 else if Vy a b then 1 else 0))/\w'=W:=by
 have e119:∀args w,(callFunc 81 args).run Tryz.prog w=.ok (.enter 81 args) w:=enters_of Tryz.func81 (by kernel_rfl) rfl;have h:=B77;have hg:∀w,(binOp .gtr 9 (.string a) (.string b)).run Tryz.prog w=.ok (.bool (Vy a b)) w:=λw=>by kernel_rfl
 have hl:Wt a b=Op.bytesLess a.toList b.toList:=rfl;rw [hl];generalize Vy a b=q at *
 clear hl
 go_enter Tryz.func53,Tryz.ntmps53
 go_wp2_with (first|(go_at_fn 81;refine (h _ _).mono ?_;rintro e w' ⟨rfl,rfl⟩))
 all_goals (go_ret;first|exact ⟨rfl,rfl⟩|simp_all)
theorem cO1 (g cap:Nat) (x y z:Int) (W:World) (h0:W.cell? ⟨g,0,none⟩=some (.int .i64 x)) (hx:(x != 0)=true) :
  Calls Tryz.prog 51 #[.slice (some ⟨g,0,none⟩) 3 cap] W λe w'=>e=.returned (.int .i64 x)/\w'=W:=by
 go_enter Tryz.func51,Tryz.ntmps51
 go_wp2
 refine wp_loop_rounds 4 ?_;rw [rounds_succ]
 go_wp2
 go_ret
 exact ⟨rfl,rfl⟩
theorem cO2 (g cap:Nat) (y z:Int) (W:World) (h0:W.cell? ⟨g,0,none⟩=some (.int .i64 0)) (h1:W.cell? ⟨g,1,none⟩=some (.int .i64 y)) (hx:(y != 0)=true) :
  Calls Tryz.prog 51 #[.slice (some ⟨g,0,none⟩) 3 cap] W λe w'=>e=.returned (.int .i64 y)/\w'=W:=by
 go_enter Tryz.func51,Tryz.ntmps51
 go_wp2
 refine wp_loop_rounds 4 ?_;rw [rounds_succ]
 go_wp2
 rw [rounds_succ]
 go_wp2
 go_ret
 exact ⟨rfl,rfl⟩
theorem cO3 (g cap:Nat) (z:Int) (W:World) (h0:W.cell? ⟨g,0,none⟩=some (.int .i64 0)) (h1:W.cell? ⟨g,1,none⟩=some (.int .i64 0)) (h2:W.cell? ⟨g,2,none⟩=some (.int .i64 z)) (hx:(z != 0)=true) :
  Calls Tryz.prog 51 #[.slice (some ⟨g,0,none⟩) 3 cap] W λe w'=>e=.returned (.int .i64 z)/\w'=W:=by
 go_enter Tryz.func51,Tryz.ntmps51
 go_wp2
 refine wp_loop_rounds 4 ?_;rw [rounds_succ]
 go_wp2
 rw [rounds_succ]
 go_wp2
 rw [rounds_succ]
 go_wp2
 go_ret
 exact ⟨rfl,rfl⟩
theorem cO4 (g cap:Nat) (W:World) (h0:W.cell? ⟨g,0,none⟩=some (.int .i64 0)) (h1:W.cell? ⟨g,1,none⟩=some (.int .i64 0)) (h2:W.cell? ⟨g,2,none⟩=some (.int .i64 0)) :
  Calls Tryz.prog 51 #[.slice (some ⟨g,0,none⟩) 3 cap] W λe w'=>e=.returned (.int .i64 0)/\w'=W:=by
 go_enter Tryz.func51,Tryz.ntmps51
 go_wp2
 refine wp_loop_rounds 4 ?_;rw [rounds_succ]
 go_wp2
 rw [rounds_succ]
 go_wp2
 rw [rounds_succ]
 go_wp2
 rw [rounds_succ]
 go_wp2
 go_ret
 exact ⟨rfl,rfl⟩
theorem cO (g cap:Nat) (x y z:Int) (W:World) (h0:W.cell? ⟨g,0,none⟩=some (.int .i64 x)) (h1:W.cell? ⟨g,1,none⟩=some (.int .i64 y)) (h2:W.cell? ⟨g,2,none⟩=some (.int .i64 z)) :
  Calls Tryz.prog 51 #[.slice (some ⟨g,0,none⟩) 3 cap] W λe w'=>e=.returned (.int .i64 (or3 x y z))/\w'=W:=by
 unfold or3
 by_cases hx:x=0
 ·subst hx
  by_cases hy:y=0
  ·subst hy
   by_cases hz:z=0
   ·subst hz;exact cO4 g cap W h0 h1 h2
   ·exact cO3 g cap z W h0 h1 h2 (by simp [hz])
  ·rw [if_neg (by simp),if_pos hy];exact cO2 g cap y z W h0 h1 (by simp [hy])
 ·rw [if_pos hx];exact cO1 g cap x y z W h0 (by simp [hx])
theorem B2j {P:Program} {t:TypeId} (cs:Array Value) (w:World):∃w',(Instr.box t (.agg cs)).run P w=.ok (.pointer (some ⟨w.heap.size,0,none⟩)) w'/\w'=grow w #[.cells cs t] :=
 ⟨grow w #[.cells cs t],by simp [Instr.box,newVar,newRow,Value.cells,grow],rfl⟩
theorem B3d {P:Program} (x y z:Int) (t e:Nat) (w:World) (hb:N0 P t 3 #[(0,.int .i64 x),(1,.int .i64 y),(2,.int .i64 z)]=some (e,#[.int .i64 x,.int .i64 y,.int .i64 z])) :
  ∃w',(Instr.buildSlice t 3 #[(0,.int .i64 x),(1,.int .i64 y),(2,.int .i64 z)]).run P w=.ok (.slice (some ⟨w.heap.size,0,none⟩) 3 3) w'/\w'=grow w #[.cells #[.int .i64 x,.int .i64 y,.int .i64 z] e] :=
 ⟨_,Sx hb,by simp [grow]⟩
theorem Y2 (w:World) (os:Array Obj) (b:Nat) (cs:Array Value) (t:TypeId) (j:Nat) (v:Value) (hb:w.heap.size<=b) (h:os[b-w.heap.size]? = some (.cells cs t)) (hj:cs[j]? = some v):(grow w os).cell? ⟨b,j,none⟩=some v:=by
 unfold World.cell? grow;simp only [Array.getElem?_append,Nat.not_lt.2 hb,if_false,h]
 simpa using hj
theorem cK (x y:mosaic_Key) (W:World):Calls Tryz.prog 123 #[.agg (mosaic_Key.cells x).toArray,.agg (mosaic_Key.cells y).toArray] W λe w'=>e=.returned (.int .i64 (Jf x y))/\∃q os',w'=grow (W.drewN q) os':=by
 obtain ⟨xn,xt,xu⟩:=x;obtain ⟨yn,yt,yu⟩:=y;unfold Jf;show Calls Tryz.prog 123 #[.agg #[.string xn,iv xt,iv xu],.agg #[.string yn,iv yt,iv yu]] W _;dsimp only;have h1:=cI xu yu;have h2:=cS xn yn;have h3:=cI xt yt;generalize (if xu<yu then (-1:Int) else if yu<xu then 1 else 0)=c1 at *;generalize (if Wt xn yn=true then (-1:Int) else if Vy xn yn=true then 1 else 0)=c2 at *;generalize (if xt<yt then (-1:Int) else if yt<xt then 1 else 0)=c3 at *;refine A2d Tryz.func123 rfl 22 [(0,.agg #[.string xn,iv xt,iv xu]),(1,.agg #[.string yn,iv yt,iv yu])] rfl rfl (by kernel_rfl) λa hF=>?_;obtain ⟨W1,r1,g1⟩:=B2j (P:=Tryz.prog) (t:=63) #[.string xn,iv xt,iv xu] W;obtain ⟨W2,r2,g2⟩:=B2j (P:=Tryz.prog) (t:=63) #[.string yn,iv yt,iv yu] W1;have s1:W1.heap.size=W.heap.size+1:=by rw [g1];simp [grow]
 have G2:W2=grow W #[.cells #[.string xn,iv xt,iv xu] 63,.cells #[.string yn,iv yt,iv yu] 63]:=by rw [g2,g1,grow_grow];rfl
 refine esr<|SK.wi (Y7 (M':=[(2,pb W.heap.size),(1,.agg #[.string yn,iv yt,iv yu])]) hF (by kernel_rfl) ⟨by kernel_rfl⟩ r1 ⟨by kernel_rfl⟩ λa hF=>?_);refine SK.wi (Y7 (M':=[(3,pb W1.heap.size),(2,pb W.heap.size)]) hF (by kernel_rfl) ⟨by kernel_rfl⟩ r2 ⟨by kernel_rfl⟩ λa hF=>?_);refine rn 1 3 [(3,pb W1.heap.size),(2,pb W.heap.size)] hF λa hF=>wfn rfl ?_;have X:∀j v,(#[.string xn,iv xt,iv xu]:Array Value)[j]? = some v->({ W2 with drawn:=W2.drawn+1 }:World).cell? ⟨W.heap.size,j,none⟩=some v:=λj v hj=>by
  have:=Y2 W #[.cells #[.string xn,iv xt,iv xu] 63,.cells #[.string yn,iv yt,iv yu] 63] W.heap.size _ 63 j v (Nat.le_refl _) (by simp) hj;rw [←G2] at this;exact this
 have Y:∀j v,(#[.string yn,iv yt,iv yu]:Array Value)[j]? = some v->({ W2 with drawn:=W2.drawn+1 }:World).cell? ⟨W1.heap.size,j,none⟩=some v:=λj v hj=>by
  have:=Y2 W #[.cells #[.string xn,iv xt,iv xu] 63,.cells #[.string yn,iv yt,iv yu] 63] W1.heap.size _ 63 j v (by omega) (by rw [s1];simp) hj;rw [←G2] at this;exact this
 refine Ad<|B6k 15 [(9,iv c1),(14,iv c2),(19,iv c3)] (by kernel_rfl) hF (by kernel_rfl) (oX (.run [] (Instr.loadAt 3 (.pointer (some ⟨W.heap.size,2,none⟩))) (iv xu)) (ob1 (by kernel_rfl) λw' hd=>by rw [hd];exact X 2 _ rfl) <|
  oX (.run [] (Instr.loadAt 3 (.pointer (some ⟨W1.heap.size,2,none⟩))) (iv yu)) (ob1 (by kernel_rfl) λw' hd=>by rw [hd];exact Y 2 _ rfl) <|
  oC (λw' _=>h1 w') <|
  oX (.run [] (Instr.loadAt 9 (pb W.heap.size)) (.string xn)) (ob1 (by kernel_rfl) λw' hd=>by rw [hd];exact X 0 _ rfl) <|
  oX (.run [] (Instr.loadAt 9 (pb W1.heap.size)) (.string yn)) (ob1 (by kernel_rfl) λw' hd=>by rw [hd];exact Y 0 _ rfl) <|
  oC (λw' _=>h2 w') <|
  oX (.run [] (Instr.loadAt 3 (.pointer (some ⟨W.heap.size,1,none⟩))) (iv xt)) (ob1 (by kernel_rfl) λw' hd=>by rw [hd];exact X 1 _ rfl) <|
  oX (.run [] (Instr.loadAt 3 (.pointer (some ⟨W1.heap.size,1,none⟩))) (iv yt)) (ob1 (by kernel_rfl) λw' hd=>by rw [hd];exact Y 1 _ rfl) <|
  oC (λw' _=>h3 w')<|A6) ⟨by kernel_rfl⟩ λa hF=>?_
 obtain ⟨W3,hW3⟩:∃W3:World,W3={ W2 with drawn:=W2.drawn+1 }:=⟨_,rfl⟩;rw [←hW3];obtain ⟨W4,r4,g4⟩:=B3d (P:=Tryz.prog) c1 c2 c3 184 3 W3 (by kernel_rfl);refine SK.wi (Y7 (M':=[(20,.slice (some ⟨W3.heap.size,0,none⟩) 3 3)]) hF (by kernel_rfl) ⟨by kernel_rfl⟩ r4 ⟨by kernel_rfl⟩ λa hF=>?_);have Z:∀j v,(#[iv c1,iv c2,iv c3]:Array Value)[j]? = some v->W4.cell? ⟨W3.heap.size,j,none⟩=some v:=λj v hj=>by
  rw [g4];exact Y2 W3 _ _ _ 3 j v (Nat.le_refl _) (by simp) hj
 refine ro 2 18 [(4,iv (or3 c1 c2 c3))] hF (oC (λw' hd=>by rw [hd];exact cO W3.heap.size 3 c1 c2 c3 W4 (Z 0 _ rfl) (Z 1 _ rfl) (Z 2 _ rfl))<|A6) λa hF=>wfn rfl ?_;refine wpIn_ret (Bz [.tmp 4] [_] hF rfl ⟨rfl,trivial⟩ ⟨rfl,1,#[.cells #[.string xn,iv xt,iv xu] 63,.cells #[.string yn,iv yt,iv yu] 63,.cells #[iv c1,iv c2,iv c3] 3],?_⟩);rw [g4,hW3,G2];simp [grow,World.drewN];exact ⟨rfl,rfl,rfl⟩
end Go.Proofs.YtjfhcbjhjeklbaaGreat
