import Derived.Test.YtfkeddejdahnhaaGreatDoorQ3XD
import Derived.Test.YtfkeddejdahnhaaGreatDoorQ3WnL
import Derived.WalkKit
import Derived.WalkMore
import Derived.Deep.QuietTactic
import Derived.BigQuiet
import Derived.Laws.Externs
import Derived.Lib.BytesEntry
import Derived.Shelf.Strings.FuncGrows
set_option linter.unusedVariables false
set_option linter.unusedSimpArgs false
set_option linter.unusedSectionVars false
namespace Go.Proofs.YtfkeddejdahnhaaGreatDoor
open Go Go.RowKit Go.Eng Go.Shelf Go.Lib
set_option maxHeartbeats 4000000
set_option maxRecDepth 100000
def setS:ByteArray:=⟨#[97,98,99,100,101,102,103,104,105,106,107,108,109,110,111,112,113,114,115,116,117,118,119,120,121,122,48,49,50,51,52,53,54,55,56,57,95]⟩
theorem B2v:∀pos,pos<setS.size->(Utf8.decode setS pos).1<128:=by decide
theorem A91 (w:World):Calls Tryz.prog 118 #[.string setS,.int .i32 65533] w (λe w'=>e=.returned (.int .i64 (-1))/\Ext w w'):=by
 have hsd:=B2v;obtain ⟨s,hs⟩:∃s,setS=s:=⟨_,rfl⟩;rw [hs] at hsd ⊢
 go_enter Tryz.func118,Tryz.ntmps118
 go_wp2
 go_loopg [] s.size (λgf wx=>∃pos:Nat,wx.heap[w.heap.size]? = some (.stringIter s pos)/\Below w.heap.size w wx/\s.size<=pos+gf)
 case atStart=>exact ⟨0,World.iter_heap w s 0,(Below.refl _ w).alloc (Nat.le_refl _) _,om⟩
 case round =>
  obtain ⟨pos,hit,hbw,hfu⟩:=hrel
  by_cases hps:pos<s.size
  ·obtain ⟨g',rfl⟩:∃g',gk=g'+1:=⟨gk-1,om⟩;have hnx:∀ty,(Instr.next (.pointer (some ⟨w.heap.size,0,none⟩)) true ty).run Tryz.prog wr=_:=λty=>Lib.run_next_any_at wr w.heap.size s pos ty hit hps;have hwd:=Lib.width_pos s pos;have hlt:=hsd pos hps;obtain ⟨R,hR⟩:∃R,(Utf8.decode s pos).1=R:=⟨_,rfl⟩;obtain ⟨K,hK⟩:∃K,(Utf8.decode s pos).2=K:=⟨_,rfl⟩;rw [hR] at hlt;rw [hR,hK] at hnx;rw [hK] at hwd;have hne:((R:Int)==65533)=false:=by simp;omega
   have hit2:=Lib.iterAt_heap wr w.heap.size s pos (pos+K) hit;have hbw2:=Lib.below_iterAt hbw (k:=w.heap.size) (Nat.le_refl _) s (pos+K);obtain ⟨W,hWd⟩:∃W,wr.iterAt w.heap.size s (pos+K)=W:=⟨_,rfl⟩;rw [hWd] at hnx hit2 hbw2
   go_wp2
   go_roundg g'
   case measure=>omega
   case rel=>exact ⟨pos+K,hit2,hbw2,om⟩
  ·have hnx:∀ty,(Instr.next (.pointer (some ⟨w.heap.size,0,none⟩)) true ty).run Tryz.prog wr=_:=λty=>Lib.run_next_end_at wr w.heap.size s pos ty hit om
   go_wp2
   go_ret
   exact ⟨rfl,hbw⟩
theorem A90 (r:Int) (w:World) (h0:128<=r) (h1:r<=1114111) (h2:¬r=65533) (h3:55296<=r) (h4:r<=57343):Calls Tryz.prog 118 #[.string setS,.int .i32 r] w (λe w'=>e=.returned (.int .i64 (-1))/\Ext w w'):=by
 have a1:0<=r:=om
 have a2:¬r<128:=om
 have a3:(r==65533)=false:=by simp [h2]
 go_enter Tryz.func118,Tryz.ntmps118
 go_wp2
 go_ret
 exact ⟨rfl,Ext.refl _⟩
theorem B9s (s:ByteArray) (cv:Int) (w:World):Calls Tryz.prog 111 #[.string s,.int .u8 cv] w (λe w'=>e=.returned (.int .i64 (Lib.indexByte s.data.toList cv.toNat.toUInt8))/\w'=w):=by
 have hr:=Lib.run_indexByteString (P:=Tryz.prog) s cv w;generalize Lib.indexByte s.data.toList cv.toNat.toUInt8=R at *;have h67:Calls Tryz.prog 140 #[.string s,.int .u8 cv] w (λe w'=>e=.returned (.int .i64 R)/\w'=w):=by
  go_enter Tryz.func140,Tryz.ntmps140
  go_wp2
  rw [run_callFunc_extern Tryz.func163 (by kernel_rfl) (by kernel_rfl) (by kernel_rfl) (e:=Extern.BytealgIndexByte.indexByte) (by kernel_rfl),hr];simp only [Result.andThen];rw [Oper.upon_value]
  go_wp2
  go_ret
  exact ⟨rfl,rfl⟩
 go_enter Tryz.func111,Tryz.ntmps111
 go_wp2_with (go_at_call 140;refine h67.mono ?_;rintro e w' ⟨rfl,hw⟩;rw [hw])
 go_ret
 exact ⟨rfl,rfl⟩
theorem A7q:∀(l:List UInt8) (c:UInt8),(∀b∈l,b≠c)->Lib.indexByte l c=-1
 | [],_,_=>rfl
 | b::l,c,h=>by
  have h1:(b==c)=false:=by simp [h b sm]
  have h2:=A7q l c (λx hx=>h x (by simp [hx]));simp [Lib.indexByte,h1,h2]
theorem A5j:∀b∈setS.data.toList,b.toNat<128:=by decide
theorem B7h (i:Nat) (c:UInt8) (hc:128<=c.toNat):Lib.indexByte (setS.extract i 37).data.toList ((c.toNat:Int).toNat.toUInt8)=-1:=by
 have e:(c.toNat:Int).toNat.toUInt8=c:=by simp
 rw [e];refine A7q _ _ λb hb he=>?_;subst he;have hm:b∈setS.data.toList:=by
  rw [Lib.extract_data] at hb;exact List.mem_of_mem_drop (List.mem_of_mem_take hb)
 have:=A5j b hm;omega
theorem v64 (r:Int) (w:World) (h0:128<=r) (h1:r<=1114111) (h3:¬(55296<=r/\r<=57343)):Calls Tryz.prog 146 #[.int .i32 r] w (λe w'=>e=.returned (.bool true)/\w'=w):=by
 have a1:0<=r:=om
 by_cases h:r<55296
 ·go_enter Tryz.func146,Tryz.ntmps146
  go_wp2
  go_ret
  exact ⟨rfl,rfl⟩
 ·have a2:57343<r:=om
  go_enter Tryz.func146,Tryz.ntmps146
  go_wp2
  go_ret
  exact ⟨rfl,rfl⟩
theorem A6e (r:Int) (w:World) (h0:128<=r) (h1:r<=1114111) (h2:¬r=65533) (h3:¬(55296<=r/\r<=57343)) (E:ByteArray) (hE:Utf8.encode r=E) (k:Nat) (hk:k=1\/k=2\/k=3) (hs:E.size=k+1) (c:UInt8) (hl:E[k]? = some c) (hc:128<=c.toNat):Calls Tryz.prog 118 #[.string setS,.int .i32 r] w (λe w'=>e=.returned (.int .i64 (-1))/\Ext w w'):=by
 have hv:=v64 r w h0 h1 h3;have a1:0<=r:=om
 have a2:¬r<128:=om
 have a3:(r==65533)=false:=by simp [h2]
 have hz:setS.size=37:=rfl
 clear h1 h3
 rcases hk with rfl|rfl|rfl
 all_goals
  have hne:∀(i:Nat) (p1:i<setS.size) (p2:i<E.size),E[i]? = some c->((setS[i].toNat:Int) != (E[i].toNat:Int))=true:=λi p1 p2 hi=>by
   have e1:E[i]=c:=by rw [getElem?_pos E i p2] at hi;exact Option.some.inj hi
   have e2:=A5j setS[i] (Array.mem_toList_iff.2 (Array.getElem_mem p1));rw [e1];simp only [bne_iff_ne,ne_eq];omega
  have hne2:=λp1 p2=>hne _ p1 p2 hl;have hng:∀(i:Nat) (p:i<E.size),E[i]? = some c->Lib.indexByte (setS.extract (i+1) 37).data.toList ((E[i].toNat:Int).toNat.toUInt8)=-1:=λi p hi=>by
   have e1:E[i]=c:=by rw [getElem?_pos E i p] at hi;exact Option.some.inj hi
   rw [e1];exact B7h _ c hc
  have hng2:=λp=>hng _ p hl;simp only [Nat.reduceAdd] at hng2 hs
  clear hne hng hl
  go_enter Tryz.func118,Tryz.ntmps118
  go_wp2_with (go_at_call 146;refine hv.mono ?_;rintro e w' ⟨rfl,hw⟩;rw [hw])
  go_step3
  go_wp2
  refine wp_loop_rounds 1 ?_;rw [rounds_succ]
  go_wp2
  go_step3
  go_wp2
  go_quiet (fail)
  go_wp2
  have hb1:=below_drewNg w nq;generalize w.drewN nq=w1 at *
  go_quiet (first|(go_at_call 111;exact Calls.quiet_of_same (B9s _ _ _)))
  rw [hng2]
  go_wp2
  repeat (first|rw [Exit.noGoto_ret]|refine Ax ?_|refine Aj ?_)
  go_ret
  exact ⟨rfl,hb1.trans ((below_drewNg w1 nq).mono hb1.size)⟩
theorem B0v (r:Int) (h0:128<=r) (h1:r<=1114111) (h3:¬(55296<=r/\r<=57343)):∃k,(k=1\/k=2\/k=3)/\(Utf8.encode r).size=k+1/\∃c:UInt8,(Utf8.encode r)[k]? = some c/\128<=c.toNat:=by
 have hv:Utf8.valid r=true:=by
  unfold Utf8.valid;simp only [Bool.or_eq_true,Bool.and_eq_true,decide_eq_true_eq];omega
 have last:∀n:Nat,128<=(UInt8.ofNat (128+n%64)).toNat:=λn=>by
  rw [UInt8.toNat_ofNat'];omega
 unfold Utf8.encode;simp only [hv,if_true];obtain ⟨n,rfl⟩:∃n:Nat,r=n:=⟨r.toNat,om⟩;simp only [Int.toNat_natCast];rw [if_neg om]
 split
 ·exact ⟨1,.inl rfl,rfl,_,rfl,last n⟩
 ·split
  ·exact ⟨2,.inr (.inl rfl),rfl,_,rfl,last n⟩
  ·exact ⟨3,.inr (.inr rfl),rfl,_,rfl,last n⟩
def ixR (x:Nat):Int:=if x<128 then Lib.indexByte setS.data.toList x.toUInt8 else -1
theorem A92 (x:Nat) (w:World) (h1:x<128):Calls Tryz.prog 118 #[.string setS,.int .i32 x] w (λe w'=>e=.returned (.int .i64 (ixR x))/\Ext w w'):=by
 have a1:(0:Int)<=(x:Int):=om
 have a2:(x:Int)<128:=om
 have hw:IntKind.u8.wrap (x:Int)=(x:Int):=by
  simp [IntKind.wrap,IntKind.bits,IntKind.signed];omega
 have ci:=B9s setS (x:Int) w;have e1:(x:Int).toNat.toUInt8=x.toUInt8:=by simp
 rw [e1] at ci;have e2:ixR x=Lib.indexByte setS.data.toList x.toUInt8:=by unfold ixR;rw [if_pos h1]
 rw [←e2] at ci;generalize ixR x=R at *
 clear e1 e2
 go_enter Tryz.func118,Tryz.ntmps118
 go_wp2_with (go_at_call 111;refine ci.mono ?_;rintro e w2 ⟨rfl,hw2⟩;rw [hw2])
 go_ret
 exact ⟨rfl,Ext.refl _⟩
theorem B9t (x:Nat) (w:World) (h1:x<=1114111):Calls Tryz.prog 118 #[.string setS,.int .i32 x] w (λe w'=>e=.returned (.int .i64 (ixR x))/\Ext w w'):=by
 by_cases h:x<128
 ·exact A92 x w h
 ·have e2:ixR x=-1:=by unfold ixR;rw [if_neg h]
  rw [e2]
  by_cases h2:(x:Int)=65533
  ·rw [h2];exact A91 w
  ·by_cases h3:55296<=(x:Int)/\(x:Int)<=57343
   ·exact A90 x w om om h2 h3.1 h3.2
   ·obtain ⟨k,hk,hs,c,hl,hc⟩:=B0v x om om h3;exact A6e x w om om h2 h3 _ rfl k hk hs c hl hc
theorem B4r:∀x,x<128->(!decide (0<=Lib.indexByte setS.data.toList x.toUInt8))=nmC x:=by decide
theorem B80 (x:Nat):(!decide (0<=ixR x))=nmC x:=by
 unfold ixR
 split
 ·rename_i h;exact B4r x h
 ·rename_i h
  unfold nmC;have h1:decide (x<=122)=false:=by simp;omega
  have h2:decide (x<=57)=false:=by simp;omega
  have h3:(x==95)=false:=by simp;omega
  rw [h1,h2,h3];simp
theorem B8d (w:World):PredGrows Tryz.prog 80 #[] nmC w:=by
 intro W x hx hb;have c61:=B9t x W hx;have hn:=B80 x;generalize ixR x=R at *;have c59:Calls Tryz.prog 81 #[.string setS,.int .i32 x] W (λe w'=>e=.returned (.bool (decide (0<=R)))/\Ext W w'):=by
  go_enter Tryz.func81,Tryz.ntmps81
  go_wp2_with (go_at_call 118;refine c61.mono ?_;rintro e w2 ⟨rfl,hw2⟩)
  go_ret
  exact ⟨rfl,hw2⟩
 rw [←hn];show Calls Tryz.prog 80 #[.int .i32 x] W (λe w'=>e=.returned (.bool (!decide (0<=R)))/\Below W.heap.size W w');generalize decide (0<=R)=B at *;have hset:(⟨#[97,98,99,100,101,102,103,104,105,106,107,108,109,110,111,112,113,114,115,116,117,118,119,120,121,122,48,49,50,51,52,53,54,55,56,57,95]⟩:ByteArray)=setS:=rfl
 clear hn c61
 go_enter Tryz.func80,Tryz.ntmps80
 go_wp2_with (go_at_call 81;refine c59.mono ?_;rintro e w2 ⟨rfl,hw2⟩)
 go_ret
 exact ⟨rfl,hw2⟩
theorem Ul (p0:ByteArray) (res:Bool) (h:Nu p0=res) (μ:Frz) (w0:World) (hm:FrzAt μ w0):Calls Tryz.prog 79 #[.string p0,.func (.func 80) #[] #[]] w0 (λe w=>e=.returned (.bool res)/\Ext w0 w):=by
 subst h;exact Any.strings_ContainsFunc_grows Tryz.cf 80 #[] (enters_of Tryz.func80 (by kernel_rfl) rfl) nmC p0 w0 (B8d w0)
end Go.Proofs.YtfkeddejdahnhaaGreatDoor
