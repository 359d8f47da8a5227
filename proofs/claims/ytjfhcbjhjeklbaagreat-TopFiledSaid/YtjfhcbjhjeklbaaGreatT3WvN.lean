import Derived.Test.YtjfhcbjhjeklbaaGreatT3WvM
import Derived.Shelf.SlSortCmp.NoneTotal
set_option linter.unusedVariables false
set_option linter.unusedSimpArgs false
set_option linter.unusedSectionVars false
namespace Go.Proofs.YtjfhcbjhjeklbaaGreat
open Go Go.RowKit Go.Eng Go.Sort Go.Shelf Go.Lib
set_option linter.unusedVariables false
set_option maxHeartbeats 4000000
set_option maxRecDepth 100000
variable {μ:Frz}
def enC (x y:EnA μ):Int:=Dk x.val.2 y.val.2
theorem A5e:SWO (ltOf (enC (μ:=μ))):=⟨λx=>enSWO.irrefl _,λx y z=>enSWO.trans _ _ _,λx y z=>enSWO.ntrans _ _ _⟩
theorem A29 (x:EnA μ):∀v∈Gm x,v.oneCell'=true:=by
 obtain ⟨ad,cap,e,_⟩:=Nl x;rw [e];intro v hv;simp at hv;rcases hv with rfl|rfl<;>rfl
theorem B4o (blk cap:Nat) (d:Array (EnA μ)) (w:World) (hH:HoldsK Gm 2 w blk 0 d) (hblk:blk<w.heap.size) (hsz:d.size<4611686018427387904) (hm:∀m os (dk:Array (EnA μ)),dk.size=d.size->FrzAt μ (sortWorldK Gm 2 w blk 0 m dk os)) :
  Calls Tryz.prog 22 #[.slice (some ⟨blk,0,none⟩) d.size cap,.func (.func 23) #[] #[]] w λe w' =>
   e=.returned (.tuple #[])/\∃n os,w'=sortWorldK Gm 2 w blk 0 n (pdq (ltOf enC) d 0 d.size (Lib.bitLen d.size) true true) os:=by
 have eg:∀args w,(callFunc 23 args).run Tryz.prog w=.ok (.enter 23 args) w:=enters_of Tryz.func23 (by kernel_rfl) rfl;have hlim:Lib.bitLen d.size<4611686018427387904:=Nat.lt_of_le_of_lt (Lib.bitLen_le d.size 62 (by omega) (by omega)) (by omega);have hp:=AnyQ.pdqsortCmpFunc_all (P:=Tryz.prog) (ρ:=Tryz.pdqSe_ren) Tryz.pdqSe 2 Tryz.isAgg86 Tryz.sizeOf86 Gm enC 23 #[] A5e blk 0 cap d w eg (λm os dk hdk x y=>B5b x y _ (hm m os dk hdk)) ⟨Li,A29,hH,hblk⟩ (d.size+1) 0 d.size (Lib.bitLen d.size) d w (by omega) rfl (SWK.start hH) (Nat.zero_le _) (Nat.le_refl _) hsz hlim (Or.inl rfl)
 change Calls Tryz.prog 57 _ _ _ at hp
 have hl:Calls Tryz.prog 58 #[.int .u64 (d.size:Int)] w λe w'=>e=.returned (.int .i64 (Lib.bitLen d.size:Nat))/\w'=w:=by
  have h:=Any.bits_Len (SlLaysF0.n15.bits (P:=Tryz.prog) (ρ:=Tryz.pdqSe_ren) { Tryz.pdqSe with }) (d.size:Int) w (by omega) (by omega)
  rwa [Int.toNat_natCast] at h
 have wr:IntKind.u64.wrap (d.size:Int)=d.size:=by simp [IntKind.wrap,IntKind.bits,IntKind.signed];omega
 clear hH hm
 go_enter Tryz.func22,Tryz.ntmps22
 go_wp2_with (first|(go_at_call 58;refine hl.mono ?_;rintro e w' ⟨rfl,rfl⟩)|(go_at_call 57;refine hp.mono ?_;rintro e w' ⟨rfl,n,os,rfl⟩))
 go_end0
 exact ⟨rfl,n,os,rfl⟩
theorem A3f (cap:Nat) (w:World):Calls Tryz.prog 22 #[.slice none 0 cap,.func (.func 23) #[] #[]] w λe w'=>e=.returned (.tuple #[])/\w'=w:=by
 have hp:=λlim=>AnyF.pdqsortCmpFunc_none (P:=Tryz.prog) (ρ:=Tryz.pdqSe_ren) Tryz.pdqSe none cap lim (.func (.func 23) #[] #[]) w
 change ∀lim,Calls Tryz.prog 57 _ _ _ at hp
 have hl:Calls Tryz.prog 58 #[.int .u64 0] w λe w'=>e=.returned (.int .i64 (Lib.bitLen 0:Nat))/\w'=w:=by
  have h:=Any.bits_Len (SlLaysF0.n15.bits (P:=Tryz.prog) (ρ:=Tryz.pdqSe_ren) { Tryz.pdqSe with }) 0 w (by omega) (by omega);exact h
 have wr:IntKind.u64.wrap 0=0:=rfl
 go_enter Tryz.func22,Tryz.ntmps22
 go_wp2_with (first|(go_at_call 58;refine hl.mono ?_;rintro e w' ⟨rfl,rfl⟩)|(go_at_call 57;refine (hp _).mono ?_;rintro e w' ⟨rfl,rfl⟩))
 go_end0
 exact ⟨rfl,rfl⟩
def eqE (x y:EnA μ):Bool:=sEq (bst x.val.2.block) (bst y.val.2.block)
section
variable {α:Type} [Inhabited α] {enc:α->List Value} {k:Nat} {w0 W:World} {blk off:Nat} {dk:Array α}
theorem A3c (hk:∀x,(enc x).length=k) (d:Array α) (i:Nat) (hi:i<d.size) (x:α):setMany (flatK enc k d) (i*k) (enc x)=flatK enc k (d.setIfInBounds i x):=by
 refine ext_get! (by simp) λt ht=>?_;have ht':t<d.size*k:=by simpa using ht
 have k0:0<k:=by
   rcases Nat.eq_zero_or_pos k with h|h;· subst h;simp at ht'
   ·exact h
 rw [get_setMany _ _ _ t (by simpa using ht'),get_flatK _ _ _ t ht',get_flatK _ _ _ t (by simpa using ht'),hk]
 by_cases a:t/k=i
 ·rw [if_pos ((blk_iff k i t k0).2 a),a,getElem!_set_same d i _ hi];subst a;rw [Nat.mod_eq_sub_div_mul]
 ·rw [if_neg (λh=>a ((blk_iff k i t k0).1 h)),getElem!_set_other d i _ _ a]
theorem W0 (b:Nat):∀(vs us:List Value) (o:Nat) (w:World),w.setCells b o (vs++us)=(w.setCells b o vs).setCells b (o+vs.length) us
 | [],_,_,_=>rfl
 | v::r,us,o,w=>by
  show (w.setCell ⟨b,o,none⟩ v).setCells b (o+1) (r++us)=_;rw [W0 b r us (o+1)];show _=((w.setCell ⟨b,o,none⟩ v).setCells b (o+1) r).setCells b (o+(r.length+1)) us;rw [show o+1+r.length=o+(r.length+1) by omega]
theorem A51 (h:SWK enc k w0 blk off dk W) (hk:∀x,(enc x).length=k) (hblk:blk<w0.heap.size) (i:Nat) (hi:i<dk.size) (x:α):SWK enc k w0 blk off (dk.setIfInBounds i x) (W.setCells blk (off+i*k) (enc x)):=by
 obtain ⟨n,os,rfl⟩:=h;refine ⟨n,os,?_⟩;unfold sortWorldK;rw [setCells_grow os blk _ _ _ (by rw [size_putRowK];exact hblk)]
 congr 1
 unfold putRowK;rw [setCells_putRow _ _ _ _ _ _ (by rw [hk,size_flatK];exact rowK_bnd dk k i hi),A3c hk dk i hi x]
theorem A50 (hk:∀x,(enc x).length=k) (hblk:blk<w0.heap.size):∀(xs:List α) (i:Nat) (dk:Array α) (W:World),SWK enc k w0 blk off dk W->i+xs.length<=dk.size->SWK enc k w0 blk off (lay dk i xs) (W.setCells blk (off+i*k) (xs.flatMap enc))
 | [],_,_,_,h,_=>h
 | x::r,i,dk,W,h,hl=>by
  simp only [List.length_cons] at hl;rw [List.flatMap_cons,W0,hk x,show off+i*k+k=off+(i+1)*k by rw [Nat.add_mul];omega];exact A50 hk hblk r (i+1) _ _ (A51 h hk hblk i (by omega) x) (by simp;omega)
end
theorem B0c (a b:Value):∀n,(Builtin.zeroCells #[a,b] n).toList=(List.replicate n ()).flatMap λ_=>[a,b]
 | 0=>by simp [Builtin.zeroCells]
 | n+1=>by
  have ih:=B0c a b n;simp only [Builtin.zeroCells,Array.toList_map,Array.toList_range] at ih ⊢;simp only [List.size_toArray,List.length_cons,List.length_nil] at ih ⊢;rw [show (n+1)*(0+1+1)=n*(0+1+1)+1+1 by omega,List.range_succ,List.range_succ,List.map_append,List.map_append,ih,List.replicate_succ',List.flatMap_append];simp only [List.map_cons,List.map_nil,List.flatMap_cons,List.flatMap_nil,List.append_assoc]
  congr 1
  have e1:n*(0+1+1)%(0+1+1)=0:=by omega
  have e2:(n*(0+1+1)+1)%(0+1+1)=1:=by omega
  rw [e1,e2];rfl
theorem A84 (w:World) (ty:TypeId) (b o n c:Nat) (hn:0<n) (hc:∀j,j<n*2->(w.cell? ⟨b,o+j,none⟩).isSome=true) (hf:∀j,j<n*2->w.frozen? ⟨b,o+j,none⟩=false) :
  (Builtin.clear_ #[78] ty #[.slice (some ⟨b,o,none⟩) n c]).run Tryz.prog w=.ok (.tuple #[]) (w.setCells b o ((List.replicate n (default:EnA μ)).flatMap Gm)):=by
 have hz:(List.replicate n (default:EnA μ)).flatMap Gm=(List.replicate n ()).flatMap λ_=>[Value.int .i64 0,Value.slice none 0 0]:=by
  induction n with
  | zero=>rfl
  | succ m ih =>
   rcases Nat.eq_zero_or_pos m with h0|h0
   ·subst h0;rfl
   ·rw [List.replicate_succ,List.replicate_succ,List.flatMap_cons,List.flatMap_cons,ih h0 (λj hj=>hc j (by omega)) (λj hj=>hf j (by omega))];rfl
 have hlen:((List.replicate n ()).flatMap λ_=>[Value.int .i64 0,Value.slice none 0 0]).length=n*2:=by
  clear hz hc hf hn
  induction n with
  | zero=>rfl
  | succ m ih=>rw [List.replicate_succ,List.flatMap_cons,List.length_append,ih];simp;omega
 have h1:∀v∈((List.replicate n ()).flatMap λ_=>[Value.int .i64 0,Value.slice none 0 0]),v.oneCell'=true:=by
  intro v hv;obtain ⟨_,_,hv⟩:=List.mem_flatMap.1 hv;simp at hv;rcases hv with rfl|rfl<;>rfl
 have hst:=run_storeCells_cells (P:=Tryz.prog) b o _ 0 w (by rw [hlen];simpa using hc) (by rw [hlen];simpa using hf) h1;simp only [Nat.add_zero] at hst;have hv:∀w,(zeroValue 86).run Tryz.prog w=.ok (.agg #[.int .i64 0,.slice none 0 0]) w:=Tryz.zeroValue86;rw [hz];rw [←B0c] at hst ⊢;obtain ⟨m,rfl⟩:∃m,n=m+1:=⟨n-1,by omega⟩;simp [Builtin.clear_,run_underlying Tryz.underlying78,hv,Value.cells,hst]
theorem A7m {w W:World} {blk off:Nat} {d dk:Array (EnA μ)} (h:SWK Gm 2 w blk off dk W) (R:RowK Gm 2 w blk off d) (hs:dk.size=d.size) (i:Nat) (hi:i<dk.size) {c0 c1:Value} (e:Gm dk[i]! = [c0,c1]) :
  (W.cell? ⟨blk,off+i*2,none⟩=some c0/\W.cell? ⟨blk,off+i*2+1,none⟩=some c1)/\W.frozen? ⟨blk,off+i*2,none⟩=false/\W.frozen? ⟨blk,off+i*2+1,none⟩=false:=by
 have hh:=h.holds R.hblk R.hH hs;have a:=hh.cell hi (show 0<2 by omega);have b:=hh.cell hi (show 1<2 by omega);rw [e] at a b;exact ⟨⟨a.1,b.1⟩,a.2,b.2⟩
def kpE (d:Array (EnA μ)) (j:Nat):Bool:=decide (j=0)||!eqE d[j]! d[j-1]!
theorem A6c (blk off cap:Nat) (d:Array (EnA μ)) (w:World) (hH:HoldsK Gm 2 w blk off d) (hblk:blk<w.heap.size) (hsz:d.size<4611686018427387904) (hcap:d.size<=cap) (hm:∀m os (dk:Array (EnA μ)),dk.size=d.size->FrzAt μ (sortWorldK Gm 2 w blk off m dk os)) :
  Calls Tryz.prog 25 #[.slice (some ⟨blk,off,none⟩) d.size cap,.func (.func 26) #[] #[]] w λe w' =>
   e=.returned (.slice (some ⟨blk,off,none⟩) (keptUpTo (kpE d) d d.size).length cap)/\∃dk:Array (EnA μ),SWK Gm 2 w blk off dk w'/\dk.toList=keptUpTo (kpE d) d d.size++List.replicate (d.size-(keptUpTo (kpE d) d d.size).length) default:=by
 have mixed:Tryz.prog.follows .mixedOrders=true:=by kernel_rfl
 have R:RowK Gm 2 w blk off d:=⟨Li,A29,hH,hblk⟩;have same:(∀j,j<d.size->kpE d j=true)->keptUpTo (kpE d) d d.size=d.toList:=λhall=>by rw [keptUpTo_all _ d _ hall,range_map_get]
 have k1:∀j,j<1->kpE d j=true:=λj hj=>by
  obtain rfl:j=0:=by omega
  rfl
 by_cases h2:d.size<2
 ·have e:=same (λj hj=>k1 j (by omega));have h0:=SWK.start hH
  clear hH same k1 R
  have hlen:(keptUpTo (kpE d) d d.size).length=d.size:=by rw [e];simp
  rw [hlen,e]
  clear hlen e
  go_enter Tryz.func25,Tryz.ntmps25
  go_wp2
  go_ret
  exact ⟨rfl,d,h0,by simp⟩
 ·have HH:Aside (HoldsK Gm 2 w blk off d):=hH;have S:Aside ((∀j,j<d.size->kpE d j=true)->keptUpTo (kpE d) d d.size=d.toList):=same;have HM:Aside (∀m os (dk:Array (EnA μ)),dk.size=d.size->FrzAt μ (sortWorldK Gm 2 w blk off m dk os)):=hm;have RR:Aside (RowK Gm 2 w blk off d):=R
  clear hH same hm R
  go_enter Tryz.func25,Tryz.ntmps25
  go_wp2
  go_loopg [5] d.size (λg s5 wr=>∃k:Nat,1<=k/\k<=d.size/\d.size-k<=g/\s5=.int .i64 k/\Hid (SWK Gm 2 w blk off d wr)/\∀j,j<k->kpE d j=true)
  case atStart=>exact ⟨1,Nat.le_refl _,by omega,by omega,rfl,SWK.start HH.out,k1⟩
  case round =>
   obtain ⟨k,hk1,hk,hg,rfl,hW,hall⟩:=hrel
   by_cases hlt:k<d.size
   ·have A:Aside (∀j,j<k->kpE d j=true):=hall
    clear hall k1
    obtain ⟨kp,rfl⟩:∃kp,k=kp+1:=⟨k-1,by omega⟩;obtain ⟨xk,hxk⟩:∃x,d[kp+1]! = x:=⟨_,rfl⟩;obtain ⟨xp,hxp⟩:∃x,d[kp]! = x:=⟨_,rfl⟩;have hwp:IntKind.i64.wrap (kp:Int)=(kp:Int):=by rw [IntKind.wrap_i64];omega
    have hwp2:IntKind.i64.wrap ((kp:Int)+1-1)=(kp:Int):=by rw [IntKind.wrap_i64];omega
    have jz:(kp:Int)+1<(d.size:Int):=by omega
    have jz1:(kp:Int)<(d.size:Int):=by omega
    have p0:(0:Int)<=(kp:Int)+1:=by omega
    have e0:((kp:Int)+1).toNat=kp+1:=by omega
    obtain ⟨ak,ck,ek,_⟩:=Nl xk;obtain ⟨ap,cp,ep,_⟩:=Nl xp;have lj:=λn' os'=>(A7m (hW.out.grown n' os') RR.out rfl _ hlt (by rw [hxk];exact ek)).1;have lp:=λn' os'=>(A7m (hW.out.grown n' os') RR.out rfl kp (by omega) (by rw [hxp];exact ep)).1;have hcg:∀n' os',Calls Tryz.prog 26 #[.agg (Gm xk).toArray,.agg (Gm xp).toArray] (grow (wr.drewN n') os') λe w'=>e=.returned (.bool (eqE xk xp))/\∃q os'',w'=grow ((grow (wr.drewN n') os').drewN q) os'':=λn' os'=>by
     obtain ⟨m,os0,hw⟩:=hW.out.grown n' os';rw [hw];exact B5h xk xp _ (HM.out m os0 d rfl)
    rw [ek,ep] at hcg;have lj0:=λn' os'=>(lj n' os').1;have lj1:=λn' os'=>(lj n' os').2;have lp0:=λn' os'=>(lp n' os').1;have lp1:=λn' os'=>(lp n' os').2
    clear lj lp ek ep
    by_cases hev:eqE xk xp=true
    ·rw [hev] at hcg
     go_wp2_with fail
     go_quiet_grown (first|(refine Calls.grown_of (hcg _ _)))
     clear lj0 lj1 lp0 lp1 hcg
     go_wp2_with fail
     have hdup:kpE d (kp+1)=false:=by
      unfold kpE;rw [show kp+1-1=kp from rfl,hxk,hxp,hev];simp
     have HD:Aside (kpE d (kp+1)=false):=hdup
     clear hdup hwp hwp2 jz jz1 p0 e0
     go_loopg [5,7] d.size (λg s5 s7 wr2=>∃(kk q:Nat) (dk:Array (EnA μ)),s5=.int .i64 kk/\s7=.int .i64 ((q:Int)+1)/\kp+1+(q+1)<=d.size/\d.size-(kp+1+(q+1))<=g/\Hid (SWK Gm 2 w blk off dk wr2)/\Hid (KeptInv (kpE d) d (kp+1+(q+1)) kk dk))
     case atStart=>exact ⟨kp+1,0,d,by go_num,by go_num,by omega,by omega,hW.out.grown nq osq,KeptInv.start A.out HD.out⟩
     case round =>
      obtain ⟨kk,q,dk,rfl,rfl,hle,hg2,hW2,hI⟩:=hrel;have hkk:=hI.out.lt;have hds:=hI.out.size;have hwq:IntKind.i64.wrap (q:Int)=(q:Int):=by rw [IntKind.wrap_i64];omega
      have hwq2:IntKind.i64.wrap ((q:Int)+1-1)=(q:Int):=by rw [IntKind.wrap_i64];omega
      have p0:(0:Int)<=(q:Int)+1:=by omega
      have e0:((q:Int)+1).toNat=q+1:=by omega
      by_cases hlt2:kp+1+(q+1)<d.size
      ·obtain ⟨xu,hxu⟩:∃x,d[kp+1+(q+1)]! = x:=⟨_,rfl⟩;obtain ⟨xv,hxv⟩:∃x,d[kp+1+q]! = x:=⟨_,rfl⟩;obtain ⟨au,cu,eu,_⟩:=Nl xu;obtain ⟨av,cv,ev,_⟩:=Nl xv;have jz:(q:Int)+1<((d.size-(kp+1):Nat):Int):=by omega
       have jz1:(q:Int)<((d.size-(kp+1):Nat):Int):=by omega
       have L:∀{W:World},SWK Gm 2 w blk off dk W->(W.cell? ⟨blk,off+(kp+1)*2+(q+1)*2,none⟩=some (.int .i64 xu.val.2.time)/\W.cell? ⟨blk,off+(kp+1)*2+(q+1)*2+1,none⟩=some (.slice au xu.val.2.block.length cu))/\(W.cell? ⟨blk,off+(kp+1)*2+q*2,none⟩=some (.int .i64 xv.val.2.time)/\W.cell? ⟨blk,off+(kp+1)*2+q*2+1,none⟩=some (.slice av xv.val.2.block.length cv)):=λ{W} hw=>by
        have a:=(A7m hw RR.out hds (kp+1+(q+1)) (by omega) (by rw [hI.out.high _ (by omega),hxu];exact eu)).1;have b:=(A7m hw RR.out hds (kp+1+q) (by omega) (by rw [hI.out.high _ (by omega),hxv];exact ev)).1;rw [show off+(kp+1+(q+1))*2=off+(kp+1)*2+(q+1)*2 by omega] at a;rw [show off+(kp+1+q)*2=off+(kp+1)*2+q*2 by omega] at b;exact ⟨a,b⟩
       have hcg:∀n' os',Calls Tryz.prog 26 #[.agg (Gm xu).toArray,.agg (Gm xv).toArray] (grow (wr.drewN n') os') λe w'=>e=.returned (.bool (eqE xu xv))/\∃q os'',w'=grow ((grow (wr.drewN n') os').drewN q) os'':=λn' os'=>by
        obtain ⟨m,os0,hw⟩:=hW2.out.grown n' os';rw [hw];exact B5h xu xv _ (HM.out m os0 dk hds)
       rw [eu,ev] at hcg;have lu0:=λn' os'=>(L (hW2.out.grown n' os')).1.1;have lu1:=λn' os'=>(L (hW2.out.grown n' os')).1.2;have lv0:=λn' os'=>(L (hW2.out.grown n' os')).2.1;have lv1:=λn' os'=>(L (hW2.out.grown n' os')).2.2;have EU:Aside (Gm xu=[.int .i64 xu.val.2.time,.slice au xu.val.2.block.length cu]):=eu
       clear L eu ev
       by_cases hev2:eqE xu xv=true
       ·rw [hev2] at hcg
        go_wp2_with fail
        go_quiet_grown (first|(refine Calls.grown_of (hcg _ _)))
        clear lu0 lu1 lv0 lv1 hcg
        go_wp2_with fail
        go_roundg (d.size-(kp+1+(q+1+1)))
        case measure=>omega
        case rel=>exact ⟨kk,q+1,dk,rfl,by go_num,by omega,Nat.le_refl _,hW2.out.grown _ _,hI.out.skip (by unfold kpE;rw [show kp+1+(q+1)-1=kp+1+q from rfl,hxu,hxv,hev2];simp)⟩
       ·have hev3:eqE xu xv=false:=by simpa using hev2
        rw [hev3] at hcg
        go_wp2_with fail
        go_quiet_grown (first|(refine Calls.grown_of (hcg _ _)))
        have hW3:Hid (SWK Gm 2 w blk off dk (grow (wr.drewN nq) osq)):=hW2.out.grown nq osq;have s0:=lu0 nq osq;have s1:=lu1 nq osq
        clear lu0 lu1 lv0 lv1 hcg
        generalize grow (wr.drewN nq) osq=W3 at *;obtain ⟨ao,co,eo,_⟩:=Nl dk[kk]!;obtain ⟨⟨t0,t1⟩,f0,f1⟩:=A7m hW3.out RR.out hds kk (by omega) eo
        clear eo
        have hkz:(kk:Int)<(d.size:Int):=by omega
        go_wp2_with fail
        go_roundg (d.size-(kp+1+(q+1+1)))
        case measure=>omega
        case rel =>
         refine ⟨kk+1,q+1,dk.setIfInBounds kk xu,by go_num,by go_num,by omega,Nat.le_refl _,?_,?_⟩
         ·have:=A51 hW3.out Li hblk kk (by omega) xu;rw [EU.out] at this;exact this
         ·have:=hI.out.keep hlt2 (by unfold kpE;rw [show kp+1+(q+1)-1=kp+1+q from rfl,hxu,hxv,hev3];simp);rw [hxu] at this;exact this
      ·have hend:kp+1+(q+1)=d.size:=by omega
       have hh:=hW2.out.holds hblk HH.out hds;have hcl:∀ty,(Builtin.clear_ #[78] ty #[.slice (some ⟨blk,off+kk*2,none⟩) (d.size-kk) (cap-kk)]).run Tryz.prog wr=.ok (.tuple #[]) (wr.setCells blk (off+kk*2) ((List.replicate (d.size-kk) (default:EnA μ)).flatMap Gm)):=λty =>
        A84 wr ty blk (off+kk*2) (d.size-kk) (cap-kk) (by omega) (λj hj=>by rw [show off+kk*2+j=off+(kk*2+j) by omega,(hh (kk*2+j) (by rw [size_flatK];omega)).1];rfl) (λj hj=>by rw [show off+kk*2+j=off+(kk*2+j) by omega];exact (hh (kk*2+j) (by rw [size_flatK];omega)).2)
       clear hh
       have hkz:(kk:Int)<(d.size:Int):=by omega
       have hqz:¬(q:Int)+1<((d.size-(kp+1):Nat):Int):=by omega
       generalize hZ:(List.replicate (d.size-kk) (default:EnA μ)).flatMap Gm=Z at hcl;have HZ:Aside ((List.replicate (d.size-kk) (default:EnA μ)).flatMap Gm=Z):=hZ
       clear hZ
       go_wp2
       go_ret
       have hI:=hI.out;rw [hend] at hI;rw [hI.len];refine ⟨rfl,lay dk kk (List.replicate (d.size-kk) default),?_,?_⟩
       ·rw [←HZ.out];exact A50 Li hblk _ kk dk wr hW2.out (by simp;omega)
       ·rw [hI.done]
    ·have hev3:eqE xk xp=false:=by simpa using hev
     rw [hev3] at hcg
     go_wp2_with fail
     go_quiet_grown (first|(refine Calls.grown_of (hcg _ _)))
     clear lj0 lj1 lp0 lp1 hcg
     go_wp2
     go_roundg (d.size-(kp+1+1))
     case measure=>omega
     case rel =>
      refine ⟨kp+1+1,by omega,by omega,Nat.le_refl _,by go_num,hW.out.grown _ _,λj hj=>?_⟩
      by_cases e:j=kp+1
      ·subst e;unfold kpE;rw [show kp+1-1=kp from rfl,hxk,hxp,hev3];simp
      ·exact A.out j (by omega)
   ·have hkd:k=d.size:=by omega
    subst hkd;have e:=S.out hall
    clear hall k1
    go_wp2
    go_ret
    rw [e];exact ⟨by rw [Array.length_toList];rfl,d,hW.out,by simp⟩
end Go.Proofs.YtjfhcbjhjeklbaaGreat
