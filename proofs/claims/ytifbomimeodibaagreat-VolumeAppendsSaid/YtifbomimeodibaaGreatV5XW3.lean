import Derived.Test.YtifbomimeodibaaGreatV5XD
import Derived.Test.YtifbomimeodibaaGreatProg
import Derived.Test.YtifbomimeodibaaGreatV5XW1
namespace Go.Proofs.YtifbomimeodibaaGreat
open Go Go.RowKit Go.Eng
set_option maxRecDepth 10000
set_option maxHeartbeats 4000000
set_option linter.unusedVariables false
set_option linter.unusedSimpArgs false
theorem W6 (F:Nat) (p0:(List Int)) (res:Bool) (h:Nv F p0=some res) (μ:Frz) (w0:World) (hm:FrzAt μ w0) {ad1:Option Addr} {cap2:Nat} (hA3:ArrM μ 1 (fK .u8) ad1 cap2 p0):Calls Tryz.prog 40 #[sv ad1 p0 cap2] w0 (fun e w=>e=.returned (.bool res)∧Ext w0 w):=by
 obtain ⟨hlow,hS⟩:=hm.init
 have hext:=Frz.ext_refl w0.heap.size μ
 rw [Nv] at h
 refine feW Tryz.func40 51 [(0,sv ad1 p0 cap2)] hS fun a w hF hS=>?_
 refine qnB [] hF fun a hF=>?_
 refine qnB [(3,.bool true)] hF fun a hF=>?_
 refine Dx (fun a w=>∃(a5:Bool),Fr 51 [] [(0,sv ad1 p0 cap2),(3,.bool a5)] a∧St w0 [fz w0 μ] w∧Kk F p0 a5=some res) ?_ ?_
 ·skip
  refine qnB [(4,iv 0)] hF fun a hF=>?_
  refine wpIn_block<|Ck (fun n_ a w=>∃(a2:Bool) (a0:Int),Fr 51 [] [(0,sv ad1 p0 cap2),(3,.bool a2),(4,iv a0)] a∧St w0 [fz w0 μ] w∧Jl F p0 n_ a2 a0=some res) F ⟨true,0,hF.sub kr,St.pick [0] (by decide) hS,h⟩ ?_
  rintro nk2 a w ⟨a2,a0,hF,hS,h⟩
  rcases nk2 with _|nk2
  ·cases (show (none:Option Bool)=some res from h)
  obtain ⟨k2,hk2⟩:∃k,k=Jl F p0 nk2:=⟨_,rfl⟩
  replace h:Md F p0 k2 a2 a0=some res:=by rw [hk2];exact h
  rw [Md] at h
  refine Am<|qnB [(10,.bool (decide (a0<(ln p0))))] hF fun a hF=>?_
  refine A8 hF h (fun hc h=>?_) fun hc h=>?_
  ·refine wK<|Am<|wpIn_block<|WI.region ?_
   obtain ⟨a4,a9,h⟩:=A0 h
   obtain ⟨a8,aA,h⟩:=A0 h
   refine ro 16 16 [(0,sv ad1 p0 cap2),(3,.bool (bif (bif a2 then (decide (a4≥128)) else false) then (decide (a8≤254)) else false)),(4,iv a0)] hF (oX (.run [⟨14,true,a2⟩] (Instr.indexAt 22 (sv ad1 p0 cap2) (iv a0)) (.pointer (some (Bl ad1 a0 1)))) (J0 (hA3 _ (hS.frz (i:=0) rfl hlow)) kr (fun hk=>Bt a9 hk))<|oX (.run [⟨14,true,a2⟩] (Instr.loadAt 5 (.pointer (some (Bl ad1 a0 1)))) (.int .u8 a4)) (Pf (i:=a0) 0 (B8 .u8) (fun _ hd=>(hA3 _ ((hS.at_ hd).frz (i:=0) rfl hlow))) kr (fun hk=>Bt a9 hk) rfl)<|oX (.run [⟨21,true,(bif a2 then (decide (a4≥128)) else false)⟩] (Instr.indexAt 22 (sv ad1 p0 cap2) (iv a0)) (.pointer (some (Bl ad1 a0 1)))) (J0 (hA3 _ (hS.frz (i:=0) rfl hlow)) kr (fun hk=>Bt aA hk))<|oX (.run [⟨21,true,(bif a2 then (decide (a4≥128)) else false)⟩] (Instr.loadAt 5 (.pointer (some (Bl ad1 a0 1)))) (.int .u8 a8)) (Pf (i:=a0) 0 (B8 .u8) (fun _ hd=>(hA3 _ ((hS.at_ hd).frz (i:=0) rfl hlow))) kr (fun hk=>Bt aA hk) rfl)<|A1) fun a hF=>WI.fin rfl (A9<|A3<|?_)
   refine WI.region ?_
   obtain ⟨aD,aF,h⟩:=A0 h
   refine ro 3 3 [(0,sv ad1 p0 cap2),(3,.bool (bif (bif a2 then (decide (a4≥128)) else false) then (decide (a8≤254)) else false)),(4,iv aD)] hF (oA 3 aF<|A1) fun a hF=>wfn rfl ?_
   rw [hk2] at h
   exact ⟨nk2,Nat.lt_succ_self _,bif (bif a2 then (decide (a4≥128)) else false) then (decide (a8≤254)) else false,aD,hF.sub kr,St.pick [0] (by decide) hS,h⟩
  ·refine wpIn_exit (A5<|A5<|Ar<|A3 ?_)
   exact ⟨a2,hF.sub kr,St.pick [0] (by decide) hS,h⟩
 rintro a w ⟨a5,hF,hS,h⟩
 rw [Kk] at h
 refine esr<|qn 2 2 [(29,.agg #[sv ad1 p0 cap2,.bool false])] hF fun a hF=>?_
 refine SK.wi (qBa 135 #[sv ad1 p0 cap2,.bool false] (fun a3=>[(30,pb a3)]) hF hS fun a3 w a hF hS=>?_)
 refine qn 1 4 [(5,pb a3)] hF fun a hF=>wfn rfl ?_
 refine esr<|qn 1 1 [(31,pb a3)] hF fun a hF=>?_
 obtain ⟨a1,aG,h⟩:=A0 h
 replace hS:=hS.s1
 refine SK.wi (qR (fun aC=>[(32,aC)]) hF (Aj F _ _ aG μ w0 w _ hlow hA3 hS) ?_)
 rintro aC w a ⟨ν21,aI,aJ,aB,hlow,rfl,aK,hS⟩ hF
 replace hext:=hext.t aB
 replace hA3:=hA3.mono aB.1
 refine qn 1 3 [(6,iv a1.1)] hF fun a hF=>wfn rfl ?_
 refine esr<|rn 2 2 [(5,pb a3),(6,iv a1.1),(34,.bool a5)] hF fun a hF=>?_
 rcases Bool.eq_false_or_eq_true (a5) with a6|a6
 ·replace h:=Gx h a6
  rw [a6] at hF
  refine qk 3 [(34,.bool true),(35,undef)] hF fun a hF=>?_
  refine qk 4 [(36,undef)] hF fun a hF=>?_
  refine qk 5 [(37,undef)] hF fun a hF=>?_
  refine qk 6 [(38,undef)] hF fun a hF=>?_
  refine qk 7 [(39,undef)] hF fun a hF=>?_
  refine qk 8 [(40,undef)] hF fun a hF=>?_
  refine Ke 9 [(6,iv a1.1),(34,.bool true),(40,undef),(41,undef)] hF kr ⟨kr⟩ ⟨kr⟩ rfl fun a hF=>?_
  refine Ke 10 [(6,iv a1.1),(34,.bool true),(40,undef),(42,undef)] hF kr ⟨kr⟩ ⟨kr⟩ rfl fun a hF=>?_
  refine Ke 11 [(6,iv a1.1),(34,.bool true),(40,undef),(43,undef)] hF kr ⟨kr⟩ ⟨kr⟩ rfl fun a hF=>?_
  refine Ke 12 [(6,iv a1.1),(34,.bool true),(40,undef),(44,undef)] hF kr ⟨kr⟩ ⟨kr⟩ rfl fun a hF=>?_
  refine Ke 13 [(6,iv a1.1),(34,.bool true),(40,undef),(45,undef)] hF kr ⟨kr⟩ ⟨kr⟩ rfl fun a hF=>?_
  refine Ke 14 [(34,.bool true),(40,undef),(45,undef),(46,undef)] hF kr ⟨kr⟩ ⟨kr⟩ rfl fun a hF=>?_
  refine Ke 15 [(34,.bool true),(40,undef),(45,undef),(47,undef)] hF kr ⟨kr⟩ ⟨kr⟩ rfl fun a hF=>?_
  refine Ke 16 [(34,.bool true),(40,undef),(48,undef)] hF kr ⟨kr⟩ ⟨kr⟩ rfl fun a hF=>?_
  refine rk 17 [(34,.bool true),(49,undef)] hF fun a hF=>?_
  refine rn 2 19 [(2,.bool true)] hF fun a hF=>wfn rfl ?_
  refine wpIn_ret (A7 [.tmp 2] [_] hF rfl ⟨rfl,trivial⟩ ?_)
  obtain rfl:=Ae h
  exact ⟨rfl,hS.ext⟩
 ·replace h:=Gw h a6
  rw [a6] at hF
  refine Zm (n:=6) (obs:=[.run [⟨34,false,false⟩] (Instr.loadAt 4 (.pointer (some ⟨a3,1,none⟩))) (.bool a1.2.bad)]) 8 [(5,⟨[],pb a3⟩),(6,⟨[],iv a1.1⟩),(34,⟨[],.bool false⟩),(40,⟨[⟨34,false,false⟩],.bool (!a1.2.bad)⟩)] hF kr (Gq (ob1 kr (fun _ hd=>(hS.at_ hd).cell (i:=1) (j:=1) rfl rfl)) A1) ⟨kr⟩ kr rfl fun a hF=>?_
  replace hF:Fr 51 [] [(5,pb a3),(6,iv a1.1),(34,.bool false),(40,.bool (!a1.2.bad))] a:=hF
  rcases Bool.eq_false_or_eq_true ((!a1.2.bad)) with a7|a7
  ·replace h:=Gx h a7
   rw [a7] at hF
   obtain ⟨aH,aE,h⟩:=A0 h
   refine ro 11 19 [(2,.bool (decide ((ln a1.2.b)<aH)))] hF (oGs [⟨40,true,true⟩] (oL 22 1 0 hS.i rfl rfl<|oA 3 aE<|A1)<|A1) fun a hF=>wfn rfl ?_
   refine wpIn_ret (A7 [.tmp 2] [_] hF rfl ⟨rfl,trivial⟩ ?_)
   obtain rfl:=Ae h
   exact ⟨rfl,hS.ext⟩
  ·replace h:=Gw h a7
   rw [a7] at hF
   refine qk 9 [(40,.bool false),(41,undef)] hF fun a hF=>?_
   refine qk 10 [(42,undef)] hF fun a hF=>?_
   refine qk 11 [(43,undef)] hF fun a hF=>?_
   refine qk 12 [(44,undef)] hF fun a hF=>?_
   refine qk 13 [(45,undef)] hF fun a hF=>?_
   refine qk 14 [(46,undef)] hF fun a hF=>?_
   refine qk 15 [(47,undef)] hF fun a hF=>?_
   refine qk 16 [(48,undef)] hF fun a hF=>?_
   refine rn 3 19 [(2,.bool false)] hF fun a hF=>wfn rfl ?_
   refine wpIn_ret (A7 [.tmp 2] [_] hF rfl ⟨rfl,trivial⟩ ?_)
   obtain rfl:=Ae h
   exact ⟨rfl,hS.ext⟩
end Go.Proofs.YtifbomimeodibaaGreat
