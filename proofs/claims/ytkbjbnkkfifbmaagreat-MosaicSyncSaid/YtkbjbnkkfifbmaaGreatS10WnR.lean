import Derived.Test.YtkbjbnkkfifbmaaGreatS10WkQ
import Derived.Test.YtkbjbnkkfifbmaaGreatS10XW3
set_option linter.unusedVariables false
set_option linter.unusedSimpArgs false
set_option linter.unusedSectionVars false
namespace Go.Eng
open Go Go.RowKit
theorem St.arrAs {w w0:World} {H:List Res} {α β:Type} {e sz n cap:Nat} {f:α→List Value} {ad:Option Addr} {l:List α} {i:Nat} (g:β→List Value) (l2:List β) (hS:St w0 H w) (hi:H[i]? = some (Go.Eng.arr e sz f ad n cap l)) (hl:l2.length=l.length) (hc:l2.flatMap g=l.flatMap f):St w0 (H.set i (Go.Eng.arr e sz g ad n cap l2)) w:=by
 have hold:=hS.holds _ (List.mem_of_getElem? hi);refine hS.upd hi rfl rfl rfl (Nat.le_refl _) (fun _ _ _=>rfl) ⟨hl.trans hold.1,?_⟩ (fun q hq=>.inl hq);rw [hc];exact hold.2
end Go.Eng
namespace Go.Proofs.YtkbjbnkkfifbmaaGreat
open Go Go.RowKit Go.Eng
set_option linter.unusedVariables false
set_option maxRecDepth 10000
set_option maxHeartbeats 4000000
def Zh (μ:Frz) (p:MsgC) (m:mosaic_Message):Prop:=p.1=m.Key∧p.2.2.1=m.Vals.length∧ArrM μ 2 api_Span.cells p.2.1 p.2.2.2 m.Vals
theorem A4g {μ:Frz} {css:List (List Value)} {l:List mosaic_Message} (h:All2 (Rp49 μ) css l):∃ps:List MsgC,css=ps.map MsgC.cells∧All2 (Zh μ) ps l:=by
 induction h with
 | nil=>exact ⟨[],rfl,.nil⟩
 | @cons c m css l h _ ih =>
  obtain ⟨ps,rfl,hp⟩:=ih;obtain ⟨ad,cap,rfl,ha⟩:=h;exact ⟨(m.Key,ad,m.Vals.length,cap)::ps,rfl,.cons ⟨rfl,rfl,ha⟩ hp⟩
theorem A4i {μ:Frz} {ps:List MsgC} {l:List mosaic_Message} (h:All2 (Zh μ) ps l):All2 (Rp49 μ) (ps.map MsgC.cells) l:=by
 induction h with
 | nil=>exact .nil
 | @cons p m ps l h _ ih =>
  obtain ⟨h1,h2,h3⟩:=h;exact .cons ⟨p.2.1,p.2.2.2,by unfold MsgC.cells;rw [h1,h2],h3⟩ ih
theorem Xb {μ:Frz} (q:MsgC→Bool) (r:mosaic_Message→Bool) {ps:List MsgC} {l:List mosaic_Message} (h:All2 (Zh μ) ps l) (hq:∀p m,Zh μ p m→q p=r m):All2 (Zh μ) (ps.filter q) (l.filter r):=by
 induction h with
 | nil=>exact .nil
 | @cons p m ps l h _ ih =>
  rw [List.filter_cons,List.filter_cons,hq p m h]
  cases r m with
  | true=>exact .cons h ih
  | false=>exact ih
theorem Vx (ps:List MsgC):(ps.map MsgC.cells).flatMap (fN 4)=ps.flatMap MsgC.cells:=by
 rw [List.flatMap_map];rfl
theorem Mc (F:Nat) (p0:mosaic_Node) (p1:(List mosaic_Key)) (res:((List mosaic_Message)×Int)) (h:Gh F p0 p1=some res) (μ:Frz) (w0 w1:World) (T_:List Res) (hlow:B1 w0 μ) {cb0:Nat} {ad1:Option Addr} {cap2:Nat} {m4:Nat} {m5:Nat} {B6:List (mosaic_Key×Value)} {m8:Nat} {B9:List (mosaic_where×Value)} {ad11:Option Addr} {cap12:Nat} (hA3:ArrM μ 10 mosaic_Radar.cells ad1 cap2 p0.spec.Radars) (hq7:MapQ 1 Rp47 μ B6 p0.kept) (hq10:MapM 2 api_Span.cells μ B9 p0.looks) (hA13:ArrM μ 3 mosaic_Key.cells ad11 cap12 p1) (hS:St w0 (F8 w0.heap.size μ::blk cb0 108 #[.int .i64 p0.spec.Grid.X,.int .i64 p0.spec.Grid.Y,.int .i64 p0.spec.Grid.Size,.int .i64 p0.spec.Grid.Wide,.int .i64 p0.spec.Grid.High,.int .i64 p0.spec.Earth.Lo,.int .i64 p0.spec.Earth.Hi,.slice ad1 p0.spec.Radars.length cap2,.int .i64 p0.spec.Age,.map (some m4),.int .i64 p0.horizon,.map (some m5),.int .i64 p0.count,.map (some m8)]::A0 Value.string (fA mosaic_Radar.cells) m4 p0.radars::A0 (fA mosaic_Key.cells) (fun v=>v) m5 B6::A0 (fA mosaic_where.cells) (fun v=>v) m8 B9::T_) w1):Bd Tryz.prog 18 #[.pointer (some ⟨cb0,0,none⟩),.slice ad11 p1.length cap12] w1 (fun e w=>∃(ν_:Frz) (ad14:Option Addr) (cap15:Nat) (css16:List (List Value)),μ.ext w0.heap.size ν_∧B1 w0 ν_∧e=(.tuple #[.slice ad14 res.1.length cap15,.int .i64 res.2])∧(All2 (Rp49 ν_) css16 res.1)∧St w0 (F8 w0.heap.size ν_::arr 49 4 (fN 4) ad14 res.1.length cap15 css16::blk cb0 108 #[.int .i64 p0.spec.Grid.X,.int .i64 p0.spec.Grid.Y,.int .i64 p0.spec.Grid.Size,.int .i64 p0.spec.Grid.Wide,.int .i64 p0.spec.Grid.High,.int .i64 p0.spec.Earth.Lo,.int .i64 p0.spec.Earth.Hi,.slice ad1 p0.spec.Radars.length cap2,.int .i64 p0.spec.Age,.map (some m4),.int .i64 p0.horizon,.map (some m5),.int .i64 p0.count,.map (some m8)]::A0 Value.string (fA mosaic_Radar.cells) m4 p0.radars::A0 (fA mosaic_Key.cells) (fun v=>v) m5 B6::A0 (fA mosaic_where.cells) (fun v=>v) m8 B9::T_) w):=by
 unfold Gh at h;refine feW Tryz.func18 30 [(0,pb cb0),(1,sv ad11 p1 cap12)] hS fun a w hF hS=>?_;refine esr<|SK.wi (qB 39 (pb cb0) #[pb cb0] (fun b=>[(2,pb b)]) hF hS fun bx w a hF hS=>?_);refine rn 2 3 [(1,sv ad11 p1 cap12),(2,pb bx)] hF fun a hF=>wfn rfl ?_;refine Ai<|wpIn_block<|esr<|qo 1 1 [(10,pb cb0)] hF (oL 39 0 0 hS.i rfl rfl<|A4) fun a hF=>?_;replace hS:St w0 (blk cb0 108 (p0.ax ad1 cap2 m4 m5 m8)::blk bx 39 #[pb cb0]::fz w0 μ::A0 Value.string (fA mosaic_Radar.cells) m4 p0.radars::A0 kfK (fun v=>v) m5 B6::A0 (fA mosaic_where.cells) (fun v=>v) m8 B9::T_) w:=St.pickT (A:=[blk bx 39 #[pb cb0],fz w0 μ,blk cb0 108 (p0.ax ad1 cap2 m4 m5 m8),A0 Value.string (fA mosaic_Radar.cells) m4 p0.radars,A0 kfK (fun v=>v) m5 B6,A0 (fA mosaic_where.cells) (fun v=>v) m8 B9]) (T:=T_) [2,0,1,3,4,5] (by decide) hS;refine SK.wi (qR (fun v=>[(11,v)]) hF (Tn cb0 m5 (p0.ax ad1 cap2 m4 m5 m8) rfl w0 w _ hS) ?_);rintro v w a ⟨rfl,hS⟩ hF;refine rn 1 3 [(1,sv ad11 p1 cap12),(2,pb bx),(9,.bool false)] hF fun a hF=>wfn rfl ?_;refine Gl hF rfl (fun hc=>by cases hc) fun _=>?_
 refine qnB [(12,.bool (decide ((ln p1)>256)))] hF fun a hF=>?_;refine Gl hF rfl (fun hc=>?_) fun hc=>?_
 ·have hb:256<p1.length:=by
   have:=of_decide_eq_true hc;simp only [ln] at this;omega
  rw [if_pos hb] at h
  cases h
  refine esr<|rn 2 2 [(4,.slice none 0 0),(5,iv 9)] hF fun a hF=>wfn rfl ?_;have hS2:=hS.nilarr 49 4 (fN 4);refine wpIn_ret (Aj<|A5<|A6 [.tmp 4,.tmp 5] [_,_] hF rfl ⟨rfl,rfl,trivial⟩ ⟨_,rfl,μ,none,0,[],Frz.ext_refl _ _,hlow,rfl,.nil,?_⟩);exact St.pickT (A:=[arr 49 4 (fN 4) none 0 0 [],blk cb0 108 (p0.ax ad1 cap2 m4 m5 m8),blk bx 39 #[pb cb0],fz w0 μ,A0 Value.string (fA mosaic_Radar.cells) m4 p0.radars,A0 kfK (fun v=>v) m5 B6,A0 (fA mosaic_where.cells) (fun v=>v) m8 B9]) (T:=T_) [3,0,1,4,5,6] (by decide) hS2
 have hb:¬256<p1.length:=by
  have:=of_decide_eq_false hc;simp only [ln] at this;omega
 rw [if_neg hb] at h
 cases hl:E5 F p0 with
 | none=>rw [hl] at h;cases h
 | some l =>
 rw [hl] at h;replace h:(if l.length≤1000000 then some (l.filter (Th p0 (Gr p1)),(0:Int)) else none)=some res:=h
 split at h
 case isFalse=>cases h
 rename_i hll
 cases h
 refine wpIn_skip (Ac<|A3 ?_);refine esr<|SK.wi (Mz (t:=144) mosaic_Key Bool kfK Value.bool (fun m=>[(1,sv ad11 p1 cap12),(2,pb bx),(16,.map (some m))]) hF hS (by kernel_rfl) ⟨by kernel_rfl⟩ (fun _=>⟨by kernel_rfl⟩) fun mg w a hF hS=>?_);refine SK.wi (qA 144 #[.map none] (fun b=>[(6,pb b)]) hF hS fun bg w a hF hS=>?_);refine SK.wi (qs 144 0 0 (.map (some mg)) hF hS rfl fun w a hF hS=>wfn rfl ?_);refine Ai<|qnB [(17,sv ad11 p1 cap12),(18,iv (ln p1)),(19,iv 0)] hF fun a hF=>?_;refine wpIn_block<|Co (fun n_ a w=>∃i:Nat,n_=p1.length-i∧i≤p1.length∧Fr 30 [] [(2,pb bx),(6,pb bg),(17,sv ad11 p1 cap12),(18,iv (ln p1)),(19,iv i)] a∧St w0 (blk bg 144 #[.map (some mg)]::A0 kfK Value.bool mg (Gr (p1.take i))::blk cb0 108 (p0.ax ad1 cap2 m4 m5 m8)::blk bx 39 #[pb cb0]::fz w0 μ::A0 Value.string (fA mosaic_Radar.cells) m4 p0.radars::A0 kfK (fun v=>v) m5 B6::A0 (fA mosaic_where.cells) (fun v=>v) m8 B9::T_) w) p1.length ⟨0,rfl,Nat.zero_le _,hF.sub (by kernel_rfl),hS⟩ ?_;rintro n_ a w ⟨i,rfl,hi,hF,hS⟩;refine qnB [(20,.bool (decide ((i:Int)<(ln p1))))] hF fun a hF=>?_;refine Ai<|Gl hF rfl (fun hc=>?_) fun hc=>?_
 ·have hlt:i<p1.length:=by
   have:=of_decide_eq_true hc;simp only [ln] at this;omega
  obtain ⟨u,hu⟩:∃u,p1[i]? = some u:=⟨p1[i],List.getElem?_eq_getElem hlt⟩;have hg:Bo p1 (i:Int)=some u:=by unfold Bo;rw [if_pos (by omega)];simpa using hu
  refine wK<|Ai<|wpIn_block<|esr<|qo 2 2 [(22,.agg (mosaic_Key.cells u).toArray)] hF (oI 60 (hA13 _ (hS.frz (i:=4) rfl hlow)) hg<|oG 46 0 3 mosaic_Key.cells_len (fun w' hd=>hA13 _ ((hS.at_ hd).frz (i:=4) rfl hlow)) hg<|A4) fun a hF=>?_;refine SK.wi (qA 46 #[.string ⟨#[]⟩,iv 0,iv 0] (fun b=>[(8,pb b)]) hF hS fun b8 w a hF hS=>?_);refine SK.wi (qw 46 0 (mosaic_Key.cells u).toArray hF hS rfl fun w a hF hS=>wfn rfl ?_);refine WI.region<|qo 2 2 [(23,.map (some mg)),(24,kfK u)] hF (oL 144 1 0 hS.i rfl rfl<|oN 46 0 0 3 hS.i rfl<|A4) fun a hF=>?_;refine SK.wi (Zc (vf:=Value.bool) (kt:=46) (e:=4) (t:=144) [(2,pb bx),(6,pb bg),(17,sv ad11 p1 cap12),(18,iv (ln p1)),(19,iv i)] 2 u true Nz hF hS rfl (by kernel_rfl) ⟨by kernel_rfl⟩ (by kernel_rfl) ⟨by kernel_rfl⟩ fun w a hF hS=>WI.fin rfl (Ac<|A3 ?_));obtain ⟨j,hj,hck⟩:∃j:Int,j=((i+1:Nat):Int)∧ck ((i:Int)+1)=some j:=⟨_,rfl,ckN i (by omega)⟩;refine WI.region<|ro 2 2 [(2,pb bx),(6,pb bg),(17,sv ad11 p1 cap12),(18,iv (ln p1)),(19,iv j)] hF (oA 3 hck<|A4) fun a hF=>wfn rfl ?_;rw [hj] at hF;refine ⟨p1.length-(i+1),by omega,i+1,rfl,by omega,hF,?_⟩;have e:Gr (p1.take (i+1))=upM (Gr (p1.take i)) u true:=by
   unfold Gr;rw [List.take_add_one,hu,List.foldl_append];rfl
  rw [e];exact St.pickT (A:=[blk b8 46 (mosaic_Key.cells u).toArray]) [] (by decide) hS
 ·have hip:i=p1.length:=by
   have:=of_decide_eq_false hc;simp only [ln] at this;omega
  subst hip;rw [List.take_length] at hS;refine wpIn_exit (A7<|A7<|Ap<|A3 ?_);refine esr<|qo 1 1 [(26,pb cb0)] hF (oL 39 3 0 hS.i rfl rfl<|A4) fun a hF=>?_;refine SK.wi (qR (fun v=>[(27,v)]) hF (La F p0 l hl μ w0 w (blk bg 144 #[.map (some mg)]::A0 kfK Value.bool mg (Gr p1)::blk bx 39 #[pb cb0]::T_) hlow hA3 hq7 hq10 (St.pickT (A:=[blk bg 144 #[.map (some mg)],A0 kfK Value.bool mg (Gr p1),blk cb0 108 (p0.ax ad1 cap2 m4 m5 m8),blk bx 39 #[pb cb0],fz w0 μ,A0 Value.string (fA mosaic_Radar.cells) m4 p0.radars,A0 kfK (fun v=>v) m5 B6,A0 (fA mosaic_where.cells) (fun v=>v) m8 B9]) (T:=T_) [4,2,5,6,7,0,1,3] (by decide) hS)) ?_);rintro v w a ⟨ν,ad3,cap3,css,hx,hlow,rfl,hR,hS⟩ hF;obtain ⟨ps,rfl,hps⟩:=A4g hR;have hpl:=hps.len;have hS1:=hS.arrAs (i:=1) MsgC.cells ps rfl (by simp) (Vx ps).symm;have hS2:St w0 (arr 49 4 MsgC.cells ad3 ps.length cap3 ps::blk bg 144 #[.map (some mg)]::blk bx 39 #[pb cb0]::blk cb0 108 (p0.ax ad1 cap2 m4 m5 m8)::A0 kfK (fun v=>v) m5 B6::A0 kfK Value.bool mg (Gr p1)::fz w0 ν::A0 Value.string (fA mosaic_Radar.cells) m4 p0.radars::A0 (fA mosaic_where.cells) (fun v=>v) m8 B9::T_) w:=by
   rw [hpl];exact St.pickT (A:=[fz w0 ν,arr 49 4 MsgC.cells ad3 l.length cap3 ps,blk cb0 108 (p0.ax ad1 cap2 m4 m5 m8),A0 Value.string (fA mosaic_Radar.cells) m4 p0.radars,A0 kfK (fun v=>v) m5 B6,A0 (fA mosaic_where.cells) (fun v=>v) m8 B9,blk bg 144 #[.map (some mg)],A0 kfK Value.bool mg (Gr p1),blk bx 39 #[pb cb0]]) (T:=T_) [1,6,8,2,4,7,0,3,5] (by decide) hS1
  have e1:sv ad3 l cap3=sv ad3 ps cap3:=by unfold sv;rw [hpl]
  rw [e1] at hF;refine qn 1 3 [(28,.func (.func 62) #[] #[pb bg,pb bx])] hF fun a hF=>?_;refine SK.wi (qR (fun v=>[(29,v)]) hF (A23 bg bx ad3 cap3 ps (by omega) _ _ w0 w (A5j bg bx cb0 m5 mg (p0.ax ad1 cap2 m4 m5 m8) rfl B6 p0.kept (Gr p1) μ hq7 w0 _) hS2) ?_);rintro v w a ⟨rfl,hS⟩ hF;refine rn 2 6 [(4,sv ad3 (ps.filter fun x=>!((lkM (Gr p1) x.1).getD false&&((((lkM p0.kept x.1).getD []).length:Int)==1))) cap3),(5,iv 0)] hF fun a hF=>wfn rfl ?_;have hf:=Xb (fun x=>!((lkM (Gr p1) x.1).getD false&&((((lkM p0.kept x.1).getD []).length:Int)==1))) (Th p0 (Gr p1)) hps (fun p m hpm=>by unfold Th;rw [hpm.1]);generalize hPS:(ps.filter fun x=>!((lkM (Gr p1) x.1).getD false&&((((lkM p0.kept x.1).getD []).length:Int)==1)))=PS at hF hS hf;have hS3:=hS.arrAs (i:=0) (fN 4) (PS.map MsgC.cells) rfl (by simp) (Vx PS);have hfl:=hf.len;refine wpIn_ret (A6 [.tmp 4,.tmp 5] [_,_] hF rfl ⟨rfl,rfl,trivial⟩ ⟨_,rfl,ν,ad3,cap3,PS.map MsgC.cells,hx,hlow,?_,A4i hf,?_⟩)
  ·unfold sv;rw [hfl]
  ·rw [←hfl];exact St.pickT (A:=[arr 49 4 (fN 4) ad3 PS.length cap3 (PS.map MsgC.cells),blk bg 144 #[.map (some mg)],blk bx 39 #[pb cb0],blk cb0 108 (p0.ax ad1 cap2 m4 m5 m8),A0 kfK (fun v=>v) m5 B6,A0 kfK Value.bool mg (Gr p1),fz w0 ν,A0 Value.string (fA mosaic_Radar.cells) m4 p0.radars,A0 (fA mosaic_where.cells) (fun v=>v) m8 B9]) (T:=T_) [6,0,3,7,4,8] (by decide) hS3
end Go.Proofs.YtkbjbnkkfifbmaaGreat
