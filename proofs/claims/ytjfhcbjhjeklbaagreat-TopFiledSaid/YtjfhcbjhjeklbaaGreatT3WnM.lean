import Derived.Test.YtjfhcbjhjeklbaaGreatT3WkM
set_option linter.unusedVariables false
set_option linter.unusedSimpArgs false
set_option linter.unusedSectionVars false
namespace Go.Proofs.YtjfhcbjhjeklbaaGreat
open Go Go.RowKit Go.Eng
set_option linter.unusedVariables false
set_option maxRecDepth 10000
set_option maxHeartbeats 4000000
theorem A94:∀{l:List mosaic_Key},ndK l=true->l.Nodup
 | [],_=>.nil
 | k::l,h=>by
  simp only [ndK,Bool.and_eq_true,Bool.not_eq_true'] at h;refine List.nodup_cons.2 ⟨λhm=>?_,A94 h.2⟩;rw [List.contains_iff_mem.2 hm] at h
  cases h.1
theorem A2r {μ:Frz} {B:List (mosaic_Key×Value)} {l:List (mosaic_Key×List (List api_Span))} (t:Int) (h:MapQ 1 Rp53 μ B l) :
  MapQ 1 Rp53 μ (B.filter λp=>!oldK t p) (l.filter λp=>!Ze t p)/\Qx t B=X7 t l:=by
 unfold MapQ MapS at h ⊢
 induction h with
 | nil=>exact ⟨.nil,rfl⟩
 | @cons p q B l h _ ih =>
  obtain ⟨h1,h2⟩:=h;have e:oldK t p=Ze t q:=by unfold oldK Ze;rw [h1]
  unfold Qx X7 at ih ⊢;simp only [List.filter_cons,e];obtain ⟨ad,cap,css,hv,_⟩:=h2
  cases Ze t q with
  | true =>
   refine ⟨by simpa using ih.1,?_⟩;simp only [if_true,List.map_cons,List.sum_cons];rw [ih.2,hv];rfl
  | false=>exact ⟨by simpa using All2.cons ⟨h1,ad,cap,css,hv,by assumption⟩ ih.1,by simpa using ih.2⟩
theorem A48 {μ:Frz} {B:List (mosaic_Key×Value)} {l:List (mosaic_Key×List (List api_Span))} (h:MapQ 1 Rp53 μ B l):∀p∈B,∃ad n cap,p.2=Value.slice ad n cap:=by
 unfold MapQ MapS at h
 induction h with
 | nil=>intro p h;cases h
 | cons h _ ih =>
  obtain ⟨h1,ad,cap,css,hv,_⟩:=h;intro p hp;rcases List.mem_cons.1 hp with rfl|hp
  ·exact ⟨_,_,_,hv⟩
  ·exact ih p hp
theorem Yt (F:Nat) (p0:mosaic_Node) (p1:Int) (res:(Int×mosaic_Node)) (h:M7 F p0 p1=some res) (μ:Frz) (w0 w1:World) (T_:List Res) (hlow:Ak w0 μ) {cb0:Nat} {ad1:Option Addr} {cap2:Nat} {m4:Nat} {m5:Nat} {B6:List (mosaic_Key×Value)} {m8:Nat} {B9:List (mosaic_where×Value)} (hA3:ArrM μ 10 mosaic_Radar.cells ad1 cap2 p0.spec.Radars) (hq7:MapQ 1 Rp53 μ B6 p0.kept) (hq10:MapM 2 api_Span.cells μ B9 p0.looks) (hS:St w0 (Eo w0.heap.size μ::blk cb0 101 #[.int .i64 p0.spec.Grid.X,.int .i64 p0.spec.Grid.Y,.int .i64 p0.spec.Grid.Size,.int .i64 p0.spec.Grid.Wide,.int .i64 p0.spec.Grid.High,.int .i64 p0.spec.Earth.Lo,.int .i64 p0.spec.Earth.Hi,.slice ad1 p0.spec.Radars.length cap2,.int .i64 p0.spec.Age,.map (some m4),.int .i64 p0.horizon,.map (some m5),.int .i64 p0.count,.map (some m8)]::A0 Value.string (fA mosaic_Radar.cells) m4 p0.radars::A0 (fA mosaic_Key.cells) (λv=>v) m5 B6::A0 (fA mosaic_where.cells) (λv=>v) m8 B9::T_) w1):Fg Tryz.prog 33 #[.pointer (some ⟨cb0,0,none⟩),.int .i64 p1] w1 (λe w=>∃(ν_:Frz) (ad11:Option Addr) (cap12:Nat) (B14:List (mosaic_Key×Value)) (B16:List (mosaic_where×Value)),μ.ext w0.heap.size ν_/\Ak w0 ν_/\e=(.int .i64 res.1)/\(ArrM ν_ 10 mosaic_Radar.cells ad11 cap12 res.2.spec.Radars)/\(MapQ 1 Rp53 ν_ B14 res.2.kept)/\(MapM 2 api_Span.cells ν_ B16 res.2.looks)/\St w0 (Eo w0.heap.size ν_::blk cb0 101 #[.int .i64 res.2.spec.Grid.X,.int .i64 res.2.spec.Grid.Y,.int .i64 res.2.spec.Grid.Size,.int .i64 res.2.spec.Grid.Wide,.int .i64 res.2.spec.Grid.High,.int .i64 res.2.spec.Earth.Lo,.int .i64 res.2.spec.Earth.Hi,.slice ad11 res.2.spec.Radars.length cap12,.int .i64 res.2.spec.Age,.map (some m4),.int .i64 res.2.horizon,.map (some m5),.int .i64 res.2.count,.map (some m8)]::A0 Value.string (fA mosaic_Radar.cells) m4 res.2.radars::A0 (fA mosaic_Key.cells) (λv=>v) m5 B14::A0 (fA mosaic_where.cells) (λv=>v) m8 B16::T_) w):=by
 unfold M7 at h
 split at h
 ·rename_i hb
  obtain ⟨hnd,hc1,hc2,hsum⟩:=hb
  cases h
  obtain ⟨hq',he⟩:=A2r p1 hq7;rw [←he] at hsum;have hk:=A94 hnd;rw [←Zz hq7] at hk;have hS1:=St.pickT (A:=[Eo w0.heap.size μ,blk cb0 101 #[.int .i64 p0.spec.Grid.X,.int .i64 p0.spec.Grid.Y,.int .i64 p0.spec.Grid.Size,.int .i64 p0.spec.Grid.Wide,.int .i64 p0.spec.Grid.High,.int .i64 p0.spec.Earth.Lo,.int .i64 p0.spec.Earth.Hi,.slice ad1 p0.spec.Radars.length cap2,.int .i64 p0.spec.Age,.map (some m4),.int .i64 p0.horizon,.map (some m5),.int .i64 p0.count,.map (some m8)],A0 Value.string (fA mosaic_Radar.cells) m4 p0.radars,A0 kfK (λv=>v) m5 B6,A0 (fA mosaic_where.cells) (λv=>v) m8 B9]) (T:=T_) [1,3,0,2,4] (by decide) hS;refine Calls.mono (B3j cb0 m5 p1 p0.horizon p0.count _ _ _ _ _ _ _ _ _ _ _ B6 hk (A48 hq7) hc1 hc2 hsum w0 w1 _ hS1) ?_;rintro e w ⟨v,rfl,hv,hS⟩;subst hv;rw [he] at hS;refine ⟨_,rfl,μ,ad1,cap2,_,B9,Frz.ext_refl _ _,hlow,by rw [he],hA3,hq',hq10,?_⟩;exact St.pickT (A:=[blk cb0 101 #[.int .i64 p0.spec.Grid.X,.int .i64 p0.spec.Grid.Y,.int .i64 p0.spec.Grid.Size,.int .i64 p0.spec.Grid.Wide,.int .i64 p0.spec.Grid.High,.int .i64 p0.spec.Earth.Lo,.int .i64 p0.spec.Earth.Hi,.slice ad1 p0.spec.Radars.length cap2,.int .i64 p0.spec.Age,.map (some m4),.int .i64 p1,.map (some m5),.int .i64 (p0.count-X7 p1 p0.kept),.map (some m8)],A0 kfK (λv=>v) m5 (B6.filter λp=>!oldK p1 p),Eo w0.heap.size μ,A0 Value.string (fA mosaic_Radar.cells) m4 p0.radars,A0 (fA mosaic_where.cells) (λv=>v) m8 B9]) (T:=T_) [2,0,3,1,4] (by decide) hS
 ·cases h
end Go.Proofs.YtjfhcbjhjeklbaaGreat
