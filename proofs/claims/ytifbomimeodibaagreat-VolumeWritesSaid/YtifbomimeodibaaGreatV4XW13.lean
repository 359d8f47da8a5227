import Derived.Test.YtifbomimeodibaaGreatV4XD
import Derived.Test.YtifbomimeodibaaGreatProg
import Derived.Test.YtifbomimeodibaaGreatV4XW2
import Derived.Test.YtifbomimeodibaaGreatV4XW4
import Derived.Test.YtifbomimeodibaaGreatV4XW11
namespace Go.Proofs.YtifbomimeodibaaGreat
open Go Go.RowKit Go.Eng
set_option maxRecDepth 10000
set_option maxHeartbeats 4000000
set_option linter.unusedVariables false
set_option linter.unusedSimpArgs false
theorem Ll (F:Nat) (p0:volume_thing) (res:volume_Item) (h:Kj F p0=some res) (μ:Frz) (w0:World) (hm:FrzAt μ w0) {v:Value} (hv:volume_thing.R μ v p0):Zp Tryz.prog v "radome/volume.item" #[] (fun f gs=>Bj Tryz.prog f gs w0 (fun e w=>∃(ν_:Frz) (ad1:Option Addr) (cap2:Nat) (css3:List (List Value)) (ad4:Option Addr) (cap5:Nat),μ.ext w0.heap.size ν_∧e=(.agg #[iv res.Kind,.string res.Name,iv res.Time,.string res.Sweep.Site.Name,iv res.Sweep.Site.X,iv res.Sweep.Site.Y,iv res.Sweep.Site.Z,iv res.Sweep.Site.Rose,iv res.Sweep.Site.Gates,iv res.Sweep.Site.Step,iv res.Sweep.Site.Width,iv res.Sweep.Tilt,iv res.Sweep.Time,sv ad1 res.Sweep.Rays cap2,iv res.Field.Grid.X,iv res.Field.Grid.Y,iv res.Field.Grid.Size,iv res.Field.Grid.Wide,iv res.Field.Grid.High,sv ad4 res.Field.Vals cap5,.string res.Text])∧ArrQ ν_ 1 Rp87 ad1 cap2 css3 res.Sweep.Rays∧ArrM ν_ 2 api_Span.cells ad4 cap5 res.Field.Vals∧St w0 [fz w0 ν_] w)):=by
 cases p0 with
 | nil_=>cases h
 | ic156 y =>
  obtain ⟨cs,rfl,hr⟩:=hv
  obtain ⟨ad6,cap7,css8,rfl,hA9⟩:=hr
  exact ⟨163,#[.agg #[.string y.Sweep.Site.Name,iv y.Sweep.Site.X,iv y.Sweep.Site.Y,iv y.Sweep.Site.Z,iv y.Sweep.Site.Rose,iv y.Sweep.Site.Gates,iv y.Sweep.Site.Step,iv y.Sweep.Site.Width,iv y.Sweep.Tilt,iv y.Sweep.Time,sv ad6 y.Sweep.Rays cap7]],by kernel_rfl,Lk y _ (Option.some.inj h) μ w0 hm hA9⟩
 | ic158 y =>
  obtain ⟨cs,rfl,hr⟩:=hv
  obtain ⟨a0,a1,rfl,a2⟩:=hr
  exact ⟨177,#[.agg #[.string y.key,iv y.time,iv y.Field.Grid.X,iv y.Field.Grid.Y,iv y.Field.Grid.Size,iv y.Field.Grid.Wide,iv y.Field.Grid.High,sv a0 y.Field.Vals a1]],by kernel_rfl,Lh y _ (Option.some.inj h) μ w0 hm a2⟩
 | ic160 y =>
  obtain ⟨cs,rfl,hr⟩:=hv
  obtain rfl:=hr
  exact ⟨185,#[.agg #[iv y.time,.string y.text]],by kernel_rfl,Lp y _ (Option.some.inj h) μ w0 hm⟩
theorem Ht (F:Nat) (p0:(List Int)) (res:((List volume_Item)×Int×Int)) (h:Hr F p0=some res) (μ:Frz) (w0:World) (hm:FrzAt μ w0) {ad1:Option Addr} {cap2:Nat} (hA3:ArrM μ 1 (fK .u8) ad1 cap2 p0):Bj Tryz.prog 9 #[sv ad1 p0 cap2] w0 (fun e w=>∃(ν_:Frz) (zad0:Option Addr) (zcap0:Nat) (zcss0:List (List Value)),μ.ext w0.heap.size ν_∧e=(.tuple #[sv zad0 res.1 zcap0,iv res.2.1,iv res.2.2])∧All2 (Rp48 ν_) zcss0 res.1∧St w0 [fz w0 ν_,arr 48 21 (fN 21) zad0 res.1.length zcap0 zcss0] w):=by
 obtain ⟨hlow,hS⟩:=hm.init
 have hext:=Frz.ext_refl w0.heap.size μ
 rw [Hr] at h
 refine Tf Tryz.func9 rfl 71 [(0,sv ad1 p0 cap2)] rfl rfl kr fun a w hw hF=>?_
 replace hS:=hS.cast hw
 clear hw
 replace hS:=hS.noMarks
 refine esr ?_
 refine SK.wi (J6 (t:=22) (fun b4=>[(1,pb b4)]) (sv ad1 p0 cap2) #[sv ad1 p0 cap2] hF hS kr ⟨kr⟩ kr (fun _=>⟨kr⟩) fun b4 w a hF hS=>?_)
 refine SK.wi (Kp (t:=24) (fun b5=>[(1,pb b4),(2,pb b5)]) #[.slice none 0 0] hF hS kr ⟨kr⟩ kr (fun _=>⟨kr⟩) fun b5 w a hF hS=>?_)
 refine SK.wi (Kp (t:=3) (fun b6=>[(1,pb b4),(2,pb b5),(3,pb b6)]) #[iv 0] hF hS kr ⟨kr⟩ kr (fun _=>⟨kr⟩) fun b6 w a hF hS=>?_)
 refine SK.wi (Kp (t:=25) (fun b7=>[(1,pb b4),(2,pb b5),(3,pb b6),(4,pb b7)]) #[iv 0] hF hS kr ⟨kr⟩ kr (fun _=>⟨kr⟩) fun b7 w a hF hS=>?_)
 refine wfn rfl ?_
 refine rnB [(1,pb b4),(2,pb b5),(3,pb b6),(4,pb b7),(5,iv 4)] hF fun a hF=>?_
 refine Ar ?_
 refine wpIn_block ?_
 refine qoB [(10,.bool (decide ((ln p0)>16777216)))] hF (oL 22 3 0 hS.i rfl rfl<|A9) fun a hF=>?_
 refine Aj hF rfl (fun hc=>?_) (fun hc=>?_)
 ·replace h:=Af h hc
  refine esr ?_
  refine SK.wi (qs 24 2 0 (.slice none 0 0) hF hS rfl fun w a hF hS=>?_)
  refine SK.wi (qs 3 1 0 (iv 0) hF hS rfl fun w a hF hS=>?_)
  refine SK.wi (qs 25 0 0 (iv 8) hF hS rfl fun w a hF hS=>?_)
  refine wfn rfl ?_
  refine wpIn_ret (Ai<|A6<|Nq (H:=[blk b7 25 #[iv 8],blk b6 3 #[iv 0],blk b5 24 #[.slice none 0 0],blk b4 22 #[sv ad1 p0 cap2],fz w0 μ]) [.cell 2 24,.cell 3 3,.cell 4 25] [.slice none 0 0,iv 0,iv 8] hF (St.pick [4,0,1,2,3,5] (by decide) hS) rfl fun w hS=>⟨⟨⟨_,rfl,Be kr (hS.cell (i:=2) (j:=0) rfl rfl)⟩,⟨_,rfl,Be kr (hS.cell (i:=1) (j:=0) rfl rfl)⟩,⟨_,rfl,Be kr (hS.cell (i:=0) (j:=0) rfl rfl)⟩,trivial⟩,?_⟩)
  obtain rfl:=Ao h
  replace hS:=hS.nilarr 48 21 (fN 21)
  exact ⟨_,rfl,μ,_,_,_,hext,rfl,All2.nil,St.pick [5,0] (by decide) hS⟩
 ·replace h:=Ae h hc
  refine esr ?_
  refine qo 1 1 [(15,sv ad1 p0 cap2)] hF (oL 22 3 0 hS.i rfl rfl<|A9) fun a hF=>?_
  refine SK.wi (Fe (e:=5) (sz:=1) (f:=(fK .u8)) (t:=22) (len:=4) (fun b8=>[(1,pb b4),(2,pb b5),(3,pb b6),(4,pb b7),(5,iv 4),(15,sv ad1 p0 cap2),(16,sb b8 4)]) #[(0,.int .u8 82),(1,.int .u8 86),(2,.int .u8 70),(3,.int .u8 49)] #[.int .u8 82,.int .u8 86,.int .u8 70,.int .u8 49] ([82,86,70,49]) hF hS kr ⟨kr⟩ kr (Bx .u8) rfl rfl kr (fun _=>⟨kr⟩) fun b8 w a hF hS=>?_)
  replace hS:St w0 [arrT 5 1 (fK .u8) (some ⟨b8,0,none⟩) ([82,86,70,49]).length 4 ([82,86,70,49]),blk b7 25 #[iv 0],blk b6 3 #[iv 0],blk b5 24 #[.slice none 0 0],blk b4 22 #[sv ad1 p0 cap2],Dg ([]),fz w0 μ] w:=St.toT hS
  refine SK.wi (Pj (src:=22) [(1,pb b4),(2,pb b5),(3,pb b6),(4,pb b7),(5,iv 4),(15,sv ad1 p0 cap2),(17,sb b8 4)] 0 hF hS rfl (by decide) kr ⟨kr⟩ kr ⟨kr⟩ fun w a hF hS=>?_)
  obtain ⟨y9,hy9,h⟩:=A1 h
  obtain ⟨aX,aW,h⟩:=A1 h
  refine rX 16 19 [(1,pb b4),(2,pb b5),(3,pb b6),(4,pb b7),(14,.bool (bif (!y9) then true else (bif (decide ((ln p0)>4)) then (aX != 0) else false)))] hF (oC (fun w2 hd=>Qw F p0 ([82,86,70,49]) _ hy9 _ w2 (A5 w2) (hA3.mono (FrzAt.le_mem ((hS.later hd).frz (i:=6) rfl hlow))) (Arr.toM ((hS.later hd).arrT_ (i:=0) rfl)))<|oX (.run [⟨20,false,(!y9)⟩] (Instr.loadAt 22 (pb b4)) (sv ad1 p0 cap2)) (ob1 kr (fun _ hd=>(hS.later hd).cell (i:=4) (j:=0) rfl rfl))<|oX (.run [⟨25,true,(decide ((ln p0)>4))⟩,⟨20,false,(!y9)⟩] (Instr.loadAt 22 (pb b4)) (sv ad1 p0 cap2)) (ob1 kr (fun _ hd=>(hS.later hd).cell (i:=4) (j:=0) rfl rfl))<|oX (.run [⟨25,true,(decide ((ln p0)>4))⟩,⟨20,false,(!y9)⟩] (Instr.indexAt 22 (sv ad1 p0 cap2) (iv 4)) (.pointer (some (Bc ad1 4 1)))) (Gj (hA3 _ (hS.frz (i:=6) rfl hlow)) kr (fun hk=>Cx aW hk))<|oX (.run [⟨25,true,(decide ((ln p0)>4))⟩,⟨20,false,(!y9)⟩] (Instr.loadAt 5 (.pointer (some (Bc ad1 4 1)))) (.int .u8 aX)) (Pr (i:=4) 0 (Bx .u8) (fun _ hd=>(hA3 _ ((hS.later hd).frz (i:=6) rfl hlow))) kr (fun hk=>Cx aW hk) rfl)<|A9) fun a w hF hx=>?_
  replace hS:=hS.later hx
  refine wfn rfl ?_
  refine Aj hF rfl (fun hc=>?_) (fun hc=>?_)
  ·replace h:=Af h hc
   refine esr ?_
   refine SK.wi (qs 24 3 0 (.slice none 0 0) hF hS rfl fun w a hF hS=>?_)
   refine SK.wi (qs 3 2 0 (iv 0) hF hS rfl fun w a hF hS=>?_)
   refine SK.wi (qs 25 1 0 (iv 7) hF hS rfl fun w a hF hS=>?_)
   refine wfn rfl ?_
   refine wpIn_ret (Ai<|A6<|Nq (H:=[arrT 5 1 (fK .u8) (some ⟨b8,0,none⟩) ([82,86,70,49]).length 4 ([82,86,70,49]),blk b7 25 #[iv 7],blk b6 3 #[iv 0],blk b5 24 #[.slice none 0 0],blk b4 22 #[sv ad1 p0 cap2],fz w0 μ]) [.cell 2 24,.cell 3 3,.cell 4 25] [.slice none 0 0,iv 0,iv 7] hF (St.pick [5,0,1,2,3,4,6] (by decide) hS) rfl fun w hS=>⟨⟨⟨_,rfl,Be kr (hS.cell (i:=3) (j:=0) rfl rfl)⟩,⟨_,rfl,Be kr (hS.cell (i:=2) (j:=0) rfl rfl)⟩,⟨_,rfl,Be kr (hS.cell (i:=1) (j:=0) rfl rfl)⟩,trivial⟩,?_⟩)
   obtain rfl:=Ao h
   replace hS:=hS.nilarr 48 21 (fN 21)
   exact ⟨_,rfl,μ,_,_,_,hext,rfl,All2.nil,St.pick [6,0] (by decide) hS⟩
  ·replace h:=Ae h hc
   refine wpIn_skip (Ab<|A0<|?_)
   refine esr ?_
   refine qo 2 2 [(34,iv (ln p0))] hF (oL 22 4 0 hS.i rfl rfl<|A9) fun a hF=>?_
   refine SK.wi (qs 3 2 0 (iv (ln p0)) hF hS rfl fun w a hF hS=>?_)
   refine wfn rfl ?_
   have a3:=Frz.le_refl μ
   refine D9 (fun a w=>∃(a4:(List volume_Item)) (aE:Int) (aF:Int) (ν207:Frz) (a5:Option Addr) (a6:Nat) (aJ:List (List Value)) (Ds215:List Nat),Fr 71 (N9 Ds215) [(2,pb b5),(3,pb b6),(4,pb b7)] a∧St w0 [arr 48 21 (fN 21) a5 a4.length a6 aJ,Dg Ds215,arrT 5 1 (fK .u8) (some ⟨b8,0,none⟩) ([82,86,70,49]).length 4 ([82,86,70,49]),blk b7 25 #[iv aF],blk b6 3 #[iv aE],blk b5 24 #[sv a5 a4 a6],blk b4 22 #[sv ad1 p0 cap2],fz w0 ν207] w∧(All2 (Rp48 ν207) aJ a4)∧(μ.le ν207)∧(μ.ext w0.heap.size ν207)∧(B4 w0 ν207)∧Ke a4 aE aF=some res) ?_ ?_
   ·skip
    refine esr ?_
    refine qo 1 1 [(35,sv ad1 p0 cap2)] hF (oL 22 4 0 hS.i rfl rfl<|A9) fun a hF=>?_
    refine SK.wi (qR (fun aY=>[(36,aY)]) hF (Ni p0 _ rfl (Ay w) w (A5 w) (hA3.mono (FrzAt.le_mem (hS.frz (i:=6) rfl hlow)))) ?_)
    rintro aY w a ⟨aG,rfl,hQ⟩ hF
    replace hS:=hS.madeL hQ
    refine wfn rfl ?_
    refine wpIn_block ?_
    obtain ⟨ν221,aS,hlow,hS,bK⟩:=hS.freeze (i:=7) (j:=0) rfl rfl (by decide) hlow
    replace hA3:=hA3.mono aS.1
    replace a3:=Frz.le_trans a3 aS.1
    replace hext:=Frz.ext_trans hext aS
    have hB224:BlkM ν221 aG 22 #[sv ad1 p0 cap2]:=bK
    replace hS:=hS.nilarr 48 21 (fN 21)
    obtain ⟨a1,hr410,h⟩:=A1 h
    refine Z4 (gf:=65) (lb:=#[pb aG]) (fun l=>#[.func (.yield l) #[] #[],pb aG]) (fun H1=>∃(ν_n:Frz) (g_n:(Option Addr×Nat×List (List Value)×Unit)),H1=[arr 48 21 (fN 21) g_n.1 a1.1.1.length g_n.2.1 g_n.2.2.1,arrT 5 1 (fK .u8) (some ⟨b8,0,none⟩) ([82,86,70,49]).length 4 ([82,86,70,49]),blk b7 25 #[iv a1.1.2.2.1],blk b6 3 #[iv a1.1.2.1],blk b5 24 #[.slice g_n.1 a1.1.1.length g_n.2.1],blk b4 22 #[sv ad1 p0 cap2],Dg ([]),fz w0 ν_n]∧ν221.ext w0.heap.size ν_n∧B4 w0 ν_n∧a1.2=true∧(All2 (Rp48 ν_n) g_n.2.2.1 a1.1.1)) (fun c H1=>∃(ν_n:Frz) (g_n:(Option Addr×Nat×List (List Value)×Unit)),H1=[arr 48 21 (fN 21) g_n.1 a1.1.1.length g_n.2.1 g_n.2.2.1,arrT 5 1 (fK .u8) (some ⟨b8,0,none⟩) ([82,86,70,49]).length 4 ([82,86,70,49]),blk b7 25 #[iv a1.1.2.2.1],blk b6 3 #[iv a1.1.2.1],blk b5 24 #[.slice g_n.1 a1.1.1.length g_n.2.1],blk b4 22 #[sv ad1 p0 cap2],Dg ([]),fz w0 ν_n]∧ν221.ext w0.heap.size ν_n∧B4 w0 ν_n∧a1.2=false∧c=Hs (a1.1.2.2.2)∧(All2 (Rp48 ν_n) g_n.2.2.1 a1.1.1)) (M:=[(1,pb b4),(2,pb b5),(3,pb b6),(4,pb b7),(36,.func (.func 65) #[] #[pb aG])]) (hF.sub kr) rfl hS (fun _=>rfl) (fun _=>by kernel_rfl) ?_ ?_ ?_
    ·replace hF:Fr 71 (N9 ([])) [(1,pb b4),(2,pb b5),(3,pb b6),(4,pb b7),(36,.func (.func 65) #[] #[pb aG])] a:=hF.sub kr
     intro fn_ l2_ D2_ rec2 w hrec2 hS
     replace hS:St w0 [E0 l2_ (rec2 .ready none),E0 D2_ (.deferred (some [])),arr 48 21 (fN 21) none ([]:List volume_Item).length 0 ([]:List (List Value)),arrT 5 1 (fK .u8) (some ⟨b8,0,none⟩) ([82,86,70,49]).length 4 ([82,86,70,49]),blk b7 25 #[iv 0],blk b6 3 #[iv (ln p0)],blk b5 24 #[.slice none 0 0],blk b4 22 #[sv ad1 p0 cap2],Dg ([]),fz w0 ν221] w:=hS
     refine Calls.mono (Mr F p0 (Mo F p0) (([]:List volume_Item),(ln p0),0,0) _ hr410 l2_ ν221 w0 w (fun (s_r:((List volume_Item)×Int×Int×Nat)) (b_r:Bool) (g_r:(Option Addr×Nat×List (List Value)×Unit))=>[E0 l2_ (rec2 (bif b_r then .ready else .done) (bif b_r then none else some (Hs (s_r.2.2.2)))),E0 D2_ (.deferred (some [])),arr 48 21 (fN 21) g_r.1 s_r.1.length g_r.2.1 g_r.2.2.1,arrT 5 1 (fK .u8) (some ⟨b8,0,none⟩) ([82,86,70,49]).length 4 ([82,86,70,49]),blk b7 25 #[iv s_r.2.2.1],blk b6 3 #[iv s_r.2.1],blk b5 24 #[.slice g_r.1 s_r.1.length g_r.2.1],blk b4 22 #[sv ad1 p0 cap2],Dg ([])]) (fun (s_r:((List volume_Item)×Int×Int×Nat)) (b_r:Bool) (g_r:(Option Addr×Nat×List (List Value)×Unit)) (ν_r:Frz)=>(All2 (Rp48 ν_r) g_r.2.2.1 s_r.1)∧True) (fun _ _ _ _ _ h hle=>⟨All2.mono Rp48.mono hle h.1,trivial⟩) ?_ (none,0,[],()) [] hlow ⟨All2.nil,trivial⟩ (St.pickT (A:=[E0 l2_ (rec2 .ready none),E0 D2_ (.deferred (some [])),arr 48 21 (fN 21) none ([]:List volume_Item).length 0 ([]:List (List Value)),arrT 5 1 (fK .u8) (some ⟨b8,0,none⟩) ([82,86,70,49]).length 4 ([82,86,70,49]),blk b7 25 #[iv 0],blk b6 3 #[iv (ln p0)],blk b5 24 #[.slice none 0 0],blk b4 22 #[sv ad1 p0 cap2],Dg ([]),fz w0 ν221]) (T:=[]) [9,0,1,2,3,4,5,6,7,8] (by decide) (by simpa using hS)) hB224 hA3) ?_
     ·rintro s_r x_ q_r h ν_r g_r G_r w aH aI hxv hlow hP aK hS
      obtain ⟨a7,-⟩:=hP
      replace hA3:=hA3.mono hxv.1
      replace hB224:=hB224.mono hxv.1
      replace a3:=Frz.le_trans a3 hxv.1
      have hxr:=Frz.ext_refl w0.heap.size ν_r
      replace hext:=Frz.ext_trans hext hxv
      replace hS:St w0 (E0 l2_ (rec2 .ready none)::E0 D2_ (.deferred (some []))::arr 48 21 (fN 21) g_r.1 s_r.1.length g_r.2.1 g_r.2.2.1::arrT 5 1 (fK .u8) (some ⟨b8,0,none⟩) ([82,86,70,49]).length 4 ([82,86,70,49])::blk b7 25 #[iv s_r.2.2.1]::blk b6 3 #[iv s_r.2.1]::blk b5 24 #[.slice g_r.1 s_r.1.length g_r.2.1]::blk b4 22 #[sv ad1 p0 cap2]::Dg ([])::fz w0 ν_r::G_r) w:=St.pickT (A:=[fz w0 ν_r,E0 l2_ (rec2 .ready none),E0 D2_ (.deferred (some [])),arr 48 21 (fN 21) g_r.1 s_r.1.length g_r.2.1 g_r.2.2.1,arrT 5 1 (fK .u8) (some ⟨b8,0,none⟩) ([82,86,70,49]).length 4 ([82,86,70,49]),blk b7 25 #[iv s_r.2.2.1],blk b6 3 #[iv s_r.2.1],blk b5 24 #[.slice g_r.1 s_r.1.length g_r.2.1],blk b4 22 #[sv ad1 p0 cap2],Dg ([])]) (T:=G_r) [1,2,3,4,5,6,7,8,9,0] (by decide) hS
      rw [Mo] at h
      refine Z6 (rec:=rec2) hrec2 [(37,iv x_.1),(38,sv aH x_.2 aI)] [(1,pb b4),(2,pb b5),(3,pb b6),(4,pb b7),(37,iv x_.1),(38,sv aH x_.2 aI)] hF (by simp) rfl rfl kr hS ?_
      intro a hF
      refine rnB [(1,pb b4),(2,pb b5),(3,pb b6),(4,pb b7),(6,iv x_.1),(38,sv aH x_.2 aI)] hF fun a hF=>?_
      refine WI.region ?_
      refine qn 1 1 [(7,sv aH x_.2 aI)] hF fun a hF=>?_
      refine wfn rfl ?_
      refine ⟨_,hS,fun w hS=>?_⟩
      refine wpIn_block ?_
      refine esr ?_
      refine qn 1 1 [(40,sv aH x_.2 aI)] hF fun a hF=>?_
      obtain ⟨aQ,bH,h⟩:=A1 h
      refine SK.wi (qR (fun aZ=>[(41,aZ)]) hF (Nj F _ _ bH ν_r w (hS.frz (i:=9) rfl hlow) aK) ?_)
      rintro aZ w a ⟨ν360,b0,aD,rfl,aR,hQ⟩ hF
      replace hext:=Frz.ext_trans hext (Frz.ext_mono aD hS.ext.size)
      replace hxr:=Frz.ext_trans hxr (Frz.ext_mono aD hS.ext.size)
      obtain ⟨hlow,hS⟩:=hS.frzMerge (i:=9) rfl hlow aD hQ
      replace hA3:=hA3.mono aD.1
      replace hB224:=hB224.mono aD.1
      replace a7:=All2.mono Rp48.mono aD.1 a7
      replace aK:=aK.mono aD.1
      replace a3:=Frz.le_trans a3 aD.1
      refine qn 5 7 [(8,b0),(9,iv aQ.2)] hF fun a hF=>?_
      refine wfn rfl ?_
      refine Ar ?_
      refine qnB [(45,.bool (aQ.2 != 0))] hF fun a hF=>?_
      refine Aj hF rfl (fun hc=>?_) (fun hc=>?_)
      ·replace h:=Af h hc
       refine esr ?_
       refine qn 2 2 [(46,iv x_.1),(47,iv aQ.2)] hF fun a hF=>?_
       refine SK.wi (qs 3 5 0 (iv x_.1) hF hS rfl fun w a hF hS=>?_)
       refine SK.wi (qs 25 4 0 (iv aQ.2) hF hS rfl fun w a hF hS=>?_)
       refine wfn rfl ?_
       refine Ar ?_
       refine esr ?_
       obtain ⟨bM,bF,h⟩:=A1 h
       obtain ⟨b2,bG,h⟩:=A1 h
       obtain ⟨b3,bI,h⟩:=A1 h
       refine qx 12 12 [(59,.bool (bif (b2==(ln p0)) then b3 else false))] hF (oA 3 bF<|oA 3 bG<|oL 22 7 0 hS.e rfl rfl<|oX (.call [⟨56,true,(b2==(ln p0))⟩] 37 #[sv aH x_.2 aI] (.bool b3)) (show Ob.ok _ Ext _ _ from fun hk w2 hd=>U5 F x_.2 _ ((fun hk=>Cx bI hk) hk) _ w2 (A5 w2) (aK.mono (FrzAt.le_mem ((hS.later hd).frz (i:=9) rfl hlow))))<|A9) fun a w hF hx=>?_
       replace hS:=hS.later hx
       refine wfn rfl ?_
       refine Aj hF rfl (fun hc=>?_) (fun hc=>?_)
       ·replace h:=Af h hc
        refine WI.region ?_
        refine SK.wi (Kc (t:=25) [] 4 0 (iv 16) #[iv 16] hF hS rfl kr ⟨kr⟩ kr kr kr kr ⟨kr⟩ fun w a hF hS=>?_)
        refine wfn rfl ?_
        refine wpIn_exit (Aa<|Um rfl<|?_)
        obtain rfl:=Ao h
        refine ⟨_,hS,fun w hS=>⟨rfl,ν360,(g_r.1,g_r.2.1,g_r.2.2.1,()),hxr,hlow,⟨a7,trivial⟩,hS.s9⟩⟩
       ·replace h:=Ae h hc
        refine wpIn_skip (A0 ?_)
        refine wpIn_exit (Aa<|Um rfl<|?_)
        obtain rfl:=Ao h
        refine ⟨_,hS,fun w hS=>⟨rfl,ν360,(g_r.1,g_r.2.1,g_r.2.2.1,()),hxr,hlow,⟨a7,trivial⟩,hS.s9⟩⟩
      ·replace h:=Ae h hc
       refine wpIn_skip (A0 ?_)
       obtain ⟨a0,bJ,h⟩:=A1 h
       refine Bt 4 [2,3] _ (D:=fun w=>St w0 [E0 l2_ (rec2 .busy none),E0 D2_ (.deferred (some [])),arr 48 21 (fN 21) g_r.1 s_r.1.length g_r.2.1 g_r.2.2.1,arrT 5 1 (fK .u8) (some ⟨b8,0,none⟩) ([82,86,70,49]).length 4 ([82,86,70,49]),blk b7 25 #[iv s_r.2.2.1],blk b6 3 #[iv s_r.2.1],blk b5 24 #[.slice g_r.1 s_r.1.length g_r.2.1],blk b4 22 #[sv ad1 p0 cap2],Dg ([])] w∧FrzAt ν360 w) kr kr hF.size (fun w hx=>?_) (fun _ _ h=>h)
       replace hS:=hS.later hx
       refine ⟨⟨St.pick [0,1,2,3,4,5,6,7,8] (by decide) hS,hS.frz (i:=9) rfl hlow⟩,?_⟩
       have aN:=Frz.le_refl ν360
       refine WT.s [0,1] [2] kr kr ?_
       refine qC 2 [(60,.slice g_r.1 s_r.1.length g_r.2.1),(61,b0)] hF (oL 24 6 0 (fun _ hd=>hd.1) rfl rfl<|A9) fun a hF=>?_
       refine WRun.fin ?_
       refine all_cons ?_ (At)
       refine X4 (fun b1=>[(2,pb b5),(60,.slice g_r.1 s_r.1.length g_r.2.1),(62,b1)]) hF kr ⟨kr⟩ (Ll F _ _ bJ ν360 w (hS.frz (i:=9) rfl hlow) aR) (fun _=>⟨kr⟩) ?_
       rintro b1 w a ⟨ν394,a9,aB,b9,aA,aC,a8,rfl,bA,bB,hQ⟩ hF
       replace hext:=Frz.ext_trans hext (Frz.ext_mono a8 hS.ext.size)
       replace hxr:=Frz.ext_trans hxr (Frz.ext_mono a8 hS.ext.size)
       obtain ⟨hlow,hS⟩:=hS.frzMerge (i:=9) rfl hlow a8 hQ
       replace hA3:=hA3.mono a8.1
       replace hB224:=hB224.mono a8.1
       replace a7:=All2.mono Rp48.mono a8.1 a7
       replace aK:=aK.mono a8.1
       replace aR:=aR.mono a8.1
       replace a3:=Frz.le_trans a3 a8.1
       replace aN:=Frz.le_trans aN a8.1
       refine ⟨⟨St.pick [0,1,2,3,4,5,6,7,8] (by decide) hS,(hS.frz (i:=9) rfl hlow).low aN⟩,?_⟩
       refine WT.s [] [3] kr kr ?_
       refine WRun.fin ?_
       refine all_cons ?_ (At)
       have aV:All2 (Rp48 ν394) ([[iv a0.Kind,.string a0.Name,iv a0.Time,.string a0.Sweep.Site.Name,iv a0.Sweep.Site.X,iv a0.Sweep.Site.Y,iv a0.Sweep.Site.Z,iv a0.Sweep.Site.Rose,iv a0.Sweep.Site.Gates,iv a0.Sweep.Site.Step,iv a0.Sweep.Site.Width,iv a0.Sweep.Tilt,iv a0.Sweep.Time,sv a9 a0.Sweep.Rays aB,iv a0.Field.Grid.X,iv a0.Field.Grid.Y,iv a0.Field.Grid.Size,iv a0.Field.Grid.Wide,iv a0.Field.Grid.High,sv aA a0.Field.Vals aC,.string a0.Text]]:List (List Value)) [a0]:=(All2.cons ⟨a9,aB,b9,aA,aC,rfl,bA,bB⟩ All2.nil)
       refine Qp (e:=48) (sz:=21) (f:=fN 21) (t:=24) (len:=1) (fun aT=>[(2,pb b5),(60,.slice g_r.1 s_r.1.length g_r.2.1),(63,sb aT 1)]) #[(0,.agg #[iv a0.Kind,.string a0.Name,iv a0.Time,.string a0.Sweep.Site.Name,iv a0.Sweep.Site.X,iv a0.Sweep.Site.Y,iv a0.Sweep.Site.Z,iv a0.Sweep.Site.Rose,iv a0.Sweep.Site.Gates,iv a0.Sweep.Site.Step,iv a0.Sweep.Site.Width,iv a0.Sweep.Tilt,iv a0.Sweep.Time,sv a9 a0.Sweep.Rays aB,iv a0.Field.Grid.X,iv a0.Field.Grid.Y,iv a0.Field.Grid.Size,iv a0.Field.Grid.Wide,iv a0.Field.Grid.High,sv aA a0.Field.Vals aC,.string a0.Text])] #[iv a0.Kind,.string a0.Name,iv a0.Time,.string a0.Sweep.Site.Name,iv a0.Sweep.Site.X,iv a0.Sweep.Site.Y,iv a0.Sweep.Site.Z,iv a0.Sweep.Site.Rose,iv a0.Sweep.Site.Gates,iv a0.Sweep.Site.Step,iv a0.Sweep.Site.Width,iv a0.Sweep.Tilt,iv a0.Sweep.Time,sv a9 a0.Sweep.Rays aB,iv a0.Field.Grid.X,iv a0.Field.Grid.Y,iv a0.Field.Grid.Size,iv a0.Field.Grid.Wide,iv a0.Field.Grid.High,sv aA a0.Field.Vals aC,.string a0.Text] ([[iv a0.Kind,.string a0.Name,iv a0.Time,.string a0.Sweep.Site.Name,iv a0.Sweep.Site.X,iv a0.Sweep.Site.Y,iv a0.Sweep.Site.Z,iv a0.Sweep.Site.Rose,iv a0.Sweep.Site.Gates,iv a0.Sweep.Site.Step,iv a0.Sweep.Site.Width,iv a0.Sweep.Tilt,iv a0.Sweep.Time,sv a9 a0.Sweep.Rays aB,iv a0.Field.Grid.X,iv a0.Field.Grid.Y,iv a0.Field.Grid.Size,iv a0.Field.Grid.Wide,iv a0.Field.Grid.High,sv aA a0.Field.Vals aC,.string a0.Text]]:List (List Value)) ([a0]) hF hS kr ⟨kr⟩ kr (Bz 21) rfl rfl rfl kr (fun _=>⟨kr⟩) fun aT w a hF hS=>⟨⟨St.pick [1,2,3,4,5,6,7,8,9] (by decide) hS,(hS.frz (i:=10) rfl hlow).low aN⟩,?_⟩
       refine WT.z [] kr ?_
       refine WRun.fin ?_
       obtain ⟨aP,aU,h⟩:=A1 h
       have bE:All2 (Rp48 ν394) (g_r.2.2.1++([[iv a0.Kind,.string a0.Name,iv a0.Time,.string a0.Sweep.Site.Name,iv a0.Sweep.Site.X,iv a0.Sweep.Site.Y,iv a0.Sweep.Site.Z,iv a0.Sweep.Site.Rose,iv a0.Sweep.Site.Gates,iv a0.Sweep.Site.Step,iv a0.Sweep.Site.Width,iv a0.Sweep.Tilt,iv a0.Sweep.Time,sv a9 a0.Sweep.Rays aB,iv a0.Field.Grid.X,iv a0.Field.Grid.Y,iv a0.Field.Grid.Size,iv a0.Field.Grid.Wide,iv a0.Field.Grid.High,sv aA a0.Field.Vals aC,.string a0.Text]]:List (List Value))) aP:=by rw [(M5 aU).1];exact All2.app a7 aV
       refine SK.wi (X1 (t:=24) (ty:=24) (bytes:=224) (c:=g_r.2.2.1) (c':=([[iv a0.Kind,.string a0.Name,iv a0.Time,.string a0.Sweep.Site.Name,iv a0.Sweep.Site.X,iv a0.Sweep.Site.Y,iv a0.Sweep.Site.Z,iv a0.Sweep.Site.Rose,iv a0.Sweep.Site.Gates,iv a0.Sweep.Site.Step,iv a0.Sweep.Site.Width,iv a0.Sweep.Tilt,iv a0.Sweep.Time,sv a9 a0.Sweep.Rays aB,iv a0.Field.Grid.X,iv a0.Field.Grid.Y,iv a0.Field.Grid.Size,iv a0.Field.Grid.Wide,iv a0.Field.Grid.High,sv aA a0.Field.Vals aC,.string a0.Text]]:List (List Value))) (l:=s_r.1) (l':=([a0])) (fun aL aM=>[(2,pb b5),(64,sv aL aP aM)]) 3 hF hS rfl kr ⟨kr⟩ kr (hS.arr (i:=0) rfl) (ArrQ.one aV Rp48.one) aU (fun _ _=>⟨kr⟩) fun aL aM w a hF hS=>?_)
       refine SK.wi (Kc (t:=24) [] 7 0 (sv aL aP aM) #[sv aL aP aM] hF hS rfl kr ⟨kr⟩ kr kr kr kr ⟨kr⟩ fun w a hF hS=>?_)
       refine WI.fin rfl (Ab ?_)
       obtain rfl:=Ao h
       refine ⟨_,hS.s1,fun w hS=>⟨rfl,ν394,(aL,aM,(g_r.2.2.1++([[iv a0.Kind,.string a0.Name,iv a0.Time,.string a0.Sweep.Site.Name,iv a0.Sweep.Site.X,iv a0.Sweep.Site.Y,iv a0.Sweep.Site.Z,iv a0.Sweep.Site.Rose,iv a0.Sweep.Site.Gates,iv a0.Sweep.Site.Step,iv a0.Sweep.Site.Width,iv a0.Sweep.Tilt,iv a0.Sweep.Time,sv a9 a0.Sweep.Rays aB,iv a0.Field.Grid.X,iv a0.Field.Grid.Y,iv a0.Field.Grid.Size,iv a0.Field.Grid.Wide,iv a0.Field.Grid.High,sv aA a0.Field.Vals aC,.string a0.Text]]:List (List Value))),()),hxr,hlow,⟨bE,trivial⟩,hS.d1.s9⟩⟩
     ·rintro e w2 ⟨ν_n,g_n,hxn,hlown,hPn,rfl,hSn⟩
      refine ⟨_,rfl,?_⟩
      obtain ⟨nhq351,-⟩:=hPn
      rcases Bool.eq_false_or_eq_true a1.2 with hb_|hb_
      ·rw [hb_] at hSn
       refine .inl ⟨_,⟨ν_n,g_n,rfl,hxn,hlown,hb_,nhq351⟩,(by have:=St.pickT (A:=[fz w0 ν_n,E0 l2_ (rec2 .ready none),E0 D2_ (.deferred (some [])),arr 48 21 (fN 21) g_n.1 a1.1.1.length g_n.2.1 g_n.2.2.1,arrT 5 1 (fK .u8) (some ⟨b8,0,none⟩) ([82,86,70,49]).length 4 ([82,86,70,49]),blk b7 25 #[iv a1.1.2.2.1],blk b6 3 #[iv a1.1.2.1],blk b5 24 #[.slice g_n.1 a1.1.1.length g_n.2.1],blk b4 22 #[sv ad1 p0 cap2],Dg ([])]) (T:=[]) [1,2,3,4,5,6,7,8,9,0] (by decide) hSn;simpa using this)⟩
      ·rw [hb_] at hSn
       refine .inr ⟨_,_,⟨ν_n,g_n,rfl,hxn,hlown,hb_,rfl,nhq351⟩,(by have:=St.pickT (A:=[fz w0 ν_n,E0 l2_ (rec2 .done (some (Hs (a1.1.2.2.2)))),E0 D2_ (.deferred (some [])),arr 48 21 (fN 21) g_n.1 a1.1.1.length g_n.2.1 g_n.2.2.1,arrT 5 1 (fK .u8) (some ⟨b8,0,none⟩) ([82,86,70,49]).length 4 ([82,86,70,49]),blk b7 25 #[iv a1.1.2.2.1],blk b6 3 #[iv a1.1.2.1],blk b5 24 #[.slice g_n.1 a1.1.1.length g_n.2.1],blk b4 22 #[sv ad1 p0 cap2],Dg ([])]) (T:=[]) [1,2,3,4,5,6,7,8,9,0] (by decide) hSn;simpa using this)⟩
    ·rintro D413 a w _ ⟨ν412,a2,rfl,hxn,hlow,hb_,a7⟩ hF hS
     replace hA3:=hA3.mono hxn.1
     replace hB224:=hB224.mono hxn.1
     replace a3:=Frz.le_trans a3 hxn.1
     replace hext:=Frz.ext_trans hext hxn
     replace hS:St w0 [E0 D413 (.deferred (some [])),arr 48 21 (fN 21) a2.1 a1.1.1.length a2.2.1 a2.2.2.1,arrT 5 1 (fK .u8) (some ⟨b8,0,none⟩) ([82,86,70,49]).length 4 ([82,86,70,49]),blk b7 25 #[iv a1.1.2.2.1],blk b6 3 #[iv a1.1.2.1],blk b5 24 #[.slice a2.1 a1.1.1.length a2.2.1],blk b4 22 #[sv ad1 p0 cap2],Dg ([]),fz w0 ν412] w:=hS
     replace hS:=St.mark (St.pick [0,7,1,2,3,4,5,6,8] (by decide) hS)
     replace hS:St w0 [Dg (D413::[]),arr 48 21 (fN 21) a2.1 a1.1.1.length a2.2.1 a2.2.2.1,arrT 5 1 (fK .u8) (some ⟨b8,0,none⟩) ([82,86,70,49]).length 4 ([82,86,70,49]),blk b7 25 #[iv a1.1.2.2.1],blk b6 3 #[iv a1.1.2.1],blk b5 24 #[.slice a2.1 a1.1.1.length a2.2.1],blk b4 22 #[sv ad1 p0 cap2],fz w0 ν412] w:=hS
     replace hF:Fr 71 (N9 (D413::[])) [(1,pb b4),(2,pb b5),(3,pb b6),(4,pb b7),(36,.func (.func 65) #[] #[pb aG])] a:=hF
     replace h:=Af h hb_
     refine Ab<|A0<|?_
     replace hF:Fr 71 (N9 (D413::[])) [(2,pb b5),(3,pb b6),(4,pb b7)] a:=hF.sub kr
     exact ⟨a1.1.1,a1.1.2.1,a1.1.2.2.1,ν412,a2.1,a2.2.1,a2.2.2.1,(D413::[]),hF.sub kr,St.pick [1,0,2,3,4,5,6,7] (by decide) hS,a7,a3,hext,hlow,h⟩
    rintro D413 _ a w _ ⟨ν412,a2,rfl,hxn,hlow,hb_,rfl,a7⟩ hF hS
    replace hA3:=hA3.mono hxn.1
    replace hB224:=hB224.mono hxn.1
    replace a3:=Frz.le_trans a3 hxn.1
    replace hext:=Frz.ext_trans hext hxn
    replace hS:St w0 [E0 D413 (.deferred (some [])),arr 48 21 (fN 21) a2.1 a1.1.1.length a2.2.1 a2.2.2.1,arrT 5 1 (fK .u8) (some ⟨b8,0,none⟩) ([82,86,70,49]).length 4 ([82,86,70,49]),blk b7 25 #[iv a1.1.2.2.1],blk b6 3 #[iv a1.1.2.1],blk b5 24 #[.slice a2.1 a1.1.1.length a2.2.1],blk b4 22 #[sv ad1 p0 cap2],Dg ([]),fz w0 ν412] w:=hS
    replace hS:=St.mark (St.pick [0,7,1,2,3,4,5,6,8] (by decide) hS)
    replace hS:St w0 [Dg (D413::[]),arr 48 21 (fN 21) a2.1 a1.1.1.length a2.2.1 a2.2.2.1,arrT 5 1 (fK .u8) (some ⟨b8,0,none⟩) ([82,86,70,49]).length 4 ([82,86,70,49]),blk b7 25 #[iv a1.1.2.2.1],blk b6 3 #[iv a1.1.2.1],blk b5 24 #[.slice a2.1 a1.1.1.length a2.2.1],blk b4 22 #[sv ad1 p0 cap2],fz w0 ν412] w:=hS
    replace hF:Fr 71 (N9 (D413::[])) [(1,pb b4),(2,pb b5),(3,pb b6),(4,pb b7),(36,.func (.func 65) #[] #[pb aG])] a:=hF
    replace h:=Ae h hb_
    rcases Bool.eq_false_or_eq_true (a1.1.2.2.2==3) with aO|aO
    ·replace h:=Af h aO
     rw [show Hs (a1.1.2.2.2)=Code.exit 1 from by rw [Hs];simp only [aO];rfl]
     refine wpIn_exit (Av<|A0 ?_)
     exact ⟨a1.1.1,a1.1.2.1,a1.1.2.2.1,ν412,a2.1,a2.2.1,a2.2.2.1,(D413::[]),hF.sub kr,St.pick [1,0,2,3,4,5,6,7] (by decide) hS,a7,a3,hext,hlow,h⟩
    ·replace h:=Ae h aO
     cases h
   clear a3
   rintro a w ⟨a4,aE,aF,ν207,a5,a6,aJ,Ds215,hF,hS,bD,bC,hext,hlow,h⟩
   replace hA3:=hA3.mono bC
   rw [Ke] at h
   refine Ar ?_
   refine qoB [(67,.bool (decide ((ln a4)>1000)))] hF (oL 24 5 0 hS.i rfl rfl<|A9) fun a hF=>?_
   refine Aj hF rfl (fun hc=>?_) (fun hc=>?_)
   ·replace h:=Af h hc
    refine esr ?_
    refine SK.wi (qs 24 5 0 (.slice none 0 0) hF hS rfl fun w a hF hS=>?_)
    refine SK.wi (qs 3 4 0 (iv 0) hF hS rfl fun w a hF hS=>?_)
    refine SK.wi (qs 25 3 0 (iv 9) hF hS rfl fun w a hF hS=>?_)
    refine wfn rfl ?_
    refine wpIn_ret (A6<|Nq (H:=[arr 48 21 (fN 21) a5 a4.length a6 aJ,arrT 5 1 (fK .u8) (some ⟨b8,0,none⟩) ([82,86,70,49]).length 4 ([82,86,70,49]),blk b7 25 #[iv 9],blk b6 3 #[iv 0],blk b5 24 #[.slice none 0 0],blk b4 22 #[sv ad1 p0 cap2],fz w0 ν207]) [.cell 2 24,.cell 3 3,.cell 4 25] [.slice none 0 0,iv 0,iv 9] hF (St.pick [1,0,2,3,4,5,6,7] (by decide) hS) rfl fun w hS=>⟨⟨⟨_,rfl,Be kr (hS.cell (i:=4) (j:=0) rfl rfl)⟩,⟨_,rfl,Be kr (hS.cell (i:=3) (j:=0) rfl rfl)⟩,⟨_,rfl,Be kr (hS.cell (i:=2) (j:=0) rfl rfl)⟩,trivial⟩,?_⟩)
    obtain rfl:=Ao h
    replace hS:=hS.nilarr 48 21 (fN 21)
    exact ⟨_,rfl,ν207,_,_,_,hext,rfl,All2.nil,St.pick [7,0] (by decide) hS⟩
   ·replace h:=Ae h hc
    refine wpIn_skip (A0 ?_)
    refine Ar ?_
    refine Bt 5 [3,4] _ (D:=fun w=>St w0 [arr 48 21 (fN 21) a5 a4.length a6 aJ,Dg Ds215,arrT 5 1 (fK .u8) (some ⟨b8,0,none⟩) ([82,86,70,49]).length 4 ([82,86,70,49]),blk b7 25 #[iv aF],blk b6 3 #[iv aE],blk b5 24 #[sv a5 a4 a6],blk b4 22 #[sv ad1 p0 cap2]] w∧FrzAt ν207 w) kr kr hF.size (fun w hx=>?_) (fun _ _ h=>h)
    replace hS:=hS.later hx
    refine ⟨⟨St.pick [0,1,2,3,4,5,6] (by decide) hS,hS.frz (i:=7) rfl hlow⟩,?_⟩
    have bL:=Frz.le_refl ν207
    refine WT.s [0,1,2] [3] kr kr ?_
    refine qC 3 [(68,sv a5 a4 a6),(69,iv aE),(70,iv aF)] hF (oL 24 5 0 (fun _ hd=>hd.1) rfl rfl<|oL 3 4 0 (fun _ hd=>hd.1) rfl rfl<|oL 25 3 0 (fun _ hd=>hd.1) rfl rfl<|A9) fun a hF=>?_
    refine WRun.fin ?_
    refine all_cons ?_ (At)
    refine qs 24 5 0 (sv a5 a4 a6) hF hS rfl fun w a hF hS=>⟨⟨St.pick [0,1,2,3,4,5,6] (by decide) hS,(hS.frz (i:=7) rfl hlow)⟩,?_⟩
    refine WT.s [] [4] kr kr ?_
    refine WRun.fin ?_
    refine all_cons ?_ (At)
    refine qs 3 4 0 (iv aE) hF hS rfl fun w a hF hS=>⟨⟨St.pick [0,1,2,3,4,5,6] (by decide) hS,(hS.frz (i:=7) rfl hlow)⟩,?_⟩
    refine WT.z [] kr ?_
    refine WRun.fin ?_
    refine SK.wi (qs 25 3 0 (iv aF) hF hS rfl fun w a hF hS=>?_)
    refine wfn rfl ?_
    refine wpIn_ret (Nq (H:=[arr 48 21 (fN 21) a5 a4.length a6 aJ,arrT 5 1 (fK .u8) (some ⟨b8,0,none⟩) ([82,86,70,49]).length 4 ([82,86,70,49]),blk b7 25 #[iv aF],blk b6 3 #[iv aE],blk b5 24 #[sv a5 a4 a6],blk b4 22 #[sv ad1 p0 cap2],fz w0 ν207]) [.cell 2 24,.cell 3 3,.cell 4 25] [sv a5 a4 a6,iv aE,iv aF] hF (St.pick [1,0,2,3,4,5,6,7] (by decide) hS) rfl fun w hS=>⟨⟨⟨_,rfl,Be kr (hS.cell (i:=4) (j:=0) rfl rfl)⟩,⟨_,rfl,Be kr (hS.cell (i:=3) (j:=0) rfl rfl)⟩,⟨_,rfl,Be kr (hS.cell (i:=2) (j:=0) rfl rfl)⟩,trivial⟩,?_⟩)
    obtain rfl:=Ao h
    exact ⟨_,rfl,ν207,_,_,_,hext,rfl,bD,St.pick [6,0] (by decide) hS⟩
theorem S0 (F:Nat) (p0:(List Int)) (res:((List volume_Item)×Int×Int)) (h:Mp F p0=some res) (μ:Frz) (w0:World) (hm:FrzAt μ w0) {ad1:Option Addr} {cap2:Nat} (hA3:ArrM μ 1 (fK .u8) ad1 cap2 p0):Bj Tryz.prog 13 #[sv ad1 p0 cap2] w0 (fun e w=>∃(ν_:Frz) (zad0:Option Addr) (zcap0:Nat) (zcss0:List (List Value)),μ.ext w0.heap.size ν_∧e=(.tuple #[sv zad0 res.1 zcap0,iv res.2.1,iv res.2.2])∧All2 (Rp48 ν_) zcss0 res.1∧St w0 [fz w0 ν_,arr 48 21 (fN 21) zad0 res.1.length zcap0 zcss0] w):=by
 obtain ⟨hlow,hS⟩:=hm.init
 have hext:=Frz.ext_refl w0.heap.size μ
 rw [Mp] at h
 refine Tf Tryz.func13 rfl 35 [(0,sv ad1 p0 cap2)] rfl rfl kr fun a w hw hF=>?_
 replace hS:=hS.cast hw
 clear hw
 replace hS:=hS.noMarks
 refine esr ?_
 refine SK.wi (Kp (t:=24) (fun b4=>[(0,sv ad1 p0 cap2),(2,pb b4)]) #[.slice none 0 0] hF hS kr ⟨kr⟩ kr (fun _=>⟨kr⟩) fun b4 w a hF hS=>?_)
 refine SK.wi (Kp (t:=3) (fun b5=>[(0,sv ad1 p0 cap2),(2,pb b4),(3,pb b5)]) #[iv 0] hF hS kr ⟨kr⟩ kr (fun _=>⟨kr⟩) fun b5 w a hF hS=>?_)
 refine rn 1 3 [(0,sv ad1 p0 cap2),(2,pb b4),(3,pb b5),(4,iv 0)] hF fun a hF=>?_
 refine wfn rfl ?_
 refine Ar ?_
 refine qnB [(11,.bool (decide ((ln p0)>16777216)))] hF fun a hF=>?_
 refine Aj hF rfl (fun hc=>?_) (fun hc=>?_)
 ·replace h:=Af h hc
  refine esr ?_
  refine SK.wi (qs 24 1 0 (.slice none 0 0) hF hS rfl fun w a hF hS=>?_)
  refine SK.wi (qs 3 0 0 (iv 0) hF hS rfl fun w a hF hS=>?_)
  refine rn 1 3 [(2,pb b4),(3,pb b5),(4,iv 8)] hF fun a hF=>?_
  refine wfn rfl ?_
  refine wpIn_ret (A6<|Nq (H:=[blk b5 3 #[iv 0],blk b4 24 #[.slice none 0 0],fz w0 μ]) [.cell 2 24,.cell 3 3,.tmp 4] [.slice none 0 0,iv 0,iv 8] hF (St.pick [2,0,1,3] (by decide) hS) rfl fun w hS=>⟨⟨⟨_,rfl,Be kr (hS.cell (i:=1) (j:=0) rfl rfl)⟩,⟨_,rfl,Be kr (hS.cell (i:=0) (j:=0) rfl rfl)⟩,rfl,trivial⟩,?_⟩)
  obtain rfl:=Ao h
  replace hS:=hS.nilarr 48 21 (fN 21)
  exact ⟨_,rfl,μ,_,_,_,hext,rfl,All2.nil,St.pick [3,0] (by decide) hS⟩
 ·replace h:=Ae h hc
  refine wpIn_skip (A0 ?_)
  refine Ar ?_
  refine esr ?_
  refine qn 1 1 [(12,sv ad1 p0 cap2)] hF fun a hF=>?_
  refine SK.wi (qR (fun v6=>[(13,v6)]) hF (Ni p0 _ rfl (Ay w) w (A5 w) (hA3.mono (FrzAt.le_mem (hS.frz (i:=3) rfl hlow)))) ?_)
  rintro v6 w a ⟨b7,rfl,hQ⟩ hF
  replace hS:=hS.madeL hQ
  refine wfn rfl ?_
  refine wpIn_block ?_
  obtain ⟨ν8,hx9,hlow,hS,aX⟩:=hS.freeze (i:=4) (j:=0) rfl rfl (by decide) hlow
  replace hA3:=hA3.mono hx9.1
  replace hext:=Frz.ext_trans hext hx9
  have hB11:BlkM ν8 b7 22 #[sv ad1 p0 cap2]:=aX
  replace hS:=hS.nilarr 48 21 (fN 21)
  obtain ⟨a1,hr189,h⟩:=A1 h
  refine Z4 (gf:=65) (lb:=#[pb b7]) (fun l=>#[.func (.yield l) #[] #[],pb b7]) (fun H1=>∃(ν_n:Frz) (g_n:(Option Addr×Nat×List (List Value)×Unit)),H1=[arr 48 21 (fN 21) g_n.1 a1.1.1.length g_n.2.1 g_n.2.2.1,blk b5 3 #[iv a1.1.2.1],blk b4 24 #[.slice g_n.1 a1.1.1.length g_n.2.1],Dg ([]),fz w0 ν_n]∧ν8.ext w0.heap.size ν_n∧B4 w0 ν_n∧a1.2=true∧(All2 (Rp48 ν_n) g_n.2.2.1 a1.1.1)) (fun c H1=>∃(ν_n:Frz) (g_n:(Option Addr×Nat×List (List Value)×Unit)),H1=[arr 48 21 (fN 21) g_n.1 a1.1.1.length g_n.2.1 g_n.2.2.1,blk b5 3 #[iv a1.1.2.1],blk b4 24 #[.slice g_n.1 a1.1.1.length g_n.2.1],Dg ([]),fz w0 ν_n]∧ν8.ext w0.heap.size ν_n∧B4 w0 ν_n∧a1.2=false∧c=Kg (a1.1.2.2)∧(All2 (Rp48 ν_n) g_n.2.2.1 a1.1.1)) (M:=[(2,pb b4),(3,pb b5),(4,iv 0),(13,.func (.func 65) #[] #[pb b7])]) (hF.sub kr) rfl hS (fun _=>rfl) (fun _=>by kernel_rfl) ?_ ?_ ?_
  ·replace hF:Fr 35 (N9 ([])) [(2,pb b4),(3,pb b5),(4,iv 0),(13,.func (.func 65) #[] #[pb b7])] a:=hF.sub kr
   intro fn_ l1_ D1_ rec1 w hrec1 hS
   replace hS:St w0 [E0 l1_ (rec1 .ready none),E0 D1_ (.deferred (some [])),arr 48 21 (fN 21) none ([]:List volume_Item).length 0 ([]:List (List Value)),blk b5 3 #[iv 0],blk b4 24 #[.slice none 0 0],Dg ([]),fz w0 ν8] w:=hS
   refine Calls.mono (Mr F p0 (Kf F) (([]:List volume_Item),0,0) _ hr189 l1_ ν8 w0 w (fun (s_r:((List volume_Item)×Int×Nat)) (b_r:Bool) (g_r:(Option Addr×Nat×List (List Value)×Unit))=>[E0 l1_ (rec1 (bif b_r then .ready else .done) (bif b_r then none else some (Kg (s_r.2.2)))),E0 D1_ (.deferred (some [])),arr 48 21 (fN 21) g_r.1 s_r.1.length g_r.2.1 g_r.2.2.1,blk b5 3 #[iv s_r.2.1],blk b4 24 #[.slice g_r.1 s_r.1.length g_r.2.1],Dg ([])]) (fun (s_r:((List volume_Item)×Int×Nat)) (b_r:Bool) (g_r:(Option Addr×Nat×List (List Value)×Unit)) (ν_r:Frz)=>(All2 (Rp48 ν_r) g_r.2.2.1 s_r.1)∧True) (fun _ _ _ _ _ h hle=>⟨All2.mono Rp48.mono hle h.1,trivial⟩) ?_ (none,0,[],()) [] hlow ⟨All2.nil,trivial⟩ (St.pickT (A:=[E0 l1_ (rec1 .ready none),E0 D1_ (.deferred (some [])),arr 48 21 (fN 21) none ([]:List volume_Item).length 0 ([]:List (List Value)),blk b5 3 #[iv 0],blk b4 24 #[.slice none 0 0],Dg ([]),fz w0 ν8]) (T:=[]) [6,0,1,2,3,4,5] (by decide) (by simpa using hS)) hB11 hA3) ?_
   ·rintro s_r x_ q_r h ν_r g_r G_r w aD aE hxv hlow hP aC hS
    obtain ⟨a3,-⟩:=hP
    replace hA3:=hA3.mono hxv.1
    replace hB11:=hB11.mono hxv.1
    have hxr:=Frz.ext_refl w0.heap.size ν_r
    replace hext:=Frz.ext_trans hext hxv
    replace hS:St w0 (E0 l1_ (rec1 .ready none)::E0 D1_ (.deferred (some []))::arr 48 21 (fN 21) g_r.1 s_r.1.length g_r.2.1 g_r.2.2.1::blk b5 3 #[iv s_r.2.1]::blk b4 24 #[.slice g_r.1 s_r.1.length g_r.2.1]::Dg ([])::fz w0 ν_r::G_r) w:=St.pickT (A:=[fz w0 ν_r,E0 l1_ (rec1 .ready none),E0 D1_ (.deferred (some [])),arr 48 21 (fN 21) g_r.1 s_r.1.length g_r.2.1 g_r.2.2.1,blk b5 3 #[iv s_r.2.1],blk b4 24 #[.slice g_r.1 s_r.1.length g_r.2.1],Dg ([])]) (T:=G_r) [1,2,3,4,5,6,0] (by decide) hS
    rw [Kf] at h
    refine Z6 (rec:=rec1) hrec1 [(14,iv x_.1),(15,sv aD x_.2 aE)] [(2,pb b4),(3,pb b5),(14,iv x_.1),(15,sv aD x_.2 aE)] hF (by simp) rfl rfl kr hS ?_
    intro a hF
    refine WI.region ?_
    refine rn 1 1 [(2,pb b4),(3,pb b5),(6,sv aD x_.2 aE)] hF fun a hF=>?_
    refine wfn rfl ?_
    refine ⟨_,hS,fun w hS=>?_⟩
    refine wpIn_block ?_
    refine esr ?_
    refine qn 1 1 [(17,sv aD x_.2 aE)] hF fun a hF=>?_
    obtain ⟨aP,aV,h⟩:=A1 h
    refine SK.wi (qR (fun aM=>[(18,aM)]) hF (Nj F _ _ aV ν_r w (hS.frz (i:=6) rfl hlow) aC) ?_)
    rintro aM w a ⟨ν141,aN,a9,rfl,aH,hQ⟩ hF
    replace hext:=Frz.ext_trans hext (Frz.ext_mono a9 hS.ext.size)
    replace hxr:=Frz.ext_trans hxr (Frz.ext_mono a9 hS.ext.size)
    obtain ⟨hlow,hS⟩:=hS.frzMerge (i:=6) rfl hlow a9 hQ
    replace hA3:=hA3.mono a9.1
    replace hB11:=hB11.mono a9.1
    replace a3:=All2.mono Rp48.mono a9.1 a3
    replace aC:=aC.mono a9.1
    refine qn 5 7 [(7,aN),(8,iv aP.2)] hF fun a hF=>?_
    refine wfn rfl ?_
    refine qnB [(22,.bool (aP.2==0))] hF fun a hF=>?_
    refine Aj hF rfl (fun hc=>?_) (fun hc=>?_)
    ·replace h:=Af h hc
     obtain ⟨a0,aW,h⟩:=A1 h
     refine Bt 4 [2,3] _ (D:=fun w=>St w0 [E0 l1_ (rec1 .busy none),E0 D1_ (.deferred (some [])),arr 48 21 (fN 21) g_r.1 s_r.1.length g_r.2.1 g_r.2.2.1,blk b5 3 #[iv s_r.2.1],blk b4 24 #[.slice g_r.1 s_r.1.length g_r.2.1],Dg ([])] w∧FrzAt ν141 w) kr kr hF.size (fun w hx=>?_) (fun _ _ h=>h)
     replace hS:=hS.later hx
     refine ⟨⟨St.pick [0,1,2,3,4,5] (by decide) hS,hS.frz (i:=6) rfl hlow⟩,?_⟩
     have aF:=Frz.le_refl ν141
     refine WT.s [0,1] [2] kr kr ?_
     refine qC 2 [(23,.slice g_r.1 s_r.1.length g_r.2.1),(24,aN)] hF (oL 24 4 0 (fun _ hd=>hd.1) rfl rfl<|A9) fun a hF=>?_
     refine WRun.fin ?_
     refine all_cons ?_ (At)
     refine X4 (fun aO=>[(2,pb b4),(23,.slice g_r.1 s_r.1.length g_r.2.1),(25,aO)]) hF kr ⟨kr⟩ (Ll F _ _ aW ν141 w (hS.frz (i:=6) rfl hlow) aH) (fun _=>⟨kr⟩) ?_
     rintro aO w a ⟨ν172,a5,a7,aQ,a6,a8,a4,rfl,aR,aS,hQ⟩ hF
     replace hext:=Frz.ext_trans hext (Frz.ext_mono a4 hS.ext.size)
     replace hxr:=Frz.ext_trans hxr (Frz.ext_mono a4 hS.ext.size)
     obtain ⟨hlow,hS⟩:=hS.frzMerge (i:=6) rfl hlow a4 hQ
     replace hA3:=hA3.mono a4.1
     replace hB11:=hB11.mono a4.1
     replace a3:=All2.mono Rp48.mono a4.1 a3
     replace aC:=aC.mono a4.1
     replace aH:=aH.mono a4.1
     replace aF:=Frz.le_trans aF a4.1
     refine ⟨⟨St.pick [0,1,2,3,4,5] (by decide) hS,(hS.frz (i:=6) rfl hlow).low aF⟩,?_⟩
     refine WT.s [] [3] kr kr ?_
     refine WRun.fin ?_
     refine all_cons ?_ (At)
     have aL:All2 (Rp48 ν172) ([[iv a0.Kind,.string a0.Name,iv a0.Time,.string a0.Sweep.Site.Name,iv a0.Sweep.Site.X,iv a0.Sweep.Site.Y,iv a0.Sweep.Site.Z,iv a0.Sweep.Site.Rose,iv a0.Sweep.Site.Gates,iv a0.Sweep.Site.Step,iv a0.Sweep.Site.Width,iv a0.Sweep.Tilt,iv a0.Sweep.Time,sv a5 a0.Sweep.Rays a7,iv a0.Field.Grid.X,iv a0.Field.Grid.Y,iv a0.Field.Grid.Size,iv a0.Field.Grid.Wide,iv a0.Field.Grid.High,sv a6 a0.Field.Vals a8,.string a0.Text]]:List (List Value)) [a0]:=(All2.cons ⟨a5,a7,aQ,a6,a8,rfl,aR,aS⟩ All2.nil)
     refine Qp (e:=48) (sz:=21) (f:=fN 21) (t:=24) (len:=1) (fun aJ=>[(2,pb b4),(23,.slice g_r.1 s_r.1.length g_r.2.1),(26,sb aJ 1)]) #[(0,.agg #[iv a0.Kind,.string a0.Name,iv a0.Time,.string a0.Sweep.Site.Name,iv a0.Sweep.Site.X,iv a0.Sweep.Site.Y,iv a0.Sweep.Site.Z,iv a0.Sweep.Site.Rose,iv a0.Sweep.Site.Gates,iv a0.Sweep.Site.Step,iv a0.Sweep.Site.Width,iv a0.Sweep.Tilt,iv a0.Sweep.Time,sv a5 a0.Sweep.Rays a7,iv a0.Field.Grid.X,iv a0.Field.Grid.Y,iv a0.Field.Grid.Size,iv a0.Field.Grid.Wide,iv a0.Field.Grid.High,sv a6 a0.Field.Vals a8,.string a0.Text])] #[iv a0.Kind,.string a0.Name,iv a0.Time,.string a0.Sweep.Site.Name,iv a0.Sweep.Site.X,iv a0.Sweep.Site.Y,iv a0.Sweep.Site.Z,iv a0.Sweep.Site.Rose,iv a0.Sweep.Site.Gates,iv a0.Sweep.Site.Step,iv a0.Sweep.Site.Width,iv a0.Sweep.Tilt,iv a0.Sweep.Time,sv a5 a0.Sweep.Rays a7,iv a0.Field.Grid.X,iv a0.Field.Grid.Y,iv a0.Field.Grid.Size,iv a0.Field.Grid.Wide,iv a0.Field.Grid.High,sv a6 a0.Field.Vals a8,.string a0.Text] ([[iv a0.Kind,.string a0.Name,iv a0.Time,.string a0.Sweep.Site.Name,iv a0.Sweep.Site.X,iv a0.Sweep.Site.Y,iv a0.Sweep.Site.Z,iv a0.Sweep.Site.Rose,iv a0.Sweep.Site.Gates,iv a0.Sweep.Site.Step,iv a0.Sweep.Site.Width,iv a0.Sweep.Tilt,iv a0.Sweep.Time,sv a5 a0.Sweep.Rays a7,iv a0.Field.Grid.X,iv a0.Field.Grid.Y,iv a0.Field.Grid.Size,iv a0.Field.Grid.Wide,iv a0.Field.Grid.High,sv a6 a0.Field.Vals a8,.string a0.Text]]:List (List Value)) ([a0]) hF hS kr ⟨kr⟩ kr (Bz 21) rfl rfl rfl kr (fun _=>⟨kr⟩) fun aJ w a hF hS=>⟨⟨St.pick [1,2,3,4,5,6] (by decide) hS,(hS.frz (i:=7) rfl hlow).low aF⟩,?_⟩
     refine WT.z [] kr ?_
     refine WRun.fin ?_
     obtain ⟨aG,aK,h⟩:=A1 h
     have aT:All2 (Rp48 ν172) (g_r.2.2.1++([[iv a0.Kind,.string a0.Name,iv a0.Time,.string a0.Sweep.Site.Name,iv a0.Sweep.Site.X,iv a0.Sweep.Site.Y,iv a0.Sweep.Site.Z,iv a0.Sweep.Site.Rose,iv a0.Sweep.Site.Gates,iv a0.Sweep.Site.Step,iv a0.Sweep.Site.Width,iv a0.Sweep.Tilt,iv a0.Sweep.Time,sv a5 a0.Sweep.Rays a7,iv a0.Field.Grid.X,iv a0.Field.Grid.Y,iv a0.Field.Grid.Size,iv a0.Field.Grid.Wide,iv a0.Field.Grid.High,sv a6 a0.Field.Vals a8,.string a0.Text]]:List (List Value))) aG:=by rw [(M5 aK).1];exact All2.app a3 aL
     refine SK.wi (X1 (t:=24) (ty:=24) (bytes:=224) (c:=g_r.2.2.1) (c':=([[iv a0.Kind,.string a0.Name,iv a0.Time,.string a0.Sweep.Site.Name,iv a0.Sweep.Site.X,iv a0.Sweep.Site.Y,iv a0.Sweep.Site.Z,iv a0.Sweep.Site.Rose,iv a0.Sweep.Site.Gates,iv a0.Sweep.Site.Step,iv a0.Sweep.Site.Width,iv a0.Sweep.Tilt,iv a0.Sweep.Time,sv a5 a0.Sweep.Rays a7,iv a0.Field.Grid.X,iv a0.Field.Grid.Y,iv a0.Field.Grid.Size,iv a0.Field.Grid.Wide,iv a0.Field.Grid.High,sv a6 a0.Field.Vals a8,.string a0.Text]]:List (List Value))) (l:=s_r.1) (l':=([a0])) (fun aA aB=>[(2,pb b4),(27,sv aA aG aB)]) 3 hF hS rfl kr ⟨kr⟩ kr (hS.arr (i:=0) rfl) (ArrQ.one aL Rp48.one) aK (fun _ _=>⟨kr⟩) fun aA aB w a hF hS=>?_)
     refine SK.wi (Kc (t:=24) [] 5 0 (sv aA aG aB) #[sv aA aG aB] hF hS rfl kr ⟨kr⟩ kr kr kr kr ⟨kr⟩ fun w a hF hS=>?_)
     refine WI.fin rfl (Ab ?_)
     obtain rfl:=Ao h
     refine ⟨_,hS.s1,fun w hS=>⟨rfl,ν172,(aA,aB,(g_r.2.2.1++([[iv a0.Kind,.string a0.Name,iv a0.Time,.string a0.Sweep.Site.Name,iv a0.Sweep.Site.X,iv a0.Sweep.Site.Y,iv a0.Sweep.Site.Z,iv a0.Sweep.Site.Rose,iv a0.Sweep.Site.Gates,iv a0.Sweep.Site.Step,iv a0.Sweep.Site.Width,iv a0.Sweep.Tilt,iv a0.Sweep.Time,sv a5 a0.Sweep.Rays a7,iv a0.Field.Grid.X,iv a0.Field.Grid.Y,iv a0.Field.Grid.Size,iv a0.Field.Grid.Wide,iv a0.Field.Grid.High,sv a6 a0.Field.Vals a8,.string a0.Text]]:List (List Value))),()),hxr,hlow,⟨aT,trivial⟩,hS.d1.s6⟩⟩
    ·replace h:=Ae h hc
     refine WI.region ?_
     obtain ⟨aI,aU,h⟩:=A1 h
     refine qo 2 2 [(29,iv aI)] hF (oL 3 3 0 hS.i rfl rfl<|oA 3 aU<|A9) fun a hF=>?_
     refine SK.wi (Kc (t:=3) [] 3 0 (iv aI) #[iv aI] hF hS rfl kr ⟨kr⟩ kr kr kr kr ⟨kr⟩ fun w a hF hS=>?_)
     refine WI.fin rfl (Ab ?_)
     obtain rfl:=Ao h
     refine ⟨_,hS,fun w hS=>⟨rfl,ν141,(g_r.1,g_r.2.1,g_r.2.2.1,()),hxr,hlow,⟨a3,trivial⟩,hS.s6⟩⟩
   ·rintro e w2 ⟨ν_n,g_n,hxn,hlown,hPn,rfl,hSn⟩
    refine ⟨_,rfl,?_⟩
    obtain ⟨nhq133,-⟩:=hPn
    rcases Bool.eq_false_or_eq_true a1.2 with hb_|hb_
    ·rw [hb_] at hSn
     refine .inl ⟨_,⟨ν_n,g_n,rfl,hxn,hlown,hb_,nhq133⟩,(by have:=St.pickT (A:=[fz w0 ν_n,E0 l1_ (rec1 .ready none),E0 D1_ (.deferred (some [])),arr 48 21 (fN 21) g_n.1 a1.1.1.length g_n.2.1 g_n.2.2.1,blk b5 3 #[iv a1.1.2.1],blk b4 24 #[.slice g_n.1 a1.1.1.length g_n.2.1],Dg ([])]) (T:=[]) [1,2,3,4,5,6,0] (by decide) hSn;simpa using this)⟩
    ·rw [hb_] at hSn
     refine .inr ⟨_,_,⟨ν_n,g_n,rfl,hxn,hlown,hb_,rfl,nhq133⟩,(by have:=St.pickT (A:=[fz w0 ν_n,E0 l1_ (rec1 .done (some (Kg (a1.1.2.2)))),E0 D1_ (.deferred (some [])),arr 48 21 (fN 21) g_n.1 a1.1.1.length g_n.2.1 g_n.2.2.1,blk b5 3 #[iv a1.1.2.1],blk b4 24 #[.slice g_n.1 a1.1.1.length g_n.2.1],Dg ([])]) (T:=[]) [1,2,3,4,5,6,0] (by decide) hSn;simpa using this)⟩
  ·rintro D192 a w _ ⟨ν191,a2,rfl,hxn,hlow,hb_,a3⟩ hF hS
   replace hA3:=hA3.mono hxn.1
   replace hB11:=hB11.mono hxn.1
   replace hext:=Frz.ext_trans hext hxn
   replace hS:St w0 [E0 D192 (.deferred (some [])),arr 48 21 (fN 21) a2.1 a1.1.1.length a2.2.1 a2.2.2.1,blk b5 3 #[iv a1.1.2.1],blk b4 24 #[.slice a2.1 a1.1.1.length a2.2.1],Dg ([]),fz w0 ν191] w:=hS
   replace hS:=St.mark (St.pick [0,4,1,2,3,5] (by decide) hS)
   replace hS:St w0 [Dg (D192::[]),arr 48 21 (fN 21) a2.1 a1.1.1.length a2.2.1 a2.2.2.1,blk b5 3 #[iv a1.1.2.1],blk b4 24 #[.slice a2.1 a1.1.1.length a2.2.1],fz w0 ν191] w:=hS
   replace hF:Fr 35 (N9 (D192::[])) [(2,pb b4),(3,pb b5),(4,iv 0),(13,.func (.func 65) #[] #[pb b7])] a:=hF
   replace h:=Af h hb_
   refine Ab<|A0<|?_
   replace hF:Fr 35 (N9 (D192::[])) [(2,pb b4),(3,pb b5)] a:=hF.sub kr
   refine Ar ?_
   refine qoB [(32,.bool (decide ((ln a1.1.1)>1000)))] hF (oL 24 3 0 hS.i rfl rfl<|A9) fun a hF=>?_
   refine Aj hF rfl (fun hc=>?_) (fun hc=>?_)
   ·replace h:=Af h hc
    refine esr ?_
    refine SK.wi (qs 24 3 0 (.slice none 0 0) hF hS rfl fun w a hF hS=>?_)
    refine SK.wi (qs 3 2 0 (iv 0) hF hS rfl fun w a hF hS=>?_)
    refine qn 1 3 [(4,iv 9)] hF fun a hF=>?_
    refine wfn rfl ?_
    refine wpIn_ret (A6<|Nq (H:=[arr 48 21 (fN 21) a2.1 a1.1.1.length a2.2.1 a2.2.2.1,blk b5 3 #[iv 0],blk b4 24 #[.slice none 0 0],fz w0 ν191]) [.cell 2 24,.cell 3 3,.tmp 4] [.slice none 0 0,iv 0,iv 9] hF (St.pick [0,1,2,3,4] (by decide) hS) rfl fun w hS=>⟨⟨⟨_,rfl,Be kr (hS.cell (i:=2) (j:=0) rfl rfl)⟩,⟨_,rfl,Be kr (hS.cell (i:=1) (j:=0) rfl rfl)⟩,rfl,trivial⟩,?_⟩)
    obtain rfl:=Ao h
    replace hS:=hS.nilarr 48 21 (fN 21)
    exact ⟨_,rfl,ν191,_,_,_,hext,rfl,All2.nil,St.pick [4,0] (by decide) hS⟩
   ·replace h:=Ae h hc
    refine wpIn_skip (A0 ?_)
    refine Ar ?_
    refine Bt 3 [2] _ (D:=fun w=>St w0 [Dg (D192::[]),arr 48 21 (fN 21) a2.1 a1.1.1.length a2.2.1 a2.2.2.1,blk b5 3 #[iv a1.1.2.1],blk b4 24 #[.slice a2.1 a1.1.1.length a2.2.1]] w∧FrzAt ν191 w) kr kr hF.size (fun w hx=>?_) (fun _ _ h=>h)
    replace hS:=hS.later hx
    refine ⟨⟨St.pick [0,1,2,3] (by decide) hS,hS.frz (i:=4) rfl hlow⟩,?_⟩
    have aY:=Frz.le_refl ν191
    refine WT.s [0,1] [2] kr kr ?_
    refine qC 2 [(33,.slice a2.1 a1.1.1.length a2.2.1),(34,iv a1.1.2.1)] hF (oL 24 3 0 (fun _ hd=>hd.1) rfl rfl<|oL 3 2 0 (fun _ hd=>hd.1) rfl rfl<|A9) fun a hF=>?_
    refine WRun.fin ?_
    refine all_cons ?_ (At)
    refine qs 24 3 0 (.slice a2.1 a1.1.1.length a2.2.1) hF hS rfl fun w a hF hS=>⟨⟨St.pick [0,1,2,3] (by decide) hS,(hS.frz (i:=4) rfl hlow)⟩,?_⟩
    refine WT.z [] kr ?_
    refine WRun.fin ?_
    refine SK.wi (qs 3 2 0 (iv a1.1.2.1) hF hS rfl fun w a hF hS=>?_)
    refine qn 1 5 [(4,iv 0)] hF fun a hF=>?_
    refine wfn rfl ?_
    refine wpIn_ret (Nq (H:=[arr 48 21 (fN 21) a2.1 a1.1.1.length a2.2.1 a2.2.2.1,blk b5 3 #[iv a1.1.2.1],blk b4 24 #[.slice a2.1 a1.1.1.length a2.2.1],fz w0 ν191]) [.cell 2 24,.cell 3 3,.tmp 4] [.slice a2.1 a1.1.1.length a2.2.1,iv a1.1.2.1,iv 0] hF (St.pick [0,1,2,3,4] (by decide) hS) rfl fun w hS=>⟨⟨⟨_,rfl,Be kr (hS.cell (i:=2) (j:=0) rfl rfl)⟩,⟨_,rfl,Be kr (hS.cell (i:=1) (j:=0) rfl rfl)⟩,rfl,trivial⟩,?_⟩)
    obtain rfl:=Ao h
    exact ⟨_,rfl,ν191,_,_,_,hext,rfl,a3,St.pick [3,0] (by decide) hS⟩
  rintro D192 _ a w _ ⟨ν191,a2,rfl,hxn,hlow,hb_,rfl,a3⟩ hF hS
  replace hA3:=hA3.mono hxn.1
  replace hB11:=hB11.mono hxn.1
  replace hext:=Frz.ext_trans hext hxn
  replace hS:St w0 [E0 D192 (.deferred (some [])),arr 48 21 (fN 21) a2.1 a1.1.1.length a2.2.1 a2.2.2.1,blk b5 3 #[iv a1.1.2.1],blk b4 24 #[.slice a2.1 a1.1.1.length a2.2.1],Dg ([]),fz w0 ν191] w:=hS
  replace hS:=St.mark (St.pick [0,4,1,2,3,5] (by decide) hS)
  replace hS:St w0 [Dg (D192::[]),arr 48 21 (fN 21) a2.1 a1.1.1.length a2.2.1 a2.2.2.1,blk b5 3 #[iv a1.1.2.1],blk b4 24 #[.slice a2.1 a1.1.1.length a2.2.1],fz w0 ν191] w:=hS
  replace hF:Fr 35 (N9 (D192::[])) [(2,pb b4),(3,pb b5),(4,iv 0),(13,.func (.func 65) #[] #[pb b7])] a:=hF
  replace h:=Ae h hb_
  cases h
theorem Mn (F:Nat) (p0:volume_Item) (res:((List Int)×Int)) (h:Df F p0=some res) (μ:Frz) (w0:World) (hm:FrzAt μ w0) {ad1:Option Addr} {cap2:Nat} {css3:List (List Value)} {ad4:Option Addr} {cap5:Nat} (hA6:ArrQ μ 1 Rp87 ad1 cap2 css3 p0.Sweep.Rays) (hA7:ArrM μ 2 api_Span.cells ad4 cap5 p0.Field.Vals):Bj Tryz.prog 16 #[.agg #[iv p0.Kind,.string p0.Name,iv p0.Time,.string p0.Sweep.Site.Name,iv p0.Sweep.Site.X,iv p0.Sweep.Site.Y,iv p0.Sweep.Site.Z,iv p0.Sweep.Site.Rose,iv p0.Sweep.Site.Gates,iv p0.Sweep.Site.Step,iv p0.Sweep.Site.Width,iv p0.Sweep.Tilt,iv p0.Sweep.Time,sv ad1 p0.Sweep.Rays cap2,iv p0.Field.Grid.X,iv p0.Field.Grid.Y,iv p0.Field.Grid.Size,iv p0.Field.Grid.Wide,iv p0.Field.Grid.High,sv ad4 p0.Field.Vals cap5,.string p0.Text]] w0 (fun e w=>∃zad0 zcap0,e=(.tuple #[sv zad0 res.1 zcap0,iv res.2])∧St w0 [arr 5 1 (fK .u8) zad0 res.1.length zcap0 res.1] w):=by
 obtain ⟨hlow,hS⟩:=hm.init
 have hext:=Frz.ext_refl w0.heap.size μ
 rw [Df] at h
 refine Ag Tryz.func16 rfl 16 [(0,.agg #[iv p0.Kind,.string p0.Name,iv p0.Time,.string p0.Sweep.Site.Name,iv p0.Sweep.Site.X,iv p0.Sweep.Site.Y,iv p0.Sweep.Site.Z,iv p0.Sweep.Site.Rose,iv p0.Sweep.Site.Gates,iv p0.Sweep.Site.Step,iv p0.Sweep.Site.Width,iv p0.Sweep.Tilt,iv p0.Sweep.Time,sv ad1 p0.Sweep.Rays cap2,iv p0.Field.Grid.X,iv p0.Field.Grid.Y,iv p0.Field.Grid.Size,iv p0.Field.Grid.Wide,iv p0.Field.Grid.High,sv ad4 p0.Field.Vals cap5,.string p0.Text])] rfl rfl kr fun a w hw hF=>?_
 replace hS:=hS.cast hw
 clear hw
 refine esr ?_
 refine SK.wi (J6 (t:=48) (fun b8=>[(1,pb b8)]) (.agg #[iv p0.Kind,.string p0.Name,iv p0.Time,.string p0.Sweep.Site.Name,iv p0.Sweep.Site.X,iv p0.Sweep.Site.Y,iv p0.Sweep.Site.Z,iv p0.Sweep.Site.Rose,iv p0.Sweep.Site.Gates,iv p0.Sweep.Site.Step,iv p0.Sweep.Site.Width,iv p0.Sweep.Tilt,iv p0.Sweep.Time,sv ad1 p0.Sweep.Rays cap2,iv p0.Field.Grid.X,iv p0.Field.Grid.Y,iv p0.Field.Grid.Size,iv p0.Field.Grid.Wide,iv p0.Field.Grid.High,sv ad4 p0.Field.Vals cap5,.string p0.Text]) #[iv p0.Kind,.string p0.Name,iv p0.Time,.string p0.Sweep.Site.Name,iv p0.Sweep.Site.X,iv p0.Sweep.Site.Y,iv p0.Sweep.Site.Z,iv p0.Sweep.Site.Rose,iv p0.Sweep.Site.Gates,iv p0.Sweep.Site.Step,iv p0.Sweep.Site.Width,iv p0.Sweep.Tilt,iv p0.Sweep.Time,sv ad1 p0.Sweep.Rays cap2,iv p0.Field.Grid.X,iv p0.Field.Grid.Y,iv p0.Field.Grid.Size,iv p0.Field.Grid.Wide,iv p0.Field.Grid.High,sv ad4 p0.Field.Vals cap5,.string p0.Text] hF hS kr ⟨kr⟩ kr (fun _=>⟨kr⟩) fun b8 w a hF hS=>?_)
 refine rn 2 3 [(1,pb b8)] hF fun a hF=>?_
 refine wfn rfl ?_
 refine esr ?_
 refine ro 1 1 [(7,.agg #[iv p0.Kind,.string p0.Name,iv p0.Time,.string p0.Sweep.Site.Name,iv p0.Sweep.Site.X,iv p0.Sweep.Site.Y,iv p0.Sweep.Site.Z,iv p0.Sweep.Site.Rose,iv p0.Sweep.Site.Gates,iv p0.Sweep.Site.Step,iv p0.Sweep.Site.Width,iv p0.Sweep.Tilt,iv p0.Sweep.Time,sv ad1 p0.Sweep.Rays cap2,iv p0.Field.Grid.X,iv p0.Field.Grid.Y,iv p0.Field.Grid.Size,iv p0.Field.Grid.Wide,iv p0.Field.Grid.High,sv ad4 p0.Field.Vals cap5,.string p0.Text])] hF (oN 48 0 0 21 hS.i rfl<|A9) fun a hF=>?_
 obtain ⟨a1,a8,h⟩:=A1 h
 refine SK.wi (rR (fun v9=>[(8,v9)]) hF (N4 F _ _ a8 μ w (hS.frz (i:=1) rfl hlow) hA6 hA7) ?_)
 rintro v9 w a ⟨ν11,a4,a0,rfl,a7,hQ⟩ hF
 replace hext:=Frz.ext_trans hext (Frz.ext_mono a0 hS.ext.size)
 obtain ⟨hlow,hS⟩:=hS.frzMerge (i:=1) rfl hlow a0 hQ
 replace hA6:=hA6.mono Rp87.mono a0.1
 replace hA7:=hA7.mono a0.1
 refine rn 5 7 [(4,a4),(5,iv a1.2)] hF fun a hF=>?_
 refine wfn rfl ?_
 refine Ar ?_
 refine qnB [(12,.bool (a1.2 != 0))] hF fun a hF=>?_
 refine Aj hF rfl (fun hc=>?_) (fun hc=>?_)
 ·replace h:=Af h hc
  refine rnB [(2,.slice none 0 0),(3,iv a1.2)] hF fun a hF=>?_
  refine wpIn_ret (A6<|Ad [.tmp 2,.tmp 3] [.slice none 0 0,iv a1.2] hF rfl ⟨rfl,rfl,trivial⟩ ?_)
  obtain rfl:=Ao h
  replace hS:=hS.nilarr 5 1 (fK .u8)
  exact ⟨_,rfl,_,_,rfl,St.pick [0] (by decide) hS⟩
 ·replace h:=Ae h hc
  refine wpIn_skip (A0 ?_)
  refine esr ?_
  refine rn 1 1 [(14,a4)] hF fun a hF=>?_
  obtain ⟨a6,a9,h⟩:=A1 h
  refine SK.wi (rR (fun a5=>[(15,a5)]) hF (Sw F _ _ a9 (Ay w) w (A5 w) (a7.mono (FrzAt.le_mem (hS.frz (i:=1) rfl hlow)))) ?_)
  rintro a5 w a ⟨a2,a3,rfl,hQ⟩ hF
  replace hS:=hS.madeL hQ
  refine rn 2 4 [(2,sv a2 a6 a3),(3,iv 0)] hF fun a hF=>?_
  refine wfn rfl ?_
  refine wpIn_ret (Ad [.tmp 2,.tmp 3] [sv a2 a6 a3,iv 0] hF rfl ⟨rfl,rfl,trivial⟩ ?_)
  obtain rfl:=Ao h
  exact ⟨_,rfl,_,_,rfl,St.pick [0] (by decide) hS⟩
end Go.Proofs.YtifbomimeodibaaGreat
