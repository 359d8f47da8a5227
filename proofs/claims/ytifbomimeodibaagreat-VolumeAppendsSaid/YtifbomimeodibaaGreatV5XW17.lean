import Derived.Test.YtifbomimeodibaaGreatV5XD
import Derived.Test.YtifbomimeodibaaGreatProg
import Derived.Test.YtifbomimeodibaaGreatV5XW2
import Derived.Test.YtifbomimeodibaaGreatV5XW6
import Derived.Test.YtifbomimeodibaaGreatV5XW13
import Derived.Test.YtifbomimeodibaaGreatV5XW14
namespace Go.Proofs.YtifbomimeodibaaGreat
open Go Go.RowKit Go.Eng
set_option maxRecDepth 10000
set_option maxHeartbeats 4000000
set_option linter.unusedVariables false
set_option linter.unusedSimpArgs false
theorem Mo (F:Nat) (p0:volume_thing) (res:volume_Item) (h:Jq F p0=some res) (μ:Frz) (w0:World) (hm:FrzAt μ w0) {v:Value} (hv:volume_thing.R μ v p0):A2q Tryz.prog v "radome/volume.item" #[] (fun f gs=>Ba Tryz.prog f gs w0 (fun e w=>∃(ν_:Frz) (ad1:Option Addr) (cap2:Nat) (css3:List (List Value)) (ad4:Option Addr) (cap5:Nat),μ.ext w0.heap.size ν_∧e=(.agg (res.ax ad1 cap2 ad4 cap5))∧ArrQ ν_ 1 Rp87 ad1 cap2 css3 res.Sweep.Rays∧ArrM ν_ 2 api_Span.cells ad4 cap5 res.Field.Vals∧St w0 [fz w0 ν_] w)):=by
 cases p0 with
 | nil_=>cases h
 | ic156 y =>
  obtain ⟨cs,rfl,hr⟩:=hv
  obtain ⟨ad6,cap7,css8,rfl,hA9⟩:=hr
  exact ⟨163,#[.agg (y.Sweep.ax ad6 cap7)],by kernel_rfl,Mn y _ (Option.some.inj h) μ w0 hm hA9⟩
 | ic158 y =>
  obtain ⟨cs,rfl,hr⟩:=hv
  obtain ⟨a0,a1,rfl,a2⟩:=hr
  exact ⟨177,#[.agg (y.ax a0 a1)],by kernel_rfl,Ml y _ (Option.some.inj h) μ w0 hm a2⟩
 | ic160 y =>
  obtain ⟨cs,rfl,hr⟩:=hv
  obtain rfl:=hr
  exact ⟨185,#[.agg #[iv y.time,.string y.text]],by kernel_rfl,Mu y _ (Option.some.inj h) μ w0 hm⟩
theorem Hr (F:Nat) (p0:(List Int)) (res:((List volume_Item)×Int×Int)) (h:Em F p0=some res) (μ:Frz) (w0:World) (hm:FrzAt μ w0) {ad1:Option Addr} {cap2:Nat} (hA3:ArrM μ 1 (fK .u8) ad1 cap2 p0):Ba Tryz.prog 9 #[sv ad1 p0 cap2] w0 (fun e w=>∃(ν_:Frz) (zad0:Option Addr) (zcap0:Nat) (zcss0:List (List Value)),μ.ext w0.heap.size ν_∧e=(.tuple #[sv zad0 res.1 zcap0,iv res.2.1,iv res.2.2])∧All2 (Rp48 ν_) zcss0 res.1∧St w0 [fz w0 ν_,arr 48 21 (fN 21) zad0 res.1.length zcap0 zcss0] w):=by
 obtain ⟨hlow,hS⟩:=hm.init
 have hext:=Frz.ext_refl w0.heap.size μ
 rw [Em] at h
 refine V2 Tryz.func9 rfl 71 [(0,sv ad1 p0 cap2)] rfl rfl kr fun a w hw hF=>?_
 replace hS:=hS.cast hw
 clear hw
 replace hS:=hS.noMarks
 refine esr<|SK.wi (rB 22 (sv ad1 p0 cap2) #[sv ad1 p0 cap2] (fun b4=>[(1,pb b4)]) hF hS fun b4 w a hF hS=>?_)
 refine SK.wi (qA 24 #[.slice none 0 0] (fun b5=>[(2,pb b5)]) hF hS fun b5 w a hF hS=>?_)
 refine SK.wi (qA 3 #[iv 0] (fun b6=>[(3,pb b6)]) hF hS fun b6 w a hF hS=>?_)
 refine SK.wi (qA 25 #[iv 0] (fun b7=>[(4,pb b7)]) hF hS fun b7 w a hF hS=>wfn rfl ?_)
 refine qnB [(5,iv 4)] hF fun a hF=>?_
 refine Am<|wpIn_block<|qoB [(10,.bool (decide ((ln p0)>16777216)))] hF (oL 22 3 0 hS.i rfl rfl<|A1) fun a hF=>?_
 refine A8 hF h (fun hc h=>?_) fun hc h=>?_
 ·refine esr<|SK.wi (qs 24 2 0 (.slice none 0 0) hF hS rfl fun w a hF hS=>?_)
  refine SK.wi (qs 3 1 0 (iv 0) hF hS rfl fun w a hF hS=>?_)
  refine SK.wi (qs 25 0 0 (iv 8) hF hS rfl fun w a hF hS=>wfn rfl ?_)
  refine wpIn_ret (Ab<|A2<|Q2 (H:=[blk b7 25 #[iv 8],blk b6 3 #[iv 0],blk b5 24 #[.slice none 0 0],blk b4 22 #[sv ad1 p0 cap2],fz w0 μ]) [.cell 2 24,.cell 3 3,.cell 4 25] [.slice none 0 0,iv 0,iv 8] hF (St.pick [4,0,1,2,3,5] (by decide) hS) rfl fun w hS=>⟨⟨⟨_,rfl,Bo kr (hS.cell (i:=2) (j:=0) rfl rfl)⟩,⟨_,rfl,Bo kr (hS.cell (i:=1) (j:=0) rfl rfl)⟩,⟨_,rfl,Bo kr (hS.cell (i:=0) (j:=0) rfl rfl)⟩,trivial⟩,?_⟩)
  obtain rfl:=Ae h
  replace hS:=hS.nilarr 48 21 (fN 21)
  exact ⟨_,rfl,μ,_,_,_,hext,rfl,All2.nil,St.pick [5,0] (by decide) hS⟩
 ·refine esr<|qo 1 1 [(15,sv ad1 p0 cap2)] hF (oL 22 3 0 hS.i rfl rfl<|A1) fun a hF=>?_
  refine SK.wi (qL 5 22 4 [82,86,70,49] (fun b8=>[(16,sb b8 4)]) (B8 .u8) hF hS fun b8 w a hF hS=>?_)
  replace hS:St w0 [arrT 5 1 (fK .u8) (some ⟨b8,0,none⟩) ([82,86,70,49]).length 4 ([82,86,70,49]),blk b7 25 #[iv 0],blk b6 3 #[iv 0],blk b5 24 #[.slice none 0 0],blk b4 22 #[sv ad1 p0 cap2],Eo ([]),fz w0 μ] w:=St.toT hS
  refine SK.wi (Sa (src:=22) [(1,pb b4),(2,pb b5),(3,pb b6),(4,pb b7),(5,iv 4),(15,sv ad1 p0 cap2),(17,sb b8 4)] 0 hF hS rfl (by decide) kr ⟨kr⟩ kr ⟨kr⟩ fun w a hF hS=>?_)
  obtain ⟨y9,hy9,h⟩:=A0 h
  obtain ⟨aX,aW,h⟩:=A0 h
  refine rX 16 19 [(1,pb b4),(2,pb b5),(3,pb b6),(4,pb b7),(14,.bool (bif (!y9) then true else (bif (decide ((ln p0)>4)) then (aX != 0) else false)))] hF (oC (fun w2 hd=>S9 F p0 ([82,86,70,49]) _ hy9 _ w2 (A4 w2) (hA3.mono (FrzAt.le_mem ((hS.later hd).frz (i:=6) rfl hlow))) (Arr.toM ((hS.later hd).arrT_ (i:=0) rfl)))<|oGs [⟨20,false,(!y9)⟩] (oL 22 4 0 hS.e rfl rfl<|A1)<|oGs [⟨25,true,(decide ((ln p0)>4))⟩,⟨20,false,(!y9)⟩] (oL 22 4 0 hS.e rfl rfl<|A1)<|oX (.run [⟨25,true,(decide ((ln p0)>4))⟩,⟨20,false,(!y9)⟩] (Instr.indexAt 22 (sv ad1 p0 cap2) (iv 4)) (.pointer (some (Bl ad1 4 1)))) (J0 (hA3 _ (hS.frz (i:=6) rfl hlow)) kr (fun hk=>Bt aW hk))<|oX (.run [⟨25,true,(decide ((ln p0)>4))⟩,⟨20,false,(!y9)⟩] (Instr.loadAt 5 (.pointer (some (Bl ad1 4 1)))) (.int .u8 aX)) (Pf (i:=4) 0 (B8 .u8) (fun _ hd=>(hA3 _ ((hS.later hd).frz (i:=6) rfl hlow))) kr (fun hk=>Bt aW hk) rfl)<|A1) fun a w hF hx=>?_
  replace hS:=hS.later hx
  refine wfn rfl ?_
  refine A8 hF h (fun hc h=>?_) fun hc h=>?_
  ·refine esr<|SK.wi (qs 24 3 0 (.slice none 0 0) hF hS rfl fun w a hF hS=>?_)
   refine SK.wi (qs 3 2 0 (iv 0) hF hS rfl fun w a hF hS=>?_)
   refine SK.wi (qs 25 1 0 (iv 7) hF hS rfl fun w a hF hS=>wfn rfl ?_)
   refine wpIn_ret (Ab<|A2<|Q2 (H:=[arrT 5 1 (fK .u8) (some ⟨b8,0,none⟩) ([82,86,70,49]).length 4 ([82,86,70,49]),blk b7 25 #[iv 7],blk b6 3 #[iv 0],blk b5 24 #[.slice none 0 0],blk b4 22 #[sv ad1 p0 cap2],fz w0 μ]) [.cell 2 24,.cell 3 3,.cell 4 25] [.slice none 0 0,iv 0,iv 7] hF (St.pick [5,0,1,2,3,4,6] (by decide) hS) rfl fun w hS=>⟨⟨⟨_,rfl,Bo kr (hS.cell (i:=3) (j:=0) rfl rfl)⟩,⟨_,rfl,Bo kr (hS.cell (i:=2) (j:=0) rfl rfl)⟩,⟨_,rfl,Bo kr (hS.cell (i:=1) (j:=0) rfl rfl)⟩,trivial⟩,?_⟩)
   obtain rfl:=Ae h
   replace hS:=hS.nilarr 48 21 (fN 21)
   exact ⟨_,rfl,μ,_,_,_,hext,rfl,All2.nil,St.pick [6,0] (by decide) hS⟩
  ·refine wpIn_skip (A9<|A3<|?_)
   refine esr<|qo 2 2 [(34,iv (ln p0))] hF (oL 22 4 0 hS.i rfl rfl<|A1) fun a hF=>?_
   refine SK.wi (qs 3 2 0 (iv (ln p0)) hF hS rfl fun w a hF hS=>wfn rfl ?_)
   have a3:=Frz.le_refl μ
   refine Dx (fun a w=>∃(a4:(List volume_Item)) (aE:Int) (aF:Int) (ν207:Frz) (a5:Option Addr) (a6:Nat) (aJ:List (List Value)) (Ds215:List Nat),Fr 71 (Pm Ds215) [(2,pb b5),(3,pb b6),(4,pb b7)] a∧St w0 [arr 48 21 (fN 21) a5 a4.length a6 aJ,Eo Ds215,arrT 5 1 (fK .u8) (some ⟨b8,0,none⟩) ([82,86,70,49]).length 4 ([82,86,70,49]),blk b7 25 #[iv aF],blk b6 3 #[iv aE],blk b5 24 #[sv a5 a4 a6],blk b4 22 #[sv ad1 p0 cap2],fz w0 ν207] w∧(All2 (Rp48 ν207) aJ a4)∧(μ.le ν207)∧(μ.ext w0.heap.size ν207)∧(Ax w0 ν207)∧Eu a4 aE aF=some res) ?_ ?_
   ·skip
    refine esr<|qo 1 1 [(35,sv ad1 p0 cap2)] hF (oL 22 4 0 hS.i rfl rfl<|A1) fun a hF=>?_
    refine SK.wi (qR (fun aY=>[(36,aY)]) hF (Pw p0 _ rfl (B0 w) w (A4 w) (hA3.mono (FrzAt.le_mem (hS.frz (i:=6) rfl hlow)))) ?_)
    rintro aY w a ⟨aG,rfl,hQ⟩ hF
    replace hS:=hS.madeL hQ
    refine wfn rfl ?_
    refine wpIn_block ?_
    obtain ⟨ν221,aS,hlow,hS,bK⟩:=hS.freeze (i:=7) (j:=0) rfl rfl (by decide) hlow
    replace hA3:=hA3.mono aS.1
    replace a3:=a3.t aS.1
    replace hext:=hext.t aS
    have hB224:BlkM ν221 aG 22 #[sv ad1 p0 cap2]:=bK
    replace hS:=hS.nilarr 48 21 (fN 21)
    obtain ⟨a1,hr410,h⟩:=A0 h
    refine A1w (gf:=65) (lb:=#[pb aG]) (fun l=>#[.func (.yield l) #[] #[],pb aG]) (fun H1=>∃(ν_n:Frz) (g_n:(Option Addr×Nat×List (List Value)×Unit)),H1=[arr 48 21 (fN 21) g_n.1 a1.1.1.length g_n.2.1 g_n.2.2.1,arrT 5 1 (fK .u8) (some ⟨b8,0,none⟩) ([82,86,70,49]).length 4 ([82,86,70,49]),blk b7 25 #[iv a1.1.2.2.1],blk b6 3 #[iv a1.1.2.1],blk b5 24 #[.slice g_n.1 a1.1.1.length g_n.2.1],blk b4 22 #[sv ad1 p0 cap2],Eo ([]),fz w0 ν_n]∧ν221.ext w0.heap.size ν_n∧Ax w0 ν_n∧a1.2=true∧(All2 (Rp48 ν_n) g_n.2.2.1 a1.1.1)) (fun c H1=>∃(ν_n:Frz) (g_n:(Option Addr×Nat×List (List Value)×Unit)),H1=[arr 48 21 (fN 21) g_n.1 a1.1.1.length g_n.2.1 g_n.2.2.1,arrT 5 1 (fK .u8) (some ⟨b8,0,none⟩) ([82,86,70,49]).length 4 ([82,86,70,49]),blk b7 25 #[iv a1.1.2.2.1],blk b6 3 #[iv a1.1.2.1],blk b5 24 #[.slice g_n.1 a1.1.1.length g_n.2.1],blk b4 22 #[sv ad1 p0 cap2],Eo ([]),fz w0 ν_n]∧ν221.ext w0.heap.size ν_n∧Ax w0 ν_n∧a1.2=false∧c=K2 (a1.1.2.2.2)∧(All2 (Rp48 ν_n) g_n.2.2.1 a1.1.1)) (M:=[(1,pb b4),(2,pb b5),(3,pb b6),(4,pb b7),(36,.func (.func 65) #[] #[pb aG])]) (hF.sub kr) rfl hS (fun _=>rfl) (fun _=>by kernel_rfl) ?_ ?_ ?_
    ·replace hF:Fr 71 (Pm ([])) [(1,pb b4),(2,pb b5),(3,pb b6),(4,pb b7),(36,.func (.func 65) #[] #[pb aG])] a:=hF.sub kr
     intro fn_ l2_ D2_ rec2 w hrec2 hS
     replace hS:St w0 [F3 l2_ (rec2 .ready none),F3 D2_ (.deferred (some [])),arr 48 21 (fN 21) none ([]:List volume_Item).length 0 ([]:List (List Value)),arrT 5 1 (fK .u8) (some ⟨b8,0,none⟩) ([82,86,70,49]).length 4 ([82,86,70,49]),blk b7 25 #[iv 0],blk b6 3 #[iv (ln p0)],blk b5 24 #[.slice none 0 0],blk b4 22 #[sv ad1 p0 cap2],Eo ([]),fz w0 ν221] w:=hS
     refine Calls.mono (P5 F p0 (Hq F p0) (([]:List volume_Item),(ln p0),0,0) _ hr410 l2_ ν221 w0 w (fun (s_r:((List volume_Item)×Int×Int×Nat)) (b_r:Bool) (g_r:(Option Addr×Nat×List (List Value)×Unit))=>[F3 l2_ (rec2 (bif b_r then .ready else .done) (bif b_r then none else some (K2 (s_r.2.2.2)))),F3 D2_ (.deferred (some [])),arr 48 21 (fN 21) g_r.1 s_r.1.length g_r.2.1 g_r.2.2.1,arrT 5 1 (fK .u8) (some ⟨b8,0,none⟩) ([82,86,70,49]).length 4 ([82,86,70,49]),blk b7 25 #[iv s_r.2.2.1],blk b6 3 #[iv s_r.2.1],blk b5 24 #[.slice g_r.1 s_r.1.length g_r.2.1],blk b4 22 #[sv ad1 p0 cap2],Eo ([])]) (fun (s_r:((List volume_Item)×Int×Int×Nat)) (b_r:Bool) (g_r:(Option Addr×Nat×List (List Value)×Unit)) (ν_r:Frz)=>(All2 (Rp48 ν_r) g_r.2.2.1 s_r.1)∧True) (fun _ _ _ _ _ h hle=>⟨All2.mono Rp48.mono hle h.1,trivial⟩) ?_ (none,0,[],()) [] hlow ⟨All2.nil,trivial⟩ (St.pickT (A:=[F3 l2_ (rec2 .ready none),F3 D2_ (.deferred (some [])),arr 48 21 (fN 21) none ([]:List volume_Item).length 0 ([]:List (List Value)),arrT 5 1 (fK .u8) (some ⟨b8,0,none⟩) ([82,86,70,49]).length 4 ([82,86,70,49]),blk b7 25 #[iv 0],blk b6 3 #[iv (ln p0)],blk b5 24 #[.slice none 0 0],blk b4 22 #[sv ad1 p0 cap2],Eo ([]),fz w0 ν221]) (T:=[]) [9,0,1,2,3,4,5,6,7,8] (by decide) (by simpa using hS)) hB224 hA3) ?_
     ·rintro s_r x_ q_r h ν_r g_r G_r w aH aI hxv hlow hP aK hS
      obtain ⟨a7,-⟩:=hP
      replace hA3:=hA3.mono hxv.1
      replace hB224:=hB224.mono hxv.1
      replace a3:=a3.t hxv.1
      have hxr:=Frz.ext_refl w0.heap.size ν_r
      replace hext:=hext.t hxv
      replace hS:St w0 (F3 l2_ (rec2 .ready none)::F3 D2_ (.deferred (some []))::arr 48 21 (fN 21) g_r.1 s_r.1.length g_r.2.1 g_r.2.2.1::arrT 5 1 (fK .u8) (some ⟨b8,0,none⟩) ([82,86,70,49]).length 4 ([82,86,70,49])::blk b7 25 #[iv s_r.2.2.1]::blk b6 3 #[iv s_r.2.1]::blk b5 24 #[.slice g_r.1 s_r.1.length g_r.2.1]::blk b4 22 #[sv ad1 p0 cap2]::Eo ([])::fz w0 ν_r::G_r) w:=St.pickT (A:=[fz w0 ν_r,F3 l2_ (rec2 .ready none),F3 D2_ (.deferred (some [])),arr 48 21 (fN 21) g_r.1 s_r.1.length g_r.2.1 g_r.2.2.1,arrT 5 1 (fK .u8) (some ⟨b8,0,none⟩) ([82,86,70,49]).length 4 ([82,86,70,49]),blk b7 25 #[iv s_r.2.2.1],blk b6 3 #[iv s_r.2.1],blk b5 24 #[.slice g_r.1 s_r.1.length g_r.2.1],blk b4 22 #[sv ad1 p0 cap2],Eo ([])]) (T:=G_r) [1,2,3,4,5,6,7,8,9,0] (by decide) hS
      rw [Hq] at h
      refine A20 (rec:=rec2) hrec2 [(37,iv x_.1),(38,sv aH x_.2 aI)] [(1,pb b4),(2,pb b5),(3,pb b6),(4,pb b7),(37,iv x_.1),(38,sv aH x_.2 aI)] hF (by simp) rfl rfl kr hS ?_
      intro a hF
      refine rnB [(1,pb b4),(2,pb b5),(3,pb b6),(4,pb b7),(6,iv x_.1),(38,sv aH x_.2 aI)] hF fun a hF=>?_
      refine WI.region<|qn 1 1 [(7,sv aH x_.2 aI)] hF fun a hF=>wfn rfl ?_
      refine ⟨_,hS,fun w hS=>?_⟩
      refine wpIn_block<|esr<|qn 1 1 [(40,sv aH x_.2 aI)] hF fun a hF=>?_
      obtain ⟨aQ,bH,h⟩:=A0 h
      refine SK.wi (qR (fun aZ=>[(41,aZ)]) hF (Px F _ _ bH ν_r w (hS.frz (i:=9) rfl hlow) aK) ?_)
      rintro aZ w a ⟨ν360,b0,aD,rfl,aR,hQ⟩ hF
      replace hext:=hext.t (Frz.ext_mono aD hS.ext.size)
      replace hxr:=Frz.ext_trans hxr (Frz.ext_mono aD hS.ext.size)
      obtain ⟨hlow,hS⟩:=hS.frzMerge (i:=9) rfl hlow aD hQ
      replace hA3:=hA3.mono aD.1
      replace hB224:=hB224.mono aD.1
      replace a7:=All2.mono Rp48.mono aD.1 a7
      replace aK:=aK.mono aD.1
      replace a3:=a3.t aD.1
      refine qn 5 7 [(8,b0),(9,iv aQ.2)] hF fun a hF=>wfn rfl ?_
      refine Am<|qnB [(45,.bool (aQ.2 != 0))] hF fun a hF=>?_
      refine A8 hF h (fun hc h=>?_) fun hc h=>?_
      ·refine esr<|qn 2 2 [(46,iv x_.1),(47,iv aQ.2)] hF fun a hF=>?_
       refine SK.wi (qs 3 5 0 (iv x_.1) hF hS rfl fun w a hF hS=>?_)
       refine SK.wi (qs 25 4 0 (iv aQ.2) hF hS rfl fun w a hF hS=>wfn rfl ?_)
       refine Am<|esr ?_
       obtain ⟨bM,bF,h⟩:=A0 h
       obtain ⟨b2,bG,h⟩:=A0 h
       obtain ⟨b3,bI,h⟩:=A0 h
       refine qx 12 12 [(59,.bool (bif (b2==(ln p0)) then b3 else false))] hF (oA 3 bF<|oA 3 bG<|oL 22 7 0 hS.e rfl rfl<|oX (.call [⟨56,true,(b2==(ln p0))⟩] 37 #[sv aH x_.2 aI] (.bool b3)) (show Ob.ok _ Ext _ _ from fun hk w2 hd=>Vt F x_.2 _ ((fun hk=>Bt bI hk) hk) _ w2 (A4 w2) (aK.mono (FrzAt.le_mem ((hS.later hd).frz (i:=9) rfl hlow))))<|A1) fun a w hF hx=>?_
       replace hS:=hS.later hx
       refine wfn rfl ?_
       refine A8 hF h (fun hc h=>?_) fun hc h=>?_
       ·refine WI.region<|SK.wi (qs 25 4 0 (iv 16) hF hS rfl fun w a hF hS=>wfn rfl ?_)
        refine wpIn_exit (A5<|Tp rfl<|?_)
        obtain rfl:=Ae h
        refine ⟨_,hS,fun w hS=>⟨rfl,ν360,(g_r.1,g_r.2.1,g_r.2.2.1,()),hxr,hlow,⟨a7,trivial⟩,hS.s9⟩⟩
       ·refine wK<|wpIn_exit (A5<|Tp rfl<|?_)
        obtain rfl:=Ae h
        refine ⟨_,hS,fun w hS=>⟨rfl,ν360,(g_r.1,g_r.2.1,g_r.2.2.1,()),hxr,hlow,⟨a7,trivial⟩,hS.s9⟩⟩
      ·refine wK ?_
       obtain ⟨a0,bJ,h⟩:=A0 h
       refine Bq 4 [2,3] _ (D:=fun w=>St w0 [F3 l2_ (rec2 .busy none),F3 D2_ (.deferred (some [])),arr 48 21 (fN 21) g_r.1 s_r.1.length g_r.2.1 g_r.2.2.1,arrT 5 1 (fK .u8) (some ⟨b8,0,none⟩) ([82,86,70,49]).length 4 ([82,86,70,49]),blk b7 25 #[iv s_r.2.2.1],blk b6 3 #[iv s_r.2.1],blk b5 24 #[.slice g_r.1 s_r.1.length g_r.2.1],blk b4 22 #[sv ad1 p0 cap2],Eo ([])] w∧FrzAt ν360 w) kr kr hF.size (fun w hx=>?_) (fun _ _ h=>h)
       replace hS:=hS.later hx
       refine ⟨⟨St.pick [0,1,2,3,4,5,6,7,8] (by decide) hS,hS.frz (i:=9) rfl hlow⟩,?_⟩
       have aN:=Frz.le_refl ν360
       refine WT.s [0,1] [2] kr kr ?_
       refine qC 2 [(60,.slice g_r.1 s_r.1.length g_r.2.1),(61,b0)] hF (oL 24 6 0 (fun _ hd=>hd.1) rfl rfl<|A1) fun a hF=>?_
       refine WRun.fin ?_
       refine all_cons ?_ (Aq)
       refine Z9 (fun b1=>[(2,pb b5),(60,.slice g_r.1 s_r.1.length g_r.2.1),(62,b1)]) hF kr ⟨kr⟩ (Mo F _ _ bJ ν360 w (hS.frz (i:=9) rfl hlow) aR) (fun _=>⟨kr⟩) ?_
       rintro b1 w a ⟨ν394,a9,aB,b9,aA,aC,a8,rfl,bA,bB,hQ⟩ hF
       replace hext:=hext.t (Frz.ext_mono a8 hS.ext.size)
       replace hxr:=Frz.ext_trans hxr (Frz.ext_mono a8 hS.ext.size)
       obtain ⟨hlow,hS⟩:=hS.frzMerge (i:=9) rfl hlow a8 hQ
       replace hA3:=hA3.mono a8.1
       replace hB224:=hB224.mono a8.1
       replace a7:=All2.mono Rp48.mono a8.1 a7
       replace aK:=aK.mono a8.1
       replace aR:=aR.mono a8.1
       replace a3:=a3.t a8.1
       replace aN:=aN.t a8.1
       refine ⟨⟨St.pick [0,1,2,3,4,5,6,7,8] (by decide) hS,(hS.frz (i:=9) rfl hlow).low aN⟩,?_⟩
       refine WT.s [] [3] kr kr ?_
       refine WRun.fin ?_
       refine all_cons ?_ (Aq)
       have aV:All2 (Rp48 ν394) ([[iv a0.Kind,.string a0.Name,iv a0.Time,.string a0.Sweep.Site.Name,iv a0.Sweep.Site.X,iv a0.Sweep.Site.Y,iv a0.Sweep.Site.Z,iv a0.Sweep.Site.Rose,iv a0.Sweep.Site.Gates,iv a0.Sweep.Site.Step,iv a0.Sweep.Site.Width,iv a0.Sweep.Tilt,iv a0.Sweep.Time,sv a9 a0.Sweep.Rays aB,iv a0.Field.Grid.X,iv a0.Field.Grid.Y,iv a0.Field.Grid.Size,iv a0.Field.Grid.Wide,iv a0.Field.Grid.High,sv aA a0.Field.Vals aC,.string a0.Text]]:List (List Value)) [a0]:=(All2.cons ⟨a9,aB,b9,aA,aC,rfl,bA,bB⟩ All2.nil)
       refine Qn (e:=48) (sz:=21) (f:=fN 21) (t:=24) (len:=1) (fun aT=>[(2,pb b5),(60,.slice g_r.1 s_r.1.length g_r.2.1),(63,sb aT 1)]) #[(0,.agg (a0.ax a9 aB aA aC))] (a0.ax a9 aB aA aC) ([[iv a0.Kind,.string a0.Name,iv a0.Time,.string a0.Sweep.Site.Name,iv a0.Sweep.Site.X,iv a0.Sweep.Site.Y,iv a0.Sweep.Site.Z,iv a0.Sweep.Site.Rose,iv a0.Sweep.Site.Gates,iv a0.Sweep.Site.Step,iv a0.Sweep.Site.Width,iv a0.Sweep.Tilt,iv a0.Sweep.Time,sv a9 a0.Sweep.Rays aB,iv a0.Field.Grid.X,iv a0.Field.Grid.Y,iv a0.Field.Grid.Size,iv a0.Field.Grid.Wide,iv a0.Field.Grid.High,sv aA a0.Field.Vals aC,.string a0.Text]]:List (List Value)) ([a0]) hF hS kr ⟨kr⟩ kr (Dg 21) rfl rfl rfl kr (fun _=>⟨kr⟩) fun aT w a hF hS=>⟨⟨St.pick [1,2,3,4,5,6,7,8,9] (by decide) hS,(hS.frz (i:=10) rfl hlow).low aN⟩,?_⟩
       refine WT.z [] kr ?_
       refine WRun.fin ?_
       obtain ⟨aP,aU,h⟩:=A0 h
       have bE:All2 (Rp48 ν394) (g_r.2.2.1++([[iv a0.Kind,.string a0.Name,iv a0.Time,.string a0.Sweep.Site.Name,iv a0.Sweep.Site.X,iv a0.Sweep.Site.Y,iv a0.Sweep.Site.Z,iv a0.Sweep.Site.Rose,iv a0.Sweep.Site.Gates,iv a0.Sweep.Site.Step,iv a0.Sweep.Site.Width,iv a0.Sweep.Tilt,iv a0.Sweep.Time,sv a9 a0.Sweep.Rays aB,iv a0.Field.Grid.X,iv a0.Field.Grid.Y,iv a0.Field.Grid.Size,iv a0.Field.Grid.Wide,iv a0.Field.Grid.High,sv aA a0.Field.Vals aC,.string a0.Text]]:List (List Value))) aP:=by rw [(Mh aU).1];exact All2.app a7 aV
       refine SK.wi (Xc (t:=24) (ty:=24) (bytes:=224) (c:=g_r.2.2.1) (c':=([[iv a0.Kind,.string a0.Name,iv a0.Time,.string a0.Sweep.Site.Name,iv a0.Sweep.Site.X,iv a0.Sweep.Site.Y,iv a0.Sweep.Site.Z,iv a0.Sweep.Site.Rose,iv a0.Sweep.Site.Gates,iv a0.Sweep.Site.Step,iv a0.Sweep.Site.Width,iv a0.Sweep.Tilt,iv a0.Sweep.Time,sv a9 a0.Sweep.Rays aB,iv a0.Field.Grid.X,iv a0.Field.Grid.Y,iv a0.Field.Grid.Size,iv a0.Field.Grid.Wide,iv a0.Field.Grid.High,sv aA a0.Field.Vals aC,.string a0.Text]]:List (List Value))) (l:=s_r.1) (l':=([a0])) (fun aL aM=>[(2,pb b5),(64,sv aL aP aM)]) 3 hF hS rfl kr ⟨kr⟩ kr (hS.arr (i:=0) rfl) (ArrQ.one aV Rp48.one) aU (fun _ _=>⟨kr⟩) fun aL aM w a hF hS=>?_)
       refine SK.wi (Pj (t:=24) [] 7 0 (sv aL aP aM) #[sv aL aP aM] hF hS rfl kr ⟨kr⟩ kr kr kr kr ⟨kr⟩ fun w a hF hS=>?_)
       refine WI.fin rfl (A9 ?_)
       obtain rfl:=Ae h
       refine ⟨_,hS.s1,fun w hS=>⟨rfl,ν394,(aL,aM,(g_r.2.2.1++([[iv a0.Kind,.string a0.Name,iv a0.Time,.string a0.Sweep.Site.Name,iv a0.Sweep.Site.X,iv a0.Sweep.Site.Y,iv a0.Sweep.Site.Z,iv a0.Sweep.Site.Rose,iv a0.Sweep.Site.Gates,iv a0.Sweep.Site.Step,iv a0.Sweep.Site.Width,iv a0.Sweep.Tilt,iv a0.Sweep.Time,sv a9 a0.Sweep.Rays aB,iv a0.Field.Grid.X,iv a0.Field.Grid.Y,iv a0.Field.Grid.Size,iv a0.Field.Grid.Wide,iv a0.Field.Grid.High,sv aA a0.Field.Vals aC,.string a0.Text]]:List (List Value))),()),hxr,hlow,⟨bE,trivial⟩,hS.d1.s9⟩⟩
     ·rintro e w2 ⟨ν_n,g_n,hxn,hlown,hPn,rfl,hSn⟩
      refine ⟨_,rfl,?_⟩
      obtain ⟨nhq351,-⟩:=hPn
      rcases Bool.eq_false_or_eq_true a1.2 with hb_|hb_
      ·rw [hb_] at hSn
       refine .inl ⟨_,⟨ν_n,g_n,rfl,hxn,hlown,hb_,nhq351⟩,(by have:=St.pickT (A:=[fz w0 ν_n,F3 l2_ (rec2 .ready none),F3 D2_ (.deferred (some [])),arr 48 21 (fN 21) g_n.1 a1.1.1.length g_n.2.1 g_n.2.2.1,arrT 5 1 (fK .u8) (some ⟨b8,0,none⟩) ([82,86,70,49]).length 4 ([82,86,70,49]),blk b7 25 #[iv a1.1.2.2.1],blk b6 3 #[iv a1.1.2.1],blk b5 24 #[.slice g_n.1 a1.1.1.length g_n.2.1],blk b4 22 #[sv ad1 p0 cap2],Eo ([])]) (T:=[]) [1,2,3,4,5,6,7,8,9,0] (by decide) hSn;simpa using this)⟩
      ·rw [hb_] at hSn
       refine .inr ⟨_,_,⟨ν_n,g_n,rfl,hxn,hlown,hb_,rfl,nhq351⟩,(by have:=St.pickT (A:=[fz w0 ν_n,F3 l2_ (rec2 .done (some (K2 (a1.1.2.2.2)))),F3 D2_ (.deferred (some [])),arr 48 21 (fN 21) g_n.1 a1.1.1.length g_n.2.1 g_n.2.2.1,arrT 5 1 (fK .u8) (some ⟨b8,0,none⟩) ([82,86,70,49]).length 4 ([82,86,70,49]),blk b7 25 #[iv a1.1.2.2.1],blk b6 3 #[iv a1.1.2.1],blk b5 24 #[.slice g_n.1 a1.1.1.length g_n.2.1],blk b4 22 #[sv ad1 p0 cap2],Eo ([])]) (T:=[]) [1,2,3,4,5,6,7,8,9,0] (by decide) hSn;simpa using this)⟩
    ·rintro D413 a w _ ⟨ν412,a2,rfl,hxn,hlow,hb_,a7⟩ hF hS
     replace hA3:=hA3.mono hxn.1
     replace hB224:=hB224.mono hxn.1
     replace a3:=a3.t hxn.1
     replace hext:=hext.t hxn
     replace hS:St w0 [F3 D413 (.deferred (some [])),arr 48 21 (fN 21) a2.1 a1.1.1.length a2.2.1 a2.2.2.1,arrT 5 1 (fK .u8) (some ⟨b8,0,none⟩) ([82,86,70,49]).length 4 ([82,86,70,49]),blk b7 25 #[iv a1.1.2.2.1],blk b6 3 #[iv a1.1.2.1],blk b5 24 #[.slice a2.1 a1.1.1.length a2.2.1],blk b4 22 #[sv ad1 p0 cap2],Eo ([]),fz w0 ν412] w:=hS
     replace hS:=St.mark (St.pick [0,7,1,2,3,4,5,6,8] (by decide) hS)
     replace hS:St w0 [Eo (D413::[]),arr 48 21 (fN 21) a2.1 a1.1.1.length a2.2.1 a2.2.2.1,arrT 5 1 (fK .u8) (some ⟨b8,0,none⟩) ([82,86,70,49]).length 4 ([82,86,70,49]),blk b7 25 #[iv a1.1.2.2.1],blk b6 3 #[iv a1.1.2.1],blk b5 24 #[.slice a2.1 a1.1.1.length a2.2.1],blk b4 22 #[sv ad1 p0 cap2],fz w0 ν412] w:=hS
     replace hF:Fr 71 (Pm (D413::[])) [(1,pb b4),(2,pb b5),(3,pb b6),(4,pb b7),(36,.func (.func 65) #[] #[pb aG])] a:=hF
     replace h:=Gx h hb_
     refine A9<|A3<|?_
     replace hF:Fr 71 (Pm (D413::[])) [(2,pb b5),(3,pb b6),(4,pb b7)] a:=hF.sub kr
     exact ⟨a1.1.1,a1.1.2.1,a1.1.2.2.1,ν412,a2.1,a2.2.1,a2.2.2.1,(D413::[]),hF.sub kr,St.pick [1,0,2,3,4,5,6,7] (by decide) hS,a7,a3,hext,hlow,h⟩
    rintro D413 _ a w _ ⟨ν412,a2,rfl,hxn,hlow,hb_,rfl,a7⟩ hF hS
    replace hA3:=hA3.mono hxn.1
    replace hB224:=hB224.mono hxn.1
    replace a3:=a3.t hxn.1
    replace hext:=hext.t hxn
    replace hS:St w0 [F3 D413 (.deferred (some [])),arr 48 21 (fN 21) a2.1 a1.1.1.length a2.2.1 a2.2.2.1,arrT 5 1 (fK .u8) (some ⟨b8,0,none⟩) ([82,86,70,49]).length 4 ([82,86,70,49]),blk b7 25 #[iv a1.1.2.2.1],blk b6 3 #[iv a1.1.2.1],blk b5 24 #[.slice a2.1 a1.1.1.length a2.2.1],blk b4 22 #[sv ad1 p0 cap2],Eo ([]),fz w0 ν412] w:=hS
    replace hS:=St.mark (St.pick [0,7,1,2,3,4,5,6,8] (by decide) hS)
    replace hS:St w0 [Eo (D413::[]),arr 48 21 (fN 21) a2.1 a1.1.1.length a2.2.1 a2.2.2.1,arrT 5 1 (fK .u8) (some ⟨b8,0,none⟩) ([82,86,70,49]).length 4 ([82,86,70,49]),blk b7 25 #[iv a1.1.2.2.1],blk b6 3 #[iv a1.1.2.1],blk b5 24 #[.slice a2.1 a1.1.1.length a2.2.1],blk b4 22 #[sv ad1 p0 cap2],fz w0 ν412] w:=hS
    replace hF:Fr 71 (Pm (D413::[])) [(1,pb b4),(2,pb b5),(3,pb b6),(4,pb b7),(36,.func (.func 65) #[] #[pb aG])] a:=hF
    replace h:=Gw h hb_
    rcases Bool.eq_false_or_eq_true (a1.1.2.2.2==3) with aO|aO
    ·replace h:=Gx h aO
     rw [show K2 (a1.1.2.2.2)=Code.exit 1 from by rw [K2];simp only [aO];rfl]
     refine wpIn_exit (Ar<|A3 ?_)
     exact ⟨a1.1.1,a1.1.2.1,a1.1.2.2.1,ν412,a2.1,a2.2.1,a2.2.2.1,(D413::[]),hF.sub kr,St.pick [1,0,2,3,4,5,6,7] (by decide) hS,a7,a3,hext,hlow,h⟩
    ·replace h:=Gw h aO
     cases h
   clear a3
   rintro a w ⟨a4,aE,aF,ν207,a5,a6,aJ,Ds215,hF,hS,bD,bC,hext,hlow,h⟩
   replace hA3:=hA3.mono bC
   rw [Eu] at h
   refine Am<|qoB [(67,.bool (decide ((ln a4)>1000)))] hF (oL 24 5 0 hS.i rfl rfl<|A1) fun a hF=>?_
   refine A8 hF h (fun hc h=>?_) fun hc h=>?_
   ·refine esr<|SK.wi (qs 24 5 0 (.slice none 0 0) hF hS rfl fun w a hF hS=>?_)
    refine SK.wi (qs 3 4 0 (iv 0) hF hS rfl fun w a hF hS=>?_)
    refine SK.wi (qs 25 3 0 (iv 9) hF hS rfl fun w a hF hS=>wfn rfl ?_)
    refine wpIn_ret (A2<|Q2 (H:=[arr 48 21 (fN 21) a5 a4.length a6 aJ,arrT 5 1 (fK .u8) (some ⟨b8,0,none⟩) ([82,86,70,49]).length 4 ([82,86,70,49]),blk b7 25 #[iv 9],blk b6 3 #[iv 0],blk b5 24 #[.slice none 0 0],blk b4 22 #[sv ad1 p0 cap2],fz w0 ν207]) [.cell 2 24,.cell 3 3,.cell 4 25] [.slice none 0 0,iv 0,iv 9] hF (St.pick [1,0,2,3,4,5,6,7] (by decide) hS) rfl fun w hS=>⟨⟨⟨_,rfl,Bo kr (hS.cell (i:=4) (j:=0) rfl rfl)⟩,⟨_,rfl,Bo kr (hS.cell (i:=3) (j:=0) rfl rfl)⟩,⟨_,rfl,Bo kr (hS.cell (i:=2) (j:=0) rfl rfl)⟩,trivial⟩,?_⟩)
    obtain rfl:=Ae h
    replace hS:=hS.nilarr 48 21 (fN 21)
    exact ⟨_,rfl,ν207,_,_,_,hext,rfl,All2.nil,St.pick [7,0] (by decide) hS⟩
   ·refine wK<|Am<|Bq 5 [3,4] _ (D:=fun w=>St w0 [arr 48 21 (fN 21) a5 a4.length a6 aJ,Eo Ds215,arrT 5 1 (fK .u8) (some ⟨b8,0,none⟩) ([82,86,70,49]).length 4 ([82,86,70,49]),blk b7 25 #[iv aF],blk b6 3 #[iv aE],blk b5 24 #[sv a5 a4 a6],blk b4 22 #[sv ad1 p0 cap2]] w∧FrzAt ν207 w) kr kr hF.size (fun w hx=>?_) (fun _ _ h=>h)
    replace hS:=hS.later hx
    refine ⟨⟨St.pick [0,1,2,3,4,5,6] (by decide) hS,hS.frz (i:=7) rfl hlow⟩,?_⟩
    have bL:=Frz.le_refl ν207
    refine WT.s [0,1,2] [3] kr kr ?_
    refine qC 3 [(68,sv a5 a4 a6),(69,iv aE),(70,iv aF)] hF (oL 24 5 0 (fun _ hd=>hd.1) rfl rfl<|oL 3 4 0 (fun _ hd=>hd.1) rfl rfl<|oL 25 3 0 (fun _ hd=>hd.1) rfl rfl<|A1) fun a hF=>?_
    refine WRun.fin ?_
    refine all_cons ?_ (Aq)
    refine qs 24 5 0 (sv a5 a4 a6) hF hS rfl fun w a hF hS=>⟨⟨St.pick [0,1,2,3,4,5,6] (by decide) hS,(hS.frz (i:=7) rfl hlow)⟩,?_⟩
    refine WT.s [] [4] kr kr ?_
    refine WRun.fin ?_
    refine all_cons ?_ (Aq)
    refine qs 3 4 0 (iv aE) hF hS rfl fun w a hF hS=>⟨⟨St.pick [0,1,2,3,4,5,6] (by decide) hS,(hS.frz (i:=7) rfl hlow)⟩,?_⟩
    refine WT.z [] kr ?_
    refine WRun.fin ?_
    refine SK.wi (qs 25 3 0 (iv aF) hF hS rfl fun w a hF hS=>wfn rfl ?_)
    refine wpIn_ret (Q2 (H:=[arr 48 21 (fN 21) a5 a4.length a6 aJ,arrT 5 1 (fK .u8) (some ⟨b8,0,none⟩) ([82,86,70,49]).length 4 ([82,86,70,49]),blk b7 25 #[iv aF],blk b6 3 #[iv aE],blk b5 24 #[sv a5 a4 a6],blk b4 22 #[sv ad1 p0 cap2],fz w0 ν207]) [.cell 2 24,.cell 3 3,.cell 4 25] [sv a5 a4 a6,iv aE,iv aF] hF (St.pick [1,0,2,3,4,5,6,7] (by decide) hS) rfl fun w hS=>⟨⟨⟨_,rfl,Bo kr (hS.cell (i:=4) (j:=0) rfl rfl)⟩,⟨_,rfl,Bo kr (hS.cell (i:=3) (j:=0) rfl rfl)⟩,⟨_,rfl,Bo kr (hS.cell (i:=2) (j:=0) rfl rfl)⟩,trivial⟩,?_⟩)
    obtain rfl:=Ae h
    exact ⟨_,rfl,ν207,_,_,_,hext,rfl,bD,St.pick [6,0] (by decide) hS⟩
theorem Th (F:Nat) (p0:(List Int)) (res:((List volume_Item)×Int×Int)) (h:P3 F p0=some res) (μ:Frz) (w0:World) (hm:FrzAt μ w0) {ad1:Option Addr} {cap2:Nat} (hA3:ArrM μ 1 (fK .u8) ad1 cap2 p0):Ba Tryz.prog 13 #[sv ad1 p0 cap2] w0 (fun e w=>∃(ν_:Frz) (zad0:Option Addr) (zcap0:Nat) (zcss0:List (List Value)),μ.ext w0.heap.size ν_∧e=(.tuple #[sv zad0 res.1 zcap0,iv res.2.1,iv res.2.2])∧All2 (Rp48 ν_) zcss0 res.1∧St w0 [fz w0 ν_,arr 48 21 (fN 21) zad0 res.1.length zcap0 zcss0] w):=by
 obtain ⟨hlow,hS⟩:=hm.init
 have hext:=Frz.ext_refl w0.heap.size μ
 rw [P3] at h
 refine V2 Tryz.func13 rfl 35 [(0,sv ad1 p0 cap2)] rfl rfl kr fun a w hw hF=>?_
 replace hS:=hS.cast hw
 clear hw
 replace hS:=hS.noMarks
 refine esr<|SK.wi (rA 24 #[.slice none 0 0] (fun b4=>[(0,sv ad1 p0 cap2),(2,pb b4)]) hF hS fun b4 w a hF hS=>?_)
 refine SK.wi (qA 3 #[iv 0] (fun b5=>[(3,pb b5)]) hF hS fun b5 w a hF hS=>?_)
 refine qn 1 3 [(4,iv 0)] hF fun a hF=>wfn rfl ?_
 refine Am<|qnB [(11,.bool (decide ((ln p0)>16777216)))] hF fun a hF=>?_
 refine A8 hF h (fun hc h=>?_) fun hc h=>?_
 ·refine esr<|SK.wi (qs 24 1 0 (.slice none 0 0) hF hS rfl fun w a hF hS=>?_)
  refine SK.wi (qs 3 0 0 (iv 0) hF hS rfl fun w a hF hS=>?_)
  refine rn 1 3 [(2,pb b4),(3,pb b5),(4,iv 8)] hF fun a hF=>wfn rfl ?_
  refine wpIn_ret (A2<|Q2 (H:=[blk b5 3 #[iv 0],blk b4 24 #[.slice none 0 0],fz w0 μ]) [.cell 2 24,.cell 3 3,.tmp 4] [.slice none 0 0,iv 0,iv 8] hF (St.pick [2,0,1,3] (by decide) hS) rfl fun w hS=>⟨⟨⟨_,rfl,Bo kr (hS.cell (i:=1) (j:=0) rfl rfl)⟩,⟨_,rfl,Bo kr (hS.cell (i:=0) (j:=0) rfl rfl)⟩,rfl,trivial⟩,?_⟩)
  obtain rfl:=Ae h
  replace hS:=hS.nilarr 48 21 (fN 21)
  exact ⟨_,rfl,μ,_,_,_,hext,rfl,All2.nil,St.pick [3,0] (by decide) hS⟩
 ·refine wK<|Am<|esr<|qn 1 1 [(12,sv ad1 p0 cap2)] hF fun a hF=>?_
  refine SK.wi (qR (fun v6=>[(13,v6)]) hF (Pw p0 _ rfl (B0 w) w (A4 w) (hA3.mono (FrzAt.le_mem (hS.frz (i:=3) rfl hlow)))) ?_)
  rintro v6 w a ⟨b7,rfl,hQ⟩ hF
  replace hS:=hS.madeL hQ
  refine wfn rfl ?_
  refine wpIn_block ?_
  obtain ⟨ν8,hx9,hlow,hS,aX⟩:=hS.freeze (i:=4) (j:=0) rfl rfl (by decide) hlow
  replace hA3:=hA3.mono hx9.1
  replace hext:=hext.t hx9
  have hB11:BlkM ν8 b7 22 #[sv ad1 p0 cap2]:=aX
  replace hS:=hS.nilarr 48 21 (fN 21)
  obtain ⟨a1,hr189,h⟩:=A0 h
  refine A1w (gf:=65) (lb:=#[pb b7]) (fun l=>#[.func (.yield l) #[] #[],pb b7]) (fun H1=>∃(ν_n:Frz) (g_n:(Option Addr×Nat×List (List Value)×Unit)),H1=[arr 48 21 (fN 21) g_n.1 a1.1.1.length g_n.2.1 g_n.2.2.1,blk b5 3 #[iv a1.1.2.1],blk b4 24 #[.slice g_n.1 a1.1.1.length g_n.2.1],Eo ([]),fz w0 ν_n]∧ν8.ext w0.heap.size ν_n∧Ax w0 ν_n∧a1.2=true∧(All2 (Rp48 ν_n) g_n.2.2.1 a1.1.1)) (fun c H1=>∃(ν_n:Frz) (g_n:(Option Addr×Nat×List (List Value)×Unit)),H1=[arr 48 21 (fN 21) g_n.1 a1.1.1.length g_n.2.1 g_n.2.2.1,blk b5 3 #[iv a1.1.2.1],blk b4 24 #[.slice g_n.1 a1.1.1.length g_n.2.1],Eo ([]),fz w0 ν_n]∧ν8.ext w0.heap.size ν_n∧Ax w0 ν_n∧a1.2=false∧c=Lj (a1.1.2.2)∧(All2 (Rp48 ν_n) g_n.2.2.1 a1.1.1)) (M:=[(2,pb b4),(3,pb b5),(4,iv 0),(13,.func (.func 65) #[] #[pb b7])]) (hF.sub kr) rfl hS (fun _=>rfl) (fun _=>by kernel_rfl) ?_ ?_ ?_
  ·replace hF:Fr 35 (Pm ([])) [(2,pb b4),(3,pb b5),(4,iv 0),(13,.func (.func 65) #[] #[pb b7])] a:=hF.sub kr
   intro fn_ l1_ D1_ rec1 w hrec1 hS
   replace hS:St w0 [F3 l1_ (rec1 .ready none),F3 D1_ (.deferred (some [])),arr 48 21 (fN 21) none ([]:List volume_Item).length 0 ([]:List (List Value)),blk b5 3 #[iv 0],blk b4 24 #[.slice none 0 0],Eo ([]),fz w0 ν8] w:=hS
   refine Calls.mono (P5 F p0 (Li F) (([]:List volume_Item),0,0) _ hr189 l1_ ν8 w0 w (fun (s_r:((List volume_Item)×Int×Nat)) (b_r:Bool) (g_r:(Option Addr×Nat×List (List Value)×Unit))=>[F3 l1_ (rec1 (bif b_r then .ready else .done) (bif b_r then none else some (Lj (s_r.2.2)))),F3 D1_ (.deferred (some [])),arr 48 21 (fN 21) g_r.1 s_r.1.length g_r.2.1 g_r.2.2.1,blk b5 3 #[iv s_r.2.1],blk b4 24 #[.slice g_r.1 s_r.1.length g_r.2.1],Eo ([])]) (fun (s_r:((List volume_Item)×Int×Nat)) (b_r:Bool) (g_r:(Option Addr×Nat×List (List Value)×Unit)) (ν_r:Frz)=>(All2 (Rp48 ν_r) g_r.2.2.1 s_r.1)∧True) (fun _ _ _ _ _ h hle=>⟨All2.mono Rp48.mono hle h.1,trivial⟩) ?_ (none,0,[],()) [] hlow ⟨All2.nil,trivial⟩ (St.pickT (A:=[F3 l1_ (rec1 .ready none),F3 D1_ (.deferred (some [])),arr 48 21 (fN 21) none ([]:List volume_Item).length 0 ([]:List (List Value)),blk b5 3 #[iv 0],blk b4 24 #[.slice none 0 0],Eo ([]),fz w0 ν8]) (T:=[]) [6,0,1,2,3,4,5] (by decide) (by simpa using hS)) hB11 hA3) ?_
   ·rintro s_r x_ q_r h ν_r g_r G_r w aD aE hxv hlow hP aC hS
    obtain ⟨a3,-⟩:=hP
    replace hA3:=hA3.mono hxv.1
    replace hB11:=hB11.mono hxv.1
    have hxr:=Frz.ext_refl w0.heap.size ν_r
    replace hext:=hext.t hxv
    replace hS:St w0 (F3 l1_ (rec1 .ready none)::F3 D1_ (.deferred (some []))::arr 48 21 (fN 21) g_r.1 s_r.1.length g_r.2.1 g_r.2.2.1::blk b5 3 #[iv s_r.2.1]::blk b4 24 #[.slice g_r.1 s_r.1.length g_r.2.1]::Eo ([])::fz w0 ν_r::G_r) w:=St.pickT (A:=[fz w0 ν_r,F3 l1_ (rec1 .ready none),F3 D1_ (.deferred (some [])),arr 48 21 (fN 21) g_r.1 s_r.1.length g_r.2.1 g_r.2.2.1,blk b5 3 #[iv s_r.2.1],blk b4 24 #[.slice g_r.1 s_r.1.length g_r.2.1],Eo ([])]) (T:=G_r) [1,2,3,4,5,6,0] (by decide) hS
    rw [Li] at h
    refine A20 (rec:=rec1) hrec1 [(14,iv x_.1),(15,sv aD x_.2 aE)] [(2,pb b4),(3,pb b5),(14,iv x_.1),(15,sv aD x_.2 aE)] hF (by simp) rfl rfl kr hS ?_
    intro a hF
    refine WI.region<|rn 1 1 [(2,pb b4),(3,pb b5),(6,sv aD x_.2 aE)] hF fun a hF=>wfn rfl ?_
    refine ⟨_,hS,fun w hS=>?_⟩
    refine wpIn_block<|esr<|qn 1 1 [(17,sv aD x_.2 aE)] hF fun a hF=>?_
    obtain ⟨aP,aV,h⟩:=A0 h
    refine SK.wi (qR (fun aL=>[(18,aL)]) hF (Px F _ _ aV ν_r w (hS.frz (i:=6) rfl hlow) aC) ?_)
    rintro aL w a ⟨ν141,aM,a9,rfl,aH,hQ⟩ hF
    replace hext:=hext.t (Frz.ext_mono a9 hS.ext.size)
    replace hxr:=Frz.ext_trans hxr (Frz.ext_mono a9 hS.ext.size)
    obtain ⟨hlow,hS⟩:=hS.frzMerge (i:=6) rfl hlow a9 hQ
    replace hA3:=hA3.mono a9.1
    replace hB11:=hB11.mono a9.1
    replace a3:=All2.mono Rp48.mono a9.1 a3
    replace aC:=aC.mono a9.1
    refine qn 5 7 [(7,aM),(8,iv aP.2)] hF fun a hF=>wfn rfl ?_
    refine qnB [(22,.bool (aP.2==0))] hF fun a hF=>?_
    refine A8 hF h (fun hc h=>?_) fun hc h=>?_
    ·obtain ⟨a0,aW,h⟩:=A0 h
     refine Bq 4 [2,3] _ (D:=fun w=>St w0 [F3 l1_ (rec1 .busy none),F3 D1_ (.deferred (some [])),arr 48 21 (fN 21) g_r.1 s_r.1.length g_r.2.1 g_r.2.2.1,blk b5 3 #[iv s_r.2.1],blk b4 24 #[.slice g_r.1 s_r.1.length g_r.2.1],Eo ([])] w∧FrzAt ν141 w) kr kr hF.size (fun w hx=>?_) (fun _ _ h=>h)
     replace hS:=hS.later hx
     refine ⟨⟨St.pick [0,1,2,3,4,5] (by decide) hS,hS.frz (i:=6) rfl hlow⟩,?_⟩
     have aF:=Frz.le_refl ν141
     refine WT.s [0,1] [2] kr kr ?_
     refine qC 2 [(23,.slice g_r.1 s_r.1.length g_r.2.1),(24,aM)] hF (oL 24 4 0 (fun _ hd=>hd.1) rfl rfl<|A1) fun a hF=>?_
     refine WRun.fin ?_
     refine all_cons ?_ (Aq)
     refine Z9 (fun aN=>[(2,pb b4),(23,.slice g_r.1 s_r.1.length g_r.2.1),(25,aN)]) hF kr ⟨kr⟩ (Mo F _ _ aW ν141 w (hS.frz (i:=6) rfl hlow) aH) (fun _=>⟨kr⟩) ?_
     rintro aN w a ⟨ν172,a5,a7,aQ,a6,a8,a4,rfl,aR,aS,hQ⟩ hF
     replace hext:=hext.t (Frz.ext_mono a4 hS.ext.size)
     replace hxr:=Frz.ext_trans hxr (Frz.ext_mono a4 hS.ext.size)
     obtain ⟨hlow,hS⟩:=hS.frzMerge (i:=6) rfl hlow a4 hQ
     replace hA3:=hA3.mono a4.1
     replace hB11:=hB11.mono a4.1
     replace a3:=All2.mono Rp48.mono a4.1 a3
     replace aC:=aC.mono a4.1
     replace aH:=aH.mono a4.1
     replace aF:=aF.t a4.1
     refine ⟨⟨St.pick [0,1,2,3,4,5] (by decide) hS,(hS.frz (i:=6) rfl hlow).low aF⟩,?_⟩
     refine WT.s [] [3] kr kr ?_
     refine WRun.fin ?_
     refine all_cons ?_ (Aq)
     have aK:All2 (Rp48 ν172) ([[iv a0.Kind,.string a0.Name,iv a0.Time,.string a0.Sweep.Site.Name,iv a0.Sweep.Site.X,iv a0.Sweep.Site.Y,iv a0.Sweep.Site.Z,iv a0.Sweep.Site.Rose,iv a0.Sweep.Site.Gates,iv a0.Sweep.Site.Step,iv a0.Sweep.Site.Width,iv a0.Sweep.Tilt,iv a0.Sweep.Time,sv a5 a0.Sweep.Rays a7,iv a0.Field.Grid.X,iv a0.Field.Grid.Y,iv a0.Field.Grid.Size,iv a0.Field.Grid.Wide,iv a0.Field.Grid.High,sv a6 a0.Field.Vals a8,.string a0.Text]]:List (List Value)) [a0]:=(All2.cons ⟨a5,a7,aQ,a6,a8,rfl,aR,aS⟩ All2.nil)
     refine Qn (e:=48) (sz:=21) (f:=fN 21) (t:=24) (len:=1) (fun aI=>[(2,pb b4),(23,.slice g_r.1 s_r.1.length g_r.2.1),(26,sb aI 1)]) #[(0,.agg (a0.ax a5 a7 a6 a8))] (a0.ax a5 a7 a6 a8) ([[iv a0.Kind,.string a0.Name,iv a0.Time,.string a0.Sweep.Site.Name,iv a0.Sweep.Site.X,iv a0.Sweep.Site.Y,iv a0.Sweep.Site.Z,iv a0.Sweep.Site.Rose,iv a0.Sweep.Site.Gates,iv a0.Sweep.Site.Step,iv a0.Sweep.Site.Width,iv a0.Sweep.Tilt,iv a0.Sweep.Time,sv a5 a0.Sweep.Rays a7,iv a0.Field.Grid.X,iv a0.Field.Grid.Y,iv a0.Field.Grid.Size,iv a0.Field.Grid.Wide,iv a0.Field.Grid.High,sv a6 a0.Field.Vals a8,.string a0.Text]]:List (List Value)) ([a0]) hF hS kr ⟨kr⟩ kr (Dg 21) rfl rfl rfl kr (fun _=>⟨kr⟩) fun aI w a hF hS=>⟨⟨St.pick [1,2,3,4,5,6] (by decide) hS,(hS.frz (i:=7) rfl hlow).low aF⟩,?_⟩
     refine WT.z [] kr ?_
     refine WRun.fin ?_
     obtain ⟨aG,aJ,h⟩:=A0 h
     have aT:All2 (Rp48 ν172) (g_r.2.2.1++([[iv a0.Kind,.string a0.Name,iv a0.Time,.string a0.Sweep.Site.Name,iv a0.Sweep.Site.X,iv a0.Sweep.Site.Y,iv a0.Sweep.Site.Z,iv a0.Sweep.Site.Rose,iv a0.Sweep.Site.Gates,iv a0.Sweep.Site.Step,iv a0.Sweep.Site.Width,iv a0.Sweep.Tilt,iv a0.Sweep.Time,sv a5 a0.Sweep.Rays a7,iv a0.Field.Grid.X,iv a0.Field.Grid.Y,iv a0.Field.Grid.Size,iv a0.Field.Grid.Wide,iv a0.Field.Grid.High,sv a6 a0.Field.Vals a8,.string a0.Text]]:List (List Value))) aG:=by rw [(Mh aJ).1];exact All2.app a3 aK
     refine SK.wi (Xc (t:=24) (ty:=24) (bytes:=224) (c:=g_r.2.2.1) (c':=([[iv a0.Kind,.string a0.Name,iv a0.Time,.string a0.Sweep.Site.Name,iv a0.Sweep.Site.X,iv a0.Sweep.Site.Y,iv a0.Sweep.Site.Z,iv a0.Sweep.Site.Rose,iv a0.Sweep.Site.Gates,iv a0.Sweep.Site.Step,iv a0.Sweep.Site.Width,iv a0.Sweep.Tilt,iv a0.Sweep.Time,sv a5 a0.Sweep.Rays a7,iv a0.Field.Grid.X,iv a0.Field.Grid.Y,iv a0.Field.Grid.Size,iv a0.Field.Grid.Wide,iv a0.Field.Grid.High,sv a6 a0.Field.Vals a8,.string a0.Text]]:List (List Value))) (l:=s_r.1) (l':=([a0])) (fun aA aB=>[(2,pb b4),(27,sv aA aG aB)]) 3 hF hS rfl kr ⟨kr⟩ kr (hS.arr (i:=0) rfl) (ArrQ.one aK Rp48.one) aJ (fun _ _=>⟨kr⟩) fun aA aB w a hF hS=>?_)
     refine SK.wi (Pj (t:=24) [] 5 0 (sv aA aG aB) #[sv aA aG aB] hF hS rfl kr ⟨kr⟩ kr kr kr kr ⟨kr⟩ fun w a hF hS=>?_)
     refine WI.fin rfl (A9 ?_)
     obtain rfl:=Ae h
     refine ⟨_,hS.s1,fun w hS=>⟨rfl,ν172,(aA,aB,(g_r.2.2.1++([[iv a0.Kind,.string a0.Name,iv a0.Time,.string a0.Sweep.Site.Name,iv a0.Sweep.Site.X,iv a0.Sweep.Site.Y,iv a0.Sweep.Site.Z,iv a0.Sweep.Site.Rose,iv a0.Sweep.Site.Gates,iv a0.Sweep.Site.Step,iv a0.Sweep.Site.Width,iv a0.Sweep.Tilt,iv a0.Sweep.Time,sv a5 a0.Sweep.Rays a7,iv a0.Field.Grid.X,iv a0.Field.Grid.Y,iv a0.Field.Grid.Size,iv a0.Field.Grid.Wide,iv a0.Field.Grid.High,sv a6 a0.Field.Vals a8,.string a0.Text]]:List (List Value))),()),hxr,hlow,⟨aT,trivial⟩,hS.d1.s6⟩⟩
    ·refine WI.region ?_
     obtain ⟨aO,aU,h⟩:=A0 h
     refine qo 2 2 [(29,iv aO)] hF (oL 3 3 0 hS.i rfl rfl<|oA 3 aU<|A1) fun a hF=>?_
     refine SK.wi (qs 3 3 0 (iv aO) hF hS rfl fun w a hF hS=>?_)
     refine WI.fin rfl (A9 ?_)
     obtain rfl:=Ae h
     refine ⟨_,hS,fun w hS=>⟨rfl,ν141,(g_r.1,g_r.2.1,g_r.2.2.1,()),hxr,hlow,⟨a3,trivial⟩,hS.s6⟩⟩
   ·rintro e w2 ⟨ν_n,g_n,hxn,hlown,hPn,rfl,hSn⟩
    refine ⟨_,rfl,?_⟩
    obtain ⟨nhq133,-⟩:=hPn
    rcases Bool.eq_false_or_eq_true a1.2 with hb_|hb_
    ·rw [hb_] at hSn
     refine .inl ⟨_,⟨ν_n,g_n,rfl,hxn,hlown,hb_,nhq133⟩,(by have:=St.pickT (A:=[fz w0 ν_n,F3 l1_ (rec1 .ready none),F3 D1_ (.deferred (some [])),arr 48 21 (fN 21) g_n.1 a1.1.1.length g_n.2.1 g_n.2.2.1,blk b5 3 #[iv a1.1.2.1],blk b4 24 #[.slice g_n.1 a1.1.1.length g_n.2.1],Eo ([])]) (T:=[]) [1,2,3,4,5,6,0] (by decide) hSn;simpa using this)⟩
    ·rw [hb_] at hSn
     refine .inr ⟨_,_,⟨ν_n,g_n,rfl,hxn,hlown,hb_,rfl,nhq133⟩,(by have:=St.pickT (A:=[fz w0 ν_n,F3 l1_ (rec1 .done (some (Lj (a1.1.2.2)))),F3 D1_ (.deferred (some [])),arr 48 21 (fN 21) g_n.1 a1.1.1.length g_n.2.1 g_n.2.2.1,blk b5 3 #[iv a1.1.2.1],blk b4 24 #[.slice g_n.1 a1.1.1.length g_n.2.1],Eo ([])]) (T:=[]) [1,2,3,4,5,6,0] (by decide) hSn;simpa using this)⟩
  ·rintro D192 a w _ ⟨ν191,a2,rfl,hxn,hlow,hb_,a3⟩ hF hS
   replace hA3:=hA3.mono hxn.1
   replace hB11:=hB11.mono hxn.1
   replace hext:=hext.t hxn
   replace hS:St w0 [F3 D192 (.deferred (some [])),arr 48 21 (fN 21) a2.1 a1.1.1.length a2.2.1 a2.2.2.1,blk b5 3 #[iv a1.1.2.1],blk b4 24 #[.slice a2.1 a1.1.1.length a2.2.1],Eo ([]),fz w0 ν191] w:=hS
   replace hS:=St.mark (St.pick [0,4,1,2,3,5] (by decide) hS)
   replace hS:St w0 [Eo (D192::[]),arr 48 21 (fN 21) a2.1 a1.1.1.length a2.2.1 a2.2.2.1,blk b5 3 #[iv a1.1.2.1],blk b4 24 #[.slice a2.1 a1.1.1.length a2.2.1],fz w0 ν191] w:=hS
   replace hF:Fr 35 (Pm (D192::[])) [(2,pb b4),(3,pb b5),(4,iv 0),(13,.func (.func 65) #[] #[pb b7])] a:=hF
   replace h:=Gx h hb_
   refine A9<|A3<|?_
   replace hF:Fr 35 (Pm (D192::[])) [(2,pb b4),(3,pb b5)] a:=hF.sub kr
   refine Am<|qoB [(32,.bool (decide ((ln a1.1.1)>1000)))] hF (oL 24 3 0 hS.i rfl rfl<|A1) fun a hF=>?_
   refine A8 hF h (fun hc h=>?_) fun hc h=>?_
   ·refine esr<|SK.wi (qs 24 3 0 (.slice none 0 0) hF hS rfl fun w a hF hS=>?_)
    refine SK.wi (qs 3 2 0 (iv 0) hF hS rfl fun w a hF hS=>?_)
    refine qn 1 3 [(4,iv 9)] hF fun a hF=>wfn rfl ?_
    refine wpIn_ret (A2<|Q2 (H:=[arr 48 21 (fN 21) a2.1 a1.1.1.length a2.2.1 a2.2.2.1,blk b5 3 #[iv 0],blk b4 24 #[.slice none 0 0],fz w0 ν191]) [.cell 2 24,.cell 3 3,.tmp 4] [.slice none 0 0,iv 0,iv 9] hF (St.pick [0,1,2,3,4] (by decide) hS) rfl fun w hS=>⟨⟨⟨_,rfl,Bo kr (hS.cell (i:=2) (j:=0) rfl rfl)⟩,⟨_,rfl,Bo kr (hS.cell (i:=1) (j:=0) rfl rfl)⟩,rfl,trivial⟩,?_⟩)
    obtain rfl:=Ae h
    replace hS:=hS.nilarr 48 21 (fN 21)
    exact ⟨_,rfl,ν191,_,_,_,hext,rfl,All2.nil,St.pick [4,0] (by decide) hS⟩
   ·refine wK<|Am<|Bq 3 [2] _ (D:=fun w=>St w0 [Eo (D192::[]),arr 48 21 (fN 21) a2.1 a1.1.1.length a2.2.1 a2.2.2.1,blk b5 3 #[iv a1.1.2.1],blk b4 24 #[.slice a2.1 a1.1.1.length a2.2.1]] w∧FrzAt ν191 w) kr kr hF.size (fun w hx=>?_) (fun _ _ h=>h)
    replace hS:=hS.later hx
    refine ⟨⟨St.pick [0,1,2,3] (by decide) hS,hS.frz (i:=4) rfl hlow⟩,?_⟩
    have aY:=Frz.le_refl ν191
    refine WT.s [0,1] [2] kr kr ?_
    refine qC 2 [(33,.slice a2.1 a1.1.1.length a2.2.1),(34,iv a1.1.2.1)] hF (oL 24 3 0 (fun _ hd=>hd.1) rfl rfl<|oL 3 2 0 (fun _ hd=>hd.1) rfl rfl<|A1) fun a hF=>?_
    refine WRun.fin ?_
    refine all_cons ?_ (Aq)
    refine qs 24 3 0 (.slice a2.1 a1.1.1.length a2.2.1) hF hS rfl fun w a hF hS=>⟨⟨St.pick [0,1,2,3] (by decide) hS,(hS.frz (i:=4) rfl hlow)⟩,?_⟩
    refine WT.z [] kr ?_
    refine WRun.fin ?_
    refine SK.wi (qs 3 2 0 (iv a1.1.2.1) hF hS rfl fun w a hF hS=>?_)
    refine qn 1 5 [(4,iv 0)] hF fun a hF=>wfn rfl ?_
    refine wpIn_ret (Q2 (H:=[arr 48 21 (fN 21) a2.1 a1.1.1.length a2.2.1 a2.2.2.1,blk b5 3 #[iv a1.1.2.1],blk b4 24 #[.slice a2.1 a1.1.1.length a2.2.1],fz w0 ν191]) [.cell 2 24,.cell 3 3,.tmp 4] [.slice a2.1 a1.1.1.length a2.2.1,iv a1.1.2.1,iv 0] hF (St.pick [0,1,2,3,4] (by decide) hS) rfl fun w hS=>⟨⟨⟨_,rfl,Bo kr (hS.cell (i:=2) (j:=0) rfl rfl)⟩,⟨_,rfl,Bo kr (hS.cell (i:=1) (j:=0) rfl rfl)⟩,rfl,trivial⟩,?_⟩)
    obtain rfl:=Ae h
    exact ⟨_,rfl,ν191,_,_,_,hext,rfl,a3,St.pick [3,0] (by decide) hS⟩
  rintro D192 _ a w _ ⟨ν191,a2,rfl,hxn,hlow,hb_,rfl,a3⟩ hF hS
  replace hA3:=hA3.mono hxn.1
  replace hB11:=hB11.mono hxn.1
  replace hext:=hext.t hxn
  replace hS:St w0 [F3 D192 (.deferred (some [])),arr 48 21 (fN 21) a2.1 a1.1.1.length a2.2.1 a2.2.2.1,blk b5 3 #[iv a1.1.2.1],blk b4 24 #[.slice a2.1 a1.1.1.length a2.2.1],Eo ([]),fz w0 ν191] w:=hS
  replace hS:=St.mark (St.pick [0,4,1,2,3,5] (by decide) hS)
  replace hS:St w0 [Eo (D192::[]),arr 48 21 (fN 21) a2.1 a1.1.1.length a2.2.1 a2.2.2.1,blk b5 3 #[iv a1.1.2.1],blk b4 24 #[.slice a2.1 a1.1.1.length a2.2.1],fz w0 ν191] w:=hS
  replace hF:Fr 35 (Pm (D192::[])) [(2,pb b4),(3,pb b5),(4,iv 0),(13,.func (.func 65) #[] #[pb b7])] a:=hF
  replace h:=Gw h hb_
  cases h
theorem P2 (F:Nat) (p0:volume_Item) (res:((List Int)×Int)) (h:F2 F p0=some res) (μ:Frz) (w0:World) (hm:FrzAt μ w0) {ad1:Option Addr} {cap2:Nat} {css3:List (List Value)} {ad4:Option Addr} {cap5:Nat} (hA6:ArrQ μ 1 Rp87 ad1 cap2 css3 p0.Sweep.Rays) (hA7:ArrM μ 2 api_Span.cells ad4 cap5 p0.Field.Vals):Ba Tryz.prog 16 #[.agg (p0.ax ad1 cap2 ad4 cap5)] w0 (fun e w=>∃zad0 zcap0,e=(.tuple #[sv zad0 res.1 zcap0,iv res.2])∧St w0 [arr 5 1 (fK .u8) zad0 res.1.length zcap0 res.1] w):=by
 obtain ⟨hlow,hS⟩:=hm.init
 have hext:=Frz.ext_refl w0.heap.size μ
 rw [F2] at h
 refine feW Tryz.func16 16 [(0,.agg (p0.ax ad1 cap2 ad4 cap5))] hS fun a w hF hS=>?_
 refine esr<|SK.wi (qBa 48 (p0.ax ad1 cap2 ad4 cap5) (fun b8=>[(1,pb b8)]) hF hS fun b8 w a hF hS=>?_)
 refine qn 2 3 [] hF fun a hF=>wfn rfl ?_
 refine esr<|ro 1 1 [(7,.agg (p0.ax ad1 cap2 ad4 cap5))] hF (oN 48 0 0 21 hS.i rfl<|A1) fun a hF=>?_
 obtain ⟨a1,a7,h⟩:=A0 h
 refine SK.wi (rR (fun v9=>[(8,v9)]) hF (Ti F _ _ a7 μ w (hS.frz (i:=1) rfl hlow) hA6 hA7) ?_)
 rintro v9 w a ⟨ν11,a2,a0,rfl,a6,hQ⟩ hF
 replace hext:=hext.t (Frz.ext_mono a0 hS.ext.size)
 obtain ⟨hlow,hS⟩:=hS.frzMerge (i:=1) rfl hlow a0 hQ
 replace hA6:=hA6.mono Rp87.mono a0.1
 replace hA7:=hA7.mono a0.1
 refine rn 5 7 [(4,a2),(5,iv a1.2)] hF fun a hF=>wfn rfl ?_
 refine Am<|qnB [(12,.bool (a1.2 != 0))] hF fun a hF=>?_
 refine A8 hF h (fun hc h=>?_) fun hc h=>?_
 ·refine rnB [(2,.slice none 0 0),(3,iv a1.2)] hF fun a hF=>?_
  refine wpIn_ret (A2<|A7 [.tmp 2,.tmp 3] [_,_] hF rfl ⟨rfl,rfl,trivial⟩ ?_)
  obtain rfl:=Ae h
  replace hS:=hS.nilarr 5 1 (fK .u8)
  exact ⟨_,rfl,_,_,rfl,St.pick [0] (by decide) hS⟩
 ·refine wK<|esr<|rn 1 1 [(14,a2)] hF fun a hF=>?_
  obtain ⟨a9,a8,h⟩:=A0 h
  refine SK.wi (rR (fun a3=>[(15,a3)]) hF (Ul F _ _ a8 (B0 w) w (A4 w) (a6.mono (FrzAt.le_mem (hS.frz (i:=1) rfl hlow)))) ?_)
  rintro a3 w a ⟨a4,a5,rfl,hQ⟩ hF
  replace hS:=hS.madeL hQ
  refine rn 2 4 [(2,sv a4 a9 a5),(3,iv 0)] hF fun a hF=>wfn rfl ?_
  refine wpIn_ret (A7 [.tmp 2,.tmp 3] [_,_] hF rfl ⟨rfl,rfl,trivial⟩ ?_)
  obtain rfl:=Ae h
  exact ⟨_,rfl,_,_,rfl,St.pick [0] (by decide) hS⟩
end Go.Proofs.YtifbomimeodibaaGreat
