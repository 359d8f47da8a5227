import Derived.Test.YtjfhcbjhjeklbaaGreatT3WkD
set_option linter.unusedVariables false
set_option linter.unusedSimpArgs false
set_option linter.unusedSectionVars false
namespace Go.Proofs.YtjfhcbjhjeklbaaGreat
open Go Go.RowKit Go.Eng
set_option linter.unusedVariables false
set_option maxRecDepth 10000
set_option maxHeartbeats 4000000
def B0g (gf:FuncId) (lb:Array Value) (w0:World) (H:List Res) (n:Nat) (Px:List mosaic_Key->Prop):Prop :=
 ∀(γ:Type) (l_:Nat) (I:List mosaic_Key->γ->List Res) (g0:γ) (w1:World),
  (∀pre x g w G,pre.length<n->St w0 (I pre g++G) w->Eng.Yields Tryz.prog l_ #[.agg (mosaic_Key.cells x).toArray] w (λc w2=>c=true/\∃g2,St w0 (I (pre++[x]) g2++G) w2)) ->
  St w0 (I [] g0++H) w1->Calls Tryz.prog gf (#[.func (.yield l_) #[] #[]]++lb) w1 (λe w=>∃xs g,Px xs/\xs.length<=n/\(∃v,e=.returned v)/\St w0 (I xs g++H) w)
theorem B71 (pre:List mosaic_Key) (x:mosaic_Key) (n:Nat) (hn:n<=1000000) (h:pre.length<n):apd 32 pre [x]=some (pre++[x]):=by
 unfold apd;rw [if_pos];simp;omega
theorem A0l (gf:FuncId) (lb:Array Value) (hent:∀args,pureSem Tryz.prog (callFunc gf args)=some (.enter gf args)) (n:Nat) (hn:n<=1000000) (w0 w1:World) (H:List Res) (Px:List mosaic_Key->Prop) (hseq:B0g gf lb w0 (C9 []::H) n Px) (hS:St w0 H w1) :
  Calls Tryz.prog 126 #[.slice none 0 0,.func (.func gf) #[] lb] w1 (λe w=>∃xs ad cap,Px xs/\xs.length<=n/\e=.returned (sv ad xs cap)/\St w0 (arr 63 3 mosaic_Key.cells ad xs.length cap xs::H) w):=by
 refine Uq Tryz.func126 rfl 13 [(0,.slice none 0 0),(1,.func (.func gf) #[] lb)] rfl rfl (by kernel_rfl) λa w hw hF=>?_;replace hS:=hS.cast hw
 clear hw
 replace hS:=hS.noMarks;refine esr<|SK.wi (qB 164 (.slice none 0 0) #[.slice none 0 0] (λb=>[(2,pb b)]) hF hS λb w a hF hS=>?_);refine qn 1 2 [(4,.slice none 0 0)] hF λa hF=>wfn rfl ?_;refine Ad<|qnB [(6,.func (.func gf) #[] lb)] hF λa hF=>?_;replace hS:=hS.nilarr 63 3 mosaic_Key.cells;refine wpIn_block ?_;refine A4h (gf:=gf) (lb:=lb) (λl=>#[.func (.yield l) #[] #[]]++lb) (λH1=>∃(xs:List mosaic_Key) (g:Option Addr×Nat),H1=blk b 164 #[sv g.1 xs g.2]::arr 63 3 mosaic_Key.cells g.1 xs.length g.2 xs::C9 []::H/\Px xs/\xs.length<=n) (λc H1=>False) (M:=[(2,pb b),(6,.func (.func gf) #[] lb)]) (hF.sub (by kernel_rfl)) rfl hS (λ_=>rfl) hent ?_ ?_ ?_
 ·replace hF:Fr 13 (Pv ([])) [(2,pb b),(6,.func (.func gf) #[] lb)] a:=hF.sub (by kernel_rfl);intro fn_ l2_ D2_ rec2 w hrec2 hS;have hS0:St w0 ((Dl l2_ (rec2 .ready none)::Dl D2_ (.deferred (some []))::blk b 164 #[sv none ([]:List mosaic_Key) 0]::arr 63 3 mosaic_Key.cells none ([]:List mosaic_Key).length 0 []::[])++(C9 []::H)) w :=
   St.pickT (A:=[Dl l2_ (rec2 .ready none),Dl D2_ (.deferred (some [])),arr 63 3 mosaic_Key.cells none 0 0 [],blk b 164 #[.slice none 0 0]]) (T:=C9 []::H) [0,1,3,2] (by decide) hS
  refine Calls.mono (hseq (Option Addr×Nat) l2_ (λpre g=>[Dl l2_ (rec2 .ready none),Dl D2_ (.deferred (some [])),blk b 164 #[sv g.1 pre g.2],arr 63 3 mosaic_Key.cells g.1 pre.length g.2 pre]) (none,0) w ?_ hS0) ?_
  ·rintro pre x ⟨ad,cap⟩ w G hlt hS;refine A4n (rec:=rec2) hrec2 [(7,.agg (mosaic_Key.cells x).toArray)] [(2,pb b),(7,.agg (mosaic_Key.cells x).toArray)] hF (by simp) rfl rfl (by kernel_rfl) hS ?_;intro a hF;refine WI.region<|SK.wi (qA 63 #[.string ⟨#[]⟩,iv 0,iv 0] (λb5=>[(5,pb b5)]) hF hS λb5 w a hF hS=>?_);refine SK.wi (qw 63 0 (mosaic_Key.cells x).toArray hF hS rfl λw a hF hS=>wfn rfl ?_);refine ⟨_,St.pickT (A:=[blk b5 63 (mosaic_Key.cells x).toArray,Dl l2_ (rec2 .ready none),Dl D2_ (.deferred (some [])),blk b 164 #[sv ad pre cap],arr 63 3 mosaic_Key.cells ad pre.length cap pre]) (T:=G) [1,2,3,4,0] (by decide) hS,λw hS=>?_⟩;refine wpIn_block<|WI.region<|qo 2 2 [(8,sv ad pre cap),(9,.agg (mosaic_Key.cells x).toArray)] hF (oL 164 2 0 hS.i rfl rfl<|oN 63 4 0 3 hS.i rfl<|A6) λa hF=>?_;refine SK.wi (qL 63 164 1 [x] (λb10=>[(10,.slice (some ⟨b10,0,none⟩) 1 1)]) mosaic_Key.cells_len hF hS λb10 w a hF hS=>?_);refine SK.wi (qP 164 164 4 (bytes:=32) (λad2 cap2=>[(11,.slice ad2 (pre++[x]).length cap2)]) hF hS (hS.arr (i:=0) rfl) (B71 pre x n hn hlt) rfl λad2 cap2 w a hF hS=>?_);refine SK.wi (qs 164 3 0 (sv ad2 (pre++[x]) cap2) hF hS rfl λw a hF hS=>?_);refine WI.fin rfl (Ac ?_);refine ⟨_,St.pickT (A:=[arr 63 3 mosaic_Key.cells (some ⟨b10,0,none⟩) 1 1 [x],Dl l2_ (rec2 .busy none),Dl D2_ (.deferred (some [])),blk b 164 #[sv ad2 (pre++[x]) cap2],arr 63 3 mosaic_Key.cells ad2 (pre++[x]).length cap2 (pre++[x]),blk b5 63 (mosaic_Key.cells x).toArray]) (T:=G) [1,2,3,4] (by decide) hS,λw hS=>⟨rfl,(ad2,cap2),hS⟩⟩
  ·rintro e w2 ⟨xs,g,hp,hl,⟨v,rfl⟩,hSn⟩;exact ⟨v,rfl,.inl ⟨_,⟨xs,g,rfl,hp,hl⟩,hSn⟩⟩
 ·rintro D50 a w _ ⟨xs,g,rfl,hp,hl⟩ hF hS;replace hS:St w0 (C9 [D50]::blk b 164 #[sv g.1 xs g.2]::arr 63 3 mosaic_Key.cells g.1 xs.length g.2 xs::H) w :=
   St.mark (St.pickT (A:=[Dl D50 (.deferred (some [])),blk b 164 #[sv g.1 xs g.2],arr 63 3 mosaic_Key.cells g.1 xs.length g.2 xs,C9 []]) (T:=H) [0,3,1,2] (by decide) hS)
  replace hF:Fr 13 (Pv (D50::[])) [(2,pb b)] a:=hF.sub (by kernel_rfl);refine Ac<|A7<|?_;refine roB [(4,sv g.1 xs g.2)] hF (oL 164 1 0 hS.i rfl rfl<|A6) λa hF=>?_;refine wpIn_ret (A12 (H:=blk b 164 #[sv g.1 xs g.2]::arr 63 3 mosaic_Key.cells g.1 xs.length g.2 xs::H) [.tmp 4] [sv g.1 xs g.2] hF hS rfl λw hS=>⟨⟨rfl,trivial⟩,?_⟩);exact ⟨xs,g.1,g.2,hp,hl,rfl,St.pickT (A:=[blk b 164 #[sv g.1 xs g.2],arr 63 3 mosaic_Key.cells g.1 xs.length g.2 xs]) (T:=H) [1] (by decide) hS⟩
 ·rintro D50 c a w H2 hf;exact hf.elim
end Go.Proofs.YtjfhcbjhjeklbaaGreat
