import Derived.Test.YtbhjgebjojdohaaF12WhB
namespace Go.Proofs.Ytbhjgebjojdohaa
open Go Go.RowKit Go.Eng
set_option linter.unusedVariables false
set_option maxRecDepth 10000
set_option maxHeartbeats 4000000
abbrev tB (tb fb:Nat) (t:tripP) (gad:Option Addr) (gcap:Nat) (lad:Option Addr) (lcap:Nat):Res:=blk tb 157 #[pb fb,iv t.need,iv t.e0,iv t.e1,.slice gad t.gates.length gcap,.slice lad t.lows.length lcap]
abbrev fwB (fb:Nat) (n:netP) (ad:Option Addr) (cap:Nat):Res:=blk fb 211 #[sv ad n.fr cap]
abbrev nR (N:List Nat) (n:netP) (ad:Option Addr) (cap:Nat) (hd:List Hd):Res:=Dl 155 158 1 (apF N) ad n.fr.length cap hd n.fr
abbrev gR (N:List Nat) (t:tripP) (gad:Option Addr) (gcap:Nat):Res:=arr 158 1 (apF N) gad t.gates.length gcap t.gates
abbrev lR (t:tripP) (lad:Option Addr) (lcap:Nat):Res:=arr 3 1 fI lad t.lows.length lcap t.lows
theorem Lp {n n2:netP} {u v room g:Int} (h:Ho n u v room=some (n2,g)):g=(n.arcs.length:Int)∧n2.arcs.length=n.arcs.length+2:=by
 unfold Ho at h
 split at h
 ·cases h
 obtain ⟨ru,hru,h⟩:=A6 h;obtain ⟨ru2,hru2,h⟩:=A6 h;obtain ⟨rv,hrv,h⟩:=A6 h;obtain ⟨rv2,hrv2,h⟩:=A6 h;obtain ⟨f1,hf1,h⟩:=A6 h;obtain ⟨f2,hf2,h⟩:=A6 h
 cases h
 exact ⟨rfl,by rw [List.length_append];rfl⟩
theorem Ry {t t2:tripP} {u v g:Int} {s:api_Span} (h:Gf t u v s=some (t2,g)) (hn:okN t.net):okN t2.net∧t2.gates=t.gates∧t2.lows=t.lows∧t2.e0=t.e0∧t2.e1=t.e1∧g=(t.net.arcs.length:Int)∧t.net.arcs.length<t2.net.arcs.length:=by
 unfold Gf at h;obtain ⟨d,hd,h⟩:=A6 h;obtain ⟨⟨n1,g1⟩,h1,h⟩:=A6 h;have k1:=Lp h1;have o1:=Ja h1 hn
 cases hc:decide (s.Lo>0) with
 | false =>
  rw [hc] at h
  cases h
  exact ⟨o1,rfl,rfl,rfl,rfl,k1.1,by rw [k1.2];omega⟩
 | true =>
  rw [hc] at h;obtain ⟨⟨n2,g2⟩,h2,h⟩:=A6 h;obtain ⟨⟨n3,g3⟩,h3,h⟩:=A6 h;obtain ⟨z,hz,h⟩:=A6 h
  cases h
  have k2:=Lp h2;have k3:=Lp h3;dsimp only at *;exact ⟨Ja h3 (Ja h2 o1),rfl,rfl,rfl,rfl,k1.1,by omega⟩
theorem Qp (t:tripP) (r p:Int) (h:Fe t r=some p) (hn:okN t.net) (hg:∀x∈t.gates,0≤x) (tb fb:Nat) (N:List Nat) (gad lad:Option Addr) (gcap lcap:Nat) (hN:N.length=t.net.arcs.length) (w0 w:World) (T:List Res)
  (hS:St w0 (tB tb fb t gad gcap lad lcap::gR N t gad gcap::lR t lad lcap::Ad N t.net.arcs::T) w) :
  Et Try.prog 81 #[pb tb,iv r] w (fun e w'=>e=iv p∧St w0 (tB tb fb t gad gcap lad lcap::gR N t gad gcap::lR t lad lcap::Ad N t.net.arcs::T) w'):=by
 unfold Fe at h;obtain ⟨l,hl,h⟩:=A6 h;obtain ⟨g,hgg,h⟩:=A6 h;obtain ⟨x,hx,h⟩:=A6 h;obtain ⟨y,hy,h⟩:=A6 h;have g0:0≤g:=hg g (Gu hgg);have t0:0≤x.twin:=(hn.tw x (Gu hx)).1;refine feW Try.func81 26 [(0,pb tb),(1,iv r)] hS fun a w hF hS=>?_;refine qnB [] hF fun a hF=>?_;refine Bb<|qD 22 [(4,iv p)] hF (oL 60 0 5 hS.e rfl rfl<|oI 60 (hS.arr (i:=2) rfl) hl<|oE 3 0 B6 (fun _ hd=>(hS.later hd).arr (i:=2) rfl) hl rfl<|oL 155 0 4 hS.e rfl rfl<|oI 155 (hS.arr (i:=1) rfl) hgg<|oE 158 0 (As N) (fun _ hd=>(hS.later hd).arr (i:=1) rfl) hgg (F5 g0)<|oLA 158 2 (fun _ hd=>(hS.later hd).res (i:=3) rfl) hN hx (congrArg some (C1 t0))<|oLA 3 1 (fun _ hd=>(hS.later hd).res (i:=3) rfl) hN hy rfl<|oA 3 h<|Aa) fun a w hF hx=>wfn rfl ?_;replace hS:=hS.later hx;exact wpIn_ret (Bl [.tmp 4] [iv p] hF rfl ⟨rfl,trivial⟩ ⟨_,rfl,rfl,hS⟩)
theorem Ks (t t2:tripP) (u v g:Int) (s:api_Span) (h:Gf t u v s=some (t2,g)) (hn:okN t.net) (tb fb:Nat) (N:List Nat) (ad gad lad:Option Addr) (cap gcap lcap:Nat) (hd:List Hd) (hq:NestOk (@Eq Int) hd t.net.fr t.net.fr) (hN:N.length=t.net.arcs.length) (w0 w:World) (T:List Res)
  (hS:St w0 (tB tb fb t gad gcap lad lcap::fwB fb t.net ad cap::nR N t.net ad cap hd::Ad N t.net.arcs::T) w) :
  Et Try.prog 110 #[pb tb,iv u,iv v,.agg #[iv s.Lo,iv s.Hi]] w (fun e w'=>∃M hd2,e=ap (N++M) g∧NestOk (@Eq Int) hd2 t2.net.fr t2.net.fr∧(N++M).length=t2.net.arcs.length ∧
   St w0 (tB tb fb t2 gad gcap lad lcap::fwB fb t2.net ad cap::nR (N++M) t2.net ad cap hd2::Ad (N++M) t2.net.arcs::T) w'):=by
 unfold Gf at h;obtain ⟨d,hd_,h⟩:=A6 h;obtain ⟨⟨n1,g1⟩,h1,h⟩:=A6 h;have k1:=Lp h1;have o1:=Ja h1 hn;refine feW Try.func110 61 [(0,pb tb),(1,iv u),(2,iv v),(3,.agg #[iv s.Lo,iv s.Hi])] hS fun a w hF hS=>?_;refine esr ?_;refine SK.wi (qBa 25 #[iv s.Lo,iv s.Hi] (fun b=>[(7,pb b)]) hF hS fun b w a hF hS=>?_);refine rn 1 2 [(0,pb tb),(1,iv u),(2,iv v),(7,pb b)] hF fun a hF=>wfn rfl ?_;refine Bb<|qD 11 [(13,pb fb),(14,iv u),(15,iv v),(20,iv d)] hF (oL 154 1 0 hS.e rfl rfl<|oL 3 0 1 hS.e rfl rfl<|oL 3 0 0 hS.e rfl rfl<|oS 3 hd_<|Aa) fun a w hF hx=>?_;replace hS:=hS.later hx;refine SK.wi (qR (fun e=>[(21,e)]) hF (Wi t.net n1 u v d g1 h1 hn fb N ad cap hd hq hN w0 w (tB tb fb t gad gcap lad lcap::blk b 25 #[iv s.Lo,iv s.Hi]::T) (St.pickT (A:=[blk b 25 #[iv s.Lo,iv s.Hi],tB tb fb t gad gcap lad lcap,fwB fb t.net ad cap,nR N t.net ad cap hd,Ad N t.net.arcs]) (T:=T) [2,3,4,1,0] (by decide) hS)) ?_);rintro e w a ⟨p,q,hd1,rfl,hq1,hN1,hS⟩ hF;refine qn 1 13 [(9,ap (N++[p,q]) g1)] hF fun a hF=>wfn rfl ?_;refine Bb<|qoB [(24,.bool (decide (s.Lo>0)))] hF (oL 3 4 0 hS.i rfl rfl<|Aa) fun a hF=>?_;refine Av hF h (fun hc h=>?_) fun hc h=>?_
 ·obtain ⟨⟨n2,g2⟩,h2,h⟩:=A6 h;obtain ⟨⟨n3,g3⟩,h3,h⟩:=A6 h;obtain ⟨z,hz,h⟩:=A6 h
  cases h
  have o2:=Ja h2 o1;refine Bb<|qD 12 [(28,pb fb),(33,iv t.e0),(34,iv v),(36,iv s.Lo)] hF (oL 154 3 0 hS.e rfl rfl<|oX (.run [] (Instr.indexAt 77 (.pointer (some ⟨tb,2,none⟩)) (iv 0)) (.pointer (some ⟨tb,2,none⟩))) (A7 (by kernel_rfl))<|oL 3 3 2 hS.e rfl rfl<|oL 3 4 0 hS.e rfl rfl<|Aa) fun a w hF hx=>?_;replace hS:=hS.later hx;refine SK.wi (qR (fun e=>[(37,e)]) hF (Wi n1 n2 t.e0 v s.Lo g2 h2 o1 fb (N++[p,q]) ad cap hd1 hq1 hN1 w0 w (tB tb fb t gad gcap lad lcap::blk b 25 #[iv s.Lo,iv s.Hi]::T) hS) ?_);rintro e w a ⟨p2,q2,hd2,rfl,hq2,hN2,hS⟩ hF;refine wfn rfl ?_;refine Bb<|qD 12 [(41,pb fb),(42,iv u),(47,iv t.e1),(49,iv s.Lo)] hF (oL 154 3 0 hS.e rfl rfl<|oX (.run [] (Instr.indexAt 77 (.pointer (some ⟨tb,2,none⟩)) (iv 1)) (.pointer (some ⟨tb,3,none⟩))) (A7 (by kernel_rfl))<|oL 3 3 3 hS.e rfl rfl<|oL 3 4 0 hS.e rfl rfl<|Aa) fun a w hF hx=>?_;replace hS:=hS.later hx;refine SK.wi (qR (fun e=>[(50,e)]) hF (Wi n2 n3 u t.e1 s.Lo g3 h3 o2 fb (N++[p,q]++[p2,q2]) ad cap hd2 hq2 hN2 w0 w (tB tb fb t gad gcap lad lcap::blk b 25 #[iv s.Lo,iv s.Hi]::T) hS) ?_);rintro e w a ⟨p3,q3,hd3,rfl,hq3,hN3,hS⟩ hF;refine wfn rfl ?_;refine qD 9 [(57,iv z),(59,.pointer (some ⟨tb,1,none⟩))] hF (oL 3 3 1 hS.e rfl rfl<|oL 3 4 0 hS.e rfl rfl<|oA 3 hz<|Aa) fun a w hF hx=>?_;replace hS:=hS.later hx;refine SK.wi (qs 3 3 1 (iv z) hF hS rfl fun w a hF hS=>wfn rfl ?_);refine qnB [(8,ap (N++[p,q]) g1)] hF fun a hF=>?_;refine wpIn_ret (Bl [.tmp 8] [_] hF rfl ⟨rfl,trivial⟩ ⟨_,rfl,[p,q]++[p2,q2]++[p3,q3],hd3,?_,hq3,?_,?_⟩)
  ·rw [List.append_assoc [p,q],←List.append_assoc N [p,q]];exact (Pz (by rw [hN1,k1.1,k1.2];omega)).symm
  ·rw [←hN3];simp
  ·rw [show N++([p,q]++[p2,q2]++[p3,q3])=N++[p,q]++[p2,q2]++[p3,q3] by simp];exact St.pickT (A:=[fwB fb n3 ad cap,nR (N++[p,q]++[p2,q2]++[p3,q3]) n3 ad cap hd3,Ad (N++[p,q]++[p2,q2]++[p3,q3]) n3.arcs,blk tb 157 #[pb fb,iv z,iv t.e0,iv t.e1,.slice gad t.gates.length gcap,.slice lad t.lows.length lcap],blk b 25 #[iv s.Lo,iv s.Hi]]) (T:=T) [3,0,1,2] (by decide) hS
 ·cases h
  refine wK<|qnB [(8,ap (N++[p,q]) g1)] hF fun a hF=>?_;refine wpIn_ret (Bl [.tmp 8] [_] hF rfl ⟨rfl,trivial⟩ ⟨_,rfl,[p,q],hd1,rfl,hq1,hN1,?_⟩);exact St.pickT (A:=[fwB fb n1 ad cap,nR (N++[p,q]) n1 ad cap hd1,Ad (N++[p,q]) n1.arcs,tB tb fb t gad gcap lad lcap,blk b 25 #[iv s.Lo,iv s.Hi]]) (T:=T) [3,0,1,2] (by decide) hS
end Go.Proofs.Ytbhjgebjojdohaa
