import Derived.Test.YtfkeddejdahnhaaGreatDoorQ3WnN
import Derived.Test.YtfkeddejdahnhaaGreatDoorQ3XK
import Derived.Test.YtfkeddejdahnhaaGreatDoorQ3WnF
import Derived.Test.YtfkeddejdahnhaaGreatDoorQ3WkS
namespace Go.Proofs.YtfkeddejdahnhaaGreatDoor
open Go Go.RowKit Go.Eng
set_option maxRecDepth 10000
set_option maxHeartbeats 4000000
set_option linter.unusedVariables false
set_option linter.unusedSimpArgs false
variable {X0 X1 X2 X3 X4 X5 X6 X7 X8 X9:Type}
abbrev aa (a b:zD):=(a.Kind==b.Kind)&&(((a.Power.Lo==b.Power.Lo)&&((a.Power.Hi==b.Power.Hi)&&true))&&((((a.Steps.1.Lo==b.Steps.1.Lo)&&((a.Steps.1.Hi==b.Steps.1.Hi)&&true))&&(((a.Steps.2.Lo==b.Steps.2.Lo)&&((a.Steps.2.Hi==b.Steps.2.Hi)&&true))&&true))&&((a.Spread==b.Spread)&&(((a.Ratio.Lo==b.Ratio.Lo)&&((a.Ratio.Hi==b.Ratio.Hi)&&true))&&(((a.Match.Lo==b.Match.Lo)&&((a.Match.Hi==b.Match.Hi)&&true))&&(((a.Turn.Lo==b.Turn.Lo)&&((a.Turn.Hi==b.Turn.Hi)&&true))&&true))))))
abbrev ab:=[(⟨#[]⟩:ByteArray),(⟨#[116,114,117,101]⟩:ByteArray),(⟨#[102,97,108,115,101]⟩:ByteArray),(⟨#[110,111,116]⟩:ByteArray),(⟨#[97,110,100]⟩:ByteArray),(⟨#[111,114]⟩:ByteArray),(⟨#[115,111,109,101]⟩:ByteArray),(⟨#[97,108,108]⟩:ByteArray),(⟨#[60]⟩:ByteArray),(⟨#[60,61]⟩:ByteArray),(⟨#[62]⟩:ByteArray),(⟨#[62,61]⟩:ByteArray),(⟨#[61]⟩:ByteArray),(⟨#[33,61]⟩:ByteArray),(⟨#[]⟩:ByteArray),(⟨#[112,111,119,101,114]⟩:ByteArray),(⟨#[114,97,116,105,111]⟩:ByteArray),(⟨#[109,97,116,99,104]⟩:ByteArray),(⟨#[115,112,114,101,97,100]⟩:ByteArray),(⟨#[116,117,114,110]⟩:ByteArray),(⟨#[115,116,101,112]⟩:ByteArray),(⟨#[107,105,110,100]⟩:ByteArray),(⟨#[114,97,121]⟩:ByteArray),(⟨#[103,97,116,101]⟩:ByteArray),(⟨#[116,105,108,116]⟩:ByteArray),(⟨#[99,111,117,110,116]⟩:ByteArray),(⟨#[43]⟩:ByteArray),(⟨#[45]⟩:ByteArray)]
abbrev ac (a:zC×X0) (b:Option Addr) (c:Nat):=([iv a.1.Op,iv a.1.Value_,iv a.1.Rays,iv a.1.Gates,sv b a.1.Args c]:List Value)
abbrev ae (a:zC×X0):=zC.mk a.1.Op a.1.Value_ a.1.Rays a.1.Gates a.1.Args
abbrev af (a) (b:Int×(Int×Int)):=blk a 178 #[iv b.1,iv b.2.1,iv b.2.2]
abbrev ah:=(.slice none 0 0:Value)
abbrev ai (a b c):=[a,b,(⟨#[108,111,110,101,58,32,107,105,110,100,32,61,32,51,32,97,110,100,32,99,111,117,110,116,32,49,32,49,32,107,105,110,100,32,61,32,49,32,62,32,52,59]⟩:ByteArray),c]
abbrev aj (a):=((0,.func (.yield a) #[] #[]):Nat×Value)
abbrev ak (a:ByteArray):=(.string a:Value)
abbrev al (a:(Option Addr)×(Nat×((Option Addr)×(Nat×X0)))) (b:((List X1)×((List X2)×X3))×X4):=(#[.slice a.1 b.1.1.length a.2.1,.slice a.2.2.1 b.1.2.1.length a.2.2.2.1]:Array Value)
abbrev am (a):=(.pointer (some ⟨a,2,none⟩):Value)
abbrev an:=List (List Value)
abbrev ao (a):=(.pointer (some ⟨a,1,none⟩):Value)
abbrev ap (a b) (c:List X0):=(.slice (some ⟨a,0,b⟩) c.length c.length:Value)
abbrev aq (a:Nat):=((0,pb a):Nat×Value)
abbrev au (a:List X0):=iv (ln a)
abbrev av (a b:ByteArray):=(.run [] (Instr.sliceAt 9 (ak a) none (some (iv 1)) none) (ak b):Ob)
abbrev aw:=List (List (List zA))
abbrev ay (a:X0×(X1×((Option Addr)×(Nat×X2)))) (b:(X3×((List _)×X4))×X5):=arr 3 1 fI a.2.2.1 b.1.2.1.length a.2.2.2.1 b.1.2.1
abbrev az:=(.bool false:Value)
abbrev bc (a:Option Addr) (b:List _) (c:Nat):=arr 3 1 fI a b.length c b
abbrev be (a):=Ct a (.deferred (some []))
abbrev bf (a):=(.map (some a):Value)
abbrev bg (a:zD):=(a.Kind==1)&&(((a.Power.Lo==0)&&((a.Power.Hi==a.Power.Hi)&&true))&&((((a.Steps.1.Lo==0)&&((a.Steps.1.Hi==0)&&true))&&(((a.Steps.2.Lo==0)&&((a.Steps.2.Hi==0)&&true))&&true))&&((a.Spread==0)&&(((a.Ratio.Lo==0)&&((a.Ratio.Hi==0)&&true))&&(((a.Match.Lo==0)&&((a.Match.Hi==0)&&true))&&(((a.Turn.Lo==0)&&((a.Turn.Hi==0)&&true))&&true))))))
abbrev bh (a:Int) (b:Option Addr) (c:List X0) (d:Nat):=(#[.string (⟨#[115]⟩:ByteArray),iv 0,iv 0,iv 0,iv 1,iv a,iv 500,iv 0,iv 0,iv 0,sv b c d]:Array Value)
abbrev bi:=(.bool true:Value)
abbrev bj (a:(Option Addr)×(Nat×X0)) (b:((List _)×X1)×X2):=arr 3 1 fI a.1 b.1.1.length a.2.1 b.1.1
abbrev bk (a) (b c d e:Int):=blk a 180 #[iv b,iv c,iv d,iv e]
abbrev bl (a b c):=Fh (fA zE.cells) 165 3 zL.cells a b c
abbrev bm (a:Int) (b:List X0):=(.bool (decide (a<(ln b))):Value)
abbrev bn (a:Option Addr) (b:List _) (c:Nat):=arr 63 2 zA.cells a b.length c b
abbrev bo (a:Int):=((61,.agg #[iv 0,iv a,iv 0,iv 0]):Nat×Value)
abbrev bp:=List Int
abbrev bq (a) (b:List X0) (c d e):=Bo 107 112 1 (fN 1) a b.length c d e
abbrev bt (a:zN) (b:Option Addr) (c:Nat) (d e):=([.string a.s.Site.Name,iv a.s.Site.X,iv a.s.Site.Y,iv a.s.Site.Z,iv a.s.Site.Rose,iv a.s.Site.Gates,iv a.s.Site.Step,iv a.s.Site.Width,iv a.s.Tilt,iv a.s.Time,sv b a.s.Rays c,iv a.n,bf d,bf e]:List Value)
abbrev bu (a:Nat):=((1,.func (.func 116) #[pb a] #[]):Nat×Value)
abbrev bw (a:ByteArray) (b:zC×X0) (c:Option Addr) (d:Nat):=([ak a,iv b.1.Op,iv b.1.Value_,iv b.1.Rays,iv b.1.Gates,sv c b.1.Args d]:List Value)
abbrev bx (a:zA×X0):=(#[iv a.1.Lo,iv a.1.Hi]:Array Value)
abbrev bz (a:Nat):=((1,.func (.func 78) #[pb a] #[]):Nat×Value)
abbrev ca (a b:zF):=(a.Whole.1==b.Whole.1)&&((a.Whole.2==b.Whole.2)&&true)
abbrev cb (a):=(some ⟨a,0,none⟩:Option Addr)
abbrev cc (a) (b:List X0) (c d e):=Bo 108 58 1 (fN 1) a b.length c d e
abbrev cd (a b:Nat):=((10,fv 65 #[pb a,pb b]):Nat×Value)
abbrev ce:=(#[97,98,99,100,101,102,103,104,105,106,107,108,109,110,111,112,113,114,115,116,117,118,119,120,121,122]:Array UInt8)
abbrev cg:=(#[97,98,99,100,101,102,103,104,105,106,107,108,109,110,111,112,113,114,115,116,117,118,119,120,121,122,48,49,50,51,52,53,54,55,56,57,95]:Array UInt8)
abbrev cj (a:Int):=((12,iv a):Nat×Value)
abbrev cl (a:Option Addr) (b:List X0) (c:Nat):=((10,sv a b c):Nat×Value)
abbrev co (a:zE):=(#[iv a.ray,iv a.gate]:Array Value)
abbrev cp (a:zS) (b):=((63,iv ((((lkM a.bonds b).getD []).length:Nat):Int)):Nat×Value)
abbrev cq (a):=!(sift_isCondition a)
abbrev cr:=[0,1,2,3,4,5,6,7,8,9,10,11,12,13,14]
abbrev cu (a:zA):=(#[iv a.Lo,iv a.Hi]:Array Value)
abbrev cw (a b:Int):=(#[iv 1,iv a,iv b,iv 0,iv 0,iv 0,iv 0,iv 0,iv 0,iv 0,iv 0,iv 0,iv 0,iv 0]:Array Value)
abbrev cx (a:Int):=((17,iv a):Nat×Value)
abbrev cy (a:Option Addr) (b:zS) (c) (d:Nat):=((62,.slice a ((lkM b.bonds c).getD []).length d):Nat×Value)
abbrev cz (a:Nat):=(.run [] (Instr.indexAt 178 (pb a) (iv 2)) (am a):Ob)
abbrev da (a:Nat):=(.run [] (Instr.indexAt 178 (pb a) (iv 1)) (ao a):Ob)
abbrev db (a:Nat):=(.run [] (Instr.indexAt 178 (pb a) (iv 0)) (pb a):Ob)
abbrev dd:=(#[iv 0,iv 0]:Array Value)
abbrev de (a:Option Addr) (b:(List _)×X0) (c:Nat):=arr 146 3 zM.cells a b.1.length c b.1
abbrev df (a:Option Addr) (b:(List X0)×X1) (c:Nat):=sv a b.1 c
abbrev dg (a:(Option Addr)×(Nat×X0)) (b:((List _)×X1)×X2):=arr 146 3 zM.cells a.1 b.1.1.length a.2.1 b.1.1
abbrev dh (a:Nat) (b:Int) (c:Option Addr) (d:List X0) (e:Nat) (f g h i:Int):=([aq a,(2,iv b),cl c d e,(11,au d),cj f,(36,iv g),(44,iv h),(52,iv i),(54,pb a),(55,pb a),(57,pb a)]:List (Nat×Value))
abbrev di:=(#[iv 0,iv 0,az]:Array Value)
abbrev dj:=[0,1,2,3,4]
abbrev dk (a) (b:ByteArray) (c:Int) (d:ByteArray) (e:Int):=blk a 79 #[ak b,iv c,ak d,iv e]
abbrev dl (a:Nat):=((2,pb a):Nat×Value)
abbrev dm (a:zD):=((a.Steps.1.Lo==0)&&((a.Steps.1.Hi==0)&&true))&&(((a.Steps.2.Lo==0)&&((a.Steps.2.Hi==0)&&true))&&true)
abbrev dn (a):=(.func (.yield a) #[] #[]:Value)
abbrev dq (a b c d:Int) (e:Option Addr) (f:List X0) (g:Nat):=(#[iv a,iv b,iv c,iv d,sv e f g]:Array Value)
abbrev dr (a b):=(.pointer (some (Ck a b 1)):Value)
abbrev dt:=[0,1,2,3,4,5,6,7]
abbrev du (a:(Option Addr)×(Nat×X0)) (b:((List X1)×X2)×X3):=(.slice a.1 b.1.1.length a.2.1:Value)
abbrev dv:=Option Addr×Nat×Option Addr×Nat×Unit
abbrev dw (a:zC):=((100,iv (ln a.Args)):Nat×Value)
abbrev dx (a:Option Addr) (b:List X0) (c:Nat):=((0,sv a b c):Nat×Value)
abbrev dy (a:zJ) (b:Option Addr) (c:Nat) (d:Int) (e f):=(#[.string a.Site.Name,iv a.Site.X,iv a.Site.Y,iv a.Site.Z,iv a.Site.Rose,iv a.Site.Gates,iv a.Site.Step,iv a.Site.Width,iv a.Tilt,iv a.Time,sv b a.Rays c,iv d,bf e,bf f]:Array Value)
abbrev dz (a):=blk a 54 #[ah]
abbrev ea (a:Int):=((11,iv a):Nat×Value)
abbrev ed:=List (zE×Bool)
abbrev ee (a:Option Addr) (b:List X0) (c:Nat):=((16,sv a b c):Nat×Value)
abbrev ef:=(#[48,49,50,51,52,53,54,55,56,57]:Array UInt8)
abbrev ej (a):=blk a 198 #[ah]
abbrev ek (a b):=FrzAt a b
abbrev er:=List (zE×(List zL))
abbrev ev (a:Option Addr) (b:List X0) (c:Nat):=((2,sv a b c):Nat×Value)
abbrev ex (a:Int):=((10,iv a):Nat×Value)
abbrev ey (a:zD):=zD.mk a.Kind a.Power ((zA.mk a.Steps.1.Lo a.Steps.1.Hi),(zA.mk a.Steps.2.Lo a.Steps.2.Hi)) a.Spread a.Ratio a.Match a.Turn
abbrev ez (a):=blk a 66 z66
abbrev fb (a:zD×X0):=zD.mk a.1.Kind (zA.mk a.1.Power.Lo a.1.Power.Hi) ((zA.mk a.1.Steps.1.Lo a.1.Steps.1.Hi),(zA.mk a.1.Steps.2.Lo a.1.Steps.2.Hi)) a.1.Spread (zA.mk a.1.Ratio.Lo a.1.Ratio.Hi) (zA.mk a.1.Match.Lo a.1.Match.Hi) (zA.mk a.1.Turn.Lo a.1.Turn.Hi)
abbrev fc (a:zG):=(#[iv a.span.Lo,iv a.span.Hi]:Array Value)
abbrev fe (a:((List X0)×X1)×X2):=decide ((ln a.1.1)>0)
abbrev ff (a:Nat):=((12,pb a):Nat×Value)
abbrev fg (a) (b:List X0):=((8,.slice (cb a) b.length b.length):Nat×Value)
abbrev fh (a b c d) (e:zC):=ArrQ a 5 Rp98 b c d e.Args
abbrev fj (a:Option Addr) (b:List X0) (c:Nat):=((15,sv a b c):Nat×Value)
abbrev fk:=Option Addr
abbrev fl (a:Nat):=((3,pb a):Nat×Value)
abbrev fo (a:Nat):=((11,pb a):Nat×Value)
abbrev fp (a b:ByteArray):=(.run [] (binOp .add 9 (ak a) (.string (⟨#[32]⟩:ByteArray))) (ak b):Ob)
abbrev fq (a:Nat):=((1,pb a):Nat×Value)
abbrev ft (a:Nat):=((1,fv 77 #[pb a]):Nat×Value)
abbrev fw:=((48,undef):Nat×Value)
abbrev fx (a:List X0):=((11,au a):Nat×Value)
abbrev fy:=List (List zD)
abbrev gc (a:Option Addr) (b:List _) (c:Nat):=arr 70 4 zF.cells a b.length c b
abbrev gh (a b c:Nat):=(#[pb a,pb b,pb c]:Array Value)
abbrev gi (a) (b:zS) (c d e):=Bo 107 112 1 (fN 1) a b.sets.length c d e
abbrev gj (a b c d e f g h:Int):=(#[iv a,iv b,iv c,iv d,iv e,iv f,iv g,iv h]:Array Value)
abbrev gm (a:Option Addr) (b:List X0) (c:Nat):=((5,sv a b c):Nat×Value)
abbrev gn (a b):=((29,.tuple #[.agg #[iv (Ac a b).1.Lo,iv (Ac a b).1.Hi],.bool (Ac a b).2]):Nat×Value)
abbrev gp (a):=(.pointer (some ⟨a,3,none⟩):Value)
abbrev gq (a:Option Addr) (b:List _) (c:Nat):=arrT 157 2 zE.cells a b.length c b
abbrev gr (a) (b:List X0) (c:Nat):=((0,.slice (some a) b.length c):Nat×Value)
abbrev gu:=List (List zP)
abbrev gv:=[2,3,4,5,6,7,8]
abbrev gw (a:Int):=((63,iv a):Nat×Value)
abbrev gz (a:Nat):=((57,pb a):Nat×Value)
abbrev ia (a:Nat):=((55,pb a):Nat×Value)
abbrev ib (a:Nat):=((4,pb a):Nat×Value)
abbrev ic (a b):=S9 (fA zE.cells) Value.bool a b
abbrev ie:=List (List (List zF))
abbrev ig (a:_×Int):=((23,.tuple #[.agg (bx a),iv a.2]):Nat×Value)
abbrev ii (a b c d):=NestOk (Rp112 a) b c d
abbrev ij (a:Nat):=((53,pb a):Nat×Value)
abbrev ik (a:Int):=((13,iv a):Nat×Value)
abbrev il:=[0,1,2,3,4,5,6]
abbrev im (a) (b:ByteArray) (c:Bool):=(.call [⟨90,false,a⟩] 72 #[ak b,.string (⟨#[62,61]⟩:ByteArray)] (.bool c):Ob)
abbrev io:=List (List zK)
abbrev ip (a) (b:List X0):=((5,.slice (cb a) b.length b.length):Nat×Value)
abbrev iq (a:(Option Addr)×(Nat×X0)) (b:(List X1)×X2):=(.slice a.1 b.1.length a.2.1:Value)
abbrev ir (a:Option Addr) (b:List X0) (c:Nat):=((8,sv a b c):Nat×Value)
abbrev it (a) (b:(Int×(Int×X0))×X1):=blk a 63 #[iv b.1.1,iv b.1.2.1]
abbrev iu:=Except (Value×zB) (zC×zB)
abbrev iw (a b c d:Int) (e:Option Addr) (f:List X0) (g:Nat):=([iv a,iv b,iv c,iv d,sv e f g]:List Value)
abbrev iy (a b):=(some ⟨a,0,b⟩:Option Addr)
abbrev iz (a:Option Addr) (b:List _) (c:Nat):=arr 66 14 zD.cells a b.length c b
abbrev ja:=[0,1,2,3,4,5]
abbrev jb (a:zA):=!(Ag a.Lo (-32768) 32767)
abbrev jc (a:X0×(X1×((Option Addr)×(Nat×X2)))) (b:X3×((List _)×X4)):=arr 3 1 fI a.2.2.1 b.2.1.length a.2.2.2.1 b.2.1
abbrev jd (a b c:ByteArray):=(.run [] (binOp .add 9 (ak a) (ak b)) (ak c):Ob)
abbrev je (a:List X0):=decide ((ln a)>0)
abbrev jf (a) (b:Int):=blk a 86 #[iv 0,iv b,iv 0,iv 0]
abbrev jg (a):=((11,.agg #[.int .u8 1,.int .u8 200,.int .u8 150,.int .u8 62,.int .u8 0,.int .u8 1,.int .i16 30000,ah,.int .u16 0,.int .u8 0,ah,sb a 2,.int .u8 1,.int .u16 50,.int .u8 0]):Nat×Value)
abbrev jh (a b:Nat):=((1,fv 152 #[pb a,pb b]):Nat×Value)
abbrev ji:=Option Addr×Nat×Unit
abbrev jj:=zA.mk 0 0
abbrev jk (a:zC):=ln a.Args
abbrev jl (a:zB):=((3,iv a.at_):Nat×Value)
abbrev jm:=arr 3 1 fI none ([]:List Int).length 0 ([]:List Int)
abbrev jn:=((23,.agg #[fv 53 #[],fv 54 #[],fv 54 #[],fv 55 #[],fv 56 #[],fv 56 #[],fv 57 #[],fv 57 #[],fv 58 #[],fv 58 #[],fv 58 #[],fv 58 #[],fv 58 #[],fv 58 #[]]):Nat×Value)
abbrev jo:=[0,1,2,3,4,5,6,7,8,9,10,11,12,13,14,15]
abbrev jq:=List (ByteArray×Value)
abbrev jr (a):=!(sEq a (⟨#[]⟩:ByteArray))
abbrev js (a):=(#[iv (Ad a).span.Lo,iv (Ad a).span.Hi,.bool (Ad a).has]:Array Value)
abbrev jt (a:Int):=((15,iv a):Nat×Value)
abbrev ju (a:zD):=[(zA.mk a.Steps.1.Lo a.Steps.1.Hi),(zA.mk a.Steps.2.Lo a.Steps.2.Hi),a.Turn]
abbrev jv (a:Int) (b):=((39,.agg #[iv a,iv 0,iv 0,iv 0,sb b 2]):Nat×Value)
abbrev jx (a) (b:Option Addr) (c:List X0) (d:Nat) (e):=blk a 163 #[sv b c d,bf e]
abbrev jy (a b c d e) (f:zC×X0):=[(zC.mk a b c d e),ae f]
abbrev jz (a b):=(.run [] (Us .eql 9 a b) (.bool (sEq a b)):Ob)
abbrev ka (a b:ByteArray):=(.run [] (Instr.sliceAt 9 (ak a) none (some (iv 2)) none) (ak b):Ob)
abbrev kb (a b):=(#[iv (Ac a b).1.Lo,iv (Ac a b).1.Hi]:Array Value)
abbrev kc (a:zD):=(.agg #[iv a.Steps.2.Lo,iv a.Steps.2.Hi]:Value)
abbrev ke (a:zD):=(.agg #[iv a.Steps.1.Lo,iv a.Steps.1.Hi]:Value)
abbrev kg (a):=blk a 98 z98
abbrev kh (a:Int):=((35,iv a):Nat×Value)
abbrev ki (a:Int):=((23,iv a):Nat×Value)
abbrev kj (a:X0×(X1×((Option Addr)×(Nat×X2)))) (b:X3×((List X4)×X5)):=(.slice a.2.2.1 b.2.1.length a.2.2.2.1:Value)
abbrev kk (a) (b:zA×X0):=blk a 63 (bx b)
abbrev kl (a:Option Addr):=(.slice a 0 0:Value)
abbrev km (a:Option Addr) (b:zC) (c:Nat):=((99,sv a b.Args c):Nat×Value)
abbrev ko (a b) (c:X0×zN):=MapM 3 zG.cells a b c.2.values
abbrev kp (a:Nat):=Instr.loadAt 3 (pb a)
abbrev kq (a:Nat):=(.run [] (Instr.indexAt 180 (pb a) (iv 0)) (pb a):Ob)
abbrev ku:=(.agg (vF Value.string Cf).toArray:Value)
abbrev kv (a):=(.pointer (some ⟨a,5,none⟩):Value)
abbrev kw (a):=((21,.agg #[.int .u8 1,.int .u8 200,.int .u8 150,.int .u8 62,.int .u8 0,.int .u8 1,.int .i16 30000,ah,.int .u16 0,.int .u8 0,ah,sb a 2]):Nat×Value)
abbrev kx (a:Int):=((52,iv a):Nat×Value)
abbrev ky:=List (List zL)
abbrev kz:=List (List zA)
abbrev lc (a) (b:List X0) (c d e):=Bo 57 56 2 (fN 2) a b.length c d e
abbrev ld:=((56,undef):Nat×Value)
abbrev lf (a b c d:Nat):=((17,fv 128 #[pb a,pb b,pb c,pb d]):Nat×Value)
abbrev lg (a b c d:Nat):=((14,fv 124 #[pb a,pb b,pb c,pb d]):Nat×Value)
abbrev lh (a:Option Addr) (b:List X0) (c:Nat):=((18,sv a b c):Nat×Value)
abbrev li (a:(Option Addr)×(Nat×X0)) (b:(List _)×X1):=arr 3 1 fI a.1 b.1.length a.2.1 b.1
abbrev lj (a b):=Gj a b (1:Int).toNat 4
abbrev ll:=Option zN
abbrev lm (a:Option Addr) (b:List _) (c:Nat):=arr 201 3 zG.cells a b.length c b
abbrev lp (a:Nat):=(.func (.func 116) #[pb a] #[]:Value)
abbrev lq (a:zB) (b:ByteArray):=(.run [] (Instr.sliceAt 9 (.string a.s) (some (iv a.at_)) none none) (ak b):Ob)
abbrev lr (a:Option Addr) (b:(List X0)×X1) (c:Nat):=((9,df a b c):Nat×Value)
abbrev ls (a):=blk a 201 di
abbrev lu (a:zR) (b:Option Addr) (c:Nat):=([iv a.When.Op,iv a.When.Value_,iv a.When.Rays,iv a.When.Gates,sv b a.When.Args c]:List Value)
abbrev lw (a:Int):=((51,iv a):Nat×Value)
abbrev lx (a:Int):=((34,iv a):Nat×Value)
abbrev ly (a:Int):=((18,iv a):Nat×Value)
abbrev lz (a):=Instr.loadAt 3 (ao a)
abbrev ma (a b c d):=ArrM a 2 zA.cells b c d
abbrev mb (a:zJ) (b:Option Addr) (c:List X0) (d:Nat):=((64,.agg #[.string a.Site.Name,iv a.Site.X,iv a.Site.Y,iv a.Site.Z,iv a.Site.Rose,iv a.Site.Gates,iv a.Site.Step,iv a.Site.Width,iv a.Tilt,iv a.Time,sv b c d]):Nat×Value)
abbrev mc (a b):=blk a 154 #[bf b]
abbrev md:=List (zE×Hd)
abbrev me (a:zA):=(.agg (cu a):Value)
abbrev mf (a:Option Addr) (b:zW) (c:Nat):=((70,sv a b.Slips c):Nat×Value)
abbrev mh (a:Option Addr) (b:List X0) (c:Nat):=((12,sv a b c):Nat×Value)
abbrev mi:=(.tuple #[]:Value)
abbrev mj (a:ByteArray) (b):=(.run [] (Instr.index 9 (ak a) (iv 0)) (.int .u8 b):Ob)
abbrev ml (a:Int):=((43,iv a):Nat×Value)
abbrev mm (a:Option Addr) (b:(List X0)×X1) (c:Nat):=((12,df a b c):Nat×Value)
abbrev mn (a b:Nat):=((117,fv 119 #[pb a,pb b]):Nat×Value)
abbrev mo:=[1,2,3,4,5,6,7]
abbrev mq (a):=[IntKind.u8.wrap a]
abbrev mr (a) (b:Option Addr) (c:zS) (d:Nat) (e):=blk a 163 #[sv b c.sets d,bf e]
abbrev mu (a b:zM):=Ac a.speed b.speed
abbrev mv (a):=K3 (a::[])
abbrev mw (a b):=Gj a b (1:Int).toNat 2
abbrev my (a b c:Nat):=((1,fv 154 (gh a b c)):Nat×Value)
abbrev mz (a b c:Nat):=((1,fv 104 (gh a b c)):Nat×Value)
abbrev mE (a b c:Nat):=((1,fv 100 (gh a b c)):Nat×Value)
abbrev mF:=((6,fv 43 #[]):Nat×Value)
abbrev mG (a:zU) (b:Int):=(.run [] (convert 5 3 (.int .u8 a.Far)) (iv b):Ob)
abbrev mH (a):=blk a 40 z40
abbrev mI (a:Int):=((36,iv a):Nat×Value)
abbrev mJ (a:Nat):=((31,pb a):Nat×Value)
abbrev mK:=(.string (⟨#[33,61]⟩:ByteArray):Value)
abbrev mL (a b:ByteArray):=(.run [] (binOp .add 9 (ak a) (.string (⟨#[59]⟩:ByteArray))) (ak b):Ob)
abbrev mM (a:Option Addr) (b:List X0) (c:Nat):=((3,sv a b c):Nat×Value)
abbrev mN (a:Int):=decide (a>0)
abbrev mO (a:Option Addr) (b:List X0) (c:Nat):=((26,sv a b c):Nat×Value)
abbrev mP:=(.string (⟨#[48]⟩:ByteArray):Value)
abbrev mQ (a:Nat):=([(6,pb a)]:List (Nat×Value))
abbrev mR (a:Nat):=([(1,pb a)]:List (Nat×Value))
abbrev mS:=((105,fv 43 #[]):Nat×Value)
abbrev mT (a) (b:(Option Addr)×(Nat×((Option Addr)×(Nat×X0)))) (c:((List X1)×((List X2)×X3))×X4):=blk a 182 (al b c)
abbrev mU:=(#[iv 0,iv 0,iv 0]:Array Value)
abbrev mV (a:Option Addr) (b:List X0) (c:Nat):=((9,sv a b c):Nat×Value)
abbrev mW (a:Option Addr) (b:List X0) (c:Nat):=((6,.func (.func 69) #[sv a b c] #[]):Nat×Value)
abbrev mX (a:Int):=((44,iv a):Nat×Value)
abbrev mY (a:Int):=((32,iv a):Nat×Value)
abbrev mZ (a:X0×Bool):=((9,.bool a.2):Nat×Value)
abbrev na (a):=((170,.pointer (some ⟨a,7,none⟩)):Nat×Value)
abbrev nc (a:Int):=((139,iv a):Nat×Value)
abbrev nf (a:Int):=((101,iv a):Nat×Value)
abbrev ng (a):=Bw (a::[])
abbrev nh (a):=(.pointer a:Value)
abbrev ni (a b):=mps a b
abbrev nj (a) (b c d:Int):=blk a 178 #[iv b,iv c,iv d]
abbrev nk (a:zE):=(.agg (co a):Value)
abbrev nl (a:Nat):=(.run [] (Instr.indexAt 180 (pb a) (iv 1)) (am a):Ob)
abbrev ns:=List (ByteArray×(List zG))
abbrev nt (a:Int):=((71,iv a):Nat×Value)
abbrev nu (a:Int):=((66,iv a):Nat×Value)
abbrev nv (a:Int):=((53,iv a):Nat×Value)
abbrev ny (a:Int):=((28,iv a):Nat×Value)
abbrev nz (a:Nat):=((15,pb a):Nat×Value)
abbrev nA:=((119,undef):Nat×Value)
abbrev nB (a:zR):=!(sift_isCondition a.When)
abbrev nC:=(#[60,62,61,43,45,40,41,58,59]:Array UInt8)
abbrev nD (a b) (c:zN):=MapM 3 zG.cells a b c.values
abbrev nE (a b) (c:X0×zN):=MapM 1 fI a b c.2.tests
abbrev nF (a:Int):=((71,.bool (a==48)):Nat×Value)
abbrev nG:=((58,.agg #[iv 1,iv 0,iv 0,iv 0,iv 0,iv 0,iv 0,iv 0,iv 0,iv 0,iv 0,iv 0,iv 0,iv 0]):Nat×Value)
abbrev nH (a:zC):=((39,.agg #[iv (Ad a.Value_).span.Lo,iv (Ad a.Value_).span.Hi,.bool (Ad a.Value_).has]):Nat×Value)
abbrev nI (a:Int):=((22,.agg #[.string (⟨#[115]⟩:ByteArray),iv 0,iv 0,iv 0,iv 1,iv a,iv 500,iv 0,iv 0,iv 0,ah]):Nat×Value)
abbrev nJ (a:(List X0)×X1):=((57,iv (ln a.1)):Nat×Value)
abbrev nK (a:Option Addr) (b:List X0) (c:Nat):=((14,sv a b c):Nat×Value)
abbrev nL:=[124,123,122,121,120]
abbrev nM (a:Nat):=([(7,pb a)]:List (Nat×Value))
abbrev nN (a:zD):=((120,.agg #[iv (Ad a.Spread).span.Lo,iv (Ad a.Spread).span.Hi,.bool (Ad a.Spread).has]):Nat×Value)
abbrev nO (a):=(.pointer (some ⟨a,10,none⟩):Value)
abbrev nP (a:X0×Int):=((10,iv a.2):Nat×Value)
abbrev nQ (a) (b:Int):=blk a 3 #[iv b]
abbrev nR (a:Int):=((60,iv a):Nat×Value)
abbrev nT (a:Option Addr) (b:(List X0)×X1) (c:Nat):=((18,df a b c):Nat×Value)
abbrev nU (a:Int):=((14,iv a):Nat×Value)
abbrev nV (a:Nat):=([(2,pb a)]:List (Nat×Value))
abbrev nW (a) (b:List X0) (c:Nat):=((6,.slice (some a) b.length c):Nat×Value)
abbrev nX:=((101,iv 0):Nat×Value)
abbrev nY (a b c d):=((75,.bool ((((a:Int)==0)&&(((b:Int)==b)&&true))&&((((c:Int)==c)&&(((d:Int)==d)&&true))&&true))):Nat×Value)
abbrev nZ (a:ByteArray) (b:zC×X0) (c:Option Addr) (d:Nat):=(#[ak a,iv b.1.Op,iv b.1.Value_,iv b.1.Rays,iv b.1.Gates,sv c b.1.Args d]:Array Value)
abbrev n5 (a b c d):=arr 9 1 B0z (cb a) (ai b c d).length 4 (ai b c d)
abbrev n6 (a b:Int):=(.agg #[iv a,iv b]:Value)
abbrev n7 (a:List X0):=((22,au a):Nat×Value)
abbrev n8 (a) (b:List X0) (c d e):=Bo 67 66 14 zD.cells a b.length c d e
abbrev n9 (a) (b:zR) (c d):=(.run [] (Instr.loadAt 98 (ao a)) (.agg (b.When.ax c d)):Ob)
abbrev oa (a:Int):=((16,iv a):Nat×Value)
abbrev oc (a:Nat):=((10,pb a):Nat×Value)
abbrev od (a:zF):=(#[iv a.Speed.Lo,iv a.Speed.Hi]:Array Value)
abbrev oe (a:Int) (b):=(#[iv a,iv 0,iv 0,iv 0,sb b 2]:Array Value)
abbrev oh (a) (b c:Int):=blk a 63 #[iv b,iv c]
abbrev oi (a:Nat):=([(5,pb a)]:List (Nat×Value))
abbrev oj:=[1,2,3,4,5,6,7,8,9,10,11,12,13,0]
abbrev ol (a:Nat):=(.func (.func 78) #[pb a] #[]:Value)
abbrev oo (a:zA×X0):=((24,.agg (bx a)):Nat×Value)
abbrev oq (a:Option Addr) (b:List _) (c:Nat):=arr 127 4 zQ.cells a b.length c b
abbrev ot (a):=Instr.loadAt 3 (am a)
abbrev ou:=List (ByteArray×bp)
abbrev ov (a:List X0):=((59,au a):Nat×Value)
abbrev ow (a):=((47,am a):Nat×Value)
abbrev ox (a):=((39,ao a):Nat×Value)
abbrev oy:=((27,fv 58 #[]):Nat×Value)
abbrev oz (a b):=((19,.pointer (some (Ck a b 3))):Nat×Value)
abbrev oB (a:zD):=(a.Turn.Lo==0)&&((a.Turn.Hi==0)&&true)
abbrev oD (a b) (c:Int):=BlkM a b 3 #[iv c]
abbrev oF (a:X0×Int):=((5,iv a.2):Nat×Value)
abbrev oH (a:Option Addr) (b:List X0) (c:Nat):=((4,sv a b c):Nat×Value)
abbrev oJ (a:List X0):=((145,au a):Nat×Value)
abbrev oO (a:Nat):=((0,.slice none 0 a):Nat×Value)
abbrev oP (a:zD):=(#[iv a.Turn.Lo,iv a.Turn.Hi]:Array Value)
abbrev oT (a b:zF):=decide (a.Speed.Lo<=b.Speed.Lo)
abbrev oY (a:Int):=((82,iv a):Nat×Value)
abbrev oZ (a:Int):=((64,iv a):Nat×Value)
abbrev o0 (a:Int):=((29,iv a):Nat×Value)
abbrev o5 (a:Option Addr) (b:(List X0)×X1) (c:Nat):=((13,df a b c):Nat×Value)
abbrev o6:=arr 146 3 zM.cells none ([]:List zM).length 0 ([]:List zM)
abbrev o7:=Option (io×Int)
abbrev o8:=((52,undef):Nat×Value)
abbrev o9 (a:zC):=(jk a) != 2
abbrev pc (a:zC):=(jk a) != 0
abbrev pd (a) (b:zE):=blk a 157 (co b)
abbrev pf (a) (b:List X0) (c d e):=Bo 61 60 2 (fN 2) a b.length c d e
abbrev pg:=(.string (⟨#[]⟩:ByteArray):Value)
abbrev ph (a:Int):=((152,iv a):Nat×Value)
abbrev pi (a:Int):=((146,iv a):Nat×Value)
abbrev pj (a:Nat):=fv 41 #[pb a]
abbrev pm (a b):=((9,.bool (Ac a b).2):Nat×Value)
abbrev pn (a b):=((26,.bool (sEq a b)):Nat×Value)
abbrev po (a:Option Addr) (b:List X0) (c:Nat):=((1,sv a b c):Nat×Value)
abbrev pp:=Ts ByteArray 28
abbrev pq (a:List X0):=((14,au a):Nat×Value)
theorem A1z (x0:Value) (x1 x2:Int) {b0 b1 b2:Nat} {w0 w:World} {H:List Res} (s:St w0 (blk b0 31 #[x0]::nQ b1 x1::blk b2 32 #[iv x2]::H) w):CallsDIn (F0 none) 0 Tryz.prog 14 (gh b0 b1 b2) .returning w (λe u_ w=>e=.returned mi/\settle u_=.returning/\St w0 (blk b0 31 #[x0]::nQ b1 x1::blk b2 32 #[iv x2]::H) w):=by
 refine Vu Tryz.func14 rfl 12 [(0,pb b0),(1,pb b1),(2,pb b2)] [(0,pb b0),(1,pb b1),(2,pb b2),(6,.nilIface)] rfl rfl kr kr ⟨kr⟩ ⟨kr⟩ λa f=>?_;refine rn 6 7 [(0,pb b0),(1,pb b1),(2,pb b2),(3,iv 0),(4,az)] f λa f=>?_;refine wf<|esr<|rn 1 1 [(0,pb b0),(1,pb b1),(2,pb b2),(3,iv 0),(10,az)] f λa f=>?_;refine wf<|wpIn_cond_false (f.get rfl) ?_;refine Am<|Ql f rfl ?_;exact ⟨rfl,rfl,s⟩
theorem A20 (x0:Value) (x1 x2 z_:Int) {b0 b1 b2:Nat} {w0 w:World} {H:List Res} (s:St w0 (blk b0 31 #[x0]::nQ b1 x1::blk b2 32 #[iv x2]::H) w):CallsDIn (F0 none) 0 Tryz.prog 14 (gh b0 b1 b2) (.panicking [{ v:=.iface 75 (iv z_),recovered:=false }]) w (λe u_ w=>e=.returned mi/\settle u_=.returning/\St w0 (blk b0 31 #[ah]::nQ b1 z_::blk b2 32 #[iv 7]::H) w):=by
 refine Vu Tryz.func14 rfl 12 [(0,pb b0),(1,pb b1),(2,pb b2)] [(0,pb b0),(1,pb b1),(2,pb b2),(6,.iface 75 (iv z_))] rfl rfl kr kr ⟨kr⟩ ⟨kr⟩ λa f=>?_;refine rn 6 7 [(0,pb b0),(1,pb b1),(2,pb b2),(3,iv z_),(4,bi)] f λa f=>?_;refine wf<|esr<|rn 1 1 [(0,pb b0),(1,pb b1),(2,pb b2),(3,iv z_),(10,bi)] f λa f=>?_;refine wf<|wpIn_cond_true (f.get rfl) ?_;refine A3<|rn 1 1 [(0,pb b0),(1,pb b1),(2,pb b2),ea z_] f λa f=>?_;refine SK.wi (Lk (t:=31) [(1,pb b1),(2,pb b2),ea z_] 0 0 (ah) #[ah] f s rfl kr ⟨kr⟩ kr kr kr kr ⟨kr⟩ λw a f s=>?_);refine SK.wi (Lk (t:=3) (nV b2) 1 0 (iv z_) #[iv z_] f s rfl kr ⟨kr⟩ kr kr kr kr ⟨kr⟩ λw a f s=>?_);refine SK.wi (Lk (t:=32) [] 2 0 (iv 7) #[iv 7] f s rfl kr ⟨kr⟩ kr kr kr kr ⟨kr⟩ λw a f s=>?_);refine Al rfl ?_;refine Ql f rfl ?_;exact ⟨rfl,rfl,s⟩
theorem Dv (F:Nat) (p0:zB) (res:Except (Value×zB) zB) (h:Dp F p0=some res) (μ:Frz) (w0 w1:World) (T_:List Res) (l:Ar w0 μ) {cb0} (s:St w0 (fz w0 μ::blk cb0 79 p0.ar::T_) w1):Q6 Tryz.prog 35 #[pb cb0] w1 res (λr_ e w=>∃(ν_:Frz),μ.ext w0.heap.size ν_/\Ar w0 ν_/\e=mi/\St w0 (fz w0 ν_::blk cb0 79 r_.ar::T_) w) (λe_ w=>∃(ν_:Frz),μ.ext w0.heap.size ν_/\Ar w0 ν_/\St w0 (fz w0 ν_::blk cb0 79 e_.ar::T_) w):=by
 rw [Dp] at h;refine feW Tryz.func35 7 [aq cb0] s λa w f s=>?_
 cases h
theorem A0m:∀(F:Nat) (p0:zC) (p1 res:Int) (h:sift_counted F p0 p1=some res) (μ:Frz) (w0:World) (hm:ek μ w0) {ad1 cap2 css3} (hA4:fh μ ad1 cap2 css3 p0),CP 38 #[.agg (p0.ax ad1 cap2),iv p1] w0 (iv res):=by
 intro F
 induction F with
 | zero =>
  intro p0 p1 res h
  exact nS h
 | succ F ih =>
  intro p0 p1 res h μ w0 hm ad1 cap2 css3 hA4;obtain ⟨g,l⟩:=hm.init;replace h:Tm F (sift_counted F) p0 p1=some res:=h;obtain ⟨self_,hself⟩:∃s,s=sift_counted F:=⟨_,rfl⟩;rw [←hself,Tm] at h;refine feW Tryz.func38 27 [(0,.agg (p0.ax ad1 cap2)),(1,iv p1)] l λa w f l=>?_;refine esr<|SK.wi (qBa 98 (p0.ax ad1 cap2) (λb5=>(nV b5)) f l λb5 w a f l=>?_);refine qn 1 2 [] f λa f=>wf ?_;refine qnB [(5,iv 1)] f λa f=>?_;refine C1 (λa w=>∃(a2:Int),Fr 27 [] [(5,iv a2)] a/\St w0 [blk b5 98 (p0.ax ad1 cap2),fz w0 μ] w/\Q1 a2=some res) ?_ ?_
  ·refine qoB [(9,sv ad1 p0.Args cap2),(10,iv (jk p0)),(11,iv 0)] f (oU 96 0 4 l.i<|A4) λa f=>?_;refine A0<|C2 (λn_ a w=>∃(a1 a0:Int),Fr 27 [] [(1,iv p1),(5,iv a0),(9,sv ad1 p0.Args cap2),(10,iv (jk p0)),ea a1] a/\St w0 [blk b5 98 (p0.ax ad1 cap2),fz w0 μ] w/\Q2 self_ p0 p1 n_ a1 a0=some res) F ⟨0,1,f.sb,l.pk [0,1],h⟩ ?_;rintro nk2 a w ⟨a1,a0,f,l,h⟩;rcases nk2 with _|nk2
   ·exact nS h
   obtain ⟨k2,hk2,h⟩:∃k2,k2=Q2 self_ p0 p1 nk2/\Sn self_ p0 p1 k2 a1 a0=some res:=⟨_,rfl,h⟩
   rw [Sn] at h;refine qnB [(12,.bool (decide (a1<(jk p0))))] f λa f=>?_;refine Ak<|Ab f h (λc h=>?_) λc h=>?_
   ·obtain ⟨a3,aC,h⟩:=A7 h;obtain ⟨aI,a7,aB⟩:=An hA4.2 aC;obtain ⟨a4,a6,aJ,rfl,aA⟩:=aB.out;refine wK<|Ak<|A0<|esr<|qo 2 2 [(14,.agg (a3.ax a4 a6))] f (oI 96 (hA4.at (l.fz g 1)) a7<|oG 98 0 5 (Ba 5) (hA4.a1 (l.fA g 1)) a7<|A4) λa f=>?_;refine SK.wi (qA 98 z98 (λa5=>(nM a5)) f l λa5 w a f l=>?_);refine SK.wi (qw 98 0 (a3.ax a4 a6) f l rfl λw a f l=>wf ?_);refine Ak<|qnB [(17,.bool (decide (a0>p1)))] f λa f=>?_;refine Ab f h (λc h=>?_) λc h=>?_
    ·refine Ai (Aa<|Wx rfl<|Aa<|Aa<|As<|A5 ?_);exact ⟨a0,f.sb,l.pk [1,2],h⟩
    ·obtain ⟨aH,aD,aK,aG,a8,aE,h⟩:=Cg h;refine wK<|A3<|qxs 8 8 [(5,iv a8),dp 5] f l (oW 98 0 0 5 l.e<|oS 3 aD<|oC (λw2 d=>ih a3 aH _ (by rw [←hself];exact aG) _ w2 (l.fd d g 2) aA)<|oA 3 aE<|A4) λa w f l=>?_;refine Al rfl (A8<|A5<|?_);obtain ⟨a9,aF,h⟩:=A7 h;refine A3<|qo 2 2 [ea a9,dp 11] f (oA 3 aF<|A4) λa f=>wf ?_;rw [hk2] at h;exact ⟨nk2,A9 _,a9,a8,f.sb,l.pk [1,2],h⟩
   ·refine Ai (Aa<|Aa<|As<|A5 ?_);exact ⟨a0,f.sb,l.pk [0,1],h⟩
  rintro a w ⟨a2,f,l,h⟩;rw [Q1] at h;refine rnB [(4,iv a2)] f λa f=>?_;cases h;exact A6 (wrX 4 f l)
theorem Ya (F:Nat) (p0:ByteArray) (res:Bool) (h:beam_Name F p0=some res) (μ:Frz) (w0:World) (hm:ek μ w0):CP 39 #[ak p0] w0 (.bool res):=by
 obtain ⟨l,s⟩:=hm.init;rw [beam_Name] at h;refine feW Tryz.func39 25 [(0,ak p0)] s λa w f s=>?_;refine qnB [] f λa f=>?_;obtain ⟨u1,hu1,u2,hu2,h⟩:=C9 h;refine esr<|rXs 23 23 [(2,.bool (bif (bif (bif (bif (jr p0) then (decide (((p0.size:Nat):Int)<=12)) else false) then (decide (u1>=97)) else false) then (decide (u2<=122)) else false) then (!(Nu p0)) else false))] f s (oX (.run [] (Us .neq 9 p0 (⟨#[]⟩:ByteArray)) (.bool (jr p0))) A82<|oX (.run [⟨10,true,(bif (jr p0) then (decide (((p0.size:Nat):Int)<=12)) else false)⟩] (Instr.index 9 (ak p0) (iv 0)) (.int .u8 u1)) (Wb kr (λhk=>C8 hu1 hk))<|oX (.run [⟨15,true,(bif (bif (jr p0) then (decide (((p0.size:Nat):Int)<=12)) else false) then (decide (u1>=97)) else false)⟩] (Instr.index 9 (ak p0) (iv 0)) (.int .u8 u2)) (Wb kr (λhk=>C8 hu2 hk))<|oGs [⟨20,true,(bif (bif (bif (jr p0) then (decide (((p0.size:Nat):Int)<=12)) else false) then (decide (u1>=97)) else false) then (decide (u2<=122)) else false)⟩] (oK (Ul p0 _ rfl)<|A4)<|A4) λa w f s=>?_;cases h;exact wf<|A6 (wrX 2 f s)
theorem A0l (p0 c0_:zR) (res:Bool) (h:Jg p0 c0_=res) (μ:Frz) (w0:World) (hm:ek μ w0) {ad1 cap2 css3 ad5 cap6 css7 cb1} (hA4:ArrQ μ 5 Rp98 ad1 cap2 css3 p0.When.Args) (hcb1:BlkM μ cb1 100 (c0_.ax ad5 cap6)) (hA8:ArrQ μ 5 Rp98 ad5 cap6 css7 c0_.When.Args):CP 41 #[.agg (p0.ax ad1 cap2),pb cb1] w0 (.bool res):=by
 obtain ⟨l,s⟩:=hm.init;rw [Jg] at h;refine feW Tryz.func41 9 [(0,.agg (p0.ax ad1 cap2)),fq cb1] s λa w f s=>?_;refine esr<|SK.wi (qBa 100 (p0.ax ad1 cap2) (λb9=>(nV b9)) f s λb9 w a f s=>?_);refine qn 1 2 [] f λa f=>wf ?_;refine roB [(3,.bool (sEq p0.Name c0_.Name))] f (oU 9 0 0 s.i<|oV 9 0 hcb1 (s.fA l 1)<|oX (.run [] (Us .eql 9 p0.Name c0_.Name) (.bool (sEq p0.Name c0_.Name))) Xe<|A4) λa f=>?_;refine A6 (Di 3 f rfl ?_);subst h;exact ⟨rfl,s.ext⟩
theorem A45:∀(F:Nat) (p0:zC) (res:Int) (h:sift_deep F p0=some res) (μ:Frz) (w0:World) (hm:ek μ w0) {ad1 cap2 css3} (hA4:fh μ ad1 cap2 css3 p0),CP 42 #[.agg (p0.ax ad1 cap2)] w0 (iv res):=by
 intro F
 induction F with
 | zero =>
  intro p0 res h
  exact nS h
 | succ F ih =>
  intro p0 res h μ w0 hm ad1 cap2 css3 hA4;obtain ⟨g,l⟩:=hm.init;replace h:Wl F (sift_deep F) p0=some res:=h;obtain ⟨self_,hself⟩:∃s,s=sift_deep F:=⟨_,rfl⟩;rw [←hself,Wl] at h;refine feW Tryz.func42 20 [(0,.agg (p0.ax ad1 cap2))] l λa w f l=>?_;refine esr<|SK.wi (qBa 98 (p0.ax ad1 cap2) (λb5=>(mR b5)) f l λb5 w a f l=>?_);refine qn 1 2 [] f λa f=>wf ?_;refine qnB [(3,iv 0)] f λa f=>?_;refine C1 (λa w=>∃(a4:Int),Fr 20 [] [(3,iv a4)] a/\St w0 [blk b5 98 (p0.ax ad1 cap2),fz w0 μ] w/\V9 a4=some res) ?_ ?_
  ·refine qoB [(7,sv ad1 p0.Args cap2),(8,iv (jk p0)),(9,iv 0)] f (oU 96 0 4 l.i<|A4) λa f=>?_;refine A0<|C2 (λn_ a w=>∃(a0 a1:Int),Fr 20 [] [(3,iv a0),(7,sv ad1 p0.Args cap2),(8,iv (jk p0)),(9,iv a1)] a/\St w0 [blk b5 98 (p0.ax ad1 cap2),fz w0 μ] w/\Sz self_ p0 n_ a0 a1=some res) F ⟨0,0,f.sb,l.pk [0,1],h⟩ ?_;rintro nk2 a w ⟨a0,a1,f,l,h⟩;rcases nk2 with _|nk2
   ·exact nS h
   obtain ⟨k2,hk2,h⟩:∃k2,k2=Sz self_ p0 nk2/\V8 self_ p0 k2 a0 a1=some res:=⟨_,rfl,h⟩
   rw [V8] at h;refine qnB [(10,.bool (decide (a1<(jk p0))))] f λa f=>?_;refine Ak<|Ab f h (λc h=>?_) λc h=>?_
   ·obtain ⟨a3,aC,h⟩:=A7 h;obtain ⟨aH,a8,aB⟩:=An hA4.2 aC;obtain ⟨a5,a7,aI,rfl,aA⟩:=aB.out;refine wK<|Ak<|A0<|esr<|qo 2 2 [(12,.agg (a3.ax a5 a7))] f (oI 96 (hA4.at (l.fz g 1)) a8<|oG 98 0 5 (Ba 5) (hA4.a1 (l.fA g 1)) a8<|A4) λa f=>?_;refine SK.wi (qA 98 z98 (λa6=>(oi a6)) f l λa6 w a f l=>?_);refine SK.wi (qw 98 0 (a3.ax a5 a7) f l rfl λw a f l=>wf ?_);obtain ⟨a2,aF,h⟩:=A7 h;refine A3<|qxs 5 5 [(3,iv (if a2>a0 then a2 else a0)),dp 3] f l (oW 98 0 0 5 l.e<|oC (λw2 d=>ih a3 _ (by rw [←hself];exact aF) _ w2 (l.fd d g 2) aA)<|A4) λa w f l=>?_;refine Al rfl (A8<|A5<|?_);obtain ⟨a9,aE,h⟩:=A7 h;refine A3<|qo 2 2 [(9,iv a9),dp 9] f (oA 3 aE<|A4) λa f=>wf ?_;rw [hk2] at h;exact ⟨nk2,A9 _,if a2>a0 then a2 else a0,a9,f.sb,l.pk [1,2],h⟩
   ·refine Ai (Aa<|Aa<|As<|A5 ?_);exact ⟨a0,f.sb,l.pk [0,1],h⟩
  rintro a w ⟨a4,f,l,h⟩;rw [V9] at h;obtain ⟨aG,aD,h⟩:=A7 h;refine esr<|ro 3 3 [(2,iv aG)] f (oA 3 aD<|A4) λa f=>wf ?_;cases h;exact A6 (wrX 2 f l)
theorem Gc (p0:zC) (res:Bool) (h:sift_isCondition p0=res) (μ:Frz) (w0:World) (hm:ek μ w0) {ad1 cap2 css3} (hA4:fh μ ad1 cap2 css3 p0):CP 43 #[.agg (p0.ax ad1 cap2)] w0 (.bool res):=by
 obtain ⟨l,s⟩:=hm.init;rw [sift_isCondition] at h;refine feW Tryz.func43 11 [(0,.agg (p0.ax ad1 cap2))] s λa w f s=>?_;refine esr<|SK.wi (qBa 98 (p0.ax ad1 cap2) (λb5=>(mR b5)) f s λb5 w a f s=>?_);refine qn 1 2 [] f λa f=>wf ?_;refine roB [(2,.bool (bif (decide (p0.Op>=1)) then (decide (p0.Op<=13)) else false))] f (oU 3 0 0 s.i<|oGs [⟨6,true,(decide (p0.Op>=1))⟩] (oU 3 0 0 s.i<|A4)<|A4) λa f=>?_;refine A6 (Di 2 f rfl ?_);subst h;exact ⟨rfl,s.ext⟩
theorem S1:∀(F:Nat) (p0:Int) (res:ByteArray) (h:Lm F p0=some res) (μ:Frz) (w0:World) (hm:ek μ w0),CP 17 #[iv p0] w0 (ak res):=by
 intro F
 induction F with
 | zero =>
  intro p0 res h
  exact nS h
 | succ F ih =>
  intro p0 res h μ w0 hm ;obtain ⟨g,l⟩:=hm.init;replace h:R8 (Lm F) p0=some res:=h;obtain ⟨self_,hself⟩:∃s,s=Lm F:=⟨_,rfl⟩;rw [←hself,R8] at h;refine feW Tryz.func17 18 [(0,iv p0)] l λa w f l=>?_;refine qnB [] f λa f=>?_;obtain ⟨x1,hx1,x2,hx2,h⟩:=C9 h;refine esr<|qo 4 4 [(7,.int .u8 (IntKind.u8.wrap x2))] f (oR 3 hx1<|oA 3 hx2<|oX (.run [] (convert 3 5 (iv x2)) (.int .u8 (IntKind.u8.wrap x2))) (Ap kr)<|A4) λa f=>?_;refine SK.wi (qL 5 26 1 (mq x2) (λb3=>[(8,sb b3 1)]) (Ut .u8) f l λb3 w a f l=>?_);refine qo 2 7 [(3,.string (bst (mq x2)))] f (oX (.run [] (convert 26 9 (sb b3 1)) (.string (bst (mq x2)))) (C04 kr kr (λ_ d=>((l.at_ d).arr (i:=0) rfl)))<|A4) λa f=>wf ?_;refine Ak<|qnB [(11,.bool (decide (p0>=10)))] f λa f=>?_;refine Ab f h (λc h=>?_) λc h=>?_
  ·obtain ⟨x4,hx4,y5,hy5,s6,hs6,h⟩:=Cg h;refine A3<|rX 6 6 [(3,ak s6)] f (oQ 3 hx4<|oK (ih x4 _ (by rw [←hself];exact hy5))<|oX (.run [] (binOp .add 9 (ak y5) (.string (bst (mq x2)))) (ak s6)) (Kj (λ_=>hs6))<|A4) λa w f x=>?_;replace l:=l.later x;refine wf<|rnB [(2,ak s6)] f λa f=>?_;cases h;exact A6 (wrX 2 f l)
  ·refine wK<|rnB [(2,.string (bst (mq x2)))] f λa f=>?_;cases h;exact A6 (wrX 2 f l)
theorem Ny (F:Nat) (p0:zW) (res:zH) (h:G6 F p0=some res) (μ:Frz) (w0:World) (hm:ek μ w0) {ad1 cap2 ad3 cap4 ad5 cap6} (hA7:ArrM μ 1 (fK .i16) ad1 cap2 p0.Speeds) (hA8:ArrM μ 1 (fK .u16) ad3 cap4 p0.Slips) (hA9:ArrM μ 1 (fK .u8) ad5 cap6 p0.Loud):CP 9 #[.agg (p0.ax ad1 cap2 ad3 cap4 ad5 cap6)] w0 (res.ag):=by
 obtain ⟨l,s⟩:=hm.init;rw [G6] at h;refine feW Tryz.func9 39 [(0,.agg (p0.ax ad1 cap2 ad3 cap4 ad5 cap6))] s λa w f s=>?_;refine esr<|SK.wi (qBa 28 (p0.ax ad1 cap2 ad3 cap4 ad5 cap6) (λa6=>(mR a6)) f s λa6 w a f s=>?_);refine SK.wi (qA 49 z49 (λa7=>(nV a7)) f s λa7 w a f s=>wf ?_);obtain ⟨aP,a8,aU,a9,a1,aA,h⟩:=Cg h;obtain ⟨aQ,aB,aV,aC,a0,aD,h⟩:=Cg h;obtain ⟨aR,aE,aW,aF,a2,aG,h⟩:=Cg h;obtain ⟨aS,aH,aX,aI,aY,aJ,h⟩:=Cg h;obtain ⟨a3,aK,h⟩:=A7 h;refine esr<|qo 22 22 [(25,.agg #[iv a1,iv a0,iv a2,iv 0,iv a3])] f (oU 5 1 1 s.i<|oX (.run [] (convert 5 3 (.int .u8 p0.Lambda)) (iv aP)) (Gy kr kr (λ_=>a8))<|oM 3 a9<|oA 3 aA<|oU 5 1 0 s.i<|oX (.run [] (convert 5 3 (.int .u8 p0.Kind)) (iv aQ)) (Gy kr kr (λ_=>aB))<|oR 3 aC<|oA 3 aD<|oU 5 1 2 s.i<|oX (.run [] (convert 5 3 (.int .u8 p0.First)) (iv aR)) (Gy kr kr (λ_=>aE))<|oM 3 aF<|oA 3 aG<|oU 5 1 4 s.i<|oX (.run [] (convert 5 3 (.int .u8 p0.Count)) (iv aS)) (Gy kr kr (λ_=>aH))<|oR 3 aI<|oM 3 aJ<|oA 3 aK<|A4) λa f=>?_;refine SK.wi (qA 49 z49 (λa5=>[(3,pb a5)]) f s λa5 w a f s=>?_);refine SK.wi (qw 49 0 #[iv a1,iv a0,iv a2,iv 0,iv a3] f s rfl λw a f s=>wf ?_);refine Ak<|qoB [(28,.bool (a0 != 1))] f (oU 3 0 1 s.i<|A4) λa f=>?_;refine Ab f h (λc h=>?_) λc h=>?_
 ·obtain ⟨aZ,aL,aT,aM,b0,aN,h⟩:=Cg h;obtain ⟨a4,aO,h⟩:=A7 h;refine A3<|qo 9 9 [mI a4,(37,gp a5)] f (oU 3 0 2 s.i<|oA 3 aL<|oU 5 2 3 s.i<|oX (.run [] (convert 5 3 (.int .u8 p0.Second)) (iv aT)) (Gy kr kr (λ_=>aM))<|oM 3 aN<|oA 3 aO<|A4) λa f=>?_;refine SK.wi (qs 3 0 3 (iv a4) f s rfl λw a f s=>wf ?_);refine esr<|qo 1 1 [(38,.agg #[iv a1,iv a0,iv a2,iv a4,iv a3])] f (oW 49 0 0 5 s.i<|A4) λa f=>?_;refine SK.wi (qw 49 1 #[iv a1,iv a0,iv a2,iv a4,iv a3] f s rfl λw a f s=>wf ?_);refine A6 (Bx [.cell 2 49] [_] f rfl ⟨⟨_,rfl,Cb (cs:=[iv a1,iv a0,iv a2,iv a4,iv a3]) kr ((s.blk (i:=1) rfl).cells rfl)⟩,trivial⟩ ?_);cases h;exact ⟨rfl,s.ext⟩
 ·refine wK<|esr<|qo 1 1 [(38,.agg #[iv a1,iv a0,iv a2,iv 0,iv a3])] f (oW 49 0 0 5 s.i<|A4) λa f=>?_;refine SK.wi (qw 49 1 #[iv a1,iv a0,iv a2,iv 0,iv a3] f s rfl λw a f s=>wf ?_);refine A6 (Bx [.cell 2 49] [_] f rfl ⟨⟨_,rfl,Cb (cs:=[iv a1,iv a0,iv a2,iv 0,iv a3]) kr ((s.blk (i:=1) rfl).cells rfl)⟩,trivial⟩ ?_);cases h;exact ⟨rfl,s.ext⟩
theorem Nw (F:Nat) (p0:zW) (p1 res:Int) (h:Ht F p0 p1=some res) (μ:Frz) (w0:World) (hm:ek μ w0) {ad1 cap2 ad3 cap4 ad5 cap6} (hA7:ArrM μ 1 (fK .i16) ad1 cap2 p0.Speeds) (hA8:ArrM μ 1 (fK .u16) ad3 cap4 p0.Slips) (hA9:ArrM μ 1 (fK .u8) ad5 cap6 p0.Loud):CP 11 #[.agg (p0.ax ad1 cap2 ad3 cap4 ad5 cap6),iv p1] w0 (iv res):=by
 obtain ⟨l,s⟩:=hm.init;rw [Ht] at h;refine feW Tryz.func11 38 [(0,.agg (p0.ax ad1 cap2 ad3 cap4 ad5 cap6)),(1,iv p1)] s λa w f s=>?_;refine esr<|SK.wi (qBa 28 (p0.ax ad1 cap2 ad3 cap4 ad5 cap6) (λa1=>(nV a1)) f s λa1 w a f s=>?_);refine qn 1 2 [] f λa f=>wf ?_;obtain ⟨a0,a4,aG,a5,aH,a6,h⟩:=Cg h;refine Ak<|qDs 9 [(5,iv a0),(6,iv aH)] f s (oU 22 0 6 s.e<|oX (.run [] (convert 22 3 (.int .i16 p0.Base)) (iv a0)) (Gy kr kr (λ_=>a4))<|oU 24 0 8 s.e<|oX (.run [] (convert 24 3 (.int .u16 p0.Jump)) (iv aG)) (Gy kr kr (λ_=>a5))<|oR 3 a6<|A4) λa w f s=>?_;refine wf<|Ak<|qoB [(17,.bool (decide ((ln p0.Speeds)>0)))] f (oU 23 0 7 s.i<|A4) λa f=>?_;refine Ab f h (λc h=>?_) λc h=>?_
 ·obtain ⟨aJ,a7,aF,a2,aI,a8,h⟩:=Cg h;obtain ⟨aK,a9,aL,aA,aM,aB,h⟩:=Cg h;obtain ⟨aN,aC,aO,aD,a3,aE,h⟩:=Cg h;refine rDs 20 [(5,iv a3)] f s (oU 23 0 7 s.e<|oU 23 0 7 s.e<|oR 3 a7<|oI 23 (hA7 _ (s.fz l 1)) a2<|oE 22 0 (Ut .i16) (λ_ d=>(hA7 _ (s.fd d l 1))) a2 rfl<|oX (.run [] (convert 22 3 (.int .i16 aF)) (iv aI)) (Gy kr kr (λ_=>a8))<|oQ 3 a9<|oA 3 aA<|oR 3 aB<|oQ 3 aC<|oS 3 aD<|oA 3 aE<|A4) λa w f s=>?_;refine wf<|rnB [(4,iv a3)] f λa f=>?_;cases h;exact A6 (wrX 4 f s)
 ·refine wK<|rnB [(4,iv a0)] f λa f=>?_;cases h;exact A6 (wrX 4 f s)
theorem Lq (F:Nat) (p0:zW) (res:Int) (h:Ea F p0=some res) (μ:Frz) (w0:World) (hm:ek μ w0) {ad1 cap2 ad3 cap4 ad5 cap6} (hA7:ArrM μ 1 (fK .i16) ad1 cap2 p0.Speeds) (hA8:ArrM μ 1 (fK .u16) ad3 cap4 p0.Slips) (hA9:ArrM μ 1 (fK .u8) ad5 cap6 p0.Loud):CP 18 #[.agg (p0.ax ad1 cap2 ad3 cap4 ad5 cap6)] w0 (iv res):=by
 obtain ⟨l,s⟩:=hm.init;rw [Ea] at h;refine feW Tryz.func18 9 [(0,.agg (p0.ax ad1 cap2 ad3 cap4 ad5 cap6))] s λa w f s=>?_;refine esr<|SK.wi (qBa 28 (p0.ax ad1 cap2 ad3 cap4 ad5 cap6) (λa0=>(mR a0)) f s λa0 w a f s=>?_);refine qn 1 2 [] f λa f=>wf ?_;obtain ⟨a5,a1,a7,a2,a8,a3,h⟩:=Cg h;obtain ⟨a6,a4,h⟩:=A7 h;refine esr<|ro 7 7 [(2,iv a6)] f (oU 5 0 9 s.i<|oX (.run [] (convert 5 3 (.int .u8 p0.Slip)) (iv a5)) (Gy kr kr (λ_=>a1))<|oR 3 a2<|oM 3 a3<|oA 3 a4<|A4) λa f=>wf ?_;cases h;exact A6 (wrX 2 f s)
theorem C5 (p0 p1 p2:Int) (res:Bool) (h:Ag p0 p1 p2=res) (μ:Frz) (w0:World) (hm:ek μ w0):CP 46 #[iv p0,iv p1,iv p2] w0 (.bool res):=by
 obtain ⟨l,s⟩:=hm.init;rw [Ag] at h;refine feW Tryz.func46 15 [(0,iv p0),(1,iv p1),(2,iv p2)] s λa w f s=>?_;refine qnB [] f λa f=>?_;refine rnB [(6,.bool (bif (decide (p1<=p0)) then (decide (p0<=p2)) else false))] f λa f=>?_;refine A6 (Di 6 f rfl ?_);subst h;exact ⟨rfl,s.ext⟩
theorem L9 (p0 res:Int) (h:C7 p0=res) (μ:Frz) (w0:World) (hm:ek μ w0):CP 47 #[iv p0] w0 (iv res):=by
 obtain ⟨l,s⟩:=hm.init;rw [C7] at h;refine feW Tryz.func47 5 [(0,iv p0)] s λa w f s=>?_;refine qnB [] f λa f=>?_;refine rnB [(2,iv (A5y .i64 p0 65535))] f λa f=>?_;refine A6 (Di 2 f rfl ?_);subst h;exact ⟨rfl,s.ext⟩
theorem A23 (F:Nat) (p0 p1 res:Int) (h:Sj F p0 p1=some res) (μ:Frz) (w0:World) (hm:ek μ w0):CP 49 #[iv p0,iv p1] w0 (iv res):=by
 obtain ⟨l,s⟩:=hm.init;rw [Sj] at h;refine feW Tryz.func49 16 [(0,iv p0),(1,iv p1)] s λa w f s=>?_;refine qnB [] f λa f=>?_;obtain ⟨x1,hx1,h⟩:=A7 h;refine esr<|qo 4 4 [(5,iv x1)] f (oQ 3 hx1<|A4) λa f=>wf ?_;obtain ⟨x2,hx2,h⟩:=A7 h;refine Ak<|esr<|qo 4 4 [(12,.bool (decide (x2<0)))] f (oR 3 hx2<|A4) λa f=>wf ?_;refine Ab f h (λc h=>?_) λc h=>?_
 ·obtain ⟨x3,hx3,h⟩:=A7 h;refine A3<|ro 3 3 [(5,iv x3)] f (oS 3 hx3<|A4) λa f=>wf ?_;refine rnB [(4,iv x3)] f λa f=>?_;cases h;exact A6 (wrX 4 f s)
 ·refine wK<|rnB [(4,iv x1)] f λa f=>?_;cases h;exact A6 (wrX 4 f s)
theorem A0n (F:Nat) (p0:zJ) (res:zN) (h:T2 F p0=some res) (μ:Frz) (w0 w1:World) (T_:List Res) (l:Ar w0 μ) {ad1 cap2 css3} (hA4:ArrQ μ 1 Rp67 ad1 cap2 css3 p0.Rays) (s:St w0 (fz w0 μ::T_) w1):CR 23 #[.agg (p0.ax ad1 cap2)] w1 (λe w=>∃(ν_:Frz) (a4 a3 a5 a8 a6 B22 a7 B25:_),μ.ext w0.heap.size ν_/\Ar w0 ν_/\e=(pb a4)/\(BlkM ν_ a4 137 (res.ax a3 a5 a6 a7))/\(ArrQ ν_ 1 Rp67 a3 a5 a8 res.s.Rays)/\(MapM 1 fI ν_ B22 res.tests)/\(nD ν_ B25 res)/\St w0 (fz w0 ν_::ni a6 B22::ni a7 B25::T_) w):=by
 rw [T2] at h;have g:=Frz.ext_refl w0.heap.size μ;refine feW Tryz.func23 15 [(0,.agg (p0.ax ad1 cap2))] s λa w f s=>?_;refine esr<|SK.wi (qBa 40 (p0.ax ad1 cap2) (λb5=>(mR b5)) f s λb5 w a f s=>?_);refine qn 1 2 [] f λa f=>wf ?_;obtain ⟨x6,hx6,h⟩:=A7 h;refine esr<|ro 8 8 [(3,.agg (p0.ax ad1 cap2)),ex x6] f (oW 40 0 0 11 s.i<|oU 38 0 10 s.i<|oU 3 0 5 s.i<|oM 3 hx6<|A4) λa f=>?_;have hq8:MapM 1 fI μ ([]:jq) ([]:List (ByteArray×bp)):=MapS.nil;refine SK.wi (Yw ByteArray Value Value.string (λv=>v) (t:=134) (λm7=>[(3,.agg (p0.ax ad1 cap2)),ex x6,(11,bf m7)]) f s kr ⟨kr⟩ (λ_=>⟨kr⟩) λm7 w a f s=>?_);have a2:MapM 3 zG.cells μ ([]:jq) ([]:List (ByteArray×(List zG))):=MapS.nil;refine SK.wi (Yw ByteArray Value Value.string (λv=>v) (t:=135) (λm9=>[(3,.agg (p0.ax ad1 cap2)),ex x6,(11,bf m7),(12,bf m9)]) f s kr ⟨kr⟩ (λ_=>⟨kr⟩) λm9 w a f s=>?_);refine rn 1 11 [(13,.agg (dy p0 ad1 cap2 x6 m7 m9))] f λa f=>?_;refine SK.wi (qBa 137 (dy p0 ad1 cap2 x6 m7 m9) (λa0=>[(14,pb a0)]) f s λa0 w a f s=>?_);refine rn 1 13 (nV a0) f λa f=>wf ?_;refine A6 (Di 2 f rfl ?_);obtain ⟨ν12,a1,l,s,a9⟩:=s.fr 4 0 l;obtain ⟨hA4,hq8,a2⟩:=mo3 a1.1 hA4 hq8 a2;replace g:=g.t a1;have hB15:BlkM ν12 a0 137 (dy p0 ad1 cap2 x6 m7 m9):=a9;cases h;replace s:=s.d2.s1.s2;exact ⟨_,rfl,ν12,a0,ad1,cap2,css3,m7,([]:jq),m9,([]:jq),g,l,rfl,hB15,hA4,hq8,a2,s⟩
theorem Qc (F:Nat) (p0 res:(List zD)) (h:D4 F p0=some res) (μ:Frz) (w0:World) (hm:ek μ w0) {ad1x:Addr} {cap2} (hA3:ArrM μ 14 zD.cells (some ad1x) cap2 p0):CR 21 #[.slice (some ad1x) p0.length cap2] w0 (λe w=>∃zad0 zcap0,e=(sv zad0 res zcap0)/\St w0 [iz zad0 res zcap0] w):=by
 obtain ⟨g,l⟩:=hm.init;rw [D4] at h;refine feW Tryz.func21 8 [gr ad1x p0 cap2] l λa w s l=>?_;refine qnB [] s λa s=>?_;refine Ak<|qnB [(4,az)] s λa s=>?_;refine wpIn_cond_false (s.get rfl) ?_;refine wK<|esr<|SK.wi (A99 (e:=66) (sz:=14) (f:=zD.cells) (t:=67) (len:=0) (λb4=>[gr ad1x p0 cap2,(5,sb b4 0)]) #[] #[] ([]:List zD) s l kr ⟨kr⟩ kr zD.cells_len rfl rfl kr (λ_=>⟨kr⟩) λb4 w a s l=>?_);refine rn 1 2 [(5,sb b4 0),nW ad1x p0 cap2] s λa s=>?_;obtain ⟨l5,hl5,h⟩:=A7 h;refine SK.wi (qP 67 67 0 (λad6 cap7=>[(7,sv ad6 l5 cap7)]) s l (hA3 _ (l.fz g 1)) hl5 rfl λad6 cap7 w a s l=>?_);refine rn 1 4 [ev ad6 l5 cap7] s λa s=>wf ?_;refine A6 (Di 2 s rfl ?_);cases h;exact ⟨_,rfl,_,_,rfl,l.pk [0]⟩
theorem Qb (res:(List zD)) (h:([]:List zD)=res) (μ:Frz) (w0:World) (hm:ek μ w0) {cap2}:CR 21 #[.slice none 0 cap2] w0 (λe w=>∃zad0 zcap0,e=(sv zad0 res zcap0)/\St w0 [iz zad0 res zcap0] w):=by
 obtain ⟨l,s⟩:=hm.init;refine feW Tryz.func21 8 [oO cap2] s λa w f s=>?_;refine qnB [] f λa f=>?_;refine Ak<|qnB [(4,bi)] f λa f=>?_;refine wpIn_cond_true (f.get rfl) ?_;refine rnB [(2,ah)] f λa f=>?_;refine A6 (Aj<|Di 2 f rfl ?_);subst h;replace s:=s.nilarr 66 14 zD.cells;exact ⟨_,rfl,_,_,rfl,s.pk [0]⟩
theorem Qk (F:Nat) (p0 res:List zD) (h:D4 F p0=some res) (μ:Frz) (w0:World) (hm:ek μ w0) {ad1 cap2} (hA3:ArrM μ 14 zD.cells ad1 cap2 p0):CR 21 #[sv ad1 p0 cap2] w0 (λe w=>∃zad0 zcap0,e=(sv zad0 res zcap0)/\St w0 [iz zad0 res zcap0] w):=by
 cases ad1 with
 | some a=>exact Qc F p0 res h μ w0 hm hA3
 | none =>
  obtain rfl:=hA3.none_nil hm;have hr:[]=res:=Option.some.inj (show some ([]:List zD)=some res from h);exact Qb res hr μ w0 hm
theorem A29 (p0:Int) (res:Bool) (h:Rf p0=res) (μ:Frz) (w0:World) (hm:ek μ w0):CP 26 #[iv p0] w0 (.bool res):=by
 obtain ⟨l,s⟩:=hm.init;rw [Rf] at h;refine feW Tryz.func26 9 [(0,iv p0)] s λa w f s=>?_;refine qnB [] f λa f=>?_;refine rnB [(2,.bool (bif (decide (p0>=1)) then (decide (p0<=200000)) else false))] f λa f=>?_;refine A6 (Di 2 f rfl ?_);subst h;exact ⟨rfl,s.ext⟩
theorem A0g (p0 p1 res:Int) (h:Je p0 p1=res) (μ:Frz) (w0:World) (hm:ek μ w0):CP 27 #[iv p0,iv p1] w0 (iv res):=by
 obtain ⟨l,s⟩:=hm.init;rw [Je] at h;refine feW Tryz.func27 19 [(0,iv p0),(1,iv p1)] s λa w f s=>?_;refine qnB [] f λa f=>?_;refine Ak<|rnB [(18,.bool (bif (bif (bif (decide (p0<0)) then true else (decide (p0>400000))) then true else (decide (p1<1))) then true else (decide (p1>16))))] f λa f=>?_;refine Ab f h (λc h=>?_) λc h=>?_
 ·refine rnB [(4,iv 3)] f λa f=>?_;refine A6 (Aj<|Di 4 f rfl ?_);subst h;exact ⟨rfl,s.ext⟩
 ·refine wK<|rnB [(4,iv 0)] f λa f=>?_;refine A6 (Di 4 f rfl ?_);subst h;exact ⟨rfl,s.ext⟩
theorem Zw (F:Nat) (p0:zF) (p1:(List zF)) (res:Bool) (h:Pw F p0 p1=some res) (μ:Frz) (w0:World) (hm:ek μ w0) {ad1 cap2} (hA3:ArrM μ 4 zF.cells ad1 cap2 p1):CP 12 #[p0.ag,sv ad1 p1 cap2] w0 (.bool res):=by
 obtain ⟨l,s⟩:=hm.init;rw [Pw] at h;refine feW Tryz.func12 44 [(0,p0.ag),po ad1 p1 cap2] s λa w f s=>?_;refine esr<|SK.wi (qBa 70 p0.ar (λb4=>(nV b4)) f s λb4 w a f s=>?_);refine qn 1 2 [] f λa f=>wf ?_;refine C1 (λa w=>Fr 44 [] [] a/\St w0 [blk b4 70 p0.ar,fz w0 μ] w/\Rn=some res) ?_ ?_
 ·refine qnB [(5,iv 0)] f λa f=>?_;refine A0<|C2 (λn_ a w=>∃(a1:Int),Fr 44 [] [po ad1 p1 cap2,(2,pb b4),(5,iv a1)] a/\St w0 [blk b4 70 p0.ar,fz w0 μ] w/\Jv p0 p1 n_ a1=some res) F ⟨0,f.sb,s.pk [0,1],h⟩ ?_;rintro nk2 a w ⟨a1,f,s,h⟩;rcases nk2 with _|nk2
  ·exact nS h
  obtain ⟨k2,hk2,h⟩:∃k2,k2=Jv p0 p1 nk2/\M6 p0 p1 k2 a1=some res:=⟨_,rfl,h⟩
  rw [M6] at h;refine Ak<|qnB [(9,bm a1 p1)] f λa f=>?_;refine Ab f h (λc h=>?_) λc h=>?_
  ·obtain ⟨a0,a3,a2,a4,a6,a5,h⟩:=Cg h;refine wK<|Ak<|A0<|Ak<|qDs 32 [(43,.bool (bif (bif (ca a0 p0) then (oT a2 p0) else false) then (decide (a6.Speed.Hi>=p0.Speed.Hi)) else false))] f s (oI 58 (hA3 _ (s.fz l 1)) a3<|oG 68 0 2 zF.cells_len (λ_ d=>(hA3 _ (s.fd d l 1))) a3<|oW 68 0 0 2 s.e<|oX (.run [] (eqS .eql 68 #[iv a0.Whole.1,iv a0.Whole.2] #[iv p0.Whole.1,iv p0.Whole.2]) (.bool (ca a0 p0))) (A32 kr kr)<|oX (.run [⟨20,true,ca a0 p0⟩] (Instr.indexAt 58 (sv ad1 p1 cap2) (iv a1)) (.pointer (some (Ck ad1 a1 4)))) (Wa (hA3 _ (s.fz l 1)) kr (λhk=>C8 a4 hk))<|oX (.run [⟨20,true,ca a0 p0⟩] (Instr.loadAt 3 (.pointer (some ((Ck ad1 a1 4).add 2)))) (iv a2.Speed.Lo)) (A07 (i:=a1) 2 zF.cells_len (λ_ d=>(hA3 _ (s.fd d l 1))) kr (λhk=>C8 a4 hk) rfl)<|oGs [⟨20,true,ca a0 p0⟩] (oU 3 0 2 s.e<|A4)<|oX (.run [⟨32,true,(bif (ca a0 p0) then (oT a2 p0) else false)⟩] (Instr.indexAt 58 (sv ad1 p1 cap2) (iv a1)) (.pointer (some (Ck ad1 a1 4)))) (Wa (hA3 _ (s.fz l 1)) kr (λhk=>C8 a5 hk))<|oX (.run [⟨32,true,(bif (ca a0 p0) then (oT a2 p0) else false)⟩] (Instr.loadAt 3 (.pointer (some ((Ck ad1 a1 4).add 3)))) (iv a6.Speed.Hi)) (A07 (i:=a1) 3 zF.cells_len (λ_ d=>(hA3 _ (s.fd d l 1))) kr (λhk=>C8 a5 hk) rfl)<|oGs [⟨32,true,(bif (ca a0 p0) then (oT a2 p0) else false)⟩] (oU 3 0 3 s.e<|A4)<|A4) λa w f s=>?_;refine wf<|Ab f h (λc h=>?_) λc h=>?_
   ·refine rnB [(4,bi)] f λa f=>?_;cases h;exact A6 (Ax<|Aj<|Aj<|Ax<|Aj<|wrX 4 f s)
   ·refine Am (A8<|A5<|?_);obtain ⟨a7,a8,h⟩:=A7 h;refine A3<|qo 3 3 [(5,iv a7),dp 5] f (oA 3 a8<|A4) λa f=>wf ?_;rw [hk2] at h;exact ⟨nk2,A9 _,a7,f.sb,s.pk [0,1],h⟩
  ·refine Ai (Aa<|Aa<|As<|A5 ?_);exact ⟨f.sb,s.pk [0,1],h⟩
 rintro a w ⟨f,s,h⟩;rw [Rn] at h;refine Ak ?_
 cases h
theorem Jl (F:Nat) (p0 p1 res:ByteArray) (h:Gq F p0 p1=some res) (μ:Frz) (w0:World) (hm:ek μ w0):CP 71 #[ak p0,ak p1] w0 (ak res):=by
 obtain ⟨l,s⟩:=hm.init;rw [Gq] at h;refine feW Tryz.func71 22 [(0,ak p0),(1,ak p1)] s λa w f s=>?_;refine qnB [] f λa f=>?_;refine C1 (λa w=>Fr 22 [] [(0,ak p0)] a/\St w0 [fz w0 μ] w/\T3 p0=some res) ?_ ?_
 ·refine qnB [(7,iv ((p0.size:Nat):Int)),(8,iv 0)] f λa f=>?_;refine A0<|C2 (λn_ a w=>∃(a0:Int),Fr 22 [] [(0,ak p0),(1,ak p1),(7,iv ((p0.size:Nat):Int)),(8,iv a0)] a/\St w0 [fz w0 μ] w/\R1 p0 p1 n_ a0=some res) F ⟨0,f.sb,s.pk [0],h⟩ ?_;rintro nk2 a w ⟨a0,f,s,h⟩;rcases nk2 with _|nk2
  ·exact nS h
  obtain ⟨k2,hk2,h⟩:∃k2,k2=R1 p0 p1 nk2/\Mj p0 p1 k2 a0=some res:=⟨_,rfl,h⟩
  rw [Mj] at h;refine qnB [(9,.bool (decide (a0<((p0.size:Nat):Int))))] f λa f=>?_;refine Ak<|Ab f h (λc h=>?_) λc h=>?_
  ·refine wK<|Ak<|A0<|qnB [(5,iv a0)] f λa f=>?_;obtain ⟨a1,a5,h⟩:=A7 h;refine esr<|qxs 6 6 [(16,.bool (decide ((Hs p1 a1)<0)))] f s (oX (.run [] (Instr.index 9 (ak p0) (iv a0)) (.int .u8 a1)) (Wb kr (λ_=>a5))<|oK (Wp p1 a1 _ rfl)<|A4) λa w f s=>?_;refine wf<|Ab f h (λc h=>?_) λc h=>?_
   ·obtain ⟨a2,a4,h⟩:=A7 h;refine esr<|ro 4 4 [(4,ak a2)] f (oX (.run [] (Instr.sliceAt 9 (ak p0) none (some (iv a0)) none) (ak a2)) (Ep kr (λ_=>a4))<|A4) λa f=>wf ?_;cases h;exact A6 (Ax<|Aj<|Aj<|Ax<|Aj<|wrX 4 f s)
   ·refine Am (A8<|A5<|?_);obtain ⟨a3,a6,h⟩:=A7 h;refine A3<|qo 2 2 [(8,iv a3),dp 8] f (oA 3 a6<|A4) λa f=>wf ?_;rw [hk2] at h;exact ⟨nk2,A9 _,a3,f.sb,s.pk [0],h⟩
  ·refine Ai (Aa<|Aa<|As<|A5 ?_);exact ⟨f.sb,s.pk [0],h⟩
 rintro a w ⟨f,s,h⟩;rw [T3] at h;refine rnB [(4,ak p0)] f λa f=>?_;cases h;exact A6 (wrX 4 f s)
theorem Vk (p0:zC) (res:Bool) (h:G2 p0=res) (μ:Frz) (w0:World) (hm:ek μ w0) {ad1 cap2 css3} (hA4:fh μ ad1 cap2 css3 p0):CP 83 #[.agg (p0.ax ad1 cap2)] w0 (.bool res):=by
 obtain ⟨l,s⟩:=hm.init;rw [G2] at h;refine feW Tryz.func83 11 [(0,.agg (p0.ax ad1 cap2))] s λa w f s=>?_;refine esr<|SK.wi (qBa 98 (p0.ax ad1 cap2) (λb5=>(mR b5)) f s λb5 w a f s=>?_);refine qn 1 2 [] f λa f=>wf ?_;refine roB [(2,.bool (bif (decide (p0.Op>=14)) then (decide (p0.Op<=27)) else false))] f (oU 3 0 0 s.i<|oGs [⟨6,true,(decide (p0.Op>=14))⟩] (oU 3 0 0 s.i<|A4)<|A4) λa f=>?_;refine A6 (Di 2 f rfl ?_);subst h;exact ⟨rfl,s.ext⟩
theorem Mq (p0:zA) (p1 p2:Int) (res:Bool) (h:Aq p0 p1 p2=res) (μ:Frz) (w0:World) (hm:ek μ w0):CP 84 #[me p0,iv p1,iv p2] w0 (.bool res):=by
 obtain ⟨l,s⟩:=hm.init;rw [Aq] at h;refine feW Tryz.func84 24 [(0,me p0),(1,iv p1),(2,iv p2)] s λa w f s=>?_;refine esr<|SK.wi (qBa 63 (cu p0) (λb1=>[(3,pb b1)]) f s λb1 w a f s=>?_);refine qn 1 2 [] f λa f=>wf ?_;refine roB [(6,.bool (bif (bif (decide (p1<=p0.Lo)) then (decide (p0.Lo<=p0.Hi)) else false) then (decide (p0.Hi<=p2)) else false))] f (oU 3 0 0 s.i<|oGs [⟨11,true,(decide (p1<=p0.Lo))⟩] (oU 3 0 0 s.i<|oU 3 0 1 s.i<|A4)<|oGs [⟨18,true,(bif (decide (p1<=p0.Lo)) then (decide (p0.Lo<=p0.Hi)) else false)⟩] (oU 3 0 1 s.i<|A4)<|A4) λa f=>?_;refine A6 (Di 6 f rfl ?_);subst h;exact ⟨rfl,s.ext⟩
theorem Nj (p0 p1:zA) (res:(zA×Bool)) (h:Ac p0 p1=res) (μ:Frz) (w0:World) (hm:ek μ w0):CP 60 #[me p0,me p1] w0 (.tuple #[.agg (bx res),.bool res.2]):=by
 obtain ⟨l,s⟩:=hm.init;rw [Ac] at h;refine feW Tryz.func60 24 [(0,me p0),(1,me p1)] s λa w f s=>?_;refine esr<|SK.wi (qBa 63 (cu p0) (λb1=>(nV b1)) f s λb1 w a f s=>?_);refine SK.wi (qBa 63 (cu p1) (λb2=>[(3,pb b2)]) f s λb2 w a f s=>?_);refine SK.wi (qA 63 dd (λb3=>[(4,pb b3)]) f s λb3 w a f s=>?_);refine qn 1 4 [] f λa f=>wf ?_;refine esr<|qo 11 11 [(17,.agg #[iv (if p1.Lo>p0.Lo then p1.Lo else p0.Lo),iv (if p1.Hi<p0.Hi then p1.Hi else p0.Hi)])] f (oU 3 2 0 s.i<|oU 3 1 0 s.i<|oU 3 2 1 s.i<|oU 3 1 1 s.i<|A4) λa f=>?_;refine SK.wi (qA 63 dd (λb4=>(mQ b4)) f s λb4 w a f s=>?_);refine SK.wi (qw 63 0 #[iv (if p1.Lo>p0.Lo then p1.Lo else p0.Lo),iv (if p1.Hi<p0.Hi then p1.Hi else p0.Hi)] f s rfl λw a f s=>wf ?_);refine Ak<|Bu 8 [6] _ (D:=λw=>St w0 [blk b4 63 #[iv (if p1.Lo>p0.Lo then p1.Lo else p0.Lo),iv (if p1.Hi<p0.Hi then p1.Hi else p0.Hi)],blk b2 63 (cu p1),blk b1 63 (cu p0)] w/\FrzAt μ w) kr kr f.size (λw x=>?_) (λ_ _ h=>h);replace s:=s.later x;refine ⟨⟨s.pk [0,2,3],s.fz l 4⟩,?_⟩;have hcl5:=Ae μ;refine WT.s ja [6] kr kr ?_;refine qC 6 [(18,.agg #[iv (if p1.Lo>p0.Lo then p1.Lo else p0.Lo),iv (if p1.Hi<p0.Hi then p1.Hi else p0.Hi)]),(23,.bool (decide ((if p1.Lo>p0.Lo then p1.Lo else p0.Lo)<=(if p1.Hi<p0.Hi then p1.Hi else p0.Hi))))] f (oN 63 0 0 2 (λ_ d=>d.1) rfl<|oL 3 0 0 (λ_ d=>d.1) rfl rfl<|oL 3 0 1 (λ_ d=>d.1) rfl rfl<|A4) λa f=>?_;refine Af ?_;refine all_cons ?_ (B4);refine qw 63 1 #[iv (if p1.Lo>p0.Lo then p1.Lo else p0.Lo),iv (if p1.Hi<p0.Hi then p1.Hi else p0.Hi)] f s rfl λw a f s=>⟨⟨s.pk [0,2,3],(s.fz l 4)⟩,?_⟩;refine WT.z [7] kr ?_;refine qC 1 [(5,.bool (decide ((if p1.Lo>p0.Lo then p1.Lo else p0.Lo)<=(if p1.Hi<p0.Hi then p1.Hi else p0.Hi))))] f A4 λa f=>?_;refine Af ?_;refine wf<|A6 (Bx [.cell 4 63,.tmp 5] [_,_] f rfl ⟨⟨_,rfl,Cb (cs:=[iv (if p1.Lo>p0.Lo then p1.Lo else p0.Lo),iv (if p1.Hi<p0.Hi then p1.Hi else p0.Hi)]) kr ((s.blk (i:=1) rfl).cells rfl)⟩,rfl,trivial⟩ ?_);subst h;exact ⟨rfl,s.ext⟩
theorem P5 (F:Nat) (p0 res:(List zA)) (h:Cs F p0=some res) (μ:Frz) (w0:World) (hm:ek μ w0) {ad1x:Addr} {cap2} (hA3:ArrM μ 2 zA.cells (some ad1x) cap2 p0):CR 61 #[.slice (some ad1x) p0.length cap2] w0 (λe w=>∃zad0 zcap0,e=(sv zad0 res zcap0)/\St w0 [bn zad0 res zcap0] w):=by
 obtain ⟨g,l⟩:=hm.init;rw [Cs] at h;refine feW Tryz.func61 8 [gr ad1x p0 cap2] l λa w s l=>?_;refine qnB [] s λa s=>?_;refine Ak<|qnB [(4,az)] s λa s=>?_;refine wpIn_cond_false (s.get rfl) ?_;refine wK<|esr<|SK.wi (A99 (e:=63) (sz:=2) (f:=zA.cells) (t:=112) (len:=0) (λb4=>[gr ad1x p0 cap2,(5,sb b4 0)]) #[] #[] ([]:List zA) s l kr ⟨kr⟩ kr zA.cells_len rfl rfl kr (λ_=>⟨kr⟩) λb4 w a s l=>?_);refine rn 1 2 [(5,sb b4 0),nW ad1x p0 cap2] s λa s=>?_;obtain ⟨l5,hl5,h⟩:=A7 h;refine SK.wi (qP 112 112 0 (λad6 cap7=>[(7,sv ad6 l5 cap7)]) s l (hA3 _ (l.fz g 1)) hl5 rfl λad6 cap7 w a s l=>?_);refine rn 1 4 [ev ad6 l5 cap7] s λa s=>wf ?_;refine A6 (Di 2 s rfl ?_);cases h;exact ⟨_,rfl,_,_,rfl,l.pk [0]⟩
theorem P4 (res:(List zA)) (h:([]:List zA)=res) (μ:Frz) (w0:World) (hm:ek μ w0) {cap2}:CR 61 #[.slice none 0 cap2] w0 (λe w=>∃zad0 zcap0,e=(sv zad0 res zcap0)/\St w0 [bn zad0 res zcap0] w):=by
 obtain ⟨l,s⟩:=hm.init;refine feW Tryz.func61 8 [oO cap2] s λa w f s=>?_;refine qnB [] f λa f=>?_;refine Ak<|qnB [(4,bi)] f λa f=>?_;refine wpIn_cond_true (f.get rfl) ?_;refine rnB [(2,ah)] f λa f=>?_;refine A6 (Aj<|Di 2 f rfl ?_);subst h;replace s:=s.nilarr 63 2 zA.cells;exact ⟨_,rfl,_,_,rfl,s.pk [0]⟩
theorem Pd (F:Nat) (p0 res:List zA) (h:Cs F p0=some res) (μ:Frz) (w0:World) (hm:ek μ w0) {ad1 cap2} (hA3:ma μ ad1 cap2 p0):CR 61 #[sv ad1 p0 cap2] w0 (λe w=>∃zad0 zcap0,e=(sv zad0 res zcap0)/\St w0 [bn zad0 res zcap0] w):=by
 cases ad1 with
 | some a=>exact P5 F p0 res h μ w0 hm hA3
 | none =>
  obtain rfl:=hA3.none_nil hm;have hr:[]=res:=Option.some.inj (show some ([]:List zA)=some res from h);exact P4 res hr μ w0 hm
theorem Xc (F:Nat) (p0:(kz)) (res:bp) (h:Rg F p0=some res) (μ:Frz) (w0:World) (hm:ek μ w0) {ad1 cap2 css3} (hA4:ArrQ μ 1 Rp112 ad1 cap2 css3 p0):CR 66 #[sv ad1 p0 cap2] w0 (λe w=>∃zad0 zcap0,e=(sv zad0 res zcap0)/\St w0 [bc zad0 res zcap0] w):=by
 obtain ⟨l,s⟩:=hm.init;rw [Rg] at h;refine feW Tryz.func66 22 [dx ad1 p0 cap2] s λa w f s=>?_;refine qnB [] f λa f=>?_;refine qnB [(3,ah)] f λa f=>?_;refine C1 (λa w=>∃(a5:bp) (a8 aB:_),Fr 22 [] [mM a8 a5 aB] a/\St w0 [bc a8 a5 aB,fz w0 μ] w/\Rq a5=some res) ?_ ?_
 ·refine qnB [(6,sv ad1 p0 cap2),(7,au p0),(8,iv 0)] f λa f=>?_;replace s:=s.nilarr 3 1 fI;refine A0<|C2 (λn_ a w=>∃(a1:bp) (a0:Int) (a2 a3:_),Fr 22 [] [mM a2 a1 a3,(6,sv ad1 p0 cap2),(7,au p0),(8,iv a0)] a/\St w0 [bc a2 a1 a3,fz w0 μ] w/\Kw p0 n_ a1 a0=some res) F ⟨[],0,none,0,f.sb,s.pk [0,1],h⟩ ?_;rintro nk2 a w ⟨a1,a0,a2,a3,f,s,h⟩;rcases nk2 with _|nk2
  ·exact nS h
  obtain ⟨k2,hk2,h⟩:∃k2,k2=Kw p0 nk2/\Kv p0 k2 a1 a0=some res:=⟨_,rfl,h⟩
  rw [Kv] at h;refine qnB [(9,bm a0 p0)] f λa f=>?_;refine Ak<|Ab f h (λc h=>?_) λc h=>?_
  ·refine wK<|C1 (λa w=>∃(a4:bp) (a6 a9:_),Fr 22 [] [mM a6 a4 a9,(6,sv ad1 p0 cap2),(7,au p0),(8,iv a0)] a/\St w0 [bc a6 a4 a9,fz w0 μ] w/\Pi a0 k2 a4=some res) ?_ ?_
   ·obtain ⟨aF,aL,h⟩:=A7 h;obtain ⟨aN,aE,aJ⟩:=An hA4.2 aL;obtain ⟨aH,aI,rfl,aO⟩:=aJ;refine A0<|esr<|qo 5 5 [(4,iv a0),gm aH aF aI] f (oI 107 (hA4.at (s.fz l 1)) aE<|oE 112 0 (Ba 1) (hA4.a1 (s.fA l 1)) aE rfl<|A4) λa f=>wf ?_;refine qnB [(15,.bool (je aF))] f λa f=>?_;refine Ab f h (λc h=>?_) λc h=>?_
    ·refine A3<|qn 2 2 [ee a2 a1 a3,cx a0] f λa f=>?_;refine SK.wi (qL 3 54 1 [a0] (λaD=>[(18,sb aD 1)]) D8 f s λaD w a f s=>?_);obtain ⟨aC,aK,h⟩:=A7 h;refine SK.wi (qP 54 54 1 (λa7 aA=>[(19,sv a7 aC aA)]) f s (s.arr (i:=0) rfl) aK rfl λa7 aA w a f s=>?_);refine qn 1 5 [mM a7 aC aA,dp 3] f λa f=>Al rfl (A8<|A5<|?_);exact ⟨aC,a7,aA,f.sb,s.pk [1,2],h⟩
    ·refine Am (A8<|A5<|?_);exact ⟨a1,a2,a3,f.sb,s.pk [0,1],h⟩
   rintro a w ⟨a4,a6,a9,f,s,h⟩;rw [Pi] at h;obtain ⟨aG,aM,h⟩:=A7 h;refine A3<|qo 2 2 [(8,iv aG),dp 8] f (oA 3 aM<|A4) λa f=>wf ?_;rw [hk2] at h;exact ⟨nk2,A9 _,a4,aG,a6,a9,f.sb,s.pk [0,1],h⟩
  ·refine Ai (Aa<|Aa<|As<|A5 ?_);exact ⟨a1,a2,a3,f.sb,s.pk [0,1],h⟩
 rintro a w ⟨a5,a8,aB,f,s,h⟩;rw [Rq] at h;refine rnB [ev a8 a5 aB] f λa f=>?_;refine A6 (Di 2 f rfl ?_);cases h;exact ⟨_,rfl,_,_,rfl,s.pk [0]⟩
theorem Uf (F:Nat) (p0:zE) (c0_:ed) (c1_:(List zE)) (res:(ed×(List zE))) (h:Fa F p0 c0_ c1_=some res) (μ:Frz) (w0 w1:World) (T_:List Res) (g:Ar w0 μ) {cb1 m1 cb2 ad2 cap3} (s:St w0 (fz w0 μ::mc cb1 m1::ic m1 c0_::blk cb2 155 #[sv ad2 c1_ cap3]::gq ad2 c1_ cap3::T_) w1):CR 65 #[nk p0,pb cb1,pb cb2] w1 (λe w=>∃(ν_:Frz) (ad9 a0:_),μ.ext w0.heap.size ν_/\Ar w0 ν_/\e=mi/\St w0 (fz w0 ν_::mc cb1 m1::S9 (fA zE.cells) Value.bool m1 res.1::blk cb2 155 #[sv ad9 res.2 a0]::arrT 157 2 zE.cells ad9 res.2.length a0 res.2::T_) w):=by
 rw [Fa] at h;have x:=Frz.ext_refl w0.heap.size μ;refine feW Tryz.func65 14 [(0,nk p0),fq cb1,dl cb2] s λa w f s=>?_;refine esr<|SK.wi (qBa 157 (co p0) (λb4=>[(3,pb b4)]) f s λb4 w a f s=>wf ?_);refine esr<|qo 2 2 [(4,bf m1),(5,nk p0)] f (oU 154 2 0 s.i<|oW 157 0 0 2 s.i<|A4) λa f=>?_;refine SK.wi (A3u (kt:=157) (e:=4) (t:=154) [fq cb1,dl cb2,(3,pb b4),(6,.bool ((lkM c0_ p0).getD false))] 3 p0 false Zj f s rfl kr ⟨kr⟩ kr kr ⟨kr⟩ λa f=>?_);refine rn 1 4 [fq cb1,dl cb2,(3,pb b4),(7,.bool (!((lkM c0_ p0).getD false)))] f λa f=>wf ?_;refine Ab f h (λc h=>?_) λc h=>?_
 ·refine esr<|qo 2 2 [(8,bf m1),(9,nk p0)] f (oU 154 2 0 s.i<|oW 157 0 0 2 s.i<|A4) λa f=>?_;refine SK.wi (A4b (kt:=157) (e:=4) (t:=154) [dl cb2,(3,pb b4)] 3 p0 true Zj f s rfl kr ⟨kr⟩ kr ⟨kr⟩ λw a f s=>wf ?_);refine A3<|ro 2 2 [dl cb2,cl ad2 c1_ cap3,(11,nk p0)] f (oU 155 4 0 s.i<|oW 157 0 0 2 s.i<|A4) λa f=>?_;refine SK.wi (qL 157 155 1 [p0] (λb5=>[(12,sb b5 1)]) zE.cells_len f s λb5 w a f s=>?_);obtain ⟨l6,hl6,h⟩:=A7 h;refine SK.wi (B9h (t:=155) (ty:=155) (bytes:=16) (l:=c1_) (l':=([p0])) (λad7 cap8=>[dl cb2,(13,sv ad7 l6 cap8)]) 6 f s rfl kr ⟨kr⟩ kr (s.arr (i:=0) rfl) (λ_ _=>rfl) hl6 (λ_ _=>⟨kr⟩) λad7 cap8 w a f s=>?_);refine SK.wi (Lk (t:=155) [] 5 0 (sv ad7 l6 cap8) #[sv ad7 l6 cap8] f s rfl kr ⟨kr⟩ kr kr kr kr ⟨kr⟩ λw a f s=>?_);refine Al rfl ?_;refine Ql f rfl ?_;cases h;replace s:=s.d1.d0;exact ⟨_,rfl,μ,ad7,cap8,x,g,rfl,s⟩
 ·refine Am<|Ql f rfl ?_;cases h;replace s:=s.d0;exact ⟨_,rfl,μ,ad2,cap3,x,g,rfl,s⟩
theorem Pf (F:Nat) (p0 p1:(List zA)) (res:Bool) (h:Ce F p0 p1=some res) (μ:Frz) (w0:World) (hm:ek μ w0) {ad1 cap2 ad4 cap5} (hA3:ma μ ad1 cap2 p0) (hA6:ma μ ad4 cap5 p1):CP 68 #[sv ad1 p0 cap2,sv ad4 p1 cap5] w0 (.bool res):=by
 obtain ⟨l,s⟩:=hm.init;rw [Ce] at h;refine feW Tryz.func68 26 [dx ad1 p0 cap2,po ad4 p1 cap5] s λa w f s=>?_;refine qnB [] f λa f=>?_;refine Ak<|qnB [(10,.bool ((ln p0) != (ln p1)))] f λa f=>?_;refine Ab f h (λc h=>?_) λc h=>?_
 ·refine rnB [(4,az)] f λa f=>?_;cases h;exact A6 (Aj<|wrX 4 f s)
 ·refine wK<|C1 (λa w=>Fr 26 [] [] a/\St w0 [fz w0 μ] w/\Em=some res) ?_ ?_
  ·refine qnB [(12,au p0),(13,iv 0)] f λa f=>?_;refine A0<|C2 (λn_ a w=>∃(a2:Int),Fr 26 [] [dx ad1 p0 cap2,po ad4 p1 cap5,(12,au p0),ik a2] a/\St w0 [fz w0 μ] w/\Bq p0 p1 n_ a2=some res) F ⟨0,f.sb,s.pk [0],h⟩ ?_;rintro nk2 a w ⟨a2,f,s,h⟩;rcases nk2 with _|nk2
   ·exact nS h
   obtain ⟨k2,hk2,h⟩:∃k2,k2=Bq p0 p1 nk2/\Bp p0 p1 k2 a2=some res:=⟨_,rfl,h⟩
   rw [Bp] at h;refine qnB [(14,bm a2 p0)] f λa f=>?_;refine Ak<|Ab f h (λc h=>?_) λc h=>?_
   ·refine wK<|Ak<|A0<|qnB [(5,iv a2)] f λa f=>?_;obtain ⟨a0,a3,a1,a4,h⟩:=C9 h;refine Ak<|qDs 9 [(24,.bool (!((a0.Lo==a1.Lo)&&((a0.Hi==a1.Hi)&&true))))] f s (oI 112 (hA3 _ (s.fz l 0)) a3<|oG 63 0 2 zA.cells_len (λ_ d=>(hA3 _ (s.fd d l 0))) a3<|oI 112 (hA6 _ (s.fz l 0)) a4<|oG 63 0 2 zA.cells_len (λ_ d=>(hA6 _ (s.fd d l 0))) a4<|oX (.run [] (eqS .neq 63 (cu a0) (cu a1)) (.bool (!((a0.Lo==a1.Lo)&&((a0.Hi==a1.Hi)&&true))))) (B6a kr kr)<|A4) λa w f s=>?_;refine wf<|Ab f h (λc h=>?_) λc h=>?_
    ·refine rnB [(4,az)] f λa f=>?_;cases h;exact A6 (Ax<|Aj<|Aj<|Ax<|Aj<|wrX 4 f s)
    ·refine Am (A8<|A5<|?_);obtain ⟨a5,a6,h⟩:=A7 h;refine A3<|qo 2 2 [ik a5,dp 13] f (oA 3 a6<|A4) λa f=>wf ?_;rw [hk2] at h;exact ⟨nk2,A9 _,a5,f.sb,s.pk [0],h⟩
   ·refine Ai (Aa<|Aa<|As<|A5 ?_);exact ⟨f.sb,s.pk [0],h⟩
  rintro a w ⟨f,s,h⟩;rw [Em] at h;refine rnB [(4,bi)] f λa f=>?_;cases h;exact A6 (wrX 4 f s)
theorem Tr (F:Nat) (p0:zU) (res:ByteArray) (h:Kq F p0=some res) (μ:Frz) (w0:World) (hm:ek μ w0) {ad1 cap2 ad3 cap4 ad5 cap6} (hA7:ArrM μ 1 (fK .i16) ad1 cap2 p0.Air.Speeds) (hA8:ArrM μ 1 (fK .u16) ad3 cap4 p0.Air.Slips) (hA9:ArrM μ 1 (fK .u8) ad5 cap6 p0.Air.Loud):CP 5 #[.agg (p0.ax ad1 cap2 ad3 cap4 ad5 cap6)] w0 (ak res):=by
 obtain ⟨g,l⟩:=hm.init;rw [Kq] at h;refine feW Tryz.func5 55 [(0,.agg (p0.ax ad1 cap2 ad3 cap4 ad5 cap6))] l λa w f l=>?_;refine esr<|SK.wi (qBa 30 (p0.ax ad1 cap2 ad3 cap4 ad5 cap6) (λa5=>(mR a5)) f l λa5 w a f l=>?_);refine qn 1 2 [] f λa f=>wf ?_;obtain ⟨b8,aV,b9,aW,bG,b3,h⟩:=Cg h;obtain ⟨aD,aK,a0,aL,bA,aX,h⟩:=Cg h;obtain ⟨bB,aY,bH,b4,aE,aM,h⟩:=Cg h;obtain ⟨a1,aN,bC,aZ,bD,b0,h⟩:=Cg h;obtain ⟨bI,b5,aF,aO,aG,aP,h⟩:=Cg h;obtain ⟨bE,b1,bF,b2,bJ,b6,h⟩:=Cg h;obtain ⟨aH,aQ,a2,aR,h⟩:=C9 h;refine Ak<|qDs 28 [(12,ak a0),(19,ak a1),(33,ak a2)] f l (oU 24 0 13 l.e<|oX (.run [] (convert 24 3 (.int .u16 p0.Weak)) (iv b8)) (Gy kr kr (λ_=>aV))<|oR 3 aW<|oK (S1 F b9 _ b3)<|oX (.run [] (binOp .add 9 (.string (⟨#[119,101,97,107,58,32,112,111,119,101,114,32,60,32]⟩:ByteArray)) (ak bG)) (ak aD)) (Kj (λ_=>aK))<|oX (mL aD a0) (Kj (λ_=>aL))<|oU 24 0 13 l.e<|oX (.run [] (convert 24 3 (.int .u16 p0.Weak)) (iv bA)) (Gy kr kr (λ_=>aX))<|oM 3 aY<|oK (S1 F bB _ b4)<|oX (.run [] (binOp .add 9 (.string (⟨#[111,100,100,58,32,107,105,110,100,32,61,32,50,32,111,114,32,115,112,114,101,97,100,32,62,32]⟩:ByteArray)) (ak bH)) (ak aE)) (Kj (λ_=>aM))<|oX (mL aE a1) (Kj (λ_=>aN))<|oU 5 0 14 l.e<|oX (mG p0 bC) (Gy kr kr (λ_=>aZ))<|oR 3 b0<|oK (S1 F bD _ b5)<|oX (.run [] (binOp .add 9 (.string (⟨#[102,97,114,58,32,103,97,116,101,32,62,32]⟩:ByteArray)) (ak bI)) (ak aF)) (Kj (λ_=>aO))<|oX (.run [] (binOp .add 9 (ak aF) (.string (⟨#[32,97,110,100,32,114,97,121,32,61,32]⟩:ByteArray))) (ak aG)) (Kj (λ_=>aP))<|oU 5 0 14 l.e<|oX (mG p0 bE) (Gy kr kr (λ_=>b1))<|oR 3 b2<|oK (S1 F bF _ b6)<|oX (jd aG bJ aH) (Kj (λ_=>aQ))<|oX (mL aH a2) (Kj (λ_=>aR))<|A4) λa w f l=>?_;refine SK.wi (qL 9 83 4 (ai a0 a1 a2) (λa4=>[(34,sb a4 4)]) A1a f l λa4 w a f l=>?_);refine qn 1 30 [(3,sb a4 4)] f λa f=>wf ?_;refine qnB [(4,pg)] f λa f=>?_;refine C1 (λa w=>∃(a8:ByteArray),Fr 55 [] [(4,ak a8)] a/\St w0 [n5 a4 a0 a1 a2,blk a5 30 (p0.ax ad1 cap2 ad3 cap4 ad5 cap6),fz w0 μ] w/\Mk a8=some res) ?_ ?_
 ·refine qnB [(5,iv 0)] f λa f=>?_;refine A0<|C2 (λn_ a w=>∃(a6:ByteArray) (a3:Int),Fr 55 [] [(1,pb a5),(3,sb a4 4),(4,ak a6),(5,iv a3)] a/\St w0 [n5 a4 a0 a1 a2,blk a5 30 (p0.ax ad1 cap2 ad3 cap4 ad5 cap6),fz w0 μ] w/\Dx p0 a0 a1 a2 n_ a6 a3=some res) F ⟨(⟨#[]⟩:ByteArray),0,f.sb,l.pk [0,1,2],h⟩ ?_;rintro nk2 a w ⟨a6,a3,f,l,h⟩;rcases nk2 with _|nk2
  ·exact nS h
  obtain ⟨k2,hk2,h⟩:∃k2,k2=Dx p0 a0 a1 a2 nk2/\F2 p0 a0 a1 a2 k2 a6 a3=some res:=⟨_,rfl,h⟩
  rw [F2] at h;refine Ak<|qnB [(38,.bool (decide (a3<((4:Nat):Int))))] f λa f=>?_;refine Ab f h (λc h=>?_) λc h=>?_
  ·refine wK<|C1 (λa w=>∃(a7:ByteArray),Fr 55 [] [(1,pb a5),(3,sb a4 4),(4,ak a7),(5,iv a3)] a/\St w0 [n5 a4 a0 a1 a2,blk a5 30 (p0.ax ad1 cap2 ad3 cap4 ad5 cap6),fz w0 μ] w/\Kg a3 k2 a7=some res) ?_ ?_
   ·obtain ⟨aA,aT,h⟩:=A7 h;refine A0<|esr<|qo 4 4 [ml aA,mX a3] f (oU 5 1 12 l.i<|oX (.run [] (convert 5 3 (.int .u8 p0.Rules)) (iv aA)) (Gy kr kr (λ_=>aT))<|A4) λa f=>?_;obtain ⟨aB,aU,h⟩:=A7 h;refine SK.wi (obK (T:=Ext) (s:=(binOp .shr 3 (iv aA) (iv a3))) (v:=iv aB) [(1,pb a5),(3,sb a4 4),(4,ak a6),(5,iv a3),(45,iv aB)] f kr ⟨kr⟩ (B88 (λ_=>aU)) ⟨kr⟩ λa f=>?_);refine rn 2 7 [(1,pb a5),(3,sb a4 4),(4,ak a6),(5,iv a3),(47,.bool ((A5y .i64 aB 1)==1))] f λa f=>wf ?_;refine Ab f h (λc h=>?_) λc h=>?_
    ·obtain ⟨b7,aC,a9,aJ,h⟩:=C9 h;refine A3<|qo 7 7 [(4,ak a9),dp 4] f (oI 83 (l.arr (i:=0) rfl) aC<|oE 9 0 A1a (λ_ d=>((l.at_ d).arr (i:=0) rfl)) aC rfl<|oX (jd a6 b7 a9) (Kj (λ_=>aJ))<|A4) λa f=>Al rfl (A8<|A5<|?_);exact ⟨a9,f.sb,l.pk [0,1,2],h⟩
    ·refine Am (A8<|A5<|?_);exact ⟨a6,f.sb,l.pk [0,1,2],h⟩
   rintro a w ⟨a7,f,l,h⟩;rw [Kg] at h;obtain ⟨aI,aS,h⟩:=A7 h;refine A3<|qo 3 3 [(5,iv aI),dp 5] f (oA 3 aS<|A4) λa f=>wf ?_;rw [hk2] at h;exact ⟨nk2,A9 _,a7,aI,f.sb,l.pk [0,1,2],h⟩
  ·refine Ai (Aa<|Aa<|As<|A5 ?_);exact ⟨a6,f.sb,l.pk [0,1,2],h⟩
 rintro a w ⟨a8,f,l,h⟩;rw [Mk] at h;refine rnB [(2,ak a8)] f λa f=>?_;cases h;exact A6 (wrX 2 f l)
theorem Pc (F:Nat) (p0:zH) (res:Int) (h:F6 F p0=some res) (μ:Frz) (w0:World) (hm:ek μ w0):CP 25 #[p0.ag] w0 (iv res):=by
 obtain ⟨l,s⟩:=hm.init;rw [F6] at h;refine feW Tryz.func25 57 [(0,p0.ag)] s λa w f s=>?_;refine esr<|SK.wi (qBa 49 p0.ar (λb1=>(mR b1)) f s λb1 w a f s=>?_);refine qn 1 2 [] f λa f=>wf ?_;refine qnB [(4,bi)] f λa f=>?_;refine C1 (λa w=>∃(x3:Int) (c4:Bool),Fr 57 [] [(1,pb b1),(3,iv x3),(4,.bool c4)] a/\St w0 [blk b1 49 p0.ar,fz w0 μ] w/\Gb p0 x3 c4=some res) ?_ ?_
 ·refine qoB [(6,iv p0.Kind)] f (oU 3 0 1 s.i<|A4) λa f=>?_;refine A0<|qnB [(7,.bool (p0.Kind==1))] f λa f=>?_;refine Ab f h (λc h=>?_) λc h=>?_
  ·refine qDs 5 [(3,iv 2),(4,.bool (p0.Second==0)),dp 4] f s (oU 3 0 3 s.e<|A4) λa w f s=>?_;refine Al rfl (A8<|A5<|?_);exact ⟨2,p0.Second==0,f.sb,s.pk [0,1],h⟩
  ·refine qnB [(12,.bool (p0.Kind==2))] f λa f=>?_;refine Ab f h (λc h=>?_) λc h=>?_
   ·obtain ⟨x8,hx8,h⟩:=A7 h;refine qD 6 [(3,iv 4),(4,.bool (x8==0)),dp 4] f (oU 3 0 4 s.e<|oR 3 hx8<|A4) λa w f x=>?_;replace s:=s.later x;refine Al rfl (A8<|A5<|?_);exact ⟨4,x8==0,f.sb,s.pk [0,1],h⟩
   ·refine qnB [(18,.bool (p0.Kind==3))] f λa f=>?_;refine Ab f h (λc h=>?_) λc h=>?_
    ·refine A3<|qn 1 1 [(3,iv 3)] f λa f=>Al rfl (A8<|A5<|?_);exact ⟨3,true,f.sb,s.pk [0,1],h⟩
    ·refine rnB [(2,iv 2)] f λa f=>?_;cases h;exact A6 (Ax<|Aj<|wrX 2 f s)
 rintro a w ⟨x3,c4,f,s,h⟩;rw [Gb] at h;refine C1 (λa w=>∃(c5:Bool),Fr 57 [] [(1,pb b1),(3,iv x3),(4,.bool c5)] a/\St w0 [blk b1 49 p0.ar,fz w0 μ] w/\Jb p0 x3 c5=some res) ?_ ?_
 ·refine qoB [(22,.bool (p0.Kind != 1))] f (oU 3 0 1 s.i<|A4) λa f=>?_;refine Ab f h (λc h=>?_) λc h=>?_
  ·refine A3<|qxs 14 14 [(4,.bool (bif (bif c4 then (Ag p0.Second 200 5000) else false) then (decide (p0.First<p0.Second)) else false)),dp 4] f s (oGs [⟨24,true,c4⟩] (oU 3 0 3 s.e<|oK (C5 p0.Second 200 5000 _ rfl)<|A4)<|oGs [⟨29,true,(bif c4 then (Ag p0.Second 200 5000) else false)⟩] (oU 3 0 2 s.e<|oU 3 0 3 s.e<|A4)<|A4) λa w f s=>?_;exact wf<|⟨bif (bif c4 then (Ag p0.Second 200 5000) else false) then (decide (p0.First<p0.Second)) else false,f.sb,s.pk [0,1],h⟩
  ·exact wK<|⟨c4,f.sb,s.pk [0,1],h⟩
 rintro a w ⟨c5,f,s,h⟩;rw [Jb] at h;refine Ak<|esr<|rXs 21 21 [(56,.bool (bif (bif (bif (!c5) then true else (!(Ag p0.Lambda 10000 1000000))) then true else (!(Ag p0.First 200 5000))) then true else (!(Ag p0.Count x3 64))))] f s (oGs [⟨38,false,(!c5)⟩] (oU 3 0 0 s.e<|oK (C5 p0.Lambda 10000 1000000 _ rfl)<|A4)<|oGs [⟨44,false,(bif (!c5) then true else (!(Ag p0.Lambda 10000 1000000)))⟩] (oU 3 0 2 s.e<|oK (C5 p0.First 200 5000 _ rfl)<|A4)<|oGs [⟨50,false,(bif (bif (!c5) then true else (!(Ag p0.Lambda 10000 1000000))) then true else (!(Ag p0.First 200 5000)))⟩] (oU 3 0 4 s.e<|oK (C5 p0.Count x3 64 _ rfl)<|A4)<|A4) λa w f s=>?_;refine wf<|Ab f h (λc h=>?_) λc h=>?_
 ·refine rnB [(2,iv 3)] f λa f=>?_;cases h;exact A6 (Aj<|wrX 2 f s)
 ·refine wK<|rnB [(2,iv 0)] f λa f=>?_;cases h;exact A6 (wrX 2 f s)
theorem Rz (F:Nat) (p0:zH) (p1 p2 p3 p4:Int) (p5:bp) (p6:Int) (res:(List zQ)) (h:Ve F p0 p1 p2 p3 p4 p5 p6=some res) (μ:Frz) (w0:World) (hm:ek μ w0) {ad1 cap2} (hA3:ArrM μ 1 (fK .u16) ad1 cap2 p5):CR 20 #[p0.ag,iv p1,iv p2,iv p3,iv p4,sv ad1 p5 cap2,iv p6] w0 (λe w=>∃zad0 zcap0,e=(sv zad0 res zcap0)/\St w0 [oq zad0 res zcap0] w):=by
 obtain ⟨l,s⟩:=hm.init;rw [Ve] at h;refine feW Tryz.func20 100 [(0,p0.ag),(1,iv p1),(2,iv p2),(3,iv p3),(4,iv p4),gm ad1 p5 cap2,(6,iv p6)] s λa w f s=>?_;refine esr<|SK.wi (qBa 49 p0.ar (λb4=>(nM b4)) f s λb4 w a f s=>?_);refine qn 1 2 [] f λa f=>wf ?_;refine qnB [(15,ah)] f λa f=>?_;refine qnB [(16,iv 0)] f λa f=>?_;refine C1 (λa w=>∃(a4:(List zQ)) (aB aD:_),Fr 100 [] [fj aB a4 aD] a/\St w0 [oq aB a4 aD,blk b4 49 p0.ar,fz w0 μ] w/\Ry a4=some res) ?_ ?_
 ·refine qnB [(17,iv 0)] f λa f=>?_;replace s:=s.nilarr 127 4 zQ.cells;refine A0<|C2 (λn_ a w=>∃(a1:(List zQ)) (a6 a0:Int) (a2 a3:_),Fr 100 [] [(1,iv p1),(2,iv p2),(3,iv p3),(4,iv p4),gm ad1 p5 cap2,(6,iv p6),(7,pb b4),fj a2 a1 a3,oa a6,cx a0] a/\St w0 [oq a2 a1 a3,blk b4 49 p0.ar,fz w0 μ] w/\Jo F p0 p1 p2 p3 p4 p5 p6 n_ a1 a6 a0=some res) F ⟨[],0,0,none,0,f.sb,s.pk [0,1,2],h⟩ ?_;rintro nk2 a w ⟨a1,a6,a0,a2,a3,f,s,h⟩;rcases nk2 with _|nk2
  ·exact nS h
  obtain ⟨k2,hk2,h⟩:∃k2,k2=Jo F p0 p1 p2 p3 p4 p5 p6 nk2/\Ll F p0 p1 p2 p3 p4 p5 p6 k2 a1 a6 a0=some res:=⟨_,rfl,h⟩
  rw [Ll] at h;refine Ak<|qoB [(23,.bool (decide (a0<p0.Count)))] f (oU 3 1 4 s.i<|A4) λa f=>?_;refine Ab f h (λc h=>?_) λc h=>?_
  ·refine wK<|C1 (λa w=>∃(a5:(List zQ)) (aG:Int) (aC aE:_),Fr 100 [] [(1,iv p1),(2,iv p2),(3,iv p3),(4,iv p4),gm ad1 p5 cap2,(6,iv p6),(7,pb b4),fj aC a5 aE,oa aG,cx a0] a/\St w0 [oq aC a5 aE,blk b4 49 p0.ar,fz w0 μ] w/\Pv a0 k2 a5 aG=some res) ?_ ?_
   ·obtain ⟨bI,aS,bF,aT,bJ,aU,h⟩:=Cg h;obtain ⟨bG,aV,aP,bD,h⟩:=C9 h;refine A0<|esr<|qxs 11 11 [ly aP] f s (oM 3 aS<|oM 3 aT<|oM 3 aU<|oU 3 1 0 s.e<|oM 3 aV<|oK (A23 F bF bG _ bD)<|A4) λa w f s=>?_;refine wf<|C1 (λa w=>∃(aH:Int),Fr 100 [] [(1,iv p1),(2,iv p2),(3,iv p3),(4,iv p4),gm ad1 p5 cap2,(6,iv p6),(7,pb b4),fj a2 a1 a3,oa a6,cx a0,ly aH] a/\St w0 [oq a2 a1 a3,blk b4 49 p0.ar,fz w0 μ] w/\N0 p0 p3 a1 a6 a0 k2 aH=some res) ?_ ?_
    ·refine qnB [(38,.bool (je p5))] f λa f=>?_;refine Ab f h (λc h=>?_) λc h=>?_
     ·obtain ⟨bM,b3,bN,b5,bE,aK,h⟩:=Cg h;obtain ⟨bH,b6,bO,b7,bP,b8,h⟩:=Cg h;obtain ⟨bQ,b9,bR,bA,bS,bB,h⟩:=Cg h;obtain ⟨aO,bC,h⟩:=A7 h;refine A3<|qo 20 20 [ly aO,dp 18] f (oA 3 b3<|oR 3 b5<|oI 25 (hA3 _ (s.fz l 2)) aK<|oE 24 0 (Ut .u16) (λ_ d=>(hA3 _ (s.fa d l 2))) aK rfl<|oX (.run [] (convert 24 3 (.int .u16 bE)) (iv bH)) (Gy kr kr (λ_=>b6))<|oM 3 b7<|oS 3 b8<|oR 3 b9<|oS 3 bA<|oS 3 bB<|oA 3 bC<|A4) λa f=>wf ?_;exact ⟨aO,f.sb,s.pk [0,1,2],h⟩
     ·exact wK<|⟨aP,f.sb,s.pk [0,1,2],h⟩
    rintro a w ⟨aH,f,s,h⟩;rw [N0] at h;obtain ⟨bK,aW,bL,aX,a9,aY,h⟩:=Cg h;refine esr<|qo 5 5 [ly a9,dp 18] f (oR 3 aW<|oA 3 aX<|oR 3 aY<|A4) λa f=>wf ?_;refine esr<|qn 6 6 [(62,sv a2 a1 a3),(67,.agg #[iv p3,iv a9,iv p3,iv a9]),dp 18] f λa f=>?_;refine SK.wi (qL 127 89 1 [(zQ.mk p3 a9 p3 a9)] (λaJ=>[(68,sb aJ 1)]) zQ.cells_len f s λaJ w a f s=>?_);obtain ⟨aF,aQ,h⟩:=A7 h;refine SK.wi (qP 89 89 1 (λa7 a8=>[(69,sv a7 aF a8)]) f s (s.arr (i:=0) rfl) aQ rfl λa7 a8 w a f s=>?_);refine qn 1 9 [fj a7 aF a8,dp 15] f λa f=>wf ?_;obtain ⟨aA,aZ,aI,b0,h⟩:=C9 h;refine esr<|qo 21 21 [(19,.bool (bif (bif (p0.Kind==2) then (decide (a0>=aA)) else false) then true else (bif (p0.Kind==3) then (aI==1) else false)))] f (oU 3 2 1 s.i<|oGs [⟨73,true,(p0.Kind==2)⟩] (oU 3 2 4 s.i<|A4)<|oX (.run [⟨73,true,(p0.Kind==2)⟩] (binOp .quo 3 (iv p0.Count) (iv 2)) (iv aA)) (B2b (λhk=>C8 aZ hk))<|oGs [⟨80,false,(bif (p0.Kind==2) then (decide (a0>=aA)) else false)⟩] (oU 3 2 1 s.i<|A4)<|oX (.run [⟨84,true,(p0.Kind==3)⟩,⟨80,false,(bif (p0.Kind==2) then (decide (a0>=aA)) else false)⟩] (binOp .rem 3 (iv a0) (iv 2)) (iv aI)) (B2c (λhk=>C8 b0 hk))<|A4) λa f=>wf ?_;refine qnB [(90,.bool (bif (bif (p0.Kind==2) then (decide (a0>=aA)) else false) then true else (bif (p0.Kind==3) then (aI==1) else false)))] f λa f=>?_;refine Ab f h (λc h=>?_) λc h=>?_
    ·obtain ⟨aM,b1,h⟩:=A7 h;refine A3<|qo 5 5 [oa aM,dp 16] f (oU 3 2 3 s.i<|oA 3 b1<|A4) λa f=>Al rfl (A8<|A5<|?_);exact ⟨aF,aM,a7,a8,f.sb,s.pk [1,2,3],h⟩
    ·obtain ⟨aN,b2,h⟩:=A7 h;refine A3<|qo 5 5 [oa aN,dp 16] f (oU 3 2 2 s.i<|oA 3 b2<|A4) λa f=>Al rfl (A8<|A5<|?_);exact ⟨aF,aN,a7,a8,f.sb,s.pk [1,2,3],h⟩
   rintro a w ⟨a5,aG,aC,aE,f,s,h⟩;rw [Pv] at h;obtain ⟨aL,aR,h⟩:=A7 h;refine A3<|qo 3 3 [cx aL,dp 17] f (oA 3 aR<|A4) λa f=>wf ?_;rw [hk2] at h;exact ⟨nk2,A9 _,a5,aG,aL,aC,aE,f.sb,s.pk [0,1,2],h⟩
  ·refine Ai (Aa<|Aa<|As<|A5 ?_);exact ⟨a1,a2,a3,f.sb,s.pk [0,1,2],h⟩
 rintro a w ⟨a4,aB,aD,f,s,h⟩;rw [Ry] at h;refine rnB [nK aB a4 aD] f λa f=>?_;refine A6 (Di 14 f rfl ?_);cases h;exact ⟨_,rfl,_,_,rfl,s.pk [0]⟩
theorem N4 (F:Nat) (p0 res:(List zA)) (h:Du F p0=some res) (μ:Frz) (w0:World) (hm:ek μ w0) {ad1 cap2} (hA3:ma μ ad1 cap2 p0):CR 29 #[sv ad1 p0 cap2] w0 (λe w=>∃zad0 zcap0,e=(sv zad0 res zcap0)/\St w0 [bn zad0 res zcap0] w):=by
 obtain ⟨g,l⟩:=hm.init;rw [Du] at h;refine feW Tryz.func29 53 [dx ad1 p0 cap2] l λa w s l=>?_;refine qnB [] s λa s=>?_;refine esr<|rn 1 1 [ir ad1 p0 cap2] s λa s=>?_;obtain ⟨y5,hy5,h⟩:=A7 h;refine SK.wi (rR (λv4=>[(9,v4)]) s (Pd F _ _ hy5 (C3 w) w (At w) (hA3.mono (l.fm g 0))) ?_);rintro v4 w a ⟨ad6,cap7,rfl,hQ⟩ s;replace l:=l.madeL hQ;refine rn 1 3 [mM ad6 y5 cap7] s λa s=>wf ?_;refine esr<|qn 1 1 [cl ad6 y5 cap7] s λa s=>?_;obtain ⟨y9,hy9,h⟩:=A7 h;refine SK.wi (B0f (f:=62) (args:=#[sv ad6 y5 cap7,fv 63 #[]]) (R:=λv w2=>v=.tuple #[]/\y5.length=y9.length/\St w0 [bn ad6 y9 cap7,fz w0 μ] w2) (λv8=>[mM ad6 y5 cap7]) s kr ⟨kr⟩ (Calls.mono (Vr F _ _ hy9 l (i:=0) rfl) (λe w2 h=>⟨_,h.1,rfl,h.2.1,h.2.2⟩)) (λ_=>⟨kr⟩) ?_);rintro v8 w a ⟨rfl,hl,l⟩ s;simp only [dx,ir,mM,cl,sv,ln,hl] at s l;refine wf<|rnB [mM ad6 y9 cap7,(4,ah)] s λa s=>?_;refine C1 (λa w=>∃(a5:(List zA)) (a9 aC:_),Fr 53 [] [oH a9 a5 aC] a/\St w0 [bn a9 a5 aC,bn ad6 y9 cap7,fz w0 μ] w/\N3 a5=some res) ?_ ?_
 ·refine qnB [mh ad6 y9 cap7,(13,au y9),(14,iv 0)] s λa s=>?_;replace l:=l.nilarr 63 2 zA.cells;refine A0<|C2 (λn_ a w=>∃(a4:Int) (a0:(List zA)) (a2 a3:_),Fr 53 [] [oH a2 a0 a3,mh ad6 y9 cap7,(13,au y9),nU a4] a/\St w0 [bn a2 a0 a3,bn ad6 y9 cap7,fz w0 μ] w/\Ca y9 n_ a4 a0=some res) F ⟨0,[],none,0,s.sb,l.pk [0,1,2],h⟩ ?_;rintro nk2 a w ⟨a4,a0,a2,a3,s,l,h⟩;rcases nk2 with _|nk2
  ·exact nS h
  obtain ⟨k2,hk2,h⟩:∃k2,k2=Ca y9 nk2/\Co y9 k2 a4 a0=some res:=⟨_,rfl,h⟩
  rw [Co] at h;refine qnB [(15,bm a4 y9)] s λa s=>?_;refine Ak<|Ab s h (λc h=>?_) λc h=>?_
  ·refine wK<|C1 (λa w=>∃(a6:(List zA)) (aA aD:_),Fr 53 [] [oH aA a6 aD,mh ad6 y9 cap7,(13,au y9),nU a4] a/\St w0 [bn aA a6 aD,bn ad6 y9 cap7,fz w0 μ] w/\Es a4 k2 a6=some res) ?_ ?_
   ·obtain ⟨a1,aI,h⟩:=A7 h;refine A0<|esr<|qo 2 2 [(17,me a1)] s (oI 112 (l.arr (i:=1) rfl) aI<|oG 63 0 2 zA.cells_len (λ_ d=>((l.at_ d).arr (i:=1) rfl)) aI<|A4) λa s=>?_;refine SK.wi (qA 63 dd (λaG=>(mQ aG)) s l λaG w a s l=>?_);refine SK.wi (qw 63 0 (cu a1) s l rfl λw a s l=>wf ?_);refine qnB [(7,au a0)] s λa s=>?_;obtain ⟨a8,aT,aM,aJ,h⟩:=C9 h;refine Ak<|qDs 13 [(32,.bool (bif (je a0) then (decide (a1.Lo<=aM.Hi)) else false))] s l (oGs [⟨22,true,je a0⟩] (oU 3 0 0 l.e<|A4)<|oX (.run [⟨22,true,je a0⟩] (binOp .sub 3 (au a0) (iv 1)) (iv a8)) (Zn (λhk=>C8 aT hk))<|oX (.run [⟨22,true,je a0⟩] (Instr.indexAt 112 (sv a2 a0 a3) (iv a8)) (.pointer (some (Ck a2 a8 2)))) (Wa (l.arr (i:=1) rfl) kr (λhk=>C8 aJ hk))<|oX (.run [⟨22,true,je a0⟩] (Instr.loadAt 3 (.pointer (some ((Ck a2 a8 2).add 1)))) (iv aM.Hi)) (A07 (i:=a8) 1 zA.cells_len (λ_ d=>((l.later d).arr (i:=1) rfl)) kr (λhk=>C8 aJ hk) rfl)<|A4) λa w s l=>?_;refine wf<|Ab s h (λc h=>?_) λc h=>?_
    ·obtain ⟨aP,aU,aX,aV,a7,aK,h⟩:=Cg h;obtain ⟨aN,aL,h⟩:=A7 h;refine qDs 14 [(44,iv (if a1.Hi>a7.Hi then a1.Hi else a7.Hi)),(46,.pointer (some ((Ck a2 aP 2).add 1)))] s l (oS 3 aU<|oS 3 aV<|oI 112 (l.arr (i:=1) rfl) aK<|oE 3 1 zA.cells_len (λ_ d=>((l.later d).arr (i:=1) rfl)) aK rfl<|oU 3 0 1 l.e<|oI 112 (l.arr (i:=1) rfl) aL<|A4) λa w s l=>?_;obtain ⟨aW,aQ,h⟩:=A7 h;refine SK.wi (A6v (j:=aP) (t:=3) [oH a2 a0 a3,mh ad6 y9 cap7,(13,au y9),nU a4] 1 1 aN (zA.mk aN.Lo (if a1.Hi>a7.Hi then a1.Hi else a7.Hi)) (iv (if a1.Hi>a7.Hi then a1.Hi else a7.Hi)) s l rfl kr ⟨kr⟩ zA.cells_len aL rfl kr kr kr aQ ⟨kr⟩ λw a s hl l=>?_);simp only [oH,mh,au,sv,ln,hl] at s l;refine Al rfl (A8<|A5<|?_);exact ⟨aW,a2,a3,s.sb,l.pk [1,2,3],h⟩
    ·refine A3<|qo 2 2 [(47,sv a2 a0 a3),(48,me a1)] s (oW 63 0 0 2 l.i<|A4) λa s=>?_;refine SK.wi (qL 63 112 1 [a1] (λaH=>[(49,sb aH 1)]) zA.cells_len s l λaH w a s l=>?_);obtain ⟨aF,aR,h⟩:=A7 h;refine SK.wi (qP 112 112 2 (λaB aE=>[(50,sv aB aF aE)]) s l (l.arr (i:=0) rfl) aR rfl λaB aE w a s l=>?_);refine qn 1 5 [oH aB aF aE,dp 4] s λa s=>Al rfl (A8<|A5<|?_);exact ⟨aF,aB,aE,s.sb,l.pk [2,3,4],h⟩
   rintro a w ⟨a6,aA,aD,s,l,h⟩;rw [Es] at h;obtain ⟨aO,aS,h⟩:=A7 h;refine A3<|qo 2 2 [nU aO,dp 14] s (oA 3 aS<|A4) λa s=>wf ?_;rw [hk2] at h;exact ⟨nk2,A9 _,aO,a6,aA,aD,s.sb,l.pk [0,1,2],h⟩
  ·refine Ai (Aa<|Aa<|As<|A5 ?_);exact ⟨a0,a2,a3,s.sb,l.pk [0,1,2],h⟩
 rintro a w ⟨a5,a9,aC,s,l,h⟩;rw [N3] at h;refine rnB [ev a9 a5 aC] s λa s=>?_;refine A6 (Di 2 s rfl ?_);cases h;exact ⟨_,rfl,_,_,rfl,l.pk [0]⟩
theorem A21:∀(F:Nat) (p0:zC) (res:Bool) (h:sift_stated F p0=some res) (μ:Frz) (w0:World) (hm:ek μ w0) {ad1 cap2 css3} (hA4:fh μ ad1 cap2 css3 p0),CP 44 #[.agg (p0.ax ad1 cap2)] w0 (.bool res):=by
 intro F
 induction F with
 | zero =>
  intro p0 res h
  exact nS h
 | succ F ih =>
  intro p0 res h μ w0 hm ad1 cap2 css3 hA4;obtain ⟨g,l⟩:=hm.init;replace h:H3 F (sift_stated F) p0=some res:=h;obtain ⟨self_,hself⟩:∃s,s=sift_stated F:=⟨_,rfl⟩;rw [←hself,H3] at h;refine feW Tryz.func44 126 [(0,.agg (p0.ax ad1 cap2))] l λa w f l=>?_;refine esr<|SK.wi (qBa 98 (p0.ax ad1 cap2) (λb5=>(mR b5)) f l λb5 w a f l=>?_);refine qn 1 2 [] f λa f=>wf ?_;refine qnB [(3,iv 0),(4,iv 0),(5,iv 0)] f λa f=>?_;refine qnB [mF] f λa f=>?_;refine Ak<|A0<|qoB [(9,.bool (p0.Op==3))] f (oU 3 0 0 l.i<|A4) λa f=>?_;refine Ab f h (λc h=>?_) λc h=>?_
  ·cases h
  ·refine qoB [(13,.bool (bif (p0.Op==4) then true else (p0.Op==5)))] f (oU 3 0 0 l.i<|oGs [⟨17,false,(p0.Op==4)⟩] (oU 3 0 0 l.i<|A4)<|A4) λa f=>?_;refine Ab f h (λc h=>?_) λc h=>?_
   ·refine A3<|qn 1 1 [(3,iv 2),dp 3] f λa f=>Al rfl (A8<|A5<|?_);refine Ak<|qoB [(97,.bool (bif (bif (bif (o9 p0) then true else (decide ((if p0.Gates<if p0.Rays<p0.Value_ then p0.Rays else p0.Value_ then p0.Gates else if p0.Rays<p0.Value_ then p0.Rays else p0.Value_)<0))) then true else (decide (p0.Value_>0))) then true else (decide ((if p0.Gates>p0.Rays then p0.Gates else p0.Rays)>0)))),dp 3,dp 4,dp 5] f (oU 96 0 4 l.i<|oGs [⟨73,false,o9 p0⟩] (oU 3 0 1 l.i<|oU 3 0 2 l.i<|oU 3 0 3 l.i<|A4)<|oGs [⟨83,false,(bif (o9 p0) then true else (decide ((if p0.Gates<if p0.Rays<p0.Value_ then p0.Rays else p0.Value_ then p0.Gates else if p0.Rays<p0.Value_ then p0.Rays else p0.Value_)<0)))⟩] (oU 3 0 1 l.i<|A4)<|oGs [⟨89,false,(bif (bif (o9 p0) then true else (decide ((if p0.Gates<if p0.Rays<p0.Value_ then p0.Rays else p0.Value_ then p0.Gates else if p0.Rays<p0.Value_ then p0.Rays else p0.Value_)<0))) then true else (decide (p0.Value_>0)))⟩] (oU 3 0 2 l.i<|oU 3 0 3 l.i<|A4)<|A4) λa f=>?_;refine Ab f h (λc h=>?_) λc h=>?_
    ·refine Ak ?_
     cases h
    ·refine wK<|C1 (λa w=>Fr 126 [] (mR b5) a/\St w0 [blk b5 98 (p0.ax ad1 cap2),fz w0 μ] w/\R2 p0=some res) ?_ ?_
     ·refine qoB [km ad1 p0 cap2,dw p0,nX] f (oU 96 0 4 l.i<|A4) λa f=>?_;refine A0<|C2 (λn_ a w=>∃(aE:Int),Fr 126 [] [(1,pb b5),mF,km ad1 p0 cap2,dw p0,nf aE] a/\St w0 [blk b5 98 (p0.ax ad1 cap2),fz w0 μ] w/\Hg self_ p0 n_ aE=some res) F ⟨0,f.sb,l.pk [0,1],h⟩ ?_;rintro nk2 a w ⟨aE,f,l,h⟩;rcases nk2 with _|nk2
      ·exact nS h
      obtain ⟨k2,hk2,h⟩:∃k2,k2=Hg self_ p0 nk2/\G3 self_ p0 k2 aE=some res:=⟨_,rfl,h⟩
      rw [G3] at h;refine qnB [(102,.bool (decide (aE<(jk p0))))] f λa f=>?_;refine Ak<|Ab f h (λc h=>?_) λc h=>?_
      ·obtain ⟨a4,c5,h⟩:=A7 h;obtain ⟨d5,bA,bV⟩:=An hA4.2 c5;obtain ⟨aJ,aO,dF,rfl,aZ⟩:=bV.out;refine wK<|Ak<|A0<|esr<|qo 2 2 [(104,.agg (a4.ax aJ aO))] f (oI 96 (hA4.at (l.fz g 1)) bA<|oG 98 0 5 (Ba 5) (hA4.a1 (l.fA g 1)) bA<|A4) λa f=>?_;refine SK.wi (qA 98 z98 (λaU=>[(8,pb aU)]) f l λaU w a f l=>?_);refine SK.wi (qw 98 0 (a4.ax aJ aO) f l rfl λw a f l=>wf ?_);refine esr<|qo 2 2 [mS,(106,.agg (a4.ax aJ aO))] f (oW 98 0 0 5 l.i<|A4) λa f=>?_;obtain ⟨bL,cF,h⟩:=A7 h;refine qxs 7 9 [(113,.bool (bif (cq a4) then true else (!bL)))] f l (oC (λw2 d=>Gc a4 _ rfl _ w2 (l.fd d g 2) aZ)<|oGs [⟨109,false,cq a4⟩] (oW 98 0 0 5 l.e<|A4)<|oX (.call [⟨109,false,cq a4⟩] 44 #[.agg (a4.ax aJ aO)] (.bool bL)) (show Ob.ok _ Ext _ _ from λhk w2 d=>ih a4 _ (by rw [←hself];exact ((λhk=>C8 cF hk) hk)) _ w2 (At w2) (aZ.mono Rp98.mono (l.fd d g 2)))<|A4) λa w f l=>?_;refine wf<|Ab f h (λc h=>?_) λc h=>?_
       ·refine Ak ?_
        cases h
       ·refine Am (A8<|A5<|?_);obtain ⟨bG,cA,h⟩:=A7 h;refine A3<|qo 2 2 [nf bG,dp 101] f (oA 3 cA<|A4) λa f=>wf ?_;rw [hk2] at h;exact ⟨nk2,A9 _,bG,f.sb,l.pk [1,2],h⟩
      ·refine Ai (Aa<|Aa<|As<|A5 ?_);exact ⟨f.sb,l.pk [0,1],h⟩
     rintro a w ⟨f,l,h⟩;rw [R2] at h;refine esr<|qo 4 4 [(118,.bool (decide (p0.Op<26)))] f (oU 3 0 0 l.i<|A4) λa f=>?_;rcases bft ((decide (p0.Op<26))) with a9|a9
     ·replace h:=Dt h a9;rw [a9] at f;refine rk 5 [(118,bi),nA] f λa f=>?_;refine qks 10 nL f λa f=>?_;refine rn 2 12 [(2,bi)] f λa f=>wf ?_;cases h;exact A6 (wrX 2 f l)
     ·replace h:=Dr h a9;rw [a9] at f;obtain ⟨cL,c4,h⟩:=A7 h;obtain ⟨d4,b9,bU⟩:=An hA4.2 c4;obtain ⟨cQ,cV,dE,rfl,dK⟩:=bU.out;refine ro 8 12 [(2,.bool (decide (cL.Op<26)))] f (oGs [⟨118,false,false⟩] (oU 96 0 4 l.i<|oI 96 (hA4.at (l.fz g 1)) b9<|oE 3 0 (Ba 5) (hA4.a1 (l.fA g 1)) b9 rfl<|A4)<|A4) λa f=>wf ?_;cases h;exact A6 (wrX 2 f l)
   ·refine qoB [(22,.bool (bif (bif (p0.Op==6) then true else (p0.Op==7)) then true else (p0.Op==25)))] f (oU 3 0 0 l.i<|oGs [⟨26,false,(p0.Op==6)⟩] (oU 3 0 0 l.i<|A4)<|oGs [⟨31,false,(bif (p0.Op==6) then true else (p0.Op==7))⟩] (oU 3 0 0 l.i<|A4)<|A4) λa f=>?_;refine Ab f h (λc h=>?_) λc h=>?_
    ·refine A3<|qn 2 2 [(3,iv 1),(5,iv 3),dp 3,dp 5] f λa f=>Al rfl (A8<|A5<|?_);refine Ak<|qoB [(97,.bool (bif (bif (bif ((jk p0) != 1) then true else (decide ((if p0.Gates<if p0.Rays<p0.Value_ then p0.Rays else p0.Value_ then p0.Gates else if p0.Rays<p0.Value_ then p0.Rays else p0.Value_)<0))) then true else (decide (p0.Value_>0))) then true else (decide ((if p0.Gates>p0.Rays then p0.Gates else p0.Rays)>3)))),dp 3,dp 5,dp 4] f (oU 96 0 4 l.i<|oGs [⟨73,false,((jk p0) != 1)⟩] (oU 3 0 1 l.i<|oU 3 0 2 l.i<|oU 3 0 3 l.i<|A4)<|oGs [⟨83,false,(bif ((jk p0) != 1) then true else (decide ((if p0.Gates<if p0.Rays<p0.Value_ then p0.Rays else p0.Value_ then p0.Gates else if p0.Rays<p0.Value_ then p0.Rays else p0.Value_)<0)))⟩] (oU 3 0 1 l.i<|A4)<|oGs [⟨89,false,(bif (bif ((jk p0) != 1) then true else (decide ((if p0.Gates<if p0.Rays<p0.Value_ then p0.Rays else p0.Value_ then p0.Gates else if p0.Rays<p0.Value_ then p0.Rays else p0.Value_)<0))) then true else (decide (p0.Value_>0)))⟩] (oU 3 0 2 l.i<|oU 3 0 3 l.i<|A4)<|A4) λa f=>?_;refine Ab f h (λc h=>?_) λc h=>?_
     ·refine Ak ?_
      cases h
     ·refine wK<|C1 (λa w=>Fr 126 [] (mR b5) a/\St w0 [blk b5 98 (p0.ax ad1 cap2),fz w0 μ] w/\R3 p0=some res) ?_ ?_
      ·refine qoB [km ad1 p0 cap2,dw p0,nX] f (oU 96 0 4 l.i<|A4) λa f=>?_;refine A0<|C2 (λn_ a w=>∃(aA:Int),Fr 126 [] [(1,pb b5),mF,km ad1 p0 cap2,dw p0,nf aA] a/\St w0 [blk b5 98 (p0.ax ad1 cap2),fz w0 μ] w/\Ke self_ p0 n_ aA=some res) F ⟨0,f.sb,l.pk [0,1],h⟩ ?_;rintro nk4 a w ⟨aA,f,l,h⟩;rcases nk4 with _|nk4
       ·exact nS h
       obtain ⟨k4,hk4⟩:∃k,k=Ke self_ p0 nk4:=⟨_,rfl⟩;replace h:Kc self_ p0 k4 aA=some res:=by rw [hk4];exact h
       rw [Kc] at h;refine qnB [(102,.bool (decide (aA<(jk p0))))] f λa f=>?_;refine Ak<|Ab f h (λc h=>?_) λc h=>?_
       ·obtain ⟨a0,bX,h⟩:=A7 h;obtain ⟨cX,b1,bN⟩:=An hA4.2 bX;obtain ⟨aF,aK,d7,rfl,aV⟩:=bN.out;refine wK<|Ak<|A0<|esr<|qo 2 2 [(104,.agg (a0.ax aF aK))] f (oI 96 (hA4.at (l.fz g 1)) b1<|oG 98 0 5 (Ba 5) (hA4.a1 (l.fA g 1)) b1<|A4) λa f=>?_;refine SK.wi (qA 98 z98 (λaQ=>[(8,pb aQ)]) f l λaQ w a f l=>?_);refine SK.wi (qw 98 0 (a0.ax aF aK) f l rfl λw a f l=>wf ?_);refine esr<|qo 2 2 [mS,(106,.agg (a0.ax aF aK))] f (oW 98 0 0 5 l.i<|A4) λa f=>?_;obtain ⟨bH,cB,h⟩:=A7 h;refine qxs 7 9 [(113,.bool (bif (cq a0) then true else (!bH)))] f l (oC (λw2 d=>Gc a0 _ rfl _ w2 (l.fd d g 2) aV)<|oGs [⟨109,false,cq a0⟩] (oW 98 0 0 5 l.e<|A4)<|oX (.call [⟨109,false,cq a0⟩] 44 #[.agg (a0.ax aF aK)] (.bool bH)) (show Ob.ok _ Ext _ _ from λhk w2 d=>ih a0 _ (by rw [←hself];exact ((λhk=>C8 cB hk) hk)) _ w2 (At w2) (aV.mono Rp98.mono (l.fd d g 2)))<|A4) λa w f l=>?_;refine wf<|Ab f h (λc h=>?_) λc h=>?_
        ·refine Ak ?_
         cases h
        ·refine Am (A8<|A5<|?_);obtain ⟨bC,c6,h⟩:=A7 h;refine A3<|qo 2 2 [nf bC,dp 101] f (oA 3 c6<|A4) λa f=>wf ?_;rw [hk4] at h;exact ⟨nk4,A9 _,bC,f.sb,l.pk [1,2],h⟩
       ·refine Ai (Aa<|Aa<|As<|A5 ?_);exact ⟨f.sb,l.pk [0,1],h⟩
      rintro a w ⟨f,l,h⟩;rw [R3] at h;refine esr<|qo 4 4 [(118,.bool (decide (p0.Op<26)))] f (oU 3 0 0 l.i<|A4) λa f=>?_;rcases bft ((decide (p0.Op<26))) with a5|a5
      ·replace h:=Dt h a5;rw [a5] at f;refine rk 5 [(118,bi),nA] f λa f=>?_;refine qks 10 nL f λa f=>?_;refine rn 2 12 [(2,bi)] f λa f=>wf ?_;cases h;exact A6 (wrX 2 f l)
      ·replace h:=Dr h a5;rw [a5] at f;obtain ⟨cH,bW,h⟩:=A7 h;obtain ⟨cW,b0,bM⟩:=An hA4.2 bW;obtain ⟨cM,cR,d6,rfl,dG⟩:=bM.out;refine ro 8 12 [(2,.bool (decide (cH.Op<26)))] f (oGs [⟨118,false,false⟩] (oU 96 0 4 l.i<|oI 96 (hA4.at (l.fz g 1)) b0<|oE 3 0 (Ba 5) (hA4.a1 (l.fA g 1)) b0 rfl<|A4)<|A4) λa f=>wf ?_;cases h;exact A6 (wrX 2 f l)
    ·refine qoB [(36,.bool (bif (bif (bif (decide (p0.Op>=8)) then (decide (p0.Op<=13)) else false) then true else (p0.Op==26)) then true else (p0.Op==27)))] f (oU 3 0 0 l.i<|oGs [⟨40,true,(decide (p0.Op>=8))⟩] (oU 3 0 0 l.i<|A4)<|oGs [⟨45,false,(bif (decide (p0.Op>=8)) then (decide (p0.Op<=13)) else false)⟩] (oU 3 0 0 l.i<|A4)<|oGs [⟨50,false,(bif (bif (decide (p0.Op>=8)) then (decide (p0.Op<=13)) else false) then true else (p0.Op==26))⟩] (oU 3 0 0 l.i<|A4)<|A4) λa f=>?_;refine Ab f h (λc h=>?_) λc h=>?_
     ·refine A3<|qn 2 2 [(3,iv 2),(6,fv 83 #[]),dp 6,dp 3] f λa f=>Al rfl (A8<|A5<|?_);refine Ak<|qoB [(97,.bool (bif (bif (bif (o9 p0) then true else (decide ((if p0.Gates<if p0.Rays<p0.Value_ then p0.Rays else p0.Value_ then p0.Gates else if p0.Rays<p0.Value_ then p0.Rays else p0.Value_)<0))) then true else (decide (p0.Value_>0))) then true else (decide ((if p0.Gates>p0.Rays then p0.Gates else p0.Rays)>0)))),dp 3,dp 4,dp 5] f (oU 96 0 4 l.i<|oGs [⟨73,false,o9 p0⟩] (oU 3 0 1 l.i<|oU 3 0 2 l.i<|oU 3 0 3 l.i<|A4)<|oGs [⟨83,false,(bif (o9 p0) then true else (decide ((if p0.Gates<if p0.Rays<p0.Value_ then p0.Rays else p0.Value_ then p0.Gates else if p0.Rays<p0.Value_ then p0.Rays else p0.Value_)<0)))⟩] (oU 3 0 1 l.i<|A4)<|oGs [⟨89,false,(bif (bif (o9 p0) then true else (decide ((if p0.Gates<if p0.Rays<p0.Value_ then p0.Rays else p0.Value_ then p0.Gates else if p0.Rays<p0.Value_ then p0.Rays else p0.Value_)<0))) then true else (decide (p0.Value_>0)))⟩] (oU 3 0 2 l.i<|oU 3 0 3 l.i<|A4)<|A4) λa f=>?_;refine Ab f h (λc h=>?_) λc h=>?_
      ·refine Ak ?_
       cases h
      ·refine wK<|C1 (λa w=>Fr 126 [] (mR b5) a/\St w0 [blk b5 98 (p0.ax ad1 cap2),fz w0 μ] w/\R4 p0=some res) ?_ ?_
       ·refine qoB [km ad1 p0 cap2,dw p0,nX] f (oU 96 0 4 l.i<|A4) λa f=>?_;refine A0<|C2 (λn_ a w=>∃(aB:Int),Fr 126 [] [(1,pb b5),(6,fv 83 #[]),km ad1 p0 cap2,dw p0,nf aB] a/\St w0 [blk b5 98 (p0.ax ad1 cap2),fz w0 μ] w/\Hh self_ p0 n_ aB=some res) F ⟨0,f.sb,l.pk [0,1],h⟩ ?_;rintro nk6 a w ⟨aB,f,l,h⟩;rcases nk6 with _|nk6
        ·exact nS h
        obtain ⟨k6,hk6⟩:∃k,k=Hh self_ p0 nk6:=⟨_,rfl⟩;replace h:G4 self_ p0 k6 aB=some res:=by rw [hk6];exact h
        rw [G4] at h;refine qnB [(102,.bool (decide (aB<(jk p0))))] f λa f=>?_;refine Ak<|Ab f h (λc h=>?_) λc h=>?_
        ·obtain ⟨a1,bZ,h⟩:=A7 h;obtain ⟨cZ,b3,bP⟩:=An hA4.2 bZ;obtain ⟨aG,aL,d9,rfl,aW⟩:=bP.out;refine wK<|Ak<|A0<|esr<|qo 2 2 [(104,.agg (a1.ax aG aL))] f (oI 96 (hA4.at (l.fz g 1)) b3<|oG 98 0 5 (Ba 5) (hA4.a1 (l.fA g 1)) b3<|A4) λa f=>?_;refine SK.wi (qA 98 z98 (λaR=>[(8,pb aR)]) f l λaR w a f l=>?_);refine SK.wi (qw 98 0 (a1.ax aG aL) f l rfl λw a f l=>wf ?_);refine esr<|qo 2 2 [(105,fv 83 #[]),(106,.agg (a1.ax aG aL))] f (oW 98 0 0 5 l.i<|A4) λa f=>?_;obtain ⟨bI,cC,h⟩:=A7 h;refine qxs 7 9 [(113,.bool (bif (!(G2 a1)) then true else (!bI)))] f l (oC (λw2 d=>Vk a1 _ rfl _ w2 (l.fd d g 2) aW)<|oGs [⟨109,false,(!(G2 a1))⟩] (oW 98 0 0 5 l.e<|A4)<|oX (.call [⟨109,false,(!(G2 a1))⟩] 44 #[.agg (a1.ax aG aL)] (.bool bI)) (show Ob.ok _ Ext _ _ from λhk w2 d=>ih a1 _ (by rw [←hself];exact ((λhk=>C8 cC hk) hk)) _ w2 (At w2) (aW.mono Rp98.mono (l.fd d g 2)))<|A4) λa w f l=>?_;refine wf<|Ab f h (λc h=>?_) λc h=>?_
         ·refine Ak ?_
          cases h
         ·refine Am (A8<|A5<|?_);obtain ⟨bD,c7,h⟩:=A7 h;refine A3<|qo 2 2 [nf bD,dp 101] f (oA 3 c7<|A4) λa f=>wf ?_;rw [hk6] at h;exact ⟨nk6,A9 _,bD,f.sb,l.pk [1,2],h⟩
        ·refine Ai (Aa<|Aa<|As<|A5 ?_);exact ⟨f.sb,l.pk [0,1],h⟩
       rintro a w ⟨f,l,h⟩;rw [R4] at h;refine esr<|qo 4 4 [(118,.bool (decide (p0.Op<26)))] f (oU 3 0 0 l.i<|A4) λa f=>?_;rcases bft ((decide (p0.Op<26))) with a6|a6
       ·replace h:=Dt h a6;rw [a6] at f;refine rk 5 [(118,bi),nA] f λa f=>?_;refine qks 10 nL f λa f=>?_;refine rn 2 12 [(2,bi)] f λa f=>wf ?_;cases h;exact A6 (wrX 2 f l)
       ·replace h:=Dr h a6;rw [a6] at f;obtain ⟨cI,bY,h⟩:=A7 h;obtain ⟨cY,b2,bO⟩:=An hA4.2 bY;obtain ⟨cN,cS,d8,rfl,dH⟩:=bO.out;refine ro 8 12 [(2,.bool (decide (cI.Op<26)))] f (oGs [⟨118,false,false⟩] (oU 96 0 4 l.i<|oI 96 (hA4.at (l.fz g 1)) b2<|oE 3 0 (Ba 5) (hA4.a1 (l.fA g 1)) b2 rfl<|A4)<|A4) λa f=>wf ?_;cases h;exact A6 (wrX 2 f l)
     ·refine qoB [(55,.bool (p0.Op==14))] f (oU 3 0 0 l.i<|A4) λa f=>?_;refine Ab f h (λc h=>?_) λc h=>?_
      ·refine A3<|qn 1 1 [(4,iv 1000000000),dp 4] f λa f=>Al rfl (A8<|A5<|?_);refine Ak<|qoB [(97,.bool (bif (bif (bif (pc p0) then true else (decide ((if p0.Gates<if p0.Rays<p0.Value_ then p0.Rays else p0.Value_ then p0.Gates else if p0.Rays<p0.Value_ then p0.Rays else p0.Value_)<0))) then true else (decide (p0.Value_>1000000000))) then true else (decide ((if p0.Gates>p0.Rays then p0.Gates else p0.Rays)>0)))),dp 4,dp 3,dp 5] f (oU 96 0 4 l.i<|oGs [⟨73,false,pc p0⟩] (oU 3 0 1 l.i<|oU 3 0 2 l.i<|oU 3 0 3 l.i<|A4)<|oGs [⟨83,false,(bif (pc p0) then true else (decide ((if p0.Gates<if p0.Rays<p0.Value_ then p0.Rays else p0.Value_ then p0.Gates else if p0.Rays<p0.Value_ then p0.Rays else p0.Value_)<0)))⟩] (oU 3 0 1 l.i<|A4)<|oGs [⟨89,false,(bif (bif (pc p0) then true else (decide ((if p0.Gates<if p0.Rays<p0.Value_ then p0.Rays else p0.Value_ then p0.Gates else if p0.Rays<p0.Value_ then p0.Rays else p0.Value_)<0))) then true else (decide (p0.Value_>1000000000)))⟩] (oU 3 0 2 l.i<|oU 3 0 3 l.i<|A4)<|A4) λa f=>?_;refine Ab f h (λc h=>?_) λc h=>?_
       ·refine Ak ?_
        cases h
       ·refine wK<|C1 (λa w=>Fr 126 [] (mR b5) a/\St w0 [blk b5 98 (p0.ax ad1 cap2),fz w0 μ] w/\To p0=some res) ?_ ?_
        ·refine qoB [km ad1 p0 cap2,dw p0,nX] f (oU 96 0 4 l.i<|A4) λa f=>?_;refine A0<|C2 (λn_ a w=>∃(aC:Int),Fr 126 [] [(1,pb b5),mF,km ad1 p0 cap2,dw p0,nf aC] a/\St w0 [blk b5 98 (p0.ax ad1 cap2),fz w0 μ] w/\R5 self_ p0 n_ aC=some res) F ⟨0,f.sb,l.pk [0,1],h⟩ ?_;rintro nk8 a w ⟨aC,f,l,h⟩;rcases nk8 with _|nk8
         ·exact nS h
         obtain ⟨k8,hk8⟩:∃k,k=R5 self_ p0 nk8:=⟨_,rfl⟩;replace h:Tn self_ p0 k8 aC=some res:=by rw [hk8];exact h
         rw [Tn] at h;refine qnB [(102,.bool (decide (aC<(jk p0))))] f λa f=>?_;refine Ak<|Ab f h (λc h=>?_) λc h=>?_
         ·obtain ⟨a2,c1,h⟩:=A7 h;obtain ⟨d1,b6,bR⟩:=An hA4.2 c1;obtain ⟨aH,aM,dB,rfl,aX⟩:=bR.out;refine wK<|Ak<|A0<|esr<|qo 2 2 [(104,.agg (a2.ax aH aM))] f (oI 96 (hA4.at (l.fz g 1)) b6<|oG 98 0 5 (Ba 5) (hA4.a1 (l.fA g 1)) b6<|A4) λa f=>?_;refine SK.wi (qA 98 z98 (λaS=>[(8,pb aS)]) f l λaS w a f l=>?_);refine SK.wi (qw 98 0 (a2.ax aH aM) f l rfl λw a f l=>wf ?_);refine esr<|qo 2 2 [mS,(106,.agg (a2.ax aH aM))] f (oW 98 0 0 5 l.i<|A4) λa f=>?_;obtain ⟨bJ,cD,h⟩:=A7 h;refine qxs 7 9 [(113,.bool (bif (cq a2) then true else (!bJ)))] f l (oC (λw2 d=>Gc a2 _ rfl _ w2 (l.fd d g 2) aX)<|oGs [⟨109,false,cq a2⟩] (oW 98 0 0 5 l.e<|A4)<|oX (.call [⟨109,false,cq a2⟩] 44 #[.agg (a2.ax aH aM)] (.bool bJ)) (show Ob.ok _ Ext _ _ from λhk w2 d=>ih a2 _ (by rw [←hself];exact ((λhk=>C8 cD hk) hk)) _ w2 (At w2) (aX.mono Rp98.mono (l.fd d g 2)))<|A4) λa w f l=>?_;refine wf<|Ab f h (λc h=>?_) λc h=>?_
          ·refine Ak ?_
           cases h
          ·refine Am (A8<|A5<|?_);obtain ⟨bE,c8,h⟩:=A7 h;refine A3<|qo 2 2 [nf bE,dp 101] f (oA 3 c8<|A4) λa f=>wf ?_;rw [hk8] at h;exact ⟨nk8,A9 _,bE,f.sb,l.pk [1,2],h⟩
         ·refine Ai (Aa<|Aa<|As<|A5 ?_);exact ⟨f.sb,l.pk [0,1],h⟩
        rintro a w ⟨f,l,h⟩;rw [To] at h;refine esr<|qo 4 4 [(118,.bool (decide (p0.Op<26)))] f (oU 3 0 0 l.i<|A4) λa f=>?_;rcases bft ((decide (p0.Op<26))) with a7|a7
        ·replace h:=Dt h a7;rw [a7] at f;refine rk 5 [(118,bi),nA] f λa f=>?_;refine qks 10 nL f λa f=>?_;refine rn 2 12 [(2,bi)] f λa f=>wf ?_;cases h;exact A6 (wrX 2 f l)
        ·replace h:=Dr h a7;rw [a7] at f;obtain ⟨cJ,c0,h⟩:=A7 h;obtain ⟨d0,b4,bQ⟩:=An hA4.2 c0;obtain ⟨cO,cT,dA,rfl,dI⟩:=bQ.out;refine ro 8 12 [(2,.bool (decide (cJ.Op<26)))] f (oGs [⟨118,false,false⟩] (oU 96 0 4 l.i<|oI 96 (hA4.at (l.fz g 1)) b4<|oE 3 0 (Ba 5) (hA4.a1 (l.fA g 1)) b4 rfl<|A4)<|A4) λa f=>wf ?_;cases h;exact A6 (wrX 2 f l)
      ·refine esr<|qxs 9 9 [(59,.bool (bif (cq p0) then (!(G2 p0)) else false))] f l (oW 98 0 0 5 l.e<|oC (λw2 d=>Gc p0 _ rfl _ w2 (l.fd d g 1) hA4)<|oGs [⟨63,true,cq p0⟩] (oW 98 0 0 5 l.e<|oC (λw2 d=>Vk p0 _ rfl _ w2 (l.fd d g 1) hA4)<|A4)<|A4) λa w f l=>?_;refine wf<|Ab f h (λc h=>?_) λc h=>?_
       ·refine Ak ?_
        cases h
       ·refine Am (A8<|A5<|?_);refine Ak<|qoB [(97,.bool (bif (bif (bif (pc p0) then true else (decide ((if p0.Gates<if p0.Rays<p0.Value_ then p0.Rays else p0.Value_ then p0.Gates else if p0.Rays<p0.Value_ then p0.Rays else p0.Value_)<0))) then true else (decide (p0.Value_>0))) then true else (decide ((if p0.Gates>p0.Rays then p0.Gates else p0.Rays)>0)))),dp 3,dp 4,dp 5] f (oU 96 0 4 l.i<|oGs [⟨73,false,pc p0⟩] (oU 3 0 1 l.i<|oU 3 0 2 l.i<|oU 3 0 3 l.i<|A4)<|oGs [⟨83,false,(bif (pc p0) then true else (decide ((if p0.Gates<if p0.Rays<p0.Value_ then p0.Rays else p0.Value_ then p0.Gates else if p0.Rays<p0.Value_ then p0.Rays else p0.Value_)<0)))⟩] (oU 3 0 1 l.i<|A4)<|oGs [⟨89,false,(bif (bif (pc p0) then true else (decide ((if p0.Gates<if p0.Rays<p0.Value_ then p0.Rays else p0.Value_ then p0.Gates else if p0.Rays<p0.Value_ then p0.Rays else p0.Value_)<0))) then true else (decide (p0.Value_>0)))⟩] (oU 3 0 2 l.i<|oU 3 0 3 l.i<|A4)<|A4) λa f=>?_;refine Ab f h (λc h=>?_) λc h=>?_
        ·refine Ak ?_
         cases h
        ·refine wK<|C1 (λa w=>Fr 126 [] (mR b5) a/\St w0 [blk b5 98 (p0.ax ad1 cap2),fz w0 μ] w/\Tp p0=some res) ?_ ?_
         ·refine qoB [km ad1 p0 cap2,dw p0,nX] f (oU 96 0 4 l.i<|A4) λa f=>?_;refine A0<|C2 (λn_ a w=>∃(aD:Int),Fr 126 [] [(1,pb b5),mF,km ad1 p0 cap2,dw p0,nf aD] a/\St w0 [blk b5 98 (p0.ax ad1 cap2),fz w0 μ] w/\Q3 self_ p0 n_ aD=some res) F ⟨0,f.sb,l.pk [0,1],h⟩ ?_;rintro aP a w ⟨aD,f,l,h⟩;rcases aP with _|aP
          ·exact nS h
          obtain ⟨cG,bB⟩:∃k,k=Q3 self_ p0 aP:=⟨_,rfl⟩;replace h:So self_ p0 cG aD=some res:=by rw [bB];exact h
          rw [So] at h;refine qnB [(102,.bool (decide (aD<(jk p0))))] f λa f=>?_;refine Ak<|Ab f h (λc h=>?_) λc h=>?_
          ·obtain ⟨a3,c3,h⟩:=A7 h;obtain ⟨d3,b8,bT⟩:=An hA4.2 c3;obtain ⟨aI,aN,dD,rfl,aY⟩:=bT.out;refine wK<|Ak<|A0<|esr<|qo 2 2 [(104,.agg (a3.ax aI aN))] f (oI 96 (hA4.at (l.fz g 1)) b8<|oG 98 0 5 (Ba 5) (hA4.a1 (l.fA g 1)) b8<|A4) λa f=>?_;refine SK.wi (qA 98 z98 (λaT=>[(8,pb aT)]) f l λaT w a f l=>?_);refine SK.wi (qw 98 0 (a3.ax aI aN) f l rfl λw a f l=>wf ?_);refine esr<|qo 2 2 [mS,(106,.agg (a3.ax aI aN))] f (oW 98 0 0 5 l.i<|A4) λa f=>?_;obtain ⟨bK,cE,h⟩:=A7 h;refine qxs 7 9 [(113,.bool (bif (cq a3) then true else (!bK)))] f l (oC (λw2 d=>Gc a3 _ rfl _ w2 (l.fd d g 2) aY)<|oGs [⟨109,false,cq a3⟩] (oW 98 0 0 5 l.e<|A4)<|oX (.call [⟨109,false,cq a3⟩] 44 #[.agg (a3.ax aI aN)] (.bool bK)) (show Ob.ok _ Ext _ _ from λhk w2 d=>ih a3 _ (by rw [←hself];exact ((λhk=>C8 cE hk) hk)) _ w2 (At w2) (aY.mono Rp98.mono (l.fd d g 2)))<|A4) λa w f l=>?_;refine wf<|Ab f h (λc h=>?_) λc h=>?_
           ·refine Ak ?_
            cases h
           ·refine Am (A8<|A5<|?_);obtain ⟨bF,c9,h⟩:=A7 h;refine A3<|qo 2 2 [nf bF,dp 101] f (oA 3 c9<|A4) λa f=>wf ?_;rw [bB] at h;exact ⟨aP,A9 _,bF,f.sb,l.pk [1,2],h⟩
          ·refine Ai (Aa<|Aa<|As<|A5 ?_);exact ⟨f.sb,l.pk [0,1],h⟩
         rintro a w ⟨f,l,h⟩;rw [Tp] at h;refine esr<|qo 4 4 [(118,.bool (decide (p0.Op<26)))] f (oU 3 0 0 l.i<|A4) λa f=>?_;rcases bft ((decide (p0.Op<26))) with a8|a8
         ·replace h:=Dt h a8;rw [a8] at f;refine rk 5 [(118,bi),nA] f λa f=>?_;refine qks 10 nL f λa f=>?_;refine rn 2 12 [(2,bi)] f λa f=>wf ?_;cases h;exact A6 (wrX 2 f l)
         ·replace h:=Dr h a8;rw [a8] at f;obtain ⟨cK,c2,h⟩:=A7 h;obtain ⟨d2,b7,bS⟩:=An hA4.2 c2;obtain ⟨cP,cU,dC,rfl,dJ⟩:=bS.out;refine ro 8 12 [(2,.bool (decide (cK.Op<26)))] f (oGs [⟨118,false,false⟩] (oU 96 0 4 l.i<|oI 96 (hA4.at (l.fz g 1)) b7<|oE 3 0 (Ba 5) (hA4.a1 (l.fA g 1)) b7 rfl<|A4)<|A4) λa f=>wf ?_;cases h;exact A6 (wrX 2 f l)
theorem Pt (res:(pp)) (h:Cf=res) (μ:Frz) (w0:World) (hm:ek μ w0):CP 95 #[] w0 (.agg (vF Value.string res).toArray):=by
 obtain ⟨g,l⟩:=hm.init;rw [Cf] at h;refine feW Tryz.func95 2 [] l λa w s l=>?_;refine esr<|SK.wi (qA 192 (vF Value.string (default:pp)).toArray (λb1=>[(0,pb b1)]) s l λb1 w a s l=>wf ?_);refine esr<|qn 1 1 [(1,.agg (vF Value.string (⟨ab,rfl⟩:pp)).toArray)] s λa s=>?_;refine SK.wi (B5z (f:=Value.string) (y:=(⟨ab,rfl⟩:pp)) (t:=192) [(0,pb b1)] 0 (λ_=>rfl) s l rfl kr ⟨kr⟩ kr ⟨kr⟩ λw a s l=>wf ?_);refine A6 (Bx [.cell 0 192] [_] s rfl ⟨⟨_,rfl,A9a (f:=Value.string) kr (l.blk (i:=0) rfl)⟩,trivial⟩ ?_);subst h;exact ⟨rfl,l.ext⟩
theorem Tz (F:Nat) (p0:(Int×Int×Int)) (p1:(List zQ)) (p2:Int) (res:(Int×Int×Int)) (h:Nm F p0 p1 p2=some res) (μ:Frz) (w0 w1:World) (T_:List Res) (g:Ar w0 μ) {cb0 ad1 cap2} (hA3:ArrM μ 4 zQ.cells ad1 cap2 p1) (l:St w0 (fz w0 μ::af cb0 p0::T_) w1):CR 85 #[pb cb0,sv ad1 p1 cap2,iv p2] w1 (λe w=>∃(ν_:Frz),μ.ext w0.heap.size ν_/\Ar w0 ν_/\e=mi/\St w0 (fz w0 ν_::af cb0 res::T_) w):=by
 rw [Nm] at h;have x:=Frz.ext_refl w0.heap.size μ;refine feW Tryz.func85 60 [aq cb0,po ad1 p1 cap2,(2,iv p2)] l λa w f l=>?_;refine qnB [cl ad1 p1 cap2,fx p1,(12,iv 0)] f λa f=>?_;refine A0<|C2 (λn_ a w=>∃(a5 a6 a3 a0:Int),Fr 60 [] [aq cb0,(2,iv p2),cl ad1 p1 cap2,fx p1,cj a0] a/\St w0 (fz w0 μ::nj cb0 a5 a6 a3::T_) w/\Fk p1 p2 n_ a5 a6 a3 a0=some res) F ⟨p0.1,p0.2.1,p0.2.2,0,f.sb,l,h⟩ ?_;rintro nk1 a w ⟨a5,a6,a3,a0,f,l,h⟩;rcases nk1 with _|nk1
 ·exact nS h
 obtain ⟨k1,hk1⟩:∃k,k=Fk p1 p2 nk1:=⟨_,rfl⟩;replace h:Fj p1 p2 k1 a5 a6 a3 a0=some res:=by rw [hk1];exact h
 rw [Fj] at h;refine qnB [(13,bm a0 p1)] f λa f=>?_;refine Ak<|Ab f h (λd h=>?_) λd h=>?_
 ·obtain ⟨aB,aF,h⟩:=A7 h;refine wK<|Ak<|A0<|esr<|qo 2 2 [(15,aB.ag)] f (oI 89 (hA3 _ (l.fz g 0)) aF<|oG 127 0 4 zQ.cells_len (λ_ y=>(hA3 _ (l.fa y g 0))) aF<|A4) λa f=>?_;refine SK.wi (qA 127 z86 (λaA=>(nM aA)) f l λaA w a f l=>?_);refine SK.wi (qw 127 0 aB.ar f l rfl λw a f l=>wf ?_);obtain ⟨aG,aJ,aH,aK,h⟩:=C9 h;refine Ak<|qDs 12 [(8,iv (if aG>0 then aG else 0)),(9,iv (if aH>0 then aH else 0))] f l (oU 3 0 0 l.e<|oA 3 aJ<|oU 3 0 2 l.e<|oA 3 aK<|A4) λa w f l=>?_;obtain ⟨a7,aL,a8,aM,a9,aN,h⟩:=Cg h;obtain ⟨a1,aC,a2,aD,a4,aE,h⟩:=Cg h;refine wf<|Bu 35 [6,14,22,29,32] (λa w=>Fr 60 [] [aq cb0,(2,iv p2),cl ad1 p1 cap2,fx p1,cj a0,kx a4,(58,am cb0)] a/\St w0 (blk aA 127 aB.ar::fz w0 μ::nj cb0 a1 a2 a3::T_) w) (D:=λw=>St w0 [blk aA 127 aB.ar] w/\FrzAt μ w) kr kr f.size (λw c=>?_) ?_
  ·replace l:=l.later c;refine ⟨⟨l.pk [0],l.fz g 1⟩,?_⟩;have aP:=Ae μ;refine WT.s [0,1,2,3,4,5,7,8,9,11,12,13,15,16,17,19,20,21,23,24,25,27,30,33] [6,14,22] kr kr ?_;refine qC 24 [mJ cb0,kh a7,ox cb0,ml a8,ow cb0,lw a9,ij cb0,ia cb0,gz cb0] f (oX (db cb0) (Ap kr)<|oM 3 aL<|oX (da cb0) (Ap kr)<|oM 3 aM<|oX (cz cb0) (Ap kr)<|oM 3 aN<|A4) λa f=>?_;refine Af ?_;refine all_cons ?_ (all_cons ?_ (all_cons ?_ (B4)))
   ·refine obK (T:=Ext) (s:=(kp cb0)) (v:=iv a5) [aq cb0,(2,iv p2),cl ad1 p1 cap2,fx p1,cj a0,mY a5,kh a7,ox cb0,ml a8,ow cb0,lw a9,ij cb0,ia cb0,gz cb0] f kr ⟨kr⟩ (ob1 kr (λ_ y=>(l.at_ y).cell (i:=2) (j:=0) rfl rfl)) ⟨kr⟩ λa f=>⟨⟨l.pk [0],(l.fz g 1)⟩,?_⟩;refine WT.s [10] [14,22] kr kr ?_;refine rC 1 [aq cb0,(2,iv p2),cl ad1 p1 cap2,fx p1,cj a0,mI a1,ox cb0,ml a8,ow cb0,lw a9,ij cb0,ia cb0,gz cb0] f (oA 3 aC<|A4) λa f=>?_;refine Af ?_;refine all_cons ?_ (all_cons ?_ (B4))
    ·refine obK (T:=Ext) (s:=(lz cb0)) (v:=iv a6) [aq cb0,(2,iv p2),cl ad1 p1 cap2,fx p1,cj a0,mI a1,(40,iv a6),ml a8,ow cb0,lw a9,ij cb0,ia cb0,gz cb0] f kr ⟨kr⟩ (ob1 kr (λ_ y=>(l.at_ y).cell (i:=2) (j:=1) rfl rfl)) ⟨kr⟩ λa f=>⟨⟨l.pk [0],(l.fz g 1)⟩,?_⟩;refine WT.s [18] [22] kr kr ?_;refine rC 1 [aq cb0,(2,iv p2),cl ad1 p1 cap2,fx p1,cj a0,mI a1,mX a2,ow cb0,lw a9,ij cb0,ia cb0,gz cb0] f (oA 3 aD<|A4) λa f=>?_;refine Af ?_;refine all_cons ?_ (B4);refine obK (T:=Ext) (s:=(ot cb0)) (v:=iv a3) [aq cb0,(2,iv p2),cl ad1 p1 cap2,fx p1,cj a0,mI a1,mX a2,(48,iv a3),lw a9,ij cb0,ia cb0,gz cb0] f kr ⟨kr⟩ (ob1 kr (λ_ y=>(l.at_ y).cell (i:=2) (j:=2) rfl rfl)) ⟨kr⟩ λa f=>⟨⟨l.pk [0],(l.fz g 1)⟩,?_⟩;refine WT.s [26,28] [29] kr kr ?_;refine rC 2 (dh cb0 p2 ad1 p1 cap2 a0 a1 a2 a4) f (oA 3 aE<|oX (db cb0) (Ap kr)<|A4) λa f=>?_;refine Af ?_;refine all_cons ?_ (B4);refine qs 3 2 0 (iv a1) f l rfl λw a f l=>⟨⟨l.pk [0],(l.fz g 1)⟩,?_⟩;refine WT.s [31] [32] kr kr ?_;refine qC 1 [(56,ao cb0)] f (oX (da cb0) (Ap kr)<|A4) λa f=>?_;refine Af ?_;refine all_cons ?_ (B4);refine qs 3 2 1 (iv a2) f l rfl λw a f l=>⟨⟨l.pk [0],(l.fz g 1)⟩,?_⟩;refine WT.z [34] kr ?_;refine qC 1 [(58,am cb0)] f (oX (cz cb0) (Ap kr)<|A4) λa f=>?_;refine Af ?_;replace l:St w0 (blk aA 127 aB.ar::fz w0 μ::nj cb0 a1 a2 a3::T_) w:=l;exact ⟨f.sb,l⟩
    ·refine obK (T:=Ext) (s:=(ot cb0)) (v:=iv a3) [aq cb0,(2,iv p2),cl ad1 p1 cap2,fx p1,cj a0,mI a1,ox cb0,ml a8,(48,iv a3),lw a9,ij cb0,ia cb0,gz cb0] f kr ⟨kr⟩ (ob1 kr (λ_ y=>(l.at_ y).cell (i:=2) (j:=2) rfl rfl)) ⟨kr⟩ λa f=>⟨⟨l.pk [0],(l.fz g 1)⟩,?_⟩;refine WT.s [26] [14] kr kr ?_;refine rC 1 [aq cb0,(2,iv p2),cl ad1 p1 cap2,fx p1,cj a0,mI a1,ox cb0,ml a8,kx a4,ij cb0,ia cb0,gz cb0] f (oA 3 aE<|A4) λa f=>?_;refine Af ?_;refine all_cons ?_ (B4);refine obK (T:=Ext) (s:=(lz cb0)) (v:=iv a6) [aq cb0,(2,iv p2),cl ad1 p1 cap2,fx p1,cj a0,mI a1,(40,iv a6),ml a8,kx a4,ij cb0,ia cb0,gz cb0] f kr ⟨kr⟩ (ob1 kr (λ_ y=>(l.at_ y).cell (i:=2) (j:=1) rfl rfl)) ⟨kr⟩ λa f=>⟨⟨l.pk [0],(l.fz g 1)⟩,?_⟩;refine WT.s [18,28] [29] kr kr ?_;refine rC 2 (dh cb0 p2 ad1 p1 cap2 a0 a1 a2 a4) f (oA 3 aD<|oX (db cb0) (Ap kr)<|A4) λa f=>?_;refine Af ?_;refine all_cons ?_ (B4);refine qs 3 2 0 (iv a1) f l rfl λw a f l=>⟨⟨l.pk [0],(l.fz g 1)⟩,?_⟩;refine WT.s [31] [32] kr kr ?_;refine qC 1 [(56,ao cb0)] f (oX (da cb0) (Ap kr)<|A4) λa f=>?_;refine Af ?_;refine all_cons ?_ (B4);refine qs 3 2 1 (iv a2) f l rfl λw a f l=>⟨⟨l.pk [0],(l.fz g 1)⟩,?_⟩;refine WT.z [34] kr ?_;refine qC 1 [(58,am cb0)] f (oX (cz cb0) (Ap kr)<|A4) λa f=>?_;refine Af ?_;replace l:St w0 (blk aA 127 aB.ar::fz w0 μ::nj cb0 a1 a2 a3::T_) w:=l;exact ⟨f.sb,l⟩
   ·refine obK (T:=Ext) (s:=(lz cb0)) (v:=iv a6) [aq cb0,(2,iv p2),cl ad1 p1 cap2,fx p1,cj a0,mJ cb0,kh a7,(40,iv a6),ml a8,ow cb0,lw a9,ij cb0,ia cb0,gz cb0] f kr ⟨kr⟩ (ob1 kr (λ_ y=>(l.at_ y).cell (i:=2) (j:=1) rfl rfl)) ⟨kr⟩ λa f=>⟨⟨l.pk [0],(l.fz g 1)⟩,?_⟩;refine WT.s [18] [6,22] kr kr ?_;refine rC 1 [aq cb0,(2,iv p2),cl ad1 p1 cap2,fx p1,cj a0,mJ cb0,kh a7,mX a2,ow cb0,lw a9,ij cb0,ia cb0,gz cb0] f (oA 3 aD<|A4) λa f=>?_;refine Af ?_;refine all_cons ?_ (all_cons ?_ (B4))
    ·refine obK (T:=Ext) (s:=(kp cb0)) (v:=iv a5) [aq cb0,(2,iv p2),cl ad1 p1 cap2,fx p1,cj a0,mY a5,kh a7,mX a2,ow cb0,lw a9,ij cb0,ia cb0,gz cb0] f kr ⟨kr⟩ (ob1 kr (λ_ y=>(l.at_ y).cell (i:=2) (j:=0) rfl rfl)) ⟨kr⟩ λa f=>⟨⟨l.pk [0],(l.fz g 1)⟩,?_⟩;refine WT.s [10] [22] kr kr ?_;refine rC 1 [aq cb0,(2,iv p2),cl ad1 p1 cap2,fx p1,cj a0,mI a1,mX a2,ow cb0,lw a9,ij cb0,ia cb0,gz cb0] f (oA 3 aC<|A4) λa f=>?_;refine Af ?_;refine all_cons ?_ (B4);refine obK (T:=Ext) (s:=(ot cb0)) (v:=iv a3) [aq cb0,(2,iv p2),cl ad1 p1 cap2,fx p1,cj a0,mI a1,mX a2,(48,iv a3),lw a9,ij cb0,ia cb0,gz cb0] f kr ⟨kr⟩ (ob1 kr (λ_ y=>(l.at_ y).cell (i:=2) (j:=2) rfl rfl)) ⟨kr⟩ λa f=>⟨⟨l.pk [0],(l.fz g 1)⟩,?_⟩;refine WT.s [26,28] [29] kr kr ?_;refine rC 2 (dh cb0 p2 ad1 p1 cap2 a0 a1 a2 a4) f (oA 3 aE<|oX (db cb0) (Ap kr)<|A4) λa f=>?_;refine Af ?_;refine all_cons ?_ (B4);refine qs 3 2 0 (iv a1) f l rfl λw a f l=>⟨⟨l.pk [0],(l.fz g 1)⟩,?_⟩;refine WT.s [31] [32] kr kr ?_;refine qC 1 [(56,ao cb0)] f (oX (da cb0) (Ap kr)<|A4) λa f=>?_;refine Af ?_;refine all_cons ?_ (B4);refine qs 3 2 1 (iv a2) f l rfl λw a f l=>⟨⟨l.pk [0],(l.fz g 1)⟩,?_⟩;refine WT.z [34] kr ?_;refine qC 1 [(58,am cb0)] f (oX (cz cb0) (Ap kr)<|A4) λa f=>?_;refine Af ?_;replace l:St w0 (blk aA 127 aB.ar::fz w0 μ::nj cb0 a1 a2 a3::T_) w:=l;exact ⟨f.sb,l⟩
    ·refine obK (T:=Ext) (s:=(ot cb0)) (v:=iv a3) [aq cb0,(2,iv p2),cl ad1 p1 cap2,fx p1,cj a0,mJ cb0,kh a7,mX a2,(48,iv a3),lw a9,ij cb0,ia cb0,gz cb0] f kr ⟨kr⟩ (ob1 kr (λ_ y=>(l.at_ y).cell (i:=2) (j:=2) rfl rfl)) ⟨kr⟩ λa f=>⟨⟨l.pk [0],(l.fz g 1)⟩,?_⟩;refine WT.s [26] [6] kr kr ?_;refine rC 1 [aq cb0,(2,iv p2),cl ad1 p1 cap2,fx p1,cj a0,mJ cb0,kh a7,mX a2,kx a4,ij cb0,ia cb0,gz cb0] f (oA 3 aE<|A4) λa f=>?_;refine Af ?_;refine all_cons ?_ (B4);refine obK (T:=Ext) (s:=(kp cb0)) (v:=iv a5) [aq cb0,(2,iv p2),cl ad1 p1 cap2,fx p1,cj a0,mY a5,kh a7,mX a2,kx a4,ij cb0,ia cb0,gz cb0] f kr ⟨kr⟩ (ob1 kr (λ_ y=>(l.at_ y).cell (i:=2) (j:=0) rfl rfl)) ⟨kr⟩ λa f=>⟨⟨l.pk [0],(l.fz g 1)⟩,?_⟩;refine WT.s [10,28] [29] kr kr ?_;refine rC 2 (dh cb0 p2 ad1 p1 cap2 a0 a1 a2 a4) f (oA 3 aC<|oX (db cb0) (Ap kr)<|A4) λa f=>?_;refine Af ?_;refine all_cons ?_ (B4);refine qs 3 2 0 (iv a1) f l rfl λw a f l=>⟨⟨l.pk [0],(l.fz g 1)⟩,?_⟩;refine WT.s [31] [32] kr kr ?_;refine qC 1 [(56,ao cb0)] f (oX (da cb0) (Ap kr)<|A4) λa f=>?_;refine Af ?_;refine all_cons ?_ (B4);refine qs 3 2 1 (iv a2) f l rfl λw a f l=>⟨⟨l.pk [0],(l.fz g 1)⟩,?_⟩;refine WT.z [34] kr ?_;refine qC 1 [(58,am cb0)] f (oX (cz cb0) (Ap kr)<|A4) λa f=>?_;refine Af ?_;replace l:St w0 (blk aA 127 aB.ar::fz w0 μ::nj cb0 a1 a2 a3::T_) w:=l;exact ⟨f.sb,l⟩
   ·refine obK (T:=Ext) (s:=(ot cb0)) (v:=iv a3) [aq cb0,(2,iv p2),cl ad1 p1 cap2,fx p1,cj a0,mJ cb0,kh a7,ox cb0,ml a8,(48,iv a3),lw a9,ij cb0,ia cb0,gz cb0] f kr ⟨kr⟩ (ob1 kr (λ_ y=>(l.at_ y).cell (i:=2) (j:=2) rfl rfl)) ⟨kr⟩ λa f=>⟨⟨l.pk [0],(l.fz g 1)⟩,?_⟩;refine WT.s [26] [6,14] kr kr ?_;refine rC 1 [aq cb0,(2,iv p2),cl ad1 p1 cap2,fx p1,cj a0,mJ cb0,kh a7,ox cb0,ml a8,kx a4,ij cb0,ia cb0,gz cb0] f (oA 3 aE<|A4) λa f=>?_;refine Af ?_;refine all_cons ?_ (all_cons ?_ (B4))
    ·refine obK (T:=Ext) (s:=(kp cb0)) (v:=iv a5) [aq cb0,(2,iv p2),cl ad1 p1 cap2,fx p1,cj a0,mY a5,kh a7,ox cb0,ml a8,kx a4,ij cb0,ia cb0,gz cb0] f kr ⟨kr⟩ (ob1 kr (λ_ y=>(l.at_ y).cell (i:=2) (j:=0) rfl rfl)) ⟨kr⟩ λa f=>⟨⟨l.pk [0],(l.fz g 1)⟩,?_⟩;refine WT.s [10] [14] kr kr ?_;refine rC 1 [aq cb0,(2,iv p2),cl ad1 p1 cap2,fx p1,cj a0,mI a1,ox cb0,ml a8,kx a4,ij cb0,ia cb0,gz cb0] f (oA 3 aC<|A4) λa f=>?_;refine Af ?_;refine all_cons ?_ (B4);refine obK (T:=Ext) (s:=(lz cb0)) (v:=iv a6) [aq cb0,(2,iv p2),cl ad1 p1 cap2,fx p1,cj a0,mI a1,(40,iv a6),ml a8,kx a4,ij cb0,ia cb0,gz cb0] f kr ⟨kr⟩ (ob1 kr (λ_ y=>(l.at_ y).cell (i:=2) (j:=1) rfl rfl)) ⟨kr⟩ λa f=>⟨⟨l.pk [0],(l.fz g 1)⟩,?_⟩;refine WT.s [18,28] [29] kr kr ?_;refine rC 2 (dh cb0 p2 ad1 p1 cap2 a0 a1 a2 a4) f (oA 3 aD<|oX (db cb0) (Ap kr)<|A4) λa f=>?_;refine Af ?_;refine all_cons ?_ (B4);refine qs 3 2 0 (iv a1) f l rfl λw a f l=>⟨⟨l.pk [0],(l.fz g 1)⟩,?_⟩;refine WT.s [31] [32] kr kr ?_;refine qC 1 [(56,ao cb0)] f (oX (da cb0) (Ap kr)<|A4) λa f=>?_;refine Af ?_;refine all_cons ?_ (B4);refine qs 3 2 1 (iv a2) f l rfl λw a f l=>⟨⟨l.pk [0],(l.fz g 1)⟩,?_⟩;refine WT.z [34] kr ?_;refine qC 1 [(58,am cb0)] f (oX (cz cb0) (Ap kr)<|A4) λa f=>?_;refine Af ?_;replace l:St w0 (blk aA 127 aB.ar::fz w0 μ::nj cb0 a1 a2 a3::T_) w:=l;exact ⟨f.sb,l⟩
    ·refine obK (T:=Ext) (s:=(lz cb0)) (v:=iv a6) [aq cb0,(2,iv p2),cl ad1 p1 cap2,fx p1,cj a0,mJ cb0,kh a7,(40,iv a6),ml a8,kx a4,ij cb0,ia cb0,gz cb0] f kr ⟨kr⟩ (ob1 kr (λ_ y=>(l.at_ y).cell (i:=2) (j:=1) rfl rfl)) ⟨kr⟩ λa f=>⟨⟨l.pk [0],(l.fz g 1)⟩,?_⟩;refine WT.s [18] [6] kr kr ?_;refine rC 1 [aq cb0,(2,iv p2),cl ad1 p1 cap2,fx p1,cj a0,mJ cb0,kh a7,mX a2,kx a4,ij cb0,ia cb0,gz cb0] f (oA 3 aD<|A4) λa f=>?_;refine Af ?_;refine all_cons ?_ (B4);refine obK (T:=Ext) (s:=(kp cb0)) (v:=iv a5) [aq cb0,(2,iv p2),cl ad1 p1 cap2,fx p1,cj a0,mY a5,kh a7,mX a2,kx a4,ij cb0,ia cb0,gz cb0] f kr ⟨kr⟩ (ob1 kr (λ_ y=>(l.at_ y).cell (i:=2) (j:=0) rfl rfl)) ⟨kr⟩ λa f=>⟨⟨l.pk [0],(l.fz g 1)⟩,?_⟩;refine WT.s [10,28] [29] kr kr ?_;refine rC 2 (dh cb0 p2 ad1 p1 cap2 a0 a1 a2 a4) f (oA 3 aC<|oX (db cb0) (Ap kr)<|A4) λa f=>?_;refine Af ?_;refine all_cons ?_ (B4);refine qs 3 2 0 (iv a1) f l rfl λw a f l=>⟨⟨l.pk [0],(l.fz g 1)⟩,?_⟩;refine WT.s [31] [32] kr kr ?_;refine qC 1 [(56,ao cb0)] f (oX (da cb0) (Ap kr)<|A4) λa f=>?_;refine Af ?_;refine all_cons ?_ (B4);refine qs 3 2 1 (iv a2) f l rfl λw a f l=>⟨⟨l.pk [0],(l.fz g 1)⟩,?_⟩;refine WT.z [34] kr ?_;refine qC 1 [(58,am cb0)] f (oX (cz cb0) (Ap kr)<|A4) λa f=>?_;refine Af ?_;replace l:St w0 (blk aA 127 aB.ar::fz w0 μ::nj cb0 a1 a2 a3::T_) w:=l;exact ⟨f.sb,l⟩
  rintro a w ⟨f,l⟩;refine SK.wi (Lk (t:=3) [aq cb0,(2,iv p2),cl ad1 p1 cap2,fx p1,cj a0] 2 2 (iv a4) #[iv a1,iv a2,iv a4] f l rfl kr ⟨kr⟩ kr kr kr kr ⟨kr⟩ λw a f l=>Al rfl (A8<|A5<|?_));obtain ⟨aI,aO,h⟩:=A7 h;refine A3<|ro 2 2 [aq cb0,(2,iv p2),cl ad1 p1 cap2,fx p1,cj aI] f (oA 3 aO<|A4) λa f=>wf ?_;rw [hk1] at h;exact ⟨nk1,A9 _,a1,a2,a4,aI,f.sb,l.d0,h⟩
 ·refine Ai (Aa<|Aa<|As<|?_);refine Ql f rfl ?_;cases h;replace l:=l;exact ⟨_,rfl,μ,x,g,rfl,l⟩
theorem Mu (F:Nat) (p0 p1 res:Int) (h:L8 F p0 p1=some res) (μ:Frz) (w0:World) (hm:ek μ w0):CP 86 #[iv p0,iv p1] w0 (iv res):=by
 obtain ⟨l,s⟩:=hm.init;rw [L8] at h;refine feW Tryz.func86 17 [(0,iv p0),(1,iv p1)] s λa w f s=>?_;refine qnB [] f λa f=>?_;obtain ⟨x1,hx1,h⟩:=A7 h;refine esr<|qo 4 4 [(5,iv x1)] f (oQ 3 hx1<|A4) λa f=>wf ?_;obtain ⟨x2,hx2,h⟩:=A7 h;refine Ak<|esr<|qo 5 5 [(13,.bool (decide (x2>p0)))] f (oM 3 hx2<|A4) λa f=>wf ?_;refine Ab f h (λc h=>?_) λc h=>?_
 ·obtain ⟨x3,hx3,h⟩:=A7 h;refine A3<|ro 3 3 [(5,iv x3)] f (oS 3 hx3<|A4) λa f=>wf ?_;refine rnB [(4,iv x3)] f λa f=>?_;cases h;exact A6 (wrX 4 f s)
 ·refine wK<|rnB [(4,iv x1)] f λa f=>?_;cases h;exact A6 (wrX 4 f s)
theorem N8 (F:Nat) (p0:zT) (p1:Int) (res:Bool) (h:Ch F p0 p1=some res) (μ:Frz) (w0:World) (hm:ek μ w0):CP 91 #[p0.ag,iv p1] w0 (.bool res):=by
 obtain ⟨l,s⟩:=hm.init;rw [Ch] at h;refine feW Tryz.func91 16 [(0,p0.ag),(1,iv p1)] s λa w f s=>?_;refine esr<|SK.wi (qBa 187 p0.ar (λb1=>(nV b1)) f s λb1 w a f s=>?_);refine qn 1 2 [] f λa f=>wf ?_;obtain ⟨x2,hx2,x3,hx3,h⟩:=C9 h;refine esr<|ro 12 12 [(4,.bool (bif (p0.count==0) then true else (decide (x3<32768))))] f (oU 3 0 3 s.i<|oGs [⟨8,false,(p0.count==0)⟩] (oU 3 0 1 s.i<|A4)<|oX (.run [⟨8,false,(p0.count==0)⟩] (binOp .mul 3 (iv 4) (iv p1)) (iv x2)) (B29 (λhk=>C8 hx2 hk))<|oX (.run [⟨8,false,(p0.count==0)⟩] (binOp .add 3 (iv p0.width) (iv x2)) (iv x3)) (A6m (λhk=>C8 hx3 hk))<|A4) λa f=>wf ?_;cases h;exact A6 (wrX 4 f s)
theorem Jw (p0 p1 p2:Int) (res:Bool) (h:Bk p0 p1 p2=res) (μ:Frz) (w0:World) (hm:ek μ w0):CP 93 #[iv p0,iv p1,iv p2] w0 (.bool res):=by
 obtain ⟨l,s⟩:=hm.init;rw [Bk] at h;refine feW Tryz.func93 15 [(0,iv p0),(1,iv p1),(2,iv p2)] s λa w f s=>?_;refine qnB [] f λa f=>?_;refine rnB [(6,.bool (bif (decide (p1<=p0)) then (decide (p0<=p2)) else false))] f λa f=>?_;refine A6 (Di 6 f rfl ?_);subst h;exact ⟨rfl,s.ext⟩
theorem Wf (F:Nat) (p0:Int) (c0_:zC) (c1_ c2_:bp) (res:Int) (h:Ho F p0 c0_ c1_ c2_=some res) (μ:Frz) (w0:World) (hm:ek μ w0) {ad1 cap2 css3 cb1 ad5 cap6 cb2 ad8 cap9 cb3} (hcb1:BlkM μ cb1 98 (c0_.ax ad1 cap2)) (hA4:fh μ ad1 cap2 css3 c0_) (hcb2:BlkM μ cb2 54 #[sv ad5 c1_ cap6]) (hA7:ArrM μ 1 fI ad5 cap6 c1_) (hcb3:BlkM μ cb3 54 #[sv ad8 c2_ cap9]) (a0:ArrM μ 1 fI ad8 cap9 c2_):CP 100 #[iv p0,pb cb1,pb cb2,pb cb3] w0 (iv res):=by
 obtain ⟨l,s⟩:=hm.init;rw [Ho] at h;refine feW Tryz.func100 27 [(0,iv p0),fq cb1,dl cb2,fl cb3] s λa w f s=>?_;refine qnB [] f λa f=>?_;refine Ak<|qoB [(8,.bool (c0_.Op==4))] f (oV 3 0 hcb1 (s.fA l 0)<|A4) λa f=>?_;refine Ab f h (λc h=>?_) λc h=>?_
 ·obtain ⟨a5,a1,a6,a2,h⟩:=C9 h;refine Ak<|rDs 10 [(5,iv (if a6>a5 then a6 else a5))] f s (oV 54 0 hcb2 (s.fD l 0)<|oI 54 (hA7 _ (s.fz l 0)) a1<|oE 3 0 D8 (λ_ d=>(hA7 _ (s.fd d l 0))) a1 rfl<|oV 54 0 hcb3 (s.fD l 0)<|oI 54 (a0 _ (s.fz l 0)) a2<|oE 3 0 D8 (λ_ d=>(a0 _ (s.fd d l 0))) a2 rfl<|A4) λa w f s=>?_;cases h;exact wf<|A6 (Aj<|wrX 5 f s)
 ·obtain ⟨a7,a3,a8,a4,h⟩:=C9 h;refine wK<|Ak<|rDs 10 [(5,iv (if a8<a7 then a8 else a7))] f s (oV 54 0 hcb2 (s.fD l 0)<|oI 54 (hA7 _ (s.fz l 0)) a3<|oE 3 0 D8 (λ_ d=>(hA7 _ (s.fd d l 0))) a3 rfl<|oV 54 0 hcb3 (s.fD l 0)<|oI 54 (a0 _ (s.fz l 0)) a4<|oE 3 0 D8 (λ_ d=>(a0 _ (s.fd d l 0))) a4 rfl<|A4) λa w f s=>?_;cases h;exact wf<|A6 (wrX 5 f s)
theorem V6 (F:Nat) (p0:zV) (res:Int) (h:J9 F p0=some res) (μ:Frz) (w0:World) (hm:ek μ w0):CP 45 #[p0.ag] w0 (iv res):=by
 obtain ⟨l,s⟩:=hm.init;rw [J9] at h;refine feW Tryz.func45 19 [(0,p0.ag)] s λa w f s=>?_;refine esr<|SK.wi (qBa 86 p0.ar (λb1=>(mR b1)) f s λb1 w a f s=>?_);refine qn 1 2 [] f λa f=>wf ?_;refine Ak<|esr<|rXs 16 16 [(18,.bool (bif (bif (!(Ag p0.Level 0 64)) then true else (!(Ag p0.Phase 0 4096))) then true else (!(Aq p0.Noise 0 1048576))))] f s (oU 3 0 0 s.e<|oK (C5 p0.Level 0 64 _ rfl)<|oGs [⟨7,false,(!(Ag p0.Level 0 64))⟩] (oU 3 0 1 s.e<|oK (C5 p0.Phase 0 4096 _ rfl)<|A4)<|oGs [⟨13,false,(bif (!(Ag p0.Level 0 64)) then true else (!(Ag p0.Phase 0 4096)))⟩] (oW 63 0 2 2 s.e<|oK (Mq p0.Noise 0 1048576 _ rfl)<|A4)<|A4) λa w f s=>?_;refine wf<|Ab f h (λc h=>?_) λc h=>?_
 ·refine Ak ?_
  cases h
 ·refine wK<|rnB [(2,iv 0)] f λa f=>?_;cases h;exact A6 (wrX 2 f s)
theorem Y9 (F:Nat) (p0:zX) (res:Int) (h:Nd F p0=some res) (μ:Frz) (w0:World) (hm:ek μ w0):CP 50 #[p0.ag] w0 (iv res):=by
 obtain ⟨l,s⟩:=hm.init;rw [Nd] at h;refine feW Tryz.func50 38 [(0,p0.ag)] s λa w f s=>?_;refine esr<|SK.wi (qBa 37 p0.ar (λb1=>(mR b1)) f s λb1 w a f s=>?_);refine qn 1 2 [] f λa f=>wf ?_;obtain ⟨y2,hy2,h⟩:=A7 h;refine Ak<|A0<|esr<|qxs 5 5 [(3,.bool (!y2))] f s (oU 9 0 0 s.e<|oK (Ya F p0.Name _ hy2)<|A4) λa w f s=>?_;refine wf<|Ab f h (λc h=>?_) λc h=>?_
 ·refine rnB [(2,iv 10)] f λa f=>?_;cases h;exact A6 (Ax<|Aj<|wrX 2 f s)
 ·refine C1 (λa w=>∃(c3:Bool),Fr 38 [] [(1,pb b1),(8,.bool c3)] a/\St w0 [blk b1 37 p0.ar,fz w0 μ] w/\Hl p0 c3=some res) ?_ ?_
  ·refine esr<|qxs 5 5 [(8,.bool (!(Bk p0.X (-1048576) 1048576)))] f s (oU 3 0 1 s.e<|oK (Jw p0.X (-1048576) 1048576 _ rfl)<|A4) λa w f s=>?_;refine wf<|Ab f h (λc h=>?_) λc h=>?_
   ·exact wK<|⟨!(Bk p0.X (-1048576) 1048576),f.sb,s.pk [0,1],h⟩
   ·refine esr<|qxs 5 5 [(8,.bool (!(Bk p0.Y (-1048576) 1048576))),dp 8] f s (oU 3 0 2 s.e<|oK (Jw p0.Y (-1048576) 1048576 _ rfl)<|A4) λa w f s=>?_;refine wf<|Ab f h (λc h=>?_) λc h=>?_
    ·exact wK<|⟨!(Bk p0.Y (-1048576) 1048576),f.sb,s.pk [0,1],h⟩
    ·refine A3<|qxs 5 5 [(8,.bool (!(Bk p0.Z 0 20000))),dp 8] f s (oU 3 0 3 s.e<|oK (Jw p0.Z 0 20000 _ rfl)<|A4) λa w f s=>?_;exact wf<|⟨!(Bk p0.Z 0 20000),f.sb,s.pk [0,1],h⟩
  rintro a w ⟨c3,f,s,h⟩;rw [Hl] at h;refine Ab f h (λc h=>?_) λc h=>?_
  ·refine rnB [(2,iv 3)] f λa f=>?_;cases h;exact A6 (Ax<|Aj<|wrX 2 f s)
  ·refine C1 (λa w=>∃(c4:Bool),Fr 38 [] [(21,.bool c4)] a/\St w0 [blk b1 37 p0.ar,fz w0 μ] w/\Hm c4=some res) ?_ ?_
   ·refine esr<|qxs 5 5 [(21,.bool (!(Bk p0.Rose 1 90))),dp 8] f s (oU 3 0 4 s.e<|oK (Jw p0.Rose 1 90 _ rfl)<|A4) λa w f s=>?_;refine wf<|Ab f h (λc h=>?_) λc h=>?_
    ·exact wK<|⟨!(Bk p0.Rose 1 90),f.sb,s.pk [0,1],h⟩
    ·refine esr<|qxs 5 5 [(21,.bool (!(Bk p0.Gates 1 200))),dp 21] f s (oU 3 0 5 s.e<|oK (Jw p0.Gates 1 200 _ rfl)<|A4) λa w f s=>?_;refine wf<|Ab f h (λc h=>?_) λc h=>?_
     ·exact wK<|⟨!(Bk p0.Gates 1 200),f.sb,s.pk [0,1],h⟩
     ·refine esr<|qxs 5 5 [(21,.bool (!(Bk p0.Step 50 2000))),dp 21] f s (oU 3 0 6 s.e<|oK (Jw p0.Step 50 2000 _ rfl)<|A4) λa w f s=>?_;refine wf<|Ab f h (λc h=>?_) λc h=>?_
      ·exact wK<|⟨!(Bk p0.Step 50 2000),f.sb,s.pk [0,1],h⟩
      ·refine A3<|rXs 5 5 [(21,.bool (!(Bk p0.Width 0 8)))] f s (oU 3 0 7 s.e<|oK (Jw p0.Width 0 8 _ rfl)<|A4) λa w f s=>?_;exact wf<|⟨!(Bk p0.Width 0 8),f.sb,s.pk [0,1],h⟩
   rintro a w ⟨c4,f,s,h⟩;rw [Hm] at h;refine Ab f h (λc h=>?_) λc h=>?_
   ·refine rnB [(2,iv 3)] f λa f=>?_;cases h;exact A6 (Ax<|Aj<|wrX 2 f s)
   ·refine Am (A8<|A5<|?_);refine rnB [(2,iv 0)] f λa f=>?_;cases h;exact A6 (wrX 2 f s)
theorem Z4:∀(F:Nat) (p0:zC) (res:ByteArray) (h:M3 F p0=some res) (μ:Frz) (w0:World) (hm:ek μ w0) {ad1 cap2 css3} (hA4:fh μ ad1 cap2 css3 p0) (hG:GlM μ),CP 52 #[.agg (p0.ax ad1 cap2)] w0 (ak res):=by
 intro F
 induction F with
 | zero =>
  intro p0 res h
  exact nS h
 | succ F ih =>
  intro p0 res h μ w0 hm ad1 cap2 css3 hA4 hG;obtain ⟨x,g⟩:=hm.init;replace h:Hj F (M3 F) p0=some res:=h;obtain ⟨self_,hself⟩:∃s,s=M3 F:=⟨_,rfl⟩;rw [←hself,Hj] at h;refine feW Tryz.func52 78 [(0,.agg (p0.ax ad1 cap2))] g λa w l g=>?_;refine esr<|SK.wi (qBa 98 (p0.ax ad1 cap2) (λb5=>(mR b5)) l g λb5 w a l g=>?_);refine qn 1 2 [] l λa l=>wf ?_;obtain ⟨u6,hu6,h⟩:=A7 h;refine Ak<|qDs 5 [(3,ak u6)] l g (oK (Pt  _ rfl)<|oU 3 0 0 g.e<|oX (.run [] (Instr.index 192 (ku) (iv p0.Op)) (ak u6)) (A0u (f:=Value.string) kr kr (λ_=>hu6))<|A4) λa w l g=>?_;refine wf<|Ak<|A0<|qoB [(8,.bool (p0.Op==14))] l (oU 3 0 0 g.i<|A4) λa l=>?_;refine Ab l h (λc h=>?_) λc h=>?_
  ·obtain ⟨y7,hy7,h⟩:=A7 h;refine esr<|rXs 4 4 [(2,ak y7)] l g (oU 3 0 1 g.e<|oC (λw2 d=>Sp F p0.Value_ _ hy7 _ w2 (g.fd d x 1) hG)<|A4) λa w l g=>?_;cases h;exact wf<|A6 (Ax<|Aj<|wrX 2 l g)
  ·refine qoB [(15,.bool (p0.Op==3))] l (oU 3 0 0 g.i<|A4) λa l=>?_;refine Ab l h (λc h=>?_) λc h=>?_
   ·refine Ak ?_
    cases h
   ·refine qoB [(27,.bool ((jk p0)==1))] l (oU 96 0 4 g.i<|A4) λa l=>?_;refine Ab l h (λc h=>?_) λc h=>?_
    ·obtain ⟨s8,hs8,y9,hy9,a5,aK,h⟩:=Cg h;obtain ⟨a6,aL,b6,aY,a7,aM,h⟩:=Cg h;obtain ⟨a8,aN,b2,aV,h⟩:=C9 h;obtain ⟨bG,a2,aH⟩:=An hA4.2 aV;obtain ⟨bA,bD,bJ,rfl,aE⟩:=aH.out;obtain ⟨b7,aZ,a9,aO,h⟩:=C9 h;refine Ak<|rDs 19 [(2,ak a9)] l g (oX (fp u6 s8) (Kj (λ_=>hs8))<|oU 3 0 2 g.e<|oC (λw2 d=>Sp F p0.Rays _ hy9 _ w2 (g.fd d x 1) hG)<|oX (jd s8 y9 a5) (Kj (λ_=>aK))<|oX (fp a5 a6) (Kj (λ_=>aL))<|oU 3 0 3 g.e<|oC (λw2 d=>Sp F p0.Gates _ aY _ w2 (g.fd d x 1) hG)<|oX (jd a6 b6 a7) (Kj (λ_=>aM))<|oX (fp a7 a8) (Kj (λ_=>aN))<|oU 96 0 4 g.e<|oI 96 (hA4.at (g.fz x 1)) a2<|oG 98 0 5 (Ba 5) (hA4.a1 (g.fD x 1)) a2<|oC (λw2 d=>ih b2 _ (by rw [←hself];exact aZ) _ w2 (g.fd d x 1) aE hG)<|oX (jd a8 b7 a9) (Kj (λ_=>aO))<|A4) λa w l g=>?_;cases h;exact wf<|A6 (Ax<|Aj<|wrX 2 l g)
    ·refine qoB [(50,.bool ((jk p0)==0))] l (oU 96 0 4 g.i<|A4) λa l=>?_;refine Ab l h (λc h=>?_) λc h=>?_
     ·refine rnB [(2,ak u6)] l λa l=>?_;cases h;exact A6 (Ax<|Aj<|wrX 2 l g)
     ·refine Am (A8<|A5<|?_);obtain ⟨b3,aW,h⟩:=A7 h;obtain ⟨bH,a3,aI⟩:=An hA4.2 aW;obtain ⟨bB,bE,bK,rfl,aF⟩:=aI.out;obtain ⟨b8,b0,aA,aP,aB,aQ,h⟩:=Cg h;obtain ⟨aC,aR,b4,aX,h⟩:=C9 h;obtain ⟨bI,a4,aJ⟩:=An hA4.2 aX;obtain ⟨bC,bF,bL,rfl,aG⟩:=aJ.out;obtain ⟨b9,b1,a0,aS,h⟩:=C9 h;refine Ak<|qDs 16 [(3,ak a0),dp 3] l g (oU 96 0 4 g.e<|oI 96 (hA4.at (g.fz x 1)) a3<|oG 98 0 5 (Ba 5) (hA4.a1 (g.fD x 1)) a3<|oC (λw2 d=>ih b3 _ (by rw [←hself];exact b0) _ w2 (g.fd d x 1) aF hG)<|oX (fp b8 aA) (Kj (λ_=>aP))<|oX (jd aA u6 aB) (Kj (λ_=>aQ))<|oX (fp aB aC) (Kj (λ_=>aR))<|oU 96 0 4 g.e<|oI 96 (hA4.at (g.fz x 1)) a4<|oG 98 0 5 (Ba 5) (hA4.a1 (g.fD x 1)) a4<|oC (λw2 d=>ih b4 _ (by rw [←hself];exact b1) _ w2 (g.fd d x 1) aG hG)<|oX (jd aC b9 a0) (Kj (λ_=>aS))<|A4) λa w l g=>?_;refine wf<|Ak<|qoB [(73,.bool (decide (p0.Op<14)))] l (oU 3 0 0 g.i<|A4) λa l=>?_;refine Ab l h (λc h=>?_) λc h=>?_
      ·obtain ⟨aD,aT,a1,aU,h⟩:=C9 h;refine A3<|ro 4 4 [(3,ak a1)] l (oX (.run [] (binOp .add 9 (.string (⟨#[40]⟩:ByteArray)) (ak a0)) (ak aD)) (Kj (λ_=>aT))<|oX (.run [] (binOp .add 9 (ak aD) (.string (⟨#[41]⟩:ByteArray))) (ak a1)) (Kj (λ_=>aU))<|A4) λa l=>wf ?_;refine rnB [(2,ak a1)] l λa l=>?_;cases h;exact A6 (wrX 2 l g)
      ·refine wK<|rnB [(2,ak a0)] l λa l=>?_;cases h;exact A6 (wrX 2 l g)
theorem Qj (F:Nat) (p0 p1:ByteArray) (res:Bool) (h:E3 F p0 p1=some res) (μ:Frz) (w0:World) (hm:ek μ w0):CP 112 #[ak p0,ak p1] w0 (.bool res):=by
 obtain ⟨l,s⟩:=hm.init;rw [E3] at h;refine feW Tryz.func112 18 [(0,ak p0),(1,ak p1)] s λa w f s=>?_;refine qnB [] f λa f=>?_;refine esr<|qn 6 6 [(10,.bool (decide (((p0.size:Nat):Int)>=((p1.size:Nat):Int))))] f λa f=>?_;rcases bft ((decide (((p0.size:Nat):Int)>=((p1.size:Nat):Int)))) with hg1|hg1
 ·replace h:=Dt h hg1;rw [hg1] at f;obtain ⟨s2,hs2,h⟩:=A7 h;refine ro 8 14 [(4,.bool (sEq s2 p1))] f (oGs [⟨10,true,true⟩] (oX (.run [] (Instr.sliceAt 9 (ak p0) none (some (iv ((p1.size:Nat):Int))) none) (ak s2)) (Ep kr (λ_=>hs2))<|oX (jz s2 p1) Xe<|A4)<|A4) λa f=>wf ?_;cases h;exact A6 (wrX 4 f s)
 ·replace h:=Dr h hg1;rw [hg1] at f;refine qk 7 [(10,az),(11,undef)] f λa f=>?_;refine qks 12 [16,15,14,13,12] f λa f=>?_;refine rn 2 14 [(4,az)] f λa f=>wf ?_;cases h;exact A6 (wrX 4 f s)
theorem Si (F:Nat) (p0:(List ByteArray)) (p1:ByteArray) (res:Int) (h:G5 F p0 p1=some res) (μ:Frz) (w0:World) (hm:ek μ w0) {ad1 cap2} (hA3:ArrM μ 1 B0z ad1 cap2 p0):CP 114 #[sv ad1 p0 cap2,ak p1] w0 (iv res):=by
 obtain ⟨l,s⟩:=hm.init;rw [G5] at h;refine feW Tryz.func114 19 [dx ad1 p0 cap2,(1,ak p1)] s λa w f s=>?_;refine qnB [] f λa f=>?_;refine C1 (λa w=>Fr 19 [] [] a/\St w0 [fz w0 μ] w/\Hk=some res) ?_ ?_
 ·refine qnB [(7,au p0),(8,iv 0)] f λa f=>?_;refine A0<|C2 (λn_ a w=>∃(a0:Int),Fr 19 [] [dx ad1 p0 cap2,(1,ak p1),(7,au p0),(8,iv a0)] a/\St w0 [fz w0 μ] w/\Cr p0 p1 n_ a0=some res) F ⟨0,f.sb,s.pk [0],h⟩ ?_;rintro nk2 a w ⟨a0,f,s,h⟩;rcases nk2 with _|nk2
  ·exact nS h
  obtain ⟨k2,hk2,h⟩:∃k2,k2=Cr p0 p1 nk2/\D9 p0 p1 k2 a0=some res:=⟨_,rfl,h⟩
  rw [D9] at h;refine qnB [(9,bm a0 p0)] f λa f=>?_;refine Ak<|Ab f h (λc h=>?_) λc h=>?_
  ·refine wK<|Ak<|A0<|qnB [(5,iv a0)] f λa f=>?_;obtain ⟨a1,a2,h⟩:=A7 h;refine esr<|qo 6 6 [(16,.bool (sEq p1 a1))] f (oI 83 (hA3 _ (s.fz l 0)) a2<|oE 9 0 A1a (λ_ d=>(hA3 _ (s.fa d l 0))) a2 rfl<|oX (jz p1 a1) Xe<|A4) λa f=>wf ?_;refine Ab f h (λc h=>?_) λc h=>?_
   ·refine rnB [(4,iv a0)] f λa f=>?_;cases h;exact A6 (Ax<|Aj<|Aj<|Ax<|Aj<|wrX 4 f s)
   ·refine Am (A8<|A5<|?_);obtain ⟨a3,a4,h⟩:=A7 h;refine A3<|qo 2 2 [(8,iv a3),dp 8] f (oA 3 a4<|A4) λa f=>wf ?_;rw [hk2] at h;exact ⟨nk2,A9 _,a3,f.sb,s.pk [0],h⟩
  ·refine Ai (Aa<|Aa<|As<|A5 ?_);exact ⟨f.sb,s.pk [0],h⟩
 rintro a w ⟨f,s,h⟩;rw [Hk] at h;refine rnB [(4,iv (-1))] f λa f=>?_;cases h;exact A6 (wrX 4 f s)
theorem V5 {σ γ:Type} (F:Nat) (c0_:ll) (c1_ c2_ c3_:Int) (body:σ->Int->Option (σ×Bool)) (s_:σ) (res:σ×Bool) (h:J8 F c0_ c1_ c2_ c3_ body s_=some res) (l_:Nat) (μ:Frz) (w0 w1:World) (RC:σ->Bool->γ->List Res) (PC:σ->Bool->γ->Frz->Prop) (hPm:∀s b g μ ν,PC s b g μ->μ.le ν->PC s b g ν) (hy:∀(s:σ) (x:Int) (q:σ×Bool),body s x=some q->∀(ν:Frz) (g:γ) (G:List Res) (w:World),μ.ext w0.heap.size ν->Ar w0 ν->PC s true g ν->St w0 (fz w0 ν::(RC s true g++G)) w->Eng.Yields Tryz.prog l_ #[iv x] w (λc w2=>c=q.2/\∃ν2 g2,ν.ext w0.heap.size ν2/\Ar w0 ν2/\PC q.1 q.2 g2 ν2/\St w0 (fz w0 ν2::(RC q.1 q.2 g2++G)) w2)) (g_:γ) (G_:List Res) (y:Ar w0 μ) (hP:PC s_ true g_ μ) (d:St w0 (fz w0 μ::(RC s_ true g_++G_)) w1) {cb1 cb2 cb3 cb4 pv1} (hcb1:BlkM μ cb1 93 #[nh pv1]) (hA2:PtM μ 137 Rp137 pv1 c0_) (hcb2:oD μ cb2 c1_) (hcb3:oD μ cb3 c2_) (hcb4:oD μ cb4 c3_):CL 124 #[dn l_,pb cb1,pb cb2,pb cb3,pb cb4] w1 (λe w=>∃(ν_:Frz) (g2_:γ),μ.ext w0.heap.size ν_/\Ar w0 ν_/\PC res.1 res.2 g2_ ν_/\e=.returned mi/\St w0 (fz w0 ν_::(RC res.1 res.2 g2_++G_)) w):=by
 rw [J8] at h;have z:=Frz.ext_refl w0.heap.size μ;refine feW Tryz.func124 84 [aj l_,fq cb1,dl cb2,fl cb3,ib cb4] d λa w f d=>?_;obtain ⟨d3,hd3,h⟩:=A7 h;obtain ⟨b4,cs5,hp6,hB7,hR8⟩:=PtM.some hA2 hd3;obtain ⟨ad9,aX,bI,bJ,bK,rfl,a7⟩:=hR8;refine Ak ?_;try rw [hp6] at f
 try rw [hp6] at d
 try rw [hp6] at hB7
 try rw [hp6] at hcb1
 try rw [hp6] at hcb2
 try rw [hp6] at hcb3
 try rw [hp6] at hcb4
 refine qDs 14 [(6,iv (ln d3.s.Rays)),(7,iv d3.s.Site.Gates)] f d (oV 93 0 hcb1 (d.fD y 0)<|oV 38 10 hB7 (d.fD y 0)<|oV 93 0 hcb1 (d.fD y 0)<|oV 3 5 hB7 (d.fD y 0)<|A4) λa w f d=>?_;obtain ⟨bG,aZ,a0,b0,h⟩:=C9 h;refine wf<|Ak<|qDs 8 [(8,iv bG),(9,iv a0)] f d (oV 3 0 hcb2 (d.fD y 0)<|oQ 3 aZ<|oV 3 0 hcb2 (d.fD y 0)<|oR 3 b0<|A4) λa w f d=>?_;obtain ⟨aP,b1,aQ,b2,h⟩:=C9 h;refine wf<|Ak<|qDs 8 [ex aP,ea aQ] f d (oV 3 0 hcb3 (d.fD y 0)<|oS 3 b1<|oV 3 0 hcb3 (d.fD y 0)<|oA 3 b2<|A4) λa w f d=>?_;refine wf<|C1 (λa w=>∃(aK a2:Int),Fr 84 [] [aj l_,dl cb2,ib cb4,(6,iv (ln d3.s.Rays)),(7,iv d3.s.Site.Gates),(9,iv a0),ex aK,ea a2] a/\St w0 (fz w0 μ::(RC s_ true g_++G_)) w/\Fx F body s_ c1_ c3_ d3 a0 aK a2=some res) ?_ ?_
 ·obtain ⟨bH,bE,h⟩:=A7 h;refine esr<|qo 5 5 [(43,.bool (decide (bH>=(ln d3.s.Rays))))] f (oS 3 bE<|A4) λa f=>wf ?_;refine Ab f h (λt h=>?_) λt h=>?_
  ·obtain ⟨aW,bF,h⟩:=A7 h;refine A3<|qo 4 4 [(10,iv 0),ea aW,dp 10,dp 11] f (oS 3 bF<|A4) λa f=>wf ?_;exact ⟨0,aW,f.sb,d,h⟩
  ·exact wK<|⟨aP,aQ,f.sb,d,h⟩
 rintro a w ⟨aK,a2,f,d,h⟩;rw [Fx] at h;refine qnB [cj aK,dp 10] f λa f=>?_;have aN:=Ae μ;refine A0<|C2 (λn_ a w=>∃(a1:Int) (aF:σ) (ν256:Frz) (aG:γ),Fr 84 [] [aj l_,dl cb2,ib cb4,(6,iv (ln d3.s.Rays)),(7,iv d3.s.Site.Gates),(9,iv a0),ea a2,cj a1] a/\St w0 (fz w0 ν256::(RC aF true aG++G_)) w/\(PC aF true aG ν256)/\(μ.le ν256)/\(μ.ext w0.heap.size ν256)/\(Ar w0 ν256)/\Df F body c1_ c3_ d3 a0 a2 n_ a1 aF=some res) F ⟨aK,s_,μ,g_,f.sb,d,hP,aN,z,y,h⟩ ?_
 clear aN
 rintro nk2 a w ⟨a1,aF,ν256,aG,f,d,hP,a3,z,y,h⟩;rcases nk2 with _|nk2
 ·exact nS h
 obtain ⟨hcb2,hcb4⟩:=mo2 a3 hcb2 hcb4;obtain ⟨k2,hk2,h⟩:∃k2,k2=Df F body c1_ c3_ d3 a0 a2 nk2/\Dd F body c1_ c3_ d3 a0 a2 k2 a1 aF=some res:=⟨_,rfl,h⟩
 rw [Dd] at h;refine Ak<|qnB [(49,.bool (decide (a1<=a2)))] f λa f=>?_;refine Ab f h (λt h=>?_) λt h=>?_
 ·have aE:=Ae ν256;refine wK<|C1 (λa w=>∃(aJ:σ) (ν316:Frz) (aL:γ),Fr 84 [] [aj l_,dl cb2,ib cb4,(6,iv (ln d3.s.Rays)),(7,iv d3.s.Site.Gates),(9,iv a0),ea a2,cj a1] a/\St w0 (fz w0 ν316::(RC aJ true aL++G_)) w/\(PC aJ true aL ν316)/\(ν256.le ν316)/\(μ.ext w0.heap.size ν316)/\(Ar w0 ν316)/\Fy a1 k2 aJ=some res) ?_ ?_
  ·obtain ⟨aM,b5,h⟩:=A7 h;refine A0<|esr<|qo 5 5 [(13,iv (if aM>0 then aM else 0))] f (oV 3 0 hcb4 (d.fA y 0)<|oS 3 b5<|A4) λa f=>wf ?_;have aO:=Ae ν256;refine A0<|C2 (λn_ a w=>∃(a6:Int) (a9:σ) (ν356:Frz) (aD:γ),Fr 84 [] [aj l_,dl cb2,ib cb4,(6,iv (ln d3.s.Rays)),(7,iv d3.s.Site.Gates),(9,iv a0),ea a2,cj a1,ik a6] a/\St w0 (fz w0 ν356::(RC a9 true aD++G_)) w/\(PC a9 true aD ν356)/\(ν256.le ν356)/\(μ.ext w0.heap.size ν356)/\(Ar w0 ν356)/\E6 body c1_ c3_ d3 a0 a1 k2 n_ a6 a9=some res) F ⟨if aM>0 then aM else 0,aF,ν256,aG,f.sb,d,hP,aO,z,y,h⟩ ?_
   clear aO
   rintro nk4 a w ⟨a6,a9,ν356,aD,f,d,hP,a4,z,y,h⟩;rcases nk4 with _|nk4
   ·exact nS h
   obtain ⟨hcb2,hcb4,aE⟩:=mo3 a4 hcb2 hcb4 aE;obtain ⟨k4,hk4⟩:∃k,k=E6 body c1_ c3_ d3 a0 a1 k2 nk4:=⟨_,rfl⟩;replace h:De body c1_ c3_ d3 a0 a1 k2 k4 a6 a9=some res:=by rw [hk4];exact h
   rw [De] at h;obtain ⟨aS,b6,aT,b7,h⟩:=C9 h;refine Ak<|esr<|qo 8 8 [(63,.bool (decide (a6<=(if aT<aS then aT else aS))))] f (oS 3 b6<|oV 3 0 hcb4 (d.fA y 0)<|oA 3 b7<|A4) λa f=>wf ?_;refine Ab f h (λt h=>?_) λt h=>?_
   ·obtain ⟨bL,b8,bM,b9,bN,bA,h⟩:=Cg h;obtain ⟨aC,bB,h⟩:=A7 h;refine wK<|Ak<|A0<|esr<|qo 10 10 [nU aC] f (oA 3 b8<|oR 3 b9<|oM 3 bA<|oA 3 bB<|A4) λa f=>wf ?_;refine esr<|qo 4 4 [(78,.bool (aC != c1_))] f (oV 3 0 hcb2 (d.fA y 0)<|A4) λa f=>?_;rcases bft ((aC != c1_)) with aI|aI
    ·replace h:=Dt h aI;rw [aI] at f;refine Yz (n:=2) (obs:=[]) 6 [(0,⟨[],dn l_⟩),(2,⟨[],pb cb2⟩),(4,⟨[],pb cb4⟩),(6,⟨[],iv (ln d3.s.Rays)⟩),(7,⟨[],iv d3.s.Site.Gates⟩),(9,⟨[],iv a0⟩),(11,⟨[],iv a2⟩),(12,⟨[],iv a1⟩),(13,⟨[],iv a6⟩),(78,⟨[],bi⟩),(79,⟨[⟨78,true,true⟩],dn l_⟩),(80,⟨[⟨78,true,true⟩],iv aC⟩)] f kr A4 ⟨kr⟩ kr rfl λa f=>?_;replace f:Fr 84 [] [aj l_,dl cb2,ib cb4,(6,iv (ln d3.s.Rays)),(7,iv d3.s.Site.Gates),(9,iv a0),ea a2,cj a1,ik a6,(78,bi),(79,dn l_),(80,iv aC)] a:=f;obtain ⟨aB,aY,h⟩:=A7 h;refine A28 (l:=l_) (args:=#[iv aC]) 7 (λbq_=>[aj l_,dl cb2,ib cb4,(6,iv (ln d3.s.Rays)),(7,iv d3.s.Site.Gates),(9,iv a0),ea a2,cj a1,ik a6,(78,bi),(81,.bool bq_)]) f kr ⟨kr⟩ (hy a9 aC aB aY ν356 aD (G_++[]) w  z y hP  (St.rot [] d)) (λ_=>⟨kr⟩) rfl ?_;rintro bq_ w a ⟨hc_,ν370,aH,a5,y,hP,d⟩ f;subst hc_;replace d:=St.unrot [] d;replace z:=z.t a5;replace a4:=a4.t a5.1;replace d:St w0 (fz w0 ν370::(RC aB.1 (aB.2) aH++G_)) w:=d;rcases bft (aB.2) with aA|aA
     ·replace h:=Dt h aA;rw [aA] at d hP;rw [aA] at f;replace d:St w0 (fz w0 ν370::(RC aB.1 true aH++G_)) w:=d;refine rn 2 9 [aj l_,dl cb2,ib cb4,(6,iv (ln d3.s.Rays)),(7,iv d3.s.Site.Gates),(9,iv a0),ea a2,cj a1,ik a6,(83,az)] f λa f=>wf ?_;refine wpIn_cond_false (f.get rfl) ?_;refine Am (A8<|A5<|?_);obtain ⟨aU,bC,h⟩:=A7 h;refine A3<|qo 3 3 [ik aU,dp 13] f (oA 3 bC<|A4) λa f=>wf ?_;rw [hk4] at h;exact ⟨nk4,A9 _,aU,aB.1,ν370,aH,f.sb,d,hP,a4,z,y,h⟩
     ·replace h:=Dr h aA;rw [aA] at d hP;rw [aA] at f;replace d:St w0 (fz w0 ν370::(RC aB.1 false aH++G_)) w:=d;refine rn 2 9 [aj l_,dl cb2,ib cb4,(6,iv (ln d3.s.Rays)),(7,iv d3.s.Site.Gates),(9,iv a0),ea a2,cj a1,ik a6,(83,bi)] f λa f=>wf ?_;refine wpIn_cond_true (f.get rfl) ?_;refine A6 (Ax<|Aj<|Aj<|Ax<|Ax<|Aj<|Aj<|Ax<|Bx [] [] f rfl trivial ?_);cases h;exact ⟨ν370,aH,z,y,hP,rfl,d⟩
    ·replace h:=Dr h aI;rw [aI] at f;refine qk 5 [(78,az),(79,undef)] f λa f=>?_;refine qks 8 [82,81,80] f λa f=>?_;refine qn 1 9 [(83,az)] f λa f=>wf ?_;refine wpIn_cond_false (f.get rfl) ?_;refine Am (A8<|A5<|?_);obtain ⟨aV,bD,h⟩:=A7 h;refine A3<|qo 3 3 [ik aV,dp 13] f (oA 3 bD<|A4) λa f=>wf ?_;rw [hk4] at h;exact ⟨nk4,A9 _,aV,a9,ν356,aD,f.sb,d,hP,a4,z,y,h⟩
   ·refine Ai (Aa<|Aa<|As<|A8<|A5<|?_);exact ⟨a9,ν356,aD,f.sb,d,hP,aE,z,y,h⟩
  clear aE
  rintro a w ⟨aJ,ν316,aL,f,d,hP,a8,z,y,h⟩;replace a3:=a3.t a8;rw [Fy] at h;obtain ⟨aR,b3,h⟩:=A7 h;refine A3<|qo 3 3 [cj aR,dp 12] f (oA 3 b3<|A4) λa f=>wf ?_;rw [hk2] at h;exact ⟨nk2,A9 _,aR,aJ,ν316,aL,f.sb,d,hP,a3,z,y,h⟩
 ·refine Ai (Aa<|Aa<|As<|?_);refine Ql f rfl ?_;cases h;exact ⟨ν256,aG,z,y,hP,rfl,d⟩
theorem F5 (p0:Int) (res:zG) (h:Ad p0=res) (μ:Frz) (w0:World) (hm:ek μ w0):CP 153 #[iv p0] w0 (res.ag):=by
 obtain ⟨l,s⟩:=hm.init;rw [Ad] at h;refine feW Tryz.func153 7 [(0,iv p0)] s λa w f s=>?_;refine esr<|SK.wi (qA 201 di (λb1=>(nV b1)) f s λb1 w a f s=>wf ?_);refine esr<|qn 4 4 [(6,.agg #[iv p0,iv p0,bi])] f λa f=>?_;refine SK.wi (qw 201 0 #[iv p0,iv p0,bi] f s rfl λw a f s=>wf ?_);refine A6 (Bx [.cell 2 201] [_] f rfl ⟨⟨_,rfl,Cb (cs:=[iv p0,iv p0,bi]) kr ((s.blk (i:=0) rfl).cells rfl)⟩,trivial⟩ ?_);subst h;exact ⟨rfl,s.ext⟩
theorem Ui (F:Nat) (p0:Int) (c0_ c1_:(List zG)) (c2_:zC) (res:Int) (h:F3 F p0 c0_ c1_ c2_=some res) (μ:Frz) (w0:World) (hm:ek μ w0) {ad1 cap2 cb1 ad4 cap5 cb2 ad7 cap8 css9 cb3} (hcb1:BlkM μ cb1 198 #[sv ad1 c0_ cap2]) (hA3:ArrM μ 3 zG.cells ad1 cap2 c0_) (hcb2:BlkM μ cb2 198 #[sv ad4 c1_ cap5]) (hA6:ArrM μ 3 zG.cells ad4 cap5 c1_) (hcb3:BlkM μ cb3 98 (c2_.ax ad7 cap8)) (aM:fh μ ad7 cap8 css9 c2_):CP 104 #[iv p0,pb cb1,pb cb2,pb cb3] w0 (iv res):=by
 obtain ⟨l,s⟩:=hm.init;rw [F3] at h;refine feW Tryz.func104 126 [(0,iv p0),fq cb1,dl cb2,fl cb3] s λa w f s=>?_;refine qnB [] f λa f=>?_;obtain ⟨aA,aH,aL,aI,h⟩:=C9 h;refine Ak<|esr<|qo 14 14 [(23,.bool (bif (!aA.has) then true else (!aL.has)))] f (oV 198 0 hcb1 (s.fA l 0)<|oI 198 (hA3 _ (s.fz l 0)) aH<|oE 4 2 zG.cells_len (λ_ d=>(hA3 _ (s.fa d l 0))) aH rfl<|oGs [⟨16,false,(!aA.has)⟩] (oV 198 0 hcb2 (s.fA l 0)<|A4)<|oX (.run [⟨16,false,(!aA.has)⟩] (Instr.indexAt 198 (sv ad4 c1_ cap5) (iv p0)) (.pointer (some (Ck ad4 p0 3)))) (Wa (hA6 _ (s.fz l 0)) kr (λhk=>C8 aI hk))<|oX (.run [⟨16,false,(!aA.has)⟩] (Instr.loadAt 4 (.pointer (some ((Ck ad4 p0 3).add 2)))) (.bool aL.has)) (A07 (i:=p0) 2 zG.cells_len (λ_ d=>(hA6 _ (s.fa d l 0))) kr (λhk=>C8 aI hk) rfl)<|A4) λa f=>wf ?_;refine Ab f h (λc h=>?_) λc h=>?_
 ·refine rnB [(5,iv 3)] f λa f=>?_;cases h;exact A6 (Aj<|wrX 5 f s)
 ·obtain ⟨a2,aJ,a3,aK,h⟩:=C9 h;refine wK<|Ak<|Bu 13 [10,11,12] (λa w=>∃(a6 a7:_),Fr 126 [] [fl cb3,(6,pb a6),(7,pb a7),(33,.agg (fc a3))] a/\St w0 [blk a6 63 (fc a2),blk a7 63 dd,fz w0 μ] w) (D:=λw=>St w0 [] w/\FrzAt μ w) kr kr f.size (λw x=>?_) ?_
  ·replace s:=s.later x;refine ⟨⟨s.pk [],s.fz l 0⟩,?_⟩;have aN:=Ae μ;refine WT.s [0,1,2,3,4,5,6,7,8,9] [10,11] kr kr ?_;refine qC 10 [(28,.agg (fc a2)),(33,.agg (fc a3))] f (oX (.run [] (Instr.loadAt 198 (pb cb1)) (sv ad1 c0_ cap2)) (ob1 kr (λ_ d=>(hcb1.blk d.2).cell1 (j:=0) rfl))<|oI 198 (hA3 _ (s.fz l 0)) aJ<|oG 63 0 2 zG.cells_len (λ_ d=>(hA3 _ d.2)) aJ<|oX (.run [] (Instr.loadAt 198 (pb cb2)) (sv ad4 c1_ cap5)) (ob1 kr (λ_ d=>(hcb2.blk d.2).cell1 (j:=0) rfl))<|oI 198 (hA6 _ (s.fz l 0)) aK<|oG 63 0 2 zG.cells_len (λ_ d=>(hA6 _ d.2)) aK<|A4) λa f=>?_;refine Af ?_;refine all_cons ?_ (all_cons ?_ (B4))
   ·refine qA 63 dd (λaB=>(mQ aB)) f s λaB w a f s=>⟨⟨s.pk [],(s.fz l 1)⟩,?_⟩;refine WT.n1 11 ?_;refine qA 63 dd (λaC=>(nM aC)) f s λaC w a f s=>⟨⟨s.pk [],(s.fz l 2)⟩,?_⟩;refine WT.n1 12 ?_;refine qw 63 1 (fc a2) f s rfl λw a f s=>⟨⟨s.pk [],(s.fz l 2)⟩,?_⟩;refine WT.n0 ?_;exact ⟨aB,aC,f.sb,s.pk [1,0,2]⟩
   ·refine qA 63 dd (λaD=>(nM aD)) f s λaD w a f s=>⟨⟨s.pk [],(s.fz l 1)⟩,?_⟩;refine WT.n1 10 ?_;refine qA 63 dd (λaE=>(mQ aE)) f s λaE w a f s=>⟨⟨s.pk [],(s.fz l 2)⟩,?_⟩;refine WT.n1 12 ?_;refine qw 63 0 (fc a2) f s rfl λw a f s=>⟨⟨s.pk [],(s.fz l 2)⟩,?_⟩;refine WT.n0 ?_;exact ⟨aE,aD,f.sb,s.pk [0,1,2]⟩
  rintro a w ⟨a6,a7,f,s⟩;refine SK.wi (Lk (t:=63) [fl cb3,(6,pb a6),(7,pb a7)] 1 0 (.agg (fc a3)) (fc a3) f s rfl kr ⟨kr⟩ kr kr kr kr ⟨kr⟩ λw a f s=>wf ?_);refine C1 (λa w=>∃(a0 a4 a5 a1:Int),Fr 126 [] [fl cb3,(6,pb a6),(7,pb a7)] a/\St w0 [oh a6 a0 a4,oh a7 a5 a1,fz w0 μ] w/\F4 c2_ a0 a4 a5 a1=some res) ?_ ?_
  ·refine roB [fl cb3,(6,pb a6),(7,pb a7),(41,.bool (bif (c2_.Op==10) then true else (c2_.Op==11)))] f (oV 3 0 hcb3 (s.fA l 2)<|oGs [⟨37,false,(c2_.Op==10)⟩] (oV 3 0 hcb3 (s.fA l 2)<|A4)<|A4) λa f=>?_;refine Ab f h (λc h=>?_) λc h=>?_
   ·refine A3<|qo 2 2 [(42,.agg (fc a3)),(43,.agg (fc a2))] f (oW 63 1 0 2 s.i<|oW 63 0 0 2 s.i<|A4) λa f=>?_;refine SK.wi (qw 63 0 (fc a3) f s rfl λw a f s=>?_);refine SK.wi (qw 63 1 (fc a2) f s rfl λw a f s=>wf ?_);exact ⟨a3.span.Lo,a3.span.Hi,a2.span.Lo,a2.span.Hi,f.sb,s.pk [0,1,2],h⟩
   ·exact wK<|⟨a2.span.Lo,a2.span.Hi,a3.span.Lo,a3.span.Hi,f.sb,s.pk [0,1,2],h⟩
  rintro a w ⟨a0,a4,a5,a1,f,s,h⟩;rw [F4] at h;refine qnB [(8,az),(9,az)] f λa f=>?_;refine C1 (λa w=>∃(a8 a9:Bool),Fr 126 [] [(8,.bool a8),(9,.bool a9)] a/\St w0 [oh a6 a0 a4,oh a7 a5 a1,fz w0 μ] w/\D2 a8 a9=some res) ?_ ?_
  ·refine qoB [(45,iv c2_.Op)] f (oV 3 0 hcb3 (s.fA l 2)<|A4) λa f=>?_;refine A0<|C1 (λa w=>∃(aF:Bool),Fr 126 [] [(6,pb a6),(7,pb a7),(8,az),(9,az),(45,iv c2_.Op),(46,.bool aF)] a/\St w0 [oh a6 a0 a4,oh a7 a5 a1,fz w0 μ] w/\Hp c2_ a0 a4 a5 a1 aF=some res) ?_ ?_
   ·refine qnB [(46,.bool (c2_.Op==8))] f λa f=>?_;refine Ab f h (λc h=>?_) λc h=>?_
    ·exact wK<|⟨c2_.Op==8,f.sb,s.pk [0,1,2],h⟩
    ·refine A3<|qn 2 2 [(46,.bool (c2_.Op==10)),dp 46] f λa f=>wf ?_;exact ⟨c2_.Op==10,f.sb,s.pk [0,1,2],h⟩
   rintro a w ⟨aF,f,s,h⟩;rw [Hp] at h;refine Ab f h (λc h=>?_) λc h=>?_
   ·refine rDs 12 [(8,.bool (decide (a4<a5))),(9,.bool (decide (a0<a1)))] f s (oU 3 0 1 s.e<|oU 3 1 0 s.e<|oU 3 0 0 s.e<|oU 3 1 1 s.e<|A4) λa w f s=>?_;refine Al rfl (A8<|A5<|?_);exact ⟨decide (a4<a5),decide (a0<a1),f.sb,s.pk [0,1,2],h⟩
   ·refine C1 (λa w=>∃(aG:Bool),Fr 126 [] [(6,pb a6),(7,pb a7),(8,az),(9,az),(45,iv c2_.Op),(59,.bool aG)] a/\St w0 [oh a6 a0 a4,oh a7 a5 a1,fz w0 μ] w/\Hq c2_ a0 a4 a5 a1 aG=some res) ?_ ?_
    ·refine qnB [(59,.bool (c2_.Op==9)),dp 46] f λa f=>?_;refine Ab f h (λc h=>?_) λc h=>?_
     ·exact wK<|⟨c2_.Op==9,f.sb,s.pk [0,1,2],h⟩
     ·refine A3<|qn 2 2 [(59,.bool (c2_.Op==11)),dp 59] f λa f=>wf ?_;exact ⟨c2_.Op==11,f.sb,s.pk [0,1,2],h⟩
    rintro a w ⟨aG,f,s,h⟩;rw [Hq] at h;refine Ab f h (λc h=>?_) λc h=>?_
    ·cases h
    ·refine qnB [(72,.bool (c2_.Op==12)),dp 59] f λa f=>?_;refine Ab f h (λc h=>?_) λc h=>?_
     ·refine rDs 25 [(8,.bool ((if a1>a4 then a1 else a4)==(if a5<a0 then a5 else a0))),(9,.bool (bif (decide (a0<=a1)) then (decide (a5<=a4)) else false))] f s (oU 3 0 1 s.e<|oU 3 1 1 s.e<|oU 3 0 0 s.e<|oU 3 1 0 s.e<|oU 3 0 0 s.e<|oU 3 1 1 s.e<|oGs [⟨90,true,(decide (a0<=a1))⟩] (oU 3 1 0 s.e<|oU 3 0 1 s.e<|A4)<|A4) λa w f s=>?_;refine Al rfl (A8<|A5<|?_);exact ⟨(if a1>a4 then a1 else a4)==(if a5<a0 then a5 else a0),bif (decide (a0<=a1)) then (decide (a5<=a4)) else false,f.sb,s.pk [0,1,2],h⟩
     ·refine qnB [(97,.bool (c2_.Op==13))] f λa f=>?_;refine Ab f h (λc h=>?_) λc h=>?_
      ·cases h
      ·refine Am (A8<|A5<|?_);exact ⟨false,false,f.sb,s.pk [0,1,2],h⟩
  rintro a w ⟨a8,a9,f,s,h⟩;rw [D2] at h;refine Ak<|A0<|qnB [(122,.bool a8),dp 8] f λa f=>?_;refine Ab f h (λc h=>?_) λc h=>?_
  ·refine rnB [(5,iv 1)] f λa f=>?_;cases h;exact A6 (Ax<|Aj<|wrX 5 f s)
  ·refine rnB [(124,.bool a9)] f λa f=>?_;refine Ab f h (λc h=>?_) λc h=>?_
   ·refine rnB [(5,iv 2)] f λa f=>?_;cases h;exact A6 (Ax<|Aj<|wrX 5 f s)
   ·refine Am (A8<|A5<|?_);refine rnB [(5,iv 3)] f λa f=>?_;cases h;exact A6 (wrX 5 f s)
theorem Ty (F:Nat) (p0:zS) (p1 p2:zE) (p3:Int) (res:zS) (h:Fi F p0 p1 p2 p3=some res) (μ:Frz) (w0 w1:World) (T_:List Res) (l:Ar w0 μ) {cb0 ad1 cap2} {hd3:List Hd} {css4:List (an)} {m6} {B7:List (zE×Hd)} {css8:List (List zL)} (hq5:NestOk (Rp112 μ) hd3 css4 p0.sets) (hq9:MNestOk Eq B7 css8 p0.bonds) (s:St w0 (fz w0 μ::mr cb0 ad1 p0 cap2 m6::gi ad1 p0 cap2 hd3 css4::bl m6 B7 css8::T_) w1):CR 108 #[pb cb0,nk p1,nk p2,iv p3] w1 (λe w=>∃(ν_:Frz) (aC aF:_) (aK:List Hd) (aI:List (an)) (B105:md) (aJ:ky),μ.ext w0.heap.size ν_/\Ar w0 ν_/\e=mi/\(NestOk (Rp112 ν_) aK aI res.sets)/\(MNestOk Eq B105 aJ res.bonds)/\St w0 (fz w0 ν_::mr cb0 aC res aF m6::gi aC res aF aK aI::bl m6 B105 aJ::T_) w):=by
 rw [Fi] at h;have g:=Frz.ext_refl w0.heap.size μ;refine feW Tryz.func108 34 [aq cb0,(1,nk p1),(2,nk p2),(3,iv p3)] s λa w f s=>?_;refine esr<|SK.wi (qBa 157 (co p1) (λa0=>(oi a0)) f s λa0 w a f s=>?_);refine SK.wi (qBa 157 (co p2) (λa1=>(mQ a1)) f s λa1 w a f s=>wf ?_);obtain ⟨a2,aO,h⟩:=A7 h;refine Ak<|Bu 13 [8,9,11] _ (D:=λw=>St w0 [pd a1 p2,pd a0 p1,mr cb0 ad1 p0 cap2 m6,gi ad1 p0 cap2 hd3 css4] w/\FrzAt μ w) kr kr f.size (λw x=>?_) (λ_ _ h=>h);replace s:=s.later x;refine ⟨⟨s.pk [0,1,3,4],s.fz l 2⟩,?_⟩;have b1:=Ae μ;refine WT.s dt [8] kr kr ?_;refine qC 8 [(11,bf m6),(12,nk p1),(16,.agg #[iv p2.ray,iv p2.gate,iv p3])] f (oL 161 2 1 (λ_ d=>d.1) rfl rfl<|oN 157 1 0 2 (λ_ d=>d.1) rfl<|oN 157 0 0 2 (λ_ d=>d.1) rfl<|A4) λa f=>?_;refine Af ?_;refine all_cons ?_ (B4);refine qL 165 160 1 [(zL.mk p2 p3)] (λa3=>[(17,sb a3 1)]) zL.cells_len f s λa3 w a f s=>⟨⟨s.pk [1,2,4,5],(s.fz l 3)⟩,?_⟩;refine WT.n1 9 ?_;replace s:=s.s6;refine A1l (kt:=157) (te:=160) (t:=161) (λa5 a7 aA=>[aq cb0,(3,iv p3),(5,pb a0),(6,pb a1),(11,bf m6),(17,sb a3 1),(18,.tuple #[.slice a5 ((lkM p0.bonds p1).getD []).length a7,iv ((aA:Nat):Int)])]) p1 Zj hq9 f s kr ⟨kr⟩ kr kr (λ_ _ _=>⟨kr⟩) λa5 a7 aA j44 B45 aY aW w a f aQ aM aR s=>⟨⟨s.pk [3,4,6,7],(s.fz l 5)⟩,?_⟩;obtain rfl:=A0o aR;refine WT.s [10,12] [11] kr kr ?_;refine rC 2 [aq cb0,(3,iv p3),(5,pb a0),(6,pb a1),(11,bf m6),(13,.slice a5 ((lkM p0.bonds p1).getD []).length a7),(17,sb a3 1),(20,iv ((aA:Nat):Int))] f A4 λa f=>?_;refine Af ?_;refine all_cons ?_ (B4);refine qP 160 160 1 (λaD aG=>[(19,sv aD a2 aG)]) f s (s.arr (i:=2) rfl) aO rfl λaD aG w a f s=>⟨⟨s.pk [3,4,6,7],(s.fz l 5)⟩,?_⟩;refine WT.n0 ?_;refine SK.wi (Yg (t:=161) (l0:=((lkM p0.bonds p1).getD [])) (l3:=a2) [aq cb0,(3,iv p3),(5,pb a0),(6,pb a1)] aQ aM (Uc a2) f s kr ⟨kr⟩ ⟨kr⟩ λB53 aZ w a f aS s=>?_);obtain ⟨a9,aP,h⟩:=A7 h;refine wf<|Bu 13 [8,9,11] _ (D:=λw=>St w0 [arr 165 3 zL.cells (cb a3) ([(zL.mk p2 p3)]).length 1 ([(zL.mk p2 p3)]),pd a1 p2,pd a0 p1,mr cb0 ad1 p0 cap2 m6,gi ad1 p0 cap2 hd3 css4] w/\FrzAt μ w) kr kr f.size (λw x=>?_) (λ_ _ h=>h);replace s:=s.later x;refine ⟨⟨s.pk [1,2,3,5,6],s.fz l 4⟩,?_⟩;have b2:=Ae μ;refine WT.s dt [8] kr kr ?_;refine rC 8 [(24,bf m6),(25,nk p2),(29,.agg #[iv p1.ray,iv p1.gate,iv p3])] f (oL 161 3 1 (λ_ d=>d.1) rfl rfl<|oN 157 1 0 2 (λ_ d=>d.1) rfl<|oN 157 2 0 2 (λ_ d=>d.1) rfl<|A4) λa f=>?_;refine Af ?_;refine all_cons ?_ (B4);refine qL 165 160 1 [(zL.mk p1 p3)] (λa4=>[(30,sb a4 1)]) zL.cells_len f s λa4 w a f s=>⟨⟨s.pk [2,3,4,6,7],(s.fz l 5)⟩,?_⟩;refine WT.n1 9 ?_;replace s:=s.s1;refine A1l (kt:=157) (te:=160) (t:=161) (λa6 a8 aB=>[(24,bf m6),(30,sb a4 1),(31,.tuple #[.slice a6 ((lkM (upM p0.bonds p1 a2) p2).getD []).length a8,iv ((aB:Nat):Int)])]) p2 Zj aS f s kr ⟨kr⟩ kr kr (λ_ _ _=>⟨kr⟩) λa6 a8 aB j88 B89 b0 aX w a f aT aN aU s=>⟨⟨s.pk [3,4,5,7,8],(s.fz l 6)⟩,?_⟩
 obtain rfl:=A0o aU;refine WT.s [10,12] [11] kr kr ?_;refine rC 2 [(24,bf m6),(26,.slice a6 ((lkM (upM p0.bonds p1 a2) p2).getD []).length a8),(30,sb a4 1),(33,iv ((aB:Nat):Int))] f A4 λa f=>?_;refine Af ?_;refine all_cons ?_ (B4);refine qP 160 160 1 (λaE aH=>[(32,sv aE a9 aH)]) f s (s.arr (i:=2) rfl) aP rfl λaE aH w a f s=>⟨⟨s.pk [3,4,5,7,8],(s.fz l 6)⟩,?_⟩;refine WT.n0 ?_;refine SK.wi (Yg (t:=161) (l0:=((lkM (upM p0.bonds p1 a2) p2).getD [])) (l3:=a9) [] aT aN (Uc a9) f s kr ⟨kr⟩ ⟨kr⟩ λB97 aL w a f aV s=>?_);refine Al rfl ?_;refine Ql f rfl ?_;cases h;replace s:=s.d4.d3.d2.d1.s3.s3.s3;exact ⟨_,rfl,μ,ad1,cap2,hd3,css4,B97,aL,g,l,rfl,hq5,aV,s⟩
theorem Nb (F:Nat) (p0 res:(kz)) (h:Cj F p0=some res) (μ:Frz) (w0:World) (hm:ek μ w0) {ad1x:Addr} {cap2 css3} (hA4:ArrQ μ 1 Rp112 (some ad1x) cap2 css3 p0):CR 109 #[.slice (some ad1x) p0.length cap2] w0 (λe w=>∃(ν_:Frz) (zad0 zcap0 zcss0:_),μ.ext w0.heap.size ν_/\e=(sv zad0 res zcap0)/\All2 (Rp112 ν_) zcss0 res/\St w0 [fz w0 ν_,arr 112 1 (fN 1) zad0 res.length zcap0 zcss0] w):=by
 obtain ⟨x,g⟩:=hm.init;have d:=Frz.ext_refl w0.heap.size μ;rw [Cj] at h;refine feW Tryz.func109 8 [gr ad1x p0 cap2] g λa w s g=>?_;refine qnB [] s λa s=>?_;refine Ak<|qnB [(4,az)] s λa s=>?_;refine wpIn_cond_false (s.get rfl) ?_;have hq6:All2 (Rp112 μ) ([]:an) ([]:kz):=All2.nil;refine wK<|esr<|SK.wi (W7 (e:=112) (sz:=1) (f:=fN 1) (t:=107) (len:=0) (λb5=>[gr ad1x p0 cap2,(5,sb b5 0)]) #[] #[] ([]:an) ([]:kz) s g kr ⟨kr⟩ kr (Ba 1) rfl rfl rfl kr (λ_=>⟨kr⟩) λb5 w a s g=>?_);refine rn 1 2 [(5,sb b5 0),nW ad1x p0 cap2] s λa s=>?_;obtain ⟨l7,hl7,h⟩:=A7 h;have a0:All2 (Rp112 μ) (([]:an)++css3) l7:=by rw [(Pg hl7).1];exact All2.app hq6 hA4.2
 refine SK.wi (A10 (t:=107) (ty:=107) (bytes:=24) (c:=([]:an)) (c':=css3) (l:=([]:kz)) (l':=p0) (λad8 cap9=>[(7,sv ad8 l7 cap9)]) 0 s g rfl kr ⟨kr⟩ kr (hA4.at (g.fz x 1)) (ArrQ.one hA4.2 Rp112.one) hl7 (λ_ _=>⟨kr⟩) λad8 cap9 w a s g=>?_);refine rn 1 4 [ev ad8 l7 cap9] s λa s=>wf ?_;refine A6 (Di 2 s rfl ?_);cases h;exact ⟨_,rfl,μ,_,_,_,d,rfl,a0,g.pk [1,0]⟩
theorem Na (res:(kz)) (h:([]:kz)=res) (μ:Frz) (w0:World) (hm:ek μ w0) {cap2}:CR 109 #[.slice none 0 cap2] w0 (λe w=>∃(ν_:Frz) (zad0 zcap0 zcss0:_),μ.ext w0.heap.size ν_/\e=(sv zad0 res zcap0)/\All2 (Rp112 ν_) zcss0 res/\St w0 [fz w0 ν_,arr 112 1 (fN 1) zad0 res.length zcap0 zcss0] w):=by
 obtain ⟨l,s⟩:=hm.init;have g:=Frz.ext_refl w0.heap.size μ;refine feW Tryz.func109 8 [oO cap2] s λa w f s=>?_;refine qnB [] f λa f=>?_;refine Ak<|qnB [(4,bi)] f λa f=>?_;refine wpIn_cond_true (f.get rfl) ?_;refine rnB [(2,ah)] f λa f=>?_;refine A6 (Aj<|Di 2 f rfl ?_);subst h;replace s:=s.nilarr 112 1 (fN 1);exact ⟨_,rfl,μ,_,_,_,g,rfl,All2.nil,s.pk [1,0]⟩
theorem Nc (F:Nat) (p0 res:kz) (h:Cj F p0=some res) (μ:Frz) (w0:World) (hm:ek μ w0) {ad1 cap2 css3} (hA4:ArrQ μ 1 Rp112 ad1 cap2 css3 p0):CR 109 #[sv ad1 p0 cap2] w0 (λe w=>∃(ν_:Frz) (zad0 zcap0 zcss0:_),μ.ext w0.heap.size ν_/\e=(sv zad0 res zcap0)/\All2 (Rp112 ν_) zcss0 res/\St w0 [fz w0 ν_,arr 112 1 (fN 1) zad0 res.length zcap0 zcss0] w):=by
 cases ad1 with
 | some a=>exact Nb F p0 res h μ w0 hm hA4
 | none =>
  obtain rfl:=hA4.1.none_nil hm;obtain rfl:p0=[]:=by cases hA4.2;rfl
  have hr:[]=res:=Option.some.inj (show some ([]:kz)=some res from h);exact Na res hr μ w0 hm
theorem Sf (F:Nat) (p0 res:zB) (h:D6 F p0=some res) (μ:Frz) (w0 w1:World) (T_:List Res) (l:Ar w0 μ) {cb0} (s:St w0 (fz w0 μ::blk cb0 79 p0.ar::T_) w1):CR 70 #[pb cb0] w1 (λe w=>∃(ν_:Frz),μ.ext w0.heap.size ν_/\Ar w0 ν_/\e=mi/\St w0 (fz w0 ν_::blk cb0 79 res.ar::T_) w):=by
 rw [D6] at h;have g:=Frz.ext_refl w0.heap.size μ;refine feW Tryz.func70 71 [aq cb0] s λa w f s=>?_;refine A0<|C2 (λn_ a w=>Fr 71 [] [aq cb0] a/\St w0 (fz w0 μ::blk cb0 79 p0.ar::T_) w/\He F p0 n_=some res) F ⟨f.sb,s,h⟩ ?_;rintro nk1 a w ⟨f,s,h⟩;rcases nk1 with _|nk1
 ·exact nS h
 obtain ⟨k1,hk1⟩:∃k,k=He F p0 nk1:=⟨_,rfl⟩;replace h:Hc F p0 k1=some res:=by rw [hk1];exact h
 rw [Hc] at h;obtain ⟨s6,hs6,y7,hy7,x8,hx8,h⟩:=Cg h;refine A0<|Ak<|qD 18 [ly x8,(20,ao cb0)] f (oU 3 1 1 s.e<|oU 9 1 0 s.e<|oU 3 1 1 s.e<|oX (lq p0 s6) (A3x kr (λ_=>hs6))<|oK (Jl F s6 (⟨#[32,9,10,13]⟩:ByteArray) _ hy7)<|oA 3 hx8<|A4) λa w f x=>?_;replace s:=s.later x;refine SK.wi (qs 3 1 1 (iv x8) f s rfl λw a f s=>wf ?_);obtain ⟨u9,hu9,h⟩:=A7 h;refine Ak<|Ak<|qDs 22 [(42,.bool (bif (x8==((p0.s.size:Nat):Int)) then true else (u9 != 35)))] f s (oU 3 1 1 s.e<|oU 9 1 0 s.e<|oGs [⟨31,false,(x8==((p0.s.size:Nat):Int))⟩] (oU 9 1 0 s.e<|oU 3 1 1 s.e<|A4)<|oX (.run [⟨31,false,(x8==((p0.s.size:Nat):Int))⟩] (Instr.index 9 (.string p0.s) (iv x8)) (.int .u8 u9)) (Wb kr (λhk=>C8 hu9 hk))<|A4) λa w f s=>?_;refine wf<|Ab f h (λc h=>?_) λc h=>?_
 ·refine A6 (Aj<|Ax<|Aj<|Ax<|Bx [] [] f rfl trivial ?_);cases h;replace s:=s;exact ⟨_,rfl,μ,g,l,rfl,s⟩
 ·refine wK<|Ak ?_
  cases h
theorem C6 (F:Nat) (p0 p1:ByteArray) (res:Bool) (h:Bj F p0 p1=some res) (μ:Frz) (w0:World) (hm:ek μ w0):CP 72 #[ak p0,ak p1] w0 (.bool res):=by
 obtain ⟨l,s⟩:=hm.init;rw [Bj] at h;refine feW Tryz.func72 8 [(0,ak p0),(1,ak p1)] s λa w f s=>?_;refine qnB [] f λa f=>?_;obtain ⟨y1,hy1,h⟩:=A7 h;refine esr<|rXs 4 4 [(4,.bool y1)] f s (oK (Qj F p0 p1 _ hy1)<|A4) λa w f s=>?_;cases h;exact wf<|A6 (wrX 4 f s)
theorem R0 (F:Nat) (p0:ByteArray) (p1 p2 res:Int) (h:Hr F p0 p1 p2=some res) (μ:Frz) (w0:World) (hm:ek μ w0):CP 74 #[ak p0,iv p1,iv p2] w0 (iv res):=by
 obtain ⟨g,l⟩:=hm.init;rw [Hr] at h;refine feW Tryz.func74 25 [(0,ak p0),(1,iv p1),(2,iv p2)] l λa w s l=>?_;refine qnB [] s λa s=>?_;refine esr<|qxs 1 1 [(9,ku)] s l (oK (Pt  _ rfl)<|A4) λa w s l=>?_;refine SK.wi (qA 192 (vF Value.string (default:pp)).toArray (λb1=>(nM b1)) s l λb1 w a s l=>?_);refine SK.wi (B5z (f:=Value.string) (y:=Cf) (t:=192) [(0,ak p0),(1,iv p1),(2,iv p2),(7,pb b1)] 0 (λ_=>rfl) s l rfl kr ⟨kr⟩ kr ⟨kr⟩ λw a s l=>wf ?_);obtain ⟨x2,hx2,l3,hl3,y4,hy4,h⟩:=Cg h;refine Ak<|esr<|rX 7 7 [(0,ak p0),(1,iv p1),(8,iv y4)] s (oA 3 hx2<|oX (.run [] (Instr.sliceAt 192 (pb b1) (some (iv p1)) (some (iv x2)) none) (.slice (Gj (cb b1) 28 (p1:Int).toNat 1) l3.length (28-(p1:Int).toNat))) (B28 kr (λ_=>hl3))<|oC (λw2 d=>Si F l3 p0 _ hy4 _ w2 (At w2) (Arr.toM (Arr.cutV (f:=Value.string) dc ((l.later d).blk (i:=0) rfl) hl3)))<|A4) λa w s x=>?_;replace l:=l.later x;refine wf<|qoB [(21,.bool (bif (decide (y4>=0)) then (jr p0) else false))] s (oGs [⟨18,true,(decide (y4>=0))⟩] (oX (.run [] (Us .neq 9 p0 (⟨#[]⟩:ByteArray)) (.bool (jr p0))) A82<|A4)<|A4) λa s=>?_;refine Ab s h (λc h=>?_) λc h=>?_
 ·obtain ⟨x5,hx5,h⟩:=A7 h;refine esr<|ro 4 4 [(6,iv x5)] s (oA 3 hx5<|A4) λa s=>wf ?_;cases h;exact A6 (Aj<|wrX 6 s l)
 ·refine wK<|rnB [(6,iv 0)] s λa s=>?_;cases h;exact A6 (wrX 6 s l)
theorem Qh (F:Nat) (p0 p1 res:Int) (h:Pn F p0 p1=some res) (μ:Frz) (w0:World) (hm:ek μ w0):CP 87 #[iv p0,iv p1] w0 (iv res):=by
 obtain ⟨l,s⟩:=hm.init;rw [Pn] at h;refine feW Tryz.func87 10 [(0,iv p0),(1,iv p1)] s λa w f s=>?_;refine qnB [] f λa f=>?_;obtain ⟨y1,hy1,h⟩:=A7 h;refine esr<|rXs 6 6 [(4,iv (IntKind.i64.wrap (0-y1)))] f s (oK (Mu F (IntKind.i64.wrap (0-p0)) p1 _ hy1)<|A4) λa w f s=>?_;cases h;exact wf<|A6 (wrX 4 f s)
theorem Zs (F:Nat) (p0:(List zA)) (res:Bool) (h:Rw F p0=some res) (μ:Frz) (w0:World) (hm:ek μ w0) {ad1 cap2} (hA3:ma μ ad1 cap2 p0):CP 94 #[sv ad1 p0 cap2] w0 (.bool res):=by
 obtain ⟨l,s⟩:=hm.init;rw [Rw] at h;refine feW Tryz.func94 28 [dx ad1 p0 cap2] s λa w f s=>?_;refine qnB [] f λa f=>?_;refine C1 (λa w=>Fr 28 [] [] a/\St w0 [fz w0 μ] w/\Ri=some res) ?_ ?_
 ·refine rnB [gm ad1 p0 cap2,(6,au p0),(7,iv 0)] f λa f=>?_;refine A0<|C2 (λn_ a w=>∃(a1:Int),Fr 28 [] [gm ad1 p0 cap2,(6,au p0),(7,iv a1)] a/\St w0 [fz w0 μ] w/\Gp p0 n_ a1=some res) F ⟨0,f.sb,s.pk [0],h⟩ ?_;rintro nk2 a w ⟨a1,f,s,h⟩;rcases nk2 with _|nk2
  ·exact nS h
  obtain ⟨k2,hk2,h⟩:∃k2,k2=Gp p0 nk2/\F7 p0 k2 a1=some res:=⟨_,rfl,h⟩
  rw [F7] at h;refine qnB [(8,bm a1 p0)] f λa f=>?_;refine Ak<|Ab f h (λc h=>?_) λc h=>?_
  ·obtain ⟨a0,a4,h⟩:=A7 h;refine wK<|Ak<|A0<|esr<|qo 2 2 [(10,me a0)] f (oI 111 (hA3 _ (s.fz l 0)) a4<|oG 63 0 2 zA.cells_len (λ_ d=>(hA3 _ (s.fa d l 0))) a4<|A4) λa f=>?_;refine SK.wi (qA 63 dd (λa3=>[(4,pb a3)]) f s λa3 w a f s=>?_);refine SK.wi (qw 63 0 (cu a0) f s rfl λw a f s=>wf ?_);obtain ⟨a5,a7,a2,a8,h⟩:=C9 h;refine esr<|qxs 16 16 [(26,.bool (bif (jb a0) then true else (!(Ag a0.Hi a0.Lo a2))))] f s (oU 3 0 0 s.e<|oK (C5 a0.Lo (-32768) 32767 _ rfl)<|oGs [⟨15,false,jb a0⟩] (oU 3 0 1 s.e<|oU 3 0 0 s.e<|oU 3 0 0 s.e<|A4)<|oX (.run [⟨15,false,jb a0⟩] (binOp .add 3 (iv a0.Lo) (iv 65536)) (iv a5)) (A6m (λhk=>C8 a7 hk))<|oX (.run [⟨15,false,jb a0⟩] (binOp .sub 3 (iv a5) (iv 1)) (iv a2)) (Zn (λhk=>C8 a8 hk))<|oGs [⟨15,false,jb a0⟩] (oK (C5 a0.Hi a0.Lo a2 _ rfl)<|A4)<|A4) λa w f s=>?_;refine wf<|Ab f h (λc h=>?_) λc h=>?_
   ·refine rnB [(2,az)] f λa f=>?_;cases h;exact A6 (Ax<|Aj<|Aj<|Ax<|Aj<|wrX 2 f s)
   ·refine Am (A8<|A5<|?_);obtain ⟨a6,a9,h⟩:=A7 h;refine A3<|qo 2 2 [(7,iv a6),dp 7] f (oA 3 a9<|A4) λa f=>wf ?_;rw [hk2] at h;exact ⟨nk2,A9 _,a6,f.sb,s.pk [1],h⟩
  ·refine Ai (Aa<|Aa<|As<|A5 ?_);exact ⟨f.sb,s.pk [0],h⟩
 rintro a w ⟨f,s,h⟩;rw [Ri] at h;refine rnB [(2,bi)] f λa f=>?_;cases h;exact A6 (wrX 2 f s)
theorem We (p0:ll) (p1 p2 p3:Int) (res:Unit) (h:U0 p0 p1 p2 p3=res) (μ:Frz) (w0:World) (hm:ek μ w0) {pv1} (hA2:PtM μ 137 Rp137 pv1 p0):CR 102 #[nh pv1,iv p1,iv p2,iv p3] w0 (λe w=>∃zb0 zb1 zb2 zb3,e=(fv 124 #[pb zb0,pb zb1,pb zb2,pb zb3])/\St w0 [blk zb0 93 #[nh pv1],nQ zb1 p1,nQ zb2 p2,nQ zb3 p3] w):=by
 obtain ⟨l,s⟩:=hm.init;rw [U0] at h;refine feW Tryz.func102 10 [(0,nh pv1),(1,iv p1),(2,iv p2),(3,iv p3)] s λa w f s=>?_;refine esr<|SK.wi (qB 93 (nh pv1) #[nh pv1] (λb3=>[(4,pb b3)]) f s λb3 w a f s=>?_);refine SK.wi (qB 3 (iv p1) #[iv p1] (λb4=>(oi b4)) f s λb4 w a f s=>?_);refine SK.wi (qB 3 (iv p2) #[iv p2] (λb5=>(mQ b5)) f s λb5 w a f s=>?_);refine SK.wi (qB 3 (iv p3) #[iv p3] (λb6=>(nM b6)) f s λb6 w a f s=>?_);refine qn 1 5 [] f λa f=>wf ?_;refine rnB [(8,fv 124 #[pb b3,pb b4,pb b5,pb b6])] f λa f=>?_;refine A6 (Di 8 f rfl ?_);subst h;exact ⟨_,rfl,b3,b4,b5,b6,rfl,s.pk [3,2,1,0]⟩
theorem A2a (F:Nat) (p0:aw) (p1 p2:Int) (res:zS) (h:Ux F p0 p1 p2=some res) (μ:Frz) (w0 w1:World) (T_:List Res) (l:Ar w0 μ) {ad1 cap2 css3} (hA4:ArrQ μ 1 Rp107 ad1 cap2 css3 p0) (s:St w0 (fz w0 μ::T_) w1):CR 64 #[sv ad1 p0 cap2,iv p1,iv p2] w1 (λe w=>∃(ν_:Frz) (cJ cH cK:_) (cR:List Hd) (cL:List (an)) (d4:_) (B24910:md) (cM:ky),μ.ext w0.heap.size ν_/\Ar w0 ν_/\e=(pb cJ)/\(NestOk (Rp112 ν_) cR cL res.sets)/\(MNestOk Eq B24910 cM res.bonds)/\St w0 (fz w0 ν_::mr cJ cH res cK d4::gi cH res cK cR cL::bl d4 B24910 cM::T_) w):=by
 rw [Ux] at h;have g:=Frz.ext_refl w0.heap.size μ;refine feW Tryz.func64 118 [dx ad1 p0 cap2,(1,iv p1),(2,iv p2)] s λa w f s=>?_;refine qnB [] f λa f=>?_;have hq6:MNestOk Eq ([]:md) ([]:ky) ([]:List (zE×(List zL))):=MNestOk.nil;refine esr<|SK.wi (A9d zE zL (fA zE.cells) 165 3 zL.cells (t:=161) (λm5=>[dx ad1 p0 cap2,(1,iv p1),(2,iv p2),(16,bf m5)]) f s kr ⟨kr⟩ (λ_=>⟨kr⟩) λm5 w a f s=>?_);refine rn 1 2 [dx ad1 p0 cap2,(1,iv p1),(2,iv p2),(17,.agg #[ah,bf m5])] f λa f=>?_;refine SK.wi (qBa 163 #[ah,bf m5] (λb7=>[(18,pb b7)]) f s λb7 w a f s=>?_);refine qn 1 4 (nM b7) f λa f=>wf ?_;refine qnB [(8,au p0)] f λa f=>?_;have a2:=Ae μ;refine C1 (λa w=>∃(bO:aw) (cG:er) (ν12449:Frz) (bS:fk) (bW:Nat) (c6:List Hd) (c0:List (an)) (B12457:md) (c1:ky),Fr 118 [] (nM b7) a/\St w0 (bq bS bO bW c6 c0::jx b7 bS bO bW m5::bl m5 B12457 c1::fz w0 ν12449::T_) w/\(ii ν12449 c6 c0 bO)/\(MNestOk Eq B12457 c1 cG)/\(μ.le ν12449)/\(μ.ext w0.heap.size ν12449)/\(Ar w0 ν12449)/\U3 bO cG=some res) ?_ ?_
 ·refine qnB [(21,sv ad1 p0 cap2),n7 p0,(23,iv 0)] f λa f=>?_;have cS:=Ae μ;replace s:=s.nilNest 107 112 1 (fN 1);refine A0<|C2 (λn_ a w=>∃(aQ:aw) (aX:er) (a1:Int) (ν20751:Frz) (b2:fk) (b5:Nat) (bJ:List Hd) (b9:List (an)) (B20759:md) (bA:ky),Fr 118 [] [dx ad1 p0 cap2,(1,iv p1),(2,iv p2),(7,pb b7),(8,au p0),(21,sv ad1 p0 cap2),n7 p0,ki a1] a/\St w0 (bq b2 aQ b5 bJ b9::jx b7 b2 aQ b5 m5::bl m5 B20759 bA::fz w0 ν20751::T_) w/\(ii ν20751 bJ b9 aQ)/\(MNestOk Eq B20759 bA aX)/\(μ.le ν20751)/\(μ.ext w0.heap.size ν20751)/\(Ar w0 ν20751)/\Gx F p0 p1 p2 n_ aQ aX a1=some res) F ⟨[],([]:List (zE×(List zL))),0,μ,none,0,[],[],([]:md),([]:ky),f.sb,s,NestOk.nil,hq6,cS,g,l,h⟩ ?_
  clear cS
  rintro nk2 a w ⟨aQ,aX,a1,ν20751,b2,b5,bJ,b9,B20759,bA,f,s,a6,cV,a5,g,l,h⟩;rcases nk2 with _|nk2
  ·exact nS h
  obtain ⟨hA4,a2⟩:=mo2 a5 hA4 a2;obtain ⟨k2,hk2,h⟩:∃k2,k2=Gx F p0 p1 p2 nk2/\Kx F p0 p1 p2 k2 aQ aX a1=some res:=⟨_,rfl,h⟩
  rw [Kx] at h;refine qnB [(24,bm a1 p0)] f λa f=>?_;refine Ak<|Ab f h (λc h=>?_) λc h=>?_
  ·have a9:=Ae ν20751;refine wK<|C1 (λa w=>∃(aY:aw) (cB:er) (ν22827:Frz) (bT:fk) (bX:Nat) (c7:List Hd) (c2:List (an)) (B22835:md) (c3:ky),Fr 118 [] [dx ad1 p0 cap2,(1,iv p1),(2,iv p2),(7,pb b7),(8,au p0),(21,sv ad1 p0 cap2),n7 p0,ki a1] a/\St w0 (bq bT aY bX c7 c2::jx b7 bT aY bX m5::bl m5 B22835 c3::fz w0 ν22827::T_) w/\(ii ν22827 c7 c2 aY)/\(MNestOk Eq B22835 c3 cB)/\(ν20751.le ν22827)/\(μ.ext w0.heap.size ν22827)/\(Ar w0 ν22827)/\Rr a1 k2 aY cB=some res) ?_ ?_
   ·obtain ⟨aE,e7,h⟩:=A7 h;obtain ⟨f1,cO,dO⟩:=An hA4.2 e7;obtain ⟨aN,aO,f4,rfl,a8⟩:=dO;refine A0<|esr<|qo 5 5 [(9,iv a1),cl aN aE aO] f (oI 105 (hA4.at (s.fz l 3)) cO<|oE 107 0 (Ba 1) (hA4.a1 (s.fA l 3)) cO rfl<|A4) λa f=>wf ?_;refine esr<|qn 1 1 [(28,sv aN aE aO)] f λa f=>?_;obtain ⟨a0,eN,h⟩:=A7 h;refine SK.wi (qR (λd6=>[(29,d6)]) f (Xc F _ _ eN (C3 w) w (At w) (a8.mono Rp112.mono (s.fm l 3))) ?_);rintro d6 w a ⟨a4,a7,rfl,hQ⟩ f;replace s:=s.madeL hQ;refine qn 1 3 [(11,sv a4 a0 a7)] f λa f=>wf ?_;have aC:=Ae ν20751;refine C1 (λa w=>∃(aM:aw) (cC:er) (ν23852:Frz) (aT:fk) (aV:Nat) (bK:List Hd) (bB:List (an)) (B23860:md) (bC:ky),Fr 118 [] [dx ad1 p0 cap2,(1,iv p1),(2,iv p2),(7,pb b7),(8,au p0),cl aN aE aO,(21,sv ad1 p0 cap2),n7 p0,ki a1] a/\St w0 (bq aT aM aV bK bB::bc a4 a0 a7::jx b7 aT aM aV m5::bl m5 B23860 bC::fz w0 ν23852::T_) w/\(ii ν23852 bK bB aM)/\(MNestOk Eq B23860 bC cC)/\(ν20751.le ν23852)/\(μ.ext w0.heap.size ν23852)/\(Ar w0 ν23852)/\Jm F a1 k2 aE aM cC=some res) ?_ ?_
    ·refine qnB [(30,sv a4 a0 a7),(31,au a0),(32,iv 0)] f λa f=>?_;have cT:=Ae ν20751;refine A0<|C2 (λn_ a w=>∃(aR:aw) (aZ:er) (a3:Int) (ν24565:Frz) (b4:fk) (b8:Nat) (bL:List Hd) (bD:List (an)) (B24573:md) (bE:ky),Fr 118 [] [dx ad1 p0 cap2,(1,iv p1),(2,iv p2),(7,pb b7),(8,au p0),(9,iv a1),cl aN aE aO,(11,sv a4 a0 a7),(21,sv ad1 p0 cap2),n7 p0,ki a1,(30,sv a4 a0 a7),(31,au a0),mY a3] a/\St w0 (bq b4 aR b8 bL bD::bc a4 a0 a7::jx b7 b4 aR b8 m5::bl m5 B24573 bE::fz w0 ν24565::T_) w/\(ii ν24565 bL bD aR)/\(MNestOk Eq B24573 bE aZ)/\(ν20751.le ν24565)/\(μ.ext w0.heap.size ν24565)/\(Ar w0 ν24565)/\Fb F p0 p1 p2 a1 k2 aE a0 n_ aR aZ a3=some res) F ⟨aQ,aX,0,ν20751,b2,b5,bJ,b9,B20759,bA,f.sb,s.s1,a6,cV,cT,g,l,h⟩ ?_
     clear cT
     rintro nk5 a w ⟨aR,aZ,a3,ν24565,b4,b8,bL,bD,B24573,bE,f,s,aL,cF,aA,g,l,h⟩;rcases nk5 with _|nk5
     ·exact nS h
     obtain ⟨hA4,aC⟩:=mo2 aA hA4 aC;obtain ⟨k5,hk5⟩:∃k,k=Fb F p0 p1 p2 a1 k2 aE a0 nk5:=⟨_,rfl⟩;replace h:Ky F p0 p1 p2 a1 k2 aE a0 k5 aR aZ a3=some res:=by rw [hk5];exact h
     rw [Ky] at h;refine qnB [(33,bm a3 a0)] f λa f=>?_;refine Ak<|Ab f h (λc h=>?_) λc h=>?_
     ·have aJ:=Ae ν24565;refine wK<|C1 (λa w=>∃(b0:aw) (cD:er) (ν24734:Frz) (bV:fk) (bZ:Nat) (c8:List Hd) (c4:List (an)) (B24742:md) (c5:ky),Fr 118 [] [dx ad1 p0 cap2,(1,iv p1),(2,iv p2),(7,pb b7),(8,au p0),(9,iv a1),cl aN aE aO,(11,sv a4 a0 a7),(21,sv ad1 p0 cap2),n7 p0,ki a1,(30,sv a4 a0 a7),(31,au a0),mY a3] a/\St w0 (bq bV b0 bZ c8 c4::fz w0 ν24734::jx b7 bV b0 bZ m5::bl m5 B24742 c5::bc a4 a0 a7::T_) w/\(ii ν24734 c8 c4 b0)/\(MNestOk Eq B24742 c5 cD)/\(ν24565.le ν24734)/\(μ.ext w0.heap.size ν24734)/\(Ar w0 ν24734)/\L4 a3 k5 b0 cD=some res) ?_ ?_
      ·obtain ⟨aI,cZ,h⟩:=A7 h;refine A0<|esr<|qo 5 5 [cj a3,ik aI] f (oI 54 (s.arr (i:=1) rfl) cZ<|oE 3 0 D8 (λ_ d=>((s.at_ d).arr (i:=1) rfl)) cZ rfl<|A4) λa f=>wf ?_;have bN:=Ae ν24565;refine C1 (λa w=>∃(aH:aw) (aS:er) (ν24770:Frz) (aU:fk) (aW:Nat) (bM:List Hd) (bF:List (an)) (B24778:md) (bG:ky),Fr 118 [] [dx ad1 p0 cap2,(1,iv p1),(2,iv p2),(7,pb b7),(8,au p0),(9,iv a1),cl aN aE aO,(11,sv a4 a0 a7),ik aI,(21,sv ad1 p0 cap2),n7 p0,ki a1,(30,sv a4 a0 a7),(31,au a0),mY a3] a/\St w0 (bq aU aH aW bM bF::fz w0 ν24770::jx b7 aU aH aW m5::bl m5 B24778 bG::bc a4 a0 a7::T_) w/\(ii ν24770 bM bF aH)/\(MNestOk Eq B24778 bG aS)/\(ν24565.le ν24770)/\(μ.ext w0.heap.size ν24770)/\(Ar w0 ν24770)/\Ms F p0 p1 p2 a1 a3 k5 aI aH aS=some res) ?_ ?_
       ·obtain ⟨bR,eH,d5,d0,dD,eI,h⟩:=Cg h;refine esr<|qo 13 13 [(49,.bool (bif (mN a3) then (decide (dD<=p2)) else false))] f (oX (.run [⟨39,true,mN a3⟩] (binOp .sub 3 (iv a3) (iv 1)) (iv bR)) (Zn (λhk=>C8 eH hk))<|oX (.run [⟨39,true,mN a3⟩] (Instr.indexAt 54 (sv a4 a0 a7) (iv bR)) (dr a4 bR)) (Wa (s.arr (i:=1) rfl) kr (λhk=>C8 d0 hk))<|oX (.run [⟨39,true,mN a3⟩] (Instr.loadAt 3 (dr a4 bR)) (iv d5)) (A07 (i:=bR) 0 D8 (λ_ d=>((s.at_ d).arr (i:=1) rfl)) kr (λhk=>C8 d0 hk) rfl)<|oX (.run [⟨39,true,mN a3⟩] (binOp .sub 3 (iv aI) (iv d5)) (iv dD)) (Zn (λhk=>C8 eI hk))<|A4) λa f=>wf ?_;refine Ab f h (λc h=>?_) λc h=>?_
        ·obtain ⟨f9,eJ,eS,d2,fB,eK,h⟩:=Cg h;obtain ⟨f7,d3,fC,eL,eW,eM,h⟩:=Cg h;refine qDs 20 [(50,pb b7),(57,n6 a1 eS),(60,n6 a1 aI),(69,iv eW)] f s (oS 3 eJ<|oI 54 (s.arr (i:=1) rfl) d2<|oE 3 0 D8 (λ_ d=>((s.later d).arr (i:=1) rfl)) d2 rfl<|oS 3 eK<|oI 54 (s.arr (i:=1) rfl) d3<|oE 3 0 D8 (λ_ d=>((s.later d).arr (i:=1) rfl)) d3 rfl<|oS 3 eL<|oM 3 eM<|A4) λa w f s=>?_;obtain ⟨dF,eQ,h⟩:=A7 h;replace s:=s.s3.s1.s3.s4;refine SK.wi (qR (λeU=>[]) f (Ty F _ _ _ _ _ eQ ν24565 w0 w _ l aL cF s) ?_);rintro eU w a ⟨ν24892,dH,dJ,dS,dM,B24900,dN,aG,l,rfl,e5,e6,s⟩ f;replace g:=g.t aG;replace bN:=bN.t aG.1;exact wf<|⟨dF.sets,dF.bonds,ν24892,dH,dJ,dS,dM,B24900,dN,f.sb,s.s2,e5,e6,bN,g,l,h⟩
        ·exact wK<|⟨aR,aZ,ν24565,b4,b8,bL,bD,B24573,bE,f.sb,s.s3.s3.s4.s3,aL,cF,bN,g,l,h⟩
       clear bN
       rintro a w ⟨aH,aS,ν24770,aU,aW,bM,bF,B24778,bG,f,s,cX,cY,aD,g,l,h⟩;obtain ⟨hA4,aJ⟩:=mo2 aD hA4 aJ;rw [Ms] at h;refine qnB [(14,iv 1)] f λa f=>?_;refine A0<|C2 (λn_ a w=>∃(bQ:Int),Fr 118 [] [dx ad1 p0 cap2,(1,iv p1),(2,iv p2),(7,pb b7),(8,au p0),(9,iv a1),cl aN aE aO,(11,sv a4 a0 a7),ik aI,nU bQ,(21,sv ad1 p0 cap2),n7 p0,ki a1,(30,sv a4 a0 a7),(31,au a0),mY a3] a/\St w0 (bq aU aH aW bM bF::fz w0 ν24770::jx b7 aU aH aW m5::bl m5 B24778 bG::bc a4 a0 a7::T_) w/\Jn F p0 p1 p2 a1 a3 k5 aI aH aS n_ bQ=some res) F ⟨1,f.sb,s,h⟩ ?_;rintro nk8 a w ⟨bQ,f,s,h⟩;rcases nk8 with _|nk8
       ·exact nS h
       obtain ⟨k8,hk8⟩:∃k,k=Jn F p0 p1 p2 a1 a3 k5 aI aH aS nk8:=⟨_,rfl⟩;replace h:Kz F p0 p1 p2 a1 a3 k5 aI aH aS k8 bQ=some res:=by rw [hk8];exact h
       rw [Kz] at h;obtain ⟨dA,eC,h⟩:=A7 h;refine Ak<|esr<|qo 6 6 [(76,.bool (decide (bQ<=(if dA<p2 then dA else p2))))] f (oS 3 eC<|A4) λa f=>wf ?_;refine Ab f h (λc h=>?_) λc h=>?_
       ·obtain ⟨f8,eD,dB,eE,h⟩:=C9 h;refine wK<|Ak<|A0<|esr<|qo 6 6 [jt dB] f (oA 3 eD<|oR 3 eE<|A4) λa f=>wf ?_;obtain ⟨f6,e8,h⟩:=A7 h;obtain ⟨f2,cP,dP⟩:=An hA4.2 e8;obtain ⟨eX,eZ,f5,rfl,bH⟩:=dP;obtain ⟨eR,e9,h⟩:=A7 h;obtain ⟨f3,cQ,dQ⟩:=An bH.2 e9;obtain ⟨eY,f0,rfl,cN⟩:=dQ;refine esr<|qo 9 9 [(92,.bool (je eR))] f (oI 105 (hA4.at (s.fz l 1)) cP<|oE 107 0 (Ba 1) (hA4.a1 (s.fA l 1)) cP rfl<|oI 107 (bH.at (s.fz l 1)) cQ<|oE 112 0 (Ba 1) (bH.a1 (s.fA l 1)) cQ rfl<|A4) λa f=>wf ?_;refine Ab f h (λc h=>?_) λc h=>?_
        ·obtain ⟨eV,eF,h⟩:=A7 h;refine esr<|qo 10 10 [(93,pb b7),(96,n6 a1 aI),(99,n6 dB aI),(102,iv eV),dp 14] f (oM 3 eF<|A4) λa f=>?_;obtain ⟨dE,eP,h⟩:=A7 h;replace s:=s.s2.s2;refine SK.wi (qR (λeT=>[]) f (Ty F _ _ _ _ _ eP ν24770 w0 w _ l cX cY s) ?_);rintro eT w a ⟨ν24869,dG,dI,dR,dK,B24877,dL,aB,l,rfl,e3,e4,s⟩ f;replace g:=g.t aB;replace aJ:=aJ.t aB.1;refine wf<|Ai (Wx rfl<|Aa<|Aa<|As<|A8<|A5<|?_);exact ⟨dE.sets,dE.bonds,ν24869,dG,dI,dR,dK,B24877,dL,f.sb,s.s2,e3,e4,aJ,g,l,h⟩
        ·refine Am (A8<|A5<|?_);obtain ⟨dC,eG,h⟩:=A7 h;refine A3<|qo 3 3 [nU dC,dp 14] f (oA 3 eG<|A4) λa f=>wf ?_;rw [hk8] at h;exact ⟨nk8,A9 _,dC,f.sb,s,h⟩
       ·refine Ai (Aa<|Aa<|As<|A8<|A5<|?_);exact ⟨aH,aS,ν24770,aU,aW,bM,bF,B24778,bG,f.sb,s,cX,cY,aJ,g,l,h⟩
      clear aJ
      rintro a w ⟨b0,cD,ν24734,bV,bZ,c8,c4,B24742,c5,f,s,e1,e2,aK,g,l,h⟩;replace aA:=aA.t aK;rw [L4] at h;obtain ⟨d9,eB,h⟩:=A7 h;refine A3<|qo 2 2 [mY d9,dp 32] f (oA 3 eB<|A4) λa f=>wf ?_;rw [hk5] at h;exact ⟨nk5,A9 _,b0,cD,d9,ν24734,bV,bZ,c8,c4,B24742,c5,f.sb,s.s3.s3.s4.s3,e1,e2,aA,g,l,h⟩
     ·refine Ai (Aa<|Aa<|As<|A5 ?_);exact ⟨aR,aZ,ν24565,b4,b8,bL,bD,B24573,bE,f.sb,s,aL,cF,aC,g,l,h⟩
    clear aC
    rintro a w ⟨aM,cC,ν23852,aT,aV,bK,bB,B23860,bC,f,s,cA,dY,aP,g,l,h⟩;obtain ⟨a8,a9⟩:=mo2 aP a8 a9;rw [Jm] at h;obtain ⟨b1,eO,bP,cU,h⟩:=C9 h;refine Bu 11 [6,7,8] _ (D:=λw=>St w0 [bc a4 a0 a7,jx b7 aT aM aV m5,bl m5 B23860 bC] w/\FrzAt ν23852 w) kr kr f.size (λw x=>?_) (λ_ _ h=>h);replace s:=s.later x;refine ⟨⟨s.pk [1,2,3],s.fz l 4⟩,?_⟩;have bI:=Ae ν23852;refine WT.s ja [6] kr kr ?_;refine qC 6 [(105,pb b7),(109,sv aT aM aV),(110,sv aN aE aO)] f (oL 105 1 0 (λ_ d=>d.1) rfl rfl<|A4) λa f=>?_;refine Af ?_;refine all_cons ?_ (B4);refine qR (λd7=>[(111,d7)]) f (Nc F _ _ eO ν23852 w (s.fz l 4) a8) ?_;rintro d7 w a ⟨ν23892,bU,bY,cE,aF,rfl,dZ,hQ⟩ f;replace g:=g.t (Frz.ext_mono aF s.ext.size);obtain ⟨l,s⟩:=s.frzMerge (i:=4) rfl l aF hQ;obtain ⟨cA,a9,bI⟩:=mo3 aF.1 cA a9 bI;refine ⟨⟨s.pk [2,3,4],(s.fz l 5).low bI⟩,?_⟩;refine WT.n1 7 ?_;have cW:NestOk (Rp112 ν23892) ([(bU,b1.length,bY)]:List Hd) [cE] [b1]:=NestOk.one dZ;refine B7n (e:=107) (t:=105) (λcI=>[dx ad1 p0 cap2,(1,iv p1),(2,iv p2),(7,pb b7),(8,au p0),(21,sv ad1 p0 cap2),n7 p0,ki a1,(105,pb b7),(109,sv aT aM aV),(112,sb cI 1)]) (bU,b1.length,bY) f s kr ⟨kr⟩ kr (λ_=>⟨kr⟩) λcI w a f s=>⟨⟨s.pk [2,3,4],(s.fz l 5).low bI⟩,?_⟩;refine WT.n1 8 ?_;replace s:=s.s1;have e0:NestOk (Rp112 ν23892) (bK++([(bU,b1.length,bY)]:List Hd)) (bB++[cE]) bP:=by rw [(Pg cU).1];exact NestOk.app cA cW
    refine B6s (t:=105) (ty:=105) (bytes:=24) (L:=aM) (L2:=([b1])) (λb3 b6=>[dx ad1 p0 cap2,(1,iv p1),(2,iv p2),(7,pb b7),(8,au p0),(21,sv ad1 p0 cap2),n7 p0,ki a1,(105,pb b7),(113,sv b3 bP b6)]) cA cW f s kr ⟨kr⟩ kr cU (λ_ _=>⟨kr⟩) λb3 b6 w a f s=>⟨⟨s.pk [1,2,3],(s.fz l 4).low bI⟩,?_⟩;refine WT.z [9,10] kr ?_;refine rC 2 [dx ad1 p0 cap2,(1,iv p1),(2,iv p2),(7,pb b7),(8,au p0),(21,sv ad1 p0 cap2),n7 p0,ki a1,(113,sv b3 bP b6),(115,pb b7)] f A4 λa f=>?_;refine Af ?_;refine SK.wi (qs 105 2 0 (sv b3 bP b6) f s rfl λw a f s=>Al rfl (A8<|A5<|?_));exact ⟨bP,cC,ν23892,b3,b6,(bK++([(bU,b1.length,bY)]:List Hd)),(bB++[cE]),B23860,bC,f.sb,s.d1,e0,dY,a9,g,l,h⟩
   clear a9
   rintro a w ⟨aY,cB,ν22827,bT,bX,c7,c2,B22835,c3,f,s,dW,dX,c9,g,l,h⟩;replace a5:=a5.t c9;rw [Rr] at h;obtain ⟨d8,eA,h⟩:=A7 h;refine A3<|qo 2 2 [ki d8,dp 23] f (oA 3 eA<|A4) λa f=>wf ?_;rw [hk2] at h;exact ⟨nk2,A9 _,aY,cB,d8,ν22827,bT,bX,c7,c2,B22835,c3,f.sb,s,dW,dX,a5,g,l,h⟩
  ·refine Ai (Aa<|Aa<|As<|A5 ?_);exact ⟨aQ,aX,ν20751,b2,b5,bJ,b9,B20759,bA,f.sb,s,a6,cV,a2,g,l,h⟩
 clear a2
 rintro a w ⟨bO,cG,ν12449,bS,bW,c6,c0,B12457,c1,f,s,dU,dV,dT,g,l,h⟩;rw [U3] at h;refine rnB (mQ b7) f λa f=>?_;refine A6 (Di 6 f rfl ?_);cases h;replace s:=s.s1.s3;exact ⟨_,rfl,ν12449,b7,bS,bW,c6,c0,m5,B12457,c1,g,l,rfl,dU,dV,s⟩
end Go.Proofs.YtfkeddejdahnhaaGreatDoor
