/-
  Functions of the program as plain functions of contents, and that the code computes them. Nothing here is a claim.
-/
import Derived.Test.YtcioagfjiccleaaGreatVZ
import Derived.Test.YtcioagfjiccleaaGreatRows
namespace Go.Proofs.YtcioagfjiccleaaGreat
open Go.RowKit
set_option linter.unusedVariables false
set_option maxRecDepth 100000
abbrev KX:=KC Tryz.prog
abbrev KY:=BK Tryz.prog
def UX(x0:af Int):aj (Bool):=some ((x0.length:Int) > 1048576)
def alh:KX:=⟨4,.p (aZ [(false,(.sl .u8))] [(false,.bool,0)] λx=>UX x.1),kp 6 [] Tryz.func4⟩
abbrev abz:=((ak×Int×Int×ak)×((af Int)×ak))
def Jz(x:abz):aj (abz⊕(((ak×Int×ak)×((af Int)×ak))⊕Empty)):=bif x.1.2.2.1<(x.2.1.length:Int)then bif x.1.2.2.1<4000 then xI x.2.1 x.1.2.2.1 λe2=>xG (((),(bits .and .i64 (W6 ((W6 ((W6 (x.1.2.1*131))+(W6 e2)))+7)) 1073741823),(W6 (x.1.2.2.1+1)),()),(x.2.1,()))else aH (((),x.1.2.1,()),(x.2.1,()))else aH (((),x.1.2.1,()),(x.2.1,()))
def abA:KY 32 (bN Tryz.f11):=⟨0,lB 0 ⟨[(0,.lf (.own 20000)),(3,tI),(4,tI)],[(20000,.sl .u8 0)],[]⟩ [(2,⟨[(0,.lf (.own 20000)),(3,tI)],[(20000,.sl .u8 0)],[]⟩)] Jz,lp []⟩
def Dl(x0:af Int):aj Int:=cC Jz (((),(W6 (97301+(x0.length:Int))),0,()),(x0,())) λz3=>some z3.1.2.1
theorem abC:enters Tryz.prog 11/\MY Tryz.prog 11 Dl:=akL (N:=32) (fn:=Tryz.f11) (code:=bN Tryz.f11) (Φ:=(q8 [])) (Λ:=(nT [(0,abA.b)])) Tryz.func11 (by kernel_rfl) (by kernel_rfl) (by kernel_rfl) (by kernel_rfl) (by kernel_rfl) (zd _ trivial) (UR (by kernel_rfl) _ ⟨⟨_,by kernel_rfl,abA.ok⟩,trivial⟩) (λl=>by kernel_rfl)
def Bn(x0:bG):aj ((Int)×(bG×ak)):=bif x0.i<(x0.b.length:Int)then xI x0.b x0.i λe2=>some ((bits .and .i64 (W6 ((bits .and .i64 (bits .xor .i64 ((W6 ((W6 (x0.h*6364136223846793005))+1442695040888963407)).fdiv (2 ^ (min (33:Int).toNat IntKind.i64.bits))) ((W6 ((W6 (x0.h*6364136223846793005))+1442695040888963407)).fdiv (2 ^ (min (45:Int).toNat IntKind.i64.bits)))) 255)+(W6 e2))) 255),((⟨x0.b,(W6 (x0.i+1)),(W6 ((W6 (x0.h*6364136223846793005))+1442695040888963407))⟩:bG),()))else some ((bits .and .i64 (bits .xor .i64 ((W6 ((W6 (x0.h*6364136223846793005))+1442695040888963407)).fdiv (2 ^ (min (33:Int).toNat IntKind.i64.bits))) ((W6 ((W6 (x0.h*6364136223846793005))+1442695040888963407)).fdiv (2 ^ (min (45:Int).toNat IntKind.i64.bits)))) 255),((⟨x0.b,x0.i,(W6 ((W6 (x0.h*6364136223846793005))+1442695040888963407))⟩:bG),()))
def ali:KX:=⟨57,.m ⟨[.p .lZ 0 0],[(false,.int,0)],λx=>Bn x.1⟩,km 58 [] Tryz.func57⟩
def fL(x0:bG)(x1:Int):aj ((Int)×(bG×ak)):=bif x1 <= 0 then some (0,(x0,()))else bif x1 <= 256 then (Bn x0).bind λy1=>if x1=0 then none else some ((y1.1.tmod x1),((⟨x0.b,y1.2.1.i,y1.2.1.h⟩:bG),()))else (Bn x0).bind λy2=>(Bn (⟨x0.b,y2.2.1.i,y2.2.1.h⟩:bG)).bind λy3=>(Bn (⟨x0.b,y3.2.1.i,y3.2.1.h⟩:bG)).bind λy4=>(Bn (⟨x0.b,y4.2.1.i,y4.2.1.h⟩:bG)).bind λy5=>if x1=0 then none else some (((W6 ((W6 ((W6 ((W6 (y2.1*16777216))+(W6 (y3.1*65536))))+(W6 (y4.1*256))))+y5.1)).tmod x1),((⟨x0.b,y5.2.1.i,y5.2.1.h⟩:bG),()))
def tL:KX:=⟨15,.m ⟨[.p .lZ 0 0,.v false .int],[(false,.int,0)],λx=>fL x.1 x.2.1⟩,km 37 [ali] Tryz.func15⟩
def NX(x0:bG):aj ((aR)×(bG×ak)):=(fL x0 2).bind λy1=>(fL (⟨x0.b,y1.2.1.i,y1.2.1.h⟩:bG) 3).bind λy2=>(fL (⟨x0.b,y2.2.1.i,y2.2.1.h⟩:bG) 2).bind λy3=>some ((⟨1,(W6 (1+y1.1)),(W6 (2+y2.1)),(W6 (1+y3.1))⟩:aR),((⟨x0.b,y3.2.1.i,y3.2.1.h⟩:bG),()))
def alj:KX:=⟨51,.m ⟨[.p .lZ 0 0],[(true,.fq,0)],λx=>NX x.1⟩,km 13 [tL] Tryz.func51⟩
def abD  : aj (fA):=some (⟨3,3,7,2,3,10,2,3,3,6,4,5,4,12,3,4,16⟩:fA)
def alk:KX:=⟨52,.p (aZ [] [(true,.nA,0)] λx=>abD),kp 2 [] Tryz.func52⟩
def Dm(x0:bG)(x1:Int):aj ((Bool)×(bG×ak)):=(fL x0 x1).bind λy1=>some ((y1.1==0),((⟨x0.b,y1.2.1.i,y1.2.1.h⟩:bG),()))
def NY:KX:=⟨54,.m ⟨[.p .lZ 0 0,.v false .int],[(false,.bool,0)],λx=>Dm x.1 x.2.1⟩,km 9 [tL] Tryz.func54⟩
def NZ(x0:bG):aj ((pS)×(bG×ak)):=(fL x0 3).bind λy1=>(Dm (⟨x0.b,y1.2.1.i,y1.2.1.h⟩:bG) 2).bind λy2=>some ((⟨y1.1,y2.1⟩:pS),((⟨x0.b,y2.2.1.i,y2.2.1.h⟩:bG),()))
def alm:KX:=⟨53,.m ⟨[.p .lZ 0 0],[(true,.vg,0)],λx=>NZ x.1⟩,km 8 [tL,NY] Tryz.func53⟩
def N0(x0:bG):aj ((gu)×(bG×ak)):=(NX x0).bind λy1=>(abD).bind λy2=>(NZ (⟨x0.b,y1.2.1.i,y1.2.1.h⟩:bG)).bind λy3=>(fL (⟨x0.b,y3.2.1.i,y3.2.1.h⟩:bG) 60).bind λy4=>(fL (⟨x0.b,y4.2.1.i,y4.2.1.h⟩:bG) 3).bind λy5=>(fL (⟨x0.b,y5.2.1.i,y5.2.1.h⟩:bG) 2).bind λy6=>(fL (⟨x0.b,y6.2.1.i,y6.2.1.h⟩:bG) 3).bind λy7=>(Dm (⟨x0.b,y7.2.1.i,y7.2.1.h⟩:bG) 3).bind λy8=>bif y8.1 then (fL (⟨x0.b,y8.2.1.i,y8.2.1.h⟩:bG) 5).bind λy9=>(fL (⟨x0.b,y9.2.1.i,y9.2.1.h⟩:bG) 4).bind λgX=>some ((⟨⟨(W6 (1+y6.1)),y1.1.aI,(W6 (4+y5.1)),y1.1.aU⟩,⟨y2.pT,y2.rp,y2.kB,y2.qw,y2.oa,y2.mI,y2.qx,y2.qy,(W6 (1+gX.1)),(W6 (4+y9.1)),y2.rG,y2.rH,y2.ud,y2.sL,y2.sM,y2.xp,y2.xs⟩,y3.1,y7.1,(W6 (200+y4.1)),16,⟨(W6 (6*(W6 (200+y4.1)))),40⟩⟩:gu),((⟨x0.b,gX.2.1.i,gX.2.1.h⟩:bG),()))else some ((⟨⟨(W6 (1+y6.1)),y1.1.aI,(W6 (4+y5.1)),y1.1.aU⟩,y2,y3.1,y7.1,(W6 (200+y4.1)),16,⟨(W6 (6*(W6 (200+y4.1)))),40⟩⟩:gu),((⟨x0.b,y8.2.1.i,y8.2.1.h⟩:bG),()))
def aln:KX:=⟨12,.m ⟨[.p .lZ 0 0],[(true,.Config,0)],λx=>N0 x.1⟩,km 44 [tL,alj,alk,alm,NY] Tryz.func12⟩
def abE  : aj (eM):=some (⟨0,60,8,2,6,([1,1,1,1]:af Int),⟨20,400⟩⟩:eM)
def alo:KX:=⟨106,.p (aZ [] [(true,.lX,2)] λx=>abE),kp 4 [] Tryz.func106⟩
def Bo(x0:bG)(x1:af Int):aj ((Int)×(bG×ak)):=(fL x0 (x1.length:Int)).bind λy1=>xI x1 y1.1 λe3=>some (e3,((⟨x0.b,y1.2.1.i,y1.2.1.h⟩:bG),()))
def UY:KX:=⟨107,.m ⟨[.p .lZ 0 0,.v false (.sl .int)],[(false,.int,0)],λx=>Bo x.1 x.2.1⟩,km 12 [tL] Tryz.func107⟩
def N1(x0:bG):aj ((eM)×(bG×ak)):=(abE).bind λy1=>(fL x0 2).bind λy2=>(Bo (⟨x0.b,y2.2.1.i,y2.2.1.h⟩:bG) ([0,10,60,200]:af Int)).bind λy3=>(fL (⟨x0.b,y3.2.1.i,y3.2.1.h⟩:bG) 6).bind λy4=>(fL (⟨x0.b,y4.2.1.i,y4.2.1.h⟩:bG) 3).bind λy5=>(fL (⟨x0.b,y5.2.1.i,y5.2.1.h⟩:bG) 4).bind λy6=>(fL (⟨x0.b,y6.2.1.i,y6.2.1.h⟩:bG) 4).bind λy7=>(fL (⟨x0.b,y7.2.1.i,y7.2.1.h⟩:bG) 4).bind λy8=>xC y1.weights y7.1 (if fJ:y7.1.toNat<y1.weights.length then (let sv:=y1.weights[y7.1.toNat]'fJ;(fL (⟨x0.b,y8.2.1.i,y8.2.1.h⟩:bG) 20).bind λfW=>(fL (⟨x0.b,fW.2.1.i,fW.2.1.h⟩:bG) 60).bind λez=>some ((⟨y2.1,y3.1,(W6 (3+y4.1)),y5.1,(W6 ((W6 (y5.1+1))+y6.1)),(y1.weights.set y7.1.toNat (W6 (1+y8.1))),⟨(W6 (5+fW.1)),(W6 (60+ez.1))⟩⟩:eM),((⟨x0.b,ez.2.1.i,ez.2.1.h⟩:bG),())))else none)
def alp:KX:=⟨55,.m ⟨[.p .lZ 0 0],[(true,.lX,2)],λx=>N1 x.1⟩,km 43 [tL,alo,UY] Tryz.func55⟩
def JA(x0:bG):aj ((eM)×(bG×ak)):=(N1 x0).bind λy1=>(fL (⟨x0.b,y1.2.1.i,y1.2.1.h⟩:bG) 10).bind λy2=>some ((⟨y1.1.fS,y1.1.cap,(W6 (8+y2.1)),y1.1.low,y1.1.high,y1.1.weights,y1.1.eE⟩:eM),((⟨x0.b,y2.2.1.i,y2.2.1.h⟩:bG),()))
def abF:KX:=⟨13,.m ⟨[.p .lZ 0 0],[(true,.lX,2)],λx=>JA x.1⟩,km 11 [tL,alp] Tryz.func13⟩
def Fy(x0 x1 x2:Int):aj (Bool):=bif x0 >= x1 then some (x0 <= x2)else some false
def alq:KX:=⟨151,.p (aZ [(false,.int),(false,.int),(false,.int)] [(false,.bool,0)] λx=>Fy x.1 x.2.1 x.2.2.1),kp 15 [] Tryz.func151⟩
def JB(x0:aR):aj (Bool):=(Fy x0.cU 1 2).bind λy1=>bif y1 then (Fy x0.aI 1 4).bind λy2=>bif y2 then (Fy x0.rows 2 16).bind λy3=>bif y3 then (Fy x0.aU 1 8).bind λy4=>some y4 else some false else some false else some false
def abG:KX:=⟨137,.p (aZ [(true,.fq)] [(false,.bool,0)] λx=>JB x.1),kp 21 [alq] Tryz.func137⟩
def Fz(x0:aR):aj (Int):=(JB x0).bind λy1=>bif (!y1)then some 0 else some (W6 (x0.cU*x0.aI))
def UZ:KX:=⟨110,.p (aZ [(true,.fq)] [(false,.int,0)] λx=>Fz x.1),kp 11 [abG] Tryz.func110⟩
def N2(x0:aR):aj (Int):=(JB x0).bind λy1=>bif (!y1)then some 0 else (Fz x0).bind λy2=>some (W6 ((W6 (y2*x0.rows))*x0.aU))
def alr:KX:=⟨108,.p (aZ [(true,.fq)] [(false,.int,0)] λx=>N2 x.1),kp 14 [UZ,abG] Tryz.func108⟩
def N3(x0:bG)(x1:aR):aj ((aV)×(bG×ak)):=(Fz x1).bind λy1=>(fL x0 y1).bind λy2=>(fL (⟨x0.b,y2.2.1.i,y2.2.1.h⟩:bG) x1.rows).bind λy3=>(fL (⟨x0.b,y3.2.1.i,y3.2.1.h⟩:bG) x1.aU).bind λy4=>some ((⟨y2.1,y3.1,y4.1⟩:aV),((⟨x0.b,y4.2.1.i,y4.2.1.h⟩:bG),()))
def als:KX:=⟨109,.m ⟨[.p .lZ 0 0,.v true .fq],[(true,.Addr,0)],λx=>N3 x.1 x.2.1⟩,km 18 [tL,UZ] Tryz.func109⟩
def N4(x0:bG):aj ((Int)×(bG×ak)):=(fL x0 4).bind λy1=>bif (y1.1==0)then (Bo (⟨x0.b,y1.2.1.i,y1.2.1.h⟩:bG) ([0,1,4294967295,2147483648,65536,305419896]:af Int)).bind λy2=>some (y2.1,((⟨x0.b,y2.2.1.i,y2.2.1.h⟩:bG),()))else bif (y1.1==1)then (fL (⟨x0.b,y1.2.1.i,y1.2.1.h⟩:bG) 200).bind λy3=>some (y3.1,((⟨x0.b,y3.2.1.i,y3.2.1.h⟩:bG),()))else (fL (⟨x0.b,y1.2.1.i,y1.2.1.h⟩:bG) 65536).bind λy4=>(fL (⟨x0.b,y4.2.1.i,y4.2.1.h⟩:bG) 65536).bind λy5=>some ((W6 ((W6 (y4.1*65536))+y5.1)),((⟨x0.b,y5.2.1.i,y5.2.1.h⟩:bG),()))
def alu:KX:=⟨138,.m ⟨[.p .lZ 0 0],[(false,.int,0)],λx=>N4 x.1⟩,km 20 [tL,UY] Tryz.func138⟩
def N5(x0:bG)(x1:Int):aj ((bk)×(bG×ak)):=(fL x0 60).bind λy1=>(fL (⟨x0.b,y1.2.1.i,y1.2.1.h⟩:bG) 3).bind λy2=>(fL (⟨x0.b,y2.2.1.i,y2.2.1.h⟩:bG) x1).bind λy3=>(fL (⟨x0.b,y3.2.1.i,y3.2.1.h⟩:bG) 50).bind λy4=>(Dm (⟨x0.b,y4.2.1.i,y4.2.1.h⟩:bG) 2).bind λy5=>bif y5.1 then (N4 (⟨x0.b,y5.2.1.i,y5.2.1.h⟩:bG)).bind λy6=>some ((⟨(W6 (1+y1.1)),y2.1,y3.1,true,y6.1,y4.1⟩:bk),((⟨x0.b,y6.2.1.i,y6.2.1.h⟩:bG),()))else some ((⟨(W6 (1+y1.1)),y2.1,y3.1,false,0,y4.1⟩:bk),((⟨x0.b,y5.2.1.i,y5.2.1.h⟩:bG),()))
def alv:KX:=⟨111,.m ⟨[.p .lZ 0 0,.v false .int],[(true,.ep,0)],λx=>N5 x.1 x.2.1⟩,km 24 [tL,NY,alu] Tryz.func111⟩
def N6(x0:bG)(x1:gu)(x2:Int):aj ((iO)×(bG×ak)):=(N2 x1.aD).bind λy1=>if x1.aD.rows=0 then none else (let N7:Int -> Int -> Int -> Int -> Bool -> Int -> Int -> Int -> Int -> Int -> Int -> Int -> Int -> Int -> aj ((iO)×(bG×ak)):=λDn j19 Bp Dp j22 j23 j24 j25 j26 U0 N8 N9 Oa j31=>some ((⟨Dn,⟨j19,Bp,Dp,j22,j23,j24⟩,j25,j26,⟨U0,N8,N9⟩,⟨0,0,0,0,0,[],⟨0,0⟩⟩⟩:iO),((⟨x0.b,Oa,j31⟩:bG),()));(fL x0 12).bind λy2=>(let Bq:Bool -> aj ((iO)×(bG×ak)):=λj3=>bif j3 then (Bo (⟨x0.b,y2.2.1.i,y2.2.1.h⟩:bG) ([1,3,10,20,40]:af Int)).bind λy4=>(N7 2 0 0 0 false 0 0 y4.1 0 0 0 0 y4.2.1.i y4.2.1.h)else bif (y2.1==2)then (N3 (⟨x0.b,y2.2.1.i,y2.2.1.h⟩:bG) x1.aD).bind λy5=>(fL (⟨x0.b,y5.2.1.i,y5.2.1.h⟩:bG) 11).bind λy6=>(fL (⟨x0.b,y6.2.1.i,y6.2.1.h⟩:bG) 16).bind λy7=>(N7 3 0 0 0 false 0 0 y7.1 y6.1 y5.1.aE y5.1.row y5.1.cO y7.2.1.i y7.2.1.h)else bif (y2.1==3)then (Bo (⟨x0.b,y2.2.1.i,y2.2.1.h⟩:bG) ([4,5,6,2]:af Int)).bind λy8=>(fL (⟨x0.b,y8.2.1.i,y8.2.1.h⟩:bG) 2).bind λy9=>(Fz x1.aD).bind λgX=>(fL (⟨x0.b,y9.2.1.i,y9.2.1.h⟩:bG) gX).bind λfM=>(fL (⟨x0.b,fM.2.1.i,fM.2.1.h⟩:bG) (W6 (x1.aD.rows-x1.cg))).bind λfW=>(JA (⟨x0.b,fW.2.1.i,fW.2.1.h⟩:bG)).bind λez=>some ((⟨y8.1,⟨0,0,0,false,0,0⟩,y9.1,0,⟨fM.1,fW.1,0⟩,ez.1⟩:iO),((⟨x0.b,ez.2.1.i,ez.2.1.h⟩:bG),()))else (N5 (⟨x0.b,y2.2.1.i,y2.2.1.h⟩:bG) (W6 ((W6 (y1.tdiv x1.aD.rows))*(W6 (x1.aD.rows-x1.cg))))).bind λgw=>(Dm (⟨x0.b,gw.2.1.i,gw.2.1.h⟩:bG) 2).bind λfX=>bif fX.1 then (fL (⟨x0.b,fX.2.1.i,fX.2.1.h⟩:bG) 3).bind λcM=>(N7 1 x2 gw.1.bM cM.1 gw.1.write gw.1.data gw.1.at_ 0 0 0 0 0 cM.2.1.i cM.2.1.h)else (N7 1 x2 gw.1.bM gw.1.line gw.1.write gw.1.data gw.1.at_ 0 0 0 0 0 fX.2.1.i fX.2.1.h);bif (y2.1==0)then (Bq (y2.1==0))else (Bq (y2.1==1))))
def alw:KX:=⟨56,.m ⟨[.p .lZ 0 0,.v true .Config,.v false .int],[(true,.Act,2)],λx=>N6 x.1 x.2.1 x.2.2.1⟩,km 87 [abF,tL,NY,UY,alr,als,UZ,alv] Tryz.func56⟩
abbrev abH:=((ak×Int×ak×ak×Int×ak)×((ak×Int×Int×ak)×gu×(af iO)×(af Int)×ak))
def JC(x:abH):aj (abH⊕(((ak×ak)×((af iO)×(ak×Int×Int×ak)×(af Int)×ak))⊕Empty)):=(fL (⟨x.2.2.2.2.1,x.2.1.2.1,x.2.1.2.2.1⟩:bG) (W6 (x.1.2.1+1))).bind λy1=>bif x.1.2.2.2.2.1<y1.1 then (N6 (⟨x.2.2.2.2.1,y1.2.1.i,y1.2.1.h⟩:bG) x.2.2.1 (W6 (x.1.2.2.2.2.1+1))).bind λy2=>bif bZ (x.2.2.2.1.length+[y2.1].length)then xG (((),x.1.2.1,(),(),(W6 (x.1.2.2.2.2.1+1)),()),(((),y2.2.1.i,y2.2.1.h,()),x.2.2.1,(x.2.2.2.1++[y2.1]),x.2.2.2.2.1,()))else none else aH (((),()),(x.2.2.2.1,((),y1.2.1.i,y1.2.1.h,()),x.2.2.2.2.1,()))
def alx:KY 27 (bN Tryz.f14):=⟨0,lB 0 ⟨[(0,.aG 20000 0),(2,tI),(4,.aG 4 0),(7,.lf (.own 9)),(8,tI)],[(20000,.ax [.own 20001,.int .i64,.int .i64]),(4,.st .Config),(9,.sl .Act 4),(20001,.sl .u8 0)],[]⟩ [(2,⟨[(7,.lf (.own 9))],[(9,.sl .Act 4),(20000,.ax [.own 20001,.int .i64,.int .i64]),(20001,.sl .u8 0)],[]⟩)] JC,lp [tL,alw]⟩
def Ob(x0:bG)(x1:gu)(x2:Int):aj (((af iO))×(bG×ak)):=cC JC (((),x2,(),(),0,()),(((),x0.i,x0.h,()),x1,([]:af iO),x0.b,())) λz3=>some (z3.2.1,((⟨x0.b,z3.2.2.1.2.1,z3.2.2.1.2.2.1⟩:bG),()))
def aly:KX:=⟨14,.m ⟨[.p .lZ 0 0,.v true .Config,.v false .int],[(false,(.sl .Act),4)],λx=>Ob x.1 x.2.1 x.2.2.1⟩,kn 27 [] [alx] Tryz.func14⟩
def Oc(x0:af Int):aj (gu×eM×(af iO)):=(Dl x0).bind λy1=>(N0 (⟨x0,0,y1⟩:bG)).bind λy2=>(JA (⟨x0,y2.2.1.i,y2.2.1.h⟩:bG)).bind λy3=>(Ob (⟨x0,y3.2.1.i,y3.2.1.h⟩:bG) y2.1 30).bind λy4=>some (y2.1,y3.1,y4.1)
def alz:KX:=⟨5,.p (aZ [(false,(.sl .u8))] [(true,.Config,0),(true,.lX,2),(false,(.sl .Act),4)] λx=>Oc x.1),kp 17 [⟨11,.n Dl,abC⟩,aln,abF,aly] Tryz.func5⟩
abbrev abI:=((ak×ak×Int×ak)×(((af Int)×Int×Int×ak)×(af Int)×ak))
def JD(x:abI):aj (abI⊕(((ak×ak)×((af Int)×ak))⊕Empty)):=bif x.1.2.2.1<12 then (fL (⟨x.2.1.1,x.2.1.2.1,x.2.1.2.2.1⟩:bG) 10000).bind λy2=>bif bZ (x.2.2.1.length+([y2.1]:af Int).length)then xG (((),(),(W6 (x.1.2.2.1+1)),()),((x.2.1.1,y2.2.1.i,y2.2.1.h,()),(x.2.2.1++([y2.1]:af Int)),()))else none else aH (((),()),(x.2.2.1,()))
def alA:KY 19 (bN Tryz.f6):=⟨0,lB 0 ⟨[(3,.aG 1000000000107000 0),(4,.lf (.own 8)),(5,tI)],[(1000000000107000,.ax [.aA .u8 0,.int .i64,.int .i64]),(8,.sl .int 2)],[]⟩ [(2,⟨[(4,.lf (.own 8))],[(8,.sl .int 2)],[]⟩)] JD,lp [tL]⟩
def Od(x0:af Int):aj ((af Int)):=(Dl x0).bind λy1=>cC JD (((),(),0,()),((x0,0,y1,()),([]:af Int),())) λz3=>some z3.2.1
def alB:KX:=⟨6,.p (aZ [(false,(.sl .u8))] [(false,(.sl .int),2)] λx=>Od x.1),kq 19 [⟨11,.n Dl,abC⟩] [alA] Tryz.func6⟩
def cx(x0 x1 x2:Int):aj (Bool):=bif x0 >= x1 then some (x0 <= x2)else some false
def eC:KX:=⟨19,.p (aZ [(false,.int),(false,.int),(false,.int)] [(false,.bool,0)] λx=>cx x.1 x.2.1 x.2.2.1),kp 15 [] Tryz.func19⟩
def q9(x0:aR):aj (Bool):=(cx x0.cU 1 2).bind λy1=>bif y1 then (cx x0.aI 1 4).bind λy2=>bif y2 then (cx x0.rows 2 16).bind λy3=>bif y3 then (cx x0.aU 1 8).bind λy4=>some y4 else some false else some false else some false
def uL:KX:=⟨85,.p (aZ [(true,.fq)] [(false,.bool,0)] λx=>q9 x.1),kp 21 [eC] Tryz.func85⟩
def mR(x0:aR):aj (Int):=(q9 x0).bind λy1=>bif (!y1)then some 0 else some (W6 (x0.cU*x0.aI))
def oI:KX:=⟨64,.p (aZ [(true,.fq)] [(false,.int,0)] λx=>mR x.1),kp 11 [uL] Tryz.func64⟩
abbrev abJ:=((Int×ak×ak×ak×Int×Int×ak)×((Int×Int×Int×Int×ak)×(Int×ak×ak)×(Int×ak×ak)×(af Int)×(af Int)×ak))
def FA(x:abJ):aj (abJ⊕(((Int×ak×ak×ak×Int×ak)×((Int×Int×Int×Int×ak)×(Int×ak×ak)×(Int×ak×ak)×(af Int)×(af Int)×ak))⊕Empty)):=bif x.1.2.2.2.2.2.1<(W6 (x.2.1.2.2.1-x.1.1))then bif bZ (x.2.2.2.2.2.1.length+([x.1.2.2.2.2.2.1]:af Int).length)then xG ((x.1.1,(),(),(),x.1.2.2.2.2.1,(W6 (x.1.2.2.2.2.2.1+1)),()),(x.2.1,x.2.2.1,x.2.2.2.1,x.2.2.2.2.1,(x.2.2.2.2.2.1++([x.1.2.2.2.2.2.1]:af Int)),()))else none else aH ((x.1.1,(),(),(),x.1.2.2.2.2.1,()),(x.2.1,x.2.2.1,x.2.2.2.1,x.2.2.2.2.1,x.2.2.2.2.2.1,()))
def alC:KY 48 (Bm (bN Tryz.f62) 0):=⟨2,lB 2 ⟨[(1,tI),(2,.aG 2 0),(4,.aG 4 0),(6,.aG 6 0),(7,tI),(8,tI)],[(2,.ax [.int .i64,.int .i64,.int .i64,.int .i64]),(4,.ax [.int .i64,.own 90101]),(6,.ax [.int .i64,.own 90201]),(90101,.sl .int 2),(90201,.sl .int 2)],[]⟩ [(4,⟨[(1,tI),(2,.aG 2 0),(4,.aG 4 0),(6,.aG 6 0),(7,tI)],[(2,.ax [.int .i64,.int .i64,.int .i64,.int .i64]),(4,.ax [.int .i64,.own 90101]),(6,.ax [.int .i64,.own 90201]),(90101,.sl .int 2),(90201,.sl .int 2)],[]⟩)] FA,lp []⟩
abbrev abK:=((Int×ak×ak×ak×Int×ak)×((Int×Int×Int×Int×ak)×(Int×ak×ak)×(Int×ak×ak)×(af Int)×(af Int)×ak))
def JE(x:abK):aj (abK⊕(((ak×ak×ak)×((Int×ak×ak)×(Int×ak×ak)×(af Int)×(af Int)×ak))⊕Empty)):=(mR (⟨x.2.1.1,x.2.1.2.1,x.2.1.2.2.1,x.2.1.2.2.2.1⟩:aR)).bind λy3=>bif x.1.2.2.2.2.1<y3 then cC FA ((x.1.1,(),(),(),x.1.2.2.2.2.1,0,()),(x.2.1,x.2.2.1,x.2.2.2.1,x.2.2.2.2.1,x.2.2.2.2.2.1,())) λz4=>xG ((z4.1.1,(),(),(),(W6 (z4.1.2.2.2.2.1+1)),()),(z4.2.1,z4.2.2.1,z4.2.2.2.1,z4.2.2.2.2.1,z4.2.2.2.2.2.1,()))else aH (((),(),()),(x.2.2.1,x.2.2.2.1,x.2.2.2.2.1,x.2.2.2.2.2.1,()))
def alD:KY 48 (bN Tryz.f62):=⟨0,lB 0 ⟨[(1,tI),(2,.aG 2 0),(4,.aG 4 0),(6,.aG 6 0),(7,tI)],[(2,.ax [.int .i64,.int .i64,.int .i64,.int .i64]),(4,.ax [.int .i64,.own 90101]),(6,.ax [.int .i64,.own 90201]),(90101,.sl .int 2),(90201,.sl .int 2)],[]⟩ [(2,⟨[(4,.aG 4 0),(6,.aG 6 0)],[(4,.ax [.int .i64,.own 90101]),(6,.ax [.int .i64,.own 90201]),(90101,.sl .int 2),(90201,.sl .int 2)],[]⟩)] JE,lq [oI] [alC]⟩
def FB(x0:aR)(x1:Int):aj (fF×Bool):=(q9 x0).bind λy1=>bif (!y1)then some ((⟨0,[]⟩:fF),false)else (cx x1 0 2).bind λy2=>bif (!y2)then some ((⟨0,[]⟩:fF),false)else bif (W6 (x0.rows-x1))<2 then some ((⟨0,[]⟩:fF),false)else cC JE ((x1,(),(),(),0,()),((x0.cU,x0.aI,x0.rows,x0.aU,()),(0,(),()),(x1,(),()),([]:af Int),([]:af Int),())) λz5=>some ((⟨z5.2.2.1.1,z5.2.2.2.2.1⟩:fF),true)
def U1:KX:=⟨62,.p (aZ [(true,.fq),(false,.int)] [(true,.pU,2),(false,.bool,0)] λx=>FB x.1 x.2.1),kq 48 [eC,uL] [alD] Tryz.func62⟩
abbrev abL:=((ak×ak×Int×Int×ak)×(fA×(af Int)×ak))
def FC(x:abL):aj (abL⊕(((Bool×ak)×(ak))⊕(((ak×ak)×(fA×ak))⊕Empty))):=bif x.1.2.2.2.1<x.1.2.2.1 then xC x.2.2.1 x.1.2.2.2.1 (if h2:x.1.2.2.2.1.toNat<x.2.2.1.length then (let e3:=x.2.2.1[x.1.2.2.2.1.toNat]'h2;(cx e3 1 64).bind λy4=>bif (!y4)then aH ((false,()),())else xG (((),(),x.1.2.2.1,(W6 (x.1.2.2.2.1+1)),()),(x.2.1,x.2.2.1,())))else none)else bI (((),()),(x.2.1,()))
def alE:KY 75 (bN Tryz.f128):=⟨0,lB 0 ⟨[(1,.aG 1 0),(39,.lf (.own 39)),(40,tI),(41,tI)],[(1,.st .nA),(39,.sl .int 2)],[]⟩ [(1,⟨[(2,tB)],[],[]⟩),(2,⟨[(1,.aG 1 0)],[(1,.st .nA)],[]⟩)] FC,lp [eC]⟩
def FD(x0:fA):aj (Bool):=cX FC (((),(),(([x0.pT,x0.rp,x0.kB,x0.qw,x0.oa,x0.mI,x0.qx,x0.qy,x0.ny,x0.wr,x0.rG,x0.rH,x0.ud,x0.sL,x0.sM,x0.xp,x0.xs]:af Int).length:Int),0,()),(x0,([x0.pT,x0.rp,x0.kB,x0.qw,x0.oa,x0.mI,x0.qx,x0.qy,x0.ny,x0.wr,x0.rG,x0.rH,x0.ud,x0.sL,x0.sM,x0.xp,x0.xs]:af Int),())) (λz5=>some z5.1.1) λz6=>bif z6.2.1.pT <= z6.2.1.kB then bif z6.2.1.qw <= z6.2.1.oa then bif z6.2.1.qx <= z6.2.1.qy then some (z6.2.1.rG <= z6.2.1.rH)else some false else some false else some false
def U2:KX:=⟨128,.p (aZ [(true,.nA)] [(false,.bool,0)] λx=>FD x.1),kq 75 [] [alE] Tryz.func128⟩
def JF(x0:pS):aj (Bool):=(cx x0.order 0 2).bind λy1=>some y1
def abM:KX:=⟨129,.p (aZ [(true,.vg)] [(false,.bool,0)] λx=>JF x.1),kp 6 [eC] Tryz.func129⟩
def FE(x0:fA):aj (Int):=(FD x0).bind λy1=>bif (!y1)then some 0 else some (W6 (2*(W6 ((W6 ((W6 ((W6 ((W6 ((W6 ((W6 ((W6 ((W6 (x0.sM+x0.xp))+x0.kB))+x0.wr))+x0.ny))+x0.rp))+x0.sL))+x0.pT))+(W6 (8*x0.oa))))+16))))
def alF:KX:=⟨130,.p (aZ [(true,.nA)] [(false,.int,0)] λx=>FE x.1),kp 35 [U2] Tryz.func130⟩
def Oe(x0:gu):aj (Bool):=(FB x0.aD x0.cg).bind λy1=>(q9 x0.aD).bind λy2=>bif y2 then (FD x0.bV).bind λy3=>bif y3 then (JF x0.mapping).bind λy4=>bif y4 then bif y1.2 then (FE x0.bV).bind λy5=>(cx x0.interval y5 10000).bind λy6=>bif y6 then (cx x0.kO 1 16).bind λy7=>bif y7 then (cx x0.gf.bU (W6 (6*x0.interval)) 100000).bind λy8=>bif y8 then (cx x0.gf.bL 0 100000).bind λy9=>some y9 else some false else some false else some false else some false else some false else some false else some false
def alG:KX:=⟨88,.p (aZ [(true,.Config)] [(false,.bool,0)] λx=>Oe x.1),kp 57 [eC,U1,uL,U2,abM,alF] Tryz.func88⟩
def Br(x0:mJ):aj (Bool):=bif x0.low >= 0 then bif x0.low<x0.high then some (x0.high <= 12)else some false else some false
def Of:KX:=⟨48,.p (aZ [(true,.uf)] [(false,.bool,0)] λx=>Br x.1),kp 18 [] Tryz.func48⟩
abbrev abN:=(((af cI)×(af cI)×Int×Int×ak)×(ak))
def JG(x:abN):aj (abN⊕(((Bool×ak)×(ak))⊕((((af cI)×ak)×(ak))⊕Empty))):=bif x.1.2.2.2.1<x.1.2.2.1 then xI x.1.2.1 x.1.2.2.2.1 λe2=>(cx e2.weight 1 9).bind λy3=>bif (!y3)then aH ((false,()),())else (cx e2.iN 0 e2.weight).bind λy4=>bif (!y4)then aH ((false,()),())else xG ((x.1.1,x.1.2.1,x.1.2.2.1,(W6 (x.1.2.2.2.1+1)),()),())else bI ((x.1.1,()),())
def alH:KY 27 (bN Tryz.f47):=⟨0,lB 0 ⟨[(0,.lf (.aA .iZ 0)),(5,.lf (.aA .iZ 0)),(6,tI),(7,tI)],[],[]⟩ [(1,⟨[(2,tB)],[],[]⟩),(2,⟨[(0,.lf (.aA .iZ 0))],[],[]⟩)] JG,lp [eC]⟩
def FF(x0:af cI):aj (Bool):=cX JG ((x0,x0,(x0.length:Int),0,()),()) (λz5=>some z5.1.1) λz6=>(cx (z6.1.1.length:Int) 1 4).bind λy7=>some y7
def U3:KX:=⟨47,.p (aZ [(false,(.sl .iZ))] [(false,.bool,0)] λx=>FF x.1),kq 27 [eC] [alH] Tryz.func47⟩
abbrev abO:=((ak×(af Int)×Int×Int×ak)×((af cI)×ak))
def JH(x:abO):aj (abO⊕(((ak×ak)×((af cI)×ak))⊕Empty)):=bif x.1.2.2.2.1<x.1.2.2.1 then xI x.1.2.1 x.1.2.2.2.1 λe2=>bif bZ (x.2.1.length+([(⟨e2,e2⟩:cI)]:af cI).length)then xG (((),x.1.2.1,x.1.2.2.1,(W6 (x.1.2.2.2.1+1)),()),((x.2.1++([(⟨e2,e2⟩:cI)]:af cI)),()))else none else aH (((),()),(x.2.1,()))
def alI:KY 25 (bN Tryz.f65):=⟨0,lB 0 ⟨[(4,.lf (.own 7)),(8,.lf (.aA .int 0)),(9,tI),(10,tI)],[(7,.sl .iZ 2)],[]⟩ [(2,⟨[(4,.lf (.own 7))],[(7,.sl .iZ 2)],[]⟩)] JH,lp []⟩
def zg(x0:af Int):aj ((af cI)×Bool):=cC JH (((),x0,(x0.length:Int),0,()),(([]:af cI),())) λz3=>(FF z3.2.1).bind λy4=>bif (!y4)then some ([],false)else some (z3.2.1,true)
def U4:KX:=⟨65,.p (aZ [(false,(.sl .int))] [(false,(.sl .iZ),2),(false,.bool,0)] λx=>zg x.1),kq 25 [U3] [alI] Tryz.func65⟩
def FG(x0:ue):aj (Bool):=(cx x0.down 1 10000).bind λy1=>bif y1 then bif x0.sleep > x0.down then some (x0.sleep <= 20000)else some false else some false
def abP:KX:=⟨131,.p (aZ [(true,.wE)] [(false,.bool,0)] λx=>FG x.1),kp 18 [eC] Tryz.func131⟩
def FH(x0:eM):aj (Bool):=(zg x0.weights).bind λy1=>bif (x0.fS==0)then (cx x0.cap 0 100000).bind λy2=>bif y2 then (cx x0.fB 3 1000).bind λy3=>bif y3 then (Br (⟨false,x0.low,x0.high⟩:mJ)).bind λy4=>bif y4 then bif ((x0.weights.length:Int)==4)then bif y1.2 then (FG x0.eE).bind λy5=>some y5 else some false else some false else some false else some false else some false else bif (x0.fS==1)then (cx x0.cap 0 100000).bind λy6=>bif y6 then (cx x0.fB 3 1000).bind λy7=>bif y7 then (Br (⟨false,x0.low,x0.high⟩:mJ)).bind λy8=>bif y8 then bif ((x0.weights.length:Int)==4)then bif y1.2 then (FG x0.eE).bind λy9=>some y9 else some false else some false else some false else some false else some false else some false
def U5:KX:=⟨89,.p (aZ [(true,.lX)] [(false,.bool,0)] λx=>FH x.1),kp 51 [eC,Of,U4,abP] Tryz.func89⟩
def FI(x0:Int):aj (Int):=(cx x0 3 1000).bind λy1=>bif (!y1)then some 0 else some (W6 ((W6 (2*x0))+2))
def alJ:KX:=⟨90,.p (aZ [(false,.int)] [(false,.int,0)] λx=>FI x.1),kp 9 [eC] Tryz.func90⟩
def uM(x0:gu)(x1:eM):aj (Bool):=(Oe x0).bind λy1=>bif y1 then (FH x1).bind λy2=>bif y2 then (FI x1.fB).bind λy3=>bif (W6 (y3+2)) <= x0.gf.bL then if (W6 (x0.bV.kB+x0.bV.rp))=0 then none else some ((W6 ((W6 (x0.kO+1))*x1.fB)) > (W6 ((W6 ((W6 (5*x0.interval)).tdiv (W6 (x0.bV.kB+x0.bV.rp))))+2)))else some false else some false else some false
def U6:KX:=⟨25,.p (aZ [(true,.Config),(true,.lX)] [(false,.bool,0)] λx=>uM x.1 x.2.1),kp 42 [alG,U5,alJ] Tryz.func25⟩
abbrev abQ:=((ak×(af gy)×Int×Int×ak)×((af Int)×ak))
def FJ(x:abQ):aj (abQ⊕(((ak×ak)×((af Int)×ak))⊕Empty)):=bif x.1.2.2.2.1<x.1.2.2.1 then xI x.1.2.1 x.1.2.2.2.1 λe2=>bif e2.open_ then bif bZ (x.2.1.length+([x.1.2.2.2.1]:af Int).length)then xG (((),x.1.2.1,x.1.2.2.1,(W6 (x.1.2.2.2.1+1)),()),((x.2.1++([x.1.2.2.2.1]:af Int)),()))else none else xG (((),x.1.2.1,x.1.2.2.1,(W6 (x.1.2.2.2.1+1)),()),(x.2.1,()))else aH (((),()),(x.2.1,()))
def alK:KY 23 (bN Tryz.f97):=⟨0,lB 0 ⟨[(3,.lf (.own 6)),(8,.lf (.aA .kP 0)),(9,tI),(10,tI)],[(6,.sl .int 2)],[]⟩ [(2,⟨[(3,.lf (.own 6))],[(6,.sl .int 2)],[]⟩)] FJ,lp []⟩
def tM(x0:dj):aj ((af Int)):=cC FJ (((),x0.aI,(x0.aI.length:Int),0,()),(([]:af Int),())) λz3=>some z3.2.1
def Og:KX:=⟨97,.p (aZ [(true,.lW)] [(false,(.sl .int),2)] λx=>tM x.1),kq 23 [] [alK] Tryz.func97⟩
end Go.Proofs.YtcioagfjiccleaaGreat
