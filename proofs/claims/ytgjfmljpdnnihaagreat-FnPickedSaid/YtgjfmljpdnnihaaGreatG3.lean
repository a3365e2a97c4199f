/-
  Functions of the program as plain functions of contents, and that the code computes them. Nothing here is a claim.
-/
import Derived.Test.YtgjfmljpdnnihaaGreatVZ
import Derived.Test.YtgjfmljpdnnihaaGreatRows
import Derived.Test.YtgjfmljpdnnihaaGreatG1
import Derived.Test.YtgjfmljpdnnihaaGreatG2
namespace Go.Proofs.YtgjfmljpdnnihaaGreat
open Go.RowKit Go.Proofs.Tryz
set_option linter.unusedVariables false
set_option maxRecDepth 100000
def cy(C D E:Int):aj (Bool):=bif C >= D then some (C <= E)else some false
def eG:=bx [(false,.int),(false,.int),(false,.int)] cv (fC cy) 15 [] func144
def ue(C:aI):aj (Bool):=(cy C.bK 1 2).bind λD=>bif D then (cy C.aA 1 4).bind λE=>bif E then (cy C.rows 2 16).bind λI=>bif I then (cy C.aL 1 8).bind λL=>some L else some false else some false else some false
def Ac:=bx ud cv (bL ue) 21 [eG] func216
def kP(C:aI):aj (Int):=(ue C).bind λD=>bif (!D)then some 0 else some (W6 (C.bK*C.aA))
def ko:=bx ud dD (bL kP) 11 [Ac] func180
def qi(C:aI):aj (Int):=(ue C).bind λD=>bif (!D)then some 0 else (kP C).bind λE=>some (W6 ((W6 (E*C.rows))*C.aL))
def Ch:=bx ud dD (bL qi) 14 [ko,Ac] func152
def OE(C:bN)(D:aI):aj ((aM)×(bN×af)):=(kP D).bind λO=>(eZ C O).bind λE=>(eZ (⟨C.b,E.2.1.i,E.2.1.h⟩:bN) D.rows).bind λI=>(eZ (⟨C.b,I.2.1.i,I.2.1.h⟩:bN) D.aL).bind λL=>some ((⟨E.1,I.1,L.1⟩:aM),((⟨C.b,L.2.1.i,L.2.1.h⟩:bN),()))
def aq8:=jJ [.p .r5 0 0,.v true .fo] [(true,.Addr,0)] (bY OE) 18 [sL,ko] func179
def OF(C:bN):aj ((Int)×(bN×af)):=(eZ C 4).bind λD=>letI E:=(⟨C.b,D.2.1.i,D.2.1.h⟩:bN);bif (D.1==0)then (Ab E ([0,1,4294967295,2147483648,65536,305419896]:aa Int)).bind λI=>some (I.1,((⟨C.b,I.2.1.i,I.2.1.h⟩:bN),()))else bif (D.1==1)then (eZ E 200).bind λL=>some (L.1,((⟨C.b,L.2.1.i,L.2.1.h⟩:bN),()))else (eZ E 65536).bind λO=>(eZ (⟨C.b,O.2.1.i,O.2.1.h⟩:bN) 65536).bind λT=>some ((W6 ((W6 (O.1*65536))+T.1)),((⟨C.b,T.2.1.i,T.2.1.h⟩:bN),()))
def aq9:=jJ zL dD (bL OF) 20 [sL,WO] func254
def OG(C:bN)(Y:Int):aj ((aZ)×(bN×af)):=(eZ C 60).bind λD=>(eZ (⟨C.b,D.2.1.i,D.2.1.h⟩:bN) 3).bind λE=>(eZ (⟨C.b,E.2.1.i,E.2.1.h⟩:bN) Y).bind λI=>(eZ (⟨C.b,I.2.1.i,I.2.1.h⟩:bN) 50).bind λL=>(Cg (⟨C.b,L.2.1.i,L.2.1.h⟩:bN) 2).bind λO=>letI U:=(⟨C.b,O.2.1.i,O.2.1.h⟩:bN);bif O.1 then (OF U).bind λT=>some ((⟨(W6 (1+D.1)),E.1,I.1,true,T.1,L.1⟩:aZ),((⟨C.b,T.2.1.i,T.2.1.h⟩:bN),()))else some ((⟨(W6 (1+D.1)),E.1,I.1,false,0,L.1⟩:aZ),(U,()))
def ara:=jJ Wp [(true,.dM,0)] (bY OG) 24 [sL,OA,aq9] func181
def OH(C:bN)(E:fm)(x2:Int):aj ((jV)×(bN×af)):=letI u3:=W6 (E.ax.rows-E.bM);(qi E.ax).bind λy1=>if E.ax.rows=0 then none else (let T:Int -> Int -> Int -> Int -> Bool -> Int -> Int -> Int -> Int -> Int -> Int -> Int -> Int -> Int -> aj ((jV)×(bN×af)):=λCi j19 IS EG j22 j23 j24 j25 j26 WQ OI OJ EH j31=>some ((⟨Ci,⟨j19,IS,EG,j22,j23,j24⟩,j25,j26,⟨WQ,OI,OJ⟩,⟨0,0,0,0,0,[],⟨0,0⟩⟩⟩:jV),((⟨C.b,EH,j31⟩:bN),()));(eZ C 12).bind λI=>letI U:=(⟨C.b,I.2.1.i,I.2.1.h⟩:bN);(let zZ:Bool -> aj ((jV)×(bN×af)):=λj3=>bif j3 then (Ab U ([1,3,10,20,40]:aa Int)).bind λY=>(T 2 0 0 0 false 0 0 Y.1 0 0 0 0 Y.2.1.i Y.2.1.h)else bif (I.1==2)then (OE U E.ax).bind λL=>(eZ (⟨C.b,L.2.1.i,L.2.1.h⟩:bN) 11).bind λZ=>(eZ (⟨C.b,Z.2.1.i,Z.2.1.h⟩:bN) 16).bind λy7=>(T 3 0 0 0 false 0 0 y7.1 Z.1 L.1.ay L.1.row L.1.bO y7.2.1.i y7.2.1.h)else bif (I.1==3)then (Ab U ([4,5,6,2]:aa Int)).bind λy8=>(eZ (⟨C.b,y8.2.1.i,y8.2.1.h⟩:bN) 2).bind λy9=>(kP E.ax).bind λlM=>(eZ (⟨C.b,y9.2.1.i,y9.2.1.h⟩:bN) lM).bind λgK=>(eZ (⟨C.b,gK.2.1.i,gK.2.1.h⟩:bN) u3).bind λhU=>(IQ (⟨C.b,hU.2.1.i,hU.2.1.h⟩:bN)).bind λiV=>some ((⟨y8.1,⟨0,0,0,false,0,0⟩,y9.1,0,⟨gK.1,hU.1,0⟩,iV.1⟩:jV),((⟨C.b,iV.2.1.i,iV.2.1.h⟩:bN),()))else (OG U (W6 ((W6 (y1.tdiv E.ax.rows))*u3))).bind λlN=>letI D:=lN.1;(Cg (⟨C.b,lN.2.1.i,lN.2.1.h⟩:bN) 2).bind λO=>letI u1:=T 1 x2 D.dL D.line D.write D.data D.at_ 0 0 0 0 0 O.2.1.i O.2.1.h;bif O.1 then (eZ (⟨C.b,O.2.1.i,O.2.1.h⟩:bN) 3).bind λmR=>(T 1 x2 D.dL mR.1 D.write D.data D.at_ 0 0 0 0 0 mR.2.1.i mR.2.1.h)else u1;bif (I.1==0)then (zZ (I.1==0))else (zZ (I.1==1))))
def arb:=jJ adL [(true,.Act,2)] (fC OH) 87 [aeP,sL,OA,Ch,WO,aq8,ko,ara] func78
abbrev aeQ:=((af×Int×af×af×Int×af)×((af×Int×Int×af)×fm×(aa jV)×(aa Int)×af))
def IU(x:aeQ):aj (aeQ⊕(((af×af)×((aa jV)×(af×Int×Int×af)×(aa Int)×af))⊕Empty)):=letI I:=x.1.2.2.2.2.1;letI C:=x.2.2.2;(eZ (⟨C.2.1,x.2.1.2.1,x.2.1.2.2.1⟩:bN) (W6 (x.1.2.1+1))).bind λD=>bif I<D.1 then (OH (⟨C.2.1,D.2.1.i,D.2.1.h⟩:bN) x.2.2.1 (W6 (I+1))).bind λE=>bif bD (C.1.length+[E.1].length)then xG (((),x.1.2.1,(),(),(W6 (I+1)),()),(((),E.2.1.i,E.2.1.h,()),x.2.2.1,(C.1++[E.1]),C.2.1,()))else none else az (((),()),(C.1,((),D.2.1.i,D.2.1.h,()),C.2.1,()))
def arc:KY 27 (bh f52):=⟨0,lB 0 ⟨[(0,.aG 20000 0),(2,tI),(4,.aG 4 0),(7,.lf (.own 9)),(8,tI)],[(20000,.aC adR),(4,.st .Config),(9,.sl .Act 4),(20001,.sl .u8 0)],[]⟩ [(2,⟨[(7,.lf (.own 9))],[(9,.sl .Act 4),(20000,.aC adR),(20001,.sl .u8 0)],[]⟩)] IU,lp [sL,arb]⟩
def OL(C:bN)(E:fm)(I:Int):aj (((aa jV))×(bN×af)):=br IU (((),I,(),(),0,()),(((),C.i,C.h,()),E,([]:aa jV),C.b,())) λD=>some (D.2.1,((⟨C.b,D.2.2.1.2.1,D.2.2.1.2.2.1⟩:bN),()))
def ard:=ow adL [(false,(.sl .Act),4)] (fC OL) 27 [] [arc] func52
abbrev aeR:=((Int×af×af×af×Int×af)×((Int×Int×Int×Int×af)×(Int×af×af)×(Int×af×af)×(aa Int)×(aa Int)×af))
def IV(x:aeR):aj (aeR⊕(((af×af×af)×((Int×af×af)×(Int×af×af)×(aa Int)×(aa Int)×af))⊕Empty)):=letI C:=x.2.2.2;letI D:=x.1.2.2.2.2.1;letI E:=W6 (x.2.1.2.2.1-x.1.1);letI I:=([(D.tmod E)]:aa Int);(kP (⟨x.2.1.1,x.2.1.2.1,x.2.1.2.2.1,x.2.1.2.2.2.1⟩:aI)).bind λL=>bif D<(W6 (L*E))then if E=0 then none else bif bD (C.2.2.1.length+I.length)then xG ((x.1.1,(),(),(),(W6 (D+1)),()),(x.2.1,x.2.2.1,C.1,C.2.1,(C.2.2.1++I),()))else none else az (((),(),()),(x.2.2.1,C.1,C.2.1,C.2.2.1,()))
def arf:KY 49 (bh f219):=⟨0,lB 0 V9 [(2,ac1)] IV,lp [ko]⟩
def EI(C:aI)(D:Int):aj (dI×Bool):=letI E:=some ((⟨0,[]⟩:dI),false);(ue C).bind λL=>bif (!L)then E else (cy D 0 2).bind λO=>bif (!O)then E else bif (W6 (C.rows-D))<2 then E else br IV ((D,(),(),(),0,()),((C.bK,C.aA,C.rows,C.aL,()),(0,(),()),(D,(),()),([]:aa Int),([]:aa Int),())) λI=>some ((⟨I.2.2.1.1,I.2.2.2.2.1⟩:dI),true)
def WR:=cg HW [(true,.oM,2),(false,.bool,0)] (bY EI) 49 [eG,Ac] [arf] func219
def WS(C:ck):aj ((aa Int)):=some ([C.kJ,C.rp,C.gG,C.nW,C.kK,C.iN,C.nX,C.nY,C.jl,C.wr,C.nZ,C.n5,C.qM,C.n6,C.oK,C.xp,C.xs]:aa Int)
def arh:=bx H8 mc (bL WS) 38 [] func325
abbrev aeS:=((af×af×Int×af)×(ck×(aa Int)×af))
def EJ(x:aeS):aj (aeS⊕(((Bool×af)×(af))⊕(((af×af)×(ck×af))⊕Empty))):=bif x.1.2.2.1<(x.2.2.1.length:Int)then xL x.2.2.1 x.1.2.2.1 λC=>(cy C 1 64).bind λD=>bif (!D)then az ((false,()),())else xG (((),(),(W6 (x.1.2.2.1+1)),()),(x.2.1,x.2.2.1,()))else bf (((),()),(x.2.1,()))
def ari:KY 45 (bh f296):=⟨0,lB 0 ⟨[(1,.aG 1 0),(3,.lf (.own 1000000000106000)),(4,tI)],[(1,.st .jn),(1000000000106000,.sl .int 2)],[]⟩ [(1,nP),(2,adC)] EJ,lp [eG]⟩
def Cj(D:ck):aj (Bool):=(WS D).bind λE=>bP EJ (((),(),0,()),(D,E,())) (λI=>some I.1.1) λL=>letI C:=L.2.1;bif C.kJ <= C.gG then bif C.nW <= C.kK then bif C.nX <= C.nY then some (C.nZ <= C.n5)else some false else some false else some false
def OM:=cg H8 cv (bL Cj) 45 [arh] [ari] func296
def EK(C:nt):aj (Bool):=(cy C.order 0 2).bind λD=>some D
def aeT:=bx [(true,.r4)] cv (bL EK) 6 [eG] func297
def IW(C:ck):aj (Int):=(Cj C).bind λD=>bif (!D)then some 0 else some (W6 (2*(W6 ((W6 ((W6 ((W6 ((W6 ((W6 ((W6 ((W6 ((W6 (C.oK+C.xp))+C.gG))+C.wr))+C.jl))+C.rp))+C.n6))+C.kJ))+(W6 (8*C.kK))))+16))))
def arj:=bx H8 dD (bL IW) 35 [OM] func298
def ON(C:fm):aj (Bool):=(EI C.ax C.bM).bind λD=>bif (!D.2)then some false else (Cj C.bX).bind λE=>bif (!E)then some false else (EK C.mapping).bind λI=>bif (!I)then some false else (IW C.bX).bind λL=>(cy C.interval L 10000).bind λO=>bif (!O)then some false else (cy C.iF 1 16).bind λT=>bif T then (cy C.eC.bC (W6 (6*C.interval)) 100000).bind λU=>bif U then (cy C.eC.bw 0 100000).bind λY=>some Y else some false else some false
def ark:=bx [(true,.Config)] cv (bL ON) 54 [eG,WR,OM,aeT,arj] func213
def Cl(C:jc):aj (Bool):=bif C.low >= 0 then bif C.high <= 12 then some (C.low<C.high)else some false else some false
def OO:=bx [(true,.qO)] cv (bL Cl) 18 [] func155
def IX(C:qN):aj (Bool):=(cy C.down 1 10000).bind λD=>bif D then bif C.sleep > C.down then some (C.sleep <= 20000)else some false else some false
def aeU:=bx [(true,.tf)] cv (bL IX) 18 [eG] func229
abbrev aeV:=(((aa cE)×Int×af)×(af))
def IY(x:aeV):aj (aeV⊕(((Bool×af)×(af))⊕((((aa cE)×af)×(af))⊕Empty))):=letI C:=x.1.2.1;bif C<(x.1.1.length:Int)then xI x.1.1 C λD=>(cy D.weight 1 9).bind λE=>bif (!E)then az ((false,()),())else xI x.1.1 C λI=>xI x.1.1 C λL=>(cy I.fJ 0 L.weight).bind λO=>bif (!O)then az ((false,()),())else xG ((x.1.1,(W6 (C+1)),()),())else bf ((x.1.1,()),())
def arl:KY 34 (bh f154):=⟨0,lB 0 ⟨[(0,.lf (.aH .gw 0)),(3,tI)],[],[]⟩ [(1,nP),(2,adJ)] IY,lp [eG]⟩
def EL(C:aa cE):aj (Bool):=bP IY ((C,0,()),()) (λD=>some D.1.1) λE=>(cy (E.1.1.length:Int) 1 4).bind λI=>some I
def WT:=cg [(false,(.sl .gw))] cv (bL EL) 34 [eG] [arl] func154
abbrev aeW:=(((aa Int)×af×Int×af)×((aa cE)×af))
def IZ(x:aeW):aj (aeW⊕(((af×af)×((aa cE)×af))⊕Empty)):=letI D:=az (((),()),(x.2.1,()));letI C:=x.1.2.2.1;bif C<(x.1.1.length:Int)then bif C <= 4 then xI x.1.1 C λI=>xI x.1.1 C λL=>letI E:=([(⟨I,L⟩:cE)]:aa cE);bif bD (x.2.1.length+E.length)then xG ((x.1.1,(),(W6 (C+1)),()),((x.2.1++E),()))else none else D else D
def arn:KY 34 (bh f278):=⟨0,lB 0 ⟨[(0,.lf (.aH .int 0)),(4,.lf (.own 6)),(5,tI)],[(6,.sl .gw 2)],[]⟩ [(2,⟨[(4,.lf (.own 6))],[(6,.sl .gw 2)],[]⟩)] IZ,lp []⟩
def Ad(D:aa Int):aj ((aa cE)×Bool):=br IZ ((D,(),0,()),(([]:aa cE),())) λC=>(EL C.2.1).bind λE=>bif (!E)then some (([]:aa cE),false)else some (C.2.1,true)
def WU:=cg ox [(false,(.sl .gw),2),(false,.bool,0)] (bL Ad) 34 [WT] [arn] func278
def EM(C:dY):aj (Bool):=(Ad C.weights).bind λD=>(cy C.eU 0 1).bind λE=>bif E then (cy C.cap 0 100000).bind λI=>bif I then (cy C.fl 3 1000).bind λL=>bif L then (Cl (⟨false,C.low,C.high⟩:jc)).bind λO=>bif O then bif D.2 then bif ((C.weights.length:Int)==4)then (IX C.eB).bind λT=>some T else some false else some false else some false else some false else some false else some false
def WV:=bx H9 cv (bL EM) 46 [eG,OO,aeU,WU] func214
def OP(C:Int):aj (Int):=(cy C 3 1000).bind λD=>bif (!D)then some 0 else some (W6 ((W6 (2*C))+2))
def aro:=bx lK dD (bL OP) 9 [eG] func215
def xz(C:fm)(D:dY):aj (Bool):=letI E:=W6 (C.bX.gG+C.bX.rp);(ON C).bind λI=>bif (!I)then some false else (EM D).bind λL=>bif (!L)then some false else (OP D.fl).bind λO=>bif (W6 (O+2)) <= C.eC.bw then if E=0 then none else some ((W6 ((W6 (C.iF+1))*D.fl)) > (W6 ((W6 ((W6 (5*C.interval)).tdiv E))+2)))else some false
def WW:=bx Wt cv (bY xz) 42 [ark,WV,aro] func143
def OQ(D:aI):aj (bU):=(kP D).bind λC=>if 0 <= C/\C <= C/\C<1073741824 then some (⟨(List.replicate C.toNat (⟨false,0⟩:di)),0⟩:bU)else none
def arp:=bx ud [(true,.gX,2)] (bL OQ) 7 [ko] func272
abbrev aeX:=((Int×af×Int×af)×((aa Int)×af))
def I0(x:aeX):aj (aeX⊕(((af×af)×((aa Int)×af))⊕Empty)):=letI C:=x.1.2.2.1;bif C<x.1.1 then xL x.2.1 C λD=>xG ((x.1.1,(),(W6 (C+1)),()),((x.2.1.set C.toNat (-1:Int)),()))else az (((),()),(x.2.1,()))
def arq:KY 16 (bh f308):=⟨0,lB 0 ⟨[(0,tI),(3,.lf (.own 6)),(4,tI)],NX,[]⟩ [(2,Wb)] I0,lp []⟩
def I1(C:Int):aj ((aa Int)):=if 0 <= C/\C <= C/\C<1073741824 then br I0 ((C,(),0,()),((List.replicate C.toNat (0:Int)),())) λD=>some D.2.1 else none
def aeY:=cg lK mc (bL I1) 16 [] [arq] func308
def OR(C:aI):aj (cZ):=(ue C).bind λD=>bif (!D)then some (⟨[],[]⟩:cZ)else (kP C).bind λE=>(I1 (W6 (9*(W6 (E+1))))).bind λI=>some (⟨I,[]⟩:cZ)
def ars:=bx ud [(true,.ny,2)] (bL OR) 13 [ko,Ac,aeY] func273
def art:bG:=⟨adF,acX,[]⟩
def aru:aa (Nat×bG):=[(2,⟨adS,acX,[]⟩)]
abbrev aeZ:=((af×af×af×Int×af)×((Int×Int×Int×Int×af)×(af×af×af×af)×(af×af×af×af)×(aa cq)×(aa Int)×(aa Int)×(aa cq)×(aa Int)×(aa Int)×af))
def I2(x:aeZ):aj (aeZ⊕(((af×af×af×af)×((Int×Int×Int×Int×af)×(af×af×af×af)×(af×af×af×af)×(aa cq)×(aa Int)×(aa Int)×(aa cq)×(aa Int)×(aa Int)×af))⊕Empty)):=letI I:=(11:Int);letI L:=(⟨(List.replicate I.toNat (0:Int)),false⟩:cq);letI D:=((),(),(),());letI E:=x.2.2.2.2.2;letI C:=E.2.2;(qi (⟨x.2.1.1,x.2.1.2.1,x.2.1.2.2.1,x.2.1.2.2.2.1⟩:aI)).bind λO=>bif x.1.2.2.2.1<O then if 0 <= I/\I <= 11/\I<1073741824 then bif bD (C.1.length+[L].length)then xG (((),(),(),(W6 (x.1.2.2.2.1+1)),()),(x.2.1,D,D,x.2.2.2.2.1,E.1,E.2.1,(C.1++[L]),C.2.1,C.2.2.1,()))else none else none else az (D,(x.2.1,D,D,x.2.2.2.2.1,E.1,E.2.1,C.1,C.2.1,C.2.2.1,()))
def arv:KY 39 (bh f274):=⟨0,lB 0 art aru I2,lp [Ch]⟩
def OS(E:aI):aj (en):=letI C:=(0:Int);br I2 (((),(),(),0,()),((E.bK,E.aA,E.rows,E.aL,()),((),(),(),()),((),(),(),()),([]:aa cq),([]:aa Int),([]:aa Int),([]:aa cq),([]:aa Int),([]:aa Int),())) λI=>letI L:=I.2.1.2;letI O:=(⟨I.2.1.1,L.1,L.2.1,L.2.2.1⟩:aI);letI T:=if 0 <= C/\C <= 0/\C<1073741824 then if 0 <= C/\C <= 0/\C<1073741824 then some (⟨I.2.2.2.2.2.2.2.1,(List.replicate C.toNat C),(List.replicate C.toNat C)⟩:en)else none else none;(kP O).bind λU=>letI D:=W6 (U*L.2.1);bif D<0 then T else (ue O).bind λY=>bif (!Y)then T else if 0 <= D/\D <= D/\D<1073741824 then if 0 <= D/\D <= D/\D<1073741824 then some (⟨I.2.2.2.2.2.2.2.1,(List.replicate D.toNat C),(List.replicate D.toNat C)⟩:en)else none else none
def arw:=cg ud [(true,.Array,4)] (bL OS) 39 [ko,Ac] [arv] func274
def vt(C:dY):aj (dY):=bif xZ C.weights then some (⟨C.eU,C.cap,C.fl,C.low,C.high,(xA C.weights),C.eB⟩:dY)else none
def OT:=bx H9 [(true,.n8,2)] (bL vt) 9 [] func309
def OU(C:dY):aj (iE×Bool):=(EM C).bind λD=>bif (!D)then some ((⟨⟨0,0,0,0,0,[],⟨0,0⟩⟩,⟨0,0,0,0,0,[],⟨0,0⟩⟩,false⟩:iE),false)else (vt C).bind λE=>(vt C).bind λI=>some ((⟨E,I,false⟩:iE),true)
def arx:=bx H9 Wn (bL OU) 13 [WV,OT] func275
def OV(C D:Int):aj (dn×Bool):=letI E:=some ((⟨[],0,false⟩:dn),false);(cy C 1 8).bind λI=>bif (!I)then E else (cy D 2 10000).bind λL=>bif (!L)then E else if 0 <= C/\C <= C/\C<1073741824 then some ((⟨(List.replicate C.toNat (0:Int)),D,false⟩:dn),true)else none
def ary:=bx BZ [(true,.lS,2),(false,.bool,0)] (bY OV) 19 [eG] func276
def EN(C:Int):aj (cx×Bool):=(cy C 1 16).bind λD=>bif (!D)then some ((⟨[],[],0⟩:cx),false)else (I1 C).bind λE=>if 0 <= C/\C <= C/\C<1073741824 then some ((⟨E,(List.replicate C.toNat (0:Int)),0⟩:cx),true)else none
def ae0:=bx lK [(true,.iO,2),(false,.bool,0)] (bL EN) 13 [eG,aeY] func277
def WX(C:Int):aj (oL×Bool):=(cy C 1 100000).bind λD=>bif (!D)then some ((⟨0,0,0⟩:oL),false)else some ((⟨0,C,C⟩:oL),true)
def arz:=bx lK [(true,.uN,0),(false,.bool,0)] (bL WX) 11 [eG] func279
def arB:bG:=⟨[(2,.aG 2 0),(3,.aG 3 0),(4,.aG 4 0),(6,.aG 6 0),(7,tI),(8,tI)],[(2,.st .Config),(3,.aC zJ)],ac5⟩
def arC:aa (Nat×bG):=[(2,⟨[(3,.aG 3 0),(4,.aG 4 0),(6,.aG 6 0)],[(3,.aC zJ)],ac5⟩)]
abbrev ae1:=((af×af×af×af×Int×Int×af)×(av×av×fm×(Int×Int×Int×Int×Int×(aa Int)×Int×Int×af)×af))
def EO(x:ae1):aj (ae1⊕(((af×af×af×af)×(av×av×(Int×Int×Int×Int×Int×(aa Int)×Int×Int×af)×af))⊕Empty)):=letI E:=x.2.2.2.2.1;letI I:=([E.2.2.1]:aa Int);letI D:=x.1.2.2.2.2;letI C:=x.2.2.1;bif D.2.1<D.1 then (EN x.2.2.2.1.iF).bind λL=>bif bD (C.bI.length+[L.1].length)then bif bD (C.guard.length+I.length)then xG (((),(),(),(),D.1,(W6 (D.2.1+1)),()),(x.2.1,{C with bI:=(C.bI++[L.1]),guard:=(C.guard++I)},x.2.2.2.1,E,()))else none else none else az (((),(),(),()),(x.2.1,C,E,()))
def arD:KY 95 (bh f201):=⟨0,lB 0 arB arC EO,lp [ae0]⟩
def OW(D:fm)(C:dY):aj (av×Bool):=(xz D C).bind λL=>bif (!L)then some ((⟨⟨⟨0,0,0,0⟩,⟨0,0,0,0,0,0,0,0,0,0,0,0,0,0,0,0,0⟩,⟨0,false⟩,0,0,0,⟨0,0⟩⟩,⟨⟨0,0,0,0,0,[],⟨0,0⟩⟩,⟨0,0,0,0,0,[],⟨0,0⟩⟩,false⟩,0,⟨[],0⟩,⟨[],[]⟩,⟨[],[],[]⟩,⟨0,[]⟩,⟨[],0,false⟩,[],[],[],[],[],⟨false,0,0⟩,⟨0,0,0⟩,⟨0,0,0⟩,[],[],[]⟩:av),false)else (OQ D.ax).bind λO=>(OR D.ax).bind λT=>(OS D.ax).bind λU=>(kP D.ax).bind λE=>(OU C).bind λY=>(EI D.ax D.bM).bind λZ=>(OV E D.interval).bind λy8=>br EO (((),(),(),(),E,0,()),((⟨⟨⟨0,0,0,0⟩,⟨0,0,0,0,0,0,0,0,0,0,0,0,0,0,0,0,0⟩,⟨0,false⟩,0,0,0,⟨0,0⟩⟩,⟨⟨0,0,0,0,0,([]:aa Int),⟨0,0⟩⟩,⟨0,0,0,0,0,([]:aa Int),⟨0,0⟩⟩,false⟩,0,⟨([]:aa di),0⟩,⟨([]:aa Int),([]:aa Int)⟩,⟨([]:aa cq),([]:aa Int),([]:aa Int)⟩,⟨0,([]:aa Int)⟩,⟨([]:aa Int),0,false⟩,([]:aa cx),([]:aa Int),([]:aa aM),([]:aa aZ),([]:aa cE),⟨false,0,0⟩,⟨0,0,0⟩,⟨0,0,0⟩,([]:aa cA),([]:aa bW),([]:aa fK)⟩:av),(⟨D,Y.1,0,O,T,U,Z.1,y8.1,([]:aa cx),([]:aa Int),([]:aa aM),([]:aa aZ),([]:aa cE),⟨false,C.low,C.high⟩,⟨0,0,0⟩,⟨0,0,0⟩,([]:aa cA),([]:aa bW),([]:aa fK)⟩:av),D,(C.eU,C.cap,C.fl,C.low,C.high,C.weights,C.eB.down,C.eB.sleep,()),())) λI=>letI u0:=I.2.2.1;(Ad I.2.2.2.1.2.2.2.2.2.1).bind λgK=>(WX 10).bind λhU=>some ({u0 with shares:=gK.1,cU:=hU.1},true)
def arE:=cg Wt [(true,.cO,4),(false,.bool,0)] (bY OW) 95 [WW,ko,WR,arp,ars,arw,arx,ary,WU,arz] [arD] func201
def Ae(C:aI)(D:aM):aj (Bool):=(kP C).bind λE=>(cy D.ay 0 (W6 (E-1))).bind λI=>bif I then (cy D.row 0 (W6 (C.rows-1))).bind λL=>bif L then (cy D.bO 0 (W6 (C.aL-1))).bind λO=>some O else some false else some false
def OX:=bx N1 cv (bY Ae) 27 [eG,ko] func222
def I3(C:Int):aj (Bool):=(cy C 0 4294967295).bind λD=>some D
def ae2:=bx lK cv (bL I3) 5 [eG] func299
def OY(E:Int)(C:aZ):aj (Bool):=letI D:=(cy C.at_ 0 1000000).bind λI=>some I;(cy C.id 1 100000).bind λL=>bif L then (cy C.dL 0 3).bind λO=>bif O then bif C.line >= 0 then bif C.line<E then (I3 C.data).bind λT=>bif T then bif C.write then D else bif (C.data==0)then D else some false else some false else some false else some false else some false else some false
def arF:=bx [(false,.int),(true,.dM)] cv (bY OY) 43 [eG,ae2] func224
def OZ(C D:aZ):aj (Bool):=bif C.at_<D.at_ then some true else bif (C.at_==D.at_)then some (C.id<D.id)else some false
def ae3:=bx [(true,.dM),(true,.dM)] cv (bY OZ) 24 [] func225
abbrev ae4:=(((aa aZ)×Int×Int×af)×(af))
def I4(x:ae4):aj (ae4⊕(((Int×af)×(af))⊕(((af)×(af))⊕Empty))):=letI C:=x.1.2.2.1;bif C<(x.1.1.length:Int)then xI x.1.1 C λD=>bif (D.id==x.1.2.1)then az ((C,()),())else xG ((x.1.1,x.1.2.1,(W6 (C+1)),()),())else bf ((),())
def arG:KY 20 (bh f226):=⟨0,lB 0 adq [(1,xu),(2,gx)] I4,lp []⟩
def I5(C:aa aZ)(D:Int):aj (Int):=bP I4 ((C,D,0,()),()) (λE=>some E.1.1) λI=>some (-1)
def ae5:=cg NZ dD (bY I5) 20 [] [arG] func226
abbrev ae6:=((Int×(aa aZ)×Int×af)×(af))
def I6(x:ae6):aj (ae6⊕(((Bool×af)×(af))⊕(((af)×(af))⊕Empty))):=letI E:=az ((false,()),());letI D:=x.1.2.1;letI C:=x.1.2.2.1;letI I:=xI D C λL=>(I5 D L.id).bind λO=>bif (O != C)then E else xG ((x.1.1,D,(W6 (C+1)),()),());bif C<(D.length:Int)then xI D C λT=>(OY x.1.1 T).bind λU=>bif (!U)then E else bif C > 0 then xI D (W6 (C-1)) λY=>xI D C λZ=>(OZ Y Z).bind λy8=>bif (!y8)then E else I else I else bf ((),())
def arH:KY 50 (bh f151):=⟨0,lB 0 ⟨[(0,tI),(1,.lf (.aH .dM 0)),(5,tI)],[],[]⟩ [(1,jK),(2,gx)] I6,lp [arF,ae3,ae5]⟩
def vu(D:Int)(C:aa aZ):aj (Bool):=bif (C.length:Int) > 12 then some false else bP I6 ((D,C,0,()),()) (λE=>some E.1.1) λI=>some true
def ae7:=cg [(false,.int),(false,(.sl .dM))] cv (bY vu) 50 [] [arH] func151
abbrev ae8:=((Int×(aa aZ)×af×af×Bool×Int×af)×((Int×Int×Int×Bool×Int×Int×af)×(aa aZ)×af))
def I7(x:ae8):aj (ae8⊕(((Int×(aa aZ)×af×af×Bool×af)×((Int×Int×Int×Bool×Int×Int×af)×(aa aZ)×af))⊕Empty)):=letI C:=x.2.1;letI E:=x.2.2.1;letI D:=x.1.2.1;letI L:=x.1.2.2.2.2;letI I:=L.2.1;letI T:=xI D I λU=>bif bD (E.length+([U]:aa aZ).length)then xG ((x.1.1,D,(),(),L.1,(W6 (I+1)),()),(C,(E++([U]:aa aZ)),()))else none;letI Y:=(⟨C.1,C.2.1,C.2.2.1,C.2.2.2.1,C.2.2.2.2.1,C.2.2.2.2.2.1⟩:aZ);letI O:=([Y]:aa aZ);bif I<(D.length:Int)then bif (!L.1)then xI D I λe2=>(OZ Y e2).bind λy3=>bif y3 then bif bD (E.length+O.length)then xI D I λZ=>bif bD ((E++O).length+([Z]:aa aZ).length)then xG ((x.1.1,D,(),(),true,(W6 (I+1)),()),(C,((E++O)++([Z]:aa aZ)),()))else none else none else T else T else az ((x.1.1,D,(),(),L.1,()),(C,E,()))
def arI:KY 59 (bh f310):=⟨0,lB 0 ⟨[(0,tI),(1,.lf (.aH .dM 0)),(5,.aG 5 0),(8,.lf (.own 11)),(9,tB),(10,tI)],[(5,.aC HV),(11,.sl .dM 2)],[]⟩ [(2,⟨[(0,tI),(1,.lf (.aH .dM 0)),(5,.aG 5 0),(8,.lf (.own 11)),(9,tB)],[(5,.aC HV),(11,.sl .dM 2)],[]⟩)] I7,lp [ae3]⟩
def O0(U:Int)(Y:aa aZ)(E:aZ):aj ((aa aZ)×Bool):=br I7 ((U,Y,(),(),false,0,()),((E.id,E.dL,E.line,E.write,E.data,E.at_,()),([]:aa aZ),())) λT=>letI C:=T.1;letI D:=T.2;letI I:=D.1.2.2;letI L:=bif xZ C.2.1 then some ((xA C.2.1),false)else none;letI O:=([(⟨D.1.1,D.1.2.1,I.1,I.2.1,I.2.2.1,I.2.2.2.1⟩:aZ)]:aa aZ);bif (!C.2.2.2.2.1)then bif bD (D.2.1.length+O.length)then (vu C.1 C.2.1).bind λZ=>bif (!Z)then L else (vu C.1 (D.2.1++O)).bind λhU=>bif (!hU)then L else some ((D.2.1++O),true)else none else (vu C.1 C.2.1).bind λiV=>bif (!iV)then L else (vu C.1 D.2.1).bind λlN=>bif (!lN)then L else some (D.2.1,true)
def arJ:=cg [(false,.int),(false,(.sl .dM)),(true,.dM)] [(false,(.sl .dM),2),(false,.bool,0)] (fC O0) 59 [ae7] [arI] func310
def arK:bG:=⟨[(0,.aG 20000 0),(3,.aG 3 0),(5,.aG 5 0),(6,tI)],[(3,.aC HV),(5,.aC eK)],lJ⟩
def arL:aa (Nat×bG):=[(1,⟨[(4,tB)],[],lJ⟩),(2,⟨[(0,.aG 20000 0),(3,.aG 3 0),(5,.aG 5 0)],[(3,.aC HV),(5,.aC eK)],lJ⟩)]
abbrev ae9:=((af×af×af×Int×af)×(av×(Int×Int×Int×Bool×Int×Int×af)×(Int×Int×Int×Int×af)×af))
def I8(x:ae9):aj (ae9⊕(((Bool×af)×(av×af))⊕(((af×af×af×af)×(av×(Int×Int×Int×Bool×Int×Int×af)×(Int×Int×Int×Int×af)×af))⊕Empty))):=letI C:=x.1.2.2.2.1;letI D:=(x.2.1,x.2.2.1,x.2.2.2.1,());bif C<(x.2.1.cr.length:Int)then xL x.2.1.cr C λE=>bif (E.id==x.2.2.1.1)then az ((false,()),(x.2.1,()))else xG (((),(),(),(W6 (C+1)),()),D)else bf (((),(),(),()),D)
def arM:KY 65 (bh f280):=⟨0,lB 0 arK arL I8,lp []⟩
def O1(D:av)(E:aZ):aj ((Bool)×(av×af)):=bP I8 (((),(),(),0,()),(D,(E.id,E.dL,E.line,E.write,E.data,E.at_,()),(D.config.ax.bK,D.config.ax.aA,(W6 (D.config.ax.rows-D.config.bM)),D.config.ax.aL,()),())) (λO=>some (O.1.1,(O.2.1,()))) λT=>letI C:=T.2.2;letI I:=T.2.1;(qi (⟨C.2.1.1,C.2.1.2.1,C.2.1.2.2.1,C.2.1.2.2.2.1⟩:aI)).bind λU=>(O0 U I.queue (⟨C.1.1,C.1.2.1,C.1.2.2.1,C.1.2.2.2.1,C.1.2.2.2.2.1,I.now⟩:aZ)).bind λL=>bif L.2 then some (L.2,({I with queue:=L.1},()))else some (L.2,(I,()))
def arN:=ow [.p .cO 4 0,.v true .dM] cv (bY O1) 65 [Ch,arJ] [arM] func280
end Go.Proofs.YtgjfmljpdnnihaaGreat
