/-
  Functions of the program as plain functions of contents, and that the code computes them. Nothing here is a claim.
-/
import Derived.Test.YtgjfmljpdnnihaaGreatVZ
import Derived.Test.YtgjfmljpdnnihaaGreatRows
import Derived.Test.YtgjfmljpdnnihaaGreatG1
import Derived.Test.YtgjfmljpdnnihaaGreatG2
import Derived.Test.YtgjfmljpdnnihaaGreatG3
import Derived.Test.YtgjfmljpdnnihaaGreatG4
namespace Go.Proofs.YtgjfmljpdnnihaaGreat
set_option linter.defProp false
open Go.RowKit Go.Proofs.Tryz
set_option linter.unusedVariables false
set_option maxRecDepth 100000
def eS(C:bz)(D:Int):aj ((Int)×(bz×ah)):=bif D <= 0 then some (0,(C,()))else bif D <= 256 then (Aa C).bind λE=>if D=0 then none else some ((E.1.tmod D),((⟨C.b,E.2.1.i,E.2.1.h⟩:bz),()))else (Aa C).bind λI=>(Aa (⟨C.b,I.2.1.i,I.2.1.h⟩:bz)).bind λO=>(Aa (⟨C.b,O.2.1.i,O.2.1.h⟩:bz)).bind λT=>(Aa (⟨C.b,T.2.1.i,T.2.1.h⟩:bz)).bind λU=>if D=0 then none else some (((W6 ((W6 ((W6 ((W6 (I.1*16777216))+(W6 (O.1*65536))))+(W6 (T.1*256))))+U.1)).tmod D),((⟨C.b,U.2.1.i,U.2.1.h⟩:bz),()))
def sC:=mZ SG fV (cV eS) 37 [anQ] func26
def MF(C:bz):aj ((aF)×(bz×ah)):=(eS C 2).bind λD=>(eS (⟨C.b,D.2.1.i,D.2.1.h⟩:bz) 3).bind λE=>(eS (⟨C.b,E.2.1.i,E.2.1.h⟩:bz) 2).bind λI=>some ((⟨1,(W6 (1+D.1)),(W6 (2+E.1)),(W6 (1+I.1))⟩:aF),((⟨C.b,I.2.1.i,I.2.1.h⟩:bz),()))
def anR:=mZ Bz [(true,.fB,0)] (cw MF) 13 [sC] func72
def acK  : aj (bW):=some (⟨3,3,7,2,3,10,2,3,3,6,4,5,4,12,3,4,16⟩:bW)
def anS:=bM [] [(true,.js,0)] (ZA acK) 2 [] func73
def B6(D:bz)(E:Int):aj ((Bool)×(bz×ah)):=(eS D E).bind λC=>some ((C.1==0),((⟨D.b,C.2.1.i,C.2.1.h⟩:bz),()))
def MG:=mZ SG dy (cV B6) 9 [sC] func75
def MH(C:bz):aj ((qp)×(bz×ah)):=(eS C 3).bind λD=>(B6 (⟨C.b,D.2.1.i,D.2.1.h⟩:bz) 2).bind λE=>some ((⟨D.1,E.1⟩:qp),((⟨C.b,E.2.1.i,E.2.1.h⟩:bz),()))
def anT:=mZ Bz [(true,.uG,0)] (cw MH) 8 [sC,MG] func74
def MI(D:bz):aj ((fq)×(bz×ah)):=(MF D).bind λE=>(acK).bind λC=>(MH (⟨D.b,E.2.1.i,E.2.1.h⟩:bz)).bind λI=>(eS (⟨D.b,I.2.1.i,I.2.1.h⟩:bz) 60).bind λZ=>letI O:=W6 (200+Z.1);(eS (⟨D.b,Z.2.1.i,Z.2.1.h⟩:bz) 3).bind λT=>(eS (⟨D.b,T.2.1.i,T.2.1.h⟩:bz) 2).bind λU=>(eS (⟨D.b,U.2.1.i,U.2.1.h⟩:bz) 3).bind λY=>(B6 (⟨D.b,Y.2.1.i,Y.2.1.h⟩:bz) 3).bind λy8=>letI u1:=(⟨D.b,y8.2.1.i,y8.2.1.h⟩:bz);bif y8.1 then (eS u1 5).bind λy9=>(eS (⟨D.b,y9.2.1.i,y9.2.1.h⟩:bz) 4).bind λoE=>some ((⟨⟨(W6 (1+U.1)),E.1.aD,(W6 (4+T.1)),E.1.aM⟩,⟨C.qq,C.rp,C.jD,C.rz,C.nT,C.jY,C.rA,C.rB,(W6 (1+oE.1)),(W6 (4+y9.1)),C.rC,C.rD,C.uF,C.sW,C.sX,C.xp,C.xs⟩,I.1,Y.1,O,16,⟨(W6 (6*O)),40⟩⟩:fq),((⟨D.b,oE.2.1.i,oE.2.1.h⟩:bz),()))else some ((⟨⟨(W6 (1+U.1)),E.1.aD,(W6 (4+T.1)),E.1.aM⟩,C,I.1,Y.1,O,16,⟨(W6 (6*O)),40⟩⟩:fq),(u1,()))
def anU:=mZ Bz [(true,.Config,0)] (cw MI) 44 [sC,anR,anS,anT,MG] func24
def acL  : aj (eo):=some (⟨0,60,8,2,6,([1,1,1,1]:aa Int),⟨20,400⟩⟩:eo)
def anV:=bM [] [(true,.lu,2)] (ZA acL) 4 [] func177
def Ab(D:bz)(E:aa Int):aj ((Int)×(bz×ah)):=(eS D (E.length:Int)).bind λC=>xI E C.1 λI=>some (I,((⟨D.b,C.2.1.i,C.2.1.h⟩:bz),()))
def TI:=mZ [.p .rF 0 0,.v false (.sl .int)] fV (cV Ab) 12 [sC] func178
def MJ(C:bz):aj ((eo)×(bz×ah)):=(acL).bind λy1=>(eS C 2).bind λI=>(Ab (⟨C.b,I.2.1.i,I.2.1.h⟩:bz) ([0,10,60,200]:aa Int)).bind λO=>(eS (⟨C.b,O.2.1.i,O.2.1.h⟩:bz) 6).bind λT=>(eS (⟨C.b,T.2.1.i,T.2.1.h⟩:bz) 3).bind λD=>(eS (⟨C.b,D.2.1.i,D.2.1.h⟩:bz) 4).bind λU=>(eS (⟨C.b,U.2.1.i,U.2.1.h⟩:bz) 4).bind λE=>(eS (⟨C.b,E.2.1.i,E.2.1.h⟩:bz) 4).bind λY=>xL y1.weights E.1 λe11=>(eS (⟨C.b,Y.2.1.i,Y.2.1.h⟩:bz) 20).bind λZ=>(eS (⟨C.b,Z.2.1.i,Z.2.1.h⟩:bz) 60).bind λjR=>some ((⟨I.1,O.1,(W6 (3+T.1)),D.1,(W6 ((W6 (D.1+1))+U.1)),(y1.weights.set E.1.toNat (W6 (1+Y.1))),⟨(W6 (5+Z.1)),(W6 (60+jR.1))⟩⟩:eo),((⟨C.b,jR.2.1.i,jR.2.1.h⟩:bz),()))
def anW:=mZ Bz [(true,.lu,2)] (cw MJ) 43 [sC,anV,TI] func76
def Il(D:bz):aj ((eo)×(bz×ah)):=(MJ D).bind λC=>(eS (⟨D.b,C.2.1.i,C.2.1.h⟩:bz) 10).bind λE=>some ((⟨C.1.fY,C.1.cap,(W6 (8+E.1)),C.1.low,C.1.high,C.1.weights,C.1.eY⟩:eo),((⟨D.b,E.2.1.i,E.2.1.h⟩:bz),()))
def acM:=mZ Bz [(true,.lu,2)] (cw Il) 11 [sC,anW] func25
def El(C D E:Int):aj (Bool):=bif C >= D then some (C <= E)else some false
def anX:=bM [(false,.int),(false,.int),(false,.int)] dy (gT El) 15 [] func144
def Im(C:aF):aj (Bool):=(El C.bD 1 2).bind λD=>bif D then (El C.aD 1 4).bind λE=>bif E then (El C.rows 2 16).bind λI=>bif I then (El C.aM 1 8).bind λO=>some O else some false else some false else some false
def acN:=bM xl dy (cw Im) 21 [anX] func216
def Em(C:aF):aj (Int):=(Im C).bind λD=>bif (!D)then some 0 else some (W6 (C.bD*C.aD))
def TJ:=bM xl fV (cw Em) 11 [acN] func180
def MK(C:aF):aj (Int):=(Im C).bind λD=>bif (!D)then some 0 else (Em C).bind λE=>some (W6 ((W6 (E*C.rows))*C.aM))
def anY:=bM xl fV (cw MK) 14 [TJ,acN] func152
def ML(C:bz)(D:aF):aj ((aN)×(bz×ah)):=(Em D).bind λT=>(eS C T).bind λE=>(eS (⟨C.b,E.2.1.i,E.2.1.h⟩:bz) D.rows).bind λI=>(eS (⟨C.b,I.2.1.i,I.2.1.h⟩:bz) D.aM).bind λO=>some ((⟨E.1,I.1,O.1⟩:aN),((⟨C.b,O.2.1.i,O.2.1.h⟩:bz),()))
def anZ:=mZ [.p .rF 0 0,.v true .fB] [(true,.Addr,0)] (cV ML) 18 [sC,TJ] func179
def MM(C:bz):aj ((Int)×(bz×ah)):=(eS C 4).bind λD=>letI E:=(⟨C.b,D.2.1.i,D.2.1.h⟩:bz);bif (D.1==0)then (Ab E ([0,1,4294967295,2147483648,65536,305419896]:aa Int)).bind λI=>some (I.1,((⟨C.b,I.2.1.i,I.2.1.h⟩:bz),()))else bif (D.1==1)then (eS E 200).bind λO=>some (O.1,((⟨C.b,O.2.1.i,O.2.1.h⟩:bz),()))else (eS E 65536).bind λT=>(eS (⟨C.b,T.2.1.i,T.2.1.h⟩:bz) 65536).bind λU=>some ((W6 ((W6 (T.1*65536))+U.1)),((⟨C.b,U.2.1.i,U.2.1.h⟩:bz),()))
def an0:=mZ Bz fV (cw MM) 20 [sC,TI] func254
def MN(C:bz)(Z:Int):aj ((bg)×(bz×ah)):=(eS C 60).bind λD=>(eS (⟨C.b,D.2.1.i,D.2.1.h⟩:bz) 3).bind λE=>(eS (⟨C.b,E.2.1.i,E.2.1.h⟩:bz) Z).bind λI=>(eS (⟨C.b,I.2.1.i,I.2.1.h⟩:bz) 50).bind λO=>(B6 (⟨C.b,O.2.1.i,O.2.1.h⟩:bz) 2).bind λT=>letI Y:=(⟨C.b,T.2.1.i,T.2.1.h⟩:bz);bif T.1 then (MM Y).bind λU=>some ((⟨(W6 (1+D.1)),E.1,I.1,true,U.1,O.1⟩:bg),((⟨C.b,U.2.1.i,U.2.1.h⟩:bz),()))else some ((⟨(W6 (1+D.1)),E.1,I.1,false,0,O.1⟩:bg),(Y,()))
def an1:=mZ SG [(true,.eD,0)] (cV MN) 24 [sC,MG,an0] func181
def MO(C:bz)(D:fq)(x2:Int):aj ((jE)×(bz×ah)):=letI u3:=W6 (D.ak.rows-D.bR);(MK D.ak).bind λy1=>if D.ak.rows=0 then none else (let T:Int -> Int -> Int -> Int -> Bool -> Int -> Int -> Int -> Int -> Int -> Int -> Int -> Int -> Int -> aj ((jE)×(bz×ah)):=λTo j19 HG L7 j22 j23 j24 j25 j26 Ts Mr Ms Mt j31=>some ((⟨To,⟨j19,HG,L7,j22,j23,j24⟩,j25,j26,⟨Ts,Mr,Ms⟩,⟨0,0,0,0,0,[],⟨0,0⟩⟩⟩:jE),((⟨C.b,Mt,j31⟩:bz),()));(eS C 12).bind λE=>letI U:=(⟨C.b,E.2.1.i,E.2.1.h⟩:bz);(let Hr:Bool -> aj ((jE)×(bz×ah)):=λj3=>bif j3 then (Ab U ([1,3,10,20,40]:aa Int)).bind λY=>(T 2 0 0 0 false 0 0 Y.1 0 0 0 0 Y.2.1.i Y.2.1.h)else bif (E.1==2)then (ML U D.ak).bind λI=>(eS (⟨C.b,I.2.1.i,I.2.1.h⟩:bz) 11).bind λZ=>(eS (⟨C.b,Z.2.1.i,Z.2.1.h⟩:bz) 16).bind λy7=>(T 3 0 0 0 false 0 0 y7.1 Z.1 I.1.aA I.1.row I.1.bX y7.2.1.i y7.2.1.h)else bif (E.1==3)then (Ab U ([4,5,6,2]:aa Int)).bind λy8=>(eS (⟨C.b,y8.2.1.i,y8.2.1.h⟩:bz) 2).bind λy9=>(Em D.ak).bind λoE=>(eS (⟨C.b,y9.2.1.i,y9.2.1.h⟩:bz) oE).bind λoD=>(eS (⟨C.b,oD.2.1.i,oD.2.1.h⟩:bz) u3).bind λzG=>(Il (⟨C.b,zG.2.1.i,zG.2.1.h⟩:bz)).bind λjR=>some ((⟨y8.1,⟨0,0,0,false,0,0⟩,y9.1,0,⟨oD.1,zG.1,0⟩,jR.1⟩:jE),((⟨C.b,jR.2.1.i,jR.2.1.h⟩:bz),()))else (MN U (W6 ((W6 (y1.tdiv D.ak.rows))*u3))).bind λmq=>letI u2:=mq.1;(B6 (⟨C.b,mq.2.1.i,mq.2.1.h⟩:bz) 2).bind λO=>letI u1:=T 1 x2 u2.eC u2.line u2.write u2.data u2.at_ 0 0 0 0 0 O.2.1.i O.2.1.h;bif O.1 then (eS (⟨C.b,O.2.1.i,O.2.1.h⟩:bz) 3).bind λpL=>(T 1 x2 u2.eC pL.1 u2.write u2.data u2.at_ 0 0 0 0 0 pL.2.1.i pL.2.1.h)else u1;bif (E.1==0)then (Hr (E.1==0))else (Hr (E.1==1))))
def an2:=mZ aae [(true,.Act,2)] (gT MO) 87 [acM,sC,MG,anY,TI,anZ,TJ,an1] func78
abbrev acO:=((ah×Int×ah×ah×Int×ah)×((ah×Int×Int×ah)×fq×(aa jE)×(aa Int)×ah))
def Io(x:acO):aj (acO⊕(((ah×ah)×((aa jE)×(ah×Int×Int×ah)×(aa Int)×ah))⊕Empty)):=letI u1:=x.1.2.2.2.2.1;letI C:=x.2.2.2;(eS (⟨C.2.1,x.2.1.2.1,x.2.1.2.2.1⟩:bz) (W6 (x.1.2.1+1))).bind λD=>bif u1<D.1 then (MO (⟨C.2.1,D.2.1.i,D.2.1.h⟩:bz) x.2.2.1 (W6 (u1+1))).bind λE=>bif cv (C.1.length+[E.1].length)then xG (((),x.1.2.1,(),(),(W6 (u1+1)),()),(((),E.2.1.i,E.2.1.h,()),x.2.2.1,(C.1++[E.1]),C.2.1,()))else none else aK (((),()),(C.1,((),D.2.1.i,D.2.1.h,()),C.2.1,()))
def an3:KY 27 (bw f52):=⟨0,lB 0 ⟨[(0,.aH 20000 0),(2,tI),(4,.aH 4 0),(7,.lf (.own 9)),(8,tI)],[(20000,.ay aak),(4,.st .Config),(9,.sl .Act 4),(20001,.sl .u8 0)],[]⟩ [(2,⟨[(7,.lf (.own 9))],[(9,.sl .Act 4),(20000,.ay aak),(20001,.sl .u8 0)],[]⟩)] Io,lp [sC,an2]⟩
def MP(C:bz)(E:fq)(I:Int):aj (((aa jE))×(bz×ah)):=bQ Io (((),I,(),(),0,()),(((),C.i,C.h,()),E,([]:aa jE),C.b,())) λD=>some (D.2.1,((⟨C.b,D.2.2.1.2.1,D.2.2.1.2.2.1⟩:bz),()))
def an4:=DA aae [(false,(.sl .Act),4)] (gT MP) 27 [] [an3] func52
def MQ(C:aa Int):aj (fq×eo×(aa jE)):=(Ik C).bind λI=>(MI (⟨C,0,I⟩:bz)).bind λD=>(Il (⟨C,D.2.1.i,D.2.1.h⟩:bz)).bind λE=>(MP (⟨C,E.2.1.i,E.2.1.h⟩:bz) D.1 30).bind λO=>some (D.1,E.1,O.1)
def an5:=bM [(false,(.sl .u8))] [(true,.Config,0),(true,.lu,2),(false,(.sl .Act),4)] (cw MQ) 17 [⟨23,.n Ik,anP⟩,anU,acM,an4] func15
def an6:bC:=⟨[(1,.aH 1 0),(2,.aH 2 0),(4,.aH 4 0),(5,tI)],[(1,.ay gd),(2,.ay Lk),(4,.ay [.own 90200,.own 16,.own 18]),(90100,.sl .Cell 4),(90101,.sl .int 2),(90102,.sl .int 2),(90200,.sl .Cell 4),(16,.sl .int 2),(18,.sl .int 2)],[]⟩
def an7:aa (Nat×bC):=[(2,⟨[(2,.aH 2 0),(4,.aH 4 0)],[(2,.ay Lk),(4,.ay [.own 90200,.own 16,.own 18]),(90100,.sl .Cell 4),(90101,.sl .int 2),(90102,.sl .int 2),(90200,.sl .Cell 4),(16,.sl .int 2),(18,.sl .int 2)],[]⟩)]
abbrev acP:=((ah×ah×ah×Int×ah)×((Int×Int×Int×Int×ah)×(ah×ah×ah×ah)×(ah×ah×ah×ah)×(aa cu)×(aa Int)×(aa Int)×(aa cu)×(aa Int)×(aa Int)×ah))
def Ip(x:acP):aj (acP⊕(((ah×ah×ah)×((ah×ah×ah×ah)×(ah×ah×ah×ah)×(aa cu)×(aa Int)×(aa Int)×(aa cu)×(aa Int)×(aa Int)×ah))⊕Empty)):=letI u1:=((),(),(),());letI C:=x.2.2.2.2.2;letI u2:=C.2.2;(su (⟨x.2.1.1,x.2.1.2.1,x.2.1.2.2.1,x.2.1.2.2.2.1⟩:aF)).bind λE=>bif x.1.2.2.2.1<E then (zZ 0).bind λD=>bif cv (u2.1.length+[(⟨D,false⟩:cu)].length)then xG (((),(),(),(W6 (x.1.2.2.2.1+1)),()),(x.2.1,u1,u1,x.2.2.2.2.1,C.1,C.2.1,(u2.1++[(⟨D,false⟩:cu)]),u2.2.1,u2.2.2.1,()))else none else aK (((),(),()),(u1,u1,x.2.2.2.2.1,C.1,C.2.1,u2.1,u2.2.1,u2.2.2.1,()))
def an8:KY 34 (bw f31):=⟨0,lB 0 an6 an7 Ip,lp [DL,acd]⟩
def MR(D:aF):aj (cN):=(m0 D).bind λE=>bif (!E)then some (⟨[],[],[]⟩:cN)else (jA D).bind λI=>letI C:=W6 (I*D.rows);if 0 <= C/\C <= C/\C<1073741824 then if 0 <= C/\C <= C/\C<1073741824 then bQ Ip (((),(),(),0,()),((D.bD,D.aD,D.rows,D.aM,()),((),(),(),()),((),(),(),()),([]:aa cu),([]:aa Int),([]:aa Int),([]:aa cu),(List.replicate C.toNat (0:Int)),(List.replicate C.toNat (0:Int)),())) λO=>letI u1:=O.2.2.2.2.2.2;some (⟨u1.1,u1.2.1,u1.2.2.1⟩:cN)else none else none
def an9:=cY xl [(true,.Array,4)] (cw MR) 34 [lK,pO] [an8] func31
def MS(C:eo):aj (jZ×Bool):=(DK C).bind λD=>bif (!D)then some ((⟨⟨0,0,0,0,0,[],⟨0,0⟩⟩,⟨0,0,0,0,0,[],⟨0,0⟩⟩,false⟩:jZ),false)else (sq C).bind λE=>(sq C).bind λI=>some ((⟨E,I,false⟩:jZ),true)
def aoa:=bM [(true,.lu)] SE (cw MS) 13 [SY,Lr] func32
def MT(C D:Int):aj (dB×Bool):=letI E:=some ((⟨[],0,false⟩:dB),false);(bO C 1 8).bind λI=>bif (!I)then E else (bO D 2 10000).bind λO=>bif (!O)then E else if 0 <= C/\C <= C/\C<1073741824 then some ((⟨(List.replicate C.toNat (0:Int)),D,false⟩:dB),true)else none
def aob:=bM Lq [(true,.ld,2),(false,.bool,0)] (cV MT) 19 [dw] func34
def TK(C:Int):aj (sY×Bool):=(bO C 1 100000).bind λD=>bif (!D)then some ((⟨0,0,0⟩:sY),false)else some ((⟨0,C,C⟩:sY),true)
def aoc:=bM sn [(true,.uH,0),(false,.bool,0)] (cw TK) 11 [dw] func37
def aod:bC:=⟨[(2,.aH 2 0),(3,.aH 3 0),(4,.aH 4 0),(6,.aH 6 0),(7,.aH 7 0),(8,tI)],[(2,.st .Config),(3,.ay Bw),(6,.ay gd)],Z3⟩
def aoe:aa (Nat×bC):=[(2,⟨[(4,.aH 4 0),(7,.aH 7 0)],[],Z3⟩)]
abbrev acQ:=((ah×ah×ah×ah×ah×Int×ah)×(ax×ax×fq×(Int×Int×Int×Int×Int×(aa Int)×Int×Int×ah)×(Int×Int×Int×Int×ah)×ah))
def En(x:acQ):aj (acQ⊕(((ah×ah×ah)×(ax×ax×ah))⊕Empty)):=letI u1:=x.2.2.2.2;letI u2:=([u1.1.2.2.1]:aa Int);letI C:=x.2.2.1;(jA (⟨u1.2.1.1,u1.2.1.2.1,u1.2.1.2.2.1,u1.2.1.2.2.2.1⟩:aF)).bind λE=>bif x.1.2.2.2.2.2.1<E then (Ec x.2.2.2.1.iU).bind λD=>bif cv (C.bE.length+[D.1].length)then bif cv (C.guard.length+u2.length)then xG (((),(),(),(),(),(W6 (x.1.2.2.2.2.2.1+1)),()),(x.2.1,{C with bE:=(C.bE++[D.1]),guard:=(C.guard++u2)},x.2.2.2.1,u1.1,u1.2.1,()))else none else none else aK (((),(),()),(x.2.1,C,()))
def aof:KY 92 (bw f9):=⟨0,lB 0 aod aoe En,lp [lK,abX]⟩
def MU(C:fq)(D:eo):aj (ax×Bool):=(qX C D).bind λE=>bif (!E)then some ((⟨⟨⟨0,0,0,0⟩,⟨0,0,0,0,0,0,0,0,0,0,0,0,0,0,0,0,0⟩,⟨0,false⟩,0,0,0,⟨0,0⟩⟩,⟨⟨0,0,0,0,0,[],⟨0,0⟩⟩,⟨0,0,0,0,0,[],⟨0,0⟩⟩,false⟩,0,⟨[],0⟩,⟨[],[]⟩,⟨[],[],[]⟩,⟨0,[]⟩,⟨[],0,false⟩,[],[],[],[],[],⟨false,0,0⟩,⟨0,0,0⟩,⟨0,0,0⟩,[],[],[]⟩:ax),false)else (Ei C.ak).bind λI=>(Ig C.ak).bind λO=>(MR C.ak).bind λT=>(MS D).bind λU=>(DH C.ak C.bR).bind λY=>(jA C.ak).bind λZ=>(MT Z C.interval).bind λy8=>(xo D.weights).bind λy9=>(TK 10).bind λoE=>bQ En (((),(),(),(),(),0,()),((⟨⟨⟨0,0,0,0⟩,⟨0,0,0,0,0,0,0,0,0,0,0,0,0,0,0,0,0⟩,⟨0,false⟩,0,0,0,⟨0,0⟩⟩,⟨⟨0,0,0,0,0,([]:aa Int),⟨0,0⟩⟩,⟨0,0,0,0,0,([]:aa Int),⟨0,0⟩⟩,false⟩,0,⟨([]:aa dK),0⟩,⟨([]:aa Int),([]:aa Int)⟩,⟨([]:aa cu),([]:aa Int),([]:aa Int)⟩,⟨0,([]:aa Int)⟩,⟨([]:aa Int),0,false⟩,([]:aa cK),([]:aa Int),([]:aa aN),([]:aa bg),([]:aa di),⟨false,0,0⟩,⟨0,0,0⟩,⟨0,0,0⟩,([]:aa cC),([]:aa bK),([]:aa fN)⟩:ax),(⟨C,U.1,0,I,O,T,Y.1,y8.1,([]:aa cK),([]:aa Int),([]:aa aN),([]:aa bg),y9.1,⟨false,D.low,D.high⟩,⟨0,0,0⟩,oE.1,([]:aa cC),([]:aa bK),([]:aa fN)⟩:ax),C,(D.fY,D.cap,D.ey,D.low,D.high,D.weights,D.eY.down,D.eY.sleep,()),(C.ak.bD,C.ak.aD,C.ak.rows,C.ak.aM,()),())) λku=>some (ku.2.2.1,true)
def aog:=cY [(true,.Config),(true,.lu)] Lp (cV MU) 92 [SZ,TH,acC,an9,aoa,SV,aob,lK,SX,aoc] [aof] func9
def Iq(C:aa bg):aj ((aa bg)):=bif xZ C then some (xA C)else none
def aoh:=bM [(false,(.sl .eD))] [(false,(.sl .eD),2)] (cw Iq) 6 [] func111
abbrev acR:=((Int×(aa bg)×ah×Int×ah)×((Int×Int×Int×Bool×Int×Int×ah)×ah))
def Ir(x:acR):aj (acR⊕(((Int×(aa bg)×ah×Int×ah)×((Int×Int×Int×Bool×Int×Int×ah)×ah))⊕Empty)):=letI u2:=x.2.1;letI u1:=x.1.2.2.2.1;letI C:=aK ((x.1.1,x.1.2.1,(),u1,()),(u2,()));bif u1<(x.1.2.1.length:Int)then xI x.1.2.1 u1 λD=>(Hg D (⟨u2.1,u2.2.1,u2.2.2.1,u2.2.2.2.1,u2.2.2.2.2.1,u2.2.2.2.2.2.1⟩:bg)).bind λE=>bif E then xG ((x.1.1,x.1.2.1,(),(W6 (u1+1)),()),(u2,()))else C else C
def aoi:KY 48 (bw f42):=⟨0,lB 0 ZU [(2,ZU)] Ir,lp [aa8]⟩
def MV(O:Int)(T:aa bg)(C:bg):aj ((aa bg)×Bool):=bQ Ir ((O,T,(),0,()),((C.id,C.eC,C.line,C.write,C.data,C.at_,()),())) λD=>letI u6:=D.2.1.2;letI u5:=D.1.2.1;letI u4:=(Iq u5).bind λU=>some (U,false);letI u3:=D.1.2.2.2.1;letI u2:=(u5.length:Int);letI u1:=(u5.take u2.toNat).drop u3.toNat;letI E:=([(⟨D.2.1.1,u6.1,u6.2.1,u6.2.2.1,u6.2.2.2.1,u6.2.2.2.2.1⟩:bg)]:aa bg);if 0 <= (0:Int)/\0 <= u3/\u3 <= u2 then if 0 <= u3/\u3 <= u2/\u2 <= u2 then (Iq ((u5.take u3.toNat).drop (0:Int).toNat)).bind λI=>bif cv (I.length+E.length)then bif cv ((I++E).length+u1.length)then (BN D.1.1 u5).bind λY=>bif (!Y)then u4 else (BN D.1.1 ((I++E)++u1)).bind λZ=>bif (!Z)then u4 else some (((I++E)++u1),true)else none else none else none else none
def aoj:=cY [(false,.int),(false,(.sl .eD)),(true,.eD)] [(false,(.sl .eD),2),(false,.bool,0)] (gT MV) 48 [abc,aoh] [aoi] func42
def aok:enters Tryz.prog 46/\qK Tryz.prog 46 (cj Tryz.prog f46 1 []):=Lg (GJ 1 [] func46 trivial)
abbrev acS:=(((aa fN)×bg×Int×Int×ah)×(ah))
def Is(x:acS):aj (acS⊕(((Int×ah)×(ah))⊕(((ah)×(ah))⊕Empty))):=letI C:=x.1.2.2.2.1;bif C<x.1.2.2.1 then xI x.1.1 C λD=>bif (D.id==x.1.2.1.id)then aK ((C,()),())else xG ((x.1.1,x.1.2.1,x.1.2.2.1,(W6 (C+1)),()),())else bF ((),())
def aol:KY 19 (bw f112):=⟨0,lB 0 ⟨[(0,.lf (.aG .ni 0)),(1,.fc 46 .eD),(7,tI),(8,tI)],[],[]⟩ [(1,By),(2,lJ)] Is,lp [⟨46,.i _,aok⟩]⟩
def TL(C:aa fN)(D:bg):aj (Int):=(iter Is br ((C,D,(C.length:Int),0,()),())).bind (Sum.elim (λE=>some E.1.1) (Sum.elim (λI=>some (-1)) (λz=>nomatch z)))
def aom:KX:=⟨112,.q (gS [(false,(.sl .ni)),(false,(.AF 46))] [(false,.int,0)] λx=>TL x.1 x.2.1),kq 19 [] [aol] func112⟩
def MW(C:aa fN)(D:bg):aj (Bool):=(TL C D).bind λE=>some (decide (E >= 0))
def aon:KX:=⟨45,.q (gS [(false,(.sl .ni)),(false,(.AF 46))] [(false,.bool,0)] λx=>MW x.1 x.2.1),kp 9 [aom] func45⟩
def MX(C:ax)(D:bg):aj (ax×Bool):=letI E:=(⟨D.id,D.eC,D.line,D.write,D.data,C.now⟩:bg);(zF C).bind λI=>letI u1:=some (I,false);(sx C).bind λT=>bif (!T)then u1 else (xq C.config.ak C.spare).bind λU=>(su U).bind λY=>(MV Y C.queue E).bind λO=>(MW C.cx E).bind λZ=>bif (!O.2)then u1 else bif Z then u1 else some ({I with queue:=O.1},true)
def aoo:=bM [(true,.dG),(true,.eD)] Lp (cV MX) 46 [xy,GP,aoj,DL,DN,aon] func11
def Eo(I:aF)(O:cN)(T:aN)(E U:Int):aj (cN):=(BA O).bind λC=>(BI I O).bind λZ=>bif Z then (xw I T).bind λy3=>bif y3 then (bO E 0 10).bind λy4=>bif y4 then (sv U).bind λy5=>bif y5 then (zV I T).bind λD=>xL C.cells D λe9=>xM C.cells D λD9=>xC D9.symbols E (xM C.cells D λvn=>xM vn.symbols E λD2=>xM C.cells D λHz=>xC Hz.symbols E (xM C.cells D λY=>xM Y.symbols E λe23=>xM C.cells D λLW=>some (⟨(C.cells.set D.toNat (⟨(Y.symbols.set E.toNat (bits .xor .i64 D2 U)),LW.mL⟩:cu)),C.bq,C.aY⟩:cN)))else some C else some C else some C else some C
def aop:=bM [(true,.fB),(true,.Array),(true,.Addr),(false,.int),(false,.int)] [(true,.Array,4)] (Li Eo) 45 [dw,S2,SM,G7,G3,L5] func121
def MY(C:dB)(D:Bool):aj (dB):=letI u1:=W6 ((W6 (2*C.wait))-1);(xm C).bind λE=>letI u2:=some (⟨E.aC,E.wait,D⟩:dB);letI I:=bif (!D)then bif C.dL then some (⟨E.aC,(if 10000<u1 then 10000 else u1),D⟩:dB)else u2 else u2;(xx C).bind λO=>bif (!O)then some E else bif D then bif (!C.dL)then some (⟨E.aC,(W6 ((W6 (C.wait+1)).tdiv 2)),D⟩:dB)else I else I
def aoq:=bM [(true,.ld),(false,.bool)] [(true,.ld,2)] (cV MY) 40 [Lt,DR] func122
def MZ(E:jZ)(C:eo):aj (jZ×Bool):=(DB E).bind λD=>(DK C).bind λI=>bif (!I)then some (D,false)else (sq C).bind λO=>some ((⟨D.bS,O,true⟩:jZ),true)
def aor:=bM [(true,.rE),(true,.lu)] SE (cV MZ) 18 [SY,Lr,SL] func123
abbrev acT:=((Int×(aa Int)×Int×Int×ah)×(ah))
def It(x:acT):aj (acT⊕(((Int×ah)×(ah))⊕(((ah)×(ah))⊕Empty))):=letI C:=x.1.2.2.2.1;bif C<x.1.2.2.1 then xI x.1.2.1 C λD=>bif (D==x.1.1)then aK ((C,()),())else xG ((x.1.1,x.1.2.1,x.1.2.2.1,(W6 (C+1)),()),())else bF ((),())
def aos:KY 34 (bw f271):=⟨0,lB 0 ⟨[(3,tI),(22,.lf (.aG .int 0)),(23,tI),(24,tI)],[],[]⟩ [(1,⟨[(8,tI)],[],[]⟩),(2,lJ)] It,lp []⟩
def M0(E:aF)(D:fm)(I T:Int):aj (Int):=(xq E D).bind λU=>(zP U I 0).bind λY=>bif (!Y)then some (-1)else (BG E D I).bind λC=>letI O:=(D.map.take C.2).drop C.1;bif Nat.ble C.1 C.2&&Nat.ble C.2 D.map.length then cH It ((T,O,(O.length:Int),0,()),()) (λZ=>some Z.1.1) λz7=>some (-1)else none
def aot:=cY Sx fV (xj M0) 34 [DN,⟨128,.v Ly,S0⟩,Th] [aos] func271
def aou:bC:=⟨[(2,tI),(3,tI),(4,.aH 4 0),(5,.aH 5 0),(8,.aH 8 0),(10,.aH 10 0),(11,.aH 11 0),(12,tI)],[(4,.ay gd),(5,.ay SC),(8,.ay Ln),(10,.ay SJ),(11,.ay gd),(90101,.sl .int 2),(15,.sl .int 2)],[]⟩
def aov:aa (Nat×bC):=[(1,⟨[(8,.aH 8 0),(9,tB)],[(8,.ay SJ),(15,.sl .int 2)],[]⟩),(2,⟨[(8,.aH 8 0),(10,.aH 10 0)],[(8,.ay Ln),(10,.ay SJ),(90101,.sl .int 2),(15,.sl .int 2)],[]⟩)]
abbrev acU:=((Int×Int×ah×ah×ah×ah×ah×Int×ah)×((Int×Int×Int×Int×ah)×(Int×(aa Int)×ah)×(Int×ah×ah)×(Int×ah×ah)×(Int×Int×Int×Int×ah)×(aa Int)×(aa Int)×ah))
def Iu(x:acU):aj (acU⊕(((ah×Bool×ah)×((Int×ah×ah)×(aa Int)×ah))⊕(((ah×ah×ah)×((Int×ah×ah)×(Int×ah×ah)×(aa Int)×(aa Int)×ah))⊕Empty))):=letI u1:=x.1.2.2.2.2.2.2.2.1;letI C:=x.2.2.2.2;letI u3:=C.2.2.2.1;letI u2:=W6 ((W6 (x.1.1*C.2.1.2.2.1))+x.1.2.1);bif u1<x.2.1.2.2.1 then (M0 (⟨x.2.1.1,x.2.1.2.1,x.2.1.2.2.1,x.2.1.2.2.2.1⟩:aF) (⟨x.2.2.1.1,x.2.2.1.2.1⟩:fm) x.1.1 u1).bind λD=>bif D<0 then xL u3 u2 λE=>aK (((),true,()),(C.1,(u3.set u2.toNat u1),()))else xG ((x.1.1,x.1.2.1,(),(),(),(),(),(W6 (u1+1)),()),(x.2.1,x.2.2.1,x.2.2.2.1,C.1,C.2.1,C.2.2.1,u3,()))else bF (((),(),()),(x.2.2.2.1,C.1,C.2.2.1,u3,()))
def aow:KY 55 (bw f198):=⟨0,lB 0 aou aov Iu,lp [aot]⟩
def M1(E:aF)(C:fm)(O T:Int):aj (fm×Bool):=bif xZ C.map then (xq E C).bind λD=>(zP D O T).bind λY=>bif (!Y)then some ((⟨C.bR,(xA C.map)⟩:fm),false)else cH Iu ((O,T,(),(),(),(),(),D.rows,()),((E.bD,E.aD,E.rows,E.aM,()),(C.bR,C.map,()),(0,(),()),(C.bR,(),()),(D.bD,D.aD,D.rows,D.aM,()),([]:aa Int),(xA C.map),())) (λI=>some ((⟨I.2.1.1,I.2.2.1⟩:fm),I.1.2.1)) λU=>some ((⟨U.2.2.1.1,U.2.2.2.2.1⟩:fm),false)else none
def aox:=cY Sx [(true,.qt,2),(false,.bool,0)] (xj M1) 55 [DN,Th] [aow] func198
def aoy:bC:=⟨[(0,.aH 20000 0),(1,tI),(7,.aH 7 0),(8,tI),(9,.aH 9 0),(11,tI),(12,tI)],[(7,.ay gd),(9,.ay aaf),(1000000000136001,.sl .int 2)],zD⟩
def aoz:aa (Nat×bC):=[(2,⟨[(0,.aH 20000 0),(9,.aH 9 0)],[(9,.ay aaf),(1000000000136001,.sl .int 2)],zD⟩)]
abbrev acV:=((ah×Int×ah×Int×ah×Int×Int×ah)×(ax×(Int×Int×Int×Int×ah)×(Int×ah×ah)×(aa Int)×ah))
def Ep(x:acV):aj (acV⊕(((ah×ah×ah)×(ax×(Int×ah×ah)×(aa Int)×ah))⊕Empty)):=letI u3:=x.2.2;letI u2:=x.1.2.2.2.2.2;letI u1:=(⟨u3.1.1,u3.1.2.1,u3.1.2.2.1,u3.1.2.2.2.1⟩:aF);letI C:=x.2.1;bif u2.2.1<u3.1.2.2.2.1 then (zV u1 (⟨x.1.2.1,u2.1,u2.2.1⟩:aN)).bind λD=>(zV u1 (⟨x.1.2.1,x.1.2.2.2.1,u2.2.1⟩:aN)).bind λE=>xL C.array.cells E λI=>xM C.array.cells E λO=>(GN (⟨O.symbols,I.mL⟩:cu)).bind λT=>xL C.array.cells D λU=>xG (((),x.1.2.1,(),x.1.2.2.2.1,(),u2.1,(W6 (u2.2.1+1)),()),({C with array:=⟨(C.array.cells.set D.toNat T),C.array.bq,C.array.aY⟩},u3.1,u3.2.1,u3.2.2.1,()))else aK (((),(),()),(C,u3.2.1,u3.2.2.1,()))
def aoA:KY 95 (bw f124):=⟨0,lB 0 aoy aoz Ep,lp [aao,L5]⟩
def M3(C:ax)(D I:Int):aj ((Bool)×(ax×ah)):=(BS C.config.ak C.spare D I).bind λT=>(M1 C.config.ak C.spare D I).bind λE=>bif (!E.2)then some (false,(C,()))else xL C.aS.aD D λU=>bif U.open_ then some (false,(C,()))else (BS C.config.ak E.1 D I).bind λY=>bQ Ep (((),D,(),T,(),Y,0,()),(C,(C.config.ak.bD,C.config.ak.aD,C.config.ak.rows,C.config.ak.aM,()),(E.1.bR,(),()),E.1.map,())) λO=>letI Z:=O.2.1;some (true,({Z with spare:=⟨O.2.2.1.1,O.2.2.2.1⟩},()))
def aoB:=DA aad dy (gT M3) 95 [abo,aox] [aoA] func124
def M4(D:ax)(C:jE):aj (ax×Bool):=letI u1:=Eo D.config.ak D.array C.addr C.AD C.n;(zF D).bind λE=>letI u2:=some (E,false);letI T:=u1.bind λoE=>some ({E with array:=oE},false);(sx D).bind λy2=>bif (!y2)then u2 else bif (C.kind==1)then (MX D C.request).bind λU=>some (U.1,U.2)else bif (C.kind==2)then (bO C.n 0 500).bind λI=>bif I then (Eh D C.n).bind λy5=>some (y5,I)else some (E,I)else bif (C.kind==3)then (xw D.config.ak C.addr).bind λy6=>bif y6 then (bO C.AD 0 10).bind λy7=>bif y7 then (sv C.n).bind λy8=>u1.bind λy9=>some ({E with array:=y9},y8)else T else T else bif (C.kind==4)then (bO C.n 0 1).bind λO=>bif O then (MY D.aE (C.n==1)).bind λjR=>some ({E with aE:=jR},O)else some (E,O)else bif (C.kind==5)then (qX D.config C.kZ).bind λmq=>bif mq then (MZ D.box C.kZ).bind λY=>some ({E with box:=Y.1},Y.2)else u2 else bif (C.kind==6)then (M3 E C.addr.aA C.addr.row).bind λZ=>some (Z.2.1,Z.1)else u2
def aoC:=bM [(true,.dG),(true,.Act)] Lp (cV M4) 106 [acv,aoo,xy,SZ,GP,dw,G7,G3,aop,aoq,aor,aoB] func53
def aoD:bC:=⟨[(6,.aH 6 0),(8,.aH 8 0),(10,tI),(29,.lf (.aG .Act 0)),(30,tI),(31,tI)],[],ZK⟩
def aoE:aa (Nat×bC):=[(2,⟨[(6,.aH 6 0),(8,.aH 8 0),(10,tI)],[],ZK⟩)]
abbrev acW:=((ah×ah×Int×(aa jE)×Int×Int×ah)×(ax×ax×ah))
def Iw(x:acW):aj (acW⊕(((ah×ah×Int×ah)×(ax×ax×ah))⊕Empty)):=letI C:=x.1.2.2.2;letI u1:=C.2.2.1;bif u1<C.2.1 then xI C.1 u1 λE=>(M4 x.2.2.1 E).bind λD=>bif D.2 then xG (((),(),(W6 (x.1.2.2.1+1)),C.1,C.2.1,(W6 (u1+1)),()),(x.2.1,D.1,()))else xG (((),(),x.1.2.2.1,C.1,C.2.1,(W6 (u1+1)),()),(x.2.1,x.2.2.1,()))else aK (((),(),x.1.2.2.1,()),(x.2.1,x.2.2.1,()))
def aoF:KY 48 (bw f16):=⟨0,lB 0 aoD aoE Iw,lp [aoC]⟩
def M5(O:fq)(T:eo)(C:aa jE):aj (ax×Int):=letI D:=some ((⟨⟨⟨0,0,0,0⟩,⟨0,0,0,0,0,0,0,0,0,0,0,0,0,0,0,0,0⟩,⟨0,false⟩,0,0,0,⟨0,0⟩⟩,⟨⟨0,0,0,0,0,[],⟨0,0⟩⟩,⟨0,0,0,0,0,[],⟨0,0⟩⟩,false⟩,0,⟨[],0⟩,⟨[],[]⟩,⟨[],[],[]⟩,⟨0,[]⟩,⟨[],0,false⟩,[],[],[],[],[],⟨false,0,0⟩,⟨0,0,0⟩,⟨0,0,0⟩,[],[],[]⟩:ax),0);(MU O T).bind λE=>bif (!E.2)then D else bif (C.length:Int) > 60 then D else bQ Iw (((),(),0,C,(C.length:Int),0,()),((⟨⟨⟨0,0,0,0⟩,⟨0,0,0,0,0,0,0,0,0,0,0,0,0,0,0,0,0⟩,⟨0,false⟩,0,0,0,⟨0,0⟩⟩,⟨⟨0,0,0,0,0,([]:aa Int),⟨0,0⟩⟩,⟨0,0,0,0,0,([]:aa Int),⟨0,0⟩⟩,false⟩,0,⟨([]:aa dK),0⟩,⟨([]:aa Int),([]:aa Int)⟩,⟨([]:aa cu),([]:aa Int),([]:aa Int)⟩,⟨0,([]:aa Int)⟩,⟨([]:aa Int),0,false⟩,([]:aa cK),([]:aa Int),([]:aa aN),([]:aa bg),([]:aa di),⟨false,0,0⟩,⟨0,0,0⟩,⟨0,0,0⟩,([]:aa cC),([]:aa bK),([]:aa fN)⟩:ax),E.1,())) λI=>some (I.2.2.1,I.1.2.2.1)
def aoG:=cY [(true,.Config),(true,.lu),(false,(.sl .Act))] [(true,.dG,4),(false,.int,0)] (gT M5) 48 [aog] [aoF] func16
abbrev acX:=((ah×(aa Int)×Int×Int×ah)×(ax×ah))
def M6(x:acX):aj (acX⊕(((Bool×ah)×(ah))⊕(((ah×ah)×(ax×ah))⊕Empty))):=letI C:=x.1.2.2;bif C.2.1<C.1 then xI x.1.2.1 C.2.1 λD=>bif D > 4 then aK ((false,()),())else xG (((),x.1.2.1,C.1,(W6 (C.2.1+1)),()),(x.2.1,()))else bF (((),()),(x.2.1,()))
def aoH:KY 18 (bw f18):=⟨0,lB 0 ⟨[(1,.aH 1 0),(7,.lf (.aG .int 0)),(8,tI),(9,tI)],[(1,.st .dG)],[]⟩ [(1,sj),(2,⟨[(1,.aH 1 0)],[(1,.st .dG)],[]⟩)] M6,lp []⟩
def M7(C:ax):aj (Bool):=cH M6 (((),C.aE.aC,(C.aE.aC.length:Int),0,()),(C,())) (λD=>some D.1.1) λE=>(sx E.2.1).bind λI=>some I
def aoI:=cY tZ dy (cw M7) 18 [xy] [aoH] func18
end Go.Proofs.YtgjfmljpdnnihaaGreat
