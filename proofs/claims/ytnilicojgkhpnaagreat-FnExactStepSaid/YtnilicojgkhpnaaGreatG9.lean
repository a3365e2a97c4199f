/-
  Functions of the program as plain functions of contents, and that the code computes them. Nothing here is a claim.
-/
import Derived.Test.YtnilicojgkhpnaaGreatVZ
import Derived.Test.YtnilicojgkhpnaaGreatRows
import Derived.Test.YtnilicojgkhpnaaGreatRep
import Derived.Test.YtnilicojgkhpnaaGreatG1
import Derived.Test.YtnilicojgkhpnaaGreatG2
import Derived.Test.YtnilicojgkhpnaaGreatG3
import Derived.Test.YtnilicojgkhpnaaGreatG4
import Derived.Test.YtnilicojgkhpnaaGreatG5
import Derived.Test.YtnilicojgkhpnaaGreatG6
import Derived.Test.YtnilicojgkhpnaaGreatG7
import Derived.Test.YtnilicojgkhpnaaGreatG8
namespace Go.Proofs.YtnilicojgkhpnaaGreat
set_option linter.defProp false
open Go.RowKit Go.Proofs.Tryz
set_option linter.unusedVariables false
set_option maxRecDepth 100000
def aiv:enters Tryz.prog 359/\jk Tryz.prog 359 (cj Tryz.prog f359 1 []):=qL (pM 1 [] func359 trivial)
def QK(C:Int):ah (bI×Bool):=(bX C 1 16).bind λD=>bif (!D)then some ((⟨[],[],0⟩:bI),false)else (Bb ([(-1)]:aa Int) C).bind λE=>if 0 <= C/\C <= C/\C<1073741824 then some ((⟨E,(List.replicate C.toNat (0:Int)),0⟩:bI),true)else none
def axw:=aJ jX [(true,.dV,2),(false,.bool,0)] (bu QK) 14 [dD,⟨372,.p adw,aqG⟩] func275
def Ki(C:av)(D:Int):ah ((af)×(av×af)):=(QK C.config.gy).bind λE=>xL C.bx D λL=>xL C.guard D λO=>some ((),({C with bx:=(C.bx.set D.toNat E.1),guard:=(C.guard.set D.toNat C.box.bz.eI)},()))
def aiw:=wm Ht [] (aY Ki) 31 [axw] func360
def QL(E:cK)(D:Int):ah (cK×Bool):=(BJ E).bind λC=>letI L:=some (C,false);(za E).bind λO=>bif (!O)then L else (bX D 0 (W6 ((E.aE.length:Int)-1))).bind λT=>bif (!T)then L else xI E.aE D λU=>bif (U==(-2))then L else xL C.aE D λY=>xL C.aE D λZ=>some ((⟨(C.aE.set D.toNat (W6 (Y-1))),C.wait,C.dj⟩:cK),true)
def axx:=aJ Hr [(true,.jx,2),(false,.bool,0)] (aY QL) 38 [dD,Xj,JG] func361
def Kj(U:aa Int):ah ((aa Int)):=letI D:=(1:Int);letI E:=(3:Int);letI C:=(0:Int);letI O:=(List.replicate E.toNat C)++U;(uB U 8).bind λy1=>bif (!y1)then some ([])else if 0 <= E/\E <= 3/\E<1073741824 then bif bD ((List.replicate E.toNat C).length+U.length)then (zd O).bind λL=>xL L C λY=>xL L D λZ=>xL L C λuw=>xL L (2:Int) λnN=>letI u5:=bits .xor .i64 uw nN;(BV 4).bind λgD=>(ig 2 (bits .xor .i64 Y Z)).bind λjq=>(ig 5 u5).bind λfT=>(ig (bits .xor .i64 jq fT) gD).bind λiV=>xL O D λQx=>(ig 3 u5).bind λiW=>(ig 5 (bits .xor .i64 Y Z)).bind λpR=>(ig (bits .xor .i64 iW pR) gD).bind λoE=>letI T:=(O.set D.toNat iV).set (2:Int).toNat oE;xL (O.set D.toNat iV) (2:Int) λuq=>xL L C λur=>xL T D λe33=>xL T (2:Int) λEc=>xL T C λe39=>some (T.set C.toNat (bits .xor .i64 (bits .xor .i64 ur e33) Ec))else none else none
def axy:=aJ lK jW (bu Kj) 63 [Jz,XB,JT,ahP] func438
abbrev aix:=((Int×af×Int×af)×((aa Int)×af))
def Kk(x:aix):ah (aix⊕(((af×af)×((aa Int)×af))⊕Empty)):=letI C:=x.1.2.2.1;letI D:=([(bits .and .i64 (x.1.1.fdiv (2 ^ (min (W6 (4*C)).toNat IntKind.i64.bits))) 15)]:aa Int);bif C<8 then if (W6 (4*C))<0 then none else bif bD (x.2.1.length+D.length)then xG ((x.1.1,(),(W6 (C+1)),()),((x.2.1++D),()))else none else aq (((),()),(x.2.1,()))
def axz:KY 22 (aN f439):=⟨0,lB 0 ⟨[(0,tI),(3,.lf (.own 8)),(4,tI)],[(8,.sl .int 2)],[]⟩ [(2,⟨[(3,.lf (.own 8))],[(8,.sl .int 2)],[]⟩)] Kk,lp []⟩
def QM(C:Int):ah ((aa Int)):=(BR C).bind λD=>bif (!D)then some ([])else aW Kk ((C,(),0,()),(([]:aa Int),())) λE=>some E.2.1
def axA:=bJ jX jW (bu QM) 22 [Xx] [axz] func439
def EX(C:Int):ah ((aa Int)):=(BR C).bind λD=>bif (!D)then some ([])else (QM C).bind λE=>(Kj E).bind λL=>some L
def axB:=aJ jX jW (bu EX) 9 [Xx,axy,axA] func371
def QN(C:aa bk)(E D:Int):ah (((aa bk))×((aa bk)×af)):=if 0 <= E/\E <= D/\D <= (C.length:Int)/\(C.length:Int) <= (C.length:Int)then bif (E==D)then some (C,([],()))else if 0 <= (0:Int)/\0 <= E/\E <= (C.length:Int)then if 0 <= D/\D <= (C.length:Int)/\(C.length:Int) <= (C.length:Int)then if E.toNat <= D.toNat/\D.toNat <= (C.length:Int).toNat/\(C.length:Int).toNat <= C.length/\0<C.length then if 0 <= (((E.toNat+((C.length:Int).toNat-D.toNat))-0:Nat):Int)/\(((E.toNat+((C.length:Int).toNat-D.toNat))-0:Nat):Int) <= (C.length:Int)/\(C.length:Int) <= ((splice C E.toNat ((C.take ((C.length:Int).toNat)).drop D.toNat)).length:Int)then if (((E.toNat+((C.length:Int).toNat-D.toNat))-0:Nat):Int).toNat <= (C.length:Int).toNat/\(C.length:Int).toNat <= (splice C E.toNat ((C.take ((C.length:Int).toNat)).drop D.toNat)).length then some (((splice (splice C E.toNat ((C.take ((C.length:Int).toNat)).drop D.toNat)) ((((E.toNat+((C.length:Int).toNat-D.toNat))-0:Nat):Int).toNat) (List.replicate ((C.length:Int).toNat-(((E.toNat+((C.length:Int).toNat-D.toNat))-0:Nat):Int).toNat) (⟨0,0,0,false,0,0⟩:bk))).take (E.toNat+((C.length:Int).toNat-D.toNat))),([],()))else none else none else none else none else none else none
def axC:KX:=⟨435,.c ⟨[.s .cQ 1000000,.v false .int,.v false .int],[(false,(.sl .cQ),2)],λx=>QN x.1 x.2.1 x.2.2.1⟩,km 33 [] func435⟩
def wK(C:av)(D:Int):ah ((Int×Int)×(av×af)):=xL C.array.cells D λO=>bif O.gx then some ((0,2),(C,()))else xM C.array.cells D λe5=>xM C.array.cells D λT=>(JV T.symbols).bind λU=>xM C.array.cells D λiU=>xM C.array.cells D λY=>(Qe Y.symbols).bind λE=>letI L:=(E.1,E.2.1);bif (E.2.1==1)then xM C.array.cells D λZ=>some (L,({C with array:=⟨(C.array.cells.set D.toNat (⟨U.1,Z.gx⟩:bC)),C.array.bh,C.array.aZ⟩},()))else bif (E.2.1==2)then xM C.array.cells D λIJ=>some (L,({C with array:=⟨(C.array.cells.set D.toNat (⟨IJ.symbols,true⟩:bC)),C.array.bh,C.array.aZ⟩},()))else some (L,(C,()))
def aiy:=wm Wx [(false,.int,0),(false,.int,0)] (aY wK) 55 [ahS,avO] func82
def QO(C:av)(T:Int):ah ((af)×(av×af)):=letI E:=(4:Int);xL C.queue T λD=>letI Y:=([(⟨D.id,C.now,0,0⟩:cG)]:aa cG);(uD C D.line).bind λy4=>letI U:=Kd C.config.aB y4.1;(QN C.queue T (W6 (T+1))).bind λZ=>if 0 <= E/\E <= 4/\E<1073741824 then xL (List.replicate E.toNat false) D.de λe8=>(oG C.shares ((List.replicate E.toNat false).set D.de.toNat true)).bind λy9=>bif D.write then U.bind λfW=>(EX D.data).bind λdQ=>xL C.array.cells fW λnN=>bif bD (C.cA.length+Y.length)then some ((),({C with array:=⟨(C.array.cells.set fW.toNat (⟨dQ,false⟩:bC)),C.array.bh,C.array.aZ⟩,queue:=Z.1,shares:=y9.1,cA:=(C.cA++Y)},()))else none else U.bind λgD=>(wK {C with queue:=Z.1,shares:=y9.1} gD).bind λL=>letI O:=L.2.1;letI u1:=([(⟨D.id,O.now,L.1.1,L.1.2⟩:cG)]:aa cG);bif bD (O.cA.length+u1.length)then U.bind λfT=>(wI {O with cA:=(O.cA++u1)} fT L.1.2).bind λiV=>some ((),(iV.2.1,()))else none else none
def axD:=wm Ht [] (aY QO) 125 [aiy,ahW,XL,aij,axB,ah6,axC] func362
def QS(C:dL)(E L:Int):ah (dL×Bool):=letI O:=some ((⟨0,L,C.idle⟩:dL),true);letI D:=some (C,false);(BS C).bind λT=>bif (!T)then D else (bX L C.since 1000000).bind λU=>bif (!U)then D else bif (E==6)then bif (C.state != 0)then D else some ((⟨1,L,C.idle⟩:dL),true)else bif (E==8)then bif (C.state != 0)then D else some ((⟨2,L,C.idle⟩:dL),true)else bif (E==7)then bif (C.state != 1)then D else O else bif (E==9)then bif (C.state != 2)then D else O else bif (C.state != (-1))then D else O
def axE:=aJ [(true,.Power),(false,.int),(false,.int)] [(true,.Power,0),(false,.bool,0)] (eZ QS) 40 [dD,P9] func363
abbrev aiz:=(((aa aF)×aD×Int×Int×af)×(af))
def Kl(x:aiz):ah (aiz⊕(((Int×af)×(af))⊕(((af)×(af))⊕Empty))):=letI C:=x.1.2.2.2.1;bif C<x.1.2.2.1 then xI x.1.1 C λD=>bif (D.au==x.1.2.1.au)then aq ((C,()),())else xG ((x.1.1,x.1.2.1,x.1.2.2.1,(W6 (C+1)),()),())else aM ((),())
def axF:KY 19 (aN f434):=⟨0,lB 0 ⟨[(0,.lf (.aC .Addr 0)),(1,.fc 359 .Command),(7,tI),(8,tI)],[],[]⟩ [(1,jo),(2,eC)] Kl,lp [⟨359,.i _,aiv⟩]⟩
def QT(C:aa aF)(D:aD):ah (Int):=(iter Kl aQ ((C,D,(C.length:Int),0,()),())).bind (Sum.elim (λE=>some E.1.1) (Sum.elim (λL=>some (-1)) (λz=>nomatch z)))
def axG:KX:=⟨434,.q (fV [(false,(.sl .Addr)),(false,(.fnCommand 359))] [(false,.int,0)] λx=>QT x.1 x.2.1),kq 19 [] [axF] func434⟩
abbrev aiA:=((af×aD×Int×Int×af)×((aa aF)×af))
def Km(x:aiA):ah (aiA⊕(((af×Int×af)×((aa aF)×af))⊕Empty)):=letI C:=x.1.2.2;bif C.2.1<(x.2.1.length:Int)then xL x.2.1 C.2.1 λD=>bif (!(D.au==x.1.2.1.au))then xL x.2.1 C.1 λE=>xG (((),x.1.2.1,(W6 (C.1+1)),(W6 (C.2.1+1)),()),((x.2.1.set C.1.toNat D),()))else xG (((),x.1.2.1,C.1,(W6 (C.2.1+1)),()),(x.2.1,()))else aq (((),C.1,()),(x.2.1,()))
def axH:KY 42 (aN f358):=⟨0,lB 0 ⟨[(0,.lf (.own 98000)),(1,.fc 359 .Command),(5,tI),(6,tI)],Wv,[]⟩ [(2,adU)] Km,lp [⟨359,.i _,aiv⟩]⟩
def QU(D:aa aF)(L:aD):ah (((aa aF))×((aa aF)×af)):=(QT D L).bind λE=>bif (E==(-1))then some (D,([],()))else (iter Km aQ (((),L,E,(W6 (E+1)),()),(D,()))).bind (Sum.elim (λC=>if 0 <= C.1.2.1/\C.1.2.1 <= (C.2.1.length:Int)/\(C.2.1.length:Int) <= (C.2.1.length:Int)then if C.1.2.1.toNat <= (C.2.1.length:Int).toNat/\(C.2.1.length:Int).toNat <= C.2.1.length then if 0 <= (0:Int)/\0 <= C.1.2.1/\C.1.2.1 <= ((splice C.2.1 C.1.2.1.toNat (List.replicate ((C.2.1.length:Int).toNat-C.1.2.1.toNat) (⟨0,0,0⟩:aF))).length:Int)then some (((splice C.2.1 C.1.2.1.toNat (List.replicate ((C.2.1.length:Int).toNat-C.1.2.1.toNat) (⟨0,0,0⟩:aF))).take C.1.2.1.toNat),([],()))else none else none else none) (λz=>nomatch z))
def axI:KX:=⟨358,.c ⟨[.s .Addr 1000000,.v false (.fnCommand 359)],[(false,(.sl .Addr),2)],λx=>QU x.1 x.2.1⟩,kn 42 [axG] [axH] func358⟩
def axJ:bE:=⟨[(0,.aG 20000 0),(130,tI),(131,tI)],[],NN⟩
def axK:aa (Nat×bE):=[(3,Wj)]
abbrev aiB:=((af×Int×Int×af)×(av×af))
def wL(x:aiB):ah (aiB⊕(((af)×(av×af))⊕Empty)):=letI C:=x.1.2.2.1;bif C<x.1.2.1 then (QJ x.2.1 C).bind λE=>(Ki E.2.1 C).bind λL=>letI D:=L.2.1;xL D.aL.aE C λO=>xG (((),x.1.2.1,(W6 (C+1)),()),({D with aL:=⟨(D.aL.aE.set C.toNat (0:Int)),D.aL.wait,D.aL.dj⟩},()))else aq ((),(x.2.1,()))
def XV:KY 148 (aN f235):=⟨1,lB 1 axJ axK wL,lp [aiu,aiw]⟩
def Kn(D:av)(C:aD)(x2:Int):ah ((af)×(av×af)):=letI O:=C.kind != 9;letI u2:=([(⟨D.now,C⟩:cz)]:aa cz);letI T:=D.trace++u2;bif bD (D.trace.length+u2.length)then (QD D.config.aB D.ready (⟨D.now,C⟩:cz)).bind λU=>(Kc D.config.aB D.aX C).bind λY=>letI Z:={D with aX:=Y.1,ready:=U,trace:=T};(let sx:av -> ah ((af)×(av×af)):=λBy=>bif O then some ((),(By,()))else aW wL (((),(By.bx.length:Int),0,()),({By with pending:=([]:aa aF)},())) (λQg=>some ((),(Qg.2.1,())));let I9:Int -> Int -> Int -> ah ((af)×(av×af)):=λj28 j29 Ph=>bif O then some ((),({D with aX:=Y.1,ready:=U,aS:=⟨j28,j29,Ph⟩,trace:=T},()))else aW wL (((),(D.bx.length:Int),0,()),({D with aX:=Y.1,ready:=U,pending:=([]:aa aF),aS:=⟨j28,j29,Ph⟩,trace:=T},())) (λz36=>some ((),(z36.2.1,())));letI u4:=I9 D.aS.state D.aS.since D.aS.idle;bif (C.kind==1)then (QI Z C).bind λy3=>(sx y3.2.1)else bif (C.kind==5)then (QJ Z C.au).bind λy4=>letI u3:=y4.2.1;(QU u3.pending C).bind λy5=>(Ki {u3 with pending:=y5.1} C.au).bind λy6=>letI E:=y6.2.1;(QL E.aL C.au).bind λy7=>bif O then some ((),({E with aL:=y7.1},()))else aW wL (((),(E.bx.length:Int),0,()),({E with aL:=y7.1,pending:=([]:aa aF)},())) λW7=>some ((),(W7.2.1,()))else (let J0:Bool -> ah ((af)×(av×af)):=λj8=>bif j8 then (QO Z x2).bind λy9=>(sx y9.2.1)else (let L:Bool -> ah ((af)×(av×af)):=λBv=>bif Bv then (QS D.aS C.kind D.now).bind λdQ=>(I9 dQ.1.state dQ.1.since dQ.1.idle)else u4;bif (C.kind==6)then (L (C.kind==6))else bif (C.kind==7)then (L (C.kind==7))else bif (C.kind==8)then (L (C.kind==8))else (L (C.kind==9)));bif (C.kind==2)then (J0 (C.kind==2))else (J0 (C.kind==3))))else none
def axL:=iT aek [] (eZ Kn) 148 [aw8,aw9,axu,aiu,axI,aiw,axx,axD,axE] [XV,XV,XV] func235
def qP(C:av)(D:aD)(L:Int):ah (av×Bool):=(Jo C).bind λU=>letI E:=some (U,false);letI T:=(Kn U D L).bind λdQ=>some (dQ.2.1,true);(EB C).bind λy2=>bif (!y2)then E else (gL C D).bind λy3=>bif (!y3)then E else bif (C.trace.length:Int) >= 2000 then E else (bX L 0 (W6 ((C.queue.length:Int)-1))).bind λY=>letI Z:=bif (C.cA.length:Int) >= 400 then E else bif (!Y)then E else xI C.queue L λe6=>(uD C e6.line).bind λy7=>xI C.queue L λe9=>(wJ C.aX y7.1 e9.write).bind λO=>bif (!((O.kind==D.kind)&&((O.au==D.au)&&((O.row==D.row)&&((O.bG==D.bG)&&true)))))then E else T;bif (D.kind==2)then Z else bif (D.kind==3)then Z else bif (L != (-1))then bif (!Y)then E else T else T
def axM:=aJ [(true,.cx),(true,.Command),(false,.int)] [(true,.cx,4),(false,.bool,0)] (eZ qP) 88 [agX,Xz,dD,EJ,XL,ah2,axL] func85
def zi(D:av):ah (av):=letI T:=uz D.config.aB;(Jo D).bind λC=>letI u6:=JS C.box ((C.queue.length:Int)==0);letI E:=W6 (C.now+1);(EB D).bind λy2=>bif (!y2)then some C else bif (D.now==1000000)then some C else bif (C.aX.aS != 2)then (JO C.aL D.config.interval).bind λy3=>(EC D.config.aB C.array 1).bind λy4=>(EE C.queue true).bind λy5=>(ED C.drain y5).bind λy6=>(zc {C with now:=E,array:=y4,aL:=y3,drain:=y6}).bind λy7=>(EF C.aS y7).bind λy8=>u6.bind λL=>bif L.2 then (yX L.1.bz.weights).bind λfW=>T.bind λdQ=>(wH C.cu dQ).bind λU=>letI Y:={C with box:=L.1,now:=E,array:=y4,aL:=y3,shares:=fW.1,drain:=⟨false,L.1.bz.low,L.1.bz.high⟩,aS:=y8,cu:=U.1};bif U.2 >= 0 then (wK Y U.2).bind λfX=>(wI fX.2.1 U.2 fX.1.2).bind λiB=>(sB iB.2.1).bind λgD=>bif (gD.1.kind != 0)then (qP iB.2.1 gD.1 gD.2).bind λjq=>some jq.1 else some iB.2.1 else (sB Y).bind λfT=>bif (fT.1.kind != 0)then (qP Y fT.1 fT.2).bind λiV=>some iV.1 else some Y else T.bind λsu=>(wH C.cu su).bind λZ=>letI u3:={C with box:=L.1,now:=E,array:=y4,aL:=y3,drain:=y6,aS:=y8,cu:=Z.1};bif Z.2 >= 0 then (wK u3 Z.2).bind λDY=>(wI DY.2.1 Z.2 DY.1.2).bind λiW=>(sB iW.2.1).bind λpR=>bif (pR.1.kind != 0)then (qP iW.2.1 pR.1 pR.2).bind λoE=>some oE.1 else some iW.2.1 else (sB u3).bind λuy=>bif (uy.1.kind != 0)then (qP u3 uy.1 uy.2).bind λEe=>some Ee.1 else some u3 else (EE C.queue true).bind λyU=>(ED C.drain yU).bind λQy=>(zc {C with now:=E,drain:=Qy}).bind λXi=>(EF C.aS Xi).bind λy30=>u6.bind λO=>bif O.2 then (yX O.1.bz.weights).bind λQV=>T.bind λwB=>(wH C.cu wB).bind λwC=>letI u0:={C with box:=O.1,now:=E,shares:=QV.1,drain:=⟨false,O.1.bz.low,O.1.bz.high⟩,aS:=y30,cu:=wC.1};bif wC.2 >= 0 then (wK u0 wC.2).bind λKo=>(wI Ko.2.1 wC.2 Ko.1.2).bind λyV=>(sB yV.2.1).bind λyS=>bif (yS.1.kind != 0)then (qP yV.2.1 yS.1 yS.2).bind λQW=>some QW.1 else some yV.2.1 else (sB u0).bind λyJ=>bif (yJ.1.kind != 0)then (qP u0 yJ.1 yJ.2).bind λQX=>some QX.1 else some u0 else T.bind λQY=>(wH C.cu QY).bind λB5=>letI u2:={C with box:=O.1,now:=E,drain:=Qy,aS:=y30,cu:=B5.1};bif B5.2 >= 0 then (wK u2 B5.2).bind λKp=>(wI Kp.2.1 B5.2 Kp.1.2).bind λEY=>(sB EY.2.1).bind λzg=>bif (zg.1.kind != 0)then (qP EY.2.1 zg.1 zg.2).bind λQZ=>some QZ.1 else some EY.2.1 else (sB u2).bind λKq=>bif (Kq.1.kind != 0)then (qP u2 Kq.1 Kq.2).bind λXW=>some XW.1 else some u2
def axN:=aJ pN [(true,.cx,4)] (bu zi) 126 [agX,Xz,avr,avv,avw,avy,avz,ahF,avB,ag5,avC,PW,aiy,ahW,aw6,axM] func11
def Q0(C D:aP):ah (Bool):=bif (C.cg != D.cg)then some false else bif (C.ay != D.ay)then some false else bif (C.rows != D.rows)then some false else bif (C.aO != D.aO)then some false else some true
def axO:=aJ [(true,.en),(true,.en)] bH (aY Q0) 25 [] func236
def Q1(C D:cI):ah (Bool):=bif (C.iG != D.iG)then some false else bif (C.rp != D.rp)then some false else bif (C.fO != D.fO)then some false else bif (C.kS != D.kS)then some false else bif (C.iH != D.iH)then some false else bif (C.iI != D.iI)then some false else bif (C.kT != D.kT)then some false else bif (C.kU != D.kU)then some false else bif (C.hD != D.hD)then some false else bif (C.wr != D.wr)then some false else bif (C.kV != D.kV)then some false else bif (C.kW != D.kW)then some false else bif (C.n6 != D.n6)then some false else bif (C.kX != D.kX)then some false else bif (C.lY != D.lY)then some false else bif (C.xp != D.xp)then some false else bif (C.xs != D.xs)then some false else some true
def axP:=aJ [(true,.iJ),(true,.iJ)] bH (aY Q1) 90 [] func237
def Q2(C D:iF):ah (Bool):=bif (C.order != D.order)then some false else bif (!(C.hash==D.hash))then some false else some true
def axQ:=aJ [(true,.lZ),(true,.lZ)] bH (aY Q2) 15 [] func238
def Q3(C D:gR):ah (Bool):=bif (C.bh != D.bh)then some false else bif (C.aZ != D.aZ)then some false else some true
def axR:=aJ [(true,.kY),(true,.kY)] bH (aY Q3) 15 [] func239
def Q4(C D:gp):ah (Bool):=(Q0 C.aB D.aB).bind λE=>bif (!E)then some false else (Q1 C.bQ D.bQ).bind λL=>bif (!L)then some false else (Q2 C.mapping D.mapping).bind λO=>bif (!O)then some false else bif (C.bT != D.bT)then some false else bif (C.interval != D.interval)then some false else bif (C.gy != D.gy)then some false else (Q3 C.dg D.dg).bind λT=>bif (!T)then some false else some true
def axS:=aJ [(true,.Config),(true,.Config)] bH (aY Q4) 44 [axO,axP,axQ,axR] func86
abbrev aiC:=(((aa Int)×(aa Int)×Int×af)×(af))
def aiD(x:aiC):ah (aiC⊕(((Bool×af)×(af))⊕(((af)×(af))⊕Empty))):=letI C:=x.1.2.2.1;bif C<(x.1.1.length:Int)then xI x.1.1 C λD=>xI x.1.2.1 C λE=>bif (D != E)then aq ((false,()),())else xG ((x.1.1,x.1.2.1,(W6 (C+1)),()),())else aM ((),())
def axT:KY 26 (aN f94):=⟨0,lB 0 ⟨[(0,.lf (.aC .int 0)),(1,.lf (.aC .int 0)),(5,tI)],[],[]⟩ [(1,fJ),(2,eC)] aiD,lp []⟩
def oH(C D:aa Int):ah (Bool):=bif ((C.length:Int) != (D.length:Int))then some false else br aiD ((C,D,0,()),()) (λE=>some E.1.1) λL=>some true
def zj:=bJ [(false,(.sl .int)),(false,(.sl .int))] bH (aY oH) 26 [] [axT] func94
def Q5(C D:jw):ah (Bool):=bif (C.down != D.down)then some false else bif (C.sleep != D.sleep)then some false else some true
def axU:=aJ [(true,.mb),(true,.mb)] bH (aY Q5) 15 [] func142
def Kr(C D:eE):ah (Bool):=bif (C.dR != D.dR)then some false else bif (C.cap != D.cap)then some false else bif (C.eI != D.eI)then some false else bif (C.low != D.low)then some false else bif (C.high != D.high)then some false else (oH C.weights D.weights).bind λE=>bif (!E)then some false else (Q5 C.dO D.dO).bind λL=>bif (!L)then some false else some true
def axV:=aJ [(true,.kj),(true,.kj)] bH (aY Kr) 42 [zj,axU] func26
def Q6(C D:fP):ah (Bool):=(Kr C.bz D.bz).bind λE=>bif (!E)then some false else (Kr C.next D.next).bind λL=>bif (!L)then some false else bif (!(C.waits==D.waits))then some false else some true
def axW:=aJ [(true,.iK),(true,.iK)] bH (aY Q6) 22 [axV] func87
def Ks(C D:cC):ah (Bool):=bif (!(C.open_==D.open_))then some false else bif (C.row != D.row)then some false else some true
def axX:=aJ [(true,.eX),(true,.eX)] bH (aY Ks) 15 [] func364
abbrev aiE:=(((aa cC)×(aa cC)×Int×af)×(af))
def aiF(x:aiE):ah (aiE⊕(((Bool×af)×(af))⊕(((af)×(af))⊕Empty))):=letI C:=x.1.2.2.1;bif C<(x.1.1.length:Int)then xI x.1.1 C λD=>xI x.1.2.1 C λE=>(Ks D E).bind λL=>bif (!L)then aq ((false,()),())else xG ((x.1.1,x.1.2.1,(W6 (C+1)),()),())else aM ((),())
def axY:KY 27 (aN f240):=⟨0,lB 0 ⟨[(0,.lf (.aC .eX 0)),(1,.lf (.aC .eX 0)),(5,tI)],[],[]⟩ [(1,fJ),(2,eC)] aiF,lp [axX]⟩
def Q7(C D:aa cC):ah (Bool):=bif ((C.length:Int) != (D.length:Int))then some false else br aiF ((C,D,0,()),()) (λE=>some E.1.1) λL=>some true
def axZ:=bJ [(false,(.sl .eX)),(false,(.sl .eX))] bH (aY Q7) 27 [] [axY] func240
def Q8(C D:bV):ah (Bool):=(Q7 C.ay D.ay).bind λE=>bif (!E)then some false else bif (C.aS != D.aS)then some false else some true
def ax0:=aJ [(true,.gG),(true,.gG)] bH (aY Q8) 16 [axZ] func88
def Q9(C D:cP):ah (Bool):=(oH C.last D.last).bind λE=>bif (!E)then some false else (oH C.bg D.bg).bind λL=>bif (!L)then some false else some true
def ax1:=aJ [(true,.je),(true,.je)] bH (aY Q9) 17 [zj] func89
def Kt(C D:bC):ah (Bool):=(oH C.symbols D.symbols).bind λE=>bif (!E)then some false else bif (!(C.gx==D.gx))then some false else some true
def ax2:=aJ [(true,.Cell),(true,.Cell)] bH (aY Kt) 16 [zj] func365
abbrev aiG:=(((aa bC)×(aa bC)×Int×af)×(af))
def aiH(x:aiG):ah (aiG⊕(((Bool×af)×(af))⊕(((af)×(af))⊕Empty))):=letI C:=x.1.2.2.1;bif C<(x.1.1.length:Int)then xI x.1.1 C λD=>xI x.1.2.1 C λE=>(Kt D E).bind λL=>bif (!L)then aq ((false,()),())else xG ((x.1.1,x.1.2.1,(W6 (C+1)),()),())else aM ((),())
def ax3:KY 27 (aN f241):=⟨0,lB 0 ⟨[(0,.lf (.aC .Cell 0)),(1,.lf (.aC .Cell 0)),(5,tI)],[],[]⟩ [(1,fJ),(2,eC)] aiH,lp [ax2]⟩
def Ra(C D:aa bC):ah (Bool):=bif ((C.length:Int) != (D.length:Int))then some false else br aiH ((C,D,0,()),()) (λE=>some E.1.1) λL=>some true
def ax4:=bJ [(false,(.sl .Cell)),(false,(.sl .Cell))] bH (aY Ra) 27 [] [ax3] func241
def Rb(C D:cF):ah (Bool):=(Ra C.cells D.cells).bind λE=>bif (!E)then some false else (oH C.bh D.bh).bind λL=>bif (!L)then some false else (oH C.aZ D.aZ).bind λO=>bif (!O)then some false else some true
def ax5:=aJ [(true,.Array),(true,.Array)] bH (aY Rb) 23 [zj,ax4] func90
def Rc(C D:eg):ah (Bool):=bif (C.bT != D.bT)then some false else (oH C.map D.map).bind λE=>bif (!E)then some false else some true
def ax6:=aJ [(true,.jf),(true,.jf)] bH (aY Rc) 16 [zj] func91
def Rd(C D:cK):ah (Bool):=(oH C.aE D.aE).bind λE=>bif (!E)then some false else bif (C.wait != D.wait)then some false else bif (!(C.dj==D.dj))then some false else some true
def ax7:=aJ [(true,.jx),(true,.jx)] bH (aY Rd) 21 [zj] func92
def Ku(C D:bI):ah (Bool):=(oH C.rows D.rows).bind λE=>bif (!E)then some false else (oH C.counts D.counts).bind λL=>bif (!L)then some false else bif (C.cE != D.cE)then some false else some true
def ax8:=aJ [(true,.dV),(true,.dV)] bH (aY Ku) 22 [zj] func242
abbrev aiI:=(((aa bI)×(aa bI)×Int×af)×(af))
def aiJ(x:aiI):ah (aiI⊕(((Bool×af)×(af))⊕(((af)×(af))⊕Empty))):=letI C:=x.1.2.2.1;bif C<(x.1.1.length:Int)then xI x.1.1 C λD=>xI x.1.2.1 C λE=>(Ku D E).bind λL=>bif (!L)then aq ((false,()),())else xG ((x.1.1,x.1.2.1,(W6 (C+1)),()),())else aM ((),())
def ax9:KY 27 (aN f93):=⟨0,lB 0 ⟨[(0,.lf (.aC .dV 0)),(1,.lf (.aC .dV 0)),(5,tI)],[],[]⟩ [(1,fJ),(2,eC)] aiJ,lp [ax8]⟩
def Re(C D:aa bI):ah (Bool):=bif ((C.length:Int) != (D.length:Int))then some false else br aiJ ((C,D,0,()),()) (λE=>some E.1.1) λL=>some true
def aya:=bJ [(false,(.sl .dV)),(false,(.sl .dV))] bH (aY Re) 27 [] [ax9] func93
def Kv(C D:aF):ah (Bool):=bif (C.au != D.au)then some false else bif (C.row != D.row)then some false else bif (C.bG != D.bG)then some false else some true
def ayb:=aJ [(true,.Addr),(true,.Addr)] bH (aY Kv) 20 [] func154
abbrev aiK:=(((aa aF)×(aa aF)×Int×af)×(af))
def aiL(x:aiK):ah (aiK⊕(((Bool×af)×(af))⊕(((af)×(af))⊕Empty))):=letI C:=x.1.2.2.1;bif C<(x.1.1.length:Int)then xI x.1.1 C λD=>xI x.1.2.1 C λE=>(Kv D E).bind λL=>bif (!L)then aq ((false,()),())else xG ((x.1.1,x.1.2.1,(W6 (C+1)),()),())else aM ((),())
def ayc:KY 27 (aN f95):=⟨0,lB 0 ⟨[(0,.lf (.aC .Addr 0)),(1,.lf (.aC .Addr 0)),(5,tI)],[],[]⟩ [(1,fJ),(2,eC)] aiL,lp [ayb]⟩
def Rf(C D:aa aF):ah (Bool):=bif ((C.length:Int) != (D.length:Int))then some false else br aiL ((C,D,0,()),()) (λE=>some E.1.1) λL=>some true
def ayd:=bJ [(false,(.sl .Addr)),(false,(.sl .Addr))] bH (aY Rf) 27 [] [ayc] func95
def Kw(C D:bk):ah (Bool):=bif (C.id != D.id)then some false else bif (C.de != D.de)then some false else bif (C.line != D.line)then some false else bif (!(C.write==D.write))then some false else bif (C.data != D.data)then some false else bif (C.at_ != D.at_)then some false else some true
def aye:=aJ WA bH (aY Kw) 35 [] func153
abbrev aiM:=(((aa bk)×(aa bk)×Int×af)×(af))
def aiN(x:aiM):ah (aiM⊕(((Bool×af)×(af))⊕(((af)×(af))⊕Empty))):=letI C:=x.1.2.2.1;bif C<(x.1.1.length:Int)then xI x.1.1 C λD=>xI x.1.2.1 C λE=>(Kw D E).bind λL=>bif (!L)then aq ((false,()),())else xG ((x.1.1,x.1.2.1,(W6 (C+1)),()),())else aM ((),())
def ayf:KY 27 (aN f96):=⟨0,lB 0 ⟨[(0,.lf (.aC .cQ 0)),(1,.lf (.aC .cQ 0)),(5,tI)],[],[]⟩ [(1,fJ),(2,eC)] aiN,lp [aye]⟩
def Rg(C D:aa bk):ah (Bool):=bif ((C.length:Int) != (D.length:Int))then some false else br aiN ((C,D,0,()),()) (λE=>some E.1.1) λL=>some true
def ayg:=bJ [(false,(.sl .cQ)),(false,(.sl .cQ))] bH (aY Rg) 27 [] [ayf] func96
def Kx(C D:bM):ah (Bool):=bif (C.weight != D.weight)then some false else bif (C.dU != D.dU)then some false else some true
def ayh:=aJ [(true,.dz),(true,.dz)] bH (aY Kx) 15 [] func243
abbrev aiO:=(((aa bM)×(aa bM)×Int×af)×(af))
def aiP(x:aiO):ah (aiO⊕(((Bool×af)×(af))⊕(((af)×(af))⊕Empty))):=letI C:=x.1.2.2.1;bif C<(x.1.1.length:Int)then xI x.1.1 C λD=>xI x.1.2.1 C λE=>(Kx D E).bind λL=>bif (!L)then aq ((false,()),())else xG ((x.1.1,x.1.2.1,(W6 (C+1)),()),())else aM ((),())
def ayi:KY 27 (aN f97):=⟨0,lB 0 ⟨[(0,.lf (.aC .dz 0)),(1,.lf (.aC .dz 0)),(5,tI)],[],[]⟩ [(1,fJ),(2,eC)] aiP,lp [ayh]⟩
def Rh(C D:aa bM):ah (Bool):=bif ((C.length:Int) != (D.length:Int))then some false else br aiP ((C,D,0,()),()) (λE=>some E.1.1) λL=>some true
def ayj:=bJ [(false,(.sl .dz)),(false,(.sl .dz))] bH (aY Rh) 27 [] [ayi] func97
def Ri(C D:fI):ah (Bool):=bif (!(C.on==D.on))then some false else bif (C.low != D.low)then some false else bif (C.high != D.high)then some false else some true
def ayk:=aJ [(true,.jy),(true,.jy)] bH (aY Ri) 20 [] func98
end Go.Proofs.YtnilicojgkhpnaaGreat
