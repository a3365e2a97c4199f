/-
  Functions of the program as plain functions of contents, and that the code computes them. Nothing here is a claim.
-/
import Derived.Test.YtdfkhfiglknaoaaGreatVZ
import Derived.Test.YtdfkhfiglknaoaaGreatRows
import Derived.Test.YtdfkhfiglknaoaaGreatG1
import Derived.Test.YtdfkhfiglknaoaaGreatG2
import Derived.Test.YtdfkhfiglknaoaaGreatG3
import Derived.Test.YtdfkhfiglknaoaaGreatG4
import Derived.Test.YtdfkhfiglknaoaaGreatG5
namespace Go.Proofs.YtdfkhfiglknaoaaGreat
set_option linter.defProp false
open Go.RowKit Go.Proofs.Tryz
set_option linter.unusedVariables false
set_option maxRecDepth 100000
abbrev ail:=((af×Int×Int×af)×(ax×af))
def LR(x:ail):ah (ail⊕(((af)×(ax×af))⊕Empty)):=bif x.1.2.2.1<x.2.1.config.au.rows then (LN x.2.1.config.au x.2.1.config.dg x.2.1 x.1.2.1 x.1.2.2.1).bind λC=>xG (((),x.1.2.1,(W6 (x.1.2.2.1+1)),()),(C.2.1,()))else az ((),(x.2.1,()))
def awG:KY 31 (bf f304):=⟨0,lB 0 ⟨asG,[],lJ⟩ [(2,FY)] LR,lp [aih]⟩
def RY(C:ax)(D:Int):ah ((af)×(ax×af)):=bw LR (((),D,0,()),(C,())) λE=>some ((),(E.2.1,()))
def aim:=oM J8 [] (bR RY) 31 [] [awG] func304
def ain:enters Tryz.prog 306/\pN Tryz.prog 306 (cj Tryz.prog f306 1 []):=Db (A1 1 [] func306 trivial)
def LS(C:ax)(D:Int):ah ((af)×(ax×af)):=(Gm C.config.gO).bind λE=>xL C.bH D λI=>xL C.guard D λO=>some ((),({C with bH:=(C.bH.set D.toNat E.1),guard:=(C.guard.set D.toNat C.box.cr.eC)},()))
def aio:=kQ J8 [] (bR LS) 31 [agH] func307
def RZ(E:c8)(D:Int):ah (c8×Bool):=(Bg E).bind λC=>letI I:=some (C,false);(zh E).bind λO=>bif (!O)then I else (cz D 0 (W6 ((E.aJ.length:Int)-1))).bind λU=>bif (!U)then I else xI E.aJ D λY=>bif (Y==(-2))then I else xL C.aJ D λe8=>xL C.aJ D λrN=>some ((⟨(C.aJ.set D.toNat (W6 (e8-1))),C.wait,C.dX⟩:c8),true)
def awH:=bB Yt [(true,.ld,2),(false,.bool,0)] (bR RZ) 38 [eH,Rh,Gt] func308
def R0(C:aa aN)(E D:Int):ah (((aa aN))×((aa aN)×af)):=if 0 <= E/\E <= D/\D <= (C.length:Int)/\(C.length:Int) <= (C.length:Int)then bif (E==D)then some (C,([],()))else if 0 <= (0:Int)/\0 <= E/\E <= (C.length:Int)then if 0 <= D/\D <= (C.length:Int)/\(C.length:Int) <= (C.length:Int)then if E.toNat <= D.toNat/\D.toNat <= (C.length:Int).toNat/\(C.length:Int).toNat <= C.length/\0<C.length then if 0 <= (((E.toNat+((C.length:Int).toNat-D.toNat))-0:Nat):Int)/\(((E.toNat+((C.length:Int).toNat-D.toNat))-0:Nat):Int) <= (C.length:Int)/\(C.length:Int) <= ((splice C E.toNat ((C.take ((C.length:Int).toNat)).drop D.toNat)).length:Int)then if (((E.toNat+((C.length:Int).toNat-D.toNat))-0:Nat):Int).toNat <= (C.length:Int).toNat/\(C.length:Int).toNat <= (splice C E.toNat ((C.take ((C.length:Int).toNat)).drop D.toNat)).length then some (((splice (splice C E.toNat ((C.take ((C.length:Int).toNat)).drop D.toNat)) ((((E.toNat+((C.length:Int).toNat-D.toNat))-0:Nat):Int).toNat) (List.replicate ((C.length:Int).toNat-(((E.toNat+((C.length:Int).toNat-D.toNat))-0:Nat):Int).toNat) (⟨0,0,0,false,0,0⟩:aN))).take (E.toNat+((C.length:Int).toNat-D.toNat))),([],()))else none else none else none else none else none else none
def awI:KX:=⟨342,.c ⟨[.s .dx 1000000,.v false .int,.v false .int],[(false,(.sl .dx),2)],λx=>R0 x.1 x.2.1 x.2.2.1⟩,km 33 [] func342⟩
def zx(C:ax)(D:Int):ah ((Int×Int)×(ax×af)):=xL C.array.cells D λO=>bif O.jK then some ((0,2),(C,()))else xM C.array.cells D λe5=>xM C.array.cells D λU=>(Ll U.symbols).bind λY=>xM C.array.cells D λnA=>xM C.array.cells D λnB=>(Rs nB.symbols).bind λE=>letI I:=(E.1,E.2.1);bif (E.2.1==1)then xM C.array.cells D λRS=>some (I,({C with array:=⟨(C.array.cells.set D.toNat (⟨Y.1,RS.jK⟩:bQ)),C.array.bu,C.array.bq⟩},()))else bif (E.2.1==2)then xM C.array.cells D λxl=>some (I,({C with array:=⟨(C.array.cells.set D.toNat (⟨xl.symbols,true⟩:bQ)),C.array.bu,C.array.bq⟩},()))else some (I,(C,()))
def aip:=kQ Yo [(false,.int,0),(false,.int,0)] (bR zx) 55 [ahF,au4] func201
def R1(C:ax)(U:Int):ah ((af)×(ax×af)):=letI E:=(4:Int);xL C.queue U λD=>letI u2:=([(⟨D.id,C.now,0,0⟩:dA)]:aa dA);(xg C D.line).bind λy4=>letI Y:=Bt C.config.au y4.1;(R0 C.queue U (W6 (U+1))).bind λy5=>if 0 <= E/\E <= 4/\E<1073741824 then xL (List.replicate E.toNat false) D.dM λe8=>(qQ C.shares ((List.replicate E.toNat false).set D.dM.toNat true)).bind λy9=>bif D.write then Y.bind λgH=>(Bd D.data).bind λfR=>xL C.array.cells gH λoO=>bif bE (C.bP.length+u2.length)then some ((),({C with array:=⟨(C.array.cells.set gH.toNat (⟨fR,false⟩:bQ)),C.array.bu,C.array.bq⟩,queue:=y5.1,shares:=y9.1,bP:=(C.bP++u2)},()))else none else Y.bind λiI=>(zx {C with queue:=y5.1,shares:=y9.1} iI).bind λI=>letI O:=I.2.1;letI u1:=([(⟨D.id,O.now,I.1.1,I.1.2⟩:dA)]:aa dA);bif bE (O.bP.length+u1.length)then Y.bind λkR=>(zo {O with bP:=(O.bP++u1)} kR I.1.2).bind λs7=>some ((),(s7.2.1,()))else none else none
def awJ:=kQ J8 [] (bR R1) 125 [agF,RO,aip,ahJ,Zd,ahW,awI] func309
def R2(C:fK)(E I:Int):ah (fK×Bool):=letI O:=some ((⟨0,I,C.idle⟩:fK),true);letI D:=some (C,false);(DC C).bind λU=>bif (!U)then D else (cz I C.since 1000000).bind λY=>bif (!Y)then D else bif (E==6)then bif (C.state != 0)then D else some ((⟨1,I,C.idle⟩:fK),true)else bif (E==8)then bif (C.state != 0)then D else some ((⟨2,I,C.idle⟩:fK),true)else bif (E==7)then bif (C.state != 1)then D else O else bif (E==9)then bif (C.state != 2)then D else O else bif (C.state != (-1))then D else O
def awK:=bB [(true,.Power),(false,.int),(false,.int)] [(true,.Power,0),(false,.bool,0)] (fP R2) 40 [eH,Rf] func310
abbrev aiq:=(((aa aM)×aF×Int×Int×af)×(af))
def LU(x:aiq):ah (aiq⊕(((Int×af)×(af))⊕(((af)×(af))⊕Empty))):=letI C:=x.1.2.2.2.1;bif C<x.1.2.2.1 then xI x.1.1 C λD=>bif (D.ay==x.1.2.1.ay)then az ((C,()),())else xG ((x.1.1,x.1.2.1,x.1.2.2.1,(W6 (C+1)),()),())else bx ((),())
def awL:KY 19 (bf f341):=⟨0,lB 0 ⟨[(0,.lf (.aI .Addr 0)),(1,.fc 306 .Command),(7,tI),(8,tI)],[],[]⟩ [(1,wX),(2,ic)] LU,lp [⟨306,.i _,ain⟩]⟩
def R3(C:aa aM)(D:aF):ah (Int):=(iter LU aV ((C,D,(C.length:Int),0,()),())).bind (Sum.elim (λE=>some E.1.1) (Sum.elim (λI=>some (-1)) (λz=>nomatch z)))
def awM:KX:=⟨341,.q (ir [(false,(.sl .Addr)),(false,(.fnCommand 306))] [(false,.int,0)] λx=>R3 x.1 x.2.1),kq 19 [] [awL] func341⟩
abbrev air:=((af×aF×Int×Int×af)×((aa aM)×af))
def LV(x:air):ah (air⊕(((af×Int×af)×((aa aM)×af))⊕Empty)):=letI C:=x.1.2.2;bif C.2.1<(x.2.1.length:Int)then xL x.2.1 C.2.1 λD=>bif (!(D.ay==x.1.2.1.ay))then xL x.2.1 C.1 λE=>xG (((),x.1.2.1,(W6 (C.1+1)),(W6 (C.2.1+1)),()),((x.2.1.set C.1.toNat D),()))else xG (((),x.1.2.1,C.1,(W6 (C.2.1+1)),()),(x.2.1,()))else az (((),C.1,()),(x.2.1,()))
def awN:KY 42 (bf f305):=⟨0,lB 0 ⟨[(0,.lf (.own 98000)),(1,.fc 306 .Command),(5,tI),(6,tI)],Yj,[]⟩ [(2,afh)] LV,lp [⟨306,.i _,ain⟩]⟩
def R4(D:aa aM)(I:aF):ah (((aa aM))×((aa aM)×af)):=(R3 D I).bind λE=>bif (E==(-1))then some (D,([],()))else (iter LV aV (((),I,E,(W6 (E+1)),()),(D,()))).bind (Sum.elim (λC=>if 0 <= C.1.2.1/\C.1.2.1 <= (C.2.1.length:Int)/\(C.2.1.length:Int) <= (C.2.1.length:Int)then if C.1.2.1.toNat <= (C.2.1.length:Int).toNat/\(C.2.1.length:Int).toNat <= C.2.1.length then if 0 <= (0:Int)/\0 <= C.1.2.1/\C.1.2.1 <= ((splice C.2.1 C.1.2.1.toNat (List.replicate ((C.2.1.length:Int).toNat-C.1.2.1.toNat) (⟨0,0,0⟩:aM))).length:Int)then some (((splice C.2.1 C.1.2.1.toNat (List.replicate ((C.2.1.length:Int).toNat-C.1.2.1.toNat) (⟨0,0,0⟩:aM))).take C.1.2.1.toNat),([],()))else none else none else none) (λz=>nomatch z))
def awO:KX:=⟨305,.c ⟨[.s .Addr 1000000,.v false (.fnCommand 306)],[(false,(.sl .Addr),2)],λx=>R4 x.1 x.2.1⟩,kn 42 [awM] [awN] func305⟩
def awP:bF:=⟨[(0,.aE 20000 0),(130,tI),(131,tI)],[],Qm⟩
def awQ:aa (Nat×bF):=[(3,Yw)]
abbrev ais:=((af×Int×Int×af)×(ax×af))
def zy(x:ais):ah (ais⊕(((af)×(ax×af))⊕Empty)):=letI C:=x.1.2.2.1;bif C<x.1.2.1 then (RY x.2.1 C).bind λE=>(LS E.2.1 C).bind λI=>letI D:=I.2.1;xL D.aS.aJ C λO=>xG (((),x.1.2.1,(W6 (C+1)),()),({D with aS:=⟨(D.aS.aJ.set C.toNat (0:Int)),D.aS.wait,D.aS.dX⟩},()))else az ((),(x.2.1,()))
def Zs:KY 148 (bf f253):=⟨1,lB 1 awP awQ zy,lp [aim,aio]⟩
def LW(D:ax)(C:aF)(x2:Int):ah ((af)×(ax×af)):=letI O:=C.kind != 9;letI u2:=([(⟨D.now,C⟩:bW)]:aa bW);letI U:=D.trace++u2;bif bE (D.trace.length+u2.length)then (GX D.config.au D.ready (⟨D.now,C⟩:bW)).bind λY=>(zu D.config.au D.aO C).bind λy2=>letI u0:={D with aO:=y2.1,ready:=Y,trace:=U};(let rR:ax -> ah ((af)×(ax×af)):=λw7=>bif O then some ((),(w7,()))else bw zy (((),(w7.bH.length:Int),0,()),({w7 with pending:=([]:aa aM)},())) (λRu=>some ((),(Ru.2.1,())));let LX:Int -> Int -> Int -> ah ((af)×(ax×af)):=λQF QG F4=>bif O then some ((),({D with aO:=y2.1,ready:=Y,aR:=⟨QF,QG,F4⟩,trace:=U},()))else bw zy (((),(D.bH.length:Int),0,()),({D with aO:=y2.1,ready:=Y,pending:=([]:aa aM),aR:=⟨QF,QG,F4⟩,trace:=U},())) (λz36=>some ((),(z36.2.1,())));letI u4:=LX D.aR.state D.aR.since D.aR.idle;bif (C.kind==1)then (RX u0 C).bind λy3=>(rR y3.2.1)else bif (C.kind==5)then (RY u0 C.ay).bind λy4=>letI u3:=y4.2.1;(R4 u3.pending C).bind λy5=>(LS {u3 with pending:=y5.1} C.ay).bind λy6=>letI E:=y6.2.1;(RZ E.aS C.ay).bind λy7=>bif O then some ((),({E with aS:=y7.1},()))else bw zy (((),(E.bH.length:Int),0,()),({E with aS:=y7.1,pending:=([]:aa aM)},())) λZt=>some ((),(Zt.2.1,()))else (let zp:Bool -> ah ((af)×(ax×af)):=λj8=>bif j8 then (R1 u0 x2).bind λy9=>(rR y9.2.1)else (let I:Bool -> ah ((af)×(ax×af)):=λwZ=>bif wZ then (R2 D.aR C.kind D.now).bind λfR=>(LX fR.1.state fR.1.since fR.1.idle)else u4;bif (C.kind==6)then (I (C.kind==6))else bif (C.kind==7)then (I (C.kind==7))else bif (C.kind==8)then (I (C.kind==8))else (I (C.kind==9)));bif (C.kind==2)then (zp (C.kind==2))else (zp (C.kind==3))))else none
def awR:=oM afJ [] (fP LW) 148 [Zm,aia,awF,aim,awO,aio,awH,awJ,awK] [Zs,Zs,Zs] func253
def ue(C:ax)(D:aF)(I:Int):ah (ax×Bool):=(Bh C).bind λY=>letI E:=some (Y,false);letI U:=(LW Y D I).bind λfR=>some (fR.2.1,true);(zj C).bind λy2=>bif (!y2)then E else (jZ C D).bind λy3=>bif (!y3)then E else bif (C.trace.length:Int) >= 2000 then E else (cz I 0 (W6 ((C.queue.length:Int)-1))).bind λy4=>letI u0:=bif (C.bP.length:Int) >= 400 then E else bif (!y4)then E else xI C.queue I λe6=>(xg C e6.line).bind λy7=>xI C.queue I λe9=>(xh C.aO y7.1 e9.write).bind λO=>bif (!((O.kind==D.kind)&&((O.ay==D.ay)&&((O.row==D.row)&&((O.bV==D.bV)&&true)))))then E else U;bif (D.kind==2)then u0 else bif (D.kind==3)then u0 else bif (I != (-1))then bif (!y4)then E else U else U
def awS:=bB [(true,.cK),(true,.Command),(false,.int)] J5 (fP ue) 88 [Gz,K9,eH,GP,Zd,ahR,awR] func204
def Bv(D:ax):ah (ax):=letI U:=tZ D.config.au;(Bh D).bind λC=>letI u6:=Lk C.box ((C.queue.length:Int)==0);letI E:=W6 (C.now+1);(zj D).bind λy2=>bif (!y2)then some C else bif (D.now==1000000)then some C else bif (C.aO.aR != 2)then (Lg C.aS D.config.interval).bind λy3=>(GG D.config.au C.array 1).bind λy4=>(GI C.queue true).bind λy5=>(GH C.drain y5).bind λy6=>(Bj {C with now:=E,array:=y4,aS:=y3,drain:=y6}).bind λy7=>(GJ C.aR y7).bind λy8=>u6.bind λI=>bif I.2 then (A9 I.1.cr.weights).bind λgH=>U.bind λfR=>(zn C.cY fR).bind λY=>letI u1:={C with box:=I.1,now:=E,array:=y4,aS:=y3,shares:=gH.1,drain:=⟨false,I.1.cr.low,I.1.cr.high⟩,aR:=y8,cY:=Y.1};bif Y.2 >= 0 then (zx u1 Y.2).bind λgU=>(zo gU.2.1 Y.2 gU.1.2).bind λiH=>(vt iH.2.1).bind λiI=>bif (iI.1.kind != 0)then (ue iH.2.1 iI.1 iI.2).bind λny=>some ny.1 else some iH.2.1 else (vt u1).bind λkR=>bif (kR.1.kind != 0)then (ue u1 kR.1 kR.2).bind λs7=>some s7.1 else some u1 else U.bind λzk=>(zn C.cY zk).bind λzq=>letI u3:={C with box:=I.1,now:=E,array:=y4,aS:=y3,drain:=y6,aR:=y8,cY:=zq.1};bif zq.2 >= 0 then (zx u3 zq.2).bind λxk=>(zo xk.2.1 zq.2 xk.1.2).bind λlK=>(vt lK.2.1).bind λpU=>bif (pU.1.kind != 0)then (ue lK.2.1 pU.1 pU.2).bind λpV=>some pV.1 else some lK.2.1 else (vt u3).bind λxm=>bif (xm.1.kind != 0)then (ue u3 xm.1 xm.2).bind λG0=>some G0.1 else some u3 else (GI C.queue true).bind λG1=>(GH C.drain G1).bind λud=>(Bj {C with now:=E,drain:=ud}).bind λLY=>(GJ C.aR LY).bind λR5=>u6.bind λO=>bif O.2 then (A9 O.1.cr.weights).bind λG2=>U.bind λqT=>(zn C.cY qT).bind λBw=>letI u0:={C with box:=O.1,now:=E,shares:=G2.1,drain:=⟨false,O.1.cr.low,O.1.cr.high⟩,aR:=R5,cY:=Bw.1};bif Bw.2 >= 0 then (zx u0 Bw.2).bind λR6=>(zo R6.2.1 Bw.2 R6.1.2).bind λDS=>(vt DS.2.1).bind λBy=>bif (By.1.kind != 0)then (ue DS.2.1 By.1 By.2).bind λZu=>some Zu.1 else some DS.2.1 else (vt u0).bind λLZ=>bif (LZ.1.kind != 0)then (ue u0 LZ.1 LZ.2).bind λy40=>some y40.1 else some u0 else U.bind λZv=>(zn C.cY Zv).bind λG3=>letI u2:={C with box:=O.1,now:=E,drain:=ud,aR:=R5,cY:=G3.1};bif G3.2 >= 0 then (zx u2 G3.2).bind λG4=>(zo G4.2.1 G3.2 G4.1.2).bind λG5=>(vt G5.2.1).bind λBr=>bif (Br.1.kind != 0)then (ue G5.2.1 Br.1 Br.2).bind λy46=>some y46.1 else some G5.2.1 else (vt u2).bind λZw=>bif (Zw.1.kind != 0)then (ue u2 Zw.1 Zw.2).bind λy48=>some y48.1 else some u2
def awT:=bB wY [(true,.cK,4)] (bN Bv) 126 [Gz,YI,K9,Gj,auM,auQ,auR,auT,auU,ahC,auW,auX,aip,ahJ,awk,awS] func144
def awU:bF:=⟨[(1,tI),(4,.aE 4 0),(5,.aE 5 0),(6,tI)],[],aeO⟩
def awV:aa (Nat×bF):=[(2,⟨[(4,.aE 4 0),(5,.aE 5 0)],[],aeO⟩)]
abbrev ait:=((Int×af×af×Int×af)×(ax×ax×af))
def L0(x:ait):ah (ait⊕(((af×af×af)×(ax×ax×af))⊕Empty)):=letI C:=az (((),(),()),(x.2.1,x.2.2.1,()));bif x.1.2.2.2.1<x.1.1 then (cz x.1.1 0 5000).bind λD=>bif D then (Bv x.2.2.1).bind λE=>xG ((x.1.1,(),(),(W6 (x.1.2.2.2.1+1)),()),(x.2.1,E,()))else C else C
def awW:KY 21 (bf f73):=⟨0,lB 0 awU awV L0,lp [eH,awT]⟩
def R7(C:ax)(D:Int):ah (ax):=(Bh C).bind λE=>bw L0 ((D,(),(),0,()),((⟨⟨⟨0,0,0,0⟩,⟨0,0,0,0,0,0,0,0,0,0,0,0,0,0,0,0,0⟩,⟨0,false⟩,0,0,0,⟨0,0⟩⟩,⟨⟨0,0,0,0,0,([]:aa Int),⟨0,0⟩⟩,⟨0,0,0,0,0,([]:aa Int),⟨0,0⟩⟩,false⟩,0,⟨([]:aa di),0⟩,⟨([]:aa Int),([]:aa Int)⟩,⟨([]:aa bQ),([]:aa Int),([]:aa Int)⟩,⟨0,([]:aa Int)⟩,⟨([]:aa Int),0,false⟩,([]:aa cq),([]:aa Int),([]:aa aM),([]:aa aN),([]:aa cD),⟨false,0,0⟩,⟨0,0,0⟩,⟨0,0,0⟩,([]:aa cB),([]:aa bW),([]:aa dA)⟩:ax),E,())) λI=>some I.2.2.1
def awX:=bZ [(true,.cK),(false,.int)] [(true,.cK,4)] (bR R7) 21 [K9] [awW] func73
def aiu(I:aG)(O:cJ)(U:aM)(E Y:Int):ah (cJ):=(DD O).bind λC=>(Dz I O).bind λy2=>bif y2 then (zg I U).bind λy3=>bif y3 then (cz E 0 10).bind λy4=>bif y4 then (zd Y).bind λy5=>bif y5 then (Bt I U).bind λD=>xL C.cells D λe9=>xM C.cells D λnB=>xC nB.symbols E (xM C.cells D λoO=>xM oO.symbols E λqR=>xM C.cells D λDK=>xC DK.symbols E (xM C.cells D λvo=>xM vo.symbols E λGL=>xM C.cells D λrS=>some (⟨(C.cells.set D.toNat (⟨(vo.symbols.set E.toNat (bits .xor .i64 qR Y)),rS.jK⟩:bQ)),C.bu,C.bq⟩:cJ)))else some C else some C else some C else some C
def awY:=bB [(true,.gd),(true,.Array),(true,.Addr),(false,.int),(false,.int)] [(true,.Array,4)] (Dd aiu) 45 [eH,KW,KE,YQ,YU,RO] func76
def aiv(C:c8)(D:Bool):ah (c8):=letI I:=W6 ((W6 (2*C.wait))-1);(Bg C).bind λE=>letI O:=some (⟨E.aJ,E.wait,D⟩:c8);letI U:=bif (!D)then bif C.dX then some (⟨E.aJ,(if 10000<I then 10000 else I),D⟩:c8)else O else O;(zh C).bind λY=>bif (!Y)then some E else bif D then bif (!C.dX)then some (⟨E.aJ,(W6 ((W6 (C.wait+1)).tdiv 2)),D⟩:c8)else U else U
def awZ:=bB [(true,.ld),(false,.bool)] [(true,.ld,2)] (bR aiv) 40 [Rh,Gt] func77
def aiw(E:iK)(C:dz):ah (iK×Bool):=(GA E).bind λD=>(Gh C).bind λI=>bif (!I)then some (D,false)else (xb C).bind λO=>some ((⟨D.cr,O,true⟩:iK),true)
def aw0:=bB [(true,.pq),(true,.nP)] FW (bR aiw) 18 [YJ,Q4,YT] func78
abbrev aix:=((Int×(aa Int)×Int×Int×af)×(af))
def L1(x:aix):ah (aix⊕(((Int×af)×(af))⊕(((af)×(af))⊕Empty))):=letI C:=x.1.2.2.2.1;bif C<x.1.2.2.1 then xI x.1.2.1 C λD=>bif (D==x.1.1)then az ((C,()),())else xG ((x.1.1,x.1.2.1,x.1.2.2.1,(W6 (C+1)),()),())else bx ((),())
def aw1:KY 34 (bf f206):=⟨0,lB 0 ⟨[(3,tI),(22,.lf (.aI .int 0)),(23,tI),(24,tI)],[],[]⟩ [(1,⟨[(8,tI)],[],[]⟩),(2,ic)] L1,lp []⟩
def R8(O:aG)(C:dw)(D x3:Int):ah (Int):=letI U:=W6 (O.rows-C.bL);letI E:=W6 (D*U);letI I:=W6 ((W6 (D+1))*U);letI Y:=(C.map.take I.toNat).drop E.toNat;(zi O C).bind λy1=>(Bo y1 D 0).bind λy2=>bif (!y2)then some (-1)else if 0 <= E/\E <= I/\I <= (C.map.length:Int)then bU L1 ((x3,Y,(Y.length:Int),0,()),()) (λz5=>some z5.1.1) λz6=>some (-1)else none
def aw2:=bZ Dg dS (nq R8) 34 [Gx,⟨171,.i _,YR⟩,Zc] [aw1] func206
def aw3:bF:=⟨[(2,tI),(3,tI),(4,.aE 4 0),(5,.aE 5 0),(8,.aE 8 0),(10,.aE 10 0),(11,.aE 11 0),(12,tI)],[(4,.aB eK),(5,.aB FX),(8,.aB FR),(10,.aB Yv),(11,.aB eK),(90101,.sl .int 2),(15,.sl .int 2)],[]⟩
def aw4:aa (Nat×bF):=[(1,⟨[(8,.aE 8 0),(9,tB)],[(8,.aB Yv),(15,.sl .int 2)],[]⟩),(2,⟨[(8,.aE 8 0),(10,.aE 10 0)],[(8,.aB FR),(10,.aB Yv),(90101,.sl .int 2),(15,.sl .int 2)],[]⟩)]
abbrev aiy:=((Int×Int×af×af×af×af×af×Int×af)×((Int×Int×Int×Int×af)×(Int×(aa Int)×af)×(Int×af×af)×(Int×af×af)×(Int×Int×Int×Int×af)×(aa Int)×(aa Int)×af))
def L2(x:aiy):ah (aiy⊕(((af×Bool×af)×((Int×af×af)×(aa Int)×af))⊕(((af×af×af)×((Int×af×af)×(Int×af×af)×(aa Int)×(aa Int)×af))⊕Empty))):=letI D:=x.1.2.2.2.2.2.2.2.1;letI C:=x.2.2.2.2;letI E:=C.2.2.2.1;letI I:=W6 ((W6 (x.1.1*C.2.1.2.2.1))+x.1.2.1);bif D<x.2.1.2.2.1 then (R8 (⟨x.2.1.1,x.2.1.2.1,x.2.1.2.2.1,x.2.1.2.2.2.1⟩:aG) (⟨x.2.2.1.1,x.2.2.1.2.1⟩:dw) x.1.1 D).bind λO=>bif O<0 then xL E I λU=>az (((),true,()),(C.1,(E.set I.toNat D),()))else xG ((x.1.1,x.1.2.1,(),(),(),(),(),(W6 (D+1)),()),(x.2.1,x.2.2.1,x.2.2.2.1,C.1,C.2.1,C.2.2.1,E,()))else bx (((),(),()),(x.2.2.2.1,C.1,C.2.2.1,E,()))
def aw5:KY 55 (bf f148):=⟨0,lB 0 aw3 aw4 L2,lp [aw2]⟩
def R9(E:aG)(C:dw)(O U:Int):ah (dw×Bool):=bif xZ C.map then (zi E C).bind λD=>(Bo D O U).bind λy2=>bif (!y2)then some ((⟨C.bL,(xA C.map)⟩:dw),false)else bU L2 ((O,U,(),(),(),(),(),D.rows,()),((E.bK,E.aA,E.rows,E.aK,()),(C.bL,C.map,()),(0,(),()),(C.bL,(),()),(D.bK,D.aA,D.rows,D.aK,()),([]:aa Int),(xA C.map),())) (λI=>some ((⟨I.2.1.1,I.2.2.1⟩:dw),I.1.2.1)) λY=>some ((⟨Y.2.2.1.1,Y.2.2.2.2.1⟩:dw),false)else none
def aw6:=bZ Dg [(true,.qj,2),(false,.bool,0)] (nq R9) 55 [Gx,Zc] [aw5] func148
def aw7:bF:=⟨[(0,.aE 20000 0),(1,tI),(7,.aE 7 0),(8,tI),(9,.aE 9 0),(11,tI),(12,tI)],[(7,.aB eK),(9,.aB afK),(1000000000136001,.sl .int 2)],lJ⟩
def aw8:aa (Nat×bF):=[(2,⟨[(0,.aE 20000 0),(9,.aE 9 0)],[(9,.aB afK),(1000000000136001,.sl .int 2)],lJ⟩)]
abbrev aiz:=((af×Int×af×Int×af×Int×Int×af)×(ax×(Int×Int×Int×Int×af)×(Int×af×af)×(aa Int)×af))
def G6(x:aiz):ah (aiz⊕(((af×af×af)×(ax×(Int×af×af)×(aa Int)×af))⊕Empty)):=letI C:=x.2.2;letI E:=x.1.2.2.2.2.2;letI I:=(⟨C.1.1,C.1.2.1,C.1.2.2.1,C.1.2.2.2.1⟩:aG);letI D:=x.2.1;bif E.2.1<C.1.2.2.2.1 then (Bt I (⟨x.1.2.1,E.1,E.2.1⟩:aM)).bind λO=>(Bt I (⟨x.1.2.1,x.1.2.2.2.1,E.2.1⟩:aM)).bind λU=>xL D.array.cells U λY=>xM D.array.cells U λDT=>(K7 (⟨DT.symbols,Y.jK⟩:bQ)).bind λiH=>xL D.array.cells O λxl=>xG (((),x.1.2.1,(),x.1.2.2.2.1,(),E.1,(W6 (E.2.1+1)),()),({D with array:=⟨(D.array.cells.set O.toNat iH),D.array.bu,D.array.bq⟩},C.1,C.2.1,C.2.2.1,()))else az (((),(),()),(D,C.2.1,C.2.2.1,()))
def aw9:KY 95 (bf f79):=⟨0,lB 0 aw7 aw8 G6,lp [RO,ahe]⟩
def Sa(C:ax)(D I:Int):ah ((Bool)×(ax×af)):=(DJ C.config.au C.spare D I).bind λU=>(R9 C.config.au C.spare D I).bind λE=>bif (!E.2)then some (false,(C,()))else xL C.aO.aA D λY=>bif Y.open_ then some (false,(C,()))else (DJ C.config.au E.1 D I).bind λy6=>bw G6 (((),D,(),U,(),y6,0,()),(C,(C.config.au.bK,C.config.au.aA,C.config.au.rows,C.config.au.aK,()),(E.1.bL,(),()),E.1.map,())) λO=>letI u0:=O.2.1;some (true,({u0 with spare:=⟨O.2.2.1.1,O.2.2.2.1⟩},()))
def axa:=oM Yl cy (fP Sa) 95 [ahP,aw6] [aw9] func79
def zz(D:ax)(C:fV):ah (ax×Bool):=letI Y:=aiu D.config.au D.array C.addr C.v8 C.n;(Bh D).bind λE=>letI I:=some (E,false);letI u0:=Y.bind λgH=>some ({E with array:=gH},false);(zj D).bind λy2=>bif (!y2)then I else bif (C.kind==1)then (Rk D C.request).bind λy3=>some (y3.1,y3.2)else bif (C.kind==2)then (cz C.n 0 500).bind λO=>bif O then (R7 D C.n).bind λy5=>some (y5,O)else some (E,O)else bif (C.kind==3)then (zg D.config.au C.addr).bind λy6=>bif y6 then (cz C.v8 0 10).bind λy7=>bif y7 then (zd C.n).bind λy8=>Y.bind λy9=>some ({E with array:=y9},y8)else u0 else u0 else bif (C.kind==4)then (cz C.n 0 1).bind λU=>bif U then (aiv D.aS (C.n==1)).bind λgU=>some ({E with aS:=gU},U)else some (E,U)else bif (C.kind==5)then (rP D.config C.fo).bind λiH=>bif iH then (aiw D.box C.fo).bind λiI=>some ({E with box:=iI.1},iI.2)else I else bif (C.kind==6)then (Sa E C.addr.ay C.addr.row).bind λny=>some (ny.2.1,ny.1)else I
def axb:=bB [(true,.cK),(true,.Act)] J5 (bR zz) 106 [Gz,YK,K9,auI,eH,awX,KW,KE,awY,awZ,aw0,axa] func36
def axc:bF:=⟨[(6,.aE 6 0),(8,.aE 8 0),(10,tI),(29,.lf (.aI .Act 0)),(30,tI),(31,tI)],[],aeP⟩
def axd:aa (Nat×bF):=[(2,⟨[(6,.aE 6 0),(8,.aE 8 0),(10,tI)],[],aeP⟩)]
abbrev aiA:=((af×af×Int×(aa fV)×Int×Int×af)×(ax×ax×af))
def L3(x:aiA):ah (aiA⊕(((af×af×Int×af)×(ax×ax×af))⊕Empty)):=letI C:=x.1.2.2.2;letI D:=C.2.2.1;bif D<C.2.1 then xI C.1 D λI=>(zz x.2.2.1 I).bind λE=>bif E.2 then xG (((),(),(W6 (x.1.2.2.1+1)),C.1,C.2.1,(W6 (D+1)),()),(x.2.1,E.1,()))else xG (((),(),x.1.2.2.1,C.1,C.2.1,(W6 (D+1)),()),(x.2.1,x.2.2.1,()))else az (((),(),x.1.2.2.1,()),(x.2.1,x.2.2.1,()))
def axe:KY 48 (bf f11):=⟨0,lB 0 axc axd L3,lp [axb]⟩
def L4(O:dP)(U:dz)(C:aa fV):ah (ax×Int):=letI D:=some ((⟨⟨⟨0,0,0,0⟩,⟨0,0,0,0,0,0,0,0,0,0,0,0,0,0,0,0,0⟩,⟨0,false⟩,0,0,0,⟨0,0⟩⟩,⟨⟨0,0,0,0,0,[],⟨0,0⟩⟩,⟨0,0,0,0,0,[],⟨0,0⟩⟩,false⟩,0,⟨[],0⟩,⟨[],[]⟩,⟨[],[],[]⟩,⟨0,[]⟩,⟨[],0,false⟩,[],[],[],[],[],⟨false,0,0⟩,⟨0,0,0⟩,⟨0,0,0⟩,[],[],[]⟩:ax),0);(Q7 O U).bind λE=>bif (!E.2)then D else bif (C.length:Int) > 60 then D else bw L3 (((),(),0,C,(C.length:Int),0,()),((⟨⟨⟨0,0,0,0⟩,⟨0,0,0,0,0,0,0,0,0,0,0,0,0,0,0,0,0⟩,⟨0,false⟩,0,0,0,⟨0,0⟩⟩,⟨⟨0,0,0,0,0,([]:aa Int),⟨0,0⟩⟩,⟨0,0,0,0,0,([]:aa Int),⟨0,0⟩⟩,false⟩,0,⟨([]:aa di),0⟩,⟨([]:aa Int),([]:aa Int)⟩,⟨([]:aa bQ),([]:aa Int),([]:aa Int)⟩,⟨0,([]:aa Int)⟩,⟨([]:aa Int),0,false⟩,([]:aa cq),([]:aa Int),([]:aa aM),([]:aa aN),([]:aa cD),⟨false,0,0⟩,⟨0,0,0⟩,⟨0,0,0⟩,([]:aa cB),([]:aa bW),([]:aa dA)⟩:ax),E.1,())) λI=>some (I.2.2.1,I.1.2.2.1)
def axf:=bZ afI [(true,.cK,4),(false,.int,0)] (fP L4) 48 [at0] [axe] func11
def Sb(C D:aN):ah (Bool):=bif C.at_<D.at_ then some true else bif (C.at_==D.at_)then some (C.id<D.id)else some false
def aiB:=bB [(true,.dx),(true,.dx)] cy (bR Sb) 24 [] func207
def L5(C:Int):ah (Bool):=(cO C 0 4294967295).bind λD=>some D
def aiC:=bB mb cy (bN L5) 5 [fQ] func311
def Sc(E:Int)(C:aN):ah (Bool):=letI D:=(cO C.at_ 0 1000000).bind λI=>some I;(cO C.id 1 100000).bind λO=>bif O then (cO C.dM 0 3).bind λU=>bif U then bif C.line >= 0 then bif C.line<E then (L5 C.data).bind λY=>bif Y then bif C.write then D else bif (C.data==0)then D else some false else some false else some false else some false else some false else some false
def axg:=bB [(false,.int),(true,.dx)] cy (bR Sc) 43 [fQ,aiC] func254
abbrev aiD:=(((aa aN)×Int×Int×af)×(af))
def L6(x:aiD):ah (aiD⊕(((Int×af)×(af))⊕(((af)×(af))⊕Empty))):=letI C:=x.1.2.2.1;bif C<(x.1.1.length:Int)then xI x.1.1 C λD=>bif (D.id==x.1.2.1)then az ((C,()),())else xG ((x.1.1,x.1.2.1,(W6 (C+1)),()),())else bx ((),())
def axh:KY 20 (bf f255):=⟨0,lB 0 afo [(1,wX),(2,ic)] L6,lp []⟩
def L7(C:aa aN)(D:Int):ah (Int):=bU L6 ((C,D,0,()),()) (λE=>some E.1.1) λI=>some (-1)
def aiE:=bZ Qq dS (bR L7) 20 [] [axh] func255
abbrev aiF:=((Int×(aa aN)×Int×af)×(af))
def L8(x:aiF):ah (aiF⊕(((Bool×af)×(af))⊕(((af)×(af))⊕Empty))):=letI E:=az ((false,()),());letI D:=x.1.2.1;letI C:=x.1.2.2.1;letI I:=xI D C λO=>(L7 D O.id).bind λU=>bif (U != C)then E else xG ((x.1.1,D,(W6 (C+1)),()),());bif C<(D.length:Int)then xI D C λY=>(Sc x.1.1 Y).bind λy3=>bif (!y3)then E else bif C > 0 then xI D (W6 (C-1)) λe5=>xI D C λe7=>(Sb e5 e7).bind λy8=>bif (!y8)then E else I else I else bx ((),())
def axi:KY 50 (bf f208):=⟨0,lB 0 ⟨[(0,tI),(1,.lf (.aI .dx 0)),(5,tI)],[],[]⟩ [(1,mc),(2,ic)] L8,lp [aiB,axg,aiE]⟩
def zB(D:Int)(C:aa aN):ah (Bool):=bif (C.length:Int) > 12 then some false else bU L8 ((D,C,0,()),()) (λE=>some E.1.1) λI=>some true
def axj:=bZ [(false,.int),(false,(.sl .dx))] cy (bR zB) 50 [] [axi] func208
abbrev aiG:=((Int×(aa aN)×af×af×Bool×Int×af)×((Int×Int×Int×Bool×Int×Int×af)×(aa aN)×af))
def L9(x:aiG):ah (aiG⊕(((Int×(aa aN)×af×af×Bool×af)×((Int×Int×Int×Bool×Int×Int×af)×(aa aN)×af))⊕Empty)):=letI C:=x.2.1;letI E:=x.2.2.1;letI D:=x.1.2.1;letI O:=x.1.2.2.2.2;letI I:=O.2.1;letI Y:=xI D I λe7=>bif bE (E.length+([e7]:aa aN).length)then xG ((x.1.1,D,(),(),O.1,(W6 (I+1)),()),(C,(E++([e7]:aa aN)),()))else none;letI u0:=(⟨C.1,C.2.1,C.2.2.1,C.2.2.2.1,C.2.2.2.2.1,C.2.2.2.2.2.1⟩:aN);letI U:=([u0]:aa aN);bif I<(D.length:Int)then bif (!O.1)then xI D I λe2=>(Sb u0 e2).bind λy3=>bif y3 then bif bE (E.length+U.length)then xI D I λe5=>bif bE ((E++U).length+([e5]:aa aN).length)then xG ((x.1.1,D,(),(),true,(W6 (I+1)),()),(C,((E++U)++([e5]:aa aN)),()))else none else none else Y else Y else az ((x.1.1,D,(),(),O.1,()),(C,E,()))
def axk:KY 59 (bf f150):=⟨0,lB 0 ⟨[(0,tI),(1,.lf (.aI .dx 0)),(5,.aE 5 0),(8,.lf (.own 11)),(9,tB),(10,tI)],[(5,.aB FV),(11,.sl .dx 2)],[]⟩ [(2,⟨[(0,tI),(1,.lf (.aI .dx 0)),(5,.aE 5 0),(8,.lf (.own 11)),(9,tB)],[(5,.aB FV),(11,.sl .dx 2)],[]⟩)] L9,lp [aiB]⟩
def Sd(x0:Int)(x1:aa aN)(E:aN):ah ((aa aN)×Bool):=bw L9 ((x0,x1,(),(),false,0,()),((E.id,E.dM,E.line,E.write,E.data,E.at_,()),([]:aa aN),())) λY=>letI C:=Y.1;letI D:=Y.2;letI I:=D.1.2.2;letI O:=bif xZ C.2.1 then some ((xA C.2.1),false)else none;letI U:=([(⟨D.1.1,D.1.2.1,I.1,I.2.1,I.2.2.1,I.2.2.2.1⟩:aN)]:aa aN);bif (!C.2.2.2.2.1)then bif bE (D.2.1.length+U.length)then (zB C.1 C.2.1).bind λfR=>bif (!fR)then O else (zB C.1 (D.2.1++U)).bind λgC=>bif (!gC)then O else some ((D.2.1++U),true)else none else (zB C.1 C.2.1).bind λgU=>bif (!gU)then O else (zB C.1 D.2.1).bind λiH=>bif (!iH)then O else some (D.2.1,true)
def axl:=bZ afG [(false,(.sl .dx),2),(false,.bool,0)] (fP Sd) 59 [axj] [axk] func150
def axm:bF:=⟨[(0,.aE 20000 0),(3,.aE 3 0),(5,.aE 5 0),(6,tI)],[(3,.aB FV),(5,.aB eK)],lJ⟩
def axn:aa (Nat×bF):=[(1,⟨[(4,tB)],[],lJ⟩),(2,⟨[(0,.aE 20000 0),(3,.aE 3 0),(5,.aE 5 0)],[(3,.aB FV),(5,.aB eK)],lJ⟩)]
abbrev aiH:=((af×af×af×Int×af)×(ax×(Int×Int×Int×Bool×Int×Int×af)×(Int×Int×Int×Int×af)×af))
def Ma(x:aiH):ah (aiH⊕(((Bool×af)×(ax×af))⊕(((af×af×af×af)×(ax×(Int×Int×Int×Bool×Int×Int×af)×(Int×Int×Int×Int×af)×af))⊕Empty))):=letI C:=x.1.2.2.2.1;letI D:=(x.2.1,x.2.2.1,x.2.2.2.1,());bif C<(x.2.1.bP.length:Int)then xL x.2.1.bP C λE=>bif (E.id==x.2.2.1.1)then az ((false,()),(x.2.1,()))else xG (((),(),(),(W6 (C+1)),()),D)else bx (((),(),(),()),D)
def axo:KY 65 (bf f80):=⟨0,lB 0 axm axn Ma,lp []⟩
def Se(D:ax)(E:aN):ah ((Bool)×(ax×af)):=bU Ma (((),(),(),0,()),(D,(E.id,E.dM,E.line,E.write,E.data,E.at_,()),(D.config.au.bK,D.config.au.aA,(W6 (D.config.au.rows-D.config.bL)),D.config.au.aK,()),())) (λU=>some (U.1.1,(U.2.1,()))) λY=>letI C:=Y.2.2;letI I:=Y.2.1;(tY (⟨C.2.1.1,C.2.1.2.1,C.2.1.2.2.1,C.2.1.2.2.2.1⟩:aG)).bind λy6=>(Sd y6 I.queue (⟨C.1.1,C.1.2.1,C.1.2.2.1,C.1.2.2.2.1,C.1.2.2.2.2.1,I.now⟩:aN)).bind λO=>bif O.2 then some (O.2,({I with queue:=O.1},()))else some (O.2,(I,()))
def axp:=oM [.p .cK 4 0,.v true .dx] cy (bR Se) 65 [F2,axl] [axo] func80
def Mb(C:jy)(D:Int):ah (jy):=letI E:=some (⟨false,C.low,C.high⟩:jy);(F9 C).bind λI=>bif (!I)then some C else bif D >= C.high then bif D <= C.low then E else some (⟨true,C.low,C.high⟩:jy)else bif D <= C.low then E else some C
def axq:=bB [(true,.qk),(false,.int)] [(true,.qk,0)] (bR Mb) 20 [YD] func153
abbrev aiI:=(((aa aN)×Bool×Int×Int×af)×(af))
def Mc(x:aiI):ah (aiI⊕(((Int×af)×(af))⊕Empty)):=letI C:=x.1.2.2;bif C.2.1<(x.1.1.length:Int)then xI x.1.1 C.2.1 λD=>bif (D.write==x.1.2.1)then xG ((x.1.1,x.1.2.1,(W6 (C.1+1)),(W6 (C.2.1+1)),()),())else xG ((x.1.1,x.1.2.1,C.1,(W6 (C.2.1+1)),()),())else az ((C.1,()),())
def axr:KY 23 (bf f154):=⟨0,lB 0 ⟨[(0,.lf (.aI .dx 0)),(1,tB),(5,tI),(6,tI)],[],[]⟩ [(2,wW)] Mc,lp []⟩
def Md(C:aa aN)(D:Bool):ah (Int):=bw Mc ((C,D,0,0,()),()) λE=>some E.1.1
def axt:=bZ [(false,(.sl .dx)),(false,.bool)] dS (bR Md) 23 [] [axr] func154
def zC(C:fK):ah (Bool):=(cO C.state 0 2).bind λD=>bif D then (cO C.since 0 1000000).bind λE=>bif E then (cO C.idle 0 1000000).bind λI=>some I else some false else some false
def Zx:=bB [(true,.Power)] cy (bN zC) 16 [fQ] func209
def Me(C:fK)(E:Bool):ah (fK):=letI D:=W6 (C.idle+1);(zC C).bind λI=>bif (!I)then some C else bif E then some (⟨C.state,C.since,0⟩:fK)else some (⟨C.state,C.since,(if 1000000<D then 1000000 else D)⟩:fK)
def axu:=bB [(true,.Power),(false,.bool)] [(true,.Power,0)] (bR Me) 17 [Zx] func155
abbrev aiJ:=((af×Int×af)×(((aa Int)×Int×Bool×af)×af))
def Mf(x:aiJ):ah (aiJ⊕(((Bool×af)×(af))⊕(((af×af)×(((aa Int)×Int×Bool×af)×af))⊕Empty))):=bif x.1.2.1<(x.2.1.1.length:Int)then xI x.2.1.1 x.1.2.1 λC=>(cO C (-2) 5).bind λD=>bif (!D)then az ((false,()),())else xG (((),(W6 (x.1.2.1+1)),()),(x.2.1,()))else bx (((),()),(x.2.1,()))
def axv:KY 27 (bf f164):=⟨0,lB 0 ⟨[(1,.aE 1 0),(3,tI)],[(1,.aB Dh)],[]⟩ [(1,qO),(2,afC)] Mf,lp [fQ]⟩
def DU(C:c8):ah (Bool):=bU Mf (((),0,()),((C.aJ,C.wait,C.dX,()),())) (λE=>some E.1.1) λD=>(cO (D.2.1.1.length:Int) 1 8).bind λI=>bif I then (cO D.2.1.2.1 1 10000).bind λO=>some O else some false
def Sf:=bZ F0 cy (bN DU) 27 [fQ] [axv] func164
abbrev aiK:=((af×af×Int×af)×(((aa Int)×Int×Bool×af)×(aa Int)×af))
def Mg(x:aiK):ah (aiK⊕(((af×af)×((aa Int)×af))⊕Empty)):=letI C:=x.2.1;letI E:=az (((),()),(x.2.2.1,()));letI D:=x.1.2.2.1;letI I:=((),(),(W6 (D+1)),());bif D<(C.1.length:Int)then (DU (⟨C.1,C.2.1,C.2.2.1⟩:c8)).bind λO=>bif O then xI C.1 D λU=>bif U >= 4 then bif bE (x.2.2.1.length+([D]:aa Int).length)then xG (I,(C,(x.2.2.1++([D]:aa Int)),()))else none else xG (I,(C,x.2.2.1,()))else E else E
def axw:KY 28 (bf f210):=⟨0,lB 0 ⟨afQ,[(1,.aB Dh),(5,.sl .int 2)],[]⟩ [(2,Yh)] Mg,lp [Sf]⟩
def Mh(C:c8):ah ((aa Int)):=bw Mg (((),(),0,()),((C.aJ,C.wait,C.dX,()),([]:aa Int),())) λD=>some D.2.1
def aiL:=bZ F0 mL (bN Mh) 28 [] [axw] func210
def DV(C:ax):ah (Bool):=bif (C.queue.length:Int) > 0 then some true else bif (C.pending.length:Int) > 0 then some true else (Mh C.aS).bind λD=>some ((D.length:Int) > 0)
def Zy:jQ:=ir [(false,.mW)] [(false,.bool,0)] (λx=>DV x.1)
def aiM:enters Tryz.prog 156/\jl Tryz.prog 156 Zy:=kp 26 [aiL] func156
def Mi(C:iK):ah (iK):=(A8 C.cr).bind λD=>(A8 C.next).bind λE=>some (⟨D,E,C.waits⟩:iK)
def Zz:=bB [(true,.pq)] [(true,.pq,2)] (bN Mi) 12 [QU] func88
def Mj(C:iK)(E:Bool):ah (iK×Bool):=(Mi C).bind λD=>bif (!E)then some (D,false)else bif (!C.waits)then some (D,false)else (A8 C.next).bind λI=>some ((⟨I,D.next,false⟩:iK),true)
def axx:=bB [(true,.pq),(false,.bool)] FW (bR Mj) 23 [QU,Zz] func157
def DW(C:lZ)(E:Int):ah (lZ×Int):=letI D:=some (C,(-1));(cO C.every 1 100000).bind λI=>bif (!I)then D else (cO C.wait 1 C.every).bind λO=>bif (!O)then D else bif E<1 then D else bif C.next<0 then D else bif C.next >= E then D else bif (W6 (C.wait-1)) > 0 then some ((⟨C.next,C.every,(W6 (C.wait-1))⟩:lZ),(-1))else if E=0 then none else some ((⟨((W6 (C.next+1)).tmod E),C.every,C.every⟩:lZ),C.next)
def axy:=bB [(true,.sx),(false,.int)] [(true,.sx,0),(false,.int,0)] (bR DW) 55 [fQ] func158
def Bz(C:Int):ah (Bool):=(cO C 0 15).bind λD=>some D
def Sh:=bB mb cy (bN Bz) 5 [fQ] func83
abbrev aiN:=(((aa Int)×Int×Int×af)×(af))
def BA(x:aiN):ah (aiN⊕(((Bool×af)×(af))⊕((((aa Int)×Int×af)×(af))⊕Empty))):=bif x.1.2.2.1<(x.1.1.length:Int)then xI x.1.1 x.1.2.2.1 λC=>(Bz C).bind λD=>bif (!D)then az ((false,()),())else xG ((x.1.1,x.1.2.1,(W6 (x.1.2.2.1+1)),()),())else bx ((x.1.1,x.1.2.1,()),())
def axz:KY 22 (bf f312):=⟨0,lB 0 afn [(1,mc),(2,afv)] BA,lp [Sh]⟩
def xo(D:aa Int)(E:Int):ah (Bool):=bU BA ((D,E,0,()),()) (λI=>some I.1.1) λC=>some ((C.1.1.length:Int)==C.1.2.1)
def Mk:=bZ FU cy (bR xo) 22 [] [axz] func312
end Go.Proofs.YtdfkhfiglknaoaaGreat
