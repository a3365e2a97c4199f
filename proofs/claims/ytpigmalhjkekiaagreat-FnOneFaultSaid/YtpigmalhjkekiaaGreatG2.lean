/-
  Functions of the program as plain functions of contents, and that the code computes them. Nothing here is a claim.
-/
import Derived.Test.YtpigmalhjkekiaaGreatVZ
import Derived.Test.YtpigmalhjkekiaaGreatRows
import Derived.Test.YtpigmalhjkekiaaGreatG1
namespace Go.Proofs.YtpigmalhjkekiaaGreat
open Go.RowKit Go.Proofs.Tryz
set_option linter.unusedVariables false
set_option maxRecDepth 100000
def A3(C:eo)(D:cR):aj (Bool):=letI E:=W6 (C.bQ.ji+C.bQ.rp);(Oc C).bind λI=>bif (!I)then some false else (I5 D).bind λO=>bif (!O)then some false else (Oe D.dn).bind λT=>bif (W6 (T+2)) <= C.di.aY then if E=0 then none else some ((W6 ((W6 (C.gV+1))*D.dn)) > (W6 ((W6 ((W6 (5*C.interval)).tdiv E))+2)))else some false
def adN:=bD NP cG (cF A3) 42 [aoe,adM,aoi] func52
def Of(D:aF):aj (cg):=(mF D).bind λC=>if 0 <= C/\C <= C/\C<1073741824 then some (⟨(List.replicate C.toNat (⟨false,0⟩:gN)),0⟩:cg)else none
def aoj:=bD ua [(true,.kV,2)] (bP Of) 7 [oV] func53
abbrev adO:=((Int×ah×Int×ah)×((aa Int)×ah))
def I6(x:adO):aj (adO⊕(((ah×ah)×((aa Int)×ah))⊕Empty)):=letI C:=x.1.2.2.1;bif C<x.1.1 then xL x.2.1 C λD=>xG ((x.1.1,(),(W6 (C+1)),()),((x.2.1.set C.toNat (-1:Int)),()))else aE (((),()),(x.2.1,()))
def aok:KY 16 (bx f130):=⟨0,lB 0 ⟨[(0,tI),(3,.lf (.own 6)),(4,tI)],[(6,.sl .int 2)],[]⟩ [(2,ac8)] I6,lp []⟩
def I7(C:Int):aj ((aa Int)):=if 0 <= C/\C <= C/\C<1073741824 then bR I6 ((C,(),0,()),((List.replicate C.toNat (0:Int)),())) λD=>some D.2.1 else none
def adP:=cM ny vB (bP I7) 16 [] [aok] func130
def Og(C:aF):aj (ef):=(vC C).bind λD=>bif (!D)then some (⟨[],[]⟩:ef)else (mF C).bind λE=>(I7 (W6 (9*(W6 (E+1))))).bind λI=>some (⟨I,[]⟩:ef)
def aol:=bD ua [(true,.oE,2)] (bP Og) 13 [A0,oV,adP] func54
def aom:bG:=⟨[(1,.aG 1 0),(2,.aG 2 0),(3,.aG 3 0),(4,tI)],acJ,[]⟩
def aon:aa (Nat×bG):=[(2,⟨adn,acJ,[]⟩)]
abbrev adQ:=((ah×ah×ah×Int×ah)×((Int×Int×Int×Int×ah)×(ah×ah×ah×ah)×(ah×ah×ah×ah)×(aa bO)×(aa Int)×(aa Int)×(aa bO)×(aa Int)×(aa Int)×ah))
def I8(x:adQ):aj (adQ⊕(((ah×ah×ah×ah)×((Int×Int×Int×Int×ah)×(ah×ah×ah×ah)×(ah×ah×ah×ah)×(aa bO)×(aa Int)×(aa Int)×(aa bO)×(aa Int)×(aa Int)×ah))⊕Empty)):=letI u4:=(11:Int);letI u2:=(⟨(List.replicate u4.toNat (0:Int)),false⟩:bO);letI u1:=((),(),(),());letI C:=x.2.2.2.2.2;letI u3:=C.2.2;(vD (⟨x.2.1.1,x.2.1.2.1,x.2.1.2.2.1,x.2.1.2.2.2.1⟩:aF)).bind λD=>bif x.1.2.2.2.1<D then if 0 <= u4/\u4 <= 11/\u4<1073741824 then bif bX (u3.1.length+[u2].length)then xG (((),(),(),(W6 (x.1.2.2.2.1+1)),()),(x.2.1,u1,u1,x.2.2.2.2.1,C.1,C.2.1,(u3.1++[u2]),u3.2.1,u3.2.2.1,()))else none else none else aE (u1,(x.2.1,u1,u1,x.2.2.2.2.1,C.1,C.2.1,u3.1,u3.2.1,u3.2.2.1,()))
def aoo:KY 39 (bx f55):=⟨0,lB 0 aom aon I8,lp [C0]⟩
def Oh(C:aF):aj (cL):=letI u2:=(0:Int);bR I8 (((),(),(),0,()),((C.cm,C.aI,C.rows,C.aQ,()),((),(),(),()),((),(),(),()),([]:aa bO),([]:aa Int),([]:aa Int),([]:aa bO),([]:aa Int),([]:aa Int),())) λD=>letI u4:=D.2.1.2;letI u3:=(⟨D.2.1.1,u4.1,u4.2.1,u4.2.2.1⟩:aF);letI E:=if 0 <= u2/\u2 <= 0/\u2<1073741824 then if 0 <= u2/\u2 <= 0/\u2<1073741824 then some (⟨D.2.2.2.2.2.2.2.1,(List.replicate u2.toNat u2),(List.replicate u2.toNat u2)⟩:cL)else none else none;(mF u3).bind λI=>letI u1:=W6 (I*u4.2.1);bif u1<0 then E else (vC u3).bind λO=>bif (!O)then E else if 0 <= u1/\u1 <= u1/\u1<1073741824 then if 0 <= u1/\u1 <= u1/\u1<1073741824 then some (⟨D.2.2.2.2.2.2.2.1,(List.replicate u1.toNat u2),(List.replicate u1.toNat u2)⟩:cL)else none else none
def aop:=cM ua [(true,.Array,4)] (bP Oh) 39 [A0,oV] [aoo] func55
def Oi(C:cR):aj (cR):=bif xZ C.weights then some (⟨C.eK,C.cap,C.dn,C.low,C.high,(xA C.weights),C.cZ⟩:cR)else none
def aoq:=bD EY [(true,.nT,2)] (bP Oi) 9 [] func131
def Oj(C:cR):aj (jE×Bool):=(I5 C).bind λD=>bif (!D)then some ((⟨⟨0,0,0,0,0,[],⟨0,0⟩⟩,⟨0,0,0,0,0,[],⟨0,0⟩⟩,false⟩:jE),false)else (Oi C).bind λE=>(Oi C).bind λI=>some ((⟨E,I,false⟩:jE),true)
def aor:=bD EY NM (bP Oj) 13 [adM,aoq] func56
def Ok(C D:Int):aj (dI×Bool):=letI E:=some ((⟨[],0,false⟩:dI),false);(dD C 1 8).bind λI=>bif (!I)then E else (dD D 2 10000).bind λO=>bif (!O)then E else if 0 <= C/\C <= C/\C<1073741824 then some ((⟨(List.replicate C.toNat (0:Int)),D,false⟩:dI),true)else none
def aos:=bD II [(true,.kW,2),(false,.bool,0)] (cF Ok) 19 [gO] func58
def VS(C:Int):aj (cI×Bool):=(dD C 1 16).bind λD=>bif (!D)then some ((⟨[],[],0⟩:cI),false)else (I7 C).bind λE=>if 0 <= C/\C <= C/\C<1073741824 then some ((⟨E,(List.replicate C.toNat (0:Int)),0⟩:cI),true)else none
def aot:=bD ny [(true,.mh,2),(false,.bool,0)] (bP VS) 13 [gO,adP] func59
def VT(C:Int):aj (qT×Bool):=(dD C 1 100000).bind λD=>bif (!D)then some ((⟨0,0,0⟩:qT),false)else some ((⟨0,C,C⟩:qT),true)
def aou:=bD ny [(true,.uL,0),(false,.bool,0)] (bP VT) 11 [gO] func61
def aov:bG:=⟨[(2,.aG 2 0),(3,.aG 3 0),(4,.aG 4 0),(6,.aG 6 0),(7,tI),(8,tI)],[(2,.st .Config),(3,.az zc)],zz6⟩
def aow:aa (Nat×bG):=[(2,⟨[(3,.aG 3 0),(4,.aG 4 0),(6,.aG 6 0)],[(3,.az zc)],zz6⟩)]
abbrev adR:=((ah×ah×ah×ah×Int×Int×ah)×(ax×ax×eo×(Int×Int×Int×Int×Int×(aa Int)×Int×Int×ah)×ah))
def E4(x:adR):aj (adR⊕(((ah×ah×ah×ah)×(ax×ax×(Int×Int×Int×Int×Int×(aa Int)×Int×Int×ah)×ah))⊕Empty)):=letI u2:=x.2.2.2.2.1;letI u3:=([u2.2.2.1]:aa Int);letI u1:=x.1.2.2.2.2;letI C:=x.2.2.1;bif u1.2.1<u1.1 then (VS x.2.2.2.1.gV).bind λD=>bif bX (C.bA.length+[D.1].length)then bif bX (C.guard.length+u3.length)then xG (((),(),(),(),u1.1,(W6 (u1.2.1+1)),()),(x.2.1,{C with bA:=(C.bA++[D.1]),guard:=(C.guard++u3)},x.2.2.2.1,u2,()))else none else none else aE (((),(),(),()),(x.2.1,C,u2,()))
def aox:KY 95 (bx f15):=⟨0,lB 0 aov aow E4,lp [aot]⟩
def Ol(D:eo)(C:cR):aj (ax×Bool):=(A3 D C).bind λO=>bif (!O)then some ((⟨⟨⟨0,0,0,0⟩,⟨0,0,0,0,0,0,0,0,0,0,0,0,0,0,0,0,0⟩,⟨0,false⟩,0,0,0,⟨0,0⟩⟩,⟨⟨0,0,0,0,0,[],⟨0,0⟩⟩,⟨0,0,0,0,0,[],⟨0,0⟩⟩,false⟩,0,⟨[],0⟩,⟨[],[]⟩,⟨[],[],[]⟩,⟨0,[]⟩,⟨[],0,false⟩,[],[],[],[],[],⟨false,0,0⟩,⟨0,0,0⟩,⟨0,0,0⟩,[],[],[]⟩:ax),false)else (Of D.ak).bind λT=>(Og D.ak).bind λU=>(Oh D.ak).bind λY=>(mF D.ak).bind λE=>(Oj C).bind λZ=>(E0 D.ak D.bL).bind λy7=>(Ok E D.interval).bind λy8=>bR E4 (((),(),(),(),E,0,()),((⟨⟨⟨0,0,0,0⟩,⟨0,0,0,0,0,0,0,0,0,0,0,0,0,0,0,0,0⟩,⟨0,false⟩,0,0,0,⟨0,0⟩⟩,⟨⟨0,0,0,0,0,([]:aa Int),⟨0,0⟩⟩,⟨0,0,0,0,0,([]:aa Int),⟨0,0⟩⟩,false⟩,0,⟨([]:aa gN),0⟩,⟨([]:aa Int),([]:aa Int)⟩,⟨([]:aa bO),([]:aa Int),([]:aa Int)⟩,⟨0,([]:aa Int)⟩,⟨([]:aa Int),0,false⟩,([]:aa cI),([]:aa Int),([]:aa aO),([]:aa aU),([]:aa cQ),⟨false,0,0⟩,⟨0,0,0⟩,⟨0,0,0⟩,([]:aa cr),([]:aa dO),([]:aa ey)⟩:ax),(⟨D,Z.1,0,T,U,Y,y7.1,y8.1,([]:aa cI),([]:aa Int),([]:aa aO),([]:aa aU),([]:aa cQ),⟨false,C.low,C.high⟩,⟨0,0,0⟩,⟨0,0,0⟩,([]:aa cr),([]:aa dO),([]:aa ey)⟩:ax),D,(C.eK,C.cap,C.dn,C.low,C.high,C.weights,C.cZ.down,C.cZ.sleep,()),())) λI=>letI u0:=I.2.2.1;(I3 I.2.2.2.1.2.2.2.2.2.1).bind λjX=>(VT 10).bind λoW=>some ({u0 with shares:=jX.1,dJ:=oW.1},true)
def aoy:=cM NP IF (cF Ol) 95 [oV,adN,aoj,aol,aop,aor,VP,aos,adK,aou] [aox] func15
abbrev adS:=((ah×ah×Int×ah)×((Int×Int×Int×Int×ah)×((aa gN)×Int×ah)×ah))
def I9(x:adS):aj (adS⊕(((Bool×ah)×(ah))⊕(((ah)×(ah))⊕Empty))):=letI u2:=aE ((false,()),());letI u1:=xG (((),(),(W6 (x.1.2.2.1+1)),()),(x.2.1,x.2.2.1,()));bif x.1.2.2.1<(x.2.2.1.1.length:Int)then xI x.2.2.1.1 x.1.2.2.1 λC=>letI D:=bif C.open_ then bif (x.2.2.1.2.1==2)then u2 else u1 else u1;(dD C.row 0 (W6 (x.2.1.2.2.1-1))).bind λE=>bif (!E)then u2 else bif (!C.open_)then bif (C.row != 0)then u2 else D else D else bk ((),())
def aoz:KY 62 (bx f133):=⟨0,lB 0 ⟨[(2,.aG 2 0),(3,.aG 3 0),(5,tI)],[(2,.az ia),(3,.az NL)],[]⟩ [(1,lV),(2,iW)] I9,lp [gO]⟩
def Om(C:aF)(D:cg):aj (Bool):=(vC C).bind λE=>bif (!E)then some false else (mF C).bind λI=>bif ((D.aI.length:Int) != I)then some false else (dD D.aR 0 2).bind λO=>bif (!O)then some false else bY I9 (((),(),0,()),((C.cm,C.aI,C.rows,C.aQ,()),(D.aI,D.aR,()),())) (λT=>some T.1.1) λU=>some true
def aoA:=cM [(true,.gf),(true,.kV)] cG (cF Om) 62 [A0,oV,gO] [aoz] func133
def On(D:aF)(C:Int):aj (Bool):=(mF D).bind λE=>some ((decide ((W6 ((C.tmod 9)+1)) <= 5))==(decide ((W6 (C.tdiv 9))<E)))
def aoB:=bD IG cG (cF On) 15 [oV] func188
abbrev adT:=((ah×ah×Int×ah)×((Int×Int×Int×Int×ah)×((aa Int)×(aa Int)×ah)×ah))
def Ja(x:adT):aj (adT⊕(((Bool×ah)×(ah))⊕(((ah×ah)×(((aa Int)×(aa Int)×ah)×ah))⊕Empty))):=letI u2:=x.2.2.1;letI u1:=x.1.2.2.1;letI C:=xG (((),(),(W6 (u1+1)),()),(x.2.1,u2,()));bif u1<(u2.1.length:Int)then xI u2.1 u1 λD=>(dD D (-1) 1000000).bind λE=>bif (!E)then aE ((false,()),())else (On (⟨x.2.1.1,x.2.1.2.1,x.2.1.2.2.1,x.2.1.2.2.2.1⟩:aF) u1).bind λI=>bif (!I)then xI u2.1 u1 λO=>bif (O != (-1))then aE ((false,()),())else C else C else bk (((),()),(u2,()))
def aoC:KY 86 (bx f134):=⟨0,lB 0 ⟨[(2,.aG 2 0),(3,.aG 3 0),(5,tI)],[(2,.az ia),(3,.az CX)],[]⟩ [(1,lV),(2,ade)] Ja,lp [gO,aoB]⟩
abbrev adU:=((ah×Int×ah)×(((aa Int)×(aa Int)×ah)×ah))
def Jb(x:adU):aj (adU⊕(((Bool×ah)×(ah))⊕(((ah)×(ah))⊕Empty))):=letI u2:=x.2.1.2.1;letI u1:=x.1.2.1;letI C:=xG (((),(W6 (u1+1)),()),(x.2.1,()));bif u1<(u2.length:Int)then xI u2 u1 λD=>(dD D 0 1000000).bind λE=>bif (!E)then aE ((false,()),())else bif u1 > 0 then xI u2 (W6 (u1-1)) λI=>xI u2 u1 λO=>bif I >= O then aE ((false,()),())else C else C else bk ((),())
def aoD:KY 86 (bx f134):=⟨2,lB 2 ⟨[(3,.aG 3 0),(6,tI)],[(3,.az CX)],[]⟩ [(1,lV),(4,iW)] Jb,lp [gO]⟩
def Oo(C:aF)(D:ef):aj (Bool):=(vC C).bind λE=>bif (!E)then some false else (mF C).bind λI=>bif ((D.last.length:Int) != (W6 (9*(W6 (I+1)))))then some false else bif (D.bg.length:Int) > 4 then some false else bY Ja (((),(),0,()),((C.cm,C.aI,C.rows,C.aQ,()),(D.last,D.bg,()),())) (λO=>some O.1.1) λT=>bY Jb (((),0,()),(T.2.1,())) (λU=>some U.1.1) λY=>some true
def aoE:=cM [(true,.gf),(true,.oE)] cG (cF Oo) 86 [A0,oV] [aoC,aoD] func134
def VU(C:Int):aj (Bool):=(dD C 0 15).bind λD=>some D
def aoF:=bD ny cG (bP VU) 5 [gO] func237
abbrev adV:=(((aa Int)×Int×Int×ah)×(ah))
def Jc(x:adV):aj (adV⊕(((Bool×ah)×(ah))⊕((((aa Int)×Int×ah)×(ah))⊕Empty))):=bif x.1.2.2.1<(x.1.1.length:Int)then xI x.1.1 x.1.2.2.1 λC=>(VU C).bind λD=>bif (!D)then aE ((false,()),())else xG ((x.1.1,x.1.2.1,(W6 (x.1.2.2.1+1)),()),())else bk ((x.1.1,x.1.2.1,()),())
def aoG:KY 22 (bx f189):=⟨0,lB 0 ac4 [(1,lV),(2,ada)] Jc,lp [aoF]⟩
def Oq(D:aa Int)(E:Int):aj (Bool):=bY Jc ((D,E,0,()),()) (λI=>some I.1.1) λC=>some ((C.1.1.length:Int)==C.1.2.1)
def aoH:=cM EX cG (cF Oq) 22 [] [aoG] func189
abbrev adW:=((ah×Int×ah)×(((aa bO)×(aa Int)×(aa Int)×ah)×ah))
def Jd(x:adW):aj (adW⊕(((Bool×ah)×(ah))⊕(((ah×ah)×(((aa bO)×(aa Int)×(aa Int)×ah)×ah))⊕Empty))):=bif x.1.2.1<(x.2.1.1.length:Int)then xI x.2.1.1 x.1.2.1 λC=>(Oq C.symbols 11).bind λD=>bif (!D)then aE ((false,()),())else xG (((),(W6 (x.1.2.1+1)),()),(x.2.1,()))else bk (((),()),(x.2.1,()))
def aoI:KY 76 (bx f135):=⟨0,lB 0 ⟨[(3,.aG 3 0),(5,tI)],ID,[]⟩ [(1,lV),(2,ado)] Jd,lp [aoH]⟩
abbrev adX:=((ah×Int×ah)×(((aa bO)×(aa Int)×(aa Int)×ah)×ah))
def Je(x:adX):aj (adX⊕(((Bool×ah)×(ah))⊕(((ah)×(ah))⊕Empty))):=bif x.1.2.1<(x.2.1.2.1.length:Int)then xI x.2.1.2.1 x.1.2.1 λC=>(dD C 0 100000).bind λD=>bif (!D)then aE ((false,()),())else xI x.2.1.2.2.1 x.1.2.1 λE=>(dD E 0 100000).bind λI=>bif (!I)then aE ((false,()),())else xG (((),(W6 (x.1.2.1+1)),()),(x.2.1,()))else bk ((),())
def aoJ:KY 76 (bx f135):=⟨2,lB 2 ⟨[(3,.aG 3 0),(6,tI)],ID,[]⟩ [(1,lV),(4,iW)] Je,lp [gO]⟩
def Ot(D:aF)(C:cL):aj (Bool):=(vC D).bind λE=>bif (!E)then some false else (vD D).bind λI=>bif ((C.cells.length:Int) != I)then some false else (mF D).bind λO=>bif ((C.bh.length:Int) != (W6 (O*D.rows)))then some false else bif ((C.aY.length:Int) != (C.bh.length:Int))then some false else bY Jd (((),0,()),((C.cells,C.bh,C.aY,()),())) (λT=>some T.1.1) λU=>bY Je (((),0,()),(U.2.1,())) (λY=>some Y.1.1) λZ=>some true
def aoK:=cM [(true,.gf),(true,.Array)] cG (cF Ot) 76 [C0,A0,oV] [aoI,aoJ] func135
abbrev adY:=((ah×Int×ah)×(((aa Int)×Int×Bool×ah)×ah))
def Jf(x:adY):aj (adY⊕(((Bool×ah)×(ah))⊕(((ah×ah)×(((aa Int)×Int×Bool×ah)×ah))⊕Empty))):=bif x.1.2.1<(x.2.1.1.length:Int)then xI x.2.1.1 x.1.2.1 λC=>(dD C (-2) 5).bind λD=>bif (!D)then aE ((false,()),())else xG (((),(W6 (x.1.2.1+1)),()),(x.2.1,()))else bk (((),()),(x.2.1,()))
def aoL:KY 27 (bx f136):=⟨0,lB 0 ⟨[(1,.aG 1 0),(3,tI)],[(1,.az IE)],[]⟩ [(1,oU),(2,adf)] Jf,lp [gO]⟩
def Ou(C:dI):aj (Bool):=bY Jf (((),0,()),((C.aB,C.wait,C.dP,()),())) (λE=>some E.1.1) λD=>(dD (D.2.1.1.length:Int) 1 8).bind λI=>bif I then (dD D.2.1.2.1 1 10000).bind λO=>some O else some false
def aoM:=cM [(true,.kW)] cG (bP Ou) 27 [gO] [aoL] func136
def E5(C:aF)(D:aO):aj (Bool):=(mF C).bind λE=>(dD D.ay 0 (W6 (E-1))).bind λI=>bif I then (dD D.row 0 (W6 (C.rows-1))).bind λO=>bif O then (dD D.bZ 0 (W6 (C.aQ-1))).bind λT=>some T else some false else some false
def adZ:=bD NQ cG (cF E5) 27 [oV,gO] func66
abbrev ad0:=((ah×Int×Int×ah)×(((aa Int)×(aa Int)×Int×ah)×ah))
def E6(x:ad0):aj (ad0⊕(((Bool×ah)×(ah))⊕(((ah×Int×ah)×(((aa Int)×(aa Int)×Int×ah)×ah))⊕Empty))):=letI u1:=x.1.2;letI C:=xG (((),u1.1,(W6 (u1.2.1+1)),()),(x.2.1,()));bif u1.2.1<u1.1 then xI x.2.1.1 u1.1 λD=>bif D >= 0 then xI x.2.1.1 u1.2.1 λE=>xI x.2.1.1 u1.1 λI=>bif (E==I)then aE ((false,()),())else C else C else bk (((),u1.1,()),(x.2.1,()))
def ad1:KY 90 (zb (bx f190) 0):=⟨2,lB 2 ⟨[(1,.aG 1 0),(3,tI),(4,tI)],VB,[]⟩ [(1,oU),(4,adg)] E6,lp []⟩
abbrev ad2:=((ah×Int×ah)×(((aa Int)×(aa Int)×Int×ah)×ah))
def Jg(x:ad2):aj (ad2⊕(((Bool×ah)×(ah))⊕(((ah)×(ah))⊕Empty))):=letI u3:=x.2.1;letI u2:=x.1.2.1;letI u1:=aE ((false,()),());letI C:=bY E6 (((),u2,0,()),(u3,())) (λE=>aE ((E.1.1,()),())) λD=>xG (((),(W6 (D.1.2.1+1)),()),(D.2.1,()));bif u2<(u3.1.length:Int)then xI u3.1 u2 λI=>(dD I (-1) 15).bind λO=>bif (!O)then u1 else xI u3.2.1 u2 λT=>(dD T u3.2.2.1 100000).bind λU=>bif (!U)then u1 else xI u3.1 u2 λY=>bif Y<0 then xI u3.2.1 u2 λZ=>bif (Z != 0)then u1 else C else C else bk ((),())
def aoN:KY 90 (bx f190):=⟨0,lB 0 adg [(1,oU),(2,iW)] Jg,lq [gO] [ad1,ad1]⟩
def Jh(C:cI):aj (Bool):=(dD (C.rows.length:Int) 1 16).bind λD=>bif (!D)then some false else bif ((C.rows.length:Int) != (C.counts.length:Int))then some false else (dD C.eJ 0 100000).bind λE=>bif (!E)then some false else bY Jg (((),0,()),((C.rows,C.counts,C.eJ,()),())) (λI=>some I.1.1) λO=>some true
def aoO:=cM [(true,.mh)] cG (bP Jh) 90 [gO] [aoN] func190
abbrev ad3:=(((aa aO)×ah×Int×ah)×((Int×Int×Int×ah)×ah))
def Ji(x:ad3):aj (ad3⊕(((Int×ah)×(ah))⊕(((ah)×(ah))⊕Empty))):=letI C:=x.1.2.2.1;bif C<(x.1.1.length:Int)then xI x.1.1 C λD=>bif ((D.ay==x.2.1.1)&&((D.row==x.2.1.2.1)&&((D.bZ==x.2.1.2.2.1)&&true)))then aE ((C,()),())else xG ((x.1.1,(),(W6 (C+1)),()),(x.2.1,()))else bk ((),())
def aoP:KY 19 (bx f191):=⟨0,lB 0 ⟨[(0,.lf (.aH .Addr 0)),(3,.aG 3 0),(5,tI)],[(3,.az VD)],[]⟩ [(1,zd),(2,iW)] Ji,lp []⟩
def Jj(D:aa aO)(C:aO):aj (Int):=bY Ji ((D,(),0,()),((C.ay,C.row,C.bZ,()),())) (λE=>some E.1.1) λI=>some (-1)
def aoQ:=cM VE fV (cF Jj) 19 [] [aoP] func191
abbrev ad4:=((ah×Int×Int×ah)×(ax×ah))
def Ov(x:ad4):aj (ad4⊕(((Bool×ah)×(ah))⊕(((ah×ah)×(ax×ah))⊕Empty))):=letI C:=x.1.2.2.1;bif C<x.1.2.1 then xI x.2.1.bA C λD=>(Jh D).bind λE=>bif (!E)then aE ((false,()),())else xI x.2.1.guard C λI=>(dD I 3 1000).bind λO=>bif (!O)then aE ((false,()),())else xG (((),x.1.2.1,(W6 (C+1)),()),(x.2.1,()))else bk (((),()),(x.2.1,()))
def aoR:KY 89 (bx f137):=⟨0,lB 0 ⟨[(1,.aG 1 0),(3,tI),(4,tI)],[(1,.st .dV)],[]⟩ [(1,oU),(2,⟨[(1,.aG 1 0)],[(1,.st .dV)],[]⟩)] Ov,lp [gO,aoO]⟩
abbrev ad5:=((ah×Int×ah)×(ax×ah))
def Ow(x:ad5):aj (ad5⊕(((Bool×ah)×(ah))⊕(((ah)×(ah))⊕Empty))):=letI C:=aE ((false,()),());bif x.1.2.1<(x.2.1.pending.length:Int)then xI x.2.1.pending x.1.2.1 λD=>(E5 x.2.1.config.ak D).bind λE=>bif (!E)then C else bif (D.bZ != 0)then C else (Jj x.2.1.pending D).bind λI=>bif (I != x.1.2.1)then C else xG (((),(W6 (x.1.2.1+1)),()),(x.2.1,()))else bk ((),())
def aoS:KY 89 (bx f137):=⟨2,lB 2 ⟨[(1,.aG 1 0),(5,tI)],[(1,.st .dV)],[]⟩ [(1,oU),(4,iW)] Ow,lp [adZ,aoQ]⟩
def Ox(C:ax):aj (Bool):=(mF C.config.ak).bind λD=>bif ((C.aD.aB.length:Int) != D)then some false else bif ((C.bA.length:Int) != D)then some false else bif ((C.guard.length:Int) != D)then some false else bif (C.pending.length:Int) > 128 then some false else bY Ov (((),D,0,()),(C,())) (λE=>some E.1.1) λI=>bY Ow (((),0,()),(I.2.1,())) (λO=>some O.1.1) λT=>some true
def aoT:=cM wQ cG (bP Ox) 89 [oV] [aoR,aoS] func137
def VV(C:Int):aj (Bool):=(dD C 0 4294967295).bind λD=>some D
def aoU:=bD ny cG (bP VV) 5 [gO] func238
def Oy(E:Int)(C:aU):aj (Bool):=letI D:=(dD C.at_ 0 1000000).bind λI=>some I;(dD C.id 1 100000).bind λO=>bif O then (dD C.eG 0 3).bind λT=>bif T then bif C.line >= 0 then bif C.line<E then (VV C.data).bind λU=>bif U then bif C.write then D else bif (C.data==0)then D else some false else some false else some false else some false else some false else some false
def aoV:=bD [(false,.int),(true,.ez)] cG (cF Oy) 43 [gO,aoU] func192
def VW(C D:aU):aj (Bool):=bif C.at_<D.at_ then some true else bif (C.at_==D.at_)then some (C.id<D.id)else some false
def aoW:=bD [(true,.ez),(true,.ez)] cG (cF VW) 24 [] func193
abbrev ad6:=(((aa aU)×Int×Int×ah)×(ah))
def Jk(x:ad6):aj (ad6⊕(((Int×ah)×(ah))⊕(((ah)×(ah))⊕Empty))):=letI C:=x.1.2.2.1;bif C<(x.1.1.length:Int)then xI x.1.1 C λD=>bif (D.id==x.1.2.1)then aE ((C,()),())else xG ((x.1.1,x.1.2.1,(W6 (C+1)),()),())else bk ((),())
def aoX:KY 20 (bx f194):=⟨0,lB 0 ⟨[(0,.lf (.aH .ez 0)),(1,tI),(5,tI)],[],[]⟩ [(1,zd),(2,iW)] Jk,lp []⟩
def Oz(C:aa aU)(D:Int):aj (Int):=bY Jk ((C,D,0,()),()) (λE=>some E.1.1) λI=>some (-1)
def aoY:=cM [(false,(.sl .ez)),(false,.int)] fV (cF Oz) 20 [] [aoX] func194
abbrev ad7:=((Int×(aa aU)×Int×ah)×(ah))
def Jl(x:ad7):aj (ad7⊕(((Bool×ah)×(ah))⊕(((ah)×(ah))⊕Empty))):=letI u3:=aE ((false,()),());letI u2:=x.1.2.1;letI u1:=x.1.2.2.1;letI C:=xI u2 u1 λD=>(Oz u2 D.id).bind λE=>bif (E != u1)then u3 else xG ((x.1.1,u2,(W6 (u1+1)),()),());bif u1<(u2.length:Int)then xI u2 u1 λI=>(Oy x.1.1 I).bind λO=>bif (!O)then u3 else bif u1 > 0 then xI u2 (W6 (u1-1)) λT=>xI u2 u1 λU=>(VW T U).bind λY=>bif (!Y)then u3 else C else C else bk ((),())
def aoZ:KY 50 (bx f138):=⟨0,lB 0 ⟨[(0,tI),(1,.lf (.aH .ez 0)),(5,tI)],[],[]⟩ [(1,lV),(2,iW)] Jl,lp [aoV,aoW,aoY]⟩
def OA(D:Int)(C:aa aU):aj (Bool):=bif (C.length:Int) > 12 then some false else bY Jl ((D,C,0,()),()) (λE=>some E.1.1) λI=>some true
def ao0:=cM [(false,.int),(false,(.sl .ez))] cG (cF OA) 50 [] [aoZ] func138
def OB(C:iF):aj (Bool):=(dD C.state 0 2).bind λD=>bif D then (dD C.since 0 1000000).bind λE=>bif E then (dD C.idle 0 1000000).bind λI=>some I else some false else some false
def ao1:=bD [(true,.Power)] cG (bP OB) 16 [gO] func140
def VX(C:cr):aj (Bool):=letI D:=(dD C.times 1 999).bind λE=>some E;(dD C.line 0 1023).bind λI=>bif I then bif (C.code==1)then D else bif (C.code==2)then D else some false else some false
def ao2:=bD [(true,.iG)] cG (bP VX) 21 [gO] func195
abbrev ad8:=(((aa cr)×Int×Int×Int×ah)×(ah))
def Jm(x:ad8):aj (ad8⊕(((Int×ah)×(ah))⊕(((ah)×(ah))⊕Empty))):=letI u1:=x.1.2.2.2.1;letI C:=xG ((x.1.1,x.1.2.1,x.1.2.2.1,(W6 (u1+1)),()),());bif u1<(x.1.1.length:Int)then xI x.1.1 u1 λD=>bif (D.line==x.1.2.1)then xI x.1.1 u1 λE=>bif (E.code==x.1.2.2.1)then aE ((u1,()),())else C else C else bk ((),())
def ao3:KY 31 (bx f196):=⟨0,lB 0 ⟨[(0,.lf (.aH .iG 0)),(1,tI),(2,tI),(7,tI)],[],[]⟩ [(1,VG),(2,iW)] Jm,lp []⟩
def OC(C:aa cr)(D E:Int):aj (Int):=bY Jm ((C,D,E,0,()),()) (λI=>some I.1.1) λO=>some (-1)
def ao4:=cM adi fV (iV OC) 31 [] [ao3] func196
abbrev ad9:=(((aa cr)×Int×ah)×(ah))
def Jn(x:ad9):aj (ad9⊕(((Bool×ah)×(ah))⊕(((ah)×(ah))⊕Empty))):=letI C:=x.1.2.1;bif C<(x.1.1.length:Int)then xI x.1.1 C λD=>(VX D).bind λE=>bif (!E)then aE ((false,()),())else xI x.1.1 C λI=>xI x.1.1 C λO=>(OC x.1.1 I.line O.code).bind λT=>bif (T != C)then aE ((false,()),())else xG ((x.1.1,(W6 (C+1)),()),())else bk ((),())
def ao5:KY 35 (bx f141):=⟨0,lB 0 ⟨[(0,.lf (.aH .iG 0)),(3,tI)],[],[]⟩ [(1,oU),(2,iW)] Jn,lp [ao2,ao4]⟩
def OD(C:aa cr):aj (Bool):=bif (C.length:Int) > 6 then some false else bY Jn ((C,0,()),()) (λD=>some D.1.1) λE=>some true
def ao6:=cM [(false,(.sl .iG))] cG (bP OD) 35 [] [ao5] func141
def OE(C:ax):aj (Bool):=(A3 C.config C.box.bW).bind λD=>bif (!D)then some false else (A3 C.config C.box.next).bind λE=>bif (!E)then some false else (dD C.now 0 1000000).bind λI=>bif (!I)then some false else (Om C.config.ak C.aN).bind λO=>bif (!O)then some false else (Oo C.config.ak C.ready).bind λT=>bif (!T)then some false else (Ot C.config.ak C.array).bind λU=>bif (!U)then some false else (IX C.config.ak C.spare).bind λY=>bif (!Y)then some false else bif (C.spare.bL != C.config.bL)then some false else (Ou C.aD).bind λZ=>bif (!Z)then some false else (Ox C).bind λy9=>bif (!y9)then some false else (E1 C.config.ak C.spare).bind λod=>(vD od).bind λjX=>(OA jX C.queue).bind λoW=>bif (!oW)then some false else (I1 C.shares).bind λlW=>bif (!lW)then some false else bif ((C.shares.length:Int) != 4)then some false else (I4 C.drain).bind λlA=>bif (!lA)then some false else (OB C.aR).bind λkI=>bif (!kI)then some false else bif (C.aR.state != C.aN.aR)then some false else bif C.aR.since > C.now then some false else (dD C.dJ.every 1 100000).bind λmG=>bif mG then (dD C.dJ.wait 1 C.dJ.every).bind λqH=>bif qH then (vD C.config.ak).bind λwR=>(dD C.dJ.next 0 (W6 (wR-1))).bind λC1=>bif C1 then (OD C.errors).bind λC2=>bif C2 then bif (C.trace.length:Int) <= 2000 then some ((C.bF.length:Int) <= 400)else some false else some false else some false else some false else some false
def ao7:=bD wQ cG (bP OE) 161 [C0,VQ,adC,adN,gO,adH,aoA,aoE,aoK,aoM,aoT,ao0,adL,ao1,ao6] func62
def OF(C:aF)(E:nR)(I:Int):aj (aO×Bool):=letI u6:=some ((⟨0,0,0⟩:aO),false);letI u2:=I.tmod C.aQ;letI O:=W6 (I.tdiv C.aQ);letI u5:=O.tmod C.rows;(E3 E).bind λT=>bif (!T)then u6 else (vD C).bind λU=>(dD I 0 (W6 (U-1))).bind λY=>bif (!Y)then u6 else (mF C).bind λD=>letI u4:=W6 (O.tdiv D);letI u3:=W6 (I.tdiv D);letI u1:=W6 (u3.tdiv C.aQ);bif (E.order==0)then if C.aQ=0 then none else if C.aQ=0 then none else if D=0 then none else if C.aQ=0 then none else if D=0 then none else bif E.hash then if D=0 then none else some ((⟨((W6 ((O.tmod D)+u4)).tmod D),u4,u2⟩:aO),true)else some ((⟨(O.tmod D),u4,u2⟩:aO),true)else bif (E.order==1)then if D=0 then none else if D=0 then none else if C.aQ=0 then none else if D=0 then none else if C.aQ=0 then none else bif E.hash then if D=0 then none else some ((⟨((W6 ((I.tmod D)+u1)).tmod D),u1,(u3.tmod C.aQ)⟩:aO),true)else some ((⟨(I.tmod D),u1,(u3.tmod C.aQ)⟩:aO),true)else if C.aQ=0 then none else if C.aQ=0 then none else if C.rows=0 then none else if C.aQ=0 then none else if C.rows=0 then none else bif E.hash then if D=0 then none else some ((⟨((W6 ((W6 (O.tdiv C.rows))+u5)).tmod D),u5,u2⟩:aO),true)else some ((⟨(W6 (O.tdiv C.rows)),u5,u2⟩:aO),true)
def ao8:=bD [(true,.gf),(true,.s7),(false,.int)] NN (iV OF) 94 [C0,oV,gO,adF] func142
def OG(C:ax)(I:Int):aj (aO):=letI E:=W6 (C.config.ak.rows-C.config.bL);(OF (⟨C.config.ak.cm,C.config.ak.aI,E,C.config.ak.aQ⟩:aF) C.config.mapping I).bind λD=>xI C.spare.map (W6 ((W6 (D.1.ay*E))+D.1.row)) λO=>some (⟨D.1.ay,O,D.1.bZ⟩:aO)
def ao9:KX:=⟨64,.q (iL [(false,.DX),(false,.int)] [(true,.Addr,0)] λx=>OG x.1 x.2.1),kp 50 [ao8] func64⟩
def OH(C:ax)(D:Int):aj (aO×Bool):=letI E:=some ((⟨0,0,0⟩:aO),false);(OE C).bind λI=>bif (!I)then E else (E1 C.config.ak C.spare).bind λO=>(vD O).bind λT=>(dD D 0 (W6 (T-1))).bind λU=>bif (!U)then E else (OG C D).bind λY=>some (Y,true)
def apa:=bD VJ NN (cF OH) 25 [C0,VQ,ao7,gO,ao9] func16
def cc(C D E:Int):aj (Bool):=bif C >= D then some (C <= E)else some false
def dW:=bD [(false,.int),(false,.int),(false,.int)] cG (iV cc) 15 [] func45
def qI(C:aF):aj (Bool):=(cc C.cm 1 2).bind λD=>bif D then (cc C.aI 1 4).bind λE=>bif E then (cc C.rows 2 16).bind λI=>bif I then (cc C.aQ 1 8).bind λO=>some O else some false else some false else some false
def uc:=bD ua cG (bP qI) 21 [dW] func78
def lC(C:aF):aj (Int):=(qI C).bind λD=>bif (!D)then some 0 else some (W6 (C.cm*C.aI))
def nA:=bD ua fV (bP lC) 11 [uc] func31
abbrev aea:=((Int×ah×ah×ah×Int×Int×ah)×((Int×Int×Int×Int×ah)×(Int×ah×ah)×(Int×ah×ah)×(aa Int)×(aa Int)×ah))
def E7(x:aea):aj (aea⊕(((Int×ah×ah×ah×Int×ah)×((Int×Int×Int×Int×ah)×(Int×ah×ah)×(Int×ah×ah)×(aa Int)×(aa Int)×ah))⊕Empty)):=letI u1:=x.2.2.2;letI C:=x.1.2.2.2.2;bif C.2.1<(W6 (x.2.1.2.2.1-x.1.1))then bif bX (u1.2.2.1.length+([C.2.1]:aa Int).length)then xG ((x.1.1,(),(),(),C.1,(W6 (C.2.1+1)),()),(x.2.1,x.2.2.1,u1.1,u1.2.1,(u1.2.2.1++([C.2.1]:aa Int)),()))else none else aE ((x.1.1,(),(),(),C.1,()),(x.2.1,x.2.2.1,u1.1,u1.2.1,u1.2.2.1,()))
def apb:KY 48 (zb (bx f29) 0):=⟨2,lB 2 ⟨[(1,tI),(2,.aG 2 0),(4,.aG 4 0),(6,.aG 6 0),(7,tI),(8,tI)],acI,[]⟩ [(4,Vu)] E7,lp []⟩
abbrev aeb:=((Int×ah×ah×ah×Int×ah)×((Int×Int×Int×Int×ah)×(Int×ah×ah)×(Int×ah×ah)×(aa Int)×(aa Int)×ah))
def Jo(x:aeb):aj (aeb⊕(((ah×ah×ah)×((Int×ah×ah)×(Int×ah×ah)×(aa Int)×(aa Int)×ah))⊕Empty)):=letI D:=x.2.2.2;(lC (⟨x.2.1.1,x.2.1.2.1,x.2.1.2.2.1,x.2.1.2.2.2.1⟩:aF)).bind λE=>bif x.1.2.2.2.2.1<E then bR E7 ((x.1.1,(),(),(),x.1.2.2.2.2.1,0,()),(x.2.1,x.2.2.1,D.1,D.2.1,D.2.2.1,())) λC=>xG ((C.1.1,(),(),(),(W6 (C.1.2.2.2.2.1+1)),()),(C.2.1,C.2.2.1,C.2.2.2.1,C.2.2.2.2.1,C.2.2.2.2.2.1,()))else aE (((),(),()),(x.2.2.1,D.1,D.2.1,D.2.2.1,()))
def apc:KY 48 (bx f29):=⟨0,lB 0 Vu [(2,acS)] Jo,lq [nA] [apb]⟩
def E8(C:aF)(D:Int):aj (eP×Bool):=letI E:=some ((⟨0,[]⟩:eP),false);(qI C).bind λO=>bif (!O)then E else (cc D 0 2).bind λT=>bif (!T)then E else bif (W6 (C.rows-D))<2 then E else bR Jo ((D,(),(),(),0,()),((C.cm,C.aI,C.rows,C.aQ,()),(0,(),()),(D,(),()),([]:aa Int),([]:aa Int),())) λI=>some ((⟨I.2.2.1.1,I.2.2.2.2.1⟩:eP),true)
def VY:=cM IG [(true,.r3,2),(false,.bool,0)] (cF E8) 48 [dW,uc] [apc] func29
abbrev aec:=((ah×ah×Int×Int×ah)×(c8×(aa Int)×ah))
def E9(x:aec):aj (aec⊕(((Bool×ah)×(ah))⊕(((ah×ah)×(c8×ah))⊕Empty))):=letI C:=x.1.2.2;bif C.2.1<C.1 then xL x.2.2.1 C.2.1 λD=>(cc D 1 64).bind λE=>bif (!E)then aE ((false,()),())else xG (((),(),C.1,(W6 (C.2.1+1)),()),(x.2.1,x.2.2.1,()))else bk (((),()),(x.2.1,()))
def apd:KY 75 (bx f121):=⟨0,lB 0 ⟨[(1,.aG 1 0),(39,.lf (.own 39)),(40,tI),(41,tI)],[(1,.st .mW),(39,.sl .int 2)],[]⟩ [(1,oU),(2,adb)] E9,lp [dW]⟩
def Fa(C:c8):aj (Bool):=letI D:=([C.p7,C.rp,C.ji,C.rV,C.nS,C.mg,C.rW,C.rX,C.mV,C.wr,C.rY,C.rZ,C.v5,C.sY,C.sZ,C.xp,C.xs]:aa Int);bY E9 (((),(),(D.length:Int),0,()),(C,D,())) (λE=>some E.1.1) λI=>letI u1:=I.2.1;bif u1.p7 <= u1.ji then bif u1.rV <= u1.nS then bif u1.rW <= u1.rX then some (u1.rY <= u1.rZ)else some false else some false else some false
def VZ:=cM IK cG (bP Fa) 75 [] [apd] func121
end Go.Proofs.YtpigmalhjkekiaaGreat
