/-
  Functions of the program as plain functions of contents, and that the code computes them. Nothing here is a claim.
-/
import Derived.Test.YthmgjjfedieljaaGreatVZ
import Derived.Test.YthmgjjfedieljaaGreatRows
import Derived.Test.YthmgjjfedieljaaGreatRep
import Derived.Test.YthmgjjfedieljaaGreatG1
namespace Go.Proofs.YthmgjjfedieljaaGreat
set_option linter.defProp false
open Go.RowKit Go.Proofs.Tryz
set_option linter.unusedVariables false
set_option maxRecDepth 100000
def vH(C:aK):ah (Int):=(mK C).bind λD=>some (W6 ((W6 (D*C.rows))*C.aW))
def GH:=bX AM iz (cR vH) 11 [o8] func54
def Eh(C:Int):ah (Bool):=(bY C 0 4294967295).bind λD=>some D
def WR:=bX vE eW (cR Eh) 5 [dS] func112
def vI(C:Int):ah (Bool):=(bY C 0 15).bind λD=>some D
def KE:=bX vE eW (cR vI) 5 [dS] func33
abbrev aeb:=(((aa Int)×Int×(aa Int)×Int×Int×aj)×(aj))
def Cp(x:aeb):ah (aeb⊕(((Bool×aj)×(aj))⊕((((aa Int)×Int×aj)×(aj))⊕Empty))):=letI C:=x.1.2.2;bif C.2.2.1<C.2.1 then xI C.1 C.2.2.1 λD=>(vI D).bind λE=>bif (!E)then aM ((false,()),())else xG ((x.1.1,x.1.2.1,C.1,C.2.1,(W6 (C.2.2.1+1)),()),())else bU ((x.1.1,x.1.2.1,()),())
def aoS:KY 21 (bG f118):=⟨0,lB 0 ⟨[(0,.lf (.aI .int 0)),(1,tI),(7,.lf (.aI .int 0)),(8,tI),(9,tI)],[],[]⟩ [(1,xH),(2,⟨[(0,.lf (.aI .int 0)),(1,tI)],[],[]⟩)] Cp,lp [KE]⟩
def yY(C:aa Int)(E:Int):ah (Bool):=dI Cp ((C,E,C,(C.length:Int),0,()),()) (λI=>some I.1.1) λD=>some ((D.1.1.length:Int)==D.1.2.1)
def KF:=dV OU eW (dH yY) 21 [] [aoS] func118
abbrev aec:=((Int×Int×Int×Int×aj)×(aj))
def aed(x:aec):ah (aec⊕(((Int×aj)×(aj))⊕Empty)):=letI u4:=x.1.2.1;letI u1:=x.1.2.2;letI u3:=bits .xor .i64 u1.1 x.1.1;letI u2:=W6 (u1.2.1+1);letI C:=W6 (x.1.1*2 ^ (min (1:Int).toNat IntKind.i64.bits));bif u1.2.1<4 then if u1.2.1<0 then none else bif ((bits .and .i64 (u4.fdiv (2 ^ (min u1.2.1.toNat IntKind.i64.bits))) 1)==1)then bif C > 15 then xG (((bits .xor .i64 C 19),u4,u3,u2,()),())else xG ((C,u4,u3,u2,()),())else bif C > 15 then xG (((bits .xor .i64 C 19),u4,u1.1,u2,()),())else xG ((C,u4,u1.1,u2,()),())else aM ((u1.1,()),())
def aoT:KY 34 (bG f141):=⟨0,lB 0 ⟨[(0,tI),(1,tI),(5,tI),(6,tI)],[],[]⟩ [(2,Gx)] aed,lp []⟩
def kW(C D:Int):ah (Int):=(vI C).bind λE=>bif (!E)then some (-1)else (vI D).bind λI=>bif (!I)then some (-1)else bZ aed ((C,D,0,0,()),()) λO=>some O.1.1
def KG:=dV OW iz (dH kW) 34 [KE] [aoT] func141
abbrev aee:=((Int×Int×Int×aj)×(aj))
def aef(x:aee):ah (aee⊕(((Int×aj)×(aj))⊕Empty)):=bif x.1.2.1 > 0 then (kW x.1.2.2.1 x.1.1).bind λC=>xG ((x.1.1,(W6 (x.1.2.1-1)),C,()),())else aM ((x.1.2.2.1,()),())
def aoU:KY 22 (bG f171):=⟨0,lB 0 ⟨[(0,tI),(1,tI),(5,tI)],[],[]⟩ [(2,Gx)] aef,lp [KG]⟩
def KH(C D:Int):ah (Int):=(vI C).bind λE=>bif (!E)then some (-1)else (bY D 0 1000).bind λI=>bif (!I)then some (-1)else bZ aef ((C,D,1,()),()) λO=>some O.1.1
def aeg:=dV OW iz (dH KH) 22 [dS,KE] [aoU] func171
abbrev aeh:=(((aa Int)×aj×Int×Int×Int×(aa Int)×Int×Int×aj)×((aa Int)×aj))
def Ei(x:aeh):ah (aeh⊕((((aa Int)×aj×Int×Int×aj)×((aa Int)×aj))⊕Empty)):=letI u1:=x.1.2.2;letI C:=u1.2.2;letI u2:=C.2.2.2.1;bif u2<C.2.2.1 then xI C.2.1 u2 λD=>xL x.2.1 u1.1 λE=>(KH 2 (W6 (u2*u1.1))).bind λI=>(kW D I).bind λO=>xL x.2.1 u1.1 λT=>xG ((x.1.1,(),u1.1,u1.2.1,C.1,C.2.1,C.2.2.1,(W6 (u2+1)),()),((x.2.1.set u1.1.toNat (bits .xor .i64 E O)),()))else aM ((x.1.1,(),u1.2.1,C.1,()),(x.2.1,()))
def aoV:KY 38 (Cf (bG f139) 0):=⟨2,lB 2 ⟨[(0,.lf (.aI .int 0)),(3,.lf (.own 10)),(4,tI),(12,tI),(13,tI),(16,.lf (.aI .int 0)),(17,tI),(18,tI)],[(10,.sl .int 2)],[]⟩ [(4,adw)] Ei,lp [KG,aeg]⟩
abbrev aei:=(((aa Int)×aj×Int×Int×aj)×((aa Int)×aj))
def GI(x:aei):ah (aei⊕(((aj×aj)×((aa Int)×aj))⊕Empty)):=letI C:=x.1.2.2;bif C.2.1<C.1 then bZ Ei ((x.1.1,(),C.2.1,C.1,C.2.1,x.1.1,(x.1.1.length:Int),0,()),(x.2.1,())) λD=>xG ((D.1.1,(),D.1.2.2.1,(W6 (D.1.2.2.2.1+1)),()),(D.2.1,()))else aM (((),()),(x.2.1,()))
def aoW:KY 38 (bG f139):=⟨0,lB 0 adw [(2,⟨[(3,.lf (.own 10))],[(10,.sl .int 2)],[]⟩)] GI,lq [] [aoV]⟩
def Cq(D:aa Int):ah ((aa Int)):=letI C:=(3:Int);(yY D 11).bind λE=>bif (!E)then some ([])else if 0 <= C/\C <= 3/\C<1073741824 then bZ GI ((D,(),((List.replicate C.toNat (0:Int)).length:Int),0,()),((List.replicate C.toNat (0:Int)),())) λI=>some I.2.1 else none
def WS:=dV Cl Ci (cR Cq) 38 [KF] [aoW] func139
abbrev aej:=((Int×Int×aj)×(aj))
def aek(x:aej):ah (aej⊕(((Int×aj)×(aj))⊕(((aj)×(aj))⊕Empty))):=bif x.1.2.1 <= 15 then (kW x.1.1 x.1.2.1).bind λC=>bif (C==1)then aM ((x.1.2.1,()),())else xG ((x.1.1,(W6 (x.1.2.1+1)),()),())else bU ((),())
def aoX:KY 13 (bG f140):=⟨0,lB 0 adR [(1,⟨[(2,tI)],[],[]⟩),(2,qz)] aek,lp [KG]⟩
def Ej(C:Int):ah (Int):=dI aek ((C,1,()),()) (λD=>some D.1.1) λE=>some (-1)
def ael:=dV vE iz (cR Ej) 13 [] [aoX] func140
def KI(E:aa Int):ah ((aa Int)):=letI u4:=(1:Int);letI u3:=(3:Int);letI u2:=(0:Int);letI u1:=(List.replicate u3.toNat u2)++E;(yY E 8).bind λY=>bif (!Y)then some ([])else if 0 <= u3/\u3 <= 3/\u3<1073741824 then bif cB ((List.replicate u3.toNat u2).length+E.length)then (Cq u1).bind λC=>xL C u2 λI=>xL C u4 λO=>xL C u2 λZ=>xL C (2:Int) λyZ=>letI u5:=bits .xor .i64 Z yZ;(Ej 4).bind λT=>(kW 2 (bits .xor .i64 I O)).bind λtD=>(kW 5 u5).bind λuG=>(kW (bits .xor .i64 tD uG) T).bind λU=>xL u1 u4 λe21=>(kW 3 u5).bind λo9=>(kW 5 (bits .xor .i64 I O)).bind λxJ=>(kW (bits .xor .i64 o9 xJ) T).bind λCr=>letI D:=(u1.set u4.toNat U).set (2:Int).toNat Cr;xL (u1.set u4.toNat U) (2:Int) λPg=>xL C u2 λWT=>xL D u4 λe33=>xL D (2:Int) λe36=>xL D u2 λe39=>some (D.set u2.toNat (bits .xor .i64 (bits .xor .i64 WT e33) e36))else none else none
def aoY:=bX Cl Ci (cR KI) 63 [KF,WS,ael,KG] func113
abbrev aem:=((Int×aj×Int×aj)×((aa Int)×aj))
def KJ(x:aem):ah (aem⊕(((aj×aj)×((aa Int)×aj))⊕Empty)):=letI u1:=x.1.2.2.1;letI C:=([(bits .and .i64 (x.1.1.fdiv (2 ^ (min (W6 (4*u1)).toNat IntKind.i64.bits))) 15)]:aa Int);bif u1<8 then if (W6 (4*u1))<0 then none else bif cB (x.2.1.length+C.length)then xG ((x.1.1,(),(W6 (u1+1)),()),((x.2.1++C),()))else none else aM (((),()),(x.2.1,()))
def aoZ:KY 22 (bG f114):=⟨0,lB 0 ⟨[(0,tI),(3,.lf (.own 8)),(4,tI)],[(8,.sl .int 2)],[]⟩ [(2,⟨[(3,.lf (.own 8))],[(8,.sl .int 2)],[]⟩)] KJ,lp []⟩
def Ph(C:Int):ah ((aa Int)):=(Eh C).bind λD=>bif (!D)then some ([])else bZ KJ ((C,(),0,()),(([]:aa Int),())) λE=>some E.2.1
def ao0:=dV vE Ci (cR Ph) 22 [WR] [aoZ] func114
def Cs(C:Int):ah ((aa Int)):=(Eh C).bind λD=>bif (!D)then some ([])else (Ph C).bind λE=>(KI E).bind λI=>some I
def aen:=bX vE Ci (cR Cs) 9 [WR,aoY,ao0] func55
def ao1:bN:=⟨[(1,.aL 1 0),(2,.aL 2 0),(4,.aL 4 0),(5,tI)],[(1,.aD jD),(2,.aD OR),(4,.aD [.own 90200,.own 16,.own 18]),(90100,.sl .Cell 4),(90101,.sl .int 2),(90102,.sl .int 2),(90200,.sl .Cell 4),(16,.sl .int 2),(18,.sl .int 2)],[]⟩
def ao2:aa (Nat×bN):=[(2,⟨[(2,.aL 2 0),(4,.aL 4 0)],[(2,.aD OR),(4,.aD [.own 90200,.own 16,.own 18]),(90100,.sl .Cell 4),(90101,.sl .int 2),(90102,.sl .int 2),(90200,.sl .Cell 4),(16,.sl .int 2),(18,.sl .int 2)],[]⟩)]
abbrev aeo:=((aj×aj×aj×Int×aj)×((Int×Int×Int×Int×aj)×(aj×aj×aj×aj)×(aj×aj×aj×aj)×(aa cw)×(aa Int)×(aa Int)×(aa cw)×(aa Int)×(aa Int)×aj))
def KM(x:aeo):ah (aeo⊕(((aj×aj×aj)×((aj×aj×aj×aj)×(aj×aj×aj×aj)×(aa cw)×(aa Int)×(aa Int)×(aa cw)×(aa Int)×(aa Int)×aj))⊕Empty)):=letI u1:=((),(),(),());letI C:=x.2.2.2.2.2;letI u2:=C.2.2;(vH (⟨x.2.1.1,x.2.1.2.1,x.2.1.2.2.1,x.2.1.2.2.2.1⟩:aK)).bind λE=>bif x.1.2.2.2.1<E then (Cs 0).bind λD=>bif cB (u2.1.length+[(⟨D,false⟩:cw)].length)then xG (((),(),(),(W6 (x.1.2.2.2.1+1)),()),(x.2.1,u1,u1,x.2.2.2.2.1,C.1,C.2.1,(u2.1++[(⟨D,false⟩:cw)]),u2.2.1,u2.2.2.1,()))else none else aM (((),(),()),(u1,u1,x.2.2.2.2.1,C.1,C.2.1,u2.1,u2.2.1,u2.2.2.1,()))
def ao3:KY 34 (bG f19):=⟨0,lB 0 ao1 ao2 KM,lp [GH,aen]⟩
def Pj(D:aK):ah (c9):=(sA D).bind λE=>bif (!E)then some (⟨[],[],[]⟩:c9)else (mK D).bind λI=>letI C:=W6 (I*D.rows);if 0 <= C/\C <= C/\C<1073741824 then if 0 <= C/\C <= C/\C<1073741824 then bZ KM (((),(),(),0,()),((D.cN,D.aO,D.rows,D.aW,()),((),(),(),()),((),(),(),()),([]:aa cw),([]:aa Int),([]:aa Int),([]:aa cw),(List.replicate C.toNat (0:Int)),(List.replicate C.toNat (0:Int)),())) λO=>letI u1:=O.2.2.2.2.2.2;some (⟨u1.1,u1.2.1,u1.2.2.1⟩:c9)else none else none
def ao4:=dV AM [(true,.Array,4)] (cR Pj) 34 [o8,vG] [ao3] func19
def vJ(C:fA):ah (fA):=bif xZ C.weights then some (⟨C.gA,C.cap,C.dx,C.low,C.high,(xA C.weights),C.eT⟩:fA)else none
def Pm:=bX [(true,.oH)] [(true,.oH,2)] (cR vJ) 9 [] func56
def Pn(C:fA):ah (lO×Bool):=(GG C).bind λD=>bif (!D)then some ((⟨⟨0,0,0,0,0,[],⟨0,0⟩⟩,⟨0,0,0,0,0,[],⟨0,0⟩⟩,false⟩:lO),false)else (vJ C).bind λE=>(vJ C).bind λI=>some ((⟨E,I,false⟩:lO),true)
def ao5:=bX [(true,.oH)] Wy (cR Pn) 13 [WO,Pm] func20
def Po(C D:Int):ah (eC×Bool):=letI E:=some ((⟨[],0,false⟩:eC),false);(bY C 1 8).bind λI=>bif (!I)then E else (bY D 2 10000).bind λO=>bif (!O)then E else if 0 <= C/\C <= C/\C<1073741824 then some ((⟨(List.replicate C.toNat (0:Int)),D,false⟩:eC),true)else none
def ao6:=bX OW [(true,.nX,2),(false,.bool,0)] (dH Po) 19 [dS] func22
def WU(C:Int):ah (wE×Bool):=(bY C 1 100000).bind λD=>bif (!D)then some ((⟨0,0,0⟩:wE),false)else some ((⟨0,C,C⟩:wE),true)
def ao7:=bX vE [(true,.yp,0),(false,.bool,0)] (cR WU) 11 [dS] func25
def GJ(C:Int):ah (dc×Bool):=(bY C 1 16).bind λD=>bif (!D)then some ((⟨[],[],0⟩:dc),false)else (Ea ([(-1)]:aa Int) C).bind λE=>if 0 <= C/\C <= C/\C<1073741824 then some ((⟨E,(List.replicate C.toNat (0:Int)),0⟩:dc),true)else none
def aep:=bX vE [(true,.qe,2),(false,.bool,0)] (cR GJ) 14 [dS,⟨58,.p adl,aom⟩] func26
def ao8:bN:=⟨[(2,.aL 2 0),(3,.aL 3 0),(4,.aL 4 0),(6,.aL 6 0),(7,.aL 7 0),(8,tI)],[(2,.st .Config),(3,.aD Eb),(6,.aD jD)],adF⟩
def ao9:aa (Nat×bN):=[(2,⟨[(4,.aL 4 0),(7,.aL 7 0)],[],adF⟩)]
abbrev aeq:=((aj×aj×aj×aj×aj×Int×aj)×(au×au×fB×(Int×Int×Int×Int×Int×(aa Int)×Int×Int×aj)×(Int×Int×Int×Int×aj)×aj))
def GK(x:aeq):ah (aeq⊕(((aj×aj×aj)×(au×au×aj))⊕Empty)):=letI u1:=x.2.2.2.2;letI u2:=([u1.1.2.2.1]:aa Int);letI C:=x.2.2.1;(mK (⟨u1.2.1.1,u1.2.1.2.1,u1.2.1.2.2.1,u1.2.1.2.2.2.1⟩:aK)).bind λE=>bif x.1.2.2.2.2.2.1<E then (GJ x.2.2.2.1.jj).bind λD=>bif cB (C.bF.length+[D.1].length)then bif cB (C.guard.length+u2.length)then xG (((),(),(),(),(),(W6 (x.1.2.2.2.2.2.1+1)),()),(x.2.1,{C with bF:=(C.bF++[D.1]),guard:=(C.guard++u2)},x.2.2.2.1,u1.1,u1.2.1,()))else none else none else aM (((),(),()),(x.2.1,C,()))
def apa:KY 92 (bG f6):=⟨0,lB 0 ao8 ao9 GK,lp [o8,aep]⟩
def Pp(C:fB)(D:fA):ah (au×Bool):=(tE C D).bind λE=>bif (!E)then some ((⟨⟨⟨0,0,0,0⟩,⟨0,0,0,0,0,0,0,0,0,0,0,0,0,0,0,0,0⟩,⟨0,false⟩,0,0,0,⟨0,0⟩⟩,⟨⟨0,0,0,0,0,[],⟨0,0⟩⟩,⟨0,0,0,0,0,[],⟨0,0⟩⟩,false⟩,0,⟨[],0⟩,⟨[],[]⟩,⟨[],[],[]⟩,⟨0,[]⟩,⟨[],0,false⟩,[],[],[],[],[],⟨false,0,0⟩,⟨0,0,0⟩,⟨0,0,0⟩,[],[],[]⟩:au),false)else (Pe C.aq).bind λI=>(Pf C.aq).bind λO=>(Pj C.aq).bind λT=>(Pn D).bind λU=>(GB C.aq C.cc).bind λY=>(mK C.aq).bind λZ=>(Po Z C.interval).bind λy8=>(AO D.weights).bind λy9=>(WU 10).bind λsx=>bZ GK (((),(),(),(),(),0,()),((⟨⟨⟨0,0,0,0⟩,⟨0,0,0,0,0,0,0,0,0,0,0,0,0,0,0,0,0⟩,⟨0,false⟩,0,0,0,⟨0,0⟩⟩,⟨⟨0,0,0,0,0,([]:aa Int),⟨0,0⟩⟩,⟨0,0,0,0,0,([]:aa Int),⟨0,0⟩⟩,false⟩,0,⟨([]:aa ji),0⟩,⟨([]:aa Int),([]:aa Int)⟩,⟨([]:aa cw),([]:aa Int),([]:aa Int)⟩,⟨0,([]:aa Int)⟩,⟨([]:aa Int),0,false⟩,([]:aa dc),([]:aa Int),([]:aa aN),([]:aa aR),([]:aa dz),⟨false,0,0⟩,⟨0,0,0⟩,⟨0,0,0⟩,([]:aa cY),([]:aa eB),([]:aa cI)⟩:au),(⟨C,U.1,0,I,O,T,Y.1,y8.1,([]:aa dc),([]:aa Int),([]:aa aN),([]:aa aR),y9.1,⟨false,D.low,D.high⟩,⟨0,0,0⟩,sx.1,([]:aa cY),([]:aa eB),([]:aa cI)⟩:au),C,(D.gA,D.cap,D.dx,D.low,D.high,D.weights,D.eT.down,D.eT.sleep,()),(C.aq.cN,C.aq.aO,C.aq.rows,C.aq.aW,()),())) λmO=>some (mO.2.2.1,true)
def apb:=dV [(true,.Config),(true,.oH)] OV (dH Pp) 92 [WQ,aoP,aoR,ao4,ao5,WK,ao6,o8,WN,ao7] [apa] func6
def GL(C:lO):ah (lO):=(vJ C.bW).bind λD=>(vJ C.next).bind λE=>some (⟨D,E,C.waits⟩:lO)
def WV:=bX [(true,.uW)] [(true,.uW,2)] (cR GL) 12 [Pm] func59
def GM(C:cr):ah (cr):=bif xZ C.aO then some (⟨(xA C.aO),C.aS⟩:cr)else none
def aer:=bX [(true,.nT)] [(true,.nT,2)] (cR GM) 9 [] func60
def GN(C:fj):ah (fj):=bif xZ C.last then bif xZ C.bq then some (⟨(xA C.last),(xA C.bq)⟩:fj)else none else none
def aes:=bX [(true,.sW)] [(true,.sW,2)] (cR GN) 12 [] func61
def KN(C:cw):ah (cw):=bif xZ C.symbols then some (⟨(xA C.symbols),C.qd⟩:cw)else none
def aet:=bX [(true,.Cell)] [(true,.Cell,2)] (cR KN) 9 [] func89
def apc:bN:=⟨[(2,.aL 2 0),(3,.aL 3 0),(16,.lf (.aI .Cell 0)),(17,tI),(18,tI)],ado,[]⟩
def apd:aa (Nat×bN):=[(2,⟨WB,ado,[]⟩)]
abbrev aeu:=((aj×aj×(aa cw)×Int×Int×aj)×((aj×aj×aj×aj)×(aj×aj×aj×aj)×(aa cw)×(aa Int)×(aa Int)×(aa cw)×(aa Int)×(aa Int)×aj))
def KO(x:aeu):ah (aeu⊕(((aj×aj×aj)×((aj×aj×aj×aj)×(aj×aj×aj×aj)×(aa cw)×(aa Int)×(aa Int)×(aa cw)×(aa Int)×(aa Int)×aj))⊕Empty)):=letI u3:=x.2.2.2;letI u2:=x.1.2.2;letI u1:=((),(),(),());letI C:=u3.2.2;bif u2.2.2.1<u2.2.1 then xI u2.1 u2.2.2.1 λE=>(KN E).bind λD=>bif cB (C.2.1.length+[D].length)then xG (((),(),u2.1,u2.2.1,(W6 (u2.2.2.1+1)),()),(u1,u1,u3.1,u3.2.1,C.1,(C.2.1++[D]),C.2.2.1,C.2.2.2.1,()))else none else aM (((),(),()),(u1,u1,u3.1,u3.2.1,C.1,C.2.1,C.2.2.1,C.2.2.2.1,()))
def ape:KY 31 (bG f62):=⟨0,lB 0 apc apd KO,lp [aet]⟩
def El(C:c9):ah (c9):=bif xZ C.bx then bif xZ C.bg then bZ KO (((),(),C.cells,(C.cells.length:Int),0,()),(((),(),(),()),((),(),(),()),([]:aa cw),([]:aa Int),([]:aa Int),([]:aa cw),(xA C.bx),(xA C.bg),())) λE=>letI D:=E.2.2.2.2.2.2;some (⟨D.1,D.2.1,D.2.2.1⟩:c9)else none else none
def WW:=dV [(true,.Array)] [(true,.Array,4)] (cR El) 31 [] [ape] func62
def aev(C:aa Int):ah ((aa Int)):=bif lz C then none else bif cB (([]:aa Int).length+C.length)then some (([]:aa Int)++C)else none
def Pu(C:aa Int):ah ((aa Int)):=bif lz C then some []else aev C
def aew:kP:=jB [(false,(.sl .int))] [(false,(.sl .int),2)] (λx=>Pu x.1)
def apf:enters Tryz.prog 63/\jZ Tryz.prog 63 aew:=D9 8 [] [] func63 trivial uF (t:=.int) (g:=2) (F:=aev) λx=>by kernel_rfl
def AP(C:eC):ah (eC):=bif xZ C.aB then some (⟨(xA C.aB),C.wait,C.bO⟩:eC)else none
def Pv:=bX [(true,.nX)] [(true,.nX,2)] (cR AP) 9 [] func64
def GO(C:dc):ah (dc):=bif xZ C.rows then bif xZ C.counts then some (⟨(xA C.rows),(xA C.counts),C.gj⟩:dc)else none else none
def aex:=bX [(true,.qe)] [(true,.qe,2)] (cR GO) 14 [] func65
def aey(C:aa aN):ah ((aa aN)):=bif lz C then none else bif cB (([]:aa aN).length+C.length)then some (([]:aa aN)++C)else none
def WX(C:aa aN):ah ((aa aN)):=bif lz C then some []else aey C
def aez:kP:=jB [(false,(.sl .Addr))] [(false,(.sl .Addr),2)] (λx=>WX x.1)
def apg:enters Tryz.prog 66/\jZ Tryz.prog 66 aez:=D9 8 [] [] func66 trivial uF (t:=.Addr) (g:=2) (F:=aey) λx=>by kernel_rfl
def aeA(C:aa aR):ah ((aa aR)):=bif lz C then none else bif cB (([]:aa aR).length+C.length)then some (([]:aa aR)++C)else none
def WY(C:aa aR):ah ((aa aR)):=bif lz C then some []else aeA C
def aeB:kP:=jB [(false,(.sl .dY))] [(false,(.sl .dY),2)] (λx=>WY x.1)
def aph:enters Tryz.prog 67/\jZ Tryz.prog 67 aeB:=D9 8 [] [] func67 trivial uF (t:=.dY) (g:=2) (F:=aeA) λx=>by kernel_rfl
def aeC(C:aa dz):ah ((aa dz)):=bif lz C then none else bif cB (([]:aa dz).length+C.length)then some (([]:aa dz)++C)else none
def WZ(C:aa dz):ah ((aa dz)):=bif lz C then some []else aeC C
def aeD:kP:=jB [(false,(.sl .jW))] [(false,(.sl .jW),2)] (λx=>WZ x.1)
def api:enters Tryz.prog 68/\jZ Tryz.prog 68 aeD:=D9 8 [] [] func68 trivial uF (t:=.jW) (g:=2) (F:=aeC) λx=>by kernel_rfl
def aeE(C:aa cY):ah ((aa cY)):=bif lz C then none else bif cB (([]:aa cY).length+C.length)then some (([]:aa cY)++C)else none
def W0(C:aa cY):ah ((aa cY)):=bif lz C then some []else aeE C
def aeF:kP:=jB [(false,(.sl .kE))] [(false,(.sl .kE),2)] (λx=>W0 x.1)
def apj:enters Tryz.prog 69/\jZ Tryz.prog 69 aeF:=D9 8 [] [] func69 trivial uF (t:=.kE) (g:=2) (F:=aeE) λx=>by kernel_rfl
def aeG(C:aa eB):ah ((aa eB)):=bif lz C then none else bif cB (([]:aa eB).length+C.length)then some (([]:aa eB)++C)else none
def W2(C:aa eB):ah ((aa eB)):=bif lz C then some []else aeG C
def aeH:kP:=jB [(false,(.sl .Event))] [(false,(.sl .Event),2)] (λx=>W2 x.1)
def apk:enters Tryz.prog 70/\jZ Tryz.prog 70 aeH:=D9 8 [] [] func70 trivial uF (t:=.Event) (g:=2) (F:=aeG) λx=>by kernel_rfl
def aeI(C:aa cI):ah ((aa cI)):=bif lz C then none else bif cB (([]:aa cI).length+C.length)then some (([]:aa cI)++C)else none
def W3(C:aa cI):ah ((aa cI)):=bif lz C then some []else aeI C
def aeJ:kP:=jB [(false,(.sl .mw))] [(false,(.sl .mw),2)] (λx=>W3 x.1)
def apl:enters Tryz.prog 71/\jZ Tryz.prog 71 aeJ:=D9 8 [] [] func71 trivial uF (t:=.mw) (g:=2) (F:=aeI) λx=>by kernel_rfl
def apm:bN:=⟨[(1,.aL 1 0),(2,.aL 2 0),(3,.aL 3 0),(36,.lf (.aI .qe 0)),(37,tI),(38,tI)],zz1,adt⟩
def apn:aa (Nat×bN):=[(2,⟨[(1,.aL 1 0),(2,.aL 2 0),(3,.aL 3 0)],zz1,adt⟩)]
abbrev aeK:=((aj×aj×aj×(aa dc)×Int×Int×aj)×(au×au×(Int×Int×Int×Int×Int×Int×Int×Int×Int×Int×Int×Int×Int×Int×Int×Int×Int×Int×Int×Int×Int×Int×Bool×Int×Int×Int×Int×Int×Int×Int×Int×Int×Int×aj×Int×Int×Int×Int×Int×Int×Int×aj×Int×Int×Bool×Int×aj×Int×aj×aj×aj×aj×aj×Int×aj×aj×Int×Bool×aj×(aa Int)×(aa aN)×(aa aR)×(aa dz)×Bool×Int×Int×Int×Int×Int×Int×Int×Int×(aa cY)×(aa eB)×(aa cI)×aj)×(aa Int)×(aa Int)×(aa ji)×(aa Int)×(aa Int)×(aa cw)×(aa Int)×(aa Int)×(aa Int)×(aa Int)×(aa dc)×aj))
def GP(x:aeK):ah (aeK⊕(((aj×aj×aj×aj)×(au×au×(Int×Int×Int×Int×Int×Int×Int×Int×Int×Int×Int×Int×Int×Int×Int×Int×Int×Int×Int×Int×Int×Int×Bool×Int×Int×Int×Int×Int×Int×Int×Int×Int×Int×aj×Int×Int×Int×Int×Int×Int×Int×aj×Int×Int×Bool×Int×aj×Int×aj×aj×aj×aj×aj×Int×aj×aj×Int×Bool×aj×(aa Int)×(aa aN)×(aa aR)×(aa dz)×Bool×Int×Int×Int×Int×Int×Int×Int×Int×(aa cY)×(aa eB)×(aa cI)×aj)×(aa Int)×(aa Int)×(aa ji)×(aa Int)×(aa Int)×(aa cw)×(aa Int)×(aa Int)×(aa Int)×(aa Int)×(aa dc)×aj))⊕Empty)):=letI u3:=x.1.2.2.2;letI u1:=x.2.2.2.2;letI C:=u1.2.2.2.2;letI u2:=C.2.2.2;bif u3.2.2.1<u3.2.1 then xI u3.1 u3.2.2.1 λE=>(GO E).bind λD=>bif cB (u2.2.2.2.1.length+[D].length)then xG (((),(),(),u3.1,u3.2.1,(W6 (u3.2.2.1+1)),()),(x.2.1,x.2.2.1,x.2.2.2.1,u1.1,u1.2.1,u1.2.2.1,u1.2.2.2.1,C.1,C.2.1,C.2.2.1,u2.1,u2.2.1,u2.2.2.1,(u2.2.2.2.1++[D]),()))else none else aM (((),(),(),()),(x.2.1,x.2.2.1,x.2.2.2.1,u1.1,u1.2.1,u1.2.2.1,u1.2.2.2.1,C.1,C.2.1,C.2.2.1,u2.1,u2.2.1,u2.2.2.1,u2.2.2.2.1,()))
def apo:KY 79 (bG f27):=⟨0,lB 0 apm apn GP,lp [aex]⟩
def AQ(C:au):ah (au):=(GL C.box).bind λD=>(GM C.aG).bind λy2=>(GN C.ready).bind λy3=>(El C.array).bind λy4=>(Pu C.spare.map).bind λy5=>(AP C.ay).bind λy6=>bZ GP (((),(),(),C.bF,(C.bF.length:Int),0,()),((⟨⟨⟨0,0,0,0⟩,⟨0,0,0,0,0,0,0,0,0,0,0,0,0,0,0,0,0⟩,⟨0,false⟩,0,0,0,⟨0,0⟩⟩,⟨⟨0,0,0,0,0,([]:aa Int),⟨0,0⟩⟩,⟨0,0,0,0,0,([]:aa Int),⟨0,0⟩⟩,false⟩,0,⟨([]:aa ji),0⟩,⟨([]:aa Int),([]:aa Int)⟩,⟨([]:aa cw),([]:aa Int),([]:aa Int)⟩,⟨0,([]:aa Int)⟩,⟨([]:aa Int),0,false⟩,([]:aa dc),([]:aa Int),([]:aa aN),([]:aa aR),([]:aa dz),⟨false,0,0⟩,⟨0,0,0⟩,⟨0,0,0⟩,([]:aa cY),([]:aa eB),([]:aa cI)⟩:au),C,(C.config.aq.cN,C.config.aq.aO,C.config.aq.rows,C.config.aq.aW,C.config.bP.uV,C.config.bP.rp,C.config.bP.lM,C.config.bP.wu,C.config.bP.sV,C.config.bP.nR,C.config.bP.wz,C.config.bP.wA,C.config.bP.qN,C.config.bP.wr,C.config.bP.wC,C.config.bP.wD,C.config.bP.zF,C.config.bP.yl,C.config.bP.ym,C.config.bP.xp,C.config.bP.xs,C.config.mapping.order,C.config.mapping.hash,C.config.cc,C.config.interval,C.config.jj,C.config.dX.bx,C.config.dX.bg,D.bW.gA,D.bW.cap,D.bW.dx,D.bW.low,D.bW.high,(),D.bW.eT.down,D.bW.eT.sleep,D.next.gA,D.next.cap,D.next.dx,D.next.low,D.next.high,(),D.next.eT.down,D.next.eT.sleep,D.waits,C.now,(),y2.aS,(),(),(),(),(),C.spare.cc,(),(),y6.wait,y6.bO,(),C.guard,C.pending,C.queue,C.shares,C.drain.on,C.drain.low,C.drain.high,C.aS.state,C.aS.since,C.aS.idle,C.dJ.next,C.dJ.every,C.dJ.wait,C.errors,C.trace,C.aZ,()),D.bW.weights,D.next.weights,y2.aO,y3.last,y3.bq,y4.cells,y4.bx,y4.bg,y5,y6.aB,([]:aa dc),())) λlZ=>letI E:=lZ.2.2.1;letI u4:=lZ.2.2.2;letI u16:=u4.1.2.2;letI Y:=u4.2.2.2.2.2;letI Z:=Y.2.2.2;letI u7:=u16.2.2.2;letI Px:=u7.2.2.2;letI u2:=Px.2.2.2;letI I:=u2.2.2.2;letI u5:=I.2.2.2.2;letI O:=u5.2.2.2.2;letI T:=O.2.2.2.2;letI vL:=T.2.2.2.2;letI W4:=vL.2.2.2.2;letI u3:=W4.2.2;letI u8:=u3.2.2.2.2.2.2;letI u15:=u8.2.2.2.2.2.2.2.2.2.2.2;letI u1:=u15.2.2.2;letI u6:=u1.2.2.2.2.2.2.2;letI U:=u6.2.2.2.2;(Pu E.guard).bind λsy=>(WX E.pending).bind λCo=>(WY E.queue).bind λo7=>(WZ E.shares).bind λru=>(W0 E.errors).bind λuH=>(W2 E.trace).bind λtD=>(W3 E.aZ).bind λuG=>some (⟨⟨⟨u4.1.1,u4.1.2.1,u16.1,u16.2.1⟩,⟨u16.2.2.1,u7.1,u7.2.1,u7.2.2.1,Px.1,Px.2.1,Px.2.2.1,u2.1,u2.2.1,u2.2.2.1,I.1,I.2.1,I.2.2.1,I.2.2.2.1,u5.1,u5.2.1,u5.2.2.1⟩,⟨u5.2.2.2.1,O.1⟩,O.2.1,O.2.2.1,O.2.2.2.1,⟨T.1,T.2.1⟩⟩,⟨⟨T.2.2.1,T.2.2.2.1,vL.1,vL.2.1,vL.2.2.1,u4.2.1,⟨W4.1,W4.2.1⟩⟩,⟨u3.1,u3.2.1,u3.2.2.1,u3.2.2.2.1,u3.2.2.2.2.1,u4.2.2.1,⟨u8.1,u8.2.1⟩⟩,u8.2.2.1⟩,u8.2.2.2.1,⟨u4.2.2.2.1,u8.2.2.2.2.2.1⟩,⟨u4.2.2.2.2.1,Y.1⟩,⟨Y.2.1,Y.2.2.1,Z.1⟩,⟨u15.1,Z.2.1⟩,⟨Z.2.2.1,u1.1,u1.2.1⟩,Z.2.2.2.1,sy,Co,o7,ru,⟨u6.1,u6.2.1,u6.2.2.1⟩,⟨u6.2.2.2.1,U.1,U.2.1⟩,⟨U.2.2.1,U.2.2.2.1,U.2.2.2.2.1⟩,uH,tD,uG⟩:au)
def GQ:=dV AN [(true,.eU,4)] (cR AQ) 79 [WV,aer,aes,WW,⟨63,.p aew,apf⟩,Pv,⟨66,.p aez,apg⟩,⟨67,.p aeB,aph⟩,⟨68,.p aeD,api⟩,⟨69,.p aeF,apj⟩,⟨70,.p aeH,apk⟩,⟨71,.p aeJ,apl⟩] [apo] func27
abbrev aeL:=((aj×(aa ji)×Int×Int×aj)×((aa Int)×aj))
def GR(x:aeL):ah (aeL⊕(((aj×aj)×((aa Int)×aj))⊕Empty)):=letI u1:=x.1.2.2.2.1;letI C:=((),x.1.2.1,x.1.2.2.1,(W6 (u1+1)),());bif u1<x.1.2.2.1 then xI x.1.2.1 u1 λD=>bif D.open_ then bif cB (x.2.1.length+([u1]:aa Int).length)then xG (C,((x.2.1++([u1]:aa Int)),()))else none else xG (C,(x.2.1,()))else aM (((),()),(x.2.1,()))
def apq:KY 23 (bG f116):=⟨0,lB 0 ⟨[(3,.lf (.own 6)),(8,.lf (.aI .rR 0)),(9,tI),(10,tI)],[(6,.sl .int 2)],[]⟩ [(2,⟨[(3,.lf (.own 6))],[(6,.sl .int 2)],[]⟩)] GR,lp []⟩
def Ct(C:cr):ah ((aa Int)):=bZ GR (((),C.aO,(C.aO.length:Int),0,()),(([]:aa Int),())) λD=>some D.2.1
def Py:=dV [(true,.nT)] Ci (cR Ct) 23 [] [apq] func116
abbrev aeM:=((aj×aj×(aa ji)×Int×Int×aj)×((Int×Int×Int×Int×aj)×((aa ji)×Int×aj)×aj))
def KP(x:aeM):ah (aeM⊕(((Bool×aj)×(aj))⊕(((aj×aj)×(((aa ji)×Int×aj)×aj))⊕Empty))):=letI u1:=x.1.2.2;letI D:=xG (((),(),u1.1,u1.2.1,(W6 (u1.2.2.1+1)),()),(x.2.1,x.2.2.1,()));bif u1.2.2.1<u1.2.1 then xI u1.1 u1.2.2.1 λC=>(bY C.row 0 (W6 (x.2.1.2.2.1-1))).bind λE=>bif (!E)then aM ((false,()),())else bif (!C.open_)then bif (C.row != 0)then aM ((false,()),())else D else D else bU (((),()),(x.2.2.1,()))
def apr:KY 58 (bG f72):=⟨0,lB 0 ⟨[(2,.aL 2 0),(3,.aL 3 0),(25,.lf (.aI .rR 0)),(26,tI),(27,tI)],[(2,.aD jD),(3,.aD Ws)],[]⟩ [(1,xH),(2,⟨[(3,.aL 3 0)],[(3,.aD Ws)],[]⟩)] KP,lp [dS]⟩
def KQ(C:aK)(D:cr):ah (Bool):=(sA C).bind λI=>bif (!I)then some false else (mK C).bind λO=>bif ((D.aO.length:Int) != O)then some false else (bY D.aS 0 2).bind λT=>bif (!T)then some false else dI KP (((),(),D.aO,(D.aO.length:Int),0,()),((C.cN,C.aO,C.rows,C.aW,()),(D.aO,D.aS,()),())) (λU=>some U.1.1) λE=>bif (E.2.1.2.1 != 2)then some true else (Ct (⟨E.2.1.1,E.2.1.2.1⟩:cr)).bind λY=>some ((Y.length:Int)==0)
def aeN:=dV [(true,.iq),(true,.nT)] eW (dH KQ) 58 [o8,dS,vG,Py] [apr] func72
def AR(C:Int):ah (Bool):=(bY C 1 5).bind λD=>some D
def Pz:=bX vE eW (cR AR) 5 [dS] func144
def Em(I:aK)(E:Int):ah (aQ×Bool):=letI u1:=W6 (E.tdiv 9);letI C:=W6 ((E.tmod 9)+1);(mK I).bind λD=>bif u1<D then (AR C).bind λO=>some ((⟨C,u1,0,0⟩:aQ),((decide (u1<D))==O))else (AR C).bind λT=>some ((⟨C,0,0,0⟩:aQ),((decide (u1<D))==T))
def aeO:=bX WC [(true,.Command,0),(false,.bool,0)] (dH Em) 27 [o8,Pz] func117
abbrev aeP:=((aj×aj×(aa Int)×Int×Int×aj)×((Int×Int×Int×Int×aj)×((aa Int)×(aa Int)×aj)×aj))
def KR(x:aeP):ah (aeP⊕(((Bool×aj)×(aj))⊕(((aj×aj)×(((aa Int)×(aa Int)×aj)×aj))⊕Empty))):=letI u1:=x.1.2.2;letI u2:=u1.2.2.1;letI C:=xG (((),(),u1.1,u1.2.1,(W6 (u2+1)),()),(x.2.1,x.2.2.1,()));bif u2<u1.2.1 then xI u1.1 u2 λD=>(Em (⟨x.2.1.1,x.2.1.2.1,x.2.1.2.2.1,x.2.1.2.2.2.1⟩:aK) u2).bind λE=>(bY D (-1) 1000000).bind λI=>bif (!I)then aM ((false,()),())else bif (!E.2)then bif (D != (-1))then aM ((false,()),())else C else C else bU (((),()),(x.2.2.1,()))
def aps:KY 82 (bG f73):=⟨0,lB 0 ⟨[(2,.aL 2 0),(3,.aL 3 0),(31,.lf (.aI .int 0)),(32,tI),(33,tI)],[(2,.aD jD),(3,.aD Kn)],[]⟩ [(1,xH),(2,⟨[(3,.aL 3 0)],[(3,.aD Kn)],[]⟩)] KR,lp [dS,aeO]⟩
abbrev aeQ:=((aj×(aa Int)×Int×Int×aj)×(((aa Int)×(aa Int)×aj)×aj))
def KS(x:aeQ):ah (aeQ⊕(((Bool×aj)×(aj))⊕(((aj)×(aj))⊕Empty))):=letI u1:=x.1.2.2.2.1;letI C:=xG (((),x.1.2.1,x.1.2.2.1,(W6 (u1+1)),()),(x.2.1,()));bif u1<x.1.2.2.1 then xI x.1.2.1 u1 λD=>(bY D 0 1000000).bind λE=>bif (!E)then aM ((false,()),())else bif u1 > 0 then xI x.2.1.2.1 (W6 (u1-1)) λI=>bif I >= D then aM ((false,()),())else C else C else bU ((),())
def apt:KY 82 (bG f73):=⟨2,lB 2 ⟨[(3,.aL 3 0),(57,.lf (.aI .int 0)),(58,tI),(59,tI)],[(3,.aD Kn)],[]⟩ [(1,xH),(4,qz)] KS,lp [dS]⟩
def GS(C:aK)(D:fj):ah (Bool):=(sA C).bind λI=>bif (!I)then some false else (mK C).bind λO=>bif ((D.last.length:Int) != (W6 (9*(W6 (O+1)))))then some false else bif (D.bq.length:Int) > 4 then some false else dI KR (((),(),D.last,(D.last.length:Int),0,()),((C.cN,C.aO,C.rows,C.aW,()),(D.last,D.bq,()),())) (λT=>some T.1.1) λE=>dI KS (((),E.2.1.2.1,(E.2.1.2.1.length:Int),0,()),(E.2.1,())) (λU=>some U.1.1) λY=>some true
def W5:=dV [(true,.iq),(true,.sW)] eW (dH GS) 82 [o8,vG] [aps,apt] func73
abbrev aeR:=((aj×(aa cw)×Int×Int×aj)×(((aa cw)×(aa Int)×(aa Int)×aj)×aj))
def KT(x:aeR):ah (aeR⊕(((Bool×aj)×(aj))⊕(((aj×aj)×(((aa cw)×(aa Int)×(aa Int)×aj)×aj))⊕Empty))):=letI C:=x.1.2.2;bif C.2.1<C.1 then xI x.1.2.1 C.2.1 λD=>(yY D.symbols 11).bind λE=>bif (!E)then aM ((false,()),())else xG (((),x.1.2.1,C.1,(W6 (C.2.1+1)),()),(x.2.1,()))else bU (((),()),(x.2.1,()))
def apu:KY 74 (bG f74):=⟨0,lB 0 ⟨[(3,.aL 3 0),(40,.lf (.aI .Cell 0)),(41,tI),(42,tI)],Ww,[]⟩ [(1,xH),(2,⟨[(3,.aL 3 0)],Ww,[]⟩)] KT,lp [KF]⟩
abbrev aeS:=((aj×Int×Int×aj)×(((aa cw)×(aa Int)×(aa Int)×aj)×aj))
def KU(x:aeS):ah (aeS⊕(((Bool×aj)×(aj))⊕(((aj)×(aj))⊕Empty))):=letI C:=x.1.2.2.1;bif C<x.1.2.1 then xI x.2.1.2.1 C λD=>(bY D 0 100000).bind λE=>bif (!E)then aM ((false,()),())else xI x.2.1.2.2.1 C λI=>(bY I 0 100000).bind λO=>bif (!O)then aM ((false,()),())else xG (((),x.1.2.1,(W6 (C+1)),()),(x.2.1,()))else bU ((),())
def apv:KY 74 (bG f74):=⟨2,lB 2 ⟨[(3,.aL 3 0),(53,tI),(54,tI)],Ww,[]⟩ [(1,xH),(4,qz)] KU,lp [dS]⟩
def En(D:aK)(C:c9):ah (Bool):=(mK D).bind λE=>(sA D).bind λO=>bif (!O)then some false else (vH D).bind λT=>bif ((C.cells.length:Int) != T)then some false else bif ((C.bx.length:Int) != (W6 (E*D.rows)))then some false else bif ((C.bg.length:Int) != (W6 (E*D.rows)))then some false else dI KT (((),C.cells,(C.cells.length:Int),0,()),((C.cells,C.bx,C.bg,()),())) (λU=>some U.1.1) λI=>dI KU (((),(I.2.1.2.1.length:Int),0,()),(I.2.1,())) (λY=>some Y.1.1) λZ=>some true
def W7:=dV [(true,.iq),(true,.Array)] eW (dH En) 74 [o8,vG,GH] [apu,apv] func74
def Eo(I:aK)(C:gv)(D:Int):ah (Nat×Nat):=letI E:=W6 (I.rows-C.cc);letI u2:=W6 (D*E);letI u1:=W6 ((W6 (D+1))*E);if 0 <= u2/\u2 <= u1/\u1 <= (C.map.length:Int)then some (u2.toNat,u1.toNat)else none
def PB:DN:=V8 [(true,.iq),(true,.tW),(false,.int)] 1 1 .int (λx=>Eo x.1 x.2.1 x.2.2.1)
def W8:enters Tryz.prog 119/\NS Tryz.prog 119 PB:=anR (N:=23) (fn:=f119) (code:=bG f119) (Φ:=(oe [])) (Λ:=(lG [])) (t:=.int) func119 (by kernel_rfl) (by kernel_rfl) (by kernel_rfl) (by kernel_rfl) (by kernel_rfl) (by kernel_rfl) (by kernel_rfl) (by kernel_rfl) (xD _ trivial) uF (λx=>by kernel_rfl)
end Go.Proofs.YthmgjjfedieljaaGreat
