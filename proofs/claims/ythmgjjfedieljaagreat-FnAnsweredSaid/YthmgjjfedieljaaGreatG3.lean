/-
  Functions of the program as plain functions of contents, and that the code computes them. Nothing here is a claim.
-/
import Derived.Test.YthmgjjfedieljaaGreatVZ
import Derived.Test.YthmgjjfedieljaaGreatRows
import Derived.Test.YthmgjjfedieljaaGreatG1
import Derived.Test.YthmgjjfedieljaaGreatG2
namespace Go.Proofs.YthmgjjfedieljaaGreat
set_option linter.defProp false
open Go.RowKit Go.Proofs.Tryz
set_option linter.unusedVariables false
set_option maxRecDepth 100000
abbrev aeT:=((Int×Int×(aa Int)×Int×Int×aj)×(aj))
def KV(x:aeT):ah (aeT⊕(((Int×aj)×(aj))⊕Empty)):=letI C:=x.1.2.2;letI u1:=C.2.2.1;bif u1<C.2.1 then xI C.1 u1 λD=>bif (D==x.1.1)then xG ((x.1.1,(W6 (x.1.2.1+1)),C.1,C.2.1,(W6 (u1+1)),()),())else xG ((x.1.1,x.1.2.1,C.1,C.2.1,(W6 (u1+1)),()),())else aM ((x.1.2.1,()),())
def apw:KY 21 (bG f120):=⟨0,lB 0 ⟨[(1,tI),(5,tI),(8,.lf (.aI .int 0)),(9,tI),(10,tI)],[],[]⟩ [(2,Gx)] KV,lp []⟩
def PC(C:aa Int)(D:Int):ah (Int):=bZ KV ((D,0,C,(C.length:Int),0,()),()) λE=>some E.1.1
def apx:=dV OU iz (dH PC) 21 [] [apw] func120
abbrev aeU:=((aj×aj×Int×Int×(aa Int)×(aa Int)×Int×Int×aj)×((Int×Int×Int×Int×aj)×(Int×(aa Int)×aj)×aj))
def GU(x:aeU):ah (aeU⊕(((Bool×aj)×(aj))⊕(((aj×aj×Int×Int×aj)×((Int×Int×Int×Int×aj)×(Int×(aa Int)×aj)×aj))⊕Empty))):=letI u2:=x.1.2.2;letI u1:=u2.2.2;letI u3:=u1.2.2.2.1;letI D:=xG (((),(),u2.1,u2.2.1,u1.1,u1.2.1,u1.2.2.1,(W6 (u3+1)),()),(x.2.1,x.2.2.1,()));bif u3<u1.2.2.1 then xI u1.2.1 u3 λC=>bif (C != u3)then (bY C u2.1 (W6 (x.2.1.2.2.1-1))).bind λE=>bif (!E)then aM ((false,()),())else (PC u1.1 C).bind λI=>bif I > 1 then aM ((false,()),())else D else D else bU (((),(),u2.1,u2.2.1,()),(x.2.1,x.2.2.1,()))
def apy:KY 71 (Cf (bG f75) 0):=⟨2,lB 2 ⟨[(2,.aL 2 0),(3,.aL 3 0),(7,tI),(8,tI),(9,.lf (.aI .int 0)),(45,.lf (.aI .int 0)),(46,tI),(47,tI)],[(2,.aD jD),(3,.aD Wv)],[]⟩ [(1,xH),(4,adG)] GU,lp [dS,apx]⟩
abbrev aeV:=((aj×aj×Int×Int×aj)×((Int×Int×Int×Int×aj)×(Int×(aa Int)×aj)×aj))
def KW(x:aeV):ah (aeV⊕(((Bool×aj)×(aj))⊕(((aj)×(aj))⊕Empty))):=letI u3:=x.1.2.2.2.1;letI u2:=x.2.2.1;letI u1:=(⟨x.2.1.1,x.2.1.2.1,x.2.1.2.2.1,x.2.1.2.2.2.1⟩:aK);(mK u1).bind λI=>bif u3<I then (Eo u1 (⟨u2.1,u2.2.1⟩:gv) u3).bind λC=>letI E:=(u2.2.1.take C.2).drop C.1;bif Nat.ble C.1 C.2&&Nat.ble C.2 u2.2.1.length then dI GU (((),(),x.1.2.2.1,u3,E,E,(E.length:Int),0,()),(x.2.1,u2,())) (λO=>aM ((O.1.1,()),())) λD=>xG (((),(),D.1.2.2.1,(W6 (D.1.2.2.2.1+1)),()),(D.2.1,D.2.2.1,()))else none else bU ((),())
def apz:KY 71 (bG f75):=⟨0,lB 0 adG [(1,xH),(2,qz)] KW,lq [o8,⟨119,.v PB,W8⟩] [apy]⟩
def KZ(C:aK)(D:gv):ah (Bool):=(GB C D.cc).bind λE=>bif (!E.2)then some false else bif ((D.map.length:Int) != (E.1.map.length:Int))then some false else dI KW (((),(),(W6 (C.rows-D.cc)),0,()),((C.cN,C.aO,C.rows,C.aW,()),(D.cc,D.map,()),())) (λI=>some I.1.1) λO=>some true
def aeW:=dV [(true,.iq),(true,.tW)] eW (dH KZ) 71 [WK] [apz] func75
def AS(C:aK)(D:aN):ah (Bool):=(sA C).bind λE=>bif E then (mK C).bind λI=>(bY D.aA 0 (W6 (I-1))).bind λO=>bif O then (bY D.row 0 (W6 (C.rows-1))).bind λT=>bif T then (bY D.cu 0 (W6 (C.aW-1))).bind λU=>some U else some false else some false else some false
def K0:=bX [(true,.iq),(true,.Addr)] eW (dH AS) 31 [o8,dS,vG] func32
abbrev aeX:=((aj×(aa Int)×Int×Int×aj)×(((aa Int)×Int×Bool×aj)×aj))
def K1(x:aeX):ah (aeX⊕(((Bool×aj)×(aj))⊕(((aj×aj)×(((aa Int)×Int×Bool×aj)×aj))⊕Empty))):=letI C:=x.1.2.2;bif C.2.1<C.1 then xI x.1.2.1 C.2.1 λD=>(bY D (-2) 5).bind λE=>bif (!E)then aM ((false,()),())else xG (((),x.1.2.1,C.1,(W6 (C.2.1+1)),()),(x.2.1,()))else bU (((),()),(x.2.1,()))
def apA:KY 25 (bG f86):=⟨0,lB 0 ⟨[(1,.aL 1 0),(6,.lf (.aI .int 0)),(7,tI),(8,tI)],[(1,.aD OS)],[]⟩ [(1,Cj),(2,⟨[(1,.aL 1 0)],[(1,.aD OS)],[]⟩)] K1,lp [dS]⟩
def AT(C:eC):ah (Bool):=dI K1 (((),C.aB,(C.aB.length:Int),0,()),((C.aB,C.wait,C.bO,()),())) (λE=>some E.1.1) λD=>(bY (D.2.1.1.length:Int) 1 8).bind λI=>bif I then (bY D.2.1.2.1 1 10000).bind λO=>some O else some false
def GV:=dV [(true,.nX)] eW (cR AT) 25 [dS] [apA] func86
abbrev aeY:=(((aa Int)×Int×Int×Int×aj)×(aj))
def K2(x:aeY):ah (aeY⊕(((Int×aj)×(aj))⊕(((aj)×(aj))⊕Empty))):=letI C:=x.1.2.2.2.1;bif C<x.1.2.2.1 then xI x.1.1 C λD=>bif (x.1.2.1==D)then aM ((C,()),())else xG ((x.1.1,x.1.2.1,x.1.2.2.1,(W6 (C+1)),()),())else bU ((),())
def apB:KY 19 (bG f145):=⟨0,lB 0 ⟨[(0,.lf (.aI .int 0)),(1,tI),(7,tI),(8,tI)],[],[]⟩ [(1,Ec),(2,qz)] K2,lp []⟩
def Ep(C:aa Int)(D:Int):ah (Int):=(iter K2 bC ((C,D,(C.length:Int),0,()),())).bind (Sum.elim (λE=>some E.1.1) (Sum.elim (λI=>some (-1)) (λz=>nomatch z)))
def W9:=dV OU iz (dH Ep) 19 [] [apB] func145
abbrev aeZ:=((aj×(aa Int)×Int×Int×aj)×(((aa Int)×(aa Int)×Int×aj)×aj))
def K3(x:aeZ):ah (aeZ⊕(((Bool×aj)×(aj))⊕(((aj)×(aj))⊕Empty))):=letI u3:=aM ((false,()),());letI u2:=x.1.2.2.2.1;letI u1:=xG (((),x.1.2.1,x.1.2.2.1,(W6 (u2+1)),()),(x.2.1,()));bif u2<x.1.2.2.1 then xI x.1.2.1 u2 λC=>letI D:=bif (C != (-1))then (Ep x.2.1.1 C).bind λE=>bif (E != u2)then u3 else u1 else u1;(bY C (-1) 15).bind λI=>bif (!I)then u3 else xI x.2.1.2.1 u2 λO=>(bY O x.2.1.2.2.1 100000).bind λT=>bif (!T)then u3 else bif (C==(-1))then xI x.2.1.2.1 u2 λU=>bif (U != 0)then u3 else D else D else bU ((),())
def apC:KY 72 (bG f121):=⟨0,lB 0 ⟨[(1,.aL 1 0),(26,.lf (.aI .int 0)),(27,tI),(28,tI)],[(1,.aD [.aI .int 0,.aI .int 0,.int .i64])],[]⟩ [(1,Cj),(2,qz)] K3,lp [dS,W9]⟩
def Cu(C:dc):ah (Bool):=letI D:=(C.rows.length:Int);(bY D 1 16).bind λE=>bif (!E)then some false else bif ((C.counts.length:Int) != D)then some false else (bY C.gj 0 100000).bind λI=>bif (!I)then some false else dI K3 (((),C.rows,D,0,()),((C.rows,C.counts,C.gj,()),())) (λO=>some O.1.1) λT=>some true
def ae0:=dV [(true,.qe)] eW (cR Cu) 72 [dS] [apC] func121
abbrev ae1:=(((aa aN)×aj×Int×Int×aj)×((Int×Int×Int×aj)×aj))
def K4(x:ae1):ah (ae1⊕(((Int×aj)×(aj))⊕(((aj)×(aj))⊕Empty))):=letI C:=x.1.2.2.2.1;bif C<x.1.2.2.1 then xI x.1.1 C λD=>bif ((x.2.1.1==D.aA)&&((x.2.1.2.1==D.row)&&((x.2.1.2.2.1==D.cu)&&true)))then aM ((C,()),())else xG ((x.1.1,(),x.1.2.2.1,(W6 (C+1)),()),(x.2.1,()))else bU ((),())
def apD:KY 19 (bG f122):=⟨0,lB 0 ⟨[(0,.lf (.aI .Addr 0)),(3,.aL 3 0),(7,tI),(8,tI)],[(3,.aD adT)],[]⟩ [(1,Ec),(2,qz)] K4,lp []⟩
def GW(D:aa aN)(C:aN):ah (Int):=(iter K4 bC ((D,(),(D.length:Int),0,()),((C.aA,C.row,C.cu,()),()))).bind (Sum.elim (λE=>some E.1.1) (Sum.elim (λI=>some (-1)) (λz=>nomatch z)))
def ae2:=dV [(false,(.sl .Addr)),(true,.Addr)] iz (dH GW) 19 [] [apD] func122
abbrev ae3:=((aj×aj×Int×Int×aj)×(au×(Int×Int×Int×Int×aj)×aj))
def PD(x:ae3):ah (ae3⊕(((Bool×aj)×(aj))⊕(((aj×aj×aj)×(au×(Int×Int×Int×Int×aj)×aj))⊕Empty))):=letI C:=x.1.2.2.2.1;bif C<x.1.2.2.1 then xI x.2.1.bF C λD=>(Cu D).bind λE=>bif (!E)then aM ((false,()),())else xI x.2.1.guard C λI=>(bY I 3 1000).bind λO=>bif (!O)then aM ((false,()),())else xG (((),(),x.1.2.2.1,(W6 (C+1)),()),(x.2.1,x.2.2.1,()))else bU (((),(),()),(x.2.1,x.2.2.1,()))
def apE:KY 94 (bG f76):=⟨0,lB 0 ⟨[(1,.aL 1 0),(3,.aL 3 0),(47,tI),(48,tI)],Wx,[]⟩ [(1,Cj),(2,⟨[(1,.aL 1 0),(3,.aL 3 0)],Wx,[]⟩)] PD,lp [dS,ae0]⟩
abbrev ae4:=((aj×aj×(aa aN)×Int×Int×aj)×(au×(Int×Int×Int×Int×aj)×aj))
def PE(x:ae4):ah (ae4⊕(((Bool×aj)×(aj))⊕(((aj)×(aj))⊕Empty))):=letI u2:=x.2.2.1;letI u1:=aM ((false,()),());letI C:=x.1.2.2;letI u3:=C.2.2.1;bif u3<C.2.1 then xI C.1 u3 λD=>(AS (⟨u2.1,u2.2.1,u2.2.2.1,u2.2.2.2.1⟩:aK) D).bind λE=>bif (!E)then u1 else bif (D.cu != 0)then u1 else (GW x.2.1.pending D).bind λI=>bif (I != u3)then u1 else xG (((),(),C.1,C.2.1,(W6 (u3+1)),()),(x.2.1,u2,()))else bU ((),())
def apF:KY 94 (bG f76):=⟨2,lB 2 ⟨[(1,.aL 1 0),(3,.aL 3 0),(69,.lf (.aI .Addr 0)),(70,tI),(71,tI)],Wx,[]⟩ [(1,Cj),(4,qz)] PE,lp [K0,ae2]⟩
def PF(C:au):ah (Bool):=(mK C.config.aq).bind λE=>(AT C.ay).bind λI=>bif (!I)then some false else bif ((C.ay.aB.length:Int) != E)then some false else bif ((C.bF.length:Int) != E)then some false else bif ((C.guard.length:Int) != E)then some false else bif (C.pending.length:Int) > 128 then some false else dI PD (((),(),(C.bF.length:Int),0,()),(C,(C.config.aq.cN,C.config.aq.aO,C.config.aq.rows,C.config.aq.aW,()),())) (λO=>some O.1.1) λD=>dI PE (((),(),D.2.1.pending,(D.2.1.pending.length:Int),0,()),(D.2.1,D.2.2.1,())) (λT=>some T.1.1) λU=>some true
def apG:=dV AN eW (cR PF) 94 [o8,GV] [apE,apF] func76
def PG(E:Int)(C:aR):ah (Bool):=letI D:=(bY C.at_ 0 1000000).bind λI=>some I;(bY C.id 1 100000).bind λO=>bif O then (bY C.cS 0 3).bind λT=>bif T then bif C.line >= 0 then bif C.line<E then (Eh C.data).bind λU=>bif U then bif C.write then D else bif (C.data==0)then D else some false else some false else some false else some false else some false else some false
def apH:=bX [(false,.int),(true,.dY)] eW (dH PG) 43 [dS,WR] func123
def K5(C D:aR):ah (Bool):=bif C.at_<D.at_ then some true else bif (C.at_==D.at_)then some (C.id<D.id)else some false
def ae5:=bX [(true,.dY),(true,.dY)] eW (dH K5) 24 [] func124
abbrev ae6:=((Int×(aa aR)×aj×(aa aR)×Int×Int×(aa aR)×Int×Int×aj)×((Int×Int×Int×Bool×Int×Int×aj)×aj))
def GX(x:ae6):ah (ae6⊕(((Bool×aj)×(aj))⊕(((Int×(aa aR)×(aa aR)×Int×Int×aj)×(aj))⊕Empty))):=letI C:=x.1.2.2.2.2;letI u1:=C.2.2;bif u1.2.2.1<u1.2.1 then xI u1.1 u1.2.2.1 λD=>bif (D.id==x.2.1.1)then aM ((false,()),())else xG ((x.1.1,x.1.2.1,(),x.1.2.2.2.1,C.1,C.2.1,u1.1,u1.2.1,(W6 (u1.2.2.1+1)),()),(x.2.1,()))else bU ((x.1.1,x.1.2.1,x.1.2.2.2.1,C.1,C.2.1,()),())
def ae7:KY 52 (Cf (bG f77) 0):=⟨2,lB 2 ⟨[(0,tI),(1,.lf (.aI .dY 0)),(6,.aL 6 0),(9,.lf (.aI .dY 0)),(10,tI),(11,tI),(36,.lf (.aI .dY 0)),(37,tI),(38,tI)],[(6,.aD Km)],[]⟩ [(1,xH),(4,adx)] GX,lp []⟩
abbrev ae8:=((Int×(aa aR)×(aa aR)×Int×Int×aj)×(aj))
def K6(x:ae8):ah (ae8⊕(((Bool×aj)×(aj))⊕((((aa aR)×aj)×(aj))⊕Empty))):=letI u3:=x.1.2;letI u1:=u3.2.2.2.1;letI u2:=(u3.1.take u1.toNat).drop (0:Int).toNat;bif u1<u3.2.2.1 then xI u3.2.1 u1 λC=>letI E:=if 0 <= (0:Int)/\0 <= u1/\u1 <= (u3.1.length:Int)then dI GX ((x.1.1,u3.1,(),u3.2.1,u3.2.2.1,u1,u2,(u2.length:Int),0,()),((C.id,C.cS,C.line,C.write,C.data,C.at_,()),())) (λI=>aM ((I.1.1,()),())) λD=>xG ((D.1.1,D.1.2.1,D.1.2.2.1,D.1.2.2.2.1,(W6 (D.1.2.2.2.2.1+1)),()),())else none;(PG x.1.1 C).bind λO=>bif (!O)then aM ((false,()),())else bif u1 > 0 then xI u3.1 (W6 (u1-1)) λT=>(K5 T C).bind λU=>bif (!U)then aM ((false,()),())else E else E else bU ((u3.1,()),())
def apI:KY 52 (bG f77):=⟨0,lB 0 adx [(1,xH),(2,⟨[(1,.lf (.aI .dY 0))],[],[]⟩)] K6,lq [apH,ae5] [ae7,ae7]⟩
def Er(D:Int)(C:aa aR):ah (Bool):=dI K6 ((D,C,C,(C.length:Int),0,()),()) (λE=>some E.1.1) λI=>some ((I.1.1.length:Int) <= 12)
def ae9:=dV [(false,.int),(false,(.sl .dY))] eW (dH Er) 52 [] [apI] func77
def AU(C:aK)(D:gv):ah (aK):=(KZ C D).bind λE=>bif (!E)then some (⟨0,0,0,0⟩:aK)else some (⟨C.cN,C.aO,(W6 (C.rows-D.cc)),C.aW⟩:aK)
def GY:=bX [(true,.iq),(true,.tW)] [(true,.iq,0)] (dH AU) 17 [aeW] func78
def Es(C:jM):ah (Bool):=(bY C.state 0 2).bind λD=>bif D then (bY C.since 0 1000000).bind λE=>bif E then (bY C.idle 0 1000000).bind λI=>some I else some false else some false
def PI:=bX [(true,.Power)] eW (cR Es) 16 [dS] func80
abbrev afa:=(((aa cY)×aj×(aa cY)×Int×Int×(aa cY)×Int×Int×aj)×((Int×Int×Int×aj)×aj))
def GZ(x:afa):ah (afa⊕(((Bool×aj)×(aj))⊕((((aa cY)×(aa cY)×Int×Int×aj)×(aj))⊕Empty))):=letI u2:=x.1.2.2;letI u1:=u2.2.2;letI C:=xG ((x.1.1,(),u2.1,u2.2.1,u1.1,u1.2.1,u1.2.2.1,(W6 (u1.2.2.2.1+1)),()),(x.2.1,()));bif u1.2.2.2.1<u1.2.2.1 then xI u1.2.1 u1.2.2.2.1 λD=>bif (x.2.1.1==D.line)then bif (x.2.1.2.1==D.code)then aM ((false,()),())else C else C else bU ((x.1.1,u2.1,u2.2.1,u1.1,()),())
def afb:KY 59 (Cf (bG f81) 0):=⟨2,lB 2 ⟨[(0,.lf (.aI .kE 0)),(4,.aL 4 0),(7,.lf (.aI .kE 0)),(8,tI),(9,tI),(36,.lf (.aI .kE 0)),(37,tI),(38,tI)],[(4,.aD adT)],[]⟩ [(1,Cj),(4,adH)] GZ,lp []⟩
abbrev afc:=(((aa cY)×(aa cY)×Int×Int×aj)×(aj))
def K7(x:afc):ah (afc⊕(((Bool×aj)×(aj))⊕((((aa cY)×aj)×(aj))⊕Empty))):=letI u3:=aM ((false,()),());letI u1:=x.1.2.2.2.1;letI u2:=(x.1.1.take u1.toNat).drop (0:Int).toNat;bif u1<x.1.2.2.1 then xI x.1.2.1 u1 λC=>letI E:=(bY C.times 1 999).bind λI=>bif (!I)then u3 else if 0 <= (0:Int)/\0 <= u1/\u1 <= (x.1.1.length:Int)then dI GZ ((x.1.1,(),x.1.2.1,x.1.2.2.1,u1,u2,(u2.length:Int),0,()),((C.line,C.code,C.times,()),())) (λO=>aM ((O.1.1,()),())) λD=>xG ((D.1.1,D.1.2.1,D.1.2.2.1,(W6 (D.1.2.2.2.1+1)),()),())else none;(bY C.line 0 1023).bind λT=>bif (!T)then u3 else bif (C.code != 1)then bif (C.code != 2)then u3 else E else E else bU ((x.1.1,()),())
def apJ:KY 59 (bG f81):=⟨0,lB 0 adH [(1,Cj),(2,⟨[(0,.lf (.aI .kE 0))],[],[]⟩)] K7,lq [dS] [afb,afb]⟩
def K8(C:aa cY):ah (Bool):=dI K7 ((C,C,(C.length:Int),0,()),()) (λD=>some D.1.1) λE=>some ((E.1.1.length:Int) <= 6)
def afd:=dV [(false,(.sl .kE))] eW (cR K8) 59 [] [apJ] func81
def AV(C:au):ah (Bool):=(tE C.config C.box.bW).bind λD=>bif (!D)then some false else (tE C.config C.box.next).bind λE=>bif (!E)then some false else (bY C.now 0 1000000).bind λI=>bif (!I)then some false else (KQ C.config.aq C.aG).bind λO=>bif (!O)then some false else (GS C.config.aq C.ready).bind λT=>bif (!T)then some false else (En C.config.aq C.array).bind λU=>bif (!U)then some false else (KZ C.config.aq C.spare).bind λY=>bif (!Y)then some false else bif (C.spare.cc != C.config.cc)then some false else (PF C).bind λZ=>bif (!Z)then some false else (AU C.config.aq C.spare).bind λy9=>(vH y9).bind λsx=>(Er sx C.queue).bind λsy=>bif (!sy)then some false else (GF C.shares).bind λCo=>bif (!Co)then some false else bif ((C.shares.length:Int) != 4)then some false else (Eg C.drain).bind λo7=>bif (!o7)then some false else (Es C.aS).bind λru=>bif (!ru)then some false else bif (C.aS.state != C.aG.aS)then some false else bif C.aS.since > C.now then some false else (bY C.dJ.every 1 100000).bind λuH=>bif uH then (bY C.dJ.wait 1 C.dJ.every).bind λtD=>bif tD then (vH C.config.aq).bind λuG=>(bY C.dJ.next 0 (W6 (uG-1))).bind λK9=>bif K9 then (K8 C.errors).bind λLb=>bif Lb then bif (C.trace.length:Int) <= 2000 then some ((C.aZ.length:Int) <= 400)else some false else some false else some false else some false else some false
def G0:=bX AN eW (cR AV) 155 [WQ,dS,GH,WM,aeN,W5,W7,aeW,apG,ae9,GY,Pd,PI,afd] func28
def Lc(C:aa aR):ah ((aa aR)):=bif xZ C then some (xA C)else none
def apK:=bX [(false,(.sl .dY))] [(false,(.sl .dY),2)] (cR Lc) 6 [] func125
abbrev afe:=((Int×(aa aR)×aj×Int×aj)×((Int×Int×Int×Bool×Int×Int×aj)×aj))
def Ld(x:afe):ah (afe⊕(((Int×(aa aR)×aj×Int×aj)×((Int×Int×Int×Bool×Int×Int×aj)×aj))⊕Empty)):=letI u2:=x.2.1;letI u1:=x.1.2.2.2.1;letI C:=aM ((x.1.1,x.1.2.1,(),u1,()),(u2,()));bif u1<(x.1.2.1.length:Int)then xI x.1.2.1 u1 λD=>(K5 D (⟨u2.1,u2.2.1,u2.2.2.1,u2.2.2.2.1,u2.2.2.2.2.1,u2.2.2.2.2.2.1⟩:aR)).bind λE=>bif E then xG ((x.1.1,x.1.2.1,(),(W6 (u1+1)),()),(u2,()))else C else C
def apL:KY 48 (bG f82):=⟨0,lB 0 adA [(2,adA)] Ld,lp [ae5]⟩
def PJ(O:Int)(T:aa aR)(C:aR):ah ((aa aR)×Bool):=bZ Ld ((O,T,(),0,()),((C.id,C.cS,C.line,C.write,C.data,C.at_,()),())) λD=>letI u6:=D.2.1.2;letI u5:=D.1.2.1;letI u4:=(Lc u5).bind λU=>some (U,false);letI u3:=D.1.2.2.2.1;letI u2:=(u5.length:Int);letI u1:=(u5.take u2.toNat).drop u3.toNat;letI E:=([(⟨D.2.1.1,u6.1,u6.2.1,u6.2.2.1,u6.2.2.2.1,u6.2.2.2.2.1⟩:aR)]:aa aR);if 0 <= (0:Int)/\0 <= u3/\u3 <= u2 then if 0 <= u3/\u3 <= u2/\u2 <= u2 then (Lc ((u5.take u3.toNat).drop (0:Int).toNat)).bind λI=>bif cB (I.length+E.length)then bif cB ((I++E).length+u1.length)then (Er D.1.1 u5).bind λY=>bif (!Y)then u4 else (Er D.1.1 ((I++E)++u1)).bind λZ=>bif (!Z)then u4 else some (((I++E)++u1),true)else none else none else none else none
def apM:=dV [(false,.int),(false,(.sl .dY)),(true,.dY)] [(false,(.sl .dY),2),(false,.bool,0)] (jC PJ) 48 [ae9,apK] [apL] func82
def apN:enters Tryz.prog 84/\uo Tryz.prog 84 (cj Tryz.prog f84 1 []):=ON (Kl 1 [] func84 trivial)
abbrev aff:=(((aa cI)×aR×Int×Int×aj)×(aj))
def Le(x:aff):ah (aff⊕(((Int×aj)×(aj))⊕(((aj)×(aj))⊕Empty))):=letI C:=x.1.2.2.2.1;bif C<x.1.2.2.1 then xI x.1.1 C λD=>bif (D.id==x.1.2.1.id)then aM ((C,()),())else xG ((x.1.1,x.1.2.1,x.1.2.2.1,(W6 (C+1)),()),())else bU ((),())
def apO:KY 19 (bG f126):=⟨0,lB 0 ⟨[(0,.lf (.aI .mw 0)),(1,.fc 84 .dY),(7,tI),(8,tI)],[],[]⟩ [(1,Ec),(2,qz)] Le,lp [⟨84,.i _,apN⟩]⟩
def Xa(C:aa cI)(D:aR):ah (Int):=(iter Le bC ((C,D,(C.length:Int),0,()),())).bind (Sum.elim (λE=>some E.1.1) (Sum.elim (λI=>some (-1)) (λz=>nomatch z)))
def apP:KX:=⟨126,.q (jB [(false,(.sl .mw)),(false,(.Da 84))] [(false,.int,0)] λx=>Xa x.1 x.2.1),kq 19 [] [apO] func126⟩
def PL(C:aa cI)(D:aR):ah (Bool):=(Xa C D).bind λE=>some (decide (E >= 0))
def apQ:KX:=⟨83,.q (jB [(false,(.sl .mw)),(false,(.Da 84))] [(false,.bool,0)] λx=>PL x.1 x.2.1),kp 9 [apP] func83⟩
def PN(C:au)(D:aR):ah (au×Bool):=letI E:=(⟨D.id,D.cS,D.line,D.write,D.data,C.now⟩:aR);(AQ C).bind λI=>letI u1:=some (I,false);(AV C).bind λT=>bif (!T)then u1 else (AU C.config.aq C.spare).bind λU=>(vH U).bind λY=>(PJ Y C.queue E).bind λO=>(PL C.aZ E).bind λZ=>bif (!O.2)then u1 else bif Z then u1 else some ({I with queue:=O.1},true)
def apR:=bX [(true,.eU),(true,.dY)] OV (dH PN) 46 [GQ,G0,GH,GY,apM,apQ] func29
def apS:bN:=⟨[(1,tI),(2,.aL 2 0),(4,.aL 4 0),(5,.aL 5 0),(28,tI),(29,tI)],adp,[]⟩
def apT:aa (Nat×bN):=[(2,⟨[(1,tI),(2,.aL 2 0),(4,.aL 4 0),(5,.aL 5 0)],adp,[]⟩)]
abbrev afg:=((Int×aj×aj×aj×Int×Int×aj)×(((aa Int)×Int×Bool×aj)×(aj×Int×Bool×aj)×(aj×Int×Bool×aj)×(aa Int)×(aa Int)×aj))
def Lg(x:afg):ah (afg⊕(((Int×aj×aj×aj×aj)×(((aa Int)×Int×Bool×aj)×(aj×Int×Bool×aj)×(aj×Int×Bool×aj)×(aa Int)×(aa Int)×aj))⊕Empty)):=letI u2:=((),x.2.2.1.2.1,x.2.2.1.2.2.1,());letI u1:=x.2.2.2;letI u4:=u1.2.2.1;letI u3:=((),u1.1.2.1,u1.1.2.2.1,());letI C:=x.1.2.2.2.2;bif C.2.1<C.1 then xL u4 C.2.1 λD=>letI u5:=W6 (D+1);xL u4 C.2.1 λE=>xG ((x.1.1,(),(),(),C.1,(W6 (C.2.1+1)),()),(x.2.1,u2,u3,u1.2.1,(u4.set C.2.1.toNat (if 5<u5 then 5 else u5)),()))else aM ((x.1.1,(),(),(),()),(x.2.1,u2,u3,u1.2.1,u4,()))
def apU:KY 52 (bG f90):=⟨0,lB 0 apS apT Lg,lp []⟩
def PO(D:eC)(O:Int):ah (eC):=(AP D).bind λC=>letI I:=W6 (C.wait-1);(AT D).bind λT=>bif (!T)then some C else (bY O 2 10000).bind λU=>bif (!U)then some C else bif I > 0 then some (⟨C.aB,I,C.bO⟩:eC)else bZ Lg ((O,(),(),(),(C.aB.length:Int),0,()),((D.aB,D.wait,D.bO,()),((),0,false,()),((),I,C.bO,()),([]:aa Int),C.aB,())) λE=>letI u1:=E.2.2.2;bif E.2.1.2.2.1 then some (⟨u1.2.2.1,(W6 (E.1.1.tdiv 2)),u1.1.2.2.1⟩:eC)else some (⟨u1.2.2.1,E.1.1,u1.1.2.2.1⟩:eC)
def apV:=dV [(true,.nX),(false,.int)] [(true,.nX,2)] (dH PO) 52 [dS,Pv,GV] [apU] func90
def apW:bN:=⟨[(2,tI),(6,.aL 6 0),(7,.aL 7 0),(23,tI),(24,tI)],adm,[]⟩
def apX:aa (Nat×bN):=[(2,⟨[(6,.aL 6 0),(7,.aL 7 0)],adm,[]⟩)]
abbrev afh:=((Int×aj×aj×Int×Int×aj)×((aj×aj×aj×aj)×(aj×aj×aj×aj)×(aa cw)×(aa Int)×(aa Int)×(aa cw)×(aa Int)×(aa Int)×aj))
def Lh(x:afh):ah (afh⊕(((aj×aj×aj)×((aj×aj×aj×aj)×(aj×aj×aj×aj)×(aa cw)×(aa Int)×(aa Int)×(aa cw)×(aa Int)×(aa Int)×aj))⊕Empty)):=letI u4:=x.2.2.2;letI u2:=((),(),(),());letI u1:=x.1.2.2.2.2.1;letI C:=u4.2.2;letI u5:=C.2.2;bif u1<x.1.2.2.2.1 then xL u5.1 u1 λD=>letI u3:=W6 (D+x.1.1);xL u5.1 u1 λE=>xG ((x.1.1,(),(),x.1.2.2.2.1,(W6 (u1+1)),()),(u2,u2,u4.1,u4.2.1,C.1,C.2.1,(u5.1.set u1.toNat (if 100000<u3 then 100000 else u3)),u5.2.1,()))else aM (((),(),()),(u2,u2,u4.1,u4.2.1,C.1,C.2.1,u5.1,u5.2.1,()))
def apY:KY 41 (bG f91):=⟨0,lB 0 apW apX Lh,lp []⟩
def Li(O:aK)(E:c9)(I:Int):ah (c9):=(El E).bind λC=>(En O E).bind λT=>bif (!T)then some C else (bY I 0 100000).bind λU=>bif (!U)then some C else bZ Lh ((I,(),(),(C.bx.length:Int),0,()),(((),(),(),()),((),(),(),()),([]:aa cw),([]:aa Int),([]:aa Int),C.cells,C.bx,C.bg,())) λY=>letI D:=Y.2.2.2.2.2.2;some (⟨D.1,D.2.1,D.2.2.1⟩:c9)
def apZ:=dV [(true,.iq),(true,.Array),(false,.int)] [(true,.Array,4)] (jC Li) 41 [dS,WW,W7] [apY] func91
def G1(C:m0)(D:Int):ah (m0):=(Eg C).bind λE=>bif (!E)then some C else bif D >= C.high then some (⟨true,C.low,C.high⟩:m0)else bif D <= C.low then some (⟨false,C.low,C.high⟩:m0)else some C
def ap0:=bX [(true,.wF),(false,.int)] [(true,.wF,0)] (dH G1) 22 [Pd] func92
abbrev afi:=((Bool×Int×(aa aR)×Int×Int×aj)×(aj))
def Lj(x:afi):ah (afi⊕(((Int×aj)×(aj))⊕Empty)):=letI C:=x.1.2.2;letI u1:=C.2.2.1;bif u1<C.2.1 then xI C.1 u1 λD=>bif (D.write==x.1.1)then xG ((x.1.1,(W6 (x.1.2.1+1)),C.1,C.2.1,(W6 (u1+1)),()),())else xG ((x.1.1,x.1.2.1,C.1,C.2.1,(W6 (u1+1)),()),())else aM ((x.1.2.1,()),())
def ap1:KY 22 (bG f93):=⟨0,lB 0 ⟨[(1,tB),(5,tI),(8,.lf (.aI .dY 0)),(9,tI),(10,tI)],[],[]⟩ [(2,Gx)] Lj,lp []⟩
def G2(C:aa aR)(D:Bool):ah (Int):=bZ Lj ((D,0,C,(C.length:Int),0,()),()) λE=>some E.1.1
def ap2:=dV [(false,(.sl .dY)),(false,.bool)] iz (dH G2) 22 [] [ap1] func93
def G3(C:jM)(E:Bool):ah (jM):=letI D:=W6 (C.idle+1);(Es C).bind λI=>bif (!I)then some C else bif E then some (⟨C.state,C.since,0⟩:jM)else some (⟨C.state,C.since,(if 1000000<D then 1000000 else D)⟩:jM)
def ap3:=bX [(true,.Power),(false,.bool)] [(true,.Power,0)] (dH G3) 18 [PI] func94
abbrev afj:=((aj×(aa Int)×Int×Int×aj)×((aa Int)×aj))
def Lk(x:afj):ah (afj⊕(((aj×aj)×((aa Int)×aj))⊕Empty)):=letI u1:=x.1.2.2.2.1;letI C:=((),x.1.2.1,x.1.2.2.1,(W6 (u1+1)),());bif u1<x.1.2.2.1 then xI x.1.2.1 u1 λD=>bif D >= 4 then bif cB (x.2.1.length+([u1]:aa Int).length)then xG (C,((x.2.1++([u1]:aa Int)),()))else none else xG (C,(x.2.1,()))else aM (((),()),(x.2.1,()))
def ap4:KY 26 (bG f129):=⟨0,lB 0 ⟨[(3,.lf (.own 9)),(11,.lf (.aI .int 0)),(12,tI),(13,tI)],[(9,.sl .int 2)],[]⟩ [(2,⟨[(3,.lf (.own 9))],[(9,.sl .int 2)],[]⟩)] Lk,lp []⟩
def G4(C:eC):ah ((aa Int)):=(AT C).bind λD=>bif (!D)then some ([])else bZ Lk (((),C.aB,(C.aB.length:Int),0,()),(([]:aa Int),())) λE=>some E.2.1
def Xc:=dV [(true,.nX)] Ci (cR G4) 26 [GV] [ap4] func129
def Cv(C:au):ah (Bool):=bif (C.queue.length:Int) > 0 then some true else bif (C.pending.length:Int) > 0 then some true else (G4 C.ay).bind λD=>some ((D.length:Int) > 0)
def afk:=bX AN eW (cR Cv) 20 [Xc] func95
def Et(C:lO)(E:Bool):ah (lO×Bool):=(GL C).bind λD=>bif (!E)then some (D,false)else bif (!C.waits)then some (D,false)else (vJ C.next).bind λI=>some ((⟨I,D.next,false⟩:lO),true)
def ap5:=bX [(true,.uW),(false,.bool)] Wy (dH Et) 23 [Pm,WV] func96
def AX(C:wE)(D:Int):ah (wE×Int):=letI E:=some (C,(-1));(bY C.every 1 100000).bind λI=>bif (!I)then E else (bY C.wait 1 C.every).bind λO=>bif (!O)then E else bif D<1 then E else (bY C.next 0 (W6 (D-1))).bind λT=>bif (!T)then E else bif (W6 (C.wait-1)) > 0 then some ((⟨C.next,C.every,(W6 (C.wait-1))⟩:wE),(-1))else if D=0 then none else some ((⟨((W6 (C.next+1)).tmod D),C.every,C.every⟩:wE),C.next)
def ap6:=bX [(true,.yp),(false,.int)] [(true,.yp,0),(false,.int,0)] (dH AX) 52 [dS] func97
def PR(D:aa Int):ah (Bool):=(Cq D).bind λC=>bif lz C then none else xL C (0:Int) λE=>bif (E==0)then xL C (1:Int) λI=>bif (I==0)then xL C (2:Int) λO=>some (O==0)else some false else some false
def ap7:=bX Cl eW (cR PR) 26 [WS] func146
abbrev afl:=((Int×Int×aj)×(aj))
def afm(x:afl):ah (afl⊕(((Int×aj)×(aj))⊕(((aj)×(aj))⊕Empty))):=bif x.1.2.1<15 then (KH 2 x.1.2.1).bind λC=>bif (C==x.1.1)then aM ((x.1.2.1,()),())else xG ((x.1.1,(W6 (x.1.2.1+1)),()),())else bU ((),())
def ap8:KY 13 (bG f147):=⟨0,lB 0 adR [(1,⟨[(2,tI)],[],[]⟩),(2,qz)] afm,lp [aeg]⟩
def PS(C:Int):ah (Int):=dI afm ((C,0,()),()) (λD=>some D.1.1) λE=>some (-1)
def ap9:=dV vE iz (cR PS) 13 [] [ap8] func147
def Ll(E:aa Int):ah ((aa Int)×Int×Int):=letI u1:=xA E;letI I:=some (u1,2,(-1));(Cq E).bind λD=>bif lz D then none else bif xZ E then (PR E).bind λT=>bif T then some (u1,0,(-1))else xL D (0:Int) λU=>bif (U != 0)then xL D (1:Int) λY=>bif (Y != 0)then xL D (1:Int) λZ=>xL D (0:Int) λyZ=>(Ej yZ).bind λuH=>(kW Z uH).bind λO=>(PS O).bind λC=>bif C<11 then xL D (1:Int) λe20=>xL D (2:Int) λe23=>(kW e20 O).bind λCr=>bif (Cr==e23)then xC u1 C (if h26:C.toNat<u1.length then (let Pg:=u1[C.toNat]'h26;xL D (0:Int) λWT=>xC u1 C (if h32:C.toNat<u1.length then (let e33:=u1[C.toNat]'h32;some ((u1.set C.toNat (bits .xor .i64 Pg WT)),1,C))else none))else none)else I else I else I else I else none
def afn:=bX Cl [(false,(.sl .int),2),(false,.int,0),(false,.int,0)] (cR Ll) 64 [WS,ael,KG,ap7,ap9] func130
abbrev afo:=((Int×(aa Int)×Int×Int×aj)×(aj))
def Ln(x:afo):ah (afo⊕(((Int×aj)×(aj))⊕Empty)):=letI C:=x.1.2.2.2.1;bif C<x.1.2.2.1 then xI x.1.2.1 C λD=>if (W6 (4*C))<0 then none else xG (((bits .or .i64 x.1.1 (W6 (D*2 ^ (min (W6 (4*C)).toNat IntKind.i64.bits)))),x.1.2.1,x.1.2.2.1,(W6 (C+1)),()),())else aM ((x.1.1,()),())
def aqa:KY 25 (bG f148):=⟨0,lB 0 ⟨[(4,tI),(10,.lf (.aI .int 0)),(11,tI),(12,tI)],[],[]⟩ [(2,Ec)] Ln,lp []⟩
def PT(C:aa Int):ah (Int×Bool):=(yY C 8).bind λD=>bif (!D)then some (0,false)else bZ Ln ((0,C,(C.length:Int),0,()),()) λE=>some (E.1.1,true)
def aqb:=dV Cl [(false,.int,0),(false,.bool,0)] (cR PT) 25 [KF] [aqa] func148
def PU(D:aa Int):ah ((aa Int)):=letI C:=(D.length:Int);letI u1:=(D.take C.toNat).drop (3:Int).toNat;(yY D 11).bind λE=>bif (!E)then some ([])else if 0 <= (3:Int)/\3 <= C/\C <= C then bif xZ u1 then some (xA u1)else none else none
def aqc:=bX Cl Ci (cR PU) 10 [KF] func149
def PW(D:aa Int):ah (Int×Int×Int):=(Ll D).bind λC=>bif (C.2.1==2)then some (0,C.2.1,C.2.2)else (PU C.1).bind λE=>(PT E).bind λI=>some (I.1,C.2.1,C.2.2)
def aqd:=bX Cl [(false,.int,0),(false,.int,0),(false,.int,0)] (cR PW) 29 [afn,aqb,aqc] func131
def Lo(C:aa cY):ah ((aa cY)):=bif xZ C then some (xA C)else none
def aqe:=bX [(false,(.sl .kE))] [(false,(.sl .kE),2)] (cR Lo) 6 [] func150
abbrev afp:=((Int×Int×aj×aj×Int×Int×aj)×((aa cY)×aj))
def Lp(x:afp):ah (afp⊕(((aj×Bool×aj)×((aa cY)×aj))⊕(((Int×Int×aj×aj)×((aa cY)×aj))⊕Empty))):=letI u1:=x.1.2.2.2.2;letI D:=xG ((x.1.1,x.1.2.1,(),(),u1.1,(W6 (u1.2.1+1)),()),(x.2.1,()));bif u1.2.1<u1.1 then xL x.2.1 u1.2.1 λC=>letI u2:=W6 (C.times+1);bif (C.line==x.1.1)then bif (C.code==x.1.2.1)then xL x.2.1 u1.2.1 λE=>aM (((),true,()),((x.2.1.set u1.2.1.toNat (⟨E.line,E.code,(if 999<u2 then 999 else u2)⟩:cY)),()))else D else D else bU ((x.1.1,x.1.2.1,(),()),(x.2.1,()))
def aqf:KY 69 (bG f132):=⟨0,lB 0 adq [(1,adJ),(2,adE)] Lp,lp []⟩
abbrev afq:=((Int×Int×aj×aj×Int×Int×aj)×((aa cY)×aj))
def Xd(x:afq):ah (afq⊕(((aj×Bool×aj)×((aa cY)×aj))⊕(((Int×Int×aj×aj)×((aa cY)×aj))⊕Empty))):=letI u1:=x.1.2.2.2.2;letI D:=xG ((x.1.1,x.1.2.1,(),(),u1.1,(W6 (u1.2.1+1)),()),(x.2.1,()));bif u1.2.1<u1.1 then xL x.2.1 u1.2.1 λC=>letI u2:=W6 (C.times+1);bif (C.line==x.1.1)then bif (C.code==x.1.2.1)then xL x.2.1 u1.2.1 λE=>aM (((),true,()),((x.2.1.set u1.2.1.toNat (⟨E.line,E.code,(if 999<u2 then 999 else u2)⟩:cY)),()))else D else D else bU ((x.1.1,x.1.2.1,(),()),(x.2.1,()))
def aqg:KY 69 (bG f132):=⟨0,lB 0 adq [(1,adJ),(2,adE)] Xd,lp []⟩
def PX(T:aa cY)(U I:Int):ah ((aa cY)×Bool):=(Lo T).bind λO=>letI u5:=some (O,false);letI u4:=((U,I,(),(),(O.length:Int),0,()),(O,()));(K8 T).bind λy2=>bif (!y2)then u5 else (bY U 0 1023).bind λy3=>bif (!y3)then u5 else bif (I != 1)then bif (I != 2)then u5 else dI Lp u4 (λY=>some (Y.2.1,Y.1.2.1)) λC=>letI u2:=(C.2.1.length:Int);letI E:=([(⟨C.1.1,C.1.2.1,1⟩:cY)]:aa cY);bif (u2==6)then if 0 <= (1:Int)/\1 <= u2/\u2 <= u2 then (Lo ((C.2.1.take (u2.toNat)).drop ((1:Int).toNat))).bind λZ=>bif cB (Z.length+E.length)then some ((Z++E),true)else none else none else bif cB (C.2.1.length+E.length)then some ((C.2.1++E),true)else none else dI Xd u4 (λPY=>some (PY.2.1,PY.1.2.1)) λD=>letI u3:=(D.2.1.length:Int);letI u1:=([(⟨D.1.1,D.1.2.1,1⟩:cY)]:aa cY);bif (u3==6)then if 0 <= (1:Int)/\1 <= u3/\u3 <= u3 then (Lo ((D.2.1.take (u3.toNat)).drop ((1:Int).toNat))).bind λo9=>bif cB (o9.length+u1.length)then some ((o9++u1),true)else none else none else bif cB (D.2.1.length+u1.length)then some ((D.2.1++u1),true)else none
def aqh:=dV [(false,(.sl .kE)),(false,.int),(false,.int)] [(false,(.sl .kE),2),(false,.bool,0)] (jC PX) 69 [dS,afd,aqe] [aqf,aqg] func132
def AY(C:au)(E D:Int):ah ((aj)×(au×aj)):=bif (D != 0)then (PX C.errors E D).bind λI=>some ((),({C with errors:=I.1},()))else some ((),(C,()))
def afr:=qx adP [] (jC AY) 21 [aqh] func99
end Go.Proofs.YthmgjjfedieljaaGreat
