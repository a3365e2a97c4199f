/-
  Functions of the program as plain functions of contents, and that the code computes them. Nothing here is a claim.
-/
import Derived.Test.YtglnbhiaknohlaaGreatVZ
import Derived.Test.YtglnbhiaknohlaaGreatRows
import Derived.Test.YtglnbhiaknohlaaGreatG1
import Derived.Test.YtglnbhiaknohlaaGreatG2
import Derived.Test.YtglnbhiaknohlaaGreatG3
import Derived.Test.YtglnbhiaknohlaaGreatG4
namespace Go.Proofs.YtglnbhiaknohlaaGreat
set_option linter.defProp false
open Go.RowKit Go.Proofs.Tryz
set_option linter.unusedVariables false
set_option maxRecDepth 100000
abbrev af9:=((af×Int×af×af×Int×af)×((af×Int×Int×af)×eB×(aa ke)×(aa Int)×af))
def JM(x:af9):ah (af9⊕(((af×af)×((aa ke)×(af×Int×Int×af)×(aa Int)×af))⊕Empty)):=letI I:=x.1.2.2.2.2.1;letI C:=x.2.2.2;(cX (⟨C.2.1,x.2.1.2.1,x.2.1.2.2.1⟩:aX) (W6 (x.1.2.1+1))).bind λD=>bif I<D.1 then (PB (⟨C.2.1,D.2.1.i,D.2.1.h⟩:aX) x.2.2.1 (W6 (I+1))).bind λE=>bif bF (C.1.length+[E.1].length)then xG (((),x.1.2.1,(),(),(W6 (I+1)),()),(((),E.2.1.i,E.2.1.h,()),x.2.2.1,(C.1++[E.1]),C.2.1,()))else none else az (((),()),(C.1,((),D.2.1.i,D.2.1.h,()),C.2.1,()))
def aui:KY 27 (bw f93):=⟨0,lB 0 ⟨[(0,.aO 20000 0),(2,tI),(4,.aO 4 0),(7,.lf (.own 9)),(8,tI)],[(20000,.aC ad0),(4,.st .Config),(9,.sl .Act 4),(20001,.sl .u8 0)],[]⟩ [(2,⟨[(7,.lf (.own 9))],[(9,.sl .Act 4),(20000,.aC ad0),(20001,.sl .u8 0)],[]⟩)] JM,lp [iJ,auh]⟩
def PC(C:aX)(E:eB)(I:Int):ah (((aa ke))×(aX×af)):=bA JM (((),I,(),(),0,()),(((),C.i,C.h,()),E,([]:aa ke),C.b,())) λD=>some (D.2.1,((⟨C.b,D.2.2.1.2.1,D.2.2.1.2.2.1⟩:aX),()))
def auj:=n6 adX [(false,(.sl .Act),4)] (gA PC) 27 [] [aui] func93
def JN(C:aX):ah ((av)×(aX×af)):=(H7 C).bind λD=>(JH (⟨C.b,D.2.1.i,D.2.1.h⟩:aX)).bind λE=>(PC (⟨C.b,E.2.1.i,E.2.1.h⟩:aX) D.1 12).bind λI=>(Py D.1 E.1 I.1).bind λL=>some (L.1,((⟨C.b,I.2.1.i,I.2.1.h⟩:aX),()))
def xD:=gV qY [(true,.de,4)] (bP JN) 19 [ad8,aue,af5,auj] func24
def JO(C:aX):ah ((aN)×(aX×af)):=(cX C 2).bind λD=>(cX (⟨C.b,D.2.1.i,D.2.1.h⟩:aX) 4).bind λE=>(cX (⟨C.b,E.2.1.i,E.2.1.h⟩:aX) 7).bind λI=>(cX (⟨C.b,I.2.1.i,I.2.1.h⟩:aX) 4).bind λL=>some ((⟨(W6 (1+D.1)),(W6 (1+E.1)),(W6 (2+I.1)),(W6 (1+L.1))⟩:aN),((⟨C.b,L.2.1.i,L.2.1.h⟩:aX),()))
def xE:=gV qY [(true,.fH,0)] (bP JO) 16 [iJ] func135
def PD(C:aX):ah ((Int)×(aX×af)):=(qZ C 8).bind λD=>letI L:=(⟨C.b,D.2.1.i,D.2.1.h⟩:aX);bif D.1 then (fO L ([(-1),4294967296,9223372036854775807,(-9223372036854775808)]:aa Int)).bind λE=>some (E.1,((⟨C.b,E.2.1.i,E.2.1.h⟩:aX),()))else (JI L).bind λI=>some (I.1,((⟨C.b,I.2.1.i,I.2.1.h⟩:aX),()))
def auk:=gV qY en (bP PD) 10 [tM,kD,af6] func217
def JP(D:aX)(x1:Int):ah ((aU)×(aX×af)):=(Cm D x1).bind λL=>letI C:=L.1;(cX (⟨D.b,L.2.1.i,L.2.1.h⟩:aX) 16).bind λE=>letI I:=(⟨D.b,E.2.1.i,E.2.1.h⟩:aX);bif (E.1==0)then (fO I ([0,(-1),100000,100001]:aa Int)).bind λO=>some ((⟨O.1,C.dh,C.line,C.write,C.data,C.at_⟩:aU),((⟨D.b,O.2.1.i,O.2.1.h⟩:aX),()))else bif (E.1==1)then (fO I ([(-1),3,4]:aa Int)).bind λT=>some ((⟨C.id,T.1,C.line,C.write,C.data,C.at_⟩:aU),((⟨D.b,T.2.1.i,T.2.1.h⟩:aX),()))else bif (E.1==2)then (fO I ([(-1),x1,9223372036854775807]:aa Int)).bind λU=>some ((⟨C.id,C.dh,U.1,C.write,C.data,C.at_⟩:aU),((⟨D.b,U.2.1.i,U.2.1.h⟩:aX),()))else bif (E.1==3)then (PD I).bind λY=>some ((⟨C.id,C.dh,C.line,C.write,Y.1,C.at_⟩:aU),((⟨D.b,Y.2.1.i,Y.2.1.h⟩:aX),()))else bif (E.1==4)then (fO I ([(-1),1000000,1000001]:aa Int)).bind λZ=>some ((⟨C.id,C.dh,C.line,C.write,C.data,Z.1⟩:aU),((⟨D.b,Z.2.1.i,Z.2.1.h⟩:aX),()))else some (C,(I,()))
def xF:=gV N7 [(true,.dV,0)] (bV JP) 42 [iJ,kD,af7,auk] func136
def PE(D:aX):ah ((cP)×(aX×af)):=(Oe).bind λC=>(qZ D 2).bind λE=>letI Y:=(⟨D.b,E.2.1.i,E.2.1.h⟩:aX);bif E.1 then (cX Y 6).bind λI=>(cX (⟨D.b,I.2.1.i,I.2.1.h⟩:aX) 20).bind λL=>(cX (⟨D.b,L.2.1.i,L.2.1.h⟩:aX) 9).bind λO=>(cX (⟨D.b,O.2.1.i,O.2.1.h⟩:aX) 20).bind λT=>(cX (⟨D.b,T.2.1.i,T.2.1.h⟩:aX) 8).bind λU=>some ((⟨C.fB,(W6 (1+I.1)),C.ef,C.gn,C.fo,(W6 (4+T.1)),C.gp,C.ga,C.eT,(W6 (1+O.1)),C.gd,C.gq,(W6 (1+U.1)),(W6 (4+L.1)),C.gv,C.xp,C.xs⟩:cP),((⟨D.b,U.2.1.i,U.2.1.h⟩:aX),()))else some (C,(Y,()))
def aul:=gV qY [(true,.kf,0)] (bP PE) 28 [iJ,tM,ad7] func298
def PF(D:aX):ah ((cP)×(aX×af)):=(PE D).bind λL=>letI C:=L.1;(cX (⟨D.b,L.2.1.i,L.2.1.h⟩:aX) 16).bind λE=>letI I:=(⟨D.b,E.2.1.i,E.2.1.h⟩:aX);bif (E.1==0)then (fO I ([0,8,65]:aa Int)).bind λO=>some ((⟨O.1,C.rp,C.ef,C.gn,C.fo,C.fC,C.gp,C.ga,C.eT,C.wr,C.gd,C.gq,C.gO,C.gu,C.gv,C.xp,C.xs⟩:cP),((⟨D.b,O.2.1.i,O.2.1.h⟩:aX),()))else bif (E.1==1)then (fO I ([3,4,0]:aa Int)).bind λT=>some ((⟨C.fB,C.rp,C.ef,C.gn,C.fo,C.fC,T.1,C.ga,C.eT,C.wr,C.gd,C.gq,C.gO,C.gu,C.gv,C.xp,C.xs⟩:cP),((⟨D.b,T.2.1.i,T.2.1.h⟩:aX),()))else bif (E.1==2)then (fO I ([3,4,65]:aa Int)).bind λU=>some ((⟨C.fB,C.rp,C.ef,C.gn,C.fo,C.fC,C.gp,C.ga,C.eT,C.wr,C.gd,U.1,C.gO,C.gu,C.gv,C.xp,C.xs⟩:cP),((⟨D.b,U.2.1.i,U.2.1.h⟩:aX),()))else bif (E.1==3)then (fO I ([64,65,(-1)]:aa Int)).bind λY=>some ((⟨C.fB,C.rp,C.ef,C.gn,C.fo,C.fC,C.gp,C.ga,C.eT,C.wr,C.gd,C.gq,C.gO,C.gu,C.gv,C.xp,Y.1⟩:cP),((⟨D.b,Y.2.1.i,Y.2.1.h⟩:aX),()))else bif (E.1==4)then (fO I ([3,4]:aa Int)).bind λZ=>some ((⟨C.fB,C.rp,C.ef,Z.1,C.fo,C.fC,C.gp,C.ga,C.eT,C.wr,C.gd,C.gq,C.gO,C.gu,C.gv,C.xp,C.xs⟩:cP),((⟨D.b,Z.2.1.i,Z.2.1.h⟩:aX),()))else some (C,(I,()))
def aum:=gV qY [(true,.kf,0)] (bP PF) 39 [iJ,kD,aul] func218
def JQ(D:aX):ah ((eB)×(aX×af)):=(H7 D).bind λL=>letI C:=L.1;(cX (⟨D.b,L.2.1.i,L.2.1.h⟩:aX) 14).bind λE=>letI I:=(⟨D.b,E.2.1.i,E.2.1.h⟩:aX);bif (E.1==0)then (fO I ([100,1000,10000,10001]:aa Int)).bind λO=>some ((⟨C.ax,C.aE,C.mapping,C.bB,O.1,C.eD,C.cA⟩:eB),((⟨D.b,O.2.1.i,O.2.1.h⟩:aX),()))else bif (E.1==1)then (fO I ([0,1,17]:aa Int)).bind λT=>some ((⟨C.ax,C.aE,C.mapping,C.bB,C.interval,T.1,C.cA⟩:eB),((⟨D.b,T.2.1.i,T.2.1.h⟩:aX),()))else bif (E.1==2)then (fO I ([(W6 ((W6 (6*C.interval))-1)),100000,100001]:aa Int)).bind λU=>some ((⟨C.ax,C.aE,C.mapping,C.bB,C.interval,C.eD,⟨U.1,C.cA.bh⟩⟩:eB),((⟨D.b,U.2.1.i,U.2.1.h⟩:aX),()))else bif (E.1==3)then (fO I ([(-1),0,20,100001]:aa Int)).bind λY=>some ((⟨C.ax,C.aE,C.mapping,C.bB,C.interval,C.eD,⟨C.cA.br,Y.1⟩⟩:eB),((⟨D.b,Y.2.1.i,Y.2.1.h⟩:aX),()))else bif (E.1==4)then (fO I ([(-1),3]:aa Int)).bind λZ=>some ((⟨C.ax,C.aE,C.mapping,Z.1,C.interval,C.eD,C.cA⟩:eB),((⟨D.b,Z.2.1.i,Z.2.1.h⟩:aX),()))else bif (E.1==5)then (PF I).bind λy8=>some ((⟨C.ax,y8.1,C.mapping,C.bB,C.interval,C.eD,C.cA⟩:eB),((⟨D.b,y8.2.1.i,y8.2.1.h⟩:aX),()))else bif (E.1==6)then some ((⟨C.ax,C.aE,⟨3,C.mapping.hash⟩,C.bB,C.interval,C.eD,C.cA⟩:eB),(I,()))else some (C,(I,()))
def xH:=gV qY [(true,.Config,0)] (bP JQ) 54 [iJ,kD,ad8,aum] func137
def aun:enters Tryz.prog 60/\pP Tryz.prog 60 (cj Tryz.prog f60 1 [(xD.f,xD.c),(iJ.f,iJ.c),(kD.f,kD.c),(vh.f,vh.c),(xE.f,xE.c),(xF.f,xF.c),(xH.f,xH.c)]):=HN (Ea 1 [(xD.f,xD.c),(iJ.f,iJ.c),(kD.f,kD.c),(vh.f,vh.c),(xE.f,xE.c),(xF.f,xF.c),(xH.f,xH.c)] func60 ⟨xD.ok,iJ.ok,kD.ok,vh.ok,xE.ok,xF.ok,xH.ok,trivial⟩)
def PG(C:aN)(D:dG):ah (aN):=(ER C D).bind λE=>bif (!E)then some (⟨0,0,0,0⟩:aN)else some (⟨C.bR,C.aB,(W6 (C.rows-D.bB)),C.aM⟩:aN)
def auo:=bD N9 [(true,.fH,0)] (bV PG) 17 [W7] func11
abbrev aga:=((af×af×Int×af)×((Int×Int×Int×Int×af)×((aa eP)×Int×af)×af))
def JR(x:aga):ah (aga⊕(((Bool×af)×(af))⊕(((af)×(af))⊕Empty))):=letI D:=az ((false,()),());letI E:=xG (((),(),(W6 (x.1.2.2.1+1)),()),(x.2.1,x.2.2.1,()));bif x.1.2.2.1<(x.2.2.1.1.length:Int)then xI x.2.2.1.1 x.1.2.2.1 λC=>letI I:=bif C.open_ then bif (x.2.2.1.2.1==2)then D else E else E;(cx C.row 0 (W6 (x.2.1.2.2.1-1))).bind λL=>bif (!L)then D else bif (!C.open_)then bif (C.row != 0)then D else I else I else aT ((),())
def aup:KY 62 (bw f160):=⟨0,lB 0 ⟨Wo,[(2,.aC ia),(3,.aC BW)],[]⟩ [(1,gW),(2,fN)] JR,lp [eH]⟩
def PI(C:aN)(D:cD):ah (Bool):=(sq C).bind λE=>bif (!E)then some false else (kQ C).bind λI=>bif ((D.aB.length:Int) != I)then some false else (cx D.aR 0 2).bind λL=>bif (!L)then some false else bM JR (((),(),0,()),((C.bR,C.aB,C.rows,C.aM,()),(D.aB,D.aR,()),())) (λO=>some O.1.1) λT=>some true
def auq:=cu [(true,.fH),(true,.iS)] cg (bV PI) 62 [xh,kC,eH] [aup] func160
abbrev agb:=((af×Int×af)×(((aa bX)×(aa Int)×(aa Int)×af)×af))
def JS(x:agb):ah (agb⊕(((Bool×af)×(af))⊕(((af×af)×(((aa bX)×(aa Int)×(aa Int)×af)×af))⊕Empty))):=bif x.1.2.1<(x.2.1.1.length:Int)then xI x.2.1.1 x.1.2.1 λC=>(tQ C.symbols 11).bind λD=>bif (!D)then az ((false,()),())else xG (((),(W6 (x.1.2.1+1)),()),(x.2.1,()))else aT (((),()),(x.2.1,()))
def aur:KY 76 (bw f162):=⟨0,lB 0 ⟨[(3,.aO 3 0),(5,tI)],HW,[]⟩ [(1,gW),(2,ad4)] JS,lp [Ey]⟩
abbrev agc:=((af×Int×af)×(((aa bX)×(aa Int)×(aa Int)×af)×af))
def JT(x:agc):ah (agc⊕(((Bool×af)×(af))⊕(((af)×(af))⊕Empty))):=bif x.1.2.1<(x.2.1.2.1.length:Int)then xI x.2.1.2.1 x.1.2.1 λC=>(cx C 0 100000).bind λD=>bif (!D)then az ((false,()),())else xI x.2.1.2.2.1 x.1.2.1 λE=>(cx E 0 100000).bind λI=>bif (!I)then az ((false,()),())else xG (((),(W6 (x.1.2.1+1)),()),(x.2.1,()))else aT ((),())
def aus:KY 76 (bw f162):=⟨2,lB 2 ⟨[(3,.aO 3 0),(6,tI)],HW,[]⟩ [(1,gW),(4,fN)] JT,lp [eH]⟩
def PJ(D:aN)(C:dU):ah (Bool):=(sq D).bind λE=>bif (!E)then some false else (pW D).bind λI=>bif ((C.cells.length:Int) != I)then some false else (kQ D).bind λL=>bif ((C.br.length:Int) != (W6 (L*D.rows)))then some false else bif ((C.bh.length:Int) != (C.br.length:Int))then some false else bM JS (((),0,()),((C.cells,C.br,C.bh,()),())) (λO=>some O.1.1) λT=>bM JT (((),0,()),(T.2.1,())) (λU=>some U.1.1) λY=>some true
def aut:=cu [(true,.fH),(true,.Array)] cg (bV PJ) 76 [B4,xh,kC] [aur,aus] func162
abbrev agd:=((af×Int×Int×af)×(av×af))
def PL(x:agd):ah (agd⊕(((Bool×af)×(af))⊕(((af×af)×(av×af))⊕Empty))):=letI C:=x.1.2.2.1;bif C<x.1.2.1 then xI x.2.1.bH C λD=>(B9 D).bind λE=>bif (!E)then az ((false,()),())else xI x.2.1.guard C λI=>(cx I 3 1000).bind λL=>bif (!L)then az ((false,()),())else xG (((),x.1.2.1,(W6 (C+1)),()),(x.2.1,()))else aT (((),()),(x.2.1,()))
def auu:KY 89 (bw f164):=⟨0,lB 0 ⟨[(1,.aO 1 0),(3,tI),(4,tI)],[(1,.st .de)],[]⟩ [(1,n7),(2,⟨[(1,.aO 1 0)],[(1,.st .de)],[]⟩)] PL,lp [eH,aeN]⟩
abbrev agf:=((af×Int×af)×(av×af))
def PN(x:agf):ah (agf⊕(((Bool×af)×(af))⊕(((af)×(af))⊕Empty))):=letI C:=az ((false,()),());bif x.1.2.1<(x.2.1.pending.length:Int)then xI x.2.1.pending x.1.2.1 λD=>(zR x.2.1.config.ax D).bind λE=>bif (!E)then C else bif (D.bL != 0)then C else (B8 x.2.1.pending D).bind λI=>bif (I != x.1.2.1)then C else xG (((),(W6 (x.1.2.1+1)),()),(x.2.1,()))else aT ((),())
def auv:KY 89 (bw f164):=⟨2,lB 2 ⟨[(1,.aO 1 0),(5,tI)],[(1,.st .de)],[]⟩ [(1,n7),(4,fN)] PN,lp [Ov,WN]⟩
def PO(C:av):ah (Bool):=(kQ C.config.ax).bind λD=>bif ((C.aL.aH.length:Int) != D)then some false else bif ((C.bH.length:Int) != D)then some false else bif ((C.guard.length:Int) != D)then some false else bif (C.pending.length:Int) > 128 then some false else bM PL (((),D,0,()),(C,())) (λE=>some E.1.1) λI=>bM PN (((),0,()),(I.2.1,())) (λL=>some L.1.1) λO=>some true
def auw:=cu BX cg (bP PO) 89 [kC] [auu,auv] func164
def JU(C:av):ah (Bool):=(xj C.config C.box.bz).bind λD=>bif (!D)then some false else (xj C.config C.box.next).bind λE=>bif (!E)then some false else (cx C.now 0 1000000).bind λI=>bif (!I)then some false else (PI C.config.ax C.bk).bind λL=>bif (!L)then some false else (ID C.config.ax C.ready).bind λO=>bif (!O)then some false else (PJ C.config.ax C.array).bind λT=>bif (!T)then some false else (ER C.config.ax C.spare).bind λU=>bif (!U)then some false else bif (C.spare.bB != C.config.bB)then some false else (z0 C.aL).bind λY=>bif (!Y)then some false else (PO C).bind λZ=>bif (!Z)then some false else (PG C.config.ax C.spare).bind λji=>(pW ji).bind λfY=>(vi fY C.queue).bind λiz=>bif (!iz)then some false else (Ej C.shares).bind λiK=>bif (!iK)then some false else bif ((C.shares.length:Int) != 4)then some false else (B3 C.drain).bind λlN=>bif (!lN)then some false else (vk C.aR).bind λjj=>bif (!jj)then some false else bif (C.aR.state != C.bk.aR)then some false else bif C.aR.since > C.now then some false else (cx C.bY.every 1 100000).bind λjG=>bif jG then (cx C.bY.wait 1 C.bY.every).bind λjW=>bif jW then (pW C.config.ax).bind λoZ=>(cx C.bY.next 0 (W6 (oZ-1))).bind λxm=>bif xm then (I6 C.errors).bind λvm=>bif vm then bif (C.trace.length:Int) <= 2000 then some ((C.cr.length:Int) <= 400)else some false else some false else some false else some false else some false
def agh:=bD BX cg (bP JU) 161 [B4,auo,W7,eH,WG,auq,aeI,aut,IW,auw,aew,WC,Ol,O3,afp] func71
def Ag(C:av):ah (aF×Int):=(JU C).bind λE=>bif (!E)then some ((⟨0,0,0,0⟩:aF),(-1))else (xz C).bind λD=>some (D.1,D.2)
def JV:=bD BX [(true,.Command,0),(false,.int,0)] (bP Ag) 16 [agh,afR] func62
def PR(L:aX)(U:aN):ah ((aF)×(aX×af)):=(cX L 9).bind λO=>letI D:=W6 (1+O.1);(JJ (⟨L.b,O.2.1.i,O.2.1.h⟩:aX) U).bind λT=>letI C:=T.1;letI E:=((⟨L.b,T.2.1.i,T.2.1.h⟩:aX),());(Iu D).bind λI=>bif I.1 then bif I.2.1 then bif I.2.2 then some ((⟨D,C.ay,C.row,C.bL⟩:aF),E)else some ((⟨D,C.ay,C.row,0⟩:aF),E)else bif I.2.2 then some ((⟨D,C.ay,0,C.bL⟩:aF),E)else some ((⟨D,C.ay,0,0⟩:aF),E)else bif I.2.1 then bif I.2.2 then some ((⟨D,0,C.row,C.bL⟩:aF),E)else some ((⟨D,0,C.row,0⟩:aF),E)else bif I.2.2 then some ((⟨D,0,0,C.bL⟩:aF),E)else some ((⟨D,0,0,0⟩:aF),E)
def auy:=gV Wt [(true,.Command,0)] (bV PR) 37 [iJ,af8,aez] func139
def Co(D:aX)(x1:aN):ah ((aF)×(aX×af)):=(PR D x1).bind λL=>letI C:=L.1;(cX (⟨D.b,L.2.1.i,L.2.1.h⟩:aX) 14).bind λE=>letI I:=(⟨D.b,E.2.1.i,E.2.1.h⟩:aX);letI Z:=fO I ([(-1),7,8]:aa Int);bif (E.1==0)then (fO I ([0,10,(-1),4,6]:aa Int)).bind λO=>some ((⟨O.1,C.ay,C.row,C.bL⟩:aF),((⟨D.b,O.2.1.i,O.2.1.h⟩:aX),()))else bif (E.1==1)then Z.bind λT=>some ((⟨C.kind,T.1,C.row,C.bL⟩:aF),((⟨D.b,T.2.1.i,T.2.1.h⟩:aX),()))else bif (E.1==2)then (fO I ([(-1),15,16]:aa Int)).bind λU=>some ((⟨C.kind,C.ay,U.1,C.bL⟩:aF),((⟨D.b,U.2.1.i,U.2.1.h⟩:aX),()))else bif (E.1==3)then Z.bind λY=>some ((⟨C.kind,C.ay,C.row,Y.1⟩:aF),((⟨D.b,Y.2.1.i,Y.2.1.h⟩:aX),()))else some (C,(I,()))
def JW:=gV Wt [(true,.Command,0)] (bV Co) 36 [iJ,kD,auy] func63
def Cp(C:aN):ah (aN):=(sq C).bind λD=>bif D then some C else some (⟨1,2,2,1⟩:aN)
def JX:=bD vf [(true,.fH,0)] (bP Cp) 7 [xh] func64
def auz:enters Tryz.prog 15/\pP Tryz.prog 15 (cj Tryz.prog f15 2 [(25,.n BY),(60,.i (cj Tryz.prog f60 1 [(xD.f,xD.c),(iJ.f,iJ.c),(kD.f,kD.c),(vh.f,vh.c),(xE.f,xE.c),(xF.f,xF.c),(xH.f,xH.c)])),(tM.f,tM.c),(JV.f,JV.c),(JW.f,JW.c),(JX.f,JX.c),(kD.f,kD.c)]):=HN (Ea 2 [(25,.n BY),(60,.i (cj Tryz.prog f60 1 [(xD.f,xD.c),(iJ.f,iJ.c),(kD.f,kD.c),(vh.f,vh.c),(xE.f,xE.c),(xF.f,xF.c),(xH.f,xH.c)])),(tM.f,tM.c),(JV.f,JV.c),(JW.f,JW.c),(JX.f,JX.c),(kD.f,kD.c)] func15 ⟨arb,aun,tM.ok,JV.ok,JW.ok,JX.ok,kD.ok,trivial⟩)
def cC(C D E:Int):ah (Bool):=bif C >= D then some (C <= E)else some false
def fe:=bD [(false,.int),(false,.int),(false,.int)] cg (gA cC) 15 [] func37
def sr(C:aN):ah (Bool):=(cC C.bR 1 2).bind λD=>bif D then (cC C.aB 1 4).bind λE=>bif E then (cC C.rows 2 16).bind λI=>bif I then (cC C.aM 1 8).bind λL=>some L else some false else some false else some false
def xJ:=bD vf cg (bP sr) 21 [fe] func118
def n9(C:aN):ah (Int):=(sr C).bind λD=>bif (!D)then some 0 else some (W6 (C.bR*C.aB))
def q6:=bD vf en (bP n9) 11 [xJ] func113
def Ah(C:aN):ah (Int):=(n9 C).bind λD=>some (W6 ((W6 (D*C.rows))*C.aM))
def W8:=bD vf en (bP Ah) 11 [q6] func32
abbrev agi:=((Int×af×af×af×Int×Int×af)×((Int×Int×Int×Int×af)×(Int×af×af)×(Int×af×af)×(aa Int)×(aa Int)×af))
def EZ(x:agi):ah (agi⊕(((Int×af×af×af×Int×af)×((Int×Int×Int×Int×af)×(Int×af×af)×(Int×af×af)×(aa Int)×(aa Int)×af))⊕Empty)):=letI C:=x.2.2.2;letI D:=x.1.2.2.2.2;bif D.2.1<(W6 (x.2.1.2.2.1-x.1.1))then bif bF (C.2.2.1.length+([D.2.1]:aa Int).length)then xG ((x.1.1,(),(),(),D.1,(W6 (D.2.1+1)),()),(x.2.1,x.2.2.1,C.1,C.2.1,(C.2.2.1++([D.2.1]:aa Int)),()))else none else az ((x.1.1,(),(),(),D.1,()),(x.2.1,x.2.2.1,C.1,C.2.1,C.2.2.1,()))
def auA:KY 48 (sj (bw f120) 0):=⟨2,lB 2 ⟨[(1,tI),(2,.aO 2 0),(4,.aO 4 0),(6,.aO 6 0),(7,tI),(8,tI)],zz9,[]⟩ [(4,Wb)] EZ,lp []⟩
abbrev agj:=((Int×af×af×af×Int×af)×((Int×Int×Int×Int×af)×(Int×af×af)×(Int×af×af)×(aa Int)×(aa Int)×af))
def JY(x:agj):ah (agj⊕(((af×af×af)×((Int×af×af)×(Int×af×af)×(aa Int)×(aa Int)×af))⊕Empty)):=letI D:=x.2.2.2;(n9 (⟨x.2.1.1,x.2.1.2.1,x.2.1.2.2.1,x.2.1.2.2.2.1⟩:aN)).bind λE=>bif x.1.2.2.2.2.1<E then bA EZ ((x.1.1,(),(),(),x.1.2.2.2.2.1,0,()),(x.2.1,x.2.2.1,D.1,D.2.1,D.2.2.1,())) λC=>xG ((C.1.1,(),(),(),(W6 (C.1.2.2.2.2.1+1)),()),(C.2.1,C.2.2.1,C.2.2.2.1,C.2.2.2.2.1,C.2.2.2.2.2.1,()))else az (((),(),()),(x.2.2.1,D.1,D.2.1,D.2.2.1,()))
def auB:KY 48 (bw f120):=⟨0,lB 0 Wb [(2,ado)] JY,lq [q6] [auA]⟩
def JZ(C:aN)(D:Int):ah (dG×Bool):=letI E:=some ((⟨0,[]⟩:dG),false);(sr C).bind λL=>bif (!L)then E else (cC D 0 2).bind λO=>bif (!O)then E else bif (W6 (C.rows-D))<2 then E else bA JY ((D,(),(),(),0,()),((C.bR,C.aB,C.rows,C.aM,()),(0,(),()),(D,(),()),([]:aa Int),([]:aa Int),())) λI=>some ((⟨I.2.2.1.1,I.2.2.2.2.1⟩:dG),true)
def agk:=cu HT [(true,.oA,2),(false,.bool,0)] (bV JZ) 48 [fe,xJ] [auB] func120
def E0(O:aN)(E:dG)(I:Int):ah (Nat×Nat):=letI L:=W6 (O.rows-E.bB);letI C:=W6 (I*L);letI D:=W6 ((W6 (I+1))*L);if 0 <= C/\C <= D/\D <= (E.map.length:Int)then some (C.toNat,D.toNat)else none
def W9:Bo:=VU [(true,.fH),(true,.oA),(false,.int)] 1 1 .int (λx=>E0 x.1 x.2.1 x.2.2.1)
def agl:enters Tryz.prog 121/\M6 Tryz.prog 121 W9:=aqD (N:=23) (fn:=f121) (code:=bw f121) (Φ:=(me [])) (Λ:=(jV [])) (t:=.int) func121 (by kernel_rfl) (by kernel_rfl) (by kernel_rfl) (by kernel_rfl) (by kernel_rfl) (by kernel_rfl) (by kernel_rfl) (by kernel_rfl) (tK _ trivial) qX (λx=>by kernel_rfl)
abbrev agm:=((Int×Int×(aa Int)×Int×Int×af)×(af))
def J0(x:agm):ah (agm⊕(((Int×af)×(af))⊕Empty)):=letI C:=x.1.2.2;letI D:=C.2.2.1;bif D<C.2.1 then xI C.1 D λE=>bif (E==x.1.1)then xG ((x.1.1,(W6 (x.1.2.1+1)),C.1,C.2.1,(W6 (D+1)),()),())else xG ((x.1.1,x.1.2.1,C.1,C.2.1,(W6 (D+1)),()),())else az ((x.1.2.1,()),())
def auC:KY 21 (bw f122):=⟨0,lB 0 ⟨[(1,tI),(5,tI),(8,.lf (.aI .int 0)),(9,tI),(10,tI)],[],[]⟩ [(2,xg)] J0,lp []⟩
def PS(C:aa Int)(D:Int):ah (Int):=bA J0 ((D,0,C,(C.length:Int),0,()),()) λE=>some E.1.1
def auD:=cu HR en (bV PS) 21 [] [auC] func122
abbrev agn:=((af×af×Int×Int×(aa Int)×(aa Int)×Int×Int×af)×((Int×Int×Int×Int×af)×(Int×(aa Int)×af)×af))
def E1(x:agn):ah (agn⊕(((Bool×af)×(af))⊕(((af×af×Int×Int×af)×((Int×Int×Int×Int×af)×(Int×(aa Int)×af)×af))⊕Empty))):=letI D:=x.1.2.2;letI C:=D.2.2;letI E:=C.2.2.2.1;letI L:=xG (((),(),D.1,D.2.1,C.1,C.2.1,C.2.2.1,(W6 (E+1)),()),(x.2.1,x.2.2.1,()));bif E<C.2.2.1 then xI C.2.1 E λI=>bif (I != E)then (cC I D.1 (W6 (x.2.1.2.2.1-1))).bind λO=>bif (!O)then az ((false,()),())else (PS C.1 I).bind λT=>bif T > 1 then az ((false,()),())else L else L else aT (((),(),D.1,D.2.1,()),(x.2.1,x.2.2.1,()))
def auE:KY 71 (sj (bw f41) 0):=⟨2,lB 2 ⟨[(2,.aO 2 0),(3,.aO 3 0),(7,tI),(8,tI),(9,.lf (.aI .int 0)),(45,.lf (.aI .int 0)),(46,tI),(47,tI)],[(2,.aC ia),(3,.aC N6)],[]⟩ [(1,gW),(4,Wh)] E1,lp [fe,auD]⟩
abbrev ago:=((af×af×Int×Int×af)×((Int×Int×Int×Int×af)×(Int×(aa Int)×af)×af))
def J1(x:ago):ah (ago⊕(((Bool×af)×(af))⊕(((af)×(af))⊕Empty))):=letI I:=x.1.2.2.2.1;letI C:=x.2.2.1;letI O:=(⟨x.2.1.1,x.2.1.2.1,x.2.1.2.2.1,x.2.1.2.2.2.1⟩:aN);(n9 O).bind λT=>bif I<T then (E0 O (⟨C.1,C.2.1⟩:dG) I).bind λD=>letI L:=(C.2.1.take D.2).drop D.1;bif Nat.ble D.1 D.2&&Nat.ble D.2 C.2.1.length then bM E1 (((),(),x.1.2.2.1,I,L,L,(L.length:Int),0,()),(x.2.1,C,())) (λU=>az ((U.1.1,()),())) λE=>xG (((),(),E.1.2.2.1,(W6 (E.1.2.2.2.1+1)),()),(E.2.1,E.2.2.1,()))else none else aT ((),())
def auF:KY 71 (bw f41):=⟨0,lB 0 Wh [(1,gW),(2,fN)] J1,lq [q6,⟨121,.v W9,agl⟩] [auE]⟩
def J2(C:aN)(D:dG):ah (Bool):=(JZ C D.bB).bind λE=>bif (!E.2)then some false else bif ((D.map.length:Int) != (E.1.map.length:Int))then some false else bM J1 (((),(),(W6 (C.rows-D.bB)),0,()),((C.bR,C.aB,C.rows,C.aM,()),(D.bB,D.map,()),())) (λI=>some I.1.1) λL=>some true
def agp:=cu N9 cg (bV J2) 71 [agk] [auF] func41
def E2(C:aN)(D:dG):ah (aN):=(J2 C D).bind λE=>bif (!E)then some (⟨0,0,0,0⟩:aN)else some (⟨C.bR,C.aB,(W6 (C.rows-D.bB)),C.aM⟩:aN)
def Xa:=bD N9 [(true,.fH,0)] (bV E2) 17 [agp] func33
abbrev agq:=((af×af×Int×Int×af)×(cP×(aa Int)×af))
def E3(x:agq):ah (agq⊕(((Bool×af)×(af))⊕(((af×af)×(cP×af))⊕Empty))):=letI C:=x.1.2.2;bif C.2.1<C.1 then xL x.2.2.1 C.2.1 λD=>(cC D 1 64).bind λE=>bif (!E)then az ((false,()),())else xG (((),(),C.1,(W6 (C.2.1+1)),()),(x.2.1,x.2.2.1,()))else aT (((),()),(x.2.1,()))
def auG:KY 75 (bw f85):=⟨0,lB 0 ⟨[(1,.aO 1 0),(39,.lf (.own 39)),(40,tI),(41,tI)],[(1,.st .kf),(39,.sl .int 2)],[]⟩ [(1,n7),(2,adQ)] E3,lp [fe]⟩
def E4(C:cP):ah (Bool):=letI E:=([C.fB,C.rp,C.ef,C.gn,C.fo,C.fC,C.gp,C.ga,C.eT,C.wr,C.gd,C.gq,C.gO,C.gu,C.gv,C.xp,C.xs]:aa Int);bM E3 (((),(),(E.length:Int),0,()),(C,E,())) (λI=>some I.1.1) λL=>letI D:=L.2.1;bif D.fB <= D.ef then bif D.gn <= D.fo then bif D.gp <= D.ga then some (D.gd <= D.gq)else some false else some false else some false
def Xb:=cu HY cg (bP E4) 75 [] [auG] func85
def q7(C:cP):ah (Int):=(E4 C).bind λD=>bif (!D)then some 0 else some (W6 (2*(W6 ((W6 ((W6 ((W6 ((W6 ((W6 ((W6 ((W6 ((W6 (C.gv+C.xp))+C.ef))+C.wr))+C.eT))+C.rp))+C.gu))+C.fB))+(W6 (8*C.fo))))+16))))
def agr:=bD HY en (bP q7) 35 [Xb] func19
def J3(C:m9):ah (Bool):=(cC C.order 0 2).bind λD=>some D
def ags:=bD [(true,.rI)] cg (bP J3) 6 [fe] func196
def PT(C:eB):ah (Bool):=(JZ C.ax C.bB).bind λD=>(sr C.ax).bind λE=>bif E then (E4 C.aE).bind λI=>bif I then (J3 C.mapping).bind λL=>bif L then bif D.2 then (q7 C.aE).bind λO=>(cC C.interval O 10000).bind λT=>bif T then (cC C.eD 1 16).bind λU=>bif U then (cC C.cA.br (W6 (6*C.interval)) 100000).bind λY=>bif Y then (cC C.cA.bh 0 100000).bind λZ=>some Z else some false else some false else some false else some false else some false else some false else some false
def auH:=bD [(true,.Config)] cg (bP PT) 57 [agr,fe,Xb,xJ,agk,ags] func115
def Cq(C:jn):ah (Bool):=bif C.low >= 0 then bif C.low<C.high then some (C.high <= 12)else some false else some false
def agt:=bD [(true,.rJ)] cg (bP Cq) 18 [] func45
abbrev agu:=(((aa cw)×(aa cw)×Int×Int×af)×(af))
def J4(x:agu):ah (agu⊕(((Bool×af)×(af))⊕((((aa cw)×af)×(af))⊕Empty))):=letI C:=x.1.2.2;bif C.2.1<C.1 then xI x.1.2.1 C.2.1 λD=>(cC D.weight 1 9).bind λE=>bif (!E)then az ((false,()),())else (cC D.fD 0 D.weight).bind λI=>bif (!I)then az ((false,()),())else xG ((x.1.1,x.1.2.1,C.1,(W6 (C.2.1+1)),()),())else aT ((x.1.1,()),())
def auI:KY 27 (bw f44):=⟨0,lB 0 ⟨[(0,.lf (.aI .fU 0)),(5,.lf (.aI .fU 0)),(6,tI),(7,tI)],[],[]⟩ [(1,n7),(2,adU)] J4,lp [fe]⟩
def E5(C:aa cw):ah (Bool):=bM J4 ((C,C,(C.length:Int),0,()),()) (λD=>some D.1.1) λE=>(cC (E.1.1.length:Int) 1 4).bind λI=>some I
def Xc:=cu [(false,(.sl .fU))] cg (bP E5) 27 [fe] [auI] func44
abbrev agv:=((af×(aa Int)×Int×Int×af)×((aa cw)×af))
def J5(x:agv):ah (agv⊕(((af×af)×((aa cw)×af))⊕Empty)):=letI C:=x.1.2.2;bif C.2.1<C.1 then xI x.1.2.1 C.2.1 λD=>letI E:=([(⟨D,D⟩:cw)]:aa cw);bif bF (x.2.1.length+E.length)then xG (((),x.1.2.1,C.1,(W6 (C.2.1+1)),()),((x.2.1++E),()))else none else az (((),()),(x.2.1,()))
def auJ:KY 25 (bw f55):=⟨0,lB 0 ⟨[(4,.lf (.own 7)),(8,.lf (.aI .int 0)),(9,tI),(10,tI)],[(7,.sl .fU 2)],[]⟩ [(2,⟨[(4,.lf (.own 7))],[(7,.sl .fU 2)],[]⟩)] J5,lp []⟩
def Cr(C:aa Int):ah ((aa cw)×Bool):=bA J5 (((),C,(C.length:Int),0,()),(([]:aa cw),())) λD=>(E5 D.2.1).bind λE=>bif (!E)then some ([],false)else some (D.2.1,true)
def auK:=cu n8 [(false,(.sl .fU),2),(false,.bool,0)] (bP Cr) 25 [Xc] [auJ] func55
def J6(C:qx):ah (Bool):=(cC C.down 1 10000).bind λD=>bif D then bif C.sleep > C.down then some (C.sleep <= 20000)else some false else some false
def auL:=bD [(true,.uB)] cg (bP J6) 18 [fe] func197
def PU(C:dM):ah (Bool):=(Cr C.weights).bind λE=>letI D:=(cC C.cap 0 100000).bind λI=>bif I then (cC C.dK 3 1000).bind λL=>bif L then (Cq (⟨false,C.low,C.high⟩:jn)).bind λO=>bif O then bif ((C.weights.length:Int)==4)then bif E.2 then (J6 C.cN).bind λT=>some T else some false else some false else some false else some false else some false;bif (C.dz==0)then D else bif (C.dz==1)then D else some false
def auM:=bD HZ cg (bP PU) 51 [fe,agt,auK,auL] func116
def Ai(C:Int):ah (Int):=(cC C 3 1000).bind λD=>bif (!D)then some 0 else some (W6 ((W6 (2*C))+2))
def auN:=bD lM en (bP Ai) 9 [fe] func117
def su(C:eB)(D:dM):ah (Bool):=letI E:=W6 (C.aE.ef+C.aE.rp);(PT C).bind λI=>bif I then (PU D).bind λL=>bif L then (Ai D.dK).bind λO=>bif (W6 (O+2)) <= C.cA.bh then if E=0 then none else some ((W6 ((W6 (C.eD+1))*D.dK)) > (W6 ((W6 ((W6 (5*C.interval)).tdiv E))+2)))else some false else some false else some false
def auO:=bD Wv cg (bV su) 42 [auH,auM,auN] func36
abbrev agw:=((af×(aa eP)×Int×Int×af)×((aa Int)×af))
def E6(x:agw):ah (agw⊕(((af×af)×((aa Int)×af))⊕Empty)):=letI C:=x.1.2.2.2.1;letI D:=((),x.1.2.1,x.1.2.2.1,(W6 (C+1)),());bif C<x.1.2.2.1 then xI x.1.2.1 C λE=>bif E.open_ then bif bF (x.2.1.length+([C]:aa Int).length)then xG (D,((x.2.1++([C]:aa Int)),()))else none else xG (D,(x.2.1,()))else az (((),()),(x.2.1,()))
def auP:KY 23 (bw f87):=⟨0,lB 0 ⟨[(3,.lf (.own 6)),(8,.lf (.aI .ld 0)),(9,tI),(10,tI)],[(6,.sl .int 2)],[]⟩ [(2,adJ)] E6,lp []⟩
def Aj(C:cD):ah ((aa Int)):=bA E6 (((),C.aB,(C.aB.length:Int),0,()),(([]:aa Int),())) λD=>some D.2.1
def agx:=cu [(true,.iS)] nG (bP Aj) 23 [] [auP] func87
end Go.Proofs.YtglnbhiaknohlaaGreat
