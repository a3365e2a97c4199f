/-
  Functions of the program as plain functions of contents, and that the code computes them. Nothing here is a claim.
-/
import Derived.Test.YtglnbhiaknohlaaGreatVZ
import Derived.Test.YtglnbhiaknohlaaGreatRows
import Derived.Test.YtglnbhiaknohlaaGreatG1
import Derived.Test.YtglnbhiaknohlaaGreatG2
import Derived.Test.YtglnbhiaknohlaaGreatG3
import Derived.Test.YtglnbhiaknohlaaGreatG4
import Derived.Test.YtglnbhiaknohlaaGreatG5
namespace Go.Proofs.YtglnbhiaknohlaaGreat
set_option linter.defProp false
open Go.RowKit Go.Proofs.Tryz
set_option linter.unusedVariables false
set_option maxRecDepth 100000
abbrev agL:=((Int×(aa aX)×af×(aa aX)×Int×Int×(aa aX)×Int×Int×af)×((Int×Int×Int×Bool×Int×Int×af)×af))
def Fu(x:agL):aj (agL⊕(((Bool×af)×(af))⊕(((Int×(aa aX)×(aa aX)×Int×Int×af)×(af))⊕Empty))):=letI D:=x.1.2.2.2.2;letI C:=D.2.2;bif C.2.2.1<C.2.1 then xI C.1 C.2.2.1 λE=>bif (E.id==x.2.1.1)then aA ((false,()),())else xG ((x.1.1,x.1.2.1,(),x.1.2.2.2.1,D.1,D.2.1,C.1,C.2.1,(W6 (C.2.2.1+1)),()),(x.2.1,()))else bq ((x.1.1,x.1.2.1,x.1.2.2.2.1,D.1,D.2.1,()),())
def agM:KY 52 (rZ (bk f43) 0):=⟨2,lB 2 ⟨[(0,tI),(1,.lf (.aF .dD 0)),(6,.aG 6 0),(9,.lf (.aF .dD 0)),(10,tI),(11,tI),(36,.lf (.aF .dD 0)),(37,tI),(38,tI)],[(6,.aB IJ)],[]⟩ [(1,mI),(4,adH)] Fu,lp []⟩
abbrev agN:=((Int×(aa aX)×(aa aX)×Int×Int×af)×(af))
def KR(x:agN):aj (agN⊕(((Bool×af)×(af))⊕((((aa aX)×af)×(af))⊕Empty))):=letI C:=x.1.2;letI D:=C.2.2.2.1;letI J:=(C.1.take D.toNat).drop (0:Int).toNat;bif D<C.2.2.1 then xI C.2.1 D λE=>letI L:=if 0 <= (0:Int)/\0 <= D/\D <= (C.1.length:Int)then cc Fu ((x.1.1,C.1,(),C.2.1,C.2.2.1,D,J,(J.length:Int),0,()),((E.id,E.dB,E.line,E.write,E.data,E.at_,()),())) (λO=>aA ((O.1.1,()),())) λI=>xG ((I.1.1,I.1.2.1,I.1.2.2.1,I.1.2.2.2.1,(W6 (I.1.2.2.2.2.1+1)),()),())else none;(QC x.1.1 E).bind λQ=>bif (!Q)then aA ((false,()),())else bif D > 0 then xI C.1 (W6 (D-1)) λT=>(QB T E).bind λU=>bif (!U)then aA ((false,()),())else L else L else bq ((C.1,()),())
def at3:KY 52 (bk f43):=⟨0,lB 0 adH [(1,mI),(2,⟨[(1,.lf (.aF .dD 0))],[],[]⟩)] KR,lq [atZ,at0] [agM,agM]⟩
def QD(D:Int)(C:aa aX):aj (Bool):=cc KR ((D,C,C,(C.length:Int),0,()),()) (λE=>some E.1.1) λI=>some ((I.1.1.length:Int) <= 12)
def at4:=cw [(false,.int),(false,(.sl .dD))] cB (bY QD) 52 [] [at3] func43
def CI(C:eT):aj (Bool):=(cK C.state 0 2).bind λD=>bif D then (cK C.since 0 1000000).bind λE=>bif E then (cK C.idle 0 1000000).bind λI=>some I else some false else some false
def QE:=bA [(true,.Power)] cB (bS CI) 16 [eI] func46
abbrev agO:=(((aa cv)×af×(aa cv)×Int×Int×(aa cv)×Int×Int×af)×((Int×Int×Int×af)×af))
def Fv(x:agO):aj (agO⊕(((Bool×af)×(af))⊕((((aa cv)×(aa cv)×Int×Int×af)×(af))⊕Empty))):=letI D:=x.1.2.2;letI C:=D.2.2;letI E:=xG ((x.1.1,(),D.1,D.2.1,C.1,C.2.1,C.2.2.1,(W6 (C.2.2.2.1+1)),()),(x.2.1,()));bif C.2.2.2.1<C.2.2.1 then xI C.2.1 C.2.2.2.1 λI=>bif (x.2.1.1==I.line)then bif (x.2.1.2.1==I.code)then aA ((false,()),())else E else E else bq ((x.1.1,D.1,D.2.1,C.1,()),())
def agP:KY 59 (rZ (bk f47) 0):=⟨2,lB 2 ⟨[(0,.lf (.aF .gK 0)),(4,.aG 4 0),(7,.lf (.aF .gK 0)),(8,tI),(9,tI),(36,.lf (.aF .gK 0)),(37,tI),(38,tI)],[(4,.aB IM)],[]⟩ [(1,qP),(4,adG)] Fv,lp []⟩
abbrev agQ:=(((aa cv)×(aa cv)×Int×Int×af)×(af))
def KS(x:agQ):aj (agQ⊕(((Bool×af)×(af))⊕((((aa cv)×af)×(af))⊕Empty))):=letI I:=aA ((false,()),());letI D:=x.1.2.2.2.1;letI J:=(x.1.1.take D.toNat).drop (0:Int).toNat;bif D<x.1.2.2.1 then xI x.1.2.1 D λC=>letI L:=(cK C.times 1 999).bind λO=>bif (!O)then I else if 0 <= (0:Int)/\0 <= D/\D <= (x.1.1.length:Int)then cc Fv ((x.1.1,(),x.1.2.1,x.1.2.2.1,D,J,(J.length:Int),0,()),((C.line,C.code,C.times,()),())) (λQ=>aA ((Q.1.1,()),())) λE=>xG ((E.1.1,E.1.2.1,E.1.2.2.1,(W6 (E.1.2.2.2.1+1)),()),())else none;(cK C.line 0 1023).bind λT=>bif (!T)then I else bif (C.code != 1)then bif (C.code != 2)then I else L else L else bq ((x.1.1,()),())
def at5:KY 59 (bk f47):=⟨0,lB 0 adG [(1,qP),(2,⟨[(0,.lf (.aF .gK 0))],[],[]⟩)] KS,lq [eI] [agP,agP]⟩
def KT(C:aa cv):aj (Bool):=cc KS ((C,C,(C.length:Int),0,()),()) (λD=>some D.1.1) λE=>some ((E.1.1.length:Int) <= 6)
def agR:=cw [(false,(.sl .gK))] cB (bS KT) 59 [] [at5] func47
def Au(C:av):aj (Bool):=(s7 C.config C.box.bU).bind λD=>bif (!D)then some false else (s7 C.config C.box.next).bind λE=>bif (!E)then some false else (cK C.now 0 1000000).bind λI=>bif (!I)then some false else (KE C.config.ay C.aY).bind λJ=>bif (!J)then some false else (Fq C.config.ay C.ready).bind λL=>bif (!L)then some false else (Fs C.config.ay C.array).bind λO=>bif (!O)then some false else (Kx C.config.ay C.spare).bind λQ=>bif (!Q)then some false else bif (C.spare.bP != C.config.bP)then some false else (QA C).bind λT=>bif (!T)then some false else (Fk C.config.ay C.spare).bind λU=>(vG U).bind λY=>(QD Y C.queue).bind λZ=>bif (!Z)then some false else (Fo C.shares).bind λlQ=>bif (!lQ)then some false else bif ((C.shares.length:Int) != 4)then some false else (CC C.drain).bind λqQ=>bif (!qQ)then some false else (CI C.bh).bind λoK=>bif (!oK)then some false else bif (C.bh.state != C.aY.bh)then some false else bif C.bh.since > C.now then some false else (cK C.cU.every 1 100000).bind λr4=>bif r4 then (cK C.cU.wait 1 C.cU.every).bind λoL=>bif oL then (vG C.config.ay).bind λkT=>(cK C.cU.next 0 (W6 (kT-1))).bind λCl=>bif Cl then (KT C.errors).bind λCm=>bif Cm then bif (C.trace.length:Int) <= 2000 then some ((C.cy.length:Int) <= 400)else some false else some false else some false else some false else some false
def QF:=bA xm cB (bS Au) 155 [Qq,XT,atG,eI,agv,XW,agC,agm,atY,at4,XV,Qt,QE,agR] func13
def Fw(C:dS):aj (dS):=bif xZ C.weights then some (⟨C.eP,C.cap,C.eK,C.low,C.high,(xA C.weights),C.eA⟩:dS)else none
def agS:=bA IQ [(true,.nJ,2)] (bS Fw) 9 [] func129
def KU(C:gi):aj (gi):=(Fw C.bU).bind λD=>(Fw C.next).bind λE=>some (⟨D,E,C.waits⟩:gi)
def agT:=bA [(true,.ot)] [(true,.ot,2)] (bS KU) 12 [agS] func98
def Fx(C:cM):aj (cM):=bif xZ C.aC then some (⟨(xA C.aC),C.bh⟩:cM)else none
def agU:=bA [(true,.iQ)] [(true,.iQ,2)] (bS Fx) 9 [] func99
def Fy(C:dF):aj (dF):=bif xZ C.last then bif xZ C.bg then some (⟨(xA C.last),(xA C.bg)⟩:dF)else none else none
def agV:=bA [(true,.lD)] [(true,.lD,2)] (bS Fy) 12 [] func100
def QG(C:bZ):aj (bZ):=bif xZ C.symbols then some (⟨(xA C.symbols),C.iX⟩:bZ)else none
def at6:=bA [(true,.Cell)] [(true,.Cell,2)] (bS QG) 9 [] func195
def at7:bJ:=⟨[(2,.aG 2 0),(3,.aG 3 0),(16,.lf (.aF .Cell 0)),(17,tI),(18,tI)],ads,[]⟩
def at8:aa (Nat×bJ):=[(2,⟨[(2,.aG 2 0),(3,.aG 3 0)],ads,[]⟩)]
abbrev agW:=((af×af×(aa bZ)×Int×Int×af)×((af×af×af×af)×(af×af×af×af)×(aa bZ)×(aa Int)×(aa Int)×(aa bZ)×(aa Int)×(aa Int)×af))
def KV(x:agW):aj (agW⊕(((af×af×af)×((af×af×af×af)×(af×af×af×af)×(aa bZ)×(aa Int)×(aa Int)×(aa bZ)×(aa Int)×(aa Int)×af))⊕Empty)):=letI E:=x.2.2.2;letI D:=x.1.2.2;letI I:=((),(),(),());letI C:=E.2.2;bif D.2.2.1<D.2.1 then xI D.1 D.2.2.1 λL=>(QG L).bind λJ=>bif bD (C.2.1.length+[J].length)then xG (((),(),D.1,D.2.1,(W6 (D.2.2.1+1)),()),(I,I,E.1,E.2.1,C.1,(C.2.1++[J]),C.2.2.1,C.2.2.2.1,()))else none else aA (((),(),()),(I,I,E.1,E.2.1,C.1,C.2.1,C.2.2.1,C.2.2.2.1,()))
def at9:KY 31 (bk f101):=⟨0,lB 0 at7 at8 KV,lp [at6]⟩
def Fz(C:dx):aj (dx):=bif xZ C.bC then bif xZ C.bz then bw KV (((),(),C.cells,(C.cells.length:Int),0,()),(((),(),(),()),((),(),(),()),([]:aa bZ),([]:aa Int),([]:aa Int),([]:aa bZ),(xA C.bC),(xA C.bz),())) λE=>letI D:=E.2.2.2.2.2.2;some (⟨D.1,D.2.1,D.2.2.1⟩:dx)else none else none
def agX:=cw [(true,.Array)] [(true,.Array,4)] (bS Fz) 31 [] [at9] func101
def agY(C:aa Int):aj ((aa Int)):=bif jn C then none else bif bD (([]:aa Int).length+C.length)then some (([]:aa Int)++C)else none
def QH(C:aa Int):aj ((aa Int)):=bif jn C then some []else agY C
def agZ:jx:=gD [(false,(.sl .int))] [(false,(.sl .int),2)] (λx=>QH x.1)
def aua:enters Tryz.prog 102/\iZ Tryz.prog 102 agZ:=B7 8 [] [] func102 trivial r3 (t:=.int) (g:=2) (F:=agY) λx=>by kernel_rfl
def CJ(C:cZ):aj (cZ):=bif xZ C.aJ then some (⟨(xA C.aJ),C.wait,C.dN⟩:cZ)else none
def X3:=bA EH [(true,.lE,2)] (bS CJ) 9 [] func103
def FA(C:cx):aj (cx):=bif xZ C.rows then bif xZ C.counts then some (⟨(xA C.rows),(xA C.counts),C.c7⟩:cx)else none else none
def ag0:=bA [(true,.iR)] [(true,.iR,2)] (bS FA) 14 [] func104
def ag1(C:aa aL):aj ((aa aL)):=bif jn C then none else bif bD (([]:aa aL).length+C.length)then some (([]:aa aL)++C)else none
def X4(C:aa aL):aj ((aa aL)):=bif jn C then some []else ag1 C
def ag2:jx:=gD [(false,(.sl .Addr))] [(false,(.sl .Addr),2)] (λx=>X4 x.1)
def aub:enters Tryz.prog 105/\iZ Tryz.prog 105 ag2:=B7 8 [] [] func105 trivial r3 (t:=.Addr) (g:=2) (F:=ag1) λx=>by kernel_rfl
def ag3(C:aa aX):aj ((aa aX)):=bif jn C then none else bif bD (([]:aa aX).length+C.length)then some (([]:aa aX)++C)else none
def X5(C:aa aX):aj ((aa aX)):=bif jn C then some []else ag3 C
def ag4:jx:=gD [(false,(.sl .dD))] [(false,(.sl .dD),2)] (λx=>X5 x.1)
def auc:enters Tryz.prog 106/\iZ Tryz.prog 106 ag4:=B7 8 [] [] func106 trivial r3 (t:=.dD) (g:=2) (F:=ag3) λx=>by kernel_rfl
def ag5(C:aa cz):aj ((aa cz)):=bif jn C then none else bif bD (([]:aa cz).length+C.length)then some (([]:aa cz)++C)else none
def X6(C:aa cz):aj ((aa cz)):=bif jn C then some []else ag5 C
def ag6:jx:=gD [(false,(.sl .gj))] [(false,(.sl .gj),2)] (λx=>X6 x.1)
def aud:enters Tryz.prog 107/\iZ Tryz.prog 107 ag6:=B7 8 [] [] func107 trivial r3 (t:=.gj) (g:=2) (F:=ag5) λx=>by kernel_rfl
def ag7(C:aa cv):aj ((aa cv)):=bif jn C then none else bif bD (([]:aa cv).length+C.length)then some (([]:aa cv)++C)else none
def X7(C:aa cv):aj ((aa cv)):=bif jn C then some []else ag7 C
def ag8:jx:=gD [(false,(.sl .gK))] [(false,(.sl .gK),2)] (λx=>X7 x.1)
def aue:enters Tryz.prog 108/\iZ Tryz.prog 108 ag8:=B7 8 [] [] func108 trivial r3 (t:=.gK) (g:=2) (F:=ag7) λx=>by kernel_rfl
def ag9(C:aa fG):aj ((aa fG)):=bif jn C then none else bif bD (([]:aa fG).length+C.length)then some (([]:aa fG)++C)else none
def X8(C:aa fG):aj ((aa fG)):=bif jn C then some []else ag9 C
def aha:jx:=gD [(false,(.sl .Event))] [(false,(.sl .Event),2)] (λx=>X8 x.1)
def auf:enters Tryz.prog 109/\iZ Tryz.prog 109 aha:=B7 8 [] [] func109 trivial r3 (t:=.Event) (g:=2) (F:=ag9) λx=>by kernel_rfl
def ahb(C:aa fe):aj ((aa fe)):=bif jn C then none else bif bD (([]:aa fe).length+C.length)then some (([]:aa fe)++C)else none
def X9(C:aa fe):aj ((aa fe)):=bif jn C then some []else ahb C
def ahc:jx:=gD [(false,(.sl .pz))] [(false,(.sl .pz),2)] (λx=>X9 x.1)
def aug:enters Tryz.prog 110/\iZ Tryz.prog 110 ahc:=B7 8 [] [] func110 trivial r3 (t:=.pz) (g:=2) (F:=ahb) λx=>by kernel_rfl
def auh:bJ:=⟨[(1,.aG 1 0),(2,.aG 2 0),(3,.aG 3 0),(36,.lf (.aF .iR 0)),(37,tI),(38,tI)],zz1,ON⟩
def aui:aa (Nat×bJ):=[(2,⟨aeg,zz1,ON⟩)]
abbrev ahd:=((af×af×af×(aa cx)×Int×Int×af)×(av×av×(Int×Int×Int×Int×Int×Int×Int×Int×Int×Int×Int×Int×Int×Int×Int×Int×Int×Int×Int×Int×Int×Int×Bool×Int×Int×Int×Int×Int×Int×Int×Int×Int×Int×af×Int×Int×Int×Int×Int×Int×Int×af×Int×Int×Bool×Int×af×Int×af×af×af×af×af×Int×af×af×Int×Bool×af×(aa Int)×(aa aL)×(aa aX)×(aa cz)×Bool×Int×Int×Int×Int×Int×Int×Int×Int×(aa cv)×(aa fG)×(aa fe)×af)×(aa Int)×(aa Int)×(aa fC)×(aa Int)×(aa Int)×(aa bZ)×(aa Int)×(aa Int)×(aa Int)×(aa Int)×(aa cx)×af))
def FB(x:ahd):aj (ahd⊕(((af×af×af×af)×(av×av×(Int×Int×Int×Int×Int×Int×Int×Int×Int×Int×Int×Int×Int×Int×Int×Int×Int×Int×Int×Int×Int×Int×Bool×Int×Int×Int×Int×Int×Int×Int×Int×Int×Int×af×Int×Int×Int×Int×Int×Int×Int×af×Int×Int×Bool×Int×af×Int×af×af×af×af×af×Int×af×af×Int×Bool×af×(aa Int)×(aa aL)×(aa aX)×(aa cz)×Bool×Int×Int×Int×Int×Int×Int×Int×Int×(aa cv)×(aa fG)×(aa fe)×af)×(aa Int)×(aa Int)×(aa fC)×(aa Int)×(aa Int)×(aa bZ)×(aa Int)×(aa Int)×(aa Int)×(aa Int)×(aa cx)×af))⊕Empty)):=letI E:=x.1.2.2.2;letI C:=x.2.2.2.2;letI I:=C.2.2.2.2;letI D:=I.2.2.2;bif E.2.2.1<E.2.1 then xI E.1 E.2.2.1 λL=>(FA L).bind λJ=>bif bD (D.2.2.2.1.length+[J].length)then xG (((),(),(),E.1,E.2.1,(W6 (E.2.2.1+1)),()),(x.2.1,x.2.2.1,x.2.2.2.1,C.1,C.2.1,C.2.2.1,C.2.2.2.1,I.1,I.2.1,I.2.2.1,D.1,D.2.1,D.2.2.1,(D.2.2.2.1++[J]),()))else none else aA (((),(),(),()),(x.2.1,x.2.2.1,x.2.2.2.1,C.1,C.2.1,C.2.2.1,C.2.2.2.1,I.1,I.2.1,I.2.2.1,D.1,D.2.1,D.2.2.1,D.2.2.2.1,()))
def auj:KY 79 (bk f30):=⟨0,lB 0 auh aui FB,lp [ag0]⟩
def KW(C:av):aj (av):=(KU C.box).bind λD=>(Fx C.aY).bind λy2=>(Fy C.ready).bind λy3=>(Fz C.array).bind λy4=>(QH C.spare.map).bind λy5=>(CJ C.aQ).bind λy6=>bw FB (((),(),(),C.bK,(C.bK.length:Int),0,()),((⟨⟨⟨0,0,0,0⟩,⟨0,0,0,0,0,0,0,0,0,0,0,0,0,0,0,0,0⟩,⟨0,false⟩,0,0,0,⟨0,0⟩⟩,⟨⟨0,0,0,0,0,([]:aa Int),⟨0,0⟩⟩,⟨0,0,0,0,0,([]:aa Int),⟨0,0⟩⟩,false⟩,0,⟨([]:aa fC),0⟩,⟨([]:aa Int),([]:aa Int)⟩,⟨([]:aa bZ),([]:aa Int),([]:aa Int)⟩,⟨0,([]:aa Int)⟩,⟨([]:aa Int),0,false⟩,([]:aa cx),([]:aa Int),([]:aa aL),([]:aa aX),([]:aa cz),⟨false,0,0⟩,⟨0,0,0⟩,⟨0,0,0⟩,([]:aa cv),([]:aa fG),([]:aa fe)⟩:av),C,(C.config.ay.cq,C.config.ay.aC,C.config.ay.rows,C.config.ay.aN,C.config.cm.jX,C.config.cm.rp,C.config.cm.gI,C.config.cm.nE,C.config.cm.jY,C.config.cm.lu,C.config.cm.nG,C.config.cm.nH,C.config.cm.jK,C.config.cm.wr,C.config.cm.pg,C.config.cm.pn,C.config.cm.sx,C.config.cm.pq,C.config.cm.qi,C.config.cm.xp,C.config.cm.xs,C.config.mapping.order,C.config.mapping.hash,C.config.bP,C.config.interval,C.config.hD,C.config.dH.bC,C.config.dH.bz,D.bU.eP,D.bU.cap,D.bU.eK,D.bU.low,D.bU.high,(),D.bU.eA.down,D.bU.eA.sleep,D.next.eP,D.next.cap,D.next.eK,D.next.low,D.next.high,(),D.next.eA.down,D.next.eA.sleep,D.waits,C.now,(),y2.bh,(),(),(),(),(),C.spare.bP,(),(),y6.wait,y6.dN,(),C.guard,C.pending,C.queue,C.shares,C.drain.on,C.drain.low,C.drain.high,C.bh.state,C.bh.since,C.bh.idle,C.cU.next,C.cU.every,C.cU.wait,C.errors,C.trace,C.cy,()),D.bU.weights,D.next.weights,y2.aC,y3.last,y3.bg,y4.cells,y4.bC,y4.bz,y5,y6.aJ,([]:aa cx),())) λiq=>letI I:=iq.2.2.1;letI E:=iq.2.2.2;letI u16:=E.1.2.2;letI Z:=E.2.2.2.2.2;letI xu:=Z.2.2.2;letI u7:=u16.2.2.2;letI xq:=u7.2.2.2;letI u2:=xq.2.2.2;letI L:=u2.2.2.2;letI O:=L.2.2.2.2;letI Q:=O.2.2.2.2;letI T:=Q.2.2.2.2;letI s8:=T.2.2.2.2;letI Aa:=s8.2.2.2.2;letI J:=Aa.2.2;letI u8:=J.2.2.2.2.2.2;letI u15:=u8.2.2.2.2.2.2.2.2.2.2.2;letI u1:=u15.2.2.2;letI U:=u1.2.2.2.2.2.2.2;letI Y:=U.2.2.2.2;(QH I.guard).bind λjR=>(X4 I.pending).bind λlQ=>(X5 I.queue).bind λqQ=>(X6 I.shares).bind λoK=>(X7 I.errors).bind λr4=>(X8 I.trace).bind λoL=>(X9 I.cy).bind λkT=>some (⟨⟨⟨E.1.1,E.1.2.1,u16.1,u16.2.1⟩,⟨u16.2.2.1,u7.1,u7.2.1,u7.2.2.1,xq.1,xq.2.1,xq.2.2.1,u2.1,u2.2.1,u2.2.2.1,L.1,L.2.1,L.2.2.1,L.2.2.2.1,O.1,O.2.1,O.2.2.1⟩,⟨O.2.2.2.1,Q.1⟩,Q.2.1,Q.2.2.1,Q.2.2.2.1,⟨T.1,T.2.1⟩⟩,⟨⟨T.2.2.1,T.2.2.2.1,s8.1,s8.2.1,s8.2.2.1,E.2.1,⟨Aa.1,Aa.2.1⟩⟩,⟨J.1,J.2.1,J.2.2.1,J.2.2.2.1,J.2.2.2.2.1,E.2.2.1,⟨u8.1,u8.2.1⟩⟩,u8.2.2.1⟩,u8.2.2.2.1,⟨E.2.2.2.1,u8.2.2.2.2.2.1⟩,⟨E.2.2.2.2.1,Z.1⟩,⟨Z.2.1,Z.2.2.1,xu.1⟩,⟨u15.1,xu.2.1⟩,⟨xu.2.2.1,u1.1,u1.2.1⟩,xu.2.2.2.1,jR,lQ,qQ,oK,⟨U.1,U.2.1,U.2.2.1⟩,⟨U.2.2.2.1,Y.1,Y.2.1⟩,⟨Y.2.2.1,Y.2.2.2.1,Y.2.2.2.2.1⟩,r4,oL,kT⟩:av)
def ahe:=cw xm [(true,.cV,4)] (bS KW) 79 [agT,agU,agV,agX,⟨102,.p agZ,aua⟩,X3,⟨105,.p ag2,aub⟩,⟨106,.p ag4,auc⟩,⟨107,.p ag6,aud⟩,⟨108,.p ag8,aue⟩,⟨109,.p aha,auf⟩,⟨110,.p ahc,aug⟩] [auj] func30
def CK(C:Int)(D:Bool)(E:Int):aj (Bool):=bif (!D)then some (C==0)else (cK C 0 (W6 (E-1))).bind λI=>some I
def auk:=bA [(false,.int),(false,.bool),(false,.int)] cB (fD CK) 15 [eI] func271
def QI(C:Int):aj (Bool):=some (C==1)
def aul:=bA lP cB (bS QI) 5 [] func272
def QJ(C:Int):aj (Bool):=bif (C==2)then some true else some (C==3)
def aum:=bA lP cB (bS QJ) 9 [] func273
def Ya(C:aH)(D E I:Int):aj (Bool):=(cK C.kind 1 9).bind λJ=>bif J then (xK C.kind).bind λL=>(CK C.ax L D).bind λO=>bif O then (QI C.kind).bind λQ=>(CK C.row Q E).bind λT=>bif T then (QJ C.kind).bind λU=>(CK C.bR U I).bind λY=>some Y else some false else some false else some false
def aun:=bA [(true,.Command),(false,.int),(false,.int),(false,.int)] cB (oI Ya) 39 [eI,Qx,auk,aul,aum] func183
def FC(C:aO)(D:aH):aj (Bool):=(sZ C).bind λE=>bif E then (oM C).bind λI=>(Ya D I C.rows C.aN).bind λJ=>some J else some false
def Yb:=bA Xe cB (bY FC) 17 [r5,xJ,aun] func86
def KZ(L:aO)(D:cM)(C:aH):aj (Bool):=letI E:=D.bh==0;letI O:=bif E then xI D.aC C.ax λT=>some (!T.open_)else some false;letI I:=bif E then xI D.aC C.ax λU=>some U.open_ else some false;letI J:=bif (C.kind==6)then some E else bif (C.kind==8)then bif E then (Aq D).bind λY=>some ((Y.length:Int)==0)else some false else bif (C.kind==7)then some (D.bh==1)else some (D.bh==2);letI Q:=bif (C.kind==2)then bif (C.kind==2)then I else J else bif (C.kind==3)then bif (C.kind==3)then I else J else bif (C.kind==4)then I else J;(KE L D).bind λZ=>bif (!Z)then some false else (FC L C).bind λy2=>bif (!y2)then some false else bif (C.kind==1)then bif (C.kind==1)then O else Q else bif (C.kind==5)then O else Q
def ahf:=bA [(true,.fR),(true,.iQ),(true,.Command)] cB (fD KZ) 75 [agv,Yb,Qv] func21
def QK(C:dc)(D E:Int):aj (Int):=(let L:Bool -> aj (Int):=λI=>(let J:Bool -> aj (Int):=λj2=>bif j2 then some C.jX else (let O:Bool -> aj (Int):=λj3=>bif j3 then some C.gI else (let Q:Bool -> aj (Int):=λj4=>bif j4 then some (W6 (C.gI+C.rp))else (let T:Bool -> aj (Int):=λj5=>bif j5 then some C.jK else (let U:Bool -> aj (Int):=λj6=>bif j6 then some (W6 (C.jK+C.rp))else (let Y:Bool -> aj (Int):=λj7=>bif j7 then some C.wr else (let Z:Bool -> aj (Int):=λj8=>bif j8 then some (W6 (C.wr+C.rp))else (let Yc:Bool -> aj (Int):=λj9=>bif j9 then some C.rp else (let Yd:Bool -> aj (Int):=λCu=>bif Cu then some C.pq else some 0;bif (D==5)then (Yd I)else (Yd false));bif (D==4)then (Yc I)else (Yc false));bif (D==3)then (Z I)else (Z false));bif (D==3)then (Y (E==4))else (Y false));bif (D==2)then (U I)else (U false));bif (D==2)then (T (E==4))else (T false));bif (D==1)then (Q I)else (Q false));bif (D==1)then (O (E==4))else (O false));bif (D==1)then bif (E==2)then (J true)else (J (E==3))else (J false));bif (E==1)then (L true)else (L (E==5)))
def ahg:=bA [(true,.lC),(false,.int),(false,.int)] dO (fD QK) 103 [] func187
def auo:enters Tryz.prog 274/\qI Tryz.prog 274 (ci Tryz.prog f274 1 []):=ID 1 [] func274 trivial
def QL(C:dc)(D E:Int)(I:Bool):aj (Int):=bif (D==7)then some C.xp else bif (D==9)then some C.xs else (let O:Bool -> aj (Int):=λj1=>bif j1 then (let Q:Int -> aj (Int):=λj2=>some j2;bif I then (Q C.jY)else (Q C.nE))else (let J:Bool -> aj (Int):=λj4=>bif j4 then (let T:Int -> aj (Int):=λj5=>some j5;bif I then (T C.nH)else (T C.nG))else (let U:Bool -> aj (Int):=λj7=>bif j7 then (let Y:Int -> aj (Int):=λj8=>some j8;bif I then (Y C.pn)else (Y C.pg))else (let Z:Bool -> aj (Int):=λCu=>bif Cu then some C.sx else (let J2:Bool -> aj (Int):=λXu=>bif Xu then some C.jY else (let Ac:Bool -> aj (Int):=λJn=>bif Jn then some C.jK else (let Ak:Bool -> aj (Int):=λCi=>bif Ci then some C.wr else bif (E==8)then (QK C D 1).bind λoK=>some oK else (let L:Bool -> aj (Int):=λXw=>bif Xw then some C.qi else some 0;letI u0:=bif (D==8)then (L (E==9))else (L false);bif (D==6)then bif (E==7)then (L true)else u0 else u0);bif (D==3)then (Ak (E==6))else (Ak false));bif (D==2)then (Ac (E==6))else (Ac false));bif (D==5)then (J2 (E==5))else (J2 false));bif (D==2)then (Z (E==3))else (Z false));bif (D==3)then (U (E==2))else (U false));letI u1:=bif (D==3)then (J (E==3))else (J false);bif (D==2)then bif (E==2)then (J true)else u1 else u1);bif (D==1)then (O (E==1))else (O false))
def aup:=bA ad0 dO (oI QL) 126 [ahg,⟨274,.i _,auo⟩] func185
def K0(C:aO)(D:Int):aj (Int):=(oM C).bind λE=>(cK D 0 (W6 (E-1))).bind λI=>bif (!I)then some (-1)else if C.aC=0 then none else some (W6 (D.tdiv C.aC))
def auq:=bA IK dO (bY K0) 15 [eI,r5] func186
def K1(O:aO)(J:dc)(C D:aH):aj (Int):=letI Q:=QK J C.kind D.kind;letI T:=QL J C.kind D.kind false;(xK C.kind).bind λy1=>bif y1 then (xK D.kind).bind λL=>bif L then (K0 O C.ax).bind λy3=>(K0 O D.ax).bind λy4=>(QL J C.kind D.kind (y3==y4)).bind λE=>letI U:=some (if E > 1 then E else 1);bif L then bif (C.ax==D.ax)then Q.bind λY=>some (if Y > (if E > 1 then E else 1)then Y else (if E > 1 then E else 1))else U else U else T.bind λI=>letI Z:=some (if I > 1 then I else 1);bif L then bif (C.ax==D.ax)then Q.bind λy8=>some (if y8 > (if I > 1 then I else 1)then y8 else (if I > 1 then I else 1))else Z else Z else T.bind λy9=>some (if y9 > 1 then y9 else 1)
def aur:=bA ad1 dO (oI K1) 55 [Qx,aup,auq,ahg] func89
def aus:bJ:=⟨[(4,.aG 4 0),(5,.aG 5 0),(6,.aG 6 0),(7,.aG 7 0),(9,tI),(30,.lf (.aF .int 0)),(31,tI),(32,tI)],adY,[]⟩
def aut:aa (Nat×bJ):=[(2,adA)]
abbrev ahh:=((af×af×af×af×Int×(aa Int)×Int×Int×af)×((Int×Int×Int×Int×af)×dc×((aa Int)×(aa Int)×af)×(Int×Int×Int×Int×af)×af))
def K2(x:ahh):aj (ahh⊕(((af×af×af×Int×af)×(dc×((aa Int)×(aa Int)×af)×(Int×Int×Int×Int×af)×af))⊕Empty)):=letI I:=(⟨x.2.1.1,x.2.1.2.1,x.2.1.2.2.1,x.2.1.2.2.2.1⟩:aO);letI D:=x.2.2.2.2.1;letI J:=(x.2.1,x.2.2.1,x.2.2.2.1,D,());letI C:=x.1.2.2.2.2;letI E:=C.2.2.2.1;bif E<C.2.2.1 then xI C.2.1 E λL=>bif L<0 then xG (((),(),(),(),C.1,C.2.1,C.2.2.1,(W6 (E+1)),()),J)else (CD I E).bind λQ=>(K1 I x.2.2.1 Q.1 (⟨D.1,D.2.1,D.2.2.1,D.2.2.2.1⟩:aH)).bind λT=>letI O:=W6 (L+T);xG (((),(),(),(),(if O > C.1 then O else C.1),C.2.1,C.2.2.1,(W6 (E+1)),()),J)else aA (((),(),(),C.1,()),(x.2.2.1,x.2.2.2.1,D,()))
def auu:KY 76 (bk f22):=⟨0,lB 0 aus aut K2,lp [agw,aur]⟩
def QM(C:aO)(Q:dc)(D:dF)(E:aH):aj (Int):=(Fm Q).bind λU=>bif (!U)then some (-1)else (Fq C D).bind λY=>bif (!Y)then some (-1)else (FC C E).bind λZ=>bif (!Z)then some (-1)else bw K2 (((),(),(),(),0,D.last,(D.last.length:Int),0,()),((C.cq,C.aC,C.rows,C.aN,()),Q,(D.last,D.bg,()),(E.kind,E.ax,E.row,E.bR,()),())) λI=>letI O:=I.1.2.2.2.1;letI J:=O;letI T:=bif J > 1000000 then some (-1)else some J;bif (I.2.2.2.1.1==1)then bif ((I.2.2.1.2.1.length:Int)==4)then xI I.2.2.1.2.1 (0:Int) λXD=>letI L:=W6 (XD+I.2.1.lu);bif (if L > O then L else J) > 1000000 then some (-1)else some (if L > O then L else J)else T else T
def auv:=cw ad2 dO (oI QM) 76 [XW,XU,Yb] [auu] func22
def jd(C:av)(D:aH):aj (Bool):=(KZ C.config.ay C.aY D).bind λI=>bif (!I)then some false else (QM C.config.ay C.config.cm C.ready D).bind λE=>bif (E != (-1))then some (E <= C.now)else some false
def FD:=bA [(true,.cV),(true,.Command)] cB (bY jd) 32 [ahf,auv] func66
def QN(C:aO)(E:ld)(I:Int):aj (aL×Bool):=letI L:=I.tmod C.aN;letI O:=some ((⟨0,0,0⟩:aL),false);letI J:=W6 (I.tdiv C.aN);letI Q:=J.tmod C.rows;(sZ C).bind λZ=>bif (!Z)then O else (Ky E).bind λy2=>bif (!y2)then O else (vG C).bind λy3=>(cK I 0 (W6 (y3-1))).bind λy4=>bif (!y4)then O else (oM C).bind λD=>letI T:=W6 (J.tdiv D);letI U:=W6 (I.tdiv D);letI Y:=W6 (U.tdiv C.aN);bif (E.order==0)then if C.aN=0 then none else if C.aN=0 then none else if D=0 then none else if C.aN=0 then none else if D=0 then none else bif E.hash then if D=0 then none else some ((⟨((W6 ((J.tmod D)+T)).tmod D),T,L⟩:aL),true)else some ((⟨(J.tmod D),T,L⟩:aL),true)else bif (E.order==1)then if D=0 then none else if D=0 then none else if C.aN=0 then none else if D=0 then none else if C.aN=0 then none else bif E.hash then if D=0 then none else some ((⟨((W6 ((I.tmod D)+Y)).tmod D),Y,(U.tmod C.aN)⟩:aL),true)else some ((⟨(I.tmod D),Y,(U.tmod C.aN)⟩:aL),true)else if C.aN=0 then none else if C.aN=0 then none else if C.rows=0 then none else if C.aN=0 then none else if C.rows=0 then none else bif E.hash then if D=0 then none else some ((⟨((W6 ((W6 (J.tdiv C.rows))+Q)).tmod D),Q,L⟩:aL),true)else some ((⟨(W6 (J.tdiv C.rows)),Q,L⟩:aL),true)
def auw:=bA [(true,.fR),(true,.q9),(false,.int)] Xb (fD QN) 99 [Qq,eI,r5,xJ,ago] func140
def QO(C:aO)(D E:Int):aj (Bool):=(CG C (⟨D,E,0⟩:aL)).bind λI=>some I
def auy:=bA [(true,.fR),(false,.int),(false,.int)] cB (fD QO) 12 [XZ] func227
def Ye(E:aO)(D:dG)(I J:Int):aj (Int):=(Fk E D).bind λL=>(QO L I J).bind λO=>bif (!O)then some (-1)else (Fi E D I).bind λC=>bif Nat.ble C.1 C.2&&Nat.ble C.2 D.map.length then xI ((D.map.take C.2).drop C.1) J λQ=>some Q else none
def auz:=bA II dO (oI Ye) 23 [XT,⟨121,.v XS,agi⟩,auy] func141
def vI(C:av)(E:Int):aj (aL×Bool):=(Fk C.config.ay C.spare).bind λI=>(QN I C.config.mapping E).bind λD=>bif (!D.2)then some ((⟨0,0,0⟩:aL),false)else (Ye C.config.ay C.spare D.1.ax D.1.row).bind λJ=>some ((⟨D.1.ax,J,D.1.bR⟩:aL),true)
def Yf:=bA [(true,.cV),(false,.int)] Xb (bY vI) 37 [XT,auw,auz] func67
def xO(D:cM)(C:aL)(I:Bool):aj (aH):=letI E:=some (⟨1,C.ax,C.row,0⟩:aH);(cK C.ax 0 (W6 ((D.aC.length:Int)-1))).bind λJ=>bif (!J)then E else xI D.aC C.ax λL=>bif (!L.open_)then E else xI D.aC C.ax λO=>bif (O.row != C.row)then some (⟨4,C.ax,0,0⟩:aH)else bif I then some (⟨3,C.ax,0,C.bR⟩:aH)else some (⟨2,C.ax,0,C.bR⟩:aH)
def ahi:=bA [(true,.iQ),(true,.Addr),(false,.bool)] IP (fD xO) 57 [eI] func68
def QS(D:aO)(C:aH):aj (Int):=(oM D).bind λE=>(xK C.kind).bind λI=>bif I then some (W6 ((W6 ((W6 (9*C.ax))+C.kind))-1))else some (W6 ((W6 ((W6 (9*E))+C.kind))-1))
def auA:=bA Xe dO (bY QS) 19 [r5,Qx] func228
def QT(O:aO)(J:dF)(C:fG):aj (dF):=letI Q:=([C.at_]:aa Int);(Fy J).bind λD=>letI L:=((D.bg++Q).length:Int);letI E:=W6 (L-4);letI T:=((D.bg++Q).take (L.toNat)).drop ((if E > 0 then E else 0).toNat);(let I:Bool -> aj (dF):=λZ=>bif Z then some D else (QS O C.cmd).bind λU=>letI Y:=D.last.set U.toNat C.at_;xL D.last U λPr=>bif (C.cmd.kind==1)then bif bD (D.bg.length+Q.length)then if 0 <= (if E > 0 then E else 0)/\(if E > 0 then E else 0) <= L/\L <= L then bif xZ T then some (⟨Y,(xA T)⟩:dF)else none else none else none else some (⟨Y,D.bg⟩:dF);(Fq O J).bind λy2=>bif (!y2)then (I true)else (FC O C.cmd).bind λy3=>bif (!y3)then (I true)else (cK C.at_ 0 1000000).bind λy4=>bif (!y4)then (I true)else bif (C.cmd.kind==1)then bif (J.bg.length:Int) > 0 then xI J.bg (W6 ((J.bg.length:Int)-1)) λe6=>(I (decide (C.at_ <= e6)))else (I false)else (I false))
def auB:=bA [(true,.fR),(true,.lD),(true,.Event)] [(true,.lD,2)] (fD QT) 84 [eI,XW,Yb,agV,auA] func142
end Go.Proofs.YtglnbhiaknohlaaGreat
