/-
  Functions of the program as plain functions of contents, and that the code computes them. Nothing here is a claim.
-/
import Derived.Test.YtnilicojgkhpnaaGreatVZ
import Derived.Test.YtnilicojgkhpnaaGreatRows
import Derived.Test.YtnilicojgkhpnaaGreatG1
import Derived.Test.YtnilicojgkhpnaaGreatG2
import Derived.Test.YtnilicojgkhpnaaGreatG3
import Derived.Test.YtnilicojgkhpnaaGreatG4
import Derived.Test.YtnilicojgkhpnaaGreatG5
import Derived.Test.YtnilicojgkhpnaaGreatG6
namespace Go.Proofs.YtnilicojgkhpnaaGreat
set_option linter.defProp false
open Go.RowKit Go.Proofs.Tryz
set_option linter.unusedVariables false
set_option maxRecDepth 100000
def GW(C:bU):ah (bU):=bif xZ C.rows then bif xZ C.counts then some (⟨(xA C.rows),(xA C.counts),C.dx⟩:bU)else none else none
def ajq:=aZ [(true,.gp)] [(true,.gp,2)] (bO GW) 14 [] func206
def ajr(C:aa aJ):ah ((aa aJ)):=bif ke C then none else bif bI (([]:aa aJ).length+C.length)then some (([]:aa aJ)++C)else none
def ZQ(C:aa aJ):ah ((aa aJ)):=bif ke C then some []else ajr C
def ajs:jl:=gW [(false,(.sl .Addr))] [(false,(.sl .Addr),2)] (λx=>ZQ x.1)
def ayb:enters Tryz.prog 207/\iR Tryz.prog 207 ajs:=Dk 8 [] [] func207 trivial sq (t:=.Addr) (g:=2) (F:=ajr) λx=>by kernel_rfl
def ajt(C:aa aN):ah ((aa aN)):=bif ke C then none else bif bI (([]:aa aN).length+C.length)then some (([]:aa aN)++C)else none
def ZR(C:aa aN):ah ((aa aN)):=bif ke C then some []else ajt C
def aju:jl:=gW [(false,(.sl .dg))] [(false,(.sl .dg),2)] (λx=>ZR x.1)
def ayc:enters Tryz.prog 208/\iR Tryz.prog 208 aju:=Dk 8 [] [] func208 trivial sq (t:=.dg) (g:=2) (F:=ajt) λx=>by kernel_rfl
def ajv(C:aa bZ):ah ((aa bZ)):=bif ke C then none else bif bI (([]:aa bZ).length+C.length)then some (([]:aa bZ)++C)else none
def ZS(C:aa bZ):ah ((aa bZ)):=bif ke C then some []else ajv C
def ajw:jl:=gW [(false,(.sl .fm))] [(false,(.sl .fm),2)] (λx=>ZS x.1)
def ayd:enters Tryz.prog 209/\iR Tryz.prog 209 ajw:=Dk 8 [] [] func209 trivial sq (t:=.fm) (g:=2) (F:=ajv) λx=>by kernel_rfl
def ajx(C:aa bV):ah ((aa bV)):=bif ke C then none else bif bI (([]:aa bV).length+C.length)then some (([]:aa bV)++C)else none
def ZT(C:aa bV):ah ((aa bV)):=bif ke C then some []else ajx C
def ajy:jl:=gW [(false,(.sl .fM))] [(false,(.sl .fM),2)] (λx=>ZT x.1)
def aye:enters Tryz.prog 210/\iR Tryz.prog 210 ajy:=Dk 8 [] [] func210 trivial sq (t:=.fM) (g:=2) (F:=ajx) λx=>by kernel_rfl
def ajz(C:aa dA):ah ((aa dA)):=bif ke C then none else bif bI (([]:aa dA).length+C.length)then some (([]:aa dA)++C)else none
def ZU(C:aa dA):ah ((aa dA)):=bif ke C then some []else ajz C
def ajA:jl:=gW [(false,(.sl .Event))] [(false,(.sl .Event),2)] (λx=>ZU x.1)
def ayf:enters Tryz.prog 211/\iR Tryz.prog 211 ajA:=Dk 8 [] [] func211 trivial sq (t:=.Event) (g:=2) (F:=ajz) λx=>by kernel_rfl
def ajB(C:aa cR):ah ((aa cR)):=bif ke C then none else bif bI (([]:aa cR).length+C.length)then some (([]:aa cR)++C)else none
def ZV(C:aa cR):ah ((aa cR)):=bif ke C then some []else ajB C
def ajC:jl:=gW [(false,(.sl .iP))] [(false,(.sl .iP),2)] (λx=>ZV x.1)
def ayg:enters Tryz.prog 212/\iR Tryz.prog 212 ajC:=Dk 8 [] [] func212 trivial sq (t:=.iP) (g:=2) (F:=ajB) λx=>by kernel_rfl
def ayh:bG:=⟨[(1,.aG 1 0),(2,.aG 2 0),(3,.aG 3 0),(36,.lf (.aF .gp 0)),(37,tI),(38,tI)],afC,QX⟩
def ayi:aa (Nat×bG):=[(2,⟨agA,afC,QX⟩)]
abbrev ajD:=((af×af×af×(aa bU)×Int×Int×af)×(av×av×(Int×Int×Int×Int×Int×Int×Int×Int×Int×Int×Int×Int×Int×Int×Int×Int×Int×Int×Int×Int×Int×Int×Bool×Int×Int×Int×Int×Int×Int×Int×Int×Int×Int×af×Int×Int×Int×Int×Int×Int×Int×af×Int×Int×Bool×Int×af×Int×af×af×af×af×af×Int×af×af×Int×Bool×af×(aa Int)×(aa aJ)×(aa aN)×(aa bZ)×Bool×Int×Int×Int×Int×Int×Int×Int×Int×(aa bV)×(aa dA)×(aa cR)×af)×(aa Int)×(aa Int)×(aa dG)×(aa Int)×(aa Int)×(aa bN)×(aa Int)×(aa Int)×(aa Int)×(aa Int)×(aa bU)×af))
def GX(x:ajD):ah (ajD⊕(((af×af×af×af)×(av×av×(Int×Int×Int×Int×Int×Int×Int×Int×Int×Int×Int×Int×Int×Int×Int×Int×Int×Int×Int×Int×Int×Int×Bool×Int×Int×Int×Int×Int×Int×Int×Int×Int×Int×af×Int×Int×Int×Int×Int×Int×Int×af×Int×Int×Bool×Int×af×Int×af×af×af×af×af×Int×af×af×Int×Bool×af×(aa Int)×(aa aJ)×(aa aN)×(aa bZ)×Bool×Int×Int×Int×Int×Int×Int×Int×Int×(aa bV)×(aa dA)×(aa cR)×af)×(aa Int)×(aa Int)×(aa dG)×(aa Int)×(aa Int)×(aa bN)×(aa Int)×(aa Int)×(aa Int)×(aa Int)×(aa bU)×af))⊕Empty)):=letI E:=x.1.2.2.2;letI C:=x.2.2.2.2;letI L:=C.2.2.2.2;letI D:=L.2.2.2;bif E.2.2.1<E.2.1 then xI E.1 E.2.2.1 λT=>(GW T).bind λO=>bif bI (D.2.2.2.1.length+[O].length)then xG (((),(),(),E.1,E.2.1,(W6 (E.2.2.1+1)),()),(x.2.1,x.2.2.1,x.2.2.2.1,C.1,C.2.1,C.2.2.1,C.2.2.2.1,L.1,L.2.1,L.2.2.1,D.1,D.2.1,D.2.2.1,(D.2.2.2.1++[O]),()))else none else ax (((),(),(),()),(x.2.1,x.2.2.1,x.2.2.2.1,C.1,C.2.1,C.2.2.1,C.2.2.2.1,L.1,L.2.1,L.2.2.1,D.1,D.2.1,D.2.2.1,D.2.2.2.1,()))
def ayj:KY 79 (aW f70):=⟨0,lB 0 ayh ayi GX,lp [ajq]⟩
def Bd(C:av):ah (av):=(GS C.box).bind λD=>(GU C.bq).bind λy2=>(GV C.ready).bind λy3=>(D1 C.array).bind λy4=>(SZ C.spare.map).bind λy5=>(uX C.aV).bind λy6=>bh GX (((),(),(),C.bL,(C.bL.length:Int),0,()),((⟨⟨⟨0,0,0,0⟩,⟨0,0,0,0,0,0,0,0,0,0,0,0,0,0,0,0,0⟩,⟨0,false⟩,0,0,0,⟨0,0⟩⟩,⟨⟨0,0,0,0,0,([]:aa Int),⟨0,0⟩⟩,⟨0,0,0,0,0,([]:aa Int),⟨0,0⟩⟩,false⟩,0,⟨([]:aa dG),0⟩,⟨([]:aa Int),([]:aa Int)⟩,⟨([]:aa bN),([]:aa Int),([]:aa Int)⟩,⟨0,([]:aa Int)⟩,⟨([]:aa Int),0,false⟩,([]:aa bU),([]:aa Int),([]:aa aJ),([]:aa aN),([]:aa bZ),⟨false,0,0⟩,⟨0,0,0⟩,⟨0,0,0⟩,([]:aa bV),([]:aa dA),([]:aa cR)⟩:av),C,(C.config.az.cg,C.config.az.aC,C.config.az.rows,C.config.az.aO,C.config.cq.kF,C.config.cq.rp,C.config.cq.hD,C.config.cq.nT,C.config.cq.kG,C.config.cq.kH,C.config.cq.nU,C.config.cq.nW,C.config.cq.jI,C.config.cq.wr,C.config.cq.nX,C.config.cq.nY,C.config.cq.qB,C.config.cq.nZ,C.config.cq.oK,C.config.cq.xp,C.config.cq.xs,C.config.mapping.order,C.config.mapping.hash,C.config.bF,C.config.interval,C.config.fZ,C.config.ep.bD,C.config.ep.bC,D.bK.dM,D.bK.cap,D.bK.dK,D.bK.low,D.bK.high,(),D.bK.de.down,D.bK.de.sleep,D.next.dM,D.next.cap,D.next.dK,D.next.low,D.next.high,(),D.next.de.down,D.next.de.sleep,D.waits,C.now,(),y2.bk,(),(),(),(),(),C.spare.bF,(),(),y6.wait,y6.dy,(),C.guard,C.pending,C.queue,C.shares,C.drain.on,C.drain.low,C.drain.high,C.bk.state,C.bk.since,C.bk.idle,C.cB.next,C.cB.every,C.cB.wait,C.errors,C.trace,C.cr,()),D.bK.weights,D.next.weights,y2.aC,y3.last,y3.aX,y4.cells,y4.bD,y4.bC,y5,y6.aI,([]:aa bU),())) λfy=>letI L:=fy.2.2.1;letI E:=fy.2.2.2;letI u16:=E.1.2.2;letI u9:=E.2.2.2.2.2;letI yL:=u9.2.2.2;letI u7:=u16.2.2.2;letI yK:=u7.2.2.2;letI u2:=yK.2.2.2;letI T:=u2.2.2.2;letI U:=T.2.2.2.2;letI Y:=U.2.2.2.2;letI Z:=Y.2.2.2.2;letI ow:=Z.2.2.2.2;letI AX:=ow.2.2.2.2;letI O:=AX.2.2;letI u8:=O.2.2.2.2.2.2;letI Dz:=u8.2.2.2.2.2.2.2.2.2.2.2;letI u1:=Dz.2.2.2;letI u6:=u1.2.2.2.2.2.2.2;letI yZ:=u6.2.2.2.2;(SZ L.guard).bind λfW=>(ZQ L.pending).bind λjd=>(ZR L.queue).bind λje=>(ZS L.shares).bind λmc=>(ZT L.errors).bind λjo=>(ZU L.trace).bind λnH=>(ZV L.cr).bind λjB=>some (⟨⟨⟨E.1.1,E.1.2.1,u16.1,u16.2.1⟩,⟨u16.2.2.1,u7.1,u7.2.1,u7.2.2.1,yK.1,yK.2.1,yK.2.2.1,u2.1,u2.2.1,u2.2.2.1,T.1,T.2.1,T.2.2.1,T.2.2.2.1,U.1,U.2.1,U.2.2.1⟩,⟨U.2.2.2.1,Y.1⟩,Y.2.1,Y.2.2.1,Y.2.2.2.1,⟨Z.1,Z.2.1⟩⟩,⟨⟨Z.2.2.1,Z.2.2.2.1,ow.1,ow.2.1,ow.2.2.1,E.2.1,⟨AX.1,AX.2.1⟩⟩,⟨O.1,O.2.1,O.2.2.1,O.2.2.2.1,O.2.2.2.2.1,E.2.2.1,⟨u8.1,u8.2.1⟩⟩,u8.2.2.1⟩,u8.2.2.2.1,⟨E.2.2.2.1,u8.2.2.2.2.2.1⟩,⟨E.2.2.2.2.1,u9.1⟩,⟨u9.2.1,u9.2.2.1,yL.1⟩,⟨Dz.1,yL.2.1⟩,⟨yL.2.2.1,u1.1,u1.2.1⟩,yL.2.2.2.1,fW,jd,je,mc,⟨u6.1,u6.2.1,u6.2.2.1⟩,⟨u6.2.2.2.1,yZ.1,yZ.2.1⟩,⟨yZ.2.2.1,yZ.2.2.2.1,yZ.2.2.2.2.1⟩,jo,nH,jB⟩:av)
def MM:=bS yG [(true,.cP,4)] (bO Bd) 79 [ZO,ajk,ajl,ZP,⟨204,.p ajp,aya⟩,S0,⟨207,.p ajs,ayb⟩,⟨208,.p aju,ayc⟩,⟨209,.p ajw,ayd⟩,⟨210,.p ajy,aye⟩,⟨211,.p ajA,ayf⟩,⟨212,.p ajC,ayg⟩] [ayj] func70
def cz(C D E:Int):ah (Bool):=bif C >= D then some (C <= E)else some false
def eB:=aZ [(false,.int),(false,.int),(false,.int)] bP (fR cz) 15 [] func133
def qp(C:aL):ah (Bool):=(cz C.cg 1 2).bind λD=>bif D then (cz C.aC 1 4).bind λE=>bif E then (cz C.rows 2 16).bind λL=>bif L then (cz C.aO 1 8).bind λO=>some O else some false else some false else some false
def tE:=aZ su bP (bO qp) 21 [eB] func279
def lP(C:aL):ah (Int):=(qp C).bind λD=>bif (!D)then some 0 else some (W6 (C.cg*C.aC))
def nI:=aZ su cE (bO lP) 11 [tE] func227
def qZ(C:aL):ah (Int):=(lP C).bind λD=>some (W6 ((W6 (D*C.rows))*C.aO))
def GY:=aZ su cE (bO qZ) 11 [nI] func81
abbrev ajE:=((Int×af×af×af×Int×Int×af)×((Int×Int×Int×Int×af)×(Int×af×af)×(Int×af×af)×(aa Int)×(aa Int)×af))
def GZ(x:ajE):ah (ajE⊕(((Int×af×af×af×Int×af)×((Int×Int×Int×Int×af)×(Int×af×af)×(Int×af×af)×(aa Int)×(aa Int)×af))⊕Empty)):=letI C:=x.2.2.2;letI D:=x.1.2.2.2.2;bif D.2.1<(W6 (x.2.1.2.2.1-x.1.1))then bif bI (C.2.2.1.length+([D.2.1]:aa Int).length)then xG ((x.1.1,(),(),(),D.1,(W6 (D.2.1+1)),()),(x.2.1,x.2.2.1,C.1,C.2.1,(C.2.2.1++([D.2.1]:aa Int)),()))else none else ax ((x.1.1,(),(),(),D.1,()),(x.2.1,x.2.2.1,C.1,C.2.1,C.2.2.1,()))
def ayk:KY 48 (sn (aW f272) 0):=⟨2,lB 2 ⟨[(1,tI),(2,.aG 2 0),(4,.aG 4 0),(6,.aG 6 0),(7,tI),(8,tI)],zz7,[]⟩ [(4,YN)] GZ,lp []⟩
abbrev ajF:=((Int×af×af×af×Int×af)×((Int×Int×Int×Int×af)×(Int×af×af)×(Int×af×af)×(aa Int)×(aa Int)×af))
def MN(x:ajF):ah (ajF⊕(((af×af×af)×((Int×af×af)×(Int×af×af)×(aa Int)×(aa Int)×af))⊕Empty)):=letI D:=x.2.2.2;(lP (⟨x.2.1.1,x.2.1.2.1,x.2.1.2.2.1,x.2.1.2.2.2.1⟩:aL)).bind λE=>bif x.1.2.2.2.2.1<E then bh GZ ((x.1.1,(),(),(),x.1.2.2.2.2.1,0,()),(x.2.1,x.2.2.1,D.1,D.2.1,D.2.2.1,())) λC=>xG ((C.1.1,(),(),(),(W6 (C.1.2.2.2.2.1+1)),()),(C.2.1,C.2.2.1,C.2.2.2.1,C.2.2.2.2.1,C.2.2.2.2.2.1,()))else ax (((),(),()),(x.2.2.1,D.1,D.2.1,D.2.2.1,()))
def ayl:KY 48 (aW f272):=⟨0,lB 0 YN [(2,afN)] MN,lq [nI] [ayk]⟩
def G0(C:aL)(D:Int):ah (c8×Bool):=letI E:=some ((⟨0,[]⟩:c8),false);(qp C).bind λO=>bif (!O)then E else (cz D 0 2).bind λT=>bif (!T)then E else bif (W6 (C.rows-D))<2 then E else bh MN ((D,(),(),(),0,()),((C.cg,C.aC,C.rows,C.aO,()),(0,(),()),(D,(),()),([]:aa Int),([]:aa Int),())) λL=>some ((⟨L.2.2.1.1,L.2.2.2.2.1⟩:c8),true)
def ZW:=bS Kf [(true,.mB,2),(false,.bool,0)] (bx G0) 48 [eB,tE] [ayl] func272
abbrev ajG:=((af×af×Int×Int×af)×(dw×(aa Int)×af))
def G1(x:ajG):ah (ajG⊕(((Bool×af)×(af))⊕(((af×af)×(dw×af))⊕Empty))):=letI C:=x.1.2.2;bif C.2.1<C.1 then xL x.2.2.1 C.2.1 λD=>(cz D 1 64).bind λE=>bif (!E)then ax ((false,()),())else xG (((),(),C.1,(W6 (C.2.1+1)),()),(x.2.1,x.2.2.1,()))else aU (((),()),(x.2.1,()))
def aym:KY 75 (aW f375):=⟨0,lB 0 ⟨[(1,.aG 1 0),(39,.lf (.own 39)),(40,tI),(41,tI)],[(1,.st .kI),(39,.sl .int 2)],[]⟩ [(1,qW),(2,agn)] G1,lp [eB]⟩
def G2(C:dw):ah (Bool):=letI E:=([C.kF,C.rp,C.hD,C.nT,C.kG,C.kH,C.nU,C.nW,C.jI,C.wr,C.nX,C.nY,C.qB,C.nZ,C.oK,C.xp,C.xs]:aa Int);bE G1 (((),(),(E.length:Int),0,()),(C,E,())) (λL=>some L.1.1) λO=>letI D:=O.2.1;bif D.kF <= D.hD then bif D.nT <= D.kG then bif D.nU <= D.nW then some (D.nX <= D.nY)else some false else some false else some false
def ZX:=bS F4 bP (bO G2) 75 [] [aym] func375
def MO(C:kE):ah (Bool):=(cz C.order 0 2).bind λD=>some D
def ajH:=aZ [(true,.oL)] bP (bO MO) 6 [eB] func376
def za(C:dw):ah (Int):=(G2 C).bind λD=>bif (!D)then some 0 else some (W6 (2*(W6 ((W6 ((W6 ((W6 ((W6 ((W6 ((W6 ((W6 ((W6 (C.oK+C.xp))+C.hD))+C.wr))+C.jI))+C.rp))+C.nZ))+C.kF))+(W6 (8*C.kG))))+16))))
def ayn:=aZ F4 cE (bO za) 35 [ZX] func377
def S1(C:eT):ah (Bool):=(G0 C.az C.bF).bind λD=>(qp C.az).bind λE=>bif E then (G2 C.cq).bind λL=>bif L then (MO C.mapping).bind λO=>bif O then bif D.2 then (za C.cq).bind λT=>(cz C.interval T 10000).bind λU=>bif U then (cz C.fZ 1 16).bind λY=>bif Y then (cz C.ep.bD (W6 (6*C.interval)) 100000).bind λZ=>bif Z then (cz C.ep.bC 0 100000).bind λy9=>some y9 else some false else some false else some false else some false else some false else some false else some false
def ayo:=aZ [(true,.Config)] bP (bO S1) 57 [eB,ZW,tE,ZX,ajH,ayn] func281
abbrev ajI:=(((aa bZ)×(aa bZ)×Int×Int×af)×(af))
def MP(x:ajI):ah (ajI⊕(((Bool×af)×(af))⊕((((aa bZ)×af)×(af))⊕Empty))):=letI C:=x.1.2.2;bif C.2.1<C.1 then xI x.1.2.1 C.2.1 λD=>(cz D.weight 1 9).bind λE=>bif (!E)then ax ((false,()),())else (cz D.fK 0 D.weight).bind λL=>bif (!L)then ax ((false,()),())else xG ((x.1.1,x.1.2.1,C.1,(W6 (C.2.1+1)),()),())else aU ((x.1.1,()),())
def ayp:KY 27 (aW f220):=⟨0,lB 0 ⟨[(0,.lf (.aF .fm 0)),(5,.lf (.aF .fm 0)),(6,tI),(7,tI)],[],[]⟩ [(1,qW),(2,ags)] MP,lp [eB]⟩
def G3(C:aa bZ):ah (Bool):=bE MP ((C,C,(C.length:Int),0,()),()) (λD=>some D.1.1) λE=>(cz (E.1.1.length:Int) 1 4).bind λL=>some L
def ZY:=bS [(false,(.sl .fm))] bP (bO G3) 27 [eB] [ayp] func220
abbrev ajJ:=((af×(aa Int)×Int×Int×af)×((aa bZ)×af))
def MQ(x:ajJ):ah (ajJ⊕(((af×af)×((aa bZ)×af))⊕Empty)):=letI C:=x.1.2.2;bif C.2.1<C.1 then xI x.1.2.1 C.2.1 λD=>letI E:=([(⟨D,D⟩:bZ)]:aa bZ);bif bI (x.2.1.length+E.length)then xG (((),x.1.2.1,C.1,(W6 (C.2.1+1)),()),((x.2.1++E),()))else none else ax (((),()),(x.2.1,()))
def ayq:KY 25 (aW f79):=⟨0,lB 0 ⟨[(4,.lf (.own 7)),(8,.lf (.aF .int 0)),(9,tI),(10,tI)],[(7,.sl .fm 2)],[]⟩ [(2,⟨[(4,.lf (.own 7))],[(7,.sl .fm 2)],[]⟩)] MQ,lp []⟩
def uY(C:aa Int):ah ((aa bZ)×Bool):=bh MQ (((),C,(C.length:Int),0,()),(([]:aa bZ),())) λD=>(G3 D.2.1).bind λE=>bif (!E)then some ([],false)else some (D.2.1,true)
def ZZ:=bS ou [(false,(.sl .fm),2),(false,.bool,0)] (bO uY) 25 [ZY] [ayq] func79
def D2(C:gV):ah (Bool):=bif C.low >= 0 then bif C.low<C.high then some (C.high <= 12)else some false else some false
def S2:=aZ [(true,.n6)] bP (bO D2) 18 [] func221
def MR(C:lW):ah (Bool):=(cz C.down 1 10000).bind λD=>bif D then bif C.sleep > C.down then some (C.sleep <= 20000)else some false else some false
def ajK:=aZ [(true,.oM)] bP (bO MR) 18 [eB] func378
def G4(C:dB):ah (Bool):=(uY C.weights).bind λE=>letI D:=(cz C.cap 0 100000).bind λL=>bif L then (cz C.dK 3 1000).bind λO=>bif O then (D2 (⟨false,C.low,C.high⟩:gV)).bind λT=>bif T then bif ((C.weights.length:Int)==4)then bif E.2 then (MR C.de).bind λU=>some U else some false else some false else some false else some false else some false;bif (C.dM==0)then D else bif (C.dM==1)then D else some false
def Z0:=aZ Dv bP (bO G4) 51 [ZZ,eB,S2,ajK] func282
def G5(C:Int):ah (Int):=(cz C 3 1000).bind λD=>bif (!D)then some 0 else some (W6 ((W6 (2*C))+2))
def ayr:=aZ lO cE (bO G5) 9 [eB] func283
def tF(C:eT)(D:dB):ah (Bool):=letI E:=W6 (C.cq.hD+C.cq.rp);(S1 C).bind λL=>bif L then (G4 D).bind λO=>bif O then (G5 D.dK).bind λT=>bif (W6 (T+2)) <= C.ep.bC then if E=0 then none else some ((W6 ((W6 (C.fZ+1))*D.dK)) > (W6 ((W6 ((W6 (5*C.interval)).tdiv E))+2)))else some false else some false else some false
def Z1:=aZ QV bP (bx tF) 42 [ayo,Z0,ayr] func150
abbrev ajL:=((af×(aa dG)×Int×Int×af)×((aa Int)×af))
def G6(x:ajL):ah (ajL⊕(((af×af)×((aa Int)×af))⊕Empty)):=letI C:=x.1.2.2.2.1;letI D:=((),x.1.2.1,x.1.2.2.1,(W6 (C+1)),());bif C<x.1.2.2.1 then xI x.1.2.1 C λE=>bif E.open_ then bif bI (x.2.1.length+([C]:aa Int).length)then xG (D,((x.2.1++([C]:aa Int)),()))else none else xG (D,(x.2.1,()))else ax (((),()),(x.2.1,()))
def ays:KY 23 (aW f327):=⟨0,lB 0 ⟨[(3,.lf (.own 6)),(8,.lf (.aF .iY 0)),(9,tI),(10,tI)],[(6,.sl .int 2)],[]⟩ [(2,agd)] G6,lp []⟩
def Be(C:cH):ah ((aa Int)):=bh G6 (((),C.aC,(C.aC.length:Int),0,()),(([]:aa Int),())) λD=>some D.2.1
def S3:=bS [(true,.iO)] mP (bO Be) 23 [] [ays] func327
abbrev ajM:=((af×af×(aa dG)×Int×Int×af)×((Int×Int×Int×Int×af)×((aa dG)×Int×af)×af))
def MS(x:ajM):ah (ajM⊕(((Bool×af)×(af))⊕(((af×af)×(((aa dG)×Int×af)×af))⊕Empty))):=letI C:=x.1.2.2;letI E:=xG (((),(),C.1,C.2.1,(W6 (C.2.2.1+1)),()),(x.2.1,x.2.2.1,()));bif C.2.2.1<C.2.1 then xI C.1 C.2.2.1 λD=>(cz D.row 0 (W6 (x.2.1.2.2.1-1))).bind λL=>bif (!L)then ax ((false,()),())else bif (!D.open_)then bif (D.row != 0)then ax ((false,()),())else E else E else aU (((),()),(x.2.2.1,()))
def ayt:KY 58 (aW f213):=⟨0,lB 0 ⟨[(2,.aG 2 0),(3,.aG 3 0),(25,.lf (.aF .iY 0)),(26,tI),(27,tI)],[(2,.aB fj),(3,.aB Du)],[]⟩ [(1,iz),(2,⟨[(3,.aG 3 0)],[(3,.aB Du)],[]⟩)] MS,lp [eB]⟩
def MT(C:aL)(D:cH):ah (Bool):=(qp C).bind λL=>bif (!L)then some false else (lP C).bind λO=>bif ((D.aC.length:Int) != O)then some false else (cz D.bk 0 2).bind λT=>bif (!T)then some false else bE MS (((),(),D.aC,(D.aC.length:Int),0,()),((C.cg,C.aC,C.rows,C.aO,()),(D.aC,D.bk,()),())) (λU=>some U.1.1) λE=>bif (E.2.1.2.1 != 2)then some true else (Be (⟨E.2.1.1,E.2.1.2.1⟩:cH)).bind λY=>some ((Y.length:Int)==0)
def ajN:=bS [(true,.ga),(true,.iO)] bP (bx MT) 58 [eB,nI,tE,S3] [ayt] func213
def zb(C:Int):ah (Bool):=(cz C 1 5).bind λD=>some D
def S4:=aZ lO bP (bO zb) 5 [eB] func413
def D3(O:aL)(L:Int):ah (aH×Bool):=letI C:=W6 (L.tdiv 9);letI D:=W6 ((L.tmod 9)+1);(lP O).bind λE=>bif C<E then (zb D).bind λT=>some ((⟨D,C,0,0⟩:aH),((decide (C<E))==T))else (zb D).bind λU=>some ((⟨D,0,0,0⟩:aH),((decide (C<E))==U))
def ajO:=aZ Kf [(true,.Command,0),(false,.bool,0)] (bx D3) 27 [nI,S4] func328
abbrev ajP:=((af×af×(aa Int)×Int×Int×af)×((Int×Int×Int×Int×af)×((aa Int)×(aa Int)×af)×af))
def MU(x:ajP):ah (ajP⊕(((Bool×af)×(af))⊕(((af×af)×(((aa Int)×(aa Int)×af)×af))⊕Empty))):=letI C:=x.1.2.2;letI D:=C.2.2.1;letI E:=xG (((),(),C.1,C.2.1,(W6 (D+1)),()),(x.2.1,x.2.2.1,()));bif D<C.2.1 then xI C.1 D λL=>(D3 (⟨x.2.1.1,x.2.1.2.1,x.2.1.2.2.1,x.2.1.2.2.2.1⟩:aL) D).bind λO=>(cz L (-1) 1000000).bind λT=>bif (!T)then ax ((false,()),())else bif (!O.2)then bif (L != (-1))then ax ((false,()),())else E else E else aU (((),()),(x.2.2.1,()))
def ayu:KY 82 (aW f214):=⟨0,lB 0 ⟨[(2,.aG 2 0),(3,.aG 3 0),(31,.lf (.aF .int 0)),(32,tI),(33,tI)],[(2,.aB fj),(3,.aB Dt)],[]⟩ [(1,iz),(2,agp)] MU,lp [eB,ajO]⟩
abbrev ajQ:=((af×(aa Int)×Int×Int×af)×(((aa Int)×(aa Int)×af)×af))
def MV(x:ajQ):ah (ajQ⊕(((Bool×af)×(af))⊕(((af)×(af))⊕Empty))):=letI C:=x.1.2.2.2.1;letI D:=xG (((),x.1.2.1,x.1.2.2.1,(W6 (C+1)),()),(x.2.1,()));bif C<x.1.2.2.1 then xI x.1.2.1 C λE=>(cz E 0 1000000).bind λL=>bif (!L)then ax ((false,()),())else bif C > 0 then xI x.2.1.2.1 (W6 (C-1)) λO=>bif O >= E then ax ((false,()),())else D else D else aU ((),())
def ayv:KY 82 (aW f214):=⟨2,lB 2 ⟨[(3,.aG 3 0),(57,.lf (.aF .int 0)),(58,tI),(59,tI)],[(3,.aB Dt)],[]⟩ [(1,iz),(4,fS)] MV,lp [eB]⟩
def G7(C:aL)(D:dJ):ah (Bool):=(qp C).bind λL=>bif (!L)then some false else (lP C).bind λO=>bif ((D.last.length:Int) != (W6 (9*(W6 (O+1)))))then some false else bif (D.aX.length:Int) > 4 then some false else bE MU (((),(),D.last,(D.last.length:Int),0,()),((C.cg,C.aC,C.rows,C.aO,()),(D.last,D.aX,()),())) (λT=>some T.1.1) λE=>bE MV (((),E.2.1.2.1,(E.2.1.2.1.length:Int),0,()),(E.2.1,())) (λU=>some U.1.1) λY=>some true
def Z2:=bS [(true,.ga),(true,.jZ)] bP (bx G7) 82 [nI,tE] [ayu,ayv] func214
def sy(C:Int):ah (Bool):=(cz C 0 15).bind λD=>some D
def MW:=aZ lO bP (bO sy) 5 [eB] func147
abbrev ajR:=(((aa Int)×Int×(aa Int)×Int×Int×af)×(af))
def Bf(x:ajR):ah (ajR⊕(((Bool×af)×(af))⊕((((aa Int)×Int×af)×(af))⊕Empty))):=letI C:=x.1.2.2;bif C.2.2.1<C.2.1 then xI C.1 C.2.2.1 λD=>(sy D).bind λE=>bif (!E)then ax ((false,()),())else xG ((x.1.1,x.1.2.1,C.1,C.2.1,(W6 (C.2.2.1+1)),()),())else aU ((x.1.1,x.1.2.1,()),())
def ayw:KY 21 (aW f329):=⟨0,lB 0 ⟨[(0,.lf (.aF .int 0)),(1,tI),(7,.lf (.aF .int 0)),(8,tI),(9,tI)],[],[]⟩ [(1,iz),(2,agj)] Bf,lp [MW]⟩
def wN(C:aa Int)(E:Int):ah (Bool):=bE Bf ((C,E,C,(C.length:Int),0,()),()) (λL=>some L.1.1) λD=>some ((D.1.1.length:Int)==D.1.2.1)
def MX:=bS AS bP (bx wN) 21 [] [ayw] func329
abbrev ajS:=((af×(aa bN)×Int×Int×af)×(((aa bN)×(aa Int)×(aa Int)×af)×af))
def MY(x:ajS):ah (ajS⊕(((Bool×af)×(af))⊕(((af×af)×(((aa bN)×(aa Int)×(aa Int)×af)×af))⊕Empty))):=letI C:=x.1.2.2;bif C.2.1<C.1 then xI x.1.2.1 C.2.1 λD=>(wN D.symbols 11).bind λE=>bif (!E)then ax ((false,()),())else xG (((),x.1.2.1,C.1,(W6 (C.2.1+1)),()),(x.2.1,()))else aU (((),()),(x.2.1,()))
def ayx:KY 74 (aW f215):=⟨0,lB 0 ⟨[(3,.aG 3 0),(40,.lf (.aF .Cell 0)),(41,tI),(42,tI)],[(3,.aB QS)],[]⟩ [(1,iz),(2,⟨[(3,.aG 3 0)],[(3,.aB QS)],[]⟩)] MY,lp [MX]⟩
abbrev ajT:=((af×Int×Int×af)×(((aa bN)×(aa Int)×(aa Int)×af)×af))
def MZ(x:ajT):ah (ajT⊕(((Bool×af)×(af))⊕(((af)×(af))⊕Empty))):=letI C:=x.1.2.2.1;bif C<x.1.2.1 then xI x.2.1.2.1 C λD=>(cz D 0 100000).bind λE=>bif (!E)then ax ((false,()),())else xI x.2.1.2.2.1 C λL=>(cz L 0 100000).bind λO=>bif (!O)then ax ((false,()),())else xG (((),x.1.2.1,(W6 (C+1)),()),(x.2.1,()))else aU ((),())
def ayy:KY 74 (aW f215):=⟨2,lB 2 ⟨[(3,.aG 3 0),(53,tI),(54,tI)],[(3,.aB QS)],[]⟩ [(1,iz),(4,fS)] MZ,lp [eB]⟩
def D4(D:aL)(C:cN):ah (Bool):=(lP D).bind λE=>(qp D).bind λO=>bif (!O)then some false else (qZ D).bind λT=>bif ((C.cells.length:Int) != T)then some false else bif ((C.bD.length:Int) != (W6 (E*D.rows)))then some false else bif ((C.bC.length:Int) != (W6 (E*D.rows)))then some false else bE MY (((),C.cells,(C.cells.length:Int),0,()),((C.cells,C.bD,C.bC,()),())) (λU=>some U.1.1) λL=>bE MZ (((),(L.2.1.2.1.length:Int),0,()),(L.2.1,())) (λY=>some Y.1.1) λZ=>some true
def Z3:=bS [(true,.ga),(true,.Array)] bP (bx D4) 74 [GY,nI,tE] [ayx,ayy] func215
def D5(T:aL)(E:c8)(L:Int):ah (Nat×Nat):=letI O:=W6 (T.rows-E.bF);letI C:=W6 (L*O);letI D:=W6 ((W6 (L+1))*O);if 0 <= C/\C <= D/\D <= (E.map.length:Int)then some (C.toNat,D.toNat)else none
def S5:CW:=Yy [(true,.ga),(true,.mB),(false,.int)] 1 1 .int (λx=>D5 x.1 x.2.1 x.2.2.1)
def Z4:enters Tryz.prog 330/\P2 Tryz.prog 330 S5:=asO (N:=23) (fn:=f330) (code:=aW f330) (Φ:=(nD [])) (Λ:=(kU [])) (t:=.int) func330 (by kernel_rfl) (by kernel_rfl) (by kernel_rfl) (by kernel_rfl) (by kernel_rfl) (by kernel_rfl) (by kernel_rfl) (by kernel_rfl) (wH _ trivial) sq (λx=>by kernel_rfl)
abbrev ajU:=((Int×Int×(aa Int)×Int×Int×af)×(af))
def M0(x:ajU):ah (ajU⊕(((Int×af)×(af))⊕Empty)):=letI C:=x.1.2.2;letI D:=C.2.2.1;bif D<C.2.1 then xI C.1 D λE=>bif (E==x.1.1)then xG ((x.1.1,(W6 (x.1.2.1+1)),C.1,C.2.1,(W6 (D+1)),()),())else xG ((x.1.1,x.1.2.1,C.1,C.2.1,(W6 (D+1)),()),())else ax ((x.1.2.1,()),())
def ayz:KY 21 (aW f331):=⟨0,lB 0 ⟨[(1,tI),(5,tI),(8,.lf (.aF .int 0)),(9,tI),(10,tI)],[],[]⟩ [(2,wI)] M0,lp []⟩
def S6(C:aa Int)(D:Int):ah (Int):=bh M0 ((D,0,C,(C.length:Int),0,()),()) λE=>some E.1.1
def ayA:=bS AS cE (bx S6) 21 [] [ayz] func331
abbrev ajV:=((af×af×Int×Int×(aa Int)×(aa Int)×Int×Int×af)×((Int×Int×Int×Int×af)×(Int×(aa Int)×af)×af))
def G8(x:ajV):ah (ajV⊕(((Bool×af)×(af))⊕(((af×af×Int×Int×af)×((Int×Int×Int×Int×af)×(Int×(aa Int)×af)×af))⊕Empty))):=letI D:=x.1.2.2;letI C:=D.2.2;letI E:=C.2.2.2.1;letI O:=xG (((),(),D.1,D.2.1,C.1,C.2.1,C.2.2.1,(W6 (E+1)),()),(x.2.1,x.2.2.1,()));bif E<C.2.2.1 then xI C.2.1 E λL=>bif (L != E)then (cz L D.1 (W6 (x.2.1.2.2.1-1))).bind λT=>bif (!T)then ax ((false,()),())else (S6 C.1 L).bind λU=>bif U > 1 then ax ((false,()),())else O else O else aU (((),(),D.1,D.2.1,()),(x.2.1,x.2.2.1,()))
def ayB:KY 71 (sn (aW f216) 0):=⟨2,lB 2 ⟨[(2,.aG 2 0),(3,.aG 3 0),(7,tI),(8,tI),(9,.lf (.aF .int 0)),(45,.lf (.aF .int 0)),(46,tI),(47,tI)],[(2,.aB fj),(3,.aB Ke)],[]⟩ [(1,iz),(4,YM)] G8,lp [eB,ayA]⟩
abbrev ajW:=((af×af×Int×Int×af)×((Int×Int×Int×Int×af)×(Int×(aa Int)×af)×af))
def M1(x:ajW):ah (ajW⊕(((Bool×af)×(af))⊕(((af)×(af))⊕Empty))):=letI L:=x.1.2.2.2.1;letI C:=x.2.2.1;letI T:=(⟨x.2.1.1,x.2.1.2.1,x.2.1.2.2.1,x.2.1.2.2.2.1⟩:aL);(lP T).bind λU=>bif L<U then (D5 T (⟨C.1,C.2.1⟩:c8) L).bind λD=>letI O:=(C.2.1.take D.2).drop D.1;bif Nat.ble D.1 D.2&&Nat.ble D.2 C.2.1.length then bE G8 (((),(),x.1.2.2.1,L,O,O,(O.length:Int),0,()),(x.2.1,C,())) (λY=>ax ((Y.1.1,()),())) λE=>xG (((),(),E.1.2.2.1,(W6 (E.1.2.2.2.1+1)),()),(E.2.1,E.2.2.1,()))else none else aU ((),())
def ayC:KY 71 (aW f216):=⟨0,lB 0 YM [(1,iz),(2,fS)] M1,lq [nI,⟨330,.v S5,Z4⟩] [ayB]⟩
def M3(C:aL)(D:c8):ah (Bool):=(G0 C D.bF).bind λE=>bif (!E.2)then some false else bif ((D.map.length:Int) != (E.1.map.length:Int))then some false else bE M1 (((),(),(W6 (C.rows-D.bF)),0,()),((C.cg,C.aC,C.rows,C.aO,()),(D.bF,D.map,()),())) (λL=>some L.1.1) λO=>some true
def ajX:=bS Y7 bP (bx M3) 71 [ZW] [ayC] func216
def zc(C:aL)(D:aJ):ah (Bool):=(qp C).bind λE=>bif E then (lP C).bind λL=>(cz D.ay 0 (W6 (L-1))).bind λO=>bif O then (cz D.row 0 (W6 (C.rows-1))).bind λT=>bif T then (cz D.bR 0 (W6 (C.aO-1))).bind λU=>some U else some false else some false else some false
def M4:=aZ QW bP (bx zc) 31 [eB,nI,tE] func146
abbrev ajY:=((af×(aa Int)×Int×Int×af)×(((aa Int)×Int×Bool×af)×af))
def M5(x:ajY):ah (ajY⊕(((Bool×af)×(af))⊕(((af×af)×(((aa Int)×Int×Bool×af)×af))⊕Empty))):=letI C:=x.1.2.2;bif C.2.1<C.1 then xI x.1.2.1 C.2.1 λD=>(cz D (-2) 5).bind λE=>bif (!E)then ax ((false,()),())else xG (((),x.1.2.1,C.1,(W6 (C.2.1+1)),()),(x.2.1,()))else aU (((),()),(x.2.1,()))
def ayD:KY 25 (aW f224):=⟨0,lB 0 ⟨[(1,.aG 1 0),(6,.lf (.aF .int 0)),(7,tI),(8,tI)],[(1,.aB Ds)],[]⟩ [(1,qW),(2,ago)] M5,lp [eB]⟩
def zd(C:cO):ah (Bool):=bE M5 (((),C.aI,(C.aI.length:Int),0,()),((C.aI,C.wait,C.dy,()),())) (λE=>some E.1.1) λD=>(cz (D.2.1.1.length:Int) 1 8).bind λL=>bif L then (cz D.2.1.2.1 1 10000).bind λO=>some O else some false
def G9:=bS F3 bP (bO zd) 25 [eB] [ayD] func224
abbrev ajZ:=(((aa Int)×Int×Int×Int×af)×(af))
def M6(x:ajZ):ah (ajZ⊕(((Int×af)×(af))⊕(((af)×(af))⊕Empty))):=letI C:=x.1.2.2.2.1;bif C<x.1.2.2.1 then xI x.1.1 C λD=>bif (x.1.2.1==D)then ax ((C,()),())else xG ((x.1.1,x.1.2.1,x.1.2.2.1,(W6 (C+1)),()),())else aU ((),())
def ayE:KY 19 (aW f414):=⟨0,lB 0 ⟨[(0,.lf (.aF .int 0)),(1,tI),(7,tI),(8,tI)],[],[]⟩ [(1,lN),(2,fS)] M6,lp []⟩
def D6(C:aa Int)(D:Int):ah (Int):=(iter M6 aT ((C,D,(C.length:Int),0,()),())).bind (Sum.elim (λE=>some E.1.1) (Sum.elim (λL=>some (-1)) (λz=>nomatch z)))
def Z5:=bS AS cE (bx D6) 19 [] [ayE] func414
abbrev aj0:=((af×(aa Int)×Int×Int×af)×(((aa Int)×(aa Int)×Int×af)×af))
def M7(x:aj0):ah (aj0⊕(((Bool×af)×(af))⊕(((af)×(af))⊕Empty))):=letI D:=ax ((false,()),());letI C:=x.1.2.2.2.1;letI L:=xG (((),x.1.2.1,x.1.2.2.1,(W6 (C+1)),()),(x.2.1,()));bif C<x.1.2.2.1 then xI x.1.2.1 C λE=>letI O:=bif (E != (-1))then (D6 x.2.1.1 E).bind λT=>bif (T != C)then D else L else L;(cz E (-1) 15).bind λU=>bif (!U)then D else xI x.2.1.2.1 C λY=>(cz Y x.2.1.2.2.1 100000).bind λZ=>bif (!Z)then D else bif (E==(-1))then xI x.2.1.2.1 C λgR=>bif (gR != 0)then D else O else O else aU ((),())
def ayF:KY 72 (aW f332):=⟨0,lB 0 ⟨[(1,.aG 1 0),(26,.lf (.aF .int 0)),(27,tI),(28,tI)],YS,[]⟩ [(1,qW),(2,fS)] M7,lp [eB,Z5]⟩
def Bg(C:bU):ah (Bool):=letI D:=(C.rows.length:Int);(cz D 1 16).bind λE=>bif (!E)then some false else bif ((C.counts.length:Int) != D)then some false else (cz C.dx 0 100000).bind λL=>bif (!L)then some false else bE M7 (((),C.rows,D,0,()),((C.rows,C.counts,C.dx,()),())) (λO=>some O.1.1) λT=>some true
def aj1:=bS [(true,.gp)] bP (bO Bg) 72 [eB] [ayF] func332
abbrev aj2:=(((aa aJ)×af×Int×Int×af)×((Int×Int×Int×af)×af))
def M8(x:aj2):ah (aj2⊕(((Int×af)×(af))⊕(((af)×(af))⊕Empty))):=letI C:=x.1.2.2.2.1;bif C<x.1.2.2.1 then xI x.1.1 C λD=>bif ((x.2.1.1==D.ay)&&((x.2.1.2.1==D.row)&&((x.2.1.2.2.1==D.bR)&&true)))then ax ((C,()),())else xG ((x.1.1,(),x.1.2.2.1,(W6 (C+1)),()),(x.2.1,()))else aU ((),())
def ayG:KY 19 (aW f333):=⟨0,lB 0 ⟨[(0,.lf (.aF .Addr 0)),(3,.aG 3 0),(7,tI),(8,tI)],[(3,.aB Kh)],[]⟩ [(1,lN),(2,fS)] M8,lp []⟩
def He(D:aa aJ)(C:aJ):ah (Int):=(iter M8 aT ((D,(),(D.length:Int),0,()),((C.ay,C.row,C.bR,()),()))).bind (Sum.elim (λE=>some E.1.1) (Sum.elim (λL=>some (-1)) (λz=>nomatch z)))
def aj3:=bS YX cE (bx He) 19 [] [ayG] func333
end Go.Proofs.YtnilicojgkhpnaaGreat
