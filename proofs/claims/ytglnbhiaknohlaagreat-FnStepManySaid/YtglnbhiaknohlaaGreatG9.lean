/-
  Functions of the program as plain functions of contents, and that the code computes them. Nothing here is a claim.
-/
import Derived.Test.YtglnbhiaknohlaaGreatVZ
import Derived.Test.YtglnbhiaknohlaaGreatRows
import Derived.Test.YtglnbhiaknohlaaGreatG1
import Derived.Test.YtglnbhiaknohlaaGreatG2
import Derived.Test.YtglnbhiaknohlaaGreatG3
import Derived.Test.YtglnbhiaknohlaaGreatG4
import Derived.Test.YtglnbhiaknohlaaGreatG5
import Derived.Test.YtglnbhiaknohlaaGreatG6
import Derived.Test.YtglnbhiaknohlaaGreatG7
import Derived.Test.YtglnbhiaknohlaaGreatG8
namespace Go.Proofs.YtglnbhiaknohlaaGreat
set_option linter.defProp false
open Go.RowKit Go.Proofs.Tryz
set_option linter.unusedVariables false
set_option maxRecDepth 100000
abbrev aiI:=(((aa eY)×(aa eY)×Int×af)×(af))
def LC(x:aiI):ah (aiI⊕(((Bool×af)×(af))⊕(((af)×(af))⊕Empty))):=letI E:=x.1.2.2.1;bif E<(x.1.1.length:Int)then xI x.1.1 E λC=>xI x.1.2.1 E λD=>bif (!((C.at_==D.at_)&&(((C.cmd.kind==D.cmd.kind)&&((C.cmd.ax==D.cmd.ax)&&((C.cmd.row==D.cmd.row)&&((C.cmd.bT==D.cmd.bT)&&true))))&&true)))then ay ((false,()),())else xG ((x.1.1,x.1.2.1,(W6 (E+1)),()),())else aV ((),())
def axE:KY 26 (aZ f83):=⟨0,lB 0 ⟨[(0,.lf (.aD .Event 0)),(1,.lf (.aD .Event 0)),(5,tI)],[],[]⟩ [(1,ia),(2,fG)] LC,lp []⟩
def RE(C D:aa eY):ah (Bool):=bif ((C.length:Int) != (D.length:Int))then some false else bQ LC ((C,D,0,()),()) (λE=>some E.1.1) λI=>some true
def axF:=cg [(false,(.sl .Event)),(false,(.sl .Event))] cm (bS RE) 26 [] [axE] func83
abbrev aiJ:=(((aa eM)×(aa eM)×Int×af)×(af))
def LD(x:aiJ):ah (aiJ⊕(((Bool×af)×(af))⊕(((af)×(af))⊕Empty))):=letI C:=x.1.2.2.1;bif C<(x.1.1.length:Int)then xI x.1.1 C λD=>xI x.1.2.1 C λE=>bif (!((D.id==E.id)&&((D.at_==E.at_)&&((D.data==E.data)&&((D.code==E.code)&&true)))))then ay ((false,()),())else xG ((x.1.1,x.1.2.1,(W6 (C+1)),()),())else aV ((),())
def axG:KY 26 (aZ f84):=⟨0,lB 0 ⟨[(0,.lf (.aD .lP 0)),(1,.lf (.aD .lP 0)),(5,tI)],[],[]⟩ [(1,ia),(2,fG)] LD,lp []⟩
def RG(C D:aa eM):ah (Bool):=bif ((C.length:Int) != (D.length:Int))then some false else bQ LD ((C,D,0,()),()) (λE=>some E.1.1) λI=>some true
def axH:=cg [(false,(.sl .lP)),(false,(.sl .lP))] cm (bS RG) 26 [] [axG] func84
def LF(C D:av):ah (Bool):=bif (!(((C.config.az.cu==D.config.az.cu)&&((C.config.az.aC==D.config.az.aC)&&((C.config.az.rows==D.config.az.rows)&&((C.config.az.aN==D.config.az.aN)&&true))))&&(((C.config.bL.jI==D.config.bL.jI)&&((C.config.bL.rp==D.config.bL.rp)&&((C.config.bL.gw==D.config.bL.gw)&&((C.config.bL.nq==D.config.bL.nq)&&((C.config.bL.jJ==D.config.bL.jJ)&&((C.config.bL.jK==D.config.bL.jK)&&((C.config.bL.nt==D.config.bL.nt)&&((C.config.bL.nu==D.config.bL.nu)&&((C.config.bL.iY==D.config.bL.iY)&&((C.config.bL.wr==D.config.bL.wr)&&((C.config.bL.ny==D.config.bL.ny)&&((C.config.bL.nA==D.config.bL.nA)&&((C.config.bL.pT==D.config.bL.pT)&&((C.config.bL.nB==D.config.bL.nB)&&((C.config.bL.n8==D.config.bL.n8)&&((C.config.bL.xp==D.config.bL.xp)&&((C.config.bL.xs==D.config.bL.xs)&&true)))))))))))))))))&&(((C.config.mapping.order==D.config.mapping.order)&&((C.config.mapping.hash==D.config.mapping.hash)&&true))&&((C.config.bP==D.config.bP)&&((C.config.interval==D.config.interval)&&((C.config.gU==D.config.gU)&&(((C.config.dU.bz==D.config.dU.bz)&&((C.config.dU.br==D.config.dU.br)&&true))&&true))))))))then some false else bif (C.now != D.now)then some false else (Lv C.box.bV D.box.bV).bind λE=>bif (!E)then some false else (Lv C.box.next D.box.next).bind λI=>bif (!I)then some false else bif (!(C.box.waits==D.box.waits))then some false else (Ru C.bq D.bq).bind λJ=>bif (!J)then some false else (qB C.ready.last D.ready.last).bind λL=>bif (!L)then some false else (qB C.ready.bf D.ready.bf).bind λO=>bif (!O)then some false else (Rx C.array D.array).bind λQ=>bif (!Q)then some false else bif (C.spare.bP != D.spare.bP)then some false else (qB C.spare.map D.spare.map).bind λT=>bif (!T)then some false else (qB C.aQ.aJ D.aQ.aJ).bind λU=>bif (!U)then some false else bif (C.aQ.wait != D.aQ.wait)then some false else bif (!(C.aQ.dD==D.aQ.dD))then some false else (Ry C.bO D.bO).bind λY=>bif (!Y)then some false else (qB C.guard D.guard).bind λZ=>bif (!Z)then some false else (Rz C.pending D.pending).bind λje=>bif (!je)then some false else (RB C.queue D.queue).bind λjU=>bif jU then (RC C.shares D.shares).bind λoF=>bif oF then bif ((C.drain.on==D.drain.on)&&((C.drain.low==D.drain.low)&&((C.drain.high==D.drain.high)&&true)))then bif ((C.bg.state==D.bg.state)&&((C.bg.since==D.bg.since)&&((C.bg.idle==D.bg.idle)&&true)))then bif ((C.cM.next==D.cM.next)&&((C.cM.every==D.cM.every)&&((C.cM.wait==D.cM.wait)&&true)))then (RD C.errors D.errors).bind λlE=>bif lE then (RE C.trace D.trace).bind λnT=>bif nT then (RG C.cz D.cz).bind λlF=>some lF else some false else some false else some false else some false else some false else some false else some false
def axI:=bw [(true,.cO),(true,.cO)] cm (bS LF) 203 [axm,axp,Lu,axt,axv,axx,axz,axB,axD,axF,axH] func18
def axJ:bJ:=⟨[(1,tI),(4,.aG 4 0),(5,.aG 5 0),(6,tI)],[],zz9⟩
def axK:aa (Nat×bJ):=[(2,⟨[(4,.aG 4 0),(5,.aG 5 0)],[],zz9⟩)]
abbrev aiK:=((Int×af×af×Int×af)×(av×av×af))
def LG(x:aiK):ah (aiK⊕(((af×af×af)×(av×av×af))⊕Empty)):=letI C:=ay (((),(),()),(x.2.1,x.2.2.1,()));bif x.1.2.2.2.1<x.1.1 then (cE x.1.1 0 5000).bind λD=>bif D then (CJ x.2.2.1).bind λE=>xG ((x.1.1,(),(),(W6 (x.1.2.2.2.1+1)),()),(x.2.1,E,()))else C else C
def axL:KY 21 (aZ f23):=⟨0,lB 0 axJ axK LG,lp [aiz,ew]⟩
def Ap(C:av)(D:Int):ah (av):=(Fo C).bind λE=>bu LG ((D,(),(),0,()),((⟨⟨⟨0,0,0,0⟩,⟨0,0,0,0,0,0,0,0,0,0,0,0,0,0,0,0,0⟩,⟨0,false⟩,0,0,0,⟨0,0⟩⟩,⟨⟨0,0,0,0,0,([]:aa Int),⟨0,0⟩⟩,⟨0,0,0,0,0,([]:aa Int),⟨0,0⟩⟩,false⟩,0,⟨([]:aa eP),0⟩,⟨([]:aa Int),([]:aa Int)⟩,⟨([]:aa bY),([]:aa Int),([]:aa Int)⟩,⟨0,([]:aa Int)⟩,⟨([]:aa Int),0,false⟩,([]:aa cr),([]:aa Int),([]:aa aK),([]:aa aX),([]:aa cw),⟨false,0,0⟩,⟨0,0,0⟩,⟨0,0,0⟩,([]:aa cv),([]:aa eY),([]:aa eM)⟩:av),E,())) λI=>some I.2.2.1
def axM:=cg [(true,.cO),(false,.int)] [(true,.cO,4)] (bS Ap) 21 [Yt] [axL] func23
def YU(E:aa Int):ah (Bool):=(Xz E).bind λO=>bif O then some true else (Qq E).bind λD=>(Qr E).bind λC=>if h4:0 <= (0:Int)/\(0:Int).toNat<C.length then if Q:(0:Int).toNat<C.length then (let I:=C[(0:Int).toNat]'Q;if h7:0 <= (1:Int)/\(1:Int).toNat<C.length then if T:(1:Int).toNat<C.length then (let J:=C[(1:Int).toNat]'T;(Ap D (W6 ((I.tmod 20)+(J.tmod 20)))).bind λL=>(Ap D (I.tmod 20)).bind λU=>(Ap U (J.tmod 20)).bind λY=>(CJ D).bind λZ=>(LF L Y).bind λlE=>bif lE then bif (L.now==(W6 ((W6 (D.now+(I.tmod 20)))+(J.tmod 20))))then (Ap D 1).bind λnT=>(LF Z nT).bind λlF=>some lF else some false else some false)else none else none)else none else none
def axN:jo:=gp [(false,(.sl .u8))] [(false,.bool,0)] (λx=>YU x.1)
def axO:enters Tryz.prog 6/\iP Tryz.prog 6 axN:=kp 56 [aqI,at8,aua,aiz,axI,axM] func6
end Go.Proofs.YtglnbhiaknohlaaGreat
