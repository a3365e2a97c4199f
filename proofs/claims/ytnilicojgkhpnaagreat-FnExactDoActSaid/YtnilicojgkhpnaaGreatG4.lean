/-
  Functions of the program as plain functions of contents, and that the code computes them. Nothing here is a claim.
-/
import Derived.Test.YtnilicojgkhpnaaGreatVZ
import Derived.Test.YtnilicojgkhpnaaGreatRows
import Derived.Test.YtnilicojgkhpnaaGreatG1
import Derived.Test.YtnilicojgkhpnaaGreatG2
import Derived.Test.YtnilicojgkhpnaaGreatG3
namespace Go.Proofs.YtnilicojgkhpnaaGreat
open Go.RowKit Go.Proofs.Tryz
set_option linter.unusedVariables false
set_option maxRecDepth 100000
def Zx(D:cQ)(E:Int):ah (Int):=(pQ D.map E).bind λC=>bif C<0 then some (-1)else some C
def av9:=aP [(true,.jL),(false,.int)] cm (bq Zx) 12 [Ap] func122
def Zy(D:cS)(E:Int):ah (Int):=(pQ D.aI E).bind λC=>bif C<0 then some (-1)else some C
def awa:=aP JD cm (bq Zy) 12 [Ap] func123
abbrev ahZ:=(((aa bV)×Int×Int×af)×(af))
def Kp(x:ahZ):ah (ahZ⊕(((Int×af)×(af))⊕(((Int×af)×(af))⊕Empty))):=letI C:=x.1.2.2.1;letI D:=av (((-1),()),());bif C<(x.1.1.length:Int)then xI x.1.1 C λO=>(pQ O.rows x.1.2.1).bind λL=>bif L<0 then D else xI x.1.1 C λT=>(pQ T.counts L).bind λE=>bif E<0 then D else xI x.1.1 C λU=>bif (U.dg != E)then D else xG ((x.1.1,(W6 (E+1)),(W6 (C+1)),()),())else aQ ((x.1.2.1,()),())
def awb:KY 40 (aW f124):=⟨0,lB 0 agy [(1,kC),(2,sM)] Kp,lp [Ap]⟩
def RE(C:aa bV)(D:Int):ah (Int):=bE Kp ((C,D,0,()),()) (λE=>some E.1.1) λL=>some L.1.1
def awc:=bS [(false,(.sl .fj)),(false,.int)] cm (bq RE) 40 [] [awb] func124
abbrev ah0:=(((aa aJ)×Int×Int×af)×(af))
def Kq(x:ah0):ah (ah0⊕(((Int×af)×(af))⊕(((Int×af)×(af))⊕Empty))):=letI D:=W6 (x.1.2.1+1);letI C:=x.1.2.2.1;letI E:=av (((-1),()),());bif C<(x.1.1.length:Int)then xI x.1.1 C λL=>bif (L.ay != x.1.2.1)then E else xI x.1.1 C λO=>bif (O.row != D)then E else xI x.1.1 C λT=>bif (T.bT != (W6 (D+1)))then E else xG ((x.1.1,(W6 ((W6 (D+1))+1)),(W6 (C+1)),()),())else aQ ((x.1.2.1,()),())
def awd:KY 40 (aW f126):=⟨0,lB 0 agz [(1,kC),(2,sM)] Kq,lp []⟩
def Kr(C:aa aJ)(D:Int):ah (Int):=bE Kq ((C,D,0,()),()) (λE=>some E.1.1) λL=>some L.1.1
def awe:=bS Qm cm (bq Kr) 40 [] [awd] func126
abbrev ah1:=(((aa aK)×Int×Int×af)×(af))
def Ks(x:ah1):ah (ah1⊕(((Int×af)×(af))⊕(((Int×af)×(af))⊕Empty))):=letI C:=x.1.1;letI L:=W6 (x.1.2.1+1);letI D:=x.1.2.2.1;letI E:=av (((-1),()),());letI T:=W6 ((W6 (L+1))+1);letI O:=W6 (T+1);bif D<(C.length:Int)then xI C D λU=>bif (U.id != x.1.2.1)then E else xI C D λY=>bif (Y.dm != L)then E else xI C D λZ=>bif (Z.line != (W6 (L+1)))then E else xI C D λe8=>bif (!(e8.write==((T.tmod 3)==0)))then E else xI C D λkE=>bif (kE.data != O)then E else xI C D λmA=>bif (mA.at_ != (W6 (O+1)))then E else xG ((C,(W6 ((W6 (O+1))+1)),(W6 (D+1)),()),())else aQ ((x.1.2.1,()),())
def awf:KY 69 (aW f127):=⟨0,lB 0 Y9 [(1,kC),(2,sM)] Ks,lp []⟩
def Kt(C:aa aK)(D:Int):ah (Int):=bE Ks ((C,D,0,()),()) (λE=>some E.1.1) λL=>some L.1.1
def awg:=bS Fo cm (bq Kt) 69 [] [awf] func127
abbrev ah2:=(((aa bY)×Int×Int×af)×(af))
def Ku(x:ah2):ah (ah2⊕(((Int×af)×(af))⊕(((Int×af)×(af))⊕Empty))):=letI C:=x.1.2;bif C.2.1<(x.1.1.length:Int)then xI x.1.1 C.2.1 λD=>bif (D.weight != C.1)then av (((-1),()),())else xI x.1.1 C.2.1 λE=>bif (E.ff != (W6 (C.1+1)))then av (((-1),()),())else xG ((x.1.1,(W6 ((W6 (C.1+1))+1)),(W6 (C.2.1+1)),()),())else aQ ((C.1,()),())
def awh:KY 31 (aW f128):=⟨0,lB 0 ⟨[(0,.lf (.aF .eC 0)),(1,tI),(5,tI)],[],[]⟩ [(1,kC),(2,sM)] Ku,lp []⟩
def Kv(C:aa bY)(D:Int):ah (Int):=bE Ku ((C,D,0,()),()) (λE=>some E.1.1) λL=>some L.1.1
def awi:=bS [(false,(.sl .eC)),(false,.int)] cm (bq Kv) 31 [] [awh] func128
abbrev ah3:=(((aa bW)×Int×Int×af)×(af))
def Kw(x:ah3):ah (ah3⊕(((Int×af)×(af))⊕(((Int×af)×(af))⊕Empty))):=letI D:=W6 (x.1.2.1+1);letI C:=x.1.2.2.1;letI E:=av (((-1),()),());bif C<(x.1.1.length:Int)then xI x.1.1 C λL=>bif (L.line != x.1.2.1)then E else xI x.1.1 C λO=>bif (O.code != D)then E else xI x.1.1 C λT=>bif (T.times != (W6 (D+1)))then E else xG ((x.1.1,(W6 ((W6 (D+1))+1)),(W6 (C+1)),()),())else aQ ((x.1.2.1,()),())
def awj:KY 40 (aW f129):=⟨0,lB 0 ⟨[(0,.lf (.aF .eH 0)),(1,tI),(5,tI)],[],[]⟩ [(1,kC),(2,sM)] Kw,lp []⟩
def Kx(C:aa bW)(D:Int):ah (Int):=bE Kw ((C,D,0,()),()) (λE=>some E.1.1) λL=>some L.1.1
def awk:=bS [(false,(.sl .eH)),(false,.int)] cm (bq Kx) 40 [] [awj] func129
abbrev ah4:=(((aa c8)×Int×Int×af)×(af))
def Ky(x:ah4):ah (ah4⊕(((Int×af)×(af))⊕(((Int×af)×(af))⊕Empty))):=letI C:=x.1.1;letI D:=x.1.2.2.1;letI E:=av (((-1),()),());letI O:=W6 ((W6 (x.1.2.1+1))+1);letI L:=W6 (O+1);bif D<(C.length:Int)then xI C D λT=>bif (T.at_ != x.1.2.1)then E else xI C D λU=>bif (U.cmd.kind != (W6 (x.1.2.1+1)))then E else xI C D λY=>bif (Y.cmd.ay != O)then E else xI C D λZ=>bif (Z.cmd.row != L)then E else xI C D λkE=>bif (kE.cmd.bT != (W6 (L+1)))then E else xG ((C,(W6 ((W6 (L+1))+1)),(W6 (D+1)),()),())else aQ ((x.1.2.1,()),())
def awl:KY 62 (aW f130):=⟨0,lB 0 ⟨[(0,.lf (.aF .Event 0)),(1,tI),(5,tI)],[],[]⟩ [(1,kC),(2,sM)] Ky,lp []⟩
def Kz(C:aa c8)(D:Int):ah (Int):=bE Ky ((C,D,0,()),()) (λE=>some E.1.1) λL=>some L.1.1
def awm:=bS [(false,(.sl .Event)),(false,.int)] cm (bq Kz) 62 [] [awl] func130
abbrev ah5:=(((aa cE)×Int×Int×af)×(af))
def KA(x:ah5):ah (ah5⊕(((Int×af)×(af))⊕(((Int×af)×(af))⊕Empty))):=letI C:=x.1.2.2.1;letI E:=W6 ((W6 (x.1.2.1+1))+1);letI D:=av (((-1),()),());bif C<(x.1.1.length:Int)then xI x.1.1 C λL=>bif (L.id != x.1.2.1)then D else xI x.1.1 C λO=>bif (O.at_ != (W6 (x.1.2.1+1)))then D else xI x.1.1 C λT=>bif (T.data != E)then D else xI x.1.1 C λU=>bif (U.code != (W6 (E+1)))then D else xG ((x.1.1,(W6 ((W6 (E+1))+1)),(W6 (C+1)),()),())else aQ ((x.1.2.1,()),())
def awn:KY 49 (aW f131):=⟨0,lB 0 ⟨[(0,.lf (.aF .fV 0)),(1,tI),(5,tI)],[],[]⟩ [(1,kC),(2,sM)] KA,lp []⟩
def KB(C:aa cE)(D:Int):ah (Int):=bE KA ((C,D,0,()),()) (λE=>some E.1.1) λL=>some L.1.1
def awo:=bS [(false,(.sl .fV)),(false,.int)] cm (bq KB) 49 [] [awn] func131
def RG(C:ax)(x1:Int):ah (Int):=(Zt C.box x1).bind λD=>bif D<0 then some (-1)else (Zu C.br D).bind λE=>bif E<0 then some (-1)else (Zv C.ready E).bind λL=>bif L<0 then some (-1)else (Zw C.array L).bind λO=>bif O<0 then some (-1)else (Zx C.spare O).bind λT=>bif T<0 then some (-1)else (Zy C.aV T).bind λU=>bif U<0 then some (-1)else (RE C.bJ U).bind λY=>bif Y<0 then some (-1)else (pQ C.guard Y).bind λZ=>bif Z<0 then some (-1)else (Kr C.pending Z).bind λy9=>bif y9<0 then some (-1)else (Kt C.queue y9).bind λgS=>bif gS<0 then some (-1)else (Kv C.shares gS).bind λeP=>bif eP<0 then some (-1)else (Kx C.errors eP).bind λgC=>bif gC<0 then some (-1)else (Kz C.trace gC).bind λgD=>bif gD<0 then some (-1)else (KB C.cy gD).bind λiV=>bif iV<0 then some (-1)else some iV
def awp:=aP Qq cm (bq RG) 90 [av1,av4,av5,av8,av9,awa,awc,Ap,awe,awg,awi,awk,awm,awo] func14
def RH(D:lC)(E:Int):ah (Int):=(Fv D.gY E).bind λC=>bif C<0 then some (-1)else some C
def awq:=aP [(true,.Act),(false,.int)] cm (bq RH) 12 [agW] func30
def CZ(C:fh):ah (fh):=bif xZ C.weights then some (⟨C.eX,C.cap,C.fQ,C.low,C.high,(xA C.weights),C.eT⟩:fh)else none
def Zz:=aP JL [(true,.lE,2)] (bG CZ) 9 [] func288
def KD(C:fM):ah (fM):=(CZ C.bH).bind λD=>(CZ C.next).bind λE=>some (⟨D,E,C.waits⟩:fM)
def ZA:=aP [(true,.jM)] [(true,.jM,2)] (bG KD) 12 [Zz] func158
def ZB(C:cC):ah (cC):=bif xZ C.aC then some (⟨(xA C.aC),C.bf⟩:cC)else none
def awr:=aP JM [(true,.ja,2)] (bG ZB) 10 [] func159
def uh(C:dB):ah (dB):=bif xZ C.last then bif xZ C.bC then some (⟨(xA C.last),(xA C.bC)⟩:dB)else none else none
def ah6:=aP [(true,.kO)] JJ (bG uh) 12 [] func160
def KE(C:bP):ah (bP):=bif xZ C.symbols then some (⟨(xA C.symbols),C.gO⟩:bP)else none
def ah7:=aP [(true,.Cell)] [(true,.Cell,2)] (bG KE) 9 [] func289
def aws:bL:=⟨[(1,.aH 1 0),(2,.aH 2 0),(3,.aH 3 0),(4,tI)],[(1,.aB af5),(2,.aB Qj),(3,.aB [.own 90200,.own 5,.own 9]),(90100,.sl .Cell 4),(90101,.sl .int 2),(90102,.sl .int 2),(90200,.sl .Cell 4),(5,.sl .int 2),(9,.sl .int 2)],[]⟩
def awt:aa (Nat×bL):=[(2,⟨[(2,.aH 2 0),(3,.aH 3 0)],[(2,.aB Qj),(3,.aB [.own 90200,.own 5,.own 9]),(90100,.sl .Cell 4),(90101,.sl .int 2),(90102,.sl .int 2),(90200,.sl .Cell 4),(5,.sl .int 2),(9,.sl .int 2)],[]⟩)]
abbrev ah8:=((af×af×af×Int×af)×(((aa bP)×(aa Int)×(aa Int)×af)×(af×af×af×af)×(af×af×af×af)×(aa bP)×(aa Int)×(aa Int)×(aa bP)×(aa Int)×(aa Int)×af))
def KF(x:ah8):ah (ah8⊕(((af×af×af)×((af×af×af×af)×(af×af×af×af)×(aa bP)×(aa Int)×(aa Int)×(aa bP)×(aa Int)×(aa Int)×af))⊕Empty)):=letI L:=x.1.2.2.2.1;letI E:=((),(),(),());letI D:=x.2.2.2.2.2;letI C:=D.2.2;bif L<(x.2.1.1.length:Int)then xI x.2.1.1 L λT=>(KE T).bind λO=>bif bM (C.1.length+[O].length)then xG (((),(),(),(W6 (L+1)),()),(x.2.1,E,E,x.2.2.2.2.1,D.1,D.2.1,(C.1++[O]),C.2.1,C.2.2.1,()))else none else av (((),(),()),(E,E,x.2.2.2.2.1,D.1,D.2.1,C.1,C.2.1,C.2.2.1,()))
def awu:KY 33 (aW f161):=⟨0,lB 0 aws awt KF,lp [ah7]⟩
def RI(C:cV):ah (cV):=bif xZ C.bx then bif xZ C.bw then bk KF (((),(),(),0,()),((C.cells,C.bx,C.bw,()),((),(),(),()),((),(),(),()),([]:aa bP),([]:aa Int),([]:aa Int),([]:aa bP),(xA C.bx),(xA C.bw),())) λE=>letI D:=E.2.2.2.2.2.2;some (⟨D.1,D.2.1,D.2.2.1⟩:cV)else none else none
def awv:=bS [(true,.Array)] JK (bG RI) 33 [] [awu] func161
def KG(C:cQ):ah (cQ):=bif xZ C.map then some (⟨C.bQ,(xA C.map)⟩:cQ)else none
def ah9:=aP [(true,.jL)] [(true,.jL,2)] (bG KG) 10 [] func162
def C0(C:cS):ah (cS):=bif xZ C.aI then some (⟨(xA C.aI),C.wait,C.dD⟩:cS)else none
def ZC:=aP CO [(true,.jz,2)] (bG C0) 9 [] func163
def KH(C:bV):ah (bV):=bif xZ C.rows then bif xZ C.counts then some (⟨(xA C.rows),(xA C.counts),C.dg⟩:bV)else none else none
def aia:=aP JN [(true,.fj,2)] (bG KH) 14 [] func164
def aww:bL:=⟨[(1,.aH 1 0),(2,.aH 2 0),(3,.lf (.own 29)),(4,tI)],zz4,Qt⟩
def awx:aa (Nat×bL):=[(2,⟨[(1,.aH 1 0),(2,.aH 2 0),(3,.lf (.own 29))],zz4,Qt⟩)]
abbrev aib:=((af×af×af×Int×af)×(ax×(Int×Int×Int×Int×Int×Int×Int×Int×Int×Int×Int×Int×Int×Int×Int×Int×Int×Int×Int×Int×Int×Int×Bool×Int×Int×Int×Int×Int×Int×Int×Int×Int×Int×af×Int×Int×Int×Int×Int×Int×Int×af×Int×Int×Bool×Int×af×Int×af×af×af×af×af×Int×af×af×Int×Bool×(aa bV)×(aa Int)×(aa aJ)×(aa aK)×(aa bY)×Bool×Int×Int×Int×Int×Int×Int×Int×Int×(aa bW)×(aa c8)×(aa cE)×af)×(aa bV)×(aa Int)×(aa Int)×(aa c9)×(aa Int)×(aa Int)×(aa bP)×(aa Int)×(aa Int)×(aa Int)×(aa Int)×af))
def FE(x:aib):ah (aib⊕(((af×af×af×af)×(ax×(Int×Int×Int×Int×Int×Int×Int×Int×Int×Int×Int×Int×Int×Int×Int×Int×Int×Int×Int×Int×Int×Int×Bool×Int×Int×Int×Int×Int×Int×Int×Int×Int×Int×af×Int×Int×Int×Int×Int×Int×Int×af×Int×Int×Bool×Int×af×Int×af×af×af×af×af×Int×af×af×Int×Bool×(aa bV)×(aa Int)×(aa aJ)×(aa aK)×(aa bY)×Bool×Int×Int×Int×Int×Int×Int×Int×Int×(aa bW)×(aa c8)×(aa cE)×af)×(aa bV)×(aa Int)×(aa Int)×(aa c9)×(aa Int)×(aa Int)×(aa bP)×(aa Int)×(aa Int)×(aa Int)×(aa Int)×af))⊕Empty)):=letI L:=x.1.2.2.2.1;letI C:=x.2.2.2;letI O:=x.2.2.1.2.2.2.2.2.2.2.2.2.2.2.2.2.2.2.2.2.2.2.2.2.2.2.2.2.2.2.2.2.2.2.2.2.2.2.2.2.2.2.2.2.2.2.2.2.2.2.2.2.2.2.2.2.2.2.2.2.2.1;letI E:=C.2.2.2.2;letI D:=E.2.2.2;bif L<(O.length:Int)then xI O L λU=>(KH U).bind λT=>bif bM (C.1.length+[T].length)then xG (((),(),(),(W6 (L+1)),()),(x.2.1,x.2.2.1,(C.1++[T]),C.2.1,C.2.2.1,C.2.2.2.1,E.1,E.2.1,E.2.2.1,D.1,D.2.1,D.2.2.1,D.2.2.2.1,()))else none else av (((),(),(),()),(x.2.1,x.2.2.1,C.1,C.2.1,C.2.2.1,C.2.2.2.1,E.1,E.2.1,E.2.2.1,D.1,D.2.1,D.2.2.1,D.2.2.2.1,()))
def awy:KY 84 (aW f50):=⟨0,lB 0 aww awx FE,lp [aia]⟩
def FF(C:ax):ah (ax):=(KD C.box).bind λD=>(ZB C.br).bind λy2=>(uh C.ready).bind λy3=>(RI C.array).bind λy4=>(KG C.spare).bind λy5=>(C0 C.aV).bind λy6=>bk FE (((),(),(),0,()),((⟨⟨⟨0,0,0,0⟩,⟨0,0,0,0,0,0,0,0,0,0,0,0,0,0,0,0,0⟩,⟨0,false⟩,0,0,0,⟨0,0⟩⟩,⟨⟨0,0,0,0,0,([]:aa Int),⟨0,0⟩⟩,⟨0,0,0,0,0,([]:aa Int),⟨0,0⟩⟩,false⟩,0,⟨([]:aa c9),0⟩,⟨([]:aa Int),([]:aa Int)⟩,⟨([]:aa bP),([]:aa Int),([]:aa Int)⟩,⟨0,([]:aa Int)⟩,⟨([]:aa Int),0,false⟩,([]:aa bV),([]:aa Int),([]:aa aJ),([]:aa aK),([]:aa bY),⟨false,0,0⟩,⟨0,0,0⟩,⟨0,0,0⟩,([]:aa bW),([]:aa c8),([]:aa cE)⟩:ax),(C.config.az.cu,C.config.az.aC,C.config.az.rows,C.config.az.aO,C.config.cq.jY,C.config.cq.rp,C.config.cq.gX,C.config.cq.nt,C.config.cq.jZ,C.config.cq.ke,C.config.cq.nu,C.config.cq.ny,C.config.cq.jy,C.config.cq.wr,C.config.cq.nA,C.config.cq.nB,C.config.cq.p9,C.config.cq.nD,C.config.cq.n7,C.config.cq.xp,C.config.cq.xs,C.config.mapping.order,C.config.mapping.hash,C.config.bQ,C.config.interval,C.config.iQ,C.config.dW.bx,C.config.dW.bw,D.bH.eX,D.bH.cap,D.bH.fQ,D.bH.low,D.bH.high,(),D.bH.eT.down,D.bH.eT.sleep,D.next.eX,D.next.cap,D.next.fQ,D.next.low,D.next.high,(),D.next.eT.down,D.next.eT.sleep,D.waits,C.now,(),y2.bf,(),(),(),(),(),y5.bQ,(),(),y6.wait,y6.dD,C.bJ,C.guard,C.pending,C.queue,C.shares,C.drain.on,C.drain.low,C.drain.high,C.bf.state,C.bf.since,C.bf.idle,C.cH.next,C.cH.every,C.cH.wait,C.errors,C.trace,C.cy,()),([]:aa bV),D.bH.weights,D.next.weights,y2.aC,y3.last,y3.bC,y4.cells,y4.bx,y4.bw,y5.map,y6.aI,())) λgy=>letI E:=gy.2.2;letI O:=E.1.2.2.2.2;letI nT:=E.2.2.2.2.2;letI C1:=nT.2.2.2;letI u3:=O.2.2.2.2.2;letI yc:=u3.2.2.2;letI u7:=yc.2.2.2;letI Aq:=u7.2.2.2;letI u1:=Aq.2.2.2;letI yd:=u1.2.2.2;letI u8:=yd.2.2.2;letI RJ:=u8.2.2.2;letI u2:=RJ.2.2.2.2;letI Y:=u2.2.2.2;letI T:=Y.2.2.2.2.2;letI u14:=T.2.2.2.2.2.2.2.2.2.2.2;letI Z:=u14.2.2.2;letI u9:=Z.2.2.2.2;letI u16:=u9.2.2;letI U:=u16.2.2.2.2;letI L:=U.2.2.2.2.2;bif xZ Z.2.2.2.1 then bif xZ u9.1 then bif xZ u9.2.1 then bif xZ u16.1 then bif xZ L.2.1 then bif xZ L.2.2.1 then bif xZ L.2.2.2.1 then some (⟨⟨⟨E.1.1,E.1.2.1,E.1.2.2.1,E.1.2.2.2.1⟩,⟨O.1,O.2.1,O.2.2.1,O.2.2.2.1,O.2.2.2.2.1,u3.1,u3.2.1,u3.2.2.1,yc.1,yc.2.1,yc.2.2.1,u7.1,u7.2.1,u7.2.2.1,Aq.1,Aq.2.1,Aq.2.2.1⟩,⟨u1.1,u1.2.1⟩,u1.2.2.1,yd.1,yd.2.1,⟨yd.2.2.1,u8.1⟩⟩,⟨⟨u8.2.1,u8.2.2.1,RJ.1,RJ.2.1,RJ.2.2.1,E.2.2.1,⟨u2.1,u2.2.1⟩⟩,⟨u2.2.2.1,Y.1,Y.2.1,Y.2.2.1,Y.2.2.2.1,E.2.2.2.1,⟨T.1,T.2.1⟩⟩,T.2.2.1⟩,T.2.2.2.1,⟨E.2.2.2.2.1,T.2.2.2.2.2.1⟩,⟨nT.1,nT.2.1⟩,⟨nT.2.2.1,C1.1,C1.2.1⟩,⟨u14.1,C1.2.2.1⟩,⟨C1.2.2.2.1,Z.1,Z.2.1⟩,E.2.1,(xA Z.2.2.2.1),(xA u9.1),(xA u9.2.1),(xA u16.1),⟨u16.2.1,u16.2.2.1,u16.2.2.2.1⟩,⟨U.1,U.2.1,U.2.2.1⟩,⟨U.2.2.2.1,U.2.2.2.2.1,L.1⟩,(xA L.2.1),(xA L.2.2.1),(xA L.2.2.2.1)⟩:ax)else none else none else none else none else none else none else none
def awz:=bS sN [(true,.cN,4)] (bG FF) 84 [ZA,awr,ah6,awv,ah9,ZC] [awy] func50
def cD(C D E:Int):ah (Bool):=bif C >= D then some (C <= E)else some false
def eU:=aP [(false,.int),(false,.int),(false,.int)] bR (fO cD) 15 [] func132
def ye(C:aM):ah (Bool):=(cD C.cu 1 2).bind λD=>bif D then (cD C.aC 1 4).bind λE=>bif E then (cD C.rows 2 16).bind λL=>bif L then (cD C.aO 1 8).bind λO=>some O else some false else some false else some false
def FG:=aP CN bR (bG ye) 21 [eU] func293
def pR(C:aM):ah (Int):=(ye C).bind λD=>bif (!D)then some 0 else some (W6 (C.cu*C.aC))
def oC:=aP CN cm (bG pR) 11 [FG] func255
abbrev aic:=((Int×af×af×af×Int×af)×((Int×Int×Int×Int×af)×(Int×af×af)×(Int×af×af)×(aa Int)×(aa Int)×af))
def KI(x:aic):ah (aic⊕(((af×af×af)×((Int×af×af)×(Int×af×af)×(aa Int)×(aa Int)×af))⊕Empty)):=letI C:=x.2.2.2;letI D:=x.1.2.2.2.2.1;letI E:=W6 (x.2.1.2.2.1-x.1.1);letI L:=([(D.tmod E)]:aa Int);(pR (⟨x.2.1.1,x.2.1.2.1,x.2.1.2.2.1,x.2.1.2.2.2.1⟩:aM)).bind λO=>bif D<(W6 (O*E))then if E=0 then none else bif bM (C.2.2.1.length+L.length)then xG ((x.1.1,(),(),(),(W6 (D+1)),()),(x.2.1,x.2.2.1,C.1,C.2.1,(C.2.2.1++L),()))else none else av (((),(),()),(x.2.2.1,C.1,C.2.1,C.2.2.1,()))
def awA:KY 49 (aW f257):=⟨0,lB 0 Y3 [(2,af8)] KI,lp [oC]⟩
def KJ(C:aM)(D:Int):ah (cQ×Bool):=letI E:=some ((⟨0,[]⟩:cQ),false);(ye C).bind λO=>bif (!O)then E else (cD D 0 2).bind λT=>bif (!T)then E else bif (W6 (C.rows-D))<2 then E else bk KI ((D,(),(),(),0,()),((C.cu,C.aC,C.rows,C.aO,()),(0,(),()),(D,(),()),([]:aa Int),([]:aa Int),())) λL=>some ((⟨L.2.2.1.1,L.2.2.2.2.1⟩:cQ),true)
def aid:=bS JE [(true,.jL,2),(false,.bool,0)] (bq KJ) 49 [eU,FG] [awA] func257
def ZD(C:dj):ah ((aa Int)):=some ([C.jY,C.rp,C.gX,C.nt,C.jZ,C.ke,C.nu,C.ny,C.jy,C.wr,C.nA,C.nB,C.p9,C.nD,C.n7,C.xp,C.xs]:aa Int)
def awB:=aP Fu mw (bG ZD) 38 [] func441
abbrev aie:=((af×af×Int×af)×(dj×(aa Int)×af))
def FH(x:aie):ah (aie⊕(((Bool×af)×(af))⊕(((af×af)×(dj×af))⊕Empty))):=bif x.1.2.2.1<(x.2.2.1.length:Int)then xL x.2.2.1 x.1.2.2.1 λC=>(cD C 1 64).bind λD=>bif (!D)then av ((false,()),())else xG (((),(),(W6 (x.1.2.2.1+1)),()),(x.2.1,x.2.2.1,()))else aQ (((),()),(x.2.1,()))
def awC:KY 45 (aW f381):=⟨0,lB 0 ⟨[(1,.aH 1 0),(3,.lf (.own 1000000000106000)),(4,tI)],[(1,.st .kf),(1000000000106000,.sl .int 2)],[]⟩ [(1,oB),(2,agJ)] FH,lp [eU]⟩
def C2(D:dj):ah (Bool):=(ZD D).bind λE=>bE FH (((),(),0,()),(D,E,())) (λL=>some L.1.1) λO=>letI C:=O.2.1;bif C.jY <= C.gX then bif C.nt <= C.jZ then bif C.nu <= C.ny then some (C.nA <= C.nB)else some false else some false else some false
def RK:=bS Fu bR (bG C2) 45 [awB] [awC] func381
def FI(C:jX):ah (Bool):=(cD C.order 0 2).bind λD=>some D
def aif:=aP [(true,.n8)] bR (bG FI) 6 [eU] func382
def KM(C:dj):ah (Int):=(C2 C).bind λD=>bif (!D)then some 0 else some (W6 (2*(W6 ((W6 ((W6 ((W6 ((W6 ((W6 ((W6 ((W6 ((W6 (C.n7+C.xp))+C.gX))+C.wr))+C.jy))+C.rp))+C.nD))+C.jY))+(W6 (8*C.jZ))))+16))))
def awD:=aP Fu cm (bG KM) 35 [RK] func383
def RL(C:iG):ah (Bool):=(KJ C.az C.bQ).bind λD=>bif (!D.2)then some false else (C2 C.cq).bind λE=>bif (!E)then some false else (FI C.mapping).bind λL=>bif (!L)then some false else (KM C.cq).bind λO=>(cD C.interval O 10000).bind λT=>bif (!T)then some false else (cD C.iQ 1 16).bind λU=>bif U then (cD C.dW.bx (W6 (6*C.interval)) 100000).bind λY=>bif Y then (cD C.dW.bw 0 100000).bind λZ=>some Z else some false else some false
def awE:=aP [(true,.Config)] bR (bG RL) 54 [eU,aid,RK,aif,awD] func290
def C3(C:gP):ah (Bool):=bif C.low >= 0 then bif C.high <= 12 then some (C.low<C.high)else some false else some false
def RM:=aP [(true,.lD)] bR (bG C3) 18 [] func176
abbrev aih:=(((aa bY)×Int×af)×(af))
def KN(x:aih):ah (aih⊕(((Bool×af)×(af))⊕((((aa bY)×af)×(af))⊕Empty))):=letI C:=x.1.2.1;bif C<(x.1.1.length:Int)then xI x.1.1 C λD=>(cD D.weight 1 9).bind λE=>bif (!E)then av ((false,()),())else xI x.1.1 C λL=>xI x.1.1 C λO=>(cD L.ff 0 O.weight).bind λT=>bif (!T)then av ((false,()),())else xG ((x.1.1,(W6 (C+1)),()),())else aQ ((x.1.1,()),())
def awF:KY 34 (aW f175):=⟨0,lB 0 ⟨[(0,.lf (.aF .eC 0)),(3,tI)],[],[]⟩ [(1,oB),(2,agN)] KN,lp [eU]⟩
def FJ(C:aa bY):ah (Bool):=bE KN ((C,0,()),()) (λD=>some D.1.1) λE=>(cD (E.1.1.length:Int) 1 4).bind λL=>some L
def ZE:=bS [(false,(.sl .eC))] bR (bG FJ) 34 [eU] [awF] func175
abbrev aii:=(((aa Int)×af×Int×af)×((aa bY)×af))
def KO(x:aii):ah (aii⊕(((af×af)×((aa bY)×af))⊕Empty)):=letI D:=av (((),()),(x.2.1,()));letI C:=x.1.2.2.1;bif C<(x.1.1.length:Int)then bif C <= 4 then xI x.1.1 C λL=>xI x.1.1 C λO=>letI E:=([(⟨L,O⟩:bY)]:aa bY);bif bM (x.2.1.length+E.length)then xG ((x.1.1,(),(W6 (C+1)),()),((x.2.1++E),()))else none else D else D
def awG:KY 34 (aW f186):=⟨0,lB 0 ⟨[(0,.lf (.aF .int 0)),(4,.lf (.own 6)),(5,tI)],[(6,.sl .eC 2)],[]⟩ [(2,⟨[(4,.lf (.own 6))],[(6,.sl .eC 2)],[]⟩)] KO,lp []⟩
def C4(D:aa Int):ah ((aa bY)×Bool):=bk KO ((D,(),0,()),(([]:aa bY),())) λC=>(FJ C.2.1).bind λE=>bif (!E)then some (([]:aa bY),false)else some (C.2.1,true)
def aij:=bS nS [(false,(.sl .eC),2),(false,.bool,0)] (bG C4) 34 [ZE] [awG] func186
def KP(C:lA):ah (Bool):=(cD C.down 1 10000).bind λD=>bif D then bif C.sleep > C.down then some (C.sleep <= 20000)else some false else some false
def aik:=aP [(true,.n9)] bR (bG KP) 18 [eU] func384
def KQ(C:fh):ah (Bool):=(C4 C.weights).bind λD=>(cD C.eX 0 1).bind λE=>bif E then (cD C.cap 0 100000).bind λL=>bif L then (cD C.fQ 3 1000).bind λO=>bif O then (C3 (⟨false,C.low,C.high⟩:gP)).bind λT=>bif T then bif D.2 then bif ((C.weights.length:Int)==4)then (KP C.eT).bind λU=>some U else some false else some false else some false else some false else some false else some false
def ail:=aP JL bR (bG KQ) 46 [eU,RM,aij,aik] func291
def RN(C:Int):ah (Int):=(cD C 3 1000).bind λD=>bif (!D)then some 0 else some (W6 ((W6 (2*C))+2))
def awH:=aP mz cm (bG RN) 9 [eU] func292
def C5(C:iG)(D:fh):ah (Bool):=letI E:=W6 (C.cq.gX+C.cq.rp);(RL C).bind λL=>bif (!L)then some false else (KQ D).bind λO=>bif (!O)then some false else (RN D.fQ).bind λT=>bif (W6 (T+2)) <= C.dW.bw then if E=0 then none else some ((W6 ((W6 (C.iQ+1))*D.fQ)) > (W6 ((W6 ((W6 (5*C.interval)).tdiv E))+2)))else some false
def aim:=aP [(true,.Config),(true,.lE)] bR (bq C5) 42 [awE,ail,awH] func165
abbrev ain:=((af×af×Int×af)×((Int×Int×Int×Int×af)×((aa c9)×Int×af)×af))
def KR(x:ain):ah (ain⊕(((Bool×af)×(af))⊕(((af)×(af))⊕Empty))):=letI D:=av ((false,()),());letI E:=xG (((),(),(W6 (x.1.2.2.1+1)),()),(x.2.1,x.2.2.1,()));bif x.1.2.2.1<(x.2.2.1.1.length:Int)then xI x.2.2.1.1 x.1.2.2.1 λC=>letI L:=bif C.open_ then bif (x.2.2.1.2.1==2)then D else E else E;(cD C.row 0 (W6 (x.2.1.2.2.1-1))).bind λO=>bif (!O)then D else bif (!C.open_)then bif (C.row != 0)then D else L else L else aQ ((),())
def awI:KY 62 (aW f166):=⟨0,lB 0 ⟨[(2,.aH 2 0),(3,.aH 3 0),(5,tI)],[(2,.aB eZ),(3,.aB Ak)],[]⟩ [(1,gR),(2,fq)] KR,lp [eU]⟩
def RO(C:aM)(D:cC):ah (Bool):=(ye C).bind λE=>bif (!E)then some false else (pR C).bind λL=>bif ((D.aC.length:Int) != L)then some false else (cD D.bf 0 2).bind λO=>bif (!O)then some false else bE KR (((),(),0,()),((C.cu,C.aC,C.rows,C.aO,()),(D.aC,D.bf,()),())) (λT=>some T.1.1) λU=>some true
def awJ:=bS [(true,.fA),(true,.ja)] bR (bq RO) 62 [eU,oC,FG] [awI] func166
def RQ(D:aM)(C:Int):ah (Bool):=(pR D).bind λE=>some ((decide ((W6 ((C.tmod 9)+1)) <= 5))==(decide ((W6 (C.tdiv 9))<E)))
def awK:=aP JE bR (bq RQ) 15 [oC] func294
abbrev aio:=((af×af×Int×af)×((Int×Int×Int×Int×af)×((aa Int)×(aa Int)×af)×af))
def KS(x:aio):ah (aio⊕(((Bool×af)×(af))⊕(((af×af)×(((aa Int)×(aa Int)×af)×af))⊕Empty))):=letI C:=x.2.2.1;letI D:=x.1.2.2.1;letI E:=xG (((),(),(W6 (D+1)),()),(x.2.1,C,()));bif D<(C.1.length:Int)then xI C.1 D λL=>(cD L (-1) 1000000).bind λO=>bif (!O)then av ((false,()),())else (RQ (⟨x.2.1.1,x.2.1.2.1,x.2.1.2.2.1,x.2.1.2.2.2.1⟩:aM) D).bind λT=>bif (!T)then xI C.1 D λU=>bif (U != (-1))then av ((false,()),())else E else E else aQ (((),()),(C,()))
def awL:KY 86 (aW f167):=⟨0,lB 0 ⟨[(2,.aH 2 0),(3,.aH 3 0),(5,tI)],[(2,.aB eZ),(3,.aB CM)],[]⟩ [(1,gR),(2,agK)] KS,lp [eU,awK]⟩
abbrev aip:=((af×Int×af)×(((aa Int)×(aa Int)×af)×af))
def KT(x:aip):ah (aip⊕(((Bool×af)×(af))⊕(((af)×(af))⊕Empty))):=letI D:=x.2.1.2.1;letI C:=x.1.2.1;letI E:=xG (((),(W6 (C+1)),()),(x.2.1,()));bif C<(D.length:Int)then xI D C λL=>(cD L 0 1000000).bind λO=>bif (!O)then av ((false,()),())else bif C > 0 then xI D (W6 (C-1)) λT=>xI D C λU=>bif T >= U then av ((false,()),())else E else E else aQ ((),())
def awM:KY 86 (aW f167):=⟨2,lB 2 ⟨[(3,.aH 3 0),(6,tI)],[(3,.aB CM)],[]⟩ [(1,gR),(4,fq)] KT,lp [eU]⟩
def KU(C:aM)(D:dB):ah (Bool):=(ye C).bind λE=>bif (!E)then some false else (pR C).bind λL=>bif ((D.last.length:Int) != (W6 (9*(W6 (L+1)))))then some false else bif (D.bC.length:Int) > 4 then some false else bE KS (((),(),0,()),((C.cu,C.aC,C.rows,C.aO,()),(D.last,D.bC,()),())) (λO=>some O.1.1) λT=>bE KT (((),0,()),(T.2.1,())) (λU=>some U.1.1) λY=>some true
def aiq:=bS [(true,.fA),(true,.kO)] bR (bq KU) 86 [oC,FG] [awL,awM] func167
end Go.Proofs.YtnilicojgkhpnaaGreat
