/-
  Functions of the program as plain functions of contents, and that the code computes them. Nothing here is a claim.
-/
import Derived.Test.YtnilicojgkhpnaaGreatVZ
import Derived.Test.YtnilicojgkhpnaaGreatRows
import Derived.Test.YtnilicojgkhpnaaGreatG1
import Derived.Test.YtnilicojgkhpnaaGreatG2
import Derived.Test.YtnilicojgkhpnaaGreatG3
namespace Go.Proofs.YtnilicojgkhpnaaGreat
open Go.RowKit Go.Proofs.Tryz
set_option linter.unusedVariables false
set_option maxRecDepth 100000
def XV(D:eZ)(E:Int):ah (Int):=(oV D.map E).bind λC=>bif C<0 then some (-1)else some C
def aug:=aM [(true,.kj),(false,.int)] cq (br XV) 12 [zY] func122
def XW(D:de)(E:Int):ah (Int):=(oV D.aH E).bind λC=>bif C<0 then some (-1)else some C
def auh:=aM IA cq (br XW) 12 [zY] func123
abbrev agk:=(((aa bQ)×Int×Int×af)×(af))
def Jw(x:agk):ah (agk⊕(((Int×af)×(af))⊕(((Int×af)×(af))⊕Empty))):=letI C:=x.1.2.2.1;letI D:=av (((-1),()),());bif C<(x.1.1.length:Int)then xI x.1.1 C λO=>(oV O.rows x.1.2.1).bind λL=>bif L<0 then D else xI x.1.1 C λT=>(oV T.counts L).bind λE=>bif E<0 then D else xI x.1.1 C λU=>bif (U.cY != E)then D else xG ((x.1.1,(W6 (E+1)),(W6 (C+1)),()),())else aQ ((x.1.2.1,()),())
def aui:KY 40 (aS f124):=⟨0,lB 0 aeZ [(1,kE),(2,su)] Jw,lp [zY]⟩
def Qh(C:aa bQ)(D:Int):ah (Int):=bE Jw ((C,D,0,()),()) (λE=>some E.1.1) λL=>some L.1.1
def auj:=bT [(false,(.sl .eR)),(false,.int)] cq (br Qh) 40 [] [aui] func124
abbrev agl:=(((aa aI)×Int×Int×af)×(af))
def Jx(x:agl):ah (agl⊕(((Int×af)×(af))⊕(((Int×af)×(af))⊕Empty))):=letI D:=W6 (x.1.2.1+1);letI C:=x.1.2.2.1;letI E:=av (((-1),()),());bif C<(x.1.1.length:Int)then xI x.1.1 C λL=>bif (L.ay != x.1.2.1)then E else xI x.1.1 C λO=>bif (O.row != D)then E else xI x.1.1 C λT=>bif (T.bR != (W6 (D+1)))then E else xG ((x.1.1,(W6 ((W6 (D+1))+1)),(W6 (C+1)),()),())else aQ ((x.1.2.1,()),())
def auk:KY 40 (aS f126):=⟨0,lB 0 ae0 [(1,kE),(2,su)] Jx,lp []⟩
def Jy(C:aa aI)(D:Int):ah (Int):=bE Jx ((C,D,0,()),()) (λE=>some E.1.1) λL=>some L.1.1
def aul:=bT OX cq (br Jy) 40 [] [auk] func126
abbrev agm:=(((aa bA)×Int×Int×af)×(af))
def Jz(x:agm):ah (agm⊕(((Int×af)×(af))⊕(((Int×af)×(af))⊕Empty))):=letI C:=x.1.1;letI L:=W6 (x.1.2.1+1);letI D:=x.1.2.2.1;letI E:=av (((-1),()),());letI T:=W6 ((W6 (L+1))+1);letI O:=W6 (T+1);bif D<(C.length:Int)then xI C D λU=>bif (U.id != x.1.2.1)then E else xI C D λY=>bif (Y.dN != L)then E else xI C D λZ=>bif (Z.line != (W6 (L+1)))then E else xI C D λe8=>bif (!(e8.write==((T.tmod 3)==0)))then E else xI C D λjU=>bif (jU.data != O)then E else xI C D λni=>bif (ni.at_ != (W6 (O+1)))then E else xG ((C,(W6 ((W6 (O+1))+1)),(W6 (D+1)),()),())else aQ ((x.1.2.1,()),())
def aum:KY 69 (aS f127):=⟨0,lB 0 XA [(1,kE),(2,su)] Jz,lp []⟩
def JA(C:aa bA)(D:Int):ah (Int):=bE Jz ((C,D,0,()),()) (λE=>some E.1.1) λL=>some L.1.1
def aun:=bT EI cq (br JA) 69 [] [aum] func127
abbrev agn:=(((aa bV)×Int×Int×af)×(af))
def JB(x:agn):ah (agn⊕(((Int×af)×(af))⊕(((Int×af)×(af))⊕Empty))):=letI C:=x.1.2;bif C.2.1<(x.1.1.length:Int)then xI x.1.1 C.2.1 λD=>bif (D.weight != C.1)then av (((-1),()),())else xI x.1.1 C.2.1 λE=>bif (E.eP != (W6 (C.1+1)))then av (((-1),()),())else xG ((x.1.1,(W6 ((W6 (C.1+1))+1)),(W6 (C.2.1+1)),()),())else aQ ((C.1,()),())
def auo:KY 31 (aS f128):=⟨0,lB 0 ⟨[(0,.lf (.aF .ef 0)),(1,tI),(5,tI)],[],[]⟩ [(1,kE),(2,su)] JB,lp []⟩
def JC(C:aa bV)(D:Int):ah (Int):=bE JB ((C,D,0,()),()) (λE=>some E.1.1) λL=>some L.1.1
def aup:=bT [(false,(.sl .ef)),(false,.int)] cq (br JC) 31 [] [auo] func128
abbrev ago:=(((aa bU)×Int×Int×af)×(af))
def JD(x:ago):ah (ago⊕(((Int×af)×(af))⊕(((Int×af)×(af))⊕Empty))):=letI D:=W6 (x.1.2.1+1);letI C:=x.1.2.2.1;letI E:=av (((-1),()),());bif C<(x.1.1.length:Int)then xI x.1.1 C λL=>bif (L.line != x.1.2.1)then E else xI x.1.1 C λO=>bif (O.code != D)then E else xI x.1.1 C λT=>bif (T.times != (W6 (D+1)))then E else xG ((x.1.1,(W6 ((W6 (D+1))+1)),(W6 (C+1)),()),())else aQ ((x.1.2.1,()),())
def auq:KY 40 (aS f129):=⟨0,lB 0 ⟨[(0,.lf (.aF .eo 0)),(1,tI),(5,tI)],[],[]⟩ [(1,kE),(2,su)] JD,lp []⟩
def JE(C:aa bU)(D:Int):ah (Int):=bE JD ((C,D,0,()),()) (λE=>some E.1.1) λL=>some L.1.1
def aur:=bT [(false,(.sl .eo)),(false,.int)] cq (br JE) 40 [] [auq] func129
abbrev agp:=(((aa cO)×Int×Int×af)×(af))
def JF(x:agp):ah (agp⊕(((Int×af)×(af))⊕(((Int×af)×(af))⊕Empty))):=letI C:=x.1.1;letI D:=x.1.2.2.1;letI E:=av (((-1),()),());letI O:=W6 ((W6 (x.1.2.1+1))+1);letI L:=W6 (O+1);bif D<(C.length:Int)then xI C D λT=>bif (T.at_ != x.1.2.1)then E else xI C D λU=>bif (U.cmd.kind != (W6 (x.1.2.1+1)))then E else xI C D λY=>bif (Y.cmd.ay != O)then E else xI C D λZ=>bif (Z.cmd.row != L)then E else xI C D λjU=>bif (jU.cmd.bR != (W6 (L+1)))then E else xG ((C,(W6 ((W6 (L+1))+1)),(W6 (D+1)),()),())else aQ ((x.1.2.1,()),())
def aus:KY 62 (aS f130):=⟨0,lB 0 ⟨[(0,.lf (.aF .Event 0)),(1,tI),(5,tI)],[],[]⟩ [(1,kE),(2,su)] JF,lp []⟩
def JG(C:aa cO)(D:Int):ah (Int):=bE JF ((C,D,0,()),()) (λE=>some E.1.1) λL=>some L.1.1
def aut:=bT [(false,(.sl .Event)),(false,.int)] cq (br JG) 62 [] [aus] func130
abbrev agq:=(((aa cW)×Int×Int×af)×(af))
def JH(x:agq):ah (agq⊕(((Int×af)×(af))⊕(((Int×af)×(af))⊕Empty))):=letI C:=x.1.2.2.1;letI E:=W6 ((W6 (x.1.2.1+1))+1);letI D:=av (((-1),()),());bif C<(x.1.1.length:Int)then xI x.1.1 C λL=>bif (L.id != x.1.2.1)then D else xI x.1.1 C λO=>bif (O.at_ != (W6 (x.1.2.1+1)))then D else xI x.1.1 C λT=>bif (T.data != E)then D else xI x.1.1 C λU=>bif (U.code != (W6 (E+1)))then D else xG ((x.1.1,(W6 ((W6 (E+1))+1)),(W6 (C+1)),()),())else aQ ((x.1.2.1,()),())
def auu:KY 49 (aS f131):=⟨0,lB 0 ⟨[(0,.lf (.aF .gd 0)),(1,tI),(5,tI)],[],[]⟩ [(1,kE),(2,su)] JH,lp []⟩
def JI(C:aa cW)(D:Int):ah (Int):=bE JH ((C,D,0,()),()) (λE=>some E.1.1) λL=>some L.1.1
def auv:=bT [(false,(.sl .gd)),(false,.int)] cq (br JI) 49 [] [auu] func131
def Qi(C:ax)(x1:Int):ah (Int):=(XR C.box x1).bind λD=>bif D<0 then some (-1)else (XS C.bq D).bind λE=>bif E<0 then some (-1)else (XT C.ready E).bind λL=>bif L<0 then some (-1)else (XU C.array L).bind λO=>bif O<0 then some (-1)else (XV C.spare O).bind λT=>bif T<0 then some (-1)else (XW C.aP T).bind λU=>bif U<0 then some (-1)else (Qh C.bH U).bind λY=>bif Y<0 then some (-1)else (oV C.guard Y).bind λZ=>bif Z<0 then some (-1)else (Jy C.pending Z).bind λy9=>bif y9<0 then some (-1)else (JA C.queue y9).bind λgS=>bif gS<0 then some (-1)else (JC C.shares gS).bind λeM=>bif eM<0 then some (-1)else (JE C.errors eM).bind λgD=>bif gD<0 then some (-1)else (JG C.trace gD).bind λgT=>bif gT<0 then some (-1)else (JI C.cS gT).bind λjz=>bif jz<0 then some (-1)else some jz
def auw:=aM IB cq (br Qi) 90 [at8,aub,auc,auf,aug,auh,auj,zY,aul,aun,aup,aur,aut,auv] func14
def JJ(C:fz):ah (fz):=bif xZ C.weights then some (⟨C.eO,C.cap,C.fD,C.low,C.high,(xA C.weights),C.eK⟩:fz)else none
def agr:=aM II [(true,.lU,2)] (bF JJ) 9 [] func288
def Qj(C:gJ):ah (gJ):=(JJ C.bI).bind λD=>(JJ C.next).bind λE=>some (⟨D,E,C.waits⟩:gJ)
def ags:=aM [(true,.jJ)] [(true,.jJ,2)] (bF Qj) 12 [agr] func158
def XX(C:cy):ah (cy):=bif xZ C.aB then some (⟨(xA C.aB),C.aZ⟩:cy)else none
def auy:=aM IJ [(true,.iI,2)] (bF XX) 10 [] func159
def tP(C:dn):ah (dn):=bif xZ C.last then bif xZ C.bx then some (⟨(xA C.last),(xA C.bx)⟩:dn)else none else none
def agt:=aM [(true,.ki)] IG (bF tP) 12 [] func160
def Ql(C:bK):ah (bK):=bif xZ C.symbols then some (⟨(xA C.symbols),C.iy⟩:bK)else none
def auz:=aM [(true,.Cell)] [(true,.Cell,2)] (bF Ql) 9 [] func289
def auA:bL:=⟨[(1,.aJ 1 0),(2,.aJ 2 0),(3,.aJ 3 0),(4,tI)],[(1,.aC aeK),(2,.aC OU),(3,.aC [.own 90200,.own 5,.own 9]),(90100,.sl .Cell 4),(90101,.sl .int 2),(90102,.sl .int 2),(90200,.sl .Cell 4),(5,.sl .int 2),(9,.sl .int 2)],[]⟩
def auB:aa (Nat×bL):=[(2,⟨[(2,.aJ 2 0),(3,.aJ 3 0)],[(2,.aC OU),(3,.aC [.own 90200,.own 5,.own 9]),(90100,.sl .Cell 4),(90101,.sl .int 2),(90102,.sl .int 2),(90200,.sl .Cell 4),(5,.sl .int 2),(9,.sl .int 2)],[]⟩)]
abbrev agu:=((af×af×af×Int×af)×(((aa bK)×(aa Int)×(aa Int)×af)×(af×af×af×af)×(af×af×af×af)×(aa bK)×(aa Int)×(aa Int)×(aa bK)×(aa Int)×(aa Int)×af))
def JK(x:agu):ah (agu⊕(((af×af×af)×((af×af×af×af)×(af×af×af×af)×(aa bK)×(aa Int)×(aa Int)×(aa bK)×(aa Int)×(aa Int)×af))⊕Empty)):=letI L:=x.1.2.2.2.1;letI E:=((),(),(),());letI D:=x.2.2.2.2.2;letI C:=D.2.2;bif L<(x.2.1.1.length:Int)then xI x.2.1.1 L λT=>(Ql T).bind λO=>bif bP (C.1.length+[O].length)then xG (((),(),(),(W6 (L+1)),()),(x.2.1,E,E,x.2.2.2.2.1,D.1,D.2.1,(C.1++[O]),C.2.1,C.2.2.1,()))else none else av (((),(),()),(E,E,x.2.2.2.2.1,D.1,D.2.1,C.1,C.2.1,C.2.2.1,()))
def auC:KY 33 (aS f161):=⟨0,lB 0 auA auB JK,lp [auz]⟩
def Qm(C:cZ):ah (cZ):=bif xZ C.bz then bif xZ C.bu then bh JK (((),(),(),0,()),((C.cells,C.bz,C.bu,()),((),(),(),()),((),(),(),()),([]:aa bK),([]:aa Int),([]:aa Int),([]:aa bK),(xA C.bz),(xA C.bu),())) λE=>letI D:=E.2.2.2.2.2.2;some (⟨D.1,D.2.1,D.2.2.1⟩:cZ)else none else none
def auD:=bT [(true,.Array)] [(true,.Array,4)] (bF Qm) 33 [] [auC] func161
def XY(C:eZ):ah (eZ):=bif xZ C.map then some (⟨C.cr,(xA C.map)⟩:eZ)else none
def auE:=aM [(true,.kj)] [(true,.kj,2)] (bF XY) 10 [] func162
def JL(C:de):ah (de):=bif xZ C.aH then some (⟨(xA C.aH),C.wait,C.dS⟩:de)else none
def agv:=aM Cl [(true,.kM,2)] (bF JL) 9 [] func163
def JM(C:bQ):ah (bQ):=bif xZ C.rows then bif xZ C.counts then some (⟨(xA C.rows),(xA C.counts),C.cY⟩:bQ)else none else none
def agw:=aM IK [(true,.eR,2)] (bF JM) 14 [] func164
def auF:bL:=⟨[(1,.aJ 1 0),(2,.aJ 2 0),(3,.lf (.own 29)),(4,tI)],zz4,O1⟩
def auG:aa (Nat×bL):=[(2,⟨[(1,.aJ 1 0),(2,.aJ 2 0),(3,.lf (.own 29))],zz4,O1⟩)]
abbrev agx:=((af×af×af×Int×af)×(ax×(Int×Int×Int×Int×Int×Int×Int×Int×Int×Int×Int×Int×Int×Int×Int×Int×Int×Int×Int×Int×Int×Int×Bool×Int×Int×Int×Int×Int×Int×Int×Int×Int×Int×af×Int×Int×Int×Int×Int×Int×Int×af×Int×Int×Bool×Int×af×Int×af×af×af×af×af×Int×af×af×Int×Bool×(aa bQ)×(aa Int)×(aa aI)×(aa bA)×(aa bV)×Bool×Int×Int×Int×Int×Int×Int×Int×Int×(aa bU)×(aa cO)×(aa cW)×af)×(aa bQ)×(aa Int)×(aa Int)×(aa cQ)×(aa Int)×(aa Int)×(aa bK)×(aa Int)×(aa Int)×(aa Int)×(aa Int)×af))
def EO(x:agx):ah (agx⊕(((af×af×af×af)×(ax×(Int×Int×Int×Int×Int×Int×Int×Int×Int×Int×Int×Int×Int×Int×Int×Int×Int×Int×Int×Int×Int×Int×Bool×Int×Int×Int×Int×Int×Int×Int×Int×Int×Int×af×Int×Int×Int×Int×Int×Int×Int×af×Int×Int×Bool×Int×af×Int×af×af×af×af×af×Int×af×af×Int×Bool×(aa bQ)×(aa Int)×(aa aI)×(aa bA)×(aa bV)×Bool×Int×Int×Int×Int×Int×Int×Int×Int×(aa bU)×(aa cO)×(aa cW)×af)×(aa bQ)×(aa Int)×(aa Int)×(aa cQ)×(aa Int)×(aa Int)×(aa bK)×(aa Int)×(aa Int)×(aa Int)×(aa Int)×af))⊕Empty)):=letI L:=x.1.2.2.2.1;letI C:=x.2.2.2;letI O:=x.2.2.1.2.2.2.2.2.2.2.2.2.2.2.2.2.2.2.2.2.2.2.2.2.2.2.2.2.2.2.2.2.2.2.2.2.2.2.2.2.2.2.2.2.2.2.2.2.2.2.2.2.2.2.2.2.2.2.2.2.2.1;letI E:=C.2.2.2.2;letI D:=E.2.2.2;bif L<(O.length:Int)then xI O L λU=>(JM U).bind λT=>bif bP (C.1.length+[T].length)then xG (((),(),(),(W6 (L+1)),()),(x.2.1,x.2.2.1,(C.1++[T]),C.2.1,C.2.2.1,C.2.2.2.1,E.1,E.2.1,E.2.2.1,D.1,D.2.1,D.2.2.1,D.2.2.2.1,()))else none else av (((),(),(),()),(x.2.1,x.2.2.1,C.1,C.2.1,C.2.2.1,C.2.2.2.1,E.1,E.2.1,E.2.2.1,D.1,D.2.1,D.2.2.1,D.2.2.2.1,()))
def auH:KY 84 (aS f50):=⟨0,lB 0 auF auG EO,lp [agw]⟩
def JN(C:ax):ah (ax):=(Qj C.box).bind λD=>(XX C.bq).bind λy2=>(tP C.ready).bind λy3=>(Qm C.array).bind λy4=>(XY C.spare).bind λy5=>(JL C.aP).bind λy6=>bh EO (((),(),(),0,()),((⟨⟨⟨0,0,0,0⟩,⟨0,0,0,0,0,0,0,0,0,0,0,0,0,0,0,0,0⟩,⟨0,false⟩,0,0,0,⟨0,0⟩⟩,⟨⟨0,0,0,0,0,([]:aa Int),⟨0,0⟩⟩,⟨0,0,0,0,0,([]:aa Int),⟨0,0⟩⟩,false⟩,0,⟨([]:aa cQ),0⟩,⟨([]:aa Int),([]:aa Int)⟩,⟨([]:aa bK),([]:aa Int),([]:aa Int)⟩,⟨0,([]:aa Int)⟩,⟨([]:aa Int),0,false⟩,([]:aa bQ),([]:aa Int),([]:aa aI),([]:aa bA),([]:aa bV),⟨false,0,0⟩,⟨0,0,0⟩,⟨0,0,0⟩,([]:aa bU),([]:aa cO),([]:aa cW)⟩:ax),(C.config.aE.cH,C.config.aE.aB,C.config.aE.rows,C.config.aE.aT,C.config.ck.jF,C.config.ck.rp,C.config.ck.gI,C.config.ck.mI,C.config.ck.jG,C.config.ck.jH,C.config.ck.mJ,C.config.ck.mK,C.config.ck.jh,C.config.ck.wr,C.config.ck.mL,C.config.ck.mM,C.config.ck.pG,C.config.ck.mN,C.config.ck.nI,C.config.ck.xp,C.config.ck.xs,C.config.mapping.order,C.config.mapping.hash,C.config.cr,C.config.interval,C.config.iz,C.config.dO.bz,C.config.dO.bu,D.bI.eO,D.bI.cap,D.bI.fD,D.bI.low,D.bI.high,(),D.bI.eK.down,D.bI.eK.sleep,D.next.eO,D.next.cap,D.next.fD,D.next.low,D.next.high,(),D.next.eK.down,D.next.eK.sleep,D.waits,C.now,(),y2.aZ,(),(),(),(),(),y5.cr,(),(),y6.wait,y6.dS,C.bH,C.guard,C.pending,C.queue,C.shares,C.drain.on,C.drain.low,C.drain.high,C.aZ.state,C.aZ.since,C.aZ.idle,C.cK.next,C.cK.every,C.cK.wait,C.errors,C.trace,C.cS,()),([]:aa bQ),D.bI.weights,D.next.weights,y2.aB,y3.last,y3.bx,y4.cells,y4.bz,y4.bu,y5.map,y6.aH,())) λjc=>letI E:=jc.2.2;letI O:=E.1.2.2.2.2;letI nj:=E.2.2.2.2.2;letI Cw:=nj.2.2.2;letI u3:=O.2.2.2.2.2;letI xQ:=u3.2.2.2;letI u7:=xQ.2.2.2;letI zZ:=u7.2.2.2;letI u1:=zZ.2.2.2;letI xR:=u1.2.2.2;letI u8:=xR.2.2.2;letI Qn:=u8.2.2.2;letI u2:=Qn.2.2.2.2;letI Y:=u2.2.2.2;letI T:=Y.2.2.2.2.2;letI u14:=T.2.2.2.2.2.2.2.2.2.2.2;letI Z:=u14.2.2.2;letI u9:=Z.2.2.2.2;letI u16:=u9.2.2;letI U:=u16.2.2.2.2;letI L:=U.2.2.2.2.2;bif xZ Z.2.2.2.1 then bif xZ u9.1 then bif xZ u9.2.1 then bif xZ u16.1 then bif xZ L.2.1 then bif xZ L.2.2.1 then bif xZ L.2.2.2.1 then some (⟨⟨⟨E.1.1,E.1.2.1,E.1.2.2.1,E.1.2.2.2.1⟩,⟨O.1,O.2.1,O.2.2.1,O.2.2.2.1,O.2.2.2.2.1,u3.1,u3.2.1,u3.2.2.1,xQ.1,xQ.2.1,xQ.2.2.1,u7.1,u7.2.1,u7.2.2.1,zZ.1,zZ.2.1,zZ.2.2.1⟩,⟨u1.1,u1.2.1⟩,u1.2.2.1,xR.1,xR.2.1,⟨xR.2.2.1,u8.1⟩⟩,⟨⟨u8.2.1,u8.2.2.1,Qn.1,Qn.2.1,Qn.2.2.1,E.2.2.1,⟨u2.1,u2.2.1⟩⟩,⟨u2.2.2.1,Y.1,Y.2.1,Y.2.2.1,Y.2.2.2.1,E.2.2.2.1,⟨T.1,T.2.1⟩⟩,T.2.2.1⟩,T.2.2.2.1,⟨E.2.2.2.2.1,T.2.2.2.2.2.1⟩,⟨nj.1,nj.2.1⟩,⟨nj.2.2.1,Cw.1,Cw.2.1⟩,⟨u14.1,Cw.2.2.1⟩,⟨Cw.2.2.2.1,Z.1,Z.2.1⟩,E.2.1,(xA Z.2.2.2.1),(xA u9.1),(xA u9.2.1),(xA u16.1),⟨u16.2.1,u16.2.2.1,u16.2.2.2.1⟩,⟨U.1,U.2.1,U.2.2.1⟩,⟨U.2.2.2.1,U.2.2.2.2.1,L.1⟩,(xA L.2.1),(xA L.2.2.1),(xA L.2.2.2.1)⟩:ax)else none else none else none else none else none else none else none
def auI:=bT sv [(true,.cN,4)] (bF JN) 84 [ags,auy,agt,auD,auE,agv] [auH] func50
def cG(C D E:Int):ah (Bool):=bif C >= D then some (C <= E)else some false
def eN:=aM [(false,.int),(false,.int),(false,.int)] bS (fS cG) 15 [] func132
def xS(C:aV):ah (Bool):=(cG C.cH 1 2).bind λD=>bif D then (cG C.aB 1 4).bind λE=>bif E then (cG C.rows 2 16).bind λL=>bif L then (cG C.aT 1 8).bind λO=>some O else some false else some false else some false
def EP:=aM Cj bS (bF xS) 21 [eN] func293
def qb(C:aV):ah (Int):=(xS C).bind λD=>bif (!D)then some 0 else some (W6 (C.cH*C.aB))
def oW:=aM Cj cq (bF qb) 11 [EP] func255
abbrev agy:=((Int×af×af×af×Int×af)×((Int×Int×Int×Int×af)×(Int×af×af)×(Int×af×af)×(aa Int)×(aa Int)×af))
def JO(x:agy):ah (agy⊕(((af×af×af)×((Int×af×af)×(Int×af×af)×(aa Int)×(aa Int)×af))⊕Empty)):=letI C:=x.2.2.2;letI D:=x.1.2.2.2.2.1;letI E:=W6 (x.2.1.2.2.1-x.1.1);letI L:=([(D.tmod E)]:aa Int);(qb (⟨x.2.1.1,x.2.1.2.1,x.2.1.2.2.1,x.2.1.2.2.2.1⟩:aV)).bind λO=>bif D<(W6 (O*E))then if E=0 then none else bif bP (C.2.2.1.length+L.length)then xG ((x.1.1,(),(),(),(W6 (D+1)),()),(x.2.1,x.2.2.1,C.1,C.2.1,(C.2.2.1++L),()))else none else av (((),(),()),(x.2.2.1,C.1,C.2.1,C.2.2.1,()))
def auJ:KY 49 (aS f257):=⟨0,lB 0 Xt [(2,aeE)] JO,lp [oW]⟩
def JP(C:aV)(D:Int):ah (eZ×Bool):=letI E:=some ((⟨0,[]⟩:eZ),false);(xS C).bind λO=>bif (!O)then E else (cG D 0 2).bind λT=>bif (!T)then E else bif (W6 (C.rows-D))<2 then E else bh JO ((D,(),(),(),0,()),((C.cH,C.aB,C.rows,C.aT,()),(0,(),()),(D,(),()),([]:aa Int),([]:aa Int),())) λL=>some ((⟨L.2.2.1.1,L.2.2.2.2.1⟩:eZ),true)
def agz:=bT IC [(true,.kj,2),(false,.bool,0)] (br JP) 49 [eN,EP] [auJ] func257
def XZ(C:c9):ah ((aa Int)):=some ([C.jF,C.rp,C.gI,C.mI,C.jG,C.jH,C.mJ,C.mK,C.jh,C.wr,C.mL,C.mM,C.pG,C.mN,C.nI,C.xp,C.xs]:aa Int)
def auK:=aM EL lK (bF XZ) 38 [] func441
abbrev agA:=((af×af×Int×af)×(c9×(aa Int)×af))
def ER(x:agA):ah (agA⊕(((Bool×af)×(af))⊕(((af×af)×(c9×af))⊕Empty))):=bif x.1.2.2.1<(x.2.2.1.length:Int)then xL x.2.2.1 x.1.2.2.1 λC=>(cG C 1 64).bind λD=>bif (!D)then av ((false,()),())else xG (((),(),(W6 (x.1.2.2.1+1)),()),(x.2.1,x.2.2.1,()))else aQ (((),()),(x.2.1,()))
def auL:KY 45 (aS f381):=⟨0,lB 0 ⟨[(1,.aJ 1 0),(3,.lf (.own 1000000000106000)),(4,tI)],[(1,.st .jI),(1000000000106000,.sl .int 2)],[]⟩ [(1,n7),(2,afb)] ER,lp [eN]⟩
def Cx(D:c9):ah (Bool):=(XZ D).bind λE=>bE ER (((),(),0,()),(D,E,())) (λL=>some L.1.1) λO=>letI C:=O.2.1;bif C.jF <= C.gI then bif C.mI <= C.jG then bif C.mJ <= C.mK then some (C.mL <= C.mM)else some false else some false else some false
def Qo:=bT EL bS (bF Cx) 45 [auK] [auL] func381
def ES(C:jE):ah (Bool):=(cG C.order 0 2).bind λD=>some D
def agB:=aM [(true,.nJ)] bS (bF ES) 6 [eN] func382
def JQ(C:c9):ah (Int):=(Cx C).bind λD=>bif (!D)then some 0 else some (W6 (2*(W6 ((W6 ((W6 ((W6 ((W6 ((W6 ((W6 ((W6 ((W6 (C.nI+C.xp))+C.gI))+C.wr))+C.jh))+C.rp))+C.mN))+C.jF))+(W6 (8*C.jG))))+16))))
def auM:=aM EL cq (bF JQ) 35 [Qo] func383
def Qp(C:ig):ah (Bool):=(JP C.aE C.cr).bind λD=>bif (!D.2)then some false else (Cx C.ck).bind λE=>bif (!E)then some false else (ES C.mapping).bind λL=>bif (!L)then some false else (JQ C.ck).bind λO=>(cG C.interval O 10000).bind λT=>bif (!T)then some false else (cG C.iz 1 16).bind λU=>bif U then (cG C.dO.bz (W6 (6*C.interval)) 100000).bind λY=>bif Y then (cG C.dO.bu 0 100000).bind λZ=>some Z else some false else some false
def auN:=aM [(true,.Config)] bS (bF Qp) 54 [eN,agz,Qo,agB,auM] func290
def Cy(C:gB):ah (Bool):=bif C.low >= 0 then bif C.high <= 12 then some (C.low<C.high)else some false else some false
def Qq:=aM [(true,.kN)] bS (bF Cy) 18 [] func176
abbrev agC:=(((aa bV)×Int×af)×(af))
def JR(x:agC):ah (agC⊕(((Bool×af)×(af))⊕((((aa bV)×af)×(af))⊕Empty))):=letI C:=x.1.2.1;bif C<(x.1.1.length:Int)then xI x.1.1 C λD=>(cG D.weight 1 9).bind λE=>bif (!E)then av ((false,()),())else xI x.1.1 C λL=>xI x.1.1 C λO=>(cG L.eP 0 O.weight).bind λT=>bif (!T)then av ((false,()),())else xG ((x.1.1,(W6 (C+1)),()),())else aQ ((x.1.1,()),())
def auO:KY 34 (aS f175):=⟨0,lB 0 ⟨[(0,.lf (.aF .ef 0)),(3,tI)],[],[]⟩ [(1,n7),(2,aff)] JR,lp [eN]⟩
def ET(C:aa bV):ah (Bool):=bE JR ((C,0,()),()) (λD=>some D.1.1) λE=>(cG (E.1.1.length:Int) 1 4).bind λL=>some L
def X0:=bT [(false,(.sl .ef))] bS (bF ET) 34 [eN] [auO] func175
abbrev agD:=(((aa Int)×af×Int×af)×((aa bV)×af))
def JS(x:agD):ah (agD⊕(((af×af)×((aa bV)×af))⊕Empty)):=letI D:=av (((),()),(x.2.1,()));letI C:=x.1.2.2.1;bif C<(x.1.1.length:Int)then bif C <= 4 then xI x.1.1 C λL=>xI x.1.1 C λO=>letI E:=([(⟨L,O⟩:bV)]:aa bV);bif bP (x.2.1.length+E.length)then xG ((x.1.1,(),(W6 (C+1)),()),((x.2.1++E),()))else none else D else D
def auP:KY 34 (aS f186):=⟨0,lB 0 ⟨[(0,.lf (.aF .int 0)),(4,.lf (.own 6)),(5,tI)],[(6,.sl .ef 2)],[]⟩ [(2,⟨[(4,.lf (.own 6))],[(6,.sl .ef 2)],[]⟩)] JS,lp []⟩
def Cz(D:aa Int):ah ((aa bV)×Bool):=bh JS ((D,(),0,()),(([]:aa bV),())) λC=>(ET C.2.1).bind λE=>bif (!E)then some (([]:aa bV),false)else some (C.2.1,true)
def agE:=bT nh [(false,(.sl .ef),2),(false,.bool,0)] (bF Cz) 34 [X0] [auP] func186
def JT(C:kL):ah (Bool):=(cG C.down 1 10000).bind λD=>bif D then bif C.sleep > C.down then some (C.sleep <= 20000)else some false else some false
def agF:=aM [(true,.nK)] bS (bF JT) 18 [eN] func384
def Qr(C:fz):ah (Bool):=(Cz C.weights).bind λD=>(cG C.eO 0 1).bind λE=>bif E then (cG C.cap 0 100000).bind λL=>bif L then (cG C.fD 3 1000).bind λO=>bif O then (Cy (⟨false,C.low,C.high⟩:gB)).bind λT=>bif T then bif D.2 then bif ((C.weights.length:Int)==4)then (JT C.eK).bind λU=>some U else some false else some false else some false else some false else some false else some false
def auQ:=aM II bS (bF Qr) 46 [eN,Qq,agE,agF] func291
def Qs(C:Int):ah (Int):=(cG C 3 1000).bind λD=>bif (!D)then some 0 else some (W6 ((W6 (2*C))+2))
def auR:=aM lM cq (bF Qs) 9 [eN] func292
def EU(C:ig)(D:fz):ah (Bool):=letI E:=W6 (C.ck.gI+C.ck.rp);(Qp C).bind λL=>bif (!L)then some false else (Qr D).bind λO=>bif (!O)then some false else (Qs D.fD).bind λT=>bif (W6 (T+2)) <= C.dO.bu then if E=0 then none else some ((W6 ((W6 (C.iz+1))*D.fD)) > (W6 ((W6 ((W6 (5*C.interval)).tdiv E))+2)))else some false
def auS:=aM [(true,.Config),(true,.lU)] bS (br EU) 42 [auN,auQ,auR] func165
abbrev agG:=((af×af×Int×af)×((Int×Int×Int×Int×af)×((aa cQ)×Int×af)×af))
def JU(x:agG):ah (agG⊕(((Bool×af)×(af))⊕(((af)×(af))⊕Empty))):=letI D:=av ((false,()),());letI E:=xG (((),(),(W6 (x.1.2.2.1+1)),()),(x.2.1,x.2.2.1,()));bif x.1.2.2.1<(x.2.2.1.1.length:Int)then xI x.2.2.1.1 x.1.2.2.1 λC=>letI L:=bif C.open_ then bif (x.2.2.1.2.1==2)then D else E else E;(cG C.row 0 (W6 (x.2.1.2.2.1-1))).bind λO=>bif (!O)then D else bif (!C.open_)then bif (C.row != 0)then D else L else L else aQ ((),())
def auT:KY 62 (aS f166):=⟨0,lB 0 ⟨[(2,.aJ 2 0),(3,.aJ 3 0),(5,tI)],[(2,.aC fZ),(3,.aC zS)],[]⟩ [(1,gC),(2,fq)] JU,lp [eN]⟩
def Qt(C:aV)(D:cy):ah (Bool):=(xS C).bind λE=>bif (!E)then some false else (qb C).bind λL=>bif ((D.aB.length:Int) != L)then some false else (cG D.aZ 0 2).bind λO=>bif (!O)then some false else bE JU (((),(),0,()),((C.cH,C.aB,C.rows,C.aT,()),(D.aB,D.aZ,()),())) (λT=>some T.1.1) λU=>some true
def auU:=bT [(true,.fe),(true,.iI)] bS (br Qt) 62 [eN,oW,EP] [auT] func166
def Qu(D:aV)(C:Int):ah (Bool):=(qb D).bind λE=>some ((decide ((W6 ((C.tmod 9)+1)) <= 5))==(decide ((W6 (C.tdiv 9))<E)))
def auV:=aM IC bS (br Qu) 15 [oW] func294
abbrev agH:=((af×af×Int×af)×((Int×Int×Int×Int×af)×((aa Int)×(aa Int)×af)×af))
def JV(x:agH):ah (agH⊕(((Bool×af)×(af))⊕(((af×af)×(((aa Int)×(aa Int)×af)×af))⊕Empty))):=letI C:=x.2.2.1;letI D:=x.1.2.2.1;letI E:=xG (((),(),(W6 (D+1)),()),(x.2.1,C,()));bif D<(C.1.length:Int)then xI C.1 D λL=>(cG L (-1) 1000000).bind λO=>bif (!O)then av ((false,()),())else (Qu (⟨x.2.1.1,x.2.1.2.1,x.2.1.2.2.1,x.2.1.2.2.2.1⟩:aV) D).bind λT=>bif (!T)then xI C.1 D λU=>bif (U != (-1))then av ((false,()),())else E else E else aQ (((),()),(C,()))
def auW:KY 86 (aS f167):=⟨0,lB 0 ⟨[(2,.aJ 2 0),(3,.aJ 3 0),(5,tI)],[(2,.aC fZ),(3,.aC Ci)],[]⟩ [(1,gC),(2,afc)] JV,lp [eN,auV]⟩
abbrev agI:=((af×Int×af)×(((aa Int)×(aa Int)×af)×af))
def JW(x:agI):ah (agI⊕(((Bool×af)×(af))⊕(((af)×(af))⊕Empty))):=letI D:=x.2.1.2.1;letI C:=x.1.2.1;letI E:=xG (((),(W6 (C+1)),()),(x.2.1,()));bif C<(D.length:Int)then xI D C λL=>(cG L 0 1000000).bind λO=>bif (!O)then av ((false,()),())else bif C > 0 then xI D (W6 (C-1)) λT=>xI D C λU=>bif T >= U then av ((false,()),())else E else E else aQ ((),())
def auX:KY 86 (aS f167):=⟨2,lB 2 ⟨[(3,.aJ 3 0),(6,tI)],[(3,.aC Ci)],[]⟩ [(1,gC),(4,fq)] JW,lp [eN]⟩
def JX(C:aV)(D:dn):ah (Bool):=(xS C).bind λE=>bif (!E)then some false else (qb C).bind λL=>bif ((D.last.length:Int) != (W6 (9*(W6 (L+1)))))then some false else bif (D.bx.length:Int) > 4 then some false else bE JV (((),(),0,()),((C.cH,C.aB,C.rows,C.aT,()),(D.last,D.bx,()),())) (λO=>some O.1.1) λT=>bE JW (((),0,()),(T.2.1,())) (λU=>some U.1.1) λY=>some true
def agJ:=bT [(true,.fe),(true,.ki)] bS (br JX) 86 [oW,EP] [auW,auX] func167
def tQ(C:aV):ah (Int):=(xS C).bind λD=>bif (!D)then some 0 else (qb C).bind λE=>some (W6 ((W6 (E*C.rows))*C.aT))
def Qv:=aM Cj cq (bF tQ) 14 [oW,EP] func173
end Go.Proofs.YtnilicojgkhpnaaGreat
