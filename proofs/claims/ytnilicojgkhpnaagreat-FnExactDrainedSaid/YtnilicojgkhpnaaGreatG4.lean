/-
  Functions of the program as plain functions of contents, and that the code computes them. Nothing here is a claim.
-/
import Derived.Test.YtnilicojgkhpnaaGreatVZ
import Derived.Test.YtnilicojgkhpnaaGreatRows
import Derived.Test.YtnilicojgkhpnaaGreatG1
import Derived.Test.YtnilicojgkhpnaaGreatG2
import Derived.Test.YtnilicojgkhpnaaGreatG3
namespace Go.Proofs.YtnilicojgkhpnaaGreat
open Go.RowKit Go.Proofs.Tryz
set_option linter.unusedVariables false
set_option maxRecDepth 100000
def XV(D:eZ)(E:Int):ah (Int):=(oW D.map E).bind λC=>bif C<0 then some (-1)else some C
def auc:=aM [(true,.kj),(false,.int)] cq (br XV) 12 [zX] func122
def XW(D:de)(E:Int):ah (Int):=(oW D.aH E).bind λC=>bif C<0 then some (-1)else some C
def aud:=aM Iy cq (br XW) 12 [zX] func123
abbrev agf:=(((aa bQ)×Int×Int×af)×(af))
def Jt(x:agf):ah (agf⊕(((Int×af)×(af))⊕(((Int×af)×(af))⊕Empty))):=letI C:=x.1.2.2.1;letI D:=av (((-1),()),());bif C<(x.1.1.length:Int)then xI x.1.1 C λO=>(oW O.rows x.1.2.1).bind λL=>bif L<0 then D else xI x.1.1 C λT=>(oW T.counts L).bind λE=>bif E<0 then D else xI x.1.1 C λU=>bif (U.cY != E)then D else xG ((x.1.1,(W6 (E+1)),(W6 (C+1)),()),())else aQ ((x.1.2.1,()),())
def aue:KY 40 (aR f124):=⟨0,lB 0 aeX [(1,kE),(2,sx)] Jt,lp [zX]⟩
def Qg(C:aa bQ)(D:Int):ah (Int):=bE Jt ((C,D,0,()),()) (λE=>some E.1.1) λL=>some L.1.1
def auf:=bT [(false,(.sl .eR)),(false,.int)] cq (br Qg) 40 [] [aue] func124
abbrev agh:=(((aa aI)×Int×Int×af)×(af))
def Ju(x:agh):ah (agh⊕(((Int×af)×(af))⊕(((Int×af)×(af))⊕Empty))):=letI D:=W6 (x.1.2.1+1);letI C:=x.1.2.2.1;letI E:=av (((-1),()),());bif C<(x.1.1.length:Int)then xI x.1.1 C λL=>bif (L.ay != x.1.2.1)then E else xI x.1.1 C λO=>bif (O.row != D)then E else xI x.1.1 C λT=>bif (T.bR != (W6 (D+1)))then E else xG ((x.1.1,(W6 ((W6 (D+1))+1)),(W6 (C+1)),()),())else aQ ((x.1.2.1,()),())
def aug:KY 40 (aR f126):=⟨0,lB 0 aeY [(1,kE),(2,sx)] Ju,lp []⟩
def Jv(C:aa aI)(D:Int):ah (Int):=bE Ju ((C,D,0,()),()) (λE=>some E.1.1) λL=>some L.1.1
def auh:=bT OV cq (br Jv) 40 [] [aug] func126
abbrev agi:=(((aa bA)×Int×Int×af)×(af))
def Jw(x:agi):ah (agi⊕(((Int×af)×(af))⊕(((Int×af)×(af))⊕Empty))):=letI C:=x.1.1;letI L:=W6 (x.1.2.1+1);letI D:=x.1.2.2.1;letI E:=av (((-1),()),());letI T:=W6 ((W6 (L+1))+1);letI O:=W6 (T+1);bif D<(C.length:Int)then xI C D λU=>bif (U.id != x.1.2.1)then E else xI C D λY=>bif (Y.dN != L)then E else xI C D λZ=>bif (Z.line != (W6 (L+1)))then E else xI C D λe8=>bif (!(e8.write==((T.tmod 3)==0)))then E else xI C D λjU=>bif (jU.data != O)then E else xI C D λni=>bif (ni.at_ != (W6 (O+1)))then E else xG ((C,(W6 ((W6 (O+1))+1)),(W6 (D+1)),()),())else aQ ((x.1.2.1,()),())
def aui:KY 69 (aR f127):=⟨0,lB 0 Xy [(1,kE),(2,sx)] Jw,lp []⟩
def Jx(C:aa bA)(D:Int):ah (Int):=bE Jw ((C,D,0,()),()) (λE=>some E.1.1) λL=>some L.1.1
def auj:=bT EG cq (br Jx) 69 [] [aui] func127
abbrev agj:=(((aa bV)×Int×Int×af)×(af))
def Jy(x:agj):ah (agj⊕(((Int×af)×(af))⊕(((Int×af)×(af))⊕Empty))):=letI C:=x.1.2;bif C.2.1<(x.1.1.length:Int)then xI x.1.1 C.2.1 λD=>bif (D.weight != C.1)then av (((-1),()),())else xI x.1.1 C.2.1 λE=>bif (E.eP != (W6 (C.1+1)))then av (((-1),()),())else xG ((x.1.1,(W6 ((W6 (C.1+1))+1)),(W6 (C.2.1+1)),()),())else aQ ((C.1,()),())
def auk:KY 31 (aR f128):=⟨0,lB 0 ⟨[(0,.lf (.aF .ef 0)),(1,tI),(5,tI)],[],[]⟩ [(1,kE),(2,sx)] Jy,lp []⟩
def Jz(C:aa bV)(D:Int):ah (Int):=bE Jy ((C,D,0,()),()) (λE=>some E.1.1) λL=>some L.1.1
def aul:=bT [(false,(.sl .ef)),(false,.int)] cq (br Jz) 31 [] [auk] func128
abbrev agk:=(((aa bU)×Int×Int×af)×(af))
def JA(x:agk):ah (agk⊕(((Int×af)×(af))⊕(((Int×af)×(af))⊕Empty))):=letI D:=W6 (x.1.2.1+1);letI C:=x.1.2.2.1;letI E:=av (((-1),()),());bif C<(x.1.1.length:Int)then xI x.1.1 C λL=>bif (L.line != x.1.2.1)then E else xI x.1.1 C λO=>bif (O.code != D)then E else xI x.1.1 C λT=>bif (T.times != (W6 (D+1)))then E else xG ((x.1.1,(W6 ((W6 (D+1))+1)),(W6 (C+1)),()),())else aQ ((x.1.2.1,()),())
def aum:KY 40 (aR f129):=⟨0,lB 0 ⟨[(0,.lf (.aF .eo 0)),(1,tI),(5,tI)],[],[]⟩ [(1,kE),(2,sx)] JA,lp []⟩
def JB(C:aa bU)(D:Int):ah (Int):=bE JA ((C,D,0,()),()) (λE=>some E.1.1) λL=>some L.1.1
def aun:=bT [(false,(.sl .eo)),(false,.int)] cq (br JB) 40 [] [aum] func129
abbrev agl:=(((aa cP)×Int×Int×af)×(af))
def JC(x:agl):ah (agl⊕(((Int×af)×(af))⊕(((Int×af)×(af))⊕Empty))):=letI C:=x.1.1;letI D:=x.1.2.2.1;letI E:=av (((-1),()),());letI O:=W6 ((W6 (x.1.2.1+1))+1);letI L:=W6 (O+1);bif D<(C.length:Int)then xI C D λT=>bif (T.at_ != x.1.2.1)then E else xI C D λU=>bif (U.cmd.kind != (W6 (x.1.2.1+1)))then E else xI C D λY=>bif (Y.cmd.ay != O)then E else xI C D λZ=>bif (Z.cmd.row != L)then E else xI C D λjU=>bif (jU.cmd.bR != (W6 (L+1)))then E else xG ((C,(W6 ((W6 (L+1))+1)),(W6 (D+1)),()),())else aQ ((x.1.2.1,()),())
def auo:KY 62 (aR f130):=⟨0,lB 0 ⟨[(0,.lf (.aF .Event 0)),(1,tI),(5,tI)],[],[]⟩ [(1,kE),(2,sx)] JC,lp []⟩
def JD(C:aa cP)(D:Int):ah (Int):=bE JC ((C,D,0,()),()) (λE=>some E.1.1) λL=>some L.1.1
def aup:=bT [(false,(.sl .Event)),(false,.int)] cq (br JD) 62 [] [auo] func130
abbrev agm:=(((aa cX)×Int×Int×af)×(af))
def JE(x:agm):ah (agm⊕(((Int×af)×(af))⊕(((Int×af)×(af))⊕Empty))):=letI C:=x.1.2.2.1;letI E:=W6 ((W6 (x.1.2.1+1))+1);letI D:=av (((-1),()),());bif C<(x.1.1.length:Int)then xI x.1.1 C λL=>bif (L.id != x.1.2.1)then D else xI x.1.1 C λO=>bif (O.at_ != (W6 (x.1.2.1+1)))then D else xI x.1.1 C λT=>bif (T.data != E)then D else xI x.1.1 C λU=>bif (U.code != (W6 (E+1)))then D else xG ((x.1.1,(W6 ((W6 (E+1))+1)),(W6 (C+1)),()),())else aQ ((x.1.2.1,()),())
def auq:KY 49 (aR f131):=⟨0,lB 0 ⟨[(0,.lf (.aF .gd 0)),(1,tI),(5,tI)],[],[]⟩ [(1,kE),(2,sx)] JE,lp []⟩
def JF(C:aa cX)(D:Int):ah (Int):=bE JE ((C,D,0,()),()) (λE=>some E.1.1) λL=>some L.1.1
def aur:=bT [(false,(.sl .gd)),(false,.int)] cq (br JF) 49 [] [auq] func131
def Qh(C:ax)(x1:Int):ah (Int):=(XR C.box x1).bind λD=>bif D<0 then some (-1)else (XS C.bq D).bind λE=>bif E<0 then some (-1)else (XT C.ready E).bind λL=>bif L<0 then some (-1)else (XU C.array L).bind λO=>bif O<0 then some (-1)else (XV C.spare O).bind λT=>bif T<0 then some (-1)else (XW C.aP T).bind λU=>bif U<0 then some (-1)else (Qg C.bH U).bind λY=>bif Y<0 then some (-1)else (oW C.guard Y).bind λZ=>bif Z<0 then some (-1)else (Jv C.pending Z).bind λy9=>bif y9<0 then some (-1)else (Jx C.queue y9).bind λgR=>bif gR<0 then some (-1)else (Jz C.shares gR).bind λeM=>bif eM<0 then some (-1)else (JB C.errors eM).bind λgD=>bif gD<0 then some (-1)else (JD C.trace gD).bind λgS=>bif gS<0 then some (-1)else (JF C.cT gS).bind λjz=>bif jz<0 then some (-1)else some jz
def aus:=aM XH cq (br Qh) 90 [at4,at7,at8,aub,auc,aud,auf,zX,auh,auj,aul,aun,aup,aur] func14
def JG(C:fz):ah (fz):=bif xZ C.weights then some (⟨C.eN,C.cap,C.fD,C.low,C.high,(xA C.weights),C.eI⟩:fz)else none
def agn:=aM IE [(true,.lU,2)] (bF JG) 9 [] func288
def Qi(C:gI):ah (gI):=(JG C.bI).bind λD=>(JG C.next).bind λE=>some (⟨D,E,C.waits⟩:gI)
def ago:=aM [(true,.jJ)] [(true,.jJ,2)] (bF Qi) 12 [agn] func158
def XX(C:cy):ah (cy):=bif xZ C.aB then some (⟨(xA C.aB),C.aZ⟩:cy)else none
def aut:=aM IF [(true,.iI,2)] (bF XX) 10 [] func159
def tR(C:dn):ah (dn):=bif xZ C.last then bif xZ C.bx then some (⟨(xA C.last),(xA C.bx)⟩:dn)else none else none
def agp:=aM [(true,.ki)] ID (bF tR) 12 [] func160
def Qj(C:bK):ah (bK):=bif xZ C.symbols then some (⟨(xA C.symbols),C.iy⟩:bK)else none
def auu:=aM [(true,.Cell)] [(true,.Cell,2)] (bF Qj) 9 [] func289
def auv:bM:=⟨[(1,.aJ 1 0),(2,.aJ 2 0),(3,.aJ 3 0),(4,tI)],[(1,.aC aeI),(2,.aC OS),(3,.aC [.own 90200,.own 5,.own 9]),(90100,.sl .Cell 4),(90101,.sl .int 2),(90102,.sl .int 2),(90200,.sl .Cell 4),(5,.sl .int 2),(9,.sl .int 2)],[]⟩
def auw:aa (Nat×bM):=[(2,⟨OW,[(2,.aC OS),(3,.aC [.own 90200,.own 5,.own 9]),(90100,.sl .Cell 4),(90101,.sl .int 2),(90102,.sl .int 2),(90200,.sl .Cell 4),(5,.sl .int 2),(9,.sl .int 2)],[]⟩)]
abbrev agq:=((af×af×af×Int×af)×(((aa bK)×(aa Int)×(aa Int)×af)×(af×af×af×af)×(af×af×af×af)×(aa bK)×(aa Int)×(aa Int)×(aa bK)×(aa Int)×(aa Int)×af))
def JH(x:agq):ah (agq⊕(((af×af×af)×((af×af×af×af)×(af×af×af×af)×(aa bK)×(aa Int)×(aa Int)×(aa bK)×(aa Int)×(aa Int)×af))⊕Empty)):=letI L:=x.1.2.2.2.1;letI E:=((),(),(),());letI D:=x.2.2.2.2.2;letI C:=D.2.2;bif L<(x.2.1.1.length:Int)then xI x.2.1.1 L λT=>(Qj T).bind λO=>bif bO (C.1.length+[O].length)then xG (((),(),(),(W6 (L+1)),()),(x.2.1,E,E,x.2.2.2.2.1,D.1,D.2.1,(C.1++[O]),C.2.1,C.2.2.1,()))else none else av (((),(),()),(E,E,x.2.2.2.2.1,D.1,D.2.1,C.1,C.2.1,C.2.2.1,()))
def auy:KY 33 (aR f161):=⟨0,lB 0 auv auw JH,lp [auu]⟩
def Ql(C:cZ):ah (cZ):=bif xZ C.bz then bif xZ C.bu then bk JH (((),(),(),0,()),((C.cells,C.bz,C.bu,()),((),(),(),()),((),(),(),()),([]:aa bK),([]:aa Int),([]:aa Int),([]:aa bK),(xA C.bz),(xA C.bu),())) λE=>letI D:=E.2.2.2.2.2.2;some (⟨D.1,D.2.1,D.2.2.1⟩:cZ)else none else none
def auz:=bT [(true,.Array)] [(true,.Array,4)] (bF Ql) 33 [] [auy] func161
def XY(C:eZ):ah (eZ):=bif xZ C.map then some (⟨C.cr,(xA C.map)⟩:eZ)else none
def auA:=aM [(true,.kj)] [(true,.kj,2)] (bF XY) 10 [] func162
def JI(C:de):ah (de):=bif xZ C.aH then some (⟨(xA C.aH),C.wait,C.dS⟩:de)else none
def agr:=aM Ch [(true,.kM,2)] (bF JI) 9 [] func163
def JJ(C:bQ):ah (bQ):=bif xZ C.rows then bif xZ C.counts then some (⟨(xA C.rows),(xA C.counts),C.cY⟩:bQ)else none else none
def ags:=aM IG [(true,.eR,2)] (bF JJ) 14 [] func164
def auB:bM:=⟨[(1,.aJ 1 0),(2,.aJ 2 0),(3,.lf (.own 29)),(4,tI)],zz4,O0⟩
def auC:aa (Nat×bM):=[(2,⟨[(1,.aJ 1 0),(2,.aJ 2 0),(3,.lf (.own 29))],zz4,O0⟩)]
abbrev agt:=((af×af×af×Int×af)×(ax×(Int×Int×Int×Int×Int×Int×Int×Int×Int×Int×Int×Int×Int×Int×Int×Int×Int×Int×Int×Int×Int×Int×Bool×Int×Int×Int×Int×Int×Int×Int×Int×Int×Int×af×Int×Int×Int×Int×Int×Int×Int×af×Int×Int×Bool×Int×af×Int×af×af×af×af×af×Int×af×af×Int×Bool×(aa bQ)×(aa Int)×(aa aI)×(aa bA)×(aa bV)×Bool×Int×Int×Int×Int×Int×Int×Int×Int×(aa bU)×(aa cP)×(aa cX)×af)×(aa bQ)×(aa Int)×(aa Int)×(aa cR)×(aa Int)×(aa Int)×(aa bK)×(aa Int)×(aa Int)×(aa Int)×(aa Int)×af))
def EM(x:agt):ah (agt⊕(((af×af×af×af)×(ax×(Int×Int×Int×Int×Int×Int×Int×Int×Int×Int×Int×Int×Int×Int×Int×Int×Int×Int×Int×Int×Int×Int×Bool×Int×Int×Int×Int×Int×Int×Int×Int×Int×Int×af×Int×Int×Int×Int×Int×Int×Int×af×Int×Int×Bool×Int×af×Int×af×af×af×af×af×Int×af×af×Int×Bool×(aa bQ)×(aa Int)×(aa aI)×(aa bA)×(aa bV)×Bool×Int×Int×Int×Int×Int×Int×Int×Int×(aa bU)×(aa cP)×(aa cX)×af)×(aa bQ)×(aa Int)×(aa Int)×(aa cR)×(aa Int)×(aa Int)×(aa bK)×(aa Int)×(aa Int)×(aa Int)×(aa Int)×af))⊕Empty)):=letI L:=x.1.2.2.2.1;letI C:=x.2.2.2;letI O:=x.2.2.1.2.2.2.2.2.2.2.2.2.2.2.2.2.2.2.2.2.2.2.2.2.2.2.2.2.2.2.2.2.2.2.2.2.2.2.2.2.2.2.2.2.2.2.2.2.2.2.2.2.2.2.2.2.2.2.2.2.2.1;letI E:=C.2.2.2.2;letI D:=E.2.2.2;bif L<(O.length:Int)then xI O L λU=>(JJ U).bind λT=>bif bO (C.1.length+[T].length)then xG (((),(),(),(W6 (L+1)),()),(x.2.1,x.2.2.1,(C.1++[T]),C.2.1,C.2.2.1,C.2.2.2.1,E.1,E.2.1,E.2.2.1,D.1,D.2.1,D.2.2.1,D.2.2.2.1,()))else none else av (((),(),(),()),(x.2.1,x.2.2.1,C.1,C.2.1,C.2.2.1,C.2.2.2.1,E.1,E.2.1,E.2.2.1,D.1,D.2.1,D.2.2.1,D.2.2.2.1,()))
def auD:KY 84 (aR f50):=⟨0,lB 0 auB auC EM,lp [ags]⟩
def JK(C:ax):ah (ax):=(Qi C.box).bind λD=>(XX C.bq).bind λy2=>(tR C.ready).bind λy3=>(Ql C.array).bind λy4=>(XY C.spare).bind λy5=>(JI C.aP).bind λy6=>bk EM (((),(),(),0,()),((⟨⟨⟨0,0,0,0⟩,⟨0,0,0,0,0,0,0,0,0,0,0,0,0,0,0,0,0⟩,⟨0,false⟩,0,0,0,⟨0,0⟩⟩,⟨⟨0,0,0,0,0,([]:aa Int),⟨0,0⟩⟩,⟨0,0,0,0,0,([]:aa Int),⟨0,0⟩⟩,false⟩,0,⟨([]:aa cR),0⟩,⟨([]:aa Int),([]:aa Int)⟩,⟨([]:aa bK),([]:aa Int),([]:aa Int)⟩,⟨0,([]:aa Int)⟩,⟨([]:aa Int),0,false⟩,([]:aa bQ),([]:aa Int),([]:aa aI),([]:aa bA),([]:aa bV),⟨false,0,0⟩,⟨0,0,0⟩,⟨0,0,0⟩,([]:aa bU),([]:aa cP),([]:aa cX)⟩:ax),(C.config.aE.cF,C.config.aE.aB,C.config.aE.rows,C.config.aE.aT,C.config.ck.jF,C.config.ck.rp,C.config.ck.gH,C.config.ck.mI,C.config.ck.jG,C.config.ck.jH,C.config.ck.mJ,C.config.ck.mK,C.config.ck.ji,C.config.ck.wr,C.config.ck.mL,C.config.ck.mM,C.config.ck.pH,C.config.ck.mN,C.config.ck.nJ,C.config.ck.xp,C.config.ck.xs,C.config.mapping.order,C.config.mapping.hash,C.config.cr,C.config.interval,C.config.iz,C.config.dO.bz,C.config.dO.bu,D.bI.eN,D.bI.cap,D.bI.fD,D.bI.low,D.bI.high,(),D.bI.eI.down,D.bI.eI.sleep,D.next.eN,D.next.cap,D.next.fD,D.next.low,D.next.high,(),D.next.eI.down,D.next.eI.sleep,D.waits,C.now,(),y2.aZ,(),(),(),(),(),y5.cr,(),(),y6.wait,y6.dS,C.bH,C.guard,C.pending,C.queue,C.shares,C.drain.on,C.drain.low,C.drain.high,C.aZ.state,C.aZ.since,C.aZ.idle,C.cK.next,C.cK.every,C.cK.wait,C.errors,C.trace,C.cT,()),([]:aa bQ),D.bI.weights,D.next.weights,y2.aB,y3.last,y3.bx,y4.cells,y4.bz,y4.bu,y5.map,y6.aH,())) λjd=>letI E:=jd.2.2;letI O:=E.1.2.2.2.2;letI nj:=E.2.2.2.2.2;letI Ct:=nj.2.2.2;letI u3:=O.2.2.2.2.2;letI xQ:=u3.2.2.2;letI u7:=xQ.2.2.2;letI zY:=u7.2.2.2;letI u1:=zY.2.2.2;letI xR:=u1.2.2.2;letI u8:=xR.2.2.2;letI Qm:=u8.2.2.2;letI u2:=Qm.2.2.2.2;letI Y:=u2.2.2.2;letI T:=Y.2.2.2.2.2;letI u14:=T.2.2.2.2.2.2.2.2.2.2.2;letI Z:=u14.2.2.2;letI u9:=Z.2.2.2.2;letI u16:=u9.2.2;letI U:=u16.2.2.2.2;letI L:=U.2.2.2.2.2;bif xZ Z.2.2.2.1 then bif xZ u9.1 then bif xZ u9.2.1 then bif xZ u16.1 then bif xZ L.2.1 then bif xZ L.2.2.1 then bif xZ L.2.2.2.1 then some (⟨⟨⟨E.1.1,E.1.2.1,E.1.2.2.1,E.1.2.2.2.1⟩,⟨O.1,O.2.1,O.2.2.1,O.2.2.2.1,O.2.2.2.2.1,u3.1,u3.2.1,u3.2.2.1,xQ.1,xQ.2.1,xQ.2.2.1,u7.1,u7.2.1,u7.2.2.1,zY.1,zY.2.1,zY.2.2.1⟩,⟨u1.1,u1.2.1⟩,u1.2.2.1,xR.1,xR.2.1,⟨xR.2.2.1,u8.1⟩⟩,⟨⟨u8.2.1,u8.2.2.1,Qm.1,Qm.2.1,Qm.2.2.1,E.2.2.1,⟨u2.1,u2.2.1⟩⟩,⟨u2.2.2.1,Y.1,Y.2.1,Y.2.2.1,Y.2.2.2.1,E.2.2.2.1,⟨T.1,T.2.1⟩⟩,T.2.2.1⟩,T.2.2.2.1,⟨E.2.2.2.2.1,T.2.2.2.2.2.1⟩,⟨nj.1,nj.2.1⟩,⟨nj.2.2.1,Ct.1,Ct.2.1⟩,⟨u14.1,Ct.2.2.1⟩,⟨Ct.2.2.2.1,Z.1,Z.2.1⟩,E.2.1,(xA Z.2.2.2.1),(xA u9.1),(xA u9.2.1),(xA u16.1),⟨u16.2.1,u16.2.2.1,u16.2.2.2.1⟩,⟨U.1,U.2.1,U.2.2.1⟩,⟨U.2.2.2.1,U.2.2.2.2.1,L.1⟩,(xA L.2.1),(xA L.2.2.1),(xA L.2.2.2.1)⟩:ax)else none else none else none else none else none else none else none
def auE:=bT qa [(true,.cN,4)] (bF JK) 84 [ago,aut,agp,auz,auA,agr] [auD] func50
def cG(C D E:Int):ah (Bool):=bif C >= D then some (C <= E)else some false
def eO:=aM [(false,.int),(false,.int),(false,.int)] bS (fS cG) 15 [] func132
def xS(C:aU):ah (Bool):=(cG C.cF 1 2).bind λD=>bif D then (cG C.aB 1 4).bind λE=>bif E then (cG C.rows 2 16).bind λL=>bif L then (cG C.aT 1 8).bind λO=>some O else some false else some false else some false
def EN:=aM Cg bS (bF xS) 21 [eO] func293
def qd(C:aU):ah (Int):=(xS C).bind λD=>bif (!D)then some 0 else some (W6 (C.cF*C.aB))
def oX:=aM Cg cq (bF qd) 11 [EN] func255
abbrev agu:=((Int×af×af×af×Int×af)×((Int×Int×Int×Int×af)×(Int×af×af)×(Int×af×af)×(aa Int)×(aa Int)×af))
def JL(x:agu):ah (agu⊕(((af×af×af)×((Int×af×af)×(Int×af×af)×(aa Int)×(aa Int)×af))⊕Empty)):=letI C:=x.2.2.2;letI D:=x.1.2.2.2.2.1;letI E:=W6 (x.2.1.2.2.1-x.1.1);letI L:=([(D.tmod E)]:aa Int);(qd (⟨x.2.1.1,x.2.1.2.1,x.2.1.2.2.1,x.2.1.2.2.2.1⟩:aU)).bind λO=>bif D<(W6 (O*E))then if E=0 then none else bif bO (C.2.2.1.length+L.length)then xG ((x.1.1,(),(),(),(W6 (D+1)),()),(x.2.1,x.2.2.1,C.1,C.2.1,(C.2.2.1++L),()))else none else av (((),(),()),(x.2.2.1,C.1,C.2.1,C.2.2.1,()))
def auF:KY 49 (aR f257):=⟨0,lB 0 Xr [(2,aeC)] JL,lp [oX]⟩
def JM(C:aU)(D:Int):ah (eZ×Bool):=letI E:=some ((⟨0,[]⟩:eZ),false);(xS C).bind λO=>bif (!O)then E else (cG D 0 2).bind λT=>bif (!T)then E else bif (W6 (C.rows-D))<2 then E else bk JL ((D,(),(),(),0,()),((C.cF,C.aB,C.rows,C.aT,()),(0,(),()),(D,(),()),([]:aa Int),([]:aa Int),())) λL=>some ((⟨L.2.2.1.1,L.2.2.2.2.1⟩:eZ),true)
def agv:=bT Iz [(true,.kj,2),(false,.bool,0)] (br JM) 49 [eO,EN] [auF] func257
def XZ(C:c9):ah ((aa Int)):=some ([C.jF,C.rp,C.gH,C.mI,C.jG,C.jH,C.mJ,C.mK,C.ji,C.wr,C.mL,C.mM,C.pH,C.mN,C.nJ,C.xp,C.xs]:aa Int)
def auG:=aM EJ lK (bF XZ) 38 [] func441
abbrev agw:=((af×af×Int×af)×(c9×(aa Int)×af))
def EO(x:agw):ah (agw⊕(((Bool×af)×(af))⊕(((af×af)×(c9×af))⊕Empty))):=bif x.1.2.2.1<(x.2.2.1.length:Int)then xL x.2.2.1 x.1.2.2.1 λC=>(cG C 1 64).bind λD=>bif (!D)then av ((false,()),())else xG (((),(),(W6 (x.1.2.2.1+1)),()),(x.2.1,x.2.2.1,()))else aQ (((),()),(x.2.1,()))
def auH:KY 45 (aR f381):=⟨0,lB 0 ⟨[(1,.aJ 1 0),(3,.lf (.own 1000000000106000)),(4,tI)],[(1,.st .jI),(1000000000106000,.sl .int 2)],[]⟩ [(1,n8),(2,ae8)] EO,lp [eO]⟩
def Cu(D:c9):ah (Bool):=(XZ D).bind λE=>bE EO (((),(),0,()),(D,E,())) (λL=>some L.1.1) λO=>letI C:=O.2.1;bif C.jF <= C.gH then bif C.mI <= C.jG then bif C.mJ <= C.mK then some (C.mL <= C.mM)else some false else some false else some false
def Qn:=bT EJ bS (bF Cu) 45 [auG] [auH] func381
def EP(C:jE):ah (Bool):=(cG C.order 0 2).bind λD=>some D
def agx:=aM [(true,.nK)] bS (bF EP) 6 [eO] func382
def JN(C:c9):ah (Int):=(Cu C).bind λD=>bif (!D)then some 0 else some (W6 (2*(W6 ((W6 ((W6 ((W6 ((W6 ((W6 ((W6 ((W6 ((W6 (C.nJ+C.xp))+C.gH))+C.wr))+C.ji))+C.rp))+C.mN))+C.jF))+(W6 (8*C.jG))))+16))))
def auI:=aM EJ cq (bF JN) 35 [Qn] func383
def Qo(C:ia):ah (Bool):=(JM C.aE C.cr).bind λD=>bif (!D.2)then some false else (Cu C.ck).bind λE=>bif (!E)then some false else (EP C.mapping).bind λL=>bif (!L)then some false else (JN C.ck).bind λO=>(cG C.interval O 10000).bind λT=>bif (!T)then some false else (cG C.iz 1 16).bind λU=>bif U then (cG C.dO.bz (W6 (6*C.interval)) 100000).bind λY=>bif Y then (cG C.dO.bu 0 100000).bind λZ=>some Z else some false else some false
def auJ:=aM [(true,.Config)] bS (bF Qo) 54 [eO,agv,Qn,agx,auI] func290
def Cv(C:gB):ah (Bool):=bif C.low >= 0 then bif C.high <= 12 then some (C.low<C.high)else some false else some false
def Qp:=aM [(true,.kN)] bS (bF Cv) 18 [] func176
abbrev agy:=(((aa bV)×Int×af)×(af))
def JO(x:agy):ah (agy⊕(((Bool×af)×(af))⊕((((aa bV)×af)×(af))⊕Empty))):=letI C:=x.1.2.1;bif C<(x.1.1.length:Int)then xI x.1.1 C λD=>(cG D.weight 1 9).bind λE=>bif (!E)then av ((false,()),())else xI x.1.1 C λL=>xI x.1.1 C λO=>(cG L.eP 0 O.weight).bind λT=>bif (!T)then av ((false,()),())else xG ((x.1.1,(W6 (C+1)),()),())else aQ ((x.1.1,()),())
def auK:KY 34 (aR f175):=⟨0,lB 0 ⟨[(0,.lf (.aF .ef 0)),(3,tI)],[],[]⟩ [(1,n8),(2,afc)] JO,lp [eO]⟩
def ER(C:aa bV):ah (Bool):=bE JO ((C,0,()),()) (λD=>some D.1.1) λE=>(cG (E.1.1.length:Int) 1 4).bind λL=>some L
def X0:=bT [(false,(.sl .ef))] bS (bF ER) 34 [eO] [auK] func175
abbrev agz:=(((aa Int)×af×Int×af)×((aa bV)×af))
def JP(x:agz):ah (agz⊕(((af×af)×((aa bV)×af))⊕Empty)):=letI D:=av (((),()),(x.2.1,()));letI C:=x.1.2.2.1;bif C<(x.1.1.length:Int)then bif C <= 4 then xI x.1.1 C λL=>xI x.1.1 C λO=>letI E:=([(⟨L,O⟩:bV)]:aa bV);bif bO (x.2.1.length+E.length)then xG ((x.1.1,(),(W6 (C+1)),()),((x.2.1++E),()))else none else D else D
def auL:KY 34 (aR f186):=⟨0,lB 0 ⟨[(0,.lf (.aF .int 0)),(4,.lf (.own 6)),(5,tI)],[(6,.sl .ef 2)],[]⟩ [(2,⟨[(4,.lf (.own 6))],[(6,.sl .ef 2)],[]⟩)] JP,lp []⟩
def Cw(D:aa Int):ah ((aa bV)×Bool):=bk JP ((D,(),0,()),(([]:aa bV),())) λC=>(ER C.2.1).bind λE=>bif (!E)then some (([]:aa bV),false)else some (C.2.1,true)
def agA:=bT nh [(false,(.sl .ef),2),(false,.bool,0)] (bF Cw) 34 [X0] [auL] func186
def JQ(C:kL):ah (Bool):=(cG C.down 1 10000).bind λD=>bif D then bif C.sleep > C.down then some (C.sleep <= 20000)else some false else some false
def agB:=aM [(true,.nL)] bS (bF JQ) 18 [eO] func384
def Qq(C:fz):ah (Bool):=(Cw C.weights).bind λD=>(cG C.eN 0 1).bind λE=>bif E then (cG C.cap 0 100000).bind λL=>bif L then (cG C.fD 3 1000).bind λO=>bif O then (Cv (⟨false,C.low,C.high⟩:gB)).bind λT=>bif T then bif D.2 then bif ((C.weights.length:Int)==4)then (JQ C.eI).bind λU=>some U else some false else some false else some false else some false else some false else some false
def auM:=aM IE bS (bF Qq) 46 [eO,Qp,agA,agB] func291
def Qr(C:Int):ah (Int):=(cG C 3 1000).bind λD=>bif (!D)then some 0 else some (W6 ((W6 (2*C))+2))
def auN:=aM lM cq (bF Qr) 9 [eO] func292
def ES(C:ia)(D:fz):ah (Bool):=letI E:=W6 (C.ck.gH+C.ck.rp);(Qo C).bind λL=>bif (!L)then some false else (Qq D).bind λO=>bif (!O)then some false else (Qr D.fD).bind λT=>bif (W6 (T+2)) <= C.dO.bu then if E=0 then none else some ((W6 ((W6 (C.iz+1))*D.fD)) > (W6 ((W6 ((W6 (5*C.interval)).tdiv E))+2)))else some false
def auO:=aM [(true,.Config),(true,.lU)] bS (br ES) 42 [auJ,auM,auN] func165
abbrev agC:=((af×af×Int×af)×((Int×Int×Int×Int×af)×((aa cR)×Int×af)×af))
def JR(x:agC):ah (agC⊕(((Bool×af)×(af))⊕(((af)×(af))⊕Empty))):=letI D:=av ((false,()),());letI E:=xG (((),(),(W6 (x.1.2.2.1+1)),()),(x.2.1,x.2.2.1,()));bif x.1.2.2.1<(x.2.2.1.1.length:Int)then xI x.2.2.1.1 x.1.2.2.1 λC=>letI L:=bif C.open_ then bif (x.2.2.1.2.1==2)then D else E else E;(cG C.row 0 (W6 (x.2.1.2.2.1-1))).bind λO=>bif (!O)then D else bif (!C.open_)then bif (C.row != 0)then D else L else L else aQ ((),())
def auP:KY 62 (aR f166):=⟨0,lB 0 ⟨[(2,.aJ 2 0),(3,.aJ 3 0),(5,tI)],[(2,.aC fZ),(3,.aC zR)],[]⟩ [(1,gC),(2,fq)] JR,lp [eO]⟩
def Qs(C:aU)(D:cy):ah (Bool):=(xS C).bind λE=>bif (!E)then some false else (qd C).bind λL=>bif ((D.aB.length:Int) != L)then some false else (cG D.aZ 0 2).bind λO=>bif (!O)then some false else bE JR (((),(),0,()),((C.cF,C.aB,C.rows,C.aT,()),(D.aB,D.aZ,()),())) (λT=>some T.1.1) λU=>some true
def auQ:=bT [(true,.fe),(true,.iI)] bS (br Qs) 62 [eO,oX,EN] [auP] func166
def Qt(D:aU)(C:Int):ah (Bool):=(qd D).bind λE=>some ((decide ((W6 ((C.tmod 9)+1)) <= 5))==(decide ((W6 (C.tdiv 9))<E)))
def auR:=aM Iz bS (br Qt) 15 [oX] func294
abbrev agD:=((af×af×Int×af)×((Int×Int×Int×Int×af)×((aa Int)×(aa Int)×af)×af))
def JS(x:agD):ah (agD⊕(((Bool×af)×(af))⊕(((af×af)×(((aa Int)×(aa Int)×af)×af))⊕Empty))):=letI C:=x.2.2.1;letI D:=x.1.2.2.1;letI E:=xG (((),(),(W6 (D+1)),()),(x.2.1,C,()));bif D<(C.1.length:Int)then xI C.1 D λL=>(cG L (-1) 1000000).bind λO=>bif (!O)then av ((false,()),())else (Qt (⟨x.2.1.1,x.2.1.2.1,x.2.1.2.2.1,x.2.1.2.2.2.1⟩:aU) D).bind λT=>bif (!T)then xI C.1 D λU=>bif (U != (-1))then av ((false,()),())else E else E else aQ (((),()),(C,()))
def auS:KY 86 (aR f167):=⟨0,lB 0 ⟨[(2,.aJ 2 0),(3,.aJ 3 0),(5,tI)],[(2,.aC fZ),(3,.aC Cf)],[]⟩ [(1,gC),(2,ae9)] JS,lp [eO,auR]⟩
abbrev agE:=((af×Int×af)×(((aa Int)×(aa Int)×af)×af))
def JT(x:agE):ah (agE⊕(((Bool×af)×(af))⊕(((af)×(af))⊕Empty))):=letI D:=x.2.1.2.1;letI C:=x.1.2.1;letI E:=xG (((),(W6 (C+1)),()),(x.2.1,()));bif C<(D.length:Int)then xI D C λL=>(cG L 0 1000000).bind λO=>bif (!O)then av ((false,()),())else bif C > 0 then xI D (W6 (C-1)) λT=>xI D C λU=>bif T >= U then av ((false,()),())else E else E else aQ ((),())
def auT:KY 86 (aR f167):=⟨2,lB 2 ⟨[(3,.aJ 3 0),(6,tI)],[(3,.aC Cf)],[]⟩ [(1,gC),(4,fq)] JT,lp [eO]⟩
def JU(C:aU)(D:dn):ah (Bool):=(xS C).bind λE=>bif (!E)then some false else (qd C).bind λL=>bif ((D.last.length:Int) != (W6 (9*(W6 (L+1)))))then some false else bif (D.bx.length:Int) > 4 then some false else bE JS (((),(),0,()),((C.cF,C.aB,C.rows,C.aT,()),(D.last,D.bx,()),())) (λO=>some O.1.1) λT=>bE JT (((),0,()),(T.2.1,())) (λU=>some U.1.1) λY=>some true
def agF:=bT [(true,.fe),(true,.ki)] bS (br JU) 86 [oX,EN] [auS,auT] func167
def tS(C:aU):ah (Int):=(xS C).bind λD=>bif (!D)then some 0 else (qd C).bind λE=>some (W6 ((W6 (E*C.rows))*C.aT))
def Qu:=aM Cg cq (bF tS) 14 [oX,EN] func173
end Go.Proofs.YtnilicojgkhpnaaGreat
