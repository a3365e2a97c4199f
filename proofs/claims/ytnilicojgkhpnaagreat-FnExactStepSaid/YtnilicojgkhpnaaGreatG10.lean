/-
  Functions of the program as plain functions of contents, and that the code computes them. Nothing here is a claim.
-/
import Derived.Test.YtnilicojgkhpnaaGreatVZ
import Derived.Test.YtnilicojgkhpnaaGreatRows
import Derived.Test.YtnilicojgkhpnaaGreatG1
import Derived.Test.YtnilicojgkhpnaaGreatG2
import Derived.Test.YtnilicojgkhpnaaGreatG3
import Derived.Test.YtnilicojgkhpnaaGreatG4
import Derived.Test.YtnilicojgkhpnaaGreatG5
import Derived.Test.YtnilicojgkhpnaaGreatG6
import Derived.Test.YtnilicojgkhpnaaGreatG7
import Derived.Test.YtnilicojgkhpnaaGreatG8
import Derived.Test.YtnilicojgkhpnaaGreatG9
namespace Go.Proofs.YtnilicojgkhpnaaGreat
set_option linter.defProp false
open Go.RowKit Go.Proofs.Tryz
set_option linter.unusedVariables false
set_option maxRecDepth 100000
def Rj(C D:dL):ah (Bool):=bif (C.state != D.state)then some false else bif (C.since != D.since)then some false else bif (C.idle != D.idle)then some false else some true
def ayl:=aJ [(true,.Power),(true,.Power)] bH (aY Rj) 20 [] func99
def Rk(C D:jJ):ah (Bool):=bif (C.next != D.next)then some false else bif (C.every != D.every)then some false else bif (C.wait != D.wait)then some false else some true
def aym:=aJ [(true,.mc),(true,.mc)] bH (aY Rk) 20 [] func100
def Ky(C D:bK):ah (Bool):=bif (C.line != D.line)then some false else bif (C.code != D.code)then some false else bif (C.times != D.times)then some false else some true
def ayn:=aJ [(true,.dG),(true,.dG)] bH (aY Ky) 20 [] func244
abbrev aiQ:=(((aa bK)×(aa bK)×Int×af)×(af))
def aiR(x:aiQ):ah (aiQ⊕(((Bool×af)×(af))⊕(((af)×(af))⊕Empty))):=letI C:=x.1.2.2.1;bif C<(x.1.1.length:Int)then xI x.1.1 C λD=>xI x.1.2.1 C λE=>(Ky D E).bind λL=>bif (!L)then aq ((false,()),())else xG ((x.1.1,x.1.2.1,(W6 (C+1)),()),())else aM ((),())
def ayo:KY 27 (aN f101):=⟨0,lB 0 ⟨[(0,.lf (.aC .dG 0)),(1,.lf (.aC .dG 0)),(5,tI)],[],[]⟩ [(1,fJ),(2,eC)] aiR,lp [ayn]⟩
def Ro(C D:aa bK):ah (Bool):=bif ((C.length:Int) != (D.length:Int))then some false else br aiR ((C,D,0,()),()) (λE=>some E.1.1) λL=>some true
def ayp:=bJ [(false,(.sl .dG)),(false,(.sl .dG))] bH (aY Ro) 27 [] [ayo] func101
def Rp(C D:aD):ah (Bool):=bif (C.kind != D.kind)then some false else bif (C.au != D.au)then some false else bif (C.row != D.row)then some false else bif (C.bG != D.bG)then some false else some true
def ayq:=aJ [(true,.Command),(true,.Command)] bH (aY Rp) 25 [] func366
def Kz(C D:cz):ah (Bool):=bif (C.at_ != D.at_)then some false else (Rp C.cmd D.cmd).bind λE=>bif (!E)then some false else some true
def ayr:=aJ [(true,.Event),(true,.Event)] bH (aY Kz) 16 [ayq] func245
abbrev aiS:=(((aa cz)×(aa cz)×Int×af)×(af))
def aiT(x:aiS):ah (aiS⊕(((Bool×af)×(af))⊕(((af)×(af))⊕Empty))):=letI C:=x.1.2.2.1;bif C<(x.1.1.length:Int)then xI x.1.1 C λD=>xI x.1.2.1 C λE=>(Kz D E).bind λL=>bif (!L)then aq ((false,()),())else xG ((x.1.1,x.1.2.1,(W6 (C+1)),()),())else aM ((),())
def ays:KY 27 (aN f102):=⟨0,lB 0 ⟨[(0,.lf (.aC .Event 0)),(1,.lf (.aC .Event 0)),(5,tI)],[],[]⟩ [(1,fJ),(2,eC)] aiT,lp [ayr]⟩
def Rq(C D:aa cz):ah (Bool):=bif ((C.length:Int) != (D.length:Int))then some false else br aiT ((C,D,0,()),()) (λE=>some E.1.1) λL=>some true
def ayt:=bJ [(false,(.sl .Event)),(false,(.sl .Event))] bH (aY Rq) 27 [] [ays] func102
def KA(C D:cG):ah (Bool):=bif (C.id != D.id)then some false else bif (C.at_ != D.at_)then some false else bif (C.data != D.data)then some false else bif (C.code != D.code)then some false else some true
def ayu:=aJ [(true,.fo),(true,.fo)] bH (aY KA) 25 [] func246
abbrev aiU:=(((aa cG)×(aa cG)×Int×af)×(af))
def aiV(x:aiU):ah (aiU⊕(((Bool×af)×(af))⊕(((af)×(af))⊕Empty))):=letI C:=x.1.2.2.1;bif C<(x.1.1.length:Int)then xI x.1.1 C λD=>xI x.1.2.1 C λE=>(KA D E).bind λL=>bif (!L)then aq ((false,()),())else xG ((x.1.1,x.1.2.1,(W6 (C+1)),()),())else aM ((),())
def ayv:KY 27 (aN f103):=⟨0,lB 0 ⟨[(0,.lf (.aC .fo 0)),(1,.lf (.aC .fo 0)),(5,tI)],[],[]⟩ [(1,fJ),(2,eC)] aiV,lp [ayu]⟩
def Rr(C D:aa cG):ah (Bool):=bif ((C.length:Int) != (D.length:Int))then some false else br aiV ((C,D,0,()),()) (λE=>some E.1.1) λL=>some true
def ayw:=bJ [(false,(.sl .fo)),(false,(.sl .fo))] bH (aY Rr) 27 [] [ayv] func103
def B6(C D:av):ah (Bool):=(Q4 C.config D.config).bind λE=>bif (!E)then some false else (Q6 C.box D.box).bind λL=>bif (!L)then some false else bif (C.now != D.now)then some false else (Q8 C.aX D.aX).bind λO=>bif (!O)then some false else (Q9 C.ready D.ready).bind λT=>bif (!T)then some false else (Rb C.array D.array).bind λU=>bif (!U)then some false else (Rc C.spare D.spare).bind λY=>bif (!Y)then some false else (Rd C.aL D.aL).bind λZ=>bif (!Z)then some false else (Re C.bx D.bx).bind λy8=>bif (!y8)then some false else (oH C.guard D.guard).bind λy9=>bif (!y9)then some false else (Rf C.pending D.pending).bind λfW=>bif (!fW)then some false else (Rg C.queue D.queue).bind λdQ=>bif (!dQ)then some false else (Rh C.shares D.shares).bind λfK=>bif (!fK)then some false else (Ri C.drain D.drain).bind λfX=>bif (!fX)then some false else (Rj C.aS D.aS).bind λiB=>bif (!iB)then some false else (Rk C.cu D.cu).bind λgD=>bif (!gD)then some false else (Ro C.errors D.errors).bind λjq=>bif (!jq)then some false else (Rq C.trace D.trace).bind λfT=>bif (!fT)then some false else (Rr C.cA D.cA).bind λiV=>bif (!iV)then some false else some true
def ayx:=aJ [(true,.cx),(true,.cx)] bH (aY B6) 118 [axS,axW,ax0,ax1,ax5,ax6,ax7,aya,zj,ayd,ayg,ayj,ayk,ayl,aym,ayp,ayt,ayw] func12
abbrev aiW:=((af×Int×Int×af)×((aa Int)×af))
def KB(x:aiW):ah (aiW⊕(((Int×af)×((aa Int)×af))⊕Empty)):=letI C:=x.1.2.2.1;bif C<(x.2.1.length:Int)then xL x.2.1 C λD=>xG (((),(W6 (x.1.2.1+1)),(W6 (C+1)),()),((x.2.1.set C.toNat x.1.2.1),()))else aq ((x.1.2.1,()),(x.2.1,()))
def ayy:KY 19 (aN f111):=⟨0,lB 0 ⟨uj,[(20000,.sl .int 2)],[]⟩ [(2,⟨sj,[(20000,.sl .int 2)],[]⟩)] KB,lp []⟩
def fy(D:aa Int)(E:Int):ah ((Int)×((aa Int)×af)):=aW KB (((),E,0,()),(D,())) λC=>some (C.1.1,(C.2.1,()))
def gE:mA:=⟨[.s .int 0,.v false .int],[(false,.int,0)],λx=>fy x.1 x.2.1⟩
def zk:enters Tryz.prog 111/\rL Tryz.prog 111 gE:=kn 19 [] [ayy] func111
def ayz:enters Tryz.prog 28/\jk Tryz.prog 28 (cj Tryz.prog f28 1 [(111,.m gE)]):=qL (pM 1 [(111,.m gE)] func28 ⟨zk,trivial⟩)
def ayA:enters Tryz.prog 104/\jk Tryz.prog 104 (cj Tryz.prog f104 2 [(28,.i (cj Tryz.prog f28 1 [(111,.m gE)]))]):=qL (pM 2 [(28,.i (cj Tryz.prog f28 1 [(111,.m gE)]))] func104 ⟨ayz,trivial⟩)
abbrev aiX:=((af×Int×Int×af)×((aa cC)×af))
def KD(x:aiX):ah (aiX⊕(((Int×af)×((aa cC)×af))⊕Empty)):=letI C:=x.1.2.2.1;bif C<(x.2.1.length:Int)then xL x.2.1 C λE=>letI D:=x.2.1.set C.toNat (⟨((x.1.2.1.tmod 3)==0),E.row⟩:cC);xL D C λL=>xG (((),(W6 ((W6 (x.1.2.1+1))+1)),(W6 (C+1)),()),((D.set C.toNat (⟨L.open_,(W6 (x.1.2.1+1))⟩:cC)),()))else aq ((x.1.2.1,()),(x.2.1,()))
def ayB:KY 29 (aN f247):=⟨0,lB 0 ⟨uj,[(20000,.sl .eX 2)],[]⟩ [(2,⟨sj,[(20000,.sl .eX 2)],[]⟩)] KD,lp []⟩
def B7(D:aa cC)(E:Int):ah ((Int)×((aa cC)×af)):=aW KD (((),E,0,()),(D,())) λC=>some (C.1.1,(C.2.1,()))
def wM:=iT [.s .eX 0,.v false .int] bS (aY B7) 29 [] [ayB] func247
def ayC:enters Tryz.prog 105/\jk Tryz.prog 105 (cj Tryz.prog f105 1 [(wM.f,wM.c)]):=qL (pM 1 [(wM.f,wM.c)] func105 ⟨wM.ok,trivial⟩)
def ayD:enters Tryz.prog 106/\jk Tryz.prog 106 (cj Tryz.prog f106 1 [(111,.m gE)]):=qL (pM 1 [(111,.m gE)] func106 ⟨zk,trivial⟩)
abbrev aiY:=((af×Int×Int×af)×((aa bC)×af))
def KE(x:aiY):ah (aiY⊕(((Int×af)×((aa bC)×af))⊕Empty)):=letI C:=x.1.2.2.1;bif C<(x.2.1.length:Int)then xL x.2.1 C λT=>xM x.2.1 C λE=>(fy E.symbols x.1.2.1).bind λD=>letI L:=x.2.1.set C.toNat (⟨D.2.1,E.gx⟩:bC);xL L C λO=>xG (((),(W6 (D.1+1)),(W6 (C+1)),()),((L.set C.toNat (⟨O.symbols,((D.1.tmod 3)==0)⟩:bC)),()))else aq ((x.1.2.1,()),(x.2.1,()))
def ayE:KY 29 (aN f248):=⟨0,lB 0 ⟨uj,[(20000,.sl .Cell 4)],[]⟩ [(2,⟨sj,[(20000,.sl .Cell 4)],[]⟩)] KE,lp [⟨111,.d gE,zk⟩]⟩
def EZ(D:aa bC)(E:Int):ah ((Int)×((aa bC)×af)):=aW KE (((),E,0,()),(D,())) λC=>some (C.1.1,(C.2.1,()))
def wN:=iT [.s .Cell 2,.v false .int] bS (aY EZ) 29 [] [ayE] func248
def ayF:enters Tryz.prog 107/\jk Tryz.prog 107 (cj Tryz.prog f107 1 [(111,.m gE),(wN.f,wN.c)]):=qL (pM 1 [(111,.m gE),(wN.f,wN.c)] func107 ⟨zk,wN.ok,trivial⟩)
def ayG:enters Tryz.prog 108/\jk Tryz.prog 108 (cj Tryz.prog f108 1 [(111,.m gE)]):=qL (pM 1 [(111,.m gE)] func108 ⟨zk,trivial⟩)
def ayH:enters Tryz.prog 109/\jk Tryz.prog 109 (cj Tryz.prog f109 1 [(111,.m gE)]):=qL (pM 1 [(111,.m gE)] func109 ⟨zk,trivial⟩)
abbrev aiZ:=((af×Int×Int×af)×((aa bI)×af))
def KF(x:aiZ):ah (aiZ⊕(((Int×af)×((aa bI)×af))⊕Empty)):=letI C:=x.1.2.2.1;bif C<(x.2.1.length:Int)then xL x.2.1 C λZ=>xM x.2.1 C λD=>(fy D.rows x.1.2.1).bind λT=>letI E:=x.2.1.set C.toNat (⟨T.2.1,D.counts,D.cE⟩:bI);xL E C λe9=>xM E C λL=>(fy L.counts T.1).bind λO=>letI U:=E.set C.toNat (⟨L.rows,O.2.1,L.cE⟩:bI);xL U C λY=>xG (((),(W6 (O.1+1)),(W6 (C+1)),()),((U.set C.toNat (⟨Y.rows,Y.counts,O.1⟩:bI)),()))else aq ((x.1.2.1,()),(x.2.1,()))
def ayI:KY 34 (aN f110):=⟨0,lB 0 ⟨uj,[(20000,.sl .dV 4)],[]⟩ [(2,⟨sj,[(20000,.sl .dV 4)],[]⟩)] KF,lp [⟨111,.d gE,zk⟩]⟩
def E0(D:aa bI)(E:Int):ah ((Int)×((aa bI)×af)):=aW KF (((),E,0,()),(D,())) λC=>some (C.1.1,(C.2.1,()))
def KG:=iT [.s .dV 2,.v false .int] bS (aY E0) 34 [] [ayI] func110
abbrev ai0:=((af×Int×Int×af)×((aa aF)×af))
def KH(x:ai0):ah (ai0⊕(((Int×af)×((aa aF)×af))⊕Empty)):=letI D:=W6 (x.1.2.1+1);letI C:=x.1.2.2.1;bif C<(x.2.1.length:Int)then xL x.2.1 C λE=>letI L:=x.2.1.set C.toNat (⟨x.1.2.1,E.row,E.bG⟩:aF);xL L C λO=>letI T:=L.set C.toNat (⟨O.au,D,O.bG⟩:aF);xL T C λU=>xG (((),(W6 ((W6 (D+1))+1)),(W6 (C+1)),()),((T.set C.toNat (⟨U.au,U.row,(W6 (D+1))⟩:aF)),()))else aq ((x.1.2.1,()),(x.2.1,()))
def ayJ:KY 34 (aN f112):=⟨0,lB 0 ⟨uj,[(20000,.sl .Addr 2)],[]⟩ [(2,⟨sj,[(20000,.sl .Addr 2)],[]⟩)] KH,lp []⟩
def B8(D:aa aF)(E:Int):ah ((Int)×((aa aF)×af)):=aW KH (((),E,0,()),(D,())) λC=>some (C.1.1,(C.2.1,()))
def KI:=iT [.s .Addr 0,.v false .int] bS (aY B8) 34 [] [ayJ] func112
abbrev ai1:=((af×Int×Int×af)×((aa bk)×af))
def KJ(x:ai1):ah (ai1⊕(((Int×af)×((aa bk)×af))⊕Empty)):=letI C:=x.1.2.2.1;letI Y:=W6 ((W6 (x.1.2.1+1))+1);letI Z:=W6 ((W6 (Y+1))+1);bif C<(x.2.1.length:Int)then xL x.2.1 C λD=>letI u4:=x.2.1.set C.toNat (⟨x.1.2.1,D.de,D.line,D.write,D.data,D.at_⟩:bk);xL u4 C λE=>letI u0:=u4.set C.toNat (⟨E.id,(W6 (x.1.2.1+1)),E.line,E.write,E.data,E.at_⟩:bk);xL u0 C λL=>letI u5:=u0.set C.toNat (⟨L.id,L.de,Y,L.write,L.data,L.at_⟩:bk);xL u5 C λO=>(gV (u5.set C.toNat (⟨O.id,O.de,O.line,(((W6 (Y+1)).tmod 3)==0),O.data,O.at_⟩:bk)) λB9=>xL B9 C λT=>letI u3:=B9.set C.toNat (⟨T.id,T.de,T.line,T.write,Z,T.at_⟩:bk);xL u3 C λU=>(gV (u3.set C.toNat (⟨U.id,U.de,U.line,U.write,U.data,(W6 (Z+1))⟩:bk)) λv20=>xG (((),(W6 ((W6 (Z+1))+1)),(W6 (C+1)),()),(v20,()))))else aq ((x.1.2.1,()),(x.2.1,()))
def ayK:KY 57 (aN f113):=⟨0,lB 0 ⟨uj,[(20000,.sl .cQ 2)],[]⟩ [(2,⟨sj,[(20000,.sl .cQ 2)],[]⟩)] KJ,lp []⟩
def Ca(D:aa bk)(E:Int):ah ((Int)×((aa bk)×af)):=aW KJ (((),E,0,()),(D,())) λC=>some (C.1.1,(C.2.1,()))
def KM:=iT [.s .cQ 0,.v false .int] bS (aY Ca) 57 [] [ayK] func113
abbrev ai2:=((af×Int×Int×af)×((aa bM)×af))
def KN(x:ai2):ah (ai2⊕(((Int×af)×((aa bM)×af))⊕Empty)):=letI C:=x.1.2.2.1;bif C<(x.2.1.length:Int)then xL x.2.1 C λE=>letI D:=x.2.1.set C.toNat (⟨x.1.2.1,E.dU⟩:bM);xL D C λL=>xG (((),(W6 ((W6 (x.1.2.1+1))+1)),(W6 (C+1)),()),((D.set C.toNat (⟨L.weight,(W6 (x.1.2.1+1))⟩:bM)),()))else aq ((x.1.2.1,()),(x.2.1,()))
def ayL:KY 27 (aN f114):=⟨0,lB 0 ⟨uj,[(20000,.sl .dz 2)],[]⟩ [(2,⟨sj,[(20000,.sl .dz 2)],[]⟩)] KN,lp []⟩
def Cb(D:aa bM)(E:Int):ah ((Int)×((aa bM)×af)):=aW KN (((),E,0,()),(D,())) λC=>some (C.1.1,(C.2.1,()))
def KO:=iT [.s .dz 0,.v false .int] bS (aY Cb) 27 [] [ayL] func114
abbrev ai3:=((af×Int×Int×af)×((aa bK)×af))
def KP(x:ai3):ah (ai3⊕(((Int×af)×((aa bK)×af))⊕Empty)):=letI D:=W6 (x.1.2.1+1);letI C:=x.1.2.2.1;bif C<(x.2.1.length:Int)then xL x.2.1 C λE=>letI L:=x.2.1.set C.toNat (⟨x.1.2.1,E.code,E.times⟩:bK);xL L C λO=>letI T:=L.set C.toNat (⟨O.line,D,O.times⟩:bK);xL T C λU=>xG (((),(W6 ((W6 (D+1))+1)),(W6 (C+1)),()),((T.set C.toNat (⟨U.line,U.code,(W6 (D+1))⟩:bK)),()))else aq ((x.1.2.1,()),(x.2.1,()))
def ayM:KY 34 (aN f115):=⟨0,lB 0 ⟨uj,[(20000,.sl .dG 2)],[]⟩ [(2,⟨sj,[(20000,.sl .dG 2)],[]⟩)] KP,lp []⟩
def Cc(D:aa bK)(E:Int):ah ((Int)×((aa bK)×af)):=aW KP (((),E,0,()),(D,())) λC=>some (C.1.1,(C.2.1,()))
def KQ:=iT [.s .dG 0,.v false .int] bS (aY Cc) 34 [] [ayM] func115
abbrev ai4:=((af×Int×Int×af)×((aa cz)×af))
def KR(x:ai4):ah (ai4⊕(((Int×af)×((aa cz)×af))⊕Empty)):=letI U:=W6 ((W6 (x.1.2.1+1))+1);letI T:=W6 (U+1);letI C:=x.1.2.2.1;bif C<(x.2.1.length:Int)then xL x.2.1 C λe3=>letI Y:=x.2.1.set C.toNat (⟨x.1.2.1,e3.cmd⟩:cz);xL Y C λD=>letI Z:=Y.set C.toNat (⟨D.at_,⟨(W6 (x.1.2.1+1)),D.cmd.au,D.cmd.row,D.cmd.bG⟩⟩:cz);xL Z C λE=>letI u1:=Z.set C.toNat (⟨E.at_,⟨E.cmd.kind,U,E.cmd.row,E.cmd.bG⟩⟩:cz);xL u1 C λL=>(gV (u1.set C.toNat (⟨L.at_,⟨L.cmd.kind,L.cmd.au,T,L.cmd.bG⟩⟩:cz)) λB9=>xL B9 C λO=>xG (((),(W6 ((W6 (T+1))+1)),(W6 (C+1)),()),((B9.set C.toNat (⟨O.at_,⟨O.cmd.kind,O.cmd.au,O.cmd.row,(W6 (T+1))⟩⟩:cz)),())))else aq ((x.1.2.1,()),(x.2.1,()))
def ayN:KY 52 (aN f116):=⟨0,lB 0 ⟨uj,[(20000,.sl .Event 2)],[]⟩ [(2,⟨sj,[(20000,.sl .Event 2)],[]⟩)] KR,lp []⟩
def Cd(D:aa cz)(E:Int):ah ((Int)×((aa cz)×af)):=aW KR (((),E,0,()),(D,())) λC=>some (C.1.1,(C.2.1,()))
def KS:=iT [.s .Event 0,.v false .int] bS (aY Cd) 52 [] [ayN] func116
abbrev ai5:=((af×Int×Int×af)×((aa cG)×af))
def KT(x:ai5):ah (ai5⊕(((Int×af)×((aa cG)×af))⊕Empty)):=letI D:=W6 ((W6 (x.1.2.1+1))+1);letI C:=x.1.2.2.1;bif C<(x.2.1.length:Int)then xL x.2.1 C λE=>letI U:=x.2.1.set C.toNat (⟨x.1.2.1,E.at_,E.data,E.code⟩:cG);xL U C λL=>letI Y:=U.set C.toNat (⟨L.id,(W6 (x.1.2.1+1)),L.data,L.code⟩:cG);xL Y C λO=>letI Z:=Y.set C.toNat (⟨O.id,O.at_,D,O.code⟩:cG);xL Z C λT=>(gV (Z.set C.toNat (⟨T.id,T.at_,T.data,(W6 (D+1))⟩:cG)) λB9=>xG (((),(W6 ((W6 (D+1))+1)),(W6 (C+1)),()),(B9,())))else aq ((x.1.2.1,()),(x.2.1,()))
def ayO:KY 41 (aN f117):=⟨0,lB 0 ⟨uj,[(20000,.sl .fo 2)],[]⟩ [(2,⟨sj,[(20000,.sl .fo 2)],[]⟩)] KT,lp []⟩
def Ce(D:aa cG)(E:Int):ah ((Int)×((aa cG)×af)):=aW KT (((),E,0,()),(D,())) λC=>some (C.1.1,(C.2.1,()))
def KU:=iT [.s .fo 0,.v false .int] bS (aY Ce) 41 [] [ayO] func117
def ayP:enters Tryz.prog 13/\jk Tryz.prog 13 (cj Tryz.prog f13 3 [(104,.i (cj Tryz.prog f104 2 [(28,.i (cj Tryz.prog f28 1 [(111,.m gE)]))])),(105,.i (cj Tryz.prog f105 1 [(wM.f,wM.c)])),(106,.i (cj Tryz.prog f106 1 [(111,.m gE)])),(107,.i (cj Tryz.prog f107 1 [(111,.m gE),(wN.f,wN.c)])),(108,.i (cj Tryz.prog f108 1 [(111,.m gE)])),(109,.i (cj Tryz.prog f109 1 [(111,.m gE)])),(KG.f,KG.c),(111,.m gE),(KI.f,KI.c),(KM.f,KM.c),(KO.f,KO.c),(KQ.f,KQ.c),(KS.f,KS.c),(KU.f,KU.c)]):=qL (pM 3 [(104,.i (cj Tryz.prog f104 2 [(28,.i (cj Tryz.prog f28 1 [(111,.m gE)]))])),(105,.i (cj Tryz.prog f105 1 [(wM.f,wM.c)])),(106,.i (cj Tryz.prog f106 1 [(111,.m gE)])),(107,.i (cj Tryz.prog f107 1 [(111,.m gE),(wN.f,wN.c)])),(108,.i (cj Tryz.prog f108 1 [(111,.m gE)])),(109,.i (cj Tryz.prog f109 1 [(111,.m gE)])),(KG.f,KG.c),(111,.m gE),(KI.f,KI.c),(KM.f,KM.c),(KO.f,KO.c),(KQ.f,KQ.c),(KS.f,KS.c),(KU.f,KU.c)] func13 ⟨ayA,ayC,ayD,ayF,ayG,ayH,KG.ok,zk,KI.ok,KM.ok,KO.ok,KQ.ok,KS.ok,KU.ok,trivial⟩)
abbrev ai6:=(((aa Int)×Int×Int×af)×(af))
def KV(x:ai6):ah (ai6⊕(((Int×af)×(af))⊕(((Int×af)×(af))⊕Empty))):=bif x.1.2.2.1<(x.1.1.length:Int)then xI x.1.1 x.1.2.2.1 λC=>bif (C != x.1.2.1)then aq (((-1),()),())else xG ((x.1.1,(W6 (x.1.2.1+1)),(W6 (x.1.2.2.1+1)),()),())else aM ((x.1.2.1,()),())
def ayQ:KY 21 (aN f125):=⟨0,lB 0 Ws [(1,jo),(2,qN)] KV,lp []⟩
def nO(C:aa Int)(D:Int):ah (Int):=br KV ((C,D,0,()),()) (λE=>some E.1.1) λL=>some L.1.1
def zl:=bJ yD bS (aY nO) 21 [] [ayQ] func125
def Rs(D:eE)(E:Int):ah (Int):=(nO D.weights E).bind λC=>bif C<0 then some (-1)else some C
def ayR:=aJ [(true,.kj),(false,.int)] bS (aY Rs) 12 [zl] func249
def XX(C:fP)(L:Int):ah (Int):=(Rs C.bz L).bind λD=>bif D<0 then some (-1)else (Rs C.next D).bind λE=>bif E<0 then some (-1)else some E
def ayS:=aJ [(true,.iK),(false,.int)] bS (aY XX) 18 [ayR] func118
abbrev ai7:=(((aa cC)×Int×Int×af)×(af))
def KW(x:ai7):ah (ai7⊕(((Int×af)×(af))⊕(((Int×af)×(af))⊕Empty))):=letI C:=x.1.2;bif C.2.1<(x.1.1.length:Int)then xI x.1.1 C.2.1 λD=>bif (!(D.open_==((C.1.tmod 3)==0)))then aq (((-1),()),())else xI x.1.1 C.2.1 λE=>bif (E.row != (W6 (C.1+1)))then aq (((-1),()),())else xG ((x.1.1,(W6 ((W6 (C.1+1))+1)),(W6 (C.2.1+1)),()),())else aM ((C.1,()),())
def ayT:KY 33 (aN f250):=⟨0,lB 0 ⟨[(0,.lf (.aC .eX 0)),(1,tI),(5,tI)],[],[]⟩ [(1,jo),(2,qN)] KW,lp []⟩
def KZ(C:aa cC)(D:Int):ah (Int):=br KW ((C,D,0,()),()) (λE=>some E.1.1) λL=>some L.1.1
def ayU:=bJ [(false,(.sl .eX)),(false,.int)] bS (aY KZ) 33 [] [ayT] func250
def XY(D:bV)(E:Int):ah (Int):=(KZ D.ay E).bind λC=>bif C<0 then some (-1)else some C
def ayV:=aJ NT bS (aY XY) 12 [ayU] func119
def XZ(C:cP)(L:Int):ah (Int):=(nO C.last L).bind λD=>bif D<0 then some (-1)else (nO C.bg D).bind λE=>bif E<0 then some (-1)else some E
def ayW:=aJ [(true,.je),(false,.int)] bS (aY XZ) 18 [zl] func120
abbrev ai8:=(((aa bC)×Int×Int×af)×(af))
def K0(x:ai8):ah (ai8⊕(((Int×af)×(af))⊕(((Int×af)×(af))⊕Empty))):=letI C:=x.1.2.2.1;bif C<(x.1.1.length:Int)then xI x.1.1 C λE=>(nO E.symbols x.1.2.1).bind λD=>bif D<0 then aq (((-1),()),())else xI x.1.1 C λL=>bif (!(L.gx==((D.tmod 3)==0)))then aq (((-1),()),())else xG ((x.1.1,(W6 (D+1)),(W6 (C+1)),()),())else aM ((x.1.2.1,()),())
def ayX:KY 33 (aN f251):=⟨0,lB 0 ad0 [(1,jo),(2,qN)] K0,lp [zl]⟩
def Rt(C:aa bC)(D:Int):ah (Int):=br K0 ((C,D,0,()),()) (λE=>some E.1.1) λL=>some L.1.1
def ayY:=bJ [(false,(.sl .Cell)),(false,.int)] bS (aY Rt) 33 [] [ayX] func251
def X0(C:cF)(O:Int):ah (Int):=(Rt C.cells O).bind λD=>bif D<0 then some (-1)else (nO C.bh D).bind λE=>bif E<0 then some (-1)else (nO C.aZ E).bind λL=>bif L<0 then some (-1)else some L
def ayZ:=aJ [(true,.Array),(false,.int)] bS (aY X0) 24 [zl,ayY] func121
def X3(D:eg)(E:Int):ah (Int):=(nO D.map E).bind λC=>bif C<0 then some (-1)else some C
def ay0:=aJ [(true,.jf),(false,.int)] bS (aY X3) 12 [zl] func122
def X4(D:cK)(E:Int):ah (Int):=(nO D.aE E).bind λC=>bif C<0 then some (-1)else some C
def ay1:=aJ Hr bS (aY X4) 12 [zl] func123
abbrev ai9:=(((aa bI)×Int×Int×af)×(af))
def K1(x:ai9):ah (ai9⊕(((Int×af)×(af))⊕(((Int×af)×(af))⊕Empty))):=letI C:=x.1.2.2.1;letI D:=aq (((-1),()),());bif C<(x.1.1.length:Int)then xI x.1.1 C λO=>(nO O.rows x.1.2.1).bind λL=>bif L<0 then D else xI x.1.1 C λT=>(nO T.counts L).bind λE=>bif E<0 then D else xI x.1.1 C λU=>bif (U.cE != E)then D else xG ((x.1.1,(W6 (E+1)),(W6 (C+1)),()),())else aM ((x.1.2.1,()),())
def ay2:KY 40 (aN f124):=⟨0,lB 0 ad1 [(1,jo),(2,qN)] K1,lp [zl]⟩
def Ru(C:aa bI)(D:Int):ah (Int):=br K1 ((C,D,0,()),()) (λE=>some E.1.1) λL=>some L.1.1
def ay3:=bJ [(false,(.sl .dV)),(false,.int)] bS (aY Ru) 40 [] [ay2] func124
abbrev aja:=(((aa aF)×Int×Int×af)×(af))
def K2(x:aja):ah (aja⊕(((Int×af)×(af))⊕(((Int×af)×(af))⊕Empty))):=letI D:=W6 (x.1.2.1+1);letI C:=x.1.2.2.1;letI E:=aq (((-1),()),());bif C<(x.1.1.length:Int)then xI x.1.1 C λL=>bif (L.au != x.1.2.1)then E else xI x.1.1 C λO=>bif (O.row != D)then E else xI x.1.1 C λT=>bif (T.bG != (W6 (D+1)))then E else xG ((x.1.1,(W6 ((W6 (D+1))+1)),(W6 (C+1)),()),())else aM ((x.1.2.1,()),())
def ay4:KY 40 (aN f126):=⟨0,lB 0 ad2 [(1,jo),(2,qN)] K2,lp []⟩
def K3(C:aa aF)(D:Int):ah (Int):=br K2 ((C,D,0,()),()) (λE=>some E.1.1) λL=>some L.1.1
def ay5:=bJ NR bS (aY K3) 40 [] [ay4] func126
end Go.Proofs.YtnilicojgkhpnaaGreat
