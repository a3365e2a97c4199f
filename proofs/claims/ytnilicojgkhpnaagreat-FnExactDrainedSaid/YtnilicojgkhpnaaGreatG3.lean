/-
  Functions of the program as plain functions of contents, and that the code computes them. Nothing here is a claim.
-/
import Derived.Test.YtnilicojgkhpnaaGreatVZ
import Derived.Test.YtnilicojgkhpnaaGreatRows
import Derived.Test.YtnilicojgkhpnaaGreatG1
import Derived.Test.YtnilicojgkhpnaaGreatG2
namespace Go.Proofs.YtnilicojgkhpnaaGreat
set_option linter.defProp false
open Go.RowKit Go.Proofs.Tryz
set_option linter.unusedVariables false
set_option maxRecDepth 100000
abbrev afR:=(((aa bA)×(aa bA)×Int×af)×(af))
def afS(x:afR):ah (afR⊕(((Bool×af)×(af))⊕(((af)×(af))⊕Empty))):=letI C:=x.1.2.2.1;bif C<(x.1.1.length:Int)then xI x.1.1 C λD=>xI x.1.2.1 C λE=>(I2 D E).bind λL=>bif (!L)then av ((false,()),())else xG ((x.1.1,x.1.2.1,(W6 (C+1)),()),())else aQ ((),())
def atm:KY 27 (aR f96):=⟨0,lB 0 ⟨[(0,.lf (.aF .dw 0)),(1,.lf (.aF .dw 0)),(5,tI)],[],[]⟩ [(1,gC),(2,fq)] afS,lp [atl]⟩
def P5(C D:aa bA):ah (Bool):=bif ((C.length:Int) != (D.length:Int))then some false else bE afS ((C,D,0,()),()) (λE=>some E.1.1) λL=>some true
def atn:=bT [(false,(.sl .dw)),(false,(.sl .dw))] bS (br P5) 27 [] [atm] func96
def I3(C D:bV):ah (Bool):=bif (C.weight != D.weight)then some false else bif (C.eP != D.eP)then some false else some true
def ato:=aM [(true,.ef),(true,.ef)] bS (br I3) 15 [] func243
abbrev afT:=(((aa bV)×(aa bV)×Int×af)×(af))
def afU(x:afT):ah (afT⊕(((Bool×af)×(af))⊕(((af)×(af))⊕Empty))):=letI C:=x.1.2.2.1;bif C<(x.1.1.length:Int)then xI x.1.1 C λD=>xI x.1.2.1 C λE=>(I3 D E).bind λL=>bif (!L)then av ((false,()),())else xG ((x.1.1,x.1.2.1,(W6 (C+1)),()),())else aQ ((),())
def atp:KY 27 (aR f97):=⟨0,lB 0 ⟨[(0,.lf (.aF .ef 0)),(1,.lf (.aF .ef 0)),(5,tI)],[],[]⟩ [(1,gC),(2,fq)] afU,lp [ato]⟩
def P6(C D:aa bV):ah (Bool):=bif ((C.length:Int) != (D.length:Int))then some false else bE afU ((C,D,0,()),()) (λE=>some E.1.1) λL=>some true
def atq:=bT [(false,(.sl .ef)),(false,(.sl .ef))] bS (br P6) 27 [] [atp] func97
def P7(C D:gB):ah (Bool):=bif (!(C.on==D.on))then some false else bif (C.low != D.low)then some false else bif (C.high != D.high)then some false else some true
def atr:=aM [(true,.kN),(true,.kN)] bS (br P7) 20 [] func98
def P8(C D:eC):ah (Bool):=bif (C.state != D.state)then some false else bif (C.since != D.since)then some false else bif (C.idle != D.idle)then some false else some true
def att:=aM [(true,.Power),(true,.Power)] bS (br P8) 20 [] func99
def P9(C D:kZ):ah (Bool):=bif (C.next != D.next)then some false else bif (C.every != D.every)then some false else bif (C.wait != D.wait)then some false else some true
def atu:=aM [(true,.nM),(true,.nM)] bS (br P9) 20 [] func100
def I4(C D:bU):ah (Bool):=bif (C.line != D.line)then some false else bif (C.code != D.code)then some false else bif (C.times != D.times)then some false else some true
def atv:=aM [(true,.eo),(true,.eo)] bS (br I4) 20 [] func244
abbrev afV:=(((aa bU)×(aa bU)×Int×af)×(af))
def afW(x:afV):ah (afV⊕(((Bool×af)×(af))⊕(((af)×(af))⊕Empty))):=letI C:=x.1.2.2.1;bif C<(x.1.1.length:Int)then xI x.1.1 C λD=>xI x.1.2.1 C λE=>(I4 D E).bind λL=>bif (!L)then av ((false,()),())else xG ((x.1.1,x.1.2.1,(W6 (C+1)),()),())else aQ ((),())
def atw:KY 27 (aR f101):=⟨0,lB 0 ⟨[(0,.lf (.aF .eo 0)),(1,.lf (.aF .eo 0)),(5,tI)],[],[]⟩ [(1,gC),(2,fq)] afW,lp [atv]⟩
def Qa(C D:aa bU):ah (Bool):=bif ((C.length:Int) != (D.length:Int))then some false else bE afW ((C,D,0,()),()) (λE=>some E.1.1) λL=>some true
def atx:=bT [(false,(.sl .eo)),(false,(.sl .eo))] bS (br Qa) 27 [] [atw] func101
def Qb(C D:aG):ah (Bool):=bif (C.kind != D.kind)then some false else bif (C.ay != D.ay)then some false else bif (C.row != D.row)then some false else bif (C.bR != D.bR)then some false else some true
def aty:=aM [(true,.Command),(true,.Command)] bS (br Qb) 25 [] func366
def I5(C D:cP):ah (Bool):=bif (C.at_ != D.at_)then some false else (Qb C.cmd D.cmd).bind λE=>bif (!E)then some false else some true
def atz:=aM [(true,.Event),(true,.Event)] bS (br I5) 16 [aty] func245
abbrev afX:=(((aa cP)×(aa cP)×Int×af)×(af))
def afY(x:afX):ah (afX⊕(((Bool×af)×(af))⊕(((af)×(af))⊕Empty))):=letI C:=x.1.2.2.1;bif C<(x.1.1.length:Int)then xI x.1.1 C λD=>xI x.1.2.1 C λE=>(I5 D E).bind λL=>bif (!L)then av ((false,()),())else xG ((x.1.1,x.1.2.1,(W6 (C+1)),()),())else aQ ((),())
def atA:KY 27 (aR f102):=⟨0,lB 0 ⟨[(0,.lf (.aF .Event 0)),(1,.lf (.aF .Event 0)),(5,tI)],[],[]⟩ [(1,gC),(2,fq)] afY,lp [atz]⟩
def Qc(C D:aa cP):ah (Bool):=bif ((C.length:Int) != (D.length:Int))then some false else bE afY ((C,D,0,()),()) (λE=>some E.1.1) λL=>some true
def atB:=bT [(false,(.sl .Event)),(false,(.sl .Event))] bS (br Qc) 27 [] [atA] func102
def I6(C D:cX):ah (Bool):=bif (C.id != D.id)then some false else bif (C.at_ != D.at_)then some false else bif (C.data != D.data)then some false else bif (C.code != D.code)then some false else some true
def atC:=aM [(true,.gd),(true,.gd)] bS (br I6) 25 [] func246
abbrev afZ:=(((aa cX)×(aa cX)×Int×af)×(af))
def af0(x:afZ):ah (afZ⊕(((Bool×af)×(af))⊕(((af)×(af))⊕Empty))):=letI C:=x.1.2.2.1;bif C<(x.1.1.length:Int)then xI x.1.1 C λD=>xI x.1.2.1 C λE=>(I6 D E).bind λL=>bif (!L)then av ((false,()),())else xG ((x.1.1,x.1.2.1,(W6 (C+1)),()),())else aQ ((),())
def atD:KY 27 (aR f103):=⟨0,lB 0 ⟨[(0,.lf (.aF .gd 0)),(1,.lf (.aF .gd 0)),(5,tI)],[],[]⟩ [(1,gC),(2,fq)] af0,lp [atC]⟩
def Qd(C D:aa cX):ah (Bool):=bif ((C.length:Int) != (D.length:Int))then some false else bE af0 ((C,D,0,()),()) (λE=>some E.1.1) λL=>some true
def atE:=bT [(false,(.sl .gd)),(false,(.sl .gd))] bS (br Qd) 27 [] [atD] func103
def Cj(C D:ax):ah (Bool):=(PS C.config D.config).bind λE=>bif (!E)then some false else (PU C.box D.box).bind λL=>bif (!L)then some false else bif (C.now != D.now)then some false else (PX C.bq D.bq).bind λO=>bif (!O)then some false else (PY C.ready D.ready).bind λT=>bif (!T)then some false else (P0 C.array D.array).bind λU=>bif (!U)then some false else (P1 C.spare D.spare).bind λY=>bif (!Y)then some false else (P2 C.aP D.aP).bind λZ=>bif (!Z)then some false else (P3 C.bH D.bH).bind λy8=>bif (!y8)then some false else (qc C.guard D.guard).bind λy9=>bif (!y9)then some false else (P4 C.pending D.pending).bind λgR=>bif (!gR)then some false else (P5 C.queue D.queue).bind λeM=>bif (!eM)then some false else (P6 C.shares D.shares).bind λgD=>bif (!gD)then some false else (P7 C.drain D.drain).bind λgS=>bif (!gS)then some false else (P8 C.aZ D.aZ).bind λjz=>bif (!jz)then some false else (P9 C.cK D.cK).bind λiE=>bif (!iE)then some false else (Qa C.errors D.errors).bind λkF=>bif (!kF)then some false else (Qc C.trace D.trace).bind λgM=>bif (!gM)then some false else (Qd C.cT D.cT).bind λjT=>bif (!jT)then some false else some true
def atF:=aM [(true,.cN),(true,.cN)] bS (br Cj) 118 [asZ,as3,as7,as8,atc,atd,ate,ath,zV,atk,atn,atq,atr,att,atu,atx,atB,atE] func12
abbrev af1:=((af×Int×Int×af)×((aa Int)×af))
def I7(x:af1):ah (af1⊕(((Int×af)×((aa Int)×af))⊕Empty)):=letI C:=x.1.2.2.1;bif C<(x.2.1.length:Int)then xL x.2.1 C λD=>xG (((),(W6 (x.1.2.1+1)),(W6 (C+1)),()),((x.2.1.set C.toNat x.1.2.1),()))else av ((x.1.2.1,()),(x.2.1,()))
def atG:KY 19 (aR f111):=⟨0,lB 0 ⟨vG,[(20000,.sl .int 2)],[]⟩ [(2,⟨tP,[(20000,.sl .int 2)],[]⟩)] I7,lp []⟩
def gi(D:aa Int)(E:Int):ah ((Int)×((aa Int)×af)):=bk I7 (((),E,0,()),(D,())) λC=>some (C.1.1,(C.2.1,()))
def iF:nW:=⟨[.s .int 0,.v false .int],[(false,.int,0)],λx=>gi x.1 x.2.1⟩
def zW:enters Tryz.prog 111/\tu Tryz.prog 111 iF:=kn 19 [] [atG] func111
def atH:enters Tryz.prog 28/\kA Tryz.prog 28 (cj Tryz.prog f28 1 [(111,.m iF)]):=su (qU 1 [(111,.m iF)] func28 ⟨zW,trivial⟩)
def atI:enters Tryz.prog 104/\kA Tryz.prog 104 (cj Tryz.prog f104 2 [(28,.i (cj Tryz.prog f28 1 [(111,.m iF)]))]):=su (qU 2 [(28,.i (cj Tryz.prog f28 1 [(111,.m iF)]))] func104 ⟨atH,trivial⟩)
abbrev af2:=((af×Int×Int×af)×((aa cR)×af))
def I8(x:af2):ah (af2⊕(((Int×af)×((aa cR)×af))⊕Empty)):=letI C:=x.1.2.2.1;bif C<(x.2.1.length:Int)then xL x.2.1 C λE=>letI D:=x.2.1.set C.toNat (⟨((x.1.2.1.tmod 3)==0),E.row⟩:cR);xL D C λL=>xG (((),(W6 ((W6 (x.1.2.1+1))+1)),(W6 (C+1)),()),((D.set C.toNat (⟨L.open_,(W6 (x.1.2.1+1))⟩:cR)),()))else av ((x.1.2.1,()),(x.2.1,()))
def atJ:KY 29 (aR f247):=⟨0,lB 0 ⟨vG,[(20000,.sl .fQ 2)],[]⟩ [(2,⟨tP,[(20000,.sl .fQ 2)],[]⟩)] I8,lp []⟩
def Cl(D:aa cR)(E:Int):ah ((Int)×((aa cR)×af)):=bk I8 (((),E,0,()),(D,())) λC=>some (C.1.1,(C.2.1,()))
def xO:=jS [.s .fQ 0,.v false .int] cq (br Cl) 29 [] [atJ] func247
def atK:enters Tryz.prog 105/\kA Tryz.prog 105 (cj Tryz.prog f105 1 [(xO.f,xO.c)]):=su (qU 1 [(xO.f,xO.c)] func105 ⟨xO.ok,trivial⟩)
def atM:enters Tryz.prog 106/\kA Tryz.prog 106 (cj Tryz.prog f106 1 [(111,.m iF)]):=su (qU 1 [(111,.m iF)] func106 ⟨zW,trivial⟩)
abbrev af3:=((af×Int×Int×af)×((aa bK)×af))
def I9(x:af3):ah (af3⊕(((Int×af)×((aa bK)×af))⊕Empty)):=letI C:=x.1.2.2.1;bif C<(x.2.1.length:Int)then xL x.2.1 C λT=>xM x.2.1 C λE=>(gi E.symbols x.1.2.1).bind λD=>letI L:=x.2.1.set C.toNat (⟨D.2.1,E.iy⟩:bK);xL L C λO=>xG (((),(W6 (D.1+1)),(W6 (C+1)),()),((L.set C.toNat (⟨O.symbols,((D.1.tmod 3)==0)⟩:bK)),()))else av ((x.1.2.1,()),(x.2.1,()))
def atO:KY 29 (aR f248):=⟨0,lB 0 ⟨vG,[(20000,.sl .Cell 4)],[]⟩ [(2,⟨tP,[(20000,.sl .Cell 4)],[]⟩)] I9,lp [⟨111,.d iF,zW⟩]⟩
def EK(D:aa bK)(E:Int):ah ((Int)×((aa bK)×af)):=bk I9 (((),E,0,()),(D,())) λC=>some (C.1.1,(C.2.1,()))
def xP:=jS [.s .Cell 2,.v false .int] cq (br EK) 29 [] [atO] func248
def atP:enters Tryz.prog 107/\kA Tryz.prog 107 (cj Tryz.prog f107 1 [(111,.m iF),(xP.f,xP.c)]):=su (qU 1 [(111,.m iF),(xP.f,xP.c)] func107 ⟨zW,xP.ok,trivial⟩)
def atQ:enters Tryz.prog 108/\kA Tryz.prog 108 (cj Tryz.prog f108 1 [(111,.m iF)]):=su (qU 1 [(111,.m iF)] func108 ⟨zW,trivial⟩)
def atT:enters Tryz.prog 109/\kA Tryz.prog 109 (cj Tryz.prog f109 1 [(111,.m iF)]):=su (qU 1 [(111,.m iF)] func109 ⟨zW,trivial⟩)
abbrev af4:=((af×Int×Int×af)×((aa bQ)×af))
def Ja(x:af4):ah (af4⊕(((Int×af)×((aa bQ)×af))⊕Empty)):=letI C:=x.1.2.2.1;bif C<(x.2.1.length:Int)then xL x.2.1 C λZ=>xM x.2.1 C λD=>(gi D.rows x.1.2.1).bind λT=>letI E:=x.2.1.set C.toNat (⟨T.2.1,D.counts,D.cY⟩:bQ);xL E C λe9=>xM E C λL=>(gi L.counts T.1).bind λO=>letI U:=E.set C.toNat (⟨L.rows,O.2.1,L.cY⟩:bQ);xL U C λY=>xG (((),(W6 (O.1+1)),(W6 (C+1)),()),((U.set C.toNat (⟨Y.rows,Y.counts,O.1⟩:bQ)),()))else av ((x.1.2.1,()),(x.2.1,()))
def atU:KY 34 (aR f110):=⟨0,lB 0 ⟨vG,[(20000,.sl .eR 4)],[]⟩ [(2,⟨tP,[(20000,.sl .eR 4)],[]⟩)] Ja,lp [⟨111,.d iF,zW⟩]⟩
def EL(D:aa bQ)(E:Int):ah ((Int)×((aa bQ)×af)):=bk Ja (((),E,0,()),(D,())) λC=>some (C.1.1,(C.2.1,()))
def Jb:=jS [.s .eR 2,.v false .int] cq (br EL) 34 [] [atU] func110
abbrev af5:=((af×Int×Int×af)×((aa aI)×af))
def Jc(x:af5):ah (af5⊕(((Int×af)×((aa aI)×af))⊕Empty)):=letI D:=W6 (x.1.2.1+1);letI C:=x.1.2.2.1;bif C<(x.2.1.length:Int)then xL x.2.1 C λE=>letI L:=x.2.1.set C.toNat (⟨x.1.2.1,E.row,E.bR⟩:aI);xL L C λO=>letI T:=L.set C.toNat (⟨O.ay,D,O.bR⟩:aI);xL T C λU=>xG (((),(W6 ((W6 (D+1))+1)),(W6 (C+1)),()),((T.set C.toNat (⟨U.ay,U.row,(W6 (D+1))⟩:aI)),()))else av ((x.1.2.1,()),(x.2.1,()))
def atV:KY 34 (aR f112):=⟨0,lB 0 ⟨vG,[(20000,.sl .Addr 2)],[]⟩ [(2,⟨tP,[(20000,.sl .Addr 2)],[]⟩)] Jc,lp []⟩
def Cm(D:aa aI)(E:Int):ah ((Int)×((aa aI)×af)):=bk Jc (((),E,0,()),(D,())) λC=>some (C.1.1,(C.2.1,()))
def Jd:=jS [.s .Addr 0,.v false .int] cq (br Cm) 34 [] [atV] func112
abbrev af6:=((af×Int×Int×af)×((aa bA)×af))
def Je(x:af6):ah (af6⊕(((Int×af)×((aa bA)×af))⊕Empty)):=letI C:=x.1.2.2.1;letI Y:=W6 ((W6 (x.1.2.1+1))+1);letI Z:=W6 ((W6 (Y+1))+1);bif C<(x.2.1.length:Int)then xL x.2.1 C λD=>letI u4:=x.2.1.set C.toNat (⟨x.1.2.1,D.dN,D.line,D.write,D.data,D.at_⟩:bA);xL u4 C λE=>letI u0:=u4.set C.toNat (⟨E.id,(W6 (x.1.2.1+1)),E.line,E.write,E.data,E.at_⟩:bA);xL u0 C λL=>letI u5:=u0.set C.toNat (⟨L.id,L.dN,Y,L.write,L.data,L.at_⟩:bA);xL u5 C λO=>(jc (u5.set C.toNat (⟨O.id,O.dN,O.line,(((W6 (Y+1)).tmod 3)==0),O.data,O.at_⟩:bA)) λCn=>xL Cn C λT=>letI u3:=Cn.set C.toNat (⟨T.id,T.dN,T.line,T.write,Z,T.at_⟩:bA);xL u3 C λU=>(jc (u3.set C.toNat (⟨U.id,U.dN,U.line,U.write,U.data,(W6 (Z+1))⟩:bA)) λv20=>xG (((),(W6 ((W6 (Z+1))+1)),(W6 (C+1)),()),(v20,()))))else av ((x.1.2.1,()),(x.2.1,()))
def atW:KY 57 (aR f113):=⟨0,lB 0 ⟨vG,[(20000,.sl .dw 2)],[]⟩ [(2,⟨tP,[(20000,.sl .dw 2)],[]⟩)] Je,lp []⟩
def Co(D:aa bA)(E:Int):ah ((Int)×((aa bA)×af)):=bk Je (((),E,0,()),(D,())) λC=>some (C.1.1,(C.2.1,()))
def Jf:=jS [.s .dw 0,.v false .int] cq (br Co) 57 [] [atW] func113
abbrev af7:=((af×Int×Int×af)×((aa bV)×af))
def Jg(x:af7):ah (af7⊕(((Int×af)×((aa bV)×af))⊕Empty)):=letI C:=x.1.2.2.1;bif C<(x.2.1.length:Int)then xL x.2.1 C λE=>letI D:=x.2.1.set C.toNat (⟨x.1.2.1,E.eP⟩:bV);xL D C λL=>xG (((),(W6 ((W6 (x.1.2.1+1))+1)),(W6 (C+1)),()),((D.set C.toNat (⟨L.weight,(W6 (x.1.2.1+1))⟩:bV)),()))else av ((x.1.2.1,()),(x.2.1,()))
def atX:KY 27 (aR f114):=⟨0,lB 0 ⟨vG,[(20000,.sl .ef 2)],[]⟩ [(2,⟨tP,[(20000,.sl .ef 2)],[]⟩)] Jg,lp []⟩
def Cp(D:aa bV)(E:Int):ah ((Int)×((aa bV)×af)):=bk Jg (((),E,0,()),(D,())) λC=>some (C.1.1,(C.2.1,()))
def Jh:=jS [.s .ef 0,.v false .int] cq (br Cp) 27 [] [atX] func114
abbrev af8:=((af×Int×Int×af)×((aa bU)×af))
def Ji(x:af8):ah (af8⊕(((Int×af)×((aa bU)×af))⊕Empty)):=letI D:=W6 (x.1.2.1+1);letI C:=x.1.2.2.1;bif C<(x.2.1.length:Int)then xL x.2.1 C λE=>letI L:=x.2.1.set C.toNat (⟨x.1.2.1,E.code,E.times⟩:bU);xL L C λO=>letI T:=L.set C.toNat (⟨O.line,D,O.times⟩:bU);xL T C λU=>xG (((),(W6 ((W6 (D+1))+1)),(W6 (C+1)),()),((T.set C.toNat (⟨U.line,U.code,(W6 (D+1))⟩:bU)),()))else av ((x.1.2.1,()),(x.2.1,()))
def atY:KY 34 (aR f115):=⟨0,lB 0 ⟨vG,[(20000,.sl .eo 2)],[]⟩ [(2,⟨tP,[(20000,.sl .eo 2)],[]⟩)] Ji,lp []⟩
def Cq(D:aa bU)(E:Int):ah ((Int)×((aa bU)×af)):=bk Ji (((),E,0,()),(D,())) λC=>some (C.1.1,(C.2.1,()))
def Jj:=jS [.s .eo 0,.v false .int] cq (br Cq) 34 [] [atY] func115
abbrev af9:=((af×Int×Int×af)×((aa cP)×af))
def Jk(x:af9):ah (af9⊕(((Int×af)×((aa cP)×af))⊕Empty)):=letI U:=W6 ((W6 (x.1.2.1+1))+1);letI T:=W6 (U+1);letI C:=x.1.2.2.1;bif C<(x.2.1.length:Int)then xL x.2.1 C λe3=>letI Y:=x.2.1.set C.toNat (⟨x.1.2.1,e3.cmd⟩:cP);xL Y C λD=>letI Z:=Y.set C.toNat (⟨D.at_,⟨(W6 (x.1.2.1+1)),D.cmd.ay,D.cmd.row,D.cmd.bR⟩⟩:cP);xL Z C λE=>letI u1:=Z.set C.toNat (⟨E.at_,⟨E.cmd.kind,U,E.cmd.row,E.cmd.bR⟩⟩:cP);xL u1 C λL=>(jc (u1.set C.toNat (⟨L.at_,⟨L.cmd.kind,L.cmd.ay,T,L.cmd.bR⟩⟩:cP)) λCn=>xL Cn C λO=>xG (((),(W6 ((W6 (T+1))+1)),(W6 (C+1)),()),((Cn.set C.toNat (⟨O.at_,⟨O.cmd.kind,O.cmd.ay,O.cmd.row,(W6 (T+1))⟩⟩:cP)),())))else av ((x.1.2.1,()),(x.2.1,()))
def atZ:KY 52 (aR f116):=⟨0,lB 0 ⟨vG,[(20000,.sl .Event 2)],[]⟩ [(2,⟨tP,[(20000,.sl .Event 2)],[]⟩)] Jk,lp []⟩
def Cr(D:aa cP)(E:Int):ah ((Int)×((aa cP)×af)):=bk Jk (((),E,0,()),(D,())) λC=>some (C.1.1,(C.2.1,()))
def Jl:=jS [.s .Event 0,.v false .int] cq (br Cr) 52 [] [atZ] func116
abbrev aga:=((af×Int×Int×af)×((aa cX)×af))
def Jm(x:aga):ah (aga⊕(((Int×af)×((aa cX)×af))⊕Empty)):=letI D:=W6 ((W6 (x.1.2.1+1))+1);letI C:=x.1.2.2.1;bif C<(x.2.1.length:Int)then xL x.2.1 C λE=>letI U:=x.2.1.set C.toNat (⟨x.1.2.1,E.at_,E.data,E.code⟩:cX);xL U C λL=>letI Y:=U.set C.toNat (⟨L.id,(W6 (x.1.2.1+1)),L.data,L.code⟩:cX);xL Y C λO=>letI Z:=Y.set C.toNat (⟨O.id,O.at_,D,O.code⟩:cX);xL Z C λT=>(jc (Z.set C.toNat (⟨T.id,T.at_,T.data,(W6 (D+1))⟩:cX)) λCn=>xG (((),(W6 ((W6 (D+1))+1)),(W6 (C+1)),()),(Cn,())))else av ((x.1.2.1,()),(x.2.1,()))
def at0:KY 41 (aR f117):=⟨0,lB 0 ⟨vG,[(20000,.sl .gd 2)],[]⟩ [(2,⟨tP,[(20000,.sl .gd 2)],[]⟩)] Jm,lp []⟩
def Cs(D:aa cX)(E:Int):ah ((Int)×((aa cX)×af)):=bk Jm (((),E,0,()),(D,())) λC=>some (C.1.1,(C.2.1,()))
def Jo:=jS [.s .gd 0,.v false .int] cq (br Cs) 41 [] [at0] func117
def at1:enters Tryz.prog 13/\kA Tryz.prog 13 (cj Tryz.prog f13 3 [(104,.i (cj Tryz.prog f104 2 [(28,.i (cj Tryz.prog f28 1 [(111,.m iF)]))])),(105,.i (cj Tryz.prog f105 1 [(xO.f,xO.c)])),(106,.i (cj Tryz.prog f106 1 [(111,.m iF)])),(107,.i (cj Tryz.prog f107 1 [(111,.m iF),(xP.f,xP.c)])),(108,.i (cj Tryz.prog f108 1 [(111,.m iF)])),(109,.i (cj Tryz.prog f109 1 [(111,.m iF)])),(Jb.f,Jb.c),(111,.m iF),(Jd.f,Jd.c),(Jf.f,Jf.c),(Jh.f,Jh.c),(Jj.f,Jj.c),(Jl.f,Jl.c),(Jo.f,Jo.c)]):=su (qU 3 [(104,.i (cj Tryz.prog f104 2 [(28,.i (cj Tryz.prog f28 1 [(111,.m iF)]))])),(105,.i (cj Tryz.prog f105 1 [(xO.f,xO.c)])),(106,.i (cj Tryz.prog f106 1 [(111,.m iF)])),(107,.i (cj Tryz.prog f107 1 [(111,.m iF),(xP.f,xP.c)])),(108,.i (cj Tryz.prog f108 1 [(111,.m iF)])),(109,.i (cj Tryz.prog f109 1 [(111,.m iF)])),(Jb.f,Jb.c),(111,.m iF),(Jd.f,Jd.c),(Jf.f,Jf.c),(Jh.f,Jh.c),(Jj.f,Jj.c),(Jl.f,Jl.c),(Jo.f,Jo.c)] func13 ⟨atI,atK,atM,atP,atQ,atT,Jb.ok,zW,Jd.ok,Jf.ok,Jh.ok,Jj.ok,Jl.ok,Jo.ok,trivial⟩)
abbrev agb:=(((aa Int)×Int×Int×af)×(af))
def Jp(x:agb):ah (agb⊕(((Int×af)×(af))⊕(((Int×af)×(af))⊕Empty))):=bif x.1.2.2.1<(x.1.1.length:Int)then xI x.1.1 x.1.2.2.1 λC=>bif (C != x.1.2.1)then av (((-1),()),())else xG ((x.1.1,(W6 (x.1.2.1+1)),(W6 (x.1.2.2.1+1)),()),())else aQ ((x.1.2.1,()),())
def at2:KY 21 (aR f125):=⟨0,lB 0 Xx [(1,kE),(2,sx)] Jp,lp []⟩
def oW(C:aa Int)(D:Int):ah (Int):=bE Jp ((C,D,0,()),()) (λE=>some E.1.1) λL=>some L.1.1
def zX:=bT zP cq (br oW) 21 [] [at2] func125
def Qe(D:fz)(E:Int):ah (Int):=(oW D.weights E).bind λC=>bif C<0 then some (-1)else some C
def at3:=aM [(true,.lU),(false,.int)] cq (br Qe) 12 [zX] func249
def XR(C:gI)(L:Int):ah (Int):=(Qe C.bI L).bind λD=>bif D<0 then some (-1)else (Qe C.next D).bind λE=>bif E<0 then some (-1)else some E
def at4:=aM [(true,.jJ),(false,.int)] cq (br XR) 18 [at3] func118
abbrev agc:=(((aa cR)×Int×Int×af)×(af))
def Jq(x:agc):ah (agc⊕(((Int×af)×(af))⊕(((Int×af)×(af))⊕Empty))):=letI C:=x.1.2;bif C.2.1<(x.1.1.length:Int)then xI x.1.1 C.2.1 λD=>bif (!(D.open_==((C.1.tmod 3)==0)))then av (((-1),()),())else xI x.1.1 C.2.1 λE=>bif (E.row != (W6 (C.1+1)))then av (((-1),()),())else xG ((x.1.1,(W6 ((W6 (C.1+1))+1)),(W6 (C.2.1+1)),()),())else aQ ((C.1,()),())
def at5:KY 33 (aR f250):=⟨0,lB 0 ⟨[(0,.lf (.aF .fQ 0)),(1,tI),(5,tI)],[],[]⟩ [(1,kE),(2,sx)] Jq,lp []⟩
def Jr(C:aa cR)(D:Int):ah (Int):=bE Jq ((C,D,0,()),()) (λE=>some E.1.1) λL=>some L.1.1
def at6:=bT [(false,(.sl .fQ)),(false,.int)] cq (br Jr) 33 [] [at5] func250
def XS(D:cy)(E:Int):ah (Int):=(Jr D.aB E).bind λC=>bif C<0 then some (-1)else some C
def at7:=aM OX cq (br XS) 12 [at6] func119
def XT(C:dn)(L:Int):ah (Int):=(oW C.last L).bind λD=>bif D<0 then some (-1)else (oW C.bx D).bind λE=>bif E<0 then some (-1)else some E
def at8:=aM [(true,.ki),(false,.int)] cq (br XT) 18 [zX] func120
abbrev agd:=(((aa bK)×Int×Int×af)×(af))
def Js(x:agd):ah (agd⊕(((Int×af)×(af))⊕(((Int×af)×(af))⊕Empty))):=letI C:=x.1.2.2.1;bif C<(x.1.1.length:Int)then xI x.1.1 C λE=>(oW E.symbols x.1.2.1).bind λD=>bif D<0 then av (((-1),()),())else xI x.1.1 C λL=>bif (!(L.iy==((D.tmod 3)==0)))then av (((-1),()),())else xG ((x.1.1,(W6 (D+1)),(W6 (C+1)),()),())else aQ ((x.1.2.1,()),())
def at9:KY 33 (aR f251):=⟨0,lB 0 aeW [(1,kE),(2,sx)] Js,lp [zX]⟩
def Qf(C:aa bK)(D:Int):ah (Int):=bE Js ((C,D,0,()),()) (λE=>some E.1.1) λL=>some L.1.1
def aua:=bT [(false,(.sl .Cell)),(false,.int)] cq (br Qf) 33 [] [at9] func251
def XU(C:cZ)(O:Int):ah (Int):=(Qf C.cells O).bind λD=>bif D<0 then some (-1)else (oW C.bz D).bind λE=>bif E<0 then some (-1)else (oW C.bu E).bind λL=>bif L<0 then some (-1)else some L
def aub:=aM [(true,.Array),(false,.int)] cq (br XU) 24 [zX,aua] func121
end Go.Proofs.YtnilicojgkhpnaaGreat
