/-
  Functions of the program as plain functions of contents, and that the code computes them. Nothing here is a claim.
-/
import Derived.Test.YtnilicojgkhpnaaGreatVZ
import Derived.Test.YtnilicojgkhpnaaGreatRows
import Derived.Test.YtnilicojgkhpnaaGreatG1
import Derived.Test.YtnilicojgkhpnaaGreatG2
namespace Go.Proofs.YtnilicojgkhpnaaGreat
set_option linter.defProp false
open Go.RowKit Go.Proofs.Tryz
set_option linter.unusedVariables false
set_option maxRecDepth 100000
abbrev afV:=(((aa bA)×(aa bA)×Int×af)×(af))
def afW(x:afV):ah (afV⊕(((Bool×af)×(af))⊕(((af)×(af))⊕Empty))):=letI C:=x.1.2.2.1;bif C<(x.1.1.length:Int)then xI x.1.1 C λD=>xI x.1.2.1 C λE=>(I5 D E).bind λL=>bif (!L)then av ((false,()),())else xG ((x.1.1,x.1.2.1,(W6 (C+1)),()),())else aQ ((),())
def atq:KY 27 (aS f96):=⟨0,lB 0 ⟨[(0,.lf (.aF .dw 0)),(1,.lf (.aF .dw 0)),(5,tI)],[],[]⟩ [(1,gC),(2,fq)] afW,lp [atp]⟩
def P6(C D:aa bA):ah (Bool):=bif ((C.length:Int) != (D.length:Int))then some false else bE afW ((C,D,0,()),()) (λE=>some E.1.1) λL=>some true
def atr:=bT [(false,(.sl .dw)),(false,(.sl .dw))] bS (br P6) 27 [] [atq] func96
def I6(C D:bV):ah (Bool):=bif (C.weight != D.weight)then some false else bif (C.eP != D.eP)then some false else some true
def att:=aM [(true,.ef),(true,.ef)] bS (br I6) 15 [] func243
abbrev afX:=(((aa bV)×(aa bV)×Int×af)×(af))
def afY(x:afX):ah (afX⊕(((Bool×af)×(af))⊕(((af)×(af))⊕Empty))):=letI C:=x.1.2.2.1;bif C<(x.1.1.length:Int)then xI x.1.1 C λD=>xI x.1.2.1 C λE=>(I6 D E).bind λL=>bif (!L)then av ((false,()),())else xG ((x.1.1,x.1.2.1,(W6 (C+1)),()),())else aQ ((),())
def atu:KY 27 (aS f97):=⟨0,lB 0 ⟨[(0,.lf (.aF .ef 0)),(1,.lf (.aF .ef 0)),(5,tI)],[],[]⟩ [(1,gC),(2,fq)] afY,lp [att]⟩
def P7(C D:aa bV):ah (Bool):=bif ((C.length:Int) != (D.length:Int))then some false else bE afY ((C,D,0,()),()) (λE=>some E.1.1) λL=>some true
def atv:=bT [(false,(.sl .ef)),(false,(.sl .ef))] bS (br P7) 27 [] [atu] func97
def P8(C D:gB):ah (Bool):=bif (!(C.on==D.on))then some false else bif (C.low != D.low)then some false else bif (C.high != D.high)then some false else some true
def atw:=aM [(true,.kN),(true,.kN)] bS (br P8) 20 [] func98
def P9(C D:eE):ah (Bool):=bif (C.state != D.state)then some false else bif (C.since != D.since)then some false else bif (C.idle != D.idle)then some false else some true
def atx:=aM [(true,.Power),(true,.Power)] bS (br P9) 20 [] func99
def Qa(C D:kZ):ah (Bool):=bif (C.next != D.next)then some false else bif (C.every != D.every)then some false else bif (C.wait != D.wait)then some false else some true
def aty:=aM [(true,.nL),(true,.nL)] bS (br Qa) 20 [] func100
def I7(C D:bU):ah (Bool):=bif (C.line != D.line)then some false else bif (C.code != D.code)then some false else bif (C.times != D.times)then some false else some true
def atz:=aM [(true,.eo),(true,.eo)] bS (br I7) 20 [] func244
abbrev afZ:=(((aa bU)×(aa bU)×Int×af)×(af))
def af0(x:afZ):ah (afZ⊕(((Bool×af)×(af))⊕(((af)×(af))⊕Empty))):=letI C:=x.1.2.2.1;bif C<(x.1.1.length:Int)then xI x.1.1 C λD=>xI x.1.2.1 C λE=>(I7 D E).bind λL=>bif (!L)then av ((false,()),())else xG ((x.1.1,x.1.2.1,(W6 (C+1)),()),())else aQ ((),())
def atA:KY 27 (aS f101):=⟨0,lB 0 ⟨[(0,.lf (.aF .eo 0)),(1,.lf (.aF .eo 0)),(5,tI)],[],[]⟩ [(1,gC),(2,fq)] af0,lp [atz]⟩
def Qb(C D:aa bU):ah (Bool):=bif ((C.length:Int) != (D.length:Int))then some false else bE af0 ((C,D,0,()),()) (λE=>some E.1.1) λL=>some true
def atB:=bT [(false,(.sl .eo)),(false,(.sl .eo))] bS (br Qb) 27 [] [atA] func101
def Qc(C D:aG):ah (Bool):=bif (C.kind != D.kind)then some false else bif (C.ay != D.ay)then some false else bif (C.row != D.row)then some false else bif (C.bR != D.bR)then some false else some true
def atC:=aM [(true,.Command),(true,.Command)] bS (br Qc) 25 [] func366
def I8(C D:cO):ah (Bool):=bif (C.at_ != D.at_)then some false else (Qc C.cmd D.cmd).bind λE=>bif (!E)then some false else some true
def atD:=aM [(true,.Event),(true,.Event)] bS (br I8) 16 [atC] func245
abbrev af1:=(((aa cO)×(aa cO)×Int×af)×(af))
def af2(x:af1):ah (af1⊕(((Bool×af)×(af))⊕(((af)×(af))⊕Empty))):=letI C:=x.1.2.2.1;bif C<(x.1.1.length:Int)then xI x.1.1 C λD=>xI x.1.2.1 C λE=>(I8 D E).bind λL=>bif (!L)then av ((false,()),())else xG ((x.1.1,x.1.2.1,(W6 (C+1)),()),())else aQ ((),())
def atE:KY 27 (aS f102):=⟨0,lB 0 ⟨[(0,.lf (.aF .Event 0)),(1,.lf (.aF .Event 0)),(5,tI)],[],[]⟩ [(1,gC),(2,fq)] af2,lp [atD]⟩
def Qd(C D:aa cO):ah (Bool):=bif ((C.length:Int) != (D.length:Int))then some false else bE af2 ((C,D,0,()),()) (λE=>some E.1.1) λL=>some true
def atF:=bT [(false,(.sl .Event)),(false,(.sl .Event))] bS (br Qd) 27 [] [atE] func102
def I9(C D:cW):ah (Bool):=bif (C.id != D.id)then some false else bif (C.at_ != D.at_)then some false else bif (C.data != D.data)then some false else bif (C.code != D.code)then some false else some true
def atG:=aM [(true,.gd),(true,.gd)] bS (br I9) 25 [] func246
abbrev af3:=(((aa cW)×(aa cW)×Int×af)×(af))
def af4(x:af3):ah (af3⊕(((Bool×af)×(af))⊕(((af)×(af))⊕Empty))):=letI C:=x.1.2.2.1;bif C<(x.1.1.length:Int)then xI x.1.1 C λD=>xI x.1.2.1 C λE=>(I9 D E).bind λL=>bif (!L)then av ((false,()),())else xG ((x.1.1,x.1.2.1,(W6 (C+1)),()),())else aQ ((),())
def atH:KY 27 (aS f103):=⟨0,lB 0 ⟨[(0,.lf (.aF .gd 0)),(1,.lf (.aF .gd 0)),(5,tI)],[],[]⟩ [(1,gC),(2,fq)] af4,lp [atG]⟩
def Qe(C D:aa cW):ah (Bool):=bif ((C.length:Int) != (D.length:Int))then some false else bE af4 ((C,D,0,()),()) (λE=>some E.1.1) λL=>some true
def atI:=bT [(false,(.sl .gd)),(false,(.sl .gd))] bS (br Qe) 27 [] [atH] func103
def Cn(C D:ax):ah (Bool):=(PT C.config D.config).bind λE=>bif (!E)then some false else (PW C.box D.box).bind λL=>bif (!L)then some false else bif (C.now != D.now)then some false else (PY C.bq D.bq).bind λO=>bif (!O)then some false else (PZ C.ready D.ready).bind λT=>bif (!T)then some false else (P1 C.array D.array).bind λU=>bif (!U)then some false else (P2 C.spare D.spare).bind λY=>bif (!Y)then some false else (P3 C.aP D.aP).bind λZ=>bif (!Z)then some false else (P4 C.bH D.bH).bind λy8=>bif (!y8)then some false else (qa C.guard D.guard).bind λy9=>bif (!y9)then some false else (P5 C.pending D.pending).bind λgS=>bif (!gS)then some false else (P6 C.queue D.queue).bind λeM=>bif (!eM)then some false else (P7 C.shares D.shares).bind λgD=>bif (!gD)then some false else (P8 C.drain D.drain).bind λgT=>bif (!gT)then some false else (P9 C.aZ D.aZ).bind λjz=>bif (!jz)then some false else (Qa C.cK D.cK).bind λiE=>bif (!iE)then some false else (Qb C.errors D.errors).bind λkF=>bif (!kF)then some false else (Qd C.trace D.trace).bind λgN=>bif (!gN)then some false else (Qe C.cS D.cS).bind λjT=>bif (!jT)then some false else some true
def atJ:=aM [(true,.cN),(true,.cN)] bS (br Cn) 118 [as3,as7,atb,atc,atg,ath,ati,atl,zW,ato,atr,atv,atw,atx,aty,atB,atF,atI] func12
abbrev af5:=((af×Int×Int×af)×((aa Int)×af))
def Ja(x:af5):ah (af5⊕(((Int×af)×((aa Int)×af))⊕Empty)):=letI C:=x.1.2.2.1;bif C<(x.2.1.length:Int)then xL x.2.1 C λD=>xG (((),(W6 (x.1.2.1+1)),(W6 (C+1)),()),((x.2.1.set C.toNat x.1.2.1),()))else av ((x.1.2.1,()),(x.2.1,()))
def atK:KY 19 (aS f111):=⟨0,lB 0 ⟨vF,[(20000,.sl .int 2)],[]⟩ [(2,⟨tN,[(20000,.sl .int 2)],[]⟩)] Ja,lp []⟩
def gi(D:aa Int)(E:Int):ah ((Int)×((aa Int)×af)):=bh Ja (((),E,0,()),(D,())) λC=>some (C.1.1,(C.2.1,()))
def iF:nU:=⟨[.s .int 0,.v false .int],[(false,.int,0)],λx=>gi x.1 x.2.1⟩
def zX:enters Tryz.prog 111/\tj Tryz.prog 111 iF:=kn 19 [] [atK] func111
def atM:enters Tryz.prog 28/\kA Tryz.prog 28 (cj Tryz.prog f28 1 [(111,.m iF)]):=sq (qS 1 [(111,.m iF)] func28 ⟨zX,trivial⟩)
def atO:enters Tryz.prog 104/\kA Tryz.prog 104 (cj Tryz.prog f104 2 [(28,.i (cj Tryz.prog f28 1 [(111,.m iF)]))]):=sq (qS 2 [(28,.i (cj Tryz.prog f28 1 [(111,.m iF)]))] func104 ⟨atM,trivial⟩)
abbrev af6:=((af×Int×Int×af)×((aa cQ)×af))
def Jb(x:af6):ah (af6⊕(((Int×af)×((aa cQ)×af))⊕Empty)):=letI C:=x.1.2.2.1;bif C<(x.2.1.length:Int)then xL x.2.1 C λE=>letI D:=x.2.1.set C.toNat (⟨((x.1.2.1.tmod 3)==0),E.row⟩:cQ);xL D C λL=>xG (((),(W6 ((W6 (x.1.2.1+1))+1)),(W6 (C+1)),()),((D.set C.toNat (⟨L.open_,(W6 (x.1.2.1+1))⟩:cQ)),()))else av ((x.1.2.1,()),(x.2.1,()))
def atP:KY 29 (aS f247):=⟨0,lB 0 ⟨vF,[(20000,.sl .fQ 2)],[]⟩ [(2,⟨tN,[(20000,.sl .fQ 2)],[]⟩)] Jb,lp []⟩
def Co(D:aa cQ)(E:Int):ah ((Int)×((aa cQ)×af)):=bh Jb (((),E,0,()),(D,())) λC=>some (C.1.1,(C.2.1,()))
def xO:=jS [.s .fQ 0,.v false .int] cq (br Co) 29 [] [atP] func247
def atQ:enters Tryz.prog 105/\kA Tryz.prog 105 (cj Tryz.prog f105 1 [(xO.f,xO.c)]):=sq (qS 1 [(xO.f,xO.c)] func105 ⟨xO.ok,trivial⟩)
def atT:enters Tryz.prog 106/\kA Tryz.prog 106 (cj Tryz.prog f106 1 [(111,.m iF)]):=sq (qS 1 [(111,.m iF)] func106 ⟨zX,trivial⟩)
abbrev af7:=((af×Int×Int×af)×((aa bK)×af))
def Jc(x:af7):ah (af7⊕(((Int×af)×((aa bK)×af))⊕Empty)):=letI C:=x.1.2.2.1;bif C<(x.2.1.length:Int)then xL x.2.1 C λT=>xM x.2.1 C λE=>(gi E.symbols x.1.2.1).bind λD=>letI L:=x.2.1.set C.toNat (⟨D.2.1,E.iy⟩:bK);xL L C λO=>xG (((),(W6 (D.1+1)),(W6 (C+1)),()),((L.set C.toNat (⟨O.symbols,((D.1.tmod 3)==0)⟩:bK)),()))else av ((x.1.2.1,()),(x.2.1,()))
def atU:KY 29 (aS f248):=⟨0,lB 0 ⟨vF,[(20000,.sl .Cell 4)],[]⟩ [(2,⟨tN,[(20000,.sl .Cell 4)],[]⟩)] Jc,lp [⟨111,.d iF,zX⟩]⟩
def EM(D:aa bK)(E:Int):ah ((Int)×((aa bK)×af)):=bh Jc (((),E,0,()),(D,())) λC=>some (C.1.1,(C.2.1,()))
def xP:=jS [.s .Cell 2,.v false .int] cq (br EM) 29 [] [atU] func248
def atV:enters Tryz.prog 107/\kA Tryz.prog 107 (cj Tryz.prog f107 1 [(111,.m iF),(xP.f,xP.c)]):=sq (qS 1 [(111,.m iF),(xP.f,xP.c)] func107 ⟨zX,xP.ok,trivial⟩)
def atW:enters Tryz.prog 108/\kA Tryz.prog 108 (cj Tryz.prog f108 1 [(111,.m iF)]):=sq (qS 1 [(111,.m iF)] func108 ⟨zX,trivial⟩)
def atX:enters Tryz.prog 109/\kA Tryz.prog 109 (cj Tryz.prog f109 1 [(111,.m iF)]):=sq (qS 1 [(111,.m iF)] func109 ⟨zX,trivial⟩)
abbrev af8:=((af×Int×Int×af)×((aa bQ)×af))
def Jd(x:af8):ah (af8⊕(((Int×af)×((aa bQ)×af))⊕Empty)):=letI C:=x.1.2.2.1;bif C<(x.2.1.length:Int)then xL x.2.1 C λZ=>xM x.2.1 C λD=>(gi D.rows x.1.2.1).bind λT=>letI E:=x.2.1.set C.toNat (⟨T.2.1,D.counts,D.cY⟩:bQ);xL E C λe9=>xM E C λL=>(gi L.counts T.1).bind λO=>letI U:=E.set C.toNat (⟨L.rows,O.2.1,L.cY⟩:bQ);xL U C λY=>xG (((),(W6 (O.1+1)),(W6 (C+1)),()),((U.set C.toNat (⟨Y.rows,Y.counts,O.1⟩:bQ)),()))else av ((x.1.2.1,()),(x.2.1,()))
def atY:KY 34 (aS f110):=⟨0,lB 0 ⟨vF,[(20000,.sl .eR 4)],[]⟩ [(2,⟨tN,[(20000,.sl .eR 4)],[]⟩)] Jd,lp [⟨111,.d iF,zX⟩]⟩
def EN(D:aa bQ)(E:Int):ah ((Int)×((aa bQ)×af)):=bh Jd (((),E,0,()),(D,())) λC=>some (C.1.1,(C.2.1,()))
def Je:=jS [.s .eR 2,.v false .int] cq (br EN) 34 [] [atY] func110
abbrev af9:=((af×Int×Int×af)×((aa aI)×af))
def Jf(x:af9):ah (af9⊕(((Int×af)×((aa aI)×af))⊕Empty)):=letI D:=W6 (x.1.2.1+1);letI C:=x.1.2.2.1;bif C<(x.2.1.length:Int)then xL x.2.1 C λE=>letI L:=x.2.1.set C.toNat (⟨x.1.2.1,E.row,E.bR⟩:aI);xL L C λO=>letI T:=L.set C.toNat (⟨O.ay,D,O.bR⟩:aI);xL T C λU=>xG (((),(W6 ((W6 (D+1))+1)),(W6 (C+1)),()),((T.set C.toNat (⟨U.ay,U.row,(W6 (D+1))⟩:aI)),()))else av ((x.1.2.1,()),(x.2.1,()))
def atZ:KY 34 (aS f112):=⟨0,lB 0 ⟨vF,[(20000,.sl .Addr 2)],[]⟩ [(2,⟨tN,[(20000,.sl .Addr 2)],[]⟩)] Jf,lp []⟩
def Cp(D:aa aI)(E:Int):ah ((Int)×((aa aI)×af)):=bh Jf (((),E,0,()),(D,())) λC=>some (C.1.1,(C.2.1,()))
def Jg:=jS [.s .Addr 0,.v false .int] cq (br Cp) 34 [] [atZ] func112
abbrev aga:=((af×Int×Int×af)×((aa bA)×af))
def Jh(x:aga):ah (aga⊕(((Int×af)×((aa bA)×af))⊕Empty)):=letI C:=x.1.2.2.1;letI Y:=W6 ((W6 (x.1.2.1+1))+1);letI Z:=W6 ((W6 (Y+1))+1);bif C<(x.2.1.length:Int)then xL x.2.1 C λD=>letI u4:=x.2.1.set C.toNat (⟨x.1.2.1,D.dN,D.line,D.write,D.data,D.at_⟩:bA);xL u4 C λE=>letI u0:=u4.set C.toNat (⟨E.id,(W6 (x.1.2.1+1)),E.line,E.write,E.data,E.at_⟩:bA);xL u0 C λL=>letI u5:=u0.set C.toNat (⟨L.id,L.dN,Y,L.write,L.data,L.at_⟩:bA);xL u5 C λO=>(jb (u5.set C.toNat (⟨O.id,O.dN,O.line,(((W6 (Y+1)).tmod 3)==0),O.data,O.at_⟩:bA)) λCq=>xL Cq C λT=>letI u3:=Cq.set C.toNat (⟨T.id,T.dN,T.line,T.write,Z,T.at_⟩:bA);xL u3 C λU=>(jb (u3.set C.toNat (⟨U.id,U.dN,U.line,U.write,U.data,(W6 (Z+1))⟩:bA)) λv20=>xG (((),(W6 ((W6 (Z+1))+1)),(W6 (C+1)),()),(v20,()))))else av ((x.1.2.1,()),(x.2.1,()))
def at0:KY 57 (aS f113):=⟨0,lB 0 ⟨vF,[(20000,.sl .dw 2)],[]⟩ [(2,⟨tN,[(20000,.sl .dw 2)],[]⟩)] Jh,lp []⟩
def Cr(D:aa bA)(E:Int):ah ((Int)×((aa bA)×af)):=bh Jh (((),E,0,()),(D,())) λC=>some (C.1.1,(C.2.1,()))
def Ji:=jS [.s .dw 0,.v false .int] cq (br Cr) 57 [] [at0] func113
abbrev agb:=((af×Int×Int×af)×((aa bV)×af))
def Jj(x:agb):ah (agb⊕(((Int×af)×((aa bV)×af))⊕Empty)):=letI C:=x.1.2.2.1;bif C<(x.2.1.length:Int)then xL x.2.1 C λE=>letI D:=x.2.1.set C.toNat (⟨x.1.2.1,E.eP⟩:bV);xL D C λL=>xG (((),(W6 ((W6 (x.1.2.1+1))+1)),(W6 (C+1)),()),((D.set C.toNat (⟨L.weight,(W6 (x.1.2.1+1))⟩:bV)),()))else av ((x.1.2.1,()),(x.2.1,()))
def at1:KY 27 (aS f114):=⟨0,lB 0 ⟨vF,[(20000,.sl .ef 2)],[]⟩ [(2,⟨tN,[(20000,.sl .ef 2)],[]⟩)] Jj,lp []⟩
def Cs(D:aa bV)(E:Int):ah ((Int)×((aa bV)×af)):=bh Jj (((),E,0,()),(D,())) λC=>some (C.1.1,(C.2.1,()))
def Jk:=jS [.s .ef 0,.v false .int] cq (br Cs) 27 [] [at1] func114
abbrev agc:=((af×Int×Int×af)×((aa bU)×af))
def Jl(x:agc):ah (agc⊕(((Int×af)×((aa bU)×af))⊕Empty)):=letI D:=W6 (x.1.2.1+1);letI C:=x.1.2.2.1;bif C<(x.2.1.length:Int)then xL x.2.1 C λE=>letI L:=x.2.1.set C.toNat (⟨x.1.2.1,E.code,E.times⟩:bU);xL L C λO=>letI T:=L.set C.toNat (⟨O.line,D,O.times⟩:bU);xL T C λU=>xG (((),(W6 ((W6 (D+1))+1)),(W6 (C+1)),()),((T.set C.toNat (⟨U.line,U.code,(W6 (D+1))⟩:bU)),()))else av ((x.1.2.1,()),(x.2.1,()))
def at2:KY 34 (aS f115):=⟨0,lB 0 ⟨vF,[(20000,.sl .eo 2)],[]⟩ [(2,⟨tN,[(20000,.sl .eo 2)],[]⟩)] Jl,lp []⟩
def Ct(D:aa bU)(E:Int):ah ((Int)×((aa bU)×af)):=bh Jl (((),E,0,()),(D,())) λC=>some (C.1.1,(C.2.1,()))
def Jm:=jS [.s .eo 0,.v false .int] cq (br Ct) 34 [] [at2] func115
abbrev agd:=((af×Int×Int×af)×((aa cO)×af))
def Jo(x:agd):ah (agd⊕(((Int×af)×((aa cO)×af))⊕Empty)):=letI U:=W6 ((W6 (x.1.2.1+1))+1);letI T:=W6 (U+1);letI C:=x.1.2.2.1;bif C<(x.2.1.length:Int)then xL x.2.1 C λe3=>letI Y:=x.2.1.set C.toNat (⟨x.1.2.1,e3.cmd⟩:cO);xL Y C λD=>letI Z:=Y.set C.toNat (⟨D.at_,⟨(W6 (x.1.2.1+1)),D.cmd.ay,D.cmd.row,D.cmd.bR⟩⟩:cO);xL Z C λE=>letI u1:=Z.set C.toNat (⟨E.at_,⟨E.cmd.kind,U,E.cmd.row,E.cmd.bR⟩⟩:cO);xL u1 C λL=>(jb (u1.set C.toNat (⟨L.at_,⟨L.cmd.kind,L.cmd.ay,T,L.cmd.bR⟩⟩:cO)) λCq=>xL Cq C λO=>xG (((),(W6 ((W6 (T+1))+1)),(W6 (C+1)),()),((Cq.set C.toNat (⟨O.at_,⟨O.cmd.kind,O.cmd.ay,O.cmd.row,(W6 (T+1))⟩⟩:cO)),())))else av ((x.1.2.1,()),(x.2.1,()))
def at3:KY 52 (aS f116):=⟨0,lB 0 ⟨vF,[(20000,.sl .Event 2)],[]⟩ [(2,⟨tN,[(20000,.sl .Event 2)],[]⟩)] Jo,lp []⟩
def Cu(D:aa cO)(E:Int):ah ((Int)×((aa cO)×af)):=bh Jo (((),E,0,()),(D,())) λC=>some (C.1.1,(C.2.1,()))
def Jp:=jS [.s .Event 0,.v false .int] cq (br Cu) 52 [] [at3] func116
abbrev agf:=((af×Int×Int×af)×((aa cW)×af))
def Jq(x:agf):ah (agf⊕(((Int×af)×((aa cW)×af))⊕Empty)):=letI D:=W6 ((W6 (x.1.2.1+1))+1);letI C:=x.1.2.2.1;bif C<(x.2.1.length:Int)then xL x.2.1 C λE=>letI U:=x.2.1.set C.toNat (⟨x.1.2.1,E.at_,E.data,E.code⟩:cW);xL U C λL=>letI Y:=U.set C.toNat (⟨L.id,(W6 (x.1.2.1+1)),L.data,L.code⟩:cW);xL Y C λO=>letI Z:=Y.set C.toNat (⟨O.id,O.at_,D,O.code⟩:cW);xL Z C λT=>(jb (Z.set C.toNat (⟨T.id,T.at_,T.data,(W6 (D+1))⟩:cW)) λCq=>xG (((),(W6 ((W6 (D+1))+1)),(W6 (C+1)),()),(Cq,())))else av ((x.1.2.1,()),(x.2.1,()))
def at4:KY 41 (aS f117):=⟨0,lB 0 ⟨vF,[(20000,.sl .gd 2)],[]⟩ [(2,⟨tN,[(20000,.sl .gd 2)],[]⟩)] Jq,lp []⟩
def Cv(D:aa cW)(E:Int):ah ((Int)×((aa cW)×af)):=bh Jq (((),E,0,()),(D,())) λC=>some (C.1.1,(C.2.1,()))
def Jr:=jS [.s .gd 0,.v false .int] cq (br Cv) 41 [] [at4] func117
def at5:enters Tryz.prog 13/\kA Tryz.prog 13 (cj Tryz.prog f13 3 [(104,.i (cj Tryz.prog f104 2 [(28,.i (cj Tryz.prog f28 1 [(111,.m iF)]))])),(105,.i (cj Tryz.prog f105 1 [(xO.f,xO.c)])),(106,.i (cj Tryz.prog f106 1 [(111,.m iF)])),(107,.i (cj Tryz.prog f107 1 [(111,.m iF),(xP.f,xP.c)])),(108,.i (cj Tryz.prog f108 1 [(111,.m iF)])),(109,.i (cj Tryz.prog f109 1 [(111,.m iF)])),(Je.f,Je.c),(111,.m iF),(Jg.f,Jg.c),(Ji.f,Ji.c),(Jk.f,Jk.c),(Jm.f,Jm.c),(Jp.f,Jp.c),(Jr.f,Jr.c)]):=sq (qS 3 [(104,.i (cj Tryz.prog f104 2 [(28,.i (cj Tryz.prog f28 1 [(111,.m iF)]))])),(105,.i (cj Tryz.prog f105 1 [(xO.f,xO.c)])),(106,.i (cj Tryz.prog f106 1 [(111,.m iF)])),(107,.i (cj Tryz.prog f107 1 [(111,.m iF),(xP.f,xP.c)])),(108,.i (cj Tryz.prog f108 1 [(111,.m iF)])),(109,.i (cj Tryz.prog f109 1 [(111,.m iF)])),(Je.f,Je.c),(111,.m iF),(Jg.f,Jg.c),(Ji.f,Ji.c),(Jk.f,Jk.c),(Jm.f,Jm.c),(Jp.f,Jp.c),(Jr.f,Jr.c)] func13 ⟨atO,atQ,atT,atV,atW,atX,Je.ok,zX,Jg.ok,Ji.ok,Jk.ok,Jm.ok,Jp.ok,Jr.ok,trivial⟩)
abbrev agh:=(((aa Int)×Int×Int×af)×(af))
def Js(x:agh):ah (agh⊕(((Int×af)×(af))⊕(((Int×af)×(af))⊕Empty))):=bif x.1.2.2.1<(x.1.1.length:Int)then xI x.1.1 x.1.2.2.1 λC=>bif (C != x.1.2.1)then av (((-1),()),())else xG ((x.1.1,(W6 (x.1.2.1+1)),(W6 (x.1.2.2.1+1)),()),())else aQ ((x.1.2.1,()),())
def at6:KY 21 (aS f125):=⟨0,lB 0 Xz [(1,kE),(2,su)] Js,lp []⟩
def oV(C:aa Int)(D:Int):ah (Int):=bE Js ((C,D,0,()),()) (λE=>some E.1.1) λL=>some L.1.1
def zY:=bT zR cq (br oV) 21 [] [at6] func125
def Qf(D:fz)(E:Int):ah (Int):=(oV D.weights E).bind λC=>bif C<0 then some (-1)else some C
def at7:=aM [(true,.lU),(false,.int)] cq (br Qf) 12 [zY] func249
def XR(C:gJ)(L:Int):ah (Int):=(Qf C.bI L).bind λD=>bif D<0 then some (-1)else (Qf C.next D).bind λE=>bif E<0 then some (-1)else some E
def at8:=aM [(true,.jJ),(false,.int)] cq (br XR) 18 [at7] func118
abbrev agi:=(((aa cQ)×Int×Int×af)×(af))
def Jt(x:agi):ah (agi⊕(((Int×af)×(af))⊕(((Int×af)×(af))⊕Empty))):=letI C:=x.1.2;bif C.2.1<(x.1.1.length:Int)then xI x.1.1 C.2.1 λD=>bif (!(D.open_==((C.1.tmod 3)==0)))then av (((-1),()),())else xI x.1.1 C.2.1 λE=>bif (E.row != (W6 (C.1+1)))then av (((-1),()),())else xG ((x.1.1,(W6 ((W6 (C.1+1))+1)),(W6 (C.2.1+1)),()),())else aQ ((C.1,()),())
def at9:KY 33 (aS f250):=⟨0,lB 0 ⟨[(0,.lf (.aF .fQ 0)),(1,tI),(5,tI)],[],[]⟩ [(1,kE),(2,su)] Jt,lp []⟩
def Ju(C:aa cQ)(D:Int):ah (Int):=bE Jt ((C,D,0,()),()) (λE=>some E.1.1) λL=>some L.1.1
def aua:=bT [(false,(.sl .fQ)),(false,.int)] cq (br Ju) 33 [] [at9] func250
def XS(D:cy)(E:Int):ah (Int):=(Ju D.aB E).bind λC=>bif C<0 then some (-1)else some C
def aub:=aM OY cq (br XS) 12 [aua] func119
def XT(C:dn)(L:Int):ah (Int):=(oV C.last L).bind λD=>bif D<0 then some (-1)else (oV C.bx D).bind λE=>bif E<0 then some (-1)else some E
def auc:=aM [(true,.ki),(false,.int)] cq (br XT) 18 [zY] func120
abbrev agj:=(((aa bK)×Int×Int×af)×(af))
def Jv(x:agj):ah (agj⊕(((Int×af)×(af))⊕(((Int×af)×(af))⊕Empty))):=letI C:=x.1.2.2.1;bif C<(x.1.1.length:Int)then xI x.1.1 C λE=>(oV E.symbols x.1.2.1).bind λD=>bif D<0 then av (((-1),()),())else xI x.1.1 C λL=>bif (!(L.iy==((D.tmod 3)==0)))then av (((-1),()),())else xG ((x.1.1,(W6 (D+1)),(W6 (C+1)),()),())else aQ ((x.1.2.1,()),())
def aud:KY 33 (aS f251):=⟨0,lB 0 aeY [(1,kE),(2,su)] Jv,lp [zY]⟩
def Qg(C:aa bK)(D:Int):ah (Int):=bE Jv ((C,D,0,()),()) (λE=>some E.1.1) λL=>some L.1.1
def aue:=bT [(false,(.sl .Cell)),(false,.int)] cq (br Qg) 33 [] [aud] func251
def XU(C:cZ)(O:Int):ah (Int):=(Qg C.cells O).bind λD=>bif D<0 then some (-1)else (oV C.bz D).bind λE=>bif E<0 then some (-1)else (oV C.bu E).bind λL=>bif L<0 then some (-1)else some L
def auf:=aM [(true,.Array),(false,.int)] cq (br XU) 24 [zY,aue] func121
end Go.Proofs.YtnilicojgkhpnaaGreat
