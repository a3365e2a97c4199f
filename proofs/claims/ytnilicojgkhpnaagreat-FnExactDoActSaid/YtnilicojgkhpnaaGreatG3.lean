/-
  Functions of the program as plain functions of contents, and that the code computes them. Nothing here is a claim.
-/
import Derived.Test.YtnilicojgkhpnaaGreatVZ
import Derived.Test.YtnilicojgkhpnaaGreatRows
import Derived.Test.YtnilicojgkhpnaaGreatG1
import Derived.Test.YtnilicojgkhpnaaGreatG2
namespace Go.Proofs.YtnilicojgkhpnaaGreat
set_option linter.defProp false
open Go.RowKit Go.Proofs.Tryz
set_option linter.unusedVariables false
set_option maxRecDepth 100000
abbrev ahB:=(((aa aK)×(aa aK)×Int×af)×(af))
def ahC(x:ahB):ah (ahB⊕(((Bool×af)×(af))⊕(((af)×(af))⊕Empty))):=letI C:=x.1.2.2.1;bif C<(x.1.1.length:Int)then xI x.1.1 C λD=>xI x.1.2.1 C λE=>(FB D E).bind λL=>bif (!L)then av ((false,()),())else xG ((x.1.1,x.1.2.1,(W6 (C+1)),()),())else aQ ((),())
def avp:KY 27 (aW f96):=⟨0,lB 0 ⟨[(0,.lf (.aF .cW 0)),(1,.lf (.aF .cW 0)),(5,tI)],[],[]⟩ [(1,gR),(2,fq)] ahC,lp [ahA]⟩
def Rs(C D:aa aK):ah (Bool):=bif ((C.length:Int) != (D.length:Int))then some false else bE ahC ((C,D,0,()),()) (λE=>some E.1.1) λL=>some true
def avq:=bS [(false,(.sl .cW)),(false,(.sl .cW))] bR (bq Rs) 27 [] [avp] func96
def J0(C D:bY):ah (Bool):=bif (C.weight != D.weight)then some false else bif (C.ff != D.ff)then some false else some true
def avr:=aP [(true,.eC),(true,.eC)] bR (bq J0) 15 [] func243
abbrev ahD:=(((aa bY)×(aa bY)×Int×af)×(af))
def ahE(x:ahD):ah (ahD⊕(((Bool×af)×(af))⊕(((af)×(af))⊕Empty))):=letI C:=x.1.2.2.1;bif C<(x.1.1.length:Int)then xI x.1.1 C λD=>xI x.1.2.1 C λE=>(J0 D E).bind λL=>bif (!L)then av ((false,()),())else xG ((x.1.1,x.1.2.1,(W6 (C+1)),()),())else aQ ((),())
def avs:KY 27 (aW f97):=⟨0,lB 0 ⟨[(0,.lf (.aF .eC 0)),(1,.lf (.aF .eC 0)),(5,tI)],[],[]⟩ [(1,gR),(2,fq)] ahE,lp [avr]⟩
def Rt(C D:aa bY):ah (Bool):=bif ((C.length:Int) != (D.length:Int))then some false else bE ahE ((C,D,0,()),()) (λE=>some E.1.1) λL=>some true
def avt:=bS [(false,(.sl .eC)),(false,(.sl .eC))] bR (bq Rt) 27 [] [avs] func97
def Ru(C D:gP):ah (Bool):=bif (!(C.on==D.on))then some false else bif (C.low != D.low)then some false else bif (C.high != D.high)then some false else some true
def avu:=aP [(true,.lD),(true,.lD)] bR (bq Ru) 20 [] func98
def Rv(C D:eN):ah (Bool):=bif (C.state != D.state)then some false else bif (C.since != D.since)then some false else bif (C.idle != D.idle)then some false else some true
def avv:=aP [(true,.Power),(true,.Power)] bR (bq Rv) 20 [] func99
def Rw(C D:lV):ah (Bool):=bif (C.next != D.next)then some false else bif (C.every != D.every)then some false else bif (C.wait != D.wait)then some false else some true
def avw:=aP [(true,.oa),(true,.oa)] bR (bq Rw) 20 [] func100
def J1(C D:bW):ah (Bool):=bif (C.line != D.line)then some false else bif (C.code != D.code)then some false else bif (C.times != D.times)then some false else some true
def avx:=aP [(true,.eH),(true,.eH)] bR (bq J1) 20 [] func244
abbrev ahF:=(((aa bW)×(aa bW)×Int×af)×(af))
def ahG(x:ahF):ah (ahF⊕(((Bool×af)×(af))⊕(((af)×(af))⊕Empty))):=letI C:=x.1.2.2.1;bif C<(x.1.1.length:Int)then xI x.1.1 C λD=>xI x.1.2.1 C λE=>(J1 D E).bind λL=>bif (!L)then av ((false,()),())else xG ((x.1.1,x.1.2.1,(W6 (C+1)),()),())else aQ ((),())
def avy:KY 27 (aW f101):=⟨0,lB 0 ⟨[(0,.lf (.aF .eH 0)),(1,.lf (.aF .eH 0)),(5,tI)],[],[]⟩ [(1,gR),(2,fq)] ahG,lp [avx]⟩
def Rx(C D:aa bW):ah (Bool):=bif ((C.length:Int) != (D.length:Int))then some false else bE ahG ((C,D,0,()),()) (λE=>some E.1.1) λL=>some true
def avz:=bS [(false,(.sl .eH)),(false,(.sl .eH))] bR (bq Rx) 27 [] [avy] func101
def Ry(C D:aG):ah (Bool):=bif (C.kind != D.kind)then some false else bif (C.ay != D.ay)then some false else bif (C.row != D.row)then some false else bif (C.bT != D.bT)then some false else some true
def avA:=aP [(true,.Command),(true,.Command)] bR (bq Ry) 25 [] func366
def J2(C D:c8):ah (Bool):=bif (C.at_ != D.at_)then some false else (Ry C.cmd D.cmd).bind λE=>bif (!E)then some false else some true
def avB:=aP [(true,.Event),(true,.Event)] bR (bq J2) 16 [avA] func245
abbrev ahH:=(((aa c8)×(aa c8)×Int×af)×(af))
def ahI(x:ahH):ah (ahH⊕(((Bool×af)×(af))⊕(((af)×(af))⊕Empty))):=letI C:=x.1.2.2.1;bif C<(x.1.1.length:Int)then xI x.1.1 C λD=>xI x.1.2.1 C λE=>(J2 D E).bind λL=>bif (!L)then av ((false,()),())else xG ((x.1.1,x.1.2.1,(W6 (C+1)),()),())else aQ ((),())
def avC:KY 27 (aW f102):=⟨0,lB 0 ⟨[(0,.lf (.aF .Event 0)),(1,.lf (.aF .Event 0)),(5,tI)],[],[]⟩ [(1,gR),(2,fq)] ahI,lp [avB]⟩
def Rz(C D:aa c8):ah (Bool):=bif ((C.length:Int) != (D.length:Int))then some false else bE ahI ((C,D,0,()),()) (λE=>some E.1.1) λL=>some true
def avD:=bS [(false,(.sl .Event)),(false,(.sl .Event))] bR (bq Rz) 27 [] [avC] func102
def J3(C D:cE):ah (Bool):=bif (C.id != D.id)then some false else bif (C.at_ != D.at_)then some false else bif (C.data != D.data)then some false else bif (C.code != D.code)then some false else some true
def avE:=aP [(true,.fV),(true,.fV)] bR (bq J3) 25 [] func246
abbrev ahJ:=(((aa cE)×(aa cE)×Int×af)×(af))
def ahK(x:ahJ):ah (ahJ⊕(((Bool×af)×(af))⊕(((af)×(af))⊕Empty))):=letI C:=x.1.2.2.1;bif C<(x.1.1.length:Int)then xI x.1.1 C λD=>xI x.1.2.1 C λE=>(J3 D E).bind λL=>bif (!L)then av ((false,()),())else xG ((x.1.1,x.1.2.1,(W6 (C+1)),()),())else aQ ((),())
def avF:KY 27 (aW f103):=⟨0,lB 0 ⟨[(0,.lf (.aF .fV 0)),(1,.lf (.aF .fV 0)),(5,tI)],[],[]⟩ [(1,gR),(2,fq)] ahK,lp [avE]⟩
def RB(C D:aa cE):ah (Bool):=bif ((C.length:Int) != (D.length:Int))then some false else bE ahK ((C,D,0,()),()) (λE=>some E.1.1) λL=>some true
def avG:=bS [(false,(.sl .fV)),(false,(.sl .fV))] bR (bq RB) 27 [] [avF] func103
def CQ(C D:ax):ah (Bool):=(Rd C.config D.config).bind λE=>bif (!E)then some false else (Rf C.box D.box).bind λL=>bif (!L)then some false else bif (C.now != D.now)then some false else (Rh C.br D.br).bind λO=>bif (!O)then some false else (Ri C.ready D.ready).bind λT=>bif (!T)then some false else (Rk C.array D.array).bind λU=>bif (!U)then some false else (Ro C.spare D.spare).bind λY=>bif (!Y)then some false else (Rp C.aV D.aV).bind λZ=>bif (!Z)then some false else (Rq C.bJ D.bJ).bind λy8=>bif (!y8)then some false else (qB C.guard D.guard).bind λy9=>bif (!y9)then some false else (Rr C.pending D.pending).bind λgS=>bif (!gS)then some false else (Rs C.queue D.queue).bind λeP=>bif (!eP)then some false else (Rt C.shares D.shares).bind λgC=>bif (!gC)then some false else (Ru C.drain D.drain).bind λgD=>bif (!gD)then some false else (Rv C.bf D.bf).bind λiV=>bif (!iV)then some false else (Rw C.cH D.cH).bind λig=>bif (!ig)then some false else (Rx C.errors D.errors).bind λjH=>bif (!jH)then some false else (Rz C.trace D.trace).bind λhG=>bif (!hG)then some false else (RB C.cy D.cy).bind λkD=>bif (!kD)then some false else some true
def avH:=aP [(true,.cN),(true,.cN)] bR (bq CQ) 118 [au5,au8,avc,avd,avh,avi,avj,avm,An,avo,avq,avt,avu,avv,avw,avz,avD,avG] func12
abbrev ahL:=((af×Int×Int×af)×((aa Int)×af))
def J4(x:ahL):ah (ahL⊕(((Int×af)×((aa Int)×af))⊕Empty)):=letI C:=x.1.2.2.1;bif C<(x.2.1.length:Int)then xL x.2.1 C λD=>xG (((),(W6 (x.1.2.1+1)),(W6 (C+1)),()),((x.2.1.set C.toNat x.1.2.1),()))else av ((x.1.2.1,()),(x.2.1,()))
def avI:KY 19 (aW f111):=⟨0,lB 0 ⟨v7,[(20000,.sl .int 2)],[]⟩ [(2,⟨uf,[(20000,.sl .int 2)],[]⟩)] J4,lp []⟩
def gx(D:aa Int)(E:Int):ah ((Int)×((aa Int)×af)):=bk J4 (((),E,0,()),(D,())) λC=>some (C.1.1,(C.2.1,()))
def iC:ou:=⟨[.s .int 0,.v false .int],[(false,.int,0)],λx=>gx x.1 x.2.1⟩
def Ao:enters Tryz.prog 111/\tO Tryz.prog 111 iC:=kn 19 [] [avI] func111
def ahM:enters Tryz.prog 28/\jR Tryz.prog 28 (cj Tryz.prog f28 1 [(111,.m iC)]):=qy (pP 1 [(111,.m iC)] func28 ⟨Ao,trivial⟩)
def avJ:enters Tryz.prog 104/\jR Tryz.prog 104 (cj Tryz.prog f104 2 [(28,.i (cj Tryz.prog f28 1 [(111,.m iC)]))]):=qy (pP 2 [(28,.i (cj Tryz.prog f28 1 [(111,.m iC)]))] func104 ⟨ahM,trivial⟩)
abbrev ahN:=((af×Int×Int×af)×((aa c9)×af))
def J5(x:ahN):ah (ahN⊕(((Int×af)×((aa c9)×af))⊕Empty)):=letI C:=x.1.2.2.1;bif C<(x.2.1.length:Int)then xL x.2.1 C λE=>letI D:=x.2.1.set C.toNat (⟨((x.1.2.1.tmod 3)==0),E.row⟩:c9);xL D C λL=>xG (((),(W6 ((W6 (x.1.2.1+1))+1)),(W6 (C+1)),()),((D.set C.toNat (⟨L.open_,(W6 (x.1.2.1+1))⟩:c9)),()))else av ((x.1.2.1,()),(x.2.1,()))
def avK:KY 29 (aW f247):=⟨0,lB 0 ⟨v7,[(20000,.sl .gi 2)],[]⟩ [(2,⟨uf,[(20000,.sl .gi 2)],[]⟩)] J5,lp []⟩
def CR(D:aa c9)(E:Int):ah ((Int)×((aa c9)×af)):=bk J5 (((),E,0,()),(D,())) λC=>some (C.1.1,(C.2.1,()))
def ya:=je [.s .gi 0,.v false .int] cm (bq CR) 29 [] [avK] func247
def avL:enters Tryz.prog 105/\jR Tryz.prog 105 (cj Tryz.prog f105 1 [(ya.f,ya.c)]):=qy (pP 1 [(ya.f,ya.c)] func105 ⟨ya.ok,trivial⟩)
def avM:enters Tryz.prog 106/\jR Tryz.prog 106 (cj Tryz.prog f106 1 [(111,.m iC)]):=qy (pP 1 [(111,.m iC)] func106 ⟨Ao,trivial⟩)
abbrev ahO:=((af×Int×Int×af)×((aa bP)×af))
def J6(x:ahO):ah (ahO⊕(((Int×af)×((aa bP)×af))⊕Empty)):=letI C:=x.1.2.2.1;bif C<(x.2.1.length:Int)then xL x.2.1 C λT=>xM x.2.1 C λE=>(gx E.symbols x.1.2.1).bind λD=>letI L:=x.2.1.set C.toNat (⟨D.2.1,E.gO⟩:bP);xL L C λO=>xG (((),(W6 (D.1+1)),(W6 (C+1)),()),((L.set C.toNat (⟨O.symbols,((D.1.tmod 3)==0)⟩:bP)),()))else av ((x.1.2.1,()),(x.2.1,()))
def avN:KY 29 (aW f248):=⟨0,lB 0 ⟨v7,[(20000,.sl .Cell 4)],[]⟩ [(2,⟨uf,[(20000,.sl .Cell 4)],[]⟩)] J6,lp [⟨111,.d iC,Ao⟩]⟩
def FC(D:aa bP)(E:Int):ah ((Int)×((aa bP)×af)):=bk J6 (((),E,0,()),(D,())) λC=>some (C.1.1,(C.2.1,()))
def yb:=je [.s .Cell 2,.v false .int] cm (bq FC) 29 [] [avN] func248
def avO:enters Tryz.prog 107/\jR Tryz.prog 107 (cj Tryz.prog f107 1 [(111,.m iC),(yb.f,yb.c)]):=qy (pP 1 [(111,.m iC),(yb.f,yb.c)] func107 ⟨Ao,yb.ok,trivial⟩)
def avP:enters Tryz.prog 108/\jR Tryz.prog 108 (cj Tryz.prog f108 1 [(111,.m iC)]):=qy (pP 1 [(111,.m iC)] func108 ⟨Ao,trivial⟩)
def avQ:enters Tryz.prog 109/\jR Tryz.prog 109 (cj Tryz.prog f109 1 [(111,.m iC)]):=qy (pP 1 [(111,.m iC)] func109 ⟨Ao,trivial⟩)
abbrev ahP:=((af×Int×Int×af)×((aa bV)×af))
def J7(x:ahP):ah (ahP⊕(((Int×af)×((aa bV)×af))⊕Empty)):=letI C:=x.1.2.2.1;bif C<(x.2.1.length:Int)then xL x.2.1 C λZ=>xM x.2.1 C λD=>(gx D.rows x.1.2.1).bind λT=>letI E:=x.2.1.set C.toNat (⟨T.2.1,D.counts,D.dg⟩:bV);xL E C λe9=>xM E C λL=>(gx L.counts T.1).bind λO=>letI U:=E.set C.toNat (⟨L.rows,O.2.1,L.dg⟩:bV);xL U C λY=>xG (((),(W6 (O.1+1)),(W6 (C+1)),()),((U.set C.toNat (⟨Y.rows,Y.counts,O.1⟩:bV)),()))else av ((x.1.2.1,()),(x.2.1,()))
def avR:KY 34 (aW f110):=⟨0,lB 0 ⟨v7,[(20000,.sl .fj 4)],[]⟩ [(2,⟨uf,[(20000,.sl .fj 4)],[]⟩)] J7,lp [⟨111,.d iC,Ao⟩]⟩
def FD(D:aa bV)(E:Int):ah ((Int)×((aa bV)×af)):=bk J7 (((),E,0,()),(D,())) λC=>some (C.1.1,(C.2.1,()))
def J8:=je [.s .fj 2,.v false .int] cm (bq FD) 34 [] [avR] func110
abbrev ahQ:=((af×Int×Int×af)×((aa aJ)×af))
def J9(x:ahQ):ah (ahQ⊕(((Int×af)×((aa aJ)×af))⊕Empty)):=letI D:=W6 (x.1.2.1+1);letI C:=x.1.2.2.1;bif C<(x.2.1.length:Int)then xL x.2.1 C λE=>letI L:=x.2.1.set C.toNat (⟨x.1.2.1,E.row,E.bT⟩:aJ);xL L C λO=>letI T:=L.set C.toNat (⟨O.ay,D,O.bT⟩:aJ);xL T C λU=>xG (((),(W6 ((W6 (D+1))+1)),(W6 (C+1)),()),((T.set C.toNat (⟨U.ay,U.row,(W6 (D+1))⟩:aJ)),()))else av ((x.1.2.1,()),(x.2.1,()))
def avS:KY 34 (aW f112):=⟨0,lB 0 ⟨v7,[(20000,.sl .Addr 2)],[]⟩ [(2,⟨uf,[(20000,.sl .Addr 2)],[]⟩)] J9,lp []⟩
def CS(D:aa aJ)(E:Int):ah ((Int)×((aa aJ)×af)):=bk J9 (((),E,0,()),(D,())) λC=>some (C.1.1,(C.2.1,()))
def Ka:=je [.s .Addr 0,.v false .int] cm (bq CS) 34 [] [avS] func112
abbrev ahR:=((af×Int×Int×af)×((aa aK)×af))
def Kb(x:ahR):ah (ahR⊕(((Int×af)×((aa aK)×af))⊕Empty)):=letI C:=x.1.2.2.1;letI Y:=W6 ((W6 (x.1.2.1+1))+1);letI Z:=W6 ((W6 (Y+1))+1);bif C<(x.2.1.length:Int)then xL x.2.1 C λD=>letI u4:=x.2.1.set C.toNat (⟨x.1.2.1,D.dm,D.line,D.write,D.data,D.at_⟩:aK);xL u4 C λE=>letI u0:=u4.set C.toNat (⟨E.id,(W6 (x.1.2.1+1)),E.line,E.write,E.data,E.at_⟩:aK);xL u0 C λL=>letI u5:=u0.set C.toNat (⟨L.id,L.dm,Y,L.write,L.data,L.at_⟩:aK);xL u5 C λO=>(ju (u5.set C.toNat (⟨O.id,O.dm,O.line,(((W6 (Y+1)).tmod 3)==0),O.data,O.at_⟩:aK)) λCT=>xL CT C λT=>letI u3:=CT.set C.toNat (⟨T.id,T.dm,T.line,T.write,Z,T.at_⟩:aK);xL u3 C λU=>(ju (u3.set C.toNat (⟨U.id,U.dm,U.line,U.write,U.data,(W6 (Z+1))⟩:aK)) λv20=>xG (((),(W6 ((W6 (Z+1))+1)),(W6 (C+1)),()),(v20,()))))else av ((x.1.2.1,()),(x.2.1,()))
def avT:KY 57 (aW f113):=⟨0,lB 0 ⟨v7,[(20000,.sl .cW 2)],[]⟩ [(2,⟨uf,[(20000,.sl .cW 2)],[]⟩)] Kb,lp []⟩
def CU(D:aa aK)(E:Int):ah ((Int)×((aa aK)×af)):=bk Kb (((),E,0,()),(D,())) λC=>some (C.1.1,(C.2.1,()))
def Kc:=je [.s .cW 0,.v false .int] cm (bq CU) 57 [] [avT] func113
abbrev ahS:=((af×Int×Int×af)×((aa bY)×af))
def Kd(x:ahS):ah (ahS⊕(((Int×af)×((aa bY)×af))⊕Empty)):=letI C:=x.1.2.2.1;bif C<(x.2.1.length:Int)then xL x.2.1 C λE=>letI D:=x.2.1.set C.toNat (⟨x.1.2.1,E.ff⟩:bY);xL D C λL=>xG (((),(W6 ((W6 (x.1.2.1+1))+1)),(W6 (C+1)),()),((D.set C.toNat (⟨L.weight,(W6 (x.1.2.1+1))⟩:bY)),()))else av ((x.1.2.1,()),(x.2.1,()))
def avU:KY 27 (aW f114):=⟨0,lB 0 ⟨v7,[(20000,.sl .eC 2)],[]⟩ [(2,⟨uf,[(20000,.sl .eC 2)],[]⟩)] Kd,lp []⟩
def CV(D:aa bY)(E:Int):ah ((Int)×((aa bY)×af)):=bk Kd (((),E,0,()),(D,())) λC=>some (C.1.1,(C.2.1,()))
def Ke:=je [.s .eC 0,.v false .int] cm (bq CV) 27 [] [avU] func114
abbrev ahT:=((af×Int×Int×af)×((aa bW)×af))
def Kf(x:ahT):ah (ahT⊕(((Int×af)×((aa bW)×af))⊕Empty)):=letI D:=W6 (x.1.2.1+1);letI C:=x.1.2.2.1;bif C<(x.2.1.length:Int)then xL x.2.1 C λE=>letI L:=x.2.1.set C.toNat (⟨x.1.2.1,E.code,E.times⟩:bW);xL L C λO=>letI T:=L.set C.toNat (⟨O.line,D,O.times⟩:bW);xL T C λU=>xG (((),(W6 ((W6 (D+1))+1)),(W6 (C+1)),()),((T.set C.toNat (⟨U.line,U.code,(W6 (D+1))⟩:bW)),()))else av ((x.1.2.1,()),(x.2.1,()))
def avV:KY 34 (aW f115):=⟨0,lB 0 ⟨v7,[(20000,.sl .eH 2)],[]⟩ [(2,⟨uf,[(20000,.sl .eH 2)],[]⟩)] Kf,lp []⟩
def CW(D:aa bW)(E:Int):ah ((Int)×((aa bW)×af)):=bk Kf (((),E,0,()),(D,())) λC=>some (C.1.1,(C.2.1,()))
def Kg:=je [.s .eH 0,.v false .int] cm (bq CW) 34 [] [avV] func115
abbrev ahU:=((af×Int×Int×af)×((aa c8)×af))
def Kh(x:ahU):ah (ahU⊕(((Int×af)×((aa c8)×af))⊕Empty)):=letI U:=W6 ((W6 (x.1.2.1+1))+1);letI T:=W6 (U+1);letI C:=x.1.2.2.1;bif C<(x.2.1.length:Int)then xL x.2.1 C λe3=>letI Y:=x.2.1.set C.toNat (⟨x.1.2.1,e3.cmd⟩:c8);xL Y C λD=>letI Z:=Y.set C.toNat (⟨D.at_,⟨(W6 (x.1.2.1+1)),D.cmd.ay,D.cmd.row,D.cmd.bT⟩⟩:c8);xL Z C λE=>letI u1:=Z.set C.toNat (⟨E.at_,⟨E.cmd.kind,U,E.cmd.row,E.cmd.bT⟩⟩:c8);xL u1 C λL=>(ju (u1.set C.toNat (⟨L.at_,⟨L.cmd.kind,L.cmd.ay,T,L.cmd.bT⟩⟩:c8)) λCT=>xL CT C λO=>xG (((),(W6 ((W6 (T+1))+1)),(W6 (C+1)),()),((CT.set C.toNat (⟨O.at_,⟨O.cmd.kind,O.cmd.ay,O.cmd.row,(W6 (T+1))⟩⟩:c8)),())))else av ((x.1.2.1,()),(x.2.1,()))
def avW:KY 52 (aW f116):=⟨0,lB 0 ⟨v7,[(20000,.sl .Event 2)],[]⟩ [(2,⟨uf,[(20000,.sl .Event 2)],[]⟩)] Kh,lp []⟩
def CX(D:aa c8)(E:Int):ah ((Int)×((aa c8)×af)):=bk Kh (((),E,0,()),(D,())) λC=>some (C.1.1,(C.2.1,()))
def Ki:=je [.s .Event 0,.v false .int] cm (bq CX) 52 [] [avW] func116
abbrev ahV:=((af×Int×Int×af)×((aa cE)×af))
def Kj(x:ahV):ah (ahV⊕(((Int×af)×((aa cE)×af))⊕Empty)):=letI D:=W6 ((W6 (x.1.2.1+1))+1);letI C:=x.1.2.2.1;bif C<(x.2.1.length:Int)then xL x.2.1 C λE=>letI U:=x.2.1.set C.toNat (⟨x.1.2.1,E.at_,E.data,E.code⟩:cE);xL U C λL=>letI Y:=U.set C.toNat (⟨L.id,(W6 (x.1.2.1+1)),L.data,L.code⟩:cE);xL Y C λO=>letI Z:=Y.set C.toNat (⟨O.id,O.at_,D,O.code⟩:cE);xL Z C λT=>(ju (Z.set C.toNat (⟨T.id,T.at_,T.data,(W6 (D+1))⟩:cE)) λCT=>xG (((),(W6 ((W6 (D+1))+1)),(W6 (C+1)),()),(CT,())))else av ((x.1.2.1,()),(x.2.1,()))
def avX:KY 41 (aW f117):=⟨0,lB 0 ⟨v7,[(20000,.sl .fV 2)],[]⟩ [(2,⟨uf,[(20000,.sl .fV 2)],[]⟩)] Kj,lp []⟩
def CY(D:aa cE)(E:Int):ah ((Int)×((aa cE)×af)):=bk Kj (((),E,0,()),(D,())) λC=>some (C.1.1,(C.2.1,()))
def Kk:=je [.s .fV 0,.v false .int] cm (bq CY) 41 [] [avX] func117
def avY:enters Tryz.prog 13/\jR Tryz.prog 13 (cj Tryz.prog f13 3 [(104,.i (cj Tryz.prog f104 2 [(28,.i (cj Tryz.prog f28 1 [(111,.m iC)]))])),(105,.i (cj Tryz.prog f105 1 [(ya.f,ya.c)])),(106,.i (cj Tryz.prog f106 1 [(111,.m iC)])),(107,.i (cj Tryz.prog f107 1 [(111,.m iC),(yb.f,yb.c)])),(108,.i (cj Tryz.prog f108 1 [(111,.m iC)])),(109,.i (cj Tryz.prog f109 1 [(111,.m iC)])),(J8.f,J8.c),(111,.m iC),(Ka.f,Ka.c),(Kc.f,Kc.c),(Ke.f,Ke.c),(Kg.f,Kg.c),(Ki.f,Ki.c),(Kk.f,Kk.c)]):=qy (pP 3 [(104,.i (cj Tryz.prog f104 2 [(28,.i (cj Tryz.prog f28 1 [(111,.m iC)]))])),(105,.i (cj Tryz.prog f105 1 [(ya.f,ya.c)])),(106,.i (cj Tryz.prog f106 1 [(111,.m iC)])),(107,.i (cj Tryz.prog f107 1 [(111,.m iC),(yb.f,yb.c)])),(108,.i (cj Tryz.prog f108 1 [(111,.m iC)])),(109,.i (cj Tryz.prog f109 1 [(111,.m iC)])),(J8.f,J8.c),(111,.m iC),(Ka.f,Ka.c),(Kc.f,Kc.c),(Ke.f,Ke.c),(Kg.f,Kg.c),(Ki.f,Ki.c),(Kk.f,Kk.c)] func13 ⟨avJ,avL,avM,avO,avP,avQ,J8.ok,Ao,Ka.ok,Kc.ok,Ke.ok,Kg.ok,Ki.ok,Kk.ok,trivial⟩)
abbrev ahW:=(((aa Int)×Int×Int×af)×(af))
def Kl(x:ahW):ah (ahW⊕(((Int×af)×(af))⊕(((Int×af)×(af))⊕Empty))):=bif x.1.2.2.1<(x.1.1.length:Int)then xI x.1.1 x.1.2.2.1 λC=>bif (C != x.1.2.1)then av (((-1),()),())else xG ((x.1.1,(W6 (x.1.2.1+1)),(W6 (x.1.2.2.1+1)),()),())else aQ ((x.1.2.1,()),())
def avZ:KY 21 (aW f125):=⟨0,lB 0 Y8 [(1,kC),(2,sM)] Kl,lp []⟩
def pQ(C:aa Int)(D:Int):ah (Int):=bE Kl ((C,D,0,()),()) (λE=>some E.1.1) λL=>some L.1.1
def Ap:=bS Aj cm (bq pQ) 21 [] [avZ] func125
def RC(D:fh)(E:Int):ah (Int):=(pQ D.weights E).bind λC=>bif C<0 then some (-1)else some C
def av0:=aP [(true,.lE),(false,.int)] cm (bq RC) 12 [Ap] func249
def Zt(C:fM)(L:Int):ah (Int):=(RC C.bH L).bind λD=>bif D<0 then some (-1)else (RC C.next D).bind λE=>bif E<0 then some (-1)else some E
def av1:=aP [(true,.jM),(false,.int)] cm (bq Zt) 18 [av0] func118
abbrev ahX:=(((aa c9)×Int×Int×af)×(af))
def Km(x:ahX):ah (ahX⊕(((Int×af)×(af))⊕(((Int×af)×(af))⊕Empty))):=letI C:=x.1.2;bif C.2.1<(x.1.1.length:Int)then xI x.1.1 C.2.1 λD=>bif (!(D.open_==((C.1.tmod 3)==0)))then av (((-1),()),())else xI x.1.1 C.2.1 λE=>bif (E.row != (W6 (C.1+1)))then av (((-1),()),())else xG ((x.1.1,(W6 ((W6 (C.1+1))+1)),(W6 (C.2.1+1)),()),())else aQ ((C.1,()),())
def av2:KY 33 (aW f250):=⟨0,lB 0 ⟨[(0,.lf (.aF .gi 0)),(1,tI),(5,tI)],[],[]⟩ [(1,kC),(2,sM)] Km,lp []⟩
def Kn(C:aa c9)(D:Int):ah (Int):=bE Km ((C,D,0,()),()) (λE=>some E.1.1) λL=>some L.1.1
def av3:=bS [(false,(.sl .gi)),(false,.int)] cm (bq Kn) 33 [] [av2] func250
def Zu(D:cC)(E:Int):ah (Int):=(Kn D.aC E).bind λC=>bif C<0 then some (-1)else some C
def av4:=aP Qp cm (bq Zu) 12 [av3] func119
def Zv(C:dB)(L:Int):ah (Int):=(pQ C.last L).bind λD=>bif D<0 then some (-1)else (pQ C.bC D).bind λE=>bif E<0 then some (-1)else some E
def av5:=aP [(true,.kO),(false,.int)] cm (bq Zv) 18 [Ap] func120
abbrev ahY:=(((aa bP)×Int×Int×af)×(af))
def Ko(x:ahY):ah (ahY⊕(((Int×af)×(af))⊕(((Int×af)×(af))⊕Empty))):=letI C:=x.1.2.2.1;bif C<(x.1.1.length:Int)then xI x.1.1 C λE=>(pQ E.symbols x.1.2.1).bind λD=>bif D<0 then av (((-1),()),())else xI x.1.1 C λL=>bif (!(L.gO==((D.tmod 3)==0)))then av (((-1),()),())else xG ((x.1.1,(W6 (D+1)),(W6 (C+1)),()),())else aQ ((x.1.2.1,()),())
def av6:KY 33 (aW f251):=⟨0,lB 0 agx [(1,kC),(2,sM)] Ko,lp [Ap]⟩
def RD(C:aa bP)(D:Int):ah (Int):=bE Ko ((C,D,0,()),()) (λE=>some E.1.1) λL=>some L.1.1
def av7:=bS [(false,(.sl .Cell)),(false,.int)] cm (bq RD) 33 [] [av6] func251
def Zw(C:cV)(O:Int):ah (Int):=(RD C.cells O).bind λD=>bif D<0 then some (-1)else (pQ C.bx D).bind λE=>bif E<0 then some (-1)else (pQ C.bw E).bind λL=>bif L<0 then some (-1)else some L
def av8:=aP [(true,.Array),(false,.int)] cm (bq Zw) 24 [Ap,av7] func121
end Go.Proofs.YtnilicojgkhpnaaGreat
