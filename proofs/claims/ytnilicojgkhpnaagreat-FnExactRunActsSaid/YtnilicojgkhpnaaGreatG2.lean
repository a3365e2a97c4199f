/-
  Functions of the program as plain functions of contents, and that the code computes them. Nothing here is a claim.
-/
import Derived.Test.YtnilicojgkhpnaaGreatVZ
import Derived.Test.YtnilicojgkhpnaaGreatRows
import Derived.Test.YtnilicojgkhpnaaGreatG1
namespace Go.Proofs.YtnilicojgkhpnaaGreat
set_option linter.defProp false
open Go.RowKit Go.Proofs.Tryz
set_option linter.unusedVariables false
set_option maxRecDepth 100000
abbrev ag0:=((af×Int×Int×af)×((aa dG)×af))
def Ku(x:ag0):ah (ag0⊕(((Int×af)×((aa dG)×af))⊕Empty)):=letI C:=x.1.2.2.1;bif C<(x.2.1.length:Int)then xL x.2.1 C λE=>letI D:=x.2.1.set C.toNat (⟨((x.1.2.1.tmod 3)==0),E.row⟩:dG);xL D C λL=>xG (((),(W6 ((W6 (x.1.2.1+1))+1)),(W6 (C+1)),()),((D.set C.toNat (⟨L.open_,(W6 (x.1.2.1+1))⟩:dG)),()))else ax ((x.1.2.1,()),(x.2.1,()))
def aue:KY 29 (aW f247):=⟨0,lB 0 ⟨uO,[(20000,.sl .iY 2)],[]⟩ [(2,⟨tC,[(20000,.sl .iY 2)],[]⟩)] Ku,lp []⟩
def F8(D:aa dG)(E:Int):ah ((Int)×((aa dG)×af)):=bh Ku (((),E,0,()),(D,())) λC=>some (C.1.1,(C.2.1,()))
def yI:=jc [.s .iY 0,.v false .int] cE (bx F8) 29 [] [aue] func247
def auf:enters Tryz.prog 105/\kR Tryz.prog 105 (cj Tryz.prog f105 1 [(yI.f,yI.c)]):=sr (qV 1 [(yI.f,yI.c)] func105 ⟨yI.ok,trivial⟩)
def aug:enters Tryz.prog 106/\kR Tryz.prog 106 (cj Tryz.prog f106 1 [(111,.m iT)]):=sr (qV 1 [(111,.m iT)] func106 ⟨yH,trivial⟩)
abbrev ag1:=((af×Int×Int×af)×((aa bN)×af))
def Kv(x:ag1):ah (ag1⊕(((Int×af)×((aa bN)×af))⊕Empty)):=letI C:=x.1.2.2.1;bif C<(x.2.1.length:Int)then xL x.2.1 C λT=>xM x.2.1 C λE=>(jf E.symbols x.1.2.1).bind λD=>letI L:=x.2.1.set C.toNat (⟨D.2.1,E.hG⟩:bN);xL L C λO=>xG (((),(W6 (D.1+1)),(W6 (C+1)),()),((L.set C.toNat (⟨O.symbols,((D.1.tmod 3)==0)⟩:bN)),()))else ax ((x.1.2.1,()),(x.2.1,()))
def auh:KY 29 (aW f248):=⟨0,lB 0 ⟨uO,[(20000,.sl .Cell 4)],[]⟩ [(2,⟨tC,[(20000,.sl .Cell 4)],[]⟩)] Kv,lp [⟨111,.d iT,yH⟩]⟩
def Kw(D:aa bN)(E:Int):ah ((Int)×((aa bN)×af)):=bh Kv (((),E,0,()),(D,())) λC=>some (C.1.1,(C.2.1,()))
def yJ:=jc [.s .Cell 2,.v false .int] cE (bx Kw) 29 [] [auh] func248
def aui:enters Tryz.prog 107/\kR Tryz.prog 107 (cj Tryz.prog f107 1 [(111,.m iT),(yJ.f,yJ.c)]):=sr (qV 1 [(111,.m iT),(yJ.f,yJ.c)] func107 ⟨yH,yJ.ok,trivial⟩)
def auj:enters Tryz.prog 108/\kR Tryz.prog 108 (cj Tryz.prog f108 1 [(111,.m iT)]):=sr (qV 1 [(111,.m iT)] func108 ⟨yH,trivial⟩)
def auk:enters Tryz.prog 109/\kR Tryz.prog 109 (cj Tryz.prog f109 1 [(111,.m iT)]):=sr (qV 1 [(111,.m iT)] func109 ⟨yH,trivial⟩)
abbrev ag2:=((af×Int×Int×af)×((aa bU)×af))
def Kx(x:ag2):ah (ag2⊕(((Int×af)×((aa bU)×af))⊕Empty)):=letI C:=x.1.2.2.1;bif C<(x.2.1.length:Int)then xL x.2.1 C λZ=>xM x.2.1 C λD=>(jf D.rows x.1.2.1).bind λT=>letI E:=x.2.1.set C.toNat (⟨T.2.1,D.counts,D.dx⟩:bU);xL E C λe9=>xM E C λL=>(jf L.counts T.1).bind λO=>letI U:=E.set C.toNat (⟨L.rows,O.2.1,L.dx⟩:bU);xL U C λY=>xG (((),(W6 (O.1+1)),(W6 (C+1)),()),((U.set C.toNat (⟨Y.rows,Y.counts,O.1⟩:bU)),()))else ax ((x.1.2.1,()),(x.2.1,()))
def aul:KY 34 (aW f110):=⟨0,lB 0 ⟨uO,[(20000,.sl .gp 4)],[]⟩ [(2,⟨tC,[(20000,.sl .gp 4)],[]⟩)] Kx,lp [⟨111,.d iT,yH⟩]⟩
def Ky(D:aa bU)(E:Int):ah ((Int)×((aa bU)×af)):=bh Kx (((),E,0,()),(D,())) λC=>some (C.1.1,(C.2.1,()))
def Kz:=jc [.s .gp 2,.v false .int] cE (bx Ky) 34 [] [aul] func110
abbrev ag3:=((af×Int×Int×af)×((aa aJ)×af))
def KA(x:ag3):ah (ag3⊕(((Int×af)×((aa aJ)×af))⊕Empty)):=letI D:=W6 (x.1.2.1+1);letI C:=x.1.2.2.1;bif C<(x.2.1.length:Int)then xL x.2.1 C λE=>letI L:=x.2.1.set C.toNat (⟨x.1.2.1,E.row,E.bR⟩:aJ);xL L C λO=>letI T:=L.set C.toNat (⟨O.ay,D,O.bR⟩:aJ);xL T C λU=>xG (((),(W6 ((W6 (D+1))+1)),(W6 (C+1)),()),((T.set C.toNat (⟨U.ay,U.row,(W6 (D+1))⟩:aJ)),()))else ax ((x.1.2.1,()),(x.2.1,()))
def aum:KY 34 (aW f112):=⟨0,lB 0 ⟨uO,[(20000,.sl .Addr 2)],[]⟩ [(2,⟨tC,[(20000,.sl .Addr 2)],[]⟩)] KA,lp []⟩
def F9(D:aa aJ)(E:Int):ah ((Int)×((aa aJ)×af)):=bh KA (((),E,0,()),(D,())) λC=>some (C.1.1,(C.2.1,()))
def KB:=jc [.s .Addr 0,.v false .int] cE (bx F9) 34 [] [aum] func112
abbrev ag4:=((af×Int×Int×af)×((aa aN)×af))
def KD(x:ag4):ah (ag4⊕(((Int×af)×((aa aN)×af))⊕Empty)):=letI C:=x.1.2.2.1;letI Y:=W6 ((W6 (x.1.2.1+1))+1);letI Z:=W6 ((W6 (Y+1))+1);bif C<(x.2.1.length:Int)then xL x.2.1 C λD=>letI u4:=x.2.1.set C.toNat (⟨x.1.2.1,D.c9,D.line,D.write,D.data,D.at_⟩:aN);xL u4 C λE=>letI u0:=u4.set C.toNat (⟨E.id,(W6 (x.1.2.1+1)),E.line,E.write,E.data,E.at_⟩:aN);xL u0 C λL=>letI u5:=u0.set C.toNat (⟨L.id,L.c9,Y,L.write,L.data,L.at_⟩:aN);xL u5 C λO=>(fq (u5.set C.toNat (⟨O.id,O.c9,O.line,(((W6 (Y+1)).tmod 3)==0),O.data,O.at_⟩:aN)) λDx=>xL Dx C λT=>letI u3:=Dx.set C.toNat (⟨T.id,T.c9,T.line,T.write,Z,T.at_⟩:aN);xL u3 C λU=>(fq (u3.set C.toNat (⟨U.id,U.c9,U.line,U.write,U.data,(W6 (Z+1))⟩:aN)) λv20=>xG (((),(W6 ((W6 (Z+1))+1)),(W6 (C+1)),()),(v20,()))))else ax ((x.1.2.1,()),(x.2.1,()))
def aun:KY 57 (aW f113):=⟨0,lB 0 ⟨uO,[(20000,.sl .dg 2)],[]⟩ [(2,⟨tC,[(20000,.sl .dg 2)],[]⟩)] KD,lp []⟩
def Ga(D:aa aN)(E:Int):ah ((Int)×((aa aN)×af)):=bh KD (((),E,0,()),(D,())) λC=>some (C.1.1,(C.2.1,()))
def KE:=jc [.s .dg 0,.v false .int] cE (bx Ga) 57 [] [aun] func113
abbrev ag5:=((af×Int×Int×af)×((aa bZ)×af))
def KF(x:ag5):ah (ag5⊕(((Int×af)×((aa bZ)×af))⊕Empty)):=letI C:=x.1.2.2.1;bif C<(x.2.1.length:Int)then xL x.2.1 C λE=>letI D:=x.2.1.set C.toNat (⟨x.1.2.1,E.fK⟩:bZ);xL D C λL=>xG (((),(W6 ((W6 (x.1.2.1+1))+1)),(W6 (C+1)),()),((D.set C.toNat (⟨L.weight,(W6 (x.1.2.1+1))⟩:bZ)),()))else ax ((x.1.2.1,()),(x.2.1,()))
def auo:KY 27 (aW f114):=⟨0,lB 0 ⟨uO,[(20000,.sl .fm 2)],[]⟩ [(2,⟨tC,[(20000,.sl .fm 2)],[]⟩)] KF,lp []⟩
def Gb(D:aa bZ)(E:Int):ah ((Int)×((aa bZ)×af)):=bh KF (((),E,0,()),(D,())) λC=>some (C.1.1,(C.2.1,()))
def KG:=jc [.s .fm 0,.v false .int] cE (bx Gb) 27 [] [auo] func114
abbrev ag6:=((af×Int×Int×af)×((aa bV)×af))
def KH(x:ag6):ah (ag6⊕(((Int×af)×((aa bV)×af))⊕Empty)):=letI D:=W6 (x.1.2.1+1);letI C:=x.1.2.2.1;bif C<(x.2.1.length:Int)then xL x.2.1 C λE=>letI L:=x.2.1.set C.toNat (⟨x.1.2.1,E.code,E.times⟩:bV);xL L C λO=>letI T:=L.set C.toNat (⟨O.line,D,O.times⟩:bV);xL T C λU=>xG (((),(W6 ((W6 (D+1))+1)),(W6 (C+1)),()),((T.set C.toNat (⟨U.line,U.code,(W6 (D+1))⟩:bV)),()))else ax ((x.1.2.1,()),(x.2.1,()))
def aup:KY 34 (aW f115):=⟨0,lB 0 ⟨uO,[(20000,.sl .fM 2)],[]⟩ [(2,⟨tC,[(20000,.sl .fM 2)],[]⟩)] KH,lp []⟩
def Gc(D:aa bV)(E:Int):ah ((Int)×((aa bV)×af)):=bh KH (((),E,0,()),(D,())) λC=>some (C.1.1,(C.2.1,()))
def KI:=jc [.s .fM 0,.v false .int] cE (bx Gc) 34 [] [aup] func115
abbrev ag7:=((af×Int×Int×af)×((aa dA)×af))
def KJ(x:ag7):ah (ag7⊕(((Int×af)×((aa dA)×af))⊕Empty)):=letI U:=W6 ((W6 (x.1.2.1+1))+1);letI T:=W6 (U+1);letI C:=x.1.2.2.1;bif C<(x.2.1.length:Int)then xL x.2.1 C λe3=>letI Y:=x.2.1.set C.toNat (⟨x.1.2.1,e3.cmd⟩:dA);xL Y C λD=>letI Z:=Y.set C.toNat (⟨D.at_,⟨(W6 (x.1.2.1+1)),D.cmd.ay,D.cmd.row,D.cmd.bR⟩⟩:dA);xL Z C λE=>letI u1:=Z.set C.toNat (⟨E.at_,⟨E.cmd.kind,U,E.cmd.row,E.cmd.bR⟩⟩:dA);xL u1 C λL=>(fq (u1.set C.toNat (⟨L.at_,⟨L.cmd.kind,L.cmd.ay,T,L.cmd.bR⟩⟩:dA)) λDx=>xL Dx C λO=>xG (((),(W6 ((W6 (T+1))+1)),(W6 (C+1)),()),((Dx.set C.toNat (⟨O.at_,⟨O.cmd.kind,O.cmd.ay,O.cmd.row,(W6 (T+1))⟩⟩:dA)),())))else ax ((x.1.2.1,()),(x.2.1,()))
def auq:KY 52 (aW f116):=⟨0,lB 0 ⟨uO,[(20000,.sl .Event 2)],[]⟩ [(2,⟨tC,[(20000,.sl .Event 2)],[]⟩)] KJ,lp []⟩
def Gd(D:aa dA)(E:Int):ah ((Int)×((aa dA)×af)):=bh KJ (((),E,0,()),(D,())) λC=>some (C.1.1,(C.2.1,()))
def KM:=jc [.s .Event 0,.v false .int] cE (bx Gd) 52 [] [auq] func116
abbrev ag8:=((af×Int×Int×af)×((aa cR)×af))
def KN(x:ag8):ah (ag8⊕(((Int×af)×((aa cR)×af))⊕Empty)):=letI D:=W6 ((W6 (x.1.2.1+1))+1);letI C:=x.1.2.2.1;bif C<(x.2.1.length:Int)then xL x.2.1 C λE=>letI U:=x.2.1.set C.toNat (⟨x.1.2.1,E.at_,E.data,E.code⟩:cR);xL U C λL=>letI Y:=U.set C.toNat (⟨L.id,(W6 (x.1.2.1+1)),L.data,L.code⟩:cR);xL Y C λO=>letI Z:=Y.set C.toNat (⟨O.id,O.at_,D,O.code⟩:cR);xL Z C λT=>(fq (Z.set C.toNat (⟨T.id,T.at_,T.data,(W6 (D+1))⟩:cR)) λDx=>xG (((),(W6 ((W6 (D+1))+1)),(W6 (C+1)),()),(Dx,())))else ax ((x.1.2.1,()),(x.2.1,()))
def aur:KY 41 (aW f117):=⟨0,lB 0 ⟨uO,[(20000,.sl .iP 2)],[]⟩ [(2,⟨tC,[(20000,.sl .iP 2)],[]⟩)] KN,lp []⟩
def Ge(D:aa cR)(E:Int):ah ((Int)×((aa cR)×af)):=bh KN (((),E,0,()),(D,())) λC=>some (C.1.1,(C.2.1,()))
def KO:=jc [.s .iP 0,.v false .int] cE (bx Ge) 41 [] [aur] func117
def aus:enters Tryz.prog 13/\kR Tryz.prog 13 (cj Tryz.prog f13 3 [(104,.i (cj Tryz.prog f104 2 [(28,.i (cj Tryz.prog f28 1 [(111,.m iT)]))])),(105,.i (cj Tryz.prog f105 1 [(yI.f,yI.c)])),(106,.i (cj Tryz.prog f106 1 [(111,.m iT)])),(107,.i (cj Tryz.prog f107 1 [(111,.m iT),(yJ.f,yJ.c)])),(108,.i (cj Tryz.prog f108 1 [(111,.m iT)])),(109,.i (cj Tryz.prog f109 1 [(111,.m iT)])),(Kz.f,Kz.c),(111,.m iT),(KB.f,KB.c),(KE.f,KE.c),(KG.f,KG.c),(KI.f,KI.c),(KM.f,KM.c),(KO.f,KO.c)]):=sr (qV 3 [(104,.i (cj Tryz.prog f104 2 [(28,.i (cj Tryz.prog f28 1 [(111,.m iT)]))])),(105,.i (cj Tryz.prog f105 1 [(yI.f,yI.c)])),(106,.i (cj Tryz.prog f106 1 [(111,.m iT)])),(107,.i (cj Tryz.prog f107 1 [(111,.m iT),(yJ.f,yJ.c)])),(108,.i (cj Tryz.prog f108 1 [(111,.m iT)])),(109,.i (cj Tryz.prog f109 1 [(111,.m iT)])),(Kz.f,Kz.c),(111,.m iT),(KB.f,KB.c),(KE.f,KE.c),(KG.f,KG.c),(KI.f,KI.c),(KM.f,KM.c),(KO.f,KO.c)] func13 ⟨aud,auf,aug,aui,auj,auk,Kz.ok,yH,KB.ok,KE.ok,KG.ok,KI.ok,KM.ok,KO.ok,trivial⟩)
abbrev ag9:=(((aa Int)×Int×Int×af)×(af))
def KP(x:ag9):ah (ag9⊕(((Int×af)×(af))⊕(((Int×af)×(af))⊕Empty))):=bif x.1.2.2.1<(x.1.1.length:Int)then xI x.1.1 x.1.2.2.1 λC=>bif (C != x.1.2.1)then ax (((-1),()),())else xG ((x.1.1,(W6 (x.1.2.1+1)),(W6 (x.1.2.2.1+1)),()),())else aU ((x.1.2.1,()),())
def aut:KY 21 (aW f125):=⟨0,lB 0 YO [(1,lN),(2,uP)] KP,lp []⟩
def qk(C:aa Int)(D:Int):ah (Int):=bE KP ((C,D,0,()),()) (λE=>some E.1.1) λL=>some L.1.1
def AV:=bS AS cE (bx qk) 21 [] [aut] func125
def Rr(D:dB)(E:Int):ah (Int):=(qk D.weights E).bind λC=>bif C<0 then some (-1)else some C
def auu:=aZ [(true,.jK),(false,.int)] cE (bx Rr) 12 [AV] func249
def Zc(C:fL)(L:Int):ah (Int):=(Rr C.bK L).bind λD=>bif D<0 then some (-1)else (Rr C.next D).bind λE=>bif E<0 then some (-1)else some E
def auv:=aZ [(true,.mC),(false,.int)] cE (bx Zc) 18 [auu] func118
abbrev aha:=(((aa dG)×Int×Int×af)×(af))
def KQ(x:aha):ah (aha⊕(((Int×af)×(af))⊕(((Int×af)×(af))⊕Empty))):=letI C:=x.1.2;bif C.2.1<(x.1.1.length:Int)then xI x.1.1 C.2.1 λD=>bif (!(D.open_==((C.1.tmod 3)==0)))then ax (((-1),()),())else xI x.1.1 C.2.1 λE=>bif (E.row != (W6 (C.1+1)))then ax (((-1),()),())else xG ((x.1.1,(W6 ((W6 (C.1+1))+1)),(W6 (C.2.1+1)),()),())else aU ((C.1,()),())
def auw:KY 33 (aW f250):=⟨0,lB 0 ⟨[(0,.lf (.aF .iY 0)),(1,tI),(5,tI)],[],[]⟩ [(1,lN),(2,uP)] KQ,lp []⟩
def KR(C:aa dG)(D:Int):ah (Int):=bE KQ ((C,D,0,()),()) (λE=>some E.1.1) λL=>some L.1.1
def auy:=bS [(false,(.sl .iY)),(false,.int)] cE (bx KR) 33 [] [auw] func250
def Zd(D:cH)(E:Int):ah (Int):=(KR D.aC E).bind λC=>bif C<0 then some (-1)else some C
def auz:=aZ Y5 cE (bx Zd) 12 [auy] func119
def Ze(C:dJ)(L:Int):ah (Int):=(qk C.last L).bind λD=>bif D<0 then some (-1)else (qk C.aX D).bind λE=>bif E<0 then some (-1)else some E
def auA:=aZ [(true,.jZ),(false,.int)] cE (bx Ze) 18 [AV] func120
abbrev ahb:=(((aa bN)×Int×Int×af)×(af))
def KS(x:ahb):ah (ahb⊕(((Int×af)×(af))⊕(((Int×af)×(af))⊕Empty))):=letI C:=x.1.2.2.1;bif C<(x.1.1.length:Int)then xI x.1.1 C λE=>(qk E.symbols x.1.2.1).bind λD=>bif D<0 then ax (((-1),()),())else xI x.1.1 C λL=>bif (!(L.hG==((D.tmod 3)==0)))then ax (((-1),()),())else xG ((x.1.1,(W6 (D+1)),(W6 (C+1)),()),())else aU ((x.1.2.1,()),())
def auB:KY 33 (aW f251):=⟨0,lB 0 ⟨[(0,.lf (.aF .Cell 0)),(1,tI),(5,tI)],[],[]⟩ [(1,lN),(2,uP)] KS,lp [AV]⟩
def Rs(C:aa bN)(D:Int):ah (Int):=bE KS ((C,D,0,()),()) (λE=>some E.1.1) λL=>some L.1.1
def auC:=bS [(false,(.sl .Cell)),(false,.int)] cE (bx Rs) 33 [] [auB] func251
def Zf(C:cN)(O:Int):ah (Int):=(Rs C.cells O).bind λD=>bif D<0 then some (-1)else (qk C.bD D).bind λE=>bif E<0 then some (-1)else (qk C.bC E).bind λL=>bif L<0 then some (-1)else some L
def auD:=aZ [(true,.Array),(false,.int)] cE (bx Zf) 24 [AV,auC] func121
def Zg(D:c8)(E:Int):ah (Int):=(qk D.map E).bind λC=>bif C<0 then some (-1)else some C
def auE:=aZ [(true,.mB),(false,.int)] cE (bx Zg) 12 [AV] func122
def Zh(D:cO)(E:Int):ah (Int):=(qk D.aI E).bind λC=>bif C<0 then some (-1)else some C
def auF:=aZ QU cE (bx Zh) 12 [AV] func123
abbrev ahc:=(((aa bU)×Int×Int×af)×(af))
def KT(x:ahc):ah (ahc⊕(((Int×af)×(af))⊕(((Int×af)×(af))⊕Empty))):=letI C:=x.1.2.2.1;letI D:=ax (((-1),()),());bif C<(x.1.1.length:Int)then xI x.1.1 C λO=>(qk O.rows x.1.2.1).bind λL=>bif L<0 then D else xI x.1.1 C λT=>(qk T.counts L).bind λE=>bif E<0 then D else xI x.1.1 C λU=>bif (U.dx != E)then D else xG ((x.1.1,(W6 (E+1)),(W6 (C+1)),()),())else aU ((x.1.2.1,()),())
def auG:KY 40 (aW f124):=⟨0,lB 0 ⟨[(0,.lf (.aF .gp 0)),(1,tI),(5,tI)],[],[]⟩ [(1,lN),(2,uP)] KT,lp [AV]⟩
def Rt(C:aa bU)(D:Int):ah (Int):=bE KT ((C,D,0,()),()) (λE=>some E.1.1) λL=>some L.1.1
def auH:=bS [(false,(.sl .gp)),(false,.int)] cE (bx Rt) 40 [] [auG] func124
abbrev ahd:=(((aa aJ)×Int×Int×af)×(af))
def KU(x:ahd):ah (ahd⊕(((Int×af)×(af))⊕(((Int×af)×(af))⊕Empty))):=letI D:=W6 (x.1.2.1+1);letI C:=x.1.2.2.1;letI E:=ax (((-1),()),());bif C<(x.1.1.length:Int)then xI x.1.1 C λL=>bif (L.ay != x.1.2.1)then E else xI x.1.1 C λO=>bif (O.row != D)then E else xI x.1.1 C λT=>bif (T.bR != (W6 (D+1)))then E else xG ((x.1.1,(W6 ((W6 (D+1))+1)),(W6 (C+1)),()),())else aU ((x.1.2.1,()),())
def auI:KY 40 (aW f126):=⟨0,lB 0 af9 [(1,lN),(2,uP)] KU,lp []⟩
def KV(C:aa aJ)(D:Int):ah (Int):=bE KU ((C,D,0,()),()) (λE=>some E.1.1) λL=>some L.1.1
def auJ:=bS YW cE (bx KV) 40 [] [auI] func126
abbrev ahe:=(((aa aN)×Int×Int×af)×(af))
def KW(x:ahe):ah (ahe⊕(((Int×af)×(af))⊕(((Int×af)×(af))⊕Empty))):=letI C:=x.1.1;letI L:=W6 (x.1.2.1+1);letI D:=x.1.2.2.1;letI E:=ax (((-1),()),());letI T:=W6 ((W6 (L+1))+1);letI O:=W6 (T+1);bif D<(C.length:Int)then xI C D λU=>bif (U.id != x.1.2.1)then E else xI C D λY=>bif (Y.c9 != L)then E else xI C D λZ=>bif (Z.line != (W6 (L+1)))then E else xI C D λe8=>bif (!(e8.write==((T.tmod 3)==0)))then E else xI C D λgR=>bif (gR.data != O)then E else xI C D λmQ=>bif (mQ.at_ != (W6 (O+1)))then E else xG ((C,(W6 ((W6 (O+1))+1)),(W6 (D+1)),()),())else aU ((x.1.2.1,()),())
def auK:KY 69 (aW f127):=⟨0,lB 0 YP [(1,lN),(2,uP)] KW,lp []⟩
def KZ(C:aa aN)(D:Int):ah (Int):=bE KW ((C,D,0,()),()) (λE=>some E.1.1) λL=>some L.1.1
def auL:=bS Kc cE (bx KZ) 69 [] [auK] func127
abbrev ahf:=(((aa bZ)×Int×Int×af)×(af))
def K0(x:ahf):ah (ahf⊕(((Int×af)×(af))⊕(((Int×af)×(af))⊕Empty))):=letI C:=x.1.2;bif C.2.1<(x.1.1.length:Int)then xI x.1.1 C.2.1 λD=>bif (D.weight != C.1)then ax (((-1),()),())else xI x.1.1 C.2.1 λE=>bif (E.fK != (W6 (C.1+1)))then ax (((-1),()),())else xG ((x.1.1,(W6 ((W6 (C.1+1))+1)),(W6 (C.2.1+1)),()),())else aU ((C.1,()),())
def auM:KY 31 (aW f128):=⟨0,lB 0 ⟨[(0,.lf (.aF .fm 0)),(1,tI),(5,tI)],[],[]⟩ [(1,lN),(2,uP)] K0,lp []⟩
def K1(C:aa bZ)(D:Int):ah (Int):=bE K0 ((C,D,0,()),()) (λE=>some E.1.1) λL=>some L.1.1
def auN:=bS [(false,(.sl .fm)),(false,.int)] cE (bx K1) 31 [] [auM] func128
abbrev ahg:=(((aa bV)×Int×Int×af)×(af))
def K2(x:ahg):ah (ahg⊕(((Int×af)×(af))⊕(((Int×af)×(af))⊕Empty))):=letI D:=W6 (x.1.2.1+1);letI C:=x.1.2.2.1;letI E:=ax (((-1),()),());bif C<(x.1.1.length:Int)then xI x.1.1 C λL=>bif (L.line != x.1.2.1)then E else xI x.1.1 C λO=>bif (O.code != D)then E else xI x.1.1 C λT=>bif (T.times != (W6 (D+1)))then E else xG ((x.1.1,(W6 ((W6 (D+1))+1)),(W6 (C+1)),()),())else aU ((x.1.2.1,()),())
def auO:KY 40 (aW f129):=⟨0,lB 0 ⟨[(0,.lf (.aF .fM 0)),(1,tI),(5,tI)],[],[]⟩ [(1,lN),(2,uP)] K2,lp []⟩
def K3(C:aa bV)(D:Int):ah (Int):=bE K2 ((C,D,0,()),()) (λE=>some E.1.1) λL=>some L.1.1
def auP:=bS [(false,(.sl .fM)),(false,.int)] cE (bx K3) 40 [] [auO] func129
abbrev ahh:=(((aa dA)×Int×Int×af)×(af))
def K4(x:ahh):ah (ahh⊕(((Int×af)×(af))⊕(((Int×af)×(af))⊕Empty))):=letI C:=x.1.1;letI D:=x.1.2.2.1;letI E:=ax (((-1),()),());letI O:=W6 ((W6 (x.1.2.1+1))+1);letI L:=W6 (O+1);bif D<(C.length:Int)then xI C D λT=>bif (T.at_ != x.1.2.1)then E else xI C D λU=>bif (U.cmd.kind != (W6 (x.1.2.1+1)))then E else xI C D λY=>bif (Y.cmd.ay != O)then E else xI C D λZ=>bif (Z.cmd.row != L)then E else xI C D λgR=>bif (gR.cmd.bR != (W6 (L+1)))then E else xG ((C,(W6 ((W6 (L+1))+1)),(W6 (D+1)),()),())else aU ((x.1.2.1,()),())
def auQ:KY 62 (aW f130):=⟨0,lB 0 ⟨[(0,.lf (.aF .Event 0)),(1,tI),(5,tI)],[],[]⟩ [(1,lN),(2,uP)] K4,lp []⟩
def K5(C:aa dA)(D:Int):ah (Int):=bE K4 ((C,D,0,()),()) (λE=>some E.1.1) λL=>some L.1.1
def auR:=bS [(false,(.sl .Event)),(false,.int)] cE (bx K5) 62 [] [auQ] func130
abbrev ahi:=(((aa cR)×Int×Int×af)×(af))
def K6(x:ahi):ah (ahi⊕(((Int×af)×(af))⊕(((Int×af)×(af))⊕Empty))):=letI C:=x.1.2.2.1;letI E:=W6 ((W6 (x.1.2.1+1))+1);letI D:=ax (((-1),()),());bif C<(x.1.1.length:Int)then xI x.1.1 C λL=>bif (L.id != x.1.2.1)then D else xI x.1.1 C λO=>bif (O.at_ != (W6 (x.1.2.1+1)))then D else xI x.1.1 C λT=>bif (T.data != E)then D else xI x.1.1 C λU=>bif (U.code != (W6 (E+1)))then D else xG ((x.1.1,(W6 ((W6 (E+1))+1)),(W6 (C+1)),()),())else aU ((x.1.2.1,()),())
def auS:KY 49 (aW f131):=⟨0,lB 0 ⟨[(0,.lf (.aF .iP 0)),(1,tI),(5,tI)],[],[]⟩ [(1,lN),(2,uP)] K6,lp []⟩
def K7(C:aa cR)(D:Int):ah (Int):=bE K6 ((C,D,0,()),()) (λE=>some E.1.1) λL=>some L.1.1
def auT:=bS [(false,(.sl .iP)),(false,.int)] cE (bx K7) 49 [] [auS] func131
def Ru(C:av)(x1:Int):ah (Int):=(Zc C.box x1).bind λD=>bif D<0 then some (-1)else (Zd C.bq D).bind λE=>bif E<0 then some (-1)else (Ze C.ready E).bind λL=>bif L<0 then some (-1)else (Zf C.array L).bind λO=>bif O<0 then some (-1)else (Zg C.spare O).bind λT=>bif T<0 then some (-1)else (Zh C.aV T).bind λU=>bif U<0 then some (-1)else (Rt C.bL U).bind λY=>bif Y<0 then some (-1)else (qk C.guard Y).bind λZ=>bif Z<0 then some (-1)else (KV C.pending Z).bind λy9=>bif y9<0 then some (-1)else (KZ C.queue y9).bind λku=>bif ku<0 then some (-1)else (K1 C.shares ku).bind λfW=>bif fW<0 then some (-1)else (K3 C.errors fW).bind λjd=>bif jd<0 then some (-1)else (K5 C.trace jd).bind λje=>bif je<0 then some (-1)else (K7 C.cr je).bind λmc=>bif mc<0 then some (-1)else some mc
def auU:=aZ Y9 cE (bx Ru) 90 [auv,auz,auA,auD,auE,auF,auH,AV,auJ,auL,auN,auP,auR,auT] func14
def Zi(D:aa Int)(E:Int):ah (Int):=letI C:=W6 (E-(D.length:Int));bif C<0 then some (-1)else some C
def auV:=aZ AS cE (bx Zi) 12 [] func43
def K8(D:dB)(E:Int):ah (Int):=(Zi D.weights E).bind λC=>bif C<0 then some (-1)else some C
def ahj:=aZ [(true,.jK),(false,.int)] cE (bx K8) 12 [auV] func19
def K9(D:cV)(E:Int):ah (Int):=(K8 D.bW E).bind λC=>bif C<0 then some (-1)else some C
def auW:=aZ [(true,.Act),(false,.int)] cE (bx K9) 12 [ahj] func30
abbrev ahk:=(((aa cV)×Int×Int×af)×(af))
def ahl(x:ahk):ah (ahk⊕(((Int×af)×(af))⊕(((Int×af)×(af))⊕Empty))):=bif x.1.2.2.1<(x.1.1.length:Int)then xI x.1.1 x.1.2.2.1 λD=>(K9 D x.1.2.1).bind λC=>bif C<0 then ax (((-1),()),())else xG ((x.1.1,C,(W6 (x.1.2.2.1+1)),()),())else aU ((x.1.2.1,()),())
def auX:KY 27 (aW f20):=⟨0,lB 0 ⟨[(0,.lf (.aF .Act 0)),(1,tI),(5,tI)],[],[]⟩ [(1,lN),(2,uP)] ahl,lp [auW]⟩
def Rv(C:aa cV)(E:Int):ah (Int):=letI D:=W6 (E-(C.length:Int));bif D<0 then some (-1)else bE ahl ((C,D,0,()),()) (λL=>some L.1.1) λO=>some O.1.1
def auY:=bS [(false,(.sl .Act)),(false,.int)] cE (bx Rv) 27 [] [auX] func20
def wJ(C:dB):ah (dB):=bif xZ C.weights then some (⟨C.dM,C.cap,C.dK,C.low,C.high,(xA C.weights),C.de⟩:dB)else none
def Rw:=aZ Dv [(true,.jK,2)] (bO wJ) 9 [] func288
def La(C:fL):ah (fL):=(wJ C.bK).bind λD=>(wJ C.next).bind λE=>some (⟨D,E,C.waits⟩:fL)
def Zj:=aZ [(true,.mC)] [(true,.mC,2)] (bO La) 12 [Rw] func158
def Zk(C:cH):ah (cH):=bif xZ C.aC then some (⟨(xA C.aC),C.bk⟩:cH)else none
def auZ:=aZ [(true,.iO)] [(true,.iO,2)] (bO Zk) 10 [] func159
end Go.Proofs.YtnilicojgkhpnaaGreat
