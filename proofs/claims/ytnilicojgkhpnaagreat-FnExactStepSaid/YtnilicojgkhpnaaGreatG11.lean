/-
  Functions of the program as plain functions of contents, and that the code computes them. Nothing here is a claim.
-/
import Derived.Test.YtnilicojgkhpnaaGreatVZ
import Derived.Test.YtnilicojgkhpnaaGreatRows
import Derived.Test.YtnilicojgkhpnaaGreatG1
import Derived.Test.YtnilicojgkhpnaaGreatG2
import Derived.Test.YtnilicojgkhpnaaGreatG3
import Derived.Test.YtnilicojgkhpnaaGreatG4
import Derived.Test.YtnilicojgkhpnaaGreatG5
import Derived.Test.YtnilicojgkhpnaaGreatG6
import Derived.Test.YtnilicojgkhpnaaGreatG7
import Derived.Test.YtnilicojgkhpnaaGreatG8
import Derived.Test.YtnilicojgkhpnaaGreatG9
import Derived.Test.YtnilicojgkhpnaaGreatG10
namespace Go.Proofs.YtnilicojgkhpnaaGreat
set_option linter.defProp false
open Go.RowKit Go.Proofs.Tryz
set_option linter.unusedVariables false
set_option maxRecDepth 100000
abbrev ajb:=(((aa bk)×Int×Int×af)×(af))
def K4(x:ajb):ah (ajb⊕(((Int×af)×(af))⊕(((Int×af)×(af))⊕Empty))):=letI C:=x.1.1;letI L:=W6 (x.1.2.1+1);letI D:=x.1.2.2.1;letI E:=aq (((-1),()),());letI T:=W6 ((W6 (L+1))+1);letI O:=W6 (T+1);bif D<(C.length:Int)then xI C D λU=>bif (U.id != x.1.2.1)then E else xI C D λY=>bif (Y.de != L)then E else xI C D λZ=>bif (Z.line != (W6 (L+1)))then E else xI C D λe8=>bif (!(e8.write==((T.tmod 3)==0)))then E else xI C D λiU=>bif (iU.data != O)then E else xI C D λlN=>bif (lN.at_ != (W6 (O+1)))then E else xG ((C,(W6 ((W6 (O+1))+1)),(W6 (D+1)),()),())else aM ((x.1.2.1,()),())
def ay6:KY 69 (aN f127):=⟨0,lB 0 Wt [(1,jo),(2,qN)] K4,lp []⟩
def K5(C:aa bk)(D:Int):ah (Int):=br K4 ((C,D,0,()),()) (λE=>some E.1.1) λL=>some L.1.1
def ay7:=bJ DH bS (aY K5) 69 [] [ay6] func127
abbrev ajc:=(((aa bM)×Int×Int×af)×(af))
def K6(x:ajc):ah (ajc⊕(((Int×af)×(af))⊕(((Int×af)×(af))⊕Empty))):=letI C:=x.1.2;bif C.2.1<(x.1.1.length:Int)then xI x.1.1 C.2.1 λD=>bif (D.weight != C.1)then aq (((-1),()),())else xI x.1.1 C.2.1 λE=>bif (E.dU != (W6 (C.1+1)))then aq (((-1),()),())else xG ((x.1.1,(W6 ((W6 (C.1+1))+1)),(W6 (C.2.1+1)),()),())else aM ((C.1,()),())
def ay8:KY 31 (aN f128):=⟨0,lB 0 ⟨[(0,.lf (.aC .dz 0)),(1,tI),(5,tI)],[],[]⟩ [(1,jo),(2,qN)] K6,lp []⟩
def K7(C:aa bM)(D:Int):ah (Int):=br K6 ((C,D,0,()),()) (λE=>some E.1.1) λL=>some L.1.1
def ay9:=bJ [(false,(.sl .dz)),(false,.int)] bS (aY K7) 31 [] [ay8] func128
abbrev ajd:=(((aa bK)×Int×Int×af)×(af))
def K8(x:ajd):ah (ajd⊕(((Int×af)×(af))⊕(((Int×af)×(af))⊕Empty))):=letI D:=W6 (x.1.2.1+1);letI C:=x.1.2.2.1;letI E:=aq (((-1),()),());bif C<(x.1.1.length:Int)then xI x.1.1 C λL=>bif (L.line != x.1.2.1)then E else xI x.1.1 C λO=>bif (O.code != D)then E else xI x.1.1 C λT=>bif (T.times != (W6 (D+1)))then E else xG ((x.1.1,(W6 ((W6 (D+1))+1)),(W6 (C+1)),()),())else aM ((x.1.2.1,()),())
def aza:KY 40 (aN f129):=⟨0,lB 0 ⟨[(0,.lf (.aC .dG 0)),(1,tI),(5,tI)],[],[]⟩ [(1,jo),(2,qN)] K8,lp []⟩
def K9(C:aa bK)(D:Int):ah (Int):=br K8 ((C,D,0,()),()) (λE=>some E.1.1) λL=>some L.1.1
def azb:=bJ [(false,(.sl .dG)),(false,.int)] bS (aY K9) 40 [] [aza] func129
abbrev aje:=(((aa cz)×Int×Int×af)×(af))
def La(x:aje):ah (aje⊕(((Int×af)×(af))⊕(((Int×af)×(af))⊕Empty))):=letI C:=x.1.1;letI D:=x.1.2.2.1;letI E:=aq (((-1),()),());letI O:=W6 ((W6 (x.1.2.1+1))+1);letI L:=W6 (O+1);bif D<(C.length:Int)then xI C D λT=>bif (T.at_ != x.1.2.1)then E else xI C D λU=>bif (U.cmd.kind != (W6 (x.1.2.1+1)))then E else xI C D λY=>bif (Y.cmd.au != O)then E else xI C D λZ=>bif (Z.cmd.row != L)then E else xI C D λiU=>bif (iU.cmd.bG != (W6 (L+1)))then E else xG ((C,(W6 ((W6 (L+1))+1)),(W6 (D+1)),()),())else aM ((x.1.2.1,()),())
def azc:KY 62 (aN f130):=⟨0,lB 0 ⟨[(0,.lf (.aC .Event 0)),(1,tI),(5,tI)],[],[]⟩ [(1,jo),(2,qN)] La,lp []⟩
def Lb(C:aa cz)(D:Int):ah (Int):=br La ((C,D,0,()),()) (λE=>some E.1.1) λL=>some L.1.1
def azd:=bJ [(false,(.sl .Event)),(false,.int)] bS (aY Lb) 62 [] [azc] func130
abbrev ajf:=(((aa cG)×Int×Int×af)×(af))
def Lc(x:ajf):ah (ajf⊕(((Int×af)×(af))⊕(((Int×af)×(af))⊕Empty))):=letI C:=x.1.2.2.1;letI E:=W6 ((W6 (x.1.2.1+1))+1);letI D:=aq (((-1),()),());bif C<(x.1.1.length:Int)then xI x.1.1 C λL=>bif (L.id != x.1.2.1)then D else xI x.1.1 C λO=>bif (O.at_ != (W6 (x.1.2.1+1)))then D else xI x.1.1 C λT=>bif (T.data != E)then D else xI x.1.1 C λU=>bif (U.code != (W6 (E+1)))then D else xG ((x.1.1,(W6 ((W6 (E+1))+1)),(W6 (C+1)),()),())else aM ((x.1.2.1,()),())
def aze:KY 49 (aN f131):=⟨0,lB 0 ⟨[(0,.lf (.aC .fo 0)),(1,tI),(5,tI)],[],[]⟩ [(1,jo),(2,qN)] Lc,lp []⟩
def Ld(C:aa cG)(D:Int):ah (Int):=br Lc ((C,D,0,()),()) (λE=>some E.1.1) λL=>some L.1.1
def azf:=bJ [(false,(.sl .fo)),(false,.int)] bS (aY Ld) 49 [] [aze] func131
def Rv(C:av)(x1:Int):ah (Int):=(XX C.box x1).bind λD=>bif D<0 then some (-1)else (XY C.aX D).bind λE=>bif E<0 then some (-1)else (XZ C.ready E).bind λL=>bif L<0 then some (-1)else (X0 C.array L).bind λO=>bif O<0 then some (-1)else (X3 C.spare O).bind λT=>bif T<0 then some (-1)else (X4 C.aL T).bind λU=>bif U<0 then some (-1)else (Ru C.bx U).bind λY=>bif Y<0 then some (-1)else (nO C.guard Y).bind λZ=>bif Z<0 then some (-1)else (K3 C.pending Z).bind λy9=>bif y9<0 then some (-1)else (K5 C.queue y9).bind λfW=>bif fW<0 then some (-1)else (K7 C.shares fW).bind λdQ=>bif dQ<0 then some (-1)else (K9 C.errors dQ).bind λfK=>bif fK<0 then some (-1)else (Lb C.trace fK).bind λfX=>bif fX<0 then some (-1)else (Ld C.cA fX).bind λiB=>bif iB<0 then some (-1)else some iB
def azg:=aJ WD bS (aY Rv) 90 [ayS,ayV,ayW,ayZ,ay0,ay1,ay3,zl,ay5,ay7,ay9,azb,azd,azf] func14
def X5(E:av):ah (Bool):=(N7 E 1048576).bind λy1=>bif y1<0 then some true else (BI E).bind λy2=>(Ja y2).bind λL=>(BI E).bind λD=>(zi D).bind λC=>(B6 C L).bind λy6=>bif (!y6)then some false else (BI E).bind λy7=>(B6 D y7).bind λy8=>bif (!y8)then some false else (fy D.box.bz.weights 1).bind λy9=>(fy D.box.next.weights y9.1).bind λfW=>(B7 D.aX.ay fW.1).bind λdQ=>(fy D.ready.last dQ.1).bind λfK=>(fy D.ready.bg fK.1).bind λfX=>(EZ D.array.cells fX.1).bind λiB=>(fy D.array.bh iB.1).bind λgD=>(fy D.array.aZ gD.1).bind λjq=>(fy D.spare.map jq.1).bind λfT=>(fy D.aL.aE fT.1).bind λiV=>(E0 D.bx iV.1).bind λsu=>(fy D.guard su.1).bind λyI=>(B8 D.pending yI.1).bind λDY=>(Ca D.queue DY.1).bind λiW=>(Cb D.shares iW.1).bind λpR=>(Cc D.errors pR.1).bind λoE=>(Cd D.trace oE.1).bind λuy=>(Ce D.cA uy.1).bind λEe=>bif Ee.1<0 then some false else (B6 C L).bind λyU=>bif (!yU)then some false else (fy C.box.bz.weights 1).bind λT=>(fy C.box.next.weights T.1).bind λU=>(B7 C.aX.ay U.1).bind λY=>(fy C.ready.last Y.1).bind λZ=>(fy C.ready.bg Z.1).bind λQV=>(EZ C.array.cells QV.1).bind λwB=>(fy C.array.bh wB.1).bind λwC=>(fy C.array.aZ wC.1).bind λKo=>(fy C.spare.map Ko.1).bind λyV=>(fy C.aL.aE yV.1).bind λyS=>(E0 C.bx yS.1).bind λQW=>(fy C.guard QW.1).bind λyJ=>(B8 C.pending yJ.1).bind λQX=>(Ca C.queue QX.1).bind λQY=>(Cb C.shares QY.1).bind λB5=>(Cc C.errors B5.1).bind λKp=>(Cd C.trace Kp.1).bind λEY=>(Ce C.cA EY.1).bind λO=>letI u0:=Rv (⟨C.config,⟨⟨C.box.bz.dR,C.box.bz.cap,C.box.bz.eI,C.box.bz.low,C.box.bz.high,T.2.1,C.box.bz.dO⟩,⟨C.box.next.dR,C.box.next.cap,C.box.next.eI,C.box.next.low,C.box.next.high,U.2.1,C.box.next.dO⟩,C.box.waits⟩,C.now,⟨Y.2.1,C.aX.aS⟩,⟨Z.2.1,QV.2.1⟩,⟨wB.2.1,wC.2.1,Ko.2.1⟩,⟨C.spare.bT,yV.2.1⟩,⟨yS.2.1,C.aL.wait,C.aL.dj⟩,QW.2.1,yJ.2.1,QX.2.1,QY.2.1,B5.2.1,C.drain,C.aS,C.cu,Kp.2.1,EY.2.1,O.2.1⟩:av) 1;u0.bind λQZ=>bif QZ<0 then some false else bif (QZ != O.1)then some false else (BI E).bind λKq=>(zi Kq).bind λXW=>(B6 XW L).bind λy49=>bif (!y49)then some false else u0.bind λy50=>bif y50<0 then some false else bif (y50 != O.1)then some false else some true
def azh:gI:=fV [(true,.cx)] [(false,.bool,0)] (λx=>X5 x.1)
def azi:enters Tryz.prog 3/\gu Tryz.prog 3 azh:=kp 69 [aq3,atP,auC,axN,ayx,⟨13,.i _,ayP⟩,azg] func3
end Go.Proofs.YtnilicojgkhpnaaGreat
