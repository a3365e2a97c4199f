/-
  Functions that proofs compare with, as plain functions. Nothing here is a claim.
-/
import Derived.Test.YtgjfmljpdnnihaaGreatVZ
import Derived.Test.YtgjfmljpdnnihaaGreatRep
import Derived.Test.YtgjfmljpdnnihaaGreatG1
import Derived.Test.YtgjfmljpdnnihaaGreatG2
import Derived.Test.YtgjfmljpdnnihaaGreatG3
import Derived.Test.YtgjfmljpdnnihaaGreatG4
import Derived.Test.YtgjfmljpdnnihaaGreatG5
import Derived.Test.YtgjfmljpdnnihaaGreatG6
import Derived.Test.YtgjfmljpdnnihaaGreatG7
import Derived.Test.YtgjfmljpdnnihaaGreatG8
namespace Go.Proofs.YtgjfmljpdnnihaaGreat
open Go.RowKit
set_option linter.unusedVariables false
set_option maxRecDepth 100000
abbrev ahZ:=((Int×af×af×af×Int×Int×af)×(((aa Int)×Int×Bool×af)×(af×Int×Bool×af)×(af×Int×Bool×af)×(aa Int)×(aa Int)×af))
def awT(x:ahZ):aj (ahZ⊕(((Int×af×af×af×af)×(((aa Int)×Int×Bool×af)×(af×Int×Bool×af)×(af×Int×Bool×af)×(aa Int)×(aa Int)×af))⊕Empty)):=letI I:=((),x.2.2.1.2.1,x.2.2.1.2.2.1,());letI D:=x.2.2.2;letI E:=D.2.2.1;letI L:=((),D.1.2.1,D.1.2.2.1,());letI C:=x.1.2.2.2.2;bif C.2.1<C.1 then xL E C.2.1 λT=>letI O:=W6 (T+1);xL E C.2.1 λU=>xG ((x.1.1,(),(),(),C.1,(W6 (C.2.1+1)),()),(x.2.1,I,L,D.2.1,(E.set C.2.1.toNat (if 5<O then 5 else O)),()))else az ((x.1.1,(),(),(),()),(x.2.1,I,L,D.2.1,E,()))
def awU(D:dn)(O:Int):aj (dn):=(Fx D).bind λC=>letI L:=W6 (C.wait-1);(zS D).bind λT=>bif (!T)then some C else (cB O 2 10000).bind λU=>bif (!U)then some C else bif L > 0 then some (⟨C.aJ,L,C.eP⟩:dn)else br awT ((O,(),(),(),(C.aJ.length:Int),0,()),((D.aJ,D.wait,D.eP,()),((),0,false,()),((),L,C.eP,()),([]:aa Int),C.aJ,())) λE=>letI I:=E.2.2.2;bif E.2.1.2.2.1 then some (⟨I.2.2.1,(W6 (E.1.1.tdiv 2)),I.1.2.2.1⟩:dn)else some (⟨I.2.2.1,E.1.1,I.1.2.2.1⟩:dn)
abbrev ah0:=((Int×af×af×Int×Int×af)×((af×af×af×af)×(af×af×af×af)×(aa cq)×(aa Int)×(aa Int)×(aa cq)×(aa Int)×(aa Int)×af))
def awV(x:ah0):aj (ah0⊕(((af×af×af)×((af×af×af×af)×(af×af×af×af)×(aa cq)×(aa Int)×(aa Int)×(aa cq)×(aa Int)×(aa Int)×af))⊕Empty)):=letI D:=x.2.2.2;letI L:=((),(),(),());letI E:=x.1.2.2.2.2.1;letI I:=D.2.2;letI C:=I.2.2;bif E<x.1.2.2.2.1 then xL C.1 E λT=>letI O:=W6 (T+x.1.1);xL C.1 E λU=>xG ((x.1.1,(),(),x.1.2.2.2.1,(W6 (E+1)),()),(L,L,D.1,D.2.1,I.1,I.2.1,(C.1.set E.toNat (if 100000<O then 100000 else O)),C.2.1,()))else az (((),(),()),(L,L,D.1,D.2.1,I.1,I.2.1,C.1,C.2.1,()))
def awW(L:aI)(E:en)(I:Int):aj (en):=(KF E).bind λC=>(It L E).bind λO=>bif (!O)then some C else (cB I 0 100000).bind λT=>bif (!T)then some C else br awV ((I,(),(),(C.bC.length:Int),0,()),(((),(),(),()),((),(),(),()),([]:aa cq),([]:aa Int),([]:aa Int),C.cells,C.bC,C.bw,())) λU=>letI D:=U.2.2.2.2.2.2;some (⟨D.1,D.2.1,D.2.2.1⟩:en)
def ah1(C:jc)(D:Int):aj (jc):=(B3 C).bind λE=>bif (!E)then some C else bif D >= C.high then some (⟨true,C.low,C.high⟩:jc)else bif D <= C.low then some (⟨false,C.low,C.high⟩:jc)else some C
abbrev ah2:=((Bool×Int×(aa aZ)×Int×Int×af)×(af))
def awX(x:ah2):aj (ah2⊕(((Int×af)×(af))⊕Empty)):=letI C:=x.1.2.2;letI D:=C.2.2.1;bif D<C.2.1 then xI C.1 D λE=>bif (E.write==x.1.1)then xG ((x.1.1,(W6 (x.1.2.1+1)),C.1,C.2.1,(W6 (D+1)),()),())else xG ((x.1.1,x.1.2.1,C.1,C.2.1,(W6 (D+1)),()),())else az ((x.1.2.1,()),())
def ah3(C:aa aZ)(D:Bool):aj (Int):=br awX ((D,0,C,(C.length:Int),0,()),()) λE=>some E.1.1
def ah4(C:fA)(E:Bool):aj (fA):=letI D:=W6 (C.idle+1);(B9 C).bind λI=>bif (!I)then some C else bif E then some (⟨C.state,C.since,0⟩:fA)else some (⟨C.state,C.since,(if 1000000<D then 1000000 else D)⟩:fA)
def awY(C:iE)(E:Bool):aj (iE×Bool):=(KD C).bind λD=>bif (!E)then some (D,false)else bif (!C.waits)then some (D,false)else (KB C.next).bind λI=>some ((⟨I,D.next,false⟩:iE),true)
def QX(C:oL)(D:Int):aj (oL×Int):=letI E:=some (C,(-1));(cB C.every 1 100000).bind λI=>bif (!I)then E else (cB C.wait 1 C.every).bind λL=>bif (!L)then E else bif D<1 then E else (cB C.next 0 (W6 (D-1))).bind λO=>bif (!O)then E else bif (W6 (C.wait-1)) > 0 then some ((⟨C.next,C.every,(W6 (C.wait-1))⟩:oL),(-1))else if D=0 then none else some ((⟨((W6 (C.next+1)).tmod D),C.every,C.every⟩:oL),C.next)
def awZ(D:av):aj (av):=letI O:=zO D.config.ax;(KG D).bind λC=>letI u6:=awY C.box ((C.queue.length:Int)==0);letI E:=W6 (C.now+1);(zV D).bind λy2=>bif (!y2)then some C else bif (D.now==1000000)then some C else bif (C.aY.aT != 2)then (awU C.aS D.config.interval).bind λy3=>(awW D.config.ax C.array 1).bind λy4=>(ah3 C.queue true).bind λy5=>(ah1 C.drain y5).bind λy6=>(Fk {C with now:=E,array:=y4,aS:=y3,drain:=y6}).bind λy7=>(ah4 C.aT y7).bind λy8=>u6.bind λI=>bif I.2 then (B2 I.1.bT.weights).bind λlM=>O.bind λgK=>(QX C.cU gK).bind λT=>letI U:={C with box:=I.1,now:=E,array:=y4,aS:=y3,shares:=lM.1,drain:=⟨false,I.1.bT.low,I.1.bT.high⟩,aT:=y8,cU:=T.1};bif T.2 >= 0 then (Aw U T.2).bind λiV=>(Av iV.2.1 T.2 iV.1.2).bind λlN=>(sM lN.2.1).bind λkj=>bif (kj.1.kind != 0)then (rK lN.2.1 kj.1 kj.2).bind λmR=>some mR.1 else some lN.2.1 else (sM U).bind λjL=>bif (jL.1.kind != 0)then (rK U jL.1 jL.2).bind λpH=>some pH.1 else some U else O.bind λxx=>(QX C.cU xx).bind λY=>letI Z:={C with box:=I.1,now:=E,array:=y4,aS:=y3,drain:=y6,aT:=y8,cU:=Y.1};bif Y.2 >= 0 then (Aw Z Y.2).bind λPv=>(Av Pv.2.1 Y.2 Pv.1.2).bind λlO=>(sM lO.2.1).bind λuk=>bif (uk.1.kind != 0)then (rK lO.2.1 uk.1 uk.2).bind λvC=>some vC.1 else some lO.2.1 else (sM Z).bind λAo=>bif (Ao.1.kind != 0)then (rK Z Ao.1 Ao.2).bind λPW=>some PW.1 else some Z else (ah3 C.queue true).bind λFa=>(ah1 C.drain Fa).bind λFg=>(Fk {C with now:=E,drain:=Fg}).bind λJ8=>(ah4 C.aT J8).bind λP4=>u6.bind λL=>bif L.2 then (B2 L.1.bT.weights).bind λy32=>O.bind λEX=>(QX C.cU EX).bind λFb=>letI u0:={C with box:=L.1,now:=E,shares:=y32.1,drain:=⟨false,L.1.bT.low,L.1.bT.high⟩,aT:=P4,cU:=Fb.1};bif Fb.2 >= 0 then (Aw u0 Fb.2).bind λy35=>(Av y35.2.1 Fb.2 y35.1.2).bind λKa=>(sM Ka.2.1).bind λJ1=>bif (J1.1.kind != 0)then (rK Ka.2.1 J1.1 J1.2).bind λy38=>some y38.1 else some Ka.2.1 else (sM u0).bind λXP=>bif (XP.1.kind != 0)then (rK u0 XP.1 XP.2).bind λy40=>some y40.1 else some u0 else O.bind λy41=>(QX C.cU y41).bind λQY=>letI u2:={C with box:=L.1,now:=E,drain:=Fg,aT:=P4,cU:=QY.1};bif QY.2 >= 0 then (Aw u2 QY.2).bind λy43=>(Av y43.2.1 QY.2 y43.1.2).bind λXQ=>(sM XQ.2.1).bind λKq=>bif (Kq.1.kind != 0)then (rK XQ.2.1 Kq.1 Kq.2).bind λy46=>some y46.1 else some XQ.2.1 else (sM u2).bind λXR=>bif (XR.1.kind != 0)then (rK u2 XR.1 XR.2).bind λy48=>some y48.1 else some u2
end Go.Proofs.YtgjfmljpdnnihaaGreat
