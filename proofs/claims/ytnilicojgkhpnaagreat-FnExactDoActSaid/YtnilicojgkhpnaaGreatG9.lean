/-
  Functions of the program as plain functions of contents, and that the code computes them. Nothing here is a claim.
-/
import Derived.Test.YtnilicojgkhpnaaGreatVZ
import Derived.Test.YtnilicojgkhpnaaGreatRows
import Derived.Test.YtnilicojgkhpnaaGreatG1
import Derived.Test.YtnilicojgkhpnaaGreatG2
import Derived.Test.YtnilicojgkhpnaaGreatG3
import Derived.Test.YtnilicojgkhpnaaGreatG4
import Derived.Test.YtnilicojgkhpnaaGreatG5
import Derived.Test.YtnilicojgkhpnaaGreatG6
import Derived.Test.YtnilicojgkhpnaaGreatG7
import Derived.Test.YtnilicojgkhpnaaGreatG8
namespace Go.Proofs.YtnilicojgkhpnaaGreat
open Go.RowKit Go.Proofs.Tryz
set_option linter.unusedVariables false
set_option maxRecDepth 100000
abbrev akQ:=(((aa aJ)×af×Int×Int×af)×((Int×Int×Int×af)×af))
def MF(x:akQ):ah (akQ⊕(((Int×af)×(af))⊕(((af)×(af))⊕Empty))):=letI C:=x.1.2.2.2.1;bif C<x.1.2.2.1 then xI x.1.1 C λD=>bif ((x.2.1.1==D.ay)&&((x.2.1.2.1==D.row)&&((x.2.1.2.2.1==D.bT)&&true)))then av ((C,()),())else xG ((x.1.1,(),x.1.2.2.1,(W6 (C+1)),()),(x.2.1,()))else aQ ((),())
def azN:KY 19 (aW f333):=⟨0,lB 0 ⟨[(0,.lf (.aF .Addr 0)),(3,.aH 3 0),(7,tI),(8,tI)],[(3,.aB JH)],[]⟩ [(1,kC),(2,fq)] MF,lp []⟩
def Gu(D:aa aJ)(C:aJ):ah (Int):=(iter MF aX ((D,(),(D.length:Int),0,()),((C.ay,C.row,C.bT,()),()))).bind (Sum.elim (λE=>some E.1.1) (Sum.elim (λL=>some (-1)) (λz=>nomatch z)))
def akR:=bS Ze cm (bq Gu) 19 [] [azN] func333
abbrev akS:=((af×af×Int×Int×af)×(ax×(Int×Int×Int×Int×af)×af))
def S7(x:akS):ah (akS⊕(((Bool×af)×(af))⊕(((af×af×af)×(ax×(Int×Int×Int×Int×af)×af))⊕Empty))):=letI C:=x.1.2.2.2.1;bif C<x.1.2.2.1 then xI x.2.1.bJ C λD=>(AR D).bind λE=>bif (!E)then av ((false,()),())else xI x.2.1.guard C λL=>(cA L 3 1000).bind λO=>bif (!O)then av ((false,()),())else xG (((),(),x.1.2.2.1,(W6 (C+1)),()),(x.2.1,x.2.2.1,()))else aQ (((),(),()),(x.2.1,x.2.2.1,()))
def azO:KY 94 (aW f217):=⟨0,lB 0 ⟨[(1,.aH 1 0),(3,.aH 3 0),(47,tI),(48,tI)],Zg,[]⟩ [(1,oB),(2,⟨[(1,.aH 1 0),(3,.aH 3 0)],Zg,[]⟩)] S7,lp [ef,akP]⟩
abbrev akT:=((af×af×(aa aJ)×Int×Int×af)×(ax×(Int×Int×Int×Int×af)×af))
def S8(x:akT):ah (akT⊕(((Bool×af)×(af))⊕(((af)×(af))⊕Empty))):=letI C:=x.2.2.1;letI L:=av ((false,()),());letI D:=x.1.2.2;letI E:=D.2.2.1;bif E<D.2.1 then xI D.1 E λO=>(yx (⟨C.1,C.2.1,C.2.2.1,C.2.2.2.1⟩:aM) O).bind λT=>bif (!T)then L else bif (O.bT != 0)then L else (Gu x.2.1.pending O).bind λU=>bif (U != E)then L else xG (((),(),D.1,D.2.1,(W6 (E+1)),()),(x.2.1,C,()))else aQ ((),())
def azP:KY 94 (aW f217):=⟨2,lB 2 ⟨[(1,.aH 1 0),(3,.aH 3 0),(69,.lf (.aF .Addr 0)),(70,tI),(71,tI)],Zg,[]⟩ [(1,oB),(4,fq)] S8,lp [MB,akR]⟩
def S9(C:ax):ah (Bool):=(oD C.config.az).bind λE=>(yz C.aV).bind λL=>bif (!L)then some false else bif ((C.aV.aI.length:Int) != E)then some false else bif ((C.bJ.length:Int) != E)then some false else bif ((C.guard.length:Int) != E)then some false else bif (C.pending.length:Int) > 128 then some false else bE S7 (((),(),(C.bJ.length:Int),0,()),(C,(C.config.az.cu,C.config.az.aC,C.config.az.rows,C.config.az.aO,()),())) (λO=>some O.1.1) λD=>bE S8 (((),(),D.2.1.pending,(D.2.1.pending.length:Int),0,()),(D.2.1,D.2.2.1,())) (λT=>some T.1.1) λU=>some true
def azQ:=bS sN bR (bG S9) 94 [Gt,rH] [azO,azP] func217
def Dz(C:Int):ah (Bool):=(cA C 0 4294967295).bind λD=>some D
def aaj:=aP mz bR (bG Dz) 5 [ef] func415
def Ta(E:Int)(C:aK):ah (Bool):=letI D:=(cA C.at_ 0 1000000).bind λL=>some L;(cA C.id 1 100000).bind λO=>bif O then (cA C.dm 0 3).bind λT=>bif T then bif C.line >= 0 then bif C.line<E then (Dz C.data).bind λU=>bif U then bif C.write then D else bif (C.data==0)then D else some false else some false else some false else some false else some false else some false
def azR:=aP [(false,.int),(true,.cW)] bR (bq Ta) 43 [ef,aaj] func334
def MG(C D:aK):ah (Bool):=bif C.at_<D.at_ then some true else bif (C.at_==D.at_)then some (C.id<D.id)else some false
def akU:=aP Zi bR (bq MG) 24 [] func335
abbrev akV:=((Int×(aa aK)×af×(aa aK)×Int×Int×(aa aK)×Int×Int×af)×((Int×Int×Int×Bool×Int×Int×af)×af))
def Gw(x:akV):ah (akV⊕(((Bool×af)×(af))⊕(((Int×(aa aK)×(aa aK)×Int×Int×af)×(af))⊕Empty))):=letI D:=x.1.2.2.2.2;letI C:=D.2.2;bif C.2.2.1<C.2.1 then xI C.1 C.2.2.1 λE=>bif (E.id==x.2.1.1)then av ((false,()),())else xG ((x.1.1,x.1.2.1,(),x.1.2.2.2.1,D.1,D.2.1,C.1,C.2.1,(W6 (C.2.2.1+1)),()),(x.2.1,()))else aQ ((x.1.1,x.1.2.1,x.1.2.2.2.1,D.1,D.2.1,()),())
def akW:KY 52 (rD (aW f218) 0):=⟨2,lB 2 ⟨[(0,tI),(1,.lf (.aF .cW 0)),(6,.aH 6 0),(9,.lf (.aF .cW 0)),(10,tI),(11,tI),(36,.lf (.aF .cW 0)),(37,tI),(38,tI)],[(6,.aB Fp)],[]⟩ [(1,gR),(4,agk)] Gw,lp []⟩
abbrev akX:=((Int×(aa aK)×(aa aK)×Int×Int×af)×(af))
def MI(x:akX):ah (akX⊕(((Bool×af)×(af))⊕((((aa aK)×af)×(af))⊕Empty))):=letI C:=x.1.2;letI D:=C.2.2.2.1;letI O:=(C.1.take D.toNat).drop (0:Int).toNat;bif D<C.2.2.1 then xI C.2.1 D λE=>letI T:=if 0 <= (0:Int)/\0 <= D/\D <= (C.1.length:Int)then bE Gw ((x.1.1,C.1,(),C.2.1,C.2.2.1,D,O,(O.length:Int),0,()),((E.id,E.dm,E.line,E.write,E.data,E.at_,()),())) (λU=>av ((U.1.1,()),())) λL=>xG ((L.1.1,L.1.2.1,L.1.2.2.1,L.1.2.2.2.1,(W6 (L.1.2.2.2.2.1+1)),()),())else none;(Ta x.1.1 E).bind λY=>bif (!Y)then av ((false,()),())else bif D > 0 then xI C.1 (W6 (D-1)) λZ=>(MG Z E).bind λy6=>bif (!y6)then av ((false,()),())else T else T else aQ ((C.1,()),())
def azS:KY 52 (aW f218):=⟨0,lB 0 agk [(1,gR),(2,⟨[(1,.lf (.aF .cW 0))],[],[]⟩)] MI,lq [azR,akU] [akW,akW]⟩
def DA(D:Int)(C:aa aK):ah (Bool):=bE MI ((D,C,C,(C.length:Int),0,()),()) (λE=>some E.1.1) λL=>some ((L.1.1.length:Int) <= 12)
def akY:=bS [(false,.int),(false,(.sl .cW))] bR (bq DA) 52 [] [azS] func218
def yA(C:aM)(D:cQ):ah (aM):=(MA C D).bind λE=>bif (!E)then some (⟨0,0,0,0⟩:aM)else some (⟨C.cu,C.aC,(W6 (C.rows-D.bQ)),C.aO⟩:aM)
def Gx:=aP Qr [(true,.fA,0)] (bq yA) 17 [akL] func219
def DB(C:eN):ah (Bool):=(cA C.state 0 2).bind λD=>bif D then (cA C.since 0 1000000).bind λE=>bif E then (cA C.idle 0 1000000).bind λL=>some L else some false else some false
def Tb:=aP [(true,.Power)] bR (bG DB) 16 [ef] func222
abbrev akZ:=(((aa bW)×af×(aa bW)×Int×Int×(aa bW)×Int×Int×af)×((Int×Int×Int×af)×af))
def Gy(x:akZ):ah (akZ⊕(((Bool×af)×(af))⊕((((aa bW)×(aa bW)×Int×Int×af)×(af))⊕Empty))):=letI D:=x.1.2.2;letI C:=D.2.2;letI E:=xG ((x.1.1,(),D.1,D.2.1,C.1,C.2.1,C.2.2.1,(W6 (C.2.2.2.1+1)),()),(x.2.1,()));bif C.2.2.2.1<C.2.2.1 then xI C.2.1 C.2.2.2.1 λL=>bif (x.2.1.1==L.line)then bif (x.2.1.2.1==L.code)then av ((false,()),())else E else E else aQ ((x.1.1,D.1,D.2.1,C.1,()),())
def ak0:KY 59 (rD (aW f223) 0):=⟨2,lB 2 ⟨[(0,.lf (.aF .eH 0)),(4,.aH 4 0),(7,.lf (.aF .eH 0)),(8,tI),(9,tI),(36,.lf (.aF .eH 0)),(37,tI),(38,tI)],[(4,.aB JH)],[]⟩ [(1,oB),(4,agt)] Gy,lp []⟩
abbrev ak1:=(((aa bW)×(aa bW)×Int×Int×af)×(af))
def MJ(x:ak1):ah (ak1⊕(((Bool×af)×(af))⊕((((aa bW)×af)×(af))⊕Empty))):=letI L:=av ((false,()),());letI D:=x.1.2.2.2.1;letI O:=(x.1.1.take D.toNat).drop (0:Int).toNat;bif D<x.1.2.2.1 then xI x.1.2.1 D λC=>letI T:=(cA C.times 1 999).bind λU=>bif (!U)then L else if 0 <= (0:Int)/\0 <= D/\D <= (x.1.1.length:Int)then bE Gy ((x.1.1,(),x.1.2.1,x.1.2.2.1,D,O,(O.length:Int),0,()),((C.line,C.code,C.times,()),())) (λY=>av ((Y.1.1,()),())) λE=>xG ((E.1.1,E.1.2.1,E.1.2.2.1,(W6 (E.1.2.2.2.1+1)),()),())else none;(cA C.line 0 1023).bind λZ=>bif (!Z)then L else bif (C.code != 1)then bif (C.code != 2)then L else T else T else aQ ((x.1.1,()),())
def azT:KY 59 (aW f223):=⟨0,lB 0 agt [(1,oB),(2,⟨[(0,.lf (.aF .eH 0))],[],[]⟩)] MJ,lq [ef] [ak0,ak0]⟩
def MK(C:aa bW):ah (Bool):=bE MJ ((C,C,(C.length:Int),0,()),()) (λD=>some D.1.1) λE=>some ((E.1.1.length:Int) <= 6)
def ak2:=bS Qu bR (bG MK) 59 [] [azT] func223
def AS(C:ax):ah (Bool):=(uz C.config C.box.bH).bind λD=>bif (!D)then some false else (uz C.config C.box.next).bind λE=>bif (!E)then some false else (cA C.now 0 1000000).bind λL=>bif (!L)then some false else (Mq C.config.az C.br).bind λO=>bif (!O)then some false else (Gr C.config.az C.ready).bind λT=>bif (!T)then some false else (Dw C.config.az C.array).bind λU=>bif (!U)then some false else (MA C.config.az C.spare).bind λY=>bif (!Y)then some false else bif (C.spare.bQ != C.config.bQ)then some false else (S9 C).bind λZ=>bif (!Z)then some false else (yA C.config.az C.spare).bind λy9=>(uy y9).bind λgS=>(DA gS C.queue).bind λeP=>bif (!eP)then some false else (Gm C.shares).bind λgC=>bif (!gC)then some false else bif ((C.shares.length:Int) != 4)then some false else (Du C.drain).bind λgD=>bif (!gD)then some false else (DB C.bf).bind λiV=>bif (!iV)then some false else bif (C.bf.state != C.br.bf)then some false else bif C.bf.since > C.now then some false else (cA C.cH.every 1 100000).bind λig=>bif ig then (cA C.cH.wait 1 C.cH.every).bind λjH=>bif jH then (uy C.config.az).bind λhG=>(cA C.cH.next 0 (W6 (hG-1))).bind λkD=>bif kD then (MK C.errors).bind λuk=>bif uk then bif (C.trace.length:Int) <= 2000 then some ((C.cy.length:Int) <= 400)else some false else some false else some false else some false else some false
def ML:=aP sN bR (bG AS) 155 [Mh,ef,aky,akB,aaf,aag,akL,azQ,akY,Gx,aae,S2,Tb,ak2] func71
def azU:bL:=⟨[(1,tI),(2,.aH 2 0),(4,.aH 4 0),(5,.aH 5 0),(28,tI),(29,tI)],agd,[]⟩
def azV:aa (Nat×bL):=[(2,⟨[(1,tI),(2,.aH 2 0),(4,.aH 4 0),(5,.aH 5 0)],agd,[]⟩)]
abbrev ak3:=((Int×af×af×af×Int×Int×af)×(((aa Int)×Int×Bool×af)×(af×Int×Bool×af)×(af×Int×Bool×af)×(aa Int)×(aa Int)×af))
def MM(x:ak3):ah (ak3⊕(((Int×af×af×af×af)×(((aa Int)×Int×Bool×af)×(af×Int×Bool×af)×(af×Int×Bool×af)×(aa Int)×(aa Int)×af))⊕Empty)):=letI L:=((),x.2.2.1.2.1,x.2.2.1.2.2.1,());letI D:=x.2.2.2;letI E:=D.2.2.1;letI O:=((),D.1.2.1,D.1.2.2.1,());letI C:=x.1.2.2.2.2;bif C.2.1<C.1 then xL E C.2.1 λU=>letI T:=W6 (U+1);xL E C.2.1 λY=>xG ((x.1.1,(),(),(),C.1,(W6 (C.2.1+1)),()),(x.2.1,L,O,D.2.1,(E.set C.2.1.toNat (if 5<T then 5 else T)),()))else av ((x.1.1,(),(),(),()),(x.2.1,L,O,D.2.1,E,()))
def azW:KY 52 (aW f72):=⟨0,lB 0 azU azV MM,lp []⟩
def MN(D:cS)(T:Int):ah (cS):=(ym D).bind λC=>letI O:=W6 (C.wait-1);(yz D).bind λU=>bif (!U)then some C else (cA T 2 10000).bind λY=>bif (!Y)then some C else bif O > 0 then some (⟨C.aI,O,C.dD⟩:cS)else bk MM ((T,(),(),(),(C.aI.length:Int),0,()),((D.aI,D.wait,D.dD,()),((),0,false,()),((),O,C.dD,()),([]:aa Int),C.aI,())) λE=>letI L:=E.2.2.2;bif E.2.1.2.2.1 then some (⟨L.2.2.1,(W6 (E.1.1.tdiv 2)),L.1.2.2.1⟩:cS)else some (⟨L.2.2.1,E.1.1,L.1.2.2.1⟩:cS)
def azX:=bS JD [(true,.jz,2)] (bq MN) 52 [ef,S0,Gt] [azW] func72
def azY:bL:=⟨[(2,tI),(6,.aH 6 0),(7,.aH 7 0),(23,tI),(24,tI)],af4,[]⟩
def azZ:aa (Nat×bL):=[(2,⟨[(6,.aH 6 0),(7,.aH 7 0)],af4,[]⟩)]
abbrev ak4:=((Int×af×af×Int×Int×af)×((af×af×af×af)×(af×af×af×af)×(aa bP)×(aa Int)×(aa Int)×(aa bP)×(aa Int)×(aa Int)×af))
def MO(x:ak4):ah (ak4⊕(((af×af×af)×((af×af×af×af)×(af×af×af×af)×(aa bP)×(aa Int)×(aa Int)×(aa bP)×(aa Int)×(aa Int)×af))⊕Empty)):=letI D:=x.2.2.2;letI O:=((),(),(),());letI E:=x.1.2.2.2.2.1;letI L:=D.2.2;letI C:=L.2.2;bif E<x.1.2.2.2.1 then xL C.1 E λU=>letI T:=W6 (U+x.1.1);xL C.1 E λY=>xG ((x.1.1,(),(),x.1.2.2.2.1,(W6 (E+1)),()),(O,O,D.1,D.2.1,L.1,L.2.1,(C.1.set E.toNat (if 100000<T then 100000 else T)),C.2.1,()))else av (((),(),()),(O,O,D.1,D.2.1,L.1,L.2.1,C.1,C.2.1,()))
def az0:KY 41 (aW f73):=⟨0,lB 0 azY azZ MO,lp []⟩
def Gz(O:aM)(E:cV)(L:Int):ah (cV):=(Dt E).bind λC=>(Dw O E).bind λT=>bif (!T)then some C else (cA L 0 100000).bind λU=>bif (!U)then some C else bk MO ((L,(),(),(C.bx.length:Int),0,()),(((),(),(),()),((),(),(),()),([]:aa bP),([]:aa Int),([]:aa Int),C.cells,C.bx,C.bw,())) λY=>letI D:=Y.2.2.2.2.2.2;some (⟨D.1,D.2.1,D.2.2.1⟩:cV)
def az1:=bS [(true,.fA),(true,.Array),(false,.int)] JK (fO Gz) 41 [ef,Z6,aag] [az0] func73
def GA(C:gP)(D:Int):ah (gP):=(Du C).bind λE=>bif (!E)then some C else bif D >= C.high then some (⟨true,C.low,C.high⟩:gP)else bif D <= C.low then some (⟨false,C.low,C.high⟩:gP)else some C
def az2:=aP [(true,.lD),(false,.int)] [(true,.lD,0)] (bq GA) 22 [S2] func74
abbrev ak5:=((Bool×Int×(aa aK)×Int×Int×af)×(af))
def MP(x:ak5):ah (ak5⊕(((Int×af)×(af))⊕Empty)):=letI C:=x.1.2.2;letI D:=C.2.2.1;bif D<C.2.1 then xI C.1 D λE=>bif (E.write==x.1.1)then xG ((x.1.1,(W6 (x.1.2.1+1)),C.1,C.2.1,(W6 (D+1)),()),())else xG ((x.1.1,x.1.2.1,C.1,C.2.1,(W6 (D+1)),()),())else av ((x.1.2.1,()),())
def az3:KY 22 (aW f75):=⟨0,lB 0 ⟨[(1,tB),(5,tI),(8,.lf (.aF .cW 0)),(9,tI),(10,tI)],[],[]⟩ [(2,v8)] MP,lp []⟩
def GB(C:aa aK)(D:Bool):ah (Int):=bk MP ((D,0,C,(C.length:Int),0,()),()) λE=>some E.1.1
def az4:=bS [(false,(.sl .cW)),(false,.bool)] cm (bq GB) 22 [] [az3] func75
def GC(C:eN)(E:Bool):ah (eN):=letI D:=W6 (C.idle+1);(DB C).bind λL=>bif (!L)then some C else bif E then some (⟨C.state,C.since,0⟩:eN)else some (⟨C.state,C.since,(if 1000000<D then 1000000 else D)⟩:eN)
def az5:=aP [(true,.Power),(false,.bool)] [(true,.Power,0)] (bq GC) 18 [Tb] func76
abbrev ak6:=((af×(aa Int)×Int×Int×af)×((aa Int)×af))
def MQ(x:ak6):ah (ak6⊕(((af×af)×((aa Int)×af))⊕Empty)):=letI C:=x.1.2.2.2.1;letI D:=((),x.1.2.1,x.1.2.2.1,(W6 (C+1)),());bif C<x.1.2.2.1 then xI x.1.2.1 C λE=>bif E >= 4 then bif bM (x.2.1.length+([C]:aa Int).length)then xG (D,((x.2.1++([C]:aa Int)),()))else none else xG (D,(x.2.1,()))else av (((),()),(x.2.1,()))
def az6:KY 26 (aW f225):=⟨0,lB 0 ⟨[(3,.lf (.own 9)),(11,.lf (.aF .int 0)),(12,tI),(13,tI)],[(9,.sl .int 2)],[]⟩ [(2,⟨[(3,.lf (.own 9))],[(9,.sl .int 2)],[]⟩)] MQ,lp []⟩
def GD(C:cS):ah ((aa Int)):=(yz C).bind λD=>bif (!D)then some ([])else bk MQ (((),C.aI,(C.aI.length:Int),0,()),(([]:aa Int),())) λE=>some E.2.1
def aak:=bS CO mw (bG GD) 26 [Gt] [az6] func225
def AT(C:ax):ah (Bool):=bif (C.queue.length:Int) > 0 then some true else bif (C.pending.length:Int) > 0 then some true else (GD C.aV).bind λD=>some ((D.length:Int) > 0)
def ak7:=aP sN bR (bG AT) 20 [aak] func77
def MR(C:fM)(E:Bool):ah (fM×Bool):=(Ge C).bind λD=>bif (!E)then some (D,false)else bif (!C.waits)then some (D,false)else (AM C.next).bind λL=>some ((⟨L,D.next,false⟩:fM),true)
def az7:=aP [(true,.jM),(false,.bool)] Qn (bq MR) 23 [Z5,Z4] func78
def yB(C:lV)(D:Int):ah (lV×Int):=letI E:=some (C,(-1));(cA C.every 1 100000).bind λL=>bif (!L)then E else (cA C.wait 1 C.every).bind λO=>bif (!O)then E else bif D<1 then E else (cA C.next 0 (W6 (D-1))).bind λT=>bif (!T)then E else bif (W6 (C.wait-1)) > 0 then some ((⟨C.next,C.every,(W6 (C.wait-1))⟩:lV),(-1))else if D=0 then none else some ((⟨((W6 (C.next+1)).tmod D),C.every,C.every⟩:lV),C.next)
def az8:=aP [(true,.oa),(false,.int)] [(true,.oa,0),(false,.int,0)] (bq yB) 52 [ef] func80
abbrev ak8:=((Int×Int×Int×Int×af)×(af))
def ak9(x:ak8):ah (ak8⊕(((Int×af)×(af))⊕Empty)):=letI E:=x.1.2.1;letI C:=x.1.2.2;letI O:=bits .xor .i64 C.1 x.1.1;letI L:=W6 (C.2.1+1);letI D:=W6 (x.1.1*2 ^ (min (1:Int).toNat IntKind.i64.bits));bif C.2.1<4 then if C.2.1<0 then none else bif ((bits .and .i64 (E.fdiv (2 ^ (min C.2.1.toNat IntKind.i64.bits))) 1)==1)then bif D > 15 then xG (((bits .xor .i64 D 19),E,O,L,()),())else xG ((D,E,O,L,()),())else bif D > 15 then xG (((bits .xor .i64 D 19),E,C.1,L,()),())else xG ((D,E,C.1,L,()),())else av ((C.1,()),())
def az9:KY 34 (aW f338):=⟨0,lB 0 Y4 [(2,v8)] ak9,lp []⟩
def jI(C D:Int):ah (Int):=(sR C).bind λE=>bif (!E)then some (-1)else (sR D).bind λL=>bif (!L)then some (-1)else bk ak9 ((C,D,0,0,()),()) λO=>some O.1.1
def MS:=bS Fq cm (bq jI) 34 [Mt] [az9] func338
abbrev ala:=((Int×Int×Int×af)×(af))
def alb(x:ala):ah (ala⊕(((Int×af)×(af))⊕Empty)):=bif x.1.2.1 > 0 then (jI x.1.2.2.1 x.1.1).bind λC=>xG ((x.1.1,(W6 (x.1.2.1-1)),C,()),())else av ((x.1.2.2.1,()),())
def aAa:KY 22 (aW f416):=⟨0,lB 0 ⟨[(0,tI),(1,tI),(5,tI)],[],[]⟩ [(2,v8)] alb,lp [MS]⟩
def MT(C D:Int):ah (Int):=(sR C).bind λE=>bif (!E)then some (-1)else (cA D 0 1000).bind λL=>bif (!L)then some (-1)else bk alb ((C,D,1,()),()) λO=>some O.1.1
def alc:=bS Fq cm (bq MT) 22 [ef,Mt] [aAa] func416
abbrev ald:=(((aa Int)×af×Int×Int×Int×(aa Int)×Int×Int×af)×((aa Int)×af))
def DC(x:ald):ah (ald⊕((((aa Int)×af×Int×Int×af)×((aa Int)×af))⊕Empty)):=letI C:=x.1.2.2;letI D:=C.2.2;letI E:=D.2.2.2.1;bif E<D.2.2.1 then xI D.2.1 E λL=>xL x.2.1 C.1 λO=>(MT 2 (W6 (E*C.1))).bind λT=>(jI L T).bind λU=>xL x.2.1 C.1 λY=>xG ((x.1.1,(),C.1,C.2.1,D.1,D.2.1,D.2.2.1,(W6 (E+1)),()),((x.2.1.set C.1.toNat (bits .xor .i64 O U)),()))else av ((x.1.1,(),C.2.1,D.1,()),(x.2.1,()))
def aAb:KY 38 (rD (aW f336) 0):=⟨2,lB 2 ⟨[(0,.lf (.aF .int 0)),(3,.lf (.own 10)),(4,tI),(12,tI),(13,tI),(16,.lf (.aF .int 0)),(17,tI),(18,tI)],[(10,.sl .int 2)],[]⟩ [(4,agh)] DC,lp [MS,alc]⟩
abbrev ale:=(((aa Int)×af×Int×Int×af)×((aa Int)×af))
def GF(x:ale):ah (ale⊕(((af×af)×((aa Int)×af))⊕Empty)):=letI C:=x.1.2.2;bif C.2.1<C.1 then bk DC ((x.1.1,(),C.2.1,C.1,C.2.1,x.1.1,(x.1.1.length:Int),0,()),(x.2.1,())) λD=>xG ((D.1.1,(),D.1.2.2.1,(W6 (D.1.2.2.2.1+1)),()),(D.2.1,()))else av (((),()),(x.2.1,()))
def aAc:KY 38 (aW f336):=⟨0,lB 0 agh [(2,⟨[(3,.lf (.own 10))],[(10,.sl .int 2)],[]⟩)] GF,lq [] [aAb]⟩
def AU(D:aa Int):ah ((aa Int)):=letI C:=(3:Int);(wj D 11).bind λE=>bif (!E)then some ([])else if 0 <= C/\C <= 3/\C<1073741824 then bk GF ((D,(),((List.replicate C.toNat (0:Int)).length:Int),0,()),((List.replicate C.toNat (0:Int)),())) λL=>some L.2.1 else none
def aal:=bS nS mw (bG AU) 38 [Mv] [aAc] func336
def Tc(D:aa Int):ah (Bool):=(AU D).bind λC=>bif jN C then none else xL C (0:Int) λE=>bif (E==0)then xL C (1:Int) λL=>bif (L==0)then xL C (2:Int) λO=>some (O==0)else some false else some false
def aAd:=aP nS bR (bG Tc) 26 [aal] func337
abbrev alf:=((Int×Int×af)×(af))
def alg(x:alf):ah (alf⊕(((Int×af)×(af))⊕(((af)×(af))⊕Empty))):=bif x.1.2.1 <= 15 then (jI x.1.1 x.1.2.1).bind λC=>bif (C==1)then av ((x.1.2.1,()),())else xG ((x.1.1,(W6 (x.1.2.1+1)),()),())else aQ ((),())
def aAe:KY 13 (aW f339):=⟨0,lB 0 agT [(1,⟨[(2,tI)],[],[]⟩),(2,fq)] alg,lp [MS]⟩
def DD(C:Int):ah (Int):=bE alg ((C,1,()),()) (λD=>some D.1.1) λE=>some (-1)
def alh:=bS mz cm (bG DD) 13 [] [aAe] func339
abbrev ali:=((Int×Int×af)×(af))
def alj(x:ali):ah (ali⊕(((Int×af)×(af))⊕(((af)×(af))⊕Empty))):=bif x.1.2.1<15 then (MT 2 x.1.2.1).bind λC=>bif (C==x.1.1)then av ((x.1.2.1,()),())else xG ((x.1.1,(W6 (x.1.2.1+1)),()),())else aQ ((),())
def aAf:KY 13 (aW f340):=⟨0,lB 0 agT [(1,⟨[(2,tI)],[],[]⟩),(2,fq)] alj,lp [alc]⟩
def Td(C:Int):ah (Int):=bE alj ((C,0,()),()) (λD=>some D.1.1) λE=>some (-1)
def aAg:=bS mz cm (bG Td) 13 [] [aAf] func340
def MU(L:aa Int):ah ((aa Int)×Int×Int):=letI C:=xA L;letI O:=some (C,2,(-1));(AU L).bind λE=>bif jN E then none else bif xZ L then (Tc L).bind λU=>bif U then some (C,0,(-1))else xL E (0:Int) λY=>bif (Y != 0)then xL E (1:Int) λZ=>bif (Z != 0)then xL E (1:Int) λuv=>xL E (0:Int) λmB=>(DD mB).bind λig=>(jI uv ig).bind λT=>(Td T).bind λD=>bif D<11 then xL E (1:Int) λDb=>xL E (2:Int) λF7=>(jI Db T).bind λqC=>bif (qC==F7)then xC C D (if h26:D.toNat<C.length then (let sP:=C[D.toNat]'h26;xL E (0:Int) λwg=>xC C D (if h32:D.toNat<C.length then (let e33:=C[D.toNat]'h32;some ((C.set D.toNat (bits .xor .i64 sP wg)),1,D))else none))else none)else O else O else O else O else none
def alk:=aP nS [(false,(.sl .int),2),(false,.int,0),(false,.int,0)] (bG MU) 64 [aal,aAd,MS,alh,aAg] func228
abbrev alm:=((Int×(aa Int)×Int×Int×af)×(af))
def MV(x:alm):ah (alm⊕(((Int×af)×(af))⊕Empty)):=letI C:=x.1.2.2.2.1;bif C<x.1.2.2.1 then xI x.1.2.1 C λD=>if (W6 (4*C))<0 then none else xG (((bits .or .i64 x.1.1 (W6 (D*2 ^ (min (W6 (4*C)).toNat IntKind.i64.bits)))),x.1.2.1,x.1.2.2.1,(W6 (C+1)),()),())else av ((x.1.1,()),())
def aAh:KY 25 (aW f341):=⟨0,lB 0 ⟨[(4,tI),(10,.lf (.aF .int 0)),(11,tI),(12,tI)],[],[]⟩ [(2,kC)] MV,lp []⟩
def Te(C:aa Int):ah (Int×Bool):=(wj C 8).bind λD=>bif (!D)then some (0,false)else bk MV ((0,C,(C.length:Int),0,()),()) λE=>some (E.1.1,true)
def aAi:=bS nS [(false,.int,0),(false,.bool,0)] (bG Te) 25 [Mv] [aAh] func341
def Tf(D:aa Int):ah ((aa Int)):=letI C:=(D.length:Int);letI E:=(D.take C.toNat).drop (3:Int).toNat;(wj D 11).bind λL=>bif (!L)then some ([])else if 0 <= (3:Int)/\3 <= C/\C <= C then bif xZ E then some (xA E)else none else none
def aAj:=aP nS mw (bG Tf) 10 [Mv] func342
def Tg(D:aa Int):ah (Int×Int×Int):=(MU D).bind λC=>bif (C.2.1==2)then some (0,C.2.1,C.2.2)else (Tf C.1).bind λE=>(Te E).bind λL=>some (L.1,C.2.1,C.2.2)
def aAk:=aP nS [(false,.int,0),(false,.int,0),(false,.int,0)] (bG Tg) 29 [alk,aAi,aAj] func229
def MW(C:aa bW):ah ((aa bW)):=bif xZ C then some (xA C)else none
def aAl:=aP Qu [(false,(.sl .eH),2)] (bG MW) 6 [] func343
abbrev aln:=((Int×Int×af×af×Int×Int×af)×((aa bW)×af))
def MX(x:aln):ah (aln⊕(((af×Bool×af)×((aa bW)×af))⊕(((Int×Int×af×af)×((aa bW)×af))⊕Empty))):=letI C:=x.1.2.2.2.2;letI E:=xG ((x.1.1,x.1.2.1,(),(),C.1,(W6 (C.2.1+1)),()),(x.2.1,()));bif C.2.1<C.1 then xL x.2.1 C.2.1 λD=>letI L:=W6 (D.times+1);bif (D.line==x.1.1)then bif (D.code==x.1.2.1)then xL x.2.1 C.2.1 λO=>av (((),true,()),((x.2.1.set C.2.1.toNat (⟨O.line,O.code,(if 999<L then 999 else L)⟩:bW)),()))else E else E else aQ ((x.1.1,x.1.2.1,(),()),(x.2.1,()))
def aAm:KY 69 (aW f230):=⟨0,lB 0 af7 [(1,agv),(2,ags)] MX,lp []⟩
abbrev alo:=((Int×Int×af×af×Int×Int×af)×((aa bW)×af))
def aam(x:alo):ah (alo⊕(((af×Bool×af)×((aa bW)×af))⊕(((Int×Int×af×af)×((aa bW)×af))⊕Empty))):=letI C:=x.1.2.2.2.2;letI E:=xG ((x.1.1,x.1.2.1,(),(),C.1,(W6 (C.2.1+1)),()),(x.2.1,()));bif C.2.1<C.1 then xL x.2.1 C.2.1 λD=>letI L:=W6 (D.times+1);bif (D.line==x.1.1)then bif (D.code==x.1.2.1)then xL x.2.1 C.2.1 λO=>av (((),true,()),((x.2.1.set C.2.1.toNat (⟨O.line,O.code,(if 999<L then 999 else L)⟩:bW)),()))else E else E else aQ ((x.1.1,x.1.2.1,(),()),(x.2.1,()))
def aAn:KY 69 (aW f230):=⟨0,lB 0 af7 [(1,agv),(2,ags)] aam,lp []⟩
def Th(x0:aa bW)(x1 U:Int):ah ((aa bW)×Bool):=(MW x0).bind λY=>letI Z:=some (Y,false);letI u4:=((x1,U,(),(),(Y.length:Int),0,()),(Y,()));(MK x0).bind λy2=>bif (!y2)then Z else (cA x1 0 1023).bind λy3=>bif (!y3)then Z else bif (U != 1)then bif (U != 2)then Z else bE MX u4 (λgy=>some (gy.2.1,gy.1.2.1)) λC=>letI E:=(C.2.1.length:Int);letI O:=([(⟨C.1.1,C.1.2.1,1⟩:bW)]:aa bW);bif (E==6)then if 0 <= (1:Int)/\1 <= E/\E <= E then (MW ((C.2.1.take (E.toNat)).drop ((1:Int).toNat))).bind λgC=>bif bM (gC.length+O.length)then some ((gC++O),true)else none else none else bif bM (C.2.1.length+O.length)then some ((C.2.1++O),true)else none else bE aam u4 (λTi=>some (Ti.2.1,Ti.1.2.1)) λD=>letI L:=(D.2.1.length:Int);letI T:=([(⟨D.1.1,D.1.2.1,1⟩:bW)]:aa bW);bif (L==6)then if 0 <= (1:Int)/\1 <= L/\L <= L then (MW ((D.2.1.take (L.toNat)).drop ((1:Int).toNat))).bind λkF=>bif bM (kF.length+T.length)then some ((kF++T),true)else none else none else bif bM (D.2.1.length+T.length)then some ((D.2.1++T),true)else none
def aAo:=bS Za [(false,(.sl .eH),2),(false,.bool,0)] (fO Th) 69 [ef,ak2,aAl] [aAm,aAn] func230
def yC(C:ax)(E D:Int):ah ((af)×(ax×af)):=bif (D != 0)then (Th C.errors E D).bind λL=>some ((),({C with errors:=L.1},()))else some ((),(C,()))
def alp:=x7 Zc [] (fO yC) 21 [aAo] func83
def DE(C:Int)(D:Bool)(E:Int):ah (Bool):=bif (!D)then some (C==0)else (cA C 0 (W6 (E-1))).bind λL=>some L
def aAp:=aP [(false,.int),(false,.bool),(false,.int)] bR (fO DE) 15 [ef] func465
def Tj(C:Int):ah (Bool):=some (C==1)
def aAq:=aP mz bR (bG Tj) 5 [] func466
def Tl(C:Int):ah (Bool):=bif (C==2)then some true else some (C==3)
def aAr:=aP mz bR (bG Tl) 9 [] func467
def aan(C:aG)(D E L:Int):ah (Bool):=(cA C.kind 1 9).bind λO=>bif O then (yw C.kind).bind λT=>(DE C.ay T D).bind λU=>bif U then (Tj C.kind).bind λY=>(DE C.row Y E).bind λZ=>bif Z then (Tl C.kind).bind λy6=>(DE C.bT y6 L).bind λy7=>some y7 else some false else some false else some false
def aAs:=aP [(true,.Command),(false,.int),(false,.int),(false,.int)] bR (mW aan) 39 [ef,S4,aAp,aAq,aAr] func456
def GG(C:aM)(D:aG):ah (Bool):=(sQ C).bind λE=>bif E then (oD C).bind λL=>(aan D L C.rows C.aO).bind λO=>some O else some false
def aao:=aP Zj bR (bq GG) 17 [rH,yp,aAs] func426
def MY(T:aM)(D:cC)(C:aG):ah (Bool):=letI E:=D.bf==0;letI U:=bif E then xI D.aC C.ay λZ=>some (!Z.open_)else some false;letI L:=bif E then xI D.aC C.ay λe6=>some e6.open_ else some false;letI O:=bif (C.kind==6)then some E else bif (C.kind==8)then bif E then (AP D).bind λy7=>some ((y7.length:Int)==0)else some false else bif (C.kind==7)then some (D.bf==1)else some (D.bf==2);letI Y:=bif (C.kind==2)then bif (C.kind==2)then L else O else bif (C.kind==3)then bif (C.kind==3)then L else O else bif (C.kind==4)then L else O;(Mq T D).bind λy1=>bif (!y1)then some false else (GG T C).bind λy2=>bif (!y2)then some false else bif (C.kind==1)then bif (C.kind==1)then U else Y else bif (C.kind==5)then U else Y
def alq:=aP [(true,.fA),(true,.ja),(true,.Command)] bR (fO MY) 75 [akB,S3,aao] func351
def Tn(C:dj)(D E:Int):ah (Int):=(let T:Bool -> ah (Int):=λL=>(let O:Bool -> ah (Int):=λj2=>bif j2 then some C.jY else (let U:Bool -> ah (Int):=λj3=>bif j3 then some C.gX else (let Y:Bool -> ah (Int):=λj4=>bif j4 then some (W6 (C.gX+C.rp))else (let Z:Bool -> ah (Int):=λj5=>bif j5 then some C.jy else (let k15:Bool -> ah (Int):=λj6=>bif j6 then some (W6 (C.jy+C.rp))else (let k14:Bool -> ah (Int):=λj7=>bif j7 then some C.wr else (let MZ:Bool -> ah (Int):=λj8=>bif j8 then some (W6 (C.wr+C.rp))else (let k12:Bool -> ah (Int):=λj9=>bif j9 then some C.rp else (let L0:Bool -> ah (Int):=λDd=>bif Dd then some C.nD else some 0;bif (D==5)then (L0 L)else (L0 false));bif (D==4)then (k12 L)else (k12 false));bif (D==3)then (MZ L)else (MZ false));bif (D==3)then (k14 (E==4))else (k14 false));bif (D==2)then (k15 L)else (k15 false));bif (D==2)then (Z (E==4))else (Z false));bif (D==1)then (Y L)else (Y false));bif (D==1)then (U (E==4))else (U false));bif (D==1)then bif (E==2)then (O true)else (O (E==3))else (O false));bif (E==1)then (T true)else (T (E==5)))
def alr:=aP [(true,.kf),(false,.int),(false,.int)] cm (fO Tn) 103 [] func459
end Go.Proofs.YtnilicojgkhpnaaGreat
