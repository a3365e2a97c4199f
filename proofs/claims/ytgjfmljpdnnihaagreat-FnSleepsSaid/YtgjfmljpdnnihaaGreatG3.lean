/-
  Functions of the program as plain functions of contents, and that the code computes them. Nothing here is a claim.
-/
import Derived.Test.YtgjfmljpdnnihaaGreatVZ
import Derived.Test.YtgjfmljpdnnihaaGreatRows
import Derived.Test.YtgjfmljpdnnihaaGreatG1
import Derived.Test.YtgjfmljpdnnihaaGreatG2
namespace Go.Proofs.YtgjfmljpdnnihaaGreat
set_option linter.defProp false
open Go.RowKit Go.Proofs.Tryz
set_option linter.unusedVariables false
set_option maxRecDepth 100000
abbrev abP:=((aj×aj×(aa dQ)×Int×Int×aj)×((Int×Int×Int×Int×aj)×((aa dQ)×Int×aj)×aj))
def HP(x:abP):ah (abP⊕(((Bool×aj)×(aj))⊕(((aj×aj)×(((aa dQ)×Int×aj)×aj))⊕Empty))):=letI u1:=x.1.2.2;letI D:=xG (((),(),u1.1,u1.2.1,(W6 (u1.2.2.1+1)),()),(x.2.1,x.2.2.1,()));bif u1.2.2.1<u1.2.1 then xI u1.1 u1.2.2.1 λC=>(bU C.row 0 (W6 (x.2.1.2.2.1-1))).bind λE=>bif (!E)then aM ((false,()),())else bif (!C.open_)then bif (C.row != 0)then aM ((false,()),())else D else D else bG (((),()),(x.2.2.1,()))
def alW:KY 58 (bx f54):=⟨0,lB 0 ⟨[(2,.aJ 2 0),(3,.aJ 3 0),(25,.lf (.aF .jH 0)),(26,tI),(27,tI)],[(2,.aA gI),(3,.aA SS)],[]⟩ [(1,sU),(2,⟨[(3,.aJ 3 0)],[(3,.aA SS)],[]⟩)] HP,lp [dM]⟩
def HQ(C:aH)(D:bJ):ah (Bool):=(ni C).bind λI=>bif (!I)then some false else (jB C).bind λO=>bif ((D.aE.length:Int) != O)then some false else (bU D.aN 0 2).bind λT=>bif (!T)then some false else cZ HP (((),(),D.aE,(D.aE.length:Int),0,()),((C.bM,C.aE,C.rows,C.aR,()),(D.aE,D.aN,()),())) (λU=>some U.1.1) λE=>bif (E.2.1.2.1 != 2)then some true else (As (⟨E.2.1.1,E.2.1.2.1⟩:bJ)).bind λY=>some ((Y.length:Int)==0)
def abQ:=dg [(true,.fG),(true,.kN)] dP (di HQ) 58 [lN,dM,qk,Mv] [alW] func54
def ym(C:Int):ah (Bool):=(bU C 1 5).bind λD=>some D
def Mw:=bQ sS dP (cw ym) 5 [dM] func199
def Cn(I:aH)(E:Int):ah (aS×Bool):=letI u1:=W6 (E.tdiv 9);letI C:=W6 ((E.tmod 9)+1);(jB I).bind λD=>bif u1<D then (ym C).bind λO=>some ((⟨C,u1,0,0⟩:aS),((decide (u1<D))==O))else (ym C).bind λT=>some ((⟨C,0,0,0⟩:aS),((decide (u1<D))==T))
def abR:=bQ S2 [(true,.Command,0),(false,.bool,0)] (di Cn) 27 [lN,Mw] func126
abbrev abS:=((aj×aj×(aa Int)×Int×Int×aj)×((Int×Int×Int×Int×aj)×((aa Int)×(aa Int)×aj)×aj))
def HR(x:abS):ah (abS⊕(((Bool×aj)×(aj))⊕(((aj×aj)×(((aa Int)×(aa Int)×aj)×aj))⊕Empty))):=letI u1:=x.1.2.2;letI u2:=u1.2.2.1;letI C:=xG (((),(),u1.1,u1.2.1,(W6 (u2+1)),()),(x.2.1,x.2.2.1,()));bif u2<u1.2.1 then xI u1.1 u2 λD=>(Cn (⟨x.2.1.1,x.2.1.2.1,x.2.1.2.2.1,x.2.1.2.2.2.1⟩:aH) u2).bind λE=>(bU D (-1) 1000000).bind λI=>bif (!I)then aM ((false,()),())else bif (!E.2)then bif (D != (-1))then aM ((false,()),())else C else C else bG (((),()),(x.2.2.1,()))
def alX:KY 82 (bx f55):=⟨0,lB 0 ⟨[(2,.aJ 2 0),(3,.aJ 3 0),(31,.lf (.aF .int 0)),(32,tI),(33,tI)],[(2,.aA gI),(3,.aA Hi)],[]⟩ [(1,sU),(2,⟨[(3,.aJ 3 0)],[(3,.aA Hi)],[]⟩)] HR,lp [dM,abR]⟩
abbrev abU:=((aj×(aa Int)×Int×Int×aj)×(((aa Int)×(aa Int)×aj)×aj))
def HS(x:abU):ah (abU⊕(((Bool×aj)×(aj))⊕(((aj)×(aj))⊕Empty))):=letI u1:=x.1.2.2.2.1;letI C:=xG (((),x.1.2.1,x.1.2.2.1,(W6 (u1+1)),()),(x.2.1,()));bif u1<x.1.2.2.1 then xI x.1.2.1 u1 λD=>(bU D 0 1000000).bind λE=>bif (!E)then aM ((false,()),())else bif u1 > 0 then xI x.2.1.2.1 (W6 (u1-1)) λI=>bif I >= D then aM ((false,()),())else C else C else bG ((),())
def alY:KY 82 (bx f55):=⟨2,lB 2 ⟨[(3,.aJ 3 0),(57,.lf (.aF .int 0)),(58,tI),(59,tI)],[(3,.aA Hi)],[]⟩ [(1,sU),(4,mA)] HS,lp [dM]⟩
def Ex(C:aH)(D:dN):ah (Bool):=(ni C).bind λI=>bif (!I)then some false else (jB C).bind λO=>bif ((D.last.length:Int) != (W6 (9*(W6 (O+1)))))then some false else bif (D.aZ.length:Int) > 4 then some false else cZ HR (((),(),D.last,(D.last.length:Int),0,()),((C.bM,C.aE,C.rows,C.aR,()),(D.last,D.aZ,()),())) (λT=>some T.1.1) λE=>cZ HS (((),E.2.1.2.1,(E.2.1.2.1.length:Int),0,()),(E.2.1,())) (λU=>some U.1.1) λY=>some true
def Tw:=dg [(true,.fG),(true,.oq)] dP (di Ex) 82 [lN,qk] [alX,alY] func55
abbrev abV:=((aj×(aa cy)×Int×Int×aj)×(((aa cy)×(aa Int)×(aa Int)×aj)×aj))
def HT(x:abV):ah (abV⊕(((Bool×aj)×(aj))⊕(((aj×aj)×(((aa cy)×(aa Int)×(aa Int)×aj)×aj))⊕Empty))):=letI C:=x.1.2.2;bif C.2.1<C.1 then xI x.1.2.1 C.2.1 λD=>(vS D.symbols 11).bind λE=>bif (!E)then aM ((false,()),())else xG (((),x.1.2.1,C.1,(W6 (C.2.1+1)),()),(x.2.1,()))else bG (((),()),(x.2.1,()))
def alZ:KY 74 (bx f56):=⟨0,lB 0 ⟨[(3,.aJ 3 0),(40,.lf (.aF .Cell 0)),(41,tI),(42,tI)],SW,[]⟩ [(1,sU),(2,⟨[(3,.aJ 3 0)],SW,[]⟩)] HT,lp [HD]⟩
abbrev abW:=((aj×Int×Int×aj)×(((aa cy)×(aa Int)×(aa Int)×aj)×aj))
def HU(x:abW):ah (abW⊕(((Bool×aj)×(aj))⊕(((aj)×(aj))⊕Empty))):=letI C:=x.1.2.2.1;bif C<x.1.2.1 then xI x.2.1.2.1 C λD=>(bU D 0 100000).bind λE=>bif (!E)then aM ((false,()),())else xI x.2.1.2.2.1 C λI=>(bU I 0 100000).bind λO=>bif (!O)then aM ((false,()),())else xG (((),x.1.2.1,(W6 (C+1)),()),(x.2.1,()))else bG ((),())
def al0:KY 74 (bx f56):=⟨2,lB 2 ⟨[(3,.aJ 3 0),(53,tI),(54,tI)],SW,[]⟩ [(1,sU),(4,mA)] HU,lp [dM]⟩
def Ey(D:aH)(C:dj):ah (Bool):=(jB D).bind λE=>(ni D).bind λO=>bif (!O)then some false else (sW D).bind λT=>bif ((C.cells.length:Int) != T)then some false else bif ((C.bu.length:Int) != (W6 (E*D.rows)))then some false else bif ((C.bg.length:Int) != (W6 (E*D.rows)))then some false else cZ HT (((),C.cells,(C.cells.length:Int),0,()),((C.cells,C.bu,C.bg,()),())) (λU=>some U.1.1) λI=>cZ HU (((),(I.2.1.2.1.length:Int),0,()),(I.2.1,())) (λY=>some Y.1.1) λZ=>some true
def abX:=dg [(true,.fG),(true,.Array)] dP (di Ey) 74 [lN,Ej,qk] [alZ,al0] func56
def Co(C:aH)(D:aP):ah (Bool):=(ni C).bind λE=>bif E then (jB C).bind λI=>(bU D.ay 0 (W6 (I-1))).bind λO=>bif O then (bU D.row 0 (W6 (C.rows-1))).bind λT=>bif T then (bU D.bZ 0 (W6 (C.aR-1))).bind λU=>some U else some false else some false else some false
def Tx:=bQ [(true,.fG),(true,.Addr)] dP (di Co) 31 [lN,dM,qk] func119
abbrev abY:=((aj×(aa Int)×Int×Int×aj)×(((aa Int)×Int×Bool×aj)×aj))
def HV(x:abY):ah (abY⊕(((Bool×aj)×(aj))⊕(((aj×aj)×(((aa Int)×Int×Bool×aj)×aj))⊕Empty))):=letI C:=x.1.2.2;bif C.2.1<C.1 then xI x.1.2.1 C.2.1 λD=>(bU D (-2) 5).bind λE=>bif (!E)then aM ((false,()),())else xG (((),x.1.2.1,C.1,(W6 (C.2.1+1)),()),(x.2.1,()))else bG (((),()),(x.2.1,()))
def al1:KY 25 (bx f130):=⟨0,lB 0 ⟨[(1,.aJ 1 0),(6,.lf (.aF .int 0)),(7,tI),(8,tI)],[(1,.aA LQ)],[]⟩ [(1,uH),(2,⟨[(1,.aJ 1 0)],[(1,.aA LQ)],[]⟩)] HV,lp [dM]⟩
def At(C:eB):ah (Bool):=cZ HV (((),C.aD,(C.aD.length:Int),0,()),((C.aD,C.wait,C.dJ,()),())) (λE=>some E.1.1) λD=>(bU (D.2.1.1.length:Int) 1 8).bind λI=>bif I then (bU D.2.1.2.1 1 10000).bind λO=>some O else some false
def HW:=dg [(true,.mU)] dP (cw At) 25 [dM] [al1] func130
abbrev abZ:=(((aa Int)×Int×Int×Int×aj)×(aj))
def HX(x:abZ):ah (abZ⊕(((Int×aj)×(aj))⊕(((aj)×(aj))⊕Empty))):=letI C:=x.1.2.2.2.1;bif C<x.1.2.2.1 then xI x.1.1 C λD=>bif (x.1.2.1==D)then aM ((C,()),())else xG ((x.1.1,x.1.2.1,x.1.2.2.1,(W6 (C+1)),()),())else bG ((),())
def al2:KY 19 (bx f200):=⟨0,lB 0 ⟨[(0,.lf (.aF .int 0)),(1,tI),(7,tI),(8,tI)],[],[]⟩ [(1,Ca),(2,mA)] HX,lp []⟩
def Cp(C:aa Int)(D:Int):ah (Int):=(iter HX bk ((C,D,(C.length:Int),0,()),())).bind (Sum.elim (λE=>some E.1.1) (Sum.elim (λI=>some (-1)) (λz=>nomatch z)))
def Ty:=dg LR gd (di Cp) 19 [] [al2] func200
abbrev ab0:=((aj×(aa Int)×Int×Int×aj)×(((aa Int)×(aa Int)×Int×aj)×aj))
def HY(x:ab0):ah (ab0⊕(((Bool×aj)×(aj))⊕(((aj)×(aj))⊕Empty))):=letI u3:=aM ((false,()),());letI u2:=x.1.2.2.2.1;letI u1:=xG (((),x.1.2.1,x.1.2.2.1,(W6 (u2+1)),()),(x.2.1,()));bif u2<x.1.2.2.1 then xI x.1.2.1 u2 λC=>letI D:=bif (C != (-1))then (Cp x.2.1.1 C).bind λE=>bif (E != u2)then u3 else u1 else u1;(bU C (-1) 15).bind λI=>bif (!I)then u3 else xI x.2.1.2.1 u2 λO=>(bU O x.2.1.2.2.1 100000).bind λT=>bif (!T)then u3 else bif (C==(-1))then xI x.2.1.2.1 u2 λU=>bif (U != 0)then u3 else D else D else bG ((),())
def al3:KY 72 (bx f131):=⟨0,lB 0 ⟨[(1,.aJ 1 0),(26,.lf (.aF .int 0)),(27,tI),(28,tI)],[(1,.aA [.aF .int 0,.aF .int 0,.int .i64])],[]⟩ [(1,uH),(2,mA)] HY,lp [dM,Ty]⟩
def Au(C:cJ):ah (Bool):=letI D:=(C.rows.length:Int);(bU D 1 16).bind λE=>bif (!E)then some false else bif ((C.counts.length:Int) != D)then some false else (bU C.fh 0 100000).bind λI=>bif (!I)then some false else cZ HY (((),C.rows,D,0,()),((C.rows,C.counts,C.fh,()),())) (λO=>some O.1.1) λT=>some true
def ab1:=dg [(true,.mT)] dP (cw Au) 72 [dM] [al3] func131
abbrev ab2:=(((aa aP)×aj×Int×Int×aj)×((Int×Int×Int×aj)×aj))
def HZ(x:ab2):ah (ab2⊕(((Int×aj)×(aj))⊕(((aj)×(aj))⊕Empty))):=letI C:=x.1.2.2.2.1;bif C<x.1.2.2.1 then xI x.1.1 C λD=>bif ((x.2.1.1==D.ay)&&((x.2.1.2.1==D.row)&&((x.2.1.2.2.1==D.bZ)&&true)))then aM ((C,()),())else xG ((x.1.1,(),x.1.2.2.1,(W6 (C+1)),()),(x.2.1,()))else bG ((),())
def al4:KY 19 (bx f132):=⟨0,lB 0 ⟨[(0,.lf (.aF .Addr 0)),(3,.aJ 3 0),(7,tI),(8,tI)],[(3,.aA aaK)],[]⟩ [(1,Ca),(2,mA)] HZ,lp []⟩
def Ez(D:aa aP)(C:aP):ah (Int):=(iter HZ bk ((D,(),(D.length:Int),0,()),((C.ay,C.row,C.bZ,()),()))).bind (Sum.elim (λE=>some E.1.1) (Sum.elim (λI=>some (-1)) (λz=>nomatch z)))
def ab3:=dg [(false,(.sl .Addr)),(true,.Addr)] gd (di Ez) 19 [] [al4] func132
abbrev ab4:=((aj×aj×Int×Int×aj)×(au×(Int×Int×Int×Int×aj)×aj))
def Mx(x:ab4):ah (ab4⊕(((Bool×aj)×(aj))⊕(((aj×aj×aj)×(au×(Int×Int×Int×Int×aj)×aj))⊕Empty))):=letI C:=x.1.2.2.2.1;bif C<x.1.2.2.1 then xI x.2.1.bB C λD=>(Au D).bind λE=>bif (!E)then aM ((false,()),())else xI x.2.1.guard C λI=>(bU I 3 1000).bind λO=>bif (!O)then aM ((false,()),())else xG (((),(),x.1.2.2.1,(W6 (C+1)),()),(x.2.1,x.2.2.1,()))else bG (((),(),()),(x.2.1,x.2.2.1,()))
def al5:KY 94 (bx f58):=⟨0,lB 0 ⟨[(1,.aJ 1 0),(3,.aJ 3 0),(47,tI),(48,tI)],Hh,[]⟩ [(1,uH),(2,aaI)] Mx,lp [dM,ab1]⟩
abbrev ab5:=((aj×aj×(aa aP)×Int×Int×aj)×(au×(Int×Int×Int×Int×aj)×aj))
def My(x:ab5):ah (ab5⊕(((Bool×aj)×(aj))⊕(((aj)×(aj))⊕Empty))):=letI u2:=x.2.2.1;letI u1:=aM ((false,()),());letI C:=x.1.2.2;letI u3:=C.2.2.1;bif u3<C.2.1 then xI C.1 u3 λD=>(Co (⟨u2.1,u2.2.1,u2.2.2.1,u2.2.2.2.1⟩:aH) D).bind λE=>bif (!E)then u1 else bif (D.bZ != 0)then u1 else (Ez x.2.1.pending D).bind λI=>bif (I != u3)then u1 else xG (((),(),C.1,C.2.1,(W6 (u3+1)),()),(x.2.1,u2,()))else bG ((),())
def al6:KY 94 (bx f58):=⟨2,lB 2 ⟨[(1,.aJ 1 0),(3,.aJ 3 0),(69,.lf (.aF .Addr 0)),(70,tI),(71,tI)],Hh,[]⟩ [(1,uH),(4,mA)] My,lp [Tx,ab3]⟩
def Mz(C:au):ah (Bool):=(jB C.config.ak).bind λE=>(At C.aB).bind λI=>bif (!I)then some false else bif ((C.aB.aD.length:Int) != E)then some false else bif ((C.bB.length:Int) != E)then some false else bif ((C.guard.length:Int) != E)then some false else bif (C.pending.length:Int) > 128 then some false else cZ Mx (((),(),(C.bB.length:Int),0,()),(C,(C.config.ak.bM,C.config.ak.aE,C.config.ak.rows,C.config.ak.aR,()),())) (λO=>some O.1.1) λD=>cZ My (((),(),D.2.1.pending,(D.2.1.pending.length:Int),0,()),(D.2.1,D.2.2.1,())) (λT=>some T.1.1) λU=>some true
def al7:=dg uG dP (cw Mz) 94 [lN,HW] [al5,al6] func58
def H6(C D:aV):ah (Bool):=bif C.at_<D.at_ then some true else bif (C.at_==D.at_)then some (C.id<D.id)else some false
def ab6:=bQ [(true,.eE),(true,.eE)] dP (di H6) 24 [] func110
def MA(E:Int)(C:aV):ah (Bool):=letI D:=(bU C.at_ 0 1000000).bind λI=>some I;(bU C.id 1 100000).bind λO=>bif O then (bU C.dR 0 3).bind λT=>bif T then bif C.line >= 0 then bif C.line<E then (Cg C.data).bind λU=>bif U then bif C.write then D else bif (C.data==0)then D else some false else some false else some false else some false else some false else some false
def al8:=bQ [(false,.int),(true,.eE)] dP (di MA) 43 [dM,Td] func133
abbrev ab7:=((Int×(aa aV)×aj×(aa aV)×Int×Int×(aa aV)×Int×Int×aj)×((Int×Int×Int×Bool×Int×Int×aj)×aj))
def EA(x:ab7):ah (ab7⊕(((Bool×aj)×(aj))⊕(((Int×(aa aV)×(aa aV)×Int×Int×aj)×(aj))⊕Empty))):=letI C:=x.1.2.2.2.2;letI u1:=C.2.2;bif u1.2.2.1<u1.2.1 then xI u1.1 u1.2.2.1 λD=>bif (D.id==x.2.1.1)then aM ((false,()),())else xG ((x.1.1,x.1.2.1,(),x.1.2.2.2.1,C.1,C.2.1,u1.1,u1.2.1,(W6 (u1.2.2.1+1)),()),(x.2.1,()))else bG ((x.1.1,x.1.2.1,x.1.2.2.2.1,C.1,C.2.1,()),())
def ab8:KY 52 (yg (bx f59) 0):=⟨2,lB 2 ⟨[(0,tI),(1,.lf (.aF .eE 0)),(6,.aJ 6 0),(9,.lf (.aF .eE 0)),(10,tI),(11,tI),(36,.lf (.aF .eE 0)),(37,tI),(38,tI)],[(6,.aA aai)],[]⟩ [(1,sU),(4,aan)] EA,lp []⟩
abbrev ab9:=((Int×(aa aV)×(aa aV)×Int×Int×aj)×(aj))
def H7(x:ab9):ah (ab9⊕(((Bool×aj)×(aj))⊕((((aa aV)×aj)×(aj))⊕Empty))):=letI u3:=x.1.2;letI u1:=u3.2.2.2.1;letI u2:=(u3.1.take u1.toNat).drop (0:Int).toNat;bif u1<u3.2.2.1 then xI u3.2.1 u1 λC=>letI E:=if 0 <= (0:Int)/\0 <= u1/\u1 <= (u3.1.length:Int)then cZ EA ((x.1.1,u3.1,(),u3.2.1,u3.2.2.1,u1,u2,(u2.length:Int),0,()),((C.id,C.dR,C.line,C.write,C.data,C.at_,()),())) (λI=>aM ((I.1.1,()),())) λD=>xG ((D.1.1,D.1.2.1,D.1.2.2.1,D.1.2.2.2.1,(W6 (D.1.2.2.2.2.1+1)),()),())else none;(MA x.1.1 C).bind λO=>bif (!O)then aM ((false,()),())else bif u1 > 0 then xI u3.1 (W6 (u1-1)) λT=>(H6 T C).bind λU=>bif (!U)then aM ((false,()),())else E else E else bG ((u3.1,()),())
def al9:KY 52 (bx f59):=⟨0,lB 0 aan [(1,sU),(2,⟨[(1,.lf (.aF .eE 0))],[],[]⟩)] H7,lq [ab6,al8] [ab8,ab8]⟩
def Cq(D:Int)(C:aa aV):ah (Bool):=cZ H7 ((D,C,C,(C.length:Int),0,()),()) (λE=>some E.1.1) λI=>some ((I.1.1.length:Int) <= 12)
def acd:=dg [(false,.int),(false,(.sl .eE))] dP (di Cq) 52 [] [al9] func59
def Cr(C:ij):ah (Bool):=(bU C.state 0 2).bind λD=>bif D then (bU C.since 0 1000000).bind λE=>bif E then (bU C.idle 0 1000000).bind λI=>some I else some false else some false
def MB:=bQ [(true,.Power)] dP (cw Cr) 16 [dM] func62
abbrev ace:=(((aa cI)×aj×(aa cI)×Int×Int×(aa cI)×Int×Int×aj)×((Int×Int×Int×aj)×aj))
def EB(x:ace):ah (ace⊕(((Bool×aj)×(aj))⊕((((aa cI)×(aa cI)×Int×Int×aj)×(aj))⊕Empty))):=letI u2:=x.1.2.2;letI u1:=u2.2.2;letI C:=xG ((x.1.1,(),u2.1,u2.2.1,u1.1,u1.2.1,u1.2.2.1,(W6 (u1.2.2.2.1+1)),()),(x.2.1,()));bif u1.2.2.2.1<u1.2.2.1 then xI u1.2.1 u1.2.2.2.1 λD=>bif (x.2.1.1==D.line)then bif (x.2.1.2.1==D.code)then aM ((false,()),())else C else C else bG ((x.1.1,u2.1,u2.2.1,u1.1,()),())
def acf:KY 59 (yg (bx f63) 0):=⟨2,lB 2 ⟨[(0,.lf (.aF .iP 0)),(4,.aJ 4 0),(7,.lf (.aF .iP 0)),(8,tI),(9,tI),(36,.lf (.aF .iP 0)),(37,tI),(38,tI)],[(4,.aA aaK)],[]⟩ [(1,uH),(4,aay)] EB,lp []⟩
abbrev acg:=(((aa cI)×(aa cI)×Int×Int×aj)×(aj))
def H8(x:acg):ah (acg⊕(((Bool×aj)×(aj))⊕((((aa cI)×aj)×(aj))⊕Empty))):=letI u3:=aM ((false,()),());letI u1:=x.1.2.2.2.1;letI u2:=(x.1.1.take u1.toNat).drop (0:Int).toNat;bif u1<x.1.2.2.1 then xI x.1.2.1 u1 λC=>letI E:=(bU C.times 1 999).bind λI=>bif (!I)then u3 else if 0 <= (0:Int)/\0 <= u1/\u1 <= (x.1.1.length:Int)then cZ EB ((x.1.1,(),x.1.2.1,x.1.2.2.1,u1,u2,(u2.length:Int),0,()),((C.line,C.code,C.times,()),())) (λO=>aM ((O.1.1,()),())) λD=>xG ((D.1.1,D.1.2.1,D.1.2.2.1,(W6 (D.1.2.2.2.1+1)),()),())else none;(bU C.line 0 1023).bind λT=>bif (!T)then u3 else bif (C.code != 1)then bif (C.code != 2)then u3 else E else E else bG ((x.1.1,()),())
def ama:KY 59 (bx f63):=⟨0,lB 0 aay [(1,uH),(2,⟨[(0,.lf (.aF .iP 0))],[],[]⟩)] H8,lq [dM] [acf,acf]⟩
def H9(C:aa cI):ah (Bool):=cZ H8 ((C,C,(C.length:Int),0,()),()) (λD=>some D.1.1) λE=>some ((E.1.1.length:Int) <= 6)
def ach:=dg [(false,(.sl .iP))] dP (cw H9) 59 [] [ama] func63
def vU(C:au):ah (Bool):=(sV C.config C.box.bT).bind λD=>bif (!D)then some false else (sV C.config C.box.next).bind λE=>bif (!E)then some false else (bU C.now 0 1000000).bind λI=>bif (!I)then some false else (HQ C.config.ak C.aI).bind λO=>bif (!O)then some false else (Ex C.config.ak C.ready).bind λT=>bif (!T)then some false else (Ey C.config.ak C.array).bind λU=>bif (!U)then some false else (HO C.config.ak C.spare).bind λY=>bif (!Y)then some false else bif (C.spare.cS != C.config.cS)then some false else (Mz C).bind λZ=>bif (!Z)then some false else (Cm C.config.ak C.spare).bind λy9=>(sW y9).bind λrE=>(Cq rE C.queue).bind λoS=>bif (!oS)then some false else (Eh C.shares).bind λvR=>bif (!vR)then some false else bif ((C.shares.length:Int) != 4)then some false else (Cf C.drain).bind λkW=>bif (!kW)then some false else (Cr C.aN).bind λnT=>bif (!nT)then some false else bif (C.aN.state != C.aI.aN)then some false else bif C.aN.since > C.now then some false else (bU C.eg.every 1 100000).bind λmC=>bif mC then (bU C.eg.wait 1 C.eg.every).bind λqj=>bif qj then (sW C.config.ak).bind λoT=>(bU C.eg.next 0 (W6 (oT-1))).bind λvV=>bif vV then (H9 C.errors).bind λIa=>bif Ia then bif (C.trace.length:Int) <= 2000 then some ((C.cc.length:Int) <= 400)else some false else some false else some false else some false else some false
def Cs:=bQ uG dP (cw vU) 155 [aa3,dM,Ej,Mt,abQ,Tw,abX,abN,al7,acd,Ta,Mi,MB,ach] func17
def Ct(C:Int)(D:Bool)(E:Int):ah (Bool):=bif (!D)then some (C==0)else (bU C 0 (W6 (E-1))).bind λI=>some I
def amb:=bQ [(false,.int),(false,.bool),(false,.int)] dP (iV Ct) 15 [dM] func265
def MC(C:Int):ah (Bool):=some (C==1)
def amc:=bQ sS dP (cw MC) 5 [] func266
def MD(C:Int):ah (Bool):=bif (C==2)then some true else some (C==3)
def amd:=bQ sS dP (cw MD) 9 [] func267
def Tz(C:aS)(D E I:Int):ah (Bool):=(bU C.kind 1 9).bind λO=>bif O then (ym C.kind).bind λT=>(Ct C.ay T D).bind λU=>bif U then (MC C.kind).bind λY=>(Ct C.row Y E).bind λZ=>bif Z then (MD C.kind).bind λy6=>(Ct C.bZ y6 I).bind λy7=>some y7 else some false else some false else some false
def ame:=bQ [(true,.Command),(false,.int),(false,.int),(false,.int)] dP (B7 Tz) 39 [dM,Mw,amb,amc,amd] func193
def Cu(C:aH)(D:aS):ah (Bool):=(ni C).bind λE=>bif E then (jB C).bind λI=>(Tz D I C.rows C.aR).bind λO=>some O else some false
def ME:=bQ [(true,.fG),(true,.Command)] dP (di Cu) 17 [lN,qk,ame] func114
def Ib(I:aH)(D:bJ)(C:aS):ah (Bool):=letI u4:=D.aN==0;letI u3:=bif u4 then xI D.aE C.ay λO=>some (!O.open_)else some false;letI u2:=bif u4 then xI D.aE C.ay λT=>some T.open_ else some false;letI E:=bif (C.kind==6)then some u4 else bif (C.kind==8)then bif u4 then (As D).bind λU=>some ((U.length:Int)==0)else some false else bif (C.kind==7)then some (D.aN==1)else some (D.aN==2);letI u1:=bif (C.kind==2)then bif (C.kind==2)then u2 else E else bif (C.kind==3)then bif (C.kind==3)then u2 else E else bif (C.kind==4)then u2 else E;(HQ I D).bind λY=>bif (!Y)then some false else (Cu I C).bind λZ=>bif (!Z)then some false else bif (C.kind==1)then bif (C.kind==1)then u3 else u1 else bif (C.kind==5)then u3 else u1
def aci:=bQ [(true,.fG),(true,.kN),(true,.Command)] dP (iV Ib) 75 [abQ,ME,Mv] func165
def MF(C:bW)(D E:Int):ah (Int):=(let T:Bool -> ah (Int):=λI=>(let O:Bool -> ah (Int):=λj2=>bif j2 then some C.qQ else (let U:Bool -> ah (Int):=λj3=>bif j3 then some C.jG else (let Y:Bool -> ah (Int):=λj4=>bif j4 then some (W6 (C.jG+C.rp))else (let Z:Bool -> ah (Int):=λj5=>bif j5 then some C.mQ else (let TA:Bool -> ah (Int):=λj6=>bif j6 then some (W6 (C.mQ+C.rp))else (let TB:Bool -> ah (Int):=λj7=>bif j7 then some C.wr else (let EC:Bool -> ah (Int):=λj8=>bif j8 then some (W6 (C.wr+C.rp))else (let TD:Bool -> ah (Int):=λj9=>bif j9 then some C.rp else (let TE:Bool -> ah (Int):=λAj=>bif Aj then some C.tL else some 0;bif (D==5)then (TE I)else (TE false));bif (D==4)then (TD I)else (TD false));bif (D==3)then (EC I)else (EC false));bif (D==3)then (TB (E==4))else (TB false));bif (D==2)then (TA I)else (TA false));bif (D==2)then (Z (E==4))else (Z false));bif (D==1)then (Y I)else (Y false));bif (D==1)then (U (E==4))else (U false));bif (D==1)then bif (E==2)then (O true)else (O (E==3))else (O false));bif (E==1)then (T true)else (T (E==5)))
def acj:=bQ [(true,.js),(false,.int),(false,.int)] gd (iV MF) 103 [] func270
def amf:enters Tryz.prog 307/\qa Tryz.prog 307 (ci Tryz.prog f307 1 []):=D9 1 [] func307 trivial
def MG(C:bW)(D E:Int)(I:Bool):ah (Int):=bif (D==7)then some C.xp else bif (D==9)then some C.xs else (let U:Bool -> ah (Int):=λj1=>bif j1 then (let Y:Int -> ah (Int):=λj2=>some j2;bif I then (Y C.om)else (Y C.rT))else (let O:Bool -> ah (Int):=λj4=>bif j4 then (let Z:Int -> ah (Int):=λj5=>some j5;bif I then (Z C.rV)else (Z C.rU))else (let Ic:Bool -> ah (Int):=λj7=>bif j7 then (let k9:Int -> ah (Int):=λj8=>some j8;bif I then (k9 C.rX)else (k9 C.rW))else (let k20:Bool -> ah (Int):=λAj=>bif Aj then some C.vh else (let k19:Bool -> ah (Int):=λL8=>bif L8 then some C.om else (let k18:Bool -> ah (Int):=λL9=>bif L9 then some C.mQ else (let Hr:Bool -> ah (Int):=λEd=>bif Ed then some C.wr else bif (E==8)then (MF C D 1).bind λnT=>some nT else (let T:Bool -> ah (Int):=λMa=>bif Ma then some C.tM else some 0;letI u0:=bif (D==8)then (T (E==9))else (T false);bif (D==6)then bif (E==7)then (T true)else u0 else u0);bif (D==3)then (Hr (E==6))else (Hr false));bif (D==2)then (k18 (E==6))else (k18 false));bif (D==5)then (k19 (E==5))else (k19 false));bif (D==2)then (k20 (E==3))else (k20 false));bif (D==3)then (Ic (E==2))else (Ic false));letI u1:=bif (D==3)then (O (E==3))else (O false);bif (D==2)then bif (E==2)then (O true)else u1 else u1);bif (D==1)then (U (E==1))else (U false))
def amg:=bQ [(true,.js),(false,.int),(false,.int),(false,.bool)] gd (B7 MG) 126 [acj,⟨307,.i _,amf⟩] func268
def Ie(C:aH)(D:Int):ah (Int):=(jB C).bind λE=>(bU D 0 (W6 (E-1))).bind λI=>bif (!I)then some (-1)else if C.aE=0 then none else some (W6 (D.tdiv C.aE))
def amh:=bQ S2 gd (di Ie) 15 [lN,dM] func269
def Av(U:aH)(O:bW)(C D:aS):ah (Int):=letI u3:=MF O C.kind D.kind;letI Y:=MG O C.kind D.kind false;(ym C.kind).bind λy1=>bif y1 then (ym D.kind).bind λT=>bif T then (Ie U C.ay).bind λy3=>(Ie U D.ay).bind λy4=>(MG O C.kind D.kind (y3==y4)).bind λE=>letI u1:=some (if E > 1 then E else 1);bif T then bif (C.ay==D.ay)then u3.bind λZ=>some (if Z > (if E > 1 then E else 1)then Z else (if E > 1 then E else 1))else u1 else u1 else Y.bind λI=>letI u2:=some (if I > 1 then I else 1);bif T then bif (C.ay==D.ay)then u3.bind λy8=>some (if y8 > (if I > 1 then I else 1)then y8 else (if I > 1 then I else 1))else u2 else u2 else Y.bind λy9=>some (if y9 > 1 then y9 else 1)
def ack:=bQ [(true,.fG),(true,.js),(true,.Command),(true,.Command)] gd (B7 Av) 55 [Mw,amg,amh,acj] func194
def ami:bC:=⟨[(4,.aJ 4 0),(5,.aJ 5 0),(6,.aJ 6 0),(7,.aJ 7 0),(9,tI),(30,.lf (.aF .int 0)),(31,tI),(32,tI)],[(4,.aA gI),(5,.st .js),(6,.aA Hi),(7,.aA gI)],[]⟩
def amj:aa (Nat×bC):=[(2,⟨[(5,.aJ 5 0),(6,.aJ 6 0),(7,.aJ 7 0),(9,tI)],[(5,.st .js),(6,.aA Hi),(7,.aA gI)],[]⟩)]
abbrev acm:=((aj×aj×aj×aj×Int×(aa Int)×Int×Int×aj)×((Int×Int×Int×Int×aj)×bW×((aa Int)×(aa Int)×aj)×(Int×Int×Int×Int×aj)×aj))
def Ig(x:acm):ah (acm⊕(((aj×aj×aj×Int×aj)×(bW×((aa Int)×(aa Int)×aj)×(Int×Int×Int×Int×aj)×aj))⊕Empty)):=letI u2:=(⟨x.2.1.1,x.2.1.2.1,x.2.1.2.2.1,x.2.1.2.2.2.1⟩:aH);letI u1:=x.2.2.2.2.1;letI u4:=(x.2.1,x.2.2.1,x.2.2.2.1,u1,());letI C:=x.1.2.2.2.2;letI u3:=C.2.2.2.1;bif u3<C.2.2.1 then xI C.2.1 u3 λD=>bif D<0 then xG (((),(),(),(),C.1,C.2.1,C.2.2.1,(W6 (u3+1)),()),u4)else (Cn u2 u3).bind λE=>(Av u2 x.2.2.1 E.1 (⟨u1.1,u1.2.1,u1.2.2.1,u1.2.2.2.1⟩:aS)).bind λI=>letI u5:=W6 (D+I);xG (((),(),(),(),(if u5 > C.1 then u5 else C.1),C.2.1,C.2.2.1,(W6 (u3+1)),()),u4)else aM (((),(),(),C.1,()),(x.2.2.1,x.2.2.2.1,u1,()))
def amk:KY 76 (bx f166):=⟨0,lB 0 ami amj Ig,lp [abR,ack]⟩
def MH(C:aH)(T:bW)(D:dN)(E:aS):ah (Int):=(Cd T).bind λU=>bif (!U)then some (-1)else (Ex C D).bind λY=>bif (!Y)then some (-1)else (Cu C E).bind λZ=>bif (!Z)then some (-1)else bR Ig (((),(),(),(),0,D.last,(D.last.length:Int),0,()),((C.bM,C.aE,C.rows,C.aR,()),T,(D.last,D.aZ,()),(E.kind,E.ay,E.row,E.bZ,()),())) λI=>letI u3:=I.1.2.2.2.1;letI u1:=u3;letI u2:=bif u1 > 1000000 then some (-1)else some u1;bif (I.2.2.2.1.1==1)then bif ((I.2.2.1.2.1.length:Int)==4)then xI I.2.2.1.2.1 (0:Int) λMI=>letI O:=W6 (MI+I.2.1.jZ);bif (if O > u3 then O else u1) > 1000000 then some (-1)else some (if O > u3 then O else u1)else u2 else u2
def aml:=dg [(true,.fG),(true,.js),(true,.oq),(true,.Command)] gd (B7 MH) 76 [Tw,Mg,ME] [amk] func166
def iO(C:au)(D:aS):ah (Bool):=(Ib C.config.ak C.aI D).bind λI=>bif (!I)then some false else (MH C.config.ak C.config.bP C.ready D).bind λE=>bif (E != (-1))then some (E <= C.now)else some false
def ED:=bQ [(true,.dV),(true,.Command)] dP (di iO) 32 [aci,aml] func68
abbrev acn:=((aj×(aa Int)×Int×Int×aj)×((aa Int)×aj))
def Ih(x:acn):ah (acn⊕(((aj×aj)×((aa Int)×aj))⊕Empty)):=letI u1:=x.1.2.2.2.1;letI C:=((),x.1.2.1,x.1.2.2.1,(W6 (u1+1)),());bif u1<x.1.2.2.1 then xI x.1.2.1 u1 λD=>bif D >= 4 then bif bV (x.2.1.length+([u1]:aa Int).length)then xG (C,((x.2.1++([u1]:aa Int)),()))else none else xG (C,(x.2.1,()))else aM (((),()),(x.2.1,()))
def amm:KY 26 (bx f135):=⟨0,lB 0 ⟨[(3,.lf (.own 9)),(11,.lf (.aF .int 0)),(12,tI),(13,tI)],[(9,.sl .int 2)],[]⟩ [(2,⟨[(3,.lf (.own 9))],[(9,.sl .int 2)],[]⟩)] Ih,lp []⟩
def EE(C:eB):ah ((aa Int)):=(At C).bind λD=>bif (!D)then some ([])else bR Ih (((),C.aD,(C.aD.length:Int),0,()),(([]:aa Int),())) λE=>some E.2.1
def TF:=dg [(true,.mU)] vQ (cw EE) 26 [HW] [amm] func135
def Aw(C:au):ah (Bool):=bif (C.queue.length:Int) > 0 then some true else bif (C.pending.length:Int) > 0 then some true else (EE C.aB).bind λD=>some ((D.length:Int) > 0)
def aco:=bQ uG dP (cw Aw) 20 [TF] func105
def MJ(D:wG)(C:ij)(E:Bool):ah (Int):=letI u1:=bif (C.state==1)then bif C.idle >= D.sleep then some 7 else some 0 else some 0;letI u2:=bif (C.state==0)then bif C.idle >= D.down then some 6 else u1 else u1;letI I:=bif E then some 0 else bif (C.state==0)then bif C.idle >= D.sleep then some 8 else u2 else u2;letI u3:=bif E then bif (C.state==2)then some 9 else I else I;(Hz D).bind λO=>bif (!O)then some 0 else (Cr C).bind λT=>bif (!T)then some 0 else bif E then bif (C.state==1)then some 7 else u3 else u3
def amn:=bQ [(true,.wJ),(true,.Power),(false,.bool)] gd (iV MJ) 64 [MB,aa1] func136
def Ax(D:au)(C:Int)(E:aS):ah (aS):=xI D.aI.aE C λI=>bif I.open_ then some (⟨4,C,0,0⟩:aS)else some E
def TG:=bQ [(true,.dV),(false,.int),(true,.Command)] [(true,.Command,0)] (iV Ax) 17 [] func137
def vW(C:aa Int)(D:Int):ah (Bool):=(Cp C D).bind λE=>some (decide (E >= 0))
def TH:=bQ LR dP (di vW) 9 [Ty] func138
def amo:enters Tryz.prog 205/\qa Tryz.prog 205 (cj Tryz.prog f205 1 []):=Hf (D9 1 [] func205 trivial)
abbrev acp:=(((aa aP)×Int×Int×Int×aj)×(aj))
def EF(x:acp):ah (acp⊕(((Int×aj)×(aj))⊕(((aj)×(aj))⊕Empty))):=letI C:=x.1.2.2.2.1;bif C<x.1.2.2.1 then xI x.1.1 C λD=>bif (D.ay==x.1.2.1)then aM ((C,()),())else xG ((x.1.1,x.1.2.1,x.1.2.2.1,(W6 (C+1)),()),())else bG ((),())
def amp:KY 19 (bx f252):=⟨0,lB 0 ⟨[(0,.lf (.aF .Addr 0)),(1,.fc 205 .int),(7,tI),(8,tI)],[],[]⟩ [(1,Ca),(2,mA)] EF,lp [⟨205,.i _,amo⟩]⟩
def TI(C:aa aP)(D:Int):ah (Int):=(iter EF bk ((C,D,(C.length:Int),0,()),())).bind (Sum.elim (λE=>some E.1.1) (Sum.elim (λI=>some (-1)) (λz=>nomatch z)))
def amq:KX:=⟨252,.q (gZ [(false,(.sl .Addr)),(false,(.A8 205))] [(false,.int,0)] λx=>TI x.1 x.2.1),kq 19 [] [amp] func252⟩
def TJ(C:aa aP)(D:Int):ah (Bool):=(TI C D).bind λE=>some (decide (E >= 0))
def amr:KX:=⟨204,.q (gZ [(false,(.sl .Addr)),(false,(.A8 205))] [(false,.bool,0)] λx=>TJ x.1 x.2.1),kp 9 [amq] func204⟩
def Cv(C:aa aP)(D:Int):ah (Bool):=(TJ C D).bind λE=>some E
def TK:=bQ [(false,(.sl .Addr)),(false,.int)] dP (di Cv) 8 [amr] func139
def MK(C:aH)(E:qP)(I:Int):ah (aP×Bool):=letI u3:=I.tmod C.aR;letI u2:=some ((⟨0,0,0⟩:aP),false);letI O:=W6 (I.tdiv C.aR);letI u6:=O.tmod C.rows;(ni C).bind λT=>bif (!T)then u2 else (Hw E).bind λU=>bif (!U)then u2 else (sW C).bind λY=>(bU I 0 (W6 (Y-1))).bind λZ=>bif (!Z)then u2 else (jB C).bind λD=>letI u5:=W6 (O.tdiv D);letI u4:=W6 (I.tdiv D);letI u1:=W6 (u4.tdiv C.aR);bif (E.order==0)then if C.aR=0 then none else if C.aR=0 then none else if D=0 then none else if C.aR=0 then none else if D=0 then none else bif E.hash then if D=0 then none else some ((⟨((W6 ((O.tmod D)+u5)).tmod D),u5,u3⟩:aP),true)else some ((⟨(O.tmod D),u5,u3⟩:aP),true)else bif (E.order==1)then if D=0 then none else if D=0 then none else if C.aR=0 then none else if D=0 then none else if C.aR=0 then none else bif E.hash then if D=0 then none else some ((⟨((W6 ((I.tmod D)+u1)).tmod D),u1,(u4.tmod C.aR)⟩:aP),true)else some ((⟨(I.tmod D),u1,(u4.tmod C.aR)⟩:aP),true)else if C.aR=0 then none else if C.aR=0 then none else if C.rows=0 then none else if C.aR=0 then none else if C.rows=0 then none else bif E.hash then if D=0 then none else some ((⟨((W6 ((W6 (O.tdiv C.rows))+u6)).tmod D),u6,u3⟩:aP),true)else some ((⟨(W6 (O.tdiv C.rows)),u6,u3⟩:aP),true)
def ams:=bQ [(true,.fG),(true,.vi),(false,.int)] [(true,.Addr,0),(false,.bool,0)] (iV MK) 99 [lN,dM,Ej,qk,aaY] func167
end Go.Proofs.YtgjfmljpdnnihaaGreat
