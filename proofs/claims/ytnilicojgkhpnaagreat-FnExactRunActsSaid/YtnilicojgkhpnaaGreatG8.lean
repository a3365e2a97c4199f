/-
  Functions of the program as plain functions of contents, and that the code computes them. Nothing here is a claim.
-/
import Derived.Test.YtnilicojgkhpnaaGreatVZ
import Derived.Test.YtnilicojgkhpnaaGreatRows
import Derived.Test.YtnilicojgkhpnaaGreatG1
import Derived.Test.YtnilicojgkhpnaaGreatG2
import Derived.Test.YtnilicojgkhpnaaGreatG3
import Derived.Test.YtnilicojgkhpnaaGreatG4
import Derived.Test.YtnilicojgkhpnaaGreatG5
import Derived.Test.YtnilicojgkhpnaaGreatG6
import Derived.Test.YtnilicojgkhpnaaGreatG7
namespace Go.Proofs.YtnilicojgkhpnaaGreat
set_option linter.defProp false
open Go.RowKit Go.Proofs.Tryz
set_option linter.unusedVariables false
set_option maxRecDepth 100000
abbrev aj4:=((af×af×Int×Int×af)×(av×(Int×Int×Int×Int×af)×af))
def S7(x:aj4):ah (aj4⊕(((Bool×af)×(af))⊕(((af×af×af)×(av×(Int×Int×Int×Int×af)×af))⊕Empty))):=letI C:=x.1.2.2.2.1;bif C<x.1.2.2.1 then xI x.2.1.bL C λD=>(Bg D).bind λE=>bif (!E)then ax ((false,()),())else xI x.2.1.guard C λL=>(cz L 3 1000).bind λO=>bif (!O)then ax ((false,()),())else xG (((),(),x.1.2.2.1,(W6 (C+1)),()),(x.2.1,x.2.2.1,()))else aU (((),(),()),(x.2.1,x.2.2.1,()))
def ayH:KY 94 (aW f217):=⟨0,lB 0 ⟨[(1,.aG 1 0),(3,.aG 3 0),(47,tI),(48,tI)],Y1,[]⟩ [(1,qW),(2,⟨[(1,.aG 1 0),(3,.aG 3 0)],Y1,[]⟩)] S7,lp [eB,aj1]⟩
abbrev aj5:=((af×af×(aa aJ)×Int×Int×af)×(av×(Int×Int×Int×Int×af)×af))
def S8(x:aj5):ah (aj5⊕(((Bool×af)×(af))⊕(((af)×(af))⊕Empty))):=letI C:=x.2.2.1;letI L:=ax ((false,()),());letI D:=x.1.2.2;letI E:=D.2.2.1;bif E<D.2.1 then xI D.1 E λO=>(zc (⟨C.1,C.2.1,C.2.2.1,C.2.2.2.1⟩:aL) O).bind λT=>bif (!T)then L else bif (O.bR != 0)then L else (He x.2.1.pending O).bind λU=>bif (U != E)then L else xG (((),(),D.1,D.2.1,(W6 (E+1)),()),(x.2.1,C,()))else aU ((),())
def ayI:KY 94 (aW f217):=⟨2,lB 2 ⟨[(1,.aG 1 0),(3,.aG 3 0),(69,.lf (.aF .Addr 0)),(70,tI),(71,tI)],Y1,[]⟩ [(1,qW),(4,fS)] S8,lp [M4,aj3]⟩
def S9(C:av):ah (Bool):=(lP C.config.az).bind λE=>(zd C.aV).bind λL=>bif (!L)then some false else bif ((C.aV.aI.length:Int) != E)then some false else bif ((C.bL.length:Int) != E)then some false else bif ((C.guard.length:Int) != E)then some false else bif (C.pending.length:Int) > 128 then some false else bE S7 (((),(),(C.bL.length:Int),0,()),(C,(C.config.az.cg,C.config.az.aC,C.config.az.rows,C.config.az.aO,()),())) (λO=>some O.1.1) λD=>bE S8 (((),(),D.2.1.pending,(D.2.1.pending.length:Int),0,()),(D.2.1,D.2.2.1,())) (λT=>some T.1.1) λU=>some true
def ayJ:=bS yG bP (bO S9) 94 [G9,nI] [ayH,ayI] func217
def D7(C:Int):ah (Bool):=(cz C 0 4294967295).bind λD=>some D
def Z6:=aZ lO bP (bO D7) 5 [eB] func415
def Ta(E:Int)(C:aN):ah (Bool):=letI D:=(cz C.at_ 0 1000000).bind λL=>some L;(cz C.id 1 100000).bind λO=>bif O then (cz C.c9 0 3).bind λT=>bif T then bif C.line >= 0 then bif C.line<E then (D7 C.data).bind λU=>bif U then bif C.write then D else bif (C.data==0)then D else some false else some false else some false else some false else some false else some false
def ayK:=aZ [(false,.int),(true,.dg)] bP (bx Ta) 43 [eB,Z6] func334
def M9(C D:aN):ah (Bool):=bif C.at_<D.at_ then some true else bif (C.at_==D.at_)then some (C.id<D.id)else some false
def aj6:=aZ Y4 bP (bx M9) 24 [] func335
abbrev aj7:=((Int×(aa aN)×af×(aa aN)×Int×Int×(aa aN)×Int×Int×af)×((Int×Int×Int×Bool×Int×Int×af)×af))
def Hf(x:aj7):ah (aj7⊕(((Bool×af)×(af))⊕(((Int×(aa aN)×(aa aN)×Int×Int×af)×(af))⊕Empty))):=letI D:=x.1.2.2.2.2;letI C:=D.2.2;bif C.2.2.1<C.2.1 then xI C.1 C.2.2.1 λE=>bif (E.id==x.2.1.1)then ax ((false,()),())else xG ((x.1.1,x.1.2.1,(),x.1.2.2.2.1,D.1,D.2.1,C.1,C.2.1,(W6 (C.2.2.1+1)),()),(x.2.1,()))else aU ((x.1.1,x.1.2.1,x.1.2.2.2.1,D.1,D.2.1,()),())
def aj8:KY 52 (sn (aW f218) 0):=⟨2,lB 2 ⟨[(0,tI),(1,.lf (.aF .dg 0)),(6,.aG 6 0),(9,.lf (.aF .dg 0)),(10,tI),(11,tI),(36,.lf (.aF .dg 0)),(37,tI),(38,tI)],[(6,.aB F0)],[]⟩ [(1,iz),(4,afW)] Hf,lp []⟩
abbrev aj9:=((Int×(aa aN)×(aa aN)×Int×Int×af)×(af))
def Na(x:aj9):ah (aj9⊕(((Bool×af)×(af))⊕((((aa aN)×af)×(af))⊕Empty))):=letI C:=x.1.2;letI D:=C.2.2.2.1;letI O:=(C.1.take D.toNat).drop (0:Int).toNat;bif D<C.2.2.1 then xI C.2.1 D λE=>letI T:=if 0 <= (0:Int)/\0 <= D/\D <= (C.1.length:Int)then bE Hf ((x.1.1,C.1,(),C.2.1,C.2.2.1,D,O,(O.length:Int),0,()),((E.id,E.c9,E.line,E.write,E.data,E.at_,()),())) (λU=>ax ((U.1.1,()),())) λL=>xG ((L.1.1,L.1.2.1,L.1.2.2.1,L.1.2.2.2.1,(W6 (L.1.2.2.2.2.1+1)),()),())else none;(Ta x.1.1 E).bind λY=>bif (!Y)then ax ((false,()),())else bif D > 0 then xI C.1 (W6 (D-1)) λZ=>(M9 Z E).bind λy6=>bif (!y6)then ax ((false,()),())else T else T else aU ((C.1,()),())
def ayL:KY 52 (aW f218):=⟨0,lB 0 afW [(1,iz),(2,⟨[(1,.lf (.aF .dg 0))],[],[]⟩)] Na,lq [ayK,aj6] [aj8,aj8]⟩
def D8(D:Int)(C:aa aN):ah (Bool):=bE Na ((D,C,C,(C.length:Int),0,()),()) (λE=>some E.1.1) λL=>some ((L.1.1.length:Int) <= 12)
def aka:=bS [(false,.int),(false,(.sl .dg))] bP (bx D8) 52 [] [ayL] func218
def ze(C:aL)(D:c8):ah (aL):=(M3 C D).bind λE=>bif (!E)then some (⟨0,0,0,0⟩:aL)else some (⟨C.cg,C.aC,(W6 (C.rows-D.bF)),C.aO⟩:aL)
def Hg:=aZ Y7 [(true,.ga,0)] (bx ze) 17 [ajX] func219
def D9(C:fk):ah (Bool):=(cz C.state 0 2).bind λD=>bif D then (cz C.since 0 1000000).bind λE=>bif E then (cz C.idle 0 1000000).bind λL=>some L else some false else some false
def Tb:=aZ [(true,.Power)] bP (bO D9) 16 [eB] func222
abbrev akb:=(((aa bV)×af×(aa bV)×Int×Int×(aa bV)×Int×Int×af)×((Int×Int×Int×af)×af))
def Hh(x:akb):ah (akb⊕(((Bool×af)×(af))⊕((((aa bV)×(aa bV)×Int×Int×af)×(af))⊕Empty))):=letI D:=x.1.2.2;letI C:=D.2.2;letI E:=xG ((x.1.1,(),D.1,D.2.1,C.1,C.2.1,C.2.2.1,(W6 (C.2.2.2.1+1)),()),(x.2.1,()));bif C.2.2.2.1<C.2.2.1 then xI C.2.1 C.2.2.2.1 λL=>bif (x.2.1.1==L.line)then bif (x.2.1.2.1==L.code)then ax ((false,()),())else E else E else aU ((x.1.1,D.1,D.2.1,C.1,()),())
def akc:KY 59 (sn (aW f223) 0):=⟨2,lB 2 ⟨[(0,.lf (.aF .fM 0)),(4,.aG 4 0),(7,.lf (.aF .fM 0)),(8,tI),(9,tI),(36,.lf (.aF .fM 0)),(37,tI),(38,tI)],[(4,.aB Kh)],[]⟩ [(1,qW),(4,agh)] Hh,lp []⟩
abbrev akd:=(((aa bV)×(aa bV)×Int×Int×af)×(af))
def Nb(x:akd):ah (akd⊕(((Bool×af)×(af))⊕((((aa bV)×af)×(af))⊕Empty))):=letI L:=ax ((false,()),());letI D:=x.1.2.2.2.1;letI O:=(x.1.1.take D.toNat).drop (0:Int).toNat;bif D<x.1.2.2.1 then xI x.1.2.1 D λC=>letI T:=(cz C.times 1 999).bind λU=>bif (!U)then L else if 0 <= (0:Int)/\0 <= D/\D <= (x.1.1.length:Int)then bE Hh ((x.1.1,(),x.1.2.1,x.1.2.2.1,D,O,(O.length:Int),0,()),((C.line,C.code,C.times,()),())) (λY=>ax ((Y.1.1,()),())) λE=>xG ((E.1.1,E.1.2.1,E.1.2.2.1,(W6 (E.1.2.2.2.1+1)),()),())else none;(cz C.line 0 1023).bind λZ=>bif (!Z)then L else bif (C.code != 1)then bif (C.code != 2)then L else T else T else aU ((x.1.1,()),())
def ayM:KY 59 (aW f223):=⟨0,lB 0 agh [(1,qW),(2,⟨[(0,.lf (.aF .fM 0))],[],[]⟩)] Nb,lq [eB] [akc,akc]⟩
def Nc(C:aa bV):ah (Bool):=bE Nb ((C,C,(C.length:Int),0,()),()) (λD=>some D.1.1) λE=>some ((E.1.1.length:Int) <= 6)
def ake:=bS [(false,(.sl .fM))] bP (bO Nc) 59 [] [ayM] func223
def Bh(C:av):ah (Bool):=(tF C.config C.box.bK).bind λD=>bif (!D)then some false else (tF C.config C.box.next).bind λE=>bif (!E)then some false else (cz C.now 0 1000000).bind λL=>bif (!L)then some false else (MT C.config.az C.bq).bind λO=>bif (!O)then some false else (G7 C.config.az C.ready).bind λT=>bif (!T)then some false else (D4 C.config.az C.array).bind λU=>bif (!U)then some false else (M3 C.config.az C.spare).bind λY=>bif (!Y)then some false else bif (C.spare.bF != C.config.bF)then some false else (S9 C).bind λZ=>bif (!Z)then some false else (ze C.config.az C.spare).bind λy9=>(qZ y9).bind λku=>(D8 ku C.queue).bind λfW=>bif (!fW)then some false else (G3 C.shares).bind λjd=>bif (!jd)then some false else bif ((C.shares.length:Int) != 4)then some false else (D2 C.drain).bind λje=>bif (!je)then some false else (D9 C.bk).bind λmc=>bif (!mc)then some false else bif (C.bk.state != C.bq.bk)then some false else bif C.bk.since > C.now then some false else (cz C.cB.every 1 100000).bind λjo=>bif jo then (cz C.cB.wait 1 C.cB.every).bind λnH=>bif nH then (qZ C.config.az).bind λjB=>(cz C.cB.next 0 (W6 (jB-1))).bind λov=>bif ov then (Nc C.errors).bind λwM=>bif wM then bif (C.trace.length:Int) <= 2000 then some ((C.cr.length:Int) <= 400)else some false else some false else some false else some false else some false
def Nd:=aZ yG bP (bO Bh) 155 [GY,eB,Z1,ajN,Z2,Z3,ajX,ayJ,aka,Hg,ZY,S2,Tb,ake] func71
def ayN:bG:=⟨[(1,tI),(2,.aG 2 0),(4,.aG 4 0),(5,.aG 5 0),(28,tI),(29,tI)],afO,[]⟩
def ayO:aa (Nat×bG):=[(2,⟨[(1,tI),(2,.aG 2 0),(4,.aG 4 0),(5,.aG 5 0)],afO,[]⟩)]
abbrev akf:=((Int×af×af×af×Int×Int×af)×(((aa Int)×Int×Bool×af)×(af×Int×Bool×af)×(af×Int×Bool×af)×(aa Int)×(aa Int)×af))
def Bi(x:akf):ah (akf⊕(((Int×af×af×af×af)×(((aa Int)×Int×Bool×af)×(af×Int×Bool×af)×(af×Int×Bool×af)×(aa Int)×(aa Int)×af))⊕Empty)):=letI L:=((),x.2.2.1.2.1,x.2.2.1.2.2.1,());letI D:=x.2.2.2;letI E:=D.2.2.1;letI O:=((),D.1.2.1,D.1.2.2.1,());letI C:=x.1.2.2.2.2;bif C.2.1<C.1 then xL E C.2.1 λU=>letI T:=W6 (U+1);xL E C.2.1 λY=>xG ((x.1.1,(),(),(),C.1,(W6 (C.2.1+1)),()),(x.2.1,L,O,D.2.1,(E.set C.2.1.toNat (if 5<T then 5 else T)),()))else ax ((x.1.1,(),(),(),()),(x.2.1,L,O,D.2.1,E,()))
def ayP:KY 52 (aW f72):=⟨0,lB 0 ayN ayO Bi,lp []⟩
def Ea(D:cO)(T:Int):ah (cO):=(uX D).bind λC=>letI O:=W6 (C.wait-1);(zd D).bind λU=>bif (!U)then some C else (cz T 2 10000).bind λY=>bif (!Y)then some C else bif O > 0 then some (⟨C.aI,O,C.dy⟩:cO)else bh Bi ((T,(),(),(),(C.aI.length:Int),0,()),((D.aI,D.wait,D.dy,()),((),0,false,()),((),O,C.dy,()),([]:aa Int),C.aI,())) λE=>letI L:=E.2.2.2;bif E.2.1.2.2.1 then some (⟨L.2.2.1,(W6 (E.1.1.tdiv 2)),L.1.2.2.1⟩:cO)else some (⟨L.2.2.1,E.1.1,L.1.2.2.1⟩:cO)
def ayQ:=bS QU [(true,.jJ,2)] (bx Ea) 52 [eB,S0,G9] [ayP] func72
def ayR:bG:=⟨[(2,tI),(6,.aG 6 0),(7,.aG 7 0),(23,tI),(24,tI)],afI,[]⟩
def ayS:aa (Nat×bG):=[(2,⟨[(6,.aG 6 0),(7,.aG 7 0)],afI,[]⟩)]
abbrev akg:=((Int×af×af×Int×Int×af)×((af×af×af×af)×(af×af×af×af)×(aa bN)×(aa Int)×(aa Int)×(aa bN)×(aa Int)×(aa Int)×af))
def Nf(x:akg):ah (akg⊕(((af×af×af)×((af×af×af×af)×(af×af×af×af)×(aa bN)×(aa Int)×(aa Int)×(aa bN)×(aa Int)×(aa Int)×af))⊕Empty)):=letI D:=x.2.2.2;letI O:=((),(),(),());letI E:=x.1.2.2.2.2.1;letI L:=D.2.2;letI C:=L.2.2;bif E<x.1.2.2.2.1 then xL C.1 E λU=>letI T:=W6 (U+x.1.1);xL C.1 E λY=>xG ((x.1.1,(),(),x.1.2.2.2.1,(W6 (E+1)),()),(O,O,D.1,D.2.1,L.1,L.2.1,(C.1.set E.toNat (if 100000<T then 100000 else T)),C.2.1,()))else ax (((),(),()),(O,O,D.1,D.2.1,L.1,L.2.1,C.1,C.2.1,()))
def ayT:KY 41 (aW f73):=⟨0,lB 0 ayR ayS Nf,lp []⟩
def Eb(O:aL)(E:cN)(L:Int):ah (cN):=(D1 E).bind λC=>(D4 O E).bind λT=>bif (!T)then some C else (cz L 0 100000).bind λU=>bif (!U)then some C else bh Nf ((L,(),(),(C.bD.length:Int),0,()),(((),(),(),()),((),(),(),()),([]:aa bN),([]:aa Int),([]:aa Int),C.cells,C.bD,C.bC,())) λY=>letI D:=Y.2.2.2.2.2.2;some (⟨D.1,D.2.1,D.2.2.1⟩:cN)
def ayU:=bS [(true,.ga),(true,.Array),(false,.int)] [(true,.Array,4)] (fR Eb) 41 [eB,ZP,Z3] [ayT] func73
def zf(C:gV)(D:Int):ah (gV):=(D2 C).bind λE=>bif (!E)then some C else bif D >= C.high then some (⟨true,C.low,C.high⟩:gV)else bif D <= C.low then some (⟨false,C.low,C.high⟩:gV)else some C
def ayV:=aZ [(true,.n6),(false,.int)] [(true,.n6,0)] (bx zf) 22 [S2] func74
abbrev akh:=((Bool×Int×(aa aN)×Int×Int×af)×(af))
def Bj(x:akh):ah (akh⊕(((Int×af)×(af))⊕Empty)):=letI C:=x.1.2.2;letI D:=C.2.2.1;bif D<C.2.1 then xI C.1 D λE=>bif (E.write==x.1.1)then xG ((x.1.1,(W6 (x.1.2.1+1)),C.1,C.2.1,(W6 (D+1)),()),())else xG ((x.1.1,x.1.2.1,C.1,C.2.1,(W6 (D+1)),()),())else ax ((x.1.2.1,()),())
def ayW:KY 22 (aW f75):=⟨0,lB 0 ⟨[(1,tB),(5,tI),(8,.lf (.aF .dg 0)),(9,tI),(10,tI)],[],[]⟩ [(2,wI)] Bj,lp []⟩
def zg(C:aa aN)(D:Bool):ah (Int):=bh Bj ((D,0,C,(C.length:Int),0,()),()) λE=>some E.1.1
def ayX:=bS [(false,(.sl .dg)),(false,.bool)] cE (bx zg) 22 [] [ayW] func75
def zh(C:fk)(E:Bool):ah (fk):=letI D:=W6 (C.idle+1);(D9 C).bind λL=>bif (!L)then some C else bif E then some (⟨C.state,C.since,0⟩:fk)else some (⟨C.state,C.since,(if 1000000<D then 1000000 else D)⟩:fk)
def ayY:=aZ [(true,.Power),(false,.bool)] [(true,.Power,0)] (bx zh) 18 [Tb] func76
abbrev aki:=((af×(aa Int)×Int×Int×af)×((aa Int)×af))
def Ng(x:aki):ah (aki⊕(((af×af)×((aa Int)×af))⊕Empty)):=letI C:=x.1.2.2.2.1;letI D:=((),x.1.2.1,x.1.2.2.1,(W6 (C+1)),());bif C<x.1.2.2.1 then xI x.1.2.1 C λE=>bif E >= 4 then bif bI (x.2.1.length+([C]:aa Int).length)then xG (D,((x.2.1++([C]:aa Int)),()))else none else xG (D,(x.2.1,()))else ax (((),()),(x.2.1,()))
def ayZ:KY 26 (aW f225):=⟨0,lB 0 ⟨[(3,.lf (.own 9)),(11,.lf (.aF .int 0)),(12,tI),(13,tI)],[(9,.sl .int 2)],[]⟩ [(2,⟨[(3,.lf (.own 9))],[(9,.sl .int 2)],[]⟩)] Ng,lp []⟩
def Hi(C:cO):ah ((aa Int)):=(zd C).bind λD=>bif (!D)then some ([])else bh Ng (((),C.aI,(C.aI.length:Int),0,()),(([]:aa Int),())) λE=>some E.2.1
def Z7:=bS F3 mP (bO Hi) 26 [G9] [ayZ] func225
def wO(C:av):ah (Bool):=bif (C.queue.length:Int) > 0 then some true else bif (C.pending.length:Int) > 0 then some true else (Hi C.aV).bind λD=>some ((D.length:Int) > 0)
def akj:=aZ yG bP (bO wO) 20 [Z7] func77
def Bk(C:fL)(E:Bool):ah (fL×Bool):=(GS C).bind λD=>bif (!E)then some (D,false)else bif (!C.waits)then some (D,false)else (sx C.next).bind λL=>some ((⟨L,D.next,false⟩:fL),true)
def ay0:=aZ [(true,.mC),(false,.bool)] F1 (bx Bk) 23 [ZO,SY] func78
def sA(C:jY)(D:Int):ah (jY×Int):=letI E:=some (C,(-1));(cz C.every 1 100000).bind λL=>bif (!L)then E else (cz C.wait 1 C.every).bind λO=>bif (!O)then E else bif D<1 then E else (cz C.next 0 (W6 (D-1))).bind λT=>bif (!T)then E else bif (W6 (C.wait-1)) > 0 then some ((⟨C.next,C.every,(W6 (C.wait-1))⟩:jY),(-1))else if D=0 then none else some ((⟨((W6 (C.next+1)).tmod D),C.every,C.every⟩:jY),C.next)
def ay1:=aZ [(true,.pP),(false,.int)] [(true,.pP,0),(false,.int,0)] (bx sA) 52 [eB] func80
abbrev akk:=((Int×Int×Int×Int×af)×(af))
def akl(x:akk):ah (akk⊕(((Int×af)×(af))⊕Empty)):=letI E:=x.1.2.1;letI C:=x.1.2.2;letI O:=bits .xor .i64 C.1 x.1.1;letI L:=W6 (C.2.1+1);letI D:=W6 (x.1.1*2 ^ (min (1:Int).toNat IntKind.i64.bits));bif C.2.1<4 then if C.2.1<0 then none else bif ((bits .and .i64 (E.fdiv (2 ^ (min C.2.1.toNat IntKind.i64.bits))) 1)==1)then bif D > 15 then xG (((bits .xor .i64 D 19),E,O,L,()),())else xG ((D,E,O,L,()),())else bif D > 15 then xG (((bits .xor .i64 D 19),E,C.1,L,()),())else xG ((D,E,C.1,L,()),())else ax ((C.1,()),())
def ay2:KY 34 (aW f338):=⟨0,lB 0 YQ [(2,wI)] akl,lp []⟩
def jS(C D:Int):ah (Int):=(sy C).bind λE=>bif (!E)then some (-1)else (sy D).bind λL=>bif (!L)then some (-1)else bh akl ((C,D,0,0,()),()) λO=>some O.1.1
def Nh:=bS AT cE (bx jS) 34 [MW] [ay2] func338
abbrev akm:=((Int×Int×Int×af)×(af))
def akn(x:akm):ah (akm⊕(((Int×af)×(af))⊕Empty)):=bif x.1.2.1 > 0 then (jS x.1.2.2.1 x.1.1).bind λC=>xG ((x.1.1,(W6 (x.1.2.1-1)),C,()),())else ax ((x.1.2.2.1,()),())
def ay3:KY 22 (aW f416):=⟨0,lB 0 ⟨[(0,tI),(1,tI),(5,tI)],[],[]⟩ [(2,wI)] akn,lp [Nh]⟩
def Ni(C D:Int):ah (Int):=(sy C).bind λE=>bif (!E)then some (-1)else (cz D 0 1000).bind λL=>bif (!L)then some (-1)else bh akn ((C,D,1,()),()) λO=>some O.1.1
def ako:=bS AT cE (bx Ni) 22 [eB,MW] [ay3] func416
abbrev akp:=(((aa Int)×af×Int×Int×Int×(aa Int)×Int×Int×af)×((aa Int)×af))
def Ec(x:akp):ah (akp⊕((((aa Int)×af×Int×Int×af)×((aa Int)×af))⊕Empty)):=letI C:=x.1.2.2;letI D:=C.2.2;letI E:=D.2.2.2.1;bif E<D.2.2.1 then xI D.2.1 E λL=>xL x.2.1 C.1 λO=>(Ni 2 (W6 (E*C.1))).bind λT=>(jS L T).bind λU=>xL x.2.1 C.1 λY=>xG ((x.1.1,(),C.1,C.2.1,D.1,D.2.1,D.2.2.1,(W6 (E+1)),()),((x.2.1.set C.1.toNat (bits .xor .i64 O U)),()))else ax ((x.1.1,(),C.2.1,D.1,()),(x.2.1,()))
def ay4:KY 38 (sn (aW f336) 0):=⟨2,lB 2 ⟨[(0,.lf (.aF .int 0)),(3,.lf (.own 10)),(4,tI),(12,tI),(13,tI),(16,.lf (.aF .int 0)),(17,tI),(18,tI)],[(10,.sl .int 2)],[]⟩ [(4,afU)] Ec,lp [Nh,ako]⟩
abbrev akq:=(((aa Int)×af×Int×Int×af)×((aa Int)×af))
def Hj(x:akq):ah (akq⊕(((af×af)×((aa Int)×af))⊕Empty)):=letI C:=x.1.2.2;bif C.2.1<C.1 then bh Ec ((x.1.1,(),C.2.1,C.1,C.2.1,x.1.1,(x.1.1.length:Int),0,()),(x.2.1,())) λD=>xG ((D.1.1,(),D.1.2.2.1,(W6 (D.1.2.2.2.1+1)),()),(D.2.1,()))else ax (((),()),(x.2.1,()))
def ay5:KY 38 (aW f336):=⟨0,lB 0 afU [(2,⟨[(3,.lf (.own 10))],[(10,.sl .int 2)],[]⟩)] Hj,lq [] [ay4]⟩
def Bl(D:aa Int):ah ((aa Int)):=letI C:=(3:Int);(wN D 11).bind λE=>bif (!E)then some ([])else if 0 <= C/\C <= 3/\C<1073741824 then bh Hj ((D,(),((List.replicate C.toNat (0:Int)).length:Int),0,()),((List.replicate C.toNat (0:Int)),())) λL=>some L.2.1 else none
def Z8:=bS ou mP (bO Bl) 38 [MX] [ay5] func336
def Tc(D:aa Int):ah (Bool):=(Bl D).bind λC=>bif ke C then none else xL C (0:Int) λE=>bif (E==0)then xL C (1:Int) λL=>bif (L==0)then xL C (2:Int) λO=>some (O==0)else some false else some false
def ay6:=aZ ou bP (bO Tc) 26 [Z8] func337
abbrev akr:=((Int×Int×af)×(af))
def aks(x:akr):ah (akr⊕(((Int×af)×(af))⊕(((af)×(af))⊕Empty))):=bif x.1.2.1 <= 15 then (jS x.1.1 x.1.2.1).bind λC=>bif (C==1)then ax ((x.1.2.1,()),())else xG ((x.1.1,(W6 (x.1.2.1+1)),()),())else aU ((),())
def ay7:KY 13 (aW f339):=⟨0,lB 0 agz [(1,⟨[(2,tI)],[],[]⟩),(2,fS)] aks,lp [Nh]⟩
def Ed(C:Int):ah (Int):=bE aks ((C,1,()),()) (λD=>some D.1.1) λE=>some (-1)
def akt:=bS lO cE (bO Ed) 13 [] [ay7] func339
abbrev aku:=((Int×Int×af)×(af))
def akv(x:aku):ah (aku⊕(((Int×af)×(af))⊕(((af)×(af))⊕Empty))):=bif x.1.2.1<15 then (Ni 2 x.1.2.1).bind λC=>bif (C==x.1.1)then ax ((x.1.2.1,()),())else xG ((x.1.1,(W6 (x.1.2.1+1)),()),())else aU ((),())
def ay8:KY 13 (aW f340):=⟨0,lB 0 agz [(1,⟨[(2,tI)],[],[]⟩),(2,fS)] akv,lp [ako]⟩
def Td(C:Int):ah (Int):=bE akv ((C,0,()),()) (λD=>some D.1.1) λE=>some (-1)
def ay9:=bS lO cE (bO Td) 13 [] [ay8] func340
def Nj(L:aa Int):ah ((aa Int)×Int×Int):=letI C:=xA L;letI O:=some (C,2,(-1));(Bl L).bind λE=>bif ke E then none else bif xZ L then (Tc L).bind λU=>bif U then some (C,0,(-1))else xL E (0:Int) λY=>bif (Y != 0)then xL E (1:Int) λZ=>bif (Z != 0)then xL E (1:Int) λuU=>xL E (0:Int) λiA=>(Ed iA).bind λjo=>(jS uU jo).bind λT=>(Td T).bind λD=>bif D<11 then xL E (1:Int) λDF=>xL E (2:Int) λGL=>(jS DF T).bind λqm=>bif (qm==GL)then xC C D (if h26:D.toNat<C.length then (let tD:=C[D.toNat]'h26;xL E (0:Int) λo9=>xC C D (if h32:D.toNat<C.length then (let e33:=C[D.toNat]'h32;some ((C.set D.toNat (bits .xor .i64 tD o9)),1,D))else none))else none)else O else O else O else O else none
def akw:=aZ ou [(false,(.sl .int),2),(false,.int,0),(false,.int,0)] (bO Nj) 64 [Z8,ay6,Nh,akt,ay9] func228
abbrev akx:=((Int×(aa Int)×Int×Int×af)×(af))
def Nk(x:akx):ah (akx⊕(((Int×af)×(af))⊕Empty)):=letI C:=x.1.2.2.2.1;bif C<x.1.2.2.1 then xI x.1.2.1 C λD=>if (W6 (4*C))<0 then none else xG (((bits .or .i64 x.1.1 (W6 (D*2 ^ (min (W6 (4*C)).toNat IntKind.i64.bits)))),x.1.2.1,x.1.2.2.1,(W6 (C+1)),()),())else ax ((x.1.1,()),())
def aza:KY 25 (aW f341):=⟨0,lB 0 ⟨[(4,tI),(10,.lf (.aF .int 0)),(11,tI),(12,tI)],[],[]⟩ [(2,lN)] Nk,lp []⟩
def Te(C:aa Int):ah (Int×Bool):=(wN C 8).bind λD=>bif (!D)then some (0,false)else bh Nk ((0,C,(C.length:Int),0,()),()) λE=>some (E.1.1,true)
def azb:=bS ou [(false,.int,0),(false,.bool,0)] (bO Te) 25 [MX] [aza] func341
def Tf(D:aa Int):ah ((aa Int)):=letI C:=(D.length:Int);letI E:=(D.take C.toNat).drop (3:Int).toNat;(wN D 11).bind λL=>bif (!L)then some ([])else if 0 <= (3:Int)/\3 <= C/\C <= C then bif xZ E then some (xA E)else none else none
def azc:=aZ ou mP (bO Tf) 10 [MX] func342
def Tg(D:aa Int):ah (Int×Int×Int):=(Nj D).bind λC=>bif (C.2.1==2)then some (0,C.2.1,C.2.2)else (Tf C.1).bind λE=>(Te E).bind λL=>some (L.1,C.2.1,C.2.2)
def azd:=aZ ou [(false,.int,0),(false,.int,0),(false,.int,0)] (bO Tg) 29 [akw,azb,azc] func229
def Nl(C:aa bV):ah ((aa bV)):=bif xZ C then some (xA C)else none
def aze:=aZ [(false,(.sl .fM))] [(false,(.sl .fM),2)] (bO Nl) 6 [] func343
abbrev aky:=((Int×Int×af×af×Int×Int×af)×((aa bV)×af))
def Nm(x:aky):ah (aky⊕(((af×Bool×af)×((aa bV)×af))⊕(((Int×Int×af×af)×((aa bV)×af))⊕Empty))):=letI C:=x.1.2.2.2.2;letI E:=xG ((x.1.1,x.1.2.1,(),(),C.1,(W6 (C.2.1+1)),()),(x.2.1,()));bif C.2.1<C.1 then xL x.2.1 C.2.1 λD=>letI L:=W6 (D.times+1);bif (D.line==x.1.1)then bif (D.code==x.1.2.1)then xL x.2.1 C.2.1 λO=>ax (((),true,()),((x.2.1.set C.2.1.toNat (⟨O.line,O.code,(if 999<L then 999 else L)⟩:bV)),()))else E else E else aU ((x.1.1,x.1.2.1,(),()),(x.2.1,()))
def azf:KY 69 (aW f230):=⟨0,lB 0 afM [(1,agi),(2,af6)] Nm,lp []⟩
abbrev akz:=((Int×Int×af×af×Int×Int×af)×((aa bV)×af))
def Z9(x:akz):ah (akz⊕(((af×Bool×af)×((aa bV)×af))⊕(((Int×Int×af×af)×((aa bV)×af))⊕Empty))):=letI C:=x.1.2.2.2.2;letI E:=xG ((x.1.1,x.1.2.1,(),(),C.1,(W6 (C.2.1+1)),()),(x.2.1,()));bif C.2.1<C.1 then xL x.2.1 C.2.1 λD=>letI L:=W6 (D.times+1);bif (D.line==x.1.1)then bif (D.code==x.1.2.1)then xL x.2.1 C.2.1 λO=>ax (((),true,()),((x.2.1.set C.2.1.toNat (⟨O.line,O.code,(if 999<L then 999 else L)⟩:bV)),()))else E else E else aU ((x.1.1,x.1.2.1,(),()),(x.2.1,()))
def azg:KY 69 (aW f230):=⟨0,lB 0 afM [(1,agi),(2,af6)] Z9,lp []⟩
def Th(x0:aa bV)(x1 U:Int):ah ((aa bV)×Bool):=(Nl x0).bind λY=>letI Z:=some (Y,false);letI u4:=((x1,U,(),(),(Y.length:Int),0,()),(Y,()));(Nc x0).bind λy2=>bif (!y2)then Z else (cz x1 0 1023).bind λy3=>bif (!y3)then Z else bif (U != 1)then bif (U != 2)then Z else bE Nm u4 (λfy=>some (fy.2.1,fy.1.2.1)) λC=>letI E:=(C.2.1.length:Int);letI O:=([(⟨C.1.1,C.1.2.1,1⟩:bV)]:aa bV);bif (E==6)then if 0 <= (1:Int)/\1 <= E/\E <= E then (Nl ((C.2.1.take (E.toNat)).drop ((1:Int).toNat))).bind λjd=>bif bI (jd.length+O.length)then some ((jd++O),true)else none else none else bif bI (C.2.1.length+O.length)then some ((C.2.1++O),true)else none else bE Z9 u4 (λTi=>some (Ti.2.1,Ti.1.2.1)) λD=>letI L:=(D.2.1.length:Int);letI T:=([(⟨D.1.1,D.1.2.1,1⟩:bV)]:aa bV);bif (L==6)then if 0 <= (1:Int)/\1 <= L/\L <= L then (Nl ((D.2.1.take (L.toNat)).drop ((1:Int).toNat))).bind λkz=>bif bI (kz.length+T.length)then some ((kz++T),true)else none else none else bif bI (D.2.1.length+T.length)then some ((D.2.1++T),true)else none
def azh:=bS YR [(false,(.sl .fM),2),(false,.bool,0)] (fR Th) 69 [eB,ake,aze] [azf,azg] func230
def zi(C:av)(E D:Int):ah ((af)×(av×af)):=bif (D != 0)then (Th C.errors E D).bind λL=>some ((),({C with errors:=L.1},()))else some ((),(C,()))
def akA:=yE YV [] (fR zi) 21 [azh] func83
def Ee(C:Int)(D:Bool)(E:Int):ah (Bool):=bif (!D)then some (C==0)else (cz C 0 (W6 (E-1))).bind λL=>some L
def azi:=aZ [(false,.int),(false,.bool),(false,.int)] bP (fR Ee) 15 [eB] func465
def Tj(C:Int):ah (Bool):=some (C==1)
def azj:=aZ lO bP (bO Tj) 5 [] func466
def Tl(C:Int):ah (Bool):=bif (C==2)then some true else some (C==3)
def azk:=aZ lO bP (bO Tl) 9 [] func467
def aaa(C:aH)(D E L:Int):ah (Bool):=(cz C.kind 1 9).bind λO=>bif O then (zb C.kind).bind λT=>(Ee C.ay T D).bind λU=>bif U then (Tj C.kind).bind λY=>(Ee C.row Y E).bind λZ=>bif Z then (Tl C.kind).bind λy6=>(Ee C.bR y6 L).bind λy7=>some y7 else some false else some false else some false
def azl:=aZ [(true,.Command),(false,.int),(false,.int),(false,.int)] bP (nE aaa) 39 [eB,S4,azi,azj,azk] func456
def Hl(C:aL)(D:aH):ah (Bool):=(qp C).bind λE=>bif E then (lP C).bind λL=>(aaa D L C.rows C.aO).bind λO=>some O else some false
def aab:=aZ Y6 bP (bx Hl) 17 [nI,tE,azl] func426
def Nn(T:aL)(D:cH)(C:aH):ah (Bool):=letI E:=D.bk==0;letI U:=bif E then xI D.aC C.ay λZ=>some (!Z.open_)else some false;letI L:=bif E then xI D.aC C.ay λe6=>some e6.open_ else some false;letI O:=bif (C.kind==6)then some E else bif (C.kind==8)then bif E then (Be D).bind λy7=>some ((y7.length:Int)==0)else some false else bif (C.kind==7)then some (D.bk==1)else some (D.bk==2);letI Y:=bif (C.kind==2)then bif (C.kind==2)then L else O else bif (C.kind==3)then bif (C.kind==3)then L else O else bif (C.kind==4)then L else O;(MT T D).bind λy1=>bif (!y1)then some false else (Hl T C).bind λy2=>bif (!y2)then some false else bif (C.kind==1)then bif (C.kind==1)then U else Y else bif (C.kind==5)then U else Y
def akB:=aZ [(true,.ga),(true,.iO),(true,.Command)] bP (fR Nn) 75 [ajN,S3,aab] func351
def Tn(C:dw)(D E:Int):ah (Int):=(let T:Bool -> ah (Int):=λL=>(let O:Bool -> ah (Int):=λj2=>bif j2 then some C.kF else (let U:Bool -> ah (Int):=λj3=>bif j3 then some C.hD else (let Y:Bool -> ah (Int):=λj4=>bif j4 then some (W6 (C.hD+C.rp))else (let Z:Bool -> ah (Int):=λj5=>bif j5 then some C.jI else (let k15:Bool -> ah (Int):=λj6=>bif j6 then some (W6 (C.jI+C.rp))else (let k14:Bool -> ah (Int):=λj7=>bif j7 then some C.wr else (let Np:Bool -> ah (Int):=λj8=>bif j8 then some (W6 (C.wr+C.rp))else (let k12:Bool -> ah (Int):=λj9=>bif j9 then some C.rp else (let Mo:Bool -> ah (Int):=λDJ=>bif DJ then some C.nZ else some 0;bif (D==5)then (Mo L)else (Mo false));bif (D==4)then (k12 L)else (k12 false));bif (D==3)then (Np L)else (Np false));bif (D==3)then (k14 (E==4))else (k14 false));bif (D==2)then (k15 L)else (k15 false));bif (D==2)then (Z (E==4))else (Z false));bif (D==1)then (Y L)else (Y false));bif (D==1)then (U (E==4))else (U false));bif (D==1)then bif (E==2)then (O true)else (O (E==3))else (O false));bif (E==1)then (T true)else (T (E==5)))
def akC:=aZ [(true,.kI),(false,.int),(false,.int)] cE (fR Tn) 103 [] func459
def azm:enters Tryz.prog 468/\kR Tryz.prog 468 (ci Tryz.prog f468 1 []):=qV 1 [] func468 trivial
end Go.Proofs.YtnilicojgkhpnaaGreat
