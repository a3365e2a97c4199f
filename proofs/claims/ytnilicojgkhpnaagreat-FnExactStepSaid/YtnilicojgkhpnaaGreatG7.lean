/-
  Functions of the program as plain functions of contents, and that the code computes them. Nothing here is a claim.
-/
import Derived.Test.YtnilicojgkhpnaaGreatVZ
import Derived.Test.YtnilicojgkhpnaaGreatRows
import Derived.Test.YtnilicojgkhpnaaGreatG1
import Derived.Test.YtnilicojgkhpnaaGreatG2
import Derived.Test.YtnilicojgkhpnaaGreatG3
import Derived.Test.YtnilicojgkhpnaaGreatG4
import Derived.Test.YtnilicojgkhpnaaGreatG5
import Derived.Test.YtnilicojgkhpnaaGreatG6
namespace Go.Proofs.YtnilicojgkhpnaaGreat
set_option linter.defProp false
open Go.RowKit Go.Proofs.Tryz
set_option linter.unusedVariables false
set_option maxRecDepth 100000
abbrev ahu:=((Int×(aa bk)×af×(aa bk)×Int×Int×(aa bk)×Int×Int×af)×((Int×Int×Int×Bool×Int×Int×af)×af))
def Ey(x:ahu):ah (ahu⊕(((Bool×af)×(af))⊕(((Int×(aa bk)×(aa bk)×Int×Int×af)×(af))⊕Empty))):=letI D:=x.1.2.2.2.2;letI C:=D.2.2;bif C.2.2.1<C.2.1 then xI C.1 C.2.2.1 λE=>bif (E.id==x.2.1.1)then aq ((false,()),())else xG ((x.1.1,x.1.2.1,(),x.1.2.2.2.1,D.1,D.2.1,C.1,C.2.1,(W6 (C.2.2.1+1)),()),(x.2.1,()))else aM ((x.1.1,x.1.2.1,x.1.2.2.2.1,D.1,D.2.1,()),())
def ahv:KY 52 (pK (aN f218) 0):=⟨2,lB 2 ⟨[(0,tI),(1,.lf (.aC .cQ 0)),(6,.aG 6 0),(9,.lf (.aC .cQ 0)),(10,tI),(11,tI),(36,.lf (.aC .cQ 0)),(37,tI),(38,tI)],[(6,.az [.int .i64,.int .i64,.int .i64,.bool,.int .i64,.int .i64])],[]⟩ [(1,fJ),(4,adM)] Ey,lp []⟩
abbrev ahw:=((Int×(aa bk)×(aa bk)×Int×Int×af)×(af))
def JK(x:ahw):ah (ahw⊕(((Bool×af)×(af))⊕((((aa bk)×af)×(af))⊕Empty))):=letI C:=x.1.2;letI D:=C.2.2.2.1;letI O:=(C.1.take D.toNat).drop (0:Int).toNat;bif D<C.2.2.1 then xI C.2.1 D λE=>letI T:=if 0 <= (0:Int)/\0 <= D/\D <= (C.1.length:Int)then br Ey ((x.1.1,C.1,(),C.2.1,C.2.2.1,D,O,(O.length:Int),0,()),((E.id,E.de,E.line,E.write,E.data,E.at_,()),())) (λU=>aq ((U.1.1,()),())) λL=>xG ((L.1.1,L.1.2.1,L.1.2.2.1,L.1.2.2.2.1,(W6 (L.1.2.2.2.2.1+1)),()),())else none;(P6 x.1.1 E).bind λY=>bif (!Y)then aq ((false,()),())else bif D > 0 then xI C.1 (W6 (D-1)) λZ=>(P7 Z E).bind λy6=>bif (!y6)then aq ((false,()),())else T else T else aM ((C.1,()),())
def avl:KY 52 (aN f218):=⟨0,lB 0 adM [(1,fJ),(2,⟨[(1,.lf (.aC .cQ 0))],[],[]⟩)] JK,lq [avj,avk] [ahv,ahv]⟩
def P8(D:Int)(C:aa bk):ah (Bool):=br JK ((D,C,C,(C.length:Int),0,()),()) (λE=>some E.1.1) λL=>some ((L.1.1.length:Int) <= 12)
def avm:=bJ [(false,.int),(false,(.sl .cQ))] bH (aY P8) 52 [] [avl] func218
def Ez(C:aP)(D:eg):ah (aP):=(JE C D).bind λE=>bif (!E)then some (⟨0,0,0,0⟩:aP)else some (⟨C.cg,C.ay,(W6 (C.rows-D.bT)),C.aO⟩:aP)
def Xy:=aJ NU [(true,.en,0)] (aY Ez) 17 [ahl] func219
def BS(C:dL):ah (Bool):=(bX C.state 0 2).bind λD=>bif D then (bX C.since 0 1000000).bind λE=>bif E then (bX C.idle 0 1000000).bind λL=>some L else some false else some false
def P9:=aJ [(true,.Power)] bH (bu BS) 16 [dD] func222
abbrev ahx:=(((aa bK)×af×(aa bK)×Int×Int×(aa bK)×Int×Int×af)×((Int×Int×Int×af)×af))
def EA(x:ahx):ah (ahx⊕(((Bool×af)×(af))⊕((((aa bK)×(aa bK)×Int×Int×af)×(af))⊕Empty))):=letI D:=x.1.2.2;letI C:=D.2.2;letI E:=xG ((x.1.1,(),D.1,D.2.1,C.1,C.2.1,C.2.2.1,(W6 (C.2.2.2.1+1)),()),(x.2.1,()));bif C.2.2.2.1<C.2.2.1 then xI C.2.1 C.2.2.2.1 λL=>bif (x.2.1.1==L.line)then bif (x.2.1.2.1==L.code)then aq ((false,()),())else E else E else aM ((x.1.1,D.1,D.2.1,C.1,()),())
def ahy:KY 59 (pK (aN f223) 0):=⟨2,lB 2 ⟨[(0,.lf (.aC .dG 0)),(4,.aG 4 0),(7,.lf (.aC .dG 0)),(8,tI),(9,tI),(36,.lf (.aC .dG 0)),(37,tI),(38,tI)],[(4,.az NS)],[]⟩ [(1,mH),(4,adQ)] EA,lp []⟩
abbrev ahz:=(((aa bK)×(aa bK)×Int×Int×af)×(af))
def JL(x:ahz):ah (ahz⊕(((Bool×af)×(af))⊕((((aa bK)×af)×(af))⊕Empty))):=letI L:=aq ((false,()),());letI D:=x.1.2.2.2.1;letI O:=(x.1.1.take D.toNat).drop (0:Int).toNat;bif D<x.1.2.2.1 then xI x.1.2.1 D λC=>letI T:=(bX C.times 1 999).bind λU=>bif (!U)then L else if 0 <= (0:Int)/\0 <= D/\D <= (x.1.1.length:Int)then br EA ((x.1.1,(),x.1.2.1,x.1.2.2.1,D,O,(O.length:Int),0,()),((C.line,C.code,C.times,()),())) (λY=>aq ((Y.1.1,()),())) λE=>xG ((E.1.1,E.1.2.1,E.1.2.2.1,(W6 (E.1.2.2.2.1+1)),()),())else none;(bX C.line 0 1023).bind λZ=>bif (!Z)then L else bif (C.code != 1)then bif (C.code != 2)then L else T else T else aM ((x.1.1,()),())
def avn:KY 59 (aN f223):=⟨0,lB 0 adQ [(1,mH),(2,⟨[(0,.lf (.aC .dG 0))],[],[]⟩)] JL,lq [dD] [ahy,ahy]⟩
def JM(C:aa bK):ah (Bool):=br JL ((C,C,(C.length:Int),0,()),()) (λD=>some D.1.1) λE=>some ((E.1.1.length:Int) <= 6)
def ahA:=bJ NW bH (bu JM) 59 [] [avn] func223
def EB(C:av):ah (Bool):=(uA C.config C.box.bz).bind λD=>bif (!D)then some false else (uA C.config C.box.next).bind λE=>bif (!E)then some false else (bX C.now 0 1000000).bind λL=>bif (!L)then some false else (Jw C.config.aB C.aX).bind λO=>bif (!O)then some false else (Et C.config.aB C.ready).bind λT=>bif (!T)then some false else (Eu C.config.aB C.array).bind λU=>bif (!U)then some false else (JE C.config.aB C.spare).bind λY=>bif (!Y)then some false else bif (C.spare.bT != C.config.bT)then some false else (P5 C).bind λZ=>bif (!Z)then some false else (Ez C.config.aB C.spare).bind λy9=>(uz y9).bind λfW=>(P8 fW C.queue).bind λdQ=>bif (!dQ)then some false else (Ep C.shares).bind λfK=>bif (!fK)then some false else bif ((C.shares.length:Int) != 4)then some false else (BM C.drain).bind λfX=>bif (!fX)then some false else (BS C.aS).bind λiB=>bif (!iB)then some false else bif (C.aS.state != C.aX.aS)then some false else bif C.aS.since > C.now then some false else (bX C.cu.every 1 100000).bind λgD=>bif gD then (bX C.cu.wait 1 C.cu.every).bind λjq=>bif jq then (uz C.config.aB).bind λfT=>(bX C.cu.next 0 (W6 (fT-1))).bind λiV=>bif iV then (JM C.errors).bind λsu=>bif su then bif (C.trace.length:Int) <= 2000 then some ((C.cA.length:Int) <= 400)else some false else some false else some false else some false else some false
def Xz:=aJ pN bH (bu EB) 155 [PW,dD,au0,ag9,Xs,ahg,ahl,avi,avm,Xy,Xr,PY,P9,ahA] func71
def avo:bE:=⟨[(1,tI),(2,.aG 2 0),(4,.aG 4 0),(5,.aG 5 0),(28,tI),(29,tI)],adE,[]⟩
def avp:aa (Nat×bE):=[(2,⟨[(1,tI),(2,.aG 2 0),(4,.aG 4 0),(5,.aG 5 0)],adE,[]⟩)]
abbrev ahB:=((Int×af×af×af×Int×Int×af)×(((aa Int)×Int×Bool×af)×(af×Int×Bool×af)×(af×Int×Bool×af)×(aa Int)×(aa Int)×af))
def JN(x:ahB):ah (ahB⊕(((Int×af×af×af×af)×(((aa Int)×Int×Bool×af)×(af×Int×Bool×af)×(af×Int×Bool×af)×(aa Int)×(aa Int)×af))⊕Empty)):=letI L:=((),x.2.2.1.2.1,x.2.2.1.2.2.1,());letI D:=x.2.2.2;letI E:=D.2.2.1;letI O:=((),D.1.2.1,D.1.2.2.1,());letI C:=x.1.2.2.2.2;bif C.2.1<C.1 then xL E C.2.1 λU=>letI T:=W6 (U+1);xL E C.2.1 λY=>xG ((x.1.1,(),(),(),C.1,(W6 (C.2.1+1)),()),(x.2.1,L,O,D.2.1,(E.set C.2.1.toNat (if 5<T then 5 else T)),()))else aq ((x.1.1,(),(),(),()),(x.2.1,L,O,D.2.1,E,()))
def avq:KY 52 (aN f72):=⟨0,lB 0 avo avp JN,lp []⟩
def JO(D:cK)(T:Int):ah (cK):=(BJ D).bind λC=>letI O:=W6 (C.wait-1);(za D).bind λU=>bif (!U)then some C else (bX T 2 10000).bind λY=>bif (!Y)then some C else bif O > 0 then some (⟨C.aE,O,C.dj⟩:cK)else aW JN ((T,(),(),(),(C.aE.length:Int),0,()),((D.aE,D.wait,D.dj,()),((),0,false,()),((),O,C.dj,()),([]:aa Int),C.aE,())) λE=>letI L:=E.2.2.2;bif E.2.1.2.2.1 then some (⟨L.2.2.1,(W6 (E.1.1.tdiv 2)),L.1.2.2.1⟩:cK)else some (⟨L.2.2.1,E.1.1,L.1.2.2.1⟩:cK)
def avr:=bJ Hr [(true,.jx,2)] (aY JO) 52 [dD,Xj,JG] [avq] func72
def avs:bE:=⟨[(2,tI),(6,.aG 6 0),(7,.aG 7 0),(23,tI),(24,tI)],adx,[]⟩
def avt:aa (Nat×bE):=[(2,⟨[(6,.aG 6 0),(7,.aG 7 0)],adx,[]⟩)]
abbrev ahC:=((Int×af×af×Int×Int×af)×((af×af×af×af)×(af×af×af×af)×(aa bC)×(aa Int)×(aa Int)×(aa bC)×(aa Int)×(aa Int)×af))
def JP(x:ahC):ah (ahC⊕(((af×af×af)×((af×af×af×af)×(af×af×af×af)×(aa bC)×(aa Int)×(aa Int)×(aa bC)×(aa Int)×(aa Int)×af))⊕Empty)):=letI D:=x.2.2.2;letI O:=((),(),(),());letI E:=x.1.2.2.2.2.1;letI L:=D.2.2;letI C:=L.2.2;bif E<x.1.2.2.2.1 then xL C.1 E λU=>letI T:=W6 (U+x.1.1);xL C.1 E λY=>xG ((x.1.1,(),(),x.1.2.2.2.1,(W6 (E+1)),()),(O,O,D.1,D.2.1,L.1,L.2.1,(C.1.set E.toNat (if 100000<T then 100000 else T)),C.2.1,()))else aq (((),(),()),(O,O,D.1,D.2.1,L.1,L.2.1,C.1,C.2.1,()))
def avu:KY 41 (aN f73):=⟨0,lB 0 avs avt JP,lp []⟩
def EC(O:aP)(E:cF)(L:Int):ah (cF):=(Ei E).bind λC=>(Eu O E).bind λT=>bif (!T)then some C else (bX L 0 100000).bind λU=>bif (!U)then some C else aW JP ((L,(),(),(C.bh.length:Int),0,()),(((),(),(),()),((),(),(),()),([]:aa bC),([]:aa Int),([]:aa Int),C.cells,C.bh,C.aZ,())) λY=>letI D:=Y.2.2.2.2.2.2;some (⟨D.1,D.2.1,D.2.2.1⟩:cF)
def avv:=bJ [(true,.en),(true,.Array),(false,.int)] [(true,.Array,4)] (eZ EC) 41 [dD,agG,ahg] [avu] func73
def ED(C:fI)(D:Int):ah (fI):=(BM C).bind λE=>bif (!E)then some C else bif D >= C.high then some (⟨true,C.low,C.high⟩:fI)else bif D <= C.low then some (⟨false,C.low,C.high⟩:fI)else some C
def avw:=aJ [(true,.jy),(false,.int)] [(true,.jy,0)] (aY ED) 22 [PY] func74
abbrev ahD:=((Bool×Int×(aa bk)×Int×Int×af)×(af))
def JQ(x:ahD):ah (ahD⊕(((Int×af)×(af))⊕Empty)):=letI C:=x.1.2.2;letI D:=C.2.2.1;bif D<C.2.1 then xI C.1 D λE=>bif (E.write==x.1.1)then xG ((x.1.1,(W6 (x.1.2.1+1)),C.1,C.2.1,(W6 (D+1)),()),())else xG ((x.1.1,x.1.2.1,C.1,C.2.1,(W6 (D+1)),()),())else aq ((x.1.2.1,()),())
def avx:KY 22 (aN f75):=⟨0,lB 0 ⟨[(1,tB),(5,tI),(8,.lf (.aC .cQ 0)),(9,tI),(10,tI)],[],[]⟩ [(2,uk)] JQ,lp []⟩
def EE(C:aa bk)(D:Bool):ah (Int):=aW JQ ((D,0,C,(C.length:Int),0,()),()) λE=>some E.1.1
def avy:=bJ [(false,(.sl .cQ)),(false,.bool)] bS (aY EE) 22 [] [avx] func75
def EF(C:dL)(E:Bool):ah (dL):=letI D:=W6 (C.idle+1);(BS C).bind λL=>bif (!L)then some C else bif E then some (⟨C.state,C.since,0⟩:dL)else some (⟨C.state,C.since,(if 1000000<D then 1000000 else D)⟩:dL)
def avz:=aJ [(true,.Power),(false,.bool)] [(true,.Power,0)] (aY EF) 18 [P9] func76
abbrev ahE:=((af×(aa Int)×Int×Int×af)×((aa Int)×af))
def JR(x:ahE):ah (ahE⊕(((af×af)×((aa Int)×af))⊕Empty)):=letI C:=x.1.2.2.2.1;letI D:=((),x.1.2.1,x.1.2.2.1,(W6 (C+1)),());bif C<x.1.2.2.1 then xI x.1.2.1 C λE=>bif E >= 4 then bif bD (x.2.1.length+([C]:aa Int).length)then xG (D,((x.2.1++([C]:aa Int)),()))else none else xG (D,(x.2.1,()))else aq (((),()),(x.2.1,()))
def avA:KY 26 (aN f225):=⟨0,lB 0 ⟨[(3,.lf (.own 9)),(11,.lf (.aC .int 0)),(12,tI),(13,tI)],[(9,.sl .int 2)],[]⟩ [(2,⟨[(3,.lf (.own 9))],[(9,.sl .int 2)],[]⟩)] JR,lp []⟩
def EG(C:cK):ah ((aa Int)):=(za C).bind λD=>bif (!D)then some ([])else aW JR (((),C.aE,(C.aE.length:Int),0,()),(([]:aa Int),())) λE=>some E.2.1
def XA:=bJ Be jW (bu EG) 26 [JG] [avA] func225
def zc(C:av):ah (Bool):=bif (C.queue.length:Int) > 0 then some true else bif (C.pending.length:Int) > 0 then some true else (EG C.aL).bind λD=>some ((D.length:Int) > 0)
def ahF:=aJ pN bH (bu zc) 20 [XA] func77
def JS(C:fP)(E:Bool):ah (fP×Bool):=(Jl C).bind λD=>bif (!E)then some (D,false)else bif (!C.waits)then some (D,false)else (Ef C.next).bind λL=>some ((⟨L,D.next,false⟩:fP),true)
def avB:=aJ [(true,.iK),(false,.bool)] [(true,.iK,2),(false,.bool,0)] (aY JS) 23 [agC,agB] func78
def wH(C:jJ)(D:Int):ah (jJ×Int):=letI E:=some (C,(-1));(bX C.every 1 100000).bind λL=>bif (!L)then E else (bX C.wait 1 C.every).bind λO=>bif (!O)then E else bif D<1 then E else (bX C.next 0 (W6 (D-1))).bind λT=>bif (!T)then E else bif (W6 (C.wait-1)) > 0 then some ((⟨C.next,C.every,(W6 (C.wait-1))⟩:jJ),(-1))else if D=0 then none else some ((⟨((W6 (C.next+1)).tmod D),C.every,C.every⟩:jJ),C.next)
def avC:=aJ [(true,.mc),(false,.int)] [(true,.mc,0),(false,.int,0)] (aY wH) 52 [dD] func80
abbrev ahG:=((Int×Int×Int×Int×af)×(af))
def ahH(x:ahG):ah (ahG⊕(((Int×af)×(af))⊕Empty)):=letI E:=x.1.2.1;letI C:=x.1.2.2;letI O:=bits .xor .i64 C.1 x.1.1;letI L:=W6 (C.2.1+1);letI D:=W6 (x.1.1*2 ^ (min (1:Int).toNat IntKind.i64.bits));bif C.2.1<4 then if C.2.1<0 then none else bif ((bits .and .i64 (E.fdiv (2 ^ (min C.2.1.toNat IntKind.i64.bits))) 1)==1)then bif D > 15 then xG (((bits .xor .i64 D 19),E,O,L,()),())else xG ((D,E,O,L,()),())else bif D > 15 then xG (((bits .xor .i64 D 19),E,C.1,L,()),())else xG ((D,E,C.1,L,()),())else aq ((C.1,()),())
def avD:KY 34 (aN f338):=⟨0,lB 0 Wo [(2,uk)] ahH,lp []⟩
def ig(C D:Int):ah (Int):=(BO C).bind λE=>bif (!E)then some (-1)else (BO D).bind λL=>bif (!L)then some (-1)else aW ahH ((C,D,0,0,()),()) λO=>some O.1.1
def JT:=bJ DI bS (aY ig) 34 [Xt] [avD] func338
abbrev ahI:=((Int×Int×Int×af)×(af))
def ahJ(x:ahI):ah (ahI⊕(((Int×af)×(af))⊕Empty)):=bif x.1.2.1 > 0 then (ig x.1.2.2.1 x.1.1).bind λC=>xG ((x.1.1,(W6 (x.1.2.1-1)),C,()),())else aq ((x.1.2.2.1,()),())
def avE:KY 22 (aN f416):=⟨0,lB 0 ⟨[(0,tI),(1,tI),(5,tI)],[],[]⟩ [(2,uk)] ahJ,lp [JT]⟩
def JU(C D:Int):ah (Int):=(BO C).bind λE=>bif (!E)then some (-1)else (bX D 0 1000).bind λL=>bif (!L)then some (-1)else aW ahJ ((C,D,1,()),()) λO=>some O.1.1
def ahK:=bJ DI bS (aY JU) 22 [dD,Xt] [avE] func416
abbrev ahL:=(((aa Int)×af×Int×Int×Int×(aa Int)×Int×Int×af)×((aa Int)×af))
def BU(x:ahL):ah (ahL⊕((((aa Int)×af×Int×Int×af)×((aa Int)×af))⊕Empty)):=letI C:=x.1.2.2;letI D:=C.2.2;letI E:=D.2.2.2.1;bif E<D.2.2.1 then xI D.2.1 E λL=>xL x.2.1 C.1 λO=>(JU 2 (W6 (E*C.1))).bind λT=>(ig L T).bind λU=>xL x.2.1 C.1 λY=>xG ((x.1.1,(),C.1,C.2.1,D.1,D.2.1,D.2.2.1,(W6 (E+1)),()),((x.2.1.set C.1.toNat (bits .xor .i64 O U)),()))else aq ((x.1.1,(),C.2.1,D.1,()),(x.2.1,()))
def avF:KY 38 (pK (aN f336) 0):=⟨2,lB 2 ⟨[(0,.lf (.aC .int 0)),(3,.lf (.own 10)),(4,tI),(12,tI),(13,tI),(16,.lf (.aC .int 0)),(17,tI),(18,tI)],[(10,.sl .int 2)],[]⟩ [(4,adK)] BU,lp [JT,ahK]⟩
abbrev ahM:=(((aa Int)×af×Int×Int×af)×((aa Int)×af))
def EH(x:ahM):ah (ahM⊕(((af×af)×((aa Int)×af))⊕Empty)):=letI C:=x.1.2.2;bif C.2.1<C.1 then aW BU ((x.1.1,(),C.2.1,C.1,C.2.1,x.1.1,(x.1.1.length:Int),0,()),(x.2.1,())) λD=>xG ((D.1.1,(),D.1.2.2.1,(W6 (D.1.2.2.2.1+1)),()),(D.2.1,()))else aq (((),()),(x.2.1,()))
def avG:KY 38 (aN f336):=⟨0,lB 0 adK [(2,⟨[(3,.lf (.own 10))],[(10,.sl .int 2)],[]⟩)] EH,lq [] [avF]⟩
def zd(D:aa Int):ah ((aa Int)):=letI C:=(3:Int);(uB D 11).bind λE=>bif (!E)then some ([])else if 0 <= C/\C <= 3/\C<1073741824 then aW EH ((D,(),((List.replicate C.toNat (0:Int)).length:Int),0,()),((List.replicate C.toNat (0:Int)),())) λL=>some L.2.1 else none
def XB:=bJ lK jW (bu zd) 38 [Jz] [avG] func336
def Qa(D:aa Int):ah (Bool):=(zd D).bind λC=>bif ir C then none else xL C (0:Int) λE=>bif (E==0)then xL C (1:Int) λL=>bif (L==0)then xL C (2:Int) λO=>some (O==0)else some false else some false
def avH:=aJ lK bH (bu Qa) 26 [XB] func337
abbrev ahN:=((Int×Int×af)×(af))
def ahO(x:ahN):ah (ahN⊕(((Int×af)×(af))⊕(((af)×(af))⊕Empty))):=bif x.1.2.1 <= 15 then (ig x.1.1 x.1.2.1).bind λC=>bif (C==1)then aq ((x.1.2.1,()),())else xG ((x.1.1,(W6 (x.1.2.1+1)),()),())else aM ((),())
def avI:KY 13 (aN f339):=⟨0,lB 0 ael [(1,⟨[(2,tI)],[],[]⟩),(2,eC)] ahO,lp [JT]⟩
def BV(C:Int):ah (Int):=br ahO ((C,1,()),()) (λD=>some D.1.1) λE=>some (-1)
def ahP:=bJ jX bS (bu BV) 13 [] [avI] func339
abbrev ahQ:=((Int×Int×af)×(af))
def ahR(x:ahQ):ah (ahQ⊕(((Int×af)×(af))⊕(((af)×(af))⊕Empty))):=bif x.1.2.1<15 then (JU 2 x.1.2.1).bind λC=>bif (C==x.1.1)then aq ((x.1.2.1,()),())else xG ((x.1.1,(W6 (x.1.2.1+1)),()),())else aM ((),())
def avJ:KY 13 (aN f340):=⟨0,lB 0 ael [(1,⟨[(2,tI)],[],[]⟩),(2,eC)] ahR,lp [ahK]⟩
def Qb(C:Int):ah (Int):=br ahR ((C,0,()),()) (λD=>some D.1.1) λE=>some (-1)
def avK:=bJ jX bS (bu Qb) 13 [] [avJ] func340
def JV(L:aa Int):ah ((aa Int)×Int×Int):=letI C:=xA L;letI O:=some (C,2,(-1));(zd L).bind λE=>bif ir E then none else bif xZ L then (Qa L).bind λU=>bif U then some (C,0,(-1))else xL E (0:Int) λY=>bif (Y != 0)then xL E (1:Int) λZ=>bif (Z != 0)then xL E (1:Int) λuw=>xL E (0:Int) λnN=>(BV nN).bind λgD=>(ig uw gD).bind λT=>(Qb T).bind λD=>bif D<11 then xL E (1:Int) λBt=>xL E (2:Int) λIV=>(ig Bt T).bind λoE=>bif (oE==IV)then xC C D (if h26:D.toNat<C.length then (let uq:=C[D.toNat]'h26;xL E (0:Int) λur=>xC C D (if h32:D.toNat<C.length then (let e33:=C[D.toNat]'h32;some ((C.set D.toNat (bits .xor .i64 uq ur)),1,D))else none))else none)else O else O else O else O else none
def ahS:=aJ lK [(false,(.sl .int),2),(false,.int,0),(false,.int,0)] (bu JV) 64 [XB,avH,JT,ahP,avK] func228
abbrev ahT:=((Int×(aa Int)×Int×Int×af)×(af))
def JW(x:ahT):ah (ahT⊕(((Int×af)×(af))⊕Empty)):=letI C:=x.1.2.2.2.1;bif C<x.1.2.2.1 then xI x.1.2.1 C λD=>if (W6 (4*C))<0 then none else xG (((bits .or .i64 x.1.1 (W6 (D*2 ^ (min (W6 (4*C)).toNat IntKind.i64.bits)))),x.1.2.1,x.1.2.2.1,(W6 (C+1)),()),())else aq ((x.1.1,()),())
def avL:KY 25 (aN f341):=⟨0,lB 0 ⟨[(4,tI),(10,.lf (.aC .int 0)),(11,tI),(12,tI)],[],[]⟩ [(2,jo)] JW,lp []⟩
def Qc(C:aa Int):ah (Int×Bool):=(uB C 8).bind λD=>bif (!D)then some (0,false)else aW JW ((0,C,(C.length:Int),0,()),()) λE=>some (E.1.1,true)
def avM:=bJ lK [(false,.int,0),(false,.bool,0)] (bu Qc) 25 [Jz] [avL] func341
def Qd(D:aa Int):ah ((aa Int)):=letI C:=(D.length:Int);letI E:=(D.take C.toNat).drop (3:Int).toNat;(uB D 11).bind λL=>bif (!L)then some ([])else if 0 <= (3:Int)/\3 <= C/\C <= C then bif xZ E then some (xA E)else none else none
def avN:=aJ lK jW (bu Qd) 10 [Jz] func342
def Qe(D:aa Int):ah (Int×Int×Int):=(JV D).bind λC=>bif (C.2.1==2)then some (0,C.2.1,C.2.2)else (Qd C.1).bind λE=>(Qc E).bind λL=>some (L.1,C.2.1,C.2.2)
def avO:=aJ lK [(false,.int,0),(false,.int,0),(false,.int,0)] (bu Qe) 29 [ahS,avM,avN] func229
def JX(C:aa bK):ah ((aa bK)):=bif xZ C then some (xA C)else none
def avP:=aJ NW [(false,(.sl .dG),2)] (bu JX) 6 [] func343
abbrev ahU:=((Int×Int×af×af×Int×Int×af)×((aa bK)×af))
def JY(x:ahU):ah (ahU⊕(((af×Bool×af)×((aa bK)×af))⊕(((Int×Int×af×af)×((aa bK)×af))⊕Empty))):=letI C:=x.1.2.2.2.2;letI E:=xG ((x.1.1,x.1.2.1,(),(),C.1,(W6 (C.2.1+1)),()),(x.2.1,()));bif C.2.1<C.1 then xL x.2.1 C.2.1 λD=>letI L:=W6 (D.times+1);bif (D.line==x.1.1)then bif (D.code==x.1.2.1)then xL x.2.1 C.2.1 λO=>aq (((),true,()),((x.2.1.set C.2.1.toNat (⟨O.line,O.code,(if 999<L then 999 else L)⟩:bK)),()))else E else E else aM ((x.1.1,x.1.2.1,(),()),(x.2.1,()))
def avQ:KY 69 (aN f230):=⟨0,lB 0 adD [(1,ad3),(2,adX)] JY,lp []⟩
abbrev ahV:=((Int×Int×af×af×Int×Int×af)×((aa bK)×af))
def XC(x:ahV):ah (ahV⊕(((af×Bool×af)×((aa bK)×af))⊕(((Int×Int×af×af)×((aa bK)×af))⊕Empty))):=letI C:=x.1.2.2.2.2;letI E:=xG ((x.1.1,x.1.2.1,(),(),C.1,(W6 (C.2.1+1)),()),(x.2.1,()));bif C.2.1<C.1 then xL x.2.1 C.2.1 λD=>letI L:=W6 (D.times+1);bif (D.line==x.1.1)then bif (D.code==x.1.2.1)then xL x.2.1 C.2.1 λO=>aq (((),true,()),((x.2.1.set C.2.1.toNat (⟨O.line,O.code,(if 999<L then 999 else L)⟩:bK)),()))else E else E else aM ((x.1.1,x.1.2.1,(),()),(x.2.1,()))
def avR:KY 69 (aN f230):=⟨0,lB 0 adD [(1,ad3),(2,adX)] XC,lp []⟩
def Qf(x0:aa bK)(x1 U:Int):ah ((aa bK)×Bool):=(JX x0).bind λY=>letI Z:=some (Y,false);letI u4:=((x1,U,(),(),(Y.length:Int),0,()),(Y,()));(JM x0).bind λy2=>bif (!y2)then Z else (bX x1 0 1023).bind λy3=>bif (!y3)then Z else bif (U != 1)then bif (U != 2)then Z else br JY u4 (λgW=>some (gW.2.1,gW.1.2.1)) λC=>letI E:=(C.2.1.length:Int);letI O:=([(⟨C.1.1,C.1.2.1,1⟩:bK)]:aa bK);bif (E==6)then if 0 <= (1:Int)/\1 <= E/\E <= E then (JX ((C.2.1.take (E.toNat)).drop ((1:Int).toNat))).bind λfK=>bif bD (fK.length+O.length)then some ((fK++O),true)else none else none else bif bD (C.2.1.length+O.length)then some ((C.2.1++O),true)else none else br XC u4 (λQg=>some (Qg.2.1,Qg.1.2.1)) λD=>letI L:=(D.2.1.length:Int);letI T:=([(⟨D.1.1,D.1.2.1,1⟩:bK)]:aa bK);bif (L==6)then if 0 <= (1:Int)/\1 <= L/\L <= L then (JX ((D.2.1.take (L.toNat)).drop ((1:Int).toNat))).bind λiW=>bif bD (iW.length+T.length)then some ((iW++T),true)else none else none else bif bD (D.2.1.length+T.length)then some ((D.2.1++T),true)else none
def avS:=bJ Wu [(false,(.sl .dG),2),(false,.bool,0)] (eZ Qf) 69 [dD,ahA,avP] [avQ,avR] func230
def wI(C:av)(E D:Int):ah ((af)×(av×af)):=bif (D != 0)then (Qf C.errors E D).bind λL=>some ((),({C with errors:=L.1},()))else some ((),(C,()))
def ahW:=wm aej [] (eZ wI) 21 [avS] func83
def BW(C:Int)(D:Bool)(E:Int):ah (Bool):=bif (!D)then some (C==0)else (bX C 0 (W6 (E-1))).bind λL=>some L
def avT:=aJ [(false,.int),(false,.bool),(false,.int)] bH (eZ BW) 15 [dD] func465
def Qh(C:Int):ah (Bool):=some (C==1)
def avU:=aJ jX bH (bu Qh) 5 [] func466
def Qi(C:Int):ah (Bool):=bif (C==2)then some true else some (C==3)
def avV:=aJ jX bH (bu Qi) 9 [] func467
def XD(C:aD)(D E L:Int):ah (Bool):=(bX C.kind 1 9).bind λO=>bif O then (wG C.kind).bind λT=>(BW C.au T D).bind λU=>bif U then (Qh C.kind).bind λY=>(BW C.row Y E).bind λZ=>bif Z then (Qi C.kind).bind λy6=>(BW C.bG y6 L).bind λy7=>some y7 else some false else some false else some false
def avW:=aJ [(true,.Command),(false,.int),(false,.int),(false,.int)] bH (qM XD) 39 [dD,P1,avT,avU,avV] func456
def EI(C:aP)(D:aD):ah (Bool):=(qO C).bind λE=>bif E then (mI C).bind λL=>(XD D L C.rows C.aO).bind λO=>some O else some false
def XE:=aJ WB bH (aY EI) 17 [pQ,wE,avW] func426
def JZ(T:aP)(D:bV)(C:aD):ah (Bool):=letI E:=D.aS==0;letI U:=bif E then xI D.ay C.au λZ=>some (!Z.open_)else some false;letI L:=bif E then xI D.ay C.au λe6=>some e6.open_ else some false;letI O:=bif (C.kind==6)then some E else bif (C.kind==8)then bif E then (yY D).bind λy7=>some ((y7.length:Int)==0)else some false else bif (C.kind==7)then some (D.aS==1)else some (D.aS==2);letI Y:=bif (C.kind==2)then bif (C.kind==2)then L else O else bif (C.kind==3)then bif (C.kind==3)then L else O else bif (C.kind==4)then L else O;(Jw T D).bind λy1=>bif (!y1)then some false else (EI T C).bind λy2=>bif (!y2)then some false else bif (C.kind==1)then bif (C.kind==1)then U else Y else bif (C.kind==5)then U else Y
def ahX:=aJ [(true,.en),(true,.gG),(true,.Command)] bH (eZ JZ) 75 [ag9,P0,XE] func351
def Qj(C:cI)(D E:Int):ah (Int):=(let T:Bool -> ah (Int):=λL=>(let O:Bool -> ah (Int):=λj2=>bif j2 then some C.iG else (let U:Bool -> ah (Int):=λj3=>bif j3 then some C.fO else (let Y:Bool -> ah (Int):=λj4=>bif j4 then some (W6 (C.fO+C.rp))else (let Z:Bool -> ah (Int):=λj5=>bif j5 then some C.hD else (let k15:Bool -> ah (Int):=λj6=>bif j6 then some (W6 (C.hD+C.rp))else (let k14:Bool -> ah (Int):=λj7=>bif j7 then some C.wr else (let J0:Bool -> ah (Int):=λj8=>bif j8 then some (W6 (C.wr+C.rp))else (let k12:Bool -> ah (Int):=λj9=>bif j9 then some C.rp else (let I4:Bool -> ah (Int):=λBv=>bif Bv then some C.kX else some 0;bif (D==5)then (I4 L)else (I4 false));bif (D==4)then (k12 L)else (k12 false));bif (D==3)then (J0 L)else (J0 false));bif (D==3)then (k14 (E==4))else (k14 false));bif (D==2)then (k15 L)else (k15 false));bif (D==2)then (Z (E==4))else (Z false));bif (D==1)then (Y L)else (Y false));bif (D==1)then (U (E==4))else (U false));bif (D==1)then bif (E==2)then (O true)else (O (E==3))else (O false));bif (E==1)then (T true)else (T (E==5)))
def ahY:=aJ [(true,.iJ),(false,.int),(false,.int)] bS (eZ Qj) 103 [] func459
def avX:enters Tryz.prog 468/\jk Tryz.prog 468 (ci Tryz.prog f468 1 []):=pM 1 [] func468 trivial
def Ql(C:cI)(D E:Int)(L:Bool):ah (Int):=bif (D==7)then some C.xp else bif (D==9)then some C.xs else (let U:Bool -> ah (Int):=λj1=>bif j1 then (let Y:Int -> ah (Int):=λj2=>some j2;bif L then (Y C.iH)else (Y C.kS))else (let O:Bool -> ah (Int):=λj4=>bif j4 then (let Z:Int -> ah (Int):=λj5=>some j5;bif L then (Z C.kU)else (Z C.kT))else (let sx:Bool -> ah (Int):=λj7=>bif j7 then (let k9:Int -> ah (Int):=λj8=>some j8;bif L then (k9 C.kW)else (k9 C.kV))else (let yL:Bool -> ah (Int):=λBv=>bif Bv then some C.n6 else (let sy:Bool -> ah (Int):=λW0=>bif W0 then some C.iH else (let yM:Bool -> ah (Int):=λIG=>bif IG then some C.hD else (let IT:Bool -> ah (Int):=λBw=>bif Bw then some C.wr else bif (E==8)then (Qj C D 1).bind λiB=>some iB else (let T:Bool -> ah (Int):=λD3=>bif D3 then some C.lY else some 0;letI u0:=bif (D==8)then (T (E==9))else (T false);bif (D==6)then bif (E==7)then (T true)else u0 else u0);bif (D==3)then (IT (E==6))else (IT false));bif (D==2)then (yM (E==6))else (yM false));bif (D==5)then (sy (E==5))else (sy false));bif (D==2)then (yL (E==3))else (yL false));bif (D==3)then (sx (E==2))else (sx false));letI u1:=bif (D==3)then (O (E==3))else (O false);bif (D==2)then bif (E==2)then (O true)else u1 else u1);bif (D==1)then (U (E==1))else (U false))
def avY:=aJ aea bS (qM Ql) 126 [ahY,⟨468,.i _,avX⟩] func457
def J1(C:aP)(D:Int):ah (Int):=(mI C).bind λE=>(bX D 0 (W6 (E-1))).bind λL=>bif (!L)then some (-1)else if C.ay=0 then none else some (W6 (D.tdiv C.ay))
def avZ:=aJ Hs bS (aY J1) 15 [dD,pQ] func458
def J2(U:aP)(O:cI)(C D:aD):ah (Int):=letI Y:=Qj O C.kind D.kind;letI Z:=Ql O C.kind D.kind false;(wG C.kind).bind λy1=>bif y1 then (wG D.kind).bind λT=>bif T then (J1 U C.au).bind λy3=>(J1 U D.au).bind λy4=>(Ql O C.kind D.kind (y3==y4)).bind λE=>letI u1:=some (if E > 1 then E else 1);bif T then bif (C.au==D.au)then Y.bind λy6=>some (if y6 > (if E > 1 then E else 1)then y6 else (if E > 1 then E else 1))else u1 else u1 else Z.bind λL=>letI u2:=some (if L > 1 then L else 1);bif T then bif (C.au==D.au)then Y.bind λy8=>some (if y8 > (if L > 1 then L else 1)then y8 else (if L > 1 then L else 1))else u2 else u2 else Z.bind λy9=>some (if y9 > 1 then y9 else 1)
def av0:=aJ aeb bS (qM J2) 55 [P1,avY,avZ,ahY] func427
def av1:bE:=⟨[(4,.aG 4 0),(5,.aG 5 0),(6,.aG 6 0),(7,.aG 7 0),(9,tI),(30,.lf (.aC .int 0)),(31,tI),(32,tI)],ad7,[]⟩
def av2:aa (Nat×bE):=[(2,adJ)]
abbrev ahZ:=((af×af×af×af×Int×(aa Int)×Int×Int×af)×((Int×Int×Int×Int×af)×cI×((aa Int)×(aa Int)×af)×(Int×Int×Int×Int×af)×af))
def J3(x:ahZ):ah (ahZ⊕(((af×af×af×Int×af)×(cI×((aa Int)×(aa Int)×af)×(Int×Int×Int×Int×af)×af))⊕Empty)):=letI L:=(⟨x.2.1.1,x.2.1.2.1,x.2.1.2.2.1,x.2.1.2.2.2.1⟩:aP);letI D:=x.2.2.2.2.1;letI O:=(x.2.1,x.2.2.1,x.2.2.2.1,D,());letI C:=x.1.2.2.2.2;letI E:=C.2.2.2.1;bif E<C.2.2.1 then xI C.2.1 E λT=>bif T<0 then xG (((),(),(),(),C.1,C.2.1,C.2.2.1,(W6 (E+1)),()),O)else (BN L E).bind λY=>(J2 L x.2.2.1 Y.1 (⟨D.1,D.2.1,D.2.2.1,D.2.2.2.1⟩:aD)).bind λZ=>letI U:=W6 (T+Z);xG (((),(),(),(),(if U > C.1 then U else C.1),C.2.1,C.2.2.1,(W6 (E+1)),()),O)else aq (((),(),(),C.1,()),(x.2.2.1,x.2.2.2.1,D,()))
def av3:KY 76 (aN f352):=⟨0,lB 0 av1 av2 J3,lp [aha,av0]⟩
def Qm(C:aP)(Y:cI)(D:cP)(E:aD):ah (Int):=(Eo Y).bind λy1=>bif (!y1)then some (-1)else (Et C D).bind λy2=>bif (!y2)then some (-1)else (EI C E).bind λy3=>bif (!y3)then some (-1)else aW J3 (((),(),(),(),0,D.last,(D.last.length:Int),0,()),((C.cg,C.ay,C.rows,C.aO,()),Y,(D.last,D.bg,()),(E.kind,E.au,E.row,E.bG,()),())) λL=>letI U:=L.1.2.2.2.1;letI O:=U;letI Z:=bif O > 1000000 then some (-1)else some O;bif (L.2.2.2.1.1==1)then bif ((L.2.2.1.2.1.length:Int)==4)then xI L.2.2.1.2.1 (0:Int) λiU=>letI T:=W6 (iU+L.2.1.iI);bif (if T > U then T else O) > 1000000 then some (-1)else some (if T > U then T else O)else Z else Z
def av4:=bJ aec bS (qM Qm) 76 [Xs,Xq,XE] [av3] func352
end Go.Proofs.YtnilicojgkhpnaaGreat
