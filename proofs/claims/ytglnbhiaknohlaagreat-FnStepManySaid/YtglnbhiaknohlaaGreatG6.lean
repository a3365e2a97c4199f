/-
  Functions of the program as plain functions of contents, and that the code computes them. Nothing here is a claim.
-/
import Derived.Test.YtglnbhiaknohlaaGreatVZ
import Derived.Test.YtglnbhiaknohlaaGreatRows
import Derived.Test.YtglnbhiaknohlaaGreatG1
import Derived.Test.YtglnbhiaknohlaaGreatG2
import Derived.Test.YtglnbhiaknohlaaGreatG3
import Derived.Test.YtglnbhiaknohlaaGreatG4
import Derived.Test.YtglnbhiaknohlaaGreatG5
namespace Go.Proofs.YtglnbhiaknohlaaGreat
set_option linter.defProp false
open Go.RowKit Go.Proofs.Tryz
set_option linter.unusedVariables false
set_option maxRecDepth 100000
def QE(E:Int)(C:aX):ah (Bool):=letI D:=(cE C.at_ 0 1000000).bind λI=>some I;(cE C.id 1 100000).bind λJ=>bif J then (cE C.dI 0 3).bind λL=>bif L then bif C.line >= 0 then bif C.line<E then (Cw C.data).bind λO=>bif O then bif C.write then D else bif (C.data==0)then D else some false else some false else some false else some false else some false else some false
def auF:=bw [(false,.int),(true,.di)] cm (bS QE) 43 [ew,Yk] func127
abbrev ag5:=((Int×(aa aX)×af×(aa aX)×Int×Int×(aa aX)×Int×Int×af)×((Int×Int×Int×Bool×Int×Int×af)×af))
def Fe(x:ag5):ah (ag5⊕(((Bool×af)×(af))⊕(((Int×(aa aX)×(aa aX)×Int×Int×af)×(af))⊕Empty))):=letI D:=x.1.2.2.2.2;letI C:=D.2.2;bif C.2.2.1<C.2.1 then xI C.1 C.2.2.1 λE=>bif (E.id==x.2.1.1)then ay ((false,()),())else xG ((x.1.1,x.1.2.1,(),x.1.2.2.2.1,D.1,D.2.1,C.1,C.2.1,(W6 (C.2.2.1+1)),()),(x.2.1,()))else aV ((x.1.1,x.1.2.1,x.1.2.2.2.1,D.1,D.2.1,()),())
def ag6:KY 52 (rK (aZ f43) 0):=⟨2,lB 2 ⟨[(0,tI),(1,.lf (.aD .di 0)),(6,.aG 6 0),(9,.lf (.aD .di 0)),(10,tI),(11,tI),(36,.lf (.aD .di 0)),(37,tI),(38,tI)],[(6,.aB IA)],[]⟩ [(1,ia),(4,ad0)] Fe,lp []⟩
abbrev ag7:=((Int×(aa aX)×(aa aX)×Int×Int×af)×(af))
def KH(x:ag7):ah (ag7⊕(((Bool×af)×(af))⊕((((aa aX)×af)×(af))⊕Empty))):=letI C:=x.1.2;letI D:=C.2.2.2.1;letI J:=(C.1.take D.toNat).drop (0:Int).toNat;bif D<C.2.2.1 then xI C.2.1 D λE=>letI L:=if 0 <= (0:Int)/\0 <= D/\D <= (C.1.length:Int)then bQ Fe ((x.1.1,C.1,(),C.2.1,C.2.2.1,D,J,(J.length:Int),0,()),((E.id,E.dI,E.line,E.write,E.data,E.at_,()),())) (λO=>ay ((O.1.1,()),())) λI=>xG ((I.1.1,I.1.2.1,I.1.2.2.1,I.1.2.2.2.1,(W6 (I.1.2.2.2.2.1+1)),()),())else none;(QE x.1.1 E).bind λQ=>bif (!Q)then ay ((false,()),())else bif D > 0 then xI C.1 (W6 (D-1)) λT=>(QD T E).bind λU=>bif (!U)then ay ((false,()),())else L else L else aV ((C.1,()),())
def auG:KY 52 (aZ f43):=⟨0,lB 0 ad0 [(1,ia),(2,⟨[(1,.lf (.aD .di 0))],[],[]⟩)] KH,lq [auE,auF] [ag6,ag6]⟩
def QF(D:Int)(C:aa aX):ah (Bool):=bQ KH ((D,C,C,(C.length:Int),0,()),()) (λE=>some E.1.1) λI=>some ((I.1.1.length:Int) <= 12)
def auH:=cg [(false,.int),(false,(.sl .di))] cm (bS QF) 52 [] [auG] func43
def Cx(C:eR):ah (Bool):=(cE C.state 0 2).bind λD=>bif D then (cE C.since 0 1000000).bind λE=>bif E then (cE C.idle 0 1000000).bind λI=>some I else some false else some false
def QG:=bw [(true,.Power)] cm (bR Cx) 16 [ew] func46
abbrev ag8:=(((aa cv)×af×(aa cv)×Int×Int×(aa cv)×Int×Int×af)×((Int×Int×Int×af)×af))
def Ff(x:ag8):ah (ag8⊕(((Bool×af)×(af))⊕((((aa cv)×(aa cv)×Int×Int×af)×(af))⊕Empty))):=letI D:=x.1.2.2;letI C:=D.2.2;letI E:=xG ((x.1.1,(),D.1,D.2.1,C.1,C.2.1,C.2.2.1,(W6 (C.2.2.2.1+1)),()),(x.2.1,()));bif C.2.2.2.1<C.2.2.1 then xI C.2.1 C.2.2.2.1 λI=>bif (x.2.1.1==I.line)then bif (x.2.1.2.1==I.code)then ay ((false,()),())else E else E else aV ((x.1.1,D.1,D.2.1,C.1,()),())
def ag9:KY 59 (rK (aZ f47) 0):=⟨2,lB 2 ⟨[(0,.lf (.aD .fN 0)),(4,.aG 4 0),(7,.lf (.aD .fN 0)),(8,tI),(9,tI),(36,.lf (.aD .fN 0)),(37,tI),(38,tI)],[(4,.aB ID)],[]⟩ [(1,qy),(4,adZ)] Ff,lp []⟩
abbrev aha:=(((aa cv)×(aa cv)×Int×Int×af)×(af))
def KI(x:aha):ah (aha⊕(((Bool×af)×(af))⊕((((aa cv)×af)×(af))⊕Empty))):=letI I:=ay ((false,()),());letI D:=x.1.2.2.2.1;letI J:=(x.1.1.take D.toNat).drop (0:Int).toNat;bif D<x.1.2.2.1 then xI x.1.2.1 D λC=>letI L:=(cE C.times 1 999).bind λO=>bif (!O)then I else if 0 <= (0:Int)/\0 <= D/\D <= (x.1.1.length:Int)then bQ Ff ((x.1.1,(),x.1.2.1,x.1.2.2.1,D,J,(J.length:Int),0,()),((C.line,C.code,C.times,()),())) (λQ=>ay ((Q.1.1,()),())) λE=>xG ((E.1.1,E.1.2.1,E.1.2.2.1,(W6 (E.1.2.2.2.1+1)),()),())else none;(cE C.line 0 1023).bind λT=>bif (!T)then I else bif (C.code != 1)then bif (C.code != 2)then I else L else L else aV ((x.1.1,()),())
def auI:KY 59 (aZ f47):=⟨0,lB 0 adZ [(1,qy),(2,⟨[(0,.lf (.aD .fN 0))],[],[]⟩)] KI,lq [ew] [ag9,ag9]⟩
def KJ(C:aa cv):ah (Bool):=bQ KI ((C,C,(C.length:Int),0,()),()) (λD=>some D.1.1) λE=>some ((E.1.1.length:Int) <= 6)
def ahb:=cg [(false,(.sl .fN))] cm (bR KJ) 59 [] [auI] func47
def Fg(C:av):ah (Bool):=(sI C.config C.box.bV).bind λD=>bif (!D)then some false else (sI C.config C.box.next).bind λE=>bif (!E)then some false else (cE C.now 0 1000000).bind λI=>bif (!I)then some false else (Kv C.config.az C.bq).bind λJ=>bif (!J)then some false else (Fa C.config.az C.ready).bind λL=>bif (!L)then some false else (Fb C.config.az C.array).bind λO=>bif (!O)then some false else (Ko C.config.az C.spare).bind λQ=>bif (!Q)then some false else bif (C.spare.bP != C.config.bP)then some false else (QC C).bind λT=>bif (!T)then some false else (E5 C.config.az C.spare).bind λU=>(vm U).bind λY=>(QF Y C.queue).bind λZ=>bif (!Z)then some false else (E8 C.shares).bind λjU=>bif (!jU)then some false else bif ((C.shares.length:Int) != 4)then some false else (Cr C.drain).bind λoF=>bif (!oF)then some false else (Cx C.bg).bind λlE=>bif (!lE)then some false else bif (C.bg.state != C.bq.bg)then some false else bif C.bg.since > C.now then some false else (cE C.cM.every 1 100000).bind λnT=>bif nT then (cE C.cM.wait 1 C.cM.every).bind λlF=>bif lF then (vm C.config.az).bind λkF=>(cE C.cM.next 0 (W6 (kF-1))).bind λB8=>bif B8 then (KJ C.errors).bind λB9=>bif B9 then bif (C.trace.length:Int) <= 2000 then some ((C.cz.length:Int) <= 400)else some false else some false else some false else some false else some false
def Yl:=bw w5 cm (bR Fg) 155 [Qs,Yd,auo,ew,agP,Yg,agW,agG,auD,auH,Yf,Qv,QG,ahb] func13
def Fh(C:dJ):ah (dJ):=bif xZ C.weights then some (⟨C.eS,C.cap,C.eZ,C.low,C.high,(xA C.weights),C.dS⟩:dJ)else none
def ahc:=bw IG [(true,.lO,2)] (bR Fh) 9 [] func129
def KM(C:fU):ah (fU):=(Fh C.bV).bind λD=>(Fh C.next).bind λE=>some (⟨D,E,C.waits⟩:fU)
def ahd:=bw [(true,.oe)] [(true,.oe,2)] (bR KM) 12 [ahc] func98
def Fi(C:cK):ah (cK):=bif xZ C.aC then some (⟨(xA C.aC),C.bg⟩:cK)else none
def ahe:=bw [(true,.gV)] [(true,.gV,2)] (bR Fi) 9 [] func99
def Fj(C:dG):ah (dG):=bif xZ C.last then bif xZ C.bf then some (⟨(xA C.last),(xA C.bf)⟩:dG)else none else none
def ahf:=bw [(true,.kU)] [(true,.kU,2)] (bR Fj) 12 [] func100
def QH(C:bY):ah (bY):=bif xZ C.symbols then some (⟨(xA C.symbols),C.ir⟩:bY)else none
def auJ:=bw [(true,.Cell)] [(true,.Cell,2)] (bR QH) 9 [] func195
def auK:bJ:=⟨[(2,.aG 2 0),(3,.aG 3 0),(16,.lf (.aD .Cell 0)),(17,tI),(18,tI)],adL,[]⟩
def auL:aa (Nat×bJ):=[(2,⟨[(2,.aG 2 0),(3,.aG 3 0)],adL,[]⟩)]
abbrev ahg:=((af×af×(aa bY)×Int×Int×af)×((af×af×af×af)×(af×af×af×af)×(aa bY)×(aa Int)×(aa Int)×(aa bY)×(aa Int)×(aa Int)×af))
def KN(x:ahg):ah (ahg⊕(((af×af×af)×((af×af×af×af)×(af×af×af×af)×(aa bY)×(aa Int)×(aa Int)×(aa bY)×(aa Int)×(aa Int)×af))⊕Empty)):=letI E:=x.2.2.2;letI D:=x.1.2.2;letI I:=((),(),(),());letI C:=E.2.2;bif D.2.2.1<D.2.1 then xI D.1 D.2.2.1 λL=>(QH L).bind λJ=>bif bC (C.2.1.length+[J].length)then xG (((),(),D.1,D.2.1,(W6 (D.2.2.1+1)),()),(I,I,E.1,E.2.1,C.1,(C.2.1++[J]),C.2.2.1,C.2.2.2.1,()))else none else ay (((),(),()),(I,I,E.1,E.2.1,C.1,C.2.1,C.2.2.1,C.2.2.2.1,()))
def auM:KY 31 (aZ f101):=⟨0,lB 0 auK auL KN,lp [auJ]⟩
def Fk(C:dm):ah (dm):=bif xZ C.bz then bif xZ C.br then bu KN (((),(),C.cells,(C.cells.length:Int),0,()),(((),(),(),()),((),(),(),()),([]:aa bY),([]:aa Int),([]:aa Int),([]:aa bY),(xA C.bz),(xA C.br),())) λE=>letI D:=E.2.2.2.2.2.2;some (⟨D.1,D.2.1,D.2.2.1⟩:dm)else none else none
def ahh:=cg [(true,.Array)] [(true,.Array,4)] (bR Fk) 31 [] [auM] func101
def ahi(C:aa Int):ah ((aa Int)):=bif jc C then none else bif bC (([]:aa Int).length+C.length)then some (([]:aa Int)++C)else none
def QI(C:aa Int):ah ((aa Int)):=bif jc C then some []else ahi C
def ahj:jo:=gp [(false,(.sl .int))] [(false,(.sl .int),2)] (λx=>QI x.1)
def auN:enters Tryz.prog 102/\iP Tryz.prog 102 ahj:=BV 8 [] [] func102 trivial rL (t:=.int) (g:=2) (F:=ahi) λx=>by kernel_rfl
def Cy(C:cY):ah (cY):=bif xZ C.aJ then some (⟨(xA C.aJ),C.wait,C.dD⟩:cY)else none
def Ym:=bw Eu [(true,.kV,2)] (bR Cy) 9 [] func103
def Fl(C:cr):ah (cr):=bif xZ C.rows then bif xZ C.counts then some (⟨(xA C.rows),(xA C.counts),C.dc⟩:cr)else none else none
def ahk:=bw [(true,.gD)] [(true,.gD,2)] (bR Fl) 14 [] func104
def ahl(C:aa aK):ah ((aa aK)):=bif jc C then none else bif bC (([]:aa aK).length+C.length)then some (([]:aa aK)++C)else none
def Yn(C:aa aK):ah ((aa aK)):=bif jc C then some []else ahl C
def ahm:jo:=gp [(false,(.sl .Addr))] [(false,(.sl .Addr),2)] (λx=>Yn x.1)
def auO:enters Tryz.prog 105/\iP Tryz.prog 105 ahm:=BV 8 [] [] func105 trivial rL (t:=.Addr) (g:=2) (F:=ahl) λx=>by kernel_rfl
def ahn(C:aa aX):ah ((aa aX)):=bif jc C then none else bif bC (([]:aa aX).length+C.length)then some (([]:aa aX)++C)else none
def Yo(C:aa aX):ah ((aa aX)):=bif jc C then some []else ahn C
def aho:jo:=gp [(false,(.sl .di))] [(false,(.sl .di),2)] (λx=>Yo x.1)
def auP:enters Tryz.prog 106/\iP Tryz.prog 106 aho:=BV 8 [] [] func106 trivial rL (t:=.di) (g:=2) (F:=ahn) λx=>by kernel_rfl
def ahp(C:aa cw):ah ((aa cw)):=bif jc C then none else bif bC (([]:aa cw).length+C.length)then some (([]:aa cw)++C)else none
def Yp(C:aa cw):ah ((aa cw)):=bif jc C then some []else ahp C
def ahq:jo:=gp [(false,(.sl .fF))] [(false,(.sl .fF),2)] (λx=>Yp x.1)
def auQ:enters Tryz.prog 107/\iP Tryz.prog 107 ahq:=BV 8 [] [] func107 trivial rL (t:=.fF) (g:=2) (F:=ahp) λx=>by kernel_rfl
def ahr(C:aa cv):ah ((aa cv)):=bif jc C then none else bif bC (([]:aa cv).length+C.length)then some (([]:aa cv)++C)else none
def Yq(C:aa cv):ah ((aa cv)):=bif jc C then some []else ahr C
def ahs:jo:=gp [(false,(.sl .fN))] [(false,(.sl .fN),2)] (λx=>Yq x.1)
def auR:enters Tryz.prog 108/\iP Tryz.prog 108 ahs:=BV 8 [] [] func108 trivial rL (t:=.fN) (g:=2) (F:=ahr) λx=>by kernel_rfl
def aht(C:aa eY):ah ((aa eY)):=bif jc C then none else bif bC (([]:aa eY).length+C.length)then some (([]:aa eY)++C)else none
def Yr(C:aa eY):ah ((aa eY)):=bif jc C then some []else aht C
def ahu:jo:=gp [(false,(.sl .Event))] [(false,(.sl .Event),2)] (λx=>Yr x.1)
def auS:enters Tryz.prog 109/\iP Tryz.prog 109 ahu:=BV 8 [] [] func109 trivial rL (t:=.Event) (g:=2) (F:=aht) λx=>by kernel_rfl
def ahv(C:aa eM):ah ((aa eM)):=bif jc C then none else bif bC (([]:aa eM).length+C.length)then some (([]:aa eM)++C)else none
def Ys(C:aa eM):ah ((aa eM)):=bif jc C then some []else ahv C
def ahw:jo:=gp [(false,(.sl .lP))] [(false,(.sl .lP),2)] (λx=>Ys x.1)
def auT:enters Tryz.prog 110/\iP Tryz.prog 110 ahw:=BV 8 [] [] func110 trivial rL (t:=.lP) (g:=2) (F:=ahv) λx=>by kernel_rfl
def auU:bJ:=⟨[(1,.aG 1 0),(2,.aG 2 0),(3,.aG 3 0),(36,.lf (.aD .gD 0)),(37,tI),(38,tI)],zz2,OO⟩
def auV:aa (Nat×bJ):=[(2,⟨aey,zz2,OO⟩)]
abbrev ahx:=((af×af×af×(aa cr)×Int×Int×af)×(av×av×(Int×Int×Int×Int×Int×Int×Int×Int×Int×Int×Int×Int×Int×Int×Int×Int×Int×Int×Int×Int×Int×Int×Bool×Int×Int×Int×Int×Int×Int×Int×Int×Int×Int×af×Int×Int×Int×Int×Int×Int×Int×af×Int×Int×Bool×Int×af×Int×af×af×af×af×af×Int×af×af×Int×Bool×af×(aa Int)×(aa aK)×(aa aX)×(aa cw)×Bool×Int×Int×Int×Int×Int×Int×Int×Int×(aa cv)×(aa eY)×(aa eM)×af)×(aa Int)×(aa Int)×(aa eP)×(aa Int)×(aa Int)×(aa bY)×(aa Int)×(aa Int)×(aa Int)×(aa Int)×(aa cr)×af))
def Fm(x:ahx):ah (ahx⊕(((af×af×af×af)×(av×av×(Int×Int×Int×Int×Int×Int×Int×Int×Int×Int×Int×Int×Int×Int×Int×Int×Int×Int×Int×Int×Int×Int×Bool×Int×Int×Int×Int×Int×Int×Int×Int×Int×Int×af×Int×Int×Int×Int×Int×Int×Int×af×Int×Int×Bool×Int×af×Int×af×af×af×af×af×Int×af×af×Int×Bool×af×(aa Int)×(aa aK)×(aa aX)×(aa cw)×Bool×Int×Int×Int×Int×Int×Int×Int×Int×(aa cv)×(aa eY)×(aa eM)×af)×(aa Int)×(aa Int)×(aa eP)×(aa Int)×(aa Int)×(aa bY)×(aa Int)×(aa Int)×(aa Int)×(aa Int)×(aa cr)×af))⊕Empty)):=letI E:=x.1.2.2.2;letI C:=x.2.2.2.2;letI I:=C.2.2.2.2;letI D:=I.2.2.2;bif E.2.2.1<E.2.1 then xI E.1 E.2.2.1 λL=>(Fl L).bind λJ=>bif bC (D.2.2.2.1.length+[J].length)then xG (((),(),(),E.1,E.2.1,(W6 (E.2.2.1+1)),()),(x.2.1,x.2.2.1,x.2.2.2.1,C.1,C.2.1,C.2.2.1,C.2.2.2.1,I.1,I.2.1,I.2.2.1,D.1,D.2.1,D.2.2.1,(D.2.2.2.1++[J]),()))else none else ay (((),(),(),()),(x.2.1,x.2.2.1,x.2.2.2.1,C.1,C.2.1,C.2.2.1,C.2.2.2.1,I.1,I.2.1,I.2.2.1,D.1,D.2.1,D.2.2.1,D.2.2.2.1,()))
def auW:KY 79 (aZ f30):=⟨0,lB 0 auU auV Fm,lp [ahk]⟩
def Fo(C:av):ah (av):=(KM C.box).bind λD=>(Fi C.bq).bind λy2=>(Fj C.ready).bind λy3=>(Fk C.array).bind λy4=>(QI C.spare.map).bind λy5=>(Cy C.aQ).bind λy6=>bu Fm (((),(),(),C.bO,(C.bO.length:Int),0,()),((⟨⟨⟨0,0,0,0⟩,⟨0,0,0,0,0,0,0,0,0,0,0,0,0,0,0,0,0⟩,⟨0,false⟩,0,0,0,⟨0,0⟩⟩,⟨⟨0,0,0,0,0,([]:aa Int),⟨0,0⟩⟩,⟨0,0,0,0,0,([]:aa Int),⟨0,0⟩⟩,false⟩,0,⟨([]:aa eP),0⟩,⟨([]:aa Int),([]:aa Int)⟩,⟨([]:aa bY),([]:aa Int),([]:aa Int)⟩,⟨0,([]:aa Int)⟩,⟨([]:aa Int),0,false⟩,([]:aa cr),([]:aa Int),([]:aa aK),([]:aa aX),([]:aa cw),⟨false,0,0⟩,⟨0,0,0⟩,⟨0,0,0⟩,([]:aa cv),([]:aa eY),([]:aa eM)⟩:av),C,(C.config.az.cu,C.config.az.aC,C.config.az.rows,C.config.az.aN,C.config.bL.jI,C.config.bL.rp,C.config.bL.gw,C.config.bL.nq,C.config.bL.jJ,C.config.bL.jK,C.config.bL.nt,C.config.bL.nu,C.config.bL.iY,C.config.bL.wr,C.config.bL.ny,C.config.bL.nA,C.config.bL.pT,C.config.bL.nB,C.config.bL.n8,C.config.bL.xp,C.config.bL.xs,C.config.mapping.order,C.config.mapping.hash,C.config.bP,C.config.interval,C.config.gU,C.config.dU.bz,C.config.dU.br,D.bV.eS,D.bV.cap,D.bV.eZ,D.bV.low,D.bV.high,(),D.bV.dS.down,D.bV.dS.sleep,D.next.eS,D.next.cap,D.next.eZ,D.next.low,D.next.high,(),D.next.dS.down,D.next.dS.sleep,D.waits,C.now,(),y2.bg,(),(),(),(),(),C.spare.bP,(),(),y6.wait,y6.dD,(),C.guard,C.pending,C.queue,C.shares,C.drain.on,C.drain.low,C.drain.high,C.bg.state,C.bg.since,C.bg.idle,C.cM.next,C.cM.every,C.cM.wait,C.errors,C.trace,C.cz,()),D.bV.weights,D.next.weights,y2.aC,y3.last,y3.bf,y4.cells,y4.bz,y4.br,y5,y6.aJ,([]:aa cr),())) λiJ=>letI I:=iJ.2.2.1;letI E:=iJ.2.2.2;letI u16:=E.1.2.2;letI Z:=E.2.2.2.2.2;letI w8:=Z.2.2.2;letI u7:=u16.2.2.2;letI w7:=u7.2.2.2;letI u2:=w7.2.2.2;letI L:=u2.2.2.2;letI O:=L.2.2.2.2;letI Q:=O.2.2.2.2;letI T:=Q.2.2.2.2;letI sJ:=T.2.2.2.2;letI zO:=sJ.2.2.2.2;letI J:=zO.2.2;letI u8:=J.2.2.2.2.2.2;letI u15:=u8.2.2.2.2.2.2.2.2.2.2.2;letI u1:=u15.2.2.2;letI U:=u1.2.2.2.2.2.2.2;letI Y:=U.2.2.2.2;(QI I.guard).bind λje=>(Yn I.pending).bind λjU=>(Yo I.queue).bind λoF=>(Yp I.shares).bind λlE=>(Yq I.errors).bind λnT=>(Yr I.trace).bind λlF=>(Ys I.cz).bind λkF=>some (⟨⟨⟨E.1.1,E.1.2.1,u16.1,u16.2.1⟩,⟨u16.2.2.1,u7.1,u7.2.1,u7.2.2.1,w7.1,w7.2.1,w7.2.2.1,u2.1,u2.2.1,u2.2.2.1,L.1,L.2.1,L.2.2.1,L.2.2.2.1,O.1,O.2.1,O.2.2.1⟩,⟨O.2.2.2.1,Q.1⟩,Q.2.1,Q.2.2.1,Q.2.2.2.1,⟨T.1,T.2.1⟩⟩,⟨⟨T.2.2.1,T.2.2.2.1,sJ.1,sJ.2.1,sJ.2.2.1,E.2.1,⟨zO.1,zO.2.1⟩⟩,⟨J.1,J.2.1,J.2.2.1,J.2.2.2.1,J.2.2.2.2.1,E.2.2.1,⟨u8.1,u8.2.1⟩⟩,u8.2.2.1⟩,u8.2.2.2.1,⟨E.2.2.2.1,u8.2.2.2.2.2.1⟩,⟨E.2.2.2.2.1,Z.1⟩,⟨Z.2.1,Z.2.2.1,w8.1⟩,⟨u15.1,w8.2.1⟩,⟨w8.2.2.1,u1.1,u1.2.1⟩,w8.2.2.2.1,je,jU,oF,lE,⟨U.1,U.2.1,U.2.2.1⟩,⟨U.2.2.2.1,Y.1,Y.2.1⟩,⟨Y.2.2.1,Y.2.2.2.1,Y.2.2.2.2.1⟩,nT,lF,kF⟩:av)
def Yt:=cg w5 [(true,.cO,4)] (bR Fo) 79 [ahd,ahe,ahf,ahh,⟨102,.p ahj,auN⟩,Ym,⟨105,.p ahm,auO⟩,⟨106,.p aho,auP⟩,⟨107,.p ahq,auQ⟩,⟨108,.p ahs,auR⟩,⟨109,.p ahu,auS⟩,⟨110,.p ahw,auT⟩] [auW] func30
def Cz(C:Int)(D:Bool)(E:Int):ah (Bool):=bif (!D)then some (C==0)else (cE C 0 (W6 (E-1))).bind λI=>some I
def auX:=bw [(false,.int),(false,.bool),(false,.int)] cm (fz Cz) 15 [ew] func271
def QJ(C:Int):ah (Bool):=some (C==1)
def auY:=bw lD cm (bR QJ) 5 [] func272
def QK(C:Int):ah (Bool):=bif (C==2)then some true else some (C==3)
def auZ:=bw lD cm (bR QK) 9 [] func273
def Yu(C:aH)(D E I:Int):ah (Bool):=(cE C.kind 1 9).bind λJ=>bif J then (xo C.kind).bind λL=>(Cz C.ax L D).bind λO=>bif O then (QJ C.kind).bind λQ=>(Cz C.row Q E).bind λT=>bif T then (QK C.kind).bind λU=>(Cz C.bT U I).bind λY=>some Y else some false else some false else some false
def au0:=bw [(true,.Command),(false,.int),(false,.int),(false,.int)] cm (oD Yu) 39 [ew,Qz,auX,auY,auZ] func183
def Fp(C:aM)(D:aH):ah (Bool):=(sH C).bind λE=>bif E then (oG C).bind λI=>(Yu D I C.rows C.aN).bind λJ=>some J else some false
def Yv:=bw Xu cm (bS Fp) 17 [rN,xm,au0] func86
def KO(L:aM)(D:cK)(C:aH):ah (Bool):=letI E:=D.bg==0;letI O:=bif E then xI D.aC C.ax λT=>some (!T.open_)else some false;letI I:=bif E then xI D.aC C.ax λU=>some U.open_ else some false;letI J:=bif (C.kind==6)then some E else bif (C.kind==8)then bif E then (Ag D).bind λY=>some ((Y.length:Int)==0)else some false else bif (C.kind==7)then some (D.bg==1)else some (D.bg==2);letI Q:=bif (C.kind==2)then bif (C.kind==2)then I else J else bif (C.kind==3)then bif (C.kind==3)then I else J else bif (C.kind==4)then I else J;(Kv L D).bind λZ=>bif (!Z)then some false else (Fp L C).bind λy2=>bif (!y2)then some false else bif (C.kind==1)then bif (C.kind==1)then O else Q else bif (C.kind==5)then O else Q
def ahy:=bw [(true,.fM),(true,.gV),(true,.Command)] cm (fz KO) 75 [agP,Yv,Qy] func21
def QL(C:c7)(D E:Int):ah (Int):=(let L:Bool -> ah (Int):=λI=>(let J:Bool -> ah (Int):=λj2=>bif j2 then some C.jI else (let O:Bool -> ah (Int):=λj3=>bif j3 then some C.gw else (let Q:Bool -> ah (Int):=λj4=>bif j4 then some (W6 (C.gw+C.rp))else (let T:Bool -> ah (Int):=λj5=>bif j5 then some C.iY else (let U:Bool -> ah (Int):=λj6=>bif j6 then some (W6 (C.iY+C.rp))else (let Y:Bool -> ah (Int):=λj7=>bif j7 then some C.wr else (let Z:Bool -> ah (Int):=λj8=>bif j8 then some (W6 (C.wr+C.rp))else (let Yw:Bool -> ah (Int):=λj9=>bif j9 then some C.rp else (let Yx:Bool -> ah (Int):=λCh=>bif Ch then some C.nB else some 0;bif (D==5)then (Yx I)else (Yx false));bif (D==4)then (Yw I)else (Yw false));bif (D==3)then (Z I)else (Z false));bif (D==3)then (Y (E==4))else (Y false));bif (D==2)then (U I)else (U false));bif (D==2)then (T (E==4))else (T false));bif (D==1)then (Q I)else (Q false));bif (D==1)then (O (E==4))else (O false));bif (D==1)then bif (E==2)then (J true)else (J (E==3))else (J false));bif (E==1)then (L true)else (L (E==5)))
def ahz:=bw [(true,.kT),(false,.int),(false,.int)] dN (fz QL) 103 [] func187
def au1:enters Tryz.prog 274/\qm Tryz.prog 274 (ci Tryz.prog f274 1 []):=Iv 1 [] func274 trivial
def QM(C:c7)(D E:Int)(I:Bool):ah (Int):=bif (D==7)then some C.xp else bif (D==9)then some C.xs else (let O:Bool -> ah (Int):=λj1=>bif j1 then (let Q:Int -> ah (Int):=λj2=>some j2;bif I then (Q C.jJ)else (Q C.nq))else (let J:Bool -> ah (Int):=λj4=>bif j4 then (let T:Int -> ah (Int):=λj5=>some j5;bif I then (T C.nu)else (T C.nt))else (let U:Bool -> ah (Int):=λj7=>bif j7 then (let Y:Int -> ah (Int):=λj8=>some j8;bif I then (Y C.nA)else (Y C.ny))else (let Z:Bool -> ah (Int):=λCh=>bif Ch then some C.pT else (let JU:Bool -> ah (Int):=λXL=>bif XL then some C.jJ else (let zR:Bool -> ah (Int):=λJe=>bif Je then some C.iY else (let Aa:Bool -> ah (Int):=λB6=>bif B6 then some C.wr else bif (E==8)then (QL C D 1).bind λlE=>some lE else (let L:Bool -> ah (Int):=λXN=>bif XN then some C.n8 else some 0;letI u0:=bif (D==8)then (L (E==9))else (L false);bif (D==6)then bif (E==7)then (L true)else u0 else u0);bif (D==3)then (Aa (E==6))else (Aa false));bif (D==2)then (zR (E==6))else (zR false));bif (D==5)then (JU (E==5))else (JU false));bif (D==2)then (Z (E==3))else (Z false));bif (D==3)then (U (E==2))else (U false));letI u1:=bif (D==3)then (J (E==3))else (J false);bif (D==2)then bif (E==2)then (J true)else u1 else u1);bif (D==1)then (O (E==1))else (O false))
def au2:=bw aei dN (oD QM) 126 [ahz,⟨274,.i _,au1⟩] func185
def KP(C:aM)(D:Int):ah (Int):=(oG C).bind λE=>(cE D 0 (W6 (E-1))).bind λI=>bif (!I)then some (-1)else if C.aC=0 then none else some (W6 (D.tdiv C.aC))
def au3:=bw IB dN (bS KP) 15 [ew,rN] func186
def KQ(O:aM)(J:c7)(C D:aH):ah (Int):=letI Q:=QL J C.kind D.kind;letI T:=QM J C.kind D.kind false;(xo C.kind).bind λy1=>bif y1 then (xo D.kind).bind λL=>bif L then (KP O C.ax).bind λy3=>(KP O D.ax).bind λy4=>(QM J C.kind D.kind (y3==y4)).bind λE=>letI U:=some (if E > 1 then E else 1);bif L then bif (C.ax==D.ax)then Q.bind λY=>some (if Y > (if E > 1 then E else 1)then Y else (if E > 1 then E else 1))else U else U else T.bind λI=>letI Z:=some (if I > 1 then I else 1);bif L then bif (C.ax==D.ax)then Q.bind λy8=>some (if y8 > (if I > 1 then I else 1)then y8 else (if I > 1 then I else 1))else Z else Z else T.bind λy9=>some (if y9 > 1 then y9 else 1)
def au4:=bw aej dN (oD KQ) 55 [Qz,au2,au3,ahz] func89
def au5:bJ:=⟨[(4,.aG 4 0),(5,.aG 5 0),(6,.aG 6 0),(7,.aG 7 0),(9,tI),(30,.lf (.aD .int 0)),(31,tI),(32,tI)],aeg,[]⟩
def au6:aa (Nat×bJ):=[(2,adT)]
abbrev ahA:=((af×af×af×af×Int×(aa Int)×Int×Int×af)×((Int×Int×Int×Int×af)×c7×((aa Int)×(aa Int)×af)×(Int×Int×Int×Int×af)×af))
def KR(x:ahA):ah (ahA⊕(((af×af×af×Int×af)×(c7×((aa Int)×(aa Int)×af)×(Int×Int×Int×Int×af)×af))⊕Empty)):=letI I:=(⟨x.2.1.1,x.2.1.2.1,x.2.1.2.2.1,x.2.1.2.2.2.1⟩:aM);letI D:=x.2.2.2.2.1;letI J:=(x.2.1,x.2.2.1,x.2.2.2.1,D,());letI C:=x.1.2.2.2.2;letI E:=C.2.2.2.1;bif E<C.2.2.1 then xI C.2.1 E λL=>bif L<0 then xG (((),(),(),(),C.1,C.2.1,C.2.2.1,(W6 (E+1)),()),J)else (Cs I E).bind λQ=>(KQ I x.2.2.1 Q.1 (⟨D.1,D.2.1,D.2.2.1,D.2.2.2.1⟩:aH)).bind λT=>letI O:=W6 (L+T);xG (((),(),(),(),(if O > C.1 then O else C.1),C.2.1,C.2.2.1,(W6 (E+1)),()),J)else ay (((),(),(),C.1,()),(x.2.2.1,x.2.2.2.1,D,()))
def au7:KY 76 (aZ f22):=⟨0,lB 0 au5 au6 KR,lp [agQ,au4]⟩
def QN(C:aM)(Q:c7)(D:dG)(E:aH):ah (Int):=(E7 Q).bind λU=>bif (!U)then some (-1)else (Fa C D).bind λY=>bif (!Y)then some (-1)else (Fp C E).bind λZ=>bif (!Z)then some (-1)else bu KR (((),(),(),(),0,D.last,(D.last.length:Int),0,()),((C.cu,C.aC,C.rows,C.aN,()),Q,(D.last,D.bf,()),(E.kind,E.ax,E.row,E.bT,()),())) λI=>letI O:=I.1.2.2.2.1;letI J:=O;letI T:=bif J > 1000000 then some (-1)else some J;bif (I.2.2.2.1.1==1)then bif ((I.2.2.1.2.1.length:Int)==4)then xI I.2.2.1.2.1 (0:Int) λXU=>letI L:=W6 (XU+I.2.1.jK);bif (if L > O then L else J) > 1000000 then some (-1)else some (if L > O then L else J)else T else T
def au8:=cg aek dN (oD QN) 76 [Yg,Ye,Yv] [au7] func22
def iT(C:av)(D:aH):ah (Bool):=(KO C.config.az C.bq D).bind λI=>bif (!I)then some false else (QN C.config.az C.config.bL C.ready D).bind λE=>bif (E != (-1))then some (E <= C.now)else some false
def Fq:=bw [(true,.cO),(true,.Command)] cm (bS iT) 32 [ahy,au8] func66
def QO(C:aM)(E:kQ)(I:Int):ah (aK×Bool):=letI L:=I.tmod C.aN;letI O:=some ((⟨0,0,0⟩:aK),false);letI J:=W6 (I.tdiv C.aN);letI Q:=J.tmod C.rows;(sH C).bind λZ=>bif (!Z)then O else (Kp E).bind λy2=>bif (!y2)then O else (vm C).bind λy3=>(cE I 0 (W6 (y3-1))).bind λy4=>bif (!y4)then O else (oG C).bind λD=>letI T:=W6 (J.tdiv D);letI U:=W6 (I.tdiv D);letI Y:=W6 (U.tdiv C.aN);bif (E.order==0)then if C.aN=0 then none else if C.aN=0 then none else if D=0 then none else if C.aN=0 then none else if D=0 then none else bif E.hash then if D=0 then none else some ((⟨((W6 ((J.tmod D)+T)).tmod D),T,L⟩:aK),true)else some ((⟨(J.tmod D),T,L⟩:aK),true)else bif (E.order==1)then if D=0 then none else if D=0 then none else if C.aN=0 then none else if D=0 then none else if C.aN=0 then none else bif E.hash then if D=0 then none else some ((⟨((W6 ((I.tmod D)+Y)).tmod D),Y,(U.tmod C.aN)⟩:aK),true)else some ((⟨(I.tmod D),Y,(U.tmod C.aN)⟩:aK),true)else if C.aN=0 then none else if C.aN=0 then none else if C.rows=0 then none else if C.aN=0 then none else if C.rows=0 then none else bif E.hash then if D=0 then none else some ((⟨((W6 ((W6 (J.tdiv C.rows))+Q)).tmod D),Q,L⟩:aK),true)else some ((⟨(W6 (J.tdiv C.rows)),Q,L⟩:aK),true)
def au9:=bw [(true,.fM),(true,.qR),(false,.int)] Xr (fz QO) 99 [Qs,ew,rN,xm,agI] func140
def QS(C:aM)(D E:Int):ah (Bool):=(Cv C (⟨D,E,0⟩:aK)).bind λI=>some I
def ava:=bw [(true,.fM),(false,.int),(false,.int)] cm (fz QS) 12 [Yj] func227
def Yy(E:aM)(D:dH)(I J:Int):ah (Int):=(E5 E D).bind λL=>(QS L I J).bind λO=>bif (!O)then some (-1)else (E3 E D I).bind λC=>bif Nat.ble C.1 C.2&&Nat.ble C.2 D.map.length then xI ((D.map.take C.2).drop C.1) J λQ=>some Q else none
def avb:=bw Iz dN (oD Yy) 23 [Yd,⟨121,.v Yc,agC⟩,ava] func141
def vo(C:av)(E:Int):ah (aK×Bool):=(E5 C.config.az C.spare).bind λI=>(QO I C.config.mapping E).bind λD=>bif (!D.2)then some ((⟨0,0,0⟩:aK),false)else (Yy C.config.az C.spare D.1.ax D.1.row).bind λJ=>some ((⟨D.1.ax,J,D.1.bT⟩:aK),true)
def Yz:=bw [(true,.cO),(false,.int)] Xr (bS vo) 37 [Yd,au9,avb] func67
def xq(D:cK)(C:aK)(I:Bool):ah (aH):=letI E:=some (⟨1,C.ax,C.row,0⟩:aH);(cE C.ax 0 (W6 ((D.aC.length:Int)-1))).bind λJ=>bif (!J)then E else xI D.aC C.ax λL=>bif (!L.open_)then E else xI D.aC C.ax λO=>bif (O.row != C.row)then some (⟨4,C.ax,0,0⟩:aH)else bif I then some (⟨3,C.ax,0,C.bT⟩:aH)else some (⟨2,C.ax,0,C.bT⟩:aH)
def ahB:=bw [(true,.gV),(true,.Addr),(false,.bool)] IF (fz xq) 57 [ew] func68
def QT(D:aM)(C:aH):ah (Int):=(oG D).bind λE=>(xo C.kind).bind λI=>bif I then some (W6 ((W6 ((W6 (9*C.ax))+C.kind))-1))else some (W6 ((W6 ((W6 (9*E))+C.kind))-1))
def avc:=bw Xu dN (bS QT) 19 [rN,Qz] func228
end Go.Proofs.YtglnbhiaknohlaaGreat
