/-
  Functions of the program as plain functions of contents, and that the code computes them. Nothing here is a claim.
-/
import Derived.Test.YtpigmalhjkekiaaGreatVZ
import Derived.Test.YtpigmalhjkekiaaGreatRows
import Derived.Test.YtpigmalhjkekiaaGreatG1
import Derived.Test.YtpigmalhjkekiaaGreatG2
import Derived.Test.YtpigmalhjkekiaaGreatG3
namespace Go.Proofs.YtpigmalhjkekiaaGreat
set_option linter.defProp false
open Go.RowKit Go.Proofs.Tryz
set_option linter.unusedVariables false
set_option maxRecDepth 100000
def aeJ(C:aa cQ):aj ((aa cQ)):=bif jG C then none else bif bX (([]:aa cQ).length+C.length)then some (([]:aa cQ)++C)else none
def We(C:aa cQ):aj ((aa cQ)):=bif jG C then some []else aeJ C
def aeK:jH:=iL [(false,(.sl .gW))] [(false,(.sl .gW),2)] (λx=>We x.1)
def apN:enters Tryz.prog 93/\jl Tryz.prog 93 aeK:=CV 8 [] [] func93 trivial sI (t:=.gW) (g:=2) (F:=aeJ) λx=>by kernel_rfl
def aeL(C:aa cr):aj ((aa cr)):=bif jG C then none else bif bX (([]:aa cr).length+C.length)then some (([]:aa cr)++C)else none
def Wf(C:aa cr):aj ((aa cr)):=bif jG C then some []else aeL C
def aeM:jH:=iL [(false,(.sl .iG))] [(false,(.sl .iG),2)] (λx=>Wf x.1)
def apO:enters Tryz.prog 94/\jl Tryz.prog 94 aeM:=CV 8 [] [] func94 trivial sI (t:=.iG) (g:=2) (F:=aeL) λx=>by kernel_rfl
def aeN(C:aa dO):aj ((aa dO)):=bif jG C then none else bif bX (([]:aa dO).length+C.length)then some (([]:aa dO)++C)else none
def Wg(C:aa dO):aj ((aa dO)):=bif jG C then some []else aeN C
def aeO:jH:=iL [(false,(.sl .Event))] [(false,(.sl .Event),2)] (λx=>Wg x.1)
def apP:enters Tryz.prog 95/\jl Tryz.prog 95 aeO:=CV 8 [] [] func95 trivial sI (t:=.Event) (g:=2) (F:=aeN) λx=>by kernel_rfl
def aeP(C:aa ey):aj ((aa ey)):=bif jG C then none else bif bX (([]:aa ey).length+C.length)then some (([]:aa ey)++C)else none
def Wh(C:aa ey):aj ((aa ey)):=bif jG C then some []else aeP C
def aeQ:jH:=iL [(false,(.sl .oF))] [(false,(.sl .oF),2)] (λx=>Wh x.1)
def apQ:enters Tryz.prog 96/\jl Tryz.prog 96 aeQ:=CV 8 [] [] func96 trivial sI (t:=.oF) (g:=2) (F:=aeP) λx=>by kernel_rfl
def apR:bG:=⟨[(1,.aG 1 0),(2,.aG 2 0),(3,.aG 3 0),(36,.lf (.aH .mh 0)),(37,tI),(38,tI)],zz1,acM⟩
def apS:aa (Nat×bG):=[(2,⟨adn,zz1,acM⟩)]
abbrev aeR:=((ah×ah×ah×(aa cI)×Int×Int×ah)×(ax×ax×(Int×Int×Int×Int×Int×Int×Int×Int×Int×Int×Int×Int×Int×Int×Int×Int×Int×Int×Int×Int×Int×Int×Bool×Int×Int×Int×Int×Int×Int×Int×Int×Int×Int×ah×Int×Int×Int×Int×Int×Int×Int×ah×Int×Int×Bool×Int×ah×Int×ah×ah×ah×ah×ah×Int×ah×ah×Int×Bool×ah×(aa Int)×(aa aO)×(aa aU)×(aa cQ)×Bool×Int×Int×Int×Int×Int×Int×Int×Int×(aa cr)×(aa dO)×(aa ey)×ah)×(aa Int)×(aa Int)×(aa gN)×(aa Int)×(aa Int)×(aa bO)×(aa Int)×(aa Int)×(aa Int)×(aa Int)×(aa cI)×ah))
def Fm(x:aeR):aj (aeR⊕(((ah×ah×ah×ah)×(ax×ax×(Int×Int×Int×Int×Int×Int×Int×Int×Int×Int×Int×Int×Int×Int×Int×Int×Int×Int×Int×Int×Int×Int×Bool×Int×Int×Int×Int×Int×Int×Int×Int×Int×Int×ah×Int×Int×Int×Int×Int×Int×Int×ah×Int×Int×Bool×Int×ah×Int×ah×ah×ah×ah×ah×Int×ah×ah×Int×Bool×ah×(aa Int)×(aa aO)×(aa aU)×(aa cQ)×Bool×Int×Int×Int×Int×Int×Int×Int×Int×(aa cr)×(aa dO)×(aa ey)×ah)×(aa Int)×(aa Int)×(aa gN)×(aa Int)×(aa Int)×(aa bO)×(aa Int)×(aa Int)×(aa Int)×(aa Int)×(aa cI)×ah))⊕Empty)):=letI u3:=x.1.2.2.2;letI u1:=x.2.2.2.2;letI C:=u1.2.2.2.2;letI u2:=C.2.2.2;bif u3.2.2.1<u3.2.1 then xI u3.1 u3.2.2.1 λE=>(Fl E).bind λD=>bif bX (u2.2.2.2.1.length+[D].length)then xG (((),(),(),u3.1,u3.2.1,(W6 (u3.2.2.1+1)),()),(x.2.1,x.2.2.1,x.2.2.2.1,u1.1,u1.2.1,u1.2.2.1,u1.2.2.2.1,C.1,C.2.1,C.2.2.1,u2.1,u2.2.1,u2.2.2.1,(u2.2.2.2.1++[D]),()))else none else aE (((),(),(),()),(x.2.1,x.2.2.1,x.2.2.2.1,u1.1,u1.2.1,u1.2.2.1,u1.2.2.2.1,C.1,C.2.1,C.2.2.1,u2.1,u2.2.1,u2.2.2.1,u2.2.2.2.1,()))
def apT:KY 79 (bx f38):=⟨0,lB 0 apR apS Fm,lp [aeE]⟩
def A7(C:ax):aj (ax):=(Fi C.box).bind λD=>(Fj C.aN).bind λy2=>(Fk C.ready).bind λy3=>(C6 C.array).bind λy4=>(OU C.spare.map).bind λy5=>(zh C.aD).bind λy6=>bR Fm (((),(),(),C.bA,(C.bA.length:Int),0,()),((⟨⟨⟨0,0,0,0⟩,⟨0,0,0,0,0,0,0,0,0,0,0,0,0,0,0,0,0⟩,⟨0,false⟩,0,0,0,⟨0,0⟩⟩,⟨⟨0,0,0,0,0,([]:aa Int),⟨0,0⟩⟩,⟨0,0,0,0,0,([]:aa Int),⟨0,0⟩⟩,false⟩,0,⟨([]:aa gN),0⟩,⟨([]:aa Int),([]:aa Int)⟩,⟨([]:aa bO),([]:aa Int),([]:aa Int)⟩,⟨0,([]:aa Int)⟩,⟨([]:aa Int),0,false⟩,([]:aa cI),([]:aa Int),([]:aa aO),([]:aa aU),([]:aa cQ),⟨false,0,0⟩,⟨0,0,0⟩,⟨0,0,0⟩,([]:aa cr),([]:aa dO),([]:aa ey)⟩:ax),C,(C.config.ak.cm,C.config.ak.aI,C.config.ak.rows,C.config.ak.aQ,C.config.bQ.p7,C.config.bQ.rp,C.config.bQ.ji,C.config.bQ.rV,C.config.bQ.nS,C.config.bQ.mg,C.config.bQ.rW,C.config.bQ.rX,C.config.bQ.mV,C.config.bQ.wr,C.config.bQ.rY,C.config.bQ.rZ,C.config.bQ.v5,C.config.bQ.sY,C.config.bQ.sZ,C.config.bQ.xp,C.config.bQ.xs,C.config.mapping.order,C.config.mapping.hash,C.config.bL,C.config.interval,C.config.gV,C.config.di.bh,C.config.di.aY,D.bW.eK,D.bW.cap,D.bW.dn,D.bW.low,D.bW.high,(),D.bW.cZ.down,D.bW.cZ.sleep,D.next.eK,D.next.cap,D.next.dn,D.next.low,D.next.high,(),D.next.cZ.down,D.next.cZ.sleep,D.waits,C.now,(),y2.aR,(),(),(),(),(),C.spare.bL,(),(),y6.wait,y6.dP,(),C.guard,C.pending,C.queue,C.shares,C.drain.on,C.drain.low,C.drain.high,C.aR.state,C.aR.since,C.aR.idle,C.dJ.next,C.dJ.every,C.dJ.wait,C.errors,C.trace,C.bF,()),D.bW.weights,D.next.weights,y2.aI,y3.last,y3.bg,y4.cells,y4.bh,y4.aY,y5,y6.aB,([]:aa cI),())) λkL=>letI E:=kL.2.2.1;letI u4:=kL.2.2.2;letI u16:=u4.1.2.2;letI Y:=u4.2.2.2.2.2;letI Z:=Y.2.2.2;letI u7:=u16.2.2.2;letI OW:=u7.2.2.2;letI u2:=OW.2.2.2;letI I:=u2.2.2.2;letI u5:=I.2.2.2.2;letI O:=u5.2.2.2.2;letI T:=O.2.2.2.2;letI uf:=T.2.2.2.2;letI Wi:=uf.2.2.2.2;letI u3:=Wi.2.2;letI u8:=u3.2.2.2.2.2.2;letI u15:=u8.2.2.2.2.2.2.2.2.2.2.2;letI u1:=u15.2.2.2;letI u6:=u1.2.2.2.2.2.2.2;letI U:=u6.2.2.2.2;(OU E.guard).bind λjX=>(Wb E.pending).bind λoW=>(Wc E.queue).bind λlW=>(We E.shares).bind λlA=>(Wf E.errors).bind λkI=>(Wg E.trace).bind λmG=>(Wh E.bF).bind λqH=>some (⟨⟨⟨u4.1.1,u4.1.2.1,u16.1,u16.2.1⟩,⟨u16.2.2.1,u7.1,u7.2.1,u7.2.2.1,OW.1,OW.2.1,OW.2.2.1,u2.1,u2.2.1,u2.2.2.1,I.1,I.2.1,I.2.2.1,I.2.2.2.1,u5.1,u5.2.1,u5.2.2.1⟩,⟨u5.2.2.2.1,O.1⟩,O.2.1,O.2.2.1,O.2.2.2.1,⟨T.1,T.2.1⟩⟩,⟨⟨T.2.2.1,T.2.2.2.1,uf.1,uf.2.1,uf.2.2.1,u4.2.1,⟨Wi.1,Wi.2.1⟩⟩,⟨u3.1,u3.2.1,u3.2.2.1,u3.2.2.2.1,u3.2.2.2.2.1,u4.2.2.1,⟨u8.1,u8.2.1⟩⟩,u8.2.2.1⟩,u8.2.2.2.1,⟨u4.2.2.2.1,u8.2.2.2.2.2.1⟩,⟨u4.2.2.2.2.1,Y.1⟩,⟨Y.2.1,Y.2.2.1,Z.1⟩,⟨u15.1,Z.2.1⟩,⟨Z.2.2.1,u1.1,u1.2.1⟩,Z.2.2.2.1,jX,oW,lW,lA,⟨u6.1,u6.2.1,u6.2.2.1⟩,⟨u6.2.2.2.1,U.1,U.2.1⟩,⟨U.2.2.1,U.2.2.2.1,U.2.2.2.2.1⟩,kI,mG,qH⟩:ax)
def JD:=cM wQ [(true,.dV,4)] (bP A7) 79 [V9,aey,aez,Wa,⟨88,.p aeD,apK⟩,OV,⟨91,.p aeG,apL⟩,⟨92,.p aeI,apM⟩,⟨93,.p aeK,apN⟩,⟨94,.p aeM,apO⟩,⟨95,.p aeO,apP⟩,⟨96,.p aeQ,apQ⟩] [apT] func38
def C7(I:aF)(C:eP)(D:Int):aj (Nat×Nat):=letI E:=W6 (I.rows-C.bL);letI u2:=W6 (D*E);letI u1:=W6 ((W6 (D+1))*E);if 0 <= u2/\u2 <= u1/\u1 <= (C.map.length:Int)then some (u2.toNat,u1.toNat)else none
def OX:CB:=Vg [(true,.gf),(true,.r3),(false,.int)] 1 1 .int (λx=>C7 x.1 x.2.1 x.2.2.1)
def Wj:enters Tryz.prog 164/\MM Tryz.prog 164 OX:=ani (N:=23) (fn:=f164) (code:=bx f164) (Φ:=(mE [])) (Λ:=(jW [])) (t:=.int) func164 (by kernel_rfl) (by kernel_rfl) (by kernel_rfl) (by kernel_rfl) (by kernel_rfl) (by kernel_rfl) (by kernel_rfl) (by kernel_rfl) (vw _ trivial) sI (λx=>by kernel_rfl)
abbrev aeS:=((Int×Int×(aa Int)×Int×Int×ah)×(ah))
def JE(x:aeS):aj (aeS⊕(((Int×ah)×(ah))⊕Empty)):=letI C:=x.1.2.2;letI u1:=C.2.2.1;bif u1<C.2.1 then xI C.1 u1 λD=>bif (D==x.1.1)then xG ((x.1.1,(W6 (x.1.2.1+1)),C.1,C.2.1,(W6 (u1+1)),()),())else xG ((x.1.1,x.1.2.1,C.1,C.2.1,(W6 (u1+1)),()),())else aE ((x.1.2.1,()),())
def apU:KY 21 (bx f165):=⟨0,lB 0 ⟨[(1,tI),(5,tI),(8,.lf (.aH .int 0)),(9,tI),(10,tI)],[],[]⟩ [(2,IJ)] JE,lp []⟩
def OY(C:aa Int)(D:Int):aj (Int):=bR JE ((D,0,C,(C.length:Int),0,()),()) λE=>some E.1.1
def apV:=cM EX fV (cF OY) 21 [] [apU] func165
abbrev aeT:=((ah×ah×Int×Int×(aa Int)×(aa Int)×Int×Int×ah)×((Int×Int×Int×Int×ah)×(Int×(aa Int)×ah)×ah))
def Fo(x:aeT):aj (aeT⊕(((Bool×ah)×(ah))⊕(((ah×ah×Int×Int×ah)×((Int×Int×Int×Int×ah)×(Int×(aa Int)×ah)×ah))⊕Empty))):=letI u2:=x.1.2.2;letI u1:=u2.2.2;letI u3:=u1.2.2.2.1;letI D:=xG (((),(),u2.1,u2.2.1,u1.1,u1.2.1,u1.2.2.1,(W6 (u3+1)),()),(x.2.1,x.2.2.1,()));bif u3<u1.2.2.1 then xI u1.2.1 u3 λC=>bif (C != u3)then (cc C u2.1 (W6 (x.2.1.2.2.1-1))).bind λE=>bif (!E)then aE ((false,()),())else (OY u1.1 C).bind λI=>bif I > 1 then aE ((false,()),())else D else D else bk (((),(),u2.1,u2.2.1,()),(x.2.1,x.2.2.1,()))
def apW:KY 71 (zb (bx f100) 0):=⟨2,lB 2 ⟨[(2,.aG 2 0),(3,.aG 3 0),(7,tI),(8,tI),(9,.lf (.aH .int 0)),(45,.lf (.aH .int 0)),(46,tI),(47,tI)],[(2,.az ia),(3,.az Vz)],[]⟩ [(1,lV),(4,VA)] Fo,lp [dW,apV]⟩
abbrev aeU:=((ah×ah×Int×Int×ah)×((Int×Int×Int×Int×ah)×(Int×(aa Int)×ah)×ah))
def JF(x:aeU):aj (aeU⊕(((Bool×ah)×(ah))⊕(((ah)×(ah))⊕Empty))):=letI u3:=x.1.2.2.2.1;letI u2:=x.2.2.1;letI u1:=(⟨x.2.1.1,x.2.1.2.1,x.2.1.2.2.1,x.2.1.2.2.2.1⟩:aF);(lC u1).bind λI=>bif u3<I then (C7 u1 (⟨u2.1,u2.2.1⟩:eP) u3).bind λC=>letI E:=(u2.2.1.take C.2).drop C.1;bif Nat.ble C.1 C.2&&Nat.ble C.2 u2.2.1.length then bY Fo (((),(),x.1.2.2.1,u3,E,E,(E.length:Int),0,()),(x.2.1,u2,())) (λO=>aE ((O.1.1,()),())) λD=>xG (((),(),D.1.2.2.1,(W6 (D.1.2.2.2.1+1)),()),(D.2.1,D.2.2.1,()))else none else bk ((),())
def apX:KY 71 (bx f100):=⟨0,lB 0 VA [(1,lV),(2,iW)] JF,lq [nA,⟨164,.v OX,Wj⟩] [apW]⟩
def JG(C:aF)(D:eP):aj (Bool):=(E8 C D.bL).bind λE=>bif (!E.2)then some false else bif ((D.map.length:Int) != (E.1.map.length:Int))then some false else bY JF (((),(),(W6 (C.rows-D.bL)),0,()),((C.cm,C.aI,C.rows,C.aQ,()),(D.bL,D.map,()),())) (λI=>some I.1.1) λO=>some true
def aeV:=cM NO cG (cF JG) 71 [VY] [apX] func100
def zi(C:aF)(D:eP):aj (aF):=(JG C D).bind λE=>bif (!E)then some (⟨0,0,0,0⟩:aF)else some (⟨C.cm,C.aI,(W6 (C.rows-D.bL)),C.aQ⟩:aF)
def Fp:=bD NO [(true,.gf,0)] (cF zi) 17 [aeV] func42
abbrev aeW:=((ah×(aa gN)×Int×Int×ah)×((aa Int)×ah))
def Fq(x:aeW):aj (aeW⊕(((ah×ah)×((aa Int)×ah))⊕Empty)):=letI u1:=x.1.2.2.2.1;letI C:=((),x.1.2.1,x.1.2.2.1,(W6 (u1+1)),());bif u1<x.1.2.2.1 then xI x.1.2.1 u1 λD=>bif D.open_ then bif bX (x.2.1.length+([u1]:aa Int).length)then xG (C,((x.2.1++([u1]:aa Int)),()))else none else xG (C,(x.2.1,()))else aE (((),()),(x.2.1,()))
def apY:KY 23 (bx f161):=⟨0,lB 0 ⟨[(3,.lf (.own 6)),(8,.lf (.aH .p9 0)),(9,tI),(10,tI)],[(6,.sl .int 2)],[]⟩ [(2,ac8)] Fq,lp []⟩
def A8(C:cg):aj ((aa Int)):=bR Fq (((),C.aI,(C.aI.length:Int),0,()),(([]:aa Int),())) λD=>some D.2.1
def OZ:=cM [(true,.kV)] vB (bP A8) 23 [] [apY] func161
abbrev aeX:=((ah×ah×(aa gN)×Int×Int×ah)×((Int×Int×Int×Int×ah)×((aa gN)×Int×ah)×ah))
def JH(x:aeX):aj (aeX⊕(((Bool×ah)×(ah))⊕(((ah×ah)×(((aa gN)×Int×ah)×ah))⊕Empty))):=letI u1:=x.1.2.2;letI D:=xG (((),(),u1.1,u1.2.1,(W6 (u1.2.2.1+1)),()),(x.2.1,x.2.2.1,()));bif u1.2.2.1<u1.2.1 then xI u1.1 u1.2.2.1 λC=>(cc C.row 0 (W6 (x.2.1.2.2.1-1))).bind λE=>bif (!E)then aE ((false,()),())else bif (!C.open_)then bif (C.row != 0)then aE ((false,()),())else D else D else bk (((),()),(x.2.2.1,()))
def apZ:KY 58 (bx f97):=⟨0,lB 0 ⟨[(2,.aG 2 0),(3,.aG 3 0),(25,.lf (.aH .p9 0)),(26,tI),(27,tI)],[(2,.az ia),(3,.az NL)],[]⟩ [(1,lV),(2,⟨[(3,.aG 3 0)],[(3,.az NL)],[]⟩)] JH,lp [dW]⟩
def JI(C:aF)(D:cg):aj (Bool):=(qI C).bind λI=>bif (!I)then some false else (lC C).bind λO=>bif ((D.aI.length:Int) != O)then some false else (cc D.aR 0 2).bind λT=>bif (!T)then some false else bY JH (((),(),D.aI,(D.aI.length:Int),0,()),((C.cm,C.aI,C.rows,C.aQ,()),(D.aI,D.aR,()),())) (λU=>some U.1.1) λE=>bif (E.2.1.2.1 != 2)then some true else (A8 (⟨E.2.1.1,E.2.1.2.1⟩:cg)).bind λY=>some ((Y.length:Int)==0)
def aeY:=cM [(true,.gf),(true,.kV)] cG (cF JI) 58 [nA,dW,uc,OZ] [apZ] func97
def zj(C:Int):aj (Bool):=(cc C 1 5).bind λD=>some D
def O0:=bD ny cG (bP zj) 5 [dW] func206
def C8(I:aF)(E:Int):aj (aT×Bool):=letI u1:=W6 (E.tdiv 9);letI C:=W6 ((E.tmod 9)+1);(lC I).bind λD=>bif u1<D then (zj C).bind λO=>some ((⟨C,u1,0,0⟩:aT),((decide (u1<D))==O))else (zj C).bind λT=>some ((⟨C,0,0,0⟩:aT),((decide (u1<D))==T))
def aeZ:=bD IG [(true,.Command,0),(false,.bool,0)] (cF C8) 27 [nA,O0] func162
abbrev ae0:=((ah×ah×(aa Int)×Int×Int×ah)×((Int×Int×Int×Int×ah)×((aa Int)×(aa Int)×ah)×ah))
def JJ(x:ae0):aj (ae0⊕(((Bool×ah)×(ah))⊕(((ah×ah)×(((aa Int)×(aa Int)×ah)×ah))⊕Empty))):=letI u1:=x.1.2.2;letI u2:=u1.2.2.1;letI C:=xG (((),(),u1.1,u1.2.1,(W6 (u2+1)),()),(x.2.1,x.2.2.1,()));bif u2<u1.2.1 then xI u1.1 u2 λD=>(C8 (⟨x.2.1.1,x.2.1.2.1,x.2.1.2.2.1,x.2.1.2.2.2.1⟩:aF) u2).bind λE=>(cc D (-1) 1000000).bind λI=>bif (!I)then aE ((false,()),())else bif (!E.2)then bif (D != (-1))then aE ((false,()),())else C else C else bk (((),()),(x.2.2.1,()))
def ap0:KY 82 (bx f98):=⟨0,lB 0 ⟨[(2,.aG 2 0),(3,.aG 3 0),(31,.lf (.aH .int 0)),(32,tI),(33,tI)],[(2,.az ia),(3,.az CX)],[]⟩ [(1,lV),(2,ade)] JJ,lp [dW,aeZ]⟩
abbrev ae1:=((ah×(aa Int)×Int×Int×ah)×(((aa Int)×(aa Int)×ah)×ah))
def JK(x:ae1):aj (ae1⊕(((Bool×ah)×(ah))⊕(((ah)×(ah))⊕Empty))):=letI u1:=x.1.2.2.2.1;letI C:=xG (((),x.1.2.1,x.1.2.2.1,(W6 (u1+1)),()),(x.2.1,()));bif u1<x.1.2.2.1 then xI x.1.2.1 u1 λD=>(cc D 0 1000000).bind λE=>bif (!E)then aE ((false,()),())else bif u1 > 0 then xI x.2.1.2.1 (W6 (u1-1)) λI=>bif I >= D then aE ((false,()),())else C else C else bk ((),())
def ap1:KY 82 (bx f98):=⟨2,lB 2 ⟨[(3,.aG 3 0),(57,.lf (.aH .int 0)),(58,tI),(59,tI)],[(3,.az CX)],[]⟩ [(1,lV),(4,iW)] JK,lp [dW]⟩
def Fs(C:aF)(D:ef):aj (Bool):=(qI C).bind λI=>bif (!I)then some false else (lC C).bind λO=>bif ((D.last.length:Int) != (W6 (9*(W6 (O+1)))))then some false else bif (D.bg.length:Int) > 4 then some false else bY JJ (((),(),D.last,(D.last.length:Int),0,()),((C.cm,C.aI,C.rows,C.aQ,()),(D.last,D.bg,()),())) (λT=>some T.1.1) λE=>bY JK (((),E.2.1.2.1,(E.2.1.2.1.length:Int),0,()),(E.2.1,())) (λU=>some U.1.1) λY=>some true
def Wl:=cM [(true,.gf),(true,.oE)] cG (cF Fs) 82 [nA,uc] [ap0,ap1] func98
abbrev ae2:=((ah×(aa bO)×Int×Int×ah)×(((aa bO)×(aa Int)×(aa Int)×ah)×ah))
def JL(x:ae2):aj (ae2⊕(((Bool×ah)×(ah))⊕(((ah×ah)×(((aa bO)×(aa Int)×(aa Int)×ah)×ah))⊕Empty))):=letI C:=x.1.2.2;bif C.2.1<C.1 then xI x.1.2.1 C.2.1 λD=>(wV D.symbols 11).bind λE=>bif (!E)then aE ((false,()),())else xG (((),x.1.2.1,C.1,(W6 (C.2.1+1)),()),(x.2.1,()))else bk (((),()),(x.2.1,()))
def ap2:KY 74 (bx f99):=⟨0,lB 0 ⟨[(3,.aG 3 0),(40,.lf (.aH .Cell 0)),(41,tI),(42,tI)],ID,[]⟩ [(1,lV),(2,ado)] JL,lp [Jv]⟩
abbrev ae3:=((ah×Int×Int×ah)×(((aa bO)×(aa Int)×(aa Int)×ah)×ah))
def JM(x:ae3):aj (ae3⊕(((Bool×ah)×(ah))⊕(((ah)×(ah))⊕Empty))):=letI C:=x.1.2.2.1;bif C<x.1.2.1 then xI x.2.1.2.1 C λD=>(cc D 0 100000).bind λE=>bif (!E)then aE ((false,()),())else xI x.2.1.2.2.1 C λI=>(cc I 0 100000).bind λO=>bif (!O)then aE ((false,()),())else xG (((),x.1.2.1,(W6 (C+1)),()),(x.2.1,()))else bk ((),())
def ap3:KY 74 (bx f99):=⟨2,lB 2 ⟨[(3,.aG 3 0),(53,tI),(54,tI)],ID,[]⟩ [(1,lV),(4,iW)] JM,lp [dW]⟩
def C9(D:aF)(C:cL):aj (Bool):=(lC D).bind λE=>(qI D).bind λO=>bif (!O)then some false else (ud D).bind λT=>bif ((C.cells.length:Int) != T)then some false else bif ((C.bh.length:Int) != (W6 (E*D.rows)))then some false else bif ((C.aY.length:Int) != (W6 (E*D.rows)))then some false else bY JL (((),C.cells,(C.cells.length:Int),0,()),((C.cells,C.bh,C.aY,()),())) (λU=>some U.1.1) λI=>bY JM (((),(I.2.1.2.1.length:Int),0,()),(I.2.1,())) (λY=>some Y.1.1) λZ=>some true
def Wm:=cM [(true,.gf),(true,.Array)] cG (cF C9) 74 [nA,Fe,uc] [ap2,ap3] func99
def zk(C:aF)(D:aO):aj (Bool):=(qI C).bind λE=>bif E then (lC C).bind λI=>(cc D.ay 0 (W6 (I-1))).bind λO=>bif O then (cc D.row 0 (W6 (C.rows-1))).bind λT=>bif T then (cc D.bZ 0 (W6 (C.aQ-1))).bind λU=>some U else some false else some false else some false
def JN:=bD NQ cG (cF zk) 31 [nA,dW,uc] func143
abbrev ae4:=((ah×(aa Int)×Int×Int×ah)×(((aa Int)×Int×Bool×ah)×ah))
def JO(x:ae4):aj (ae4⊕(((Bool×ah)×(ah))⊕(((ah×ah)×(((aa Int)×Int×Bool×ah)×ah))⊕Empty))):=letI C:=x.1.2.2;bif C.2.1<C.1 then xI x.1.2.1 C.2.1 λD=>(cc D (-2) 5).bind λE=>bif (!E)then aE ((false,()),())else xG (((),x.1.2.1,C.1,(W6 (C.2.1+1)),()),(x.2.1,()))else bk (((),()),(x.2.1,()))
def ap4:KY 25 (bx f166):=⟨0,lB 0 ⟨[(1,.aG 1 0),(6,.lf (.aH .int 0)),(7,tI),(8,tI)],[(1,.az IE)],[]⟩ [(1,oU),(2,adf)] JO,lp [dW]⟩
def zl(C:dI):aj (Bool):=bY JO (((),C.aB,(C.aB.length:Int),0,()),((C.aB,C.wait,C.dP,()),())) (λE=>some E.1.1) λD=>(cc (D.2.1.1.length:Int) 1 8).bind λI=>bif I then (cc D.2.1.2.1 1 10000).bind λO=>some O else some false
def Ft:=cM [(true,.kW)] cG (bP zl) 25 [dW] [ap4] func166
abbrev ae5:=(((aa Int)×Int×Int×Int×ah)×(ah))
def JP(x:ae5):aj (ae5⊕(((Int×ah)×(ah))⊕(((ah)×(ah))⊕Empty))):=letI C:=x.1.2.2.2.1;bif C<x.1.2.2.1 then xI x.1.1 C λD=>bif (x.1.2.1==D)then aE ((C,()),())else xG ((x.1.1,x.1.2.1,x.1.2.2.1,(W6 (C+1)),()),())else bk ((),())
def ap5:KY 19 (bx f207):=⟨0,lB 0 ⟨[(0,.lf (.aH .int 0)),(1,tI),(7,tI),(8,tI)],[],[]⟩ [(1,zd),(2,iW)] JP,lp []⟩
def Da(C:aa Int)(D:Int):aj (Int):=(iter JP bq ((C,D,(C.length:Int),0,()),())).bind (Sum.elim (λE=>some E.1.1) (Sum.elim (λI=>some (-1)) (λz=>nomatch z)))
def Wn:=cM EX fV (cF Da) 19 [] [ap5] func207
abbrev ae6:=((ah×(aa Int)×Int×Int×ah)×(((aa Int)×(aa Int)×Int×ah)×ah))
def JQ(x:ae6):aj (ae6⊕(((Bool×ah)×(ah))⊕(((ah)×(ah))⊕Empty))):=letI u3:=aE ((false,()),());letI u2:=x.1.2.2.2.1;letI u1:=xG (((),x.1.2.1,x.1.2.2.1,(W6 (u2+1)),()),(x.2.1,()));bif u2<x.1.2.2.1 then xI x.1.2.1 u2 λC=>letI D:=bif (C != (-1))then (Da x.2.1.1 C).bind λE=>bif (E != u2)then u3 else u1 else u1;(cc C (-1) 15).bind λI=>bif (!I)then u3 else xI x.2.1.2.1 u2 λO=>(cc O x.2.1.2.2.1 100000).bind λT=>bif (!T)then u3 else bif (C==(-1))then xI x.2.1.2.1 u2 λU=>bif (U != 0)then u3 else D else D else bk ((),())
def ap6:KY 72 (bx f167):=⟨0,lB 0 ⟨[(1,.aG 1 0),(26,.lf (.aH .int 0)),(27,tI),(28,tI)],VB,[]⟩ [(1,oU),(2,iW)] JQ,lp [dW,Wn]⟩
def A9(C:cI):aj (Bool):=letI D:=(C.rows.length:Int);(cc D 1 16).bind λE=>bif (!E)then some false else bif ((C.counts.length:Int) != D)then some false else (cc C.eJ 0 100000).bind λI=>bif (!I)then some false else bY JQ (((),C.rows,D,0,()),((C.rows,C.counts,C.eJ,()),())) (λO=>some O.1.1) λT=>some true
def ae7:=cM [(true,.mh)] cG (bP A9) 72 [dW] [ap6] func167
abbrev ae8:=(((aa aO)×ah×Int×Int×ah)×((Int×Int×Int×ah)×ah))
def JR(x:ae8):aj (ae8⊕(((Int×ah)×(ah))⊕(((ah)×(ah))⊕Empty))):=letI C:=x.1.2.2.2.1;bif C<x.1.2.2.1 then xI x.1.1 C λD=>bif ((x.2.1.1==D.ay)&&((x.2.1.2.1==D.row)&&((x.2.1.2.2.1==D.bZ)&&true)))then aE ((C,()),())else xG ((x.1.1,(),x.1.2.2.1,(W6 (C+1)),()),(x.2.1,()))else bk ((),())
def ap7:KY 19 (bx f168):=⟨0,lB 0 ⟨[(0,.lf (.aH .Addr 0)),(3,.aG 3 0),(7,tI),(8,tI)],[(3,.az VD)],[]⟩ [(1,zd),(2,iW)] JR,lp []⟩
def Fu(D:aa aO)(C:aO):aj (Int):=(iter JR bq ((D,(),(D.length:Int),0,()),((C.ay,C.row,C.bZ,()),()))).bind (Sum.elim (λE=>some E.1.1) (Sum.elim (λI=>some (-1)) (λz=>nomatch z)))
def ae9:=cM VE fV (cF Fu) 19 [] [ap7] func168
abbrev afa:=((ah×ah×Int×Int×ah)×(ax×(Int×Int×Int×Int×ah)×ah))
def O1(x:afa):aj (afa⊕(((Bool×ah)×(ah))⊕(((ah×ah×ah)×(ax×(Int×Int×Int×Int×ah)×ah))⊕Empty))):=letI C:=x.1.2.2.2.1;bif C<x.1.2.2.1 then xI x.2.1.bA C λD=>(A9 D).bind λE=>bif (!E)then aE ((false,()),())else xI x.2.1.guard C λI=>(cc I 3 1000).bind λO=>bif (!O)then aE ((false,()),())else xG (((),(),x.1.2.2.1,(W6 (C+1)),()),(x.2.1,x.2.2.1,()))else bk (((),(),()),(x.2.1,x.2.2.1,()))
def ap8:KY 94 (bx f101):=⟨0,lB 0 ⟨[(1,.aG 1 0),(3,.aG 3 0),(47,tI),(48,tI)],VF,[]⟩ [(1,oU),(2,⟨[(1,.aG 1 0),(3,.aG 3 0)],VF,[]⟩)] O1,lp [dW,ae7]⟩
abbrev afb:=((ah×ah×(aa aO)×Int×Int×ah)×(ax×(Int×Int×Int×Int×ah)×ah))
def O2(x:afb):aj (afb⊕(((Bool×ah)×(ah))⊕(((ah)×(ah))⊕Empty))):=letI u2:=x.2.2.1;letI u1:=aE ((false,()),());letI C:=x.1.2.2;letI u3:=C.2.2.1;bif u3<C.2.1 then xI C.1 u3 λD=>(zk (⟨u2.1,u2.2.1,u2.2.2.1,u2.2.2.2.1⟩:aF) D).bind λE=>bif (!E)then u1 else bif (D.bZ != 0)then u1 else (Fu x.2.1.pending D).bind λI=>bif (I != u3)then u1 else xG (((),(),C.1,C.2.1,(W6 (u3+1)),()),(x.2.1,u2,()))else bk ((),())
def ap9:KY 94 (bx f101):=⟨2,lB 2 ⟨[(1,.aG 1 0),(3,.aG 3 0),(69,.lf (.aH .Addr 0)),(70,tI),(71,tI)],VF,[]⟩ [(1,oU),(4,iW)] O2,lp [JN,ae9]⟩
def O3(C:ax):aj (Bool):=(lC C.config.ak).bind λE=>(zl C.aD).bind λI=>bif (!I)then some false else bif ((C.aD.aB.length:Int) != E)then some false else bif ((C.bA.length:Int) != E)then some false else bif ((C.guard.length:Int) != E)then some false else bif (C.pending.length:Int) > 128 then some false else bY O1 (((),(),(C.bA.length:Int),0,()),(C,(C.config.ak.cm,C.config.ak.aI,C.config.ak.rows,C.config.ak.aQ,()),())) (λO=>some O.1.1) λD=>bY O2 (((),(),D.2.1.pending,(D.2.1.pending.length:Int),0,()),(D.2.1,D.2.2.1,())) (λT=>some T.1.1) λU=>some true
def aqa:=cM wQ cG (bP O3) 94 [nA,Ft] [ap8,ap9] func101
def JS(C D:aU):aj (Bool):=bif C.at_<D.at_ then some true else bif (C.at_==D.at_)then some (C.id<D.id)else some false
def afc:=bD [(true,.ez),(true,.ez)] cG (cF JS) 24 [] func106
def O4(E:Int)(C:aU):aj (Bool):=letI D:=(cc C.at_ 0 1000000).bind λI=>some I;(cc C.id 1 100000).bind λO=>bif O then (cc C.eG 0 3).bind λT=>bif T then bif C.line >= 0 then bif C.line<E then (C4 C.data).bind λU=>bif U then bif C.write then D else bif (C.data==0)then D else some false else some false else some false else some false else some false else some false
def aqb:=bD [(false,.int),(true,.ez)] cG (cF O4) 43 [dW,V4] func169
abbrev afd:=((Int×(aa aU)×ah×(aa aU)×Int×Int×(aa aU)×Int×Int×ah)×((Int×Int×Int×Bool×Int×Int×ah)×ah))
def Fv(x:afd):aj (afd⊕(((Bool×ah)×(ah))⊕(((Int×(aa aU)×(aa aU)×Int×Int×ah)×(ah))⊕Empty))):=letI C:=x.1.2.2.2.2;letI u1:=C.2.2;bif u1.2.2.1<u1.2.1 then xI u1.1 u1.2.2.1 λD=>bif (D.id==x.2.1.1)then aE ((false,()),())else xG ((x.1.1,x.1.2.1,(),x.1.2.2.2.1,C.1,C.2.1,u1.1,u1.2.1,(W6 (u1.2.2.1+1)),()),(x.2.1,()))else bk ((x.1.1,x.1.2.1,x.1.2.2.2.1,C.1,C.2.1,()),())
def afe:KY 52 (zb (bx f102) 0):=⟨2,lB 2 ⟨[(0,tI),(1,.lf (.aH .ez 0)),(6,.aG 6 0),(9,.lf (.aH .ez 0)),(10,tI),(11,tI),(36,.lf (.aH .ez 0)),(37,tI),(38,tI)],[(6,.az acN)],[]⟩ [(1,lV),(4,acW)] Fv,lp []⟩
abbrev aff:=((Int×(aa aU)×(aa aU)×Int×Int×ah)×(ah))
def JT(x:aff):aj (aff⊕(((Bool×ah)×(ah))⊕((((aa aU)×ah)×(ah))⊕Empty))):=letI u3:=x.1.2;letI u1:=u3.2.2.2.1;letI u2:=(u3.1.take u1.toNat).drop (0:Int).toNat;bif u1<u3.2.2.1 then xI u3.2.1 u1 λC=>letI E:=if 0 <= (0:Int)/\0 <= u1/\u1 <= (u3.1.length:Int)then bY Fv ((x.1.1,u3.1,(),u3.2.1,u3.2.2.1,u1,u2,(u2.length:Int),0,()),((C.id,C.eG,C.line,C.write,C.data,C.at_,()),())) (λI=>aE ((I.1.1,()),())) λD=>xG ((D.1.1,D.1.2.1,D.1.2.2.1,D.1.2.2.2.1,(W6 (D.1.2.2.2.2.1+1)),()),())else none;(O4 x.1.1 C).bind λO=>bif (!O)then aE ((false,()),())else bif u1 > 0 then xI u3.1 (W6 (u1-1)) λT=>(JS T C).bind λU=>bif (!U)then aE ((false,()),())else E else E else bk ((u3.1,()),())
def aqc:KY 52 (bx f102):=⟨0,lB 0 acW [(1,lV),(2,⟨[(1,.lf (.aH .ez 0))],[],[]⟩)] JT,lq [afc,aqb] [afe,afe]⟩
def Db(D:Int)(C:aa aU):aj (Bool):=bY JT ((D,C,C,(C.length:Int),0,()),()) (λE=>some E.1.1) λI=>some ((I.1.1.length:Int) <= 12)
def afg:=cM [(false,.int),(false,(.sl .ez))] cG (cF Db) 52 [] [aqc] func102
def Dc(C:iF):aj (Bool):=(cc C.state 0 2).bind λD=>bif D then (cc C.since 0 1000000).bind λE=>bif E then (cc C.idle 0 1000000).bind λI=>some I else some false else some false
def O5:=bD [(true,.Power)] cG (bP Dc) 16 [dW] func104
abbrev afh:=(((aa cr)×ah×(aa cr)×Int×Int×(aa cr)×Int×Int×ah)×((Int×Int×Int×ah)×ah))
def Fw(x:afh):aj (afh⊕(((Bool×ah)×(ah))⊕((((aa cr)×(aa cr)×Int×Int×ah)×(ah))⊕Empty))):=letI u2:=x.1.2.2;letI u1:=u2.2.2;letI C:=xG ((x.1.1,(),u2.1,u2.2.1,u1.1,u1.2.1,u1.2.2.1,(W6 (u1.2.2.2.1+1)),()),(x.2.1,()));bif u1.2.2.2.1<u1.2.2.1 then xI u1.2.1 u1.2.2.2.1 λD=>bif (x.2.1.1==D.line)then bif (x.2.1.2.1==D.code)then aE ((false,()),())else C else C else bk ((x.1.1,u2.1,u2.2.1,u1.1,()),())
def afi:KY 59 (zb (bx f105) 0):=⟨2,lB 2 ⟨[(0,.lf (.aH .iG 0)),(4,.aG 4 0),(7,.lf (.aH .iG 0)),(8,tI),(9,tI),(36,.lf (.aH .iG 0)),(37,tI),(38,tI)],[(4,.az VD)],[]⟩ [(1,oU),(4,acY)] Fw,lp []⟩
abbrev afj:=(((aa cr)×(aa cr)×Int×Int×ah)×(ah))
def JU(x:afj):aj (afj⊕(((Bool×ah)×(ah))⊕((((aa cr)×ah)×(ah))⊕Empty))):=letI u3:=aE ((false,()),());letI u1:=x.1.2.2.2.1;letI u2:=(x.1.1.take u1.toNat).drop (0:Int).toNat;bif u1<x.1.2.2.1 then xI x.1.2.1 u1 λC=>letI E:=(cc C.times 1 999).bind λI=>bif (!I)then u3 else if 0 <= (0:Int)/\0 <= u1/\u1 <= (x.1.1.length:Int)then bY Fw ((x.1.1,(),x.1.2.1,x.1.2.2.1,u1,u2,(u2.length:Int),0,()),((C.line,C.code,C.times,()),())) (λO=>aE ((O.1.1,()),())) λD=>xG ((D.1.1,D.1.2.1,D.1.2.2.1,(W6 (D.1.2.2.2.1+1)),()),())else none;(cc C.line 0 1023).bind λT=>bif (!T)then u3 else bif (C.code != 1)then bif (C.code != 2)then u3 else E else E else bk ((x.1.1,()),())
def aqd:KY 59 (bx f105):=⟨0,lB 0 acY [(1,oU),(2,⟨[(0,.lf (.aH .iG 0))],[],[]⟩)] JU,lq [dW] [afi,afi]⟩
def JV(C:aa cr):aj (Bool):=bY JU ((C,C,(C.length:Int),0,()),()) (λD=>some D.1.1) λE=>some ((E.1.1.length:Int) <= 6)
def afk:=cM [(false,(.sl .iG))] cG (bP JV) 59 [] [aqd] func105
def Ba(C:ax):aj (Bool):=(qJ C.config C.box.bW).bind λD=>bif (!D)then some false else (qJ C.config C.box.next).bind λE=>bif (!E)then some false else (cc C.now 0 1000000).bind λI=>bif (!I)then some false else (JI C.config.ak C.aN).bind λO=>bif (!O)then some false else (Fs C.config.ak C.ready).bind λT=>bif (!T)then some false else (C9 C.config.ak C.array).bind λU=>bif (!U)then some false else (JG C.config.ak C.spare).bind λY=>bif (!Y)then some false else bif (C.spare.bL != C.config.bL)then some false else (O3 C).bind λZ=>bif (!Z)then some false else (zi C.config.ak C.spare).bind λy9=>(ud y9).bind λod=>(Db od C.queue).bind λjX=>bif (!jX)then some false else (Fb C.shares).bind λoW=>bif (!oW)then some false else bif ((C.shares.length:Int) != 4)then some false else (C3 C.drain).bind λlW=>bif (!lW)then some false else (Dc C.aR).bind λlA=>bif (!lA)then some false else bif (C.aR.state != C.aN.aR)then some false else bif C.aR.since > C.now then some false else (cc C.dJ.every 1 100000).bind λkI=>bif kI then (cc C.dJ.wait 1 C.dJ.every).bind λmG=>bif mG then (ud C.config.ak).bind λqH=>(cc C.dJ.next 0 (W6 (qH-1))).bind λwR=>bif wR then (JV C.errors).bind λC1=>bif C1 then bif (C.trace.length:Int) <= 2000 then some ((C.bF.length:Int) <= 400)else some false else some false else some false else some false else some false
def JW:=bD wQ cG (bP Ba) 155 [V3,Fe,Fp,dW,V0,aeY,Wl,Wm,aeV,aqa,afg,OJ,O5,afk] func39
def JX(C:aa aU):aj ((aa aU)):=bif xZ C then some (xA C)else none
def aqe:=bD [(false,(.sl .ez))] [(false,(.sl .ez),2)] (bP JX) 6 [] func107
abbrev afl:=((Int×(aa aU)×ah×Int×ah)×((Int×Int×Int×Bool×Int×Int×ah)×ah))
def JY(x:afl):aj (afl⊕(((Int×(aa aU)×ah×Int×ah)×((Int×Int×Int×Bool×Int×Int×ah)×ah))⊕Empty)):=letI u2:=x.2.1;letI u1:=x.1.2.2.2.1;letI C:=aE ((x.1.1,x.1.2.1,(),u1,()),(u2,()));bif u1<(x.1.2.1.length:Int)then xI x.1.2.1 u1 λD=>(JS D (⟨u2.1,u2.2.1,u2.2.2.1,u2.2.2.2.1,u2.2.2.2.2.1,u2.2.2.2.2.2.1⟩:aU)).bind λE=>bif E then xG ((x.1.1,x.1.2.1,(),(W6 (u1+1)),()),(u2,()))else C else C
def aqf:KY 48 (bx f40):=⟨0,lB 0 acO [(2,acO)] JY,lp [afc]⟩
def O6(O:Int)(T:aa aU)(C:aU):aj ((aa aU)×Bool):=bR JY ((O,T,(),0,()),((C.id,C.eG,C.line,C.write,C.data,C.at_,()),())) λD=>letI u6:=D.2.1.2;letI u5:=D.1.2.1;letI u4:=(JX u5).bind λU=>some (U,false);letI u3:=D.1.2.2.2.1;letI u2:=(u5.length:Int);letI u1:=(u5.take u2.toNat).drop u3.toNat;letI E:=([(⟨D.2.1.1,u6.1,u6.2.1,u6.2.2.1,u6.2.2.2.1,u6.2.2.2.2.1⟩:aU)]:aa aU);if 0 <= (0:Int)/\0 <= u3/\u3 <= u2 then if 0 <= u3/\u3 <= u2/\u2 <= u2 then (JX ((u5.take u3.toNat).drop (0:Int).toNat)).bind λI=>bif bX (I.length+E.length)then bif bX ((I++E).length+u1.length)then (Db D.1.1 u5).bind λY=>bif (!Y)then u4 else (Db D.1.1 ((I++E)++u1)).bind λZ=>bif (!Z)then u4 else some (((I++E)++u1),true)else none else none else none else none
def aqg:=cM [(false,.int),(false,(.sl .ez)),(true,.ez)] [(false,(.sl .ez),2),(false,.bool,0)] (iV O6) 48 [afg,aqe] [aqf] func40
def aqh:enters Tryz.prog 44/\ri Tryz.prog 44 (cj Tryz.prog f44 1 []):=Iz (EW 1 [] func44 trivial)
abbrev afm:=(((aa ey)×aU×Int×Int×ah)×(ah))
def JZ(x:afm):aj (afm⊕(((Int×ah)×(ah))⊕(((ah)×(ah))⊕Empty))):=letI C:=x.1.2.2.2.1;bif C<x.1.2.2.1 then xI x.1.1 C λD=>bif (D.id==x.1.2.1.id)then aE ((C,()),())else xG ((x.1.1,x.1.2.1,x.1.2.2.1,(W6 (C+1)),()),())else bk ((),())
def aqi:KY 19 (bx f108):=⟨0,lB 0 ⟨[(0,.lf (.aH .oF 0)),(1,.fc 44 .ez),(7,tI),(8,tI)],[],[]⟩ [(1,zd),(2,iW)] JZ,lp [⟨44,.i _,aqh⟩]⟩
def Wo(C:aa ey)(D:aU):aj (Int):=(iter JZ bq ((C,D,(C.length:Int),0,()),())).bind (Sum.elim (λE=>some E.1.1) (Sum.elim (λI=>some (-1)) (λz=>nomatch z)))
def aqj:KX:=⟨108,.q (iL [(false,(.sl .oF)),(false,(.B4 44))] [(false,.int,0)] λx=>Wo x.1 x.2.1),kq 19 [] [aqi] func108⟩
def O7(C:aa ey)(D:aU):aj (Bool):=(Wo C D).bind λE=>some (decide (E >= 0))
def aqk:KX:=⟨43,.q (iL [(false,(.sl .oF)),(false,(.B4 44))] [(false,.bool,0)] λx=>O7 x.1 x.2.1),kp 9 [aqj] func43⟩
def O8(C:ax)(D:aU):aj (ax×Bool):=letI E:=(⟨D.id,D.eG,D.line,D.write,D.data,C.now⟩:aU);(A7 C).bind λI=>letI u1:=some (I,false);(Ba C).bind λT=>bif (!T)then u1 else (zi C.config.ak C.spare).bind λU=>(ud U).bind λY=>(O6 Y C.queue E).bind λO=>(O7 C.bF E).bind λZ=>bif (!O.2)then u1 else bif Z then u1 else some ({I with queue:=O.1},true)
def aql:=bD [(true,.dV),(true,.ez)] IF (cF O8) 46 [JD,JW,aqg,Fe,Fp,aqk] func11
def aqm:bG:=⟨[(1,tI),(2,.aG 2 0),(4,.aG 4 0),(5,.aG 5 0),(28,tI),(29,tI)],acH,[]⟩
def aqn:aa (Nat×bG):=[(2,⟨[(1,tI),(2,.aG 2 0),(4,.aG 4 0),(5,.aG 5 0)],acH,[]⟩)]
abbrev afn:=((Int×ah×ah×ah×Int×Int×ah)×(((aa Int)×Int×Bool×ah)×(ah×Int×Bool×ah)×(ah×Int×Bool×ah)×(aa Int)×(aa Int)×ah))
def J0(x:afn):aj (afn⊕(((Int×ah×ah×ah×ah)×(((aa Int)×Int×Bool×ah)×(ah×Int×Bool×ah)×(ah×Int×Bool×ah)×(aa Int)×(aa Int)×ah))⊕Empty)):=letI u2:=((),x.2.2.1.2.1,x.2.2.1.2.2.1,());letI u1:=x.2.2.2;letI u4:=u1.2.2.1;letI u3:=((),u1.1.2.1,u1.1.2.2.1,());letI C:=x.1.2.2.2.2;bif C.2.1<C.1 then xL u4 C.2.1 λD=>letI u5:=W6 (D+1);xL u4 C.2.1 λE=>xG ((x.1.1,(),(),(),C.1,(W6 (C.2.1+1)),()),(x.2.1,u2,u3,u1.2.1,(u4.set C.2.1.toNat (if 5<u5 then 5 else u5)),()))else aE ((x.1.1,(),(),(),()),(x.2.1,u2,u3,u1.2.1,u4,()))
def aqo:KY 52 (bx f109):=⟨0,lB 0 aqm aqn J0,lp []⟩
def O9(D:dI)(O:Int):aj (dI):=(zh D).bind λC=>letI I:=W6 (C.wait-1);(zl D).bind λT=>bif (!T)then some C else (cc O 2 10000).bind λU=>bif (!U)then some C else bif I > 0 then some (⟨C.aB,I,C.dP⟩:dI)else bR J0 ((O,(),(),(),(C.aB.length:Int),0,()),((D.aB,D.wait,D.dP,()),((),0,false,()),((),I,C.dP,()),([]:aa Int),C.aB,())) λE=>letI u1:=E.2.2.2;bif E.2.1.2.2.1 then some (⟨u1.2.2.1,(W6 (E.1.1.tdiv 2)),u1.1.2.2.1⟩:dI)else some (⟨u1.2.2.1,E.1.1,u1.1.2.2.1⟩:dI)
def aqp:=cM [(true,.kW),(false,.int)] [(true,.kW,2)] (cF O9) 52 [dW,OV,Ft] [aqo] func109
def aqq:bG:=⟨[(2,tI),(6,.aG 6 0),(7,.aG 7 0),(23,tI),(24,tI)],zz8,[]⟩
def aqr:aa (Nat×bG):=[(2,⟨[(6,.aG 6 0),(7,.aG 7 0)],zz8,[]⟩)]
abbrev afo:=((Int×ah×ah×Int×Int×ah)×((ah×ah×ah×ah)×(ah×ah×ah×ah)×(aa bO)×(aa Int)×(aa Int)×(aa bO)×(aa Int)×(aa Int)×ah))
def J1(x:afo):aj (afo⊕(((ah×ah×ah)×((ah×ah×ah×ah)×(ah×ah×ah×ah)×(aa bO)×(aa Int)×(aa Int)×(aa bO)×(aa Int)×(aa Int)×ah))⊕Empty)):=letI u4:=x.2.2.2;letI u2:=((),(),(),());letI u1:=x.1.2.2.2.2.1;letI C:=u4.2.2;letI u5:=C.2.2;bif u1<x.1.2.2.2.1 then xL u5.1 u1 λD=>letI u3:=W6 (D+x.1.1);xL u5.1 u1 λE=>xG ((x.1.1,(),(),x.1.2.2.2.1,(W6 (u1+1)),()),(u2,u2,u4.1,u4.2.1,C.1,C.2.1,(u5.1.set u1.toNat (if 100000<u3 then 100000 else u3)),u5.2.1,()))else aE (((),(),()),(u2,u2,u4.1,u4.2.1,C.1,C.2.1,u5.1,u5.2.1,()))
def aqs:KY 41 (bx f110):=⟨0,lB 0 aqq aqr J1,lp []⟩
def J2(O:aF)(E:cL)(I:Int):aj (cL):=(C6 E).bind λC=>(C9 O E).bind λT=>bif (!T)then some C else (cc I 0 100000).bind λU=>bif (!U)then some C else bR J1 ((I,(),(),(C.bh.length:Int),0,()),(((),(),(),()),((),(),(),()),([]:aa bO),([]:aa Int),([]:aa Int),C.cells,C.bh,C.aY,())) λY=>letI D:=Y.2.2.2.2.2.2;some (⟨D.1,D.2.1,D.2.2.1⟩:cL)
def aqt:=cM [(true,.gf),(true,.Array),(false,.int)] [(true,.Array,4)] (iV J2) 41 [dW,Wa,Wm] [aqs] func110
def Fx(C:lM)(D:Int):aj (lM):=(C3 C).bind λE=>bif (!E)then some C else bif D >= C.high then some (⟨true,C.low,C.high⟩:lM)else bif D <= C.low then some (⟨false,C.low,C.high⟩:lM)else some C
def aqu:=bD [(true,.s8),(false,.int)] [(true,.s8,0)] (cF Fx) 22 [OJ] func111
abbrev afp:=((Bool×Int×(aa aU)×Int×Int×ah)×(ah))
def J3(x:afp):aj (afp⊕(((Int×ah)×(ah))⊕Empty)):=letI C:=x.1.2.2;letI u1:=C.2.2.1;bif u1<C.2.1 then xI C.1 u1 λD=>bif (D.write==x.1.1)then xG ((x.1.1,(W6 (x.1.2.1+1)),C.1,C.2.1,(W6 (u1+1)),()),())else xG ((x.1.1,x.1.2.1,C.1,C.2.1,(W6 (u1+1)),()),())else aE ((x.1.2.1,()),())
def aqv:KY 22 (bx f112):=⟨0,lB 0 ⟨[(1,tB),(5,tI),(8,.lf (.aH .ez 0)),(9,tI),(10,tI)],[],[]⟩ [(2,IJ)] J3,lp []⟩
def Fy(C:aa aU)(D:Bool):aj (Int):=bR J3 ((D,0,C,(C.length:Int),0,()),()) λE=>some E.1.1
def aqw:=cM [(false,(.sl .ez)),(false,.bool)] fV (cF Fy) 22 [] [aqv] func112
def Fz(C:iF)(E:Bool):aj (iF):=letI D:=W6 (C.idle+1);(Dc C).bind λI=>bif (!I)then some C else bif E then some (⟨C.state,C.since,0⟩:iF)else some (⟨C.state,C.since,(if 1000000<D then 1000000 else D)⟩:iF)
def aqx:=bD [(true,.Power),(false,.bool)] [(true,.Power,0)] (cF Fz) 18 [O5] func113
abbrev afq:=((ah×(aa Int)×Int×Int×ah)×((aa Int)×ah))
def J4(x:afq):aj (afq⊕(((ah×ah)×((aa Int)×ah))⊕Empty)):=letI u1:=x.1.2.2.2.1;letI C:=((),x.1.2.1,x.1.2.2.1,(W6 (u1+1)),());bif u1<x.1.2.2.1 then xI x.1.2.1 u1 λD=>bif D >= 4 then bif bX (x.2.1.length+([u1]:aa Int).length)then xG (C,((x.2.1++([u1]:aa Int)),()))else none else xG (C,(x.2.1,()))else aE (((),()),(x.2.1,()))
def aqy:KY 26 (bx f170):=⟨0,lB 0 ⟨[(3,.lf (.own 9)),(11,.lf (.aH .int 0)),(12,tI),(13,tI)],[(9,.sl .int 2)],[]⟩ [(2,⟨[(3,.lf (.own 9))],[(9,.sl .int 2)],[]⟩)] J4,lp []⟩
def FA(C:dI):aj ((aa Int)):=(zl C).bind λD=>bif (!D)then some ([])else bR J4 (((),C.aB,(C.aB.length:Int),0,()),(([]:aa Int),())) λE=>some E.2.1
def Wp:=cM [(true,.kW)] vB (bP FA) 26 [Ft] [aqy] func170
def Bb(C:ax):aj (Bool):=bif (C.queue.length:Int) > 0 then some true else bif (C.pending.length:Int) > 0 then some true else (FA C.aD).bind λD=>some ((D.length:Int) > 0)
def afr:=bD wQ cG (bP Bb) 20 [Wp] func114
end Go.Proofs.YtpigmalhjkekiaaGreat
