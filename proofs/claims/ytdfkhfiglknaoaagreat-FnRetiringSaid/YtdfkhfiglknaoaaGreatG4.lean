/-
  Functions of the program as plain functions of contents, and that the code computes them. Nothing here is a claim.
-/
import Derived.Test.YtdfkhfiglknaoaaGreatVZ
import Derived.Test.YtdfkhfiglknaoaaGreatRows
import Derived.Test.YtdfkhfiglknaoaaGreatG1
import Derived.Test.YtdfkhfiglknaoaaGreatG2
import Derived.Test.YtdfkhfiglknaoaaGreatG3
namespace Go.Proofs.YtdfkhfiglknaoaaGreat
set_option linter.defProp false
open Go.RowKit Go.Proofs.Tryz
set_option linter.unusedVariables false
set_option maxRecDepth 100000
def ahp(C:aa cB):ah ((aa cB)):=bif kM C then none else bif bE (([]:aa cB).length+C.length)then some (([]:aa cB)++C)else none
def YY(C:aa cB):ah ((aa cB)):=bif kM C then some []else ahp C
def ahq:jQ:=ir [(false,(.sl .iD))] [(false,(.sl .iD),2)] (λx=>YY x.1)
def auu:enters Tryz.prog 138/\jl Tryz.prog 138 ahq:=Dc 8 [] [] func138 trivial tW (t:=.iD) (g:=2) (F:=ahp) λx=>by kernel_rfl
def ahr(C:aa bW):ah ((aa bW)):=bif kM C then none else bif bE (([]:aa bW).length+C.length)then some (([]:aa bW)++C)else none
def YZ(C:aa bW):ah ((aa bW)):=bif kM C then some []else ahr C
def ahs:jQ:=ir [(false,(.sl .Event))] [(false,(.sl .Event),2)] (λx=>YZ x.1)
def auv:enters Tryz.prog 139/\jl Tryz.prog 139 ahs:=Dc 8 [] [] func139 trivial tW (t:=.Event) (g:=2) (F:=ahr) λx=>by kernel_rfl
def aht(C:aa dA):ah ((aa dA)):=bif kM C then none else bif bE (([]:aa dA).length+C.length)then some (([]:aa dA)++C)else none
def Y0(C:aa dA):ah ((aa dA)):=bif kM C then some []else aht C
def ahu:jQ:=ir [(false,(.sl .oB))] [(false,(.sl .oB),2)] (λx=>Y0 x.1)
def auw:enters Tryz.prog 140/\jl Tryz.prog 140 ahu:=Dc 8 [] [] func140 trivial tW (t:=.oB) (g:=2) (F:=aht) λx=>by kernel_rfl
def auy:bF:=⟨[(1,.aE 1 0),(2,.aE 2 0),(3,.aE 3 0),(36,.lf (.aI .jL 0)),(37,tI),(38,tI)],aeM,Qu⟩
def auz:aa (Nat×bF):=[(2,⟨afP,aeM,Qu⟩)]
abbrev ahv:=((af×af×af×(aa cq)×Int×Int×af)×(ax×ax×(Int×Int×Int×Int×Int×Int×Int×Int×Int×Int×Int×Int×Int×Int×Int×Int×Int×Int×Int×Int×Int×Int×Bool×Int×Int×Int×Int×Int×Int×Int×Int×Int×Int×af×Int×Int×Int×Int×Int×Int×Int×af×Int×Int×Bool×Int×af×Int×af×af×af×af×af×Int×af×af×Int×Bool×af×(aa Int)×(aa aM)×(aa aN)×(aa cD)×Bool×Int×Int×Int×Int×Int×Int×Int×Int×(aa cB)×(aa bW)×(aa dA)×af)×(aa Int)×(aa Int)×(aa di)×(aa Int)×(aa Int)×(aa bQ)×(aa Int)×(aa Int)×(aa Int)×(aa Int)×(aa cq)×af))
def GF(x:ahv):ah (ahv⊕(((af×af×af×af)×(ax×ax×(Int×Int×Int×Int×Int×Int×Int×Int×Int×Int×Int×Int×Int×Int×Int×Int×Int×Int×Int×Int×Int×Int×Bool×Int×Int×Int×Int×Int×Int×Int×Int×Int×Int×af×Int×Int×Int×Int×Int×Int×Int×af×Int×Int×Bool×Int×af×Int×af×af×af×af×af×Int×af×af×Int×Bool×af×(aa Int)×(aa aM)×(aa aN)×(aa cD)×Bool×Int×Int×Int×Int×Int×Int×Int×Int×(aa cB)×(aa bW)×(aa dA)×af)×(aa Int)×(aa Int)×(aa di)×(aa Int)×(aa Int)×(aa bQ)×(aa Int)×(aa Int)×(aa Int)×(aa Int)×(aa cq)×af))⊕Empty)):=letI E:=x.1.2.2.2;letI C:=x.2.2.2.2;letI I:=C.2.2.2.2;letI D:=I.2.2.2;bif E.2.2.1<E.2.1 then xI E.1 E.2.2.1 λU=>(GD U).bind λO=>bif bE (D.2.2.2.1.length+[O].length)then xG (((),(),(),E.1,E.2.1,(W6 (E.2.2.1+1)),()),(x.2.1,x.2.2.1,x.2.2.2.1,C.1,C.2.1,C.2.2.1,C.2.2.2.1,I.1,I.2.1,I.2.2.1,D.1,D.2.1,D.2.2.1,(D.2.2.2.1++[O]),()))else none else az (((),(),(),()),(x.2.1,x.2.2.1,x.2.2.2.1,C.1,C.2.1,C.2.2.1,C.2.2.2.1,I.1,I.2.1,I.2.2.1,D.1,D.2.1,D.2.2.1,D.2.2.2.1,()))
def auA:KY 79 (bf f70):=⟨0,lB 0 auy auz GF,lp [ahi]⟩
def Bh(C:ax):ah (ax):=(GA C.box).bind λD=>(GB C.aO).bind λy2=>(GC C.ready).bind λy3=>(DD C.array).bind λy4=>(Rg C.spare.map).bind λy5=>(Bg C.aS).bind λy6=>bw GF (((),(),(),C.bH,(C.bH.length:Int),0,()),((⟨⟨⟨0,0,0,0⟩,⟨0,0,0,0,0,0,0,0,0,0,0,0,0,0,0,0,0⟩,⟨0,false⟩,0,0,0,⟨0,0⟩⟩,⟨⟨0,0,0,0,0,([]:aa Int),⟨0,0⟩⟩,⟨0,0,0,0,0,([]:aa Int),⟨0,0⟩⟩,false⟩,0,⟨([]:aa di),0⟩,⟨([]:aa Int),([]:aa Int)⟩,⟨([]:aa bQ),([]:aa Int),([]:aa Int)⟩,⟨0,([]:aa Int)⟩,⟨([]:aa Int),0,false⟩,([]:aa cq),([]:aa Int),([]:aa aM),([]:aa aN),([]:aa cD),⟨false,0,0⟩,⟨0,0,0⟩,⟨0,0,0⟩,([]:aa cB),([]:aa bW),([]:aa dA)⟩:ax),C,(C.config.au.bK,C.config.au.aA,C.config.au.rows,C.config.au.aK,C.config.bY.lX,C.config.bY.rp,C.config.bY.iC,C.config.bY.o6,C.config.bY.lY,C.config.bY.jJ,C.config.bY.o7,C.config.bY.o8,C.config.bY.kj,C.config.bY.wr,C.config.bY.o9,C.config.bY.pg,C.config.bY.su,C.config.bY.pn,C.config.bY.qi,C.config.bY.xp,C.config.bY.xs,C.config.mapping.order,C.config.mapping.hash,C.config.bL,C.config.interval,C.config.gO,C.config.dg.bu,C.config.dg.bq,D.cr.eG,D.cr.cap,D.cr.eC,D.cr.low,D.cr.high,(),D.cr.de.down,D.cr.de.sleep,D.next.eG,D.next.cap,D.next.eC,D.next.low,D.next.high,(),D.next.de.down,D.next.de.sleep,D.waits,C.now,(),y2.aR,(),(),(),(),(),C.spare.bL,(),(),y6.wait,y6.dX,(),C.guard,C.pending,C.queue,C.shares,C.drain.on,C.drain.low,C.drain.high,C.aR.state,C.aR.since,C.aR.idle,C.cY.next,C.cY.every,C.cY.wait,C.errors,C.trace,C.bP,()),D.cr.weights,D.next.weights,y2.aA,y3.last,y3.aT,y4.cells,y4.bu,y4.bq,y5,y6.aJ,([]:aa cq),())) λjT=>letI I:=jT.2.2.1;letI E:=jT.2.2.2;letI u16:=E.1.2.2;letI u9:=E.2.2.2.2.2;letI zl:=u9.2.2.2;letI u7:=u16.2.2.2;letI zm:=u7.2.2.2;letI u2:=zm.2.2.2;letI U:=u2.2.2.2;letI Y:=U.2.2.2.2;letI xd:=Y.2.2.2.2;letI u0:=xd.2.2.2.2;letI mM:=u0.2.2.2.2;letI Bi:=mM.2.2.2.2;letI O:=Bi.2.2;letI u8:=O.2.2.2.2.2.2;letI DE:=u8.2.2.2.2.2.2.2.2.2.2.2;letI u1:=DE.2.2.2;letI u6:=u1.2.2.2.2.2.2.2;letI qP:=u6.2.2.2.2;(Rg I.guard).bind λfR=>(YV I.pending).bind λgC=>(YW I.queue).bind λgU=>(YX I.shares).bind λiH=>(YY I.errors).bind λiI=>(YZ I.trace).bind λny=>(Y0 I.bP).bind λkR=>some (⟨⟨⟨E.1.1,E.1.2.1,u16.1,u16.2.1⟩,⟨u16.2.2.1,u7.1,u7.2.1,u7.2.2.1,zm.1,zm.2.1,zm.2.2.1,u2.1,u2.2.1,u2.2.2.1,U.1,U.2.1,U.2.2.1,U.2.2.2.1,Y.1,Y.2.1,Y.2.2.1⟩,⟨Y.2.2.2.1,xd.1⟩,xd.2.1,xd.2.2.1,xd.2.2.2.1,⟨u0.1,u0.2.1⟩⟩,⟨⟨u0.2.2.1,u0.2.2.2.1,mM.1,mM.2.1,mM.2.2.1,E.2.1,⟨Bi.1,Bi.2.1⟩⟩,⟨O.1,O.2.1,O.2.2.1,O.2.2.2.1,O.2.2.2.2.1,E.2.2.1,⟨u8.1,u8.2.1⟩⟩,u8.2.2.1⟩,u8.2.2.2.1,⟨E.2.2.2.1,u8.2.2.2.2.2.1⟩,⟨E.2.2.2.2.1,u9.1⟩,⟨u9.2.1,u9.2.2.1,zl.1⟩,⟨DE.1,zl.2.1⟩,⟨zl.2.2.1,u1.1,u1.2.1⟩,zl.2.2.2.1,fR,gC,gU,iH,⟨u6.1,u6.2.1,u6.2.2.1⟩,⟨u6.2.2.2.1,qP.1,qP.2.1⟩,⟨qP.2.2.1,qP.2.2.2.1,qP.2.2.2.2.1⟩,iI,ny,kR⟩:ax)
def K9:=bZ wY [(true,.cK,4)] (bN Bh) 79 [YT,ahc,ahd,YU,⟨132,.p ahh,auq⟩,Rh,⟨135,.p ahk,aur⟩,⟨136,.p ahm,aus⟩,⟨137,.p aho,aut⟩,⟨138,.p ahq,auu⟩,⟨139,.p ahs,auv⟩,⟨140,.p ahu,auw⟩] [auA] func70
def Lb(C:aa aN):ah ((aa aN)):=bif xZ C then some (xA C)else none
def auB:=bB [(false,(.sl .dx))] [(false,(.sl .dx),2)] (bN Lb) 6 [] func191
abbrev ahw:=((Int×(aa aN)×af×Int×af)×((Int×Int×Int×Bool×Int×Int×af)×af))
def Lc(x:ahw):ah (ahw⊕(((Int×(aa aN)×af×Int×af)×((Int×Int×Int×Bool×Int×Int×af)×af))⊕Empty)):=letI C:=x.2.1;letI D:=x.1.2.2.2.1;letI E:=az ((x.1.1,x.1.2.1,(),D,()),(C,()));bif D<(x.1.2.1.length:Int)then xI x.1.2.1 D λI=>(K3 I (⟨C.1,C.2.1,C.2.2.1,C.2.2.2.1,C.2.2.2.2.1,C.2.2.2.2.2.1⟩:aN)).bind λO=>bif O then xG ((x.1.1,x.1.2.1,(),(W6 (D+1)),()),(C,()))else E else E
def auC:KY 48 (bf f141):=⟨0,lB 0 aeZ [(2,aeZ)] Lc,lp [ag3]⟩
def Ri(x0:Int)(x1:aa aN)(C:aN):ah ((aa aN)×Bool):=bw Lc ((x0,x1,(),0,()),((C.id,C.dM,C.line,C.write,C.data,C.at_,()),())) λD=>letI I:=D.2.1.2;letI O:=D.1.2.1;letI u4:=(Lb O).bind λy7=>some (y7,false);letI E:=D.1.2.2.2.1;letI U:=(O.length:Int);letI u1:=(O.take U.toNat).drop E.toNat;letI Y:=([(⟨D.2.1.1,I.1,I.2.1,I.2.2.1,I.2.2.2.1,I.2.2.2.2.1⟩:aN)]:aa aN);if 0 <= (0:Int)/\0 <= E/\E <= U then if 0 <= E/\E <= U/\U <= U then (Lb ((O.take E.toNat).drop (0:Int).toNat)).bind λy5=>bif bE (y5.length+Y.length)then bif bE ((y5++Y).length+u1.length)then (DB D.1.1 O).bind λy6=>bif (!y6)then u4 else (DB D.1.1 ((y5++Y)++u1)).bind λy8=>bif (!y8)then u4 else some (((y5++Y)++u1),true)else none else none else none else none
def auD:=bZ afG [(false,(.sl .dx),2),(false,.bool,0)] (fP Ri) 48 [ag7,auB] [auC] func141
def auE:enters Tryz.prog 143/\pN Tryz.prog 143 (cj Tryz.prog f143 1 []):=Db (A1 1 [] func143 trivial)
abbrev ahx:=(((aa dA)×aN×Int×Int×af)×(af))
def Ld(x:ahx):ah (ahx⊕(((Int×af)×(af))⊕(((af)×(af))⊕Empty))):=letI C:=x.1.2.2.2.1;bif C<x.1.2.2.1 then xI x.1.1 C λD=>bif (D.id==x.1.2.1.id)then az ((C,()),())else xG ((x.1.1,x.1.2.1,x.1.2.2.1,(W6 (C+1)),()),())else bx ((),())
def auF:KY 19 (bf f192):=⟨0,lB 0 ⟨[(0,.lf (.aI .oB 0)),(1,.fc 143 .dx),(7,tI),(8,tI)],[],[]⟩ [(1,wX),(2,ic)] Ld,lp [⟨143,.i _,auE⟩]⟩
def Y1(C:aa dA)(D:aN):ah (Int):=(iter Ld aV ((C,D,(C.length:Int),0,()),())).bind (Sum.elim (λE=>some E.1.1) (Sum.elim (λI=>some (-1)) (λz=>nomatch z)))
def auG:KX:=⟨192,.q (ir [(false,(.sl .oB)),(false,(.Cg 143))] [(false,.int,0)] λx=>Y1 x.1 x.2.1),kq 19 [] [auF] func192⟩
def Rj(C:aa dA)(D:aN):ah (Bool):=(Y1 C D).bind λE=>some (decide (E >= 0))
def auH:KX:=⟨142,.q (ir [(false,(.sl .oB)),(false,(.Cg 143))] [(false,.bool,0)] λx=>Rj x.1 x.2.1),kp 9 [auG] func142⟩
def Rk(C:ax)(D:aN):ah (ax×Bool):=letI I:=(⟨D.id,D.dM,D.line,D.write,D.data,C.now⟩:aN);(Bh C).bind λO=>letI E:=some (O,false);(zj C).bind λY=>bif (!Y)then E else (zi C.config.au C.spare).bind λy3=>(tZ y3).bind λy4=>(Ri y4 C.queue I).bind λU=>(Rj C.bP I).bind λy6=>bif (!U.2)then E else bif y6 then E else some ({O with queue:=U.1},true)
def auI:=bB [(true,.cK),(true,.dx)] J5 (bR Rk) 46 [Gz,K9,Gj,Gx,auD,auH] func71
def auJ:bF:=⟨[(1,tI),(2,.aE 2 0),(4,.aE 4 0),(5,.aE 5 0),(28,tI),(29,tI)],aeY,[]⟩
def auK:aa (Nat×bF):=[(2,⟨[(1,tI),(2,.aE 2 0),(4,.aE 4 0),(5,.aE 5 0)],aeY,[]⟩)]
abbrev ahy:=((Int×af×af×af×Int×Int×af)×(((aa Int)×Int×Bool×af)×(af×Int×Bool×af)×(af×Int×Bool×af)×(aa Int)×(aa Int)×af))
def Le(x:ahy):ah (ahy⊕(((Int×af×af×af×af)×(((aa Int)×Int×Bool×af)×(af×Int×Bool×af)×(af×Int×Bool×af)×(aa Int)×(aa Int)×af))⊕Empty)):=letI I:=((),x.2.2.1.2.1,x.2.2.1.2.2.1,());letI D:=x.2.2.2;letI E:=D.2.2.1;letI O:=((),D.1.2.1,D.1.2.2.1,());letI C:=x.1.2.2.2.2;bif C.2.1<C.1 then xL E C.2.1 λY=>letI U:=W6 (Y+1);xL E C.2.1 λe9=>xG ((x.1.1,(),(),(),C.1,(W6 (C.2.1+1)),()),(x.2.1,I,O,D.2.1,(E.set C.2.1.toNat (if 5<U then 5 else U)),()))else az ((x.1.1,(),(),(),()),(x.2.1,I,O,D.2.1,E,()))
def auL:KY 52 (bf f193):=⟨0,lB 0 auJ auK Le,lp []⟩
def Lg(D:c8)(U:Int):ah (c8):=(Bg D).bind λC=>letI O:=W6 (C.wait-1);(zh D).bind λY=>bif (!Y)then some C else (cz U 2 10000).bind λy3=>bif (!y3)then some C else bif O > 0 then some (⟨C.aJ,O,C.dX⟩:c8)else bw Le ((U,(),(),(),(C.aJ.length:Int),0,()),((D.aJ,D.wait,D.dX,()),((),0,false,()),((),O,C.dX,()),([]:aa Int),C.aJ,())) λE=>letI I:=E.2.2.2;bif E.2.1.2.2.1 then some (⟨I.2.2.1,(W6 (E.1.1.tdiv 2)),I.1.2.2.1⟩:c8)else some (⟨I.2.2.1,E.1.1,I.1.2.2.1⟩:c8)
def auM:=bZ Yt [(true,.ld,2)] (bR Lg) 52 [eH,Rh,Gt] [auL] func193
def auN:bF:=⟨[(2,tI),(6,.aE 6 0),(7,.aE 7 0),(23,tI),(24,tI)],aeS,[]⟩
def auO:aa (Nat×bF):=[(2,⟨[(6,.aE 6 0),(7,.aE 7 0)],aeS,[]⟩)]
abbrev ahz:=((Int×af×af×Int×Int×af)×((af×af×af×af)×(af×af×af×af)×(aa bQ)×(aa Int)×(aa Int)×(aa bQ)×(aa Int)×(aa Int)×af))
def Lh(x:ahz):ah (ahz⊕(((af×af×af)×((af×af×af×af)×(af×af×af×af)×(aa bQ)×(aa Int)×(aa Int)×(aa bQ)×(aa Int)×(aa Int)×af))⊕Empty)):=letI D:=x.2.2.2;letI O:=((),(),(),());letI E:=x.1.2.2.2.2.1;letI I:=D.2.2;letI C:=I.2.2;bif E<x.1.2.2.2.1 then xL C.1 E λY=>letI U:=W6 (Y+x.1.1);xL C.1 E λe9=>xG ((x.1.1,(),(),x.1.2.2.2.1,(W6 (E+1)),()),(O,O,D.1,D.2.1,I.1,I.2.1,(C.1.set E.toNat (if 100000<U then 100000 else U)),C.2.1,()))else az (((),(),()),(O,O,D.1,D.2.1,I.1,I.2.1,C.1,C.2.1,()))
def auP:KY 41 (bf f194):=⟨0,lB 0 auN auO Lh,lp []⟩
def GG(O:aG)(E:cJ)(I:Int):ah (cJ):=(DD E).bind λC=>(Dz O E).bind λU=>bif (!U)then some C else (cz I 0 100000).bind λY=>bif (!Y)then some C else bw Lh ((I,(),(),(C.bu.length:Int),0,()),(((),(),(),()),((),(),(),()),([]:aa bQ),([]:aa Int),([]:aa Int),C.cells,C.bu,C.bq,())) λjT=>letI D:=jT.2.2.2.2.2.2;some (⟨D.1,D.2.1,D.2.2.1⟩:cJ)
def auQ:=bZ [(true,.gd),(true,.Array),(false,.int)] [(true,.Array,4)] (fP GG) 41 [eH,YQ,YU] [auP] func194
def GH(C:jy)(D:Int):ah (jy):=(Du C).bind λE=>bif (!E)then some C else bif D >= C.high then some (⟨true,C.low,C.high⟩:jy)else bif D <= C.low then some (⟨false,C.low,C.high⟩:jy)else some C
def auR:=bB [(true,.qk),(false,.int)] [(true,.qk,0)] (bR GH) 22 [Q1] func195
abbrev ahA:=((Bool×Int×(aa aN)×Int×Int×af)×(af))
def Li(x:ahA):ah (ahA⊕(((Int×af)×(af))⊕Empty)):=letI C:=x.1.2.2;letI D:=C.2.2.1;bif D<C.2.1 then xI C.1 D λE=>bif (E.write==x.1.1)then xG ((x.1.1,(W6 (x.1.2.1+1)),C.1,C.2.1,(W6 (D+1)),()),())else xG ((x.1.1,x.1.2.1,C.1,C.2.1,(W6 (D+1)),()),())else az ((x.1.2.1,()),())
def auS:KY 22 (bf f196):=⟨0,lB 0 ⟨[(1,tB),(5,tI),(8,.lf (.aI .dx 0)),(9,tI),(10,tI)],[],[]⟩ [(2,wW)] Li,lp []⟩
def GI(C:aa aN)(D:Bool):ah (Int):=bw Li ((D,0,C,(C.length:Int),0,()),()) λE=>some E.1.1
def auT:=bZ [(false,(.sl .dx)),(false,.bool)] dS (bR GI) 22 [] [auS] func196
def GJ(C:fK)(E:Bool):ah (fK):=letI D:=W6 (C.idle+1);(DC C).bind λI=>bif (!I)then some C else bif E then some (⟨C.state,C.since,0⟩:fK)else some (⟨C.state,C.since,(if 1000000<D then 1000000 else D)⟩:fK)
def auU:=bB [(true,.Power),(false,.bool)] [(true,.Power,0)] (bR GJ) 18 [Rf] func197
abbrev ahB:=((af×(aa Int)×Int×Int×af)×((aa Int)×af))
def Lj(x:ahB):ah (ahB⊕(((af×af)×((aa Int)×af))⊕Empty)):=letI C:=x.1.2.2.2.1;letI D:=((),x.1.2.1,x.1.2.2.1,(W6 (C+1)),());bif C<x.1.2.2.1 then xI x.1.2.1 C λE=>bif E >= 4 then bif bE (x.2.1.length+([C]:aa Int).length)then xG (D,((x.2.1++([C]:aa Int)),()))else none else xG (D,(x.2.1,()))else az (((),()),(x.2.1,()))
def auV:KY 26 (bf f245):=⟨0,lB 0 ⟨[(3,.lf (.own 9)),(11,.lf (.aI .int 0)),(12,tI),(13,tI)],[(9,.sl .int 2)],[]⟩ [(2,⟨[(3,.lf (.own 9))],[(9,.sl .int 2)],[]⟩)] Lj,lp []⟩
def GK(C:c8):ah ((aa Int)):=(zh C).bind λD=>bif (!D)then some ([])else bw Lj (((),C.aJ,(C.aJ.length:Int),0,()),(([]:aa Int),())) λE=>some E.2.1
def Y2:=bZ F0 mL (bN GK) 26 [Gt] [auV] func245
def Bj(C:ax):ah (Bool):=bif (C.queue.length:Int) > 0 then some true else bif (C.pending.length:Int) > 0 then some true else (GK C.aS).bind λD=>some ((D.length:Int) > 0)
def ahC:=bB wY cy (bN Bj) 20 [Y2] func198
def Lk(C:iK)(E:Bool):ah (iK×Bool):=(GA C).bind λD=>bif (!E)then some (D,false)else bif (!C.waits)then some (D,false)else (xb C.next).bind λI=>some ((⟨I,D.next,false⟩:iK),true)
def auW:=bB [(true,.pq),(false,.bool)] FW (bR Lk) 23 [Q4,YT] func199
def zn(C:lZ)(D:Int):ah (lZ×Int):=letI E:=some (C,(-1));(cz C.every 1 100000).bind λI=>bif (!I)then E else (cz C.wait 1 C.every).bind λO=>bif (!O)then E else bif D<1 then E else (cz C.next 0 (W6 (D-1))).bind λU=>bif (!U)then E else bif (W6 (C.wait-1)) > 0 then some ((⟨C.next,C.every,(W6 (C.wait-1))⟩:lZ),(-1))else if D=0 then none else some ((⟨((W6 (C.next+1)).tmod D),C.every,C.every⟩:lZ),C.next)
def auX:=bB [(true,.sx),(false,.int)] [(true,.sx,0),(false,.int,0)] (bR zn) 52 [eH] func200
def Ro(D:aa Int):ah (Bool):=(Bc D).bind λC=>bif kM C then none else xL C (0:Int) λE=>bif (E==0)then xL C (1:Int) λI=>bif (I==0)then xL C (2:Int) λO=>some (O==0)else some false else some false
def auY:=bB pT cy (bN Ro) 26 [YN] func289
abbrev ahD:=((Int×Int×af)×(af))
def ahE(x:ahD):ah (ahD⊕(((Int×af)×(af))⊕(((af)×(af))⊕Empty))):=bif x.1.2.1<15 then (KH 2 x.1.2.1).bind λC=>bif (C==x.1.1)then az ((x.1.2.1,()),())else xG ((x.1.1,(W6 (x.1.2.1+1)),()),())else bx ((),())
def auZ:KY 13 (bf f290):=⟨0,lB 0 afN [(1,⟨[(2,tI)],[],[]⟩),(2,ic)] ahE,lp [agy]⟩
def Rp(C:Int):ah (Int):=bU ahE ((C,0,()),()) (λD=>some D.1.1) λE=>some (-1)
def au0:=bZ mb dS (bN Rp) 13 [] [auZ] func290
def Ll(I:aa Int):ah ((aa Int)×Int×Int):=letI C:=xA I;letI O:=some (C,2,(-1));(Bc I).bind λE=>bif kM E then none else bif xZ I then (Ro I).bind λY=>bif Y then some (C,0,(-1))else xL E (0:Int) λe5=>bif (e5 != 0)then xL E (1:Int) λe8=>bif (e8 != 0)then xL E (1:Int) λrN=>xL E (0:Int) λoO=>(Dx oO).bind λiI=>(kD rN iI).bind λU=>(Rp U).bind λD=>bif D<11 then xL E (1:Int) λDF=>xL E (2:Int) λGL=>(kD DF U).bind λpV=>bif (pV==GL)then xC C D (if h26:D.toNat<C.length then (let ua:=C[D.toNat]'h26;xL E (0:Int) λuc=>xC C D (if h32:D.toNat<C.length then (let KJ:=C[D.toNat]'h32;some ((C.set D.toNat (bits .xor .i64 ua uc)),1,D))else none))else none)else O else O else O else O else none
def ahF:=bB pT [(false,(.sl .int),2),(false,.int,0),(false,.int,0)] (bN Ll) 64 [YN,agD,KG,auY,au0] func246
abbrev ahG:=((Int×(aa Int)×Int×Int×af)×(af))
def Ln(x:ahG):ah (ahG⊕(((Int×af)×(af))⊕Empty)):=letI C:=x.1.2.2.2.1;bif C<x.1.2.2.1 then xI x.1.2.1 C λD=>if (W6 (4*C))<0 then none else xG (((bits .or .i64 x.1.1 (W6 (D*2 ^ (min (W6 (4*C)).toNat IntKind.i64.bits)))),x.1.2.1,x.1.2.2.1,(W6 (C+1)),()),())else az ((x.1.1,()),())
def au1:KY 25 (bf f291):=⟨0,lB 0 ⟨[(4,tI),(10,.lf (.aI .int 0)),(11,tI),(12,tI)],[],[]⟩ [(2,wX)] Ln,lp []⟩
def Rq(C:aa Int):ah (Int×Bool):=(w8 C 8).bind λD=>bif (!D)then some (0,false)else bw Ln ((0,C,(C.length:Int),0,()),()) λE=>some (E.1.1,true)
def au2:=bZ pT [(false,.int,0),(false,.bool,0)] (bN Rq) 25 [KF] [au1] func291
def Rr(D:aa Int):ah ((aa Int)):=letI C:=(D.length:Int);letI E:=(D.take C.toNat).drop (3:Int).toNat;(w8 D 11).bind λI=>bif (!I)then some ([])else if 0 <= (3:Int)/\3 <= C/\C <= C then bif xZ E then some (xA E)else none else none
def au3:=bB pT mL (bN Rr) 10 [KF] func292
def Rs(D:aa Int):ah (Int×Int×Int):=(Ll D).bind λC=>bif (C.2.1==2)then some (0,C.2.1,C.2.2)else (Rr C.1).bind λE=>(Rq E).bind λI=>some (I.1,C.2.1,C.2.2)
def au4:=bB pT [(false,.int,0),(false,.int,0),(false,.int,0)] (bN Rs) 29 [ahF,au2,au3] func247
def Lp(C:aa cB):ah ((aa cB)):=bif xZ C then some (xA C)else none
def au5:=bB [(false,(.sl .iD))] [(false,(.sl .iD),2)] (bN Lp) 6 [] func293
abbrev ahH:=((Int×Int×af×af×Int×Int×af)×((aa cB)×af))
def Lq(x:ahH):ah (ahH⊕(((af×Bool×af)×((aa cB)×af))⊕(((Int×Int×af×af)×((aa cB)×af))⊕Empty))):=letI C:=x.1.2.2.2.2;letI E:=xG ((x.1.1,x.1.2.1,(),(),C.1,(W6 (C.2.1+1)),()),(x.2.1,()));bif C.2.1<C.1 then xL x.2.1 C.2.1 λD=>letI I:=W6 (D.times+1);bif (D.line==x.1.1)then bif (D.code==x.1.2.1)then xL x.2.1 C.2.1 λO=>az (((),true,()),((x.2.1.set C.2.1.toNat (⟨O.line,O.code,(if 999<I then 999 else I)⟩:cB)),()))else E else E else bx ((x.1.1,x.1.2.1,(),()),(x.2.1,()))
def au6:KY 69 (bf f248):=⟨0,lB 0 aeW [(1,aft),(2,afk)] Lq,lp []⟩
abbrev ahI:=((Int×Int×af×af×Int×Int×af)×((aa cB)×af))
def Y3(x:ahI):ah (ahI⊕(((af×Bool×af)×((aa cB)×af))⊕(((Int×Int×af×af)×((aa cB)×af))⊕Empty))):=letI C:=x.1.2.2.2.2;letI E:=xG ((x.1.1,x.1.2.1,(),(),C.1,(W6 (C.2.1+1)),()),(x.2.1,()));bif C.2.1<C.1 then xL x.2.1 C.2.1 λD=>letI I:=W6 (D.times+1);bif (D.line==x.1.1)then bif (D.code==x.1.2.1)then xL x.2.1 C.2.1 λO=>az (((),true,()),((x.2.1.set C.2.1.toNat (⟨O.line,O.code,(if 999<I then 999 else I)⟩:cB)),()))else E else E else bx ((x.1.1,x.1.2.1,(),()),(x.2.1,()))
def au7:KY 69 (bf f248):=⟨0,lB 0 aeW [(1,aft),(2,afk)] Y3,lp []⟩
def Rt(x0:aa cB)(x1 Y:Int):ah ((aa cB)×Bool):=(Lp x0).bind λy1=>letI u5:=some (y1,false);letI u4:=((x1,Y,(),(),(y1.length:Int),0,()),(y1,()));(K6 x0).bind λy2=>bif (!y2)then u5 else (cz x1 0 1023).bind λy3=>bif (!y3)then u5 else bif (Y != 1)then bif (Y != 2)then u5 else bU Lq u4 (λjT=>some (jT.2.1,jT.1.2.1)) λC=>letI E:=(C.2.1.length:Int);letI O:=([(⟨C.1.1,C.1.2.1,1⟩:cB)]:aa cB);bif (E==6)then if 0 <= (1:Int)/\1 <= E/\E <= E then (Lp ((C.2.1.take (E.toNat)).drop ((1:Int).toNat))).bind λgC=>bif bE (gC.length+O.length)then some ((gC++O),true)else none else none else bif bE (C.2.1.length+O.length)then some ((C.2.1++O),true)else none else bU Y3 u4 (λRu=>some (Ru.2.1,Ru.1.2.1)) λD=>letI I:=(D.2.1.length:Int);letI U:=([(⟨D.1.1,D.1.2.1,1⟩:cB)]:aa cB);bif (I==6)then if 0 <= (1:Int)/\1 <= I/\I <= I then (Lp ((D.2.1.take (I.toNat)).drop ((1:Int).toNat))).bind λlK=>bif bE (lK.length+U.length)then some ((lK++U),true)else none else none else bif bE (D.2.1.length+U.length)then some ((D.2.1++U),true)else none
def au8:=bZ Yi [(false,(.sl .iD),2),(false,.bool,0)] (fP Rt) 69 [eH,ahb,au5] [au6,au7] func248
def zo(C:ax)(E D:Int):ah ((af)×(ax×af)):=bif (D != 0)then (Rt C.errors E D).bind λI=>some ((),({C with errors:=I.1},()))else some ((),(C,()))
def ahJ:=kQ Yl [] (fP zo) 21 [au8] func202
def DG(C:Int)(D:Bool)(E:Int):ah (Bool):=bif (!D)then some (C==0)else (cz C 0 (W6 (E-1))).bind λI=>some I
def au9:=bB [(false,.int),(false,.bool),(false,.int)] cy (fP DG) 15 [eH] func234
def Rw(C:Int):ah (Bool):=some (C==1)
def ava:=bB mb cy (bN Rw) 5 [] func235
def Rx(C:Int):ah (Bool):=bif (C==2)then some true else some (C==3)
def avb:=bB mb cy (bN Rx) 9 [] func236
def Y4(C:aF)(D E I:Int):ah (Bool):=(cz C.kind 1 9).bind λO=>bif O then (ze C.kind).bind λU=>(DG C.ay U D).bind λY=>bif Y then (Rw C.kind).bind λy4=>(DG C.row y4 E).bind λy5=>bif y5 then (Rx C.kind).bind λy6=>(DG C.bV y6 I).bind λy7=>some y7 else some false else some false else some false
def avc:=bB [(true,.Command),(false,.int),(false,.int),(false,.int)] cy (nq Y4) 39 [eH,Q9,au9,ava,avb] func177
def DH(C:aG)(D:aF):ah (Bool):=(oN C).bind λE=>bif E then (me C).bind λI=>(Y4 D I C.rows C.aK).bind λO=>some O else some false
def Ry:=bB Yu cy (bR DH) 17 [oa,rO,avc] func109
def Lr(U:aG)(D:bX)(C:aF):ah (Bool):=letI E:=D.aR==0;letI Y:=bif E then xI D.aA C.ay λe4=>some (!e4.open_)else some false;letI I:=bif E then xI D.aA C.ay λe6=>some e6.open_ else some false;letI O:=bif (C.kind==6)then some E else bif (C.kind==8)then bif E then (Be D).bind λy7=>some ((y7.length:Int)==0)else some false else bif (C.kind==7)then some (D.aR==1)else some (D.aR==2);letI u1:=bif (C.kind==2)then bif (C.kind==2)then I else O else bif (C.kind==3)then bif (C.kind==3)then I else O else bif (C.kind==4)then I else O;(KO U D).bind λy1=>bif (!y1)then some false else (DH U C).bind λy2=>bif (!y2)then some false else bif (C.kind==1)then bif (C.kind==1)then Y else u1 else bif (C.kind==5)then Y else u1
def ahK:=bB [(true,.gd),(true,.ji),(true,.Command)] cy (fP Lr) 75 [agL,Ry,Q8] func178
def Rz(C:cg)(D E:Int):ah (Int):=(let U:Bool -> ah (Int):=λI=>(let O:Bool -> ah (Int):=λj2=>bif j2 then some C.lX else (let Y:Bool -> ah (Int):=λj3=>bif j3 then some C.iC else (let vm:Bool -> ah (Int):=λj4=>bif j4 then some (W6 (C.iC+C.rp))else (let GM:Bool -> ah (Int):=λj5=>bif j5 then some C.kj else (let GN:Bool -> ah (Int):=λj6=>bif j6 then some (W6 (C.kj+C.rp))else (let Y5:Bool -> ah (Int):=λj7=>bif j7 then some C.wr else (let zp:Bool -> ah (Int):=λj8=>bif j8 then some (W6 (C.wr+C.rp))else (let Y6:Bool -> ah (Int):=λj9=>bif j9 then some C.rp else (let GO:Bool -> ah (Int):=λwZ=>bif wZ then some C.pn else some 0;bif (D==5)then (GO I)else (GO false));bif (D==4)then (Y6 I)else (Y6 false));bif (D==3)then (zp I)else (zp false));bif (D==3)then (Y5 (E==4))else (Y5 false));bif (D==2)then (GN I)else (GN false));bif (D==2)then (GM (E==4))else (GM false));bif (D==1)then (vm I)else (vm false));bif (D==1)then (Y (E==4))else (Y false));bif (D==1)then bif (E==2)then (O true)else (O (E==3))else (O false));bif (E==1)then (U true)else (U (E==5)))
def ahL:=bB [(true,.ko),(false,.int),(false,.int)] dS (fP Rz) 103 [] func239
def avd:enters Tryz.prog 287/\pN Tryz.prog 287 (ci Tryz.prog f287 1 []):=A1 1 [] func287 trivial
def RB(C:cg)(D E:Int)(I:Bool):ah (Int):=bif (D==7)then some C.xp else bif (D==9)then some C.xs else (let Y:Bool -> ah (Int):=λj1=>bif j1 then (let k3:Int -> ah (Int):=λj2=>some j2;bif I then (k3 C.lY)else (k3 C.o6))else (let O:Bool -> ah (Int):=λj4=>bif j4 then (let k6:Int -> ah (Int):=λj5=>some j5;bif I then (k6 C.o8)else (k6 C.o7))else (let rR:Bool -> ah (Int):=λj7=>bif j7 then (let k9:Int -> ah (Int):=λj8=>some j8;bif I then (k9 C.pg)else (k9 C.o9))else (let Bk:Bool -> ah (Int):=λwZ=>bif wZ then some C.su else (let vp:Bool -> ah (Int):=λF5=>bif F5 then some C.lY else (let Bl:Bool -> ah (Int):=λvn=>bif vn then some C.kj else (let vm:Bool -> ah (Int):=λw5=>bif w5 then some C.wr else bif (E==8)then (Rz C D 1).bind λiH=>some iH else (let U:Bool -> ah (Int):=λzb=>bif zb then some C.qi else some 0;letI u0:=bif (D==8)then (U (E==9))else (U false);bif (D==6)then bif (E==7)then (U true)else u0 else u0);bif (D==3)then (vm (E==6))else (vm false));bif (D==2)then (Bl (E==6))else (Bl false));bif (D==5)then (vp (E==5))else (vp false));bif (D==2)then (Bk (E==3))else (Bk false));bif (D==3)then (rR (E==2))else (rR false));letI u1:=bif (D==3)then (O (E==3))else (O false);bif (D==2)then bif (E==2)then (O true)else u1 else u1);bif (D==1)then (Y (E==1))else (Y false))
def ave:=bB afx dS (nq RB) 126 [ahL,⟨287,.i _,avd⟩] func237
def Ls(C:aG)(D:Int):ah (Int):=(me C).bind λE=>(cz D 0 (W6 (E-1))).bind λI=>bif (!I)then some (-1)else if C.aA=0 then none else some (W6 (D.tdiv C.aA))
def avf:=bB J7 dS (bR Ls) 15 [oa,eH] func238
def Bm(Y:aG)(O:cg)(C D:aF):ah (Int):=letI u3:=Rz O C.kind D.kind;letI u0:=RB O C.kind D.kind false;(ze C.kind).bind λy1=>bif y1 then (ze D.kind).bind λU=>bif U then (Ls Y C.ay).bind λy3=>(Ls Y D.ay).bind λy4=>(RB O C.kind D.kind (y3==y4)).bind λE=>letI u1:=some (if E > 1 then E else 1);bif U then bif (C.ay==D.ay)then u3.bind λy6=>some (if y6 > (if E > 1 then E else 1)then y6 else (if E > 1 then E else 1))else u1 else u1 else u0.bind λI=>letI u2:=some (if I > 1 then I else 1);bif U then bif (C.ay==D.ay)then u3.bind λy8=>some (if y8 > (if I > 1 then I else 1)then y8 else (if I > 1 then I else 1))else u2 else u2 else u0.bind λy9=>some (if y9 > 1 then y9 else 1)
def ahM:=bB afy dS (nq Bm) 55 [Q9,ave,avf,ahL] func179
end Go.Proofs.YtdfkhfiglknaoaaGreat
