/-
  Functions of the program as plain functions of contents, and that the code computes them. Nothing here is a claim.
-/
import Derived.Test.YtglnbhiaknohlaaGreatVZ
import Derived.Test.YtglnbhiaknohlaaGreatRows
import Derived.Test.YtglnbhiaknohlaaGreatRep
import Derived.Test.YtglnbhiaknohlaaGreatG1
import Derived.Test.YtglnbhiaknohlaaGreatG2
import Derived.Test.YtglnbhiaknohlaaGreatG3
import Derived.Test.YtglnbhiaknohlaaGreatG4
import Derived.Test.YtglnbhiaknohlaaGreatG5
import Derived.Test.YtglnbhiaknohlaaGreatG6
namespace Go.Proofs.YtglnbhiaknohlaaGreat
set_option linter.defProp false
open Go.RowKit Go.Proofs.Tryz
set_option linter.unusedVariables false
set_option maxRecDepth 100000
def K3(J:aO)(E:cM)(C:aH):aj (cM×Bool):=(Fx E).bind λD=>letI I:=some ((⟨D.aC,0⟩:cM),true);(KZ J E C).bind λL=>bif (!L)then some (D,false)else bif (C.kind==1)then xL D.aC C.ax λO=>some ((⟨(D.aC.set C.ax.toNat (⟨true,C.row⟩:fC)),D.bh⟩:cM),true)else bif (C.kind==4)then xL D.aC C.ax λQ=>some ((⟨(D.aC.set C.ax.toNat (⟨false,0⟩:fC)),D.bh⟩:cM),true)else bif (C.kind==6)then some ((⟨D.aC,1⟩:cM),true)else bif (C.kind==8)then some ((⟨D.aC,2⟩:cM),true)else bif (C.kind==7)then bif (C.kind==7)then I else some (D,true)else bif (C.kind==9)then I else some (D,true)
def auC:=bA [(true,.fR),(true,.iQ),(true,.Command)] [(true,.iQ,2),(false,.bool,0)] (fD K3) 48 [ahf,agU] func143
def FE(J C:Int):aj ((aa Int)):=letI I:=W6 (J-1);letI D:=([(W6 (C+1))]:aa Int);letI E:=([(W6 (C-1))]:aa Int);(cK J 2 16).bind λL=>bif (!L)then some ([])else (cK C 0 I).bind λO=>bif (!O)then some ([])else bif C > 0 then bif xZ E then bif C<I then bif bD ((xA E).length+D.length)then some ((xA E)++D)else none else some (xA E)else none else bif C<I then bif xZ D then some (xA D)else none else some ([]:aa Int)
def ahj:=bA Ca nc (bY FE) 34 [eI] func232
def K4(D:aO)(C:aL):aj (Int):=(CG D C).bind λE=>bif (!E)then some (-1)else some (W6 ((W6 ((W6 ((W6 (C.ax*D.rows))+C.row))*D.aN))+C.bR))
def ahk:=bA OM dO (bY K4) 23 [XZ] func239
def QU(I:aO)(C:lz)(D:dx)(J L:Int):aj (Bool):=letI E:=W6 ((W6 (J*I.rows))+L);xI D.bC E λO=>bif O > C.bC then some true else xI D.bz E λQ=>some (Q > C.bz)
def auD:=bA [(true,.fR),(true,.sy),(true,.Array),(false,.int),(false,.int)] cB (IE QU) 36 [] func312
def ahl:enters Tryz.prog 230/\qI Tryz.prog 230 (cj Tryz.prog f230 1 []):=OC (ID 1 [] func230 trivial)
def QV(I:cx)(J L:Int):aj (cx×Bool):=(FA I).bind λC=>(let O:Bool -> aj (cx×Bool):=λj5=>bif j5 then some (C,false)else (CF C.rows J).bind λT=>(let Q:Int -> (aa Int) -> aj (cx×Bool):=λD Ci=>(let U:Int -> (aa Int) -> aj (cx×Bool):=λKo Y=>letI Z:=(⟨Ci,Y,Ko⟩:cx);(At Z).bind λlR=>bif (!lR)then (FA I).bind λuv=>some (uv,false)else (let k28:Bool -> aj (cx×Bool):=λXQ=>some (Z,XQ);bif D >= 0 then xL Y D λYg=>letI u1:=k28 ((Yg.tmod L)==0);if L=0 then none else u1 else (k28 false));letI u0:=U (W6 (C.c7+1)) C.counts;bif D >= 0 then xL C.counts D λCn=>xL C.counts D λe19=>(U C.c7 (C.counts.set D.toNat (W6 (Cn+1))))else u0);bif T<0 then (CF C.counts C.c7).bind λE=>bif E >= 0 then xL C.rows E λXO=>(Q E (C.rows.set E.toNat J))else (Q E C.rows)else (Q T C.rows));(At I).bind λy2=>bif (!y2)then (O true)else (cK J 0 15).bind λy3=>bif (!y3)then (O true)else (cK L 2 1000).bind λy4=>(O (!y4)))
def auE:=bA [(true,.iR),(false,.int),(false,.int)] [(true,.iR,2),(false,.bool,0)] (fD QV) 75 [eI,ag0,agG,XY] func231
def Yh(C:aa aL)(D:aL):aj (Bool):=(Ft C D).bind λE=>some (decide (E >= 0))
def auF:=bA W8 cB (bY Yh) 9 [agI] func233
def auG:bJ:=⟨[(2,.aG 20000 50),(3,tI),(4,tI),(5,.aG 5 0),(10,tI)],[(5,.aB fE)],lO⟩
def auH:aa (Nat×bJ):=[(2,⟨[(2,.aG 20000 50),(3,tI),(4,tI),(5,.aG 5 0)],[(5,.aB fE)],lO⟩)]
abbrev ahm:=((af×Int×Int×af×Int×af)×(av×(Int×Int×Int×Int×af)×af))
def CL(x:ahm):aj (ahm⊕(((af×Int×Int×af×af)×(av×(Int×Int×Int×Int×af)×af))⊕Empty)):=letI L:=(1:Int);letI O:=(0:Int);letI I:=x.1.2.2;letI E:=x.2.2.1;letI D:=x.2.1;bif I.2.2.1<E.2.2.2.1 then (K4 (⟨E.1,E.2.1,E.2.2.1,E.2.2.2.1⟩:aO) (⟨x.1.2.1,I.1,I.2.2.1⟩:aL)).bind λC=>xL D.array.cells C λe5=>xM D.array.cells C λU=>xC U.symbols O (xM D.array.cells C λY=>xM Y.symbols O λZ=>xM D.array.cells C λe15=>xC e15.symbols O (xM D.array.cells C λQ=>xM Q.symbols O λe19=>xM D.array.cells C λFf=>letI J:=D.array.cells.set C.toNat (⟨(Q.symbols.set O.toNat (bits .xor .i64 Z 5)),Ff.iX⟩:bZ);xM J C λe24=>xC e24.symbols L (xM J C λYg=>xM Yg.symbols L λXE=>xM J C λe31=>xC e31.symbols L (xM J C λT=>xM T.symbols L λe35=>xM J C λYi=>xG (((),x.1.2.1,I.1,(),(W6 (I.2.2.1+1)),()),({D with array:=⟨(J.set C.toNat (⟨(T.symbols.set L.toNat (bits .xor .i64 XE 10)),Yi.iX⟩:bZ)),D.array.bC,D.array.bz⟩},E,()))))))else aA (((),x.1.2.1,I.1,(),()),(D,E,()))
def auI:KY 101 (bk f229):=⟨0,lB 0 auG auH CL,lp [ahk]⟩
def auJ:bJ:=⟨adJ,[(1000000000175000,.sl .int 2)],lO⟩
def auK:aa (Nat×bJ):=[(4,EG)]
abbrev ahn:=((af×Int×af×Int×Int×af)×(av×(aa Int)×af))
def Av(x:ahn):aj (ahn⊕(((af)×(av×af))⊕Empty)):=letI D:=x.1.2.2.2;letI C:=x.2.1;bif D.2.1<D.1 then xL x.2.2.1 D.2.1 λJ=>letI E:=W6 (x.1.2.1+J);xL C.array.bz E λL=>letI I:=W6 (L+1);xL C.array.bz E λO=>xG (((),x.1.2.1,(),D.1,(W6 (D.2.1+1)),()),({C with array:=⟨C.array.cells,C.array.bC,(C.array.bz.set E.toNat (if 100000<I then 100000 else I))⟩},x.2.2.1,()))else aA ((),(C,()))
def auL:KY 101 (bk f229):=⟨2,lB 2 auJ auK Av,lp []⟩
def auM:bJ:=⟨adJ,[(1000000000175000,.sl .int 2)],lO⟩
def auN:aa (Nat×bJ):=[(4,EG)]
abbrev aho:=((af×Int×af×Int×Int×af)×(av×(aa Int)×af))
def Yj(x:aho):aj (aho⊕(((af)×(av×af))⊕Empty)):=letI D:=x.1.2.2.2;letI C:=x.2.1;bif D.2.1<D.1 then xL x.2.2.1 D.2.1 λJ=>letI E:=W6 (x.1.2.1+J);xL C.array.bz E λL=>letI I:=W6 (L+1);xL C.array.bz E λO=>xG (((),x.1.2.1,(),D.1,(W6 (D.2.1+1)),()),({C with array:=⟨C.array.cells,C.array.bC,(C.array.bz.set E.toNat (if 100000<I then 100000 else I))⟩},x.2.2.1,()))else aA ((),(C,()))
def auO:KY 101 (bk f229):=⟨2,lB 2 auM auN Yj,lp []⟩
def K5(C:aO)(Z:lz)(D:av)(J L:Int):aj ((af)×(av×af)):=letI O:=W6 ((W6 (J*C.rows))+L);(QU C Z D.array J L).bind λy1=>bif y1 then bw CL (((),J,L,(),0,()),(D,(C.cq,C.aC,C.rows,C.aN,()),())) λE=>letI T:=W6 (E.1.2.1*E.2.2.1.2.2.1);letI I:=E.2.1;letI Q:=W6 (T+E.1.2.2.1);xL I.array.bC Q λe41=>xL I.array.bz Q λe44=>(FE E.2.2.1.2.2.1 E.1.2.2.1).bind λU=>bw Av (((),T,(),(U.length:Int),0,()),({I with array:=⟨I.array.cells,(I.array.bC.set Q.toNat (0:Int)),(I.array.bz.set Q.toNat (0:Int))⟩},U,())) λz55=>some ((),(z55.2.1,()))else xL D.array.bC O λe58=>xL D.array.bz O λe61=>(FE C.rows L).bind λY=>bw Yj (((),(W6 (J*C.rows)),(),(Y.length:Int),0,()),({D with array:=⟨D.array.cells,(D.array.bC.set O.toNat (0:Int)),(D.array.bz.set O.toNat (0:Int))⟩},Y,())) λz73=>some ((),(z73.2.1,()))
def ahp:=oH adP [] (IE K5) 101 [ahj,auD] [auI,auL,auO] func229
abbrev ahq:=(((aa aL)×aL×Int×Int×af)×(af))
def K6(x:ahq):aj (ahq⊕(((Int×af)×(af))⊕(((af)×(af))⊕Empty))):=letI C:=x.1.2;letI D:=C.2.2.1;bif D<C.2.1 then xI x.1.1 D λE=>bif ((E.ax==C.1.ax)&&((E.row==C.1.row)&&((E.bR==C.1.bR)&&true)))then aA ((D,()),())else xG ((x.1.1,C.1,C.2.1,(W6 (D+1)),()),())else bq ((),())
def auP:KY 19 (bk f234):=⟨0,lB 0 ⟨[(0,.lf (.aF .Addr 0)),(1,.fc 230 .Addr),(7,tI),(8,tI)],[],[]⟩ [(1,xl),(2,iG)] K6,lp [⟨230,.i _,ahl⟩]⟩
def QW(C:aa aL)(D:aL):aj (Int):=(iter K6 aS ((C,D,(C.length:Int),0,()),())).bind (Sum.elim (λE=>some E.1.1) (Sum.elim (λI=>some (-1)) (λz=>nomatch z)))
def auQ:KX:=⟨234,.q (gD [(false,(.sl .Addr)),(false,(.yG 230))] [(false,.int,0)] λx=>QW x.1 x.2.1),kq 19 [] [auP] func234⟩
abbrev ahr:=((af×aL×Int×Int×af)×((aa aL)×af))
def K7(x:ahr):aj (ahr⊕(((af×Int×af)×((aa aL)×af))⊕Empty)):=letI D:=x.1.2.1;letI C:=x.1.2.2;bif C.2.1<(x.2.1.length:Int)then xL x.2.1 C.2.1 λE=>bif (!((E.ax==D.ax)&&((E.row==D.row)&&((E.bR==D.bR)&&true))))then xL x.2.1 C.1 λI=>xG (((),D,(W6 (C.1+1)),(W6 (C.2.1+1)),()),((x.2.1.set C.1.toNat E),()))else xG (((),D,C.1,(W6 (C.2.1+1)),()),(x.2.1,()))else aA (((),C.1,()),(x.2.1,()))
def auR:KY 42 (bk f146):=⟨0,lB 0 ⟨[(0,.lf (.own 98000)),(1,.fc 230 .Addr),(5,tI),(6,tI)],W5,[]⟩ [(2,adL)] K7,lp [⟨230,.i _,ahl⟩]⟩
def QX(D:aa aL)(I:aL):aj (((aa aL))×((aa aL)×af)):=(QW D I).bind λE=>bif (E==(-1))then some (D,([],()))else (iter K7 aS (((),I,E,(W6 (E+1)),()),(D,()))).bind (Sum.elim (λC=>if 0 <= C.1.2.1/\C.1.2.1 <= (C.2.1.length:Int)/\(C.2.1.length:Int) <= (C.2.1.length:Int)then if C.1.2.1.toNat <= (C.2.1.length:Int).toNat/\(C.2.1.length:Int).toNat <= C.2.1.length then if 0 <= (0:Int)/\0 <= C.1.2.1/\C.1.2.1 <= ((splice C.2.1 C.1.2.1.toNat (List.replicate ((C.2.1.length:Int).toNat-C.1.2.1.toNat) (⟨0,0,0⟩:aL))).length:Int)then some (((splice C.2.1 C.1.2.1.toNat (List.replicate ((C.2.1.length:Int).toNat-C.1.2.1.toNat) (⟨0,0,0⟩:aL))).take C.1.2.1.toNat),([],()))else none else none else none) (λz=>nomatch z))
def auS:KX:=⟨146,.c ⟨[.s .Addr 1000000,.v false (.yG 230)],[(false,(.sl .Addr),2)],λx=>QX x.1 x.2.1⟩,kn 42 [auQ] [auR] func146⟩
def auT:bJ:=⟨[(0,.aG 20000 0),(3,.aG 3 0),(80,.lf (.own 1000000000180000)),(81,tI),(82,tI)],[(3,.aB fE),(1000000000180000,.sl .int 2)],ady⟩
def auU:aa (Nat×bJ):=[(2,⟨[],[],ady⟩)]
abbrev ahs:=((af×af×af×Int×Int×af)×(av×(Int×Int×Int×Int×af)×(aa Int)×af))
def FF(x:ahs):aj (ahs⊕(((af)×(av×af))⊕Empty)):=letI D:=x.1.2.2.2;letI I:=((),(),(),D.1,(W6 (D.2.1+1)),());letI C:=x.2.1;bif D.2.1<D.1 then xL x.2.2.2.1 D.2.1 λJ=>letI E:=(⟨x.2.2.1.2.1,J,0⟩:aL);(Yh C.pending E).bind λL=>bif (!L)then bif bD (C.pending.length+([E]:aa aL).length)then xG (I,({C with pending:=(C.pending++([E]:aa aL))},x.2.2.1,x.2.2.2.1,()))else none else xG (I,(C,x.2.2.1,x.2.2.2.1,()))else aA ((),(C,()))
def auV:KY 108 (bk f144):=⟨0,lB 0 auT auU FF,lp [auF]⟩
def QY(C:av)(D:aH):aj ((af)×(av×af)):=(K5 C.config.ay C.config.dH (⟨C.config,C.box,C.now,C.aY,C.ready,C.array,C.spare,C.aQ,C.bK,C.guard,C.pending,C.queue,C.shares,C.drain,C.bh,C.cU,C.errors,C.trace,C.cy⟩:av) D.ax D.row).bind λO=>letI E:=O.2.1;(QX E.pending (⟨D.ax,D.row,0⟩:aL)).bind λQ=>xL E.bK D.ax λT=>xL E.guard D.ax λU=>xM E.bK D.ax λY=>xM E.bK D.ax λZ=>(QV (⟨Y.rows,Z.counts,T.c7⟩:cx) D.row U).bind λI=>letI J:={E with bK:=(E.bK.set D.ax.toNat I.1),pending:=Q.1};xL E.bK D.ax λCn=>bif (!I.2)then some ((),(J,()))else (FE C.config.ay.rows D.row).bind λL=>bw FF (((),(),(),(L.length:Int),0,()),(J,(D.kind,D.ax,D.row,D.bR,()),L,())) λJy=>some ((),(Jy.2.1,()))
def auW:=oH [.p .cV 4 0,.v true .Command] [] (bY QY) 108 [auS,ahp,auE,ahj] [auV] func144
abbrev aht:=((af×Int×Int×af)×(av×af))
def K8(x:aht):aj (aht⊕(((af)×(av×af))⊕Empty)):=bif x.1.2.2.1<x.2.1.config.ay.rows then (K5 x.2.1.config.ay x.2.1.config.dH x.2.1 x.1.2.1 x.1.2.2.1).bind λC=>xG (((),x.1.2.1,(W6 (x.1.2.2.1+1)),()),(C.2.1,()))else aA ((),(x.2.1,()))
def auX:KY 31 (bk f145):=⟨0,lB 0 ⟨ap6,[],lO⟩ [(2,EG)] K8,lp [ahp]⟩
def K9(C:av)(D:Int):aj ((af)×(av×af)):=bw K8 (((),D,0,()),(C,())) λE=>some ((),(E.2.1,()))
def ahu:=oH IL [] (bY K9) 31 [] [auX] func145
def ahv:enters Tryz.prog 147/\qI Tryz.prog 147 (cj Tryz.prog f147 1 []):=OC (ID 1 [] func147 trivial)
def QZ(C:Int):aj (cx×Bool):=(cK C 1 16).bind λD=>bif (!D)then some ((⟨[],[],0⟩:cx),false)else (B8 ([(-1)]:aa Int) C).bind λE=>if 0 <= C/\C <= C/\C<1073741824 then some ((⟨E,(List.replicate C.toNat (0:Int)),0⟩:cx),true)else none
def auY:=bA lP [(true,.iR,2),(false,.bool,0)] (bS QZ) 14 [eI,⟨313,.p OE,ap5⟩] func235
def La(C:av)(D:Int):aj ((af)×(av×af)):=(QZ C.config.hD).bind λE=>xL C.bK D λI=>xL C.guard D λJ=>some ((),({C with bK:=(C.bK.set D.toNat E.1),guard:=(C.guard.set D.toNat C.box.bU.eK)},()))
def ahw:=jQ IL [] (bY La) 31 [auY] func148
def Q0(E:cZ)(D:Int):aj (cZ×Bool):=(CJ E).bind λC=>letI I:=some (C,false);(As E).bind λJ=>bif (!J)then I else (cK D 0 (W6 ((E.aJ.length:Int)-1))).bind λL=>bif (!L)then I else xI E.aJ D λO=>bif (O==(-2))then I else xL C.aJ D λQ=>xL C.aJ D λT=>some ((⟨(C.aJ.set D.toNat (W6 (Q-1))),C.wait,C.dN⟩:cZ),true)
def auZ:=bA Xf [(true,.lE,2),(false,.bool,0)] (bY Q0) 38 [eI,X3,KN] func149
abbrev ahx:=((Int×Int×Int×Int×af)×(af))
def ahy(x:ahx):aj (ahx⊕(((Int×af)×(af))⊕Empty)):=letI E:=x.1.2.1;letI C:=x.1.2.2;letI J:=bits .xor .i64 C.1 x.1.1;letI I:=W6 (C.2.1+1);letI D:=W6 (x.1.1*2 ^ (min (1:Int).toNat IntKind.i64.bits));bif C.2.1<4 then if C.2.1<0 then none else bif ((bits .and .i64 (E.fdiv (2 ^ (min C.2.1.toNat IntKind.i64.bits))) 1)==1)then bif D > 15 then xG (((bits .xor .i64 D 19),E,J,I,()),())else xG ((D,E,J,I,()),())else bif D > 15 then xG (((bits .xor .i64 D 19),E,C.1,I,()),())else xG ((D,E,C.1,I,()),())else aA ((C.1,()),())
def au0:KY 34 (bk f203):=⟨0,lB 0 W0 [(2,vC)] ahy,lp []⟩
def jC(C D:Int):aj (Int):=(CE C).bind λE=>bif (!E)then some (-1)else (CE D).bind λI=>bif (!I)then some (-1)else bw ahy ((C,D,0,0,()),()) λJ=>some J.1.1
def Lb:=cw Ca dO (bY jC) 34 [XX] [au0] func203
abbrev ahz:=((Int×Int×Int×af)×(af))
def ahA(x:ahz):aj (ahz⊕(((Int×af)×(af))⊕Empty)):=bif x.1.2.1 > 0 then (jC x.1.2.2.1 x.1.1).bind λC=>xG ((x.1.1,(W6 (x.1.2.1-1)),C,()),())else aA ((x.1.2.2.1,()),())
def au1:KY 22 (bk f288):=⟨0,lB 0 ⟨[(0,tI),(1,tI),(5,tI)],[],[]⟩ [(2,vC)] ahA,lp [Lb]⟩
def Lc(C D:Int):aj (Int):=(CE C).bind λE=>bif (!E)then some (-1)else (cK D 0 1000).bind λI=>bif (!I)then some (-1)else bw ahA ((C,D,1,()),()) λJ=>some J.1.1
def ahB:=cw Ca dO (bY Lc) 22 [eI,XX] [au1] func288
abbrev ahC:=(((aa Int)×af×Int×Int×Int×(aa Int)×Int×Int×af)×((aa Int)×af))
def CM(x:ahC):aj (ahC⊕((((aa Int)×af×Int×Int×af)×((aa Int)×af))⊕Empty)):=letI C:=x.1.2.2;letI D:=C.2.2;letI E:=D.2.2.2.1;bif E<D.2.2.1 then xI D.2.1 E λI=>xL x.2.1 C.1 λJ=>(Lc 2 (W6 (E*C.1))).bind λL=>(jC I L).bind λO=>xL x.2.1 C.1 λQ=>xG ((x.1.1,(),C.1,C.2.1,D.1,D.2.1,D.2.2.1,(W6 (E+1)),()),((x.2.1.set C.1.toNat (bits .xor .i64 J O)),()))else aA ((x.1.1,(),C.2.1,D.1,()),(x.2.1,()))
def au2:KY 38 (rZ (bk f201) 0):=⟨2,lB 2 ⟨[(0,.lf (.aF .int 0)),(3,.lf (.own 10)),(4,tI),(12,tI),(13,tI),(16,.lf (.aF .int 0)),(17,tI),(18,tI)],[(10,.sl .int 2)],[]⟩ [(4,adB)] CM,lp [Lb,ahB]⟩
abbrev ahD:=(((aa Int)×af×Int×Int×af)×((aa Int)×af))
def FG(x:ahD):aj (ahD⊕(((af×af)×((aa Int)×af))⊕Empty)):=letI C:=x.1.2.2;bif C.2.1<C.1 then bw CM ((x.1.1,(),C.2.1,C.1,C.2.1,x.1.1,(x.1.1.length:Int),0,()),(x.2.1,())) λD=>xG ((D.1.1,(),D.1.2.2.1,(W6 (D.1.2.2.2.1+1)),()),(D.2.1,()))else aA (((),()),(x.2.1,()))
def au3:KY 38 (bk f201):=⟨0,lB 0 adB [(2,⟨[(3,.lf (.own 10))],[(10,.sl .int 2)],[]⟩)] FG,lq [] [au2]⟩
def Aw(D:aa Int):aj ((aa Int)):=letI C:=(3:Int);(vH D 11).bind λE=>bif (!E)then some ([])else if 0 <= C/\C <= 3/\C<1073741824 then bw FG ((D,(),((List.replicate C.toNat (0:Int)).length:Int),0,()),((List.replicate C.toNat (0:Int)),())) λI=>some I.2.1 else none
def Yk:=cw oJ nc (bS Aw) 38 [KH] [au3] func201
def Q1(D:aa Int):aj (Bool):=(Aw D).bind λC=>bif jn C then none else xL C (0:Int) λE=>bif (E==0)then xL C (1:Int) λI=>bif (I==0)then xL C (2:Int) λJ=>some (J==0)else some false else some false
def au4:=bA oJ cB (bS Q1) 26 [Yk] func202
abbrev ahE:=((Int×Int×af)×(af))
def ahF(x:ahE):aj (ahE⊕(((Int×af)×(af))⊕(((af)×(af))⊕Empty))):=bif x.1.2.1 <= 15 then (jC x.1.1 x.1.2.1).bind λC=>bif (C==1)then aA ((x.1.2.1,()),())else xG ((x.1.1,(W6 (x.1.2.1+1)),()),())else bq ((),())
def au5:KY 13 (bk f204):=⟨0,lB 0 aee [(1,⟨[(2,tI)],[],[]⟩),(2,iG)] ahF,lp [Lb]⟩
def CN(C:Int):aj (Int):=cc ahF ((C,1,()),()) (λD=>some D.1.1) λE=>some (-1)
def ahG:=cw lP dO (bS CN) 13 [] [au5] func204
abbrev ahH:=((Int×Int×af)×(af))
def ahI(x:ahH):aj (ahH⊕(((Int×af)×(af))⊕(((af)×(af))⊕Empty))):=bif x.1.2.1<15 then (Lc 2 x.1.2.1).bind λC=>bif (C==x.1.1)then aA ((x.1.2.1,()),())else xG ((x.1.1,(W6 (x.1.2.1+1)),()),())else bq ((),())
def au6:KY 13 (bk f205):=⟨0,lB 0 aee [(1,⟨[(2,tI)],[],[]⟩),(2,iG)] ahI,lp [ahB]⟩
def Q2(C:Int):aj (Int):=cc ahI ((C,0,()),()) (λD=>some D.1.1) λE=>some (-1)
def au7:=cw lP dO (bS Q2) 13 [] [au6] func205
def Ld(I:aa Int):aj ((aa Int)×Int×Int):=letI C:=xA I;letI J:=some (C,2,(-1));(Aw I).bind λE=>bif jn E then none else bif xZ I then (Q1 I).bind λO=>bif O then some (C,0,(-1))else xL E (0:Int) λQ=>bif (Q != 0)then xL E (1:Int) λT=>bif (T != 0)then xL E (1:Int) λU=>xL E (0:Int) λY=>(CN Y).bind λZ=>(jC U Z).bind λL=>(Q2 L).bind λD=>bif D<11 then xL E (1:Int) λXA=>xL E (2:Int) λXB=>(jC XA L).bind λCB=>bif (CB==XB)then xC C D (if GU:D.toNat<C.length then (let vE:=C[D.toNat]'GU;xL E (0:Int) λAh=>xC C D (if TN:D.toNat<C.length then (let e33:=C[D.toNat]'TN;some ((C.set D.toNat (bits .xor .i64 vE Ah)),1,D))else none))else none)else J else J else J else J else none
def ahJ:=bA oJ [(false,(.sl .int),2),(false,.int,0),(false,.int,0)] (bS Ld) 64 [Yk,au4,Lb,ahG,au7] func130
abbrev ahK:=((Int×(aa Int)×Int×Int×af)×(af))
def Le(x:ahK):aj (ahK⊕(((Int×af)×(af))⊕Empty)):=letI C:=x.1.2.2.2.1;bif C<x.1.2.2.1 then xI x.1.2.1 C λD=>if (W6 (4*C))<0 then none else xG (((bits .or .i64 x.1.1 (W6 (D*2 ^ (min (W6 (4*C)).toNat IntKind.i64.bits)))),x.1.2.1,x.1.2.2.1,(W6 (C+1)),()),())else aA ((x.1.1,()),())
def au8:KY 25 (bk f206):=⟨0,lB 0 ⟨[(4,tI),(10,.lf (.aF .int 0)),(11,tI),(12,tI)],[],[]⟩ [(2,xl)] Le,lp []⟩
def Q3(C:aa Int):aj (Int×Bool):=(vH C 8).bind λD=>bif (!D)then some (0,false)else bw Le ((0,C,(C.length:Int),0,()),()) λE=>some (E.1.1,true)
def au9:=cw oJ [(false,.int,0),(false,.bool,0)] (bS Q3) 25 [KH] [au8] func206
def Q4(D:aa Int):aj ((aa Int)):=letI C:=(D.length:Int);letI E:=(D.take C.toNat).drop (3:Int).toNat;(vH D 11).bind λI=>bif (!I)then some ([])else if 0 <= (3:Int)/\3 <= C/\C <= C then bif xZ E then some (xA E)else none else none
def ava:=bA oJ nc (bS Q4) 10 [KH] func207
def Q5(D:aa Int):aj (Int×Int×Int):=(Ld D).bind λC=>bif (C.2.1==2)then some (0,C.2.1,C.2.2)else (Q4 C.1).bind λE=>(Q3 E).bind λI=>some (I.1,C.2.1,C.2.2)
def avb:=bA oJ [(false,.int,0),(false,.int,0),(false,.int,0)] (bS Q5) 29 [ahJ,au9,ava] func131
def Lg(C:aa cv):aj ((aa cv)):=bif xZ C then some (xA C)else none
def avc:=bA [(false,(.sl .gK))] [(false,(.sl .gK),2)] (bS Lg) 6 [] func208
abbrev ahL:=((Int×Int×af×af×Int×Int×af)×((aa cv)×af))
def Lh(x:ahL):aj (ahL⊕(((af×Bool×af)×((aa cv)×af))⊕(((Int×Int×af×af)×((aa cv)×af))⊕Empty))):=letI C:=x.1.2.2.2.2;letI E:=xG ((x.1.1,x.1.2.1,(),(),C.1,(W6 (C.2.1+1)),()),(x.2.1,()));bif C.2.1<C.1 then xL x.2.1 C.2.1 λD=>letI I:=W6 (D.times+1);bif (D.line==x.1.1)then bif (D.code==x.1.2.1)then xL x.2.1 C.2.1 λJ=>aA (((),true,()),((x.2.1.set C.2.1.toNat (⟨J.line,J.code,(if 999<I then 999 else I)⟩:cv)),()))else E else E else bq ((x.1.1,x.1.2.1,(),()),(x.2.1,()))
def avd:KY 69 (bk f132):=⟨0,lB 0 adt [(1,adT),(2,adO)] Lh,lp []⟩
abbrev ahM:=((Int×Int×af×af×Int×Int×af)×((aa cv)×af))
def Yl(x:ahM):aj (ahM⊕(((af×Bool×af)×((aa cv)×af))⊕(((Int×Int×af×af)×((aa cv)×af))⊕Empty))):=letI C:=x.1.2.2.2.2;letI E:=xG ((x.1.1,x.1.2.1,(),(),C.1,(W6 (C.2.1+1)),()),(x.2.1,()));bif C.2.1<C.1 then xL x.2.1 C.2.1 λD=>letI I:=W6 (D.times+1);bif (D.line==x.1.1)then bif (D.code==x.1.2.1)then xL x.2.1 C.2.1 λJ=>aA (((),true,()),((x.2.1.set C.2.1.toNat (⟨J.line,J.code,(if 999<I then 999 else I)⟩:cv)),()))else E else E else bq ((x.1.1,x.1.2.1,(),()),(x.2.1,()))
def ave:KY 69 (bk f132):=⟨0,lB 0 adt [(1,adT),(2,adO)] Yl,lp []⟩
def Q6(U:aa cv)(Y O:Int):aj ((aa cv)×Bool):=(Lg U).bind λQ=>letI T:=some (Q,false);letI Z:=((Y,O,(),(),(Q.length:Int),0,()),(Q,()));(KT U).bind λy2=>bif (!y2)then T else (cK Y 0 1023).bind λy3=>bif (!y3)then T else bif (O != 1)then bif (O != 2)then T else cc Lh Z (λiq=>some (iq.2.1,iq.1.2.1)) λC=>letI E:=(C.2.1.length:Int);letI J:=([(⟨C.1.1,C.1.2.1,1⟩:cv)]:aa cv);bif (E==6)then if 0 <= (1:Int)/\1 <= E/\E <= E then (Lg ((C.2.1.take (E.toNat)).drop ((1:Int).toNat))).bind λlQ=>bif bD (lQ.length+J.length)then some ((lQ++J),true)else none else none else bif bD (C.2.1.length+J.length)then some ((C.2.1++J),true)else none else cc Yl Z (λQ7=>some (Q7.2.1,Q7.1.2.1)) λD=>letI I:=(D.2.1.length:Int);letI L:=([(⟨D.1.1,D.1.2.1,1⟩:cv)]:aa cv);bif (I==6)then if 0 <= (1:Int)/\1 <= I/\I <= I then (Lg ((D.2.1.take (I.toNat)).drop ((1:Int).toNat))).bind λlR=>bif bD (lR.length+L.length)then some ((lR++L),true)else none else none else bif bD (D.2.1.length+L.length)then some ((D.2.1++L),true)else none
def avf:=cw W4 [(false,(.sl .gK),2),(false,.bool,0)] (fD Q6) 69 [eI,agR,avc] [avd,ave] func132
def xP(C:av)(E D:Int):aj ((af)×(av×af)):=bif (D != 0)then (Q6 C.errors E D).bind λI=>some ((),({C with errors:=I.1},()))else some ((),(C,()))
def ahN:=jQ aea [] (fD xP) 21 [avf] func58
def Q8(C:aa aX)(E D:Int):aj (((aa aX))×((aa aX)×af)):=if 0 <= E/\E <= D/\D <= (C.length:Int)/\(C.length:Int) <= (C.length:Int)then bif (E==D)then some (C,([],()))else if 0 <= (0:Int)/\0 <= E/\E <= (C.length:Int)then if 0 <= D/\D <= (C.length:Int)/\(C.length:Int) <= (C.length:Int)then if E.toNat <= D.toNat/\D.toNat <= (C.length:Int).toNat/\(C.length:Int).toNat <= C.length/\0<C.length then if 0 <= (((E.toNat+((C.length:Int).toNat-D.toNat))-0:Nat):Int)/\(((E.toNat+((C.length:Int).toNat-D.toNat))-0:Nat):Int) <= (C.length:Int)/\(C.length:Int) <= ((splice C E.toNat ((C.take ((C.length:Int).toNat)).drop D.toNat)).length:Int)then if (((E.toNat+((C.length:Int).toNat-D.toNat))-0:Nat):Int).toNat <= (C.length:Int).toNat/\(C.length:Int).toNat <= (splice C E.toNat ((C.take ((C.length:Int).toNat)).drop D.toNat)).length then some (((splice (splice C E.toNat ((C.take ((C.length:Int).toNat)).drop D.toNat)) ((((E.toNat+((C.length:Int).toNat-D.toNat))-0:Nat):Int).toNat) (List.replicate ((C.length:Int).toNat-(((E.toNat+((C.length:Int).toNat-D.toNat))-0:Nat):Int).toNat) (⟨0,0,0,false,0,0⟩:aX))).take (E.toNat+((C.length:Int).toNat-D.toNat))),([],()))else none else none else none else none else none else none
def avg:KX:=⟨236,.c ⟨[.s .dD 1000000,.v false .int,.v false .int],[(false,(.sl .dD),2)],λx=>Q8 x.1 x.2.1 x.2.2.1⟩,km 33 [] func236⟩
abbrev ahO:=(((aa cz)×(aa Bool)×Int×Int×af)×(af))
def Li(x:ahO):aj (ahO⊕(((Int×af)×(af))⊕Empty)):=letI D:=x.1.2.2.1;letI C:=x.1.2.2.2.1;letI E:=xG ((x.1.1,x.1.2.1,C,(W6 (C+1)),()),());letI I:=xG ((x.1.1,x.1.2.1,D,(W6 (C+1)),()),());bif C<(x.1.1.length:Int)then bif C<(x.1.2.1.length:Int)then xI x.1.2.1 C λJ=>bif J then bif D<0 then E else xI x.1.1 C λL=>xI x.1.1 D λO=>bif L.fL > O.fL then E else I else I else aA ((D,()),())else aA ((D,()),())
def avh:KY 42 (bk f314):=⟨0,lB 0 adF [(2,vC)] Li,lp []⟩
def FH(C:aa cz)(D:aa Bool):aj (Int):=bw Li ((C,D,(-1),0,()),()) λE=>some E.1.1
def avi:=cw OH dO (bY FH) 42 [] [avh] func314
abbrev ahP:=(((aa Bool)×af×Int×Int×af)×((aa cz)×af))
def FI(x:ahP):aj (ahP⊕((((aa Bool)×af×af)×((aa cz)×af))⊕Empty)):=letI C:=x.1.2.2.2.1;bif C<x.1.2.2.1 then xL x.2.1 C λD=>xL x.2.1 C λE=>xG ((x.1.1,(),x.1.2.2.1,(W6 (C+1)),()),((x.2.1.set C.toNat (⟨E.weight,D.weight⟩:cz)),()))else aA ((x.1.1,(),()),(x.2.1,()))
def avj:KY 57 (bk f237):=⟨0,lB 0 ⟨[(1,.lf (.aF .bool 0)),(6,.lf (.own 9)),(30,tI),(31,tI)],[(9,.sl .gj 2)],[]⟩ [(2,adN)] FI,lp []⟩
def qR(J:aa cz)(L:aa Bool):aj ((aa cz)×Int):=letI C:=xA J;bif xZ J then (FH C L).bind λD=>(Fo J).bind λO=>bif (!O)then some (C,(-1))else bif D<0 then some (C,(-1))else xC C D (if Q:D.toNat<C.length then (let T:=C[D.toNat]'Q;bif (T.fL==0)then bw FI ((L,(),(C.length:Int),0,()),(C,())) λE=>(FH E.2.1 E.1.1).bind λI=>xL E.2.1 I λU=>xL E.2.1 I λY=>some ((E.2.1.set I.toNat (⟨Y.weight,(W6 (U.fL-1))⟩:cz)),I)else xC C D (if Z:D.toNat<C.length then (let XF:=C[D.toNat]'Z;xC C D (if yP:D.toNat<C.length then (let xB:=C[D.toNat]'yP;some ((C.set D.toNat (⟨xB.weight,(W6 (XF.fL-1))⟩:cz)),D))else none))else none))else none)else none
def ahQ:=cw OH [(false,(.sl .gj),2),(false,.int,0)] (bY qR) 57 [XV,avi] [avj] func237
def Lj(O:aa Int):aj ((aa Int)):=letI D:=(1:Int);letI E:=(3:Int);letI C:=(0:Int);letI J:=(List.replicate E.toNat C)++O;(vH O 8).bind λy1=>bif (!y1)then some ([])else if 0 <= E/\E <= 3/\E<1073741824 then bif bD ((List.replicate E.toNat C).length+O.length)then (Aw J).bind λI=>xL I C λQ=>xL I D λT=>xL I C λXO=>xL I (2:Int) λCs=>letI U:=bits .xor .i64 XO Cs;(CN 4).bind λY=>(jC 2 (bits .xor .i64 Q T)).bind λoL=>(jC 5 U).bind λkT=>(jC (bits .xor .i64 oL kT) Y).bind λZ=>xL J D λFf=>(jC 3 U).bind λlR=>(jC 5 (bits .xor .i64 Q T)).bind λuv=>(jC (bits .xor .i64 lR uv) Y).bind λCB=>letI L:=(J.set D.toNat Z).set (2:Int).toNat CB;xL (J.set D.toNat Z) (2:Int) λvE=>xL I C λAh=>xL L D λe33=>xL L (2:Int) λPo=>xL L C λe39=>some (L.set C.toNat (bits .xor .i64 (bits .xor .i64 Ah e33) Po))else none else none
def avk:=bA oJ nc (bS Lj) 63 [KH,Yk,Lb,ahG] func315
abbrev ahR:=((Int×af×Int×af)×((aa Int)×af))
def Lk(x:ahR):aj (ahR⊕(((af×af)×((aa Int)×af))⊕Empty)):=letI C:=x.1.2.2.1;letI D:=([(bits .and .i64 (x.1.1.fdiv (2 ^ (min (W6 (4*C)).toNat IntKind.i64.bits))) 15)]:aa Int);bif C<8 then if (W6 (4*C))<0 then none else bif bD (x.2.1.length+D.length)then xG ((x.1.1,(),(W6 (C+1)),()),((x.2.1++D),()))else none else aA (((),()),(x.2.1,()))
def avl:KY 22 (bk f316):=⟨0,lB 0 ⟨[(0,tI),(3,.lf (.own 8)),(4,tI)],[(8,.sl .int 2)],[]⟩ [(2,⟨[(3,.lf (.own 8))],[(8,.sl .int 2)],[]⟩)] Lk,lp []⟩
def Q9(C:Int):aj ((aa Int)):=(CH C).bind λD=>bif (!D)then some ([])else bw Lk ((C,(),0,()),(([]:aa Int),())) λE=>some E.2.1
def avm:=cw lP nc (bS Q9) 22 [X0] [avl] func316
def FJ(C:Int):aj ((aa Int)):=(CH C).bind λD=>bif (!D)then some ([])else (Q9 C).bind λE=>(Lj E).bind λI=>some I
def avn:=bA lP nc (bS FJ) 9 [X0,avk,avm] func238
def xQ(C:av)(D:Int):aj ((Int×Int)×(av×af)):=xL C.array.cells D λJ=>bif J.iX then some ((0,2),(C,()))else xM C.array.cells D λY=>xM C.array.cells D λL=>(Ld L.symbols).bind λO=>xM C.array.cells D λZ=>xM C.array.cells D λQ=>(Q5 Q.symbols).bind λE=>letI I:=(E.1,E.2.1);bif (E.2.1==1)then xM C.array.cells D λT=>some (I,({C with array:=⟨(C.array.cells.set D.toNat (⟨O.1,T.iX⟩:bZ)),C.array.bC,C.array.bz⟩},()))else bif (E.2.1==2)then xM C.array.cells D λU=>some (I,({C with array:=⟨(C.array.cells.set D.toNat (⟨U.symbols,true⟩:bZ)),C.array.bC,C.array.bz⟩},()))else some (I,(C,()))
def ahS:=jQ W9 [(false,.int,0),(false,.int,0)] (bY xQ) 55 [ahJ,avb] func57
def Ra(C:av)(L:Int):aj ((af)×(av×af)):=letI E:=(4:Int);xL C.queue L λD=>letI Q:=([(⟨D.id,C.now,0,0⟩:fe)]:aa fe);(vI C D.line).bind λy4=>letI O:=K4 C.config.ay y4.1;(Q8 C.queue L (W6 (L+1))).bind λT=>if 0 <= E/\E <= 4/\E<1073741824 then xL (List.replicate E.toNat false) D.dB λe8=>(qR C.shares ((List.replicate E.toNat false).set D.dB.toNat true)).bind λU=>bif D.write then O.bind λY=>(FJ D.data).bind λjR=>xL C.array.cells Y λCs=>bif bD (C.cy.length+Q.length)then some ((),({C with array:=⟨(C.array.cells.set Y.toNat (⟨jR,false⟩:bZ)),C.array.bC,C.array.bz⟩,queue:=T.1,shares:=U.1,cy:=(C.cy++Q)},()))else none else O.bind λr4=>(xQ {C with queue:=T.1,shares:=U.1} r4).bind λI=>letI J:=I.2.1;letI Z:=([(⟨D.id,J.now,I.1.1,I.1.2⟩:fe)]:aa fe);bif bD (J.cy.length+Z.length)then O.bind λkT=>(xP {J with cy:=(J.cy++Z)} kT I.1.2).bind λCl=>some ((),(Cl.2.1,()))else none else none
def avo:=jQ IL [] (bY Ra) 125 [ahS,ahN,Yf,avg,ahQ,avn,ahk] func150
def Rb(C:eT)(E I:Int):aj (eT×Bool):=letI J:=some ((⟨0,I,C.idle⟩:eT),true);letI D:=some (C,false);(CI C).bind λL=>bif (!L)then D else (cK I C.since 1000000).bind λO=>bif (!O)then D else bif (E==6)then bif (C.state != 0)then D else some ((⟨1,I,C.idle⟩:eT),true)else bif (E==8)then bif (C.state != 0)then D else some ((⟨2,I,C.idle⟩:eT),true)else bif (E==7)then bif (C.state != 1)then D else J else bif (E==9)then bif (C.state != 2)then D else J else bif (C.state != (-1))then D else J
def avp:=bA [(true,.Power),(false,.int),(false,.int)] [(true,.Power,0),(false,.bool,0)] (fD Rb) 40 [eI,QE] func151
abbrev ahT:=(((aa aL)×aH×Int×Int×af)×(af))
def Ll(x:ahT):aj (ahT⊕(((Int×af)×(af))⊕(((af)×(af))⊕Empty))):=letI C:=x.1.2.2.2.1;bif C<x.1.2.2.1 then xI x.1.1 C λD=>bif (D.ax==x.1.2.1.ax)then aA ((C,()),())else xG ((x.1.1,x.1.2.1,x.1.2.2.1,(W6 (C+1)),()),())else bq ((),())
def avq:KY 19 (bk f234):=⟨0,lB 0 ⟨[(0,.lf (.aF .Addr 0)),(1,.fc 147 .Command),(7,tI),(8,tI)],[],[]⟩ [(1,xl),(2,iG)] Ll,lp [⟨147,.i _,ahv⟩]⟩
def Rc(C:aa aL)(D:aH):aj (Int):=(iter Ll aS ((C,D,(C.length:Int),0,()),())).bind (Sum.elim (λE=>some E.1.1) (Sum.elim (λI=>some (-1)) (λz=>nomatch z)))
def avr:KX:=⟨234,.q (gD [(false,(.sl .Addr)),(false,(.fnCommand 147))] [(false,.int,0)] λx=>Rc x.1 x.2.1),kq 19 [] [avq] func234⟩
abbrev ahU:=((af×aH×Int×Int×af)×((aa aL)×af))
def Ln(x:ahU):aj (ahU⊕(((af×Int×af)×((aa aL)×af))⊕Empty)):=letI C:=x.1.2.2;bif C.2.1<(x.2.1.length:Int)then xL x.2.1 C.2.1 λD=>bif (!(D.ax==x.1.2.1.ax))then xL x.2.1 C.1 λE=>xG (((),x.1.2.1,(W6 (C.1+1)),(W6 (C.2.1+1)),()),((x.2.1.set C.1.toNat D),()))else xG (((),x.1.2.1,C.1,(W6 (C.2.1+1)),()),(x.2.1,()))else aA (((),C.1,()),(x.2.1,()))
def avs:KY 42 (bk f146):=⟨0,lB 0 ⟨[(0,.lf (.own 98000)),(1,.fc 147 .Command),(5,tI),(6,tI)],W5,[]⟩ [(2,adL)] Ln,lp [⟨147,.i _,ahv⟩]⟩
def Rd(D:aa aL)(I:aH):aj (((aa aL))×((aa aL)×af)):=(Rc D I).bind λE=>bif (E==(-1))then some (D,([],()))else (iter Ln aS (((),I,E,(W6 (E+1)),()),(D,()))).bind (Sum.elim (λC=>if 0 <= C.1.2.1/\C.1.2.1 <= (C.2.1.length:Int)/\(C.2.1.length:Int) <= (C.2.1.length:Int)then if C.1.2.1.toNat <= (C.2.1.length:Int).toNat/\(C.2.1.length:Int).toNat <= C.2.1.length then if 0 <= (0:Int)/\0 <= C.1.2.1/\C.1.2.1 <= ((splice C.2.1 C.1.2.1.toNat (List.replicate ((C.2.1.length:Int).toNat-C.1.2.1.toNat) (⟨0,0,0⟩:aL))).length:Int)then some (((splice C.2.1 C.1.2.1.toNat (List.replicate ((C.2.1.length:Int).toNat-C.1.2.1.toNat) (⟨0,0,0⟩:aL))).take C.1.2.1.toNat),([],()))else none else none else none) (λz=>nomatch z))
def avt:KX:=⟨146,.c ⟨[.s .Addr 1000000,.v false (.fnCommand 147)],[(false,(.sl .Addr),2)],λx=>Rd x.1 x.2.1⟩,kn 42 [avr] [avs] func146⟩
def avu:bJ:=⟨[(0,.aG 20000 0),(130,tI),(131,tI)],[],OF⟩
def avv:aa (Nat×bJ):=[(3,Xh)]
abbrev ahV:=((af×Int×Int×af)×(av×af))
def xR(x:ahV):aj (ahV⊕(((af)×(av×af))⊕Empty)):=letI C:=x.1.2.2.1;bif C<x.1.2.1 then (K9 x.2.1 C).bind λE=>(La E.2.1 C).bind λI=>letI D:=I.2.1;xL D.aQ.aJ C λJ=>xG (((),x.1.2.1,(W6 (C+1)),()),({D with aQ:=⟨(D.aQ.aJ.set C.toNat (0:Int)),D.aQ.wait,D.aQ.dN⟩},()))else aA ((),(x.2.1,()))
def Ym:KY 148 (bk f69):=⟨1,lB 1 avu avv xR,lp [ahu,ahw]⟩
def Lo(D:av)(C:aH)(x2:Int):aj ((af)×(av×af)):=letI J:=C.kind != 9;letI Z:=([(⟨D.now,C⟩:fG)]:aa fG);letI L:=D.trace++Z;bif bD (D.trace.length+Z.length)then (QT D.config.ay D.ready (⟨D.now,C⟩:fG)).bind λO=>(K3 D.config.ay D.aY C).bind λQ=>letI T:={D with aY:=Q.1,ready:=O,trace:=L};(let Lp:av -> aj ((af)×(av×af)):=λU=>bif J then some ((),(U,()))else bw xR (((),(U.bK.length:Int),0,()),({U with pending:=([]:aa aL)},())) (λQ7=>some ((),(Q7.2.1,())));let Kd:Int -> Int -> Int -> aj ((af)×(av×af)):=λQm Qn Fc=>bif J then some ((),({D with aY:=Q.1,ready:=O,bh:=⟨Qm,Qn,Fc⟩,trace:=L},()))else bw xR (((),(D.bK.length:Int),0,()),({D with aY:=Q.1,ready:=O,pending:=([]:aa aL),bh:=⟨Qm,Qn,Fc⟩,trace:=L},())) (λz36=>some ((),(z36.2.1,())));letI u4:=Kd D.bh.state D.bh.since D.bh.idle;bif (C.kind==1)then (QY T C).bind λy3=>(Lp y3.2.1)else bif (C.kind==5)then (K9 T C.ax).bind λy4=>letI u3:=y4.2.1;(Rd u3.pending C).bind λy5=>(La {u3 with pending:=y5.1} C.ax).bind λy6=>letI E:=y6.2.1;(Q0 E.aQ C.ax).bind λy7=>bif J then some ((),({E with aQ:=y7.1},()))else bw xR (((),(E.bK.length:Int),0,()),({E with aQ:=y7.1,pending:=([]:aa aL)},())) λXM=>some ((),(XM.2.1,()))else (let Yn:Bool -> aj ((af)×(av×af)):=λj8=>bif j8 then (Ra T x2).bind λy9=>(Lp y9.2.1)else (let I:Bool -> aj ((af)×(av×af)):=λCu=>bif Cu then (Rb D.bh C.kind D.now).bind λY=>(Kd Y.1.state Y.1.since Y.1.idle)else u4;bif (C.kind==6)then (I (C.kind==6))else bif (C.kind==7)then (I (C.kind==7))else bif (C.kind==8)then (I (C.kind==8))else (I (C.kind==9)));bif (C.kind==2)then (Yn (C.kind==2))else (Yn (C.kind==3))))else none
def avw:=oH aeb [] (fD Lo) 148 [auB,auC,auW,ahu,avt,ahw,auZ,avo,avp] [Ym,Ym,Ym] func69
def qS(C:av)(D:aH)(I:Int):aj (av×Bool):=(KW C).bind λO=>letI E:=some (O,false);letI L:=(Lo O D I).bind λU=>some (U.2.1,true);(Au C).bind λY=>bif (!Y)then E else (jd C D).bind λZ=>bif (!Z)then E else bif (C.trace.length:Int) >= 2000 then E else (cK I 0 (W6 ((C.queue.length:Int)-1))).bind λQ=>letI T:=bif (C.cy.length:Int) >= 400 then E else bif (!Q)then E else xI C.queue I λe6=>(vI C e6.line).bind λy7=>xI C.queue I λe9=>(xO C.aY y7.1 e9.write).bind λJ=>bif (!((J.kind==D.kind)&&((J.ax==D.ax)&&((J.row==D.row)&&((J.bR==D.bR)&&true)))))then E else L;bif (D.kind==2)then T else bif (D.kind==3)then T else bif (I != (-1))then bif (!Q)then E else L else L
def avx:=bA [(true,.cV),(true,.Command),(false,.int)] [(true,.cV,4),(false,.bool,0)] (fD qS) 88 [QF,ahe,eI,FD,Yf,ahi,avw] func16
end Go.Proofs.YtglnbhiaknohlaaGreat
