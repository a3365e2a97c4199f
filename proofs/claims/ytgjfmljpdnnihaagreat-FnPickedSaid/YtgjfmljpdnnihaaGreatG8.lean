/-
  Functions of the program as plain functions of contents, and that the code computes them. Nothing here is a claim.
-/
import Derived.Test.YtgjfmljpdnnihaaGreatVZ
import Derived.Test.YtgjfmljpdnnihaaGreatRows
import Derived.Test.YtgjfmljpdnnihaaGreatRep
import Derived.Test.YtgjfmljpdnnihaaGreatG1
import Derived.Test.YtgjfmljpdnnihaaGreatG2
import Derived.Test.YtgjfmljpdnnihaaGreatG3
import Derived.Test.YtgjfmljpdnnihaaGreatG4
import Derived.Test.YtgjfmljpdnnihaaGreatG5
import Derived.Test.YtgjfmljpdnnihaaGreatG6
import Derived.Test.YtgjfmljpdnnihaaGreatG7
namespace Go.Proofs.YtgjfmljpdnnihaaGreat
set_option linter.defProp false
open Go.RowKit Go.Proofs.Tryz
set_option linter.unusedVariables false
set_option maxRecDepth 100000
def Qz(I:aI)(C:nu)(D:en)(L O:Int):aj (Bool):=letI E:=W6 ((W6 (L*I.rows))+O);xI D.bC E λT=>bif T > C.bC then some true else xI D.bw E λU=>some (U > C.bw)
def avX:=bx [(true,.fo),(true,.td),(true,.Array),(false,.int),(false,.int)] cv (HR Qz) 36 [] func51
def KH(D:aI)(C:aM):aj (Int):=(B6 D C).bind λE=>bif (!E)then some (-1)else some (W6 ((W6 ((W6 ((W6 (C.ay*D.rows))+C.row))*D.aL))+C.bO))
def ahr:=bx N1 dD (bY KH) 23 [WE] func197
def FA(L C:Int):aj ((aa Int)):=letI I:=W6 (L-1);letI D:=([(W6 (C+1))]:aa Int);letI E:=([(W6 (C-1))]:aa Int);(cB L 2 16).bind λO=>bif (!O)then some ([])else (cB C 0 I).bind λT=>bif (!T)then some ([])else bif C > 0 then bif xZ E then bif C<I then bif bD ((xA E).length+D.length)then some ((xA E)++D)else none else some (xA E)else none else bif C<I then bif xZ D then some (xA D)else none else some ([]:aa Int)
def ahs:=bx BZ mc (bY FA) 34 [eM] func250
def aht:enters Tryz.prog 248/\rm Tryz.prog 248 (cj Tryz.prog f248 1 []):=NQ (HQ 1 [] func248 trivial)
def QA(I:cx)(L O:Int):aj (cx×Bool):=(Fy I).bind λC=>(let T:Bool -> aj (cx×Bool):=λj5=>bif j5 then some (C,false)else (B7 C.rows L).bind λY=>(let U:Int -> (aa Int) -> aj (cx×Bool):=λD Cd=>(let Z:Int -> (aa Int) -> aj (cx×Bool):=λIS EG=>letI u2:=(⟨Cd,EG,IS⟩:cx);(zU u2).bind λlO=>bif (!lO)then (Fy I).bind λuk=>some (uk,false)else (let k28:Bool -> aj (cx×Bool):=λWQ=>some (u2,WQ);bif D >= 0 then xL EG D λXI=>letI u1:=k28 ((XI.tmod O)==0);if O=0 then none else u1 else (k28 false));letI u0:=Z (W6 (C.dg+1)) C.counts;bif D >= 0 then xL C.counts D λxE=>xL C.counts D λJs=>(Z C.dg (C.counts.set D.toNat (W6 (xE+1))))else u0);bif Y<0 then (B7 C.counts C.dg).bind λE=>bif E >= 0 then xL C.rows E λEF=>(U E (C.rows.set E.toNat L))else (U E C.rows)else (U Y C.rows));(zU I).bind λy2=>bif (!y2)then (T true)else (cB L 0 15).bind λy3=>bif (!y3)then (T true)else (cB O 2 1000).bind λy4=>(T (!y4)))
def avY:=bx [(true,.iO),(false,.int),(false,.int)] [(true,.iO,2),(false,.bool,0)] (fC QA) 75 [eM,ahd,aek,WG] func249
def XJ(C:aa aM)(D:aM):aj (Bool):=(Ew C D).bind λE=>some (decide (E >= 0))
def avZ:=bx Wl cv (bY XJ) 9 [aem] func251
def av0:bG:=⟨[(2,.aG 20000 50),(3,tI),(4,tI),(5,.aG 5 0),(10,tI)],[(5,.aC eK)],lJ⟩
def av1:aa (Nat×bG):=[(2,⟨[(2,.aG 20000 50),(3,tI),(4,tI),(5,.aG 5 0)],[(5,.aC eK)],lJ⟩)]
abbrev ahu:=((af×Int×Int×af×Int×af)×(av×(Int×Int×Int×Int×af)×af))
def CH(x:ahu):aj (ahu⊕(((af×Int×Int×af×af)×(av×(Int×Int×Int×Int×af)×af))⊕Empty)):=letI O:=(1:Int);letI T:=(0:Int);letI I:=x.1.2.2;letI E:=x.2.2.1;letI D:=x.2.1;bif I.2.2.1<E.2.2.2.1 then (KH (⟨E.1,E.2.1,E.2.2.1,E.2.2.2.1⟩:aI) (⟨x.1.2.1,I.1,I.2.2.1⟩:aM)).bind λC=>xL D.array.cells C λe5=>xM D.array.cells C λZ=>xC Z.symbols T (xM D.array.cells C λqj=>xM qj.symbols T λrI=>xM D.array.cells C λe15=>xC e15.symbols T (xM D.array.cells C λU=>xM U.symbols T λJs=>xM D.array.cells C λFf=>letI L:=D.array.cells.set C.toNat (⟨(U.symbols.set T.toNat (bits .xor .i64 rI 5)),Ff.jm⟩:cq);xM L C λXa=>xC Xa.symbols O (xM L C λXI=>xM XI.symbols O λXi=>xM L C λXb=>xC Xb.symbols O (xM L C λY=>xM Y.symbols O λe35=>xM L C λXy=>xG (((),x.1.2.1,I.1,(),(W6 (I.2.2.1+1)),()),({D with array:=⟨(L.set C.toNat (⟨(Y.symbols.set O.toNat (bits .xor .i64 Xi 10)),Xy.jm⟩:cq)),D.array.bC,D.array.bw⟩},E,()))))))else az (((),x.1.2.1,I.1,(),()),(D,E,()))
def av2:KY 101 (bh f247):=⟨0,lB 0 av0 av1 CH,lp [ahr]⟩
def av3:bG:=⟨adg,[(1000000000175000,.sl .int 2)],lJ⟩
def av4:aa (Nat×bG):=[(4,El)]
abbrev ahv:=((af×Int×af×Int×Int×af)×(av×(aa Int)×af))
def At(x:ahv):aj (ahv⊕(((af)×(av×af))⊕Empty)):=letI D:=x.1.2.2.2;letI C:=x.2.1;bif D.2.1<D.1 then xL x.2.2.1 D.2.1 λL=>letI E:=W6 (x.1.2.1+L);xL C.array.bw E λO=>letI I:=W6 (O+1);xL C.array.bw E λT=>xG (((),x.1.2.1,(),D.1,(W6 (D.2.1+1)),()),({C with array:=⟨C.array.cells,C.array.bC,(C.array.bw.set E.toNat (if 100000<I then 100000 else I))⟩},x.2.2.1,()))else az ((),(C,()))
def av5:KY 101 (bh f247):=⟨2,lB 2 av3 av4 At,lp []⟩
def av6:bG:=⟨adg,[(1000000000175000,.sl .int 2)],lJ⟩
def av7:aa (Nat×bG):=[(4,El)]
abbrev ahw:=((af×Int×af×Int×Int×af)×(av×(aa Int)×af))
def XK(x:ahw):aj (ahw⊕(((af)×(av×af))⊕Empty)):=letI D:=x.1.2.2.2;letI C:=x.2.1;bif D.2.1<D.1 then xL x.2.2.1 D.2.1 λL=>letI E:=W6 (x.1.2.1+L);xL C.array.bw E λO=>letI I:=W6 (O+1);xL C.array.bw E λT=>xG (((),x.1.2.1,(),D.1,(W6 (D.2.1+1)),()),({C with array:=⟨C.array.cells,C.array.bC,(C.array.bw.set E.toNat (if 100000<I then 100000 else I))⟩},x.2.2.1,()))else az ((),(C,()))
def av8:KY 101 (bh f247):=⟨2,lB 2 av6 av7 XK,lp []⟩
def KI(C:aI)(x1:nu)(D:av)(L O:Int):aj ((af)×(av×af)):=letI T:=W6 ((W6 (L*C.rows))+O);(Qz C x1 D.array L O).bind λy1=>bif y1 then br CH (((),L,O,(),0,()),(D,(C.bK,C.aA,C.rows,C.aL,()),())) λE=>letI Y:=W6 (E.1.2.1*E.2.2.1.2.2.1);letI I:=E.2.1;letI U:=W6 (Y+E.1.2.2.1);xL I.array.bC U λe41=>xL I.array.bw U λe44=>(FA E.2.2.1.2.2.1 E.1.2.2.1).bind λZ=>br At (((),Y,(),(Z.length:Int),0,()),({I with array:=⟨I.array.cells,(I.array.bC.set U.toNat (0:Int)),(I.array.bw.set U.toNat (0:Int))⟩},Z,())) λz55=>some ((),(z55.2.1,()))else xL D.array.bC T λe58=>xL D.array.bw T λe61=>(FA C.rows O).bind λQj=>br XK (((),(W6 (L*C.rows)),(),(Qj.length:Int),0,()),({D with array:=⟨D.array.cells,(D.array.bC.set T.toNat (0:Int)),(D.array.bw.set T.toNat (0:Int))⟩},Qj,())) λz73=>some ((),(z73.2.1,()))
def ahx:=ow adm [] (HR KI) 101 [avX,ahs] [av2,av5,av8] func247
abbrev ahy:=(((aa aM)×aM×Int×Int×af)×(af))
def KJ(x:ahy):aj (ahy⊕(((Int×af)×(af))⊕(((af)×(af))⊕Empty))):=letI C:=x.1.2;letI D:=C.2.2.1;bif D<C.2.1 then xI x.1.1 D λE=>bif ((E.ay==C.1.ay)&&((E.row==C.1.row)&&((E.bO==C.1.bO)&&true)))then az ((D,()),())else xG ((x.1.1,C.1,C.2.1,(W6 (D+1)),()),())else bf ((),())
def av9:KY 19 (bh f252):=⟨0,lB 0 ⟨[(0,.lf (.aH .Addr 0)),(1,.fc 248 .Addr),(7,tI),(8,tI)],[],[]⟩ [(1,xu),(2,gx)] KJ,lp [⟨248,.i _,aht⟩]⟩
def QB(C:aa aM)(D:aM):aj (Int):=(iter KJ aP ((C,D,(C.length:Int),0,()),())).bind (Sum.elim (λE=>some E.1.1) (Sum.elim (λI=>some (-1)) (λz=>nomatch z)))
def awa:KX:=⟨252,.q (gP [(false,(.sl .Addr)),(false,(.AV 248))] [(false,.int,0)] λx=>QB x.1 x.2.1),kq 19 [] [av9] func252⟩
abbrev ahz:=((af×aM×Int×Int×af)×((aa aM)×af))
def KM(x:ahz):aj (ahz⊕(((af×Int×af)×((aa aM)×af))⊕Empty)):=letI D:=x.1.2.1;letI C:=x.1.2.2;bif C.2.1<(x.2.1.length:Int)then xL x.2.1 C.2.1 λE=>bif (!((E.ay==D.ay)&&((E.row==D.row)&&((E.bO==D.bO)&&true))))then xL x.2.1 C.1 λI=>xG (((),D,(W6 (C.1+1)),(W6 (C.2.1+1)),()),((x.2.1.set C.1.toNat E),()))else xG (((),D,C.1,(W6 (C.2.1+1)),()),(x.2.1,()))else az (((),C.1,()),(x.2.1,()))
def awb:KY 42 (bh f171):=⟨0,lB 0 ⟨[(0,.lf (.own 98000)),(1,.fc 248 .Addr),(5,tI),(6,tI)],Wh,[]⟩ [(2,adi)] KM,lp [⟨248,.i _,aht⟩]⟩
def QC(D:aa aM)(I:aM):aj (((aa aM))×((aa aM)×af)):=(QB D I).bind λE=>bif (E==(-1))then some (D,([],()))else (iter KM aP (((),I,E,(W6 (E+1)),()),(D,()))).bind (Sum.elim (λC=>if 0 <= C.1.2.1/\C.1.2.1 <= (C.2.1.length:Int)/\(C.2.1.length:Int) <= (C.2.1.length:Int)then if C.1.2.1.toNat <= (C.2.1.length:Int).toNat/\(C.2.1.length:Int).toNat <= C.2.1.length then if 0 <= (0:Int)/\0 <= C.1.2.1/\C.1.2.1 <= ((splice C.2.1 C.1.2.1.toNat (List.replicate ((C.2.1.length:Int).toNat-C.1.2.1.toNat) (⟨0,0,0⟩:aM))).length:Int)then some (((splice C.2.1 C.1.2.1.toNat (List.replicate ((C.2.1.length:Int).toNat-C.1.2.1.toNat) (⟨0,0,0⟩:aM))).take C.1.2.1.toNat),([],()))else none else none else none) (λz=>nomatch z))
def awc:KX:=⟨171,.c ⟨[.s .Addr 1000000,.v false (.AV 248)],[(false,(.sl .Addr),2)],λx=>QC x.1 x.2.1⟩,kn 42 [awa] [awb] func171⟩
def awd:bG:=⟨[(0,.aG 20000 0),(3,.aG 3 0),(80,.lf (.own 1000000000180000)),(81,tI),(82,tI)],[(3,.aC eK),(1000000000180000,.sl .int 2)],ac6⟩
def awe:aa (Nat×bG):=[(2,⟨[],[],ac6⟩)]
abbrev ahA:=((af×af×af×Int×Int×af)×(av×(Int×Int×Int×Int×af)×(aa Int)×af))
def FB(x:ahA):aj (ahA⊕(((af)×(av×af))⊕Empty)):=letI D:=x.1.2.2.2;letI I:=((),(),(),D.1,(W6 (D.2.1+1)),());letI C:=x.2.1;bif D.2.1<D.1 then xL x.2.2.2.1 D.2.1 λL=>letI E:=(⟨x.2.2.1.2.1,L,0⟩:aM);(XJ C.pending E).bind λO=>bif (!O)then bif bD (C.pending.length+([E]:aa aM).length)then xG (I,({C with pending:=(C.pending++([E]:aa aM))},x.2.2.1,x.2.2.2.1,()))else none else xG (I,(C,x.2.2.1,x.2.2.2.1,()))else az ((),(C,()))
def awf:KY 108 (bh f169):=⟨0,lB 0 awd awe FB,lp [avZ]⟩
def QD(C:av)(D:aE):aj ((af)×(av×af)):=(KI C.config.ax C.config.eC (⟨C.config,C.box,C.now,C.aY,C.ready,C.array,C.spare,C.aS,C.bI,C.guard,C.pending,C.queue,C.shares,C.drain,C.aT,C.cU,C.errors,C.trace,C.cr⟩:av) D.ay D.row).bind λT=>letI E:=T.2.1;(QC E.pending (⟨D.ay,D.row,0⟩:aM)).bind λU=>xL E.bI D.ay λY=>xL E.guard D.ay λZ=>xM E.bI D.ay λqj=>xM E.bI D.ay λrI=>(QA (⟨qj.rows,rI.counts,Y.dg⟩:cx) D.row Z).bind λI=>letI L:={E with bI:=(E.bI.set D.ay.toNat I.1),pending:=U.1};xL E.bI D.ay λxE=>bif (!I.2)then some ((),(L,()))else (FA C.config.ax.rows D.row).bind λO=>br FB (((),(),(),(O.length:Int),0,()),(L,(D.kind,D.ay,D.row,D.bO,()),O,())) λJ0=>some ((),(J0.2.1,()))
def awg:=ow [.p .cO 4 0,.v true .Command] [] (bY QD) 108 [awc,ahx,avY,ahs] [awf] func169
abbrev ahB:=((af×Int×Int×af)×(av×af))
def KN(x:ahB):aj (ahB⊕(((af)×(av×af))⊕Empty)):=bif x.1.2.2.1<x.2.1.config.ax.rows then (KI x.2.1.config.ax x.2.1.config.eC x.2.1 x.1.2.1 x.1.2.2.1).bind λC=>xG (((),x.1.2.1,(W6 (x.1.2.2.1+1)),()),(C.2.1,()))else az ((),(x.2.1,()))
def awh:KY 31 (bh f170):=⟨0,lB 0 ⟨apU,[],lJ⟩ [(2,El)] KN,lp [ahx]⟩
def QE(C:av)(D:Int):aj ((af)×(av×af)):=br KN (((),D,0,()),(C,())) λE=>some ((),(E.2.1,()))
def ahC:=ow HX [] (bY QE) 31 [] [awh] func170
def ahD:enters Tryz.prog 172/\rm Tryz.prog 172 (cj Tryz.prog f172 1 []):=NQ (HQ 1 [] func172 trivial)
def QF(C:Int):aj (cx×Bool):=(cB C 1 16).bind λD=>bif (!D)then some ((⟨[],[],0⟩:cx),false)else (BY ([(-1)]:aa Int) C).bind λE=>if 0 <= C/\C <= C/\C<1073741824 then some ((⟨E,(List.replicate C.toNat (0:Int)),0⟩:cx),true)else none
def awi:=bx lK [(true,.iO,2),(false,.bool,0)] (bL QF) 14 [eM,⟨86,.p acW,apT⟩] func38
def KO(C:av)(D:Int):aj ((af)×(av×af)):=(QF C.config.iF).bind λE=>xL C.bI D λI=>xL C.guard D λL=>some ((),({C with bI:=(C.bI.set D.toNat E.1),guard:=(C.guard.set D.toNat C.box.bT.fl)},()))
def ahE:=jJ HX [] (bY KO) 31 [awi] func173
def QG(E:dn)(D:Int):aj (dn×Bool):=(Fx E).bind λC=>letI I:=some (C,false);(zS E).bind λL=>bif (!L)then I else (cB D 0 (W6 ((E.aJ.length:Int)-1))).bind λO=>bif (!O)then I else xI E.aJ D λT=>bif (T==(-2))then I else xL C.aJ D λU=>xL C.aJ D λY=>some ((⟨(C.aJ.set D.toNat (W6 (U-1))),C.wait,C.eP⟩:dn),true)
def awj:=bx [(true,.lS),(false,.int)] [(true,.lS,2),(false,.bool,0)] (bY QG) 38 [eM,ahc,Oa] func174
abbrev ahF:=((Int×Int×Int×Int×af)×(af))
def ahG(x:ahF):aj (ahF⊕(((Int×af)×(af))⊕Empty)):=letI E:=x.1.2.1;letI C:=x.1.2.2;letI L:=bits .xor .i64 C.1 x.1.1;letI I:=W6 (C.2.1+1);letI D:=W6 (x.1.1*2 ^ (min (1:Int).toNat IntKind.i64.bits));bif C.2.1<4 then if C.2.1<0 then none else bif ((bits .and .i64 (E.fdiv (2 ^ (min C.2.1.toNat IntKind.i64.bits))) 1)==1)then bif D > 15 then xG (((bits .xor .i64 D 19),E,L,I,()),())else xG ((D,E,L,I,()),())else bif D > 15 then xG (((bits .xor .i64 D 19),E,C.1,I,()),())else xG ((D,E,C.1,I,()),())else az ((C.1,()),())
def awk:KY 34 (bh f257):=⟨0,lB 0 Wa [(2,xq)] ahG,lp []⟩
def jv(C D:Int):aj (Int):=(B5 C).bind λE=>bif (!E)then some (-1)else (B5 D).bind λI=>bif (!I)then some (-1)else br ahG ((C,D,0,0,()),()) λL=>some L.1.1
def KP:=cg BZ dD (bY jv) 34 [WD] [awk] func257
abbrev ahH:=((Int×Int×Int×af)×(af))
def ahI(x:ahH):aj (ahH⊕(((Int×af)×(af))⊕Empty)):=bif x.1.2.1 > 0 then (jv x.1.2.2.1 x.1.1).bind λC=>xG ((x.1.1,(W6 (x.1.2.1-1)),C,()),())else az ((x.1.2.2.1,()),())
def awl:KY 22 (bh f306):=⟨0,lB 0 ⟨[(0,tI),(1,tI),(5,tI)],[],[]⟩ [(2,xq)] ahI,lp [KP]⟩
def KQ(C D:Int):aj (Int):=(B5 C).bind λE=>bif (!E)then some (-1)else (cB D 0 1000).bind λI=>bif (!I)then some (-1)else br ahI ((C,D,1,()),()) λL=>some L.1.1
def ahJ:=cg BZ dD (bY KQ) 22 [eM,WD] [awl] func306
abbrev ahK:=(((aa Int)×af×Int×Int×Int×(aa Int)×Int×Int×af)×((aa Int)×af))
def CI(x:ahK):aj (ahK⊕((((aa Int)×af×Int×Int×af)×((aa Int)×af))⊕Empty)):=letI C:=x.1.2.2;letI D:=C.2.2;letI E:=D.2.2.2.1;bif E<D.2.2.1 then xI D.2.1 E λI=>xL x.2.1 C.1 λL=>(KQ 2 (W6 (E*C.1))).bind λO=>(jv I O).bind λT=>xL x.2.1 C.1 λU=>xG ((x.1.1,(),C.1,C.2.1,D.1,D.2.1,D.2.2.1,(W6 (E+1)),()),((x.2.1.set C.1.toNat (bits .xor .i64 L T)),()))else az ((x.1.1,(),C.2.1,D.1,()),(x.2.1,()))
def awm:KY 38 (rF (bh f255) 0):=⟨2,lB 2 ⟨[(0,.lf (.aH .int 0)),(3,.lf (.own 10)),(4,tI),(12,tI),(13,tI),(16,.lf (.aH .int 0)),(17,tI),(18,tI)],[(10,.sl .int 2)],[]⟩ [(4,ac9)] CI,lp [KP,ahJ]⟩
abbrev ahL:=(((aa Int)×af×Int×Int×af)×((aa Int)×af))
def FC(x:ahL):aj (ahL⊕(((af×af)×((aa Int)×af))⊕Empty)):=letI C:=x.1.2.2;bif C.2.1<C.1 then br CI ((x.1.1,(),C.2.1,C.1,C.2.1,x.1.1,(x.1.1.length:Int),0,()),(x.2.1,())) λD=>xG ((D.1.1,(),D.1.2.2.1,(W6 (D.1.2.2.2.1+1)),()),(D.2.1,()))else az (((),()),(x.2.1,()))
def awn:KY 38 (bh f255):=⟨0,lB 0 ac9 [(2,⟨[(3,.lf (.own 10))],[(10,.sl .int 2)],[]⟩)] FC,lq [] [awm]⟩
def Au(D:aa Int):aj ((aa Int)):=letI C:=(3:Int);(vr D 11).bind λE=>bif (!E)then some ([])else if 0 <= C/\C <= 3/\C<1073741824 then br FC ((D,(),((List.replicate C.toNat (0:Int)).length:Int),0,()),((List.replicate C.toNat (0:Int)),())) λI=>some I.2.1 else none
def XL:=cg ox mc (bL Au) 38 [Iq] [awn] func255
abbrev ahM:=((Int×Int×af)×(af))
def ahN(x:ahM):aj (ahM⊕(((Int×af)×(af))⊕(((af)×(af))⊕Empty))):=bif x.1.2.1 <= 15 then (jv x.1.1 x.1.2.1).bind λC=>bif (C==1)then az ((x.1.2.1,()),())else xG ((x.1.1,(W6 (x.1.2.1+1)),()),())else bf ((),())
def awo:KY 13 (bh f256):=⟨0,lB 0 adQ [(1,⟨[(2,tI)],[],[]⟩),(2,gx)] ahN,lp [KP]⟩
def CJ(C:Int):aj (Int):=bP ahN ((C,1,()),()) (λD=>some D.1.1) λE=>some (-1)
def ahO:=cg lK dD (bL CJ) 13 [] [awo] func256
def KR(T:aa Int):aj ((aa Int)):=letI D:=(1:Int);letI E:=(3:Int);letI C:=(0:Int);letI L:=(List.replicate E.toNat C)++T;(vr T 8).bind λy1=>bif (!y1)then some ([])else if 0 <= E/\E <= 3/\E<1073741824 then bif bD ((List.replicate E.toNat C).length+T.length)then (Au L).bind λI=>xL I C λU=>xL I D λY=>xL I C λEF=>xL I (2:Int) λrJ=>letI Z:=bits .xor .i64 EF rJ;(CJ 4).bind λkj=>(jv 2 (bits .xor .i64 U Y)).bind λmR=>(jv 5 Z).bind λjL=>(jv (bits .xor .i64 mR jL) kj).bind λpH=>xL L D λFf=>(jv 3 Z).bind λlO=>(jv 5 (bits .xor .i64 U Y)).bind λuk=>(jv (bits .xor .i64 lO uk) kj).bind λvC=>letI O:=(L.set D.toNat pH).set (2:Int).toNat vC;xL (L.set D.toNat pH) (2:Int) λvB=>xL I C λAj=>xL O D λe33=>xL O (2:Int) λPJ=>xL O C λe39=>some (O.set C.toNat (bits .xor .i64 (bits .xor .i64 Aj e33) PJ))else none else none
def awp:=bx ox mc (bL KR) 63 [Iq,XL,ahO,KP] func186
abbrev ahP:=((Int×af×Int×af)×((aa Int)×af))
def KS(x:ahP):aj (ahP⊕(((af×af)×((aa Int)×af))⊕Empty)):=letI C:=x.1.2.2.1;letI D:=([(bits .and .i64 (x.1.1.fdiv (2 ^ (min (W6 (4*C)).toNat IntKind.i64.bits))) 15)]:aa Int);bif C<8 then if (W6 (4*C))<0 then none else bif bD (x.2.1.length+D.length)then xG ((x.1.1,(),(W6 (C+1)),()),((x.2.1++D),()))else none else az (((),()),(x.2.1,()))
def awq:KY 22 (bh f187):=⟨0,lB 0 ⟨[(0,tI),(3,.lf (.own 8)),(4,tI)],[(8,.sl .int 2)],[]⟩ [(2,⟨[(3,.lf (.own 8))],[(8,.sl .int 2)],[]⟩)] KS,lp []⟩
def QH(C:Int):aj ((aa Int)):=(B8 C).bind λD=>bif (!D)then some ([])else br KS ((C,(),0,()),(([]:aa Int),())) λE=>some E.2.1
def awr:=cg lK mc (bL QH) 22 [WH] [awq] func187
def FD(C:Int):aj ((aa Int)):=(B8 C).bind λD=>bif (!D)then some ([])else (QH C).bind λE=>(KR E).bind λI=>some I
def aws:=bx lK mc (bL FD) 9 [WH,awp,awr] func84
def QI(D:aa Int):aj (Bool):=(Au D).bind λC=>bif jC C then none else xL C (0:Int) λE=>bif (E==0)then xL C (1:Int) λI=>bif (I==0)then xL C (2:Int) λL=>some (L==0)else some false else some false
def awt:=bx ox cv (bL QI) 26 [XL] func260
abbrev ahQ:=((Int×Int×af)×(af))
def ahR(x:ahQ):aj (ahQ⊕(((Int×af)×(af))⊕(((af)×(af))⊕Empty))):=bif x.1.2.1<15 then (KQ 2 x.1.2.1).bind λC=>bif (C==x.1.1)then az ((x.1.2.1,()),())else xG ((x.1.1,(W6 (x.1.2.1+1)),()),())else bf ((),())
def awu:KY 13 (bh f261):=⟨0,lB 0 adQ [(1,⟨[(2,tI)],[],[]⟩),(2,gx)] ahR,lp [ahJ]⟩
def QJ(C:Int):aj (Int):=bP ahR ((C,0,()),()) (λD=>some D.1.1) λE=>some (-1)
def awv:=cg lK dD (bL QJ) 13 [] [awu] func261
def KT(I:aa Int):aj ((aa Int)×Int×Int):=letI C:=xA I;letI L:=some (C,2,(-1));(Au I).bind λE=>bif jC E then none else bif xZ I then (QI I).bind λT=>bif T then some (C,0,(-1))else xL E (0:Int) λU=>bif (U != 0)then xL E (1:Int) λY=>bif (Y != 0)then xL E (1:Int) λZ=>xL E (0:Int) λrJ=>(CJ rJ).bind λkj=>(jv Z kj).bind λO=>(QJ O).bind λD=>bif D<11 then xL E (1:Int) λXf=>xL E (2:Int) λXg=>(jv Xf O).bind λvC=>bif (vC==Xg)then xC C D (if h26:D.toNat<C.length then (let vB:=C[D.toNat]'h26;xL E (0:Int) λAj=>xC C D (if h32:D.toNat<C.length then (let e33:=C[D.toNat]'h32;some ((C.set D.toNat (bits .xor .i64 vB Aj)),1,D))else none))else none)else L else L else L else L else none
def ahS:=bx ox [(false,(.sl .int),2),(false,.int,0),(false,.int,0)] (bL KT) 64 [XL,ahO,KP,awt,awv] func190
abbrev ahT:=((Int×(aa Int)×Int×Int×af)×(af))
def KU(x:ahT):aj (ahT⊕(((Int×af)×(af))⊕Empty)):=letI C:=x.1.2.2.2.1;bif C<x.1.2.2.1 then xI x.1.2.1 C λD=>if (W6 (4*C))<0 then none else xG (((bits .or .i64 x.1.1 (W6 (D*2 ^ (min (W6 (4*C)).toNat IntKind.i64.bits)))),x.1.2.1,x.1.2.2.1,(W6 (C+1)),()),())else az ((x.1.1,()),())
def aww:KY 25 (bh f262):=⟨0,lB 0 ⟨[(4,tI),(10,.lf (.aH .int 0)),(11,tI),(12,tI)],[],[]⟩ [(2,xu)] KU,lp []⟩
def QK(C:aa Int):aj (Int×Bool):=(vr C 8).bind λD=>bif (!D)then some (0,false)else br KU ((0,C,(C.length:Int),0,()),()) λE=>some (E.1.1,true)
def awx:=cg ox [(false,.int,0),(false,.bool,0)] (bL QK) 25 [Iq] [aww] func262
def QL(D:aa Int):aj ((aa Int)):=letI C:=(D.length:Int);letI E:=(D.take C.toNat).drop (3:Int).toNat;(vr D 11).bind λI=>bif (!I)then some ([])else if 0 <= (3:Int)/\3 <= C/\C <= C then bif xZ E then some (xA E)else none else none
def awy:=bx ox mc (bL QL) 10 [Iq] func263
def QM(D:aa Int):aj (Int×Int×Int):=(KT D).bind λC=>bif (C.2.1==2)then some (0,C.2.1,C.2.2)else (QL C.1).bind λE=>(QK E).bind λI=>some (I.1,C.2.1,C.2.2)
def awz:=bx ox [(false,.int,0),(false,.int,0),(false,.int,0)] (bL QM) 29 [ahS,awx,awy] func191
def KV(C:aa cA):aj ((aa cA)):=bif xZ C then some (xA C)else none
def awA:=bx [(false,(.sl .gH))] [(false,(.sl .gH),2)] (bL KV) 6 [] func264
abbrev ahU:=((Int×Int×af×af×Int×Int×af)×((aa cA)×af))
def KW(x:ahU):aj (ahU⊕(((af×Bool×af)×((aa cA)×af))⊕(((Int×Int×af×af)×((aa cA)×af))⊕Empty))):=letI C:=x.1.2.2.2.2;letI E:=xG ((x.1.1,x.1.2.1,(),(),C.1,(W6 (C.2.1+1)),()),(x.2.1,()));bif C.2.1<C.1 then xL x.2.1 C.2.1 λD=>letI I:=W6 (D.times+1);bif (D.line==x.1.1)then bif (D.code==x.1.2.1)then xL x.2.1 C.2.1 λL=>az (((),true,()),((x.2.1.set C.2.1.toNat (⟨L.line,L.code,(if 999<I then 999 else I)⟩:cA)),()))else E else E else bf ((x.1.1,x.1.2.1,(),()),(x.2.1,()))
def awB:KY 69 (bh f192):=⟨0,lB 0 ac0 [(1,ado),(2,adl)] KW,lp []⟩
abbrev ahV:=((Int×Int×af×af×Int×Int×af)×((aa cA)×af))
def XM(x:ahV):aj (ahV⊕(((af×Bool×af)×((aa cA)×af))⊕(((Int×Int×af×af)×((aa cA)×af))⊕Empty))):=letI C:=x.1.2.2.2.2;letI E:=xG ((x.1.1,x.1.2.1,(),(),C.1,(W6 (C.2.1+1)),()),(x.2.1,()));bif C.2.1<C.1 then xL x.2.1 C.2.1 λD=>letI I:=W6 (D.times+1);bif (D.line==x.1.1)then bif (D.code==x.1.2.1)then xL x.2.1 C.2.1 λL=>az (((),true,()),((x.2.1.set C.2.1.toNat (⟨L.line,L.code,(if 999<I then 999 else I)⟩:cA)),()))else E else E else bf ((x.1.1,x.1.2.1,(),()),(x.2.1,()))
def awC:KY 69 (bh f192):=⟨0,lB 0 ac0 [(1,ado),(2,adl)] XM,lp []⟩
def QN(Z:aa cA)(x1 T:Int):aj ((aa cA)×Bool):=(KV Z).bind λU=>letI Y:=some (U,false);letI u4:=((x1,T,(),(),(U.length:Int),0,()),(U,()));(IA Z).bind λy2=>bif (!y2)then Y else (cB x1 0 1023).bind λy3=>bif (!y3)then Y else bif (T != 1)then bif (T != 2)then Y else bP KW u4 (λgQ=>some (gQ.2.1,gQ.1.2.1)) λC=>letI E:=(C.2.1.length:Int);letI L:=([(⟨C.1.1,C.1.2.1,1⟩:cA)]:aa cA);bif (E==6)then if 0 <= (1:Int)/\1 <= E/\E <= E then (KV ((C.2.1.take (E.toNat)).drop ((1:Int).toNat))).bind λhU=>bif bD (hU.length+L.length)then some ((hU++L),true)else none else none else bif bD (C.2.1.length+L.length)then some ((C.2.1++L),true)else none else bP XM u4 (λQO=>some (QO.2.1,QO.1.2.1)) λD=>letI I:=(D.2.1.length:Int);letI O:=([(⟨D.1.1,D.1.2.1,1⟩:cA)]:aa cA);bif (I==6)then if 0 <= (1:Int)/\1 <= I/\I <= I then (KV ((D.2.1.take (I.toNat)).drop ((1:Int).toNat))).bind λlO=>bif bD (lO.length+O.length)then some ((lO++O),true)else none else none else bif bD (D.2.1.length+O.length)then some ((D.2.1++O),true)else none
def awD:=cg Wg [(false,(.sl .gH),2),(false,.bool,0)] (fC QN) 69 [eM,aev,awA] [awB,awC] func192
def Av(C:av)(E D:Int):aj ((af)×(av×af)):=bif (D != 0)then (QN C.errors E D).bind λI=>some ((),({C with errors:=I.1},()))else some ((),(C,()))
def awE:=jJ adM [] (fC Av) 21 [awD] func109
def QS(C:aa aZ)(E D:Int):aj (((aa aZ))×((aa aZ)×af)):=if 0 <= E/\E <= D/\D <= (C.length:Int)/\(C.length:Int) <= (C.length:Int)then bif (E==D)then some (C,([],()))else if 0 <= (0:Int)/\0 <= E/\E <= (C.length:Int)then if 0 <= D/\D <= (C.length:Int)/\(C.length:Int) <= (C.length:Int)then if E.toNat <= D.toNat/\D.toNat <= (C.length:Int).toNat/\(C.length:Int).toNat <= C.length/\0<C.length then if 0 <= (((E.toNat+((C.length:Int).toNat-D.toNat))-0:Nat):Int)/\(((E.toNat+((C.length:Int).toNat-D.toNat))-0:Nat):Int) <= (C.length:Int)/\(C.length:Int) <= ((splice C E.toNat ((C.take ((C.length:Int).toNat)).drop D.toNat)).length:Int)then if (((E.toNat+((C.length:Int).toNat-D.toNat))-0:Nat):Int).toNat <= (C.length:Int).toNat/\(C.length:Int).toNat <= (splice C E.toNat ((C.take ((C.length:Int).toNat)).drop D.toNat)).length then some (((splice (splice C E.toNat ((C.take ((C.length:Int).toNat)).drop D.toNat)) ((((E.toNat+((C.length:Int).toNat-D.toNat))-0:Nat):Int).toNat) (List.replicate ((C.length:Int).toNat-(((E.toNat+((C.length:Int).toNat-D.toNat))-0:Nat):Int).toNat) (⟨0,0,0,false,0,0⟩:aZ))).take (E.toNat+((C.length:Int).toNat-D.toNat))),([],()))else none else none else none else none else none else none
def awF:KX:=⟨253,.c ⟨[.s .dM 1000000,.v false .int,.v false .int],[(false,(.sl .dM),2)],λx=>QS x.1 x.2.1 x.2.2.1⟩,km 33 [] func253⟩
def Aw(C:av)(D:Int):aj ((Int×Int)×(av×af)):=xL C.array.cells D λL=>bif L.jm then some ((0,2),(C,()))else xM C.array.cells D λe5=>xM C.array.cells D λO=>(KT O.symbols).bind λT=>xM C.array.cells D λqj=>xM C.array.cells D λU=>(QM U.symbols).bind λE=>letI I:=(E.1,E.2.1);bif (E.2.1==1)then xM C.array.cells D λY=>some (I,({C with array:=⟨(C.array.cells.set D.toNat (⟨T.1,Y.jm⟩:cq)),C.array.bC,C.array.bw⟩},()))else bif (E.2.1==2)then xM C.array.cells D λZ=>some (I,({C with array:=⟨(C.array.cells.set D.toNat (⟨Z.symbols,true⟩:cq)),C.array.bC,C.array.bw⟩},()))else some (I,(C,()))
def awG:=jJ Wm [(false,.int,0),(false,.int,0)] (bY Aw) 55 [ahS,awz] func108
def QT(C:av)(O:Int):aj ((af)×(av×af)):=letI E:=(4:Int);xL C.queue O λD=>letI U:=([(⟨D.id,C.now,0,0⟩:fK)]:aa fK);(vE C D.line).bind λy4=>letI T:=KH C.config.ax y4.1;(QS C.queue O (W6 (O+1))).bind λY=>if 0 <= E/\E <= 4/\E<1073741824 then xL (List.replicate E.toNat false) D.dL λe8=>(qk C.shares ((List.replicate E.toNat false).set D.dL.toNat true)).bind λZ=>bif D.write then T.bind λlM=>(FD D.data).bind λgK=>xL C.array.cells lM λrJ=>bif bD (C.cr.length+U.length)then some ((),({C with array:=⟨(C.array.cells.set lM.toNat (⟨gK,false⟩:cq)),C.array.bC,C.array.bw⟩,queue:=Y.1,shares:=Z.1,cr:=(C.cr++U)},()))else none else T.bind λkj=>(Aw {C with queue:=Y.1,shares:=Z.1} kj).bind λI=>letI L:=I.2.1;letI u1:=([(⟨D.id,L.now,I.1.1,I.1.2⟩:fK)]:aa fK);bif bD (L.cr.length+u1.length)then T.bind λjL=>(Av {L with cr:=(L.cr++u1)} jL I.1.2).bind λpH=>some ((),(pH.2.1,()))else none else none
def awH:=jJ HX [] (bY QT) 125 [Xx,aws,awG,awE,ahr,agS,awF] func175
def QU(C:fA)(E I:Int):aj (fA×Bool):=letI L:=some ((⟨0,I,C.idle⟩:fA),true);letI D:=some (C,false);(B9 C).bind λO=>bif (!O)then D else (cB I C.since 1000000).bind λT=>bif (!T)then D else bif (E==6)then bif (C.state != 0)then D else some ((⟨1,I,C.idle⟩:fA),true)else bif (E==8)then bif (C.state != 0)then D else some ((⟨2,I,C.idle⟩:fA),true)else bif (E==7)then bif (C.state != 1)then D else L else bif (E==9)then bif (C.state != 2)then D else L else bif (C.state != (-1))then D else L
def awI:=bx [(true,.Power),(false,.int),(false,.int)] [(true,.Power,0),(false,.bool,0)] (fC QU) 40 [eM,WI] func176
abbrev ahW:=(((aa aM)×aE×Int×Int×af)×(af))
def KZ(x:ahW):aj (ahW⊕(((Int×af)×(af))⊕(((af)×(af))⊕Empty))):=letI C:=x.1.2.2.2.1;bif C<x.1.2.2.1 then xI x.1.1 C λD=>bif (D.ay==x.1.2.1.ay)then az ((C,()),())else xG ((x.1.1,x.1.2.1,x.1.2.2.1,(W6 (C+1)),()),())else bf ((),())
def awJ:KY 19 (bh f252):=⟨0,lB 0 ⟨[(0,.lf (.aH .Addr 0)),(1,.fc 172 .Command),(7,tI),(8,tI)],[],[]⟩ [(1,xu),(2,gx)] KZ,lp [⟨172,.i _,ahD⟩]⟩
def QV(C:aa aM)(D:aE):aj (Int):=(iter KZ aP ((C,D,(C.length:Int),0,()),())).bind (Sum.elim (λE=>some E.1.1) (Sum.elim (λI=>some (-1)) (λz=>nomatch z)))
def awK:KX:=⟨252,.q (gP [(false,(.sl .Addr)),(false,(.fnCommand 172))] [(false,.int,0)] λx=>QV x.1 x.2.1),kq 19 [] [awJ] func252⟩
abbrev ahX:=((af×aE×Int×Int×af)×((aa aM)×af))
def K0(x:ahX):aj (ahX⊕(((af×Int×af)×((aa aM)×af))⊕Empty)):=letI C:=x.1.2.2;bif C.2.1<(x.2.1.length:Int)then xL x.2.1 C.2.1 λD=>bif (!(D.ay==x.1.2.1.ay))then xL x.2.1 C.1 λE=>xG (((),x.1.2.1,(W6 (C.1+1)),(W6 (C.2.1+1)),()),((x.2.1.set C.1.toNat D),()))else xG (((),x.1.2.1,C.1,(W6 (C.2.1+1)),()),(x.2.1,()))else az (((),C.1,()),(x.2.1,()))
def awL:KY 42 (bh f171):=⟨0,lB 0 ⟨[(0,.lf (.own 98000)),(1,.fc 172 .Command),(5,tI),(6,tI)],Wh,[]⟩ [(2,adi)] K0,lp [⟨172,.i _,ahD⟩]⟩
def QW(D:aa aM)(I:aE):aj (((aa aM))×((aa aM)×af)):=(QV D I).bind λE=>bif (E==(-1))then some (D,([],()))else (iter K0 aP (((),I,E,(W6 (E+1)),()),(D,()))).bind (Sum.elim (λC=>if 0 <= C.1.2.1/\C.1.2.1 <= (C.2.1.length:Int)/\(C.2.1.length:Int) <= (C.2.1.length:Int)then if C.1.2.1.toNat <= (C.2.1.length:Int).toNat/\(C.2.1.length:Int).toNat <= C.2.1.length then if 0 <= (0:Int)/\0 <= C.1.2.1/\C.1.2.1 <= ((splice C.2.1 C.1.2.1.toNat (List.replicate ((C.2.1.length:Int).toNat-C.1.2.1.toNat) (⟨0,0,0⟩:aM))).length:Int)then some (((splice C.2.1 C.1.2.1.toNat (List.replicate ((C.2.1.length:Int).toNat-C.1.2.1.toNat) (⟨0,0,0⟩:aM))).take C.1.2.1.toNat),([],()))else none else none else none) (λz=>nomatch z))
def awM:KX:=⟨171,.c ⟨[.s .Addr 1000000,.v false (.fnCommand 172)],[(false,(.sl .Addr),2)],λx=>QW x.1 x.2.1⟩,kn 42 [awK] [awL] func171⟩
def awN:bG:=⟨[(0,.aG 20000 0),(130,tI),(131,tI)],[],NT⟩
def awO:aa (Nat×bG):=[(3,Wv)]
abbrev ahY:=((af×Int×Int×af)×(av×af))
def xQ(x:ahY):aj (ahY⊕(((af)×(av×af))⊕Empty)):=letI C:=x.1.2.2.1;bif C<x.1.2.1 then (QE x.2.1 C).bind λE=>(KO E.2.1 C).bind λI=>letI D:=I.2.1;xL D.aS.aJ C λL=>xG (((),x.1.2.1,(W6 (C+1)),()),({D with aS:=⟨(D.aS.aJ.set C.toNat (0:Int)),D.aS.wait,D.aS.eP⟩},()))else az ((),(x.2.1,()))
def XN:KY 148 (bh f71):=⟨1,lB 1 awN awO xQ,lp [ahC,ahE]⟩
def K1(D:av)(C:aE)(x2:Int):aj ((af)×(av×af)):=letI L:=C.kind != 9;letI u2:=([(⟨D.now,C⟩:bW)]:aa bW);letI O:=D.trace++u2;bif bD (D.trace.length+u2.length)then (EE D.config.ax D.ready (⟨D.now,C⟩:bW)).bind λT=>(xy D.config.ax D.aY C).bind λU=>letI Y:={D with aY:=U.1,ready:=T,trace:=O};(let Kx:av -> aj ((af)×(av×af)):=λZ=>bif L then some ((),(Z,()))else br xQ (((),(Z.bI.length:Int),0,()),({Z with pending:=([]:aa aM)},())) (λQO=>some ((),(QO.2.1,())));let J9:Int -> Int -> Int -> aj ((af)×(av×af)):=λOI OJ EH=>bif L then some ((),({D with aY:=U.1,ready:=T,aT:=⟨OI,OJ,EH⟩,trace:=O},()))else br xQ (((),(D.bI.length:Int),0,()),({D with aY:=U.1,ready:=T,pending:=([]:aa aM),aT:=⟨OI,OJ,EH⟩,trace:=O},())) (λz36=>some ((),(z36.2.1,())));letI u4:=J9 D.aT.state D.aT.since D.aT.idle;bif (C.kind==1)then (QD Y C).bind λy3=>(Kx y3.2.1)else bif (C.kind==5)then (QE Y C.ay).bind λy4=>letI u3:=y4.2.1;(QW u3.pending C).bind λy5=>(KO {u3 with pending:=y5.1} C.ay).bind λy6=>letI E:=y6.2.1;(QG E.aS C.ay).bind λy7=>bif L then some ((),({E with aS:=y7.1},()))else br xQ (((),(E.bI.length:Int),0,()),({E with aS:=y7.1,pending:=([]:aa aM)},())) λW5=>some ((),(W5.2.1,()))else (let EA:Bool -> aj ((af)×(av×af)):=λj8=>bif j8 then (QT Y x2).bind λy9=>(Kx y9.2.1)else (let I:Bool -> aj ((af)×(av×af)):=λCc=>bif Cc then (QU D.aT C.kind D.now).bind λgK=>(J9 gK.1.state gK.1.since gK.1.idle)else u4;bif (C.kind==6)then (I (C.kind==6))else bif (C.kind==7)then (I (C.kind==7))else bif (C.kind==8)then (I (C.kind==8))else (I (C.kind==9)));bif (C.kind==2)then (EA (C.kind==2))else (EA (C.kind==3))))else none
def awP:=ow adN [] (fC K1) 148 [WK,aeH,awg,ahC,awM,ahE,awj,awH,awI] [XN,XN,XN] func71
def rK(C:av)(D:aE)(I:Int):aj (av×Bool):=(KG C).bind λT=>letI E:=some (T,false);letI O:=(K1 T D I).bind λZ=>some (Z.2.1,true);(zV C).bind λy2=>bif (!y2)then E else (iW C D).bind λy3=>bif (!y3)then E else bif (C.trace.length:Int) >= 2000 then E else (cB I 0 (W6 ((C.queue.length:Int)-1))).bind λU=>letI Y:=bif (C.cr.length:Int) >= 400 then E else bif (!U)then E else xI C.queue I λe6=>(vE C e6.line).bind λy7=>xI C.queue I λe9=>(xO C.aY y7.1 e9.write).bind λL=>bif (!((L.kind==D.kind)&&((L.ay==D.ay)&&((L.row==D.row)&&((L.bO==D.bO)&&true)))))then E else O;bif (D.kind==2)then Y else bif (D.kind==3)then Y else bif (I != (-1))then bif (!U)then E else O else O
def awQ:=bx [(true,.cO),(true,.Command),(false,.int)] [(true,.cO,4),(false,.bool,0)] (fC rK) 88 [Oh,avW,eM,Fi,Xx,agO,awP] func22
def XO(I:aa Int):aj (Bool):=(Ww I).bind λT=>bif T then some true else (P9 I).bind λD=>(sM D).bind λC=>bif (C.1.kind==0)then (Qv D).bind λL=>bif (L.1.kind==0)then bif (L.2==(-1))then some (C.2==(-1))else some false else some false else (rK D C.1 C.2).bind λE=>letI O:=(E.1.queue.length:Int)==(W6 ((D.queue.length:Int)-1));bif (!E.2)then some false else (zV E.1).bind λU=>bif (!U)then some false else bif ((E.1.trace.length:Int) != (W6 ((D.trace.length:Int)+1)))then some false else (Oy E.1).bind λY=>bif Y then bif C.2<0 then some true else bif (C.1.kind==2)then some (O==true)else some (O==(C.1.kind==3))else some false
def awR:iR:=gP [(false,(.sl .u8))] [(false,.bool,0)] (λx=>XO x.1)
def awS:enters Tryz.prog 5/\iu Tryz.prog 5 awR:=kp 87 [apV,aqZ,Oh,auk,avt,avE,awQ] func5
end Go.Proofs.YtgjfmljpdnnihaaGreat
