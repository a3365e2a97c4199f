/-
  Functions of the program as plain functions of contents, and that the code computes them. Nothing here is a claim.
-/
import Derived.Test.YtglnbhiaknohlaaGreatVZ
import Derived.Test.YtglnbhiaknohlaaGreatRows
import Derived.Test.YtglnbhiaknohlaaGreatRep
import Derived.Test.YtglnbhiaknohlaaGreatG1
import Derived.Test.YtglnbhiaknohlaaGreatG2
import Derived.Test.YtglnbhiaknohlaaGreatG3
import Derived.Test.YtglnbhiaknohlaaGreatG4
import Derived.Test.YtglnbhiaknohlaaGreatG5
import Derived.Test.YtglnbhiaknohlaaGreatG6
namespace Go.Proofs.YtglnbhiaknohlaaGreat
set_option linter.defProp false
open Go.RowKit Go.Proofs.Tryz
set_option linter.unusedVariables false
set_option maxRecDepth 100000
def QU(O:aM)(J:dG)(C:eY):ah (dG):=letI Q:=([C.at_]:aa Int);(Fj J).bind λD=>letI L:=((D.bf++Q).length:Int);letI E:=W6 (L-4);letI T:=((D.bf++Q).take (L.toNat)).drop ((if E > 0 then E else 0).toNat);(let I:Bool -> ah (dG):=λZ=>bif Z then some D else (QT O C.cmd).bind λU=>letI Y:=D.last.set U.toNat C.at_;xL D.last U λPv=>bif (C.cmd.kind==1)then bif bC (D.bf.length+Q.length)then if 0 <= (if E > 0 then E else 0)/\(if E > 0 then E else 0) <= L/\L <= L then bif xZ T then some (⟨Y,(xA T)⟩:dG)else none else none else none else some (⟨Y,D.bf⟩:dG);(Fa O J).bind λy2=>bif (!y2)then (I true)else (Fp O C.cmd).bind λy3=>bif (!y3)then (I true)else (cE C.at_ 0 1000000).bind λy4=>bif (!y4)then (I true)else bif (C.cmd.kind==1)then bif (J.bf.length:Int) > 0 then xI J.bf (W6 ((J.bf.length:Int)-1)) λe6=>(I (decide (C.at_ <= e6)))else (I false)else (I false))
def avd:=bw [(true,.fM),(true,.kU),(true,.Event)] [(true,.kU,2)] (fz QU) 84 [ew,Yg,Yv,ahf,avc] func142
def KS(J:aM)(E:cK)(C:aH):ah (cK×Bool):=(Fi E).bind λD=>letI I:=some ((⟨D.aC,0⟩:cK),true);(KO J E C).bind λL=>bif (!L)then some (D,false)else bif (C.kind==1)then xL D.aC C.ax λO=>some ((⟨(D.aC.set C.ax.toNat (⟨true,C.row⟩:eP)),D.bg⟩:cK),true)else bif (C.kind==4)then xL D.aC C.ax λQ=>some ((⟨(D.aC.set C.ax.toNat (⟨false,0⟩:eP)),D.bg⟩:cK),true)else bif (C.kind==6)then some ((⟨D.aC,1⟩:cK),true)else bif (C.kind==8)then some ((⟨D.aC,2⟩:cK),true)else bif (C.kind==7)then bif (C.kind==7)then I else some (D,true)else bif (C.kind==9)then I else some (D,true)
def ave:=bw [(true,.fM),(true,.gV),(true,.Command)] [(true,.gV,2),(false,.bool,0)] (fz KS) 48 [ahy,ahe] func143
def Fs(J C:Int):ah ((aa Int)):=letI I:=W6 (J-1);letI D:=([(W6 (C+1))]:aa Int);letI E:=([(W6 (C-1))]:aa Int);(cE J 2 16).bind λL=>bif (!L)then some ([])else (cE C 0 I).bind λO=>bif (!O)then some ([])else bif C > 0 then bif xZ E then bif C<I then bif bC ((xA E).length+D.length)then some ((xA E)++D)else none else some (xA E)else none else bif C<I then bif xZ D then some (xA D)else none else some ([]:aa Int)
def ahC:=bw BY mm (bS Fs) 34 [ew] func232
def KT(D:aM)(C:aK):ah (Int):=(Cv D C).bind λE=>bif (!E)then some (-1)else some (W6 ((W6 ((W6 ((W6 (C.ax*D.rows))+C.row))*D.aN))+C.bT))
def ahD:=bw ON dN (bS KT) 23 [Yj] func239
def QV(I:aM)(C:kR)(D:dm)(J L:Int):ah (Bool):=letI E:=W6 ((W6 (J*I.rows))+L);xI D.bz E λO=>bif O > C.bz then some true else xI D.br E λQ=>some (Q > C.br)
def avf:=bw [(true,.fM),(true,.r4),(true,.Array),(false,.int),(false,.int)] cm (Iw QV) 36 [] func312
def ahE:enters Tryz.prog 230/\qm Tryz.prog 230 (cj Tryz.prog f230 1 []):=OD (Iv 1 [] func230 trivial)
def QW(I:cr)(J L:Int):ah (cr×Bool):=(Fl I).bind λC=>(let O:Bool -> ah (cr×Bool):=λj5=>bif j5 then some (C,false)else (Cu C.rows J).bind λT=>(let Q:Int -> (aa Int) -> ah (cr×Bool):=λD B6=>(let U:Int -> (aa Int) -> ah (cr×Bool):=λKf Y=>letI Z:=(⟨B6,Y,Kf⟩:cr);(Aj Z).bind λlG=>bif (!lG)then (Fl I).bind λtY=>some (tY,false)else (let k28:Bool -> ah (cr×Bool):=λYa=>some (Z,Ya);bif D >= 0 then xL Y D λYA=>letI u1:=k28 ((YA.tmod L)==0);if L=0 then none else u1 else (k28 false));letI u0:=U (W6 (C.dc+1)) C.counts;bif D >= 0 then xL C.counts D λCa=>xL C.counts D λe19=>(U C.dc (C.counts.set D.toNat (W6 (Ca+1))))else u0);bif T<0 then (Cu C.counts C.dc).bind λE=>bif E >= 0 then xL C.rows E λX8=>(Q E (C.rows.set E.toNat J))else (Q E C.rows)else (Q T C.rows));(Aj I).bind λy2=>bif (!y2)then (O true)else (cE J 0 15).bind λy3=>bif (!y3)then (O true)else (cE L 2 1000).bind λy4=>(O (!y4)))
def avg:=bw [(true,.gD),(false,.int),(false,.int)] [(true,.gD,2),(false,.bool,0)] (fz QW) 75 [ew,ahk,ag0,Yi] func231
def YB(C:aa aK)(D:aK):ah (Bool):=(Fc C D).bind λE=>some (decide (E >= 0))
def avh:=bw Xo cm (bS YB) 9 [ag2] func233
def avi:bJ:=⟨[(2,.aG 20000 50),(3,tI),(4,tI),(5,.aG 5 0),(10,tI)],[(5,.aB fA)],lC⟩
def avj:aa (Nat×bJ):=[(2,⟨[(2,.aG 20000 50),(3,tI),(4,tI),(5,.aG 5 0)],[(5,.aB fA)],lC⟩)]
abbrev ahF:=((af×Int×Int×af×Int×af)×(av×(Int×Int×Int×Int×af)×af))
def CA(x:ahF):ah (ahF⊕(((af×Int×Int×af×af)×(av×(Int×Int×Int×Int×af)×af))⊕Empty)):=letI L:=(1:Int);letI O:=(0:Int);letI I:=x.1.2.2;letI E:=x.2.2.1;letI D:=x.2.1;bif I.2.2.1<E.2.2.2.1 then (KT (⟨E.1,E.2.1,E.2.2.1,E.2.2.2.1⟩:aM) (⟨x.1.2.1,I.1,I.2.2.1⟩:aK)).bind λC=>xL D.array.cells C λe5=>xM D.array.cells C λU=>xC U.symbols O (xM D.array.cells C λY=>xM Y.symbols O λZ=>xM D.array.cells C λe15=>xC e15.symbols O (xM D.array.cells C λQ=>xM Q.symbols O λe19=>xM D.array.cells C λE0=>letI J:=D.array.cells.set C.toNat (⟨(Q.symbols.set O.toNat (bits .xor .i64 Z 5)),E0.ir⟩:bY);xM J C λe24=>xC e24.symbols L (xM J C λYA=>xM YA.symbols L λXV=>xM J C λe31=>xC e31.symbols L (xM J C λT=>xM T.symbols L λe35=>xM J C λYC=>xG (((),x.1.2.1,I.1,(),(W6 (I.2.2.1+1)),()),({D with array:=⟨(J.set C.toNat (⟨(T.symbols.set L.toNat (bits .xor .i64 XV 10)),YC.ir⟩:bY)),D.array.bz,D.array.br⟩},E,()))))))else ay (((),x.1.2.1,I.1,(),()),(D,E,()))
def avk:KY 101 (aZ f229):=⟨0,lB 0 avi avj CA,lp [ahD]⟩
def avl:bJ:=⟨ad1,[(1000000000175000,.sl .int 2)],lC⟩
def avm:aa (Nat×bJ):=[(4,Et)]
abbrev ahG:=((af×Int×af×Int×Int×af)×(av×(aa Int)×af))
def Ak(x:ahG):ah (ahG⊕(((af)×(av×af))⊕Empty)):=letI D:=x.1.2.2.2;letI C:=x.2.1;bif D.2.1<D.1 then xL x.2.2.1 D.2.1 λJ=>letI E:=W6 (x.1.2.1+J);xL C.array.br E λL=>letI I:=W6 (L+1);xL C.array.br E λO=>xG (((),x.1.2.1,(),D.1,(W6 (D.2.1+1)),()),({C with array:=⟨C.array.cells,C.array.bz,(C.array.br.set E.toNat (if 100000<I then 100000 else I))⟩},x.2.2.1,()))else ay ((),(C,()))
def avn:KY 101 (aZ f229):=⟨2,lB 2 avl avm Ak,lp []⟩
def avo:bJ:=⟨ad1,[(1000000000175000,.sl .int 2)],lC⟩
def avp:aa (Nat×bJ):=[(4,Et)]
abbrev ahH:=((af×Int×af×Int×Int×af)×(av×(aa Int)×af))
def YD(x:ahH):ah (ahH⊕(((af)×(av×af))⊕Empty)):=letI D:=x.1.2.2.2;letI C:=x.2.1;bif D.2.1<D.1 then xL x.2.2.1 D.2.1 λJ=>letI E:=W6 (x.1.2.1+J);xL C.array.br E λL=>letI I:=W6 (L+1);xL C.array.br E λO=>xG (((),x.1.2.1,(),D.1,(W6 (D.2.1+1)),()),({C with array:=⟨C.array.cells,C.array.bz,(C.array.br.set E.toNat (if 100000<I then 100000 else I))⟩},x.2.2.1,()))else ay ((),(C,()))
def avq:KY 101 (aZ f229):=⟨2,lB 2 avo avp YD,lp []⟩
def KU(C:aM)(Z:kR)(D:av)(J L:Int):ah ((af)×(av×af)):=letI O:=W6 ((W6 (J*C.rows))+L);(QV C Z D.array J L).bind λy1=>bif y1 then bu CA (((),J,L,(),0,()),(D,(C.cu,C.aC,C.rows,C.aN,()),())) λE=>letI T:=W6 (E.1.2.1*E.2.2.1.2.2.1);letI I:=E.2.1;letI Q:=W6 (T+E.1.2.2.1);xL I.array.bz Q λe41=>xL I.array.br Q λe44=>(Fs E.2.2.1.2.2.1 E.1.2.2.1).bind λU=>bu Ak (((),T,(),(U.length:Int),0,()),({I with array:=⟨I.array.cells,(I.array.bz.set Q.toNat (0:Int)),(I.array.br.set Q.toNat (0:Int))⟩},U,())) λz55=>some ((),(z55.2.1,()))else xL D.array.bz O λe58=>xL D.array.br O λe61=>(Fs C.rows L).bind λY=>bu YD (((),(W6 (J*C.rows)),(),(Y.length:Int),0,()),({D with array:=⟨D.array.cells,(D.array.bz.set O.toNat (0:Int)),(D.array.br.set O.toNat (0:Int))⟩},Y,())) λz73=>some ((),(z73.2.1,()))
def ahI:=oC ad7 [] (Iw KU) 101 [ahC,avf] [avk,avn,avq] func229
abbrev ahJ:=(((aa aK)×aK×Int×Int×af)×(af))
def KV(x:ahJ):ah (ahJ⊕(((Int×af)×(af))⊕(((af)×(af))⊕Empty))):=letI C:=x.1.2;letI D:=C.2.2.1;bif D<C.2.1 then xI x.1.1 D λE=>bif ((E.ax==C.1.ax)&&((E.row==C.1.row)&&((E.bT==C.1.bT)&&true)))then ay ((D,()),())else xG ((x.1.1,C.1,C.2.1,(W6 (D+1)),()),())else aV ((),())
def avr:KY 19 (aZ f234):=⟨0,lB 0 ⟨[(0,.lf (.aD .Addr 0)),(1,.fc 230 .Addr),(7,tI),(8,tI)],[],[]⟩ [(1,wZ),(2,fG)] KV,lp [⟨230,.i _,ahE⟩]⟩
def QX(C:aa aK)(D:aK):ah (Int):=(iter KV aP ((C,D,(C.length:Int),0,()),())).bind (Sum.elim (λE=>some E.1.1) (Sum.elim (λI=>some (-1)) (λz=>nomatch z)))
def avs:KX:=⟨234,.q (gp [(false,(.sl .Addr)),(false,(.yu 230))] [(false,.int,0)] λx=>QX x.1 x.2.1),kq 19 [] [avr] func234⟩
abbrev ahK:=((af×aK×Int×Int×af)×((aa aK)×af))
def KW(x:ahK):ah (ahK⊕(((af×Int×af)×((aa aK)×af))⊕Empty)):=letI D:=x.1.2.1;letI C:=x.1.2.2;bif C.2.1<(x.2.1.length:Int)then xL x.2.1 C.2.1 λE=>bif (!((E.ax==D.ax)&&((E.row==D.row)&&((E.bT==D.bT)&&true))))then xL x.2.1 C.1 λI=>xG (((),D,(W6 (C.1+1)),(W6 (C.2.1+1)),()),((x.2.1.set C.1.toNat E),()))else xG (((),D,C.1,(W6 (C.2.1+1)),()),(x.2.1,()))else ay (((),C.1,()),(x.2.1,()))
def avt:KY 42 (aZ f146):=⟨0,lB 0 ⟨[(0,.lf (.own 98000)),(1,.fc 230 .Addr),(5,tI),(6,tI)],Xm,[]⟩ [(2,ad3)] KW,lp [⟨230,.i _,ahE⟩]⟩
def QY(D:aa aK)(I:aK):ah (((aa aK))×((aa aK)×af)):=(QX D I).bind λE=>bif (E==(-1))then some (D,([],()))else (iter KW aP (((),I,E,(W6 (E+1)),()),(D,()))).bind (Sum.elim (λC=>if 0 <= C.1.2.1/\C.1.2.1 <= (C.2.1.length:Int)/\(C.2.1.length:Int) <= (C.2.1.length:Int)then if C.1.2.1.toNat <= (C.2.1.length:Int).toNat/\(C.2.1.length:Int).toNat <= C.2.1.length then if 0 <= (0:Int)/\0 <= C.1.2.1/\C.1.2.1 <= ((splice C.2.1 C.1.2.1.toNat (List.replicate ((C.2.1.length:Int).toNat-C.1.2.1.toNat) (⟨0,0,0⟩:aK))).length:Int)then some (((splice C.2.1 C.1.2.1.toNat (List.replicate ((C.2.1.length:Int).toNat-C.1.2.1.toNat) (⟨0,0,0⟩:aK))).take C.1.2.1.toNat),([],()))else none else none else none) (λz=>nomatch z))
def avu:KX:=⟨146,.c ⟨[.s .Addr 1000000,.v false (.yu 230)],[(false,(.sl .Addr),2)],λx=>QY x.1 x.2.1⟩,kn 42 [avs] [avt] func146⟩
def avv:bJ:=⟨[(0,.aG 20000 0),(3,.aG 3 0),(80,.lf (.own 1000000000180000)),(81,tI),(82,tI)],[(3,.aB fA),(1000000000180000,.sl .int 2)],adR⟩
def avw:aa (Nat×bJ):=[(2,⟨[],[],adR⟩)]
abbrev ahL:=((af×af×af×Int×Int×af)×(av×(Int×Int×Int×Int×af)×(aa Int)×af))
def Ft(x:ahL):ah (ahL⊕(((af)×(av×af))⊕Empty)):=letI D:=x.1.2.2.2;letI I:=((),(),(),D.1,(W6 (D.2.1+1)),());letI C:=x.2.1;bif D.2.1<D.1 then xL x.2.2.2.1 D.2.1 λJ=>letI E:=(⟨x.2.2.1.2.1,J,0⟩:aK);(YB C.pending E).bind λL=>bif (!L)then bif bC (C.pending.length+([E]:aa aK).length)then xG (I,({C with pending:=(C.pending++([E]:aa aK))},x.2.2.1,x.2.2.2.1,()))else none else xG (I,(C,x.2.2.1,x.2.2.2.1,()))else ay ((),(C,()))
def avx:KY 108 (aZ f144):=⟨0,lB 0 avv avw Ft,lp [avh]⟩
def QZ(C:av)(D:aH):ah ((af)×(av×af)):=(KU C.config.az C.config.dU (⟨C.config,C.box,C.now,C.bq,C.ready,C.array,C.spare,C.aQ,C.bO,C.guard,C.pending,C.queue,C.shares,C.drain,C.bg,C.cM,C.errors,C.trace,C.cz⟩:av) D.ax D.row).bind λO=>letI E:=O.2.1;(QY E.pending (⟨D.ax,D.row,0⟩:aK)).bind λQ=>xL E.bO D.ax λT=>xL E.guard D.ax λU=>xM E.bO D.ax λY=>xM E.bO D.ax λZ=>(QW (⟨Y.rows,Z.counts,T.dc⟩:cr) D.row U).bind λI=>letI J:={E with bO:=(E.bO.set D.ax.toNat I.1),pending:=Q.1};xL E.bO D.ax λCa=>bif (!I.2)then some ((),(J,()))else (Fs C.config.az.rows D.row).bind λL=>bu Ft (((),(),(),(L.length:Int),0,()),(J,(D.kind,D.ax,D.row,D.bT,()),L,())) λJp=>some ((),(Jp.2.1,()))
def avy:=oC [.p .cO 4 0,.v true .Command] [] (bS QZ) 108 [avu,ahI,avg,ahC] [avx] func144
abbrev ahM:=((af×Int×Int×af)×(av×af))
def KZ(x:ahM):ah (ahM⊕(((af)×(av×af))⊕Empty)):=bif x.1.2.2.1<x.2.1.config.az.rows then (KU x.2.1.config.az x.2.1.config.dU x.2.1 x.1.2.1 x.1.2.2.1).bind λC=>xG (((),x.1.2.1,(W6 (x.1.2.2.1+1)),()),(C.2.1,()))else ay ((),(x.2.1,()))
def avz:KY 31 (aZ f145):=⟨0,lB 0 ⟨aqH,[],lC⟩ [(2,Et)] KZ,lp [ahI]⟩
def Q0(C:av)(D:Int):ah ((af)×(av×af)):=bu KZ (((),D,0,()),(C,())) λE=>some ((),(E.2.1,()))
def ahN:=oC IC [] (bS Q0) 31 [] [avz] func145
def ahO:enters Tryz.prog 147/\qm Tryz.prog 147 (cj Tryz.prog f147 1 []):=OD (Iv 1 [] func147 trivial)
def Q1(C:Int):ah (cr×Bool):=(cE C 1 16).bind λD=>bif (!D)then some ((⟨[],[],0⟩:cr),false)else (BW ([(-1)]:aa Int) C).bind λE=>if 0 <= C/\C <= C/\C<1073741824 then some ((⟨E,(List.replicate C.toNat (0:Int)),0⟩:cr),true)else none
def avA:=bw lD [(true,.gD,2),(false,.bool,0)] (bR Q1) 14 [ew,⟨313,.p OF,aqG⟩] func235
def K0(C:av)(D:Int):ah ((af)×(av×af)):=(Q1 C.config.gU).bind λE=>xL C.bO D λI=>xL C.guard D λJ=>some ((),({C with bO:=(C.bO.set D.toNat E.1),guard:=(C.guard.set D.toNat C.box.bV.eZ)},()))
def ahP:=jE IC [] (bS K0) 31 [avA] func148
def Q2(E:cY)(D:Int):ah (cY×Bool):=(Cy E).bind λC=>letI I:=some (C,false);(Ai E).bind λJ=>bif (!J)then I else (cE D 0 (W6 ((E.aJ.length:Int)-1))).bind λL=>bif (!L)then I else xI E.aJ D λO=>bif (O==(-2))then I else xL C.aJ D λQ=>xL C.aJ D λT=>some ((⟨(C.aJ.set D.toNat (W6 (Q-1))),C.wait,C.dD⟩:cY),true)
def avB:=bw Xv [(true,.kV,2),(false,.bool,0)] (bS Q2) 38 [ew,Ym,KD] func149
abbrev ahQ:=((Int×Int×Int×Int×af)×(af))
def ahR(x:ahQ):ah (ahQ⊕(((Int×af)×(af))⊕Empty)):=letI E:=x.1.2.1;letI C:=x.1.2.2;letI J:=bits .xor .i64 C.1 x.1.1;letI I:=W6 (C.2.1+1);letI D:=W6 (x.1.1*2 ^ (min (1:Int).toNat IntKind.i64.bits));bif C.2.1<4 then if C.2.1<0 then none else bif ((bits .and .i64 (E.fdiv (2 ^ (min C.2.1.toNat IntKind.i64.bits))) 1)==1)then bif D > 15 then xG (((bits .xor .i64 D 19),E,J,I,()),())else xG ((D,E,J,I,()),())else bif D > 15 then xG (((bits .xor .i64 D 19),E,C.1,I,()),())else xG ((D,E,C.1,I,()),())else ay ((C.1,()),())
def avC:KY 34 (aZ f203):=⟨0,lB 0 Xi [(2,vi)] ahR,lp []⟩
def ju(C D:Int):ah (Int):=(Ct C).bind λE=>bif (!E)then some (-1)else (Ct D).bind λI=>bif (!I)then some (-1)else bu ahR ((C,D,0,0,()),()) λJ=>some J.1.1
def K1:=cg BY dN (bS ju) 34 [Yh] [avC] func203
abbrev ahS:=((Int×Int×Int×af)×(af))
def ahT(x:ahS):ah (ahS⊕(((Int×af)×(af))⊕Empty)):=bif x.1.2.1 > 0 then (ju x.1.2.2.1 x.1.1).bind λC=>xG ((x.1.1,(W6 (x.1.2.1-1)),C,()),())else ay ((x.1.2.2.1,()),())
def avD:KY 22 (aZ f288):=⟨0,lB 0 ⟨[(0,tI),(1,tI),(5,tI)],[],[]⟩ [(2,vi)] ahT,lp [K1]⟩
def K2(C D:Int):ah (Int):=(Ct C).bind λE=>bif (!E)then some (-1)else (cE D 0 1000).bind λI=>bif (!I)then some (-1)else bu ahT ((C,D,1,()),()) λJ=>some J.1.1
def ahU:=cg BY dN (bS K2) 22 [ew,Yh] [avD] func288
abbrev ahV:=(((aa Int)×af×Int×Int×Int×(aa Int)×Int×Int×af)×((aa Int)×af))
def CB(x:ahV):ah (ahV⊕((((aa Int)×af×Int×Int×af)×((aa Int)×af))⊕Empty)):=letI C:=x.1.2.2;letI D:=C.2.2;letI E:=D.2.2.2.1;bif E<D.2.2.1 then xI D.2.1 E λI=>xL x.2.1 C.1 λJ=>(K2 2 (W6 (E*C.1))).bind λL=>(ju I L).bind λO=>xL x.2.1 C.1 λQ=>xG ((x.1.1,(),C.1,C.2.1,D.1,D.2.1,D.2.2.1,(W6 (E+1)),()),((x.2.1.set C.1.toNat (bits .xor .i64 J O)),()))else ay ((x.1.1,(),C.2.1,D.1,()),(x.2.1,()))
def avE:KY 38 (rK (aZ f201) 0):=⟨2,lB 2 ⟨[(0,.lf (.aD .int 0)),(3,.lf (.own 10)),(4,tI),(12,tI),(13,tI),(16,.lf (.aD .int 0)),(17,tI),(18,tI)],[(10,.sl .int 2)],[]⟩ [(4,adU)] CB,lp [K1,ahU]⟩
abbrev ahW:=(((aa Int)×af×Int×Int×af)×((aa Int)×af))
def Fu(x:ahW):ah (ahW⊕(((af×af)×((aa Int)×af))⊕Empty)):=letI C:=x.1.2.2;bif C.2.1<C.1 then bu CB ((x.1.1,(),C.2.1,C.1,C.2.1,x.1.1,(x.1.1.length:Int),0,()),(x.2.1,())) λD=>xG ((D.1.1,(),D.1.2.2.1,(W6 (D.1.2.2.2.1+1)),()),(D.2.1,()))else ay (((),()),(x.2.1,()))
def avF:KY 38 (aZ f201):=⟨0,lB 0 adU [(2,⟨[(3,.lf (.own 10))],[(10,.sl .int 2)],[]⟩)] Fu,lq [] [avE]⟩
def Al(D:aa Int):ah ((aa Int)):=letI C:=(3:Int);(vn D 11).bind λE=>bif (!E)then some ([])else if 0 <= C/\C <= 3/\C<1073741824 then bu Fu ((D,(),((List.replicate C.toNat (0:Int)).length:Int),0,()),((List.replicate C.toNat (0:Int)),())) λI=>some I.2.1 else none
def YE:=cg oE mm (bR Al) 38 [Ky] [avF] func201
def Q3(D:aa Int):ah (Bool):=(Al D).bind λC=>bif jc C then none else xL C (0:Int) λE=>bif (E==0)then xL C (1:Int) λI=>bif (I==0)then xL C (2:Int) λJ=>some (J==0)else some false else some false
def avG:=bw oE cm (bR Q3) 26 [YE] func202
abbrev ahX:=((Int×Int×af)×(af))
def ahY(x:ahX):ah (ahX⊕(((Int×af)×(af))⊕(((af)×(af))⊕Empty))):=bif x.1.2.1 <= 15 then (ju x.1.1 x.1.2.1).bind λC=>bif (C==1)then ay ((x.1.2.1,()),())else xG ((x.1.1,(W6 (x.1.2.1+1)),()),())else aV ((),())
def avH:KY 13 (aZ f204):=⟨0,lB 0 aew [(1,⟨[(2,tI)],[],[]⟩),(2,fG)] ahY,lp [K1]⟩
def CC(C:Int):ah (Int):=bQ ahY ((C,1,()),()) (λD=>some D.1.1) λE=>some (-1)
def ahZ:=cg lD dN (bR CC) 13 [] [avH] func204
abbrev ah0:=((Int×Int×af)×(af))
def ah1(x:ah0):ah (ah0⊕(((Int×af)×(af))⊕(((af)×(af))⊕Empty))):=bif x.1.2.1<15 then (K2 2 x.1.2.1).bind λC=>bif (C==x.1.1)then ay ((x.1.2.1,()),())else xG ((x.1.1,(W6 (x.1.2.1+1)),()),())else aV ((),())
def avI:KY 13 (aZ f205):=⟨0,lB 0 aew [(1,⟨[(2,tI)],[],[]⟩),(2,fG)] ah1,lp [ahU]⟩
def Q4(C:Int):ah (Int):=bQ ah1 ((C,0,()),()) (λD=>some D.1.1) λE=>some (-1)
def avJ:=cg lD dN (bR Q4) 13 [] [avI] func205
def K3(I:aa Int):ah ((aa Int)×Int×Int):=letI C:=xA I;letI J:=some (C,2,(-1));(Al I).bind λE=>bif jc E then none else bif xZ I then (Q3 I).bind λO=>bif O then some (C,0,(-1))else xL E (0:Int) λQ=>bif (Q != 0)then xL E (1:Int) λT=>bif (T != 0)then xL E (1:Int) λU=>xL E (0:Int) λY=>(CC Y).bind λZ=>(ju U Z).bind λL=>(Q4 L).bind λD=>bif D<11 then xL E (1:Int) λXR=>xL E (2:Int) λXS=>(ju XR L).bind λCp=>bif (Cp==XS)then xC C D (if GK:D.toNat<C.length then (let vk:=C[D.toNat]'GK;xL E (0:Int) λzX=>xC C D (if Ua:D.toNat<C.length then (let e33:=C[D.toNat]'Ua;some ((C.set D.toNat (bits .xor .i64 vk zX)),1,D))else none))else none)else J else J else J else J else none
def ah2:=bw oE [(false,(.sl .int),2),(false,.int,0),(false,.int,0)] (bR K3) 64 [YE,avG,K1,ahZ,avJ] func130
abbrev ah3:=((Int×(aa Int)×Int×Int×af)×(af))
def K4(x:ah3):ah (ah3⊕(((Int×af)×(af))⊕Empty)):=letI C:=x.1.2.2.2.1;bif C<x.1.2.2.1 then xI x.1.2.1 C λD=>if (W6 (4*C))<0 then none else xG (((bits .or .i64 x.1.1 (W6 (D*2 ^ (min (W6 (4*C)).toNat IntKind.i64.bits)))),x.1.2.1,x.1.2.2.1,(W6 (C+1)),()),())else ay ((x.1.1,()),())
def avK:KY 25 (aZ f206):=⟨0,lB 0 ⟨[(4,tI),(10,.lf (.aD .int 0)),(11,tI),(12,tI)],[],[]⟩ [(2,wZ)] K4,lp []⟩
def Q5(C:aa Int):ah (Int×Bool):=(vn C 8).bind λD=>bif (!D)then some (0,false)else bu K4 ((0,C,(C.length:Int),0,()),()) λE=>some (E.1.1,true)
def avL:=cg oE [(false,.int,0),(false,.bool,0)] (bR Q5) 25 [Ky] [avK] func206
def Q6(D:aa Int):ah ((aa Int)):=letI C:=(D.length:Int);letI E:=(D.take C.toNat).drop (3:Int).toNat;(vn D 11).bind λI=>bif (!I)then some ([])else if 0 <= (3:Int)/\3 <= C/\C <= C then bif xZ E then some (xA E)else none else none
def avM:=bw oE mm (bR Q6) 10 [Ky] func207
def Q7(D:aa Int):ah (Int×Int×Int):=(K3 D).bind λC=>bif (C.2.1==2)then some (0,C.2.1,C.2.2)else (Q6 C.1).bind λE=>(Q5 E).bind λI=>some (I.1,C.2.1,C.2.2)
def avN:=bw oE [(false,.int,0),(false,.int,0),(false,.int,0)] (bR Q7) 29 [ah2,avL,avM] func131
def K5(C:aa cv):ah ((aa cv)):=bif xZ C then some (xA C)else none
def avO:=bw [(false,(.sl .fN))] [(false,(.sl .fN),2)] (bR K5) 6 [] func208
abbrev ah4:=((Int×Int×af×af×Int×Int×af)×((aa cv)×af))
def K6(x:ah4):ah (ah4⊕(((af×Bool×af)×((aa cv)×af))⊕(((Int×Int×af×af)×((aa cv)×af))⊕Empty))):=letI C:=x.1.2.2.2.2;letI E:=xG ((x.1.1,x.1.2.1,(),(),C.1,(W6 (C.2.1+1)),()),(x.2.1,()));bif C.2.1<C.1 then xL x.2.1 C.2.1 λD=>letI I:=W6 (D.times+1);bif (D.line==x.1.1)then bif (D.code==x.1.2.1)then xL x.2.1 C.2.1 λJ=>ay (((),true,()),((x.2.1.set C.2.1.toNat (⟨J.line,J.code,(if 999<I then 999 else I)⟩:cv)),()))else E else E else aV ((x.1.1,x.1.2.1,(),()),(x.2.1,()))
def avP:KY 69 (aZ f132):=⟨0,lB 0 adM [(1,aeb),(2,ad6)] K6,lp []⟩
abbrev ah5:=((Int×Int×af×af×Int×Int×af)×((aa cv)×af))
def YF(x:ah5):ah (ah5⊕(((af×Bool×af)×((aa cv)×af))⊕(((Int×Int×af×af)×((aa cv)×af))⊕Empty))):=letI C:=x.1.2.2.2.2;letI E:=xG ((x.1.1,x.1.2.1,(),(),C.1,(W6 (C.2.1+1)),()),(x.2.1,()));bif C.2.1<C.1 then xL x.2.1 C.2.1 λD=>letI I:=W6 (D.times+1);bif (D.line==x.1.1)then bif (D.code==x.1.2.1)then xL x.2.1 C.2.1 λJ=>ay (((),true,()),((x.2.1.set C.2.1.toNat (⟨J.line,J.code,(if 999<I then 999 else I)⟩:cv)),()))else E else E else aV ((x.1.1,x.1.2.1,(),()),(x.2.1,()))
def avQ:KY 69 (aZ f132):=⟨0,lB 0 adM [(1,aeb),(2,ad6)] YF,lp []⟩
def Q8(U:aa cv)(Y O:Int):ah ((aa cv)×Bool):=(K5 U).bind λQ=>letI T:=some (Q,false);letI Z:=((Y,O,(),(),(Q.length:Int),0,()),(Q,()));(KJ U).bind λy2=>bif (!y2)then T else (cE Y 0 1023).bind λy3=>bif (!y3)then T else bif (O != 1)then bif (O != 2)then T else bQ K6 Z (λiJ=>some (iJ.2.1,iJ.1.2.1)) λC=>letI E:=(C.2.1.length:Int);letI J:=([(⟨C.1.1,C.1.2.1,1⟩:cv)]:aa cv);bif (E==6)then if 0 <= (1:Int)/\1 <= E/\E <= E then (K5 ((C.2.1.take (E.toNat)).drop ((1:Int).toNat))).bind λjU=>bif bC (jU.length+J.length)then some ((jU++J),true)else none else none else bif bC (C.2.1.length+J.length)then some ((C.2.1++J),true)else none else bQ YF Z (λQ9=>some (Q9.2.1,Q9.1.2.1)) λD=>letI I:=(D.2.1.length:Int);letI L:=([(⟨D.1.1,D.1.2.1,1⟩:cv)]:aa cv);bif (I==6)then if 0 <= (1:Int)/\1 <= I/\I <= I then (K5 ((D.2.1.take (I.toNat)).drop ((1:Int).toNat))).bind λlG=>bif bC (lG.length+L.length)then some ((lG++L),true)else none else none else bif bC (D.2.1.length+L.length)then some ((D.2.1++L),true)else none
def avR:=cg Xk [(false,(.sl .fN),2),(false,.bool,0)] (fz Q8) 69 [ew,ahb,avO] [avP,avQ] func132
def xu(C:av)(E D:Int):ah ((af)×(av×af)):=bif (D != 0)then (Q8 C.errors E D).bind λI=>some ((),({C with errors:=I.1},()))else some ((),(C,()))
def ah6:=jE aes [] (fz xu) 21 [avR] func58
def Ra(C:aa aX)(E D:Int):ah (((aa aX))×((aa aX)×af)):=if 0 <= E/\E <= D/\D <= (C.length:Int)/\(C.length:Int) <= (C.length:Int)then bif (E==D)then some (C,([],()))else if 0 <= (0:Int)/\0 <= E/\E <= (C.length:Int)then if 0 <= D/\D <= (C.length:Int)/\(C.length:Int) <= (C.length:Int)then if E.toNat <= D.toNat/\D.toNat <= (C.length:Int).toNat/\(C.length:Int).toNat <= C.length/\0<C.length then if 0 <= (((E.toNat+((C.length:Int).toNat-D.toNat))-0:Nat):Int)/\(((E.toNat+((C.length:Int).toNat-D.toNat))-0:Nat):Int) <= (C.length:Int)/\(C.length:Int) <= ((splice C E.toNat ((C.take ((C.length:Int).toNat)).drop D.toNat)).length:Int)then if (((E.toNat+((C.length:Int).toNat-D.toNat))-0:Nat):Int).toNat <= (C.length:Int).toNat/\(C.length:Int).toNat <= (splice C E.toNat ((C.take ((C.length:Int).toNat)).drop D.toNat)).length then some (((splice (splice C E.toNat ((C.take ((C.length:Int).toNat)).drop D.toNat)) ((((E.toNat+((C.length:Int).toNat-D.toNat))-0:Nat):Int).toNat) (List.replicate ((C.length:Int).toNat-(((E.toNat+((C.length:Int).toNat-D.toNat))-0:Nat):Int).toNat) (⟨0,0,0,false,0,0⟩:aX))).take (E.toNat+((C.length:Int).toNat-D.toNat))),([],()))else none else none else none else none else none else none
def avS:KX:=⟨236,.c ⟨[.s .di 1000000,.v false .int,.v false .int],[(false,(.sl .di),2)],λx=>Ra x.1 x.2.1 x.2.2.1⟩,km 33 [] func236⟩
abbrev ah7:=(((aa cw)×(aa Bool)×Int×Int×af)×(af))
def K7(x:ah7):ah (ah7⊕(((Int×af)×(af))⊕Empty)):=letI D:=x.1.2.2.1;letI C:=x.1.2.2.2.1;letI E:=xG ((x.1.1,x.1.2.1,C,(W6 (C+1)),()),());letI I:=xG ((x.1.1,x.1.2.1,D,(W6 (C+1)),()),());bif C<(x.1.1.length:Int)then bif C<(x.1.2.1.length:Int)then xI x.1.2.1 C λJ=>bif J then bif D<0 then E else xI x.1.1 C λL=>xI x.1.1 D λO=>bif L.fy > O.fy then E else I else I else ay ((D,()),())else ay ((D,()),())
def avT:KY 42 (aZ f314):=⟨0,lB 0 adY [(2,vi)] K7,lp []⟩
def Fv(C:aa cw)(D:aa Bool):ah (Int):=bu K7 ((C,D,(-1),0,()),()) λE=>some E.1.1
def avU:=cg OJ dN (bS Fv) 42 [] [avT] func314
abbrev ah8:=(((aa Bool)×af×Int×Int×af)×((aa cw)×af))
def Fw(x:ah8):ah (ah8⊕((((aa Bool)×af×af)×((aa cw)×af))⊕Empty)):=letI C:=x.1.2.2.2.1;bif C<x.1.2.2.1 then xL x.2.1 C λD=>xL x.2.1 C λE=>xG ((x.1.1,(),x.1.2.2.1,(W6 (C+1)),()),((x.2.1.set C.toNat (⟨E.weight,D.weight⟩:cw)),()))else ay ((x.1.1,(),()),(x.2.1,()))
def avV:KY 57 (aZ f237):=⟨0,lB 0 ⟨[(1,.lf (.aD .bool 0)),(6,.lf (.own 9)),(30,tI),(31,tI)],[(9,.sl .fF 2)],[]⟩ [(2,ad5)] Fw,lp []⟩
def qz(J:aa cw)(L:aa Bool):ah ((aa cw)×Int):=letI C:=xA J;bif xZ J then (Fv C L).bind λD=>(E8 J).bind λO=>bif (!O)then some (C,(-1))else bif D<0 then some (C,(-1))else xC C D (if Q:D.toNat<C.length then (let T:=C[D.toNat]'Q;bif (T.fy==0)then bu Fw ((L,(),(C.length:Int),0,()),(C,())) λE=>(Fv E.2.1 E.1.1).bind λI=>xL E.2.1 I λU=>xL E.2.1 I λY=>some ((E.2.1.set I.toNat (⟨Y.weight,(W6 (U.fy-1))⟩:cw)),I)else xC C D (if Z:D.toNat<C.length then (let XX:=C[D.toNat]'Z;xC C D (if yF:D.toNat<C.length then (let xh:=C[D.toNat]'yF;some ((C.set D.toNat (⟨xh.weight,(W6 (XX.fy-1))⟩:cw)),D))else none))else none))else none)else none
def ah9:=cg OJ [(false,(.sl .fF),2),(false,.int,0)] (bS qz) 57 [Yf,avU] [avV] func237
def K8(O:aa Int):ah ((aa Int)):=letI D:=(1:Int);letI E:=(3:Int);letI C:=(0:Int);letI J:=(List.replicate E.toNat C)++O;(vn O 8).bind λy1=>bif (!y1)then some ([])else if 0 <= E/\E <= 3/\E<1073741824 then bif bC ((List.replicate E.toNat C).length+O.length)then (Al J).bind λI=>xL I C λQ=>xL I D λT=>xL I C λX8=>xL I (2:Int) λCf=>letI U:=bits .xor .i64 X8 Cf;(CC 4).bind λY=>(ju 2 (bits .xor .i64 Q T)).bind λlF=>(ju 5 U).bind λkF=>(ju (bits .xor .i64 lF kF) Y).bind λZ=>xL J D λE0=>(ju 3 U).bind λlG=>(ju 5 (bits .xor .i64 Q T)).bind λtY=>(ju (bits .xor .i64 lG tY) Y).bind λCp=>letI L:=(J.set D.toNat Z).set (2:Int).toNat Cp;xL (J.set D.toNat Z) (2:Int) λvk=>xL I C λzX=>xL L D λe33=>xL L (2:Int) λPr=>xL L C λe39=>some (L.set C.toNat (bits .xor .i64 (bits .xor .i64 zX e33) Pr))else none else none
def avW:=bw oE mm (bR K8) 63 [Ky,YE,K1,ahZ] func315
abbrev aia:=((Int×af×Int×af)×((aa Int)×af))
def K9(x:aia):ah (aia⊕(((af×af)×((aa Int)×af))⊕Empty)):=letI C:=x.1.2.2.1;letI D:=([(bits .and .i64 (x.1.1.fdiv (2 ^ (min (W6 (4*C)).toNat IntKind.i64.bits))) 15)]:aa Int);bif C<8 then if (W6 (4*C))<0 then none else bif bC (x.2.1.length+D.length)then xG ((x.1.1,(),(W6 (C+1)),()),((x.2.1++D),()))else none else ay (((),()),(x.2.1,()))
def avX:KY 22 (aZ f316):=⟨0,lB 0 ⟨[(0,tI),(3,.lf (.own 8)),(4,tI)],[(8,.sl .int 2)],[]⟩ [(2,⟨[(3,.lf (.own 8))],[(8,.sl .int 2)],[]⟩)] K9,lp []⟩
def Rb(C:Int):ah ((aa Int)):=(Cw C).bind λD=>bif (!D)then some ([])else bu K9 ((C,(),0,()),(([]:aa Int),())) λE=>some E.2.1
def avY:=cg lD mm (bR Rb) 22 [Yk] [avX] func316
def Fx(C:Int):ah ((aa Int)):=(Cw C).bind λD=>bif (!D)then some ([])else (Rb C).bind λE=>(K8 E).bind λI=>some I
def avZ:=bw lD mm (bR Fx) 9 [Yk,avW,avY] func238
def xw(C:av)(D:Int):ah ((Int×Int)×(av×af)):=xL C.array.cells D λJ=>bif J.ir then some ((0,2),(C,()))else xM C.array.cells D λY=>xM C.array.cells D λL=>(K3 L.symbols).bind λO=>xM C.array.cells D λZ=>xM C.array.cells D λQ=>(Q7 Q.symbols).bind λE=>letI I:=(E.1,E.2.1);bif (E.2.1==1)then xM C.array.cells D λT=>some (I,({C with array:=⟨(C.array.cells.set D.toNat (⟨O.1,T.ir⟩:bY)),C.array.bz,C.array.br⟩},()))else bif (E.2.1==2)then xM C.array.cells D λU=>some (I,({C with array:=⟨(C.array.cells.set D.toNat (⟨U.symbols,true⟩:bY)),C.array.bz,C.array.br⟩},()))else some (I,(C,()))
def aib:=jE Xp [(false,.int,0),(false,.int,0)] (bS xw) 55 [ah2,avN] func57
def Rc(C:av)(L:Int):ah ((af)×(av×af)):=letI E:=(4:Int);xL C.queue L λD=>letI Q:=([(⟨D.id,C.now,0,0⟩:eM)]:aa eM);(vo C D.line).bind λy4=>letI O:=KT C.config.az y4.1;(Ra C.queue L (W6 (L+1))).bind λT=>if 0 <= E/\E <= 4/\E<1073741824 then xL (List.replicate E.toNat false) D.dI λe8=>(qz C.shares ((List.replicate E.toNat false).set D.dI.toNat true)).bind λU=>bif D.write then O.bind λY=>(Fx D.data).bind λje=>xL C.array.cells Y λCf=>bif bC (C.cz.length+Q.length)then some ((),({C with array:=⟨(C.array.cells.set Y.toNat (⟨je,false⟩:bY)),C.array.bz,C.array.br⟩,queue:=T.1,shares:=U.1,cz:=(C.cz++Q)},()))else none else O.bind λnT=>(xw {C with queue:=T.1,shares:=U.1} nT).bind λI=>letI J:=I.2.1;letI Z:=([(⟨D.id,J.now,I.1.1,I.1.2⟩:eM)]:aa eM);bif bC (J.cz.length+Z.length)then O.bind λkF=>(xu {J with cz:=(J.cz++Z)} kF I.1.2).bind λB8=>some ((),(B8.2.1,()))else none else none
def av0:=jE IC [] (bS Rc) 125 [aib,ah6,Yz,avS,ah9,avZ,ahD] func150
def Rd(C:eR)(E I:Int):ah (eR×Bool):=letI J:=some ((⟨0,I,C.idle⟩:eR),true);letI D:=some (C,false);(Cx C).bind λL=>bif (!L)then D else (cE I C.since 1000000).bind λO=>bif (!O)then D else bif (E==6)then bif (C.state != 0)then D else some ((⟨1,I,C.idle⟩:eR),true)else bif (E==8)then bif (C.state != 0)then D else some ((⟨2,I,C.idle⟩:eR),true)else bif (E==7)then bif (C.state != 1)then D else J else bif (E==9)then bif (C.state != 2)then D else J else bif (C.state != (-1))then D else J
def av1:=bw [(true,.Power),(false,.int),(false,.int)] [(true,.Power,0),(false,.bool,0)] (fz Rd) 40 [ew,QG] func151
abbrev aic:=(((aa aK)×aH×Int×Int×af)×(af))
def La(x:aic):ah (aic⊕(((Int×af)×(af))⊕(((af)×(af))⊕Empty))):=letI C:=x.1.2.2.2.1;bif C<x.1.2.2.1 then xI x.1.1 C λD=>bif (D.ax==x.1.2.1.ax)then ay ((C,()),())else xG ((x.1.1,x.1.2.1,x.1.2.2.1,(W6 (C+1)),()),())else aV ((),())
def av2:KY 19 (aZ f234):=⟨0,lB 0 ⟨[(0,.lf (.aD .Addr 0)),(1,.fc 147 .Command),(7,tI),(8,tI)],[],[]⟩ [(1,wZ),(2,fG)] La,lp [⟨147,.i _,ahO⟩]⟩
def Re(C:aa aK)(D:aH):ah (Int):=(iter La aP ((C,D,(C.length:Int),0,()),())).bind (Sum.elim (λE=>some E.1.1) (Sum.elim (λI=>some (-1)) (λz=>nomatch z)))
def av3:KX:=⟨234,.q (gp [(false,(.sl .Addr)),(false,(.fnCommand 147))] [(false,.int,0)] λx=>Re x.1 x.2.1),kq 19 [] [av2] func234⟩
abbrev aid:=((af×aH×Int×Int×af)×((aa aK)×af))
def Lb(x:aid):ah (aid⊕(((af×Int×af)×((aa aK)×af))⊕Empty)):=letI C:=x.1.2.2;bif C.2.1<(x.2.1.length:Int)then xL x.2.1 C.2.1 λD=>bif (!(D.ax==x.1.2.1.ax))then xL x.2.1 C.1 λE=>xG (((),x.1.2.1,(W6 (C.1+1)),(W6 (C.2.1+1)),()),((x.2.1.set C.1.toNat D),()))else xG (((),x.1.2.1,C.1,(W6 (C.2.1+1)),()),(x.2.1,()))else ay (((),C.1,()),(x.2.1,()))
def av4:KY 42 (aZ f146):=⟨0,lB 0 ⟨[(0,.lf (.own 98000)),(1,.fc 147 .Command),(5,tI),(6,tI)],Xm,[]⟩ [(2,ad3)] Lb,lp [⟨147,.i _,ahO⟩]⟩
def Rf(D:aa aK)(I:aH):ah (((aa aK))×((aa aK)×af)):=(Re D I).bind λE=>bif (E==(-1))then some (D,([],()))else (iter Lb aP (((),I,E,(W6 (E+1)),()),(D,()))).bind (Sum.elim (λC=>if 0 <= C.1.2.1/\C.1.2.1 <= (C.2.1.length:Int)/\(C.2.1.length:Int) <= (C.2.1.length:Int)then if C.1.2.1.toNat <= (C.2.1.length:Int).toNat/\(C.2.1.length:Int).toNat <= C.2.1.length then if 0 <= (0:Int)/\0 <= C.1.2.1/\C.1.2.1 <= ((splice C.2.1 C.1.2.1.toNat (List.replicate ((C.2.1.length:Int).toNat-C.1.2.1.toNat) (⟨0,0,0⟩:aK))).length:Int)then some (((splice C.2.1 C.1.2.1.toNat (List.replicate ((C.2.1.length:Int).toNat-C.1.2.1.toNat) (⟨0,0,0⟩:aK))).take C.1.2.1.toNat),([],()))else none else none else none) (λz=>nomatch z))
def av5:KX:=⟨146,.c ⟨[.s .Addr 1000000,.v false (.fnCommand 147)],[(false,(.sl .Addr),2)],λx=>Rf x.1 x.2.1⟩,kn 42 [av3] [av4] func146⟩
def av6:bJ:=⟨[(0,.aG 20000 0),(130,tI),(131,tI)],[],OG⟩
def av7:aa (Nat×bJ):=[(3,Xy)]
abbrev aie:=((af×Int×Int×af)×(av×af))
def xx(x:aie):ah (aie⊕(((af)×(av×af))⊕Empty)):=letI C:=x.1.2.2.1;bif C<x.1.2.1 then (Q0 x.2.1 C).bind λE=>(K0 E.2.1 C).bind λI=>letI D:=I.2.1;xL D.aQ.aJ C λJ=>xG (((),x.1.2.1,(W6 (C+1)),()),({D with aQ:=⟨(D.aQ.aJ.set C.toNat (0:Int)),D.aQ.wait,D.aQ.dD⟩},()))else ay ((),(x.2.1,()))
def YG:KY 148 (aZ f69):=⟨1,lB 1 av6 av7 xx,lp [ahN,ahP]⟩
def Lc(D:av)(C:aH)(x2:Int):ah ((af)×(av×af)):=letI J:=C.kind != 9;letI Z:=([(⟨D.now,C⟩:eY)]:aa eY);letI L:=D.trace++Z;bif bC (D.trace.length+Z.length)then (QU D.config.az D.ready (⟨D.now,C⟩:eY)).bind λO=>(KS D.config.az D.bq C).bind λQ=>letI T:={D with bq:=Q.1,ready:=O,trace:=L};(let Ld:av -> ah ((af)×(av×af)):=λU=>bif J then some ((),(U,()))else bu xx (((),(U.bO.length:Int),0,()),({U with pending:=([]:aa aK)},())) (λQ9=>some ((),(Q9.2.1,())));let J5:Int -> Int -> Int -> ah ((af)×(av×af)):=λQn Qo EY=>bif J then some ((),({D with bq:=Q.1,ready:=O,bg:=⟨Qn,Qo,EY⟩,trace:=L},()))else bu xx (((),(D.bO.length:Int),0,()),({D with bq:=Q.1,ready:=O,pending:=([]:aa aK),bg:=⟨Qn,Qo,EY⟩,trace:=L},())) (λz36=>some ((),(z36.2.1,())));letI u4:=J5 D.bg.state D.bg.since D.bg.idle;bif (C.kind==1)then (QZ T C).bind λy3=>(Ld y3.2.1)else bif (C.kind==5)then (Q0 T C.ax).bind λy4=>letI u3:=y4.2.1;(Rf u3.pending C).bind λy5=>(K0 {u3 with pending:=y5.1} C.ax).bind λy6=>letI E:=y6.2.1;(Q2 E.aQ C.ax).bind λy7=>bif J then some ((),({E with aQ:=y7.1},()))else bu xx (((),(E.bO.length:Int),0,()),({E with aQ:=y7.1,pending:=([]:aa aK)},())) λX6=>some ((),(X6.2.1,()))else (let YH:Bool -> ah ((af)×(av×af)):=λj8=>bif j8 then (Rc T x2).bind λy9=>(Ld y9.2.1)else (let I:Bool -> ah ((af)×(av×af)):=λCh=>bif Ch then (Rd D.bg C.kind D.now).bind λY=>(J5 Y.1.state Y.1.since Y.1.idle)else u4;bif (C.kind==6)then (I (C.kind==6))else bif (C.kind==7)then (I (C.kind==7))else bif (C.kind==8)then (I (C.kind==8))else (I (C.kind==9)));bif (C.kind==2)then (YH (C.kind==2))else (YH (C.kind==3))))else none
def av8:=oC aet [] (fz Lc) 148 [avd,ave,avy,ahN,av5,ahP,avB,av0,av1] [YG,YG,YG] func69
end Go.Proofs.YtglnbhiaknohlaaGreat
