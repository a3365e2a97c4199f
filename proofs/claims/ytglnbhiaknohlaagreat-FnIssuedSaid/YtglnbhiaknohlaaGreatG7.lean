/-
  Functions of the program as plain functions of contents, and that the code computes them. Nothing here is a claim.
-/
import Derived.Test.YtglnbhiaknohlaaGreatVZ
import Derived.Test.YtglnbhiaknohlaaGreatRows
import Derived.Test.YtglnbhiaknohlaaGreatRep
import Derived.Test.YtglnbhiaknohlaaGreatG1
import Derived.Test.YtglnbhiaknohlaaGreatG2
import Derived.Test.YtglnbhiaknohlaaGreatG3
import Derived.Test.YtglnbhiaknohlaaGreatG4
import Derived.Test.YtglnbhiaknohlaaGreatG5
import Derived.Test.YtglnbhiaknohlaaGreatG6
namespace Go.Proofs.YtglnbhiaknohlaaGreat
set_option linter.defProp false
open Go.RowKit Go.Proofs.Tryz
set_option linter.unusedVariables false
set_option maxRecDepth 100000
def Fi(C:aN)(D:aF):ah (Bool):=(sr C).bind λE=>bif E then (n9 C).bind λI=>(Xn D I C.rows C.aM).bind λL=>some L else some false
def Xo:=bD Wu cg (bV Fi) 17 [q6,xJ,avv] func86
def xN(O:aN)(D:cD)(C:aF):ah (Bool):=letI E:=D.aR==0;letI T:=bif E then xI D.aB C.ay λY=>some (!Y.open_)else some false;letI I:=bif E then xI D.aB C.ay λZ=>some Z.open_ else some false;letI L:=bif (C.kind==6)then some E else bif (C.kind==8)then bif E then (Aj D).bind λy7=>some ((y7.length:Int)==0)else some false else bif (C.kind==7)then some (D.aR==1)else some (D.aR==2);letI U:=bif (C.kind==2)then bif (C.kind==2)then I else L else bif (C.kind==3)then bif (C.kind==3)then I else L else bif (C.kind==4)then I else L;(J8 O D).bind λy1=>bif (!y1)then some false else (Fi O C).bind λy2=>bif (!y2)then some false else bif (C.kind==1)then bif (C.kind==1)then T else U else bif (C.kind==5)then T else U
def Xp:=bD [(true,.fH),(true,.iS),(true,.Command)] cg (gA xN) 75 [agz,Xo,agx] func21
def P7(C:cP)(D E:Int):ah (Int):=(let O:Bool -> ah (Int):=λI=>(let L:Bool -> ah (Int):=λj2=>bif j2 then some C.fB else (let T:Bool -> ah (Int):=λj3=>bif j3 then some C.ef else (let U:Bool -> ah (Int):=λj4=>bif j4 then some (W6 (C.ef+C.rp))else (let Y:Bool -> ah (Int):=λj5=>bif j5 then some C.eT else (let Z:Bool -> ah (Int):=λj6=>bif j6 then some (W6 (C.eT+C.rp))else (let Xq:Bool -> ah (Int):=λj7=>bif j7 then some C.wr else (let Fj:Bool -> ah (Int):=λj8=>bif j8 then some (W6 (C.wr+C.rp))else (let Xr:Bool -> ah (Int):=λj9=>bif j9 then some C.rp else (let EG:Bool -> ah (Int):=λCe=>bif Ce then some C.gu else some 0;bif (D==5)then (EG I)else (EG false));bif (D==4)then (Xr I)else (Xr false));bif (D==3)then (Fj I)else (Fj false));bif (D==3)then (Xq (E==4))else (Xq false));bif (D==2)then (Z I)else (Z false));bif (D==2)then (Y (E==4))else (Y false));bif (D==1)then (U I)else (U false));bif (D==1)then (T (E==4))else (T false));bif (D==1)then bif (E==2)then (L true)else (L (E==3))else (L false));bif (E==1)then (O true)else (O (E==5)))
def ahi:=bD [(true,.kf),(false,.int),(false,.int)] en (gA P7) 103 [] func187
def avw:enters Tryz.prog 274/\pP Tryz.prog 274 (ci Tryz.prog f274 1 []):=Ea 1 [] func274 trivial
def P8(C:cP)(D E:Int)(I:Bool):ah (Int):=bif (D==7)then some C.xp else bif (D==9)then some C.xs else (let T:Bool -> ah (Int):=λj1=>bif j1 then (let U:Int -> ah (Int):=λj2=>some j2;bif I then (U C.fo)else (U C.gn))else (let L:Bool -> ah (Int):=λj4=>bif j4 then (let Y:Int -> ah (Int):=λj5=>some j5;bif I then (Y C.ga)else (Y C.gp))else (let Z:Bool -> ah (Int):=λj7=>bif j7 then (let k9:Int -> ah (Int):=λj8=>some j8;bif I then (k9 C.gq)else (k9 C.gd))else (let zS:Bool -> ah (Int):=λCe=>bif Ce then some C.gO else (let zU:Bool -> ah (Int):=λWJ=>bif WJ then some C.fo else (let zV:Bool -> ah (Int):=λIE=>bif IE then some C.eT else (let Ac:Bool -> ah (Int):=λB6=>bif B6 then some C.wr else bif (E==8)then (P7 C D 1).bind λlN=>some lN else (let O:Bool -> ah (Int):=λEp=>bif Ep then some C.gv else some 0;letI u0:=bif (D==8)then (O (E==9))else (O false);bif (D==6)then bif (E==7)then (O true)else u0 else u0);bif (D==3)then (Ac (E==6))else (Ac false));bif (D==2)then (zV (E==6))else (zV false));bif (D==5)then (zU (E==5))else (zU false));bif (D==2)then (zS (E==3))else (zS false));bif (D==3)then (Z (E==2))else (Z false));letI u1:=bif (D==3)then (L (E==3))else (L false);bif (D==2)then bif (E==2)then (L true)else u1 else u1);bif (D==1)then (T (E==1))else (T false))
def avx:=bD adN en (oY P8) 126 [ahi,⟨274,.i _,avw⟩] func185
def Kr(C:aN)(D:Int):ah (Int):=(n9 C).bind λE=>(cC D 0 (W6 (E-1))).bind λI=>bif (!I)then some (-1)else if C.aB=0 then none else some (W6 (D.tdiv C.aB))
def avy:=bD HT en (bV Kr) 15 [fe,q6] func186
def Kt(T:aN)(L:cP)(C D:aF):ah (Int):=letI U:=P7 L C.kind D.kind;letI Y:=P8 L C.kind D.kind false;(xK C.kind).bind λy1=>bif y1 then (xK D.kind).bind λO=>bif O then (Kr T C.ay).bind λy3=>(Kr T D.ay).bind λy4=>(P8 L C.kind D.kind (y3==y4)).bind λE=>letI Z:=some (if E > 1 then E else 1);bif O then bif (C.ay==D.ay)then U.bind λy6=>some (if y6 > (if E > 1 then E else 1)then y6 else (if E > 1 then E else 1))else Z else Z else Y.bind λI=>letI u2:=some (if I > 1 then I else 1);bif O then bif (C.ay==D.ay)then U.bind λy8=>some (if y8 > (if I > 1 then I else 1)then y8 else (if I > 1 then I else 1))else u2 else u2 else Y.bind λy9=>some (if y9 > 1 then y9 else 1)
def avz:=bD adO en (oY Kt) 55 [PW,avx,avy,ahi] func89
def avA:bU:=⟨[(4,.aO 4 0),(5,.aO 5 0),(6,.aO 6 0),(7,.aO 7 0),(9,tI),(30,.lf (.aI .int 0)),(31,tI),(32,tI)],adL,[]⟩
def avB:aa (Nat×bU):=[(2,ads)]
abbrev ahj:=((af×af×af×af×Int×(aa Int)×Int×Int×af)×((Int×Int×Int×Int×af)×cP×((aa Int)×(aa Int)×af)×(Int×Int×Int×Int×af)×af))
def Ku(x:ahj):ah (ahj⊕(((af×af×af×Int×af)×(cP×((aa Int)×(aa Int)×af)×(Int×Int×Int×Int×af)×af))⊕Empty)):=letI I:=(⟨x.2.1.1,x.2.1.2.1,x.2.1.2.2.1,x.2.1.2.2.2.1⟩:aN);letI D:=x.2.2.2.2.1;letI L:=(x.2.1,x.2.2.1,x.2.2.2.1,D,());letI C:=x.1.2.2.2.2;letI E:=C.2.2.2.1;bif E<C.2.2.1 then xI C.2.1 E λO=>bif O<0 then xG (((),(),(),(),C.1,C.2.1,C.2.2.1,(W6 (E+1)),()),L)else (Cs I E).bind λU=>(Kt I x.2.2.1 U.1 (⟨D.1,D.2.1,D.2.2.1,D.2.2.2.1⟩:aF)).bind λY=>letI T:=W6 (O+Y);xG (((),(),(),(),(if T > C.1 then T else C.1),C.2.1,C.2.2.1,(W6 (E+1)),()),L)else az (((),(),(),C.1,()),(x.2.2.1,x.2.2.2.1,D,()))
def avC:KY 76 (bw f22):=⟨0,lB 0 avA avB Ku,lp [agA,avz]⟩
def An(C:aN)(U:cP)(D:dy)(E:aF):ah (Int):=(E4 U).bind λZ=>bif (!Z)then some (-1)else (E7 C D).bind λy2=>bif (!y2)then some (-1)else (Fi C E).bind λy3=>bif (!y3)then some (-1)else bA Ku (((),(),(),(),0,D.last,(D.last.length:Int),0,()),((C.bR,C.aB,C.rows,C.aM,()),U,(D.last,D.bf,()),(E.kind,E.ay,E.row,E.bL,()),())) λI=>letI T:=I.1.2.2.2.1;letI L:=T;letI Y:=bif L > 1000000 then some (-1)else some L;bif (I.2.2.2.1.1==1)then bif ((I.2.2.1.2.1.length:Int)==4)then xI I.2.2.1.2.1 (0:Int) λpX=>letI O:=W6 (pX+I.2.1.fC);bif (if O > T then O else L) > 1000000 then some (-1)else some (if O > T then O else L)else Y else Y
def ahk:=cu adP en (oY An) 76 [Xd,Xb,Xo] [avC] func22
def jk(C:av)(D:aF):ah (Bool):=(xN C.config.ax C.bk D).bind λI=>bif (!I)then some false else (An C.config.ax C.config.aE C.ready D).bind λE=>bif (E != (-1))then some (E <= C.now)else some false
def avD:=bD [(true,.de),(true,.Command)] cg (bV jk) 32 [Xp,ahk] func66
def P9(C:aN)(E:m9)(I:Int):ah (aJ×Bool):=letI O:=I.tmod C.aM;letI T:=some ((⟨0,0,0⟩:aJ),false);letI L:=W6 (I.tdiv C.aM);letI U:=L.tmod C.rows;(sr C).bind λy1=>bif (!y1)then T else (J3 E).bind λy2=>bif (!y2)then T else (Ah C).bind λy3=>(cC I 0 (W6 (y3-1))).bind λy4=>bif (!y4)then T else (n9 C).bind λD=>letI Y:=W6 (L.tdiv D);letI Z:=W6 (I.tdiv D);letI u1:=W6 (Z.tdiv C.aM);bif (E.order==0)then if C.aM=0 then none else if C.aM=0 then none else if D=0 then none else if C.aM=0 then none else if D=0 then none else bif E.hash then if D=0 then none else some ((⟨((W6 ((L.tmod D)+Y)).tmod D),Y,O⟩:aJ),true)else some ((⟨(L.tmod D),Y,O⟩:aJ),true)else bif (E.order==1)then if D=0 then none else if D=0 then none else if C.aM=0 then none else if D=0 then none else if C.aM=0 then none else bif E.hash then if D=0 then none else some ((⟨((W6 ((I.tmod D)+u1)).tmod D),u1,(Z.tmod C.aM)⟩:aJ),true)else some ((⟨(I.tmod D),u1,(Z.tmod C.aM)⟩:aJ),true)else if C.aM=0 then none else if C.aM=0 then none else if C.rows=0 then none else if C.aM=0 then none else if C.rows=0 then none else bif E.hash then if D=0 then none else some ((⟨((W6 ((W6 (L.tdiv C.rows))+U)).tmod D),U,O⟩:aJ),true)else some ((⟨(W6 (L.tdiv C.rows)),U,O⟩:aJ),true)
def avE:=bD [(true,.fH),(true,.rI),(false,.int)] Ws (gA P9) 99 [W8,fe,q6,xJ,ags] func140
def Qa(C:aN)(D E:Int):ah (Bool):=(Cv C (⟨D,E,0⟩:aJ)).bind λI=>some I
def avF:=bD [(true,.fH),(false,.int),(false,.int)] cg (gA Qa) 12 [Xf] func227
def Xs(E:aN)(D:dG)(I L:Int):ah (Int):=(E2 E D).bind λO=>(Qa O I L).bind λT=>bif (!T)then some (-1)else (E0 E D I).bind λC=>bif Nat.ble C.1 C.2&&Nat.ble C.2 D.map.length then xI ((D.map.take C.2).drop C.1) L λU=>some U else none
def avG:=bD HP en (oY Xs) 23 [Xa,⟨121,.v W9,agl⟩,avF] func141
def vr(C:av)(E:Int):ah (aJ×Bool):=(E2 C.config.ax C.spare).bind λI=>(P9 I C.config.mapping E).bind λD=>bif (!D.2)then some ((⟨0,0,0⟩:aJ),false)else (Xs C.config.ax C.spare D.1.ay D.1.row).bind λL=>some ((⟨D.1.ay,L,D.1.bL⟩:aJ),true)
def ahl:=bD [(true,.de),(false,.int)] Ws (bV vr) 37 [Xa,avE,avG] func67
def xO(D:cD)(C:aJ)(I:Bool):ah (aF):=letI E:=some (⟨1,C.ay,C.row,0⟩:aF);(cC C.ay 0 (W6 ((D.aB.length:Int)-1))).bind λL=>bif (!L)then E else xI D.aB C.ay λO=>bif (!O.open_)then E else xI D.aB C.ay λT=>bif (T.row != C.row)then some (⟨4,C.ay,0,0⟩:aF)else bif I then some (⟨3,C.ay,0,C.bL⟩:aF)else some (⟨2,C.ay,0,C.bL⟩:aF)
def avH:=bD [(true,.iS),(true,.Addr),(false,.bool)] [(true,.Command,0)] (gA xO) 57 [fe] func68
def Qb(D:aN)(C:aF):ah (Int):=(n9 D).bind λE=>(xK C.kind).bind λI=>bif I then some (W6 ((W6 ((W6 (9*C.ay))+C.kind))-1))else some (W6 ((W6 ((W6 (9*E))+C.kind))-1))
def avI:=bD Wu en (bV Qb) 19 [q6,PW] func228
def Qc(T:aN)(L:dy)(C:fk):ah (dy):=letI U:=([C.at_]:aa Int);(Fe L).bind λD=>letI O:=((D.bf++U).length:Int);letI E:=W6 (O-4);letI Y:=((D.bf++U).take (O.toNat)).drop ((if E > 0 then E else 0).toNat);(let I:Bool -> ah (dy):=λj7=>bif j7 then some D else (Qb T C.cmd).bind λZ=>letI u4:=D.last.set Z.toNat C.at_;xL D.last Z λq5=>bif (C.cmd.kind==1)then bif bF (D.bf.length+U.length)then if 0 <= (if E > 0 then E else 0)/\(if E > 0 then E else 0) <= O/\O <= O then bif xZ Y then some (⟨u4,(xA Y)⟩:dy)else none else none else none else some (⟨u4,D.bf⟩:dy);(E7 T L).bind λy2=>bif (!y2)then (I true)else (Fi T C.cmd).bind λy3=>bif (!y3)then (I true)else (cC C.at_ 0 1000000).bind λy4=>bif (!y4)then (I true)else bif (C.cmd.kind==1)then bif (L.bf.length:Int) > 0 then xI L.bf (W6 ((L.bf.length:Int)-1)) λe6=>(I (decide (C.at_ <= e6)))else (I false)else (I false))
def avJ:=bD [(true,.fH),(true,.lU),(true,.Event)] [(true,.lU,2)] (gA Qc) 84 [fe,Xd,Xo,agZ,avI] func142
def Kv(L:aN)(E:cD)(C:aF):ah (cD×Bool):=(Fc E).bind λD=>letI I:=some ((⟨D.aB,0⟩:cD),true);(xN L E C).bind λO=>bif (!O)then some (D,false)else bif (C.kind==1)then xL D.aB C.ay λT=>some ((⟨(D.aB.set C.ay.toNat (⟨true,C.row⟩:eP)),D.aR⟩:cD),true)else bif (C.kind==4)then xL D.aB C.ay λU=>some ((⟨(D.aB.set C.ay.toNat (⟨false,0⟩:eP)),D.aR⟩:cD),true)else bif (C.kind==6)then some ((⟨D.aB,1⟩:cD),true)else bif (C.kind==8)then some ((⟨D.aB,2⟩:cD),true)else bif (C.kind==7)then bif (C.kind==7)then I else some (D,true)else bif (C.kind==9)then I else some (D,true)
def avK:=bD [(true,.fH),(true,.iS),(true,.Command)] [(true,.iS,2),(false,.bool,0)] (gA Kv) 48 [Xp,agY] func143
def Fk(L C:Int):ah ((aa Int)):=letI I:=W6 (L-1);letI D:=([(W6 (C+1))]:aa Int);letI E:=([(W6 (C-1))]:aa Int);(cC L 2 16).bind λO=>bif (!O)then some ([])else (cC C 0 I).bind λT=>bif (!T)then some ([])else bif C > 0 then bif xZ E then bif C<I then bif bF ((xA E).length+D.length)then some ((xA E)++D)else none else some (xA E)else none else bif C<I then bif xZ D then some (xA D)else none else some ([]:aa Int)
def ahm:=bD BU nG (bV Fk) 34 [fe] func232
def Kw(D:aN)(C:aJ):ah (Int):=(Cv D C).bind λE=>bif (!E)then some (-1)else some (W6 ((W6 ((W6 ((W6 (C.ay*D.rows))+C.row))*D.aM))+C.bL))
def ahn:=bD N8 en (bV Kw) 23 [Xf] func239
def Qd(I:aN)(C:nc)(D:dU)(L O:Int):ah (Bool):=letI E:=W6 ((W6 (L*I.rows))+O);xI D.br E λT=>bif T > C.br then some true else xI D.bh E λU=>some (U > C.bh)
def avL:=bD [(true,.fH),(true,.sQ),(true,.Array),(false,.int),(false,.int)] cg (NZ Qd) 36 [] func312
def aho:enters Tryz.prog 230/\pP Tryz.prog 230 (cj Tryz.prog f230 1 []):=HN (Ea 1 [] func230 trivial)
def Qe(I:ck)(L O:Int):ah (ck×Bool):=(Fg I).bind λC=>(let T:Bool -> ah (ck×Bool):=λj5=>bif j5 then some (C,false)else (Cu C.rows L).bind λY=>(let U:Int -> (aa Int) -> ah (ck×Bool):=λD B6=>(let Z:Int -> (aa Int) -> ah (ck×Bool):=λJK EN=>letI u2:=(⟨B6,EN,JK⟩:ck);(Am u2).bind λjH=>bif (!jH)then (Fg I).bind λtS=>some (tS,false)else (let k28:Bool -> ah (ck×Bool):=λCn=>some (u2,Cn);bif D >= 0 then xL EN D λXt=>letI u1:=k28 ((Xt.tmod O)==0);if O=0 then none else u1 else (k28 false));letI u0:=Z (W6 (C.c9+1)) C.counts;bif D >= 0 then xL C.counts D λxq=>xL C.counts D λEx=>(Z C.c9 (C.counts.set D.toNat (W6 (xq+1))))else u0);bif Y<0 then (Cu C.counts C.c9).bind λE=>bif E >= 0 then xL C.rows E λEs=>(U E (C.rows.set E.toNat L))else (U E C.rows)else (U Y C.rows));(Am I).bind λy2=>bif (!y2)then (T true)else (cC L 0 15).bind λy3=>bif (!y3)then (T true)else (cC O 2 1000).bind λy4=>(T (!y4)))
def avM:=bD [(true,.hD),(false,.int),(false,.int)] [(true,.hD,2),(false,.bool,0)] (gA Qe) 75 [fe,ag4,agL,agJ] func231
def Xu(C:aa aJ)(D:aJ):ah (Bool):=(E8 C D).bind λE=>some (decide (E >= 0))
def avN:=bD Wl cg (bV Xu) 9 [agN] func233
def avO:bU:=⟨[(2,.aO 20000 50),(3,tI),(4,tI),(5,.aO 5 0),(10,tI)],[(5,.aC ia)],lK⟩
def avP:aa (Nat×bU):=[(2,⟨[(2,.aO 20000 50),(3,tI),(4,tI),(5,.aO 5 0)],[(5,.aC ia)],lK⟩)]
abbrev ahp:=((af×Int×Int×af×Int×af)×(av×(Int×Int×Int×Int×af)×af))
def Cz(x:ahp):ah (ahp⊕(((af×Int×Int×af×af)×(av×(Int×Int×Int×Int×af)×af))⊕Empty)):=letI O:=(1:Int);letI T:=(0:Int);letI I:=x.1.2.2;letI E:=x.2.2.1;letI D:=x.2.1;bif I.2.2.1<E.2.2.2.1 then (Kw (⟨E.1,E.2.1,E.2.2.1,E.2.2.2.1⟩:aN) (⟨x.1.2.1,I.1,I.2.2.1⟩:aJ)).bind λC=>xL D.array.cells C λe5=>xM D.array.cells C λZ=>xC Z.symbols T (xM D.array.cells C λpX=>xM pX.symbols T λq5=>xM D.array.cells C λe15=>xC e15.symbols T (xM D.array.cells C λU=>xM U.symbols T λEx=>xM D.array.cells C λET=>letI L:=D.array.cells.set C.toNat (⟨(U.symbols.set T.toNat (bits .xor .i64 q5 5)),ET.jb⟩:bX);xM L C λWZ=>xC WZ.symbols O (xM L C λXt=>xM Xt.symbols O λWT=>xM L C λWX=>xC WX.symbols O (xM L C λY=>xM Y.symbols O λe35=>xM L C λXv=>xG (((),x.1.2.1,I.1,(),(W6 (I.2.2.1+1)),()),({D with array:=⟨(L.set C.toNat (⟨(Y.symbols.set O.toNat (bits .xor .i64 WT 10)),Xv.jb⟩:bX)),D.array.br,D.array.bh⟩},E,()))))))else az (((),x.1.2.1,I.1,(),()),(D,E,()))
def avQ:KY 101 (bw f229):=⟨0,lB 0 avO avP Cz,lp [ahn]⟩
def avR:bU:=⟨ady,[(1000000000175000,.sl .int 2)],lK⟩
def avS:aa (Nat×bU):=[(4,Ec)]
abbrev ahq:=((af×Int×af×Int×Int×af)×(av×(aa Int)×af))
def Ao(x:ahq):ah (ahq⊕(((af)×(av×af))⊕Empty)):=letI D:=x.1.2.2.2;letI C:=x.2.1;bif D.2.1<D.1 then xL x.2.2.1 D.2.1 λL=>letI E:=W6 (x.1.2.1+L);xL C.array.bh E λO=>letI I:=W6 (O+1);xL C.array.bh E λT=>xG (((),x.1.2.1,(),D.1,(W6 (D.2.1+1)),()),({C with array:=⟨C.array.cells,C.array.br,(C.array.bh.set E.toNat (if 100000<I then 100000 else I))⟩},x.2.2.1,()))else az ((),(C,()))
def avT:KY 101 (bw f229):=⟨2,lB 2 avR avS Ao,lp []⟩
def avU:bU:=⟨ady,[(1000000000175000,.sl .int 2)],lK⟩
def avV:aa (Nat×bU):=[(4,Ec)]
abbrev ahr:=((af×Int×af×Int×Int×af)×(av×(aa Int)×af))
def Xw(x:ahr):ah (ahr⊕(((af)×(av×af))⊕Empty)):=letI D:=x.1.2.2.2;letI C:=x.2.1;bif D.2.1<D.1 then xL x.2.2.1 D.2.1 λL=>letI E:=W6 (x.1.2.1+L);xL C.array.bh E λO=>letI I:=W6 (O+1);xL C.array.bh E λT=>xG (((),x.1.2.1,(),D.1,(W6 (D.2.1+1)),()),({C with array:=⟨C.array.cells,C.array.br,(C.array.bh.set E.toNat (if 100000<I then 100000 else I))⟩},x.2.2.1,()))else az ((),(C,()))
def avW:KY 101 (bw f229):=⟨2,lB 2 avU avV Xw,lp []⟩
def Kx(C:aN)(x1:nc)(D:av)(L O:Int):ah ((af)×(av×af)):=letI T:=W6 ((W6 (L*C.rows))+O);(Qd C x1 D.array L O).bind λy1=>bif y1 then bA Cz (((),L,O,(),0,()),(D,(C.bR,C.aB,C.rows,C.aM,()),())) λE=>letI Y:=W6 (E.1.2.1*E.2.2.1.2.2.1);letI I:=E.2.1;letI U:=W6 (Y+E.1.2.2.1);xL I.array.br U λe41=>xL I.array.bh U λe44=>(Fk E.2.2.1.2.2.1 E.1.2.2.1).bind λZ=>bA Ao (((),Y,(),(Z.length:Int),0,()),({I with array:=⟨I.array.cells,(I.array.br.set U.toNat (0:Int)),(I.array.bh.set U.toNat (0:Int))⟩},Z,())) λz55=>some ((),(z55.2.1,()))else xL D.array.br T λe58=>xL D.array.bh T λe61=>(Fk C.rows O).bind λvt=>bA Xw (((),(W6 (L*C.rows)),(),(vt.length:Int),0,()),({D with array:=⟨D.array.cells,(D.array.br.set T.toNat (0:Int)),(D.array.bh.set T.toNat (0:Int))⟩},vt,())) λz73=>some ((),(z73.2.1,()))
def ahs:=n6 adE [] (NZ Kx) 101 [ahm,avL] [avQ,avT,avW] func229
abbrev aht:=(((aa aJ)×aJ×Int×Int×af)×(af))
def Ky(x:aht):ah (aht⊕(((Int×af)×(af))⊕(((af)×(af))⊕Empty))):=letI C:=x.1.2;letI D:=C.2.2.1;bif D<C.2.1 then xI x.1.1 D λE=>bif ((E.ay==C.1.ay)&&((E.row==C.1.row)&&((E.bL==C.1.bL)&&true)))then az ((D,()),())else xG ((x.1.1,C.1,C.2.1,(W6 (D+1)),()),())else aT ((),())
def avX:KY 19 (bw f234):=⟨0,lB 0 ⟨[(0,.lf (.aI .Addr 0)),(1,.fc 230 .Addr),(7,tI),(8,tI)],[],[]⟩ [(1,zN),(2,fN)] Ky,lp [⟨230,.i _,aho⟩]⟩
def Qf(C:aa aJ)(D:aJ):ah (Int):=(iter Ky aS ((C,D,(C.length:Int),0,()),())).bind (Sum.elim (λE=>some E.1.1) (Sum.elim (λI=>some (-1)) (λz=>nomatch z)))
def avY:KX:=⟨234,.q (iI [(false,(.sl .Addr)),(false,(.AQ 230))] [(false,.int,0)] λx=>Qf x.1 x.2.1),kq 19 [] [avX] func234⟩
abbrev ahu:=((af×aJ×Int×Int×af)×((aa aJ)×af))
def Kz(x:ahu):ah (ahu⊕(((af×Int×af)×((aa aJ)×af))⊕Empty)):=letI D:=x.1.2.1;letI C:=x.1.2.2;bif C.2.1<(x.2.1.length:Int)then xL x.2.1 C.2.1 λE=>bif (!((E.ay==D.ay)&&((E.row==D.row)&&((E.bL==D.bL)&&true))))then xL x.2.1 C.1 λI=>xG (((),D,(W6 (C.1+1)),(W6 (C.2.1+1)),()),((x.2.1.set C.1.toNat E),()))else xG (((),D,C.1,(W6 (C.2.1+1)),()),(x.2.1,()))else az (((),C.1,()),(x.2.1,()))
def avZ:KY 42 (bw f146):=⟨0,lB 0 ⟨[(0,.lf (.own 98000)),(1,.fc 230 .Addr),(5,tI),(6,tI)],Wg,[]⟩ [(2,adz)] Kz,lp [⟨230,.i _,aho⟩]⟩
def Qg(D:aa aJ)(I:aJ):ah (((aa aJ))×((aa aJ)×af)):=(Qf D I).bind λE=>bif (E==(-1))then some (D,([],()))else (iter Kz aS (((),I,E,(W6 (E+1)),()),(D,()))).bind (Sum.elim (λC=>if 0 <= C.1.2.1/\C.1.2.1 <= (C.2.1.length:Int)/\(C.2.1.length:Int) <= (C.2.1.length:Int)then if C.1.2.1.toNat <= (C.2.1.length:Int).toNat/\(C.2.1.length:Int).toNat <= C.2.1.length then if 0 <= (0:Int)/\0 <= C.1.2.1/\C.1.2.1 <= ((splice C.2.1 C.1.2.1.toNat (List.replicate ((C.2.1.length:Int).toNat-C.1.2.1.toNat) (⟨0,0,0⟩:aJ))).length:Int)then some (((splice C.2.1 C.1.2.1.toNat (List.replicate ((C.2.1.length:Int).toNat-C.1.2.1.toNat) (⟨0,0,0⟩:aJ))).take C.1.2.1.toNat),([],()))else none else none else none) (λz=>nomatch z))
def av0:KX:=⟨146,.c ⟨[.s .Addr 1000000,.v false (.AQ 230)],[(false,(.sl .Addr),2)],λx=>Qg x.1 x.2.1⟩,kn 42 [avY] [avZ] func146⟩
def av1:bU:=⟨[(0,.aO 20000 0),(3,.aO 3 0),(80,.lf (.own 1000000000180000)),(81,tI),(82,tI)],[(3,.aC ia),(1000000000180000,.sl .int 2)],adr⟩
def av2:aa (Nat×bU):=[(2,⟨[],[],adr⟩)]
abbrev ahv:=((af×af×af×Int×Int×af)×(av×(Int×Int×Int×Int×af)×(aa Int)×af))
def Fl(x:ahv):ah (ahv⊕(((af)×(av×af))⊕Empty)):=letI D:=x.1.2.2.2;letI I:=((),(),(),D.1,(W6 (D.2.1+1)),());letI C:=x.2.1;bif D.2.1<D.1 then xL x.2.2.2.1 D.2.1 λL=>letI E:=(⟨x.2.2.1.2.1,L,0⟩:aJ);(Xu C.pending E).bind λO=>bif (!O)then bif bF (C.pending.length+([E]:aa aJ).length)then xG (I,({C with pending:=(C.pending++([E]:aa aJ))},x.2.2.1,x.2.2.2.1,()))else none else xG (I,(C,x.2.2.1,x.2.2.2.1,()))else az ((),(C,()))
def av3:KY 108 (bw f144):=⟨0,lB 0 av1 av2 Fl,lp [avN]⟩
def Qh(C:av)(D:aF):ah ((af)×(av×af)):=(Kx C.config.ax C.config.cA (⟨C.config,C.box,C.now,C.bk,C.ready,C.array,C.spare,C.aL,C.bH,C.guard,C.pending,C.queue,C.shares,C.drain,C.aR,C.bY,C.errors,C.trace,C.cr⟩:av) D.ay D.row).bind λT=>letI E:=T.2.1;(Qg E.pending (⟨D.ay,D.row,0⟩:aJ)).bind λU=>xL E.bH D.ay λY=>xL E.guard D.ay λZ=>xM E.bH D.ay λpX=>xM E.bH D.ay λq5=>(Qe (⟨pX.rows,q5.counts,Y.c9⟩:ck) D.row Z).bind λI=>letI L:={E with bH:=(E.bH.set D.ay.toNat I.1),pending:=U.1};xL E.bH D.ay λxq=>bif (!I.2)then some ((),(L,()))else (Fk C.config.ax.rows D.row).bind λO=>bA Fl (((),(),(),(O.length:Int),0,()),(L,(D.kind,D.ay,D.row,D.bL,()),O,())) λIQ=>some ((),(IQ.2.1,()))
def av4:=n6 [.p .de 4 0,.v true .Command] [] (bV Qh) 108 [av0,ahs,avM,ahm] [av3] func144
abbrev ahw:=((af×Int×Int×af)×(av×af))
def KA(x:ahw):ah (ahw⊕(((af)×(av×af))⊕Empty)):=bif x.1.2.2.1<x.2.1.config.ax.rows then (Kx x.2.1.config.ax x.2.1.config.cA x.2.1 x.1.2.1 x.1.2.2.1).bind λC=>xG (((),x.1.2.1,(W6 (x.1.2.2.1+1)),()),(C.2.1,()))else az ((),(x.2.1,()))
def av5:KY 31 (bw f145):=⟨0,lB 0 ⟨aq9,[],lK⟩ [(2,Ec)] KA,lp [ahs]⟩
def Qi(C:av)(D:Int):ah ((af)×(av×af)):=bA KA (((),D,0,()),(C,())) λE=>some ((),(E.2.1,()))
def ahx:=n6 HU [] (bV Qi) 31 [] [av5] func145
def ahy:enters Tryz.prog 147/\pP Tryz.prog 147 (cj Tryz.prog f147 1 []):=HN (Ea 1 [] func147 trivial)
def Qj(C:Int):ah (ck×Bool):=(cC C 1 16).bind λD=>bif (!D)then some ((⟨[],[],0⟩:ck),false)else (BS ([(-1)]:aa Int) C).bind λE=>if 0 <= C/\C <= C/\C<1073741824 then some ((⟨E,(List.replicate C.toNat (0:Int)),0⟩:ck),true)else none
def av6:=bD lM [(true,.hD,2),(false,.bool,0)] (bP Qj) 14 [fe,⟨313,.p adj,aq8⟩] func235
def KB(C:av)(D:Int):ah ((af)×(av×af)):=(Qj C.config.eD).bind λE=>xL C.bH D λI=>xL C.guard D λL=>some ((),({C with bH:=(C.bH.set D.toNat E.1),guard:=(C.guard.set D.toNat C.box.bz.dK)},()))
def ahz:=gV HU [] (bV KB) 31 [av6] func148
def Ql(E:dn)(D:Int):ah (dn×Bool):=(Ff E).bind λC=>letI I:=some (C,false);(Al E).bind λL=>bif (!L)then I else (cC D 0 (W6 ((E.aH.length:Int)-1))).bind λO=>bif (!O)then I else xI E.aH D λT=>bif (T==(-2))then I else xL C.aH D λU=>xL C.aH D λY=>some ((⟨(C.aH.set D.toNat (W6 (U-1))),C.wait,C.dL⟩:dn),true)
def av7:=bD [(true,.mA),(false,.int)] [(true,.mA,2),(false,.bool,0)] (bV Ql) 38 [fe,ag3,agH] func149
abbrev ahA:=((Int×Int×Int×Int×af)×(af))
def ahB(x:ahA):ah (ahA⊕(((Int×af)×(af))⊕Empty)):=letI E:=x.1.2.1;letI C:=x.1.2.2;letI L:=bits .xor .i64 C.1 x.1.1;letI I:=W6 (C.2.1+1);letI D:=W6 (x.1.1*2 ^ (min (1:Int).toNat IntKind.i64.bits));bif C.2.1<4 then if C.2.1<0 then none else bif ((bits .and .i64 (E.fdiv (2 ^ (min C.2.1.toNat IntKind.i64.bits))) 1)==1)then bif D > 15 then xG (((bits .xor .i64 D 19),E,L,I,()),())else xG ((D,E,L,I,()),())else bif D > 15 then xG (((bits .xor .i64 D 19),E,C.1,I,()),())else xG ((D,E,C.1,I,()),())else az ((C.1,()),())
def av8:KY 34 (bw f203):=⟨0,lB 0 Wc [(2,xg)] ahB,lp []⟩
def jI(C D:Int):ah (Int):=(Ct C).bind λE=>bif (!E)then some (-1)else (Ct D).bind λI=>bif (!I)then some (-1)else bA ahB ((C,D,0,0,()),()) λL=>some L.1.1
def KD:=cu BU en (bV jI) 34 [Xe] [av8] func203
abbrev ahC:=((Int×Int×Int×af)×(af))
def ahD(x:ahC):ah (ahC⊕(((Int×af)×(af))⊕Empty)):=bif x.1.2.1 > 0 then (jI x.1.2.2.1 x.1.1).bind λC=>xG ((x.1.1,(W6 (x.1.2.1-1)),C,()),())else az ((x.1.2.2.1,()),())
def av9:KY 22 (bw f288):=⟨0,lB 0 ⟨[(0,tI),(1,tI),(5,tI)],[],[]⟩ [(2,xg)] ahD,lp [KD]⟩
def KE(C D:Int):ah (Int):=(Ct C).bind λE=>bif (!E)then some (-1)else (cC D 0 1000).bind λI=>bif (!I)then some (-1)else bA ahD ((C,D,1,()),()) λL=>some L.1.1
def ahE:=cu BU en (bV KE) 22 [fe,Xe] [av9] func288
abbrev ahF:=(((aa Int)×af×Int×Int×Int×(aa Int)×Int×Int×af)×((aa Int)×af))
def CA(x:ahF):ah (ahF⊕((((aa Int)×af×Int×Int×af)×((aa Int)×af))⊕Empty)):=letI C:=x.1.2.2;letI D:=C.2.2;letI E:=D.2.2.2.1;bif E<D.2.2.1 then xI D.2.1 E λI=>xL x.2.1 C.1 λL=>(KE 2 (W6 (E*C.1))).bind λO=>(jI I O).bind λT=>xL x.2.1 C.1 λU=>xG ((x.1.1,(),C.1,C.2.1,D.1,D.2.1,D.2.2.1,(W6 (E+1)),()),((x.2.1.set C.1.toNat (bits .xor .i64 L T)),()))else az ((x.1.1,(),C.2.1,D.1,()),(x.2.1,()))
def awa:KY 38 (sj (bw f201) 0):=⟨2,lB 2 ⟨[(0,.lf (.aI .int 0)),(3,.lf (.own 10)),(4,tI),(12,tI),(13,tI),(16,.lf (.aI .int 0)),(17,tI),(18,tI)],[(10,.sl .int 2)],[]⟩ [(4,adt)] CA,lp [KD,ahE]⟩
abbrev ahG:=(((aa Int)×af×Int×Int×af)×((aa Int)×af))
def Fm(x:ahG):ah (ahG⊕(((af×af)×((aa Int)×af))⊕Empty)):=letI C:=x.1.2.2;bif C.2.1<C.1 then bA CA ((x.1.1,(),C.2.1,C.1,C.2.1,x.1.1,(x.1.1.length:Int),0,()),(x.2.1,())) λD=>xG ((D.1.1,(),D.1.2.2.1,(W6 (D.1.2.2.2.1+1)),()),(D.2.1,()))else az (((),()),(x.2.1,()))
def awb:KY 38 (bw f201):=⟨0,lB 0 adt [(2,⟨[(3,.lf (.own 10))],[(10,.sl .int 2)],[]⟩)] Fm,lq [] [awa]⟩
def Ap(D:aa Int):ah ((aa Int)):=letI C:=(3:Int);(vp D 11).bind λE=>bif (!E)then some ([])else if 0 <= C/\C <= 3/\C<1073741824 then bA Fm ((D,(),((List.replicate C.toNat (0:Int)).length:Int),0,()),((List.replicate C.toNat (0:Int)),())) λI=>some I.2.1 else none
def Xx:=cu n8 nG (bP Ap) 38 [Kb] [awb] func201
def Qm(D:aa Int):ah (Bool):=(Ap D).bind λC=>bif jP C then none else xL C (0:Int) λE=>bif (E==0)then xL C (1:Int) λI=>bif (I==0)then xL C (2:Int) λL=>some (L==0)else some false else some false
def awc:=bD n8 cg (bP Qm) 26 [Xx] func202
abbrev ahH:=((Int×Int×af)×(af))
def ahI(x:ahH):ah (ahH⊕(((Int×af)×(af))⊕(((af)×(af))⊕Empty))):=bif x.1.2.1 <= 15 then (jI x.1.1 x.1.2.1).bind λC=>bif (C==1)then az ((x.1.2.1,()),())else xG ((x.1.1,(W6 (x.1.2.1+1)),()),())else aT ((),())
def awd:KY 13 (bw f204):=⟨0,lB 0 adZ [(1,⟨[(2,tI)],[],[]⟩),(2,fN)] ahI,lp [KD]⟩
def CB(C:Int):ah (Int):=bM ahI ((C,1,()),()) (λD=>some D.1.1) λE=>some (-1)
def ahJ:=cu lM en (bP CB) 13 [] [awd] func204
abbrev ahK:=((Int×Int×af)×(af))
def ahL(x:ahK):ah (ahK⊕(((Int×af)×(af))⊕(((af)×(af))⊕Empty))):=bif x.1.2.1<15 then (KE 2 x.1.2.1).bind λC=>bif (C==x.1.1)then az ((x.1.2.1,()),())else xG ((x.1.1,(W6 (x.1.2.1+1)),()),())else aT ((),())
def awe:KY 13 (bw f205):=⟨0,lB 0 adZ [(1,⟨[(2,tI)],[],[]⟩),(2,fN)] ahL,lp [ahE]⟩
def Qn(C:Int):ah (Int):=bM ahL ((C,0,()),()) (λD=>some D.1.1) λE=>some (-1)
def awf:=cu lM en (bP Qn) 13 [] [awe] func205
def KF(I:aa Int):ah ((aa Int)×Int×Int):=letI C:=xA I;letI L:=some (C,2,(-1));(Ap I).bind λE=>bif jP E then none else bif xZ I then (Qm I).bind λT=>bif T then some (C,0,(-1))else xL E (0:Int) λU=>bif (U != 0)then xL E (1:Int) λY=>bif (Y != 0)then xL E (1:Int) λZ=>xL E (0:Int) λpY=>(CB pY).bind λjj=>(jI Z jj).bind λO=>(Qn O).bind λD=>bif D<11 then xL E (1:Int) λWQ=>xL E (2:Int) λWR=>(jI WQ O).bind λvn=>bif (vn==WR)then xC C D (if h26:D.toNat<C.length then (let vj:=C[D.toNat]'h26;xL E (0:Int) λzZ=>xC C D (if h32:D.toNat<C.length then (let e33:=C[D.toNat]'h32;some ((C.set D.toNat (bits .xor .i64 vj zZ)),1,D))else none))else none)else L else L else L else L else none
def ahM:=bD n8 [(false,(.sl .int),2),(false,.int,0),(false,.int,0)] (bP KF) 64 [Xx,awc,KD,ahJ,awf] func130
abbrev ahN:=((Int×(aa Int)×Int×Int×af)×(af))
def KG(x:ahN):ah (ahN⊕(((Int×af)×(af))⊕Empty)):=letI C:=x.1.2.2.2.1;bif C<x.1.2.2.1 then xI x.1.2.1 C λD=>if (W6 (4*C))<0 then none else xG (((bits .or .i64 x.1.1 (W6 (D*2 ^ (min (W6 (4*C)).toNat IntKind.i64.bits)))),x.1.2.1,x.1.2.2.1,(W6 (C+1)),()),())else az ((x.1.1,()),())
def awg:KY 25 (bw f206):=⟨0,lB 0 ⟨[(4,tI),(10,.lf (.aI .int 0)),(11,tI),(12,tI)],[],[]⟩ [(2,zN)] KG,lp []⟩
def Qo(C:aa Int):ah (Int×Bool):=(vp C 8).bind λD=>bif (!D)then some (0,false)else bA KG ((0,C,(C.length:Int),0,()),()) λE=>some (E.1.1,true)
def awh:=cu n8 [(false,.int,0),(false,.bool,0)] (bP Qo) 25 [Kb] [awg] func206
end Go.Proofs.YtglnbhiaknohlaaGreat
